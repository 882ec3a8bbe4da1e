import Derived.WalkKit
import Derived.LoopN
namespace Go.Kx
set_option linter.unusedVariables false
set_option linter.unusedSimpArgs false
open Go Go.RowKit
theorem RK{α β:Type}(x:α)(f:α->Option β):(some x).bind f=f x:=rfl
theorem RL{α:Type}(a b:α):cond false a b=b:=rfl
theorem RM{α:Type}(a b:α):cond true a b=a:=rfl
theorem RN:(!true)=false:=rfl
theorem RO(b:Bool):(true&&b)=b:=by cases b<;>rfl
theorem RP(a b:Bool):((a&&b)=true)=(a=true/\b=true):=by cases a<;>cases b<;>simp
abbrev Env:=Nat->Value
def im(e:Env)(d:Nat)(v:Value):Env:=fun i=>bif Nat.beq i d then v else e i
def ev(e:Env):Operand->Value
  | .tmp t=>e t
  | .const v=>v
  | .global g=>.pointer (some ⟨g,0,none⟩)
  | .func f=>.func (.func f) #[] #[]
structure Is (a:Act) (n:Nat) (e:Env):Prop where
  defers:a.defers=[]
  size:a.tmps.size=n
  get:∀i,a.tmps.getD i undef=e i
theorem Is.eval{a:Act}{n:Nat}{e:Env}(h:Is a n e):a.eval=ev e:=by
  funext x
  cases x with
  | tmp t=>exact h.get t
  | const v=>rfl
  | global g=>rfl
  | func f=>rfl
theorem Is.put{a:Act}{n:Nat}{e:Env}(h:Is a n e){d:Nat}(hd:d<n)(v:Value):Is (a.put (some d) v) n (im e d v):=by
  refine⟨h.defers,?_,fun i=>?_⟩
  · simp[Act.put,h.size]
  · have hs:=h.size;have hg:=h.get i;unfold im;simp only[Act.put,Array.getD_eq_getD_getElem?,Array.getElem?_setIfInBounds]at hg⊢
    by_cases hi:i=d
    · subst hi;simp[hs,hd]
    · have hb:Nat.beq i d=false:=by
        cases hb:Nat.beq i d
        · rfl
        · exact absurd (Nat.eq_of_beq_eq_true hb) hi
      rw[hb,if_neg (fun h=>hi h.symm)];exact hg
theorem Is.LV{a:Act}{n:Nat}{e:Env}(h:Is a n e)(v:Value):Is (a.put none v) n e:=h
abbrev iO:=Exit->Env->World->Prop
def calm:Exit->Prop
  | .panic _|.outgrown=>False
  | _=>True
def lift(n:Nat)(Q:iO):Exit->Act->World->Prop:=fun x a w=>calm x/\∃e,Is a n e/\Q x e w
def CW(P:Program)(n:Nat)(c:Code)(Q:iO)(e:Env)(w:World):Prop:=∀a,Is a n e->c.wp P (lift n Q) a w
def LW(P:Program)(n:Nat)(ops:Array Oper)(Q:iO)(rest:List Oper)(e:Env)(w:World):Prop:=∀a,Is a n e->wpList P ops (lift n Q) rest a w
def tY(next:Env->World->Prop)(Q:iO):iO
  | .normal,e,w=>next e w
  | x,e,w=>Q x e w
def FG(id:Nat)(Q:iO):iO
  | .exit id',e,w=>bif Nat.beq id' id then Q .normal e w else Q (.exit id') e w
  | x,e,w=>Q x e w
def dF(e:Env):List (Nat×Value)->Env
  | []=>e
  | (d,v)::l=>im (dF e l) d v
def En(e:Env):List (Nat×Value)->Prop
  | []=>True
  | (d,v)::l=>e d=v/\En e l
theorem Mw{e:Env}{d:Nat}{v:Value}(h:e d=v):e=im e d v:=by
  funext i
  unfold im;cases hb:Nat.beq i d
  · rfl
  · rw[Nat.eq_of_beq_eq_true hb,h];rfl
theorem En.out{e:Env}:∀{l:List (Nat×Value)},En e l->∃e',e=dF e' l
  | [],_=>⟨e,rfl⟩
  | (d,v)::l,⟨h1,h2⟩=>by
    obtain⟨e',he⟩:=En.out h2;exact⟨e',by show e=im (dF e' l) d v;rw[<- he];exact Mw h1⟩
section
variable {P:Program} {n:Nat} {Q Q':iO} {e:Env} {w:World} {ops:Array Oper} {rest:List Oper} {o:Oper}
theorem CW.mono{c:Code}(h:CW P n c Q e w)(hq:∀x e w,Q x e w->Q' x e w):CW P n c Q' e w :=
  fun a ha=>Code.wp_mono (fun _ _ _ ⟨c,e,he,q⟩=>⟨c,e,he,hq _ _ _ q⟩) (h a ha)
theorem CW.seq{x y:Code}(h:CW P n x (tY (CW P n y Q) Q) e w):CW P n (.seq x y) Q e w:=by
  intro a ha;refine wp_seq (Code.wp_mono ?_ (h a ha));rintro ex a' w' ⟨hc,e',he',hq⟩
  cases ex with
  | normal=>exact hq a' he'
  | _=>exact⟨hc,e',he',hq⟩
theorem CW.skip(h:Q .normal e w):CW P n .skip Q e w:=fun _ ha=>wp_skip ⟨trivial,e,ha,h⟩
theorem CW.exit{id:Nat}(h:Q (.exit id) e w):CW P n (.exit id) Q e w:=fun _ ha=>wp_exit ⟨trivial,e,ha,h⟩
theorem CW.ret(h:Q .ret e w):CW P n .ret Q e w:=fun _ ha=>wp_ret ⟨trivial,e,ha,h⟩
theorem CW.cond{c:Operand}{x y:Code}{t:Bool}(hc:ev e c=.bool t)(ht:t=true->CW P n x Q e w)(hf:t=false->CW P n y Q e w):CW P n (.cond c x y) Q e w:=by
  intro a ha;refine wp_cond_split (t:=t) (by rw[ha.eval];exact hc) (fun h=>ht h a ha) (fun h=>hf h a ha)
theorem CW.block{id:Nat}{c:Code}(h:CW P n c (FG id Q) e w):CW P n (.block id c) Q e w:=by
  intro a ha;refine wp_block (Code.wp_mono ?_ (h a ha));rintro ex a' w' ⟨hc,e',he',hq⟩
  cases ex with
  | exit id' =>
    by_cases hid:id'=id
    · subst hid;simp only[FG,Nat.beq_refl,cond_true]at hq;simp only[Exit.inBlock,if_true];exact⟨trivial,e',he',hq⟩
    · have hb:Nat.beq id' id=false:=by
        cases hb:Nat.beq id' id
        · rfl
        · exact absurd (Nat.eq_of_beq_eq_true hb) hid
      simp only[FG,hb,cond_false]at hq;simp only[Exit.inBlock,hid,if_false];exact⟨trivial,e',he',hq⟩
  | _=>exact⟨hc,e',he',hq⟩
theorem CW.region{id:Nat}{l:List Oper}(h:LW P n l.toArray Q l e w):CW P n (.region id l.toArray false) Q e w:=fun a ha=>wp_region_lit (h a ha)
theorem LW.nil(h:Q .normal e w):LW P n ops Q [] e w:=fun _ ha=>wpList_nil ⟨trivial,e,ha,h⟩
theorem LW.run{op:Op}{ty:TypeId}{pos:String}{aft:Array Edge}{d:Nat}{v:Value}{w':World}
    (hr:(execOp (ev e) ⟨some d,op,ty,pos,aft,none⟩).run P w=.ok (.value v) w') (hd:Nat.ble (d+1) n=true) (h:LW P n ops Q rest (im e d v) w') :
    LW P n ops Q (⟨some d,op,ty,pos,aft,none⟩::rest) e w:=by
  intro a ha;refine wpList_plain rfl fun K hK=>?_;unfold Oper.wp;rw[ha.eval,hr];exact hK _ _ (h _ (ha.put (Nat.le_of_ble_eq_true hd) v))
theorem LW.B2{op:Op}{ty:TypeId}{pos:String}{aft:Array Edge}{w':World}
    (hr:(execOp (ev e) ⟨none,op,ty,pos,aft,none⟩).run P w=.ok .skip w') (h:LW P n ops Q rest e w') :
    LW P n ops Q (⟨none,op,ty,pos,aft,none⟩::rest) e w:=by
  intro a ha;refine wpList_plain rfl fun K hK=>?_;unfold Oper.wp;rw[ha.eval,hr];exact hK _ _ (h _ (ha.LV _))
def nA(ops:Array Oper)(g:Option (Nat×Bool))(e:Env):Bool :=
  match g with
  | none=>true
  | some (j,b) =>
    match(ops[j]?).bind (·.dst)with
    | some d=>match e d with
      | .bool t=>t==b
      | _=>false
    | none=>false
theorem wD{o:Oper}{a:Act}(ha:Is a n e):Region.wanted o (yielded ops a.tmps)=nA ops o.guard e:=by
  unfold Region.wanted nA
  cases o.guard with
  | none=>rfl
  | some g =>
    obtain⟨j,b⟩:=g;simp only[yielded]
    cases hd:(ops[j]?).bind (·.dst)with
    | none=>rfl
    | some d =>
      have hg:=ha.get d;simp only[Option.bind_some];rw[Array.getD_eq_getD_getElem?]at hg
      cases ht:a.tmps[d]? with
      | none=>rw[ht]at hg;simp at hg;rw[<- hg];rfl
      | some v =>
        rw[ht]at hg;simp at hg;rw[hg];cases e d<;>rfl
theorem jd{j d:Nat}{b t:Bool}(hd:(ops[j]?).bind (·.dst)=some d)(hv:e d=.bool t)(ht:t=b):nA ops (some (j,b)) e=true:=by
  subst ht;simp[nA,hd,hv]
theorem E8{j d:Nat}{b t:Bool}(hd:(ops[j]?).bind (·.dst)=some d)(hv:e d=.bool t)(ht:t=!b):nA ops (some (j,b)) e=false:=by
  subst ht;cases b<;>simp[nA,hd,hv]
theorem AZ{j d:Nat}{b:Bool}(hd:(ops[j]?).bind (·.dst)=some d)(hv:e d=undef):nA ops (some (j,b)) e=false:=by
  simp[nA,hd,hv,undef]
theorem LW.gY{d:Option Tmp}{op:Op}{ty:TypeId}{pos:String}{aft:Array Edge}{g:Option (Nat×Bool)}(hw:nA ops g e=true)
    (h:LW P n ops Q (⟨d,op,ty,pos,aft,none⟩::rest) e w):LW P n ops Q (⟨d,op,ty,pos,aft,g⟩::rest) e w:=by
  intro a ha;have h1:=h a ha;unfold wpList at h1⊢;rw[wD ha]at h1⊢;rw[if_pos hw];exact h1
theorem LW.gN{d:Nat}{op:Op}{ty:TypeId}{pos:String}{aft:Array Edge}{g:Option (Nat×Bool)}(hw:nA ops g e=false)(hd:Nat.ble (d+1) n=true)
    (h:LW P n ops Q rest (im e d undef) w):LW P n ops Q (⟨some d,op,ty,pos,aft,g⟩::rest) e w:=by
  intro a ha;unfold wpList;rw[wD ha,hw];exact h _ (ha.put (Nat.le_of_ble_eq_true hd) undef)
def N4(K:Value->World->Prop):Ending->World->Prop
  | .returned v,w=>K v w
  | _,_=>False
def di(P:Program)(f:FuncId)(args:Array Value)(w:World)(K:Value->World->Prop):Prop:=Calls P f args w (N4 K)
theorem di.mono{f:FuncId}{args:Array Value}{K K':Value->World->Prop}(h:di P f args w K)(hk:∀v w',K v w'->K' v w'):di P f args w K' :=
  Calls.mono h fun e w' hh=>by cases e<;>first|exact hk _ _ hh|exact hh.elim
def tO(P:Program)(f:FuncId):Bool :=
  match P.funcs[f]? with
  | some fn=>!(fn.name=="runtime.NumGoroutine")&&fn.body.isSome
  | none=>false
theorem EY{f:FuncId}(hp:tO P f=true)(args:Array Value):(callFunc f args).run P w=.ok (.enter f args) w:=by
  unfold tO at hp
  cases hf:P.funcs[f]? with
  | none=>simp[hf]at hp
  | some fn =>
    simp only[hf,Bool.and_eq_true,Bool.not_eq_true']at hp;obtain⟨h1,h2⟩:=hp;obtain⟨c,hc⟩:=Option.isSome_iff_exists.1 h2
    have h4:¬ fn.name="runtime.NumGoroutine":=by simpa using h1
    simp[callFunc,hf,h4,hc]
theorem LW.call{f:FuncId}{as:Array Operand}{ts:Array TypeId}{ty:TypeId}{pos:String}{aft:Array Edge}{d:Nat}{al:List Value}
    (hp:tO P f=true) (hd:Nat.ble (d+1) n=true) (hargs:as.toList.map (ev e)=al)
    (h:di P f al.toArray w fun v w'=>LW P n ops Q rest (im e d v) w') :
    LW P n ops Q (⟨some d,.call { callee:=.value (.func f),args:=as,argTypes:=ts },ty,pos,aft,none⟩::rest) e w:=by
  intro a ha;refine wpList_plain rfl fun K hK=>?_;unfold Oper.wp;rw[ha.eval]
  have hr:(execOp (ev e) ⟨some d,.call { callee:=.value (.func f),args:=as,argTypes:=ts },ty,pos,aft,none⟩).run P w=.ok (.enter f al.toArray) w:=by
    have hm:as.map (ev e)=al.toArray:=by rw[<- hargs];simp[<- Array.toList_map]
    simp[execOp,resolve,invoke,Deferred.ofValue,ev,EY hp,hm]
  rw[hr,Oper.upon_enter];refine Calls.mono h fun en w' hh=>?_
  cases en with
  | returned v=>exact hK _ _ (hh _ (ha.put (Nat.le_of_ble_eq_true hd) v))
  | panicked c=>exact hh.elim
  | outgrown=>exact hh.elim
end
structure Item where
  p:World->List Nat->Prop
  frame:∀w w' F,p w F->(∀b,b∈F->w'.heap[b]?=w.heap[b]?)->p w' F
def eH:List Item->World->List Nat->Prop
  | [],_,F=>F=[]
  | i::L,w,F=>∃F1 F2,F=F1++F2/\i.p w F1/\eH L w F2
theorem eH.frame{L:List Item}{w w':World}:∀{F:List Nat},eH L w F->(∀b,b∈F->w'.heap[b]?=w.heap[b]?)->eH L w' F:=by
  induction L with
  | nil=>exact fun h _=>h
  | cons i L ih =>
    rintro F ⟨F1,F2,rfl,h1,h2⟩ hb;exact⟨F1,F2,rfl,i.frame _ _ _ h1 (fun b h=>hb b (List.mem_append_left _ h)),ih h2 (fun b h=>hb b (List.mem_append_right _ h))⟩
theorem eH.append{L M:List Item}{w:World}:∀{F:List Nat},eH (L++M) w F <-> ∃F1 F2,F=F1++F2/\eH L w F1/\eH M w F2:=by
  induction L with
  | nil=>exact fun{F}=>⟨fun h=>⟨[],F,rfl,rfl,h⟩,fun⟨F1,F2,e,h1,h2⟩=>by cases h1;subst e;exact h2⟩
  | cons i L ih =>
    intro F;constructor
    · rintro⟨F1,F2,rfl,h1,h2⟩;obtain⟨F3,F4,rfl,h3,h4⟩:=ih.1 h2;exact⟨F1++F3,F4,by simp,⟨F1,F3,rfl,h1,h3⟩,h4⟩
    · rintro⟨F1,F2,rfl,⟨F3,F4,rfl,h3,h4⟩,h2⟩;exact⟨F3,F4++F2,by simp,h3,ih.2 ⟨F4,F2,rfl,h4,h2⟩⟩
theorem eH.at_:∀{M:List Item} {w:World} {F:List Nat} (i:Nat) {it:Item},eH M w F->M[i]?=some it->∃Fi,it.p w Fi/\∀b,b∈Fi->b∈F
  | [],_,_,i,_,_,hi=>by simp at hi
  | y::M,w,F,i,it,⟨G1,G2,hF,g1,g2⟩,hi=>by
    subst hF
    cases i with
    | zero=>simp at hi;subst hi;exact⟨G1,g1,fun b hh=>List.mem_append_left _ hh⟩
    | succ i =>
      obtain⟨Fi,h1,h2⟩:=eH.at_ i g2 (by simpa using hi);exact⟨Fi,h1,fun b hh=>List.mem_append_right _ (h2 b hh)⟩
structure St (w0:World) (F0:List Nat) (w:World) (L:List Item):Prop where
  os:w.os=w0.os
  tape:w.tape=w0.tape
  output:w.output=w0.output
  size:w0.heap.size<=w.heap.size
  same:∀b,b<w0.heap.size->b∉F0->w.heap[b]?=w0.heap[b]?
  own:∃F,eH L w F/\F.Nodup/\∀b,b∈F->(b∈F0\/w0.heap.size<=b)/\b<w.heap.size
theorem St.init{w:World}{L:List Item}{F:List Nat}(h:eH L w F)(hn:F.Nodup)(hl:∀b,b∈F->b<w.heap.size):St w F w L :=
  ⟨rfl,rfl,rfl,Nat.le_refl _,fun _ _ _=>rfl,F,h,hn,fun b hb=>⟨.inl hb,hl b hb⟩⟩
theorem St.start(w:World):St w [] w []:=St.init (show eH [] w [] from rfl) List.nodup_nil (by simp)
theorem St.below{w0 w:World}{L:List Item}(h:St w0 [] w L):Below w0.heap.size w0 w :=
  ⟨h.os,h.tape,h.output,h.size,fun b hb=>h.same b hb (by simp)⟩
theorem St.drew{w0 w:World}{F0:List Nat}{L:List Item}(h:St w0 F0 w L):St w0 F0 w.drew L :=
  ⟨h.os,h.tape,h.output,h.size,h.same,by
    obtain⟨F,hF,hn,hb⟩:=h.own
    exact⟨F,hF.frame (fun _ _=>rfl),hn,hb⟩⟩
theorem eH.perm{L M:List Item}(h:L.Perm M){w:World}:∀{F:List Nat},eH L w F->∃F',eH M w F'/\F'.Perm F:=by
  induction h with
  | nil =>
    intro F h;cases(show F=[] from h);exact⟨[],rfl,.nil⟩
  | cons x _ ih =>
    rintro F ⟨F1,F2,rfl,h1,h2⟩;obtain⟨F3,h3,hp⟩:=ih h2;exact⟨F1++F3,⟨F1,F3,rfl,h1,h3⟩,hp.append_left F1⟩
  | swap x y l =>
    rintro F ⟨F1,F2,rfl,h1,F3,F4,rfl,h3,h4⟩;refine⟨F3++(F1++F4),⟨F3,_,rfl,h3,F1,F4,rfl,h1,h4⟩,?_⟩;rw[<- List.append_assoc, <- List.append_assoc];exact List.Perm.append_right _ List.perm_append_comm
  | trans _ _ ih1 ih2 =>
    intro F hF;obtain⟨F1,h1,p1⟩:=ih1 hF;obtain⟨F2,h2,p2⟩:=ih2 h1;exact⟨F2,h2,p2.trans p1⟩
theorem St.perm{w0 w:World}{F0:List Nat}{L M:List Item}(h:St w0 F0 w L)(hp:L.Perm M):St w0 F0 w M:=by
  obtain⟨F,hF,hn,hb⟩:=h.own;obtain⟨F',hF',hpF⟩:=hF.perm hp;exact⟨h.os,h.tape,h.output,h.size,h.same,F',hF',hpF.nodup_iff.2 hn,fun b hh=>hb b (hpF.mem_iff.1 hh)⟩
theorem u6{α:Type}:∀(L:List α) (i:Nat) (x:α),L[i]?=some x->L.Perm (x::L.eraseIdx i)
  | [],_,_,h=>by simp at h
  | a::L,0,x,h=>by simp at h;subst h;exact .refl _
  | a::L,i+1,x,h=>by
    have:=u6 L i x (by simpa using h);simp only[List.eraseIdx_cons_succ];exact(this.cons a).trans (.swap _ _ _)
theorem St.front{w0 w:World}{F0:List Nat}{L:List Item}(h:St w0 F0 w L)(i:Nat){x:Item}(hx:L[i]?=some x):St w0 F0 w (x::L.eraseIdx i) :=
  h.perm (u6 L i x hx)
theorem St.P3{w0 w:World}{F0:List Nat}{x:Item}{L:List Item}(h:St w0 F0 w (x::L)):St w0 F0 w L:=by
  obtain⟨F,⟨F1,F2,rfl,_,h2⟩,hn,hb⟩:=h.own;exact⟨h.os,h.tape,h.output,h.size,h.same,F2,h2,(List.nodup_append.1 hn).2.1,fun b hh=>hb b (List.mem_append_right _ hh)⟩
theorem St.drop{w0 w:World}{F0:List Nat}{L:List Item}(h:St w0 F0 w L)(i:Nat)(hi:i<L.length):St w0 F0 w (L.eraseIdx i) :=
  (h.front i (List.getElem?_eq_getElem hi)).P3
def eJ(w:World)(F:List Nat):Nat->Prop:=fun b=>b<w.heap.size/\b∉F
theorem St.share{w0 w:World}{F0:List Nat}{L M:List Item}(h:St w0 F0 w (L++M)):
    ∃F,eH L w F/\F.Nodup/\(∀b,b∈F->b<w.heap.size) /\
      (∀b,eJ w0 F0 b->eJ w F b) /\
      (∀(i:Nat) (it:Item),M[i]?=some it->∃Fi,it.p w Fi/\∀b,b∈Fi->eJ w F b) /\
      ∀w' L',St w F w' L'->St w0 F0 w' (L'++M):=by
  obtain⟨F,hF,hn,hb⟩:=h.own;obtain⟨F1,F2,rfl,h1,h2⟩:=eH.append.1 hF;obtain⟨n1,n2,nd⟩:=List.nodup_append.1 hn;refine⟨F1,h1,n1,fun b hh=>(hb b (List.mem_append_left _ hh)).2,?_,?_,?_⟩
  · rintro b ⟨hlt,hno⟩;refine⟨Nat.lt_of_lt_of_le hlt h.size,fun hm=>?_⟩
    rcases(hb b (List.mem_append_left _ hm)).1 with h1|h1
    · exact hno h1
    · omega
  · intro i it hi;obtain⟨Fi,q1,q2⟩:=h2.at_ i hi;exact⟨Fi,q1,fun b hh=>⟨(hb b (List.mem_append_right _ (q2 b hh))).2,fun hm=>nd b hm b (q2 b hh) rfl⟩⟩
  · intro w' L' k;obtain⟨F',hF',hn',hb'⟩:=k.own
    have hk2:∀b,b∈F2->w'.heap[b]?=w.heap[b]?:=fun b hh =>
      k.same b (hb b (List.mem_append_right _ hh)).2 (fun hm=>nd b hm b hh rfl)
    refine⟨k.os.trans h.os,k.tape.trans h.tape,k.output.trans h.output,Nat.le_trans h.size k.size,?_,F'++F2,eH.append.2 ⟨F',F2,rfl,hF',h2.frame hk2⟩,?_,?_⟩
    · intro b hlt hno;rw[k.same b (Nat.lt_of_lt_of_le hlt h.size) (fun hm=>?_),h.same b hlt hno]
      rcases(hb b (List.mem_append_left _ hm)).1 with h1|h1
      · exact hno h1
      · omega
    · refine List.nodup_append.2 ⟨hn',n2,?_⟩;intro a ha b hb2 e;subst e;have:=(hb a (List.mem_append_right _ hb2)).2
      rcases(hb' a ha).1 with h1|h1
      · exact nd a h1 a hb2 rfl
      · omega
    · intro b hh
      rcases List.mem_append.1 hh with hh|hh
      · have hs:=h.size;refine⟨?_,(hb' b hh).2⟩
        rcases(hb' b hh).1 with h1|h1
        · exact(hb b (List.mem_append_left _ h1)).1
        · exact .inr (by omega)
      · exact⟨(hb b (List.mem_append_right _ hh)).1,Nat.lt_of_lt_of_le (hb b (List.mem_append_right _ hh)).2 k.size⟩
theorem St.head{w0 w w':World}{F0:List Nat}{x:Item}{L M:List Item}(h:St w0 F0 w (x::L))
    (hx:∀F,x.p w F->F.Nodup->(∀b,b∈F->b<w.heap.size)->St w F w' M):St w0 F0 w' (M++L):=by
  obtain⟨F,hF,hn,hlt,_,_,hm⟩:=St.share (L:=[x]) (M:=L) h;obtain⟨F1,F2,rfl,h1,h2⟩:=hF;cases h2;rw[List.append_nil]at hn hlt hm;exact hm w' M (hx F1 h1 hn hlt)
theorem St.add{w0 w w':World}{F0:List Nat}{L M:List Item}(h:St w0 F0 w L)(hx:St w [] w' M):St w0 F0 w' (M++L):=by
  obtain⟨F,hF,hn,hlt,_,_,hm⟩:=St.share (L:=[]) (M:=L) h;cases hF;exact hm w' M hx
class dp (α:Type) where
  ty:TypeId
  sz:Nat
  zero:α
  zc:List Value
  pos:0<sz
  rd:(Nat->Prop)->World->List Value->α->Prop
  own:World->List Value->List Nat->α->Prop
  iG:∀{S w cs x},rd S w cs x->cs.length=sz
  eQ:∀{w cs F x},own w cs F x->cs.length=sz
  gW:∀{S w w' cs x},rd S w cs x->(∀b,S b->w'.heap[b]?=w.heap[b]?)->rd S w' cs x
  gV:∀{S S' w cs x},rd S w cs x->(∀b,S b->S' b)->rd S' w cs x
  fN:∀{w w' cs F x},own w cs F x->(∀b,b∈F->w'.heap[b]?=w.heap[b]?)->own w' cs F x
  iQ:∀{S w cs F x},own w cs F x->(∀b,b∈F->S b)->rd S w cs x
  gG:∀{w cs F x},own w cs F x->∀u,u∈cs->u.oneCell'=true
  fh:∀w,own w zc [] zero
section
variable {α:Type} [dp α]
structure dX (S:Nat->Prop) (w:World) (a:Option Addr) (c:Nat) (l:List α):Prop where
  le:l.length<=c
  cap:c<=maxLen
  cells:l ≠ []->∃b o,a=some ⟨b,o,none⟩/\S b/\∀(k:Nat) (x:α),l[k]?=some x->∃cs,dp.rd S w cs x/\∀(j:Nat) (u:Value),cs[j]?=some u->w.cell? ⟨b,o+k*dp.sz α+j,none⟩=some u
theorem dX.iS{S:Nat->Prop}{w w':World}{a:Option Addr}{c:Nat}{l:List α}(h:dX S w a c l)(hk:∀b,S b->w'.heap[b]?=w.heap[b]?):dX S w' a c l:=by
  refine⟨h.le,h.cap,fun hne=>?_⟩;obtain⟨b,o,ha,hb,hc⟩:=h.cells hne;refine⟨b,o,ha,hb,fun k x hx=>?_⟩;obtain⟨cs,h1,h2⟩:=hc k x hx;exact⟨cs,dp.gW h1 hk,fun j u hu=>(World.cell?_of_block (w:=w) (hk b hb)).trans (h2 j u hu)⟩
theorem dX.mono{S S':Nat->Prop}{w:World}{a:Option Addr}{c:Nat}{l:List α}(h:dX S w a c l)(hk:∀b,S b->S' b):dX S' w a c l:=by
  refine⟨h.le,h.cap,fun hne=>?_⟩;obtain⟨b,o,ha,hb,hc⟩:=h.cells hne;refine⟨b,o,ha,hk b hb,fun k x hx=>?_⟩;obtain⟨cs,h1,h2⟩:=hc k x hx;exact⟨cs,dp.gV h1 hk,h2⟩
theorem dX.nil(S:Nat->Prop)(w:World)(a:Option Addr)(c:Nat)(hc:c<=maxLen):dX S w a c ([]:List α):=⟨Nat.zero_le _,hc,fun h=>absurd rfl h⟩
def fQ(w:World):List Value->List Nat->List α->Prop
  | _,F,[]=>F=[]
  | cs,F,x::l=>∃c1 c2 F1 F2,cs=c1++c2/\F=F1++F2/\dp.own w c1 F1 x/\fQ w c2 F2 l
theorem fQ.frame{w w':World}:∀{l:List α} {cs:List Value} {F:List Nat},fQ w cs F l->(∀b,b∈F->w'.heap[b]?=w.heap[b]?)->fQ w' cs F l
  | [],_,_,h,_=>h
  | x::l,_,_,⟨c1,c2,F1,F2,hc,hF,h1,h2⟩,hb=>by
    subst hF;exact⟨c1,c2,F1,F2,hc,rfl,dp.fN h1 (fun b h=>hb b (List.mem_append_left _ h)),fQ.frame h2 (fun b h=>hb b (List.mem_append_right _ h))⟩
theorem fQ.at_{w:World}:∀{l:List α} {cs:List Value} {F:List Nat},fQ w cs F l->∀(k:Nat) (x:α),l[k]?=some x ->
    ∃c1 Fk,dp.own w c1 Fk x/\(∀b,b∈Fk->b∈F)/\∀(j:Nat) (u:Value),c1[j]?=some u->cs[k*dp.sz α+j]?=some u
  | [],_,_,_,k,x,hk=>by simp at hk
  | y::l,cs,F,⟨c1,c2,F1,F2,hc,hF,h1,h2⟩,k,x,hk=>by
    subst hF;subst hc;have hl:=dp.eQ h1
    cases k with
    | zero =>
      simp at hk;subst hk;refine⟨c1,F1,h1,fun b hb=>List.mem_append_left _ hb,fun j u hu=>?_⟩
      have hj:j<c1.length:=by
        rcases Nat.lt_or_ge j c1.length with h|h
        · exact h
        · rw[List.getElem?_eq_none h]at hu;cases hu
      simpa[List.getElem?_append_left hj]using hu
    | succ k =>
      obtain⟨cx,Fk,q1,q2,q3⟩:=fQ.at_ h2 k x (by simpa using hk);refine⟨cx,Fk,q1,fun b hb=>List.mem_append_right _ (q2 b hb),fun j u hu=>?_⟩;have:=q3 j u hu;rw[List.getElem?_append_right (by rw[hl,Nat.succ_mul];omega),hl];rw[show(k+1)*dp.sz α+j-dp.sz α=k*dp.sz α+j by rw[Nat.succ_mul];omega];exact this
theorem fQ.append{w:World}:∀{l m:List α} {cs:List Value} {F:List Nat},fQ w cs F (l++m) <-> ∃c1 c2 F1 F2,cs=c1++c2/\F=F1++F2/\c1.length=l.length*dp.sz α/\fQ w c1 F1 l/\fQ w c2 F2 m
  | [],m,cs,F=>⟨fun h=>⟨[],cs,[],F,rfl,rfl,by simp,rfl,h⟩,fun⟨c1,c2,F1,F2,hc,hF,hl,h1,h2⟩=>by
      have:c1=[]:=List.eq_nil_of_length_eq_zero (by simpa using hl)
      subst this;cases(show F1=[] from h1);subst hc;subst hF;exact h2⟩
  | x::l,m,cs,F=>by
    constructor
    · rintro⟨c1,c2,F1,F2,rfl,rfl,h1,h2⟩;obtain⟨d1,d2,G1,G2,rfl,rfl,hl,g1,g2⟩:=fQ.append.1 h2;exact⟨c1++d1,d2,F1++G1,G2,by simp,by simp,by simp[dp.eQ h1,hl,Nat.succ_mul,Nat.add_comm],⟨c1,d1,F1,G1,rfl,rfl,h1,g1⟩,g2⟩
    · rintro⟨c1,c2,F1,F2,rfl,rfl,hl,⟨d1,d2,G1,G2,rfl,rfl,h1,h2⟩,h3⟩;refine⟨d1,d2++c2,G1,G2++F2,by simp,by simp,h1,fQ.append.2 ⟨d2,c2,G2,F2,rfl,rfl,?_,h2,h3⟩⟩;have:=dp.eQ h1;simp[Nat.succ_mul]at hl;omega
theorem fQ.take{w:World}:∀{l:List α} {cs:List Value} {F:List Nat},fQ w cs F l->fQ w (cs.take (l.length*dp.sz α)) F l/\l.length*dp.sz α<=cs.length
  | [],cs,F,h=>⟨h,by simp⟩
  | x::l,cs,F,⟨c1,c2,F1,F2,hc,hF,h1,h2⟩=>by
    subst hc;have hl:=dp.eQ h1;obtain⟨q1,q2⟩:=fQ.take h2
    have e:(x::l).length*dp.sz α=c1.length+l.length*dp.sz α:=by simp[Nat.succ_mul,hl,Nat.add_comm]
    refine⟨⟨c1,c2.take (l.length*dp.sz α),F1,F2,?_,hF,h1,q1⟩,by rw[e,List.length_append];omega⟩;rw[e,List.take_length_add_append]
theorem fQ.more{w:World}:∀{l:List α} {cs:List Value} {F:List Nat},fQ w cs F l->∀ds,fQ w (cs++ds) F l
  | [],_,_,h,_=>h
  | x::l,_,_,⟨c1,c2,F1,F2,hc,hF,h1,h2⟩,ds=>⟨c1,c2++ds,F1,F2,by simp[hc],hF,h1,fQ.more h2 ds⟩
theorem fQ.one{w:World}:∀{l:List α} {cs:List Value} {F:List Nat},fQ w cs F l->∀u,u∈cs.take (l.length*dp.sz α)->u.oneCell'=true
  | [],_,_,_,u,hu=>by simp at hu
  | x::l,cs,F,⟨c1,c2,F1,F2,hc,hF,h1,h2⟩,u,hu=>by
    subst hc
    have e:(x::l).length*dp.sz α=c1.length+l.length*dp.sz α:=by simp[Nat.succ_mul,dp.eQ h1,Nat.add_comm]
    rw[e,List.take_length_add_append]at hu
    rcases List.mem_append.1 hu with h|h
    · exact dp.gG h1 u h
    · exact fQ.one h2 u h
theorem fQ.IQ{w:World}:∀(k:Nat),fQ w (List.replicate k (dp.zc α)).flatten [] (List.replicate k (dp.zero:α))
  | 0=>rfl
  | k+1=>⟨dp.zc α,_,[],[],by simp[List.replicate_succ],rfl,dp.fh w,fQ.IQ k⟩
theorem fQ.set{w:World}:∀{l:List α} {cs:List Value} {F:List Nat} (k:Nat) {x:α},fQ w cs F l->l[k]?=some x ->
    ∃c0 c1 c2 F0 F1 F2,cs=c0++(c1++c2)/\F=F0++(F1++F2)/\c0.length=k*dp.sz α/\dp.own w c1 F1 x /\
      ∀(w':World) (d1:List Value) (G1:List Nat) (y:α),dp.own w' d1 G1 y->(∀b,b∈F0++F2->w'.heap[b]?=w.heap[b]?)->fQ w' (c0++(d1++c2)) (F0++(G1++F2)) (l.set k y)
  | [],_,_,k,_,_,hk=>by simp at hk
  | z::l,cs,F,0,x,⟨c1,c2,F1,F2,hc,hF,h1,h2⟩,hk=>by
    simp at hk;subst hk;exact⟨[],c1,c2,[],F1,F2,hc,hF,by simp,h1,fun w' d1 G1 y hy hb=>⟨d1,c2,G1,F2,rfl,rfl,hy,h2.frame (fun b h=>hb b (by simpa using h))⟩⟩
  | z::l,cs,F,k+1,x,⟨c1,c2,F1,F2,hc,hF,h1,h2⟩,hk=>by
    subst hc;subst hF;obtain⟨e0,e1,e2,G0,G1,G2,rfl,rfl,hl,q1,q2⟩:=fQ.set k h2 (by simpa using hk);refine⟨c1++e0,e1,e2,F1++G0,G1,G2,by simp,by simp,by simp[hl,Nat.succ_mul,dp.eQ h1,Nat.add_comm],q1,fun w' d1 H1 y hy hb=>?_⟩
    exact⟨c1,_,F1,_,by simp,by simp,dp.fN h1 (fun b h=>hb b (by simp[h])),q2 w' d1 H1 y hy (fun b h=>hb b (by
      rcases List.mem_append.1 h with h|h<;>simp[h]))⟩
def jA(w:World)(a:Option Addr)(c:Nat)(F:List Nat)(l:List α):Prop :=
  (a=none/\c=0/\l=[]/\F=[]) \/
  ∃g o cur F',a=some ⟨g,o,none⟩/\w.heap[g]?=some (.cells cur (dp.ty α) (0,0))/\o+c*dp.sz α<=cur.size/\l.length<=c/\c<=maxLen/\F=g::F'/\fQ w (cur.toList.drop o) F' l
theorem jA.frame{w w':World}{a:Option Addr}{c:Nat}{F:List Nat}{l:List α}(h:jA w a c F l)(hb:∀b,b∈F->w'.heap[b]?=w.heap[b]?):jA w' a c F l:=by
  rcases h with h|⟨g,o,cur,F',ha,hg,hs,h1,h2,hF,he⟩
  · exact .inl h
  · subst hF;exact .inr ⟨g,o,cur,F',ha,by rw[hb g (by simp)];exact hg,hs,h1,h2,rfl,he.frame (fun b h=>hb b (List.mem_cons_of_mem _ h))⟩
theorem jA.rd{w:World}{a:Option Addr}{c:Nat}{F:List Nat}{l:List α}{S:Nat->Prop}(h:jA w a c F l)(hS:∀b,b∈F->S b):dX S w a c l:=by
  rcases h with⟨rfl,rfl,rfl,rfl⟩|⟨g,o,cur,F',ha,hg,hs,h1,h2,hF,he⟩
  · exact dX.nil _ _ _ _ (Nat.zero_le _)
  · subst hF;refine⟨h1,h2,fun _=>⟨g,o,ha,hS g (by simp),fun k x hx=>?_⟩⟩;obtain⟨c1,Fk,q1,q2,q3⟩:=he.at_ k x hx;refine⟨c1,dp.iQ q1 (fun b hb=>hS b (List.mem_cons_of_mem _ (q2 b hb))),fun j u hu=>?_⟩;have:=q3 j u hu;rw[List.getElem?_drop]at this;rw[cell_of_row w g _ cur _ (0,0) hg,Nat.add_assoc];simpa using this
def sl(a:Option Addr)(c:Nat)(l:List α):Item:=⟨fun w F=>jA w a c F l,fun _ _ _ h hb=>h.frame hb⟩
end
def bx(g:Nat)(ty:TypeId)(cs:List Value):Item :=
  ⟨fun w F=>F=[g]/\w.heap[g]?=some (.cells cs.toArray ty (0,0)),fun w w' F h hb=>⟨h.1,(hb g (by rw[h.1];simp)).trans h.2⟩⟩
end Go.Kx
