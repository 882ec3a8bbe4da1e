import Derived.WalkKit
import Derived.LoopN
import Derived.Maps.AppendAt
namespace Go.Kx
set_option linter.unusedVariables false
set_option linter.unusedSimpArgs false
open Go Go.RowKit
theorem Q8 {α β:Type} (x:α) (f:α→Option β):(some x).bind f=f x:=rfl
theorem Q9 {α:Type} (a b:α):cond false a b=b:=rfl
theorem Rb {α:Type} (a b:α):cond true a b=a:=rfl
theorem Rd:(!true)=false:=rfl
theorem Re (b:Bool):(true&&b)=b:=by cases b<;>rfl
theorem Rg (a b:Bool):((a&&b)=true)=(a=true∧b=true):=by cases a<;>cases b<;>simp
abbrev Env:=Nat→Value
def lJ (e:Env) (d:Nat) (v:Value):Env:=fun i=>bif Nat.beq i d then v else e i
def ev (e:Env):Operand→Value
  | .tmp t=>e t
  | .const v=>v
  | .global g=>.pointer (some ⟨g,0,none⟩)
  | .func f=>.func (.func f) #[] #[]
structure Is (a:Act) (n:Nat) (e:Env):Prop where
  defers:a.defers=[]
  size:a.tmps.size=n
  get:∀ i,a.tmps.getD i undef=e i
theorem Is.eval {a:Act} {n:Nat} {e:Env} (h:Is a n e):a.eval=ev e:=by
  funext x
  cases x with
  | tmp t=>exact h.get t
  | const v=>rfl
  | global g=>rfl
  | func f=>rfl
theorem Is.put {a:Act} {n:Nat} {e:Env} (h:Is a n e) {d:Nat} (hd:d<n) (v:Value):Is (a.put (some d) v) n (lJ e d v):=by
  refine ⟨h.defers,?_,fun i=>?_⟩
  · simp [Act.put,h.size]
  · have hs:=h.size;have hg:=h.get i;unfold lJ;simp only [Act.put,Array.getD_eq_getD_getElem?,Array.getElem?_setIfInBounds] at hg ⊢
    by_cases hi:i=d
    · subst hi;simp [hs,hd]
    · have hb:Nat.beq i d=false:=by
        cases hb:Nat.beq i d
        · rfl
        · exact absurd (Nat.eq_of_beq_eq_true hb) hi
      rw [hb,if_neg (fun h=>hi h.symm)];exact hg
theorem Is.L5 {a:Act} {n:Nat} {e:Env} (h:Is a n e) (v:Value):Is (a.put none v) n e:=h
abbrev lT:=Exit→Env→World→Prop
def calm:Exit→Prop
  | .panic _ | .outgrown=>False
  | _=>True
def lift (n:Nat) (Q:lT):Exit→Act→World→Prop:=fun x a w=>calm x∧∃ e,Is a n e∧Q x e w
def CW (P:Program) (n:Nat) (c:Code) (Q:lT) (e:Env) (w:World):Prop:=∀ a,Is a n e→c.wp P (lift n Q) a w
def LW (P:Program) (n:Nat) (ops:Array Oper) (Q:lT) (rest:List Oper) (e:Env) (w:World):Prop:=∀ a,Is a n e→wpList P ops (lift n Q) rest a w
def zZ (next:Env→World→Prop) (Q:lT):lT
  | .normal,e,w=>next e w
  | x,e,w=>Q x e w
def Fo (id:Nat) (Q:lT):lT
  | .exit id',e,w=>bif Nat.beq id' id then Q .normal e w else Q (.exit id') e w
  | x,e,w=>Q x e w
def iy (e:Env):List (Nat×Value)→Env
  | []=>e
  | (d,v)::l=>lJ (iy e l) d v
def En (e:Env):List (Nat×Value)→Prop
  | []=>True
  | (d,v)::l=>e d=v∧En e l
theorem Lh {e:Env} {d:Nat} {v:Value} (h:e d=v):e=lJ e d v:=by
  funext i
  unfold lJ;cases hb:Nat.beq i d
  · rfl
  · rw [Nat.eq_of_beq_eq_true hb,h];rfl
theorem En.out {e:Env}:∀ {l:List (Nat×Value)},En e l→∃ e',e=iy e' l
  | [],_=>⟨e,rfl⟩
  | (d,v)::l,⟨h1,h2⟩=>by
    obtain ⟨e',he⟩:=En.out h2;exact ⟨e',by show e=lJ (iy e' l) d v;rw [← he];exact Lh h1⟩
section
variable {P:Program} {n:Nat} {Q Q':lT} {e:Env} {w:World} {ops:Array Oper} {rest:List Oper} {o:Oper}
theorem CW.mono {c:Code} (h:CW P n c Q e w) (hq:∀ x e w,Q x e w→Q' x e w):CW P n c Q' e w :=
  fun a ha=>Code.wp_mono (fun _ _ _ ⟨c,e,he,q⟩=>⟨c,e,he,hq _ _ _ q⟩) (h a ha)
theorem CW.seq {x y:Code} (h:CW P n x (zZ (CW P n y Q) Q) e w):CW P n (.seq x y) Q e w:=by
  intro a ha;refine wp_seq (Code.wp_mono ?_ (h a ha));rintro ex a' w' ⟨hc,e',he',hq⟩
  cases ex with
  | normal=>exact hq a' he'
  | _=>exact ⟨hc,e',he',hq⟩
theorem CW.skip (h:Q .normal e w):CW P n .skip Q e w:=fun _ ha=>wp_skip ⟨trivial,e,ha,h⟩
theorem CW.exit {id:Nat} (h:Q (.exit id) e w):CW P n (.exit id) Q e w:=fun _ ha=>wp_exit ⟨trivial,e,ha,h⟩
theorem CW.ret (h:Q .ret e w):CW P n .ret Q e w:=fun _ ha=>wp_ret ⟨trivial,e,ha,h⟩
theorem CW.cond {c:Operand} {x y:Code} {t:Bool} (hc:ev e c=.bool t) (ht:t=true→CW P n x Q e w) (hf:t=false→CW P n y Q e w):CW P n (.cond c x y) Q e w:=by
  intro a ha;refine wp_cond_split (t:=t) (by rw [ha.eval];exact hc) (fun h=>ht h a ha) (fun h=>hf h a ha)
theorem CW.block {id:Nat} {c:Code} (h:CW P n c (Fo id Q) e w):CW P n (.block id c) Q e w:=by
  intro a ha;refine wp_block (Code.wp_mono ?_ (h a ha));rintro ex a' w' ⟨hc,e',he',hq⟩
  cases ex with
  | exit id' =>
    by_cases hid:id'=id
    · subst hid;simp only [Fo,Nat.beq_refl,cond_true] at hq;simp only [Exit.inBlock,if_true];exact ⟨trivial,e',he',hq⟩
    · have hb:Nat.beq id' id=false:=by
        cases hb:Nat.beq id' id
        · rfl
        · exact absurd (Nat.eq_of_beq_eq_true hb) hid
      simp only [Fo,hb,cond_false] at hq;simp only [Exit.inBlock,hid,if_false];exact ⟨trivial,e',he',hq⟩
  | _=>exact ⟨hc,e',he',hq⟩
theorem CW.region {id:Nat} {l:List Oper} (h:LW P n l.toArray Q l e w):CW P n (.region id l.toArray false) Q e w:=fun a ha=>wp_region_lit (h a ha)
theorem LW.nil (h:Q .normal e w):LW P n ops Q [] e w:=fun _ ha=>wpList_nil ⟨trivial,e,ha,h⟩
theorem LW.run {op:Op} {ty:TypeId} {pos:String} {aft:Array Edge} {d:Nat} {v:Value} {w':World}
    (hr:(execOp (ev e) ⟨some d,op,ty,pos,aft,none⟩).run P w=.ok (.value v) w') (hd:Nat.ble (d+1) n=true) (h:LW P n ops Q rest (lJ e d v) w') :
    LW P n ops Q (⟨some d,op,ty,pos,aft,none⟩::rest) e w:=by
  intro a ha;refine wpList_plain rfl fun K hK=>?_;unfold Oper.wp;rw [ha.eval,hr];exact hK _ _ (h _ (ha.put (Nat.le_of_ble_eq_true hd) v))
theorem LW.Cc {op:Op} {ty:TypeId} {pos:String} {aft:Array Edge} {w':World}
    (hr:(execOp (ev e) ⟨none,op,ty,pos,aft,none⟩).run P w=.ok .skip w') (h:LW P n ops Q rest e w') :
    LW P n ops Q (⟨none,op,ty,pos,aft,none⟩::rest) e w:=by
  intro a ha;refine wpList_plain rfl fun K hK=>?_;unfold Oper.wp;rw [ha.eval,hr];exact hK _ _ (h _ (ha.L5 _))
def pP (ops:Array Oper) (g:Option (Nat×Bool)) (e:Env):Bool :=
  match g with
  | none=>true
  | some (j,b) =>
    match (ops[j]?).bind (·.dst) with
    | some d=>match e d with
      | .bool t=>t==b
      | _=>false
    | none=>false
theorem xq {o:Oper} {a:Act} (ha:Is a n e):Region.wanted o (yielded ops a.tmps)=pP ops o.guard e:=by
  unfold Region.wanted pP
  cases o.guard with
  | none=>rfl
  | some g =>
    obtain ⟨j,b⟩:=g;simp only [yielded]
    cases hd:(ops[j]?).bind (·.dst) with
    | none=>rfl
    | some d =>
      have hg:=ha.get d;simp only [Option.bind_some];rw [Array.getD_eq_getD_getElem?] at hg
      cases ht:a.tmps[d]? with
      | none=>rw [ht] at hg;simp at hg;rw [← hg];rfl
      | some v =>
        rw [ht] at hg;simp at hg;rw [hg];cases e d<;>rfl
theorem mS {j d:Nat} {b t:Bool} (hd:(ops[j]?).bind (·.dst)=some d) (hv:e d=.bool t) (ht:t=b):pP ops (some (j,b)) e=true:=by
  subst ht;simp [pP,hd,hv]
theorem Eg {j d:Nat} {b t:Bool} (hd:(ops[j]?).bind (·.dst)=some d) (hv:e d=.bool t) (ht:t=!b):pP ops (some (j,b)) e=false:=by
  subst ht;cases b<;>simp [pP,hd,hv]
theorem Bt {j d:Nat} {b:Bool} (hd:(ops[j]?).bind (·.dst)=some d) (hv:e d=undef):pP ops (some (j,b)) e=false:=by
  simp [pP,hd,hv,undef]
theorem LW.gY {d:Option Tmp} {op:Op} {ty:TypeId} {pos:String} {aft:Array Edge} {g:Option (Nat×Bool)} (hw:pP ops g e=true)
    (h:LW P n ops Q (⟨d,op,ty,pos,aft,none⟩::rest) e w):LW P n ops Q (⟨d,op,ty,pos,aft,g⟩::rest) e w:=by
  intro a ha;have h1:=h a ha;unfold wpList at h1 ⊢;rw [xq ha] at h1 ⊢;rw [if_pos hw];exact h1
theorem LW.gN {d:Nat} {op:Op} {ty:TypeId} {pos:String} {aft:Array Edge} {g:Option (Nat×Bool)} (hw:pP ops g e=false) (hd:Nat.ble (d+1) n=true)
    (h:LW P n ops Q rest (lJ e d undef) w):LW P n ops Q (⟨some d,op,ty,pos,aft,g⟩::rest) e w:=by
  intro a ha;unfold wpList;rw [xq ha,hw];exact h _ (ha.put (Nat.le_of_ble_eq_true hd) undef)
def NH (K:Value→World→Prop):Ending→World→Prop
  | .returned v,w=>K v w
  | _,_=>False
def g8 (P:Program) (f:FuncId) (args:Array Value) (w:World) (K:Value→World→Prop):Prop:=Calls P f args w (NH K)
theorem g8.mono {f:FuncId} {args:Array Value} {K K':Value→World→Prop} (h:g8 P f args w K) (hk:∀ v w',K v w'→K' v w'):g8 P f args w K' :=
  Calls.mono h fun e w' hh=>by cases e<;>first | exact hk _ _ hh | exact hh.elim
def wv (P:Program) (f:FuncId):Bool :=
  match P.funcs[f]? with
  | some fn=>!(fn.name=="runtime.NumGoroutine")&&fn.body.isSome
  | none=>false
theorem E2 {f:FuncId} (hp:wv P f=true) (args:Array Value):(callFunc f args).run P w=.ok (.enter f args) w:=by
  unfold wv at hp
  cases hf:P.funcs[f]? with
  | none=>simp [hf] at hp
  | some fn =>
    simp only [hf,Bool.and_eq_true,Bool.not_eq_true'] at hp;obtain ⟨h1,h2⟩:=hp;obtain ⟨c,hc⟩:=Option.isSome_iff_exists.1 h2
    have h4:¬ fn.name="runtime.NumGoroutine":=by simpa using h1
    simp [callFunc,hf,h4,hc]
theorem LW.call {f:FuncId} {as:Array Operand} {ts:Array TypeId} {ty:TypeId} {pos:String} {aft:Array Edge} {d:Nat} {al:List Value}
    (hp:wv P f=true) (hd:Nat.ble (d+1) n=true) (hargs:as.toList.map (ev e)=al)
    (h:g8 P f al.toArray w fun v w'=>LW P n ops Q rest (lJ e d v) w') :
    LW P n ops Q (⟨some d,.call { callee:=.value (.func f),args:=as,argTypes:=ts },ty,pos,aft,none⟩::rest) e w:=by
  intro a ha;refine wpList_plain rfl fun K hK=>?_;unfold Oper.wp;rw [ha.eval]
  have hr:(execOp (ev e) ⟨some d,.call { callee:=.value (.func f),args:=as,argTypes:=ts },ty,pos,aft,none⟩).run P w=.ok (.enter f al.toArray) w:=by
    have hm:as.map (ev e)=al.toArray:=by rw [← hargs];simp [← Array.toList_map]
    simp [execOp,resolve,invoke,Deferred.ofValue,ev,E2 hp,hm]
  rw [hr,Oper.upon_enter];refine Calls.mono h fun en w' hh=>?_
  cases en with
  | returned v=>exact hK _ _ (hh _ (ha.put (Nat.le_of_ble_eq_true hd) v))
  | panicked c=>exact hh.elim
  | outgrown=>exact hh.elim
end
end Go.Kx
namespace Go.Kx
open Go Go.RowKit
set_option linter.unusedVariables false
set_option linter.unusedSimpArgs false
structure Item where
  p:World→List Nat→Prop
  frame:∀ w w' F,p w F→(∀ b,b ∈ F→w'.heap[b]?=w.heap[b]?)→p w' F
def iP:List Item→World→List Nat→Prop
  | [],_,F=>F=[]
  | i::L,w,F=>∃ F1 F2,F=F1++F2∧i.p w F1∧iP L w F2
theorem iP.frame {L:List Item} {w w':World}:∀ {F:List Nat},iP L w F→(∀ b,b ∈ F→w'.heap[b]?=w.heap[b]?)→iP L w' F:=by
  induction L with
  | nil=>exact fun h _=>h
  | cons i L ih =>
    rintro F ⟨F1,F2,rfl,h1,h2⟩ hb;exact ⟨F1,F2,rfl,i.frame _ _ _ h1 (fun b h=>hb b (List.mem_append_left _ h)),ih h2 (fun b h=>hb b (List.mem_append_right _ h))⟩
theorem iP.append {L M:List Item} {w:World}:∀ {F:List Nat},iP (L++M) w F ↔ ∃ F1 F2,F=F1++F2∧iP L w F1∧iP M w F2:=by
  induction L with
  | nil=>exact fun {F}=>⟨fun h=>⟨[],F,rfl,rfl,h⟩,fun ⟨F1,F2,e,h1,h2⟩=>by cases h1;subst e;exact h2⟩
  | cons i L ih =>
    intro F;constructor
    · rintro ⟨F1,F2,rfl,h1,h2⟩;obtain ⟨F3,F4,rfl,h3,h4⟩:=ih.1 h2;exact ⟨F1++F3,F4,by simp,⟨F1,F3,rfl,h1,h3⟩,h4⟩
    · rintro ⟨F1,F2,rfl,⟨F3,F4,rfl,h3,h4⟩,h2⟩;exact ⟨F3,F4++F2,by simp,h3,ih.2 ⟨F4,F2,rfl,h4,h2⟩⟩
theorem iP.at_:∀ {M:List Item} {w:World} {F:List Nat} (i:Nat) {it:Item},iP M w F→M[i]?=some it→∃ Fi,it.p w Fi∧∀ b,b ∈ Fi→b ∈ F
  | [],_,_,i,_,_,hi=>by simp at hi
  | y::M,w,F,i,it,⟨G1,G2,hF,g1,g2⟩,hi=>by
    subst hF
    cases i with
    | zero=>simp at hi;subst hi;exact ⟨G1,g1,fun b hh=>List.mem_append_left _ hh⟩
    | succ i =>
      obtain ⟨Fi,h1,h2⟩:=iP.at_ i g2 (by simpa using hi);exact ⟨Fi,h1,fun b hh=>List.mem_append_right _ (h2 b hh)⟩
structure St (w0:World) (F0:List Nat) (w:World) (L:List Item):Prop where
  os:w.os=w0.os
  tape:w.tape=w0.tape
  output:w.output=w0.output
  size:w0.heap.size≤w.heap.size
  same:∀ b,b<w0.heap.size→b ∉ F0→w.heap[b]?=w0.heap[b]?
  own:∃ F,iP L w F∧F.Nodup∧∀ b,b ∈ F→(b ∈ F0∨w0.heap.size≤b)∧b<w.heap.size
theorem St.init {w:World} {L:List Item} {F:List Nat} (h:iP L w F) (hn:F.Nodup) (hl:∀ b,b ∈ F→b<w.heap.size):St w F w L :=
  ⟨rfl,rfl,rfl,Nat.le_refl _,fun _ _ _=>rfl,F,h,hn,fun b hb=>⟨.inl hb,hl b hb⟩⟩
theorem St.start (w:World):St w [] w []:=St.init (show iP [] w [] from rfl) List.nodup_nil (by simp)
theorem St.below {w0 w:World} {L:List Item} (h:St w0 [] w L):Below w0.heap.size w0 w :=
  ⟨h.os,h.tape,h.output,h.size,fun b hb=>h.same b hb (by simp)⟩
theorem St.drew {w0 w:World} {F0:List Nat} {L:List Item} (h:St w0 F0 w L):St w0 F0 w.drew L :=
  ⟨h.os,h.tape,h.output,h.size,h.same,by
    obtain ⟨F,hF,hn,hb⟩:=h.own
    exact ⟨F,hF.frame (fun _ _=>rfl),hn,hb⟩⟩
theorem iP.perm {L M:List Item} (h:L.Perm M) {w:World}:∀ {F:List Nat},iP L w F→∃ F',iP M w F'∧F'.Perm F:=by
  induction h with
  | nil =>
    intro F h;cases (show F=[] from h);exact ⟨[],rfl,.nil⟩
  | cons x _ ih =>
    rintro F ⟨F1,F2,rfl,h1,h2⟩;obtain ⟨F3,h3,hp⟩:=ih h2;exact ⟨F1++F3,⟨F1,F3,rfl,h1,h3⟩,hp.append_left F1⟩
  | swap x y l =>
    rintro F ⟨F1,F2,rfl,h1,F3,F4,rfl,h3,h4⟩;refine ⟨F3++(F1++F4),⟨F3,_,rfl,h3,F1,F4,rfl,h1,h4⟩,?_⟩;rw [← List.append_assoc, ← List.append_assoc];exact List.Perm.append_right _ List.perm_append_comm
  | trans _ _ ih1 ih2 =>
    intro F hF;obtain ⟨F1,h1,p1⟩:=ih1 hF;obtain ⟨F2,h2,p2⟩:=ih2 h1;exact ⟨F2,h2,p2.trans p1⟩
theorem St.perm {w0 w:World} {F0:List Nat} {L M:List Item} (h:St w0 F0 w L) (hp:L.Perm M):St w0 F0 w M:=by
  obtain ⟨F,hF,hn,hb⟩:=h.own;obtain ⟨F',hF',hpF⟩:=hF.perm hp;exact ⟨h.os,h.tape,h.output,h.size,h.same,F',hF',hpF.nodup_iff.2 hn,fun b hh=>hb b (hpF.mem_iff.1 hh)⟩
theorem v8 {α:Type}:∀ (L:List α) (i:Nat) (x:α),L[i]?=some x→L.Perm (x::L.eraseIdx i)
  | [],_,_,h=>by simp at h
  | a::L,0,x,h=>by simp at h;subst h;exact .refl _
  | a::L,i+1,x,h=>by
    have:=v8 L i x (by simpa using h);simp only [List.eraseIdx_cons_succ];exact (this.cons a).trans (.swap _ _ _)
theorem St.front {w0 w:World} {F0:List Nat} {L:List Item} (h:St w0 F0 w L) (i:Nat) {x:Item} (hx:L[i]?=some x):St w0 F0 w (x::L.eraseIdx i) :=
  h.perm (v8 L i x hx)
theorem St.PC {w0 w:World} {F0:List Nat} {x:Item} {L:List Item} (h:St w0 F0 w (x::L)):St w0 F0 w L:=by
  obtain ⟨F,⟨F1,F2,rfl,_,h2⟩,hn,hb⟩:=h.own;exact ⟨h.os,h.tape,h.output,h.size,h.same,F2,h2,(List.nodup_append.1 hn).2.1,fun b hh=>hb b (List.mem_append_right _ hh)⟩
theorem St.drop {w0 w:World} {F0:List Nat} {L:List Item} (h:St w0 F0 w L) (i:Nat) (hi:i<L.length):St w0 F0 w (L.eraseIdx i) :=
  (h.front i (List.getElem?_eq_getElem hi)).PC
def ki (w:World) (F:List Nat):Nat→Prop:=fun b=>b<w.heap.size∧b ∉ F
theorem St.share {w0 w:World} {F0:List Nat} {L M:List Item} (h:St w0 F0 w (L++M)) :
    ∃ F,iP L w F∧F.Nodup∧(∀ b,b ∈ F→b<w.heap.size) ∧
      (∀ b,ki w0 F0 b→ki w F b) ∧
      (∀ (i:Nat) (it:Item),M[i]?=some it→∃ Fi,it.p w Fi∧∀ b,b ∈ Fi→ki w F b) ∧
      ∀ w' L',St w F w' L'→St w0 F0 w' (L'++M):=by
  obtain ⟨F,hF,hn,hb⟩:=h.own;obtain ⟨F1,F2,rfl,h1,h2⟩:=iP.append.1 hF;obtain ⟨n1,n2,nd⟩:=List.nodup_append.1 hn;refine ⟨F1,h1,n1,fun b hh=>(hb b (List.mem_append_left _ hh)).2,?_,?_,?_⟩
  · rintro b ⟨hlt,hno⟩;refine ⟨Nat.lt_of_lt_of_le hlt h.size,fun hm=>?_⟩
    rcases (hb b (List.mem_append_left _ hm)).1 with h1 | h1
    · exact hno h1
    · omega
  · intro i it hi;obtain ⟨Fi,q1,q2⟩:=h2.at_ i hi;exact ⟨Fi,q1,fun b hh=>⟨(hb b (List.mem_append_right _ (q2 b hh))).2,fun hm=>nd b hm b (q2 b hh) rfl⟩⟩
  · intro w' L' k;obtain ⟨F',hF',hn',hb'⟩:=k.own
    have hk2:∀ b,b ∈ F2→w'.heap[b]?=w.heap[b]?:=fun b hh =>
      k.same b (hb b (List.mem_append_right _ hh)).2 (fun hm=>nd b hm b hh rfl)
    refine ⟨k.os.trans h.os,k.tape.trans h.tape,k.output.trans h.output,Nat.le_trans h.size k.size,?_,F'++F2,iP.append.2 ⟨F',F2,rfl,hF',h2.frame hk2⟩,?_,?_⟩
    · intro b hlt hno;rw [k.same b (Nat.lt_of_lt_of_le hlt h.size) (fun hm=>?_),h.same b hlt hno]
      rcases (hb b (List.mem_append_left _ hm)).1 with h1 | h1
      · exact hno h1
      · omega
    · refine List.nodup_append.2 ⟨hn',n2,?_⟩;intro a ha b hb2 e;subst e;have:=(hb a (List.mem_append_right _ hb2)).2
      rcases (hb' a ha).1 with h1 | h1
      · exact nd a h1 a hb2 rfl
      · omega
    · intro b hh
      rcases List.mem_append.1 hh with hh | hh
      · have hs:=h.size;refine ⟨?_,(hb' b hh).2⟩
        rcases (hb' b hh).1 with h1 | h1
        · exact (hb b (List.mem_append_left _ h1)).1
        · exact .inr (by omega)
      · exact ⟨(hb b (List.mem_append_right _ hh)).1,Nat.lt_of_lt_of_le (hb b (List.mem_append_right _ hh)).2 k.size⟩
theorem St.head {w0 w w':World} {F0:List Nat} {x:Item} {L M:List Item} (h:St w0 F0 w (x::L))
    (hx:∀ F,x.p w F→F.Nodup→(∀ b,b ∈ F→b<w.heap.size)→St w F w' M):St w0 F0 w' (M++L):=by
  obtain ⟨F,hF,hn,hlt,_,_,hm⟩:=St.share (L:=[x]) (M:=L) h;obtain ⟨F1,F2,rfl,h1,h2⟩:=hF;cases h2;rw [List.append_nil] at hn hlt hm;exact hm w' M (hx F1 h1 hn hlt)
theorem St.add {w0 w w':World} {F0:List Nat} {L M:List Item} (h:St w0 F0 w L) (hx:St w [] w' M):St w0 F0 w' (M++L):=by
  obtain ⟨F,hF,hn,hlt,_,_,hm⟩:=St.share (L:=[]) (M:=L) h;cases hF;exact hm w' M hx
class ia (α:Type) where
  ty:TypeId
  sz:Nat
  zero:α
  zc:List Value
  pos:0<sz
  rd:(Nat→Prop)→World→List Value→α→Prop
  own:World→List Value→List Nat→α→Prop
  lW:∀ {S w cs x},rd S w cs x→cs.length=sz
  jc:∀ {w cs F x},own w cs F x→cs.length=sz
  lg:∀ {S w w' cs x},rd S w cs x→(∀ b,S b→w'.heap[b]?=w.heap[b]?)→rd S w' cs x
  lh:∀ {S S' w cs x},rd S w cs x→(∀ b,S b→S' b)→rd S' w cs x
  j8:∀ {w w' cs F x},own w cs F x→(∀ b,b ∈ F→w'.heap[b]?=w.heap[b]?)→own w' cs F x
  lV:∀ {S w cs F x},own w cs F x→(∀ b,b ∈ F→S b)→rd S w cs x
  kF:∀ {w cs F x},own w cs F x→∀ u,u ∈ cs→u.oneCell'=true
  jA:∀ w,own w zc [] zero
section
variable {α:Type} [ia α]
structure iV (S:Nat→Prop) (w:World) (a:Option Addr) (c:Nat) (l:List α):Prop where
  le:l.length≤c
  cap:c≤maxLen
  cells:l ≠ []→∃ b o,a=some ⟨b,o,none⟩∧S b∧∀ (k:Nat) (x:α),l[k]?=some x→∃ cs,ia.rd S w cs x∧∀ (j:Nat) (u:Value),cs[j]?=some u→w.cell? ⟨b,o+k * ia.sz α+j,none⟩=some u
theorem iV.lE {S:Nat→Prop} {w w':World} {a:Option Addr} {c:Nat} {l:List α} (h:iV S w a c l) (hk:∀ b,S b→w'.heap[b]?=w.heap[b]?):iV S w' a c l:=by
  refine ⟨h.le,h.cap,fun hne=>?_⟩;obtain ⟨b,o,ha,hb,hc⟩:=h.cells hne;refine ⟨b,o,ha,hb,fun k x hx=>?_⟩;obtain ⟨cs,h1,h2⟩:=hc k x hx;exact ⟨cs,ia.lg h1 hk,fun j u hu=>(World.cell?_of_block (w:=w) (hk b hb)).trans (h2 j u hu)⟩
theorem iV.mono {S S':Nat→Prop} {w:World} {a:Option Addr} {c:Nat} {l:List α} (h:iV S w a c l) (hk:∀ b,S b→S' b):iV S' w a c l:=by
  refine ⟨h.le,h.cap,fun hne=>?_⟩;obtain ⟨b,o,ha,hb,hc⟩:=h.cells hne;refine ⟨b,o,ha,hk b hb,fun k x hx=>?_⟩;obtain ⟨cs,h1,h2⟩:=hc k x hx;exact ⟨cs,ia.lh h1 hk,h2⟩
theorem iV.nil (S:Nat→Prop) (w:World) (a:Option Addr) (c:Nat) (hc:c≤maxLen):iV S w a c ([]:List α):=⟨Nat.zero_le _,hc,fun h=>absurd rfl h⟩
def kt (w:World):List Value→List Nat→List α→Prop
  | _,F,[]=>F=[]
  | cs,F,x::l=>∃ c1 c2 F1 F2,cs=c1++c2∧F=F1++F2∧ia.own w c1 F1 x∧kt w c2 F2 l
theorem kt.frame {w w':World}:∀ {l:List α} {cs:List Value} {F:List Nat},kt w cs F l→(∀ b,b ∈ F→w'.heap[b]?=w.heap[b]?)→kt w' cs F l
  | [],_,_,h,_=>h
  | x::l,_,_,⟨c1,c2,F1,F2,hc,hF,h1,h2⟩,hb=>by
    subst hF;exact ⟨c1,c2,F1,F2,hc,rfl,ia.j8 h1 (fun b h=>hb b (List.mem_append_left _ h)),kt.frame h2 (fun b h=>hb b (List.mem_append_right _ h))⟩
theorem kt.at_ {w:World}:∀ {l:List α} {cs:List Value} {F:List Nat},kt w cs F l→∀ (k:Nat) (x:α),l[k]?=some x →
    ∃ c1 Fk,ia.own w c1 Fk x∧(∀ b,b ∈ Fk→b ∈ F)∧∀ (j:Nat) (u:Value),c1[j]?=some u→cs[k * ia.sz α+j]?=some u
  | [],_,_,_,k,x,hk=>by simp at hk
  | y::l,cs,F,⟨c1,c2,F1,F2,hc,hF,h1,h2⟩,k,x,hk=>by
    subst hF;subst hc;have hl:=ia.jc h1
    cases k with
    | zero =>
      simp at hk;subst hk;refine ⟨c1,F1,h1,fun b hb=>List.mem_append_left _ hb,fun j u hu=>?_⟩
      have hj:j<c1.length:=by
        rcases Nat.lt_or_ge j c1.length with h | h
        · exact h
        · rw [List.getElem?_eq_none h] at hu;cases hu
      simpa [List.getElem?_append_left hj] using hu
    | succ k =>
      obtain ⟨cx,Fk,q1,q2,q3⟩:=kt.at_ h2 k x (by simpa using hk);refine ⟨cx,Fk,q1,fun b hb=>List.mem_append_right _ (q2 b hb),fun j u hu=>?_⟩;have:=q3 j u hu;rw [List.getElem?_append_right (by rw [hl,Nat.succ_mul];omega),hl];rw [show (k+1) * ia.sz α+j - ia.sz α=k * ia.sz α+j by rw [Nat.succ_mul];omega];exact this
theorem kt.append {w:World}:∀ {l m:List α} {cs:List Value} {F:List Nat},kt w cs F (l++m) ↔ ∃ c1 c2 F1 F2,cs=c1++c2∧F=F1++F2∧c1.length=l.length * ia.sz α∧kt w c1 F1 l∧kt w c2 F2 m
  | [],m,cs,F=>⟨fun h=>⟨[],cs,[],F,rfl,rfl,by simp,rfl,h⟩,fun ⟨c1,c2,F1,F2,hc,hF,hl,h1,h2⟩=>by
      have:c1=[]:=List.eq_nil_of_length_eq_zero (by simpa using hl)
      subst this;cases (show F1=[] from h1);subst hc;subst hF;exact h2⟩
  | x::l,m,cs,F=>by
    constructor
    · rintro ⟨c1,c2,F1,F2,rfl,rfl,h1,h2⟩;obtain ⟨d1,d2,G1,G2,rfl,rfl,hl,g1,g2⟩:=kt.append.1 h2;exact ⟨c1++d1,d2,F1++G1,G2,by simp,by simp,by simp [ia.jc h1,hl,Nat.succ_mul,Nat.add_comm],⟨c1,d1,F1,G1,rfl,rfl,h1,g1⟩,g2⟩
    · rintro ⟨c1,c2,F1,F2,rfl,rfl,hl,⟨d1,d2,G1,G2,rfl,rfl,h1,h2⟩,h3⟩;refine ⟨d1,d2++c2,G1,G2++F2,by simp,by simp,h1,kt.append.2 ⟨d2,c2,G2,F2,rfl,rfl,?_,h2,h3⟩⟩;have:=ia.jc h1;simp [Nat.succ_mul] at hl;omega
theorem kt.take {w:World}:∀ {l:List α} {cs:List Value} {F:List Nat},kt w cs F l→kt w (cs.take (l.length * ia.sz α)) F l∧l.length * ia.sz α≤cs.length
  | [],cs,F,h=>⟨h,by simp⟩
  | x::l,cs,F,⟨c1,c2,F1,F2,hc,hF,h1,h2⟩=>by
    subst hc;have hl:=ia.jc h1;obtain ⟨q1,q2⟩:=kt.take h2
    have e:(x::l).length * ia.sz α=c1.length+l.length * ia.sz α:=by simp [Nat.succ_mul,hl,Nat.add_comm]
    refine ⟨⟨c1,c2.take (l.length * ia.sz α),F1,F2,?_,hF,h1,q1⟩,by rw [e,List.length_append];omega⟩;rw [e,List.take_length_add_append]
theorem kt.more {w:World}:∀ {l:List α} {cs:List Value} {F:List Nat},kt w cs F l→∀ ds,kt w (cs++ds) F l
  | [],_,_,h,_=>h
  | x::l,_,_,⟨c1,c2,F1,F2,hc,hF,h1,h2⟩,ds=>⟨c1,c2++ds,F1,F2,by simp [hc],hF,h1,kt.more h2 ds⟩
theorem kt.one {w:World}:∀ {l:List α} {cs:List Value} {F:List Nat},kt w cs F l→∀ u,u ∈ cs.take (l.length * ia.sz α)→u.oneCell'=true
  | [],_,_,_,u,hu=>by simp at hu
  | x::l,cs,F,⟨c1,c2,F1,F2,hc,hF,h1,h2⟩,u,hu=>by
    subst hc
    have e:(x::l).length * ia.sz α=c1.length+l.length * ia.sz α:=by simp [Nat.succ_mul,ia.jc h1,Nat.add_comm]
    rw [e,List.take_length_add_append] at hu
    rcases List.mem_append.1 hu with h | h
    · exact ia.kF h1 u h
    · exact kt.one h2 u h
theorem kt.Mn {w:World}:∀ (k:Nat),kt w (List.replicate k (ia.zc α)).flatten [] (List.replicate k (ia.zero:α))
  | 0=>rfl
  | k+1=>⟨ia.zc α,_,[],[],by simp [List.replicate_succ],rfl,ia.jA w,kt.Mn k⟩
theorem kt.set {w:World}:∀ {l:List α} {cs:List Value} {F:List Nat} (k:Nat) {x:α},kt w cs F l→l[k]?=some x →
    ∃ c0 c1 c2 F0 F1 F2,cs=c0++(c1++c2)∧F=F0++(F1++F2)∧c0.length=k * ia.sz α∧ia.own w c1 F1 x ∧
      ∀ (w':World) (d1:List Value) (G1:List Nat) (y:α),ia.own w' d1 G1 y→(∀ b,b ∈ F0++F2→w'.heap[b]?=w.heap[b]?)→kt w' (c0++(d1++c2)) (F0++(G1++F2)) (l.set k y)
  | [],_,_,k,_,_,hk=>by simp at hk
  | z::l,cs,F,0,x,⟨c1,c2,F1,F2,hc,hF,h1,h2⟩,hk=>by
    simp at hk;subst hk;exact ⟨[],c1,c2,[],F1,F2,hc,hF,by simp,h1,fun w' d1 G1 y hy hb=>⟨d1,c2,G1,F2,rfl,rfl,hy,h2.frame (fun b h=>hb b (by simpa using h))⟩⟩
  | z::l,cs,F,k+1,x,⟨c1,c2,F1,F2,hc,hF,h1,h2⟩,hk=>by
    subst hc;subst hF;obtain ⟨e0,e1,e2,G0,G1,G2,rfl,rfl,hl,q1,q2⟩:=kt.set k h2 (by simpa using hk);refine ⟨c1++e0,e1,e2,F1++G0,G1,G2,by simp,by simp,by simp [hl,Nat.succ_mul,ia.jc h1,Nat.add_comm],q1,fun w' d1 H1 y hy hb=>?_⟩
    exact ⟨c1,_,F1,_,by simp,by simp,ia.j8 h1 (fun b h=>hb b (by simp [h])),q2 w' d1 H1 y hy (fun b h=>hb b (by
      rcases List.mem_append.1 h with h | h<;>simp [h]))⟩
def nB (w:World) (a:Option Addr) (c:Nat) (F:List Nat) (l:List α):Prop :=
  (a=none∧c=0∧l=[]∧F=[]) ∨
  ∃ g o cur F',a=some ⟨g,o,none⟩∧w.heap[g]?=some (.cells cur (ia.ty α) (0,0))∧o+c * ia.sz α≤cur.size∧l.length≤c∧c≤maxLen∧F=g::F'∧kt w (cur.toList.drop o) F' l
theorem nB.frame {w w':World} {a:Option Addr} {c:Nat} {F:List Nat} {l:List α} (h:nB w a c F l) (hb:∀ b,b ∈ F→w'.heap[b]?=w.heap[b]?):nB w' a c F l:=by
  rcases h with h | ⟨g,o,cur,F',ha,hg,hs,h1,h2,hF,he⟩
  · exact .inl h
  · subst hF;exact .inr ⟨g,o,cur,F',ha,by rw [hb g (by simp)];exact hg,hs,h1,h2,rfl,he.frame (fun b h=>hb b (List.mem_cons_of_mem _ h))⟩
theorem nB.rd {w:World} {a:Option Addr} {c:Nat} {F:List Nat} {l:List α} {S:Nat→Prop} (h:nB w a c F l) (hS:∀ b,b ∈ F→S b):iV S w a c l:=by
  rcases h with ⟨rfl,rfl,rfl,rfl⟩ | ⟨g,o,cur,F',ha,hg,hs,h1,h2,hF,he⟩
  · exact iV.nil _ _ _ _ (Nat.zero_le _)
  · subst hF;refine ⟨h1,h2,fun _=>⟨g,o,ha,hS g (by simp),fun k x hx=>?_⟩⟩;obtain ⟨c1,Fk,q1,q2,q3⟩:=he.at_ k x hx;refine ⟨c1,ia.lV q1 (fun b hb=>hS b (List.mem_cons_of_mem _ (q2 b hb))),fun j u hu=>?_⟩;have:=q3 j u hu;rw [List.getElem?_drop] at this;rw [cell_of_row w g _ cur _ (0,0) hg,Nat.add_assoc];simpa using this
def sl (a:Option Addr) (c:Nat) (l:List α):Item:=⟨fun w F=>nB w a c F l,fun _ _ _ h hb=>h.frame hb⟩
end
def bx (g:Nat) (ty:TypeId) (cs:List Value):Item :=
  ⟨fun w F=>F=[g]∧w.heap[g]?=some (.cells cs.toArray ty (0,0)),fun w w' F h hb=>⟨h.1,(hb g (by rw [h.1];simp)).trans h.2⟩⟩
end Go.Kx
namespace Go.Kx
open Go Go.RowKit
set_option linter.unusedVariables false
set_option linter.unusedSimpArgs false
def CS:List Value→Nat→Option Value
  | [],_=>none
  | v::_,0=>some v
  | _::l,i+1=>CS l i
theorem K3:∀ (l:List Value) (i:Nat),CS l i=l[i]?
  | [],i=>by simp [CS]
  | v::l,0=>by simp [CS]
  | v::l,i+1=>by simp [CS,K3 l i]
def MM (op:BinOp) (k:IntKind) (a b:Int):Option Value :=
  match op with
  | .add=>some (.int k (k.wrap (a+b)))
  | .sub=>some (.int k (k.wrap (a - b)))
  | .mul=>some (.int k (k.wrap (a * b)))
  | .eql=>some (.bool (a==b))
  | .neq=>some (.bool (a != b))
  | .lss=>some (.bool (decide (a<b)))
  | .leq=>some (.bool (decide (a≤b)))
  | .gtr=>some (.bool (decide (a > b)))
  | .geq=>some (.bool (decide (a ≥ b)))
  | .and=>some (.int k (k.wrap ((BitVec.ofInt k.bits a &&& BitVec.ofInt k.bits b).toNat:Int)))
  | .or=>some (.int k (k.wrap ((BitVec.ofInt k.bits a ||| BitVec.ofInt k.bits b).toNat:Int)))
  | .xor=>some (.int k (k.wrap ((BitVec.ofInt k.bits a ^^^ BitVec.ofInt k.bits b).toNat:Int)))
  | _=>none
def Ez:IntKind→IntKind→Bool
  | .i8,.i8 | .i16,.i16 | .i32,.i32 | .i64,.i64 | .u8,.u8 | .u16,.u16 | .u32,.u32 | .u64,.u64=>true
  | _,_=>false
theorem NG {a b:IntKind} (h:Ez a b=true):a=b:=by cases a<;>cases b<;>first | rfl | cases h
def pv (ρ:Operand→Value):Op→Option Value
  | .move x=>some (ρ x)
  | .assign x=>some (ρ x)
  | .binOp op _ x y _ =>
    match ρ x,ρ y with
    | .int k a,.int k' b=>bif Ez k k' then MM op k a b else none
    | _,_=>none
  | .unOp op _ x =>
    match op,ρ x with
    | .not,.bool b=>some (.bool !b)
    | .neg,.int k a=>some (.int k (k.wrap (0 - a)))
    | _,_=>none
  | .extract x i =>
    match ρ x with
    | .tuple vs=>CS vs.toList i
    | _=>none
  | _=>none
section
variable {P:Program} {n:Nat} {Q:lT} {e:Env} {w:World} {ops:Array Oper} {rest:List Oper}
  {ty:TypeId} {pos:String} {aft:Array Edge} {d:Nat} {v:Value}
def iM (P:Program) (ρ:Operand→Value) (op:Op) (v:Value):Prop:=∀ (d:Option Tmp) (ty:TypeId) (pos:String) (aft:Array Edge) (g:Option (Nat×Bool)) (w:World),(execOp ρ ⟨d,op,ty,pos,aft,g⟩).run P w=.ok (.value v) w
def jV (P:Program) (ρ:Operand→Value) (op:Op) (C:World→Prop) (v:Value):Prop:=∀ (d:Option Tmp) (ty:TypeId) (pos:String) (aft:Array Edge) (g:Option (Nat×Bool)) (w:World),C w→(execOp ρ ⟨d,op,ty,pos,aft,g⟩).run P w=.ok (.value v) w
theorem LW.u {op:Op} (hp:iM P (ev e) op v) (hd:Nat.ble (d+1) n=true) (h:LW P n ops Q rest (lJ e d v) w) :
    LW P n ops Q (⟨some d,op,ty,pos,aft,none⟩::rest) e w:=LW.run (hp _ _ _ _ _ _) hd h
theorem LW.l {op:Op} {C:World→Prop} (hp:jV P (ev e) op C v) (hC:C w) (hd:Nat.ble (d+1) n=true) (h:LW P n ops Q rest (lJ e d v) w) :
    LW P n ops Q (⟨some d,op,ty,pos,aft,none⟩::rest) e w:=LW.run (hp _ _ _ _ _ _ hC) hd h
variable {ρ:Operand→Value}
theorem iM.p {op:Op} (hv:pv ρ op=some v):iM P ρ op v:=by
  intro d ty pos aft g w
  cases op with
  | move x=>simp [pv] at hv;simp [execOp,hv]
  | assign x=>simp [pv] at hv;simp [execOp,hv]
  | extract x i =>
    simp only [pv] at hv;split at hv
    · rename_i vs hx
      have hv:vs[i]?=some v:=by rw [K3] at hv;simpa using hv
      simp [execOp,Instr.extract,hx,hv]
    · cases hv
  | unOp op t x =>
    simp only [pv] at hv;split at hv
    · rename_i b hx;cases hv;simp [execOp,Op.unary,hx]
    · rename_i k a hx;cases hv;simp [execOp,Op.unary,Op.intArith,hx]
    · cases hv
  | binOp op t x y u =>
    simp only [pv] at hv;split at hv
    · rename_i k a k' b hx hy
      cases hk:Ez k k' with
      | false=>rw [hk] at hv;cases hv
      | true =>
        rw [hk] at hv;simp only [cond_true] at hv;cases NG hk
        cases op<;>simp only [MM,Option.some.injEq,reduceCtorEq] at hv<;>(try subst hv) <;>
          simp [execOp,eqGuard,binOp,hx,hy,Op.intArith,Op.intCmp,Op.intBits]
    · cases hv
  | _=>cases hv
theorem LW.p {op:Op} (hv:pv (ev e) op=some v) (hd:Nat.ble (d+1) n=true) (h:LW P n ops Q rest (lJ e d v) w) :
    LW P n ops Q (⟨some d,op,ty,pos,aft,none⟩::rest) e w:=LW.u (iM.p hv) hd h
theorem iM.pick {c a b:Operand} {t:Bool} (hc:ρ c=.bool t):iM P ρ (.pick c a b) (bif t then ρ a else ρ b):=by
  intro d ty pos aft g w;cases t<;>simp [execOp,hc,asBool]
theorem iM.Mx {c a b:Operand} {t:Bool} (hc:ρ c=.bool t) (ht:t=true):iM P ρ (.pick c a b) (ρ a):=by subst ht;exact iM.pick hc
theorem iM.Mo {c a b:Operand} {t:Bool} (hc:ρ c=.bool t) (ht:t=false):iM P ρ (.pick c a b) (ρ b):=by subst ht;exact iM.pick hc
theorem iM.quo {t u:TypeId} {x y:Operand} {k:IntKind} {a b:Int} (hx:ρ x=.int k a) (hy:ρ y=.int k b) (hb:b ≠ 0):iM P ρ (.binOp .quo t x y u) (.int k (k.wrap (a.tdiv b))):=by
  intro d ty pos aft g w;simp [execOp,eqGuard,binOp,hx,hy,Op.intDiv,hb]
theorem iM.rem {t u:TypeId} {x y:Operand} {k:IntKind} {a b:Int} (hx:ρ x=.int k a) (hy:ρ y=.int k b) (hb:b ≠ 0):iM P ρ (.binOp .rem t x y u) (.int k (a.tmod b)):=by
  intro d ty pos aft g w;simp [execOp,eqGuard,binOp,hx,hy,Op.intDiv,hb]
theorem iM.shr {t u:TypeId} {x y:Operand} {k k':IntKind} {a b:Int} (hx:ρ x=.int k a) (hy:ρ y=.int k' b) (hb:¬ b<0):iM P ρ (.binOp .shr t x y u) (.int k (a.fdiv (2 ^ (min b.toNat k.bits)))):=by
  intro d ty pos aft g w;simp [execOp,eqGuard,binOp,hx,hy,Op.shift,hb]
theorem iM.beq {t u:TypeId} {x y:Operand} {a b:Bool} (ht:P.underlying t=some .bool) (hx:ρ x=.bool a) (hy:ρ y=.bool b):iM P ρ (.binOp .eql t x y u) (.bool (a==b)):=by
  intro d ty pos aft g w;have h:=run_eql_bool w t a b ht;simp only [execOp,hx,hy];simp [eqGuard,h]
theorem iM.bne {t u:TypeId} {x y:Operand} {a b:Bool} (ht:P.underlying t=some .bool) (hx:ρ x=.bool a) (hy:ρ y=.bool b):iM P ρ (.binOp .neq t x y u) (.bool (!(a==b))):=by
  intro d ty pos aft g w;have h:=run_neq_bool w t a b ht;simp only [execOp,hx,hy];simp [eqGuard,h]
theorem iM.seq {t u:TypeId} {x y:Operand} {a b:ByteArray} (hx:ρ x=.string a) (hy:ρ y=.string b):iM P ρ (.binOp .eql t x y u) (.bool (a.toList==b.toList)):=by
  intro d ty pos aft g w;simp only [execOp,hx,hy];simp [eqGuard,binOp_string_eql]
theorem iM.OA {t u:TypeId} {x y:Operand} {a b:Array Value} {r:Bool} (hm:P.eqGuardType P.depth t=false) (hx:ρ x=.agg a) (hy:ρ y=.agg b)
    (hr:∀ w:World,(Op.equalIn 10000 t (.agg a) (.agg b)).run P w=.ok r w):iM P ρ (.binOp .neq t x y u) (.bool (!r)):=by
  intro d ty pos aft g w;have h1:=run_eqGuard_agg w .neq t x y a b hm;have h2:=run_neq_struct (P:=P) w t a b;rw [hr w] at h2;simp only [execOp,hx,hy];simp [h1,h2]
theorem iM.conv {s t:TypeId} {x:Operand} {ds:TypeDesc} {k k':IntKind} {a:Int} (hs:P.underlying s=some ds) (ht:P.underlying t=some (.int k')) (hx:ρ x=.int k a):iM P ρ (.convert s t x) (.int k' (k'.wrap a)):=by
  intro d ty pos aft g w;simp [execOp,convert,run_underlying hs,run_underlying ht,hx,Conv.intToInt]
theorem iM.len {t el:TypeId} {x:Operand} {a:Option Addr} {l c:Nat} (ht:P.underlying t=some (.slice el)) (hx:ρ x=.slice a l c):iM P ρ (.call { callee:=.builtin .len,args:=#[x],argTypes:=#[t] }) (.int .i64 (l:Int)):=by
  intro d ty pos aft g w;simp [execOp,resolve,invoke,builtin,hx,Builtin.len_,run_underlying ht,goInt]
theorem iM.min {ts:Array TypeId} {x y:Operand} {k:IntKind} {a b:Int} (hx:ρ x=.int k a) (hy:ρ y=.int k b):iM P ρ (.call { callee:=.builtin .min,args:=#[x,y],argTypes:=ts }) (.int k (if b<a then b else a)):=by
  intro d ty pos aft g w;simp [execOp,resolve,invoke,builtin,hx,hy,Builtin.min_,Builtin.min2]
end
end Go.Kx
namespace Go.Kx
open Go Go.RowKit
set_option linter.unusedVariables false
set_option linter.unusedSimpArgs false
def zeroV (P:Program) (t:TypeId):Option Value:=(P.info? t).bind (·.zero)
def sR (P:Program) (t:TypeId):Option Nat:=(P.info? t).map (·.size)
def jH (P:Program) (t:TypeId):Option (Option Nat) :=
  match P.underlying t,P.info? t with
  | some (.struct _),some i | some (.array _ _),some i=>some (some i.size)
  | some _,some i=>if i.size=1 then some none else none
  | _,_=>none
def fo (P:Program) (t:TypeId) (k:Nat):Option (Nat×Option Nat) :=
  match P.underlying t with
  | some (.struct fs) =>
    match fs[k]? with
    | some f=>if sR P f.type=some 0 then none else (jH P f.type).map fun a=>(f.offset,a)
    | none=>none
  | _=>none
theorem add_lit (g o n:Nat):(⟨g,o,none⟩:Addr).add n=⟨g,o+n,none⟩:=by unfold Addr.add;split<;>simp_all
section
variable {P:Program} {w0 w:World} {F0:List Nat} {L:List Item}
theorem St.cell {h:St w0 F0 w L} {i g:Nat} {ty:TypeId} {cs:List Value} (hi:L[i]?=some (bx g ty cs)):w.heap[g]?=some (.cells cs.toArray ty (0,0)):=by
  obtain ⟨F,hF,_,_⟩:=h.own;obtain ⟨Fi,q,_⟩:=hF.at_ i hi;exact q.2
theorem EK (w:World) (ty:TypeId) (cs:List Value):St w [] (w.alloc (.cells cs.toArray ty)) [bx w.heap.size ty cs] :=
  ⟨rfl,rfl,rfl,by simp,fun b hb _=>Below.heap_alloc w _ b hb,[w.heap.size],⟨[w.heap.size],[],rfl,⟨rfl,heap_alloc_new w _⟩,rfl⟩,by simp,by simp⟩
theorem eraseIdx_set:∀ (L:List Item) (i:Nat) (y:Item),i<L.length→(y::L.eraseIdx i).Perm (L.set i y)
  | [],i,y,h=>by simp at h
  | a::L,0,y,h=>by simp
  | a::L,i+1,y,h=>by
    simp only [List.eraseIdx_cons_succ,List.set_cons_succ];exact (List.Perm.swap _ _ _).trans ((eraseIdx_set L i y (by simpa using h)).cons a)
theorem iU {α:Type} {L:List α} {i:Nat} {x:α} (h:L[i]?=some x):i<L.length:=by
  rcases Nat.lt_or_ge i L.length with h1 | h1
  · exact h1
  · rw [List.getElem?_eq_none h1] at h;cases h
theorem St.setAt {w':World} {i:Nat} {x y:Item} (h:St w0 F0 w L) (hi:L[i]?=some x)
    (hx:∀ F,x.p w F→F.Nodup→(∀ b,b ∈ F→b<w.heap.size)→St w F w' [y]):St w0 F0 w' (L.set i y) :=
  (St.head (h.front i hi) hx).perm (eraseIdx_set L i y (iU hi))
theorem OQ (w:World) {g:Nat} {ty:TypeId} {cs:Array Value} {ds:List Value} (hg:w.heap[g]?=some (.cells cs ty (0,0))):St w [g] (w.setRow g ds.toArray) [bx g ty ds] :=
  ⟨rfl,rfl,rfl,by simp,fun b _ hno=>setRow_other w g b ds.toArray (by simpa using hno),[g],⟨[g],[],rfl,⟨rfl,setRow_heap w g cs ds.toArray ty _ hg⟩,rfl⟩,by simp,
    fun b hb=>⟨.inl hb,by
      have:=(Array.getElem?_eq_some_iff.1 hg).1
      simp at hb;subst hb;simpa using this⟩⟩
theorem St.Pa {i g:Nat} {ty:TypeId} {cs ds:List Value} (h:St w0 F0 w L) (hi:L[i]?=some (bx g ty cs)):St w0 F0 (w.setRow g ds.toArray) (L.set i (bx g ty ds)) :=
  h.setAt hi fun F hF _ _=>by
    obtain ⟨rfl,hg⟩:=hF;exact OQ w hg
variable {n:Nat} {Q:lT} {e:Env} {ops:Array Oper} {rest:List Oper} {ty:TypeId} {pos:String} {aft:Array Edge} {d:Nat} {v:Value}
structure Fr (w w':World) (X:List Nat):Prop where
  size:w.heap.size≤w'.heap.size
  same:∀ b,b<w.heap.size→b ∉ X→w'.heap[b]?=w.heap[b]?
theorem LW.alloc {t:TypeId} {z:Value} (hz:zeroV P t=some z) (hS:St w0 F0 w L) (hd:Nat.ble (d+1) n=true)
    (h:∀ (g:Nat) (w':World),St w0 F0 w' (bx g t z.cells.toList::L)→Fr w w' []→LW P n ops Q rest (lJ e d (.pointer (some ⟨g,0,none⟩))) w') :
    LW P n ops Q (⟨some d,.alloc t,ty,pos,aft,none⟩::rest) e w:=by
  unfold zeroV at hz
  cases hi:P.info? t with
  | none=>rw [hi] at hz;cases hz
  | some i =>
    rw [hi] at hz;have hz':i.zero=some z:=hz;refine LW.run (w':=w.alloc (.cells z.cells t)) ?_ hd (h w.heap.size _ (by simpa using hS.add (EK w t z.cells.toList)) ⟨by simp,fun b hb _=>Below.heap_alloc w _ b hb⟩);simp [execOp,Instr.alloc,zeroValue,typeInfo,hi,hz',newVar,newRow]
theorem LW.box {t:TypeId} {x:Operand} {cs:List Value} (hx:(ev e x).cells.toList=cs) (hS:St w0 F0 w L) (hd:Nat.ble (d+1) n=true)
    (h:∀ (g:Nat) (w':World),St w0 F0 w' (bx g t cs::L)→Fr w w' []→LW P n ops Q rest (lJ e d (.pointer (some ⟨g,0,none⟩))) w') :
    LW P n ops Q (⟨some d,.box t x,ty,pos,aft,none⟩::rest) e w:=by
  subst hx;refine LW.run (w':=w.alloc (.cells (ev e x).cells t)) ?_ hd (h w.heap.size _ (by simpa using hS.add (EK w t (ev e x).cells.toList)) ⟨by simp,fun b hb _=>Below.heap_alloc w _ b hb⟩);simp [execOp,Instr.box,newVar,newRow]
theorem qo {t:TypeId} {a:Option Nat} (ht:jH P t=some a):(isAgg t).run P w=.ok a.isSome w∧(sizeOf t).run P w=.ok (a.getD 1) w:=by
  unfold jH at ht
  cases hu:P.underlying t with
  | none=>simp [hu] at ht
  | some ds =>
    cases hi:P.info? t with
    | none=>cases ds<;>simp [hu,hi] at ht
    | some i =>
      cases ds<;>simp [hu,hi] at ht<;>first
        | (obtain ⟨h1,h2⟩:=ht;subst h2;simp [isAgg,run_underlying hu,sizeOf,typeInfo,hi,h1])
        | (subst ht;simp [isAgg,run_underlying hu,sizeOf,typeInfo,hi])
variable {ρ:Operand→Value}
def xf:List Value→Nat→Option Value
  | [],_=>none
  | v::_,0=>some v
  | _::l,i+1=>xf l i
theorem yT:∀ (l:List Value) (i:Nat),xf l i=l[i]?
  | [],i=>by simp [xf]
  | v::l,0=>by simp [xf]
  | v::l,i+1=>by simp [xf,yT l i]
theorem jV.one {t:TypeId} {x:Operand} {a:Addr} (ht:jH P t=some none) (hx:ρ x=.pointer (some a)):jV P ρ (.load t x) (fun w=>w.cell? a=some v) v:=by
  intro d ty pos aft g w hc;simp [execOp,Instr.loadAt,Instr.sureAddr,hx,loadVar,(qo (w:=w) ht).1,hc]
theorem jV.agg {t:TypeId} {x:Operand} {b o m:Nat} {cs:List Value} (ht:jH P t=some (some m)) (hx:ρ x=.pointer (some ⟨b,o,none⟩)) (hl:cs.length=m) :
    jV P ρ (.load t x) (fun w=>∀ (j:Nat) (u:Value),cs[j]?=some u→w.cell? ⟨b,o+j,none⟩=some u) (.agg cs.toArray):=by
  intro d ty pos aft g w hc;subst hl;have hr:=run_loadCells_list (P:=P) w ⟨b,o,none⟩ cs (fun j u hu=>by rw [add_lit];exact hc j u hu);have:=qo (w:=w) ht;simp [execOp,Instr.loadAt,Instr.sureAddr,hx,loadVar,this.1,this.2,hr]
def tf:List Value→Nat→Nat→List Value
  | _,_,0=>[]
  | [],_,_+1=>[]
  | v::l,0,m+1=>v::tf l 0 m
  | _::l,i+1,m+1=>tf l i (m+1)
theorem zV:∀ (l:List Value) (o m j:Nat) (u:Value),(tf l o m)[j]?=some u→l[o+j]?=some u
  | _,_,0,j,u,h=>by simp [tf] at h
  | [],_,_+1,j,u,h=>by simp [tf] at h
  | v::l,0,m+1,0,u,h=>by simpa [tf] using h
  | v::l,0,m+1,j+1,u,h=>by
    have:=zV l 0 m j u (by simpa [tf] using h);simpa using this
  | v::l,i+1,m+1,j,u,h=>by
    have:=zV l i (m+1) j u (by simpa [tf] using h);rw [show i+1+j=(i+j)+1 by omega];simpa using this
theorem vk:∀ (l:List Value) (o m:Nat),o+m≤l.length→(tf l o m).length=m
  | _,_,0,h=>by simp [tf]
  | [],_,m+1,h=>by simp at h
  | v::l,0,m+1,h=>by simp [tf,vk l 0 m (by simp at h;omega)]
  | v::l,i+1,m+1,h=>by simp [tf,vk l i (m+1) (by simp at h;omega)]
theorem jV.box {t bt:TypeId} {x:Operand} {g o:Nat} {cs:List Value} {fr:Nat×Nat} (ht:jH P t=some none) (hx:ρ x=.pointer (some ⟨g,o,none⟩)) (hv:xf cs o=some v):jV P ρ (.load t x) (fun w=>w.heap[g]?=some (.cells cs.toArray bt fr)) v :=
  fun d ty pos aft gd w hc=>jV.one (a:=⟨g,o,none⟩) ht hx d ty pos aft gd w ((cell_of_row w g o cs.toArray bt fr hc).trans (by rw [yT] at hv;simpa using hv))
theorem jV.OB {t bt:TypeId} {x:Operand} {g o m:Nat} {cs:List Value} {fr:Nat×Nat} (ht:jH P t=some (some m)) (hx:ρ x=.pointer (some ⟨g,o,none⟩)) (hl:Nat.ble (o+m) cs.length=true) :
    jV P ρ (.load t x) (fun w=>w.heap[g]?=some (.cells cs.toArray bt fr)) (.agg (tf cs o m).toArray):=by
  have hl:=Nat.le_of_ble_eq_true hl;refine fun d ty pos aft gd w hc=>jV.agg ht hx (vk _ _ _ hl) d ty pos aft gd w (fun j u hu=>?_);rw [cell_of_row w g (o+j) cs.toArray bt fr hc];simpa using zV _ _ _ _ _ hu
theorem jV.lR {t:TypeId} {x:Operand} {a:Addr} (w1:World) (ht:jH P t=some none) (hx:ρ x=.pointer (some a)) (hv:w1.cell? a=some v):jV P ρ (.load t x) (fun w=>w.heap[a.block]?=w1.heap[a.block]?) v :=
  fun d ty pos aft gd w hc=>jV.one (a:=a) ht hx d ty pos aft gd w ((World.cell?_of_block (w:=w1) hc).trans hv)
theorem jV.w6 {t:TypeId} {x:Operand} {b o m:Nat} {cs:List Value} (w1:World) (ht:jH P t=some (some m)) (hx:ρ x=.pointer (some ⟨b,o,none⟩)) (hl:cs.length=m) (hv:∀ (j:Nat) (u:Value),cs[j]?=some u→w1.cell? ⟨b,o+j,none⟩=some u) :
    jV P ρ (.load t x) (fun w=>w.heap[b]?=w1.heap[b]?) (.agg cs.toArray) :=
  fun d ty pos aft gd w hc=>jV.agg ht hx hl d ty pos aft gd w (fun j u hu=>(World.cell?_of_block (w:=w1) (a:=⟨b,o+j,none⟩) hc).trans (hv j u hu))
theorem LW.Qx {t bt:TypeId} {x:Operand} {g o:Nat} {cs:List Value} (hS:St w0 F0 w L) (i:Nat) (hi:L[i]?=some (bx g bt cs)) (ht:jH P t=some none) (hx:ev e x=.pointer (some ⟨g,o,none⟩)) (hv:xf cs o=some v) (hd:Nat.ble (d+1) n=true)
    (h:LW P n ops Q rest (lJ e d v) w):LW P n ops Q (⟨some d,.load t x,ty,pos,aft,none⟩::rest) e w :=
  LW.l (jV.box ht hx hv) (St.cell (h:=hS) hi) hd h
theorem LW.Qu {t bt:TypeId} {x:Operand} {g o m:Nat} {cs:List Value} (hS:St w0 F0 w L) (i:Nat) (hi:L[i]?=some (bx g bt cs)) (ht:jH P t=some (some m)) (hx:ev e x=.pointer (some ⟨g,o,none⟩)) (hl:Nat.ble (o+m) cs.length=true) (hd:Nat.ble (d+1) n=true)
    (h:LW P n ops Q rest (lJ e d (.agg (tf cs o m).toArray)) w):LW P n ops Q (⟨some d,.load t x,ty,pos,aft,none⟩::rest) e w :=
  LW.l (jV.OB ht hx hl) (St.cell (h:=hS) hi) hd h
def wT (cs:Array Value) (o:Nat) (vs:List Value):Array Value:=(cs.toList.take o++vs++cs.toList.drop (o+vs.length)).toArray
def ov:List Value→List Value→List Value
  | l,[]=>l
  | [],v::vs=>v::vs
  | _::l,v::vs=>v::ov l vs
def yE:List Value→Nat→List Value→List Value
  | l,0,vs=>ov l vs
  | [],_+1,vs=>vs
  | x::l,i+1,vs=>x::yE l i vs
theorem MH:∀ (l vs:List Value),vs.length≤l.length→ov l vs=vs++l.drop vs.length
  | l,[],_=>by cases l<;>simp [ov]
  | [],v::vs,h=>by simp at h
  | x::l,v::vs,h=>by simp [ov,MH l vs (by simpa using h)]
theorem AX:∀ (l:List Value) (i:Nat) (vs:List Value),i+vs.length≤l.length→yE l i vs=l.take i++vs++l.drop (i+vs.length)
  | l,0,vs,h=>by
    have:=MH l vs (by omega);cases l<;>simpa [yE] using this
  | [],i+1,vs,h=>by simp at h
  | x::l,i+1,vs,h=>by
    have:=AX l i vs (by simp at h;omega);simp [yE,this,show i+1+vs.length=(i+vs.length)+1 by omega]
theorem LW.P1 {t bt:TypeId} {x y:Operand} {a:Option Nat} {g o:Nat} {cs vs:List Value} (hS:St w0 F0 w L) (i:Nat) (hi:L[i]?=some (bx g bt cs)) (ht:jH P t=some a) (hx:ev e x=.pointer (some ⟨g,o,none⟩))
    (hy:(ev e y).cells.toList=vs) (hm:vs.length=a.getD 1) (hl:Nat.ble (o+vs.length) cs.length=true) (h1:vs.all (·.oneCell')=true)
    (h:∀ w':World,St w0 F0 w' (L.set i (bx g bt (yE cs o vs)))→Fr w w' [g]→LW P n ops Q rest e w'):LW P n ops Q (⟨none,.store t x y,ty,pos,aft,none⟩::rest) e w:=by
  have hg:=St.cell (h:=hS) hi;have hl:=Nat.le_of_ble_eq_true hl;have hr:=run_storeCells_at P g o bt vs 0 cs.toArray w hg (by simpa using hl) (fun u hu=>List.all_eq_true.1 h1 u hu);simp only [Nat.add_zero] at hr;rw [← AX cs o vs (by omega)] at hr;refine LW.Cc (w':=w.setRow g (yE cs o vs).toArray) ?_ (h _ (hS.Pa hi) ⟨by simp,fun b _ hb=>setRow_other w g b _ (by simpa using hb)⟩);have:=qo (w:=w) ht
  have hy2:(ev e y).cells.size=a.getD 1:=by rw [← hm, ← hy,Array.length_toList]
  simp [execOp,Instr.storeAt,Instr.sureAddr,hx,storeVar,hy,hy2,this.2,hr]
theorem HG {t:TypeId} {k off:Nat} {a:Option Nat} (h:fo P t k=some (off,a)):∃ fs f i,P.underlying t=some (.struct fs)∧fs[k]?=some f∧f.offset=off∧P.info? f.type=some i∧i.size ≠ 0∧jH P f.type=some a:=by
  unfold fo at h;split at h
  · rename_i fs hu;split at h
    · rename_i f hf;split at h
      · cases h
      · rename_i hz
        cases ha:jH P f.type with
        | none=>rw [ha] at h;cases h
        | some a' =>
          rw [ha] at h;simp at h;obtain ⟨h1,h2⟩:=h;subst h1;subst h2
          cases hi:P.info? f.type with
          | none =>
            unfold jH at ha;rw [hi] at ha;split at ha<;>simp_all
          | some i=>exact ⟨fs,f,i,hu,hf,rfl,hi,fun h0=>hz (by simp [sR,hi,h0]),ha⟩
    · cases h
  · cases h
theorem iM.fa {t:TypeId} {x:Operand} {k off g o:Nat} {a:Option Nat} (hf:fo P t k=some (off,a)) (hx:ρ x=.pointer (some ⟨g,o,none⟩)):iM P ρ (.fieldAddr t x k) (.pointer (some ⟨g,o+off,none⟩)):=by
  intro d ty pos aft gd w;obtain ⟨fs,f,i,hu,hk,rfl,hi,hne,ha⟩:=HG hf;simp [execOp,Instr.fieldAt,run_underlying hu,hk,hx,Instr.sureAddr,fieldPlace,sizeOf,typeInfo,hi,hne,add_lit]
theorem iM.fd {t:TypeId} {x:Operand} {k off:Nat} {cs:Array Value} (hf:fo P t k=some (off,none)) (hx:ρ x=.agg cs) (hv:xf cs.toList off=some v):iM P ρ (.field t x k) v:=by
  intro d ty pos aft gd w
  have hv:cs[off]?=some v:=by rw [yT] at hv;simpa using hv
  obtain ⟨fs,f,i,hu,hk,rfl,hi,hne,ha⟩:=HG hf;simp [execOp,Instr.field,run_underlying hu,hk,hx,asAgg,part,(qo (w:=w) ha).1,hv]
theorem iM.ix {t el:TypeId} {x y:Operand} {b o l c m:Nat} {k:IntKind} {i:Int} (ht:P.underlying t=some (.slice el)) (hm:sR P el=some m) (hx:ρ x=.slice (some ⟨b,o,none⟩) l c) (hy:ρ y=.int k i) (h0:0≤i) (h1:i<l) :
    iM P ρ (.indexAddr t x y) (.pointer (some ⟨b,o+i.toNat * m,none⟩)):=by
  intro d ty pos aft gd w
  cases hi:P.info? el with
  | none=>simp [sR,hi] at hm
  | some inf =>
    have hm':inf.size=m:=by simpa [sR,hi] using hm
    simp [execOp,Instr.indexAt,hx,hy,asIntOf,run_underlying ht,h0,h1,sizeOf,typeInfo,hi,hm',add_lit]
theorem iM.nc {x:Operand} {a:Addr} (hx:ρ x=.pointer (some a)):iM P ρ (.nilCheck x) (.pointer (some a)):=by
  intro d ty pos aft gd w;simp [execOp,hx]
theorem iM.build {t:TypeId} {parts:Array (Nat×Operand)} {vs:List (Nat×Value)} {cs:Array Value} (hp:parts.toList.map (fun p=>(p.1,ρ p.2))=vs) (hb:P.built t vs=some cs):iM P ρ (.build t parts) (.agg cs):=by
  intro d ty pos aft gd w
  have hp':(parts.map fun (i,x)=>(i,ρ x)).toList=vs:=by rw [← hp];simp
  subst hp';simp only [execOp,Sem.run_bind,run_build w t _ cs hb,Result.andThen_ok];rfl
end
end Go.Kx
namespace Go.Kx
open Go Go.RowKit
set_option linter.unusedVariables false
set_option linter.unusedSimpArgs false
def gX:Nat:=16777216
def idx {α:Type} (l:List α) (i:Int):Option α:=if 0≤i then l[i.toNat]? else none
def app {α:Type} (l m:List α):Option (List α):=if l.length+m.length<gX then some (l++m) else none
def mk (α:Type) [ia α] (n:Int):Option (List α):=if 0≤n∧n.toNat<gX then some (List.replicate n.toNat ia.zero) else none
def P0 (P:Program) (t:TypeId):Option (TypeId×Nat×Nat×List Value) :=
  match P.underlying t with
  | some (.slice e) =>
    match P.info? e with
    | some i=>match i.zero with
      | some z=>some (e,i.size,i.bytes,z.cells.toList)
      | none=>none
    | none=>none
  | _=>none
structure nC (P:Program) (t:TypeId) (α:Type) [ia α]:Prop where
  Fu:P.underlying t=some (.slice (ia.ty α))
  info:∃ i z,P.info? (ia.ty α)=some i∧i.zero=some z∧i.size=ia.sz α∧i.bytes≤4096∧z.cells.toList=ia.zc α
theorem nC.of {P:Program} {t:TypeId} {α:Type} [ia α] {b:Nat} (h:P0 P t=some (ia.ty α,ia.sz α,b,ia.zc α)) (hb:Nat.ble b 4096=true):nC P t α:=by
  unfold P0 at h;split at h
  · rename_i el hu;split at h
    · rename_i i hi;split at h
      · rename_i z hz;simp only [Option.some.injEq,Prod.mk.injEq] at h;obtain ⟨h1,h2,h3,h4⟩:=h;subst h1;subst h3;exact ⟨hu,i,z,hi,hz,h2,Nat.le_of_ble_eq_true hb,h4⟩
      · cases h
    · cases h
  · cases h
section
variable {P:Program} {w0 w:World} {F0:List Nat} {L M:List Item} {α:Type} [ia α]
theorem iV.idx {S:Nat→Prop} {a:Option Addr} {c:Nat} {l:List α} (h:iV S w a c l) {i:Int} {x:α} (hx:idx l i=some x) :
    ∃ b o cs,a=some ⟨b,o,none⟩∧S b∧0≤i∧i<(l.length:Int)∧ia.rd S w cs x∧∀ (j:Nat) (u:Value),cs[j]?=some u→w.cell? ⟨b,o+i.toNat * ia.sz α+j,none⟩=some u:=by
  unfold Kx.idx at hx;split at hx
  · rename_i h0;have hlt:=iU hx
    have hne:l ≠ []:=by rintro rfl;simp at hlt
    obtain ⟨b,o,ha,hb,hc⟩:=h.cells hne;obtain ⟨cs,h1,h2⟩:=hc _ _ hx;exact ⟨b,o,cs,ha,hb,h0,by omega,h1,h2⟩
  · cases hx
theorem St.Pu {a:Option Addr} {c:Nat} {l:List α} (h:St w0 F0 w L) (hr:iV (ki w0 F0) w0 a c l):iV (ki w0 F0) w a c l :=
  hr.lE fun b hb=>h.same b hb.1 hb.2
theorem nB.iu {a:Option Addr} {c:Nat} {F:List Nat} {l:List α} {k:Int} {x:α} (q:nB w a c F l) (hx:idx l k=some x):∃ g o,a=some ⟨g,o,none⟩∧0≤k∧k<(l.length:Int):=by
  unfold Kx.idx at hx;split at hx
  · rename_i h0;have hlt:=iU hx
    rcases q with ⟨_,_,rfl,_⟩ | ⟨g,o,cur,F',ha,_⟩
    · simp at hlt
    · exact ⟨g,o,ha,h0,by omega⟩
  · cases hx
theorem St.iu {i:Nat} {a:Option Addr} {c:Nat} {l:List α} {k:Int} {x:α} (h:St w0 F0 w L) (hi:L[i]?=some (sl a c l)) (hx:idx l k=some x) :
    ∃ g o,a=some ⟨g,o,none⟩∧0≤k∧k<(l.length:Int):=by
  obtain ⟨F,hF,_,_⟩:=h.own;obtain ⟨Fi,q,_⟩:=hF.at_ i hi;exact nB.iu q hx
theorem HF (c0 c1 c2 vs:List Value) (o:Nat) (h:o+vs.length≤c1.length) :
    (c0++(c1++c2)).take (c0.length+o)++vs++(c0++(c1++c2)).drop (c0.length+o+vs.length)=c0++((c1.take o++vs++c1.drop (o+vs.length))++c2):=by
  rw [List.take_length_add_append,List.take_append_of_le_length (by omega),Nat.add_assoc,List.drop_length_add_append,List.drop_append_of_le_length (by omega)];simp
theorem Nq {a:Option Addr} {c:Nat} {F:List Nat} {l:List α} {k:Nat} {x:α} (h:nB w a c F l) (hn:F.Nodup) (hk:l[k]?=some x) :
    ∃ g o cur c0 c1 c2 Fk,a=some ⟨g,o,none⟩∧w.heap[g]?=some (.cells cur (ia.ty α) (0,0))∧cur.toList=c0++(c1++c2)∧c0.length=o+k * ia.sz α∧ia.own w c1 Fk x∧g ∈ F∧g ∉ Fk∧(∀ b,b ∈ Fk→b ∈ F)∧Fk.Nodup ∧
      ∀ (w':World) (cur':Array Value) (d1:List Value) (G:List Nat) (y:α),ia.own w' d1 G y→w'.heap[g]?=some (.cells cur' (ia.ty α) (0,0))→cur'.toList=c0++(d1++c2) →
        (∀ b,b ∈ F→b ∉ Fk→b ≠ g→w'.heap[b]?=w.heap[b]?)→(∀ b,b ∈ G→b ∉ F∨b ∈ Fk)→G.Nodup →
        ∃ F',nB w' a c F' (l.set k y)∧F'.Nodup∧(∀ b,b ∈ F'→b ∈ F∨b ∈ G):=by
  have hlt:=iU hk
  rcases h with ⟨_,_,rfl,_⟩ | ⟨g,o,cur,F',ha,hg,hs,h1,h2,rfl,he⟩
  · simp at hlt
  · obtain ⟨c0,c1,c2,G0,G1,G2,hc,hF,hl,q1,q2⟩:=he.set k hk;have hl1:=ia.jc q1
    have ho:o≤cur.size:=by omega
    have hto:(cur.toList.take o).length=o:=by rw [List.length_take,Array.length_toList];omega
    have hcc:cur.toList=(cur.toList.take o++c0)++(c1++c2):=by rw [List.append_assoc, ← hc,List.take_append_drop]
    have hsz:cur.size=o+(c0.length+(c1.length+c2.length)):=by rw [← Array.length_toList,hcc];simp [hto, -Array.length_toList]<;>omega
    subst hF;obtain ⟨hgn,hnd⟩:=List.nodup_cons.1 hn;obtain ⟨n0,n12,d0⟩:=List.nodup_append.1 hnd;obtain ⟨n1,n2,d12⟩:=List.nodup_append.1 n12;refine ⟨g,o,cur,_,c1,c2,G1,ha,hg,hcc,by rw [List.length_append,hto,hl],q1,by simp,fun h=>hgn (by simp [h]),fun b hb=>by simp [hb],n1,?_⟩;intro w' cur' d1 G y hy hg' hsp hb hG hGn;have hld:=ia.jc hy
    have hfr:∀ b,b ∈ G0++G2→w'.heap[b]?=w.heap[b]?:=by
      intro b hbb
      have hm:b ∈ G0++(G1++G2):=by
        rcases List.mem_append.1 hbb with h | h<;>simp [h]
      refine hb b (List.mem_cons_of_mem _ hm) (fun h1=>?_) (fun h=>hgn (h ▸ hm))
      rcases List.mem_append.1 hbb with h | h
      · exact d0 b h b (List.mem_append_left _ h1) rfl
      · exact d12 b h1 b h rfl
    have hEls:=q2 w' d1 G y hy hfr
    have hGout:∀ b,b ∈ G→b ≠ g∧b ∉ G0∧b ∉ G2:=by
      intro b hbG;have key:b ∈ G1∨b ∉ (g::(G0++(G1++G2))):=(hG b hbG).symm
      rcases key with h | h
      · refine ⟨fun e=>hgn (by simp [← e,h]),fun h0=>d0 b h0 b (List.mem_append_left _ h) rfl,fun h2=>d12 b h b h2 rfl⟩
      · simp at h;exact ⟨h.1,h.2.1,h.2.2.2⟩
    have hdr:cur'.toList.drop o=c0++(d1++c2):=by
      rw [hsp,List.append_assoc];exact List.drop_left' hto
    refine ⟨g::(G0++(G++G2)),.inr ⟨g,o,_,_,ha,hg',?_,by simpa using h1,h2,rfl,?_⟩,?_,?_⟩
    · have:cur'.size=cur.size:=by
        rw [← Array.length_toList,hsp,hsz];simp [hld,hl1,hto]<;>omega
      rw [this];exact hs
    · rw [hdr];exact hEls
    · refine List.nodup_cons.2 ⟨?_,List.nodup_append.2 ⟨n0,List.nodup_append.2 ⟨hGn,n2,fun a ha b hb e=>(hGout a ha).2.2 (e ▸ hb)⟩,?_⟩⟩
      · intro hm
        rcases List.mem_append.1 hm with h | h
        · exact hgn (by simp [h])
        · rcases List.mem_append.1 h with h | h
          · exact (hGout g h).1 rfl
          · exact hgn (by simp [h])
      · intro a ha b hb e;subst e
        rcases List.mem_append.1 hb with h | h
        · exact (hGout a h).2.1 ha
        · exact d0 a ha a (List.mem_append_right _ h) rfl
    · intro b hb;simp at hb ⊢
      rcases hb with h | h | h | h<;>simp [h]
theorem St.Kb {i:Nat} {a:Option Addr} {c:Nat} {l:List α} {k:Int} {x y:α} {o:Nat} {vs:List Value} (h:St w0 F0 w (M++L)) (hi:L[i]?=some (sl a c l)) (hx:Kx.idx l k=some x)
    (hold:o+vs.length≤ia.sz α) (hM:∀ (w:World) (cs:List Value) (F G:List Nat),ia.own w cs F x→iP M w G→∃ F',ia.own w (cs.take o++vs++cs.drop (o+vs.length)) F' y∧(∀ b,b ∈ F'→b ∈ F∨b ∈ G)∧(F.Nodup→G.Nodup→(∀ b,b ∈ F→b ∉ G)→F'.Nodup)) :
    ∃ g o0 cur,a=some ⟨g,o0,none⟩∧0≤k∧k<(l.length:Int)∧w.heap[g]?=some (.cells cur (ia.ty α) (0,0))∧o0+k.toNat * ia.sz α+o+vs.length≤cur.size ∧
      St w0 F0 (w.setRow g (wT cur (o0+k.toNat * ia.sz α+o) vs)) (L.set i (sl a c (l.set k.toNat y))):=by
  unfold Kx.idx at hx;split at hx
  case isFalse=>cases hx
  case isTrue h0 =>
  have hlt:=iU hx
  have h':St w0 F0 w ((sl a c l::M)++L.eraseIdx i):=by
    have:=h.front (M.length+i) (x:=sl a c l) (by rw [List.getElem?_append_right (by omega),Nat.add_sub_cancel_left];exact hi);refine this.perm ?_
    have e:(M++L).eraseIdx (M.length+i)=M++L.eraseIdx i:=by
      rw [List.eraseIdx_append_of_length_le (by omega)];simp
    rw [e];simp
  obtain ⟨F,hF,hn,hlt2,_,_,hm⟩:=h'.share;obtain ⟨F1,F2,rfl,q1,q2⟩:=hF;obtain ⟨n1,n2,nd⟩:=List.nodup_append.1 hn;obtain ⟨g,o0,cur,c0,c1,c2,Fk,ha,hg,hc,hl0,r1,r2,hgk,r3,nk,r5⟩:=Nq q1 n1 hx;have hl1:=ia.jc r1
  have hsz:cur.size=c0.length+(c1.length+c2.length):=by rw [← Array.length_toList,hc];simp
  refine ⟨g,o0,cur,ha,h0,by omega,hg,by omega,?_⟩;generalize hw':w.setRow g (wT cur (o0+k.toNat * ia.sz α+o) vs)=w'
  have hgw:w'.heap[g]?=some (.cells (wT cur (o0+k.toNat * ia.sz α+o) vs) (ia.ty α) (0,0)):=by subst hw';exact setRow_heap w g cur _ _ _ hg
  have hoth:∀ b,b ≠ g→w'.heap[b]?=w.heap[b]?:=by subst hw';exact fun b hb=>setRow_other w g b _ hb
  have hsize:w'.heap.size=w.heap.size:=by subst hw';simp
  have hown1:ia.own w' c1 Fk x:=ia.j8 r1 fun b hb=>hoth b fun e=>hgk (e ▸ hb);have hMw:iP M w' F2:=q2.frame fun b hb=>hoth b fun e=>nd g r2 b hb e.symm;obtain ⟨F',t1,t2,t3⟩:=hM w' c1 Fk F2 hown1 hMw
  have hcur:(wT cur (o0+k.toNat * ia.sz α+o) vs).toList=c0++((c1.take o++vs++c1.drop (o+vs.length))++c2):=by
    unfold wT;rw [hc, ← hl0];exact HF c0 c1 c2 vs o (by omega)
  obtain ⟨F3,u1,u2,u3⟩:=r5 w' _ _ F' y t1 hgw hcur (fun b _ _ hne=>hoth b hne)
    (fun b hb=>(t2 b hb).elim (fun h=>.inr h) (fun h=>.inl fun h1=>nd b h1 b h rfl)) (t3 nk n2 (fun b hb hb2=>nd b (r3 b hb) b hb2 rfl))
  refine (hm w' [sl a c (l.set k.toNat y)] ?_).perm (eraseIdx_set L i _ (iU hi))
  have hF3:∀ b,b ∈ F3→b ∈ F1++F2:=fun b hb=>by
    rcases u3 b hb with h | h
    · exact List.mem_append_left _ h
    · rcases t2 b h with h | h
      · exact List.mem_append_left _ (r3 b h)
      · exact List.mem_append_right _ h
  refine ⟨by subst hw';rfl,by subst hw';rfl,by subst hw';rfl,by omega,fun b _ hno=>hoth b fun e=>hno (e ▸ List.mem_append_left _ r2),F3,⟨F3,[],by simp,u1,rfl⟩,u2,fun b hb=>⟨.inl (hF3 b hb),?_⟩⟩;rw [hsize];exact hlt2 b (hF3 b hb)
end
end Go.Kx
