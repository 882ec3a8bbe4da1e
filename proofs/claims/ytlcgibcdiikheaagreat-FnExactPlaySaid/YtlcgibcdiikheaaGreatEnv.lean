import Derived.WalkKit
import Derived.LoopN
import Derived.Maps.AppendAt
import Derived.OrdersHeld
namespace Go.Kx
set_option linter.unusedVariables false
set_option linter.unusedSimpArgs false
open Go Go.RowKit
theorem PB {α β:Type} (x:α) (f:α→Option β):(some x).bind f=f x:=rfl
theorem PC {α:Type} (a b:α):cond false a b=b:=rfl
theorem PD {α:Type} (a b:α):cond true a b=a:=rfl
theorem PE:(!true)=false:=rfl
theorem PF (b:Bool):(true&&b)=b:=by cases b<;>rfl
theorem PG (a b:Bool):((a&&b)=true)=(a=true∧b=true):=by cases a<;>cases b<;>simp
abbrev Env:=Nat→Value
def kP (e:Env) (d:Nat) (v:Value):Env:=fun i=>bif Nat.beq i d then v else e i
def ev (e:Env):Operand→Value
  | .tmp t=>e t
  | .const v=>v
  | .global g=>.pointer (some ⟨g,0,none⟩)
  | .func f=>.func (.func f) #[] #[]
structure Is (a:Act) (n:Nat) (e:Env):Prop where
  defers:a.defers=[]
  size:a.tmps.size=n
  get:∀ i,a.tmps.getD i undef=e i
theorem Is.eval {a:Act} {n:Nat} {e:Env} (h:Is a n e):a.eval=ev e:=by
  funext x
  cases x with
  | tmp t=>exact h.get t
  | const v=>rfl
  | global g=>rfl
  | func f=>rfl
theorem Is.put {a:Act} {n:Nat} {e:Env} (h:Is a n e) {d:Nat} (hd:d<n) (v:Value):Is (a.put (some d) v) n (kP e d v):=by
  refine ⟨h.defers,?_,fun i=>?_⟩
  · simp [Act.put,h.size]
  · have hs:=h.size;have hg:=h.get i;unfold kP;simp only [Act.put,Array.getD_eq_getD_getElem?,Array.getElem?_setIfInBounds] at hg ⊢
    by_cases hi:i=d
    · subst hi;simp [hs,hd]
    · have hb:Nat.beq i d=false:=by
        cases hb:Nat.beq i d
        · rfl
        · exact absurd (Nat.eq_of_beq_eq_true hb) hi
      rw [hb,if_neg (fun h=>hi h.symm)];exact hg
theorem Is.Kz {a:Act} {n:Nat} {e:Env} (h:Is a n e) (v:Value):Is (a.put none v) n e:=h
abbrev kV:=Exit→Env→World→Prop
def calm:Exit→Prop
  | .panic _ | .outgrown=>False
  | _=>True
def lift (n:Nat) (Q:kV):Exit→Act→World→Prop:=fun x a w=>calm x∧∃ e,Is a n e∧Q x e w
def CW (P:Program) (n:Nat) (c:Code) (Q:kV) (e:Env) (w:World):Prop:=∀ a,Is a n e→c.wp P (lift n Q) a w
def LW (P:Program) (n:Nat) (ops:Array Oper) (Q:kV) (rest:List Oper) (e:Env) (w:World):Prop:=∀ a,Is a n e→wpList P ops (lift n Q) rest a w
def zq (next:Env→World→Prop) (Q:kV):kV
  | .normal,e,w=>next e w
  | x,e,w=>Q x e w
def D3 (id:Nat) (Q:kV):kV
  | .exit id',e,w=>bif Nat.beq id' id then Q .normal e w else Q (.exit id') e w
  | x,e,w=>Q x e w
def iq (e:Env):List (Nat×Value)→Env
  | []=>e
  | (d,v)::l=>kP (iq e l) d v
def En (e:Env):List (Nat×Value)→Prop
  | []=>True
  | (d,v)::l=>e d=v∧En e l
theorem KO {e:Env} {d:Nat} {v:Value} (h:e d=v):e=kP e d v:=by
  funext i
  unfold kP;cases hb:Nat.beq i d
  · rfl
  · rw [Nat.eq_of_beq_eq_true hb,h];rfl
theorem En.out {e:Env}:∀ {l:List (Nat×Value)},En e l→∃ e',e=iq e' l
  | [],_=>⟨e,rfl⟩
  | (d,v)::l,⟨h1,h2⟩=>by
    obtain ⟨e',he⟩:=En.out h2;exact ⟨e',by show e=kP (iq e' l) d v;rw [← he];exact KO h1⟩
section
variable {P:Program} {n:Nat} {Q Q':kV} {e:Env} {w:World} {ops:Array Oper} {rest:List Oper} {o:Oper}
theorem CW.mono {c:Code} (h:CW P n c Q e w) (hq:∀ x e w,Q x e w→Q' x e w):CW P n c Q' e w :=
  fun a ha=>Code.wp_mono (fun _ _ _ ⟨c,e,he,q⟩=>⟨c,e,he,hq _ _ _ q⟩) (h a ha)
theorem CW.seq {x y:Code} (h:CW P n x (zq (CW P n y Q) Q) e w):CW P n (.seq x y) Q e w:=by
  intro a ha;refine wp_seq (Code.wp_mono ?_ (h a ha));rintro ex a' w' ⟨hc,e',he',hq⟩
  cases ex with
  | normal=>exact hq a' he'
  | _=>exact ⟨hc,e',he',hq⟩
theorem CW.skip (h:Q .normal e w):CW P n .skip Q e w:=fun _ ha=>wp_skip ⟨trivial,e,ha,h⟩
theorem CW.exit {id:Nat} (h:Q (.exit id) e w):CW P n (.exit id) Q e w:=fun _ ha=>wp_exit ⟨trivial,e,ha,h⟩
theorem CW.ret (h:Q .ret e w):CW P n .ret Q e w:=fun _ ha=>wp_ret ⟨trivial,e,ha,h⟩
theorem CW.cond {c:Operand} {x y:Code} {t:Bool} (hc:ev e c=.bool t) (ht:t=true→CW P n x Q e w) (hf:t=false→CW P n y Q e w):CW P n (.cond c x y) Q e w:=by
  intro a ha;refine wp_cond_split (t:=t) (by rw [ha.eval];exact hc) (fun h=>ht h a ha) (fun h=>hf h a ha)
theorem CW.block {id:Nat} {c:Code} (h:CW P n c (D3 id Q) e w):CW P n (.block id c) Q e w:=by
  intro a ha;refine wp_block (Code.wp_mono ?_ (h a ha));rintro ex a' w' ⟨hc,e',he',hq⟩
  cases ex with
  | exit id' =>
    by_cases hid:id'=id
    · subst hid;simp only [D3,Nat.beq_refl,cond_true] at hq;simp only [Exit.inBlock,if_true];exact ⟨trivial,e',he',hq⟩
    · have hb:Nat.beq id' id=false:=by
        cases hb:Nat.beq id' id
        · rfl
        · exact absurd (Nat.eq_of_beq_eq_true hb) hid
      simp only [D3,hb,cond_false] at hq;simp only [Exit.inBlock,hid,if_false];exact ⟨trivial,e',he',hq⟩
  | _=>exact ⟨hc,e',he',hq⟩
theorem CW.region {id:Nat} {l:List Oper} (h:LW P n l.toArray Q l e w):CW P n (.region id l.toArray false) Q e w:=fun a ha=>wp_region_lit (h a ha)
theorem LW.nil (h:Q .normal e w):LW P n ops Q [] e w:=fun _ ha=>wpList_nil ⟨trivial,e,ha,h⟩
theorem LW.run {op:Op} {ty:TypeId} {pos:String} {aft:Array Edge} {d:Nat} {v:Value} {w':World}
    (hr:(execOp (ev e) ⟨some d,op,ty,pos,aft,none⟩).run P w=.ok (.value v) w') (hd:Nat.ble (d+1) n=true) (h:LW P n ops Q rest (kP e d v) w') :
    LW P n ops Q (⟨some d,op,ty,pos,aft,none⟩::rest) e w:=by
  intro a ha;refine wpList_plain rfl fun K hK=>?_;unfold Oper.wp;rw [ha.eval,hr];exact hK _ _ (h _ (ha.put (Nat.le_of_ble_eq_true hd) v))
theorem LW.BN {op:Op} {ty:TypeId} {pos:String} {aft:Array Edge} {w':World}
    (hr:(execOp (ev e) ⟨none,op,ty,pos,aft,none⟩).run P w=.ok .skip w') (h:LW P n ops Q rest e w') :
    LW P n ops Q (⟨none,op,ty,pos,aft,none⟩::rest) e w:=by
  intro a ha;refine wpList_plain rfl fun K hK=>?_;unfold Oper.wp;rw [ha.eval,hr];exact hK _ _ (h _ (ha.Kz _))
def oQ (ops:Array Oper) (g:Option (Nat×Bool)) (e:Env):Bool :=
  match g with
  | none=>true
  | some (j,b) =>
    match (ops[j]?).bind (·.dst) with
    | some d=>match e d with
      | .bool t=>t==b
      | _=>false
    | none=>false
theorem wZ {o:Oper} {a:Act} (ha:Is a n e):Region.wanted o (yielded ops a.tmps)=oQ ops o.guard e:=by
  unfold Region.wanted oQ
  cases o.guard with
  | none=>rfl
  | some g =>
    obtain ⟨j,b⟩:=g;simp only [yielded]
    cases hd:(ops[j]?).bind (·.dst) with
    | none=>rfl
    | some d =>
      have hg:=ha.get d;simp only [Option.bind_some];rw [Array.getD_eq_getD_getElem?] at hg
      cases ht:a.tmps[d]? with
      | none=>rw [ht] at hg;simp at hg;rw [← hg];rfl
      | some v =>
        rw [ht] at hg;simp at hg;rw [hg];cases e d<;>rfl
theorem lJ {j d:Nat} {b t:Bool} (hd:(ops[j]?).bind (·.dst)=some d) (hv:e d=.bool t) (ht:t=b):oQ ops (some (j,b)) e=true:=by
  subst ht;simp [oQ,hd,hv]
theorem EI {j d:Nat} {b t:Bool} (hd:(ops[j]?).bind (·.dst)=some d) (hv:e d=.bool t) (ht:t=!b):oQ ops (some (j,b)) e=false:=by
  subst ht;cases b<;>simp [oQ,hd,hv]
theorem A9 {j d:Nat} {b:Bool} (hd:(ops[j]?).bind (·.dst)=some d) (hv:e d=undef):oQ ops (some (j,b)) e=false:=by
  simp [oQ,hd,hv,undef]
theorem LW.gY {d:Option Tmp} {op:Op} {ty:TypeId} {pos:String} {aft:Array Edge} {g:Option (Nat×Bool)} (hw:oQ ops g e=true)
    (h:LW P n ops Q (⟨d,op,ty,pos,aft,none⟩::rest) e w):LW P n ops Q (⟨d,op,ty,pos,aft,g⟩::rest) e w:=by
  intro a ha;have h1:=h a ha;unfold wpList at h1 ⊢;rw [wZ ha] at h1 ⊢;rw [if_pos hw];exact h1
theorem LW.gN {d:Nat} {op:Op} {ty:TypeId} {pos:String} {aft:Array Edge} {g:Option (Nat×Bool)} (hw:oQ ops g e=false) (hd:Nat.ble (d+1) n=true)
    (h:LW P n ops Q rest (kP e d undef) w):LW P n ops Q (⟨some d,op,ty,pos,aft,g⟩::rest) e w:=by
  intro a ha;unfold wpList;rw [wZ ha,hw];exact h _ (ha.put (Nat.le_of_ble_eq_true hd) undef)
def L7 (K:Value→World→Prop):Ending→World→Prop
  | .returned v,w=>K v w
  | _,_=>False
def gV (P:Program) (f:FuncId) (args:Array Value) (w:World) (K:Value→World→Prop):Prop:=Calls P f args w (L7 K)
theorem gV.mono {f:FuncId} {args:Array Value} {K K':Value→World→Prop} (h:gV P f args w K) (hk:∀ v w',K v w'→K' v w'):gV P f args w K' :=
  Calls.mono h fun e w' hh=>by cases e<;>first | exact hk _ _ hh | exact hh.elim
def uG (P:Program) (f:FuncId):Bool :=
  match P.funcs[f]? with
  | some fn=>!(fn.name=="runtime.NumGoroutine")&&fn.body.isSome
  | none=>false
theorem ET {f:FuncId} (hp:uG P f=true) (args:Array Value):(callFunc f args).run P w=.ok (.enter f args) w:=by
  unfold uG at hp
  cases hf:P.funcs[f]? with
  | none=>simp [hf] at hp
  | some fn =>
    simp only [hf,Bool.and_eq_true,Bool.not_eq_true'] at hp;obtain ⟨h1,h2⟩:=hp;obtain ⟨c,hc⟩:=Option.isSome_iff_exists.1 h2
    have h4:¬ fn.name="runtime.NumGoroutine":=by simpa using h1
    simp [callFunc,hf,h4,hc]
theorem LW.call {f:FuncId} {as:Array Operand} {ts:Array TypeId} {ty:TypeId} {pos:String} {aft:Array Edge} {d:Nat} {al:List Value}
    (hp:uG P f=true) (hd:Nat.ble (d+1) n=true) (hargs:as.toList.map (ev e)=al)
    (h:gV P f al.toArray w fun v w'=>LW P n ops Q rest (kP e d v) w') :
    LW P n ops Q (⟨some d,.call { callee:=.value (.func f),args:=as,argTypes:=ts },ty,pos,aft,none⟩::rest) e w:=by
  intro a ha;refine wpList_plain rfl fun K hK=>?_;unfold Oper.wp;rw [ha.eval]
  have hr:(execOp (ev e) ⟨some d,.call { callee:=.value (.func f),args:=as,argTypes:=ts },ty,pos,aft,none⟩).run P w=.ok (.enter f al.toArray) w:=by
    have hm:as.map (ev e)=al.toArray:=by rw [← hargs];simp [← Array.toList_map]
    simp [execOp,resolve,invoke,Deferred.ofValue,ev,ET hp,hm]
  rw [hr,Oper.upon_enter];refine Calls.mono h fun en w' hh=>?_
  cases en with
  | returned v=>exact hK _ _ (hh _ (ha.put (Nat.le_of_ble_eq_true hd) v))
  | panicked c=>exact hh.elim
  | outgrown=>exact hh.elim
end
end Go.Kx
namespace Go.Kx
open Go Go.RowKit
set_option linter.unusedVariables false
set_option linter.unusedSimpArgs false
structure Item where
  p:World→List Nat→Prop
  frame:∀ w w' F,p w F→(∀ b,b ∈ F→w'.heap[b]?=w.heap[b]?)→p w' F
def iT:List Item→World→List Nat→Prop
  | [],_,F=>F=[]
  | i::L,w,F=>∃ F1 F2,F=F1++F2∧i.p w F1∧iT L w F2
theorem iT.frame {L:List Item} {w w':World}:∀ {F:List Nat},iT L w F→(∀ b,b ∈ F→w'.heap[b]?=w.heap[b]?)→iT L w' F:=by
  induction L with
  | nil=>exact fun h _=>h
  | cons i L ih =>
    rintro F ⟨F1,F2,rfl,h1,h2⟩ hb;exact ⟨F1,F2,rfl,i.frame _ _ _ h1 (fun b h=>hb b (List.mem_append_left _ h)),ih h2 (fun b h=>hb b (List.mem_append_right _ h))⟩
theorem iT.append {L M:List Item} {w:World}:∀ {F:List Nat},iT (L++M) w F ↔ ∃ F1 F2,F=F1++F2∧iT L w F1∧iT M w F2:=by
  induction L with
  | nil=>exact fun {F}=>⟨fun h=>⟨[],F,rfl,rfl,h⟩,fun ⟨F1,F2,e,h1,h2⟩=>by cases h1;subst e;exact h2⟩
  | cons i L ih =>
    intro F;constructor
    · rintro ⟨F1,F2,rfl,h1,h2⟩;obtain ⟨F3,F4,rfl,h3,h4⟩:=ih.1 h2;exact ⟨F1++F3,F4,by simp,⟨F1,F3,rfl,h1,h3⟩,h4⟩
    · rintro ⟨F1,F2,rfl,⟨F3,F4,rfl,h3,h4⟩,h2⟩;exact ⟨F3,F4++F2,by simp,h3,ih.2 ⟨F4,F2,rfl,h4,h2⟩⟩
theorem iT.at_:∀ {M:List Item} {w:World} {F:List Nat} (i:Nat) {it:Item},iT M w F→M[i]?=some it→∃ Fi,it.p w Fi∧∀ b,b ∈ Fi→b ∈ F
  | [],_,_,i,_,_,hi=>by simp at hi
  | y::M,w,F,i,it,⟨G1,G2,hF,g1,g2⟩,hi=>by
    subst hF
    cases i with
    | zero=>simp at hi;subst hi;exact ⟨G1,g1,fun b hh=>List.mem_append_left _ hh⟩
    | succ i =>
      obtain ⟨Fi,h1,h2⟩:=iT.at_ i g2 (by simpa using hi);exact ⟨Fi,h1,fun b hh=>List.mem_append_right _ (h2 b hh)⟩
structure St (w0:World) (F0:List Nat) (w:World) (L:List Item):Prop where
  os:w.os=w0.os
  tape:w.tape=w0.tape
  output:w.output=w0.output
  size:w0.heap.size≤w.heap.size
  same:∀ b,b<w0.heap.size→b ∉ F0→w.heap[b]?=w0.heap[b]?
  own:∃ F,iT L w F∧F.Nodup∧∀ b,b ∈ F→(b ∈ F0∨w0.heap.size≤b)∧b<w.heap.size
theorem St.init {w:World} {L:List Item} {F:List Nat} (h:iT L w F) (hn:F.Nodup) (hl:∀ b,b ∈ F→b<w.heap.size):St w F w L :=
  ⟨rfl,rfl,rfl,Nat.le_refl _,fun _ _ _=>rfl,F,h,hn,fun b hb=>⟨.inl hb,hl b hb⟩⟩
theorem St.start (w:World):St w [] w []:=St.init (show iT [] w [] from rfl) List.nodup_nil (by simp)
theorem St.below {w0 w:World} {L:List Item} (h:St w0 [] w L):Below w0.heap.size w0 w :=
  ⟨h.os,h.tape,h.output,h.size,fun b hb=>h.same b hb (by simp)⟩
theorem St.drew {w0 w:World} {F0:List Nat} {L:List Item} (h:St w0 F0 w L):St w0 F0 w.drew L :=
  ⟨h.os,h.tape,h.output,h.size,h.same,by
    obtain ⟨F,hF,hn,hb⟩:=h.own
    exact ⟨F,hF.frame (fun _ _=>rfl),hn,hb⟩⟩
theorem iT.perm {L M:List Item} (h:L.Perm M) {w:World}:∀ {F:List Nat},iT L w F→∃ F',iT M w F'∧F'.Perm F:=by
  induction h with
  | nil =>
    intro F h;cases (show F=[] from h);exact ⟨[],rfl,.nil⟩
  | cons x _ ih =>
    rintro F ⟨F1,F2,rfl,h1,h2⟩;obtain ⟨F3,h3,hp⟩:=ih h2;exact ⟨F1++F3,⟨F1,F3,rfl,h1,h3⟩,hp.append_left F1⟩
  | swap x y l =>
    rintro F ⟨F1,F2,rfl,h1,F3,F4,rfl,h3,h4⟩;refine ⟨F3++(F1++F4),⟨F3,_,rfl,h3,F1,F4,rfl,h1,h4⟩,?_⟩;rw [← List.append_assoc, ← List.append_assoc];exact List.Perm.append_right _ List.perm_append_comm
  | trans _ _ ih1 ih2 =>
    intro F hF;obtain ⟨F1,h1,p1⟩:=ih1 hF;obtain ⟨F2,h2,p2⟩:=ih2 h1;exact ⟨F2,h2,p2.trans p1⟩
theorem St.perm {w0 w:World} {F0:List Nat} {L M:List Item} (h:St w0 F0 w L) (hp:L.Perm M):St w0 F0 w M:=by
  obtain ⟨F,hF,hn,hb⟩:=h.own;obtain ⟨F',hF',hpF⟩:=hF.perm hp;exact ⟨h.os,h.tape,h.output,h.size,h.same,F',hF',hpF.nodup_iff.2 hn,fun b hh=>hb b (hpF.mem_iff.1 hh)⟩
theorem xP {α:Type}:∀ (L:List α) (i:Nat) (x:α),L[i]?=some x→L.Perm (x::L.eraseIdx i)
  | [],_,_,h=>by simp at h
  | a::L,0,x,h=>by simp at h;subst h;exact .refl _
  | a::L,i+1,x,h=>by
    have:=xP L i x (by simpa using h);simp only [List.eraseIdx_cons_succ];exact (this.cons a).trans (.swap _ _ _)
theorem St.front {w0 w:World} {F0:List Nat} {L:List Item} (h:St w0 F0 w L) (i:Nat) {x:Item} (hx:L[i]?=some x):St w0 F0 w (x::L.eraseIdx i) :=
  h.perm (xP L i x hx)
theorem St.N8 {w0 w:World} {F0:List Nat} {x:Item} {L:List Item} (h:St w0 F0 w (x::L)):St w0 F0 w L:=by
  obtain ⟨F,⟨F1,F2,rfl,_,h2⟩,hn,hb⟩:=h.own;exact ⟨h.os,h.tape,h.output,h.size,h.same,F2,h2,(List.nodup_append.1 hn).2.1,fun b hh=>hb b (List.mem_append_right _ hh)⟩
theorem St.drop {w0 w:World} {F0:List Nat} {L:List Item} (h:St w0 F0 w L) (i:Nat) (hi:i<L.length):St w0 F0 w (L.eraseIdx i) :=
  (h.front i (List.getElem?_eq_getElem hi)).N8
def jA (w:World) (F:List Nat):Nat→Prop:=fun b=>b<w.heap.size∧b ∉ F
theorem St.share {w0 w:World} {F0:List Nat} {L M:List Item} (h:St w0 F0 w (L++M)) :
    ∃ F,iT L w F∧F.Nodup∧(∀ b,b ∈ F→b<w.heap.size) ∧
      (∀ b,jA w0 F0 b→jA w F b) ∧
      (∀ (i:Nat) (it:Item),M[i]?=some it→∃ Fi,it.p w Fi∧∀ b,b ∈ Fi→jA w F b) ∧
      ∀ w' L',St w F w' L'→St w0 F0 w' (L'++M):=by
  obtain ⟨F,hF,hn,hb⟩:=h.own;obtain ⟨F1,F2,rfl,h1,h2⟩:=iT.append.1 hF;obtain ⟨n1,n2,nd⟩:=List.nodup_append.1 hn;refine ⟨F1,h1,n1,fun b hh=>(hb b (List.mem_append_left _ hh)).2,?_,?_,?_⟩
  · rintro b ⟨hlt,hno⟩;refine ⟨Nat.lt_of_lt_of_le hlt h.size,fun hm=>?_⟩
    rcases (hb b (List.mem_append_left _ hm)).1 with h1 | h1
    · exact hno h1
    · omega
  · intro i it hi;obtain ⟨Fi,q1,q2⟩:=h2.at_ i hi;exact ⟨Fi,q1,fun b hh=>⟨(hb b (List.mem_append_right _ (q2 b hh))).2,fun hm=>nd b hm b (q2 b hh) rfl⟩⟩
  · intro w' L' k;obtain ⟨F',hF',hn',hb'⟩:=k.own
    have hk2:∀ b,b ∈ F2→w'.heap[b]?=w.heap[b]?:=fun b hh =>
      k.same b (hb b (List.mem_append_right _ hh)).2 (fun hm=>nd b hm b hh rfl)
    refine ⟨k.os.trans h.os,k.tape.trans h.tape,k.output.trans h.output,Nat.le_trans h.size k.size,?_,F'++F2,iT.append.2 ⟨F',F2,rfl,hF',h2.frame hk2⟩,?_,?_⟩
    · intro b hlt hno;rw [k.same b (Nat.lt_of_lt_of_le hlt h.size) (fun hm=>?_),h.same b hlt hno]
      rcases (hb b (List.mem_append_left _ hm)).1 with h1 | h1
      · exact hno h1
      · omega
    · refine List.nodup_append.2 ⟨hn',n2,?_⟩;intro a ha b hb2 e;subst e;have:=(hb a (List.mem_append_right _ hb2)).2
      rcases (hb' a ha).1 with h1 | h1
      · exact nd a h1 a hb2 rfl
      · omega
    · intro b hh
      rcases List.mem_append.1 hh with hh | hh
      · have hs:=h.size;refine ⟨?_,(hb' b hh).2⟩
        rcases (hb' b hh).1 with h1 | h1
        · exact (hb b (List.mem_append_left _ h1)).1
        · exact .inr (by omega)
      · exact ⟨(hb b (List.mem_append_right _ hh)).1,Nat.lt_of_lt_of_le (hb b (List.mem_append_right _ hh)).2 k.size⟩
theorem St.head {w0 w w':World} {F0:List Nat} {x:Item} {L M:List Item} (h:St w0 F0 w (x::L))
    (hx:∀ F,x.p w F→F.Nodup→(∀ b,b ∈ F→b<w.heap.size)→St w F w' M):St w0 F0 w' (M++L):=by
  obtain ⟨F,hF,hn,hlt,_,_,hm⟩:=St.share (L:=[x]) (M:=L) h;obtain ⟨F1,F2,rfl,h1,h2⟩:=hF;cases h2;rw [List.append_nil] at hn hlt hm;exact hm w' M (hx F1 h1 hn hlt)
theorem St.add {w0 w w':World} {F0:List Nat} {L M:List Item} (h:St w0 F0 w L) (hx:St w [] w' M):St w0 F0 w' (M++L):=by
  obtain ⟨F,hF,hn,hlt,_,_,hm⟩:=St.share (L:=[]) (M:=L) h;cases hF;exact hm w' M hx
class hD (α:Type) where
  ty:TypeId
  sz:Nat
  zero:α
  zc:List Value
  pos:0<sz
  rd:(Nat→Prop)→World→List Value→α→Prop
  own:World→List Value→List Nat→α→Prop
  kY:∀ {S w cs x},rd S w cs x→cs.length=sz
  ja:∀ {w cs F x},own w cs F x→cs.length=sz
  kn:∀ {S w w' cs x},rd S w cs x→(∀ b,S b→w'.heap[b]?=w.heap[b]?)→rd S w' cs x
  ko:∀ {S S' w cs x},rd S w cs x→(∀ b,S b→S' b)→rd S' w cs x
  jI:∀ {w w' cs F x},own w cs F x→(∀ b,b ∈ F→w'.heap[b]?=w.heap[b]?)→own w' cs F x
  kX:∀ {S w cs F x},own w cs F x→(∀ b,b ∈ F→S b)→rd S w cs x
  kb:∀ {w cs F x},own w cs F x→∀ u,u ∈ cs→u.oneCell'=true
  jl:∀ w,own w zc [] zero
section
variable {α:Type} [hD α]
structure iR (S:Nat→Prop) (w:World) (a:Option Addr) (c:Nat) (l:List α):Prop where
  le:l.length≤c
  cap:c≤maxLen
  cells:l ≠ []→∃ b o,a=some ⟨b,o,none⟩∧S b∧∀ (k:Nat) (x:α),l[k]?=some x→∃ cs,hD.rd S w cs x∧∀ (j:Nat) (u:Value),cs[j]?=some u→w.cell? ⟨b,o+k * hD.sz α+j,none⟩=some u
theorem iR.mw {S:Nat→Prop} {w w':World} {a:Option Addr} {c:Nat} {l:List α} (h:iR S w a c l) (hk:∀ b,S b→w'.heap[b]?=w.heap[b]?):iR S w' a c l:=by
  refine ⟨h.le,h.cap,fun hne=>?_⟩;obtain ⟨b,o,ha,hb,hc⟩:=h.cells hne;refine ⟨b,o,ha,hb,fun k x hx=>?_⟩;obtain ⟨cs,h1,h2⟩:=hc k x hx;exact ⟨cs,hD.kn h1 hk,fun j u hu=>(World.cell?_of_block (w:=w) (hk b hb)).trans (h2 j u hu)⟩
theorem iR.mono {S S':Nat→Prop} {w:World} {a:Option Addr} {c:Nat} {l:List α} (h:iR S w a c l) (hk:∀ b,S b→S' b):iR S' w a c l:=by
  refine ⟨h.le,h.cap,fun hne=>?_⟩;obtain ⟨b,o,ha,hb,hc⟩:=h.cells hne;refine ⟨b,o,ha,hk b hb,fun k x hx=>?_⟩;obtain ⟨cs,h1,h2⟩:=hc k x hx;exact ⟨cs,hD.ko h1 hk,h2⟩
theorem iR.nil (S:Nat→Prop) (w:World) (a:Option Addr) (c:Nat) (hc:c≤maxLen):iR S w a c ([]:List α):=⟨Nat.zero_le _,hc,fun h=>absurd rfl h⟩
def jJ (w:World):List Value→List Nat→List α→Prop
  | _,F,[]=>F=[]
  | cs,F,x::l=>∃ c1 c2 F1 F2,cs=c1++c2∧F=F1++F2∧hD.own w c1 F1 x∧jJ w c2 F2 l
theorem jJ.frame {w w':World}:∀ {l:List α} {cs:List Value} {F:List Nat},jJ w cs F l→(∀ b,b ∈ F→w'.heap[b]?=w.heap[b]?)→jJ w' cs F l
  | [],_,_,h,_=>h
  | x::l,_,_,⟨c1,c2,F1,F2,hc,hF,h1,h2⟩,hb=>by
    subst hF;exact ⟨c1,c2,F1,F2,hc,rfl,hD.jI h1 (fun b h=>hb b (List.mem_append_left _ h)),jJ.frame h2 (fun b h=>hb b (List.mem_append_right _ h))⟩
theorem jJ.at_ {w:World}:∀ {l:List α} {cs:List Value} {F:List Nat},jJ w cs F l→∀ (k:Nat) (x:α),l[k]?=some x →
    ∃ c1 Fk,hD.own w c1 Fk x∧(∀ b,b ∈ Fk→b ∈ F)∧∀ (j:Nat) (u:Value),c1[j]?=some u→cs[k * hD.sz α+j]?=some u
  | [],_,_,_,k,x,hk=>by simp at hk
  | y::l,cs,F,⟨c1,c2,F1,F2,hc,hF,h1,h2⟩,k,x,hk=>by
    subst hF;subst hc;have hl:=hD.ja h1
    cases k with
    | zero =>
      simp at hk;subst hk;refine ⟨c1,F1,h1,fun b hb=>List.mem_append_left _ hb,fun j u hu=>?_⟩
      have hj:j<c1.length:=by
        rcases Nat.lt_or_ge j c1.length with h | h
        · exact h
        · rw [List.getElem?_eq_none h] at hu;cases hu
      simpa [List.getElem?_append_left hj] using hu
    | succ k =>
      obtain ⟨cx,Fk,q1,q2,q3⟩:=jJ.at_ h2 k x (by simpa using hk);refine ⟨cx,Fk,q1,fun b hb=>List.mem_append_right _ (q2 b hb),fun j u hu=>?_⟩;have:=q3 j u hu;rw [List.getElem?_append_right (by rw [hl,Nat.succ_mul];omega),hl];rw [show (k+1) * hD.sz α+j - hD.sz α=k * hD.sz α+j by rw [Nat.succ_mul];omega];exact this
theorem jJ.append {w:World}:∀ {l m:List α} {cs:List Value} {F:List Nat},jJ w cs F (l++m) ↔ ∃ c1 c2 F1 F2,cs=c1++c2∧F=F1++F2∧c1.length=l.length * hD.sz α∧jJ w c1 F1 l∧jJ w c2 F2 m
  | [],m,cs,F=>⟨fun h=>⟨[],cs,[],F,rfl,rfl,by simp,rfl,h⟩,fun ⟨c1,c2,F1,F2,hc,hF,hl,h1,h2⟩=>by
      have:c1=[]:=List.eq_nil_of_length_eq_zero (by simpa using hl)
      subst this;cases (show F1=[] from h1);subst hc;subst hF;exact h2⟩
  | x::l,m,cs,F=>by
    constructor
    · rintro ⟨c1,c2,F1,F2,rfl,rfl,h1,h2⟩;obtain ⟨d1,d2,G1,G2,rfl,rfl,hl,g1,g2⟩:=jJ.append.1 h2;exact ⟨c1++d1,d2,F1++G1,G2,by simp,by simp,by simp [hD.ja h1,hl,Nat.succ_mul,Nat.add_comm],⟨c1,d1,F1,G1,rfl,rfl,h1,g1⟩,g2⟩
    · rintro ⟨c1,c2,F1,F2,rfl,rfl,hl,⟨d1,d2,G1,G2,rfl,rfl,h1,h2⟩,h3⟩;refine ⟨d1,d2++c2,G1,G2++F2,by simp,by simp,h1,jJ.append.2 ⟨d2,c2,G2,F2,rfl,rfl,?_,h2,h3⟩⟩;have:=hD.ja h1;simp [Nat.succ_mul] at hl;omega
theorem jJ.take {w:World}:∀ {l:List α} {cs:List Value} {F:List Nat},jJ w cs F l→jJ w (cs.take (l.length * hD.sz α)) F l∧l.length * hD.sz α≤cs.length
  | [],cs,F,h=>⟨h,by simp⟩
  | x::l,cs,F,⟨c1,c2,F1,F2,hc,hF,h1,h2⟩=>by
    subst hc;have hl:=hD.ja h1;obtain ⟨q1,q2⟩:=jJ.take h2
    have e:(x::l).length * hD.sz α=c1.length+l.length * hD.sz α:=by simp [Nat.succ_mul,hl,Nat.add_comm]
    refine ⟨⟨c1,c2.take (l.length * hD.sz α),F1,F2,?_,hF,h1,q1⟩,by rw [e,List.length_append];omega⟩;rw [e,List.take_length_add_append]
theorem jJ.more {w:World}:∀ {l:List α} {cs:List Value} {F:List Nat},jJ w cs F l→∀ ds,jJ w (cs++ds) F l
  | [],_,_,h,_=>h
  | x::l,_,_,⟨c1,c2,F1,F2,hc,hF,h1,h2⟩,ds=>⟨c1,c2++ds,F1,F2,by simp [hc],hF,h1,jJ.more h2 ds⟩
theorem jJ.one {w:World}:∀ {l:List α} {cs:List Value} {F:List Nat},jJ w cs F l→∀ u,u ∈ cs.take (l.length * hD.sz α)→u.oneCell'=true
  | [],_,_,_,u,hu=>by simp at hu
  | x::l,cs,F,⟨c1,c2,F1,F2,hc,hF,h1,h2⟩,u,hu=>by
    subst hc
    have e:(x::l).length * hD.sz α=c1.length+l.length * hD.sz α:=by simp [Nat.succ_mul,hD.ja h1,Nat.add_comm]
    rw [e,List.take_length_add_append] at hu
    rcases List.mem_append.1 hu with h | h
    · exact hD.kb h1 u h
    · exact jJ.one h2 u h
theorem jJ.HB {w:World}:∀ (k:Nat),jJ w (List.replicate k (hD.zc α)).flatten [] (List.replicate k (hD.zero:α))
  | 0=>rfl
  | k+1=>⟨hD.zc α,_,[],[],by simp [List.replicate_succ],rfl,hD.jl w,jJ.HB k⟩
theorem jJ.set {w:World}:∀ {l:List α} {cs:List Value} {F:List Nat} (k:Nat) {x:α},jJ w cs F l→l[k]?=some x →
    ∃ c0 c1 c2 F0 F1 F2,cs=c0++(c1++c2)∧F=F0++(F1++F2)∧c0.length=k * hD.sz α∧hD.own w c1 F1 x ∧
      ∀ (w':World) (d1:List Value) (G1:List Nat) (y:α),hD.own w' d1 G1 y→(∀ b,b ∈ F0++F2→w'.heap[b]?=w.heap[b]?)→jJ w' (c0++(d1++c2)) (F0++(G1++F2)) (l.set k y)
  | [],_,_,k,_,_,hk=>by simp at hk
  | z::l,cs,F,0,x,⟨c1,c2,F1,F2,hc,hF,h1,h2⟩,hk=>by
    simp at hk;subst hk;exact ⟨[],c1,c2,[],F1,F2,hc,hF,by simp,h1,fun w' d1 G1 y hy hb=>⟨d1,c2,G1,F2,rfl,rfl,hy,h2.frame (fun b h=>hb b (by simpa using h))⟩⟩
  | z::l,cs,F,k+1,x,⟨c1,c2,F1,F2,hc,hF,h1,h2⟩,hk=>by
    subst hc;subst hF;obtain ⟨e0,e1,e2,G0,G1,G2,rfl,rfl,hl,q1,q2⟩:=jJ.set k h2 (by simpa using hk);refine ⟨c1++e0,e1,e2,F1++G0,G1,G2,by simp,by simp,by simp [hl,Nat.succ_mul,hD.ja h1,Nat.add_comm],q1,fun w' d1 H1 y hy hb=>?_⟩
    exact ⟨c1,_,F1,_,by simp,by simp,hD.jI h1 (fun b h=>hb b (by simp [h])),q2 w' d1 H1 y hy (fun b h=>hb b (by
      rcases List.mem_append.1 h with h | h<;>simp [h]))⟩
def mo (w:World) (a:Option Addr) (c:Nat) (F:List Nat) (l:List α):Prop :=
  (a=none∧c=0∧l=[]∧F=[]) ∨
  ∃ g o cur F',a=some ⟨g,o,none⟩∧w.heap[g]?=some (.cells cur (hD.ty α) (0,0))∧o+c * hD.sz α≤cur.size∧l.length≤c∧c≤maxLen∧F=g::F'∧jJ w (cur.toList.drop o) F' l
theorem mo.frame {w w':World} {a:Option Addr} {c:Nat} {F:List Nat} {l:List α} (h:mo w a c F l) (hb:∀ b,b ∈ F→w'.heap[b]?=w.heap[b]?):mo w' a c F l:=by
  rcases h with h | ⟨g,o,cur,F',ha,hg,hs,h1,h2,hF,he⟩
  · exact .inl h
  · subst hF;exact .inr ⟨g,o,cur,F',ha,by rw [hb g (by simp)];exact hg,hs,h1,h2,rfl,he.frame (fun b h=>hb b (List.mem_cons_of_mem _ h))⟩
theorem mo.rd {w:World} {a:Option Addr} {c:Nat} {F:List Nat} {l:List α} {S:Nat→Prop} (h:mo w a c F l) (hS:∀ b,b ∈ F→S b):iR S w a c l:=by
  rcases h with ⟨rfl,rfl,rfl,rfl⟩ | ⟨g,o,cur,F',ha,hg,hs,h1,h2,hF,he⟩
  · exact iR.nil _ _ _ _ (Nat.zero_le _)
  · subst hF;refine ⟨h1,h2,fun _=>⟨g,o,ha,hS g (by simp),fun k x hx=>?_⟩⟩;obtain ⟨c1,Fk,q1,q2,q3⟩:=he.at_ k x hx;refine ⟨c1,hD.kX q1 (fun b hb=>hS b (List.mem_cons_of_mem _ (q2 b hb))),fun j u hu=>?_⟩;have:=q3 j u hu;rw [List.getElem?_drop] at this;rw [cell_of_row w g _ cur _ (0,0) hg,Nat.add_assoc];simpa using this
def sl (a:Option Addr) (c:Nat) (l:List α):Item:=⟨fun w F=>mo w a c F l,fun _ _ _ h hb=>h.frame hb⟩
end
def bx (g:Nat) (ty:TypeId) (cs:List Value):Item :=
  ⟨fun w F=>F=[g]∧w.heap[g]?=some (.cells cs.toArray ty (0,0)),fun w w' F h hb=>⟨h.1,(hb g (by rw [h.1];simp)).trans h.2⟩⟩
end Go.Kx
namespace Go.Kx
open Go Go.RowKit
set_option linter.unusedVariables false
set_option linter.unusedSimpArgs false
def Cd:List Value→Nat→Option Value
  | [],_=>none
  | v::_,0=>some v
  | _::l,i+1=>Cd l i
theorem JB:∀ (l:List Value) (i:Nat),Cd l i=l[i]?
  | [],i=>by simp [Cd]
  | v::l,0=>by simp [Cd]
  | v::l,i+1=>by simp [Cd,JB l i]
def Lg (op:BinOp) (k:IntKind) (a b:Int):Option Value :=
  match op with
  | .add=>some (.int k (k.wrap (a+b)))
  | .sub=>some (.int k (k.wrap (a - b)))
  | .mul=>some (.int k (k.wrap (a * b)))
  | .eql=>some (.bool (a==b))
  | .neq=>some (.bool (a != b))
  | .lss=>some (.bool (decide (a<b)))
  | .leq=>some (.bool (decide (a≤b)))
  | .gtr=>some (.bool (decide (a > b)))
  | .geq=>some (.bool (decide (a ≥ b)))
  | .and=>some (.int k (k.wrap ((BitVec.ofInt k.bits a &&& BitVec.ofInt k.bits b).toNat:Int)))
  | .or=>some (.int k (k.wrap ((BitVec.ofInt k.bits a ||| BitVec.ofInt k.bits b).toNat:Int)))
  | .xor=>some (.int k (k.wrap ((BitVec.ofInt k.bits a ^^^ BitVec.ofInt k.bits b).toNat:Int)))
  | _=>none
def D7:IntKind→IntKind→Bool
  | .i8,.i8 | .i16,.i16 | .i32,.i32 | .i64,.i64 | .u8,.u8 | .u16,.u16 | .u32,.u32 | .u64,.u64=>true
  | _,_=>false
theorem LF {a b:IntKind} (h:D7 a b=true):a=b:=by cases a<;>cases b<;>first | rfl | cases h
def pv (ρ:Operand→Value):Op→Option Value
  | .move x=>some (ρ x)
  | .assign x=>some (ρ x)
  | .binOp op _ x y _ =>
    match ρ x,ρ y with
    | .int k a,.int k' b=>bif D7 k k' then Lg op k a b else none
    | _,_=>none
  | .unOp op _ x =>
    match op,ρ x with
    | .not,.bool b=>some (.bool !b)
    | .neg,.int k a=>some (.int k (k.wrap (0 - a)))
    | _,_=>none
  | .extract x i =>
    match ρ x with
    | .tuple vs=>Cd vs.toList i
    | _=>none
  | _=>none
section
variable {P:Program} {n:Nat} {Q:kV} {e:Env} {w:World} {ops:Array Oper} {rest:List Oper}
  {ty:TypeId} {pos:String} {aft:Array Edge} {d:Nat} {v:Value}
def il (P:Program) (ρ:Operand→Value) (op:Op) (v:Value):Prop:=∀ (d:Option Tmp) (ty:TypeId) (pos:String) (aft:Array Edge) (g:Option (Nat×Bool)) (w:World),(execOp ρ ⟨d,op,ty,pos,aft,g⟩).run P w=.ok (.value v) w
def iZ (P:Program) (ρ:Operand→Value) (op:Op) (C:World→Prop) (v:Value):Prop:=∀ (d:Option Tmp) (ty:TypeId) (pos:String) (aft:Array Edge) (g:Option (Nat×Bool)) (w:World),C w→(execOp ρ ⟨d,op,ty,pos,aft,g⟩).run P w=.ok (.value v) w
theorem LW.u {op:Op} (hp:il P (ev e) op v) (hd:Nat.ble (d+1) n=true) (h:LW P n ops Q rest (kP e d v) w) :
    LW P n ops Q (⟨some d,op,ty,pos,aft,none⟩::rest) e w:=LW.run (hp _ _ _ _ _ _) hd h
theorem LW.l {op:Op} {C:World→Prop} (hp:iZ P (ev e) op C v) (hC:C w) (hd:Nat.ble (d+1) n=true) (h:LW P n ops Q rest (kP e d v) w) :
    LW P n ops Q (⟨some d,op,ty,pos,aft,none⟩::rest) e w:=LW.run (hp _ _ _ _ _ _ hC) hd h
variable {ρ:Operand→Value}
theorem il.p {op:Op} (hv:pv ρ op=some v):il P ρ op v:=by
  intro d ty pos aft g w
  cases op with
  | move x=>simp [pv] at hv;simp [execOp,hv]
  | assign x=>simp [pv] at hv;simp [execOp,hv]
  | extract x i =>
    simp only [pv] at hv;split at hv
    · rename_i vs hx
      have hv:vs[i]?=some v:=by rw [JB] at hv;simpa using hv
      simp [execOp,Instr.extract,hx,hv]
    · cases hv
  | unOp op t x =>
    simp only [pv] at hv;split at hv
    · rename_i b hx;cases hv;simp [execOp,Op.unary,hx]
    · rename_i k a hx;cases hv;simp [execOp,Op.unary,Op.intArith,hx]
    · cases hv
  | binOp op t x y u =>
    simp only [pv] at hv;split at hv
    · rename_i k a k' b hx hy
      cases hk:D7 k k' with
      | false=>rw [hk] at hv;cases hv
      | true =>
        rw [hk] at hv;simp only [cond_true] at hv;cases LF hk
        cases op<;>simp only [Lg,Option.some.injEq,reduceCtorEq] at hv<;>(try subst hv) <;>
          simp [execOp,eqGuard,binOp,hx,hy,Op.intArith,Op.intCmp,Op.intBits]
    · cases hv
  | _=>cases hv
theorem LW.p {op:Op} (hv:pv (ev e) op=some v) (hd:Nat.ble (d+1) n=true) (h:LW P n ops Q rest (kP e d v) w) :
    LW P n ops Q (⟨some d,op,ty,pos,aft,none⟩::rest) e w:=LW.u (il.p hv) hd h
theorem il.pick {c a b:Operand} {t:Bool} (hc:ρ c=.bool t):il P ρ (.pick c a b) (bif t then ρ a else ρ b):=by
  intro d ty pos aft g w;cases t<;>simp [execOp,hc,asBool]
theorem il.Lq {c a b:Operand} {t:Bool} (hc:ρ c=.bool t) (ht:t=true):il P ρ (.pick c a b) (ρ a):=by subst ht;exact il.pick hc
theorem il.Ld {c a b:Operand} {t:Bool} (hc:ρ c=.bool t) (ht:t=false):il P ρ (.pick c a b) (ρ b):=by subst ht;exact il.pick hc
theorem il.quo {t u:TypeId} {x y:Operand} {k:IntKind} {a b:Int} (hx:ρ x=.int k a) (hy:ρ y=.int k b) (hb:b ≠ 0):il P ρ (.binOp .quo t x y u) (.int k (k.wrap (a.tdiv b))):=by
  intro d ty pos aft g w;simp [execOp,eqGuard,binOp,hx,hy,Op.intDiv,hb]
theorem il.rem {t u:TypeId} {x y:Operand} {k:IntKind} {a b:Int} (hx:ρ x=.int k a) (hy:ρ y=.int k b) (hb:b ≠ 0):il P ρ (.binOp .rem t x y u) (.int k (a.tmod b)):=by
  intro d ty pos aft g w;simp [execOp,eqGuard,binOp,hx,hy,Op.intDiv,hb]
theorem il.beq {t u:TypeId} {x y:Operand} {a b:Bool} (ht:P.underlying t=some .bool) (hx:ρ x=.bool a) (hy:ρ y=.bool b):il P ρ (.binOp .eql t x y u) (.bool (a==b)):=by
  intro d ty pos aft g w;have h:=run_eql_bool w t a b ht;simp only [execOp,hx,hy];simp [eqGuard,h]
theorem il.bne {t u:TypeId} {x y:Operand} {a b:Bool} (ht:P.underlying t=some .bool) (hx:ρ x=.bool a) (hy:ρ y=.bool b):il P ρ (.binOp .neq t x y u) (.bool (!(a==b))):=by
  intro d ty pos aft g w;have h:=run_neq_bool w t a b ht;simp only [execOp,hx,hy];simp [eqGuard,h]
theorem il.seq {t u:TypeId} {x y:Operand} {a b:ByteArray} (hx:ρ x=.string a) (hy:ρ y=.string b):il P ρ (.binOp .eql t x y u) (.bool (a.toList==b.toList)):=by
  intro d ty pos aft g w;simp only [execOp,hx,hy];simp [eqGuard,binOp_string_eql]
theorem il.Nm {t u:TypeId} {x y:Operand} {a b:Array Value} {r:Bool} (hm:P.eqGuardType P.depth t=false) (hx:ρ x=.agg a) (hy:ρ y=.agg b)
    (hr:∀ w:World,(Op.equalIn 10000 t (.agg a) (.agg b)).run P w=.ok r w):il P ρ (.binOp .neq t x y u) (.bool (!r)):=by
  intro d ty pos aft g w;have h1:=run_eqGuard_agg w .neq t x y a b hm;have h2:=run_neq_struct (P:=P) w t a b;rw [hr w] at h2;simp only [execOp,hx,hy];simp [h1,h2]
theorem il.conv {s t:TypeId} {x:Operand} {ds:TypeDesc} {k k':IntKind} {a:Int} (hs:P.underlying s=some ds) (ht:P.underlying t=some (.int k')) (hx:ρ x=.int k a):il P ρ (.convert s t x) (.int k' (k'.wrap a)):=by
  intro d ty pos aft g w;simp [execOp,convert,run_underlying hs,run_underlying ht,hx,Conv.intToInt]
theorem il.len {t el:TypeId} {x:Operand} {a:Option Addr} {l c:Nat} (ht:P.underlying t=some (.slice el)) (hx:ρ x=.slice a l c):il P ρ (.call { callee:=.builtin .len,args:=#[x],argTypes:=#[t] }) (.int .i64 (l:Int)):=by
  intro d ty pos aft g w;simp [execOp,resolve,invoke,builtin,hx,Builtin.len_,run_underlying ht,goInt]
theorem il.min {ts:Array TypeId} {x y:Operand} {k:IntKind} {a b:Int} (hx:ρ x=.int k a) (hy:ρ y=.int k b):il P ρ (.call { callee:=.builtin .min,args:=#[x,y],argTypes:=ts }) (.int k (if b<a then b else a)):=by
  intro d ty pos aft g w;simp [execOp,resolve,invoke,builtin,hx,hy,Builtin.min_,Builtin.min2]
theorem il.mx {ts:Array TypeId} {x y:Operand} {k:IntKind} {a b:Int} (hx:ρ x=.int k a) (hy:ρ y=.int k b):il P ρ (.call { callee:=.builtin .max,args:=#[x,y],argTypes:=ts }) (.int k (if b > a then b else a)):=by
  intro d ty pos aft g w;simp [execOp,resolve,invoke,builtin,hx,hy,Builtin.max_,Builtin.max2]
end
end Go.Kx
namespace Go.Kx
open Go Go.RowKit
set_option linter.unusedVariables false
set_option linter.unusedSimpArgs false
def zeroV (P:Program) (t:TypeId):Option Value:=(P.info? t).bind (·.zero)
def nQ (P:Program) (t:TypeId):Option Nat:=(P.info? t).map (·.size)
def jx (P:Program) (t:TypeId):Option (Option Nat) :=
  match P.underlying t,P.info? t with
  | some (.struct _),some i | some (.array _ _),some i=>some (some i.size)
  | some _,some i=>if i.size=1 then some none else none
  | _,_=>none
def fo (P:Program) (t:TypeId) (k:Nat):Option (Nat×Option Nat) :=
  match P.underlying t with
  | some (.struct fs) =>
    match fs[k]? with
    | some f=>if nQ P f.type=some 0 then none else (jx P f.type).map fun a=>(f.offset,a)
    | none=>none
  | _=>none
theorem add_lit (g o n:Nat):(⟨g,o,none⟩:Addr).add n=⟨g,o+n,none⟩:=by unfold Addr.add;split<;>simp_all
section
variable {P:Program} {w0 w:World} {F0:List Nat} {L:List Item}
theorem St.cell {h:St w0 F0 w L} {i g:Nat} {ty:TypeId} {cs:List Value} (hi:L[i]?=some (bx g ty cs)):w.heap[g]?=some (.cells cs.toArray ty (0,0)):=by
  obtain ⟨F,hF,_,_⟩:=h.own;obtain ⟨Fi,q,_⟩:=hF.at_ i hi;exact q.2
theorem El (w:World) (ty:TypeId) (cs:List Value):St w [] (w.alloc (.cells cs.toArray ty)) [bx w.heap.size ty cs] :=
  ⟨rfl,rfl,rfl,by simp,fun b hb _=>Below.heap_alloc w _ b hb,[w.heap.size],⟨[w.heap.size],[],rfl,⟨rfl,heap_alloc_new w _⟩,rfl⟩,by simp,by simp⟩
theorem eraseIdx_set:∀ (L:List Item) (i:Nat) (y:Item),i<L.length→(y::L.eraseIdx i).Perm (L.set i y)
  | [],i,y,h=>by simp at h
  | a::L,0,y,h=>by simp
  | a::L,i+1,y,h=>by
    simp only [List.eraseIdx_cons_succ,List.set_cons_succ];exact (List.Perm.swap _ _ _).trans ((eraseIdx_set L i y (by simpa using h)).cons a)
theorem je {α:Type} {L:List α} {i:Nat} {x:α} (h:L[i]?=some x):i<L.length:=by
  rcases Nat.lt_or_ge i L.length with h1 | h1
  · exact h1
  · rw [List.getElem?_eq_none h1] at h;cases h
theorem St.setAt {w':World} {i:Nat} {x y:Item} (h:St w0 F0 w L) (hi:L[i]?=some x)
    (hx:∀ F,x.p w F→F.Nodup→(∀ b,b ∈ F→b<w.heap.size)→St w F w' [y]):St w0 F0 w' (L.set i y) :=
  (St.head (h.front i hi) hx).perm (eraseIdx_set L i y (je hi))
theorem MH (w:World) {g:Nat} {ty:TypeId} {cs:Array Value} {ds:List Value} (hg:w.heap[g]?=some (.cells cs ty (0,0))):St w [g] (w.setRow g ds.toArray) [bx g ty ds] :=
  ⟨rfl,rfl,rfl,by simp,fun b _ hno=>setRow_other w g b ds.toArray (by simpa using hno),[g],⟨[g],[],rfl,⟨rfl,setRow_heap w g cs ds.toArray ty _ hg⟩,rfl⟩,by simp,
    fun b hb=>⟨.inl hb,by
      have:=(Array.getElem?_eq_some_iff.1 hg).1
      simp at hb;subst hb;simpa using this⟩⟩
theorem St.Ni {i g:Nat} {ty:TypeId} {cs ds:List Value} (h:St w0 F0 w L) (hi:L[i]?=some (bx g ty cs)):St w0 F0 (w.setRow g ds.toArray) (L.set i (bx g ty ds)) :=
  h.setAt hi fun F hF _ _=>by
    obtain ⟨rfl,hg⟩:=hF;exact MH w hg
variable {n:Nat} {Q:kV} {e:Env} {ops:Array Oper} {rest:List Oper} {ty:TypeId} {pos:String} {aft:Array Edge} {d:Nat} {v:Value}
structure Fr (w w':World) (X:List Nat):Prop where
  size:w.heap.size≤w'.heap.size
  same:∀ b,b<w.heap.size→b ∉ X→w'.heap[b]?=w.heap[b]?
theorem LW.alloc {t:TypeId} {z:Value} (hz:zeroV P t=some z) (hS:St w0 F0 w L) (hd:Nat.ble (d+1) n=true)
    (h:∀ (g:Nat) (w':World),St w0 F0 w' (bx g t z.cells.toList::L)→Fr w w' []→LW P n ops Q rest (kP e d (.pointer (some ⟨g,0,none⟩))) w') :
    LW P n ops Q (⟨some d,.alloc t,ty,pos,aft,none⟩::rest) e w:=by
  unfold zeroV at hz
  cases hi:P.info? t with
  | none=>rw [hi] at hz;cases hz
  | some i =>
    rw [hi] at hz;have hz':i.zero=some z:=hz;refine LW.run (w':=w.alloc (.cells z.cells t)) ?_ hd (h w.heap.size _ (by simpa using hS.add (El w t z.cells.toList)) ⟨by simp,fun b hb _=>Below.heap_alloc w _ b hb⟩);simp [execOp,Instr.alloc,zeroValue,typeInfo,hi,hz',newVar,newRow]
theorem LW.box {t:TypeId} {x:Operand} {cs:List Value} (hx:(ev e x).cells.toList=cs) (hS:St w0 F0 w L) (hd:Nat.ble (d+1) n=true)
    (h:∀ (g:Nat) (w':World),St w0 F0 w' (bx g t cs::L)→Fr w w' []→LW P n ops Q rest (kP e d (.pointer (some ⟨g,0,none⟩))) w') :
    LW P n ops Q (⟨some d,.box t x,ty,pos,aft,none⟩::rest) e w:=by
  subst hx;refine LW.run (w':=w.alloc (.cells (ev e x).cells t)) ?_ hd (h w.heap.size _ (by simpa using hS.add (El w t (ev e x).cells.toList)) ⟨by simp,fun b hb _=>Below.heap_alloc w _ b hb⟩);simp [execOp,Instr.box,newVar,newRow]
theorem pn {t:TypeId} {a:Option Nat} (ht:jx P t=some a):(isAgg t).run P w=.ok a.isSome w∧(sizeOf t).run P w=.ok (a.getD 1) w:=by
  unfold jx at ht
  cases hu:P.underlying t with
  | none=>simp [hu] at ht
  | some ds =>
    cases hi:P.info? t with
    | none=>cases ds<;>simp [hu,hi] at ht
    | some i =>
      cases ds<;>simp [hu,hi] at ht<;>first
        | (obtain ⟨h1,h2⟩:=ht;subst h2;simp [isAgg,run_underlying hu,sizeOf,typeInfo,hi,h1])
        | (subst ht;simp [isAgg,run_underlying hu,sizeOf,typeInfo,hi])
variable {ρ:Operand→Value}
def wX:List Value→Nat→Option Value
  | [],_=>none
  | v::_,0=>some v
  | _::l,i+1=>wX l i
theorem yQ:∀ (l:List Value) (i:Nat),wX l i=l[i]?
  | [],i=>by simp [wX]
  | v::l,0=>by simp [wX]
  | v::l,i+1=>by simp [wX,yQ l i]
theorem iZ.one {t:TypeId} {x:Operand} {a:Addr} (ht:jx P t=some none) (hx:ρ x=.pointer (some a)):iZ P ρ (.load t x) (fun w=>w.cell? a=some v) v:=by
  intro d ty pos aft g w hc;simp [execOp,Instr.loadAt,Instr.sureAddr,hx,loadVar,(pn (w:=w) ht).1,hc]
theorem iZ.agg {t:TypeId} {x:Operand} {b o m:Nat} {cs:List Value} (ht:jx P t=some (some m)) (hx:ρ x=.pointer (some ⟨b,o,none⟩)) (hl:cs.length=m) :
    iZ P ρ (.load t x) (fun w=>∀ (j:Nat) (u:Value),cs[j]?=some u→w.cell? ⟨b,o+j,none⟩=some u) (.agg cs.toArray):=by
  intro d ty pos aft g w hc;subst hl;have hr:=run_loadCells_list (P:=P) w ⟨b,o,none⟩ cs (fun j u hu=>by rw [add_lit];exact hc j u hu);have:=pn (w:=w) ht;simp [execOp,Instr.loadAt,Instr.sureAddr,hx,loadVar,this.1,this.2,hr]
def sI:List Value→Nat→Nat→List Value
  | _,_,0=>[]
  | [],_,_+1=>[]
  | v::l,0,m+1=>v::sI l 0 m
  | _::l,i+1,m+1=>sI l i (m+1)
theorem zE:∀ (l:List Value) (o m j:Nat) (u:Value),(sI l o m)[j]?=some u→l[o+j]?=some u
  | _,_,0,j,u,h=>by simp [sI] at h
  | [],_,_+1,j,u,h=>by simp [sI] at h
  | v::l,0,m+1,0,u,h=>by simpa [sI] using h
  | v::l,0,m+1,j+1,u,h=>by
    have:=zE l 0 m j u (by simpa [sI] using h);simpa using this
  | v::l,i+1,m+1,j,u,h=>by
    have:=zE l i (m+1) j u (by simpa [sI] using h);rw [show i+1+j=(i+j)+1 by omega];simpa using this
theorem uE:∀ (l:List Value) (o m:Nat),o+m≤l.length→(sI l o m).length=m
  | _,_,0,h=>by simp [sI]
  | [],_,m+1,h=>by simp at h
  | v::l,0,m+1,h=>by simp [sI,uE l 0 m (by simp at h;omega)]
  | v::l,i+1,m+1,h=>by simp [sI,uE l i (m+1) (by simp at h;omega)]
theorem iZ.box {t bt:TypeId} {x:Operand} {g o:Nat} {cs:List Value} {fr:Nat×Nat} (ht:jx P t=some none) (hx:ρ x=.pointer (some ⟨g,o,none⟩)) (hv:wX cs o=some v):iZ P ρ (.load t x) (fun w=>w.heap[g]?=some (.cells cs.toArray bt fr)) v :=
  fun d ty pos aft gd w hc=>iZ.one (a:=⟨g,o,none⟩) ht hx d ty pos aft gd w ((cell_of_row w g o cs.toArray bt fr hc).trans (by rw [yQ] at hv;simpa using hv))
theorem iZ.Kf {t bt:TypeId} {x:Operand} {g o m:Nat} {cs:List Value} {fr:Nat×Nat} (ht:jx P t=some (some m)) (hx:ρ x=.pointer (some ⟨g,o,none⟩)) (hl:Nat.ble (o+m) cs.length=true) :
    iZ P ρ (.load t x) (fun w=>w.heap[g]?=some (.cells cs.toArray bt fr)) (.agg (sI cs o m).toArray):=by
  have hl:=Nat.le_of_ble_eq_true hl;refine fun d ty pos aft gd w hc=>iZ.agg ht hx (uE _ _ _ hl) d ty pos aft gd w (fun j u hu=>?_);rw [cell_of_row w g (o+j) cs.toArray bt fr hc];simpa using zE _ _ _ _ _ hu
theorem iZ.jz {t:TypeId} {x:Operand} {a:Addr} (w1:World) (ht:jx P t=some none) (hx:ρ x=.pointer (some a)) (hv:w1.cell? a=some v):iZ P ρ (.load t x) (fun w=>w.heap[a.block]?=w1.heap[a.block]?) v :=
  fun d ty pos aft gd w hc=>iZ.one (a:=a) ht hx d ty pos aft gd w ((World.cell?_of_block (w:=w1) hc).trans hv)
theorem iZ.uI {t:TypeId} {x:Operand} {b o m:Nat} {cs:List Value} (w1:World) (ht:jx P t=some (some m)) (hx:ρ x=.pointer (some ⟨b,o,none⟩)) (hl:cs.length=m) (hv:∀ (j:Nat) (u:Value),cs[j]?=some u→w1.cell? ⟨b,o+j,none⟩=some u) :
    iZ P ρ (.load t x) (fun w=>w.heap[b]?=w1.heap[b]?) (.agg cs.toArray) :=
  fun d ty pos aft gd w hc=>iZ.agg ht hx hl d ty pos aft gd w (fun j u hu=>(World.cell?_of_block (w:=w1) (a:=⟨b,o+j,none⟩) hc).trans (hv j u hu))
theorem LW.O9 {t bt:TypeId} {x:Operand} {g o:Nat} {cs:List Value} (hS:St w0 F0 w L) (i:Nat) (hi:L[i]?=some (bx g bt cs)) (ht:jx P t=some none) (hx:ev e x=.pointer (some ⟨g,o,none⟩)) (hv:wX cs o=some v) (hd:Nat.ble (d+1) n=true)
    (h:LW P n ops Q rest (kP e d v) w):LW P n ops Q (⟨some d,.load t x,ty,pos,aft,none⟩::rest) e w :=
  LW.l (iZ.box ht hx hv) (St.cell (h:=hS) hi) hd h
theorem LW.OH {t bt:TypeId} {x:Operand} {g o m:Nat} {cs:List Value} (hS:St w0 F0 w L) (i:Nat) (hi:L[i]?=some (bx g bt cs)) (ht:jx P t=some (some m)) (hx:ev e x=.pointer (some ⟨g,o,none⟩)) (hl:Nat.ble (o+m) cs.length=true) (hd:Nat.ble (d+1) n=true)
    (h:LW P n ops Q rest (kP e d (.agg (sI cs o m).toArray)) w):LW P n ops Q (⟨some d,.load t x,ty,pos,aft,none⟩::rest) e w :=
  LW.l (iZ.Kf ht hx hl) (St.cell (h:=hS) hi) hd h
def wm (cs:Array Value) (o:Nat) (vs:List Value):Array Value:=(cs.toList.take o++vs++cs.toList.drop (o+vs.length)).toArray
def ov:List Value→List Value→List Value
  | l,[]=>l
  | [],v::vs=>v::vs
  | _::l,v::vs=>v::ov l vs
def yz:List Value→Nat→List Value→List Value
  | l,0,vs=>ov l vs
  | [],_+1,vs=>vs
  | x::l,i+1,vs=>x::yz l i vs
theorem K2:∀ (l vs:List Value),vs.length≤l.length→ov l vs=vs++l.drop vs.length
  | l,[],_=>by cases l<;>simp [ov]
  | [],v::vs,h=>by simp at h
  | x::l,v::vs,h=>by simp [ov,K2 l vs (by simpa using h)]
theorem Bs:∀ (l:List Value) (i:Nat) (vs:List Value),i+vs.length≤l.length→yz l i vs=l.take i++vs++l.drop (i+vs.length)
  | l,0,vs,h=>by
    have:=K2 l vs (by omega);cases l<;>simpa [yz] using this
  | [],i+1,vs,h=>by simp at h
  | x::l,i+1,vs,h=>by
    have:=Bs l i vs (by simp at h;omega);simp [yz,this,show i+1+vs.length=(i+vs.length)+1 by omega]
theorem LW.On {t bt:TypeId} {x y:Operand} {a:Option Nat} {g o:Nat} {cs vs:List Value} (hS:St w0 F0 w L) (i:Nat) (hi:L[i]?=some (bx g bt cs)) (ht:jx P t=some a) (hx:ev e x=.pointer (some ⟨g,o,none⟩))
    (hy:(ev e y).cells.toList=vs) (hm:vs.length=a.getD 1) (hl:Nat.ble (o+vs.length) cs.length=true) (h1:vs.all (·.oneCell')=true)
    (h:∀ w':World,St w0 F0 w' (L.set i (bx g bt (yz cs o vs)))→Fr w w' [g]→LW P n ops Q rest e w'):LW P n ops Q (⟨none,.store t x y,ty,pos,aft,none⟩::rest) e w:=by
  have hg:=St.cell (h:=hS) hi;have hl:=Nat.le_of_ble_eq_true hl;have hr:=run_storeCells_at P g o bt vs 0 cs.toArray w hg (by simpa using hl) (fun u hu=>List.all_eq_true.1 h1 u hu);simp only [Nat.add_zero] at hr;rw [← Bs cs o vs (by omega)] at hr;refine LW.BN (w':=w.setRow g (yz cs o vs).toArray) ?_ (h _ (hS.Ni hi) ⟨by simp,fun b _ hb=>setRow_other w g b _ (by simpa using hb)⟩);have:=pn (w:=w) ht
  have hy2:(ev e y).cells.size=a.getD 1:=by rw [← hm, ← hy,Array.length_toList]
  simp [execOp,Instr.storeAt,Instr.sureAddr,hx,storeVar,hy,hy2,this.2,hr]
theorem GF {t:TypeId} {k off:Nat} {a:Option Nat} (h:fo P t k=some (off,a)):∃ fs f i,P.underlying t=some (.struct fs)∧fs[k]?=some f∧f.offset=off∧P.info? f.type=some i∧i.size ≠ 0∧jx P f.type=some a:=by
  unfold fo at h;split at h
  · rename_i fs hu;split at h
    · rename_i f hf;split at h
      · cases h
      · rename_i hz
        cases ha:jx P f.type with
        | none=>rw [ha] at h;cases h
        | some a' =>
          rw [ha] at h;simp at h;obtain ⟨h1,h2⟩:=h;subst h1;subst h2
          cases hi:P.info? f.type with
          | none =>
            unfold jx at ha;rw [hi] at ha;split at ha<;>simp_all
          | some i=>exact ⟨fs,f,i,hu,hf,rfl,hi,fun h0=>hz (by simp [nQ,hi,h0]),ha⟩
    · cases h
  · cases h
theorem il.fa {t:TypeId} {x:Operand} {k off g o:Nat} {a:Option Nat} (hf:fo P t k=some (off,a)) (hx:ρ x=.pointer (some ⟨g,o,none⟩)):il P ρ (.fieldAddr t x k) (.pointer (some ⟨g,o+off,none⟩)):=by
  intro d ty pos aft gd w;obtain ⟨fs,f,i,hu,hk,rfl,hi,hne,ha⟩:=GF hf;simp [execOp,Instr.fieldAt,run_underlying hu,hk,hx,Instr.sureAddr,fieldPlace,sizeOf,typeInfo,hi,hne,add_lit]
theorem il.fd {t:TypeId} {x:Operand} {k off:Nat} {cs:Array Value} (hf:fo P t k=some (off,none)) (hx:ρ x=.agg cs) (hv:wX cs.toList off=some v):il P ρ (.field t x k) v:=by
  intro d ty pos aft gd w
  have hv:cs[off]?=some v:=by rw [yQ] at hv;simpa using hv
  obtain ⟨fs,f,i,hu,hk,rfl,hi,hne,ha⟩:=GF hf;simp [execOp,Instr.field,run_underlying hu,hk,hx,asAgg,part,(pn (w:=w) ha).1,hv]
theorem il.ix {t el:TypeId} {x y:Operand} {b o l c m:Nat} {k:IntKind} {i:Int} (ht:P.underlying t=some (.slice el)) (hm:nQ P el=some m) (hx:ρ x=.slice (some ⟨b,o,none⟩) l c) (hy:ρ y=.int k i) (h0:0≤i) (h1:i<l) :
    il P ρ (.indexAddr t x y) (.pointer (some ⟨b,o+i.toNat * m,none⟩)):=by
  intro d ty pos aft gd w
  cases hi:P.info? el with
  | none=>simp [nQ,hi] at hm
  | some inf =>
    have hm':inf.size=m:=by simpa [nQ,hi] using hm
    simp [execOp,Instr.indexAt,hx,hy,asIntOf,run_underlying ht,h0,h1,sizeOf,typeInfo,hi,hm',add_lit]
theorem il.nc {x:Operand} {a:Addr} (hx:ρ x=.pointer (some a)):il P ρ (.nilCheck x) (.pointer (some a)):=by
  intro d ty pos aft gd w;simp [execOp,hx]
theorem il.build {t:TypeId} {parts:Array (Nat×Operand)} {vs:List (Nat×Value)} {cs:Array Value} (hp:parts.toList.map (fun p=>(p.1,ρ p.2))=vs) (hb:P.built t vs=some cs):il P ρ (.build t parts) (.agg cs):=by
  intro d ty pos aft gd w
  have hp':(parts.map fun (i,x)=>(i,ρ x)).toList=vs:=by rw [← hp];simp
  subst hp';simp only [execOp,Sem.run_bind,run_build w t _ cs hb,Result.andThen_ok];rfl
end
end Go.Kx
namespace Go.Kx
open Go Go.RowKit
set_option linter.unusedVariables false
set_option linter.unusedSimpArgs false
def gT:Nat:=16777216
def idx {α:Type} (l:List α) (i:Int):Option α:=if 0≤i then l[i.toNat]? else none
def app {α:Type} (l m:List α):Option (List α):=if l.length+m.length<gT then some (l++m) else none
def mk (α:Type) [hD α] (n:Int):Option (List α):=if 0≤n∧n.toNat<gT then some (List.replicate n.toNat hD.zero) else none
def Oq (P:Program) (t:TypeId):Option (TypeId×Nat×Nat×List Value) :=
  match P.underlying t with
  | some (.slice e) =>
    match P.info? e with
    | some i=>match i.zero with
      | some z=>some (e,i.size,i.bytes,z.cells.toList)
      | none=>none
    | none=>none
  | _=>none
structure lY (P:Program) (t:TypeId) (α:Type) [hD α]:Prop where
  Bc:P.underlying t=some (.slice (hD.ty α))
  info:∃ i z,P.info? (hD.ty α)=some i∧i.zero=some z∧i.size=hD.sz α∧i.bytes≤4096∧z.cells.toList=hD.zc α
theorem lY.of {P:Program} {t:TypeId} {α:Type} [hD α] {b:Nat} (h:Oq P t=some (hD.ty α,hD.sz α,b,hD.zc α)) (hb:Nat.ble b 4096=true):lY P t α:=by
  unfold Oq at h;split at h
  · rename_i el hu;split at h
    · rename_i i hi;split at h
      · rename_i z hz;simp only [Option.some.injEq,Prod.mk.injEq] at h;obtain ⟨h1,h2,h3,h4⟩:=h;subst h1;subst h3;exact ⟨hu,i,z,hi,hz,h2,Nat.le_of_ble_eq_true hb,h4⟩
      · cases h
    · cases h
  · cases h
section
variable {P:Program} {w0 w:World} {F0:List Nat} {L M:List Item} {α:Type} [hD α]
theorem iR.idx {S:Nat→Prop} {a:Option Addr} {c:Nat} {l:List α} (h:iR S w a c l) {i:Int} {x:α} (hx:idx l i=some x) :
    ∃ b o cs,a=some ⟨b,o,none⟩∧S b∧0≤i∧i<(l.length:Int)∧hD.rd S w cs x∧∀ (j:Nat) (u:Value),cs[j]?=some u→w.cell? ⟨b,o+i.toNat * hD.sz α+j,none⟩=some u:=by
  unfold Kx.idx at hx;split at hx
  · rename_i h0;have hlt:=je hx
    have hne:l ≠ []:=by rintro rfl;simp at hlt
    obtain ⟨b,o,ha,hb,hc⟩:=h.cells hne;obtain ⟨cs,h1,h2⟩:=hc _ _ hx;exact ⟨b,o,cs,ha,hb,h0,by omega,h1,h2⟩
  · cases hx
theorem St.Of {a:Option Addr} {c:Nat} {l:List α} (h:St w0 F0 w L) (hr:iR (jA w0 F0) w0 a c l):iR (jA w0 F0) w a c l :=
  hr.mw fun b hb=>h.same b hb.1 hb.2
theorem mo.hZ {a:Option Addr} {c:Nat} {F:List Nat} {l:List α} {k:Int} {x:α} (q:mo w a c F l) (hx:idx l k=some x):∃ g o,a=some ⟨g,o,none⟩∧0≤k∧k<(l.length:Int):=by
  unfold Kx.idx at hx;split at hx
  · rename_i h0;have hlt:=je hx
    rcases q with ⟨_,_,rfl,_⟩ | ⟨g,o,cur,F',ha,_⟩
    · simp at hlt
    · exact ⟨g,o,ha,h0,by omega⟩
  · cases hx
theorem St.hZ {i:Nat} {a:Option Addr} {c:Nat} {l:List α} {k:Int} {x:α} (h:St w0 F0 w L) (hi:L[i]?=some (sl a c l)) (hx:idx l k=some x) :
    ∃ g o,a=some ⟨g,o,none⟩∧0≤k∧k<(l.length:Int):=by
  obtain ⟨F,hF,_,_⟩:=h.own;obtain ⟨Fi,q,_⟩:=hF.at_ i hi;exact mo.hZ q hx
theorem GI (c0 c1 c2 vs:List Value) (o:Nat) (h:o+vs.length≤c1.length) :
    (c0++(c1++c2)).take (c0.length+o)++vs++(c0++(c1++c2)).drop (c0.length+o+vs.length)=c0++((c1.take o++vs++c1.drop (o+vs.length))++c2):=by
  rw [List.take_length_add_append,List.take_append_of_le_length (by omega),Nat.add_assoc,List.drop_length_add_append,List.drop_append_of_le_length (by omega)];simp
theorem L9 {a:Option Addr} {c:Nat} {F:List Nat} {l:List α} {k:Nat} {x:α} (h:mo w a c F l) (hn:F.Nodup) (hk:l[k]?=some x) :
    ∃ g o cur c0 c1 c2 Fk,a=some ⟨g,o,none⟩∧w.heap[g]?=some (.cells cur (hD.ty α) (0,0))∧cur.toList=c0++(c1++c2)∧c0.length=o+k * hD.sz α∧hD.own w c1 Fk x∧g ∈ F∧g ∉ Fk∧(∀ b,b ∈ Fk→b ∈ F)∧Fk.Nodup ∧
      ∀ (w':World) (cur':Array Value) (d1:List Value) (G:List Nat) (y:α),hD.own w' d1 G y→w'.heap[g]?=some (.cells cur' (hD.ty α) (0,0))→cur'.toList=c0++(d1++c2) →
        (∀ b,b ∈ F→b ∉ Fk→b ≠ g→w'.heap[b]?=w.heap[b]?)→(∀ b,b ∈ G→b ∉ F∨b ∈ Fk)→G.Nodup →
        ∃ F',mo w' a c F' (l.set k y)∧F'.Nodup∧(∀ b,b ∈ F'→b ∈ F∨b ∈ G):=by
  have hlt:=je hk
  rcases h with ⟨_,_,rfl,_⟩ | ⟨g,o,cur,F',ha,hg,hs,h1,h2,rfl,he⟩
  · simp at hlt
  · obtain ⟨c0,c1,c2,G0,G1,G2,hc,hF,hl,q1,q2⟩:=he.set k hk;have hl1:=hD.ja q1
    have ho:o≤cur.size:=by omega
    have hto:(cur.toList.take o).length=o:=by rw [List.length_take,Array.length_toList];omega
    have hcc:cur.toList=(cur.toList.take o++c0)++(c1++c2):=by rw [List.append_assoc, ← hc,List.take_append_drop]
    have hsz:cur.size=o+(c0.length+(c1.length+c2.length)):=by rw [← Array.length_toList,hcc];simp [hto, -Array.length_toList]<;>omega
    subst hF;obtain ⟨hgn,hnd⟩:=List.nodup_cons.1 hn;obtain ⟨n0,n12,d0⟩:=List.nodup_append.1 hnd;obtain ⟨n1,n2,d12⟩:=List.nodup_append.1 n12;refine ⟨g,o,cur,_,c1,c2,G1,ha,hg,hcc,by rw [List.length_append,hto,hl],q1,by simp,fun h=>hgn (by simp [h]),fun b hb=>by simp [hb],n1,?_⟩;intro w' cur' d1 G y hy hg' hsp hb hG hGn;have hld:=hD.ja hy
    have hfr:∀ b,b ∈ G0++G2→w'.heap[b]?=w.heap[b]?:=by
      intro b hbb
      have hm:b ∈ G0++(G1++G2):=by
        rcases List.mem_append.1 hbb with h | h<;>simp [h]
      refine hb b (List.mem_cons_of_mem _ hm) (fun h1=>?_) (fun h=>hgn (h ▸ hm))
      rcases List.mem_append.1 hbb with h | h
      · exact d0 b h b (List.mem_append_left _ h1) rfl
      · exact d12 b h1 b h rfl
    have hEls:=q2 w' d1 G y hy hfr
    have hGout:∀ b,b ∈ G→b ≠ g∧b ∉ G0∧b ∉ G2:=by
      intro b hbG;have key:b ∈ G1∨b ∉ (g::(G0++(G1++G2))):=(hG b hbG).symm
      rcases key with h | h
      · refine ⟨fun e=>hgn (by simp [← e,h]),fun h0=>d0 b h0 b (List.mem_append_left _ h) rfl,fun h2=>d12 b h b h2 rfl⟩
      · simp at h;exact ⟨h.1,h.2.1,h.2.2.2⟩
    have hdr:cur'.toList.drop o=c0++(d1++c2):=by
      rw [hsp,List.append_assoc];exact List.drop_left' hto
    refine ⟨g::(G0++(G++G2)),.inr ⟨g,o,_,_,ha,hg',?_,by simpa using h1,h2,rfl,?_⟩,?_,?_⟩
    · have:cur'.size=cur.size:=by
        rw [← Array.length_toList,hsp,hsz];simp [hld,hl1,hto]<;>omega
      rw [this];exact hs
    · rw [hdr];exact hEls
    · refine List.nodup_cons.2 ⟨?_,List.nodup_append.2 ⟨n0,List.nodup_append.2 ⟨hGn,n2,fun a ha b hb e=>(hGout a ha).2.2 (e ▸ hb)⟩,?_⟩⟩
      · intro hm
        rcases List.mem_append.1 hm with h | h
        · exact hgn (by simp [h])
        · rcases List.mem_append.1 h with h | h
          · exact (hGout g h).1 rfl
          · exact hgn (by simp [h])
      · intro a ha b hb e;subst e
        rcases List.mem_append.1 hb with h | h
        · exact (hGout a h).2.1 ha
        · exact d0 a ha a (List.mem_append_right _ h) rfl
    · intro b hb;simp at hb ⊢
      rcases hb with h | h | h | h<;>simp [h]
theorem St.Jn {i:Nat} {a:Option Addr} {c:Nat} {l:List α} {k:Int} {x y:α} {o:Nat} {vs:List Value} (h:St w0 F0 w (M++L)) (hi:L[i]?=some (sl a c l)) (hx:Kx.idx l k=some x)
    (hold:o+vs.length≤hD.sz α) (hM:∀ (w:World) (cs:List Value) (F G:List Nat),hD.own w cs F x→iT M w G→∃ F',hD.own w (cs.take o++vs++cs.drop (o+vs.length)) F' y∧(∀ b,b ∈ F'→b ∈ F∨b ∈ G)∧(F.Nodup→G.Nodup→(∀ b,b ∈ F→b ∉ G)→F'.Nodup)) :
    ∃ g o0 cur,a=some ⟨g,o0,none⟩∧0≤k∧k<(l.length:Int)∧w.heap[g]?=some (.cells cur (hD.ty α) (0,0))∧o0+k.toNat * hD.sz α+o+vs.length≤cur.size ∧
      St w0 F0 (w.setRow g (wm cur (o0+k.toNat * hD.sz α+o) vs)) (L.set i (sl a c (l.set k.toNat y))):=by
  unfold Kx.idx at hx;split at hx
  case isFalse=>cases hx
  case isTrue h0 =>
  have hlt:=je hx
  have h':St w0 F0 w ((sl a c l::M)++L.eraseIdx i):=by
    have:=h.front (M.length+i) (x:=sl a c l) (by rw [List.getElem?_append_right (by omega),Nat.add_sub_cancel_left];exact hi);refine this.perm ?_
    have e:(M++L).eraseIdx (M.length+i)=M++L.eraseIdx i:=by
      rw [List.eraseIdx_append_of_length_le (by omega)];simp
    rw [e];simp
  obtain ⟨F,hF,hn,hlt2,_,_,hm⟩:=h'.share;obtain ⟨F1,F2,rfl,q1,q2⟩:=hF;obtain ⟨n1,n2,nd⟩:=List.nodup_append.1 hn;obtain ⟨g,o0,cur,c0,c1,c2,Fk,ha,hg,hc,hl0,r1,r2,hgk,r3,nk,r5⟩:=L9 q1 n1 hx;have hl1:=hD.ja r1
  have hsz:cur.size=c0.length+(c1.length+c2.length):=by rw [← Array.length_toList,hc];simp
  refine ⟨g,o0,cur,ha,h0,by omega,hg,by omega,?_⟩;generalize hw':w.setRow g (wm cur (o0+k.toNat * hD.sz α+o) vs)=w'
  have hgw:w'.heap[g]?=some (.cells (wm cur (o0+k.toNat * hD.sz α+o) vs) (hD.ty α) (0,0)):=by subst hw';exact setRow_heap w g cur _ _ _ hg
  have hoth:∀ b,b ≠ g→w'.heap[b]?=w.heap[b]?:=by subst hw';exact fun b hb=>setRow_other w g b _ hb
  have hsize:w'.heap.size=w.heap.size:=by subst hw';simp
  have hown1:hD.own w' c1 Fk x:=hD.jI r1 fun b hb=>hoth b fun e=>hgk (e ▸ hb);have hMw:iT M w' F2:=q2.frame fun b hb=>hoth b fun e=>nd g r2 b hb e.symm;obtain ⟨F',t1,t2,t3⟩:=hM w' c1 Fk F2 hown1 hMw
  have hcur:(wm cur (o0+k.toNat * hD.sz α+o) vs).toList=c0++((c1.take o++vs++c1.drop (o+vs.length))++c2):=by
    unfold wm;rw [hc, ← hl0];exact GI c0 c1 c2 vs o (by omega)
  obtain ⟨F3,u1,u2,u3⟩:=r5 w' _ _ F' y t1 hgw hcur (fun b _ _ hne=>hoth b hne)
    (fun b hb=>(t2 b hb).elim (fun h=>.inr h) (fun h=>.inl fun h1=>nd b h1 b h rfl)) (t3 nk n2 (fun b hb hb2=>nd b (r3 b hb) b hb2 rfl))
  refine (hm w' [sl a c (l.set k.toNat y)] ?_).perm (eraseIdx_set L i _ (je hi))
  have hF3:∀ b,b ∈ F3→b ∈ F1++F2:=fun b hb=>by
    rcases u3 b hb with h | h
    · exact List.mem_append_left _ h
    · rcases t2 b h with h | h
      · exact List.mem_append_left _ (r3 b h)
      · exact List.mem_append_right _ h
  refine ⟨by subst hw';rfl,by subst hw';rfl,by subst hw';rfl,by omega,fun b _ hno=>hoth b fun e=>hno (e ▸ List.mem_append_left _ r2),F3,⟨F3,[],by simp,u1,rfl⟩,u2,fun b hb=>⟨.inl (hF3 b hb),?_⟩⟩;rw [hsize];exact hlt2 b (hF3 b hb)
end
end Go.Kx
namespace Go.Kx
open Go Go.RowKit
set_option linter.unusedVariables false
set_option linter.unusedSimpArgs false
theorem Ed (zc:List Value) (hz:0<zc.length):∀ (m j:Nat),j<m * zc.length→(List.replicate m zc).flatten[j]?=zc[j % zc.length]?
  | 0,j,h=>by simp at h
  | m+1,j,h=>by
    rw [List.replicate_succ,List.flatten_cons]
    by_cases hj:j<zc.length
    · rw [List.getElem?_append_left hj,Nat.mod_eq_of_lt hj]
    · rw [List.getElem?_append_right (by omega),Ed zc hz m (j - zc.length) (by rw [Nat.succ_mul] at h;omega)];congr 1;rw [Nat.mod_eq_sub_mod (by omega:j ≥ zc.length)]
section
variable {P:Program} {w0 w:World} {F0:List Nat} {L M:List Item} {α:Type} [hD α]
variable {n:Nat} {Q:kV} {e:Env} {ops:Array Oper} {rest:List Oper} {ty:TypeId} {pos:String} {aft:Array Edge} {d:Nat} {v:Value}
theorem LW.vl {t:TypeId} {x y:Operand} {av:Option Nat} {i:Nat} {g o0 off:Nat} {c:Nat} {l:List α} {k:Int} {z z':α} {o:Nat} {vs:Array Value}
    (hS:St w0 F0 w (M++L)) (hi:L[i]?=some (sl (some ⟨g,o0,none⟩) c l)) (hk:idx l k=some z) (ht:jx P t=some av) (hx:ev e x=.pointer (some ⟨g,off,none⟩)) (hoff:off=o0+k.toNat * hD.sz α+o)
    (hy:(ev e y).cells=vs) (hm:vs.size=av.getD 1) (h1:vs.toList.all (·.oneCell')=true) (hold:Nat.ble (o+vs.size) (hD.sz α)=true)
    (hM:∀ (w:World) (cs:List Value) (F G:List Nat),hD.own w cs F z→iT M w G→∃ F',hD.own w (cs.take o++vs.toList++cs.drop (o+vs.toList.length)) F' z'∧(∀ b,b ∈ F'→b ∈ F∨b ∈ G)∧(F.Nodup→G.Nodup→(∀ b,b ∈ F→b ∉ G)→F'.Nodup))
    (h:∀ w':World,St w0 F0 w' (L.set i (sl (some ⟨g,o0,none⟩) c (l.set k.toNat z')))→Fr w w' [g]→LW P n ops Q rest e w'):LW P n ops Q (⟨none,.store t x y,ty,pos,aft,none⟩::rest) e w:=by
  have hold:=Nat.le_of_ble_eq_true hold;obtain ⟨g',o0',cur,ha,h0,hlt,hg,hsz,hst⟩:=St.Jn (o:=o) (vs:=vs.toList) hS hi hk (by simpa using hold) hM;cases ha;subst hoff;have hr:=run_storeCells_at P g (o0+k.toNat * hD.sz α+o) (hD.ty α) vs.toList 0 cur w hg (by simpa using hsz) (fun u hu=>List.all_eq_true.1 h1 u hu);simp only [Nat.add_zero] at hr;refine LW.BN (w':=w.setRow g (wm cur (o0+k.toNat * hD.sz α+o) vs.toList)) ?_ (h _ hst ⟨by simp,fun b _ hb=>setRow_other w g b _ (by simpa using hb)⟩);have:=pn (w:=w) ht;simp [execOp,Instr.storeAt,Instr.sureAddr,hx,storeVar,hy,hm,this.2,hr,wm]
theorem LW.mk {t:TypeId} {x y:Operand} {m:Int} {l:List α} (hT:lY P t α) (hx:ev e x=.int .i64 m) (hy:ev e y=.int .i64 m) (hl:Kx.mk α m=some l) (hS:St w0 F0 w L) (hd:Nat.ble (d+1) n=true)
    (h:∀ (a:Option Addr) (c:Nat) (w':World),St w0 F0 w' (sl a c l::L)→Fr w w' []→LW P n ops Q rest (kP e d (.slice a l.length c)) w'):LW P n ops Q (⟨some d,.makeSlice t x y,ty,pos,aft,none⟩::rest) e w:=by
  unfold Kx.mk at hl;split at hl
  case isFalse=>cases hl
  case isTrue hb =>
  obtain ⟨h0,hb⟩:=hb;cases hl;obtain ⟨i,z,hi,hz,hs,hby,hzc⟩:=hT.info;unfold gT at hb
  have hbytes:(i.bytes:Int) * m≤281474976710656:=by
    have h1:(i.bytes:Int) * m≤4096 * 16777216:=Int.mul_le_mul (by omega) (by omega) h0 (by omega);omega
  have hr:=run_make (P:=P) w t _ i z hT.Bc hi hz .i64 .i64 m m h0 (Int.le_refl _) hbytes (by omega);have hh:=h (some ⟨w.heap.size,0,none⟩) m.toNat (w.alloc (.cells (madeCells z.cells (m.toNat * i.size)) (hD.ty α)));simp only [List.length_replicate] at hh
  have hrun:(execOp (ev e) ⟨some d,.makeSlice t x y,ty,pos,aft,none⟩).run P w=.ok (.value (.slice (some ⟨w.heap.size,0,none⟩) m.toNat m.toNat)) (w.alloc (.cells (madeCells z.cells (m.toNat * i.size)) (hD.ty α))):=by
    simp [execOp,hx,hy,hr]
  refine LW.run hrun hd (hh (St.add (M:=[_]) hS ?_) ⟨by simp,fun b hb _=>Below.heap_alloc w _ b hb⟩)
  have hlen:∀ u,u ∈ List.replicate m.toNat (hD.zc α)→u.length=hD.sz α:=by
    intro u hu;rw [(List.mem_replicate.1 hu).2];exact hD.ja (hD.jl w)
  have hcells:(madeCells z.cells (m.toNat * i.size)).toList=(List.replicate m.toNat (hD.zc α)).flatten:=by
    have hzl:z.cells.size=hD.sz α:=by rw [← Array.length_toList,hzc];exact hD.ja (hD.jl w)
    apply List.ext_getElem?;intro j;have hz0:=hD.pos (α:=α)
    have hfl:(List.replicate m.toNat (hD.zc α)).flatten.length=m.toNat * hD.sz α:=by
      simp [List.length_flatten,hD.ja (hD.jl w)]
    by_cases hj:j<m.toNat * hD.sz α
    · have hfr:=Ed (hD.zc α) (by rw [hD.ja (hD.jl w)];exact hz0) m.toNat j (by rw [hD.ja (hD.jl w)];exact hj);rw [hfr,hD.ja (hD.jl w)]
      have hjm:j % hD.sz α<z.cells.size:=by rw [hzl];exact Nat.mod_lt _ hz0
      simp only [madeCells,hs,hzl,Array.toList_map,Array.toList_range,List.getElem?_map,List.getElem?_range hj,Option.map_some];rw [← hzc,Array.getElem?_toList,Array.getElem?_eq_getElem hjm,getElem!_pos z.cells _ hjm]
    · rw [List.getElem?_eq_none (by simp [madeCells,hs];omega),List.getElem?_eq_none (by omega)]
  refine ⟨rfl,rfl,rfl,by simp,fun b hb _=>Below.heap_alloc w _ b hb,[w.heap.size],⟨[w.heap.size],[],rfl,.inr ⟨_,0,_,_,rfl,heap_alloc_new w _,?_,by simp,by unfold maxLen;omega,rfl,?_⟩,rfl⟩,by simp,by simp⟩
  · rw [← Array.length_toList,hcells];simp [List.length_flatten,hD.ja (hD.jl w)]
  · rw [List.drop_zero,hcells];exact jJ.HB _
theorem St.wE {F G:List Nat} {w':World} {M:List Item} (hs:w.heap.size≤w'.heap.size) (ho:w'.os=w.os) (ht:w'.tape=w.tape) (hu:w'.output=w.output)
    (hsame:∀ b,b<w.heap.size→b ∉ F→w'.heap[b]?=w.heap[b]?) (hM:iT M w' G) (hn:G.Nodup) (hG:∀ b,b ∈ G→(b ∈ F∨w.heap.size≤b)∧b<w'.heap.size):St w F w' M :=
  ⟨ho,ht,hu,hs,hsame,G,hM,hn,hG⟩
theorem vN {t ty:TypeId} (hT:lY P t α) {a:Option Addr} {c:Nat} {F G:List Nat} {l ys:List α} (ho:mo w a c F l) {ad:Addr} {cc:Nat} {news:List Value}
    (hl:news.length=ys.length * hD.sz α) (hnews:∀ (j:Nat) (u:Value),news[j]?=some u→w.cell? (ad.add j)=some u) (hels:jJ w news G ys)
    (hn:(F++G).Nodup) (hlt:∀ b,b ∈ F++G→b<w.heap.size) (hb:l.length+ys.length<gT) :
    ∃ a' c' w',(Builtin.append_ #[t,t] ty #[.slice a l.length c,.slice (some ad) ys.length cc]).run P w=.ok (.slice a' (l++ys).length c') w'∧St w (F++G) w' [sl a' c' (l++ys)]∧Fr w w' ((a.map (·.block)).toList):=by
  obtain ⟨i,z,hi,hz,hs,hby,hzc⟩:=hT.info;unfold gT at hb
  have hzl:z.cells.size=hD.sz α:=by rw [← Array.length_toList,hzc];exact hD.ja (hD.jl w)
  have h1:∀ u,u ∈ news→u.oneCell'=true:=fun u hu=>jJ.one hels u (by rw [← hl,List.take_length];exact hu);obtain ⟨n1,n2,nd⟩:=List.nodup_append.1 hn
  have hby2:(l.length+ys.length) * i.bytes≤140737488355328:=by
    have:(l.length+ys.length) * i.bytes≤16777216 * 4096:=Nat.mul_le_mul (by omega) hby;omega
  have hmx:l.length+ys.length≤maxLen:=by unfold maxLen;omega
  -- what the growing arm leaves
  have grown:∀ (xs:List Value) (F':List Nat) (jz:Nat),jJ w xs F' l→xs.length=l.length * hD.sz α→(∀ b,b ∈ F'→b ∈ F)→F'.Nodup→jz<l.length+ys.length →
      St w (F++G) (w.drew.alloc (.cells (xs.toArray++news.toArray++Builtin.zeroCells z.cells (grownCap w (l.length+ys.length) jz (hD.ty α) - (l.length+ys.length))) (hD.ty α)))
        [sl (some ⟨w.heap.size,0,none⟩) (grownCap w (l.length+ys.length) jz (hD.ty α)) (l++ys)]:=by
    intro xs F' jz hex hxl hF' nF' hold;have hge:=grownCap_ge w (l.length+ys.length) jz (hD.ty α);have hcm:grownCap w (l.length+ys.length) jz (hD.ty α)≤maxLen:=grownCap_le_maxLen w (l.length+ys.length) jz (hD.ty α) hmx
    have hblk:∀ k,k<w.heap.size→(w.drew.alloc (.cells (xs.toArray++news.toArray++Builtin.zeroCells z.cells (grownCap w (l.length+ys.length) jz (hD.ty α) - (l.length+ys.length))) (hD.ty α))).heap[k]?=w.heap[k]? :=
      fun k hk=>heap_alloc_old w.drew _ hk
    refine St.wE (G:=w.heap.size::(F'++G)) (by simp) rfl rfl rfl (fun b hbl _=>hblk b hbl)
      ⟨w.heap.size::(F'++G),[],by simp,.inr ⟨w.heap.size,0,_,F'++G,rfl,heap_alloc_new w.drew _,?_,by simpa using hge,hcm,rfl,?_⟩,rfl⟩ ?_ ?_
    · simp only [Array.size_append,List.size_toArray,size_zeroCells,hzl,hxl,hl, ← Nat.add_mul,Nat.zero_add];refine Nat.mul_le_mul_right _ ?_;omega
    · rw [List.drop_zero];simp only [Array.toList_append,List.append_assoc];rw [← List.append_assoc];refine jJ.more (jJ.append.2 ⟨xs,news,F',G,rfl,rfl,hxl,hex.frame (fun b h=>hblk b (hlt b (List.mem_append_left _ (hF' b h)))),hels.frame (fun b h=>hblk b (hlt b (List.mem_append_right _ h)))⟩) _
    · refine List.nodup_cons.2 ⟨fun hm=>?_,List.nodup_append.2 ⟨nF',n2,fun a ha b hb e=>nd a (hF' a ha) b hb e⟩⟩
      have:w.heap.size ∈ F++G:=by
        rcases List.mem_append.1 hm with h | h
        · exact List.mem_append_left _ (hF' _ h)
        · exact List.mem_append_right _ h
      have:=hlt _ this;omega
    · intro b hbm
      rcases List.mem_cons.1 hbm with rfl | hbm
      · exact ⟨.inr (Nat.le_refl _),by simp⟩
      · have:b ∈ F++G:=by
          rcases List.mem_append.1 hbm with h | h
          · exact List.mem_append_left _ (hF' _ h)
          · exact List.mem_append_right _ h
        exact ⟨.inl this,Nat.lt_of_lt_of_le (hlt b this) (by simp)⟩
  rcases ho with ⟨rfl,rfl,rfl,rfl⟩ | ⟨g,o,cur,F',rfl,hg,hs',k1,k2,rfl,he⟩
  · by_cases hm:ys.length=0
    · have hy0:ys=[]:=List.eq_nil_of_length_eq_zero hm;subst hy0;refine ⟨none,0,w,?_,St.wE (G:=[]) (Nat.le_refl _) rfl rfl rfl (fun _ _ _=>rfl) ⟨[],[],rfl,.inl ⟨rfl,rfl,rfl,rfl⟩,rfl⟩ List.nodup_nil (by simp),⟨Nat.le_refl _,fun _ _ _=>rfl⟩⟩;simp [Builtin.append_,run_underlying hT.Bc,sizeOf,typeInfo,hi,Builtin.lenOf,Builtin.firstCells,loadCells,loadCellsFrom]
    · have hr:=run_append_nil (P:=P) w t ty (hD.ty α) i z hT.Bc hi hz ad ys.length cc news (by rw [hs];exact hl) hnews (by omega) (by unfold maxLen at hmx;simp at hmx;omega) (by have hb:=hby2;simp only [List.length_nil,Nat.zero_add] at hb;omega);have hg:=grown [] [] 0 rfl (by simp) (by simp) List.nodup_nil (by simp;omega);simp only [List.length_nil,Nat.zero_add,List.nil_append] at hr hg ⊢;exact ⟨_,_,_,hr,by simpa using hg,⟨by simp,fun b hb _=>heap_alloc_old w.drew _ hb⟩⟩
  · obtain ⟨q1,q2⟩:=he.take;obtain ⟨m1,m2⟩:=List.nodup_cons.1 n1
    have hdl:(cur.toList.drop o).length=cur.size - o:=by rw [List.length_drop,Array.length_toList]
    by_cases hroom:l.length+ys.length≤c
    · have hfit:o+l.length * hD.sz α+news.length≤cur.size:=by
        have:(l.length+ys.length) * hD.sz α≤c * hD.sz α:=Nat.mul_le_mul_right _ hroom;rw [Nat.add_mul] at this;omega
      have hfc:=run_firstCells_some (P:=P) w (hD.sz α) ys.length ad ys.length cc news hl hnews;have hst:=run_storeCells_at P g (o+l.length * hD.sz α) (hD.ty α) news 0 cur w hg (by simpa using hfit) (fun u hu=>h1 u hu);simp only [Nat.add_zero] at hst;refine ⟨some ⟨g,o,none⟩,c,w.setRow g (cur.toList.take (o+l.length * hD.sz α)++news++cur.toList.drop (o+l.length * hD.sz α+news.length)).toArray,?_,?_,⟨by simp,fun b _ hb=>setRow_other w g b _ (by simpa using hb)⟩⟩
      · simp [Builtin.append_,run_underlying hT.Bc,sizeOf,typeInfo,hi,Builtin.lenOf,hroom,hs,hfc,add_lit,hst]
      · have hoth:∀ b,b ≠ g→(w.setRow g (cur.toList.take (o+l.length * hD.sz α)++news++cur.toList.drop (o+l.length * hD.sz α+news.length)).toArray).heap[b]?=w.heap[b]?:=fun b hb=>setRow_other w g b _ hb
        refine St.wE (G:=g::(F'++G)) (by simp) rfl rfl rfl (fun b _ hno=>hoth b fun e=>hno (by simp [e]))
          ⟨g::(F'++G),[],by simp,.inr ⟨g,o,_,F'++G,rfl,setRow_heap w g cur _ _ _ hg,?_,by simpa using hroom,k2,rfl,?_⟩,rfl⟩ ?_ ?_
        · simp only [List.size_toArray,List.length_append,List.length_take,List.length_drop,Array.length_toList];omega
        · have e:(cur.toList.take (o+l.length * hD.sz α)++news++cur.toList.drop (o+l.length * hD.sz α+news.length)).drop o=((cur.toList.drop o).take (l.length * hD.sz α)++news)++cur.toList.drop (o+l.length * hD.sz α+news.length):=by
            rw [List.append_assoc,List.drop_append_of_le_length (by have hcl:cur.toList.length=cur.size:=Array.length_toList;rw [List.length_take];omega),List.drop_take,Nat.add_sub_cancel_left, ← List.append_assoc]
          simp only [List.toList_toArray] at e ⊢;rw [e];refine jJ.more (jJ.append.2 ⟨_,news,F',G,rfl,rfl,by rw [List.length_take];omega,q1.frame (fun b h=>hoth b fun e=>m1 (e ▸ h)),hels.frame (fun b h=>hoth b fun e=>nd g (by simp) b h e.symm)⟩) _
        · refine List.nodup_cons.2 ⟨fun hm=>?_,List.nodup_append.2 ⟨m2,n2,fun a ha b hb e=>nd a (by simp [ha]) b hb e⟩⟩
          rcases List.mem_append.1 hm with h | h
          · exact m1 h
          · exact nd g (by simp) g h rfl
        · intro b hbm
          have:b ∈ (g::F')++G:=by simpa using hbm
          exact ⟨.inl this,by simpa using hlt b this⟩
    · have holds:∀ (j:Nat) (u:Value),((cur.toList.drop o).take (l.length * hD.sz α))[j]?=some u→w.cell? ((⟨g,o,none⟩:Addr).add j)=some u:=by
        intro j u hu;rw [List.getElem?_take] at hu;split at hu
        · rw [List.getElem?_drop] at hu;rw [add_lit,cell_of_row w g (o+j) cur _ (0,0) hg];simpa using hu
        · cases hu
      have hxl:((cur.toList.drop o).take (l.length * hD.sz α)).length=l.length * hD.sz α:=by rw [List.length_take];omega
      have hr:=run_append_grow (P:=P) w t ty (hD.ty α) i z hT.Bc hi hz ⟨g,o,none⟩ l.length c _ (by rw [hs];exact hxl) holds ad ys.length cc news (by rw [hs];exact hl) hnews (by omega) (by unfold maxLen at hmx;omega) (growslice_fits (by omega) hby2);exact ⟨_,_,_,by rw [List.length_append];exact hr,grown _ F' c q1 hxl (fun b h=>by simp [h]) m2 (by omega),⟨by simp,fun b hb _=>heap_alloc_old w.drew _ hb⟩⟩
def Al (P:Program) (t:TypeId) (len:Nat) (parts:List (Nat×Value)):Option (TypeId×Array Value) :=
  match P.underlying t with
  | some (.slice el) =>
    match P.info? el with
    | some i =>
      match i.zero with
      | some z=>if len * i.size > 16777216 then none else
        (Instr.fill (fun k=>some (k * i.size,i.size)) ((Array.range (len * i.size)).map ((if len * i.size=0 then #[] else z.cells)[· % (if len * i.size=0 then #[] else z.cells:Array Value).size]!)) parts).map fun cs=>(el,cs)
      | none=>none
    | none=>none
  | _=>none
theorem BL {t el:TypeId} {len:Nat} {parts:Array (Nat×Value)} {cs:Array Value} (h:Al P t len parts.toList=some (el,cs)) :
    (Instr.buildSlice t len parts).run P w=.ok (.slice (some ⟨w.heap.size,0,none⟩) len len) (w.alloc (.cells cs el)):=by
  unfold Al at h;split at h
  · rename_i el' hu;split at h
    · rename_i i hi;split at h
      · rename_i z hz;split at h
        · cases h
        · rename_i hsm;have hsm':¬ 16777216<len * i.size:=hsm
          cases hf:Instr.fill (fun k=>some (k * i.size,i.size)) ((Array.range (len * i.size)).map ((if len * i.size=0 then #[] else z.cells)[· % (if len * i.size=0 then #[] else z.cells:Array Value).size]!)) parts.toList with
          | none=>rw [hf] at h;cases h
          | some cs' =>
            rw [hf] at h;simp only [Option.map_some,Option.some.injEq,Prod.mk.injEq] at h;obtain ⟨rfl,rfl⟩:=h
            by_cases h0:len * i.size=0
            · simp [h0] at hf;simp [Instr.buildSlice,run_underlying hu,sizeOf,typeInfo,hi,h0,hf,newRow]
            · simp only [h0,if_false] at hf;simp [Instr.buildSlice,run_underlying hu,sizeOf,typeInfo,hi,hsm',h0,zeroValue,hz,hf,newRow]
      · cases h
    · cases h
  · cases h
theorem LW.yw {t:TypeId} {len:Nat} {parts:Array (Nat×Operand)} {vs:List (Nat×Value)} {cs:Array Value} {l:List α} (hp:parts.toList.map (fun p=>(p.1,ev e p.2))=vs) (hb:Al P t len vs=some (hD.ty α,cs))
    (hl:l.length=len) (hcs:cs.size=len * hD.sz α) (hL:Nat.ble len 65536=true) (hels:∀ w:World,jJ w cs.toList [] l) (hS:St w0 F0 w L) (hd:Nat.ble (d+1) n=true)
    (h:∀ (a:Option Addr) (c:Nat) (w':World),St w0 F0 w' (sl a c l::L)→Fr w w' []→LW P n ops Q rest (kP e d (.slice a l.length c)) w'):LW P n ops Q (⟨some d,.buildSlice t len parts,ty,pos,aft,none⟩::rest) e w:=by
  have hp':(parts.map fun (i,x)=>(i,ev e x)).toList=vs:=by rw [← hp];simp
  subst hp';subst hl;have hL:=Nat.le_of_ble_eq_true hL
  have hrun:(execOp (ev e) ⟨some d,.buildSlice t l.length parts,ty,pos,aft,none⟩).run P w=.ok (.value (.slice (some ⟨w.heap.size,0,none⟩) l.length l.length)) (w.alloc (.cells cs (hD.ty α))):=by
    have:=BL (P:=P) (w:=w) hb;simp only [execOp,Sem.run_bind,this,Result.andThen_ok];rfl
  refine LW.run hrun hd (h _ _ _ (St.add (M:=[_]) hS ?_) ⟨by simp,fun b hb _=>Below.heap_alloc w _ b hb⟩);exact ⟨rfl,rfl,rfl,by simp,fun b hb _=>Below.heap_alloc w _ b hb,[w.heap.size],⟨[w.heap.size],[],rfl,.inr ⟨_,0,_,_,rfl,heap_alloc_new w _,by rw [hcs];omega,Nat.le_refl _,by unfold maxLen;omega,rfl,hels _⟩,rfl⟩,by simp,by simp⟩
theorem St.lay {w0 w w':World} {F0:List Nat} {L:List Item} (h:St w0 F0 w L) (hs:w.heap.size≤w'.heap.size) (ho:w'.os=w.os) (ht:w'.tape=w.tape) (hu:w'.output=w.output)
    (hsame:∀ b,b<w.heap.size→w'.heap[b]?=w.heap[b]?):St w0 F0 w' L :=
  St.add (M:=[]) h ⟨ho,ht,hu,hs,fun b hb _=>hsame b hb,[],rfl,List.nodup_nil,by simp⟩
theorem LW.kB {t ty2:TypeId} {pos2:String} {aft2:Array Edge} {x s:Operand} {d1:Nat} {vs:Array Value} {i:Nat} {a:Option Addr} {c:Nat} {l l':List α} {y:α} (hT:lY P t α)
    (hp:(ev e x).cells=vs) (hb:Al P t 1 [(0,ev e x)]=some (hD.ty α,vs)) (hs:ev e s=.slice a l.length c) (hs1:ev (kP e d1 undef) s=ev e s) (hl:app l [y]=some l')
    (hS:St w0 F0 w (M++L)) (hi:L[i]?=some (sl a c l)) (hM:∀ (w:World) (G:List Nat),iT M w G→hD.own w vs.toList G y) (hd1:Nat.ble (d1+1) n=true) (hd:Nat.ble (d+1) n=true)
    (h:∀ (v1:Value) (a':Option Addr) (c':Nat) (w':World),St w0 F0 w' (L.set i (sl a' c' l'))→Fr w w' ((a.map (·.block)).toList)→LW P n ops Q rest (kP (kP e d1 v1) d (.slice a' l'.length c')) w') :
    LW P n ops Q (⟨some d1,.buildSlice t 1 #[(0,x)],ty2,pos2,aft2,none⟩::⟨some d,.call { callee:=.builtin .append,args:=#[s,.tmp d1],argTypes:=#[t,t] },ty,pos,aft,none⟩::rest) e w:=by
  unfold app at hl;split at hl
  case isFalse=>cases hl
  case isTrue hbig =>
  cases hl
  have hrun:(execOp (ev e) ⟨some d1,.buildSlice t 1 #[(0,x)],ty2,pos2,aft2,none⟩).run P w=.ok (.value (.slice (some ⟨w.heap.size,0,none⟩) 1 1)) (w.alloc (.cells vs (hD.ty α))):=by
    have:=BL (P:=P) (w:=w) (parts:=#[(0,ev e x)]) hb;simp [execOp,this]
  refine LW.run hrun hd1 ?_;generalize hw1:w.alloc (.cells vs (hD.ty α))=w1;have hS1:St w0 F0 w1 (M++L):=hS.lay (by subst hw1;simp) (by subst hw1;rfl) (by subst hw1;rfl) (by subst hw1;rfl) (fun b hb=>by subst hw1;exact Below.heap_alloc w _ b hb)
  have h':St w0 F0 w1 ((sl a c l::M)++L.eraseIdx i):=by
    have:=hS1.front (M.length+i) (x:=sl a c l) (by rw [List.getElem?_append_right (by omega),Nat.add_sub_cancel_left];exact hi);refine this.perm ?_
    have e:(M++L).eraseIdx (M.length+i)=M++L.eraseIdx i:=by
      rw [List.eraseIdx_append_of_length_le (by omega)];simp
    rw [e];simp
  obtain ⟨F,hF,hn,hlt2,_,_,hm⟩:=h'.share;obtain ⟨F1,F2,rfl,q1,q2⟩:=hF;have hy:=hM w1 F2 q2
  have hcell:∀ (j:Nat) (u:Value),vs.toList[j]?=some u→w1.cell? ((⟨w.heap.size,0,none⟩:Addr).add j)=some u:=by
    intro j u hu;subst hw1;rw [add_lit,Nat.zero_add,cell_of_row _ w.heap.size j vs (hD.ty α) (0,0) (heap_alloc_new w _)];simpa using hu
  obtain ⟨a',c',w',hr,hst,hfr⟩:=vN (ty:=ty) (ys:=[y]) (cc:=1) hT q1 (by rw [hD.ja hy];simp) hcell (show jJ w1 vs.toList F2 [y] from ⟨vs.toList,[],F2,[],by simp,by simp,hy,rfl⟩) hn hlt2 hbig
  have hfr1:Fr w w' ((a.map (·.block)).toList):=⟨Nat.le_trans (by subst hw1;simp) hfr.size,fun b hb hno=>by
    rw [hfr.same b (by subst hw1;simp;omega) hno];subst hw1
    exact Below.heap_alloc w _ b hb⟩
  refine LW.run (v:=.slice a' (l++[y]).length c') ?_ hd (h _ a' c' w' ((hm w' _ hst).perm (eraseIdx_set L i _ (je hi))) hfr1)
  have hs2:ev (kP e d1 (.slice (some ⟨w.heap.size,0,none⟩) 1 1)) s=.slice a l.length c:=by
    cases s with
    | tmp t' =>
      simp only [ev] at hs hs1 ⊢
      have:Nat.beq t' d1=false:=by
        cases hb:Nat.beq t' d1
        · rfl
        · simp only [kP,hb,cond_true] at hs1;rw [hs] at hs1;cases hs1
      simp only [kP,this,cond_false];exact hs
    | _=>exact hs
  have hx2:ev (kP e d1 (.slice (some ⟨w.heap.size,0,none⟩) 1 1)) (.tmp d1)=.slice (some ⟨w.heap.size,0,none⟩) 1 1:=by
    simp only [ev,kP];rw [Nat.beq_refl];rfl
  simp only [List.length_cons,List.length_nil,Nat.zero_add] at hr;simp [execOp,resolve,invoke,builtin,hs2,hx2,hr]
theorem LW.MW {t:TypeId} {x:Operand} {vs:Array Value} (hT:lY P t α) (hp:(ev e x).cells=vs) (hb:Al P t 1 [(0,ev e x)]=some (hD.ty α,vs)) (hS:St w0 F0 w L) (hd:Nat.ble (d+1) n=true)
    (h:∀ (g:Nat) (w':World),St w0 F0 w' (bx g (hD.ty α) vs.toList::L)→Fr w w' []→LW P n ops Q rest (kP e d (.slice (some ⟨g,0,none⟩) 1 1)) w') :
    LW P n ops Q (⟨some d,.buildSlice t 1 #[(0,x)],ty,pos,aft,none⟩::rest) e w:=by
  have hrun:(execOp (ev e) ⟨some d,.buildSlice t 1 #[(0,x)],ty,pos,aft,none⟩).run P w=.ok (.value (.slice (some ⟨w.heap.size,0,none⟩) 1 1)) (w.alloc (.cells vs (hD.ty α))):=by
    have:=BL (P:=P) (w:=w) (parts:=#[(0,ev e x)]) hb;simp [execOp,this]
  refine LW.run hrun hd (h _ _ ?_ ⟨by simp,fun b hb _=>Below.heap_alloc w _ b hb⟩);have:=hS.add (El w (hD.ty α) vs.toList);simpa using this
theorem St.lit {g:Nat} {vs:List Value} {M:List Item} {y:α} (hS:St w0 F0 w (bx g (hD.ty α) vs::(M++L))) (hM:∀ (w:World) (G:List Nat),iT M w G→hD.own w vs G y):St w0 F0 w (sl (some ⟨g,0,none⟩) 1 [y]::L):=by
  have h':St w0 F0 w ((bx g (hD.ty α) vs::M)++L):=hS;obtain ⟨F,hF,hn,hlt,_,_,hm⟩:=h'.share;refine hm w [sl (some ⟨g,0,none⟩) 1 [y]] (St.init ?_ hn hlt);obtain ⟨F1,F2,rfl,⟨rfl,hg⟩,q2⟩:=hF;have hy:=hM w F2 q2;refine ⟨[g]++F2,[],by simp,.inr ⟨g,0,vs.toArray,F2,rfl,hg,?_,by simp,by simp [maxLen],rfl,⟨vs,[],F2,[],by simp,by simp,hy,rfl⟩⟩,rfl⟩;simp [hD.ja hy]
theorem LW.Du {t:TypeId} {x s:Operand} {vs:List Value} {i j g:Nat} {a:Option Addr} {c:Nat} {l l':List α} {y:α} (hT:lY P t α)
    (hs:ev e s=.slice a l.length c) (hx:ev e x=.slice (some ⟨g,0,none⟩) 1 1) (hl:app l [y]=some l')
    (hS:St w0 F0 w (M++L)) (hi:L[i]?=some (sl a c l)) (hj:L[j]?=some (bx g (hD.ty α) vs)) (hM:∀ (w:World) (G:List Nat),iT M w G→hD.own w vs G y) (hd:Nat.ble (d+1) n=true)
    (h:∀ (a':Option Addr) (c':Nat) (w':World),St w0 F0 w' (L.set i (sl a' c' l'))→Fr w w' ((a.map (·.block)).toList)→LW P n ops Q rest (kP e d (.slice a' l'.length c')) w') :
    LW P n ops Q (⟨some d,.call { callee:=.builtin .append,args:=#[s,x],argTypes:=#[t,t] },ty,pos,aft,none⟩::rest) e w:=by
  unfold app at hl;split at hl
  case isFalse=>cases hl
  case isTrue hbig =>
  cases hl;have hg:=St.cell (h:=hS) (i:=M.length+j) (by rw [List.getElem?_append_right (by omega),Nat.add_sub_cancel_left];exact hj)
  have h':St w0 F0 w ((sl a c l::M)++L.eraseIdx i):=by
    have:=hS.front (M.length+i) (x:=sl a c l) (by rw [List.getElem?_append_right (by omega),Nat.add_sub_cancel_left];exact hi);refine this.perm ?_
    have e:(M++L).eraseIdx (M.length+i)=M++L.eraseIdx i:=by
      rw [List.eraseIdx_append_of_length_le (by omega)];simp
    rw [e];simp
  obtain ⟨F,hF,hn,hlt2,_,_,hm⟩:=h'.share;obtain ⟨F1,F2,rfl,q1,q2⟩:=hF;have hy:=hM w F2 q2
  have hcell:∀ (k:Nat) (u:Value),vs[k]?=some u→w.cell? ((⟨g,0,none⟩:Addr).add k)=some u:=by
    intro k u hu;rw [add_lit,Nat.zero_add,cell_of_row _ g k vs.toArray (hD.ty α) (0,0) hg];simpa using hu
  obtain ⟨a',c',w',hr,hst,hfr⟩:=vN (ty:=ty) (ys:=[y]) (cc:=1) hT q1 (by rw [hD.ja hy];simp) hcell (show jJ w vs F2 [y] from ⟨vs,[],F2,[],by simp,by simp,hy,rfl⟩) hn hlt2 hbig;refine LW.run (v:=.slice a' (l++[y]).length c') ?_ hd (h a' c' w' ((hm w' _ hst).perm (eraseIdx_set L i _ (je hi))) hfr);simp only [List.length_cons,List.length_nil,Nat.zero_add] at hr;simp [execOp,resolve,invoke,builtin,hs,hx,hr]
class Flat (α:Type) [hD α]:Prop where
  flat:∀ {S w w' cs} {x:α},hD.rd S w cs x→hD.own w' cs [] x
theorem jJ.flat [Flat α] {S:Nat→Prop} {a:Option Addr} {c:Nat} {l:List α} (h:iR S w a c l):∃ news:List Value,news.length=l.length * hD.sz α∧(∀ w':World,jJ w' news [] l)∧(l ≠ []→∃ b o,a=some ⟨b,o,none⟩∧∀ (j:Nat) (u:Value),news[j]?=some u→w.cell? ⟨b,o+j,none⟩=some u):=by
  by_cases hne:l=[]
  · subst hne;exact ⟨[],by simp,fun _=>rfl,fun h=>absurd rfl h⟩
  · obtain ⟨b,o,ha,_,hc⟩:=h.cells hne
    have key:∀ (m:List α) (o':Nat),(∀ (k:Nat) (x:α),m[k]?=some x→∃ cs,hD.rd S w cs x∧∀ (j:Nat) (u:Value),cs[j]?=some u→w.cell? ⟨b,o'+k * hD.sz α+j,none⟩=some u) →
        ∃ news:List Value,news.length=m.length * hD.sz α∧(∀ w':World,jJ w' news [] m)∧∀ (j:Nat) (u:Value),news[j]?=some u→w.cell? ⟨b,o'+j,none⟩=some u:=by
      intro m
      induction m with
      | nil=>exact fun _ _=>⟨[],by simp,fun _=>rfl,fun j u hu=>by simp at hu⟩
      | cons x m ih =>
        intro o' hm;obtain ⟨cs,h1,h2⟩:=hm 0 x rfl;have hl:=hD.kY h1
        obtain ⟨news,g1,g2,g3⟩:=ih (o'+hD.sz α) (fun k y hy=>by
          obtain ⟨cs',q1,q2⟩:=hm (k+1) y (by simpa using hy)
          exact ⟨cs',q1,fun j u hu=>by
            have:=q2 j u hu;rw [Nat.succ_mul] at this;rw [show o'+hD.sz α+k * hD.sz α+j=o'+(k * hD.sz α+hD.sz α)+j by omega]
            exact this⟩)
        refine ⟨cs++news,by simp [hl,g1,Nat.succ_mul,Nat.add_comm],fun w'=>⟨cs,news,[],[],rfl,rfl,Flat.flat h1,g2 w'⟩,fun j u hu=>?_⟩
        by_cases hj:j<cs.length
        · rw [List.getElem?_append_left hj] at hu;simpa using h2 j u hu
        · rw [List.getElem?_append_right (by omega)] at hu;have:=g3 _ u hu;rw [show o'+j=o'+hD.sz α+(j - cs.length) by omega];exact this
    obtain ⟨news,g1,g2,g3⟩:=key l o hc;exact ⟨news,g1,g2,fun _=>⟨b,o,ha,g3⟩⟩
theorem A6 {t ty:TypeId} (hT:lY P t α) {a:Option Addr} {c cc:Nat} {F:List Nat} {l:List α} (ho:mo w a c F l):(Builtin.append_ #[t,t] ty #[.slice a l.length c,.slice none 0 cc]).run P w=.ok (.slice a l.length c) w:=by
  obtain ⟨i,z,hi,hz,hs,hby,hzc⟩:=hT.info
  rcases ho with ⟨rfl,rfl,rfl,rfl⟩ | ⟨g,o,cur,F',rfl,hg,hs',k1,k2,rfl,he⟩
  · simp [Builtin.append_,run_underlying hT.Bc,sizeOf,typeInfo,hi,Builtin.lenOf,Builtin.firstCells]
  · simp [Builtin.append_,run_underlying hT.Bc,sizeOf,typeInfo,hi,Builtin.lenOf,Builtin.firstCells,k1,storeCells]
theorem LW.jS [Flat α] {t:TypeId} {s x:Operand} {i:Nat} {S:Nat→Prop} {a b:Option Addr} {c cb:Nat} {l m l':List α} (hT:lY P t α) (hs:ev e s=.slice a l.length c) (hx:ev e x=.slice b m.length cb) (hr:iR S w b cb m)
    (hl:app l m=some l') (hS:St w0 F0 w L) (hi:L[i]?=some (sl a c l)) (hd:Nat.ble (d+1) n=true)
    (h:∀ (a':Option Addr) (c':Nat) (w':World),St w0 F0 w' (L.set i (sl a' c' l'))→Fr w w' ((a.map (·.block)).toList)→LW P n ops Q rest (kP e d (.slice a' l'.length c')) w') :
    LW P n ops Q (⟨some d,.call { callee:=.builtin .append,args:=#[s,x],argTypes:=#[t,t] },ty,pos,aft,none⟩::rest) e w:=by
  unfold app at hl;split at hl
  case isFalse=>cases hl
  case isTrue hbig =>
  cases hl;have h':St w0 F0 w ([sl a c l]++L.eraseIdx i):=hS.front i hi;obtain ⟨F,hF,hn,hlt2,_,_,hm⟩:=h'.share;obtain ⟨F1,F2,rfl,q1,q2⟩:=hF;cases (show F2=[] from q2);rw [List.append_nil] at hn hlt2 hm;obtain ⟨news,g1,g2,g3⟩:=jJ.flat hr
  by_cases hne:m=[]
  · subst hne
    cases b with
    | none =>
      refine LW.run (v:=.slice a (l++[]).length c) ?_ hd (h a c w (by
        have:=hS.setAt (w':=w) (y:=sl a c (l++[])) hi (fun F hF hn hlt=>St.init ⟨F,[],by simp,by rw [List.append_nil];exact hF,rfl⟩ hn hlt)
        exact this) ⟨Nat.le_refl _,fun b _ _=>rfl⟩)
      have:=A6 (P:=P) (ty:=ty) (cc:=cb) hT q1;simp [execOp,resolve,invoke,builtin,hs,hx,this]
    | some ad =>
      obtain ⟨a',c',w',hr',hst,hfr⟩:=vN (ty:=ty) (ad:=ad) (cc:=cb) (ys:=[]) hT q1 (news:=[]) (G:=[]) (by simp) (by simp) rfl (by simpa using hn) (by simpa using hlt2) hbig;rw [List.append_nil] at hst;refine LW.run (v:=.slice a' (l++[]).length c') ?_ hd (h a' c' w' ((hm w' _ hst).perm (eraseIdx_set L i _ (je hi))) hfr);simp only [List.length_nil] at hr' hx;simp only [execOp,resolve,invoke,builtin,Sem.run_bind,Sem.run_pure,Result.andThen_ok,List.map_toArray,List.map_cons,List.map_nil,hs,hx,hr']
  · obtain ⟨b',o,rfl,hc⟩:=g3 hne;obtain ⟨a',c',w',hr',hst,hfr⟩:=vN (ty:=ty) (ad:=⟨b',o,none⟩) (cc:=cb) (ys:=m) hT q1 g1 (fun j u hu=>by rw [add_lit];exact hc j u hu) (g2 w) (by simpa using hn) (by simpa using hlt2) hbig;rw [List.append_nil] at hst;refine LW.run (v:=.slice a' (l++m).length c') ?_ hd (h a' c' w' ((hm w' _ hst).perm (eraseIdx_set L i _ (je hi))) hfr);simp only [execOp,resolve,invoke,builtin,Sem.run_bind,Sem.run_pure,Result.andThen_ok,List.map_toArray,List.map_cons,List.map_nil,hs,hx,hr']
end
end Go.Kx
namespace Go.Kx
open Go Go.RowKit
set_option linter.unusedVariables false
set_option linter.unusedSimpArgs false
def waits (ops:Array Oper) (j k:Nat):Bool :=
  match ops[j]? with
  | some o=>o.after.any fun e=>Region.binds .any e&&e.on==k
  | none=>false
abbrev pb:=List (Nat×(World→Prop))
def sk (P:Program) (ops:Array Oper) (Q:Exit→Act→World→Prop):Nat→pb→Array Bool→Act→World→Prop
  | 0,_,listed,a,w=>Region.ready .any ops listed=[]∧Q .normal a w
  | fuel+1,E,listed,a,w=>(Region.ready .any ops listed=[]→Q .normal a w)∧∀ j ∈ Region.ready .any ops listed,
      wpOp P ops Q j (fun a' w'=>(∀ p,p ∈ E→waits ops j p.1=false→p.2 w→p.2 w')∧sk P ops Q fuel E (listed.setIfInBounds j true) a' w') a w
section
variable {P:Program} {ops:Array Oper} {Q:Exit→Act→World→Prop}
theorem sk.any:∀ (fuel:Nat) {E:pb} {listed:Array Bool} {a:Act} {w:World},sk P ops Q fuel E listed a w→wpAny P .any ops Q fuel listed a w
  | 0,_,_,_,_,h=>h
  | fuel+1,_,_,_,_,h=>⟨h.1,fun i hi=>wpOp_mono (fun a' w' h'=>sk.any fuel h'.2) (h.2 i hi)⟩
theorem sk.less:∀ (fuel:Nat) {E E':pb} {listed:Array Bool} {a:Act} {w:World},(∀ p,p ∈ E'→p ∈ E∨∀ w,p.2 w)→sk P ops Q fuel E listed a w→sk P ops Q fuel E' listed a w
  | 0,_,_,_,_,_,_,h=>h
  | fuel+1,_,_,_,_,_,he,h=>⟨h.1,fun i hi=>wpOp_mono (fun a' w' h'=>⟨fun p hp hw hc=>(he p hp).elim (fun h1=>h'.1 p h1 hw hc) (fun h1=>h1 w'),sk.less fuel he h'.2⟩) (h.2 i hi)⟩
theorem Jh {j k:Nat} {o:Oper} (ho:ops[j]?=some o) (h:∀ e ∈ o.after,Region.binds .any e=true→e.on ≠ k):waits ops j k=false:=by
  unfold waits;rw [ho];simp only;cases hb:o.after.any fun e=>Region.binds .any e&&e.on==k
  · rfl
  · obtain ⟨e,he,hb⟩:=Array.any_eq_true'.1 hb;simp only [Bool.and_eq_true,beq_iff_eq] at hb;exact absurd hb.2 (h e he hb.1)
theorem sk.first {C:World→Prop} {i:Nat} {oi:Oper} {v:Value} (hi:ops[i]?=some oi) (hsel:∀ (j:Nat) (o:Oper) cs b,ops[j]?=some o→o.op ≠ .select cs b)
    (hQ:∀ c a w,Q (.panic c) (a.put oi.dst v) w→Q (.panic c) a w) :
    ∀ (fuel:Nat) (E:pb) (listed:Array Bool) (a:Act) (w:World),
      (∀ j oj,ops[j]?=some oj→j ≠ i→listed.getD j true=false→(∀ e ∈ oj.after,Region.binds .any e=true→e.on ≠ i)→oi.apart ops oj=true) →
      i ∈ Region.ready .any ops listed→YieldsIf P ops C oi v a→C w →
      sk P ops Q fuel ((i,C)::E) (listed.setIfInBounds i true) (a.put oi.dst v) w→sk P ops Q (fuel+1) E listed a w:=by
  intro fuel
  induction fuel with
  | zero =>
    intro E listed a w _ hr hy hC H;refine ⟨fun h=>(by rw [h] at hr;cases hr),fun j hj=>?_⟩
    by_cases hji:j=i
    · subst hji;exact hy.wpOp hi hC ⟨fun _ _ _ h=>h,H⟩
    · have:=ready_mono hj hji;rw [H.1] at this;cases this
  | succ fuel ih =>
    intro E listed a w hfree hr hy hC H;refine ⟨fun h=>(by rw [h] at hr;cases hr),fun j hj=>?_⟩
    by_cases hji:j=i
    · subst hji;exact hy.wpOp hi hC ⟨fun _ _ _ h=>h,H.less _ (fun p hp=>.inl (List.mem_cons_of_mem _ hp))⟩
    · have h1:=H.2 j (ready_mono hj hji);obtain ⟨hjun,oj,hoj,hall⟩:=mem_ready.1 hj
      have hnot:∀ e ∈ oj.after,Region.binds .any e=true→e.on ≠ i:=fun e he hb heq=>by
        have h1:=hall e he hb;have h0:=(mem_ready.1 hr).1;rw [heq] at h1
        rcases Nat.lt_or_ge i listed.size with h' | h'
        · simp [h'] at h0 h1;rw [h0] at h1;cases h1
        · simp [Array.getElem?_eq_none h'] at h1
      have h2:=wpOp_putIf hoj (hfree j oj hoj hji hjun hnot) (fun cs b=>hsel i oi cs b hi) (fun cs b=>hsel j oj cs b hoj) hQ hy h1;refine wpOp_mono (fun a' w' h3=>⟨fun p hp hw hc=>h3.2.1 p (List.mem_cons_of_mem _ hp) hw hc,?_⟩) h2;refine ih E (listed.setIfInBounds j true) a' w' (fun k ok hk hki hun hno=>?_) (ready_mono hr (Ne.symm hji)) h3.1 (h3.2.1 (i,C) (by simp) (Jh hoj hnot) hC) ?_
      · refine hfree k ok hk hki ?_ hno
        by_cases hjk:j=k
        · subst hjk;exact hjun
        · rw [getD_set_ne true hjk] at hun;exact hun
      · rw [Array.setIfInBounds_comm _ _ hji];exact h3.2.2
end
def AW (P:Program) (n:Nat) (ops:Array Oper) (Q:kV) (fuel:Nat) (E:pb) (listed:Array Bool) (e:Env) (w:World):Prop:=∀ a,Is a n e→sk P ops (lift n Q) fuel E listed a w
def j8 (ops:Array Oper) (listed:Array Bool) (i:Nat):Bool:=Region.noSelect ops&&Region.free .any ops listed i&&(Region.ready .any ops listed).contains i
section
variable {P:Program} {n:Nat} {Q:kV} {e:Env} {w:World} {ops:Array Oper} {fuel:Nat} {E:pb} {listed:Array Bool} {i:Nat}
  {ty:TypeId} {pos:String} {aft:Array Edge} {d:Nat} {v:Value} {g:Option (Nat×Bool)}
theorem CW.draw {id:Nat} {l:List Oper} (hm:P.follows .mixedOrders=true) (h:AW P n l.toArray Q l.length [] (Array.replicate l.length false) e w.drew):CW P n (.region id l.toArray true) Q e w:=by
  intro a ha;refine wp_region_any hm (sk.any _ (E:=[]) ?_);rw [List.size_toArray];exact h a ha
theorem AW.take {op:Op} {C:World→Prop} (hi:ops[i]?=some ⟨some d,op,ty,pos,aft,g⟩) (hok:j8 ops listed i=true) (hw:oQ ops g e=true) (hd:Nat.ble (d+1) n=true)
    (hl:iZ P (ev e) op C v) (hC:C w) (h:AW P n ops Q fuel ((i,C)::E) (listed.setIfInBounds i true) (kP e d v) w):AW P n ops Q (fuel+1) E listed e w:=by
  intro a ha;unfold j8 at hok;simp only [Bool.and_eq_true] at hok;obtain ⟨⟨h1,h2⟩,h3⟩:=hok;refine sk.first (C:=C) (v:=v) hi (Region.noSelect_spec h1) (fun c a w hq=>hq.1.elim) fuel E listed a w (Region.free_spec hi h2) (by simpa using h3) (.inl ⟨?_,fun w' hw'=>?_⟩) hC (h _ (ha.put (Nat.le_of_ble_eq_true hd) v))
  · rw [wZ ha];exact hw
  · rw [ha.eval];exact hl _ _ _ _ _ _ hw'
theorem AW.u {op:Op} (hi:ops[i]?=some ⟨some d,op,ty,pos,aft,g⟩) (hok:j8 ops listed i=true) (hw:oQ ops g e=true) (hd:Nat.ble (d+1) n=true)
    (hl:il P (ev e) op v) (h:AW P n ops Q fuel E (listed.setIfInBounds i true) (kP e d v) w):AW P n ops Q (fuel+1) E listed e w :=
  AW.take (C:=fun _=>True) hi hok hw hd (fun d ty pos aft g w _=>hl d ty pos aft g w) trivial fun a ha=>(h a ha).less _ fun p hp=>(List.mem_cons.1 hp).elim (fun h=>.inr fun _=>by subst h;trivial) .inl
theorem AW.no {op:Op} (hi:ops[i]?=some ⟨some d,op,ty,pos,aft,g⟩) (hok:j8 ops listed i=true) (hw:oQ ops g e=false) (hd:Nat.ble (d+1) n=true)
    (h:AW P n ops Q fuel E (listed.setIfInBounds i true) (kP e d undef) w):AW P n ops Q (fuel+1) E listed e w:=by
  intro a ha;unfold j8 at hok;simp only [Bool.and_eq_true] at hok;obtain ⟨⟨h1,h2⟩,h3⟩:=hok
  refine sk.first (C:=fun _=>True) (v:=undef) hi (Region.noSelect_spec h1) (fun c a w hq=>hq.1.elim) fuel E listed a w (Region.free_spec hi h2) (by simpa using h3) (.inr ⟨?_,rfl⟩) trivial
    ((h _ (ha.put (Nat.le_of_ble_eq_true hd) undef)).less _ fun p hp=>(List.mem_cons.1 hp).elim (fun h=>.inr fun _=>by subst h;trivial) .inl)
  rw [wZ ha];exact hw
def Dx:List Nat→(Nat→Prop)→Prop
  | [],_=>True
  | i::r,p=>p i∧Dx r p
theorem Dx.mem {p:Nat→Prop}:∀ {l:List Nat},Dx l p→∀ i,i ∈ l→p i
  | i::r,h,j,hj=>(List.mem_cons.1 hj).elim (fun e=>e ▸ h.1) (Dx.mem h.2 j)
def Kept (ops:Array Oper) (i:Nat) (E:pb) (w w':World):Prop:=∀ p,p ∈ E→waits ops i p.1=false→p.2 w→p.2 w'
def One (P:Program) (n:Nat) (ops:Array Oper) (Q:kV) (fuel:Nat) (E:pb) (listed:Array Bool) (e:Env) (w:World) (i:Nat):Prop :=
  ∃ o,ops[i]?=some o∧LW P n ops (fun x e' w'=>x=.normal∧Kept ops i E w w'∧AW P n ops Q fuel E (listed.setIfInBounds i true) e' w') [o] e w
theorem IQ {o:Oper} {a:Act} {w:World} {K:Act→World→Prop} {Q Q':Exit→Act→World→Prop} (hp:∀ c a w,Q (.panic c) a w→Q' (.panic c) a w) (hl:LetsOut Q→LetsOut Q')
    (h:o.wp P a w K Q):o.wp P a w K Q':=by
  unfold Oper.wp at *;generalize (execOp a.eval o).run P w=r at *
  cases r with
  | ok x w' =>
    cases x<;>simp only [Oper.upon] at h ⊢<;>first
      | exact h
      | (refine Calls.mono h fun e w'' hh=>?_
         cases e with
         | returned v=>exact hh
         | panicked c=>exact hp _ _ _ hh
         | outgrown=>exact hl hh)
  | halt x w'=>cases x<;>simp only [Oper.upon] at h ⊢<;>first | exact h | exact hp _ _ _ h
theorem AW.all {rs:List Nat} (hr:Region.ready .any ops listed=rs) (hne:rs ≠ []) (h:Dx rs (One P n ops Q fuel E listed e w)):AW P n ops Q (fuel+1) E listed e w:=by
  intro a ha;refine ⟨fun h0=>absurd (hr ▸ h0) hne,fun j hj=>?_⟩;obtain ⟨o,ho,hL⟩:=h.mem j (hr ▸ hj);have h1:=hL a ha;unfold wpList at h1;unfold wpOp;rw [ho];simp only
  have hK:∀ (a':Act) (w':World),wpList P ops (lift n fun x e' w'=>x=.normal∧Kept ops j E w w'∧AW P n ops Q fuel E (listed.setIfInBounds j true) e' w') [] a' w' →
      (∀ p,p ∈ E→waits ops j p.1=false→p.2 w→p.2 w')∧sk P ops (lift n Q) fuel E (listed.setIfInBounds j true) a' w':=by
    rintro a' w' ⟨_,e',he',_,hk,hA⟩;exact ⟨hk,hA a' he'⟩
  split
  · rename_i hwt;rw [if_pos hwt] at h1
    rcases h1 with h1 | ⟨_,hq⟩
    · exact .inl (Oper.wp_mono hK (IQ (fun c a w hq=>hq.1.elim) (fun hq=>by obtain ⟨a0,w0,hc,_⟩:=hq;exact hc.elim) h1))
    · obtain ⟨a0,w0,hc,_⟩:=hq;exact hc.elim
  · rename_i hwt;rw [if_neg hwt] at h1;exact hK _ _ h1
theorem AW.one (hr:Region.ready .any ops listed=[i]) (h:One P n ops Q fuel E listed e w i):AW P n ops Q (fuel+1) E listed e w:=AW.all hr (by simp) ⟨h,trivial⟩
theorem AW.done (hr:Region.ready .any ops listed=[]) (h:Q .normal e w):AW P n ops Q fuel E listed e w:=by
  intro a ha
  cases fuel with
  | zero=>exact ⟨hr,trivial,e,ha,h⟩
  | succ f=>exact ⟨fun _=>⟨trivial,e,ha,h⟩,by rw [hr];simp⟩
end
end Go.Kx
namespace Go.Kx
open Go Go.RowKit
set_option linter.unusedVariables false
set_option linter.unusedSimpArgs false
def iter {σ ρ:Type} (body:σ→Option (σ⊕ρ)):Nat→σ→Option ρ
  | 0,_=>none
  | n+1,s=>(body s).bind fun o=>match o with
    | .inl s'=>iter body n s'
    | .inr r=>some r
theorem lO {α β:Type} {x:Option α} {f:α→Option β} {b:β} (h:x.bind f=some b):∃ a,x=some a∧f a=some b:=Option.bind_eq_some_iff.1 h
theorem O4 {α:Type} {c:Bool} {a b:Option α} {r:α} (h:(bif c then a else b)=some r) (hc:c=true):a=some r:=by subst hc;exact h
theorem Pb {α:Type} {c:Bool} {a b:Option α} {r:α} (h:(bif c then a else b)=some r) (hc:c=false):b=some r:=by subst hc;exact h
section
variable {P:Program} {n:Nat} {e:Env} {w:World}
theorem CW.iter {σ ρ:Type} {c:Code} {body:σ→Option (σ⊕ρ)} (R:σ→Env→World→Prop) (Q:ρ→kV)
    (hb:∀ (s:σ) (e:Env) (w:World) (o:σ⊕ρ),R s e w→body s=some o→CW P n c (fun x e' w'=>match o with
      | .inl s'=>x=.normal∧R s' e' w'
      | .inr r=>(match x with | .normal=>False | _=>True)∧Q r x e' w') e w)
    (N:Nat) (s:σ) (e:Env) (w:World) (r:ρ) (hR:R s e w) (h:Kx.iter body N s=some r):CW P n (.loop c) (Q r) e w:=by
  have key:∀ (N:Nat) (s:σ) (e:Env) (w:World),R s e w→Kx.iter body N s=some r→∀ a,Is a n e→Code.rounds P c (lift n (Q r)) N a w:=by
    intro N
    induction N with
    | zero=>intro s e w _ h;cases h
    | succ N ih =>
      intro s e w hR h a ha;obtain ⟨o,ho,h2⟩:=lO h;rw [rounds_succ];refine Code.wp_mono ?_ (hb s e w o hR ho a ha);rintro x a' w' ⟨hc,e',he',hq⟩
      cases o with
      | inl s' =>
        obtain ⟨rfl,hR'⟩:=hq;exact ih s' e' w' hR' h2 a' he'
      | inr r' =>
        cases h2
        cases x with
        | normal=>exact hq.1.elim
        | _=>exact ⟨hc,e',he',hq.2⟩
  exact fun a ha=>wp_loop_rounds N (key N s e w hR h a ha)
def Dh (args:Array Value):Env:=fun i=>args.getD i undef
def ij (P:Program) (e:Env) (w:World):ResultVar→Value→Prop
  | .tmp t,v=>e t=v
  | .cell a T,v=>∃ ad,e a=.pointer (some ad)∧(loadVar T ad).run P w=.ok v w
def kz (P:Program) (rs:Array ResultVar) (e:Env) (w:World) (v:Value):Prop:=∀ (fn:Func) (tmps:Array Value),fn.results=rs→(∀ i,tmps.getD i undef=e i)→(results fn tmps).run P w=.ok v w
def Bq (tmps:Array Value):ResultVar→Sem Value
  | .tmp t=>pure (tmps.getD t undef)
  | .cell a t=>do loadVar t (← asAddr (tmps.getD a undef))
theorem tO (fn:Func) (tmps:Array Value):results fn tmps=(do
    let vs ← fn.results.mapM (Bq tmps)
    pure (if h:vs.size=1 then vs[0] else .tuple vs)):=by
  unfold results;congr 2
theorem qG {tmps:Array Value} (h2:∀ i,tmps.getD i undef=e i) {r:ResultVar} {v:Value} (h:ij P e w r v):(Bq tmps r).run P w=.ok v w:=by
  cases r with
  | tmp t=>rw [← (show e t=v from h), ← h2 t];simp [Bq]
  | cell a t =>
    obtain ⟨ad,h1,h3⟩:=h;rw [← h2 a] at h1;simp only [Bq,h1,asAddr];simpa using h3
theorem kz.zero:kz P #[] e w (.tuple #[]):=fun fn tmps h1 h2=>by simp [tO,h1]
theorem kz.one {r:ResultVar} {v:Value} (h:ij P e w r v):kz P #[r] e w v:=fun fn tmps h1 h2=>by
  have:=qG h2 h;simp [tO,h1,this]
theorem kz.two {r s:ResultVar} {u v:Value} (h:ij P e w r u) (k:ij P e w s v):kz P #[r,s] e w (.tuple #[u,v]):=fun fn tmps h1 h2=>by
  have:=qG h2 h;have:=qG h2 k;simp [tO,h1, *]
theorem kz.three {r s t:ResultVar} {u v x:Value} (h:ij P e w r u) (k:ij P e w s v) (l:ij P e w t x):kz P #[r,s,t] e w (.tuple #[u,v,x]):=fun fn tmps h1 h2=>by
  have:=qG h2 h;have:=qG h2 k;have:=qG h2 l;simp [tO,h1, *]
theorem kz.four {r s t q:ResultVar} {u v x y:Value} (h:ij P e w r u) (k:ij P e w s v) (l:ij P e w t x) (m:ij P e w q y):kz P #[r,s,t,q] e w (.tuple #[u,v,x,y]):=fun fn tmps h1 h2=>by
  have:=qG h2 h;have:=qG h2 k;have:=qG h2 l;have:=qG h2 m;simp [tO,h1, *]
theorem ij.t {t:Nat} {v:Value} (h:e t=v):ij P e w (.tmp t) v:=h
theorem ij.b {w0:World} {F0:List Nat} {L:List Item} {a T:Nat} {m g:Nat} {bt:TypeId} {cs:List Value} (hS:St w0 F0 w L) (i:Nat) (hi:L[i]?=some (bx g bt cs)) (ht:jx P T=some (some m)) (ha:e a=.pointer (some ⟨g,0,none⟩)) (hm:cs.length=m):ij P e w (.cell a T) (.agg cs.toArray):=by
  have hl:=iZ.agg (P:=P) (ρ:=ev e) (x:=.tmp a) (o:=0) (cs:=cs) ht ha hm;refine ⟨_,ha,?_⟩;have h1:=hl none 0 "" #[] none w (fun j u hu=>by rw [cell_of_row w g _ cs.toArray bt (0,0) (St.cell (h:=hS) hi)];simpa using hu);have ha':ev e (.tmp a)=.pointer (some ⟨g,0,none⟩):=ha;simp only [execOp,Instr.loadAt,ha',Instr.sureAddr] at h1
  cases hr:(loadVar T ⟨g,0,none⟩).run P w with
  | ok v w'=>simp [hr] at h1;obtain ⟨h2,h3⟩:=h1;subst h2;subst h3;rfl
  | halt x w'=>simp [hr] at h1
theorem gV.of {f:FuncId} {fn:Func} {c:Code} {args:Array Value} {K:Value→World→Prop} (hf:P.funcs[f]?=some fn) (hb:fn.body=some c) (hn:fn.ntmps=n) (ha:Nat.ble args.size n=true)
    (h:CW P n c (fun x e' w'=>(match x with | .ret=>True | .normal=>True | _=>False)∧∃ v,kz P fn.results e' w' v∧K v w') (Dh args) w):gV P f args w K:=by
  have ha:=Nat.le_of_ble_eq_true ha;refine calls_of_wp hf hb (Code.wp_mono ?_ (h _ ⟨rfl,?_,fun i=>?_⟩))
  · rintro x a w' ⟨hc,e',he',hx,v,hr,hk⟩;have hres:=hr fn a.tmps rfl he'.get
    cases x with
    | normal=>exact ⟨he'.defers,v,hres,hk⟩
    | ret=>exact ⟨he'.defers,v,hres,hk⟩
    | _=>exact hx.elim
  · simp [hn];omega
  · unfold Dh;simp only [Array.getD_eq_getD_getElem?,Array.getElem?_append];split
    · rfl
    · rename_i hi;rw [Array.getElem?_eq_none (xs:=args) (by omega)]
      by_cases hj:i - args.size<fn.ntmps - args.size
      · rw [Array.getElem?_replicate,if_pos hj];rfl
      · rw [Array.getElem?_replicate,if_neg hj]
end
theorem iT.mg {α:Type} [hD α] {M:List Item} {w:World} {F:List Nat} {S:Nat→Prop} (h:iT M w F) (i:Nat) {a:Option Addr} {c:Nat} {l:List α} (hi:M[i]?=some (sl a c l)) (hS:∀ b,b ∈ F→S b):iR S w a c l:=by
  obtain ⟨Fi,q1,q2⟩:=h.at_ i hi;exact mo.rd q1 fun b hb=>hS b (q2 b hb)
def dz (b:Int):Option Unit:=if b=0 then none else some ()
theorem K6 {b:Int} {u:Unit} (h:dz b=some u):b ≠ 0:=by unfold dz at h;split at h<;>simp_all
theorem Bd {w:World} {b o:Nat} {cs:List Value} (h:∀ (j:Nat) (u:Value),cs[j]?=some u→w.cell? ⟨b,o+j,none⟩=some u) (k:Nat) {m j:Nat} {u:Value} (hu:((cs.drop k).take m)[j]?=some u):w.cell? ⟨b,o+k+j,none⟩=some u:=by
  rw [List.getElem?_take] at hu;split at hu
  · rw [List.getElem?_drop] at hu;rw [Nat.add_assoc];exact h _ u hu
  · cases hu
theorem gS {α:Type} {l y:List α} {k:Nat} {x:α} (h:l.set k x=y):l.length=y.length:=by rw [← h,List.length_set]
section
variable {P:Program} {w0 w:World} {F0:List Nat} {L:List Item} {α:Type} [hD α]
theorem St.rB {a:Option Addr} {c:Nat} {l:List α} (h:St w0 F0 w L) (hr:iR (jA w0 F0) w0 a c l):iR (jA w []) w a c l :=
  (h.Of hr).mono fun b hb=>⟨Nat.lt_of_lt_of_le hb.1 h.size,by simp⟩
theorem St.rI {a:Option Addr} {c:Nat} {l:List α} (h:St w0 F0 w L) (i:Nat) (hi:L[i]?=some (sl a c l)):iR (jA w []) w a c l:=by
  obtain ⟨F,hF,_,hb⟩:=h.own;obtain ⟨Fi,q,q2⟩:=hF.at_ i hi;exact mo.rd q fun b hbm=>⟨(hb b (q2 b hbm)).2,by simp⟩
theorem St.nil (h:St w0 F0 w L):St w0 F0 w (sl none 0 ([]:List α)::L):=by
  obtain ⟨F,hF,hn,hb⟩:=h.own;exact ⟨h.os,h.tape,h.output,h.size,h.same,F,⟨[],F,rfl,.inl ⟨rfl,rfl,rfl,rfl⟩,hF⟩,hn,hb⟩
def l4 {β:Type} (L:List β):List Nat→Option (List β)
  | []=>some []
  | i::r=>match L[i]?,l4 L r with
    | some x,some m=>some (x::m)
    | _,_=>none
def pS:List Nat→Bool
  | []=>true
  | i::r=>(r.all fun j=>!Nat.beq i j)&&pS r
theorem iT.parts:∀ {L:List Item} {w:World} {F:List Nat},iT L w F→F.Nodup→∃ G:Nat→List Nat,
    (∀ (i:Nat) (it:Item),L[i]?=some it→it.p w (G i)∧(G i).Nodup∧∀ b,b ∈ G i→b ∈ F)∧∀ (i j:Nat),i ≠ j→i<L.length→j<L.length→∀ b,b ∈ G i→b ∉ G j
  | [],w,F,_,_=>⟨fun _=>[],fun i it h=>by simp at h,fun i j _ h=>by simp at h⟩
  | x::L,w,F,⟨F1,F2,hF,h1,h2⟩,hn=>by
    subst hF;obtain ⟨n1,n2,nd⟩:=List.nodup_append.1 hn;obtain ⟨G,g1,g2⟩:=iT.parts h2 n2;have gin:∀ (i:Nat),i<L.length→∀ b,b ∈ G i→b ∈ F2:=fun i hi b hb=>(g1 i _ (List.getElem?_eq_getElem hi)).2.2 b hb;refine ⟨fun i=>match i with | 0=>F1 | i+1=>G i,fun i it hi=>?_,fun i j hij hi hj b hb=>?_⟩
    · cases i with
      | zero=>simp at hi;subst hi;exact ⟨h1,n1,fun b hb=>List.mem_append_left _ hb⟩
      | succ i =>
        obtain ⟨q1,q2,q3⟩:=g1 i it (by simpa using hi);exact ⟨q1,q2,fun b hb=>List.mem_append_right _ (q3 b hb)⟩
    · cases i with
      | zero =>
        cases j with
        | zero=>exact absurd rfl hij
        | succ j=>exact fun hb2=>nd b hb b (gin j (by simpa using hj) b hb2) rfl
      | succ i =>
        cases j with
        | zero=>exact fun hb2=>nd b hb2 b (gin i (by simpa using hi) b hb) rfl
        | succ j=>exact g2 i j (fun e=>hij (by rw [e])) (by simpa using hi) (by simpa using hj) b hb
theorem St.pick (is:List Nat) {M:List Item} (h:St w0 F0 w L) (hp:l4 L is=some M) (hn:pS is=true):St w0 F0 w M:=by
  obtain ⟨F,hF,hnd,hb⟩:=h.own;obtain ⟨G,g1,g2⟩:=hF.parts hnd
  have key:∀ (is:List Nat) (M:List Item),l4 L is=some M→pS is=true→∃ F',iT M w F'∧F'.Nodup∧(∀ b,b ∈ F'→b ∈ F)∧(∀ b,b ∈ F'→∃ i,i ∈ is∧i<L.length∧b ∈ G i):=by
    intro is
    induction is with
    | nil =>
      intro M hp _;cases hp;exact ⟨[],rfl,List.nodup_nil,by simp,by simp⟩
    | cons i r ih =>
      intro M hp hn;simp only [pS,Bool.and_eq_true,List.all_eq_true] at hn;simp only [l4] at hp;split at hp
      · rename_i x m hx hm;cases hp;obtain ⟨F',q1,q2,q3,q4⟩:=ih m hm hn.2;obtain ⟨p1,p2,p3⟩:=g1 i x hx;have hlt:=je hx;refine ⟨G i++F',⟨G i,F',rfl,p1,q1⟩,List.nodup_append.2 ⟨p2,q2,fun a ha b hb e=>?_⟩,fun b hb=>?_,fun b hb=>?_⟩
        · subst e;obtain ⟨j,hj,hjl,hja⟩:=q4 a hb
          have hne:i ≠ j:=by
            rintro rfl;have:=hn.1 i hj;simp at this
          exact g2 i j hne hlt hjl a ha hja
        · rcases List.mem_append.1 hb with h | h
          · exact p3 b h
          · exact q3 b h
        · rcases List.mem_append.1 hb with h | h
          · exact ⟨i,by simp,hlt,h⟩
          · obtain ⟨j,hj,hjl,hja⟩:=q4 b h;exact ⟨j,by simp [hj],hjl,hja⟩
      · cases hp
  obtain ⟨F',q1,q2,q3,_⟩:=key is M hp hn;exact ⟨h.os,h.tape,h.output,h.size,h.same,F',q1,q2,fun b hbm=>hb b (q3 b hbm)⟩
end
theorem CW.cut {P:Program} {n:Nat} {c:Code} {Q:kV} {e:Env} {w:World} (M:Env→World→Prop) (h1:CW P n c (zq M Q) e w) (h2:∀ e w,M e w→Q .normal e w):CW P n c Q e w :=
  h1.mono fun x e w hq=>by cases x<;>first | exact h2 _ _ hq | exact hq
def fz (w1:World) (F:List Nat):Item:=⟨fun w G=>G=F∧∀ b,b ∈ F→w.heap[b]?=w1.heap[b]?,fun w w' G h hb=>⟨h.1,fun b hm=>(hb b (h.1 ▸ hm)).trans (h.2 b hm)⟩⟩
section
variable {P:Program} {w0 w w1:World} {F0 F:List Nat} {L:List Item} {α:Type} [hD α]
theorem St.freeze {a:Option Addr} {c:Nat} {l:List α} (h:St w0 F0 w L) (i:Nat) (hi:L[i]?=some (sl a c l)):∃ F,mo w a c F l∧St w0 F0 w (L.set i (fz w F)):=by
  have h':St w0 F0 w ([sl a c l]++L.eraseIdx i):=h.front i hi;obtain ⟨F,hF,hn,hlt,_,_,hm⟩:=h'.share;obtain ⟨F1,F2,rfl,q1,q2⟩:=hF;cases (show F2=[] from q2);rw [List.append_nil] at hn hlt hm;exact ⟨F1,q1,(hm w [fz w F1] (St.init ⟨F1,[],by simp,⟨rfl,fun _ _=>rfl⟩,rfl⟩ hn hlt)).perm (eraseIdx_set L i _ (je hi))⟩
theorem St.iD {a:Option Addr} {c:Nat} {l:List α} (h:St w0 F0 w L) (i:Nat) (hi:L[i]?=some (fz w1 F)) (ho:mo w1 a c F l):St w0 F0 w (L.set i (sl a c l)) :=
  h.setAt hi fun G hG hn hlt=>by
    obtain ⟨rfl,hb⟩:=hG;exact St.init ⟨G,[],by simp,ho.frame hb,rfl⟩ hn hlt
theorem St.zC (h:St w0 F0 w L) (i:Nat) (hi:L[i]?=some (fz w1 F)) {b:Nat} (hb:b ∈ F):w.heap[b]?=w1.heap[b]?:=by
  obtain ⟨G,hG,_,_⟩:=h.own;obtain ⟨Fi,q,_⟩:=hG.at_ i hi;exact q.2 b hb
theorem St.rZ {a:Option Addr} {c:Nat} {l:List α} (h:St w0 F0 w L) (i:Nat) (hi:L[i]?=some (fz w1 F)) (hr:iR (fun b=>b ∈ F) w1 a c l):iR (jA w []) w a c l:=by
  obtain ⟨G,hG,_,hb⟩:=h.own;obtain ⟨Fi,q,q2⟩:=hG.at_ i hi;obtain ⟨rfl,q3⟩:=q;exact (hr.mw fun b hm=>q3 b hm).mono fun b hm=>⟨(hb b (q2 b hm)).2,by simp⟩
theorem mo.ju {a:Option Addr} {c:Nat} {l:List α} (h:mo w1 a c F l):iR (fun b=>b ∈ F) w1 a c l:=h.rd fun b hb=>hb
end
theorem whole {α:Type} [hD α] {M:List Item} {vs:List Value} {z y:α} (h:∀ (w:World) (G:List Nat),iT M w G→hD.own w vs G y) :
    ∀ (w:World) (cs:List Value) (F G:List Nat),hD.own w cs F z→iT M w G→∃ F',hD.own w (cs.take 0++vs++cs.drop (0+vs.length)) F' y∧(∀ b,b ∈ F'→b ∈ F∨b ∈ G)∧(F.Nodup→G.Nodup→(∀ b,b ∈ F→b ∉ G)→F'.Nodup):=by
  intro w cs F G hF hG;have h1:=h w G hG
  have e:cs.take 0++vs++cs.drop (0+vs.length)=vs:=by
    rw [List.drop_eq_nil_of_le (by rw [hD.ja h1,hD.ja hF];omega)];simp
  exact ⟨G,by rw [e];exact h1,fun b hb=>.inr hb,fun _ hn _=>hn⟩
theorem iU {α:Type} [hD α] {o:Nat} {vs:List Value} {z y:α} (h:∀ (w:World) (cs:List Value) (F:List Nat),hD.own w cs F z→hD.own w (cs.take o++vs++cs.drop (o+vs.length)) F y) :
    ∀ (w:World) (cs:List Value) (F G:List Nat),hD.own w cs F z→iT [] w G→∃ F',hD.own w (cs.take o++vs++cs.drop (o+vs.length)) F' y∧(∀ b,b ∈ F'→b ∈ F∨b ∈ G)∧(F.Nodup→G.Nodup→(∀ b,b ∈ F→b ∉ G)→F'.Nodup) :=
  fun w cs F G hF _=>⟨F,h w cs F hF,fun b hb=>.inl hb,fun hn _ _=>hn⟩
theorem Kept.n {ops:Array Oper} {i:Nat} {w w':World}:Kept ops i [] w w':=fun p hp=>by cases hp
theorem Kept.c {ops:Array Oper} {i j:Nat} {C:World→Prop} {E:pb} {w w':World} (h:C w') (k:Kept ops i E w w'):Kept ops i ((j,C)::E) w w':=fun p hp hw hc=>by
  rcases List.mem_cons.1 hp with rfl | hp
  · exact h
  · exact k p hp hw hc
theorem Kept.w {ops:Array Oper} {i j:Nat} {C:World→Prop} {E:pb} {w w':World} (h:waits ops i j=true) (k:Kept ops i E w w'):Kept ops i ((j,C)::E) w w':=fun p hp hw hc=>by
  rcases List.mem_cons.1 hp with rfl | hp
  · rw [h] at hw;cases hw
  · exact k p hp hw hc
section
variable {P:Program} {n:Nat} {t:TypeId} {xs ys:Array Value} {u v a b:Value} {r q:Bool}
def sh (P:Program) (n:Nat) (t:TypeId) (u v:Value) (r:Bool):Prop:=∀ (d:Nat) (w:World),(Op.equalIn (d+n+1) t u v).run P w=.ok r w
def tL (P:Program) (n:Nat) (xs ys:Array Value) (fs:List Field) (r:Bool):Prop:=∀ (d:Nat) (w:World),(Op.eqFields (d+n+1) xs ys fs).run P w=.ok r w
theorem sh.int {k k':IntKind} {x y:Int} (h:P.underlying t=some (.int k')):sh P n t (.int k x) (.int k y) (x==y):=fun _ w=>run_equalIn_int w _ t k k' x y h
theorem sh.bool {x y:Bool} (h:P.underlying t=some .bool):sh P n t (.bool x) (.bool y) (x==y):=fun _ w=>run_equalIn_bool' w _ t x y h
theorem sh.agg {fs:Array Field} (h:P.underlying t=some (.struct fs)) (hp:P.stoodInHeld t=false) (hf:tL P n xs ys fs.toList r):sh P (n+1) t (.agg xs) (.agg ys) r:=fun d w=>by
  have e:P.fieldsOf t=fs:=by simp [Program.fieldsOf,h]
  have:=run_equalIn_agg (P:=P) w (d+n+1) t xs ys (by rw [e];exact h) hp;rw [e,hf d w] at this;exact this
theorem tL.nil:tL P n xs ys [] true:=fun _ _=>rfl
theorem tL.one {f:Field} {fs:List Field} (hn:(f.name=="_")=false) (ha:jx P f.type=some none) (hx:wX xs.toList f.offset=some a) (hy:wX ys.toList f.offset=some b) (h:sh P n f.type a b r)
    (h2:tL P n xs ys fs q):tL P n xs ys (f::fs) (r&&q):=fun d w=>by
  have hx:xs[f.offset]?=some a:=by rw [yQ] at hx;simpa using hx
  have hy:ys[f.offset]?=some b:=by rw [yQ] at hy;simpa using hy
  have hn:f.name ≠ "_":=by simpa using hn
  have:=h d w;have:=h2 d w;cases r<;>simp_all [Op.eqFields,part,(pn (w:=w) ha).1]
theorem tL.more {f:Field} {fs:List Field} {m:Nat} (hn:(f.name=="_")=false) (ha:jx P f.type=some (some m))
    (h:sh P n f.type (.agg (xs.extract f.offset (f.offset+m))) (.agg (ys.extract f.offset (f.offset+m))) r) (h2:tL P n xs ys fs q):tL P n xs ys (f::fs) (r&&q):=fun d w=>by
  have hn:f.name ≠ "_":=by simpa using hn
  have:=h d w;have:=h2 d w;have h3:=pn (w:=w) ha;cases r<;>simp_all [Op.eqFields,part]
theorem sh.top {p:Prop} [Decidable p] (h:sh P n t u v r) (hn:n<10000) (hp:r=decide p) (w:World):(Op.equalIn 10000 t u v).run P w=.ok (decide p) w:=by
  have h:=h (10000 - n - 1) w;rw [show 10000 - n - 1+n+1=10000 from by omega,hp] at h;exact h
end
theorem CW.fresh {P:Program} {n:Nat} {c:Code} {Q:kV} {e:Env} {w:World} {l:List (Nat×Value)} (h:En e l) (k:∀ e',CW P n c Q (iq e' l) w):CW P n c Q e w:=by
  obtain ⟨e',rfl⟩:=h.out;exact k e'
theorem LW.fresh {P:Program} {n:Nat} {oa:Array Oper} {ops:List Oper} {Q:kV} {e:Env} {w:World} {l:List (Nat×Value)} (h:En e l) (k:∀ e',LW P n oa Q ops (iq e' l) w):LW P n oa Q ops e w:=by
  obtain ⟨e',rfl⟩:=h.out;exact k e'
theorem AW.fresh {P:Program} {n:Nat} {ops:Array Oper} {Q:kV} {f:Nat} {E:pb} {li:Array Bool} {e:Env} {w:World} {l:List (Nat×Value)} (h:En e l) (k:∀ e',AW P n ops Q f E li (iq e' l) w):AW P n ops Q f E li e w:=by
  obtain ⟨e',rfl⟩:=h.out;exact k e'
end Go.Kx
namespace Go.Kx
open Go Go.RowKit
set_option linter.unusedVariables false
set_option linter.unusedSimpArgs false
section
variable {P:Program} {w0 w w1:World} {F0 F:List Nat} {L M:List Item} {α:Type} [hD α]
structure nR (w0:World) (F0:List Nat) (w:World) (L M:List Item) (F:List Nat):Prop where
  st:St w F w L
  Ok:∀ b,jA w0 F0 b→jA w F b∧w.heap[b]?=w0.heap[b]?
  rest:∀ (i:Nat) (it:Item),M[i]?=some it→∃ Fi,it.p w Fi∧∀ b,b ∈ Fi→jA w F b
  back:∀ w' L',St w F w' L'→St w0 F0 w' (L'++M)
theorem St.NG (h:St w0 F0 w (L++M)):∃ F,nR w0 F0 w L M F:=by
  obtain ⟨F,h1,h2,h3,h4,h5,h6⟩:=h.share;exact ⟨F,⟨St.init h1 h2 h3,fun b hb=>⟨h4 b hb,h.same b hb.1 hb.2⟩,h5,h6⟩⟩
theorem nR.rB {a:Option Addr} {c:Nat} {l:List α} (h:nR w0 F0 w L M F) (hr:iR (jA w0 F0) w0 a c l):iR (jA w F) w a c l :=
  (hr.mw fun b hb=>(h.Ok b hb).2).mono fun b hb=>(h.Ok b hb).1
theorem nR.rI {a:Option Addr} {c:Nat} {l:List α} (h:nR w0 F0 w L M F) (i:Nat) (hi:M[i]?=some (sl a c l)):iR (jA w F) w a c l:=by
  obtain ⟨Fi,q,q2⟩:=h.rest i _ hi;exact mo.rd q q2
theorem nR.rZ {Fz:List Nat} {a:Option Addr} {c:Nat} {l:List α} (h:nR w0 F0 w L M F) (i:Nat) (hi:M[i]?=some (fz w1 Fz)) (hr:iR (fun b=>b ∈ Fz) w1 a c l):iR (jA w F) w a c l:=by
  obtain ⟨Fi,q,q2⟩:=h.rest i _ hi;obtain ⟨rfl,q3⟩:=q;exact (hr.mw fun b hm=>q3 b hm).mono fun b hm=>q2 b hm
def hole (α:Type) [hD α] (a:Option Addr) (c:Nat) (l:List α) (k:Nat) (cs:List Value):Item :=
  ⟨fun w F=>∃ g o cur G0 G2 c0 c2,a=some ⟨g,o,none⟩∧w.heap[g]?=some (.cells cur (hD.ty α) (0,0))∧o+c * hD.sz α≤cur.size∧l.length≤c∧c≤maxLen∧F=g::(G0++G2) ∧
      cur.toList.drop o=c0++(cs++c2)∧c0.length=k * hD.sz α∧cs.length=hD.sz α∧k<l.length∧o≤cur.size ∧
      ∀ (w':World) (d1:List Value) (G1:List Nat) (y:α),hD.own w' d1 G1 y→(∀ b,b ∈ G0++G2→w'.heap[b]?=w.heap[b]?)→jJ w' (c0++(d1++c2)) (G0++(G1++G2)) (l.set k y),
   by
    rintro w w' F ⟨g,o,cur,G0,G2,c0,c2,ha,hg,h1,h2,h3,rfl,h4,h5,h6,h7,h8,h9⟩ hb
    exact ⟨g,o,cur,G0,G2,c0,c2,ha,(hb g (by simp)).trans hg,h1,h2,h3,rfl,h4,h5,h6,h7,h8,
      fun w'' d1 G1 y hy hh=>h9 w'' d1 G1 y hy fun b hm=>(hh b hm).trans (hb b (List.mem_cons_of_mem _ hm))⟩⟩
theorem J0 {c1 cs:List Value} {f:Nat→Option Value} (hl:c1.length=cs.length) (h1:∀ j u,c1[j]?=some u→f j=some u) (h2:∀ j u,cs[j]?=some u→f j=some u):c1=cs:=by
  apply List.ext_getElem?;intro j
  by_cases hj:j<c1.length
  · have a1:=h1 j _ (List.getElem?_eq_getElem hj);have a2:=h2 j _ (List.getElem?_eq_getElem (hl ▸ hj));rw [List.getElem?_eq_getElem hj,List.getElem?_eq_getElem (hl ▸ hj)];exact a1.symm.trans a2
  · rw [List.getElem?_eq_none (by omega),List.getElem?_eq_none (by omega)]
theorem St.KR {w0 w:World} {F0:List Nat} {L M:List Item} {i:Nat} {y:Item} (h:St w0 F0 w ((M++[y])++L.eraseIdx i)) (hi:i<L.length):St w0 F0 w (M++L.set i y) :=
  h.perm (by rw [List.append_assoc];exact (eraseIdx_set L i y hi).append_left M)
theorem St.focus {c b o:Nat} {l:List α} {k:Int} {x:α} {cs:List Value} (h:St w0 F0 w L) (i:Nat) (hi:L[i]?=some (sl (some ⟨b,o,none⟩) c l)) (hx:idx l k=some x) (hl:cs.length=hD.sz α)
    (hcs:∀ (j:Nat) (u:Value),cs[j]?=some u→w.cell? ⟨b,o+k.toNat * hD.sz α+j,none⟩=some u) :
    ∃ Fx,hD.own w cs Fx x∧∀ M,iT M w Fx→St w0 F0 w (M++L.set i (hole α (some ⟨b,o,none⟩) c l k.toNat cs)):=by
  obtain ⟨Fi,ho,hS⟩:=h.freeze i hi;unfold Kx.idx at hx;split at hx
  case isFalse=>cases hx
  case isTrue h0 =>
  have hlt:=je hx
  rcases ho with ⟨_,_,rfl,_⟩ | ⟨g,o',cur,F',ha,hg,hs,h1,h2,hF,he⟩
  · simp at hlt
  · cases ha;obtain ⟨c0,c1,c2,G0,G1,G2,hc,rfl,hl0,q1,q2⟩:=he.set k.toNat hx;have hl1:=hD.ja q1
    have e:c1=cs:=by
      refine J0 (f:=fun j=>w.cell? ⟨b,o+k.toNat * hD.sz α+j,none⟩) (hl1.trans hl.symm) (fun j u hu=>?_) hcs;have hj:j<c1.length:=je hu
      show w.cell? _=_
      rw [cell_of_row w b _ cur _ (0,0) hg,Nat.add_assoc]
      have:(cur.toList.drop o)[k.toNat * hD.sz α+j]?=some u:=by
        rw [hc,List.getElem?_append_right (by omega),hl0,Nat.add_sub_cancel_left,List.getElem?_append_left hj];exact hu
      rw [List.getElem?_drop] at this;simpa using this
    subst e
    have hoc:o≤cur.size:=by omega
    refine ⟨G1,q1,fun M hM=>St.KR (St.head (x:=fz w Fi) (M:=M++[_]) (hS.front i (by rw [List.getElem?_set_self (je hi)])) fun G hG hn hlt2=>?_ ) (by simpa using je hi) |> fun q=>by simpa using q⟩;obtain ⟨rfl,_⟩:=hG;subst hF;obtain ⟨hgn,hnd⟩:=List.nodup_cons.1 hn;obtain ⟨n0,n12,d0⟩:=List.nodup_append.1 hnd;obtain ⟨n1,n2,d12⟩:=List.nodup_append.1 n12;refine ⟨rfl,rfl,rfl,Nat.le_refl _,fun _ _ _=>rfl,G1++(b::(G0++G2)),iT.append.2 ⟨G1,_,rfl,hM,_,[],by simp,⟨b,o,cur,G0,G2,c0,c2,rfl,hg,hs,h1,h2,rfl,hc,hl0,hl,hlt,hoc,q2⟩,rfl⟩,?_,?_⟩
    · refine List.nodup_append.2 ⟨n1,List.nodup_cons.2 ⟨fun hm=>hgn ?_,List.nodup_append.2 ⟨n0,n2,fun a ha d hd e=>d0 a ha d (List.mem_append_right _ hd) e⟩⟩,fun a ha d hd e=>?_⟩
      · rcases List.mem_append.1 hm with q | q<;>simp [q]
      · subst e
        rcases List.mem_cons.1 hd with rfl | hd
        · exact hgn (by simp [ha])
        · rcases List.mem_append.1 hd with q | q
          · exact d0 a q a (List.mem_append_left _ ha) rfl
          · exact d12 a ha a q rfl
    · intro d hd
      have:d ∈ b::(G0++(G1++G2)):=by
        simp only [List.mem_append,List.mem_cons] at hd ⊢
        rcases hd with q | q | q | q<;>simp [q]
      exact ⟨.inl this,hlt2 d this⟩
theorem St.pL {b o c k:Nat} {l:List α} {cs:List Value} (h:St w0 F0 w L) (i:Nat) (hi:L[i]?=some (hole α (some ⟨b,o,none⟩) c l k cs)) {j:Nat} {u:Value} (hu:cs[j]?=some u):w.cell? ⟨b,o+k * hD.sz α+j,none⟩=some u:=by
  obtain ⟨F,hF,_,_⟩:=h.own;obtain ⟨Fi,⟨g,o',cur,G0,G2,c0,c2,ha,hg,_,_,_,_,h4,h5,h6,_⟩,_⟩:=hF.at_ i hi;cases ha;have hj:=je hu;rw [cell_of_row w b _ cur _ (0,0) hg,Nat.add_assoc]
  have:(cur.toList.drop o)[k * hD.sz α+j]?=some u:=by
    rw [h4,List.getElem?_append_right (by omega),h5,Nat.add_sub_cancel_left,List.getElem?_append_left hj];exact hu
  rw [List.getElem?_drop] at this;simpa using this
theorem St.Md {a:Option Addr} {c k:Nat} {l:List α} {cs:List Value} {y:α} (h:St w0 F0 w (M++L)) (i:Nat) (hi:L[i]?=some (hole α a c l k cs)) (hM:∀ (w:World) (G:List Nat),iT M w G→hD.own w cs G y) :
    St w0 F0 w (L.set i (sl a c (l.set k y))):=by
  have h':St w0 F0 w ((M++[hole α a c l k cs])++L.eraseIdx i):=by
    refine h.perm ?_;rw [List.append_assoc];exact (xP L i _ hi).append_left M
  obtain ⟨F,hF,hn,hlt,_,_,hm⟩:=h'.share;refine (hm w [sl a c (l.set k y)] ?_).perm (eraseIdx_set L i _ (je hi));obtain ⟨F1,F2,rfl,q1,F3,F4,rfl,⟨g,o,cur,G0,G2,c0,c2,ha,hg,h1,h2,h3,rfl,h4,h5,h6,h7,h8,h9⟩,q4⟩:=iT.append.1 hF;cases (show F4=[] from q4);have hE:=h9 w cs F1 y (hM w F1 q1) (fun _ _=>rfl);rw [List.append_nil] at hn hlt ⊢;obtain ⟨n1,n2,nd⟩:=List.nodup_append.1 hn;obtain ⟨m1,m2⟩:=List.nodup_cons.1 n2;obtain ⟨k0,k2,kd⟩:=List.nodup_append.1 m2;refine ⟨rfl,rfl,rfl,Nat.le_refl _,fun _ _ _=>rfl,g::(G0++(F1++G2)),⟨g::(G0++(F1++G2)),[],(List.append_nil _).symm,.inr ⟨g,o,cur,_,ha,hg,h1,by simpa using h2,h3,rfl,?_⟩,rfl⟩,?_,?_⟩
  · rw [h4];exact hE
  · refine List.nodup_cons.2 ⟨fun hm=>?_,List.nodup_append.2 ⟨k0,List.nodup_append.2 ⟨n1,k2,fun p hp d hd e=>nd p hp d (by simp [hd]) e⟩,fun p hp d hd e=>?_⟩⟩
    · simp only [List.mem_append] at hm
      rcases hm with q | q | q
      · exact m1 (by simp [q])
      · exact nd g q g (by simp) rfl
      · exact m1 (by simp [q])
    · subst e
      rcases List.mem_append.1 hd with q | q
      · exact nd p q p (by simp [hp]) rfl
      · exact kd p hp p q rfl
  · intro d hd
    have:d ∈ F1++(g::(G0++G2)):=by
      simp only [List.mem_append,List.mem_cons] at hd ⊢
      rcases hd with q | q | q | q<;>simp [q]
    exact ⟨.inl this,hlt d this⟩
end
section
variable {P:Program} {w0 w w1:World} {F0 F:List Nat} {L M:List Item} {α:Type} [hD α]
variable {n:Nat} {Q:kV} {e:Env} {ops:Array Oper} {rest:List Oper} {ty:TypeId} {pos:String} {aft:Array Edge} {d:Nat} {v:Value}
theorem LW.qf {t:TypeId} {x y:Operand} {av:Option Nat} {g o off j c k:Nat} {l:List α} {cs vs:List Value} (hS:St w0 F0 w L) (i:Nat) (hi:L[i]?=some (hole α (some ⟨g,o,none⟩) c l k cs)) (ht:jx P t=some av)
    (hx:ev e x=.pointer (some ⟨g,off,none⟩)) (hoff:off=o+k * hD.sz α+j) (hy:(ev e y).cells.toList=vs) (hm:vs.length=av.getD 1) (hl:Nat.ble (j+vs.length) cs.length=true) (h1:vs.all (·.oneCell')=true)
    (h:∀ w':World,St w0 F0 w' (L.set i (hole α (some ⟨g,o,none⟩) c l k (yz cs j vs)))→Fr w w' [g]→LW P n ops Q rest e w'):LW P n ops Q (⟨none,.store t x y,ty,pos,aft,none⟩::rest) e w:=by
  subst hoff;have hl:=Nat.le_of_ble_eq_true hl;obtain ⟨Fa,hFa,_,_⟩:=hS.own;obtain ⟨Fi,⟨g',o',cur,G0,G2,c0,c2,ha,hg,p1,p2,p3,rfl,p4,p5,p6,p7,p8,p9⟩,_⟩:=hFa.at_ i hi;cases ha
  have hlen:cur.size=o+(c0.length+(cs.length+c2.length)):=by
    have:=congrArg List.length p4;rw [List.length_drop,Array.length_toList] at this;simp only [List.length_append] at this;omega
  have hr:=run_storeCells_at P g (o+k * hD.sz α+j) (hD.ty α) vs 0 cur w hg (by omega) (fun u hu=>List.all_eq_true.1 h1 u hu);simp only [Nat.add_zero] at hr
  have hto:(cur.toList.take o).length=o:=by rw [List.length_take,Array.length_toList];omega
  have hcc:cur.toList=(cur.toList.take o++c0)++(cs++c2):=by rw [List.append_assoc, ← p4,List.take_append_drop]
  have hspl:cur.toList.take (o+k * hD.sz α+j)++vs++cur.toList.drop (o+k * hD.sz α+j+vs.length)=(cur.toList.take o++c0)++(yz cs j vs++c2):=by
    have hl0:(cur.toList.take o++c0).length=o+k * hD.sz α:=by rw [List.length_append,hto,p5]
    have:=GI (cur.toList.take o++c0) cs c2 vs j hl;rw [← hcc,hl0, ← Bs cs j vs hl] at this;exact this
  have hsl:(yz cs j vs).length=cs.length:=by rw [Bs cs j vs hl];simp;omega
  refine LW.BN (w':=w.setRow g (cur.toList.take (o+k * hD.sz α+j)++vs++cur.toList.drop (o+k * hD.sz α+j+vs.length)).toArray) ?_ (h _ (hS.setAt hi fun G hG hn hlt=>?_) ⟨by simp,fun b _ hb=>setRow_other w g b _ (by simpa using hb)⟩)
  · have:=pn (w:=w) ht
    have hy2:(ev e y).cells.size=av.getD 1:=by rw [← hm, ← hy,Array.length_toList]
    simp [execOp,Instr.storeAt,Instr.sureAddr,hx,storeVar,hy,hy2,this.2,hr]
  · obtain ⟨g',o',cur',G0',G2',c0',c2',ha,hg',q1,q2,q3,rfl,q4,q5,q6,q7,q8,q9⟩:=hG;cases ha;rw [hg] at hg';cases hg';have hoth:∀ b,b ≠ g→(w.setRow g (cur.toList.take (o+k * hD.sz α+j)++vs++cur.toList.drop (o+k * hD.sz α+j+vs.length)).toArray).heap[b]?=w.heap[b]?:=fun b hb=>setRow_other w g b _ hb;obtain ⟨m1,m2⟩:=List.nodup_cons.1 hn
    have e1:c0=c0'∧c2=c2':=by
      rw [p4] at q4;have r1:=List.append_inj q4 (by omega);exact ⟨r1.1,(List.append_inj r1.2 rfl).2⟩
    obtain ⟨rfl,rfl⟩:=e1;refine ⟨rfl,rfl,rfl,by simp,fun b _ hno=>hoth b fun e=>hno (by simp [e]),g::(G0'++G2'),⟨_,[],by simp,⟨g,o,_,G0',G2',c0,c2,rfl,setRow_heap w g cur _ _ _ hg,?_,q2,q3,rfl,?_,p5,by omega,p7,?_,?_⟩,rfl⟩,hn,fun b hb=>⟨.inl hb,by simpa using hlt b hb⟩⟩
    · rw [hspl];simp [hto,hsl];omega
    · simp only [List.toList_toArray];rw [hspl,List.append_assoc];exact List.drop_left' hto
    · rw [hspl];simp [hto]
    · intro w'' d1 G1 y' hy' hb;exact q9 w'' d1 G1 y' hy' fun b hm=>(hb b hm).trans (hoth b fun e=>m1 (e ▸ hm))
def sub {α:Type} (l:List α) (i j:Int):Option (List α):=if 0≤i∧i≤j∧j≤(l.length:Int) then some ((l.drop i.toNat).take (j.toNat - i.toNat)) else none
theorem qI {α:Type} {l m:List α} {i j:Int} (h:sub l i j=some m):0≤i∧i≤j∧j≤(l.length:Int)∧m=(l.drop i.toNat).take (j.toNat - i.toNat)∧m.length=j.toNat - i.toNat:=by
  unfold sub at h;split at h
  · rename_i hc;cases h;obtain ⟨h1,h2,h3⟩:=hc;exact ⟨h1,h2,h3,rfl,by rw [List.length_take,List.length_drop];omega⟩
  · cases h
def K7 (ρ:Operand→Value) (x:Option Operand) (d i:Int):Prop :=
  match x with
  | none=>i=d
  | some x=>∃ k,ρ x=.int k i
theorem vp {ρ:Operand→Value} {d:Int}:K7 ρ none d d:=rfl
theorem vn {ρ:Operand→Value} {x:Operand} {k:IntKind} {d i:Int} (h:ρ x=.int k i):K7 ρ (some x) d i:=⟨k,h⟩
def m5 (a:Option Addr) (c i m:Nat):Option Addr:=if c=i then a else a.map fun b=>b.add (i * m)
theorem il.sub {ρ:Operand→Value} {t:TypeId} {x:Operand} {lo hi:Option Operand} {a:Option Addr} {c:Nat} {l m:List α} {i j:Int} (hT:P.underlying t=some (.slice (hD.ty α))) (hz:nQ P (hD.ty α)=some (hD.sz α)) (hx:ρ x=.slice a l.length c)
    (hlo:K7 ρ lo 0 i) (hhi:K7 ρ hi (l.length:Int) j) (hs:Kx.sub l i j=some m) (hlc:l.length≤c) {a':Option Addr} {c':Nat} (e1:a'=m5 a c i.toNat (hD.sz α)) (e2:c'=c - i.toNat):il P ρ (.slice t x lo hi none) (.slice a' m.length c'):=by
  subst e1;subst e2;obtain ⟨h1,h2,h3,rfl,hm⟩:=qI hs;intro d ty pos aft gd w;rw [hm]
  cases hi':P.info? (hD.ty α) with
  | none=>simp [nQ,hi'] at hz
  | some inf =>
    have hz':inf.size=hD.sz α:=by simpa [nQ,hi'] using hz
    have h4:0≤j:=by omega
    have h5:j≤(c:Int):=by omega
    have h6:i≤(j.toNat:Int):=by omega
    have hb:(Instr.sliceBounds true l.length c (lo.map ρ) (hi.map ρ) none).run P w=.ok (i.toNat,j.toNat,c) w:=by
      cases lo with
      | none =>
        cases (show i=0 from hlo)
        cases hi with
        | none =>
          cases (show j=_ from hhi);simp [Instr.sliceBounds]
        | some y =>
          obtain ⟨k,hy⟩:=hhi;simp [Instr.sliceBounds,Instr.sliceBound,hy,asIntOf,h4,h5]
      | some x' =>
        obtain ⟨k',hx'⟩:=hlo
        cases hi with
        | none =>
          cases (show j=_ from hhi);simp [Instr.sliceBounds,Instr.sliceBound,hx',asIntOf,h1,h3];omega
        | some y =>
          obtain ⟨k,hy⟩:=hhi;simp [Instr.sliceBounds,Instr.sliceBound,hx',hy,asIntOf,h1,h4,h5];omega
    have hcu:(if c=i.toNat then a else a.map fun b=>b.add (i.toNat * inf.size))=m5 a c i.toNat (hD.sz α):=by unfold m5;rw [hz']
    simp [execOp,Instr.sliceAt,Instr.slice,run_underlying hT,hx,hb,sizeOf,typeInfo,hi', ← hcu]
theorem iR.sub {S:Nat→Prop} {a:Option Addr} {c:Nat} {l m:List α} {i j:Int} (h:iR S w a c l) (hs:Kx.sub l i j=some m):iR S w (m5 a c i.toNat (hD.sz α)) (c - i.toNat) m:=by
  obtain ⟨h1,h2,h3,rfl,hm⟩:=qI hs;have hle:=h.le;refine ⟨by rw [hm];omega,Nat.le_trans (Nat.sub_le _ _) h.cap,fun hne=>?_⟩;have hlen:0<((l.drop i.toNat).take (j.toNat - i.toNat)).length:=List.length_pos_iff.2 hne;obtain ⟨b,o,rfl,hb,hc⟩:=h.cells (by rintro rfl;simp at hlen)
  have hci:¬ c=i.toNat:=by omega
  refine ⟨b,o+i.toNat * hD.sz α,by unfold m5;rw [if_neg hci];simp [add_lit],hb,fun k x hx=>?_⟩;rw [List.getElem?_take] at hx;split at hx
  · rw [List.getElem?_drop] at hx;obtain ⟨cs,q1,q2⟩:=hc _ x hx;refine ⟨cs,q1,fun p u hu=>?_⟩;have:=q2 p u hu;rw [Nat.add_mul, ← Nat.add_assoc] at this;exact this
  · cases hx
theorem iR.vt {S:Nat→Prop} {a:Option Addr} {c:Nat} {l m:List α} {i j:Int} (h:iR S w a c l) (hs:Kx.sub l i j=some m):∃ (a':Option Addr) (c':Nat),a'=m5 a c i.toNat (hD.sz α)∧c'=c - i.toNat∧iR S w a' c' m :=
  ⟨_,_,rfl,rfl,h.sub hs⟩
theorem jJ.drop:∀ (k:Nat) {l:List α} {cs:List Value} {F:List Nat},jJ w cs F l→∃ F1 F2,F=F1++F2∧jJ w (cs.drop (k * hD.sz α)) F2 (l.drop k)
  | 0,_,_,F,h=>⟨[],F,rfl,by simpa using h⟩
  | k+1,[],cs,F,h=>⟨[],F,rfl,h⟩
  | k+1,x::l,cs,F,⟨c1,c2,F1,F2,hc,hF,h1,h2⟩=>by
    obtain ⟨G1,G2,rfl,q⟩:=jJ.drop k h2;refine ⟨F1++G1,G2,by simp [hF],?_⟩
    have e:cs.drop ((k+1) * hD.sz α)=c2.drop (k * hD.sz α):=by
      rw [hc,Nat.succ_mul,Nat.add_comm, ← hD.ja h1,List.drop_length_add_append]
    rw [e];exact q
theorem jJ.Ls:∀ (k:Nat) {l:List α} {cs:List Value} {F:List Nat},jJ w cs F l→∃ F1 F2,F=F1++F2∧jJ w cs F1 (l.take k)
  | 0,l,_,F,h=>⟨[],F,rfl,by simp [jJ]⟩
  | k+1,[],cs,F,h=>⟨F,[],by simp,by simpa using h⟩
  | k+1,x::l,cs,F,⟨c1,c2,F1,F2,hc,hF,h1,h2⟩=>by
    obtain ⟨G1,G2,rfl,q⟩:=jJ.Ls k h2;exact ⟨F1++G1,G2,by simp [hF],by rw [List.take_succ_cons];exact ⟨c1,c2,F1,G1,hc,rfl,h1,q⟩⟩
theorem St.sub {a:Option Addr} {c:Nat} {l m:List α} {i j:Int} (h:St w0 F0 w L) (k:Nat) (hi:L[k]?=some (sl a c l)) (hs:Kx.sub l i j=some m):l.length≤c∧St w0 F0 w (L.set k (sl (m5 a c i.toNat (hD.sz α)) (c - i.toNat) m)):=by
  refine ⟨?_,h.setAt hi fun F hF hn hlt=>?_⟩
  · obtain ⟨F,hF,_,_⟩:=h.own;obtain ⟨Fi,q,_⟩:=hF.at_ k hi
    rcases q with ⟨_,_,rfl,_⟩ | ⟨_,_,_,_,_,_,_,h1,_⟩
    · simp
    · exact h1
  · obtain ⟨h1,h2,h3,rfl,hm⟩:=qI hs
    rcases hF with ⟨rfl,rfl,rfl,rfl⟩ | ⟨g,o,cur,F',rfl,hg,hz,q1,q2,rfl,he⟩
    · refine St.init (F:=[]) ⟨[],[],rfl,.inl ⟨by simp [m5],by simp,by simp,rfl⟩,rfl⟩ List.nodup_nil (by simp)
    · obtain ⟨G1,G2,hG,e1⟩:=jJ.drop i.toNat he;obtain ⟨G3,G4,hG',e2⟩:=jJ.Ls (j.toNat - i.toNat) e1;subst hG;subst hG'
      have hnn:(g::G3).Nodup:=by
        refine hn.sublist ?_;simp only [List.cons_sublist_cons];exact (List.sublist_append_left G3 G4).trans (List.sublist_append_right _ _)
      refine ⟨rfl,rfl,rfl,Nat.le_refl _,fun _ _ _=>rfl,g::G3,⟨g::G3,[],(List.append_nil _).symm,.inr ?_,rfl⟩,hnn,fun b hb=>?_⟩
      · by_cases hc:c=i.toNat
        · have hl0:(l.drop i.toNat).take (j.toNat - i.toNat)=[]:=by rw [List.drop_eq_nil_of_le (by omega)];simp
          rw [hl0] at e2 ⊢;refine ⟨g,o,cur,G3,by simp [m5,hc],hg,?_,by simp,by omega,rfl,e2⟩;rw [hc];simp;omega
        · refine ⟨g,o+i.toNat * hD.sz α,cur,G3,by simp [m5,hc,add_lit],hg,?_,by rw [hm];omega,by omega,rfl,?_⟩
          · have:i.toNat+(c - i.toNat)=c:=by omega
            rw [Nat.add_assoc, ← Nat.add_mul,this];exact hz
          · rw [← List.drop_drop];exact e2
      · have:b ∈ g::(G1++(G3++G4)):=by
          rcases List.mem_cons.1 hb with rfl | hb
          · simp
          · simp [hb]
        exact ⟨.inl this,hlt b this⟩
theorem St.vt {a:Option Addr} {c:Nat} {l m:List α} {i j:Int} (h:St w0 F0 w L) (k:Nat) (hi:L[k]?=some (sl a c l)) (hs:Kx.sub l i j=some m) :
    l.length≤c∧∃ (a':Option Addr) (c':Nat),a'=m5 a c i.toNat (hD.sz α)∧c'=c - i.toNat∧St w0 F0 w (L.set k (sl a' c' m)):=by
  obtain ⟨h1,h2⟩:=St.sub h k hi hs;exact ⟨h1,_,_,rfl,rfl,h2⟩
end
def j5 {α β:Type} (l m:List α) (k:Option β):Option β:=if l.length=m.length then k else none
theorem iI {α β:Type} {l m:List α} {k:Option β} {y:β} (h:j5 l m k=some y):l.length=m.length∧k=some y:=by
  unfold j5 at h;split at h
  · rename_i hc;exact ⟨hc,h⟩
  · cases h
theorem ij.b1 {P:Program} {e:Env} {w w0:World} {F0:List Nat} {L:List Item} {a T:Nat} {g:Nat} {bt:TypeId} {cs:List Value} {v:Value} (hS:St w0 F0 w L) (i:Nat) (hi:L[i]?=some (bx g bt cs)) (ht:jx P T=some none) (ha:e a=.pointer (some ⟨g,0,none⟩)) (hv:wX cs 0=some v):ij P e w (.cell a T) v:=by
  have hl:=iZ.box (P:=P) (ρ:=ev e) (x:=.tmp a) (o:=0) (cs:=cs) (bt:=bt) (fr:=(0,0)) ht ha hv;refine ⟨_,ha,?_⟩;have h1:=hl none 0 "" #[] none w (St.cell (h:=hS) hi);have ha':ev e (.tmp a)=.pointer (some ⟨g,0,none⟩):=ha;simp only [execOp,Instr.loadAt,ha',Instr.sureAddr] at h1
  cases hr:(loadVar T ⟨g,0,none⟩).run P w with
  | ok v w'=>simp [hr] at h1;obtain ⟨h2,h3⟩:=h1;subst h2;subst h3;rfl
  | halt x w'=>simp [hr] at h1
end Go.Kx
namespace Go.Kx
open Go Go.RowKit
set_option linter.unusedVariables false
set_option linter.unusedSimpArgs false
section
variable {P:Program} {w0 w w1:World} {F0 F:List Nat} {L:List Item} {α β γ:Type} [hD α] [hD β] [hD γ]
def al (x:Item) (b:Option Addr) (k:Nat) (m:List β):Item :=
  ⟨fun w F=>∃ F1 F2,F=F1++F2∧x.p w F1∧iR (fun q=>q ∈ F) w b k m,fun w w' F h hb=>by
    obtain ⟨F1,F2,rfl,h1,h2⟩:=h
    exact ⟨F1,F2,rfl,x.frame w w' F1 h1 fun q hq=>hb q (List.mem_append_left _ hq),h2.mw hb⟩⟩
end
theorem iZ.cells {P:Program} {ρ:Operand→Value} {t:TypeId} {x:Operand} {b o m:Nat} {cs:List Value} (ht:jx P t=some (some m)) (hx:ρ x=.pointer (some ⟨b,o,none⟩)) (hl:cs.length=m) :
    iZ P ρ (.load t x) (fun w=>∀ (j:Nat) (u:Value),cs[j]?=some u→w.cell? ⟨b,o+j,none⟩=some u) (.agg cs.toArray) :=
  fun d ty pos aft gd w hc=>iZ.agg ht hx hl d ty pos aft gd w hc
section
variable {P:Program} {n:Nat} {ops:Array Oper} {Q:kV} {rest:List Oper} {e:Env} {w w0:World} {F0:List Nat} {L M:List Item} {d:Nat} {ty:TypeId} {pos:String} {aft:Array Edge} {α β γ:Type} [hD α] [hD β] [hD γ]
end
end Go.Kx
