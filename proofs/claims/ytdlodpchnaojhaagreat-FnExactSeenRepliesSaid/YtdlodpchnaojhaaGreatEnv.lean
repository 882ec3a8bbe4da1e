import Derived.WalkKit
import Derived.LoopN
namespace Go.Kx
set_option linter.unusedVariables false
set_option linter.unusedSimpArgs false
open Go Go.RowKit
theorem Ok {α β:Type} (x:α) (f:α→Option β):(some x).bind f=f x:=rfl
theorem Ol {α:Type} (a b:α):cond false a b=b:=rfl
theorem Om {α:Type} (a b:α):cond true a b=a:=rfl
theorem On:(!true)=false:=rfl
theorem Oo (b:Bool):(true&&b)=b:=by cases b<;>rfl
theorem Oq (a b:Bool):((a&&b)=true)=(a=true∧b=true):=by cases a<;>cases b<;>simp
abbrev Env:=Nat→Value
def kC (e:Env) (d:Nat) (v:Value):Env:=fun i=>bif Nat.beq i d then v else e i
def ev (e:Env):Operand→Value
  | .tmp t=>e t
  | .const v=>v
  | .global g=>.pointer (some ⟨g,0,none⟩)
  | .func f=>.func (.func f) #[] #[]
structure Is (a:Act) (n:Nat) (e:Env):Prop where
  defers:a.defers=[]
  size:a.tmps.size=n
  get:∀ i,a.tmps.getD i undef=e i
theorem Is.eval {a:Act} {n:Nat} {e:Env} (h:Is a n e):a.eval=ev e:=by
  funext x
  cases x with
  | tmp t=>exact h.get t
  | const v=>rfl
  | global g=>rfl
  | func f=>rfl
theorem Is.put {a:Act} {n:Nat} {e:Env} (h:Is a n e) {d:Nat} (hd:d<n) (v:Value):Is (a.put (some d) v) n (kC e d v):=by
  refine ⟨h.defers,?_,fun i=>?_⟩
  · simp [Act.put,h.size]
  · have hs:=h.size;have hg:=h.get i;unfold kC;simp only [Act.put,Array.getD_eq_getD_getElem?,Array.getElem?_setIfInBounds] at hg ⊢
    by_cases hi:i=d
    · subst hi;simp [hs,hd]
    · have hb:Nat.beq i d=false:=by
        cases hb:Nat.beq i d
        · rfl
        · exact absurd (Nat.eq_of_beq_eq_true hb) hi
      rw [hb,if_neg (fun h=>hi h.symm)];exact hg
theorem Is.JH {a:Act} {n:Nat} {e:Env} (h:Is a n e) (v:Value):Is (a.put none v) n e:=h
abbrev kN:=Exit→Env→World→Prop
def calm:Exit→Prop
  | .panic _ | .outgrown=>False
  | _=>True
def lift (n:Nat) (Q:kN):Exit→Act→World→Prop:=fun x a w=>calm x∧∃ e,Is a n e∧Q x e w
def CW (P:Program) (n:Nat) (c:Code) (Q:kN) (e:Env) (w:World):Prop:=∀ a,Is a n e→c.wp P (lift n Q) a w
def LW (P:Program) (n:Nat) (ops:Array Oper) (Q:kN) (rest:List Oper) (e:Env) (w:World):Prop:=∀ a,Is a n e→wpList P ops (lift n Q) rest a w
def yL (next:Env→World→Prop) (Q:kN):kN
  | .normal,e,w=>next e w
  | x,e,w=>Q x e w
def C0 (id:Nat) (Q:kN):kN
  | .exit id',e,w=>bif Nat.beq id' id then Q .normal e w else Q (.exit id') e w
  | x,e,w=>Q x e w
def im (e:Env):List (Nat×Value)→Env
  | []=>e
  | (d,v)::l=>kC (im e l) d v
def En (e:Env):List (Nat×Value)→Prop
  | []=>True
  | (d,v)::l=>e d=v∧En e l
theorem JO {e:Env} {d:Nat} {v:Value} (h:e d=v):e=kC e d v:=by
  funext i
  unfold kC;cases hb:Nat.beq i d
  · rfl
  · rw [Nat.eq_of_beq_eq_true hb,h];rfl
theorem En.out {e:Env}:∀ {l:List (Nat×Value)},En e l→∃ e',e=im e' l
  | [],_=>⟨e,rfl⟩
  | (d,v)::l,⟨h1,h2⟩=>by
    obtain ⟨e',he⟩:=En.out h2;exact ⟨e',by show e=kC (im e' l) d v;rw [← he];exact JO h1⟩
section
variable {P:Program} {n:Nat} {Q Q':kN} {e:Env} {w:World} {ops:Array Oper} {rest:List Oper} {o:Oper}
theorem CW.mono {c:Code} (h:CW P n c Q e w) (hq:∀ x e w,Q x e w→Q' x e w):CW P n c Q' e w :=
  fun a ha=>Code.wp_mono (fun _ _ _ ⟨c,e,he,q⟩=>⟨c,e,he,hq _ _ _ q⟩) (h a ha)
theorem CW.seq {x y:Code} (h:CW P n x (yL (CW P n y Q) Q) e w):CW P n (.seq x y) Q e w:=by
  intro a ha;refine wp_seq (Code.wp_mono ?_ (h a ha));rintro ex a' w' ⟨hc,e',he',hq⟩
  cases ex with
  | normal=>exact hq a' he'
  | _=>exact ⟨hc,e',he',hq⟩
theorem CW.skip (h:Q .normal e w):CW P n .skip Q e w:=fun _ ha=>wp_skip ⟨trivial,e,ha,h⟩
theorem CW.exit {id:Nat} (h:Q (.exit id) e w):CW P n (.exit id) Q e w:=fun _ ha=>wp_exit ⟨trivial,e,ha,h⟩
theorem CW.ret (h:Q .ret e w):CW P n .ret Q e w:=fun _ ha=>wp_ret ⟨trivial,e,ha,h⟩
theorem CW.cond {c:Operand} {x y:Code} {t:Bool} (hc:ev e c=.bool t) (ht:t=true→CW P n x Q e w) (hf:t=false→CW P n y Q e w):CW P n (.cond c x y) Q e w:=by
  intro a ha;refine wp_cond_split (t:=t) (by rw [ha.eval];exact hc) (fun h=>ht h a ha) (fun h=>hf h a ha)
theorem CW.block {id:Nat} {c:Code} (h:CW P n c (C0 id Q) e w):CW P n (.block id c) Q e w:=by
  intro a ha;refine wp_block (Code.wp_mono ?_ (h a ha));rintro ex a' w' ⟨hc,e',he',hq⟩
  cases ex with
  | exit id' =>
    by_cases hid:id'=id
    · subst hid;simp only [C0,Nat.beq_refl,cond_true] at hq;simp only [Exit.inBlock,if_true];exact ⟨trivial,e',he',hq⟩
    · have hb:Nat.beq id' id=false:=by
        cases hb:Nat.beq id' id
        · rfl
        · exact absurd (Nat.eq_of_beq_eq_true hb) hid
      simp only [C0,hb,cond_false] at hq;simp only [Exit.inBlock,hid,if_false];exact ⟨trivial,e',he',hq⟩
  | _=>exact ⟨hc,e',he',hq⟩
theorem CW.region {id:Nat} {l:List Oper} (h:LW P n l.toArray Q l e w):CW P n (.region id l.toArray false) Q e w:=fun a ha=>wp_region_lit (h a ha)
theorem LW.nil (h:Q .normal e w):LW P n ops Q [] e w:=fun _ ha=>wpList_nil ⟨trivial,e,ha,h⟩
theorem LW.run {op:Op} {ty:TypeId} {pos:String} {aft:Array Edge} {d:Nat} {v:Value} {w':World}
    (hr:(execOp (ev e) ⟨some d,op,ty,pos,aft,none⟩).run P w=.ok (.value v) w') (hd:Nat.ble (d+1) n=true) (h:LW P n ops Q rest (kC e d v) w') :
    LW P n ops Q (⟨some d,op,ty,pos,aft,none⟩::rest) e w:=by
  intro a ha;refine wpList_plain rfl fun K hK=>?_;unfold Oper.wp;rw [ha.eval,hr];exact hK _ _ (h _ (ha.put (Nat.le_of_ble_eq_true hd) v))
theorem LW.Bc {op:Op} {ty:TypeId} {pos:String} {aft:Array Edge} {w':World}
    (hr:(execOp (ev e) ⟨none,op,ty,pos,aft,none⟩).run P w=.ok .skip w') (h:LW P n ops Q rest e w') :
    LW P n ops Q (⟨none,op,ty,pos,aft,none⟩::rest) e w:=by
  intro a ha;refine wpList_plain rfl fun K hK=>?_;unfold Oper.wp;rw [ha.eval,hr];exact hK _ _ (h _ (ha.JH _))
def oJ (ops:Array Oper) (g:Option (Nat×Bool)) (e:Env):Bool :=
  match g with
  | none=>true
  | some (j,b) =>
    match (ops[j]?).bind (·.dst) with
    | some d=>match e d with
      | .bool t=>t==b
      | _=>false
    | none=>false
theorem vW {o:Oper} {a:Act} (ha:Is a n e):Region.wanted o (yielded ops a.tmps)=oJ ops o.guard e:=by
  unfold Region.wanted oJ
  cases o.guard with
  | none=>rfl
  | some g =>
    obtain ⟨j,b⟩:=g;simp only [yielded]
    cases hd:(ops[j]?).bind (·.dst) with
    | none=>rfl
    | some d =>
      have hg:=ha.get d;simp only [Option.bind_some];rw [Array.getD_eq_getD_getElem?] at hg
      cases ht:a.tmps[d]? with
      | none=>rw [ht] at hg;simp at hg;rw [← hg];rfl
      | some v =>
        rw [ht] at hg;simp at hg;rw [hg];cases e d<;>rfl
theorem lz {j d:Nat} {b t:Bool} (hd:(ops[j]?).bind (·.dst)=some d) (hv:e d=.bool t) (ht:t=b):oJ ops (some (j,b)) e=true:=by
  subst ht;simp [oJ,hd,hv]
theorem C1 {j d:Nat} {b t:Bool} (hd:(ops[j]?).bind (·.dst)=some d) (hv:e d=.bool t) (ht:t=!b):oJ ops (some (j,b)) e=false:=by
  subst ht;cases b<;>simp [oJ,hd,hv]
theorem Ah {j d:Nat} {b:Bool} (hd:(ops[j]?).bind (·.dst)=some d) (hv:e d=undef):oJ ops (some (j,b)) e=false:=by
  simp [oJ,hd,hv,undef]
theorem LW.gY {d:Option Tmp} {op:Op} {ty:TypeId} {pos:String} {aft:Array Edge} {g:Option (Nat×Bool)} (hw:oJ ops g e=true)
    (h:LW P n ops Q (⟨d,op,ty,pos,aft,none⟩::rest) e w):LW P n ops Q (⟨d,op,ty,pos,aft,g⟩::rest) e w:=by
  intro a ha;have h1:=h a ha;unfold wpList at h1 ⊢;rw [vW ha] at h1 ⊢;rw [if_pos hw];exact h1
theorem LW.gN {d:Nat} {op:Op} {ty:TypeId} {pos:String} {aft:Array Edge} {g:Option (Nat×Bool)} (hw:oJ ops g e=false) (hd:Nat.ble (d+1) n=true)
    (h:LW P n ops Q rest (kC e d undef) w):LW P n ops Q (⟨some d,op,ty,pos,aft,g⟩::rest) e w:=by
  intro a ha;unfold wpList;rw [vW ha,hw];exact h _ (ha.put (Nat.le_of_ble_eq_true hd) undef)
def KE (K:Value→World→Prop):Ending→World→Prop
  | .returned v,w=>K v w
  | _,_=>False
def gV (P:Program) (f:FuncId) (args:Array Value) (w:World) (K:Value→World→Prop):Prop:=Calls P f args w (KE K)
theorem gV.mono {f:FuncId} {args:Array Value} {K K':Value→World→Prop} (h:gV P f args w K) (hk:∀ v w',K v w'→K' v w'):gV P f args w K' :=
  Calls.mono h fun e w' hh=>by cases e<;>first | exact hk _ _ hh | exact hh.elim
def tQ (P:Program) (f:FuncId):Bool :=
  match P.funcs[f]? with
  | some fn=>!(fn.name=="runtime.NumGoroutine")&&fn.body.isSome
  | none=>false
theorem DI {f:FuncId} (hp:tQ P f=true) (args:Array Value):(callFunc f args).run P w=.ok (.enter f args) w:=by
  unfold tQ at hp
  cases hf:P.funcs[f]? with
  | none=>simp [hf] at hp
  | some fn =>
    simp only [hf,Bool.and_eq_true,Bool.not_eq_true'] at hp;obtain ⟨h1,h2⟩:=hp;obtain ⟨c,hc⟩:=Option.isSome_iff_exists.1 h2
    have h4:¬ fn.name="runtime.NumGoroutine":=by simpa using h1
    simp [callFunc,hf,h4,hc]
theorem LW.call {f:FuncId} {as:Array Operand} {ts:Array TypeId} {ty:TypeId} {pos:String} {aft:Array Edge} {d:Nat} {al:List Value}
    (hp:tQ P f=true) (hd:Nat.ble (d+1) n=true) (hargs:as.toList.map (ev e)=al)
    (h:gV P f al.toArray w fun v w'=>LW P n ops Q rest (kC e d v) w') :
    LW P n ops Q (⟨some d,.call { callee:=.value (.func f),args:=as,argTypes:=ts },ty,pos,aft,none⟩::rest) e w:=by
  intro a ha;refine wpList_plain rfl fun K hK=>?_;unfold Oper.wp;rw [ha.eval]
  have hr:(execOp (ev e) ⟨some d,.call { callee:=.value (.func f),args:=as,argTypes:=ts },ty,pos,aft,none⟩).run P w=.ok (.enter f al.toArray) w:=by
    have hm:as.map (ev e)=al.toArray:=by rw [← hargs];simp [← Array.toList_map]
    simp [execOp,resolve,invoke,Deferred.ofValue,ev,DI hp,hm]
  rw [hr,Oper.upon_enter];refine Calls.mono h fun en w' hh=>?_
  cases en with
  | returned v=>exact hK _ _ (hh _ (ha.put (Nat.le_of_ble_eq_true hd) v))
  | panicked c=>exact hh.elim
  | outgrown=>exact hh.elim
end
end Go.Kx
