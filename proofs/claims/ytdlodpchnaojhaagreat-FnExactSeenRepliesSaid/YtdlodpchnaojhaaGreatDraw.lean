import Derived.Test.YtdlodpchnaojhaaGreatOpa
import Derived.OrdersHeld
namespace Go.Kx
open Go Go.RowKit
set_option linter.unusedVariables false
set_option linter.unusedSimpArgs false
def waits (ops:Array Oper) (j k:Nat):Bool :=
  match ops[j]? with
  | some o=>o.after.any fun e=>Region.binds .any e&&e.on==k
  | none=>false
abbrev o4:=List (Nat×(World→Prop))
def rN (P:Program) (ops:Array Oper) (Q:Exit→Act→World→Prop):Nat→o4→Array Bool→Act→World→Prop
  | 0,_,listed,a,w=>Region.ready .any ops listed=[]∧Q .normal a w
  | fuel+1,E,listed,a,w=>(Region.ready .any ops listed=[]→Q .normal a w)∧∀ j ∈ Region.ready .any ops listed,
      wpOp P ops Q j (fun a' w'=>(∀ p,p ∈ E→waits ops j p.1=false→p.2 w→p.2 w')∧rN P ops Q fuel E (listed.setIfInBounds j true) a' w') a w
section
variable {P:Program} {ops:Array Oper} {Q:Exit→Act→World→Prop}
theorem rN.any:∀ (fuel:Nat) {E:o4} {listed:Array Bool} {a:Act} {w:World},rN P ops Q fuel E listed a w→wpAny P .any ops Q fuel listed a w
  | 0,_,_,_,_,h=>h
  | fuel+1,_,_,_,_,h=>⟨h.1,fun i hi=>wpOp_mono (fun a' w' h'=>rN.any fuel h'.2) (h.2 i hi)⟩
theorem rN.less:∀ (fuel:Nat) {E E':o4} {listed:Array Bool} {a:Act} {w:World},(∀ p,p ∈ E'→p ∈ E∨∀ w,p.2 w)→rN P ops Q fuel E listed a w→rN P ops Q fuel E' listed a w
  | 0,_,_,_,_,_,_,h=>h
  | fuel+1,_,_,_,_,_,he,h=>⟨h.1,fun i hi=>wpOp_mono (fun a' w' h'=>⟨fun p hp hw hc=>(he p hp).elim (fun h1=>h'.1 p h1 hw hc) (fun h1=>h1 w'),rN.less fuel he h'.2⟩) (h.2 i hi)⟩
theorem Ie {j k:Nat} {o:Oper} (ho:ops[j]?=some o) (h:∀ e ∈ o.after,Region.binds .any e=true→e.on ≠ k):waits ops j k=false:=by
  unfold waits;rw [ho];simp only;cases hb:o.after.any fun e=>Region.binds .any e&&e.on==k
  · rfl
  · obtain ⟨e,he,hb⟩:=Array.any_eq_true'.1 hb;simp only [Oq,beq_iff_eq] at hb;exact absurd hb.2 (h e he hb.1)
theorem rN.first {C:World→Prop} {i:Nat} {oi:Oper} {v:Value} (hi:ops[i]?=some oi) (hsel:∀ (j:Nat) (o:Oper) cs b,ops[j]?=some o→o.op ≠ .select cs b)
    (hQ:∀ c a w,Q (.panic c) (a.put oi.dst v) w→Q (.panic c) a w) :
    ∀ (fuel:Nat) (E:o4) (listed:Array Bool) (a:Act) (w:World),
      (∀ j oj,ops[j]?=some oj→j ≠ i→listed.getD j true=false→(∀ e ∈ oj.after,Region.binds .any e=true→e.on ≠ i)→oi.apart ops oj=true) →
      i ∈ Region.ready .any ops listed→YieldsIf P ops C oi v a→C w →
      rN P ops Q fuel ((i,C)::E) (listed.setIfInBounds i true) (a.put oi.dst v) w→rN P ops Q (fuel+1) E listed a w:=by
  intro fuel
  induction fuel with
  | zero =>
    intro E listed a w _ hr hy hC H;refine ⟨fun h=>(by rw [h] at hr;cases hr),fun j hj=>?_⟩
    by_cases hji:j=i
    · subst hji;exact hy.wpOp hi hC ⟨fun _ _ _ h=>h,H⟩
    · have:=ready_mono hj hji;rw [H.1] at this;cases this
  | succ fuel ih =>
    intro E listed a w hfree hr hy hC H;refine ⟨fun h=>(by rw [h] at hr;cases hr),fun j hj=>?_⟩
    by_cases hji:j=i
    · subst hji;exact hy.wpOp hi hC ⟨fun _ _ _ h=>h,H.less _ (fun p hp=>.inl (List.mem_cons_of_mem _ hp))⟩
    · have h1:=H.2 j (ready_mono hj hji);obtain ⟨hjun,oj,hoj,hall⟩:=mem_ready.1 hj
      have hnot:∀ e ∈ oj.after,Region.binds .any e=true→e.on ≠ i:=fun e he hb heq=>by
        have h1:=hall e he hb;have h0:=(mem_ready.1 hr).1;rw [heq] at h1
        rcases Nat.lt_or_ge i listed.size with h' | h'
        · simp [h'] at h0 h1;rw [h0] at h1;cases h1
        · simp [Array.getElem?_eq_none h'] at h1
      have h2:=wpOp_putIf hoj (hfree j oj hoj hji hjun hnot) (fun cs b=>hsel i oi cs b hi) (fun cs b=>hsel j oj cs b hoj) hQ hy h1;refine wpOp_mono (fun a' w' h3=>⟨fun p hp hw hc=>h3.2.1 p (List.mem_cons_of_mem _ hp) hw hc,?_⟩) h2;refine ih E (listed.setIfInBounds j true) a' w' (fun k ok hk hki hun hno=>?_) (ready_mono hr (Ne.symm hji)) h3.1 (h3.2.1 (i,C) (by simp) (Ie hoj hnot) hC) ?_
      · refine hfree k ok hk hki ?_ hno
        by_cases hjk:j=k
        · subst hjk;exact hjun
        · rw [getD_set_ne true hjk] at hun;exact hun
      · rw [Array.setIfInBounds_comm _ _ hji];exact h3.2.2
end
def AW (P:Program) (n:Nat) (ops:Array Oper) (Q:kN) (fuel:Nat) (E:o4) (listed:Array Bool) (e:Env) (w:World):Prop:=∀ a,Is a n e→rN P ops (lift n Q) fuel E listed a w
def jV (ops:Array Oper) (listed:Array Bool) (i:Nat):Bool:=Region.noSelect ops&&Region.free .any ops listed i&&(Region.ready .any ops listed).contains i
section
variable {P:Program} {n:Nat} {Q:kN} {e:Env} {w:World} {ops:Array Oper} {fuel:Nat} {E:o4} {listed:Array Bool} {i:Nat}
  {ty:TypeId} {pos:String} {aft:Array Edge} {d:Nat} {v:Value} {g:Option (Nat×Bool)}
theorem CW.draw {id:Nat} {l:List Oper} (hm:P.follows .mixedOrders=true) (h:AW P n l.toArray Q l.length [] (Array.replicate l.length false) e w.drew):CW P n (.region id l.toArray true) Q e w:=by
  intro a ha;refine wp_region_any hm (rN.any _ (E:=[]) ?_);rw [List.size_toArray];exact h a ha
theorem AW.take {op:Op} {C:World→Prop} (hi:ops[i]?=some ⟨some d,op,ty,pos,aft,g⟩) (hok:jV ops listed i=true) (hw:oJ ops g e=true) (hd:Nat.ble (d+1) n=true)
    (hl:jf P (ev e) op C v) (hC:C w) (h:AW P n ops Q fuel ((i,C)::E) (listed.setIfInBounds i true) (kC e d v) w):AW P n ops Q (fuel+1) E listed e w:=by
  intro a ha;unfold jV at hok;simp only [Oq] at hok;obtain ⟨⟨h1,h2⟩,h3⟩:=hok;refine rN.first (C:=C) (v:=v) hi (Region.noSelect_spec h1) (fun c a w hq=>hq.1.elim) fuel E listed a w (Region.free_spec hi h2) (by simpa using h3) (.inl ⟨?_,fun w' hw'=>?_⟩) hC (h _ (ha.put (Nat.le_of_ble_eq_true hd) v))
  · rw [vW ha];exact hw
  · rw [ha.eval];exact hl _ _ _ _ _ _ hw'
theorem AW.u {op:Op} (hi:ops[i]?=some ⟨some d,op,ty,pos,aft,g⟩) (hok:jV ops listed i=true) (hw:oJ ops g e=true) (hd:Nat.ble (d+1) n=true)
    (hl:iq P (ev e) op v) (h:AW P n ops Q fuel E (listed.setIfInBounds i true) (kC e d v) w):AW P n ops Q (fuel+1) E listed e w :=
  AW.take (C:=fun _=>True) hi hok hw hd (fun d ty pos aft g w _=>hl d ty pos aft g w) trivial fun a ha=>(h a ha).less _ fun p hp=>(List.mem_cons.1 hp).elim (fun h=>.inr fun _=>by subst h;trivial) .inl
theorem AW.no {op:Op} (hi:ops[i]?=some ⟨some d,op,ty,pos,aft,g⟩) (hok:jV ops listed i=true) (hw:oJ ops g e=false) (hd:Nat.ble (d+1) n=true)
    (h:AW P n ops Q fuel E (listed.setIfInBounds i true) (kC e d undef) w):AW P n ops Q (fuel+1) E listed e w:=by
  intro a ha;unfold jV at hok;simp only [Oq] at hok;obtain ⟨⟨h1,h2⟩,h3⟩:=hok
  refine rN.first (C:=fun _=>True) (v:=undef) hi (Region.noSelect_spec h1) (fun c a w hq=>hq.1.elim) fuel E listed a w (Region.free_spec hi h2) (by simpa using h3) (.inr ⟨?_,rfl⟩) trivial
    ((h _ (ha.put (Nat.le_of_ble_eq_true hd) undef)).less _ fun p hp=>(List.mem_cons.1 hp).elim (fun h=>.inr fun _=>by subst h;trivial) .inl)
  rw [vW ha];exact hw
def DX:List Nat→(Nat→Prop)→Prop
  | [],_=>True
  | i::r,p=>p i∧DX r p
theorem DX.mem {p:Nat→Prop}:∀ {l:List Nat},DX l p→∀ i,i ∈ l→p i
  | i::r,h,j,hj=>(List.mem_cons.1 hj).elim (fun e=>e ▸ h.1) (DX.mem h.2 j)
def Kept (ops:Array Oper) (i:Nat) (E:o4) (w w':World):Prop:=∀ p,p ∈ E→waits ops i p.1=false→p.2 w→p.2 w'
def One (P:Program) (n:Nat) (ops:Array Oper) (Q:kN) (fuel:Nat) (E:o4) (listed:Array Bool) (e:Env) (w:World) (i:Nat):Prop :=
  ∃ o,ops[i]?=some o∧LW P n ops (fun x e' w'=>x=.normal∧Kept ops i E w w'∧AW P n ops Q fuel E (listed.setIfInBounds i true) e' w') [o] e w
theorem HG {o:Oper} {a:Act} {w:World} {K:Act→World→Prop} {Q Q':Exit→Act→World→Prop} (hp:∀ c a w,Q (.panic c) a w→Q' (.panic c) a w) (hl:LetsOut Q→LetsOut Q')
    (h:o.wp P a w K Q):o.wp P a w K Q':=by
  unfold Oper.wp at *;generalize (execOp a.eval o).run P w=r at *
  cases r with
  | ok x w' =>
    cases x<;>simp only [Oper.upon] at h ⊢<;>first
      | exact h
      | (refine Calls.mono h fun e w'' hh=>?_
         cases e with
         | returned v=>exact hh
         | panicked c=>exact hp _ _ _ hh
         | outgrown=>exact hl hh)
  | halt x w'=>cases x<;>simp only [Oper.upon] at h ⊢<;>first | exact h | exact hp _ _ _ h
theorem AW.all {rs:List Nat} (hr:Region.ready .any ops listed=rs) (hne:rs ≠ []) (h:DX rs (One P n ops Q fuel E listed e w)):AW P n ops Q (fuel+1) E listed e w:=by
  intro a ha;refine ⟨fun h0=>absurd (hr ▸ h0) hne,fun j hj=>?_⟩;obtain ⟨o,ho,hL⟩:=h.mem j (hr ▸ hj);have h1:=hL a ha;unfold wpList at h1;unfold wpOp;rw [ho];simp only
  have hK:∀ (a':Act) (w':World),wpList P ops (lift n fun x e' w'=>x=.normal∧Kept ops j E w w'∧AW P n ops Q fuel E (listed.setIfInBounds j true) e' w') [] a' w' →
      (∀ p,p ∈ E→waits ops j p.1=false→p.2 w→p.2 w')∧rN P ops (lift n Q) fuel E (listed.setIfInBounds j true) a' w':=by
    rintro a' w' ⟨_,e',he',_,hk,hA⟩;exact ⟨hk,hA a' he'⟩
  split
  · rename_i hwt;rw [if_pos hwt] at h1
    rcases h1 with h1 | ⟨_,hq⟩
    · exact .inl (Oper.wp_mono hK (HG (fun c a w hq=>hq.1.elim) (fun hq=>by obtain ⟨a0,w0,hc,_⟩:=hq;exact hc.elim) h1))
    · obtain ⟨a0,w0,hc,_⟩:=hq;exact hc.elim
  · rename_i hwt;rw [if_neg hwt] at h1;exact hK _ _ h1
theorem AW.one (hr:Region.ready .any ops listed=[i]) (h:One P n ops Q fuel E listed e w i):AW P n ops Q (fuel+1) E listed e w:=AW.all hr (by simp) ⟨h,trivial⟩
theorem AW.done (hr:Region.ready .any ops listed=[]) (h:Q .normal e w):AW P n ops Q fuel E listed e w:=by
  intro a ha
  cases fuel with
  | zero=>exact ⟨hr,trivial,e,ha,h⟩
  | succ f=>exact ⟨fun _=>⟨trivial,e,ha,h⟩,by rw [hr];simp⟩
end
end Go.Kx
