import Derived.Test.YtlcgibcdiikheaaGreatOpa
import Derived.OrdersHeld
namespace Go.Kx
open Go Go.RowKit
set_option linter.unusedVariables false
set_option linter.unusedSimpArgs false
def waits (ops:Array Oper) (j k:Nat):Bool :=
  match ops[j]? with
  | some o=>o.after.any fun e=>Region.binds .any e&&e.on==k
  | none=>false
abbrev mE:=List (Nat×(World→Prop))
def oH (P:Program) (ops:Array Oper) (Q:Exit→Act→World→Prop):Nat→mE→Array Bool→Act→World→Prop
  | 0,_,listed,a,w=>Region.ready .any ops listed=[]∧Q .normal a w
  | fuel+1,E,listed,a,w=>(Region.ready .any ops listed=[]→Q .normal a w)∧∀ j ∈ Region.ready .any ops listed,
      wpOp P ops Q j (fun a' w'=>(∀ p,p ∈ E→waits ops j p.1=false→p.2 w→p.2 w')∧oH P ops Q fuel E (listed.setIfInBounds j true) a' w') a w
section
variable {P:Program} {ops:Array Oper} {Q:Exit→Act→World→Prop}
theorem oH.any:∀ (fuel:Nat) {E:mE} {listed:Array Bool} {a:Act} {w:World},oH P ops Q fuel E listed a w→wpAny P .any ops Q fuel listed a w
  | 0,_,_,_,_,h=>h
  | fuel+1,_,_,_,_,h=>⟨h.1,fun i hi=>wpOp_mono (fun a' w' h'=>oH.any fuel h'.2) (h.2 i hi)⟩
theorem oH.less:∀ (fuel:Nat) {E E':mE} {listed:Array Bool} {a:Act} {w:World},(∀ p,p ∈ E'→p ∈ E∨∀ w,p.2 w)→oH P ops Q fuel E listed a w→oH P ops Q fuel E' listed a w
  | 0,_,_,_,_,_,_,h=>h
  | fuel+1,_,_,_,_,_,he,h=>⟨h.1,fun i hi=>wpOp_mono (fun a' w' h'=>⟨fun p hp hw hc=>(he p hp).elim (fun h1=>h'.1 p h1 hw hc) (fun h1=>h1 w'),oH.less fuel he h'.2⟩) (h.2 i hi)⟩
theorem BU {j k:Nat} {o:Oper} (ho:ops[j]?=some o) (h:∀ e ∈ o.after,Region.binds .any e=true→e.on ≠ k):waits ops j k=false:=by
  unfold waits;rw [ho];simp only;cases hb:o.after.any fun e=>Region.binds .any e&&e.on==k
  · rfl
  · obtain ⟨e,he,hb⟩:=Array.any_eq_true'.1 hb;simp only [H3,beq_iff_eq] at hb;exact absurd hb.2 (h e he hb.1)
theorem oH.first {C:World→Prop} {i:Nat} {oi:Oper} {v:Value} (hi:ops[i]?=some oi) (hsel:∀ (j:Nat) (o:Oper) cs b,ops[j]?=some o→o.op ≠ .select cs b)
    (hQ:∀ c a w,Q (.panic c) (a.put oi.dst v) w→Q (.panic c) a w) :
    ∀ (fuel:Nat) (E:mE) (listed:Array Bool) (a:Act) (w:World),
      (∀ j oj,ops[j]?=some oj→j ≠ i→listed.getD j true=false→(∀ e ∈ oj.after,Region.binds .any e=true→e.on ≠ i)→oi.apart ops oj=true) →
      i ∈ Region.ready .any ops listed→YieldsIf P ops C oi v a→C w →
      oH P ops Q fuel ((i,C)::E) (listed.setIfInBounds i true) (a.put oi.dst v) w→oH P ops Q (fuel+1) E listed a w:=by
  intro fuel
  induction fuel with
  | zero =>
    intro E listed a w _ hr hy hC H;refine ⟨fun h=>(by rw [h] at hr;cases hr),fun j hj=>?_⟩
    by_cases hji:j=i
    · subst hji;exact hy.wpOp hi hC ⟨fun _ _ _ h=>h,H⟩
    · have:=ready_mono hj hji;rw [H.1] at this;cases this
  | succ fuel ih =>
    intro E listed a w hfree hr hy hC H;refine ⟨fun h=>(by rw [h] at hr;cases hr),fun j hj=>?_⟩
    by_cases hji:j=i
    · subst hji;exact hy.wpOp hi hC ⟨fun _ _ _ h=>h,H.less _ (fun p hp=>.inl (List.mem_cons_of_mem _ hp))⟩
    · have h1:=H.2 j (ready_mono hj hji);obtain ⟨hjun,oj,hoj,hall⟩:=mem_ready.1 hj
      have hnot:∀ e ∈ oj.after,Region.binds .any e=true→e.on ≠ i:=fun e he hb heq=>by
        have h1:=hall e he hb;have h0:=(mem_ready.1 hr).1;rw [heq] at h1
        rcases Nat.lt_or_ge i listed.size with h' | h'
        · simp [h'] at h0 h1;rw [h0] at h1;cases h1
        · simp [Array.getElem?_eq_none h'] at h1
      have h2:=wpOp_putIf hoj (hfree j oj hoj hji hjun hnot) (fun cs b=>hsel i oi cs b hi) (fun cs b=>hsel j oj cs b hoj) hQ hy h1;refine wpOp_mono (fun a' w' h3=>⟨fun p hp hw hc=>h3.2.1 p (List.mem_cons_of_mem _ hp) hw hc,?_⟩) h2;refine ih E (listed.setIfInBounds j true) a' w' (fun k ok hk hki hun hno=>?_) (ready_mono hr (Ne.symm hji)) h3.1 (h3.2.1 (i,C) (by simp) (BU hoj hnot) hC) ?_
      · refine hfree k ok hk hki ?_ hno
        by_cases hjk:j=k
        · subst hjk;exact hjun
        · rw [getD_set_ne true hjk] at hun;exact hun
      · rw [Array.setIfInBounds_comm _ _ hji];exact h3.2.2
end
def AW (P:Program) (n:Nat) (ops:Array Oper) (Q:jV) (fuel:Nat) (E:mE) (listed:Array Bool) (e:Env) (w:World):Prop:=∀ a,Is a n e→oH P ops (lift n Q) fuel E listed a w
def jv (ops:Array Oper) (listed:Array Bool) (i:Nat):Bool:=Region.noSelect ops&&Region.free .any ops listed i&&(Region.ready .any ops listed).contains i
section
variable {P:Program} {n:Nat} {Q:jV} {e:Env} {w:World} {ops:Array Oper} {fuel:Nat} {E:mE} {listed:Array Bool} {i:Nat}
  {ty:TypeId} {pos:String} {aft:Array Edge} {d:Nat} {v:Value} {g:Option (Nat×Bool)}
theorem CW.draw {id:Nat} {l:List Oper} (hm:P.follows .mixedOrders=true) (h:AW P n l.toArray Q l.length [] (Array.replicate l.length false) e w.drew):CW P n (.region id l.toArray true) Q e w:=by
  intro a ha;refine wp_region_any hm (oH.any _ (E:=[]) ?_);rw [List.size_toArray];exact h a ha
theorem AW.take {op:Op} {C:World→Prop} (hi:ops[i]?=some ⟨some d,op,ty,pos,aft,g⟩) (hok:jv ops listed i=true) (hw:mz ops g e=true) (hd:Nat.ble (d+1) n=true)
    (hl:jb P (ev e) op C v) (hC:C w) (h:AW P n ops Q fuel ((i,C)::E) (listed.setIfInBounds i true) (jR e d v) w):AW P n ops Q (fuel+1) E listed e w:=by
  intro a ha;unfold jv at hok;simp only [H3] at hok;obtain ⟨⟨h1,h2⟩,h3⟩:=hok;refine oH.first (C:=C) (v:=v) hi (Region.noSelect_spec h1) (fun c a w hq=>hq.1.elim) fuel E listed a w (Region.free_spec hi h2) (by simpa using h3) (.inl ⟨?_,fun w' hw'=>?_⟩) hC (h _ (ha.put (Nat.le_of_ble_eq_true hd) v))
  · rw [sd ha];exact hw
  · rw [ha.eval];exact hl _ _ _ _ _ _ hw'
theorem AW.u {op:Op} (hi:ops[i]?=some ⟨some d,op,ty,pos,aft,g⟩) (hok:jv ops listed i=true) (hw:mz ops g e=true) (hd:Nat.ble (d+1) n=true)
    (hl:iI P (ev e) op v) (h:AW P n ops Q fuel E (listed.setIfInBounds i true) (jR e d v) w):AW P n ops Q (fuel+1) E listed e w :=
  AW.take (C:=fun _=>True) hi hok hw hd (fun d ty pos aft g w _=>hl d ty pos aft g w) trivial fun a ha=>(h a ha).less _ fun p hp=>(List.mem_cons.1 hp).elim (fun h=>.inr fun _=>by subst h;trivial) .inl
theorem AW.no {op:Op} (hi:ops[i]?=some ⟨some d,op,ty,pos,aft,g⟩) (hok:jv ops listed i=true) (hw:mz ops g e=false) (hd:Nat.ble (d+1) n=true)
    (h:AW P n ops Q fuel E (listed.setIfInBounds i true) (jR e d undef) w):AW P n ops Q (fuel+1) E listed e w:=by
  intro a ha;unfold jv at hok;simp only [H3] at hok;obtain ⟨⟨h1,h2⟩,h3⟩:=hok
  refine oH.first (C:=fun _=>True) (v:=undef) hi (Region.noSelect_spec h1) (fun c a w hq=>hq.1.elim) fuel E listed a w (Region.free_spec hi h2) (by simpa using h3) (.inr ⟨?_,rfl⟩) trivial
    ((h _ (ha.put (Nat.le_of_ble_eq_true hd) undef)).less _ fun p hp=>(List.mem_cons.1 hp).elim (fun h=>.inr fun _=>by subst h;trivial) .inl)
  rw [sd ha];exact hw
def ya:List Nat→(Nat→Prop)→Prop
  | [],_=>True
  | i::r,p=>p i∧ya r p
theorem ya.mem {p:Nat→Prop}:∀ {l:List Nat},ya l p→∀ i,i ∈ l→p i
  | i::r,h,j,hj=>(List.mem_cons.1 hj).elim (fun e=>e ▸ h.1) (ya.mem h.2 j)
def Kept (ops:Array Oper) (i:Nat) (E:mE) (w w':World):Prop:=∀ p,p ∈ E→waits ops i p.1=false→p.2 w→p.2 w'
def One (P:Program) (n:Nat) (ops:Array Oper) (Q:jV) (fuel:Nat) (E:mE) (listed:Array Bool) (e:Env) (w:World) (i:Nat):Prop :=
  ∃ o,ops[i]?=some o∧LW P n ops (fun x e' w'=>x=.normal∧Kept ops i E w w'∧AW P n ops Q fuel E (listed.setIfInBounds i true) e' w') [o] e w
theorem BB {o:Oper} {a:Act} {w:World} {K:Act→World→Prop} {Q Q':Exit→Act→World→Prop} (hp:∀ c a w,Q (.panic c) a w→Q' (.panic c) a w) (hl:LetsOut Q→LetsOut Q')
    (h:o.wp P a w K Q):o.wp P a w K Q':=by
  unfold Oper.wp at *;generalize (execOp a.eval o).run P w=r at *
  cases r with
  | ok x w' =>
    cases x<;>simp only [Oper.upon] at h ⊢<;>first
      | exact h
      | (refine Calls.mono h fun e w'' hh=>?_
         cases e with
         | returned v=>exact hh
         | panicked c=>exact hp _ _ _ hh
         | outgrown=>exact hl hh)
  | halt x w'=>cases x<;>simp only [Oper.upon] at h ⊢<;>first | exact h | exact hp _ _ _ h
theorem AW.all {rs:List Nat} (hr:Region.ready .any ops listed=rs) (hne:rs ≠ []) (h:ya rs (One P n ops Q fuel E listed e w)):AW P n ops Q (fuel+1) E listed e w:=by
  intro a ha;refine ⟨fun h0=>absurd (hr ▸ h0) hne,fun j hj=>?_⟩;obtain ⟨o,ho,hL⟩:=h.mem j (hr ▸ hj);have h1:=hL a ha;unfold wpList at h1;unfold wpOp;rw [ho];simp only
  have hK:∀ (a':Act) (w':World),wpList P ops (lift n fun x e' w'=>x=.normal∧Kept ops j E w w'∧AW P n ops Q fuel E (listed.setIfInBounds j true) e' w') [] a' w' →
      (∀ p,p ∈ E→waits ops j p.1=false→p.2 w→p.2 w')∧oH P ops (lift n Q) fuel E (listed.setIfInBounds j true) a' w':=by
    rintro a' w' ⟨_,e',he',_,hk,hA⟩;exact ⟨hk,hA a' he'⟩
  split
  · rename_i hwt;rw [if_pos hwt] at h1
    rcases h1 with h1 | ⟨_,hq⟩
    · exact .inl (Oper.wp_mono hK (BB (fun c a w hq=>hq.1.elim) (fun hq=>by obtain ⟨a0,w0,hc,_⟩:=hq;exact hc.elim) h1))
    · obtain ⟨a0,w0,hc,_⟩:=hq;exact hc.elim
  · rename_i hwt;rw [if_neg hwt] at h1;exact hK _ _ h1
theorem AW.one (hr:Region.ready .any ops listed=[i]) (h:One P n ops Q fuel E listed e w i):AW P n ops Q (fuel+1) E listed e w:=AW.all hr (by simp) ⟨h,trivial⟩
theorem AW.done (hr:Region.ready .any ops listed=[]) (h:Q .normal e w):AW P n ops Q fuel E listed e w:=by
  intro a ha
  cases fuel with
  | zero=>exact ⟨hr,trivial,e,ha,h⟩
  | succ f=>exact ⟨fun _=>⟨trivial,e,ha,h⟩,by rw [hr];simp⟩
end
end Go.Kx
namespace Go.Kx
open Go Go.RowKit
set_option linter.unusedVariables false
set_option linter.unusedSimpArgs false
def iter {σ ρ:Type} (body:σ→Option (σ⊕ρ)):Nat→σ→Option ρ
  | 0,_=>none
  | n+1,s=>(body s).bind fun o=>match o with
    | .inl s'=>iter body n s'
    | .inr r=>some r
theorem rT {α β:Type} {x:Option α} {f:α→Option β} {b:β} (h:x.bind f=some b):∃ a,x=some a∧f a=some b:=Option.bind_eq_some_iff.1 h
theorem Hu {α:Type} {c:Bool} {a b:Option α} {r:α} (h:(bif c then a else b)=some r) (hc:c=true):a=some r:=by subst hc;exact h
theorem Hj {α:Type} {c:Bool} {a b:Option α} {r:α} (h:(bif c then a else b)=some r) (hc:c=false):b=some r:=by subst hc;exact h
section
variable {P:Program} {n:Nat} {e:Env} {w:World}
theorem CW.iter {σ ρ:Type} {c:Code} {body:σ→Option (σ⊕ρ)} (R:σ→Env→World→Prop) (Q:ρ→jV)
    (hb:∀ (s:σ) (e:Env) (w:World) (o:σ⊕ρ),R s e w→body s=some o→CW P n c (fun x e' w'=>match o with
      | .inl s'=>x=.normal∧R s' e' w'
      | .inr r=>(match x with | .normal=>False | _=>True)∧Q r x e' w') e w)
    (N:Nat) (s:σ) (e:Env) (w:World) (r:ρ) (hR:R s e w) (h:Kx.iter body N s=some r):CW P n (.loop c) (Q r) e w:=by
  have key:∀ (N:Nat) (s:σ) (e:Env) (w:World),R s e w→Kx.iter body N s=some r→∀ a,Is a n e→Code.rounds P c (lift n (Q r)) N a w:=by
    intro N
    induction N with
    | zero=>intro s e w _ h;cases h
    | succ N ih =>
      intro s e w hR h a ha;obtain ⟨o,ho,h2⟩:=rT h;rw [rounds_succ];refine Code.wp_mono ?_ (hb s e w o hR ho a ha);rintro x a' w' ⟨hc,e',he',hq⟩
      cases o with
      | inl s' =>
        obtain ⟨rfl,hR'⟩:=hq;exact ih s' e' w' hR' h2 a' he'
      | inr r' =>
        cases h2
        cases x with
        | normal=>exact hq.1.elim
        | _=>exact ⟨hc,e',he',hq.2⟩
  exact fun a ha=>wp_loop_rounds N (key N s e w hR h a ha)
def xI (args:Array Value):Env:=fun i=>args.getD i undef
def hP (P:Program) (e:Env) (w:World):ResultVar→Value→Prop
  | .tmp t,v=>e t=v
  | .cell a T,v=>∃ ad,e a=.pointer (some ad)∧(loadVar T ad).run P w=.ok v w
def jM (P:Program) (rs:Array ResultVar) (e:Env) (w:World) (v:Value):Prop:=∀ (fn:Func) (tmps:Array Value),fn.results=rs→(∀ i,tmps.getD i undef=e i)→(results fn tmps).run P w=.ok v w
def vZ (tmps:Array Value):ResultVar→Sem Value
  | .tmp t=>pure (tmps.getD t undef)
  | .cell a t=>do loadVar t (← asAddr (tmps.getD a undef))
theorem pP (fn:Func) (tmps:Array Value):results fn tmps=(do
    let vs ← fn.results.mapM (vZ tmps)
    pure (if h:vs.size=1 then vs[0] else .tuple vs)):=by
  unfold results;congr 2
theorem nm {tmps:Array Value} (h2:∀ i,tmps.getD i undef=e i) {r:ResultVar} {v:Value} (h:hP P e w r v):(vZ tmps r).run P w=.ok v w:=by
  cases r with
  | tmp t=>rw [← (show e t=v from h), ← h2 t];simp [vZ]
  | cell a t =>
    obtain ⟨ad,h1,h3⟩:=h;rw [← h2 a] at h1;simp only [vZ,h1,asAddr];simpa using h3
theorem jM.zero:jM P #[] e w (.tuple #[]):=fun fn tmps h1 h2=>by simp [pP,h1]
theorem jM.one {r:ResultVar} {v:Value} (h:hP P e w r v):jM P #[r] e w v:=fun fn tmps h1 h2=>by
  have:=nm h2 h;simp [pP,h1,this]
theorem jM.two {r s:ResultVar} {u v:Value} (h:hP P e w r u) (k:hP P e w s v):jM P #[r,s] e w (.tuple #[u,v]):=fun fn tmps h1 h2=>by
  have:=nm h2 h;have:=nm h2 k;simp [pP,h1, *]
theorem jM.three {r s t:ResultVar} {u v x:Value} (h:hP P e w r u) (k:hP P e w s v) (l:hP P e w t x):jM P #[r,s,t] e w (.tuple #[u,v,x]):=fun fn tmps h1 h2=>by
  have:=nm h2 h;have:=nm h2 k;have:=nm h2 l;simp [pP,h1, *]
theorem jM.four {r s t q:ResultVar} {u v x y:Value} (h:hP P e w r u) (k:hP P e w s v) (l:hP P e w t x) (m:hP P e w q y):jM P #[r,s,t,q] e w (.tuple #[u,v,x,y]):=fun fn tmps h1 h2=>by
  have:=nm h2 h;have:=nm h2 k;have:=nm h2 l;have:=nm h2 m;simp [pP,h1, *]
theorem hP.t {t:Nat} {v:Value} (h:e t=v):hP P e w (.tmp t) v:=h
theorem hP.b {w0:World} {F0:List Nat} {L:List Item} {a T:Nat} {m g:Nat} {bt:TypeId} {cs:List Value} (hS:St w0 F0 w L) (i:Nat) (hi:L[i]?=some (bx g bt cs)) (ht:iY P T=some (some m)) (ha:e a=.pointer (some ⟨g,0,none⟩)) (hm:cs.length=m):hP P e w (.cell a T) (.agg cs.toArray):=by
  have hl:=jb.agg (P:=P) (ρ:=ev e) (x:=.tmp a) (o:=0) (cs:=cs) ht ha hm;refine ⟨_,ha,?_⟩;have h1:=hl none 0 "" #[] none w (fun j u hu=>by rw [cell_of_row w g _ cs.toArray bt (0,0) (St.cell (h:=hS) hi)];simpa using hu);have ha':ev e (.tmp a)=.pointer (some ⟨g,0,none⟩):=ha;simp only [execOp,Instr.loadAt,ha',Instr.sureAddr] at h1
  cases hr:(loadVar T ⟨g,0,none⟩).run P w with
  | ok v w'=>simp [hr] at h1;obtain ⟨h2,h3⟩:=h1;subst h2;subst h3;rfl
  | halt x w'=>simp [hr] at h1
theorem gZ.of {f:FuncId} {fn:Func} {c:Code} {args:Array Value} {K:Value→World→Prop} (hf:P.funcs[f]?=some fn) (hb:fn.body=some c) (hn:fn.ntmps=n) (ha:Nat.ble args.size n=true)
    (h:CW P n c (fun x e' w'=>(match x with | .ret=>True | .normal=>True | _=>False)∧∃ v,jM P fn.results e' w' v∧K v w') (xI args) w):gZ P f args w K:=by
  have ha:=Nat.le_of_ble_eq_true ha;refine calls_of_wp hf hb (Code.wp_mono ?_ (h _ ⟨rfl,?_,fun i=>?_⟩))
  · rintro x a w' ⟨hc,e',he',hx,v,hr,hk⟩;have hres:=hr fn a.tmps rfl he'.get
    cases x with
    | normal=>exact ⟨he'.defers,v,hres,hk⟩
    | ret=>exact ⟨he'.defers,v,hres,hk⟩
    | _=>exact hx.elim
  · simp [hn];omega
  · unfold xI;simp only [Array.getD_eq_getD_getElem?,Array.getElem?_append];split
    · rfl
    · rename_i hi;rw [Array.getElem?_eq_none (xs:=args) (by omega)]
      by_cases hj:i - args.size<fn.ntmps - args.size
      · rw [Array.getElem?_replicate,if_pos hj];rfl
      · rw [Array.getElem?_replicate,if_neg hj]
end
theorem iv.kV {α:Type} [gT α] {M:List Item} {w:World} {F:List Nat} {S:Nat→Prop} (h:iv M w F) (i:Nat) {a:Option Addr} {c:Nat} {l:List α} (hi:M[i]?=some (sl a c l)) (hS:∀ b,b ∈ F→S b):iy S w a c l:=by
  obtain ⟨Fi,q1,q2⟩:=h.at_ i hi;exact kW.rd q1 fun b hb=>hS b (q2 b hb)
def dz (b:Int):Option Unit:=if b=0 then none else some ()
theorem AA {b:Int} {u:Unit} (h:dz b=some u):b ≠ 0:=by unfold dz at h;split at h<;>simp_all
theorem tw {w:World} {b o:Nat} {cs:List Value} (h:∀ (j:Nat) (u:Value),cs[j]?=some u→w.cell? ⟨b,o+j,none⟩=some u) (k:Nat) {m j:Nat} {u:Value} (hu:((cs.drop k).take m)[j]?=some u):w.cell? ⟨b,o+k+j,none⟩=some u:=by
  rw [List.getElem?_take] at hu;split at hu
  · rw [List.getElem?_drop] at hu;rw [Nat.add_assoc];exact h _ u hu
  · cases hu
theorem ik {α:Type} {l y:List α} {k:Nat} {x:α} (h:l.set k x=y):l.length=y.length:=by rw [← h,List.length_set]
section
variable {P:Program} {w0 w:World} {F0:List Nat} {L:List Item} {α:Type} [gT α]
theorem St.rB {a:Option Addr} {c:Nat} {l:List α} (h:St w0 F0 w L) (hr:iy (ja w0 F0) w0 a c l):iy (ja w []) w a c l :=
  (h.F9 hr).mono fun b hb=>⟨Nat.lt_of_lt_of_le hb.1 h.size,by simp⟩
theorem St.rI {a:Option Addr} {c:Nat} {l:List α} (h:St w0 F0 w L) (i:Nat) (hi:L[i]?=some (sl a c l)):iy (ja w []) w a c l:=by
  obtain ⟨F,hF,_,hb⟩:=h.own;obtain ⟨Fi,q,q2⟩:=hF.at_ i hi;exact kW.rd q fun b hbm=>⟨(hb b (q2 b hbm)).2,by simp⟩
theorem St.nil (h:St w0 F0 w L):St w0 F0 w (sl none 0 ([]:List α)::L):=by
  obtain ⟨F,hF,hn,hb⟩:=h.own;exact ⟨h.os,h.tape,h.output,h.size,h.same,F,⟨[],F,rfl,.inl ⟨rfl,rfl,rfl,rfl⟩,hF⟩,hn,hb⟩
def kN {β:Type} (L:List β):List Nat→Option (List β)
  | []=>some []
  | i::r=>match L[i]?,kN L r with
    | some x,some m=>some (x::m)
    | _,_=>none
def m3:List Nat→Bool
  | []=>true
  | i::r=>(r.all fun j=>!Nat.beq i j)&&m3 r
theorem iv.parts:∀ {L:List Item} {w:World} {F:List Nat},iv L w F→F.Nodup→∃ G:Nat→List Nat,
    (∀ (i:Nat) (it:Item),L[i]?=some it→it.p w (G i)∧(G i).Nodup∧∀ b,b ∈ G i→b ∈ F)∧∀ (i j:Nat),i ≠ j→i<L.length→j<L.length→∀ b,b ∈ G i→b ∉ G j
  | [],w,F,_,_=>⟨fun _=>[],fun i it h=>by simp at h,fun i j _ h=>by simp at h⟩
  | x::L,w,F,⟨F1,F2,hF,h1,h2⟩,hn=>by
    subst hF;obtain ⟨n1,n2,nd⟩:=List.nodup_append.1 hn;obtain ⟨G,g1,g2⟩:=iv.parts h2 n2;have gin:∀ (i:Nat),i<L.length→∀ b,b ∈ G i→b ∈ F2:=fun i hi b hb=>(g1 i _ (List.getElem?_eq_getElem hi)).2.2 b hb;refine ⟨fun i=>match i with | 0=>F1 | i+1=>G i,fun i it hi=>?_,fun i j hij hi hj b hb=>?_⟩
    · cases i with
      | zero=>simp at hi;subst hi;exact ⟨h1,n1,fun b hb=>List.mem_append_left _ hb⟩
      | succ i =>
        obtain ⟨q1,q2,q3⟩:=g1 i it (by simpa using hi);exact ⟨q1,q2,fun b hb=>List.mem_append_right _ (q3 b hb)⟩
    · cases i with
      | zero =>
        cases j with
        | zero=>exact absurd rfl hij
        | succ j=>exact fun hb2=>nd b hb b (gin j (by simpa using hj) b hb2) rfl
      | succ i =>
        cases j with
        | zero=>exact fun hb2=>nd b hb2 b (gin i (by simpa using hi) b hb) rfl
        | succ j=>exact g2 i j (fun e=>hij (by rw [e])) (by simpa using hi) (by simpa using hj) b hb
theorem St.pick (is:List Nat) {M:List Item} (h:St w0 F0 w L) (hp:kN L is=some M) (hn:m3 is=true):St w0 F0 w M:=by
  obtain ⟨F,hF,hnd,hb⟩:=h.own;obtain ⟨G,g1,g2⟩:=hF.parts hnd
  have key:∀ (is:List Nat) (M:List Item),kN L is=some M→m3 is=true→∃ F',iv M w F'∧F'.Nodup∧(∀ b,b ∈ F'→b ∈ F)∧(∀ b,b ∈ F'→∃ i,i ∈ is∧i<L.length∧b ∈ G i):=by
    intro is
    induction is with
    | nil =>
      intro M hp _;cases hp;exact ⟨[],rfl,List.nodup_nil,by simp,by simp⟩
    | cons i r ih =>
      intro M hp hn;simp only [m3,H3,List.all_eq_true] at hn;simp only [kN] at hp;split at hp
      · rename_i x m hx hm;cases hp;obtain ⟨F',q1,q2,q3,q4⟩:=ih m hm hn.2;obtain ⟨p1,p2,p3⟩:=g1 i x hx;have hlt:=iQ hx;refine ⟨G i++F',⟨G i,F',rfl,p1,q1⟩,List.nodup_append.2 ⟨p2,q2,fun a ha b hb e=>?_⟩,fun b hb=>?_,fun b hb=>?_⟩
        · subst e;obtain ⟨j,hj,hjl,hja⟩:=q4 a hb
          have hne:i ≠ j:=by
            rintro rfl;have:=hn.1 i hj;simp at this
          exact g2 i j hne hlt hjl a ha hja
        · rcases List.mem_append.1 hb with h | h
          · exact p3 b h
          · exact q3 b h
        · rcases List.mem_append.1 hb with h | h
          · exact ⟨i,by simp,hlt,h⟩
          · obtain ⟨j,hj,hjl,hja⟩:=q4 b h;exact ⟨j,by simp [hj],hjl,hja⟩
      · cases hp
  obtain ⟨F',q1,q2,q3,_⟩:=key is M hp hn;exact ⟨h.os,h.tape,h.output,h.size,h.same,F',q1,q2,fun b hbm=>hb b (q3 b hbm)⟩
end
theorem CW.cut {P:Program} {n:Nat} {c:Code} {Q:jV} {e:Env} {w:World} (M:Env→World→Prop) (h1:CW P n c (uh M Q) e w) (h2:∀ e w,M e w→Q .normal e w):CW P n c Q e w :=
  h1.mono fun x e w hq=>by cases x<;>first | exact h2 _ _ hq | exact hq
def fz (w1:World) (F:List Nat):Item:=⟨fun w G=>G=F∧∀ b,b ∈ F→w.heap[b]?=w1.heap[b]?,fun w w' G h hb=>⟨h.1,fun b hm=>(hb b (h.1 ▸ hm)).trans (h.2 b hm)⟩⟩
section
variable {P:Program} {w0 w w1:World} {F0 F:List Nat} {L:List Item} {α:Type} [gT α]
theorem St.freeze {a:Option Addr} {c:Nat} {l:List α} (h:St w0 F0 w L) (i:Nat) (hi:L[i]?=some (sl a c l)):∃ F,kW w a c F l∧St w0 F0 w (L.set i (fz w F)):=by
  have h':St w0 F0 w ([sl a c l]++L.eraseIdx i):=h.front i hi;obtain ⟨F,hF,hn,hlt,_,_,hm⟩:=h'.share;obtain ⟨F1,F2,rfl,q1,q2⟩:=hF;cases (show F2=[] from q2);rw [List.append_nil] at hn hlt hm;exact ⟨F1,q1,(hm w [fz w F1] (St.init ⟨F1,[],by simp,⟨rfl,fun _ _=>rfl⟩,rfl⟩ hn hlt)).perm (eraseIdx_set L i _ (iQ hi))⟩
theorem St.iH {a:Option Addr} {c:Nat} {l:List α} (h:St w0 F0 w L) (i:Nat) (hi:L[i]?=some (fz w1 F)) (ho:kW w1 a c F l):St w0 F0 w (L.set i (sl a c l)) :=
  h.setAt hi fun G hG hn hlt=>by
    obtain ⟨rfl,hb⟩:=hG;exact St.init ⟨G,[],by simp,ho.frame hb,rfl⟩ hn hlt
theorem St.zC (h:St w0 F0 w L) (i:Nat) (hi:L[i]?=some (fz w1 F)) {b:Nat} (hb:b ∈ F):w.heap[b]?=w1.heap[b]?:=by
  obtain ⟨G,hG,_,_⟩:=h.own;obtain ⟨Fi,q,_⟩:=hG.at_ i hi;exact q.2 b hb
theorem St.rZ {a:Option Addr} {c:Nat} {l:List α} (h:St w0 F0 w L) (i:Nat) (hi:L[i]?=some (fz w1 F)) (hr:iy (fun b=>b ∈ F) w1 a c l):iy (ja w []) w a c l:=by
  obtain ⟨G,hG,_,hb⟩:=h.own;obtain ⟨Fi,q,q2⟩:=hG.at_ i hi;obtain ⟨rfl,q3⟩:=q;exact (hr.kT fun b hm=>q3 b hm).mono fun b hm=>⟨(hb b (q2 b hm)).2,by simp⟩
theorem kW.jB {a:Option Addr} {c:Nat} {l:List α} (h:kW w1 a c F l):iy (fun b=>b ∈ F) w1 a c l:=h.rd fun b hb=>hb
end
theorem whole {α:Type} [gT α] {M:List Item} {vs:List Value} {z y:α} (h:∀ (w:World) (G:List Nat),iv M w G→gT.own w vs G y) :
    ∀ (w:World) (cs:List Value) (F G:List Nat),gT.own w cs F z→iv M w G→∃ F',gT.own w (cs.take 0++vs++cs.drop (0+vs.length)) F' y∧(∀ b,b ∈ F'→b ∈ F∨b ∈ G)∧(F.Nodup→G.Nodup→(∀ b,b ∈ F→b ∉ G)→F'.Nodup):=by
  intro w cs F G hF hG;have h1:=h w G hG
  have e:cs.take 0++vs++cs.drop (0+vs.length)=vs:=by
    rw [List.drop_eq_nil_of_le (by rw [gT.iJ h1,gT.iJ hF];omega)];simp
  exact ⟨G,by rw [e];exact h1,fun b hb=>.inr hb,fun _ hn _=>hn⟩
theorem kz {α:Type} [gT α] {o:Nat} {vs:List Value} {z y:α} (h:∀ (w:World) (cs:List Value) (F:List Nat),gT.own w cs F z→gT.own w (cs.take o++vs++cs.drop (o+vs.length)) F y) :
    ∀ (w:World) (cs:List Value) (F G:List Nat),gT.own w cs F z→iv [] w G→∃ F',gT.own w (cs.take o++vs++cs.drop (o+vs.length)) F' y∧(∀ b,b ∈ F'→b ∈ F∨b ∈ G)∧(F.Nodup→G.Nodup→(∀ b,b ∈ F→b ∉ G)→F'.Nodup) :=
  fun w cs F G hF _=>⟨F,h w cs F hF,fun b hb=>.inl hb,fun hn _ _=>hn⟩
theorem Kept.n {ops:Array Oper} {i:Nat} {w w':World}:Kept ops i [] w w':=fun p hp=>by cases hp
theorem Kept.c {ops:Array Oper} {i j:Nat} {C:World→Prop} {E:mE} {w w':World} (h:C w') (k:Kept ops i E w w'):Kept ops i ((j,C)::E) w w':=fun p hp hw hc=>by
  rcases List.mem_cons.1 hp with rfl | hp
  · exact h
  · exact k p hp hw hc
theorem Kept.w {ops:Array Oper} {i j:Nat} {C:World→Prop} {E:mE} {w w':World} (h:waits ops i j=true) (k:Kept ops i E w w'):Kept ops i ((j,C)::E) w w':=fun p hp hw hc=>by
  rcases List.mem_cons.1 hp with rfl | hp
  · rw [h] at hw;cases hw
  · exact k p hp hw hc
section
variable {P:Program} {n:Nat} {t:TypeId} {xs ys:Array Value} {u v a b:Value} {r q:Bool}
def lU (P:Program) (n:Nat) (t:TypeId) (u v:Value) (r:Bool):Prop:=∀ (d:Nat) (w:World),(Op.equalIn (d+n+1) t u v).run P w=.ok r w
def mi (P:Program) (n:Nat) (xs ys:Array Value) (fs:List Field) (r:Bool):Prop:=∀ (d:Nat) (w:World),(Op.eqFields (d+n+1) xs ys fs).run P w=.ok r w
theorem lU.int {k k':IntKind} {x y:Int} (h:P.underlying t=some (.int k')):lU P n t (.int k x) (.int k y) (x==y):=fun _ w=>run_equalIn_int w _ t k k' x y h
theorem lU.bool {x y:Bool} (h:P.underlying t=some .bool):lU P n t (.bool x) (.bool y) (x==y):=fun _ w=>run_equalIn_bool' w _ t x y h
theorem lU.agg {fs:Array Field} (h:P.underlying t=some (.struct fs)) (hp:P.stoodInHeld t=false) (hf:mi P n xs ys fs.toList r):lU P (n+1) t (.agg xs) (.agg ys) r:=fun d w=>by
  have e:P.fieldsOf t=fs:=by simp [Program.fieldsOf,h]
  have:=run_equalIn_agg (P:=P) w (d+n+1) t xs ys (by rw [e];exact h) hp;rw [e,hf d w] at this;exact this
theorem mi.nil:mi P n xs ys [] true:=fun _ _=>rfl
theorem mi.one {f:Field} {fs:List Field} (hn:(f.name=="_")=false) (ha:iY P f.type=some none) (hx:sa xs.toList f.offset=some a) (hy:sa ys.toList f.offset=some b) (h:lU P n f.type a b r)
    (h2:mi P n xs ys fs q):mi P n xs ys (f::fs) (r&&q):=fun d w=>by
  have hx:xs[f.offset]?=some a:=by rw [tm] at hx;simpa using hx
  have hy:ys[f.offset]?=some b:=by rw [tm] at hy;simpa using hy
  have hn:f.name ≠ "_":=by simpa using hn
  have:=h d w;have:=h2 d w;cases r<;>simp_all [Op.eqFields,part,(mQ (w:=w) ha).1]
theorem mi.more {f:Field} {fs:List Field} {m:Nat} (hn:(f.name=="_")=false) (ha:iY P f.type=some (some m))
    (h:lU P n f.type (.agg (xs.extract f.offset (f.offset+m))) (.agg (ys.extract f.offset (f.offset+m))) r) (h2:mi P n xs ys fs q):mi P n xs ys (f::fs) (r&&q):=fun d w=>by
  have hn:f.name ≠ "_":=by simpa using hn
  have:=h d w;have:=h2 d w;have h3:=mQ (w:=w) ha;cases r<;>simp_all [Op.eqFields,part]
theorem lU.top {p:Prop} [Decidable p] (h:lU P n t u v r) (hn:n<10000) (hp:r=decide p) (w:World):(Op.equalIn 10000 t u v).run P w=.ok (decide p) w:=by
  have h:=h (10000 - n - 1) w;rw [show 10000 - n - 1+n+1=10000 from by omega,hp] at h;exact h
end
theorem CW.fresh {P:Program} {n:Nat} {c:Code} {Q:jV} {e:Env} {w:World} {l:List (Nat×Value)} (h:En e l) (k:∀ e',CW P n c Q (ij e' l) w):CW P n c Q e w:=by
  obtain ⟨e',rfl⟩:=h.out;exact k e'
theorem LW.fresh {P:Program} {n:Nat} {oa:Array Oper} {ops:List Oper} {Q:jV} {e:Env} {w:World} {l:List (Nat×Value)} (h:En e l) (k:∀ e',LW P n oa Q ops (ij e' l) w):LW P n oa Q ops e w:=by
  obtain ⟨e',rfl⟩:=h.out;exact k e'
theorem AW.fresh {P:Program} {n:Nat} {ops:Array Oper} {Q:jV} {f:Nat} {E:mE} {li:Array Bool} {e:Env} {w:World} {l:List (Nat×Value)} (h:En e l) (k:∀ e',AW P n ops Q f E li (ij e' l) w):AW P n ops Q f E li e w:=by
  obtain ⟨e',rfl⟩:=h.out;exact k e'
end Go.Kx
