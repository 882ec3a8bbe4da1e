/- Plain laws: what is freed, shaded, swept; a collector's step. No program in sight. -/
import Derived.Test.YtikeaiogpfjdnaaGreatLSum
namespace Go.Kx
open Go
set_option linter.unusedVariables false
set_option linter.unusedSimpArgs false
set_option maxRecDepth 10000
def Po (i:Int) (x:Int):Int:=if x==i then -1 else x
def PT (i:Int) (o:eg):eg:=if o.kind==0 then o else eg.mk o.gen o.kind (if o.box==i then -1 else o.box) o.res o.qp o.bh o.wait o.qo o.qq o.mark (o.pS.map (Po i)) o.data o.queue
def J2 (l:List eg) (i:Int):List eg×Bool:=if rX l&&(qg i 1 9&&((nth l i).kind != 0)) then ((l.set i.toNat (blank (nth l i).gen)).map (PT i),true) else (l,false)
theorem Fj {o:eg} (h:sn o=true) (hk:(o.kind==0)=false):o.pS.length=2:=by
  unfold sn at h
  simp only [hk,cond_false,Bool.and_eq_true] at h
  obtain ⟨_,_,_,_,_,_,hl,_⟩:=h
  unfold yH at hl
  simp only [Bool.and_eq_true,beq_iff_eq] at hl
  omega
def yC (t:List pW) (f:Int) (a:qa):List pW×Bool :=
  if r7 t&&(qX a&&qX (qG (ua t) a)) then
    (t.set (if ri t f then f else 0).toNat (EF (nth t (if ri t f then f else 0)) (qG (nth t (if ri t f then f else 0)).qw a)),true)
  else (t,false)
theorem Hf (t:List pW) (f:Int) (a:qa):(yC t f a).1.length=t.length:=by
  unfold yC
  split <;> simp
theorem I7 {N:Nat} (hN:pR≤N) {t:List pW} (hB:t.length<pR) (f:Int) (a:qa):xc N t f a=some (yC t f a):=by
  unfold xc yC
  simp only [we hB,zR hN,xH,FB hN hB,zK,Option.bind_some,sG]
  cases ht:r7 t
  · rfl
  have hl:=yN ht
  cases qX a
  · rfl
  cases qX (qG (ua t) a)
  · rfl
  simp only [Bool.not_true,Bool.or_self,cond_false,yD N hl,Option.bind_some,Bool.and_self,if_true]
  cases hv:ri t f
  · simp only [Bool.not_false,cond_true,Option.bind_some,rl (l:=t) (i:=0) (by omega) (by omega),Bool.false_eq_true,if_false];rfl
  · obtain ⟨f0,f4⟩:=tM hv
    simp only [Bool.not_true,cond_false,Option.bind_some,rl (l:=t) f0 (by omega),if_true];rfl
theorem MG {n:Int}:CT n=true ↔ 0≤n∧n≤1000000:=rL
theorem tr {a:qa}:qX a=true ↔ (0≤a.bh∧a.bh≤1000000)∧(0≤a.pU∧a.pU≤1000000)∧(0≤a.qc∧a.qc≤1000000):=by
  unfold qX;simp only [Bool.and_eq_true,MG]
theorem AQ:∀ (t:List pW) (s:qa) (B:Int),(∀ r,r ∈ t→qX r.qw=true)→0≤B→B+1000000 * (t.length:Int)≤1000000000→(0≤s.bh∧s.bh≤B)→(0≤s.pU∧s.pU≤B)→(0≤s.qc∧s.qc≤B) →
    (s.bh≤(rk s t).bh∧s.pU≤(rk s t).pU∧s.qc≤(rk s t).qc) ∧
      ∀ r,r ∈ t→r.live=true→r.qw.bh≤(rk s t).bh∧r.qw.pU≤(rk s t).pU∧r.qw.qc≤(rk s t).qc
  | [],s,B,_,_,_,_,_,_=>⟨⟨Int.le_refl _,Int.le_refl _,Int.le_refl _⟩,fun r hr=>by simp at hr⟩
  | r::t,s,B,h,hB,hL,h1,h2,h3=>by
    have hr:=tr.1 (h r (by simp))
    simp only [List.length_cons] at hL
    have e:rk s (r::t)=rk (if r.live then qG s r.qw else s) t:=rfl
    rw [e]
    cases hv:r.live
    · obtain ⟨q1,q2⟩:=AQ t s B (fun x hx=>h x (by simp [hx])) hB (by omega) h1 h2 h3
      refine ⟨q1,fun x hx hl=>?_⟩
      rcases List.mem_cons.1 hx with rfl | hx
      · rw [hv] at hl;cases hl
      · exact q2 x hx hl
    · simp only [if_true]
      have w1:(qG s r.qw).bh=s.bh+r.qw.bh:=rN (by omega) (by omega)
      have w2:(qG s r.qw).pU=s.pU+r.qw.pU:=rN (by omega) (by omega)
      have w3:(qG s r.qw).qc=s.qc+r.qw.qc:=rN (by omega) (by omega)
      obtain ⟨⟨a1,a2,a3⟩,q2⟩:=AQ t (qG s r.qw) (B+1000000) (fun x hx=>h x (by simp [hx])) (by omega) (by omega) (by omega) (by omega) (by omega)
      refine ⟨⟨by omega,by omega,by omega⟩,fun x hx hl=>?_⟩
      rcases List.mem_cons.1 hx with rfl | hx
      · exact ⟨by omega,by omega,by omega⟩
      · exact q2 x hx hl
theorem EP {t:List pW} (h:Tr t) {a:qa} (ha:qX a=true) (hs:qX (qG (rk ⟨0,0,0⟩ t) a)=true) {i:Int} (hi:0≤i∧i≤4) (hv:(nth t i).live=true):uO (nth t i).qw a=(qG (nth t i).qw a,true):=by
  have hl:=h.len
  have hm:nth t i ∈ t:=zJ hi.1 (by omega)
  obtain ⟨_,q⟩:=AQ t ⟨0,0,0⟩ 0 h.qw (by omega) (by omega) ⟨by decide,by decide⟩ ⟨by decide,by decide⟩ ⟨by decide,by decide⟩
  obtain ⟨q1,q2,q3⟩:=q _ hm hv
  have hb:=tr.1 (h.qw _ hm)
  have ha':=tr.1 ha
  have hS:=tr.1 h.sum
  have w1:(qG (rk ⟨0,0,0⟩ t) a).bh=(rk ⟨0,0,0⟩ t).bh+a.bh:=rN (by omega) (by omega)
  have w2:(qG (rk ⟨0,0,0⟩ t) a).pU=(rk ⟨0,0,0⟩ t).pU+a.pU:=rN (by omega) (by omega)
  have w3:(qG (rk ⟨0,0,0⟩ t) a).qc=(rk ⟨0,0,0⟩ t).qc+a.qc:=rN (by omega) (by omega)
  have hs':=tr.1 hs
  have v1:(qG (nth t i).qw a).bh=(nth t i).qw.bh+a.bh:=rN (by omega) (by omega)
  have v2:(qG (nth t i).qw a).pU=(nth t i).qw.pU+a.pU:=rN (by omega) (by omega)
  have v3:(qG (nth t i).qw a).qc=(nth t i).qw.qc+a.qc:=rN (by omega) (by omega)
  have:qX (qG (nth t i).qw a)=true:=tr.2 ⟨by omega,by omega,by omega⟩
  unfold uO
  rw [h.qw _ hm,ha,this];rfl
theorem IV {N:Nat} (hN:pR≤N) {t:List pW} (hB:t.length<pR) (f:Int) (a:qa):xd N t f a=some (yC t f a):=by
  unfold xd yC
  simp only [wY hB,Ci hN,EA hN hB,B6,zP hN,Option.bind_some]
  cases ht:r7 t
  · rfl
  have hT:=xG.1 ht
  have hl:=hT.len
  have e:(uO (rk ⟨0,0,0⟩ t) a).2=(qX a&&qX (qG (ua t) a)):=by
    unfold uO ua
    rw [hT.sum,ht]
    simp only [if_true,Bool.true_and]
    cases qX a&&qX (qG (rk ⟨0,0,0⟩ t) a) <;> rfl
  rw [e]
  simp only [Bool.not_true,cond_false,Bool.true_and]
  cases hc:(qX a&&qX (qG (ua t) a))
  · rfl
  rw [Bool.and_eq_true] at hc
  have hs:qX (qG (rk ⟨0,0,0⟩ t) a)=true:=by
    have:=hc.2
    unfold ua at this
    rwa [ht,if_pos rfl] at this
  simp only [Bool.not_true,cond_false,if_true]
  cases hv:ri t f
  · simp only [Bool.not_false,cond_true,Option.bind_some,rl (l:=t) (i:=0) (by omega) (by omega),EP hT hc.1 hs (i:=0) ⟨by omega,by omega⟩ hT.Jp,Bool.false_eq_true,if_false];rfl
  · obtain ⟨f0,f4⟩:=tM hv
    have hlv:(nth t f).live=true:=by unfold ri at hv;rw [Bool.and_eq_true] at hv;exact hv.2
    simp only [Bool.not_true,cond_false,Option.bind_some,rl (l:=t) f0 (by omega),EP hT hc.1 hs (i:=f) ⟨f0,f4⟩ hlv,if_true];rfl
end Go.Kx
/- Plain laws: pN. No program in sight. -/
namespace Go.Kx
open Go
set_option linter.unusedVariables false
set_option linter.unusedSimpArgs false
set_option maxRecDepth 10000
theorem E1 {N:Nat} (hN:pR≤N) {w:List cd} (hl:w.length<pR) {F:cd→Option cd} (hF:∀ y,y ∈ w→F y=some y) :
    iter (fun (s8:Int×(List cd))=>(bif (decide (s8.1<(w.length:Int))) then ((idx w s8.1).bind fun y11=>(F y11).bind fun y41=>(app s8.2 [y41]).bind fun y57=>some (.inl (IntKind.i64.wrap (s8.1+1),y57))) else (some (.inr (s8.1,s8.2))):Option ((Int×(List cd))⊕(Int×(List cd))))) N (0,[])=some ((w.length:Int),w):=by
  have e:∀ (l:List cd) (k:Nat) (acc:List cd),foldI (fun _ (acc:List cd) y=>acc++[y]) k acc l=acc++l:=by
    intro l
    induction l with
    | nil=>intro k acc;simp [foldI]
    | cons y l ih=>intro k acc;unfold foldI;rw [ih];simp
  rw [show ((0:Int),([]:List cd))=(fun (k:Nat) (t:List cd)=>((k:Int),t)) 0 [] from rfl,
    tn w (fun (k:Nat) (t:List cd)=>((k:Int),t)) (fun _ acc y=>acc++[y]) (fun t=>((w.length:Int),t)) (fun k t=>t.length≤k) ?_ ?_ (Nat.lt_of_lt_of_le hl hN) (by simp),e]
  · simp
  · intro k t y hy hk ht
    refine ⟨?_,by simp;omega⟩
    simp only [qS hk,cond_true,qx,hy,Option.bind_some,hF y (List.mem_of_getElem? hy),qV (Nat.lt_trans hk hl),uq ht (Nat.lt_of_le_of_lt hk hl)]
  · intro t _
    simp only [qR,cond_false]
theorem HZ {N:Nat} (hN:pR≤N) {w:ql} (hb:qZ qm w.parts<pR):wx N w=some w:=by
  unfold wx
  rw [E1 hN (rQ hb) fun y hy=>Cv hN (rp hb hy)];rfl
theorem J0 {N:Nat} (hN:pR≤N) {w:ql} (hb:qZ qm w.parts<pR):yn N w=some w:=by
  unfold yn
  rw [E1 hN (rQ hb) fun y hy=>EU hN (rp hb hy)];rfl
def BV (a:qa) (w:Int):Int:=if w==0 then a.bh else if w==1 then a.pU else if w==2 then a.qc else 0
theorem Kf (N:Nat) (a:qa) (w:Int):yc N a w=some (BV a w):=by
  unfold yc BV
  cases w==0 <;> cases w==1 <;> cases w==2 <;> rfl
theorem JW (N:Nat) (a:qa) (w:Int):xZ N a w=some (BV a w):=by
  unfold xZ BV
  cases w==0 <;> cases w==1 <;> cases w==2 <;> rfl
end Go.Kx
/- Plain laws: a collector's step; what is collected. No program in sight. -/
namespace Go.Kx
open Go
set_option linter.unusedVariables false
set_option linter.unusedSimpArgs false
set_option maxRecDepth 10000
def Ac (h:qe) (k:Int):qe :=
  if (h.gc.phase==0)&&(((nth h.ag k).kind != 0)&&!(nth h.ag k).mark) then
    qe.mk (h.ag.set k.toNat (marked (nth h.ag k) true)) (rr.mk h.gc.phase h.gc.pos h.gc.round (if h.gc.j8.contains k then h.gc.j8 else h.gc.j8++[k]))
  else h
theorem Hr {l:List Int} {k:Int} (h:l.length+1<pR):app l [k]=some (l++[k]):=by
  unfold app;rw [if_pos (by simpa using h)]
theorem Mh {N:Nat} (hN:pR≤N) {h:qe} {k:Int} (h0:0≤k) (h1:k<(h.ag.length:Int)) (hg:h.gc.j8.length+1<pR):Ai N h k=some (Ac h k):=by
  have hg':h.gc.j8.length<pR:=by omega
  unfold Ai Ac
  rw [← Bool.cond_eq_ite]
  simp only [rl (l:=h.ag) h0 h1,zs hN hg',Hr hg,Option.bind_some,bne]
  cases h.gc.phase==0
  · rfl
  cases (nth h.ag k).kind==0
  · cases (nth h.ag k).mark
    · cases h.gc.j8.contains k <;> rfl
    · rfl
  · rfl
theorem JD {N:Nat} (hN:pR≤N) {h:qe} {k:Int} (h0:0≤k) (h1:k<(h.ag.length:Int)) (hg:h.gc.j8.length+1<pR):xy N h k=some (Ac h k):=by
  have hg':h.gc.j8.length<pR:=by omega
  unfold xy Ac
  rw [← Bool.cond_eq_ite]
  simp only [rl (l:=h.ag) h0 h1,BU hN hg',Hr hg,Option.bind_some,bne]
  cases h.gc.phase==0
  · rfl
  cases (nth h.ag k).kind==0
  · cases (nth h.ag k).mark
    · cases h.gc.j8.contains k <;> rfl
    · rfl
  · rfl
theorem I5 (h:qe) (k:Int):(Ac h k).gc.j8.length≤h.gc.j8.length+1:=by
  unfold Ac
  split
  · simp only
    split
    · exact Nat.le_succ _
    · simp
  · exact Nat.le_succ _
def ht (h:qe):List eg×Int×Int×Int×List Int:=(h.ag,h.gc.phase,h.gc.pos,h.gc.round,h.gc.j8)
def JM (h:qe) (now:Int):Bool:=(h.gc.pos != 0)&&(((nth h.ag h.gc.pos).kind != 0)&&(sy (nth h.ag h.gc.pos) now || !(nth h.ag h.gc.pos).mark))
def Oq (h:qe) (now:Int):List eg:=if JM h now then (J2 h.ag h.gc.pos).1 else h.ag.set h.gc.pos.toNat (marked (nth h.ag h.gc.pos) false)
theorem E4 {α:Type} {f:α→Nat} {z:α}:∀ {l:List α} {k:Nat} {y:α},l[k]?=some y→f z=f y→pQ f (l.set k z)=pQ f l
  | x::l,0,y,h,e=>by simp at h;subst h;simp [pQ,e]
  | x::l,k+1,y,h,e=>by
    simp only [List.set_cons_succ,pQ]
    rw [E4 (l:=l) (k:=k) (y:=y) (by simpa using h) e]
theorem Be {l:List eg} {i:Int} {z:eg} (h0:0≤i) (h1:i<(l.length:Int)) (e:qd z=qd (nth l i)):qZ qd (l.set i.toNat z)=qZ qd l:=by
  unfold qZ
  rw [E4 (zO h0 h1) e,List.length_set]
structure PR where
  n:Int
  tree:List pW
  heap:qe
def ct (k:Nat) (c:PR):Int×Int×List pW×List eg×Int×Int×Int×List Int:=(c.n,(k:Int),c.tree,c.heap.ag,c.heap.gc.phase,c.heap.gc.pos,c.heap.gc.round,c.heap.gc.j8)
end Go.Kx
/- Plain laws: what is split off, given and dropped in a tree. No program in sight. -/
namespace Go.Kx
open Go
set_option linter.unusedVariables false
set_option linter.unusedSimpArgs false
set_option maxRecDepth 10000
theorem Ns {t:List pW} {f:Int} {a:qa} (h:(rH t f a).2=false):(rH t f a).1=t:=by
  unfold rH at h ⊢
  split
  · rename_i q
    rw [if_pos q] at h
    split
    · rename_i q2
      rw [if_pos q2] at h
      cases h
    · rfl
  · rfl
theorem F7 {t:List pW} {f:Int} {a:qa} (h:(rH t f a).2=true):r7 t=true∧ri t f=true:=by
  unfold rH at h
  split at h
  · rename_i q
    simpa using q
  · cases h
theorem LB (t:List pW) (f:Int) (a:qa):(rH t f a).1.map pW.live=t.map pW.live:=by
  unfold rH
  split
  · rename_i q
    simp only [Bool.and_eq_true] at q
    obtain ⟨f0,f4⟩:=tM q.2
    have hl:=yN q.1
    split
    · rw [List.map_set]
      refine BS ?_
      rw [List.getElem?_map,zO f0 (by omega)]
      rfl
    · rfl
  · rfl
def Cb:Nat→List Bool→Option Nat
  | _,[]=>none
  | k,b::l=>if b then Cb (k+1) l else some k
theorem Ip {ρ:Type} (g:Nat→ρ) (r:ρ):∀ (l:List pW) (k:Nat),tg (fun k (_:Unit) (y:pW)=>if y.live then .inl () else .inr (g k)) (fun _=>r) k () l=(match Cb k (l.map pW.live) with | none=>r | some k=>g k)
  | [],k=>rfl
  | y::l,k=>by
    unfold tg
    simp only [List.map_cons,Cb]
    cases y.live
    · rfl
    · exact Ip g r l (k+1)
theorem GG {ρ:Type} {N:Nat} (hN:pR≤N) {x:List pW} (hx:x.length<pR) (g:Nat→ρ) (r:ρ) {body:Int→Option (Int⊕ρ)}
    (hs:∀ (k:Nat) (y:pW),x[k]?=some y→k<x.length→body (k:Int)=some (if y.live then .inl ((k+1:Nat):Int) else .inr (g k))) (he:body (x.length:Int)=some (.inr r)) :
    iter body N 0=some (match Cb 0 (x.map pW.live) with | none=>r | some k=>g k):=by
  rw [show (0:Int)=(fun (k:Nat) (_:Unit)=>(k:Int)) 0 () from rfl,
    uC x (fun (k:Nat) (_:Unit)=>(k:Int)) (fun k _ y=>if y.live then .inl () else .inr (g k)) (fun _=>r) (fun _ _=>True) ?_ ?_ (Nat.lt_of_lt_of_le hx hN) trivial,Ip]
  · intro k _ y hy hk _
    refine ⟨?_,fun _ _=>trivial⟩
    show body (k:Int)=_
    rw [hs k y hy hk]
    cases y.live <;> rfl
  · intro _ _
    exact he
def s5 (t:List pW) (f:Int) (a:qa):List pW×Int×Bool :=
  if (rH t f a).2 then (match Cb 0 (t.map pW.live) with | none=>(t,0,false) | some k=>((rH t f a).1.set k (pW.mk true f a),(k:Int),true)) else (t,0,false)
theorem FV (t:List pW) (f:Int) (a:qa):(s5 t f a).1.length=t.length:=by
  unfold s5
  split
  · split
    · rfl
    · simp only [List.length_set,tP]
  · rfl
theorem H5 {N:Nat} (hN:pR≤N) {t:List pW} (hB:t.length<pR) (f:Int) (a:qa):wy N t f a=some (s5 t f a):=by
  unfold wy s5
  simp only [CO hN hB,Option.bind_some]
  cases h:(rH t f a).2
  · simp only [Bool.not_false,cond_true,Ns h,Bool.false_eq_true,if_false]
  simp only [Bool.not_true,cond_false,if_true]
  rw [GG hN hB (fun k=>Sum.inr ((rH t f a).1.set k (pW.mk true f a),(k:Int),true)) (Sum.inl (t.length:Int))]
  · simp only [Option.bind_some]
    cases Cb 0 (t.map pW.live)
    · simp only [Sum.elim_inl,we hB,Option.bind_some]
    · rfl
  · intro k y hy hk
    have hp:=tP t f a
    simp only [qS hk,cond_true,qx,hy,Option.bind_some,qV (Nat.lt_trans hk hB),Int.toNat_natCast]
    cases y.live
    · have:((rH t f a).1[k]?)=some ((rH t f a).1[k]'(by omega)):=List.getElem?_eq_getElem (by omega)
      simp only [this,Bool.not_false,cond_true,Option.bind_some,Bool.false_eq_true,if_false]
    · simp only [Bool.not_true,cond_false,if_true]
  · simp only [qR,cond_false]
theorem HU {N:Nat} (hN:pR≤N) {t:List pW} (hB:t.length<pR) (f:Int) (a:qa):wq N t f a=some (s5 t f a):=by
  unfold wq s5
  simp only [Bw hN hB,Option.bind_some]
  cases h:(rH t f a).2
  · simp only [Bool.not_false,cond_true,wY hB,Option.bind_some,Bool.false_eq_true,if_false]
  have hp:=tP t f a
  simp only [Bool.not_true,cond_false,if_true]
  rw [GG (x:=(rH t f a).1) hN (by omega) (fun k=>Sum.inr ((rH t f a).1.set k (pW.mk true f a),(k:Int),true)) (Sum.inl ((rH t f a).1.length:Int)),LB]
  · simp only [Option.bind_some]
    cases Cb 0 (t.map pW.live)
    · simp only [Sum.elim_inl,wY hB,Option.bind_some]
    · rfl
  · intro k y hy hk
    simp only [qS hk,cond_true,qx,hy,Option.bind_some,qV (show k<pR by omega),Int.toNat_natCast]
    cases y.live <;> rfl
  · simp only [qR,cond_false]
def ue (t:List pW) (f g:Int) (a:qa):List pW×Bool:=if (rH t f a).2&&ri t g then yC (rH t f a).1 g a else (t,false)
theorem GH (t:List pW) (f g:Int) (a:qa):(ue t f g a).1.length=t.length:=by
  unfold ue
  split
  · rw [Hf,tP]
  · rfl
theorem Jy {N:Nat} (hN:pR≤N) {t:List pW} (hB:t.length<pR) (f g:Int) (a:qa):w5 N t f g a=some (ue t f g a):=by
  unfold w5 ue
  have hp:=tP t f a
  simp only [CO hN hB,Option.bind_some]
  cases h:(rH t f a).2
  · simp only [Bool.not_false,cond_true,we hB,Option.bind_some,Bool.false_and,Bool.false_eq_true,if_false]
  have hl:=yN (F7 h).1
  simp only [Bool.not_true,cond_false,yD N hl,Option.bind_some,Bool.true_and]
  cases ri t g
  · simp only [Bool.not_false,cond_true,we hB,Option.bind_some,Bool.false_eq_true,if_false]
  · simp only [Bool.not_true,cond_false,if_true,I7 hN (show (rH t f a).1.length<pR by omega),Option.bind_some]
theorem Ji {N:Nat} (hN:pR≤N) {t:List pW} (hB:t.length<pR) (f g:Int) (a:qa):xD N t f g a=some (ue t f g a):=by
  unfold xD ue
  have hp:=tP t f a
  simp only [zP hN,Bw hN hB,Option.bind_some]
  cases h:(rH t f a).2
  · cases r7 t&&ri t g <;> simp only [Bool.not_false,Bool.not_true,cond_true,cond_false,wY hB,Option.bind_some,Bool.false_and,Bool.false_eq_true,if_false]
  rw [(F7 h).1]
  simp only [Bool.true_and]
  cases ri t g
  · simp only [Bool.not_false,cond_true,wY hB,Option.bind_some,Bool.false_eq_true,if_false]
  · simp only [Bool.not_true,cond_false,if_true,IV hN (show (rH t f a).1.length<pR by omega),Option.bind_some]
theorem Ki {t:List pW} (h:Tr t) {i:Int} (hv:ri t i=true) (hi:i ≠ 0):0≤up t i∧up t i≤4∧up t i ≠ i∧(nth t (up t i)).live=true:=by
  obtain ⟨i0,i4⟩:=tM hv
  have hl:=h.len
  have hg:=zO (l:=t) i0 (by omega)
  have hlv:(nth t i).live=true:=by
    unfold ri at hv
    simp only [Bool.and_eq_true] at hv
    exact hv.2
  have h1:=h.lead i.toNat (nth t i) hg hlv
  rw [show ((i.toNat:Nat):Int)=i by omega] at h1
  have hne:up t i ≠ i:=fun q=>by rw [DH hi q] at h1;cases h1
  have h2:leads t 4 (up t i)=true:=by
    unfold leads at h1
    simpa [hi,hv] using h1
  by_cases hu:up t i=0
  · rw [hu]
    exact ⟨by omega,by omega,fun q=>hi q.symm,h.Jp⟩
  · unfold leads at h2
    have h3:ri t (up t i)=true:=by
      cases q:ri t (up t i)
      · simp [hu,q] at h2
      · rfl
    obtain ⟨a,b⟩:=tM h3
    unfold ri at h3
    simp only [Bool.and_eq_true] at h3
    exact ⟨a,b,hne,h3.2⟩
def EV (s:qa) (B:Int):Prop:=(0≤s.bh∧s.bh≤B)∧(0≤s.pU∧s.pU≤B)∧(0≤s.qc∧s.qc≤B)
theorem FC {s a:qa} {B:Int} (hs:EV s B) (ha:qX a=true) (hB:B≤1000000000):(qG s a).bh=s.bh+a.bh∧(qG s a).pU=s.pU+a.pU∧(qG s a).qc=s.qc+a.qc∧EV (qG s a) (B+1000000):=by
  have h:=tr.1 ha
  unfold EV at hs
  have w1:(qG s a).bh=s.bh+a.bh:=rN (by omega) (by omega)
  have w2:(qG s a).pU=s.pU+a.pU:=rN (by omega) (by omega)
  have w3:(qG s a).qc=s.qc+a.qc:=rN (by omega) (by omega)
  exact ⟨w1,w2,w3,⟨by omega,by omega⟩,⟨by omega,by omega⟩,⟨by omega,by omega⟩⟩
theorem DK:∀ (t:List pW) (s:qa) (B:Int),(∀ r,r ∈ t→qX r.qw=true)→0≤B→B+1000000 * (t.length:Int)≤1000000000→EV s B→∀ (k:Nat) (r:pW),t[k]?=some r→r.live=true →
    s.bh+r.qw.bh≤(rk s t).bh∧s.pU+r.qw.pU≤(rk s t).pU∧s.qc+r.qw.qc≤(rk s t).qc
  | [],s,B,_,_,_,_,k,r,hr,_=>by simp at hr
  | x::t,s,B,h,hB,hL,hs,k,r,hr,hv=>by
    have hx:=h x (by simp)
    simp only [List.length_cons] at hL
    obtain ⟨w1,w2,w3,w4⟩:=FC hs hx (by omega)
    have hx':=tr.1 hx
    have e:rk s (x::t)=rk (if x.live then qG s x.qw else s) t:=rfl
    rw [e]
    have ht:∀ r,r ∈ t→qX r.qw=true:=fun r hr=>h r (by simp [hr])
    match k with
    | 0 =>
      simp only [List.getElem?_cons_zero,Option.some.injEq] at hr
      subst hr
      rw [if_pos hv]
      obtain ⟨⟨a1,a2,a3⟩,_⟩:=AQ t (qG s x.qw) (B+1000000) ht (by omega) (by omega) w4.1 w4.2.1 w4.2.2
      exact ⟨by omega,by omega,by omega⟩
    | k+1 =>
      rw [List.getElem?_cons_succ] at hr
      cases hxl:x.live
      · exact DK t s B ht hB (by omega) hs k r hr hv
      · obtain ⟨a1,a2,a3⟩:=DK t (qG s x.qw) (B+1000000) ht (by omega) (by omega) w4 k r hr hv
        rw [if_pos rfl]
        exact ⟨by omega,by omega,by omega⟩
theorem B7:∀ (t:List pW) (s:qa) (B:Int),(∀ r,r ∈ t→qX r.qw=true)→0≤B→B+1000000 * (t.length:Int)≤1000000000→EV s B→∀ (k j:Nat) (r q:pW),k<j→t[k]?=some r→r.live=true→t[j]?=some q→q.live=true →
    r.qw.bh+q.qw.bh≤(rk s t).bh∧r.qw.pU+q.qw.pU≤(rk s t).pU∧r.qw.qc+q.qw.qc≤(rk s t).qc
  | [],s,B,_,_,_,_,k,j,r,q,_,hr,_,_,_=>by simp at hr
  | x::t,s,B,h,hB,hL,hs,k,j,r,q,hkj,hr,hv,hq,hw=>by
    have hx:=h x (by simp)
    simp only [List.length_cons] at hL
    obtain ⟨w1,w2,w3,w4⟩:=FC hs hx (by omega)
    have e:rk s (x::t)=rk (if x.live then qG s x.qw else s) t:=rfl
    rw [e]
    have ht:∀ r,r ∈ t→qX r.qw=true:=fun r hr=>h r (by simp [hr])
    unfold EV at hs
    match k,j,hkj with
    | 0,j+1,_ =>
      simp only [List.getElem?_cons_zero,Option.some.injEq] at hr
      subst hr
      rw [List.getElem?_cons_succ] at hq
      rw [if_pos hv]
      obtain ⟨a1,a2,a3⟩:=DK t (qG s x.qw) (B+1000000) ht (by omega) (by omega) w4 j q hq hw
      exact ⟨by omega,by omega,by omega⟩
    | k+1,j+1,hkj =>
      rw [List.getElem?_cons_succ] at hr hq
      cases hxl:x.live
      · exact B7 t s B ht hB (by omega) hs k j r q (by omega) hr hv hq hw
      · rw [if_pos rfl]
        exact B7 t (qG s x.qw) (B+1000000) ht (by omega) (by omega) w4 k j r q (by omega) hr hv hq hw
theorem Mj {t:List pW} (h:Tr t) {u i:Int} (hu:0≤u∧u≤4) (hi:0≤i∧i≤4) (hne:u ≠ i) (h1:(nth t u).live=true) (h2:(nth t i).live=true):uO (nth t u).qw (nth t i).qw=(qG (nth t u).qw (nth t i).qw,true):=by
  have hl:=h.len
  have z:EV ⟨0,0,0⟩ 0:=by unfold EV;decide
  have hS:=tr.1 h.sum
  have gu:=zO (l:=t) (i:=u) hu.1 (by omega)
  have gi:=zO (l:=t) (i:=i) hi.1 (by omega)
  have bu:=h.qw _ (List.mem_of_getElem? gu)
  have bi:=h.qw _ (List.mem_of_getElem? gi)
  have bu':=tr.1 bu
  have bi':=tr.1 bi
  have key:(nth t u).qw.bh+(nth t i).qw.bh≤(rk ⟨0,0,0⟩ t).bh∧(nth t u).qw.pU+(nth t i).qw.pU≤(rk ⟨0,0,0⟩ t).pU∧(nth t u).qw.qc+(nth t i).qw.qc≤(rk ⟨0,0,0⟩ t).qc:=by
    rcases Int.lt_or_gt_of_ne hne with q | q
    · exact B7 t ⟨0,0,0⟩ 0 h.qw (by omega) (by omega) z u.toNat i.toNat _ _ (by omega) gu h1 gi h2
    · obtain ⟨a,b,c⟩:=B7 t ⟨0,0,0⟩ 0 h.qw (by omega) (by omega) z i.toNat u.toNat _ _ (by omega) gi h2 gu h1
      exact ⟨by omega,by omega,by omega⟩
  have v1:(qG (nth t u).qw (nth t i).qw).bh=(nth t u).qw.bh+(nth t i).qw.bh:=rN (by omega) (by omega)
  have v2:(qG (nth t u).qw (nth t i).qw).pU=(nth t u).qw.pU+(nth t i).qw.pU:=rN (by omega) (by omega)
  have v3:(qG (nth t u).qw (nth t i).qw).qc=(nth t u).qw.qc+(nth t i).qw.qc:=rN (by omega) (by omega)
  have:qX (qG (nth t u).qw (nth t i).qw)=true:=tr.2 ⟨by omega,by omega,by omega⟩
  unfold uO
  rw [bu,bi,this];rfl
def Bj (i u:Int) (r:pW):pW:=if r.live&&(r.parent==i) then pW.mk r.live u r.qw else r
def dropped (t:List pW) (i:Int):List pW:=(t.set (up t i).toNat (EF (nth t (up t i)) (qG (nth t (up t i)).qw (nth t i).qw))).set i.toNat BA
def uf (t:List pW) (i:Int):List pW×Bool:=if (r7 t&&ri t i)&&(i != 0) then ((dropped t i).map (Bj i (up t i)),true) else (t,false)
theorem Hn (t:List pW) (i:Int):(uf t i).1.length=t.length:=by
  unfold uf dropped
  split <;> simp
theorem JE {N:Nat} (hN:pR≤N) {t:List pW} (hB:t.length<pR) (i:Int):xm N t i=some (uf t i):=by
  unfold xm uf
  simp only [wY hB,zP hN,Option.bind_some,sG]
  cases h:(r7 t&&ri t i)
  · rfl
  simp only [Bool.and_eq_true] at h
  have hT:=xG.1 h.1
  have hl:=hT.len
  cases hi:(i==0)
  case true=>simp only [Bool.not_true,Bool.or_true,cond_true,Bool.true_and,bne,hi,Bool.false_eq_true,if_false]
  have hi':i ≠ 0:=by simpa using hi
  obtain ⟨i0,i4⟩:=tM h.2
  obtain ⟨u0,u4,une,ulv⟩:=Ki hT h.2 hi'
  have ilv:(nth t i).live=true:=by
    have:=h.2
    unfold ri at this
    simp only [Bool.and_eq_true] at this
    exact this.2
  have eu:idx t (nth t i).parent=some (nth t (up t i)):=rl (i:=up t i) u0 (by omega)
  have ff:=Mj hT ⟨u0,u4⟩ ⟨i0,i4⟩ une ulv ilv
  have e2:∀ z,idx (t.set (nth t i).parent.toNat z) i=some (nth (t.set (nth t i).parent.toNat z) i):=fun z=>rl i0 (by simp only [List.length_set];omega)
  simp only [Bool.not_true,Bool.or_false,cond_false,rl (l:=t) i0 (by omega),eu,B6,ff,Option.bind_some,e2,bne,hi,Bool.not_false,Bool.and_self,if_true]
  rw [show (((t.set (nth t i).parent.toNat (pW.mk (nth t (up t i)).live (nth t (up t i)).parent (qa.mk (qG (nth t (up t i)).qw (nth t i).qw).bh (qG (nth t (up t i)).qw (nth t i).qw).pU (qG (nth t (up t i)).qw (nth t i).qw).qc))).set i.toNat (pW.mk false 0 (qa.mk 0 0 0))))=dropped t i from rfl]
  rw [G6 (dropped t i) (Bj i (up t i)) (show (dropped t i).length<N by unfold dropped;simp only [List.length_set];omega)]
  · rfl
  · intro k x y hx hty _ hk
    have hk':k<x.length:=by omega
    have hk2:k<t.length:=by unfold dropped at hk;simp only [List.length_set] at hk;omega
    simp only [qS hk',cond_true,qx,hty,Option.bind_some,tD,qV (show k<pR by omega),Int.toNat_natCast]
    unfold Bj
    cases (y.live&&(y.parent==i))
    · simp only [cond_false,Bool.false_eq_true,if_false,BS hty]
    · simp only [cond_true,if_true];rfl
  · intro x hx
    rw [← hx]
    simp only [qR,cond_false]
theorem Jf {N:Nat} (hN:pR≤N) {t:List pW} (hB:t.length<pR) (i:Int):xg N t i=some (uf t i):=by
  unfold xg uf
  simp only [we hB,zR hN,Option.bind_some]
  cases ht:r7 t
  · rfl
  have hT:=xG.1 ht
  have hl:=hT.len
  cases hi:(i==0)
  case true=>simp only [Bool.not_true,cond_false,cond_true,Option.bind_some,Bool.true_and,bne,hi,Bool.and_false,Bool.false_eq_true,if_false]
  have hi':i ≠ 0:=by simpa using hi
  simp only [Bool.not_true,cond_false,yD N hl,Option.bind_some]
  cases hv:ri t i
  · rfl
  obtain ⟨i0,i4⟩:=tM hv
  obtain ⟨u0,u4,une,ulv⟩:=Ki hT hv hi'
  have eu:idx t (nth t i).parent=some (nth t (up t i)):=rl (i:=up t i) u0 (by omega)
  have e2:∀ z,idx (t.set (nth t i).parent.toNat z) i=some (nth (t.set (nth t i).parent.toNat z) i):=fun z=>rl i0 (by simp only [List.length_set];omega)
  simp only [Bool.not_true,cond_false,rl (l:=t) i0 (by omega),eu,zK,Option.bind_some,e2,bne,hi,Bool.not_false,Bool.and_self,if_true]
  rw [show (((t.set (nth t i).parent.toNat (pW.mk (nth t (up t i)).live (nth t (up t i)).parent (qG (nth t (up t i)).qw (nth t i).qw))).set i.toNat (pW.mk false 0 (qa.mk 0 0 0))))=dropped t i from rfl]
  rw [G6 (dropped t i) (Bj i (up t i)) (show (dropped t i).length<N by unfold dropped;simp only [List.length_set];omega)]
  · rfl
  · intro k x y hx hty _ hk
    have hk':k<t.length:=by unfold dropped at hk;simp only [List.length_set] at hk;omega
    simp only [qS hk',cond_true,qx,hty,Option.bind_some,tD,qV (show k<pR by omega),Int.toNat_natCast]
    unfold Bj
    cases (y.live&&(y.parent==i))
    · simp only [cond_false,Bool.false_eq_true,if_false,BS hty]
    · simp only [cond_true,if_true];rfl
  · intro x hx
    rw [show (dropped t i).length=t.length by unfold dropped;simp only [List.length_set]]
    simp only [qR,cond_false]
end Go.Kx
