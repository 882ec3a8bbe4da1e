import Derived.Test.YtlcgibcdiikheaaGreatLPay
namespace Go.Kx
open Go
open Go.IntKind (i64)
set_option linter.unusedVariables false
set_option linter.unusedSimpArgs false
set_option maxRecDepth 10000
theorem Im {N:Nat} (hN:pW≤N) {w:List cd} (hl:w.length<pW) {F:cd→Option cd} (hF:∀ y,y ∈ w→F y=some y) :
    iter (fun (s8:Int×(List cd))=>(bif (decide (s8.1<(w.length:Int))) then ((idx w s8.1).bind fun y11=>(F y11).bind fun y41=>(app s8.2 [y41]).bind fun y57=>some (.inl (i64.wrap (s8.1+1),y57))) else (some (.inr (s8.1,s8.2))):Option ((Int×(List cd))⊕(Int×(List cd))))) N (0,[])=some ((w.length:Int),w):=by
  have e:∀ (l:List cd) (k:Nat) (acc:List cd),foldI (fun _ (acc:List cd) y=>acc++[y]) k acc l=acc++l:=by
    intro l
    induction l with
    | nil=>intro k acc;simp [foldI]
    | cons y l ih=>intro k acc;unfold foldI;rw [ih];simp
  rw [show ((0:Int),([]:List cd))=(fun (k:Nat) (t:List cd)=>((k:Int),t)) 0 [] from rfl,
    sC w (fun (k:Nat) (t:List cd)=>((k:Int),t)) (fun _ acc y=>acc++[y]) (fun t=>((w.length:Int),t)) (fun k t=>t.length≤k) ?_ ?_ (Nat.lt_of_lt_of_le hl hN) (by simp),e]
  · simp
  · intro k t y hy hk ht;refine ⟨?_,by simp;omega⟩;simp only [qQ hk,Vy,qv,hy,Vw,hF y (List.mem_of_getElem? hy),qV (Nat.lt_trans hk hl),tQ ht (Nat.lt_of_le_of_lt hk hl)]
  · intro t _;simp only [qR,Vx]
theorem zZ {N:Nat} (hN:pW≤N) {w:qi} (hb:qU qh w.parts<pW):tZ N w=some w:=by
  unfold tZ;rw [Im hN (rS hb) fun y hy=>xR hN (rE hb hy)];rfl
theorem BZ {N:Nat} (hN:pW≤N) {w:qi} (hb:qU qh w.parts<pW):u5 N w=some w:=by
  unfold u5;rw [Im hN (rS hb) fun y hy=>At hN (rE hb hy)];rfl
theorem H6 {N:Nat} (hN:pW≤N) {w:List qF} (hl:w.length<pW) {F:List qc→Option (List qc)} (hF:∀ y,y ∈ w→F y.Vt=some y.Vt) :
    iter (fun (s4:(List qF)×Int)=>(bif (decide (s4.2<(w.length:Int))) then ((idx w s4.2).bind fun y7=>(F y7.Vt).bind fun y22=>(app s4.1 [qF.mk y22]).bind fun y26=>some (.inl (y26,i64.wrap (s4.2+1)))) else (some (.inr (s4.1,s4.2))):Option (((List qF)×Int)⊕((List qF)×Int)))) N ([],0)=some (w,(w.length:Int)):=by
  rw [wK w (fun _ _=>true) (fun _ y=>y) hl hN]
  · rw [xn (fun _=>true) w 0];simp
  · intro k t y hy hk ht;simp only [qQ hk,Vy,qv,hy,Vw,hF y (List.mem_of_getElem? hy),qV (Nat.lt_trans hk hl),tQ ht (Nat.lt_of_le_of_lt hk hl),if_true]
  · intro t;simp only [qR,Vx]
def xq (ts:List qF):Prop:=ts.length<pW∧∀ t,t ∈ ts→t.Vt.length<pW
theorem Lt {N:Nat} (hN:pW≤N) {ts:List qF} (h:xq ts):wq N ts=some ts:=by
  unfold wq;rw [H6 hN h.1 fun y hy=>wV (h.2 y hy)];rfl
theorem P3 {N:Nat} (hN:pW≤N) {ts:List qF} (h:xq ts):zl N ts=some ts:=by
  unfold zl;rw [H6 hN h.1 fun y hy=>w5 (h.2 y hy)];rfl
def te (a:qj) (w:Int):Int:=if w==0 then a.gE else if w==1 then a.qa else if w==2 then a.qg else 0
theorem H9 (N:Nat) (a:qj) (w:Int):yv N a w=some (te a w):=by
  unfold yv te;cases w==0<;>cases w==1<;>cases w==2<;>rfl
theorem Il (N:Nat) (a:qj) (w:Int):yp N a w=some (te a w):=by
  unfold yp te;cases w==0<;>cases w==1<;>cases w==2<;>rfl
def uO (t:qB) (n:Int):Int:=if t.Vc==1 then (if n<t.sq then n else t.sq) else i64.wrap (Int.tdiv (i64.wrap (t.sq * n)) 100)
def zu (t:qB) (a:qj):Int:=if td t&&re a then uO t (te a t.sc) else 0
theorem OT (N:Nat) (t:qB) (a:qj):zV N t a=some (zu t a):=by
  unfold zV zu uO;simp only [FE,yr,Vw,sA,H9];cases td t
  · rfl
  cases re a
  · rfl
  cases t.Vc==1<;>rfl
theorem N7 (N:Nat) (t:qB) (a:qj):zS N t a=some (zu t a):=by
  unfold zS zu uO;simp only [Fv,zt,Vw,sA,Il];cases td t
  · rfl
  cases re a
  · rfl
  cases t.Vc==1
  · simp only [Vz,Bool.or_self,Vx,Bool.and_self,if_true,Bool.false_eq_true,if_false];rw [Int.mul_comm]
  · simp only [Vz,Bool.or_self,Vx,Vy,Bool.and_self,if_true];congr 1;split<;>split<;>omega
theorem Gp {t:qB} {n:Int} (ht:td t=true) (h0:0≤n) (h1:n≤1000000):0≤uO t n∧uO t n≤n:=by
  unfold td at ht;simp only [VB,Bool.or_eq_true,rk,beq_iff_eq] at ht;unfold uO
  rcases ht.2 with ⟨hk,r0,r1⟩ | ⟨hk,r0,r1⟩
  · rw [hk];simp only [beq_self_eq_true,if_true];split<;>omega
  · rw [hk,show ((2:Int)==1)=false from rfl];simp only [Bool.false_eq_true,if_false];have m1:0≤t.sq * n:=Int.mul_nonneg r0 h0;have m2:t.sq * n≤100 * n:=Int.mul_le_mul_of_nonneg_right r1 h0;rw [rG (n:=t.sq * n) (by omega) (by omega),Int.tdiv_eq_ediv_of_nonneg m1]
    have d0:0≤t.sq * n / 100:=by omega
    have d1:t.sq * n / 100≤n:=by omega
    rw [rG (by omega) (by omega)];exact ⟨d0,d1⟩
theorem Ok {t:qB} {a:qj} (ht:td t=true) (ha:re a=true):vP (tW t.sc (zu t a)) a=true:=by
  unfold zu;rw [ht,ha];simp only [Bool.and_self,if_true];have ht':=ht;unfold td at ht';simp only [VB,rk] at ht';have ha':=tq.1 ha
  have hw:t.sc=0∨t.sc=1∨t.sc=2:=by omega
  unfold vP;rw [ha]
  rcases hw with e | e | e<;>rw [e]
  · obtain ⟨q0,q1⟩:=Gp ht (n:=te a 0) ha'.1.1 ha'.1.2;have q2:uO t (te a 0)≤a.gE:=q1;have:re (tW 0 (uO t (te a 0)))=true:=tq.2 (show (0≤uO t (te a 0)∧uO t (te a 0)≤1000000)∧(0≤(0:Int)∧(0:Int)≤1000000)∧(0≤(0:Int)∧(0:Int)≤1000000) from ⟨⟨q0,by omega⟩,by decide,by decide⟩);rw [this];simp only [VA,VB,decide_eq_true_eq];exact ⟨q2,ha'.2.1.1,ha'.2.2.1⟩
  · obtain ⟨q0,q1⟩:=Gp ht (n:=te a 1) ha'.2.1.1 ha'.2.1.2;have q2:uO t (te a 1)≤a.qa:=q1;have:re (tW 1 (uO t (te a 1)))=true:=tq.2 (show (0≤(0:Int)∧(0:Int)≤1000000)∧(0≤uO t (te a 1)∧uO t (te a 1)≤1000000)∧(0≤(0:Int)∧(0:Int)≤1000000) from ⟨by decide,⟨q0,by omega⟩,by decide⟩);rw [this];simp only [VA,VB,decide_eq_true_eq];exact ⟨ha'.1.1,q2,ha'.2.2.1⟩
  · obtain ⟨q0,q1⟩:=Gp ht (n:=te a 2) ha'.2.2.1 ha'.2.2.2;have q2:uO t (te a 2)≤a.qg:=q1;have:re (tW 2 (uO t (te a 2)))=true:=tq.2 (show (0≤(0:Int)∧(0:Int)≤1000000)∧(0≤(0:Int)∧(0:Int)≤1000000)∧(0≤uO t (te a 2)∧uO t (te a 2)≤1000000) from ⟨by decide,by decide,⟨q0,by omega⟩⟩);rw [this];simp only [VA,VB,decide_eq_true_eq];exact ⟨ha'.1.1,ha'.2.1.1,q2⟩
def vO (ts:List qF):Bool:=ts.all fun t=>r9 t.Vt
def sn (ts:List qF) (p:Int) (t:qB):Bool :=
  vO ts&&(!decide ((ts.length:Int) > 3)&&(td t&&(qn p 0 ((ts.length:Int) - 1)&&(!decide (t.rJ ≥ (ts.length:Int))&&ru (nth ts p).Vt t.Vp))))
def CY (ts:List qF) (p:Int) (t:qB):Int:=zu t (nth (nth ts p).Vt t.Vp).qI
def wo (ts:List qF) (p:Int) (t:qB):List qF:=ts.set p.toNat (qF.mk (rK (nth ts p).Vt t.Vp (tW t.sc (CY ts p t))).1)
def yw (ts:List qF) (p:Int) (t:qB):List qc×Bool:=xO (nth (wo ts p t) t.rJ).Vt t.sX (tW t.sc (CY ts p t))
def sZ (ts:List qF) (p:Int) (t:qB):List qF×Int :=
  if sn ts p t&&(yw ts p t).2 then ((wo ts p t).set t.rJ.toNat (qF.mk (yw ts p t).1),CY ts p t) else (ts,0)
theorem Oo {ts:List qF} (h:xq ts) {k:Nat} {t:List qc} (ht:t.length<pW):xq (ts.set k (qF.mk t)):=by
  refine ⟨by rw [List.length_set];exact h.1,fun y hy=>?_⟩
  rcases List.mem_or_eq_of_mem_set hy with h1 | h1
  · exact h.2 y h1
  · subst h1;exact ht
theorem HE {ts:List qF} {p:Int} (h:vO ts=true) (h0:0≤p) (h1:p<(ts.length:Int)):r9 (nth ts p).Vt=true:=by
  unfold vO at h;rw [List.all_eq_true] at h;exact h _ (tP h0 h1)
theorem Cs {ts:List qF} {p:Int} {t:qB} (h:sn ts p t=true):vO ts=true∧td t=true∧(0≤p∧p<(ts.length:Int))∧(0≤t.rJ∧t.rJ<(ts.length:Int))∧ru (nth ts p).Vt t.Vp=true:=by
  unfold sn at h;simp only [VB,Bool.not_eq_true',decide_eq_false_iff_not,rk] at h;obtain ⟨h1,_,h2,h3,h4,h5⟩:=h;have h2':=h2;unfold td at h2';simp only [VB,rk] at h2';exact ⟨h1,h2,⟨h3.1,by omega⟩,⟨h2'.1.2.1.1,by omega⟩,h5⟩
theorem Tb {ts:List qF} {p:Int} {t:qB} (h:sn ts p t=true):(rK (nth ts p).Vt t.Vp (tW t.sc (CY ts p t))).2=true:=by
  obtain ⟨h1,h2,⟨p0,p1⟩,_,h5⟩:=Cs h;have ho:=HE h1 p0 p1;obtain ⟨f0,f4⟩:=tM h5
  have hb:re (nth (nth ts p).Vt t.Vp).qI=true:=by
    have hT:=ho;have hl:=xp ho;unfold r9 at hT;simp only [VB] at hT;have hP:=vX.1 hT.2.2.2.1 t.Vp.toNat _ (xl f0 (by omega))
    have hv:(nth (nth ts p).Vt t.Vp).Vs=true:=by
      unfold ru at h5;rw [VB] at h5;exact h5.2
    unfold xK at hP;rw [hv,if_pos rfl,VB] at hP;exact hP.1
  unfold rK;rw [ho,h5];simp only [Bool.and_self,if_true];rw [show vP (tW t.sc (CY ts p t)) (nth (nth ts p).Vt t.Vp).qI=true from Ok h2 hb];rfl
theorem Hq {ts:List qF} (h:xq ts) {p:Int} (p0:0≤p) (p1:p<(ts.length:Int)) (t:qB):xq (wo ts p t) :=
  Oo h (by rw [tL];exact h.2 _ (tP p0 p1))
theorem CO (ts:List qF) (p:Int) (t:qB):(wo ts p t).length=ts.length:=by unfold wo;rw [List.length_set]
theorem O5 {N:Nat} (hN:pW≤N) {ts:List qF} (h:xq ts) (p:Int) (t:qB):z4 N ts p t=some (sZ ts p t):=by
  have hl:=h.1;have hB:(16777216:Nat)=pW:=rfl;unfold z4;simp only [Lt hN h,Vw];rw [sj ts (fun _ t=>r9 t.Vt) (.inl (ts.length:Int)) (.inr (ts,0)) (Nat.lt_of_lt_of_le hl hN),sE]
  · simp only [Vw,FE,uA,rG (n:=(ts.length:Int) - 1) (by omega) (by omega)];cases h1:ts.all (fun t=>r9 t.Vt)
    · have:sn ts p t=false:=by unfold sn vO;rw [h1];rfl
      unfold sZ;rw [this];rfl
    cases h2:decide ((ts.length:Int) > 3)
    case true =>
      have:sn ts p t=false:=by unfold sn vO;rw [h1,h2];rfl
      unfold sZ;rw [this];rfl
    cases h3:td t
    · have:sn ts p t=false:=by unfold sn vO;rw [h1,h2,h3];rfl
      unfold sZ;rw [this];rfl
    cases h4:qn p 0 ((ts.length:Int) - 1)
    · have:sn ts p t=false:=by unfold sn vO;rw [h1,h2,h3,h4];rfl
      unfold sZ;rw [this];rfl
    cases h5:decide (t.rJ ≥ (ts.length:Int))
    case true =>
      have:sn ts p t=false:=by unfold sn vO;rw [h1,h2,h3,h4,h5];rfl
      unfold sZ;rw [this];rfl
    rw [rk] at h4
    have p1:p<(ts.length:Int):=by omega
    have ho:=HE (ts:=ts) h1 h4.1 p1;have h5l:=xp ho;simp only [if_true,Sum.elim_inl,Vz,Vx,ri (l:=ts) h4.1 p1,Vw,yW N h5l];cases h6:ru (nth ts p).Vt t.Vp
    · have:sn ts p t=false:=by unfold sn;rw [h6];simp
      unfold sZ;rw [this];rfl
    have hm:sn ts p t=true:=by unfold sn vO;rw [h1,h2,h3,h5,h6,rk.2 h4];rfl
    obtain ⟨_,_,_,⟨q0,q1⟩,_⟩:=Cs hm;obtain ⟨f0,f4⟩:=tM h6
    simp only [Vz,Vx,ri (l:=(nth ts p).Vt) f0 (by omega),Vw,OT,D6,BV hN (h.2 _ (tP h4.1 p1)),
      show zu t (nth (nth ts p).Vt t.Vp).qI=CY ts p t from rfl,Tb hm,show ts.set p.toNat (qF.mk (rK (nth ts p).Vt t.Vp (tW t.sc (CY ts p t))).1)=wo ts p t from rfl,
      ri (l:=wo ts p t) q0 (by rw [CO];exact q1),Eg hN ((Hq h h4.1 p1 t).2 _ (tP q0 (by rw [CO];exact q1)))]
    unfold sZ;rw [hm]
    show (bif !(yw ts p t).2 then some (ts,0) else some ((wo ts p t).set t.rJ.toNat (qF.mk (yw ts p t).1),CY ts p t))=_
    cases (yw ts p t).2<;>rfl
  · intro k y hy hk;simp only [qQ hk,Vy,qv,hy,Vw,Ae hN,qV (Nat.lt_trans hk hl)];cases r9 y.Vt<;>rfl
  · simp only [qR,Vx]
theorem Ot {N:Nat} (hN:pW≤N) {ts:List qF} (h:xq ts) (p:Int) (t:qB):zJ N ts p t=some (sZ ts p t):=by
  have hl:=h.1;have hB:(16777216:Nat)=pW:=rfl
  have hok:CJ N ts=some (vO ts&&decide ((ts.length:Int)≤3)):=by
    unfold CJ vO;rw [sj ts (fun _ t=>r9 t.Vt) (.inl (ts.length:Int)) (.inr false) (Nat.lt_of_lt_of_le hl hN),sE]
    · cases ts.all (fun t=>r9 t.Vt)<;>rfl
    · intro k y hy hk;simp only [qQ hk,Vy,qv,hy,Vw,C1 hN,qV (Nat.lt_trans hk hl)];cases r9 y.Vt<;>rfl
    · simp only [qR,Vx]
  unfold zJ;simp only [P3 hN h,hok,Vw,Fv,ua,rG (n:=(ts.length:Int) - 1) (by omega) (by omega)]
  have h2e:decide ((ts.length:Int)≤3)=!decide ((ts.length:Int) > 3):=by
    by_cases hc:(ts.length:Int)≤3<;>simp [hc]
    omega
  rw [h2e];cases h1:vO ts
  · have:sn ts p t=false:=by unfold sn;rw [h1];rfl
    unfold sZ;rw [this];rfl
  cases h2:decide ((ts.length:Int) > 3)
  case true =>
    have:sn ts p t=false:=by unfold sn;rw [h1,h2];rfl
    unfold sZ;rw [this];rfl
  cases h3:td t
  · have:sn ts p t=false:=by unfold sn;rw [h1,h2,h3];rfl
    unfold sZ;rw [this];rfl
  cases h4:qn p 0 ((ts.length:Int) - 1)
  · have:sn ts p t=false:=by unfold sn;rw [h1,h2,h3,h4];rfl
    unfold sZ;rw [this];rfl
  cases h5:decide (t.rJ ≥ (ts.length:Int))
  case true =>
    have:sn ts p t=false:=by unfold sn;rw [h1,h2,h3,h4,h5];rfl
    unfold sZ;rw [this];rfl
  rw [rk] at h4
  have p1:p<(ts.length:Int):=by omega
  have ho:=HE (ts:=ts) h1 h4.1 p1;have h5l:=xp ho;simp only [Vz,Bool.not_false,Bool.and_self,Vx,ri (l:=ts) h4.1 p1,Vw,Af hN,ho,VA];cases h6:ru (nth ts p).Vt t.Vp
  · have:sn ts p t=false:=by unfold sn;rw [h6];simp
    unfold sZ;rw [this];rfl
  have hm:sn ts p t=true:=by unfold sn;rw [h1,h2,h3,h5,h6,rk.2 h4];rfl
  obtain ⟨_,_,_,⟨q0,q1⟩,_⟩:=Cs hm;obtain ⟨f0,f4⟩:=tM h6
  simp only [Vz,Vx,ri (l:=(nth ts p).Vt) f0 (by omega),Vw,N7,Kb,Az hN (h.2 _ (tP h4.1 p1)),
    show zu t (nth (nth ts p).Vt t.Vp).qI=CY ts p t from rfl,show ts.set p.toNat (qF.mk (rK (nth ts p).Vt t.Vp (tW t.sc (CY ts p t))).1)=wo ts p t from rfl,
    ri (l:=wo ts p t) q0 (by rw [CO];exact q1),D8 hN ((Hq h h4.1 p1 t).2 _ (tP q0 (by rw [CO];exact q1)))]
  unfold sZ;rw [hm]
  show (bif !(yw ts p t).2 then some (ts,0) else some ((wo ts p t).set t.rJ.toNat (qF.mk (yw ts p t).1),CY ts p t))=_
  cases (yw ts p t).2<;>rfl
def lens (ts:List qF):List Nat:=ts.map fun t=>t.Vt.length
theorem JD {ts:List qF} {k:Nat} {y:qF} {t:List qc} (hy:ts[k]?=some y) (ht:t.length=y.Vt.length):lens (ts.set k (qF.mk t))=lens ts:=by
  unfold lens;rw [List.map_set]
  show (ts.map fun t=>t.Vt.length).set k t.length=_
  rw [ht];apply vR;rw [List.getElem?_map,hy];rfl
theorem EF (ts:List qF) (p:Int) (t:qB):lens (sZ ts p t).1=lens ts:=by
  unfold sZ;split
  · rename_i h;rw [VB] at h;obtain ⟨_,_,⟨p0,p1⟩,⟨q0,q1⟩,_⟩:=Cs h.1
    show lens ((wo ts p t).set t.rJ.toNat (qF.mk (yw ts p t).1))=_
    refine (JD (xl q0 (by rw [CO];exact q1)) (show (yw ts p t).1.length=_ from CI _ _ _)).trans ?_;exact JD (xl p0 p1) (tL _ _ _)
  · rfl
theorem Hc {ts us:List qF} (h:xq ts) (e:lens us=lens ts):xq us:=by
  have hl:us.length=ts.length:=by
    have:=congrArg List.length e;unfold lens at this
    rwa [List.length_map,List.length_map] at this
  refine ⟨by rw [hl];exact h.1,fun y hy=>?_⟩;have hm:y.Vt.length ∈ lens us:=List.mem_map.2 ⟨y,hy,rfl⟩;rw [e] at hm;obtain ⟨z,hz,hzz⟩:=List.mem_map.1 hm;rw [← hzz];exact h.2 z hz
def DK (ts:List qF) (p:Int) (pU:List qB):List qF:=pU.foldl (fun ts t=>(sZ ts p t).1) ts
theorem Bu (p:Int):∀ (pU:List qB) (ts:List qF),lens (DK ts p pU)=lens ts
  | [],_=>rfl
  | t::pU,ts=>(Bu p pU (sZ ts p t).1).trans (EF ts p t)
theorem J3 {N:Nat} (hN:pW≤N) {pU:List qB} (hl:pU.length<pW) {ts:List qF} (h:xq ts) {p:Int} {F:List qF→qB→Option (List qF×Int)} (hF:∀ ts t,xq ts→F ts t=some (sZ ts p t)) :
    iter (fun (s94:(List qF)×Int)=>(bif (decide (s94.2<(pU.length:Int))) then ((idx pU s94.2).bind fun y97=>(F s94.1 y97).bind fun y109=>some (.inl (y109.1,i64.wrap (s94.2+1)))) else (some (.inr (s94.1,s94.2))):Option (((List qF)×Int)⊕((List qF)×Int)))) N (ts,0)=some (DK ts p pU,(pU.length:Int)):=by
  rw [show (ts,(0:Int))=(fun (k:Nat) (t:List qF)=>(t,(k:Int))) 0 ts from rfl,
    sC pU (fun (k:Nat) (t:List qF)=>(t,(k:Int))) (fun _ ts t=>(sZ ts p t).1) (fun t=>(t,(pU.length:Int))) (fun _ t=>lens t=lens ts) ?_ ?_ (Nat.lt_of_lt_of_le hl hN) rfl,tJ]
  · rfl
  · intro k t y hy hk ht;refine ⟨?_,(EF t p y).trans ht⟩;simp only [qQ hk,Vy,qv,hy,Vw,hF t y (Hc h ht),qV (Nat.lt_trans hk hl)]
  · intro t _;simp only [qR,Vx]
def qz (w:qi) (p:Int):qi:=if rT w&&rp w p then qi.mk w.Vo (sO w.parts (tS (DK (sQ w.parts) p (nth w.parts p).pU))) else w
theorem DA {l:List cd} (hb:qU qh l<pW):xq (sQ l):=by
  refine ⟨by unfold sQ tj;rw [List.length_map,List.length_map];exact rS hb,fun t ht=>?_⟩;unfold sQ tj at ht;rw [List.map_map] at ht;obtain ⟨p,hp,rfl⟩:=List.mem_map.1 ht;exact (sm (rE hb hp)).2.2.1
theorem D2 {l:List cd} {p:Int} {pU:List qB}:(DK (sQ l) p pU).length=l.length:=by
  have:=congrArg List.length (Bu p pU (sQ l));unfold lens sQ tj at this;rw [List.length_map,List.length_map,List.length_map,List.length_map] at this;exact this
theorem M4 {N:Nat} (hN:pW≤N) {w:qi} (hb:qU qh w.parts<pW) (p:Int):yD N w p=some (qz w p):=by
  unfold yD qz;simp only [zZ hN hb,Dq hN hb,Du (rS hb),Vw,sA];cases hw:rT w
  · rfl
  cases hp:rp w p
  · rfl
  obtain ⟨e,hm⟩:=r8 hp;have hl:=rS hb;have ht:(nth w.parts p).pU.length<pW:=(sm (rE hb hm)).2.2.2.2.2;simp only [Vz,Bool.or_self,Vx,Bool.and_self,if_true,decide_eq_true (Nat.lt_of_lt_of_le hl hN),decide_eq_true hl,e,Vw];rw [show (gd true).bind=fun (k:Unit→Option qi)=>k () from rfl];simp only [];rw [J3 hN ht (DA hb) (p:=p) (fun ts t h=>O5 hN h p t)];simp only [Vw,D2,decide_true];rfl
theorem NW {N:Nat} (hN:pW≤N) {ts:List qF} {n:Nat} (hn:ts.length=n) (hl:ts.length<pW) {F:List qc→Option (List qc)} (hF:∀ y,y ∈ ts→F y.Vt=some y.Vt) :
    iter (fun (s114:Int×(List (List qc)))=>(bif (decide (s114.1<(n:Int))) then ((idx ts s114.1).bind fun y117=>(F y117.Vt).bind fun y133=>some (.inl (i64.wrap (s114.1+1),s114.2++[y133]))) else (some (.inr (s114.1,s114.2))):Option ((Int×(List (List qc)))⊕(Int×(List (List qc)))))) N (0,[])=some ((n:Int),tS ts):=by
  subst hn
  have e:∀ (l:List qF) (k:Nat) (acc:List (List qc)),foldI (fun _ (acc:List (List qc)) (y:qF)=>acc++[y.Vt]) k acc l=acc++tS l:=by
    intro l
    induction l with
    | nil=>intro k acc;simp [foldI,tS]
    | cons y l ih=>intro k acc;unfold foldI;rw [ih];simp [tS]
  rw [show ((0:Int),([]:List (List qc)))=(fun (k:Nat) (t:List (List qc))=>((k:Int),t)) 0 [] from rfl,
    sC ts (fun (k:Nat) (t:List (List qc))=>((k:Int),t)) (fun _ acc y=>acc++[y.Vt]) (fun t=>((ts.length:Int),t)) (fun _ _=>True) ?_ ?_ (Nat.lt_of_lt_of_le hl hN) trivial,e]
  · rfl
  · intro k t y hy hk _;refine ⟨?_,trivial⟩;simp only [qQ hk,Vy,qv,hy,Vw,hF y (List.mem_of_getElem? hy),qV (Nat.lt_trans hk hl)]
  · intro t _;simp only [qR,Vx]
theorem Nn {N:Nat} (hN:pW≤N) {w:qi} (hb:qU qh w.parts<pW) (hW:wW w.parts) (p:Int):yB N w p=some (qz w p):=by
  have hl:=rS hb;have hB:(16777216:Nat)=pW:=rfl;unfold yB qz;simp only [BZ hN hb,Dg hN hb hW,ua,rG (n:=(w.parts.length:Int) - 1) (by omega) (by omega),Vw,sA];cases hw:rT w
  · rfl
  rw [show qn p 0 ((w.parts.length:Int) - 1)=rp w p from rfl];cases hp:rp w p
  · rfl
  obtain ⟨e,hm⟩:=r8 hp;have ht:(nth w.parts p).pU.length<pW:=(sm (rE hb hm)).2.2.2.2.2;have hs:=Hc (DA hb) (Bu p (nth w.parts p).pU (sQ w.parts));simp only [Vz,Bool.or_self,Vx,Bool.and_self,if_true,decide_eq_true (Nat.lt_of_lt_of_le hl hN),decide_eq_true hl,e,Vw];rw [show (gd true).bind=fun (k:Unit→Option qi)=>k () from rfl];simp only [];rw [J3 hN ht (DA hb) (p:=p) (fun ts t h=>Ot hN h p t)];simp only [Vw,D2,decide_true];rw [show (gd true).bind=fun (k:Unit→Option qi)=>k () from rfl];simp only [];rw [NW hN D2 hs.1 fun y hy=>w5 (hs.2 y hy)];rfl
end Go.Kx
namespace Go.Kx
open Go
open Go.IntKind (i64)
set_option linter.unusedVariables false
set_option linter.unusedSimpArgs false
set_option maxRecDepth 10000
theorem LO {l:List j8} (h:wA l) (i:Int):wg (nth l i):=by
  unfold nth
  cases e:l[i.toNat]? with
  | none=>show (-9223372036854775808:Int)≤0;decide
  | some o=>exact h o (List.mem_of_getElem? e)
theorem GM {p:cd} (h:wP p) (now:Int):wP (sx p now):=by
  unfold sx;split
  · show wA (BQ p now)
    unfold BQ;split
    · exact s6 h (LO h _)
    · exact h
  · exact h
theorem Jp {p:cd} (h:wP p) (me now:Int):wP (tF p me now):=by
  unfold tF;split
  · intro o ho;obtain ⟨x,hx,rfl⟩:=List.mem_map.1 (show o ∈ p.U7.ag.map _ from ho);split
    · show (-9223372036854775808:Int)≤0;decide
    · exact h x hx
  · exact h
theorem Tx {p:cd} (h:wP p) (now:Int):wP (xy p now).1:=by
  unfold xy;split
  · split
    · exact h
    · exact s6 h (LO h (ue p now))
  · exact h
def xj (p:cd) (i now:Int):cd:=(tf (tF (sx p now) i now) now 3).1
def Bm (n:Nat) (p:cd) (i now:Int):cd:=bif Int.tmod now (n:Int)==i then (xy (xj p i now) now).1 else xj p i now
def vT (n:Nat) (k:Nat) (w:qi):qi:=qi.mk (qz w (k:Int)).Vo ((qz w (k:Int)).parts.set k (Bm n (nth (qz w (k:Int)).parts (k:Int)) (k:Int) (qz w (k:Int)).Vo))
def tick (w:qi):qi:=if rT w&&!(w.Vo==1000000) then foldI (fun k t (_:cd)=>vT w.parts.length k t) 0 (qi.mk (i64.wrap (w.Vo+1)) w.parts) w.parts else w
theorem Ee {p:cd} {b:Nat} (hb:qh p≤b) (h2:b≤2000000) (hw:wP p) (i now:Int):qh (xj p i now)≤b+1200∧wP (xj p i now):=by
  have h1:=HJ p now;have h3:=HC (sx p now) i now;obtain ⟨a,c⟩:=MP (p:=tF (sx p now) i now) (by omega) (Jp (GM hw now) i now) now 3;exact ⟨by show qh (tf (tF (sx p now) i now) now 3).1≤_;omega,c⟩
theorem Lc {n:Nat} {p:cd} {b:Nat} (hb:qh p≤b) (h2:b≤2000000) (hw:wP p) (i now:Int):qh (Bm n p i now)≤b+1300∧wP (Bm n p i now):=by
  obtain ⟨a,c⟩:=Ee hb h2 hw i now;unfold Bm;cases Int.tmod now (n:Int)==i
  · exact ⟨by simp only [Vx];omega,c⟩
  · have:=R0 (xj p i now) now;exact ⟨by simp only [Vy];omega,Tx c now⟩
theorem Jc:∀ {l:List cd} {ts:List (List qc)},ts.map List.length=(tj l).map List.length→(sO l ts).length=l.length∧∀ q,q ∈ sO l ts→∃ p,p ∈ l∧qh q=qh p∧q.U7=p.U7
  | [],[],_=>⟨rfl,fun _ h=>absurd h (by simp [sO])⟩
  | [],_::_,h=>by simp [tj] at h
  | _::_,[],h=>by simp [tj] at h
  | p::l,t::ts,h=>by
    simp only [tj,List.map_cons,List.cons.injEq] at h;obtain ⟨i1,i2⟩:=Jc (l:=l) (ts:=ts) h.2;refine ⟨by show (Aw p t::sO l ts).length=_;simp [i1],fun q hq=>?_⟩
    rcases List.mem_cons.1 (show q ∈ Aw p t::sO l ts from hq) with rfl | hq
    · exact ⟨p,List.mem_cons_self,by unfold qh Aw;simp only [h.1],rfl⟩
    · obtain ⟨y,hy,e⟩:=i2 q hq;exact ⟨y,List.mem_cons_of_mem _ hy,e⟩
theorem Pj (w:qi) (p:Int):(qz w p).Vo=w.Vo∧(qz w p).parts.length=w.parts.length∧∀ q,q ∈ (qz w p).parts→∃ p,p ∈ w.parts∧qh q=qh p∧q.U7=p.U7:=by
  unfold qz;split
  · refine ⟨rfl,Jc ?_⟩;have h:(DK (sQ w.parts) p (nth w.parts p).pU).map (fun t=>t.Vt.length)=(sQ w.parts).map (fun t=>t.Vt.length):=Bu p (nth w.parts p).pU (sQ w.parts);unfold tS;rw [List.map_map];refine Eq.trans (show _=(DK (sQ w.parts) p (nth w.parts p).pU).map (fun t=>t.Vt.length) from rfl) (h.trans ?_);unfold sQ;rw [List.map_map];rfl
  · exact ⟨rfl,rfl,fun q hq=>⟨q,hq,rfl,rfl⟩⟩
structure AJ (n:Nat) (k:Nat) (t:qi):Prop where
  len:t.parts.length=n
  small:n≤3
  sz:∀ p,p ∈ t.parts→qh p≤1048576+1300 * k∧wP p
theorem AJ.wU {n k:Nat} {t:qi} (h:AJ n k t) (hk:k≤3):qU qh t.parts<pW:=by
  have hB:(16777216:Nat)=pW:=rfl;have h1:qb qh t.parts≤(1048576+1300 * 3) * t.parts.length:=HP fun y hy=>Nat.le_trans (h.sz y hy).1 (by omega);have h2:=h.len;have h3:=h.small;have h4:(1048576+1300 * 3) * t.parts.length≤(1048576+1300 * 3) * 3:=Nat.mul_le_mul_left _ (by omega);unfold qU;omega
theorem AJ.w {n k:Nat} {t:qi} (h:AJ n k t):wW t.parts:=fun p hp=>(h.sz p hp).2
theorem AJ.pU {n k:Nat} {t:qi} (h:AJ n k t) (p:Int):AJ n k (qz t p):=by
  obtain ⟨_,h2,h3⟩:=Pj t p;refine ⟨h2.trans h.len,h.small,fun q hq=>?_⟩;obtain ⟨y,hy,e1,e2⟩:=h3 q hq;obtain ⟨a,b⟩:=h.sz y hy;exact ⟨by omega,by unfold wP at *;rw [e2];exact b⟩
theorem AJ.step {n k:Nat} {t:qi} (h:AJ n k t) (hk:k<n):AJ n (k+1) (vT n k t):=by
  have hT:=h.pU (k:Int);have hs:=hT.small;refine ⟨by show ((qz t (k:Int)).parts.set k _).length=n;rw [List.length_set];exact hT.len,hT.small,fun q hq=>?_⟩
  rcases List.mem_or_eq_of_mem_set (show q ∈ (qz t (k:Int)).parts.set k _ from hq) with h1 | h1
  · obtain ⟨a,b⟩:=hT.sz q h1;exact ⟨by omega,b⟩
  · subst h1;have hl:=hT.len;obtain ⟨a,b⟩:=hT.sz _ (tP (l:=(qz t (k:Int)).parts) (i:=(k:Int)) (by omega) (by omega));obtain ⟨c,d⟩:=Lc (n:=n) a (by omega) b (k:Int) (qz t (k:Int)).Vo;exact ⟨by omega,d⟩
theorem Ji {N:Nat} (hN:pW≤N) {w:qi} {body:Int×Int×List cd→Option ((Int×Int×List cd)⊕(Int×Int×List cd))} (h0:AJ w.parts.length 0 (qi.mk (i64.wrap (w.Vo+1)) w.parts))
    (hs:∀ (k:Nat) (t:qi),k<w.parts.length→k<pW→AJ w.parts.length k t→body ((k:Int),t.Vo,t.parts)=some (.inl (((k+1:Nat):Int),(vT w.parts.length k t).Vo,(vT w.parts.length k t).parts)))
    (he:∀ t:qi,AJ w.parts.length w.parts.length t→body ((w.parts.length:Int),t.Vo,t.parts)=some (.inr ((w.parts.length:Int),t.Vo,t.parts))) :
    iter body N (0,i64.wrap (w.Vo+1),w.parts)=some ((w.parts.length:Int),(foldI (fun k t (_:cd)=>vT w.parts.length k t) 0 (qi.mk (i64.wrap (w.Vo+1)) w.parts) w.parts).Vo,(foldI (fun k t (_:cd)=>vT w.parts.length k t) 0 (qi.mk (i64.wrap (w.Vo+1)) w.parts) w.parts).parts):=by
  have hB:(16777216:Nat)=pW:=rfl;have h3:=h0.small
  exact sC w.parts (fun (k:Nat) (t:qi)=>((k:Int),t.Vo,t.parts)) (fun k t _=>vT w.parts.length k t) (fun t=>((w.parts.length:Int),t.Vo,t.parts)) (AJ w.parts.length)
    (fun k t y _ hk hI=>⟨hs k t hk (by omega) hI,hI.step hk⟩) he (Nat.lt_of_lt_of_le (show w.parts.length<pW by omega) hN) h0
theorem SH {n:Int} (h:n ≠ 0):dz n=some ():=by unfold dz;rw [if_neg h]
theorem FJ {w:qi} (h:rT w=true):1≤w.parts.length∧w.parts.length≤3∧0≤w.Vo∧w.Vo≤1000000:=by
  unfold rT at h;simp only [VB,rk] at h;omega
theorem R2 {w:qi} (hb:sF w≤1048576) (hW:wW w.parts) (hw:rT w=true):AJ w.parts.length 0 (qi.mk (i64.wrap (w.Vo+1)) w.parts) :=
  ⟨rfl,(FJ hw).2.1,fun p hp=>⟨by
    have:qh p≤qb qh w.parts:=Gk hp;unfold sF qU at hb
    omega,hW p hp⟩⟩
theorem Q5 {N:Nat} (hN:pW≤N) {w:qi} (hb:qU qh w.parts<pW) (hW:wW w.parts) (hT0:rT w=true→AJ w.parts.length 0 (qi.mk (i64.wrap (w.Vo+1)) w.parts)):C7 N w=some (tick w):=by
  have hB:(16777216:Nat)=pW:=rfl;unfold C7 tick;simp only [zZ hN hb,Dq hN hb,Vw,sA];cases hw:rT w
  · rfl
  cases hm:w.Vo==1000000
  case true=>rfl
  obtain ⟨n1,n3,_,_⟩:=FJ hw;simp only [Vz,Bool.not_false,Bool.or_self,Vx,Bool.and_self,if_true];rw [Ji hN (hT0 hw)]
  · rfl
  · intro k t hk hkB hI;have hT:=hI.pU (k:Int);have hl:=hT.len;obtain ⟨a,b⟩:=hT.sz _ (tP (l:=(qz t (k:Int)).parts) (i:=(k:Int)) (by omega) (by omega));obtain ⟨c,d⟩:=Ee a (by omega) b (k:Int) (qz t (k:Int)).Vo;have q1:=HJ (nth (qz t (k:Int)).parts (k:Int)) (qz t (k:Int)).Vo;have q2:=HC (sx (nth (qz t (k:Int)).parts (k:Int)) (qz t (k:Int)).Vo) (k:Int) (qz t (k:Int)).Vo
    simp only [qQ hk,Vy,show qi.mk t.Vo t.parts=t from rfl,M4 hN (hI.wU (by omega)),Vw,ri (l:=(qz t (k:Int)).parts) (i:=(k:Int)) (by omega) (by omega),
      MA hN (p:=nth (qz t (k:Int)).parts (k:Int)) (by omega),My hN (p:=sx (nth (qz t (k:Int)).parts (k:Int)) (qz t (k:Int)).Vo) (by omega)]
    have e1:=IV hN (p:=tF (sx (nth (qz t (k:Int)).parts (k:Int)) (qz t (k:Int)).Vo) (k:Int) (qz t (k:Int)).Vo) (by omega) (Jp (GM b _) _ _) (qz t (k:Int)).Vo 3;have e2:=OE hN (p:=xj (nth (qz t (k:Int)).parts (k:Int)) (k:Int) (qz t (k:Int)).Vo) (by omega) (qz t (k:Int)).Vo;unfold xj at e2;have e3:((k:Int)==Int.tmod (qz t (k:Int)).Vo (w.parts.length:Int))=(Int.tmod (qz t (k:Int)).Vo (w.parts.length:Int)==(k:Int)):=Bool.beq_comm ..;refine Eq.trans (congrArg (fun x=>Option.bind x _) e1) ?_;simp only [Vw,SH (show (w.parts.length:Int) ≠ 0 by omega),e2,e3,qV hkB];unfold vT Bm xj;generalize xy (tf (tF (sx (nth (qz t (k:Int)).parts (k:Int)) (qz t (k:Int)).Vo) (k:Int) (qz t (k:Int)).Vo) (qz t (k:Int)).Vo 3).1 (qz t (k:Int)).Vo=R;generalize tf (tF (sx (nth (qz t (k:Int)).parts (k:Int)) (qz t (k:Int)).Vo) (k:Int) (qz t (k:Int)).Vo) (qz t (k:Int)).Vo 3=C;have hid:=ri (l:=(qz t (k:Int)).parts) (i:=(k:Int)) (by omega) (by omega);generalize qz t (k:Int)=X at hid ⊢;cases Int.tmod X.Vo (w.parts.length:Int)==(k:Int)
    · simp only [Vx,Vw,hid,Int.toNat_natCast]
    · simp only [Vy,Vw,hid,Int.toNat_natCast]
  · intro t _;simp only [qR,Vx]
theorem Ru {N:Nat} (hN:pW≤N) {w:qi} (hb:qU qh w.parts<pW) (hW:wW w.parts) (hT0:rT w=true→AJ w.parts.length 0 (qi.mk (i64.wrap (w.Vo+1)) w.parts)):CU N w=some (tick w):=by
  have hB:(16777216:Nat)=pW:=rfl;unfold CU tick;simp only [BZ hN hb,Dg hN hb hW,Vw,sA];cases hw:rT w
  · rfl
  obtain ⟨n1,n3,m0,m1⟩:=FJ hw
  have hge:decide (w.Vo ≥ 1000000)=(w.Vo==1000000):=by
    by_cases h:w.Vo=1000000
    · simp [h]
    · rw [decide_eq_false (by omega)];simp [h]
  rw [hge];cases hm:w.Vo==1000000
  case true=>rfl
  simp only [Vz,Bool.not_false,Bool.or_self,Vx,Bool.and_self,if_true];rw [Ji hN (hT0 hw)]
  · rfl
  · intro k t hk hkB hI;have hT:=hI.pU (k:Int);have hl:=hT.len;have hl2:=hI.len;obtain ⟨a,b⟩:=hT.sz _ (tP (l:=(qz t (k:Int)).parts) (i:=(k:Int)) (by omega) (by omega));obtain ⟨c,d⟩:=Ee a (by omega) b (k:Int) (qz t (k:Int)).Vo;have q1:=HJ (nth (qz t (k:Int)).parts (k:Int)) (qz t (k:Int)).Vo;have q2:=HC (sx (nth (qz t (k:Int)).parts (k:Int)) (qz t (k:Int)).Vo) (k:Int) (qz t (k:Int)).Vo
    simp only [hl2,qQ hk,Vy,show qi.mk t.Vo t.parts=t from rfl,Nn hN (hI.wU (by omega)) hI.w,Vw,ri (l:=(qz t (k:Int)).parts) (i:=(k:Int)) (by omega) (by omega),
      Nb hN (p:=nth (qz t (k:Int)).parts (k:Int)) (by omega) b]
    have e0:=Mm hN (p:=sx (nth (qz t (k:Int)).parts (k:Int)) (qz t (k:Int)).Vo) (by omega) (GM b _) (k:Int) (qz t (k:Int)).Vo;have e1:=IY hN (p:=tF (sx (nth (qz t (k:Int)).parts (k:Int)) (qz t (k:Int)).Vo) (k:Int) (qz t (k:Int)).Vo) (by omega) (Jp (GM b _) _ _) (qz t (k:Int)).Vo 3;have e2:=Ou hN (p:=xj (nth (qz t (k:Int)).parts (k:Int)) (k:Int) (qz t (k:Int)).Vo) (by omega) d (qz t (k:Int)).Vo;unfold xj at e2;refine Eq.trans (congrArg (fun x=>Option.bind x _) e0) ?_;simp only [Vw,e1,hl,SH (show (w.parts.length:Int) ≠ 0 by omega),e2,qV hkB];unfold vT Bm xj;generalize xy (tf (tF (sx (nth (qz t (k:Int)).parts (k:Int)) (qz t (k:Int)).Vo) (k:Int) (qz t (k:Int)).Vo) (qz t (k:Int)).Vo 3).1 (qz t (k:Int)).Vo=R;generalize tf (tF (sx (nth (qz t (k:Int)).parts (k:Int)) (qz t (k:Int)).Vo) (k:Int) (qz t (k:Int)).Vo) (qz t (k:Int)).Vo 3=C;have hid:=ri (l:=(qz t (k:Int)).parts) (i:=(k:Int)) (by omega) (by omega);generalize qz t (k:Int)=X at hid ⊢;cases Int.tmod X.Vo (w.parts.length:Int)==(k:Int)
    · simp only [Vx,Vw,hid,Int.toNat_natCast]
    · simp only [Vy,Vw,hid,Int.toNat_natCast]
  · intro t ht;simp only [ht.len,qR,Vx]
theorem QQ {n:Nat}:∀ (l:List cd) (k:Nat) (t:qi),k+l.length=n→AJ n k t→AJ n n (foldI (fun k t (_:cd)=>vT n k t) k t l)
  | [],k,t,h,hI=>by
    have:k=n:=by simpa using h
    subst this;exact hI
  | y::l,k,t,h,hI=>by
    have hk:k<n:=by simp at h;omega
    exact QQ l (k+1) (vT n k t) (by simp at h;omega) (hI.step hk)
theorem Rk {w:qi} (hM:sF w≤1048576) (hW:wW w.parts):qU qh (tick w).parts<pW:=by
  have hB:(16777216:Nat)=pW:=rfl;unfold tick;split
  · rename_i h;rw [VB] at h;have hT:=QQ w.parts 0 _ (by omega) (R2 hM hW h.1);exact hT.wU (FJ h.1).2.1
  · unfold sF at hM;omega
end Go.Kx
namespace Go.Kx
open Go
open Go.IntKind (i64)
set_option linter.unusedVariables false
set_option linter.unusedSimpArgs false
set_option maxRecDepth 10000
theorem Sp {t:List qc} {f:Int} {a:qj} (h:(rK t f a).2=false):(rK t f a).1=t:=by
  unfold rK at h ⊢;split
  · rename_i q;rw [if_pos q] at h;split
    · rename_i q2;rw [if_pos q2] at h;cases h
    · rfl
  · rfl
theorem Jx {t:List qc} {f:Int} {a:qj} (h:(rK t f a).2=true):r9 t=true∧ru t f=true:=by
  unfold rK at h;split at h
  · rename_i q;simpa using q
  · cases h
theorem PN (t:List qc) (f:Int) (a:qj):(rK t f a).1.map qc.Vs=t.map qc.Vs:=by
  unfold rK;split
  · rename_i q;simp only [VB] at q;obtain ⟨f0,f4⟩:=tM q.2;have hl:=xp q.1;split
    · rw [List.map_set];refine vR ?_;rw [List.getElem?_map,xl f0 (by omega)];rfl
    · rfl
  · rfl
def Em:Nat→List Bool→Option Nat
  | _,[]=>none
  | k,b::l=>if b then Em (k+1) l else some k
theorem LM {ρ:Type} (g:Nat→ρ) (r:ρ):∀ (l:List qc) (k:Nat),tV (fun k (_:Unit) (y:qc)=>if y.Vs then .inl () else .inr (g k)) (fun _=>r) k () l=(match Em k (l.map qc.Vs) with | none=>r | some k=>g k)
  | [],k=>rfl
  | y::l,k=>by
    unfold tV;simp only [List.map_cons,Em];cases y.Vs
    · rfl
    · exact LM g r l (k+1)
theorem Kn {ρ:Type} {N:Nat} (hN:pW≤N) {x:List qc} (hx:x.length<pW) (g:Nat→ρ) (r:ρ) {body:Int→Option (Int⊕ρ)}
    (hs:∀ (k:Nat) (y:qc),x[k]?=some y→k<x.length→body (k:Int)=some (if y.Vs then .inl ((k+1:Nat):Int) else .inr (g k))) (he:body (x.length:Int)=some (.inr r)) :
    iter body N 0=some (match Em 0 (x.map qc.Vs) with | none=>r | some k=>g k):=by
  rw [show (0:Int)=(fun (k:Nat) (_:Unit)=>(k:Int)) 0 () from rfl,
    vh x (fun (k:Nat) (_:Unit)=>(k:Int)) (fun k _ y=>if y.Vs then .inl () else .inr (g k)) (fun _=>r) (fun _ _=>True) ?_ ?_ (Nat.lt_of_lt_of_le hx hN) trivial,LM]
  · intro k _ y hy hk _;refine ⟨?_,fun _ _=>trivial⟩
    show body (k:Int)=_
    rw [hs k y hy hk];cases y.Vs<;>rfl
  · intro _ _;exact he
def ud (t:List qc) (f:Int) (a:qj):List qc×Int×Bool :=
  if (rK t f a).2 then (match Em 0 (t.map qc.Vs) with | none=>(t,0,false) | some k=>((rK t f a).1.set k (qc.mk true f a),(k:Int),true)) else (t,0,false)
theorem IJ (t:List qc) (f:Int) (a:qj):(ud t f a).1.length=t.length:=by
  unfold ud;split
  · split
    · rfl
    · simp only [List.length_set,tL]
  · rfl
theorem KD {N:Nat} (hN:pW≤N) {t:List qc} (hB:t.length<pW) (f:Int) (a:qj):yi N t f a=some (ud t f a):=by
  unfold yi ud;simp only [BV hN hB,Vw];cases h:(rK t f a).2
  · simp only [Bool.not_false,Vy,Sp h,Bool.false_eq_true,if_false]
  simp only [Vz,Vx,if_true];rw [Kn hN hB (fun k=>Sum.inr ((rK t f a).1.set k (qc.mk true f a),(k:Int),true)) (Sum.inl (t.length:Int))]
  · simp only [Vw];cases Em 0 (t.map qc.Vs)
    · simp only [Sum.elim_inl,wV hB,Vw]
    · rfl
  · intro k y hy hk;have hp:=tL t f a;simp only [qQ hk,Vy,qv,hy,Vw,qV (Nat.lt_trans hk hB),Int.toNat_natCast];cases y.Vs
    · have:((rK t f a).1[k]?)=some ((rK t f a).1[k]'(by omega)):=List.getElem?_eq_getElem (by omega);simp only [this,Bool.not_false,Vy,Vw,Bool.false_eq_true,if_false]
    · simp only [Vz,Vx,if_true]
  · simp only [qR,Vx]
theorem KG {N:Nat} (hN:pW≤N) {t:List qc} (hB:t.length<pW) (f:Int) (a:qj):yk N t f a=some (ud t f a):=by
  unfold yk ud;simp only [Az hN hB,Vw];cases h:(rK t f a).2
  · simp only [Bool.not_false,Vy,w5 hB,Vw,Bool.false_eq_true,if_false]
  have hp:=tL t f a;simp only [Vz,Vx,if_true];rw [Kn (x:=(rK t f a).1) hN (by omega) (fun k=>Sum.inr ((rK t f a).1.set k (qc.mk true f a),(k:Int),true)) (Sum.inl ((rK t f a).1.length:Int)),PN]
  · simp only [Vw];cases Em 0 (t.map qc.Vs)
    · simp only [Sum.elim_inl,w5 hB,Vw]
    · rfl
  · intro k y hy hk;simp only [qQ hk,Vy,qv,hy,Vw,qV (show k<pW by omega),Int.toNat_natCast];cases y.Vs<;>rfl
  · simp only [qR,Vx]
def vu (t:List qc) (f g:Int) (a:qj):List qc×Bool:=if (rK t f a).2&&ru t g then xO (rK t f a).1 g a else (t,false)
theorem Ke (t:List qc) (f g:Int) (a:qj):(vu t f g a).1.length=t.length:=by
  unfold vu;split
  · rw [CI,tL]
  · rfl
theorem Ny {N:Nat} (hN:pW≤N) {t:List qc} (hB:t.length<pW) (f g:Int) (a:qj):yY N t f g a=some (vu t f g a):=by
  unfold yY vu;have hp:=tL t f a;simp only [BV hN hB,Vw];cases h:(rK t f a).2
  · simp only [Bool.not_false,Vy,wV hB,Vw,Bool.false_and,Bool.false_eq_true,if_false]
  have hl:=xp (Jx h).1;simp only [Vz,Vx,yW N hl,Vw,VA];cases ru t g
  · simp only [Bool.not_false,Vy,wV hB,Vw,Bool.false_eq_true,if_false]
  · simp only [Vz,Vx,if_true,Eg hN (show (rK t f a).1.length<pW by omega),Vw]
theorem Nu {N:Nat} (hN:pW≤N) {t:List qc} (hB:t.length<pW) (f g:Int) (a:qj):y6 N t f g a=some (vu t f g a):=by
  unfold y6 vu;have hp:=tL t f a;simp only [Af hN,Az hN hB,Vw];cases h:(rK t f a).2
  · cases r9 t&&ru t g<;>simp only [Bool.not_false,Vz,Vy,Vx,w5 hB,Vw,Bool.false_and,Bool.false_eq_true,if_false]
  rw [(Jx h).1];simp only [VA];cases ru t g
  · simp only [Bool.not_false,Vy,w5 hB,Vw,Bool.false_eq_true,if_false]
  · simp only [Vz,Vx,if_true,D8 hN (show (rK t f a).1.length<pW by omega),Vw]
theorem NL {t:List qc} (h:Tr t) {i:Int} (hv:ru t i=true) (hi:i ≠ 0):0≤up t i∧up t i≤4∧up t i ≠ i∧(nth t (up t i)).Vs=true:=by
  obtain ⟨i0,i4⟩:=tM hv;have hl:=h.len;have hg:=xl (l:=t) i0 (by omega)
  have hlv:(nth t i).Vs=true:=by
    unfold ru at hv;simp only [VB] at hv;exact hv.2
  have h1:=h.lead i.toNat (nth t i) hg hlv;rw [show ((i.toNat:Nat):Int)=i by omega] at h1
  have hne:up t i ≠ i:=fun q=>by rw [Gd hi q] at h1;cases h1
  have h2:leads t 4 (up t i)=true:=by
    unfold leads at h1;simpa [hi,hv] using h1
  by_cases hu:up t i=0
  · rw [hu];exact ⟨by omega,by omega,fun q=>hi q.symm,h.Mk⟩
  · unfold leads at h2
    have h3:ru t (up t i)=true:=by
      cases q:ru t (up t i)
      · simp [hu,q] at h2
      · rfl
    obtain ⟨a,b⟩:=tM h3;unfold ru at h3;simp only [VB] at h3;exact ⟨a,b,hne,h3.2⟩
def Iw (s:qj) (B:Int):Prop:=(0≤s.gE∧s.gE≤B)∧(0≤s.qa∧s.qa≤B)∧(0≤s.qg∧s.qg≤B)
theorem Ie {s a:qj} {B:Int} (hs:Iw s B) (ha:re a=true) (hB:B≤1000000000):(qY s a).gE=s.gE+a.gE∧(qY s a).qa=s.qa+a.qa∧(qY s a).qg=s.qg+a.qg∧Iw (qY s a) (B+1000000):=by
  have h:=tq.1 ha;unfold Iw at hs;have w1:(qY s a).gE=s.gE+a.gE:=rG (by omega) (by omega);have w2:(qY s a).qa=s.qa+a.qa:=rG (by omega) (by omega);have w3:(qY s a).qg=s.qg+a.qg:=rG (by omega) (by omega);exact ⟨w1,w2,w3,⟨by omega,by omega⟩,⟨by omega,by omega⟩,⟨by omega,by omega⟩⟩
theorem Gm:∀ (t:List qc) (s:qj) (B:Int),(∀ r,r ∈ t→re r.qI=true)→0≤B→B+1000000 * (t.length:Int)≤1000000000→Iw s B→∀ (k:Nat) (r:qc),t[k]?=some r→r.Vs=true →
    s.gE+r.qI.gE≤(rL s t).gE∧s.qa+r.qI.qa≤(rL s t).qa∧s.qg+r.qI.qg≤(rL s t).qg
  | [],s,B,_,_,_,_,k,r,hr,_=>by simp at hr
  | x::t,s,B,h,hB,hL,hs,k,r,hr,hv=>by
    have hx:=h x (by simp);simp only [List.length_cons] at hL;obtain ⟨w1,w2,w3,w4⟩:=Ie hs hx (by omega);have hx':=tq.1 hx;have e:rL s (x::t)=rL (if x.Vs then qY s x.qI else s) t:=rfl;rw [e];have ht:∀ r,r ∈ t→re r.qI=true:=fun r hr=>h r (by simp [hr])
    match k with
    | 0 =>
      simp only [List.getElem?_cons_zero,Option.some.injEq] at hr;subst hr;rw [if_pos hv];obtain ⟨⟨a1,a2,a3⟩,_⟩:=Cp t (qY s x.qI) (B+1000000) ht (by omega) (by omega) w4.1 w4.2.1 w4.2.2;exact ⟨by omega,by omega,by omega⟩
    | k+1 =>
      rw [List.getElem?_cons_succ] at hr;cases hxl:x.Vs
      · exact Gm t s B ht hB (by omega) hs k r hr hv
      · obtain ⟨a1,a2,a3⟩:=Gm t (qY s x.qI) (B+1000000) ht (by omega) (by omega) w4 k r hr hv;rw [if_pos rfl];exact ⟨by omega,by omega,by omega⟩
theorem Ea:∀ (t:List qc) (s:qj) (B:Int),(∀ r,r ∈ t→re r.qI=true)→0≤B→B+1000000 * (t.length:Int)≤1000000000→Iw s B→∀ (k j:Nat) (r q:qc),k<j→t[k]?=some r→r.Vs=true→t[j]?=some q→q.Vs=true →
    r.qI.gE+q.qI.gE≤(rL s t).gE∧r.qI.qa+q.qI.qa≤(rL s t).qa∧r.qI.qg+q.qI.qg≤(rL s t).qg
  | [],s,B,_,_,_,_,k,j,r,q,_,hr,_,_,_=>by simp at hr
  | x::t,s,B,h,hB,hL,hs,k,j,r,q,hkj,hr,hv,hq,hw=>by
    have hx:=h x (by simp);simp only [List.length_cons] at hL;obtain ⟨w1,w2,w3,w4⟩:=Ie hs hx (by omega);have e:rL s (x::t)=rL (if x.Vs then qY s x.qI else s) t:=rfl;rw [e];have ht:∀ r,r ∈ t→re r.qI=true:=fun r hr=>h r (by simp [hr]);unfold Iw at hs
    match k,j,hkj with
    | 0,j+1,_ =>
      simp only [List.getElem?_cons_zero,Option.some.injEq] at hr;subst hr;rw [List.getElem?_cons_succ] at hq;rw [if_pos hv];obtain ⟨a1,a2,a3⟩:=Gm t (qY s x.qI) (B+1000000) ht (by omega) (by omega) w4 j q hq hw;exact ⟨by omega,by omega,by omega⟩
    | k+1,j+1,hkj =>
      rw [List.getElem?_cons_succ] at hr hq;cases hxl:x.Vs
      · exact Ea t s B ht hB (by omega) hs k j r q (by omega) hr hv hq hw
      · rw [if_pos rfl];exact Ea t (qY s x.qI) (B+1000000) ht (by omega) (by omega) w4 k j r q (by omega) hr hv hq hw
theorem Rf {t:List qc} (h:Tr t) {u i:Int} (hu:0≤u∧u≤4) (hi:0≤i∧i≤4) (hne:u ≠ i) (h1:(nth t u).Vs=true) (h2:(nth t i).Vs=true):v5 (nth t u).qI (nth t i).qI=(qY (nth t u).qI (nth t i).qI,true):=by
  have hl:=h.len
  have z:Iw ⟨0,0,0⟩ 0:=by unfold Iw;decide
  have hS:=tq.1 h.sum;have gu:=xl (l:=t) (i:=u) hu.1 (by omega);have gi:=xl (l:=t) (i:=i) hi.1 (by omega);have bu:=h.qI _ (List.mem_of_getElem? gu);have bi:=h.qI _ (List.mem_of_getElem? gi);have bu':=tq.1 bu;have bi':=tq.1 bi
  have key:(nth t u).qI.gE+(nth t i).qI.gE≤(rL ⟨0,0,0⟩ t).gE∧(nth t u).qI.qa+(nth t i).qI.qa≤(rL ⟨0,0,0⟩ t).qa∧(nth t u).qI.qg+(nth t i).qI.qg≤(rL ⟨0,0,0⟩ t).qg:=by
    rcases Int.lt_or_gt_of_ne hne with q | q
    · exact Ea t ⟨0,0,0⟩ 0 h.qI (by omega) (by omega) z u.toNat i.toNat _ _ (by omega) gu h1 gi h2
    · obtain ⟨a,b,c⟩:=Ea t ⟨0,0,0⟩ 0 h.qI (by omega) (by omega) z i.toNat u.toNat _ _ (by omega) gi h2 gu h1;exact ⟨by omega,by omega,by omega⟩
  have v1:(qY (nth t u).qI (nth t i).qI).gE=(nth t u).qI.gE+(nth t i).qI.gE:=rG (by omega) (by omega);have v2:(qY (nth t u).qI (nth t i).qI).qa=(nth t u).qI.qa+(nth t i).qI.qa:=rG (by omega) (by omega);have v3:(qY (nth t u).qI (nth t i).qI).qg=(nth t u).qI.qg+(nth t i).qI.qg:=rG (by omega) (by omega);have:re (qY (nth t u).qI (nth t i).qI)=true:=tq.2 ⟨by omega,by omega,by omega⟩;unfold v5;rw [bu,bi,this];rfl
def C8 (i u:Int) (r:qc):qc:=if r.Vs&&(r.Vq==i) then qc.mk r.Vs u r.qI else r
def dropped (t:List qc) (i:Int):List qc:=(t.set (up t i).toNat (HN (nth t (up t i)) (qY (nth t (up t i)).qI (nth t i).qI))).set i.toNat DI
def vt (t:List qc) (i:Int):List qc×Bool:=if (r9 t&&ru t i)&&(i != 0) then ((dropped t i).map (C8 i (up t i)),true) else (t,false)
theorem JL (t:List qc) (i:Int):(vt t i).1.length=t.length:=by
  unfold vt dropped;split<;>simp
theorem Ng {N:Nat} (hN:pW≤N) {t:List qc} (hB:t.length<pW) (i:Int):yU N t i=some (vt t i):=by
  unfold yU vt;simp only [w5 hB,Af hN,Vw,sA];cases h:(r9 t&&ru t i)
  · rfl
  simp only [VB] at h;have hT:=zr.1 h.1;have hl:=hT.len;cases hi:(i==0)
  case true=>simp only [Vz,Bool.or_true,Vy,VA,bne,hi,Bool.false_eq_true,if_false]
  have hi':i ≠ 0:=by simpa using hi
  obtain ⟨i0,i4⟩:=tM h.2;obtain ⟨u0,u4,une,ulv⟩:=NL hT h.2 hi'
  have ilv:(nth t i).Vs=true:=by
    have:=h.2;unfold ru at this;simp only [VB] at this;exact this.2
  have eu:idx t (nth t i).Vq=some (nth t (up t i)):=ri (i:=up t i) u0 (by omega);have ff:=Rf hT ⟨u0,u4⟩ ⟨i0,i4⟩ une ulv ilv;have e2:∀ z,idx (t.set (nth t i).Vq.toNat z) i=some (nth (t.set (nth t i).Vq.toNat z) i):=fun z=>ri i0 (by simp only [List.length_set];omega);simp only [Vz,Bool.or_false,Vx,ri (l:=t) i0 (by omega),eu,Ev,ff,Vw,e2,bne,hi,Bool.not_false,Bool.and_self,if_true];rw [show (((t.set (nth t i).Vq.toNat (qc.mk (nth t (up t i)).Vs (nth t (up t i)).Vq (qj.mk (qY (nth t (up t i)).qI (nth t i).qI).gE (qY (nth t (up t i)).qI (nth t i).qI).qa (qY (nth t (up t i)).qI (nth t i).qI).qg))).set i.toNat (qc.mk false 0 (qj.mk 0 0 0))))=dropped t i from rfl];rw [Ai (dropped t i) (C8 i (up t i)) (show (dropped t i).length<N by unfold dropped;simp only [List.length_set];omega)]
  · rfl
  · intro k x y hx hty _ hk
    have hk':k<x.length:=by omega
    have hk2:k<t.length:=by unfold dropped at hk;simp only [List.length_set] at hk;omega
    simp only [qQ hk',Vy,qv,hty,Vw,tz,qV (show k<pW by omega),Int.toNat_natCast];unfold C8;cases (y.Vs&&(y.Vq==i))
    · simp only [Vx,Bool.false_eq_true,if_false,vR hty]
    · simp only [Vy,if_true];rfl
  · intro x hx;rw [← hx];simp only [qR,Vx]
theorem MY {N:Nat} (hN:pW≤N) {t:List qc} (hB:t.length<pW) (i:Int):yX N t i=some (vt t i):=by
  unfold yX vt;simp only [wV hB,Ae hN,Vw];cases ht:r9 t
  · rfl
  have hT:=zr.1 ht;have hl:=hT.len;cases hi:(i==0)
  case true=>simp only [Vz,Vx,Vy,Vw,VA,bne,hi,Bool.and_false,Bool.false_eq_true,if_false]
  have hi':i ≠ 0:=by simpa using hi
  simp only [Vz,Vx,yW N hl,Vw];cases hv:ru t i
  · rfl
  obtain ⟨i0,i4⟩:=tM hv;obtain ⟨u0,u4,une,ulv⟩:=NL hT hv hi';have eu:idx t (nth t i).Vq=some (nth t (up t i)):=ri (i:=up t i) u0 (by omega);have e2:∀ z,idx (t.set (nth t i).Vq.toNat z) i=some (nth (t.set (nth t i).Vq.toNat z) i):=fun z=>ri i0 (by simp only [List.length_set];omega);simp only [Vz,Vx,ri (l:=t) i0 (by omega),eu,Ao,Vw,e2,bne,hi,Bool.not_false,Bool.and_self,if_true];rw [show (((t.set (nth t i).Vq.toNat (qc.mk (nth t (up t i)).Vs (nth t (up t i)).Vq (qY (nth t (up t i)).qI (nth t i).qI))).set i.toNat (qc.mk false 0 (qj.mk 0 0 0))))=dropped t i from rfl];rw [Ai (dropped t i) (C8 i (up t i)) (show (dropped t i).length<N by unfold dropped;simp only [List.length_set];omega)]
  · rfl
  · intro k x y hx hty _ hk
    have hk':k<t.length:=by unfold dropped at hk;simp only [List.length_set] at hk;omega
    simp only [qQ hk',Vy,qv,hty,Vw,tz,qV (show k<pW by omega),Int.toNat_natCast];unfold C8;cases (y.Vs&&(y.Vq==i))
    · simp only [Vx,Bool.false_eq_true,if_false,vR hty]
    · simp only [Vy,if_true];rfl
  · intro x hx;rw [show (dropped t i).length=t.length by unfold dropped;simp only [List.length_set]];simp only [qR,Vx]
end Go.Kx
