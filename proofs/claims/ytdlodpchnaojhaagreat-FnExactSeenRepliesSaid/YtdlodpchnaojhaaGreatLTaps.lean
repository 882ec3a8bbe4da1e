import Derived.Test.YtdlodpchnaojhaaGreatLPay
namespace Go.Kx
open Go
open Go.IntKind (i64)
set_option linter.unusedVariables false
set_option linter.unusedSimpArgs false
set_option maxRecDepth 10000
theorem BJ {N:Nat} (hN:gS≤N) {w:List cd} (hl:w.length<gS) {F:cd→Option cd} (hF:∀ y,y ∈ w→F y=some y) :
    iter (fun (s8:Int×(List cd))=>(bif (decide (s8.1<(w.length:Int))) then ((idx w s8.1).bind fun y11=>(F y11).bind fun y41=>(app s8.2 [y41]).bind fun y57=>some (.inl (i64.wrap (s8.1+1),y57))) else (some (.inr (s8.1,s8.2))):Option ((Int×(List cd))⊕(Int×(List cd))))) N (0,[])=some ((w.length:Int),w):=by
  have e:∀ (l:List cd) (k:Nat) (acc:List cd),foldI (fun _ (acc:List cd) y=>acc++[y]) k acc l=acc++l:=by
    intro l
    induction l with
    | nil=>intro k acc;simp [foldI]
    | cons y l ih=>intro k acc;unfold foldI;rw [ih];simp
  rw [show ((0:Int),([]:List cd))=(fun (k:Nat) (t:List cd)=>((k:Int),t)) 0 [] from rfl,
    jM w (fun (k:Nat) (t:List cd)=>((k:Int),t)) (fun _ acc y=>acc++[y]) (fun t=>((w.length:Int),t)) (fun k t=>t.length≤k) ?_ ?_ (Nat.lt_of_lt_of_le hl hN) (by simp),e]
  · simp
  · intro k t y hy hk ht;refine ⟨?_,by simp;omega⟩;simp only [iE hk,Om,ij,hy,Ok,hF y (List.mem_of_getElem? hy),iK (Nat.lt_trans hk hl),j6 ht (Nat.lt_of_le_of_lt hk hl)]
  · intro t _;simp only [iF,Ol]
theorem sa {N:Nat} (hN:gS≤N) {w:hO} (hb:iQ ic w.parts<gS):lq N w=some w:=by
  unfold lq;rw [BJ hN (jz hb) fun y hy=>pC hN (jm hb hy)];rfl
theorem uI {N:Nat} (hN:gS≤N) {w:hO} (hb:iQ ic w.parts<gS):mi N w=some w:=by
  unfold mi;rw [BJ hN (jz hb) fun y hy=>qz hN (jm hb hy)];rfl
theorem BP {N:Nat} (hN:gS≤N) {w:List iy} (hl:w.length<gS) {F:List g7→Option (List g7)} (hF:∀ y,y ∈ w→F y.Oh=some y.Oh) :
    iter (fun (s4:(List iy)×Int)=>(bif (decide (s4.2<(w.length:Int))) then ((idx w s4.2).bind fun y7=>(F y7.Oh).bind fun y22=>(app s4.1 [iy.mk y22]).bind fun y26=>some (.inl (y26,i64.wrap (s4.2+1)))) else (some (.inr (s4.1,s4.2))):Option (((List iy)×Int)⊕((List iy)×Int)))) N ([],0)=some (w,(w.length:Int)):=by
  rw [mB w (fun _ _=>true) (fun _ y=>y) hl hN]
  · rw [o6 (fun _=>true) w 0];simp
  · intro k t y hy hk ht;simp only [iE hk,Om,ij,hy,Ok,hF y (List.mem_of_getElem? hy),iK (Nat.lt_trans hk hl),j6 ht (Nat.lt_of_le_of_lt hk hl),if_true]
  · intro t;simp only [iF,Ol]
def oX (ts:List iy):Prop:=ts.length<gS∧∀ t,t ∈ ts→t.Oh.length<gS
theorem EP {N:Nat} (hN:gS≤N) {ts:List iy} (h:oX ts):nO N ts=some ts:=by
  unfold nO;rw [BP hN h.1 fun y hy=>ot (h.2 y hy)];rfl
theorem Jx {N:Nat} (hN:gS≤N) {ts:List iy} (h:oX ts):ru N ts=some ts:=by
  unfold ru;rw [BP hN h.1 fun y hy=>oE (h.2 y hy)];rfl
def kv (a:hJ) (w:Int):Int:=if w==0 then a.gE else if w==1 then a.gT else if w==2 then a.g8 else 0
theorem BL (N:Nat) (a:hJ) (w:Int):qq N a w=some (kv a w):=by
  unfold qq kv;cases w==0<;>cases w==1<;>cases w==2<;>rfl
theorem B8 (N:Nat) (a:hJ) (w:Int):qc N a w=some (kv a w):=by
  unfold qc kv;cases w==0<;>cases w==1<;>cases w==2<;>rfl
def l4 (t:iL) (n:Int):Int:=if t.N0==1 then (if n<t.kK then n else t.kK) else i64.wrap (Int.tdiv (i64.wrap (t.kK * n)) 100)
def rA (t:iL) (a:hJ):Int:=if ku t&&iH a then l4 t (kv a t.kc) else 0
theorem HP (N:Nat) (t:iL) (a:hJ):sx N t a=some (rA t a):=by
  unfold sx rA l4;simp only [yR,qe,Ok,jR,BL];cases ku t
  · rfl
  cases iH a
  · rfl
  cases t.N0==1<;>rfl
theorem HS (N:Nat) (t:iL) (a:hJ):rY N t a=some (rA t a):=by
  unfold rY rA l4;simp only [yD,qt,Ok,jR,B8];cases ku t
  · rfl
  cases iH a
  · rfl
  cases t.N0==1
  · simp only [On,Bool.or_self,Ol,Bool.and_self,if_true,Bool.false_eq_true,if_false];rw [Int.mul_comm]
  · simp only [On,Bool.or_self,Ol,Om,Bool.and_self,if_true];congr 1;split<;>split<;>omega
theorem zE {t:iL} {n:Int} (ht:ku t=true) (h0:0≤n) (h1:n≤1000000):0≤l4 t n∧l4 t n≤n:=by
  unfold ku at ht;simp only [Oq,Bool.or_eq_true,iR,beq_iff_eq] at ht;unfold l4
  rcases ht.2 with ⟨hk,r0,r1⟩ | ⟨hk,r0,r1⟩
  · rw [hk];simp only [beq_self_eq_true,if_true];split<;>omega
  · rw [hk,show ((2:Int)==1)=false from rfl];simp only [Bool.false_eq_true,if_false];have m1:0≤t.kK * n:=Int.mul_nonneg r0 h0;have m2:t.kK * n≤100 * n:=Int.mul_le_mul_of_nonneg_right r1 h0;rw [iY (n:=t.kK * n) (by omega) (by omega),Int.tdiv_eq_ediv_of_nonneg m1]
    have d0:0≤t.kK * n / 100:=by omega
    have d1:t.kK * n / 100≤n:=by omega
    rw [iY (by omega) (by omega)];exact ⟨d0,d1⟩
theorem Ih {t:iL} {a:hJ} (ht:ku t=true) (ha:iH a=true):ni (lh t.kc (rA t a)) a=true:=by
  unfold rA;rw [ht,ha];simp only [Bool.and_self,if_true];have ht':=ht;unfold ku at ht';simp only [Oq,iR] at ht';have ha':=kA.1 ha
  have hw:t.kc=0∨t.kc=1∨t.kc=2:=by omega
  unfold ni;rw [ha]
  rcases hw with e | e | e<;>rw [e]
  · obtain ⟨q0,q1⟩:=zE ht (n:=kv a 0) ha'.1.1 ha'.1.2;have q2:l4 t (kv a 0)≤a.gE:=q1;have:iH (lh 0 (l4 t (kv a 0)))=true:=kA.2 (show (0≤l4 t (kv a 0)∧l4 t (kv a 0)≤1000000)∧(0≤(0:Int)∧(0:Int)≤1000000)∧(0≤(0:Int)∧(0:Int)≤1000000) from ⟨⟨q0,by omega⟩,by decide,by decide⟩);rw [this];simp only [Oo,Oq,decide_eq_true_eq];exact ⟨q2,ha'.2.1.1,ha'.2.2.1⟩
  · obtain ⟨q0,q1⟩:=zE ht (n:=kv a 1) ha'.2.1.1 ha'.2.1.2;have q2:l4 t (kv a 1)≤a.gT:=q1;have:iH (lh 1 (l4 t (kv a 1)))=true:=kA.2 (show (0≤(0:Int)∧(0:Int)≤1000000)∧(0≤l4 t (kv a 1)∧l4 t (kv a 1)≤1000000)∧(0≤(0:Int)∧(0:Int)≤1000000) from ⟨by decide,⟨q0,by omega⟩,by decide⟩);rw [this];simp only [Oo,Oq,decide_eq_true_eq];exact ⟨ha'.1.1,q2,ha'.2.2.1⟩
  · obtain ⟨q0,q1⟩:=zE ht (n:=kv a 2) ha'.2.2.1 ha'.2.2.2;have q2:l4 t (kv a 2)≤a.g8:=q1;have:iH (lh 2 (l4 t (kv a 2)))=true:=kA.2 (show (0≤(0:Int)∧(0:Int)≤1000000)∧(0≤(0:Int)∧(0:Int)≤1000000)∧(0≤l4 t (kv a 2)∧l4 t (kv a 2)≤1000000) from ⟨by decide,by decide,⟨q0,by omega⟩⟩);rw [this];simp only [Oo,Oq,decide_eq_true_eq];exact ⟨ha'.1.1,ha'.2.1.1,q2⟩
def nf (ts:List iy):Bool:=ts.all fun t=>jy t.Oh
def jS (ts:List iy) (p:Int) (t:iL):Bool :=
  nf ts&&(!decide ((ts.length:Int) > 3)&&(ku t&&(ia p 0 ((ts.length:Int) - 1)&&(!decide (t.jI ≥ (ts.length:Int))&&i9 (nth ts p).Oh t.Od))))
def vq (ts:List iy) (p:Int) (t:iL):Int:=rA t (nth (nth ts p).Oh t.Od).iG
def nP (ts:List iy) (p:Int) (t:iL):List iy:=ts.set p.toNat (iy.mk (ji (nth ts p).Oh t.Od (lh t.kc (vq ts p t))).1)
def qm (ts:List iy) (p:Int) (t:iL):List g7×Bool:=pG (nth (nP ts p t) t.jI).Oh t.mN (lh t.kc (vq ts p t))
def kn (ts:List iy) (p:Int) (t:iL):List iy×Int :=
  if jS ts p t&&(qm ts p t).2 then ((nP ts p t).set t.jI.toNat (iy.mk (qm ts p t).1),vq ts p t) else (ts,0)
theorem Hz {ts:List iy} (h:oX ts) {k:Nat} {t:List g7} (ht:t.length<gS):oX (ts.set k (iy.mk t)):=by
  refine ⟨by rw [List.length_set];exact h.1,fun y hy=>?_⟩
  rcases List.mem_or_eq_of_mem_set hy with h1 | h1
  · exact h.2 y h1
  · subst h1;exact ht
theorem Bo {ts:List iy} {p:Int} (h:nf ts=true) (h0:0≤p) (h1:p<(ts.length:Int)):jy (nth ts p).Oh=true:=by
  unfold nf at h;rw [List.all_eq_true] at h;exact h _ (kJ h0 h1)
theorem uX {ts:List iy} {p:Int} {t:iL} (h:jS ts p t=true):nf ts=true∧ku t=true∧(0≤p∧p<(ts.length:Int))∧(0≤t.jI∧t.jI<(ts.length:Int))∧i9 (nth ts p).Oh t.Od=true:=by
  unfold jS at h;simp only [Oq,Bool.not_eq_true',decide_eq_false_iff_not,iR] at h;obtain ⟨h1,_,h2,h3,h4,h5⟩:=h;have h2':=h2;unfold ku at h2';simp only [Oq,iR] at h2';exact ⟨h1,h2,⟨h3.1,by omega⟩,⟨h2'.1.2.1.1,by omega⟩,h5⟩
theorem LO {ts:List iy} {p:Int} {t:iL} (h:jS ts p t=true):(ji (nth ts p).Oh t.Od (lh t.kc (vq ts p t))).2=true:=by
  obtain ⟨h1,h2,⟨p0,p1⟩,_,h5⟩:=uX h;have ho:=Bo h1 p0 p1;obtain ⟨f0,f4⟩:=kZ h5
  have hb:iH (nth (nth ts p).Oh t.Od).iG=true:=by
    have hT:=ho;have hl:=o3 ho;unfold jy at hT;simp only [Oq] at hT;have hP:=lQ.1 hT.2.2.2.1 t.Od.toNat _ (oY f0 (by omega))
    have hv:(nth (nth ts p).Oh t.Od).Of=true:=by
      unfold i9 at h5;rw [Oq] at h5;exact h5.2
    unfold nD at hP;rw [hv,if_pos rfl,Oq] at hP;exact hP.1
  unfold ji;rw [ho,h5];simp only [Bool.and_self,if_true];rw [show ni (lh t.kc (vq ts p t)) (nth (nth ts p).Oh t.Od).iG=true from Ih h2 hb];rfl
theorem AS {ts:List iy} (h:oX ts) {p:Int} (p0:0≤p) (p1:p<(ts.length:Int)) (t:iL):oX (nP ts p t) :=
  Hz h (by rw [kW];exact h.2 _ (kJ p0 p1))
theorem vM (ts:List iy) (p:Int) (t:iL):(nP ts p t).length=ts.length:=by unfold nP;rw [List.length_set]
theorem H7 {N:Nat} (hN:gS≤N) {ts:List iy} (h:oX ts) (p:Int) (t:iL):sj N ts p t=some (kn ts p t):=by
  have hl:=h.1;have hB:(16777216:Nat)=gS:=rfl;unfold sj;simp only [EP hN h,Ok];rw [jH ts (fun _ t=>jy t.Oh) (.inl (ts.length:Int)) (.inr (ts,0)) (Nat.lt_of_lt_of_le hl hN),j3]
  · simp only [Ok,yR,lv,iY (n:=(ts.length:Int) - 1) (by omega) (by omega)];cases h1:ts.all (fun t=>jy t.Oh)
    · have:jS ts p t=false:=by unfold jS nf;rw [h1];rfl
      unfold kn;rw [this];rfl
    cases h2:decide ((ts.length:Int) > 3)
    case true =>
      have:jS ts p t=false:=by unfold jS nf;rw [h1,h2];rfl
      unfold kn;rw [this];rfl
    cases h3:ku t
    · have:jS ts p t=false:=by unfold jS nf;rw [h1,h2,h3];rfl
      unfold kn;rw [this];rfl
    cases h4:ia p 0 ((ts.length:Int) - 1)
    · have:jS ts p t=false:=by unfold jS nf;rw [h1,h2,h3,h4];rfl
      unfold kn;rw [this];rfl
    cases h5:decide (t.jI ≥ (ts.length:Int))
    case true =>
      have:jS ts p t=false:=by unfold jS nf;rw [h1,h2,h3,h4,h5];rfl
      unfold kn;rw [this];rfl
    rw [iR] at h4
    have p1:p<(ts.length:Int):=by omega
    have ho:=Bo (ts:=ts) h1 h4.1 p1;have h5l:=o3 ho;simp only [if_true,Sum.elim_inl,On,Ol,iT (l:=ts) h4.1 p1,Ok,rk N h5l];cases h6:i9 (nth ts p).Oh t.Od
    · have:jS ts p t=false:=by unfold jS;rw [h6];simp
      unfold kn;rw [this];rfl
    have hm:jS ts p t=true:=by unfold jS nf;rw [h1,h2,h3,h5,h6,iR.2 h4];rfl
    obtain ⟨_,_,_,⟨q0,q1⟩,_⟩:=uX hm;obtain ⟨f0,f4⟩:=kZ h6
    simp only [On,Ol,iT (l:=(nth ts p).Oh) f0 (by omega),Ok,HP,xh,um hN (h.2 _ (kJ h4.1 p1)),
      show rA t (nth (nth ts p).Oh t.Od).iG=vq ts p t from rfl,LO hm,show ts.set p.toNat (iy.mk (ji (nth ts p).Oh t.Od (lh t.kc (vq ts p t))).1)=nP ts p t from rfl,
      iT (l:=nP ts p t) q0 (by rw [vM];exact q1),w9 hN ((AS h h4.1 p1 t).2 _ (kJ q0 (by rw [vM];exact q1)))]
    unfold kn;rw [hm]
    show (bif !(qm ts p t).2 then some (ts,0) else some ((nP ts p t).set t.jI.toNat (iy.mk (qm ts p t).1),vq ts p t))=_
    cases (qm ts p t).2<;>rfl
  · intro k y hy hk;simp only [iE hk,Om,ij,hy,Ok,ri hN,iK (Nat.lt_trans hk hl)];cases jy y.Oh<;>rfl
  · simp only [iF,Ol]
theorem Iv {N:Nat} (hN:gS≤N) {ts:List iy} (h:oX ts) (p:Int) (t:iL):sr N ts p t=some (kn ts p t):=by
  have hl:=h.1;have hB:(16777216:Nat)=gS:=rfl
  have hok:vO N ts=some (nf ts&&decide ((ts.length:Int)≤3)):=by
    unfold vO nf;rw [jH ts (fun _ t=>jy t.Oh) (.inl (ts.length:Int)) (.inr false) (Nat.lt_of_lt_of_le hl hN),j3]
    · cases ts.all (fun t=>jy t.Oh)<;>rfl
    · intro k y hy hk;simp only [iE hk,Om,ij,hy,Ok,vR hN,iK (Nat.lt_trans hk hl)];cases jy y.Oh<;>rfl
    · simp only [iF,Ol]
  unfold sr;simp only [Jx hN h,hok,Ok,yD,k5,iY (n:=(ts.length:Int) - 1) (by omega) (by omega)]
  have h2e:decide ((ts.length:Int)≤3)=!decide ((ts.length:Int) > 3):=by
    by_cases hc:(ts.length:Int)≤3<;>simp [hc]
    omega
  rw [h2e];cases h1:nf ts
  · have:jS ts p t=false:=by unfold jS;rw [h1];rfl
    unfold kn;rw [this];rfl
  cases h2:decide ((ts.length:Int) > 3)
  case true =>
    have:jS ts p t=false:=by unfold jS;rw [h1,h2];rfl
    unfold kn;rw [this];rfl
  cases h3:ku t
  · have:jS ts p t=false:=by unfold jS;rw [h1,h2,h3];rfl
    unfold kn;rw [this];rfl
  cases h4:ia p 0 ((ts.length:Int) - 1)
  · have:jS ts p t=false:=by unfold jS;rw [h1,h2,h3,h4];rfl
    unfold kn;rw [this];rfl
  cases h5:decide (t.jI ≥ (ts.length:Int))
  case true =>
    have:jS ts p t=false:=by unfold jS;rw [h1,h2,h3,h4,h5];rfl
    unfold kn;rw [this];rfl
  rw [iR] at h4
  have p1:p<(ts.length:Int):=by omega
  have ho:=Bo (ts:=ts) h1 h4.1 p1;have h5l:=o3 ho;simp only [On,Bool.not_false,Bool.and_self,Ol,iT (l:=ts) h4.1 p1,Ok,sH hN,ho,Oo];cases h6:i9 (nth ts p).Oh t.Od
  · have:jS ts p t=false:=by unfold jS;rw [h6];simp
    unfold kn;rw [this];rfl
  have hm:jS ts p t=true:=by unfold jS;rw [h1,h2,h3,h5,h6,iR.2 h4];rfl
  obtain ⟨_,_,_,⟨q0,q1⟩,_⟩:=uX hm;obtain ⟨f0,f4⟩:=kZ h6
  simp only [On,Ol,iT (l:=(nth ts p).Oh) f0 (by omega),Ok,HS,D5,sX hN (h.2 _ (kJ h4.1 p1)),
    show rA t (nth (nth ts p).Oh t.Od).iG=vq ts p t from rfl,show ts.set p.toNat (iy.mk (ji (nth ts p).Oh t.Od (lh t.kc (vq ts p t))).1)=nP ts p t from rfl,
    iT (l:=nP ts p t) q0 (by rw [vM];exact q1),xg hN ((AS h h4.1 p1 t).2 _ (kJ q0 (by rw [vM];exact q1)))]
  unfold kn;rw [hm]
  show (bif !(qm ts p t).2 then some (ts,0) else some ((nP ts p t).set t.jI.toNat (iy.mk (qm ts p t).1),vq ts p t))=_
  cases (qm ts p t).2<;>rfl
def lens (ts:List iy):List Nat:=ts.map fun t=>t.Oh.length
theorem Ec {ts:List iy} {k:Nat} {y:iy} {t:List g7} (hy:ts[k]?=some y) (ht:t.length=y.Oh.length):lens (ts.set k (iy.mk t))=lens ts:=by
  unfold lens;rw [List.map_set]
  show (ts.map fun t=>t.Oh.length).set k t.length=_
  rw [ht];apply nh;rw [List.getElem?_map,hy];rfl
theorem xO (ts:List iy) (p:Int) (t:iL):lens (kn ts p t).1=lens ts:=by
  unfold kn;split
  · rename_i h;rw [Oq] at h;obtain ⟨_,_,⟨p0,p1⟩,⟨q0,q1⟩,_⟩:=uX h.1
    show lens ((nP ts p t).set t.jI.toNat (iy.mk (qm ts p t).1))=_
    refine (Ec (oY q0 (by rw [vM];exact q1)) (show (qm ts p t).1.length=_ from vo _ _ _)).trans ?_;exact Ec (oY p0 p1) (kW _ _ _)
  · rfl
theorem z9 {ts us:List iy} (h:oX ts) (e:lens us=lens ts):oX us:=by
  have hl:us.length=ts.length:=by
    have:=congrArg List.length e;unfold lens at this
    rwa [List.length_map,List.length_map] at this
  refine ⟨by rw [hl];exact h.1,fun y hy=>?_⟩;have hm:y.Oh.length ∈ lens us:=List.mem_map.2 ⟨y,hy,rfl⟩;rw [e] at hm;obtain ⟨z,hz,hzz⟩:=List.mem_map.1 hm;rw [← hzz];exact h.2 z hz
def wN (ts:List iy) (p:Int) (gR:List iL):List iy:=gR.foldl (fun ts t=>(kn ts p t).1) ts
theorem ue (p:Int):∀ (gR:List iL) (ts:List iy),lens (wN ts p gR)=lens ts
  | [],_=>rfl
  | t::gR,ts=>(ue p gR (kn ts p t).1).trans (xO ts p t)
theorem D7 {N:Nat} (hN:gS≤N) {gR:List iL} (hl:gR.length<gS) {ts:List iy} (h:oX ts) {p:Int} {F:List iy→iL→Option (List iy×Int)} (hF:∀ ts t,oX ts→F ts t=some (kn ts p t)) :
    iter (fun (s94:(List iy)×Int)=>(bif (decide (s94.2<(gR.length:Int))) then ((idx gR s94.2).bind fun y97=>(F s94.1 y97).bind fun y109=>some (.inl (y109.1,i64.wrap (s94.2+1)))) else (some (.inr (s94.1,s94.2))):Option (((List iy)×Int)⊕((List iy)×Int)))) N (ts,0)=some (wN ts p gR,(gR.length:Int)):=by
  rw [show (ts,(0:Int))=(fun (k:Nat) (t:List iy)=>(t,(k:Int))) 0 ts from rfl,
    jM gR (fun (k:Nat) (t:List iy)=>(t,(k:Int))) (fun _ ts t=>(kn ts p t).1) (fun t=>(t,(gR.length:Int))) (fun _ t=>lens t=lens ts) ?_ ?_ (Nat.lt_of_lt_of_le hl hN) rfl,kX]
  · rfl
  · intro k t y hy hk ht;refine ⟨?_,(xO t p y).trans ht⟩;simp only [iE hk,Om,ij,hy,Ok,hF t y (z9 h ht),iK (Nat.lt_trans hk hl)]
  · intro t _;simp only [iF,Ol]
def il (w:hO) (p:Int):hO:=if ju w&&iX w p then hO.mk w.Oc (ki w.parts (k8 (wN (kl w.parts) p (nth w.parts p).gR))) else w
theorem wx {l:List cd} (hb:iQ ic l<gS):oX (kl l):=by
  refine ⟨by unfold kl kB;rw [List.length_map,List.length_map];exact jz hb,fun t ht=>?_⟩;unfold kl kB at ht;rw [List.map_map] at ht;obtain ⟨p,hp,rfl⟩:=List.mem_map.1 ht;exact (jK (jm hb hp)).2.2.1
theorem xq {l:List cd} {p:Int} {gR:List iL}:(wN (kl l) p gR).length=l.length:=by
  have:=congrArg List.length (ue p gR (kl l));unfold lens kl kB at this;rw [List.length_map,List.length_map,List.length_map,List.length_map] at this;exact this
theorem G8 {N:Nat} (hN:gS≤N) {w:hO} (hb:iQ ic w.parts<gS) (p:Int):qW N w p=some (il w p):=by
  unfold qW il;simp only [sa hN hb,wu hN hb,wh (jz hb),Ok,jR];cases hw:ju w
  · rfl
  cases hp:iX w p
  · rfl
  obtain ⟨e,hm⟩:=jw hp;have hl:=jz hb;have ht:(nth w.parts p).gR.length<gS:=(jK (jm hb hm)).2.2.2.2.2;simp only [On,Bool.or_self,Ol,Bool.and_self,if_true,decide_eq_true (Nat.lt_of_lt_of_le hl hN),decide_eq_true hl,e,Ok];rw [show (gd true).bind=fun (k:Unit→Option hO)=>k () from rfl];simp only [];rw [D7 hN ht (wx hb) (p:=p) (fun ts t h=>H7 hN h p t)];simp only [Ok,xq,decide_true];rfl
theorem I1 {N:Nat} (hN:gS≤N) {ts:List iy} {n:Nat} (hn:ts.length=n) (hl:ts.length<gS) {F:List g7→Option (List g7)} (hF:∀ y,y ∈ ts→F y.Oh=some y.Oh) :
    iter (fun (s114:Int×(List (List g7)))=>(bif (decide (s114.1<(n:Int))) then ((idx ts s114.1).bind fun y117=>(F y117.Oh).bind fun y133=>some (.inl (i64.wrap (s114.1+1),s114.2++[y133]))) else (some (.inr (s114.1,s114.2))):Option ((Int×(List (List g7)))⊕(Int×(List (List g7)))))) N (0,[])=some ((n:Int),k8 ts):=by
  subst hn
  have e:∀ (l:List iy) (k:Nat) (acc:List (List g7)),foldI (fun _ (acc:List (List g7)) (y:iy)=>acc++[y.Oh]) k acc l=acc++k8 l:=by
    intro l
    induction l with
    | nil=>intro k acc;simp [foldI,k8]
    | cons y l ih=>intro k acc;unfold foldI;rw [ih];simp [k8]
  rw [show ((0:Int),([]:List (List g7)))=(fun (k:Nat) (t:List (List g7))=>((k:Int),t)) 0 [] from rfl,
    jM ts (fun (k:Nat) (t:List (List g7))=>((k:Int),t)) (fun _ acc y=>acc++[y.Oh]) (fun t=>((ts.length:Int),t)) (fun _ _=>True) ?_ ?_ (Nat.lt_of_lt_of_le hl hN) trivial,e]
  · rfl
  · intro k t y hy hk _;refine ⟨?_,trivial⟩;simp only [iE hk,Om,ij,hy,Ok,hF y (List.mem_of_getElem? hy),iK (Nat.lt_trans hk hl)]
  · intro t _;simp only [iF,Ol]
theorem GM {N:Nat} (hN:gS≤N) {w:hO} (hb:iQ ic w.parts<gS) (hW:wW w.parts) (p:Int):qJ N w p=some (il w p):=by
  have hl:=jz hb;have hB:(16777216:Nat)=gS:=rfl;unfold qJ il;simp only [uI hN hb,vZ hN hb hW,k5,iY (n:=(w.parts.length:Int) - 1) (by omega) (by omega),Ok,jR];cases hw:ju w
  · rfl
  rw [show ia p 0 ((w.parts.length:Int) - 1)=iX w p from rfl];cases hp:iX w p
  · rfl
  obtain ⟨e,hm⟩:=jw hp;have ht:(nth w.parts p).gR.length<gS:=(jK (jm hb hm)).2.2.2.2.2;have hs:=z9 (wx hb) (ue p (nth w.parts p).gR (kl w.parts));simp only [On,Bool.or_self,Ol,Bool.and_self,if_true,decide_eq_true (Nat.lt_of_lt_of_le hl hN),decide_eq_true hl,e,Ok];rw [show (gd true).bind=fun (k:Unit→Option hO)=>k () from rfl];simp only [];rw [D7 hN ht (wx hb) (p:=p) (fun ts t h=>Iv hN h p t)];simp only [Ok,xq,decide_true];rw [show (gd true).bind=fun (k:Unit→Option hO)=>k () from rfl];simp only [];rw [I1 hN xq hs.1 fun y hy=>oE (hs.2 y hy)];rfl
end Go.Kx
namespace Go.Kx
open Go
open Go.IntKind (i64)
set_option linter.unusedVariables false
set_option linter.unusedSimpArgs false
set_option maxRecDepth 10000
theorem Fv {l:List gP} (h:wA l) (i:Int):nB (nth l i):=by
  unfold nth
  cases e:l[i.toNat]? with
  | none=>show (-9223372036854775808:Int)≤0;decide
  | some o=>exact h o (List.mem_of_getElem? e)
theorem Ab {p:cd} (h:wP p) (now:Int):wP (j0 p now):=by
  unfold j0;split
  · show wA (uk p now)
    unfold uk;split
    · exact kr h (Fv h _)
    · exact h
  · exact h
theorem Ds {p:cd} (h:wP p) (me now:Int):wP (kM p me now):=by
  unfold kM;split
  · intro o ho;obtain ⟨x,hx,rfl⟩:=List.mem_map.1 (show o ∈ p.py.ag.map _ from ho);split
    · show (-9223372036854775808:Int)≤0;decide
    · exact h x hx
  · exact h
theorem Mz {p:cd} (h:wP p) (now:Int):wP (o8 p now).1:=by
  unfold o8;split
  · split
    · exact h
    · exact kr h (Fv h (lE p now))
  · exact h
def oL (p:cd) (i now:Int):cd:=(ky (kM (j0 p now) i now) now 3).1
def tW (n:Nat) (p:cd) (i now:Int):cd:=bif Int.tmod now (n:Int)==i then (o8 (oL p i now) now).1 else oL p i now
def lJ (n:Nat) (k:Nat) (w:hO):hO:=hO.mk (il w (k:Int)).Oc ((il w (k:Int)).parts.set k (tW n (nth (il w (k:Int)).parts (k:Int)) (k:Int) (il w (k:Int)).Oc))
def tick (w:hO):hO:=if ju w&&!(w.Oc==1000000) then foldI (fun k t (_:cd)=>lJ w.parts.length k t) 0 (hO.mk (i64.wrap (w.Oc+1)) w.parts) w.parts else w
theorem xe {p:cd} {b:Nat} (hb:ic p≤b) (h2:b≤2000000) (hw:wP p) (i now:Int):ic (oL p i now)≤b+1200∧wP (oL p i now):=by
  have h1:=Bk p now;have h3:=Bh (j0 p now) i now;obtain ⟨a,c⟩:=F9 (p:=kM (j0 p now) i now) (by omega) (Ds (Ab hw now) i now) now 3;exact ⟨by show ic (ky (kM (j0 p now) i now) now 3).1≤_;omega,c⟩
theorem zn {n:Nat} {p:cd} {b:Nat} (hb:ic p≤b) (h2:b≤2000000) (hw:wP p) (i now:Int):ic (tW n p i now)≤b+1300∧wP (tW n p i now):=by
  obtain ⟨a,c⟩:=xe hb h2 hw i now;unfold tW;cases Int.tmod now (n:Int)==i
  · exact ⟨by simp only [Ol];omega,c⟩
  · have:=L5 (oL p i now) now;exact ⟨by simp only [Om];omega,Mz c now⟩
theorem D1:∀ {l:List cd} {ts:List (List g7)},ts.map List.length=(kB l).map List.length→(ki l ts).length=l.length∧∀ q,q ∈ ki l ts→∃ p,p ∈ l∧ic q=ic p∧q.py=p.py
  | [],[],_=>⟨rfl,fun _ h=>absurd h (by simp [ki])⟩
  | [],_::_,h=>by simp [kB] at h
  | _::_,[],h=>by simp [kB] at h
  | p::l,t::ts,h=>by
    simp only [kB,List.map_cons,List.cons.injEq] at h;obtain ⟨i1,i2⟩:=D1 (l:=l) (ts:=ts) h.2;refine ⟨by show (sQ p t::ki l ts).length=_;simp [i1],fun q hq=>?_⟩
    rcases List.mem_cons.1 (show q ∈ sQ p t::ki l ts from hq) with rfl | hq
    · exact ⟨p,List.mem_cons_self,by unfold ic sQ;simp only [h.1],rfl⟩
    · obtain ⟨y,hy,e⟩:=i2 q hq;exact ⟨y,List.mem_cons_of_mem _ hy,e⟩
theorem BQ (w:hO) (p:Int):(il w p).Oc=w.Oc∧(il w p).parts.length=w.parts.length∧∀ q,q ∈ (il w p).parts→∃ p,p ∈ w.parts∧ic q=ic p∧q.py=p.py:=by
  unfold il;split
  · refine ⟨rfl,D1 ?_⟩;have h:(wN (kl w.parts) p (nth w.parts p).gR).map (fun t=>t.Oh.length)=(kl w.parts).map (fun t=>t.Oh.length):=ue p (nth w.parts p).gR (kl w.parts);unfold k8;rw [List.map_map];refine Eq.trans (show _=(wN (kl w.parts) p (nth w.parts p).gR).map (fun t=>t.Oh.length) from rfl) (h.trans ?_);unfold kl;rw [List.map_map];rfl
  · exact ⟨rfl,rfl,fun q hq=>⟨q,hq,rfl,rfl⟩⟩
structure uJ (n:Nat) (k:Nat) (t:hO):Prop where
  len:t.parts.length=n
  small:n≤3
  sz:∀ p,p ∈ t.parts→ic p≤1048576+1300 * k∧wP p
theorem uJ.nG {n k:Nat} {t:hO} (h:uJ n k t) (hk:k≤3):iQ ic t.parts<gS:=by
  have hB:(16777216:Nat)=gS:=rfl;have h1:iV ic t.parts≤(1048576+1300 * 3) * t.parts.length:=yz fun y hy=>Nat.le_trans (h.sz y hy).1 (by omega);have h2:=h.len;have h3:=h.small;have h4:(1048576+1300 * 3) * t.parts.length≤(1048576+1300 * 3) * 3:=Nat.mul_le_mul_left _ (by omega);unfold iQ;omega
theorem uJ.w {n k:Nat} {t:hO} (h:uJ n k t):wW t.parts:=fun p hp=>(h.sz p hp).2
theorem uJ.gR {n k:Nat} {t:hO} (h:uJ n k t) (p:Int):uJ n k (il t p):=by
  obtain ⟨_,h2,h3⟩:=BQ t p;refine ⟨h2.trans h.len,h.small,fun q hq=>?_⟩;obtain ⟨y,hy,e1,e2⟩:=h3 q hq;obtain ⟨a,b⟩:=h.sz y hy;exact ⟨by omega,by unfold wP at *;rw [e2];exact b⟩
theorem uJ.step {n k:Nat} {t:hO} (h:uJ n k t) (hk:k<n):uJ n (k+1) (lJ n k t):=by
  have hT:=h.gR (k:Int);have hs:=hT.small;refine ⟨by show ((il t (k:Int)).parts.set k _).length=n;rw [List.length_set];exact hT.len,hT.small,fun q hq=>?_⟩
  rcases List.mem_or_eq_of_mem_set (show q ∈ (il t (k:Int)).parts.set k _ from hq) with h1 | h1
  · obtain ⟨a,b⟩:=hT.sz q h1;exact ⟨by omega,b⟩
  · subst h1;have hl:=hT.len;obtain ⟨a,b⟩:=hT.sz _ (kJ (l:=(il t (k:Int)).parts) (i:=(k:Int)) (by omega) (by omega));obtain ⟨c,d⟩:=zn (n:=n) a (by omega) b (k:Int) (il t (k:Int)).Oc;exact ⟨by omega,d⟩
theorem CN {N:Nat} (hN:gS≤N) {w:hO} {body:Int×Int×List cd→Option ((Int×Int×List cd)⊕(Int×Int×List cd))} (h0:uJ w.parts.length 0 (hO.mk (i64.wrap (w.Oc+1)) w.parts))
    (hs:∀ (k:Nat) (t:hO),k<w.parts.length→k<gS→uJ w.parts.length k t→body ((k:Int),t.Oc,t.parts)=some (.inl (((k+1:Nat):Int),(lJ w.parts.length k t).Oc,(lJ w.parts.length k t).parts)))
    (he:∀ t:hO,uJ w.parts.length w.parts.length t→body ((w.parts.length:Int),t.Oc,t.parts)=some (.inr ((w.parts.length:Int),t.Oc,t.parts))) :
    iter body N (0,i64.wrap (w.Oc+1),w.parts)=some ((w.parts.length:Int),(foldI (fun k t (_:cd)=>lJ w.parts.length k t) 0 (hO.mk (i64.wrap (w.Oc+1)) w.parts) w.parts).Oc,(foldI (fun k t (_:cd)=>lJ w.parts.length k t) 0 (hO.mk (i64.wrap (w.Oc+1)) w.parts) w.parts).parts):=by
  have hB:(16777216:Nat)=gS:=rfl;have h3:=h0.small
  exact jM w.parts (fun (k:Nat) (t:hO)=>((k:Int),t.Oc,t.parts)) (fun k t _=>lJ w.parts.length k t) (fun t=>((w.parts.length:Int),t.Oc,t.parts)) (uJ w.parts.length)
    (fun k t y _ hk hI=>⟨hs k t hk (by omega) hI,hI.step hk⟩) he (Nat.lt_of_lt_of_le (show w.parts.length<gS by omega) hN) h0
theorem LC {n:Int} (h:n ≠ 0):dz n=some ():=by unfold dz;rw [if_neg h]
theorem A6 {w:hO} (h:ju w=true):1≤w.parts.length∧w.parts.length≤3∧0≤w.Oc∧w.Oc≤1000000:=by
  unfold ju at h;simp only [Oq,iR] at h;omega
theorem KM {N:Nat} (hN:gS≤N) {w:hO} (hb:iQ ic w.parts<gS) (hW:wW w.parts) (hT0:ju w=true→uJ w.parts.length 0 (hO.mk (i64.wrap (w.Oc+1)) w.parts)):vg N w=some (tick w):=by
  have hB:(16777216:Nat)=gS:=rfl;unfold vg tick;simp only [sa hN hb,wu hN hb,Ok,jR];cases hw:ju w
  · rfl
  cases hm:w.Oc==1000000
  case true=>rfl
  obtain ⟨n1,n3,_,_⟩:=A6 hw;simp only [On,Bool.not_false,Bool.or_self,Ol,Bool.and_self,if_true];rw [CN hN (hT0 hw)]
  · rfl
  · intro k t hk hkB hI;have hT:=hI.gR (k:Int);have hl:=hT.len;obtain ⟨a,b⟩:=hT.sz _ (kJ (l:=(il t (k:Int)).parts) (i:=(k:Int)) (by omega) (by omega));obtain ⟨c,d⟩:=xe a (by omega) b (k:Int) (il t (k:Int)).Oc;have q1:=Bk (nth (il t (k:Int)).parts (k:Int)) (il t (k:Int)).Oc;have q2:=Bh (j0 (nth (il t (k:Int)).parts (k:Int)) (il t (k:Int)).Oc) (k:Int) (il t (k:Int)).Oc
    simp only [iE hk,Om,show hO.mk t.Oc t.parts=t from rfl,G8 hN (hI.nG (by omega)),Ok,iT (l:=(il t (k:Int)).parts) (i:=(k:Int)) (by omega) (by omega),
      F8 hN (p:=nth (il t (k:Int)).parts (k:Int)) (by omega),Gl hN (p:=j0 (nth (il t (k:Int)).parts (k:Int)) (il t (k:Int)).Oc) (by omega)]
    have e1:=Cl hN (p:=kM (j0 (nth (il t (k:Int)).parts (k:Int)) (il t (k:Int)).Oc) (k:Int) (il t (k:Int)).Oc) (by omega) (Ds (Ab b _) _ _) (il t (k:Int)).Oc 3;have e2:=IF hN (p:=oL (nth (il t (k:Int)).parts (k:Int)) (k:Int) (il t (k:Int)).Oc) (by omega) (il t (k:Int)).Oc;unfold oL at e2;have e3:((k:Int)==Int.tmod (il t (k:Int)).Oc (w.parts.length:Int))=(Int.tmod (il t (k:Int)).Oc (w.parts.length:Int)==(k:Int)):=Bool.beq_comm ..;refine Eq.trans (congrArg (fun x=>Option.bind x _) e1) ?_;simp only [Ok,LC (show (w.parts.length:Int) ≠ 0 by omega),e2,e3,iK hkB];unfold lJ tW oL;generalize o8 (ky (kM (j0 (nth (il t (k:Int)).parts (k:Int)) (il t (k:Int)).Oc) (k:Int) (il t (k:Int)).Oc) (il t (k:Int)).Oc 3).1 (il t (k:Int)).Oc=R;generalize ky (kM (j0 (nth (il t (k:Int)).parts (k:Int)) (il t (k:Int)).Oc) (k:Int) (il t (k:Int)).Oc) (il t (k:Int)).Oc 3=C;have hid:=iT (l:=(il t (k:Int)).parts) (i:=(k:Int)) (by omega) (by omega);generalize il t (k:Int)=X at hid ⊢;cases Int.tmod X.Oc (w.parts.length:Int)==(k:Int)
    · simp only [Ol,Ok,hid,Int.toNat_natCast]
    · simp only [Om,Ok,hid,Int.toNat_natCast]
  · intro t _;simp only [iF,Ol]
theorem K9 {N:Nat} (hN:gS≤N) {w:hO} (hb:iQ ic w.parts<gS) (hW:wW w.parts) (hT0:ju w=true→uJ w.parts.length 0 (hO.mk (i64.wrap (w.Oc+1)) w.parts)):vU N w=some (tick w):=by
  have hB:(16777216:Nat)=gS:=rfl;unfold vU tick;simp only [uI hN hb,vZ hN hb hW,Ok,jR];cases hw:ju w
  · rfl
  obtain ⟨n1,n3,m0,m1⟩:=A6 hw
  have hge:decide (w.Oc ≥ 1000000)=(w.Oc==1000000):=by
    by_cases h:w.Oc=1000000
    · simp [h]
    · rw [decide_eq_false (by omega)];simp [h]
  rw [hge];cases hm:w.Oc==1000000
  case true=>rfl
  simp only [On,Bool.not_false,Bool.or_self,Ol,Bool.and_self,if_true];rw [CN hN (hT0 hw)]
  · rfl
  · intro k t hk hkB hI;have hT:=hI.gR (k:Int);have hl:=hT.len;have hl2:=hI.len;obtain ⟨a,b⟩:=hT.sz _ (kJ (l:=(il t (k:Int)).parts) (i:=(k:Int)) (by omega) (by omega));obtain ⟨c,d⟩:=xe a (by omega) b (k:Int) (il t (k:Int)).Oc;have q1:=Bk (nth (il t (k:Int)).parts (k:Int)) (il t (k:Int)).Oc;have q2:=Bh (j0 (nth (il t (k:Int)).parts (k:Int)) (il t (k:Int)).Oc) (k:Int) (il t (k:Int)).Oc
    simp only [hl2,iE hk,Om,show hO.mk t.Oc t.parts=t from rfl,GM hN (hI.nG (by omega)) hI.w,Ok,iT (l:=(il t (k:Int)).parts) (i:=(k:Int)) (by omega) (by omega),
      He hN (p:=nth (il t (k:Int)).parts (k:Int)) (by omega) b]
    have e0:=Ga hN (p:=j0 (nth (il t (k:Int)).parts (k:Int)) (il t (k:Int)).Oc) (by omega) (Ab b _) (k:Int) (il t (k:Int)).Oc;have e1:=Cw hN (p:=kM (j0 (nth (il t (k:Int)).parts (k:Int)) (il t (k:Int)).Oc) (k:Int) (il t (k:Int)).Oc) (by omega) (Ds (Ab b _) _ _) (il t (k:Int)).Oc 3;have e2:=H4 hN (p:=oL (nth (il t (k:Int)).parts (k:Int)) (k:Int) (il t (k:Int)).Oc) (by omega) d (il t (k:Int)).Oc;unfold oL at e2;refine Eq.trans (congrArg (fun x=>Option.bind x _) e0) ?_;simp only [Ok,e1,hl,LC (show (w.parts.length:Int) ≠ 0 by omega),e2,iK hkB];unfold lJ tW oL;generalize o8 (ky (kM (j0 (nth (il t (k:Int)).parts (k:Int)) (il t (k:Int)).Oc) (k:Int) (il t (k:Int)).Oc) (il t (k:Int)).Oc 3).1 (il t (k:Int)).Oc=R;generalize ky (kM (j0 (nth (il t (k:Int)).parts (k:Int)) (il t (k:Int)).Oc) (k:Int) (il t (k:Int)).Oc) (il t (k:Int)).Oc 3=C;have hid:=iT (l:=(il t (k:Int)).parts) (i:=(k:Int)) (by omega) (by omega);generalize il t (k:Int)=X at hid ⊢;cases Int.tmod X.Oc (w.parts.length:Int)==(k:Int)
    · simp only [Ol,Ok,hid,Int.toNat_natCast]
    · simp only [Om,Ok,hid,Int.toNat_natCast]
  · intro t ht;simp only [ht.len,iF,Ol]
end Go.Kx
namespace Go.Kx
open Go
open Go.IntKind (i64)
set_option linter.unusedVariables false
set_option linter.unusedSimpArgs false
set_option maxRecDepth 10000
theorem LS {t:List g7} {f:Int} {a:hJ} (h:(ji t f a).2=false):(ji t f a).1=t:=by
  unfold ji at h ⊢;split
  · rename_i q;rw [if_pos q] at h;split
    · rename_i q2;rw [if_pos q2] at h;cases h
    · rfl
  · rfl
theorem C6 {t:List g7} {f:Int} {a:hJ} (h:(ji t f a).2=true):jy t=true∧i9 t f=true:=by
  unfold ji at h;split at h
  · rename_i q;simpa using q
  · cases h
theorem Jc (t:List g7) (f:Int) (a:hJ):(ji t f a).1.map g7.Of=t.map g7.Of:=by
  unfold ji;split
  · rename_i q;simp only [Oq] at q;obtain ⟨f0,f4⟩:=kZ q.2;have hl:=o3 q.1;split
    · rw [List.map_set];refine nh ?_;rw [List.getElem?_map,oY f0 (by omega)];rfl
    · rfl
  · rfl
def w7:Nat→List Bool→Option Nat
  | _,[]=>none
  | k,b::l=>if b then w7 (k+1) l else some k
theorem Fw {ρ:Type} (g:Nat→ρ) (r:ρ):∀ (l:List g7) (k:Nat),kR (fun k (_:Unit) (y:g7)=>if y.Of then .inl () else .inr (g k)) (fun _=>r) k () l=(match w7 k (l.map g7.Of) with | none=>r | some k=>g k)
  | [],k=>rfl
  | y::l,k=>by
    unfold kR;simp only [List.map_cons,w7];cases y.Of
    · rfl
    · exact Fw g r l (k+1)
theorem CM {ρ:Type} {N:Nat} (hN:gS≤N) {x:List g7} (hx:x.length<gS) (g:Nat→ρ) (r:ρ) {body:Int→Option (Int⊕ρ)}
    (hs:∀ (k:Nat) (y:g7),x[k]?=some y→k<x.length→body (k:Int)=some (if y.Of then .inl ((k+1:Nat):Int) else .inr (g k))) (he:body (x.length:Int)=some (.inr r)) :
    iter body N 0=some (match w7 0 (x.map g7.Of) with | none=>r | some k=>g k):=by
  rw [show (0:Int)=(fun (k:Nat) (_:Unit)=>(k:Int)) 0 () from rfl,
    lD x (fun (k:Nat) (_:Unit)=>(k:Int)) (fun k _ y=>if y.Of then .inl () else .inr (g k)) (fun _=>r) (fun _ _=>True) ?_ ?_ (Nat.lt_of_lt_of_le hx hN) trivial,Fw]
  · intro k _ y hy hk _;refine ⟨?_,fun _ _=>trivial⟩
    show body (k:Int)=_
    rw [hs k y hy hk];cases y.Of<;>rfl
  · intro _ _;exact he
def ly (t:List g7) (f:Int) (a:hJ):List g7×Int×Bool :=
  if (ji t f a).2 then (match w7 0 (t.map g7.Of) with | none=>(t,0,false) | some k=>((ji t f a).1.set k (g7.mk true f a),(k:Int),true)) else (t,0,false)
theorem Cu (t:List g7) (f:Int) (a:hJ):(ly t f a).1.length=t.length:=by
  unfold ly;split
  · split
    · rfl
    · simp only [List.length_set,kW]
  · rfl
theorem EE {N:Nat} (hN:gS≤N) {t:List g7} (hB:t.length<gS) (f:Int) (a:hJ):pX N t f a=some (ly t f a):=by
  unfold pX ly;simp only [um hN hB,Ok];cases h:(ji t f a).2
  · simp only [Bool.not_false,Om,LS h,Bool.false_eq_true,if_false]
  simp only [On,Ol,if_true];rw [CM hN hB (fun k=>Sum.inr ((ji t f a).1.set k (g7.mk true f a),(k:Int),true)) (Sum.inl (t.length:Int))]
  · simp only [Ok];cases w7 0 (t.map g7.Of)
    · simp only [Sum.elim_inl,ot hB,Ok]
    · rfl
  · intro k y hy hk;have hp:=kW t f a;simp only [iE hk,Om,ij,hy,Ok,iK (Nat.lt_trans hk hB),Int.toNat_natCast];cases y.Of
    · have:((ji t f a).1[k]?)=some ((ji t f a).1[k]'(by omega)):=List.getElem?_eq_getElem (by omega);simp only [this,Bool.not_false,Om,Ok,Bool.false_eq_true,if_false]
    · simp only [On,Ol,if_true]
  · simp only [iF,Ol]
theorem ED {N:Nat} (hN:gS≤N) {t:List g7} (hB:t.length<gS) (f:Int) (a:hJ):pV N t f a=some (ly t f a):=by
  unfold pV ly;simp only [sX hN hB,Ok];cases h:(ji t f a).2
  · simp only [Bool.not_false,Om,oE hB,Ok,Bool.false_eq_true,if_false]
  have hp:=kW t f a;simp only [On,Ol,if_true];rw [CM (x:=(ji t f a).1) hN (by omega) (fun k=>Sum.inr ((ji t f a).1.set k (g7.mk true f a),(k:Int),true)) (Sum.inl ((ji t f a).1.length:Int)),Jc]
  · simp only [Ok];cases w7 0 (t.map g7.Of)
    · simp only [Sum.elim_inl,oE hB,Ok]
    · rfl
  · intro k y hy hk;simp only [iE hk,Om,ij,hy,Ok,iK (show k<gS by omega),Int.toNat_natCast];cases y.Of<;>rfl
  · simp only [iF,Ol]
def mR (t:List g7) (f g:Int) (a:hJ):List g7×Bool:=if (ji t f a).2&&i9 t g then pG (ji t f a).1 g a else (t,false)
theorem Dw (t:List g7) (f g:Int) (a:hJ):(mR t f g a).1.length=t.length:=by
  unfold mR;split
  · rw [vo,kW]
  · rfl
theorem Hg {N:Nat} (hN:gS≤N) {t:List g7} (hB:t.length<gS) (f g:Int) (a:hJ):qX N t f g a=some (mR t f g a):=by
  unfold qX mR;have hp:=kW t f a;simp only [um hN hB,Ok];cases h:(ji t f a).2
  · simp only [Bool.not_false,Om,ot hB,Ok,Bool.false_and,Bool.false_eq_true,if_false]
  have hl:=o3 (C6 h).1;simp only [On,Ol,rk N hl,Ok,Oo];cases i9 t g
  · simp only [Bool.not_false,Om,ot hB,Ok,Bool.false_eq_true,if_false]
  · simp only [On,Ol,if_true,w9 hN (show (ji t f a).1.length<gS by omega),Ok]
theorem GC {N:Nat} (hN:gS≤N) {t:List g7} (hB:t.length<gS) (f g:Int) (a:hJ):rh N t f g a=some (mR t f g a):=by
  unfold rh mR;have hp:=kW t f a;simp only [sH hN,sX hN hB,Ok];cases h:(ji t f a).2
  · cases jy t&&i9 t g<;>simp only [Bool.not_false,On,Om,Ol,oE hB,Ok,Bool.false_and,Bool.false_eq_true,if_false]
  rw [(C6 h).1];simp only [Oo];cases i9 t g
  · simp only [Bool.not_false,Om,oE hB,Ok,Bool.false_eq_true,if_false]
  · simp only [On,Ol,if_true,xg hN (show (ji t f a).1.length<gS by omega),Ok]
theorem IT {t:List g7} (h:Tr t) {i:Int} (hv:i9 t i=true) (hi:i ≠ 0):0≤up t i∧up t i≤4∧up t i ≠ i∧(nth t (up t i)).Of=true:=by
  obtain ⟨i0,i4⟩:=kZ hv;have hl:=h.len;have hg:=oY (l:=t) i0 (by omega)
  have hlv:(nth t i).Of=true:=by
    unfold i9 at hv;simp only [Oq] at hv;exact hv.2
  have h1:=h.lead i.toNat (nth t i) hg hlv;rw [show ((i.toNat:Nat):Int)=i by omega] at h1
  have hne:up t i ≠ i:=fun q=>by rw [zt hi q] at h1;cases h1
  have h2:leads t 4 (up t i)=true:=by
    unfold leads at h1;simpa [hi,hv] using h1
  by_cases hu:up t i=0
  · rw [hu];exact ⟨by omega,by omega,fun q=>hi q.symm,h.Gv⟩
  · unfold leads at h2
    have h3:i9 t (up t i)=true:=by
      cases q:i9 t (up t i)
      · simp [hu,q] at h2
      · rfl
    obtain ⟨a,b⟩:=kZ h3;unfold i9 at h3;simp only [Oq] at h3;exact ⟨a,b,hne,h3.2⟩
def B7 (s:hJ) (B:Int):Prop:=(0≤s.gE∧s.gE≤B)∧(0≤s.gT∧s.gT≤B)∧(0≤s.g8∧s.g8≤B)
theorem BO {s a:hJ} {B:Int} (hs:B7 s B) (ha:iH a=true) (hB:B≤1000000000):(iO s a).gE=s.gE+a.gE∧(iO s a).gT=s.gT+a.gT∧(iO s a).g8=s.g8+a.g8∧B7 (iO s a) (B+1000000):=by
  have h:=kA.1 ha;unfold B7 at hs;have w1:(iO s a).gE=s.gE+a.gE:=iY (by omega) (by omega);have w2:(iO s a).gT=s.gT+a.gT:=iY (by omega) (by omega);have w3:(iO s a).g8=s.g8+a.g8:=iY (by omega) (by omega);exact ⟨w1,w2,w3,⟨by omega,by omega⟩,⟨by omega,by omega⟩,⟨by omega,by omega⟩⟩
theorem zH:∀ (t:List g7) (s:hJ) (B:Int),(∀ r,r ∈ t→iH r.iG=true)→0≤B→B+1000000 * (t.length:Int)≤1000000000→B7 s B→∀ (k:Nat) (r:g7),t[k]?=some r→r.Of=true →
    s.gE+r.iG.gE≤(jh s t).gE∧s.gT+r.iG.gT≤(jh s t).gT∧s.g8+r.iG.g8≤(jh s t).g8
  | [],s,B,_,_,_,_,k,r,hr,_=>by simp at hr
  | x::t,s,B,h,hB,hL,hs,k,r,hr,hv=>by
    have hx:=h x (by simp);simp only [List.length_cons] at hL;obtain ⟨w1,w2,w3,w4⟩:=BO hs hx (by omega);have hx':=kA.1 hx;have e:jh s (x::t)=jh (if x.Of then iO s x.iG else s) t:=rfl;rw [e];have ht:∀ r,r ∈ t→iH r.iG=true:=fun r hr=>h r (by simp [hr])
    match k with
    | 0 =>
      simp only [List.getElem?_cons_zero,Option.some.injEq] at hr;subst hr;rw [if_pos hv];obtain ⟨⟨a1,a2,a3⟩,_⟩:=uY t (iO s x.iG) (B+1000000) ht (by omega) (by omega) w4.1 w4.2.1 w4.2.2;exact ⟨by omega,by omega,by omega⟩
    | k+1 =>
      rw [List.getElem?_cons_succ] at hr;cases hxl:x.Of
      · exact zH t s B ht hB (by omega) hs k r hr hv
      · obtain ⟨a1,a2,a3⟩:=zH t (iO s x.iG) (B+1000000) ht (by omega) (by omega) w4 k r hr hv;rw [if_pos rfl];exact ⟨by omega,by omega,by omega⟩
theorem xA:∀ (t:List g7) (s:hJ) (B:Int),(∀ r,r ∈ t→iH r.iG=true)→0≤B→B+1000000 * (t.length:Int)≤1000000000→B7 s B→∀ (k j:Nat) (r q:g7),k<j→t[k]?=some r→r.Of=true→t[j]?=some q→q.Of=true →
    r.iG.gE+q.iG.gE≤(jh s t).gE∧r.iG.gT+q.iG.gT≤(jh s t).gT∧r.iG.g8+q.iG.g8≤(jh s t).g8
  | [],s,B,_,_,_,_,k,j,r,q,_,hr,_,_,_=>by simp at hr
  | x::t,s,B,h,hB,hL,hs,k,j,r,q,hkj,hr,hv,hq,hw=>by
    have hx:=h x (by simp);simp only [List.length_cons] at hL;obtain ⟨w1,w2,w3,w4⟩:=BO hs hx (by omega);have e:jh s (x::t)=jh (if x.Of then iO s x.iG else s) t:=rfl;rw [e];have ht:∀ r,r ∈ t→iH r.iG=true:=fun r hr=>h r (by simp [hr]);unfold B7 at hs
    match k,j,hkj with
    | 0,j+1,_ =>
      simp only [List.getElem?_cons_zero,Option.some.injEq] at hr;subst hr;rw [List.getElem?_cons_succ] at hq;rw [if_pos hv];obtain ⟨a1,a2,a3⟩:=zH t (iO s x.iG) (B+1000000) ht (by omega) (by omega) w4 j q hq hw;exact ⟨by omega,by omega,by omega⟩
    | k+1,j+1,hkj =>
      rw [List.getElem?_cons_succ] at hr hq;cases hxl:x.Of
      · exact xA t s B ht hB (by omega) hs k j r q (by omega) hr hv hq hw
      · rw [if_pos rfl];exact xA t (iO s x.iG) (B+1000000) ht (by omega) (by omega) w4 k j r q (by omega) hr hv hq hw
theorem KN {t:List g7} (h:Tr t) {u i:Int} (hu:0≤u∧u≤4) (hi:0≤i∧i≤4) (hne:u ≠ i) (h1:(nth t u).Of=true) (h2:(nth t i).Of=true):kf (nth t u).iG (nth t i).iG=(iO (nth t u).iG (nth t i).iG,true):=by
  have hl:=h.len
  have z:B7 ⟨0,0,0⟩ 0:=by unfold B7;decide
  have hS:=kA.1 h.sum;have gu:=oY (l:=t) (i:=u) hu.1 (by omega);have gi:=oY (l:=t) (i:=i) hi.1 (by omega);have bu:=h.iG _ (List.mem_of_getElem? gu);have bi:=h.iG _ (List.mem_of_getElem? gi);have bu':=kA.1 bu;have bi':=kA.1 bi
  have key:(nth t u).iG.gE+(nth t i).iG.gE≤(jh ⟨0,0,0⟩ t).gE∧(nth t u).iG.gT+(nth t i).iG.gT≤(jh ⟨0,0,0⟩ t).gT∧(nth t u).iG.g8+(nth t i).iG.g8≤(jh ⟨0,0,0⟩ t).g8:=by
    rcases Int.lt_or_gt_of_ne hne with q | q
    · exact xA t ⟨0,0,0⟩ 0 h.iG (by omega) (by omega) z u.toNat i.toNat _ _ (by omega) gu h1 gi h2
    · obtain ⟨a,b,c⟩:=xA t ⟨0,0,0⟩ 0 h.iG (by omega) (by omega) z i.toNat u.toNat _ _ (by omega) gi h2 gu h1;exact ⟨by omega,by omega,by omega⟩
  have v1:(iO (nth t u).iG (nth t i).iG).gE=(nth t u).iG.gE+(nth t i).iG.gE:=iY (by omega) (by omega);have v2:(iO (nth t u).iG (nth t i).iG).gT=(nth t u).iG.gT+(nth t i).iG.gT:=iY (by omega) (by omega);have v3:(iO (nth t u).iG (nth t i).iG).g8=(nth t u).iG.g8+(nth t i).iG.g8:=iY (by omega) (by omega);have:iH (iO (nth t u).iG (nth t i).iG)=true:=kA.2 ⟨by omega,by omega,by omega⟩;unfold kf;rw [bu,bi,this];rfl
def vi (i u:Int) (r:g7):g7:=if r.Of&&(r.Og==i) then g7.mk r.Of u r.iG else r
def dropped (t:List g7) (i:Int):List g7:=(t.set (up t i).toNat (A1 (nth t (up t i)) (iO (nth t (up t i)).iG (nth t i).iG))).set i.toNat qD
def mQ (t:List g7) (i:Int):List g7×Bool:=if (jy t&&i9 t i)&&(i != 0) then ((dropped t i).map (vi i (up t i)),true) else (t,false)
theorem DB (t:List g7) (i:Int):(mQ t i).1.length=t.length:=by
  unfold mQ dropped;split<;>simp
theorem Gk {N:Nat} (hN:gS≤N) {t:List g7} (hB:t.length<gS) (i:Int):qG N t i=some (mQ t i):=by
  unfold qG mQ;simp only [oE hB,sH hN,Ok,jR];cases h:(jy t&&i9 t i)
  · rfl
  simp only [Oq] at h;have hT:=rE.1 h.1;have hl:=hT.len;cases hi:(i==0)
  case true=>simp only [On,Bool.or_true,Om,Oo,bne,hi,Bool.false_eq_true,if_false]
  have hi':i ≠ 0:=by simpa using hi
  obtain ⟨i0,i4⟩:=kZ h.2;obtain ⟨u0,u4,une,ulv⟩:=IT hT h.2 hi'
  have ilv:(nth t i).Of=true:=by
    have:=h.2;unfold i9 at this;simp only [Oq] at this;exact this.2
  have eu:idx t (nth t i).Og=some (nth t (up t i)):=iT (i:=up t i) u0 (by omega);have ff:=KN hT ⟨u0,u4⟩ ⟨i0,i4⟩ une ulv ilv;have e2:∀ z,idx (t.set (nth t i).Og.toNat z) i=some (nth (t.set (nth t i).Og.toNat z) i):=fun z=>iT i0 (by simp only [List.length_set];omega);simp only [On,Bool.or_false,Ol,iT (l:=t) i0 (by omega),eu,vJ,ff,Ok,e2,bne,hi,Bool.not_false,Bool.and_self,if_true];rw [show (((t.set (nth t i).Og.toNat (g7.mk (nth t (up t i)).Of (nth t (up t i)).Og (hJ.mk (iO (nth t (up t i)).iG (nth t i).iG).gE (iO (nth t (up t i)).iG (nth t i).iG).gT (iO (nth t (up t i)).iG (nth t i).iG).g8))).set i.toNat (g7.mk false 0 (hJ.mk 0 0 0))))=dropped t i from rfl];rw [sG (dropped t i) (vi i (up t i)) (show (dropped t i).length<N by unfold dropped;simp only [List.length_set];omega)]
  · rfl
  · intro k x y hx hty _ hk
    have hk':k<x.length:=by omega
    have hk2:k<t.length:=by unfold dropped at hk;simp only [List.length_set] at hk;omega
    simp only [iE hk',Om,ij,hty,Ok,kp,iK (show k<gS by omega),Int.toNat_natCast];unfold vi;cases (y.Of&&(y.Og==i))
    · simp only [Ol,Bool.false_eq_true,if_false,nh hty]
    · simp only [Om,if_true];rfl
  · intro x hx;rw [← hx];simp only [iF,Ol]
theorem Hi {N:Nat} (hN:gS≤N) {t:List g7} (hB:t.length<gS) (i:Int):rm N t i=some (mQ t i):=by
  unfold rm mQ;simp only [ot hB,ri hN,Ok];cases ht:jy t
  · rfl
  have hT:=rE.1 ht;have hl:=hT.len;cases hi:(i==0)
  case true=>simp only [On,Ol,Om,Ok,Oo,bne,hi,Bool.and_false,Bool.false_eq_true,if_false]
  have hi':i ≠ 0:=by simpa using hi
  simp only [On,Ol,rk N hl,Ok];cases hv:i9 t i
  · rfl
  obtain ⟨i0,i4⟩:=kZ hv;obtain ⟨u0,u4,une,ulv⟩:=IT hT hv hi';have eu:idx t (nth t i).Og=some (nth t (up t i)):=iT (i:=up t i) u0 (by omega);have e2:∀ z,idx (t.set (nth t i).Og.toNat z) i=some (nth (t.set (nth t i).Og.toNat z) i):=fun z=>iT i0 (by simp only [List.length_set];omega);simp only [On,Ol,iT (l:=t) i0 (by omega),eu,sN,Ok,e2,bne,hi,Bool.not_false,Bool.and_self,if_true];rw [show (((t.set (nth t i).Og.toNat (g7.mk (nth t (up t i)).Of (nth t (up t i)).Og (iO (nth t (up t i)).iG (nth t i).iG))).set i.toNat (g7.mk false 0 (hJ.mk 0 0 0))))=dropped t i from rfl];rw [sG (dropped t i) (vi i (up t i)) (show (dropped t i).length<N by unfold dropped;simp only [List.length_set];omega)]
  · rfl
  · intro k x y hx hty _ hk
    have hk':k<t.length:=by unfold dropped at hk;simp only [List.length_set] at hk;omega
    simp only [iE hk',Om,ij,hty,Ok,kp,iK (show k<gS by omega),Int.toNat_natCast];unfold vi;cases (y.Of&&(y.Og==i))
    · simp only [Ol,Bool.false_eq_true,if_false,nh hty]
    · simp only [Om,if_true];rfl
  · intro x hx;rw [show (dropped t i).length=t.length by unfold dropped;simp only [List.length_set]];simp only [iF,Ol]
end Go.Kx
