import Derived.Test.YtlcgibcdiikheaaGreatLPay
namespace Go.Kx
open Go
open Go.IntKind (i64)
set_option linter.unusedVariables false
set_option linter.unusedSimpArgs false
set_option maxRecDepth 10000
theorem C2 {N:Nat} (hN:gX≤N) {w:List cd} (hl:w.length<gX) {F:cd→Option cd} (hF:∀ y,y ∈ w→F y=some y) :
    iter (fun (s8:Int×(List cd))=>(bif (decide (s8.1<(w.length:Int))) then ((idx w s8.1).bind fun y11=>(F y11).bind fun y41=>(app s8.2 [y41]).bind fun y57=>some (.inl (i64.wrap (s8.1+1),y57))) else (some (.inr (s8.1,s8.2))):Option ((Int×(List cd))⊕(Int×(List cd))))) N (0,[])=some ((w.length:Int),w):=by
  have e:∀ (l:List cd) (k:Nat) (acc:List cd),foldI (fun _ (acc:List cd) y=>acc++[y]) k acc l=acc++l:=by
    intro l
    induction l with
    | nil=>intro k acc;simp [foldI]
    | cons y l ih=>intro k acc;unfold foldI;rw [ih];simp
  rw [show ((0:Int),([]:List cd))=(fun (k:Nat) (t:List cd)=>((k:Int),t)) 0 [] from rfl,
    kO w (fun (k:Nat) (t:List cd)=>((k:Int),t)) (fun _ acc y=>acc++[y]) (fun t=>((w.length:Int),t)) (fun k t=>t.length≤k) ?_ ?_ (Nat.lt_of_lt_of_le hl hN) (by simp),e]
  · simp
  · intro k t y hy hk ht;refine ⟨?_,by simp;omega⟩;simp only [iX hk,Rb,iE,hy,Q8,hF y (List.mem_of_getElem? hy),iZ (Nat.lt_trans hk hl),kX ht (Nat.lt_of_le_of_lt hk hl)]
  · intro t _;simp only [iW,Q9]
theorem Ak {N:Nat} (hN:gX≤N) {w:g7} (hb:iY ij w.parts<gX):oY N w=some w:=by
  unfold oY;rw [C2 hN (lN hb) fun y hy=>vc hN (kn hb hy)];rfl
theorem vF {N:Nat} (hN:gX≤N) {w:g7} (hb:iY ij w.parts<gX):nN N w=some w:=by
  unfold nN;rw [C2 hN (lN hb) fun y hy=>sc hN (kn hb hy)];rfl
theorem CQ {N:Nat} (hN:gX≤N) {w:List iB} (hl:w.length<gX) {F:List g6→Option (List g6)} (hF:∀ y,y ∈ w→F y.list=some y.list) :
    iter (fun (s4:(List iB)×Int)=>(bif (decide (s4.2<(w.length:Int))) then ((idx w s4.2).bind fun y7=>(F y7.list).bind fun y22=>(app s4.1 [iB.mk y22]).bind fun y26=>some (.inl (y26,i64.wrap (s4.2+1)))) else (some (.inr (s4.1,s4.2))):Option (((List iB)×Int)⊕((List iB)×Int)))) N ([],0)=some (w,(w.length:Int)):=by
  rw [pc w (fun _ _=>true) (fun _ y=>y) hl hN]
  · rw [pY (fun _=>true) w 0];simp
  · intro k t y hy hk ht;simp only [iX hk,Rb,iE,hy,Q8,hF y (List.mem_of_getElem? hy),iZ (Nat.lt_trans hk hl),kX ht (Nat.lt_of_le_of_lt hk hl),if_true]
  · intro t;simp only [iW,Q9]
def qi (ts:List iB):Prop:=ts.length<gX∧∀ t,t ∈ ts→t.list.length<gX
theorem GG {N:Nat} (hN:gX≤N) {ts:List iB} (h:qi ts):oX N ts=some ts:=by
  unfold oX;rw [CQ hN h.1 fun y hy=>we (h.2 y hy)];rfl
theorem Mf {N:Nat} (hN:gX≤N) {ts:List iB} (h:qi ts):sA N ts=some ts:=by
  unfold sA;rw [CQ hN h.1 fun y hy=>pM (h.2 y hy)];rfl
def lO (a:gT) (w:Int):Int:=if w==0 then a.bh else if w==1 then a.gS else if w==2 then a.gW else 0
theorem JF (N:Nat) (a:gT) (w:Int):ti N a w=some (lO a w):=by
  unfold ti lO;cases w==0<;>cases w==1<;>cases w==2<;>rfl
theorem CV (N:Nat) (a:gT) (w:Int):rz N a w=some (lO a w):=by
  unfold rz lO;cases w==0<;>cases w==1<;>cases w==2<;>rfl
def ns (t:i7) (n:Int):Int:=if t.py==1 then (if n<t.mb then n else t.mb) else i64.wrap (Int.tdiv (i64.wrap (t.mb * n)) 100)
def sM (t:i7) (a:gT):Int:=if ly t&&iC a then ns t (lO a t.kH) else 0
theorem Jw (N:Nat) (t:i7) (a:gT):tW N t a=some (sM t a):=by
  unfold tW sM ns;simp only [BX,um,Q8,lM,JF];cases ly t
  · rfl
  cases iC a
  · rfl
  cases t.py==1<;>rfl
theorem JP (N:Nat) (t:i7) (a:gT):tY N t a=some (sM t a):=by
  unfold tY sM ns;simp only [zL,rh,Q8,lM,CV];cases ly t
  · rfl
  cases iC a
  · rfl
  cases t.py==1
  · simp only [Rd,Bool.or_self,Q9,Bool.and_self,if_true,Bool.false_eq_true,if_false];rw [Int.mul_comm]
  · simp only [Rd,Bool.or_self,Q9,Rb,Bool.and_self,if_true];congr 1;split<;>split<;>omega
theorem AK {t:i7} {n:Int} (ht:ly t=true) (h0:0≤n) (h1:n≤1000000):0≤ns t n∧ns t n≤n:=by
  unfold ly at ht;simp only [Rg,Bool.or_eq_true,ir,beq_iff_eq] at ht;unfold ns
  rcases ht.2 with ⟨hk,r0,r1⟩ | ⟨hk,r0,r1⟩
  · rw [hk];simp only [beq_self_eq_true,if_true];split<;>omega
  · rw [hk,show ((2:Int)==1)=false from rfl];simp only [Bool.false_eq_true,if_false];have m1:0≤t.mb * n:=Int.mul_nonneg r0 h0;have m2:t.mb * n≤100 * n:=Int.mul_le_mul_of_nonneg_right r1 h0;rw [ig (n:=t.mb * n) (by omega) (by omega),Int.tdiv_eq_ediv_of_nonneg m1]
    have d0:0≤t.mb * n / 100:=by omega
    have d1:t.mb * n / 100≤n:=by omega
    rw [ig (by omega) (by omega)];exact ⟨d0,d1⟩
theorem Jm {t:i7} {a:gT} (ht:ly t=true) (ha:iC a=true):lY (lG t.kH (sM t a)) a=true:=by
  unfold sM;rw [ht,ha];simp only [Bool.and_self,if_true];have ht':=ht;unfold ly at ht';simp only [Rg,ir] at ht';have ha':=iR.1 ha
  have hw:t.kH=0∨t.kH=1∨t.kH=2:=by omega
  unfold lY;rw [ha]
  rcases hw with e | e | e<;>rw [e]
  · obtain ⟨q0,q1⟩:=AK ht (n:=lO a 0) ha'.1.1 ha'.1.2;have q2:ns t (lO a 0)≤a.bh:=q1;have:iC (lG 0 (ns t (lO a 0)))=true:=iR.2 (show (0≤ns t (lO a 0)∧ns t (lO a 0)≤1000000)∧(0≤(0:Int)∧(0:Int)≤1000000)∧(0≤(0:Int)∧(0:Int)≤1000000) from ⟨⟨q0,by omega⟩,by decide,by decide⟩);rw [this];simp only [Re,Rg,decide_eq_true_eq];exact ⟨q2,ha'.2.1.1,ha'.2.2.1⟩
  · obtain ⟨q0,q1⟩:=AK ht (n:=lO a 1) ha'.2.1.1 ha'.2.1.2;have q2:ns t (lO a 1)≤a.gS:=q1;have:iC (lG 1 (ns t (lO a 1)))=true:=iR.2 (show (0≤(0:Int)∧(0:Int)≤1000000)∧(0≤ns t (lO a 1)∧ns t (lO a 1)≤1000000)∧(0≤(0:Int)∧(0:Int)≤1000000) from ⟨by decide,⟨q0,by omega⟩,by decide⟩);rw [this];simp only [Re,Rg,decide_eq_true_eq];exact ⟨ha'.1.1,q2,ha'.2.2.1⟩
  · obtain ⟨q0,q1⟩:=AK ht (n:=lO a 2) ha'.2.2.1 ha'.2.2.2;have q2:ns t (lO a 2)≤a.gW:=q1;have:iC (lG 2 (ns t (lO a 2)))=true:=iR.2 (show (0≤(0:Int)∧(0:Int)≤1000000)∧(0≤(0:Int)∧(0:Int)≤1000000)∧(0≤ns t (lO a 2)∧ns t (lO a 2)≤1000000) from ⟨by decide,by decide,⟨q0,by omega⟩⟩);rw [this];simp only [Re,Rg,decide_eq_true_eq];exact ⟨ha'.1.1,ha'.2.1.1,q2⟩
def l8 (ts:List iB):Bool:=ts.all fun t=>jD t.list
def kD (ts:List iB) (p:Int) (t:i7):Bool :=
  l8 ts&&(!decide ((ts.length:Int) > 3)&&(ly t&&(ic p 0 ((ts.length:Int) - 1)&&(!decide (t.jz ≥ (ts.length:Int))&&iH (nth ts p).list t.res))))
def sW (ts:List iB) (p:Int) (t:i7):Int:=sM t (nth (nth ts p).list t.res).iw
def k6 (ts:List iB) (p:Int) (t:i7):List iB:=ts.set p.toNat (iB.mk (iQ (nth ts p).list t.res (lG t.kH (sW ts p t))).1)
def nh (ts:List iB) (p:Int) (t:i7):List g6×Bool:=mw (nth (k6 ts p t) t.jz).list t.nD (lG t.kH (sW ts p t))
def k8 (ts:List iB) (p:Int) (t:i7):List iB×Int :=
  if kD ts p t&&(nh ts p t).2 then ((k6 ts p t).set t.jz.toNat (iB.mk (nh ts p t).1),sW ts p t) else (ts,0)
theorem KH {ts:List iB} (h:qi ts) {k:Nat} {t:List g6} (ht:t.length<gX):qi (ts.set k (iB.mk t)):=by
  refine ⟨by rw [List.length_set];exact h.1,fun y hy=>?_⟩
  rcases List.mem_or_eq_of_mem_set hy with h1 | h1
  · exact h.2 y h1
  · subst h1;exact ht
theorem zN {ts:List iB} {p:Int} (h:l8 ts=true) (h0:0≤p) (h1:p<(ts.length:Int)):jD (nth ts p).list=true:=by
  unfold l8 at h;rw [List.all_eq_true] at h;exact h _ (j7 h0 h1)
theorem vg {ts:List iB} {p:Int} {t:i7} (h:kD ts p t=true):l8 ts=true∧ly t=true∧(0≤p∧p<(ts.length:Int))∧(0≤t.jz∧t.jz<(ts.length:Int))∧iH (nth ts p).list t.res=true:=by
  unfold kD at h;simp only [Rg,Bool.not_eq_true',decide_eq_false_iff_not,ir] at h;obtain ⟨h1,_,h2,h3,h4,h5⟩:=h;have h2':=h2;unfold ly at h2';simp only [Rg,ir] at h2';exact ⟨h1,h2,⟨h3.1,by omega⟩,⟨h2'.1.2.1.1,by omega⟩,h5⟩
theorem KY {ts:List iB} {p:Int} {t:i7} (h:kD ts p t=true):(iQ (nth ts p).list t.res (lG t.kH (sW ts p t))).2=true:=by
  obtain ⟨h1,h2,⟨p0,p1⟩,_,h5⟩:=vg h;have ho:=zN h1 p0 p1;obtain ⟨f0,f4⟩:=kJ h5
  have hb:iC (nth (nth ts p).list t.res).iw=true:=by
    have hT:=ho;have hl:=rq ho;unfold jD at hT;simp only [Rg] at hT;have hP:=mq.1 hT.2.2.2.1 t.res.toNat _ (jv f0 (by omega))
    have hv:(nth (nth ts p).list t.res).Q2=true:=by
      unfold iH at h5;rw [Rg] at h5;exact h5.2
    unfold oP at hP;rw [hv,if_pos rfl,Rg] at hP;exact hP.1
  unfold iQ;rw [ho,h5];simp only [Bool.and_self,if_true];rw [show lY (lG t.kH (sW ts p t)) (nth (nth ts p).list t.res).iw=true from Jm h2 hb];rfl
theorem Bj {ts:List iB} (h:qi ts) {p:Int} (p0:0≤p) (p1:p<(ts.length:Int)) (t:i7):qi (k6 ts p t) :=
  KH h (by rw [mV];exact h.2 _ (j7 p0 p1))
theorem vu (ts:List iB) (p:Int) (t:i7):(k6 ts p t).length=ts.length:=by unfold k6;rw [List.length_set]
theorem Kj {N:Nat} (hN:gX≤N) {ts:List iB} (h:qi ts) (p:Int) (t:i7):tC N ts p t=some (k8 ts p t):=by
  have hl:=h.1;have hB:(16777216:Nat)=gX:=rfl;unfold tC;simp only [GG hN h,Q8];rw [kv ts (fun _ t=>jD t.list) (.inl (ts.length:Int)) (.inr (ts,0)) (Nat.lt_of_lt_of_le hl hN),lr]
  · simp only [Q8,BX,qg,ig (n:=(ts.length:Int) - 1) (by omega) (by omega)];cases h1:ts.all (fun t=>jD t.list)
    · have:kD ts p t=false:=by unfold kD l8;rw [h1];rfl
      unfold k8;rw [this];rfl
    cases h2:decide ((ts.length:Int) > 3)
    case true =>
      have:kD ts p t=false:=by unfold kD l8;rw [h1,h2];rfl
      unfold k8;rw [this];rfl
    cases h3:ly t
    · have:kD ts p t=false:=by unfold kD l8;rw [h1,h2,h3];rfl
      unfold k8;rw [this];rfl
    cases h4:ic p 0 ((ts.length:Int) - 1)
    · have:kD ts p t=false:=by unfold kD l8;rw [h1,h2,h3,h4];rfl
      unfold k8;rw [this];rfl
    cases h5:decide (t.jz ≥ (ts.length:Int))
    case true =>
      have:kD ts p t=false:=by unfold kD l8;rw [h1,h2,h3,h4,h5];rfl
      unfold k8;rw [this];rfl
    rw [ir] at h4
    have p1:p<(ts.length:Int):=by omega
    have ho:=zN (ts:=ts) h1 h4.1 p1;have h5l:=rq ho;simp only [if_true,Sum.elim_inl,Rd,Q9,jh (l:=ts) h4.1 p1,Q8,wF N h5l];cases h6:iH (nth ts p).list t.res
    · have:kD ts p t=false:=by unfold kD;rw [h6];simp
      unfold k8;rw [this];rfl
    have hm:kD ts p t=true:=by unfold kD l8;rw [h1,h2,h3,h5,h6,ir.2 h4];rfl
    obtain ⟨_,_,_,⟨q0,q1⟩,_⟩:=vg hm;obtain ⟨f0,f4⟩:=kJ h6
    simp only [Rd,Q9,jh (l:=(nth ts p).list) f0 (by omega),Q8,Jw,AN,CX hN (h.2 _ (j7 h4.1 p1)),
      show sM t (nth (nth ts p).list t.res).iw=sW ts p t from rfl,KY hm,show ts.set p.toNat (iB.mk (iQ (nth ts p).list t.res (lG t.kH (sW ts p t))).1)=k6 ts p t from rfl,
      jh (l:=k6 ts p t) q0 (by rw [vu];exact q1),BC hN ((Bj h h4.1 p1 t).2 _ (j7 q0 (by rw [vu];exact q1)))]
    unfold k8;rw [hm]
    show (bif !(nh ts p t).2 then some (ts,0) else some ((k6 ts p t).set t.jz.toNat (iB.mk (nh ts p t).1),sW ts p t))=_
    cases (nh ts p t).2<;>rfl
  · intro k y hy hk;simp only [iX hk,Rb,iE,hy,Q8,vm hN,iZ (Nat.lt_trans hk hl)];cases jD y.list<;>rfl
  · simp only [iW,Q9]
theorem Jn {N:Nat} (hN:gX≤N) {ts:List iB} (h:qi ts) (p:Int) (t:i7):tu N ts p t=some (k8 ts p t):=by
  have hl:=h.1;have hB:(16777216:Nat)=gX:=rfl
  have hok:wG N ts=some (l8 ts&&decide ((ts.length:Int)≤3)):=by
    unfold wG l8;rw [kv ts (fun _ t=>jD t.list) (.inl (ts.length:Int)) (.inr false) (Nat.lt_of_lt_of_le hl hN),lr]
    · cases ts.all (fun t=>jD t.list)<;>rfl
    · intro k y hy hk;simp only [iX hk,Rb,iE,hy,Q8,xa hN,iZ (Nat.lt_trans hk hl)];cases jD y.list<;>rfl
    · simp only [iW,Q9]
  unfold tu;simp only [Mf hN h,hok,Q8,zL,mF,ig (n:=(ts.length:Int) - 1) (by omega) (by omega)]
  have h2e:decide ((ts.length:Int)≤3)=!decide ((ts.length:Int) > 3):=by
    by_cases hc:(ts.length:Int)≤3<;>simp [hc]
    omega
  rw [h2e];cases h1:l8 ts
  · have:kD ts p t=false:=by unfold kD;rw [h1];rfl
    unfold k8;rw [this];rfl
  cases h2:decide ((ts.length:Int) > 3)
  case true =>
    have:kD ts p t=false:=by unfold kD;rw [h1,h2];rfl
    unfold k8;rw [this];rfl
  cases h3:ly t
  · have:kD ts p t=false:=by unfold kD;rw [h1,h2,h3];rfl
    unfold k8;rw [this];rfl
  cases h4:ic p 0 ((ts.length:Int) - 1)
  · have:kD ts p t=false:=by unfold kD;rw [h1,h2,h3,h4];rfl
    unfold k8;rw [this];rfl
  cases h5:decide (t.jz ≥ (ts.length:Int))
  case true =>
    have:kD ts p t=false:=by unfold kD;rw [h1,h2,h3,h4,h5];rfl
    unfold k8;rw [this];rfl
  rw [ir] at h4
  have p1:p<(ts.length:Int):=by omega
  have ho:=zN (ts:=ts) h1 h4.1 p1;have h5l:=rq ho;simp only [Rd,Bool.not_false,Bool.and_self,Q9,jh (l:=ts) h4.1 p1,Q8,uf hN,ho,Re];cases h6:iH (nth ts p).list t.res
  · have:kD ts p t=false:=by unfold kD;rw [h6];simp
    unfold k8;rw [this];rfl
  have hm:kD ts p t=true:=by unfold kD;rw [h1,h2,h3,h5,h6,ir.2 h4];rfl
  obtain ⟨_,_,_,⟨q0,q1⟩,_⟩:=vg hm;obtain ⟨f0,f4⟩:=kJ h6
  simp only [Rd,Q9,jh (l:=(nth ts p).list) f0 (by omega),Q8,JP,Fh,uv hN (h.2 _ (j7 h4.1 p1)),
    show sM t (nth (nth ts p).list t.res).iw=sW ts p t from rfl,show ts.set p.toNat (iB.mk (iQ (nth ts p).list t.res (lG t.kH (sW ts p t))).1)=k6 ts p t from rfl,
    jh (l:=k6 ts p t) q0 (by rw [vu];exact q1),yk hN ((Bj h h4.1 p1 t).2 _ (j7 q0 (by rw [vu];exact q1)))]
  unfold k8;rw [hm]
  show (bif !(nh ts p t).2 then some (ts,0) else some ((k6 ts p t).set t.jz.toNat (iB.mk (nh ts p t).1),sW ts p t))=_
  cases (nh ts p t).2<;>rfl
def lens (ts:List iB):List Nat:=ts.map fun t=>t.list.length
theorem Em {ts:List iB} {k:Nat} {y:iB} {t:List g6} (hy:ts[k]?=some y) (ht:t.length=y.list.length):lens (ts.set k (iB.mk t))=lens ts:=by
  unfold lens;rw [List.map_set]
  show (ts.map fun t=>t.list.length).set k t.length=_
  rw [ht];apply nA;rw [List.getElem?_map,hy];rfl
theorem zv (ts:List iB) (p:Int) (t:i7):lens (k8 ts p t).1=lens ts:=by
  unfold k8;split
  · rename_i h;rw [Rg] at h;obtain ⟨_,_,⟨p0,p1⟩,⟨q0,q1⟩,_⟩:=vg h.1
    show lens ((k6 ts p t).set t.jz.toNat (iB.mk (nh ts p t).1))=_
    refine (Em (jv q0 (by rw [vu];exact q1)) (show (nh ts p t).1.length=_ from w7 _ _ _)).trans ?_;exact Em (jv p0 p1) (mV _ _ _)
  · rfl
theorem A9 {ts us:List iB} (h:qi ts) (e:lens us=lens ts):qi us:=by
  have hl:us.length=ts.length:=by
    have:=congrArg List.length e;unfold lens at this
    rwa [List.length_map,List.length_map] at this
  refine ⟨by rw [hl];exact h.1,fun y hy=>?_⟩;have hm:y.list.length ∈ lens us:=List.mem_map.2 ⟨y,hy,rfl⟩;rw [e] at hm;obtain ⟨z,hz,hzz⟩:=List.mem_map.1 hm;rw [← hzz];exact h.2 z hz
def o8 (ts:List iB) (p:Int) (gR:List i7):List iB:=gR.foldl (fun ts t=>(k8 ts p t).1) ts
theorem vB (p:Int):∀ (gR:List i7) (ts:List iB),lens (o8 ts p gR)=lens ts
  | [],_=>rfl
  | t::gR,ts=>(vB p gR (k8 ts p t).1).trans (zv ts p t)
theorem EH {N:Nat} (hN:gX≤N) {gR:List i7} (hl:gR.length<gX) {ts:List iB} (h:qi ts) {p:Int} {F:List iB→i7→Option (List iB×Int)} (hF:∀ ts t,qi ts→F ts t=some (k8 ts p t)) :
    iter (fun (s94:(List iB)×Int)=>(bif (decide (s94.2<(gR.length:Int))) then ((idx gR s94.2).bind fun y97=>(F s94.1 y97).bind fun y109=>some (.inl (y109.1,i64.wrap (s94.2+1)))) else (some (.inr (s94.1,s94.2))):Option (((List iB)×Int)⊕((List iB)×Int)))) N (ts,0)=some (o8 ts p gR,(gR.length:Int)):=by
  rw [show (ts,(0:Int))=(fun (k:Nat) (t:List iB)=>(t,(k:Int))) 0 ts from rfl,
    kO gR (fun (k:Nat) (t:List iB)=>(t,(k:Int))) (fun _ ts t=>(k8 ts p t).1) (fun t=>(t,(gR.length:Int))) (fun _ t=>lens t=lens ts) ?_ ?_ (Nat.lt_of_lt_of_le hl hN) rfl,mf]
  · rfl
  · intro k t y hy hk ht;refine ⟨?_,(zv t p y).trans ht⟩;simp only [iX hk,Rb,iE,hy,Q8,hF t y (A9 h ht),iZ (Nat.lt_trans hk hl)]
  · intro t _;simp only [iW,Q9]
def hZ (w:g7) (p:Int):g7:=if jj w&&ju w p then g7.mk w.Q1 (je w.parts (jf (o8 (j6 w.parts) p (nth w.parts p).gR))) else w
theorem xD {l:List cd} (hb:iY ij l<gX):qi (j6 l):=by
  refine ⟨by unfold j6 kr;rw [List.length_map,List.length_map];exact lN hb,fun t ht=>?_⟩;unfold j6 kr at ht;rw [List.map_map] at ht;obtain ⟨p,hp,rfl⟩:=List.mem_map.1 ht;exact (kC (kn hb hp)).2.2.1
theorem sC {l:List cd} {p:Int} {gR:List i7}:(o8 (j6 l) p gR).length=l.length:=by
  have:=congrArg List.length (vB p gR (j6 l));unfold lens j6 kr at this;rw [List.length_map,List.length_map,List.length_map,List.length_map] at this;exact this
theorem Ig {N:Nat} (hN:gX≤N) {w:g7} (hb:iY ij w.parts<gX) (p:Int):rS N w p=some (hZ w p):=by
  unfold rS hZ;simp only [Ak hN hb,CP hN hb,Km (lN hb),Q8,lM];cases hw:jj w
  · rfl
  cases hp:ju w p
  · rfl
  obtain ⟨e,hm⟩:=kp hp;have hl:=lN hb;have ht:(nth w.parts p).gR.length<gX:=(kC (kn hb hm)).2.2.2.2.2;simp only [Rd,Bool.or_self,Q9,Bool.and_self,if_true,decide_eq_true (Nat.lt_of_lt_of_le hl hN),decide_eq_true hl,e,Q8];rw [show (gd true).bind=fun (k:Unit→Option g7)=>k () from rfl];simp only [];rw [EH hN ht (xD hb) (p:=p) (fun ts t h=>Kj hN h p t)];simp only [Q8,sC,decide_true];rfl
theorem KA {N:Nat} (hN:gX≤N) {ts:List iB} {n:Nat} (hn:ts.length=n) (hl:ts.length<gX) {F:List g6→Option (List g6)} (hF:∀ y,y ∈ ts→F y.list=some y.list) :
    iter (fun (s114:Int×(List (List g6)))=>(bif (decide (s114.1<(n:Int))) then ((idx ts s114.1).bind fun y117=>(F y117.list).bind fun y133=>some (.inl (i64.wrap (s114.1+1),s114.2++[y133]))) else (some (.inr (s114.1,s114.2))):Option ((Int×(List (List g6)))⊕(Int×(List (List g6)))))) N (0,[])=some ((n:Int),jf ts):=by
  subst hn
  have e:∀ (l:List iB) (k:Nat) (acc:List (List g6)),foldI (fun _ (acc:List (List g6)) (y:iB)=>acc++[y.list]) k acc l=acc++jf l:=by
    intro l
    induction l with
    | nil=>intro k acc;simp [foldI,jf]
    | cons y l ih=>intro k acc;unfold foldI;rw [ih];simp [jf]
  rw [show ((0:Int),([]:List (List g6)))=(fun (k:Nat) (t:List (List g6))=>((k:Int),t)) 0 [] from rfl,
    kO ts (fun (k:Nat) (t:List (List g6))=>((k:Int),t)) (fun _ acc y=>acc++[y.list]) (fun t=>((ts.length:Int),t)) (fun _ _=>True) ?_ ?_ (Nat.lt_of_lt_of_le hl hN) trivial,e]
  · rfl
  · intro k t y hy hk _;refine ⟨?_,trivial⟩;simp only [iX hk,Rb,iE,hy,Q8,hF y (List.mem_of_getElem? hy),iZ (Nat.lt_trans hk hl)]
  · intro t _;simp only [iW,Q9]
theorem IW {N:Nat} (hN:gX≤N) {w:g7} (hb:iY ij w.parts<gX) (hW:wW w.parts) (p:Int):rG N w p=some (hZ w p):=by
  have hl:=lN hb;have hB:(16777216:Nat)=gX:=rfl;unfold rG hZ;simp only [vF hN hb,xu hN hb hW,mF,ig (n:=(w.parts.length:Int) - 1) (by omega) (by omega),Q8,lM];cases hw:jj w
  · rfl
  rw [show ic p 0 ((w.parts.length:Int) - 1)=ju w p from rfl];cases hp:ju w p
  · rfl
  obtain ⟨e,hm⟩:=kp hp;have ht:(nth w.parts p).gR.length<gX:=(kC (kn hb hm)).2.2.2.2.2;have hs:=A9 (xD hb) (vB p (nth w.parts p).gR (j6 w.parts));simp only [Rd,Bool.or_self,Q9,Bool.and_self,if_true,decide_eq_true (Nat.lt_of_lt_of_le hl hN),decide_eq_true hl,e,Q8];rw [show (gd true).bind=fun (k:Unit→Option g7)=>k () from rfl];simp only [];rw [EH hN ht (xD hb) (p:=p) (fun ts t h=>Jn hN h p t)];simp only [Q8,sC,decide_true];rw [show (gd true).bind=fun (k:Unit→Option g7)=>k () from rfl];simp only [];rw [KA hN sC hs.1 fun y hy=>pM (hs.2 y hy)];rfl
end Go.Kx
namespace Go.Kx
open Go
open Go.IntKind (i64)
set_option linter.unusedVariables false
set_option linter.unusedSimpArgs false
set_option maxRecDepth 10000
theorem vw {t:List g6} {f:Int} {a:gT} (h:(iQ t f a).2=true):jD t=true∧iH t f=true:=by
  unfold iQ at h;split at h
  · rename_i q;simpa using q
  · cases h
theorem ET (t:List g6) (f:Int) (a:gT):(iQ t f a).1.map g6.Q2=t.map g6.Q2:=by
  unfold iQ;split
  · rename_i q;simp only [Rg] at q;obtain ⟨f0,f4⟩:=kJ q.2;have hl:=rq q.1;split
    · rw [List.map_set];refine nA ?_;rw [List.getElem?_map,jv f0 (by omega)];rfl
    · rfl
  · rfl
def vC:Nat→List Bool→Option Nat
  | _,[]=>none
  | k,b::l=>if b then vC (k+1) l else some k
theorem HP {ρ:Type} (g:Nat→ρ) (r:ρ):∀ (l:List g6) (k:Nat),mO (fun k (_:Unit) (y:g6)=>if y.Q2 then .inl () else .inr (g k)) (fun _=>r) k () l=(match vC k (l.map g6.Q2) with | none=>r | some k=>g k)
  | [],k=>rfl
  | y::l,k=>by
    unfold mO;simp only [List.map_cons,vC];cases y.Q2
    · rfl
    · exact HP g r l (k+1)
theorem LN {ρ:Type} {N:Nat} (hN:gX≤N) {x:List g6} (hx:x.length<gX) (g:Nat→ρ) (r:ρ) {body:Int→Option (Int⊕ρ)}
    (hs:∀ (k:Nat) (y:g6),x[k]?=some y→k<x.length→body (k:Int)=some (if y.Q2 then .inl ((k+1:Nat):Int) else .inr (g k))) (he:body (x.length:Int)=some (.inr r)) :
    iter body N 0=some (match vC 0 (x.map g6.Q2) with | none=>r | some k=>g k):=by
  rw [show (0:Int)=(fun (k:Nat) (_:Unit)=>(k:Int)) 0 () from rfl,
    nP x (fun (k:Nat) (_:Unit)=>(k:Int)) (fun k _ y=>if y.Q2 then .inl () else .inr (g k)) (fun _=>r) (fun _ _=>True) ?_ ?_ (Nat.lt_of_lt_of_le hx hN) trivial,HP]
  · intro k _ y hy hk _;refine ⟨?_,fun _ _=>trivial⟩
    show body (k:Int)=_
    rw [hs k y hy hk];cases y.Q2<;>rfl
  · intro _ _;exact he
def mA (t:List g6) (f:Int) (a:gT):List g6×Int×Bool :=
  if (iQ t f a).2 then (match vC 0 (t.map g6.Q2) with | none=>(t,0,false) | some k=>((iQ t f a).1.set k (g6.mk true f a),(k:Int),true)) else (t,0,false)
theorem Dw (t:List g6) (f:Int) (a:gT):(mA t f a).1.length=t.length:=by
  unfold mA;split
  · split
    · rfl
    · simp only [List.length_set,mV]
  · rfl
theorem FK {N:Nat} (hN:gX≤N) {t:List g6} (hB:t.length<gX) (f:Int) (a:gT):qD N t f a=some (mA t f a):=by
  unfold qD mA;simp only [uv hN hB,Q8];cases h:(iQ t f a).2
  · simp only [Bool.not_false,Rb,pM hB,Q8,Bool.false_eq_true,if_false]
  have hp:=mV t f a;simp only [Rd,Q9,if_true];rw [LN (x:=(iQ t f a).1) hN (by omega) (fun k=>Sum.inr ((iQ t f a).1.set k (g6.mk true f a),(k:Int),true)) (Sum.inl ((iQ t f a).1.length:Int)),ET]
  · simp only [Q8];cases vC 0 (t.map g6.Q2)
    · simp only [Sum.elim_inl,pM hB,Q8]
    · rfl
  · intro k y hy hk;simp only [iX hk,Rb,iE,hy,Q8,iZ (show k<gX by omega),Int.toNat_natCast];cases y.Q2<;>rfl
  · simp only [iW,Q9]
def nu (t:List g6) (f g:Int) (a:gT):List g6×Bool:=if (iQ t f a).2&&iH t g then mw (iQ t f a).1 g a else (t,false)
theorem Fc (t:List g6) (f g:Int) (a:gT):(nu t f g a).1.length=t.length:=by
  unfold nu;split
  · rw [w7,mV]
  · rfl
theorem Ij {N:Nat} (hN:gX≤N) {t:List g6} (hB:t.length<gX) (f g:Int) (a:gT):sa N t f g a=some (nu t f g a):=by
  unfold sa nu;have hp:=mV t f a;simp only [uf hN,uv hN hB,Q8];cases h:(iQ t f a).2
  · cases jD t&&iH t g<;>simp only [Bool.not_false,Rd,Rb,Q9,pM hB,Q8,Bool.false_and,Bool.false_eq_true,if_false]
  rw [(vw h).1];simp only [Re];cases iH t g
  · simp only [Bool.not_false,Rb,pM hB,Q8,Bool.false_eq_true,if_false]
  · simp only [Rd,Q9,if_true,yk hN (show (iQ t f a).1.length<gX by omega),Q8]
theorem Oj {t:List g6} (h:Tr t) {i:Int} (hv:iH t i=true) (hi:i ≠ 0):0≤up t i∧up t i≤4∧up t i ≠ i∧(nth t (up t i)).Q2=true:=by
  obtain ⟨i0,i4⟩:=kJ hv;have hl:=h.len;have hg:=jv (l:=t) i0 (by omega)
  have hlv:(nth t i).Q2=true:=by
    unfold iH at hv;simp only [Rg] at hv;exact hv.2
  have h1:=h.lead i.toNat (nth t i) hg hlv;rw [show ((i.toNat:Nat):Int)=i by omega] at h1
  have hne:up t i ≠ i:=fun q=>by rw [AG hi q] at h1;cases h1
  have h2:leads t 4 (up t i)=true:=by
    unfold leads at h1;simpa [hi,hv] using h1
  by_cases hu:up t i=0
  · rw [hu];exact ⟨by omega,by omega,fun q=>hi q.symm,h.rC⟩
  · unfold leads at h2
    have h3:iH t (up t i)=true:=by
      cases q:iH t (up t i)
      · simp [hu,q] at h2
      · rfl
    obtain ⟨a,b⟩:=kJ h3;unfold iH at h3;simp only [Rg] at h3;exact ⟨a,b,hne,h3.2⟩
def vX (s:gT) (B:Int):Prop:=(0≤s.bh∧s.bh≤B)∧(0≤s.gS∧s.gS≤B)∧(0≤s.gW∧s.gW≤B)
theorem zB {s a:gT} {B:Int} (hs:vX s B) (ha:iC a=true) (hB:B≤1000000000):(iD s a).bh=s.bh+a.bh∧(iD s a).gS=s.gS+a.gS∧(iD s a).gW=s.gW+a.gW∧vX (iD s a) (B+1000000):=by
  have h:=iR.1 ha;unfold vX at hs;have w1:(iD s a).bh=s.bh+a.bh:=ig (by omega) (by omega);have w2:(iD s a).gS=s.gS+a.gS:=ig (by omega) (by omega);have w3:(iD s a).gW=s.gW+a.gW:=ig (by omega) (by omega);exact ⟨w1,w2,w3,⟨by omega,by omega⟩,⟨by omega,by omega⟩,⟨by omega,by omega⟩⟩
theorem AP:∀ (t:List g6) (s:gT) (B:Int),(∀ r,r ∈ t→iC r.iw=true)→0≤B→B+1000000 * (t.length:Int)≤1000000000→vX s B→∀ (k:Nat) (r:g6),t[k]?=some r→r.Q2=true →
    s.bh+r.iw.bh≤(jd s t).bh∧s.gS+r.iw.gS≤(jd s t).gS∧s.gW+r.iw.gW≤(jd s t).gW
  | [],s,B,_,_,_,_,k,r,hr,_=>by simp at hr
  | x::t,s,B,h,hB,hL,hs,k,r,hr,hv=>by
    have hx:=h x (by simp);simp only [List.length_cons] at hL;obtain ⟨w1,w2,w3,w4⟩:=zB hs hx (by omega);have hx':=iR.1 hx;have e:jd s (x::t)=jd (if x.Q2 then iD s x.iw else s) t:=rfl;rw [e];have ht:∀ r,r ∈ t→iC r.iw=true:=fun r hr=>h r (by simp [hr])
    match k with
    | 0 =>
      simp only [List.getElem?_cons_zero,Option.some.injEq] at hr;subst hr;rw [if_pos hv];obtain ⟨⟨a1,a2,a3⟩,_⟩:=sK t (iD s x.iw) (B+1000000) ht (by omega) (by omega) w4.1 w4.2.1 w4.2.2;exact ⟨by omega,by omega,by omega⟩
    | k+1 =>
      rw [List.getElem?_cons_succ] at hr;cases hxl:x.Q2
      · exact AP t s B ht hB (by omega) hs k r hr hv
      · obtain ⟨a1,a2,a3⟩:=AP t (iD s x.iw) (B+1000000) ht (by omega) (by omega) w4 k r hr hv;rw [if_pos rfl];exact ⟨by omega,by omega,by omega⟩
theorem yA:∀ (t:List g6) (s:gT) (B:Int),(∀ r,r ∈ t→iC r.iw=true)→0≤B→B+1000000 * (t.length:Int)≤1000000000→vX s B→∀ (k j:Nat) (r q:g6),k<j→t[k]?=some r→r.Q2=true→t[j]?=some q→q.Q2=true →
    r.iw.bh+q.iw.bh≤(jd s t).bh∧r.iw.gS+q.iw.gS≤(jd s t).gS∧r.iw.gW+q.iw.gW≤(jd s t).gW
  | [],s,B,_,_,_,_,k,j,r,q,_,hr,_,_,_=>by simp at hr
  | x::t,s,B,h,hB,hL,hs,k,j,r,q,hkj,hr,hv,hq,hw=>by
    have hx:=h x (by simp);simp only [List.length_cons] at hL;obtain ⟨w1,w2,w3,w4⟩:=zB hs hx (by omega);have e:jd s (x::t)=jd (if x.Q2 then iD s x.iw else s) t:=rfl;rw [e];have ht:∀ r,r ∈ t→iC r.iw=true:=fun r hr=>h r (by simp [hr]);unfold vX at hs
    match k,j,hkj with
    | 0,j+1,_ =>
      simp only [List.getElem?_cons_zero,Option.some.injEq] at hr;subst hr;rw [List.getElem?_cons_succ] at hq;rw [if_pos hv];obtain ⟨a1,a2,a3⟩:=AP t (iD s x.iw) (B+1000000) ht (by omega) (by omega) w4 j q hq hw;exact ⟨by omega,by omega,by omega⟩
    | k+1,j+1,hkj =>
      rw [List.getElem?_cons_succ] at hr hq;cases hxl:x.Q2
      · exact yA t s B ht hB (by omega) hs k j r q (by omega) hr hv hq hw
      · rw [if_pos rfl];exact yA t (iD s x.iw) (B+1000000) ht (by omega) (by omega) w4 k j r q (by omega) hr hv hq hw
theorem Ha {t:List g6} (h:Tr t) {u i:Int} (hu:0≤u∧u≤4) (hi:0≤i∧i≤4) (hne:u ≠ i) (h1:(nth t u).Q2=true) (h2:(nth t i).Q2=true):kz (nth t u).iw (nth t i).iw=(iD (nth t u).iw (nth t i).iw,true):=by
  have hl:=h.len
  have z:vX ⟨0,0,0⟩ 0:=by unfold vX;decide
  have hS:=iR.1 h.sum;have gu:=jv (l:=t) (i:=u) hu.1 (by omega);have gi:=jv (l:=t) (i:=i) hi.1 (by omega);have bu:=h.iw _ (List.mem_of_getElem? gu);have bi:=h.iw _ (List.mem_of_getElem? gi);have bu':=iR.1 bu;have bi':=iR.1 bi
  have key:(nth t u).iw.bh+(nth t i).iw.bh≤(jd ⟨0,0,0⟩ t).bh∧(nth t u).iw.gS+(nth t i).iw.gS≤(jd ⟨0,0,0⟩ t).gS∧(nth t u).iw.gW+(nth t i).iw.gW≤(jd ⟨0,0,0⟩ t).gW:=by
    rcases Int.lt_or_gt_of_ne hne with q | q
    · exact yA t ⟨0,0,0⟩ 0 h.iw (by omega) (by omega) z u.toNat i.toNat _ _ (by omega) gu h1 gi h2
    · obtain ⟨a,b,c⟩:=yA t ⟨0,0,0⟩ 0 h.iw (by omega) (by omega) z i.toNat u.toNat _ _ (by omega) gi h2 gu h1;exact ⟨by omega,by omega,by omega⟩
  have v1:(iD (nth t u).iw (nth t i).iw).bh=(nth t u).iw.bh+(nth t i).iw.bh:=ig (by omega) (by omega);have v2:(iD (nth t u).iw (nth t i).iw).gS=(nth t u).iw.gS+(nth t i).iw.gS:=ig (by omega) (by omega);have v3:(iD (nth t u).iw (nth t i).iw).gW=(nth t u).iw.gW+(nth t i).iw.gW:=ig (by omega) (by omega);have:iC (iD (nth t u).iw (nth t i).iw)=true:=iR.2 ⟨by omega,by omega,by omega⟩;unfold kz;rw [bu,bi,this];rfl
def mY (i u:Int) (r:g6):g6:=if r.Q2&&(r.Q4==i) then g6.mk r.Q2 u r.iw else r
def dropped (t:List g6) (i:Int):List g6:=(t.set (up t i).toNat (mB (nth t (up t i)) (iD (nth t (up t i)).iw (nth t i).iw))).set i.toNat nX
def ny (t:List g6) (i:Int):List g6×Bool:=if (jD t&&iH t i)&&(i != 0) then ((dropped t i).map (mY i (up t i)),true) else (t,false)
theorem Eo (t:List g6) (i:Int):(ny t i).1.length=t.length:=by
  unfold ny dropped;split<;>simp
theorem Ik {N:Nat} (hN:gX≤N) {t:List g6} (hB:t.length<gX) (i:Int):rW N t i=some (ny t i):=by
  unfold rW ny;simp only [pM hB,uf hN,Q8,lM];cases h:(jD t&&iH t i)
  · rfl
  simp only [Rg] at h;have hT:=jL.1 h.1;have hl:=hT.len;cases hi:(i==0)
  case true=>simp only [Rd,Bool.or_true,Rb,Re,bne,hi,Bool.false_eq_true,if_false]
  have hi':i ≠ 0:=by simpa using hi
  obtain ⟨i0,i4⟩:=kJ h.2;obtain ⟨u0,u4,une,ulv⟩:=Oj hT h.2 hi'
  have ilv:(nth t i).Q2=true:=by
    have:=h.2;unfold iH at this;simp only [Rg] at this;exact this.2
  have eu:idx t (nth t i).Q4=some (nth t (up t i)):=jh (i:=up t i) u0 (by omega);have ff:=Ha hT ⟨u0,u4⟩ ⟨i0,i4⟩ une ulv ilv;have e2:∀ z,idx (t.set (nth t i).Q4.toNat z) i=some (nth (t.set (nth t i).Q4.toNat z) i):=fun z=>jh i0 (by simp only [List.length_set];omega);simp only [Rd,Bool.or_false,Q9,jh (l:=t) i0 (by omega),eu,xe,ff,Q8,e2,bne,hi,Bool.not_false,Bool.and_self,if_true];rw [show (((t.set (nth t i).Q4.toNat (g6.mk (nth t (up t i)).Q2 (nth t (up t i)).Q4 (gT.mk (iD (nth t (up t i)).iw (nth t i).iw).bh (iD (nth t (up t i)).iw (nth t i).iw).gS (iD (nth t (up t i)).iw (nth t i).iw).gW))).set i.toNat (g6.mk false 0 (gT.mk 0 0 0))))=dropped t i from rfl];rw [vj (dropped t i) (mY i (up t i)) (show (dropped t i).length<N by unfold dropped;simp only [List.length_set];omega)]
  · rfl
  · intro k x y hx hty _ hk
    have hk':k<x.length:=by omega
    have hk2:k<t.length:=by unfold dropped at hk;simp only [List.length_set] at hk;omega
    simp only [iX hk',Rb,iE,hty,Q8,mh,iZ (show k<gX by omega),Int.toNat_natCast];unfold mY;cases (y.Q2&&(y.Q4==i))
    · simp only [Q9,Bool.false_eq_true,if_false,nA hty]
    · simp only [Rb,if_true];rfl
  · intro x hx;rw [← hx];simp only [iW,Q9]
end Go.Kx
namespace Go.Kx
open Go
open Go.IntKind (i64)
set_option linter.unusedVariables false
set_option linter.unusedSimpArgs false
set_option maxRecDepth 10000
theorem OI (a:gT):gT.mk a.bh a.gS a.gW=a:=rfl
def jl (l:List gE) (now me h kind:Int):Int:=bif nQ h then (bif og h != me then 3 else (bif decide (hD l now me h<0) then 4 else (bif (kind != 0)&&((nth l (hD l now me h)).py != kind) then 5 else 0))) else 2
theorem z0 {l:List gE} {now me h:Int} (q:decide (hD l now me h<0)=false):Ar l∧0≤hD l now me h∧hD l now me h≤9∧(nth l (hD l now me h)).py ≠ 0:=by
  unfold hD at *;cases hg:v5 l now me h
  · rw [hg] at q;simp at q
  · simp only [Rb];unfold v5 at hg;simp only [Rg] at hg;obtain ⟨⟨h1,h2,_⟩,h3,_⟩:=hg;obtain ⟨a,b⟩:=AV h2;exact ⟨jJ.1 h1,a,b,by simpa using h3⟩
theorem kU {l:List gE} {now me h k:Int} (q:jl l now me h k=0):Ar l∧0≤hD l now me h∧hD l now me h≤9∧(nth l (hD l now me h)).py ≠ 0∧(k ≠ 0→(nth l (hD l now me h)).py=k):=by
  unfold jl at q;cases h1:nQ h
  · rw [h1] at q;simp at q
  cases h2:og h != me
  case true=>rw [h1,h2] at q;simp at q
  cases h3:decide (hD l now me h<0)
  case true=>rw [h1,h2,h3] at q;simp at q
  obtain ⟨a,b,c,d⟩:=z0 h3;refine ⟨a,b,c,d,fun hk=>?_⟩;rw [h1,h2,h3] at q;simp only [Rb,Q9] at q
  have hk':(k != 0)=true:=by simpa using hk
  rw [hk'] at q;cases h4:(nth l (hD l now me h)).py != k
  · simpa using h4
  · rw [h4] at q;simp at q
theorem Bb {N:Nat} (hN:gX≤N) {p:cd} (hb:iY ib p.heap.ag<gX) (hw:wP p) (me now h:Int):nJ N p me now h=some (bif jl p.heap.ag now me h 0==0 then hD p.heap.ag now me h else -1,jl p.heap.ag now me h 0):=by
  unfold nJ jl;simp only [sJ,w9,uQ hN hb hw,Q8];rw [show ic h 0 29999=nQ h from rfl];cases nQ h
  · rfl
  cases og h != me
  case true=>rfl
  cases q:decide (hD p.heap.ag now me h<0)<;>rfl
theorem A7 {N:Nat} (hN:gX≤N) {p:cd} (hb:iY ib p.heap.ag<gX) (hw:wP p) (me now h:Int) {k:Int} (hk:0<k):oF N p me now h k=some (bif jl p.heap.ag now me h k==0 then hD p.heap.ag now me h else -1,jl p.heap.ag now me h k):=by
  unfold oF;rw [Bb hN hb hw];have k1:decide (k > 0)=true:=decide_eq_true hk
  have k2:(k != 0)=true:=by simp;omega
  simp only [Q8,k1,Rb];unfold jl;rw [k2];cases nQ h
  · rfl
  cases og h != me
  case true=>rfl
  cases q:decide (hD p.heap.ag now me h<0)
  case true=>rfl
  obtain ⟨ar,g0,g9,_⟩:=z0 q;simp only [bne_self_eq_false,Bool.false_and,Re,Rb,Q9,beq_self_eq_true,(ar.at g0 g9).1,Q8];cases (nth p.heap.ag (hD p.heap.ag now me h)).py != k<;>rfl
def rm (h:gV) (i:Int):gV:=bif kb h&&ic i 0 9 then jG h i else h
theorem KT {N:Nat} (hN:gX≤N) {h:gV} (h1:iY ib h.ag<gX) (h2:h.gc.gQ.length+1<gX) (hw:wA h.ag) (i:Int):pK N h i=some (rm h i):=by
  have h2':h.gc.gQ.length<gX:=by omega
  unfold pK rm;simp only [xo hN h1 h2',ya hN h1 h2' hw,sn,Q8];cases q:kb h
  · rfl
  cases hi:ic i 0 9
  · rfl
  have ar:=pC q;have hl:=ar.len;rw [ir] at hi;simp only [Rd,Rb,Q9,Q8,Bool.and_self,A8 hN hi.1 (show i<(h.ag.length:Int) by omega) h2]
def linked (o:gE) (b x:Int):gE:=gE.mk o.Q3 o.py o.box o.res o.iF o.bh o.QW o.iK o.iG o.mark (o.gZ.set b.toNat x) o.QV o.QU
def boxed (o:gE) (b:Int):gE:=gE.mk o.Q3 o.py b o.res o.iF o.bh o.QW o.iK o.iG o.mark o.gZ o.QV o.QU
def written (o:gE) (b x:Int):gE:=gE.mk o.Q3 o.py o.box o.res o.iF o.bh o.QW o.iK o.iG o.mark o.gZ (o.QV.set b.toNat x) o.QU
def n5 (o:gE) (q:List jw):gE:=gE.mk o.Q3 o.py o.box o.res o.iF o.bh o.QW o.iK o.iG o.mark o.gZ o.QV q
def waiting (o:gE) (x:Int):gE:=gE.mk o.Q3 o.py o.box o.res o.iF o.bh x o.iK o.iG o.mark o.gZ o.QV o.QU
def yC (o:gE) (x:Int):gE:=gE.mk o.Q3 o.py o.box o.res o.iF o.bh o.QW x o.iG o.mark o.gZ o.QV o.QU
def m4 (p:cd) (h:gV):cd:=cd.mk p.QQ p.own p.QR h p.gR p.QZ p.QY p.gP p.hY p.QX
def wI (p:cd) (t:List g6):cd:=cd.mk p.QQ p.own t p.heap p.gR p.QZ p.QY p.gP p.hY p.QX
def vt (p:cd) (t:List i7):cd:=cd.mk p.QQ p.own p.QR p.heap t p.QZ p.QY p.gP p.hY p.QX
def mi (h:gV) (c i:Int):gV:=bif decide (c ≥ 0) then rm h i else h
def Ko (p:cd) (i b x:Int):cd:=m4 p (mi (gV.mk (p.heap.ag.set i.toNat (linked (nth p.heap.ag i) b x)) p.heap.gc) x x)
def uW (p:cd) (me now:Int) (c:iA):Int×Int×cd :=
  bif !ic c.b 0 1 then (2,0,p) else
  bif jl p.heap.ag now me c.a 0 != 0 then (jl p.heap.ag now me c.a 0,0,p) else
  bif (c.py==2)&&(jl p.heap.ag now me c.c 0 != 0) then (jl p.heap.ag now me c.c 0,0,p) else
  (0,0,Ko p (hD p.heap.ag now me c.a) c.b (bif c.py==2 then hD p.heap.ag now me c.c else -1))
structure lB (p:cd):Prop where
  ok:ik p=true
  sz:ij p≤3000000
  w:wP p
theorem lB.ar {p:cd} (h:lB p):Ar p.heap.ag:=iT h.ok
theorem lB.b4 {p:cd} (h:lB p):iY ib p.heap.ag<gX:=(kC (p:=p) (Nat.lt_of_le_of_lt h.sz (by decide))).2.2.2.1
theorem lB.b5 {p:cd} (h:lB p):p.heap.gc.gQ.length+1<gX:=by
  have:=h.sz;have hB:(16777216:Nat)=gX:=rfl;unfold ij my rR at this;omega
theorem tM {l:List gE} (h:Ar l) {i:Int} (h0:0≤i) (h9:i≤9):ib (nth l i)≤12:=ye (h.ok _ (h.at h0 h9).2)
theorem Ii {l:List gE} (h:Ar l) {i:Int} {o:gE} (ho:ib o≤100000):iY ib (l.set i.toNat o)<gX:=OZ h ho _
theorem CD (o:gE) (b x:Int):ib (linked o b x)=ib o:=by unfold ib linked;simp only [List.length_set]
theorem Hx {l:List Int} (h:l.length=2) {b:Int} (hb:ic b 0 1=true):idx l b=some (nth l b):=by
  rw [ir] at hb;exact jh hb.1 (by omega)
theorem jM {a:Int} (h:(a != 0)=false):a=0:=by simpa using h
def z4 (p:cd):cd:=cd.mk p.QQ p.own p.QR p.heap p.gR p.QZ p.QY p.gP (if 1000000<i64.wrap (p.hY+1) then 1000000 else i64.wrap (p.hY+1)) p.QX
def fin (c:iA) (p:cd) (r:Int×Int×cd):cd×il:=bif r.1==0 then (r.2.2,il.mk 0 r.2.1) else (bif (c.py==1)&&((r.1==6) || (r.1==7)) then z4 p else p,il.mk r.1 0)
theorem vJ (c:iA) (p q:cd) (v:Int):fin c p (0,v,q)=(q,il.mk 0 v):=rfl
theorem mE {c:iA} {p q:cd} {k v:Int} (h:(k != 0)=true) (hc:(c.py==1)=false):fin c p (k,v,q)=(p,il.mk k 0):=by
  unfold fin
  have:(k==0)=false:=by simpa [bne] using h
  rw [this,hc];rfl
theorem zY {N:Nat} (hN:gX≤N) {h:gV} (h1:iY ib h.ag<gX) (h2:h.gc.gQ.length+1<gX) (hw:wA h.ag) (c i:Int) {β:Type} (f:gV→Option β):((bif decide (c ≥ 0) then ((pK N h i).bind fun y=>some (y.ag,y.gc.QS,y.gc.Q0,y.gc.QT,y.gc.gQ)) else (some (h.ag,h.gc.QS,h.gc.Q0,h.gc.QT,h.gc.gQ)):Option ((List gE)×Int×Int×Int×(List Int))).bind fun j=>f (gV.mk j.1 (ka.mk j.2.1 j.2.2.1 j.2.2.2.1 j.2.2.2.2)))=f (mi h c i):=by
  unfold mi;rw [KT hN h1 h2 hw];cases decide (c ≥ 0)<;>rfl
theorem Od {N:Nat} (hN:gX≤N) {p:cd} (hp:lB p) (me now:Int) {c:iA} (hc:(c.py==1)=false):tD N p me now c=some (fin c p (uW p me now c)):=by
  have h4:=hp.b4;unfold tD uW;simp only [mF,Bb hN h4 hp.w,Q8];cases q1:ic c.b 0 1
  · simp only [Bool.not_false,Rb,mE (show ((2:Int) != 0)=true from rfl) hc]
  cases q2:jl p.heap.ag now me c.a 0 != 0
  case true=>simp only [Rd,Q9,Rb,mE q2 hc]
  have q2':=jM q2;obtain ⟨ar,g0,g9,gk,_⟩:=kU q2';have l2:=zo (ar.ok _ (ar.at g0 g9).2) (by simpa using gk);simp only [Rd,Q9,q2',beq_self_eq_true,Rb];generalize hD p.heap.ag now me c.a=i at *;have hs:∀ x,iY ib (p.heap.ag.set i.toNat (linked (nth p.heap.ag i) c.b x))<gX:=fun x=>Ii ar (by rw [CD];have:=tM ar g0 g9;omega);have hx:∀ x,wA (p.heap.ag.set i.toNat (linked (nth p.heap.ag i) c.b x)):=fun x=>lz hp.w (show n8 (nth p.heap.ag i) from hp.w _ (ar.at g0 g9).2);cases hk:c.py==2
  · simp only [Q9,Q8,Sum.elim_inl,(ar.at g0 g9).1,Hx l2 q1,Bool.false_and,vJ];exact zY (h:=gV.mk (p.heap.ag.set i.toNat (linked (nth p.heap.ag i) c.b (-1))) p.heap.gc) hN (hs (-1)) hp.b5 (hx (-1)) (-1) (-1) fun y=>some (m4 p y,il.mk 0 0)
  · cases q3:jl p.heap.ag now me c.c 0 != 0
    · have q3':=jM q3;simp only [Rb,Q9,Q8,Sum.elim_inl,(ar.at g0 g9).1,Hx l2 q1,Bool.and_false,q3',beq_self_eq_true,vJ];generalize hD p.heap.ag now me c.c=x;exact zY (h:=gV.mk (p.heap.ag.set i.toNat (linked (nth p.heap.ag i) c.b x)) p.heap.gc) hN (hs x) hp.b5 (hx x) x x fun y=>some (m4 p y,il.mk 0 0)
    · simp only [Rb,Q9,Q8,Sum.elim_inr,Bool.and_true,mE q3 hc]
def KV (p:cd) (i x:Int):cd:=m4 p (mi (gV.mk (p.heap.ag.set i.toNat (boxed (nth p.heap.ag i) x)) p.heap.gc) x i)
def uL (p:cd) (me now:Int) (c:iA):Int×Int×cd :=
  bif jl p.heap.ag now me c.a 0 != 0 then (jl p.heap.ag now me c.a 0,0,p) else
  bif hD p.heap.ag now me c.a==0 then (5,0,p) else
  bif (c.py==4)&&(jl p.heap.ag now me c.b 1 != 0) then (jl p.heap.ag now me c.b 1,0,p) else
  (0,0,KV p (hD p.heap.ag now me c.a) (bif c.py==4 then hD p.heap.ag now me c.b else -1))
theorem OD {N:Nat} (hN:gX≤N) {p:cd} (hp:lB p) (me now:Int) {c:iA} (hc:(c.py==1)=false):tJ N p me now c=some (fin c p (uL p me now c)):=by
  have h4:=hp.b4;unfold tJ uL;simp only [Bb hN h4 hp.w,A7 hN h4 hp.w _ _ _ (show (0:Int)<1 by decide),Q8];cases q2:jl p.heap.ag now me c.a 0 != 0
  case true=>simp only [Rb,mE q2 hc]
  have q2':=jM q2;obtain ⟨ar,g0,g9,gk,_⟩:=kU q2';simp only [Rd,Q9,q2',beq_self_eq_true,Rb];generalize hD p.heap.ag now me c.a=i at *;cases hi:i==0
  case true=>simp only [Rb,mE (show ((5:Int) != 0)=true from rfl) hc]
  have hs:∀ x,iY ib (p.heap.ag.set i.toNat (boxed (nth p.heap.ag i) x))<gX:=fun x=>Ii ar (by have:ib (nth p.heap.ag i)≤12:=tM ar g0 g9;show ib (nth p.heap.ag i)≤_;omega);have hx:∀ x,wA (p.heap.ag.set i.toNat (boxed (nth p.heap.ag i) x)):=fun x=>lz hp.w (show n8 (nth p.heap.ag i) from hp.w _ (ar.at g0 g9).2);cases hk:c.py==4
  · simp only [Q9,Q8,Sum.elim_inl,(ar.at g0 g9).1,Bool.false_and,vJ];exact zY (h:=gV.mk (p.heap.ag.set i.toNat (boxed (nth p.heap.ag i) (-1))) p.heap.gc) hN (hs (-1)) hp.b5 (hx (-1)) (-1) i fun y=>some (m4 p y,il.mk 0 0)
  · cases q3:jl p.heap.ag now me c.b 1 != 0
    · have q3':=jM q3;simp only [Rb,Q9,Q8,Sum.elim_inl,(ar.at g0 g9).1,Bool.and_false,q3',beq_self_eq_true,vJ];generalize hD p.heap.ag now me c.b=x;exact zY (h:=gV.mk (p.heap.ag.set i.toNat (boxed (nth p.heap.ag i) x)) p.heap.gc) hN (hs x) hp.b5 (hx x) x i fun y=>some (m4 p y,il.mk 0 0)
    · simp only [Rb,Q9,Q8,Sum.elim_inr,Bool.and_true,mE q3 hc]
def NS (p:cd) (i b x:Int):cd:=mu p (p.heap.ag.set i.toNat (written (nth p.heap.ag i) b x))
def jT (p:cd) (me now:Int) (c:iA):Int×Int×cd :=
  bif jl p.heap.ag now me c.a 2 != 0 then (jl p.heap.ag now me c.a 2,0,p) else
  bif !ic c.b 0 (((nth p.heap.ag (hD p.heap.ag now me c.a)).QV.length:Int) - 1) then (2,0,p) else
  bif c.py==7 then (0,nth (nth p.heap.ag (hD p.heap.ag now me c.a)).QV c.b,p) else
  bif !ic c.c 0 999 then (2,0,p) else (0,0,NS p (hD p.heap.ag now me c.a) c.b c.c)
theorem MO {α:Type} {l:List α} (h:l.length<gX):i64.wrap ((l.length:Int) - 1)=(l.length:Int) - 1:=by
  have:l.length<16777216:=h;exact ig (by omega) (by omega)
theorem Ma {o:gE} (h:ib o≤12):o.QV.length<gX:=by
  have hB:(16777216:Nat)=gX:=rfl;unfold ib at h;omega
theorem JG {N:Nat} (hN:gX≤N) {p:cd} (hp:lB p) (me now:Int) {c:iA} (hc:(c.py==1)=false) (hk:(c.py==6)=!(c.py==7)):qj N p me now c=some (fin c p (jT p me now c)):=by
  have h4:=hp.b4;unfold qj jT;simp only [A7 hN h4 hp.w _ _ _ (show (0:Int)<2 by decide),mF,Q8];cases q2:jl p.heap.ag now me c.a 2 != 0
  case true=>simp only [Rb,mE q2 hc]
  have q2':=jM q2;obtain ⟨ar,g0,g9,gk,_⟩:=kU q2';simp only [Rd,Q9,q2',beq_self_eq_true,Rb];generalize hD p.heap.ag now me c.a=i at *;have ho:=tM ar g0 g9;simp only [(ar.at g0 g9).1,Q8,MO (Ma ho)];cases q3:ic c.b 0 (((nth p.heap.ag i).QV.length:Int) - 1)
  · simp only [Bool.not_false,Rb,Q8,mE (show ((2:Int) != 0)=true from rfl) hc]
  have hd:idx (nth p.heap.ag i).QV c.b=some (nth (nth p.heap.ag i).QV c.b):=by
    rw [ir] at q3;exact jh q3.1 (by omega)
  rw [hk];simp only [Rd,Q9,hd,Q8];cases c.py==7
  · cases ic c.c 0 999
    · simp only [Bool.not_false,Rb,Q9,Q8,mE (show ((2:Int) != 0)=true from rfl) hc]
    · rfl
  · rfl
def oc (p:cd) (f:Int) (a:gT):Bool:=(iQ p.QR f a).2&&(kz p.gP (gT.mk 0 a.gS 0)).2
def qy (p:cd) (f:Int) (a:gT):cd:=cd.mk p.QQ p.own (iQ p.QR f a).1 p.heap p.gR p.QZ p.QY (kz p.gP (gT.mk 0 a.gS 0)).1 p.hY p.QX
theorem JS (p:cd) (f:Int) (a:gT):(qy p f a).heap=p.heap:=rfl
theorem lB.b3 {p:cd} (h:lB p):p.QR.length<gX:=(kC (p:=p) (Nat.lt_of_le_of_lt h.sz (by decide))).2.2.1
def ss (p:cd) (me now:Int) (c:iA):Int×Int×cd :=
  bif jl p.heap.ag now me c.a 0 != 0 then (jl p.heap.ag now me c.a 0,0,p) else
  bif (hD p.heap.ag now me c.a==0) || (!ic c.b 1 1000 || decide (i64.wrap ((nth p.heap.ag (hD p.heap.ag now me c.a)).iF+c.b) > 1000000)) then (2,0,p) else
  bif !oc p (kK p (nth p.heap.ag (hD p.heap.ag now me c.a)).res) (gT.mk 0 (i64.wrap ((nth p.heap.ag (hD p.heap.ag now me c.a)).bh * c.b)) 0) then (6,0,p) else
  (0,0,mu (qy p (kK p (nth p.heap.ag (hD p.heap.ag now me c.a)).res) (gT.mk 0 (i64.wrap ((nth p.heap.ag (hD p.heap.ag now me c.a)).bh * c.b)) 0)) (p.heap.ag.set (hD p.heap.ag now me c.a).toNat (nq (nth p.heap.ag (hD p.heap.ag now me c.a)) (i64.wrap ((nth p.heap.ag (hD p.heap.ag now me c.a)).iF+c.b)))))
theorem NZ {N:Nat} (hN:gX≤N) {p:cd} (hp:lB p) (me now:Int) {c:iA} (hc:(c.py==1)=false):si N p me now c=some (fin c p (ss p me now c)):=by
  have h4:=hp.b4;have h3:=hp.b3;unfold si ss;simp only [Bb hN h4 hp.w,mF,Q8];cases q2:jl p.heap.ag now me c.a 0 != 0
  case true=>simp only [Rb,mE q2 hc]
  have q2':=jM q2;obtain ⟨ar,g0,g9,gk,_⟩:=kU q2';simp only [Rd,Q9,q2',beq_self_eq_true,Rb];generalize hD p.heap.ag now me c.a=i at *;simp only [(ar.at g0 g9).1,Q8,lM,xP hN,uv hN h3,xe];cases ((i==0) || (!ic c.b 1 1000 || decide (i64.wrap ((nth p.heap.ag i).iF+c.b) > 1000000)))
  · unfold oc;cases (iQ p.QR (kK p (nth p.heap.ag i).res) (gT.mk 0 (i64.wrap ((nth p.heap.ag i).bh * c.b)) 0)).2<;>cases (kz p.gP (gT.mk 0 (i64.wrap ((nth p.heap.ag i).bh * c.b)) 0)).2<;>simp only [Rd,Bool.not_false,Bool.and_self,Bool.and_false,Bool.false_and,Bool.or_self,Bool.or_true,Bool.true_or,Bool.false_or,Bool.or_false,Re,Bool.and_true,Rb,Q9,mE (show ((6:Int) != 0)=true from rfl) hc,vJ]
    rfl
  · simp only [Rb,mE (show ((2:Int) != 0)=true from rfl) hc]
def vZ (p:cd) (c:iA):Int×Int×cd :=
  bif c.py==9 then
    bif !ic c.a 0 4 || !iC (gT.mk c.b c.c c.d) then (2,0,p) else
    bif !(mA p.QR c.a (gT.mk c.b c.c c.d)).2.2 then (6,0,p) else (0,(mA p.QR c.a (gT.mk c.b c.c c.d)).2.1,wI p (mA p.QR c.a (gT.mk c.b c.c c.d)).1)
  else bif c.py==10 then
    bif !ic c.a 0 4 || (!ic c.b 0 4 || (!ic c.c 0 2 || !wM c.d)) then (2,0,p) else
    bif !(nu p.QR c.a c.b (lG c.c c.d)).2 then (6,0,p) else (0,0,wI p (nu p.QR c.a c.b (lG c.c c.d)).1)
  else bif !(ny p.QR c.a).2 then (2,0,p) else (0,0,wI p (ny p.QR c.a).1)
theorem Ps {N:Nat} (hN:gX≤N) {p:cd} (hp:lB p) {c:iA} (hc:(c.py==1)=false):u7 N p c=some (fin c p (vZ p c)):=by
  have h3:=hp.b3;have n2:=fun q=>mE (p:=p) (q:=q) (v:=0) (show ((2:Int) != 0)=true from rfl) hc;have n6:=fun q=>mE (p:=p) (q:=q) (v:=0) (show ((6:Int) != 0)=true from rfl) hc;unfold u7 vZ;simp only [wq,rh,mF,P5,Fh,FK hN h3,Ij hN h3,Ik hN h3,Q8,lM];cases c.py==9
  · cases c.py==10
    · cases (ny p.QR c.a).2
      · simp only [Bool.not_false,Rb,Q9,n2]
      · rfl
    · cases (!ic c.a 0 4 || (!ic c.b 0 4 || (!ic c.c 0 2 || !wM c.d)))
      · cases (nu p.QR c.a c.b (lG c.c c.d)).2
        · simp only [Bool.not_false,Rb,Q9,n6]
        · rfl
      · simp only [Rb,Q9,n2]
  · cases (!ic c.a 0 4 || !iC (gT.mk c.b c.c c.d))
    · cases (mA p.QR c.a (gT.mk c.b c.c c.d)).2.2
      · simp only [Bool.not_false,Rb,Q9,n6]
      · rfl
    · simp only [Rb,n2]
def zf (p:cd) (th a:Int):Int×Int×cd :=
  bif a==0 then (0,(nth p.heap.ag th).iG,p) else bif a==1 then (0,(nth p.heap.ag th).iK,p) else
  bif (a==2) || ((a==3) || (a==4)) then (0,lO (om p th) (i64.wrap (a - 2)),p) else (2,0,p)
theorem J3 (a b c:Bool):(bif a then some a else bif b then some b else some c)=some (a || (b || c)):=by cases a<;>cases b<;>rfl
theorem Qj (a b:Bool):(bif a then some a else some b)=some (a || b):=by cases a<;>rfl
theorem On {N:Nat} (hN:gX≤N) {p:cd} (hp:lB p) {th:Int} (h0:0≤th) (h9:th≤9) {c:iA} (hc:(c.py==1)=false):tG N p th c=some (fin c p (zf p th c.a)):=by
  unfold tG zf;obtain ⟨r0,r4⟩:=rU p (nth p.heap.ag th).res;simp only [(hp.ar.at h0 h9).1,xP hN,xM hp.ok r0 r4,CV,Q8,J3,OI];cases c.a==0
  · cases c.a==1
    · cases (c.a==2) || ((c.a==3) || (c.a==4))
      · simp only [Q9,mE (show ((2:Int) != 0)=true from rfl) hc]
      · rfl
    · rfl
  · rfl
theorem E3 {l:List gE} {o:gE}:∀ (m:List gE) (k:Nat),rD l o k m=(l, -1)∨∃ (j:Nat) (g:Int),j<k+m.length∧rD l o k m=(l.set j (kB o g),(j:Int))∧kM (l.set j (kB o g))=true
  | [],k=>.inl rfl
  | x::m,k=>by
    unfold rD;split
    · rcases E3 (l:=l) (o:=o) m (k+1) with h | ⟨j,g,h1,h2,h3⟩
      · exact .inl h
      · exact .inr ⟨j,g,by simp only [List.length_cons];omega,h2,h3⟩
    · unfold putAt;split
      · rename_i q;simp only [Rg] at q;exact .inr ⟨k,_,by simp,rfl,q.1⟩
      · exact .inl rfl
theorem Ap {l:List gE} {o:gE} (h:decide ((kI l o).2<0)=false):∃ (j:Nat) (g:Int),kI l o=(l.set j (kB o g),(j:Int))∧Ar (l.set j (kB o g))∧j<10:=by
  unfold kI at *;cases ha:kM l
  · rw [ha] at h;simp at h
  · rw [ha] at h;simp only [if_true] at *;have hl:=(jJ.1 ha).len
    rcases E3 (l:=l) (o:=o) (l.drop 1) 1 with e | ⟨j,g,h1,h2,h3⟩
    · rw [e] at h;simp at h
    · exact ⟨j,g,h2,jJ.1 h3,by simp only [List.length_drop] at h1;omega⟩
def newObj (now box:Int) (c:iA):gE:=gE.mk 0 c.a box c.e (i64.wrap (now+c.d)) c.c 0 0 0 false [-1, -1] (bif c.a==2 then List.replicate c.c.toNat 0 else []) []
def sD (now:Int) (c:iA):Bool:=!ic c.a 1 4 || (!ic c.c 0 8 || (!ic c.d 1 1000 || (decide (i64.wrap (now+c.d) > 1000000) || !ic c.e 0 4)))
def cost (c:iA):gT:=gT.mk c.c (i64.wrap (c.c * c.d)) 0
def rN (p:cd) (me now:Int) (c:iA):Int×Int×cd :=
  bif sD now c then (2,0,p) else
  bif jl p.heap.ag now me c.b 1 != 0 then (jl p.heap.ag now me c.b 1,0,p) else
  bif !oc p c.e (cost c) then (6,0,p) else
  bif decide ((kI p.heap.ag (newObj now (hD p.heap.ag now me c.b) c)).2<0) then (7,0,qy p c.e (cost c)) else
  (0,lC me (kI p.heap.ag (newObj now (hD p.heap.ag now me c.b) c)).2 (nth (kI p.heap.ag (newObj now (hD p.heap.ag now me c.b) c)).1 (kI p.heap.ag (newObj now (hD p.heap.ag now me c.b) c)).2).Q3,
    m4 (qy p c.e (cost c)) (ng (gV.mk (kI p.heap.ag (newObj now (hD p.heap.ag now me c.b) c)).1 p.heap.gc) (kI p.heap.ag (newObj now (hD p.heap.ag now me c.b) c)).2))
theorem xC {now:Int} {c:iA} (h:sD now c=false):0≤c.c∧c.c≤8:=by
  unfold sD at h;simp only [Bool.or_eq_false_iff,Bool.not_eq_false'] at h;exact ir.1 h.2.1
theorem Cz {now box:Int} {c:iA} (h:0≤c.c∧c.c≤8):ib (newObj now box c)≤100:=by
  unfold ib newObj;cases c.a==2
  · simp
  · simp only [Rb,List.length_replicate,List.length_cons,List.length_nil];omega
theorem AS (now box:Int) (c:iA):n8 (newObj now box c):=by show (-9223372036854775808:Int)≤0;decide
theorem Qt {c:Int} (h:0≤c∧c≤8):mk Int c=some (List.replicate c.toNat 0):=by
  have hB:(16777216:Nat)=gX:=rfl;unfold mk;rw [if_pos ⟨h.1,by omega⟩];rfl
theorem PE (a b c d e:Bool):(bif a then some true else bif b then some true else bif c then some true else bif d then some true else some e)=some (a || (b || (c || (d || e)))):=by cases a<;>cases b<;>cases c<;>cases d<;>rfl
theorem ES (l:List gE) (now me h k:Int):(jl l now me h k==6)=false∧(jl l now me h k==7)=false:=by
  unfold jl;cases nQ h
  · exact ⟨rfl,rfl⟩
  cases og h != me
  case true=>exact ⟨rfl,rfl⟩
  cases decide (hD l now me h<0)
  case true=>exact ⟨rfl,rfl⟩
  cases (k != 0)&&((nth l (hD l now me h)).py != k)<;>exact ⟨rfl,rfl⟩
theorem DP {c:iA} {p q:cd} {k v:Int} (h:(k != 0)=true) (h6:(k==6)=false) (h7:(k==7)=false):fin c p (k,v,q)=(p,il.mk k 0):=by
  unfold fin
  have:(k==0)=false:=by simpa [bne] using h
  rw [this];simp only [Q9,h6,h7,Bool.or_self,Bool.and_false]
theorem C3 {c:iA} {p q:cd} {k v:Int} (h:(k != 0)=true) (h6:((k==6) || (k==7))=true) (hc:(c.py==1)=true):fin c p (k,v,q)=(z4 p,il.mk k 0):=by
  unfold fin
  have:(k==0)=false:=by simpa [bne] using h
  rw [this];simp only [Q9,h6,hc,Bool.and_self,Rb]
theorem Og {N:Nat} (hN:gX≤N) {p:cd} (hp:lB p) (me now:Int) {c:iA} (hc1:(c.py==1)=true):tQ N p me now c=some (fin c p (rN p me now c)):=by
  have h4:=hp.b4;have h3:=hp.b3;have h5:=hp.b5;unfold tQ rN;simp only [A7 hN h4 hp.w _ _ _ (show (0:Int)<1 by decide),mF,wq,Q8,PE];rw [show (!ic c.a 1 4 || (!ic c.c 0 8 || (!ic c.d 1 1000 || (decide (i64.wrap (now+c.d) > 1000000) || !ic c.e 0 4))))=sD now c from rfl];cases q1:sD now c
  case true=>simp only [Rb,DP (show ((2:Int) != 0)=true from rfl) rfl rfl]
  have hc:=xC q1;cases q2:jl p.heap.ag now me c.b 1 != 0
  case true=>simp only [Rb,Q9,DP q2 (ES _ _ _ _ _).1 (ES _ _ _ _ _).2]
  have q2':=jM q2;simp only [Q9,Rb,q2',beq_self_eq_true];generalize hD p.heap.ag now me c.b=box;rw [show gT.mk c.c (i64.wrap (c.c * c.d)) 0=cost c from rfl];simp only [uv hN h3,xe,Q8,lM];rw [show (!(iQ p.QR c.e (cost c)).2 || !(kz p.gP (gT.mk 0 (i64.wrap (c.c * c.d)) 0)).2)=!oc p c.e (cost c) by unfold oc;rw [Bool.not_and];rfl];cases q3:oc p c.e (cost c)
  · simp only [Bool.not_false,Rb,C3 (show ((6:Int) != 0)=true from rfl) rfl hc1];rfl
  simp only [Rd,Q9,Rb,Qt hc,Q8];rw [show (bif c.a==2 then some (List.replicate c.c.toNat 0) else some ([]:List Int))=some (bif c.a==2 then List.replicate c.c.toNat 0 else []) from rV _ _ _];simp only [Q8];rw [show gE.mk 0 c.a box c.e (i64.wrap (now+c.d)) c.c 0 0 0 false [-1, -1] (bif c.a==2 then List.replicate c.c.toNat 0 else []) []=newObj now box c from rfl];have ho:=Cz (now:=now) (box:=box) hc;rw [Bw hN h4 hp.w (o:=newObj now box c) (by omega) (AS _ _ _)];simp only [Q8];cases q4:decide ((kI p.heap.ag (newObj now box c)).2<0)
  case true =>
    simp only [Rb,C3 (show ((7:Int) != 0)=true from rfl) rfl hc1];rfl
  obtain ⟨j,g,e,ar,hj⟩:=Ap q4;have h1:=ar.sz;have hB:(16777216:Nat)=gX:=rfl;have hw':wA (p.heap.ag.set j (kB (newObj now box c) g)):=lz hp.w (yD (AS _ _ _));rw [e];simp only [Q9,(ar.at (i:=(j:Int)) (by omega) (by omega)).1,Q8,uV];rw [Eh hN (h:=gV.mk (p.heap.ag.set j (kB (newObj now box c) g)) p.heap.gc) (by show iY ib (p.heap.ag.set j (kB (newObj now box c) g))<gX;omega) (by show p.heap.gc.gQ.length<gX;omega) hw'];rfl
def uY (l:List gE) (k w b:Int):List gE:=bif decide (k ≥ 0)&&((nth l k).QW==w) then (l.set k.toNat (waiting (nth l k) 0)).set k.toNat (yC (nth (l.set k.toNat (waiting (nth l k) 0)) k) b) else l
theorem Jl {l:List gE} {k w b:Int} (h:0≤k→k<(l.length:Int)) {β:Type} (f:List gE→Option β) :
    ((bif decide (k ≥ 0) then ((idx l k).bind fun y=>some (y.QW==w)) else (some false):Option Bool).bind fun j=>(bif j then ((idx l k).bind fun y=>(some (l.set (k:Int).toNat (waiting y 0))).bind fun z=>(idx z k).bind fun x=>(some (z.set (k:Int).toNat (yC x b))).bind fun v=>some v) else (some l):Option (List gE)).bind f)=f (uY l k w b):=by
  unfold uY;cases hk:decide (k ≥ 0)
  · rfl
  have k0:0≤k:=by simpa using hk
  have e:=jh k0 (h k0);have e2:∀ z,idx (l.set k.toNat z) k=some (nth (l.set k.toNat z) k):=fun z=>jh k0 (by simp only [List.length_set];exact h k0);simp only [Rb,e,e2,Q8,Re];cases (nth l k).QW==w<;>rfl
def asked (l:List gE) (g me th:Int) (c:iA):List gE:=l.set g.toNat (n5 (nth l g) ((nth l g).QU++[jw.mk (lC me th (nth l th).Q3) c.b]))
def served (l:List gE) (g:Int):List gE:=l.set g.toNat (n5 (nth l g) ((nth l g).QU.drop 1))
def uT (p:cd) (me now th:Int) (c:iA):Int×Int×cd :=
  bif jl p.heap.ag now me c.a 3 != 0 then (jl p.heap.ag now me c.a 3,0,p) else
  bif !ic c.b 0 999 then (2,0,p) else
  bif c.py==12 then
    bif decide (((nth p.heap.ag (hD p.heap.ag now me c.a)).QU.length:Int) ≥ 2) then (8,0,p) else
    (0,0,mu p ((asked p.heap.ag (hD p.heap.ag now me c.a) me th c).set th.toNat (waiting (nth (asked p.heap.ag (hD p.heap.ag now me c.a) me th c) th) (i64.wrap (c.a+1)))))
  else
    bif ((nth p.heap.ag (hD p.heap.ag now me c.a)).QU.length:Int)==0 then (8,0,p) else
    (0,(nth (nth p.heap.ag (hD p.heap.ag now me c.a)).QU 0).n,mu p (uY (served p.heap.ag (hD p.heap.ag now me c.a)) (hD (served p.heap.ag (hD p.heap.ag now me c.a)) now me (nth (nth p.heap.ag (hD p.heap.ag now me c.a)).QU 0).Q6) (i64.wrap (c.a+1)) c.b))
theorem LP {α:Type} {l:List α} {k:Nat} (h:k≤l.length):sub l (k:Int) (l.length:Int)=some (l.drop k):=by
  unfold sub;rw [if_pos ⟨by omega,by omega,by omega⟩];simp only [Int.toNat_natCast];rw [List.take_of_length_le (by simp)]
theorem Cx {o:gE} (h:ib o≤12):o.QU.length≤12:=by unfold ib at h;omega
theorem K8 {o:gE} {q:List jw} (h:ib o≤12) (hq:q.length≤20):ib (n5 o q)≤100000:=by
  unfold ib at h;unfold ib n5;simp only;omega
theorem uq {l:List gE} {now me h:Int} (hl:l.length=10) (h0:0≤hD l now me h):hD l now me h<(l.length:Int):=by
  obtain ⟨_,_,h9,_⟩:=z0 (l:=l) (now:=now) (me:=me) (h:=h) (decide_eq_false (by omega));omega
theorem O7 {N:Nat} (hN:gX≤N) {p:cd} (hp:lB p) (me now:Int) {th:Int} (t0:0≤th) (t9:th≤9) {c:iA} (hc:(c.py==1)=false):sY N p me now th c=some (fin c p (uT p me now th c)):=by
  have h4:=hp.b4;unfold sY uT;simp only [A7 hN h4 hp.w _ _ _ (show (0:Int)<3 by decide),mF,Q8];cases q2:jl p.heap.ag now me c.a 3 != 0
  case true=>simp only [Rb,mE q2 hc]
  have q2':=jM q2;obtain ⟨ar,g0,g9,gk,_⟩:=kU q2';simp only [Rd,Q9,q2',beq_self_eq_true,Rb];generalize hD p.heap.ag now me c.a=i at *;have ho:=tM ar g0 g9;have hq:=Cx ho;have hl:=ar.len;have hB:(16777216:Nat)=gX:=rfl;simp only [(ar.at g0 g9).1,(ar.at t0 t9).1,Q8];cases q3:ic c.b 0 999
  · simp only [Bool.not_false,Rb,mE (show ((2:Int) != 0)=true from rfl) hc]
  cases q4:c.py==12
  · simp only [Rd,Bool.not_false,Q9,Rb,Q8];cases q5:((nth p.heap.ag i).QU.length:Int)==0
    case true=>simp only [Rb,mE (show ((8:Int) != 0)=true from rfl) hc]
    have l1:1≤(nth p.heap.ag i).QU.length:=by rw [beq_eq_false_iff_ne] at q5;omega
    have hsub:sub (nth p.heap.ag i).QU 1 ((nth p.heap.ag i).QU.length:Int)=some ((nth p.heap.ag i).QU.drop 1):=LP l1;have happ:app ([]:List jw) ((nth p.heap.ag i).QU.drop 1)=some ((nth p.heap.ag i).QU.drop 1):=km (by simp only [List.length_drop];omega);have hi0:idx (nth p.heap.ag i).QU 0=some (nth (nth p.heap.ag i).QU 0):=jh (i:=0) (by decide) (by omega);simp only [Q9,hsub,happ,hi0,Q8,vJ];have hs:iY ib (p.heap.ag.set i.toNat (n5 (nth p.heap.ag i) ((nth p.heap.ag i).QU.drop 1)))<gX:=Ii ar (K8 ho (by simp only [List.length_drop];omega));have hx:wA (p.heap.ag.set i.toNat (n5 (nth p.heap.ag i) ((nth p.heap.ag i).QU.drop 1))):=lz hp.w (show n8 (nth p.heap.ag i) from hp.w _ (ar.at g0 g9).2);have e1:=uQ hN hs hx now me (nth (nth p.heap.ag i).QU 0).Q6;unfold n5 at e1;rw [e1,Q8];exact Jl (l:=served p.heap.ag i) (uq (by unfold served;simp only [List.length_set];exact hl)) fun z=>some (mu p z,il.mk 0 (nth (nth p.heap.ag i).QU 0).n)
  · simp only [Rd,Bool.not_false,Q9,Rb,Q8,lM,Bool.or_false];cases q5:decide (((nth p.heap.ag i).QU.length:Int) ≥ 2)
    case true=>simp only [Rb,mE (show ((8:Int) != 0)=true from rfl) hc]
    have happ:∀ m,app (nth p.heap.ag i).QU [m]=some ((nth p.heap.ag i).QU++[m]):=fun m=>kX hq (by omega);have hap0:app ([]:List jw) (nth p.heap.ag i).QU=some (nth p.heap.ag i).QU:=km (by omega);have e2:∀ z,idx (p.heap.ag.set i.toNat z) th=some (nth (p.heap.ag.set i.toNat z) th):=fun z=>jh t0 (by simp only [List.length_set];omega);simp only [Q9,uV,hap0,happ,e2,Q8,vJ];rfl
def uu (p:cd) (c:iA):Int×Int×cd:=bif !ic c.a 0 ((p.gR.length:Int) - 1) then (2,0,p) else (0,0,vt p (p.gR.take c.a.toNat++p.gR.drop (c.a.toNat+1)))
theorem D4 {α:Type} {l:List α} {i j:Int} (h0:0≤i) (h1:i≤j) (h2:j≤(l.length:Int)):sub l i j=some ((l.drop i.toNat).take (j.toNat - i.toNat)):=by
  unfold sub;rw [if_pos ⟨h0,h1,h2⟩]
theorem lB.b6 {p:cd} (h:lB p):p.gR.length<gX:=(kC (p:=p) (Nat.lt_of_le_of_lt h.sz (by decide))).2.2.2.2.2
theorem Ok {α:Type} {l:List α} (hl:l.length<gX) {a:Int} (h:ic a 0 ((l.length:Int) - 1)=true):i64.wrap (a+1)=a+1∧sub l 0 a=some (l.take a.toNat)∧sub l (a+1) (l.length:Int)=some (l.drop (a.toNat+1))∧∃ m,sub l a (a+1)=some m:=by
  have hB:(16777216:Nat)=gX:=rfl;rw [ir] at h;refine ⟨ig (by omega) (by omega),?_,?_,_,D4 h.1 (by omega) (by omega)⟩
  · rw [D4 (Int.le_refl 0) h.1 (by omega)];simp
  · rw [D4 (by omega) (by omega) (Int.le_refl _),show (a+1).toNat=a.toNat+1 by omega,List.take_of_length_le (by simp)]
def mn (p:cd) (me now th:Int) (c:iA):Int×Int×cd :=
  bif c.py==1 then rN p me now c else bif (c.py==2) || (c.py==3) then uW p me now c else bif (c.py==4) || (c.py==5) then uL p me now c else
  bif (c.py==6) || (c.py==7) then jT p me now c else bif c.py==8 then ss p me now c else bif (c.py==9) || ((c.py==10) || (c.py==11)) then vZ p c else
  bif (c.py==12) || (c.py==13) then uT p me now th c else bif c.py==14 then zf p th c.a else bif c.py==15 then uu p c else (2,0,p)
theorem B0 (p:cd) (th a:Int):(zf p th a).2.2=p:=by
  unfold zf;cases a==0
  · cases a==1
    · cases (a==2) || ((a==3) || (a==4))<;>rfl
    · rfl
  · rfl
theorem O6 {a m n:Int} (hne:m ≠ n) (h:((a==m) || (a==n))=true):(a==m)=!(a==n):=by
  simp only [Bool.or_eq_true,beq_iff_eq] at h
  rcases h with h | h
  · subst h
    have:(a==n)=false:=by rw [beq_eq_false_iff_ne];exact hne
    rw [this];simp
  · subst h
    have:(a==m)=false:=by rw [beq_eq_false_iff_ne];exact fun q=>hne q.symm
    rw [this];simp
theorem uU {p:cd} {now th:Int} (h:mQ p now th=true):ik p=true∧0≤th∧th≤9:=by
  unfold mQ at h;simp only [Rg] at h;exact sN (now:=now) (by simpa using h.1)
def mZ (p:cd) (me now th:Int) (c:iA):cd×il :=
  bif !ik p || (!ic me 0 2 || !ic now 0 1000000) then (p,il.mk 2 0) else bif !mQ p now th then (p,il.mk 1 0) else fin c p (mn p me now th c)
theorem CL (p:cd) (me now:Int) (c:iA) {β:Type} (x:Option β):np p.QQ.so (fin c p (jT p me now c)).1.QQ.so (np p.own (fin c p (jT p me now c)).1.own (np p.QR (fin c p (jT p me now c)).1.QR (np p.heap.ag (fin c p (jT p me now c)).1.heap.ag (np p.heap.gc.gQ (fin c p (jT p me now c)).1.heap.gc.gQ (np p.gR (fin c p (jT p me now c)).1.gR x)))))=x:=by
  have h:(jT p me now c).2.2.QQ=p.QQ∧(jT p me now c).2.2.own=p.own∧(jT p me now c).2.2.QR=p.QR∧(jT p me now c).2.2.heap.ag.length=p.heap.ag.length∧(jT p me now c).2.2.heap.gc=p.heap.gc∧(jT p me now c).2.2.gR=p.gR:=by
    unfold jT;cases jl p.heap.ag now me c.a 2 != 0
    case true=>exact ⟨rfl,rfl,rfl,rfl,rfl,rfl⟩
    cases !ic c.b 0 (((nth p.heap.ag (hD p.heap.ag now me c.a)).QV.length:Int) - 1)
    case true=>exact ⟨rfl,rfl,rfl,rfl,rfl,rfl⟩
    cases c.py==7
    case true=>exact ⟨rfl,rfl,rfl,rfl,rfl,rfl⟩
    cases !ic c.c 0 999
    case true=>exact ⟨rfl,rfl,rfl,rfl,rfl,rfl⟩
    exact ⟨rfl,rfl,rfl,List.length_set,rfl,rfl⟩
  have g:(fin c p (jT p me now c)).1.QQ.so.length=p.QQ.so.length∧(fin c p (jT p me now c)).1.own.length=p.own.length∧(fin c p (jT p me now c)).1.QR.length=p.QR.length∧(fin c p (jT p me now c)).1.heap.ag.length=p.heap.ag.length∧(fin c p (jT p me now c)).1.heap.gc.gQ.length=p.heap.gc.gQ.length∧(fin c p (jT p me now c)).1.gR.length=p.gR.length:=by
    unfold fin;cases (jT p me now c).1==0
    · cases (c.py==1)&&(((jT p me now c).1==6) || ((jT p me now c).1==7))<;>exact ⟨rfl,rfl,rfl,rfl,rfl,rfl⟩
    · simp only [Rb];rw [h.1,h.2.1,h.2.2.1,h.2.2.2.2.1,h.2.2.2.2.2];exact ⟨rfl,rfl,rfl,h.2.2.2.1,rfl,rfl⟩
  rw [sI g.1,sI g.2.1,sI g.2.2.1,sI g.2.2.2.1,sI g.2.2.2.2.1,sI g.2.2.2.2.2]
theorem IE {N:Nat} (hN:gX≤N) {p:cd} (hb:ij p≤3000000) (hw:wP p) (me now th:Int) (c:iA):rP N p me now th c=some (mZ p me now th c):=by
  have hB:ij p<gX:=Nat.lt_of_le_of_lt hb (by decide);unfold rP mZ;simp only [ud hN hB hw,mF,sc hN hB,Cw hN hB hw,Q8,lM,Qj,J3];cases !ik p || (!ic me 0 2 || !ic now 0 1000000)
  case true=>rfl
  cases hc:mQ p now th
  · rfl
  obtain ⟨ok,t0,t9⟩:=uU hc;have hp:lB p:=⟨ok,hb,hw⟩;simp only [Rd,Q9];unfold mn;cases hk:c.py==1
  case true=>simp only [Rb,Og hN hp me now hk,Q8]
  simp only [Q9];cases (c.py==2) || (c.py==3)
  case true=>simp only [Rb,Od hN hp me now hk,Q8]
  simp only [Q9];cases (c.py==4) || (c.py==5)
  case true=>simp only [Rb,OD hN hp me now hk,Q8]
  simp only [Q9];cases hd:(c.py==6) || (c.py==7)
  case true =>
    simp only [Rb,JG hN hp me now hk (O6 (by decide) hd),Q8]
    all_goals (rw [CL];rfl)
  simp only [Q9];cases c.py==8
  case true=>simp only [Rb,NZ hN hp me now hk,Q8]
  simp only [Q9];cases (c.py==9) || ((c.py==10) || (c.py==11))
  case true=>simp only [Rb,Ps hN hp hk,Q8]
  simp only [Q9];cases (c.py==12) || (c.py==13)
  case true=>simp only [Rb,O7 hN hp me now t0 t9 hk,Q8]
  simp only [Q9];cases c.py==14
  case true=>simp only [Rb,On hN hp t0 t9 hk,Q8]
  simp only [Q9];cases c.py==15
  case false=>simp only [Q9,mE (show ((2:Int) != 0)=true from rfl) hk]
  have h6:=hp.b6;unfold uu;simp only [Rb,MO h6];cases hi:ic c.a 0 ((p.gR.length:Int) - 1)
  · simp only [Bool.not_false,Rb,mE (show ((2:Int) != 0)=true from rfl) hk]
  obtain ⟨h1,h2,h3,_⟩:=Ok h6 hi;have hB':(16777216:Nat)=gX:=rfl;have a1:app ([]:List i7) (p.gR.take c.a.toNat)=some (p.gR.take c.a.toNat):=km (by simp only [List.length_take];omega)
  have a2:app (p.gR.take c.a.toNat) (p.gR.drop (c.a.toNat+1))=some (p.gR.take c.a.toNat++p.gR.drop (c.a.toNat+1)):=by
    unfold app;rw [if_pos (by simp only [List.length_take,List.length_drop];omega)]
  simp only [Rd,Q9,h1,h2,h3,a1,a2,Q8,vJ];rfl
structure sq (p q:cd):Prop where
  sz:ij q≤ij p+300
  w:wP q
  ln:q.heap.ag.length=p.heap.ag.length
theorem o4 {p q:cd} (h1:q.QQ=p.QQ) (h2:q.own=p.own) (h3:q.QR.length=p.QR.length) (h4:iY ib q.heap.ag≤iY ib p.heap.ag+250) (h5:q.heap.gc.gQ.length≤p.heap.gc.gQ.length+1) (h6:q.gR.length≤p.gR.length) (h7:wA q.heap.ag) (h8:q.heap.ag.length=p.heap.ag.length):sq p q:=by
  refine ⟨?_,h7,h8⟩;unfold ij my rR lQ;rw [h1,h2];omega
theorem jK {p:cd} (h:lB p):sq p p:=⟨by omega,h.w,rfl⟩
theorem vL {l:List gE} {k:Nat} {o:gE} (ho:ib o≤100):iY ib (l.set k o)≤iY ib l+100:=Nat.le_trans x5 (by omega)
theorem BE (h:gV) (c i:Int):(mi h c i).ag.length=h.ag.length:=by
  unfold mi rm jG;cases decide (c ≥ 0)
  · rfl
  cases kb h&&ic i 0 9
  · rfl
  simp only [Rb];split
  · simp only [List.length_set]
  · rfl
theorem BG {h:gV} (hw:wA h.ag) (c i:Int):iY ib (mi h c i).ag=iY ib h.ag∧wA (mi h c i).ag∧(mi h c i).gc.gQ.length≤h.gc.gQ.length+1:=by
  unfold mi rm;cases decide (c ≥ 0)
  · exact ⟨rfl,hw,Nat.le_succ _⟩
  cases q:kb h&&ic i 0 9
  · exact ⟨rfl,hw,Nat.le_succ _⟩
  simp only [Rg,ir] at q;have hl:=(pC q.1).len;simp only [Rb];refine ⟨?_,?_,yB h i⟩
  · unfold jG;split
    · exact pI q.2.1 (by omega) rfl
    · rfl
  · unfold jG;split
    · exact lz hw (show n8 (marked (nth h.ag i) true) from hw (nth h.ag i) (j7 q.2.1 (by omega)))
    · exact hw
theorem NO {p:cd} (hp:lB p) (me now:Int) (c:iA):sq p (uW p me now c).2.2:=by
  unfold uW;cases !ic c.b 0 1
  case true=>exact jK hp
  cases q2:jl p.heap.ag now me c.a 0 != 0
  case true=>exact jK hp
  obtain ⟨ar,g0,g9,_,_⟩:=kU (jM q2);cases (c.py==2)&&(jl p.heap.ag now me c.c 0 != 0)
  case true=>exact jK hp
  simp only [Q9];generalize (bif c.py==2 then hD p.heap.ag now me c.c else -1)=x;have ho:=tM ar g0 g9;obtain ⟨a,b,d⟩:=BG (h:=gV.mk (p.heap.ag.set (hD p.heap.ag now me c.a).toNat (linked (nth p.heap.ag (hD p.heap.ag now me c.a)) c.b x)) p.heap.gc) (lz hp.w (show n8 (nth p.heap.ag (hD p.heap.ag now me c.a)) from hp.w _ (ar.at g0 g9).2)) x x;refine o4 rfl rfl rfl ?_ d (Nat.le_refl _) b (by show (mi _ _ _).ag.length=_;rw [BE];exact List.length_set);refine Nat.le_trans (Nat.le_of_eq a) (Nat.le_trans (vL (by rw [CD];omega)) (by omega))
theorem NQ {p:cd} (hp:lB p) (me now:Int) (c:iA):sq p (uL p me now c).2.2:=by
  unfold uL;cases q2:jl p.heap.ag now me c.a 0 != 0
  case true=>exact jK hp
  obtain ⟨ar,g0,g9,_,_⟩:=kU (jM q2);cases hD p.heap.ag now me c.a==0
  case true=>exact jK hp
  cases (c.py==4)&&(jl p.heap.ag now me c.b 1 != 0)
  case true=>exact jK hp
  simp only [Q9];generalize (bif c.py==4 then hD p.heap.ag now me c.b else -1)=x;have ho:=tM ar g0 g9;obtain ⟨a,b,d⟩:=BG (h:=gV.mk (p.heap.ag.set (hD p.heap.ag now me c.a).toNat (boxed (nth p.heap.ag (hD p.heap.ag now me c.a)) x)) p.heap.gc) (lz hp.w (show n8 (nth p.heap.ag (hD p.heap.ag now me c.a)) from hp.w _ (ar.at g0 g9).2)) x (hD p.heap.ag now me c.a);refine o4 rfl rfl rfl ?_ d (Nat.le_refl _) b (by show (mi _ _ _).ag.length=_;rw [BE];exact List.length_set);refine Nat.le_trans (Nat.le_of_eq a) (Nat.le_trans (vL (show ib (nth p.heap.ag (hD p.heap.ag now me c.a))≤100 by omega)) (by omega))
theorem M3 {p:cd} (hp:lB p) (me now:Int) (c:iA):sq p (jT p me now c).2.2:=by
  unfold jT;cases q2:jl p.heap.ag now me c.a 2 != 0
  case true=>exact jK hp
  obtain ⟨ar,g0,g9,_,_⟩:=kU (jM q2);cases !ic c.b 0 (((nth p.heap.ag (hD p.heap.ag now me c.a)).QV.length:Int) - 1)
  case true=>exact jK hp
  cases c.py==7
  case true=>exact jK hp
  cases !ic c.c 0 999
  case true=>exact jK hp
  have ho:=tM ar g0 g9;refine o4 rfl rfl rfl ?_ (Nat.le_succ _) (Nat.le_refl _) (lz hp.w (show n8 (nth p.heap.ag (hD p.heap.ag now me c.a)) from hp.w _ (ar.at g0 g9).2)) List.length_set;refine Nat.le_trans (vL (o:=written (nth p.heap.ag (hD p.heap.ag now me c.a)) c.b c.c) ?_) (by omega);unfold ib written at *;simp only [List.length_set];omega
theorem Lj {p:cd} (hp:lB p) (me now:Int) (c:iA):sq p (ss p me now c).2.2:=by
  unfold ss;cases q2:jl p.heap.ag now me c.a 0 != 0
  case true=>exact jK hp
  obtain ⟨ar,g0,g9,_,_⟩:=kU (jM q2);cases (hD p.heap.ag now me c.a==0) || (!ic c.b 1 1000 || decide (i64.wrap ((nth p.heap.ag (hD p.heap.ag now me c.a)).iF+c.b) > 1000000))
  case true=>exact jK hp
  cases !oc p (kK p (nth p.heap.ag (hD p.heap.ag now me c.a)).res) (gT.mk 0 (i64.wrap ((nth p.heap.ag (hD p.heap.ag now me c.a)).bh * c.b)) 0)
  case true=>exact jK hp
  have ho:=tM ar g0 g9;refine o4 rfl rfl (mV _ _ _) ?_ (Nat.le_succ _) (Nat.le_refl _) (lz hp.w (show n8 (nth p.heap.ag (hD p.heap.ag now me c.a)) from hp.w _ (ar.at g0 g9).2)) List.length_set;exact Nat.le_trans (vL (show ib (nth p.heap.ag (hD p.heap.ag now me c.a))≤100 by omega)) (by omega)
theorem B9 {p:cd} (hp:lB p) {t:List g6} (h:t.length=p.QR.length):sq p (wI p t):=o4 rfl rfl h (by show iY ib p.heap.ag≤_;omega) (Nat.le_succ _) (Nat.le_refl _) hp.w rfl
theorem Pj {p:cd} (hp:lB p) (c:iA):sq p (vZ p c).2.2:=by
  unfold vZ;cases c.py==9
  · cases c.py==10
    · cases !(ny p.QR c.a).2
      · exact B9 hp (Eo _ _)
      · exact jK hp
    · cases (!ic c.a 0 4 || (!ic c.b 0 4 || (!ic c.c 0 2 || !wM c.d)))
      · cases !(nu p.QR c.a c.b (lG c.c c.d)).2
        · exact B9 hp (Fc _ _ _ _)
        · exact jK hp
      · exact jK hp
  · cases (!ic c.a 0 4 || !iC (gT.mk c.b c.c c.d))
    · cases !(mA p.QR c.a (gT.mk c.b c.c c.d)).2.2
      · exact B9 hp (Dw _ _ _)
      · exact jK hp
    · exact jK hp
theorem NF (h:gV) (i:Int):(ng h i).ag.length=h.ag.length:=by
  unfold ng;split
  · simp only [List.length_set]
  · rfl
theorem O3 (l:List gE) (k w b:Int):(uY l k w b).length=l.length:=by
  unfold uY;cases decide (k ≥ 0)&&((nth l k).QW==w)
  · rfl
  · simp only [Rb,List.length_set]
theorem M7 {h:gV} (hw:wA h.ag) (i:Int):iY ib (ng h i).ag=iY ib h.ag∧wA (ng h i).ag∧(ng h i).gc.gQ.length=h.gc.gQ.length:=by
  unfold ng;split
  · rename_i q;simp only [Rg,ir] at q;have hl:=(pC q.1).len;exact ⟨pI q.2.1.1 (by omega) rfl,lz hw (show n8 (nth h.ag i) from hw _ (j7 q.2.1.1 (by omega))),rfl⟩
  · exact ⟨rfl,hw,rfl⟩
theorem Nt {p:cd} (hp:lB p) (f:Int) (a:gT):sq p (qy p f a):=o4 rfl rfl (mV _ _ _) (by show iY ib p.heap.ag≤_;omega) (Nat.le_succ _) (Nat.le_refl _) hp.w rfl
theorem M4 {p:cd} (hp:lB p) (me now:Int) (c:iA):sq p (rN p me now c).2.2:=by
  unfold rN;cases q1:sD now c
  case true=>exact jK hp
  cases jl p.heap.ag now me c.b 1 != 0
  case true=>exact jK hp
  cases !oc p c.e (cost c)
  case true=>exact jK hp
  generalize hD p.heap.ag now me c.b=box;cases q4:decide ((kI p.heap.ag (newObj now box c)).2<0)
  case true=>exact Nt hp _ _
  obtain ⟨j,g,e,ar,hj⟩:=Ap q4;simp only [Q9];rw [e];have ho:=Cz (now:=now) (box:=box) (xC q1);obtain ⟨a,b,d⟩:=M7 (h:=gV.mk (p.heap.ag.set j (kB (newObj now box c) g)) p.heap.gc) (lz hp.w (yD (AS _ _ _))) (j:Int);refine o4 rfl rfl (mV _ _ _) ?_ (by show (ng _ _).gc.gQ.length≤_;rw [d];exact Nat.le_succ _) (Nat.le_refl _) b (by show (ng _ _).ag.length=_;rw [NF];exact List.length_set);exact Nat.le_trans (Nat.le_of_eq a) (Nat.le_trans (vL (show ib (newObj now box c)≤100 from ho)) (by omega))
theorem Lf {l:List gE} (h:wA l) {i:Int} (h0:0≤i) (h1:i<(l.length:Int)):n8 (nth l i):=h _ (j7 h0 h1)
theorem Pn {l:List gE} (hw:wA l) {k w b:Int} (h:0≤k→k<(l.length:Int)):iY ib (uY l k w b)=iY ib l∧wA (uY l k w b):=by
  unfold uY;cases q:decide (k ≥ 0)&&((nth l k).QW==w)
  · exact ⟨rfl,hw⟩
  simp only [Rg,decide_eq_true_eq] at q;have k1:=h q.1
  have w0:n8 (waiting (nth l k) 0):=by show (-9223372036854775808:Int)≤0;decide
  have w1:=lz (k:=k.toNat) hw w0
  have k2:k<((l.set k.toNat (waiting (nth l k) 0)).length:Int):=by simp only [List.length_set];exact k1
  simp only [Rb];exact ⟨(pI (z:=yC (nth (l.set k.toNat (waiting (nth l k) 0)) k) b) q.1 k2 rfl).trans (pI q.1 k1 rfl),lz w1 (show n8 (nth (l.set k.toNat (waiting (nth l k) 0)) k) from Lf w1 q.1 k2)⟩
theorem Qq (n:Int):-9223372036854775808≤i64.wrap n:=by
  simp [IntKind.wrap,IntKind.signed,IntKind.bits];split<;>omega
theorem M6 {p:cd} (hp:lB p) (me now:Int) {th:Int} (t0:0≤th) (t9:th≤9) (c:iA):sq p (uT p me now th c).2.2:=by
  unfold uT;cases q2:jl p.heap.ag now me c.a 3 != 0
  case true=>exact jK hp
  obtain ⟨ar,g0,g9,_,_⟩:=kU (jM q2);cases !ic c.b 0 999
  case true=>exact jK hp
  simp only [Q9];generalize hD p.heap.ag now me c.a=i at *;have ho:=tM ar g0 g9;have hl:=ar.len;have hwi:n8 (nth p.heap.ag i):=hp.w _ (ar.at g0 g9).2
  have qs:∀ q,q.length≤20→ib (n5 (nth p.heap.ag i) q)≤100:=fun q hq=>by
    unfold ib at ho;unfold ib n5;simp only;omega
  have hq:=Cx ho;cases c.py==12
  · cases ((nth p.heap.ag i).QU.length:Int)==0
    case true=>exact jK hp
    have hw1:wA (served p.heap.ag i):=lz hp.w hwi;obtain ⟨a,b⟩:=Pn (l:=served p.heap.ag i) hw1 (k:=hD (served p.heap.ag i) now me (nth (nth p.heap.ag i).QU 0).Q6) (w:=i64.wrap (c.a+1)) (b:=c.b) (uq (by unfold served;simp only [List.length_set];exact hl));refine o4 rfl rfl rfl ?_ (Nat.le_succ _) (Nat.le_refl _) b (by show (uY _ _ _ _).length=_;rw [O3];exact List.length_set);refine Nat.le_trans (Nat.le_of_eq a) (Nat.le_trans (vL (qs _ (by simp only [List.length_drop];omega))) (by omega))
  · cases decide (((nth p.heap.ag i).QU.length:Int) ≥ 2)
    case true=>exact jK hp
    have hw1:wA (asked p.heap.ag i me th c):=lz hp.w hwi
    have hl1:(asked p.heap.ag i me th c).length=10:=by unfold asked;simp only [List.length_set];exact hl
    have e:iY ib ((asked p.heap.ag i me th c).set th.toNat (waiting (nth (asked p.heap.ag i me th c) th) (i64.wrap (c.a+1))))=iY ib (asked p.heap.ag i me th c):=pI t0 (by omega) rfl;refine o4 rfl rfl rfl ?_ (Nat.le_succ _) (Nat.le_refl _) (lz hw1 (Qq _)) (by show (List.set _ _ _).length=_;rw [List.length_set,hl1,hl]);refine Nat.le_trans (Nat.le_of_eq e) (Nat.le_trans (vL (qs _ (by simp only [List.length_append,List.length_cons,List.length_nil];omega))) (by omega))
theorem L3 {p:cd} (hp:lB p) (c:iA):sq p (uu p c).2.2:=by
  unfold uu;cases hi:ic c.a 0 ((p.gR.length:Int) - 1)
  · exact jK hp
  · exact o4 rfl rfl rfl (by show iY ib p.heap.ag≤_;omega) (Nat.le_succ _) (by show (p.gR.take c.a.toNat++p.gR.drop (c.a.toNat+1)).length≤_;simp only [List.length_append,List.length_take,List.length_drop];omega) hp.w rfl
theorem Ms {p:cd} (hp:lB p) (me now:Int) {th:Int} (t0:0≤th) (t9:th≤9) (c:iA):sq p (mn p me now th c).2.2:=by
  unfold mn;cases c.py==1
  case true=>exact M4 hp _ _ _
  cases (c.py==2) || (c.py==3)
  case true=>exact NO hp _ _ _
  cases (c.py==4) || (c.py==5)
  case true=>exact NQ hp _ _ _
  cases (c.py==6) || (c.py==7)
  case true=>exact M3 hp _ _ _
  cases c.py==8
  case true=>exact Lj hp _ _ _
  cases (c.py==9) || ((c.py==10) || (c.py==11))
  case true=>exact Pj hp _
  cases (c.py==12) || (c.py==13)
  case true=>exact M6 hp _ _ t0 t9 _
  cases c.py==14
  case true=>simp only [Q9,Rb,B0];exact jK hp
  cases c.py==15
  case true=>exact L3 hp _
  exact jK hp
theorem Cm {p:cd} (hb:ij p≤3000000) (hw:wP p) (me now th:Int) (c:iA):ij (mZ p me now th c).1≤ij p+300∧wP (mZ p me now th c).1:=by
  unfold mZ;cases !ik p || (!ic me 0 2 || !ic now 0 1000000)
  case true=>exact ⟨Nat.le_add_right _ _,hw⟩
  cases hc:mQ p now th
  · exact ⟨Nat.le_add_right _ _,hw⟩
  obtain ⟨ok,t0,t9⟩:=uU hc;have hp:lB p:=⟨ok,hb,hw⟩;simp only [Rd,Q9];unfold fin;cases (mn p me now th c).1==0
  · cases (c.py==1)&&(((mn p me now th c).1==6) || ((mn p me now th c).1==7))<;>exact ⟨Nat.le_add_right (ij p) _,hw⟩
  · have h:=Ms hp me now t0 t9 c;exact ⟨h.sz,h.w⟩
theorem AH {p:cd} (hb:ij p≤3000000) (hw:wP p) (me now th:Int) (c:iA):(mZ p me now th c).1.heap.ag.length=p.heap.ag.length:=by
  unfold mZ;cases !ik p || (!ic me 0 2 || !ic now 0 1000000)
  case true=>rfl
  cases hc:mQ p now th
  · rfl
  obtain ⟨ok,t0,t9⟩:=uU hc;simp only [Rd,Q9];unfold fin;cases (mn p me now th c).1==0
  · cases (c.py==1)&&(((mn p me now th c).1==6) || ((mn p me now th c).1==7))<;>rfl
  · exact (Ms ⟨ok,hb,hw⟩ me now t0 t9 c).ln
end Go.Kx
