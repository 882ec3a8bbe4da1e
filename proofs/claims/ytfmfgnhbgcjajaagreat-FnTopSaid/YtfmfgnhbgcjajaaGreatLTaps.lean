import Derived.Test.YtfmfgnhbgcjajaaGreatLCollect
namespace Go.Kx
open Go
open Go.IntKind (i64)
set_option linter.unusedVariables false
set_option linter.unusedSimpArgs false
set_option maxRecDepth 10000
theorem Cg{N:Nat}(hN:dh<=N){w:List bh}(hl:w.length<dh){F:bh->Option bh}(hF:∀y,y∈w->F y=some y):
    iter (fun(s8:Int×(List bh))=>(bif(decide (s8.1<(w.length:Int)))then((idx w s8.1).bind fun y11=>(F y11).bind fun y41=>(app s8.2 [y41]).bind fun y57=>some (.inl (i64.wrap (s8.1+1),y57)))else(some (.inr (s8.1,s8.2))):Option ((Int×(List bh))⊕(Int×(List bh))))) N (0,[])=some ((w.length:Int),w):=by
  have e:∀(l:List bh) (k:Nat) (acc:List bh),foldI (fun _ (acc:List bh) y=>acc++[y]) k acc l=acc++l:=by
    intro l
    induction l with
    | nil=>intro k acc;simp[foldI]
    | cons y l ih=>intro k acc;unfold foldI;rw[ih];simp
  rw[show((0:Int),([]:List bh))=(fun(k:Nat) (t:List bh)=>((k:Int),t)) 0 [] from rfl,
    gy w (fun(k:Nat) (t:List bh)=>((k:Int),t)) (fun _ acc y=>acc++[y]) (fun t=>((w.length:Int),t)) (fun k t=>t.length<=k) ?_ ?_ (Nat.lt_of_lt_of_le hl hN) (by simp),e]
  · simp
  · intro k t y hy hk ht;refine⟨?_,by simp;omega⟩;simp only[ey hk,RA,dN,hy,Ry,hF y (List.mem_of_getElem? hy),eD (Nat.lt_trans hk hl),hY ht (Nat.lt_of_le_of_lt hk hl)]
  · intro t _;simp only[er,Rz]
theorem rY{N:Nat}(hN:dh<=N){w:dq}(hb:eK dG w.parts<dh):j8 N w=some w:=by
  unfold j8;rw[Cg hN (gL hb) fun y hy=>oH hN (fH hb hy)];rfl
theorem uv{N:Nat}(hN:dh<=N){w:dq}(hb:eK dG w.parts<dh):k8 N w=some w:=by
  unfold k8;rw[Cg hN (gL hb) fun y hy=>qG hN (fH hb hy)];rfl
theorem CP{N:Nat}(hN:dh<=N){w:List dV}(hl:w.length<dh){F:List dk->Option (List dk)}(hF:∀y,y∈w->F y.Ru=some y.Ru):
    iter (fun(s4:(List dV)×Int)=>(bif(decide (s4.2<(w.length:Int)))then((idx w s4.2).bind fun y7=>(F y7.Ru).bind fun y22=>(app s4.1 [dV.mk y22]).bind fun y26=>some (.inl (y26,i64.wrap (s4.2+1))))else(some (.inr (s4.1,s4.2))):Option (((List dV)×Int)⊕((List dV)×Int)))) N ([],0)=some (w,(w.length:Int)):=by
  rw[m7 w (fun _ _=>true) (fun _ y=>y) hl hN]
  · rw[nV (fun _=>true) w 0];simp
  · intro k t y hy hk ht;simp only[ey hk,RA,dN,hy,Ry,hF y (List.mem_of_getElem? hy),eD (Nat.lt_trans hk hl),hY ht (Nat.lt_of_le_of_lt hk hl),if_true]
  · intro t;simp only[er,Rz]
def nZ(ts:List dV):Prop:=ts.length<dh/\∀t,t∈ts->t.Ru.length<dh
theorem Gm{N:Nat}(hN:dh<=N){ts:List dV}(h:nZ ts):mU N ts=some ts:=by
  unfold mU;rw[CP hN h.1 fun y hy=>mZ (h.2 y hy)];rfl
theorem L4{N:Nat}(hN:dh<=N){ts:List dV}(h:nZ ts):qN N ts=some ts:=by
  unfold qN;rw[CP hN h.1 fun y hy=>nD (h.2 y hy)];rfl
def iX(a:de)(w:Int):Int:=if w==0 then a.cd else if w==1 then a.dg else if w==2 then a.du else 0
theorem CI(N:Nat)(a:de)(w:Int):pf N a w=some (iX a w):=by
  unfold pf iX;cases w==0<;>cases w==1<;>cases w==2<;>rfl
theorem CA(N:Nat)(a:de)(w:Int):o9 N a w=some (iX a w):=by
  unfold o9 iX;cases w==0<;>cases w==1<;>cases w==2<;>rfl
def kQ(t:eA)(n:Int):Int:=if t.so==1 then(if n<t.kp then n else t.kp)else i64.wrap (Int.tdiv (i64.wrap (t.kp*n)) 100)
def qW(t:eA)(a:de):Int:=if il t&&dT a then kQ t (iX a t.iH)else 0
theorem Km(N:Nat)(t:eA)(a:de):rr N t a=some (qW t a):=by
  unfold rr qW kQ;simp only[zi,pE,Ry,gW,CI];cases il t
  · rfl
  cases dT a
  · rfl
  cases t.so==1<;>rfl
theorem KN(N:Nat)(t:eA)(a:de):rS N t a=some (qW t a):=by
  unfold rS qW kQ;simp only[zp,o7,Ry,gW,CA];cases il t
  · rfl
  cases dT a
  · rfl
  cases t.so==1
  · simp only[RB,Bool.or_self,Rz,Bool.and_self,if_true,Bool.false_eq_true,if_false];rw[Int.mul_comm]
  · simp only[RB,Bool.or_self,Rz,RA,Bool.and_self,if_true];congr 1;split<;>split<;>omega
theorem zZ{t:eA}{n:Int}(ht:il t=true)(h0:0<=n)(h1:n<=1000000):0<=kQ t n/\kQ t n<=n:=by
  unfold il at ht;simp only[RD,Bool.or_eq_true,dM,beq_iff_eq]at ht;unfold kQ
  rcases ht.2 with⟨hk,r0,r1⟩|⟨hk,r0,r1⟩
  · rw[hk];simp only[beq_self_eq_true,if_true];split<;>omega
  · rw[hk,show((2:Int)==1)=false from rfl];simp only[Bool.false_eq_true,if_false];have m1:0<=t.kp*n:=Int.mul_nonneg r0 h0;have m2:t.kp*n<=100*n:=Int.mul_le_mul_of_nonneg_right r1 h0;rw[dF (n:=t.kp*n) (by omega) (by omega),Int.tdiv_eq_ediv_of_nonneg m1]
    have d0:0<=t.kp*n / 100:=by omega
    have d1:t.kp*n / 100<=n:=by omega
    rw[dF (by omega) (by omega)];exact⟨d0,d1⟩
theorem Kv{t:eA}{a:de}(ht:il t=true)(ha:dT a=true):jF (iB t.iH (qW t a)) a=true:=by
  unfold qW;rw[ht,ha];simp only[Bool.and_self,if_true];have ht':=ht;unfold il at ht';simp only[RD,dM]at ht';have ha':=eN.1 ha
  have hw:t.iH=0\/t.iH=1\/t.iH=2:=by omega
  unfold jF;rw[ha]
  rcases hw with e|e|e<;>rw[e]
  · obtain⟨q0,q1⟩:=zZ ht (n:=iX a 0) ha'.1.1 ha'.1.2;have q2:kQ t (iX a 0)<=a.cd:=q1;have:dT (iB 0 (kQ t (iX a 0)))=true:=eN.2 (show(0<=kQ t (iX a 0)/\kQ t (iX a 0)<=1000000)/\(0<=(0:Int)/\(0:Int)<=1000000)/\(0<=(0:Int)/\(0:Int)<=1000000) from⟨⟨q0,by omega⟩,by decide,by decide⟩);rw[this];simp only[RC,RD,decide_eq_true_eq];exact⟨q2,ha'.2.1.1,ha'.2.2.1⟩
  · obtain⟨q0,q1⟩:=zZ ht (n:=iX a 1) ha'.2.1.1 ha'.2.1.2;have q2:kQ t (iX a 1)<=a.dg:=q1;have:dT (iB 1 (kQ t (iX a 1)))=true:=eN.2 (show(0<=(0:Int)/\(0:Int)<=1000000)/\(0<=kQ t (iX a 1)/\kQ t (iX a 1)<=1000000)/\(0<=(0:Int)/\(0:Int)<=1000000) from⟨by decide,⟨q0,by omega⟩,by decide⟩);rw[this];simp only[RC,RD,decide_eq_true_eq];exact⟨ha'.1.1,q2,ha'.2.2.1⟩
  · obtain⟨q0,q1⟩:=zZ ht (n:=iX a 2) ha'.2.2.1 ha'.2.2.2;have q2:kQ t (iX a 2)<=a.du:=q1;have:dT (iB 2 (kQ t (iX a 2)))=true:=eN.2 (show(0<=(0:Int)/\(0:Int)<=1000000)/\(0<=(0:Int)/\(0:Int)<=1000000)/\(0<=kQ t (iX a 2)/\kQ t (iX a 2)<=1000000) from⟨by decide,by decide,⟨q0,by omega⟩⟩);rw[this];simp only[RC,RD,decide_eq_true_eq];exact⟨ha'.1.1,ha'.2.1.1,q2⟩
def jh(ts:List dV):Bool:=ts.all fun t=>fF t.Ru
def gX(ts:List dV)(p:Int)(t:eA):Bool :=
  jh ts&&(!decide ((ts.length:Int)>3)&&(il t&&(dy p 0 ((ts.length:Int)-1)&&(!decide (t.fW>=(ts.length:Int))&&ei (nth ts p).Ru t.Rt))))
def rk(ts:List dV)(p:Int)(t:eA):Int:=qW t (nth (nth ts p).Ru t.Rt).dQ
def iy(ts:List dV)(p:Int)(t:eA):List dV:=ts.set p.toNat (dV.mk (eF (nth ts p).Ru t.Rt (iB t.iH (rk ts p t))).1)
def kG(ts:List dV)(p:Int)(t:eA):List dk×Bool:=jJ (nth (iy ts p t) t.fW).Ru t.nG (iB t.iH (rk ts p t))
def iu(ts:List dV)(p:Int)(t:eA):List dV×Int :=
  if gX ts p t&&(kG ts p t).2 then((iy ts p t).set t.fW.toNat (dV.mk (kG ts p t).1),rk ts p t)else(ts,0)
theorem Kb{ts:List dV}(h:nZ ts){k:Nat}{t:List dk}(ht:t.length<dh):nZ (ts.set k (dV.mk t)):=by
  refine⟨by rw[List.length_set];exact h.1,fun y hy=>?_⟩
  rcases List.mem_or_eq_of_mem_set hy with h1|h1
  · exact h.2 y h1
  · subst h1;exact ht
theorem zj{ts:List dV}{p:Int}(h:jh ts=true)(h0:0<=p)(h1:p<(ts.length:Int)):fF (nth ts p).Ru=true:=by
  unfold jh at h;rw[List.all_eq_true]at h;exact h _ (gJ h0 h1)
theorem tz{ts:List dV}{p:Int}{t:eA}(h:gX ts p t=true):jh ts=true/\il t=true/\(0<=p/\p<(ts.length:Int))/\(0<=t.fW/\t.fW<(ts.length:Int))/\ei (nth ts p).Ru t.Rt=true:=by
  unfold gX at h;simp only[RD,Bool.not_eq_true',decide_eq_false_iff_not,dM]at h;obtain⟨h1,_,h2,h3,h4,h5⟩:=h;have h2':=h2;unfold il at h2';simp only[RD,dM]at h2';exact⟨h1,h2,⟨h3.1,by omega⟩,⟨h2'.1.2.1.1,by omega⟩,h5⟩
theorem Le{ts:List dV}{p:Int}{t:eA}(h:gX ts p t=true):(eF (nth ts p).Ru t.Rt (iB t.iH (rk ts p t))).2=true:=by
  obtain⟨h1,h2,⟨p0,p1⟩,_,h5⟩:=tz h;have ho:=zj h1 p0 p1;obtain⟨f0,f4⟩:=hO h5
  have hb:dT (nth (nth ts p).Ru t.Rt).dQ=true:=by
    have hT:=ho;have hl:=od ho;unfold fF at hT;simp only[RD]at hT;have hP:=jI.1 hT.2.2.2.1 t.Rt.toNat _ (fM f0 (by omega))
    have hv:(nth (nth ts p).Ru t.Rt).Rq=true:=by
      unfold ei at h5;rw[RD]at h5;exact h5.2
    unfold mK at hP;rw[hv,if_pos rfl,RD]at hP;exact hP.1
  unfold eF;rw[ho,h5];simp only[Bool.and_self,if_true];rw[show jF (iB t.iH (rk ts p t)) (nth (nth ts p).Ru t.Rt).dQ=true from Kv h2 hb];rfl
theorem AM{ts:List dV}(h:nZ ts){p:Int}(p0:0<=p)(p1:p<(ts.length:Int))(t:eA):nZ (iy ts p t) :=
  Kb h (by rw[jA];exact h.2 _ (gJ p0 p1))
theorem tX(ts:List dV)(p:Int)(t:eA):(iy ts p t).length=ts.length:=by unfold iy;rw[List.length_set]
theorem Jq{N:Nat}(hN:dh<=N){ts:List dV}(h:nZ ts)(p:Int)(t:eA):rC N ts p t=some (iu ts p t):=by
  have hl:=h.1;have hB:(16777216:Nat)=dh:=rfl;unfold rC;simp only[Gm hN h,Ry];rw[fG ts (fun _ t=>fF t.Ru) (.inl (ts.length:Int)) (.inr (ts,0)) (Nat.lt_of_lt_of_le hl hN),gF]
  · simp only[Ry,zi,ko,dF (n:=(ts.length:Int)-1) (by omega) (by omega)];cases h1:ts.all (fun t=>fF t.Ru)
    · have:gX ts p t=false:=by unfold gX jh;rw[h1];rfl
      unfold iu;rw[this];rfl
    cases h2:decide ((ts.length:Int)>3)
    case true =>
      have:gX ts p t=false:=by unfold gX jh;rw[h1,h2];rfl
      unfold iu;rw[this];rfl
    cases h3:il t
    · have:gX ts p t=false:=by unfold gX jh;rw[h1,h2,h3];rfl
      unfold iu;rw[this];rfl
    cases h4:dy p 0 ((ts.length:Int)-1)
    · have:gX ts p t=false:=by unfold gX jh;rw[h1,h2,h3,h4];rfl
      unfold iu;rw[this];rfl
    cases h5:decide (t.fW>=(ts.length:Int))
    case true =>
      have:gX ts p t=false:=by unfold gX jh;rw[h1,h2,h3,h4,h5];rfl
      unfold iu;rw[this];rfl
    rw[dM]at h4
    have p1:p<(ts.length:Int):=by omega
    have ho:=zj (ts:=ts) h1 h4.1 p1;have h5l:=od ho;simp only[if_true,Sum.elim_inl,RB,Rz,eP (l:=ts) h4.1 p1,Ry,pQ N h5l];cases h6:ei (nth ts p).Ru t.Rt
    · have:gX ts p t=false:=by unfold gX;rw[h6];simp
      unfold iu;rw[this];rfl
    have hm:gX ts p t=true:=by unfold gX jh;rw[h1,h2,h3,h5,h6,dM.2 h4];rfl
    obtain⟨_,_,_,⟨q0,q1⟩,_⟩:=tz hm;obtain⟨f0,f4⟩:=hO h6
    simp only[RB,Rz,eP (l:=(nth ts p).Ru) f0 (by omega),Ry,Km,xJ,uK hN (h.2 _ (gJ h4.1 p1)),
      show qW t (nth (nth ts p).Ru t.Rt).dQ=rk ts p t from rfl,Le hm,show ts.set p.toNat (dV.mk (eF (nth ts p).Ru t.Rt (iB t.iH (rk ts p t))).1)=iy ts p t from rfl,
      eP (l:=iy ts p t) q0 (by rw[tX];exact q1),xH hN ((AM h h4.1 p1 t).2 _ (gJ q0 (by rw[tX];exact q1)))]
    unfold iu;rw[hm]
    show(bif !(kG ts p t).2 then some (ts,0)else some ((iy ts p t).set t.fW.toNat (dV.mk (kG ts p t).1),rk ts p t))=_
    cases(kG ts p t).2<;>rfl
  · intro k y hy hk;simp only[ey hk,RA,dN,hy,Ry,qA hN,eD (Nat.lt_trans hk hl)];cases fF y.Ru<;>rfl
  · simp only[er,Rz]
theorem JQ{N:Nat}(hN:dh<=N){ts:List dV}(h:nZ ts)(p:Int)(t:eA):rz N ts p t=some (iu ts p t):=by
  have hl:=h.1;have hB:(16777216:Nat)=dh:=rfl
  have hok:v7 N ts=some (jh ts&&decide ((ts.length:Int)<=3)):=by
    unfold v7 jh;rw[fG ts (fun _ t=>fF t.Ru) (.inl (ts.length:Int)) (.inr false) (Nat.lt_of_lt_of_le hl hN),gF]
    · cases ts.all (fun t=>fF t.Ru)<;>rfl
    · intro k y hy hk;simp only[ey hk,RA,dN,hy,Ry,vX hN,eD (Nat.lt_trans hk hl)];cases fF y.Ru<;>rfl
    · simp only[er,Rz]
  unfold rz;simp only[L4 hN h,hok,Ry,zp,jV,dF (n:=(ts.length:Int)-1) (by omega) (by omega)]
  have h2e:decide ((ts.length:Int)<=3)=!decide ((ts.length:Int)>3):=by
    by_cases hc:(ts.length:Int)<=3<;>simp[hc]
    omega
  rw[h2e];cases h1:jh ts
  · have:gX ts p t=false:=by unfold gX;rw[h1];rfl
    unfold iu;rw[this];rfl
  cases h2:decide ((ts.length:Int)>3)
  case true =>
    have:gX ts p t=false:=by unfold gX;rw[h1,h2];rfl
    unfold iu;rw[this];rfl
  cases h3:il t
  · have:gX ts p t=false:=by unfold gX;rw[h1,h2,h3];rfl
    unfold iu;rw[this];rfl
  cases h4:dy p 0 ((ts.length:Int)-1)
  · have:gX ts p t=false:=by unfold gX;rw[h1,h2,h3,h4];rfl
    unfold iu;rw[this];rfl
  cases h5:decide (t.fW>=(ts.length:Int))
  case true =>
    have:gX ts p t=false:=by unfold gX;rw[h1,h2,h3,h4,h5];rfl
    unfold iu;rw[this];rfl
  rw[dM]at h4
  have p1:p<(ts.length:Int):=by omega
  have ho:=zj (ts:=ts) h1 h4.1 p1;have h5l:=od ho;simp only[RB,Bool.not_false,Bool.and_self,Rz,eP (l:=ts) h4.1 p1,Ry,sB hN,ho,RC];cases h6:ei (nth ts p).Ru t.Rt
  · have:gX ts p t=false:=by unfold gX;rw[h6];simp
    unfold iu;rw[this];rfl
  have hm:gX ts p t=true:=by unfold gX;rw[h1,h2,h3,h5,h6,dM.2 h4];rfl
  obtain⟨_,_,_,⟨q0,q1⟩,_⟩:=tz hm;obtain⟨f0,f4⟩:=hO h6
  simp only[RB,Rz,eP (l:=(nth ts p).Ru) f0 (by omega),Ry,KN,EZ,sL hN (h.2 _ (gJ h4.1 p1)),
    show qW t (nth (nth ts p).Ru t.Rt).dQ=rk ts p t from rfl,show ts.set p.toNat (dV.mk (eF (nth ts p).Ru t.Rt (iB t.iH (rk ts p t))).1)=iy ts p t from rfl,
    eP (l:=iy ts p t) q0 (by rw[tX];exact q1),xo hN ((AM h h4.1 p1 t).2 _ (gJ q0 (by rw[tX];exact q1)))]
  unfold iu;rw[hm]
  show(bif !(kG ts p t).2 then some (ts,0)else some ((iy ts p t).set t.fW.toNat (dV.mk (kG ts p t).1),rk ts p t))=_
  cases(kG ts p t).2<;>rfl
def lens(ts:List dV):List Nat:=ts.map fun t=>t.Ru.length
theorem DL{ts:List dV}{k:Nat}{y:dV}{t:List dk}(hy:ts[k]?=some y)(ht:t.length=y.Ru.length):lens (ts.set k (dV.mk t))=lens ts:=by
  unfold lens;rw[List.map_set]
  show(ts.map fun t=>t.Ru.length).set k t.length=_
  rw[ht];apply kD;rw[List.getElem?_map,hy];rfl
theorem yh(ts:List dV)(p:Int)(t:eA):lens (iu ts p t).1=lens ts:=by
  unfold iu;split
  · rename_i h;rw[RD]at h;obtain⟨_,_,⟨p0,p1⟩,⟨q0,q1⟩,_⟩:=tz h.1
    show lens ((iy ts p t).set t.fW.toNat (dV.mk (kG ts p t).1))=_
    refine(DL (fM q0 (by rw[tX];exact q1)) (show(kG ts p t).1.length=_ from v8 _ _ _)).trans ?_;exact DL (fM p0 p1) (jA _ _ _)
  · rfl
theorem AI{ts us:List dV}(h:nZ ts)(e:lens us=lens ts):nZ us:=by
  have hl:us.length=ts.length:=by
    have:=congrArg List.length e;unfold lens at this
    rwa[List.length_map,List.length_map]at this
  refine⟨by rw[hl];exact h.1,fun y hy=>?_⟩;have hm:y.Ru.length∈lens us:=List.mem_map.2 ⟨y,hy,rfl⟩;rw[e]at hm;obtain⟨z,hz,hzz⟩:=List.mem_map.1 hm;rw[<- hzz];exact h.2 z hz
def oW(ts:List dV)(p:Int)(dc:List eA):List dV:=dc.foldl (fun ts t=>(iu ts p t).1) ts
theorem uq(p:Int):∀(dc:List eA) (ts:List dV),lens (oW ts p dc)=lens ts
  | [],_=>rfl
  | t::dc,ts=>(uq p dc (iu ts p t).1).trans (yh ts p t)
theorem Eb{N:Nat}(hN:dh<=N){dc:List eA}(hl:dc.length<dh){ts:List dV}(h:nZ ts){p:Int}{F:List dV->eA->Option (List dV×Int)}(hF:∀ts t,nZ ts->F ts t=some (iu ts p t)):
    iter (fun(s94:(List dV)×Int)=>(bif(decide (s94.2<(dc.length:Int)))then((idx dc s94.2).bind fun y97=>(F s94.1 y97).bind fun y109=>some (.inl (y109.1,i64.wrap (s94.2+1))))else(some (.inr (s94.1,s94.2))):Option (((List dV)×Int)⊕((List dV)×Int)))) N (ts,0)=some (oW ts p dc,(dc.length:Int)):=by
  rw[show(ts,(0:Int))=(fun(k:Nat) (t:List dV)=>(t,(k:Int))) 0 ts from rfl,
    gy dc (fun(k:Nat) (t:List dV)=>(t,(k:Int))) (fun _ ts t=>(iu ts p t).1) (fun t=>(t,(dc.length:Int))) (fun _ t=>lens t=lens ts) ?_ ?_ (Nat.lt_of_lt_of_le hl hN) rfl,ir]
  · rfl
  · intro k t y hy hk ht;refine⟨?_,(yh t p y).trans ht⟩;simp only[ey hk,RA,dN,hy,Ry,hF t y (AI h ht),eD (Nat.lt_trans hk hl)]
  · intro t _;simp only[er,Rz]
def dD(w:dq)(p:Int):dq:=if eO w&&eR w p then dq.mk w.Rj (fb w.parts (fp (oW (gw w.parts) p (nth w.parts p).dc)))else w
theorem wQ{l:List bh}(hb:eK dG l<dh):nZ (gw l):=by
  refine⟨by unfold gw gQ;rw[List.length_map,List.length_map];exact gL hb,fun t ht=>?_⟩;unfold gw gQ at ht;rw[List.map_map]at ht;obtain⟨p,hp,rfl⟩:=List.mem_map.1 ht;exact(gE (fH hb hp)).2.2.1
theorem tI{l:List bh}{p:Int}{dc:List eA}:(oW (gw l) p dc).length=l.length:=by
  have:=congrArg List.length (uq p dc (gw l));unfold lens gw gQ at this;rw[List.length_map,List.length_map,List.length_map,List.length_map]at this;exact this
theorem H9{N:Nat}(hN:dh<=N){w:dq}(hb:eK dG w.parts<dh)(p:Int):pY N w p=some (dD w p):=by
  unfold pY dD;simp only[rY hN hb,qt hN hb,wh (gL hb),Ry,gW];cases hw:eO w
  · rfl
  cases hp:eR w p
  · rfl
  obtain⟨e,hm⟩:=fx hp;have hl:=gL hb;have ht:(nth w.parts p).dc.length<dh:=(gE (fH hb hm)).2.2.2.2.2;simp only[RB,Bool.or_self,Rz,Bool.and_self,if_true,decide_eq_true (Nat.lt_of_lt_of_le hl hN),decide_eq_true hl,e,Ry];rw[show(gd true).bind=fun(k:Unit->Option dq)=>k () from rfl];simp only[];rw[Eb hN ht (wQ hb) (p:=p) (fun ts t h=>Jq hN h p t)];simp only[Ry,tI,decide_true];rfl
theorem JX{N:Nat}(hN:dh<=N){ts:List dV}{n:Nat}(hn:ts.length=n)(hl:ts.length<dh){F:List dk->Option (List dk)}(hF:∀y,y∈ts->F y.Ru=some y.Ru):
    iter (fun(s114:Int×(List (List dk)))=>(bif(decide (s114.1<(n:Int)))then((idx ts s114.1).bind fun y117=>(F y117.Ru).bind fun y133=>some (.inl (i64.wrap (s114.1+1),s114.2++[y133])))else(some (.inr (s114.1,s114.2))):Option ((Int×(List (List dk)))⊕(Int×(List (List dk)))))) N (0,[])=some ((n:Int),fp ts):=by
  subst hn
  have e:∀(l:List dV) (k:Nat) (acc:List (List dk)),foldI (fun _ (acc:List (List dk)) (y:dV)=>acc++[y.Ru]) k acc l=acc++fp l:=by
    intro l
    induction l with
    | nil=>intro k acc;simp[foldI,fp]
    | cons y l ih=>intro k acc;unfold foldI;rw[ih];simp[fp]
  rw[show((0:Int),([]:List (List dk)))=(fun(k:Nat) (t:List (List dk))=>((k:Int),t)) 0 [] from rfl,
    gy ts (fun(k:Nat) (t:List (List dk))=>((k:Int),t)) (fun _ acc y=>acc++[y.Ru]) (fun t=>((ts.length:Int),t)) (fun _ _=>True) ?_ ?_ (Nat.lt_of_lt_of_le hl hN) trivial,e]
  · rfl
  · intro k t y hy hk _;refine⟨?_,trivial⟩;simp only[ey hk,RA,dN,hy,Ry,hF y (List.mem_of_getElem? hy),eD (Nat.lt_trans hk hl)]
  · intro t _;simp only[er,Rz]
theorem IG{N:Nat}(hN:dh<=N){w:dq}(hb:eK dG w.parts<dh)(hW:wW w.parts)(p:Int):qd N w p=some (dD w p):=by
  have hl:=gL hb;have hB:(16777216:Nat)=dh:=rfl;unfold qd dD;simp only[uv hN hb,pU hN hb hW,jV,dF (n:=(w.parts.length:Int)-1) (by omega) (by omega),Ry,gW];cases hw:eO w
  · rfl
  rw[show dy p 0 ((w.parts.length:Int)-1)=eR w p from rfl];cases hp:eR w p
  · rfl
  obtain⟨e,hm⟩:=fx hp;have ht:(nth w.parts p).dc.length<dh:=(gE (fH hb hm)).2.2.2.2.2;have hs:=AI (wQ hb) (uq p (nth w.parts p).dc (gw w.parts));simp only[RB,Bool.or_self,Rz,Bool.and_self,if_true,decide_eq_true (Nat.lt_of_lt_of_le hl hN),decide_eq_true hl,e,Ry];rw[show(gd true).bind=fun(k:Unit->Option dq)=>k () from rfl];simp only[];rw[Eb hN ht (wQ hb) (p:=p) (fun ts t h=>JQ hN h p t)];simp only[Ry,tI,decide_true];rw[show(gd true).bind=fun(k:Unit->Option dq)=>k () from rfl];simp only[];rw[JX hN tI hs.1 fun y hy=>nD (hs.2 y hy)];rfl
theorem HM{l:List c6}(h:wA l)(i:Int):mG (nth l i):=by
  unfold nth
  cases e:l[i.toNat]? with
  | none=>show(-9223372036854775808:Int)<=0;decide
  | some o=>exact h o (List.mem_of_getElem? e)
theorem xj{p:bh}(h:wP p)(now:Int):wP (fP p now):=by
  unfold fP;split
  · show wA (nW p now)
    unfold nW;split
    · exact iR h (HM h _)
    · exact h
  · exact h
theorem yv{p:bh}(h:wP p)(me now:Int):wP (gz p me now):=by
  unfold gz;split
  · intro o ho;obtain⟨x,hx,rfl⟩:=List.mem_map.1 (show o∈p.heap.ag.map _ from ho);split
    · show(-9223372036854775808:Int)<=0;decide
    · exact h x hx
  · exact h
theorem PY{p:bh}(h:wP p)(now:Int):wP (iN p now).1:=by
  unfold iN;split
  · split
    · exact h
    · exact iR h (HM h (gS p now))
  · exact h
def ki(p:bh)(i now:Int):bh:=(gH (gz (fP p now) i now) now 3).1
def iP(n:Nat)(p:bh)(i now:Int):bh:=bif Int.tmod now (n:Int)==i then(iN (ki p i now) now).1 else ki p i now
def iQ(n:Nat)(k:Nat)(w:dq):dq:=dq.mk (dD w (k:Int)).Rj ((dD w (k:Int)).parts.set k (iP n (nth (dD w (k:Int)).parts (k:Int)) (k:Int) (dD w (k:Int)).Rj))
def tick(w:dq):dq:=if eO w&&!(w.Rj==1000000)then foldI (fun k t (_:bh)=>iQ w.parts.length k t) 0 (dq.mk (i64.wrap (w.Rj+1)) w.parts) w.parts else w
theorem xF{p:bh}{b:Nat}(hb:dG p<=b)(h2:b<=2000000)(hw:wP p)(i now:Int):dG (ki p i now)<=b+1200/\wP (ki p i now):=by
  have h1:=By p now;have h3:=BI (fP p now) i now;obtain⟨a,c⟩:=Ji (p:=gz (fP p now) i now) (by omega) (yv (xj hw now) i now) now 3;exact⟨by show dG (gH (gz (fP p now) i now) now 3).1<=_;omega,c⟩
theorem wL{n:Nat}{p:bh}{b:Nat}(hb:dG p<=b)(h2:b<=2000000)(hw:wP p)(i now:Int):dG (iP n p i now)<=b+1300/\wP (iP n p i now):=by
  obtain⟨a,c⟩:=xF hb h2 hw i now;unfold iP;cases Int.tmod now (n:Int)==i
  · exact⟨by simp only[Rz];omega,c⟩
  · have:=Pb (ki p i now) now;exact⟨by simp only[RA];omega,PY c now⟩
theorem DN:∀{l:List bh} {ts:List (List dk)},ts.map List.length=(gQ l).map List.length->(fb l ts).length=l.length/\∀q,q∈fb l ts->∃p,p∈l/\dG q=dG p/\q.heap=p.heap
  | [],[],_=>⟨rfl,fun _ h=>absurd h (by simp[fb])⟩
  | [],_::_,h=>by simp[gQ]at h
  | _::_,[],h=>by simp[gQ]at h
  | p::l,t::ts,h=>by
    simp only[gQ,List.map_cons,List.cons.injEq]at h;obtain⟨i1,i2⟩:=DN (l:=l) (ts:=ts) h.2;refine⟨by show(lD p t::fb l ts).length=_;simp[i1],fun q hq=>?_⟩
    rcases List.mem_cons.1 (show q∈lD p t::fb l ts from hq)with rfl|hq
    · exact⟨p,List.mem_cons_self,by unfold dG lD;simp only[h.1],rfl⟩
    · obtain⟨y,hy,e⟩:=i2 q hq;exact⟨y,List.mem_cons_of_mem _ hy,e⟩
theorem yu(w:dq)(p:Int):(dD w p).Rj=w.Rj/\(dD w p).parts.length=w.parts.length/\∀q,q∈(dD w p).parts->∃p,p∈w.parts/\dG q=dG p/\q.heap=p.heap:=by
  unfold dD;split
  · refine⟨rfl,DN ?_⟩;have h:(oW (gw w.parts) p (nth w.parts p).dc).map (fun t=>t.Ru.length)=(gw w.parts).map (fun t=>t.Ru.length):=uq p (nth w.parts p).dc (gw w.parts);unfold fp;rw[List.map_map];refine Eq.trans (show _=(oW (gw w.parts) p (nth w.parts p).dc).map (fun t=>t.Ru.length) from rfl) (h.trans ?_);unfold gw;rw[List.map_map];rfl
  · exact⟨rfl,rfl,fun q hq=>⟨q,hq,rfl,rfl⟩⟩
structure tx (n:Nat) (k:Nat) (t:dq):Prop where
  len:t.parts.length=n
  small:n<=3
  sz:∀p,p∈t.parts->dG p<=1048576+1300*k/\wP p
theorem tx.lR{n k:Nat}{t:dq}(h:tx n k t)(hk:k<=3):eK dG t.parts<dh:=by
  have hB:(16777216:Nat)=dh:=rfl;have h1:mO dG t.parts<=(1048576+1300*3)*t.parts.length:=vu fun y hy=>Nat.le_trans (h.sz y hy).1 (by omega);have h2:=h.len;have h3:=h.small;have h4:(1048576+1300*3)*t.parts.length<=(1048576+1300*3)*3:=Nat.mul_le_mul_left _ (by omega);unfold eK;omega
theorem tx.w{n k:Nat}{t:dq}(h:tx n k t):wW t.parts:=fun p hp=>(h.sz p hp).2
theorem tx.dc{n k:Nat}{t:dq}(h:tx n k t)(p:Int):tx n k (dD t p):=by
  obtain⟨_,h2,h3⟩:=yu t p;refine⟨h2.trans h.len,h.small,fun q hq=>?_⟩;obtain⟨y,hy,e1,e2⟩:=h3 q hq;obtain⟨a,b⟩:=h.sz y hy;exact⟨by omega,by unfold wP at *;rw[e2];exact b⟩
theorem tx.step{n k:Nat}{t:dq}(h:tx n k t)(hk:k<n):tx n (k+1) (iQ n k t):=by
  have hT:=h.dc (k:Int);have hs:=hT.small;refine⟨by show((dD t (k:Int)).parts.set k _).length=n;rw[List.length_set];exact hT.len,hT.small,fun q hq=>?_⟩
  rcases List.mem_or_eq_of_mem_set (show q∈(dD t (k:Int)).parts.set k _ from hq)with h1|h1
  · obtain⟨a,b⟩:=hT.sz q h1;exact⟨by omega,b⟩
  · subst h1;have hl:=hT.len;obtain⟨a,b⟩:=hT.sz _ (gJ (l:=(dD t (k:Int)).parts) (i:=(k:Int)) (by omega) (by omega));obtain⟨c,d⟩:=wL (n:=n) a (by omega) b (k:Int) (dD t (k:Int)).Rj;exact⟨by omega,d⟩
theorem Eg{N:Nat}(hN:dh<=N){w:dq}{body:Int×Int×List bh->Option ((Int×Int×List bh)⊕(Int×Int×List bh))}(h0:tx w.parts.length 0 (dq.mk (i64.wrap (w.Rj+1)) w.parts))
    (hs:∀(k:Nat) (t:dq),k<w.parts.length->k<dh->tx w.parts.length k t->body ((k:Int),t.Rj,t.parts)=some (.inl (((k+1:Nat):Int),(iQ w.parts.length k t).Rj,(iQ w.parts.length k t).parts)))
    (he:∀t:dq,tx w.parts.length w.parts.length t->body ((w.parts.length:Int),t.Rj,t.parts)=some (.inr ((w.parts.length:Int),t.Rj,t.parts))) :
    iter body N (0,i64.wrap (w.Rj+1),w.parts)=some ((w.parts.length:Int),(foldI (fun k t (_:bh)=>iQ w.parts.length k t) 0 (dq.mk (i64.wrap (w.Rj+1)) w.parts) w.parts).Rj,(foldI (fun k t (_:bh)=>iQ w.parts.length k t) 0 (dq.mk (i64.wrap (w.Rj+1)) w.parts) w.parts).parts):=by
  have hB:(16777216:Nat)=dh:=rfl;have h3:=h0.small
  exact gy w.parts (fun(k:Nat) (t:dq)=>((k:Int),t.Rj,t.parts)) (fun k t _=>iQ w.parts.length k t) (fun t=>((w.parts.length:Int),t.Rj,t.parts)) (tx w.parts.length)
    (fun k t y _ hk hI=>⟨hs k t hk (by omega) hI,hI.step hk⟩) he (Nat.lt_of_lt_of_le (show w.parts.length<dh by omega) hN) h0
theorem Om{n:Int}(h:n ≠ 0):dz n=some ():=by unfold dz;rw[if_neg h]
theorem BK{w:dq}(h:eO w=true):1<=w.parts.length/\w.parts.length<=3/\0<=w.Rj/\w.Rj<=1000000:=by
  unfold eO at h;simp only[RD,dM]at h;omega
theorem Ni{N:Nat}(hN:dh<=N){w:dq}(hb:eK dG w.parts<dh)(hW:wW w.parts)(hT0:eO w=true->tx w.parts.length 0 (dq.mk (i64.wrap (w.Rj+1)) w.parts)):vM N w=some (tick w):=by
  have hB:(16777216:Nat)=dh:=rfl;unfold vM tick;simp only[rY hN hb,qt hN hb,Ry,gW];cases hw:eO w
  · rfl
  cases hm:w.Rj==1000000
  case true=>rfl
  obtain⟨n1,n3,_,_⟩:=BK hw;simp only[RB,Bool.not_false,Bool.or_self,Rz,Bool.and_self,if_true];rw[Eg hN (hT0 hw)]
  · rfl
  · intro k t hk hkB hI;have hT:=hI.dc (k:Int);have hl:=hT.len;obtain⟨a,b⟩:=hT.sz _ (gJ (l:=(dD t (k:Int)).parts) (i:=(k:Int)) (by omega) (by omega));obtain⟨c,d⟩:=xF a (by omega) b (k:Int) (dD t (k:Int)).Rj;have q1:=By (nth (dD t (k:Int)).parts (k:Int)) (dD t (k:Int)).Rj;have q2:=BI (fP (nth (dD t (k:Int)).parts (k:Int)) (dD t (k:Int)).Rj) (k:Int) (dD t (k:Int)).Rj
    simp only[ey hk,RA,show dq.mk t.Rj t.parts=t from rfl,H9 hN (hI.lR (by omega)),Ry,eP (l:=(dD t (k:Int)).parts) (i:=(k:Int)) (by omega) (by omega),
      H8 hN (p:=nth (dD t (k:Int)).parts (k:Int)) (by omega),I3 hN (p:=fP (nth (dD t (k:Int)).parts (k:Int)) (dD t (k:Int)).Rj) (by omega)]
    have e1:=C4 hN (p:=gz (fP (nth (dD t (k:Int)).parts (k:Int)) (dD t (k:Int)).Rj) (k:Int) (dD t (k:Int)).Rj) (by omega) (yv (xj b _) _ _) (dD t (k:Int)).Rj 3;have e2:=JH hN (p:=ki (nth (dD t (k:Int)).parts (k:Int)) (k:Int) (dD t (k:Int)).Rj) (by omega) (dD t (k:Int)).Rj;unfold ki at e2;have e3:((k:Int)==Int.tmod (dD t (k:Int)).Rj (w.parts.length:Int))=(Int.tmod (dD t (k:Int)).Rj (w.parts.length:Int)==(k:Int)):=Bool.beq_comm ..;refine Eq.trans (congrArg (fun x=>Option.bind x _) e1) ?_;simp only[Ry,Om (show(w.parts.length:Int) ≠ 0 by omega),e2,e3,eD hkB];unfold iQ iP ki;generalize iN (gH (gz (fP (nth (dD t (k:Int)).parts (k:Int)) (dD t (k:Int)).Rj) (k:Int) (dD t (k:Int)).Rj) (dD t (k:Int)).Rj 3).1 (dD t (k:Int)).Rj=R;generalize gH (gz (fP (nth (dD t (k:Int)).parts (k:Int)) (dD t (k:Int)).Rj) (k:Int) (dD t (k:Int)).Rj) (dD t (k:Int)).Rj 3=C;have hid:=eP (l:=(dD t (k:Int)).parts) (i:=(k:Int)) (by omega) (by omega);generalize dD t (k:Int)=X at hid⊢;cases Int.tmod X.Rj (w.parts.length:Int)==(k:Int)
    · simp only[Rz,Ry,hid,Int.toNat_natCast]
    · simp only[RA,Ry,hid,Int.toNat_natCast]
  · intro t _;simp only[er,Rz]
theorem Nr{N:Nat}(hN:dh<=N){w:dq}(hb:eK dG w.parts<dh)(hW:wW w.parts)(hT0:eO w=true->tx w.parts.length 0 (dq.mk (i64.wrap (w.Rj+1)) w.parts)):vG N w=some (tick w):=by
  have hB:(16777216:Nat)=dh:=rfl;unfold vG tick;simp only[uv hN hb,pU hN hb hW,Ry,gW];cases hw:eO w
  · rfl
  obtain⟨n1,n3,m0,m1⟩:=BK hw
  have hge:decide (w.Rj>=1000000)=(w.Rj==1000000):=by
    by_cases h:w.Rj=1000000
    · simp[h]
    · rw[decide_eq_false (by omega)];simp[h]
  rw[hge];cases hm:w.Rj==1000000
  case true=>rfl
  simp only[RB,Bool.not_false,Bool.or_self,Rz,Bool.and_self,if_true];rw[Eg hN (hT0 hw)]
  · rfl
  · intro k t hk hkB hI;have hT:=hI.dc (k:Int);have hl:=hT.len;have hl2:=hI.len;obtain⟨a,b⟩:=hT.sz _ (gJ (l:=(dD t (k:Int)).parts) (i:=(k:Int)) (by omega) (by omega));obtain⟨c,d⟩:=xF a (by omega) b (k:Int) (dD t (k:Int)).Rj;have q1:=By (nth (dD t (k:Int)).parts (k:Int)) (dD t (k:Int)).Rj;have q2:=BI (fP (nth (dD t (k:Int)).parts (k:Int)) (dD t (k:Int)).Rj) (k:Int) (dD t (k:Int)).Rj
    simp only[hl2,ey hk,RA,show dq.mk t.Rj t.parts=t from rfl,IG hN (hI.lR (by omega)) hI.w,Ry,eP (l:=(dD t (k:Int)).parts) (i:=(k:Int)) (by omega) (by omega),
      I6 hN (p:=nth (dD t (k:Int)).parts (k:Int)) (by omega) b]
    have e0:=H6 hN (p:=fP (nth (dD t (k:Int)).parts (k:Int)) (dD t (k:Int)).Rj) (by omega) (xj b _) (k:Int) (dD t (k:Int)).Rj;have e1:=CZ hN (p:=gz (fP (nth (dD t (k:Int)).parts (k:Int)) (dD t (k:Int)).Rj) (k:Int) (dD t (k:Int)).Rj) (by omega) (yv (xj b _) _ _) (dD t (k:Int)).Rj 3;have e2:=JY hN (p:=ki (nth (dD t (k:Int)).parts (k:Int)) (k:Int) (dD t (k:Int)).Rj) (by omega) d (dD t (k:Int)).Rj;unfold ki at e2;refine Eq.trans (congrArg (fun x=>Option.bind x _) e0) ?_;simp only[Ry,e1,hl,Om (show(w.parts.length:Int) ≠ 0 by omega),e2,eD hkB];unfold iQ iP ki;generalize iN (gH (gz (fP (nth (dD t (k:Int)).parts (k:Int)) (dD t (k:Int)).Rj) (k:Int) (dD t (k:Int)).Rj) (dD t (k:Int)).Rj 3).1 (dD t (k:Int)).Rj=R;generalize gH (gz (fP (nth (dD t (k:Int)).parts (k:Int)) (dD t (k:Int)).Rj) (k:Int) (dD t (k:Int)).Rj) (dD t (k:Int)).Rj 3=C;have hid:=eP (l:=(dD t (k:Int)).parts) (i:=(k:Int)) (by omega) (by omega);generalize dD t (k:Int)=X at hid⊢;cases Int.tmod X.Rj (w.parts.length:Int)==(k:Int)
    · simp only[Rz,Ry,hid,Int.toNat_natCast]
    · simp only[RA,Ry,hid,Int.toNat_natCast]
  · intro t ht;simp only[ht.len,er,Rz]
theorem O1{t:List dk}{f:Int}{a:de}(h:(eF t f a).2=false):(eF t f a).1=t:=by
  unfold eF at h⊢;split
  · rename_i q;rw[if_pos q]at h;split
    · rename_i q2;rw[if_pos q2]at h;cases h
    · rfl
  · rfl
theorem tU{t:List dk}{f:Int}{a:de}(h:(eF t f a).2=true):fF t=true/\ei t f=true:=by
  unfold eF at h;split at h
  · rename_i q;simpa using q
  · cases h
theorem Fs(t:List dk)(f:Int)(a:de):(eF t f a).1.map dk.Rq=t.map dk.Rq:=by
  unfold eF;split
  · rename_i q;simp only[RD]at q;obtain⟨f0,f4⟩:=hO q.2;have hl:=od q.1;split
    · rw[List.map_set];refine kD ?_;rw[List.getElem?_map,fM f0 (by omega)];rfl
    · rfl
  · rfl
def tF:Nat->List Bool->Option Nat
  | _,[]=>none
  | k,b::l=>if b then tF (k+1) l else some k
theorem HL{ρ:Type}(g:Nat->ρ)(r:ρ):∀(l:List dk) (k:Nat),kf (fun k (_:Unit) (y:dk)=>if y.Rq then .inl ()else .inr (g k)) (fun _=>r) k () l=(match tF k (l.map dk.Rq)with|none=>r|some k=>g k)
  | [],k=>rfl
  | y::l,k=>by
    unfold kf;simp only[List.map_cons,tF];cases y.Rq
    · rfl
    · exact HL g r l (k+1)
theorem DG{ρ:Type}{N:Nat}(hN:dh<=N){x:List dk}(hx:x.length<dh)(g:Nat->ρ)(r:ρ){body:Int->Option (Int⊕ρ)}
    (hs:∀(k:Nat) (y:dk),x[k]?=some y->k<x.length->body (k:Int)=some (if y.Rq then .inl ((k+1:Nat):Int)else .inr (g k))) (he:body (x.length:Int)=some (.inr r)) :
    iter body N 0=some (match tF 0 (x.map dk.Rq)with|none=>r|some k=>g k):=by
  rw[show(0:Int)=(fun(k:Nat) (_:Unit)=>(k:Int)) 0 () from rfl,
    kJ x (fun(k:Nat) (_:Unit)=>(k:Int)) (fun k _ y=>if y.Rq then .inl ()else .inr (g k)) (fun _=>r) (fun _ _=>True) ?_ ?_ (Nat.lt_of_lt_of_le hx hN) trivial,HL]
  · intro k _ y hy hk _;refine⟨?_,fun _ _=>trivial⟩
    show body (k:Int)=_
    rw[hs k y hy hk];cases y.Rq<;>rfl
  · intro _ _;exact he
def iG(t:List dk)(f:Int)(a:de):List dk×Int×Bool :=
  if(eF t f a).2 then(match tF 0 (t.map dk.Rq)with|none=>(t,0,false)|some k=>((eF t f a).1.set k (dk.mk true f a),(k:Int),true))else(t,0,false)
theorem Dh(t:List dk)(f:Int)(a:de):(iG t f a).1.length=t.length:=by
  unfold iG;split
  · split
    · rfl
    · simp only[List.length_set,jA]
  · rfl
theorem FV{N:Nat}(hN:dh<=N){t:List dk}(hB:t.length<dh)(f:Int)(a:de):o5 N t f a=some (iG t f a):=by
  unfold o5 iG;simp only[uK hN hB,Ry];cases h:(eF t f a).2
  · simp only[Bool.not_false,RA,O1 h,Bool.false_eq_true,if_false]
  simp only[RB,Rz,if_true];rw[DG hN hB (fun k=>Sum.inr ((eF t f a).1.set k (dk.mk true f a),(k:Int),true)) (Sum.inl (t.length:Int))]
  · simp only[Ry];cases tF 0 (t.map dk.Rq)
    · simp only[Sum.elim_inl,mZ hB,Ry]
    · rfl
  · intro k y hy hk;have hp:=jA t f a;simp only[ey hk,RA,dN,hy,Ry,eD (Nat.lt_trans hk hB),Int.toNat_natCast];cases y.Rq
    · have:((eF t f a).1[k]?)=some ((eF t f a).1[k]'(by omega)):=List.getElem?_eq_getElem (by omega);simp only[this,Bool.not_false,RA,Ry,Bool.false_eq_true,if_false]
    · simp only[RB,Rz,if_true]
  · simp only[er,Rz]
theorem Gy{N:Nat}(hN:dh<=N){t:List dk}(hB:t.length<dh)(f:Int)(a:de):oR N t f a=some (iG t f a):=by
  unfold oR iG;simp only[sL hN hB,Ry];cases h:(eF t f a).2
  · simp only[Bool.not_false,RA,nD hB,Ry,Bool.false_eq_true,if_false]
  have hp:=jA t f a;simp only[RB,Rz,if_true];rw[DG (x:=(eF t f a).1) hN (by omega) (fun k=>Sum.inr ((eF t f a).1.set k (dk.mk true f a),(k:Int),true)) (Sum.inl ((eF t f a).1.length:Int)),Fs]
  · simp only[Ry];cases tF 0 (t.map dk.Rq)
    · simp only[Sum.elim_inl,nD hB,Ry]
    · rfl
  · intro k y hy hk;simp only[ey hk,RA,dN,hy,Ry,eD (show k<dh by omega),Int.toNat_natCast];cases y.Rq<;>rfl
  · simp only[er,Rz]
def jo(t:List dk)(f g:Int)(a:de):List dk×Bool:=if(eF t f a).2&&ei t g then jJ (eF t f a).1 g a else(t,false)
theorem EM(t:List dk)(f g:Int)(a:de):(jo t f g a).1.length=t.length:=by
  unfold jo;split
  · rw[v8,jA]
  · rfl
theorem Io{N:Nat}(hN:dh<=N){t:List dk}(hB:t.length<dh)(f g:Int)(a:de):qj N t f g a=some (jo t f g a):=by
  unfold qj jo;have hp:=jA t f a;simp only[uK hN hB,Ry];cases h:(eF t f a).2
  · simp only[Bool.not_false,RA,mZ hB,Ry,Bool.false_and,Bool.false_eq_true,if_false]
  have hl:=od (tU h).1;simp only[RB,Rz,pQ N hl,Ry,RC];cases ei t g
  · simp only[Bool.not_false,RA,mZ hB,Ry,Bool.false_eq_true,if_false]
  · simp only[RB,Rz,if_true,xH hN (show(eF t f a).1.length<dh by omega),Ry]
theorem I8{N:Nat}(hN:dh<=N){t:List dk}(hB:t.length<dh)(f g:Int)(a:de):qy N t f g a=some (jo t f g a):=by
  unfold qy jo;have hp:=jA t f a;simp only[sB hN,sL hN hB,Ry];cases h:(eF t f a).2
  · cases fF t&&ei t g<;>simp only[Bool.not_false,RB,RA,Rz,nD hB,Ry,Bool.false_and,Bool.false_eq_true,if_false]
  rw[(tU h).1];simp only[RC];cases ei t g
  · simp only[Bool.not_false,RA,nD hB,Ry,Bool.false_eq_true,if_false]
  · simp only[RB,Rz,if_true,xo hN (show(eF t f a).1.length<dh by omega),Ry]
theorem JK{t:List dk}(h:Tr t){i:Int}(hv:ei t i=true)(hi:i ≠ 0):0<=up t i/\up t i<=4/\up t i ≠ i/\(nth t (up t i)).Rq=true:=by
  obtain⟨i0,i4⟩:=hO hv;have hl:=h.len;have hg:=fM (l:=t) i0 (by omega)
  have hlv:(nth t i).Rq=true:=by
    unfold ei at hv;simp only[RD]at hv;exact hv.2
  have h1:=h.lead i.toNat (nth t i) hg hlv;rw[show((i.toNat:Nat):Int)=i by omega]at h1
  have hne:up t i ≠ i:=fun q=>by rw[z5 hi q]at h1;cases h1
  have h2:leads t 4 (up t i)=true:=by
    unfold leads at h1;simpa[hi,hv]using h1
  by_cases hu:up t i=0
  · rw[hu];exact⟨by omega,by omega,fun q=>hi q.symm,h.pM⟩
  · unfold leads at h2
    have h3:ei t (up t i)=true:=by
      cases q:ei t (up t i)
      · simp[hu,q]at h2
      · rfl
    obtain⟨a,b⟩:=hO h3;unfold ei at h3;simp only[RD]at h3;exact⟨a,b,hne,h3.2⟩
def u6(s:de)(B:Int):Prop:=(0<=s.cd/\s.cd<=B)/\(0<=s.dg/\s.dg<=B)/\(0<=s.du/\s.du<=B)
theorem yZ{s a:de}{B:Int}(hs:u6 s B)(ha:dT a=true)(hB:B<=1000000000):(dY s a).cd=s.cd+a.cd/\(dY s a).dg=s.dg+a.dg/\(dY s a).du=s.du+a.du/\u6 (dY s a) (B+1000000):=by
  have h:=eN.1 ha;unfold u6 at hs;have w1:(dY s a).cd=s.cd+a.cd:=dF (by omega) (by omega);have w2:(dY s a).dg=s.dg+a.dg:=dF (by omega) (by omega);have w3:(dY s a).du=s.du+a.du:=dF (by omega) (by omega);exact⟨w1,w2,w3,⟨by omega,by omega⟩,⟨by omega,by omega⟩,⟨by omega,by omega⟩⟩
theorem z0:∀(t:List dk) (s:de) (B:Int),(∀r,r∈t->dT r.dQ=true)->0<=B->B+1000000*(t.length:Int)<=1000000000->u6 s B->∀(k:Nat) (r:dk),t[k]?=some r->r.Rq=true ->
    s.cd+r.dQ.cd<=(eX s t).cd/\s.dg+r.dQ.dg<=(eX s t).dg/\s.du+r.dQ.du<=(eX s t).du
  | [],s,B,_,_,_,_,k,r,hr,_=>by simp at hr
  | x::t,s,B,h,hB,hL,hs,k,r,hr,hv=>by
    have hx:=h x (by simp);simp only[List.length_cons]at hL;obtain⟨w1,w2,w3,w4⟩:=yZ hs hx (by omega);have hx':=eN.1 hx;have e:eX s (x::t)=eX (if x.Rq then dY s x.dQ else s) t:=rfl;rw[e];have ht:∀r,r∈t->dT r.dQ=true:=fun r hr=>h r (by simp[hr])
    match k with
    | 0 =>
      simp only[List.getElem?_cons_zero,Option.some.injEq]at hr;subst hr;rw[if_pos hv];obtain⟨⟨a1,a2,a3⟩,_⟩:=rf t (dY s x.dQ) (B+1000000) ht (by omega) (by omega) w4.1 w4.2.1 w4.2.2;exact⟨by omega,by omega,by omega⟩
    | k+1 =>
      rw[List.getElem?_cons_succ]at hr;cases hxl:x.Rq
      · exact z0 t s B ht hB (by omega) hs k r hr hv
      · obtain⟨a1,a2,a3⟩:=z0 t (dY s x.dQ) (B+1000000) ht (by omega) (by omega) w4 k r hr hv;rw[if_pos rfl];exact⟨by omega,by omega,by omega⟩
theorem xA:∀(t:List dk) (s:de) (B:Int),(∀r,r∈t->dT r.dQ=true)->0<=B->B+1000000*(t.length:Int)<=1000000000->u6 s B->∀(k j:Nat) (r q:dk),k<j->t[k]?=some r->r.Rq=true->t[j]?=some q->q.Rq=true ->
    r.dQ.cd+q.dQ.cd<=(eX s t).cd/\r.dQ.dg+q.dQ.dg<=(eX s t).dg/\r.dQ.du+q.dQ.du<=(eX s t).du
  | [],s,B,_,_,_,_,k,j,r,q,_,hr,_,_,_=>by simp at hr
  | x::t,s,B,h,hB,hL,hs,k,j,r,q,hkj,hr,hv,hq,hw=>by
    have hx:=h x (by simp);simp only[List.length_cons]at hL;obtain⟨w1,w2,w3,w4⟩:=yZ hs hx (by omega);have e:eX s (x::t)=eX (if x.Rq then dY s x.dQ else s) t:=rfl;rw[e];have ht:∀r,r∈t->dT r.dQ=true:=fun r hr=>h r (by simp[hr]);unfold u6 at hs
    match k,j,hkj with
    | 0,j+1,_ =>
      simp only[List.getElem?_cons_zero,Option.some.injEq]at hr;subst hr;rw[List.getElem?_cons_succ]at hq;rw[if_pos hv];obtain⟨a1,a2,a3⟩:=z0 t (dY s x.dQ) (B+1000000) ht (by omega) (by omega) w4 j q hq hw;exact⟨by omega,by omega,by omega⟩
    | k+1,j+1,hkj =>
      rw[List.getElem?_cons_succ]at hr hq;cases hxl:x.Rq
      · exact xA t s B ht hB (by omega) hs k j r q (by omega) hr hv hq hw
      · rw[if_pos rfl];exact xA t (dY s x.dQ) (B+1000000) ht (by omega) (by omega) w4 k j r q (by omega) hr hv hq hw
theorem Hj{t:List dk}(h:Tr t){u i:Int}(hu:0<=u/\u<=4)(hi:0<=i/\i<=4)(hne:u ≠ i)(h1:(nth t u).Rq=true)(h2:(nth t i).Rq=true):ga (nth t u).dQ (nth t i).dQ=(dY (nth t u).dQ (nth t i).dQ,true):=by
  have hl:=h.len
  have z:u6 ⟨0,0,0⟩ 0:=by unfold u6;decide
  have hS:=eN.1 h.sum;have gu:=fM (l:=t) (i:=u) hu.1 (by omega);have gi:=fM (l:=t) (i:=i) hi.1 (by omega);have bu:=h.dQ _ (List.mem_of_getElem? gu);have bi:=h.dQ _ (List.mem_of_getElem? gi);have bu':=eN.1 bu;have bi':=eN.1 bi
  have key:(nth t u).dQ.cd+(nth t i).dQ.cd<=(eX ⟨0,0,0⟩ t).cd/\(nth t u).dQ.dg+(nth t i).dQ.dg<=(eX ⟨0,0,0⟩ t).dg/\(nth t u).dQ.du+(nth t i).dQ.du<=(eX ⟨0,0,0⟩ t).du:=by
    rcases Int.lt_or_gt_of_ne hne with q|q
    · exact xA t ⟨0,0,0⟩ 0 h.dQ (by omega) (by omega) z u.toNat i.toNat _ _ (by omega) gu h1 gi h2
    · obtain⟨a,b,c⟩:=xA t ⟨0,0,0⟩ 0 h.dQ (by omega) (by omega) z i.toNat u.toNat _ _ (by omega) gi h2 gu h1;exact⟨by omega,by omega,by omega⟩
  have v1:(dY (nth t u).dQ (nth t i).dQ).cd=(nth t u).dQ.cd+(nth t i).dQ.cd:=dF (by omega) (by omega);have v2:(dY (nth t u).dQ (nth t i).dQ).dg=(nth t u).dQ.dg+(nth t i).dQ.dg:=dF (by omega) (by omega);have v3:(dY (nth t u).dQ (nth t i).dQ).du=(nth t u).dQ.du+(nth t i).dQ.du:=dF (by omega) (by omega);have:dT (dY (nth t u).dQ (nth t i).dQ)=true:=eN.2 ⟨by omega,by omega,by omega⟩;unfold ga;rw[bu,bi,this];rfl
def jK(i u:Int)(r:dk):dk:=if r.Rq&&(r.Rr==i)then dk.mk r.Rq u r.dQ else r
def dropped(t:List dk)(i:Int):List dk:=(t.set (up t i).toNat (jL (nth t (up t i)) (dY (nth t (up t i)).dQ (nth t i).dQ))).set i.toNat kA
def jm(t:List dk)(i:Int):List dk×Bool:=if(fF t&&ei t i)&&(i != 0)then((dropped t i).map (jK i (up t i)),true)else(t,false)
theorem E0(t:List dk)(i:Int):(jm t i).1.length=t.length:=by
  unfold jm dropped;split<;>simp
theorem H7{N:Nat}(hN:dh<=N){t:List dk}(hB:t.length<dh)(i:Int):pT N t i=some (jm t i):=by
  unfold pT jm;simp only[nD hB,sB hN,Ry,gW];cases h:(fF t&&ei t i)
  · rfl
  simp only[RD]at h;have hT:=fI.1 h.1;have hl:=hT.len;cases hi:(i==0)
  case true=>simp only[RB,Bool.or_true,RA,RC,bne,hi,Bool.false_eq_true,if_false]
  have hi':i ≠ 0:=by simpa using hi
  obtain⟨i0,i4⟩:=hO h.2;obtain⟨u0,u4,une,ulv⟩:=JK hT h.2 hi'
  have ilv:(nth t i).Rq=true:=by
    have:=h.2;unfold ei at this;simp only[RD]at this;exact this.2
  have eu:idx t (nth t i).Rr=some (nth t (up t i)):=eP (i:=up t i) u0 (by omega);have ff:=Hj hT ⟨u0,u4⟩ ⟨i0,i4⟩ une ulv ilv;have e2:∀z,idx (t.set (nth t i).Rr.toNat z) i=some (nth (t.set (nth t i).Rr.toNat z) i):=fun z=>eP i0 (by simp only[List.length_set];omega);simp only[RB,Bool.or_false,Rz,eP (l:=t) i0 (by omega),eu,uf,ff,Ry,e2,bne,hi,Bool.not_false,Bool.and_self,if_true];rw[show(((t.set (nth t i).Rr.toNat (dk.mk (nth t (up t i)).Rq (nth t (up t i)).Rr (de.mk (dY (nth t (up t i)).dQ (nth t i).dQ).cd (dY (nth t (up t i)).dQ (nth t i).dQ).dg (dY (nth t (up t i)).dQ (nth t i).dQ).du))).set i.toNat (dk.mk false 0 (de.mk 0 0 0))))=dropped t i from rfl];rw[sC (dropped t i) (jK i (up t i)) (show(dropped t i).length<N by unfold dropped;simp only[List.length_set];omega)]
  · rfl
  · intro k x y hx hty _ hk
    have hk':k<x.length:=by omega
    have hk2:k<t.length:=by unfold dropped at hk;simp only[List.length_set]at hk;omega
    simp only[ey hk',RA,dN,hty,Ry,iK,eD (show k<dh by omega),Int.toNat_natCast];unfold jK;cases(y.Rq&&(y.Rr==i))
    · simp only[Rz,Bool.false_eq_true,if_false,kD hty]
    · simp only[RA,if_true];rfl
  · intro x hx;rw[<- hx];simp only[er,Rz]
theorem IS{N:Nat}(hN:dh<=N){t:List dk}(hB:t.length<dh)(i:Int):qw N t i=some (jm t i):=by
  unfold qw jm;simp only[mZ hB,qA hN,Ry];cases ht:fF t
  · rfl
  have hT:=fI.1 ht;have hl:=hT.len;cases hi:(i==0)
  case true=>simp only[RB,Rz,RA,Ry,RC,bne,hi,Bool.and_false,Bool.false_eq_true,if_false]
  have hi':i ≠ 0:=by simpa using hi
  simp only[RB,Rz,pQ N hl,Ry];cases hv:ei t i
  · rfl
  obtain⟨i0,i4⟩:=hO hv;obtain⟨u0,u4,une,ulv⟩:=JK hT hv hi';have eu:idx t (nth t i).Rr=some (nth t (up t i)):=eP (i:=up t i) u0 (by omega);have e2:∀z,idx (t.set (nth t i).Rr.toNat z) i=some (nth (t.set (nth t i).Rr.toNat z) i):=fun z=>eP i0 (by simp only[List.length_set];omega);simp only[RB,Rz,eP (l:=t) i0 (by omega),eu,pG,Ry,e2,bne,hi,Bool.not_false,Bool.and_self,if_true];rw[show(((t.set (nth t i).Rr.toNat (dk.mk (nth t (up t i)).Rq (nth t (up t i)).Rr (dY (nth t (up t i)).dQ (nth t i).dQ))).set i.toNat (dk.mk false 0 (de.mk 0 0 0))))=dropped t i from rfl];rw[sC (dropped t i) (jK i (up t i)) (show(dropped t i).length<N by unfold dropped;simp only[List.length_set];omega)]
  · rfl
  · intro k x y hx hty _ hk
    have hk':k<t.length:=by unfold dropped at hk;simp only[List.length_set]at hk;omega
    simp only[ey hk',RA,dN,hty,Ry,iK,eD (show k<dh by omega),Int.toNat_natCast];unfold jK;cases(y.Rq&&(y.Rr==i))
    · simp only[Rz,Bool.false_eq_true,if_false,kD hty]
    · simp only[RA,if_true];rfl
  · intro x hx;rw[show(dropped t i).length=t.length by unfold dropped;simp only[List.length_set]];simp only[er,Rz]
end Go.Kx
