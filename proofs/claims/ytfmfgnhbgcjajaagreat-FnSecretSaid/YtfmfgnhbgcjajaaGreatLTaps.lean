import Derived.Test.YtfmfgnhbgcjajaaGreatLCollect
namespace Go.Kx
open Go
open Go.IntKind (i64)
set_option linter.unusedVariables false
set_option linter.unusedSimpArgs false
set_option maxRecDepth 10000
theorem C2{N:Nat}(hN:df<=N){w:List bh}(hl:w.length<df){F:bh->Option bh}(hF:∀y,y∈w->F y=some y):
    iter (fun(s8:Int×(List bh))=>(bif(decide (s8.1<(w.length:Int)))then((idx w s8.1).bind fun y11=>(F y11).bind fun y41=>(app s8.2 [y41]).bind fun y57=>some (.inl (i64.wrap (s8.1+1),y57)))else(some (.inr (s8.1,s8.2))):Option ((Int×(List bh))⊕(Int×(List bh))))) N (0,[])=some ((w.length:Int),w):=by
  have e:∀(l:List bh) (k:Nat) (acc:List bh),foldI (fun _ (acc:List bh) y=>acc++[y]) k acc l=acc++l:=by
    intro l
    induction l with
    | nil=>intro k acc;simp[foldI]
    | cons y l ih=>intro k acc;unfold foldI;rw[ih];simp
  rw[show((0:Int),([]:List bh))=(fun(k:Nat) (t:List bh)=>((k:Int),t)) 0 [] from rfl,
    gz w (fun(k:Nat) (t:List bh)=>((k:Int),t)) (fun _ acc y=>acc++[y]) (fun t=>((w.length:Int),t)) (fun k t=>t.length<=k) ?_ ?_ (Nat.lt_of_lt_of_le hl hN) (by simp),e]
  · simp
  · intro k t y hy hk ht;refine⟨?_,by simp;omega⟩;simp only[ei hk,RM,dM,hy,RK,hF y (List.mem_of_getElem? hy),eB (Nat.lt_trans hk hl),fZ ht (Nat.lt_of_le_of_lt hk hl)]
  · intro t _;simp only[ep,RL]
theorem rz{N:Nat}(hN:df<=N){w:dh}(hb:eE dC w.parts<df):jE N w=some w:=by
  unfold jE;rw[C2 hN (gj hb) fun y hy=>mW hN (fq hb hy)];rfl
theorem uz{N:Nat}(hN:df<=N){w:dh}(hb:eE dC w.parts<df):kX N w=some w:=by
  unfold kX;rw[C2 hN (gj hb) fun y hy=>qa hN (fq hb hy)];rfl
theorem C8{N:Nat}(hN:df<=N){w:List dJ}(hl:w.length<df){F:List dj->Option (List dj)}(hF:∀y,y∈w->F y.RH=some y.RH):
    iter (fun(s4:(List dJ)×Int)=>(bif(decide (s4.2<(w.length:Int)))then((idx w s4.2).bind fun y7=>(F y7.RH).bind fun y22=>(app s4.1 [dJ.mk y22]).bind fun y26=>some (.inl (y26,i64.wrap (s4.2+1))))else(some (.inr (s4.1,s4.2))):Option (((List dJ)×Int)⊕((List dJ)×Int)))) N ([],0)=some (w,(w.length:Int)):=by
  rw[jq w (fun _ _=>true) (fun _ y=>y) hl hN]
  · rw[kY (fun _=>true) w 0];simp
  · intro k t y hy hk ht;simp only[ei hk,RM,dM,hy,RK,hF y (List.mem_of_getElem? hy),eB (Nat.lt_trans hk hl),fZ ht (Nat.lt_of_le_of_lt hk hl),if_true]
  · intro t;simp only[ep,RL]
def nN(ts:List dJ):Prop:=ts.length<df/\∀t,t∈ts->t.RH.length<df
theorem GF{N:Nat}(hN:df<=N){ts:List dJ}(h:nN ts):mJ N ts=some ts:=by
  unfold mJ;rw[C8 hN h.1 fun y hy=>mV (h.2 y hy)];rfl
theorem LR{N:Nat}(hN:df<=N){ts:List dJ}(h:nN ts):qK N ts=some ts:=by
  unfold qK;rw[C8 hN h.1 fun y hy=>nj (h.2 y hy)];rfl
def iL(a:de)(w:Int):Int:=if w==0 then a.cd else if w==1 then a.dg else if w==2 then a.dn else 0
theorem C9(N:Nat)(a:de)(w:Int):o5 N a w=some (iL a w):=by
  unfold o5 iL;cases w==0<;>cases w==1<;>cases w==2<;>rfl
theorem Cf(N:Nat)(a:de)(w:Int):oX N a w=some (iL a w):=by
  unfold oX iL;cases w==0<;>cases w==1<;>cases w==2<;>rfl
def kB(t:ef)(n:Int):Int:=if t.Rq==1 then(if n<t.jx then n else t.jx)else i64.wrap (Int.tdiv (i64.wrap (t.jx*n)) 100)
def qo(t:ef)(a:de):Int:=if gO t&&dP a then kB t (iL a t.gP)else 0
theorem JW(N:Nat)(t:ef)(a:de):ru N t a=some (qo t a):=by
  unfold ru qo kB;simp only[zr,oV,RK,gv,C9];cases gO t
  · rfl
  cases dP a
  · rfl
  cases t.Rq==1<;>rfl
theorem KT(N:Nat)(t:ef)(a:de):qV N t a=some (qo t a):=by
  unfold qV qo kB;simp only[zd,o8,RK,gv,Cf];cases gO t
  · rfl
  cases dP a
  · rfl
  cases t.Rq==1
  · simp only[RN,Bool.or_self,RL,Bool.and_self,if_true,Bool.false_eq_true,if_false];rw[Int.mul_comm]
  · simp only[RN,Bool.or_self,RL,RM,Bool.and_self,if_true];congr 1;split<;>split<;>omega
theorem Ay{t:ef}{n:Int}(ht:gO t=true)(h0:0<=n)(h1:n<=1000000):0<=kB t n/\kB t n<=n:=by
  unfold gO at ht;simp only[RP,Bool.or_eq_true,dI,beq_iff_eq]at ht;unfold kB
  rcases ht.2 with⟨hk,r0,r1⟩|⟨hk,r0,r1⟩
  · rw[hk];simp only[beq_self_eq_true,if_true];split<;>omega
  · rw[hk,show((2:Int)==1)=false from rfl];simp only[Bool.false_eq_true,if_false];have m1:0<=t.jx*n:=Int.mul_nonneg r0 h0;have m2:t.jx*n<=100*n:=Int.mul_le_mul_of_nonneg_right r1 h0;rw[dB (n:=t.jx*n) (by omega) (by omega),Int.tdiv_eq_ediv_of_nonneg m1]
    have d0:0<=t.jx*n / 100:=by omega
    have d1:t.jx*n / 100<=n:=by omega
    rw[dB (by omega) (by omega)];exact⟨d0,d1⟩
theorem Lc{t:ef}{a:de}(ht:gO t=true)(ha:dP a=true):jc (g6 t.gP (qo t a)) a=true:=by
  unfold qo;rw[ht,ha];simp only[Bool.and_self,if_true];have ht':=ht;unfold gO at ht';simp only[RP,dI]at ht';have ha':=eA.1 ha
  have hw:t.gP=0\/t.gP=1\/t.gP=2:=by omega
  unfold jc;rw[ha]
  rcases hw with e|e|e<;>rw[e]
  · obtain⟨q0,q1⟩:=Ay ht (n:=iL a 0) ha'.1.1 ha'.1.2;have q2:kB t (iL a 0)<=a.cd:=q1;have:dP (g6 0 (kB t (iL a 0)))=true:=eA.2 (show(0<=kB t (iL a 0)/\kB t (iL a 0)<=1000000)/\(0<=(0:Int)/\(0:Int)<=1000000)/\(0<=(0:Int)/\(0:Int)<=1000000) from⟨⟨q0,by omega⟩,by decide,by decide⟩);rw[this];simp only[RO,RP,decide_eq_true_eq];exact⟨q2,ha'.2.1.1,ha'.2.2.1⟩
  · obtain⟨q0,q1⟩:=Ay ht (n:=iL a 1) ha'.2.1.1 ha'.2.1.2;have q2:kB t (iL a 1)<=a.dg:=q1;have:dP (g6 1 (kB t (iL a 1)))=true:=eA.2 (show(0<=(0:Int)/\(0:Int)<=1000000)/\(0<=kB t (iL a 1)/\kB t (iL a 1)<=1000000)/\(0<=(0:Int)/\(0:Int)<=1000000) from⟨by decide,⟨q0,by omega⟩,by decide⟩);rw[this];simp only[RO,RP,decide_eq_true_eq];exact⟨ha'.1.1,q2,ha'.2.2.1⟩
  · obtain⟨q0,q1⟩:=Ay ht (n:=iL a 2) ha'.2.2.1 ha'.2.2.2;have q2:kB t (iL a 2)<=a.dn:=q1;have:dP (g6 2 (kB t (iL a 2)))=true:=eA.2 (show(0<=(0:Int)/\(0:Int)<=1000000)/\(0<=(0:Int)/\(0:Int)<=1000000)/\(0<=kB t (iL a 2)/\kB t (iL a 2)<=1000000) from⟨by decide,by decide,⟨q0,by omega⟩⟩);rw[this];simp only[RO,RP,decide_eq_true_eq];exact⟨ha'.1.1,ha'.2.1.1,q2⟩
def ib(ts:List dJ):Bool:=ts.all fun t=>fk t.RH
def fO(ts:List dJ)(p:Int)(t:ef):Bool :=
  ib ts&&(!decide ((ts.length:Int)>3)&&(gO t&&(dv p 0 ((ts.length:Int)-1)&&(!decide (t.eP>=(ts.length:Int))&&eh (nth ts p).RH t.RF))))
def ng(ts:List dJ)(p:Int)(t:ef):Int:=qo t (nth (nth ts p).RH t.RF).dO
def fw(ts:List dJ)(p:Int)(t:ef):List dJ:=ts.set p.toNat (dJ.mk (eD (nth ts p).RH t.RF (g6 t.gP (ng ts p t))).1)
def jb(ts:List dJ)(p:Int)(t:ef):List dj×Bool:=iW (nth (fw ts p t) t.eP).RH t.mB (g6 t.gP (ng ts p t))
def fL(ts:List dJ)(p:Int)(t:ef):List dJ×Int :=
  if fO ts p t&&(jb ts p t).2 then((fw ts p t).set t.eP.toNat (dJ.mk (jb ts p t).1),ng ts p t)else(ts,0)
theorem KD{ts:List dJ}(h:nN ts){k:Nat}{t:List dj}(ht:t.length<df):nN (ts.set k (dJ.mk t)):=by
  refine⟨by rw[List.length_set];exact h.1,fun y hy=>?_⟩
  rcases List.mem_or_eq_of_mem_set hy with h1|h1
  · exact h.2 y h1
  · subst h1;exact ht
theorem yX{ts:List dJ}{p:Int}(h:ib ts=true)(h0:0<=p)(h1:p<(ts.length:Int)):fk (nth ts p).RH=true:=by
  unfold ib at h;rw[List.all_eq_true]at h;exact h _ (gg h0 h1)
theorem lT{ts:List dJ}{p:Int}{t:ef}(h:fO ts p t=true):ib ts=true/\gO t=true/\(0<=p/\p<(ts.length:Int))/\(0<=t.eP/\t.eP<(ts.length:Int))/\eh (nth ts p).RH t.RF=true:=by
  unfold fO at h;simp only[RP,Bool.not_eq_true',decide_eq_false_iff_not,dI]at h;obtain⟨h1,_,h2,h3,h4,h5⟩:=h;have h2':=h2;unfold gO at h2';simp only[RP,dI]at h2';exact⟨h1,h2,⟨h3.1,by omega⟩,⟨h2'.1.2.1.1,by omega⟩,h5⟩
theorem Eb{ts:List dJ}{p:Int}{t:ef}(h:fO ts p t=true):(eD (nth ts p).RH t.RF (g6 t.gP (ng ts p t))).2=true:=by
  obtain⟨h1,h2,⟨p0,p1⟩,_,h5⟩:=lT h;have ho:=yX h1 p0 p1;obtain⟨f0,f4⟩:=gM h5
  have hb:dP (nth (nth ts p).RH t.RF).dO=true:=by
    have hT:=ho;have hl:=nV ho;unfold fk at hT;simp only[RP]at hT;have hP:=iV.1 hT.2.2.2.1 t.RF.toNat _ (fV f0 (by omega))
    have hv:(nth (nth ts p).RH t.RF).RC=true:=by
      unfold eh at h5;rw[RP]at h5;exact h5.2
    unfold mC at hP;rw[hv,if_pos rfl,RP]at hP;exact hP.1
  unfold eD;rw[ho,h5];simp only[Bool.and_self,if_true];rw[show jc (g6 t.gP (ng ts p t)) (nth (nth ts p).RH t.RF).dO=true from Lc h2 hb];rfl
theorem Bd{ts:List dJ}(h:nN ts){p:Int}(p0:0<=p)(p1:p<(ts.length:Int))(t:ef):nN (fw ts p t) :=
  KD h (by rw[i7];exact h.2 _ (gg p0 p1))
theorem my(ts:List dJ)(p:Int)(t:ef):(fw ts p t).length=ts.length:=by unfold fw;rw[List.length_set]
theorem Lh{N:Nat}(hN:df<=N){ts:List dJ}(h:nN ts)(p:Int)(t:ef):rE N ts p t=some (fL ts p t):=by
  have hl:=h.1;have hB:(16777216:Nat)=df:=rfl;unfold rE;simp only[GF hN h,RK];rw[gp ts (fun _ t=>fk t.RH) (.inl (ts.length:Int)) (.inr (ts,0)) (Nat.lt_of_lt_of_le hl hN),gZ]
  · simp only[RK,zr,jK,dB (n:=(ts.length:Int)-1) (by omega) (by omega)];cases h1:ts.all (fun t=>fk t.RH)
    · have:fO ts p t=false:=by unfold fO ib;rw[h1];rfl
      unfold fL;rw[this];rfl
    cases h2:decide ((ts.length:Int)>3)
    case true =>
      have:fO ts p t=false:=by unfold fO ib;rw[h1,h2];rfl
      unfold fL;rw[this];rfl
    cases h3:gO t
    · have:fO ts p t=false:=by unfold fO ib;rw[h1,h2,h3];rfl
      unfold fL;rw[this];rfl
    cases h4:dv p 0 ((ts.length:Int)-1)
    · have:fO ts p t=false:=by unfold fO ib;rw[h1,h2,h3,h4];rfl
      unfold fL;rw[this];rfl
    cases h5:decide (t.eP>=(ts.length:Int))
    case true =>
      have:fO ts p t=false:=by unfold fO ib;rw[h1,h2,h3,h4,h5];rfl
      unfold fL;rw[this];rfl
    rw[dI]at h4
    have p1:p<(ts.length:Int):=by omega
    have ho:=yX (ts:=ts) h1 h4.1 p1;have h5l:=nV ho;simp only[if_true,Sum.elim_inl,RN,RL,eK (l:=ts) h4.1 p1,RK,pR N h5l];cases h6:eh (nth ts p).RH t.RF
    · have:fO ts p t=false:=by unfold fO;rw[h6];simp
      unfold fL;rw[this];rfl
    have hm:fO ts p t=true:=by unfold fO ib;rw[h1,h2,h3,h5,h6,dI.2 h4];rfl
    obtain⟨_,_,_,⟨q0,q1⟩,_⟩:=lT hm;obtain⟨f0,f4⟩:=gM h6
    simp only[RN,RL,eK (l:=(nth ts p).RH) f0 (by omega),RK,JW,xL,uq hN (h.2 _ (gg h4.1 p1)),
      show qo t (nth (nth ts p).RH t.RF).dO=ng ts p t from rfl,Eb hm,show ts.set p.toNat (dJ.mk (eD (nth ts p).RH t.RF (g6 t.gP (ng ts p t))).1)=fw ts p t from rfl,
      eK (l:=fw ts p t) q0 (by rw[my];exact q1),xC hN ((Bd h h4.1 p1 t).2 _ (gg q0 (by rw[my];exact q1)))]
    unfold fL;rw[hm]
    show(bif !(jb ts p t).2 then some (ts,0)else some ((fw ts p t).set t.eP.toNat (dJ.mk (jb ts p t).1),ng ts p t))=_
    cases(jb ts p t).2<;>rfl
  · intro k y hy hk;simp only[ei hk,RM,dM,hy,RK,pH hN,eB (Nat.lt_trans hk hl)];cases fk y.RH<;>rfl
  · simp only[ep,RL]
theorem Kz{N:Nat}(hN:df<=N){ts:List dJ}(h:nN ts)(p:Int)(t:ef):qU N ts p t=some (fL ts p t):=by
  have hl:=h.1;have hB:(16777216:Nat)=df:=rfl
  have hok:vV N ts=some (ib ts&&decide ((ts.length:Int)<=3)):=by
    unfold vV ib;rw[gp ts (fun _ t=>fk t.RH) (.inl (ts.length:Int)) (.inr false) (Nat.lt_of_lt_of_le hl hN),gZ]
    · cases ts.all (fun t=>fk t.RH)<;>rfl
    · intro k y hy hk;simp only[ei hk,RM,dM,hy,RK,vx hN,eB (Nat.lt_trans hk hl)];cases fk y.RH<;>rfl
    · simp only[ep,RL]
  unfold qU;simp only[LR hN h,hok,RK,zd,jj,dB (n:=(ts.length:Int)-1) (by omega) (by omega)]
  have h2e:decide ((ts.length:Int)<=3)=!decide ((ts.length:Int)>3):=by
    by_cases hc:(ts.length:Int)<=3<;>simp[hc]
    omega
  rw[h2e];cases h1:ib ts
  · have:fO ts p t=false:=by unfold fO;rw[h1];rfl
    unfold fL;rw[this];rfl
  cases h2:decide ((ts.length:Int)>3)
  case true =>
    have:fO ts p t=false:=by unfold fO;rw[h1,h2];rfl
    unfold fL;rw[this];rfl
  cases h3:gO t
  · have:fO ts p t=false:=by unfold fO;rw[h1,h2,h3];rfl
    unfold fL;rw[this];rfl
  cases h4:dv p 0 ((ts.length:Int)-1)
  · have:fO ts p t=false:=by unfold fO;rw[h1,h2,h3,h4];rfl
    unfold fL;rw[this];rfl
  cases h5:decide (t.eP>=(ts.length:Int))
  case true =>
    have:fO ts p t=false:=by unfold fO;rw[h1,h2,h3,h4,h5];rfl
    unfold fL;rw[this];rfl
  rw[dI]at h4
  have p1:p<(ts.length:Int):=by omega
  have ho:=yX (ts:=ts) h1 h4.1 p1;have h5l:=nV ho;simp only[RN,Bool.not_false,Bool.and_self,RL,eK (l:=ts) h4.1 p1,RK,r8 hN,ho,RO];cases h6:eh (nth ts p).RH t.RF
  · have:fO ts p t=false:=by unfold fO;rw[h6];simp
    unfold fL;rw[this];rfl
  have hm:fO ts p t=true:=by unfold fO;rw[h1,h2,h3,h5,h6,dI.2 h4];rfl
  obtain⟨_,_,_,⟨q0,q1⟩,_⟩:=lT hm;obtain⟨f0,f4⟩:=gM h6
  simp only[RN,RL,eK (l:=(nth ts p).RH) f0 (by omega),RK,KT,Fp,sm hN (h.2 _ (gg h4.1 p1)),
    show qo t (nth (nth ts p).RH t.RF).dO=ng ts p t from rfl,show ts.set p.toNat (dJ.mk (eD (nth ts p).RH t.RF (g6 t.gP (ng ts p t))).1)=fw ts p t from rfl,
    eK (l:=fw ts p t) q0 (by rw[my];exact q1),xD hN ((Bd h h4.1 p1 t).2 _ (gg q0 (by rw[my];exact q1)))]
  unfold fL;rw[hm]
  show(bif !(jb ts p t).2 then some (ts,0)else some ((fw ts p t).set t.eP.toNat (dJ.mk (jb ts p t).1),ng ts p t))=_
  cases(jb ts p t).2<;>rfl
theorem GU(ts:List dJ)(p:Int)(t:ef):(fL ts p t).1.length=ts.length:=by
  unfold fL;split
  · show((fw ts p t).set _ _).length=_
    rw[List.length_set,my]
  · rfl
def lens(ts:List dJ):List Nat:=ts.map fun t=>t.RH.length
theorem DN{ts:List dJ}{k:Nat}{y:dJ}{t:List dj}(hy:ts[k]?=some y)(ht:t.length=y.RH.length):lens (ts.set k (dJ.mk t))=lens ts:=by
  unfold lens;rw[List.map_set]
  show(ts.map fun t=>t.RH.length).set k t.length=_
  rw[ht];apply kJ;rw[List.getElem?_map,hy];rfl
theorem x8(ts:List dJ)(p:Int)(t:ef):lens (fL ts p t).1=lens ts:=by
  unfold fL;split
  · rename_i h;rw[RP]at h;obtain⟨_,_,⟨p0,p1⟩,⟨q0,q1⟩,_⟩:=lT h.1
    show lens ((fw ts p t).set t.eP.toNat (dJ.mk (jb ts p t).1))=_
    refine(DN (fV q0 (by rw[my];exact q1)) (show(jb ts p t).1.length=_ from vP _ _ _)).trans ?_;exact DN (fV p0 p1) (i7 _ _ _)
  · rfl
theorem A1{ts us:List dJ}(h:nN ts)(e:lens us=lens ts):nN us:=by
  have hl:us.length=ts.length:=by
    have:=congrArg List.length e;unfold lens at this
    rwa[List.length_map,List.length_map]at this
  refine⟨by rw[hl];exact h.1,fun y hy=>?_⟩;have hm:y.RH.length∈lens us:=List.mem_map.2 ⟨y,hy,rfl⟩;rw[e]at hm;obtain⟨z,hz,hzz⟩:=List.mem_map.1 hm;rw[<- hzz];exact h.2 z hz
def lM(ts:List dJ)(p:Int)(db:List ef):List dJ:=db.foldl (fun ts t=>(fL ts p t).1) ts
theorem ub(p:Int):∀(db:List ef) (ts:List dJ),lens (lM ts p db)=lens ts
  | [],_=>rfl
  | t::db,ts=>(ub p db (fL ts p t).1).trans (x8 ts p t)
theorem EG{N:Nat}(hN:df<=N){db:List ef}(hl:db.length<df){ts:List dJ}(h:nN ts){p:Int}{F:List dJ->ef->Option (List dJ×Int)}(hF:∀ts t,nN ts->F ts t=some (fL ts p t)):
    iter (fun(s94:(List dJ)×Int)=>(bif(decide (s94.2<(db.length:Int)))then((idx db s94.2).bind fun y97=>(F s94.1 y97).bind fun y109=>some (.inl (y109.1,i64.wrap (s94.2+1))))else(some (.inr (s94.1,s94.2))):Option (((List dJ)×Int)⊕((List dJ)×Int)))) N (ts,0)=some (lM ts p db,(db.length:Int)):=by
  rw[show(ts,(0:Int))=(fun(k:Nat) (t:List dJ)=>(t,(k:Int))) 0 ts from rfl,
    gz db (fun(k:Nat) (t:List dJ)=>(t,(k:Int))) (fun _ ts t=>(fL ts p t).1) (fun t=>(t,(db.length:Int))) (fun _ t=>lens t=lens ts) ?_ ?_ (Nat.lt_of_lt_of_le hl hN) rfl,i9]
  · rfl
  · intro k t y hy hk ht;refine⟨?_,(x8 t p y).trans ht⟩;simp only[ei hk,RM,dM,hy,RK,hF t y (A1 h ht),eB (Nat.lt_trans hk hl)]
  · intro t _;simp only[ep,RL]
def dy(w:dh)(p:Int):dh:=if eI w&&er w p then dh.mk w.RB (eW w.parts (eN (lM (ft w.parts) p (nth w.parts p).db)))else w
theorem wG{l:List bh}(hb:eE dC l<df):nN (ft l):=by
  refine⟨by unfold ft fp;rw[List.length_map,List.length_map];exact gj hb,fun t ht=>?_⟩;unfold ft fp at ht;rw[List.map_map]at ht;obtain⟨p,hp,rfl⟩:=List.mem_map.1 ht;exact(gm (fq hb hp)).2.2.1
theorem qw{l:List bh}{p:Int}{db:List ef}:(lM (ft l) p db).length=l.length:=by
  have:=congrArg List.length (ub p db (ft l));unfold lens ft fp at this;rw[List.length_map,List.length_map,List.length_map,List.length_map]at this;exact this
theorem Jm{N:Nat}(hN:df<=N){w:dh}(hb:eE dC w.parts<df)(p:Int):qd N w p=some (dy w p):=by
  unfold qd dy;simp only[rz hN hb,wx hN hb,v8 (gj hb),RK,gv];cases hw:eI w
  · rfl
  cases hp:er w p
  · rfl
  obtain⟨e,hm⟩:=fu hp;have hl:=gj hb;have ht:(nth w.parts p).db.length<df:=(gm (fq hb hm)).2.2.2.2.2;simp only[RN,Bool.or_self,RL,Bool.and_self,if_true,decide_eq_true (Nat.lt_of_lt_of_le hl hN),decide_eq_true hl,e,RK];rw[show(gd true).bind=fun(k:Unit->Option dh)=>k () from rfl];simp only[];rw[EG hN ht (wG hb) (p:=p) (fun ts t h=>Lh hN h p t)];simp only[RK,qw,decide_true];rfl
theorem JG{N:Nat}(hN:df<=N){ts:List dJ}{n:Nat}(hn:ts.length=n)(hl:ts.length<df){F:List dj->Option (List dj)}(hF:∀y,y∈ts->F y.RH=some y.RH):
    iter (fun(s114:Int×(List (List dj)))=>(bif(decide (s114.1<(n:Int)))then((idx ts s114.1).bind fun y117=>(F y117.RH).bind fun y133=>some (.inl (i64.wrap (s114.1+1),s114.2++[y133])))else(some (.inr (s114.1,s114.2))):Option ((Int×(List (List dj)))⊕(Int×(List (List dj)))))) N (0,[])=some ((n:Int),eN ts):=by
  subst hn
  have e:∀(l:List dJ) (k:Nat) (acc:List (List dj)),foldI (fun _ (acc:List (List dj)) (y:dJ)=>acc++[y.RH]) k acc l=acc++eN l:=by
    intro l
    induction l with
    | nil=>intro k acc;simp[foldI,eN]
    | cons y l ih=>intro k acc;unfold foldI;rw[ih];simp[eN]
  rw[show((0:Int),([]:List (List dj)))=(fun(k:Nat) (t:List (List dj))=>((k:Int),t)) 0 [] from rfl,
    gz ts (fun(k:Nat) (t:List (List dj))=>((k:Int),t)) (fun _ acc y=>acc++[y.RH]) (fun t=>((ts.length:Int),t)) (fun _ _=>True) ?_ ?_ (Nat.lt_of_lt_of_le hl hN) trivial,e]
  · rfl
  · intro k t y hy hk _;refine⟨?_,trivial⟩;simp only[ei hk,RM,dM,hy,RK,hF y (List.mem_of_getElem? hy),eB (Nat.lt_trans hk hl)]
  · intro t _;simp only[ep,RL]
theorem Jr{N:Nat}(hN:df<=N){w:dh}(hb:eE dC w.parts<df)(hW:wW w.parts)(p:Int):pG N w p=some (dy w p):=by
  have hl:=gj hb;have hB:(16777216:Nat)=df:=rfl;unfold pG dy;simp only[uz hN hb,wz hN hb hW,jj,dB (n:=(w.parts.length:Int)-1) (by omega) (by omega),RK,gv];cases hw:eI w
  · rfl
  rw[show dv p 0 ((w.parts.length:Int)-1)=er w p from rfl];cases hp:er w p
  · rfl
  obtain⟨e,hm⟩:=fu hp;have ht:(nth w.parts p).db.length<df:=(gm (fq hb hm)).2.2.2.2.2;have hs:=A1 (wG hb) (ub p (nth w.parts p).db (ft w.parts));simp only[RN,Bool.or_self,RL,Bool.and_self,if_true,decide_eq_true (Nat.lt_of_lt_of_le hl hN),decide_eq_true hl,e,RK];rw[show(gd true).bind=fun(k:Unit->Option dh)=>k () from rfl];simp only[];rw[EG hN ht (wG hb) (p:=p) (fun ts t h=>Kz hN h p t)];simp only[RK,qw,decide_true];rw[show(gd true).bind=fun(k:Unit->Option dh)=>k () from rfl];simp only[];rw[JG hN qw hs.1 fun y hy=>nj (hs.2 y hy)];rfl
theorem HZ{l:List c6}(h:wA l)(i:Int):mo (nth l i):=by
  unfold nth
  cases e:l[i.toNat]? with
  | none=>show(-9223372036854775808:Int)<=0;decide
  | some o=>exact h o (List.mem_of_getElem? e)
theorem yy{p:bh}(h:wP p)(now:Int):wP (fI p now):=by
  unfold fI;split
  · show wA (oT p now)
    unfold oT;split
    · exact iH h (HZ h _)
    · exact h
  · exact h
theorem By{p:bh}(h:wP p)(me now:Int):wP (gx p me now):=by
  unfold gx;split
  · intro o ho;obtain⟨x,hx,rfl⟩:=List.mem_map.1 (show o∈p.py.ag.map _ from ho);split
    · show(-9223372036854775808:Int)<=0;decide
    · exact h x hx
  · exact h
theorem P0{p:bh}(h:wP p)(now:Int):wP (iy p now).1:=by
  unfold iy;split
  · split
    · exact h
    · exact iH h (HZ h (gC p now))
  · exact h
def kG(p:bh)(i now:Int):bh:=(fX (gx (fI p now) i now) now 3).1
def iF(n:Nat)(p:bh)(i now:Int):bh:=bif Int.tmod now (n:Int)==i then(iy (kG p i now) now).1 else kG p i now
def gF(n:Nat)(k:Nat)(w:dh):dh:=dh.mk (dy w (k:Int)).RB ((dy w (k:Int)).parts.set k (iF n (nth (dy w (k:Int)).parts (k:Int)) (k:Int) (dy w (k:Int)).RB))
def tick(w:dh):dh:=if eI w&&!(w.RB==1000000)then foldI (fun k t (_:bh)=>gF w.parts.length k t) 0 (dh.mk (i64.wrap (w.RB+1)) w.parts) w.parts else w
theorem xo{p:bh}{b:Nat}(hb:dC p<=b)(h2:b<=2000000)(hw:wP p)(i now:Int):dC (kG p i now)<=b+1200/\wP (kG p i now):=by
  have h1:=BJ p now;have h3:=BF (fI p now) i now;obtain⟨a,c⟩:=Ij (p:=gx (fI p now) i now) (by omega) (By (yy hw now) i now) now 3;exact⟨by show dC (fX (gx (fI p now) i now) now 3).1<=_;omega,c⟩
theorem wK{n:Nat}{p:bh}{b:Nat}(hb:dC p<=b)(h2:b<=2000000)(hw:wP p)(i now:Int):dC (iF n p i now)<=b+1300/\wP (iF n p i now):=by
  obtain⟨a,c⟩:=xo hb h2 hw i now;unfold iF;cases Int.tmod now (n:Int)==i
  · exact⟨by simp only[RL];omega,c⟩
  · have:=OL (kG p i now) now;exact⟨by simp only[RM];omega,P0 c now⟩
theorem EH:∀{l:List bh} {ts:List (List dj)},ts.map List.length=(fp l).map List.length->(eW l ts).length=l.length/\∀q,q∈eW l ts->∃p,p∈l/\dC q=dC p/\q.py=p.py
  | [],[],_=>⟨rfl,fun _ h=>absurd h (by simp[eW])⟩
  | [],_::_,h=>by simp[fp]at h
  | _::_,[],h=>by simp[fp]at h
  | p::l,t::ts,h=>by
    simp only[fp,List.map_cons,List.cons.injEq]at h;obtain⟨i1,i2⟩:=EH (l:=l) (ts:=ts) h.2;refine⟨by show(jV p t::eW l ts).length=_;simp[i1],fun q hq=>?_⟩
    rcases List.mem_cons.1 (show q∈jV p t::eW l ts from hq)with rfl|hq
    · exact⟨p,List.mem_cons_self,by unfold dC jV;simp only[h.1],rfl⟩
    · obtain⟨y,hy,e⟩:=i2 q hq;exact⟨y,List.mem_cons_of_mem _ hy,e⟩
theorem yB(w:dh)(p:Int):(dy w p).RB=w.RB/\(dy w p).parts.length=w.parts.length/\∀q,q∈(dy w p).parts->∃p,p∈w.parts/\dC q=dC p/\q.py=p.py:=by
  unfold dy;split
  · refine⟨rfl,EH ?_⟩;have h:(lM (ft w.parts) p (nth w.parts p).db).map (fun t=>t.RH.length)=(ft w.parts).map (fun t=>t.RH.length):=ub p (nth w.parts p).db (ft w.parts);unfold eN;rw[List.map_map];refine Eq.trans (show _=(lM (ft w.parts) p (nth w.parts p).db).map (fun t=>t.RH.length) from rfl) (h.trans ?_);unfold ft;rw[List.map_map];rfl
  · exact⟨rfl,rfl,fun q hq=>⟨q,hq,rfl,rfl⟩⟩
structure og (n:Nat) (k:Nat) (t:dh):Prop where
  len:t.parts.length=n
  small:n<=3
  sz:∀p,p∈t.parts->dC p<=1048576+1300*k/\wP p
theorem og.lA{n k:Nat}{t:dh}(h:og n k t)(hk:k<=3):eE dC t.parts<df:=by
  have hB:(16777216:Nat)=df:=rfl;have h1:lI dC t.parts<=(1048576+1300*3)*t.parts.length:=tP fun y hy=>Nat.le_trans (h.sz y hy).1 (by omega);have h2:=h.len;have h3:=h.small;have h4:(1048576+1300*3)*t.parts.length<=(1048576+1300*3)*3:=Nat.mul_le_mul_left _ (by omega);unfold eE;omega
theorem og.w{n k:Nat}{t:dh}(h:og n k t):wW t.parts:=fun p hp=>(h.sz p hp).2
theorem og.db{n k:Nat}{t:dh}(h:og n k t)(p:Int):og n k (dy t p):=by
  obtain⟨_,h2,h3⟩:=yB t p;refine⟨h2.trans h.len,h.small,fun q hq=>?_⟩;obtain⟨y,hy,e1,e2⟩:=h3 q hq;obtain⟨a,b⟩:=h.sz y hy;exact⟨by omega,by unfold wP at *;rw[e2];exact b⟩
theorem og.step{n k:Nat}{t:dh}(h:og n k t)(hk:k<n):og n (k+1) (gF n k t):=by
  have hT:=h.db (k:Int);have hs:=hT.small;refine⟨by show((dy t (k:Int)).parts.set k _).length=n;rw[List.length_set];exact hT.len,hT.small,fun q hq=>?_⟩
  rcases List.mem_or_eq_of_mem_set (show q∈(dy t (k:Int)).parts.set k _ from hq)with h1|h1
  · obtain⟨a,b⟩:=hT.sz q h1;exact⟨by omega,b⟩
  · subst h1;have hl:=hT.len;obtain⟨a,b⟩:=hT.sz _ (gg (l:=(dy t (k:Int)).parts) (i:=(k:Int)) (by omega) (by omega));obtain⟨c,d⟩:=wK (n:=n) a (by omega) b (k:Int) (dy t (k:Int)).RB;exact⟨by omega,d⟩
theorem DO{N:Nat}(hN:df<=N){w:dh}{body:Int×Int×List bh->Option ((Int×Int×List bh)⊕(Int×Int×List bh))}(h0:og w.parts.length 0 (dh.mk (i64.wrap (w.RB+1)) w.parts))
    (hs:∀(k:Nat) (t:dh),k<w.parts.length->k<df->og w.parts.length k t->body ((k:Int),t.RB,t.parts)=some (.inl (((k+1:Nat):Int),(gF w.parts.length k t).RB,(gF w.parts.length k t).parts)))
    (he:∀t:dh,og w.parts.length w.parts.length t->body ((w.parts.length:Int),t.RB,t.parts)=some (.inr ((w.parts.length:Int),t.RB,t.parts))) :
    iter body N (0,i64.wrap (w.RB+1),w.parts)=some ((w.parts.length:Int),(foldI (fun k t (_:bh)=>gF w.parts.length k t) 0 (dh.mk (i64.wrap (w.RB+1)) w.parts) w.parts).RB,(foldI (fun k t (_:bh)=>gF w.parts.length k t) 0 (dh.mk (i64.wrap (w.RB+1)) w.parts) w.parts).parts):=by
  have hB:(16777216:Nat)=df:=rfl;have h3:=h0.small
  exact gz w.parts (fun(k:Nat) (t:dh)=>((k:Int),t.RB,t.parts)) (fun k t _=>gF w.parts.length k t) (fun t=>((w.parts.length:Int),t.RB,t.parts)) (og w.parts.length)
    (fun k t y _ hk hI=>⟨hs k t hk (by omega) hI,hI.step hk⟩) he (Nat.lt_of_lt_of_le (show w.parts.length<df by omega) hN) h0
theorem Oz{n:Int}(h:n ≠ 0):dz n=some ():=by unfold dz;rw[if_neg h]
theorem B5{w:dh}(h:eI w=true):1<=w.parts.length/\w.parts.length<=3/\0<=w.RB/\w.RB<=1000000:=by
  unfold eI at h;simp only[RP,dI]at h;omega
theorem N1{N:Nat}(hN:df<=N){w:dh}(hb:eE dC w.parts<df)(hW:wW w.parts)(hT0:eI w=true->og w.parts.length 0 (dh.mk (i64.wrap (w.RB+1)) w.parts)):vw N w=some (tick w):=by
  have hB:(16777216:Nat)=df:=rfl;unfold vw tick;simp only[rz hN hb,wx hN hb,RK,gv];cases hw:eI w
  · rfl
  cases hm:w.RB==1000000
  case true=>rfl
  obtain⟨n1,n3,_,_⟩:=B5 hw;simp only[RN,Bool.not_false,Bool.or_self,RL,Bool.and_self,if_true];rw[DO hN (hT0 hw)]
  · rfl
  · intro k t hk hkB hI;have hT:=hI.db (k:Int);have hl:=hT.len;obtain⟨a,b⟩:=hT.sz _ (gg (l:=(dy t (k:Int)).parts) (i:=(k:Int)) (by omega) (by omega));obtain⟨c,d⟩:=xo a (by omega) b (k:Int) (dy t (k:Int)).RB;have q1:=BJ (nth (dy t (k:Int)).parts (k:Int)) (dy t (k:Int)).RB;have q2:=BF (fI (nth (dy t (k:Int)).parts (k:Int)) (dy t (k:Int)).RB) (k:Int) (dy t (k:Int)).RB
    simp only[ei hk,RM,show dh.mk t.RB t.parts=t from rfl,Jm hN (hI.lA (by omega)),RK,eK (l:=(dy t (k:Int)).parts) (i:=(k:Int)) (by omega) (by omega),
      Iw hN (p:=nth (dy t (k:Int)).parts (k:Int)) (by omega),IK hN (p:=fI (nth (dy t (k:Int)).parts (k:Int)) (dy t (k:Int)).RB) (by omega)]
    have e1:=Dt hN (p:=gx (fI (nth (dy t (k:Int)).parts (k:Int)) (dy t (k:Int)).RB) (k:Int) (dy t (k:Int)).RB) (by omega) (By (yy b _) _ _) (dy t (k:Int)).RB 3;have e2:=JV hN (p:=kG (nth (dy t (k:Int)).parts (k:Int)) (k:Int) (dy t (k:Int)).RB) (by omega) (dy t (k:Int)).RB;unfold kG at e2;have e3:((k:Int)==Int.tmod (dy t (k:Int)).RB (w.parts.length:Int))=(Int.tmod (dy t (k:Int)).RB (w.parts.length:Int)==(k:Int)):=Bool.beq_comm ..;refine Eq.trans (congrArg (fun x=>Option.bind x _) e1) ?_;simp only[RK,Oz (show(w.parts.length:Int) ≠ 0 by omega),e2,e3,eB hkB];unfold gF iF kG;generalize iy (fX (gx (fI (nth (dy t (k:Int)).parts (k:Int)) (dy t (k:Int)).RB) (k:Int) (dy t (k:Int)).RB) (dy t (k:Int)).RB 3).1 (dy t (k:Int)).RB=R;generalize fX (gx (fI (nth (dy t (k:Int)).parts (k:Int)) (dy t (k:Int)).RB) (k:Int) (dy t (k:Int)).RB) (dy t (k:Int)).RB 3=C;have hid:=eK (l:=(dy t (k:Int)).parts) (i:=(k:Int)) (by omega) (by omega);generalize dy t (k:Int)=X at hid⊢;cases Int.tmod X.RB (w.parts.length:Int)==(k:Int)
    · simp only[RL,RK,hid,Int.toNat_natCast]
    · simp only[RM,RK,hid,Int.toNat_natCast]
  · intro t _;simp only[ep,RL]
theorem NU{N:Nat}(hN:df<=N){w:dh}(hb:eE dC w.parts<df)(hW:wW w.parts)(hT0:eI w=true->og w.parts.length 0 (dh.mk (i64.wrap (w.RB+1)) w.parts)):vL N w=some (tick w):=by
  have hB:(16777216:Nat)=df:=rfl;unfold vL tick;simp only[uz hN hb,wz hN hb hW,RK,gv];cases hw:eI w
  · rfl
  obtain⟨n1,n3,m0,m1⟩:=B5 hw
  have hge:decide (w.RB>=1000000)=(w.RB==1000000):=by
    by_cases h:w.RB=1000000
    · simp[h]
    · rw[decide_eq_false (by omega)];simp[h]
  rw[hge];cases hm:w.RB==1000000
  case true=>rfl
  simp only[RN,Bool.not_false,Bool.or_self,RL,Bool.and_self,if_true];rw[DO hN (hT0 hw)]
  · rfl
  · intro k t hk hkB hI;have hT:=hI.db (k:Int);have hl:=hT.len;have hl2:=hI.len;obtain⟨a,b⟩:=hT.sz _ (gg (l:=(dy t (k:Int)).parts) (i:=(k:Int)) (by omega) (by omega));obtain⟨c,d⟩:=xo a (by omega) b (k:Int) (dy t (k:Int)).RB;have q1:=BJ (nth (dy t (k:Int)).parts (k:Int)) (dy t (k:Int)).RB;have q2:=BF (fI (nth (dy t (k:Int)).parts (k:Int)) (dy t (k:Int)).RB) (k:Int) (dy t (k:Int)).RB
    simp only[hl2,ei hk,RM,show dh.mk t.RB t.parts=t from rfl,Jr hN (hI.lA (by omega)) hI.w,RK,eK (l:=(dy t (k:Int)).parts) (i:=(k:Int)) (by omega) (by omega),
      JB hN (p:=nth (dy t (k:Int)).parts (k:Int)) (by omega) b]
    have e0:=Ju hN (p:=fI (nth (dy t (k:Int)).parts (k:Int)) (dy t (k:Int)).RB) (by omega) (yy b _) (k:Int) (dy t (k:Int)).RB;have e1:=Dr hN (p:=gx (fI (nth (dy t (k:Int)).parts (k:Int)) (dy t (k:Int)).RB) (k:Int) (dy t (k:Int)).RB) (by omega) (By (yy b _) _ _) (dy t (k:Int)).RB 3;have e2:=KP hN (p:=kG (nth (dy t (k:Int)).parts (k:Int)) (k:Int) (dy t (k:Int)).RB) (by omega) d (dy t (k:Int)).RB;unfold kG at e2;refine Eq.trans (congrArg (fun x=>Option.bind x _) e0) ?_;simp only[RK,e1,hl,Oz (show(w.parts.length:Int) ≠ 0 by omega),e2,eB hkB];unfold gF iF kG;generalize iy (fX (gx (fI (nth (dy t (k:Int)).parts (k:Int)) (dy t (k:Int)).RB) (k:Int) (dy t (k:Int)).RB) (dy t (k:Int)).RB 3).1 (dy t (k:Int)).RB=R;generalize fX (gx (fI (nth (dy t (k:Int)).parts (k:Int)) (dy t (k:Int)).RB) (k:Int) (dy t (k:Int)).RB) (dy t (k:Int)).RB 3=C;have hid:=eK (l:=(dy t (k:Int)).parts) (i:=(k:Int)) (by omega) (by omega);generalize dy t (k:Int)=X at hid⊢;cases Int.tmod X.RB (w.parts.length:Int)==(k:Int)
    · simp only[RL,RK,hid,Int.toNat_natCast]
    · simp only[RM,RK,hid,Int.toNat_natCast]
  · intro t ht;simp only[ht.len,ep,RL]
theorem O0{t:List dj}{f:Int}{a:de}(h:(eD t f a).2=false):(eD t f a).1=t:=by
  unfold eD at h⊢;split
  · rename_i q;rw[if_pos q]at h;split
    · rename_i q2;rw[if_pos q2]at h;cases h
    · rfl
  · rfl
theorem tV{t:List dj}{f:Int}{a:de}(h:(eD t f a).2=true):fk t=true/\eh t f=true:=by
  unfold eD at h;split at h
  · rename_i q;simpa using q
  · cases h
theorem ED(t:List dj)(f:Int)(a:de):(eD t f a).1.map dj.RC=t.map dj.RC:=by
  unfold eD;split
  · rename_i q;simp only[RP]at q;obtain⟨f0,f4⟩:=gM q.2;have hl:=nV q.1;split
    · rw[List.map_set];refine kJ ?_;rw[List.getElem?_map,fV f0 (by omega)];rfl
    · rfl
  · rfl
def tf:Nat->List Bool->Option Nat
  | _,[]=>none
  | k,b::l=>if b then tf (k+1) l else some k
theorem Hj{ρ:Type}(g:Nat->ρ)(r:ρ):∀(l:List dj) (k:Nat),jL (fun k (_:Unit) (y:dj)=>if y.RC then .inl ()else .inr (g k)) (fun _=>r) k () l=(match tf k (l.map dj.RC)with|none=>r|some k=>g k)
  | [],k=>rfl
  | y::l,k=>by
    unfold jL;simp only[List.map_cons,tf];cases y.RC
    · rfl
    · exact Hj g r l (k+1)
theorem EB{ρ:Type}{N:Nat}(hN:df<=N){x:List dj}(hx:x.length<df)(g:Nat->ρ)(r:ρ){body:Int->Option (Int⊕ρ)}
    (hs:∀(k:Nat) (y:dj),x[k]?=some y->k<x.length->body (k:Int)=some (if y.RC then .inl ((k+1:Nat):Int)else .inr (g k))) (he:body (x.length:Int)=some (.inr r)) :
    iter body N 0=some (match tf 0 (x.map dj.RC)with|none=>r|some k=>g k):=by
  rw[show(0:Int)=(fun(k:Nat) (_:Unit)=>(k:Int)) 0 () from rfl,
    ku x (fun(k:Nat) (_:Unit)=>(k:Int)) (fun k _ y=>if y.RC then .inl ()else .inr (g k)) (fun _=>r) (fun _ _=>True) ?_ ?_ (Nat.lt_of_lt_of_le hx hN) trivial,Hj]
  · intro k _ y hy hk _;refine⟨?_,fun _ _=>trivial⟩
    show body (k:Int)=_
    rw[hs k y hy hk];cases y.RC<;>rfl
  · intro _ _;exact he
def iq(t:List dj)(f:Int)(a:de):List dj×Int×Bool :=
  if(eD t f a).2 then(match tf 0 (t.map dj.RC)with|none=>(t,0,false)|some k=>((eD t f a).1.set k (dj.mk true f a),(k:Int),true))else(t,0,false)
theorem Dz(t:List dj)(f:Int)(a:de):(iq t f a).1.length=t.length:=by
  unfold iq;split
  · split
    · rfl
    · simp only[List.length_set,i7]
  · rfl
theorem GV{N:Nat}(hN:df<=N){t:List dj}(hB:t.length<df)(f:Int)(a:de):oQ N t f a=some (iq t f a):=by
  unfold oQ iq;simp only[uq hN hB,RK];cases h:(eD t f a).2
  · simp only[Bool.not_false,RM,O0 h,Bool.false_eq_true,if_false]
  simp only[RN,RL,if_true];rw[EB hN hB (fun k=>Sum.inr ((eD t f a).1.set k (dj.mk true f a),(k:Int),true)) (Sum.inl (t.length:Int))]
  · simp only[RK];cases tf 0 (t.map dj.RC)
    · simp only[Sum.elim_inl,mV hB,RK]
    · rfl
  · intro k y hy hk;have hp:=i7 t f a;simp only[ei hk,RM,dM,hy,RK,eB (Nat.lt_trans hk hB),Int.toNat_natCast];cases y.RC
    · have:((eD t f a).1[k]?)=some ((eD t f a).1[k]'(by omega)):=List.getElem?_eq_getElem (by omega);simp only[this,Bool.not_false,RM,RK,Bool.false_eq_true,if_false]
    · simp only[RN,RL,if_true]
  · simp only[ep,RL]
theorem GL{N:Nat}(hN:df<=N){t:List dj}(hB:t.length<df)(f:Int)(a:de):oS N t f a=some (iq t f a):=by
  unfold oS iq;simp only[sm hN hB,RK];cases h:(eD t f a).2
  · simp only[Bool.not_false,RM,nj hB,RK,Bool.false_eq_true,if_false]
  have hp:=i7 t f a;simp only[RN,RL,if_true];rw[EB (x:=(eD t f a).1) hN (by omega) (fun k=>Sum.inr ((eD t f a).1.set k (dj.mk true f a),(k:Int),true)) (Sum.inl ((eD t f a).1.length:Int)),ED]
  · simp only[RK];cases tf 0 (t.map dj.RC)
    · simp only[Sum.elim_inl,nj hB,RK]
    · rfl
  · intro k y hy hk;simp only[ei hk,RM,dM,hy,RK,eB (show k<df by omega),Int.toNat_natCast];cases y.RC<;>rfl
  · simp only[ep,RL]
def jh(t:List dj)(f g:Int)(a:de):List dj×Bool:=if(eD t f a).2&&eh t g then iW (eD t f a).1 g a else(t,false)
theorem D0(t:List dj)(f g:Int)(a:de):(jh t f g a).1.length=t.length:=by
  unfold jh;split
  · rw[vP,i7]
  · rfl
theorem Ik{N:Nat}(hN:df<=N){t:List dj}(hB:t.length<df)(f g:Int)(a:de):qf N t f g a=some (jh t f g a):=by
  unfold qf jh;have hp:=i7 t f a;simp only[uq hN hB,RK];cases h:(eD t f a).2
  · simp only[Bool.not_false,RM,mV hB,RK,Bool.false_and,Bool.false_eq_true,if_false]
  have hl:=nV (tV h).1;simp only[RN,RL,pR N hl,RK,RO];cases eh t g
  · simp only[Bool.not_false,RM,mV hB,RK,Bool.false_eq_true,if_false]
  · simp only[RN,RL,if_true,xC hN (show(eD t f a).1.length<df by omega),RK]
theorem I7{N:Nat}(hN:df<=N){t:List dj}(hB:t.length<df)(f g:Int)(a:de):qc N t f g a=some (jh t f g a):=by
  unfold qc jh;have hp:=i7 t f a;simp only[r8 hN,sm hN hB,RK];cases h:(eD t f a).2
  · cases fk t&&eh t g<;>simp only[Bool.not_false,RN,RM,RL,nj hB,RK,Bool.false_and,Bool.false_eq_true,if_false]
  rw[(tV h).1];simp only[RO];cases eh t g
  · simp only[Bool.not_false,RM,nj hB,RK,Bool.false_eq_true,if_false]
  · simp only[RN,RL,if_true,xD hN (show(eD t f a).1.length<df by omega),RK]
theorem Kr{t:List dj}(h:Tr t){i:Int}(hv:eh t i=true)(hi:i ≠ 0):0<=up t i/\up t i<=4/\up t i ≠ i/\(nth t (up t i)).RC=true:=by
  obtain⟨i0,i4⟩:=gM hv;have hl:=h.len;have hg:=fV (l:=t) i0 (by omega)
  have hlv:(nth t i).RC=true:=by
    unfold eh at hv;simp only[RP]at hv;exact hv.2
  have h1:=h.lead i.toNat (nth t i) hg hlv;rw[show((i.toNat:Nat):Int)=i by omega]at h1
  have hne:up t i ≠ i:=fun q=>by rw[z4 hi q]at h1;cases h1
  have h2:leads t 4 (up t i)=true:=by
    unfold leads at h1;simpa[hi,hv]using h1
  by_cases hu:up t i=0
  · rw[hu];exact⟨by omega,by omega,fun q=>hi q.symm,h.pA⟩
  · unfold leads at h2
    have h3:eh t (up t i)=true:=by
      cases q:eh t (up t i)
      · simp[hu,q]at h2
      · rfl
    obtain⟨a,b⟩:=gM h3;unfold eh at h3;simp only[RP]at h3;exact⟨a,b,hne,h3.2⟩
def uS(s:de)(B:Int):Prop:=(0<=s.cd/\s.cd<=B)/\(0<=s.dg/\s.dg<=B)/\(0<=s.dn/\s.dn<=B)
theorem yQ{s a:de}{B:Int}(hs:uS s B)(ha:dP a=true)(hB:B<=1000000000):(dU s a).cd=s.cd+a.cd/\(dU s a).dg=s.dg+a.dg/\(dU s a).dn=s.dn+a.dn/\uS (dU s a) (B+1000000):=by
  have h:=eA.1 ha;unfold uS at hs;have w1:(dU s a).cd=s.cd+a.cd:=dB (by omega) (by omega);have w2:(dU s a).dg=s.dg+a.dg:=dB (by omega) (by omega);have w3:(dU s a).dn=s.dn+a.dn:=dB (by omega) (by omega);exact⟨w1,w2,w3,⟨by omega,by omega⟩,⟨by omega,by omega⟩,⟨by omega,by omega⟩⟩
theorem Aw:∀(t:List dj) (s:de) (B:Int),(∀r,r∈t->dP r.dO=true)->0<=B->B+1000000*(t.length:Int)<=1000000000->uS s B->∀(k:Nat) (r:dj),t[k]?=some r->r.RC=true ->
    s.cd+r.dO.cd<=(eU s t).cd/\s.dg+r.dO.dg<=(eU s t).dg/\s.dn+r.dO.dn<=(eU s t).dn
  | [],s,B,_,_,_,_,k,r,hr,_=>by simp at hr
  | x::t,s,B,h,hB,hL,hs,k,r,hr,hv=>by
    have hx:=h x (by simp);simp only[List.length_cons]at hL;obtain⟨w1,w2,w3,w4⟩:=yQ hs hx (by omega);have hx':=eA.1 hx;have e:eU s (x::t)=eU (if x.RC then dU s x.dO else s) t:=rfl;rw[e];have ht:∀r,r∈t->dP r.dO=true:=fun r hr=>h r (by simp[hr])
    match k with
    | 0 =>
      simp only[List.getElem?_cons_zero,Option.some.injEq]at hr;subst hr;rw[if_pos hv];obtain⟨⟨a1,a2,a3⟩,_⟩:=qG t (dU s x.dO) (B+1000000) ht (by omega) (by omega) w4.1 w4.2.1 w4.2.2;exact⟨by omega,by omega,by omega⟩
    | k+1 =>
      rw[List.getElem?_cons_succ]at hr;cases hxl:x.RC
      · exact Aw t s B ht hB (by omega) hs k r hr hv
      · obtain⟨a1,a2,a3⟩:=Aw t (dU s x.dO) (B+1000000) ht (by omega) (by omega) w4 k r hr hv;rw[if_pos rfl];exact⟨by omega,by omega,by omega⟩
theorem xJ:∀(t:List dj) (s:de) (B:Int),(∀r,r∈t->dP r.dO=true)->0<=B->B+1000000*(t.length:Int)<=1000000000->uS s B->∀(k j:Nat) (r q:dj),k<j->t[k]?=some r->r.RC=true->t[j]?=some q->q.RC=true ->
    r.dO.cd+q.dO.cd<=(eU s t).cd/\r.dO.dg+q.dO.dg<=(eU s t).dg/\r.dO.dn+q.dO.dn<=(eU s t).dn
  | [],s,B,_,_,_,_,k,j,r,q,_,hr,_,_,_=>by simp at hr
  | x::t,s,B,h,hB,hL,hs,k,j,r,q,hkj,hr,hv,hq,hw=>by
    have hx:=h x (by simp);simp only[List.length_cons]at hL;obtain⟨w1,w2,w3,w4⟩:=yQ hs hx (by omega);have e:eU s (x::t)=eU (if x.RC then dU s x.dO else s) t:=rfl;rw[e];have ht:∀r,r∈t->dP r.dO=true:=fun r hr=>h r (by simp[hr]);unfold uS at hs
    match k,j,hkj with
    | 0,j+1,_ =>
      simp only[List.getElem?_cons_zero,Option.some.injEq]at hr;subst hr;rw[List.getElem?_cons_succ]at hq;rw[if_pos hv];obtain⟨a1,a2,a3⟩:=Aw t (dU s x.dO) (B+1000000) ht (by omega) (by omega) w4 j q hq hw;exact⟨by omega,by omega,by omega⟩
    | k+1,j+1,hkj =>
      rw[List.getElem?_cons_succ]at hr hq;cases hxl:x.RC
      · exact xJ t s B ht hB (by omega) hs k j r q (by omega) hr hv hq hw
      · rw[if_pos rfl];exact xJ t (dU s x.dO) (B+1000000) ht (by omega) (by omega) w4 k j r q (by omega) hr hv hq hw
theorem Hz{t:List dj}(h:Tr t){u i:Int}(hu:0<=u/\u<=4)(hi:0<=i/\i<=4)(hne:u ≠ i)(h1:(nth t u).RC=true)(h2:(nth t i).RC=true):fH (nth t u).dO (nth t i).dO=(dU (nth t u).dO (nth t i).dO,true):=by
  have hl:=h.len
  have z:uS ⟨0,0,0⟩ 0:=by unfold uS;decide
  have hS:=eA.1 h.sum;have gu:=fV (l:=t) (i:=u) hu.1 (by omega);have gi:=fV (l:=t) (i:=i) hi.1 (by omega);have bu:=h.dO _ (List.mem_of_getElem? gu);have bi:=h.dO _ (List.mem_of_getElem? gi);have bu':=eA.1 bu;have bi':=eA.1 bi
  have key:(nth t u).dO.cd+(nth t i).dO.cd<=(eU ⟨0,0,0⟩ t).cd/\(nth t u).dO.dg+(nth t i).dO.dg<=(eU ⟨0,0,0⟩ t).dg/\(nth t u).dO.dn+(nth t i).dO.dn<=(eU ⟨0,0,0⟩ t).dn:=by
    rcases Int.lt_or_gt_of_ne hne with q|q
    · exact xJ t ⟨0,0,0⟩ 0 h.dO (by omega) (by omega) z u.toNat i.toNat _ _ (by omega) gu h1 gi h2
    · obtain⟨a,b,c⟩:=xJ t ⟨0,0,0⟩ 0 h.dO (by omega) (by omega) z i.toNat u.toNat _ _ (by omega) gi h2 gu h1;exact⟨by omega,by omega,by omega⟩
  have v1:(dU (nth t u).dO (nth t i).dO).cd=(nth t u).dO.cd+(nth t i).dO.cd:=dB (by omega) (by omega);have v2:(dU (nth t u).dO (nth t i).dO).dg=(nth t u).dO.dg+(nth t i).dO.dg:=dB (by omega) (by omega);have v3:(dU (nth t u).dO (nth t i).dO).dn=(nth t u).dO.dn+(nth t i).dO.dn:=dB (by omega) (by omega);have:dP (dU (nth t u).dO (nth t i).dO)=true:=eA.2 ⟨by omega,by omega,by omega⟩;unfold fH;rw[bu,bi,this];rfl
def jl(i u:Int)(r:dj):dj:=if r.RC&&(r.RE==i)then dj.mk r.RC u r.dO else r
def dropped(t:List dj)(i:Int):List dj:=(t.set (up t i).toNat (jr (nth t (up t i)) (dU (nth t (up t i)).dO (nth t i).dO))).set i.toNat kh
def ji(t:List dj)(i:Int):List dj×Bool:=if(fk t&&eh t i)&&(i != 0)then((dropped t i).map (jl i (up t i)),true)else(t,false)
theorem EI(t:List dj)(i:Int):(ji t i).1.length=t.length:=by
  unfold ji dropped;split<;>simp
theorem Jq{N:Nat}(hN:df<=N){t:List dj}(hB:t.length<df)(i:Int):pZ N t i=some (ji t i):=by
  unfold pZ ji;simp only[nj hB,r8 hN,RK,gv];cases h:(fk t&&eh t i)
  · rfl
  simp only[RP]at h;have hT:=fc.1 h.1;have hl:=hT.len;cases hi:(i==0)
  case true=>simp only[RN,Bool.or_true,RM,RO,bne,hi,Bool.false_eq_true,if_false]
  have hi':i ≠ 0:=by simpa using hi
  obtain⟨i0,i4⟩:=gM h.2;obtain⟨u0,u4,une,ulv⟩:=Kr hT h.2 hi'
  have ilv:(nth t i).RC=true:=by
    have:=h.2;unfold eh at this;simp only[RP]at this;exact this.2
  have eu:idx t (nth t i).RE=some (nth t (up t i)):=eK (i:=up t i) u0 (by omega);have ff:=Hz hT ⟨u0,u4⟩ ⟨i0,i4⟩ une ulv ilv;have e2:∀z,idx (t.set (nth t i).RE.toNat z) i=some (nth (t.set (nth t i).RE.toNat z) i):=fun z=>eK i0 (by simp only[List.length_set];omega);simp only[RN,Bool.or_false,RL,eK (l:=t) i0 (by omega),eu,vK,ff,RK,e2,bne,hi,Bool.not_false,Bool.and_self,if_true];rw[show(((t.set (nth t i).RE.toNat (dj.mk (nth t (up t i)).RC (nth t (up t i)).RE (de.mk (dU (nth t (up t i)).dO (nth t i).dO).cd (dU (nth t (up t i)).dO (nth t i).dO).dg (dU (nth t (up t i)).dO (nth t i).dO).dn))).set i.toNat (dj.mk false 0 (de.mk 0 0 0))))=dropped t i from rfl];rw[r7 (dropped t i) (jl i (up t i)) (show(dropped t i).length<N by unfold dropped;simp only[List.length_set];omega)]
  · rfl
  · intro k x y hx hty _ hk
    have hk':k<x.length:=by omega
    have hk2:k<t.length:=by unfold dropped at hk;simp only[List.length_set]at hk;omega
    simp only[ei hk',RM,dM,hty,RK,iB,eB (show k<df by omega),Int.toNat_natCast];unfold jl;cases(y.RC&&(y.RE==i))
    · simp only[RL,Bool.false_eq_true,if_false,kJ hty]
    · simp only[RM,if_true];rfl
  · intro x hx;rw[<- hx];simp only[ep,RL]
theorem I4{N:Nat}(hN:df<=N){t:List dj}(hB:t.length<df)(i:Int):qm N t i=some (ji t i):=by
  unfold qm ji;simp only[mV hB,pH hN,RK];cases ht:fk t
  · rfl
  have hT:=fc.1 ht;have hl:=hT.len;cases hi:(i==0)
  case true=>simp only[RN,RL,RM,RK,RO,bne,hi,Bool.and_false,Bool.false_eq_true,if_false]
  have hi':i ≠ 0:=by simpa using hi
  simp only[RN,RL,pR N hl,RK];cases hv:eh t i
  · rfl
  obtain⟨i0,i4⟩:=gM hv;obtain⟨u0,u4,une,ulv⟩:=Kr hT hv hi';have eu:idx t (nth t i).RE=some (nth t (up t i)):=eK (i:=up t i) u0 (by omega);have e2:∀z,idx (t.set (nth t i).RE.toNat z) i=some (nth (t.set (nth t i).RE.toNat z) i):=fun z=>eK i0 (by simp only[List.length_set];omega);simp only[RN,RL,eK (l:=t) i0 (by omega),eu,sk,RK,e2,bne,hi,Bool.not_false,Bool.and_self,if_true];rw[show(((t.set (nth t i).RE.toNat (dj.mk (nth t (up t i)).RC (nth t (up t i)).RE (dU (nth t (up t i)).dO (nth t i).dO))).set i.toNat (dj.mk false 0 (de.mk 0 0 0))))=dropped t i from rfl];rw[r7 (dropped t i) (jl i (up t i)) (show(dropped t i).length<N by unfold dropped;simp only[List.length_set];omega)]
  · rfl
  · intro k x y hx hty _ hk
    have hk':k<t.length:=by unfold dropped at hk;simp only[List.length_set]at hk;omega
    simp only[ei hk',RM,dM,hty,RK,iB,eB (show k<df by omega),Int.toNat_natCast];unfold jl;cases(y.RC&&(y.RE==i))
    · simp only[RL,Bool.false_eq_true,if_false,kJ hty]
    · simp only[RM,if_true];rfl
  · intro x hx;rw[show(dropped t i).length=t.length by unfold dropped;simp only[List.length_set]];simp only[ep,RL]
end Go.Kx
