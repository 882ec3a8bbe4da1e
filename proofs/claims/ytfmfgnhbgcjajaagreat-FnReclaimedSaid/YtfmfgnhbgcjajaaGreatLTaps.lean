import Derived.Test.YtfmfgnhbgcjajaaGreatLCollect
namespace Go.Kx
open Go
open Go.IntKind (i64)
set_option linter.unusedVariables false
set_option linter.unusedSimpArgs false
set_option maxRecDepth 10000
theorem Db{N:Nat}(hN:dg<=N){w:List bh}(hl:w.length<dg){F:bh->Option bh}(hF:∀y,y∈w->F y=some y):
    iter (fun(s8:Int×(List bh))=>(bif(decide (s8.1<(w.length:Int)))then((idx w s8.1).bind fun y11=>(F y11).bind fun y41=>(app s8.2 [y41]).bind fun y57=>some (.inl (i64.wrap (s8.1+1),y57)))else(some (.inr (s8.1,s8.2))):Option ((Int×(List bh))⊕(Int×(List bh))))) N (0,[])=some ((w.length:Int),w):=by
  have e:∀(l:List bh) (k:Nat) (acc:List bh),foldI (fun _ (acc:List bh) y=>acc++[y]) k acc l=acc++l:=by
    intro l
    induction l with
    | nil=>intro k acc;simp[foldI]
    | cons y l ih=>intro k acc;unfold foldI;rw[ih];simp
  rw[show((0:Int),([]:List bh))=(fun(k:Nat) (t:List bh)=>((k:Int),t)) 0 [] from rfl,
    gC w (fun(k:Nat) (t:List bh)=>((k:Int),t)) (fun _ acc y=>acc++[y]) (fun t=>((w.length:Int),t)) (fun k t=>t.length<=k) ?_ ?_ (Nat.lt_of_lt_of_le hl hN) (by simp),e]
  · simp
  · intro k t y hy hk ht;refine⟨?_,by simp;omega⟩;simp only[eD hk,RD,dQ,hy,RB,hF y (List.mem_of_getElem? hy),eL (Nat.lt_trans hk hl),gE ht (Nat.lt_of_le_of_lt hk hl)]
  · intro t _;simp only[eE,RC]
theorem rA{N:Nat}(hN:dg<=N){w:dq}(hb:eQ dH w.parts<dg):j8 N w=some w:=by
  unfold j8;rw[Db hN (gW hb) fun y hy=>oH hN (fN hb hy)];rfl
theorem uJ{N:Nat}(hN:dg<=N){w:dq}(hb:eQ dH w.parts<dg):lr N w=some w:=by
  unfold lr;rw[Db hN (gW hb) fun y hy=>pZ hN (fN hb hy)];rfl
theorem CG{N:Nat}(hN:dg<=N){w:List dU}(hl:w.length<dg){F:List dp->Option (List dp)}(hF:∀y,y∈w->F y.Ry=some y.Ry):
    iter (fun(s4:(List dU)×Int)=>(bif(decide (s4.2<(w.length:Int)))then((idx w s4.2).bind fun y7=>(F y7.Ry).bind fun y22=>(app s4.1 [dU.mk y22]).bind fun y26=>some (.inl (y26,i64.wrap (s4.2+1))))else(some (.inr (s4.1,s4.2))):Option (((List dU)×Int)⊕((List dU)×Int)))) N ([],0)=some (w,(w.length:Int)):=by
  rw[kQ w (fun _ _=>true) (fun _ y=>y) hl hN]
  · rw[lI (fun _=>true) w 0];simp
  · intro k t y hy hk ht;simp only[eD hk,RD,dQ,hy,RB,hF y (List.mem_of_getElem? hy),eL (Nat.lt_trans hk hl),gE ht (Nat.lt_of_le_of_lt hk hl),if_true]
  · intro t;simp only[eE,RC]
def n8(ts:List dU):Prop:=ts.length<dg/\∀t,t∈ts->t.Ry.length<dg
theorem Gy{N:Nat}(hN:dg<=N){ts:List dU}(h:n8 ts):mY N ts=some ts:=by
  unfold mY;rw[CG hN h.1 fun y hy=>nn (h.2 y hy)];rfl
theorem Mb{N:Nat}(hN:dg<=N){ts:List dU}(h:n8 ts):qV N ts=some ts:=by
  unfold qV;rw[CG hN h.1 fun y hy=>nG (h.2 y hy)];rfl
def iW(a:de)(w:Int):Int:=if w==0 then a.c6 else if w==1 then a.dh else if w==2 then a.du else 0
theorem CC(N:Nat)(a:de)(w:Int):pb N a w=some (iW a w):=by
  unfold pb iW;cases w==0<;>cases w==1<;>cases w==2<;>rfl
theorem Cs(N:Nat)(a:de)(w:Int):pw N a w=some (iW a w):=by
  unfold pw iW;cases w==0<;>cases w==1<;>cases w==2<;>rfl
def k8(t:ez)(n:Int):Int:=if t.so==1 then(if n<t.kr then n else t.kr)else i64.wrap (Int.tdiv (i64.wrap (t.kr*n)) 100)
def qK(t:ez)(a:de):Int:=if ig t&&dT a then k8 t (iW a t.iG)else 0
theorem Jz(N:Nat)(t:ez)(a:de):rj N t a=some (qK t a):=by
  unfold rj qK k8;simp only[zp,pD,RB,gX,CC];cases ig t
  · rfl
  cases dT a
  · rfl
  cases t.so==1<;>rfl
theorem KJ(N:Nat)(t:ez)(a:de):rW N t a=some (qK t a):=by
  unfold rW qK k8;simp only[zF,pC,RB,gX,Cs];cases ig t
  · rfl
  cases dT a
  · rfl
  cases t.so==1
  · simp only[RE,Bool.or_self,RC,Bool.and_self,if_true,Bool.false_eq_true,if_false];rw[Int.mul_comm]
  · simp only[RE,Bool.or_self,RC,RD,Bool.and_self,if_true];congr 1;split<;>split<;>omega
theorem AA{t:ez}{n:Int}(ht:ig t=true)(h0:0<=n)(h1:n<=1000000):0<=k8 t n/\k8 t n<=n:=by
  unfold ig at ht;simp only[RG,Bool.or_eq_true,dI,beq_iff_eq]at ht;unfold k8
  rcases ht.2 with⟨hk,r0,r1⟩|⟨hk,r0,r1⟩
  · rw[hk];simp only[beq_self_eq_true,if_true];split<;>omega
  · rw[hk,show((2:Int)==1)=false from rfl];simp only[Bool.false_eq_true,if_false];have m1:0<=t.kr*n:=Int.mul_nonneg r0 h0;have m2:t.kr*n<=100*n:=Int.mul_le_mul_of_nonneg_right r1 h0;rw[dE (n:=t.kr*n) (by omega) (by omega),Int.tdiv_eq_ediv_of_nonneg m1]
    have d0:0<=t.kr*n / 100:=by omega
    have d1:t.kr*n / 100<=n:=by omega
    rw[dE (by omega) (by omega)];exact⟨d0,d1⟩
theorem JY{t:ez}{a:de}(ht:ig t=true)(ha:dT a=true):jH (iA t.iG (qK t a)) a=true:=by
  unfold qK;rw[ht,ha];simp only[Bool.and_self,if_true];have ht':=ht;unfold ig at ht';simp only[RG,dI]at ht';have ha':=eO.1 ha
  have hw:t.iG=0\/t.iG=1\/t.iG=2:=by omega
  unfold jH;rw[ha]
  rcases hw with e|e|e<;>rw[e]
  · obtain⟨q0,q1⟩:=AA ht (n:=iW a 0) ha'.1.1 ha'.1.2;have q2:k8 t (iW a 0)<=a.c6:=q1;have:dT (iA 0 (k8 t (iW a 0)))=true:=eO.2 (show(0<=k8 t (iW a 0)/\k8 t (iW a 0)<=1000000)/\(0<=(0:Int)/\(0:Int)<=1000000)/\(0<=(0:Int)/\(0:Int)<=1000000) from⟨⟨q0,by omega⟩,by decide,by decide⟩);rw[this];simp only[RF,RG,decide_eq_true_eq];exact⟨q2,ha'.2.1.1,ha'.2.2.1⟩
  · obtain⟨q0,q1⟩:=AA ht (n:=iW a 1) ha'.2.1.1 ha'.2.1.2;have q2:k8 t (iW a 1)<=a.dh:=q1;have:dT (iA 1 (k8 t (iW a 1)))=true:=eO.2 (show(0<=(0:Int)/\(0:Int)<=1000000)/\(0<=k8 t (iW a 1)/\k8 t (iW a 1)<=1000000)/\(0<=(0:Int)/\(0:Int)<=1000000) from⟨by decide,⟨q0,by omega⟩,by decide⟩);rw[this];simp only[RF,RG,decide_eq_true_eq];exact⟨ha'.1.1,q2,ha'.2.2.1⟩
  · obtain⟨q0,q1⟩:=AA ht (n:=iW a 2) ha'.2.2.1 ha'.2.2.2;have q2:k8 t (iW a 2)<=a.du:=q1;have:dT (iA 2 (k8 t (iW a 2)))=true:=eO.2 (show(0<=(0:Int)/\(0:Int)<=1000000)/\(0<=(0:Int)/\(0:Int)<=1000000)/\(0<=k8 t (iW a 2)/\k8 t (iW a 2)<=1000000) from⟨by decide,by decide,⟨q0,by omega⟩⟩);rw[this];simp only[RF,RG,decide_eq_true_eq];exact⟨ha'.1.1,ha'.2.1.1,q2⟩
def jl(ts:List dU):Bool:=ts.all fun t=>fH t.Ry
def gZ(ts:List dU)(p:Int)(t:ez):Bool :=
  jl ts&&(!decide ((ts.length:Int)>3)&&(ig t&&(dy p 0 ((ts.length:Int)-1)&&(!decide (t.fY>=(ts.length:Int))&&ei (nth ts p).Ry t.Rx))))
def ra(ts:List dU)(p:Int)(t:ez):Int:=qK t (nth (nth ts p).Ry t.Rx).dP
def ir(ts:List dU)(p:Int)(t:ez):List dU:=ts.set p.toNat (dU.mk (eI (nth ts p).Ry t.Rx (iA t.iG (ra ts p t))).1)
def kK(ts:List dU)(p:Int)(t:ez):List dp×Bool:=jM (nth (ir ts p t) t.fY).Ry t.nN (iA t.iG (ra ts p t))
def iw(ts:List dU)(p:Int)(t:ez):List dU×Int :=
  if gZ ts p t&&(kK ts p t).2 then((ir ts p t).set t.fY.toNat (dU.mk (kK ts p t).1),ra ts p t)else(ts,0)
theorem JF{ts:List dU}(h:n8 ts){k:Nat}{t:List dp}(ht:t.length<dg):n8 (ts.set k (dU.mk t)):=by
  refine⟨by rw[List.length_set];exact h.1,fun y hy=>?_⟩
  rcases List.mem_or_eq_of_mem_set hy with h1|h1
  · exact h.2 y h1
  · subst h1;exact ht
theorem zA{ts:List dU}{p:Int}(h:jl ts=true)(h0:0<=p)(h1:p<(ts.length:Int)):fH (nth ts p).Ry=true:=by
  unfold jl at h;rw[List.all_eq_true]at h;exact h _ (gy h0 h1)
theorem tC{ts:List dU}{p:Int}{t:ez}(h:gZ ts p t=true):jl ts=true/\ig t=true/\(0<=p/\p<(ts.length:Int))/\(0<=t.fY/\t.fY<(ts.length:Int))/\ei (nth ts p).Ry t.Rx=true:=by
  unfold gZ at h;simp only[RG,Bool.not_eq_true',decide_eq_false_iff_not,dI]at h;obtain⟨h1,_,h2,h3,h4,h5⟩:=h;have h2':=h2;unfold ig at h2';simp only[RG,dI]at h2';exact⟨h1,h2,⟨h3.1,by omega⟩,⟨h2'.1.2.1.1,by omega⟩,h5⟩
theorem KC{ts:List dU}{p:Int}{t:ez}(h:gZ ts p t=true):(eI (nth ts p).Ry t.Rx (iA t.iG (ra ts p t))).2=true:=by
  obtain⟨h1,h2,⟨p0,p1⟩,_,h5⟩:=tC h;have ho:=zA h1 p0 p1;obtain⟨f0,f4⟩:=hY h5
  have hb:dT (nth (nth ts p).Ry t.Rx).dP=true:=by
    have hT:=ho;have hl:=oc ho;unfold fH at hT;simp only[RG]at hT;have hP:=jL.1 hT.2.2.2.1 t.Rx.toNat _ (fO f0 (by omega))
    have hv:(nth (nth ts p).Ry t.Rx).Ru=true:=by
      unfold ei at h5;rw[RG]at h5;exact h5.2
    unfold mN at hP;rw[hv,if_pos rfl,RG]at hP;exact hP.1
  unfold eI;rw[ho,h5];simp only[Bool.and_self,if_true];rw[show jH (iA t.iG (ra ts p t)) (nth (nth ts p).Ry t.Rx).dP=true from JY h2 hb];rfl
theorem BJ{ts:List dU}(h:n8 ts){p:Int}(p0:0<=p)(p1:p<(ts.length:Int))(t:ez):n8 (ir ts p t) :=
  JF h (by rw[jD];exact h.2 _ (gy p0 p1))
theorem uk(ts:List dU)(p:Int)(t:ez):(ir ts p t).length=ts.length:=by unfold ir;rw[List.length_set]
theorem Kc{N:Nat}(hN:dg<=N){ts:List dU}(h:n8 ts)(p:Int)(t:ez):rv N ts p t=some (iw ts p t):=by
  have hl:=h.1;have hB:(16777216:Nat)=dg:=rfl;unfold rv;simp only[Gy hN h,RB];rw[gQ ts (fun _ t=>fH t.Ry) (.inl (ts.length:Int)) (.inr (ts,0)) (Nat.lt_of_lt_of_le hl hN),il]
  · simp only[RB,zp,kq,dE (n:=(ts.length:Int)-1) (by omega) (by omega)];cases h1:ts.all (fun t=>fH t.Ry)
    · have:gZ ts p t=false:=by unfold gZ jl;rw[h1];rfl
      unfold iw;rw[this];rfl
    cases h2:decide ((ts.length:Int)>3)
    case true =>
      have:gZ ts p t=false:=by unfold gZ jl;rw[h1,h2];rfl
      unfold iw;rw[this];rfl
    cases h3:ig t
    · have:gZ ts p t=false:=by unfold gZ jl;rw[h1,h2,h3];rfl
      unfold iw;rw[this];rfl
    cases h4:dy p 0 ((ts.length:Int)-1)
    · have:gZ ts p t=false:=by unfold gZ jl;rw[h1,h2,h3,h4];rfl
      unfold iw;rw[this];rfl
    cases h5:decide (t.fY>=(ts.length:Int))
    case true =>
      have:gZ ts p t=false:=by unfold gZ jl;rw[h1,h2,h3,h4,h5];rfl
      unfold iw;rw[this];rfl
    rw[dI]at h4
    have p1:p<(ts.length:Int):=by omega
    have ho:=zA (ts:=ts) h1 h4.1 p1;have h5l:=oc ho;simp only[if_true,Sum.elim_inl,RE,RC,eU (l:=ts) h4.1 p1,RB,qq N h5l];cases h6:ei (nth ts p).Ry t.Rx
    · have:gZ ts p t=false:=by unfold gZ;rw[h6];simp
      unfold iw;rw[this];rfl
    have hm:gZ ts p t=true:=by unfold gZ jl;rw[h1,h2,h3,h5,h6,dI.2 h4];rfl
    obtain⟨_,_,_,⟨q0,q1⟩,_⟩:=tC hm;obtain⟨f0,f4⟩:=hY h6
    simp only[RE,RC,eU (l:=(nth ts p).Ry) f0 (by omega),RB,Jz,xI,uD hN (h.2 _ (gy h4.1 p1)),
      show qK t (nth (nth ts p).Ry t.Rx).dP=ra ts p t from rfl,KC hm,show ts.set p.toNat (dU.mk (eI (nth ts p).Ry t.Rx (iA t.iG (ra ts p t))).1)=ir ts p t from rfl,
      eU (l:=ir ts p t) q0 (by rw[uk];exact q1),xL hN ((BJ h h4.1 p1 t).2 _ (gy q0 (by rw[uk];exact q1)))]
    unfold iw;rw[hm]
    show(bif !(kK ts p t).2 then some (ts,0)else some ((ir ts p t).set t.fY.toNat (dU.mk (kK ts p t).1),ra ts p t))=_
    cases(kK ts p t).2<;>rfl
  · intro k y hy hk;simp only[eD hk,RD,dQ,hy,RB,qe hN,eL (Nat.lt_trans hk hl)];cases fH y.Ry<;>rfl
  · simp only[eE,RC]
theorem Kk{N:Nat}(hN:dg<=N){ts:List dU}(h:n8 ts)(p:Int)(t:ez):rP N ts p t=some (iw ts p t):=by
  have hl:=h.1;have hB:(16777216:Nat)=dg:=rfl
  have hok:vO N ts=some (jl ts&&decide ((ts.length:Int)<=3)):=by
    unfold vO jl;rw[gQ ts (fun _ t=>fH t.Ry) (.inl (ts.length:Int)) (.inr false) (Nat.lt_of_lt_of_le hl hN),il]
    · cases ts.all (fun t=>fH t.Ry)<;>rfl
    · intro k y hy hk;simp only[eD hk,RD,dQ,hy,RB,vY hN,eL (Nat.lt_trans hk hl)];cases fH y.Ry<;>rfl
    · simp only[eE,RC]
  unfold rP;simp only[Mb hN h,hok,RB,zF,jK,dE (n:=(ts.length:Int)-1) (by omega) (by omega)]
  have h2e:decide ((ts.length:Int)<=3)=!decide ((ts.length:Int)>3):=by
    by_cases hc:(ts.length:Int)<=3<;>simp[hc]
    omega
  rw[h2e];cases h1:jl ts
  · have:gZ ts p t=false:=by unfold gZ;rw[h1];rfl
    unfold iw;rw[this];rfl
  cases h2:decide ((ts.length:Int)>3)
  case true =>
    have:gZ ts p t=false:=by unfold gZ;rw[h1,h2];rfl
    unfold iw;rw[this];rfl
  cases h3:ig t
  · have:gZ ts p t=false:=by unfold gZ;rw[h1,h2,h3];rfl
    unfold iw;rw[this];rfl
  cases h4:dy p 0 ((ts.length:Int)-1)
  · have:gZ ts p t=false:=by unfold gZ;rw[h1,h2,h3,h4];rfl
    unfold iw;rw[this];rfl
  cases h5:decide (t.fY>=(ts.length:Int))
  case true =>
    have:gZ ts p t=false:=by unfold gZ;rw[h1,h2,h3,h4,h5];rfl
    unfold iw;rw[this];rfl
  rw[dI]at h4
  have p1:p<(ts.length:Int):=by omega
  have ho:=zA (ts:=ts) h1 h4.1 p1;have h5l:=oc ho;simp only[RE,Bool.not_false,Bool.and_self,RC,eU (l:=ts) h4.1 p1,RB,sj hN,ho,RF];cases h6:ei (nth ts p).Ry t.Rx
  · have:gZ ts p t=false:=by unfold gZ;rw[h6];simp
    unfold iw;rw[this];rfl
  have hm:gZ ts p t=true:=by unfold gZ;rw[h1,h2,h3,h5,h6,dI.2 h4];rfl
  obtain⟨_,_,_,⟨q0,q1⟩,_⟩:=tC hm;obtain⟨f0,f4⟩:=hY h6
  simp only[RE,RC,eU (l:=(nth ts p).Ry) f0 (by omega),RB,KJ,FP,sR hN (h.2 _ (gy h4.1 p1)),
    show qK t (nth (nth ts p).Ry t.Rx).dP=ra ts p t from rfl,show ts.set p.toNat (dU.mk (eI (nth ts p).Ry t.Rx (iA t.iG (ra ts p t))).1)=ir ts p t from rfl,
    eU (l:=ir ts p t) q0 (by rw[uk];exact q1),xD hN ((BJ h h4.1 p1 t).2 _ (gy q0 (by rw[uk];exact q1)))]
  unfold iw;rw[hm]
  show(bif !(kK ts p t).2 then some (ts,0)else some ((ir ts p t).set t.fY.toNat (dU.mk (kK ts p t).1),ra ts p t))=_
  cases(kK ts p t).2<;>rfl
def lens(ts:List dU):List Nat:=ts.map fun t=>t.Ry.length
theorem Fv{ts:List dU}{k:Nat}{y:dU}{t:List dp}(hy:ts[k]?=some y)(ht:t.length=y.Ry.length):lens (ts.set k (dU.mk t))=lens ts:=by
  unfold lens;rw[List.map_set]
  show(ts.map fun t=>t.Ry.length).set k t.length=_
  rw[ht];apply kJ;rw[List.getElem?_map,hy];rfl
theorem ye(ts:List dU)(p:Int)(t:ez):lens (iw ts p t).1=lens ts:=by
  unfold iw;split
  · rename_i h;rw[RG]at h;obtain⟨_,_,⟨p0,p1⟩,⟨q0,q1⟩,_⟩:=tC h.1
    show lens ((ir ts p t).set t.fY.toNat (dU.mk (kK ts p t).1))=_
    refine(Fv (fO q0 (by rw[uk];exact q1)) (show(kK ts p t).1.length=_ from vL _ _ _)).trans ?_;exact Fv (fO p0 p1) (jD _ _ _)
  · rfl
theorem AJ{ts us:List dU}(h:n8 ts)(e:lens us=lens ts):n8 us:=by
  have hl:us.length=ts.length:=by
    have:=congrArg List.length e;unfold lens at this
    rwa[List.length_map,List.length_map]at this
  refine⟨by rw[hl];exact h.1,fun y hy=>?_⟩;have hm:y.Ry.length∈lens us:=List.mem_map.2 ⟨y,hy,rfl⟩;rw[e]at hm;obtain⟨z,hz,hzz⟩:=List.mem_map.1 hm;rw[<- hzz];exact h.2 z hz
def oS(ts:List dU)(p:Int)(dc:List ez):List dU:=dc.foldl (fun ts t=>(iw ts p t).1) ts
theorem uA(p:Int):∀(dc:List ez) (ts:List dU),lens (oS ts p dc)=lens ts
  | [],_=>rfl
  | t::dc,ts=>(uA p dc (iw ts p t).1).trans (ye ts p t)
theorem Fu{N:Nat}(hN:dg<=N){dc:List ez}(hl:dc.length<dg){ts:List dU}(h:n8 ts){p:Int}{F:List dU->ez->Option (List dU×Int)}(hF:∀ts t,n8 ts->F ts t=some (iw ts p t)):
    iter (fun(s94:(List dU)×Int)=>(bif(decide (s94.2<(dc.length:Int)))then((idx dc s94.2).bind fun y97=>(F s94.1 y97).bind fun y109=>some (.inl (y109.1,i64.wrap (s94.2+1))))else(some (.inr (s94.1,s94.2))):Option (((List dU)×Int)⊕((List dU)×Int)))) N (ts,0)=some (oS ts p dc,(dc.length:Int)):=by
  rw[show(ts,(0:Int))=(fun(k:Nat) (t:List dU)=>(t,(k:Int))) 0 ts from rfl,
    gC dc (fun(k:Nat) (t:List dU)=>(t,(k:Int))) (fun _ ts t=>(iw ts p t).1) (fun t=>(t,(dc.length:Int))) (fun _ t=>lens t=lens ts) ?_ ?_ (Nat.lt_of_lt_of_le hl hN) rfl,jC]
  · rfl
  · intro k t y hy hk ht;refine⟨?_,(ye t p y).trans ht⟩;simp only[eD hk,RD,dQ,hy,RB,hF t y (AJ h ht),eL (Nat.lt_trans hk hl)]
  · intro t _;simp only[eE,RC]
def dC(w:dq)(p:Int):dq:=if eP w&&eJ w p then dq.mk w.Rn (fb w.parts (fh (oS (gx w.parts) p (nth w.parts p).dc)))else w
theorem wU{l:List bh}(hb:eQ dH l<dg):n8 (gx l):=by
  refine⟨by unfold gx gR;rw[List.length_map,List.length_map];exact gW hb,fun t ht=>?_⟩;unfold gx gR at ht;rw[List.map_map]at ht;obtain⟨p,hp,rfl⟩:=List.mem_map.1 ht;exact(gO (fN hb hp)).2.2.1
theorem tu{l:List bh}{p:Int}{dc:List ez}:(oS (gx l) p dc).length=l.length:=by
  have:=congrArg List.length (uA p dc (gx l));unfold lens gx gR at this;rw[List.length_map,List.length_map,List.length_map,List.length_map]at this;exact this
theorem Io{N:Nat}(hN:dg<=N){w:dq}(hb:eQ dH w.parts<dg)(p:Int):qd N w p=some (dC w p):=by
  unfold qd dC;simp only[rA hN hb,uU hN hb,uN (gW hb),RB,gX];cases hw:eP w
  · rfl
  cases hp:eJ w p
  · rfl
  obtain⟨e,hm⟩:=fe hp;have hl:=gW hb;have ht:(nth w.parts p).dc.length<dg:=(gO (fN hb hm)).2.2.2.2.2;simp only[RE,Bool.or_self,RC,Bool.and_self,if_true,decide_eq_true (Nat.lt_of_lt_of_le hl hN),decide_eq_true hl,e,RB];rw[show(gd true).bind=fun(k:Unit->Option dq)=>k () from rfl];simp only[];rw[Fu hN ht (wU hb) (p:=p) (fun ts t h=>Kc hN h p t)];simp only[RB,tu,decide_true];rfl
theorem JW{N:Nat}(hN:dg<=N){ts:List dU}{n:Nat}(hn:ts.length=n)(hl:ts.length<dg){F:List dp->Option (List dp)}(hF:∀y,y∈ts->F y.Ry=some y.Ry):
    iter (fun(s114:Int×(List (List dp)))=>(bif(decide (s114.1<(n:Int)))then((idx ts s114.1).bind fun y117=>(F y117.Ry).bind fun y133=>some (.inl (i64.wrap (s114.1+1),s114.2++[y133])))else(some (.inr (s114.1,s114.2))):Option ((Int×(List (List dp)))⊕(Int×(List (List dp)))))) N (0,[])=some ((n:Int),fh ts):=by
  subst hn
  have e:∀(l:List dU) (k:Nat) (acc:List (List dp)),foldI (fun _ (acc:List (List dp)) (y:dU)=>acc++[y.Ry]) k acc l=acc++fh l:=by
    intro l
    induction l with
    | nil=>intro k acc;simp[foldI,fh]
    | cons y l ih=>intro k acc;unfold foldI;rw[ih];simp[fh]
  rw[show((0:Int),([]:List (List dp)))=(fun(k:Nat) (t:List (List dp))=>((k:Int),t)) 0 [] from rfl,
    gC ts (fun(k:Nat) (t:List (List dp))=>((k:Int),t)) (fun _ acc y=>acc++[y.Ry]) (fun t=>((ts.length:Int),t)) (fun _ _=>True) ?_ ?_ (Nat.lt_of_lt_of_le hl hN) trivial,e]
  · rfl
  · intro k t y hy hk _;refine⟨?_,trivial⟩;simp only[eD hk,RD,dQ,hy,RB,hF y (List.mem_of_getElem? hy),eL (Nat.lt_trans hk hl)]
  · intro t _;simp only[eE,RC]
theorem Ig{N:Nat}(hN:dg<=N){w:dq}(hb:eQ dH w.parts<dg)(hW:wW w.parts)(p:Int):qw N w p=some (dC w p):=by
  have hl:=gW hb;have hB:(16777216:Nat)=dg:=rfl;unfold qw dC;simp only[uJ hN hb,sL hN hb hW,jK,dE (n:=(w.parts.length:Int)-1) (by omega) (by omega),RB,gX];cases hw:eP w
  · rfl
  rw[show dy p 0 ((w.parts.length:Int)-1)=eJ w p from rfl];cases hp:eJ w p
  · rfl
  obtain⟨e,hm⟩:=fe hp;have ht:(nth w.parts p).dc.length<dg:=(gO (fN hb hm)).2.2.2.2.2;have hs:=AJ (wU hb) (uA p (nth w.parts p).dc (gx w.parts));simp only[RE,Bool.or_self,RC,Bool.and_self,if_true,decide_eq_true (Nat.lt_of_lt_of_le hl hN),decide_eq_true hl,e,RB];rw[show(gd true).bind=fun(k:Unit->Option dq)=>k () from rfl];simp only[];rw[Fu hN ht (wU hb) (p:=p) (fun ts t h=>Kk hN h p t)];simp only[RB,tu,decide_true];rw[show(gd true).bind=fun(k:Unit->Option dq)=>k () from rfl];simp only[];rw[JW hN tu hs.1 fun y hy=>nG (hs.2 y hy)];rfl
theorem HF{l:List cd}(h:wA l)(i:Int):mK (nth l i):=by
  unfold nth
  cases e:l[i.toNat]? with
  | none=>show(-9223372036854775808:Int)<=0;decide
  | some o=>exact h o (List.mem_of_getElem? e)
theorem xi{p:bh}(h:wP p)(now:Int):wP (fQ p now):=by
  unfold fQ;split
  · show wA (oe p now)
    unfold oe;split
    · exact iS h (HF h _)
    · exact h
  · exact h
theorem yw{p:bh}(h:wP p)(me now:Int):wP (gD p me now):=by
  unfold gD;split
  · intro o ho;obtain⟨x,hx,rfl⟩:=List.mem_map.1 (show o∈p.heap.ag.map _ from ho);split
    · show(-9223372036854775808:Int)<=0;decide
    · exact h x hx
  · exact h
theorem Qa{p:bh}(h:wP p)(now:Int):wP (iL p now).1:=by
  unfold iL;split
  · split
    · exact h
    · exact iS h (HF h (gS p now))
  · exact h
def kn(p:bh)(i now:Int):bh:=(gF (gD (fQ p now) i now) now 3).1
def iO(n:Nat)(p:bh)(i now:Int):bh:=bif Int.tmod now (n:Int)==i then(iL (kn p i now) now).1 else kn p i now
def iP(n:Nat)(k:Nat)(w:dq):dq:=dq.mk (dC w (k:Int)).Rn ((dC w (k:Int)).parts.set k (iO n (nth (dC w (k:Int)).parts (k:Int)) (k:Int) (dC w (k:Int)).Rn))
def tick(w:dq):dq:=if eP w&&!(w.Rn==1000000)then foldI (fun k t (_:bh)=>iP w.parts.length k t) 0 (dq.mk (i64.wrap (w.Rn+1)) w.parts) w.parts else w
theorem xy{p:bh}{b:Nat}(hb:dH p<=b)(h2:b<=2000000)(hw:wP p)(i now:Int):dH (kn p i now)<=b+1200/\wP (kn p i now):=by
  have h1:=BT p now;have h3:=BX (fQ p now) i now;obtain⟨a,c⟩:=II (p:=gD (fQ p now) i now) (by omega) (yw (xi hw now) i now) now 3;exact⟨by show dH (gF (gD (fQ p now) i now) now 3).1<=_;omega,c⟩
theorem wN{n:Nat}{p:bh}{b:Nat}(hb:dH p<=b)(h2:b<=2000000)(hw:wP p)(i now:Int):dH (iO n p i now)<=b+1300/\wP (iO n p i now):=by
  obtain⟨a,c⟩:=xy hb h2 hw i now;unfold iO;cases Int.tmod now (n:Int)==i
  · exact⟨by simp only[RC];omega,c⟩
  · have:=Oz (kn p i now) now;exact⟨by simp only[RD];omega,Qa c now⟩
theorem E1:∀{l:List bh} {ts:List (List dp)},ts.map List.length=(gR l).map List.length->(fb l ts).length=l.length/\∀q,q∈fb l ts->∃p,p∈l/\dH q=dH p/\q.heap=p.heap
  | [],[],_=>⟨rfl,fun _ h=>absurd h (by simp[fb])⟩
  | [],_::_,h=>by simp[gR]at h
  | _::_,[],h=>by simp[gR]at h
  | p::l,t::ts,h=>by
    simp only[gR,List.map_cons,List.cons.injEq]at h;obtain⟨i1,i2⟩:=E1 (l:=l) (ts:=ts) h.2;refine⟨by show(lR p t::fb l ts).length=_;simp[i1],fun q hq=>?_⟩
    rcases List.mem_cons.1 (show q∈lR p t::fb l ts from hq)with rfl|hq
    · exact⟨p,List.mem_cons_self,by unfold dH lR;simp only[h.1],rfl⟩
    · obtain⟨y,hy,e⟩:=i2 q hq;exact⟨y,List.mem_cons_of_mem _ hy,e⟩
theorem zh(w:dq)(p:Int):(dC w p).Rn=w.Rn/\(dC w p).parts.length=w.parts.length/\∀q,q∈(dC w p).parts->∃p,p∈w.parts/\dH q=dH p/\q.heap=p.heap:=by
  unfold dC;split
  · refine⟨rfl,E1 ?_⟩;have h:(oS (gx w.parts) p (nth w.parts p).dc).map (fun t=>t.Ry.length)=(gx w.parts).map (fun t=>t.Ry.length):=uA p (nth w.parts p).dc (gx w.parts);unfold fh;rw[List.map_map];refine Eq.trans (show _=(oS (gx w.parts) p (nth w.parts p).dc).map (fun t=>t.Ry.length) from rfl) (h.trans ?_);unfold gx;rw[List.map_map];rfl
  · exact⟨rfl,rfl,fun q hq=>⟨q,hq,rfl,rfl⟩⟩
structure tK (n:Nat) (k:Nat) (t:dq):Prop where
  len:t.parts.length=n
  small:n<=3
  sz:∀p,p∈t.parts->dH p<=1048576+1300*k/\wP p
theorem tK.lU{n k:Nat}{t:dq}(h:tK n k t)(hk:k<=3):eQ dH t.parts<dg:=by
  have hB:(16777216:Nat)=dg:=rfl;have h1:mR dH t.parts<=(1048576+1300*3)*t.parts.length:=vx fun y hy=>Nat.le_trans (h.sz y hy).1 (by omega);have h2:=h.len;have h3:=h.small;have h4:(1048576+1300*3)*t.parts.length<=(1048576+1300*3)*3:=Nat.mul_le_mul_left _ (by omega);unfold eQ;omega
theorem tK.w{n k:Nat}{t:dq}(h:tK n k t):wW t.parts:=fun p hp=>(h.sz p hp).2
theorem tK.dc{n k:Nat}{t:dq}(h:tK n k t)(p:Int):tK n k (dC t p):=by
  obtain⟨_,h2,h3⟩:=zh t p;refine⟨h2.trans h.len,h.small,fun q hq=>?_⟩;obtain⟨y,hy,e1,e2⟩:=h3 q hq;obtain⟨a,b⟩:=h.sz y hy;exact⟨by omega,by unfold wP at *;rw[e2];exact b⟩
theorem tK.step{n k:Nat}{t:dq}(h:tK n k t)(hk:k<n):tK n (k+1) (iP n k t):=by
  have hT:=h.dc (k:Int);have hs:=hT.small;refine⟨by show((dC t (k:Int)).parts.set k _).length=n;rw[List.length_set];exact hT.len,hT.small,fun q hq=>?_⟩
  rcases List.mem_or_eq_of_mem_set (show q∈(dC t (k:Int)).parts.set k _ from hq)with h1|h1
  · obtain⟨a,b⟩:=hT.sz q h1;exact⟨by omega,b⟩
  · subst h1;have hl:=hT.len;obtain⟨a,b⟩:=hT.sz _ (gy (l:=(dC t (k:Int)).parts) (i:=(k:Int)) (by omega) (by omega));obtain⟨c,d⟩:=wN (n:=n) a (by omega) b (k:Int) (dC t (k:Int)).Rn;exact⟨by omega,d⟩
theorem EX{N:Nat}(hN:dg<=N){w:dq}{body:Int×Int×List bh->Option ((Int×Int×List bh)⊕(Int×Int×List bh))}(h0:tK w.parts.length 0 (dq.mk (i64.wrap (w.Rn+1)) w.parts))
    (hs:∀(k:Nat) (t:dq),k<w.parts.length->k<dg->tK w.parts.length k t->body ((k:Int),t.Rn,t.parts)=some (.inl (((k+1:Nat):Int),(iP w.parts.length k t).Rn,(iP w.parts.length k t).parts)))
    (he:∀t:dq,tK w.parts.length w.parts.length t->body ((w.parts.length:Int),t.Rn,t.parts)=some (.inr ((w.parts.length:Int),t.Rn,t.parts))) :
    iter body N (0,i64.wrap (w.Rn+1),w.parts)=some ((w.parts.length:Int),(foldI (fun k t (_:bh)=>iP w.parts.length k t) 0 (dq.mk (i64.wrap (w.Rn+1)) w.parts) w.parts).Rn,(foldI (fun k t (_:bh)=>iP w.parts.length k t) 0 (dq.mk (i64.wrap (w.Rn+1)) w.parts) w.parts).parts):=by
  have hB:(16777216:Nat)=dg:=rfl;have h3:=h0.small
  exact gC w.parts (fun(k:Nat) (t:dq)=>((k:Int),t.Rn,t.parts)) (fun k t _=>iP w.parts.length k t) (fun t=>((w.parts.length:Int),t.Rn,t.parts)) (tK w.parts.length)
    (fun k t y _ hk hI=>⟨hs k t hk (by omega) hI,hI.step hk⟩) he (Nat.lt_of_lt_of_le (show w.parts.length<dg by omega) hN) h0
theorem Ol{n:Int}(h:n ≠ 0):dz n=some ():=by unfold dz;rw[if_neg h]
theorem Ca{w:dq}(h:eP w=true):1<=w.parts.length/\w.parts.length<=3/\0<=w.Rn/\w.Rn<=1000000:=by
  unfold eP at h;simp only[RG,dI]at h;omega
theorem Od{N:Nat}(hN:dg<=N){w:dq}(hb:eQ dH w.parts<dg)(hW:wW w.parts)(hT0:eP w=true->tK w.parts.length 0 (dq.mk (i64.wrap (w.Rn+1)) w.parts)):v5 N w=some (tick w):=by
  have hB:(16777216:Nat)=dg:=rfl;unfold v5 tick;simp only[rA hN hb,uU hN hb,RB,gX];cases hw:eP w
  · rfl
  cases hm:w.Rn==1000000
  case true=>rfl
  obtain⟨n1,n3,_,_⟩:=Ca hw;simp only[RE,Bool.not_false,Bool.or_self,RC,Bool.and_self,if_true];rw[EX hN (hT0 hw)]
  · rfl
  · intro k t hk hkB hI;have hT:=hI.dc (k:Int);have hl:=hT.len;obtain⟨a,b⟩:=hT.sz _ (gy (l:=(dC t (k:Int)).parts) (i:=(k:Int)) (by omega) (by omega));obtain⟨c,d⟩:=xy a (by omega) b (k:Int) (dC t (k:Int)).Rn;have q1:=BT (nth (dC t (k:Int)).parts (k:Int)) (dC t (k:Int)).Rn;have q2:=BX (fQ (nth (dC t (k:Int)).parts (k:Int)) (dC t (k:Int)).Rn) (k:Int) (dC t (k:Int)).Rn
    simp only[eD hk,RD,show dq.mk t.Rn t.parts=t from rfl,Io hN (hI.lU (by omega)),RB,eU (l:=(dC t (k:Int)).parts) (i:=(k:Int)) (by omega) (by omega),
      Jc hN (p:=nth (dC t (k:Int)).parts (k:Int)) (by omega),I8 hN (p:=fQ (nth (dC t (k:Int)).parts (k:Int)) (dC t (k:Int)).Rn) (by omega)]
    have e1:=DA hN (p:=gD (fQ (nth (dC t (k:Int)).parts (k:Int)) (dC t (k:Int)).Rn) (k:Int) (dC t (k:Int)).Rn) (by omega) (yw (xi b _) _ _) (dC t (k:Int)).Rn 3;have e2:=Kd hN (p:=kn (nth (dC t (k:Int)).parts (k:Int)) (k:Int) (dC t (k:Int)).Rn) (by omega) (dC t (k:Int)).Rn;unfold kn at e2;have e3:((k:Int)==Int.tmod (dC t (k:Int)).Rn (w.parts.length:Int))=(Int.tmod (dC t (k:Int)).Rn (w.parts.length:Int)==(k:Int)):=Bool.beq_comm ..;refine Eq.trans (congrArg (fun x=>Option.bind x _) e1) ?_;simp only[RB,Ol (show(w.parts.length:Int) ≠ 0 by omega),e2,e3,eL hkB];unfold iP iO kn;generalize iL (gF (gD (fQ (nth (dC t (k:Int)).parts (k:Int)) (dC t (k:Int)).Rn) (k:Int) (dC t (k:Int)).Rn) (dC t (k:Int)).Rn 3).1 (dC t (k:Int)).Rn=R;generalize gF (gD (fQ (nth (dC t (k:Int)).parts (k:Int)) (dC t (k:Int)).Rn) (k:Int) (dC t (k:Int)).Rn) (dC t (k:Int)).Rn 3=C;have hid:=eU (l:=(dC t (k:Int)).parts) (i:=(k:Int)) (by omega) (by omega);generalize dC t (k:Int)=X at hid⊢;cases Int.tmod X.Rn (w.parts.length:Int)==(k:Int)
    · simp only[RC,RB,hid,Int.toNat_natCast]
    · simp only[RD,RB,hid,Int.toNat_natCast]
  · intro t _;simp only[eE,RC]
theorem N4{N:Nat}(hN:dg<=N){w:dq}(hb:eQ dH w.parts<dg)(hW:wW w.parts)(hT0:eP w=true->tK w.parts.length 0 (dq.mk (i64.wrap (w.Rn+1)) w.parts)):vW N w=some (tick w):=by
  have hB:(16777216:Nat)=dg:=rfl;unfold vW tick;simp only[uJ hN hb,sL hN hb hW,RB,gX];cases hw:eP w
  · rfl
  obtain⟨n1,n3,m0,m1⟩:=Ca hw
  have hge:decide (w.Rn>=1000000)=(w.Rn==1000000):=by
    by_cases h:w.Rn=1000000
    · simp[h]
    · rw[decide_eq_false (by omega)];simp[h]
  rw[hge];cases hm:w.Rn==1000000
  case true=>rfl
  simp only[RE,Bool.not_false,Bool.or_self,RC,Bool.and_self,if_true];rw[EX hN (hT0 hw)]
  · rfl
  · intro k t hk hkB hI;have hT:=hI.dc (k:Int);have hl:=hT.len;have hl2:=hI.len;obtain⟨a,b⟩:=hT.sz _ (gy (l:=(dC t (k:Int)).parts) (i:=(k:Int)) (by omega) (by omega));obtain⟨c,d⟩:=xy a (by omega) b (k:Int) (dC t (k:Int)).Rn;have q1:=BT (nth (dC t (k:Int)).parts (k:Int)) (dC t (k:Int)).Rn;have q2:=BX (fQ (nth (dC t (k:Int)).parts (k:Int)) (dC t (k:Int)).Rn) (k:Int) (dC t (k:Int)).Rn
    simp only[hl2,eD hk,RD,show dq.mk t.Rn t.parts=t from rfl,Ig hN (hI.lU (by omega)) hI.w,RB,eU (l:=(dC t (k:Int)).parts) (i:=(k:Int)) (by omega) (by omega),
      Iw hN (p:=nth (dC t (k:Int)).parts (k:Int)) (by omega) b]
    have e0:=Ij hN (p:=fQ (nth (dC t (k:Int)).parts (k:Int)) (dC t (k:Int)).Rn) (by omega) (xi b _) (k:Int) (dC t (k:Int)).Rn;have e1:=Dq hN (p:=gD (fQ (nth (dC t (k:Int)).parts (k:Int)) (dC t (k:Int)).Rn) (k:Int) (dC t (k:Int)).Rn) (by omega) (yw (xi b _) _ _) (dC t (k:Int)).Rn 3;have e2:=KP hN (p:=kn (nth (dC t (k:Int)).parts (k:Int)) (k:Int) (dC t (k:Int)).Rn) (by omega) d (dC t (k:Int)).Rn;unfold kn at e2;refine Eq.trans (congrArg (fun x=>Option.bind x _) e0) ?_;simp only[RB,e1,hl,Ol (show(w.parts.length:Int) ≠ 0 by omega),e2,eL hkB];unfold iP iO kn;generalize iL (gF (gD (fQ (nth (dC t (k:Int)).parts (k:Int)) (dC t (k:Int)).Rn) (k:Int) (dC t (k:Int)).Rn) (dC t (k:Int)).Rn 3).1 (dC t (k:Int)).Rn=R;generalize gF (gD (fQ (nth (dC t (k:Int)).parts (k:Int)) (dC t (k:Int)).Rn) (k:Int) (dC t (k:Int)).Rn) (dC t (k:Int)).Rn 3=C;have hid:=eU (l:=(dC t (k:Int)).parts) (i:=(k:Int)) (by omega) (by omega);generalize dC t (k:Int)=X at hid⊢;cases Int.tmod X.Rn (w.parts.length:Int)==(k:Int)
    · simp only[RC,RB,hid,Int.toNat_natCast]
    · simp only[RD,RB,hid,Int.toNat_natCast]
  · intro t ht;simp only[ht.len,eE,RC]
theorem Ot{t:List dp}{f:Int}{a:de}(h:(eI t f a).2=false):(eI t f a).1=t:=by
  unfold eI at h⊢;split
  · rename_i q;rw[if_pos q]at h;split
    · rename_i q2;rw[if_pos q2]at h;cases h
    · rfl
  · rfl
theorem uc{t:List dp}{f:Int}{a:de}(h:(eI t f a).2=true):fH t=true/\ei t f=true:=by
  unfold eI at h;split at h
  · rename_i q;simpa using q
  · cases h
theorem ER(t:List dp)(f:Int)(a:de):(eI t f a).1.map dp.Ru=t.map dp.Ru:=by
  unfold eI;split
  · rename_i q;simp only[RG]at q;obtain⟨f0,f4⟩:=hY q.2;have hl:=oc q.1;split
    · rw[List.map_set];refine kJ ?_;rw[List.getElem?_map,fO f0 (by omega)];rfl
    · rfl
  · rfl
def tj:Nat->List Bool->Option Nat
  | _,[]=>none
  | k,b::l=>if b then tj (k+1) l else some k
theorem HW{ρ:Type}(g:Nat->ρ)(r:ρ):∀(l:List dp) (k:Nat),kf (fun k (_:Unit) (y:dp)=>if y.Ru then .inl ()else .inr (g k)) (fun _=>r) k () l=(match tj k (l.map dp.Ru)with|none=>r|some k=>g k)
  | [],k=>rfl
  | y::l,k=>by
    unfold kf;simp only[List.map_cons,tj];cases y.Ru
    · rfl
    · exact HW g r l (k+1)
theorem EK{ρ:Type}{N:Nat}(hN:dg<=N){x:List dp}(hx:x.length<dg)(g:Nat->ρ)(r:ρ){body:Int->Option (Int⊕ρ)}
    (hs:∀(k:Nat) (y:dp),x[k]?=some y->k<x.length->body (k:Int)=some (if y.Ru then .inl ((k+1:Nat):Int)else .inr (g k))) (he:body (x.length:Int)=some (.inr r)) :
    iter body N 0=some (match tj 0 (x.map dp.Ru)with|none=>r|some k=>g k):=by
  rw[show(0:Int)=(fun(k:Nat) (_:Unit)=>(k:Int)) 0 () from rfl,
    kS x (fun(k:Nat) (_:Unit)=>(k:Int)) (fun k _ y=>if y.Ru then .inl ()else .inr (g k)) (fun _=>r) (fun _ _=>True) ?_ ?_ (Nat.lt_of_lt_of_le hx hN) trivial,HW]
  · intro k _ y hy hk _;refine⟨?_,fun _ _=>trivial⟩
    show body (k:Int)=_
    rw[hs k y hy hk];cases y.Ru<;>rfl
  · intro _ _;exact he
def iE(t:List dp)(f:Int)(a:de):List dp×Int×Bool :=
  if(eI t f a).2 then(match tj 0 (t.map dp.Ru)with|none=>(t,0,false)|some k=>((eI t f a).1.set k (dp.mk true f a),(k:Int),true))else(t,0,false)
theorem De(t:List dp)(f:Int)(a:de):(iE t f a).1.length=t.length:=by
  unfold iE;split
  · split
    · rfl
    · simp only[List.length_set,jD]
  · rfl
theorem Ga{N:Nat}(hN:dg<=N){t:List dp}(hB:t.length<dg)(f:Int)(a:de):oK N t f a=some (iE t f a):=by
  unfold oK iE;simp only[uD hN hB,RB];cases h:(eI t f a).2
  · simp only[Bool.not_false,RD,Ot h,Bool.false_eq_true,if_false]
  simp only[RE,RC,if_true];rw[EK hN hB (fun k=>Sum.inr ((eI t f a).1.set k (dp.mk true f a),(k:Int),true)) (Sum.inl (t.length:Int))]
  · simp only[RB];cases tj 0 (t.map dp.Ru)
    · simp only[Sum.elim_inl,nn hB,RB]
    · rfl
  · intro k y hy hk;have hp:=jD t f a;simp only[eD hk,RD,dQ,hy,RB,eL (Nat.lt_trans hk hB),Int.toNat_natCast];cases y.Ru
    · have:((eI t f a).1[k]?)=some ((eI t f a).1[k]'(by omega)):=List.getElem?_eq_getElem (by omega);simp only[this,Bool.not_false,RD,RB,Bool.false_eq_true,if_false]
    · simp only[RE,RC,if_true]
  · simp only[eE,RC]
theorem GK{N:Nat}(hN:dg<=N){t:List dp}(hB:t.length<dg)(f:Int)(a:de):oO N t f a=some (iE t f a):=by
  unfold oO iE;simp only[sR hN hB,RB];cases h:(eI t f a).2
  · simp only[Bool.not_false,RD,nG hB,RB,Bool.false_eq_true,if_false]
  have hp:=jD t f a;simp only[RE,RC,if_true];rw[EK (x:=(eI t f a).1) hN (by omega) (fun k=>Sum.inr ((eI t f a).1.set k (dp.mk true f a),(k:Int),true)) (Sum.inl ((eI t f a).1.length:Int)),ER]
  · simp only[RB];cases tj 0 (t.map dp.Ru)
    · simp only[Sum.elim_inl,nG hB,RB]
    · rfl
  · intro k y hy hk;simp only[eD hk,RD,dQ,hy,RB,eL (show k<dg by omega),Int.toNat_natCast];cases y.Ru<;>rfl
  · simp only[eE,RC]
def ju(t:List dp)(f g:Int)(a:de):List dp×Bool:=if(eI t f a).2&&ei t g then jM (eI t f a).1 g a else(t,false)
theorem DN(t:List dp)(f g:Int)(a:de):(ju t f g a).1.length=t.length:=by
  unfold ju;split
  · rw[vL,jD]
  · rfl
theorem Jw{N:Nat}(hN:dg<=N){t:List dp}(hB:t.length<dg)(f g:Int)(a:de):pW N t f g a=some (ju t f g a):=by
  unfold pW ju;have hp:=jD t f a;simp only[uD hN hB,RB];cases h:(eI t f a).2
  · simp only[Bool.not_false,RD,nn hB,RB,Bool.false_and,Bool.false_eq_true,if_false]
  have hl:=oc (uc h).1;simp only[RE,RC,qq N hl,RB,RF];cases ei t g
  · simp only[Bool.not_false,RD,nn hB,RB,Bool.false_eq_true,if_false]
  · simp only[RE,RC,if_true,xL hN (show(eI t f a).1.length<dg by omega),RB]
theorem IJ{N:Nat}(hN:dg<=N){t:List dp}(hB:t.length<dg)(f g:Int)(a:de):pR N t f g a=some (ju t f g a):=by
  unfold pR ju;have hp:=jD t f a;simp only[sj hN,sR hN hB,RB];cases h:(eI t f a).2
  · cases fH t&&ei t g<;>simp only[Bool.not_false,RE,RD,RC,nG hB,RB,Bool.false_and,Bool.false_eq_true,if_false]
  rw[(uc h).1];simp only[RF];cases ei t g
  · simp only[Bool.not_false,RD,nG hB,RB,Bool.false_eq_true,if_false]
  · simp only[RE,RC,if_true,xD hN (show(eI t f a).1.length<dg by omega),RB]
theorem Kg{t:List dp}(h:Tr t){i:Int}(hv:ei t i=true)(hi:i ≠ 0):0<=up t i/\up t i<=4/\up t i ≠ i/\(nth t (up t i)).Ru=true:=by
  obtain⟨i0,i4⟩:=hY hv;have hl:=h.len;have hg:=fO (l:=t) i0 (by omega)
  have hlv:(nth t i).Ru=true:=by
    unfold ei at hv;simp only[RG]at hv;exact hv.2
  have h1:=h.lead i.toNat (nth t i) hg hlv;rw[show((i.toNat:Nat):Int)=i by omega]at h1
  have hne:up t i ≠ i:=fun q=>by rw[Ay hi q]at h1;cases h1
  have h2:leads t 4 (up t i)=true:=by
    unfold leads at h1;simpa[hi,hv]using h1
  by_cases hu:up t i=0
  · rw[hu];exact⟨by omega,by omega,fun q=>hi q.symm,h.pJ⟩
  · unfold leads at h2
    have h3:ei t (up t i)=true:=by
      cases q:ei t (up t i)
      · simp[hu,q]at h2
      · rfl
    obtain⟨a,b⟩:=hY h3;unfold ei at h3;simp only[RG]at h3;exact⟨a,b,hne,h3.2⟩
def vg(s:de)(B:Int):Prop:=(0<=s.c6/\s.c6<=B)/\(0<=s.dh/\s.dh<=B)/\(0<=s.du/\s.du<=B)
theorem y6{s a:de}{B:Int}(hs:vg s B)(ha:dT a=true)(hB:B<=1000000000):(dX s a).c6=s.c6+a.c6/\(dX s a).dh=s.dh+a.dh/\(dX s a).du=s.du+a.du/\vg (dX s a) (B+1000000):=by
  have h:=eO.1 ha;unfold vg at hs;have w1:(dX s a).c6=s.c6+a.c6:=dE (by omega) (by omega);have w2:(dX s a).dh=s.dh+a.dh:=dE (by omega) (by omega);have w3:(dX s a).du=s.du+a.du:=dE (by omega) (by omega);exact⟨w1,w2,w3,⟨by omega,by omega⟩,⟨by omega,by omega⟩,⟨by omega,by omega⟩⟩
theorem AI:∀(t:List dp) (s:de) (B:Int),(∀r,r∈t->dT r.dP=true)->0<=B->B+1000000*(t.length:Int)<=1000000000->vg s B->∀(k:Nat) (r:dp),t[k]?=some r->r.Ru=true ->
    s.c6+r.dP.c6<=(eY s t).c6/\s.dh+r.dP.dh<=(eY s t).dh/\s.du+r.dP.du<=(eY s t).du
  | [],s,B,_,_,_,_,k,r,hr,_=>by simp at hr
  | x::t,s,B,h,hB,hL,hs,k,r,hr,hv=>by
    have hx:=h x (by simp);simp only[List.length_cons]at hL;obtain⟨w1,w2,w3,w4⟩:=y6 hs hx (by omega);have hx':=eO.1 hx;have e:eY s (x::t)=eY (if x.Ru then dX s x.dP else s) t:=rfl;rw[e];have ht:∀r,r∈t->dT r.dP=true:=fun r hr=>h r (by simp[hr])
    match k with
    | 0 =>
      simp only[List.getElem?_cons_zero,Option.some.injEq]at hr;subst hr;rw[if_pos hv];obtain⟨⟨a1,a2,a3⟩,_⟩:=qQ t (dX s x.dP) (B+1000000) ht (by omega) (by omega) w4.1 w4.2.1 w4.2.2;exact⟨by omega,by omega,by omega⟩
    | k+1 =>
      rw[List.getElem?_cons_succ]at hr;cases hxl:x.Ru
      · exact AI t s B ht hB (by omega) hs k r hr hv
      · obtain⟨a1,a2,a3⟩:=AI t (dX s x.dP) (B+1000000) ht (by omega) (by omega) w4 k r hr hv;rw[if_pos rfl];exact⟨by omega,by omega,by omega⟩
theorem xN:∀(t:List dp) (s:de) (B:Int),(∀r,r∈t->dT r.dP=true)->0<=B->B+1000000*(t.length:Int)<=1000000000->vg s B->∀(k j:Nat) (r q:dp),k<j->t[k]?=some r->r.Ru=true->t[j]?=some q->q.Ru=true ->
    r.dP.c6+q.dP.c6<=(eY s t).c6/\r.dP.dh+q.dP.dh<=(eY s t).dh/\r.dP.du+q.dP.du<=(eY s t).du
  | [],s,B,_,_,_,_,k,j,r,q,_,hr,_,_,_=>by simp at hr
  | x::t,s,B,h,hB,hL,hs,k,j,r,q,hkj,hr,hv,hq,hw=>by
    have hx:=h x (by simp);simp only[List.length_cons]at hL;obtain⟨w1,w2,w3,w4⟩:=y6 hs hx (by omega);have e:eY s (x::t)=eY (if x.Ru then dX s x.dP else s) t:=rfl;rw[e];have ht:∀r,r∈t->dT r.dP=true:=fun r hr=>h r (by simp[hr]);unfold vg at hs
    match k,j,hkj with
    | 0,j+1,_ =>
      simp only[List.getElem?_cons_zero,Option.some.injEq]at hr;subst hr;rw[List.getElem?_cons_succ]at hq;rw[if_pos hv];obtain⟨a1,a2,a3⟩:=AI t (dX s x.dP) (B+1000000) ht (by omega) (by omega) w4 j q hq hw;exact⟨by omega,by omega,by omega⟩
    | k+1,j+1,hkj =>
      rw[List.getElem?_cons_succ]at hr hq;cases hxl:x.Ru
      · exact xN t s B ht hB (by omega) hs k j r q (by omega) hr hv hq hw
      · rw[if_pos rfl];exact xN t (dX s x.dP) (B+1000000) ht (by omega) (by omega) w4 k j r q (by omega) hr hv hq hw
theorem Hf{t:List dp}(h:Tr t){u i:Int}(hu:0<=u/\u<=4)(hi:0<=i/\i<=4)(hne:u ≠ i)(h1:(nth t u).Ru=true)(h2:(nth t i).Ru=true):gn (nth t u).dP (nth t i).dP=(dX (nth t u).dP (nth t i).dP,true):=by
  have hl:=h.len
  have z:vg ⟨0,0,0⟩ 0:=by unfold vg;decide
  have hS:=eO.1 h.sum;have gu:=fO (l:=t) (i:=u) hu.1 (by omega);have gi:=fO (l:=t) (i:=i) hi.1 (by omega);have bu:=h.dP _ (List.mem_of_getElem? gu);have bi:=h.dP _ (List.mem_of_getElem? gi);have bu':=eO.1 bu;have bi':=eO.1 bi
  have key:(nth t u).dP.c6+(nth t i).dP.c6<=(eY ⟨0,0,0⟩ t).c6/\(nth t u).dP.dh+(nth t i).dP.dh<=(eY ⟨0,0,0⟩ t).dh/\(nth t u).dP.du+(nth t i).dP.du<=(eY ⟨0,0,0⟩ t).du:=by
    rcases Int.lt_or_gt_of_ne hne with q|q
    · exact xN t ⟨0,0,0⟩ 0 h.dP (by omega) (by omega) z u.toNat i.toNat _ _ (by omega) gu h1 gi h2
    · obtain⟨a,b,c⟩:=xN t ⟨0,0,0⟩ 0 h.dP (by omega) (by omega) z i.toNat u.toNat _ _ (by omega) gi h2 gu h1;exact⟨by omega,by omega,by omega⟩
  have v1:(dX (nth t u).dP (nth t i).dP).c6=(nth t u).dP.c6+(nth t i).dP.c6:=dE (by omega) (by omega);have v2:(dX (nth t u).dP (nth t i).dP).dh=(nth t u).dP.dh+(nth t i).dP.dh:=dE (by omega) (by omega);have v3:(dX (nth t u).dP (nth t i).dP).du=(nth t u).dP.du+(nth t i).dP.du:=dE (by omega) (by omega);have:dT (dX (nth t u).dP (nth t i).dP)=true:=eO.2 ⟨by omega,by omega,by omega⟩;unfold gn;rw[bu,bi,this];rfl
def jQ(i u:Int)(r:dp):dp:=if r.Ru&&(r.Rv==i)then dp.mk r.Ru u r.dP else r
def dropped(t:List dp)(i:Int):List dp:=(t.set (up t i).toNat (jR (nth t (up t i)) (dX (nth t (up t i)).dP (nth t i).dP))).set i.toNat kG
def jo(t:List dp)(i:Int):List dp×Bool:=if(fH t&&ei t i)&&(i != 0)then((dropped t i).map (jQ i (up t i)),true)else(t,false)
theorem DY(t:List dp)(i:Int):(jo t i).1.length=t.length:=by
  unfold jo dropped;split<;>simp
theorem Ii{N:Nat}(hN:dg<=N){t:List dp}(hB:t.length<dg)(i:Int):pV N t i=some (jo t i):=by
  unfold pV jo;simp only[nG hB,sj hN,RB,gX];cases h:(fH t&&ei t i)
  · rfl
  simp only[RG]at h;have hT:=fK.1 h.1;have hl:=hT.len;cases hi:(i==0)
  case true=>simp only[RE,Bool.or_true,RD,RF,bne,hi,Bool.false_eq_true,if_false]
  have hi':i ≠ 0:=by simpa using hi
  obtain⟨i0,i4⟩:=hY h.2;obtain⟨u0,u4,une,ulv⟩:=Kg hT h.2 hi'
  have ilv:(nth t i).Ru=true:=by
    have:=h.2;unfold ei at this;simp only[RG]at this;exact this.2
  have eu:idx t (nth t i).Rv=some (nth t (up t i)):=eU (i:=up t i) u0 (by omega);have ff:=Hf hT ⟨u0,u4⟩ ⟨i0,i4⟩ une ulv ilv;have e2:∀z,idx (t.set (nth t i).Rv.toNat z) i=some (nth (t.set (nth t i).Rv.toNat z) i):=fun z=>eU i0 (by simp only[List.length_set];omega);simp only[RE,Bool.or_false,RC,eU (l:=t) i0 (by omega),eu,wm,ff,RB,e2,bne,hi,Bool.not_false,Bool.and_self,if_true];rw[show(((t.set (nth t i).Rv.toNat (dp.mk (nth t (up t i)).Ru (nth t (up t i)).Rv (de.mk (dX (nth t (up t i)).dP (nth t i).dP).c6 (dX (nth t (up t i)).dP (nth t i).dP).dh (dX (nth t (up t i)).dP (nth t i).dP).du))).set i.toNat (dp.mk false 0 (de.mk 0 0 0))))=dropped t i from rfl];rw[ss (dropped t i) (jQ i (up t i)) (show(dropped t i).length<N by unfold dropped;simp only[List.length_set];omega)]
  · rfl
  · intro k x y hx hty _ hk
    have hk':k<x.length:=by omega
    have hk2:k<t.length:=by unfold dropped at hk;simp only[List.length_set]at hk;omega
    simp only[eD hk',RD,dQ,hty,RB,iI,eL (show k<dg by omega),Int.toNat_natCast];unfold jQ;cases(y.Ru&&(y.Rv==i))
    · simp only[RC,Bool.false_eq_true,if_false,kJ hty]
    · simp only[RD,if_true];rfl
  · intro x hx;rw[<- hx];simp only[eE,RC]
theorem I2{N:Nat}(hN:dg<=N){t:List dp}(hB:t.length<dg)(i:Int):pY N t i=some (jo t i):=by
  unfold pY jo;simp only[nn hB,qe hN,RB];cases ht:fH t
  · rfl
  have hT:=fK.1 ht;have hl:=hT.len;cases hi:(i==0)
  case true=>simp only[RE,RC,RD,RB,RF,bne,hi,Bool.and_false,Bool.false_eq_true,if_false]
  have hi':i ≠ 0:=by simpa using hi
  simp only[RE,RC,qq N hl,RB];cases hv:ei t i
  · rfl
  obtain⟨i0,i4⟩:=hY hv;obtain⟨u0,u4,une,ulv⟩:=Kg hT hv hi';have eu:idx t (nth t i).Rv=some (nth t (up t i)):=eU (i:=up t i) u0 (by omega);have e2:∀z,idx (t.set (nth t i).Rv.toNat z) i=some (nth (t.set (nth t i).Rv.toNat z) i):=fun z=>eU i0 (by simp only[List.length_set];omega);simp only[RE,RC,eU (l:=t) i0 (by omega),eu,sN,RB,e2,bne,hi,Bool.not_false,Bool.and_self,if_true];rw[show(((t.set (nth t i).Rv.toNat (dp.mk (nth t (up t i)).Ru (nth t (up t i)).Rv (dX (nth t (up t i)).dP (nth t i).dP))).set i.toNat (dp.mk false 0 (de.mk 0 0 0))))=dropped t i from rfl];rw[ss (dropped t i) (jQ i (up t i)) (show(dropped t i).length<N by unfold dropped;simp only[List.length_set];omega)]
  · rfl
  · intro k x y hx hty _ hk
    have hk':k<t.length:=by unfold dropped at hk;simp only[List.length_set]at hk;omega
    simp only[eD hk',RD,dQ,hty,RB,iI,eL (show k<dg by omega),Int.toNat_natCast];unfold jQ;cases(y.Ru&&(y.Rv==i))
    · simp only[RC,Bool.false_eq_true,if_false,kJ hty]
    · simp only[RD,if_true];rfl
  · intro x hx;rw[show(dropped t i).length=t.length by unfold dropped;simp only[List.length_set]];simp only[eE,RC]
end Go.Kx
