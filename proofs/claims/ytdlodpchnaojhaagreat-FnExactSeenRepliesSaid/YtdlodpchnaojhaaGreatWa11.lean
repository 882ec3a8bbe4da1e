import Derived.Test.YtdlodpchnaojhaaGreatWa10
namespace Go.Kx
open Go Go.RowKit Go.Proofs
open Tryz
set_option maxRecDepth 10000
set_option maxHeartbeats 8000000
set_option linter.unusedVariables false
set_option linter.unusedSimpArgs false
theorem Ei {w0} {F:List Nat} {N f aF aG I r} (h:sb N f aF aG I=some r) {g ae m} (ap:ae=f.NZ.NY.length) {j af n} (aq:af=f.own.length) {k ah o} (ar:ah=f.N1.length) {u ai z} (au:ai=f.py.ag.length) {x aj A} (av:aj=f.py.gc.gQ.length) {l ak p} (aw:ak=f.gR.length) (hS:St w0 F w0 [sl g m f.NZ.NY,sl j n f.own,sl k o f.N1,sl u z f.py.ag,sl x A f.py.gc.gQ,sl l p f.gR]) :
    gV prog 157 #[.agg #[vS g ae m,vS j af n,vS k ah o,vS u ai z,vI f.py.gc.N2,vI f.py.gc.Oa,vI f.py.gc.N3,vS x aj A,vS l ak p,vI f.N6,vI f.N7,vI f.bh.gE,vI f.bh.gT,vI f.bh.g8,vI f.gW,vI f.N5],vI aF,vI aG,.agg #[vI I.N0,vI I.a,vI I.b,vI I.c,vI I.d,vI I.e]] w0 (fun v w=>∃ J U, ∃ K V, ∃ L W, ∃ M X, ∃ O Y, ∃ R Z,v=.tuple #[.agg #[vS J r.1.NZ.NY.length U,vS K r.1.own.length V,vS L r.1.N1.length W,vS M r.1.py.ag.length X,vI r.1.py.gc.N2,vI r.1.py.gc.Oa,vI r.1.py.gc.N3,vS O r.1.py.gc.gQ.length Y,vS R r.1.gR.length Z,vI r.1.N6,vI r.1.N7,vI r.1.bh.gE,vI r.1.bh.gT,vI r.1.bh.g8,vI r.1.gW,vI r.1.N5],.agg #[vI r.2.code,vI r.2.Oi]]∧St w0 F w [sl J U r.1.NZ.NY,sl K V r.1.own,sl L W r.1.N1,sl M X r.1.py.ag,sl O Y r.1.py.gc.gQ,sl R Z r.1.gR]):=by
 subst ap aq ar au av aw;unfold sb at h;refine gV.fn func157 fun e=>?_;refine T ?_;intro am bB a4 bA bC a5 an bD a6 ao bE a7 aC bd h bf a8;refine CW.fl [1,2,4,7,8,9,10,11,25] fun e=>?_;refine gc h ?_ ?_<;>intro _ h
 · refine jj [(0,vI aC.2)] #[vI aC.2,vI 0] ?_;refine T ?_;intro bg a9 bi ba;exact rt
 refine gc h ?_ ?_<;>intro _ h
 · refine jj [(0,vI 5)] #[vI 5,vI 0] ?_;refine T ?_;intro bj bb bk bc;exact rt
 refine gs ?_;refine CW.region ?_;refine gs ?_;refine CW.region ?_;refine gs ?_;obtain ⟨aE,aA,ax⟩:=ob h;refine CW.cut (fun e wb=>∃ ad,aE=.inl ad∧En e [(4,.pointer (some ⟨am,0,none⟩)),(8,.pointer (some ⟨an,0,none⟩)),(9,.pointer (some ⟨ao,0,none⟩)),(10,vI aC.1),(12,vI ad)]∧St w0 F wb [bx ao 53 [vI 0,vI 0],bx an 45 [vS none 0 0,vS none 0 0,vS none 0 0,vS none 0 0,vI 0,vI 0,vI 0,vS none 0 0,vS none 0 0,vI 0,vI 0,vI 0,vI 0,vI 0,vI 0,vI 0],bx am 45 [vS g f.NZ.NY.length m,vS j f.own.length n,vS k f.N1.length o,vS u f.py.ag.length z,vI f.py.gc.N2,vI f.py.gc.Oa,vI f.py.gc.N3,vS x f.py.gc.gQ.length A,vS l f.gR.length p,vI f.N6,vI f.N7,vI f.bh.gE,vI f.bh.gT,vI f.bh.g8,vI f.gW,vI f.N5],sl g m f.NZ.NY,sl j n f.own,sl k o f.N1,sl u z f.py.ag,sl x A f.py.gc.gQ,sl l p f.gR]) ?_ ?_
 · have h:=aA;refine gc h ?_ ?_<;>intro _ h
   · refine T ?_;intro ay aR h bl aH;refine CW.fl [4,8,9,10,13,14,46] fun e=>?_;refine gc h ?_ ?_<;>intro _ h
     · refine jj [(0,vI ay.2)] #[vI ay.2,vI 0] ?_;refine T ?_;intro bm aI bn aJ;cases h;have h:=ax;exact rt
     exact rt
   exact rt
 rintro e bo ⟨ad,rfl,hM⟩;obtain ⟨e,rfl,aa⟩:=eo hM;have h:=ax;refine gb h fun bv ab h=>?_;obtain ⟨a1,be,hae,aP,aQ⟩:=aa.hZ (α:=gP) (i:=6) rfl ab;subst hae;refine go ?_;refine gb h fun bw ac h=>?_;refine LW.se 2 aa 6 ab ac (hM:=(je (fun w cs F hF=>by obtain ⟨aT,aW,aU,aX,aV,aY,rfl,hH⟩:=hF;exact ⟨aT,aW,aU,aX,aV,aY,rfl,hH⟩))) fun bp az=>?_;refine gs ?_;refine CW.region ?_;refine gs ?_;rw [gZ (oi ac)] at az;obtain ⟨q,aB,aD⟩:=ob h;refine CW.cut (fun e wb=>∃ (B:Ad) (G:Nat) (C:Ad) (H:Nat),En e [(4,.pointer (some ⟨am,0,none⟩)),(8,.pointer (some ⟨an,0,none⟩)),(9,.pointer (some ⟨ao,0,none⟩))]∧St w0 F wb [bx ao 53 [vI 0,vI 0],bx an 45 [vS none 0 0,vS none 0 0,vS none 0 0,vS none 0 0,vI 0,vI 0,vI 0,vS none 0 0,vS none 0 0,vI 0,vI 0,vI 0,vI 0,vI 0,vI 0,vI 0],bx am 45 [vS g f.NZ.NY.length m,vS j f.own.length n,vS k f.N1.length o,vS B q.1.length G,vI q.2.1,vI q.2.2.1,vI q.2.2.2.1,vS C q.2.2.2.2.length H,vS l f.gR.length p,vI f.N6,vI f.N7,vI f.bh.gE,vI f.bh.gT,vI f.bh.g8,vI f.gW,vI f.N5],sl g m f.NZ.NY,sl j n f.own,sl k o f.N1,sl l p f.gR,sl B G q.1,sl C H q.2.2.2.2]) ?_ ?_
 · have h:=aB;refine CW.fl [4,8,9,10,59] fun e=>?_;refine gc h ?_ ?_<;>intro _ h
   · refine T ?_;intro bz aS h aZ a2 a0 a3 bq aK br aL;exact rt
   exact rt
 rintro e bs ⟨B,G,C,H,hE,aM⟩;obtain ⟨e,rfl⟩:=hE.out;have h:=aD;refine jj [] #[vI 0,vI 0] ?_;refine T ?_;intro bt aN bu aO;exact rt
instance k_157:Ct prog 157:=⟨by kernel_rfl,@Ei⟩
theorem E3 {w0} {F:List Nat} {N g ci cj ck K r} (h:rW N g ci cj ck K=some r) {k a2 z} (bn:a2=g.NZ.NY.length) {o a3 A} (bo:a3=g.own.length) {p a4 B} (bp:a4=g.N1.length) {aG a5 C} (bq:a5=g.py.ag.length) {q a6 H} (br:a6=g.py.gc.gQ.length) {x a7 I} (bs:a7=g.gR.length) (hS:St w0 F w0 [sl k z g.NZ.NY,sl o A g.own,sl p B g.N1,sl aG C g.py.ag,sl q H g.py.gc.gQ,sl x I g.gR]) :
    gV prog 160 #[.agg #[vS k a2 z,vS o a3 A,vS p a4 B,vS aG a5 C,vI g.py.gc.N2,vI g.py.gc.Oa,vI g.py.gc.N3,vS q a6 H,vS x a7 I,vI g.N6,vI g.N7,vI g.bh.gE,vI g.bh.gT,vI g.bh.g8,vI g.gW,vI g.N5],vI ci,vI cj,vI ck,.agg #[vI K.N0,vI K.a,vI K.b,vI K.c,vI K.d,vI K.e]] w0 (fun v w=>∃ am au, ∃ an av, ∃ ao aw, ∃ ap ax, ∃ aq ay, ∃ ar az,v=.tuple #[.agg #[vS am r.1.NZ.NY.length au,vS an r.1.own.length av,vS ao r.1.N1.length aw,vS ap r.1.py.ag.length ax,vI r.1.py.gc.N2,vI r.1.py.gc.Oa,vI r.1.py.gc.N3,vS aq r.1.py.gc.gQ.length ay,vS ar r.1.gR.length az,vI r.1.N6,vI r.1.N7,vI r.1.bh.gE,vI r.1.bh.gT,vI r.1.bh.g8,vI r.1.gW,vI r.1.N5],.agg #[vI r.2.code,vI r.2.Oi]]∧St w0 F w [sl am au r.1.NZ.NY,sl an av r.1.own,sl ao aw r.1.N1,sl ap ax r.1.py.ag,sl aq ay r.1.py.gc.gQ,sl ar az r.1.gR]):=by
 subst bn bo bp bq br bs;unfold rW at h;refine gV.fn func160 fun e=>?_;refine T ?_;intro ce eT el eS eU em cf eV en cg eW ep ak ew h eB er;refine CW.fl [1,2,3,5,9,10,11,12,13,27] fun e=>?_;refine gc h ?_ ?_<;>intro _ h
 · refine jj [(0,vI ak.2)] #[vI ak.2,vI 0] ?_;refine T ?_;intro eC es eD et;exact rt
 refine T ?_;intro eP dt h eE bF;refine gc h ?_ ?_<;>intro _ h
 · refine jj [(0,vI 2)] #[vI 2,vI 0] ?_;refine T ?_;intro eF eu eG c4;exact rt
 refine gb h fun f ab h=>?_;obtain ⟨ad,U,hae,dh,dk⟩:=bF.hZ (α:=gP) (i:=7) rfl ab;subst hae;refine go ?_;obtain ⟨dX,J,bL⟩:=bF.freeze (α:=gP) 7 rfl;obtain ⟨d7,ex,c2,hae,aV,_,_,b3,aW⟩:=J.jk.idx ab;cases hae;obtain ⟨L,O,M,R,aI,X,rfl,dn,dp,Z⟩:=b3;refine T ?_;refine CW.fl [1,2,3,5,9,10,11,12,14,46] fun e=>?_;refine gc h ?_ ?_<;>intro _ h
 · refine gc h ?_ ?_<;>intro _ h
   · refine jj [(0,vI 8)] #[vI 8,vI 0] ?_;refine T ?_;intro eH c5 eI bM;cases h;have af:=bM.iz (α:=gP) 7 rfl J;exact Rc (ib.b af 1 rfl kF rfl rfl) (ib.b af 0 rfl kS rfl rfl) ⟨k,z,o,A,p,B,(some ⟨ad,U,none⟩),C,q,H,x,I,rfl,af.pk [4,5,6,7,8,9]⟩
   refine jA ?_;have bN:=bL.drew;refine gb h fun eQ aY h=>?_;obtain ⟨d8,ey,hae,di,dl⟩:=J.hZ aY;cases hae;refine go ?_;obtain ⟨d9,ez,c3,hae,df,_,_,b4,dg⟩:=J.jk.idx aY;cases hae;obtain ⟨dY,eb,dZ,ec,d0,ed,rfl,dq,dr,ds⟩:=b4;refine T ?_;refine jP 4 ?_;refine LW.b0 (α:=iS) bN ?_;intro d1 ee eJ aL hf;refine T ?_;have ⟨cl,b8,h⟩:=ob h;refine T ?_;refine LW.jG (l:=([]:List iS)) (m:=f.N4) oI rfl rfl (aL.rZ 8 rfl Z) b8 aL (i:=0) rfl rfl ?_;intro d2 ef eK c6 hf;refine T ?_;refine jP 16 ?_;refine T ?_;intro W du h eL bO;refine AW.u (i:=19) rfl (by kernel_rfl) rfl rfl (iq.build (vs:=[(0,vI W),(1,vI K.b)]) (cs:=#[vI W,vI K.b]) rfl (by kernel_rfl)) ?_;refine T ?_;refine LW.xI (α:=iS) (vs:=[(0,.agg #[vI W,vI K.b])]) (cs:=#[vI W,vI K.b]) (l:=([iS.mk W K.b]:List iS)) rfl (by kernel_rfl) rfl rfl rfl (fun w=>⟨[vI W,vI K.b],[],[],[],rfl,rfl,⟨rfl,rfl⟩,rfl⟩) bO rfl ?_;intro d3 eh eM aM hf;refine T ?_;have ⟨bG,b9,h⟩:=ob h;refine T ?_;refine LW.jG (l:=cl) (m:=([iS.mk W K.b]:List iS)) oI rfl rfl (aM.rI 0 rfl) b9 aM (i:=1) rfl rfl ?_;intro bD bE eN aN hf;refine T ?_;refine go ?_;have b6:=fun (j:Nat) (u:Value) (hu:((qO L O M R aI X f):List Value)[j]?=some u)=>(World.cell?_of_block (aN.zC 9 rfl aV)).trans (aW j u hu);have bP:=aN.iz (α:=gP) 9 rfl J;obtain ⟨cG,b7,b5⟩:=bP.focus (α:=gP) (cs:=[vI f.Oe,vI f.N0,vI f.box,vI f.Od,vI f.iw,vI f.gE,vI f.N9,vI f.iv,vI f.iu,.bool f.Ob,vS L f.gX.length O,vS M f.N8.length R,vS aI f.N4.length X]) 9 rfl ab rfl b6;obtain ⟨d4,ei,d5,ej,d6,ek,b2,bK⟩:=b7;cases b2;have bQ:=b5 [sl L O f.gX,sl M R f.N8,sl aI X f.N4] bK;refine T ?_;refine LW.vN (α:=gP) (vs:=[vS bD bG.length bE]) bQ 12 rfl nR rfl (by show _=U+(ak.1:Int).toNat * 13+12;omega) rfl rfl rfl rfl ?_
   intro eO bR hf;refine T ?_;refine go ?_;have aO:=bR.nC (gP.mk f.Oe f.N0 f.box f.Od f.iw f.gE f.N9 f.iv f.iu f.Ob f.gX f.N8 bG) [0,1,4,2,3,5,6,7,8,9,10,11,12,13,14] 3 9 rfl rfl (fun w G hG=>⟨L,O,M,R,bD,bE,rfl,hG⟩)
   have ⟨eR,aZ,h⟩:=ob h;obtain ⟨ea,eA,hae,dj,dm⟩:=aO.hZ (α:=gP) (i:=9) rfl aZ;cases hae;have ⟨cm,a0,h⟩:=ob h;refine LW.se 6 aO 9 aZ a0 (hM:=(je (fun w cs F hF=>by obtain ⟨a8,bb,a9,bc,ba,bd,rfl,hH⟩:=hF;exact ⟨a8,bb,a9,bc,ba,bd,rfl,hH⟩))) fun dA c7=>?_;refine jj [] #[vI 0,vI 0] ?_;refine T ?_;intro dB c8 dC Y;cases h;rw [show g.py.ag.length=cm.length from ((gZ rfl).trans (gZ (oi a0)))] at Y;exact Rc (ib.b Y 3 rfl kF rfl rfl) (ib.b Y 2 rfl kS rfl rfl) ⟨k,z,o,A,p,B,(some ⟨ad,U,none⟩),C,q,H,x,I,rfl,Y.pk [6,7,8,9,10,11]⟩
 refine gc h ?_ ?_<;>intro _ h
 · refine jj [(0,vI 8)] #[vI 8,vI 0] ?_;refine T ?_;intro dD c9 dE bS;cases h;have ah:=bS.iz (α:=gP) 7 rfl J;exact Rc (ib.b ah 1 rfl kF rfl rfl) (ib.b ah 0 rfl kS rfl rfl) ⟨k,z,o,A,p,B,(some ⟨ad,U,none⟩),C,q,H,x,I,rfl,ah.pk [4,5,6,7,8,9]⟩
 refine gb h fun ac bA h=>?_;obtain ⟨ae,aj,co,rfl,cq,cw,cz,rfl,cu⟩:=Z.idx bA;refine go ?_;refine T ?_;intro aK dF da dG bT;refine dW ?_;have bU:=bT.drew;refine gb h fun cb aB h=>?_;obtain ⟨cH,cT,bi,bj,bz⟩:=iM.uL Z aB;have aX:=(Z).le;refine AW.u (i:=6) rfl (by kernel_rfl) rfl rfl (iq.sub (α:=iS) (l:=f.N4) underlying158 Gw rfl (uN rfl) uO aB aX bi bj) ?_;refine jP 4 ?_;refine LW.b0 (α:=iS) bU ?_;intro cI cU dH aP hf;refine T ?_;have ⟨V,bB,h⟩:=ob h;refine T ?_;refine LW.jG (l:=([]:List iS)) (m:=cb) oI rfl rfl (aP.rZ 9 rfl bz) bB aP (i:=0) rfl rfl ?_;intro aH aJ dI aQ hf;refine T ?_;refine go ?_;have bt:=fun (j:Nat) (u:Value) (hu:((qO L O M R (some ⟨ae,aj,none⟩) X f):List Value)[j]?=some u)=>(World.cell?_of_block (aQ.zC 9 rfl aV)).trans (aW j u hu);have bV:=aQ.iz (α:=gP) 9 rfl J;obtain ⟨cn,bu,bk⟩:=bV.focus (α:=gP) (cs:=[vI f.Oe,vI f.N0,vI f.box,vI f.Od,vI f.iw,vI f.gE,vI f.N9,vI f.iv,vI f.iu,.bool f.Ob,vS L f.gX.length O,vS M f.N8.length R,vS (some ⟨ae,aj,none⟩) f.N4.length X]) 9 rfl ab rfl bt;obtain ⟨cJ,cV,cK,cW,cL,cX,bf,be⟩:=bu;cases bf;have bW:=bk [sl L O f.gX,sl M R f.N8,sl (some ⟨ae,aj,none⟩) X f.N4] be;refine T ?_;refine LW.vN (α:=gP) (vs:=[vS aH V.length aJ]) bW 12 rfl nR rfl (by show _=U+(ak.1:Int).toNat * 13+12;omega) rfl rfl rfl rfl ?_;intro dJ bX hf;refine T ?_;have ⟨dR,bC,h⟩:=ob h;have aR:=bX.nC (gP.mk f.Oe f.N0 f.box f.Od f.iw f.gE f.N9 f.iv f.iu f.Ob f.gX f.N8 V) [0,1,3,2,4,5,6,7,8,9,10,11,12,13,14] 3 9 rfl rfl (fun w G hG=>⟨L,O,M,R,aH,aJ,rfl,hG⟩);refine LW.c0 (vQ bC (show g.py.ag.length=(g.py.ag.set (ak.1:Int).toNat (gP.mk f.Oe f.N0 f.box f.Od f.iw f.gE f.N9 f.iv f.iu f.Ob f.gX f.N8 V)).length from (gZ rfl)) (aR.rI 9 rfl)) aR fun dK ai=>?_;refine gs ?_;rw [show g.py.ag.length=(g.py.ag.set (ak.1:Int).toNat (gP.mk f.Oe f.N0 f.box f.Od f.iw f.gE f.N9 f.iv f.iu f.Ob f.gX f.N8 V)).length from (gZ rfl)] at ai;obtain ⟨ca,bl,bI⟩:=ob h;refine CW.jn [5,9,10,11,15,16] [1,2,3,4,5,6,7,8,9,10,11] [(127,.bool ca)] ai (h1:=?_) (h2:=?_)
 · have h:=bl;refine dW ?_;have aS:=ai.drew;refine gB h ?_ ?_<;>intro ct h
   · refine gb h fun dS aC h=>?_;obtain ⟨cP,dv,hae,cx,cA⟩:=aS.hZ (α:=gP) (i:=9) rfl aC;cases hae;refine go ?_;obtain ⟨cF,aA,bY⟩:=aS.freeze (α:=gP) 9 rfl;obtain ⟨cQ,dw,cp,hae,cr,_,_,bg,cv⟩:=aA.jk.idx aC;cases hae;obtain ⟨cM,cY,cN,cZ,cO,c1,rfl,cC,cD,cE⟩:=bg;refine T ?_;have db:=bY.iz (α:=gP) 9 rfl aA;exact rt
   exact rt
 intro e dL aT;have h:=bI;refine gs ?_;obtain ⟨a1,bm,bJ⟩:=ob h;refine CW.cut (fun e wb=>En e [(5,.pointer (some ⟨ce,0,none⟩)),(10,.pointer (some ⟨cf,0,none⟩)),(11,.pointer (some ⟨cg,0,none⟩)),(15,.pointer (some ⟨aK,0,none⟩))]∧St w0 F wb [bx aK 193 [vI ac.Oj,vI ac.n],bx cg 53 [vI 0,vI 0],bx cf 45 [vS none 0 0,vS none 0 0,vS none 0 0,vS none 0 0,vI 0,vI 0,vI 0,vS none 0 0,vS none 0 0,vI 0,vI 0,vI 0,vI 0,vI 0,vI 0,vI 0],bx ce 45 [vS k g.NZ.NY.length z,vS o g.own.length A,vS p g.N1.length B,vS (some ⟨ad,U,none⟩) a1.length C,vI g.py.gc.N2,vI g.py.gc.Oa,vI g.py.gc.N3,vS q g.py.gc.gQ.length H,vS x g.gR.length I,vI g.N6,vI g.N7,vI g.bh.gE,vI g.bh.gT,vI g.bh.g8,vI g.gW,vI g.N5],sl k z g.NZ.NY,sl o A g.own,sl p B g.N1,sl (some ⟨ad,U,none⟩) C a1,sl q H g.py.gc.gQ,sl x I g.gR]) ?_ ?_
 · have h:=bm;refine CW.fl [5,9,10,11,15,16,127] fun e=>?_;refine gc h ?_ ?_<;>intro _ h
   · refine gb h fun dT aD h=>?_;obtain ⟨cR,dx,hae,cy,cB⟩:=aT.hZ (α:=gP) (i:=8) rfl aD;cases hae;refine go ?_;refine gb h fun dU aa h=>?_;refine LW.se 6 aT 8 aD aa (hM:=(je (fun w cs F hF=>by obtain ⟨a8,bb,a9,bc,ba,bd,rfl,hH⟩:=hF;exact ⟨a8,bb,a9,bc,ba,bd,rfl,hH⟩))) fun dM aU=>?_;refine gb h fun dV aE h=>?_;obtain ⟨cS,dy,hae,bv,bw⟩:=aU.hZ (α:=gP) (i:=8) rfl aE;cases hae;(try refine LW.u (iq.ix underlying36 uc rfl rfl bv (by rw [gZ (oi aa)];exact bw)) rfl ?_);refine gb h fun cc aF h=>?_;refine LW.se 7 aU 8 aE aF (hM:=(je (fun w cs F hF=>by obtain ⟨a8,bb,a9,bc,ba,bd,rfl,hH⟩:=hF;exact ⟨a8,bb,a9,bc,ba,bd,rfl,hH⟩))) fun dN bZ=>?_;refine go ?_;rw [show (g.py.ag.set (ak.1:Int).toNat (gP.mk f.Oe f.N0 f.box f.Od f.iw f.gE f.N9 f.iv f.iu f.Ob f.gX f.N8 V)).length=cc.length from ((gZ (oi aa)).trans (gZ (oi aF)))] at bZ;exact rt
   exact rt
 rintro e dO ⟨hE,b1⟩;obtain ⟨e,rfl⟩:=hE.out;have h:=bJ;refine jA ?_;have dc:=b1.drew;refine go ?_;refine AW.u (i:=3) rfl (by kernel_rfl) rfl rfl (iq.build (vs:=[(1,vI ac.n)]) (cs:=#[vI 0,vI ac.n]) rfl (by kernel_rfl)) ?_;refine T ?_;intro dP dd dQ de;exact rt
instance k_160:Ct prog 160:=⟨by kernel_rfl,@E3⟩
theorem Dx {w0 N g bA bB bC q r} (h:qZ N g bA bB bC q=some r) {ab aw ai} (aJ:aw=g.NZ.NY.length) (bD:rb w0 ab ai g.NZ.NY) {ac ax aj} (aK:ax=g.own.length) (bE:rb w0 ac aj g.own) {ad ay ak} (aL:ay=g.N1.length) (bF:rb w0 ad ak g.N1) {ae az am} (aM:az=g.py.ag.length) (bG:rb w0 ae am g.py.ag) {af aA an} (aN:aA=g.py.gc.gQ.length) (bI:rb w0 af an g.py.gc.gQ) {ah aB ao} (aO:aB=g.gR.length) (bJ:rb w0 ah ao g.gR) :
    gV prog 83 #[.agg #[vS ab aw ai,vS ac ax aj,vS ad ay ak,vS ae az am,vI g.py.gc.N2,vI g.py.gc.Oa,vI g.py.gc.N3,vS af aA an,vS ah aB ao,vI g.N6,vI g.N7,vI g.bh.gE,vI g.bh.gT,vI g.bh.g8,vI g.gW,vI g.N5],vI bA,vI bB,vI bC,.agg #[vI q.N0,vI q.a,vI q.b,vI q.c,vI q.d,vI q.e]] w0 (fun v w=>∃ x H, ∃ z I, ∃ A J, ∃ B K, ∃ C L, ∃ G M,v=.tuple #[.agg #[vS x r.1.NZ.NY.length H,vS z r.1.own.length I,vS A r.1.N1.length J,vS B r.1.py.ag.length K,vI r.1.py.gc.N2,vI r.1.py.gc.Oa,vI r.1.py.gc.N3,vS C r.1.py.gc.gQ.length L,vS G r.1.gR.length M,vI r.1.N6,vI r.1.N7,vI r.1.bh.gE,vI r.1.bh.gT,vI r.1.bh.g8,vI r.1.gW,vI r.1.N5],.agg #[vI r.2.code,vI r.2.Oi]]∧St w0 [] w [sl x H r.1.NZ.NY,sl z I r.1.own,sl A J r.1.N1,sl B K r.1.py.ag,sl C L r.1.py.gc.gQ,sl G M r.1.gR]):=by
 subst aJ aK aL aM aN aO;unfold qZ at h;refine gV.fn func83 fun e=>?_;have eW:=St.start w0;refine T ?_;intro fB fF eX fC fG eY fD fH eZ fE fI e0 p e4 h be bl bf bm bg bn bi bo bj bp bk bq e5 e1 eV e6 e2 e7 bu;obtain ⟨bv,a4,br⟩:=ob h;refine CW.jn [1,2,3,5,9,10,11,12] [0,1,2,3,4,5,6,7,8,9,10] [(27,.bool bv)] bu (h1:=?_) (h2:=?_)
 · have h:=a4;refine T ?_;intro ft dD h e8 e3;refine bH h ?_ ?_<;>intro _ h
   · exact rt
   refine T ?_;intro fu dE h e9 cY;refine bH h ?_ ?_<;>intro _ h
   · exact rt
   refine T ?_;intro fv dF h fa cZ;exact rt
 intro e fb c0;have h:=br;refine gc h ?_ ?_<;>intro _ h
 · refine jj [(0,vI 2)] #[vI 2,vI 0] ?_;refine T ?_;intro fc c1 fd c2;exact rt
 refine T ?_;intro fw dG h fe aX;refine CW.fl [1,2,3,9,10,11,12,34] fun e=>?_;refine gc h ?_ ?_<;>intro _ h
 · refine jj [(0,vI 1)] #[vI 1,vI 0] ?_;refine T ?_;intro ff c3 fg c4;exact rt
 refine gc h ?_ ?_<;>intro _ h
 · refine T ?_;intro fx dH h er eH es eI et eJ eu eK ew eL ex eM fh c5 fj c6 fk c7;exact rt
 refine gs ?_;refine CW.region ?_;refine gs ?_;obtain ⟨bw,a5,bs⟩:=ob h;refine CW.jn [1,2,3,9,10,11,12,38] [0,1,2,3,4,5,6,7,8,9] [(48,.bool bw)] aX (h1:=?_) (h2:=?_)
 · have h:=a5;refine gc h ?_ ?_<;>intro _ h
   · exact rt
   exact rt
 intro e fm aY;have h:=bs;refine gc h ?_ ?_<;>intro _ h
 · refine T ?_;intro fy dI h ey eN ez eO eA eP eB eQ eC eR eD eS fp c8 fq c9 fr da;exact rt
 refine gs ?_;refine CW.region ?_;refine gs ?_;obtain ⟨bz,a6,bt⟩:=ob h;refine CW.jn [1,2,3,9,10,11,12,38] [0,1,2,3,4,5,6,7,8,9] [(58,.bool bz)] aY (h1:=?_) (h2:=?_)
 · have h:=a6;refine gc h ?_ ?_<;>intro _ h
   · exact rt
   exact rt
 intro e fs aZ;have h:=bt;refine gc h ?_ ?_<;>intro _ h
 · refine T ?_;intro fA dJ h eE eT eF eU eG cr bR cs bS ct bT cu dL db dM dc dN dd;exact rt
 refine gs ?_;refine CW.region ?_;refine gs ?_;obtain ⟨a7,aG,aU⟩:=ob h;refine CW.jn [1,2,3,9,10,11,12,38] [0,1,2,3,4,5,6,7,8,9] [(68,.bool a7)] aZ (h1:=?_) (h2:=?_)
 · have h:=aG;refine gc h ?_ ?_<;>intro _ h
   · exact rt
   exact rt
 intro e dO ap;have h:=aU;refine gc h ?_ ?_<;>intro _ h
 · refine gb h fun k aR h=>?_;obtain ⟨dK,o,f⟩:=pA aR;obtain ⟨R,f⟩:=iN f;obtain ⟨U,f⟩:=iN f;obtain ⟨V,f⟩:=iN f;obtain ⟨W,f⟩:=iN f;obtain ⟨X,f⟩:=iN f;obtain ⟨Y,f⟩:=iN f;rw [oi f] at o R U V W X Y;obtain ⟨bP,O⟩:=ap.mZ [1,2,3,4,5,6] [0,7,8,9];refine LW.cl (nA o rfl rfl rfl rfl rfl rfl O.st) ?_;rintro _ dP ⟨rfl,hs⟩;have de:=O.back _ _ hs;refine T ?_;intro dQ df dR j;cases h;rw [show p.NZ.NY.length=k.1.NZ.NY.length from R] at j;rw [show p.own.length=k.1.own.length from U] at j;rw [show p.N1.length=k.1.N1.length from V] at j;rw [show p.py.ag.length=k.1.py.ag.length from W] at j;rw [show p.py.gc.gQ.length=k.1.py.gc.gQ.length from X] at j;rw [show p.gR.length=k.1.gR.length from Y] at j;exact Rc (ib.b j 8 rfl kF rfl rfl) (ib.b j 7 rfl kS rfl rfl) ⟨be,bl,bf,bm,bg,bn,bi,bo,bj,bp,bk,bq,rfl,j.pk [0,1,2,3,4,5]⟩
 refine gc h ?_ ?_<;>intro _ h
 · refine T ?_;intro ej bK h bU cv bV cw bW cx bX cy bY cz bZ cA dS dg dT dh dU di;exact rt
 refine gs ?_;refine CW.region ?_;refine gs ?_;obtain ⟨a8,aH,aV⟩:=ob h;refine CW.jn [1,2,3,9,10,11,12,38] [0,1,2,3,4,5,6,7,8,9] [(87,.bool a8)] ap (h1:=?_) (h2:=?_)
 · have h:=aH;refine CW.fl [1,2,3,9,10,11,12,38,87] fun e=>?_;refine gc h ?_ ?_<;>intro _ h
   · exact rt
   refine gc h ?_ ?_<;>intro _ h
   · exact rt
   exact rt
 intro e dV a0;have h:=aV;refine jE [1,2,3,9,10,11,12,38,87] fun e=>?_;refine gc h ?_ ?_<;>intro _ h
 · refine T ?_;intro ek bL h b1 cB b2 cC b3 cD b4 cE b5 cF b6 cG dX dj dY dk dZ dl;exact rt
 refine gs ?_;refine CW.region ?_;refine gs ?_;obtain ⟨a9,aI,aW⟩:=ob h;refine CW.jn [1,2,3,9,10,11,12,38] [0,1,2,3,4,5,6,7,8,9] [(96,.bool a9)] a0 (h1:=?_) (h2:=?_)
 · have h:=aI;refine gc h ?_ ?_<;>intro _ h
   · exact rt
   exact rt
 intro e d0 dm;have h:=aW;refine gc h ?_ ?_<;>intro _ h
 · refine T ?_;intro el bM h b7 cH b8 cI b9 cJ ca cK cb cL cc cM d1 dn d2 dp d3 dq;exact rt
 refine gc h ?_ ?_<;>intro _ h
 · refine T ?_;intro em bN h ce cN cf cO cg cP ci cQ cj cR ck cS d4 dr d5 ds d6 dt;exact rt
 refine gc h ?_ ?_<;>intro _ h
 · refine T ?_;intro en bO h d7 a1;refine CW.fl [9,10,11,12,124] fun e=>?_;refine gc h ?_ ?_<;>intro _ h
   · refine jj [(0,vI 2)] #[vI 2,vI 0] ?_;refine T ?_;intro d8 du d9 dv;exact rt
   refine jA ?_;have a2:=a1.drew;refine go ?_;obtain ⟨bQ,n,a3⟩:=a2.freeze (α:=iL) 6 rfl;have ⟨ba,Z,h⟩:=ob h;obtain ⟨cm,cT,aC,aD,aP⟩:=iM.uL n.jk Z;have au:=(n.jk).le;refine AW.u (i:=5) rfl (by kernel_rfl) rfl rfl (iq.sub (α:=iL) (l:=p.gR) underlying41 xf rfl uO (uN rfl) Z au aC aD) ?_;refine gb h fun bb aa h=>?_;obtain ⟨cn,cU,aE,aF,aQ⟩:=iM.uL n.jk aa;have av:=(n.jk).le;refine AW.u (i:=12) rfl (by kernel_rfl) rfl rfl (iq.sub (α:=iL) (l:=p.gR) underlying41 xf rfl (uN rfl) uO aa av aE aF) ?_;refine jP 0 ?_;refine LW.b0 (α:=iL) a3 ?_;intro co cV ea aq hf;refine T ?_;have ⟨bc,aS,h⟩:=ob h;refine jP 6 ?_;refine LW.jG (l:=([]:List iL)) (m:=ba) tS rfl rfl (aq.rZ 7 rfl aP) aS aq (i:=0) rfl rfl ?_;intro cp cW eb ar hf;refine T ?_;have ⟨ep,aT,h⟩:=ob h;refine jP 13 ?_;refine LW.jG (l:=bc) (m:=bb) tS rfl rfl (ar.rZ 7 rfl aQ) aT ar (i:=0) rfl rfl ?_;intro cq cX ec dw hf;refine T ?_;intro ed dx;refine LW.bd [] #[vI 0,vI 0] ?_;refine T ?_;intro ee dy ef dA;exact rt
 refine jj [(0,vI 2)] #[vI 2,vI 0] ?_;refine T ?_;intro eh dB ei dC;exact rt
instance k_83:Ct prog 83:=⟨by kernel_rfl,@Dx⟩
end Go.Kx
