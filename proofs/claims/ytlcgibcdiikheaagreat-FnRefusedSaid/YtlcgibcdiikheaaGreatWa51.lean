import Derived.Test.YtlcgibcdiikheaaGreatWa45
import Derived.Test.YtlcgibcdiikheaaGreatWa46
import Derived.Test.YtlcgibcdiikheaaGreatWa47
import Derived.Test.YtlcgibcdiikheaaGreatWa48
namespace Go.Kx
open Go Go.RowKit Go.Proofs
open Tryz
set_option maxRecDepth 10000
set_option maxHeartbeats 8000000
set_option linter.unusedVariables false
set_option linter.unusedSimpArgs false
theorem Ey {w0} {F:List Nat} {N g ci cj ck K r} (h:sY N g ci cj ck K=some r) {k a2 z} (bn:a2=g.PB.PA.length) {o a3 A} (bo:a3=g.own.length) {p a4 B} (bp:a4=g.PC.length) {aG a5 C} (bq:a5=g.py.ag.length) {q a6 H} (br:a6=g.py.gc.hZ.length) {x a7 I} (bs:a7=g.ia.length) (hS:St w0 F w0 [sl k z g.PB.PA,sl o A g.own,sl p B g.PC,sl aG C g.py.ag,sl q H g.py.gc.hZ,sl x I g.ia]) :
    iq prog 176 #[.agg #[vS k a2 z,vS o a3 A,vS p a4 B,vS aG a5 C,vI g.py.gc.PD,vI g.py.gc.PL,vI g.py.gc.PF,vS q a6 H,vS x a7 I,vI g.PJ,vI g.PI,vI g.hY.bh,vI g.hY.ib,vI g.hY.ij,vI g.ik,vI g.PH],vI ci,vI cj,vI ck,.agg #[vI K.Pz,vI K.a,vI K.b,vI K.c,vI K.d,vI K.e]] w0 (fun v w=>∃ am au, ∃ an av, ∃ ao aw, ∃ ap ax, ∃ aq ay, ∃ ar az,v=.tuple #[.agg #[vS am r.1.PB.PA.length au,vS an r.1.own.length av,vS ao r.1.PC.length aw,vS ap r.1.py.ag.length ax,vI r.1.py.gc.PD,vI r.1.py.gc.PL,vI r.1.py.gc.PF,vS aq r.1.py.gc.hZ.length ay,vS ar r.1.ia.length az,vI r.1.PJ,vI r.1.PI,vI r.1.hY.bh,vI r.1.hY.ib,vI r.1.hY.ij,vI r.1.ik,vI r.1.PH],.agg #[vI r.2.code,vI r.2.PR]]∧St w0 F w [sl am au r.1.PB.PA,sl an av r.1.own,sl ao aw r.1.PC,sl ap ax r.1.py.ag,sl aq ay r.1.py.gc.hZ,sl ar az r.1.ia]):=by
 subst bn bo bp bq br bs;unfold sY at h;refine iq.fn func176 fun e=>?_;refine T ?_;intro ce eT el eS eU em cf eV en cg eW ep ak ew h eB er;refine CW.fl [1,2,3,5,9,10,11,12,13,27] fun e=>?_;refine gc h ?_ ?_<;>intro _ h
 · refine jL [(0,vI ak.2)] #[vI ak.2,vI 0] ?_;refine T ?_;intro eC es eD et;exact rt
 refine T ?_;intro eP dt h eE bF;refine gc h ?_ ?_<;>intro _ h
 · refine jL [(0,vI 2)] #[vI 2,vI 0] ?_;refine T ?_;intro eF eu eG c4;exact rt
 refine gb h fun f ab h=>?_;obtain ⟨ad,U,hae,dh,dk⟩:=bF.iF (α:=gE) (i:=7) rfl ab;subst hae;refine go ?_;obtain ⟨dX,J,bL⟩:=bF.freeze (α:=gE) 7 rfl;obtain ⟨d7,ex,c2,hae,aV,_,_,b3,aW⟩:=J.kc.idx ab;cases hae;obtain ⟨L,O,M,R,aI,X,rfl,dn,dp,Z⟩:=b3;refine T ?_;refine CW.fl [1,2,3,5,9,10,11,12,14,46] fun e=>?_;refine gc h ?_ ?_<;>intro _ h
 · refine gc h ?_ ?_<;>intro _ h
   · refine jL [(0,vI 8)] #[vI 8,vI 0] ?_;refine T ?_;intro eH c5 eI bM;cases h;have af:=bM.i7 (α:=gE) 7 rfl J;exact Rc (iD.b af 1 rfl lV rfl rfl) (iD.b af 0 rfl lM rfl rfl) ⟨k,z,o,A,p,B,(some ⟨ad,U,none⟩),C,q,H,x,I,rfl,af.pk [4,5,6,7,8,9]⟩
   refine kb ?_;have bN:=bL.drew;refine gb h fun eQ aY h=>?_;obtain ⟨d8,ey,hae,di,dl⟩:=J.iF aY;cases hae;refine go ?_;obtain ⟨d9,ez,c3,hae,df,_,_,b4,dg⟩:=J.kc.idx aY;cases hae;obtain ⟨dY,eb,dZ,ec,d0,ed,rfl,dq,dr,ds⟩:=b4;refine T ?_;refine jP 4 ?_;refine LW.b0 (α:=je) bN ?_;intro d1 ee eJ aL hf;refine T ?_;have ⟨cl,b8,h⟩:=ob h;refine T ?_;refine LW.jT (l:=([]:List je)) (m:=f.PE) rK rfl rfl (aL.rZ 8 rfl Z) b8 aL (i:=0) rfl rfl ?_;intro d2 ef eK c6 hf;refine T ?_;refine jP 16 ?_;refine T ?_;intro W du h eL bO;refine AW.u (i:=19) rfl (by kernel_rfl) rfl rfl (iQ.build (vs:=[(0,vI W),(1,vI K.b)]) (cs:=#[vI W,vI K.b]) rfl (by kernel_rfl)) ?_;refine T ?_;refine LW.wj (α:=je) (vs:=[(0,.agg #[vI W,vI K.b])]) (cs:=#[vI W,vI K.b]) (l:=([je.mk W K.b]:List je)) rfl (by kernel_rfl) rfl rfl rfl (fun w=>⟨[vI W,vI K.b],[],[],[],rfl,rfl,⟨rfl,rfl⟩,rfl⟩) bO rfl ?_;intro d3 eh eM aM hf;refine T ?_;have ⟨bG,b9,h⟩:=ob h;refine T ?_;refine LW.jT (l:=cl) (m:=([je.mk W K.b]:List je)) rK rfl rfl (aM.rI 0 rfl) b9 aM (i:=1) rfl rfl ?_;intro bD bE eN aN hf;refine T ?_;refine go ?_;have b6:=fun (j:Nat) (u:Value) (hu:((qO L O M R aI X f):List Value)[j]?=some u)=>(World.cell?_of_block (aN.zC 9 rfl aV)).trans (aW j u hu);have bP:=aN.i7 (α:=gE) 9 rfl J;obtain ⟨cG,b7,b5⟩:=bP.focus (α:=gE) (cs:=[vI f.PO,vI f.Pz,vI f.box,vI f.res,vI f.iK,vI f.bh,vI f.PK,vI f.iP,vI f.iM,.bool f.mark,vS L f.ig.length O,vS M f.PG.length R,vS aI f.PE.length X]) 9 rfl ab rfl b6;obtain ⟨d4,ei,d5,ej,d6,ek,b2,bK⟩:=b7;cases b2;have bQ:=b5 [sl L O f.ig,sl M R f.PG,sl aI X f.PE] bK;refine T ?_;refine LW.xh (α:=gE) (vs:=[vS bD bG.length bE]) bQ 12 rfl rn rfl (by show _=U+(ak.1:Int).toNat * 13+12;omega) rfl rfl rfl rfl ?_
   intro eO bR hf;refine T ?_;refine go ?_;have aO:=bR.oF (gE.mk f.PO f.Pz f.box f.res f.iK f.bh f.PK f.iP f.iM f.mark f.ig f.PG bG) [0,1,4,2,3,5,6,7,8,9,10,11,12,13,14] 3 9 rfl rfl (fun w G hG=>⟨L,O,M,R,bD,bE,rfl,hG⟩)
   have ⟨eR,aZ,h⟩:=ob h;obtain ⟨ea,eA,hae,dj,dm⟩:=aO.iF (α:=gE) (i:=9) rfl aZ;cases hae;have ⟨cm,a0,h⟩:=ob h;refine LW.se 6 aO 9 aZ a0 (hM:=(ko (fun w cs F hF=>by obtain ⟨a8,bb,a9,bc,ba,bd,rfl,hH⟩:=hF;exact ⟨a8,bb,a9,bc,ba,bd,rfl,hH⟩))) fun dA c7=>?_;refine jL [] #[vI 0,vI 0] ?_;refine T ?_;intro dB c8 dC Y;cases h;rw [show g.py.ag.length=cm.length from ((iB rfl).trans (iB (oi a0)))] at Y;exact Rc (iD.b Y 3 rfl lV rfl rfl) (iD.b Y 2 rfl lM rfl rfl) ⟨k,z,o,A,p,B,(some ⟨ad,U,none⟩),C,q,H,x,I,rfl,Y.pk [6,7,8,9,10,11]⟩
 refine gc h ?_ ?_<;>intro _ h
 · refine jL [(0,vI 8)] #[vI 8,vI 0] ?_;refine T ?_;intro dD c9 dE bS;cases h;have ah:=bS.i7 (α:=gE) 7 rfl J;exact Rc (iD.b ah 1 rfl lV rfl rfl) (iD.b ah 0 rfl lM rfl rfl) ⟨k,z,o,A,p,B,(some ⟨ad,U,none⟩),C,q,H,x,I,rfl,ah.pk [4,5,6,7,8,9]⟩
 refine gb h fun ac bA h=>?_;obtain ⟨ae,aj,co,rfl,cq,cw,cz,rfl,cu⟩:=Z.idx bA;refine go ?_;refine T ?_;intro aK dF da dG bT;refine dW ?_;have bU:=bT.drew;refine gb h fun cb aB h=>?_;obtain ⟨cH,cT,bi,bj,bz⟩:=iR.uN Z aB;have aX:=(Z).le;refine AW.u (i:=6) rfl (by kernel_rfl) rfl rfl (iQ.sub (α:=je) (l:=f.PE) underlying99 GS rfl (uF rfl) uv aB aX bi bj) ?_;refine jP 4 ?_;refine LW.b0 (α:=je) bU ?_;intro cI cU dH aP hf;refine T ?_;have ⟨V,bB,h⟩:=ob h;refine T ?_;refine LW.jT (l:=([]:List je)) (m:=cb) rK rfl rfl (aP.rZ 9 rfl bz) bB aP (i:=0) rfl rfl ?_;intro aH aJ dI aQ hf;refine T ?_;refine go ?_;have bt:=fun (j:Nat) (u:Value) (hu:((qO L O M R (some ⟨ae,aj,none⟩) X f):List Value)[j]?=some u)=>(World.cell?_of_block (aQ.zC 9 rfl aV)).trans (aW j u hu);have bV:=aQ.i7 (α:=gE) 9 rfl J;obtain ⟨cn,bu,bk⟩:=bV.focus (α:=gE) (cs:=[vI f.PO,vI f.Pz,vI f.box,vI f.res,vI f.iK,vI f.bh,vI f.PK,vI f.iP,vI f.iM,.bool f.mark,vS L f.ig.length O,vS M f.PG.length R,vS (some ⟨ae,aj,none⟩) f.PE.length X]) 9 rfl ab rfl bt;obtain ⟨cJ,cV,cK,cW,cL,cX,bf,be⟩:=bu;cases bf;have bW:=bk [sl L O f.ig,sl M R f.PG,sl (some ⟨ae,aj,none⟩) X f.PE] be;refine T ?_;refine LW.xh (α:=gE) (vs:=[vS aH V.length aJ]) bW 12 rfl rn rfl (by show _=U+(ak.1:Int).toNat * 13+12;omega) rfl rfl rfl rfl ?_;intro dJ bX hf;refine T ?_;have ⟨dR,bC,h⟩:=ob h;have aR:=bX.oF (gE.mk f.PO f.Pz f.box f.res f.iK f.bh f.PK f.iP f.iM f.mark f.ig f.PG V) [0,1,3,2,4,5,6,7,8,9,10,11,12,13,14] 3 9 rfl rfl (fun w G hG=>⟨L,O,M,R,aH,aJ,rfl,hG⟩);refine LW.c0 (wC bC (show g.py.ag.length=(g.py.ag.set (ak.1:Int).toNat (gE.mk f.PO f.Pz f.box f.res f.iK f.bh f.PK f.iP f.iM f.mark f.ig f.PG V)).length from (iB rfl)) (aR.rI 9 rfl)) aR fun dK ai=>?_;refine gs ?_;rw [show g.py.ag.length=(g.py.ag.set (ak.1:Int).toNat (gE.mk f.PO f.Pz f.box f.res f.iK f.bh f.PK f.iP f.iM f.mark f.ig f.PG V)).length from (iB rfl)] at ai;obtain ⟨ca,bl,bI⟩:=ob h;refine CW.jn [5,9,10,11,15,16] [1,2,3,4,5,6,7,8,9,10,11] [(127,.bool ca)] ai (h1:=?_) (h2:=?_)
 · have h:=bl;refine dW ?_;have aS:=ai.drew;refine gB h ?_ ?_<;>intro ct h
   · refine gb h fun dS aC h=>?_;obtain ⟨cP,dv,hae,cx,cA⟩:=aS.iF (α:=gE) (i:=9) rfl aC;cases hae;refine go ?_;obtain ⟨cF,aA,bY⟩:=aS.freeze (α:=gE) 9 rfl;obtain ⟨cQ,dw,cp,hae,cr,_,_,bg,cv⟩:=aA.kc.idx aC;cases hae;obtain ⟨cM,cY,cN,cZ,cO,c1,rfl,cC,cD,cE⟩:=bg;refine T ?_;have db:=bY.i7 (α:=gE) 9 rfl aA;exact rt
   exact rt
 intro e dL aT;have h:=bI;refine gs ?_;obtain ⟨a1,bm,bJ⟩:=ob h;refine CW.cut (fun e wb=>En e [(5,.pointer (some ⟨ce,0,none⟩)),(10,.pointer (some ⟨cf,0,none⟩)),(11,.pointer (some ⟨cg,0,none⟩)),(15,.pointer (some ⟨aK,0,none⟩))]∧St w0 F wb [bx aK 193 [vI ac.PS,vI ac.n],bx cg 32 [vI 0,vI 0],bx cf 50 [vS none 0 0,vS none 0 0,vS none 0 0,vS none 0 0,vI 0,vI 0,vI 0,vS none 0 0,vS none 0 0,vI 0,vI 0,vI 0,vI 0,vI 0,vI 0,vI 0],bx ce 50 [vS k g.PB.PA.length z,vS o g.own.length A,vS p g.PC.length B,vS (some ⟨ad,U,none⟩) a1.length C,vI g.py.gc.PD,vI g.py.gc.PL,vI g.py.gc.PF,vS q g.py.gc.hZ.length H,vS x g.ia.length I,vI g.PJ,vI g.PI,vI g.hY.bh,vI g.hY.ib,vI g.hY.ij,vI g.ik,vI g.PH],sl k z g.PB.PA,sl o A g.own,sl p B g.PC,sl (some ⟨ad,U,none⟩) C a1,sl q H g.py.gc.hZ,sl x I g.ia]) ?_ ?_
 · have h:=bm;refine CW.fl [5,9,10,11,15,16,127] fun e=>?_;refine gc h ?_ ?_<;>intro _ h
   · refine gb h fun dT aD h=>?_;obtain ⟨cR,dx,hae,cy,cB⟩:=aT.iF (α:=gE) (i:=8) rfl aD;cases hae;refine go ?_;refine gb h fun dU aa h=>?_;refine LW.se 6 aT 8 aD aa (hM:=(ko (fun w cs F hF=>by obtain ⟨a8,bb,a9,bc,ba,bd,rfl,hH⟩:=hF;exact ⟨a8,bb,a9,bc,ba,bd,rfl,hH⟩))) fun dM aU=>?_;refine gb h fun dV aE h=>?_;obtain ⟨cS,dy,hae,bv,bw⟩:=aU.iF (α:=gE) (i:=8) rfl aE;cases hae;(try refine LW.u (iQ.ix underlying41 vO rfl rfl bv (by rw [iB (oi aa)];exact bw)) rfl ?_);refine gb h fun cc aF h=>?_;refine LW.se 7 aU 8 aE aF (hM:=(ko (fun w cs F hF=>by obtain ⟨a8,bb,a9,bc,ba,bd,rfl,hH⟩:=hF;exact ⟨a8,bb,a9,bc,ba,bd,rfl,hH⟩))) fun dN bZ=>?_;refine go ?_;rw [show (g.py.ag.set (ak.1:Int).toNat (gE.mk f.PO f.Pz f.box f.res f.iK f.bh f.PK f.iP f.iM f.mark f.ig f.PG V)).length=cc.length from ((iB (oi aa)).trans (iB (oi aF)))] at bZ;exact rt
   exact rt
 rintro e dO ⟨hE,b1⟩;obtain ⟨e,rfl⟩:=hE.out;have h:=bJ;refine kb ?_;have dc:=b1.drew;refine go ?_;refine AW.u (i:=3) rfl (by kernel_rfl) rfl rfl (iQ.build (vs:=[(1,vI ac.n)]) (cs:=#[vI 0,vI ac.n]) rfl (by kernel_rfl)) ?_;refine T ?_;intro dP dd dQ de;exact rt
instance k_176:Ct prog 176:=⟨by kernel_rfl,@Ey⟩
theorem CI {w0 N j R p g r} (h:qj N j R p g=some r) {k m l} (n:m=j.parts.length) (o:rb w0 k l j.parts) :
    iq prog 79 #[.agg #[vI j.PQ,vS k m l],vI R,vI p,.agg #[vI g.Pz,vI g.a,vI g.b,vI g.c,vI g.d,vI g.e]] w0 (fun v w=>v=.tuple #[vI r.1,vI r.2]∧St w0 [] w []):=by
 subst n;unfold qj at h;refine iq.fn func79 fun e=>?_;have aA:=St.start w0;refine T ?_;intro aO aQ aB aP aR aC aT aI h aS M;refine gc h ?_ ?_<;>intro _ h
 · exact rt
 refine kb ?_;have aD:=M.drew;refine gb h fun aU O h=>?_;obtain ⟨ap,aJ,U,rfl,V,aH,X,⟨ah,aq,ai,ar,aj,au,ak,av,am,aw,an,ax,rfl,Y,Z,aa,ab,ac,ad⟩,W⟩:=o.idx O;refine go ?_;refine T ?_;refine jP 5 ?_;refine T ?_;intro f ae h q G x H z I A J B K C L aK aE;refine AW.u (i:=9) rfl (by kernel_rfl) rfl rfl (iQ.build (vs:=[(0,.agg #[vS q f.PB.PA.length G,vS x f.own.length H,vS z f.PC.length I,vS A f.py.ag.length J,vI f.py.gc.PD,vI f.py.gc.PL,vI f.py.gc.PF,vS B f.py.gc.hZ.length K,vS C f.ia.length L,vI f.PJ,vI f.PI,vI f.hY.bh,vI f.hY.ib,vI f.hY.ij,vI f.ik,vI f.PH]),(1,vI p),(2,vI j.PQ)]) (cs:=#[vS q f.PB.PA.length G,vS x f.own.length H,vS z f.PC.length I,vS A f.py.ag.length J,vI f.py.gc.PD,vI f.py.gc.PL,vI f.py.gc.PF,vS B f.py.gc.hZ.length K,vS C f.ia.length L,vI f.PJ,vI f.PI,vI f.hY.bh,vI f.hY.ib,vI f.hY.ij,vI f.ik,vI f.PH,vI p,vI j.PQ,vI 0]) rfl (by kernel_rfl)) ?_;refine T ?_;intro az aL aF aN af h ao ay aM aG;exact rt
instance k_79:Ct prog 79:=⟨by kernel_rfl,@CI⟩
theorem CO {w0} {F:List Nat} {N o z r} (h:qp N o z=some r) {O:Nat} {p u} (aX:iR (jo w0 F) w0 p u o.Py.PB.PA) {q x} (aY:iR (jo w0 F) w0 q x o.Py.own) {i k m n j l f g} (hS:St w0 F w0 [bx O 188 (qC p u q x i k m n j l f g o),sl i k o.Py.PC,sl m n o.Py.py.ag,sl j l o.Py.py.gc.hZ,sl f g o.Py.ia]) :
    iq prog 163 #[.pointer (some ⟨O,0,none⟩),.agg #[vI z.Pz,vI z.a,vI z.b,vI z.c,vI z.d,vI z.e]] w0 (fun v w=>∃ A H, ∃ B I, ∃ C J, ∃ G K,v=.tuple #[vI r.1,vI r.2.1]∧St w0 F w [bx O 188 [vS p o.Py.PB.PA.length u,vS q o.Py.own.length x,vS A r.2.2.Py.PC.length H,vS B r.2.2.Py.py.ag.length I,vI r.2.2.Py.py.gc.PD,vI r.2.2.Py.py.gc.PL,vI r.2.2.Py.py.gc.PF,vS C r.2.2.Py.py.gc.hZ.length J,vS G r.2.2.Py.ia.length K,vI r.2.2.Py.PJ,vI r.2.2.Py.PI,vI r.2.2.Py.hY.bh,vI r.2.2.Py.hY.ib,vI r.2.2.Py.hY.ij,vI r.2.2.Py.ik,vI r.2.2.Py.PH,vI r.2.2.me,vI r.2.2.PQ,vI r.2.2.jb],sl A H r.2.2.Py.PC,sl B I r.2.2.Py.py.ag,sl C J r.2.2.Py.py.gc.hZ,sl G K r.2.2.Py.ia]):=by
 unfold qp at h;refine iq.fn func163 fun e=>?_;refine T ?_;intro bK bL aJ;refine gc h ?_ ?_<;>intro _ h
 · refine T ?_;intro bM bg h aZ a1 a0 aq ad ar bi aK;replace h:=oi h;subst h;exact Rc tt tt ⟨aZ,a1,a0,aq,ad,ar,f,g,rfl,aK.pk [0,1,2,3,5]⟩
 refine gs ?_;refine CW.region ?_;refine gs ?_;obtain ⟨aS,Y,aE⟩:=ob h;refine CW.jn [0,3,7] [0,1,2,3,4,5] [(15,.bool aS)] aJ (h1:=?_) (h2:=?_)
 · have h:=Y;refine gc h ?_ ?_<;>intro _ h
   · exact rt
   exact rt
 intro e bj aL;have h:=aE;refine gc h ?_ ?_<;>intro _ h
 · refine T ?_;intro bA a5 h ae au af av bk aM;replace h:=oi h;subst h;exact Rc tt tt ⟨i,k,ae,au,af,av,f,g,rfl,aM.pk [0,4,1,2,5]⟩
 refine gs ?_;refine CW.region ?_;refine gs ?_;obtain ⟨aT,Z,aF⟩:=ob h;refine CW.jn [0,3,7] [0,1,2,3,4,5] [(21,.bool aT)] aL (h1:=?_) (h2:=?_)
 · have h:=Z;refine gc h ?_ ?_<;>intro _ h
   · exact rt
   exact rt
 intro e bl aN;have h:=aF;refine gc h ?_ ?_<;>intro _ h
 · refine T ?_;intro bB a6 h ah aw ai ax bm aO;replace h:=oi h;subst h;exact Rc tt tt ⟨i,k,ah,aw,ai,ax,f,g,rfl,aO.pk [0,4,1,2,5]⟩
 refine gs ?_;refine CW.region ?_;refine gs ?_;obtain ⟨aU,aa,aG⟩:=ob h;refine CW.jn [0,3,7] [0,1,2,3,4,5] [(27,.bool aU)] aN (h1:=?_) (h2:=?_)
 · have h:=aa;refine CW.fl [0,3,7,27] fun e=>?_;refine gc h ?_ ?_<;>intro _ h
   · exact rt
   exact rt
 intro e bn aP;have h:=aG;refine kD [0,3,7,27] fun e=>?_;refine gc h ?_ ?_<;>intro _ h
 · refine T ?_;intro bC a8 h aj ay bo aQ;replace h:=oi h;subst h;exact Rc tt tt ⟨i,k,aj,ay,j,l,f,g,rfl,aQ.pk [0,3,1,4,5]⟩
 refine gc h ?_ ?_<;>intro _ h
 · refine T ?_;intro bD ba h ak az am aA bp aR;replace h:=oi h;subst h;exact Rc tt tt ⟨ak,az,am,aA,j,l,f,g,rfl,aR.pk [0,1,2,4,5]⟩
 refine gs ?_;refine CW.region ?_;refine gs ?_;obtain ⟨aV,ab,aH⟩:=ob h;refine CW.jn [0,3,7] [0,1,2,3,4,5] [(40,.bool aV)] aP (h1:=?_) (h2:=?_)
 · have h:=ab;refine gc h ?_ ?_<;>intro _ h
   · exact rt
   refine gc h ?_ ?_<;>intro _ h
   · exact rt
   exact rt
 intro e bq R;have h:=aH;refine gc h ?_ ?_<;>intro _ h
 · refine T ?_;intro bE bb h an aB br U;replace h:=oi h;subst h;exact Rc tt tt ⟨an,aB,m,n,j,l,f,g,rfl,U.pk [0,1,3,4,5]⟩
 refine gs ?_;refine CW.region ?_;refine gs ?_;obtain ⟨aW,ac,aI⟩:=ob h;refine CW.jn [0,3,7] [0,1,2,3,4,5] [(49,.bool aW)] R (h1:=?_) (h2:=?_)
 · have h:=ac;refine gc h ?_ ?_<;>intro _ h
   · exact rt
   exact rt
 intro e bs L;have h:=aI;refine gc h ?_ ?_<;>intro _ h
 · refine T ?_;intro bF bc h ao aC bt V;replace h:=oi h;subst h;exact Rc tt tt ⟨i,k,ao,aC,j,l,f,g,rfl,V.pk [0,3,1,4,5]⟩
 refine gc h ?_ ?_<;>intro _ h
 · refine T ?_;intro bG bd h bu W;replace h:=oi h;subst h;exact Rc tt tt ⟨i,k,m,n,j,l,f,g,rfl,W.pk [0,2,3,4,5]⟩
 refine gc h ?_ ?_<;>intro _ h
 · refine kb ?_;have a2:=L.drew;refine T ?_;intro bI be h bv M;refine gc h ?_ ?_<;>intro _ h
   · refine go ?_;replace h:=oi h;subst h;exact Rc tt tt ⟨i,k,m,n,j,l,f,g,rfl,M.pk [1,2,3,4,5]⟩
   refine kb ?_;have a3:=M.drew;refine T ?_;intro bJ bf h ap aD bw a4 bz X;replace h:=oi h;subst h;exact Rc tt tt ⟨i,k,m,n,j,l,ap,aD,rfl,X.pk [2,3,4,5,0]⟩
 refine go ?_;replace h:=oi h;subst h;exact Rc tt tt ⟨i,k,m,n,j,l,f,g,rfl,L.pk [1,2,3,4,5]⟩
instance k_163:Ct prog 163:=⟨by kernel_rfl,@CO⟩
end Go.Kx
