import Derived.Test.YtdlodpchnaojhaaGreatWa17
namespace Go.Kx
open Go Go.RowKit Go.Proofs
open Tryz
set_option maxRecDepth 10000
set_option maxHeartbeats 8000000
set_option linter.unusedVariables false
set_option linter.unusedSimpArgs false
theorem z5 {w0} {F:List Nat} {N g z r} (h:nQ N g z=some r) {aF:Nat} {U Z} (bq:iM (jo w0 F) w0 U Z g.NX.NZ.NY) {V aa} (br:iM (jo w0 F) w0 V aa g.NX.own) {W ab} (bs:iM (jo w0 F) w0 W ab g.NX.N1) {ai o X ac} (bt:iM (jo w0 F) w0 X ac g.NX.py.gc.gQ) {Y ad} (bu:iM (jo w0 F) w0 Y ad g.NX.gR) (hS:St w0 F w0 [bx aF 188 [vS U g.NX.NZ.NY.length Z,vS V g.NX.own.length aa,vS W g.NX.N1.length ab,vS ai g.NX.py.ag.length o,vI g.NX.py.gc.N2,vI g.NX.py.gc.Oa,vI g.NX.py.gc.N3,vS X g.NX.py.gc.gQ.length ac,vS Y g.NX.gR.length ad,vI g.NX.N6,vI g.NX.N7,vI g.NX.bh.gE,vI g.NX.bh.gT,vI g.NX.bh.g8,vI g.NX.gW,vI g.NX.N5,vI g.me,vI g.Oc,vI g.ig],sl ai o g.NX.py.ag]) :
    gV prog 233 #[.pointer (some ⟨aF,0,none⟩),.agg #[vI z.N0,vI z.a,vI z.b,vI z.c,vI z.d,vI z.e]] w0 (fun v w=>∃ ao ap,v=.tuple #[vI r.1,vI r.2.1]∧St w0 F w [bx aF 188 [vS U g.NX.NZ.NY.length Z,vS V g.NX.own.length aa,vS W g.NX.N1.length ab,vS ao r.2.2.NX.py.ag.length ap,vI r.2.2.NX.py.gc.N2,vI r.2.2.NX.py.gc.Oa,vI r.2.2.NX.py.gc.N3,vS X g.NX.py.gc.gQ.length ac,vS Y g.NX.gR.length ad,vI r.2.2.NX.N6,vI r.2.2.NX.N7,vI r.2.2.NX.bh.gE,vI r.2.2.NX.bh.gT,vI r.2.2.NX.bh.g8,vI r.2.2.NX.gW,vI r.2.2.NX.N5,vI r.2.2.me,vI r.2.2.Oc,vI r.2.2.ig],sl ao ap r.2.2.NX.py.ag]):=by
 unfold nQ at h;refine gV.fn func233 fun e=>?_;refine tK hS fun d3 d4 cn=>?_;refine gb h fun k cr h=>?_;obtain ⟨d2,J⟩:=cn.mZ [1] [0,2];refine LW.cl (n8 cr (J.rB bq) (J.rB br) (J.rB bs) (J.rI 1 rfl) (J.rB bt) (J.rB bu) J.st) ?_;rintro _ aA ⟨rfl,hs⟩;have aL:=J.back _ _ hs;refine jE [0,3,6,7,21] fun e=>?_;refine gc h ?_ ?_<;>intro _ h
 · refine go ?_;replace h:=oi h;subst h;exact Rc tt tt ⟨ai,o,rfl,aL.pk [0,2]⟩
 refine go ?_;refine LW.u (iq.nc rfl) rfl ?_;refine gb h fun f az h=>?_;obtain ⟨O,K,hae,dM,c2⟩:=aL.hZ (α:=gP) (i:=2) rfl az;subst hae;refine go ?_;obtain ⟨ds,q,bC⟩:=aL.freeze (α:=gP) 2 rfl;obtain ⟨dB,dN,cW,hae,p,_,_,bY,A⟩:=q.jk.idx az;cases hae;obtain ⟨B,H,C,I,aC,R,rfl,c5,c6,an⟩:=bY;refine LW.l (jf.jX aA nR rfl (A 12 _ rfl)) (bC.zC 2 rfl p) rfl ?_;refine gb h fun dZ b9 h=>?_;refine LW.c0 (lN b9) bC fun dR L=>?_;refine jE [0,3,6,8,9,38] fun e=>?_;refine gc h ?_ ?_<;>intro _ h
 · refine go ?_;replace h:=oi h;subst h;have co:=L.iz (α:=gP) 2 rfl q;exact Rc tt tt ⟨(some ⟨O,K,none⟩),o,rfl,co.pk [0,2]⟩
 refine gs ?_;obtain ⟨ct,b2,cm⟩:=ob h;refine CW.jn [0,3,6,8] [0,1,2] [(54,.bool ct)] L (h1:=?_) (h2:=?_)
 · have h:=b2;refine gB h ?_ ?_<;>intro _ h
   · refine gB h ?_ ?_<;>intro _ h
     · refine go ?_;cases oi h;exact L.po [0,1,2]
     refine gB h ?_ ?_<;>intro _ h
     · refine go ?_;cases oi h;exact L.po [0,1,2]
     refine go ?_;cases oi h;exact L.po [0,1,2]
   refine gB h ?_ ?_<;>intro _ h
   · refine go ?_;cases oi h;exact L.po [0,1,2]
   refine go ?_;cases oi h;exact L.po [0,1,2]
 intro e dS ah;have h:=cm;refine gc h ?_ ?_<;>intro _ h
 · refine go ?_;replace h:=oi h;subst h;have cp:=ah.iz (α:=gP) 2 rfl q;exact Rc tt tt ⟨(some ⟨O,K,none⟩),o,rfl,cp.pk [0,2]⟩
 refine gc h ?_ ?_<;>intro _ h
 · refine jA ?_;have bD:=ah.drew;refine gb h fun d0 aU h=>?_;obtain ⟨dC,dO,hae,cZ,c3⟩:=q.hZ aU;cases hae;refine go ?_;obtain ⟨dD,dP,cX,hae,bW,_,_,bZ,b3⟩:=q.jk.idx aU;cases hae;obtain ⟨dt,dF,du,dG,dv,dH,rfl,c7,c8,c9⟩:=bZ;refine AW.tk 15 rfl (jf.jX aA mK rfl (b3 0 _ rfl)) (bD.zC 2 rfl bW) ?_;have ⟨M,ca,h⟩:=ob h;refine jO 16 ?_;refine LW.cl (yq ca) ?_;rintro _ dT ⟨rfl,hs⟩;have cq:=bD.add hs;refine jn ?_;refine jA ?_;have aH:=cq.drew;refine go ?_;refine AW.tk 6 rfl (jf.jX aA nR rfl (A 12 _ rfl)) (aH.zC 2 rfl p) ?_;refine go ?_;refine AW.u (i:=10) rfl (by kernel_rfl) rfl rfl (iq.build (vs:=[(0,vI M),(1,vI z.b)]) (cs:=#[vI M,vI z.b]) rfl (by kernel_rfl)) ?_;refine jO 11 ?_;refine LW.xI (α:=iS) (vs:=[(0,.agg #[vI M,vI z.b])]) (cs:=#[vI M,vI z.b]) (l:=([iS.mk M z.b]:List iS)) rfl (by kernel_rfl) rfl rfl rfl (fun w=>⟨[vI M,vI z.b],[],[],[],rfl,rfl,⟨rfl,rfl⟩,rfl⟩) aH rfl ?_;intro dw dI dU ae hf;refine jN (.c (ae.ce 2) (.c (ae.zC 3 rfl p) jZ)) ?_;have b5:=fun (j:Nat) (u:Value) (hu:((qO B H C I aC R f):List Value)[j]?=some u)=>(World.cell?_of_block (ae.zC 3 rfl p)).trans (A j u hu);have bJ:=ae.iz (α:=gP) 3 rfl q;obtain ⟨cB,b6,b1⟩:=bJ.focus (α:=gP) (cs:=[vI f.Oe,vI f.N0,vI f.box,vI f.Od,vI f.iw,vI f.gE,vI f.N9,vI f.iv,vI f.iu,.bool f.Ob,vS B f.gX.length H,vS C f.N8.length I,vS aC f.N4.length R]) 3 rfl az rfl b5;obtain ⟨dx,dJ,dy,dK,dA,dL,bX,bI⟩:=b6;cases bX;have aI:=b1 [sl B H f.gX,sl C I f.N8,sl aC R f.N4] bI;have ⟨a5,cb,h⟩:=ob h;refine jO 12 ?_;refine LW.jG (l:=f.N4) (m:=([iS.mk M z.b]:List iS)) oI rfl rfl (aI.rI 3 rfl) cb aI (i:=2) rfl rfl ?_;intro bA bB dV bK hf;refine jn ?_;refine zr 15 ?_;refine LW.vN (α:=gP) (vs:=[vS bA a5.length bB]) bK 6 rfl nR rfl (by show _=K+(k.1:Int).toNat * 13+12;omega) rfl rfl rfl rfl ?_;intro dX bL hf;refine jn ?_;refine go ?_;have bM:=bL.nC (gP.mk f.Oe f.N0 f.box f.Od f.iw f.gE f.N9 f.iv f.iu f.Ob f.gX f.N8 a5) [0,1,2,3,4,5,6] 3 3 rfl rfl (fun w G hG=>⟨B,H,C,I,bA,bB,rfl,hG⟩)
   refine dW ?_;have aJ:=bM.drew;refine gb h fun d1 aV h=>?_;obtain ⟨dE,dQ,hae,b7,b8⟩:=aJ.hZ (α:=gP) (i:=3) rfl aV;cases hae;(try refine AW.ux (i:=8) (by decide +kernel) rfl (by kernel_rfl) rfl rfl (iq.ix underlying36 uc rfl rfl b7 (by rw [show g.NX.py.ag.length=(g.NX.py.ag.set (k.1:Int).toNat (gP.mk f.Oe f.N0 f.box f.Od f.iw f.gE f.N9 f.iv f.iu f.Ob f.gX f.N8 a5)).length from (gZ rfl)];exact b8)) ?_);refine gb h fun cu aW h=>?_;refine jO 10 ?_;refine LW.se 6 aJ 3 aV aW (hM:=(je (fun w cs F hF=>by obtain ⟨aZ,a2,a0,a3,a1,a4,rfl,hH⟩:=hF;exact ⟨aZ,a2,a0,a3,a1,a4,rfl,hH⟩))) fun dY aK=>?_;refine jn ?_;refine go ?_;replace h:=oi h;subst h;rw [show g.NX.py.ag.length=cu.length from ((gZ rfl).trans (gZ (oi aW)))] at aK;exact Rc tt tt ⟨(some ⟨O,K,none⟩),o,rfl,aK.pk [1,3]⟩
 refine go ?_;refine LW.l (jf.jX aA nR rfl (A 12 _ rfl)) (ah.zC 2 rfl p) rfl ?_;have ⟨bE,cc,h⟩:=ob h;obtain ⟨aD,aY,cY,rfl,a7,c1,c4,rfl,b4⟩:=an.idx cc;refine go ?_;refine LW.l (jf.tR aA JW rfl rfl (fun j u hu=>b4 j u hu)) (ah.zC 2 rfl a7) rfl ?_;refine LW.al ah fun aG de bN=>?_;refine LW.st bN 0 fun df bO=>?_;refine go ?_;refine LW.b0 (α:=iS) bO ?_;intro cC cO dg aj hf;refine go ?_;refine LW.l (jf.jX aA nR rfl (A 12 _ rfl)) (aj.zC 4 rfl p) rfl ?_;have ⟨ci,au,h⟩:=ob h;obtain ⟨cD,cP,bb,bc,bv⟩:=iM.uL an au;have aT:=(an).le;refine LW.u (iq.sub (α:=iS) (l:=f.N4) underlying158 Gw rfl (uN rfl) uO au aT bb bc) rfl ?_;have ⟨x,bw,h⟩:=ob h;refine LW.jG (l:=([]:List iS)) (m:=ci) oI rfl rfl (aj.rZ 4 rfl bv) bw aj (i:=0) rfl rfl ?_;intro aB aE dh aM hf;refine go ?_;have bi:=fun (j:Nat) (u:Value) (hu:((qO B H C I (some ⟨aD,aY,none⟩) R f):List Value)[j]?=some u)=>(World.cell?_of_block (aM.zC 4 rfl p)).trans (A j u hu);have bP:=aM.iz (α:=gP) 4 rfl q;obtain ⟨cv,bj,bd⟩:=bP.focus (α:=gP) (cs:=[vI f.Oe,vI f.N0,vI f.box,vI f.Od,vI f.iw,vI f.gE,vI f.N9,vI f.iv,vI f.iu,.bool f.Ob,vS B f.gX.length H,vS C f.N8.length I,vS (some ⟨aD,aY,none⟩) f.N4.length R]) 4 rfl az rfl bi;obtain ⟨cE,cQ,cF,cR,cG,cS,a9,a6⟩:=bj;cases a9;have bQ:=bd [sl B H f.gX,sl C I f.N8,sl (some ⟨aD,aY,none⟩) R f.N4] a6;refine LW.vN (α:=gP) (vs:=[vS aB x.length aE]) bQ 7 rfl nR rfl (by show _=K+(k.1:Int).toNat * 13+12;omega) rfl rfl rfl rfl ?_;intro di bR hf;refine go ?_;have bS:=bR.nC (gP.mk f.Oe f.N0 f.box f.Od f.iw f.gE f.N9 f.iv f.iu f.Ob f.gX f.N8 x) [0,1,3,2,4,5,6,7] 3 4 rfl rfl (fun w G hG=>⟨B,H,C,I,aB,aE,rfl,hG⟩);refine dW ?_;have aN:=bS.drew;refine gb h fun dn bz h=>?_;refine jO 11 ?_;refine LW.cl (tj bz (show g.NX.py.ag.length=(g.NX.py.ag.set (k.1:Int).toNat (gP.mk f.Oe f.N0 f.box f.Od f.iw f.gE f.N9 f.iv f.iu f.Ob f.gX f.N8 x)).length from (gZ rfl)) (aN.rI 4 rfl)) ?_;rintro _ cg ⟨rfl,hs⟩;have ak:=aN.add hs;refine jn ?_;refine gs ?_;rw [show g.NX.py.ag.length=(g.NX.py.ag.set (k.1:Int).toNat (gP.mk f.Oe f.N0 f.box f.Od f.iw f.gE f.N9 f.iv f.iu f.Ob f.gX f.N8 x)).length from (gZ rfl)] at ak;obtain ⟨cf,be,bF⟩:=ob h;refine CW.jn [0,3,8,11,12] [1,2,3,4] [(143,.bool cf)] ak (h1:=?_) (h2:=?_)
 · have h:=be;refine dW ?_;have am:=ak.drew;refine gB h ?_ ?_<;>intro aq h
   · refine gb h fun dp av h=>?_;obtain ⟨cK,da,hae,bk,bn⟩:=am.hZ (α:=gP) (i:=4) rfl av;cases hae;(try refine AW.ux (i:=5) (by decide +kernel) rfl (by kernel_rfl) (lz rfl rfl aq) rfl (iq.ix underlying36 uc rfl rfl bk (by rw [show g.NX.py.ag.length=(g.NX.py.ag.set (k.1:Int).toNat (gP.mk f.Oe f.N0 f.box f.Od f.iw f.gE f.N9 f.iv f.iu f.Ob f.gX f.N8 x)).length from (gZ rfl)];exact bn)) ?_);refine go ?_;obtain ⟨cA,ar,aO⟩:=am.freeze (α:=gP) 4 rfl;obtain ⟨cL,db,cw,hae,a8,_,_,ba,bg⟩:=ar.jk.idx av;cases hae;obtain ⟨cH,cT,cI,cU,cJ,cV,rfl,cx,cy,cz⟩:=ba;refine AW.take (i:=7) rfl (by kernel_rfl) (lz rfl rfl aq) rfl (jf.jX cg.drew mK rfl (bg 6 _ rfl)) (aO.zC 4 rfl a8) ?_;refine go ?_;have bT:=aO.iz (α:=gP) 4 rfl ar;cases oi h;exact bT.po [1,2,3,4]
   refine go ?_;cases oi h;exact am.po [1,2,3,4]
 intro e dj aP;have h:=bF;refine gs ?_;obtain ⟨aX,bf,bG⟩:=ob h;refine CW.cut (fun e wb=>En e [(0,.pointer (some ⟨aF,0,none⟩)),(11,.pointer (some ⟨aG,0,none⟩))]∧St w0 F wb [bx aG 193 [vI bE.Oj,vI bE.n],bx aF 188 [vS U g.NX.NZ.NY.length Z,vS V g.NX.own.length aa,vS W g.NX.N1.length ab,vS (some ⟨O,K,none⟩) aX.length o,vI k.2.2.NX.py.gc.N2,vI k.2.2.NX.py.gc.Oa,vI k.2.2.NX.py.gc.N3,vS X g.NX.py.gc.gQ.length ac,vS Y g.NX.gR.length ad,vI k.2.2.NX.N6,vI k.2.2.NX.N7,vI k.2.2.NX.bh.gE,vI k.2.2.NX.bh.gT,vI k.2.2.NX.bh.g8,vI k.2.2.NX.gW,vI k.2.2.NX.N5,vI k.2.2.me,vI k.2.2.Oc,vI k.2.2.ig],sl (some ⟨O,K,none⟩) o aX]) ?_ ?_
 · have h:=bf;refine gc h ?_ ?_<;>intro _ h
   · refine dW ?_;have aQ:=aP.drew;refine gb h fun dq aw h=>?_;obtain ⟨cM,dc,hae,bl,bo⟩:=aQ.hZ (α:=gP) (i:=3) rfl aw;cases hae;(try refine AW.ux (i:=6) (by decide +kernel) rfl (by kernel_rfl) rfl rfl (iq.ix underlying36 uc rfl rfl bl (by rw [show g.NX.py.ag.length=(g.NX.py.ag.set (k.1:Int).toNat (gP.mk f.Oe f.N0 f.box f.Od f.iw f.gE f.N9 f.iv f.iu f.Ob f.gX f.N8 x)).length from (gZ rfl)];exact bo)) ?_);refine gb h fun cj af h=>?_;refine jO 8 ?_;refine LW.se 6 aQ 3 aw af (hM:=(je (fun w cs F hF=>by obtain ⟨aZ,a2,a0,a3,a1,a4,rfl,hH⟩:=hF;exact ⟨aZ,a2,a0,a3,a1,a4,rfl,hH⟩))) fun dk aR=>?_;refine jn ?_;have ⟨dr,ax,h⟩:=ob h;obtain ⟨cN,dd,hae,bm,bp⟩:=aR.hZ (α:=gP) (i:=3) rfl ax;cases hae;(try refine AW.ux (i:=9) (by decide +kernel) rfl (by kernel_rfl) rfl rfl (iq.ix underlying36 uc rfl rfl bm (by rw [show g.NX.py.ag.length=cj.length from ((gZ rfl).trans (gZ (oi af)))];exact bp)) ?_);refine gb h fun ck ay h=>?_;refine jO 11 ?_;refine LW.se 7 aR 3 ax ay (hM:=(je (fun w cs F hF=>by obtain ⟨aZ,a2,a0,a3,a1,a4,rfl,hH⟩:=hF;exact ⟨aZ,a2,a0,a3,a1,a4,rfl,hH⟩))) fun dl aS=>?_;refine jn ?_;refine go ?_;rw [show (g.NX.py.ag.set (k.1:Int).toNat (gP.mk f.Oe f.N0 f.box f.Od f.iw f.gE f.N9 f.iv f.iu f.Ob f.gX f.N8 x)).length=ck.length from ((gZ (oi af)).trans (gZ (oi ay)))] at aS;cases oi h;exact aS.po [0,1,3]
   refine go ?_;cases oi h;exact aP.po [0,1,3]
 rintro e dm ⟨hE,bU⟩;obtain ⟨e,rfl⟩:=hE.out;have h:=bG;refine jA ?_;have bV:=bU.drew;refine go ?_;replace h:=oi h;subst h;exact Rc tt tt ⟨(some ⟨O,K,none⟩),o,rfl,bV.pk [1,2]⟩
instance k_233:Ct prog 233:=⟨by kernel_rfl,@z5⟩
theorem Cg {w0 N j R p g r} (h:qa N j R p g=some r) {k m l} (n:m=j.parts.length) (o:rb w0 k l j.parts) :
    gV prog 73 #[.agg #[vI j.Oc,vS k m l],vI R,vI p,.agg #[vI g.N0,vI g.a,vI g.b,vI g.c,vI g.d,vI g.e]] w0 (fun v w=>v=.tuple #[vI r.1,vI r.2]∧St w0 [] w []):=by
 subst n;unfold qa at h;refine gV.fn func73 fun e=>?_;have aA:=St.start w0;refine T ?_;intro aO aQ aB aP aR aC aT aI h aS M;refine gc h ?_ ?_<;>intro _ h
 · exact rt
 refine jA ?_;have aD:=M.drew;refine gb h fun aU O h=>?_;obtain ⟨ap,aJ,U,rfl,V,aH,X,⟨ah,aq,ai,ar,aj,au,ak,av,am,aw,an,ax,rfl,Y,Z,aa,ab,ac,ad⟩,W⟩:=o.idx O;refine go ?_;refine T ?_;refine jP 5 ?_;refine T ?_;intro f ae h q G x H z I A J B K C L aK aE;refine AW.u (i:=9) rfl (by kernel_rfl) rfl rfl (iq.build (vs:=[(0,.agg #[vS q f.NZ.NY.length G,vS x f.own.length H,vS z f.N1.length I,vS A f.py.ag.length J,vI f.py.gc.N2,vI f.py.gc.Oa,vI f.py.gc.N3,vS B f.py.gc.gQ.length K,vS C f.gR.length L,vI f.N6,vI f.N7,vI f.bh.gE,vI f.bh.gT,vI f.bh.g8,vI f.gW,vI f.N5]),(1,vI p),(2,vI j.Oc)]) (cs:=#[vS q f.NZ.NY.length G,vS x f.own.length H,vS z f.N1.length I,vS A f.py.ag.length J,vI f.py.gc.N2,vI f.py.gc.Oa,vI f.py.gc.N3,vS B f.py.gc.gQ.length K,vS C f.gR.length L,vI f.N6,vI f.N7,vI f.bh.gE,vI f.bh.gT,vI f.bh.g8,vI f.gW,vI f.N5,vI p,vI j.Oc,vI 0]) rfl (by kernel_rfl)) ?_;refine T ?_;intro az aL aF aN af h ao ay aM aG;exact rt
instance k_73:Ct prog 73:=⟨by kernel_rfl,@Cg⟩
theorem Cq {w0} {F:List Nat} {N o z r} (h:qb N o z=some r) {O:Nat} {p u} (aX:iM (jo w0 F) w0 p u o.NX.NZ.NY) {q x} (aY:iM (jo w0 F) w0 q x o.NX.own) {i k m n j l f g} (hS:St w0 F w0 [bx O 188 (qC p u q x i k m n j l f g o),sl i k o.NX.N1,sl m n o.NX.py.ag,sl j l o.NX.py.gc.gQ,sl f g o.NX.gR]) :
    gV prog 146 #[.pointer (some ⟨O,0,none⟩),.agg #[vI z.N0,vI z.a,vI z.b,vI z.c,vI z.d,vI z.e]] w0 (fun v w=>∃ A H, ∃ B I, ∃ C J, ∃ G K,v=.tuple #[vI r.1,vI r.2.1]∧St w0 F w [bx O 188 [vS p o.NX.NZ.NY.length u,vS q o.NX.own.length x,vS A r.2.2.NX.N1.length H,vS B r.2.2.NX.py.ag.length I,vI r.2.2.NX.py.gc.N2,vI r.2.2.NX.py.gc.Oa,vI r.2.2.NX.py.gc.N3,vS C r.2.2.NX.py.gc.gQ.length J,vS G r.2.2.NX.gR.length K,vI r.2.2.NX.N6,vI r.2.2.NX.N7,vI r.2.2.NX.bh.gE,vI r.2.2.NX.bh.gT,vI r.2.2.NX.bh.g8,vI r.2.2.NX.gW,vI r.2.2.NX.N5,vI r.2.2.me,vI r.2.2.Oc,vI r.2.2.ig],sl A H r.2.2.NX.N1,sl B I r.2.2.NX.py.ag,sl C J r.2.2.NX.py.gc.gQ,sl G K r.2.2.NX.gR]):=by
 unfold qb at h;refine gV.fn func146 fun e=>?_;refine T ?_;intro bK bL aJ;refine gc h ?_ ?_<;>intro _ h
 · refine T ?_;intro bM bg h aZ a1 a0 aq ad ar bi aK;replace h:=oi h;subst h;exact Rc tt tt ⟨aZ,a1,a0,aq,ad,ar,f,g,rfl,aK.pk [0,1,2,3,5]⟩
 refine gs ?_;refine CW.region ?_;refine gs ?_;obtain ⟨aS,Y,aE⟩:=ob h;refine CW.jn [0,3,7] [0,1,2,3,4,5] [(15,.bool aS)] aJ (h1:=?_) (h2:=?_)
 · have h:=Y;refine gc h ?_ ?_<;>intro _ h
   · exact rt
   exact rt
 intro e bj aL;have h:=aE;refine gc h ?_ ?_<;>intro _ h
 · refine T ?_;intro bA a5 h ae au af av bk aM;replace h:=oi h;subst h;exact Rc tt tt ⟨i,k,ae,au,af,av,f,g,rfl,aM.pk [0,4,1,2,5]⟩
 refine gs ?_;refine CW.region ?_;refine gs ?_;obtain ⟨aT,Z,aF⟩:=ob h;refine CW.jn [0,3,7] [0,1,2,3,4,5] [(21,.bool aT)] aL (h1:=?_) (h2:=?_)
 · have h:=Z;refine gc h ?_ ?_<;>intro _ h
   · exact rt
   exact rt
 intro e bl aN;have h:=aF;refine gc h ?_ ?_<;>intro _ h
 · refine T ?_;intro bB a6 h ah aw ai ax bm aO;replace h:=oi h;subst h;exact Rc tt tt ⟨i,k,ah,aw,ai,ax,f,g,rfl,aO.pk [0,4,1,2,5]⟩
 refine gs ?_;refine CW.region ?_;refine gs ?_;obtain ⟨aU,aa,aG⟩:=ob h;refine CW.jn [0,3,7] [0,1,2,3,4,5] [(27,.bool aU)] aN (h1:=?_) (h2:=?_)
 · have h:=aa;refine CW.fl [0,3,7,27] fun e=>?_;refine gc h ?_ ?_<;>intro _ h
   · exact rt
   exact rt
 intro e bn aP;have h:=aG;refine jE [0,3,7,27] fun e=>?_;refine gc h ?_ ?_<;>intro _ h
 · refine T ?_;intro bC a8 h aj ay bo aQ;replace h:=oi h;subst h;exact Rc tt tt ⟨i,k,aj,ay,j,l,f,g,rfl,aQ.pk [0,3,1,4,5]⟩
 refine gc h ?_ ?_<;>intro _ h
 · refine T ?_;intro bD ba h ak az am aA bp aR;replace h:=oi h;subst h;exact Rc tt tt ⟨ak,az,am,aA,j,l,f,g,rfl,aR.pk [0,1,2,4,5]⟩
 refine gs ?_;refine CW.region ?_;refine gs ?_;obtain ⟨aV,ab,aH⟩:=ob h;refine CW.jn [0,3,7] [0,1,2,3,4,5] [(40,.bool aV)] aP (h1:=?_) (h2:=?_)
 · have h:=ab;refine gc h ?_ ?_<;>intro _ h
   · exact rt
   refine gc h ?_ ?_<;>intro _ h
   · exact rt
   exact rt
 intro e bq R;have h:=aH;refine gc h ?_ ?_<;>intro _ h
 · refine T ?_;intro bE bb h an aB br U;replace h:=oi h;subst h;exact Rc tt tt ⟨an,aB,m,n,j,l,f,g,rfl,U.pk [0,1,3,4,5]⟩
 refine gs ?_;refine CW.region ?_;refine gs ?_;obtain ⟨aW,ac,aI⟩:=ob h;refine CW.jn [0,3,7] [0,1,2,3,4,5] [(49,.bool aW)] R (h1:=?_) (h2:=?_)
 · have h:=ac;refine gc h ?_ ?_<;>intro _ h
   · exact rt
   exact rt
 intro e bs L;have h:=aI;refine gc h ?_ ?_<;>intro _ h
 · refine T ?_;intro bF bc h ao aC bt V;replace h:=oi h;subst h;exact Rc tt tt ⟨i,k,ao,aC,j,l,f,g,rfl,V.pk [0,3,1,4,5]⟩
 refine gc h ?_ ?_<;>intro _ h
 · refine T ?_;intro bG bd h bu W;replace h:=oi h;subst h;exact Rc tt tt ⟨i,k,m,n,j,l,f,g,rfl,W.pk [0,2,3,4,5]⟩
 refine gc h ?_ ?_<;>intro _ h
 · refine jA ?_;have a2:=L.drew;refine T ?_;intro bI be h bv M;refine gc h ?_ ?_<;>intro _ h
   · refine go ?_;replace h:=oi h;subst h;exact Rc tt tt ⟨i,k,m,n,j,l,f,g,rfl,M.pk [1,2,3,4,5]⟩
   refine jA ?_;have a3:=M.drew;refine T ?_;intro bJ bf h ap aD bw a4 bz X;replace h:=oi h;subst h;exact Rc tt tt ⟨i,k,m,n,j,l,ap,aD,rfl,X.pk [2,3,4,5,0]⟩
 refine go ?_;replace h:=oi h;subst h;exact Rc tt tt ⟨i,k,m,n,j,l,f,g,rfl,L.pk [1,2,3,4,5]⟩
instance k_146:Ct prog 146:=⟨by kernel_rfl,@Cq⟩
end Go.Kx
