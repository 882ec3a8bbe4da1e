import Derived.Test.YtfmfgnhbgcjajaaGreatWa3
import Derived.Test.YtfmfgnhbgcjajaaGreatWa4
import Derived.Test.YtfmfgnhbgcjajaaGreatWa5
namespace Go.Kx
open Go Go.RowKit Go.Proofs
open Tryz
set_option maxRecDepth 10000
set_option maxHeartbeats 8000000
set_option linter.unusedVariables false
set_option linter.unusedSimpArgs false
theorem AD{w0}{F:List Nat}{N f R r}(h:mM N f R=some r){aQ:Nat}{z I}(bZ:dX (eJ w0 F) w0 z I f.Rn.Rp.Ro){A J}(b1:dX (eJ w0 F) w0 A J f.Rn.own){B K}(b2:dX (eJ w0 F) w0 B K f.Rn.Rr){U k C L}(b3:dX (eJ w0 F) w0 C L f.Rn.py.gc.da){H M}(b4:dX (eJ w0 F) w0 H M f.Rn.db)(hS:St w0 F w0 [bx aQ 183 [vS z f.Rn.Rp.Ro.length I,vS A f.Rn.own.length J,vS B f.Rn.Rr.length K,vS U f.Rn.py.ag.length k,vI f.Rn.py.gc.Ru,vI f.Rn.py.gc.RD,vI f.Rn.py.gc.Rv,vS C f.Rn.py.gc.da.length L,vS H f.Rn.db.length M,vI f.Rn.RA,vI f.Rn.Rz,vI f.Rn.dc.cd,vI f.Rn.dc.dg,vI f.Rn.dc.dn,vI f.Rn.du,vI f.Rn.Rx,vI f.me,vI f.RB,vI f.dS],sl U k f.Rn.py.ag]):
    di prog 207 #[.pointer (some ⟨aQ,0,none⟩),.agg (uL R)] w0 (fun v w=>∃Z ac,v=.tuple #[vI r.1,vI r.2.1]/\St w0 F w [bx aQ 183 [vS z f.Rn.Rp.Ro.length I,vS A f.Rn.own.length J,vS B f.Rn.Rr.length K,vS Z r.2.2.Rn.py.ag.length ac,vI r.2.2.Rn.py.gc.Ru,vI r.2.2.Rn.py.gc.RD,vI r.2.2.Rn.py.gc.Rv,vS C f.Rn.py.gc.da.length L,vS H f.Rn.db.length M,vI r.2.2.Rn.RA,vI r.2.2.Rn.Rz,vI r.2.2.Rn.dc.cd,vI r.2.2.Rn.dc.dg,vI r.2.2.Rn.dc.dn,vI r.2.2.Rn.du,vI r.2.2.Rn.Rx,vI r.2.2.me,vI r.2.2.RB,vI r.2.2.dS],sl Z ac r.2.2.Rn.py.ag]):=by
 unfold mM at h;refine di.fn func207 fun e=>?_;refine T ?_;intro _ _ _ j _ h _ au;refine CW.fl [0,3,6,7,21] fun e=>?_;refine gc h ?_ ?_<;>intro _ h
 · refine go ?_;replace h:=oi h;subst h;exact Rc tt tt ⟨U,k,rfl,au.pk [0,2]⟩
 refine go ?_;refine LW.u (dL.nc rfl) rfl ?_;refine gb h fun d ak h=>?_;obtain⟨x,p,rfl,_,_⟩:=au.dA (α:=c6) (i:=2) rfl ak;refine go ?_;obtain⟨_,n,_⟩:=au.freeze (α:=c6) 2 rfl;obtain⟨_,_,_,g,aC,_,_,bB,aD⟩:=n.fe.idx ak;cases g;obtain⟨X,aa,Y,ab,bQ,bc,rfl,_,_,W⟩:=bB;refine T ?_;intro _ _ h _ be;refine CW.fl [0,3,6,8,9,38] fun e=>?_;refine gc h ?_ ?_<;>intro _ h
 · refine go ?_;replace h:=oi h;subst h;have bT:=be.dZ (α:=c6) 2 rfl n;exact Rc tt tt ⟨(some ⟨x,p,none⟩),k,rfl,bT.pk [0,2]⟩
 refine gs ?_;obtain⟨bW,bE,bS⟩:=ob h;refine CW.jn [0,3,6,8] [0,1,2] [(54,.bool bW)] be (h1:=?_) (h2:=?_)
 · have h:=bE;exact wk
 intro e _ bf;have h:=bS;refine gc h ?_ ?_<;>intro _ h
 · refine go ?_;replace h:=oi h;subst h;have bU:=bf.dZ (α:=c6) 2 rfl n;exact Rc tt tt ⟨(some ⟨x,p,none⟩),k,rfl,bU.pk [0,2]⟩
 refine gc h ?_ ?_<;>intro _ h
 · refine fA ?_;have:=bf.drew;refine gb h fun _ aF h=>?_;obtain⟨_,_,g,_,_⟩:=n.dA aF;cases g;refine go ?_;obtain⟨_,_,_,g,_,_,_,bC,_⟩:=n.fe.idx aF;cases g;obtain⟨_,_,_,_,_,_,rfl,_,_,_⟩:=bC;refine T ?_;intro q _ h _ bV;refine dW ?_;have bk:=bV.drew;refine go ?_;refine T ?_;refine AW.u (i:=10) rfl (by kernel_rfl) rfl rfl (dL.build (vs:=[(0,vI q),(1,vI R.b)]) (cs:=#[vI q,vI R.b]) rfl (by kernel_rfl)) ?_;refine T ?_;refine LW.wX (α:=eL) (vs:=[(0,.agg #[vI q,vI R.b])]) (cs:=#[vI q,vI R.b]) (l:=([eL.mk q R.b]:List eL)) rfl (by kernel_rfl) rfl rfl rfl (fun w=>⟨[vI q,vI R.b],[],[],[],rfl,rfl,⟨rfl,rfl⟩,rfl⟩) bk rfl ?_;intro _ _ _ ao hf;refine T ?_;have bF:=ao.mU 3 aC aD;have bl:=ao.dZ (α:=c6) 3 rfl n;obtain⟨_,bG,bD⟩:=bl.mZ 3 ak bF;obtain⟨_,_,_,_,_,_,bA,bj⟩:=bG;cases bA;have ap:=bD [sl X aa d.dk,sl Y ab d.Rw,sl bQ bc d.Rs] bj;have⟨aP,bK,h⟩:=ob h;refine T ?_;refine LW.fM (l:=d.Rs) (m:=([eL.mk q R.b]:List eL)) qR rfl rfl (ap.rI 3 rfl) bK ap (i:=2) rfl rfl ?_;intro bb bd _ bm hf;refine T ?_;refine go ?_;refine T ?_;refine LW.wh (α:=c6) (vs:=[vS bb aP.length bd]) bm 6 rfl tR rfl (by show _=p+(j.1:Int).toNat*13+12;omega) rfl rfl rfl rfl ?_;intro _ bn hf;refine T ?_;have bo:=bn.mb (c6.mk d.RG d.Rq d.box d.RF d.dY d.cd d.Ry d.ee d.ed d.mark d.dk d.Rw aP) [0,1,2,3,4,5,6] 3 3 rfl rfl (fun w G hG=>⟨X,aa,Y,ab,bb,bd,rfl,hG⟩);refine dW ?_;have aq:=bo.drew;refine gb h fun _ aG h=>?_;obtain⟨_,_,g,bI,bJ⟩:=aq.dA (α:=c6) (i:=3) rfl aG;cases g;(try refine AW.ux (i:=8) (by decide +kernel) rfl (by kernel_rfl) rfl rfl (dL.ix underlying47 wO rfl rfl bI (by rw[show f.Rn.py.ag.length=(f.Rn.py.ag.set (j.1:Int).toNat (c6.mk d.RG d.Rq d.box d.RF d.dY d.cd d.Ry d.ee d.ed d.mark d.dk d.Rw aP)).length from(dx rfl)];exact bJ)) ?_);refine gb h fun bY aH h=>?_;refine T ?_;refine LW.se 6 aq 3 aG aH (hM:=(fK (fun w cs F hF=>by obtain⟨aJ,aM,aK,aN,aL,aO,rfl,hH⟩:=hF;exact⟨aJ,aM,aK,aN,aL,aO,rfl,hH⟩))) fun _ ar=>?_;refine T ?_;replace h:=oi h;subst h;rw[show f.Rn.py.ag.length=bY.length from((dx rfl).trans (dx (oi aH)))]at ar;exact Rc tt tt ⟨(some ⟨x,p,none⟩),k,rfl,ar.pk [1,3]⟩
 refine go ?_;refine T ?_;have⟨_,bL,h⟩:=ob h;obtain⟨bR,bX,_,rfl,_,_,_,rfl,_⟩:=W.idx bL;refine go ?_;refine T ?_;intro _ _ _ _ bp;refine LW.b0 (α:=eL) bp ?_;intro _ _ _ av hf;refine go ?_;refine T ?_;have⟨bN,ae,h⟩:=ob h;obtain⟨_,_,aV,aW,a8⟩:=dX.tI W ae;have aE:=(W).le;refine LW.u (dL.sub (α:=eL) (l:=d.Rs) underlying94 IV rfl (sL rfl) tq ae aE aV aW) rfl ?_;have⟨o,a9,h⟩:=ob h;refine LW.fM (l:=([]:List eL)) (m:=bN) qR rfl rfl (av.rZ 4 rfl a8) a9 av (i:=0) rfl rfl ?_;intro am an _ aw hf;refine go ?_;have a0:=aw.mU 4 aC aD;have bq:=aw.dZ (α:=c6) 4 rfl n;obtain⟨_,a1,aX⟩:=bq.mZ 4 ak a0;obtain⟨_,_,_,_,_,_,aS,aR⟩:=a1;cases aS;have br:=aX [sl X aa d.dk,sl Y ab d.Rw,sl (some ⟨bR,bX,none⟩) bc d.Rs] aR;refine LW.wh (α:=c6) (vs:=[vS am o.length an]) br 7 rfl tR rfl (by show _=p+(j.1:Int).toNat*13+12;omega) rfl rfl rfl rfl ?_;intro _ bs hf;refine go ?_;have bt:=bs.mb (c6.mk d.RG d.Rq d.box d.RF d.dY d.cd d.Ry d.ee d.ed d.mark d.dk d.Rw o) [0,1,3,2,4,5,6,7] 3 4 rfl rfl (fun w G hG=>⟨X,aa,Y,ab,am,an,rfl,hG⟩);refine dW ?_;have ax:=bt.drew;refine Cx 11 ?_;have⟨_,ba,h⟩:=ob h;refine LW.cl (tm ba (show f.Rn.py.ag.length=(f.Rn.py.ag.set (j.1:Int).toNat (c6.mk d.RG d.Rq d.box d.RF d.dY d.cd d.Ry d.ee d.ed d.mark d.dk d.Rw o)).length from(dx rfl)) (ax.rI 4 rfl)) ?_;rintro _ _ ⟨rfl,hs⟩;have V:=ax.add hs;refine jn ?_;refine gs ?_;rw[show f.Rn.py.ag.length=(f.Rn.py.ag.set (j.1:Int).toNat (c6.mk d.RG d.Rq d.box d.RF d.dY d.cd d.Ry d.ee d.ed d.mark d.dk d.Rw o)).length from(dx rfl)]at V;obtain⟨bM,aY,bg⟩:=ob h;refine CW.jn [0,3,8,11,12] [1,2,3,4] [(143,.bool bM)] V (h1:=?_) (h2:=?_)
 · have h:=aY;refine dW ?_;have ay:=V.drew;refine gB h ?_ ?_<;>intro aT h
   · refine gb h fun _ af h=>?_;obtain⟨_,_,g,a2,a5⟩:=ay.dA (α:=c6) (i:=4) rfl af;cases g;(try refine AW.ux (i:=5) (by decide +kernel) rfl (by kernel_rfl) (jd rfl rfl aT) rfl (dL.ix underlying47 wO rfl rfl a2 (by rw[show f.Rn.py.ag.length=(f.Rn.py.ag.set (j.1:Int).toNat (c6.mk d.RG d.Rq d.box d.RF d.dY d.cd d.Ry d.ee d.ed d.mark d.dk d.Rw o)).length from(dx rfl)];exact a5)) ?_);refine go ?_;obtain⟨_,ad,bu⟩:=ay.freeze (α:=c6) 4 rfl;obtain⟨_,_,_,g,_,_,_,aU,_⟩:=ad.fe.idx af;cases g;obtain⟨_,_,_,_,_,_,rfl,_,_,_⟩:=aU;refine T ?_;have:=bu.dZ (α:=c6) 4 rfl ad;exact rt
   exact rt
 intro e _ az;have h:=bg;refine gs ?_;obtain⟨aI,aZ,bi⟩:=ob h;refine CW.j0 [0,11] [0] [] [bx aQ 183 [vS z f.Rn.Rp.Ro.length I,vS A f.Rn.own.length J,vS B f.Rn.Rr.length K,vS (some ⟨x,p,none⟩) aI.length k,vI j.2.2.Rn.py.gc.Ru,vI j.2.2.Rn.py.gc.RD,vI j.2.2.Rn.py.gc.Rv,vS C f.Rn.py.gc.da.length L,vS H f.Rn.db.length M,vI j.2.2.Rn.RA,vI j.2.2.Rn.Rz,vI j.2.2.Rn.dc.cd,vI j.2.2.Rn.dc.dg,vI j.2.2.Rn.dc.dn,vI j.2.2.Rn.du,vI j.2.2.Rn.Rx,vI j.2.2.me,vI j.2.2.RB,vI j.2.2.dS],sl (some ⟨x,p,none⟩) k aI] az ?_ ?_
 · have h:=aZ;refine gc h ?_ ?_<;>intro _ h
   · refine dW ?_;have aA:=az.drew;refine gb h fun _ ah h=>?_;obtain⟨_,_,g,a3,a6⟩:=aA.dA (α:=c6) (i:=3) rfl ah;cases g;(try refine AW.ux (i:=6) (by decide +kernel) rfl (by kernel_rfl) rfl rfl (dL.ix underlying47 wO rfl rfl a3 (by rw[show f.Rn.py.ag.length=(f.Rn.py.ag.set (j.1:Int).toNat (c6.mk d.RG d.Rq d.box d.RF d.dY d.cd d.Ry d.ee d.ed d.mark d.dk d.Rw o)).length from(dx rfl)];exact a6)) ?_);refine gb h fun bO O h=>?_;refine T ?_;refine LW.se 6 aA 3 ah O (hM:=(fK (fun w cs F hF=>by obtain⟨aJ,aM,aK,aN,aL,aO,rfl,hH⟩:=hF;exact⟨aJ,aM,aK,aN,aL,aO,rfl,hH⟩))) fun _ aB=>?_;refine jn ?_;have⟨_,ai,h⟩:=ob h;obtain⟨_,_,g,a4,a7⟩:=aB.dA (α:=c6) (i:=3) rfl ai;cases g;(try refine AW.ux (i:=9) (by decide +kernel) rfl (by kernel_rfl) rfl rfl (dL.ix underlying47 wO rfl rfl a4 (by rw[show f.Rn.py.ag.length=bO.length from((dx rfl).trans (dx (oi O)))];exact a7)) ?_);refine gb h fun bP aj h=>?_;refine T ?_;refine LW.se 7 aB 3 ai aj (hM:=(fK (fun w cs F hF=>by obtain⟨aJ,aM,aK,aN,aL,aO,rfl,hH⟩:=hF;exact⟨aJ,aM,aK,aN,aL,aO,rfl,hH⟩))) fun _ bv=>?_;refine T ?_;rw[show(f.Rn.py.ag.set (j.1:Int).toNat (c6.mk d.RG d.Rq d.box d.RF d.dY d.cd d.Ry d.ee d.ed d.mark d.dk d.Rw o)).length=bP.length from((dx (oi O)).trans (dx (oi aj)))]at bv;exact rt
   exact rt
 intro e _ bw;have h:=bi;refine fA ?_;have bz:=bw.drew;refine go ?_;replace h:=oi h;subst h;exact Rc tt tt ⟨(some ⟨x,p,none⟩),k,rfl,bz.pk [1,2]⟩
instance k_207:Ct prog 207:={h:=@AD}
theorem GN{w0}{F:List Nat}{N f bE bF bf r}(h:rp N f bE bF bf=some r){g aF m}(aM:aF=f.Rp.Ro.length){j aG n}(aN:aG=f.own.length){k aH o}(aO:aH=f.Rr.length){z aI u}(aP:aI=f.py.ag.length){q aJ x}(aQ:aJ=f.py.gc.da.length){l aK p}(aR:aK=f.db.length)(hS:St w0 F w0 [sl g m f.Rp.Ro,sl j n f.own,sl k o f.Rr,sl z u f.py.ag,sl q x f.py.gc.da,sl l p f.db]):
    di prog 227 #[.agg (uP g aF m j aG n k aH o z aI u q aJ x l aK p f),vI bE,vI bF,.agg (uL bf)] w0 (fun v w=>∃Y ae Z af aa ah ab ai ac aj ad ak,v=.tuple #[.agg (uP Y r.1.Rp.Ro.length ae Z r.1.own.length af aa r.1.Rr.length ah ab r.1.py.ag.length ai ac r.1.py.gc.da.length aj ad r.1.db.length ak r.1),.agg #[vI r.2.code,vI r.2.RI]]/\St w0 F w [sl Y ae r.1.Rp.Ro,sl Z af r.1.own,sl aa ah r.1.Rr,sl ab ai r.1.py.ag,sl ac aj r.1.py.gc.da,sl ad ak r.1.db]):=by
 subst aM aN aO aP aQ aR;unfold rp at h;refine di.fn func227 fun e=>?_;refine we hS fun aU _ br=>?_;refine LW.bo br fun bm _ bs=>?_;refine LW.al bs fun bn _ bt=>?_;refine LW.al bt fun bp _ bu=>?_;refine gb h fun _ bA h=>?_;refine LW.c0 (tS bA) bu fun _ J=>?_;refine gc h ?_ ?_<;>intro _ h
 · refine fm [(0,vI 2)] #[vI 2,vI 0] ?_;refine LW.st J 1 fun _ bv=>?_;refine LW.st bv 0 fun _ ay=>?_;refine go ?_;cases h;exact Rc (dE.b ay 1 rfl iE rfl rfl) (dE.b ay 0 rfl jt rfl rfl) ⟨g,m,j,n,k,o,z,u,q,x,l,p,rfl,ay.pk [4,5,6,7,8,9]⟩
 refine gb h fun M bc h=>?_;refine LW.c0 (wN bc rfl (J.rI 4 rfl) rfl (J.rI 5 rfl) rfl (J.rI 6 rfl) rfl (J.rI 7 rfl) rfl (J.rI 8 rfl) rfl (J.rI 9 rfl)) J fun _ A=>?_;refine gf [1,2,4,7,8,9,10,11,31] fun e=>?_;refine gc h ?_ ?_<;>intro _ h
 · refine fm [(0,vI M.2)] #[vI M.2,vI 0] ?_;refine LW.st A 1 fun _ bw=>?_;refine LW.st bw 0 fun _ O=>?_;refine go ?_;cases h;exact Rc (dE.b O 1 rfl iE rfl rfl) (dE.b O 0 rfl jt rfl rfl) ⟨g,m,j,n,k,o,z,u,q,x,l,p,rfl,O.pk [4,5,6,7,8,9]⟩
 refine gs ?_;refine CW.region ?_;refine gs ?_;refine CW.region ?_;refine gs ?_;obtain⟨bC,a7,aS⟩:=ob h;refine CW.cut (fun e wb=>∃aE,bC=.inl aE/\En e [(4,.pointer (some ⟨aU,0,none⟩)),(7,.pointer (some ⟨bm,0,none⟩)),(8,.pointer (some ⟨bn,0,none⟩)),(9,.pointer (some ⟨bp,0,none⟩)),(10,vI M.1),(12,vI aE)]/\St w0 F wb [bx bp 78 [vI 0,vI 0],bx bn 54 [vS none 0 0,vS none 0 0,vS none 0 0,vS none 0 0,vI 0,vI 0,vI 0,vS none 0 0,vS none 0 0,vI 0,vI 0,vI 0,vI 0,vI 0,vI 0,vI 0],bx bm 63 (qL bf),bx aU 54 [vS g f.Rp.Ro.length m,vS j f.own.length n,vS k f.Rr.length o,vS z f.py.ag.length u,vI f.py.gc.Ru,vI f.py.gc.RD,vI f.py.gc.Rv,vS q f.py.gc.da.length x,vS l f.db.length p,vI f.RA,vI f.Rz,vI f.dc.cd,vI f.dc.dg,vI f.dc.dn,vI f.du,vI f.Rx],sl g m f.Rp.Ro,sl j n f.own,sl k o f.Rr,sl z u f.py.ag,sl q x f.py.gc.da,sl l p f.db]) ?_ ?_
 · have h:=a7;refine gc h ?_ ?_<;>intro _ h
   · refine gb h fun aT bd h=>?_;refine LW.c0 (wN bd rfl (A.rI 4 rfl) rfl (A.rI 5 rfl) rfl (A.rI 6 rfl) rfl (A.rI 7 rfl) rfl (A.rI 8 rfl) rfl (A.rI 9 rfl)) A fun _ av=>?_;refine gf [4,7,8,9,10,13,14,48] fun e=>?_;refine gc h ?_ ?_<;>intro _ h
     · refine fm [(0,vI aT.2)] #[vI aT.2,vI 0] ?_;refine LW.st av 1 fun _ aW=>?_;refine LW.st aW 0 fun _ R=>?_;refine go ?_;cases h;have h:=aS;cases h;exact Rc (dE.b R 1 rfl iE rfl rfl) (dE.b R 0 rfl jt rfl rfl) ⟨g,m,j,n,k,o,z,u,q,x,l,p,rfl,R.pk [4,5,6,7,8,9]⟩
     refine go ?_;cases oi h;exact⟨_,rfl,(av.po [0,1,2,3,4,5,6,7,8,9])⟩
   refine go ?_;cases oi h;exact⟨_,rfl,(A.po [0,1,2,3,4,5,6,7,8,9])⟩
 rintro e bD ⟨aE,rfl,hM⟩;obtain⟨e,rfl,aX⟩:=eo hM;have h:=aS;refine fA ?_;have aw:=aX.drew;refine gb h fun d X h=>?_;obtain⟨bj,bB,rfl,_,_⟩:=aw.dA (α:=c6) (i:=7) rfl X;refine go ?_;obtain⟨_,aB,U⟩:=aw.freeze (α:=c6) 7 rfl;obtain⟨_,_,_,bz,az,_,_,a5,aA⟩:=aB.fe.idx X;cases bz;obtain⟨_,aq,an,ar,ao,au,rfl,bb,_,_⟩:=a5;refine AW.tk 6 rfl (fv.iu bD.drew FP rfl (aA 10 _ rfl)) (U.zC 7 rfl az) ?_;refine gb h fun _ aC h=>?_;obtain⟨ap,aL,_,rfl,_,_,_,rfl,_⟩:=bb.idx aC;refine go ?_;have a9:=U.mU 7 az aA;have aY:=U.dZ (α:=c6) 7 rfl aB;obtain⟨_,ba,a6⟩:=aY.mZ 7 X a9;obtain⟨_,_,_,_,_,_,a4,aV⟩:=ba;cases a4;have aZ:=a6 [sl (some ⟨ap,aL,none⟩) aq d.dk,sl an ar d.Rw,sl ao au d.Rs] aV;have⟨am,aD,h⟩:=ob h;refine jO 11 ?_;refine LW.se 0 aZ 0 aC aD (hM:=ti) fun _ L=>?_;refine jn ?_;refine gs ?_;refine CW.region ?_;refine gs ?_;rw[dx (oi aD)]at L;obtain⟨K,a8,bq⟩:=ob h;refine CW.j4 [4,8,9] [3,4,7,8,9,12] (fun(B:Ad) (H:Nat) (C:Ad) (I:Nat)=>[]) (fun B H C I=>[bx aU 54 [vS g f.Rp.Ro.length m,vS j f.own.length n,vS k f.Rr.length o,vS B K.1.length H,vI K.2.1,vI K.2.2.1,vI K.2.2.2.1,vS C K.2.2.2.2.length I,vS l f.db.length p,vI f.RA,vI f.Rz,vI f.dc.cd,vI f.dc.dg,vI f.dc.dn,vI f.du,vI f.Rx],sl B H K.1,sl C I K.2.2.2.2]) L ?_ ?_
 · have h:=a8;refine gc h ?_ ?_<;>intro _ h
   · refine gb h fun _ be h=>?_;have V:=L.mb (c6.mk d.RG d.Rq d.box d.RF d.dY d.cd d.Ry d.ee d.ed d.mark am d.Rw d.Rs) [0,1,2,3,4,5,6,7,8,9,10,11,12] 3 7 rfl rfl (fun w G hG=>⟨(some ⟨ap,aL,none⟩),aq,an,ar,ao,au,rfl,hG⟩)
     refine LW.cl (zP be (show f.py.ag.length=(f.py.ag.set (M.1:Int).toNat (c6.mk d.RG d.Rq d.box d.RF d.dY d.cd d.Ry d.ee d.ed d.mark am d.Rw d.Rs)).length from(dx rfl)) (V.rI 7 rfl) rfl (V.rI 8 rfl)) ?_;rintro _ _ ⟨bg,bk,bi,bl,rfl,hs⟩;have a0:=V.add hs;refine sC a0 5 fun _ a1=>?_;refine go ?_;cases oi h;exact⟨bg,bk,bi,bl,a1.po [2,3,6,7,8,11,5,0,1]⟩
   refine go ?_;have ax:=L.mb (c6.mk d.RG d.Rq d.box d.RF d.dY d.cd d.Ry d.ee d.ed d.mark am d.Rw d.Rs) [0,1,2,3,4,5,6,7,8,9,10,11,12] 3 7 rfl rfl (fun w G hG=>⟨(some ⟨ap,aL,none⟩),aq,an,ar,ao,au,rfl,hG⟩)
   rw[show f.py.ag.length=(f.py.ag.set (M.1:Int).toNat (c6.mk d.RG d.Rq d.box d.RF d.dY d.cd d.Ry d.ee d.ed d.mark am d.Rw d.Rs)).length from(dx rfl)]at ax;cases oi h;exact⟨(some ⟨bj,bB,none⟩),u,q,x,ax.po [0,1,4,5,6,9,3,7,8]⟩
 intro e B H C I _ a2;have h:=bq;refine fm [] #[vI 0,vI 0] ?_;refine LW.st a2 1 fun _ a3=>?_;refine LW.st a3 0 fun _ W=>?_;refine go ?_;cases h;exact Rc (dE.b W 1 rfl iE rfl rfl) (dE.b W 0 rfl jt rfl rfl) ⟨g,m,j,n,k,o,B,H,C,I,l,p,rfl,W.pk [2,3,4,7,8,5]⟩
instance k_227:Ct prog 227:={h:=@GN}
theorem EF{w0 N ak au r}(h:pZ N ak au=some r){q R x}(U:R=ak.length)(n:rb w0 q x ak):
    di prog 257 #[vS q R x,vI au] w0 (fun v w=>∃V W,v=.tuple #[vS V r.1.length W,.bool r.2]/\St w0 [] w [sl V W r.1]):=by
 subst U;unfold pZ at h;refine di.fS func257 fun e _=>?_;refine T ?_;intro av _ h _ p _ ap;obtain⟨ay,aq,ax⟩:=ob h;refine CW.jn [0,1,6] [0] [(20,.bool ay)] ap (h1:=?_) (h2:=?_)
 · have h:=aq;exact wk
 intro e _ X;have h:=ax;refine gc h ?_ ?_<;>intro _ h
 · exact rt
 refine gb h fun _ ai h=>?_;obtain⟨_,_,_,rfl,_,_,_,rfl,_⟩:=n.idx ai;refine go ?_;refine T ?_;obtain⟨O,ac,am⟩:=ob h;refine CW.j1 [1,6,7] [0] (fun(d:Nat)=>[(8,.pointer (some ⟨d,0,none⟩))]) (fun d=>[bx d 33 [vI O.1,vI O.2.1,vI O.2.2]]) X ?_ ?_
 · have h:=ac;refine dW ?_;have:=X.drew;refine gb h fun _ aj h=>?_;obtain⟨_,_,_,b,_,_,_,aa,_⟩:=n.idx aj;cases b;obtain rfl:=aa;refine go ?_;refine T ?_;refine go ?_;refine T ?_;have⟨_,_,h⟩:=ob h;refine AW.all (rs:=[10,14]) (by kernel_rfl) (by simp) ⟨?_,?_,trivial⟩
   · refine oA ?_;exact wk
   refine oA ?_;refine T ?_;intro _ _ _;refine jP 10 ?_;exact wk
 intro e d _ z;have h:=am;refine gb h fun _ H h=>?_;obtain⟨f,g,rfl,_,_⟩:=z.dA (α:=dj) (i:=0) rfl H;refine go ?_;refine gb h fun _ m h=>?_;refine LW.se 2 z 0 H m (hM:=(fK (fun w cs F hF=>by obtain⟨rfl,rfl⟩:=hF;exact⟨rfl,rfl⟩))) fun _ A=>?_;refine fm [] #[.bool false,vI 0,vI 0,vI 0,vI 0] ?_;have⟨_,I,h⟩:=ob h;obtain⟨_,_,b,af,ah⟩:=A.dA (α:=dj) (i:=0) rfl I;cases b;(try refine LW.u (dL.ix underlying46 LS rfl rfl af (by rw[dx (oi m)];exact ah)) rfl ?_);have⟨Y,J,h⟩:=ob h;refine LW.se 0 A 0 I J (hM:=ti) fun _ B=>?_;refine go ?_;obtain⟨_,ae,ao⟩:=ob h;refine CW.i0 ae 0 [1,7] [] (fun j=>[(6,vS (some ⟨f,g,none⟩) j.1.length p),(10,vI j.2)]) (fun j=>[sl (some ⟨f,g,none⟩) p j.1]) B ?_ ?_ ?_
 · exact⟨⟨rfl,rfl,(show(vS (some ⟨f,g,none⟩) av.length p:Value)=vS (some ⟨f,g,none⟩) Y.length p by rw[show av.length=Y.length from((dx (oi m)).trans (dx (oi J)))]),rfl,trivial⟩,B.pk [0]⟩
 · intro j e _ o k h;refine gf [1,6,7,10,53] fun e=>?_;refine gc h ?_ ?_<;>intro _ h
   · refine gs ?_;refine CW.block ?_;refine gs ?_;obtain⟨ar,ad,an⟩:=ob h;refine CW.jn [1,6,7,10] [0] [(69,.bool ar)] k (h1:=?_) (h2:=?_)
     · have h:=ad;refine gb h fun _ K h=>?_;obtain⟨_,_,b,_,_⟩:=k.dA (α:=dj) (i:=0) rfl K;cases b;refine go ?_;obtain⟨_,l,C⟩:=k.freeze (α:=dj) 0 rfl;obtain⟨_,_,_,b,_,_,_,ab,_⟩:=l.fe.idx K;cases b;obtain rfl:=ab;refine T ?_;refine bH h ?_ ?_<;>intro _ h
       · refine go ?_;refine T ?_;have:=C.dZ (α:=dj) 0 rfl l;exact rt
       refine go ?_;have:=C.dZ (α:=dj) 0 rfl l;exact rt
     intro e _ G;have h:=an;refine gc h ?_ ?_<;>intro _ h
     · refine gb h fun _ L h=>?_;obtain⟨_,_,b,_,_⟩:=G.dA (α:=dj) (i:=0) rfl L;cases b;refine go ?_;refine gb h fun aw M h=>?_;refine LW.se 1 G 0 L M (hM:=(fK (fun w cs F hF=>by obtain⟨rfl,rfl⟩:=hF;exact⟨rfl,rfl⟩))) fun _ Z=>?_;refine go ?_;replace h:=oi h;subst h;exact⟨rfl,⟨⟨rfl,rfl,(show(vS (some ⟨f,g,none⟩) j.1.length p:Value)=vS (some ⟨f,g,none⟩) aw.length p by rw[dx (oi M)]),rfl,trivial⟩,Z.pk [0]⟩⟩
     exact rt
   exact rt
 intro e _ _;have h:=ao;exact rt
instance k_257:Ct prog 257:={h:=@EF}
theorem EX{w0 N K U p r}(h:ml N K U p=some r){d m g}(o:m=K.length)(W:rb w0 d g K):
    di prog 157 #[vS d m g,vI U,.agg #[vI p.cd,vI p.dg,vI p.dn]] w0 (fun v w=>∃q u,v=.tuple #[vS q r.1.length u,.bool r.2]/\St w0 [] w [sl q u r.1]):=by
 subst o;unfold ml at h;refine di.fS func157 fun e _=>?_;refine T ?_;intro _ _ _ Z _ h _ z _ x;obtain⟨Y,O,X⟩:=ob h;refine CW.jn [0,1,5,8] [0,1] [(26,.bool Y)] x (h1:=?_) (h2:=?_)
 · have h:=O;refine dW ?_;have:=x.drew;refine T ?_;intro _ _ h _ _;refine bH h ?_ ?_<;>intro _ h
   · exact rt
   refine T ?_;intro _ _ h _ _;refine bH h ?_ ?_<;>intro _ h
   · exact rt
   refine go ?_;refine jP 10 ?_;exact wk
 intro e _ _;have h:=X;refine gc h ?_ ?_<;>intro _ h
 · exact rt
 refine T ?_;intro _ _ h _ A;obtain⟨R,J,L⟩:=ob h;refine CW.jn [5,8] [0,1] [(1,vI R)] A (h1:=?_) (h2:=?_)
 · have h:=J;exact wk
 intro e _ B;have h:=L;refine fA ?_;have j:=B.drew;refine gb h fun _ b h=>?_;obtain⟨f,n,rfl,_,_⟩:=j.dA (α:=dj) (i:=0) rfl b;refine go ?_;obtain⟨_,k,_⟩:=j.freeze (α:=dj) 0 rfl;obtain⟨_,_,_,M,_,_,_,I,_⟩:=k.fe.idx b;cases M;obtain rfl:=I;refine T ?_;intro _ _ h _ C;refine go ?_;have G:=C.dZ (α:=dj) 0 rfl k;have⟨V,l,h⟩:=ob h;refine T ?_;refine LW.se 2 G 0 b l (hM:=(fK (fun w cs F hF=>by obtain⟨rfl,rfl⟩:=hF;exact⟨rfl,rfl⟩))) fun _ H=>?_;refine T ?_;replace h:=oi h;subst h;exact Rc tt tt ⟨(some ⟨f,n,none⟩),z,(show(.tuple #[vS (some ⟨f,n,none⟩) Z.length z,.bool true]:Value)=.tuple #[vS (some ⟨f,n,none⟩) V.length z,.bool true] by rw[dx (oi l)]),H.pk [0]⟩
instance k_157:Ct prog 157:={h:=@EX}
theorem Cm{w0 N b R r}(h:pL N b R=some r){d u l}(G:u=b.Rp.Ro.length)(U:rb w0 d l b.Rp.Ro){f x m}(H:x=b.own.length)(V:rb w0 f m b.own){g z n}(I:z=b.Rr.length)(W:rb w0 g n b.Rr){i A o}(J:A=b.py.ag.length)(X:rb w0 i o b.py.ag){j B p}(K:B=b.py.gc.da.length)(Y:rb w0 j p b.py.gc.da){k C q}(L:C=b.db.length)(Z:rb w0 k q b.db):
    di prog 162 #[.agg (uP d u l f x m g z n i A o j B p k C q b),vI R] w0 (fun v w=>v=vI r/\St w0 [] w []):=by
 subst G H I J K L;unfold pL at h;refine di.fS func162 fun e _=>?_;refine T ?_;intro _ _ M;obtain⟨ab,O,aa⟩:=ob h;refine CW.jn [1] [] [(15,.bool ab)] M (h1:=?_) (h2:=?_)
 · have h:=O;exact wk
 intro e _ _;have h:=aa;exact wk
instance k_162:Ct prog 162:={h:=@Cm}
theorem DQ{w0 N af aq r}(h:qm N af aq=some r){p L q}(M:L=af.length)(O:rb w0 p q af):
    di prog 244 #[vS p L q,vI aq] w0 (fun v w=>∃R U,v=.tuple #[vS R r.1.length U,.bool r.2]/\St w0 [] w [sl R U r.1]):=by
 subst M;unfold qm at h;refine di.fS func244 fun e _=>?_;refine T ?_;intro ar _ h _ n _ aj;obtain⟨aw,ao,av⟩:=ob h;refine CW.jn [0,1,6] [0] [(23,.bool aw)] aj (h1:=?_) (h2:=?_)
 · have h:=ao;exact wk
 intro e _ ak;have h:=av;refine gc h ?_ ?_<;>intro _ h
 · exact rt
 refine gb h fun _ ae h=>?_;obtain⟨_,_,_,rfl,_,_,_,rfl,_⟩:=O.idx ae;refine go ?_;refine T ?_;refine dW ?_;have V:=ak.drew;refine gb h fun _ l h=>?_;obtain⟨d,f,rfl,_,_⟩:=V.dA (α:=dj) (i:=0) rfl l;refine go ?_;obtain⟨_,C,_⟩:=V.freeze (α:=dj) 0 rfl;obtain⟨_,_,_,b,_,_,_,Y,_⟩:=C.fe.idx l;cases b;obtain rfl:=Y;refine T ?_;refine go ?_;refine T ?_;intro _ _ h _ am;refine go ?_;have an:=am.dZ (α:=dj) 0 rfl C;have⟨_,m,h⟩:=ob h;refine T ?_;refine LW.se 2 an 0 l m (hM:=(fK (fun w cs F hF=>by obtain⟨rfl,rfl⟩:=hF;exact⟨rfl,rfl⟩))) fun _ x=>?_;refine T ?_;refine LW.bd [] #[.bool false,vI 0,vI 0,vI 0,vI 0] ?_;have⟨_,G,h⟩:=ob h;obtain⟨_,_,b,ac,ad⟩:=x.dA (α:=dj) (i:=0) rfl G;cases b;(try refine LW.u (dL.ix underlying46 LS rfl rfl ac (by rw[dx (oi m)];exact ad)) rfl ?_);have⟨W,H,h⟩:=ob h;refine LW.se 0 x 0 G H (hM:=ti) fun _ z=>?_;refine go ?_;obtain⟨_,ab,ai⟩:=ob h;refine CW.i0 ab 0 [1,7,50] [] (fun g=>[(6,vS (some ⟨d,f,none⟩) g.1.length n),(51,vI g.2)]) (fun g=>[sl (some ⟨d,f,none⟩) n g.1]) z ?_ ?_ ?_
 · exact⟨⟨rfl,rfl,rfl,(show(vS (some ⟨d,f,none⟩) ar.length n:Value)=vS (some ⟨d,f,none⟩) W.length n by rw[show ar.length=W.length from((dx (oi m)).trans (dx (oi H)))]),rfl,trivial⟩,z.pk [0]⟩
 · intro g e _ o j h;refine gf [1,6,7,50,51,52] fun e=>?_;refine gc h ?_ ?_<;>intro _ h
   · refine gs ?_;refine CW.block ?_;refine gs ?_;refine CW.region ?_;refine gs ?_;obtain⟨ap,aa,ah⟩:=ob h;refine CW.jn [1,6,7,8,50,51] [0] [(67,.bool ap)] j (h1:=?_) (h2:=?_)
     · have h:=aa;refine gb h fun _ I h=>?_;obtain⟨_,_,b,_,_⟩:=j.dA (α:=dj) (i:=0) rfl I;cases b;refine go ?_;obtain⟨_,k,A⟩:=j.freeze (α:=dj) 0 rfl;obtain⟨_,_,_,b,_,_,_,Z,_⟩:=k.fe.idx I;cases b;obtain rfl:=Z;refine T ?_;refine bH h ?_ ?_<;>intro _ h
       · refine go ?_;refine T ?_;have:=A.dZ (α:=dj) 0 rfl k;exact rt
       refine go ?_;have:=A.dZ (α:=dj) 0 rfl k;exact rt
     intro e _ B;have h:=ah;refine gc h ?_ ?_<;>intro _ h
     · refine gb h fun _ J h=>?_;obtain⟨_,_,b,_,_⟩:=B.dA (α:=dj) (i:=0) rfl J;cases b;refine go ?_;refine gb h fun au K h=>?_;refine LW.se 1 B 0 J K (hM:=(fK (fun w cs F hF=>by obtain⟨rfl,rfl⟩:=hF;exact⟨rfl,rfl⟩))) fun _ X=>?_;refine go ?_;replace h:=oi h;subst h;exact⟨rfl,⟨⟨rfl,rfl,rfl,(show(vS (some ⟨d,f,none⟩) g.1.length n:Value)=vS (some ⟨d,f,none⟩) au.length n by rw[dx (oi K)]),rfl,trivial⟩,X.pk [0]⟩⟩
     exact rt
   exact rt
 intro e _ _;have h:=ai;exact rt
instance k_244:Ct prog 244:={h:=@DQ}
theorem wj{w0 N b M r}(h:kt N b M=some r){d u l}(G:u=b.Rp.Ro.length)(O:rb w0 d l b.Rp.Ro){f x m}(H:x=b.own.length)(R:rb w0 f m b.own){g z n}(I:z=b.Rr.length)(U:rb w0 g n b.Rr){i A o}(J:A=b.py.ag.length)(V:rb w0 i o b.py.ag){j B p}(K:B=b.py.gc.da.length)(W:rb w0 j p b.py.gc.da){k C q}(L:C=b.db.length)(X:rb w0 k q b.db):
    di prog 222 #[.agg (uP d u l f x m g z n i A o j B p k C q b),vI M] w0 (fun v w=>v=vI r/\St w0 [] w []):=by
 subst G H I J K L;unfold kt at h;refine di.fS func222 fun e _=>?_;exact wk
instance k_222:Ct prog 222:={h:=@wj}
theorem My{w0 N m r}(h:vV N m=some r){b f d}(g:f=m.length)(i:rb w0 b d m):
    di prog 246 #[vS b f d] w0 (fun v w=>v=.bool r/\St w0 [] w []):=by
 subst g;unfold vV at h;refine di.fS func246 fun e n=>?_;refine go ?_;obtain⟨k,l,j⟩:=ob h;refine CW.mono (CW.lx [0] [] [0] 0 (fun q=>[(3,vI q)]) (RT prog f246.results (fun u=>.bool u) w0 []) n l (hb:=?_)) ?_
 · intro q e _ o _ h;refine gc h ?_ ?_<;>intro _ h
   · refine gb h fun _ p h=>?_;obtain⟨_,_,_,rfl,_,_,_,⟨_,_,rfl,_⟩,_⟩:=i.idx p;refine go ?_;refine T ?_;intro _ _ h _ _;refine CW.fl [0,3,16] fun e=>?_;exact wk
   exact rt
 intro x e _ hM;rcases k with k|_
 · obtain⟨rfl,hM⟩:=hM;obtain⟨e,rfl,_⟩:=eo hM;have h:=j;exact rt
 obtain⟨rfl,u,rfl,hM⟩:=hM;cases j;exact And.intro trivial hM
instance k_246:Ct prog 246:={h:=@My}
theorem FB{w0 N l m n i r}(h:qc N l m n i=some r){b f d}(g:f=l.length)(o:rb w0 b d l):
    di prog 256 #[vS b f d,vI m,vI n,.agg #[vI i.cd,vI i.dg,vI i.dn]] w0 (fun v w=>∃j k,v=.tuple #[vS j r.1.length k,.bool r.2]/\St w0 [] w [sl j k r.1]):=by
 subst g;unfold qc at h;refine di.fS func256 fun e _=>?_;refine T ?_;intro _ _ _ _ _ h _ _;refine gc h ?_ ?_<;>intro _ h
 · exact wk
 refine T ?_;intro _ _ h _ _ _ _;refine CW.fl [0,2,7,10,26] fun e=>?_;exact wk
instance k_256:Ct prog 256:={h:=@FB}
end Go.Kx
