import Derived.Test.YtlcgibcdiikheaaGreatWa30
import Derived.Test.YtlcgibcdiikheaaGreatWa31
import Derived.Test.YtlcgibcdiikheaaGreatWa32
import Derived.Test.YtlcgibcdiikheaaGreatWa33
namespace Go.Kx
open Go Go.RowKit Go.Proofs
open Tryz
set_option maxRecDepth 10000
set_option maxHeartbeats 8000000
set_option linter.unusedVariables false
set_option linter.unusedSimpArgs false
theorem DZ {w0 N a5 b r} (h:rp N a5 b=some r) {aa aD af} (aF:aD=a5.length) (p:rb w0 aa af a5) {d X k} (av:X=b.ig.length) (ay:rb w0 d k b.ig) {f Y m} (aw:Y=b.PG.length) (az:rb w0 f m b.PG) {g Z n} (ax:Z=b.PE.length) (aA:rb w0 g n b.PE) :
    iq prog 298 #[vS aa aD af,.agg #[vI b.PO,vI b.Pz,vI b.box,vI b.res,vI b.iK,vI b.bh,vI b.PK,vI b.iP,vI b.iM,.bool b.mark,vS d X k,vS f Y m,vS g Z n]] w0 (fun v w=>∃ H K,v=.tuple #[vS H r.1.length K,vI r.2]∧St w0 [] w [sl H K r.1]):=by
 subst aF av aw ax;unfold rp at h;refine iq.fn func298 fun e=>?_;have a8:=St.start w0;refine yk a8 fun a6 bV aO=>?_;refine gb h fun be bb h=>?_;refine LW.cl (vD bb rfl (aO.rB p)) ?_;rintro _ bW ⟨ab,ah,rfl,hs⟩;have ap:=aO.add hs;refine gs ?_;obtain ⟨bq,ba,bi⟩:=ob h;refine CW.jn [0,3,6] [0,1] [(19,.bool bq)] ap (h1:=?_) (h2:=?_)
 · have h:=ba;refine gb h fun bX bc h=>?_;refine LW.c0 (xd bc rfl (ap.rB p)) ap fun bF aP=>?_;refine gB h ?_ ?_<;>intro _ h
   · refine go ?_;cases oi h;exact aP.po [0,1]
   refine go ?_;cases oi h;exact aP.po [0,1]
 intro e bG aQ;have h:=bi;refine gc h ?_ ?_<;>intro _ h
 · refine go ?_;cases h;exact Rc tt tt ⟨ab,ah,rfl,aQ.pk [0]⟩
 refine go ?_;obtain ⟨aR,aX,aN⟩:=ob h;refine CW.mono (CW.lx [0,3,6,21,22] [0,1] [6] 0 (fun O=>[(23,vI O)]) (fun r x e wb=>x=.ret∧∃ u,u=r∧∃ v,kI prog f298.results e wb v∧∃ H K,v=.tuple #[vS H u.1.length K,vI u.2]∧St w0 [] wb [sl H K u.1]) aQ aX (hb:=?_)) ?_
 · intro O e bI o aq h;refine gc h ?_ ?_<;>intro _ h
   · refine gb h fun aS a0 h=>?_;obtain ⟨bA,bC,bg,rfl,au,bj,bl,⟨aG,aJ,aH,aK,aI,aL,rfl,bn,bo,bp⟩,aW⟩:=p.idx a0;refine go ?_;refine LW.l (jV.w6 w0 xX rfl rfl (fun j u hu=>aW j u hu)) (aq.same _ au.1 au.2) rfl ?_;refine LW.al aq fun aM bJ a9=>?_;refine wR a9 0 fun bK W=>?_;refine gs ?_;obtain ⟨bd,aV,a7⟩:=ob h;refine CW.jn [0,3,6,7,8,21,22,23] [0,1,2] [(39,.bool bd)] W (h1:=?_) (h2:=?_)
     · have h:=aV;refine gB h ?_ ?_<;>intro _ h
       · refine go ?_;cases oi h;exact W.po [0,1,2]
       refine go ?_;refine bH h ?_ ?_<;>intro _ h
       · refine go ?_;cases oi h;exact W.po [0,1,2]
       refine go ?_;cases oi h;exact W.po [0,1,2]
     intro e bL ar;have h:=a7;refine kD [0,3,6,7,8,21,22,23,39] fun e=>?_;refine gc h ?_ ?_<;>intro _ h
     · refine go ?_;cases oi h;exact ⟨rfl,(ar.po [1,2])⟩
     refine gb h fun R a1 h=>?_;refine LW.cl (vD a1 rfl (ar.rB p)) ?_;rintro _ bM ⟨bz,J,rfl,hs⟩;have B:=ar.add hs;refine gb h fun q a2 h=>?_;refine LW.cl (zA a2 rfl (B.rB ay) rfl (B.rB az) rfl (B.rB aA)) ?_;rintro _ bN ⟨ac,ai,ad,aj,ae,ak,rfl,hs⟩;have am:=B.add hs;have ⟨bf,aB,h⟩:=ob h;obtain ⟨I,A,hae,bk,bm⟩:=am.iF (α:=gE) (i:=3) rfl aB;subst hae;refine go ?_;have aT:=am.pk (M:=[sl ac ai q.ig,sl ad aj q.PG,sl ae ak q.PE]++[sl (some ⟨I,A,none⟩) J R,bx aM 101 (qO aG aJ aH aK aI aL aS),sl ab ah be,bx a6 101 (qO d k f m g n b)]) [0,1,2,3,4,5,6];have ⟨bS,C,h⟩:=ob h;refine LW.AV (M:=[sl ac ai q.ig,sl ad aj q.PG,sl ae ak q.PE]) (L:=[sl (some ⟨I,A,none⟩) J R,bx aM 101 (qO aG aJ aH aK aI aL aS),sl ab ah be,bx a6 101 (qO d k f m g n b)]) (z:=bf) (z':=q) (o:=0) aT (i:=0) rfl aB xX rfl (by show _=A+(O:Int).toNat * 13+0;omega) rfl rfl rfl rfl (whole (fun w G hG=>⟨ac,ai,ad,aj,ae,ak,rfl,hG⟩)) ?_;intro bO U hf;rw [oi C] at U;refine gb h fun bT aC h=>?_;obtain ⟨bB,bD,hae,aY,aZ⟩:=U.iF (α:=gE) (i:=0) rfl aC;cases hae;(try refine LW.u (iQ.ix underlying41 vO rfl rfl aY (by rw [iB (oi C)];exact aZ)) rfl ?_);refine gb h fun aE V h=>?_;refine LW.se 0 U 0 aC V (hM:=(ko (fun w cs F hF=>by obtain ⟨br,bu,bs,bv,bt,bw,rfl,hH⟩:=hF;exact ⟨br,bu,bs,bv,bt,bw,rfl,hH⟩))) fun bP an=>?_;refine gb h fun bU a3 h=>?_
     refine LW.c0 (xd a3 (show R.length=aE.length from ((iB (oi C)).trans (iB (oi V)))) (an.rI 0 rfl)) an fun bQ ao=>?_;refine kD [6,7,9,56] fun e=>?_;refine gc h ?_ ?_<;>intro _ h
     · refine go ?_;cases oi h;exact ⟨trivial,rfl,_,rfl,ry tt tt ⟨ab,ah,rfl,ao.pk [2]⟩⟩
     refine go ?_;replace h:=oi h;subst h;exact ⟨trivial,rfl,_,rfl,ry tt tt ⟨(some ⟨I,A,none⟩),J,(show (.tuple #[vS (some ⟨I,A,none⟩) R.length J,vI O]:Value)=.tuple #[vS (some ⟨I,A,none⟩) aE.length J,vI O] by rw [show R.length=aE.length from ((iB (oi C)).trans (iB (oi V)))]),ao.pk [0]⟩⟩
   refine go ?_;cases oi h;exact ⟨trivial,rfl,(aq.po [0,1])⟩
 intro x e bR hM;rcases aR with aR | bE
 · obtain ⟨rfl,hM⟩:=hM;obtain ⟨e,rfl,aU⟩:=eo hM;have h:=aN;refine go ?_;cases h;exact Rc tt tt ⟨ab,ah,rfl,aU.pk [0]⟩
 obtain ⟨rfl,u,rfl,hM⟩:=hM;cases aN;exact And.intro trivial hM
instance k_298:Ct prog 298:=⟨by kernel_rfl,@DZ⟩
theorem DX {w0 N ae af r} (h:rU N ae af=some r) {n J p} (K:J=ae.length) (L:rb w0 n p ae) :
    iq prog 327 #[vS n J p,vI af] w0 (fun v w=>∃ M O,v=.tuple #[vS M r.1.length O,.bool r.2]∧St w0 [] w [sl M O r.1]):=by
 subst K;unfold rU at h;refine iq.fn func327 fun e=>?_;have a1:=St.start w0;refine T ?_;intro ah a6 h bz m bA ak;obtain ⟨aS,ap,ay⟩:=ob h;refine CW.jn [0,1,6] [0] [(23,.bool aS)] ak (h1:=?_) (h2:=?_)
 · have h:=ap;refine T ?_;intro bC a7 h bB a3;refine bH h ?_ ?_<;>intro _ h
   · exact rt
   refine gB h ?_ ?_<;>intro _ h
   · exact rt
   refine T ?_;intro bq aQ h bg a4;exact rt
 intro e bi am;have h:=ay;refine gc h ?_ ?_<;>intro _ h
 · exact rt
 refine gb h fun ar ad h=>?_;obtain ⟨aV,a8,av,rfl,aC,aI,aM,rfl,aF⟩:=L.idx ad;refine go ?_;refine T ?_;refine dW ?_;have R:=am.drew;refine gb h fun br k h=>?_;obtain ⟨b,d,hae,aJ,aN⟩:=R.iF (α:=im) (i:=0) rfl k;subst hae;refine go ?_;obtain ⟨aT,A,a5⟩:=R.freeze (α:=im) 0 rfl;obtain ⟨aW,a9,aw,hae,aD,_,_,X,aG⟩:=A.kc.idx k;cases hae;obtain rfl:=X;refine T ?_;refine go ?_;refine T ?_;intro bs aR h bj an;refine go ?_;have ao:=an.i7 (α:=im) 0 rfl A;have ⟨bt,l,h⟩:=ob h;refine T ?_;refine LW.se 2 ao 0 k l (hM:=(ko (fun w cs F hF=>by obtain ⟨rfl,rfl⟩:=hF;exact ⟨rfl,rfl⟩))) fun bk q=>?_;refine T ?_;refine LW.bd [] #[.bool false,vI 0,vI 0,vI 0,vI 0] ?_;have ⟨bu,B,h⟩:=ob h;obtain ⟨aX,ba,hae,ab,ac⟩:=q.iF (α:=im) (i:=0) rfl B;cases hae;(try refine LW.u (iQ.ix underlying40 CZ rfl rfl ab (by rw [iB (oi l)];exact ac)) rfl ?_);have ⟨U,C,h⟩:=ob h;refine LW.se 0 q 0 B C (hM:=uB) fun bl V=>?_;refine go ?_;obtain ⟨bf,aa,aj⟩:=ob h;refine CW.ie aa 0 (fun f e wb=>En e [(1,vI af),(6,vS (some ⟨b,d,none⟩) f.1.length m),(7,vI ar.PM),(50,vI (ah.length:Int)),(51,vI f.2)]∧St w0 [] wb [sl (some ⟨b,d,none⟩) m f.1]) ?_ ⟨⟨rfl,(show (vS (some ⟨b,d,none⟩) ah.length m:Value)=vS (some ⟨b,d,none⟩) U.length m by rw [show ah.length=U.length from ((iB (oi l)).trans (iB (oi C)))]),rfl,rfl,rfl,trivial⟩,V.pk [0]⟩ ?_
 · intro f e bm o hM h;obtain ⟨e,rfl,g⟩:=eo hM;refine kD [1,6,7,50,51,52] fun e=>?_;refine gc h ?_ ?_<;>intro _ h
   · refine gs ?_;refine CW.block ?_;refine gs ?_;refine CW.region ?_;refine gs ?_;obtain ⟨aq,Z,ai⟩:=ob h;refine CW.jn [1,6,7,8,50,51] [0] [(67,.bool aq)] g (h1:=?_) (h2:=?_)
     · have h:=Z;refine gb h fun bv G h=>?_;obtain ⟨aY,bb,hae,aK,aO⟩:=g.iF (α:=im) (i:=0) rfl G;cases hae;refine go ?_;obtain ⟨aU,j,x⟩:=g.freeze (α:=im) 0 rfl;obtain ⟨aZ,bc,ax,hae,aE,_,_,Y,aH⟩:=j.kc.idx G;cases hae;obtain rfl:=Y;refine T ?_;refine bH h ?_ ?_<;>intro _ h
       · refine go ?_;refine T ?_;have az:=x.i7 (α:=im) 0 rfl j;exact rt
       refine go ?_;have aA:=x.i7 (α:=im) 0 rfl j;exact rt
     intro e bn z;have h:=ai;refine gc h ?_ ?_<;>intro _ h
     · refine gb h fun bw H h=>?_;obtain ⟨a0,be,hae,aL,aP⟩:=z.iF (α:=im) (i:=0) rfl H;cases hae;refine go ?_;refine gb h fun au I h=>?_;refine LW.se 1 z 0 H I (hM:=(ko (fun w cs F hF=>by obtain ⟨rfl,rfl⟩:=hF;exact ⟨rfl,rfl⟩))) fun bo W=>?_;refine go ?_;replace h:=oi h;subst h;exact ⟨rfl,⟨⟨rfl,(show (vS (some ⟨b,d,none⟩) f.1.length m:Value)=vS (some ⟨b,d,none⟩) au.length m by rw [iB (oi I)]),rfl,rfl,rfl,trivial⟩,W.pk [0]⟩⟩
     exact rt
   exact rt
 rintro e bp ⟨hE,aB⟩;obtain ⟨e,rfl⟩:=hE.out;have h:=aj;exact rt
instance k_327:Ct prog 327:=⟨by kernel_rfl,@DX⟩
theorem IQ {w0} {F:List Nat} {N I d X ae r} (h:od N I d X ae=some r) {H:Nat} {f j} (aq:iR (jo w0 F) w0 f j I.b) {l M z} (Y:M=d.PB.PA.length) (ar:iR (jo w0 F) w0 l z d.PB.PA) {m O A} (Z:O=d.own.length) (au:iR (jo w0 F) w0 m A d.own) {n R B} (aa:R=d.PC.length) (av:iR (jo w0 F) w0 n B d.PC) {g U k} (ab:U=d.py.ag.length) (K:iR (jo w0 F) w0 g k d.py.ag) {p V C} (ac:V=d.py.gc.hZ.length) (aw:iR (jo w0 F) w0 p C d.py.gc.hZ) {q W G} (ad:W=d.ia.length) (ax:iR (jo w0 F) w0 q G d.ia) (hS:St w0 F w0 [bx H 177 [vS f I.b.length j,vI I.i,vI I.h]]) :
    iq prog 73 #[.pointer (some ⟨H,0,none⟩),.agg #[vS l M z,vS m O A,vS n R B,vS g U k,vI d.py.gc.PD,vI d.py.gc.PL,vI d.py.gc.PF,vS p V C,vS q W G,vI d.PJ,vI d.PI,vI d.hY.bh,vI d.hY.ib,vI d.hY.ij,vI d.ik,vI d.PH],vI X,vI ae] w0 (fun v w=>v=vI r.1∧St w0 F w [bx H 177 [vS f I.b.length j,vI r.2.i,vI r.2.h]]):=by
 subst Y Z aa ab ac ad;unfold od at h;refine iq.fn func73 fun e=>?_;refine T ?_;intro L bo am;refine go ?_;obtain ⟨ah,ai,af⟩:=ob h;refine CW.it ai (fun J e wb=>En e [(0,.pointer (some ⟨H,0,none⟩)),(2,vI X),(3,vI ae),(5,.pointer (some ⟨L,0,none⟩)),(9,vS g d.py.ag.length k),(10,vI J.1)]∧St w0 F wb [bx L 50 (qP l z m A n B g k p C q G d),bx H 177 [vS f I.b.length j,vI J.2.1,vI J.2.2]]) (fun o x e wb=>match o with | .inl J=>x=.exit 0∧En e [(0,.pointer (some ⟨H,0,none⟩)),(2,vI X),(5,.pointer (some ⟨L,0,none⟩))]∧St w0 F wb [bx L 50 (qP l z m A n B g k p C q G d),bx H 177 [vS f I.b.length j,vI J.2.1,vI J.2.2]] | .inr r=>x=.ret∧∃ u,u=r∧∃ v,kI prog f73.results e wb v∧v=vI u.1∧St w0 F wb [bx H 177 [vS f I.b.length j,vI u.2.i,vI u.2.h]]) ?_ (am.po [0,1]) ?_
 · intro J e bp o hM h;obtain ⟨e,rfl,a5⟩:=eo hM;refine gc h ?_ ?_<;>intro _ h
   · refine gs ?_;refine CW.block ?_;refine gs ?_;obtain ⟨ak,ao,aA⟩:=ob h;refine CW.cut (fun e wb=>En e [(0,.pointer (some ⟨H,0,none⟩)),(2,vI X),(3,vI ae),(5,.pointer (some ⟨L,0,none⟩)),(9,vS g d.py.ag.length k),(10,vI J.1),(30,.bool ak.1)]∧St w0 F wb [bx L 50 (qP l z m A n B g k p C q G d),bx H 177 [vS f I.b.length j,vI ak.2.1,vI ak.2.2]]) ?_ ?_
     · have h:=ao;refine gb h fun bq ap h=>?_;obtain ⟨aX,bb,ay,rfl,aB,ba,aG,⟨aR,aZ,aS,a0,aT,a1,rfl,aI,aJ,aK⟩,aD⟩:=K.idx ap;refine go ?_;refine T ?_;refine bH h ?_ ?_<;>intro _ h
       · refine T ?_;intro bk aO h be a6;exact rt
       exact rt
     rintro e bf ⟨hE,a7⟩;obtain ⟨e,rfl⟩:=hE.out;have h:=aA;refine gc h ?_ ?_<;>intro _ h
     · refine gb h fun bl aj h=>?_;obtain ⟨aY,bc,az,rfl,aC,aF,aH,⟨aU,a2,aV,a3,aW,a4,rfl,aL,aM,aN⟩,aE⟩:=K.idx aj;refine go ?_;refine T ?_;intro bm aP h bg a8;exact rt
     exact rt
   exact rt
 intro x e bi hM;rcases ah with ah | bd
 · obtain ⟨rfl,hM⟩:=hM;obtain ⟨e,rfl,a9⟩:=eo hM;have h:=af;refine T ?_;intro bn aQ h bj an;replace h:=oi h;subst h;exact Ra ⟨rfl,an.pk [0]⟩
 obtain ⟨rfl,u,rfl,hM⟩:=hM;cases af;exact And.intro trivial hM
instance k_73:Ct prog 73:=⟨by kernel_rfl,@IQ⟩
theorem EW {w0} {F:List Nat} {N J r} (h:rh N J=some r) {C:Nat} {l m} (aS:iR (jo w0 F) w0 l m J.b) (hS:St w0 F w0 [bx C 177 [vS l J.b.length m,vI J.i,vI J.h]]) :
    iq prog 352 #[.pointer (some ⟨C,0,none⟩)] w0 (fun v w=>∃ ao aq,v=vS ao r.1.length aq∧St w0 F w [sl ao aq r.1,bx C 177 [vS l J.b.length m,vI r.2.i,vI r.2.h]]):=by
 unfold rh at h;refine iq.fn func352 fun e=>?_;refine T ?_;intro cP cm h a1 a9 cN ce cQ cn h cO aH;refine go ?_;obtain ⟨co,aE,aF⟩:=ob h;refine CW.ie aE 0 (fun R e wb=>∃ (k:Ad) (g:Nat),En e [(0,.pointer (some ⟨C,0,none⟩)),(3,vS k R.1.length g),(4,vI R.2.1)]∧St w0 F wb [bx C 177 [vS l J.b.length m,vI R.2.2.1,vI R.2.2.2],sl k g R.1]) ?_ ⟨a1,a9,aH.po [0,1]⟩ ?_
 · intro R e ct o hM h;obtain ⟨k,g,hE,cf⟩:=hM;obtain ⟨e,rfl⟩:=hE.out;refine gc h ?_ ?_<;>intro _ h
   · refine T ?_;intro cE bv h cu cg;refine gc h ?_ ?_<;>intro _ h
     · refine T ?_;intro cF bw h cv ci cG bz h bP b3 cw cj;exact rt
     refine T ?_;intro cH bA h bQ b4 bR b5 bS b6 cx ck cI bB h bT b7 cy cl;exact rt
   exact rt
 rintro e cz ⟨k,g,hE,aI⟩;obtain ⟨e,rfl⟩:=hE.out;have h:=aF;refine go ?_;obtain ⟨bG,am,au⟩:=ob h;refine CW.ie am 2 (fun f e wb=>En e [(0,.pointer (some ⟨C,0,none⟩)),(3,vS k f.1.length g),(9,vI f.2.1)]∧St w0 F wb [bx C 177 [vS l J.b.length m,vI f.2.2.1,vI f.2.2.2],sl k g f.1]) ?_ (aI.po [0,1]) ?_
 · intro f e cA o hM h;obtain ⟨e,rfl,U⟩:=eo hM;refine gc h ?_ ?_<;>intro _ h
   · refine gs ?_;refine CW.block ?_;refine gs ?_;obtain ⟨ab,aD,aG⟩:=ob h;refine CW.cut (fun e wb=>En e [(0,.pointer (some ⟨C,0,none⟩)),(3,vS k f.1.length g),(9,vI f.2.1),(52,.bool ab.1)]∧St w0 F wb [bx C 177 [vS l J.b.length m,vI ab.2.1,vI ab.2.2],sl k g f.1]) ?_ ?_
     · have h:=aD;refine gb h fun cJ Z h=>?_;obtain ⟨b0,cp,hae,bm,bo⟩:=U.iF (α:=gE) (i:=1) rfl Z;subst hae;refine go ?_;obtain ⟨bN,K,av⟩:=U.freeze (α:=gE) 1 rfl;obtain ⟨b1,cq,ba,hae,bi,_,_,aB,bk⟩:=K.kc.idx Z;cases hae;obtain ⟨bU,b8,bV,b9,bW,ca,rfl,bq,br,bs⟩:=aB;refine T ?_;refine bH h ?_ ?_<;>intro _ h
       · refine T ?_;intro cK bC h cB aw;have bc:=aw.i7 (α:=gE) 1 rfl K;exact rt
       refine go ?_;have bd:=av.i7 (α:=gE) 1 rfl K;exact rt
     rintro e cC ⟨hE,be⟩;obtain ⟨e,rfl⟩:=hE.out;have h:=aG;refine gc h ?_ ?_<;>intro _ h
     · refine T ?_;intro cL bD h cD V;have ⟨cM,aa,h⟩:=ob h;obtain ⟨ap,ar,hae,bn,bp⟩:=V.iF (α:=gE) (i:=1) rfl aa;subst hae;refine go ?_;obtain ⟨bO,n,W⟩:=V.freeze (α:=gE) 1 rfl;obtain ⟨b2,cr,bb,hae,bj,_,_,aC,bl⟩:=n.kc.idx aa;cases hae;obtain ⟨bX,cb,bY,cc,bZ,a5,rfl,bt,bu,aT⟩:=aC;refine T ?_;refine CW.fl [0,3,9,10,62] fun e=>?_;refine gc h ?_ ?_<;>intro _ h
       · refine dW ?_;have bf:=W.drew;refine gb h fun d H h=>?_;obtain ⟨a3,bE,hae,aO,aQ⟩:=n.iF H;cases hae;refine go ?_;obtain ⟨a4,bF,aK,hae,ad,_,_,af,ai⟩:=n.kc.idx H;cases hae;obtain ⟨aX,z,p,A,q,B,rfl,an,aU,aV⟩:=af;refine T ?_;refine jP 6 ?_;refine T ?_;intro bL aW h bI X;have ⟨bM,M,h⟩:=ob h;obtain ⟨x,I,aL,rfl,aM,aP,aR,rfl,aN⟩:=an.idx M;refine go ?_;have aj:=fun (j:Nat) (u:Value) (hu:([vI d.PO,vI d.Pz,vI d.box,vI d.res,vI d.iK,vI d.bh,vI d.PK,vI d.iP,vI d.iM,.bool d.mark,vS (some ⟨x,I,none⟩) d.ig.length z,vS p d.PG.length A,vS q d.PE.length B]:List Value)[j]?=some u)=>(World.cell?_of_block (X.zC 1 rfl ad)).trans (ai j u hu);have ax:=X.i7 (α:=gE) 1 rfl n;obtain ⟨aJ,ak,ah⟩:=ax.focus (α:=gE) (cs:=[vI d.PO,vI d.Pz,vI d.box,vI d.res,vI d.iK,vI d.bh,vI d.PK,vI d.iP,vI d.iM,.bool d.mark,vS (some ⟨x,I,none⟩) d.ig.length z,vS p d.PG.length A,vS q d.PE.length B]) 1 rfl H rfl aj;obtain ⟨aY,a6,aZ,a7,a0,a8,ae,ac⟩:=ak;cases ae;have ay:=ah [sl (some ⟨x,I,none⟩) z d.ig,sl p A d.PG,sl q B d.PE] ac;have ⟨L,O,h⟩:=ob h;refine T ?_;refine LW.se 0 ay 0 M O (hM:=uB) fun bJ Y=>?_;refine T ?_;replace h:=oi h;subst h;rw [iB (oi O)] at Y;have az:=Y.oF (gE.mk d.PO d.Pz d.box d.res d.iK d.bh d.PK d.iP d.iM d.mark L d.PG d.PE) [0,1,2,3,4] 3 1 rfl rfl (fun w G hG=>⟨(some ⟨x,I,none⟩),z,p,A,q,B,rfl,hG⟩)
         exact ⟨rfl,⟨⟨rfl,(show (vS (some ⟨ap,ar,none⟩) f.1.length g:Value)=vS (some ⟨ap,ar,none⟩) ((f.1.set (f.2.1:Int).toNat (gE.mk d.PO d.Pz d.box d.res d.iK d.bh d.PK d.iP d.iM d.mark L d.PG d.PE)).length) g by rw [show f.1.length=(f.1.set (f.2.1:Int).toNat (gE.mk d.PO d.Pz d.box d.res d.iK d.bh d.PK d.iP d.iM d.mark L d.PG d.PE)).length from (iB rfl)]),rfl,trivial⟩,az.pk [0,1]⟩⟩
       refine go ?_;have bg:=W.i7 (α:=gE) 1 rfl n;exact rt
     exact rt
   exact rt
 rintro e bK ⟨hE,aA⟩;obtain ⟨e,rfl⟩:=hE.out;have h:=au;refine go ?_;replace h:=oi h;subst h;exact Ra ⟨k,g,rfl,aA.pk [1,0]⟩
instance k_352:Ct prog 352:=⟨by kernel_rfl,@EW⟩
end Go.Kx
