import Derived.Test.YtlcgibcdiikheaaGreatWa10
import Derived.Test.YtlcgibcdiikheaaGreatWa11
namespace Go.Kx
open Go Go.RowKit Go.Proofs
open Tryz
set_option maxRecDepth 10000
set_option maxHeartbeats 8000000
set_option linter.unusedVariables false
set_option linter.unusedSimpArgs false
theorem IT {w0 N aX Y r} (h:xU N aX Y=some r) {aa ap ac} (aB:ap=aX.length) (X:rb w0 aa ac aX) :
    pY prog 349 #[vS aa ap ac,vI Y] w0 (fun v w=>∃ aG aH,v=.tuple #[vS aG r.1.length aH,.bool r.2]∧St w0 [] w [sl aG aH r.1]):=by
 subst aB;unfold xU at h;refine pY.fn func349 fun e=>?_;have cL:=St.start w0;refine T ?_;intro Z cO h c6 n c7 a0;obtain ⟨b5,a6,bz⟩:=ob h;refine CW.jn [0,1,6] [0] [(27,.bool b5)] a0 (h1:=?_) (h2:=?_)
 · have h:=a6;refine T ?_;intro c9 cP h c8 cM;refine bH h ?_ ?_<;>intro _ h
   · exact rt
   refine T ?_;intro c2 b4 h cW cN;refine bH h ?_ ?_<;>intro _ h
   · exact rt
   refine gb h fun c4 aU h=>?_;obtain ⟨cw,cQ,bu,rfl,bE,bL,bQ,⟨cm,cC,cn,cD,co,cE,rfl,bV,bW,bX⟩,bI⟩:=X.idx aU;refine go ?_;refine T ?_;exact rt
 intro e cX aI;have h:=bz;refine gc h ?_ ?_<;>intro _ h
 · exact rt
 refine gb h fun ar aV h=>?_;obtain ⟨cx,cR,bv,rfl,bF,bM,bR,⟨cp,cF,cq,cG,cr,cH,rfl,bY,bZ,b0⟩,bJ⟩:=X.idx aV;refine go ?_;refine T ?_;refine LW.bd [(0,vI ar.Vr)] #[vI ar.Vr,vI 0,vI 0,vI 0,vI 0,vI 0,vI 0,vI 0,vI 0,.bool false,vS none 0 0,vS none 0 0,vS none 0 0] ?_;have ⟨a7,am,h⟩:=ob h;obtain ⟨f,d,hae,bN,bS⟩:=aI.qk (α:=j8) (i:=0) rfl am;subst hae;refine go ?_;have a1:=aI.nil (α:=Int);have a3:=a1.nil (α:=Int);have a4:=a3.nil (α:=qM);have a5:=a4.pk (M:=[sl none 0 [],sl none 0 [],sl none 0 []]++[sl (some ⟨f,d,none⟩) n Z]) [2,1,0,3];have ⟨a8,an,h⟩:=ob h;refine LW.B9 (M:=[sl none 0 [],sl none 0 [],sl none 0 []]) (L:=[sl (some ⟨f,d,none⟩) n Z]) (z:=a7) (z':=(j8.mk ar.Vr 0 0 0 0 0 0 0 0 false [] [] [])) (o:=0) a5 (i:=0) rfl am Ci rfl (by show _=d+(Y:Int).toNat * 13+0;omega) rfl rfl rfl rfl (whole (fun w G hG=>⟨none,0,none,0,none,0,rfl,hG⟩)) ?_;intro cY ad hf;rw [oi an] at ad;refine go ?_;obtain ⟨b7,aF,aK⟩:=ob h;refine CW.ie aF 0 (fun k e wb=>En e [(1,vI Y),(6,vS (some ⟨f,d,none⟩) k.1.length n),(39,vI (Z.length:Int)),(40,vI k.2)]∧St w0 [] wb [sl (some ⟨f,d,none⟩) n k.1]) ?_ ⟨⟨rfl,(show (vS (some ⟨f,d,none⟩) Z.length n:Value)=vS (some ⟨f,d,none⟩) a8.length n by rw [pV (oi an)]),rfl,rfl,trivial⟩,ad.pk [0]⟩ ?_
 · intro k e cZ o hM h;obtain ⟨e,rfl,ae⟩:=eo hM;refine rU [1,6,39,40,41] fun e=>?_;refine gc h ?_ ?_<;>intro _ h
   · refine gb h fun c5 U h=>?_;obtain ⟨cy,cS,hae,bO,bT⟩:=ae.qk (α:=j8) (i:=0) rfl U;cases hae;refine go ?_;obtain ⟨ck,I,O⟩:=ae.freeze (α:=j8) 0 rfl;obtain ⟨cz,cT,bw,hae,bG,_,_,aS,bK⟩:=I.rQ.idx U;cases hae;obtain ⟨ct,cI,cu,cJ,cv,cK,rfl,b1,b2,b3⟩:=aS;refine T ?_;refine gc h ?_ ?_<;>intro _ h
     · refine go ?_;have bA:=O.qG (α:=j8) 0 rfl I;exact rt
     refine go ?_;refine T ?_;obtain ⟨C,aT,aZ⟩:=ob h;refine CW.cut (fun e wb=>En e [(1,vI Y),(6,vS (some ⟨f,d,none⟩) C.length n),(7,vI k.2),(39,vI (Z.length:Int)),(40,vI k.2)]∧St w0 [] wb [sl (some ⟨f,d,none⟩) n C]) ?_ ?_
     · have h:=aT;refine CW.fl [1,6,7,39,40,55] fun e=>?_;refine gc h ?_ ?_<;>intro _ h
       · refine go ?_;have aL:=O.qG (α:=j8) 0 rfl I;have ⟨a9,ao,h⟩:=ob h;refine LW.se 2 aL 0 U ao (hM:=(rm (fun w cs F hF=>by obtain ⟨b8,cb,b9,cc,ca,ce,rfl,hH⟩:=hF;exact ⟨b8,cb,b9,cc,ca,ce,rfl,hH⟩))) fun c0 aM=>?_;refine go ?_;replace h:=oi h;subst h;exact ⟨⟨rfl,(show (vS (some ⟨f,d,none⟩) k.1.length n:Value)=vS (some ⟨f,d,none⟩) a9.length n by rw [pV (oi ao)]),rfl,rfl,rfl,trivial⟩,aM.pk [0]⟩
       refine go ?_;have bB:=O.qG (α:=j8) 0 rfl I;exact rt
     rintro e c1 ⟨hE,af⟩;obtain ⟨e,rfl⟩:=hE.out;have h:=aZ;refine gb h fun b V h=>?_;obtain ⟨cA,cU,hae,bP,bU⟩:=af.qk (α:=j8) (i:=0) rfl V;cases hae;refine go ?_;obtain ⟨cl,ak,ah⟩:=af.freeze (α:=j8) 0 rfl;obtain ⟨cB,cV,bb,hae,av,_,_,ax,aA⟩:=ak.rQ.idx V;cases hae;obtain ⟨m,g,p,x,q,A,rfl,bj,bk,bl⟩:=ax;refine T ?_;refine go ?_;have aC:=fun (j:Nat) (u:Value) (hu:((qO m g p x q A b):List Value)[j]?=some u)=>(World.cell?_of_block (ah.zC 0 rfl av)).trans (aA j u hu);have aN:=ah.qG (α:=j8) 0 rfl ak;obtain ⟨ba,aD,az⟩:=aN.focus (α:=j8) (cs:=[vI b.Vr,vI b.Vc,vI b.box,vI b.Vp,vI b.qx,vI b.gE,vI b.Vl,vI b.qw,vI b.qq,.bool b.Vm,vS m b.pX.length g,vS p b.Vh.length x,vS q b.Vf.length A]) 0 rfl V rfl aC;obtain ⟨bn,br,bo,bs,bp,bt,aw,au⟩:=aD;cases aw;have aO:=az [sl m g b.pX,sl p x b.Vh,sl q A b.Vf] au;obtain ⟨W,aE,aJ⟩:=ob h;refine CW.ie aE 2 (fun B e wb=>En e [(1,vI Y),(6,vS (some ⟨f,d,none⟩) C.length n),(7,vI k.2),(39,vI (Z.length:Int)),(40,vI k.2),(64,vS m B.1.length g),(65,vI (b.pX.length:Int)),(66,vI B.2)]∧St w0 [] wb [sl m g B.1,sl p x b.Vh,sl q A b.Vf,hole j8 (some ⟨f,d,none⟩) n C (k.2:Int).toNat [vI b.Vr,vI b.Vc,vI b.box,vI b.Vp,vI b.qx,vI b.gE,vI b.Vl,vI b.qw,vI b.qq,.bool b.Vm,vS m B.1.length g,vS p b.Vh.length x,vS q b.Vf.length A]]) ?_ (aO.po [0,1,2,3]) ?_
     · intro B e aW o hM h;obtain ⟨e,rfl,ai⟩:=eo hM;refine gc h ?_ ?_<;>intro _ h
       · refine gb h fun cj J h=>?_;obtain ⟨ab,aq,hae,bg,bi⟩:=ai.qk (α:=Int) (i:=0) rfl J;subst hae;refine go ?_;obtain ⟨bm,H,R⟩:=ai.freeze (α:=Int) 0 rfl;obtain ⟨bq,b6,bc,hae,be,_,_,ay,bf⟩:=H.rQ.idx J;cases hae;obtain rfl:=ay;refine T ?_;refine CW.fl [1,6,7,8,39,40,64,65,66,73] fun e=>?_;refine gc h ?_ ?_<;>intro _ h
         · refine go ?_;refine LW.l (rh.rR aW B0 rfl (R.yA 3 rfl (j:=10) rfl)) rfl rfl ?_;refine go ?_;have aP:=R.qG (α:=Int) 0 rfl H;have ⟨aY,K,h⟩:=ob h;refine LW.se 0 aP 0 J K (hM:=A1) fun cf aj=>?_;refine go ?_;replace h:=oi h;subst h;rw [pV (oi K)] at aj;exact ⟨rfl,⟨⟨rfl,rfl,rfl,rfl,rfl,(show (vS (some ⟨ab,aq,none⟩) B.1.length g:Value)=vS (some ⟨ab,aq,none⟩) aY.length g by rw [pV (oi K)]),rfl,rfl,trivial⟩,aj.pk [0,1,2,3]⟩⟩
         refine go ?_;have bC:=R.qG (α:=Int) 0 rfl H;exact rt
       exact rt
     rintro e cg ⟨hE,aQ⟩;obtain ⟨e,rfl⟩:=hE.out;have h:=aJ;refine go ?_;replace h:=oi h;subst h;have aR:=aQ.vH (j8.mk b.Vr b.Vc b.box b.Vp b.qx b.gE b.Vl b.qw b.qq b.Vm W.1 b.Vh b.Vf) [0,1,2,3] 3 0 rfl rfl (fun w G hG=>⟨m,g,p,x,q,A,rfl,hG⟩);exact ⟨rfl,⟨⟨rfl,(show (vS (some ⟨f,d,none⟩) C.length n:Value)=vS (some ⟨f,d,none⟩) ((C.set (k.2:Int).toNat (j8.mk b.Vr b.Vc b.box b.Vp b.qx b.gE b.Vl b.qw b.qq b.Vm W.1 b.Vh b.Vf)).length) n by rw [show C.length=(C.set (k.2:Int).toNat (j8.mk b.Vr b.Vc b.box b.Vp b.qx b.gE b.Vl b.qw b.qq b.Vm W.1 b.Vh b.Vf)).length from (pV rfl)]),rfl,rfl,trivial⟩,aR.pk [0]⟩⟩
   exact rt
 rintro e ci ⟨hE,bD⟩;obtain ⟨e,rfl⟩:=hE.out;have h:=aK;exact rt
instance k_349:Ct prog 349:=⟨by kernel_rfl,@IT⟩
theorem JC {w0 N a5 b r} (h:y5 N a5 b=some r) {aa aD af} (aF:aD=a5.length) (p:rb w0 aa af a5) {d X k} (av:X=b.pX.length) (ay:rb w0 d k b.pX) {f Y m} (aw:Y=b.Vh.length) (az:rb w0 f m b.Vh) {g Z n} (ax:Z=b.Vf.length) (aA:rb w0 g n b.Vf) :
    pY prog 298 #[vS aa aD af,.agg #[vI b.Vr,vI b.Vc,vI b.box,vI b.Vp,vI b.qx,vI b.gE,vI b.Vl,vI b.qw,vI b.qq,.bool b.Vm,vS d X k,vS f Y m,vS g Z n]] w0 (fun v w=>∃ H K,v=.tuple #[vS H r.1.length K,vI r.2]∧St w0 [] w [sl H K r.1]):=by
 subst aF av aw ax;unfold y5 at h;refine pY.fn func298 fun e=>?_;have a8:=St.start w0;refine C5 a8 fun a6 bV aO=>?_;refine gb h fun be bb h=>?_;refine LW.cl (B2 bb rfl (aO.rB p)) ?_;rintro _ bW ⟨ab,ah,rfl,hs⟩;have ap:=aO.add hs;refine gs ?_;obtain ⟨bq,ba,bi⟩:=ob h;refine CW.jn [0,3,6] [0,1] [(19,.bool bq)] ap (h1:=?_) (h2:=?_)
 · have h:=ba;refine gb h fun bX bc h=>?_;refine LW.c0 (DB bc rfl (ap.rB p)) ap fun bF aP=>?_;refine gB h ?_ ?_<;>intro _ h
   · refine go ?_;cases oi h;exact aP.po [0,1]
   refine go ?_;cases oi h;exact aP.po [0,1]
 intro e bG aQ;have h:=bi;refine gc h ?_ ?_<;>intro _ h
 · refine go ?_;cases h;exact Rc tt tt ⟨ab,ah,rfl,aQ.pk [0]⟩
 refine go ?_;obtain ⟨aR,aX,aN⟩:=ob h;refine CW.mono (CW.lx [0,3,6,21,22] [0,1] [6] 0 (fun O=>[(23,vI O)]) (fun r x e wb=>x=.ret∧∃ u,u=r∧∃ v,tu prog f298.results e wb v∧∃ H K,v=.tuple #[vS H u.1.length K,vI u.2]∧St w0 [] wb [sl H K u.1]) aQ aX (hb:=?_)) ?_
 · intro O e bI o aq h;refine gc h ?_ ?_<;>intro _ h
   · refine gb h fun aS a0 h=>?_;obtain ⟨bA,bC,bg,rfl,au,bj,bl,⟨aG,aJ,aH,aK,aI,aL,rfl,bn,bo,bp⟩,aW⟩:=p.idx a0;refine go ?_;refine LW.l (rh.Bj w0 Ci rfl rfl (fun j u hu=>aW j u hu)) (aq.same _ au.1 au.2) rfl ?_;refine LW.al aq fun aM bJ a9=>?_;refine C0 a9 0 fun bK W=>?_;refine gs ?_;obtain ⟨bd,aV,a7⟩:=ob h;refine CW.jn [0,3,6,7,8,21,22,23] [0,1,2] [(39,.bool bd)] W (h1:=?_) (h2:=?_)
     · have h:=aV;refine gB h ?_ ?_<;>intro _ h
       · refine go ?_;cases oi h;exact W.po [0,1,2]
       refine go ?_;refine bH h ?_ ?_<;>intro _ h
       · refine go ?_;cases oi h;exact W.po [0,1,2]
       refine go ?_;cases oi h;exact W.po [0,1,2]
     intro e bL ar;have h:=a7;refine rU [0,3,6,7,8,21,22,23,39] fun e=>?_;refine gc h ?_ ?_<;>intro _ h
     · refine go ?_;cases oi h;exact ⟨rfl,(ar.po [1,2])⟩
     refine gb h fun R a1 h=>?_;refine LW.cl (B2 a1 rfl (ar.rB p)) ?_;rintro _ bM ⟨bz,J,rfl,hs⟩;have B:=ar.add hs;refine gb h fun q a2 h=>?_;refine LW.cl (FX a2 rfl (B.rB ay) rfl (B.rB az) rfl (B.rB aA)) ?_;rintro _ bN ⟨ac,ai,ad,aj,ae,ak,rfl,hs⟩;have am:=B.add hs;have ⟨bf,aB,h⟩:=ob h;obtain ⟨I,A,hae,bk,bm⟩:=am.qk (α:=j8) (i:=3) rfl aB;subst hae;refine go ?_;have aT:=am.pk (M:=[sl ac ai q.pX,sl ad aj q.Vh,sl ae ak q.Vf]++[sl (some ⟨I,A,none⟩) J R,bx aM 101 (qO aG aJ aH aK aI aL aS),sl ab ah be,bx a6 101 (qO d k f m g n b)]) [0,1,2,3,4,5,6];have ⟨bS,C,h⟩:=ob h;refine LW.B9 (M:=[sl ac ai q.pX,sl ad aj q.Vh,sl ae ak q.Vf]) (L:=[sl (some ⟨I,A,none⟩) J R,bx aM 101 (qO aG aJ aH aK aI aL aS),sl ab ah be,bx a6 101 (qO d k f m g n b)]) (z:=bf) (z':=q) (o:=0) aT (i:=0) rfl aB Ci rfl (by show _=A+(O:Int).toNat * 13+0;omega) rfl rfl rfl rfl (whole (fun w G hG=>⟨ac,ai,ad,aj,ae,ak,rfl,hG⟩)) ?_;intro bO U hf;rw [oi C] at U;refine gb h fun bT aC h=>?_;obtain ⟨bB,bD,hae,aY,aZ⟩:=U.qk (α:=j8) (i:=0) rfl aC;cases hae;(try refine LW.u (qp.ix underlying41 uM rfl rfl aY (by rw [pV (oi C)];exact aZ)) rfl ?_);refine gb h fun aE V h=>?_;refine LW.se 0 U 0 aC V (hM:=(rm (fun w cs F hF=>by obtain ⟨br,bu,bs,bv,bt,bw,rfl,hH⟩:=hF;exact ⟨br,bu,bs,bv,bt,bw,rfl,hH⟩))) fun bP an=>?_;refine gb h fun bU a3 h=>?_
     refine LW.c0 (DB a3 (show R.length=aE.length from ((pV (oi C)).trans (pV (oi V)))) (an.rI 0 rfl)) an fun bQ ao=>?_;refine rU [6,7,9,56] fun e=>?_;refine gc h ?_ ?_<;>intro _ h
     · refine go ?_;cases oi h;exact ⟨trivial,rfl,_,rfl,ry tt tt ⟨ab,ah,rfl,ao.pk [2]⟩⟩
     refine go ?_;replace h:=oi h;subst h;exact ⟨trivial,rfl,_,rfl,ry tt tt ⟨(some ⟨I,A,none⟩),J,(show (.tuple #[vS (some ⟨I,A,none⟩) R.length J,vI O]:Value)=.tuple #[vS (some ⟨I,A,none⟩) aE.length J,vI O] by rw [show R.length=aE.length from ((pV (oi C)).trans (pV (oi V)))]),ao.pk [0]⟩⟩
   refine go ?_;cases oi h;exact ⟨trivial,rfl,(aq.po [0,1])⟩
 intro x e bR hM;rcases aR with aR | bE
 · obtain ⟨rfl,hM⟩:=hM;obtain ⟨e,rfl,aU⟩:=eo hM;have h:=aN;refine go ?_;cases h;exact Rc tt tt ⟨ab,ah,rfl,aU.pk [0]⟩
 obtain ⟨rfl,u,rfl,hM⟩:=hM;cases aN;exact And.intro trivial hM
instance k_298:Ct prog 298:=⟨by kernel_rfl,@JC⟩
theorem Kr {w0 N ae af r} (h:yX N ae af=some r) {n J p} (K:J=ae.length) (L:rb w0 n p ae) :
    pY prog 327 #[vS n J p,vI af] w0 (fun v w=>∃ M O,v=.tuple #[vS M r.1.length O,.bool r.2]∧St w0 [] w [sl M O r.1]):=by
 subst K;unfold yX at h;refine pY.fn func327 fun e=>?_;have a1:=St.start w0;refine T ?_;intro ah a6 h bz m bA ak;obtain ⟨aS,ap,ay⟩:=ob h;refine CW.jn [0,1,6] [0] [(23,.bool aS)] ak (h1:=?_) (h2:=?_)
 · have h:=ap;refine T ?_;intro bC a7 h bB a3;refine bH h ?_ ?_<;>intro _ h
   · exact rt
   refine gB h ?_ ?_<;>intro _ h
   · exact rt
   refine T ?_;intro bq aQ h bg a4;exact rt
 intro e bi am;have h:=ay;refine gc h ?_ ?_<;>intro _ h
 · exact rt
 refine gb h fun ar ad h=>?_;obtain ⟨aV,a8,av,rfl,aC,aI,aM,rfl,aF⟩:=L.idx ad;refine go ?_;refine T ?_;refine dW ?_;have R:=am.drew;refine gb h fun br k h=>?_;obtain ⟨b,d,hae,aJ,aN⟩:=R.qk (α:=qc) (i:=0) rfl k;subst hae;refine go ?_;obtain ⟨aT,A,a5⟩:=R.freeze (α:=qc) 0 rfl;obtain ⟨aW,a9,aw,hae,aD,_,_,X,aG⟩:=A.rQ.idx k;cases hae;obtain rfl:=X;refine T ?_;refine go ?_;refine T ?_;intro bs aR h bj an;refine go ?_;have ao:=an.qG (α:=qc) 0 rfl A;have ⟨bt,l,h⟩:=ob h;refine T ?_;refine LW.se 2 ao 0 k l (hM:=(rm (fun w cs F hF=>by obtain ⟨rfl,rfl⟩:=hF;exact ⟨rfl,rfl⟩))) fun bk q=>?_;refine T ?_;refine LW.bd [] #[.bool false,vI 0,vI 0,vI 0,vI 0] ?_;have ⟨bu,B,h⟩:=ob h;obtain ⟨aX,ba,hae,ab,ac⟩:=q.qk (α:=qc) (i:=0) rfl B;cases hae;(try refine LW.u (qp.ix underlying40 Ef rfl rfl ab (by rw [pV (oi l)];exact ac)) rfl ?_);have ⟨U,C,h⟩:=ob h;refine LW.se 0 q 0 B C (hM:=A1) fun bl V=>?_;refine go ?_;obtain ⟨bf,aa,aj⟩:=ob h;refine CW.ie aa 0 (fun f e wb=>En e [(1,vI af),(6,vS (some ⟨b,d,none⟩) f.1.length m),(7,vI ar.Vq),(50,vI (ah.length:Int)),(51,vI f.2)]∧St w0 [] wb [sl (some ⟨b,d,none⟩) m f.1]) ?_ ⟨⟨rfl,(show (vS (some ⟨b,d,none⟩) ah.length m:Value)=vS (some ⟨b,d,none⟩) U.length m by rw [show ah.length=U.length from ((pV (oi l)).trans (pV (oi C)))]),rfl,rfl,rfl,trivial⟩,V.pk [0]⟩ ?_
 · intro f e bm o hM h;obtain ⟨e,rfl,g⟩:=eo hM;refine rU [1,6,7,50,51,52] fun e=>?_;refine gc h ?_ ?_<;>intro _ h
   · refine gs ?_;refine CW.block ?_;refine gs ?_;refine CW.region ?_;refine gs ?_;obtain ⟨aq,Z,ai⟩:=ob h;refine CW.jn [1,6,7,8,50,51] [0] [(67,.bool aq)] g (h1:=?_) (h2:=?_)
     · have h:=Z;refine gb h fun bv G h=>?_;obtain ⟨aY,bb,hae,aK,aO⟩:=g.qk (α:=qc) (i:=0) rfl G;cases hae;refine go ?_;obtain ⟨aU,j,x⟩:=g.freeze (α:=qc) 0 rfl;obtain ⟨aZ,bc,ax,hae,aE,_,_,Y,aH⟩:=j.rQ.idx G;cases hae;obtain rfl:=Y;refine T ?_;refine bH h ?_ ?_<;>intro _ h
       · refine go ?_;refine T ?_;have az:=x.qG (α:=qc) 0 rfl j;exact rt
       refine go ?_;have aA:=x.qG (α:=qc) 0 rfl j;exact rt
     intro e bn z;have h:=ai;refine gc h ?_ ?_<;>intro _ h
     · refine gb h fun bw H h=>?_;obtain ⟨a0,be,hae,aL,aP⟩:=z.qk (α:=qc) (i:=0) rfl H;cases hae;refine go ?_;refine gb h fun au I h=>?_;refine LW.se 1 z 0 H I (hM:=(rm (fun w cs F hF=>by obtain ⟨rfl,rfl⟩:=hF;exact ⟨rfl,rfl⟩))) fun bo W=>?_;refine go ?_;replace h:=oi h;subst h;exact ⟨rfl,⟨⟨rfl,(show (vS (some ⟨b,d,none⟩) f.1.length m:Value)=vS (some ⟨b,d,none⟩) au.length m by rw [pV (oi I)]),rfl,rfl,rfl,trivial⟩,W.pk [0]⟩⟩
     exact rt
   exact rt
 rintro e bp ⟨hE,aB⟩;obtain ⟨e,rfl⟩:=hE.out;have h:=aj;exact rt
instance k_327:Ct prog 327:=⟨by kernel_rfl,@Kr⟩
theorem Ml {w0 N b d r} (h:zm N b d=some r) {f O x} (ae:O=b.Vb.Va.length) (au:rb w0 f x b.Vb.Va) {g R z} (af:R=b.own.length) (av:rb w0 g z b.own) {i U A} (ah:U=b.Vd.length) (aw:rb w0 i A b.Vd) {j V B} (ai:V=b.U7.ag.length) (ax:rb w0 j B b.U7.ag) {k W C} (aj:W=b.U7.gc.pT.length) (ay:rb w0 k C b.U7.gc.pT) {l X G} (ak:X=b.pU.length) (az:rb w0 l G b.pU) {m Y H} (am:Y=d.Vb.Va.length) (aA:rb w0 m H d.Vb.Va) {n Z I} (an:Z=d.own.length) (aB:rb w0 n I d.own) {o aa J} (ao:aa=d.Vd.length) (aC:rb w0 o J d.Vd) {p ab K} (ap:ab=d.U7.ag.length) (aD:rb w0 p K d.U7.ag) {q ac L} (aq:ac=d.U7.gc.pT.length) (aE:rb w0 q L d.U7.gc.pT) {u ad M} (ar:ad=d.pU.length) (aF:rb w0 u M d.pU) :
    pY prog 189 #[.agg #[vS f O x,vS g R z,vS i U A,vS j V B,vI b.U7.gc.Ve,vI b.U7.gc.Vn,vI b.U7.gc.Vg,vS k W C,vS l X G,vI b.Vj,vI b.Vk,vI b.bh.gE,vI b.bh.qa,vI b.bh.qg,vI b.pZ,vI b.Vi],.agg #[vS m Y H,vS n Z I,vS o aa J,vS p ab K,vI d.U7.gc.Ve,vI d.U7.gc.Vn,vI d.U7.gc.Vg,vS q ac L,vS u ad M,vI d.Vj,vI d.Vk,vI d.bh.gE,vI d.bh.qa,vI d.bh.qg,vI d.pZ,vI d.Vi]] w0 (fun v w=>v=.bool r∧St w0 [] w []):=by
 subst ae af ah ai aj ak am an ao ap aq ar;unfold zm at h;refine pY.fn func189 fun e=>?_;have aK:=St.start w0;refine T ?_;intro a3 a5 aL a4 a6 aM a9 aT h a7 aN;refine gc h ?_ ?_<;>intro _ h
 · exact rt
 refine T ?_;intro ba aU h a8 aO;refine CW.fl [2,3,16] fun e=>?_;refine gc h ?_ ?_<;>intro _ h
 · exact rt
 refine T ?_;intro aZ aG h aV aP;refine gc h ?_ ?_<;>intro _ h
 · exact rt
 refine T ?_;intro a0 aH h aW aQ;refine gc h ?_ ?_<;>intro _ h
 · exact rt
 refine T ?_;intro a1 aI h aX aR;refine CW.fl [2,3,34] fun e=>?_;refine gc h ?_ ?_<;>intro _ h
 · exact rt
 refine gc h ?_ ?_<;>intro _ h
 · exact rt
 refine gc h ?_ ?_<;>intro _ h
 · exact rt
 refine T ?_;intro a2 aJ h aY aS;refine CW.fl [2,3,50] fun e=>?_;refine gc h ?_ ?_<;>intro _ h
 · exact rt
 refine gc h ?_ ?_<;>intro _ h
 · exact rt
 refine gc h ?_ ?_<;>intro _ h
 · exact rt
 exact rt
instance k_189:Ct prog 189:=⟨by kernel_rfl,@Ml⟩
end Go.Kx
