import Derived.Test.YtlcgibcdiikheaaGreatWa11
import Derived.Test.YtlcgibcdiikheaaGreatWa12
namespace Go.Kx
open Go Go.RowKit Go.Proofs
open Tryz
set_option maxRecDepth 10000
set_option maxHeartbeats 8000000
set_option linter.unusedVariables false
set_option linter.unusedSimpArgs false
theorem Dr {w0 N ae af r} (h:qU N ae af=some r) {n J p} (K:J=ae.length) (L:rb w0 n p ae) :
    gV prog 327 #[vS n J p,vI af] w0 (fun v w=>∃ M O,v=.tuple #[vS M r.1.length O,.bool r.2]∧St w0 [] w [sl M O r.1]):=by
 subst K;unfold qU at h;refine gV.fn func327 fun e=>?_;have a1:=St.start w0;refine T ?_;intro ah a6 h bz m bA ak;obtain ⟨aS,ap,ay⟩:=ob h;refine CW.jn [0,1,6] [0] [(23,.bool aS)] ak (h1:=?_) (h2:=?_)
 · have h:=ap;refine T ?_;intro bC a7 h bB a3;refine bH h ?_ ?_<;>intro _ h
   · exact rt
   refine gB h ?_ ?_<;>intro _ h
   · exact rt
   refine T ?_;intro bq aQ h bg a4;exact rt
 intro e bi am;have h:=ay;refine gc h ?_ ?_<;>intro _ h
 · exact rt
 refine gb h fun ar ad h=>?_;obtain ⟨aV,a8,av,rfl,aC,aI,aM,rfl,aF⟩:=L.idx ad;refine go ?_;refine T ?_;refine dW ?_;have R:=am.drew;refine gb h fun br k h=>?_;obtain ⟨b,d,hae,aJ,aN⟩:=R.hZ (α:=g6) (i:=0) rfl k;subst hae;refine go ?_;obtain ⟨aT,A,a5⟩:=R.freeze (α:=g6) 0 rfl;obtain ⟨aW,a9,aw,hae,aD,_,_,X,aG⟩:=A.ju.idx k;cases hae;obtain rfl:=X;refine T ?_;refine go ?_;refine T ?_;intro bs aR h bj an;refine go ?_;have ao:=an.iD (α:=g6) 0 rfl A;have ⟨bt,l,h⟩:=ob h;refine T ?_;refine LW.se 2 ao 0 k l (hM:=(iU (fun w cs F hF=>by obtain ⟨rfl,rfl⟩:=hF;exact ⟨rfl,rfl⟩))) fun bk q=>?_;refine T ?_;refine LW.bd [] #[.bool false,vI 0,vI 0,vI 0,vI 0] ?_;have ⟨bu,B,h⟩:=ob h;obtain ⟨aX,ba,hae,ab,ac⟩:=q.hZ (α:=g6) (i:=0) rfl B;cases hae;(try refine LW.u (il.ix underlying40 yb rfl rfl ab (by rw [gS (oi l)];exact ac)) rfl ?_);have ⟨U,C,h⟩:=ob h;refine LW.se 0 q 0 B C (hM:=ui) fun bl V=>?_;refine go ?_;obtain ⟨bf,aa,aj⟩:=ob h;refine CW.ie aa 0 (fun f e wb=>En e [(1,vI af),(6,vS (some ⟨b,d,none⟩) f.1.length m),(7,vI ar.Pv),(50,vI (ah.length:Int)),(51,vI f.2)]∧St w0 [] wb [sl (some ⟨b,d,none⟩) m f.1]) ?_ ⟨⟨rfl,(show (vS (some ⟨b,d,none⟩) ah.length m:Value)=vS (some ⟨b,d,none⟩) U.length m by rw [show ah.length=U.length from ((gS (oi l)).trans (gS (oi C)))]),rfl,rfl,rfl,trivial⟩,V.pk [0]⟩ ?_
 · intro f e bm o hM h;obtain ⟨e,rfl,g⟩:=eo hM;refine jw [1,6,7,50,51,52] fun e=>?_;refine gc h ?_ ?_<;>intro _ h
   · refine gs ?_;refine CW.block ?_;refine gs ?_;refine CW.region ?_;refine gs ?_;obtain ⟨aq,Z,ai⟩:=ob h;refine CW.jn [1,6,7,8,50,51] [0] [(67,.bool aq)] g (h1:=?_) (h2:=?_)
     · have h:=Z;refine gb h fun bv G h=>?_;obtain ⟨aY,bb,hae,aK,aO⟩:=g.hZ (α:=g6) (i:=0) rfl G;cases hae;refine go ?_;obtain ⟨aU,j,x⟩:=g.freeze (α:=g6) 0 rfl;obtain ⟨aZ,bc,ax,hae,aE,_,_,Y,aH⟩:=j.ju.idx G;cases hae;obtain rfl:=Y;refine T ?_;refine bH h ?_ ?_<;>intro _ h
       · refine go ?_;refine T ?_;have az:=x.iD (α:=g6) 0 rfl j;exact rt
       refine go ?_;have aA:=x.iD (α:=g6) 0 rfl j;exact rt
     intro e bn z;have h:=ai;refine gc h ?_ ?_<;>intro _ h
     · refine gb h fun bw H h=>?_;obtain ⟨a0,be,hae,aL,aP⟩:=z.hZ (α:=g6) (i:=0) rfl H;cases hae;refine go ?_;refine gb h fun au I h=>?_;refine LW.se 1 z 0 H I (hM:=(iU (fun w cs F hF=>by obtain ⟨rfl,rfl⟩:=hF;exact ⟨rfl,rfl⟩))) fun bo W=>?_;refine go ?_;replace h:=oi h;subst h;exact ⟨rfl,⟨⟨rfl,(show (vS (some ⟨b,d,none⟩) f.1.length m:Value)=vS (some ⟨b,d,none⟩) au.length m by rw [gS (oi I)]),rfl,rfl,rfl,trivial⟩,W.pk [0]⟩⟩
     exact rt
   exact rt
 rintro e bp ⟨hE,aB⟩;obtain ⟨e,rfl⟩:=hE.out;have h:=aj;exact rt
instance k_327:Ct prog 327:=⟨by kernel_rfl,@Dr⟩
theorem Ik {w0 N b d r} (h:sb N b d=some r) {f O x} (ae:O=b.Pe.Pd.length) (au:rb w0 f x b.Pe.Pd) {g R z} (af:R=b.own.length) (av:rb w0 g z b.own) {i U A} (ah:U=b.Pg.length) (aw:rb w0 i A b.Pg) {j V B} (ai:V=b.py.ag.length) (ax:rb w0 j B b.py.ag) {k W C} (aj:W=b.py.gc.gQ.length) (ay:rb w0 k C b.py.gc.gQ) {l X G} (ak:X=b.gR.length) (az:rb w0 l G b.gR) {m Y H} (am:Y=d.Pe.Pd.length) (aA:rb w0 m H d.Pe.Pd) {n Z I} (an:Z=d.own.length) (aB:rb w0 n I d.own) {o aa J} (ao:aa=d.Pg.length) (aC:rb w0 o J d.Pg) {p ab K} (ap:ab=d.py.ag.length) (aD:rb w0 p K d.py.ag) {q ac L} (aq:ac=d.py.gc.gQ.length) (aE:rb w0 q L d.py.gc.gQ) {u ad M} (ar:ad=d.gR.length) (aF:rb w0 u M d.gR) :
    gV prog 189 #[.agg #[vS f O x,vS g R z,vS i U A,vS j V B,vI b.py.gc.Ph,vI b.py.gc.Pr,vI b.py.gc.Pj,vS k W C,vS l X G,vI b.Pn,vI b.Pp,vI b.cd.gE,vI b.cd.gX,vI b.cd.g8,vI b.g5,vI b.Pm],.agg #[vS m Y H,vS n Z I,vS o aa J,vS p ab K,vI d.py.gc.Ph,vI d.py.gc.Pr,vI d.py.gc.Pj,vS q ac L,vS u ad M,vI d.Pn,vI d.Pp,vI d.cd.gE,vI d.cd.gX,vI d.cd.g8,vI d.g5,vI d.Pm]] w0 (fun v w=>v=.bool r∧St w0 [] w []):=by
 subst ae af ah ai aj ak am an ao ap aq ar;unfold sb at h;refine gV.fn func189 fun e=>?_;have aK:=St.start w0;refine T ?_;intro a3 a5 aL a4 a6 aM a9 aT h a7 aN;refine gc h ?_ ?_<;>intro _ h
 · exact rt
 refine T ?_;intro ba aU h a8 aO;refine CW.fl [2,3,16] fun e=>?_;refine gc h ?_ ?_<;>intro _ h
 · exact rt
 refine T ?_;intro aZ aG h aV aP;refine gc h ?_ ?_<;>intro _ h
 · exact rt
 refine T ?_;intro a0 aH h aW aQ;refine gc h ?_ ?_<;>intro _ h
 · exact rt
 refine T ?_;intro a1 aI h aX aR;refine CW.fl [2,3,34] fun e=>?_;refine gc h ?_ ?_<;>intro _ h
 · exact rt
 refine gc h ?_ ?_<;>intro _ h
 · exact rt
 refine gc h ?_ ?_<;>intro _ h
 · exact rt
 refine T ?_;intro a2 aJ h aY aS;refine CW.fl [2,3,50] fun e=>?_;refine gc h ?_ ?_<;>intro _ h
 · exact rt
 refine gc h ?_ ?_<;>intro _ h
 · exact rt
 refine gc h ?_ ?_<;>intro _ h
 · exact rt
 exact rt
instance k_189:Ct prog 189:=⟨by kernel_rfl,@Ik⟩
theorem zY {w0 N b r} (h:sL N b=some r) :
    gV prog 297 #[.agg #[vI b.gE,vI b.gX,vI b.g8]] w0 (fun v w=>∃ j k,v=.tuple #[vS j r.1.length k,.bool r.2]∧St w0 [] w [sl j k r.1]):=by
 unfold sL at h;refine gV.fn func297 fun e=>?_;have B:=St.start w0;refine T ?_;intro M O p;have ⟨A,u,h⟩:=ob h;refine LW.mk GX rfl rfl u p rfl ?_;intro L o R l hf;refine jt [(0,.bool true),(1,vI (-1)),(2,.agg #[vI b.gE,vI b.gX,vI b.g8])] #[.bool true,vI (-1),vI b.gE,vI b.gX,vI b.g8] ?_;have ⟨U,n,h⟩:=ob h;obtain ⟨d,g,hae,G,H⟩:=l.hZ (α:=g6) (i:=0) rfl n;subst hae;refine go ?_;have ⟨x,f,h⟩:=ob h;refine LW.se 0 l 0 n f (hM:=ui) fun I C=>?_;refine T ?_;intro K z h J m;refine CW.fl [4,12] fun e=>?_;refine gc h ?_ ?_<;>intro _ h
 · refine go ?_;cases h;have q:=m.nil (α:=g6);exact Rc tt tt ⟨none,0,rfl,q.pk [0]⟩
 refine go ?_;replace h:=oi h;subst h;exact Rc tt tt ⟨(some ⟨d,g,none⟩),o,(show (.tuple #[vS (some ⟨d,g,none⟩) A.length o,.bool true]:Value)=.tuple #[vS (some ⟨d,g,none⟩) x.length o,.bool true] by rw [gS (oi f)]),m.pk [0]⟩
instance k_297:Ct prog 297:=⟨by kernel_rfl,@zY⟩
end Go.Kx
