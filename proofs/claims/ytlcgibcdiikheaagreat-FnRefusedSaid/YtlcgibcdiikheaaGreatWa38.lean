import Derived.Test.YtlcgibcdiikheaaGreatWa34
import Derived.Test.YtlcgibcdiikheaaGreatWa36
namespace Go.Kx
open Go Go.RowKit Go.Proofs
open Go.IntKind (i64)
open Tryz
set_option maxRecDepth 10000
set_option maxHeartbeats 8000000
set_option linter.unusedVariables false
set_option linter.unusedSimpArgs false
theorem HR {w0 N l r} (h:uh N l=some r) {f i g} (j:i=l.length) (k:rb w0 f g l) :
    iq prog 94 #[vS f i g] w0 (fun v w=>v=.agg #[vI r.bh,vI r.ib,vI r.ij]∧St w0 [] w []):=by
 subst j;unfold uh at h;refine iq.fn func94 fun e=>?_;have ak:=St.start w0;refine T ?_;intro n aD am;refine LW.bd [] #[vI 0,vI 0,vI 0] ?_;refine T ?_;intro p aE an aF u;refine go ?_;obtain ⟨aw,m,q⟩:=ob h;refine CW.ie m 0 (fun b e wb=>En e [(0,vS f l.length g),(2,.pointer (some ⟨n,0,none⟩)),(3,.pointer (some ⟨p,0,none⟩)),(4,vI b.1)]∧St w0 [] wb [bx p 48 [vI b.2.1,vI b.2.2.1,vI b.2.2.2],bx n 48 [vI 0,vI 0,vI 0]]) ?_ (u.po [0,1]) ?_
 · intro b e aG o hM h;obtain ⟨e,rfl,ao⟩:=eo hM;refine gc h ?_ ?_<;>intro _ h
   · refine gb h fun aH x h=>?_;obtain ⟨ab,av,z,rfl,C,H,I,⟨V,ac,W,ad,X,ae,Y,af,Z,ah,aa,ai,rfl,J,K,L,M,O,R⟩,G⟩:=k.idx x;refine go ?_;refine T ?_;intro d U h ax ap aj ay aq az ar;refine LW.bd [(0,vI (i64.wrap (b.2.1+d.bh))),(1,vI (i64.wrap (b.2.2.1+d.ib))),(2,vI (i64.wrap (b.2.2.2+d.ij)))] #[vI (i64.wrap (b.2.1+d.bh)),vI (i64.wrap (b.2.2.1+d.ib)),vI (i64.wrap (b.2.2.2+d.ij))] ?_;refine T ?_;intro aA au;exact rt
   exact rt
 rintro e aB ⟨hE,A⟩;obtain ⟨e,rfl⟩:=hE.out;have h:=q;refine T ?_;intro aC B;exact rt
instance k_94:Ct prog 94:=⟨by kernel_rfl,@HR⟩
theorem FF {w0 N b az r} (h:sD N b az=some r) {j O q} (Y:O=b.PB.PA.length) (aA:rb w0 j q b.PB.PA) {k R u} (Z:R=b.own.length) (aB:rb w0 k u b.own) {l U x} (aa:U=b.PC.length) (aC:rb w0 l x b.PC) {m V z} (ab:V=b.py.ag.length) (ae:rb w0 m z b.py.ag) {n W A} (ac:W=b.py.gc.hZ.length) (aD:rb w0 n A b.py.gc.hZ) {p X B} (ad:X=b.ia.length) (aE:rb w0 p B b.ia) :
    iq prog 166 #[.agg #[vS j O q,vS k R u,vS l U x,vS m V z,vI b.py.gc.PD,vI b.py.gc.PL,vI b.py.gc.PF,vS n W A,vS p X B,vI b.PJ,vI b.PI,vI b.hY.bh,vI b.hY.ib,vI b.hY.ij,vI b.ik,vI b.PH],vI az] w0 (fun v w=>∃ af ah,v=vS af r.length ah∧St w0 [] w [sl af ah r]):=by
 subst Y Z aa ab ac ad;unfold sD at h;refine iq.fn func166 fun e=>?_;have a9:=St.start w0;refine T ?_;intro aj bu aw;refine LW.b0 (α:=Int) aw ?_;intro aF aG bv ba hf;refine T ?_;intro bz be h bw bb;refine gc h ?_ ?_<;>intro _ h
 · exact rt
 refine T ?_;intro ar bf h H I bm ax;refine go ?_;obtain ⟨bk,ao,av⟩:=ob h;refine CW.ie ao 0 (fun g e wb=>∃ (d:Ad) (f:Nat),En e [(2,.pointer (some ⟨aj,0,none⟩)),(5,vS d g.1.length f),(6,vS H ar.length I),(7,vI g.2)]∧St w0 [] wb [sl H I ar,sl d f g.1,bx aj 50 (qP j q k u l x m z n A p B b)]) ?_ ⟨aF,aG,ax.po [0,1,2]⟩ ?_
 · intro g e bn o hM h;obtain ⟨d,f,hE,J⟩:=hM;obtain ⟨e,rfl⟩:=hE.out;refine kD [2,5,6,7,21] fun e=>?_;refine gc h ?_ ?_<;>intro _ h
   · refine gs ?_;refine CW.block ?_;refine gs ?_;obtain ⟨ay,an,au⟩:=ob h;refine CW.jn [2,5,6,7] [0,1,2] [(37,.bool ay)] J (h1:=?_) (h2:=?_)
     · have h:=an;refine gb h fun br K h=>?_;obtain ⟨a1,bg,hae,aP,aR⟩:=J.iF (α:=Bool) (i:=0) rfl K;subst hae;refine go ?_;obtain ⟨aW,C,ai⟩:=J.freeze (α:=Bool) 0 rfl;obtain ⟨a2,bi,aH,hae,aL,_,_,am,aN⟩:=C.kc.idx K;cases hae;obtain rfl:=am;refine T ?_;refine bH h ?_ ?_<;>intro _ h
       · refine gb h fun bs ap h=>?_;obtain ⟨a4,bj,aI,rfl,aM,aQ,aS,⟨aX,a5,aY,a6,aZ,a7,rfl,aT,aU,aV⟩,aO⟩:=ae.idx ap;refine go ?_;refine T ?_;have bc:=ai.i7 (α:=Bool) 0 rfl C;exact rt
       refine go ?_;have bd:=ai.i7 (α:=Bool) 0 rfl C;exact rt
     intro e bo ak;have h:=au;refine gc h ?_ ?_<;>intro _ h
     · refine gb h fun bt aq h=>?_;refine LW.l5 (M:=[]) (L:=[sl H I ar,sl d f g.1,bx aj 50 (qP j q k u l x m z n A p B b)]) (vs:=#[vI g.2]) (i:=1) nb rfl (by kernel_rfl) rfl rfl aq ak rfl (fun w G hG=>by cases (show G=[] from hG);exact ⟨rfl,rfl⟩) rfl rfl ?_;intro bl a0 a8 bp aJ hf;exact rt
     exact rt
   exact rt
 rintro e bq ⟨d,f,hE,aK⟩;obtain ⟨e,rfl⟩:=hE.out;have h:=av;exact rt
instance k_166:Ct prog 166:=⟨by kernel_rfl,@FF⟩
theorem wC {w0 N u C G H r} (h:oG N u C G H=some r) {b g d} (j:g=u.length) (k:rb w0 b d u) :
    iq prog 50 #[vS b g d,vI C,vI G,vI H] w0 (fun v w=>v=vI r∧St w0 [] w []):=by
 subst j;unfold oG at h;refine iq.fn func50 fun e=>?_;have z:=St.start w0;refine gs ?_;refine CW.region ?_;refine gs ?_;obtain ⟨ai,A,h2⟩:=ob h;refine CW.jn [0,1,3] [] [(23,.bool ai)] z (h1:=?_) (h2:=?_)
 · have h:=A;refine T ?_;intro aX aE h aV ay;refine bH h ?_ ?_<;>intro _ h
   · exact rt
   refine T ?_;intro aY aF h aW az;refine bH h ?_ ?_<;>intro _ h
   · exact rt
   refine T ?_;intro aZ aG h aK aA;exact rt
 intro e aL aB;have h:=h2;refine gc h ?_ ?_<;>intro _ h
 · exact rt
 refine T ?_;intro aQ ae h aM l;obtain ⟨B,o,x⟩:=ob h;refine CW.jn [9] [] [(50,.bool B)] l (h1:=?_) (h2:=?_)
 · have h:=o;refine dW ?_;have aC:=l.drew;refine gb h fun aR q h=>?_;obtain ⟨ap,aH,I,rfl,M,X,Z,⟨ak,au,am,av,an,aw,rfl,ab,ac,ad⟩,V⟩:=k.idx q;refine go ?_;refine T ?_;refine bH h ?_ ?_<;>intro R h
   · exact rt
   refine go ?_;refine T ?_;intro aS af h aN aD;refine bH h ?_ ?_<;>intro U h
   · exact rt
   refine go ?_;refine jP 19 ?_;refine T ?_;intro aT ah h ao ax aO m;have ⟨aU,f,h⟩:=ob h;obtain ⟨aq,aI,hae,Y,aa⟩:=m.iF (α:=Bool) (i:=0) rfl f;subst hae;refine go ?_;obtain ⟨aj,p,K⟩:=m.freeze (α:=Bool) 0 rfl;obtain ⟨ar,aJ,J,hae,O,_,_,n,W⟩:=p.kc.idx f;cases hae;obtain rfl:=n;refine T ?_;exact rt
 intro e aP L;have h:=x;refine gc h ?_ ?_<;>intro _ h
 · exact rt
 exact rt
instance k_50:Ct prog 50:=⟨by kernel_rfl,@wC⟩
theorem HY {w0 N f aA r} (h:oU N f aA=some r) {B L m} (U:L=f.ag.length) (W:rb w0 B m f.ag) {l M n} (V:M=f.gc.hZ.length) (aB:rb w0 l n f.gc.hZ) :
    iq prog 282 #[.agg #[vS B L m,vI f.gc.PD,vI f.gc.PL,vI f.gc.PF,vS l M n],vI aA] w0 (fun v w=>∃ o q, ∃ p x,v=.tuple #[.agg #[vS o r.1.ag.length q,vI r.1.gc.PD,vI r.1.gc.PL,vI r.1.gc.PF,vS p r.1.gc.hZ.length x],vI r.2]∧St w0 [] w [sl o q r.1.ag,sl p x r.1.gc.hZ]):=by
 subst U V;unfold oU at h;refine iq.fn func282 fun e=>?_;have bl:=St.start w0;refine T ?_;intro au b6 bm R b7 bn O bu h b4 b5 ap ar bz bo z bA bp bB bq bV aX h bC br;refine gc h ?_ ?_<;>intro _ h
 · refine T ?_;intro bD bs;exact rt
 refine kD [1,2,4,6,21] fun e=>?_;refine gc h ?_ ?_<;>intro _ h
 · refine T ?_;intro bW aY h a1 bb a2 bc bE bt bF aD;exact rt
 refine gb h fun bX ah h=>?_;obtain ⟨aq,az,aC,rfl,aM,aO,aR,⟨a3,be,a4,bf,a5,bg,rfl,aU,aV,aW⟩,aN⟩:=W.idx ah;refine go ?_;refine T ?_;intro bk bG aE bI Z;obtain ⟨ay,ad,av⟩:=ob h;refine CW.jn [2,4,6,7,8,9] [0,1,2,3,4,5] [(49,.bool ay)] Z (h1:=?_) (h2:=?_)
 · have h:=ad;refine gB h ?_ ?_<;>intro _ h
   · refine gB h ?_ ?_<;>intro _ h
     · refine go ?_;refine bH h ?_ ?_<;>intro _ h
       · exact rt
       refine T ?_;intro bY aZ h bJ aF;exact rt
     exact rt
   exact rt
 intro e bK C;have h:=av;refine gs ?_;obtain ⟨A,ae,aw⟩:=ob h;refine CW.cut (fun e wb=>∃ (b:Ad) (d:Nat),En e [(2,.pointer (some ⟨au,0,none⟩)),(4,.pointer (some ⟨R,0,none⟩)),(6,.pointer (some ⟨z,0,none⟩)),(7,vI f.gc.PL),(8,vI A.1)]∧St w0 [] wb [bx z 45 [vS b A.2.length d,vI O.gc.PD,vI O.gc.PL,vI O.gc.PF,vS ap O.gc.hZ.length ar],sl ap ar O.gc.hZ,bx R 45 [vS none 0 0,vI 0,vI 0,vI 0,vS none 0 0],bx au 45 (qH (some ⟨aq,az,none⟩) m l n f),sl b d A.2]) ?_ ?_
 · have h:=ae;refine CW.fl [2,4,6,7,8,9,49] fun e=>?_;refine gc h ?_ ?_<;>intro _ h
   · refine T ?_;intro bZ a0 h a7 bj bL aG bM aH;exact rt
   refine gc h ?_ ?_<;>intro _ h
   · refine gb h fun b0 H h=>?_;obtain ⟨a9,bv,hae,aP,aS⟩:=C.iF (α:=gE) (i:=2) rfl H;subst hae;refine go ?_;refine gb h fun b1 I h=>?_;refine LW.se 9 C 2 H I (hM:=(ko (fun w cs F hF=>by obtain ⟨ai,am,aj,an,ak,ao,rfl,hH⟩:=hF;exact ⟨ai,am,aj,an,ak,ao,rfl,hH⟩))) fun bN aa=>?_;refine go ?_;rw [iB (oi I)] at aa;exact rt
   exact rt
 rintro e bO ⟨b,d,hE,aI⟩;obtain ⟨e,rfl⟩:=hE.out;have h:=aw;refine T ?_;intro bP ab;obtain ⟨g,af,ax⟩:=ob h;refine CW.cut (fun e wb=>∃ (j:Ad) (k:Nat),En e [(4,.pointer (some ⟨R,0,none⟩)),(6,.pointer (some ⟨z,0,none⟩)),(8,vI A.1)]∧St w0 [] wb [bx z 45 [vS b g.1.length d,vI g.2.1,vI g.2.2.1,vI g.2.2.2.1,vS j g.2.2.2.2.length k],bx R 45 [vS none 0 0,vI 0,vI 0,vI 0,vS none 0 0],sl b d g.1,sl j k g.2.2.2.2]) ?_ ?_
 · have h:=af;refine CW.fl [2,4,6,8,75] fun e=>?_;refine gc h ?_ ?_<;>intro _ h
   · refine go ?_;refine LW.u (iQ.min rfl rfl) rfl ?_;refine LW.bi [0] ab ?_;intro X Y bQ aJ hf;refine LW.bd [(2,vI (if 1000000<i64.wrap (f.gc.PF+1) then 1000000 else i64.wrap (f.gc.PF+1))),(3,vS X (([0]:List Int).length) Y)] #[vI 0,vI 0,vI (if 1000000<i64.wrap (f.gc.PF+1) then 1000000 else i64.wrap (f.gc.PF+1)),vS X (([0]:List Int).length) Y] ?_;refine T ?_;intro bR G;have ⟨b2,J,h⟩:=ob h;obtain ⟨ba,bw,hae,aQ,aT⟩:=G.iF (α:=gE) (i:=5) rfl J;subst hae;refine go ?_;refine gb h fun b3 K h=>?_;refine LW.se 9 G 5 J K (hM:=(ko (fun w cs F hF=>by obtain ⟨ai,am,aj,an,ak,ao,rfl,hH⟩:=hF;exact ⟨ai,am,aj,an,ak,ao,rfl,hH⟩))) fun bS ac=>?_;refine go ?_;rw [iB (oi K)] at ac;exact rt
   exact rt
 rintro e bT ⟨j,k,hE,aK⟩;obtain ⟨e,rfl⟩:=hE.out;have h:=ax;refine T ?_;intro bU aL;exact rt
instance k_282:Ct prog 282:=⟨by kernel_rfl,@HY⟩
theorem CL {w0 N M B b r} (h:oK N M B b=some r) {l q n} (A:q=M.length) (W:rb w0 l n M) :
    iq prog 269 #[vS l q n,vI B,.agg #[vI b.bh,vI b.ib,vI b.ij]] w0 (fun v w=>∃ d f,v=.tuple #[vS d r.1.length f,vI r.2.1,.bool r.2.2]∧St w0 [] w [sl d f r.1]):=by
 subst A;unfold oK at h;refine iq.fn func269 fun e=>?_;have an:=St.start w0;refine T ?_;intro aG aH ao af ar h aE J aI O;refine CW.fl [0,1,5,9,20] fun e=>?_;refine gc h ?_ ?_<;>intro _ h
 · refine T ?_;intro aJ au h aF ak ax ap;exact rt
 refine go ?_;obtain ⟨I,L,C⟩:=ob h;refine CW.mono (CW.lx [0,1,5,9] [0,1] [0] 0 (fun k=>[(11,vI k)]) (fun r x e wb=>x=.ret∧∃ u,u=r∧∃ v,kI prog f269.results e wb v∧∃ d f,v=.tuple #[vS d u.1.length f,vI u.2.1,.bool u.2.2]∧St w0 [] wb [sl d f u.1]) O L (hb:=?_)) ?_
 · intro k e ay o G h;refine gc h ?_ ?_<;>intro _ h
   · refine gb h fun aC j h=>?_;obtain ⟨m,z,hae,ac,ad⟩:=G.iF (α:=im) (i:=0) rfl j;subst hae;refine go ?_;obtain ⟨ah,g,H⟩:=G.freeze (α:=im) 0 rfl;obtain ⟨aj,av,X,hae,aa,_,_,K,ab⟩:=g.kc.idx j;cases hae;obtain rfl:=K;refine T ?_;refine CW.fl [0,1,5,9,11,34] fun e=>?_;refine gc h ?_ ?_<;>intro _ h
     · refine jL [(0,.bool true),(1,vI B),(2,.agg #[vI b.bh,vI b.ib,vI b.ij])] #[.bool true,vI B,vI b.bh,vI b.ib,vI b.ij] ?_;refine go ?_;have R:=H.i7 (α:=im) 0 rfl g;have ⟨V,p,h⟩:=ob h;refine LW.se 0 R 0 j p (hM:=uB) fun az U=>?_;refine go ?_;replace h:=oi h;subst h;exact ⟨trivial,rfl,_,rfl,⟨_,kI.three (iD.t rfl) (iD.t rfl) (iD.t rfl),(some ⟨m,z,none⟩),J,(show (.tuple #[vS (some ⟨m,z,none⟩) af.1.length J,vI k,.bool true]:Value)=.tuple #[vS (some ⟨m,z,none⟩) V.length J,vI k,.bool true] by rw [iB (oi p)]),U.pk [0]⟩⟩
     refine go ?_;have aq:=H.i7 (α:=im) 0 rfl g;exact rt
   exact rt
 intro x e aA hM;rcases I with I | aw
 · obtain ⟨rfl,hM⟩:=hM;obtain ⟨e,rfl,Y⟩:=eo hM;have h:=C;refine T ?_;intro aD ae h ai am aB Z;exact rt
 obtain ⟨rfl,u,rfl,hM⟩:=hM;cases C;exact And.intro trivial hM
instance k_269:Ct prog 269:=⟨by kernel_rfl,@CL⟩
theorem Dg {w0 N l m n i r} (h:rL N l m n i=some r) {b f d} (g:f=l.length) (o:rb w0 b d l) :
    iq prog 270 #[vS b f d,vI m,vI n,.agg #[vI i.bh,vI i.ib,vI i.ij]] w0 (fun v w=>∃ j k,v=.tuple #[vS j r.1.length k,.bool r.2]∧St w0 [] w [sl j k r.1]):=by
 subst g;unfold rL at h;refine iq.fn func270 fun e=>?_;have H:=St.start w0;refine T ?_;intro ad ae I ai R h af J;refine gc h ?_ ?_<;>intro _ h
 · refine T ?_;intro aj U h ab ac ah K;exact rt
 refine T ?_;intro Y p h x B V L;refine CW.fl [0,2,7,10,26] fun e=>?_;refine gc h ?_ ?_<;>intro _ h
 · refine T ?_;intro Z q h z C W M;exact rt
 refine T ?_;intro aa u h A G X O;exact rt
instance k_270:Ct prog 270:=⟨by kernel_rfl,@Dg⟩
theorem EX {w0} {F:List Nat} {N f a8 H r} (h:s7 N f a8 H=some r) {g an n} (aw:an=f.PB.PA.length) {j ao o} (ax:ao=f.own.length) {k ap p} (ay:ap=f.PC.length) {ae aq z} (az:aq=f.py.ag.length) {l ar q} (aA:ar=f.py.gc.hZ.length) {m au x} (aB:au=f.ia.length) (hS:St w0 F w0 [sl g n f.PB.PA,sl j o f.own,sl k p f.PC,sl ae z f.py.ag,sl l q f.py.gc.hZ,sl m x f.ia]) :
    iq prog 177 #[.agg #[vS g an n,vS j ao o,vS k ap p,vS ae aq z,vI f.py.gc.PD,vI f.py.gc.PL,vI f.py.gc.PF,vS l ar q,vS m au x,vI f.PJ,vI f.PI,vI f.hY.bh,vI f.hY.ib,vI f.hY.ij,vI f.ik,vI f.PH],vI a8,.agg #[vI H.Pz,vI H.a,vI H.b,vI H.c,vI H.d,vI H.e]] w0 (fun v w=>∃ O Y, ∃ R Z, ∃ U aa, ∃ V ab, ∃ W ac, ∃ X ad,v=.tuple #[.agg #[vS O r.1.PB.PA.length Y,vS R r.1.own.length Z,vS U r.1.PC.length aa,vS V r.1.py.ag.length ab,vI r.1.py.gc.PD,vI r.1.py.gc.PL,vI r.1.py.gc.PF,vS W r.1.py.gc.hZ.length ac,vS X r.1.ia.length ad,vI r.1.PJ,vI r.1.PI,vI r.1.hY.bh,vI r.1.hY.ib,vI r.1.hY.ij,vI r.1.ik,vI r.1.PH],.agg #[vI r.2.code,vI r.2.PR]]∧St w0 F w [sl O Y r.1.PB.PA,sl R Z r.1.own,sl U aa r.1.PC,sl V ab r.1.py.ag,sl W ac r.1.py.gc.hZ,sl X ad r.1.ia]):=by
 subst aw ax ay az aA aB;unfold s7 at h;refine iq.fn func177 fun e=>?_;refine T ?_;intro a0 cv bV a1 cw bW a2 cx bX a3 bL aD;have ⟨av,aF,h⟩:=ob h;obtain ⟨C,G,hae,bz,bC⟩:=aD.iF (α:=gE) (i:=7) rfl aF;subst hae;refine go ?_;obtain ⟨aT,A,bY⟩:=aD.freeze (α:=gE) 7 rfl;obtain ⟨bO,b1,a9,hae,br,_,_,aO,bu⟩:=A.kc.idx aF;cases hae;obtain ⟨aU,aX,aV,aY,aW,aZ,rfl,bF,bG,bI⟩:=aO;refine T ?_;intro aC b6 bZ b7 a6;obtain ⟨am,aR,a4⟩:=ob h;refine CW.cut (fun e wb=>∃ (B:Nat),En e [(3,.pointer (some ⟨a0,0,none⟩)),(5,.pointer (some ⟨a1,0,none⟩)),(6,.pointer (some ⟨a2,0,none⟩)),(7,.pointer (some ⟨a3,0,none⟩)),(8,.pointer (some ⟨aC,0,none⟩)),(9,.pointer (some ⟨B,0,none⟩))]∧St w0 F wb [bx aC 101 (qO aU aX aV aY aW aZ av),bx a3 32 [vI 0,vI 0],bx a2 50 [vS none 0 0,vS none 0 0,vS none 0 0,vS none 0 0,vI 0,vI 0,vI 0,vS none 0 0,vS none 0 0,vI 0,vI 0,vI 0,vI 0,vI 0,vI 0,vI 0],bx a1 28 (qL H),bx a0 50 (qP g n j o k p (some ⟨C,G,none⟩) z l q m x f),sl g n f.PB.PA,sl j o f.own,sl k p f.PC,fz bL aT,sl l q f.py.gc.hZ,sl m x f.ia,bx B 48 [vI am.1,vI am.2.1,vI am.2.2]]) ?_ ?_
 · have h:=aR;refine dW ?_;have b0:=a6.drew;refine gb h fun cr bJ h=>?_;refine AW.all (rs:=[5,9]) (by kernel_rfl) (by simp) ⟨?_,?_,trivial⟩
   · refine oA ?_;refine T ?_;intro b8 aE;have ⟨ct,aj,h⟩:=ob h;obtain ⟨bP,b2,hae,bA,bD⟩:=aE.iF (α:=im) (i:=7) rfl aj;subst hae;refine go ?_;obtain ⟨bM,ah,bc⟩:=aE.freeze (α:=im) 7 rfl;obtain ⟨bQ,b3,ba,hae,bs,_,_,aP,bv⟩:=ah.kc.idx aj;cases hae;obtain rfl:=aP;refine T ?_;intro bT b9 bd ca aH;have be:=aH.i7 (α:=im) 8 rfl ah;exact rt
   refine oA ?_;refine T ?_;intro bU cb bf;refine jP 5 ?_;refine T ?_;intro cc af;have ⟨cu,ak,h⟩:=ob h;obtain ⟨bR,b4,hae,bB,bE⟩:=af.iF (α:=im) (i:=8) rfl ak;subst hae;refine go ?_;obtain ⟨bN,ai,bg⟩:=af.freeze (α:=im) 8 rfl;obtain ⟨bS,b5,bb,hae,bt,_,_,aQ,bw⟩:=ai.kc.idx ak;cases hae;obtain rfl:=aQ;refine T ?_;intro ce aI;have bi:=aI.i7 (α:=im) 8 rfl ai;exact rt
 rintro e cf ⟨B,hE,I⟩;obtain ⟨e,rfl⟩:=hE.out;have h:=a4;refine kD [3,5,6,7,8,9,26,27] fun e=>?_;refine gc h ?_ ?_<;>intro _ h
 · refine kb ?_;have bj:=I.drew;refine go ?_;refine AW.u (i:=3) rfl (by kernel_rfl) rfl rfl (iQ.build (vs:=[(1,vI av.iM)]) (cs:=#[vI 0,vI av.iM]) rfl (by kernel_rfl)) ?_;refine T ?_;intro cg bk ci aJ;cases h;have J:=aJ.i7 (α:=gE) 8 rfl A;exact Rc (iD.b J 2 rfl lV rfl rfl) (iD.b J 1 rfl lM rfl rfl) ⟨g,n,j,o,k,p,(some ⟨C,G,none⟩),z,l,q,m,x,rfl,J.pk [5,6,7,8,9,10]⟩
 refine gc h ?_ ?_<;>intro _ h
 · refine kb ?_;have bl:=I.drew;refine go ?_;refine AW.u (i:=3) rfl (by kernel_rfl) rfl rfl (iQ.build (vs:=[(1,vI av.iP)]) (cs:=#[vI 0,vI av.iP]) rfl (by kernel_rfl)) ?_;refine T ?_;intro cj bm ck aK;cases h;have K:=aK.i7 (α:=gE) 8 rfl A;exact Rc (iD.b K 2 rfl lV rfl rfl) (iD.b K 1 rfl lM rfl rfl) ⟨g,n,j,o,k,p,(some ⟨C,G,none⟩),z,l,q,m,x,rfl,K.pk [5,6,7,8,9,10]⟩
 refine gs ?_;refine CW.region ?_;refine gs ?_;obtain ⟨a7,aS,a5⟩:=ob h;refine CW.jn [3,5,6,7,9] [1,2,3,4,5,6,7,8,9,10,11] [(39,.bool a7)] I (h1:=?_) (h2:=?_)
 · have h:=aS;refine gc h ?_ ?_<;>intro _ h
   · exact rt
   refine gc h ?_ ?_<;>intro _ h
   · exact rt
   exact rt
 intro e cl aL;have h:=a5;refine gc h ?_ ?_<;>intro _ h
 · refine kb ?_;have bn:=aL.drew;refine T ?_;intro aG bK h cm bo;refine AW.u (i:=6) rfl (by kernel_rfl) rfl rfl (iQ.build (vs:=[(1,vI aG)]) (cs:=#[vI 0,vI aG]) rfl (by kernel_rfl)) ?_;refine T ?_;intro cn bp co aM;cases h;have L:=aM.i7 (α:=gE) 7 rfl A;exact Rc (iD.b L 1 rfl lV rfl rfl) (iD.b L 0 rfl lM rfl rfl) ⟨g,n,j,o,k,p,(some ⟨C,G,none⟩),z,l,q,m,x,rfl,L.pk [4,5,6,7,8,9]⟩
 refine jL [(0,vI 2)] #[vI 2,vI 0] ?_;refine T ?_;intro cp bq cq aN;cases h;have M:=aN.i7 (α:=gE) 7 rfl A;exact Rc (iD.b M 1 rfl lV rfl rfl) (iD.b M 0 rfl lM rfl rfl) ⟨g,n,j,o,k,p,(some ⟨C,G,none⟩),z,l,q,m,x,rfl,M.pk [4,5,6,7,8,9]⟩
instance k_177:Ct prog 177:=⟨by kernel_rfl,@EX⟩
theorem HH {w0 N b r} (h:qd N b=some r) {d A l} (J:A=b.PB.PA.length) (af:rb w0 d l b.PB.PA) {f B m} (K:B=b.own.length) (ah:rb w0 f m b.own) {g C n} (L:C=b.PC.length) (ai:rb w0 g n b.PC) {i G p} (M:G=b.py.ag.length) (aj:rb w0 i p b.py.ag) {j H q} (O:H=b.py.gc.hZ.length) (ak:rb w0 j q b.py.gc.hZ) {k I z} (R:I=b.ia.length) (U:rb w0 k z b.ia) :
    iq prog 151 #[.agg #[vS d A l,vS f B m,vS g C n,vS i G p,vI b.py.gc.PD,vI b.py.gc.PL,vI b.py.gc.PF,vS j H q,vS k I z,vI b.PJ,vI b.PI,vI b.hY.bh,vI b.hY.ib,vI b.hY.ij,vI b.ik,vI b.PH]] w0 (fun v w=>v=.bool r∧St w0 [] w []):=by
 subst J K L M O R;unfold qd at h;refine iq.fn func151 fun e=>?_;have aK:=St.start w0;refine T ?_;intro bl bm aa;refine go ?_;obtain ⟨W,Y,V⟩:=ob h;refine CW.mono (CW.lx [1,6,7] [0] [1] 0 (fun ae=>[(8,vI ae)]) (RT prog f151.results (fun u=>.bool u) w0 []) aa Y (hb:=?_)) ?_
 · intro ae e bn o aL h;refine gc h ?_ ?_<;>intro _ h
   · refine gb h fun bo ac h=>?_;obtain ⟨bk,aT,am,rfl,ax,aR,aS,rfl,ay⟩:=U.idx ac;refine go ?_;refine T ?_;intro aJ aV aM aW aN a9 az h aX aO;refine CW.fl [1,6,7,8,14] fun e=>?_;refine gc h ?_ ?_<;>intro _ h
     · exact rt
     exact rt
   exact rt
 intro x e aY hM;rcases W with W | aU
 · obtain ⟨rfl,hM⟩:=hM;obtain ⟨e,rfl,ab⟩:=eo hM;have h:=V;refine gs ?_;obtain ⟨ad,X,Z⟩:=ob h;refine CW.jn [1] [0] [(43,.bool ad)] ab (h1:=?_) (h2:=?_)
   · have h:=X;refine T ?_;intro ba aA h aZ aP;refine bH h ?_ ?_<;>intro _ h
     · exact rt
     refine T ?_;intro bb aB h a0 aQ;refine bH h ?_ ?_<;>intro _ h
     · exact rt
     refine T ?_;intro bc aC h a1 an;refine bH h ?_ ?_<;>intro _ h
     · exact rt
     refine T ?_;intro bd aD h a2 ao;refine bH h ?_ ?_<;>intro _ h
     · exact rt
     exact rt
   intro e a3 ap;have h:=Z;refine gc h ?_ ?_<;>intro _ h
   · exact rt
   refine T ?_;intro be aE h a4 aq;refine bH h ?_ ?_<;>intro _ h
   · refine T ?_;intro bf aF h a5 ar;refine bH h ?_ ?_<;>intro _ h
     · refine T ?_;intro bg aG h a6 au;refine bH h ?_ ?_<;>intro _ h
       · refine go ?_;refine T ?_;intro bi aH h a7 av;refine bH h ?_ ?_<;>intro _ h
         · refine T ?_;intro bj aI h a8 aw;exact rt
         exact rt
       exact rt
     exact rt
   exact rt
 obtain ⟨rfl,u,rfl,hM⟩:=hM;cases V;exact And.intro trivial hM
instance k_151:Ct prog 151:=⟨by kernel_rfl,@HH⟩
end Go.Kx
