import Derived.Test.YtlcgibcdiikheaaGreatWa12
import Derived.Test.YtlcgibcdiikheaaGreatWa13
namespace Go.Kx
open Go Go.RowKit Go.Proofs
open Go.IntKind (i64)
open Tryz
set_option maxRecDepth 10000
set_option maxHeartbeats 8000000
set_option linter.unusedVariables false
set_option linter.unusedSimpArgs false
theorem Hk {w0 N l r} (h:tW N l=some r) {f i g} (j:i=l.length) (k:rb w0 f g l) :
    gV prog 94 #[vS f i g] w0 (fun v w=>v=.agg #[vI r.gE,vI r.gX,vI r.g8]∧St w0 [] w []):=by
 subst j;unfold tW at h;refine gV.fn func94 fun e=>?_;have ak:=St.start w0;refine T ?_;intro n aD am;refine LW.bd [] #[vI 0,vI 0,vI 0] ?_;refine T ?_;intro p aE an aF u;refine go ?_;obtain ⟨aw,m,q⟩:=ob h;refine CW.ie m 0 (fun b e wb=>En e [(0,vS f l.length g),(2,.pointer (some ⟨n,0,none⟩)),(3,.pointer (some ⟨p,0,none⟩)),(4,vI b.1)]∧St w0 [] wb [bx p 48 [vI b.2.1,vI b.2.2.1,vI b.2.2.2],bx n 48 [vI 0,vI 0,vI 0]]) ?_ (u.po [0,1]) ?_
 · intro b e aG o hM h;obtain ⟨e,rfl,ao⟩:=eo hM;refine gc h ?_ ?_<;>intro _ h
   · refine gb h fun aH x h=>?_;obtain ⟨ab,av,z,rfl,C,H,I,⟨V,ac,W,ad,X,ae,Y,af,Z,ah,aa,ai,rfl,J,K,L,M,O,R⟩,G⟩:=k.idx x;refine go ?_;refine T ?_;intro d U h ax ap aj ay aq az ar;refine LW.bd [(0,vI (i64.wrap (b.2.1+d.gE))),(1,vI (i64.wrap (b.2.2.1+d.gX))),(2,vI (i64.wrap (b.2.2.2+d.g8)))] #[vI (i64.wrap (b.2.1+d.gE)),vI (i64.wrap (b.2.2.1+d.gX)),vI (i64.wrap (b.2.2.2+d.g8))] ?_;refine T ?_;intro aA au;exact rt
   exact rt
 rintro e aB ⟨hE,A⟩;obtain ⟨e,rfl⟩:=hE.out;have h:=q;refine T ?_;intro aC B;exact rt
instance k_94:Ct prog 94:=⟨by kernel_rfl,@Hk⟩
theorem z5 {w0 N ax ay f r} (h:sn N ax ay f=some r) {p X A} (ab:X=ax.length) (n:rb w0 p A ax) :
    gV prog 280 #[vS p X A,vI ay,.agg #[vI f.Pu,vI f.jy,vI f.kJ,vI f.jR,vI f.Pf,vI f.ka]] w0 (fun v w=>∃ ad ae,v=.tuple #[vS ad r.1.length ae,vI r.2]∧St w0 [] w [sl ad ae r.1]):=by
 subst ab;unfold sn at h;refine gV.fn func280 fun e=>?_;have bA:=St.start w0;refine T ?_;intro aa ca bB ac bI h b9 k cb af;obtain ⟨bi,aA,aH⟩:=ob h;refine CW.jn [0,1,5,8] [0,1] [(50,.bool bi)] af (h1:=?_) (h2:=?_)
 · have h:=aA;refine dW ?_;have bC:=af.drew;refine T ?_;intro cc bJ h bP bD;refine bH h ?_ ?_<;>intro _ h
   · exact rt
   refine T ?_;intro b2 a9 h bQ bE;refine bH h ?_ ?_<;>intro _ h
   · exact rt
   refine T ?_;intro b3 ba h bR bF;refine bH h ?_ ?_<;>intro _ h
   · exact rt
   refine gB h ?_ ?_<;>intro aT h
   · exact rt
   refine gb h fun b4 au h=>?_;obtain ⟨bp,bK,aD,rfl,aP,aY,a2,⟨bl,bu,rfl,a7⟩,aU⟩:=n.idx au;refine go ?_;refine T ?_;intro b5 bb h bS bG;exact rt
 intro e bT az;have h:=aH;refine gc h ?_ ?_<;>intro _ h
 · exact rt
 refine jK ?_;have aI:=az.drew;refine gb h fun b6 av h=>?_;obtain ⟨bq,bL,aE,rfl,aQ,aZ,a3,⟨bm,bv,rfl,ar⟩,aV⟩:=n.idx av;refine go ?_;refine T ?_;have ⟨b7,aw,h⟩:=ob h;obtain ⟨br,bM,aF,rfl,aR,a0,a5,rfl,aW⟩:=ar.idx aw;refine go ?_;refine T ?_;intro ah bc h bU aJ b bd h bV aK m bW aL bX ak;refine dW ?_;have aM:=ak.drew;refine go ?_;refine T ?_;intro Y be h q B bY H;have ⟨aB,V,h⟩:=ob h;obtain ⟨g,d,hae,a1,a6⟩:=H.hZ (α:=iC) (i:=2) rfl V;subst hae;refine go ?_;have am:=H.pk (M:=[sl q B Y.1]++[bx m 48 [vI b.gE,vI b.gX,vI b.g8],sl (some ⟨g,d,none⟩) k ac,bx aa 174 (qT f)]) [0,1,2,3];have ⟨ai,j,h⟩:=ob h;refine LW.vl (M:=[sl q B Y.1]) (L:=[bx m 48 [vI b.gE,vI b.gX,vI b.g8],sl (some ⟨g,d,none⟩) k ac,bx aa 174 (qT f)]) (z:=aB) (z':=(iC.mk Y.1)) (o:=0) am (i:=1) rfl V xn rfl (by show _=d+(ay:Int).toNat * 1+0;omega) rfl rfl rfl rfl (whole (fun w G hG=>⟨q,B,rfl,hG⟩)) ?_;intro bZ I hf;rw [oi j] at I;refine jK ?_;have J:=I.drew;refine gb h fun aC l h=>?_;obtain ⟨bs,bN,hae,R,U⟩:=J.hZ (α:=iC) (i:=1) rfl l;cases hae;(try refine AW.ux (i:=3) (by decide +kernel) rfl (by kernel_rfl) rfl rfl (il.ix underlying226 zx rfl rfl R (by rw [gS (oi j)];exact U)) ?_);refine go ?_;obtain ⟨bk,O,aN⟩:=J.freeze (α:=iC) 1 rfl;obtain ⟨bt,bO,aG,hae,aS,_,_,aq,aX⟩:=O.ju.idx l;cases hae;obtain ⟨bn,bw,rfl,a8⟩:=aq;refine T ?_;intro Z bf h x C b0 an;refine CW.fl [0,5,8,9,13,99] fun e=>?_;refine gc h ?_ ?_<;>intro _ h
 · refine T ?_;intro b8 bg h bo bz b1 aO;exact rt
 refine go ?_;(try refine LW.u (il.ix underlying226 zx rfl rfl R (by rw [gS (oi j)];exact U)) rfl ?_);refine go ?_;have ao:=an.iD (α:=iC) 2 rfl O;have ap:=ao.pk (M:=[sl x C Z.1]++[bx m 48 [vI b.gE,vI b.gX,vI b.g8],sl (some ⟨g,d,none⟩) k ai,bx aa 174 (qT f)]) [0,1,2,3];have ⟨aj,W,h⟩:=ob h;refine LW.vl (M:=[sl x C Z.1]) (L:=[bx m 48 [vI b.gE,vI b.gX,vI b.g8],sl (some ⟨g,d,none⟩) k ai,bx aa 174 (qT f)]) (z:=aC) (z':=(iC.mk Z.1)) (o:=0) ap (i:=1) rfl l xn rfl (by show _=d+(f.jy:Int).toNat * 1+0;omega) rfl rfl rfl rfl (whole (fun w G hG=>⟨x,C,rfl,hG⟩)) ?_;intro bj K hf;rw [oi W] at K;refine go ?_;replace h:=oi h;subst h;exact Rc tt tt ⟨(some ⟨g,d,none⟩),k,(show (.tuple #[vS (some ⟨g,d,none⟩) ac.length k,vI ah]:Value)=.tuple #[vS (some ⟨g,d,none⟩) aj.length k,vI ah] by rw [show ac.length=aj.length from ((gS (oi j)).trans (gS (oi W)))]),K.pk [1]⟩
instance k_280:Ct prog 280:=⟨by kernel_rfl,@z5⟩
theorem xg {w0 N b az r} (h:oP N b az=some r) {j O q} (Y:O=b.Pe.Pd.length) (aA:rb w0 j q b.Pe.Pd) {k R u} (Z:R=b.own.length) (aB:rb w0 k u b.own) {l U x} (aa:U=b.Pg.length) (aC:rb w0 l x b.Pg) {m V z} (ab:V=b.py.ag.length) (ae:rb w0 m z b.py.ag) {n W A} (ac:W=b.py.gc.gQ.length) (aD:rb w0 n A b.py.gc.gQ) {p X B} (ad:X=b.gR.length) (aE:rb w0 p B b.gR) :
    gV prog 166 #[.agg #[vS j O q,vS k R u,vS l U x,vS m V z,vI b.py.gc.Ph,vI b.py.gc.Pr,vI b.py.gc.Pj,vS n W A,vS p X B,vI b.Pn,vI b.Pp,vI b.cd.gE,vI b.cd.gX,vI b.cd.g8,vI b.g5,vI b.Pm],vI az] w0 (fun v w=>∃ af ah,v=vS af r.length ah∧St w0 [] w [sl af ah r]):=by
 subst Y Z aa ab ac ad;unfold oP at h;refine gV.fn func166 fun e=>?_;have a9:=St.start w0;refine T ?_;intro aj bu aw;refine LW.b0 (α:=Int) aw ?_;intro aF aG bv ba hf;refine T ?_;intro bz be h bw bb;refine gc h ?_ ?_<;>intro _ h
 · exact rt
 refine T ?_;intro ar bf h H I bm ax;refine go ?_;obtain ⟨bk,ao,av⟩:=ob h;refine CW.ie ao 0 (fun g e wb=>∃ (d:Ad) (f:Nat),En e [(2,.pointer (some ⟨aj,0,none⟩)),(5,vS d g.1.length f),(6,vS H ar.length I),(7,vI g.2)]∧St w0 [] wb [sl H I ar,sl d f g.1,bx aj 50 (qP j q k u l x m z n A p B b)]) ?_ ⟨aF,aG,ax.po [0,1,2]⟩ ?_
 · intro g e bn o hM h;obtain ⟨d,f,hE,J⟩:=hM;obtain ⟨e,rfl⟩:=hE.out;refine jw [2,5,6,7,21] fun e=>?_;refine gc h ?_ ?_<;>intro _ h
   · refine gs ?_;refine CW.block ?_;refine gs ?_;obtain ⟨ay,an,au⟩:=ob h;refine CW.jn [2,5,6,7] [0,1,2] [(37,.bool ay)] J (h1:=?_) (h2:=?_)
     · have h:=an;refine gb h fun br K h=>?_;obtain ⟨a1,bg,hae,aP,aR⟩:=J.hZ (α:=Bool) (i:=0) rfl K;subst hae;refine go ?_;obtain ⟨aW,C,ai⟩:=J.freeze (α:=Bool) 0 rfl;obtain ⟨a2,bi,aH,hae,aL,_,_,am,aN⟩:=C.ju.idx K;cases hae;obtain rfl:=am;refine T ?_;refine bH h ?_ ?_<;>intro _ h
       · refine gb h fun bs ap h=>?_;obtain ⟨a4,bj,aI,rfl,aM,aQ,aS,⟨aX,a5,aY,a6,aZ,a7,rfl,aT,aU,aV⟩,aO⟩:=ae.idx ap;refine go ?_;refine T ?_;have bc:=ai.iD (α:=Bool) 0 rfl C;exact rt
       refine go ?_;have bd:=ai.iD (α:=Bool) 0 rfl C;exact rt
     intro e bo ak;have h:=au;refine gc h ?_ ?_<;>intro _ h
     · refine gb h fun bt aq h=>?_;refine LW.kB (M:=[]) (L:=[sl H I ar,sl d f g.1,bx aj 50 (qP j q k u l x m z n A p B b)]) (vs:=#[vI g.2]) (i:=1) pI rfl (by kernel_rfl) rfl rfl aq ak rfl (fun w G hG=>by cases (show G=[] from hG);exact ⟨rfl,rfl⟩) rfl rfl ?_;intro bl a0 a8 bp aJ hf;exact rt
     exact rt
   exact rt
 rintro e bq ⟨d,f,hE,aK⟩;obtain ⟨e,rfl⟩:=hE.out;have h:=av;exact rt
instance k_166:Ct prog 166:=⟨by kernel_rfl,@xg⟩
theorem wJ {w0 N u C G H r} (h:mM N u C G H=some r) {b g d} (j:g=u.length) (k:rb w0 b d u) :
    gV prog 50 #[vS b g d,vI C,vI G,vI H] w0 (fun v w=>v=vI r∧St w0 [] w []):=by
 subst j;unfold mM at h;refine gV.fn func50 fun e=>?_;have z:=St.start w0;refine gs ?_;refine CW.region ?_;refine gs ?_;obtain ⟨ai,A,h2⟩:=ob h;refine CW.jn [0,1,3] [] [(23,.bool ai)] z (h1:=?_) (h2:=?_)
 · have h:=A;refine T ?_;intro aX aE h aV ay;refine bH h ?_ ?_<;>intro _ h
   · exact rt
   refine T ?_;intro aY aF h aW az;refine bH h ?_ ?_<;>intro _ h
   · exact rt
   refine T ?_;intro aZ aG h aK aA;exact rt
 intro e aL aB;have h:=h2;refine gc h ?_ ?_<;>intro _ h
 · exact rt
 refine T ?_;intro aQ ae h aM l;obtain ⟨B,o,x⟩:=ob h;refine CW.jn [9] [] [(50,.bool B)] l (h1:=?_) (h2:=?_)
 · have h:=o;refine dW ?_;have aC:=l.drew;refine gb h fun aR q h=>?_;obtain ⟨ap,aH,I,rfl,M,X,Z,⟨ak,au,am,av,an,aw,rfl,ab,ac,ad⟩,V⟩:=k.idx q;refine go ?_;refine T ?_;refine bH h ?_ ?_<;>intro R h
   · exact rt
   refine go ?_;refine T ?_;intro aS af h aN aD;refine bH h ?_ ?_<;>intro U h
   · exact rt
   refine go ?_;refine jP 19 ?_;refine T ?_;intro aT ah h ao ax aO m;have ⟨aU,f,h⟩:=ob h;obtain ⟨aq,aI,hae,Y,aa⟩:=m.hZ (α:=Bool) (i:=0) rfl f;subst hae;refine go ?_;obtain ⟨aj,p,K⟩:=m.freeze (α:=Bool) 0 rfl;obtain ⟨ar,aJ,J,hae,O,_,_,n,W⟩:=p.ju.idx f;cases hae;obtain rfl:=n;refine T ?_;exact rt
 intro e aP L;have h:=x;refine gc h ?_ ?_<;>intro _ h
 · exact rt
 exact rt
instance k_50:Ct prog 50:=⟨by kernel_rfl,@wJ⟩
theorem Hn {w0 N f aA r} (h:uh N f aA=some r) {B L m} (U:L=f.ag.length) (W:rb w0 B m f.ag) {l M n} (V:M=f.gc.gQ.length) (aB:rb w0 l n f.gc.gQ) :
    gV prog 282 #[.agg #[vS B L m,vI f.gc.Ph,vI f.gc.Pr,vI f.gc.Pj,vS l M n],vI aA] w0 (fun v w=>∃ o q, ∃ p x,v=.tuple #[.agg #[vS o r.1.ag.length q,vI r.1.gc.Ph,vI r.1.gc.Pr,vI r.1.gc.Pj,vS p r.1.gc.gQ.length x],vI r.2]∧St w0 [] w [sl o q r.1.ag,sl p x r.1.gc.gQ]):=by
 subst U V;unfold uh at h;refine gV.fn func282 fun e=>?_;have bl:=St.start w0;refine T ?_;intro au b6 bm R b7 bn O bu h b4 b5 ap ar bz bo z bA bp bB bq bV aX h bC br;refine gc h ?_ ?_<;>intro _ h
 · refine T ?_;intro bD bs;exact rt
 refine jw [1,2,4,6,21] fun e=>?_;refine gc h ?_ ?_<;>intro _ h
 · refine T ?_;intro bW aY h a1 bb a2 bc bE bt bF aD;exact rt
 refine gb h fun bX ah h=>?_;obtain ⟨aq,az,aC,rfl,aM,aO,aR,⟨a3,be,a4,bf,a5,bg,rfl,aU,aV,aW⟩,aN⟩:=W.idx ah;refine go ?_;refine T ?_;intro bk bG aE bI Z;obtain ⟨ay,ad,av⟩:=ob h;refine CW.jn [2,4,6,7,8,9] [0,1,2,3,4,5] [(49,.bool ay)] Z (h1:=?_) (h2:=?_)
 · have h:=ad;refine gB h ?_ ?_<;>intro _ h
   · refine gB h ?_ ?_<;>intro _ h
     · refine go ?_;refine bH h ?_ ?_<;>intro _ h
       · exact rt
       refine T ?_;intro bY aZ h bJ aF;exact rt
     exact rt
   exact rt
 intro e bK C;have h:=av;refine gs ?_;obtain ⟨A,ae,aw⟩:=ob h;refine CW.cut (fun e wb=>∃ (b:Ad) (d:Nat),En e [(2,.pointer (some ⟨au,0,none⟩)),(4,.pointer (some ⟨R,0,none⟩)),(6,.pointer (some ⟨z,0,none⟩)),(7,vI f.gc.Pr),(8,vI A.1)]∧St w0 [] wb [bx z 45 [vS b A.2.length d,vI O.gc.Ph,vI O.gc.Pr,vI O.gc.Pj,vS ap O.gc.gQ.length ar],sl ap ar O.gc.gQ,bx R 45 [vS none 0 0,vI 0,vI 0,vI 0,vS none 0 0],bx au 45 (qH (some ⟨aq,az,none⟩) m l n f),sl b d A.2]) ?_ ?_
 · have h:=ae;refine CW.fl [2,4,6,7,8,9,49] fun e=>?_;refine gc h ?_ ?_<;>intro _ h
   · refine T ?_;intro bZ a0 h a7 bj bL aG bM aH;exact rt
   refine gc h ?_ ?_<;>intro _ h
   · refine gb h fun b0 H h=>?_;obtain ⟨a9,bv,hae,aP,aS⟩:=C.hZ (α:=gP) (i:=2) rfl H;subst hae;refine go ?_;refine gb h fun b1 I h=>?_;refine LW.se 9 C 2 H I (hM:=(iU (fun w cs F hF=>by obtain ⟨ai,am,aj,an,ak,ao,rfl,hH⟩:=hF;exact ⟨ai,am,aj,an,ak,ao,rfl,hH⟩))) fun bN aa=>?_;refine go ?_;rw [gS (oi I)] at aa;exact rt
   exact rt
 rintro e bO ⟨b,d,hE,aI⟩;obtain ⟨e,rfl⟩:=hE.out;have h:=aw;refine T ?_;intro bP ab;obtain ⟨g,af,ax⟩:=ob h;refine CW.cut (fun e wb=>∃ (j:Ad) (k:Nat),En e [(4,.pointer (some ⟨R,0,none⟩)),(6,.pointer (some ⟨z,0,none⟩)),(8,vI A.1)]∧St w0 [] wb [bx z 45 [vS b g.1.length d,vI g.2.1,vI g.2.2.1,vI g.2.2.2.1,vS j g.2.2.2.2.length k],bx R 45 [vS none 0 0,vI 0,vI 0,vI 0,vS none 0 0],sl b d g.1,sl j k g.2.2.2.2]) ?_ ?_
 · have h:=af;refine CW.fl [2,4,6,8,75] fun e=>?_;refine gc h ?_ ?_<;>intro _ h
   · refine go ?_;refine LW.u (il.min rfl rfl) rfl ?_;refine LW.bi [0] ab ?_;intro X Y bQ aJ hf;refine LW.bd [(2,vI (if 1000000<i64.wrap (f.gc.Pj+1) then 1000000 else i64.wrap (f.gc.Pj+1))),(3,vS X (([0]:List Int).length) Y)] #[vI 0,vI 0,vI (if 1000000<i64.wrap (f.gc.Pj+1) then 1000000 else i64.wrap (f.gc.Pj+1)),vS X (([0]:List Int).length) Y] ?_;refine T ?_;intro bR G;have ⟨b2,J,h⟩:=ob h;obtain ⟨ba,bw,hae,aQ,aT⟩:=G.hZ (α:=gP) (i:=5) rfl J;subst hae;refine go ?_;refine gb h fun b3 K h=>?_;refine LW.se 9 G 5 J K (hM:=(iU (fun w cs F hF=>by obtain ⟨ai,am,aj,an,ak,ao,rfl,hH⟩:=hF;exact ⟨ai,am,aj,an,ak,ao,rfl,hH⟩))) fun bS ac=>?_;refine go ?_;rw [gS (oi K)] at ac;exact rt
   exact rt
 rintro e bT ⟨j,k,hE,aK⟩;obtain ⟨e,rfl⟩:=hE.out;have h:=ax;refine T ?_;intro bU aL;exact rt
instance k_282:Ct prog 282:=⟨by kernel_rfl,@Hn⟩
theorem CN {w0 N M B b r} (h:pW N M B b=some r) {l q n} (A:q=M.length) (W:rb w0 l n M) :
    gV prog 269 #[vS l q n,vI B,.agg #[vI b.gE,vI b.gX,vI b.g8]] w0 (fun v w=>∃ d f,v=.tuple #[vS d r.1.length f,vI r.2.1,.bool r.2.2]∧St w0 [] w [sl d f r.1]):=by
 subst A;unfold pW at h;refine gV.fn func269 fun e=>?_;have an:=St.start w0;refine T ?_;intro aG aH ao af ar h aE J aI O;refine CW.fl [0,1,5,9,20] fun e=>?_;refine gc h ?_ ?_<;>intro _ h
 · refine T ?_;intro aJ au h aF ak ax ap;exact rt
 refine go ?_;obtain ⟨I,L,C⟩:=ob h;refine CW.mono (CW.lx [0,1,5,9] [0,1] [0] 0 (fun k=>[(11,vI k)]) (fun r x e wb=>x=.ret∧∃ u,u=r∧∃ v,kz prog f269.results e wb v∧∃ d f,v=.tuple #[vS d u.1.length f,vI u.2.1,.bool u.2.2]∧St w0 [] wb [sl d f u.1]) O L (hb:=?_)) ?_
 · intro k e ay o G h;refine gc h ?_ ?_<;>intro _ h
   · refine gb h fun aC j h=>?_;obtain ⟨m,z,hae,ac,ad⟩:=G.hZ (α:=g6) (i:=0) rfl j;subst hae;refine go ?_;obtain ⟨ah,g,H⟩:=G.freeze (α:=g6) 0 rfl;obtain ⟨aj,av,X,hae,aa,_,_,K,ab⟩:=g.ju.idx j;cases hae;obtain rfl:=K;refine T ?_;refine CW.fl [0,1,5,9,11,34] fun e=>?_;refine gc h ?_ ?_<;>intro _ h
     · refine jt [(0,.bool true),(1,vI B),(2,.agg #[vI b.gE,vI b.gX,vI b.g8])] #[.bool true,vI B,vI b.gE,vI b.gX,vI b.g8] ?_;refine go ?_;have R:=H.iD (α:=g6) 0 rfl g;have ⟨V,p,h⟩:=ob h;refine LW.se 0 R 0 j p (hM:=ui) fun az U=>?_;refine go ?_;replace h:=oi h;subst h;exact ⟨trivial,rfl,_,rfl,⟨_,kz.three (ij.t rfl) (ij.t rfl) (ij.t rfl),(some ⟨m,z,none⟩),J,(show (.tuple #[vS (some ⟨m,z,none⟩) af.1.length J,vI k,.bool true]:Value)=.tuple #[vS (some ⟨m,z,none⟩) V.length J,vI k,.bool true] by rw [gS (oi p)]),U.pk [0]⟩⟩
     refine go ?_;have aq:=H.iD (α:=g6) 0 rfl g;exact rt
   exact rt
 intro x e aA hM;rcases I with I | aw
 · obtain ⟨rfl,hM⟩:=hM;obtain ⟨e,rfl,Y⟩:=eo hM;have h:=C;refine T ?_;intro aD ae h ai am aB Z;exact rt
 obtain ⟨rfl,u,rfl,hM⟩:=hM;cases C;exact And.intro trivial hM
instance k_269:Ct prog 269:=⟨by kernel_rfl,@CN⟩
theorem Ep {w0 N l m n i r} (h:rk N l m n i=some r) {b f d} (g:f=l.length) (o:rb w0 b d l) :
    gV prog 270 #[vS b f d,vI m,vI n,.agg #[vI i.gE,vI i.gX,vI i.g8]] w0 (fun v w=>∃ j k,v=.tuple #[vS j r.1.length k,.bool r.2]∧St w0 [] w [sl j k r.1]):=by
 subst g;unfold rk at h;refine gV.fn func270 fun e=>?_;have H:=St.start w0;refine T ?_;intro ad ae I ai R h af J;refine gc h ?_ ?_<;>intro _ h
 · refine T ?_;intro aj U h ab ac ah K;exact rt
 refine T ?_;intro Y p h x B V L;refine CW.fl [0,2,7,10,26] fun e=>?_;refine gc h ?_ ?_<;>intro _ h
 · refine T ?_;intro Z q h z C W M;exact rt
 refine T ?_;intro aa u h A G X O;exact rt
instance k_270:Ct prog 270:=⟨by kernel_rfl,@Ep⟩
end Go.Kx
