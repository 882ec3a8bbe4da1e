import Derived.Test.YtlcgibcdiikheaaGreatWa12
import Derived.Test.YtlcgibcdiikheaaGreatWa14
import Derived.Test.YtlcgibcdiikheaaGreatWa15
namespace Go.Kx
open Go Go.RowKit Go.Proofs
open Tryz
set_option maxRecDepth 10000
set_option maxHeartbeats 8000000
set_option linter.unusedVariables false
set_option linter.unusedSimpArgs false
theorem FD {w0} {F:List Nat} {N f a8 H r} (h:sB N f a8 H=some r) {g an n} (aw:an=f.Pe.Pd.length) {j ao o} (ax:ao=f.own.length) {k ap p} (ay:ap=f.Pg.length) {ae aq z} (az:aq=f.py.ag.length) {l ar q} (aA:ar=f.py.gc.gQ.length) {m au x} (aB:au=f.gR.length) (hS:St w0 F w0 [sl g n f.Pe.Pd,sl j o f.own,sl k p f.Pg,sl ae z f.py.ag,sl l q f.py.gc.gQ,sl m x f.gR]) :
    gV prog 177 #[.agg #[vS g an n,vS j ao o,vS k ap p,vS ae aq z,vI f.py.gc.Ph,vI f.py.gc.Pr,vI f.py.gc.Pj,vS l ar q,vS m au x,vI f.Pn,vI f.Pp,vI f.cd.gE,vI f.cd.gX,vI f.cd.g8,vI f.g5,vI f.Pm],vI a8,.agg #[vI H.Pf,vI H.a,vI H.b,vI H.c,vI H.d,vI H.e]] w0 (fun v w=>∃ O Y, ∃ R Z, ∃ U aa, ∃ V ab, ∃ W ac, ∃ X ad,v=.tuple #[.agg #[vS O r.1.Pe.Pd.length Y,vS R r.1.own.length Z,vS U r.1.Pg.length aa,vS V r.1.py.ag.length ab,vI r.1.py.gc.Ph,vI r.1.py.gc.Pr,vI r.1.py.gc.Pj,vS W r.1.py.gc.gQ.length ac,vS X r.1.gR.length ad,vI r.1.Pn,vI r.1.Pp,vI r.1.cd.gE,vI r.1.cd.gX,vI r.1.cd.g8,vI r.1.g5,vI r.1.Pm],.agg #[vI r.2.code,vI r.2.Pz]]∧St w0 F w [sl O Y r.1.Pe.Pd,sl R Z r.1.own,sl U aa r.1.Pg,sl V ab r.1.py.ag,sl W ac r.1.py.gc.gQ,sl X ad r.1.gR]):=by
 subst aw ax ay az aA aB;unfold sB at h;refine gV.fn func177 fun e=>?_;refine T ?_;intro a0 cv bV a1 cw bW a2 cx bX a3 bL aD;have ⟨av,aF,h⟩:=ob h;obtain ⟨C,G,hae,bz,bC⟩:=aD.hZ (α:=gP) (i:=7) rfl aF;subst hae;refine go ?_;obtain ⟨aT,A,bY⟩:=aD.freeze (α:=gP) 7 rfl;obtain ⟨bO,b1,a9,hae,br,_,_,aO,bu⟩:=A.ju.idx aF;cases hae;obtain ⟨aU,aX,aV,aY,aW,aZ,rfl,bF,bG,bI⟩:=aO;refine T ?_;intro aC b6 bZ b7 a6;obtain ⟨am,aR,a4⟩:=ob h;refine CW.cut (fun e wb=>∃ (B:Nat),En e [(3,.pointer (some ⟨a0,0,none⟩)),(5,.pointer (some ⟨a1,0,none⟩)),(6,.pointer (some ⟨a2,0,none⟩)),(7,.pointer (some ⟨a3,0,none⟩)),(8,.pointer (some ⟨aC,0,none⟩)),(9,.pointer (some ⟨B,0,none⟩))]∧St w0 F wb [bx aC 101 (qO aU aX aV aY aW aZ av),bx a3 32 [vI 0,vI 0],bx a2 50 [vS none 0 0,vS none 0 0,vS none 0 0,vS none 0 0,vI 0,vI 0,vI 0,vS none 0 0,vS none 0 0,vI 0,vI 0,vI 0,vI 0,vI 0,vI 0,vI 0],bx a1 28 (qL H),bx a0 50 (qP g n j o k p (some ⟨C,G,none⟩) z l q m x f),sl g n f.Pe.Pd,sl j o f.own,sl k p f.Pg,fz bL aT,sl l q f.py.gc.gQ,sl m x f.gR,bx B 48 [vI am.1,vI am.2.1,vI am.2.2]]) ?_ ?_
 · have h:=aR;refine dW ?_;have b0:=a6.drew;refine gb h fun cr bJ h=>?_;refine AW.all (rs:=[5,9]) (by kernel_rfl) (by simp) ⟨?_,?_,trivial⟩
   · refine oA ?_;refine T ?_;intro b8 aE;have ⟨ct,aj,h⟩:=ob h;obtain ⟨bP,b2,hae,bA,bD⟩:=aE.hZ (α:=g6) (i:=7) rfl aj;subst hae;refine go ?_;obtain ⟨bM,ah,bc⟩:=aE.freeze (α:=g6) 7 rfl;obtain ⟨bQ,b3,ba,hae,bs,_,_,aP,bv⟩:=ah.ju.idx aj;cases hae;obtain rfl:=aP;refine T ?_;intro bT b9 bd ca aH;have be:=aH.iD (α:=g6) 8 rfl ah;exact rt
   refine oA ?_;refine T ?_;intro bU cb bf;refine jP 5 ?_;refine T ?_;intro cc af;have ⟨cu,ak,h⟩:=ob h;obtain ⟨bR,b4,hae,bB,bE⟩:=af.hZ (α:=g6) (i:=8) rfl ak;subst hae;refine go ?_;obtain ⟨bN,ai,bg⟩:=af.freeze (α:=g6) 8 rfl;obtain ⟨bS,b5,bb,hae,bt,_,_,aQ,bw⟩:=ai.ju.idx ak;cases hae;obtain rfl:=aQ;refine T ?_;intro ce aI;have bi:=aI.iD (α:=g6) 8 rfl ai;exact rt
 rintro e cf ⟨B,hE,I⟩;obtain ⟨e,rfl⟩:=hE.out;have h:=a4;refine jw [3,5,6,7,8,9,26,27] fun e=>?_;refine gc h ?_ ?_<;>intro _ h
 · refine jK ?_;have bj:=I.drew;refine go ?_;refine AW.u (i:=3) rfl (by kernel_rfl) rfl rfl (il.build (vs:=[(1,vI av.im)]) (cs:=#[vI 0,vI av.im]) rfl (by kernel_rfl)) ?_;refine T ?_;intro cg bk ci aJ;cases h;have J:=aJ.iD (α:=gP) 8 rfl A;exact Rc (ij.b J 2 rfl kU rfl rfl) (ij.b J 1 rfl k9 rfl rfl) ⟨g,n,j,o,k,p,(some ⟨C,G,none⟩),z,l,q,m,x,rfl,J.pk [5,6,7,8,9,10]⟩
 refine gc h ?_ ?_<;>intro _ h
 · refine jK ?_;have bl:=I.drew;refine go ?_;refine AW.u (i:=3) rfl (by kernel_rfl) rfl rfl (il.build (vs:=[(1,vI av.iy)]) (cs:=#[vI 0,vI av.iy]) rfl (by kernel_rfl)) ?_;refine T ?_;intro cj bm ck aK;cases h;have K:=aK.iD (α:=gP) 8 rfl A;exact Rc (ij.b K 2 rfl kU rfl rfl) (ij.b K 1 rfl k9 rfl rfl) ⟨g,n,j,o,k,p,(some ⟨C,G,none⟩),z,l,q,m,x,rfl,K.pk [5,6,7,8,9,10]⟩
 refine gs ?_;refine CW.region ?_;refine gs ?_;obtain ⟨a7,aS,a5⟩:=ob h;refine CW.jn [3,5,6,7,9] [1,2,3,4,5,6,7,8,9,10,11] [(39,.bool a7)] I (h1:=?_) (h2:=?_)
 · have h:=aS;refine gc h ?_ ?_<;>intro _ h
   · exact rt
   refine gc h ?_ ?_<;>intro _ h
   · exact rt
   exact rt
 intro e cl aL;have h:=a5;refine gc h ?_ ?_<;>intro _ h
 · refine jK ?_;have bn:=aL.drew;refine T ?_;intro aG bK h cm bo;refine AW.u (i:=6) rfl (by kernel_rfl) rfl rfl (il.build (vs:=[(1,vI aG)]) (cs:=#[vI 0,vI aG]) rfl (by kernel_rfl)) ?_;refine T ?_;intro cn bp co aM;cases h;have L:=aM.iD (α:=gP) 7 rfl A;exact Rc (ij.b L 1 rfl kU rfl rfl) (ij.b L 0 rfl k9 rfl rfl) ⟨g,n,j,o,k,p,(some ⟨C,G,none⟩),z,l,q,m,x,rfl,L.pk [4,5,6,7,8,9]⟩
 refine jt [(0,vI 2)] #[vI 2,vI 0] ?_;refine T ?_;intro cp bq cq aN;cases h;have M:=aN.iD (α:=gP) 7 rfl A;exact Rc (ij.b M 1 rfl kU rfl rfl) (ij.b M 0 rfl k9 rfl rfl) ⟨g,n,j,o,k,p,(some ⟨C,G,none⟩),z,l,q,m,x,rfl,M.pk [4,5,6,7,8,9]⟩
instance k_177:Ct prog 177:=⟨by kernel_rfl,@FD⟩
theorem A3 {w0 N b r} (h:lU N b=some r) {d A l} (J:A=b.Pe.Pd.length) (af:rb w0 d l b.Pe.Pd) {f B m} (K:B=b.own.length) (ah:rb w0 f m b.own) {g C n} (L:C=b.Pg.length) (ai:rb w0 g n b.Pg) {i G p} (M:G=b.py.ag.length) (aj:rb w0 i p b.py.ag) {j H q} (O:H=b.py.gc.gQ.length) (ak:rb w0 j q b.py.gc.gQ) {k I z} (R:I=b.gR.length) (U:rb w0 k z b.gR) :
    gV prog 151 #[.agg #[vS d A l,vS f B m,vS g C n,vS i G p,vI b.py.gc.Ph,vI b.py.gc.Pr,vI b.py.gc.Pj,vS j H q,vS k I z,vI b.Pn,vI b.Pp,vI b.cd.gE,vI b.cd.gX,vI b.cd.g8,vI b.g5,vI b.Pm]] w0 (fun v w=>v=.bool r∧St w0 [] w []):=by
 subst J K L M O R;unfold lU at h;refine gV.fn func151 fun e=>?_;have aK:=St.start w0;refine T ?_;intro bl bm aa;refine go ?_;obtain ⟨W,Y,V⟩:=ob h;refine CW.mono (CW.lx [1,6,7] [0] [1] 0 (fun ae=>[(8,vI ae)]) (RT prog f151.results (fun u=>.bool u) w0 []) aa Y (hb:=?_)) ?_
 · intro ae e bn o aL h;refine gc h ?_ ?_<;>intro _ h
   · refine gb h fun bo ac h=>?_;obtain ⟨bk,aT,am,rfl,ax,aR,aS,rfl,ay⟩:=U.idx ac;refine go ?_;refine T ?_;intro aJ aV aM aW aN a9 az h aX aO;refine CW.fl [1,6,7,8,14] fun e=>?_;refine gc h ?_ ?_<;>intro _ h
     · exact rt
     exact rt
   exact rt
 intro x e aY hM;rcases W with W | aU
 · obtain ⟨rfl,hM⟩:=hM;obtain ⟨e,rfl,ab⟩:=eo hM;have h:=V;refine gs ?_;obtain ⟨ad,X,Z⟩:=ob h;refine CW.jn [1] [0] [(43,.bool ad)] ab (h1:=?_) (h2:=?_)
   · have h:=X;refine T ?_;intro ba aA h aZ aP;refine bH h ?_ ?_<;>intro _ h
     · exact rt
     refine T ?_;intro bb aB h a0 aQ;refine bH h ?_ ?_<;>intro _ h
     · exact rt
     refine T ?_;intro bc aC h a1 an;refine bH h ?_ ?_<;>intro _ h
     · exact rt
     refine T ?_;intro bd aD h a2 ao;refine bH h ?_ ?_<;>intro _ h
     · exact rt
     exact rt
   intro e a3 ap;have h:=Z;refine gc h ?_ ?_<;>intro _ h
   · exact rt
   refine T ?_;intro be aE h a4 aq;refine bH h ?_ ?_<;>intro _ h
   · refine T ?_;intro bf aF h a5 ar;refine bH h ?_ ?_<;>intro _ h
     · refine T ?_;intro bg aG h a6 au;refine bH h ?_ ?_<;>intro _ h
       · refine go ?_;refine T ?_;intro bi aH h a7 av;refine bH h ?_ ?_<;>intro _ h
         · refine T ?_;intro bj aI h a8 aw;exact rt
         exact rt
       exact rt
     exact rt
   exact rt
 obtain ⟨rfl,u,rfl,hM⟩:=hM;cases V;exact And.intro trivial hM
instance k_151:Ct prog 151:=⟨by kernel_rfl,@A3⟩
theorem FL {w0 N b r} (h:sx N b=some r) {d u l} (G:u=b.Pe.Pd.length) (O:rb w0 d l b.Pe.Pd) {f x m} (H:x=b.own.length) (R:rb w0 f m b.own) {g z n} (I:z=b.Pg.length) (U:rb w0 g n b.Pg) {i A o} (J:A=b.py.ag.length) (V:rb w0 i o b.py.ag) {j B p} (K:B=b.py.gc.gQ.length) (W:rb w0 j p b.py.gc.gQ) {k C q} (L:C=b.gR.length) (X:rb w0 k q b.gR) :
    gV prog 153 #[.agg #[vS d u l,vS f x m,vS g z n,vS i A o,vI b.py.gc.Ph,vI b.py.gc.Pr,vI b.py.gc.Pj,vS j B p,vS k C q,vI b.Pn,vI b.Pp,vI b.cd.gE,vI b.cd.gX,vI b.cd.g8,vI b.g5,vI b.Pm]] w0 (fun v w=>v=.agg #[vI r.gE,vI r.gX,vI r.g8]∧St w0 [] w []):=by
 subst G H I J K L;unfold sx at h;refine gV.fn func153 fun e=>?_;have af:=St.start w0;refine T ?_;intro aB aE ah aC aF ai aJ ap h aG aj aD aH ak aI am ay ac h aq M;refine gc h ?_ ?_<;>intro _ h
 · refine T ?_;intro ar an;exact rt
 refine jK ?_;have ao:=M.drew;refine T ?_;intro az ad h au Y av Z aA ae h aw aa ax ab;exact rt
instance k_153:Ct prog 153:=⟨by kernel_rfl,@FL⟩
theorem Ek {w0 N K R p r} (h:nK N K R p=some r) {d m g} (o:m=K.length) (V:rb w0 d g K) :
    gV prog 219 #[vS d m g,vI R,.agg #[vI p.gE,vI p.gX,vI p.g8]] w0 (fun v w=>∃ q u,v=.tuple #[vS q r.1.length u,.bool r.2]∧St w0 [] w [sl q u r.1]):=by
 subst o;unfold nK at h;refine gV.fn func219 fun e=>?_;have aq:=St.start w0;refine T ?_;intro aV aW ar an aA h aU z aX x;obtain ⟨am,M,X⟩:=ob h;refine CW.jn [0,1,5,8] [0,1] [(26,.bool am)] x (h1:=?_) (h2:=?_)
 · have h:=M;refine dW ?_;have au:=x.drew;refine T ?_;intro aY aB h aD av;refine bH h ?_ ?_<;>intro _ h
   · exact rt
   refine T ?_;intro aN ae h aE aw;refine bH h ?_ ?_<;>intro _ h
   · exact rt
   refine go ?_;refine jP 10 ?_;refine T ?_;intro aO af h aF ax aP ah h aG ay aQ ai h aH az;exact rt
 intro e aI Y;have h:=X;refine gc h ?_ ?_<;>intro _ h
 · exact rt
 refine T ?_;intro aR aj h aJ A;obtain ⟨O,J,L⟩:=ob h;refine CW.jn [5,8] [0,1] [(1,vI O)] A (h1:=?_) (h2:=?_)
 · have h:=J;refine gc h ?_ ?_<;>intro _ h
   · exact rt
   exact rt
 intro e aK B;have h:=L;refine jK ?_;have j:=B.drew;refine gb h fun aS b h=>?_;obtain ⟨f,n,hae,ac,ad⟩:=j.hZ (α:=g6) (i:=0) rfl b;subst hae;refine go ?_;obtain ⟨ao,k,Z⟩:=j.freeze (α:=g6) 0 rfl;obtain ⟨ap,aC,W,hae,aa,_,_,I,ab⟩:=k.ju.idx b;cases hae;obtain rfl:=I;refine T ?_;intro aT ak h aL C;refine go ?_;have G:=C.iD (α:=g6) 0 rfl k;have ⟨U,l,h⟩:=ob h;refine T ?_;refine LW.se 2 G 0 b l (hM:=(iU (fun w cs F hF=>by obtain ⟨rfl,rfl⟩:=hF;exact ⟨rfl,rfl⟩))) fun aM H=>?_;refine T ?_;replace h:=oi h;subst h;exact Rc tt tt ⟨(some ⟨f,n,none⟩),z,(show (.tuple #[vS (some ⟨f,n,none⟩) an.length z,.bool true]:Value)=.tuple #[vS (some ⟨f,n,none⟩) U.length z,.bool true] by rw [gS (oi l)]),H.pk [0]⟩
instance k_219:Ct prog 219:=⟨by kernel_rfl,@Ek⟩
theorem It {w0 N b W r} (h:pt N b W=some r) {d u l} (G:u=b.Pe.Pd.length) (X:rb w0 d l b.Pe.Pd) {f x m} (H:x=b.own.length) (Y:rb w0 f m b.own) {g z n} (I:z=b.Pg.length) (M:rb w0 g n b.Pg) {i A o} (J:A=b.py.ag.length) (O:rb w0 i o b.py.ag) {j B p} (K:B=b.py.gc.gQ.length) (Z:rb w0 j p b.py.gc.gQ) {k C q} (L:C=b.gR.length) (aa:rb w0 k q b.gR) :
    gV prog 308 #[.agg #[vS d u l,vS f x m,vS g z n,vS i A o,vI b.py.gc.Ph,vI b.py.gc.Pr,vI b.py.gc.Pj,vS j B p,vS k C q,vI b.Pn,vI b.Pp,vI b.cd.gE,vI b.cd.gX,vI b.cd.g8,vI b.g5,vI b.Pm],vI W] w0 (fun v w=>v=.agg #[vI r.gE,vI r.gX,vI r.g8]∧St w0 [] w []):=by
 subst G H I J K L;unfold pt at h;refine gV.fn func308 fun e=>?_;have ay:=St.start w0;refine T ?_;intro aL aO az aM aP U;refine dW ?_;have aA:=U.drew;refine gb h fun aQ V h=>?_;obtain ⟨aK,aN,ab,rfl,ad,aD,aE,⟨ap,av,aq,aw,ar,ax,rfl,ak,am,an⟩,af⟩:=O.idx V;refine go ?_;refine T ?_;intro aI ao h aG aB;have ⟨aJ,R,h⟩:=ob h;obtain ⟨au,aF,ac,rfl,ae,ai,aj,rfl,ah⟩:=M.idx R;refine go ?_;refine T ?_;intro aH aC;exact rt
instance k_308:Ct prog 308:=⟨by kernel_rfl,@It⟩
theorem uk {w0 N u C G H r} (h:mT N u C G H=some r) {b g d} (j:g=u.length) (k:rb w0 b d u) :
    gV prog 159 #[vS b g d,vI C,vI G,vI H] w0 (fun v w=>v=vI r∧St w0 [] w []):=by
 subst j;unfold mT at h;refine gV.fn func159 fun e=>?_;have aw:=St.start w0;refine T ?_;intro aV aC h aR aS aT z;obtain ⟨ai,A,K⟩:=ob h;refine CW.jn [0,3,9] [0] [(27,.bool ai)] z (h1:=?_) (h2:=?_)
 · have h:=A;refine gB h ?_ ?_<;>intro _ h
   · exact rt
   refine T ?_;intro aW aD h aU ax;refine bH h ?_ ?_<;>intro _ h
   · exact rt
   refine T ?_;intro aM ae h aH ay;exact rt
 intro e aI az;have h:=K;refine gc h ?_ ?_<;>intro _ h
 · exact rt
 refine T ?_;intro aN af h aJ l;obtain ⟨B,o,x⟩:=ob h;refine CW.jn [10] [] [(52,.bool B)] l (h1:=?_) (h2:=?_)
 · have h:=o;refine dW ?_;have aA:=l.drew;refine gb h fun aO q h=>?_;obtain ⟨ao,aE,I,rfl,M,X,Z,⟨ak,ar,am,au,an,av,rfl,ab,ac,ad⟩,V⟩:=k.idx q;refine go ?_;refine T ?_;refine bH h ?_ ?_<;>intro R h
   · exact rt
   refine go ?_;refine T ?_;intro aP ah h aK m;refine bH h ?_ ?_<;>intro U h
   · exact rt
   refine gb h fun aQ f h=>?_;obtain ⟨ap,aF,hae,Y,aa⟩:=m.hZ (α:=Bool) (i:=0) rfl f;subst hae;refine go ?_;obtain ⟨aj,p,aB⟩:=m.freeze (α:=Bool) 0 rfl;obtain ⟨aq,aG,J,hae,O,_,_,n,W⟩:=p.ju.idx f;cases hae;obtain rfl:=n;refine T ?_;exact rt
 intro e aL L;have h:=x;refine gc h ?_ ?_<;>intro _ h
 · exact rt
 exact rt
instance k_159:Ct prog 159:=⟨by kernel_rfl,@uk⟩
theorem CL {w0} {F:List Nat} {N b aw r} (h:pZ N b aw=some r) {z K A} (R:K=b.ag.length) {j L k} (U:L=b.gc.gQ.length) (hS:St w0 F w0 [sl z A b.ag,sl j k b.gc.gQ]) :
    gV prog 309 #[.agg #[vS z K A,vI b.gc.Ph,vI b.gc.Pr,vI b.gc.Pj,vS j L k],vI aw] w0 (fun v w=>∃ n p, ∃ o q,v=.tuple #[.agg #[vS n r.1.ag.length p,vI r.1.gc.Ph,vI r.1.gc.Pr,vI r.1.gc.Pj,vS o r.1.gc.gQ.length q],vI r.2]∧St w0 F w [sl n p r.1.ag,sl o q r.1.gc.gQ]):=by
 subst R U;unfold pZ at h;refine gV.fn func309 fun e=>?_;refine T ?_;intro M bv aX O bw X;have ⟨bz,H,h⟩:=ob h;obtain ⟨bt,bu,hae,a3,a4⟩:=X.hZ (α:=gP) (i:=2) rfl H;subst hae;refine go ?_;obtain ⟨aL,C,aY⟩:=X.freeze (α:=gP) 2 rfl;obtain ⟨aQ,a5,ax,hae,aC,_,_,ac,aD⟩:=C.ju.idx H;cases hae;obtain ⟨aM,aS,aN,aT,aO,aU,rfl,aG,aH,aI⟩:=ac;refine T ?_;intro aW a7 aZ a8 ar;obtain ⟨av,ad,ao⟩:=ob h;refine CW.jn [2,4,6,8] [1,2,3,4] [(33,.bool av)] ar (h1:=?_) (h2:=?_)
 · have h:=ad;refine gB h ?_ ?_<;>intro _ h
   · refine go ?_;refine bH h ?_ ?_<;>intro _ h
     · refine T ?_;intro bo aJ h a9 a0;refine bH h ?_ ?_<;>intro _ h
       · exact rt
       exact rt
     exact rt
   exact rt
 intro e ba au;have h:=ao;refine gs ?_;obtain ⟨x,ae,ap⟩:=ob h;refine CW.cut (fun e wb=>∃ (d:Ad) (f:Nat),En e [(2,.pointer (some ⟨M,0,none⟩)),(4,.pointer (some ⟨O,0,none⟩)),(8,vI x.1)]∧St w0 F wb [bx O 45 [vS none 0 0,vI 0,vI 0,vI 0,vS none 0 0],bx M 45 [vS d x.2.length f,vI b.gc.Ph,vI b.gc.Pr,vI b.gc.Pj,vS j b.gc.gQ.length k],sl j k b.gc.gQ,sl d f x.2]) ?_ ?_
 · have h:=ae;refine CW.fl [2,4,6,8,33] fun e=>?_;refine gc h ?_ ?_<;>intro _ h
   · refine T ?_;intro bp aK h aP aV bb a1 bc a2;exact rt
   refine go ?_;have Y:=au.iD (α:=gP) 2 rfl C;have ⟨bq,G,h⟩:=ob h;refine LW.se 9 Y 2 H G (hM:=(iU (fun w cs F hF=>by obtain ⟨ah,ak,ai,am,aj,an,rfl,hH⟩:=hF;exact ⟨ah,ak,ai,am,aj,an,rfl,hH⟩))) fun be Z=>?_;refine go ?_;rw [gS (oi G)] at Z;exact rt
 rintro e bf ⟨d,f,hE,ay⟩;obtain ⟨e,rfl⟩:=hE.out;have h:=ap;refine T ?_;intro bg aa;obtain ⟨g,af,aq⟩:=ob h;refine CW.cut (fun e wb=>∃ (l:Ad) (m:Nat),En e [(2,.pointer (some ⟨M,0,none⟩)),(4,.pointer (some ⟨O,0,none⟩)),(8,vI x.1)]∧St w0 F wb [bx O 45 [vS none 0 0,vI 0,vI 0,vI 0,vS none 0 0],bx M 45 [vS d g.1.length f,vI g.2.1,vI g.2.2.1,vI g.2.2.2.1,vS l g.2.2.2.2.length m],sl d f g.1,sl l m g.2.2.2.2]) ?_ ?_
 · have h:=af;refine CW.fl [2,4,8,57] fun e=>?_;refine gc h ?_ ?_<;>intro _ h
   · refine go ?_;refine LW.u (il.min rfl rfl) rfl ?_;refine LW.bi [0] aa ?_;intro V W bj az hf;refine LW.bd [(2,vI (if 1000000<IntKind.i64.wrap (b.gc.Pj+1) then 1000000 else IntKind.i64.wrap (b.gc.Pj+1))),(3,vS V (([0]:List Int).length) W)] #[vI 0,vI 0,vI (if 1000000<IntKind.i64.wrap (b.gc.Pj+1) then 1000000 else IntKind.i64.wrap (b.gc.Pj+1)),vS V (([0]:List Int).length) W] ?_;refine T ?_;intro bk B;have ⟨br,I,h⟩:=ob h;obtain ⟨aR,a6,hae,aE,aF⟩:=B.hZ (α:=gP) (i:=4) rfl I;subst hae;refine go ?_;refine gb h fun bs J h=>?_;refine LW.se 9 B 4 I J (hM:=(iU (fun w cs F hF=>by obtain ⟨ah,ak,ai,am,aj,an,rfl,hH⟩:=hF;exact ⟨ah,ak,ai,am,aj,an,rfl,hH⟩))) fun bl ab=>?_;refine go ?_;rw [gS (oi J)] at ab;exact rt
   exact rt
 rintro e bm ⟨l,m,hE,aA⟩;obtain ⟨e,rfl⟩:=hE.out;have h:=aq;refine go ?_;refine T ?_;intro bn aB;exact rt
instance k_309:Ct prog 309:=⟨by kernel_rfl,@CL⟩
theorem xG {w0} {F:List Nat} {N b Z C r} (h:nt N b Z C=some r) {G:Nat} {g n} (aa:iR (jA w0 F) w0 g n b.Pc.Pe.Pd) {j o} (ab:iR (jA w0 F) w0 j o b.Pc.own) {d f k p} (ac:iR (jA w0 F) w0 k p b.Pc.py.ag) {l q} (ad:iR (jA w0 F) w0 l q b.Pc.py.gc.gQ) {m x} (ae:iR (jA w0 F) w0 m x b.Pc.gR) (hS:St w0 F w0 [bx G 188 (qC g n j o d f k p l q m x b),sl d f b.Pc.Pg]) :
    gV prog 322 #[.pointer (some ⟨G,0,none⟩),vI Z,.agg #[vI C.gE,vI C.gX,vI C.g8]] w0 (fun v w=>∃ A B,v=.bool r.1∧St w0 F w [bx G 188 [vS g b.Pc.Pe.Pd.length n,vS j b.Pc.own.length o,vS A r.2.Pc.Pg.length B,vS k b.Pc.py.ag.length p,vI r.2.Pc.py.gc.Ph,vI r.2.Pc.py.gc.Pr,vI r.2.Pc.py.gc.Pj,vS l b.Pc.py.gc.gQ.length q,vS m b.Pc.gR.length x,vI r.2.Pc.Pn,vI r.2.Pc.Pp,vI r.2.Pc.cd.gE,vI r.2.Pc.cd.gX,vI r.2.Pc.cd.g8,vI r.2.Pc.g5,vI r.2.Pc.Pm,vI r.2.me,vI r.2.Pt,vI r.2.ir],sl A B r.2.Pc.Pg]):=by
 unfold nt at h;refine gV.fn func322 fun e=>?_;refine T ?_;intro aI aJ V;refine dW ?_;have an:=V.drew;refine T ?_;intro R aw h J K aK W;obtain ⟨I,X,af⟩:=ob h;refine CW.cut (fun e wb=>∃ (z:Nat),En e [(0,.pointer (some ⟨G,0,none⟩)),(7,vS J R.1.length K),(8,.bool R.2),(9,.pointer (some ⟨z,0,none⟩)),(10,.bool I.2.2.2)]∧St w0 F wb [sl J K R.1,bx G 188 (qC g n j o d f k p l q m x b),sl d f b.Pc.Pg,bx z 48 [vI I.1,vI I.2.1,vI I.2.2.1]]) ?_ ?_
 · have h:=X;refine dW ?_;have ao:=W.drew;refine go ?_;refine AW.u (i:=7) rfl (by kernel_rfl) rfl rfl (il.build (vs:=[(1,vI C.gX)]) (cs:=#[vI 0,vI C.gX,vI 0]) rfl (by kernel_rfl)) ?_;have ⟨aL,ax,h⟩:=ob h;refine AW.all (rs:=[8,12]) (by kernel_rfl) (by simp) ⟨?_,?_,trivial⟩
   · refine oA ?_;refine T ?_;intro ay ap ak az aq aA ar;exact rt
   refine oA ?_;refine T ?_;intro am aB au;refine jP 8 ?_;refine T ?_;intro aC av aD ah;exact rt
 rintro e aE ⟨z,hE,L⟩;obtain ⟨e,rfl⟩:=hE.out;have h:=af;refine gs ?_;obtain ⟨Y,O,U⟩:=ob h;refine CW.jn [0,7,9] [0,1,2,3] [(39,.bool Y)] L (h1:=?_) (h2:=?_)
 · have h:=O;refine gB h ?_ ?_<;>intro _ h
   · exact rt
   exact rt
 intro e aF H;have h:=U;refine gc h ?_ ?_<;>intro _ h
 · refine go ?_;replace h:=oi h;subst h;exact Ra ⟨d,f,rfl,H.pk [1,2]⟩
 refine jK ?_;have ai:=H.drew;refine T ?_;intro aG aj aH M;replace h:=oi h;subst h;exact Ra ⟨J,K,rfl,M.pk [1,0]⟩
instance k_322:Ct prog 322:=⟨by kernel_rfl,@xG⟩
end Go.Kx
