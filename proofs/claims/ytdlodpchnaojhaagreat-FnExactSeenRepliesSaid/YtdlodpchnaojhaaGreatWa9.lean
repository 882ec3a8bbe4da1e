import Derived.Test.YtdlodpchnaojhaaGreatWa8
namespace Go.Kx
open Go Go.RowKit Go.Proofs
open Tryz
set_option maxRecDepth 10000
set_option maxHeartbeats 8000000
set_option linter.unusedVariables false
set_option linter.unusedSimpArgs false
theorem Ex {w0} {F:List Nat} {N f a8 H r} (h:sc N f a8 H=some r) {g an n} (aw:an=f.NZ.NY.length) {j ao o} (ax:ao=f.own.length) {k ap p} (ay:ap=f.N1.length) {ae aq z} (az:aq=f.py.ag.length) {l ar q} (aA:ar=f.py.gc.gQ.length) {m au x} (aB:au=f.gR.length) (hS:St w0 F w0 [sl g n f.NZ.NY,sl j o f.own,sl k p f.N1,sl ae z f.py.ag,sl l q f.py.gc.gQ,sl m x f.gR]) :
    gV prog 161 #[.agg #[vS g an n,vS j ao o,vS k ap p,vS ae aq z,vI f.py.gc.N2,vI f.py.gc.Oa,vI f.py.gc.N3,vS l ar q,vS m au x,vI f.N6,vI f.N7,vI f.bh.gE,vI f.bh.gT,vI f.bh.g8,vI f.gW,vI f.N5],vI a8,.agg #[vI H.N0,vI H.a,vI H.b,vI H.c,vI H.d,vI H.e]] w0 (fun v w=>∃ O Y, ∃ R Z, ∃ U aa, ∃ V ab, ∃ W ac, ∃ X ad,v=.tuple #[.agg #[vS O r.1.NZ.NY.length Y,vS R r.1.own.length Z,vS U r.1.N1.length aa,vS V r.1.py.ag.length ab,vI r.1.py.gc.N2,vI r.1.py.gc.Oa,vI r.1.py.gc.N3,vS W r.1.py.gc.gQ.length ac,vS X r.1.gR.length ad,vI r.1.N6,vI r.1.N7,vI r.1.bh.gE,vI r.1.bh.gT,vI r.1.bh.g8,vI r.1.gW,vI r.1.N5],.agg #[vI r.2.code,vI r.2.Oi]]∧St w0 F w [sl O Y r.1.NZ.NY,sl R Z r.1.own,sl U aa r.1.N1,sl V ab r.1.py.ag,sl W ac r.1.py.gc.gQ,sl X ad r.1.gR]):=by
 subst aw ax ay az aA aB;unfold sc at h;refine gV.fn func161 fun e=>?_;refine T ?_;intro a0 cv bV a1 cw bW a2 cx bX a3 bL aD;have ⟨av,aF,h⟩:=ob h;obtain ⟨C,G,hae,bz,bC⟩:=aD.hZ (α:=gP) (i:=7) rfl aF;subst hae;refine go ?_;obtain ⟨aT,A,bY⟩:=aD.freeze (α:=gP) 7 rfl;obtain ⟨bO,b1,a9,hae,br,_,_,aO,bu⟩:=A.jk.idx aF;cases hae;obtain ⟨aU,aX,aV,aY,aW,aZ,rfl,bF,bG,bI⟩:=aO;refine T ?_;intro aC b6 bZ b7 a6;obtain ⟨am,aR,a4⟩:=ob h;refine CW.cut (fun e wb=>∃ (B:Nat),En e [(3,.pointer (some ⟨a0,0,none⟩)),(5,.pointer (some ⟨a1,0,none⟩)),(6,.pointer (some ⟨a2,0,none⟩)),(7,.pointer (some ⟨a3,0,none⟩)),(8,.pointer (some ⟨aC,0,none⟩)),(9,.pointer (some ⟨B,0,none⟩))]∧St w0 F wb [bx aC 160 (qO aU aX aV aY aW aZ av),bx a3 53 [vI 0,vI 0],bx a2 45 [vS none 0 0,vS none 0 0,vS none 0 0,vS none 0 0,vI 0,vI 0,vI 0,vS none 0 0,vS none 0 0,vI 0,vI 0,vI 0,vI 0,vI 0,vI 0,vI 0],bx a1 49 (qL H),bx a0 45 (qP g n j o k p (some ⟨C,G,none⟩) z l q m x f),sl g n f.NZ.NY,sl j o f.own,sl k p f.N1,fz bL aT,sl l q f.py.gc.gQ,sl m x f.gR,bx B 43 [vI am.1,vI am.2.1,vI am.2.2]]) ?_ ?_
 · have h:=aR;refine dW ?_;have b0:=a6.drew;refine gb h fun cr bJ h=>?_;refine AW.all (rs:=[5,9]) (by kernel_rfl) (by simp) ⟨?_,?_,trivial⟩
   · refine oA ?_;refine T ?_;intro b8 aE;have ⟨ct,aj,h⟩:=ob h;obtain ⟨bP,b2,hae,bA,bD⟩:=aE.hZ (α:=g7) (i:=7) rfl aj;subst hae;refine go ?_;obtain ⟨bM,ah,bc⟩:=aE.freeze (α:=g7) 7 rfl;obtain ⟨bQ,b3,ba,hae,bs,_,_,aP,bv⟩:=ah.jk.idx aj;cases hae;obtain rfl:=aP;refine T ?_;intro bT b9 bd ca aH;have be:=aH.iz (α:=g7) 8 rfl ah;exact rt
   refine oA ?_;refine T ?_;intro bU cb bf;refine jP 5 ?_;refine T ?_;intro cc af;have ⟨cu,ak,h⟩:=ob h;obtain ⟨bR,b4,hae,bB,bE⟩:=af.hZ (α:=g7) (i:=8) rfl ak;subst hae;refine go ?_;obtain ⟨bN,ai,bg⟩:=af.freeze (α:=g7) 8 rfl;obtain ⟨bS,b5,bb,hae,bt,_,_,aQ,bw⟩:=ai.jk.idx ak;cases hae;obtain rfl:=aQ;refine T ?_;intro ce aI;have bi:=aI.iz (α:=g7) 8 rfl ai;exact rt
 rintro e cf ⟨B,hE,I⟩;obtain ⟨e,rfl⟩:=hE.out;have h:=a4;refine jE [3,5,6,7,8,9,26,27] fun e=>?_;refine gc h ?_ ?_<;>intro _ h
 · refine jA ?_;have bj:=I.drew;refine go ?_;refine AW.u (i:=3) rfl (by kernel_rfl) rfl rfl (iq.build (vs:=[(1,vI av.iu)]) (cs:=#[vI 0,vI av.iu]) rfl (by kernel_rfl)) ?_;refine T ?_;intro cg bk ci aJ;cases h;have J:=aJ.iz (α:=gP) 8 rfl A;exact Rc (ib.b J 2 rfl kF rfl rfl) (ib.b J 1 rfl kS rfl rfl) ⟨g,n,j,o,k,p,(some ⟨C,G,none⟩),z,l,q,m,x,rfl,J.pk [5,6,7,8,9,10]⟩
 refine gc h ?_ ?_<;>intro _ h
 · refine jA ?_;have bl:=I.drew;refine go ?_;refine AW.u (i:=3) rfl (by kernel_rfl) rfl rfl (iq.build (vs:=[(1,vI av.iv)]) (cs:=#[vI 0,vI av.iv]) rfl (by kernel_rfl)) ?_;refine T ?_;intro cj bm ck aK;cases h;have K:=aK.iz (α:=gP) 8 rfl A;exact Rc (ib.b K 2 rfl kF rfl rfl) (ib.b K 1 rfl kS rfl rfl) ⟨g,n,j,o,k,p,(some ⟨C,G,none⟩),z,l,q,m,x,rfl,K.pk [5,6,7,8,9,10]⟩
 refine gs ?_;refine CW.region ?_;refine gs ?_;obtain ⟨a7,aS,a5⟩:=ob h;refine CW.jn [3,5,6,7,9] [1,2,3,4,5,6,7,8,9,10,11] [(39,.bool a7)] I (h1:=?_) (h2:=?_)
 · have h:=aS;refine gc h ?_ ?_<;>intro _ h
   · exact rt
   refine gc h ?_ ?_<;>intro _ h
   · exact rt
   exact rt
 intro e cl aL;have h:=a5;refine gc h ?_ ?_<;>intro _ h
 · refine jA ?_;have bn:=aL.drew;refine T ?_;intro aG bK h cm bo;refine AW.u (i:=6) rfl (by kernel_rfl) rfl rfl (iq.build (vs:=[(1,vI aG)]) (cs:=#[vI 0,vI aG]) rfl (by kernel_rfl)) ?_;refine T ?_;intro cn bp co aM;cases h;have L:=aM.iz (α:=gP) 7 rfl A;exact Rc (ib.b L 1 rfl kF rfl rfl) (ib.b L 0 rfl kS rfl rfl) ⟨g,n,j,o,k,p,(some ⟨C,G,none⟩),z,l,q,m,x,rfl,L.pk [4,5,6,7,8,9]⟩
 refine jj [(0,vI 2)] #[vI 2,vI 0] ?_;refine T ?_;intro cp bq cq aN;cases h;have M:=aN.iz (α:=gP) 7 rfl A;exact Rc (ib.b M 1 rfl kF rfl rfl) (ib.b M 0 rfl kS rfl rfl) ⟨g,n,j,o,k,p,(some ⟨C,G,none⟩),z,l,q,m,x,rfl,M.pk [4,5,6,7,8,9]⟩
instance k_161:Ct prog 161:=⟨by kernel_rfl,@Ex⟩
theorem zU {w0 N b r} (h:lI N b=some r) {d A l} (J:A=b.NZ.NY.length) (af:rb w0 d l b.NZ.NY) {f B m} (K:B=b.own.length) (ah:rb w0 f m b.own) {g C n} (L:C=b.N1.length) (ai:rb w0 g n b.N1) {i G p} (M:G=b.py.ag.length) (aj:rb w0 i p b.py.ag) {j H q} (O:H=b.py.gc.gQ.length) (ak:rb w0 j q b.py.gc.gQ) {k I z} (R:I=b.gR.length) (U:rb w0 k z b.gR) :
    gV prog 112 #[.agg #[vS d A l,vS f B m,vS g C n,vS i G p,vI b.py.gc.N2,vI b.py.gc.Oa,vI b.py.gc.N3,vS j H q,vS k I z,vI b.N6,vI b.N7,vI b.bh.gE,vI b.bh.gT,vI b.bh.g8,vI b.gW,vI b.N5]] w0 (fun v w=>v=.bool r∧St w0 [] w []):=by
 subst J K L M O R;unfold lI at h;refine gV.fn func112 fun e=>?_;have aK:=St.start w0;refine T ?_;intro bl bm aa;refine go ?_;obtain ⟨W,Y,V⟩:=ob h;refine CW.mono (CW.lx [1,6,7] [0] [1] 0 (fun ae=>[(8,vI ae)]) (RT prog f112.results (fun u=>.bool u) w0 []) aa Y (hb:=?_)) ?_
 · intro ae e bn o aL h;refine gc h ?_ ?_<;>intro _ h
   · refine gb h fun bo ac h=>?_;obtain ⟨bk,aT,am,rfl,ax,aR,aS,rfl,ay⟩:=U.idx ac;refine go ?_;refine T ?_;intro aJ aV aM aW aN a9 az h aX aO;refine CW.fl [1,6,7,8,14] fun e=>?_;refine gc h ?_ ?_<;>intro _ h
     · exact rt
     exact rt
   exact rt
 intro x e aY hM;rcases W with W | aU
 · obtain ⟨rfl,hM⟩:=hM;obtain ⟨e,rfl,ab⟩:=eo hM;have h:=V;refine gs ?_;obtain ⟨ad,X,Z⟩:=ob h;refine CW.jn [1] [0] [(43,.bool ad)] ab (h1:=?_) (h2:=?_)
   · have h:=X;refine T ?_;intro ba aA h aZ aP;refine bH h ?_ ?_<;>intro _ h
     · exact rt
     refine T ?_;intro bb aB h a0 aQ;refine bH h ?_ ?_<;>intro _ h
     · exact rt
     refine T ?_;intro bc aC h a1 an;refine bH h ?_ ?_<;>intro _ h
     · exact rt
     refine T ?_;intro bd aD h a2 ao;refine bH h ?_ ?_<;>intro _ h
     · exact rt
     exact rt
   intro e a3 ap;have h:=Z;refine gc h ?_ ?_<;>intro _ h
   · exact rt
   refine T ?_;intro be aE h a4 aq;refine bH h ?_ ?_<;>intro _ h
   · refine T ?_;intro bf aF h a5 ar;refine bH h ?_ ?_<;>intro _ h
     · refine T ?_;intro bg aG h a6 au;refine bH h ?_ ?_<;>intro _ h
       · refine go ?_;refine T ?_;intro bi aH h a7 av;refine bH h ?_ ?_<;>intro _ h
         · refine T ?_;intro bj aI h a8 aw;exact rt
         exact rt
       exact rt
     exact rt
   exact rt
 obtain ⟨rfl,u,rfl,hM⟩:=hM;cases V;exact And.intro trivial hM
instance k_112:Ct prog 112:=⟨by kernel_rfl,@zU⟩
theorem EC {w0 N b r} (h:sd N b=some r) {d u l} (G:u=b.NZ.NY.length) (O:rb w0 d l b.NZ.NY) {f x m} (H:x=b.own.length) (R:rb w0 f m b.own) {g z n} (I:z=b.N1.length) (U:rb w0 g n b.N1) {i A o} (J:A=b.py.ag.length) (V:rb w0 i o b.py.ag) {j B p} (K:B=b.py.gc.gQ.length) (W:rb w0 j p b.py.gc.gQ) {k C q} (L:C=b.gR.length) (X:rb w0 k q b.gR) :
    gV prog 64 #[.agg #[vS d u l,vS f x m,vS g z n,vS i A o,vI b.py.gc.N2,vI b.py.gc.Oa,vI b.py.gc.N3,vS j B p,vS k C q,vI b.N6,vI b.N7,vI b.bh.gE,vI b.bh.gT,vI b.bh.g8,vI b.gW,vI b.N5]] w0 (fun v w=>v=.agg #[vI r.gE,vI r.gT,vI r.g8]∧St w0 [] w []):=by
 subst G H I J K L;unfold sd at h;refine gV.fn func64 fun e=>?_;have af:=St.start w0;refine T ?_;intro aB aE ah aC aF ai aJ ap h aG aj aD aH ak aI am ay ac h aq M;refine gc h ?_ ?_<;>intro _ h
 · refine T ?_;intro ar an;exact rt
 refine jA ?_;have ao:=M.drew;refine T ?_;intro az ad h au Y av Z aA ae h aw aa ax ab;exact rt
instance k_64:Ct prog 64:=⟨by kernel_rfl,@EC⟩
theorem C5 {w0 N K R p r} (h:nu N K R p=some r) {d m g} (o:m=K.length) (V:rb w0 d g K) :
    gV prog 119 #[vS d m g,vI R,.agg #[vI p.gE,vI p.gT,vI p.g8]] w0 (fun v w=>∃ q u,v=.tuple #[vS q r.1.length u,.bool r.2]∧St w0 [] w [sl q u r.1]):=by
 subst o;unfold nu at h;refine gV.fn func119 fun e=>?_;have aq:=St.start w0;refine T ?_;intro aV aW ar an aA h aU z aX x;obtain ⟨am,M,X⟩:=ob h;refine CW.jn [0,1,5,8] [0,1] [(26,.bool am)] x (h1:=?_) (h2:=?_)
 · have h:=M;refine dW ?_;have au:=x.drew;refine T ?_;intro aY aB h aD av;refine bH h ?_ ?_<;>intro _ h
   · exact rt
   refine T ?_;intro aN ae h aE aw;refine bH h ?_ ?_<;>intro _ h
   · exact rt
   refine go ?_;refine jP 10 ?_;refine T ?_;intro aO af h aF ax aP ah h aG ay aQ ai h aH az;exact rt
 intro e aI Y;have h:=X;refine gc h ?_ ?_<;>intro _ h
 · exact rt
 refine T ?_;intro aR aj h aJ A;obtain ⟨O,J,L⟩:=ob h;refine CW.jn [5,8] [0,1] [(1,vI O)] A (h1:=?_) (h2:=?_)
 · have h:=J;refine gc h ?_ ?_<;>intro _ h
   · exact rt
   exact rt
 intro e aK B;have h:=L;refine jA ?_;have j:=B.drew;refine gb h fun aS b h=>?_;obtain ⟨f,n,hae,ac,ad⟩:=j.hZ (α:=g7) (i:=0) rfl b;subst hae;refine go ?_;obtain ⟨ao,k,Z⟩:=j.freeze (α:=g7) 0 rfl;obtain ⟨ap,aC,W,hae,aa,_,_,I,ab⟩:=k.jk.idx b;cases hae;obtain rfl:=I;refine T ?_;intro aT ak h aL C;refine go ?_;have G:=C.iz (α:=g7) 0 rfl k;have ⟨U,l,h⟩:=ob h;refine T ?_;refine LW.se 2 G 0 b l (hM:=(je (fun w cs F hF=>by obtain ⟨rfl,rfl⟩:=hF;exact ⟨rfl,rfl⟩))) fun aM H=>?_;refine T ?_;replace h:=oi h;subst h;exact Rc tt tt ⟨(some ⟨f,n,none⟩),z,(show (.tuple #[vS (some ⟨f,n,none⟩) an.length z,.bool true]:Value)=.tuple #[vS (some ⟨f,n,none⟩) U.length z,.bool true] by rw [gZ (oi l)]),H.pk [0]⟩
instance k_119:Ct prog 119:=⟨by kernel_rfl,@C5⟩
theorem IH {w0 N b W r} (h:pj N b W=some r) {d u l} (G:u=b.NZ.NY.length) (X:rb w0 d l b.NZ.NY) {f x m} (H:x=b.own.length) (Y:rb w0 f m b.own) {g z n} (I:z=b.N1.length) (M:rb w0 g n b.N1) {i A o} (J:A=b.py.ag.length) (O:rb w0 i o b.py.ag) {j B p} (K:B=b.py.gc.gQ.length) (Z:rb w0 j p b.py.gc.gQ) {k C q} (L:C=b.gR.length) (aa:rb w0 k q b.gR) :
    gV prog 210 #[.agg #[vS d u l,vS f x m,vS g z n,vS i A o,vI b.py.gc.N2,vI b.py.gc.Oa,vI b.py.gc.N3,vS j B p,vS k C q,vI b.N6,vI b.N7,vI b.bh.gE,vI b.bh.gT,vI b.bh.g8,vI b.gW,vI b.N5],vI W] w0 (fun v w=>v=.agg #[vI r.gE,vI r.gT,vI r.g8]∧St w0 [] w []):=by
 subst G H I J K L;unfold pj at h;refine gV.fn func210 fun e=>?_;have ay:=St.start w0;refine T ?_;intro aL aO az aM aP U;refine dW ?_;have aA:=U.drew;refine gb h fun aQ V h=>?_;obtain ⟨aK,aN,ab,rfl,ad,aD,aE,⟨ap,av,aq,aw,ar,ax,rfl,ak,am,an⟩,af⟩:=O.idx V;refine go ?_;refine T ?_;intro aI ao h aG aB;have ⟨aJ,R,h⟩:=ob h;obtain ⟨au,aF,ac,rfl,ae,ai,aj,rfl,ah⟩:=M.idx R;refine go ?_;refine T ?_;intro aH aC;exact rt
instance k_210:Ct prog 210:=⟨by kernel_rfl,@IH⟩
theorem tj {w0 N u C G H r} (h:mA N u C G H=some r) {b g d} (j:g=u.length) (k:rb w0 b d u) :
    gV prog 116 #[vS b g d,vI C,vI G,vI H] w0 (fun v w=>v=vI r∧St w0 [] w []):=by
 subst j;unfold mA at h;refine gV.fn func116 fun e=>?_;have aw:=St.start w0;refine T ?_;intro aV aC h aR aS aT z;obtain ⟨ai,A,K⟩:=ob h;refine CW.jn [0,3,9] [0] [(27,.bool ai)] z (h1:=?_) (h2:=?_)
 · have h:=A;refine gB h ?_ ?_<;>intro _ h
   · exact rt
   refine T ?_;intro aW aD h aU ax;refine bH h ?_ ?_<;>intro _ h
   · exact rt
   refine T ?_;intro aM ae h aH ay;exact rt
 intro e aI az;have h:=K;refine gc h ?_ ?_<;>intro _ h
 · exact rt
 refine T ?_;intro aN af h aJ l;obtain ⟨B,o,x⟩:=ob h;refine CW.jn [10] [] [(52,.bool B)] l (h1:=?_) (h2:=?_)
 · have h:=o;refine dW ?_;have aA:=l.drew;refine gb h fun aO q h=>?_;obtain ⟨ao,aE,I,rfl,M,X,Z,⟨ak,ar,am,au,an,av,rfl,ab,ac,ad⟩,V⟩:=k.idx q;refine go ?_;refine T ?_;refine bH h ?_ ?_<;>intro R h
   · exact rt
   refine go ?_;refine T ?_;intro aP ah h aK m;refine bH h ?_ ?_<;>intro U h
   · exact rt
   refine gb h fun aQ f h=>?_;obtain ⟨ap,aF,hae,Y,aa⟩:=m.hZ (α:=Bool) (i:=0) rfl f;subst hae;refine go ?_;obtain ⟨aj,p,aB⟩:=m.freeze (α:=Bool) 0 rfl;obtain ⟨aq,aG,J,hae,O,_,_,n,W⟩:=p.jk.idx f;cases hae;obtain rfl:=n;refine T ?_;exact rt
 intro e aL L;have h:=x;refine gc h ?_ ?_<;>intro _ h
 · exact rt
 exact rt
instance k_116:Ct prog 116:=⟨by kernel_rfl,@tj⟩
theorem yT {w0 N j r} (h:m7 N j=some r) {b f d} (g:f=j.parts.length) (i:rb w0 b d j.parts) :
    gV prog 11 #[.agg #[vI j.Oc,vS b f d]] w0 (fun v w=>v=.bool r∧St w0 [] w []):=by
 subst g;unfold m7 at h;refine gV.fn func11 fun e=>?_;have ap:=St.start w0;refine T ?_;intro aM aN q;obtain ⟨Z,A,C⟩:=ob h;refine CW.jn [1] [0] [(14,.bool Z)] q (h1:=?_) (h2:=?_)
 · have h:=A;refine T ?_;intro aQ ay h aO aq;refine bH h ?_ ?_<;>intro _ h
   · exact rt
   refine T ?_;intro aR az h aP ar;exact rt
 intro e aC z;have h:=C;refine gc h ?_ ?_<;>intro _ h
 · exact rt
 refine go ?_;obtain ⟨l,n,k⟩:=ob h;refine CW.mono (CW.lx [1] [0] [1] 0 (fun m=>[(3,vI m)]) (RT prog f11.results (fun u=>.bool u) w0 []) z n (hb:=?_)) ?_
 · intro m e aD o au h;refine gc h ?_ ?_<;>intro _ h
   · refine gb h fun aI p h=>?_;obtain ⟨ah,aA,B,rfl,H,J,K,⟨aa,ai,ab,aj,ac,ak,ad,am,ae,an,af,ao,rfl,L,M,O,R,U,V⟩,I⟩:=i.idx p;refine go ?_;refine T ?_;intro aJ W h aE av;refine CW.fl [1,3,28] fun e=>?_;refine gc h ?_ ?_<;>intro _ h
     · exact rt
     exact rt
   exact rt
 intro x e aF hM;rcases l with l | aB
 · obtain ⟨rfl,hM⟩:=hM;obtain ⟨e,rfl,aw⟩:=eo hM;have h:=k;refine T ?_;intro aK X h aG ax aL Y h aH G;exact rt
 obtain ⟨rfl,u,rfl,hM⟩:=hM;cases k;exact And.intro trivial hM
instance k_11:Ct prog 11:=⟨by kernel_rfl,@yT⟩
theorem Em {w0 N b R U r} (h:qn N b R U=some r) {d u l} (G:u=b.NZ.NY.length) (V:rb w0 d l b.NZ.NY) {f x m} (H:x=b.own.length) (W:rb w0 f m b.own) {g z n} (I:z=b.N1.length) (X:rb w0 g n b.N1) {i A o} (J:A=b.py.ag.length) (M:rb w0 i o b.py.ag) {j B p} (K:B=b.py.gc.gQ.length) (Y:rb w0 j p b.py.gc.gQ) {k C q} (L:C=b.gR.length) (Z:rb w0 k q b.gR) :
    gV prog 78 #[.agg #[vS d u l,vS f x m,vS g z n,vS i A o,vI b.py.gc.N2,vI b.py.gc.Oa,vI b.py.gc.N3,vS j B p,vS k C q,vI b.N6,vI b.N7,vI b.bh.gE,vI b.bh.gT,vI b.bh.g8,vI b.gW,vI b.N5],vI R,vI U] w0 (fun v w=>v=.bool r∧St w0 [] w []):=by
 subst G H I J K L;unfold qn at h;refine gV.fn func78 fun e=>?_;have ar:=St.start w0;refine T ?_;intro aD aE au;refine T ?_;intro aH ax h aB aC aF av aI ay h aG aw;refine bH h ?_ ?_<;>intro _ h
 · refine gb h fun aA O h=>?_;obtain ⟨an,az,aa,rfl,ab,ad,ae,⟨aj,ao,ak,ap,am,aq,rfl,af,ah,ai⟩,ac⟩:=M.idx O;refine go ?_;refine T ?_;exact rt
 exact rt
instance k_78:Ct prog 78:=⟨by kernel_rfl,@Em⟩
theorem wD {w0 N b M O R r} (h:mr N b M O R=some r) {d u l} (G:u=b.NZ.NY.length) (U:rb w0 d l b.NZ.NY) {f x m} (H:x=b.own.length) (V:rb w0 f m b.own) {g z n} (I:z=b.N1.length) (W:rb w0 g n b.N1) {i A o} (J:A=b.py.ag.length) (X:rb w0 i o b.py.ag) {j B p} (K:B=b.py.gc.gQ.length) (Y:rb w0 j p b.py.gc.gQ) {k C q} (L:C=b.gR.length) (Z:rb w0 k q b.gR) :
    gV prog 246 #[.agg #[vS d u l,vS f x m,vS g z n,vS i A o,vI b.py.gc.N2,vI b.py.gc.Oa,vI b.py.gc.N3,vS j B p,vS k C q,vI b.N6,vI b.N7,vI b.bh.gE,vI b.bh.gT,vI b.bh.g8,vI b.gW,vI b.N5],vI M,vI O,vI R] w0 (fun v w=>v=.tuple #[vI r.1,vI r.2]∧St w0 [] w []):=by
 subst G H I J K L;unfold mr at h;refine gV.fn func246 fun e=>?_;have aa:=St.start w0;refine T ?_;intro ak am ab ap af h an ac;refine gc h ?_ ?_<;>intro _ h
 · exact rt
 refine T ?_;intro aq ah h ao ad;refine gc h ?_ ?_<;>intro _ h
 · exact rt
 refine T ?_;intro ar ai h aj ae;refine CW.fl [10,26] fun e=>?_;refine gc h ?_ ?_<;>intro _ h
 · exact rt
 exact rt
instance k_246:Ct prog 246:=⟨by kernel_rfl,@wD⟩
theorem Gx {w0} {F:List Nat} {N f g r} (h:s5 N f g=some r) {A U J} (aa:U=f.NZ.NY.length) {B V K} (ab:V=f.own.length) {C W L} (ac:W=f.N1.length) {G X M} (ad:X=f.py.ag.length) {H Y O} (ae:Y=f.py.gc.gQ.length) {I Z R} (af:Z=f.gR.length) (hS:St w0 F w0 [sl A J f.NZ.NY,sl B K f.own,sl C L f.N1,sl G M f.py.ag,sl H O f.py.gc.gQ,sl I R f.gR]) :
    gV prog 159 #[.agg #[vS A U J,vS B V K,vS C W L,vS G X M,vI f.py.gc.N2,vI f.py.gc.Oa,vI f.py.gc.N3,vS H Y O,vS I Z R,vI f.N6,vI f.N7,vI f.bh.gE,vI f.bh.gT,vI f.bh.g8,vI f.gW,vI f.N5],.agg #[vI g.N0,vI g.a,vI g.b,vI g.c,vI g.d,vI g.e]] w0 (fun v w=>∃ i o, ∃ j p, ∃ k q, ∃ l u, ∃ m x, ∃ n z,v=.tuple #[.agg #[vS i r.1.NZ.NY.length o,vS j r.1.own.length p,vS k r.1.N1.length q,vS l r.1.py.ag.length u,vI r.1.py.gc.N2,vI r.1.py.gc.Oa,vI r.1.py.gc.N3,vS m r.1.py.gc.gQ.length x,vS n r.1.gR.length z,vI r.1.N6,vI r.1.N7,vI r.1.bh.gE,vI r.1.bh.gT,vI r.1.bh.g8,vI r.1.gW,vI r.1.N5],.agg #[vI r.2.code,vI r.2.Oi]]∧St w0 F w [sl i o r.1.NZ.NY,sl j p r.1.own,sl k q r.1.N1,sl l u r.1.py.ag,sl m x r.1.py.gc.gQ,sl n z r.1.gR]):=by
 subst aa ab ac ad ae af;unfold s5 at h;refine gV.fn func159 fun e=>?_;refine T ?_;intro b0 b4 a9 b1 b5 ba b2 b6 bb b3 b7 ah;refine gc h ?_ ?_<;>intro _ h
 · refine gs ?_;obtain ⟨ap,ak,an⟩:=ob h;refine CW.jn [2,3,4,5] [0,1,2,3,4,5,6,7,8,9] [(31,.bool ap)] ah (h1:=?_) (h2:=?_)
   · have h:=ak;refine T ?_;intro bR aT h bj bc;refine bH h ?_ ?_<;>intro _ h
     · exact rt
     refine jj [(0,vI g.b),(1,vI g.c),(2,vI g.d)] #[vI g.b,vI g.c,vI g.d] ?_;refine T ?_;intro bS aU h bk be;exact rt
   intro e bl bf;have h:=an;refine gc h ?_ ?_<;>intro _ h
   · refine jj [(0,vI 2)] #[vI 2,vI 0] ?_;refine T ?_;intro bm bg bn bi;exact rt
   refine jj [(0,vI g.b),(1,vI g.c),(2,vI g.d)] #[vI g.b,vI g.c,vI g.d] ?_;refine T ?_;intro ai aV h a3 a6 bo ar;refine CW.fl [2,4,5,6,7,51] fun e=>?_;refine gc h ?_ ?_<;>intro _ h
   · refine jj [(0,vI 6)] #[vI 6,vI 0] ?_;refine T ?_;intro bp au bq av;exact rt
   refine T ?_;intro br aw;refine LW.bd [(1,vI ai.2.1)] #[vI 0,vI ai.2.1] ?_;refine T ?_;intro bs ax bt ay;exact rt
 refine gc h ?_ ?_<;>intro _ h
 · refine gs ?_;obtain ⟨aq,am,ao⟩:=ob h;refine CW.jn [2,3,4,5] [0,1,2,3,4,5,6,7,8,9] [(82,.bool aq)] ah (h1:=?_) (h2:=?_)
   · have h:=am;refine T ?_;intro bT aW h bu az;refine bH h ?_ ?_<;>intro _ h
     · exact rt
     refine T ?_;intro bU aX h bv aA;refine bH h ?_ ?_<;>intro _ h
     · exact rt
     refine go ?_;refine T ?_;intro bV aY h bw aB;refine bH h ?_ ?_<;>intro _ h
     · exact rt
     refine T ?_;intro bW aZ h bz aC;exact rt
   intro e bA aj;have h:=ao;refine gc h ?_ ?_<;>intro _ h
   · refine jj [(0,vI 2)] #[vI 2,vI 0] ?_;refine T ?_;intro bB aD bC aE;exact rt
   refine jA ?_;have aF:=aj.drew;refine T ?_;intro bX a0 h bD aG bY a1 h a4 a7 bE aH;refine gc h ?_ ?_<;>intro _ h
   · refine jj [(0,vI 6)] #[vI 6,vI 0] ?_;refine T ?_;intro bF aI bG aJ;exact rt
   refine T ?_;intro bI aK;refine LW.bd [] #[vI 0,vI 0] ?_;refine T ?_;intro bJ aL bK aM;exact rt
 refine T ?_;intro bZ a2 h a5 a8 bL aN;refine CW.fl [2,4,5,11,117] fun e=>?_;refine gc h ?_ ?_<;>intro _ h
 · refine jj [(0,vI 2)] #[vI 2,vI 0] ?_;refine T ?_;intro bM aO bN aP;exact rt
 refine T ?_;intro bO aQ;refine LW.bd [] #[vI 0,vI 0] ?_;refine T ?_;intro bP aR bQ aS;exact rt
instance k_159:Ct prog 159:=⟨by kernel_rfl,@Gx⟩
theorem EN {w0 N i r} (h:m6 N i=some r) {d j f} (k:j=i.parts.length) (l:rb w0 d f i.parts) :
    gV prog 52 #[.agg #[vI i.Oc,vS d j f]] w0 (fun v w=>v=.bool r∧St w0 [] w []):=by
 subst k;unfold m6 at h;refine gV.fn func52 fun e=>?_;have aB:=St.start w0;refine T ?_;intro a3 a4 A;obtain ⟨aj,C,H⟩:=ob h;refine CW.jn [1] [0] [(16,.bool aj)] A (h1:=?_) (h2:=?_)
 · have h:=C;refine T ?_;intro a7 aI h a5 aC;refine bH h ?_ ?_<;>intro _ h
   · exact rt
   refine T ?_;intro a8 aJ h a6 aD;exact rt
 intro e aM aE;have h:=H;refine gc h ?_ ?_<;>intro _ h
 · exact rt
 refine jj [] #[vI 0,vI 0,vI 0] ?_;refine T ?_;intro g aN aF aO B;refine go ?_;obtain ⟨n,q,m⟩:=ob h;refine CW.it q (fun b e wb=>En e [(3,.pointer (some ⟨g,0,none⟩)),(19,vS d i.parts.length f),(20,vI (i.parts.length:Int)),(21,vI b.1)]∧St w0 [] wb [bx g 43 [vI b.2.1,vI b.2.2.1,vI b.2.2.2]]) (fun o x e wb=>match o with | .inl b=>x=.exit 0∧En e [(3,.pointer (some ⟨g,0,none⟩))]∧St w0 [] wb [bx g 43 [vI b.2.1,vI b.2.2.1,vI b.2.2.2]] | .inr r=>x=.ret∧∃ u,u=r∧∃ v,kt prog f52.results e wb v∧v=.bool u∧St w0 [] wb []) ?_ (B.po [0]) ?_
 · intro b e aP o hM h;obtain ⟨hE,aG⟩:=hM;obtain ⟨e,rfl⟩:=hE.out;refine gc h ?_ ?_<;>intro _ h
   · refine gb h fun aY z h=>?_;obtain ⟨ar,aK,G,rfl,U,W,X,⟨ak,au,am,av,an,aw,ao,ax,ap,ay,aq,az,rfl,Y,Z,aa,ab,ac,ad⟩,V⟩:=l.idx z;refine go ?_;refine T ?_;intro aA aQ aH aR I aZ ae h aS p;refine CW.fl [3,5,19,20,21,27] fun e=>?_;refine gc h ?_ ?_<;>intro _ h
     · exact rt
     refine jA ?_;have J:=p.drew;refine T ?_;intro a0 af h aT K a1 ah h aU L aV M;exact rt
   exact rt
 intro x e aW hM;rcases n with n | aL
 · obtain ⟨rfl,hM⟩:=hM;obtain ⟨hE,O⟩:=hM;obtain ⟨e,rfl⟩:=hE.out;have h:=m;refine T ?_;intro a2 ai h aX R;exact rt
 obtain ⟨rfl,u,rfl,hM⟩:=hM;cases m;exact And.intro trivial hM
instance k_52:Ct prog 52:=⟨by kernel_rfl,@EN⟩
theorem Fg {w0 N b aC r} (h:oF N b aC=some r) {j I q} (V:I=b.NZ.NY.length) (aD:rb w0 j q b.NZ.NY) {k J u} (W:J=b.own.length) (aE:rb w0 k u b.own) {l K x} (X:K=b.N1.length) (aF:rb w0 l x b.N1) {m O z} (Y:O=b.py.ag.length) (ab:rb w0 m z b.py.ag) {n R A} (Z:R=b.py.gc.gQ.length) (aG:rb w0 n A b.py.gc.gQ) {p U B} (aa:U=b.gR.length) (aH:rb w0 p B b.gR) :
    gV prog 140 #[.agg #[vS j I q,vS k J u,vS l K x,vS m O z,vI b.py.gc.N2,vI b.py.gc.Oa,vI b.py.gc.N3,vS n R A,vS p U B,vI b.N6,vI b.N7,vI b.bh.gE,vI b.bh.gT,vI b.bh.g8,vI b.gW,vI b.N5],vI aC] w0 (fun v w=>∃ ad af,v=vS ad r.length af∧St w0 [] w [sl ad af r]):=by
 subst V W X Y Z aa;unfold oF at h;refine gV.fn func140 fun e=>?_;have bc:=St.start w0;refine T ?_;intro aj bu aw;refine LW.b0 (α:=Int) aw ?_;intro aI aJ bv bd hf;refine T ?_;intro bz bf h bw be;refine gc h ?_ ?_<;>intro _ h
 · exact rt
 refine T ?_;intro aq bg h ac ae bn ax;refine go ?_;obtain ⟨bl,an,av⟩:=ob h;refine CW.ie an 0 (fun g e wb=>∃ (d:Ad) (f:Nat),En e [(2,.pointer (some ⟨aj,0,none⟩)),(5,vS d g.1.length f),(17,vS ac aq.length ae),(18,vI (aq.length:Int)),(19,vI g.2)]∧St w0 [] wb [sl ac ae aq,sl d f g.1,bx aj 45 (qP j q k u l x m z n A p B b)]) ?_ ⟨aI,aJ,ax.po [0,1,2]⟩ ?_
 · intro g e aB o hM h;obtain ⟨d,f,hE,ah⟩:=hM;obtain ⟨e,rfl⟩:=hE.out;refine jE [2,5,17,18,19,20] fun e=>?_;refine gc h ?_ ?_<;>intro _ h
   · refine gb h fun br H h=>?_;obtain ⟨a5,bi,hae,aT,aV⟩:=ah.hZ (α:=Bool) (i:=0) rfl H;subst hae;refine go ?_;obtain ⟨ar,C,ay⟩:=ah.freeze (α:=Bool) 0 rfl;obtain ⟨a6,bj,aK,hae,aP,_,_,ak,aR⟩:=C.jk.idx H;cases hae;obtain rfl:=ak;refine T ?_;obtain ⟨aA,am,au⟩:=ob h;refine CW.jn [2,5,6,17,18,19] [0,1,2] [(34,.bool aA)] ay (h1:=?_) (h2:=?_)
     · have h:=am;refine gB h ?_ ?_<;>intro _ h
       · refine gb h fun bs ao h=>?_;obtain ⟨a7,bk,aL,rfl,aQ,aU,aW,⟨a0,a8,a1,a9,a2,ba,rfl,aX,aY,aZ⟩,aS⟩:=ab.idx ao;refine go ?_;refine T ?_;exact rt
       exact rt
     intro e bo ai;have h:=au;refine gc h ?_ ?_<;>intro _ h
     · refine gb h fun bt ap h=>?_;refine LW.j6 (M:=[]) (L:=[fz aB ar,sl d f g.1,bx aj 45 (qP j q k u l x m z n A p B b)]) (vs:=#[vI g.2]) (i:=1) pH rfl (by kernel_rfl) rfl rfl ap ai rfl (fun w G hG=>by cases (show G=[] from hG);exact ⟨rfl,rfl⟩) rfl rfl ?_;intro bm a4 bb bp az hf;refine go ?_;have aM:=az.iz (α:=Bool) 0 rfl C;exact rt
     refine go ?_;have aN:=ai.iz (α:=Bool) 0 rfl C;exact rt
   exact rt
 rintro e bq ⟨d,f,hE,aO⟩;obtain ⟨e,rfl⟩:=hE.out;have h:=av;exact rt
instance k_140:Ct prog 140:=⟨by kernel_rfl,@Fg⟩
theorem zg {w0 N b V W X Y r} (h:m8 N b V W X Y=some r) {d u l} (G:u=b.NZ.NY.length) (Z:rb w0 d l b.NZ.NY) {f x m} (H:x=b.own.length) (aa:rb w0 f m b.own) {g z n} (I:z=b.N1.length) (ab:rb w0 g n b.N1) {i A o} (J:A=b.py.ag.length) (M:rb w0 i o b.py.ag) {j B p} (K:B=b.py.gc.gQ.length) (ac:rb w0 j p b.py.gc.gQ) {k C q} (L:C=b.gR.length) (ad:rb w0 k q b.gR) :
    gV prog 240 #[.agg #[vS d u l,vS f x m,vS g z n,vS i A o,vI b.py.gc.N2,vI b.py.gc.Oa,vI b.py.gc.N3,vS j B p,vS k C q,vI b.N6,vI b.N7,vI b.bh.gE,vI b.bh.gT,vI b.bh.g8,vI b.gW,vI b.N5],vI V,vI W,vI X,vI Y] w0 (fun v w=>v=.tuple #[vI r.1,vI r.2]∧St w0 [] w []):=by
 subst G H I J K L;unfold m8 at h;refine gV.fn func240 fun e=>?_;have az:=St.start w0;refine T ?_;intro aF aG aA aI aC h aH O;obtain ⟨ap,R,af⟩:=ob h;refine CW.jn [12,13] [] [(38,.bool ap)] O (h1:=?_) (h2:=?_)
 · have h:=R;refine gB h ?_ ?_<;>intro _ h
   · refine gB h ?_ ?_<;>intro _ h
     · refine go ?_;have ⟨aJ,U,h⟩:=ob h;obtain ⟨av,aD,ae,rfl,ah,aj,ak,⟨aq,aw,ar,ax,au,ay,rfl,am,an,ao⟩,ai⟩:=M.idx U;refine go ?_;refine T ?_;exact rt
     exact rt
   exact rt
 intro e aE aB;have h:=af;refine jE [12,13,38] fun e=>?_;refine gc h ?_ ?_<;>intro _ h
 · exact rt
 exact rt
instance k_240:Ct prog 240:=⟨by kernel_rfl,@zg⟩
end Go.Kx
