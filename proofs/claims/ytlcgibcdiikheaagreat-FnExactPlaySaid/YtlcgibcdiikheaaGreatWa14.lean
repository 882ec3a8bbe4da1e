import Derived.Test.YtlcgibcdiikheaaGreatWa10
import Derived.Test.YtlcgibcdiikheaaGreatWa11
namespace Go.Kx
open Go Go.RowKit Go.Proofs
open Tryz
set_option maxRecDepth 10000
set_option maxHeartbeats 8000000
set_option linter.unusedVariables false
set_option linter.unusedSimpArgs false
theorem xO {w0 N b ak r} (h:rT N b ak=some r) {l z n} (C:z=b.ag.length) (H:rb w0 l n b.ag) {m A o} (G:A=b.gc.gQ.length) (am:rb w0 m o b.gc.gQ) :
    gV prog 265 #[.agg #[vS l z n,vI b.gc.Ph,vI b.gc.Pr,vI b.gc.Pj,vS m A o],vI ak] w0 (fun v w=>∃ d g, ∃ f j,v=.agg #[vS d r.ag.length g,vI r.gc.Ph,vI r.gc.Pr,vI r.gc.Pj,vS f r.gc.gQ.length j]∧St w0 [] w [sl d g r.ag,sl f j r.gc.gQ]):=by
 subst C G;unfold rT at h;refine gV.fn func265 fun e=>?_;have aP:=St.start w0;refine T ?_;intro bl bm aQ ae bn aR B aW h aa ac ab ad a0 aS I a1 aT a2 ai;obtain ⟨aj,M,af⟩:=ob h;refine CW.jn [1,2,4,5] [0,1,2,3,4] [(24,.bool aj)] ai (h1:=?_) (h2:=?_)
 · have h:=M;refine T ?_;intro bd aE h a3 aU;refine bH h ?_ ?_<;>intro _ h
   · exact rt
   refine T ?_;intro be aF h a4 aV;refine bH h ?_ ?_<;>intro _ h
   · exact rt
   refine gb h fun bf R h=>?_;obtain ⟨aJ,aX,an,rfl,ar,av,ay,⟨aG,aM,aH,aN,aI,aO,rfl,aB,aC,aD⟩,au⟩:=H.idx R;refine go ?_;refine T ?_;exact rt
 intro e a5 k;have h:=af;refine gc h ?_ ?_<;>intro _ h
 · refine T ?_;intro a7 ao;exact rt
 refine gs ?_;obtain ⟨J,O,ah⟩:=ob h;refine CW.cut (fun e wb=>En e [(4,.pointer (some ⟨ae,0,none⟩)),(5,.pointer (some ⟨I,0,none⟩))]∧St w0 [] wb [bx I 45 [vS aa J.length ac,vI B.gc.Ph,vI B.gc.Pr,vI B.gc.Pj,vS ab B.gc.gQ.length ad],sl aa ac J,sl ab ad B.gc.gQ,bx ae 45 [vS none 0 0,vI 0,vI 0,vI 0,vS none 0 0]]) ?_ ?_
 · have h:=O;refine gB h ?_ ?_<;>intro _ h
   · refine gb h fun bg p h=>?_;obtain ⟨aK,aY,hae,aw,az⟩:=k.hZ (α:=gP) (i:=1) rfl p;subst hae;refine go ?_;refine gb h fun bi q h=>?_;refine LW.se 9 k 1 p q (hM:=(iU (fun w cs F hF=>by obtain ⟨U,X,V,Y,W,Z,rfl,hH⟩:=hF;exact ⟨U,X,V,Y,W,Z,rfl,hH⟩))) fun a9 K=>?_;refine go ?_;rw [gS (oi q)] at K;exact rt
   refine gb h fun bj u h=>?_;obtain ⟨aL,aZ,hae,ax,aA⟩:=k.hZ (α:=gP) (i:=1) rfl u;subst hae;refine go ?_;refine gb h fun bk x h=>?_;refine LW.se 9 k 1 u x (hM:=(iU (fun w cs F hF=>by obtain ⟨U,X,V,Y,W,Z,rfl,hH⟩:=hF;exact ⟨U,X,V,Y,W,Z,rfl,hH⟩))) fun ba L=>?_;refine go ?_;rw [gS (oi x)] at L;exact rt
 rintro e bb ⟨hE,ap⟩;obtain ⟨e,rfl⟩:=hE.out;have h:=ah;refine T ?_;intro bc aq;exact rt
instance k_265:Ct prog 265:=⟨by kernel_rfl,@xO⟩
theorem zZ {w0 N b B r} (h:oH N b B=some r) {j n l} (p:n=b.ag.length) (C:rb w0 j l b.ag) {k o m} (q:o=b.gc.gQ.length) (G:rb w0 k m b.gc.gQ) :
    gV prog 267 #[.agg #[vS j n l,vI b.gc.Ph,vI b.gc.Pr,vI b.gc.Pj,vS k o m],vI B] w0 (fun v w=>∃ d g, ∃ f i,v=.agg #[vS d r.ag.length g,vI r.gc.Ph,vI r.gc.Pr,vI r.gc.Pj,vS f r.gc.gQ.length i]∧St w0 [] w [sl d g r.ag,sl f i r.gc.gQ]):=by
 subst p q;unfold oH at h;refine gV.fn func267 fun e=>?_;have X:=St.start w0;refine T ?_;intro aA aC Y aB aD Z aE af h aw ay ax az ah aa W ai ab aj z;obtain ⟨A,u,x⟩:=ob h;refine CW.jn [1,4,5] [0,1,2,3] [(15,.bool A)] z (h1:=?_) (h2:=?_)
 · have h:=u;refine T ?_;intro ar K h ak ac;refine bH h ?_ ?_<;>intro _ h
   · exact rt
   refine T ?_;intro au L h am ad;exact rt
 intro e an ae;have h:=x;refine gc h ?_ ?_<;>intro _ h
 · refine T ?_;intro ao H;exact rt
 refine T ?_;intro av M h O U R V ap I aq J;exact rt
instance k_267:Ct prog 267:=⟨by kernel_rfl,@zZ⟩
theorem EO {w0 N am R r} (h:rf N am R=some r) {p M q} (O:M=am.length) (n:rb w0 p q am) :
    gV prog 272 #[vS p M q,vI R] w0 (fun v w=>∃ V W,v=.tuple #[vS V r.1.length W,.bool r.2]∧St w0 [] w [sl V W r.1]):=by
 subst O;unfold rf at h;refine gV.fn func272 fun e=>?_;have a9:=St.start w0;refine T ?_;intro U bg h an g bO ar;obtain ⟨aY,av,aB⟩:=ob h;refine CW.jn [0,1,6] [0] [(20,.bool aY)] ar (h1:=?_) (h2:=?_)
 · have h:=av;refine T ?_;intro bQ bi h bP ba;refine bH h ?_ ?_<;>intro _ h
   · exact rt
   exact rt
 intro e bq au;have h:=aB;refine gc h ?_ ?_<;>intro _ h
 · exact rt
 refine gb h fun X aj h=>?_;obtain ⟨a0,bj,ay,rfl,aH,aN,aS,rfl,aK⟩:=n.idx aj;refine go ?_;refine T ?_;obtain ⟨L,ad,ao⟩:=ob h;refine CW.cut (fun e wb=>∃ (f:Nat),En e [(1,vI R),(6,vS an U.length g),(7,vI X.Pv),(8,.pointer (some ⟨f,0,none⟩))]∧St w0 [] wb [sl an g U,bx f 48 [vI L.1,vI L.2.1,vI L.2.2]]) ?_ ?_
 · have h:=ad;refine dW ?_;have bb:=au.drew;refine gb h fun bG ak h=>?_;obtain ⟨a1,bk,az,hae,aI,aO,aT,ab,aL⟩:=n.idx ak;cases hae;obtain rfl:=ab;refine go ?_;refine T ?_;refine go ?_;refine T ?_;have ⟨bI,aX,h⟩:=ob h;refine AW.all (rs:=[10,14]) (by kernel_rfl) (by simp) ⟨?_,?_,trivial⟩
   · refine oA ?_;refine T ?_;intro br bc a7 bs bd bt be;exact rt
   refine oA ?_;refine T ?_;intro a8 bu bf;refine jP 10 ?_;refine T ?_;intro bv aC bw aD;exact rt
 rintro e bz ⟨f,hE,x⟩;obtain ⟨e,rfl⟩:=hE.out;have h:=ao;refine gb h fun bJ C h=>?_;obtain ⟨b,d,hae,aP,aU⟩:=x.hZ (α:=g6) (i:=0) rfl C;subst hae;refine go ?_;refine gb h fun bK m h=>?_;refine LW.se 2 x 0 C m (hM:=(iU (fun w cs F hF=>by obtain ⟨rfl,rfl⟩:=hF;exact ⟨rfl,rfl⟩))) fun bA z=>?_;refine jt [] #[.bool false,vI 0,vI 0,vI 0,vI 0] ?_;have ⟨bL,G,h⟩:=ob h;obtain ⟨a3,bl,hae,ah,ai⟩:=z.hZ (α:=g6) (i:=0) rfl G;cases hae;(try refine LW.u (il.ix underlying40 yb rfl rfl ah (by rw [gS (oi m)];exact ai)) rfl ?_);have ⟨Y,H,h⟩:=ob h;refine LW.se 0 z 0 G H (hM:=ui) fun bB Z=>?_;refine go ?_;obtain ⟨bp,af,aq⟩:=ob h;refine CW.ie af 0 (fun j e wb=>En e [(1,vI R),(6,vS (some ⟨b,d,none⟩) j.1.length g),(7,vI X.Pv),(10,vI j.2)]∧St w0 [] wb [sl (some ⟨b,d,none⟩) g j.1]) ?_ ⟨⟨rfl,(show (vS (some ⟨b,d,none⟩) U.length g:Value)=vS (some ⟨b,d,none⟩) Y.length g by rw [show U.length=Y.length from ((gS (oi m)).trans (gS (oi H)))]),rfl,rfl,trivial⟩,Z.pk [0]⟩ ?_
 · intro j e bC o hM h;obtain ⟨e,rfl,k⟩:=eo hM;refine jw [1,6,7,10,53] fun e=>?_;refine gc h ?_ ?_<;>intro _ h
   · refine gs ?_;refine CW.block ?_;refine gs ?_;obtain ⟨aw,ae,ap⟩:=ob h;refine CW.jn [1,6,7,10] [0] [(69,.bool aw)] k (h1:=?_) (h2:=?_)
     · have h:=ae;refine gb h fun bM I h=>?_;obtain ⟨a4,bm,hae,aQ,aV⟩:=k.hZ (α:=g6) (i:=0) rfl I;cases hae;refine go ?_;obtain ⟨aZ,l,A⟩:=k.freeze (α:=g6) 0 rfl;obtain ⟨a5,bn,aA,hae,aJ,_,_,ac,aM⟩:=l.ju.idx I;cases hae;obtain rfl:=ac;refine T ?_;refine bH h ?_ ?_<;>intro _ h
       · refine go ?_;refine T ?_;have aE:=A.iD (α:=g6) 0 rfl l;exact rt
       refine go ?_;have aF:=A.iD (α:=g6) 0 rfl l;exact rt
     intro e bD B;have h:=ap;refine gc h ?_ ?_<;>intro _ h
     · refine gb h fun bN J h=>?_;obtain ⟨a6,bo,hae,aR,aW⟩:=B.hZ (α:=g6) (i:=0) rfl J;cases hae;refine go ?_;refine gb h fun ax K h=>?_;refine LW.se 1 B 0 J K (hM:=(iU (fun w cs F hF=>by obtain ⟨rfl,rfl⟩:=hF;exact ⟨rfl,rfl⟩))) fun bE aa=>?_;refine go ?_;replace h:=oi h;subst h;exact ⟨rfl,⟨⟨rfl,(show (vS (some ⟨b,d,none⟩) j.1.length g:Value)=vS (some ⟨b,d,none⟩) ax.length g by rw [gS (oi K)]),rfl,rfl,trivial⟩,aa.pk [0]⟩⟩
     exact rt
   exact rt
 rintro e bF ⟨hE,aG⟩;obtain ⟨e,rfl⟩:=hE.out;have h:=aq;exact rt
instance k_272:Ct prog 272:=⟨by kernel_rfl,@EO⟩
theorem CM {w0 N C r} (h:lD N C=some r) {I R J} (W:R=C.parts.length) (X:rb w0 I J C.parts) :
    gV prog 74 #[.agg #[vI C.Pt,vS I R J]] w0 (fun v w=>∃ K O,v=.agg #[vI r.Pt,vS K r.parts.length O]∧St w0 [] w [sl K O r.parts]):=by
 subst W;unfold lD at h;refine gV.fn func74 fun e=>?_;have aV:=St.start w0;refine T ?_;intro bc be aW U bf aX;refine LW.bd [(0,vI C.Pt)] #[vI C.Pt,vS none 0 0] ?_;refine T ?_;intro V bg aY bi ay;refine go ?_;have az:=ay.nil (α:=bh);obtain ⟨a2,au,ax⟩:=ob h;refine CW.ie au 0 (fun H e wb=>∃ (d:Ad) (f:Nat),En e [(2,.pointer (some ⟨U,0,none⟩)),(3,.pointer (some ⟨V,0,none⟩)),(10,vS I C.parts.length J),(11,vI (C.parts.length:Int)),(12,vI H.1)]∧St w0 [] wb [bx V 26 [vI C.Pt,vS d H.2.length f],bx U 26 [vI 0,vS none 0 0],sl d f H.2]) ?_ ⟨none,0,az.po [1,2,0]⟩ ?_
 · intro H e bj o hM h;obtain ⟨d,f,hE,aZ⟩:=hM;obtain ⟨e,rfl⟩:=hE.out;refine gc h ?_ ?_<;>intro _ h
   · refine gb h fun ao av h=>?_;obtain ⟨aT,a1,aB,rfl,aH,aJ,aK,⟨Y,ae,Z,af,aa,ah,ab,ai,ac,aj,ad,ak,rfl,aL,aM,aN,aO,aP,aQ⟩,aI⟩:=X.idx av;refine go ?_;refine T ?_;intro am a3 a0 a4 aA;refine dW ?_;have aC:=aA.drew;refine T ?_;intro b aR h g q k u l x m z n A p B a5 ap;refine LW.MW (vs:=#[vS g b.Pe.Pd.length q,vS k b.own.length u,vS l b.Pg.length x,vS m b.py.ag.length z,vI b.py.gc.Ph,vI b.py.gc.Pr,vI b.py.gc.Pj,vS n b.py.gc.gQ.length A,vS p b.gR.length B,vI b.Pn,vI b.Pp,vI b.cd.gE,vI b.cd.gX,vI b.cd.g8,vI b.g5,vI b.Pm]) BI rfl (by kernel_rfl) ap rfl ?_;intro an a6 aq hf;refine T ?_;have ar:=aq.pk (M:=[sl g q b.Pe.Pd,sl k u b.own,sl l x b.Pg,sl m z b.py.ag,sl n A b.py.gc.gQ,sl p B b.gR]++[bx an 50 (qP g q k u l x m z n A p B b),bx am 50 (qP Y ae Z af aa ah ab ai ac aj ad ak ao),bx V 26 [vI C.Pt,vS d H.2.length f],bx U 26 [vI 0,vS none 0 0],sl d f H.2]) [1,2,3,4,5,6,0,7,8,9,10];have ⟨bb,aw,h⟩:=ob h;refine T ?_;refine LW.Du (M:=[sl g q b.Pe.Pd,sl k u b.own,sl l x b.Pg,sl m z b.py.ag,sl n A b.py.gc.gQ,sl p B b.gR]) (L:=[bx an 50 (qP g q k u l x m z n A p B b),bx am 50 (qP Y ae Z af aa ah ab ai ac aj ad ak ao),bx V 26 [vI C.Pt,vS d H.2.length f],bx U 26 [vI 0,vS none 0 0],sl d f H.2]) (vs:=(qP g q k u l x m z n A p B b)) (i:=4) (j:=0) BI rfl rfl aw ar rfl rfl (fun w G hG=>⟨g,q,k,u,l,x,m,z,n,A,p,B,rfl,hG⟩) rfl ?_
     intro aS aU a7 aD hf;refine T ?_;intro a8 aE;exact rt
   exact rt
 rintro e a9 ⟨d,f,hE,aF⟩;obtain ⟨e,rfl⟩:=hE.out;have h:=ax;refine T ?_;intro ba aG;exact rt
instance k_74:Ct prog 74:=⟨by kernel_rfl,@CM⟩
theorem G6 {w0 N d r} (h:ou N d=some r) {f m i} (q:m=d.ag.length) (ac:rb w0 f i d.ag) {g n j} (z:n=d.gc.gQ.length) (b:rb w0 g j d.gc.gQ) :
    gV prog 227 #[.agg #[vS f m i,vI d.gc.Ph,vI d.gc.Pr,vI d.gc.Pj,vS g n j]] w0 (fun v w=>v=.bool r∧St w0 [] w []):=by
 subst q z;unfold ou at h;refine gV.fn func227 fun e=>?_;have ax:=St.start w0;refine T ?_;intro aY aZ R;refine go ?_;obtain ⟨B,K,A⟩:=ob h;refine CW.mono (CW.lx [1,9,10] [0] [1] 0 (fun ab=>[(11,vI ab)]) (RT prog f227.results (fun u=>.bool u) w0 []) R K (hb:=?_)) ?_
 · intro ab e a0 o U h;refine gc h ?_ ?_<;>intro _ h
   · refine gb h fun a1 X h=>?_;obtain ⟨aX,aE,ad,rfl,aj,aC,aD,rfl,ak⟩:=b.idx X;refine go ?_;refine T ?_;obtain ⟨Y,H,L⟩:=ob h;refine CW.jn [1,9,10,11] [0] [(27,.bool Y)] U (h1:=?_) (h2:=?_)
     · have h:=H;refine T ?_;intro aQ an h aG ay;refine bH h ?_ ?_<;>intro _ h
       · exact rt
       refine gb h fun aR k h=>?_;obtain ⟨av,aw,C,G,am⟩:=iR.vt b k;have p:=(b).le;refine go ?_;refine LW.u (il.sub (α:=Int) (l:=d.gc.gQ) underlying37 GP rfl vp (vn rfl) k p C G) rfl ?_;refine go ?_;refine T ?_;intro aS ao h aH az;exact rt
     intro e aI aA;have h:=L;refine jw [1,9,10,11,27] fun e=>?_;refine gc h ?_ ?_<;>intro _ h
     · exact rt
     exact rt
   exact rt
 intro x e aJ hM;rcases B with B | aF
 · obtain ⟨rfl,hM⟩:=hM;obtain ⟨e,rfl,V⟩:=eo hM;have h:=A;refine gs ?_;obtain ⟨Z,I,M⟩:=ob h;refine CW.jn [1] [0] [(5,.bool Z)] V (h1:=?_) (h2:=?_)
   · have h:=I;refine gB h ?_ ?_<;>intro _ h
     · exact rt
     exact rt
   intro e aK W;have h:=M;refine gs ?_;obtain ⟨aa,J,O⟩:=ob h;refine CW.jn [1,5] [0] [(6,.bool aa)] W (h1:=?_) (h2:=?_)
   · have h:=J;refine gB h ?_ ?_<;>intro _ h
     · refine T ?_;intro aT ap h aL aB;refine bH h ?_ ?_<;>intro _ h
       · exact rt
       exact rt
     exact rt
   intro e aM ae;have h:=O;refine T ?_;intro aU aq h aN af;refine bH h ?_ ?_<;>intro _ h
   · refine gB h ?_ ?_<;>intro _ h
     · refine T ?_;intro aV ar h aO ah;exact rt
     refine gB h ?_ ?_<;>intro _ h
     · refine T ?_;intro aW au h aP ai;exact rt
     exact rt
   exact rt
 obtain ⟨rfl,u,rfl,hM⟩:=hM;cases A;exact And.intro trivial hM
instance k_227:Ct prog 227:=⟨by kernel_rfl,@G6⟩
theorem FN {w0 N i r} (h:qA N i=some r) {d g f} (j:g=i.length) (k:rb w0 d f i) :
    gV prog 245 #[vS d g f] w0 (fun v w=>v=.agg #[vI r.gE,vI r.gX,vI r.g8]∧St w0 [] w []):=by
 subst j;unfold qA at h;refine gV.fn func245 fun e=>?_;have O:=St.start w0;refine T ?_;intro n ao R;refine LW.bd [] #[vI 0,vI 0,vI 0] ?_;refine T ?_;intro p ap U aq V av aa h ar u;refine gc h ?_ ?_<;>intro _ h
 · refine T ?_;intro au W;exact rt
 refine go ?_;obtain ⟨ac,l,q⟩:=ob h;refine CW.ie l 0 (fun b e wb=>En e [(2,.pointer (some ⟨n,0,none⟩)),(3,.pointer (some ⟨p,0,none⟩)),(11,vS d i.length f),(12,vI (i.length:Int)),(13,vI b.1)]∧St w0 [] wb [bx p 48 [vI b.2.1,vI b.2.2.1,vI b.2.2.2],bx n 48 [vI 0,vI 0,vI 0]]) ?_ (u.po [0,1]) ?_
 · intro b e ad o hM h;obtain ⟨e,rfl,X⟩:=eo hM;refine gc h ?_ ?_<;>intro _ h
   · refine gb h fun am m h=>?_;obtain ⟨L,ab,x,rfl,G,I,J,rfl,H⟩:=k.idx m;refine go ?_;refine T ?_;intro M ae Y af Z an K h ah z ai A;exact rt
   exact rt
 rintro e aj ⟨hE,B⟩;obtain ⟨e,rfl⟩:=hE.out;have h:=q;refine T ?_;intro ak C;exact rt
instance k_245:Ct prog 245:=⟨by kernel_rfl,@FN⟩
theorem J7 {w0 N b r} (h:vY N b=some r) {d C m} (L:C=b.Pe.Pd.length) (ad:rb w0 d m b.Pe.Pd) {f G n} (M:G=b.own.length) (ae:rb w0 f n b.own) {g H p} (O:H=b.Pg.length) (af:rb w0 g p b.Pg) {j I q} (R:I=b.py.ag.length) (ah:rb w0 j q b.py.ag) {k J u} (U:J=b.py.gc.gQ.length) (ai:rb w0 k u b.py.gc.gQ) {l K z} (V:K=b.gR.length) (aj:rb w0 l z b.gR) :
    gV prog 246 #[.agg #[vS d C m,vS f G n,vS g H p,vS j I q,vI b.py.gc.Ph,vI b.py.gc.Pr,vI b.py.gc.Pj,vS k J u,vS l K z,vI b.Pn,vI b.Pp,vI b.cd.gE,vI b.cd.gX,vI b.cd.g8,vI b.g5,vI b.Pm]] w0 (fun v w=>v=vI r∧St w0 [] w []):=by
 subst L M O R U V;unfold vY at h;refine gV.fn func246 fun e=>?_;have aC:=St.start w0;refine T ?_;intro aV aW aD aZ aI h aT aU aX ab;refine go ?_;obtain ⟨aO,Y,aa⟩:=ob h;refine CW.mono (CW.lb [7,8] [0] [3] 0 (fun Z=>[(3,vI Z.1),(9,vI Z.2)]) ab Y (hb:=?_)) ?_
 · intro Z e aY o W h;refine gc h ?_ ?_<;>intro _ h
   · refine gb h fun aS B h=>?_;obtain ⟨aw,aM,hae,ao,ap⟩:=W.hZ (α:=pP) (i:=0) rfl B;subst hae;refine go ?_;obtain ⟨aq,A,aE⟩:=W.freeze (α:=pP) 0 rfl;obtain ⟨ax,aN,ak,hae,am,_,_,X,an⟩:=A.ju.idx B;cases hae;obtain ⟨ar,aJ,ay,au,aK,az,av,aL,aA,rfl⟩:=X;refine T ?_;intro aB aP aF aQ ac;have aG:=ac.iD (α:=pP) 1 rfl A;exact rt
   exact rt
 intro x e aR hM;obtain ⟨rfl,hM⟩:=hM;obtain ⟨e,rfl,aH⟩:=eo hM;have h:=aa;exact rt
instance k_246:Ct prog 246:=⟨by kernel_rfl,@J7⟩
theorem E0 {w0 N H I x r} (h:mB N H I x=some r) {f o j} (q:o=H.length) (u:rb w0 f j H) :
    gV prog 223 #[vS f o j,vI I,.agg #[vI x.gE,vI x.gX,vI x.g8]] w0 (fun v w=>∃ z A,v=.tuple #[vS z r.1.length A,.bool r.2]∧St w0 [] w [sl z A r.1]):=by
 subst q;unfold mB at h;refine gV.fn func223 fun e=>?_;have ap:=St.start w0;refine T ?_;intro aQ aR aq J ay h K k aS M;obtain ⟨ak,R,W⟩:=ob h;refine CW.jn [0,1,5,8] [0,1] [(21,.bool ak)] M (h1:=?_) (h2:=?_)
 · have h:=R;refine T ?_;intro aT az h aB ar;refine bH h ?_ ?_<;>intro _ h
   · exact rt
   refine T ?_;intro aM ai h aC au;exact rt
 intro e aD O;have h:=W;refine gc h ?_ ?_<;>intro _ h
 · exact rt
 refine gs ?_;obtain ⟨b,C,L⟩:=ob h;refine CW.cut (fun e wb=>∃ (d:Nat),En e [(1,vI I),(8,vS K J.length k),(9,.pointer (some ⟨d,0,none⟩)),(10,.bool b.2.2.2)]∧St w0 [] wb [sl K k J,bx d 48 [vI b.1,vI b.2.1,vI b.2.2.1]]) ?_ ?_
 · have h:=C;refine dW ?_;have av:=O.drew;refine gb h fun aN G h=>?_;obtain ⟨am,aA,V,rfl,ab,ad,af,rfl,ac⟩:=u.idx G;refine go ?_;refine T ?_;have ⟨aO,aj,h⟩:=ob h;refine AW.all (rs:=[6,10]) (by kernel_rfl) (by simp) ⟨?_,?_,trivial⟩
   · refine oA ?_;refine T ?_;intro aE aw an aF ax aG X;exact rt
   refine oA ?_;refine T ?_;intro ao aH Y;refine jP 6 ?_;refine T ?_;intro aI Z aJ aa;exact rt
 rintro e aK ⟨d,hE,l⟩;obtain ⟨e,rfl⟩:=hE.out;have h:=L;refine gb h fun aP m h=>?_;obtain ⟨g,p,hae,ae,ah⟩:=l.hZ (α:=g6) (i:=0) rfl m;subst hae;refine go ?_;refine gb h fun U n h=>?_;refine LW.se 2 l 0 m n (hM:=(iU (fun w cs F hF=>by obtain ⟨rfl,rfl⟩:=hF;exact ⟨rfl,rfl⟩))) fun aL B=>?_;refine go ?_;replace h:=oi h;subst h;exact Rc tt tt ⟨(some ⟨g,p,none⟩),k,(show (.tuple #[vS (some ⟨g,p,none⟩) J.length k,.bool b.2.2.2]:Value)=.tuple #[vS (some ⟨g,p,none⟩) U.length k,.bool b.2.2.2] by rw [gS (oi n)]),B.pk [0]⟩
instance k_223:Ct prog 223:=⟨by kernel_rfl,@E0⟩
end Go.Kx
