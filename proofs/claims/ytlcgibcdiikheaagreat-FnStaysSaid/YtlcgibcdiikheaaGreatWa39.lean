import Derived.Test.YtlcgibcdiikheaaGreatWa34
import Derived.Test.YtlcgibcdiikheaaGreatWa35
namespace Go.Kx
open Go Go.RowKit Go.Proofs
open Tryz
set_option maxRecDepth 10000
set_option maxHeartbeats 8000000
set_option linter.unusedVariables false
set_option linter.unusedSimpArgs false
theorem Ec {w0 N am R r} (h:rW N am R=some r) {p M q} (O:M=am.length) (n:rb w0 p q am) :
    g8 prog 272 #[vS p M q,vI R] w0 (fun v w=>∃ V W,v=.tuple #[vS V r.1.length W,.bool r.2]∧St w0 [] w [sl V W r.1]):=by
 subst O;unfold rW at h;refine g8.fn func272 fun e=>?_;have a9:=St.start w0;refine T ?_;intro U bg h an g bO ar;obtain ⟨aY,av,aB⟩:=ob h;refine CW.jn [0,1,6] [0] [(20,.bool aY)] ar (h1:=?_) (h2:=?_)
 · have h:=av;refine T ?_;intro bQ bi h bP ba;refine bH h ?_ ?_<;>intro _ h
   · exact rt
   exact rt
 intro e bq au;have h:=aB;refine gc h ?_ ?_<;>intro _ h
 · exact rt
 refine gb h fun X aj h=>?_;obtain ⟨a0,bj,ay,rfl,aH,aN,aS,rfl,aK⟩:=n.idx aj;refine go ?_;refine T ?_;obtain ⟨L,ad,ao⟩:=ob h;refine CW.cut (fun e wb=>∃ (f:Nat),En e [(1,vI R),(6,vS an U.length g),(7,vI X.Q4),(8,.pointer (some ⟨f,0,none⟩))]∧St w0 [] wb [sl an g U,bx f 48 [vI L.1,vI L.2.1,vI L.2.2]]) ?_ ?_
 · have h:=ad;refine dW ?_;have bb:=au.drew;refine gb h fun bG ak h=>?_;obtain ⟨a1,bk,az,hae,aI,aO,aT,ab,aL⟩:=n.idx ak;cases hae;obtain rfl:=ab;refine go ?_;refine T ?_;refine go ?_;refine T ?_;have ⟨bI,aX,h⟩:=ob h;refine AW.all (rs:=[10,14]) (by kernel_rfl) (by simp) ⟨?_,?_,trivial⟩
   · refine oA ?_;refine T ?_;intro br bc a7 bs bd bt be;exact rt
   refine oA ?_;refine T ?_;intro a8 bu bf;refine jP 10 ?_;refine T ?_;intro bv aC bw aD;exact rt
 rintro e bz ⟨f,hE,x⟩;obtain ⟨e,rfl⟩:=hE.out;have h:=ao;refine gb h fun bJ C h=>?_;obtain ⟨b,d,hae,aP,aU⟩:=x.iu (α:=g6) (i:=0) rfl C;subst hae;refine go ?_;refine gb h fun bK m h=>?_;refine LW.se 2 x 0 C m (hM:=(kR (fun w cs F hF=>by obtain ⟨rfl,rfl⟩:=hF;exact ⟨rfl,rfl⟩))) fun bA z=>?_;refine jX [] #[.bool false,vI 0,vI 0,vI 0,vI 0] ?_;have ⟨bL,G,h⟩:=ob h;obtain ⟨a3,bl,hae,ah,ai⟩:=z.iu (α:=g6) (i:=0) rfl G;cases hae;(try refine LW.u (iM.ix underlying40 Mt rfl rfl ah (by rw [iv (oi m)];exact ai)) rfl ?_);have ⟨Y,H,h⟩:=ob h;refine LW.se 0 z 0 G H (hM:=xn) fun bB Z=>?_;refine go ?_;obtain ⟨bp,af,aq⟩:=ob h;refine CW.ie af 0 (fun j e wb=>En e [(1,vI R),(6,vS (some ⟨b,d,none⟩) j.1.length g),(7,vI X.Q4),(10,vI j.2)]∧St w0 [] wb [sl (some ⟨b,d,none⟩) g j.1]) ?_ ⟨⟨rfl,(show (vS (some ⟨b,d,none⟩) U.length g:Value)=vS (some ⟨b,d,none⟩) Y.length g by rw [show U.length=Y.length from ((iv (oi m)).trans (iv (oi H)))]),rfl,rfl,trivial⟩,Z.pk [0]⟩ ?_
 · intro j e bC o hM h;obtain ⟨e,rfl,k⟩:=eo hM;refine kS [1,6,7,10,53] fun e=>?_;refine gc h ?_ ?_<;>intro _ h
   · refine gs ?_;refine CW.block ?_;refine gs ?_;obtain ⟨aw,ae,ap⟩:=ob h;refine CW.jn [1,6,7,10] [0] [(69,.bool aw)] k (h1:=?_) (h2:=?_)
     · have h:=ae;refine gb h fun bM I h=>?_;obtain ⟨a4,bm,hae,aQ,aV⟩:=k.iu (α:=g6) (i:=0) rfl I;cases hae;refine go ?_;obtain ⟨aZ,l,A⟩:=k.freeze (α:=g6) 0 rfl;obtain ⟨a5,bn,aA,hae,aJ,_,_,ac,aM⟩:=l.j5.idx I;cases hae;obtain rfl:=ac;refine T ?_;refine bH h ?_ ?_<;>intro _ h
       · refine go ?_;refine T ?_;have aE:=A.iJ (α:=g6) 0 rfl l;exact rt
       refine go ?_;have aF:=A.iJ (α:=g6) 0 rfl l;exact rt
     intro e bD B;have h:=ap;refine gc h ?_ ?_<;>intro _ h
     · refine gb h fun bN J h=>?_;obtain ⟨a6,bo,hae,aR,aW⟩:=B.iu (α:=g6) (i:=0) rfl J;cases hae;refine go ?_;refine gb h fun ax K h=>?_;refine LW.se 1 B 0 J K (hM:=(kR (fun w cs F hF=>by obtain ⟨rfl,rfl⟩:=hF;exact ⟨rfl,rfl⟩))) fun bE aa=>?_;refine go ?_;replace h:=oi h;subst h;exact ⟨rfl,⟨⟨rfl,(show (vS (some ⟨b,d,none⟩) j.1.length g:Value)=vS (some ⟨b,d,none⟩) ax.length g by rw [iv (oi K)]),rfl,rfl,trivial⟩,aa.pk [0]⟩⟩
     exact rt
   exact rt
 rintro e bF ⟨hE,aG⟩;obtain ⟨e,rfl⟩:=hE.out;have h:=aq;exact rt
instance k_272:Ct prog 272:=⟨by kernel_rfl,@Ec⟩
theorem Dj {w0 N C r} (h:oY N C=some r) {I R J} (W:R=C.parts.length) (X:rb w0 I J C.parts) :
    g8 prog 74 #[.agg #[vI C.Q1,vS I R J]] w0 (fun v w=>∃ K O,v=.agg #[vI r.Q1,vS K r.parts.length O]∧St w0 [] w [sl K O r.parts]):=by
 subst W;unfold oY at h;refine g8.fn func74 fun e=>?_;have aV:=St.start w0;refine T ?_;intro bc be aW U bf aX;refine LW.bd [(0,vI C.Q1)] #[vI C.Q1,vS none 0 0] ?_;refine T ?_;intro V bg aY bi ay;refine go ?_;have az:=ay.nil (α:=cd);obtain ⟨a2,au,ax⟩:=ob h;refine CW.ie au 0 (fun H e wb=>∃ (d:Ad) (f:Nat),En e [(2,.pointer (some ⟨U,0,none⟩)),(3,.pointer (some ⟨V,0,none⟩)),(10,vS I C.parts.length J),(11,vI (C.parts.length:Int)),(12,vI H.1)]∧St w0 [] wb [bx V 26 [vI C.Q1,vS d H.2.length f],bx U 26 [vI 0,vS none 0 0],sl d f H.2]) ?_ ⟨none,0,az.po [1,2,0]⟩ ?_
 · intro H e bj o hM h;obtain ⟨d,f,hE,aZ⟩:=hM;obtain ⟨e,rfl⟩:=hE.out;refine gc h ?_ ?_<;>intro _ h
   · refine gb h fun ao av h=>?_;obtain ⟨aT,a1,aB,rfl,aH,aJ,aK,⟨Y,ae,Z,af,aa,ah,ab,ai,ac,aj,ad,ak,rfl,aL,aM,aN,aO,aP,aQ⟩,aI⟩:=X.idx av;refine go ?_;refine T ?_;intro am a3 a0 a4 aA;refine dW ?_;have aC:=aA.drew;refine T ?_;intro b aR h g q k u l x m z n A p B a5 ap;refine LW.OT (vs:=#[vS g b.QQ.so.length q,vS k b.own.length u,vS l b.QR.length x,vS m b.heap.ag.length z,vI b.heap.gc.QS,vI b.heap.gc.Q0,vI b.heap.gc.QT,vS n b.heap.gc.gQ.length A,vS p b.gR.length B,vI b.QZ,vI b.QY,vI b.gP.bh,vI b.gP.gS,vI b.gP.gW,vI b.hY,vI b.QX]) Fj rfl (by kernel_rfl) ap rfl ?_;intro an a6 aq hf;refine T ?_;have ar:=aq.pk (M:=[sl g q b.QQ.so,sl k u b.own,sl l x b.QR,sl m z b.heap.ag,sl n A b.heap.gc.gQ,sl p B b.gR]++[bx an 50 (qP g q k u l x m z n A p B b),bx am 50 (qP Y ae Z af aa ah ab ai ac aj ad ak ao),bx V 26 [vI C.Q1,vS d H.2.length f],bx U 26 [vI 0,vS none 0 0],sl d f H.2]) [1,2,3,4,5,6,0,7,8,9,10];have ⟨bb,aw,h⟩:=ob h;refine T ?_;refine LW.Ea (M:=[sl g q b.QQ.so,sl k u b.own,sl l x b.QR,sl m z b.heap.ag,sl n A b.heap.gc.gQ,sl p B b.gR]) (L:=[bx an 50 (qP g q k u l x m z n A p B b),bx am 50 (qP Y ae Z af aa ah ab ai ac aj ad ak ao),bx V 26 [vI C.Q1,vS d H.2.length f],bx U 26 [vI 0,vS none 0 0],sl d f H.2]) (vs:=(qP g q k u l x m z n A p B b)) (i:=4) (j:=0) Fj rfl rfl aw ar rfl rfl (fun w G hG=>⟨g,q,k,u,l,x,m,z,n,A,p,B,rfl,hG⟩) rfl ?_
     intro aS aU a7 aD hf;refine T ?_;intro a8 aE;exact rt
   exact rt
 rintro e a9 ⟨d,f,hE,aF⟩;obtain ⟨e,rfl⟩:=hE.out;have h:=ax;refine T ?_;intro ba aG;exact rt
instance k_74:Ct prog 74:=⟨by kernel_rfl,@Dj⟩
theorem It {w0 N d r} (h:sH N d=some r) {f m i} (q:m=d.ag.length) (ac:rb w0 f i d.ag) {g n j} (z:n=d.gc.gQ.length) (b:rb w0 g j d.gc.gQ) :
    g8 prog 227 #[.agg #[vS f m i,vI d.gc.QS,vI d.gc.Q0,vI d.gc.QT,vS g n j]] w0 (fun v w=>v=.bool r∧St w0 [] w []):=by
 subst q z;unfold sH at h;refine g8.fn func227 fun e=>?_;have ax:=St.start w0;refine T ?_;intro aY aZ R;refine go ?_;obtain ⟨B,K,A⟩:=ob h;refine CW.mono (CW.lx [1,9,10] [0] [1] 0 (fun ab=>[(11,vI ab)]) (RT prog f227.results (fun u=>.bool u) w0 []) R K (hb:=?_)) ?_
 · intro ab e a0 o U h;refine gc h ?_ ?_<;>intro _ h
   · refine gb h fun a1 X h=>?_;obtain ⟨aX,aE,ad,rfl,aj,aC,aD,rfl,ak⟩:=b.idx X;refine go ?_;refine T ?_;obtain ⟨Y,H,L⟩:=ob h;refine CW.jn [1,9,10,11] [0] [(27,.bool Y)] U (h1:=?_) (h2:=?_)
     · have h:=H;refine T ?_;intro aQ an h aG ay;refine bH h ?_ ?_<;>intro _ h
       · exact rt
       refine gb h fun aR k h=>?_;obtain ⟨av,aw,C,G,am⟩:=iV.wy b k;have p:=(b).le;refine go ?_;refine LW.u (iM.sub (α:=Int) (l:=d.gc.gQ) underlying37 Ee rfl xA (xy rfl) k p C G) rfl ?_;refine go ?_;refine T ?_;intro aS ao h aH az;exact rt
     intro e aI aA;have h:=L;refine kS [1,9,10,11,27] fun e=>?_;refine gc h ?_ ?_<;>intro _ h
     · exact rt
     exact rt
   exact rt
 intro x e aJ hM;rcases B with B | aF
 · obtain ⟨rfl,hM⟩:=hM;obtain ⟨e,rfl,V⟩:=eo hM;have h:=A;refine gs ?_;obtain ⟨Z,I,M⟩:=ob h;refine CW.jn [1] [0] [(5,.bool Z)] V (h1:=?_) (h2:=?_)
   · have h:=I;refine gB h ?_ ?_<;>intro _ h
     · exact rt
     exact rt
   intro e aK W;have h:=M;refine gs ?_;obtain ⟨aa,J,O⟩:=ob h;refine CW.jn [1,5] [0] [(6,.bool aa)] W (h1:=?_) (h2:=?_)
   · have h:=J;refine gB h ?_ ?_<;>intro _ h
     · refine T ?_;intro aT ap h aL aB;refine bH h ?_ ?_<;>intro _ h
       · exact rt
       exact rt
     exact rt
   intro e aM ae;have h:=O;refine T ?_;intro aU aq h aN af;refine bH h ?_ ?_<;>intro _ h
   · refine gB h ?_ ?_<;>intro _ h
     · refine T ?_;intro aV ar h aO ah;exact rt
     refine gB h ?_ ?_<;>intro _ h
     · refine T ?_;intro aW au h aP ai;exact rt
     exact rt
   exact rt
 obtain ⟨rfl,u,rfl,hM⟩:=hM;cases A;exact And.intro trivial hM
instance k_227:Ct prog 227:=⟨by kernel_rfl,@It⟩
theorem F9 {w0 N i r} (h:re N i=some r) {d g f} (j:g=i.length) (k:rb w0 d f i) :
    g8 prog 245 #[vS d g f] w0 (fun v w=>v=.agg #[vI r.bh,vI r.gS,vI r.gW]∧St w0 [] w []):=by
 subst j;unfold re at h;refine g8.fn func245 fun e=>?_;have O:=St.start w0;refine T ?_;intro n ao R;refine LW.bd [] #[vI 0,vI 0,vI 0] ?_;refine T ?_;intro p ap U aq V av aa h ar u;refine gc h ?_ ?_<;>intro _ h
 · refine T ?_;intro au W;exact rt
 refine go ?_;obtain ⟨ac,l,q⟩:=ob h;refine CW.ie l 0 (fun b e wb=>En e [(2,.pointer (some ⟨n,0,none⟩)),(3,.pointer (some ⟨p,0,none⟩)),(11,vS d i.length f),(12,vI (i.length:Int)),(13,vI b.1)]∧St w0 [] wb [bx p 48 [vI b.2.1,vI b.2.2.1,vI b.2.2.2],bx n 48 [vI 0,vI 0,vI 0]]) ?_ (u.po [0,1]) ?_
 · intro b e ad o hM h;obtain ⟨e,rfl,X⟩:=eo hM;refine gc h ?_ ?_<;>intro _ h
   · refine gb h fun am m h=>?_;obtain ⟨L,ab,x,rfl,G,I,J,rfl,H⟩:=k.idx m;refine go ?_;refine T ?_;intro M ae Y af Z an K h ah z ai A;exact rt
   exact rt
 rintro e aj ⟨hE,B⟩;obtain ⟨e,rfl⟩:=hE.out;have h:=q;refine T ?_;intro ak C;exact rt
instance k_245:Ct prog 245:=⟨by kernel_rfl,@F9⟩
theorem L7 {w0 N b r} (h:wz N b=some r) {d C m} (L:C=b.QQ.so.length) (ad:rb w0 d m b.QQ.so) {f G n} (M:G=b.own.length) (ae:rb w0 f n b.own) {g H p} (O:H=b.QR.length) (af:rb w0 g p b.QR) {j I q} (R:I=b.heap.ag.length) (ah:rb w0 j q b.heap.ag) {k J u} (U:J=b.heap.gc.gQ.length) (ai:rb w0 k u b.heap.gc.gQ) {l K z} (V:K=b.gR.length) (aj:rb w0 l z b.gR) :
    g8 prog 246 #[.agg #[vS d C m,vS f G n,vS g H p,vS j I q,vI b.heap.gc.QS,vI b.heap.gc.Q0,vI b.heap.gc.QT,vS k J u,vS l K z,vI b.QZ,vI b.QY,vI b.gP.bh,vI b.gP.gS,vI b.gP.gW,vI b.hY,vI b.QX]] w0 (fun v w=>v=vI r∧St w0 [] w []):=by
 subst L M O R U V;unfold wz at h;refine g8.fn func246 fun e=>?_;have aC:=St.start w0;refine T ?_;intro aV aW aD aZ aI h aT aU aX ab;refine go ?_;obtain ⟨aO,Y,aa⟩:=ob h;refine CW.mono (CW.lb [7,8] [0] [3] 0 (fun Z=>[(3,vI Z.1),(9,vI Z.2)]) ab Y (hb:=?_)) ?_
 · intro Z e aY o W h;refine gc h ?_ ?_<;>intro _ h
   · refine gb h fun aS B h=>?_;obtain ⟨aw,aM,hae,ao,ap⟩:=W.iu (α:=qt) (i:=0) rfl B;subst hae;refine go ?_;obtain ⟨aq,A,aE⟩:=W.freeze (α:=qt) 0 rfl;obtain ⟨ax,aN,ak,hae,am,_,_,X,an⟩:=A.j5.idx B;cases hae;obtain ⟨ar,aJ,ay,au,aK,az,av,aL,aA,rfl⟩:=X;refine T ?_;intro aB aP aF aQ ac;have aG:=ac.iJ (α:=qt) 1 rfl A;exact rt
   exact rt
 intro x e aR hM;obtain ⟨rfl,hM⟩:=hM;obtain ⟨e,rfl,aH⟩:=eo hM;have h:=aa;exact rt
instance k_246:Ct prog 246:=⟨by kernel_rfl,@L7⟩
theorem FQ {w0 N H I x r} (h:rv N H I x=some r) {f o j} (q:o=H.length) (u:rb w0 f j H) :
    g8 prog 223 #[vS f o j,vI I,.agg #[vI x.bh,vI x.gS,vI x.gW]] w0 (fun v w=>∃ z A,v=.tuple #[vS z r.1.length A,.bool r.2]∧St w0 [] w [sl z A r.1]):=by
 subst q;unfold rv at h;refine g8.fn func223 fun e=>?_;have ap:=St.start w0;refine T ?_;intro aQ aR aq J ay h K k aS M;obtain ⟨ak,R,W⟩:=ob h;refine CW.jn [0,1,5,8] [0,1] [(21,.bool ak)] M (h1:=?_) (h2:=?_)
 · have h:=R;refine T ?_;intro aT az h aB ar;refine bH h ?_ ?_<;>intro _ h
   · exact rt
   refine T ?_;intro aM ai h aC au;exact rt
 intro e aD O;have h:=W;refine gc h ?_ ?_<;>intro _ h
 · exact rt
 refine gs ?_;obtain ⟨b,C,L⟩:=ob h;refine CW.cut (fun e wb=>∃ (d:Nat),En e [(1,vI I),(8,vS K J.length k),(9,.pointer (some ⟨d,0,none⟩)),(10,.bool b.2.2.2)]∧St w0 [] wb [sl K k J,bx d 48 [vI b.1,vI b.2.1,vI b.2.2.1]]) ?_ ?_
 · have h:=C;refine dW ?_;have av:=O.drew;refine gb h fun aN G h=>?_;obtain ⟨am,aA,V,rfl,ab,ad,af,rfl,ac⟩:=u.idx G;refine go ?_;refine T ?_;have ⟨aO,aj,h⟩:=ob h;refine AW.all (rs:=[6,10]) (by kernel_rfl) (by simp) ⟨?_,?_,trivial⟩
   · refine oA ?_;refine T ?_;intro aE aw an aF ax aG X;exact rt
   refine oA ?_;refine T ?_;intro ao aH Y;refine jP 6 ?_;refine T ?_;intro aI Z aJ aa;exact rt
 rintro e aK ⟨d,hE,l⟩;obtain ⟨e,rfl⟩:=hE.out;have h:=L;refine gb h fun aP m h=>?_;obtain ⟨g,p,hae,ae,ah⟩:=l.iu (α:=g6) (i:=0) rfl m;subst hae;refine go ?_;refine gb h fun U n h=>?_;refine LW.se 2 l 0 m n (hM:=(kR (fun w cs F hF=>by obtain ⟨rfl,rfl⟩:=hF;exact ⟨rfl,rfl⟩))) fun aL B=>?_;refine go ?_;replace h:=oi h;subst h;exact Rc tt tt ⟨(some ⟨g,p,none⟩),k,(show (.tuple #[vS (some ⟨g,p,none⟩) J.length k,.bool b.2.2.2]:Value)=.tuple #[vS (some ⟨g,p,none⟩) U.length k,.bool b.2.2.2] by rw [iv (oi n)]),B.pk [0]⟩
instance k_223:Ct prog 223:=⟨by kernel_rfl,@FQ⟩
theorem KZ {w0 N Y ai r} (h:uG N Y ai=some r) {p X q} (ac:X=Y.length) (af:rb w0 p q Y) :
    g8 prog 228 #[vS p X q,vI ai] w0 (fun v w=>∃ ak an,v=vS ak r.length an∧St w0 [] w [sl ak an r]):=by
 subst ac;unfold uG at h;refine g8.fn func228 fun e=>?_;have b6:=St.start w0;refine T ?_;intro cw b8 h cu ao;refine gc h ?_ ?_<;>intro _ h
 · refine go ?_;cases h;have aR:=ao.nil (α:=Bool);exact Ra ⟨none,0,rfl,aR.pk [0]⟩
 refine gb h fun bQ aW h=>?_;refine LW.mk Oq rfl rfl aW ao rfl ?_;intro ct x cv ap hf;refine gb h fun cx ar h=>?_;obtain ⟨b,d,hae,b7,bt⟩:=ap.iu (α:=Bool) (i:=0) rfl ar;subst hae;refine go ?_;have ⟨aZ,O,h⟩:=ob h;refine LW.se 0 ap 0 ar O (hM:=xn) fun ci aS=>?_;refine go ?_;refine LW.bi [0] aS ?_;intro aM aO cj aT hf;refine go ?_;obtain ⟨bI,ae,ax⟩:=ob h;refine CW.ie ae 0 (fun n e wb=>∃ (k:Ad) (m:Nat),En e [(0,vS p Y.length q),(1,vI ai),(5,vS (some ⟨b,d,none⟩) n.1.length x),(6,vS k n.2.length m)]∧St w0 [] wb [sl k m n.2,sl (some ⟨b,d,none⟩) x n.1]) ?_ ⟨aM,aO,⟨rfl,rfl,(show (vS (some ⟨b,d,none⟩) bQ.length x:Value)=vS (some ⟨b,d,none⟩) aZ.length x by rw [iv (oi O)]),rfl,trivial⟩,aT.pk [0,1]⟩ ?_
 · intro n e ck o hM h;obtain ⟨k,m,hE,aq⟩:=hM;obtain ⟨e,rfl⟩:=hE.out;refine kS [0,1,5,6,19] fun e=>?_;refine gc h ?_ ?_<;>intro _ h
   · refine gb h fun co R h=>?_;obtain ⟨bW,b9,hae,bp,bu⟩:=aq.iu (α:=Int) (i:=0) rfl R;subst hae;refine go ?_;obtain ⟨bR,K,aU⟩:=aq.freeze (α:=Int) 0 rfl;obtain ⟨bX,ca,a4,hae,bf,_,_,aE,bl⟩:=K.j5.idx R;cases hae;obtain rfl:=aE;refine T ?_;have aV:=aU.iJ (α:=Int) 0 rfl K;have ⟨cp,U,h⟩:=ob h;obtain ⟨ab,aN,aP,aH,aI,a9⟩:=aV.wy (α:=Int) 0 rfl U;refine LW.u (iM.sub (α:=Int) (l:=n.2) underlying37 Ee rfl (xy rfl) xA U ab aH aI) rfl ?_;refine T ?_;intro aa bD h aj am cl ay;refine go ?_;obtain ⟨bG,ad,aw⟩:=ob h;refine CW.ie ad 2 (fun j e wb=>∃ (f:Ad) (g:Nat),En e [(0,vS p Y.length q),(1,vI ai),(5,vS (some ⟨b,d,none⟩) j.1.length x),(6,vS f j.2.1.length g),(27,vS aj aa.length am),(28,vI (aa.length:Int)),(29,vI j.2.2)]∧St w0 [] wb [sl aj am aa,sl f g j.2.1,sl (some ⟨b,d,none⟩) x j.1]) ?_ ⟨aN,aP,ay.po [0,1,2]⟩ ?_
     · intro j e aY o hM h;obtain ⟨f,g,hE,J⟩:=hM;obtain ⟨e,rfl⟩:=hE.out;refine kS [0,1,5,6,27,28,29,30] fun e=>?_;refine gc h ?_ ?_<;>intro _ h
       · refine gb h fun a0 V h=>?_;obtain ⟨bY,cb,hae,bq,bv⟩:=J.iu (α:=Int) (i:=0) rfl V;subst hae;refine go ?_;obtain ⟨aL,B,z⟩:=J.freeze (α:=Int) 0 rfl;obtain ⟨bZ,cc,a6,hae,bg,_,_,aF,bm⟩:=B.j5.idx V;cases hae;obtain rfl:=aF;refine T ?_;obtain ⟨aX,aJ,aQ⟩:=ob h;refine CW.jn [0,1,5,6,9,27,28,29] [0,1,2] [(46,.bool aX)] z (h1:=?_) (h2:=?_)
         · have h:=aJ;refine gb h fun cq W h=>?_;obtain ⟨b0,ce,hae,br,bw⟩:=z.iu (α:=Bool) (i:=2) rfl W;cases hae;refine go ?_;obtain ⟨bS,C,az⟩:=z.freeze (α:=Bool) 2 rfl;obtain ⟨b1,cf,a7,hae,bj,_,_,aG,bn⟩:=C.j5.idx W;cases hae;obtain rfl:=aG;refine T ?_;refine bH h ?_ ?_<;>intro _ h
           · refine gb h fun cr aK h=>?_;obtain ⟨b2,cg,a8,rfl,bk,bs,bz,⟨bT,b3,bU,b4,bV,b5,rfl,bA,bB,bC⟩,bo⟩:=af.idx aK;refine go ?_;refine T ?_;intro cs bE h cm aA;have ba:=aA.iJ (α:=Bool) 2 rfl C;exact rt
           refine go ?_;have bb:=az.iJ (α:=Bool) 2 rfl C;exact rt
         intro e cn A;have h:=aQ;refine gc h ?_ ?_<;>intro _ h
         · refine gb h fun bO H h=>?_;obtain ⟨a3,bF,hae,a1,a2⟩:=A.iu (α:=Bool) (i:=2) rfl H;cases hae;refine go ?_;have ⟨Z,I,h⟩:=ob h;refine LW.se 0 A 2 H I (hM:=xn) fun bK aB=>?_;refine gb h fun bP ah h=>?_;refine LW.kX (M:=[]) (L:=[fz aY aL,sl f g j.2.1,sl (some ⟨b,d,none⟩) x Z]) (vs:=#[vI a0]) (i:=1) oL rfl (by kernel_rfl) rfl rfl ah aB rfl (fun w G hG=>by cases (show G=[] from hG);exact ⟨rfl,rfl⟩) rfl rfl ?_;intro bJ au av bL aC hf;refine go ?_;replace h:=oi h;subst h;have aD:=aC.iJ (α:=Int) 0 rfl B;exact ⟨rfl,⟨au,av,⟨rfl,rfl,(show (vS (some ⟨b,d,none⟩) j.1.length x:Value)=vS (some ⟨b,d,none⟩) Z.length x by rw [iv (oi I)]),rfl,rfl,rfl,rfl,trivial⟩,aD.pk [0,1,2]⟩⟩
         refine go ?_;have bc:=A.iJ (α:=Int) 0 rfl B;exact rt
       exact rt
     rintro e bM ⟨f,g,hE,bd⟩;obtain ⟨e,rfl⟩:=hE.out;have h:=aw;exact rt
   exact rt
 rintro e bN ⟨k,m,hE,be⟩;obtain ⟨e,rfl⟩:=hE.out;have h:=ax;exact rt
instance k_228:Ct prog 228:=⟨by kernel_rfl,@KZ⟩
theorem K2 {w0 N b R r} (h:uw N b R=some r) {d u l} (G:u=b.QQ.so.length) (U:rb w0 d l b.QQ.so) {f x m} (H:x=b.own.length) (V:rb w0 f m b.own) {g z n} (I:z=b.QR.length) (W:rb w0 g n b.QR) {i A o} (J:A=b.heap.ag.length) (X:rb w0 i o b.heap.ag) {j B p} (K:B=b.heap.gc.gQ.length) (Y:rb w0 j p b.heap.gc.gQ) {k C q} (L:C=b.gR.length) (Z:rb w0 k q b.gR) :
    g8 prog 224 #[.agg #[vS d u l,vS f x m,vS g z n,vS i A o,vI b.heap.gc.QS,vI b.heap.gc.Q0,vI b.heap.gc.QT,vS j B p,vS k C q,vI b.QZ,vI b.QY,vI b.gP.bh,vI b.gP.gS,vI b.gP.gW,vI b.hY,vI b.QX],vI R] w0 (fun v w=>v=vI r∧St w0 [] w []):=by
 subst G H I J K L;unfold uw at h;refine g8.fn func224 fun e=>?_;have ac:=St.start w0;refine T ?_;intro ak am M;obtain ⟨ab,O,aa⟩:=ob h;refine CW.jn [1] [] [(15,.bool ab)] M (h1:=?_) (h2:=?_)
 · have h:=O;refine T ?_;intro ap ah h an ad;refine bH h ?_ ?_<;>intro _ h
   · exact rt
   refine T ?_;intro aq ai h ao ae;exact rt
 intro e aj af;have h:=aa;refine gc h ?_ ?_<;>intro _ h
 · exact rt
 exact rt
instance k_224:Ct prog 224:=⟨by kernel_rfl,@K2⟩
end Go.Kx
