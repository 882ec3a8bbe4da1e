import Derived.Test.YtdlodpchnaojhaaGreatWa7
namespace Go.Kx
open Go Go.RowKit Go.Proofs
open Go.IntKind (i64)
open Tryz
set_option maxRecDepth 10000
set_option maxHeartbeats 8000000
set_option linter.unusedVariables false
set_option linter.unusedSimpArgs false
theorem Dg {w0 N am R r} (h:qG N am R=some r) {p M q} (O:M=am.length) (n:rb w0 p q am) :
    gV prog 252 #[vS p M q,vI R] w0 (fun v w=>∃ V W,v=.tuple #[vS V r.1.length W,.bool r.2]∧St w0 [] w [sl V W r.1]):=by
 subst O;unfold qG at h;refine gV.fn func252 fun e=>?_;have a9:=St.start w0;refine T ?_;intro U bg h an g bO ar;obtain ⟨aY,av,aB⟩:=ob h;refine CW.jn [0,1,6] [0] [(20,.bool aY)] ar (h1:=?_) (h2:=?_)
 · have h:=av;refine T ?_;intro bQ bi h bP ba;refine bH h ?_ ?_<;>intro _ h
   · exact rt
   exact rt
 intro e bq au;have h:=aB;refine gc h ?_ ?_<;>intro _ h
 · exact rt
 refine gb h fun X aj h=>?_;obtain ⟨a0,bj,ay,rfl,aH,aN,aS,rfl,aK⟩:=n.idx aj;refine go ?_;refine T ?_;obtain ⟨L,ad,ao⟩:=ob h;refine CW.cut (fun e wb=>∃ (f:Nat),En e [(1,vI R),(6,vS an U.length g),(7,vI X.Og),(8,.pointer (some ⟨f,0,none⟩))]∧St w0 [] wb [sl an g U,bx f 43 [vI L.1,vI L.2.1,vI L.2.2]]) ?_ ?_
 · have h:=ad;refine dW ?_;have bb:=au.drew;refine gb h fun bG ak h=>?_;obtain ⟨a1,bk,az,hae,aI,aO,aT,ab,aL⟩:=n.idx ak;cases hae;obtain rfl:=ab;refine go ?_;refine T ?_;refine go ?_;refine T ?_;have ⟨bI,aX,h⟩:=ob h;refine AW.all (rs:=[10,14]) (by kernel_rfl) (by simp) ⟨?_,?_,trivial⟩
   · refine oA ?_;refine T ?_;intro br bc a7 bs bd bt be;exact rt
   refine oA ?_;refine T ?_;intro a8 bu bf;refine jP 10 ?_;refine T ?_;intro bv aC bw aD;exact rt
 rintro e bz ⟨f,hE,x⟩;obtain ⟨e,rfl⟩:=hE.out;have h:=ao;refine gb h fun bJ C h=>?_;obtain ⟨b,d,hae,aP,aU⟩:=x.hZ (α:=g7) (i:=0) rfl C;subst hae;refine go ?_;refine gb h fun bK m h=>?_;refine LW.se 2 x 0 C m (hM:=(je (fun w cs F hF=>by obtain ⟨rfl,rfl⟩:=hF;exact ⟨rfl,rfl⟩))) fun bA z=>?_;refine jj [] #[.bool false,vI 0,vI 0,vI 0,vI 0] ?_;have ⟨bL,G,h⟩:=ob h;obtain ⟨a3,bl,hae,ah,ai⟩:=z.hZ (α:=g7) (i:=0) rfl G;cases hae;(try refine LW.u (iq.ix underlying35 GN rfl rfl ah (by rw [gZ (oi m)];exact ai)) rfl ?_);have ⟨Y,H,h⟩:=ob h;refine LW.se 0 z 0 G H (hM:=td) fun bB Z=>?_;refine go ?_;obtain ⟨bp,af,aq⟩:=ob h;refine CW.ie af 0 (fun j e wb=>En e [(1,vI R),(6,vS (some ⟨b,d,none⟩) j.1.length g),(7,vI X.Og),(10,vI j.2)]∧St w0 [] wb [sl (some ⟨b,d,none⟩) g j.1]) ?_ ⟨⟨rfl,(show (vS (some ⟨b,d,none⟩) U.length g:Value)=vS (some ⟨b,d,none⟩) Y.length g by rw [show U.length=Y.length from ((gZ (oi m)).trans (gZ (oi H)))]),rfl,rfl,trivial⟩,Z.pk [0]⟩ ?_
 · intro j e bC o hM h;obtain ⟨e,rfl,k⟩:=eo hM;refine jE [1,6,7,10,53] fun e=>?_;refine gc h ?_ ?_<;>intro _ h
   · refine gs ?_;refine CW.block ?_;refine gs ?_;obtain ⟨aw,ae,ap⟩:=ob h;refine CW.jn [1,6,7,10] [0] [(69,.bool aw)] k (h1:=?_) (h2:=?_)
     · have h:=ae;refine gb h fun bM I h=>?_;obtain ⟨a4,bm,hae,aQ,aV⟩:=k.hZ (α:=g7) (i:=0) rfl I;cases hae;refine go ?_;obtain ⟨aZ,l,A⟩:=k.freeze (α:=g7) 0 rfl;obtain ⟨a5,bn,aA,hae,aJ,_,_,ac,aM⟩:=l.jk.idx I;cases hae;obtain rfl:=ac;refine T ?_;refine bH h ?_ ?_<;>intro _ h
       · refine go ?_;refine T ?_;have aE:=A.iz (α:=g7) 0 rfl l;exact rt
       refine go ?_;have aF:=A.iz (α:=g7) 0 rfl l;exact rt
     intro e bD B;have h:=ap;refine gc h ?_ ?_<;>intro _ h
     · refine gb h fun bN J h=>?_;obtain ⟨a6,bo,hae,aR,aW⟩:=B.hZ (α:=g7) (i:=0) rfl J;cases hae;refine go ?_;refine gb h fun ax K h=>?_;refine LW.se 1 B 0 J K (hM:=(je (fun w cs F hF=>by obtain ⟨rfl,rfl⟩:=hF;exact ⟨rfl,rfl⟩))) fun bE aa=>?_;refine go ?_;replace h:=oi h;subst h;exact ⟨rfl,⟨⟨rfl,(show (vS (some ⟨b,d,none⟩) j.1.length g:Value)=vS (some ⟨b,d,none⟩) ax.length g by rw [gZ (oi K)]),rfl,rfl,trivial⟩,aa.pk [0]⟩⟩
     exact rt
   exact rt
 rintro e bF ⟨hE,aG⟩;obtain ⟨e,rfl⟩:=hE.out;have h:=aq;exact rt
instance k_252:Ct prog 252:=⟨by kernel_rfl,@Dg⟩
theorem Ge {w0 N d r} (h:oq N d=some r) {f m i} (q:m=d.ag.length) (ac:rb w0 f i d.ag) {g n j} (z:n=d.gc.gQ.length) (b:rb w0 g j d.gc.gQ) :
    gV prog 202 #[.agg #[vS f m i,vI d.gc.N2,vI d.gc.Oa,vI d.gc.N3,vS g n j]] w0 (fun v w=>v=.bool r∧St w0 [] w []):=by
 subst q z;unfold oq at h;refine gV.fn func202 fun e=>?_;have ax:=St.start w0;refine T ?_;intro aY aZ R;refine go ?_;obtain ⟨B,K,A⟩:=ob h;refine CW.mono (CW.lx [1,9,10] [0] [1] 0 (fun ab=>[(11,vI ab)]) (RT prog f202.results (fun u=>.bool u) w0 []) R K (hb:=?_)) ?_
 · intro ab e a0 o U h;refine gc h ?_ ?_<;>intro _ h
   · refine gb h fun a1 X h=>?_;obtain ⟨aX,aE,ad,rfl,aj,aC,aD,rfl,ak⟩:=b.idx X;refine go ?_;refine T ?_;obtain ⟨Y,H,L⟩:=ob h;refine CW.jn [1,9,10,11] [0] [(27,.bool Y)] U (h1:=?_) (h2:=?_)
     · have h:=H;refine T ?_;intro aQ an h aG ay;refine bH h ?_ ?_<;>intro _ h
       · exact rt
       refine gb h fun aR k h=>?_;obtain ⟨av,aw,C,G,am⟩:=iM.uL b k;have p:=(b).le;refine go ?_;refine LW.u (iq.sub (α:=Int) (l:=d.gc.gQ) underlying32 FJ rfl uO (uN rfl) k p C G) rfl ?_;refine go ?_;refine T ?_;intro aS ao h aH az;exact rt
     intro e aI aA;have h:=L;refine jE [1,9,10,11,27] fun e=>?_;refine gc h ?_ ?_<;>intro _ h
     · exact rt
     exact rt
   exact rt
 intro x e aJ hM;rcases B with B | aF
 · obtain ⟨rfl,hM⟩:=hM;obtain ⟨e,rfl,V⟩:=eo hM;have h:=A;refine gs ?_;obtain ⟨Z,I,M⟩:=ob h;refine CW.jn [1] [0] [(5,.bool Z)] V (h1:=?_) (h2:=?_)
   · have h:=I;refine gB h ?_ ?_<;>intro _ h
     · exact rt
     exact rt
   intro e aK W;have h:=M;refine gs ?_;obtain ⟨aa,J,O⟩:=ob h;refine CW.jn [1,5] [0] [(6,.bool aa)] W (h1:=?_) (h2:=?_)
   · have h:=J;refine gB h ?_ ?_<;>intro _ h
     · refine T ?_;intro aT ap h aL aB;refine bH h ?_ ?_<;>intro _ h
       · exact rt
       exact rt
     exact rt
   intro e aM ae;have h:=O;refine T ?_;intro aU aq h aN af;refine bH h ?_ ?_<;>intro _ h
   · refine gB h ?_ ?_<;>intro _ h
     · refine T ?_;intro aV ar h aO ah;exact rt
     refine gB h ?_ ?_<;>intro _ h
     · refine T ?_;intro aW au h aP ai;exact rt
     exact rt
   exact rt
 obtain ⟨rfl,u,rfl,hM⟩:=hM;cases A;exact And.intro trivial hM
instance k_202:Ct prog 202:=⟨by kernel_rfl,@Ge⟩
theorem Cv {w0 N C r} (h:lq N C=some r) {I R J} (W:R=C.parts.length) (X:rb w0 I J C.parts) :
    gV prog 51 #[.agg #[vI C.Oc,vS I R J]] w0 (fun v w=>∃ K O,v=.agg #[vI r.Oc,vS K r.parts.length O]∧St w0 [] w [sl K O r.parts]):=by
 subst W;unfold lq at h;refine gV.fn func51 fun e=>?_;have aV:=St.start w0;refine T ?_;intro bc be aW U bf aX;refine LW.bd [(0,vI C.Oc)] #[vI C.Oc,vS none 0 0] ?_;refine T ?_;intro V bg aY bi ay;refine go ?_;have az:=ay.nil (α:=cd);obtain ⟨a2,au,ax⟩:=ob h;refine CW.ie au 0 (fun H e wb=>∃ (d:Ad) (f:Nat),En e [(2,.pointer (some ⟨U,0,none⟩)),(3,.pointer (some ⟨V,0,none⟩)),(10,vS I C.parts.length J),(11,vI (C.parts.length:Int)),(12,vI H.1)]∧St w0 [] wb [bx V 26 [vI C.Oc,vS d H.2.length f],bx U 26 [vI 0,vS none 0 0],sl d f H.2]) ?_ ⟨none,0,az.po [1,2,0]⟩ ?_
 · intro H e bj o hM h;obtain ⟨d,f,hE,aZ⟩:=hM;obtain ⟨e,rfl⟩:=hE.out;refine gc h ?_ ?_<;>intro _ h
   · refine gb h fun ao av h=>?_;obtain ⟨aT,a1,aB,rfl,aH,aJ,aK,⟨Y,ae,Z,af,aa,ah,ab,ai,ac,aj,ad,ak,rfl,aL,aM,aN,aO,aP,aQ⟩,aI⟩:=X.idx av;refine go ?_;refine T ?_;intro am a3 a0 a4 aA;refine dW ?_;have aC:=aA.drew;refine T ?_;intro b aR h g q k u l x m z n A p B a5 ap;refine LW.LX (vs:=#[vS g b.NZ.NY.length q,vS k b.own.length u,vS l b.N1.length x,vS m b.py.ag.length z,vI b.py.gc.N2,vI b.py.gc.Oa,vI b.py.gc.N3,vS n b.py.gc.gQ.length A,vS p b.gR.length B,vI b.N6,vI b.N7,vI b.bh.gE,vI b.bh.gT,vI b.bh.g8,vI b.gW,vI b.N5]) Bi rfl (by kernel_rfl) ap rfl ?_;intro an a6 aq hf;refine T ?_;have ar:=aq.pk (M:=[sl g q b.NZ.NY,sl k u b.own,sl l x b.N1,sl m z b.py.ag,sl n A b.py.gc.gQ,sl p B b.gR]++[bx an 45 (qP g q k u l x m z n A p B b),bx am 45 (qP Y ae Z af aa ah ab ai ac aj ad ak ao),bx V 26 [vI C.Oc,vS d H.2.length f],bx U 26 [vI 0,vS none 0 0],sl d f H.2]) [1,2,3,4,5,6,0,7,8,9,10];have ⟨bb,aw,h⟩:=ob h;refine T ?_;refine LW.CY (M:=[sl g q b.NZ.NY,sl k u b.own,sl l x b.N1,sl m z b.py.ag,sl n A b.py.gc.gQ,sl p B b.gR]) (L:=[bx an 45 (qP g q k u l x m z n A p B b),bx am 45 (qP Y ae Z af aa ah ab ai ac aj ad ak ao),bx V 26 [vI C.Oc,vS d H.2.length f],bx U 26 [vI 0,vS none 0 0],sl d f H.2]) (vs:=(qP g q k u l x m z n A p B b)) (i:=4) (j:=0) Bi rfl rfl aw ar rfl rfl (fun w G hG=>⟨g,q,k,u,l,x,m,z,n,A,p,B,rfl,hG⟩) rfl ?_
     intro aS aU a7 aD hf;refine T ?_;intro a8 aE;exact rt
   exact rt
 rintro e a9 ⟨d,f,hE,aF⟩;obtain ⟨e,rfl⟩:=hE.out;have h:=ax;refine T ?_;intro ba aG;exact rt
instance k_51:Ct prog 51:=⟨by kernel_rfl,@Cv⟩
theorem Eo {w0 N i r} (h:qj N i=some r) {d g f} (j:g=i.length) (k:rb w0 d f i) :
    gV prog 134 #[vS d g f] w0 (fun v w=>v=.agg #[vI r.gE,vI r.gT,vI r.g8]∧St w0 [] w []):=by
 subst j;unfold qj at h;refine gV.fn func134 fun e=>?_;have O:=St.start w0;refine T ?_;intro n ao R;refine LW.bd [] #[vI 0,vI 0,vI 0] ?_;refine T ?_;intro p ap U aq V av aa h ar u;refine gc h ?_ ?_<;>intro _ h
 · refine T ?_;intro au W;exact rt
 refine go ?_;obtain ⟨ac,l,q⟩:=ob h;refine CW.ie l 0 (fun b e wb=>En e [(2,.pointer (some ⟨n,0,none⟩)),(3,.pointer (some ⟨p,0,none⟩)),(11,vS d i.length f),(12,vI (i.length:Int)),(13,vI b.1)]∧St w0 [] wb [bx p 43 [vI b.2.1,vI b.2.2.1,vI b.2.2.2],bx n 43 [vI 0,vI 0,vI 0]]) ?_ (u.po [0,1]) ?_
 · intro b e ad o hM h;obtain ⟨e,rfl,X⟩:=eo hM;refine gc h ?_ ?_<;>intro _ h
   · refine gb h fun am m h=>?_;obtain ⟨L,ab,x,rfl,G,I,J,rfl,H⟩:=k.idx m;refine go ?_;refine T ?_;intro M ae Y af Z an K h ah z ai A;exact rt
   exact rt
 rintro e aj ⟨hE,B⟩;obtain ⟨e,rfl⟩:=hE.out;have h:=q;refine T ?_;intro ak C;exact rt
instance k_134:Ct prog 134:=⟨by kernel_rfl,@Eo⟩
theorem JC {w0 N b r} (h:vj N b=some r) {d C m} (L:C=b.NZ.NY.length) (ad:rb w0 d m b.NZ.NY) {f G n} (M:G=b.own.length) (ae:rb w0 f n b.own) {g H p} (O:H=b.N1.length) (af:rb w0 g p b.N1) {j I q} (R:I=b.py.ag.length) (ah:rb w0 j q b.py.ag) {k J u} (U:J=b.py.gc.gQ.length) (ai:rb w0 k u b.py.gc.gQ) {l K z} (V:K=b.gR.length) (aj:rb w0 l z b.gR) :
    gV prog 135 #[.agg #[vS d C m,vS f G n,vS g H p,vS j I q,vI b.py.gc.N2,vI b.py.gc.Oa,vI b.py.gc.N3,vS k J u,vS l K z,vI b.N6,vI b.N7,vI b.bh.gE,vI b.bh.gT,vI b.bh.g8,vI b.gW,vI b.N5]] w0 (fun v w=>v=vI r∧St w0 [] w []):=by
 subst L M O R U V;unfold vj at h;refine gV.fn func135 fun e=>?_;have aC:=St.start w0;refine T ?_;intro aV aW aD aZ aI h aT aU aX ab;refine go ?_;obtain ⟨aO,Y,aa⟩:=ob h;refine CW.mono (CW.lb [7,8] [0] [3] 0 (fun Z=>[(3,vI Z.1),(9,vI Z.2)]) ab Y (hb:=?_)) ?_
 · intro Z e aY o W h;refine gc h ?_ ?_<;>intro _ h
   · refine gb h fun aS B h=>?_;obtain ⟨aw,aM,hae,ao,ap⟩:=W.hZ (α:=pF) (i:=0) rfl B;subst hae;refine go ?_;obtain ⟨aq,A,aE⟩:=W.freeze (α:=pF) 0 rfl;obtain ⟨ax,aN,ak,hae,am,_,_,X,an⟩:=A.jk.idx B;cases hae;obtain ⟨ar,aJ,ay,au,aK,az,av,aL,aA,rfl⟩:=X;refine T ?_;intro aB aP aF aQ ac;have aG:=ac.iz (α:=pF) 1 rfl A;exact rt
   exact rt
 intro x e aR hM;obtain ⟨rfl,hM⟩:=hM;obtain ⟨e,rfl,aH⟩:=eo hM;have h:=aa;exact rt
instance k_135:Ct prog 135:=⟨by kernel_rfl,@JC⟩
theorem Fb {w0 N H I x r} (h:mq N H I x=some r) {f o j} (q:o=H.length) (u:rb w0 f j H) :
    gV prog 123 #[vS f o j,vI I,.agg #[vI x.gE,vI x.gT,vI x.g8]] w0 (fun v w=>∃ z A,v=.tuple #[vS z r.1.length A,.bool r.2]∧St w0 [] w [sl z A r.1]):=by
 subst q;unfold mq at h;refine gV.fn func123 fun e=>?_;have ap:=St.start w0;refine T ?_;intro aQ aR aq J ay h K k aS M;obtain ⟨ak,R,W⟩:=ob h;refine CW.jn [0,1,5,8] [0,1] [(21,.bool ak)] M (h1:=?_) (h2:=?_)
 · have h:=R;refine T ?_;intro aT az h aB ar;refine bH h ?_ ?_<;>intro _ h
   · exact rt
   refine T ?_;intro aM ai h aC au;exact rt
 intro e aD O;have h:=W;refine gc h ?_ ?_<;>intro _ h
 · exact rt
 refine gs ?_;obtain ⟨b,C,L⟩:=ob h;refine CW.cut (fun e wb=>∃ (d:Nat),En e [(1,vI I),(8,vS K J.length k),(9,.pointer (some ⟨d,0,none⟩)),(10,.bool b.2.2.2)]∧St w0 [] wb [sl K k J,bx d 43 [vI b.1,vI b.2.1,vI b.2.2.1]]) ?_ ?_
 · have h:=C;refine dW ?_;have av:=O.drew;refine gb h fun aN G h=>?_;obtain ⟨am,aA,V,rfl,ab,ad,af,rfl,ac⟩:=u.idx G;refine go ?_;refine T ?_;have ⟨aO,aj,h⟩:=ob h;refine AW.all (rs:=[6,10]) (by kernel_rfl) (by simp) ⟨?_,?_,trivial⟩
   · refine oA ?_;refine T ?_;intro aE aw an aF ax aG X;exact rt
   refine oA ?_;refine T ?_;intro ao aH Y;refine jP 6 ?_;refine T ?_;intro aI Z aJ aa;exact rt
 rintro e aK ⟨d,hE,l⟩;obtain ⟨e,rfl⟩:=hE.out;have h:=L;refine gb h fun aP m h=>?_;obtain ⟨g,p,hae,ae,ah⟩:=l.hZ (α:=g7) (i:=0) rfl m;subst hae;refine go ?_;refine gb h fun U n h=>?_;refine LW.se 2 l 0 m n (hM:=(je (fun w cs F hF=>by obtain ⟨rfl,rfl⟩:=hF;exact ⟨rfl,rfl⟩))) fun aL B=>?_;refine go ?_;replace h:=oi h;subst h;exact Rc tt tt ⟨(some ⟨g,p,none⟩),k,(show (.tuple #[vS (some ⟨g,p,none⟩) J.length k,.bool b.2.2.2]:Value)=.tuple #[vS (some ⟨g,p,none⟩) U.length k,.bool b.2.2.2] by rw [gZ (oi n)]),B.pk [0]⟩
instance k_123:Ct prog 123:=⟨by kernel_rfl,@Fb⟩
theorem Hs {w0 N Y ai r} (h:sS N Y ai=some r) {p X q} (ac:X=Y.length) (af:rb w0 p q Y) :
    gV prog 206 #[vS p X q,vI ai] w0 (fun v w=>∃ ak an,v=vS ak r.length an∧St w0 [] w [sl ak an r]):=by
 subst ac;unfold sS at h;refine gV.fn func206 fun e=>?_;have b6:=St.start w0;refine T ?_;intro cw b8 h cu ao;refine gc h ?_ ?_<;>intro _ h
 · refine go ?_;cases h;have aR:=ao.nil (α:=Bool);exact Ra ⟨none,0,rfl,aR.pk [0]⟩
 refine gb h fun bQ aW h=>?_;refine LW.mk J1 rfl rfl aW ao rfl ?_;intro ct x cv ap hf;refine gb h fun cx ar h=>?_;obtain ⟨b,d,hae,b7,bt⟩:=ap.hZ (α:=Bool) (i:=0) rfl ar;subst hae;refine go ?_;have ⟨aZ,O,h⟩:=ob h;refine LW.se 0 ap 0 ar O (hM:=td) fun ci aS=>?_;refine go ?_;refine LW.bi [0] aS ?_;intro aM aO cj aT hf;refine go ?_;obtain ⟨bI,ae,ax⟩:=ob h;refine CW.ie ae 0 (fun n e wb=>∃ (k:Ad) (m:Nat),En e [(0,vS p Y.length q),(1,vI ai),(5,vS (some ⟨b,d,none⟩) n.1.length x),(6,vS k n.2.length m)]∧St w0 [] wb [sl k m n.2,sl (some ⟨b,d,none⟩) x n.1]) ?_ ⟨aM,aO,⟨rfl,rfl,(show (vS (some ⟨b,d,none⟩) bQ.length x:Value)=vS (some ⟨b,d,none⟩) aZ.length x by rw [gZ (oi O)]),rfl,trivial⟩,aT.pk [0,1]⟩ ?_
 · intro n e ck o hM h;obtain ⟨k,m,hE,aq⟩:=hM;obtain ⟨e,rfl⟩:=hE.out;refine jE [0,1,5,6,19] fun e=>?_;refine gc h ?_ ?_<;>intro _ h
   · refine gb h fun co R h=>?_;obtain ⟨bW,b9,hae,bp,bu⟩:=aq.hZ (α:=Int) (i:=0) rfl R;subst hae;refine go ?_;obtain ⟨bR,K,aU⟩:=aq.freeze (α:=Int) 0 rfl;obtain ⟨bX,ca,a4,hae,bf,_,_,aE,bl⟩:=K.jk.idx R;cases hae;obtain rfl:=aE;refine T ?_;have aV:=aU.iz (α:=Int) 0 rfl K;have ⟨cp,U,h⟩:=ob h;obtain ⟨ab,aN,aP,aH,aI,a9⟩:=aV.uL (α:=Int) 0 rfl U;refine LW.u (iq.sub (α:=Int) (l:=n.2) underlying32 FJ rfl (uN rfl) uO U ab aH aI) rfl ?_;refine T ?_;intro aa bD h aj am cl ay;refine go ?_;obtain ⟨bG,ad,aw⟩:=ob h;refine CW.ie ad 2 (fun j e wb=>∃ (f:Ad) (g:Nat),En e [(0,vS p Y.length q),(1,vI ai),(5,vS (some ⟨b,d,none⟩) j.1.length x),(6,vS f j.2.1.length g),(27,vS aj aa.length am),(28,vI (aa.length:Int)),(29,vI j.2.2)]∧St w0 [] wb [sl aj am aa,sl f g j.2.1,sl (some ⟨b,d,none⟩) x j.1]) ?_ ⟨aN,aP,ay.po [0,1,2]⟩ ?_
     · intro j e aY o hM h;obtain ⟨f,g,hE,J⟩:=hM;obtain ⟨e,rfl⟩:=hE.out;refine jE [0,1,5,6,27,28,29,30] fun e=>?_;refine gc h ?_ ?_<;>intro _ h
       · refine gb h fun a0 V h=>?_;obtain ⟨bY,cb,hae,bq,bv⟩:=J.hZ (α:=Int) (i:=0) rfl V;subst hae;refine go ?_;obtain ⟨aL,B,z⟩:=J.freeze (α:=Int) 0 rfl;obtain ⟨bZ,cc,a6,hae,bg,_,_,aF,bm⟩:=B.jk.idx V;cases hae;obtain rfl:=aF;refine T ?_;obtain ⟨aX,aJ,aQ⟩:=ob h;refine CW.jn [0,1,5,6,9,27,28,29] [0,1,2] [(46,.bool aX)] z (h1:=?_) (h2:=?_)
         · have h:=aJ;refine gb h fun cq W h=>?_;obtain ⟨b0,ce,hae,br,bw⟩:=z.hZ (α:=Bool) (i:=2) rfl W;cases hae;refine go ?_;obtain ⟨bS,C,az⟩:=z.freeze (α:=Bool) 2 rfl;obtain ⟨b1,cf,a7,hae,bj,_,_,aG,bn⟩:=C.jk.idx W;cases hae;obtain rfl:=aG;refine T ?_;refine bH h ?_ ?_<;>intro _ h
           · refine gb h fun cr aK h=>?_;obtain ⟨b2,cg,a8,rfl,bk,bs,bz,⟨bT,b3,bU,b4,bV,b5,rfl,bA,bB,bC⟩,bo⟩:=af.idx aK;refine go ?_;refine T ?_;intro cs bE h cm aA;have ba:=aA.iz (α:=Bool) 2 rfl C;exact rt
           refine go ?_;have bb:=az.iz (α:=Bool) 2 rfl C;exact rt
         intro e cn A;have h:=aQ;refine gc h ?_ ?_<;>intro _ h
         · refine gb h fun bO H h=>?_;obtain ⟨a3,bF,hae,a1,a2⟩:=A.hZ (α:=Bool) (i:=2) rfl H;cases hae;refine go ?_;have ⟨Z,I,h⟩:=ob h;refine LW.se 0 A 2 H I (hM:=td) fun bK aB=>?_;refine gb h fun bP ah h=>?_;refine LW.j6 (M:=[]) (L:=[fz aY aL,sl f g j.2.1,sl (some ⟨b,d,none⟩) x Z]) (vs:=#[vI a0]) (i:=1) pH rfl (by kernel_rfl) rfl rfl ah aB rfl (fun w G hG=>by cases (show G=[] from hG);exact ⟨rfl,rfl⟩) rfl rfl ?_;intro bJ au av bL aC hf;refine go ?_;replace h:=oi h;subst h;have aD:=aC.iz (α:=Int) 0 rfl B;exact ⟨rfl,⟨au,av,⟨rfl,rfl,(show (vS (some ⟨b,d,none⟩) j.1.length x:Value)=vS (some ⟨b,d,none⟩) Z.length x by rw [gZ (oi I)]),rfl,rfl,rfl,rfl,trivial⟩,aD.pk [0,1,2]⟩⟩
         refine go ?_;have bc:=A.iz (α:=Int) 0 rfl B;exact rt
       exact rt
     rintro e bM ⟨f,g,hE,bd⟩;obtain ⟨e,rfl⟩:=hE.out;have h:=aw;exact rt
   exact rt
 rintro e bN ⟨k,m,hE,be⟩;obtain ⟨e,rfl⟩:=hE.out;have h:=ax;exact rt
instance k_206:Ct prog 206:=⟨by kernel_rfl,@Hs⟩
theorem BI {w0 N b R r} (h:qy N b R=some r) {d u l} (G:u=b.NZ.NY.length) (U:rb w0 d l b.NZ.NY) {f x m} (H:x=b.own.length) (V:rb w0 f m b.own) {g z n} (I:z=b.N1.length) (W:rb w0 g n b.N1) {i A o} (J:A=b.py.ag.length) (X:rb w0 i o b.py.ag) {j B p} (K:B=b.py.gc.gQ.length) (Y:rb w0 j p b.py.gc.gQ) {k C q} (L:C=b.gR.length) (Z:rb w0 k q b.gR) :
    gV prog 124 #[.agg #[vS d u l,vS f x m,vS g z n,vS i A o,vI b.py.gc.N2,vI b.py.gc.Oa,vI b.py.gc.N3,vS j B p,vS k C q,vI b.N6,vI b.N7,vI b.bh.gE,vI b.bh.gT,vI b.bh.g8,vI b.gW,vI b.N5],vI R] w0 (fun v w=>v=vI r∧St w0 [] w []):=by
 subst G H I J K L;unfold qy at h;refine gV.fn func124 fun e=>?_;have ac:=St.start w0;refine T ?_;intro ak am M;obtain ⟨ab,O,aa⟩:=ob h;refine CW.jn [1] [] [(15,.bool ab)] M (h1:=?_) (h2:=?_)
 · have h:=O;refine T ?_;intro ap ah h an ad;refine bH h ?_ ?_<;>intro _ h
   · exact rt
   refine T ?_;intro aq ai h ao ae;exact rt
 intro e aj af;have h:=aa;refine gc h ?_ ?_<;>intro _ h
 · exact rt
 exact rt
instance k_124:Ct prog 124:=⟨by kernel_rfl,@BI⟩
theorem Gp {w0 N l r} (h:tf N l=some r) {f i g} (j:i=l.length) (k:rb w0 f g l) :
    gV prog 61 #[vS f i g] w0 (fun v w=>v=.agg #[vI r.gE,vI r.gT,vI r.g8]∧St w0 [] w []):=by
 subst j;unfold tf at h;refine gV.fn func61 fun e=>?_;have ak:=St.start w0;refine T ?_;intro n aD am;refine LW.bd [] #[vI 0,vI 0,vI 0] ?_;refine T ?_;intro p aE an aF u;refine go ?_;obtain ⟨aw,m,q⟩:=ob h;refine CW.ie m 0 (fun b e wb=>En e [(0,vS f l.length g),(2,.pointer (some ⟨n,0,none⟩)),(3,.pointer (some ⟨p,0,none⟩)),(4,vI b.1)]∧St w0 [] wb [bx p 43 [vI b.2.1,vI b.2.2.1,vI b.2.2.2],bx n 43 [vI 0,vI 0,vI 0]]) ?_ (u.po [0,1]) ?_
 · intro b e aG o hM h;obtain ⟨e,rfl,ao⟩:=eo hM;refine gc h ?_ ?_<;>intro _ h
   · refine gb h fun aH x h=>?_;obtain ⟨ab,av,z,rfl,C,H,I,⟨V,ac,W,ad,X,ae,Y,af,Z,ah,aa,ai,rfl,J,K,L,M,O,R⟩,G⟩:=k.idx x;refine go ?_;refine T ?_;intro d U h ax ap aj ay aq az ar;refine LW.bd [(0,vI (i64.wrap (b.2.1+d.gE))),(1,vI (i64.wrap (b.2.2.1+d.gT))),(2,vI (i64.wrap (b.2.2.2+d.g8)))] #[vI (i64.wrap (b.2.1+d.gE)),vI (i64.wrap (b.2.2.1+d.gT)),vI (i64.wrap (b.2.2.2+d.g8))] ?_;refine T ?_;intro aA au;exact rt
   exact rt
 rintro e aB ⟨hE,A⟩;obtain ⟨e,rfl⟩:=hE.out;have h:=q;refine T ?_;intro aC B;exact rt
instance k_61:Ct prog 61:=⟨by kernel_rfl,@Gp⟩
theorem wC {w0 N b az r} (h:ox N b az=some r) {j O q} (Y:O=b.NZ.NY.length) (aA:rb w0 j q b.NZ.NY) {k R u} (Z:R=b.own.length) (aB:rb w0 k u b.own) {l U x} (aa:U=b.N1.length) (aC:rb w0 l x b.N1) {m V z} (ab:V=b.py.ag.length) (ae:rb w0 m z b.py.ag) {n W A} (ac:W=b.py.gc.gQ.length) (aD:rb w0 n A b.py.gc.gQ) {p X B} (ad:X=b.gR.length) (aE:rb w0 p B b.gR) :
    gV prog 149 #[.agg #[vS j O q,vS k R u,vS l U x,vS m V z,vI b.py.gc.N2,vI b.py.gc.Oa,vI b.py.gc.N3,vS n W A,vS p X B,vI b.N6,vI b.N7,vI b.bh.gE,vI b.bh.gT,vI b.bh.g8,vI b.gW,vI b.N5],vI az] w0 (fun v w=>∃ af ah,v=vS af r.length ah∧St w0 [] w [sl af ah r]):=by
 subst Y Z aa ab ac ad;unfold ox at h;refine gV.fn func149 fun e=>?_;have a9:=St.start w0;refine T ?_;intro aj bu aw;refine LW.b0 (α:=Int) aw ?_;intro aF aG bv ba hf;refine T ?_;intro bz be h bw bb;refine gc h ?_ ?_<;>intro _ h
 · exact rt
 refine T ?_;intro ar bf h H I bm ax;refine go ?_;obtain ⟨bk,ao,av⟩:=ob h;refine CW.ie ao 0 (fun g e wb=>∃ (d:Ad) (f:Nat),En e [(2,.pointer (some ⟨aj,0,none⟩)),(5,vS d g.1.length f),(6,vS H ar.length I),(7,vI g.2)]∧St w0 [] wb [sl H I ar,sl d f g.1,bx aj 45 (qP j q k u l x m z n A p B b)]) ?_ ⟨aF,aG,ax.po [0,1,2]⟩ ?_
 · intro g e bn o hM h;obtain ⟨d,f,hE,J⟩:=hM;obtain ⟨e,rfl⟩:=hE.out;refine jE [2,5,6,7,21] fun e=>?_;refine gc h ?_ ?_<;>intro _ h
   · refine gs ?_;refine CW.block ?_;refine gs ?_;obtain ⟨ay,an,au⟩:=ob h;refine CW.jn [2,5,6,7] [0,1,2] [(37,.bool ay)] J (h1:=?_) (h2:=?_)
     · have h:=an;refine gb h fun br K h=>?_;obtain ⟨a1,bg,hae,aP,aR⟩:=J.hZ (α:=Bool) (i:=0) rfl K;subst hae;refine go ?_;obtain ⟨aW,C,ai⟩:=J.freeze (α:=Bool) 0 rfl;obtain ⟨a2,bi,aH,hae,aL,_,_,am,aN⟩:=C.jk.idx K;cases hae;obtain rfl:=am;refine T ?_;refine bH h ?_ ?_<;>intro _ h
       · refine gb h fun bs ap h=>?_;obtain ⟨a4,bj,aI,rfl,aM,aQ,aS,⟨aX,a5,aY,a6,aZ,a7,rfl,aT,aU,aV⟩,aO⟩:=ae.idx ap;refine go ?_;refine T ?_;have bc:=ai.iz (α:=Bool) 0 rfl C;exact rt
       refine go ?_;have bd:=ai.iz (α:=Bool) 0 rfl C;exact rt
     intro e bo ak;have h:=au;refine gc h ?_ ?_<;>intro _ h
     · refine gb h fun bt aq h=>?_;refine LW.j6 (M:=[]) (L:=[sl H I ar,sl d f g.1,bx aj 45 (qP j q k u l x m z n A p B b)]) (vs:=#[vI g.2]) (i:=1) pH rfl (by kernel_rfl) rfl rfl aq ak rfl (fun w G hG=>by cases (show G=[] from hG);exact ⟨rfl,rfl⟩) rfl rfl ?_;intro bl a0 a8 bp aJ hf;exact rt
     exact rt
   exact rt
 rintro e bq ⟨d,f,hE,aK⟩;obtain ⟨e,rfl⟩:=hE.out;have h:=av;exact rt
instance k_149:Ct prog 149:=⟨by kernel_rfl,@wC⟩
theorem vQ {w0 N u C G H r} (h:my N u C G H=some r) {b g d} (j:g=u.length) (k:rb w0 b d u) :
    gV prog 153 #[vS b g d,vI C,vI G,vI H] w0 (fun v w=>v=vI r∧St w0 [] w []):=by
 subst j;unfold my at h;refine gV.fn func153 fun e=>?_;have z:=St.start w0;refine gs ?_;refine CW.region ?_;refine gs ?_;obtain ⟨ai,A,h2⟩:=ob h;refine CW.jn [0,1,3] [] [(23,.bool ai)] z (h1:=?_) (h2:=?_)
 · have h:=A;refine T ?_;intro aX aE h aV ay;refine bH h ?_ ?_<;>intro _ h
   · exact rt
   refine T ?_;intro aY aF h aW az;refine bH h ?_ ?_<;>intro _ h
   · exact rt
   refine T ?_;intro aZ aG h aK aA;exact rt
 intro e aL aB;have h:=h2;refine gc h ?_ ?_<;>intro _ h
 · exact rt
 refine T ?_;intro aQ ae h aM l;obtain ⟨B,o,x⟩:=ob h;refine CW.jn [9] [] [(50,.bool B)] l (h1:=?_) (h2:=?_)
 · have h:=o;refine dW ?_;have aC:=l.drew;refine gb h fun aR q h=>?_;obtain ⟨ap,aH,I,rfl,M,X,Z,⟨ak,au,am,av,an,aw,rfl,ab,ac,ad⟩,V⟩:=k.idx q;refine go ?_;refine T ?_;refine bH h ?_ ?_<;>intro R h
   · exact rt
   refine go ?_;refine T ?_;intro aS af h aN aD;refine bH h ?_ ?_<;>intro U h
   · exact rt
   refine go ?_;refine jP 19 ?_;refine T ?_;intro aT ah h ao ax aO m;have ⟨aU,f,h⟩:=ob h;obtain ⟨aq,aI,hae,Y,aa⟩:=m.hZ (α:=Bool) (i:=0) rfl f;subst hae;refine go ?_;obtain ⟨aj,p,K⟩:=m.freeze (α:=Bool) 0 rfl;obtain ⟨ar,aJ,J,hae,O,_,_,n,W⟩:=p.jk.idx f;cases hae;obtain rfl:=n;refine T ?_;exact rt
 intro e aP L;have h:=x;refine gc h ?_ ?_<;>intro _ h
 · exact rt
 exact rt
instance k_153:Ct prog 153:=⟨by kernel_rfl,@vQ⟩
theorem GO {w0 N f aA r} (h:tr N f aA=some r) {B L m} (U:L=f.ag.length) (W:rb w0 B m f.ag) {l M n} (V:M=f.gc.gQ.length) (aB:rb w0 l n f.gc.gQ) :
    gV prog 259 #[.agg #[vS B L m,vI f.gc.N2,vI f.gc.Oa,vI f.gc.N3,vS l M n],vI aA] w0 (fun v w=>∃ o q, ∃ p x,v=.tuple #[.agg #[vS o r.1.ag.length q,vI r.1.gc.N2,vI r.1.gc.Oa,vI r.1.gc.N3,vS p r.1.gc.gQ.length x],vI r.2]∧St w0 [] w [sl o q r.1.ag,sl p x r.1.gc.gQ]):=by
 subst U V;unfold tr at h;refine gV.fn func259 fun e=>?_;have bl:=St.start w0;refine T ?_;intro au b6 bm R b7 bn O bu h b4 b5 ap ar bz bo z bA bp bB bq bV aX h bC br;refine gc h ?_ ?_<;>intro _ h
 · refine T ?_;intro bD bs;exact rt
 refine jE [1,2,4,6,21] fun e=>?_;refine gc h ?_ ?_<;>intro _ h
 · refine T ?_;intro bW aY h a1 bb a2 bc bE bt bF aD;exact rt
 refine gb h fun bX ah h=>?_;obtain ⟨aq,az,aC,rfl,aM,aO,aR,⟨a3,be,a4,bf,a5,bg,rfl,aU,aV,aW⟩,aN⟩:=W.idx ah;refine go ?_;refine T ?_;intro bk bG aE bI Z;obtain ⟨ay,ad,av⟩:=ob h;refine CW.jn [2,4,6,7,8,9] [0,1,2,3,4,5] [(49,.bool ay)] Z (h1:=?_) (h2:=?_)
 · have h:=ad;refine gB h ?_ ?_<;>intro _ h
   · refine gB h ?_ ?_<;>intro _ h
     · refine go ?_;refine bH h ?_ ?_<;>intro _ h
       · exact rt
       refine T ?_;intro bY aZ h bJ aF;exact rt
     exact rt
   exact rt
 intro e bK C;have h:=av;refine gs ?_;obtain ⟨A,ae,aw⟩:=ob h;refine CW.cut (fun e wb=>∃ (b:Ad) (d:Nat),En e [(2,.pointer (some ⟨au,0,none⟩)),(4,.pointer (some ⟨R,0,none⟩)),(6,.pointer (some ⟨z,0,none⟩)),(7,vI f.gc.Oa),(8,vI A.1)]∧St w0 [] wb [bx z 40 [vS b A.2.length d,vI O.gc.N2,vI O.gc.Oa,vI O.gc.N3,vS ap O.gc.gQ.length ar],sl ap ar O.gc.gQ,bx R 40 [vS none 0 0,vI 0,vI 0,vI 0,vS none 0 0],bx au 40 (qH (some ⟨aq,az,none⟩) m l n f),sl b d A.2]) ?_ ?_
 · have h:=ae;refine CW.fl [2,4,6,7,8,9,49] fun e=>?_;refine gc h ?_ ?_<;>intro _ h
   · refine T ?_;intro bZ a0 h a7 bj bL aG bM aH;exact rt
   refine gc h ?_ ?_<;>intro _ h
   · refine gb h fun b0 H h=>?_;obtain ⟨a9,bv,hae,aP,aS⟩:=C.hZ (α:=gP) (i:=2) rfl H;subst hae;refine go ?_;refine gb h fun b1 I h=>?_;refine LW.se 9 C 2 H I (hM:=(je (fun w cs F hF=>by obtain ⟨ai,am,aj,an,ak,ao,rfl,hH⟩:=hF;exact ⟨ai,am,aj,an,ak,ao,rfl,hH⟩))) fun bN aa=>?_;refine go ?_;rw [gZ (oi I)] at aa;exact rt
   exact rt
 rintro e bO ⟨b,d,hE,aI⟩;obtain ⟨e,rfl⟩:=hE.out;have h:=aw;refine T ?_;intro bP ab;obtain ⟨g,af,ax⟩:=ob h;refine CW.cut (fun e wb=>∃ (j:Ad) (k:Nat),En e [(4,.pointer (some ⟨R,0,none⟩)),(6,.pointer (some ⟨z,0,none⟩)),(8,vI A.1)]∧St w0 [] wb [bx z 40 [vS b g.1.length d,vI g.2.1,vI g.2.2.1,vI g.2.2.2.1,vS j g.2.2.2.2.length k],bx R 40 [vS none 0 0,vI 0,vI 0,vI 0,vS none 0 0],sl b d g.1,sl j k g.2.2.2.2]) ?_ ?_
 · have h:=af;refine CW.fl [2,4,6,8,75] fun e=>?_;refine gc h ?_ ?_<;>intro _ h
   · refine go ?_;refine LW.u (iq.min rfl rfl) rfl ?_;refine LW.bi [0] ab ?_;intro X Y bQ aJ hf;refine LW.bd [(2,vI (if 1000000<i64.wrap (f.gc.N3+1) then 1000000 else i64.wrap (f.gc.N3+1))),(3,vS X (([0]:List Int).length) Y)] #[vI 0,vI 0,vI (if 1000000<i64.wrap (f.gc.N3+1) then 1000000 else i64.wrap (f.gc.N3+1)),vS X (([0]:List Int).length) Y] ?_;refine T ?_;intro bR G;have ⟨b2,J,h⟩:=ob h;obtain ⟨ba,bw,hae,aQ,aT⟩:=G.hZ (α:=gP) (i:=5) rfl J;subst hae;refine go ?_;refine gb h fun b3 K h=>?_;refine LW.se 9 G 5 J K (hM:=(je (fun w cs F hF=>by obtain ⟨ai,am,aj,an,ak,ao,rfl,hH⟩:=hF;exact ⟨ai,am,aj,an,ak,ao,rfl,hH⟩))) fun bS ac=>?_;refine go ?_;rw [gZ (oi K)] at ac;exact rt
   exact rt
 rintro e bT ⟨j,k,hE,aK⟩;obtain ⟨e,rfl⟩:=hE.out;have h:=ax;refine T ?_;intro bU aL;exact rt
instance k_259:Ct prog 259:=⟨by kernel_rfl,@GO⟩
theorem Cs {w0 N M B b r} (h:pV N M B b=some r) {l q n} (A:q=M.length) (W:rb w0 l n M) :
    gV prog 249 #[vS l q n,vI B,.agg #[vI b.gE,vI b.gT,vI b.g8]] w0 (fun v w=>∃ d f,v=.tuple #[vS d r.1.length f,vI r.2.1,.bool r.2.2]∧St w0 [] w [sl d f r.1]):=by
 subst A;unfold pV at h;refine gV.fn func249 fun e=>?_;have an:=St.start w0;refine T ?_;intro aG aH ao af ar h aE J aI O;refine CW.fl [0,1,5,9,20] fun e=>?_;refine gc h ?_ ?_<;>intro _ h
 · refine T ?_;intro aJ au h aF ak ax ap;exact rt
 refine go ?_;obtain ⟨I,L,C⟩:=ob h;refine CW.mono (CW.lx [0,1,5,9] [0,1] [0] 0 (fun k=>[(11,vI k)]) (fun r x e wb=>x=.ret∧∃ u,u=r∧∃ v,kt prog f249.results e wb v∧∃ d f,v=.tuple #[vS d u.1.length f,vI u.2.1,.bool u.2.2]∧St w0 [] wb [sl d f u.1]) O L (hb:=?_)) ?_
 · intro k e ay o G h;refine gc h ?_ ?_<;>intro _ h
   · refine gb h fun aC j h=>?_;obtain ⟨m,z,hae,ac,ad⟩:=G.hZ (α:=g7) (i:=0) rfl j;subst hae;refine go ?_;obtain ⟨ah,g,H⟩:=G.freeze (α:=g7) 0 rfl;obtain ⟨aj,av,X,hae,aa,_,_,K,ab⟩:=g.jk.idx j;cases hae;obtain rfl:=K;refine T ?_;refine CW.fl [0,1,5,9,11,34] fun e=>?_;refine gc h ?_ ?_<;>intro _ h
     · refine jj [(0,.bool true),(1,vI B),(2,.agg #[vI b.gE,vI b.gT,vI b.g8])] #[.bool true,vI B,vI b.gE,vI b.gT,vI b.g8] ?_;refine go ?_;have R:=H.iz (α:=g7) 0 rfl g;have ⟨V,p,h⟩:=ob h;refine LW.se 0 R 0 j p (hM:=td) fun az U=>?_;refine go ?_;replace h:=oi h;subst h;exact ⟨trivial,rfl,_,rfl,⟨_,kt.three (ib.t rfl) (ib.t rfl) (ib.t rfl),(some ⟨m,z,none⟩),J,(show (.tuple #[vS (some ⟨m,z,none⟩) af.1.length J,vI k,.bool true]:Value)=.tuple #[vS (some ⟨m,z,none⟩) V.length J,vI k,.bool true] by rw [gZ (oi p)]),U.pk [0]⟩⟩
     refine go ?_;have aq:=H.iz (α:=g7) 0 rfl g;exact rt
   exact rt
 intro x e aA hM;rcases I with I | aw
 · obtain ⟨rfl,hM⟩:=hM;obtain ⟨e,rfl,Y⟩:=eo hM;have h:=C;refine T ?_;intro aD ae h ai am aB Z;exact rt
 obtain ⟨rfl,u,rfl,hM⟩:=hM;cases C;exact And.intro trivial hM
instance k_249:Ct prog 249:=⟨by kernel_rfl,@Cs⟩
theorem DW {w0 N l m n i r} (h:rh N l m n i=some r) {b f d} (g:f=l.length) (o:rb w0 b d l) :
    gV prog 250 #[vS b f d,vI m,vI n,.agg #[vI i.gE,vI i.gT,vI i.g8]] w0 (fun v w=>∃ j k,v=.tuple #[vS j r.1.length k,.bool r.2]∧St w0 [] w [sl j k r.1]):=by
 subst g;unfold rh at h;refine gV.fn func250 fun e=>?_;have H:=St.start w0;refine T ?_;intro ad ae I ai R h af J;refine gc h ?_ ?_<;>intro _ h
 · refine T ?_;intro aj U h ab ac ah K;exact rt
 refine T ?_;intro Y p h x B V L;refine CW.fl [0,2,7,10,26] fun e=>?_;refine gc h ?_ ?_<;>intro _ h
 · refine T ?_;intro Z q h z C W M;exact rt
 refine T ?_;intro aa u h A G X O;exact rt
instance k_250:Ct prog 250:=⟨by kernel_rfl,@DW⟩
end Go.Kx
