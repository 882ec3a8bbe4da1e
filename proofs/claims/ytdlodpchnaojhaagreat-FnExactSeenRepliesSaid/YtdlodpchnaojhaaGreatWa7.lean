import Derived.Test.YtdlodpchnaojhaaGreatWa6
namespace Go.Kx
open Go Go.RowKit Go.Proofs
open Go.IntKind (i64)
open Tryz
set_option maxRecDepth 10000
set_option maxHeartbeats 8000000
set_option linter.unusedVariables false
set_option linter.unusedSimpArgs false
theorem GS {w0 N j r} (h:lu N j=some r) {d k f} (l:k=j.length) (i:rb w0 d f j) :
    gV prog 201 #[vS d k f] w0 (fun v w=>v=.bool r∧St w0 [] w []):=by
 subst l;unfold lu at h;refine gV.fn func201 fun e=>?_;have B:=St.start w0;refine gs ?_;refine CW.region ?_;refine gs ?_;obtain ⟨ah,H,h2⟩:=ob h;refine CW.jn [0] [] [(22,.bool ah)] B (h1:=?_) (h2:=?_)
 · have h:=H;refine gB h ?_ ?_<;>intro _ h
   · exact rt
   refine gb h fun aR I h=>?_;obtain ⟨aP,aQ,aj,rfl,W,au,av,rfl,Y⟩:=i.idx I;refine go ?_;refine T ?_;refine bH h ?_ ?_<;>intro _ h
   · exact rt
   refine go ?_;refine T ?_;exact rt
 intro e ay am;have h:=h2;refine gc h ?_ ?_<;>intro _ h
 · exact rt
 refine jj [] #[vI 0,vI 0,vI 0] ?_;refine T ?_;intro g az an aA C;refine go ?_;obtain ⟨n,q,m⟩:=ob h;refine CW.it q (fun b e wb=>En e [(0,vS d j.length f),(3,.pointer (some ⟨g,0,none⟩)),(24,vS d j.length f),(25,vI (j.length:Int)),(26,vI b.1)]∧St w0 [] wb [bx g 43 [vI b.2.1,vI b.2.2.1,vI b.2.2.2]]) (fun o x e wb=>match o with | .inl b=>x=.exit 0∧En e [(3,.pointer (some ⟨g,0,none⟩))]∧St w0 [] wb [bx g 43 [vI b.2.1,vI b.2.2.1,vI b.2.2.2]] | .inr r=>x=.ret∧∃ u,u=r∧∃ v,kt prog f201.results e wb v∧v=.bool u∧St w0 [] wb []) ?_ (C.po [0]) ?_
 · intro b e aB o hM h;obtain ⟨e,rfl,ao⟩:=eo hM;refine gc h ?_ ?_<;>intro _ h
   · refine gb h fun K z h=>?_;obtain ⟨ai,aw,L,rfl,X,aa,ab,rfl,Z⟩:=i.idx z;refine go ?_;refine T ?_;intro ak aC ap aD G;refine CW.fl [0,3,4,5,24,25,26,33] fun e=>?_;refine gc h ?_ ?_<;>intro _ h
     · refine jj [] #[.bool false,vI 0,vI 0,vI 0,vI 0] ?_;refine LW.u (iq.Ly Kb rfl rfl (fun w=>Kn K (g7.mk false 0 (hJ.mk 0 0 0)) w)) rfl ?_;refine gc h ?_ ?_<;>intro _ h
       · exact rt
       exact rt
     refine gs ?_;obtain ⟨J,p,A⟩:=ob h;refine CW.jn [0,3,5,24,25,26] [0,1] [(46,.bool J)] G (h1:=?_) (h2:=?_)
     · have h:=p;refine T ?_;intro aL ac h aE aq;refine bH h ?_ ?_<;>intro _ h
       · exact rt
       refine T ?_;intro aM ad h aF ar;exact rt
     intro e aG M;have h:=A;refine gc h ?_ ?_<;>intro _ h
     · exact rt
     refine T ?_;intro aN ae h aH O aI R;exact rt
   exact rt
 intro x e aJ hM;rcases n with n | ax
 · obtain ⟨rfl,hM⟩:=hM;obtain ⟨e,rfl,U⟩:=eo hM;have h:=m;refine T ?_;intro aO af h aK V;exact rt
 obtain ⟨rfl,u,rfl,hM⟩:=hM;cases m;exact And.intro trivial hM
instance k_201:Ct prog 201:=⟨by kernel_rfl,@GS⟩
theorem wE {w0 N M r} (h:mu N M=some r) {d j f} (m:j=M.length) (b:rb w0 d f M) :
    gV prog 288 #[vS d j f] w0 (fun v w=>v=.bool r∧St w0 [] w []):=by
 subst m;unfold mu at h;refine gV.fn func288 fun e=>?_;have U:=St.start w0;refine gs ?_;refine CW.region ?_;refine gs ?_;obtain ⟨aX,Z,h2⟩:=ob h;refine CW.jn [0] [] [(30,.bool aX)] U (h1:=?_) (h2:=?_)
 · have h:=Z;refine gB h ?_ ?_<;>intro _ h
   · exact rt
   refine gb h fun bT aa h=>?_;obtain ⟨bR,bS,bq,rfl,ay,bw,bz,⟨a3,bg,a4,bi,a5,bj,rfl,aO,aP,aQ⟩,aC⟩:=b.idx aa;refine go ?_;refine T ?_;refine bH h ?_ ?_<;>intro _ h
   · exact rt
   refine go ?_;refine T ?_;refine bH h ?_ ?_<;>intro _ h
   · exact rt
   refine go ?_;refine T ?_;exact rt
 intro e bE V;have h:=h2;refine gc h ?_ ?_<;>intro _ h
 · exact rt
 refine go ?_;obtain ⟨l,p,i⟩:=ob h;refine CW.mono (CW.lx [0,31,32] [] [] 0 (fun q=>[(33,vI q)]) (RT prog f288.results (fun u=>.bool u) w0 []) V p (hb:=?_)) ?_
 · intro q e bF o bs h;refine gc h ?_ ?_<;>intro _ h
   · refine gb h fun bM I h=>?_;obtain ⟨bc,bA,aq,rfl,az,aG,aK,⟨a6,bk,a7,bl,a8,bm,rfl,H,aR,aS⟩,aD⟩:=b.idx I;refine go ?_;refine T ?_;intro br bG bt bI W;obtain ⟨ab,C,O⟩:=ob h;refine CW.jn [0,4,31,32,33] [0] [(63,.bool ab)] W (h1:=?_) (h2:=?_)
     · have h:=C;refine T ?_;intro bN aW h bJ bu;refine bH h ?_ ?_<;>intro _ h
       · exact rt
       refine gB h ?_ ?_<;>intro _ h
       · refine go ?_;refine bH h ?_ ?_<;>intro _ h
         · refine gB h ?_ ?_<;>intro _ h
           · refine gb h fun bO J h=>?_;obtain ⟨bd,bB,ar,hae,aA,aH,aL,A,aE⟩:=b.idx J;cases hae;obtain ⟨a9,bn,ba,bo,bb,bp,rfl,aT,aU,aV⟩:=A;refine go ?_;refine T ?_;exact rt
           exact rt
         exact rt
       exact rt
     intro e bK X;have h:=O;refine gc h ?_ ?_<;>intro _ h
     · exact rt
     refine go ?_;obtain ⟨k,n,g⟩:=ob h;refine CW.mono (CW.lx [0,31,32,33,65,66] [] [0,31,32,33] 2 (fun z=>[(67,vI z)]) (RT prog f288.results (fun u=>.bool u) w0 []) X n (hb:=?_)) ?_
     · intro z e bL o Y h;refine jE [0,31,32,33,65,66,67,68] fun e=>?_;refine gc h ?_ ?_<;>intro _ h
       · refine gb h fun bP K h=>?_;obtain ⟨be,bC,au,rfl,aB,aI,aM,rfl,aF⟩:=H.idx K;refine go ?_;refine T ?_;obtain ⟨ac,G,R⟩:=ob h;refine CW.jn [0,31,32,33,65,66,67] [] [(80,.bool ac)] Y (h1:=?_) (h2:=?_)
         · have h:=G;refine gB h ?_ ?_<;>intro _ h
           · refine gb h fun bQ L h=>?_;obtain ⟨bf,bD,av,hae,ad,aJ,aN,B,ae⟩:=b.idx L;cases hae;obtain ⟨aj,an,ak,ao,am,ap,rfl,af,ah,ai⟩:=B;refine go ?_;refine T ?_;exact rt
           exact rt
         intro e a0 bv;have h:=R;refine gc h ?_ ?_<;>intro _ h
         · exact rt
         exact rt
       exact rt
     intro x e a1 hM;rcases k with k | aY
     · obtain ⟨rfl,hM⟩:=hM;obtain ⟨e,rfl,aw⟩:=eo hM;have h:=g;exact rt
     obtain ⟨rfl,u,rfl,hM⟩:=hM;cases g;exact ⟨trivial,rfl,_,rfl,hM⟩
   exact rt
 intro x e a2 hM;rcases l with l | aZ
 · obtain ⟨rfl,hM⟩:=hM;obtain ⟨e,rfl,ax⟩:=eo hM;rw [show e=im e [] from rfl];have h:=i;exact rt
 obtain ⟨rfl,u,rfl,hM⟩:=hM;cases i;exact And.intro trivial hM
instance k_288:Ct prog 288:=⟨by kernel_rfl,@wE⟩
theorem yd {w0 N b r} (h:j1 N b=some r) {B W K} (ac:W=b.NZ.NY.length) (ao:rb w0 B K b.NZ.NY) {C X L} (ad:X=b.own.length) (ap:rb w0 C L b.own) {G Y M} (ae:Y=b.N1.length) (aq:rb w0 G M b.N1) {H Z O} (af:Z=b.py.ag.length) (ar:rb w0 H O b.py.ag) {I aa R} (ah:aa=b.py.gc.gQ.length) (au:rb w0 I R b.py.gc.gQ) {J ab U} (ai:ab=b.gR.length) (aj:rb w0 J U b.gR) :
    gV prog 110 #[.agg #[vS B W K,vS C X L,vS G Y M,vS H Z O,vI b.py.gc.N2,vI b.py.gc.Oa,vI b.py.gc.N3,vS I aa R,vS J ab U,vI b.N6,vI b.N7,vI b.bh.gE,vI b.bh.gT,vI b.bh.g8,vI b.gW,vI b.N5]] w0 (fun v w=>∃ d o, ∃ f p, ∃ g q, ∃ j x, ∃ k z, ∃ n A,v=.agg #[vS d r.NZ.NY.length o,vS f r.own.length p,vS g r.N1.length q,vS j r.py.ag.length x,vI r.py.gc.N2,vI r.py.gc.Oa,vI r.py.gc.N3,vS k r.py.gc.gQ.length z,vS n r.gR.length A,vI r.N6,vI r.N7,vI r.bh.gE,vI r.bh.gT,vI r.bh.g8,vI r.gW,vI r.N5]∧St w0 [] w [sl d o r.NZ.NY,sl f p r.own,sl g q r.N1,sl j x r.py.ag,sl k z r.py.gc.gQ,sl n A r.gR]):=by
 subst ac ad ae af ah ai;unfold j1 at h;refine gV.fn func110 fun e=>?_;have aO:=St.start w0;refine T ?_;intro bf bi aP bg bj an;refine dW ?_;have aQ:=an.drew;refine go ?_;refine jP 2 ?_;refine T ?_;intro bl aW h bd be bk aR;refine AW.u (i:=12) rfl (by kernel_rfl) rfl rfl (iq.fa LR rfl) ?_;refine jP 5 ?_;refine T ?_;intro bm aX h aC aI aY aS ba aA h aD aJ aZ aT bb aB h aE aK aF aL a0 aU a1 aV a2 av a3 aw a4 ak;refine LW.b0 (α:=iL) ak ?_;intro aG aM a5 V hf;refine gb h fun bc am h=>?_;refine LW.jG (l:=([]:List iL)) (m:=b.gR) tS rfl rfl (V.rB aj) am V (i:=0) rfl rfl ?_;intro aH aN a7 ax hf;refine T ?_;intro a8 ay a9 az;exact rt
instance k_110:Ct prog 110:=⟨by kernel_rfl,@yd⟩
theorem z7 {w0 N b r} (h:om N b=some r) {m K A} (Y:K=b.NZ.NY.length) (aD:rb w0 m A b.NZ.NY) {n O B} (Z:O=b.own.length) (aE:rb w0 n B b.own) {p R C} (aa:R=b.N1.length) (aF:rb w0 p C b.N1) {q U H} (ab:U=b.py.ag.length) (k:rb w0 q H b.py.ag) {x V I} (ac:V=b.py.gc.gQ.length) (aG:rb w0 x I b.py.gc.gQ) {z W J} (ad:W=b.gR.length) (aH:rb w0 z J b.gR) :
    gV prog 222 #[.agg #[vS m K A,vS n O B,vS p R C,vS q U H,vI b.py.gc.N2,vI b.py.gc.Oa,vI b.py.gc.N3,vS x V I,vS z W J,vI b.N6,vI b.N7,vI b.bh.gE,vI b.bh.gT,vI b.bh.g8,vI b.gW,vI b.N5]] w0 (fun v w=>∃ ai an,v=vS ai r.length an∧St w0 [] w [sl ai an r]):=by
 subst Y Z aa ab ac ad;unfold om at h;refine gV.fn func222 fun e=>?_;have aY:=St.start w0;refine T ?_;intro bi bj ay;refine LW.b0 (α:=pF) ay ?_;intro aI aK bk az hf;refine go ?_;refine LW.u (iq.min rfl rfl) rfl ?_;have ⟨aC,ao,h⟩:=ob h;obtain ⟨aJ,aL,aB,ap,ar⟩:=iM.uL k ao;have X:=(k).le;refine LW.u (iq.sub (α:=gP) (l:=b.py.ag) underlying36 uc rfl uO (uN rfl) ao X aB ap) rfl ?_;refine go ?_;obtain ⟨a6,aq,ax⟩:=ob h;refine CW.ie aq 0 (fun j e wb=>∃ (f:Ad) (g:Nat),En e [(3,vS f j.1.length g),(15,vS aJ aC.length aL),(16,vI (aC.length:Int)),(17,vI j.2)]∧St w0 [] wb [sl f g j.1]) ?_ ⟨aI,aK,az.po [0]⟩ ?_
 · intro j e a9 o hM h;obtain ⟨f,g,hE,aZ⟩:=hM;obtain ⟨e,rfl⟩:=hE.out;refine jE [3,15,16,17,18] fun e=>?_;refine gc h ?_ ?_<;>intro _ h
   · refine gb h fun d au h=>?_;obtain ⟨aW,a5,aM,rfl,aN,aP,aQ,⟨ae,aj,af,ak,ah,am,rfl,aR,aS,aT⟩,aO⟩:=ar.idx au;refine go ?_;refine T ?_;intro aw ba a0 bb a1 bf aU h bc aA;refine gc h ?_ ?_<;>intro _ h
     · refine gb h fun bg av h=>?_;refine LW.j6 (M:=[]) (L:=[bx aw 160 (qO ae aj af ak ah am d),sl f g j.1]) (vs:=#[vI d.Oe,vI d.N0,vI d.box,vI d.Od,vI d.iw,vI d.gE,vI d.N9,vI d.iv,vI d.iu,.bool d.Ob,vS ae d.gX.length aj,vS af d.N8.length ak,vS ah d.N4.length am]) (i:=1) MS rfl (by kernel_rfl) rfl rfl av aA rfl (fun w G hG=>by cases (show G=[] from hG);exact ⟨⟨_,_,_,_,_,_,_,_,_,rfl⟩,rfl⟩) rfl rfl ?_;intro a8 aV aX bd a2 hf;exact rt
     exact rt
   exact rt
 rintro e be ⟨f,g,hE,a4⟩;obtain ⟨e,rfl⟩:=hE.out;have h:=ax;exact rt
instance k_222:Ct prog 222:=⟨by kernel_rfl,@z7⟩
theorem Gi {w0 N b d r} (h:s7 N b d=some r) :
    gV prog 215 #[.agg #[vI b.gE,vI b.gT,vI b.g8],.agg #[vI d.gE,vI d.gT,vI d.g8]] w0 (fun v w=>v=.tuple #[.agg #[vI r.1.gE,vI r.1.gT,vI r.1.g8],.bool r.2]∧St w0 [] w []):=by
 unfold s7 at h;refine gV.fn func215 fun e=>?_;have f:=St.start w0;refine T ?_;intro q z g u A i x B j G n h C k;refine gc h ?_ ?_<;>intro _ h
 · refine T ?_;intro o l;exact rt
 refine jj [(0,vI (i64.wrap (b.gE - d.gE))),(1,vI (i64.wrap (b.gT - d.gT))),(2,vI (i64.wrap (b.g8 - d.g8)))] #[vI (i64.wrap (b.gE - d.gE)),vI (i64.wrap (b.gT - d.gT)),vI (i64.wrap (b.g8 - d.g8))] ?_;refine T ?_;intro p m;exact rt
instance k_215:Ct prog 215:=⟨by kernel_rfl,@Gi⟩
theorem xF {w0 N b ak r} (h:rz N b ak=some r) {l z n} (C:z=b.ag.length) (H:rb w0 l n b.ag) {m A o} (G:A=b.gc.gQ.length) (am:rb w0 m o b.gc.gQ) :
    gV prog 245 #[.agg #[vS l z n,vI b.gc.N2,vI b.gc.Oa,vI b.gc.N3,vS m A o],vI ak] w0 (fun v w=>∃ d g, ∃ f j,v=.agg #[vS d r.ag.length g,vI r.gc.N2,vI r.gc.Oa,vI r.gc.N3,vS f r.gc.gQ.length j]∧St w0 [] w [sl d g r.ag,sl f j r.gc.gQ]):=by
 subst C G;unfold rz at h;refine gV.fn func245 fun e=>?_;have aP:=St.start w0;refine T ?_;intro bl bm aQ ae bn aR B aW h aa ac ab ad a0 aS I a1 aT a2 ai;obtain ⟨aj,M,af⟩:=ob h;refine CW.jn [1,2,4,5] [0,1,2,3,4] [(24,.bool aj)] ai (h1:=?_) (h2:=?_)
 · have h:=M;refine T ?_;intro bd aE h a3 aU;refine bH h ?_ ?_<;>intro _ h
   · exact rt
   refine T ?_;intro be aF h a4 aV;refine bH h ?_ ?_<;>intro _ h
   · exact rt
   refine gb h fun bf R h=>?_;obtain ⟨aJ,aX,an,rfl,ar,av,ay,⟨aG,aM,aH,aN,aI,aO,rfl,aB,aC,aD⟩,au⟩:=H.idx R;refine go ?_;refine T ?_;exact rt
 intro e a5 k;have h:=af;refine gc h ?_ ?_<;>intro _ h
 · refine T ?_;intro a7 ao;exact rt
 refine gs ?_;obtain ⟨J,O,ah⟩:=ob h;refine CW.cut (fun e wb=>En e [(4,.pointer (some ⟨ae,0,none⟩)),(5,.pointer (some ⟨I,0,none⟩))]∧St w0 [] wb [bx I 40 [vS aa J.length ac,vI B.gc.N2,vI B.gc.Oa,vI B.gc.N3,vS ab B.gc.gQ.length ad],sl aa ac J,sl ab ad B.gc.gQ,bx ae 40 [vS none 0 0,vI 0,vI 0,vI 0,vS none 0 0]]) ?_ ?_
 · have h:=O;refine gB h ?_ ?_<;>intro _ h
   · refine gb h fun bg p h=>?_;obtain ⟨aK,aY,hae,aw,az⟩:=k.hZ (α:=gP) (i:=1) rfl p;subst hae;refine go ?_;refine gb h fun bi q h=>?_;refine LW.se 9 k 1 p q (hM:=(je (fun w cs F hF=>by obtain ⟨U,X,V,Y,W,Z,rfl,hH⟩:=hF;exact ⟨U,X,V,Y,W,Z,rfl,hH⟩))) fun a9 K=>?_;refine go ?_;rw [gZ (oi q)] at K;exact rt
   refine gb h fun bj u h=>?_;obtain ⟨aL,aZ,hae,ax,aA⟩:=k.hZ (α:=gP) (i:=1) rfl u;subst hae;refine go ?_;refine gb h fun bk x h=>?_;refine LW.se 9 k 1 u x (hM:=(je (fun w cs F hF=>by obtain ⟨U,X,V,Y,W,Z,rfl,hH⟩:=hF;exact ⟨U,X,V,Y,W,Z,rfl,hH⟩))) fun ba L=>?_;refine go ?_;rw [gZ (oi x)] at L;exact rt
 rintro e bb ⟨hE,ap⟩;obtain ⟨e,rfl⟩:=hE.out;have h:=ah;refine T ?_;intro bc aq;exact rt
instance k_245:Ct prog 245:=⟨by kernel_rfl,@xF⟩
theorem GH {w0 N b r} (h:lP N b=some r) {d A l} (J:A=b.NZ.NY.length) (ad:rb w0 d l b.NZ.NY) {f B m} (K:B=b.own.length) (ae:rb w0 f m b.own) {g C n} (L:C=b.N1.length) (af:rb w0 g n b.N1) {i G p} (M:G=b.py.ag.length) (ah:rb w0 i p b.py.ag) {j H q} (O:H=b.py.gc.gQ.length) (ai:rb w0 j q b.py.gc.gQ) {k I z} (R:I=b.gR.length) (U:rb w0 k z b.gR) :
    gV prog 59 #[.agg #[vS d A l,vS f B m,vS g C n,vS i G p,vI b.py.gc.N2,vI b.py.gc.Oa,vI b.py.gc.N3,vS j H q,vS k I z,vI b.N6,vI b.N7,vI b.bh.gE,vI b.bh.gT,vI b.bh.g8,vI b.gW,vI b.N5]] w0 (fun v w=>v=.bool r∧St w0 [] w []):=by
 subst J K L M O R;unfold lP at h;refine gV.fn func59 fun e=>?_;have aH:=St.start w0;refine T ?_;intro bd be ab;obtain ⟨aF,ac,ak⟩:=ob h;refine CW.jn [1] [0] [(61,.bool aF)] ab (h1:=?_) (h2:=?_)
 · have h:=ac;refine T ?_;intro bi aP h bf aI;refine bH h ?_ ?_<;>intro _ h
   · exact rt
   refine T ?_;intro bj aQ h bg aJ;refine bH h ?_ ?_<;>intro _ h
   · exact rt
   refine T ?_;intro a4 ax h aT aK;refine bH h ?_ ?_<;>intro _ h
   · exact rt
   refine T ?_;intro a5 ay h aU aL;refine bH h ?_ ?_<;>intro _ h
   · exact rt
   refine gB h ?_ ?_<;>intro _ h
   · exact rt
   refine T ?_;intro a6 az h aV aM;refine bH h ?_ ?_<;>intro _ h
   · exact rt
   refine T ?_;intro a7 aA h aW aN;refine bH h ?_ ?_<;>intro _ h
   · exact rt
   refine T ?_;intro a8 aB h aX aO;refine bH h ?_ ?_<;>intro _ h
   · exact rt
   refine T ?_;intro a9 aC h aY am;refine bH h ?_ ?_<;>intro _ h
   · exact rt
   refine T ?_;intro ba aD h aZ an;exact rt
 intro e a0 Y;have h:=ak;refine gc h ?_ ?_<;>intro _ h
 · exact rt
 refine go ?_;obtain ⟨W,Z,V⟩:=ob h;refine CW.mono (CW.lx [1] [0] [] 0 (fun X=>[(3,vI X)]) (RT prog f59.results (fun u=>.bool u) w0 []) Y Z (hb:=?_)) ?_
 · intro X e a1 o ao h;refine gc h ?_ ?_<;>intro _ h
   · refine gb h fun bb aa h=>?_;obtain ⟨aG,aR,aj,rfl,ar,av,aw,rfl,au⟩:=U.idx aa;refine go ?_;refine T ?_;intro bc aE h a2 ap;refine CW.fl [1,3,75] fun e=>?_;refine gc h ?_ ?_<;>intro _ h
     · exact rt
     exact rt
   exact rt
 intro x e a3 hM;rcases W with W | aS
 · obtain ⟨rfl,hM⟩:=hM;obtain ⟨e,rfl,aq⟩:=eo hM;rw [show e=im e [] from rfl];have h:=V;exact rt
 obtain ⟨rfl,u,rfl,hM⟩:=hM;cases V;exact And.intro trivial hM
instance k_59:Ct prog 59:=⟨by kernel_rfl,@GH⟩
theorem Es {w0 N b r} (h:r7 N b=some r) {f B n} (K:B=b.NZ.NY.length) (X:rb w0 f n b.NZ.NY) {g C o} (L:C=b.own.length) (Y:rb w0 g o b.own) {j G q} (M:G=b.N1.length) (Z:rb w0 j q b.N1) {k H x} (O:H=b.py.ag.length) (aa:rb w0 k x b.py.ag) {l I z} (R:I=b.py.gc.gQ.length) (ab:rb w0 l z b.py.gc.gQ) {m J A} (U:J=b.gR.length) (ac:rb w0 m A b.gR) :
    gV prog 131 #[.agg #[vS f B n,vS g C o,vS j G q,vS k H x,vI b.py.gc.N2,vI b.py.gc.Oa,vI b.py.gc.N3,vS l I z,vS m J A,vI b.N6,vI b.N7,vI b.bh.gE,vI b.bh.gT,vI b.bh.g8,vI b.gW,vI b.N5]] w0 (fun v w=>v=.agg #[vI r.gE,vI r.gT,vI r.g8]∧St w0 [] w []):=by
 subst K L M O R U;unfold r7 at h;refine gV.fn func131 fun e=>?_;have ai:=St.start w0;refine T ?_;intro az aC aj aA aD ak d ar h aE am aB aF an aG ao ay af h au W;refine gc h ?_ ?_<;>intro _ h
 · refine T ?_;intro av ap;exact rt
 refine jA ?_;have aq:=W.drew;refine go ?_;refine jP 3 ?_;refine T ?_;intro V ah h aw ad;refine AW.u (i:=8) rfl (by kernel_rfl) rfl rfl (iq.p rfl) ?_;refine AW.u (i:=21) rfl (by kernel_rfl) rfl rfl (iq.build (vs:=[(0,vI (i64.wrap ((i64.wrap (d.gE+V))+b.bh.gE))),(1,vI (i64.wrap (d.gT+b.bh.gT))),(2,vI (i64.wrap (d.g8+b.bh.g8)))]) (cs:=#[vI (i64.wrap ((i64.wrap (d.gE+V))+b.bh.gE)),vI (i64.wrap (d.gT+b.bh.gT)),vI (i64.wrap (d.g8+b.bh.g8))]) rfl (by kernel_rfl)) ?_;refine T ?_;intro ax ae;exact rt
instance k_131:Ct prog 131:=⟨by kernel_rfl,@Es⟩
theorem yX {w0 N H I x r} (h:lH N H I x=some r) {f o j} (q:o=H.length) (u:rb w0 f j H) :
    gV prog 243 #[vS f o j,vI I,.agg #[vI x.gE,vI x.gT,vI x.g8]] w0 (fun v w=>∃ z A,v=.tuple #[vS z r.1.length A,.bool r.2]∧St w0 [] w [sl z A r.1]):=by
 subst q;unfold lH at h;refine gV.fn func243 fun e=>?_;have ah:=St.start w0;refine T ?_;intro aG aH ai J aq h K k aI aj aK ar h aJ M;refine gc h ?_ ?_<;>intro _ h
 · exact rt
 refine gs ?_;obtain ⟨d,C,L⟩:=ob h;refine CW.cut (fun e wb=>∃ (b:Nat),En e [(1,vI I),(8,vS K J.length k),(9,.pointer (some ⟨b,0,none⟩)),(10,.bool d.2.2.2)]∧St w0 [] wb [sl K k J,bx b 43 [vI d.1,vI d.2.1,vI d.2.2.1]]) ?_ ?_
 · have h:=C;refine dW ?_;have ak:=M.drew;refine gb h fun aD G h=>?_;obtain ⟨ad,au,R,rfl,W,Y,aa,rfl,X⟩:=u.idx G;refine go ?_;refine T ?_;have ⟨aE,ac,h⟩:=ob h;refine AW.all (rs:=[6,10]) (by kernel_rfl) (by simp) ⟨?_,?_,trivial⟩
   · refine oA ?_;refine T ?_;intro av am ae aw an ax ao;exact rt
   refine oA ?_;refine T ?_;intro af ay ap;refine jP 6 ?_;refine T ?_;intro az U aA V;exact rt
 rintro e aB ⟨b,hE,l⟩;obtain ⟨e,rfl⟩:=hE.out;have h:=L;refine gc h ?_ ?_<;>intro _ h
 · exact rt
 refine gb h fun aF m h=>?_;obtain ⟨g,p,hae,Z,ab⟩:=l.hZ (α:=g7) (i:=0) rfl m;subst hae;refine go ?_;refine gb h fun O n h=>?_;refine LW.se 2 l 0 m n (hM:=(je (fun w cs F hF=>by obtain ⟨rfl,rfl⟩:=hF;exact ⟨rfl,rfl⟩))) fun aC B=>?_;refine go ?_;replace h:=oi h;subst h;exact Rc tt tt ⟨(some ⟨g,p,none⟩),k,(show (.tuple #[vS (some ⟨g,p,none⟩) J.length k,.bool true]:Value)=.tuple #[vS (some ⟨g,p,none⟩) O.length k,.bool true] by rw [gZ (oi n)]),B.pk [0]⟩
instance k_243:Ct prog 243:=⟨by kernel_rfl,@yX⟩
theorem DZ {w0 N O Z x r} (h:np N O Z x=some r) {d o g} (q:o=O.length) (u:rb w0 d g O) :
    gV prog 260 #[vS d o g,vI Z,.agg #[vI x.gE,vI x.gT,vI x.g8]] w0 (fun v w=>∃ z A,v=.tuple #[vS z r.1.length A,.bool r.2]∧St w0 [] w [sl z A r.1]):=by
 subst q;unfold np at h;refine gV.fn func260 fun e=>?_;have aM:=St.start w0;refine T ?_;intro bs bt aN R aU h U j bu aO bw aV h bv B;refine gc h ?_ ?_<;>intro _ h
 · exact rt
 refine gs ?_;obtain ⟨Y,J,V⟩:=ob h;refine CW.jn [0,1,5,8] [0,1] [(10,.bool Y)] B (h1:=?_) (h2:=?_)
 · have h:=J;refine dW ?_;have aP:=B.drew;refine gb h fun bl aB h=>?_;refine AW.all (rs:=[1,7]) (by kernel_rfl) (by simp) ⟨?_,?_,trivial⟩
   · refine oA ?_;refine T ?_;intro aX aQ;have ⟨bm,aC,h⟩:=ob h;refine AW.all (rs:=[3,7]) (by kernel_rfl) (by simp) ⟨?_,?_,trivial⟩
     · refine oA ?_;refine T ?_;intro aY aR aH aZ aS a0 aT;exact rt
     refine oA ?_;refine T ?_;intro aI a1 ac;refine jP 3 ?_;refine T ?_;intro a2 ad a3 ae;exact rt
   refine oA ?_;refine T ?_;intro aJ a5 af;refine jP 1 ?_;refine T ?_;intro a6 ah bn aD h a7 ai a8 aj;exact rt
 intro e a9 ak;have h:=V;refine gc h ?_ ?_<;>intro _ h
 · exact rt
 refine T ?_;intro bo aE h ba G;obtain ⟨C,K,W⟩:=ob h;refine CW.jn [0,5,8] [0,1] [(1,vI C)] G (h1:=?_) (h2:=?_)
 · have h:=K;refine CW.fl [0,1,5,8,32] fun e=>?_;refine gc h ?_ ?_<;>intro _ h
   · exact rt
   exact rt
 intro e bb H;have h:=W;refine gs ?_;obtain ⟨n,L,X⟩:=ob h;refine CW.cut (fun e wb=>∃ (b:Nat),En e [(1,vI C),(8,vS U R.length j),(11,.pointer (some ⟨b,0,none⟩))]∧St w0 [] wb [sl U j R,bx b 43 [vI n.1,vI n.2.1,vI n.2.2]]) ?_ ?_
 · have h:=L;refine dW ?_;have am:=H.drew;refine gb h fun bp M h=>?_;obtain ⟨aG,aW,ab,rfl,av,ax,az,rfl,aw⟩:=u.idx M;refine go ?_;refine T ?_;have ⟨bq,aF,h⟩:=ob h;refine AW.all (rs:=[6,10]) (by kernel_rfl) (by simp) ⟨?_,?_,trivial⟩
   · refine oA ?_;refine T ?_;intro bc an aK bd ao be ap;exact rt
   refine oA ?_;refine T ?_;intro aL bf aq;refine jP 6 ?_;refine T ?_;intro bg ar bi au;exact rt
 rintro e bj ⟨b,hE,k⟩;obtain ⟨e,rfl⟩:=hE.out;have h:=X;refine gb h fun br l h=>?_;obtain ⟨f,p,hae,ay,aA⟩:=k.hZ (α:=g7) (i:=0) rfl l;subst hae;refine go ?_;refine gb h fun aa m h=>?_;refine LW.se 2 k 0 l m (hM:=(je (fun w cs F hF=>by obtain ⟨rfl,rfl⟩:=hF;exact ⟨rfl,rfl⟩))) fun bk I=>?_;refine go ?_;replace h:=oi h;subst h;exact Rc tt tt ⟨(some ⟨f,p,none⟩),j,(show (.tuple #[vS (some ⟨f,p,none⟩) R.length j,.bool true]:Value)=.tuple #[vS (some ⟨f,p,none⟩) aa.length j,.bool true] by rw [gZ (oi m)]),I.pk [0]⟩
instance k_260:Ct prog 260:=⟨by kernel_rfl,@DZ⟩
theorem HZ {w0 N A M r} (h:sV N A M=some r) {f L g} (O:L=A.length) (u:rb w0 f g A) :
    gV prog 238 #[vS f L g,vI M] w0 (fun v w=>∃ X Z,v=vS X r.length Z∧St w0 [] w [sl X Z r]):=by
 subst O;unfold sV at h;refine gV.fn func238 fun e=>?_;have ar:=St.start w0;refine go ?_;refine LW.b0 (α:=Bool) ar ?_;intro cj cl cm bT hf;refine T ?_;intro co bV h cn au;refine gc h ?_ ?_<;>intro _ h
 · exact rt
 refine gb h fun bw ay h=>?_;refine LW.mk J1 rfl rfl ay au rfl ?_;intro ck j b3 aa hf;refine gb h fun cb H h=>?_;obtain ⟨b,d,hae,a2,a7⟩:=aa.hZ (α:=Bool) (i:=0) rfl H;subst hae;refine go ?_;have ⟨aA,I,h⟩:=ob h;refine LW.se 0 aa 0 H I (hM:=td) fun b4 av=>?_;refine go ?_;obtain ⟨bo,V,ae⟩:=ob h;refine CW.ie V 0 (fun k e wb=>En e [(0,vS f A.length g),(1,vI M),(5,vS (some ⟨b,d,none⟩) k.1.length j),(6,vI k.2)]∧St w0 [] wb [sl (some ⟨b,d,none⟩) j k.1]) ?_ ⟨⟨rfl,rfl,(show (vS (some ⟨b,d,none⟩) bw.length j:Value)=vS (some ⟨b,d,none⟩) aA.length j by rw [gZ (oi I)]),rfl,trivial⟩,av.pk [0]⟩ ?_
 · intro k e b5 o hM h;obtain ⟨e,rfl,aw⟩:=eo hM;refine jE [0,1,5,6,19] fun e=>?_;refine gc h ?_ ?_<;>intro _ h
   · refine go ?_;obtain ⟨bn,U,ad⟩:=ob h;refine CW.ie U 2 (fun m e wb=>En e [(0,vS f A.length g),(1,vI M),(5,vS (some ⟨b,d,none⟩) m.1.length j),(6,vI k.2),(7,vI m.2)]∧St w0 [] wb [sl (some ⟨b,d,none⟩) j m.1]) ?_ (aw.po [0]) ?_
     · intro m e b6 o hM h;obtain ⟨e,rfl,G⟩:=eo hM;refine gc h ?_ ?_<;>intro _ h
       · refine gs ?_;refine CW.block ?_;refine gs ?_;obtain ⟨az,am,aq⟩:=ob h;refine CW.jn [0,1,5,6,7] [0] [(44,.bool az)] G (h1:=?_) (h2:=?_)
         · have h:=am;refine gb h fun cc J h=>?_;obtain ⟨bI,bW,hae,a3,a9⟩:=G.hZ (α:=Bool) (i:=0) rfl J;cases hae;refine go ?_;obtain ⟨bz,l,ax⟩:=G.freeze (α:=Bool) 0 rfl;obtain ⟨bJ,bX,aH,hae,aT,_,_,aj,aX⟩:=l.jk.idx J;cases hae;obtain rfl:=aj;refine T ?_;refine bH h ?_ ?_<;>intro _ h
           · refine go ?_;have bU:=ax.iz (α:=Bool) 0 rfl l;exact rt
           refine gb h fun ce an h=>?_;obtain ⟨bK,bY,aI,rfl,aU,a4,ba,⟨bB,bO,bC,bP,bD,bQ,rfl,bd,be,bf⟩,aY⟩:=u.idx an;refine go ?_;refine T ?_;intro cf bj h b7 B;refine bH h ?_ ?_<;>intro _ h
           · refine go ?_;have aL:=B.iz (α:=Bool) 0 rfl l;exact rt
           refine go ?_;have aM:=B.iz (α:=Bool) 0 rfl l;exact rt
         intro e b8 aN;have h:=aq;refine gc h ?_ ?_<;>intro _ h
         · exact rt
         refine T ?_;intro ab bk h W Y b9 af;refine go ?_;obtain ⟨bm,R,ac⟩:=ob h;refine CW.ie R 4 (fun n e wb=>En e [(0,vS f A.length g),(1,vI M),(5,vS (some ⟨b,d,none⟩) n.1.length j),(6,vI k.2),(7,vI m.2),(8,vS W ab.length Y),(9,vI n.2)]∧St w0 [] wb [sl W Y ab,sl (some ⟨b,d,none⟩) j n.1]) ?_ (af.po [0,1]) ?_
         · intro n e ca o hM h;obtain ⟨e,rfl,C⟩:=eo hM;refine jE [0,1,5,6,7,8,9,51] fun e=>?_;refine gc h ?_ ?_<;>intro _ h
           · refine gb h fun cg K h=>?_;obtain ⟨bL,bZ,hae,a5,bb⟩:=C.hZ (α:=Int) (i:=0) rfl K;subst hae;refine go ?_;obtain ⟨bA,q,aO⟩:=C.freeze (α:=Int) 0 rfl;obtain ⟨bM,b1,aJ,hae,aV,_,_,ak,aZ⟩:=q.jk.idx K;cases hae;obtain rfl:=ak;refine T ?_;have ⟨ci,ao,h⟩:=ob h;obtain ⟨bN,b2,aK,rfl,aW,a6,bc,⟨bE,bR,bF,bS,bG,aG,rfl,bg,bi,aD⟩,a0⟩:=u.idx ao;refine go ?_;refine T ?_;intro bu aE h bp p;refine CW.fl [0,1,5,6,7,8,9,63] fun e=>?_;refine gc h ?_ ?_<;>intro _ h
             · refine go ?_;refine T ?_;have ⟨bv,x,h⟩:=ob h;obtain ⟨aF,bl,hae,aB,aC⟩:=p.hZ (α:=Bool) (i:=1) rfl x;cases hae;refine go ?_;have ⟨ap,z,h⟩:=ob h;refine LW.se 0 p 1 x z (hM:=td) fun bq ah=>?_;refine go ?_;replace h:=oi h;subst h;have ai:=ah.iz (α:=Int) 0 rfl q;exact ⟨rfl,⟨⟨rfl,rfl,(show (vS (some ⟨b,d,none⟩) n.1.length j:Value)=vS (some ⟨b,d,none⟩) ap.length j by rw [gZ (oi z)]),rfl,rfl,rfl,rfl,trivial⟩,ai.pk [0,1]⟩⟩
             refine go ?_;have aP:=p.iz (α:=Int) 0 rfl q;exact rt
           exact rt
         rintro e br ⟨hE,aQ⟩;obtain ⟨e,rfl⟩:=hE.out;have h:=ac;exact rt
       exact rt
     rintro e bs ⟨hE,aR⟩;obtain ⟨e,rfl⟩:=hE.out;have h:=ad;exact rt
   exact rt
 rintro e bt ⟨hE,aS⟩;obtain ⟨e,rfl⟩:=hE.out;have h:=ae;exact rt
instance k_238:Ct prog 238:=⟨by kernel_rfl,@HZ⟩
theorem wi {w0 N b M r} (h:lU N b M=some r) {d u l} (G:u=b.NZ.NY.length) (O:rb w0 d l b.NZ.NY) {f x m} (H:x=b.own.length) (R:rb w0 f m b.own) {g z n} (I:z=b.N1.length) (U:rb w0 g n b.N1) {i A o} (J:A=b.py.ag.length) (V:rb w0 i o b.py.ag) {j B p} (K:B=b.py.gc.gQ.length) (W:rb w0 j p b.py.gc.gQ) {k C q} (L:C=b.gR.length) (X:rb w0 k q b.gR) :
    gV prog 248 #[.agg #[vS d u l,vS f x m,vS g z n,vS i A o,vI b.py.gc.N2,vI b.py.gc.Oa,vI b.py.gc.N3,vS j B p,vS k C q,vI b.N6,vI b.N7,vI b.bh.gE,vI b.bh.gT,vI b.bh.g8,vI b.gW,vI b.N5],vI M] w0 (fun v w=>v=vI r∧St w0 [] w []):=by
 subst G H I J K L;unfold lU at h;refine gV.fn func248 fun e=>?_;have Y:=St.start w0;refine T ?_;intro ac ad Z af ab h ae aa;refine gc h ?_ ?_<;>intro _ h
 · exact rt
 exact rt
instance k_248:Ct prog 248:=⟨by kernel_rfl,@wi⟩
theorem E1 {w0} {F:List Nat} {N k aF r} (h:rV N k aF=some r) {C ab m} (ae:ab=k.ag.length) {G ac H} (af:ac=k.gc.gQ.length) (hS:St w0 F w0 [sl C m k.ag,sl G H k.gc.gQ]) :
    gV prog 312 #[.agg #[vS C ab m,vI k.gc.N2,vI k.gc.Oa,vI k.gc.N3,vS G ac H],vI aF] w0 (fun v w=>∃ q z, ∃ x A,v=.agg #[vS q r.ag.length z,vI r.gc.N2,vI r.gc.Oa,vI r.gc.N3,vS x r.gc.gQ.length A]∧St w0 F w [sl q z r.ag,sl x A r.gc.gQ]):=by
 subst ae af;unfold rV at h;refine gV.fn func312 fun e=>?_;refine T ?_;intro aJ cL ci aK cM am;refine gc h ?_ ?_<;>intro _ h
 · refine T ?_;intro cN cj cO ck cP cm;exact rt
 refine gb h fun cQ an h=>?_;obtain ⟨b5,co,hae,bs,bz⟩:=am.hZ (α:=Int) (i:=3) rfl an;subst hae;refine go ?_;obtain ⟨bY,R,aM⟩:=am.freeze (α:=Int) 3 rfl;obtain ⟨b6,cp,a6,hae,bl,_,_,ay,bo⟩:=R.jk.idx an;cases hae;obtain rfl:=ay;refine T ?_;have aN:=aM.iz (α:=Int) 3 rfl R;have ⟨cE,V,h⟩:=ob h;obtain ⟨ad,aG,aI,aC,aD,cn⟩:=aN.uL (α:=Int) 3 rfl V;refine LW.u (iq.sub (α:=Int) (l:=k.gc.gQ) underlying32 FJ rfl uO (uN rfl) V ad aC aD) rfl ?_;refine T ?_;intro cx O;obtain ⟨aO,aE,aL⟩:=ob h;refine CW.jn [1,2,4,6] [0,1,2,3] [(44,.bool aO)] O (h1:=?_) (h2:=?_)
 · have h:=aE;refine gB h ?_ ?_<;>intro _ h
   · refine gb h fun cF W h=>?_;obtain ⟨b7,cq,hae,bt,bA⟩:=O.hZ (α:=gP) (i:=2) rfl W;subst hae;refine go ?_;obtain ⟨bZ,U,ba⟩:=O.freeze (α:=gP) 2 rfl;obtain ⟨b8,cr,a7,hae,bm,_,_,az,bp⟩:=U.jk.idx W;cases hae;obtain ⟨b2,ce,b3,cf,b4,cg,rfl,bE,bF,bG⟩:=az;refine T ?_;intro cG bI h cy aq;have bb:=aq.iz (α:=gP) 2 rfl U;exact rt
   exact rt
 intro e cz bc;have h:=aL;refine gc h ?_ ?_<;>intro _ h
 · refine T ?_;intro cA bd;exact rt
 refine T ?_;intro ao bJ h aj ak cB I;have ⟨cH,X,h⟩:=ob h;obtain ⟨aH,aP,hae,bu,bB⟩:=I.hZ (α:=gP) (i:=3) rfl X;subst hae;refine go ?_;refine gb h fun cI Y h=>?_;refine LW.se 9 I 3 X Y (hM:=(je (fun w cs F hF=>by obtain ⟨bL,bO,bM,bP,bN,bQ,rfl,hH⟩:=hF;exact ⟨bL,bO,bM,bP,bN,bQ,rfl,hH⟩))) fun cC J=>?_;refine go ?_;rw [gZ (oi Y)] at J;obtain ⟨bK,ah,ap⟩:=ob h;refine CW.ie ah 0 (fun b e wb=>∃ (d:Ad) (g:Nat) (f:Ad) (j:Nat),En e [(1,vI aF),(2,.pointer (some ⟨aJ,0,none⟩)),(4,.pointer (some ⟨aK,0,none⟩)),(7,vS aj ao.length ak),(8,vI b.1)]∧St w0 F wb [sl aj ak ao,bx aK 40 [vS none 0 0,vI 0,vI 0,vI 0,vS none 0 0],bx aJ 40 [vS d b.2.1.length g,vI b.2.2.1,vI b.2.2.2.1,vI b.2.2.2.2.1,vS f b.2.2.2.2.2.length j],sl d g b.2.1,sl f j b.2.2.2.2.2]) ?_ ⟨(some ⟨aH,aP,none⟩),m,aG,aI,J.po [0,1,2,3,4]⟩ ?_
 · intro b e cD o hM h;obtain ⟨d,g,f,j,hE,ar⟩:=hM;obtain ⟨e,rfl⟩:=hE.out;refine jE [1,2,4,7,8,58] fun e=>?_;refine gc h ?_ ?_<;>intro _ h
   · refine jA ?_;have K:=ar.drew;refine gb h fun cJ Z h=>?_;obtain ⟨b9,ct,hae,bv,bC⟩:=K.hZ (α:=Int) (i:=0) rfl Z;subst hae;refine go ?_;obtain ⟨b0,n,L⟩:=K.freeze (α:=Int) 0 rfl;obtain ⟨ca,cu,a8,hae,bn,_,_,aA,bq⟩:=n.jk.idx Z;cases hae;obtain rfl:=aA;refine T ?_;have ⟨cK,aa,h⟩:=ob h;obtain ⟨cb,cv,hae,bw,bD⟩:=L.hZ (α:=gP) (i:=3) rfl aa;subst hae;refine go ?_;obtain ⟨b1,p,be⟩:=L.freeze (α:=gP) 3 rfl;obtain ⟨cc,cw,a9,hae,aQ,_,_,aB,br⟩:=p.jk.idx aa;cases hae;obtain ⟨aW,a1,aX,a2,aY,a3,rfl,aR,aS,aT⟩:=aB;refine T ?_;intro bW aU h bR M;refine gc h ?_ ?_<;>intro _ h
     · refine dW ?_;have au:=M.drew;refine go ?_;refine T ?_;have ⟨bX,ai,h⟩:=ob h;have av:=au.iz (α:=gP) 3 rfl p;obtain ⟨aV,B⟩:=av.mZ [3,4] [0,1,2];refine T ?_;refine LW.cl (yh ai rfl rfl B.st) ?_;rintro _ bS ⟨aZ,a4,a0,a5,rfl,hs⟩;have bf:=B.back _ _ hs;refine T ?_;intro bT aw;have bg:=aw.iz (α:=Int) 2 rfl n;exact rt
     refine go ?_;have ax:=M.iz (α:=gP) 3 rfl p;have bi:=ax.iz (α:=Int) 0 rfl n;exact rt
   exact rt
 rintro e bU ⟨d,g,f,j,hE,bj⟩;obtain ⟨e,rfl⟩:=hE.out;have h:=ap;refine T ?_;intro bV bk;exact rt
instance k_312:Ct prog 312:=⟨by kernel_rfl,@E1⟩
theorem zb {w0 N b B r} (h:oy N b B=some r) {j n l} (p:n=b.ag.length) (C:rb w0 j l b.ag) {k o m} (q:o=b.gc.gQ.length) (G:rb w0 k m b.gc.gQ) :
    gV prog 247 #[.agg #[vS j n l,vI b.gc.N2,vI b.gc.Oa,vI b.gc.N3,vS k o m],vI B] w0 (fun v w=>∃ d g, ∃ f i,v=.agg #[vS d r.ag.length g,vI r.gc.N2,vI r.gc.Oa,vI r.gc.N3,vS f r.gc.gQ.length i]∧St w0 [] w [sl d g r.ag,sl f i r.gc.gQ]):=by
 subst p q;unfold oy at h;refine gV.fn func247 fun e=>?_;have X:=St.start w0;refine T ?_;intro aA aC Y aB aD Z aE af h aw ay ax az ah aa W ai ab aj z;obtain ⟨A,u,x⟩:=ob h;refine CW.jn [1,4,5] [0,1,2,3] [(15,.bool A)] z (h1:=?_) (h2:=?_)
 · have h:=u;refine T ?_;intro ar K h ak ac;refine bH h ?_ ?_<;>intro _ h
   · exact rt
   refine T ?_;intro au L h am ad;exact rt
 intro e an ae;have h:=x;refine gc h ?_ ?_<;>intro _ h
 · refine T ?_;intro ao H;exact rt
 refine T ?_;intro av M h O U R V ap I aq J;exact rt
instance k_247:Ct prog 247:=⟨by kernel_rfl,@zb⟩
end Go.Kx
