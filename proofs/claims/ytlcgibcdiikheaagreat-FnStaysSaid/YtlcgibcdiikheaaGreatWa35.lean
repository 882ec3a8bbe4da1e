import Derived.Test.YtlcgibcdiikheaaGreatWa32
import Derived.Test.YtlcgibcdiikheaaGreatWa33
namespace Go.Kx
open Go Go.RowKit Go.Proofs
open Go.IntKind (i64)
open Tryz
set_option maxRecDepth 10000
set_option maxHeartbeats 8000000
set_option linter.unusedVariables false
set_option linter.unusedSimpArgs false
theorem wD {w0 N ay d r} (h:pU N ay d=some r) {X ai Y} (ak:ai=ay.length) (R:rb w0 X Y ay) {f U k} (ac:U=d.gZ.length) (aF:rb w0 f k d.gZ) {g V l} (ad:V=d.QV.length) (aG:rb w0 g l d.QV) {j W m} (ae:W=d.QU.length) (aH:rb w0 j m d.QU) :
    g8 prog 264 #[vS X ai Y,.agg #[vI d.Q3,vI d.py,vI d.box,vI d.res,vI d.iF,vI d.bh,vI d.QW,vI d.iK,vI d.iG,.bool d.mark,vS f U k,vS g V l,vS j W m]] w0 (fun v w=>∃ B K,v=.tuple #[vS B r.1.length K,vI r.2]∧St w0 [] w [sl B K r.1]):=by
 subst ak ac ad ae;unfold pU at h;refine g8.fn func264 fun e=>?_;have bs:=St.start w0;refine T ?_;intro aA bW bt az bB h bV Z bX bu bZ bC h bY aD;refine gc h ?_ ?_<;>intro _ h
 · exact rt
 refine go ?_;obtain ⟨ao,av,an⟩:=ob h;refine CW.mono (CW.lx [0,3,6] [0,1] [6] 0 (fun O=>[(7,vI O)]) (fun r x e wb=>x=.ret∧∃ u,u=r∧∃ v,lk prog f264.results e wb v∧∃ B K,v=.tuple #[vS B u.1.length K,vI u.2]∧St w0 [] wb [sl B K u.1]) aD av (hb:=?_)) ?_
 · intro O e bG o aE h;refine kS [0,3,6,7,18] fun e=>?_;refine gc h ?_ ?_<;>intro _ h
   · refine gs ?_;refine CW.block ?_;refine gs ?_;obtain ⟨aI,ar,aB⟩:=ob h;refine CW.jn [0,3,6,7] [0,1] [(34,.bool aI)] aE (h1:=?_) (h2:=?_)
     · have h:=ar;refine gb h fun bS aw h=>?_;obtain ⟨bj,bD,aM,rfl,aR,aV,aY,⟨bb,bl,bc,bm,bd,bn,rfl,a1,a2,a3⟩,aT⟩:=R.idx aw;refine go ?_;refine T ?_;refine bH h ?_ ?_<;>intro _ h
       · exact rt
       refine go ?_;refine T ?_;exact rt
     intro e bI bv;have h:=aB;refine gc h ?_ ?_<;>intro _ h
     · exact rt
     refine T ?_;intro b a8 h p H q I A J bJ bw am bK bz bL bA;have ⟨aj,ax,h⟩:=ob h;obtain ⟨bk,bE,aN,rfl,aS,aW,aZ,⟨be,bo,bf,bp,bg,bq,rfl,a5,a6,a7⟩,aU⟩:=R.idx ax;refine go ?_;refine T ?_;intro bM aa;have ⟨aK,af,h⟩:=ob h;obtain ⟨C,n,hae,aX,a0⟩:=aa.iu (α:=gE) (i:=4) rfl af;subst hae;refine go ?_;have ap:=aa.pk (M:=[sl p H b.gZ,sl q I b.QV,sl A J b.QU]++[bx am 101 [vI (i64.wrap (aj.Q3+1)),vI b.py,vI b.box,vI b.res,vI b.iF,vI b.bh,vI b.QW,vI b.iK,vI b.iG,.bool b.mark,vS p b.gZ.length H,vS q b.QV.length I,vS A b.QU.length J],sl (some ⟨C,n,none⟩) Z az,bx aA 101 (qO f k g l j m d)]) [1,2,3,0,4,5];have ⟨aL,ah,h⟩:=ob h;refine LW.x6 (M:=[sl p H b.gZ,sl q I b.QV,sl A J b.QU]) (L:=[bx am 101 [vI (i64.wrap (aj.Q3+1)),vI b.py,vI b.box,vI b.res,vI b.iF,vI b.bh,vI b.QW,vI b.iK,vI b.iG,.bool b.mark,vS p b.gZ.length H,vS q b.QV.length I,vS A b.QU.length J],sl (some ⟨C,n,none⟩) Z az,bx aA 101 (qO f k g l j m d)]) (z:=aK) (z':=(gE.mk (i64.wrap (aj.Q3+1)) b.py b.box b.res b.iF b.bh b.QW b.iK b.iG b.mark b.gZ b.QV b.QU)) (o:=0) ap (i:=1) rfl af yt rfl (by show _=n+(O:Int).toNat * 13+0;omega) rfl rfl rfl rfl (whole (fun w G hG=>⟨p,H,q,I,A,J,rfl,hG⟩)) ?_;intro bN ab hf;rw [oi ah] at ab;refine gs ?_;obtain ⟨aJ,au,aC⟩:=ob h;refine CW.jn [0,6,7] [1] [(55,.bool aJ)] ab (h1:=?_) (h2:=?_)
     · have h:=au;refine T ?_;intro bT a9 h bO aO;refine bH h ?_ ?_<;>intro _ h
       · exact rt
       exact rt
     intro e bP aq;have h:=aC;refine kS [0,6,7,55] fun e=>?_;refine gc h ?_ ?_<;>intro _ h
     · refine T ?_;intro bU ba h bi br bQ aP;exact rt
     refine go ?_;replace h:=oi h;subst h;exact ⟨trivial,rfl,_,rfl,ry tt tt ⟨(some ⟨C,n,none⟩),Z,(show (.tuple #[vS (some ⟨C,n,none⟩) az.length Z,vI O]:Value)=.tuple #[vS (some ⟨C,n,none⟩) aL.length Z,vI O] by rw [iv (oi ah)]),aq.pk [0]⟩⟩
   exact rt
 intro x e bR hM;rcases ao with ao | bF
 · obtain ⟨rfl,hM⟩:=hM;obtain ⟨e,rfl,aQ⟩:=eo hM;have h:=an;exact rt
 obtain ⟨rfl,u,rfl,hM⟩:=hM;cases an;exact And.intro trivial hM
instance k_264:Ct prog 264:=⟨by kernel_rfl,@wD⟩
theorem yW {w0 N b r} (h:m6 N b=some r) {B W K} (ac:W=b.QQ.so.length) (ao:rb w0 B K b.QQ.so) {C X L} (ad:X=b.own.length) (ap:rb w0 C L b.own) {G Y M} (ae:Y=b.QR.length) (aq:rb w0 G M b.QR) {H Z O} (af:Z=b.heap.ag.length) (ar:rb w0 H O b.heap.ag) {I aa R} (ah:aa=b.heap.gc.gQ.length) (au:rb w0 I R b.heap.gc.gQ) {J ab U} (ai:ab=b.gR.length) (aj:rb w0 J U b.gR) :
    g8 prog 142 #[.agg #[vS B W K,vS C X L,vS G Y M,vS H Z O,vI b.heap.gc.QS,vI b.heap.gc.Q0,vI b.heap.gc.QT,vS I aa R,vS J ab U,vI b.QZ,vI b.QY,vI b.gP.bh,vI b.gP.gS,vI b.gP.gW,vI b.hY,vI b.QX]] w0 (fun v w=>∃ d o, ∃ f p, ∃ g q, ∃ j x, ∃ k z, ∃ n A,v=.agg #[vS d r.QQ.so.length o,vS f r.own.length p,vS g r.QR.length q,vS j r.heap.ag.length x,vI r.heap.gc.QS,vI r.heap.gc.Q0,vI r.heap.gc.QT,vS k r.heap.gc.gQ.length z,vS n r.gR.length A,vI r.QZ,vI r.QY,vI r.gP.bh,vI r.gP.gS,vI r.gP.gW,vI r.hY,vI r.QX]∧St w0 [] w [sl d o r.QQ.so,sl f p r.own,sl g q r.QR,sl j x r.heap.ag,sl k z r.heap.gc.gQ,sl n A r.gR]):=by
 subst ac ad ae af ah ai;unfold m6 at h;refine g8.fn func142 fun e=>?_;have aO:=St.start w0;refine T ?_;intro bf bi aP bg bj an;refine dW ?_;have aQ:=an.drew;refine go ?_;refine jP 2 ?_;refine T ?_;intro bl aW h bd be bk aR;refine AW.u (i:=12) rfl (by kernel_rfl) rfl rfl (iM.fa ON rfl) ?_;refine jP 5 ?_;refine T ?_;intro bm aX h aC aI aY aS ba aA h aD aJ aZ aT bb aB h aE aK aF aL a0 aU a1 aV a2 av a3 aw a4 ak;refine LW.b0 (α:=i7) ak ?_;intro aG aM a5 V hf;refine gb h fun bc am h=>?_;refine LW.km (l:=([]:List i7)) (m:=b.gR) xH rfl rfl (V.rB aj) am V (i:=0) rfl rfl ?_;intro aH aN a7 ax hf;refine T ?_;intro a8 ay a9 az;exact rt
instance k_142:Ct prog 142:=⟨by kernel_rfl,@yW⟩
theorem IT {w0 N j r} (h:nF N j=some r) {d k f} (l:k=j.length) (i:rb w0 d f j) :
    g8 prog 244 #[vS d k f] w0 (fun v w=>v=.bool r∧St w0 [] w []):=by
 subst l;unfold nF at h;refine g8.fn func244 fun e=>?_;have B:=St.start w0;refine gs ?_;refine CW.region ?_;refine gs ?_;obtain ⟨ah,H,h2⟩:=ob h;refine CW.jn [0] [] [(22,.bool ah)] B (h1:=?_) (h2:=?_)
 · have h:=H;refine gB h ?_ ?_<;>intro _ h
   · exact rt
   refine gb h fun aR I h=>?_;obtain ⟨aP,aQ,aj,rfl,W,au,av,rfl,Y⟩:=i.idx I;refine go ?_;refine T ?_;refine bH h ?_ ?_<;>intro _ h
   · exact rt
   refine go ?_;refine T ?_;exact rt
 intro e ay am;have h:=h2;refine gc h ?_ ?_<;>intro _ h
 · exact rt
 refine jX [] #[vI 0,vI 0,vI 0] ?_;refine T ?_;intro g az an aA C;refine go ?_;obtain ⟨n,q,m⟩:=ob h;refine CW.it q (fun b e wb=>En e [(0,vS d j.length f),(3,.pointer (some ⟨g,0,none⟩)),(24,vS d j.length f),(25,vI (j.length:Int)),(26,vI b.1)]∧St w0 [] wb [bx g 48 [vI b.2.1,vI b.2.2.1,vI b.2.2.2]]) (fun o x e wb=>match o with | .inl b=>x=.exit 0∧En e [(3,.pointer (some ⟨g,0,none⟩))]∧St w0 [] wb [bx g 48 [vI b.2.1,vI b.2.2.1,vI b.2.2.2]] | .inr r=>x=.ret∧∃ u,u=r∧∃ v,lk prog f244.results e wb v∧v=.bool u∧St w0 [] wb []) ?_ (C.po [0]) ?_
 · intro b e aB o hM h;obtain ⟨e,rfl,ao⟩:=eo hM;refine gc h ?_ ?_<;>intro _ h
   · refine gb h fun K z h=>?_;obtain ⟨ai,aw,L,rfl,X,aa,ab,rfl,Z⟩:=i.idx z;refine go ?_;refine T ?_;intro ak aC ap aD G;refine CW.fl [0,3,4,5,24,25,26,33] fun e=>?_;refine gc h ?_ ?_<;>intro _ h
     · refine jX [] #[.bool false,vI 0,vI 0,vI 0,vI 0] ?_;refine LW.u (iM.OA MR rfl rfl (fun w=>Mv K (g6.mk false 0 (gT.mk 0 0 0)) w)) rfl ?_;refine gc h ?_ ?_<;>intro _ h
       · exact rt
       exact rt
     refine gs ?_;obtain ⟨J,p,A⟩:=ob h;refine CW.jn [0,3,5,24,25,26] [0,1] [(46,.bool J)] G (h1:=?_) (h2:=?_)
     · have h:=p;refine T ?_;intro aL ac h aE aq;refine bH h ?_ ?_<;>intro _ h
       · exact rt
       refine T ?_;intro aM ad h aF ar;exact rt
     intro e aG M;have h:=A;refine gc h ?_ ?_<;>intro _ h
     · exact rt
     refine T ?_;intro aN ae h aH O aI R;exact rt
   exact rt
 intro x e aJ hM;rcases n with n | ax
 · obtain ⟨rfl,hM⟩:=hM;obtain ⟨e,rfl,U⟩:=eo hM;have h:=m;refine T ?_;intro aO af h aK V;exact rt
 obtain ⟨rfl,u,rfl,hM⟩:=hM;cases m;exact And.intro trivial hM
instance k_244:Ct prog 244:=⟨by kernel_rfl,@IT⟩
theorem GK {w0 N M r} (h:pN N M=some r) {d j f} (m:j=M.length) (b:rb w0 d f M) :
    g8 prog 313 #[vS d j f] w0 (fun v w=>v=.bool r∧St w0 [] w []):=by
 subst m;unfold pN at h;refine g8.fn func313 fun e=>?_;have U:=St.start w0;refine gs ?_;refine CW.region ?_;refine gs ?_;obtain ⟨aX,Z,h2⟩:=ob h;refine CW.jn [0] [] [(30,.bool aX)] U (h1:=?_) (h2:=?_)
 · have h:=Z;refine gB h ?_ ?_<;>intro _ h
   · exact rt
   refine gb h fun bT aa h=>?_;obtain ⟨bR,bS,bq,rfl,ay,bw,bz,⟨a3,bg,a4,bi,a5,bj,rfl,aO,aP,aQ⟩,aC⟩:=b.idx aa;refine go ?_;refine T ?_;refine bH h ?_ ?_<;>intro _ h
   · exact rt
   refine go ?_;refine T ?_;refine bH h ?_ ?_<;>intro _ h
   · exact rt
   refine go ?_;refine T ?_;exact rt
 intro e bE V;have h:=h2;refine gc h ?_ ?_<;>intro _ h
 · exact rt
 refine go ?_;obtain ⟨l,p,i⟩:=ob h;refine CW.mono (CW.lx [0,31,32] [] [] 0 (fun q=>[(33,vI q)]) (RT prog f313.results (fun u=>.bool u) w0 []) V p (hb:=?_)) ?_
 · intro q e bF o bs h;refine gc h ?_ ?_<;>intro _ h
   · refine gb h fun bM I h=>?_;obtain ⟨bc,bA,aq,rfl,az,aG,aK,⟨a6,bk,a7,bl,a8,bm,rfl,H,aR,aS⟩,aD⟩:=b.idx I;refine go ?_;refine T ?_;intro br bG bt bI W;obtain ⟨ab,C,O⟩:=ob h;refine CW.jn [0,4,31,32,33] [0] [(63,.bool ab)] W (h1:=?_) (h2:=?_)
     · have h:=C;refine T ?_;intro bN aW h bJ bu;refine bH h ?_ ?_<;>intro _ h
       · exact rt
       refine gB h ?_ ?_<;>intro _ h
       · refine go ?_;refine bH h ?_ ?_<;>intro _ h
         · refine gB h ?_ ?_<;>intro _ h
           · refine gb h fun bO J h=>?_;obtain ⟨bd,bB,ar,hae,aA,aH,aL,A,aE⟩:=b.idx J;cases hae;obtain ⟨a9,bn,ba,bo,bb,bp,rfl,aT,aU,aV⟩:=A;refine go ?_;refine T ?_;exact rt
           exact rt
         exact rt
       exact rt
     intro e bK X;have h:=O;refine gc h ?_ ?_<;>intro _ h
     · exact rt
     refine go ?_;obtain ⟨k,n,g⟩:=ob h;refine CW.mono (CW.lx [0,31,32,33,65,66] [] [0,31,32,33] 2 (fun z=>[(67,vI z)]) (RT prog f313.results (fun u=>.bool u) w0 []) X n (hb:=?_)) ?_
     · intro z e bL o Y h;refine kS [0,31,32,33,65,66,67,68] fun e=>?_;refine gc h ?_ ?_<;>intro _ h
       · refine gb h fun bP K h=>?_;obtain ⟨be,bC,au,rfl,aB,aI,aM,rfl,aF⟩:=H.idx K;refine go ?_;refine T ?_;obtain ⟨ac,G,R⟩:=ob h;refine CW.jn [0,31,32,33,65,66,67] [] [(80,.bool ac)] Y (h1:=?_) (h2:=?_)
         · have h:=G;refine gB h ?_ ?_<;>intro _ h
           · refine gb h fun bQ L h=>?_;obtain ⟨bf,bD,av,hae,ad,aJ,aN,B,ae⟩:=b.idx L;cases hae;obtain ⟨aj,an,ak,ao,am,ap,rfl,af,ah,ai⟩:=B;refine go ?_;refine T ?_;exact rt
           exact rt
         intro e a0 bv;have h:=R;refine gc h ?_ ?_<;>intro _ h
         · exact rt
         exact rt
       exact rt
     intro x e a1 hM;rcases k with k | aY
     · obtain ⟨rfl,hM⟩:=hM;obtain ⟨e,rfl,aw⟩:=eo hM;have h:=g;exact rt
     obtain ⟨rfl,u,rfl,hM⟩:=hM;cases g;exact ⟨trivial,rfl,_,rfl,hM⟩
   exact rt
 intro x e a2 hM;rcases l with l | aZ
 · obtain ⟨rfl,hM⟩:=hM;obtain ⟨e,rfl,ax⟩:=eo hM;rw [show e=iy e [] from rfl];have h:=i;exact rt
 obtain ⟨rfl,u,rfl,hM⟩:=hM;cases i;exact And.intro trivial hM
instance k_313:Ct prog 313:=⟨by kernel_rfl,@GK⟩
theorem BF {w0 N b r} (h:pe N b=some r) {m K A} (Y:K=b.QQ.so.length) (aD:rb w0 m A b.QQ.so) {n O B} (Z:O=b.own.length) (aE:rb w0 n B b.own) {p R C} (aa:R=b.QR.length) (aF:rb w0 p C b.QR) {q U H} (ab:U=b.heap.ag.length) (k:rb w0 q H b.heap.ag) {x V I} (ac:V=b.heap.gc.gQ.length) (aG:rb w0 x I b.heap.gc.gQ) {z W J} (ad:W=b.gR.length) (aH:rb w0 z J b.gR) :
    g8 prog 321 #[.agg #[vS m K A,vS n O B,vS p R C,vS q U H,vI b.heap.gc.QS,vI b.heap.gc.Q0,vI b.heap.gc.QT,vS x V I,vS z W J,vI b.QZ,vI b.QY,vI b.gP.bh,vI b.gP.gS,vI b.gP.gW,vI b.hY,vI b.QX]] w0 (fun v w=>∃ ai an,v=vS ai r.length an∧St w0 [] w [sl ai an r]):=by
 subst Y Z aa ab ac ad;unfold pe at h;refine g8.fn func321 fun e=>?_;have aY:=St.start w0;refine T ?_;intro bi bj ay;refine LW.b0 (α:=qt) ay ?_;intro aI aK bk az hf;refine go ?_;refine LW.u (iM.min rfl rfl) rfl ?_;have ⟨aC,ao,h⟩:=ob h;obtain ⟨aJ,aL,aB,ap,ar⟩:=iV.wy k ao;have X:=(k).le;refine LW.u (iM.sub (α:=gE) (l:=b.heap.ag) underlying41 Bi rfl xA (xy rfl) ao X aB ap) rfl ?_;refine go ?_;obtain ⟨a6,aq,ax⟩:=ob h;refine CW.ie aq 0 (fun j e wb=>∃ (f:Ad) (g:Nat),En e [(3,vS f j.1.length g),(15,vS aJ aC.length aL),(16,vI (aC.length:Int)),(17,vI j.2)]∧St w0 [] wb [sl f g j.1]) ?_ ⟨aI,aK,az.po [0]⟩ ?_
 · intro j e a9 o hM h;obtain ⟨f,g,hE,aZ⟩:=hM;obtain ⟨e,rfl⟩:=hE.out;refine kS [3,15,16,17,18] fun e=>?_;refine gc h ?_ ?_<;>intro _ h
   · refine gb h fun d au h=>?_;obtain ⟨aW,a5,aM,rfl,aN,aP,aQ,⟨ae,aj,af,ak,ah,am,rfl,aR,aS,aT⟩,aO⟩:=ar.idx au;refine go ?_;refine T ?_;intro aw ba a0 bb a1 bf aU h bc aA;refine gc h ?_ ?_<;>intro _ h
     · refine gb h fun bg av h=>?_;refine LW.kX (M:=[]) (L:=[bx aw 101 (qO ae aj af ak ah am d),sl f g j.1]) (vs:=#[vI d.Q3,vI d.py,vI d.box,vI d.res,vI d.iF,vI d.bh,vI d.QW,vI d.iK,vI d.iG,.bool d.mark,vS ae d.gZ.length aj,vS af d.QV.length ak,vS ah d.QU.length am]) (i:=1) PK rfl (by kernel_rfl) rfl rfl av aA rfl (fun w G hG=>by cases (show G=[] from hG);exact ⟨⟨_,_,_,_,_,_,_,_,_,rfl⟩,rfl⟩) rfl rfl ?_;intro a8 aV aX bd a2 hf;exact rt
     exact rt
   exact rt
 rintro e be ⟨f,g,hE,a4⟩;obtain ⟨e,rfl⟩:=hE.out;have h:=ax;exact rt
instance k_321:Ct prog 321:=⟨by kernel_rfl,@BF⟩
theorem IX {w0 N b d r} (h:u9 N b d=some r) :
    g8 prog 312 #[.agg #[vI b.bh,vI b.gS,vI b.gW],.agg #[vI d.bh,vI d.gS,vI d.gW]] w0 (fun v w=>v=.tuple #[.agg #[vI r.1.bh,vI r.1.gS,vI r.1.gW],.bool r.2]∧St w0 [] w []):=by
 unfold u9 at h;refine g8.fn func312 fun e=>?_;have f:=St.start w0;refine T ?_;intro q z g u A i x B j G n h C k;refine gc h ?_ ?_<;>intro _ h
 · refine T ?_;intro o l;exact rt
 refine jX [(0,vI (i64.wrap (b.bh - d.bh))),(1,vI (i64.wrap (b.gS - d.gS))),(2,vI (i64.wrap (b.gW - d.gW)))] #[vI (i64.wrap (b.bh - d.bh)),vI (i64.wrap (b.gS - d.gS)),vI (i64.wrap (b.gW - d.gW))] ?_;refine T ?_;intro p m;exact rt
instance k_312:Ct prog 312:=⟨by kernel_rfl,@IX⟩
theorem Il {w0 N k r} (h:sx N k=some r) {d m f} (n:m=k.length) (i:rb w0 d f k) :
    g8 prog 46 #[vS d m f] w0 (fun v w=>v=.bool r∧St w0 [] w []):=by
 subst n;unfold sx at h;refine g8.fn func46 fun e=>?_;have aO:=St.start w0;refine jX [] #[vI 0,vI 0,vI 0] ?_;refine T ?_;intro l bf aP bg J;refine go ?_;obtain ⟨q,B,p⟩:=ob h;refine CW.it B (fun b e wb=>En e [(0,vS d k.length f),(3,.pointer (some ⟨l,0,none⟩)),(4,vI b.1)]∧St w0 [] wb [bx l 48 [vI b.2.1,vI b.2.2.1,vI b.2.2.2]]) (fun o x e wb=>match o with | .inl b=>x=.exit 0∧En e [(0,vS d k.length f)]∧St w0 [] wb [bx l 48 [vI b.2.1,vI b.2.2.1,vI b.2.2.2]] | .inr r=>x=.ret∧∃ u,u=r∧∃ v,lk prog f46.results e wb v∧v=.bool u∧St w0 [] wb []) ?_ (J.po [0]) ?_
 · intro b e bi o hM h;obtain ⟨e,rfl,K⟩:=eo hM;refine gs ?_;obtain ⟨aB,O,W⟩:=ob h;refine CW.jn [0,3,4] [0] [(15,.bool aB)] K (h1:=?_) (h2:=?_)
   · have h:=O;refine gB h ?_ ?_<;>intro _ h
     · exact rt
     exact rt
   intro e bj L;have h:=W;refine gc h ?_ ?_<;>intro _ h
   · refine gs ?_;refine CW.block ?_;refine gs ?_;obtain ⟨R,z,H⟩:=ob h;refine CW.jn [0,3,4] [0] [(33,.bool R)] L (h1:=?_) (h2:=?_)
     · have h:=z;refine gb h fun a9 C h=>?_;obtain ⟨aG,aT,U,rfl,ai,an,ap,⟨aC,aI,aD,aJ,rfl,ar,au⟩,ak⟩:=i.idx C;refine go ?_;refine T ?_;intro ba ax h aW aQ;refine bH h ?_ ?_<;>intro _ h
       · exact rt
       refine go ?_;refine T ?_;intro bb ay h aX aR;exact rt
     intro e aY M;have h:=H;refine gc h ?_ ?_<;>intro _ h
     · exact rt
     refine gs ?_;obtain ⟨j,A,I⟩:=ob h;refine CW.cut (fun e wb=>∃ (g:Nat),En e [(0,vS d k.length f),(3,.pointer (some ⟨l,0,none⟩)),(4,vI b.1),(5,.pointer (some ⟨g,0,none⟩)),(6,.bool j.2.2.2)]∧St w0 [] wb [bx l 48 [vI b.2.1,vI b.2.2.1,vI b.2.2.2],bx g 48 [vI j.1,vI j.2.1,vI j.2.2.1]]) ?_ ?_
     · have h:=A;refine dW ?_;have aS:=M.drew;refine gb h fun bc G h=>?_;obtain ⟨aH,aU,V,rfl,aj,ao,aq,⟨aE,aK,aF,aL,rfl,av,aw⟩,am⟩:=i.idx G;refine go ?_;refine T ?_;have ⟨bd,az,h⟩:=ob h;refine AW.all (rs:=[6,10]) (by kernel_rfl) (by simp) ⟨?_,?_,trivial⟩
       · refine oA ?_;refine T ?_;intro aZ X aM a0 Y a1 Z;exact rt
       refine oA ?_;refine T ?_;intro aN a2 aa;refine jP 6 ?_;refine T ?_;intro a3 ab a4 ac;exact rt
     rintro e a5 ⟨g,hE,ad⟩;obtain ⟨e,rfl⟩:=hE.out;have h:=I;refine gc h ?_ ?_<;>intro _ h
     · exact rt
     refine T ?_;intro a6 ae;exact rt
   exact rt
 intro x e a7 hM;rcases q with q | aV
 · obtain ⟨rfl,hM⟩:=hM;obtain ⟨e,rfl,af⟩:=eo hM;have h:=p;refine T ?_;intro be aA h a8 ah;exact rt
 obtain ⟨rfl,u,rfl,hM⟩:=hM;cases p;exact And.intro trivial hM
instance k_46:Ct prog 46:=⟨by kernel_rfl,@Il⟩
end Go.Kx
