import Derived.Test.YtlcgibcdiikheaaGreatWa7
import Derived.Test.YtlcgibcdiikheaaGreatWa8
namespace Go.Kx
open Go Go.RowKit Go.Proofs
open Go.IntKind (i64)
open Tryz
set_option maxRecDepth 10000
set_option maxHeartbeats 8000000
set_option linter.unusedVariables false
set_option linter.unusedSimpArgs false
theorem ER {w0 N ay d r} (h:y8 N ay d=some r) {X ai Y} (ak:ai=ay.length) (R:rb w0 X Y ay) {f U k} (ac:U=d.pX.length) (aF:rb w0 f k d.pX) {g V l} (ad:V=d.Vh.length) (aG:rb w0 g l d.Vh) {j W m} (ae:W=d.Vf.length) (aH:rb w0 j m d.Vf) :
    pY prog 264 #[vS X ai Y,.agg #[vI d.Vr,vI d.Vc,vI d.box,vI d.Vp,vI d.qx,vI d.gE,vI d.Vl,vI d.qw,vI d.qq,.bool d.Vm,vS f U k,vS g V l,vS j W m]] w0 (fun v w=>∃ B K,v=.tuple #[vS B r.1.length K,vI r.2]∧St w0 [] w [sl B K r.1]):=by
 subst ak ac ad ae;unfold y8 at h;refine pY.fn func264 fun e=>?_;have bs:=St.start w0;refine T ?_;intro aA bW bt az bB h bV Z bX bu bZ bC h bY aD;refine gc h ?_ ?_<;>intro _ h
 · exact rt
 refine go ?_;obtain ⟨ao,av,an⟩:=ob h;refine CW.mono (CW.lx [0,3,6] [0,1] [6] 0 (fun O=>[(7,vI O)]) (fun r x e wb=>x=.ret∧∃ u,u=r∧∃ v,tu prog f264.results e wb v∧∃ B K,v=.tuple #[vS B u.1.length K,vI u.2]∧St w0 [] wb [sl B K u.1]) aD av (hb:=?_)) ?_
 · intro O e bG o aE h;refine rU [0,3,6,7,18] fun e=>?_;refine gc h ?_ ?_<;>intro _ h
   · refine gs ?_;refine CW.block ?_;refine gs ?_;obtain ⟨aI,ar,aB⟩:=ob h;refine CW.jn [0,3,6,7] [0,1] [(34,.bool aI)] aE (h1:=?_) (h2:=?_)
     · have h:=ar;refine gb h fun bS aw h=>?_;obtain ⟨bj,bD,aM,rfl,aR,aV,aY,⟨bb,bl,bc,bm,bd,bn,rfl,a1,a2,a3⟩,aT⟩:=R.idx aw;refine go ?_;refine T ?_;refine bH h ?_ ?_<;>intro _ h
       · exact rt
       refine go ?_;refine T ?_;exact rt
     intro e bI bv;have h:=aB;refine gc h ?_ ?_<;>intro _ h
     · exact rt
     refine T ?_;intro b a8 h p H q I A J bJ bw am bK bz bL bA;have ⟨aj,ax,h⟩:=ob h;obtain ⟨bk,bE,aN,rfl,aS,aW,aZ,⟨be,bo,bf,bp,bg,bq,rfl,a5,a6,a7⟩,aU⟩:=R.idx ax;refine go ?_;refine T ?_;intro bM aa;have ⟨aK,af,h⟩:=ob h;obtain ⟨C,n,hae,aX,a0⟩:=aa.qk (α:=j8) (i:=4) rfl af;subst hae;refine go ?_;have ap:=aa.pk (M:=[sl p H b.pX,sl q I b.Vh,sl A J b.Vf]++[bx am 101 [vI (i64.wrap (aj.Vr+1)),vI b.Vc,vI b.box,vI b.Vp,vI b.qx,vI b.gE,vI b.Vl,vI b.qw,vI b.qq,.bool b.Vm,vS p b.pX.length H,vS q b.Vh.length I,vS A b.Vf.length J],sl (some ⟨C,n,none⟩) Z az,bx aA 101 (qO f k g l j m d)]) [1,2,3,0,4,5];have ⟨aL,ah,h⟩:=ob h;refine LW.B9 (M:=[sl p H b.pX,sl q I b.Vh,sl A J b.Vf]) (L:=[bx am 101 [vI (i64.wrap (aj.Vr+1)),vI b.Vc,vI b.box,vI b.Vp,vI b.qx,vI b.gE,vI b.Vl,vI b.qw,vI b.qq,.bool b.Vm,vS p b.pX.length H,vS q b.Vh.length I,vS A b.Vf.length J],sl (some ⟨C,n,none⟩) Z az,bx aA 101 (qO f k g l j m d)]) (z:=aK) (z':=(j8.mk (i64.wrap (aj.Vr+1)) b.Vc b.box b.Vp b.qx b.gE b.Vl b.qw b.qq b.Vm b.pX b.Vh b.Vf)) (o:=0) ap (i:=1) rfl af Ci rfl (by show _=n+(O:Int).toNat * 13+0;omega) rfl rfl rfl rfl (whole (fun w G hG=>⟨p,H,q,I,A,J,rfl,hG⟩)) ?_;intro bN ab hf;rw [oi ah] at ab;refine gs ?_;obtain ⟨aJ,au,aC⟩:=ob h;refine CW.jn [0,6,7] [1] [(55,.bool aJ)] ab (h1:=?_) (h2:=?_)
     · have h:=au;refine T ?_;intro bT a9 h bO aO;refine bH h ?_ ?_<;>intro _ h
       · exact rt
       exact rt
     intro e bP aq;have h:=aC;refine rU [0,6,7,55] fun e=>?_;refine gc h ?_ ?_<;>intro _ h
     · refine T ?_;intro bU ba h bi br bQ aP;exact rt
     refine go ?_;replace h:=oi h;subst h;exact ⟨trivial,rfl,_,rfl,ry tt tt ⟨(some ⟨C,n,none⟩),Z,(show (.tuple #[vS (some ⟨C,n,none⟩) az.length Z,vI O]:Value)=.tuple #[vS (some ⟨C,n,none⟩) aL.length Z,vI O] by rw [pV (oi ah)]),aq.pk [0]⟩⟩
   exact rt
 intro x e bR hM;rcases ao with ao | bF
 · obtain ⟨rfl,hM⟩:=hM;obtain ⟨e,rfl,aQ⟩:=eo hM;have h:=an;exact rt
 obtain ⟨rfl,u,rfl,hM⟩:=hM;cases an;exact And.intro trivial hM
instance k_264:Ct prog 264:=⟨by kernel_rfl,@ER⟩
theorem Fb {w0 N b r} (h:sD N b=some r) {B W K} (ac:W=b.Vb.Va.length) (ao:rb w0 B K b.Vb.Va) {C X L} (ad:X=b.own.length) (ap:rb w0 C L b.own) {G Y M} (ae:Y=b.Vd.length) (aq:rb w0 G M b.Vd) {H Z O} (af:Z=b.U7.ag.length) (ar:rb w0 H O b.U7.ag) {I aa R} (ah:aa=b.U7.gc.pT.length) (au:rb w0 I R b.U7.gc.pT) {J ab U} (ai:ab=b.pU.length) (aj:rb w0 J U b.pU) :
    pY prog 142 #[.agg #[vS B W K,vS C X L,vS G Y M,vS H Z O,vI b.U7.gc.Ve,vI b.U7.gc.Vn,vI b.U7.gc.Vg,vS I aa R,vS J ab U,vI b.Vj,vI b.Vk,vI b.bh.gE,vI b.bh.qa,vI b.bh.qg,vI b.pZ,vI b.Vi]] w0 (fun v w=>∃ d o, ∃ f p, ∃ g q, ∃ j x, ∃ k z, ∃ n A,v=.agg #[vS d r.Vb.Va.length o,vS f r.own.length p,vS g r.Vd.length q,vS j r.U7.ag.length x,vI r.U7.gc.Ve,vI r.U7.gc.Vn,vI r.U7.gc.Vg,vS k r.U7.gc.pT.length z,vS n r.pU.length A,vI r.Vj,vI r.Vk,vI r.bh.gE,vI r.bh.qa,vI r.bh.qg,vI r.pZ,vI r.Vi]∧St w0 [] w [sl d o r.Vb.Va,sl f p r.own,sl g q r.Vd,sl j x r.U7.ag,sl k z r.U7.gc.pT,sl n A r.pU]):=by
 subst ac ad ae af ah ai;unfold sD at h;refine pY.fn func142 fun e=>?_;have aO:=St.start w0;refine T ?_;intro bf bi aP bg bj an;refine dW ?_;have aQ:=an.drew;refine go ?_;refine jP 2 ?_;refine T ?_;intro bl aW h bd be bk aR;refine AW.u (i:=12) rfl (by kernel_rfl) rfl rfl (qp.fa Sq rfl) ?_;refine jP 5 ?_;refine T ?_;intro bm aX h aC aI aY aS ba aA h aD aJ aZ aT bb aB h aE aK aF aL a0 aU a1 aV a2 av a3 aw a4 ak;refine LW.b0 (α:=qB) ak ?_;intro aG aM a5 V hf;refine gb h fun bc am h=>?_;refine LW.sh (l:=([]:List qB)) (m:=b.pU) Bd rfl rfl (V.rB aj) am V (i:=0) rfl rfl ?_;intro aH aN a7 ax hf;refine T ?_;intro a8 ay a9 az;exact rt
instance k_142:Ct prog 142:=⟨by kernel_rfl,@Fb⟩
theorem Nd {w0 N j r} (h:uC N j=some r) {d k f} (l:k=j.length) (i:rb w0 d f j) :
    pY prog 244 #[vS d k f] w0 (fun v w=>v=.bool r∧St w0 [] w []):=by
 subst l;unfold uC at h;refine pY.fn func244 fun e=>?_;have B:=St.start w0;refine gs ?_;refine CW.region ?_;refine gs ?_;obtain ⟨ah,H,h2⟩:=ob h;refine CW.jn [0] [] [(22,.bool ah)] B (h1:=?_) (h2:=?_)
 · have h:=H;refine gB h ?_ ?_<;>intro _ h
   · exact rt
   refine gb h fun aR I h=>?_;obtain ⟨aP,aQ,aj,rfl,W,au,av,rfl,Y⟩:=i.idx I;refine go ?_;refine T ?_;refine bH h ?_ ?_<;>intro _ h
   · exact rt
   refine go ?_;refine T ?_;exact rt
 intro e ay am;have h:=h2;refine gc h ?_ ?_<;>intro _ h
 · exact rt
 refine rX [] #[vI 0,vI 0,vI 0] ?_;refine T ?_;intro g az an aA C;refine go ?_;obtain ⟨n,q,m⟩:=ob h;refine CW.it q (fun b e wb=>En e [(0,vS d j.length f),(3,.pointer (some ⟨g,0,none⟩)),(24,vS d j.length f),(25,vI (j.length:Int)),(26,vI b.1)]∧St w0 [] wb [bx g 48 [vI b.2.1,vI b.2.2.1,vI b.2.2.2]]) (fun o x e wb=>match o with | .inl b=>x=.exit 0∧En e [(3,.pointer (some ⟨g,0,none⟩))]∧St w0 [] wb [bx g 48 [vI b.2.1,vI b.2.2.1,vI b.2.2.2]] | .inr r=>x=.ret∧∃ u,u=r∧∃ v,tu prog f244.results e wb v∧v=.bool u∧St w0 [] wb []) ?_ (C.po [0]) ?_
 · intro b e aB o hM h;obtain ⟨e,rfl,ao⟩:=eo hM;refine gc h ?_ ?_<;>intro _ h
   · refine gb h fun K z h=>?_;obtain ⟨ai,aw,L,rfl,X,aa,ab,rfl,Z⟩:=i.idx z;refine go ?_;refine T ?_;intro ak aC ap aD G;refine CW.fl [0,3,4,5,24,25,26,33] fun e=>?_;refine gc h ?_ ?_<;>intro _ h
     · refine rX [] #[.bool false,vI 0,vI 0,vI 0,vI 0] ?_;refine LW.u (qp.SR Qm rfl rfl (fun w=>QT K (qc.mk false 0 (qj.mk 0 0 0)) w)) rfl ?_;refine gc h ?_ ?_<;>intro _ h
       · exact rt
       exact rt
     refine gs ?_;obtain ⟨J,p,A⟩:=ob h;refine CW.jn [0,3,5,24,25,26] [0,1] [(46,.bool J)] G (h1:=?_) (h2:=?_)
     · have h:=p;refine T ?_;intro aL ac h aE aq;refine bH h ?_ ?_<;>intro _ h
       · exact rt
       refine T ?_;intro aM ad h aF ar;exact rt
     intro e aG M;have h:=A;refine gc h ?_ ?_<;>intro _ h
     · exact rt
     refine T ?_;intro aN ae h aH O aI R;exact rt
   exact rt
 intro x e aJ hM;rcases n with n | ax
 · obtain ⟨rfl,hM⟩:=hM;obtain ⟨e,rfl,U⟩:=eo hM;have h:=m;refine T ?_;intro aO af h aK V;exact rt
 obtain ⟨rfl,u,rfl,hM⟩:=hM;cases m;exact And.intro trivial hM
instance k_244:Ct prog 244:=⟨by kernel_rfl,@Nd⟩
theorem DB {w0 N M r} (h:uZ N M=some r) {d j f} (m:j=M.length) (b:rb w0 d f M) :
    pY prog 313 #[vS d j f] w0 (fun v w=>v=.bool r∧St w0 [] w []):=by
 subst m;unfold uZ at h;refine pY.fn func313 fun e=>?_;have U:=St.start w0;refine gs ?_;refine CW.region ?_;refine gs ?_;obtain ⟨aX,Z,h2⟩:=ob h;refine CW.jn [0] [] [(30,.bool aX)] U (h1:=?_) (h2:=?_)
 · have h:=Z;refine gB h ?_ ?_<;>intro _ h
   · exact rt
   refine gb h fun bT aa h=>?_;obtain ⟨bR,bS,bq,rfl,ay,bw,bz,⟨a3,bg,a4,bi,a5,bj,rfl,aO,aP,aQ⟩,aC⟩:=b.idx aa;refine go ?_;refine T ?_;refine bH h ?_ ?_<;>intro _ h
   · exact rt
   refine go ?_;refine T ?_;refine bH h ?_ ?_<;>intro _ h
   · exact rt
   refine go ?_;refine T ?_;exact rt
 intro e bE V;have h:=h2;refine gc h ?_ ?_<;>intro _ h
 · exact rt
 refine go ?_;obtain ⟨l,p,i⟩:=ob h;refine CW.mono (CW.lx [0,31,32] [] [] 0 (fun q=>[(33,vI q)]) (RT prog f313.results (fun u=>.bool u) w0 []) V p (hb:=?_)) ?_
 · intro q e bF o bs h;refine gc h ?_ ?_<;>intro _ h
   · refine gb h fun bM I h=>?_;obtain ⟨bc,bA,aq,rfl,az,aG,aK,⟨a6,bk,a7,bl,a8,bm,rfl,H,aR,aS⟩,aD⟩:=b.idx I;refine go ?_;refine T ?_;intro br bG bt bI W;obtain ⟨ab,C,O⟩:=ob h;refine CW.jn [0,4,31,32,33] [0] [(63,.bool ab)] W (h1:=?_) (h2:=?_)
     · have h:=C;refine T ?_;intro bN aW h bJ bu;refine bH h ?_ ?_<;>intro _ h
       · exact rt
       refine gB h ?_ ?_<;>intro _ h
       · refine go ?_;refine bH h ?_ ?_<;>intro _ h
         · refine gB h ?_ ?_<;>intro _ h
           · refine gb h fun bO J h=>?_;obtain ⟨bd,bB,ar,hae,aA,aH,aL,A,aE⟩:=b.idx J;cases hae;obtain ⟨a9,bn,ba,bo,bb,bp,rfl,aT,aU,aV⟩:=A;refine go ?_;refine T ?_;exact rt
           exact rt
         exact rt
       exact rt
     intro e bK X;have h:=O;refine gc h ?_ ?_<;>intro _ h
     · exact rt
     refine go ?_;obtain ⟨k,n,g⟩:=ob h;refine CW.mono (CW.lx [0,31,32,33,65,66] [] [0,31,32,33] 2 (fun z=>[(67,vI z)]) (RT prog f313.results (fun u=>.bool u) w0 []) X n (hb:=?_)) ?_
     · intro z e bL o Y h;refine rU [0,31,32,33,65,66,67,68] fun e=>?_;refine gc h ?_ ?_<;>intro _ h
       · refine gb h fun bP K h=>?_;obtain ⟨be,bC,au,rfl,aB,aI,aM,rfl,aF⟩:=H.idx K;refine go ?_;refine T ?_;obtain ⟨ac,G,R⟩:=ob h;refine CW.jn [0,31,32,33,65,66,67] [] [(80,.bool ac)] Y (h1:=?_) (h2:=?_)
         · have h:=G;refine gB h ?_ ?_<;>intro _ h
           · refine gb h fun bQ L h=>?_;obtain ⟨bf,bD,av,hae,ad,aJ,aN,B,ae⟩:=b.idx L;cases hae;obtain ⟨aj,an,ak,ao,am,ap,rfl,af,ah,ai⟩:=B;refine go ?_;refine T ?_;exact rt
           exact rt
         intro e a0 bv;have h:=R;refine gc h ?_ ?_<;>intro _ h
         · exact rt
         exact rt
       exact rt
     intro x e a1 hM;rcases k with k | aY
     · obtain ⟨rfl,hM⟩:=hM;obtain ⟨e,rfl,aw⟩:=eo hM;have h:=g;exact rt
     obtain ⟨rfl,u,rfl,hM⟩:=hM;cases g;exact ⟨trivial,rfl,_,rfl,hM⟩
   exact rt
 intro x e a2 hM;rcases l with l | aZ
 · obtain ⟨rfl,hM⟩:=hM;obtain ⟨e,rfl,ax⟩:=eo hM;rw [show e=qy e [] from rfl];have h:=i;exact rt
 obtain ⟨rfl,u,rfl,hM⟩:=hM;cases i;exact And.intro trivial hM
instance k_313:Ct prog 313:=⟨by kernel_rfl,@DB⟩
theorem Hp {w0 N b r} (h:wJ N b=some r) {m K A} (Y:K=b.Vb.Va.length) (aD:rb w0 m A b.Vb.Va) {n O B} (Z:O=b.own.length) (aE:rb w0 n B b.own) {p R C} (aa:R=b.Vd.length) (aF:rb w0 p C b.Vd) {q U H} (ab:U=b.U7.ag.length) (k:rb w0 q H b.U7.ag) {x V I} (ac:V=b.U7.gc.pT.length) (aG:rb w0 x I b.U7.gc.pT) {z W J} (ad:W=b.pU.length) (aH:rb w0 z J b.pU) :
    pY prog 321 #[.agg #[vS m K A,vS n O B,vS p R C,vS q U H,vI b.U7.gc.Ve,vI b.U7.gc.Vn,vI b.U7.gc.Vg,vS x V I,vS z W J,vI b.Vj,vI b.Vk,vI b.bh.gE,vI b.bh.qa,vI b.bh.qg,vI b.pZ,vI b.Vi]] w0 (fun v w=>∃ ai an,v=vS ai r.length an∧St w0 [] w [sl ai an r]):=by
 subst Y Z aa ab ac ad;unfold wJ at h;refine pY.fn func321 fun e=>?_;have aY:=St.start w0;refine T ?_;intro bi bj ay;refine LW.b0 (α:=xM) ay ?_;intro aI aK bk az hf;refine go ?_;refine LW.u (qp.min rfl rfl) rfl ?_;have ⟨aC,ao,h⟩:=ob h;obtain ⟨aJ,aL,aB,ap,ar⟩:=ra.B3 k ao;have X:=(k).le;refine LW.u (qp.sub (α:=j8) (l:=b.U7.ag) underlying41 uM rfl B8 (B1 rfl) ao X aB ap) rfl ?_;refine go ?_;obtain ⟨a6,aq,ax⟩:=ob h;refine CW.ie aq 0 (fun j e wb=>∃ (f:Ad) (g:Nat),En e [(3,vS f j.1.length g),(15,vS aJ aC.length aL),(16,vI (aC.length:Int)),(17,vI j.2)]∧St w0 [] wb [sl f g j.1]) ?_ ⟨aI,aK,az.po [0]⟩ ?_
 · intro j e a9 o hM h;obtain ⟨f,g,hE,aZ⟩:=hM;obtain ⟨e,rfl⟩:=hE.out;refine rU [3,15,16,17,18] fun e=>?_;refine gc h ?_ ?_<;>intro _ h
   · refine gb h fun d au h=>?_;obtain ⟨aW,a5,aM,rfl,aN,aP,aQ,⟨ae,aj,af,ak,ah,am,rfl,aR,aS,aT⟩,aO⟩:=ar.idx au;refine go ?_;refine T ?_;intro aw ba a0 bb a1 bf aU h bc aA;refine gc h ?_ ?_<;>intro _ h
     · refine gb h fun bg av h=>?_;refine LW.tQ (M:=[]) (L:=[bx aw 101 (qO ae aj af ak ah am d),sl f g j.1]) (vs:=#[vI d.Vr,vI d.Vc,vI d.box,vI d.Vp,vI d.qx,vI d.gE,vI d.Vl,vI d.qw,vI d.qq,.bool d.Vm,vS ae d.pX.length aj,vS af d.Vh.length ak,vS ah d.Vf.length am]) (i:=1) T6 rfl (by kernel_rfl) rfl rfl av aA rfl (fun w G hG=>by cases (show G=[] from hG);exact ⟨⟨_,_,_,_,_,_,_,_,_,rfl⟩,rfl⟩) rfl rfl ?_;intro a8 aV aX bd a2 hf;exact rt
     exact rt
   exact rt
 rintro e be ⟨f,g,hE,a4⟩;obtain ⟨e,rfl⟩:=hE.out;have h:=ax;exact rt
instance k_321:Ct prog 321:=⟨by kernel_rfl,@Hp⟩
theorem Nc {w0 N b d r} (h:AS N b d=some r) :
    pY prog 312 #[.agg #[vI b.gE,vI b.qa,vI b.qg],.agg #[vI d.gE,vI d.qa,vI d.qg]] w0 (fun v w=>v=.tuple #[.agg #[vI r.1.gE,vI r.1.qa,vI r.1.qg],.bool r.2]∧St w0 [] w []):=by
 unfold AS at h;refine pY.fn func312 fun e=>?_;have f:=St.start w0;refine T ?_;intro q z g u A i x B j G n h C k;refine gc h ?_ ?_<;>intro _ h
 · refine T ?_;intro o l;exact rt
 refine rX [(0,vI (i64.wrap (b.gE - d.gE))),(1,vI (i64.wrap (b.qa - d.qa))),(2,vI (i64.wrap (b.qg - d.qg)))] #[vI (i64.wrap (b.gE - d.gE)),vI (i64.wrap (b.qa - d.qa)),vI (i64.wrap (b.qg - d.qg))] ?_;refine T ?_;intro p m;exact rt
instance k_312:Ct prog 312:=⟨by kernel_rfl,@Nc⟩
theorem IC {w0} {F:List Nat} {N M af aM f r} (h:ye N M af aM f=some r) {am:Nat} {O k} (hS:St w0 F w0 [bx am 26 [vI M.Vo,vS O M.parts.length k],sl O k M.parts]) :
    pY prog 81 #[.pointer (some ⟨am,0,none⟩),vI af,vI aM,.agg #[vI f.Vc,vI f.a,vI f.b,vI f.c,vI f.d,vI f.e]] w0 (fun v w=>∃ B L,v=.tuple #[vI r.1,vI r.2.1]∧St w0 F w [bx am 26 [vI r.2.2.Vo,vS B r.2.2.parts.length L],sl B L r.2.2.parts]):=by
 unfold ye at h;refine pY.fn func81 fun e=>?_;refine T ?_;intro b2 b4 bI;refine LW.u (qp.quo rfl rfl (by decide)) rfl ?_;refine go ?_;refine LW.u (qp.rem rfl rfl (by decide)) rfl ?_;refine rX [(0,vI f.a),(1,vI f.b),(2,vI f.c),(3,vI (i64.wrap (Int.tdiv f.d 10))),(4,vI (Int.tmod f.d 10)),(5,vI f.e)] #[vI f.a,vI f.b,vI f.c,vI (i64.wrap (Int.tdiv f.d 10)),vI (Int.tmod f.d 10),vI f.e] ?_;refine T ?_;intro b3 b5 bJ b6 aj;refine LW.u (qp.nc rfl) rfl ?_;refine go ?_;have ⟨g,ac,h⟩:=ob h;obtain ⟨U,n,hae,bM,bN⟩:=aj.qk (α:=cd) (i:=3) rfl ac;subst hae;refine gs ?_;refine CW.block ?_;refine gs ?_;obtain ⟨aL,aD,aI⟩:=ob h;refine CW.jn [0,1,2,7,10,11] [0,1,2,3] [(33,.bool aL)] aj (h1:=?_) (h2:=?_)
 · have h:=aD;refine gB h ?_ ?_<;>intro _ h
   · exact rt
   refine T ?_;intro bY bb h bR bK;exact rt
 intro e bS aJ;have h:=aI;refine gc h ?_ ?_<;>intro _ h
 · refine go ?_;replace h:=oi h;subst h;exact Rc tt tt ⟨(some ⟨U,n,none⟩),k,rfl,aJ.pk [2,3]⟩
 refine go ?_;refine LW.u (qp.nc rfl) rfl ?_;refine T ?_;intro bZ bc h bT ak;refine gc h ?_ ?_<;>intro _ h
 · refine go ?_;replace h:=oi h;subst h;exact Rc tt tt ⟨(some ⟨U,n,none⟩),k,rfl,ak.pk [2,3]⟩
 refine sf ?_;have aK:=ak.drew;refine go ?_;obtain ⟨be,o,bL⟩:=aK.freeze (α:=cd) 3 rfl;obtain ⟨bs,bO,aW,hae,ay,_,_,aA,aE⟩:=o.rQ.idx ac;cases hae;obtain ⟨p,C,q,H,x,I,z,J,A,K,R,V,rfl,a2,a3,a4,a5,a6,a7⟩:=aA;refine T ?_;intro b0 bd h bU aa;refine gc h ?_ ?_<;>intro _ h
 · refine go ?_;replace h:=oi h;subst h;have ao:=aa.qG (α:=cd) 3 rfl o;exact Rc tt tt ⟨(some ⟨U,n,none⟩),k,rfl,ao.pk [2,3]⟩
 refine go ?_;refine LW.u (qp.nc rfl) rfl ?_;refine T ?_;refine CW.fl [0,10,11,60] fun e=>?_;refine gc h ?_ ?_<;>intro _ h
 · refine go ?_;replace h:=oi h;subst h;have ap:=aa.qG (α:=cd) 3 rfl o;exact Rc tt tt ⟨(some ⟨U,n,none⟩),k,rfl,ap.pk [2,3]⟩
 refine sf ?_;have aq:=aa.drew;refine T ?_;refine LW.Ew (α:=qB) (vs:=[(0,.agg #[vI f.a,vI f.b,vI f.c,vI (i64.wrap (Int.tdiv f.d 10)),vI (Int.tmod f.d 10),vI f.e])]) (cs:=#[vI f.a,vI f.b,vI f.c,vI (i64.wrap (Int.tdiv f.d 10)),vI (Int.tmod f.d 10),vI f.e]) (l:=([qB.mk f.a f.b f.c (i64.wrap (Int.tdiv f.d 10)) (Int.tmod f.d 10) f.e]:List qB)) rfl (by kernel_rfl) rfl rfl rfl (fun w=>⟨[vI f.a,vI f.b,vI f.c,vI (i64.wrap (Int.tdiv f.d 10)),vI (Int.tmod f.d 10),vI f.e],[],[],[],rfl,rfl,⟨rfl,rfl⟩,rfl⟩) aq rfl ?_;intro bg bv bV W hf;refine T ?_;have aF:=fun (j:Nat) (u:Value) (hu:((qP p C q H x I z J A K R V g):List Value)[j]?=some u)=>(World.cell?_of_block (W.zC 4 rfl ay)).trans (aE j u hu);have ar:=W.qG (α:=cd) 4 rfl o;obtain ⟨aQ,aG,aC⟩:=ar.focus (α:=cd) (cs:=[vS p g.Vb.Va.length C,vS q g.own.length H,vS x g.Vd.length I,vS z g.U7.ag.length J,vI g.U7.gc.Ve,vI g.U7.gc.Vn,vI g.U7.gc.Vg,vS A g.U7.gc.pT.length K,vS R g.pU.length V,vI g.Vj,vI g.Vk,vI g.bh.gE,vI g.bh.qa,vI g.bh.qg,vI g.pZ,vI g.Vi]) 4 rfl ac rfl aF;obtain ⟨bi,bw,bj,bz,bk,bA,bl,bB,bm,bC,bn,bD,az,an⟩:=aG;cases az;have X:=aC [sl p C g.Vb.Va,sl q H g.own,sl x I g.Vd,sl z J g.U7.ag,sl A K g.U7.gc.pT,sl R V g.pU] an;have ⟨ae,aH,h⟩:=ob h;refine T ?_;refine LW.sh (l:=g.pU) (m:=([qB.mk f.a f.b f.c (i64.wrap (Int.tdiv f.d 10)) (Int.tmod f.d 10) f.e]:List qB)) Bd rfl rfl (X.rI 6 rfl) aH X (i:=5) rfl rfl ?_;intro ah ai bW au hf;refine T ?_;refine LW.zw (α:=cd) (vs:=[vS ah ae.length ai]) au 10 rfl DZ rfl (by show _=n+(af:Int).toNat * 16+8;omega) rfl rfl rfl rfl ?_;intro bX av hf;refine T ?_;have aw:=av.vH (cd.mk g.Vb g.own g.Vd g.U7 ae g.Vj g.Vk g.bh g.pZ g.Vi) [0,1,2,3,4,5,6,7,8,9,10] 6 4 rfl rfl (fun w G hG=>⟨p,C,q,H,x,I,z,J,A,K,ah,ai,rfl,hG⟩);refine dW ?_;have Y:=aw.drew;refine gb h fun b1 ad h=>?_;obtain ⟨bt,bP,hae,a0,a1⟩:=Y.qk (α:=cd) (i:=4) rfl ad;cases hae;obtain ⟨bf,ab,ax⟩:=Y.freeze (α:=cd) 4 rfl;obtain ⟨bu,bQ,aX,hae,aY,_,_,aB,aZ⟩:=ab.rQ.idx ad;cases hae;obtain ⟨bo,bE,bp,bF,bq,bG,br,aT,aR,aU,aS,aV,rfl,a8,a9,ba,aN,aO,aP⟩:=aB;refine T ?_;replace h:=oi h;subst h;have Z:=ax.qG (α:=cd) 4 rfl ab;rw [show M.parts.length=(M.parts.set (af:Int).toNat (cd.mk g.Vb g.own g.Vd g.U7 ae g.Vj g.Vk g.bh g.pZ g.Vi)).length from (pV rfl)] at Z;exact Rc tt tt ⟨(some ⟨U,n,none⟩),k,rfl,Z.pk [3,4]⟩
instance k_81:Ct prog 81:=⟨by kernel_rfl,@IC⟩
end Go.Kx
