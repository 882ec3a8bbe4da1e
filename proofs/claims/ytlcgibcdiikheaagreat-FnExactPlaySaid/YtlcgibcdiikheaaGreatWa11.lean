import Derived.Test.YtlcgibcdiikheaaGreatWa8
import Derived.Test.YtlcgibcdiikheaaGreatWa9
namespace Go.Kx
open Go Go.RowKit Go.Proofs
open Go.IntKind (i64)
open Tryz
set_option maxRecDepth 10000
set_option maxHeartbeats 8000000
set_option linter.unusedVariables false
set_option linter.unusedSimpArgs false
theorem vX {w0 N ay d r} (h:pd N ay d=some r) {X ai Y} (ak:ai=ay.length) (R:rb w0 X Y ay) {f U k} (ac:U=d.gZ.length) (aF:rb w0 f k d.gZ) {g V l} (ad:V=d.Po.length) (aG:rb w0 g l d.Po) {j W m} (ae:W=d.Pk.length) (aH:rb w0 j m d.Pk) :
    gV prog 264 #[vS X ai Y,.agg #[vI d.Pw,vI d.Pf,vI d.box,vI d.Pu,vI d.iz,vI d.gE,vI d.Pq,vI d.iy,vI d.im,.bool d.Ps,vS f U k,vS g V l,vS j W m]] w0 (fun v w=>∃ B K,v=.tuple #[vS B r.1.length K,vI r.2]∧St w0 [] w [sl B K r.1]):=by
 subst ak ac ad ae;unfold pd at h;refine gV.fn func264 fun e=>?_;have bs:=St.start w0;refine T ?_;intro aA bW bt az bB h bV Z bX bu bZ bC h bY aD;refine gc h ?_ ?_<;>intro _ h
 · exact rt
 refine go ?_;obtain ⟨ao,av,an⟩:=ob h;refine CW.mono (CW.lx [0,3,6] [0,1] [6] 0 (fun O=>[(7,vI O)]) (fun r x e wb=>x=.ret∧∃ u,u=r∧∃ v,kz prog f264.results e wb v∧∃ B K,v=.tuple #[vS B u.1.length K,vI u.2]∧St w0 [] wb [sl B K u.1]) aD av (hb:=?_)) ?_
 · intro O e bG o aE h;refine jw [0,3,6,7,18] fun e=>?_;refine gc h ?_ ?_<;>intro _ h
   · refine gs ?_;refine CW.block ?_;refine gs ?_;obtain ⟨aI,ar,aB⟩:=ob h;refine CW.jn [0,3,6,7] [0,1] [(34,.bool aI)] aE (h1:=?_) (h2:=?_)
     · have h:=ar;refine gb h fun bS aw h=>?_;obtain ⟨bj,bD,aM,rfl,aR,aV,aY,⟨bb,bl,bc,bm,bd,bn,rfl,a1,a2,a3⟩,aT⟩:=R.idx aw;refine go ?_;refine T ?_;refine bH h ?_ ?_<;>intro _ h
       · exact rt
       refine go ?_;refine T ?_;exact rt
     intro e bI bv;have h:=aB;refine gc h ?_ ?_<;>intro _ h
     · exact rt
     refine T ?_;intro b a8 h p H q I A J bJ bw am bK bz bL bA;have ⟨aj,ax,h⟩:=ob h;obtain ⟨bk,bE,aN,rfl,aS,aW,aZ,⟨be,bo,bf,bp,bg,bq,rfl,a5,a6,a7⟩,aU⟩:=R.idx ax;refine go ?_;refine T ?_;intro bM aa;have ⟨aK,af,h⟩:=ob h;obtain ⟨C,n,hae,aX,a0⟩:=aa.hZ (α:=gP) (i:=4) rfl af;subst hae;refine go ?_;have ap:=aa.pk (M:=[sl p H b.gZ,sl q I b.Po,sl A J b.Pk]++[bx am 101 [vI (i64.wrap (aj.Pw+1)),vI b.Pf,vI b.box,vI b.Pu,vI b.iz,vI b.gE,vI b.Pq,vI b.iy,vI b.im,.bool b.Ps,vS p b.gZ.length H,vS q b.Po.length I,vS A b.Pk.length J],sl (some ⟨C,n,none⟩) Z az,bx aA 101 (qO f k g l j m d)]) [1,2,3,0,4,5];have ⟨aL,ah,h⟩:=ob h;refine LW.vl (M:=[sl p H b.gZ,sl q I b.Po,sl A J b.Pk]) (L:=[bx am 101 [vI (i64.wrap (aj.Pw+1)),vI b.Pf,vI b.box,vI b.Pu,vI b.iz,vI b.gE,vI b.Pq,vI b.iy,vI b.im,.bool b.Ps,vS p b.gZ.length H,vS q b.Po.length I,vS A b.Pk.length J],sl (some ⟨C,n,none⟩) Z az,bx aA 101 (qO f k g l j m d)]) (z:=aK) (z':=(gP.mk (i64.wrap (aj.Pw+1)) b.Pf b.box b.Pu b.iz b.gE b.Pq b.iy b.im b.Ps b.gZ b.Po b.Pk)) (o:=0) ap (i:=1) rfl af uK rfl (by show _=n+(O:Int).toNat * 13+0;omega) rfl rfl rfl rfl (whole (fun w G hG=>⟨p,H,q,I,A,J,rfl,hG⟩)) ?_;intro bN ab hf;rw [oi ah] at ab;refine gs ?_;obtain ⟨aJ,au,aC⟩:=ob h;refine CW.jn [0,6,7] [1] [(55,.bool aJ)] ab (h1:=?_) (h2:=?_)
     · have h:=au;refine T ?_;intro bT a9 h bO aO;refine bH h ?_ ?_<;>intro _ h
       · exact rt
       exact rt
     intro e bP aq;have h:=aC;refine jw [0,6,7,55] fun e=>?_;refine gc h ?_ ?_<;>intro _ h
     · refine T ?_;intro bU ba h bi br bQ aP;exact rt
     refine go ?_;replace h:=oi h;subst h;exact ⟨trivial,rfl,_,rfl,ry tt tt ⟨(some ⟨C,n,none⟩),Z,(show (.tuple #[vS (some ⟨C,n,none⟩) az.length Z,vI O]:Value)=.tuple #[vS (some ⟨C,n,none⟩) aL.length Z,vI O] by rw [gS (oi ah)]),aq.pk [0]⟩⟩
   exact rt
 intro x e bR hM;rcases ao with ao | bF
 · obtain ⟨rfl,hM⟩:=hM;obtain ⟨e,rfl,aQ⟩:=eo hM;have h:=an;exact rt
 obtain ⟨rfl,u,rfl,hM⟩:=hM;cases an;exact And.intro trivial hM
instance k_264:Ct prog 264:=⟨by kernel_rfl,@vX⟩
theorem yV {w0 N b r} (h:ke N b=some r) {B W K} (ac:W=b.Pe.Pd.length) (ao:rb w0 B K b.Pe.Pd) {C X L} (ad:X=b.own.length) (ap:rb w0 C L b.own) {G Y M} (ae:Y=b.Pg.length) (aq:rb w0 G M b.Pg) {H Z O} (af:Z=b.py.ag.length) (ar:rb w0 H O b.py.ag) {I aa R} (ah:aa=b.py.gc.gQ.length) (au:rb w0 I R b.py.gc.gQ) {J ab U} (ai:ab=b.gR.length) (aj:rb w0 J U b.gR) :
    gV prog 142 #[.agg #[vS B W K,vS C X L,vS G Y M,vS H Z O,vI b.py.gc.Ph,vI b.py.gc.Pr,vI b.py.gc.Pj,vS I aa R,vS J ab U,vI b.Pn,vI b.Pp,vI b.cd.gE,vI b.cd.gX,vI b.cd.g8,vI b.g5,vI b.Pm]] w0 (fun v w=>∃ d o, ∃ f p, ∃ g q, ∃ j x, ∃ k z, ∃ n A,v=.agg #[vS d r.Pe.Pd.length o,vS f r.own.length p,vS g r.Pg.length q,vS j r.py.ag.length x,vI r.py.gc.Ph,vI r.py.gc.Pr,vI r.py.gc.Pj,vS k r.py.gc.gQ.length z,vS n r.gR.length A,vI r.Pn,vI r.Pp,vI r.cd.gE,vI r.cd.gX,vI r.cd.g8,vI r.g5,vI r.Pm]∧St w0 [] w [sl d o r.Pe.Pd,sl f p r.own,sl g q r.Pg,sl j x r.py.ag,sl k z r.py.gc.gQ,sl n A r.gR]):=by
 subst ac ad ae af ah ai;unfold ke at h;refine gV.fn func142 fun e=>?_;have aO:=St.start w0;refine T ?_;intro bf bi aP bg bj an;refine dW ?_;have aQ:=an.drew;refine go ?_;refine jP 2 ?_;refine T ?_;intro bl aW h bd be bk aR;refine AW.u (i:=12) rfl (by kernel_rfl) rfl rfl (il.fa ML rfl) ?_;refine jP 5 ?_;refine T ?_;intro bm aX h aC aI aY aS ba aA h aD aJ aZ aT bb aB h aE aK aF aL a0 aU a1 aV a2 av a3 aw a4 ak;refine LW.b0 (α:=iB) ak ?_;intro aG aM a5 V hf;refine gb h fun bc am h=>?_;refine LW.jS (l:=([]:List iB)) (m:=b.gR) uJ rfl rfl (V.rB aj) am V (i:=0) rfl rfl ?_;intro aH aN a7 ax hf;refine T ?_;intro a8 ay a9 az;exact rt
instance k_142:Ct prog 142:=⟨by kernel_rfl,@yV⟩
theorem HQ {w0 N j r} (h:lE N j=some r) {d k f} (l:k=j.length) (i:rb w0 d f j) :
    gV prog 244 #[vS d k f] w0 (fun v w=>v=.bool r∧St w0 [] w []):=by
 subst l;unfold lE at h;refine gV.fn func244 fun e=>?_;have B:=St.start w0;refine gs ?_;refine CW.region ?_;refine gs ?_;obtain ⟨ah,H,h2⟩:=ob h;refine CW.jn [0] [] [(22,.bool ah)] B (h1:=?_) (h2:=?_)
 · have h:=H;refine gB h ?_ ?_<;>intro _ h
   · exact rt
   refine gb h fun aR I h=>?_;obtain ⟨aP,aQ,aj,rfl,W,au,av,rfl,Y⟩:=i.idx I;refine go ?_;refine T ?_;refine bH h ?_ ?_<;>intro _ h
   · exact rt
   refine go ?_;refine T ?_;exact rt
 intro e ay am;have h:=h2;refine gc h ?_ ?_<;>intro _ h
 · exact rt
 refine jt [] #[vI 0,vI 0,vI 0] ?_;refine T ?_;intro g az an aA C;refine go ?_;obtain ⟨n,q,m⟩:=ob h;refine CW.it q (fun b e wb=>En e [(0,vS d j.length f),(3,.pointer (some ⟨g,0,none⟩)),(24,vS d j.length f),(25,vI (j.length:Int)),(26,vI b.1)]∧St w0 [] wb [bx g 48 [vI b.2.1,vI b.2.2.1,vI b.2.2.2]]) (fun o x e wb=>match o with | .inl b=>x=.exit 0∧En e [(3,.pointer (some ⟨g,0,none⟩))]∧St w0 [] wb [bx g 48 [vI b.2.1,vI b.2.2.1,vI b.2.2.2]] | .inr r=>x=.ret∧∃ u,u=r∧∃ v,kz prog f244.results e wb v∧v=.bool u∧St w0 [] wb []) ?_ (C.po [0]) ?_
 · intro b e aB o hM h;obtain ⟨e,rfl,ao⟩:=eo hM;refine gc h ?_ ?_<;>intro _ h
   · refine gb h fun K z h=>?_;obtain ⟨ai,aw,L,rfl,X,aa,ab,rfl,Z⟩:=i.idx z;refine go ?_;refine T ?_;intro ak aC ap aD G;refine CW.fl [0,3,4,5,24,25,26,33] fun e=>?_;refine gc h ?_ ?_<;>intro _ h
     · refine jt [] #[.bool false,vI 0,vI 0,vI 0,vI 0] ?_;refine LW.u (il.Nm Lj rfl rfl (fun w=>Lp K (g6.mk false 0 (hO.mk 0 0 0)) w)) rfl ?_;refine gc h ?_ ?_<;>intro _ h
       · exact rt
       exact rt
     refine gs ?_;obtain ⟨J,p,A⟩:=ob h;refine CW.jn [0,3,5,24,25,26] [0,1] [(46,.bool J)] G (h1:=?_) (h2:=?_)
     · have h:=p;refine T ?_;intro aL ac h aE aq;refine bH h ?_ ?_<;>intro _ h
       · exact rt
       refine T ?_;intro aM ad h aF ar;exact rt
     intro e aG M;have h:=A;refine gc h ?_ ?_<;>intro _ h
     · exact rt
     refine T ?_;intro aN ae h aH O aI R;exact rt
   exact rt
 intro x e aJ hM;rcases n with n | ax
 · obtain ⟨rfl,hM⟩:=hM;obtain ⟨e,rfl,U⟩:=eo hM;have h:=m;refine T ?_;intro aO af h aK V;exact rt
 obtain ⟨rfl,u,rfl,hM⟩:=hM;cases m;exact And.intro trivial hM
instance k_244:Ct prog 244:=⟨by kernel_rfl,@HQ⟩
theorem xf {w0 N M r} (h:mH N M=some r) {d j f} (m:j=M.length) (b:rb w0 d f M) :
    gV prog 313 #[vS d j f] w0 (fun v w=>v=.bool r∧St w0 [] w []):=by
 subst m;unfold mH at h;refine gV.fn func313 fun e=>?_;have U:=St.start w0;refine gs ?_;refine CW.region ?_;refine gs ?_;obtain ⟨aX,Z,h2⟩:=ob h;refine CW.jn [0] [] [(30,.bool aX)] U (h1:=?_) (h2:=?_)
 · have h:=Z;refine gB h ?_ ?_<;>intro _ h
   · exact rt
   refine gb h fun bT aa h=>?_;obtain ⟨bR,bS,bq,rfl,ay,bw,bz,⟨a3,bg,a4,bi,a5,bj,rfl,aO,aP,aQ⟩,aC⟩:=b.idx aa;refine go ?_;refine T ?_;refine bH h ?_ ?_<;>intro _ h
   · exact rt
   refine go ?_;refine T ?_;refine bH h ?_ ?_<;>intro _ h
   · exact rt
   refine go ?_;refine T ?_;exact rt
 intro e bE V;have h:=h2;refine gc h ?_ ?_<;>intro _ h
 · exact rt
 refine go ?_;obtain ⟨l,p,i⟩:=ob h;refine CW.mono (CW.lx [0,31,32] [] [] 0 (fun q=>[(33,vI q)]) (RT prog f313.results (fun u=>.bool u) w0 []) V p (hb:=?_)) ?_
 · intro q e bF o bs h;refine gc h ?_ ?_<;>intro _ h
   · refine gb h fun bM I h=>?_;obtain ⟨bc,bA,aq,rfl,az,aG,aK,⟨a6,bk,a7,bl,a8,bm,rfl,H,aR,aS⟩,aD⟩:=b.idx I;refine go ?_;refine T ?_;intro br bG bt bI W;obtain ⟨ab,C,O⟩:=ob h;refine CW.jn [0,4,31,32,33] [0] [(63,.bool ab)] W (h1:=?_) (h2:=?_)
     · have h:=C;refine T ?_;intro bN aW h bJ bu;refine bH h ?_ ?_<;>intro _ h
       · exact rt
       refine gB h ?_ ?_<;>intro _ h
       · refine go ?_;refine bH h ?_ ?_<;>intro _ h
         · refine gB h ?_ ?_<;>intro _ h
           · refine gb h fun bO J h=>?_;obtain ⟨bd,bB,ar,hae,aA,aH,aL,A,aE⟩:=b.idx J;cases hae;obtain ⟨a9,bn,ba,bo,bb,bp,rfl,aT,aU,aV⟩:=A;refine go ?_;refine T ?_;exact rt
           exact rt
         exact rt
       exact rt
     intro e bK X;have h:=O;refine gc h ?_ ?_<;>intro _ h
     · exact rt
     refine go ?_;obtain ⟨k,n,g⟩:=ob h;refine CW.mono (CW.lx [0,31,32,33,65,66] [] [0,31,32,33] 2 (fun z=>[(67,vI z)]) (RT prog f313.results (fun u=>.bool u) w0 []) X n (hb:=?_)) ?_
     · intro z e bL o Y h;refine jw [0,31,32,33,65,66,67,68] fun e=>?_;refine gc h ?_ ?_<;>intro _ h
       · refine gb h fun bP K h=>?_;obtain ⟨be,bC,au,rfl,aB,aI,aM,rfl,aF⟩:=H.idx K;refine go ?_;refine T ?_;obtain ⟨ac,G,R⟩:=ob h;refine CW.jn [0,31,32,33,65,66,67] [] [(80,.bool ac)] Y (h1:=?_) (h2:=?_)
         · have h:=G;refine gB h ?_ ?_<;>intro _ h
           · refine gb h fun bQ L h=>?_;obtain ⟨bf,bD,av,hae,ad,aJ,aN,B,ae⟩:=b.idx L;cases hae;obtain ⟨aj,an,ak,ao,am,ap,rfl,af,ah,ai⟩:=B;refine go ?_;refine T ?_;exact rt
           exact rt
         intro e a0 bv;have h:=R;refine gc h ?_ ?_<;>intro _ h
         · exact rt
         exact rt
       exact rt
     intro x e a1 hM;rcases k with k | aY
     · obtain ⟨rfl,hM⟩:=hM;obtain ⟨e,rfl,aw⟩:=eo hM;have h:=g;exact rt
     obtain ⟨rfl,u,rfl,hM⟩:=hM;cases g;exact ⟨trivial,rfl,_,rfl,hM⟩
   exact rt
 intro x e a2 hM;rcases l with l | aZ
 · obtain ⟨rfl,hM⟩:=hM;obtain ⟨e,rfl,ax⟩:=eo hM;rw [show e=iq e [] from rfl];have h:=i;exact rt
 obtain ⟨rfl,u,rfl,hM⟩:=hM;cases i;exact And.intro trivial hM
instance k_313:Ct prog 313:=⟨by kernel_rfl,@xf⟩
theorem Bo {w0 N b r} (h:oe N b=some r) {m K A} (Y:K=b.Pe.Pd.length) (aD:rb w0 m A b.Pe.Pd) {n O B} (Z:O=b.own.length) (aE:rb w0 n B b.own) {p R C} (aa:R=b.Pg.length) (aF:rb w0 p C b.Pg) {q U H} (ab:U=b.py.ag.length) (k:rb w0 q H b.py.ag) {x V I} (ac:V=b.py.gc.gQ.length) (aG:rb w0 x I b.py.gc.gQ) {z W J} (ad:W=b.gR.length) (aH:rb w0 z J b.gR) :
    gV prog 321 #[.agg #[vS m K A,vS n O B,vS p R C,vS q U H,vI b.py.gc.Ph,vI b.py.gc.Pr,vI b.py.gc.Pj,vS x V I,vS z W J,vI b.Pn,vI b.Pp,vI b.cd.gE,vI b.cd.gX,vI b.cd.g8,vI b.g5,vI b.Pm]] w0 (fun v w=>∃ ai an,v=vS ai r.length an∧St w0 [] w [sl ai an r]):=by
 subst Y Z aa ab ac ad;unfold oe at h;refine gV.fn func321 fun e=>?_;have aY:=St.start w0;refine T ?_;intro bi bj ay;refine LW.b0 (α:=pP) ay ?_;intro aI aK bk az hf;refine go ?_;refine LW.u (il.min rfl rfl) rfl ?_;have ⟨aC,ao,h⟩:=ob h;obtain ⟨aJ,aL,aB,ap,ar⟩:=iR.vt k ao;have X:=(k).le;refine LW.u (il.sub (α:=gP) (l:=b.py.ag) underlying41 mh rfl vp (vn rfl) ao X aB ap) rfl ?_;refine go ?_;obtain ⟨a6,aq,ax⟩:=ob h;refine CW.ie aq 0 (fun j e wb=>∃ (f:Ad) (g:Nat),En e [(3,vS f j.1.length g),(15,vS aJ aC.length aL),(16,vI (aC.length:Int)),(17,vI j.2)]∧St w0 [] wb [sl f g j.1]) ?_ ⟨aI,aK,az.po [0]⟩ ?_
 · intro j e a9 o hM h;obtain ⟨f,g,hE,aZ⟩:=hM;obtain ⟨e,rfl⟩:=hE.out;refine jw [3,15,16,17,18] fun e=>?_;refine gc h ?_ ?_<;>intro _ h
   · refine gb h fun d au h=>?_;obtain ⟨aW,a5,aM,rfl,aN,aP,aQ,⟨ae,aj,af,ak,ah,am,rfl,aR,aS,aT⟩,aO⟩:=ar.idx au;refine go ?_;refine T ?_;intro aw ba a0 bb a1 bf aU h bc aA;refine gc h ?_ ?_<;>intro _ h
     · refine gb h fun bg av h=>?_;refine LW.kB (M:=[]) (L:=[bx aw 101 (qO ae aj af ak ah am d),sl f g j.1]) (vs:=#[vI d.Pw,vI d.Pf,vI d.box,vI d.Pu,vI d.iz,vI d.gE,vI d.Pq,vI d.iy,vI d.im,.bool d.Ps,vS ae d.gZ.length aj,vS af d.Po.length ak,vS ah d.Pk.length am]) (i:=1) Oe rfl (by kernel_rfl) rfl rfl av aA rfl (fun w G hG=>by cases (show G=[] from hG);exact ⟨⟨_,_,_,_,_,_,_,_,_,rfl⟩,rfl⟩) rfl rfl ?_;intro a8 aV aX bd a2 hf;exact rt
     exact rt
   exact rt
 rintro e be ⟨f,g,hE,a4⟩;obtain ⟨e,rfl⟩:=hE.out;have h:=ax;exact rt
instance k_321:Ct prog 321:=⟨by kernel_rfl,@Bo⟩
theorem HU {w0 N b d r} (h:ue N b d=some r) :
    gV prog 312 #[.agg #[vI b.gE,vI b.gX,vI b.g8],.agg #[vI d.gE,vI d.gX,vI d.g8]] w0 (fun v w=>v=.tuple #[.agg #[vI r.1.gE,vI r.1.gX,vI r.1.g8],.bool r.2]∧St w0 [] w []):=by
 unfold ue at h;refine gV.fn func312 fun e=>?_;have f:=St.start w0;refine T ?_;intro q z g u A i x B j G n h C k;refine gc h ?_ ?_<;>intro _ h
 · refine T ?_;intro o l;exact rt
 refine jt [(0,vI (i64.wrap (b.gE - d.gE))),(1,vI (i64.wrap (b.gX - d.gX))),(2,vI (i64.wrap (b.g8 - d.g8)))] #[vI (i64.wrap (b.gE - d.gE)),vI (i64.wrap (b.gX - d.gX)),vI (i64.wrap (b.g8 - d.g8))] ?_;refine T ?_;intro p m;exact rt
instance k_312:Ct prog 312:=⟨by kernel_rfl,@HU⟩
theorem CY {w0} {F:List Nat} {N M af aM f r} (h:ql N M af aM f=some r) {am:Nat} {O k} (hS:St w0 F w0 [bx am 26 [vI M.Pt,vS O M.parts.length k],sl O k M.parts]) :
    gV prog 81 #[.pointer (some ⟨am,0,none⟩),vI af,vI aM,.agg #[vI f.Pf,vI f.a,vI f.b,vI f.c,vI f.d,vI f.e]] w0 (fun v w=>∃ B L,v=.tuple #[vI r.1,vI r.2.1]∧St w0 F w [bx am 26 [vI r.2.2.Pt,vS B r.2.2.parts.length L],sl B L r.2.2.parts]):=by
 unfold ql at h;refine gV.fn func81 fun e=>?_;refine T ?_;intro b2 b4 bI;refine LW.u (il.quo rfl rfl (by decide)) rfl ?_;refine go ?_;refine LW.u (il.rem rfl rfl (by decide)) rfl ?_;refine jt [(0,vI f.a),(1,vI f.b),(2,vI f.c),(3,vI (i64.wrap (Int.tdiv f.d 10))),(4,vI (Int.tmod f.d 10)),(5,vI f.e)] #[vI f.a,vI f.b,vI f.c,vI (i64.wrap (Int.tdiv f.d 10)),vI (Int.tmod f.d 10),vI f.e] ?_;refine T ?_;intro b3 b5 bJ b6 aj;refine LW.u (il.nc rfl) rfl ?_;refine go ?_;have ⟨g,ac,h⟩:=ob h;obtain ⟨U,n,hae,bM,bN⟩:=aj.hZ (α:=bh) (i:=3) rfl ac;subst hae;refine gs ?_;refine CW.block ?_;refine gs ?_;obtain ⟨aL,aD,aI⟩:=ob h;refine CW.jn [0,1,2,7,10,11] [0,1,2,3] [(33,.bool aL)] aj (h1:=?_) (h2:=?_)
 · have h:=aD;refine gB h ?_ ?_<;>intro _ h
   · exact rt
   refine T ?_;intro bY bb h bR bK;exact rt
 intro e bS aJ;have h:=aI;refine gc h ?_ ?_<;>intro _ h
 · refine go ?_;replace h:=oi h;subst h;exact Rc tt tt ⟨(some ⟨U,n,none⟩),k,rfl,aJ.pk [2,3]⟩
 refine go ?_;refine LW.u (il.nc rfl) rfl ?_;refine T ?_;intro bZ bc h bT ak;refine gc h ?_ ?_<;>intro _ h
 · refine go ?_;replace h:=oi h;subst h;exact Rc tt tt ⟨(some ⟨U,n,none⟩),k,rfl,ak.pk [2,3]⟩
 refine jK ?_;have aK:=ak.drew;refine go ?_;obtain ⟨be,o,bL⟩:=aK.freeze (α:=bh) 3 rfl;obtain ⟨bs,bO,aW,hae,ay,_,_,aA,aE⟩:=o.ju.idx ac;cases hae;obtain ⟨p,C,q,H,x,I,z,J,A,K,R,V,rfl,a2,a3,a4,a5,a6,a7⟩:=aA;refine T ?_;intro b0 bd h bU aa;refine gc h ?_ ?_<;>intro _ h
 · refine go ?_;replace h:=oi h;subst h;have ao:=aa.iD (α:=bh) 3 rfl o;exact Rc tt tt ⟨(some ⟨U,n,none⟩),k,rfl,ao.pk [2,3]⟩
 refine go ?_;refine LW.u (il.nc rfl) rfl ?_;refine T ?_;refine CW.fl [0,10,11,60] fun e=>?_;refine gc h ?_ ?_<;>intro _ h
 · refine go ?_;replace h:=oi h;subst h;have ap:=aa.iD (α:=bh) 3 rfl o;exact Rc tt tt ⟨(some ⟨U,n,none⟩),k,rfl,ap.pk [2,3]⟩
 refine jK ?_;have aq:=aa.drew;refine T ?_;refine LW.yw (α:=iB) (vs:=[(0,.agg #[vI f.a,vI f.b,vI f.c,vI (i64.wrap (Int.tdiv f.d 10)),vI (Int.tmod f.d 10),vI f.e])]) (cs:=#[vI f.a,vI f.b,vI f.c,vI (i64.wrap (Int.tdiv f.d 10)),vI (Int.tmod f.d 10),vI f.e]) (l:=([iB.mk f.a f.b f.c (i64.wrap (Int.tdiv f.d 10)) (Int.tmod f.d 10) f.e]:List iB)) rfl (by kernel_rfl) rfl rfl rfl (fun w=>⟨[vI f.a,vI f.b,vI f.c,vI (i64.wrap (Int.tdiv f.d 10)),vI (Int.tmod f.d 10),vI f.e],[],[],[],rfl,rfl,⟨rfl,rfl⟩,rfl⟩) aq rfl ?_;intro bg bv bV W hf;refine T ?_;have aF:=fun (j:Nat) (u:Value) (hu:((qP p C q H x I z J A K R V g):List Value)[j]?=some u)=>(World.cell?_of_block (W.zC 4 rfl ay)).trans (aE j u hu);have ar:=W.iD (α:=bh) 4 rfl o;obtain ⟨aQ,aG,aC⟩:=ar.focus (α:=bh) (cs:=[vS p g.Pe.Pd.length C,vS q g.own.length H,vS x g.Pg.length I,vS z g.py.ag.length J,vI g.py.gc.Ph,vI g.py.gc.Pr,vI g.py.gc.Pj,vS A g.py.gc.gQ.length K,vS R g.gR.length V,vI g.Pn,vI g.Pp,vI g.cd.gE,vI g.cd.gX,vI g.cd.g8,vI g.g5,vI g.Pm]) 4 rfl ac rfl aF;obtain ⟨bi,bw,bj,bz,bk,bA,bl,bB,bm,bC,bn,bD,az,an⟩:=aG;cases az;have X:=aC [sl p C g.Pe.Pd,sl q H g.own,sl x I g.Pg,sl z J g.py.ag,sl A K g.py.gc.gQ,sl R V g.gR] an;have ⟨ae,aH,h⟩:=ob h;refine T ?_;refine LW.jS (l:=g.gR) (m:=([iB.mk f.a f.b f.c (i64.wrap (Int.tdiv f.d 10)) (Int.tmod f.d 10) f.e]:List iB)) uJ rfl rfl (X.rI 6 rfl) aH X (i:=5) rfl rfl ?_;intro ah ai bW au hf;refine T ?_;refine LW.qf (α:=bh) (vs:=[vS ah ae.length ai]) au 10 rfl yf rfl (by show _=n+(af:Int).toNat * 16+8;omega) rfl rfl rfl rfl ?_;intro bX av hf;refine T ?_;have aw:=av.m6 (bh.mk g.Pe g.own g.Pg g.py ae g.Pn g.Pp g.cd g.g5 g.Pm) [0,1,2,3,4,5,6,7,8,9,10] 6 4 rfl rfl (fun w G hG=>⟨p,C,q,H,x,I,z,J,A,K,ah,ai,rfl,hG⟩);refine dW ?_;have Y:=aw.drew;refine gb h fun b1 ad h=>?_;obtain ⟨bt,bP,hae,a0,a1⟩:=Y.hZ (α:=bh) (i:=4) rfl ad;cases hae;obtain ⟨bf,ab,ax⟩:=Y.freeze (α:=bh) 4 rfl;obtain ⟨bu,bQ,aX,hae,aY,_,_,aB,aZ⟩:=ab.ju.idx ad;cases hae;obtain ⟨bo,bE,bp,bF,bq,bG,br,aT,aR,aU,aS,aV,rfl,a8,a9,ba,aN,aO,aP⟩:=aB;refine T ?_;replace h:=oi h;subst h;have Z:=ax.iD (α:=bh) 4 rfl ab;rw [show M.parts.length=(M.parts.set (af:Int).toNat (bh.mk g.Pe g.own g.Pg g.py ae g.Pn g.Pp g.cd g.g5 g.Pm)).length from (gS rfl)] at Z;exact Rc tt tt ⟨(some ⟨U,n,none⟩),k,rfl,Z.pk [3,4]⟩
instance k_81:Ct prog 81:=⟨by kernel_rfl,@CY⟩
end Go.Kx
