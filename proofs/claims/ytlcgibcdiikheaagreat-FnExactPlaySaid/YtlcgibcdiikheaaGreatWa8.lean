import Derived.Test.YtlcgibcdiikheaaGreatWa5
namespace Go.Kx
open Go Go.RowKit Go.Proofs
open Go.IntKind (i64)
open Tryz
set_option maxRecDepth 10000
set_option maxHeartbeats 8000000
set_option linter.unusedVariables false
set_option linter.unusedSimpArgs false
theorem zV {w0 N b r} (h:lA N b=some r) {A V J} (ab:V=b.Pe.Pd.length) (ai:rb w0 A J b.Pe.Pd) {B W K} (ac:W=b.own.length) (aj:rb w0 B K b.own) {C X L} (ad:X=b.Pg.length) (az:rb w0 C L b.Pg) {G Y M} (ae:Y=b.py.ag.length) (aA:rb w0 G M b.py.ag) {H Z O} (af:Z=b.py.gc.gQ.length) (aB:rb w0 H O b.py.gc.gQ) {I aa R} (ah:aa=b.gR.length) (ak:rb w0 I R b.gR) :
    gV prog 164 #[.agg #[vS A V J,vS B W K,vS C X L,vS G Y M,vI b.py.gc.Ph,vI b.py.gc.Pr,vI b.py.gc.Pj,vS H Z O,vS I aa R,vI b.Pn,vI b.Pp,vI b.cd.gE,vI b.cd.gX,vI b.cd.g8,vI b.g5,vI b.Pm]] w0 (fun v w=>∃ d o, ∃ f p, ∃ g q, ∃ j u, ∃ k x, ∃ n z,v=.agg #[vS d r.Pe.Pd.length o,vS f r.own.length p,vS g r.Pg.length q,vS j r.py.ag.length u,vI r.py.gc.Ph,vI r.py.gc.Pr,vI r.py.gc.Pj,vS k r.py.gc.gQ.length x,vS n r.gR.length z,vI r.Pn,vI r.Pp,vI r.cd.gE,vI r.cd.gX,vI r.cd.g8,vI r.g5,vI r.Pm]∧St w0 [] w [sl d o r.Pe.Pd,sl f p r.own,sl g q r.Pg,sl j u r.py.ag,sl k x r.py.gc.gQ,sl n z r.gR]):=by
 subst ab ac ad ae af ah;unfold lA at h;refine gV.fn func164 fun e=>?_;have aY:=St.start w0;refine T ?_;intro bq bs aZ br bt av;refine LW.b0 (α:=Int) av ?_;intro bo bp bu an hf;refine gb h fun ay ax h=>?_;refine LW.jS (l:=([]:List Int)) (m:=b.Pe.Pd) pI rfl rfl (an.rB ai) ax an (i:=0) rfl rfl ?_;intro au am a3 a0 hf;refine LW.bd [(0,vS au ay.length am)] #[vS au ay.length am] ?_;refine T ?_;intro a4 aw;refine LW.b0 (α:=Int) aw ?_;intro aK aR a6 ao hf;refine gb h fun bk aq h=>?_;refine LW.jS (l:=([]:List Int)) (m:=b.own) pI rfl rfl (ao.rB aj) aq ao (i:=0) rfl rfl ?_;intro aL aS a7 a1 hf;refine T ?_;intro a8 a2 bl aI h aM aT ba aC bb aD bm aJ h aN aU aO aV bc aE;refine T ?_;intro be ap;refine LW.b0 (α:=iB) ap ?_;intro aP aW bf U hf;refine gb h fun bn ar h=>?_;refine LW.jS (l:=([]:List iB)) (m:=b.gR) uJ rfl rfl (U.rB ak) ar U (i:=0) rfl rfl ?_;intro aQ aX bg aF hf;refine T ?_;intro bi aG bj aH;exact rt
instance k_164:Ct prog 164:=⟨by kernel_rfl,@zV⟩
theorem HY {w0 N aa r} (h:ng N aa=some r) {d i f} (m:i=aa.length) (b:rb w0 d f aa) :
    gV prog 178 #[vS d i f] w0 (fun v w=>v=.bool r∧St w0 [] w []):=by
 subst m;unfold ng at h;refine gV.fn func178 fun e=>?_;have af:=St.start w0;refine gs ?_;refine CW.region ?_;refine gs ?_;obtain ⟨bb,am,h2⟩:=ob h;refine CW.jn [0] [] [(23,.bool bb)] af (h1:=?_) (h2:=?_)
 · have h:=am;refine gB h ?_ ?_<;>intro _ h
   · exact rt
   refine gb h fun b4 an h=>?_;obtain ⟨b2,b3,bu,rfl,aM,bB,bC,rfl,aS⟩:=b.idx an;refine go ?_;refine T ?_;refine bH h ?_ ?_<;>intro _ h
   · exact rt
   refine go ?_;refine T ?_;exact rt
 intro e bK ah;have h:=h2;refine gc h ?_ ?_<;>intro _ h
 · exact rt
 refine go ?_;obtain ⟨z,O,q⟩:=ob h;refine CW.mono (CW.lx [0] [] [0] 0 (fun A=>[(3,vI A)]) (RT prog f178.results (fun u=>.bool u) w0 []) ah O (hb:=?_)) ?_
 · intro A e bL o ai h;refine gc h ?_ ?_<;>intro _ h
   · refine gs ?_;refine CW.block ?_;refine gs ?_;obtain ⟨ao,K,ab⟩:=ob h;refine CW.jn [0,3] [] [(52,.bool ao)] ai (h1:=?_) (h2:=?_)
     · have h:=K;refine gb h fun ar U h=>?_;obtain ⟨bp,bD,aC,rfl,aN,aY,a3,rfl,aT⟩:=b.idx U;refine go ?_;refine T ?_;refine bH h ?_ ?_<;>intro _ h
       · refine go ?_;refine T ?_;refine LW.bd [] #[.bool false,vI 0,vI 0,vI 0,vI 0] ?_;refine go ?_;refine LW.u (il.Nm Lj rfl rfl (fun w=>Lp ar (g6.mk false 0 (hO.mk 0 0 0)) w)) rfl ?_;refine gB h ?_ ?_<;>intro _ h
         · exact rt
         refine go ?_;refine T ?_;intro bV a8 h bM bv;exact rt
       refine go ?_;refine T ?_;intro bW a9 h bN bw;exact rt
     intro e bO aj;have h:=ab;refine gc h ?_ ?_<;>intro _ h
     · exact rt
     refine gs ?_;obtain ⟨ap,L,ac⟩:=ob h;refine CW.jn [0,3] [] [(91,.bool ap)] aj (h1:=?_) (h2:=?_)
     · have h:=L;refine gB h ?_ ?_<;>intro _ h
       · refine gb h fun bX V h=>?_;obtain ⟨bq,bE,aD,rfl,aO,aZ,a4,rfl,aU⟩:=b.idx V;refine go ?_;refine T ?_;refine bH h ?_ ?_<;>intro _ h
         · refine go ?_;refine T ?_;intro bY ba h bP bz;refine bH h ?_ ?_<;>intro _ h
           · exact rt
           refine go ?_;refine T ?_;refine bH h ?_ ?_<;>intro _ h
           · exact rt
           refine go ?_;refine T ?_;have ⟨bZ,W,h⟩:=ob h;obtain ⟨br,bF,aE,hae,aP,a0,a5,J,aV⟩:=b.idx W;cases hae;obtain rfl:=J;refine go ?_;refine T ?_;exact rt
         exact rt
       exact rt
     intro e bQ bA;have h:=ac;refine gc h ?_ ?_<;>intro _ h
     · exact rt
     exact rt
   exact rt
 intro x e bR hM;rcases z with z | bf
 · obtain ⟨rfl,hM⟩:=hM;obtain ⟨e,rfl,ak⟩:=eo hM;have h:=q;refine go ?_;obtain ⟨j,n,g⟩:=ob h;refine CW.mono (CW.lx [0] [] [0] 2 (fun B=>[(4,vI B)]) (RT prog f178.results (fun u=>.bool u) w0 []) ak n (hb:=?_)) ?_
   · intro B e bS o G h;refine gc h ?_ ?_<;>intro _ h
     · refine go ?_;obtain ⟨bJ,R,ae⟩:=ob h;refine CW.mono (CW.lb [0,4] [] [0,4,5] 4 (fun k=>[(5,vI k.1),(6,vI k.2)]) G R (hb:=?_)) ?_
       · intro k e bT o H h;refine gs ?_;obtain ⟨aq,M,ad⟩:=ob h;refine CW.jn [0,4,5,6] [] [(111,.bool aq)] H (h1:=?_) (h2:=?_)
         · have h:=M;refine gB h ?_ ?_<;>intro _ h
           · refine gb h fun b0 X h=>?_;obtain ⟨bs,bG,aF,rfl,aQ,a1,a6,rfl,aW⟩:=b.idx X;refine go ?_;refine T ?_;refine bH h ?_ ?_<;>intro _ h
             · exact rt
             exact rt
           exact rt
         intro e bU aH;have h:=ad;refine gc h ?_ ?_<;>intro _ h
         · refine gb h fun b1 Y h=>?_;obtain ⟨bt,bI,aG,rfl,aR,a2,a7,rfl,aX⟩:=b.idx Y;refine go ?_;refine T ?_;exact rt
         exact rt
       intro x e bg hM;obtain ⟨rfl,hM⟩:=hM;obtain ⟨e,rfl,I⟩:=eo hM;have h:=ae;refine gs ?_;obtain ⟨Z,l,C⟩:=ob h;refine CW.jn [0,4] [] [(127,.bool Z)] I (h1:=?_) (h2:=?_)
       · have h:=l;refine gb h fun bm p h=>?_;obtain ⟨aB,bc,au,rfl,av,ax,ay,rfl,aw⟩:=b.idx p;refine go ?_;refine T ?_;refine bH h ?_ ?_<;>intro _ h
         · exact rt
         exact rt
       intro e bi aI;have h:=C;refine gc h ?_ ?_<;>intro _ h
       · exact rt
       exact rt
     exact rt
   intro x e bj hM;rcases j with j | be
   · obtain ⟨rfl,hM⟩:=hM;obtain ⟨e,rfl,aJ⟩:=eo hM;have h:=g;refine T ?_;intro bn az h bk aK bo aA h bl aL;exact rt
   obtain ⟨rfl,u,rfl,hM⟩:=hM;cases g;exact And.intro trivial hM
 obtain ⟨rfl,u,rfl,hM⟩:=hM;cases q;exact And.intro trivial hM
instance k_178:Ct prog 178:=⟨by kernel_rfl,@HY⟩
theorem Ga {w0 N U r} (h:ly N U=some r) {d j f} (p:j=U.length) (b:rb w0 d f U) :
    gV prog 124 #[vS d j f] w0 (fun v w=>v=.bool r∧St w0 [] w []):=by
 subst p;unfold ly at h;refine gV.fn func124 fun e=>?_;have W:=St.start w0;refine gs ?_;refine CW.region ?_;refine gs ?_;obtain ⟨a5,ab,h2⟩:=ob h;refine CW.jn [0] [] [(29,.bool a5)] W (h1:=?_) (h2:=?_)
 · have h:=ab;refine gB h ?_ ?_<;>intro _ h
   · exact rt
   refine gb h fun b6 ac h=>?_;obtain ⟨b4,b5,bK,rfl,aD,bP,bQ,⟨be,bv,bf,bw,bg,bz,rfl,aT,aU,aV⟩,aH⟩:=b.idx ac;refine go ?_;refine T ?_;refine bH h ?_ ?_<;>intro _ h
   · exact rt
   refine go ?_;refine T ?_;refine bH h ?_ ?_<;>intro _ h
   · exact rt
   refine go ?_;refine T ?_;exact rt
 intro e bU X;have h:=h2;refine gc h ?_ ?_<;>intro _ h
 · exact rt
 refine go ?_;obtain ⟨l,z,i⟩:=ob h;refine CW.mono (CW.lx [0] [] [] 0 (fun B=>[(3,vI B)]) (RT prog f124.results (fun u=>.bool u) w0 []) X z (hb:=?_)) ?_
 · intro B e bV o Y h;refine gc h ?_ ?_<;>intro _ h
   · refine gs ?_;refine CW.block ?_;refine gs ?_;obtain ⟨ad,I,V⟩:=ob h;refine CW.jn [0,3] [] [(73,.bool ad)] Y (h1:=?_) (h2:=?_)
     · have h:=I;refine gb h fun bZ K h=>?_;obtain ⟨br,bR,aA,rfl,aE,aL,aP,⟨bi,bA,bj,bB,bk,bC,rfl,aW,aX,aY⟩,aI⟩:=b.idx K;refine go ?_;refine T ?_;intro b0 a4 h bW bL;refine bH h ?_ ?_<;>intro _ h
       · exact rt
       refine go ?_;refine T ?_;refine bH h ?_ ?_<;>intro _ h
       · refine go ?_;refine bH h ?_ ?_<;>intro _ h
         · refine go ?_;refine T ?_;refine bH h ?_ ?_<;>intro _ h
           · refine go ?_;refine T ?_;have ⟨b1,L,h⟩:=ob h;obtain ⟨bs,bS,aB,hae,aF,aM,aQ,H,aJ⟩:=b.idx L;cases hae;obtain ⟨bl,bD,bm,bE,bn,bF,rfl,aZ,a0,a1⟩:=H;refine go ?_;refine T ?_;exact rt
           exact rt
         exact rt
       exact rt
     intro e bX Z;have h:=V;refine gc h ?_ ?_<;>intro _ h
     · exact rt
     refine go ?_;obtain ⟨k,q,g⟩:=ob h;refine CW.mono (CW.lx [0,3] [] [0,3] 2 (fun C=>[(4,vI C)]) (RT prog f124.results (fun u=>.bool u) w0 []) Z q (hb:=?_)) ?_
     · intro C e bY o aa h;refine gb h fun b2 M h=>?_;obtain ⟨bt,bT,aC,rfl,aG,aN,aR,⟨bo,bG,bp,bI,bq,bJ,rfl,J,a2,a3⟩,aK⟩:=b.idx M;refine go ?_;refine T ?_;refine CW.fl [0,3,4,81] fun e=>?_;refine gc h ?_ ?_<;>intro _ h
       · refine go ?_;refine T ?_;have ⟨b3,O,h⟩:=ob h;obtain ⟨bu,a6,ae,rfl,ah,aO,aS,rfl,aj⟩:=J.idx O;refine go ?_;refine T ?_;obtain ⟨R,n,G⟩:=ob h;refine CW.jn [0,3,4] [] [(101,.bool R)] aa (h1:=?_) (h2:=?_)
         · have h:=n;refine gB h ?_ ?_<;>intro _ h
           · refine gb h fun bd A h=>?_;obtain ⟨aw,a7,af,hae,ai,am,an,m,ak⟩:=b.idx A;cases hae;obtain ⟨ar,ax,au,ay,av,az,rfl,ao,ap,aq⟩:=m;refine go ?_;refine T ?_;exact rt
           exact rt
         intro e ba bM;have h:=G;refine gc h ?_ ?_<;>intro _ h
         · exact rt
         exact rt
       exact rt
     intro x e bb hM;rcases k with k | a8
     · obtain ⟨rfl,hM⟩:=hM;obtain ⟨e,rfl,bN⟩:=eo hM;have h:=g;exact rt
     obtain ⟨rfl,u,rfl,hM⟩:=hM;cases g;exact ⟨trivial,rfl,_,rfl,hM⟩
   exact rt
 intro x e bc hM;rcases l with l | a9
 · obtain ⟨rfl,hM⟩:=hM;obtain ⟨e,rfl,bO⟩:=eo hM;rw [show e=iq e [] from rfl];have h:=i;exact rt
 obtain ⟨rfl,u,rfl,hM⟩:=hM;cases i;exact And.intro trivial hM
instance k_124:Ct prog 124:=⟨by kernel_rfl,@Ga⟩
theorem J8 {w0 N b r} (h:wi N b=some r) {d z l} (I:z=b.Pe.Pd.length) (ab:rb w0 d l b.Pe.Pd) {f A m} (J:A=b.own.length) (ac:rb w0 f m b.own) {g B n} (K:B=b.Pg.length) (ad:rb w0 g n b.Pg) {i C p} (L:C=b.py.ag.length) (R:rb w0 i p b.py.ag) {j G q} (M:G=b.py.gc.gQ.length) (ae:rb w0 j q b.py.gc.gQ) {k H u} (O:H=b.gR.length) (af:rb w0 k u b.gR) :
    gV prog 276 #[.agg #[vS d z l,vS f A m,vS g B n,vS i C p,vI b.py.gc.Ph,vI b.py.gc.Pr,vI b.py.gc.Pj,vS j G q,vS k H u,vI b.Pn,vI b.Pp,vI b.cd.gE,vI b.cd.gX,vI b.cd.g8,vI b.g5,vI b.Pm]] w0 (fun v w=>v=vI r∧St w0 [] w []):=by
 subst I J K L M O;unfold wi at h;refine gV.fn func276 fun e=>?_;have aC:=St.start w0;refine T ?_;intro aM aN Y;refine go ?_;obtain ⟨aH,U,X⟩:=ob h;refine CW.mono (CW.lb [1] [0] [3] 0 (fun W=>[(3,vI W.1),(4,vI W.2)]) Y U (hb:=?_)) ?_
 · intro W e aO o Z h;refine gs ?_;obtain ⟨au,aa,ai⟩:=ob h;refine CW.jn [1,3,4] [0] [(14,.bool au)] Z (h1:=?_) (h2:=?_)
   · have h:=aa;refine gB h ?_ ?_<;>intro _ h
     · exact rt
     exact rt
   intro e aP aD;have h:=ai;refine gc h ?_ ?_<;>intro _ h
   · refine gb h fun aK V h=>?_;obtain ⟨ay,aG,ah,rfl,aj,am,an,⟨av,az,aw,aA,ax,aB,rfl,ao,ap,aq⟩,ak⟩:=R.idx V;refine go ?_;refine T ?_;intro aL ar h aI aE;refine gc h ?_ ?_<;>intro _ h
     · refine go ?_;refine T ?_;exact rt
     exact rt
   exact rt
 intro x e aJ hM;obtain ⟨rfl,hM⟩:=hM;obtain ⟨e,rfl,aF⟩:=eo hM;have h:=X;exact rt
instance k_276:Ct prog 276:=⟨by kernel_rfl,@J8⟩
theorem E2 {w0 N b d r} (h:sR N b d=some r) :
    gV prog 337 #[.agg #[vI b.Pu,vI b.jy,vI b.kJ,vI b.jR,vI b.Pf,vI b.ka],.agg #[vI d.gE,vI d.gX,vI d.g8]] w0 (fun v w=>v=vI r∧St w0 [] w []):=by
 unfold sR at h;refine gV.fn func337 fun e=>?_;have m:=St.start w0;refine T ?_;intro I K n J L f;obtain ⟨l,g,i⟩:=ob h;refine CW.jn [2,3] [0,1] [(13,.bool l)] f (h1:=?_) (h2:=?_)
 · have h:=g;refine T ?_;intro O z h M o;refine bH h ?_ ?_<;>intro _ h
   · exact rt
   refine T ?_;intro G j h A p;exact rt
 intro e B q;have h:=i;refine gc h ?_ ?_<;>intro _ h
 · exact rt
 refine T ?_;intro H k h C x;refine gc h ?_ ?_<;>intro _ h
 · refine go ?_;refine LW.u (il.min rfl rfl) rfl ?_;exact rt
 refine go ?_;refine LW.u (il.quo rfl rfl (by decide)) rfl ?_;exact rt
instance k_337:Ct prog 337:=⟨by kernel_rfl,@E2⟩
theorem FX {w0 N b d r} (h:sS N b d=some r) :
    gV prog 353 #[.agg #[vI b.gE,vI b.gX,vI b.g8],.agg #[vI d.gE,vI d.gX,vI d.g8]] w0 (fun v w=>v=.bool r∧St w0 [] w []):=by
 unfold sS at h;refine gV.fn func353 fun e=>?_;have f:=St.start w0;refine T ?_;intro n p g o q i;refine T ?_;intro z l h u j;refine bH h ?_ ?_<;>intro _ h
 · refine T ?_;intro A m h x k;refine bH h ?_ ?_<;>intro _ h
   · refine gB h ?_ ?_<;>intro _ h
     · refine go ?_;refine bH h ?_ ?_<;>intro _ h
       · exact rt
       exact rt
     exact rt
   exact rt
 exact rt
instance k_353:Ct prog 353:=⟨by kernel_rfl,@FX⟩
theorem Bg {w0 N b d r} (h:mC N b d=some r) :
    gV prog 117 #[.agg #[vI b.gE,vI b.gX,vI b.g8],.agg #[vI d.gE,vI d.gX,vI d.g8]] w0 (fun v w=>v=.tuple #[.agg #[vI r.1.gE,vI r.1.gX,vI r.1.g8],.bool r.2]∧St w0 [] w []):=by
 unfold mC at h;refine gV.fn func117 fun e=>?_;have u:=St.start w0;refine T ?_;intro Z ac x aa ad z ab ae f;obtain ⟨p,g,i⟩:=ob h;refine CW.jn [2,3,4] [0,1,2] [(14,.bool p)] f (h1:=?_) (h2:=?_)
 · have h:=g;refine T ?_;intro af I h J A;refine bH h ?_ ?_<;>intro _ h
   · exact rt
   refine T ?_;intro X n h K B;exact rt
 intro e L C;have h:=i;refine gc h ?_ ?_<;>intro _ h
 · refine T ?_;intro M G;exact rt
 refine jt [(0,vI (i64.wrap (b.gE+d.gE))),(1,vI (i64.wrap (b.gX+d.gX))),(2,vI (i64.wrap (b.g8+d.g8)))] #[vI (i64.wrap (b.gE+d.gE)),vI (i64.wrap (b.gX+d.gX)),vI (i64.wrap (b.g8+d.g8))] ?_;refine T ?_;intro q O H R j Y o h U k;refine CW.fl [2,4,6,34] fun e=>?_;refine gc h ?_ ?_<;>intro _ h
 · refine T ?_;intro V l;exact rt
 refine T ?_;intro W m;exact rt
instance k_117:Ct prog 117:=⟨by kernel_rfl,@Bg⟩
theorem CZ {w0 N l p f r} (h:pY N l p f=some r) {g j i} (k:j=l.parts.length) (q:rb w0 g i l.parts) :
    gV prog 86 #[.agg #[vI l.Pt,vS g j i],vI p,.agg #[vI f.Pf,vI f.a,vI f.b,vI f.c,vI f.d,vI f.e]] w0 (fun v w=>v=vI r∧St w0 [] w []):=by
 subst k;unfold pY at h;refine gV.fn func86 fun e=>?_;have G:=St.start w0;refine T ?_;intro X Z H Y aa m;obtain ⟨B,n,u⟩:=ob h;refine CW.jn [3] [1] [(7,vI B)] m (h1:=?_) (h2:=?_)
 · have h:=n;refine CW.block ?_;refine gs ?_;refine CW.region ?_;refine gs ?_;obtain ⟨C,o,x⟩:=ob h;refine CW.jn [3,5,7,10] [0,1] [(11,.bool C)] m (h1:=?_) (h2:=?_)
   · have h:=o;refine gc h ?_ ?_<;>intro _ h
     · exact rt
     exact rt
   intro e M I;have h:=x;refine gc h ?_ ?_<;>intro _ h
   · refine T ?_;intro V z h O J;exact rt
   refine gc h ?_ ?_<;>intro _ h
   · exact rt
   exact rt
 intro e R K;have h:=u;refine T ?_;intro W A h U L;refine CW.fl [7,27] fun e=>?_;refine gc h ?_ ?_<;>intro _ h
 · exact rt
 exact rt
instance k_86:Ct prog 86:=⟨by kernel_rfl,@CZ⟩
theorem EM {w0 N b r} (h:mP N b=some r) {g x j} (A:x=b.ag.length) (U:rb w0 g j b.ag) {d z f} (B:z=b.gc.gQ.length) (V:rb w0 d f b.gc.gQ) :
    gV prog 234 #[.agg #[vS g x j,vI b.gc.Ph,vI b.gc.Pr,vI b.gc.Pj,vS d z f]] w0 (fun v w=>∃ n p, ∃ o q,v=.agg #[vS n r.ag.length p,vI r.gc.Ph,vI r.gc.Pr,vI r.gc.Pj,vS o r.gc.gQ.length q]∧St w0 [] w [sl n p r.ag,sl o q r.gc.gQ]):=by
 subst A B;unfold mP at h;refine gV.fn func234 fun e=>?_;have ai:=St.start w0;refine T ?_;intro K aF aj L aG M;obtain ⟨R,O,W⟩:=ob h;refine CW.cut (fun e wb=>∃ (m:Nat) (k:Ad) (l:Nat),En e [(1,.pointer (some ⟨K,0,none⟩)),(2,.pointer (some ⟨L,0,none⟩)),(3,.pointer (some ⟨m,0,none⟩))]∧St w0 [] wb [bx L 45 [vS none 0 0,vI 0,vI 0,vI 0,vS none 0 0],bx K 45 (qH g j d f b),bx m 45 [vS k R.length l,vI b.gc.Ph,vI b.gc.Pr,vI b.gc.Pj,vS d b.gc.gQ.length f],sl k l R]) ?_ ?_
 · have h:=O;refine dW ?_;have ak:=M.drew;refine gb h fun C ar h=>?_;refine AW.all (rs:=[2,6]) (by kernel_rfl) (by simp) ⟨?_,?_,trivial⟩
   · refine oA ?_;refine T ?_;intro G I au am;refine AW.u (i:=5) rfl (by kernel_rfl) rfl rfl (il.build (vs:=[(0,vS G C.length I),(1,.agg #[vI b.gc.Ph,vI b.gc.Pr,vI b.gc.Pj,vS d b.gc.gQ.length f])]) (cs:=#[vS G C.length I,vI b.gc.Ph,vI b.gc.Pr,vI b.gc.Pj,vS d b.gc.gQ.length f]) rfl (by kernel_rfl)) ?_;refine T ?_;intro af av an aw ao;exact rt
   refine oA ?_;refine T ?_;intro ah ax ap;refine jP 2 ?_;refine T ?_;intro H J ay aq;refine AW.u (i:=5) rfl (by kernel_rfl) rfl rfl (il.build (vs:=[(0,vS H C.length J),(1,.agg #[vI b.gc.Ph,vI b.gc.Pr,vI b.gc.Pj,vS d b.gc.gQ.length f])]) (cs:=#[vS H C.length J,vI b.gc.Ph,vI b.gc.Pr,vI b.gc.Pj,vS d b.gc.gQ.length f]) rfl (by kernel_rfl)) ?_;refine T ?_;intro az X;exact rt
 rintro e aA ⟨m,k,l,hE,Y⟩;obtain ⟨e,rfl⟩:=hE.out;have h:=W;refine T ?_;intro aE ac h ad ae aB Z aC aa aD ab;exact rt
instance k_234:Ct prog 234:=⟨by kernel_rfl,@EM⟩
theorem Fj {w0 N n z r} (h:sM N n z=some r) {b f d} (g:f=n.length) (i:rb w0 b d n) :
    gV prog 320 #[vS b f d,vI z] w0 (fun v w=>v=.bool r∧St w0 [] w []):=by
 subst g;unfold sM at h;refine gV.fn func320 fun e=>?_;have p:=St.start w0;refine go ?_;obtain ⟨k,l,j⟩:=ob h;refine CW.mono (CW.lx [0] [] [] 0 (fun m=>[(1,vI m.1),(5,vI m.2)]) (RT prog f320.results (fun u=>.bool u) w0 []) p l (hb:=?_)) ?_
 · intro m e V o I h;refine gc h ?_ ?_<;>intro _ h
   · refine gc h ?_ ?_<;>intro _ h
     · exact rt
     refine T ?_;intro X M h W J;refine gc h ?_ ?_<;>intro _ h
     · exact rt
     refine gb h fun Y q h=>?_;obtain ⟨H,O,A,rfl,B,L,G,rfl,C⟩:=i.idx q;refine go ?_;refine T ?_;exact rt
   exact rt
 intro x e U hM;rcases k with k | R
 · obtain ⟨rfl,hM⟩:=hM;obtain ⟨e,rfl,K⟩:=eo hM;rw [show e=iq e [] from rfl];have h:=j;exact rt
 obtain ⟨rfl,u,rfl,hM⟩:=hM;cases j;exact And.intro trivial hM
instance k_320:Ct prog 320:=⟨by kernel_rfl,@Fj⟩
end Go.Kx
