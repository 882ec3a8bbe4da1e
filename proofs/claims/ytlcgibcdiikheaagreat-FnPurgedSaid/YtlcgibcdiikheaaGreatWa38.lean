import Derived.Test.YtlcgibcdiikheaaGreatWa37
namespace Go.Kx
open Go Go.RowKit Go.Proofs
open Go.IntKind (i64)
open Tryz
set_option maxRecDepth 10000
set_option maxHeartbeats 8000000
set_option linter.unusedVariables false
set_option linter.unusedSimpArgs false
theorem uL {w0 N b r} (h:kn N b=some r) {A V J} (ab:V=b.HB.Hz.length) (ai:rb w0 A J b.HB.Hz) {B W K} (ac:W=b.own.length) (aj:rb w0 B K b.own) {C X L} (ad:X=b.HC.length) (az:rb w0 C L b.HC) {G Y M} (ae:Y=b.py.ag.length) (aA:rb w0 G M b.py.ag) {H Z O} (af:Z=b.py.gc.gQ.length) (aB:rb w0 H O b.py.gc.gQ) {I aa R} (ah:aa=b.gR.length) (ak:rb w0 I R b.gR) :
    gZ prog 164 #[.agg #[vS A V J,vS B W K,vS C X L,vS G Y M,vI b.py.gc.HD,vI b.py.gc.HL,vI b.py.gc.HF,vS H Z O,vS I aa R,vI b.HH,vI b.HJ,vI b.gP.gE,vI b.gP.gV,vI b.gP.hY,vI b.g8,vI b.HG]] w0 (fun v w=>∃ d o, ∃ f p, ∃ g q, ∃ j u, ∃ k x, ∃ n z,v=.agg #[vS d r.HB.Hz.length o,vS f r.own.length p,vS g r.HC.length q,vS j r.py.ag.length u,vI r.py.gc.HD,vI r.py.gc.HL,vI r.py.gc.HF,vS k r.py.gc.gQ.length x,vS n r.gR.length z,vI r.HH,vI r.HJ,vI r.gP.gE,vI r.gP.gV,vI r.gP.hY,vI r.g8,vI r.HG]∧St w0 [] w [sl d o r.HB.Hz,sl f p r.own,sl g q r.HC,sl j u r.py.ag,sl k x r.py.gc.gQ,sl n z r.gR]):=by
 subst ab ac ad ae af ah;unfold kn at h;refine gZ.fn func164 fun e=>?_;have aY:=St.start w0;refine T ?_;intro bq bs aZ br bt av;refine LW.b0 (α:=Int) av ?_;intro bo bp bu an hf;refine gb h fun ay ax h=>?_;refine LW.jw (l:=([]:List Int)) (m:=b.HB.Hz) mX rfl rfl (an.rB ai) ax an (i:=0) rfl rfl ?_;intro au am a3 a0 hf;refine LW.bd [(0,vS au ay.length am)] #[vS au ay.length am] ?_;refine T ?_;intro a4 aw;refine LW.b0 (α:=Int) aw ?_;intro aK aR a6 ao hf;refine gb h fun bk aq h=>?_;refine LW.jw (l:=([]:List Int)) (m:=b.own) mX rfl rfl (ao.rB aj) aq ao (i:=0) rfl rfl ?_;intro aL aS a7 a1 hf;refine T ?_;intro a8 a2 bl aI h aM aT ba aC bb aD bm aJ h aN aU aO aV bc aE;refine T ?_;intro be ap;refine LW.b0 (α:=iS) ap ?_;intro aP aW bf U hf;refine gb h fun bn ar h=>?_;refine LW.jw (l:=([]:List iS)) (m:=b.gR) sW rfl rfl (U.rB ak) ar U (i:=0) rfl rfl ?_;intro aQ aX bg aF hf;refine T ?_;intro bi aG bj aH;exact rt
instance k_164:Ct prog 164:=⟨by kernel_rfl,@uL⟩
theorem Bn {w0 N aa r} (h:lF N aa=some r) {d i f} (m:i=aa.length) (b:rb w0 d f aa) :
    gZ prog 178 #[vS d i f] w0 (fun v w=>v=.bool r∧St w0 [] w []):=by
 subst m;unfold lF at h;refine gZ.fn func178 fun e=>?_;have af:=St.start w0;refine gs ?_;refine CW.region ?_;refine gs ?_;obtain ⟨bb,am,h2⟩:=ob h;refine CW.jn [0] [] [(23,.bool bb)] af (h1:=?_) (h2:=?_)
 · have h:=am;refine gB h ?_ ?_<;>intro _ h
   · exact rt
   refine gb h fun b4 an h=>?_;obtain ⟨b2,b3,bu,rfl,aM,bB,bC,rfl,aS⟩:=b.idx an;refine go ?_;refine T ?_;refine bH h ?_ ?_<;>intro _ h
   · exact rt
   refine go ?_;refine T ?_;exact rt
 intro e bK ah;have h:=h2;refine gc h ?_ ?_<;>intro _ h
 · exact rt
 refine go ?_;obtain ⟨z,O,q⟩:=ob h;refine CW.mono (CW.lx [0] [] [0] 0 (fun A=>[(3,vI A)]) (RT prog f178.results (fun u=>.bool u) w0 []) ah O (hb:=?_)) ?_
 · intro A e bL o ai h;refine gc h ?_ ?_<;>intro _ h
   · refine gs ?_;refine CW.block ?_;refine gs ?_;obtain ⟨ao,K,ab⟩:=ob h;refine CW.jn [0,3] [] [(52,.bool ao)] ai (h1:=?_) (h2:=?_)
     · have h:=K;refine gb h fun ar U h=>?_;obtain ⟨bp,bD,aC,rfl,aN,aY,a3,rfl,aT⟩:=b.idx U;refine go ?_;refine T ?_;refine bH h ?_ ?_<;>intro _ h
       · refine go ?_;refine T ?_;refine LW.bd [] #[.bool false,vI 0,vI 0,vI 0,vI 0] ?_;refine go ?_;refine LW.u (iI.Gx F6 rfl rfl (fun w=>Gr ar (gW.mk false 0 (ig.mk 0 0 0)) w)) rfl ?_;refine gB h ?_ ?_<;>intro _ h
         · exact rt
         refine go ?_;refine T ?_;intro bV a8 h bM bv;exact rt
       refine go ?_;refine T ?_;intro bW a9 h bN bw;exact rt
     intro e bO aj;have h:=ab;refine gc h ?_ ?_<;>intro _ h
     · exact rt
     refine gs ?_;obtain ⟨ap,L,ac⟩:=ob h;refine CW.jn [0,3] [] [(91,.bool ap)] aj (h1:=?_) (h2:=?_)
     · have h:=L;refine gB h ?_ ?_<;>intro _ h
       · refine gb h fun bX V h=>?_;obtain ⟨bq,bE,aD,rfl,aO,aZ,a4,rfl,aU⟩:=b.idx V;refine go ?_;refine T ?_;refine bH h ?_ ?_<;>intro _ h
         · refine go ?_;refine T ?_;intro bY ba h bP bz;refine bH h ?_ ?_<;>intro _ h
           · exact rt
           refine go ?_;refine T ?_;refine bH h ?_ ?_<;>intro _ h
           · exact rt
           refine go ?_;refine T ?_;have ⟨bZ,W,h⟩:=ob h;obtain ⟨br,bF,aE,hae,aP,a0,a5,J,aV⟩:=b.idx W;cases hae;obtain rfl:=J;refine go ?_;refine T ?_;exact rt
         exact rt
       exact rt
     intro e bQ bA;have h:=ac;refine gc h ?_ ?_<;>intro _ h
     · exact rt
     exact rt
   exact rt
 intro x e bR hM;rcases z with z | bf
 · obtain ⟨rfl,hM⟩:=hM;obtain ⟨e,rfl,ak⟩:=eo hM;have h:=q;refine go ?_;obtain ⟨j,n,g⟩:=ob h;refine CW.mono (CW.lx [0] [] [0] 2 (fun B=>[(4,vI B)]) (RT prog f178.results (fun u=>.bool u) w0 []) ak n (hb:=?_)) ?_
   · intro B e bS o G h;refine gc h ?_ ?_<;>intro _ h
     · refine go ?_;obtain ⟨bJ,R,ae⟩:=ob h;refine CW.mono (CW.lb [0,4] [] [0,4,5] 4 (fun k=>[(5,vI k.1),(6,vI k.2)]) G R (hb:=?_)) ?_
       · intro k e bT o H h;refine gs ?_;obtain ⟨aq,M,ad⟩:=ob h;refine CW.jn [0,4,5,6] [] [(111,.bool aq)] H (h1:=?_) (h2:=?_)
         · have h:=M;refine gB h ?_ ?_<;>intro _ h
           · refine gb h fun b0 X h=>?_;obtain ⟨bs,bG,aF,rfl,aQ,a1,a6,rfl,aW⟩:=b.idx X;refine go ?_;refine T ?_;refine bH h ?_ ?_<;>intro _ h
             · exact rt
             exact rt
           exact rt
         intro e bU aH;have h:=ad;refine gc h ?_ ?_<;>intro _ h
         · refine gb h fun b1 Y h=>?_;obtain ⟨bt,bI,aG,rfl,aR,a2,a7,rfl,aX⟩:=b.idx Y;refine go ?_;refine T ?_;exact rt
         exact rt
       intro x e bg hM;obtain ⟨rfl,hM⟩:=hM;obtain ⟨e,rfl,I⟩:=eo hM;have h:=ae;refine gs ?_;obtain ⟨Z,l,C⟩:=ob h;refine CW.jn [0,4] [] [(127,.bool Z)] I (h1:=?_) (h2:=?_)
       · have h:=l;refine gb h fun bm p h=>?_;obtain ⟨aB,bc,au,rfl,av,ax,ay,rfl,aw⟩:=b.idx p;refine go ?_;refine T ?_;refine bH h ?_ ?_<;>intro _ h
         · exact rt
         exact rt
       intro e bi aI;have h:=C;refine gc h ?_ ?_<;>intro _ h
       · exact rt
       exact rt
     exact rt
   intro x e bj hM;rcases j with j | be
   · obtain ⟨rfl,hM⟩:=hM;obtain ⟨e,rfl,aJ⟩:=eo hM;have h:=g;refine T ?_;intro bn az h bk aK bo aA h bl aL;exact rt
   obtain ⟨rfl,u,rfl,hM⟩:=hM;cases g;exact And.intro trivial hM
 obtain ⟨rfl,u,rfl,hM⟩:=hM;cases q;exact And.intro trivial hM
instance k_178:Ct prog 178:=⟨by kernel_rfl,@Bn⟩
theorem zs {w0 N U r} (h:kk N U=some r) {d j f} (p:j=U.length) (b:rb w0 d f U) :
    gZ prog 124 #[vS d j f] w0 (fun v w=>v=.bool r∧St w0 [] w []):=by
 subst p;unfold kk at h;refine gZ.fn func124 fun e=>?_;have W:=St.start w0;refine gs ?_;refine CW.region ?_;refine gs ?_;obtain ⟨a5,ab,h2⟩:=ob h;refine CW.jn [0] [] [(29,.bool a5)] W (h1:=?_) (h2:=?_)
 · have h:=ab;refine gB h ?_ ?_<;>intro _ h
   · exact rt
   refine gb h fun b6 ac h=>?_;obtain ⟨b4,b5,bK,rfl,aD,bP,bQ,⟨be,bv,bf,bw,bg,bz,rfl,aT,aU,aV⟩,aH⟩:=b.idx ac;refine go ?_;refine T ?_;refine bH h ?_ ?_<;>intro _ h
   · exact rt
   refine go ?_;refine T ?_;refine bH h ?_ ?_<;>intro _ h
   · exact rt
   refine go ?_;refine T ?_;exact rt
 intro e bU X;have h:=h2;refine gc h ?_ ?_<;>intro _ h
 · exact rt
 refine go ?_;obtain ⟨l,z,i⟩:=ob h;refine CW.mono (CW.lx [0] [] [] 0 (fun B=>[(3,vI B)]) (RT prog f124.results (fun u=>.bool u) w0 []) X z (hb:=?_)) ?_
 · intro B e bV o Y h;refine gc h ?_ ?_<;>intro _ h
   · refine gs ?_;refine CW.block ?_;refine gs ?_;obtain ⟨ad,I,V⟩:=ob h;refine CW.jn [0,3] [] [(73,.bool ad)] Y (h1:=?_) (h2:=?_)
     · have h:=I;refine gb h fun bZ K h=>?_;obtain ⟨br,bR,aA,rfl,aE,aL,aP,⟨bi,bA,bj,bB,bk,bC,rfl,aW,aX,aY⟩,aI⟩:=b.idx K;refine go ?_;refine T ?_;intro b0 a4 h bW bL;refine bH h ?_ ?_<;>intro _ h
       · exact rt
       refine go ?_;refine T ?_;refine bH h ?_ ?_<;>intro _ h
       · refine go ?_;refine bH h ?_ ?_<;>intro _ h
         · refine go ?_;refine T ?_;refine bH h ?_ ?_<;>intro _ h
           · refine go ?_;refine T ?_;have ⟨b1,L,h⟩:=ob h;obtain ⟨bs,bS,aB,hae,aF,aM,aQ,H,aJ⟩:=b.idx L;cases hae;obtain ⟨bl,bD,bm,bE,bn,bF,rfl,aZ,a0,a1⟩:=H;refine go ?_;refine T ?_;exact rt
           exact rt
         exact rt
       exact rt
     intro e bX Z;have h:=V;refine gc h ?_ ?_<;>intro _ h
     · exact rt
     refine go ?_;obtain ⟨k,q,g⟩:=ob h;refine CW.mono (CW.lx [0,3] [] [0,3] 2 (fun C=>[(4,vI C)]) (RT prog f124.results (fun u=>.bool u) w0 []) Z q (hb:=?_)) ?_
     · intro C e bY o aa h;refine gb h fun b2 M h=>?_;obtain ⟨bt,bT,aC,rfl,aG,aN,aR,⟨bo,bG,bp,bI,bq,bJ,rfl,J,a2,a3⟩,aK⟩:=b.idx M;refine go ?_;refine T ?_;refine CW.fl [0,3,4,81] fun e=>?_;refine gc h ?_ ?_<;>intro _ h
       · refine go ?_;refine T ?_;have ⟨b3,O,h⟩:=ob h;obtain ⟨bu,a6,ae,rfl,ah,aO,aS,rfl,aj⟩:=J.idx O;refine go ?_;refine T ?_;obtain ⟨R,n,G⟩:=ob h;refine CW.jn [0,3,4] [] [(101,.bool R)] aa (h1:=?_) (h2:=?_)
         · have h:=n;refine gB h ?_ ?_<;>intro _ h
           · refine gb h fun bd A h=>?_;obtain ⟨aw,a7,af,hae,ai,am,an,m,ak⟩:=b.idx A;cases hae;obtain ⟨ar,ax,au,ay,av,az,rfl,ao,ap,aq⟩:=m;refine go ?_;refine T ?_;exact rt
           exact rt
         intro e ba bM;have h:=G;refine gc h ?_ ?_<;>intro _ h
         · exact rt
         exact rt
       exact rt
     intro x e bb hM;rcases k with k | a8
     · obtain ⟨rfl,hM⟩:=hM;obtain ⟨e,rfl,bN⟩:=eo hM;have h:=g;exact rt
     obtain ⟨rfl,u,rfl,hM⟩:=hM;cases g;exact ⟨trivial,rfl,_,rfl,hM⟩
   exact rt
 intro x e bc hM;rcases l with l | a9
 · obtain ⟨rfl,hM⟩:=hM;obtain ⟨e,rfl,bO⟩:=eo hM;rw [show e=ij e [] from rfl];have h:=i;exact rt
 obtain ⟨rfl,u,rfl,hM⟩:=hM;cases i;exact And.intro trivial hM
instance k_124:Ct prog 124:=⟨by kernel_rfl,@zs⟩
theorem Dl {w0 N b r} (h:rJ N b=some r) {d z l} (I:z=b.HB.Hz.length) (ab:rb w0 d l b.HB.Hz) {f A m} (J:A=b.own.length) (ac:rb w0 f m b.own) {g B n} (K:B=b.HC.length) (ad:rb w0 g n b.HC) {i C p} (L:C=b.py.ag.length) (R:rb w0 i p b.py.ag) {j G q} (M:G=b.py.gc.gQ.length) (ae:rb w0 j q b.py.gc.gQ) {k H u} (O:H=b.gR.length) (af:rb w0 k u b.gR) :
    gZ prog 276 #[.agg #[vS d z l,vS f A m,vS g B n,vS i C p,vI b.py.gc.HD,vI b.py.gc.HL,vI b.py.gc.HF,vS j G q,vS k H u,vI b.HH,vI b.HJ,vI b.gP.gE,vI b.gP.gV,vI b.gP.hY,vI b.g8,vI b.HG]] w0 (fun v w=>v=vI r∧St w0 [] w []):=by
 subst I J K L M O;unfold rJ at h;refine gZ.fn func276 fun e=>?_;have aC:=St.start w0;refine T ?_;intro aM aN Y;refine go ?_;obtain ⟨aH,U,X⟩:=ob h;refine CW.mono (CW.lb [1] [0] [3] 0 (fun W=>[(3,vI W.1),(4,vI W.2)]) Y U (hb:=?_)) ?_
 · intro W e aO o Z h;refine gs ?_;obtain ⟨au,aa,ai⟩:=ob h;refine CW.jn [1,3,4] [0] [(14,.bool au)] Z (h1:=?_) (h2:=?_)
   · have h:=aa;refine gB h ?_ ?_<;>intro _ h
     · exact rt
     exact rt
   intro e aP aD;have h:=ai;refine gc h ?_ ?_<;>intro _ h
   · refine gb h fun aK V h=>?_;obtain ⟨ay,aG,ah,rfl,aj,am,an,⟨av,az,aw,aA,ax,aB,rfl,ao,ap,aq⟩,ak⟩:=R.idx V;refine go ?_;refine T ?_;intro aL ar h aI aE;refine gc h ?_ ?_<;>intro _ h
     · refine go ?_;refine T ?_;exact rt
     exact rt
   exact rt
 intro x e aJ hM;obtain ⟨rfl,hM⟩:=hM;obtain ⟨e,rfl,aF⟩:=eo hM;have h:=X;exact rt
instance k_276:Ct prog 276:=⟨by kernel_rfl,@Dl⟩
theorem zf {w0 N b d r} (h:oW N b d=some r) :
    gZ prog 337 #[.agg #[vI b.HP,vI b.j6,vI b.oq,vI b.mg,vI b.HA,vI b.mV],.agg #[vI d.gE,vI d.gV,vI d.hY]] w0 (fun v w=>v=vI r∧St w0 [] w []):=by
 unfold oW at h;refine gZ.fn func337 fun e=>?_;have m:=St.start w0;refine T ?_;intro I K n J L f;obtain ⟨l,g,i⟩:=ob h;refine CW.jn [2,3] [0,1] [(13,.bool l)] f (h1:=?_) (h2:=?_)
 · have h:=g;refine T ?_;intro O z h M o;refine bH h ?_ ?_<;>intro _ h
   · exact rt
   refine T ?_;intro G j h A p;exact rt
 intro e B q;have h:=i;refine gc h ?_ ?_<;>intro _ h
 · exact rt
 refine T ?_;intro H k h C x;refine gc h ?_ ?_<;>intro _ h
 · refine go ?_;refine LW.u (iI.min rfl rfl) rfl ?_;exact rt
 refine go ?_;refine LW.u (iI.quo rfl rfl (by decide)) rfl ?_;exact rt
instance k_337:Ct prog 337:=⟨by kernel_rfl,@zf⟩
theorem zx {w0 N b d r} (h:o4 N b d=some r) :
    gZ prog 353 #[.agg #[vI b.gE,vI b.gV,vI b.hY],.agg #[vI d.gE,vI d.gV,vI d.hY]] w0 (fun v w=>v=.bool r∧St w0 [] w []):=by
 unfold o4 at h;refine gZ.fn func353 fun e=>?_;have f:=St.start w0;refine T ?_;intro n p g o q i;refine T ?_;intro z l h u j;refine bH h ?_ ?_<;>intro _ h
 · refine T ?_;intro A m h x k;refine bH h ?_ ?_<;>intro _ h
   · refine gB h ?_ ?_<;>intro _ h
     · refine go ?_;refine bH h ?_ ?_<;>intro _ h
       · exact rt
       exact rt
     exact rt
   exact rt
 exact rt
instance k_353:Ct prog 353:=⟨by kernel_rfl,@zx⟩
theorem vD {w0 N b d r} (h:k8 N b d=some r) :
    gZ prog 117 #[.agg #[vI b.gE,vI b.gV,vI b.hY],.agg #[vI d.gE,vI d.gV,vI d.hY]] w0 (fun v w=>v=.tuple #[.agg #[vI r.1.gE,vI r.1.gV,vI r.1.hY],.bool r.2]∧St w0 [] w []):=by
 unfold k8 at h;refine gZ.fn func117 fun e=>?_;have u:=St.start w0;refine T ?_;intro Z ac x aa ad z ab ae f;obtain ⟨p,g,i⟩:=ob h;refine CW.jn [2,3,4] [0,1,2] [(14,.bool p)] f (h1:=?_) (h2:=?_)
 · have h:=g;refine T ?_;intro af I h J A;refine bH h ?_ ?_<;>intro _ h
   · exact rt
   refine T ?_;intro X n h K B;exact rt
 intro e L C;have h:=i;refine gc h ?_ ?_<;>intro _ h
 · refine T ?_;intro M G;exact rt
 refine jj [(0,vI (i64.wrap (b.gE+d.gE))),(1,vI (i64.wrap (b.gV+d.gV))),(2,vI (i64.wrap (b.hY+d.hY)))] #[vI (i64.wrap (b.gE+d.gE)),vI (i64.wrap (b.gV+d.gV)),vI (i64.wrap (b.hY+d.hY))] ?_;refine T ?_;intro q O H R j Y o h U k;refine CW.fl [2,4,6,34] fun e=>?_;refine gc h ?_ ?_<;>intro _ h
 · refine T ?_;intro V l;exact rt
 refine T ?_;intro W m;exact rt
instance k_117:Ct prog 117:=⟨by kernel_rfl,@vD⟩
theorem xC {w0 N l p f r} (h:m4 N l p f=some r) {g j i} (k:j=l.parts.length) (q:rb w0 g i l.parts) :
    gZ prog 86 #[.agg #[vI l.HQ,vS g j i],vI p,.agg #[vI f.HA,vI f.a,vI f.b,vI f.c,vI f.d,vI f.e]] w0 (fun v w=>v=vI r∧St w0 [] w []):=by
 subst k;unfold m4 at h;refine gZ.fn func86 fun e=>?_;have G:=St.start w0;refine T ?_;intro X Z H Y aa m;obtain ⟨B,n,u⟩:=ob h;refine CW.jn [3] [1] [(7,vI B)] m (h1:=?_) (h2:=?_)
 · have h:=n;refine CW.block ?_;refine gs ?_;refine CW.region ?_;refine gs ?_;obtain ⟨C,o,x⟩:=ob h;refine CW.jn [3,5,7,10] [0,1] [(11,.bool C)] m (h1:=?_) (h2:=?_)
   · have h:=o;refine gc h ?_ ?_<;>intro _ h
     · exact rt
     exact rt
   intro e M I;have h:=x;refine gc h ?_ ?_<;>intro _ h
   · refine T ?_;intro V z h O J;exact rt
   refine gc h ?_ ?_<;>intro _ h
   · exact rt
   exact rt
 intro e R K;have h:=u;refine T ?_;intro W A h U L;refine CW.fl [7,27] fun e=>?_;refine gc h ?_ ?_<;>intro _ h
 · exact rt
 exact rt
instance k_86:Ct prog 86:=⟨by kernel_rfl,@xC⟩
theorem uT {w0 N b r} (h:o9 N b=some r) :
    gZ prog 294 #[.agg #[vI b.gE,vI b.gV,vI b.hY]] w0 (fun v w=>∃ l m,v=.tuple #[vS l r.1.length m,.bool r.2]∧St w0 [] w [sl l m r.1]):=by
 unfold o9 at h;refine gZ.fn func294 fun e=>?_;have C:=St.start w0;refine T ?_;intro R U G X I h V n;refine gc h ?_ ?_<;>intro _ h
 · refine go ?_;refine LW.b0 (α:=gW) n ?_;intro M O W H hf;exact rt
 refine gb h fun A q h=>?_;refine LW.mk FG rfl rfl q n rfl ?_;intro B f J o hf;refine jj [(0,.bool true),(1,vI (-1)),(2,.agg #[vI b.gE,vI b.gV,vI b.hY])] #[.bool true,vI (-1),vI b.gE,vI b.gV,vI b.hY] ?_;have ⟨L,g,h⟩:=ob h;obtain ⟨d,k,hae,x,z⟩:=o.im (α:=gW) (i:=0) rfl g;subst hae;refine go ?_;have ⟨u,j,h⟩:=ob h;refine LW.se 0 o 0 g j (hM:=tG) fun K p=>?_;refine go ?_;replace h:=oi h;subst h;exact Rc tt tt ⟨(some ⟨d,k,none⟩),f,(show (.tuple #[vS (some ⟨d,k,none⟩) A.length f,.bool true]:Value)=.tuple #[vS (some ⟨d,k,none⟩) u.length f,.bool true] by rw [ik (oi j)]),p.pk [0]⟩
instance k_294:Ct prog 294:=⟨by kernel_rfl,@uT⟩
theorem uV {w0} {F:List Nat} {N o r} (h:ng N o=some r) {z:Nat} {d f} (C:iy (ja w0 F) w0 d f o.b) (hS:St w0 F w0 [bx z 177 [vS d o.b.length f,vI o.i,vI o.h]]) :
    gZ prog 302 #[.pointer (some ⟨z,0,none⟩)] w0 (fun v w=>∃ g k, ∃ j l,v=.agg #[vS g r.1.HB.Hz.length k,vS j r.1.own.length l,vI r.1.i7.gE,vI r.1.i7.gV,vI r.1.i7.hY]∧St w0 F w [sl g k r.1.HB.Hz,sl j l r.1.own,bx z 177 [vS d o.b.length f,vI r.2.i,vI r.2.h]]):=by
 unfold ng at h;refine gZ.fn func302 fun e=>?_;refine T ?_;intro Y Z I B O h u x aa J p R h U K m G h V L n H h W M;refine LW.bd [(0,vI p.1),(1,vI m.1),(2,vI n.1)] #[vI p.1,vI m.1,vI n.1] ?_;refine LW.bd [(0,.agg #[vS u B.1.Hz.length x]),(2,.agg #[vI p.1,vI m.1,vI n.1])] #[vS u B.1.Hz.length x,vS none 0 0,vI p.1,vI m.1,vI n.1] ?_;refine T ?_;intro X A;replace h:=oi h;subst h;have q:=A.nil (α:=Int);exact And.intro trivial ⟨_,jM.one (hP.b q 3 rfl DI rfl rfl),u,x,none,0,rfl,q.pk [2,0,1]⟩
instance k_302:Ct prog 302:=⟨by kernel_rfl,@uV⟩
end Go.Kx
