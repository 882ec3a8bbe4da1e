import Derived.Test.YtlcgibcdiikheaaGreatWa4
import Derived.Test.YtlcgibcdiikheaaGreatWa5
namespace Go.Kx
open Go Go.RowKit Go.Proofs
open Go.IntKind (i64)
open Tryz
set_option maxRecDepth 10000
set_option maxHeartbeats 8000000
set_option linter.unusedVariables false
set_option linter.unusedSimpArgs false
theorem MI {w0 N b n r} (h:Cv N b n=some r) {d j g} (l:j=b.ag.length) (o:rb w0 d g b.ag) {f k i} (m:k=b.gc.pT.length) (p:rb w0 f i b.gc.pT) :
    pY prog 278 #[.agg #[vS d j g,vI b.gc.Ve,vI b.gc.Vn,vI b.gc.Vg,vS f k i],vI n] w0 (fun v w=>v=vI r∧St w0 [] w []):=by
 subst l m;unfold Cv at h;refine pY.fn func278 fun e=>?_;have q:=St.start w0;refine T ?_;intro C G u J A h H x;refine gc h ?_ ?_<;>intro _ h
 · exact rt
 refine T ?_;intro K B h I z;refine CW.fl [1,16] fun e=>?_;refine gc h ?_ ?_<;>intro _ h
 · exact rt
 exact rt
instance k_278:Ct prog 278:=⟨by kernel_rfl,@MI⟩
theorem Nl {w0 N J r} (h:Ch N J=some r) {g C j} (H:C=J.length) (I:rb w0 g j J) :
    pY prog 341 #[vS g C j] w0 (fun v w=>∃ K O,v=vS K r.length O∧St w0 [] w [sl K O r]):=by
 subst H;unfold Ch at h;refine pY.fn func341 fun e=>?_;have Y:=St.start w0;refine gb h fun aK ab h=>?_;refine LW.mk Ps rfl rfl ab Y rfl ?_;intro W l aI Z hf;refine go ?_;obtain ⟨aE,V,X⟩:=ob h;refine CW.ie V 0 (fun f e wb=>En e [(0,vS g J.length j),(3,vS W f.1.length l),(4,vI f.2)]∧St w0 [] wb [sl W l f.1]) ?_ (Z.po [0]) ?_
 · intro f e aJ o hM h;obtain ⟨e,rfl,aA⟩:=eo hM;refine gc h ?_ ?_<;>intro _ h
   · refine gb h fun aL ac h=>?_;obtain ⟨aw,aD,af,rfl,ah,aC,ak,⟨ar,ax,au,ay,av,az,rfl,an,ao,ap⟩,ai⟩:=I.idx ac;refine go ?_;refine T ?_;intro b aq h m q n u p x aF R;have ⟨ad,A,h⟩:=ob h;obtain ⟨k,d,hae,aj,am⟩:=R.qk (α:=j8) (i:=3) rfl A;subst hae;refine go ?_;have aa:=R.pk (M:=[sl m q b.pX,sl n u b.Vh,sl p x b.Vf]++[sl (some ⟨k,d,none⟩) l f.1]) [0,1,2,3];have ⟨ae,B,h⟩:=ob h;refine LW.B9 (M:=[sl m q b.pX,sl n u b.Vh,sl p x b.Vf]) (L:=[sl (some ⟨k,d,none⟩) l f.1]) (z:=ad) (z':=b) (o:=0) aa (i:=0) rfl A Ci rfl (by show _=d+(f.2:Int).toNat * 13+0;omega) rfl rfl rfl rfl (whole (fun w G hG=>⟨m,q,n,u,p,x,rfl,hG⟩)) ?_;intro aG U hf;rw [oi B] at U;refine go ?_;replace h:=oi h;subst h;exact ⟨rfl,⟨⟨rfl,(show (vS (some ⟨k,d,none⟩) f.1.length l:Value)=vS (some ⟨k,d,none⟩) ae.length l by rw [pV (oi B)]),rfl,trivial⟩,U.pk [0]⟩⟩
   exact rt
 rintro e aH ⟨hE,aB⟩;obtain ⟨e,rfl⟩:=hE.out;have h:=X;exact rt
instance k_341:Ct prog 341:=⟨by kernel_rfl,@Nl⟩
theorem KK {w0 N b r} (h:uq N b=some r) {A V J} (ab:V=b.Vb.Va.length) (ai:rb w0 A J b.Vb.Va) {B W K} (ac:W=b.own.length) (aj:rb w0 B K b.own) {C X L} (ad:X=b.Vd.length) (az:rb w0 C L b.Vd) {G Y M} (ae:Y=b.U7.ag.length) (aA:rb w0 G M b.U7.ag) {H Z O} (af:Z=b.U7.gc.pT.length) (aB:rb w0 H O b.U7.gc.pT) {I aa R} (ah:aa=b.pU.length) (ak:rb w0 I R b.pU) :
    pY prog 164 #[.agg #[vS A V J,vS B W K,vS C X L,vS G Y M,vI b.U7.gc.Ve,vI b.U7.gc.Vn,vI b.U7.gc.Vg,vS H Z O,vS I aa R,vI b.Vj,vI b.Vk,vI b.bh.gE,vI b.bh.qa,vI b.bh.qg,vI b.pZ,vI b.Vi]] w0 (fun v w=>∃ d o, ∃ f p, ∃ g q, ∃ j u, ∃ k x, ∃ n z,v=.agg #[vS d r.Vb.Va.length o,vS f r.own.length p,vS g r.Vd.length q,vS j r.U7.ag.length u,vI r.U7.gc.Ve,vI r.U7.gc.Vn,vI r.U7.gc.Vg,vS k r.U7.gc.pT.length x,vS n r.pU.length z,vI r.Vj,vI r.Vk,vI r.bh.gE,vI r.bh.qa,vI r.bh.qg,vI r.pZ,vI r.Vi]∧St w0 [] w [sl d o r.Vb.Va,sl f p r.own,sl g q r.Vd,sl j u r.U7.ag,sl k x r.U7.gc.pT,sl n z r.pU]):=by
 subst ab ac ad ae af ah;unfold uq at h;refine pY.fn func164 fun e=>?_;have aY:=St.start w0;refine T ?_;intro bq bs aZ br bt av;refine LW.b0 (α:=Int) av ?_;intro bo bp bu an hf;refine gb h fun ay ax h=>?_;refine LW.sh (l:=([]:List Int)) (m:=b.Vb.Va) xN rfl rfl (an.rB ai) ax an (i:=0) rfl rfl ?_;intro au am a3 a0 hf;refine LW.bd [(0,vS au ay.length am)] #[vS au ay.length am] ?_;refine T ?_;intro a4 aw;refine LW.b0 (α:=Int) aw ?_;intro aK aR a6 ao hf;refine gb h fun bk aq h=>?_;refine LW.sh (l:=([]:List Int)) (m:=b.own) xN rfl rfl (ao.rB aj) aq ao (i:=0) rfl rfl ?_;intro aL aS a7 a1 hf;refine T ?_;intro a8 a2 bl aI h aM aT ba aC bb aD bm aJ h aN aU aO aV bc aE;refine T ?_;intro be ap;refine LW.b0 (α:=qB) ap ?_;intro aP aW bf U hf;refine gb h fun bn ar h=>?_;refine LW.sh (l:=([]:List qB)) (m:=b.pU) Bd rfl rfl (U.rB ak) ar U (i:=0) rfl rfl ?_;intro aQ aX bg aF hf;refine T ?_;intro bi aG bj aH;exact rt
instance k_164:Ct prog 164:=⟨by kernel_rfl,@KK⟩
theorem MJ {w0 N aa r} (h:vA N aa=some r) {d i f} (m:i=aa.length) (b:rb w0 d f aa) :
    pY prog 178 #[vS d i f] w0 (fun v w=>v=.bool r∧St w0 [] w []):=by
 subst m;unfold vA at h;refine pY.fn func178 fun e=>?_;have af:=St.start w0;refine gs ?_;refine CW.region ?_;refine gs ?_;obtain ⟨bb,am,h2⟩:=ob h;refine CW.jn [0] [] [(23,.bool bb)] af (h1:=?_) (h2:=?_)
 · have h:=am;refine gB h ?_ ?_<;>intro _ h
   · exact rt
   refine gb h fun b4 an h=>?_;obtain ⟨b2,b3,bu,rfl,aM,bB,bC,rfl,aS⟩:=b.idx an;refine go ?_;refine T ?_;refine bH h ?_ ?_<;>intro _ h
   · exact rt
   refine go ?_;refine T ?_;exact rt
 intro e bK ah;have h:=h2;refine gc h ?_ ?_<;>intro _ h
 · exact rt
 refine go ?_;obtain ⟨z,O,q⟩:=ob h;refine CW.mono (CW.lx [0] [] [0] 0 (fun A=>[(3,vI A)]) (RT prog f178.results (fun u=>.bool u) w0 []) ah O (hb:=?_)) ?_
 · intro A e bL o ai h;refine gc h ?_ ?_<;>intro _ h
   · refine gs ?_;refine CW.block ?_;refine gs ?_;obtain ⟨ao,K,ab⟩:=ob h;refine CW.jn [0,3] [] [(52,.bool ao)] ai (h1:=?_) (h2:=?_)
     · have h:=K;refine gb h fun ar U h=>?_;obtain ⟨bp,bD,aC,rfl,aN,aY,a3,rfl,aT⟩:=b.idx U;refine go ?_;refine T ?_;refine bH h ?_ ?_<;>intro _ h
       · refine go ?_;refine T ?_;refine LW.bd [] #[.bool false,vI 0,vI 0,vI 0,vI 0] ?_;refine go ?_;refine LW.u (qp.SR Qm rfl rfl (fun w=>QT ar (qc.mk false 0 (qj.mk 0 0 0)) w)) rfl ?_;refine gB h ?_ ?_<;>intro _ h
         · exact rt
         refine go ?_;refine T ?_;intro bV a8 h bM bv;exact rt
       refine go ?_;refine T ?_;intro bW a9 h bN bw;exact rt
     intro e bO aj;have h:=ab;refine gc h ?_ ?_<;>intro _ h
     · exact rt
     refine gs ?_;obtain ⟨ap,L,ac⟩:=ob h;refine CW.jn [0,3] [] [(91,.bool ap)] aj (h1:=?_) (h2:=?_)
     · have h:=L;refine gB h ?_ ?_<;>intro _ h
       · refine gb h fun bX V h=>?_;obtain ⟨bq,bE,aD,rfl,aO,aZ,a4,rfl,aU⟩:=b.idx V;refine go ?_;refine T ?_;refine bH h ?_ ?_<;>intro _ h
         · refine go ?_;refine T ?_;intro bY ba h bP bz;refine bH h ?_ ?_<;>intro _ h
           · exact rt
           refine go ?_;refine T ?_;refine bH h ?_ ?_<;>intro _ h
           · exact rt
           refine go ?_;refine T ?_;have ⟨bZ,W,h⟩:=ob h;obtain ⟨br,bF,aE,hae,aP,a0,a5,J,aV⟩:=b.idx W;cases hae;obtain rfl:=J;refine go ?_;refine T ?_;exact rt
         exact rt
       exact rt
     intro e bQ bA;have h:=ac;refine gc h ?_ ?_<;>intro _ h
     · exact rt
     exact rt
   exact rt
 intro x e bR hM;rcases z with z | bf
 · obtain ⟨rfl,hM⟩:=hM;obtain ⟨e,rfl,ak⟩:=eo hM;have h:=q;refine go ?_;obtain ⟨j,n,g⟩:=ob h;refine CW.mono (CW.lx [0] [] [0] 2 (fun B=>[(4,vI B)]) (RT prog f178.results (fun u=>.bool u) w0 []) ak n (hb:=?_)) ?_
   · intro B e bS o G h;refine gc h ?_ ?_<;>intro _ h
     · refine go ?_;obtain ⟨bJ,R,ae⟩:=ob h;refine CW.mono (CW.lb [0,4] [] [0,4,5] 4 (fun k=>[(5,vI k.1),(6,vI k.2)]) G R (hb:=?_)) ?_
       · intro k e bT o H h;refine gs ?_;obtain ⟨aq,M,ad⟩:=ob h;refine CW.jn [0,4,5,6] [] [(111,.bool aq)] H (h1:=?_) (h2:=?_)
         · have h:=M;refine gB h ?_ ?_<;>intro _ h
           · refine gb h fun b0 X h=>?_;obtain ⟨bs,bG,aF,rfl,aQ,a1,a6,rfl,aW⟩:=b.idx X;refine go ?_;refine T ?_;refine bH h ?_ ?_<;>intro _ h
             · exact rt
             exact rt
           exact rt
         intro e bU aH;have h:=ad;refine gc h ?_ ?_<;>intro _ h
         · refine gb h fun b1 Y h=>?_;obtain ⟨bt,bI,aG,rfl,aR,a2,a7,rfl,aX⟩:=b.idx Y;refine go ?_;refine T ?_;exact rt
         exact rt
       intro x e bg hM;obtain ⟨rfl,hM⟩:=hM;obtain ⟨e,rfl,I⟩:=eo hM;have h:=ae;refine gs ?_;obtain ⟨Z,l,C⟩:=ob h;refine CW.jn [0,4] [] [(127,.bool Z)] I (h1:=?_) (h2:=?_)
       · have h:=l;refine gb h fun bm p h=>?_;obtain ⟨aB,bc,au,rfl,av,ax,ay,rfl,aw⟩:=b.idx p;refine go ?_;refine T ?_;refine bH h ?_ ?_<;>intro _ h
         · exact rt
         exact rt
       intro e bi aI;have h:=C;refine gc h ?_ ?_<;>intro _ h
       · exact rt
       exact rt
     exact rt
   intro x e bj hM;rcases j with j | be
   · obtain ⟨rfl,hM⟩:=hM;obtain ⟨e,rfl,aJ⟩:=eo hM;have h:=g;refine T ?_;intro bn az h bk aK bo aA h bl aL;exact rt
   obtain ⟨rfl,u,rfl,hM⟩:=hM;cases g;exact And.intro trivial hM
 obtain ⟨rfl,u,rfl,hM⟩:=hM;cases q;exact And.intro trivial hM
instance k_178:Ct prog 178:=⟨by kernel_rfl,@MJ⟩
theorem Ln {w0 N U r} (h:tX N U=some r) {d j f} (p:j=U.length) (b:rb w0 d f U) :
    pY prog 124 #[vS d j f] w0 (fun v w=>v=.bool r∧St w0 [] w []):=by
 subst p;unfold tX at h;refine pY.fn func124 fun e=>?_;have W:=St.start w0;refine gs ?_;refine CW.region ?_;refine gs ?_;obtain ⟨a5,ab,h2⟩:=ob h;refine CW.jn [0] [] [(29,.bool a5)] W (h1:=?_) (h2:=?_)
 · have h:=ab;refine gB h ?_ ?_<;>intro _ h
   · exact rt
   refine gb h fun b6 ac h=>?_;obtain ⟨b4,b5,bK,rfl,aD,bP,bQ,⟨be,bv,bf,bw,bg,bz,rfl,aT,aU,aV⟩,aH⟩:=b.idx ac;refine go ?_;refine T ?_;refine bH h ?_ ?_<;>intro _ h
   · exact rt
   refine go ?_;refine T ?_;refine bH h ?_ ?_<;>intro _ h
   · exact rt
   refine go ?_;refine T ?_;exact rt
 intro e bU X;have h:=h2;refine gc h ?_ ?_<;>intro _ h
 · exact rt
 refine go ?_;obtain ⟨l,z,i⟩:=ob h;refine CW.mono (CW.lx [0] [] [] 0 (fun B=>[(3,vI B)]) (RT prog f124.results (fun u=>.bool u) w0 []) X z (hb:=?_)) ?_
 · intro B e bV o Y h;refine gc h ?_ ?_<;>intro _ h
   · refine gs ?_;refine CW.block ?_;refine gs ?_;obtain ⟨ad,I,V⟩:=ob h;refine CW.jn [0,3] [] [(73,.bool ad)] Y (h1:=?_) (h2:=?_)
     · have h:=I;refine gb h fun bZ K h=>?_;obtain ⟨br,bR,aA,rfl,aE,aL,aP,⟨bi,bA,bj,bB,bk,bC,rfl,aW,aX,aY⟩,aI⟩:=b.idx K;refine go ?_;refine T ?_;intro b0 a4 h bW bL;refine bH h ?_ ?_<;>intro _ h
       · exact rt
       refine go ?_;refine T ?_;refine bH h ?_ ?_<;>intro _ h
       · refine go ?_;refine bH h ?_ ?_<;>intro _ h
         · refine go ?_;refine T ?_;refine bH h ?_ ?_<;>intro _ h
           · refine go ?_;refine T ?_;have ⟨b1,L,h⟩:=ob h;obtain ⟨bs,bS,aB,hae,aF,aM,aQ,H,aJ⟩:=b.idx L;cases hae;obtain ⟨bl,bD,bm,bE,bn,bF,rfl,aZ,a0,a1⟩:=H;refine go ?_;refine T ?_;exact rt
           exact rt
         exact rt
       exact rt
     intro e bX Z;have h:=V;refine gc h ?_ ?_<;>intro _ h
     · exact rt
     refine go ?_;obtain ⟨k,q,g⟩:=ob h;refine CW.mono (CW.lx [0,3] [] [0,3] 2 (fun C=>[(4,vI C)]) (RT prog f124.results (fun u=>.bool u) w0 []) Z q (hb:=?_)) ?_
     · intro C e bY o aa h;refine gb h fun b2 M h=>?_;obtain ⟨bt,bT,aC,rfl,aG,aN,aR,⟨bo,bG,bp,bI,bq,bJ,rfl,J,a2,a3⟩,aK⟩:=b.idx M;refine go ?_;refine T ?_;refine CW.fl [0,3,4,81] fun e=>?_;refine gc h ?_ ?_<;>intro _ h
       · refine go ?_;refine T ?_;have ⟨b3,O,h⟩:=ob h;obtain ⟨bu,a6,ae,rfl,ah,aO,aS,rfl,aj⟩:=J.idx O;refine go ?_;refine T ?_;obtain ⟨R,n,G⟩:=ob h;refine CW.jn [0,3,4] [] [(101,.bool R)] aa (h1:=?_) (h2:=?_)
         · have h:=n;refine gB h ?_ ?_<;>intro _ h
           · refine gb h fun bd A h=>?_;obtain ⟨aw,a7,af,hae,ai,am,an,m,ak⟩:=b.idx A;cases hae;obtain ⟨ar,ax,au,ay,av,az,rfl,ao,ap,aq⟩:=m;refine go ?_;refine T ?_;exact rt
           exact rt
         intro e ba bM;have h:=G;refine gc h ?_ ?_<;>intro _ h
         · exact rt
         exact rt
       exact rt
     intro x e bb hM;rcases k with k | a8
     · obtain ⟨rfl,hM⟩:=hM;obtain ⟨e,rfl,bN⟩:=eo hM;have h:=g;exact rt
     obtain ⟨rfl,u,rfl,hM⟩:=hM;cases g;exact ⟨trivial,rfl,_,rfl,hM⟩
   exact rt
 intro x e bc hM;rcases l with l | a9
 · obtain ⟨rfl,hM⟩:=hM;obtain ⟨e,rfl,bO⟩:=eo hM;rw [show e=qy e [] from rfl];have h:=i;exact rt
 obtain ⟨rfl,u,rfl,hM⟩:=hM;cases i;exact And.intro trivial hM
instance k_124:Ct prog 124:=⟨by kernel_rfl,@Ln⟩
theorem PG {w0 N b r} (h:CQ N b=some r) {d z l} (I:z=b.Vb.Va.length) (ab:rb w0 d l b.Vb.Va) {f A m} (J:A=b.own.length) (ac:rb w0 f m b.own) {g B n} (K:B=b.Vd.length) (ad:rb w0 g n b.Vd) {i C p} (L:C=b.U7.ag.length) (R:rb w0 i p b.U7.ag) {j G q} (M:G=b.U7.gc.pT.length) (ae:rb w0 j q b.U7.gc.pT) {k H u} (O:H=b.pU.length) (af:rb w0 k u b.pU) :
    pY prog 276 #[.agg #[vS d z l,vS f A m,vS g B n,vS i C p,vI b.U7.gc.Ve,vI b.U7.gc.Vn,vI b.U7.gc.Vg,vS j G q,vS k H u,vI b.Vj,vI b.Vk,vI b.bh.gE,vI b.bh.qa,vI b.bh.qg,vI b.pZ,vI b.Vi]] w0 (fun v w=>v=vI r∧St w0 [] w []):=by
 subst I J K L M O;unfold CQ at h;refine pY.fn func276 fun e=>?_;have aC:=St.start w0;refine T ?_;intro aM aN Y;refine go ?_;obtain ⟨aH,U,X⟩:=ob h;refine CW.mono (CW.lb [1] [0] [3] 0 (fun W=>[(3,vI W.1),(4,vI W.2)]) Y U (hb:=?_)) ?_
 · intro W e aO o Z h;refine gs ?_;obtain ⟨au,aa,ai⟩:=ob h;refine CW.jn [1,3,4] [0] [(14,.bool au)] Z (h1:=?_) (h2:=?_)
   · have h:=aa;refine gB h ?_ ?_<;>intro _ h
     · exact rt
     exact rt
   intro e aP aD;have h:=ai;refine gc h ?_ ?_<;>intro _ h
   · refine gb h fun aK V h=>?_;obtain ⟨ay,aG,ah,rfl,aj,am,an,⟨av,az,aw,aA,ax,aB,rfl,ao,ap,aq⟩,ak⟩:=R.idx V;refine go ?_;refine T ?_;intro aL ar h aI aE;refine gc h ?_ ?_<;>intro _ h
     · refine go ?_;refine T ?_;exact rt
     exact rt
   exact rt
 intro x e aJ hM;obtain ⟨rfl,hM⟩:=hM;obtain ⟨e,rfl,aF⟩:=eo hM;have h:=X;exact rt
instance k_276:Ct prog 276:=⟨by kernel_rfl,@PG⟩
theorem KC {w0 N b d r} (h:zS N b d=some r) :
    pY prog 337 #[.agg #[vI b.Vp,vI b.rJ,vI b.sX,vI b.sc,vI b.Vc,vI b.sq],.agg #[vI d.gE,vI d.qa,vI d.qg]] w0 (fun v w=>v=vI r∧St w0 [] w []):=by
 unfold zS at h;refine pY.fn func337 fun e=>?_;have m:=St.start w0;refine T ?_;intro I K n J L f;obtain ⟨l,g,i⟩:=ob h;refine CW.jn [2,3] [0,1] [(13,.bool l)] f (h1:=?_) (h2:=?_)
 · have h:=g;refine T ?_;intro O z h M o;refine bH h ?_ ?_<;>intro _ h
   · exact rt
   refine T ?_;intro G j h A p;exact rt
 intro e B q;have h:=i;refine gc h ?_ ?_<;>intro _ h
 · exact rt
 refine T ?_;intro H k h C x;refine gc h ?_ ?_<;>intro _ h
 · refine go ?_;refine LW.u (qp.min rfl rfl) rfl ?_;exact rt
 refine go ?_;refine LW.u (qp.quo rfl rfl (by decide)) rfl ?_;exact rt
instance k_337:Ct prog 337:=⟨by kernel_rfl,@KC⟩
theorem Lr {w0 N b d r} (h:zK N b d=some r) :
    pY prog 353 #[.agg #[vI b.gE,vI b.qa,vI b.qg],.agg #[vI d.gE,vI d.qa,vI d.qg]] w0 (fun v w=>v=.bool r∧St w0 [] w []):=by
 unfold zK at h;refine pY.fn func353 fun e=>?_;have f:=St.start w0;refine T ?_;intro n p g o q i;refine T ?_;intro z l h u j;refine bH h ?_ ?_<;>intro _ h
 · refine T ?_;intro A m h x k;refine bH h ?_ ?_<;>intro _ h
   · refine gB h ?_ ?_<;>intro _ h
     · refine go ?_;refine bH h ?_ ?_<;>intro _ h
       · exact rt
       exact rt
     exact rt
   exact rt
 exact rt
instance k_353:Ct prog 353:=⟨by kernel_rfl,@Lr⟩
theorem Hs {w0 N b d r} (h:vD N b d=some r) :
    pY prog 117 #[.agg #[vI b.gE,vI b.qa,vI b.qg],.agg #[vI d.gE,vI d.qa,vI d.qg]] w0 (fun v w=>v=.tuple #[.agg #[vI r.1.gE,vI r.1.qa,vI r.1.qg],.bool r.2]∧St w0 [] w []):=by
 unfold vD at h;refine pY.fn func117 fun e=>?_;have u:=St.start w0;refine T ?_;intro Z ac x aa ad z ab ae f;obtain ⟨p,g,i⟩:=ob h;refine CW.jn [2,3,4] [0,1,2] [(14,.bool p)] f (h1:=?_) (h2:=?_)
 · have h:=g;refine T ?_;intro af I h J A;refine bH h ?_ ?_<;>intro _ h
   · exact rt
   refine T ?_;intro X n h K B;exact rt
 intro e L C;have h:=i;refine gc h ?_ ?_<;>intro _ h
 · refine T ?_;intro M G;exact rt
 refine rX [(0,vI (i64.wrap (b.gE+d.gE))),(1,vI (i64.wrap (b.qa+d.qa))),(2,vI (i64.wrap (b.qg+d.qg)))] #[vI (i64.wrap (b.gE+d.gE)),vI (i64.wrap (b.qa+d.qa)),vI (i64.wrap (b.qg+d.qg))] ?_;refine T ?_;intro q O H R j Y o h U k;refine CW.fl [2,4,6,34] fun e=>?_;refine gc h ?_ ?_<;>intro _ h
 · refine T ?_;intro V l;exact rt
 refine T ?_;intro W m;exact rt
instance k_117:Ct prog 117:=⟨by kernel_rfl,@Hs⟩
theorem Ix {w0 N l p f r} (h:xS N l p f=some r) {g j i} (k:j=l.parts.length) (q:rb w0 g i l.parts) :
    pY prog 86 #[.agg #[vI l.Vo,vS g j i],vI p,.agg #[vI f.Vc,vI f.a,vI f.b,vI f.c,vI f.d,vI f.e]] w0 (fun v w=>v=vI r∧St w0 [] w []):=by
 subst k;unfold xS at h;refine pY.fn func86 fun e=>?_;have G:=St.start w0;refine T ?_;intro X Z H Y aa m;obtain ⟨B,n,u⟩:=ob h;refine CW.jn [3] [1] [(7,vI B)] m (h1:=?_) (h2:=?_)
 · have h:=n;refine CW.block ?_;refine gs ?_;refine CW.region ?_;refine gs ?_;obtain ⟨C,o,x⟩:=ob h;refine CW.jn [3,5,7,10] [0,1] [(11,.bool C)] m (h1:=?_) (h2:=?_)
   · have h:=o;refine gc h ?_ ?_<;>intro _ h
     · exact rt
     exact rt
   intro e M I;have h:=x;refine gc h ?_ ?_<;>intro _ h
   · refine T ?_;intro V z h O J;exact rt
   refine gc h ?_ ?_<;>intro _ h
   · exact rt
   exact rt
 intro e R K;have h:=u;refine T ?_;intro W A h U L;refine CW.fl [7,27] fun e=>?_;refine gc h ?_ ?_<;>intro _ h
 · exact rt
 exact rt
instance k_86:Ct prog 86:=⟨by kernel_rfl,@Ix⟩
theorem Kk {w0 N b r} (h:vi N b=some r) {g x j} (A:x=b.ag.length) (U:rb w0 g j b.ag) {d z f} (B:z=b.gc.pT.length) (V:rb w0 d f b.gc.pT) :
    pY prog 234 #[.agg #[vS g x j,vI b.gc.Ve,vI b.gc.Vn,vI b.gc.Vg,vS d z f]] w0 (fun v w=>∃ n p, ∃ o q,v=.agg #[vS n r.ag.length p,vI r.gc.Ve,vI r.gc.Vn,vI r.gc.Vg,vS o r.gc.pT.length q]∧St w0 [] w [sl n p r.ag,sl o q r.gc.pT]):=by
 subst A B;unfold vi at h;refine pY.fn func234 fun e=>?_;have ai:=St.start w0;refine T ?_;intro K aF aj L aG M;obtain ⟨R,O,W⟩:=ob h;refine CW.cut (fun e wb=>∃ (m:Nat) (k:Ad) (l:Nat),En e [(1,.pointer (some ⟨K,0,none⟩)),(2,.pointer (some ⟨L,0,none⟩)),(3,.pointer (some ⟨m,0,none⟩))]∧St w0 [] wb [bx L 45 [vS none 0 0,vI 0,vI 0,vI 0,vS none 0 0],bx K 45 (qH g j d f b),bx m 45 [vS k R.length l,vI b.gc.Ve,vI b.gc.Vn,vI b.gc.Vg,vS d b.gc.pT.length f],sl k l R]) ?_ ?_
 · have h:=O;refine dW ?_;have ak:=M.drew;refine gb h fun C ar h=>?_;refine AW.all (rs:=[2,6]) (by kernel_rfl) (by simp) ⟨?_,?_,trivial⟩
   · refine oA ?_;refine T ?_;intro G I au am;refine AW.u (i:=5) rfl (by kernel_rfl) rfl rfl (qp.build (vs:=[(0,vS G C.length I),(1,.agg #[vI b.gc.Ve,vI b.gc.Vn,vI b.gc.Vg,vS d b.gc.pT.length f])]) (cs:=#[vS G C.length I,vI b.gc.Ve,vI b.gc.Vn,vI b.gc.Vg,vS d b.gc.pT.length f]) rfl (by kernel_rfl)) ?_;refine T ?_;intro af av an aw ao;exact rt
   refine oA ?_;refine T ?_;intro ah ax ap;refine jP 2 ?_;refine T ?_;intro H J ay aq;refine AW.u (i:=5) rfl (by kernel_rfl) rfl rfl (qp.build (vs:=[(0,vS H C.length J),(1,.agg #[vI b.gc.Ve,vI b.gc.Vn,vI b.gc.Vg,vS d b.gc.pT.length f])]) (cs:=#[vS H C.length J,vI b.gc.Ve,vI b.gc.Vn,vI b.gc.Vg,vS d b.gc.pT.length f]) rfl (by kernel_rfl)) ?_;refine T ?_;intro az X;exact rt
 rintro e aA ⟨m,k,l,hE,Y⟩;obtain ⟨e,rfl⟩:=hE.out;have h:=W;refine T ?_;intro aE ac h ad ae aB Z aC aa aD ab;exact rt
instance k_234:Ct prog 234:=⟨by kernel_rfl,@Kk⟩
theorem K3 {w0 N n z r} (h:zR N n z=some r) {b f d} (g:f=n.length) (i:rb w0 b d n) :
    pY prog 320 #[vS b f d,vI z] w0 (fun v w=>v=.bool r∧St w0 [] w []):=by
 subst g;unfold zR at h;refine pY.fn func320 fun e=>?_;have p:=St.start w0;refine go ?_;obtain ⟨k,l,j⟩:=ob h;refine CW.mono (CW.lx [0] [] [] 0 (fun m=>[(1,vI m.1),(5,vI m.2)]) (RT prog f320.results (fun u=>.bool u) w0 []) p l (hb:=?_)) ?_
 · intro m e V o I h;refine gc h ?_ ?_<;>intro _ h
   · refine gc h ?_ ?_<;>intro _ h
     · exact rt
     refine T ?_;intro X M h W J;refine gc h ?_ ?_<;>intro _ h
     · exact rt
     refine gb h fun Y q h=>?_;obtain ⟨H,O,A,rfl,B,L,G,rfl,C⟩:=i.idx q;refine go ?_;refine T ?_;exact rt
   exact rt
 intro x e U hM;rcases k with k | R
 · obtain ⟨rfl,hM⟩:=hM;obtain ⟨e,rfl,K⟩:=eo hM;rw [show e=qy e [] from rfl];have h:=j;exact rt
 obtain ⟨rfl,u,rfl,hM⟩:=hM;cases j;exact And.intro trivial hM
instance k_320:Ct prog 320:=⟨by kernel_rfl,@K3⟩
end Go.Kx
