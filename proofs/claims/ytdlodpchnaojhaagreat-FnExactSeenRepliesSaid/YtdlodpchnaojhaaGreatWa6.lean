import Derived.Test.YtdlodpchnaojhaaGreatWa5
namespace Go.Kx
open Go Go.RowKit Go.Proofs
open Go.IntKind (i64)
open Tryz
set_option maxRecDepth 10000
set_option maxHeartbeats 8000000
set_option linter.unusedVariables false
set_option linter.unusedSimpArgs false
theorem GZ {w0 N aa r} (h:mY N aa=some r) {d i f} (m:i=aa.length) (b:rb w0 d f aa) :
    gV prog 127 #[vS d i f] w0 (fun v w=>v=.bool r∧St w0 [] w []):=by
 subst m;unfold mY at h;refine gV.fn func127 fun e=>?_;have af:=St.start w0;refine gs ?_;refine CW.region ?_;refine gs ?_;obtain ⟨bb,am,h2⟩:=ob h;refine CW.jn [0] [] [(23,.bool bb)] af (h1:=?_) (h2:=?_)
 · have h:=am;refine gB h ?_ ?_<;>intro _ h
   · exact rt
   refine gb h fun b4 an h=>?_;obtain ⟨b2,b3,bu,rfl,aM,bB,bC,rfl,aS⟩:=b.idx an;refine go ?_;refine T ?_;refine bH h ?_ ?_<;>intro _ h
   · exact rt
   refine go ?_;refine T ?_;exact rt
 intro e bK ah;have h:=h2;refine gc h ?_ ?_<;>intro _ h
 · exact rt
 refine go ?_;obtain ⟨z,O,q⟩:=ob h;refine CW.mono (CW.lx [0] [] [0] 0 (fun A=>[(3,vI A)]) (RT prog f127.results (fun u=>.bool u) w0 []) ah O (hb:=?_)) ?_
 · intro A e bL o ai h;refine gc h ?_ ?_<;>intro _ h
   · refine gs ?_;refine CW.block ?_;refine gs ?_;obtain ⟨ao,K,ab⟩:=ob h;refine CW.jn [0,3] [] [(52,.bool ao)] ai (h1:=?_) (h2:=?_)
     · have h:=K;refine gb h fun ar U h=>?_;obtain ⟨bp,bD,aC,rfl,aN,aY,a3,rfl,aT⟩:=b.idx U;refine go ?_;refine T ?_;refine bH h ?_ ?_<;>intro _ h
       · refine go ?_;refine T ?_;refine LW.bd [] #[.bool false,vI 0,vI 0,vI 0,vI 0] ?_;refine go ?_;refine LW.u (iq.Ly Kb rfl rfl (fun w=>Kn ar (g7.mk false 0 (hJ.mk 0 0 0)) w)) rfl ?_;refine gB h ?_ ?_<;>intro _ h
         · exact rt
         refine go ?_;refine T ?_;intro bV a8 h bM bv;exact rt
       refine go ?_;refine T ?_;intro bW a9 h bN bw;exact rt
     intro e bO aj;have h:=ab;refine gc h ?_ ?_<;>intro _ h
     · exact rt
     refine gs ?_;obtain ⟨ap,L,ac⟩:=ob h;refine CW.jn [0,3] [] [(91,.bool ap)] aj (h1:=?_) (h2:=?_)
     · have h:=L;refine gB h ?_ ?_<;>intro _ h
       · refine gb h fun bX V h=>?_;obtain ⟨bq,bE,aD,rfl,aO,aZ,a4,rfl,aU⟩:=b.idx V;refine go ?_;refine T ?_;refine bH h ?_ ?_<;>intro _ h
         · refine go ?_;refine T ?_;intro bY ba h bP bz;refine bH h ?_ ?_<;>intro _ h
           · exact rt
           refine go ?_;refine T ?_;refine bH h ?_ ?_<;>intro _ h
           · exact rt
           refine go ?_;refine T ?_;have ⟨bZ,W,h⟩:=ob h;obtain ⟨br,bF,aE,hae,aP,a0,a5,J,aV⟩:=b.idx W;cases hae;obtain rfl:=J;refine go ?_;refine T ?_;exact rt
         exact rt
       exact rt
     intro e bQ bA;have h:=ac;refine gc h ?_ ?_<;>intro _ h
     · exact rt
     exact rt
   exact rt
 intro x e bR hM;rcases z with z | bf
 · obtain ⟨rfl,hM⟩:=hM;obtain ⟨e,rfl,ak⟩:=eo hM;have h:=q;refine go ?_;obtain ⟨j,n,g⟩:=ob h;refine CW.mono (CW.lx [0] [] [0] 2 (fun B=>[(4,vI B)]) (RT prog f127.results (fun u=>.bool u) w0 []) ak n (hb:=?_)) ?_
   · intro B e bS o G h;refine gc h ?_ ?_<;>intro _ h
     · refine go ?_;obtain ⟨bJ,R,ae⟩:=ob h;refine CW.mono (CW.lb [0,4] [] [0,4,5] 4 (fun k=>[(5,vI k.1),(6,vI k.2)]) G R (hb:=?_)) ?_
       · intro k e bT o H h;refine gs ?_;obtain ⟨aq,M,ad⟩:=ob h;refine CW.jn [0,4,5,6] [] [(111,.bool aq)] H (h1:=?_) (h2:=?_)
         · have h:=M;refine gB h ?_ ?_<;>intro _ h
           · refine gb h fun b0 X h=>?_;obtain ⟨bs,bG,aF,rfl,aQ,a1,a6,rfl,aW⟩:=b.idx X;refine go ?_;refine T ?_;refine bH h ?_ ?_<;>intro _ h
             · exact rt
             exact rt
           exact rt
         intro e bU aH;have h:=ad;refine gc h ?_ ?_<;>intro _ h
         · refine gb h fun b1 Y h=>?_;obtain ⟨bt,bI,aG,rfl,aR,a2,a7,rfl,aX⟩:=b.idx Y;refine go ?_;refine T ?_;exact rt
         exact rt
       intro x e bg hM;obtain ⟨rfl,hM⟩:=hM;obtain ⟨e,rfl,I⟩:=eo hM;have h:=ae;refine gs ?_;obtain ⟨Z,l,C⟩:=ob h;refine CW.jn [0,4] [] [(127,.bool Z)] I (h1:=?_) (h2:=?_)
       · have h:=l;refine gb h fun bm p h=>?_;obtain ⟨aB,bc,au,rfl,av,ax,ay,rfl,aw⟩:=b.idx p;refine go ?_;refine T ?_;refine bH h ?_ ?_<;>intro _ h
         · exact rt
         exact rt
       intro e bi aI;have h:=C;refine gc h ?_ ?_<;>intro _ h
       · exact rt
       exact rt
     exact rt
   intro x e bj hM;rcases j with j | be
   · obtain ⟨rfl,hM⟩:=hM;obtain ⟨e,rfl,aJ⟩:=eo hM;have h:=g;refine T ?_;intro bn az h bk aK bo aA h bl aL;exact rt
   obtain ⟨rfl,u,rfl,hM⟩:=hM;cases g;exact And.intro trivial hM
 obtain ⟨rfl,u,rfl,hM⟩:=hM;cases q;exact And.intro trivial hM
instance k_127:Ct prog 127:=⟨by kernel_rfl,@GZ⟩
theorem JP {w0 N b r} (h:vh N b=some r) {d z l} (I:z=b.NZ.NY.length) (ab:rb w0 d l b.NZ.NY) {f A m} (J:A=b.own.length) (ac:rb w0 f m b.own) {g B n} (K:B=b.N1.length) (ad:rb w0 g n b.N1) {i C p} (L:C=b.py.ag.length) (R:rb w0 i p b.py.ag) {j G q} (M:G=b.py.gc.gQ.length) (ae:rb w0 j q b.py.gc.gQ) {k H u} (O:H=b.gR.length) (af:rb w0 k u b.gR) :
    gV prog 220 #[.agg #[vS d z l,vS f A m,vS g B n,vS i C p,vI b.py.gc.N2,vI b.py.gc.Oa,vI b.py.gc.N3,vS j G q,vS k H u,vI b.N6,vI b.N7,vI b.bh.gE,vI b.bh.gT,vI b.bh.g8,vI b.gW,vI b.N5]] w0 (fun v w=>v=vI r∧St w0 [] w []):=by
 subst I J K L M O;unfold vh at h;refine gV.fn func220 fun e=>?_;have aC:=St.start w0;refine T ?_;intro aM aN Y;refine go ?_;obtain ⟨aH,U,X⟩:=ob h;refine CW.mono (CW.lb [1] [0] [3] 0 (fun W=>[(3,vI W.1),(4,vI W.2)]) Y U (hb:=?_)) ?_
 · intro W e aO o Z h;refine gs ?_;obtain ⟨au,aa,ai⟩:=ob h;refine CW.jn [1,3,4] [0] [(14,.bool au)] Z (h1:=?_) (h2:=?_)
   · have h:=aa;refine gB h ?_ ?_<;>intro _ h
     · exact rt
     exact rt
   intro e aP aD;have h:=ai;refine gc h ?_ ?_<;>intro _ h
   · refine gb h fun aK V h=>?_;obtain ⟨ay,aG,ah,rfl,aj,am,an,⟨av,az,aw,aA,ax,aB,rfl,ao,ap,aq⟩,ak⟩:=R.idx V;refine go ?_;refine T ?_;intro aL ar h aI aE;refine gc h ?_ ?_<;>intro _ h
     · refine go ?_;refine T ?_;exact rt
     exact rt
   exact rt
 intro x e aJ hM;obtain ⟨rfl,hM⟩:=hM;obtain ⟨e,rfl,aF⟩:=eo hM;have h:=X;exact rt
instance k_220:Ct prog 220:=⟨by kernel_rfl,@JP⟩
theorem EZ {w0 N b d r} (h:sq N b d=some r) :
    gV prog 326 #[.agg #[vI b.gE,vI b.gT,vI b.g8],.agg #[vI d.gE,vI d.gT,vI d.g8]] w0 (fun v w=>v=.bool r∧St w0 [] w []):=by
 unfold sq at h;refine gV.fn func326 fun e=>?_;have f:=St.start w0;refine T ?_;intro n p g o q i;refine T ?_;intro z l h u j;refine bH h ?_ ?_<;>intro _ h
 · refine T ?_;intro A m h x k;refine bH h ?_ ?_<;>intro _ h
   · refine gB h ?_ ?_<;>intro _ h
     · refine go ?_;refine bH h ?_ ?_<;>intro _ h
       · exact rt
       exact rt
     exact rt
   exact rt
 exact rt
instance k_326:Ct prog 326:=⟨by kernel_rfl,@EZ⟩
theorem E2 {w0 N n z r} (h:sy N n z=some r) {b f d} (g:f=n.length) (i:rb w0 b d n) :
    gV prog 287 #[vS b f d,vI z] w0 (fun v w=>v=.bool r∧St w0 [] w []):=by
 subst g;unfold sy at h;refine gV.fn func287 fun e=>?_;have p:=St.start w0;refine go ?_;obtain ⟨k,l,j⟩:=ob h;refine CW.mono (CW.lx [0] [] [] 0 (fun m=>[(1,vI m.1),(5,vI m.2)]) (RT prog f287.results (fun u=>.bool u) w0 []) p l (hb:=?_)) ?_
 · intro m e V o I h;refine gc h ?_ ?_<;>intro _ h
   · refine gc h ?_ ?_<;>intro _ h
     · exact rt
     refine T ?_;intro X M h W J;refine gc h ?_ ?_<;>intro _ h
     · exact rt
     refine gb h fun Y q h=>?_;obtain ⟨H,O,A,rfl,B,L,G,rfl,C⟩:=i.idx q;refine go ?_;refine T ?_;exact rt
   exact rt
 intro x e U hM;rcases k with k | R
 · obtain ⟨rfl,hM⟩:=hM;obtain ⟨e,rfl,K⟩:=eo hM;rw [show e=im e [] from rfl];have h:=j;exact rt
 obtain ⟨rfl,u,rfl,hM⟩:=hM;cases j;exact And.intro trivial hM
instance k_287:Ct prog 287:=⟨by kernel_rfl,@E2⟩
theorem HV {w0 N b r} (h:sW N b=some r) {m x p} (H:x=b.gX.length) (j:rb w0 m p b.gX) {n z q} (I:z=b.N8.length) (k:rb w0 n q b.N8) {o A u} (J:A=b.N4.length) (l:rb w0 o u b.N4) :
    gV prog 293 #[.agg #[vI b.Oe,vI b.N0,vI b.box,vI b.Od,vI b.iw,vI b.gE,vI b.N9,vI b.iv,vI b.iu,.bool b.Ob,vS m x p,vS n z q,vS o A u]] w0 (fun v w=>v=.bool r∧St w0 [] w []):=by
 subst H I J;unfold sW at h;refine gV.fn func293 fun e=>?_;have ap:=St.start w0;refine tK ap fun aZ a0 K=>?_;refine gs ?_;obtain ⟨aA,au,az⟩:=ob h;refine CW.jn [1] [0] [(12,.bool aA)] K (h1:=?_) (h2:=?_)
 · have h:=au;refine gb h fun a3 av h=>?_;refine LW.c0 (lN av) K fun a1 L=>?_;refine gB h ?_ ?_<;>intro _ h
   · refine go ?_;cases oi h;exact L.po [0]
   refine gb h fun a4 aw h=>?_;refine go ?_;refine LW.c0 (lN aw) L fun a2 aq=>?_;refine go ?_;cases oi h;exact aq.po [0]
 intro e i g;have h:=az;refine gc h ?_ ?_<;>intro _ h
 · refine go ?_;cases h;exact fi g
 refine gc h ?_ ?_<;>intro _ h
 · refine jj [(0,vI b.Oe)] #[vI b.Oe,vI 0,vI 0,vI 0,vI 0,vI 0,vI 0,vI 0,vI 0,.bool false,vS none 0 0,vS none 0 0,vS none 0 0] ?_;have ⟨aO,aa,h⟩:=ob h;refine LW.c0 (zf aa rfl (g.rB j) rfl (g.rB k) rfl (g.rB l) rfl (show iM (α:=Int) (jo i []) i none 0 [] from iM.nil _ _ _ _ (Nat.zero_le _)) rfl (show iM (α:=Int) (jo i []) i none 0 [] from iM.nil _ _ _ _ (Nat.zero_le _)) rfl (show iM (α:=iS) (jo i []) i none 0 [] from iM.nil _ _ _ _ (Nat.zero_le _))) g fun aB ar=>?_;refine go ?_;cases h;exact fi ar
 refine gs ?_;obtain ⟨ax,Y,an⟩:=ob h;refine CW.jn [1] [0] [(47,.bool ax)] g (h1:=?_) (h2:=?_)
 · have h:=Y;refine gb h fun aP ab h=>?_;refine LW.c0 (lN ab) g fun aC M=>?_;refine gB h ?_ ?_<;>intro _ h
   · refine go ?_;cases oi h;exact M.po [0]
   refine gb h fun aQ ac h=>?_;refine go ?_;refine LW.c0 (zh ac) M fun aD O=>?_;refine gB h ?_ ?_<;>intro _ h
   · refine go ?_;cases oi h;exact O.po [0]
   refine gb h fun aR ad h=>?_;refine go ?_;refine LW.c0 (u7 ad) O fun aE R=>?_;refine gB h ?_ ?_<;>intro _ h
   · refine go ?_;cases oi h;exact R.po [0]
   refine go ?_;have ⟨aS,ae,h⟩:=ob h;refine go ?_;refine LW.c0 (lN ae) R fun aF f=>?_;refine gB h ?_ ?_<;>intro _ h
   · refine go ?_;cases oi h;exact f.po [0]
   refine gb h fun aT af h=>?_;refine go ?_;refine LW.c0 (y5 af rfl (f.rB j) rfl (f.rB k) rfl (f.rB l)) f fun aG U=>?_;refine go ?_;cases oi h;exact U.po [0]
 intro e aH d;have h:=an;refine gc h ?_ ?_<;>intro _ h
 · refine go ?_;cases h;exact fi d
 refine gc h ?_ ?_<;>intro _ h
 · refine gs ?_;obtain ⟨ay,Z,ao⟩:=ob h;refine CW.jn [] [] [(2,.bool ay)] d (h1:=?_) (h2:=?_)
   · have h:=Z;refine gB h ?_ ?_<;>intro _ h
     · refine gB h ?_ ?_<;>intro _ h
       · refine go ?_;cases oi h;exact d.po []
       refine go ?_;cases oi h;exact d.po []
     refine go ?_;cases oi h;exact d.po []
   intro e aI V;have h:=ao;refine go ?_;cases h;exact fi V
 refine gB h ?_ ?_<;>intro _ h
 · refine gb h fun aU ah h=>?_;refine go ?_;refine LW.c0 (lN ah) d fun aJ B=>?_;refine gB h ?_ ?_<;>intro _ h
   · refine go ?_;have ⟨aV,ai,h⟩:=ob h;refine go ?_;refine LW.c0 (u7 ai) B fun aK W=>?_;refine go ?_;cases h;exact fi W
   refine go ?_;cases h;exact fi B
 refine gb h fun aW aj h=>?_;refine go ?_;refine LW.c0 (yo aj) d fun aL C=>?_;refine gB h ?_ ?_<;>intro _ h
 · refine gb h fun aX ak h=>?_;refine go ?_;refine LW.c0 (lN ak) C fun aM G=>?_;refine go ?_;refine bH h ?_ ?_<;>intro _ h
   · refine gb h fun aY am h=>?_;refine go ?_;refine LW.c0 (u7 am) G fun aN X=>?_;refine go ?_;cases h;exact fi X
   refine go ?_;cases h;exact fi G
 refine go ?_;cases h;exact fi C
instance k_293:Ct prog 293:=⟨by kernel_rfl,@HV⟩
theorem Df {w0 N b r} (h:mF N b=some r) {g x j} (A:x=b.ag.length) (U:rb w0 g j b.ag) {d z f} (B:z=b.gc.gQ.length) (V:rb w0 d f b.gc.gQ) :
    gV prog 200 #[.agg #[vS g x j,vI b.gc.N2,vI b.gc.Oa,vI b.gc.N3,vS d z f]] w0 (fun v w=>∃ n p, ∃ o q,v=.agg #[vS n r.ag.length p,vI r.gc.N2,vI r.gc.Oa,vI r.gc.N3,vS o r.gc.gQ.length q]∧St w0 [] w [sl n p r.ag,sl o q r.gc.gQ]):=by
 subst A B;unfold mF at h;refine gV.fn func200 fun e=>?_;have ai:=St.start w0;refine T ?_;intro K aF aj L aG M;obtain ⟨R,O,W⟩:=ob h;refine CW.cut (fun e wb=>∃ (m:Nat) (k:Ad) (l:Nat),En e [(1,.pointer (some ⟨K,0,none⟩)),(2,.pointer (some ⟨L,0,none⟩)),(3,.pointer (some ⟨m,0,none⟩))]∧St w0 [] wb [bx L 40 [vS none 0 0,vI 0,vI 0,vI 0,vS none 0 0],bx K 40 (qH g j d f b),bx m 40 [vS k R.length l,vI b.gc.N2,vI b.gc.Oa,vI b.gc.N3,vS d b.gc.gQ.length f],sl k l R]) ?_ ?_
 · have h:=O;refine dW ?_;have ak:=M.drew;refine gb h fun C ar h=>?_;refine AW.all (rs:=[2,6]) (by kernel_rfl) (by simp) ⟨?_,?_,trivial⟩
   · refine oA ?_;refine T ?_;intro G I au am;refine AW.u (i:=5) rfl (by kernel_rfl) rfl rfl (iq.build (vs:=[(0,vS G C.length I),(1,.agg #[vI b.gc.N2,vI b.gc.Oa,vI b.gc.N3,vS d b.gc.gQ.length f])]) (cs:=#[vS G C.length I,vI b.gc.N2,vI b.gc.Oa,vI b.gc.N3,vS d b.gc.gQ.length f]) rfl (by kernel_rfl)) ?_;refine T ?_;intro af av an aw ao;exact rt
   refine oA ?_;refine T ?_;intro ah ax ap;refine jP 2 ?_;refine T ?_;intro H J ay aq;refine AW.u (i:=5) rfl (by kernel_rfl) rfl rfl (iq.build (vs:=[(0,vS H C.length J),(1,.agg #[vI b.gc.N2,vI b.gc.Oa,vI b.gc.N3,vS d b.gc.gQ.length f])]) (cs:=#[vS H C.length J,vI b.gc.N2,vI b.gc.Oa,vI b.gc.N3,vS d b.gc.gQ.length f]) rfl (by kernel_rfl)) ?_;refine T ?_;intro az X;exact rt
 rintro e aA ⟨m,k,l,hE,Y⟩;obtain ⟨e,rfl⟩:=hE.out;have h:=W;refine T ?_;intro aE ac h ad ae aB Z aC aa aD ab;exact rt
instance k_200:Ct prog 200:=⟨by kernel_rfl,@Df⟩
theorem EI {w0 N b d r} (h:rU N b d=some r) :
    gV prog 291 #[.agg #[vI b.gE,vI b.gT,vI b.g8],.agg #[vI d.gE,vI d.gT,vI d.g8]] w0 (fun v w=>v=.bool r∧St w0 [] w []):=by
 unfold rU at h;refine gV.fn func291 fun e=>?_;have f:=St.start w0;refine T ?_;intro n p g o q i;refine T ?_;intro z l h u j;refine bH h ?_ ?_<;>intro _ h
 · refine T ?_;intro A m h x k;refine bH h ?_ ?_<;>intro _ h
   · refine gB h ?_ ?_<;>intro _ h
     · refine go ?_;refine bH h ?_ ?_<;>intro _ h
       · exact rt
       exact rt
     exact rt
   exact rt
 exact rt
instance k_291:Ct prog 291:=⟨by kernel_rfl,@EI⟩
theorem vP {w0 N ay d r} (h:oS N ay d=some r) {X ai Y} (ak:ai=ay.length) (R:rb w0 X Y ay) {f U k} (ac:U=d.gX.length) (aF:rb w0 f k d.gX) {g V l} (ad:V=d.N8.length) (aG:rb w0 g l d.N8) {j W m} (ae:W=d.N4.length) (aH:rb w0 j m d.N4) :
    gV prog 244 #[vS X ai Y,.agg #[vI d.Oe,vI d.N0,vI d.box,vI d.Od,vI d.iw,vI d.gE,vI d.N9,vI d.iv,vI d.iu,.bool d.Ob,vS f U k,vS g V l,vS j W m]] w0 (fun v w=>∃ B K,v=.tuple #[vS B r.1.length K,vI r.2]∧St w0 [] w [sl B K r.1]):=by
 subst ak ac ad ae;unfold oS at h;refine gV.fn func244 fun e=>?_;have bs:=St.start w0;refine T ?_;intro aA bW bt az bB h bV Z bX bu bZ bC h bY aD;refine gc h ?_ ?_<;>intro _ h
 · exact rt
 refine go ?_;obtain ⟨ao,av,an⟩:=ob h;refine CW.mono (CW.lx [0,3,6] [0,1] [6] 0 (fun O=>[(7,vI O)]) (fun r x e wb=>x=.ret∧∃ u,u=r∧∃ v,kt prog f244.results e wb v∧∃ B K,v=.tuple #[vS B u.1.length K,vI u.2]∧St w0 [] wb [sl B K u.1]) aD av (hb:=?_)) ?_
 · intro O e bG o aE h;refine jE [0,3,6,7,18] fun e=>?_;refine gc h ?_ ?_<;>intro _ h
   · refine gs ?_;refine CW.block ?_;refine gs ?_;obtain ⟨aI,ar,aB⟩:=ob h;refine CW.jn [0,3,6,7] [0,1] [(34,.bool aI)] aE (h1:=?_) (h2:=?_)
     · have h:=ar;refine gb h fun bS aw h=>?_;obtain ⟨bj,bD,aM,rfl,aR,aV,aY,⟨bb,bl,bc,bm,bd,bn,rfl,a1,a2,a3⟩,aT⟩:=R.idx aw;refine go ?_;refine T ?_;refine bH h ?_ ?_<;>intro _ h
       · exact rt
       refine go ?_;refine T ?_;exact rt
     intro e bI bv;have h:=aB;refine gc h ?_ ?_<;>intro _ h
     · exact rt
     refine T ?_;intro b a8 h p H q I A J bJ bw am bK bz bL bA;have ⟨aj,ax,h⟩:=ob h;obtain ⟨bk,bE,aN,rfl,aS,aW,aZ,⟨be,bo,bf,bp,bg,bq,rfl,a5,a6,a7⟩,aU⟩:=R.idx ax;refine go ?_;refine T ?_;intro bM aa;have ⟨aK,af,h⟩:=ob h;obtain ⟨C,n,hae,aX,a0⟩:=aa.hZ (α:=gP) (i:=4) rfl af;subst hae;refine go ?_;have ap:=aa.pk (M:=[sl p H b.gX,sl q I b.N8,sl A J b.N4]++[bx am 160 [vI (i64.wrap (aj.Oe+1)),vI b.N0,vI b.box,vI b.Od,vI b.iw,vI b.gE,vI b.N9,vI b.iv,vI b.iu,.bool b.Ob,vS p b.gX.length H,vS q b.N8.length I,vS A b.N4.length J],sl (some ⟨C,n,none⟩) Z az,bx aA 160 (qO f k g l j m d)]) [1,2,3,0,4,5];have ⟨aL,ah,h⟩:=ob h;refine LW.uE (M:=[sl p H b.gX,sl q I b.N8,sl A J b.N4]) (L:=[bx am 160 [vI (i64.wrap (aj.Oe+1)),vI b.N0,vI b.box,vI b.Od,vI b.iw,vI b.gE,vI b.N9,vI b.iv,vI b.iu,.bool b.Ob,vS p b.gX.length H,vS q b.N8.length I,vS A b.N4.length J],sl (some ⟨C,n,none⟩) Z az,bx aA 160 (qO f k g l j m d)]) (z:=aK) (z':=(gP.mk (i64.wrap (aj.Oe+1)) b.N0 b.box b.Od b.iw b.gE b.N9 b.iv b.iu b.Ob b.gX b.N8 b.N4)) (o:=0) ap (i:=1) rfl af ud rfl (by show _=n+(O:Int).toNat * 13+0;omega) rfl rfl rfl rfl (whole (fun w G hG=>⟨p,H,q,I,A,J,rfl,hG⟩)) ?_;intro bN ab hf;rw [oi ah] at ab;refine gs ?_;obtain ⟨aJ,au,aC⟩:=ob h;refine CW.jn [0,6,7] [1] [(55,.bool aJ)] ab (h1:=?_) (h2:=?_)
     · have h:=au;refine T ?_;intro bT a9 h bO aO;refine bH h ?_ ?_<;>intro _ h
       · exact rt
       exact rt
     intro e bP aq;have h:=aC;refine jE [0,6,7,55] fun e=>?_;refine gc h ?_ ?_<;>intro _ h
     · refine T ?_;intro bU ba h bi br bQ aP;exact rt
     refine go ?_;replace h:=oi h;subst h;exact ⟨trivial,rfl,_,rfl,ry tt tt ⟨(some ⟨C,n,none⟩),Z,(show (.tuple #[vS (some ⟨C,n,none⟩) az.length Z,vI O]:Value)=.tuple #[vS (some ⟨C,n,none⟩) aL.length Z,vI O] by rw [gZ (oi ah)]),aq.pk [0]⟩⟩
   exact rt
 intro x e bR hM;rcases ao with ao | bF
 · obtain ⟨rfl,hM⟩:=hM;obtain ⟨e,rfl,aQ⟩:=eo hM;have h:=an;exact rt
 obtain ⟨rfl,u,rfl,hM⟩:=hM;cases an;exact And.intro trivial hM
instance k_244:Ct prog 244:=⟨by kernel_rfl,@vP⟩
theorem Gc {w0 N d r} (h:n4 N d=some r) {f p j} (A:p=d.ag.length) (ac:rb w0 f j d.ag) {g q k} (B:q=d.gc.gQ.length) (b:rb w0 g k d.gc.gQ) :
    gV prog 128 #[.agg #[vS f p j,vI d.gc.N2,vI d.gc.Oa,vI d.gc.N3,vS g q k]] w0 (fun v w=>v=.bool r∧St w0 [] w []):=by
 subst A B;unfold n4 at h;refine gV.fn func128 fun e=>?_;have aE:=St.start w0;refine T ?_;intro a7 a9 aF a8 ba aG bb X;obtain ⟨aA,Z,ae⟩:=ob h;refine CW.jn [3] [0] [(22,.bool aA)] X (h1:=?_) (h2:=?_)
 · have h:=Z;refine T ?_;intro bd aL h bc aH;refine bH h ?_ ?_<;>intro _ h
   · exact rt
   refine T ?_;intro aZ au h aO aI;refine bH h ?_ ?_<;>intro _ h
   · exact rt
   refine T ?_;intro a0 av h aP aJ;exact rt
 intro e aQ Y;have h:=ae;refine gc h ?_ ?_<;>intro _ h
 · exact rt
 refine gs ?_;obtain ⟨aa,M,V⟩:=ob h;refine CW.jn [3] [0] [(47,.bool aa)] Y (h1:=?_) (h2:=?_)
 · have h:=M;refine gB h ?_ ?_<;>intro _ h
   · refine gB h ?_ ?_<;>intro _ h
     · exact rt
     refine gB h ?_ ?_<;>intro _ h
     · refine T ?_;intro a1 aw h aR aK;refine bH h ?_ ?_<;>intro _ h
       · exact rt
       exact rt
     exact rt
   refine gB h ?_ ?_<;>intro _ h
   · refine T ?_;intro a2 ax h aS af;refine bH h ?_ ?_<;>intro _ h
     · exact rt
     exact rt
   exact rt
 intro e aT I;have h:=V;refine gc h ?_ ?_<;>intro _ h
 · exact rt
 refine go ?_;obtain ⟨G,R,C⟩:=ob h;refine CW.mono (CW.lx [3] [0] [] 0 (fun H=>[(4,vI H)]) (RT prog f128.results (fun u=>.bool u) w0 []) I R (hb:=?_)) ?_
 · intro H e aU o m h;refine gc h ?_ ?_<;>intro _ h
   · refine gs ?_;refine CW.block ?_;refine gs ?_;obtain ⟨ab,O,W⟩:=ob h;refine CW.jn [3,4] [0] [(73,.bool ab)] m (h1:=?_) (h2:=?_)
     · have h:=O;refine dW ?_;have ah:=m.drew;refine gb h fun a3 U h=>?_;obtain ⟨aC,aM,ad,rfl,an,ap,aq,rfl,ao⟩:=b.idx U;refine go ?_;refine T ?_;intro a4 ay h aV ai;refine bH h ?_ ?_<;>intro J h
       · exact rt
       refine gb h fun a5 n h=>?_;obtain ⟨aB,aD,K,L,ar⟩:=iM.uL b n;have z:=(b).le;refine AW.u (i:=11) rfl (by kernel_rfl) (lz rfl rfl J) rfl (iq.sub (α:=Int) (l:=d.gc.gQ) underlying32 FJ rfl uO (uN rfl) n z K L) ?_;refine go ?_;refine T ?_;intro a6 az h aW aj;exact rt
     intro e aX ak;have h:=W;refine gc h ?_ ?_<;>intro _ h
     · exact rt
     exact rt
   exact rt
 intro x e aY hM;rcases G with G | aN
 · obtain ⟨rfl,hM⟩:=hM;obtain ⟨e,rfl,am⟩:=eo hM;rw [show e=im e [] from rfl];have h:=C;exact rt
 obtain ⟨rfl,u,rfl,hM⟩:=hM;cases C;exact And.intro trivial hM
instance k_128:Ct prog 128:=⟨by kernel_rfl,@Gc⟩
theorem Eg {w0 N i r} (h:sv N i=some r) {b f d} (g:f=i.length) (j:rb w0 b d i) :
    gV prog 219 #[vS b f d] w0 (fun v w=>v=.agg #[vI r.gE,vI r.gT,vI r.g8]∧St w0 [] w []):=by
 subst g;unfold sv at h;refine gV.fn func219 fun e=>?_;have k:=St.start w0;refine T ?_;intro x z l H q h A m;refine gc h ?_ ?_<;>intro _ h
 · refine jj [] #[vI 0,vI 0,vI 0] ?_;refine T ?_;intro B n;exact rt
 refine T ?_;intro I u h C o G p;exact rt
instance k_219:Ct prog 219:=⟨by kernel_rfl,@Eg⟩
theorem GU {w0 N j l r} (h:lL N j l=some r) {b f d} (g:f=j.length) (i:rb w0 b d j) :
    gV prog 154 #[vS b f d,vI l] w0 (fun v w=>v=.bool r∧St w0 [] w []):=by
 subst g;unfold lL at h;refine gV.fn func154 fun e=>?_;have q:=St.start w0;refine go ?_;refine T ?_;intro J B h H u;refine bH h ?_ ?_<;>intro _ h
 · refine T ?_;intro K C h I x;refine bH h ?_ ?_<;>intro _ h
   · refine gb h fun L k h=>?_;obtain ⟨p,G,m,rfl,n,z,A,rfl,o⟩:=i.idx k;refine go ?_;refine T ?_;exact rt
   exact rt
 exact rt
instance k_154:Ct prog 154:=⟨by kernel_rfl,@GU⟩
theorem GJ {w0 N b d r} (h:tq N b d=some r) :
    gV prog 304 #[.agg #[vI b.gE,vI b.gT,vI b.g8],.agg #[vI d.gE,vI d.gT,vI d.g8]] w0 (fun v w=>v=.tuple #[.agg #[vI r.1.gE,vI r.1.gT,vI r.1.g8],.bool r.2]∧St w0 [] w []):=by
 unfold tq at h;refine gV.fn func304 fun e=>?_;have f:=St.start w0;refine T ?_;intro q z g u A i x B j G n h C k;refine gc h ?_ ?_<;>intro _ h
 · refine T ?_;intro o l;exact rt
 refine jj [(0,vI (i64.wrap (b.gE - d.gE))),(1,vI (i64.wrap (b.gT - d.gT))),(2,vI (i64.wrap (b.g8 - d.g8)))] #[vI (i64.wrap (b.gE - d.gE)),vI (i64.wrap (b.gT - d.gT)),vI (i64.wrap (b.g8 - d.g8))] ?_;refine T ?_;intro p m;exact rt
instance k_304:Ct prog 304:=⟨by kernel_rfl,@GJ⟩
theorem Ii {w0 N x W r} (h:rf N x W=some r) {j l k} (n:l=x.length) (b:rb w0 j k x) :
    gV prog 303 #[vS j l k,vI W] w0 (fun v w=>∃ z A,v=vS z r.length A∧St w0 [] w [sl z A r]):=by
 subst n;unfold rf at h;refine gV.fn func303 fun e=>?_;have Y:=St.start w0;refine go ?_;refine LW.b0 (α:=Int) Y ?_;intro aA aR cF Z hf;refine gs ?_;obtain ⟨bw,ac,aW⟩:=ob h;refine CW.jn [0,1,5] [0] [(23,.bool bw)] Z (h1:=?_) (h2:=?_)
 · have h:=ac;refine T ?_;intro cH cn h cG ci;refine bH h ?_ ?_<;>intro _ h
   · exact rt
   refine T ?_;intro cI co h ct cj;refine bH h ?_ ?_<;>intro _ h
   · exact rt
   refine gb h fun cy K h=>?_;obtain ⟨bZ,cp,aS,rfl,a0,a9,bd,⟨bN,b4,bO,b5,bP,b6,rfl,bi,bj,bk⟩,a5⟩:=b.idx K;refine go ?_;refine T ?_;exact rt
 intro e cu aa;have h:=aW;refine gc h ?_ ?_<;>intro _ h
 · exact rt
 refine go ?_;obtain ⟨bB,p,B⟩:=ob h;refine CW.ie p 0 (fun g e wb=>∃ (d:Ad) (f:Nat),En e [(0,vS j x.length k),(1,vI W),(5,vS d g.1.length f),(6,vI g.2)]∧St w0 [] wb [sl d f g.1]) ?_ ⟨aA,aR,aa.po [0]⟩ ?_
 · intro g e cv o hM h;obtain ⟨d,f,hE,ab⟩:=hM;obtain ⟨e,rfl⟩:=hE.out;refine gc h ?_ ?_<;>intro _ h
   · refine gs ?_;refine CW.block ?_;refine gs ?_;obtain ⟨ad,J,X⟩:=ob h;refine CW.jn [0,1,5,6] [0] [(66,.bool ad)] ab (h1:=?_) (h2:=?_)
     · have h:=J;refine gB h ?_ ?_<;>intro _ h
       · refine gb h fun cz O h=>?_;obtain ⟨b1,cq,aT,rfl,a2,ba,be,⟨bQ,b7,bR,b8,bS,b9,rfl,bl,bm,bn⟩,a6⟩:=b.idx O;refine go ?_;refine T ?_;refine bH h ?_ ?_<;>intro _ h
         · refine go ?_;refine T ?_;refine bH h ?_ ?_<;>intro _ h
           · refine gb h fun cA R h=>?_;obtain ⟨b2,cr,aU,hae,a3,bb,bf,H,a7⟩:=b.idx R;cases hae;obtain ⟨bT,ca,bU,cb,bV,cc,rfl,bo,bp,bq⟩:=H;refine go ?_;refine T ?_;refine bH h ?_ ?_<;>intro _ h
             · exact rt
             refine go ?_;refine T ?_;intro cB bu h cw ck;exact rt
           refine gb h fun cC U h=>?_;obtain ⟨b3,cs,aV,hae,a4,bc,bg,I,a8⟩:=b.idx U;cases hae;obtain ⟨bW,ce,bX,cf,bY,cg,rfl,br,bs,bt⟩:=I;refine go ?_;refine T ?_;intro cD bv h cx cl;exact rt
         refine go ?_;have ⟨cE,V,h⟩:=ob h;obtain ⟨aI,bz,ae,hae,ah,am,ao,m,aj⟩:=b.idx V;cases hae;obtain ⟨aB,aK,aC,aL,aD,aM,rfl,aq,ar,au⟩:=m;refine go ?_;refine T ?_;intro bJ ay h bD cm;exact rt
       refine go ?_;have ⟨bK,q,h⟩:=ob h;obtain ⟨aJ,bA,af,rfl,ai,an,ap,⟨aE,aN,aF,aO,aG,aP,rfl,av,aw,ax⟩,ak⟩:=b.idx q;refine go ?_;refine T ?_;intro bL az h bE aX;exact rt
     intro e bF C;have h:=X;refine gc h ?_ ?_<;>intro _ h
     · refine gb h fun bM u h=>?_;refine LW.j6 (M:=[]) (L:=[sl d f g.1]) (vs:=#[vI g.2]) (i:=0) pH rfl (by kernel_rfl) rfl rfl u C rfl (fun w G hG=>by cases (show G=[] from hG);exact ⟨rfl,rfl⟩) rfl rfl ?_;intro bC aH aQ bG aY hf;exact rt
     exact rt
   exact rt
 rintro e bI ⟨d,f,hE,aZ⟩;obtain ⟨e,rfl⟩:=hE.out;have h:=B;exact rt
instance k_303:Ct prog 303:=⟨by kernel_rfl,@Ii⟩
theorem Cb {w0 N aP X r} (h:pS N aP X=some r) {Y ai Z} (ar:ai=aP.length) (U:rb w0 Y Z aP) :
    gV prog 313 #[vS Y ai Z,vI X] w0 (fun v w=>∃ az aA,v=.tuple #[vS az r.1.length aA,.bool r.2]∧St w0 [] w [sl az aA r.1]):=by
 subst ar;unfold pS at h;refine gV.fn func313 fun e=>?_;have cD:=St.start w0;refine T ?_;intro aQ cG h cX g cY aS;obtain ⟨bX,aX,bo⟩:=ob h;refine CW.jn [0,1,6] [0] [(26,.bool bX)] aS (h1:=?_) (h2:=?_)
 · have h:=aX;refine T ?_;intro c0 cH h cZ cE;refine bH h ?_ ?_<;>intro _ h
   · exact rt
   refine T ?_;intro cU bW h cN cF;refine bH h ?_ ?_<;>intro _ h
   · exact rt
   refine gb h fun cV aN h=>?_;obtain ⟨co,cI,bl,rfl,bu,bC,bI,⟨ce,cu,cf,cv,cg,cw,rfl,bN,bO,bP⟩,bz⟩:=U.idx aN;refine go ?_;refine T ?_;exact rt
 intro e cO aB;have h:=bo;refine gc h ?_ ?_<;>intro _ h
 · exact rt
 refine gb h fun aj aO h=>?_;obtain ⟨cp,cJ,bm,rfl,bv,bD,bJ,⟨ci,cx,cj,cy,ck,cz,rfl,bQ,bR,bS⟩,bA⟩:=U.idx aO;refine go ?_;refine T ?_;refine LW.bd [(0,vI aj.Oe)] #[vI aj.Oe,vI 0,vI 0,vI 0,vI 0,vI 0,vI 0,vI 0,vI 0,.bool false,vS none 0 0,vS none 0 0,vS none 0 0] ?_;have ⟨aY,ae,h⟩:=ob h;obtain ⟨f,d,hae,bE,bK⟩:=aB.hZ (α:=gP) (i:=0) rfl ae;subst hae;refine go ?_;have aT:=aB.nil (α:=Int);have aU:=aT.nil (α:=Int);have aV:=aU.nil (α:=iS);have aW:=aV.pk (M:=[sl none 0 [],sl none 0 [],sl none 0 []]++[sl (some ⟨f,d,none⟩) g aQ]) [2,1,0,3];have ⟨aZ,af,h⟩:=ob h;refine LW.uE (M:=[sl none 0 [],sl none 0 [],sl none 0 []]) (L:=[sl (some ⟨f,d,none⟩) g aQ]) (z:=aY) (z':=(gP.mk aj.Oe 0 0 0 0 0 0 0 0 false [] [] [])) (o:=0) aW (i:=0) rfl ae ud rfl (by show _=d+(X:Int).toNat * 13+0;omega) rfl rfl rfl rfl (whole (fun w G hG=>⟨none,0,none,0,none,0,rfl,hG⟩)) ?_;intro cP aa hf;rw [oi af] at aa;refine go ?_;obtain ⟨b0,ax,aE⟩:=ob h;refine CW.ie ax 0 (fun k e wb=>En e [(1,vI X),(6,vS (some ⟨f,d,none⟩) k.1.length g),(7,vI k.2)]∧St w0 [] wb [sl (some ⟨f,d,none⟩) g k.1]) ?_ ⟨⟨rfl,(show (vS (some ⟨f,d,none⟩) aQ.length g:Value)=vS (some ⟨f,d,none⟩) aZ.length g by rw [gZ (oi af)]),rfl,trivial⟩,aa.pk [0]⟩ ?_
 · intro k e cQ o hM h;obtain ⟨e,rfl,ab⟩:=eo hM;refine jE [1,6,7,40] fun e=>?_;refine gc h ?_ ?_<;>intro _ h
   · refine gb h fun cW K h=>?_;obtain ⟨cq,cK,hae,bF,bL⟩:=ab.hZ (α:=gP) (i:=0) rfl K;cases hae;refine go ?_;obtain ⟨cb,C,I⟩:=ab.freeze (α:=gP) 0 rfl;obtain ⟨cr,cL,bn,hae,bw,_,_,aL,bB⟩:=C.jk.idx K;cases hae;obtain ⟨cl,cA,cm,cB,cn,cC,rfl,bT,bU,bV⟩:=aL;refine T ?_;refine gc h ?_ ?_<;>intro _ h
     · refine go ?_;have bp:=I.iz (α:=gP) 0 rfl C;exact rt
     refine go ?_;refine T ?_;obtain ⟨aC,aM,aR⟩:=ob h;refine CW.cut (fun e wb=>En e [(1,vI X),(6,vS (some ⟨f,d,none⟩) aC.length g),(7,vI k.2)]∧St w0 [] wb [sl (some ⟨f,d,none⟩) g aC]) ?_ ?_
     · have h:=aM;refine CW.fl [1,6,7,55] fun e=>?_;refine gc h ?_ ?_<;>intro _ h
       · refine go ?_;have aF:=I.iz (α:=gP) 0 rfl C;have ⟨a0,ah,h⟩:=ob h;refine LW.se 2 aF 0 K ah (hM:=(je (fun w cs F hF=>by obtain ⟨b1,b4,b2,b5,b3,b6,rfl,hH⟩:=hF;exact ⟨b1,b4,b2,b5,b3,b6,rfl,hH⟩))) fun cR aG=>?_;refine go ?_;replace h:=oi h;subst h;exact ⟨⟨rfl,(show (vS (some ⟨f,d,none⟩) k.1.length g:Value)=vS (some ⟨f,d,none⟩) a0.length g by rw [gZ (oi ah)]),rfl,trivial⟩,aG.pk [0]⟩
       refine go ?_;have bq:=I.iz (α:=gP) 0 rfl C;exact rt
     rintro e cS ⟨hE,aH⟩;obtain ⟨e,rfl⟩:=hE.out;have h:=aR;refine go ?_;obtain ⟨bZ,aw,aD⟩:=ob h;refine CW.ie aw 2 (fun l e wb=>En e [(1,vI X),(6,vS (some ⟨f,d,none⟩) l.1.length g),(7,vI k.2),(8,vI l.2)]∧St w0 [] wb [sl (some ⟨f,d,none⟩) g l.1]) ?_ (aH.po [0]) ?_
     · intro l e cT o hM h;obtain ⟨e,rfl,ac⟩:=eo hM;refine jE [1,6,7,8,61] fun e=>?_;refine gc h ?_ ?_<;>intro _ h
       · refine gb h fun b O h=>?_;obtain ⟨ct,cM,hae,bG,bM⟩:=ac.hZ (α:=gP) (i:=0) rfl O;cases hae;refine go ?_;obtain ⟨cc,B,J⟩:=ac.freeze (α:=gP) 0 rfl;obtain ⟨bg,bY,a3,hae,am,_,_,ao,aq⟩:=B.jk.idx O;cases hae;obtain ⟨bb,q,m,x,n,A,rfl,ay,a9,ba⟩:=ao;refine T ?_;have ⟨ca,V,h⟩:=ob h;obtain ⟨p,H,a4,rfl,a5,a7,a8,rfl,a6⟩:=ay.idx V;refine go ?_;refine T ?_;refine CW.fl [1,6,7,8,73] fun e=>?_;refine gc h ?_ ?_<;>intro _ h
         · refine go ?_;refine T ?_;refine go ?_;have au:=fun (j:Nat) (u:Value) (hu:([vI b.Oe,vI b.N0,vI b.box,vI b.Od,vI b.iw,vI b.gE,vI b.N9,vI b.iv,vI b.iu,.bool b.Ob,vS (some ⟨p,H,none⟩) b.gX.length q,vS m b.N8.length x,vS n b.N4.length A]:List Value)[j]?=some u)=>(World.cell?_of_block (J.zC 0 rfl am)).trans (aq j u hu);have aI:=J.iz (α:=gP) 0 rfl B;obtain ⟨a1,av,ap⟩:=aI.focus (α:=gP) (cs:=[vI b.Oe,vI b.N0,vI b.box,vI b.Od,vI b.iw,vI b.gE,vI b.N9,vI b.iv,vI b.iu,.bool b.Ob,vS (some ⟨p,H,none⟩) b.gX.length q,vS m b.N8.length x,vS n b.N4.length A]) 0 rfl O rfl au;obtain ⟨bc,bi,be,bj,bf,bk,an,ak⟩:=av;cases an;have aJ:=ap [sl (some ⟨p,H,none⟩) q b.gX,sl m x b.N8,sl n A b.N4] ak;have ⟨R,W,h⟩:=ob h;refine LW.se 0 aJ 0 V W (hM:=td) fun b7 ad=>?_;refine go ?_;replace h:=oi h;subst h;rw [gZ (oi W)] at ad;have aK:=ad.nC (gP.mk b.Oe b.N0 b.box b.Od b.iw b.gE b.N9 b.iv b.iu b.Ob R b.N8 b.N4) [0,1,2,3] 3 0 rfl rfl (fun w G hG=>⟨(some ⟨p,H,none⟩),q,m,x,n,A,rfl,hG⟩);exact ⟨rfl,⟨⟨rfl,(show (vS (some ⟨f,d,none⟩) l.1.length g:Value)=vS (some ⟨f,d,none⟩) ((l.1.set (k.2:Int).toNat (gP.mk b.Oe b.N0 b.box b.Od b.iw b.gE b.N9 b.iv b.iu b.Ob R b.N8 b.N4)).length) g by rw [show l.1.length=(l.1.set (k.2:Int).toNat (gP.mk b.Oe b.N0 b.box b.Od b.iw b.gE b.N9 b.iv b.iu b.Ob R b.N8 b.N4)).length from (gZ rfl)]),rfl,rfl,trivial⟩,aK.pk [0]⟩⟩
         refine go ?_;have br:=J.iz (α:=gP) 0 rfl B;exact rt
       exact rt
     rintro e b8 ⟨hE,bs⟩;obtain ⟨e,rfl⟩:=hE.out;have h:=aD;exact rt
   exact rt
 rintro e b9 ⟨hE,bt⟩;obtain ⟨e,rfl⟩:=hE.out;have h:=aE;exact rt
instance k_313:Ct prog 313:=⟨by kernel_rfl,@Cb⟩
end Go.Kx
