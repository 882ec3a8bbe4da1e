import Derived.Test.YtlcgibcdiikheaaGreatWa31
namespace Go.Kx
open Go Go.RowKit Go.Proofs
open Tryz
set_option maxRecDepth 10000
set_option maxHeartbeats 8000000
set_option linter.unusedVariables false
set_option linter.unusedSimpArgs false
theorem KW {w0 N b r} (h:uz N b=some r) {m x p} (H:x=b.gZ.length) (j:rb w0 m p b.gZ) {n z q} (I:z=b.QV.length) (k:rb w0 n q b.QV) {o A u} (J:A=b.QU.length) (l:rb w0 o u b.QU) :
    g8 prog 351 #[.agg #[vI b.Q3,vI b.py,vI b.box,vI b.res,vI b.iF,vI b.bh,vI b.QW,vI b.iK,vI b.iG,.bool b.mark,vS m x p,vS n z q,vS o A u]] w0 (fun v w=>v=.bool r∧St w0 [] w []):=by
 subst H I J;unfold uz at h;refine g8.fn func351 fun e=>?_;have ap:=St.start w0;refine z6 ap fun aZ a0 K=>?_;refine gs ?_;obtain ⟨aA,au,az⟩:=ob h;refine CW.jn [1] [0] [(12,.bool aA)] K (h1:=?_) (h2:=?_)
 · have h:=au;refine gb h fun a3 av h=>?_;refine LW.c0 (qC av) K fun a1 L=>?_;refine gB h ?_ ?_<;>intro _ h
   · refine go ?_;cases oi h;exact L.po [0]
   refine gb h fun a4 aw h=>?_;refine go ?_;refine LW.c0 (qC aw) L fun a2 aq=>?_;refine go ?_;cases oi h;exact aq.po [0]
 intro e i g;have h:=az;refine gc h ?_ ?_<;>intro _ h
 · refine go ?_;cases h;exact fi g
 refine gc h ?_ ?_<;>intro _ h
 · refine jX [(0,vI b.Q3)] #[vI b.Q3,vI 0,vI 0,vI 0,vI 0,vI 0,vI 0,vI 0,vI 0,.bool false,vS none 0 0,vS none 0 0,vS none 0 0] ?_;have ⟨aO,aa,h⟩:=ob h;refine LW.c0 (At aa rfl (g.rB j) rfl (g.rB k) rfl (g.rB l) rfl (show iV (α:=Int) (ki i []) i none 0 [] from iV.nil _ _ _ _ (Nat.zero_le _)) rfl (show iV (α:=Int) (ki i []) i none 0 [] from iV.nil _ _ _ _ (Nat.zero_le _)) rfl (show iV (α:=jw) (ki i []) i none 0 [] from iV.nil _ _ _ _ (Nat.zero_le _))) g fun aB ar=>?_;refine go ?_;cases h;exact fi ar
 refine gs ?_;obtain ⟨ax,Y,an⟩:=ob h;refine CW.jn [1] [0] [(47,.bool ax)] g (h1:=?_) (h2:=?_)
 · have h:=Y;refine gb h fun aP ab h=>?_;refine LW.c0 (qC ab) g fun aC M=>?_;refine gB h ?_ ?_<;>intro _ h
   · refine go ?_;cases oi h;exact M.po [0]
   refine gb h fun aQ ac h=>?_;refine go ?_;refine LW.c0 (z9 ac) M fun aD O=>?_;refine gB h ?_ ?_<;>intro _ h
   · refine go ?_;cases oi h;exact O.po [0]
   refine gb h fun aR ad h=>?_;refine go ?_;refine LW.c0 (wm ad) O fun aE R=>?_;refine gB h ?_ ?_<;>intro _ h
   · refine go ?_;cases oi h;exact R.po [0]
   refine go ?_;have ⟨aS,ae,h⟩:=ob h;refine go ?_;refine LW.c0 (qC ae) R fun aF f=>?_;refine gB h ?_ ?_<;>intro _ h
   · refine go ?_;cases oi h;exact f.po [0]
   refine gb h fun aT af h=>?_;refine go ?_;refine LW.c0 (z5 af rfl (f.rB j) rfl (f.rB k) rfl (f.rB l)) f fun aG U=>?_;refine go ?_;cases oi h;exact U.po [0]
 intro e aH d;have h:=an;refine gc h ?_ ?_<;>intro _ h
 · refine go ?_;cases h;exact fi d
 refine gc h ?_ ?_<;>intro _ h
 · refine gs ?_;obtain ⟨ay,Z,ao⟩:=ob h;refine CW.jn [] [] [(2,.bool ay)] d (h1:=?_) (h2:=?_)
   · have h:=Z;refine gB h ?_ ?_<;>intro _ h
     · refine gB h ?_ ?_<;>intro _ h
       · refine go ?_;cases oi h;exact d.po []
       refine go ?_;cases oi h;exact d.po []
     refine go ?_;cases oi h;exact d.po []
   intro e aI V;have h:=ao;refine go ?_;cases h;exact fi V
 refine gB h ?_ ?_<;>intro _ h
 · refine gb h fun aU ah h=>?_;refine go ?_;refine LW.c0 (qC ah) d fun aJ B=>?_;refine gB h ?_ ?_<;>intro _ h
   · refine go ?_;have ⟨aV,ai,h⟩:=ob h;refine go ?_;refine LW.c0 (wm ai) B fun aK W=>?_;refine go ?_;cases h;exact fi W
   refine go ?_;cases h;exact fi B
 refine gb h fun aW aj h=>?_;refine go ?_;refine LW.c0 (yS aj) d fun aL C=>?_;refine gB h ?_ ?_<;>intro _ h
 · refine gb h fun aX ak h=>?_;refine go ?_;refine LW.c0 (qC ak) C fun aM G=>?_;refine go ?_;refine bH h ?_ ?_<;>intro _ h
   · refine gb h fun aY am h=>?_;refine go ?_;refine LW.c0 (wm am) G fun aN X=>?_;refine go ?_;cases h;exact fi X
   refine go ?_;cases h;exact fi G
 refine go ?_;cases h;exact fi C
instance k_351:Ct prog 351:=⟨by kernel_rfl,@KW⟩
theorem GI {w0 N b d r} (h:tW N b d=some r) :
    g8 prog 307 #[.agg #[vI b.res,vI b.jz,vI b.nD,vI b.kH,vI b.py,vI b.mb],.agg #[vI d.bh,vI d.gS,vI d.gW]] w0 (fun v w=>v=vI r∧St w0 [] w []):=by
 unfold tW at h;refine g8.fn func307 fun e=>?_;have m:=St.start w0;refine T ?_;intro I K n J L f;obtain ⟨l,g,i⟩:=ob h;refine CW.jn [2,3] [0,1] [(13,.bool l)] f (h1:=?_) (h2:=?_)
 · have h:=g;refine T ?_;intro O z h M o;refine bH h ?_ ?_<;>intro _ h
   · exact rt
   refine T ?_;intro G j h A p;exact rt
 intro e B q;have h:=i;refine gc h ?_ ?_<;>intro _ h
 · exact rt
 refine T ?_;intro H k h C x;refine gc h ?_ ?_<;>intro _ h
 · refine go ?_;refine LW.u (iM.min rfl rfl) rfl ?_;exact rt
 refine go ?_;refine LW.u (iM.quo rfl rfl (by decide)) rfl ?_;exact rt
instance k_307:Ct prog 307:=⟨by kernel_rfl,@GI⟩
theorem Gg {w0 N b d r} (h:tP N b d=some r) :
    g8 prog 350 #[.agg #[vI b.bh,vI b.gS,vI b.gW],.agg #[vI d.bh,vI d.gS,vI d.gW]] w0 (fun v w=>v=.bool r∧St w0 [] w []):=by
 unfold tP at h;refine g8.fn func350 fun e=>?_;have f:=St.start w0;refine T ?_;intro n p g o q i;refine T ?_;intro z l h u j;refine bH h ?_ ?_<;>intro _ h
 · refine T ?_;intro A m h x k;refine bH h ?_ ?_<;>intro _ h
   · refine gB h ?_ ?_<;>intro _ h
     · refine go ?_;refine bH h ?_ ?_<;>intro _ h
       · exact rt
       exact rt
     exact rt
   exact rt
 exact rt
instance k_350:Ct prog 350:=⟨by kernel_rfl,@Gg⟩
theorem As {w0 N b r} (h:s7 N b=some r) :
    g8 prog 294 #[.agg #[vI b.bh,vI b.gS,vI b.gW]] w0 (fun v w=>∃ l m,v=.tuple #[vS l r.1.length m,.bool r.2]∧St w0 [] w [sl l m r.1]):=by
 unfold s7 at h;refine g8.fn func294 fun e=>?_;have C:=St.start w0;refine T ?_;intro R U G X I h V n;refine gc h ?_ ?_<;>intro _ h
 · refine go ?_;refine LW.b0 (α:=g6) n ?_;intro M O W H hf;exact rt
 refine gb h fun A q h=>?_;refine LW.mk Ll rfl rfl q n rfl ?_;intro B f J o hf;refine jX [(0,.bool true),(1,vI (-1)),(2,.agg #[vI b.bh,vI b.gS,vI b.gW])] #[.bool true,vI (-1),vI b.bh,vI b.gS,vI b.gW] ?_;have ⟨L,g,h⟩:=ob h;obtain ⟨d,k,hae,x,z⟩:=o.iu (α:=g6) (i:=0) rfl g;subst hae;refine go ?_;have ⟨u,j,h⟩:=ob h;refine LW.se 0 o 0 g j (hM:=xn) fun K p=>?_;refine go ?_;replace h:=oi h;subst h;exact Rc tt tt ⟨(some ⟨d,k,none⟩),f,(show (.tuple #[vS (some ⟨d,k,none⟩) A.length f,.bool true]:Value)=.tuple #[vS (some ⟨d,k,none⟩) u.length f,.bool true] by rw [iv (oi j)]),p.pk [0]⟩
instance k_294:Ct prog 294:=⟨by kernel_rfl,@As⟩
theorem Ab {w0} {F:List Nat} {N o r} (h:rk N o=some r) {z:Nat} {d f} (C:iV (ki w0 F) w0 d f o.b) (hS:St w0 F w0 [bx z 177 [vS d o.b.length f,vI o.i,vI o.h]]) :
    g8 prog 302 #[.pointer (some ⟨z,0,none⟩)] w0 (fun v w=>∃ g k, ∃ j l,v=.agg #[vS g r.1.QQ.so.length k,vS j r.1.own.length l,vI r.1.jq.bh,vI r.1.jq.gS,vI r.1.jq.gW]∧St w0 F w [sl g k r.1.QQ.so,sl j l r.1.own,bx z 177 [vS d o.b.length f,vI r.2.i,vI r.2.h]]):=by
 unfold rk at h;refine g8.fn func302 fun e=>?_;refine T ?_;intro Y Z I B O h u x aa J p R h U K m G h V L n H h W M;refine LW.bd [(0,vI p.1),(1,vI m.1),(2,vI n.1)] #[vI p.1,vI m.1,vI n.1] ?_;refine LW.bd [(0,.agg #[vS u B.1.so.length x]),(2,.agg #[vI p.1,vI m.1,vI n.1])] #[vS u B.1.so.length x,vS none 0 0,vI p.1,vI m.1,vI n.1] ?_;refine T ?_;intro X A;replace h:=oi h;subst h;have q:=A.nil (α:=Int);exact And.intro trivial ⟨_,lk.one (iq.b q 3 rfl MY rfl rfl),u,x,none,0,rfl,q.pk [2,0,1]⟩
instance k_302:Ct prog 302:=⟨by kernel_rfl,@Ab⟩
theorem Jf {w0} {F:List Nat} {N k r} (h:uj N k=some r) {z:Nat} {g j} (q:iV (ki w0 F) w0 g j k.b) (hS:St w0 F w0 [bx z 177 [vS g k.b.length j,vI k.i,vI k.h]]) :
    g8 prog 214 #[.pointer (some ⟨z,0,none⟩)] w0 (fun v w=>∃ o p,v=.agg #[vS o r.1.so.length p]∧St w0 F w [sl o p r.1.so,bx z 177 [vS g k.b.length j,vI r.2.i,vI r.2.h]]):=by
 unfold uj at h;refine g8.fn func214 fun e=>?_;refine T ?_;intro Y bv aQ aj aX h ak am bw aR Z a1 aS a2 aT X aA h a3 I;obtain ⟨x,ah,an⟩:=ob h;refine CW.cut (fun e wb=>∃ (d:Ad) (f:Nat),En e [(0,.pointer (some ⟨z,0,none⟩)),(2,.pointer (some ⟨Y,0,none⟩)),(3,.pointer (some ⟨Z,0,none⟩))]∧St w0 F wb [bx z 177 [vS g k.b.length j,vI x.2.1,vI x.2.2],bx Z 39 [vS d x.1.length f],sl d f x.1,bx Y 39 [vS none 0 0]]) ?_ ?_
 · have h:=ah;refine gc h ?_ ?_<;>intro _ h
   · refine dW ?_;have aU:=I.drew;refine T ?_;intro bl aB h a4 ao;have ⟨bm,J,h⟩:=ob h;obtain ⟨W,aG,aM,ae,af,aV⟩:=ao.wy (α:=Int) 2 rfl J;refine AW.u (i:=4) rfl (by kernel_rfl) rfl rfl (iM.sub (α:=Int) (l:=aj.1.so) underlying37 Ee rfl xA (xy rfl) J W ae af) ?_;refine T ?_;intro a5 aW;exact rt
   refine gc h ?_ ?_<;>intro _ h
   · refine dW ?_;have A:=I.drew;refine gb h fun bn K h=>?_;refine AW.all (rs:=[3,5]) (by kernel_rfl) (by simp) ⟨?_,?_,trivial⟩
     · obtain ⟨aE,m⟩:=A.pO [0] [1,2,3];refine oA ?_;refine LW.cl (qZ K (m.rB q) m.st) ?_;rintro _ a7 ⟨rfl,hs⟩;have aa:=m.back _ _ hs;refine T ?_;refine LW.bi [-1,4] aa ?_;intro aH aN a8 ap hf;refine T ?_;intro bo aC h a9 B;have ⟨bp,O,h⟩:=ob h;obtain ⟨aK,aY,hae,aw,ay⟩:=B.iu (α:=Int) (i:=3) rfl O;subst hae;refine go ?_;have ⟨bq,R,h⟩:=ob h;refine T ?_;refine LW.se 0 B 3 O R (hM:=xn) fun ba ab=>?_;refine T ?_;rw [iv (oi R)] at ab;exact rt
     refine oA ?_;refine LW.bi [-1,4] A ?_;intro aI aO bb ac hf;refine T ?_;obtain ⟨aF,n⟩:=ac.pO [1] [0,2,3,4];refine jP 3 ?_;refine LW.cl (qZ K (n.rB q) n.st) ?_;rintro _ bc ⟨rfl,hs⟩;have aq:=n.back _ _ hs;refine T ?_;intro br aD h bd C;have ⟨bs,U,h⟩:=ob h;obtain ⟨aL,aZ,hae,ax,az⟩:=C.iu (α:=Int) (i:=3) rfl U;subst hae;refine go ?_;have ⟨bt,V,h⟩:=ob h;refine T ?_;refine LW.se 0 C 3 U V (hM:=xn) fun be ad=>?_;refine T ?_;rw [iv (oi V)] at ad;exact rt
   refine kS [0,2,3,26] fun e=>?_;refine gc h ?_ ?_<;>intro _ h
   · refine gb h fun bu ai h=>?_;refine LW.kX (M:=[]) (L:=[bx z 177 [vS g k.b.length j,vI X.2.i,vI X.2.h],bx Z 39 [vS ak aj.1.so.length am],sl ak am aj.1.so,bx Y 39 [vS none 0 0]]) (vs:=#[vI 0]) (i:=2) oL rfl (by kernel_rfl) rfl rfl ai I rfl (fun w G hG=>by cases (show G=[] from hG);exact ⟨rfl,rfl⟩) rfl rfl ?_;intro a0 aJ aP bf ar hf;refine T ?_;intro bg au;exact rt
   exact rt
 rintro e bj ⟨d,f,hE,av⟩;obtain ⟨e,rfl⟩:=hE.out;have h:=an;refine T ?_;intro bk H;replace h:=oi h;subst h;exact And.intro trivial ⟨_,lk.one (iq.b H 3 rfl zI rfl rfl),d,f,rfl,H.pk [2,0]⟩
instance k_214:Ct prog 214:=⟨by kernel_rfl,@Jf⟩
theorem J5 {w0} {F:List Nat} {N g r} (h:rJ N g=some r) {j:Nat} {d f} (n:iV (ki w0 F) w0 d f g.b) (hS:St w0 F w0 [bx j 177 [vS d g.b.length f,vI g.i,vI g.h]]) :
    g8 prog 319 #[.pointer (some ⟨j,0,none⟩)] w0 (fun v w=>v=vI r.1∧St w0 F w [bx j 177 [vS d g.b.length f,vI r.2.i,vI r.2.h]]):=by
 unfold rJ at h;refine g8.fn func319 fun e=>?_;refine T ?_;intro I q h G k;refine gc h ?_ ?_<;>intro _ h
 · refine go ?_;refine LW.bi [-1,1000000,1000001,999999] k ?_;intro B C H p hf;refine T ?_;intro J u h x l;replace h:=oi h;subst h;exact Ra ⟨rfl,l.pk [0]⟩
 refine T ?_;intro A o h z m;replace h:=oi h;subst h;exact Ra ⟨rfl,m.pk [0]⟩
instance k_319:Ct prog 319:=⟨by kernel_rfl,@J5⟩
theorem Kl {w0} {F:List Nat} {N k r} (h:uI N k=some r) {l:Nat} {g j} (Y:iV (ki w0 F) w0 g j k.b) (hS:St w0 F w0 [bx l 177 [vS g k.b.length j,vI k.i,vI k.h]]) :
    g8 prog 240 #[.pointer (some ⟨l,0,none⟩)] w0 (fun v w=>∃ q u,v=vS q r.1.length u∧St w0 F w [sl q u r.1,bx l 177 [vS g k.b.length j,vI r.2.i,vI r.2.h]]):=by
 unfold uI at h;refine g8.fn func240 fun e=>?_;refine go ?_;refine LW.b0 (α:=Int) hS ?_;intro Z aa ay R hf;refine go ?_;obtain ⟨x,z,O⟩:=ob h;refine CW.ie z 0 (fun m e wb=>∃ (d:Ad) (f:Nat),En e [(0,.pointer (some ⟨l,0,none⟩)),(3,vS d m.1.length f),(4,vI m.2.1)]∧St w0 F wb [sl d f m.1,bx l 177 [vS g k.b.length j,vI m.2.2.1,vI m.2.2.2]]) ?_ ⟨Z,aa,R.po [0,1]⟩ ?_
 · intro m e az o hM h;obtain ⟨d,f,hE,ae⟩:=hM;obtain ⟨e,rfl⟩:=hE.out;refine gc h ?_ ?_<;>intro _ h
   · refine T ?_;intro X ai h an U;refine gc h ?_ ?_<;>intro _ h
     · refine gb h fun av A h=>?_;refine LW.kX (M:=[]) (L:=[bx l 177 [vS g k.b.length j,vI X.2.i,vI X.2.h],sl d f m.1]) (vs:=#[vI m.2.1]) (i:=1) oL rfl (by kernel_rfl) rfl rfl A U rfl (fun w G hG=>by cases (show G=[] from hG);exact ⟨rfl,rfl⟩) rfl rfl ?_;intro aj ac ad ao af hf;exact rt
     exact rt
   exact rt
 rintro e ap ⟨d,f,hE,ah⟩;obtain ⟨e,rfl⟩:=hE.out;have h:=O;refine T ?_;intro n ab h aq p;refine gc h ?_ ?_<;>intro _ h
 · refine gb h fun aw B h=>?_;refine LW.kX (M:=[]) (L:=[bx l 177 [vS g k.b.length j,vI n.2.i,vI n.2.h],sl d f x.1]) (vs:=#[vI 4]) (i:=1) oL rfl (by kernel_rfl) rfl rfl B p rfl (fun w G hG=>by cases (show G=[] from hG);exact ⟨rfl,rfl⟩) rfl rfl ?_;intro ak H J ar V hf;refine go ?_;replace h:=oi h;subst h;exact Ra ⟨H,J,rfl,V.pk [1,0]⟩
 refine gc h ?_ ?_<;>intro _ h
 · refine gb h fun ax C h=>?_;refine LW.kX (M:=[]) (L:=[bx l 177 [vS g k.b.length j,vI n.2.i,vI n.2.h],sl d f x.1]) (vs:=#[vI 0]) (i:=1) oL rfl (by kernel_rfl) rfl rfl C p rfl (fun w G hG=>by cases (show G=[] from hG);exact ⟨rfl,rfl⟩) rfl rfl ?_;intro am I K au W hf;refine go ?_;replace h:=oi h;subst h;exact Ra ⟨I,K,rfl,W.pk [1,0]⟩
 refine go ?_;replace h:=oi h;subst h;exact Ra ⟨d,f,rfl,p.pk [1,0]⟩
instance k_240:Ct prog 240:=⟨by kernel_rfl,@Kl⟩
theorem J9 {w0} {F:List Nat} {N g r} (h:vM N g=some r) {j:Nat} {d f} (n:iV (ki w0 F) w0 d f g.b) (hS:St w0 F w0 [bx j 177 [vS d g.b.length f,vI g.i,vI g.h]]) :
    g8 prog 243 #[.pointer (some ⟨j,0,none⟩)] w0 (fun v w=>v=vI r.1∧St w0 F w [bx j 177 [vS d g.b.length f,vI r.2.i,vI r.2.h]]):=by
 unfold vM at h;refine g8.fn func243 fun e=>?_;refine T ?_;intro I q h G k;refine gc h ?_ ?_<;>intro _ h
 · refine go ?_;refine LW.bi [-1,29999,30000,9223372036854775807] k ?_;intro B C H p hf;refine T ?_;intro J u h x l;replace h:=oi h;subst h;exact Ra ⟨rfl,l.pk [0]⟩
 refine T ?_;intro A o h z m;replace h:=oi h;subst h;exact Ra ⟨rfl,m.pk [0]⟩
instance k_243:Ct prog 243:=⟨by kernel_rfl,@J9⟩
end Go.Kx
