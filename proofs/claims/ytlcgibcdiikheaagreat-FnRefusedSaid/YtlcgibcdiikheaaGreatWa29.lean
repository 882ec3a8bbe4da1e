import Derived.Test.YtlcgibcdiikheaaGreatWa26
import Derived.Test.YtlcgibcdiikheaaGreatWa27
namespace Go.Kx
open Go Go.RowKit Go.Proofs
open Tryz
set_option maxRecDepth 10000
set_option maxHeartbeats 8000000
set_option linter.unusedVariables false
set_option linter.unusedSimpArgs false
theorem Jz {w0 N b r} (h:tF N b=some r) {m x p} (H:x=b.ig.length) (j:rb w0 m p b.ig) {n z q} (I:z=b.PG.length) (k:rb w0 n q b.PG) {o A u} (J:A=b.PE.length) (l:rb w0 o u b.PE) :
    iq prog 351 #[.agg #[vI b.PO,vI b.Pz,vI b.box,vI b.res,vI b.iK,vI b.bh,vI b.PK,vI b.iP,vI b.iM,.bool b.mark,vS m x p,vS n z q,vS o A u]] w0 (fun v w=>v=.bool r∧St w0 [] w []):=by
 subst H I J;unfold tF at h;refine iq.fn func351 fun e=>?_;have ap:=St.start w0;refine yk ap fun aZ a0 K=>?_;refine gs ?_;obtain ⟨aA,au,az⟩:=ob h;refine CW.jn [1] [0] [(12,.bool aA)] K (h1:=?_) (h2:=?_)
 · have h:=au;refine gb h fun a3 av h=>?_;refine LW.c0 (mY av) K fun a1 L=>?_;refine gB h ?_ ?_<;>intro _ h
   · refine go ?_;cases oi h;exact L.po [0]
   refine gb h fun a4 aw h=>?_;refine go ?_;refine LW.c0 (mY aw) L fun a2 aq=>?_;refine go ?_;cases oi h;exact aq.po [0]
 intro e i g;have h:=az;refine gc h ?_ ?_<;>intro _ h
 · refine go ?_;cases h;exact fi g
 refine gc h ?_ ?_<;>intro _ h
 · refine jL [(0,vI b.PO)] #[vI b.PO,vI 0,vI 0,vI 0,vI 0,vI 0,vI 0,vI 0,vI 0,.bool false,vS none 0 0,vS none 0 0,vS none 0 0] ?_;have ⟨aO,aa,h⟩:=ob h;refine LW.c0 (zD aa rfl (g.rB j) rfl (g.rB k) rfl (g.rB l) rfl (show iR (α:=Int) (jo i []) i none 0 [] from iR.nil _ _ _ _ (Nat.zero_le _)) rfl (show iR (α:=Int) (jo i []) i none 0 [] from iR.nil _ _ _ _ (Nat.zero_le _)) rfl (show iR (α:=je) (jo i []) i none 0 [] from iR.nil _ _ _ _ (Nat.zero_le _))) g fun aB ar=>?_;refine go ?_;cases h;exact fi ar
 refine gs ?_;obtain ⟨ax,Y,an⟩:=ob h;refine CW.jn [1] [0] [(47,.bool ax)] g (h1:=?_) (h2:=?_)
 · have h:=Y;refine gb h fun aP ab h=>?_;refine LW.c0 (mY ab) g fun aC M=>?_;refine gB h ?_ ?_<;>intro _ h
   · refine go ?_;cases oi h;exact M.po [0]
   refine gb h fun aQ ac h=>?_;refine go ?_;refine LW.c0 (zx ac) M fun aD O=>?_;refine gB h ?_ ?_<;>intro _ h
   · refine go ?_;cases oi h;exact O.po [0]
   refine gb h fun aR ad h=>?_;refine go ?_;refine LW.c0 (vP ad) O fun aE R=>?_;refine gB h ?_ ?_<;>intro _ h
   · refine go ?_;cases oi h;exact R.po [0]
   refine go ?_;have ⟨aS,ae,h⟩:=ob h;refine go ?_;refine LW.c0 (mY ae) R fun aF f=>?_;refine gB h ?_ ?_<;>intro _ h
   · refine go ?_;cases oi h;exact f.po [0]
   refine gb h fun aT af h=>?_;refine go ?_;refine LW.c0 (zO af rfl (f.rB j) rfl (f.rB k) rfl (f.rB l)) f fun aG U=>?_;refine go ?_;cases oi h;exact U.po [0]
 intro e aH d;have h:=an;refine gc h ?_ ?_<;>intro _ h
 · refine go ?_;cases h;exact fi d
 refine gc h ?_ ?_<;>intro _ h
 · refine gs ?_;obtain ⟨ay,Z,ao⟩:=ob h;refine CW.jn [] [] [(2,.bool ay)] d (h1:=?_) (h2:=?_)
   · have h:=Z;refine gB h ?_ ?_<;>intro _ h
     · refine gB h ?_ ?_<;>intro _ h
       · refine go ?_;cases oi h;exact d.po []
       refine go ?_;cases oi h;exact d.po []
     refine go ?_;cases oi h;exact d.po []
   intro e aI V;have h:=ao;refine go ?_;cases h;exact fi V
 refine gB h ?_ ?_<;>intro _ h
 · refine gb h fun aU ah h=>?_;refine go ?_;refine LW.c0 (mY ah) d fun aJ B=>?_;refine gB h ?_ ?_<;>intro _ h
   · refine go ?_;have ⟨aV,ai,h⟩:=ob h;refine go ?_;refine LW.c0 (vP ai) B fun aK W=>?_;refine go ?_;cases h;exact fi W
   refine go ?_;cases h;exact fi B
 refine gb h fun aW aj h=>?_;refine go ?_;refine LW.c0 (yr aj) d fun aL C=>?_;refine gB h ?_ ?_<;>intro _ h
 · refine gb h fun aX ak h=>?_;refine go ?_;refine LW.c0 (mY ak) C fun aM G=>?_;refine go ?_;refine bH h ?_ ?_<;>intro _ h
   · refine gb h fun aY am h=>?_;refine go ?_;refine LW.c0 (vP am) G fun aN X=>?_;refine go ?_;cases h;exact fi X
   refine go ?_;cases h;exact fi G
 refine go ?_;cases h;exact fi C
instance k_351:Ct prog 351:=⟨by kernel_rfl,@Jz⟩
theorem E4 {w0 N b d r} (h:sB N b d=some r) :
    iq prog 350 #[.agg #[vI b.bh,vI b.ib,vI b.ij],.agg #[vI d.bh,vI d.ib,vI d.ij]] w0 (fun v w=>v=.bool r∧St w0 [] w []):=by
 unfold sB at h;refine iq.fn func350 fun e=>?_;have f:=St.start w0;refine T ?_;intro n p g o q i;refine T ?_;intro z l h u j;refine bH h ?_ ?_<;>intro _ h
 · refine T ?_;intro A m h x k;refine bH h ?_ ?_<;>intro _ h
   · refine gB h ?_ ?_<;>intro _ h
     · refine go ?_;refine bH h ?_ ?_<;>intro _ h
       · exact rt
       exact rt
     exact rt
   exact rt
 exact rt
instance k_350:Ct prog 350:=⟨by kernel_rfl,@E4⟩
theorem CP {w0 N l p f r} (h:qv N l p f=some r) {g j i} (k:j=l.parts.length) (q:rb w0 g i l.parts) :
    iq prog 78 #[.agg #[vI l.PQ,vS g j i],vI p,.agg #[vI f.Pz,vI f.a,vI f.b,vI f.c,vI f.d,vI f.e]] w0 (fun v w=>v=vI r∧St w0 [] w []):=by
 subst k;unfold qv at h;refine iq.fn func78 fun e=>?_;have G:=St.start w0;refine T ?_;intro X Z H Y aa m;obtain ⟨B,n,u⟩:=ob h;refine CW.jn [3] [1] [(7,vI B)] m (h1:=?_) (h2:=?_)
 · have h:=n;refine CW.block ?_;refine gs ?_;refine CW.region ?_;refine gs ?_;obtain ⟨C,o,x⟩:=ob h;refine CW.jn [3,5,7,10] [0,1] [(11,.bool C)] m (h1:=?_) (h2:=?_)
   · have h:=o;refine gc h ?_ ?_<;>intro _ h
     · exact rt
     exact rt
   intro e M I;have h:=x;refine gc h ?_ ?_<;>intro _ h
   · refine T ?_;intro V z h O J;exact rt
   refine gc h ?_ ?_<;>intro _ h
   · exact rt
   exact rt
 intro e R K;have h:=u;refine T ?_;intro W A h U L;refine gc h ?_ ?_<;>intro _ h
 · exact rt
 exact rt
instance k_78:Ct prog 78:=⟨by kernel_rfl,@CP⟩
theorem zu {w0 N j q u x r} (h:pn N j q u x=some r) {d g f} (i:g=j.parts.length) (b:rb w0 d f j.parts) :
    iq prog 157 #[.agg #[vI j.PQ,vS d g f],vI q,vI u,vI x] w0 (fun v w=>v=.bool r∧St w0 [] w []):=by
 subst i;unfold pn at h;refine iq.fn func157 fun e=>?_;have a3:=St.start w0;refine T ?_;intro bf bi o;refine dW ?_;have a4:=o.drew;refine gb h fun bj p h=>?_;obtain ⟨be,bg,a2,rfl,B,a6,a7,⟨ao,aK,ap,aL,aq,aM,ar,aN,au,aO,av,aP,rfl,R,U,V,W,X,Y⟩,H⟩:=b.idx p;refine go ?_;refine T ?_;have ⟨bb,m,h⟩:=ob h;obtain ⟨aI,a8,z,hae,C,K,M,k,I⟩:=b.idx m;cases hae;obtain ⟨aw,aQ,ax,aR,ay,aS,az,aT,aA,aU,aB,aV,rfl,Z,aa,ab,ac,ad,ae⟩:=k;refine go ?_;refine T ?_;have ⟨bc,n,h⟩:=ob h;obtain ⟨aJ,a9,A,hae,G,L,O,l,J⟩:=b.idx n;cases hae;obtain ⟨aC,aW,aD,aX,aE,aY,aF,aZ,aG,a0,aH,a1,rfl,af,ah,ai,aj,ak,am⟩:=l;refine go ?_;refine T ?_;intro bd an h ba a5;exact rt
instance k_157:Ct prog 157:=⟨by kernel_rfl,@zu⟩
theorem HB {w0 N b d r} (h:uE N b d=some r) :
    iq prog 203 #[.agg #[vI b.bh,vI b.ib,vI b.ij],.agg #[vI d.bh,vI d.ib,vI d.ij]] w0 (fun v w=>v=.tuple #[.agg #[vI r.1.bh,vI r.1.ib,vI r.1.ij],.bool r.2]∧St w0 [] w []):=by
 unfold uE at h;refine iq.fn func203 fun e=>?_;have u:=St.start w0;refine T ?_;intro aa ad x ab ae z ac af f;obtain ⟨q,g,i⟩:=ob h;refine CW.jn [2,3,4] [0,1,2] [(20,.bool q)] f (h1:=?_) (h2:=?_)
 · have h:=g;refine T ?_;intro ah I h J A;refine bH h ?_ ?_<;>intro _ h
   · exact rt
   refine T ?_;intro W m h K B;refine bH h ?_ ?_<;>intro _ h
   · exact rt
   refine T ?_;intro X n h L C Y o h M G;exact rt
 intro e O H;have h:=i;refine gc h ?_ ?_<;>intro _ h
 · refine T ?_;intro R j;exact rt
 refine T ?_;intro Z p h U k V l;exact rt
instance k_203:Ct prog 203:=⟨by kernel_rfl,@HB⟩
theorem zB {w0 N b r} (h:ri N b=some r) :
    iq prog 294 #[.agg #[vI b.bh,vI b.ib,vI b.ij]] w0 (fun v w=>∃ l m,v=.tuple #[vS l r.1.length m,.bool r.2]∧St w0 [] w [sl l m r.1]):=by
 unfold ri at h;refine iq.fn func294 fun e=>?_;have C:=St.start w0;refine T ?_;intro R U G X I h V n;refine gc h ?_ ?_<;>intro _ h
 · refine go ?_;refine LW.b0 (α:=im) n ?_;intro M O W H hf;exact rt
 refine gb h fun A q h=>?_;refine LW.mk KO rfl rfl q n rfl ?_;intro B f J o hf;refine jL [(0,.bool true),(1,vI (-1)),(2,.agg #[vI b.bh,vI b.ib,vI b.ij])] #[.bool true,vI (-1),vI b.bh,vI b.ib,vI b.ij] ?_;have ⟨L,g,h⟩:=ob h;obtain ⟨d,k,hae,x,z⟩:=o.iF (α:=im) (i:=0) rfl g;subst hae;refine go ?_;have ⟨u,j,h⟩:=ob h;refine LW.se 0 o 0 g j (hM:=uB) fun K p=>?_;refine go ?_;replace h:=oi h;subst h;exact Rc tt tt ⟨(some ⟨d,k,none⟩),f,(show (.tuple #[vS (some ⟨d,k,none⟩) A.length f,.bool true]:Value)=.tuple #[vS (some ⟨d,k,none⟩) u.length f,.bool true] by rw [iB (oi j)]),p.pk [0]⟩
instance k_294:Ct prog 294:=⟨by kernel_rfl,@zB⟩
theorem zz {w0} {F:List Nat} {N o r} (h:qQ N o=some r) {z:Nat} {d f} (C:iR (jo w0 F) w0 d f o.b) (hS:St w0 F w0 [bx z 177 [vS d o.b.length f,vI o.i,vI o.h]]) :
    iq prog 302 #[.pointer (some ⟨z,0,none⟩)] w0 (fun v w=>∃ g k, ∃ j l,v=.agg #[vS g r.1.PB.PA.length k,vS j r.1.own.length l,vI r.1.kh.bh,vI r.1.kh.ib,vI r.1.kh.ij]∧St w0 F w [sl g k r.1.PB.PA,sl j l r.1.own,bx z 177 [vS d o.b.length f,vI r.2.i,vI r.2.h]]):=by
 unfold qQ at h;refine iq.fn func302 fun e=>?_;refine T ?_;intro Y Z I B O h u x aa J p R h U K m G h V L n H h W M;refine LW.bd [(0,vI p.1),(1,vI m.1),(2,vI n.1)] #[vI p.1,vI m.1,vI n.1] ?_;refine LW.bd [(0,.agg #[vS u B.1.PA.length x]),(2,.agg #[vI p.1,vI m.1,vI n.1])] #[vS u B.1.PA.length x,vS none 0 0,vI p.1,vI m.1,vI n.1] ?_;refine T ?_;intro X A;replace h:=oi h;subst h;have q:=A.nil (α:=Int);exact And.intro trivial ⟨_,kI.one (iD.b q 3 rfl LH rfl rfl),u,x,none,0,rfl,q.pk [2,0,1]⟩
instance k_302:Ct prog 302:=⟨by kernel_rfl,@zz⟩
theorem JO {w0} {F:List Nat} {N k r} (h:tQ N k=some r) {z:Nat} {g j} (q:iR (jo w0 F) w0 g j k.b) (hS:St w0 F w0 [bx z 177 [vS g k.b.length j,vI k.i,vI k.h]]) :
    iq prog 214 #[.pointer (some ⟨z,0,none⟩)] w0 (fun v w=>∃ o p,v=.agg #[vS o r.1.PA.length p]∧St w0 F w [sl o p r.1.PA,bx z 177 [vS g k.b.length j,vI r.2.i,vI r.2.h]]):=by
 unfold tQ at h;refine iq.fn func214 fun e=>?_;refine T ?_;intro Y bv aQ aj aX h ak am bw aR Z a1 aS a2 aT X aA h a3 I;obtain ⟨x,ah,an⟩:=ob h;refine CW.cut (fun e wb=>∃ (d:Ad) (f:Nat),En e [(0,.pointer (some ⟨z,0,none⟩)),(2,.pointer (some ⟨Y,0,none⟩)),(3,.pointer (some ⟨Z,0,none⟩))]∧St w0 F wb [bx z 177 [vS g k.b.length j,vI x.2.1,vI x.2.2],bx Z 39 [vS d x.1.length f],sl d f x.1,bx Y 39 [vS none 0 0]]) ?_ ?_
 · have h:=ah;refine gc h ?_ ?_<;>intro _ h
   · refine dW ?_;have aU:=I.drew;refine T ?_;intro bl aB h a4 ao;have ⟨bm,J,h⟩:=ob h;obtain ⟨W,aG,aM,ae,af,aV⟩:=ao.uN (α:=Int) 2 rfl J;refine AW.u (i:=4) rfl (by kernel_rfl) rfl rfl (iQ.sub (α:=Int) (l:=aj.1.PA) underlying37 GB rfl uv (uF rfl) J W ae af) ?_;refine T ?_;intro a5 aW;exact rt
   refine gc h ?_ ?_<;>intro _ h
   · refine dW ?_;have A:=I.drew;refine gb h fun bn K h=>?_;refine AW.all (rs:=[3,5]) (by kernel_rfl) (by simp) ⟨?_,?_,trivial⟩
     · obtain ⟨aE,m⟩:=A.mc [0] [1,2,3];refine oA ?_;refine LW.cl (qW K (m.rB q) m.st) ?_;rintro _ a7 ⟨rfl,hs⟩;have aa:=m.back _ _ hs;refine T ?_;refine LW.bi [-1,4] aa ?_;intro aH aN a8 ap hf;refine T ?_;intro bo aC h a9 B;have ⟨bp,O,h⟩:=ob h;obtain ⟨aK,aY,hae,aw,ay⟩:=B.iF (α:=Int) (i:=3) rfl O;subst hae;refine go ?_;have ⟨bq,R,h⟩:=ob h;refine T ?_;refine LW.se 0 B 3 O R (hM:=uB) fun ba ab=>?_;refine T ?_;rw [iB (oi R)] at ab;exact rt
     refine oA ?_;refine LW.bi [-1,4] A ?_;intro aI aO bb ac hf;refine T ?_;obtain ⟨aF,n⟩:=ac.mc [1] [0,2,3,4];refine jP 3 ?_;refine LW.cl (qW K (n.rB q) n.st) ?_;rintro _ bc ⟨rfl,hs⟩;have aq:=n.back _ _ hs;refine T ?_;intro br aD h bd C;have ⟨bs,U,h⟩:=ob h;obtain ⟨aL,aZ,hae,ax,az⟩:=C.iF (α:=Int) (i:=3) rfl U;subst hae;refine go ?_;have ⟨bt,V,h⟩:=ob h;refine T ?_;refine LW.se 0 C 3 U V (hM:=uB) fun be ad=>?_;refine T ?_;rw [iB (oi V)] at ad;exact rt
   refine kD [0,2,3,26] fun e=>?_;refine gc h ?_ ?_<;>intro _ h
   · refine gb h fun bu ai h=>?_;refine LW.l5 (M:=[]) (L:=[bx z 177 [vS g k.b.length j,vI X.2.i,vI X.2.h],bx Z 39 [vS ak aj.1.PA.length am],sl ak am aj.1.PA,bx Y 39 [vS none 0 0]]) (vs:=#[vI 0]) (i:=2) nb rfl (by kernel_rfl) rfl rfl ai I rfl (fun w G hG=>by cases (show G=[] from hG);exact ⟨rfl,rfl⟩) rfl rfl ?_;intro a0 aJ aP bf ar hf;refine T ?_;intro bg au;exact rt
   exact rt
 rintro e bj ⟨d,f,hE,av⟩;obtain ⟨e,rfl⟩:=hE.out;have h:=an;refine T ?_;intro bk H;replace h:=oi h;subst h;exact And.intro trivial ⟨_,kI.one (iD.b H 3 rfl Ao rfl rfl),d,f,rfl,H.pk [2,0]⟩
instance k_214:Ct prog 214:=⟨by kernel_rfl,@JO⟩
theorem JC {w0} {F:List Nat} {N g r} (h:rF N g=some r) {j:Nat} {d f} (n:iR (jo w0 F) w0 d f g.b) (hS:St w0 F w0 [bx j 177 [vS d g.b.length f,vI g.i,vI g.h]]) :
    iq prog 319 #[.pointer (some ⟨j,0,none⟩)] w0 (fun v w=>v=vI r.1∧St w0 F w [bx j 177 [vS d g.b.length f,vI r.2.i,vI r.2.h]]):=by
 unfold rF at h;refine iq.fn func319 fun e=>?_;refine T ?_;intro I q h G k;refine gc h ?_ ?_<;>intro _ h
 · refine go ?_;refine LW.bi [-1,1000000,1000001,999999] k ?_;intro B C H p hf;refine T ?_;intro J u h x l;replace h:=oi h;subst h;exact Ra ⟨rfl,l.pk [0]⟩
 refine T ?_;intro A o h z m;replace h:=oi h;subst h;exact Ra ⟨rfl,m.pk [0]⟩
instance k_319:Ct prog 319:=⟨by kernel_rfl,@JC⟩
theorem Jc {w0} {F:List Nat} {N k r} (h:tX N k=some r) {l:Nat} {g j} (Y:iR (jo w0 F) w0 g j k.b) (hS:St w0 F w0 [bx l 177 [vS g k.b.length j,vI k.i,vI k.h]]) :
    iq prog 240 #[.pointer (some ⟨l,0,none⟩)] w0 (fun v w=>∃ q u,v=vS q r.1.length u∧St w0 F w [sl q u r.1,bx l 177 [vS g k.b.length j,vI r.2.i,vI r.2.h]]):=by
 unfold tX at h;refine iq.fn func240 fun e=>?_;refine go ?_;refine LW.b0 (α:=Int) hS ?_;intro Z aa ay R hf;refine go ?_;obtain ⟨x,z,O⟩:=ob h;refine CW.ie z 0 (fun m e wb=>∃ (d:Ad) (f:Nat),En e [(0,.pointer (some ⟨l,0,none⟩)),(3,vS d m.1.length f),(4,vI m.2.1)]∧St w0 F wb [sl d f m.1,bx l 177 [vS g k.b.length j,vI m.2.2.1,vI m.2.2.2]]) ?_ ⟨Z,aa,R.po [0,1]⟩ ?_
 · intro m e az o hM h;obtain ⟨d,f,hE,ae⟩:=hM;obtain ⟨e,rfl⟩:=hE.out;refine gc h ?_ ?_<;>intro _ h
   · refine T ?_;intro X ai h an U;refine gc h ?_ ?_<;>intro _ h
     · refine gb h fun av A h=>?_;refine LW.l5 (M:=[]) (L:=[bx l 177 [vS g k.b.length j,vI X.2.i,vI X.2.h],sl d f m.1]) (vs:=#[vI m.2.1]) (i:=1) nb rfl (by kernel_rfl) rfl rfl A U rfl (fun w G hG=>by cases (show G=[] from hG);exact ⟨rfl,rfl⟩) rfl rfl ?_;intro aj ac ad ao af hf;exact rt
     exact rt
   exact rt
 rintro e ap ⟨d,f,hE,ah⟩;obtain ⟨e,rfl⟩:=hE.out;have h:=O;refine T ?_;intro n ab h aq p;refine gc h ?_ ?_<;>intro _ h
 · refine gb h fun aw B h=>?_;refine LW.l5 (M:=[]) (L:=[bx l 177 [vS g k.b.length j,vI n.2.i,vI n.2.h],sl d f x.1]) (vs:=#[vI 4]) (i:=1) nb rfl (by kernel_rfl) rfl rfl B p rfl (fun w G hG=>by cases (show G=[] from hG);exact ⟨rfl,rfl⟩) rfl rfl ?_;intro ak H J ar V hf;refine go ?_;replace h:=oi h;subst h;exact Ra ⟨H,J,rfl,V.pk [1,0]⟩
 refine gc h ?_ ?_<;>intro _ h
 · refine gb h fun ax C h=>?_;refine LW.l5 (M:=[]) (L:=[bx l 177 [vS g k.b.length j,vI n.2.i,vI n.2.h],sl d f x.1]) (vs:=#[vI 0]) (i:=1) nb rfl (by kernel_rfl) rfl rfl C p rfl (fun w G hG=>by cases (show G=[] from hG);exact ⟨rfl,rfl⟩) rfl rfl ?_;intro am I K au W hf;refine go ?_;replace h:=oi h;subst h;exact Ra ⟨I,K,rfl,W.pk [1,0]⟩
 refine go ?_;replace h:=oi h;subst h;exact Ra ⟨d,f,rfl,p.pk [1,0]⟩
instance k_240:Ct prog 240:=⟨by kernel_rfl,@Jc⟩
theorem Jw {w0} {F:List Nat} {N g r} (h:vp N g=some r) {j:Nat} {d f} (n:iR (jo w0 F) w0 d f g.b) (hS:St w0 F w0 [bx j 177 [vS d g.b.length f,vI g.i,vI g.h]]) :
    iq prog 243 #[.pointer (some ⟨j,0,none⟩)] w0 (fun v w=>v=vI r.1∧St w0 F w [bx j 177 [vS d g.b.length f,vI r.2.i,vI r.2.h]]):=by
 unfold vp at h;refine iq.fn func243 fun e=>?_;refine T ?_;intro I q h G k;refine gc h ?_ ?_<;>intro _ h
 · refine go ?_;refine LW.bi [-1,29999,30000,9223372036854775807] k ?_;intro B C H p hf;refine T ?_;intro J u h x l;replace h:=oi h;subst h;exact Ra ⟨rfl,l.pk [0]⟩
 refine T ?_;intro A o h z m;replace h:=oi h;subst h;exact Ra ⟨rfl,m.pk [0]⟩
instance k_243:Ct prog 243:=⟨by kernel_rfl,@Jw⟩
end Go.Kx
