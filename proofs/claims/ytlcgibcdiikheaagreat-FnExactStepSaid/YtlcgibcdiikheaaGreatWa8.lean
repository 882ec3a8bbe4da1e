import Derived.Test.YtlcgibcdiikheaaGreatWa5
import Derived.Test.YtlcgibcdiikheaaGreatWa6
namespace Go.Kx
open Go Go.RowKit Go.Proofs
open Tryz
set_option maxRecDepth 10000
set_option maxHeartbeats 8000000
set_option linter.unusedVariables false
set_option linter.unusedSimpArgs false
theorem OZ {w0 N b r} (h:Aq N b=some r) {m x p} (H:x=b.pX.length) (j:rb w0 m p b.pX) {n z q} (I:z=b.Vh.length) (k:rb w0 n q b.Vh) {o A u} (J:A=b.Vf.length) (l:rb w0 o u b.Vf) :
    pY prog 351 #[.agg #[vI b.Vr,vI b.Vc,vI b.box,vI b.Vp,vI b.qx,vI b.gE,vI b.Vl,vI b.qw,vI b.qq,.bool b.Vm,vS m x p,vS n z q,vS o A u]] w0 (fun v w=>v=.bool r∧St w0 [] w []):=by
 subst H I J;unfold Aq at h;refine pY.fn func351 fun e=>?_;have ap:=St.start w0;refine C5 ap fun aZ a0 K=>?_;refine gs ?_;obtain ⟨aA,au,az⟩:=ob h;refine CW.jn [1] [0] [(12,.bool aA)] K (h1:=?_) (h2:=?_)
 · have h:=au;refine gb h fun a3 av h=>?_;refine LW.c0 (uG av) K fun a1 L=>?_;refine gB h ?_ ?_<;>intro _ h
   · refine go ?_;cases oi h;exact L.po [0]
   refine gb h fun a4 aw h=>?_;refine go ?_;refine LW.c0 (uG aw) L fun a2 aq=>?_;refine go ?_;cases oi h;exact aq.po [0]
 intro e i g;have h:=az;refine gc h ?_ ?_<;>intro _ h
 · refine go ?_;cases h;exact fi g
 refine gc h ?_ ?_<;>intro _ h
 · refine rX [(0,vI b.Vr)] #[vI b.Vr,vI 0,vI 0,vI 0,vI 0,vI 0,vI 0,vI 0,vI 0,.bool false,vS none 0 0,vS none 0 0,vS none 0 0] ?_;have ⟨aO,aa,h⟩:=ob h;refine LW.c0 (F6 aa rfl (g.rB j) rfl (g.rB k) rfl (g.rB l) rfl (show ra (α:=Int) (r7 i []) i none 0 [] from ra.nil _ _ _ _ (Nat.zero_le _)) rfl (show ra (α:=Int) (r7 i []) i none 0 [] from ra.nil _ _ _ _ (Nat.zero_le _)) rfl (show ra (α:=qM) (r7 i []) i none 0 [] from ra.nil _ _ _ _ (Nat.zero_le _))) g fun aB ar=>?_;refine go ?_;cases h;exact fi ar
 refine gs ?_;obtain ⟨ax,Y,an⟩:=ob h;refine CW.jn [1] [0] [(47,.bool ax)] g (h1:=?_) (h2:=?_)
 · have h:=Y;refine gb h fun aP ab h=>?_;refine LW.c0 (uG ab) g fun aC M=>?_;refine gB h ?_ ?_<;>intro _ h
   · refine go ?_;cases oi h;exact M.po [0]
   refine gb h fun aQ ac h=>?_;refine go ?_;refine LW.c0 (F8 ac) M fun aD O=>?_;refine gB h ?_ ?_<;>intro _ h
   · refine go ?_;cases oi h;exact O.po [0]
   refine gb h fun aR ad h=>?_;refine go ?_;refine LW.c0 (Cx ad) O fun aE R=>?_;refine gB h ?_ ?_<;>intro _ h
   · refine go ?_;cases oi h;exact R.po [0]
   refine go ?_;have ⟨aS,ae,h⟩:=ob h;refine go ?_;refine LW.c0 (uG ae) R fun aF f=>?_;refine gB h ?_ ?_<;>intro _ h
   · refine go ?_;cases oi h;exact f.po [0]
   refine gb h fun aT af h=>?_;refine go ?_;refine LW.c0 (F9 af rfl (f.rB j) rfl (f.rB k) rfl (f.rB l)) f fun aG U=>?_;refine go ?_;cases oi h;exact U.po [0]
 intro e aH d;have h:=an;refine gc h ?_ ?_<;>intro _ h
 · refine go ?_;cases h;exact fi d
 refine gc h ?_ ?_<;>intro _ h
 · refine gs ?_;obtain ⟨ay,Z,ao⟩:=ob h;refine CW.jn [] [] [(2,.bool ay)] d (h1:=?_) (h2:=?_)
   · have h:=Z;refine gB h ?_ ?_<;>intro _ h
     · refine gB h ?_ ?_<;>intro _ h
       · refine go ?_;cases oi h;exact d.po []
       refine go ?_;cases oi h;exact d.po []
     refine go ?_;cases oi h;exact d.po []
   intro e aI V;have h:=ao;refine go ?_;cases h;exact fi V
 refine gB h ?_ ?_<;>intro _ h
 · refine gb h fun aU ah h=>?_;refine go ?_;refine LW.c0 (uG ah) d fun aJ B=>?_;refine gB h ?_ ?_<;>intro _ h
   · refine go ?_;have ⟨aV,ai,h⟩:=ob h;refine go ?_;refine LW.c0 (Cx ai) B fun aK W=>?_;refine go ?_;cases h;exact fi W
   refine go ?_;cases h;exact fi B
 refine gb h fun aW aj h=>?_;refine go ?_;refine LW.c0 (EM aj) d fun aL C=>?_;refine gB h ?_ ?_<;>intro _ h
 · refine gb h fun aX ak h=>?_;refine go ?_;refine LW.c0 (uG ak) C fun aM G=>?_;refine go ?_;refine bH h ?_ ?_<;>intro _ h
   · refine gb h fun aY am h=>?_;refine go ?_;refine LW.c0 (Cx am) G fun aN X=>?_;refine go ?_;cases h;exact fi X
   refine go ?_;cases h;exact fi G
 refine go ?_;cases h;exact fi C
instance k_351:Ct prog 351:=⟨by kernel_rfl,@OZ⟩
theorem K2 {w0 N b d r} (h:zV N b d=some r) :
    pY prog 307 #[.agg #[vI b.Vp,vI b.rJ,vI b.sX,vI b.sc,vI b.Vc,vI b.sq],.agg #[vI d.gE,vI d.qa,vI d.qg]] w0 (fun v w=>v=vI r∧St w0 [] w []):=by
 unfold zV at h;refine pY.fn func307 fun e=>?_;have m:=St.start w0;refine T ?_;intro I K n J L f;obtain ⟨l,g,i⟩:=ob h;refine CW.jn [2,3] [0,1] [(13,.bool l)] f (h1:=?_) (h2:=?_)
 · have h:=g;refine T ?_;intro O z h M o;refine bH h ?_ ?_<;>intro _ h
   · exact rt
   refine T ?_;intro G j h A p;exact rt
 intro e B q;have h:=i;refine gc h ?_ ?_<;>intro _ h
 · exact rt
 refine T ?_;intro H k h C x;refine gc h ?_ ?_<;>intro _ h
 · refine go ?_;refine LW.u (qp.min rfl rfl) rfl ?_;exact rt
 refine go ?_;refine LW.u (qp.quo rfl rfl (by decide)) rfl ?_;exact rt
instance k_307:Ct prog 307:=⟨by kernel_rfl,@K2⟩
theorem KQ {w0 N b d r} (h:zT N b d=some r) :
    pY prog 350 #[.agg #[vI b.gE,vI b.qa,vI b.qg],.agg #[vI d.gE,vI d.qa,vI d.qg]] w0 (fun v w=>v=.bool r∧St w0 [] w []):=by
 unfold zT at h;refine pY.fn func350 fun e=>?_;have f:=St.start w0;refine T ?_;intro n p g o q i;refine T ?_;intro z l h u j;refine bH h ?_ ?_<;>intro _ h
 · refine T ?_;intro A m h x k;refine bH h ?_ ?_<;>intro _ h
   · refine gB h ?_ ?_<;>intro _ h
     · refine go ?_;refine bH h ?_ ?_<;>intro _ h
       · exact rt
       exact rt
     exact rt
   exact rt
 exact rt
instance k_350:Ct prog 350:=⟨by kernel_rfl,@KQ⟩
theorem IG {w0 N l p f r} (h:yb N l p f=some r) {g j i} (k:j=l.parts.length) (q:rb w0 g i l.parts) :
    pY prog 78 #[.agg #[vI l.Vo,vS g j i],vI p,.agg #[vI f.Vc,vI f.a,vI f.b,vI f.c,vI f.d,vI f.e]] w0 (fun v w=>v=vI r∧St w0 [] w []):=by
 subst k;unfold yb at h;refine pY.fn func78 fun e=>?_;have G:=St.start w0;refine T ?_;intro X Z H Y aa m;obtain ⟨B,n,u⟩:=ob h;refine CW.jn [3] [1] [(7,vI B)] m (h1:=?_) (h2:=?_)
 · have h:=n;refine CW.block ?_;refine gs ?_;refine CW.region ?_;refine gs ?_;obtain ⟨C,o,x⟩:=ob h;refine CW.jn [3,5,7,10] [0,1] [(11,.bool C)] m (h1:=?_) (h2:=?_)
   · have h:=o;refine gc h ?_ ?_<;>intro _ h
     · exact rt
     exact rt
   intro e M I;have h:=x;refine gc h ?_ ?_<;>intro _ h
   · refine T ?_;intro V z h O J;exact rt
   refine gc h ?_ ?_<;>intro _ h
   · exact rt
   exact rt
 intro e R K;have h:=u;refine T ?_;intro W A h U L;refine gc h ?_ ?_<;>intro _ h
 · exact rt
 exact rt
instance k_78:Ct prog 78:=⟨by kernel_rfl,@IG⟩
theorem FY {w0 N j q u x r} (h:w9 N j q u x=some r) {d g f} (i:g=j.parts.length) (b:rb w0 d f j.parts) :
    pY prog 157 #[.agg #[vI j.Vo,vS d g f],vI q,vI u,vI x] w0 (fun v w=>v=.bool r∧St w0 [] w []):=by
 subst i;unfold w9 at h;refine pY.fn func157 fun e=>?_;have a3:=St.start w0;refine T ?_;intro bf bi o;refine dW ?_;have a4:=o.drew;refine gb h fun bj p h=>?_;obtain ⟨be,bg,a2,rfl,B,a6,a7,⟨ao,aK,ap,aL,aq,aM,ar,aN,au,aO,av,aP,rfl,R,U,V,W,X,Y⟩,H⟩:=b.idx p;refine go ?_;refine T ?_;have ⟨bb,m,h⟩:=ob h;obtain ⟨aI,a8,z,hae,C,K,M,k,I⟩:=b.idx m;cases hae;obtain ⟨aw,aQ,ax,aR,ay,aS,az,aT,aA,aU,aB,aV,rfl,Z,aa,ab,ac,ad,ae⟩:=k;refine go ?_;refine T ?_;have ⟨bc,n,h⟩:=ob h;obtain ⟨aJ,a9,A,hae,G,L,O,l,J⟩:=b.idx n;cases hae;obtain ⟨aC,aW,aD,aX,aE,aY,aF,aZ,aG,a0,aH,a1,rfl,af,ah,ai,aj,ak,am⟩:=l;refine go ?_;refine T ?_;intro bd an h ba a5;exact rt
instance k_157:Ct prog 157:=⟨by kernel_rfl,@FY⟩
theorem M1 {w0 N b d r} (h:AU N b d=some r) :
    pY prog 203 #[.agg #[vI b.gE,vI b.qa,vI b.qg],.agg #[vI d.gE,vI d.qa,vI d.qg]] w0 (fun v w=>v=.tuple #[.agg #[vI r.1.gE,vI r.1.qa,vI r.1.qg],.bool r.2]∧St w0 [] w []):=by
 unfold AU at h;refine pY.fn func203 fun e=>?_;have u:=St.start w0;refine T ?_;intro aa ad x ab ae z ac af f;obtain ⟨q,g,i⟩:=ob h;refine CW.jn [2,3,4] [0,1,2] [(20,.bool q)] f (h1:=?_) (h2:=?_)
 · have h:=g;refine T ?_;intro ah I h J A;refine bH h ?_ ?_<;>intro _ h
   · exact rt
   refine T ?_;intro W m h K B;refine bH h ?_ ?_<;>intro _ h
   · exact rt
   refine T ?_;intro X n h L C Y o h M G;exact rt
 intro e O H;have h:=i;refine gc h ?_ ?_<;>intro _ h
 · refine T ?_;intro R j;exact rt
 refine T ?_;intro Z p h U k V l;exact rt
instance k_203:Ct prog 203:=⟨by kernel_rfl,@M1⟩
theorem Mo {w0 N B C r} (h:Cn N B C=some r) {b i f} (k:i=B.length) (m:rb w0 b f B) {d j g} (l:j=C.length) (n:rb w0 d g C) :
    pY prog 345 #[vS b i f,vS d j g] w0 (fun v w=>v=.bool r∧St w0 [] w []):=by
 subst k l;unfold Cn at h;refine pY.fn func345 fun e=>?_;have G:=St.start w0;refine gc h ?_ ?_<;>intro _ h
 · exact rt
 refine go ?_;obtain ⟨q,z,p⟩:=ob h;refine CW.mono (CW.lx [0,1] [] [] 0 (fun J=>[(5,vI J)]) (RT prog f345.results (fun u=>.bool u) w0 []) G z (hb:=?_)) ?_
 · intro J e aI o H h;refine gc h ?_ ?_<;>intro _ h
   · refine sf ?_;have av:=H.drew;refine gb h fun aJ I h=>?_;obtain ⟨aG,aH,K,rfl,M,ay,az,⟨ae,an,af,ao,ah,ap,rfl,X,Y,Z⟩,R⟩:=m.idx I;refine go ?_;refine T ?_;have ⟨aE,A,h⟩:=ob h;obtain ⟨am,aA,L,rfl,O,V,W,⟨ai,aq,aj,ar,ak,au,rfl,aa,ab,ac⟩,U⟩:=n.idx A;refine go ?_;refine T ?_;intro aF ad h aC aw;refine gc h ?_ ?_<;>intro _ h
     · exact rt
     exact rt
   exact rt
 intro x e aD hM;rcases q with q | aB
 · obtain ⟨rfl,hM⟩:=hM;obtain ⟨e,rfl,ax⟩:=eo hM;rw [show e=qy e [] from rfl];have h:=p;exact rt
 obtain ⟨rfl,u,rfl,hM⟩:=hM;cases p;exact And.intro trivial hM
instance k_345:Ct prog 345:=⟨by kernel_rfl,@Mo⟩
theorem B7 {w0} {F:List Nat} {N j q r} (h:wx N j q=some r) {b i d} (k:i=j.parts.length) (hS:St w0 F w0 [sl b d j.parts]) :
    pY prog 25 #[.agg #[vI j.Vo,vS b i d],vI q] w0 (fun v w=>v=vI r.1∧St w0 F w [sl b d r.2]):=by
 subst k;unfold wx at h;refine pY.fn func25 fun e=>?_;refine T ?_;intro z B o;have ⟨u,p,h⟩:=ob h;obtain ⟨A,g,f⟩:=vl p;obtain ⟨n,f⟩:=qN f;rw [oi f] at g n;obtain ⟨x,l⟩:=o.uj [1] [0];refine LW.cl (Ex g rfl l.st) ?_;rintro _ C ⟨rfl,hs⟩;have m:=l.back _ _ hs;refine go ?_;replace h:=oi h;subst h;rw [show j.parts.length=u.2.length from n] at m;exact Ra ⟨rfl,m.pk [0]⟩
instance k_25:Ct prog 25:=⟨by kernel_rfl,@B7⟩
theorem B4 {w0 N i j r} (h:wu N i j=some r) {b f d} (g:f=i.parts.length) (k:rb w0 b d i.parts) :
    pY prog 26 #[.agg #[vI i.Vo,vS b f d],vI j] w0 (fun v w=>v=vI r∧St w0 [] w []):=by
 subst g;unfold wu at h;refine pY.fn func26 fun e=>?_;have l:=St.start w0;refine T ?_;intro p q m x o h u n;refine gc h ?_ ?_<;>intro _ h
 · exact rt
 exact rt
instance k_26:Ct prog 26:=⟨by kernel_rfl,@B4⟩
end Go.Kx
