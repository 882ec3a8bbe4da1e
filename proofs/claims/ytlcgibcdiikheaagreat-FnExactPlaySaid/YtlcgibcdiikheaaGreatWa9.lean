import Derived.Test.YtlcgibcdiikheaaGreatWa5
import Derived.Test.YtlcgibcdiikheaaGreatWa6
import Derived.Test.YtlcgibcdiikheaaGreatWa7
namespace Go.Kx
open Go Go.RowKit Go.Proofs
open Tryz
set_option maxRecDepth 10000
set_option maxHeartbeats 8000000
set_option linter.unusedVariables false
set_option linter.unusedSimpArgs false
theorem IJ {w0 N b r} (h:tI N b=some r) {m x p} (H:x=b.gZ.length) (j:rb w0 m p b.gZ) {n z q} (I:z=b.Po.length) (k:rb w0 n q b.Po) {o A u} (J:A=b.Pk.length) (l:rb w0 o u b.Pk) :
    gV prog 351 #[.agg #[vI b.Pw,vI b.Pf,vI b.box,vI b.Pu,vI b.iz,vI b.gE,vI b.Pq,vI b.iy,vI b.im,.bool b.Ps,vS m x p,vS n z q,vS o A u]] w0 (fun v w=>v=.bool r∧St w0 [] w []):=by
 subst H I J;unfold tI at h;refine gV.fn func351 fun e=>?_;have ap:=St.start w0;refine vv ap fun aZ a0 K=>?_;refine gs ?_;obtain ⟨aA,au,az⟩:=ob h;refine CW.jn [1] [0] [(12,.bool aA)] K (h1:=?_) (h2:=?_)
 · have h:=au;refine gb h fun a3 av h=>?_;refine LW.c0 (lZ av) K fun a1 L=>?_;refine gB h ?_ ?_<;>intro _ h
   · refine go ?_;cases oi h;exact L.po [0]
   refine gb h fun a4 aw h=>?_;refine go ?_;refine LW.c0 (lZ aw) L fun a2 aq=>?_;refine go ?_;cases oi h;exact aq.po [0]
 intro e i g;have h:=az;refine gc h ?_ ?_<;>intro _ h
 · refine go ?_;cases h;exact fi g
 refine gc h ?_ ?_<;>intro _ h
 · refine jt [(0,vI b.Pw)] #[vI b.Pw,vI 0,vI 0,vI 0,vI 0,vI 0,vI 0,vI 0,vI 0,.bool false,vS none 0 0,vS none 0 0,vS none 0 0] ?_;have ⟨aO,aa,h⟩:=ob h;refine LW.c0 (z3 aa rfl (g.rB j) rfl (g.rB k) rfl (g.rB l) rfl (show iR (α:=Int) (jA i []) i none 0 [] from iR.nil _ _ _ _ (Nat.zero_le _)) rfl (show iR (α:=Int) (jA i []) i none 0 [] from iR.nil _ _ _ _ (Nat.zero_le _)) rfl (show iR (α:=iM) (jA i []) i none 0 [] from iR.nil _ _ _ _ (Nat.zero_le _))) g fun aB ar=>?_;refine go ?_;cases h;exact fi ar
 refine gs ?_;obtain ⟨ax,Y,an⟩:=ob h;refine CW.jn [1] [0] [(47,.bool ax)] g (h1:=?_) (h2:=?_)
 · have h:=Y;refine gb h fun aP ab h=>?_;refine LW.c0 (lZ ab) g fun aC M=>?_;refine gB h ?_ ?_<;>intro _ h
   · refine go ?_;cases oi h;exact M.po [0]
   refine gb h fun aQ ac h=>?_;refine go ?_;refine LW.c0 (zQ ac) M fun aD O=>?_;refine gB h ?_ ?_<;>intro _ h
   · refine go ?_;cases oi h;exact O.po [0]
   refine gb h fun aR ad h=>?_;refine go ?_;refine LW.c0 (vA ad) O fun aE R=>?_;refine gB h ?_ ?_<;>intro _ h
   · refine go ?_;cases oi h;exact R.po [0]
   refine go ?_;have ⟨aS,ae,h⟩:=ob h;refine go ?_;refine LW.c0 (lZ ae) R fun aF f=>?_;refine gB h ?_ ?_<;>intro _ h
   · refine go ?_;cases oi h;exact f.po [0]
   refine gb h fun aT af h=>?_;refine go ?_;refine LW.c0 (zU af rfl (f.rB j) rfl (f.rB k) rfl (f.rB l)) f fun aG U=>?_;refine go ?_;cases oi h;exact U.po [0]
 intro e aH d;have h:=an;refine gc h ?_ ?_<;>intro _ h
 · refine go ?_;cases h;exact fi d
 refine gc h ?_ ?_<;>intro _ h
 · refine gs ?_;obtain ⟨ay,Z,ao⟩:=ob h;refine CW.jn [] [] [(2,.bool ay)] d (h1:=?_) (h2:=?_)
   · have h:=Z;refine gB h ?_ ?_<;>intro _ h
     · refine gB h ?_ ?_<;>intro _ h
       · refine go ?_;cases oi h;exact d.po []
       refine go ?_;cases oi h;exact d.po []
     refine go ?_;cases oi h;exact d.po []
   intro e aI V;have h:=ao;refine go ?_;cases h;exact fi V
 refine gB h ?_ ?_<;>intro _ h
 · refine gb h fun aU ah h=>?_;refine go ?_;refine LW.c0 (lZ ah) d fun aJ B=>?_;refine gB h ?_ ?_<;>intro _ h
   · refine go ?_;have ⟨aV,ai,h⟩:=ob h;refine go ?_;refine LW.c0 (vA ai) B fun aK W=>?_;refine go ?_;cases h;exact fi W
   refine go ?_;cases h;exact fi B
 refine gb h fun aW aj h=>?_;refine go ?_;refine LW.c0 (yO aj) d fun aL C=>?_;refine gB h ?_ ?_<;>intro _ h
 · refine gb h fun aX ak h=>?_;refine go ?_;refine LW.c0 (lZ ak) C fun aM G=>?_;refine go ?_;refine bH h ?_ ?_<;>intro _ h
   · refine gb h fun aY am h=>?_;refine go ?_;refine LW.c0 (vA am) G fun aN X=>?_;refine go ?_;cases h;exact fi X
   refine go ?_;cases h;exact fi G
 refine go ?_;cases h;exact fi C
instance k_351:Ct prog 351:=⟨by kernel_rfl,@IJ⟩
theorem E9 {w0 N b d r} (h:sm N b d=some r) :
    gV prog 307 #[.agg #[vI b.Pu,vI b.jy,vI b.kJ,vI b.jR,vI b.Pf,vI b.ka],.agg #[vI d.gE,vI d.gX,vI d.g8]] w0 (fun v w=>v=vI r∧St w0 [] w []):=by
 unfold sm at h;refine gV.fn func307 fun e=>?_;have m:=St.start w0;refine T ?_;intro I K n J L f;obtain ⟨l,g,i⟩:=ob h;refine CW.jn [2,3] [0,1] [(13,.bool l)] f (h1:=?_) (h2:=?_)
 · have h:=g;refine T ?_;intro O z h M o;refine bH h ?_ ?_<;>intro _ h
   · exact rt
   refine T ?_;intro G j h A p;exact rt
 intro e B q;have h:=i;refine gc h ?_ ?_<;>intro _ h
 · exact rt
 refine T ?_;intro H k h C x;refine gc h ?_ ?_<;>intro _ h
 · refine go ?_;refine LW.u (il.min rfl rfl) rfl ?_;exact rt
 refine go ?_;refine LW.u (il.quo rfl rfl (by decide)) rfl ?_;exact rt
instance k_307:Ct prog 307:=⟨by kernel_rfl,@E9⟩
theorem FE {w0 N b d r} (h:sw N b d=some r) :
    gV prog 350 #[.agg #[vI b.gE,vI b.gX,vI b.g8],.agg #[vI d.gE,vI d.gX,vI d.g8]] w0 (fun v w=>v=.bool r∧St w0 [] w []):=by
 unfold sw at h;refine gV.fn func350 fun e=>?_;have f:=St.start w0;refine T ?_;intro n p g o q i;refine T ?_;intro z l h u j;refine bH h ?_ ?_<;>intro _ h
 · refine T ?_;intro A m h x k;refine bH h ?_ ?_<;>intro _ h
   · refine gB h ?_ ?_<;>intro _ h
     · refine go ?_;refine bH h ?_ ?_<;>intro _ h
       · exact rt
       exact rt
     exact rt
   exact rt
 exact rt
instance k_350:Ct prog 350:=⟨by kernel_rfl,@FE⟩
theorem C8 {w0 N l p f r} (h:qa N l p f=some r) {g j i} (k:j=l.parts.length) (q:rb w0 g i l.parts) :
    gV prog 78 #[.agg #[vI l.Pt,vS g j i],vI p,.agg #[vI f.Pf,vI f.a,vI f.b,vI f.c,vI f.d,vI f.e]] w0 (fun v w=>v=vI r∧St w0 [] w []):=by
 subst k;unfold qa at h;refine gV.fn func78 fun e=>?_;have G:=St.start w0;refine T ?_;intro X Z H Y aa m;obtain ⟨B,n,u⟩:=ob h;refine CW.jn [3] [1] [(7,vI B)] m (h1:=?_) (h2:=?_)
 · have h:=n;refine CW.block ?_;refine gs ?_;refine CW.region ?_;refine gs ?_;obtain ⟨C,o,x⟩:=ob h;refine CW.jn [3,5,7,10] [0,1] [(11,.bool C)] m (h1:=?_) (h2:=?_)
   · have h:=o;refine gc h ?_ ?_<;>intro _ h
     · exact rt
     exact rt
   intro e M I;have h:=x;refine gc h ?_ ?_<;>intro _ h
   · refine T ?_;intro V z h O J;exact rt
   refine gc h ?_ ?_<;>intro _ h
   · exact rt
   exact rt
 intro e R K;have h:=u;refine T ?_;intro W A h U L;refine gc h ?_ ?_<;>intro _ h
 · exact rt
 exact rt
instance k_78:Ct prog 78:=⟨by kernel_rfl,@C8⟩
theorem z6 {w0 N j q u x r} (h:oM N j q u x=some r) {d g f} (i:g=j.parts.length) (b:rb w0 d f j.parts) :
    gV prog 157 #[.agg #[vI j.Pt,vS d g f],vI q,vI u,vI x] w0 (fun v w=>v=.bool r∧St w0 [] w []):=by
 subst i;unfold oM at h;refine gV.fn func157 fun e=>?_;have a3:=St.start w0;refine T ?_;intro bf bi o;refine dW ?_;have a4:=o.drew;refine gb h fun bj p h=>?_;obtain ⟨be,bg,a2,rfl,B,a6,a7,⟨ao,aK,ap,aL,aq,aM,ar,aN,au,aO,av,aP,rfl,R,U,V,W,X,Y⟩,H⟩:=b.idx p;refine go ?_;refine T ?_;have ⟨bb,m,h⟩:=ob h;obtain ⟨aI,a8,z,hae,C,K,M,k,I⟩:=b.idx m;cases hae;obtain ⟨aw,aQ,ax,aR,ay,aS,az,aT,aA,aU,aB,aV,rfl,Z,aa,ab,ac,ad,ae⟩:=k;refine go ?_;refine T ?_;have ⟨bc,n,h⟩:=ob h;obtain ⟨aJ,a9,A,hae,G,L,O,l,J⟩:=b.idx n;cases hae;obtain ⟨aC,aW,aD,aX,aE,aY,aF,aZ,aG,a0,aH,a1,rfl,af,ah,ai,aj,ak,am⟩:=l;refine go ?_;refine T ?_;intro bd an h ba a5;exact rt
instance k_157:Ct prog 157:=⟨by kernel_rfl,@z6⟩
theorem GV {w0 N b d r} (h:rV N b d=some r) :
    gV prog 203 #[.agg #[vI b.gE,vI b.gX,vI b.g8],.agg #[vI d.gE,vI d.gX,vI d.g8]] w0 (fun v w=>v=.tuple #[.agg #[vI r.1.gE,vI r.1.gX,vI r.1.g8],.bool r.2]∧St w0 [] w []):=by
 unfold rV at h;refine gV.fn func203 fun e=>?_;have u:=St.start w0;refine T ?_;intro aa ad x ab ae z ac af f;obtain ⟨q,g,i⟩:=ob h;refine CW.jn [2,3,4] [0,1,2] [(20,.bool q)] f (h1:=?_) (h2:=?_)
 · have h:=g;refine T ?_;intro ah I h J A;refine bH h ?_ ?_<;>intro _ h
   · exact rt
   refine T ?_;intro W m h K B;refine bH h ?_ ?_<;>intro _ h
   · exact rt
   refine T ?_;intro X n h L C Y o h M G;exact rt
 intro e O H;have h:=i;refine gc h ?_ ?_<;>intro _ h
 · refine T ?_;intro R j;exact rt
 refine T ?_;intro Z p h U k V l;exact rt
instance k_203:Ct prog 203:=⟨by kernel_rfl,@GV⟩
theorem H0 {w0 N B C r} (h:vJ N B C=some r) {b i f} (k:i=B.length) (m:rb w0 b f B) {d j g} (l:j=C.length) (n:rb w0 d g C) :
    gV prog 345 #[vS b i f,vS d j g] w0 (fun v w=>v=.bool r∧St w0 [] w []):=by
 subst k l;unfold vJ at h;refine gV.fn func345 fun e=>?_;have G:=St.start w0;refine gc h ?_ ?_<;>intro _ h
 · exact rt
 refine go ?_;obtain ⟨q,z,p⟩:=ob h;refine CW.mono (CW.lx [0,1] [] [] 0 (fun J=>[(5,vI J)]) (RT prog f345.results (fun u=>.bool u) w0 []) G z (hb:=?_)) ?_
 · intro J e aI o H h;refine gc h ?_ ?_<;>intro _ h
   · refine jK ?_;have av:=H.drew;refine gb h fun aJ I h=>?_;obtain ⟨aG,aH,K,rfl,M,ay,az,⟨ae,an,af,ao,ah,ap,rfl,X,Y,Z⟩,R⟩:=m.idx I;refine go ?_;refine T ?_;have ⟨aE,A,h⟩:=ob h;obtain ⟨am,aA,L,rfl,O,V,W,⟨ai,aq,aj,ar,ak,au,rfl,aa,ab,ac⟩,U⟩:=n.idx A;refine go ?_;refine T ?_;intro aF ad h aC aw;refine gc h ?_ ?_<;>intro _ h
     · exact rt
     exact rt
   exact rt
 intro x e aD hM;rcases q with q | aB
 · obtain ⟨rfl,hM⟩:=hM;obtain ⟨e,rfl,ax⟩:=eo hM;rw [show e=iq e [] from rfl];have h:=p;exact rt
 obtain ⟨rfl,u,rfl,hM⟩:=hM;cases p;exact And.intro trivial hM
instance k_345:Ct prog 345:=⟨by kernel_rfl,@H0⟩
theorem yx {w0} {F:List Nat} {N j q r} (h:qd N j q=some r) {b i d} (k:i=j.parts.length) (hS:St w0 F w0 [sl b d j.parts]) :
    gV prog 25 #[.agg #[vI j.Pt,vS b i d],vI q] w0 (fun v w=>v=vI r.1∧St w0 F w [sl b d r.2]):=by
 subst k;unfold qd at h;refine gV.fn func25 fun e=>?_;refine T ?_;intro z B o;have ⟨u,p,h⟩:=ob h;obtain ⟨A,g,f⟩:=lO p;obtain ⟨n,f⟩:=iI f;rw [oi f] at g n;obtain ⟨x,l⟩:=o.k4 [1] [0];refine LW.cl (yv g rfl l.st) ?_;rintro _ C ⟨rfl,hs⟩;have m:=l.back _ _ hs;refine go ?_;replace h:=oi h;subst h;rw [show j.parts.length=u.2.length from n] at m;exact Ra ⟨rfl,m.pk [0]⟩
instance k_25:Ct prog 25:=⟨by kernel_rfl,@yx⟩
theorem vq {w0 N i j r} (h:nW N i j=some r) {b f d} (g:f=i.parts.length) (k:rb w0 b d i.parts) :
    gV prog 26 #[.agg #[vI i.Pt,vS b f d],vI j] w0 (fun v w=>v=vI r∧St w0 [] w []):=by
 subst g;unfold nW at h;refine gV.fn func26 fun e=>?_;have l:=St.start w0;refine T ?_;intro p q m x o h u n;refine gc h ?_ ?_<;>intro _ h
 · exact rt
 exact rt
instance k_26:Ct prog 26:=⟨by kernel_rfl,@vq⟩
theorem wM {w0 N n z r} (h:qK N n z=some r) {b f d} (g:f=n.length) (i:rb w0 b d n) :
    gV prog 27 #[vS b f d,vI z] w0 (fun v w=>v=vI r∧St w0 [] w []):=by
 subst g;unfold qK at h;refine gV.fn func27 fun e=>?_;have p:=St.start w0;refine gc h ?_ ?_<;>intro _ h
 · exact rt
 refine go ?_;obtain ⟨k,l,j⟩:=ob h;refine CW.mono (CW.lx [0] [] [1] 0 (fun m=>[(1,vI m.1),(5,vI m.2)]) (RT prog f27.results (fun u=>vI u) w0 []) p l (hb:=?_)) ?_
 · intro m e ad o O h;refine jw [0,1,5,15] fun e=>?_;refine gc h ?_ ?_<;>intro _ h
   · refine gb h fun ae q h=>?_;obtain ⟨ab,ac,A,rfl,B,V,W,⟨J,L,K,M,rfl,G,H⟩,C⟩:=i.idx q;refine go ?_;refine T ?_;intro aa I h Y R;refine gc h ?_ ?_<;>intro _ h
     · exact rt
     exact rt
   exact rt
 intro x e Z hM;rcases k with k | X
 · obtain ⟨rfl,hM⟩:=hM;obtain ⟨e,rfl,U⟩:=eo hM;have h:=j;exact rt
 obtain ⟨rfl,u,rfl,hM⟩:=hM;cases j;exact And.intro trivial hM
instance k_27:Ct prog 27:=⟨by kernel_rfl,@wM⟩
theorem oh {w0 N H r} (h:lX N H=some r) {g A j} (B:A=H.length) (C:rb w0 g j H) :
    gV prog 30 #[vS g A j] w0 (fun v w=>∃ I J,v=vS I r.length J∧St w0 [] w [sl I J r]):=by
 subst B;unfold lX at h;refine gV.fn func30 fun e=>?_;have W:=St.start w0;refine gb h fun aF Z h=>?_;refine LW.mk Oy rfl rfl Z W rfl ?_;intro U l aD X hf;refine go ?_;obtain ⟨az,R,V⟩:=ob h;refine CW.ie R 0 (fun d e wb=>En e [(0,vS g H.length j),(3,vS U d.1.length l),(4,vI d.2)]∧St w0 [] wb [sl U l d.1]) ?_ (X.po [0]) ?_
 · intro d e aE o hM h;obtain ⟨e,rfl,av⟩:=eo hM;refine gc h ?_ ?_<;>intro _ h
   · refine gb h fun aG aa h=>?_;obtain ⟨aq,ay,ad,rfl,ae,ax,ai,⟨ao,ar,ap,au,rfl,ak,am⟩,af⟩:=C.idx aa;refine go ?_;refine T ?_;intro f an h m p n q aA K;have ⟨ab,u,h⟩:=ob h;obtain ⟨k,b,hae,ah,aj⟩:=K.hZ (α:=iO) (i:=2) rfl u;subst hae;refine go ?_;have Y:=K.pk (M:=[sl m p f.Pe.Pd,sl n q f.own]++[sl (some ⟨k,b,none⟩) l d.1]) [0,1,2];have ⟨ac,x,h⟩:=ob h;refine LW.vl (M:=[sl m p f.Pe.Pd,sl n q f.own]) (L:=[sl (some ⟨k,b,none⟩) l d.1]) (z:=ab) (z':=f) (o:=0) Y (i:=0) rfl u K9 rfl (by show _=b+(d.2:Int).toNat * 5+0;omega) rfl rfl rfl rfl (whole (fun w G hG=>⟨m,p,n,q,rfl,hG⟩)) ?_;intro aB O hf;rw [oi x] at O;refine go ?_;replace h:=oi h;subst h;exact ⟨rfl,⟨⟨rfl,(show (vS (some ⟨k,b,none⟩) d.1.length l:Value)=vS (some ⟨k,b,none⟩) ac.length l by rw [gS (oi x)]),rfl,trivial⟩,O.pk [0]⟩⟩
   exact rt
 rintro e aC ⟨hE,aw⟩;obtain ⟨e,rfl⟩:=hE.out;have h:=V;exact rt
instance k_30:Ct prog 30:=⟨by kernel_rfl,@oh⟩
theorem zS {w0 N b r} (h:sP N b=some r) :
    gV prog 294 #[.agg #[vI b.gE,vI b.gX,vI b.g8]] w0 (fun v w=>∃ l m,v=.tuple #[vS l r.1.length m,.bool r.2]∧St w0 [] w [sl l m r.1]):=by
 unfold sP at h;refine gV.fn func294 fun e=>?_;have C:=St.start w0;refine T ?_;intro R U G X I h V n;refine gc h ?_ ?_<;>intro _ h
 · refine go ?_;refine LW.b0 (α:=g6) n ?_;intro M O W H hf;exact rt
 refine gb h fun A q h=>?_;refine LW.mk GX rfl rfl q n rfl ?_;intro B f J o hf;refine jt [(0,.bool true),(1,vI (-1)),(2,.agg #[vI b.gE,vI b.gX,vI b.g8])] #[.bool true,vI (-1),vI b.gE,vI b.gX,vI b.g8] ?_;have ⟨L,g,h⟩:=ob h;obtain ⟨d,k,hae,x,z⟩:=o.hZ (α:=g6) (i:=0) rfl g;subst hae;refine go ?_;have ⟨u,j,h⟩:=ob h;refine LW.se 0 o 0 g j (hM:=ui) fun K p=>?_;refine go ?_;replace h:=oi h;subst h;exact Rc tt tt ⟨(some ⟨d,k,none⟩),f,(show (.tuple #[vS (some ⟨d,k,none⟩) A.length f,.bool true]:Value)=.tuple #[vS (some ⟨d,k,none⟩) u.length f,.bool true] by rw [gS (oi j)]),p.pk [0]⟩
instance k_294:Ct prog 294:=⟨by kernel_rfl,@zS⟩
theorem w7 {w0 N B C r} (h:qM N B C=some r) {b i f} (k:i=B.length) (m:rb w0 b f B) {d j g} (l:j=C.length) (n:rb w0 d g C) :
    gV prog 34 #[vS b i f,vS d j g] w0 (fun v w=>v=.bool r∧St w0 [] w []):=by
 subst k l;unfold qM at h;refine gV.fn func34 fun e=>?_;have G:=St.start w0;refine gc h ?_ ?_<;>intro _ h
 · exact rt
 refine go ?_;obtain ⟨q,z,p⟩:=ob h;refine CW.mono (CW.lx [0,1] [] [] 0 (fun J=>[(5,vI J)]) (RT prog f34.results (fun u=>.bool u) w0 []) G z (hb:=?_)) ?_
 · intro J e aC o H h;refine gc h ?_ ?_<;>intro _ h
   · refine jK ?_;have an:=H.drew;refine gb h fun aD I h=>?_;obtain ⟨aA,aB,K,rfl,M,aq,ar,⟨ac,ai,ad,aj,rfl,X,Y⟩,R⟩:=m.idx I;refine go ?_;refine T ?_;have ⟨ay,A,h⟩:=ob h;obtain ⟨ah,au,L,rfl,O,V,W,⟨ae,ak,af,am,rfl,Z,aa⟩,U⟩:=n.idx A;refine go ?_;refine T ?_;intro az ab h aw ao;refine gc h ?_ ?_<;>intro _ h
     · exact rt
     exact rt
   exact rt
 intro x e ax hM;rcases q with q | av
 · obtain ⟨rfl,hM⟩:=hM;obtain ⟨e,rfl,ap⟩:=eo hM;rw [show e=iq e [] from rfl];have h:=p;exact rt
 obtain ⟨rfl,u,rfl,hM⟩:=hM;cases p;exact And.intro trivial hM
instance k_34:Ct prog 34:=⟨by kernel_rfl,@w7⟩
end Go.Kx
