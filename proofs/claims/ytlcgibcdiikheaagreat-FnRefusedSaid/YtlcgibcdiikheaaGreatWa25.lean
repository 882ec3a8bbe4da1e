import Derived.Test.YtlcgibcdiikheaaGreatWa23
import Derived.Test.YtlcgibcdiikheaaGreatWa24
namespace Go.Kx
open Go Go.RowKit Go.Proofs
open Tryz
set_option maxRecDepth 10000
set_option maxHeartbeats 8000000
set_option linter.unusedVariables false
set_option linter.unusedSimpArgs false
theorem Hf {w0 N B r} (h:oX N B=some r) {g x j} (z:x=B.length) (A:rb w0 g j B) :
    iq prog 329 #[vS g x j] w0 (fun v w=>∃ C H,v=vS C r.length H∧St w0 [] w [sl C H r]):=by
 subst z;unfold oX at h;refine iq.fn func329 fun e=>?_;have O:=St.start w0;refine go ?_;refine LW.b0 (α:=gE) O ?_;intro X Y aF R hf;refine go ?_;obtain ⟨az,I,K⟩:=ob h;refine CW.ie I 0 (fun u e wb=>∃ (d:Ad) (f:Nat),En e [(0,vS g B.length j),(3,vS d u.1.length f),(4,vI u.2)]∧St w0 [] wb [sl d f u.1]) ?_ ⟨X,Y,R.po [0]⟩ ?_
 · intro u e aG o hM h;obtain ⟨d,f,hE,ar⟩:=hM;obtain ⟨e,rfl⟩:=hE.out;refine gc h ?_ ?_<;>intro _ h
   · refine gb h fun aH W h=>?_;obtain ⟨am,ay,Z,rfl,aa,aw,ax,⟨ah,an,ai,ao,aj,ap,rfl,ac,ad,ae⟩,ab⟩:=A.idx W;refine go ?_;refine T ?_;intro b af h k n l p m q aB U;have V:=U.pk (M:=[sl k n b.ig,sl l p b.PG,sl m q b.PE]++[sl d f u.1]) [0,1,2,3];have ⟨aE,J,h⟩:=ob h;refine LW.l5 (M:=[sl k n b.ig,sl l p b.PG,sl m q b.PE]) (L:=[sl d f u.1]) (vs:=#[vI b.PO,vI b.Pz,vI b.box,vI b.res,vI b.iK,vI b.bh,vI b.PK,vI b.iP,vI b.iM,.bool b.mark,vS k b.ig.length n,vS l b.PG.length p,vS m b.PE.length q]) (i:=0) KD rfl (by kernel_rfl) rfl rfl J V rfl (fun w G hG=>⟨k,n,l,p,m,q,rfl,hG⟩) rfl rfl ?_;intro aA ak aq aC au hf;exact rt
   exact rt
 rintro e aD ⟨d,f,hE,av⟩;obtain ⟨e,rfl⟩:=hE.out;have h:=K;exact rt
instance k_329:Ct prog 329:=⟨by kernel_rfl,@Hf⟩
theorem zH {w0 N m r} (h:nq N m=some r) {b f d} (g:f=m.PA.length) (i:rb w0 b d m.PA) :
    iq prog 115 #[.agg #[vS b f d]] w0 (fun v w=>v=.bool r∧St w0 [] w []):=by
 subst g;unfold nq at h;refine iq.fn func115 fun e=>?_;have H:=St.start w0;refine T ?_;intro X Y n;refine gc h ?_ ?_<;>intro _ h
 · exact rt
 refine go ?_;obtain ⟨k,l,j⟩:=ob h;refine CW.mono (CW.lx [1] [0] [] 0 (fun q=>[(3,vI q)]) (RT prog f115.results (fun u=>.bool u) w0 []) n l (hb:=?_)) ?_
 · intro q e Z o I h;refine gc h ?_ ?_<;>intro _ h
   · refine gb h fun aa p h=>?_;obtain ⟨G,O,z,rfl,A,L,M,rfl,B⟩:=i.idx p;refine go ?_;refine T ?_;intro W C h U J;refine CW.fl [1,3,21] fun e=>?_;refine gc h ?_ ?_<;>intro _ h
     · exact rt
     exact rt
   exact rt
 intro x e V hM;rcases k with k | R
 · obtain ⟨rfl,hM⟩:=hM;obtain ⟨e,rfl,K⟩:=eo hM;rw [show e=iN e [] from rfl];have h:=j;exact rt
 obtain ⟨rfl,u,rfl,hM⟩:=hM;cases j;exact And.intro trivial hM
instance k_115:Ct prog 115:=⟨by kernel_rfl,@zH⟩
theorem Cp {w0 N q r} (h:pW N q=some r) {d g f} (i:g=q.length) (b:rb w0 d f q) :
    iq prog 116 #[vS d g f] w0 (fun v w=>v=.bool r∧St w0 [] w []):=by
 subst i;unfold pW at h;refine iq.fn func116 fun e=>?_;have z:=St.start w0;refine go ?_;obtain ⟨l,n,j⟩:=ob h;refine CW.mono (CW.lx [0] [] [] 0 (fun C=>[(3,vI C)]) (RT prog f116.results (fun u=>.bool u) w0 []) z n (hb:=?_)) ?_
 · intro C e ap o k h;refine gc h ?_ ?_<;>intro _ h
   · refine gs ?_;refine CW.block ?_;refine gs ?_;obtain ⟨W,A,I⟩:=ob h;refine CW.jn [0,3] [] [(31,.bool W)] k (h1:=?_) (h2:=?_)
     · have h:=A;refine dW ?_;have Y:=k.drew;refine gb h fun aq B h=>?_;obtain ⟨ao,ae,G,rfl,J,ac,ad,rfl,M⟩:=b.idx B;refine go ?_;refine T ?_;intro am V h ai Z;refine bH h ?_ ?_<;>intro _ h
       · exact rt
       refine gB h ?_ ?_<;>intro L h
       · refine go ?_;refine T ?_;have ⟨an,p,h⟩:=ob h;obtain ⟨X,af,H,hae,K,R,U,m,O⟩:=b.idx p;cases hae;obtain rfl:=m;refine go ?_;refine T ?_;exact rt
       exact rt
     intro e aj aa;have h:=I;refine gc h ?_ ?_<;>intro _ h
     · exact rt
     exact rt
   exact rt
 intro x e ak hM;rcases l with l | ah
 · obtain ⟨rfl,hM⟩:=hM;obtain ⟨e,rfl,ab⟩:=eo hM;rw [show e=iN e [] from rfl];have h:=j;exact rt
 obtain ⟨rfl,u,rfl,hM⟩:=hM;cases j;exact And.intro trivial hM
instance k_116:Ct prog 116:=⟨by kernel_rfl,@Cp⟩
theorem Kt {w0 N b r} (h:rT N b=some r) :
    iq prog 180 #[vI b] w0 (fun v w=>v=.bool r∧St w0 [] w []):=by
 unfold rT at h;refine iq.fn func180 fun e=>?_;have d:=St.start w0;refine T ?_;intro j g h i f;exact rt
instance k_180:Ct prog 180:=⟨by kernel_rfl,@Kt⟩
theorem BM {w0 N b r} (h:mH N b=some r) :
    iq prog 262 #[vI b] w0 (fun v w=>v=.bool r∧St w0 [] w []):=by
 unfold mH at h;refine iq.fn func262 fun e=>?_;have d:=St.start w0;refine T ?_;intro j g h i f;exact rt
instance k_262:Ct prog 262:=⟨by kernel_rfl,@BM⟩
theorem DW {w0 N b r} (h:lz N b=some r) :
    iq prog 127 #[vI b] w0 (fun v w=>v=.bool r∧St w0 [] w []):=by
 unfold lz at h;refine iq.fn func127 fun e=>?_;have d:=St.start w0;refine T ?_;intro j g h i f;exact rt
instance k_127:Ct prog 127:=⟨by kernel_rfl,@DW⟩
theorem Hs {w0 N b r} (h:mw N b=some r) :
    iq prog 97 #[vI b] w0 (fun v w=>v=.bool r∧St w0 [] w []):=by
 unfold mw at h;refine iq.fn func97 fun e=>?_;have d:=St.start w0;refine T ?_;intro j g h i f;exact rt
instance k_97:Ct prog 97:=⟨by kernel_rfl,@Hs⟩
theorem yu {w0} {F:List Nat} {N b ac r} (h:pL N b ac=some r) {f B d} (H:B=b.ag.length) {g C j} (I:C=b.gc.hZ.length) (hS:St w0 F w0 [sl f d b.ag,sl g j b.gc.hZ]) :
    iq prog 332 #[.agg #[vS f B d,vI b.gc.PD,vI b.gc.PL,vI b.gc.PF,vS g C j],vI ac] w0 (fun v w=>∃ o q, ∃ p u,v=.agg #[vS o r.ag.length q,vI r.gc.PD,vI r.gc.PL,vI r.gc.PF,vS p r.gc.hZ.length u]∧St w0 F w [sl o q r.ag,sl p u r.gc.hZ]):=by
 subst H I;unfold pL at h;refine iq.fn func332 fun e=>?_;refine T ?_;intro W a8 aP X a9 z;obtain ⟨ax,ae,ai⟩:=ob h;refine CW.jn [1,2,4] [0,1,2,3] [(26,.bool ax)] z (h1:=?_) (h2:=?_)
 · have h:=ae;refine gB h ?_ ?_<;>intro _ h
   · refine gb h fun ba U h=>?_;obtain ⟨aJ,aV,hae,aU,ap⟩:=z.iF (α:=gE) (i:=2) rfl U;subst hae;refine go ?_;obtain ⟨aE,m,K⟩:=z.freeze (α:=gE) 2 rfl;obtain ⟨aK,aW,ah,hae,am,_,_,Z,an⟩:=m.kc.idx U;cases hae;obtain ⟨aF,aL,aG,aM,aH,aN,rfl,ar,au,av⟩:=Z;refine T ?_;refine bH h ?_ ?_<;>intro _ h
     · refine go ?_;refine T ?_;have aQ:=K.i7 (α:=gE) 2 rfl m;exact rt
     refine go ?_;have aR:=K.i7 (α:=gE) 2 rfl m;exact rt
   exact rt
 intro e aY O;have h:=ai;refine gs ?_;obtain ⟨x,aa,ad⟩:=ob h;refine CW.cut (fun e wb=>∃ (k:Ad) (l:Nat),En e [(2,.pointer (some ⟨W,0,none⟩)),(4,.pointer (some ⟨X,0,none⟩))]∧St w0 F wb [bx X 45 [vS none 0 0,vI 0,vI 0,vI 0,vS none 0 0],bx W 45 [vS f x.1.length d,vI b.gc.PD,vI b.gc.PL,vI b.gc.PF,vS k x.2.length l],sl f d x.1,sl k l x.2]) ?_ ?_
 · have h:=aa;refine gc h ?_ ?_<;>intro _ h
   · refine gb h fun a5 A h=>?_;obtain ⟨J,V,hae,ao,aq⟩:=O.iF (α:=gE) (i:=2) rfl A;subst hae;refine go ?_;refine gb h fun af n h=>?_;refine LW.se 9 O 2 A n (hM:=(ko (fun w cs F hF=>by obtain ⟨ay,aB,az,aC,aA,aD,rfl,hH⟩:=hF;exact ⟨ay,aB,az,aC,aA,aD,rfl,hH⟩))) fun aZ aS=>?_;refine T ?_;intro a6 aw h a0 R;refine CW.fl [1,2,4,37] fun e=>?_;refine gc h ?_ ?_<;>intro _ h
     · refine gb h fun a7 ab h=>?_;refine LW.l5 (M:=[]) (L:=[bx X 45 [vS none 0 0,vI 0,vI 0,vI 0,vS none 0 0],bx W 45 [vS (some ⟨J,V,none⟩) b.ag.length d,vI b.gc.PD,vI b.gc.PL,vI b.gc.PF,vS g b.gc.hZ.length j],sl (some ⟨J,V,none⟩) d af,sl g j b.gc.hZ]) (vs:=#[vI ac]) (i:=3) nb rfl (by kernel_rfl) rfl rfl ab R rfl (fun w G hG=>by cases (show G=[] from hG);exact ⟨rfl,rfl⟩) rfl rfl ?_;intro aX aI aO a1 aT hf;refine T ?_;intro a2 Y;rw [iB (oi n)] at Y;exact rt
     refine go ?_;rw [iB (oi n)] at R;exact rt
   exact rt
 rintro e a3 ⟨k,l,hE,aj⟩;obtain ⟨e,rfl⟩:=hE.out;have h:=ad;refine T ?_;intro a4 ak;exact rt
instance k_332:Ct prog 332:=⟨by kernel_rfl,@yu⟩
theorem CT {w0 N k r} (h:qB N k=some r) {f i g} (j:i=k.PA.length) (o:rb w0 f g k.PA) :
    iq prog 231 #[.agg #[vS f i g]] w0 (fun v w=>∃ b d,v=.agg #[vS b r.PA.length d]∧St w0 [] w [sl b d r.PA]):=by
 subst j;unfold qB at h;refine iq.fn func231 fun e=>?_;have p:=St.start w0;refine T ?_;intro B G q C H u n A h l m I x;refine LW.bd [(0,vS l n.length m)] #[vS l n.length m] ?_;refine T ?_;intro J z;exact rt
instance k_231:Ct prog 231:=⟨by kernel_rfl,@CT⟩
theorem zA {w0 N b r} (h:qV N b=some r) {C L I} (W:L=b.ig.length) (am:rb w0 C I b.ig) {G M J} (X:M=b.PG.length) (an:rb w0 G J b.PG) {H O K} (Y:O=b.PE.length) (d:rb w0 H K b.PE) :
    iq prog 348 #[.agg #[vI b.PO,vI b.Pz,vI b.box,vI b.res,vI b.iK,vI b.bh,vI b.PK,vI b.iP,vI b.iM,.bool b.mark,vS C L I,vS G M J,vS H O K]] w0 (fun v w=>∃ f k, ∃ g n, ∃ j o,v=.agg #[vI r.PO,vI r.Pz,vI r.box,vI r.res,vI r.iK,vI r.bh,vI r.PK,vI r.iP,vI r.iM,.bool r.mark,vS f r.ig.length k,vS g r.PG.length n,vS j r.PE.length o]∧St w0 [] w [sl f k r.ig,sl g n r.PG,sl j o r.PE]):=by
 subst W X Y;unfold qV at h;refine iq.fn func348 fun e=>?_;have a4:=St.start w0;refine T ?_;intro ad bD a5 ae bE af;obtain ⟨R,ak,ao⟩:=ob h;refine CW.cut (fun e wb=>∃ (p:Ad) (z:Nat) (q:Ad) (A:Nat) (x:Ad) (B:Nat),En e [(1,.pointer (some ⟨ad,0,none⟩)),(2,.pointer (some ⟨ae,0,none⟩))]∧St w0 [] wb [bx ae 101 [vI 0,vI 0,vI 0,vI 0,vI 0,vI 0,vI 0,vI 0,vI 0,.bool false,vS none 0 0,vS none 0 0,vS none 0 0],bx ad 101 [vI b.PO,vI b.Pz,vI b.box,vI b.res,vI b.iK,vI b.bh,vI b.PK,vI b.iP,vI b.iM,.bool b.mark,vS p R.1.length z,vS q R.2.1.length A,vS x R.2.2.length B],sl p z R.1,sl q A R.2.1,sl x B R.2.2]) ?_ ?_
 · have h:=ak;refine dW ?_;have ah:=af.drew;refine gb h fun bF a8 h=>?_;refine AW.all (rs:=[2,6]) (by kernel_rfl) (by simp) ⟨?_,?_,trivial⟩
   · refine oA ?_;refine T ?_;intro aI aT a9 ai;refine AW.u (i:=10) rfl (by kernel_rfl) rfl rfl (iQ.fa DN rfl) ?_;have ⟨bw,aG,h⟩:=ob h;refine AW.all (rs:=[5,6]) (by kernel_rfl) (by simp) ⟨?_,?_,trivial⟩
     · refine oA ?_;refine T ?_;intro aJ aU ba aj;refine LW.b0 (α:=je) aj ?_;intro aK aV bb Z hf;refine T ?_;have ⟨bz,aa,h⟩:=ob h;refine T ?_;refine LW.jT (l:=([]:List je)) (m:=b.PE) rK rfl rfl (Z.rB d) aa Z (i:=0) rfl rfl ?_;intro aL aW bc a6 hf;refine T ?_;intro bd a7 be ap bf aq;exact rt
     refine oA ?_;refine LW.b0 (α:=je) ai ?_;intro aM aX bg ar hf;refine T ?_;refine jP 5 ?_;refine T ?_;intro aN aY bi U;have ⟨bA,ab,h⟩:=ob h;refine jP 9 ?_;refine LW.jT (l:=([]:List je)) (m:=b.PE) rK rfl rfl (U.rB d) ab U (i:=1) rfl rfl ?_;intro aO aZ bj au hf;refine T ?_;intro bk av bl aw bm ax;exact rt
   refine oA ?_;refine LW.b0 (α:=je) ah ?_;intro aP a0 bn ay hf;refine T ?_;refine jP 2 ?_;refine T ?_;intro aQ a1 bo az;refine AW.u (i:=10) rfl (by kernel_rfl) rfl rfl (iQ.fa DN rfl) ?_;refine jP 5 ?_;refine T ?_;intro bB aH h aR a2 bp V;have ⟨bC,ac,h⟩:=ob h;refine jP 9 ?_;refine LW.jT (l:=([]:List je)) (m:=b.PE) rK rfl rfl (V.rB d) ac V (i:=2) rfl rfl ?_;intro aS a3 bq aA hf;refine T ?_;intro br aB bs aC bt aD;exact rt
 rintro e bu ⟨p,z,q,A,x,B,hE,aE⟩;obtain ⟨e,rfl⟩:=hE.out;have h:=ao;refine T ?_;intro bv aF;exact rt
instance k_348:Ct prog 348:=⟨by kernel_rfl,@zA⟩
theorem vP {w0 N b r} (h:lT N b=some r) :
    iq prog 150 #[vI b] w0 (fun v w=>v=.bool r∧St w0 [] w []):=by
 unfold lT at h;refine iq.fn func150 fun e=>?_;have d:=St.start w0;refine T ?_;intro j g h i f;exact rt
instance k_150:Ct prog 150:=⟨by kernel_rfl,@vP⟩
theorem zx {w0 N b r} (h:lR N b=some r) :
    iq prog 250 #[vI b] w0 (fun v w=>v=.bool r∧St w0 [] w []):=by
 unfold lR at h;refine iq.fn func250 fun e=>?_;have d:=St.start w0;refine T ?_;intro j g h i f;exact rt
instance k_250:Ct prog 250:=⟨by kernel_rfl,@zx⟩
theorem H6 {w0 N b r} (h:qf N b=some r) :
    iq prog 162 #[vI b] w0 (fun v w=>v=.bool r∧St w0 [] w []):=by
 unfold qf at h;refine iq.fn func162 fun e=>?_;have d:=St.start w0;refine T ?_;intro j g h i f;exact rt
instance k_162:Ct prog 162:=⟨by kernel_rfl,@H6⟩
theorem EG {w0 N m r} (h:pf N m=some r) {b f d} (g:f=m.PA.length) (i:rb w0 b d m.PA) :
    iq prog 204 #[.agg #[vS b f d]] w0 (fun v w=>v=.bool r∧St w0 [] w []):=by
 subst g;unfold pf at h;refine iq.fn func204 fun e=>?_;have G:=St.start w0;refine T ?_;intro X Y n;refine go ?_;obtain ⟨k,l,j⟩:=ob h;refine CW.mono (CW.lx [1,6,7] [0] [1] 0 (fun q=>[(8,vI q)]) (RT prog f204.results (fun u=>.bool u) w0 []) n l (hb:=?_)) ?_
 · intro q e Z o H h;refine gc h ?_ ?_<;>intro _ h
   · refine gb h fun aa p h=>?_;obtain ⟨W,M,z,rfl,A,K,L,rfl,B⟩:=i.idx p;refine go ?_;refine T ?_;intro V C h R I;refine CW.fl [1,6,7,8,14] fun e=>?_;refine gc h ?_ ?_<;>intro _ h
     · exact rt
     exact rt
   exact rt
 intro x e U hM;rcases k with k | O
 · obtain ⟨rfl,hM⟩:=hM;obtain ⟨e,rfl,J⟩:=eo hM;have h:=j;exact rt
 obtain ⟨rfl,u,rfl,hM⟩:=hM;cases j;exact And.intro trivial hM
instance k_204:Ct prog 204:=⟨by kernel_rfl,@EG⟩
theorem Ix {w0 N q r} (h:tV N q=some r) {d g f} (i:g=q.length) (b:rb w0 d f q) :
    iq prog 205 #[vS d g f] w0 (fun v w=>v=.bool r∧St w0 [] w []):=by
 subst i;unfold tV at h;refine iq.fn func205 fun e=>?_;have A:=St.start w0;refine go ?_;obtain ⟨k,n,j⟩:=ob h;refine CW.mono (CW.lx [0,5,6] [] [] 0 (fun H=>[(7,vI H)]) (RT prog f205.results (fun u=>.bool u) w0 []) A n (hb:=?_)) ?_
 · intro H e an o B h;refine gc h ?_ ?_<;>intro _ h
   · refine gb h fun ao C h=>?_;obtain ⟨ak,am,W,rfl,J,aa,ab,rfl,L⟩:=b.idx C;refine go ?_;refine T ?_;obtain ⟨G,m,z⟩:=ob h;refine CW.jn [0,5,6,7] [] [(27,.bool G)] B (h1:=?_) (h2:=?_)
     · have h:=m;refine T ?_;intro ai U h ae X;refine bH h ?_ ?_<;>intro _ h
       · exact rt
       refine gB h ?_ ?_<;>intro _ h
       · refine gb h fun aj p h=>?_;obtain ⟨V,ac,I,hae,K,O,R,l,M⟩:=b.idx p;cases hae;obtain rfl:=l;refine go ?_;refine T ?_;exact rt
       exact rt
     intro e af Y;have h:=z;refine gc h ?_ ?_<;>intro _ h
     · exact rt
     exact rt
   exact rt
 intro x e ah hM;rcases k with k | ad
 · obtain ⟨rfl,hM⟩:=hM;obtain ⟨e,rfl,Z⟩:=eo hM;rw [show e=iN e [] from rfl];have h:=j;exact rt
 obtain ⟨rfl,u,rfl,hM⟩:=hM;cases j;exact And.intro trivial hM
instance k_205:Ct prog 205:=⟨by kernel_rfl,@Ix⟩
theorem Et {w0 N b r} (h:nF N b=some r) :
    iq prog 247 #[vI b] w0 (fun v w=>v=.bool r∧St w0 [] w []):=by
 unfold nF at h;refine iq.fn func247 fun e=>?_;have d:=St.start w0;refine T ?_;intro j g h i f;exact rt
instance k_247:Ct prog 247:=⟨by kernel_rfl,@Et⟩
theorem GZ {w0 N b r} (h:nt N b=some r) :
    iq prog 100 #[vI b] w0 (fun v w=>v=.bool r∧St w0 [] w []):=by
 unfold nt at h;refine iq.fn func100 fun e=>?_;have d:=St.start w0;refine T ?_;intro j g h i f;exact rt
instance k_100:Ct prog 100:=⟨by kernel_rfl,@GZ⟩
theorem zY {w0 N i j r} (h:ll N i j=some r) {b f d} (g:f=i.length) (k:rb w0 b d i) :
    iq prog 155 #[vS b f d,vI j] w0 (fun v w=>v=.bool r∧St w0 [] w []):=by
 subst g;unfold ll at h;refine iq.fn func155 fun e=>?_;have l:=St.start w0;refine T ?_;intro p n h o m;exact rt
instance k_155:Ct prog 155:=⟨by kernel_rfl,@zY⟩
theorem zD {w0 N b d r} (h:sQ N b d=some r) {f z m} (I:z=b.ig.length) (R:rb w0 f m b.ig) {g A n} (J:A=b.PG.length) (U:rb w0 g n b.PG) {i B o} (K:B=b.PE.length) (V:rb w0 i o b.PE) {j C p} (L:C=d.ig.length) (W:rb w0 j p d.ig) {k G q} (M:G=d.PG.length) (X:rb w0 k q d.PG) {l H x} (O:H=d.PE.length) (Y:rb w0 l x d.PE) :
    iq prog 357 #[.agg #[vI b.PO,vI b.Pz,vI b.box,vI b.res,vI b.iK,vI b.bh,vI b.PK,vI b.iP,vI b.iM,.bool b.mark,vS f z m,vS g A n,vS i B o],.agg #[vI d.PO,vI d.Pz,vI d.box,vI d.res,vI d.iK,vI d.bh,vI d.PK,vI d.iP,vI d.iM,.bool d.mark,vS j C p,vS k G q,vS l H x]] w0 (fun v w=>v=.bool r∧St w0 [] w []):=by
 subst I J K L M O;unfold sQ at h;refine iq.fn func357 fun e=>?_;have ac:=St.start w0;refine T ?_;intro aq au ad ar av ae;refine gB h ?_ ?_<;>intro _ h
 · refine gB h ?_ ?_<;>intro _ h
   · refine go ?_;refine bH h ?_ ?_<;>intro _ h
     · refine gB h ?_ ?_<;>intro _ h
       · refine gB h ?_ ?_<;>intro _ h
         · refine gB h ?_ ?_<;>intro _ h
           · refine go ?_;refine bH h ?_ ?_<;>intro _ h
             · refine gB h ?_ ?_<;>intro _ h
               · refine gB h ?_ ?_<;>intro _ h
                 · refine go ?_;refine LW.u (iQ.beq underlying4 rfl rfl) rfl ?_;refine gB h ?_ ?_<;>intro _ h
                   · refine go ?_;refine T ?_;intro an Z h aj af;refine bH h ?_ ?_<;>intro _ h
                     · refine T ?_;intro ao aa h ak ah;refine bH h ?_ ?_<;>intro _ h
                       · refine T ?_;intro ap ab h am ai;exact rt
                       exact rt
                     exact rt
                   exact rt
                 exact rt
               exact rt
             exact rt
           exact rt
         exact rt
       exact rt
     exact rt
   exact rt
 exact rt
instance k_357:Ct prog 357:=⟨by kernel_rfl,@zD⟩
theorem yr {w0 N b r} (h:lN N b=some r) :
    iq prog 226 #[vI b] w0 (fun v w=>v=.bool r∧St w0 [] w []):=by
 unfold lN at h;refine iq.fn func226 fun e=>?_;have d:=St.start w0;refine T ?_;intro j g h i f;exact rt
instance k_226:Ct prog 226:=⟨by kernel_rfl,@yr⟩
theorem FC {w0 N i j r} (h:qU N i j=some r) {b f d} (g:f=i.parts.length) (k:rb w0 b d i.parts) :
    iq prog 76 #[.agg #[vI i.PQ,vS b f d],vI j] w0 (fun v w=>v=.bool r∧St w0 [] w []):=by
 subst g;unfold qU at h;refine iq.fn func76 fun e=>?_;have l:=St.start w0;refine T ?_;intro p q m x o h u n;exact rt
instance k_76:Ct prog 76:=⟨by kernel_rfl,@FC⟩
theorem qW {w0} {F:List Nat} {N g o r} (h:iv N g o=some r) {j:Nat} {d f} (p:iR (jo w0 F) w0 d f g.b) (hS:St w0 F w0 [bx j 177 [vS d g.b.length f,vI g.i,vI g.h]]) :
    iq prog 69 #[.pointer (some ⟨j,0,none⟩),vI o] w0 (fun v w=>v=vI r.1∧St w0 F w [bx j 177 [vS d g.b.length f,vI r.2.i,vI r.2.h]]):=by
 unfold iv at h;refine iq.fn func69 fun e=>?_;refine gc h ?_ ?_<;>intro _ h
 · refine go ?_;replace h:=oi h;subst h;exact Ra ⟨rfl,hS.pk [0]⟩
 refine gc h ?_ ?_<;>intro _ h
 · refine T ?_;intro V G h U l;have ⟨_,n,h⟩:=ob h;refine LW.u (iQ.rem rfl rfl (Lx n)) rfl ?_;refine go ?_;replace h:=oi h;subst h;exact Ra ⟨rfl,l.pk [0]⟩
 refine T ?_;intro W H h I A M q h J B O x h K C R z h L m;have ⟨_,k,h⟩:=ob h;refine LW.u (iQ.rem rfl rfl (Lx k)) rfl ?_;refine go ?_;replace h:=oi h;subst h;exact Ra ⟨rfl,m.pk [0]⟩
instance k_69:Ct prog 69:=⟨by kernel_rfl,@qW⟩
theorem CH {w0 N B C r} (h:tv N B C=some r) {b i f} (k:i=B.length) (m:rb w0 b f B) {d j g} (l:j=C.length) (n:rb w0 d g C) :
    iq prog 145 #[vS b i f,vS d j g] w0 (fun v w=>v=.bool r∧St w0 [] w []):=by
 subst k l;unfold tv at h;refine iq.fn func145 fun e=>?_;have G:=St.start w0;refine gc h ?_ ?_<;>intro _ h
 · exact rt
 refine go ?_;obtain ⟨q,z,p⟩:=ob h;refine CW.mono (CW.lx [0,1] [] [] 0 (fun J=>[(5,vI J)]) (RT prog f145.results (fun u=>.bool u) w0 []) G z (hb:=?_)) ?_
 · intro J e aI o H h;refine gc h ?_ ?_<;>intro _ h
   · refine kb ?_;have av:=H.drew;refine gb h fun aJ I h=>?_;obtain ⟨aG,aH,K,rfl,M,ay,az,⟨ae,an,af,ao,ah,ap,rfl,X,Y,Z⟩,R⟩:=m.idx I;refine go ?_;refine T ?_;have ⟨aE,A,h⟩:=ob h;obtain ⟨am,aA,L,rfl,O,V,W,⟨ai,aq,aj,ar,ak,au,rfl,aa,ab,ac⟩,U⟩:=n.idx A;refine go ?_;refine T ?_;intro aF ad h aC aw;refine gc h ?_ ?_<;>intro _ h
     · exact rt
     exact rt
   exact rt
 intro x e aD hM;rcases q with q | aB
 · obtain ⟨rfl,hM⟩:=hM;obtain ⟨e,rfl,ax⟩:=eo hM;rw [show e=iN e [] from rfl];have h:=p;exact rt
 obtain ⟨rfl,u,rfl,hM⟩:=hM;cases p;exact And.intro trivial hM
instance k_145:Ct prog 145:=⟨by kernel_rfl,@CH⟩
end Go.Kx
