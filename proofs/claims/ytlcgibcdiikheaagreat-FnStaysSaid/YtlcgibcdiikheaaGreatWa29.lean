import Derived.Test.YtlcgibcdiikheaaGreatWa28
namespace Go.Kx
open Go Go.RowKit Go.Proofs
open Tryz
set_option maxRecDepth 10000
set_option maxHeartbeats 8000000
set_option linter.unusedVariables false
set_option linter.unusedSimpArgs false
theorem CB {w0 N r} (h:xm N=some r) :
    g8 prog 296 #[] w0 (fun v w=>∃ b d,v=.agg #[vI r.QS,vI r.Q0,vI r.QT,vS b r.gQ.length d]∧St w0 [] w [sl b d r.gQ]):=by
 unfold xm at h;refine g8.fn func296 fun e=>?_;have j:=St.start w0;refine T ?_;intro m n i;refine LW.bi [0] i ?_;intro f g o k hf;refine LW.bd [(3,vS f (([0]:List Int).length) g)] #[vI 0,vI 0,vI 0,vS f (([0]:List Int).length) g] ?_;refine T ?_;intro p l;exact rt
instance k_296:Ct prog 296:=⟨by kernel_rfl,@CB⟩
theorem HE {w0 N i r} (h:zS N i=some r) {b f d} (g:f=i.length) (j:rb w0 b d i) :
    g8 prog 11 #[vS b f d] w0 (fun v w=>v=.bool r∧St w0 [] w []):=by
 subst g;unfold zS at h;refine g8.fn func11 fun e=>?_;have k:=St.start w0;exact rt
instance k_11:Ct prog 11:=⟨by kernel_rfl,@HE⟩
theorem Kf {w0 N f r} (h:ug N f=some r) {b g d} (j:g=f.length) (k:rb w0 b d f) :
    g8 prog 67 #[vS b g d] w0 (fun v w=>∃ l,v=.pointer (some ⟨l,0,none⟩)∧St w0 [] w [bx l 177 [vS b f.length d,vI r.i,vI r.h]]):=by
 subst j;unfold ug at h;refine g8.fn func67 fun e=>?_;have z:=St.start w0;refine go ?_;obtain ⟨m,n,q⟩:=ob h;refine CW.mono (CW.lb [0] [] [0,3] 0 (fun p=>[(3,vI p.1),(4,vI p.2)]) z n (hb:=?_)) ?_
 · intro p e aa o A h;refine gs ?_;obtain ⟨L,B,H⟩:=ob h;refine CW.jn [0,3,4] [] [(15,.bool L)] A (h1:=?_) (h2:=?_)
   · have h:=B;refine gB h ?_ ?_<;>intro _ h
     · exact rt
     exact rt
   intro e ab R;have h:=H;refine gc h ?_ ?_<;>intro _ h
   · refine gb h fun ac C h=>?_;obtain ⟨M,X,G,rfl,I,W,K,rfl,J⟩:=k.idx C;refine go ?_;refine T ?_;refine LW.u (iM.conv underlying5 underlying3 rfl) rfl ?_;exact rt
   exact rt
 intro x e Y hM;obtain ⟨rfl,hM⟩:=hM;obtain ⟨e,rfl,U⟩:=eo hM;have h:=q;refine jX [(0,vS b f.length d),(2,vI m.1)] #[vS b f.length d,vI 0,vI m.1] ?_;refine T ?_;intro O Z V;exact rt
instance k_67:Ct prog 67:=⟨by kernel_rfl,@Kf⟩
theorem I2 {w0 N i j r} (h:wg N i j=some r) {b f d} (g:f=i.length) (k:rb w0 b d i) :
    g8 prog 118 #[vS b f d,vI j] w0 (fun v w=>v=vI r∧St w0 [] w []):=by
 subst g;unfold wg at h;refine g8.fn func118 fun e=>?_;have l:=St.start w0;refine go ?_;refine LW.u (iM.quo rfl rfl (by decide)) rfl ?_;refine gc h ?_ ?_<;>intro _ h
 · exact rt
 exact rt
instance k_118:Ct prog 118:=⟨by kernel_rfl,@I2⟩
theorem IF {w0} {F:List Nat} {N g r} (h:oo N g=some r) {l:Nat} {d f} (j:iV (ki w0 F) w0 d f g.b) (hS:St w0 F w0 [bx l 177 [vS d g.b.length f,vI g.i,vI g.h]]) :
    g8 prog 148 #[.pointer (some ⟨l,0,none⟩)] w0 (fun v w=>v=vI r.1∧St w0 F w [bx l 177 [vS d g.b.length f,vI r.2.i,vI r.2.h]]):=by
 unfold oo at h;refine g8.fn func148 fun e=>?_;refine go ?_;refine LW.u (iM.nc rfl) rfl ?_;refine go ?_;refine LW.u (iM.nc rfl) rfl ?_;refine T ?_;intro J m;refine dW ?_;have n:=m.drew;refine go ?_;refine AW.u (i:=4) rfl (by kernel_rfl) rfl rfl (iM.shr rfl rfl (by decide)) ?_;refine go ?_;refine AW.u (i:=9) rfl (by kernel_rfl) rfl rfl (iM.shr rfl rfl (by decide)) ?_;refine mo ?_;have k:=n.drew;refine gc h ?_ ?_<;>intro _ h
 · refine mo ?_;have A:=k.drew;refine gb h fun K p h=>?_;obtain ⟨H,I,z,rfl,q,B,C,rfl,x⟩:=j.idx p;refine go ?_;refine T ?_;refine AW.u (i:=11) rfl (by kernel_rfl) rfl rfl (iM.conv underlying5 underlying3 rfl) ?_;refine go ?_;refine LW.u (iM.nc rfl) rfl ?_;refine go ?_;refine LW.u (iM.nc rfl) rfl ?_;refine T ?_;intro G o;replace h:=oi h;subst h;exact Ra ⟨rfl,o.pk [0]⟩
 refine go ?_;replace h:=oi h;subst h;exact Ra ⟨rfl,k.pk [0]⟩
instance k_148:Ct prog 148:=⟨by kernel_rfl,@IF⟩
theorem Io {w0 N B r} (h:pf N B=some r) {g x j} (z:x=B.length) (A:rb w0 g j B) :
    g8 prog 329 #[vS g x j] w0 (fun v w=>∃ C H,v=vS C r.length H∧St w0 [] w [sl C H r]):=by
 subst z;unfold pf at h;refine g8.fn func329 fun e=>?_;have O:=St.start w0;refine go ?_;refine LW.b0 (α:=gE) O ?_;intro X Y aF R hf;refine go ?_;obtain ⟨az,I,K⟩:=ob h;refine CW.ie I 0 (fun u e wb=>∃ (d:Ad) (f:Nat),En e [(0,vS g B.length j),(3,vS d u.1.length f),(4,vI u.2)]∧St w0 [] wb [sl d f u.1]) ?_ ⟨X,Y,R.po [0]⟩ ?_
 · intro u e aG o hM h;obtain ⟨d,f,hE,ar⟩:=hM;obtain ⟨e,rfl⟩:=hE.out;refine gc h ?_ ?_<;>intro _ h
   · refine gb h fun aH W h=>?_;obtain ⟨am,ay,Z,rfl,aa,aw,ax,⟨ah,an,ai,ao,aj,ap,rfl,ac,ad,ae⟩,ab⟩:=A.idx W;refine go ?_;refine T ?_;intro b af h k n l p m q aB U;have V:=U.pk (M:=[sl k n b.gZ,sl l p b.QV,sl m q b.QU]++[sl d f u.1]) [0,1,2,3];have ⟨aE,J,h⟩:=ob h;refine LW.kX (M:=[sl k n b.gZ,sl l p b.QV,sl m q b.QU]) (L:=[sl d f u.1]) (vs:=#[vI b.Q3,vI b.py,vI b.box,vI b.res,vI b.iF,vI b.bh,vI b.QW,vI b.iK,vI b.iG,.bool b.mark,vS k b.gZ.length n,vS l b.QV.length p,vS m b.QU.length q]) (i:=0) L0 rfl (by kernel_rfl) rfl rfl J V rfl (fun w G hG=>⟨k,n,l,p,m,q,rfl,hG⟩) rfl rfl ?_;intro aA ak aq aC au hf;exact rt
   exact rt
 rintro e aD ⟨d,f,hE,av⟩;obtain ⟨e,rfl⟩:=hE.out;have h:=K;exact rt
instance k_329:Ct prog 329:=⟨by kernel_rfl,@Io⟩
theorem Au {w0 N m r} (h:nO N m=some r) {b f d} (g:f=m.so.length) (i:rb w0 b d m.so) :
    g8 prog 115 #[.agg #[vS b f d]] w0 (fun v w=>v=.bool r∧St w0 [] w []):=by
 subst g;unfold nO at h;refine g8.fn func115 fun e=>?_;have H:=St.start w0;refine T ?_;intro X Y n;refine gc h ?_ ?_<;>intro _ h
 · exact rt
 refine go ?_;obtain ⟨k,l,j⟩:=ob h;refine CW.mono (CW.lx [1] [0] [] 0 (fun q=>[(3,vI q)]) (RT prog f115.results (fun u=>.bool u) w0 []) n l (hb:=?_)) ?_
 · intro q e Z o I h;refine gc h ?_ ?_<;>intro _ h
   · refine gb h fun aa p h=>?_;obtain ⟨G,O,z,rfl,A,L,M,rfl,B⟩:=i.idx p;refine go ?_;refine T ?_;intro W C h U J;refine CW.fl [1,3,21] fun e=>?_;refine gc h ?_ ?_<;>intro _ h
     · exact rt
     exact rt
   exact rt
 intro x e V hM;rcases k with k | R
 · obtain ⟨rfl,hM⟩:=hM;obtain ⟨e,rfl,K⟩:=eo hM;rw [show e=iy e [] from rfl];have h:=j;exact rt
 obtain ⟨rfl,u,rfl,hM⟩:=hM;cases j;exact And.intro trivial hM
instance k_115:Ct prog 115:=⟨by kernel_rfl,@Au⟩
theorem Cv {w0 N q r} (h:qq N q=some r) {d g f} (i:g=q.length) (b:rb w0 d f q) :
    g8 prog 116 #[vS d g f] w0 (fun v w=>v=.bool r∧St w0 [] w []):=by
 subst i;unfold qq at h;refine g8.fn func116 fun e=>?_;have z:=St.start w0;refine go ?_;obtain ⟨l,n,j⟩:=ob h;refine CW.mono (CW.lx [0] [] [] 0 (fun C=>[(3,vI C)]) (RT prog f116.results (fun u=>.bool u) w0 []) z n (hb:=?_)) ?_
 · intro C e ap o k h;refine gc h ?_ ?_<;>intro _ h
   · refine gs ?_;refine CW.block ?_;refine gs ?_;obtain ⟨W,A,I⟩:=ob h;refine CW.jn [0,3] [] [(31,.bool W)] k (h1:=?_) (h2:=?_)
     · have h:=A;refine dW ?_;have Y:=k.drew;refine gb h fun aq B h=>?_;obtain ⟨ao,ae,G,rfl,J,ac,ad,rfl,M⟩:=b.idx B;refine go ?_;refine T ?_;intro am V h ai Z;refine bH h ?_ ?_<;>intro _ h
       · exact rt
       refine gB h ?_ ?_<;>intro L h
       · refine go ?_;refine T ?_;have ⟨an,p,h⟩:=ob h;obtain ⟨X,af,H,hae,K,R,U,m,O⟩:=b.idx p;cases hae;obtain rfl:=m;refine go ?_;refine T ?_;exact rt
       exact rt
     intro e aj aa;have h:=I;refine gc h ?_ ?_<;>intro _ h
     · exact rt
     exact rt
   exact rt
 intro x e ak hM;rcases l with l | ah
 · obtain ⟨rfl,hM⟩:=hM;obtain ⟨e,rfl,ab⟩:=eo hM;rw [show e=iy e [] from rfl];have h:=j;exact rt
 obtain ⟨rfl,u,rfl,hM⟩:=hM;cases j;exact And.intro trivial hM
instance k_116:Ct prog 116:=⟨by kernel_rfl,@Cv⟩
theorem Me {w0 N b r} (h:sj N b=some r) :
    g8 prog 180 #[vI b] w0 (fun v w=>v=.bool r∧St w0 [] w []):=by
 unfold sj at h;refine g8.fn func180 fun e=>?_;have d:=St.start w0;refine T ?_;intro j g h i f;exact rt
instance k_180:Ct prog 180:=⟨by kernel_rfl,@Me⟩
theorem C4 {w0 N b r} (h:mP N b=some r) :
    g8 prog 262 #[vI b] w0 (fun v w=>v=.bool r∧St w0 [] w []):=by
 unfold mP at h;refine g8.fn func262 fun e=>?_;have d:=St.start w0;refine T ?_;intro j g h i f;exact rt
instance k_262:Ct prog 262:=⟨by kernel_rfl,@C4⟩
theorem Er {w0 N b r} (h:lK N b=some r) :
    g8 prog 127 #[vI b] w0 (fun v w=>v=.bool r∧St w0 [] w []):=by
 unfold lK at h;refine g8.fn func127 fun e=>?_;have d:=St.start w0;refine T ?_;intro j g h i f;exact rt
instance k_127:Ct prog 127:=⟨by kernel_rfl,@Er⟩
theorem Iv {w0 N b r} (h:ml N b=some r) :
    g8 prog 97 #[vI b] w0 (fun v w=>v=.bool r∧St w0 [] w []):=by
 unfold ml at h;refine g8.fn func97 fun e=>?_;have d:=St.start w0;refine T ?_;intro j g h i f;exact rt
instance k_97:Ct prog 97:=⟨by kernel_rfl,@Iv⟩
theorem IN {w0 N u r} (h:sA N u=some r) {k n l} (p:n=u.length) (q:rb w0 k l u) :
    g8 prog 335 #[vS k n l] w0 (fun v w=>∃ x z,v=vS x r.length z∧St w0 [] w [sl x z r]):=by
 subst p;unfold sA at h;refine g8.fn func335 fun e=>?_;have H:=St.start w0;refine go ?_;refine LW.b0 (α:=iB) H ?_;intro R U av I hf;refine go ?_;obtain ⟨an,A,C⟩:=ob h;refine CW.ie A 0 (fun m e wb=>∃ (b:Ad) (d:Nat),En e [(0,vS k u.length l),(3,vS b m.1.length d),(4,vI m.2)]∧St w0 [] wb [sl b d m.1]) ?_ ⟨R,U,I.po [0]⟩ ?_
 · intro m e aw o hM h;obtain ⟨b,d,hE,af⟩:=hM;obtain ⟨e,rfl⟩:=hE.out;refine gc h ?_ ?_<;>intro _ h
   · refine gb h fun ax O h=>?_;obtain ⟨ac,am,V,rfl,W,aj,ak,⟨aa,ad,rfl,Y⟩,X⟩:=q.idx O;refine go ?_;refine T ?_;intro j Z h f g ap J;refine LW.bd [(0,vS f j.length g)] #[vS f j.length g] ?_;have K:=J.pk (M:=[sl f g j]++[sl b d m.1]) [0,1];have ⟨au,B,h⟩:=ob h;refine LW.kX (M:=[sl f g j]) (L:=[sl b d m.1]) (vs:=#[vS f j.length g]) (i:=0) Mu rfl (by kernel_rfl) rfl rfl B K rfl (fun w G hG=>⟨f,g,rfl,hG⟩) rfl rfl ?_;intro ao ab ae aq ah hf;exact rt
   exact rt
 rintro e ar ⟨b,d,hE,ai⟩;obtain ⟨e,rfl⟩:=hE.out;have h:=C;exact rt
instance k_335:Ct prog 335:=⟨by kernel_rfl,@IN⟩
theorem zw {w0} {F:List Nat} {N b ac r} (h:pW N b ac=some r) {f B d} (H:B=b.ag.length) {g C j} (I:C=b.gc.gQ.length) (hS:St w0 F w0 [sl f d b.ag,sl g j b.gc.gQ]) :
    g8 prog 332 #[.agg #[vS f B d,vI b.gc.QS,vI b.gc.Q0,vI b.gc.QT,vS g C j],vI ac] w0 (fun v w=>∃ o q, ∃ p u,v=.agg #[vS o r.ag.length q,vI r.gc.QS,vI r.gc.Q0,vI r.gc.QT,vS p r.gc.gQ.length u]∧St w0 F w [sl o q r.ag,sl p u r.gc.gQ]):=by
 subst H I;unfold pW at h;refine g8.fn func332 fun e=>?_;refine T ?_;intro W a8 aP X a9 z;obtain ⟨ax,ae,ai⟩:=ob h;refine CW.jn [1,2,4] [0,1,2,3] [(26,.bool ax)] z (h1:=?_) (h2:=?_)
 · have h:=ae;refine gB h ?_ ?_<;>intro _ h
   · refine gb h fun ba U h=>?_;obtain ⟨aJ,aV,hae,aU,ap⟩:=z.iu (α:=gE) (i:=2) rfl U;subst hae;refine go ?_;obtain ⟨aE,m,K⟩:=z.freeze (α:=gE) 2 rfl;obtain ⟨aK,aW,ah,hae,am,_,_,Z,an⟩:=m.j5.idx U;cases hae;obtain ⟨aF,aL,aG,aM,aH,aN,rfl,ar,au,av⟩:=Z;refine T ?_;refine bH h ?_ ?_<;>intro _ h
     · refine go ?_;refine T ?_;have aQ:=K.iJ (α:=gE) 2 rfl m;exact rt
     refine go ?_;have aR:=K.iJ (α:=gE) 2 rfl m;exact rt
   exact rt
 intro e aY O;have h:=ai;refine gs ?_;obtain ⟨x,aa,ad⟩:=ob h;refine CW.cut (fun e wb=>∃ (k:Ad) (l:Nat),En e [(2,.pointer (some ⟨W,0,none⟩)),(4,.pointer (some ⟨X,0,none⟩))]∧St w0 F wb [bx X 45 [vS none 0 0,vI 0,vI 0,vI 0,vS none 0 0],bx W 45 [vS f x.1.length d,vI b.gc.QS,vI b.gc.Q0,vI b.gc.QT,vS k x.2.length l],sl f d x.1,sl k l x.2]) ?_ ?_
 · have h:=aa;refine gc h ?_ ?_<;>intro _ h
   · refine gb h fun a5 A h=>?_;obtain ⟨J,V,hae,ao,aq⟩:=O.iu (α:=gE) (i:=2) rfl A;subst hae;refine go ?_;refine gb h fun af n h=>?_;refine LW.se 9 O 2 A n (hM:=(kR (fun w cs F hF=>by obtain ⟨ay,aB,az,aC,aA,aD,rfl,hH⟩:=hF;exact ⟨ay,aB,az,aC,aA,aD,rfl,hH⟩))) fun aZ aS=>?_;refine T ?_;intro a6 aw h a0 R;refine CW.fl [1,2,4,37] fun e=>?_;refine gc h ?_ ?_<;>intro _ h
     · refine gb h fun a7 ab h=>?_;refine LW.kX (M:=[]) (L:=[bx X 45 [vS none 0 0,vI 0,vI 0,vI 0,vS none 0 0],bx W 45 [vS (some ⟨J,V,none⟩) b.ag.length d,vI b.gc.QS,vI b.gc.Q0,vI b.gc.QT,vS g b.gc.gQ.length j],sl (some ⟨J,V,none⟩) d af,sl g j b.gc.gQ]) (vs:=#[vI ac]) (i:=3) oL rfl (by kernel_rfl) rfl rfl ab R rfl (fun w G hG=>by cases (show G=[] from hG);exact ⟨rfl,rfl⟩) rfl rfl ?_;intro aX aI aO a1 aT hf;refine T ?_;intro a2 Y;rw [iv (oi n)] at Y;exact rt
     refine go ?_;rw [iv (oi n)] at R;exact rt
   exact rt
 rintro e a3 ⟨k,l,hE,aj⟩;obtain ⟨e,rfl⟩:=hE.out;have h:=ad;refine T ?_;intro a4 ak;exact rt
instance k_332:Ct prog 332:=⟨by kernel_rfl,@zw⟩
theorem Du {w0 N k r} (h:qM N k=some r) {f i g} (j:i=k.so.length) (o:rb w0 f g k.so) :
    g8 prog 231 #[.agg #[vS f i g]] w0 (fun v w=>∃ b d,v=.agg #[vS b r.so.length d]∧St w0 [] w [sl b d r.so]):=by
 subst j;unfold qM at h;refine g8.fn func231 fun e=>?_;have p:=St.start w0;refine T ?_;intro B G q C H u n A h l m I x;refine LW.bd [(0,vS l n.length m)] #[vS l n.length m] ?_;refine T ?_;intro J z;exact rt
instance k_231:Ct prog 231:=⟨by kernel_rfl,@Du⟩
theorem Gy {w0 N b r} (h:tm N b=some r) {C L I} (W:L=b.gZ.length) (am:rb w0 C I b.gZ) {G M J} (X:M=b.QV.length) (an:rb w0 G J b.QV) {H O K} (Y:O=b.QU.length) (d:rb w0 H K b.QU) :
    g8 prog 348 #[.agg #[vI b.Q3,vI b.py,vI b.box,vI b.res,vI b.iF,vI b.bh,vI b.QW,vI b.iK,vI b.iG,.bool b.mark,vS C L I,vS G M J,vS H O K]] w0 (fun v w=>∃ f k, ∃ g n, ∃ j o,v=.agg #[vI r.Q3,vI r.py,vI r.box,vI r.res,vI r.iF,vI r.bh,vI r.QW,vI r.iK,vI r.iG,.bool r.mark,vS f r.gZ.length k,vS g r.QV.length n,vS j r.QU.length o]∧St w0 [] w [sl f k r.gZ,sl g n r.QV,sl j o r.QU]):=by
 subst W X Y;unfold tm at h;refine g8.fn func348 fun e=>?_;have a4:=St.start w0;refine T ?_;intro ad bD a5 ae bE af;obtain ⟨R,ak,ao⟩:=ob h;refine CW.cut (fun e wb=>∃ (p:Ad) (z:Nat) (q:Ad) (A:Nat) (x:Ad) (B:Nat),En e [(1,.pointer (some ⟨ad,0,none⟩)),(2,.pointer (some ⟨ae,0,none⟩))]∧St w0 [] wb [bx ae 101 [vI 0,vI 0,vI 0,vI 0,vI 0,vI 0,vI 0,vI 0,vI 0,.bool false,vS none 0 0,vS none 0 0,vS none 0 0],bx ad 101 [vI b.Q3,vI b.py,vI b.box,vI b.res,vI b.iF,vI b.bh,vI b.QW,vI b.iK,vI b.iG,.bool b.mark,vS p R.1.length z,vS q R.2.1.length A,vS x R.2.2.length B],sl p z R.1,sl q A R.2.1,sl x B R.2.2]) ?_ ?_
 · have h:=ak;refine dW ?_;have ah:=af.drew;refine gb h fun bF a8 h=>?_;refine AW.all (rs:=[2,6]) (by kernel_rfl) (by simp) ⟨?_,?_,trivial⟩
   · refine oA ?_;refine T ?_;intro aI aT a9 ai;refine AW.u (i:=10) rfl (by kernel_rfl) rfl rfl (iM.fa FF rfl) ?_;have ⟨bw,aG,h⟩:=ob h;refine AW.all (rs:=[5,6]) (by kernel_rfl) (by simp) ⟨?_,?_,trivial⟩
     · refine oA ?_;refine T ?_;intro aJ aU ba aj;refine LW.b0 (α:=jw) aj ?_;intro aK aV bb Z hf;refine T ?_;have ⟨bz,aa,h⟩:=ob h;refine T ?_;refine LW.km (l:=([]:List jw)) (m:=b.QU) vv rfl rfl (Z.rB d) aa Z (i:=0) rfl rfl ?_;intro aL aW bc a6 hf;refine T ?_;intro bd a7 be ap bf aq;exact rt
     refine oA ?_;refine LW.b0 (α:=jw) ai ?_;intro aM aX bg ar hf;refine T ?_;refine jP 5 ?_;refine T ?_;intro aN aY bi U;have ⟨bA,ab,h⟩:=ob h;refine jP 9 ?_;refine LW.km (l:=([]:List jw)) (m:=b.QU) vv rfl rfl (U.rB d) ab U (i:=1) rfl rfl ?_;intro aO aZ bj au hf;refine T ?_;intro bk av bl aw bm ax;exact rt
   refine oA ?_;refine LW.b0 (α:=jw) ah ?_;intro aP a0 bn ay hf;refine T ?_;refine jP 2 ?_;refine T ?_;intro aQ a1 bo az;refine AW.u (i:=10) rfl (by kernel_rfl) rfl rfl (iM.fa FF rfl) ?_;refine jP 5 ?_;refine T ?_;intro bB aH h aR a2 bp V;have ⟨bC,ac,h⟩:=ob h;refine jP 9 ?_;refine LW.km (l:=([]:List jw)) (m:=b.QU) vv rfl rfl (V.rB d) ac V (i:=2) rfl rfl ?_;intro aS a3 bq aA hf;refine T ?_;intro br aB bs aC bt aD;exact rt
 rintro e bu ⟨p,z,q,A,x,B,hE,aE⟩;obtain ⟨e,rfl⟩:=hE.out;have h:=ao;refine T ?_;intro bv aF;exact rt
instance k_348:Ct prog 348:=⟨by kernel_rfl,@Gy⟩
theorem wm {w0 N b r} (h:mK N b=some r) :
    g8 prog 150 #[vI b] w0 (fun v w=>v=.bool r∧St w0 [] w []):=by
 unfold mK at h;refine g8.fn func150 fun e=>?_;have d:=St.start w0;refine T ?_;intro j g h i f;exact rt
instance k_150:Ct prog 150:=⟨by kernel_rfl,@wm⟩
theorem z9 {w0 N b r} (h:oz N b=some r) :
    g8 prog 250 #[vI b] w0 (fun v w=>v=.bool r∧St w0 [] w []):=by
 unfold oz at h;refine g8.fn func250 fun e=>?_;have d:=St.start w0;refine T ?_;intro j g h i f;exact rt
instance k_250:Ct prog 250:=⟨by kernel_rfl,@z9⟩
theorem Bv {w0 N b r} (h:sF N b=some r) :
    g8 prog 162 #[vI b] w0 (fun v w=>v=.bool r∧St w0 [] w []):=by
 unfold sF at h;refine g8.fn func162 fun e=>?_;have d:=St.start w0;refine T ?_;intro j g h i f;exact rt
instance k_162:Ct prog 162:=⟨by kernel_rfl,@Bv⟩
theorem GS {w0 N m r} (h:tw N m=some r) {b f d} (g:f=m.so.length) (i:rb w0 b d m.so) :
    g8 prog 204 #[.agg #[vS b f d]] w0 (fun v w=>v=.bool r∧St w0 [] w []):=by
 subst g;unfold tw at h;refine g8.fn func204 fun e=>?_;have G:=St.start w0;refine T ?_;intro X Y n;refine go ?_;obtain ⟨k,l,j⟩:=ob h;refine CW.mono (CW.lx [1,6,7] [0] [1] 0 (fun q=>[(8,vI q)]) (RT prog f204.results (fun u=>.bool u) w0 []) n l (hb:=?_)) ?_
 · intro q e Z o H h;refine gc h ?_ ?_<;>intro _ h
   · refine gb h fun aa p h=>?_;obtain ⟨W,M,z,rfl,A,K,L,rfl,B⟩:=i.idx p;refine go ?_;refine T ?_;intro V C h R I;refine CW.fl [1,6,7,8,14] fun e=>?_;refine gc h ?_ ?_<;>intro _ h
     · exact rt
     exact rt
   exact rt
 intro x e U hM;rcases k with k | O
 · obtain ⟨rfl,hM⟩:=hM;obtain ⟨e,rfl,J⟩:=eo hM;have h:=j;exact rt
 obtain ⟨rfl,u,rfl,hM⟩:=hM;cases j;exact And.intro trivial hM
instance k_204:Ct prog 204:=⟨by kernel_rfl,@GS⟩
theorem Kk {w0 N q r} (h:vH N q=some r) {d g f} (i:g=q.length) (b:rb w0 d f q) :
    g8 prog 205 #[vS d g f] w0 (fun v w=>v=.bool r∧St w0 [] w []):=by
 subst i;unfold vH at h;refine g8.fn func205 fun e=>?_;have A:=St.start w0;refine go ?_;obtain ⟨k,n,j⟩:=ob h;refine CW.mono (CW.lx [0,5,6] [] [] 0 (fun H=>[(7,vI H)]) (RT prog f205.results (fun u=>.bool u) w0 []) A n (hb:=?_)) ?_
 · intro H e an o B h;refine gc h ?_ ?_<;>intro _ h
   · refine gb h fun ao C h=>?_;obtain ⟨ak,am,W,rfl,J,aa,ab,rfl,L⟩:=b.idx C;refine go ?_;refine T ?_;obtain ⟨G,m,z⟩:=ob h;refine CW.jn [0,5,6,7] [] [(27,.bool G)] B (h1:=?_) (h2:=?_)
     · have h:=m;refine T ?_;intro ai U h ae X;refine bH h ?_ ?_<;>intro _ h
       · exact rt
       refine gB h ?_ ?_<;>intro _ h
       · refine gb h fun aj p h=>?_;obtain ⟨V,ac,I,hae,K,O,R,l,M⟩:=b.idx p;cases hae;obtain rfl:=l;refine go ?_;refine T ?_;exact rt
       exact rt
     intro e af Y;have h:=z;refine gc h ?_ ?_<;>intro _ h
     · exact rt
     exact rt
   exact rt
 intro x e ah hM;rcases k with k | ad
 · obtain ⟨rfl,hM⟩:=hM;obtain ⟨e,rfl,Z⟩:=eo hM;rw [show e=iy e [] from rfl];have h:=j;exact rt
 obtain ⟨rfl,u,rfl,hM⟩:=hM;cases j;exact And.intro trivial hM
instance k_205:Ct prog 205:=⟨by kernel_rfl,@Kk⟩
theorem Fw {w0 N b r} (h:oO N b=some r) :
    g8 prog 247 #[vI b] w0 (fun v w=>v=.bool r∧St w0 [] w []):=by
 unfold oO at h;refine g8.fn func247 fun e=>?_;have d:=St.start w0;refine T ?_;intro j g h i f;exact rt
instance k_247:Ct prog 247:=⟨by kernel_rfl,@Fw⟩
theorem Iq {w0 N b r} (h:qv N b=some r) :
    g8 prog 100 #[vI b] w0 (fun v w=>v=.bool r∧St w0 [] w []):=by
 unfold qv at h;refine g8.fn func100 fun e=>?_;have d:=St.start w0;refine T ?_;intro j g h i f;exact rt
instance k_100:Ct prog 100:=⟨by kernel_rfl,@Iq⟩
theorem AT {w0 N i j r} (h:mN N i j=some r) {b f d} (g:f=i.length) (k:rb w0 b d i) :
    g8 prog 155 #[vS b f d,vI j] w0 (fun v w=>v=.bool r∧St w0 [] w []):=by
 subst g;unfold mN at h;refine g8.fn func155 fun e=>?_;have l:=St.start w0;refine T ?_;intro p n h o m;exact rt
instance k_155:Ct prog 155:=⟨by kernel_rfl,@AT⟩
end Go.Kx
