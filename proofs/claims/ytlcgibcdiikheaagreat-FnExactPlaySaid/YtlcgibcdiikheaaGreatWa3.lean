import Derived.Test.YtlcgibcdiikheaaGreatWa0
namespace Go.Kx
open Go Go.RowKit Go.Proofs
open Tryz
set_option maxRecDepth 10000
set_option maxHeartbeats 8000000
set_option linter.unusedVariables false
set_option linter.unusedSimpArgs false
theorem FF {w0 N i j r} (h:uP N i j=some r) {b f d} (g:f=i.Pd.length) (k:rb w0 b d i.Pd) :
    gV prog 197 #[.agg #[vS b f d],vI j] w0 (fun v w=>v=vI r∧St w0 [] w []):=by
 subst g;unfold uP at h;refine gV.fn func197 fun e=>?_;have l:=St.start w0;refine T ?_;intro p q m x o h u n;refine gc h ?_ ?_<;>intro _ h
 · exact rt
 exact rt
instance k_197:Ct prog 197:=⟨by kernel_rfl,@FF⟩
theorem Fh {w0 N k r} (h:sV N k=some r) {f i g} (j:i=k.Pd.length) (l:rb w0 f g k.Pd) :
    gV prog 200 #[.agg #[vS f i g]] w0 (fun v w=>∃ b d,v=.agg #[vS b r.Pd.length d]∧St w0 [] w [sl b d r.Pd]):=by
 subst j;unfold sV at h;refine gV.fn func200 fun e=>?_;have m:=St.start w0;refine T ?_;intro I L n J M o K O p R z h G H A q B u C x;exact rt
instance k_200:Ct prog 200:=⟨by kernel_rfl,@Fh⟩
theorem E7 {w0 N f r} (h:qm N f=some r) :
    gV prog 21 #[.agg #[vI f.Pf,vI f.Pc,vI f.ir,vI f.call.Pf,vI f.call.a,vI f.call.b,vI f.call.c,vI f.call.d,vI f.call.e]] w0 (fun v w=>v=.agg #[vI r.Pf,vI r.Pc,vI r.ir,vI r.call.Pf,vI r.call.a,vI r.call.b,vI r.call.c,vI r.call.d,vI r.call.e]∧St w0 [] w []):=by
 unfold qm at h;refine gV.fn func21 fun e=>?_;have j:=St.start w0;refine T ?_;intro C I k G J l H K m L n M o O p B i h x q z u A g;exact rt
instance k_21:Ct prog 21:=⟨by kernel_rfl,@E7⟩
theorem HJ {w0 N B r} (h:oy N B=some r) {g x j} (z:x=B.length) (A:rb w0 g j B) :
    gV prog 329 #[vS g x j] w0 (fun v w=>∃ C H,v=vS C r.length H∧St w0 [] w [sl C H r]):=by
 subst z;unfold oy at h;refine gV.fn func329 fun e=>?_;have O:=St.start w0;refine go ?_;refine LW.b0 (α:=gP) O ?_;intro X Y aF R hf;refine go ?_;obtain ⟨az,I,K⟩:=ob h;refine CW.ie I 0 (fun u e wb=>∃ (d:Ad) (f:Nat),En e [(0,vS g B.length j),(3,vS d u.1.length f),(4,vI u.2)]∧St w0 [] wb [sl d f u.1]) ?_ ⟨X,Y,R.po [0]⟩ ?_
 · intro u e aG o hM h;obtain ⟨d,f,hE,ar⟩:=hM;obtain ⟨e,rfl⟩:=hE.out;refine gc h ?_ ?_<;>intro _ h
   · refine gb h fun aH W h=>?_;obtain ⟨am,ay,Z,rfl,aa,aw,ax,⟨ah,an,ai,ao,aj,ap,rfl,ac,ad,ae⟩,ab⟩:=A.idx W;refine go ?_;refine T ?_;intro b af h k n l p m q aB U;have V:=U.pk (M:=[sl k n b.gZ,sl l p b.Po,sl m q b.Pk]++[sl d f u.1]) [0,1,2,3];have ⟨aE,J,h⟩:=ob h;refine LW.kB (M:=[sl k n b.gZ,sl l p b.Po,sl m q b.Pk]) (L:=[sl d f u.1]) (vs:=#[vI b.Pw,vI b.Pf,vI b.box,vI b.Pu,vI b.iz,vI b.gE,vI b.Pq,vI b.iy,vI b.im,.bool b.Ps,vS k b.gZ.length n,vS l b.Po.length p,vS m b.Pk.length q]) (i:=0) GZ rfl (by kernel_rfl) rfl rfl J V rfl (fun w G hG=>⟨k,n,l,p,m,q,rfl,hG⟩) rfl rfl ?_;intro aA ak aq aC au hf;exact rt
   exact rt
 rintro e aD ⟨d,f,hE,av⟩;obtain ⟨e,rfl⟩:=hE.out;have h:=K;exact rt
instance k_329:Ct prog 329:=⟨by kernel_rfl,@HJ⟩
theorem z4 {w0 N m r} (h:mA N m=some r) {b f d} (g:f=m.Pd.length) (i:rb w0 b d m.Pd) :
    gV prog 115 #[.agg #[vS b f d]] w0 (fun v w=>v=.bool r∧St w0 [] w []):=by
 subst g;unfold mA at h;refine gV.fn func115 fun e=>?_;have H:=St.start w0;refine T ?_;intro X Y n;refine gc h ?_ ?_<;>intro _ h
 · exact rt
 refine go ?_;obtain ⟨k,l,j⟩:=ob h;refine CW.mono (CW.lx [1] [0] [] 0 (fun q=>[(3,vI q)]) (RT prog f115.results (fun u=>.bool u) w0 []) n l (hb:=?_)) ?_
 · intro q e Z o I h;refine gc h ?_ ?_<;>intro _ h
   · refine gb h fun aa p h=>?_;obtain ⟨G,O,z,rfl,A,L,M,rfl,B⟩:=i.idx p;refine go ?_;refine T ?_;intro W C h U J;refine CW.fl [1,3,21] fun e=>?_;refine gc h ?_ ?_<;>intro _ h
     · exact rt
     exact rt
   exact rt
 intro x e V hM;rcases k with k | R
 · obtain ⟨rfl,hM⟩:=hM;obtain ⟨e,rfl,K⟩:=eo hM;rw [show e=iq e [] from rfl];have h:=j;exact rt
 obtain ⟨rfl,u,rfl,hM⟩:=hM;cases j;exact And.intro trivial hM
instance k_115:Ct prog 115:=⟨by kernel_rfl,@z4⟩
theorem Cx {w0 N q r} (h:pw N q=some r) {d g f} (i:g=q.length) (b:rb w0 d f q) :
    gV prog 116 #[vS d g f] w0 (fun v w=>v=.bool r∧St w0 [] w []):=by
 subst i;unfold pw at h;refine gV.fn func116 fun e=>?_;have z:=St.start w0;refine go ?_;obtain ⟨l,n,j⟩:=ob h;refine CW.mono (CW.lx [0] [] [] 0 (fun C=>[(3,vI C)]) (RT prog f116.results (fun u=>.bool u) w0 []) z n (hb:=?_)) ?_
 · intro C e ap o k h;refine gc h ?_ ?_<;>intro _ h
   · refine gs ?_;refine CW.block ?_;refine gs ?_;obtain ⟨W,A,I⟩:=ob h;refine CW.jn [0,3] [] [(31,.bool W)] k (h1:=?_) (h2:=?_)
     · have h:=A;refine dW ?_;have Y:=k.drew;refine gb h fun aq B h=>?_;obtain ⟨ao,ae,G,rfl,J,ac,ad,rfl,M⟩:=b.idx B;refine go ?_;refine T ?_;intro am V h ai Z;refine bH h ?_ ?_<;>intro _ h
       · exact rt
       refine gB h ?_ ?_<;>intro L h
       · refine go ?_;refine T ?_;have ⟨an,p,h⟩:=ob h;obtain ⟨X,af,H,hae,K,R,U,m,O⟩:=b.idx p;cases hae;obtain rfl:=m;refine go ?_;refine T ?_;exact rt
       exact rt
     intro e aj aa;have h:=I;refine gc h ?_ ?_<;>intro _ h
     · exact rt
     exact rt
   exact rt
 intro x e ak hM;rcases l with l | ah
 · obtain ⟨rfl,hM⟩:=hM;obtain ⟨e,rfl,ab⟩:=eo hM;rw [show e=iq e [] from rfl];have h:=j;exact rt
 obtain ⟨rfl,u,rfl,hM⟩:=hM;cases j;exact And.intro trivial hM
instance k_116:Ct prog 116:=⟨by kernel_rfl,@Cx⟩
theorem J4 {w0 N b r} (h:rQ N b=some r) :
    gV prog 180 #[vI b] w0 (fun v w=>v=.bool r∧St w0 [] w []):=by
 unfold rQ at h;refine gV.fn func180 fun e=>?_;have d:=St.start w0;refine T ?_;intro j g h i f;exact rt
instance k_180:Ct prog 180:=⟨by kernel_rfl,@J4⟩
theorem B3 {w0 N b r} (h:lH N b=some r) :
    gV prog 262 #[vI b] w0 (fun v w=>v=.bool r∧St w0 [] w []):=by
 unfold lH at h;refine gV.fn func262 fun e=>?_;have d:=St.start w0;refine T ?_;intro j g h i f;exact rt
instance k_262:Ct prog 262:=⟨by kernel_rfl,@B3⟩
theorem Et {w0 N b r} (h:kF N b=some r) :
    gV prog 127 #[vI b] w0 (fun v w=>v=.bool r∧St w0 [] w []):=by
 unfold kF at h;refine gV.fn func127 fun e=>?_;have d:=St.start w0;refine T ?_;intro j g h i f;exact rt
instance k_127:Ct prog 127:=⟨by kernel_rfl,@Et⟩
theorem Ih {w0 N b r} (h:lp N b=some r) :
    gV prog 97 #[vI b] w0 (fun v w=>v=.bool r∧St w0 [] w []):=by
 unfold lp at h;refine gV.fn func97 fun e=>?_;have d:=St.start w0;refine T ?_;intro j g h i f;exact rt
instance k_97:Ct prog 97:=⟨by kernel_rfl,@Ih⟩
theorem HK {w0 N u r} (h:sd N u=some r) {k n l} (p:n=u.length) (q:rb w0 k l u) :
    gV prog 335 #[vS k n l] w0 (fun v w=>∃ x z,v=vS x r.length z∧St w0 [] w [sl x z r]):=by
 subst p;unfold sd at h;refine gV.fn func335 fun e=>?_;have H:=St.start w0;refine go ?_;refine LW.b0 (α:=iC) H ?_;intro R U av I hf;refine go ?_;obtain ⟨an,A,C⟩:=ob h;refine CW.ie A 0 (fun m e wb=>∃ (b:Ad) (d:Nat),En e [(0,vS k u.length l),(3,vS b m.1.length d),(4,vI m.2)]∧St w0 [] wb [sl b d m.1]) ?_ ⟨R,U,I.po [0]⟩ ?_
 · intro m e aw o hM h;obtain ⟨b,d,hE,af⟩:=hM;obtain ⟨e,rfl⟩:=hE.out;refine gc h ?_ ?_<;>intro _ h
   · refine gb h fun ax O h=>?_;obtain ⟨ac,am,V,rfl,W,aj,ak,⟨aa,ad,rfl,Y⟩,X⟩:=q.idx O;refine go ?_;refine T ?_;intro j Z h f g ap J;refine LW.bd [(0,vS f j.length g)] #[vS f j.length g] ?_;have K:=J.pk (M:=[sl f g j]++[sl b d m.1]) [0,1];have ⟨au,B,h⟩:=ob h;refine LW.kB (M:=[sl f g j]) (L:=[sl b d m.1]) (vs:=#[vS f j.length g]) (i:=0) Lf rfl (by kernel_rfl) rfl rfl B K rfl (fun w G hG=>⟨f,g,rfl,hG⟩) rfl rfl ?_;intro ao ab ae aq ah hf;exact rt
   exact rt
 rintro e ar ⟨b,d,hE,ai⟩;obtain ⟨e,rfl⟩:=hE.out;have h:=C;exact rt
instance k_335:Ct prog 335:=⟨by kernel_rfl,@HK⟩
theorem yU {w0} {F:List Nat} {N b ac r} (h:pe N b ac=some r) {f B d} (H:B=b.ag.length) {g C j} (I:C=b.gc.gQ.length) (hS:St w0 F w0 [sl f d b.ag,sl g j b.gc.gQ]) :
    gV prog 332 #[.agg #[vS f B d,vI b.gc.Ph,vI b.gc.Pr,vI b.gc.Pj,vS g C j],vI ac] w0 (fun v w=>∃ o q, ∃ p u,v=.agg #[vS o r.ag.length q,vI r.gc.Ph,vI r.gc.Pr,vI r.gc.Pj,vS p r.gc.gQ.length u]∧St w0 F w [sl o q r.ag,sl p u r.gc.gQ]):=by
 subst H I;unfold pe at h;refine gV.fn func332 fun e=>?_;refine T ?_;intro W a8 aP X a9 z;obtain ⟨ax,ae,ai⟩:=ob h;refine CW.jn [1,2,4] [0,1,2,3] [(26,.bool ax)] z (h1:=?_) (h2:=?_)
 · have h:=ae;refine gB h ?_ ?_<;>intro _ h
   · refine gb h fun ba U h=>?_;obtain ⟨aJ,aV,hae,aU,ap⟩:=z.hZ (α:=gP) (i:=2) rfl U;subst hae;refine go ?_;obtain ⟨aE,m,K⟩:=z.freeze (α:=gP) 2 rfl;obtain ⟨aK,aW,ah,hae,am,_,_,Z,an⟩:=m.ju.idx U;cases hae;obtain ⟨aF,aL,aG,aM,aH,aN,rfl,ar,au,av⟩:=Z;refine T ?_;refine bH h ?_ ?_<;>intro _ h
     · refine go ?_;refine T ?_;have aQ:=K.iD (α:=gP) 2 rfl m;exact rt
     refine go ?_;have aR:=K.iD (α:=gP) 2 rfl m;exact rt
   exact rt
 intro e aY O;have h:=ai;refine gs ?_;obtain ⟨x,aa,ad⟩:=ob h;refine CW.cut (fun e wb=>∃ (k:Ad) (l:Nat),En e [(2,.pointer (some ⟨W,0,none⟩)),(4,.pointer (some ⟨X,0,none⟩))]∧St w0 F wb [bx X 45 [vS none 0 0,vI 0,vI 0,vI 0,vS none 0 0],bx W 45 [vS f x.1.length d,vI b.gc.Ph,vI b.gc.Pr,vI b.gc.Pj,vS k x.2.length l],sl f d x.1,sl k l x.2]) ?_ ?_
 · have h:=aa;refine gc h ?_ ?_<;>intro _ h
   · refine gb h fun a5 A h=>?_;obtain ⟨J,V,hae,ao,aq⟩:=O.hZ (α:=gP) (i:=2) rfl A;subst hae;refine go ?_;refine gb h fun af n h=>?_;refine LW.se 9 O 2 A n (hM:=(iU (fun w cs F hF=>by obtain ⟨ay,aB,az,aC,aA,aD,rfl,hH⟩:=hF;exact ⟨ay,aB,az,aC,aA,aD,rfl,hH⟩))) fun aZ aS=>?_;refine T ?_;intro a6 aw h a0 R;refine CW.fl [1,2,4,37] fun e=>?_;refine gc h ?_ ?_<;>intro _ h
     · refine gb h fun a7 ab h=>?_;refine LW.kB (M:=[]) (L:=[bx X 45 [vS none 0 0,vI 0,vI 0,vI 0,vS none 0 0],bx W 45 [vS (some ⟨J,V,none⟩) b.ag.length d,vI b.gc.Ph,vI b.gc.Pr,vI b.gc.Pj,vS g b.gc.gQ.length j],sl (some ⟨J,V,none⟩) d af,sl g j b.gc.gQ]) (vs:=#[vI ac]) (i:=3) pI rfl (by kernel_rfl) rfl rfl ab R rfl (fun w G hG=>by cases (show G=[] from hG);exact ⟨rfl,rfl⟩) rfl rfl ?_;intro aX aI aO a1 aT hf;refine T ?_;intro a2 Y;rw [gS (oi n)] at Y;exact rt
     refine go ?_;rw [gS (oi n)] at R;exact rt
   exact rt
 rintro e a3 ⟨k,l,hE,aj⟩;obtain ⟨e,rfl⟩:=hE.out;have h:=ad;refine T ?_;intro a4 ak;exact rt
instance k_332:Ct prog 332:=⟨by kernel_rfl,@yU⟩
theorem vo {w0 N k r} (h:nU N k=some r) {f i g} (j:i=k.Pd.length) (o:rb w0 f g k.Pd) :
    gV prog 231 #[.agg #[vS f i g]] w0 (fun v w=>∃ b d,v=.agg #[vS b r.Pd.length d]∧St w0 [] w [sl b d r.Pd]):=by
 subst j;unfold nU at h;refine gV.fn func231 fun e=>?_;have p:=St.start w0;refine T ?_;intro B G q C H u n A h l m I x;refine LW.bd [(0,vS l n.length m)] #[vS l n.length m] ?_;refine T ?_;intro J z;exact rt
instance k_231:Ct prog 231:=⟨by kernel_rfl,@vo⟩
theorem zN {w0 N b r} (h:qD N b=some r) {C L I} (W:L=b.gZ.length) (am:rb w0 C I b.gZ) {G M J} (X:M=b.Po.length) (an:rb w0 G J b.Po) {H O K} (Y:O=b.Pk.length) (d:rb w0 H K b.Pk) :
    gV prog 348 #[.agg #[vI b.Pw,vI b.Pf,vI b.box,vI b.Pu,vI b.iz,vI b.gE,vI b.Pq,vI b.iy,vI b.im,.bool b.Ps,vS C L I,vS G M J,vS H O K]] w0 (fun v w=>∃ f k, ∃ g n, ∃ j o,v=.agg #[vI r.Pw,vI r.Pf,vI r.box,vI r.Pu,vI r.iz,vI r.gE,vI r.Pq,vI r.iy,vI r.im,.bool r.Ps,vS f r.gZ.length k,vS g r.Po.length n,vS j r.Pk.length o]∧St w0 [] w [sl f k r.gZ,sl g n r.Po,sl j o r.Pk]):=by
 subst W X Y;unfold qD at h;refine gV.fn func348 fun e=>?_;have a4:=St.start w0;refine T ?_;intro ad bD a5 ae bE af;obtain ⟨R,ak,ao⟩:=ob h;refine CW.cut (fun e wb=>∃ (p:Ad) (z:Nat) (q:Ad) (A:Nat) (x:Ad) (B:Nat),En e [(1,.pointer (some ⟨ad,0,none⟩)),(2,.pointer (some ⟨ae,0,none⟩))]∧St w0 [] wb [bx ae 101 [vI 0,vI 0,vI 0,vI 0,vI 0,vI 0,vI 0,vI 0,vI 0,.bool false,vS none 0 0,vS none 0 0,vS none 0 0],bx ad 101 [vI b.Pw,vI b.Pf,vI b.box,vI b.Pu,vI b.iz,vI b.gE,vI b.Pq,vI b.iy,vI b.im,.bool b.Ps,vS p R.1.length z,vS q R.2.1.length A,vS x R.2.2.length B],sl p z R.1,sl q A R.2.1,sl x B R.2.2]) ?_ ?_
 · have h:=ak;refine dW ?_;have ah:=af.drew;refine gb h fun bF a8 h=>?_;refine AW.all (rs:=[2,6]) (by kernel_rfl) (by simp) ⟨?_,?_,trivial⟩
   · refine oA ?_;refine T ?_;intro aI aT a9 ai;refine AW.u (i:=10) rfl (by kernel_rfl) rfl rfl (il.fa Ev rfl) ?_;have ⟨bw,aG,h⟩:=ob h;refine AW.all (rs:=[5,6]) (by kernel_rfl) (by simp) ⟨?_,?_,trivial⟩
     · refine oA ?_;refine T ?_;intro aJ aU ba aj;refine LW.b0 (α:=iM) aj ?_;intro aK aV bb Z hf;refine T ?_;have ⟨bz,aa,h⟩:=ob h;refine T ?_;refine LW.jS (l:=([]:List iM)) (m:=b.Pk) si rfl rfl (Z.rB d) aa Z (i:=0) rfl rfl ?_;intro aL aW bc a6 hf;refine T ?_;intro bd a7 be ap bf aq;exact rt
     refine oA ?_;refine LW.b0 (α:=iM) ai ?_;intro aM aX bg ar hf;refine T ?_;refine jP 5 ?_;refine T ?_;intro aN aY bi U;have ⟨bA,ab,h⟩:=ob h;refine jP 9 ?_;refine LW.jS (l:=([]:List iM)) (m:=b.Pk) si rfl rfl (U.rB d) ab U (i:=1) rfl rfl ?_;intro aO aZ bj au hf;refine T ?_;intro bk av bl aw bm ax;exact rt
   refine oA ?_;refine LW.b0 (α:=iM) ah ?_;intro aP a0 bn ay hf;refine T ?_;refine jP 2 ?_;refine T ?_;intro aQ a1 bo az;refine AW.u (i:=10) rfl (by kernel_rfl) rfl rfl (il.fa Ev rfl) ?_;refine jP 5 ?_;refine T ?_;intro bB aH h aR a2 bp V;have ⟨bC,ac,h⟩:=ob h;refine jP 9 ?_;refine LW.jS (l:=([]:List iM)) (m:=b.Pk) si rfl rfl (V.rB d) ac V (i:=2) rfl rfl ?_;intro aS a3 bq aA hf;refine T ?_;intro br aB bs aC bt aD;exact rt
 rintro e bu ⟨p,z,q,A,x,B,hE,aE⟩;obtain ⟨e,rfl⟩:=hE.out;have h:=ao;refine T ?_;intro bv aF;exact rt
instance k_348:Ct prog 348:=⟨by kernel_rfl,@zN⟩
theorem vA {w0 N b r} (h:lq N b=some r) :
    gV prog 150 #[vI b] w0 (fun v w=>v=.bool r∧St w0 [] w []):=by
 unfold lq at h;refine gV.fn func150 fun e=>?_;have d:=St.start w0;refine T ?_;intro j g h i f;exact rt
instance k_150:Ct prog 150:=⟨by kernel_rfl,@vA⟩
theorem zQ {w0 N b r} (h:lh N b=some r) :
    gV prog 250 #[vI b] w0 (fun v w=>v=.bool r∧St w0 [] w []):=by
 unfold lh at h;refine gV.fn func250 fun e=>?_;have d:=St.start w0;refine T ?_;intro j g h i f;exact rt
instance k_250:Ct prog 250:=⟨by kernel_rfl,@zQ⟩
theorem AB {w0 N b r} (h:om N b=some r) :
    gV prog 162 #[vI b] w0 (fun v w=>v=.bool r∧St w0 [] w []):=by
 unfold om at h;refine gV.fn func162 fun e=>?_;have d:=St.start w0;refine T ?_;intro j g h i f;exact rt
instance k_162:Ct prog 162:=⟨by kernel_rfl,@AB⟩
theorem zT {w0 N m r} (h:mz N m=some r) {b f d} (g:f=m.Pd.length) (i:rb w0 b d m.Pd) :
    gV prog 204 #[.agg #[vS b f d]] w0 (fun v w=>v=.bool r∧St w0 [] w []):=by
 subst g;unfold mz at h;refine gV.fn func204 fun e=>?_;have G:=St.start w0;refine T ?_;intro X Y n;refine go ?_;obtain ⟨k,l,j⟩:=ob h;refine CW.mono (CW.lx [1,6,7] [0] [1] 0 (fun q=>[(8,vI q)]) (RT prog f204.results (fun u=>.bool u) w0 []) n l (hb:=?_)) ?_
 · intro q e Z o H h;refine gc h ?_ ?_<;>intro _ h
   · refine gb h fun aa p h=>?_;obtain ⟨W,M,z,rfl,A,K,L,rfl,B⟩:=i.idx p;refine go ?_;refine T ?_;intro V C h R I;refine CW.fl [1,6,7,8,14] fun e=>?_;refine gc h ?_ ?_<;>intro _ h
     · exact rt
     exact rt
   exact rt
 intro x e U hM;rcases k with k | O
 · obtain ⟨rfl,hM⟩:=hM;obtain ⟨e,rfl,J⟩:=eo hM;have h:=j;exact rt
 obtain ⟨rfl,u,rfl,hM⟩:=hM;cases j;exact And.intro trivial hM
instance k_204:Ct prog 204:=⟨by kernel_rfl,@zT⟩
theorem CD {w0 N q r} (h:px N q=some r) {d g f} (i:g=q.length) (b:rb w0 d f q) :
    gV prog 205 #[vS d g f] w0 (fun v w=>v=.bool r∧St w0 [] w []):=by
 subst i;unfold px at h;refine gV.fn func205 fun e=>?_;have A:=St.start w0;refine go ?_;obtain ⟨k,n,j⟩:=ob h;refine CW.mono (CW.lx [0,5,6] [] [] 0 (fun H=>[(7,vI H)]) (RT prog f205.results (fun u=>.bool u) w0 []) A n (hb:=?_)) ?_
 · intro H e an o B h;refine gc h ?_ ?_<;>intro _ h
   · refine gb h fun ao C h=>?_;obtain ⟨ak,am,W,rfl,J,aa,ab,rfl,L⟩:=b.idx C;refine go ?_;refine T ?_;obtain ⟨G,m,z⟩:=ob h;refine CW.jn [0,5,6,7] [] [(27,.bool G)] B (h1:=?_) (h2:=?_)
     · have h:=m;refine T ?_;intro ai U h ae X;refine bH h ?_ ?_<;>intro _ h
       · exact rt
       refine gB h ?_ ?_<;>intro _ h
       · refine gb h fun aj p h=>?_;obtain ⟨V,ac,I,hae,K,O,R,l,M⟩:=b.idx p;cases hae;obtain rfl:=l;refine go ?_;refine T ?_;exact rt
       exact rt
     intro e af Y;have h:=z;refine gc h ?_ ?_<;>intro _ h
     · exact rt
     exact rt
   exact rt
 intro x e ah hM;rcases k with k | ad
 · obtain ⟨rfl,hM⟩:=hM;obtain ⟨e,rfl,Z⟩:=eo hM;rw [show e=iq e [] from rfl];have h:=j;exact rt
 obtain ⟨rfl,u,rfl,hM⟩:=hM;cases j;exact And.intro trivial hM
instance k_205:Ct prog 205:=⟨by kernel_rfl,@CD⟩
theorem DL {w0 N b r} (h:mS N b=some r) :
    gV prog 247 #[vI b] w0 (fun v w=>v=.bool r∧St w0 [] w []):=by
 unfold mS at h;refine gV.fn func247 fun e=>?_;have d:=St.start w0;refine T ?_;intro j g h i f;exact rt
instance k_247:Ct prog 247:=⟨by kernel_rfl,@DL⟩
theorem HD {w0 N b r} (h:l5 N b=some r) :
    gV prog 100 #[vI b] w0 (fun v w=>v=.bool r∧St w0 [] w []):=by
 unfold l5 at h;refine gV.fn func100 fun e=>?_;have d:=St.start w0;refine T ?_;intro j g h i f;exact rt
instance k_100:Ct prog 100:=⟨by kernel_rfl,@HD⟩
theorem Ak {w0 N i j r} (h:kC N i j=some r) {b f d} (g:f=i.length) (k:rb w0 b d i) :
    gV prog 155 #[vS b f d,vI j] w0 (fun v w=>v=.bool r∧St w0 [] w []):=by
 subst g;unfold kC at h;refine gV.fn func155 fun e=>?_;have l:=St.start w0;refine T ?_;intro p n h o m;exact rt
instance k_155:Ct prog 155:=⟨by kernel_rfl,@Ak⟩
theorem z3 {w0 N b d r} (h:sy N b d=some r) {f z m} (I:z=b.gZ.length) (R:rb w0 f m b.gZ) {g A n} (J:A=b.Po.length) (U:rb w0 g n b.Po) {i B o} (K:B=b.Pk.length) (V:rb w0 i o b.Pk) {j C p} (L:C=d.gZ.length) (W:rb w0 j p d.gZ) {k G q} (M:G=d.Po.length) (X:rb w0 k q d.Po) {l H x} (O:H=d.Pk.length) (Y:rb w0 l x d.Pk) :
    gV prog 357 #[.agg #[vI b.Pw,vI b.Pf,vI b.box,vI b.Pu,vI b.iz,vI b.gE,vI b.Pq,vI b.iy,vI b.im,.bool b.Ps,vS f z m,vS g A n,vS i B o],.agg #[vI d.Pw,vI d.Pf,vI d.box,vI d.Pu,vI d.iz,vI d.gE,vI d.Pq,vI d.iy,vI d.im,.bool d.Ps,vS j C p,vS k G q,vS l H x]] w0 (fun v w=>v=.bool r∧St w0 [] w []):=by
 subst I J K L M O;unfold sy at h;refine gV.fn func357 fun e=>?_;have ac:=St.start w0;refine T ?_;intro aq au ad ar av ae;refine gB h ?_ ?_<;>intro _ h
 · refine gB h ?_ ?_<;>intro _ h
   · refine go ?_;refine bH h ?_ ?_<;>intro _ h
     · refine gB h ?_ ?_<;>intro _ h
       · refine gB h ?_ ?_<;>intro _ h
         · refine gB h ?_ ?_<;>intro _ h
           · refine go ?_;refine bH h ?_ ?_<;>intro _ h
             · refine gB h ?_ ?_<;>intro _ h
               · refine gB h ?_ ?_<;>intro _ h
                 · refine go ?_;refine LW.u (il.beq underlying4 rfl rfl) rfl ?_;refine gB h ?_ ?_<;>intro _ h
                   · refine go ?_;refine T ?_;intro an Z h aj af;refine bH h ?_ ?_<;>intro _ h
                     · refine T ?_;intro ao aa h ak ah;refine bH h ?_ ?_<;>intro _ h
                       · refine T ?_;intro ap ab h am ai;exact rt
                       exact rt
                     exact rt
                   exact rt
                 exact rt
               exact rt
             exact rt
           exact rt
         exact rt
       exact rt
     exact rt
   exact rt
 exact rt
instance k_357:Ct prog 357:=⟨by kernel_rfl,@z3⟩
theorem yO {w0 N b r} (h:lf N b=some r) :
    gV prog 226 #[vI b] w0 (fun v w=>v=.bool r∧St w0 [] w []):=by
 unfold lf at h;refine gV.fn func226 fun e=>?_;have d:=St.start w0;refine T ?_;intro j g h i f;exact rt
instance k_226:Ct prog 226:=⟨by kernel_rfl,@yO⟩
theorem E4 {w0 N i j r} (h:nj N i j=some r) {b f d} (g:f=i.parts.length) (k:rb w0 b d i.parts) :
    gV prog 76 #[.agg #[vI i.Pt,vS b f d],vI j] w0 (fun v w=>v=.bool r∧St w0 [] w []):=by
 subst g;unfold nj at h;refine gV.fn func76 fun e=>?_;have l:=St.start w0;refine T ?_;intro p q m x o h u n;exact rt
instance k_76:Ct prog 76:=⟨by kernel_rfl,@E4⟩
end Go.Kx
