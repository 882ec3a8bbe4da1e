import Derived.Test.YtlcgibcdiikheaaGreatWa0
namespace Go.Kx
open Go Go.RowKit Go.Proofs
open Tryz
set_option maxRecDepth 10000
set_option maxHeartbeats 8000000
set_option linter.unusedVariables false
set_option linter.unusedSimpArgs false
theorem J2 {w0 N n z r} (h:za N n z=some r) {b f d} (g:f=n.length) (i:rb w0 b d n) :
    pY prog 293 #[vS b f d,vI z] w0 (fun v w=>v=vI r∧St w0 [] w []):=by
 subst g;unfold za at h;refine pY.fn func293 fun e=>?_;have p:=St.start w0;refine go ?_;obtain ⟨k,l,j⟩:=ob h;refine CW.mono (CW.lx [0] [] [1] 0 (fun m=>[(1,vI m.1),(5,vI m.2)]) (RT prog f293.results (fun u=>vI u) w0 []) p l (hb:=?_)) ?_
 · intro m e R o G h;refine gc h ?_ ?_<;>intro _ h
   · refine gb h fun U q h=>?_;obtain ⟨M,O,C,rfl,A,I,J,rfl,B⟩:=i.idx q;refine go ?_;refine T ?_;refine CW.fl [0,1,5,18] fun e=>?_;refine gc h ?_ ?_<;>intro _ h
     · exact rt
     refine go ?_;refine T ?_;refine gc h ?_ ?_<;>intro _ h
     · exact rt
     exact rt
   exact rt
 intro x e L hM;rcases k with k | K
 · obtain ⟨rfl,hM⟩:=hM;obtain ⟨e,rfl,H⟩:=eo hM;have h:=j;exact rt
 obtain ⟨rfl,u,rfl,hM⟩:=hM;cases j;exact And.intro trivial hM
instance k_293:Ct prog 293:=⟨by kernel_rfl,@J2⟩
theorem EJ {w0 N n z r} (h:yV N n z=some r) {b f d} (g:f=n.length) (i:rb w0 b d n) :
    pY prog 196 #[vS b f d,vI z] w0 (fun v w=>v=vI r∧St w0 [] w []):=by
 subst g;unfold yV at h;refine pY.fn func196 fun e=>?_;have p:=St.start w0;refine go ?_;obtain ⟨k,l,j⟩:=ob h;refine CW.mono (CW.lx [0] [] [1] 0 (fun m=>[(1,vI m.1),(5,vI m.2)]) (RT prog f196.results (fun u=>vI u) w0 []) p l (hb:=?_)) ?_
 · intro m e R o G h;refine gc h ?_ ?_<;>intro _ h
   · refine gb h fun U q h=>?_;obtain ⟨M,O,C,rfl,A,I,J,rfl,B⟩:=i.idx q;refine go ?_;refine T ?_;refine CW.fl [0,1,5,18] fun e=>?_;refine gc h ?_ ?_<;>intro _ h
     · exact rt
     refine go ?_;refine T ?_;refine gc h ?_ ?_<;>intro _ h
     · exact rt
     refine go ?_;refine T ?_;refine CW.fl [0,1,5,36] fun e=>?_;refine gc h ?_ ?_<;>intro _ h
     · exact rt
     refine go ?_;refine T ?_;refine gc h ?_ ?_<;>intro _ h
     · exact rt
     refine go ?_;refine T ?_;refine CW.fl [0,1,5,54] fun e=>?_;refine gc h ?_ ?_<;>intro _ h
     · exact rt
     refine go ?_;refine T ?_;refine gc h ?_ ?_<;>intro _ h
     · exact rt
     exact rt
   exact rt
 intro x e L hM;rcases k with k | K
 · obtain ⟨rfl,hM⟩:=hM;obtain ⟨e,rfl,H⟩:=eo hM;have h:=j;exact rt
 obtain ⟨rfl,u,rfl,hM⟩:=hM;cases j;exact And.intro trivial hM
instance k_196:Ct prog 196:=⟨by kernel_rfl,@EJ⟩
theorem Lq {w0 N i j r} (h:By N i j=some r) {b f d} (g:f=i.Va.length) (k:rb w0 b d i.Va) :
    pY prog 197 #[.agg #[vS b f d],vI j] w0 (fun v w=>v=vI r∧St w0 [] w []):=by
 subst g;unfold By at h;refine pY.fn func197 fun e=>?_;have l:=St.start w0;refine T ?_;intro p q m x o h u n;refine gc h ?_ ?_<;>intro _ h
 · exact rt
 exact rt
instance k_197:Ct prog 197:=⟨by kernel_rfl,@Lq⟩
theorem OO {w0 N b A r} (h:BL N b A=some r) {d l i} (o:l=b.pX.length) (u:rb w0 d i b.pX) {f m j} (p:m=b.Vh.length) (x:rb w0 f j b.Vh) {g n k} (q:n=b.Vf.length) (z:rb w0 g k b.Vf) :
    pY prog 354 #[.agg #[vI b.Vr,vI b.Vc,vI b.box,vI b.Vp,vI b.qx,vI b.gE,vI b.Vl,vI b.qw,vI b.qq,.bool b.Vm,vS d l i,vS f m j,vS g n k],vI A] w0 (fun v w=>v=vI r∧St w0 [] w []):=by
 subst o p q;unfold BL at h;refine pY.fn func354 fun e=>?_;have B:=St.start w0;refine T ?_;intro O R C W J h U G;refine gc h ?_ ?_<;>intro _ h
 · exact rt
 refine T ?_;intro X K h V H;refine CW.fl [1,2,16] fun e=>?_;refine gc h ?_ ?_<;>intro _ h
 · exact rt
 refine T ?_;intro Y L h M I;refine gc h ?_ ?_<;>intro _ h
 · exact rt
 exact rt
instance k_354:Ct prog 354:=⟨by kernel_rfl,@OO⟩
theorem PE {w0 N b j r} (h:D1 N b j=some r) {d g f} (i:g=b.pT.length) (k:rb w0 d f b.pT) :
    pY prog 334 #[.agg #[vI b.Ve,vI b.Vn,vI b.Vg,vS d g f],vI j] w0 (fun v w=>v=vI r∧St w0 [] w []):=by
 subst i;unfold D1 at h;refine pY.fn func334 fun e=>?_;have l:=St.start w0;refine T ?_;intro p q m x o h u n;refine gc h ?_ ?_<;>intro _ h
 · exact rt
 exact rt
instance k_334:Ct prog 334:=⟨by kernel_rfl,@PE⟩
theorem KU {w0 N k r} (h:z3 N k=some r) {f i g} (j:i=k.Va.length) (l:rb w0 f g k.Va) :
    pY prog 200 #[.agg #[vS f i g]] w0 (fun v w=>∃ b d,v=.agg #[vS b r.Va.length d]∧St w0 [] w [sl b d r.Va]):=by
 subst j;unfold z3 at h;refine pY.fn func200 fun e=>?_;have m:=St.start w0;refine T ?_;intro I L n J M o K O p R z h G H A q B u C x;exact rt
instance k_200:Ct prog 200:=⟨by kernel_rfl,@KU⟩
theorem OD {w0 N b r} (h:AA N b=some r) :
    pY prog 340 #[.agg #[.bool b.Vs,vI b.Vq,vI b.qI.gE,vI b.qI.qa,vI b.qI.qg]] w0 (fun v w=>v=.agg #[.bool r.Vs,vI r.Vq,vI r.qI.gE,vI r.qI.qa,vI r.qI.qg]∧St w0 [] w []):=by
 unfold AA at h;refine pY.fn func340 fun e=>?_;have d:=St.start w0;refine T ?_;intro x B f z C g A G i H j I k J o h p l q m u n;exact rt
instance k_340:Ct prog 340:=⟨by kernel_rfl,@OD⟩
theorem Mv {w0 N p r} (h:Ck N p=some r) {b j d} (m:j=p.length) (n:rb w0 b d p) :
    pY prog 361 #[vS b j d] w0 (fun v w=>∃ q x,v=vS q r.length x∧St w0 [] w [sl q x r]):=by
 subst m;unfold Ck at h;refine pY.fn func361 fun e=>?_;have H:=St.start w0;refine gb h fun ao K h=>?_;refine LW.mk zi rfl rfl K H rfl ?_;intro C l am I hf;refine go ?_;obtain ⟨ae,B,G⟩:=ob h;refine CW.ie B 0 (fun k e wb=>En e [(0,vS b p.length d),(3,vS C k.1.length l),(4,vI k.2)]∧St w0 [] wb [sl C l k.1]) ?_ (I.po [0]) ?_
 · intro k e an o hM h;obtain ⟨e,rfl,aa⟩:=eo hM;refine gc h ?_ ?_<;>intro _ h
   · refine gb h fun ap L h=>?_;obtain ⟨Z,ad,O,rfl,R,ac,W,rfl,U⟩:=n.idx L;refine go ?_;refine T ?_;intro aj Y h af z;have ⟨ak,f,h⟩:=ob h;obtain ⟨u,A,hae,V,X⟩:=z.qk (α:=qM) (i:=0) rfl f;subst hae;refine go ?_;have ⟨M,g,h⟩:=ob h;refine LW.se 0 z 0 f g (hM:=A1) fun ah J=>?_;refine go ?_;replace h:=oi h;subst h;exact ⟨rfl,⟨⟨rfl,(show (vS (some ⟨u,A,none⟩) k.1.length l:Value)=vS (some ⟨u,A,none⟩) M.length l by rw [pV (oi g)]),rfl,trivial⟩,J.pk [0]⟩⟩
   exact rt
 rintro e ai ⟨hE,ab⟩;obtain ⟨e,rfl⟩:=hE.out;have h:=G;exact rt
instance k_361:Ct prog 361:=⟨by kernel_rfl,@Mv⟩
theorem Pv {w0 N f r} (h:CL N f=some r) {g j i} (k:j=f.pT.length) (l:rb w0 g i f.pT) :
    pY prog 342 #[.agg #[vI f.Ve,vI f.Vn,vI f.Vg,vS g j i]] w0 (fun v w=>∃ b d,v=.agg #[vI r.Ve,vI r.Vn,vI r.Vg,vS b r.pT.length d]∧St w0 [] w [sl b d r.pT]):=by
 subst k;unfold CL at h;refine pY.fn func342 fun e=>?_;have q:=St.start w0;refine T ?_;intro M U u O V x R W z X A Y B Z C L n h o p I G J H K m;exact rt
instance k_342:Ct prog 342:=⟨by kernel_rfl,@Pv⟩
theorem M8 {w0 N p r} (h:Cu N p=some r) {b j d} (m:j=p.length) (n:rb w0 b d p) :
    pY prog 288 #[vS b j d] w0 (fun v w=>∃ q x,v=vS q r.length x∧St w0 [] w [sl q x r]):=by
 subst m;unfold Cu at h;refine pY.fn func288 fun e=>?_;have H:=St.start w0;refine gb h fun ao K h=>?_;refine LW.mk Bd rfl rfl K H rfl ?_;intro C l am I hf;refine go ?_;obtain ⟨ae,B,G⟩:=ob h;refine CW.ie B 0 (fun k e wb=>En e [(0,vS b p.length d),(3,vS C k.1.length l),(4,vI k.2)]∧St w0 [] wb [sl C l k.1]) ?_ (I.po [0]) ?_
 · intro k e an o hM h;obtain ⟨e,rfl,aa⟩:=eo hM;refine gc h ?_ ?_<;>intro _ h
   · refine gb h fun ap L h=>?_;obtain ⟨Z,ad,O,rfl,R,ac,W,rfl,U⟩:=n.idx L;refine go ?_;refine T ?_;intro aj Y h af z;have ⟨ak,f,h⟩:=ob h;obtain ⟨u,A,hae,V,X⟩:=z.qk (α:=qB) (i:=0) rfl f;subst hae;refine go ?_;have ⟨M,g,h⟩:=ob h;refine LW.se 0 z 0 f g (hM:=A1) fun ah J=>?_;refine go ?_;replace h:=oi h;subst h;exact ⟨rfl,⟨⟨rfl,(show (vS (some ⟨u,A,none⟩) k.1.length l:Value)=vS (some ⟨u,A,none⟩) M.length l by rw [pV (oi g)]),rfl,trivial⟩,J.pk [0]⟩⟩
   exact rt
 rintro e ai ⟨hE,ab⟩;obtain ⟨e,rfl⟩:=hE.out;have h:=G;exact rt
instance k_288:Ct prog 288:=⟨by kernel_rfl,@M8⟩
theorem rv {w0 N f r} (h:w6 N f=some r) :
    pY prog 21 #[.agg #[vI f.Vc,vI f.U9,vI f.qA,vI f.call.Vc,vI f.call.a,vI f.call.b,vI f.call.c,vI f.call.d,vI f.call.e]] w0 (fun v w=>v=.agg #[vI r.Vc,vI r.U9,vI r.qA,vI r.call.Vc,vI r.call.a,vI r.call.b,vI r.call.c,vI r.call.d,vI r.call.e]∧St w0 [] w []):=by
 unfold w6 at h;refine pY.fn func21 fun e=>?_;have j:=St.start w0;refine T ?_;intro C I k G J l H K m L n M o O p B i h x q z u A g;exact rt
instance k_21:Ct prog 21:=⟨by kernel_rfl,@rv⟩
theorem MQ {w0 N B r} (h:wF N B=some r) {g x j} (z:x=B.length) (A:rb w0 g j B) :
    pY prog 329 #[vS g x j] w0 (fun v w=>∃ C H,v=vS C r.length H∧St w0 [] w [sl C H r]):=by
 subst z;unfold wF at h;refine pY.fn func329 fun e=>?_;have O:=St.start w0;refine go ?_;refine LW.b0 (α:=j8) O ?_;intro X Y aF R hf;refine go ?_;obtain ⟨az,I,K⟩:=ob h;refine CW.ie I 0 (fun u e wb=>∃ (d:Ad) (f:Nat),En e [(0,vS g B.length j),(3,vS d u.1.length f),(4,vI u.2)]∧St w0 [] wb [sl d f u.1]) ?_ ⟨X,Y,R.po [0]⟩ ?_
 · intro u e aG o hM h;obtain ⟨d,f,hE,ar⟩:=hM;obtain ⟨e,rfl⟩:=hE.out;refine gc h ?_ ?_<;>intro _ h
   · refine gb h fun aH W h=>?_;obtain ⟨am,ay,Z,rfl,aa,aw,ax,⟨ah,an,ai,ao,aj,ap,rfl,ac,ad,ae⟩,ab⟩:=A.idx W;refine go ?_;refine T ?_;intro b af h k n l p m q aB U;have V:=U.pk (M:=[sl k n b.pX,sl l p b.Vh,sl m q b.Vf]++[sl d f u.1]) [0,1,2,3];have ⟨aE,J,h⟩:=ob h;refine LW.tQ (M:=[sl k n b.pX,sl l p b.Vh,sl m q b.Vf]) (L:=[sl d f u.1]) (vs:=#[vI b.Vr,vI b.Vc,vI b.box,vI b.Vp,vI b.qx,vI b.gE,vI b.Vl,vI b.qw,vI b.qq,.bool b.Vm,vS k b.pX.length n,vS l b.Vh.length p,vS m b.Vf.length q]) (i:=0) Ps rfl (by kernel_rfl) rfl rfl J V rfl (fun w G hG=>⟨k,n,l,p,m,q,rfl,hG⟩) rfl rfl ?_;intro aA ak aq aC au hf;exact rt
   exact rt
 rintro e aD ⟨d,f,hE,av⟩;obtain ⟨e,rfl⟩:=hE.out;have h:=K;exact rt
instance k_329:Ct prog 329:=⟨by kernel_rfl,@MQ⟩
theorem Lb {w0 N m r} (h:wY N m=some r) {b f d} (g:f=m.Va.length) (i:rb w0 b d m.Va) :
    pY prog 115 #[.agg #[vS b f d]] w0 (fun v w=>v=.bool r∧St w0 [] w []):=by
 subst g;unfold wY at h;refine pY.fn func115 fun e=>?_;have H:=St.start w0;refine T ?_;intro X Y n;refine gc h ?_ ?_<;>intro _ h
 · exact rt
 refine go ?_;obtain ⟨k,l,j⟩:=ob h;refine CW.mono (CW.lx [1] [0] [] 0 (fun q=>[(3,vI q)]) (RT prog f115.results (fun u=>.bool u) w0 []) n l (hb:=?_)) ?_
 · intro q e Z o I h;refine gc h ?_ ?_<;>intro _ h
   · refine gb h fun aa p h=>?_;obtain ⟨G,O,z,rfl,A,L,M,rfl,B⟩:=i.idx p;refine go ?_;refine T ?_;intro W C h U J;refine CW.fl [1,3,21] fun e=>?_;refine gc h ?_ ?_<;>intro _ h
     · exact rt
     exact rt
   exact rt
 intro x e V hM;rcases k with k | R
 · obtain ⟨rfl,hM⟩:=hM;obtain ⟨e,rfl,K⟩:=eo hM;rw [show e=qy e [] from rfl];have h:=j;exact rt
 obtain ⟨rfl,u,rfl,hM⟩:=hM;cases j;exact And.intro trivial hM
instance k_115:Ct prog 115:=⟨by kernel_rfl,@Lb⟩
theorem Oc {w0 N q r} (h:Ax N q=some r) {d g f} (i:g=q.length) (b:rb w0 d f q) :
    pY prog 116 #[vS d g f] w0 (fun v w=>v=.bool r∧St w0 [] w []):=by
 subst i;unfold Ax at h;refine pY.fn func116 fun e=>?_;have z:=St.start w0;refine go ?_;obtain ⟨l,n,j⟩:=ob h;refine CW.mono (CW.lx [0] [] [] 0 (fun C=>[(3,vI C)]) (RT prog f116.results (fun u=>.bool u) w0 []) z n (hb:=?_)) ?_
 · intro C e ap o k h;refine gc h ?_ ?_<;>intro _ h
   · refine gs ?_;refine CW.block ?_;refine gs ?_;obtain ⟨W,A,I⟩:=ob h;refine CW.jn [0,3] [] [(31,.bool W)] k (h1:=?_) (h2:=?_)
     · have h:=A;refine dW ?_;have Y:=k.drew;refine gb h fun aq B h=>?_;obtain ⟨ao,ae,G,rfl,J,ac,ad,rfl,M⟩:=b.idx B;refine go ?_;refine T ?_;intro am V h ai Z;refine bH h ?_ ?_<;>intro _ h
       · exact rt
       refine gB h ?_ ?_<;>intro L h
       · refine go ?_;refine T ?_;have ⟨an,p,h⟩:=ob h;obtain ⟨X,af,H,hae,K,R,U,m,O⟩:=b.idx p;cases hae;obtain rfl:=m;refine go ?_;refine T ?_;exact rt
       exact rt
     intro e aj aa;have h:=I;refine gc h ?_ ?_<;>intro _ h
     · exact rt
     exact rt
   exact rt
 intro x e ak hM;rcases l with l | ah
 · obtain ⟨rfl,hM⟩:=hM;obtain ⟨e,rfl,ab⟩:=eo hM;rw [show e=qy e [] from rfl];have h:=j;exact rt
 obtain ⟨rfl,u,rfl,hM⟩:=hM;cases j;exact And.intro trivial hM
instance k_116:Ct prog 116:=⟨by kernel_rfl,@Oc⟩
theorem PW {w0 N b r} (h:zh N b=some r) :
    pY prog 180 #[vI b] w0 (fun v w=>v=.bool r∧St w0 [] w []):=by
 unfold zh at h;refine pY.fn func180 fun e=>?_;have d:=St.start w0;refine T ?_;intro j g h i f;exact rt
instance k_180:Ct prog 180:=⟨by kernel_rfl,@PW⟩
theorem HZ {w0 N b r} (h:uc N b=some r) :
    pY prog 262 #[vI b] w0 (fun v w=>v=.bool r∧St w0 [] w []):=by
 unfold uc at h;refine pY.fn func262 fun e=>?_;have d:=St.start w0;refine T ?_;intro j g h i f;exact rt
instance k_262:Ct prog 262:=⟨by kernel_rfl,@HZ⟩
theorem Jz {w0 N b r} (h:tb N b=some r) :
    pY prog 127 #[vI b] w0 (fun v w=>v=.bool r∧St w0 [] w []):=by
 unfold tb at h;refine pY.fn func127 fun e=>?_;have d:=St.start w0;refine T ?_;intro j g h i f;exact rt
instance k_127:Ct prog 127:=⟨by kernel_rfl,@Jz⟩
theorem MC {w0 N b r} (h:tO N b=some r) :
    pY prog 97 #[vI b] w0 (fun v w=>v=.bool r∧St w0 [] w []):=by
 unfold tO at h;refine pY.fn func97 fun e=>?_;have d:=St.start w0;refine T ?_;intro j g h i f;exact rt
instance k_97:Ct prog 97:=⟨by kernel_rfl,@MC⟩
theorem MM {w0 N u r} (h:zl N u=some r) {k n l} (p:n=u.length) (q:rb w0 k l u) :
    pY prog 335 #[vS k n l] w0 (fun v w=>∃ x z,v=vS x r.length z∧St w0 [] w [sl x z r]):=by
 subst p;unfold zl at h;refine pY.fn func335 fun e=>?_;have H:=St.start w0;refine go ?_;refine LW.b0 (α:=qF) H ?_;intro R U av I hf;refine go ?_;obtain ⟨an,A,C⟩:=ob h;refine CW.ie A 0 (fun m e wb=>∃ (b:Ad) (d:Nat),En e [(0,vS k u.length l),(3,vS b m.1.length d),(4,vI m.2)]∧St w0 [] wb [sl b d m.1]) ?_ ⟨R,U,I.po [0]⟩ ?_
 · intro m e aw o hM h;obtain ⟨b,d,hE,af⟩:=hM;obtain ⟨e,rfl⟩:=hE.out;refine gc h ?_ ?_<;>intro _ h
   · refine gb h fun ax O h=>?_;obtain ⟨ac,am,V,rfl,W,aj,ak,⟨aa,ad,rfl,Y⟩,X⟩:=q.idx O;refine go ?_;refine T ?_;intro j Z h f g ap J;refine LW.bd [(0,vS f j.length g)] #[vS f j.length g] ?_;have K:=J.pk (M:=[sl f g j]++[sl b d m.1]) [0,1];have ⟨au,B,h⟩:=ob h;refine LW.tQ (M:=[sl f g j]) (L:=[sl b d m.1]) (vs:=#[vS f j.length g]) (i:=0) QL rfl (by kernel_rfl) rfl rfl B K rfl (fun w G hG=>⟨f,g,rfl,hG⟩) rfl rfl ?_;intro ao ab ae aq ah hf;exact rt
   exact rt
 rintro e ar ⟨b,d,hE,ai⟩;obtain ⟨e,rfl⟩:=hE.out;have h:=C;exact rt
instance k_335:Ct prog 335:=⟨by kernel_rfl,@MM⟩
theorem EC {w0} {F:List Nat} {N b ac r} (h:xB N b ac=some r) {f B d} (H:B=b.ag.length) {g C j} (I:C=b.gc.pT.length) (hS:St w0 F w0 [sl f d b.ag,sl g j b.gc.pT]) :
    pY prog 332 #[.agg #[vS f B d,vI b.gc.Ve,vI b.gc.Vn,vI b.gc.Vg,vS g C j],vI ac] w0 (fun v w=>∃ o q, ∃ p u,v=.agg #[vS o r.ag.length q,vI r.gc.Ve,vI r.gc.Vn,vI r.gc.Vg,vS p r.gc.pT.length u]∧St w0 F w [sl o q r.ag,sl p u r.gc.pT]):=by
 subst H I;unfold xB at h;refine pY.fn func332 fun e=>?_;refine T ?_;intro W a8 aP X a9 z;obtain ⟨ax,ae,ai⟩:=ob h;refine CW.jn [1,2,4] [0,1,2,3] [(26,.bool ax)] z (h1:=?_) (h2:=?_)
 · have h:=ae;refine gB h ?_ ?_<;>intro _ h
   · refine gb h fun ba U h=>?_;obtain ⟨aJ,aV,hae,aU,ap⟩:=z.qk (α:=j8) (i:=2) rfl U;subst hae;refine go ?_;obtain ⟨aE,m,K⟩:=z.freeze (α:=j8) 2 rfl;obtain ⟨aK,aW,ah,hae,am,_,_,Z,an⟩:=m.rQ.idx U;cases hae;obtain ⟨aF,aL,aG,aM,aH,aN,rfl,ar,au,av⟩:=Z;refine T ?_;refine bH h ?_ ?_<;>intro _ h
     · refine go ?_;refine T ?_;have aQ:=K.qG (α:=j8) 2 rfl m;exact rt
     refine go ?_;have aR:=K.qG (α:=j8) 2 rfl m;exact rt
   exact rt
 intro e aY O;have h:=ai;refine gs ?_;obtain ⟨x,aa,ad⟩:=ob h;refine CW.cut (fun e wb=>∃ (k:Ad) (l:Nat),En e [(2,.pointer (some ⟨W,0,none⟩)),(4,.pointer (some ⟨X,0,none⟩))]∧St w0 F wb [bx X 45 [vS none 0 0,vI 0,vI 0,vI 0,vS none 0 0],bx W 45 [vS f x.1.length d,vI b.gc.Ve,vI b.gc.Vn,vI b.gc.Vg,vS k x.2.length l],sl f d x.1,sl k l x.2]) ?_ ?_
 · have h:=aa;refine gc h ?_ ?_<;>intro _ h
   · refine gb h fun a5 A h=>?_;obtain ⟨J,V,hae,ao,aq⟩:=O.qk (α:=j8) (i:=2) rfl A;subst hae;refine go ?_;refine gb h fun af n h=>?_;refine LW.se 9 O 2 A n (hM:=(rm (fun w cs F hF=>by obtain ⟨ay,aB,az,aC,aA,aD,rfl,hH⟩:=hF;exact ⟨ay,aB,az,aC,aA,aD,rfl,hH⟩))) fun aZ aS=>?_;refine T ?_;intro a6 aw h a0 R;refine CW.fl [1,2,4,37] fun e=>?_;refine gc h ?_ ?_<;>intro _ h
     · refine gb h fun a7 ab h=>?_;refine LW.tQ (M:=[]) (L:=[bx X 45 [vS none 0 0,vI 0,vI 0,vI 0,vS none 0 0],bx W 45 [vS (some ⟨J,V,none⟩) b.ag.length d,vI b.gc.Ve,vI b.gc.Vn,vI b.gc.Vg,vS g b.gc.pT.length j],sl (some ⟨J,V,none⟩) d af,sl g j b.gc.pT]) (vs:=#[vI ac]) (i:=3) xN rfl (by kernel_rfl) rfl rfl ab R rfl (fun w G hG=>by cases (show G=[] from hG);exact ⟨rfl,rfl⟩) rfl rfl ?_;intro aX aI aO a1 aT hf;refine T ?_;intro a2 Y;rw [pV (oi n)] at Y;exact rt
     refine go ?_;rw [pV (oi n)] at R;exact rt
   exact rt
 rintro e a3 ⟨k,l,hE,aj⟩;obtain ⟨e,rfl⟩:=hE.out;have h:=ad;refine T ?_;intro a4 ak;exact rt
instance k_332:Ct prog 332:=⟨by kernel_rfl,@EC⟩
theorem IA {w0 N k r} (h:ym N k=some r) {f i g} (j:i=k.Va.length) (o:rb w0 f g k.Va) :
    pY prog 231 #[.agg #[vS f i g]] w0 (fun v w=>∃ b d,v=.agg #[vS b r.Va.length d]∧St w0 [] w [sl b d r.Va]):=by
 subst j;unfold ym at h;refine pY.fn func231 fun e=>?_;have p:=St.start w0;refine T ?_;intro B G q C H u n A h l m I x;refine LW.bd [(0,vS l n.length m)] #[vS l n.length m] ?_;refine T ?_;intro J z;exact rt
instance k_231:Ct prog 231:=⟨by kernel_rfl,@IA⟩
theorem FX {w0 N b r} (h:yx N b=some r) {C L I} (W:L=b.pX.length) (am:rb w0 C I b.pX) {G M J} (X:M=b.Vh.length) (an:rb w0 G J b.Vh) {H O K} (Y:O=b.Vf.length) (d:rb w0 H K b.Vf) :
    pY prog 348 #[.agg #[vI b.Vr,vI b.Vc,vI b.box,vI b.Vp,vI b.qx,vI b.gE,vI b.Vl,vI b.qw,vI b.qq,.bool b.Vm,vS C L I,vS G M J,vS H O K]] w0 (fun v w=>∃ f k, ∃ g n, ∃ j o,v=.agg #[vI r.Vr,vI r.Vc,vI r.box,vI r.Vp,vI r.qx,vI r.gE,vI r.Vl,vI r.qw,vI r.qq,.bool r.Vm,vS f r.pX.length k,vS g r.Vh.length n,vS j r.Vf.length o]∧St w0 [] w [sl f k r.pX,sl g n r.Vh,sl j o r.Vf]):=by
 subst W X Y;unfold yx at h;refine pY.fn func348 fun e=>?_;have a4:=St.start w0;refine T ?_;intro ad bD a5 ae bE af;obtain ⟨R,ak,ao⟩:=ob h;refine CW.cut (fun e wb=>∃ (p:Ad) (z:Nat) (q:Ad) (A:Nat) (x:Ad) (B:Nat),En e [(1,.pointer (some ⟨ad,0,none⟩)),(2,.pointer (some ⟨ae,0,none⟩))]∧St w0 [] wb [bx ae 101 [vI 0,vI 0,vI 0,vI 0,vI 0,vI 0,vI 0,vI 0,vI 0,.bool false,vS none 0 0,vS none 0 0,vS none 0 0],bx ad 101 [vI b.Vr,vI b.Vc,vI b.box,vI b.Vp,vI b.qx,vI b.gE,vI b.Vl,vI b.qw,vI b.qq,.bool b.Vm,vS p R.1.length z,vS q R.2.1.length A,vS x R.2.2.length B],sl p z R.1,sl q A R.2.1,sl x B R.2.2]) ?_ ?_
 · have h:=ak;refine dW ?_;have ah:=af.drew;refine gb h fun bF a8 h=>?_;refine AW.all (rs:=[2,6]) (by kernel_rfl) (by simp) ⟨?_,?_,trivial⟩
   · refine oA ?_;refine T ?_;intro aI aT a9 ai;refine AW.u (i:=10) rfl (by kernel_rfl) rfl rfl (qp.fa Jh rfl) ?_;have ⟨bw,aG,h⟩:=ob h;refine AW.all (rs:=[5,6]) (by kernel_rfl) (by simp) ⟨?_,?_,trivial⟩
     · refine oA ?_;refine T ?_;intro aJ aU ba aj;refine LW.b0 (α:=qM) aj ?_;intro aK aV bb Z hf;refine T ?_;have ⟨bz,aa,h⟩:=ob h;refine T ?_;refine LW.sh (l:=([]:List qM)) (m:=b.Vf) zi rfl rfl (Z.rB d) aa Z (i:=0) rfl rfl ?_;intro aL aW bc a6 hf;refine T ?_;intro bd a7 be ap bf aq;exact rt
     refine oA ?_;refine LW.b0 (α:=qM) ai ?_;intro aM aX bg ar hf;refine T ?_;refine jP 5 ?_;refine T ?_;intro aN aY bi U;have ⟨bA,ab,h⟩:=ob h;refine jP 9 ?_;refine LW.sh (l:=([]:List qM)) (m:=b.Vf) zi rfl rfl (U.rB d) ab U (i:=1) rfl rfl ?_;intro aO aZ bj au hf;refine T ?_;intro bk av bl aw bm ax;exact rt
   refine oA ?_;refine LW.b0 (α:=qM) ah ?_;intro aP a0 bn ay hf;refine T ?_;refine jP 2 ?_;refine T ?_;intro aQ a1 bo az;refine AW.u (i:=10) rfl (by kernel_rfl) rfl rfl (qp.fa Jh rfl) ?_;refine jP 5 ?_;refine T ?_;intro bB aH h aR a2 bp V;have ⟨bC,ac,h⟩:=ob h;refine jP 9 ?_;refine LW.sh (l:=([]:List qM)) (m:=b.Vf) zi rfl rfl (V.rB d) ac V (i:=2) rfl rfl ?_;intro aS a3 bq aA hf;refine T ?_;intro br aB bs aC bt aD;exact rt
 rintro e bu ⟨p,z,q,A,x,B,hE,aE⟩;obtain ⟨e,rfl⟩:=hE.out;have h:=ao;refine T ?_;intro bv aF;exact rt
instance k_348:Ct prog 348:=⟨by kernel_rfl,@FX⟩
theorem Cx {w0 N b r} (h:tR N b=some r) :
    pY prog 150 #[vI b] w0 (fun v w=>v=.bool r∧St w0 [] w []):=by
 unfold tR at h;refine pY.fn func150 fun e=>?_;have d:=St.start w0;refine T ?_;intro j g h i f;exact rt
instance k_150:Ct prog 150:=⟨by kernel_rfl,@Cx⟩
end Go.Kx
