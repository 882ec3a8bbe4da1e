import Derived.Test.YtlcgibcdiikheaaGreatWa35
namespace Go.Kx
open Go Go.RowKit Go.Proofs
open Tryz
set_option maxRecDepth 10000
set_option maxHeartbeats 8000000
set_option linter.unusedVariables false
set_option linter.unusedSimpArgs false
theorem A1 {w0 N B r} (h:mf N B=some r) {g x j} (z:x=B.length) (A:rb w0 g j B) :
    gZ prog 329 #[vS g x j] w0 (fun v w=>∃ C H,v=vS C r.length H∧St w0 [] w [sl C H r]):=by
 subst z;unfold mf at h;refine gZ.fn func329 fun e=>?_;have O:=St.start w0;refine go ?_;refine LW.b0 (α:=cd) O ?_;intro X Y aF R hf;refine go ?_;obtain ⟨az,I,K⟩:=ob h;refine CW.ie I 0 (fun u e wb=>∃ (d:Ad) (f:Nat),En e [(0,vS g B.length j),(3,vS d u.1.length f),(4,vI u.2)]∧St w0 [] wb [sl d f u.1]) ?_ ⟨X,Y,R.po [0]⟩ ?_
 · intro u e aG o hM h;obtain ⟨d,f,hE,ar⟩:=hM;obtain ⟨e,rfl⟩:=hE.out;refine gc h ?_ ?_<;>intro _ h
   · refine gb h fun aH W h=>?_;obtain ⟨am,ay,Z,rfl,aa,aw,ax,⟨ah,an,ai,ao,aj,ap,rfl,ac,ad,ae⟩,ab⟩:=A.idx W;refine go ?_;refine T ?_;intro b af h k n l p m q aB U;have V:=U.pk (M:=[sl k n b.g5,sl l p b.HI,sl m q b.HE]++[sl d f u.1]) [0,1,2,3];have ⟨aE,J,h⟩:=ob h;refine LW.kr (M:=[sl k n b.g5,sl l p b.HI,sl m q b.HE]) (L:=[sl d f u.1]) (vs:=#[vI b.HR,vI b.HA,vI b.box,vI b.HP,vI b.iK,vI b.gE,vI b.HK,vI b.iF,vI b.iE,.bool b.HM,vS k b.g5.length n,vS l b.HI.length p,vS m b.HE.length q]) (i:=0) Fy rfl (by kernel_rfl) rfl rfl J V rfl (fun w G hG=>⟨k,n,l,p,m,q,rfl,hG⟩) rfl rfl ?_;intro aA ak aq aC au hf;exact rt
   exact rt
 rintro e aD ⟨d,f,hE,av⟩;obtain ⟨e,rfl⟩:=hE.out;have h:=K;exact rt
instance k_329:Ct prog 329:=⟨by kernel_rfl,@A1⟩
theorem uJ {w0 N m r} (h:k4 N m=some r) {b f d} (g:f=m.Hz.length) (i:rb w0 b d m.Hz) :
    gZ prog 115 #[.agg #[vS b f d]] w0 (fun v w=>v=.bool r∧St w0 [] w []):=by
 subst g;unfold k4 at h;refine gZ.fn func115 fun e=>?_;have H:=St.start w0;refine T ?_;intro X Y n;refine gc h ?_ ?_<;>intro _ h
 · exact rt
 refine go ?_;obtain ⟨k,l,j⟩:=ob h;refine CW.mono (CW.lx [1] [0] [] 0 (fun q=>[(3,vI q)]) (RT prog f115.results (fun u=>.bool u) w0 []) n l (hb:=?_)) ?_
 · intro q e Z o I h;refine gc h ?_ ?_<;>intro _ h
   · refine gb h fun aa p h=>?_;obtain ⟨G,O,z,rfl,A,L,M,rfl,B⟩:=i.idx p;refine go ?_;refine T ?_;intro W C h U J;refine CW.fl [1,3,21] fun e=>?_;refine gc h ?_ ?_<;>intro _ h
     · exact rt
     exact rt
   exact rt
 intro x e V hM;rcases k with k | R
 · obtain ⟨rfl,hM⟩:=hM;obtain ⟨e,rfl,K⟩:=eo hM;rw [show e=ij e [] from rfl];have h:=j;exact rt
 obtain ⟨rfl,u,rfl,hM⟩:=hM;cases j;exact And.intro trivial hM
instance k_115:Ct prog 115:=⟨by kernel_rfl,@uJ⟩
theorem xh {w0 N q r} (h:mR N q=some r) {d g f} (i:g=q.length) (b:rb w0 d f q) :
    gZ prog 116 #[vS d g f] w0 (fun v w=>v=.bool r∧St w0 [] w []):=by
 subst i;unfold mR at h;refine gZ.fn func116 fun e=>?_;have z:=St.start w0;refine go ?_;obtain ⟨l,n,j⟩:=ob h;refine CW.mono (CW.lx [0] [] [] 0 (fun C=>[(3,vI C)]) (RT prog f116.results (fun u=>.bool u) w0 []) z n (hb:=?_)) ?_
 · intro C e ap o k h;refine gc h ?_ ?_<;>intro _ h
   · refine gs ?_;refine CW.block ?_;refine gs ?_;obtain ⟨W,A,I⟩:=ob h;refine CW.jn [0,3] [] [(31,.bool W)] k (h1:=?_) (h2:=?_)
     · have h:=A;refine dW ?_;have Y:=k.drew;refine gb h fun aq B h=>?_;obtain ⟨ao,ae,G,rfl,J,ac,ad,rfl,M⟩:=b.idx B;refine go ?_;refine T ?_;intro am V h ai Z;refine bH h ?_ ?_<;>intro _ h
       · exact rt
       refine gB h ?_ ?_<;>intro L h
       · refine go ?_;refine T ?_;have ⟨an,p,h⟩:=ob h;obtain ⟨X,af,H,hae,K,R,U,m,O⟩:=b.idx p;cases hae;obtain rfl:=m;refine go ?_;refine T ?_;exact rt
       exact rt
     intro e aj aa;have h:=I;refine gc h ?_ ?_<;>intro _ h
     · exact rt
     exact rt
   exact rt
 intro x e ak hM;rcases l with l | ah
 · obtain ⟨rfl,hM⟩:=hM;obtain ⟨e,rfl,ab⟩:=eo hM;rw [show e=ij e [] from rfl];have h:=j;exact rt
 obtain ⟨rfl,u,rfl,hM⟩:=hM;cases j;exact And.intro trivial hM
instance k_116:Ct prog 116:=⟨by kernel_rfl,@xh⟩
theorem C5 {w0 N b r} (h:nB N b=some r) :
    gZ prog 180 #[vI b] w0 (fun v w=>v=.bool r∧St w0 [] w []):=by
 unfold nB at h;refine gZ.fn func180 fun e=>?_;have d:=St.start w0;refine T ?_;intro j g h i f;exact rt
instance k_180:Ct prog 180:=⟨by kernel_rfl,@C5⟩
theorem xw {w0 N b r} (h:ky N b=some r) :
    gZ prog 262 #[vI b] w0 (fun v w=>v=.bool r∧St w0 [] w []):=by
 unfold ky at h;refine gZ.fn func262 fun e=>?_;have d:=St.start w0;refine T ?_;intro j g h i f;exact rt
instance k_262:Ct prog 262:=⟨by kernel_rfl,@xw⟩
theorem yK {w0 N b r} (h:jS N b=some r) :
    gZ prog 127 #[vI b] w0 (fun v w=>v=.bool r∧St w0 [] w []):=by
 unfold jS at h;refine gZ.fn func127 fun e=>?_;have d:=St.start w0;refine T ?_;intro j g h i f;exact rt
instance k_127:Ct prog 127:=⟨by kernel_rfl,@yK⟩
theorem Au {w0 N b r} (h:j9 N b=some r) :
    gZ prog 97 #[vI b] w0 (fun v w=>v=.bool r∧St w0 [] w []):=by
 unfold j9 at h;refine gZ.fn func97 fun e=>?_;have d:=St.start w0;refine T ?_;intro j g h i f;exact rt
instance k_97:Ct prog 97:=⟨by kernel_rfl,@Au⟩
theorem AK {w0 N u r} (h:oE N u=some r) {k n l} (p:n=u.length) (q:rb w0 k l u) :
    gZ prog 335 #[vS k n l] w0 (fun v w=>∃ x z,v=vS x r.length z∧St w0 [] w [sl x z r]):=by
 subst p;unfold oE at h;refine gZ.fn func335 fun e=>?_;have H:=St.start w0;refine go ?_;refine LW.b0 (α:=iA) H ?_;intro R U av I hf;refine go ?_;obtain ⟨an,A,C⟩:=ob h;refine CW.ie A 0 (fun m e wb=>∃ (b:Ad) (d:Nat),En e [(0,vS k u.length l),(3,vS b m.1.length d),(4,vI m.2)]∧St w0 [] wb [sl b d m.1]) ?_ ⟨R,U,I.po [0]⟩ ?_
 · intro m e aw o hM h;obtain ⟨b,d,hE,af⟩:=hM;obtain ⟨e,rfl⟩:=hE.out;refine gc h ?_ ?_<;>intro _ h
   · refine gb h fun ax O h=>?_;obtain ⟨ac,am,V,rfl,W,aj,ak,⟨aa,ad,rfl,Y⟩,X⟩:=q.idx O;refine go ?_;refine T ?_;intro j Z h f g ap J;refine LW.bd [(0,vS f j.length g)] #[vS f j.length g] ?_;have K:=J.pk (M:=[sl f g j]++[sl b d m.1]) [0,1];have ⟨au,B,h⟩:=ob h;refine LW.kr (M:=[sl f g j]) (L:=[sl b d m.1]) (vs:=#[vS f j.length g]) (i:=0) F5 rfl (by kernel_rfl) rfl rfl B K rfl (fun w G hG=>⟨f,g,rfl,hG⟩) rfl rfl ?_;intro ao ab ae aq ah hf;exact rt
   exact rt
 rintro e ar ⟨b,d,hE,ai⟩;obtain ⟨e,rfl⟩:=hE.out;have h:=C;exact rt
instance k_335:Ct prog 335:=⟨by kernel_rfl,@AK⟩
theorem tz {w0} {F:List Nat} {N b ac r} (h:mK N b ac=some r) {f B d} (H:B=b.ag.length) {g C j} (I:C=b.gc.gQ.length) (hS:St w0 F w0 [sl f d b.ag,sl g j b.gc.gQ]) :
    gZ prog 332 #[.agg #[vS f B d,vI b.gc.HD,vI b.gc.HL,vI b.gc.HF,vS g C j],vI ac] w0 (fun v w=>∃ o q, ∃ p u,v=.agg #[vS o r.ag.length q,vI r.gc.HD,vI r.gc.HL,vI r.gc.HF,vS p r.gc.gQ.length u]∧St w0 F w [sl o q r.ag,sl p u r.gc.gQ]):=by
 subst H I;unfold mK at h;refine gZ.fn func332 fun e=>?_;refine T ?_;intro W a8 aP X a9 z;obtain ⟨ax,ae,ai⟩:=ob h;refine CW.jn [1,2,4] [0,1,2,3] [(26,.bool ax)] z (h1:=?_) (h2:=?_)
 · have h:=ae;refine gB h ?_ ?_<;>intro _ h
   · refine gb h fun ba U h=>?_;obtain ⟨aJ,aV,hae,aU,ap⟩:=z.im (α:=cd) (i:=2) rfl U;subst hae;refine go ?_;obtain ⟨aE,m,K⟩:=z.freeze (α:=cd) 2 rfl;obtain ⟨aK,aW,ah,hae,am,_,_,Z,an⟩:=m.jB.idx U;cases hae;obtain ⟨aF,aL,aG,aM,aH,aN,rfl,ar,au,av⟩:=Z;refine T ?_;refine bH h ?_ ?_<;>intro _ h
     · refine go ?_;refine T ?_;have aQ:=K.iH (α:=cd) 2 rfl m;exact rt
     refine go ?_;have aR:=K.iH (α:=cd) 2 rfl m;exact rt
   exact rt
 intro e aY O;have h:=ai;refine gs ?_;obtain ⟨x,aa,ad⟩:=ob h;refine CW.cut (fun e wb=>∃ (k:Ad) (l:Nat),En e [(2,.pointer (some ⟨W,0,none⟩)),(4,.pointer (some ⟨X,0,none⟩))]∧St w0 F wb [bx X 45 [vS none 0 0,vI 0,vI 0,vI 0,vS none 0 0],bx W 45 [vS f x.1.length d,vI b.gc.HD,vI b.gc.HL,vI b.gc.HF,vS k x.2.length l],sl f d x.1,sl k l x.2]) ?_ ?_
 · have h:=aa;refine gc h ?_ ?_<;>intro _ h
   · refine gb h fun a5 A h=>?_;obtain ⟨J,V,hae,ao,aq⟩:=O.im (α:=cd) (i:=2) rfl A;subst hae;refine go ?_;refine gb h fun af n h=>?_;refine LW.se 9 O 2 A n (hM:=(kz (fun w cs F hF=>by obtain ⟨ay,aB,az,aC,aA,aD,rfl,hH⟩:=hF;exact ⟨ay,aB,az,aC,aA,aD,rfl,hH⟩))) fun aZ aS=>?_;refine T ?_;intro a6 aw h a0 R;refine CW.fl [1,2,4,37] fun e=>?_;refine gc h ?_ ?_<;>intro _ h
     · refine gb h fun a7 ab h=>?_;refine LW.kr (M:=[]) (L:=[bx X 45 [vS none 0 0,vI 0,vI 0,vI 0,vS none 0 0],bx W 45 [vS (some ⟨J,V,none⟩) b.ag.length d,vI b.gc.HD,vI b.gc.HL,vI b.gc.HF,vS g b.gc.gQ.length j],sl (some ⟨J,V,none⟩) d af,sl g j b.gc.gQ]) (vs:=#[vI ac]) (i:=3) mX rfl (by kernel_rfl) rfl rfl ab R rfl (fun w G hG=>by cases (show G=[] from hG);exact ⟨rfl,rfl⟩) rfl rfl ?_;intro aX aI aO a1 aT hf;refine T ?_;intro a2 Y;rw [ik (oi n)] at Y;exact rt
     refine go ?_;rw [ik (oi n)] at R;exact rt
   exact rt
 rintro e a3 ⟨k,l,hE,aj⟩;obtain ⟨e,rfl⟩:=hE.out;have h:=ad;refine T ?_;intro a4 ak;exact rt
instance k_332:Ct prog 332:=⟨by kernel_rfl,@tz⟩
theorem zj {w0 N m r} (h:nf N m=some r) {b f d} (g:f=m.Hz.length) (i:rb w0 b d m.Hz) :
    gZ prog 204 #[.agg #[vS b f d]] w0 (fun v w=>v=.bool r∧St w0 [] w []):=by
 subst g;unfold nf at h;refine gZ.fn func204 fun e=>?_;have G:=St.start w0;refine T ?_;intro X Y n;refine go ?_;obtain ⟨k,l,j⟩:=ob h;refine CW.mono (CW.lx [1,6,7] [0] [1] 0 (fun q=>[(8,vI q)]) (RT prog f204.results (fun u=>.bool u) w0 []) n l (hb:=?_)) ?_
 · intro q e Z o H h;refine gc h ?_ ?_<;>intro _ h
   · refine gb h fun aa p h=>?_;obtain ⟨W,M,z,rfl,A,K,L,rfl,B⟩:=i.idx p;refine go ?_;refine T ?_;intro V C h R I;refine CW.fl [1,6,7,8,14] fun e=>?_;refine gc h ?_ ?_<;>intro _ h
     · exact rt
     exact rt
   exact rt
 intro x e U hM;rcases k with k | O
 · obtain ⟨rfl,hM⟩:=hM;obtain ⟨e,rfl,J⟩:=eo hM;have h:=j;exact rt
 obtain ⟨rfl,u,rfl,hM⟩:=hM;cases j;exact And.intro trivial hM
instance k_204:Ct prog 204:=⟨by kernel_rfl,@zj⟩
theorem Cg {w0 N q r} (h:qw N q=some r) {d g f} (i:g=q.length) (b:rb w0 d f q) :
    gZ prog 205 #[vS d g f] w0 (fun v w=>v=.bool r∧St w0 [] w []):=by
 subst i;unfold qw at h;refine gZ.fn func205 fun e=>?_;have A:=St.start w0;refine go ?_;obtain ⟨k,n,j⟩:=ob h;refine CW.mono (CW.lx [0,5,6] [] [] 0 (fun H=>[(7,vI H)]) (RT prog f205.results (fun u=>.bool u) w0 []) A n (hb:=?_)) ?_
 · intro H e an o B h;refine gc h ?_ ?_<;>intro _ h
   · refine gb h fun ao C h=>?_;obtain ⟨ak,am,W,rfl,J,aa,ab,rfl,L⟩:=b.idx C;refine go ?_;refine T ?_;obtain ⟨G,m,z⟩:=ob h;refine CW.jn [0,5,6,7] [] [(27,.bool G)] B (h1:=?_) (h2:=?_)
     · have h:=m;refine T ?_;intro ai U h ae X;refine bH h ?_ ?_<;>intro _ h
       · exact rt
       refine gB h ?_ ?_<;>intro _ h
       · refine gb h fun aj p h=>?_;obtain ⟨V,ac,I,hae,K,O,R,l,M⟩:=b.idx p;cases hae;obtain rfl:=l;refine go ?_;refine T ?_;exact rt
       exact rt
     intro e af Y;have h:=z;refine gc h ?_ ?_<;>intro _ h
     · exact rt
     exact rt
   exact rt
 intro x e ah hM;rcases k with k | ad
 · obtain ⟨rfl,hM⟩:=hM;obtain ⟨e,rfl,Z⟩:=eo hM;rw [show e=ij e [] from rfl];have h:=j;exact rt
 obtain ⟨rfl,u,rfl,hM⟩:=hM;cases j;exact And.intro trivial hM
instance k_205:Ct prog 205:=⟨by kernel_rfl,@Cg⟩
theorem vh {w0 N i j r} (h:lS N i j=some r) {b f d} (g:f=i.length) (k:rb w0 b d i) :
    gZ prog 155 #[vS b f d,vI j] w0 (fun v w=>v=.bool r∧St w0 [] w []):=by
 subst g;unfold lS at h;refine gZ.fn func155 fun e=>?_;have l:=St.start w0;refine T ?_;intro p n h o m;exact rt
instance k_155:Ct prog 155:=⟨by kernel_rfl,@vh⟩
theorem mr {w0} {F:List Nat} {N g o r} (h:ic N g o=some r) {j:Nat} {d f} (p:iy (ja w0 F) w0 d f g.b) (hS:St w0 F w0 [bx j 177 [vS d g.b.length f,vI g.i,vI g.h]]) :
    gZ prog 69 #[.pointer (some ⟨j,0,none⟩),vI o] w0 (fun v w=>v=vI r.1∧St w0 F w [bx j 177 [vS d g.b.length f,vI r.2.i,vI r.2.h]]):=by
 unfold ic at h;refine gZ.fn func69 fun e=>?_;refine gc h ?_ ?_<;>intro _ h
 · refine go ?_;replace h:=oi h;subst h;exact Ra ⟨rfl,hS.pk [0]⟩
 refine gc h ?_ ?_<;>intro _ h
 · refine T ?_;intro V G h U l;have ⟨_,n,h⟩:=ob h;refine LW.u (iI.rem rfl rfl (AA n)) rfl ?_;refine go ?_;replace h:=oi h;subst h;exact Ra ⟨rfl,l.pk [0]⟩
 refine T ?_;intro W H h I A M q h J B O x h K C R z h L m;have ⟨_,k,h⟩:=ob h;refine LW.u (iI.rem rfl rfl (AA k)) rfl ?_;refine go ?_;replace h:=oi h;subst h;exact Ra ⟨rfl,m.pk [0]⟩
instance k_69:Ct prog 69:=⟨by kernel_rfl,@mr⟩
theorem yx {w0 N l r} (h:rA N l=some r) :
    gZ prog 43 #[vI l] w0 (fun v w=>∃ j k,v=.agg #[vS j r.Hz.length k]∧St w0 [] w [sl j k r.Hz]):=by
 unfold rA at h;refine gZ.fn func43 fun e=>?_;have U:=St.start w0;refine T ?_;intro n ai V;refine LW.bd [] #[vS none 0 0] ?_;refine T ?_;intro p aj W ak X ao Y h am z;refine gc h ?_ ?_<;>intro _ h
 · refine T ?_;intro an A;cases h;have m:=A.nil (α:=Int);exact And.intro trivial ⟨_,jM.one (hP.b m 2 rfl pS rfl rfl),none,0,rfl,m.pk [0]⟩
 refine go ?_;have B:=z.nil (α:=Int);obtain ⟨Z,q,x⟩:=ob h;refine CW.ie q 0 (fun g e wb=>∃ (d:Ad) (f:Nat),En e [(0,vI l),(2,.pointer (some ⟨n,0,none⟩)),(3,.pointer (some ⟨p,0,none⟩)),(4,vI g.1)]∧St w0 [] wb [bx p 39 [vS d g.2.length f],bx n 39 [vS none 0 0],sl d f g.2]) ?_ ⟨none,0,B.po [1,2,0]⟩ ?_
 · intro g e ab o hM h;obtain ⟨d,f,hE,C⟩:=hM;obtain ⟨e,rfl⟩:=hE.out;refine gc h ?_ ?_<;>intro _ h
   · refine gb h fun ah u h=>?_;refine LW.kr (M:=[]) (L:=[bx p 39 [vS d g.2.length f],bx n 39 [vS none 0 0],sl d f g.2]) (vs:=#[vI l]) (i:=2) mX rfl (by kernel_rfl) rfl rfl u C rfl (fun w G hG=>by cases (show G=[] from hG);exact ⟨rfl,rfl⟩) rfl rfl ?_;intro aa O R ac H hf;refine T ?_;intro ad I;exact rt
   exact rt
 rintro e ae ⟨d,f,hE,J⟩;obtain ⟨e,rfl⟩:=hE.out;have h:=x;refine T ?_;intro af K;exact rt
instance k_43:Ct prog 43:=⟨by kernel_rfl,@yx⟩
end Go.Kx
