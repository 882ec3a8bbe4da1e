import Derived.Test.YtfmfgnhbgcjajaaGreatWa18
import Derived.Test.YtfmfgnhbgcjajaaGreatWa19
import Derived.Test.YtfmfgnhbgcjajaaGreatWa20
namespace Go.Kx
open Go Go.RowKit Go.Proofs
open Tryz
set_option maxRecDepth 10000
set_option maxHeartbeats 8000000
set_option linter.unusedVariables false
set_option linter.unusedSimpArgs false
theorem Lx{w0 N o J r}(h:vB N o J=some r){g m j}(n:m=o.parts.length)(L:rb w0 g j o.parts):
    dj prog 36 #[.agg #[vI o.Rn,vS g m j],.agg (uE J)] w0 (fun v w=>∃d f,v=.tuple #[.agg #[vI r.1.Rn,vS d r.1.parts.length f],.agg #[vI r.2.code,vI r.2.Rz]]/\St w0 [] w [sl d f r.1.parts]):=by
 subst n;unfold vB at h;refine dj.fS func36 fun e _=>?_;refine T ?_;intro _ _ _ _ _ _ _ _ _ _ _ _;refine gc h ?_ ?_<;>intro _ h
 · refine T ?_;intro _ _ h _ _ _ _;refine LW.bd [] #[vI 0,vI 0] ?_;exact wk
 refine gc h ?_ ?_<;>intro _ h
 · exact wk
 refine gc h ?_ ?_<;>intro _ h
 · refine T ?_;intro K _ h p q _ _ C _ _ _ x;obtain⟨I,A,G⟩:=ob h;refine CW.jn [3,4,5,6] [0,1,2,3,4] [(42,.bool I)] x (h1:=?_) (h2:=?_)
   · have h:=A;exact wk
   intro e _ b;have h:=G;refine gs ?_;obtain⟨u,B,H⟩:=ob h;refine CW.j0 [4,5,6] [2,3] [] [bx C 40 [vI K.Rn,vS p u.length q],sl p q u] b ?_ ?_
   · have h:=B;refine CW.fl [3,4,5,6,42] fun e=>?_;refine gc h ?_ ?_<;>intro _ h
     · refine gb h fun _ k h=>?_;obtain⟨_,_,rfl,_,_⟩:=b.dF (α:=bh) (i:=1) rfl k;refine go ?_;refine gb h fun _ l h=>?_;refine LW.se 10 b 1 k l (hM:=(gg (fun w cs F hF=>by obtain⟨M,X,O,Y,R,Z,U,aa,V,ab,W,ac,rfl,hH⟩:=hF;exact⟨M,X,O,Y,R,Z,U,aa,V,ab,W,ac,rfl,hH⟩))) fun _ z=>?_;refine go ?_;rw[dB (oi l)]at z;exact rt
     exact rt
   intro e _ _;have h:=H;refine fD [] #[vI 0,vI 0] ?_;exact wk
 refine T ?_;intro _ _ h _ _ _ _;refine LW.bd [(0,vI 2)] #[vI 2,vI 0] ?_;exact wk
instance k_36:Ct prog 36:={h:=@Lx}
theorem Ly{w0 N ab ac r}(h:ui N ab ac=some r){p C x}(I:C=ab.length)(au:rb w0 p x ab){q H z}(J:H=ac.length)(K:rb w0 q z ac):
    dj prog 11 #[vS p C x,vS q H z] w0 (fun v w=>∃m n O R,v=.tuple #[.agg #[vI r.1.Rn,vS m r.1.parts.length n],vS O r.2.length R]/\St w0 [] w [sl m n r.1.parts,sl O R r.2]):=by
 subst I J;unfold ui at h;refine dj.fS func11 fun e _=>?_;refine T ?_;intro av _ an;obtain⟨ax,aq,aw⟩:=ob h;refine CW.jn [0,1,4] [0] [(19,.bool ax)] an (h1:=?_) (h2:=?_)
 · have h:=aq;exact wk
 intro e _ _;have h:=aw;refine gc h ?_ ?_<;>intro _ h
 · refine fD [] #[vI 0,vS none 0 0] ?_;refine T ?_;intro _ ao;cases h;have ap:=ao.nil (α:=bh);have V:=ap.nil (α:=dD);exact Rc (dK.b V 2 rfl sy rfl rfl) tt ⟨none,0,none,0,rfl,V.pk [1,0]⟩
 refine T ?_;intro _ _ h ad af _ _ U _ _ _ W;refine LW.b0 (α:=dD) W ?_;intro ae ah _ B hf;refine go ?_;obtain⟨_,Y,am⟩:=ob h;refine CW.i4 Y 0 [4,6,24,25] [3] (fun k (d:Ad) (g:Nat) (f:Ad) (j:Nat)=>[(7,vS d k.1.length g),(26,vI k.2.1)]) (fun k d g f j=>[sl d g k.1,bx U 40 [vI k.2.2.1,vS f k.2.2.2.length j],sl f j k.2.2.2]) B ?_ ?_ ?_
 · exact⟨ae,ah,ad,af,B.po [3,0,1,2]⟩
 · intro k e d g f j _ o _ h;refine gc h ?_ ?_<;>intro _ h
   · refine gb h fun ar Z h=>?_;obtain⟨_,_,_,rfl,_,_,_,rfl,_⟩:=K.idx Z;refine go ?_;refine T ?_;intro ai _ _ _ _ l _ h u A _ _ aj _ _ ak _ _;refine T ?_;intro _ _ _ _ _ X;have⟨_,aa,h⟩:=ob h;refine LW.gE (M:=[]) (L:=[bx ak 78 [vI l.2.code,vI l.2.Rz],bx aj 40 [vI l.1.Rn,vS u l.1.parts.length A],sl u A l.1.parts,bx ai 65 (qE ar),bx av 40 [vI 0,vS none 0 0],sl d g k.1,bx U 40 [vI l.1.Rn,vS u l.1.parts.length A],sl f j k.2.2.2]) (vs:=#[vI l.2.code,vI l.2.Rz]) (i:=5) Qs rfl (by kernel_rfl) rfl rfl aa X rfl (fun w G hG=>by cases(show G=[] from hG);exact⟨rfl,rfl⟩) rfl rfl ?_;intro _ _ _ _ _ hf;exact rt
   exact rt
 intro e d g f j _ _;have h:=am;exact wk
instance k_11:Ct prog 11:={h:=@Ly}
theorem wB{w0 N ae r}(h:ns N ae=some r){k B n}(J:B=ae.length)(av:rb w0 k n ae):
    dj prog 5 #[vS k B n] w0 (fun v w=>v=.bool r/\St w0 [] w []):=by
 subst J;unfold ns at h;refine dj.fS func5 fun e _=>?_;refine T ?_;intro _ _ h _ _;refine gc h ?_ ?_<;>intro _ h
 · exact rt
 refine T ?_;intro af _ h aw ax _ _ _ ap;obtain⟨ar,aa,an⟩:=ob h;refine CW.jn [0,3,4] [0,1] [(26,.bool ar)] ap (h1:=?_) (h2:=?_)
 · have h:=aa;exact wk
 intro e _ _;have h:=an;refine gc h ?_ ?_<;>intro _ h
 · exact rt
 refine T ?_;intro _ _ h _ aq;refine LW.u (dO.quo rfl rfl (by decide)) rfl ?_;refine go ?_;obtain⟨_,j,_⟩:=aq.freeze (α:=dY) 1 rfl;have⟨_,z,h⟩:=ob h;obtain⟨_,_,W,X,_⟩:=ee.su j.fw z;have H:=(j.fw).le;refine LW.u (dO.sub (α:=dY) (l:=af.2) underlying25 L5 rfl sA (sq rfl) z H W X) rfl ?_;refine T ?_;intro C _ h K O _ _ _ _;refine T ?_;intro am _ _ _ _ au _ h ah aj _ R;refine LW.b0 (α:=dY) R ?_;intro _ _ _ p hf;refine gb h fun _ ac h=>?_;refine LW.fX (l:=([]:List dY)) (m:=af.2) D8 rfl rfl (p.rZ 6 rfl j.fw) ac p (i:=0) rfl rfl ?_;intro ai ak _ q hf;refine go ?_;obtain⟨_,ab,ao⟩:=ob h;refine CW.i2 ab 0 [3,5,6,8] [1,2,3,5] (fun f (b:Ad) (d:Nat)=>[(9,vS b f.length d)]) (fun f b d=>[sl b d f]) q ?_ ?_ ?_
 · exact⟨ai,ak,q.po [1,2,3,5,0]⟩
 · intro f e b d _ o U h;refine go ?_;obtain⟨_,g,_⟩:=U.freeze (α:=dY) 4 rfl;have⟨_,A,h⟩:=ob h;obtain⟨_,_,Y,Z,_⟩:=ee.su g.fw A;have I:=(g.fw).le;refine LW.u (dO.sub (α:=dY) (l:=f) underlying25 L5 rfl (sq rfl) sA A I Y Z) rfl ?_;refine T ?_;intro _ _ h _ _ _ _ h _ x;refine CW.fl [3,5,6,8,9,51] fun e=>?_;refine gc h ?_ ?_<;>intro _ h
   · refine fD [(0,vI 1)] #[vI 1,vI 0,vI 0,vI 0,vI 0,vI 0,vI 0,vI 0,vI 0] ?_;have V:=x.dZ (α:=dY) 4 rfl g;have⟨_,ad,h⟩:=ob h;refine LW.gE (M:=[]) (L:=[sl ah aj au,bx am 40 [vI C.1.Rn,vS K C.1.parts.length O],sl K O C.1.parts,sl aw ax af.1,sl b d f]) (vs:=#[vI 1,vI 0,vI 0,vI 0,vI 0,vI 0,vI 0,vI 0,vI 0]) (i:=4) D8 rfl (by kernel_rfl) rfl rfl ad V rfl (fun w G hG=>by cases(show G=[] from hG);exact⟨rfl,rfl⟩) rfl rfl ?_;intro _ _ _ _ _ hf;exact rt
   refine go ?_;have:=x.dZ (α:=dY) 4 rfl g;exact rt
 intro e b d _ _;have h:=ao;exact wk
instance k_5:Ct prog 5:={h:=@wB}
end Go.Kx
