import Derived.Test.YtfmfgnhbgcjajaaGreatWa18
import Derived.Test.YtfmfgnhbgcjajaaGreatWa19
namespace Go.Kx
open Go Go.RowKit Go.Proofs
open Tryz
set_option maxRecDepth 10000
set_option maxHeartbeats 8000000
set_option linter.unusedVariables false
set_option linter.unusedSimpArgs false
theorem Mi{w0 N o J r}(h:vU N o J=some r){g m j}(n:m=o.parts.length)(L:rb w0 g j o.parts):
    di prog 36 #[.agg #[vI o.RB,vS g m j],.agg (uE J)] w0 (fun v w=>∃d f,v=.tuple #[.agg #[vI r.1.RB,vS d r.1.parts.length f],.agg #[vI r.2.code,vI r.2.RI]]/\St w0 [] w [sl d f r.1.parts]):=by
 subst n;unfold vU at h;refine di.fS func36 fun e _=>?_;refine T ?_;intro _ _ _ _ _ _ _ _ _ _ _ _;refine gc h ?_ ?_<;>intro _ h
 · refine T ?_;intro _ _ h _ _ _ _;refine LW.bd [] #[vI 0,vI 0] ?_;exact wk
 refine gc h ?_ ?_<;>intro _ h
 · exact wk
 refine gc h ?_ ?_<;>intro _ h
 · refine T ?_;intro K _ h p q _ _ C _ _ _ x;obtain⟨I,A,G⟩:=ob h;refine CW.jn [3,4,5,6] [0,1,2,3,4] [(42,.bool I)] x (h1:=?_) (h2:=?_)
   · have h:=A;exact wk
   intro e _ b;have h:=G;refine gs ?_;obtain⟨u,B,H⟩:=ob h;refine CW.j0 [4,5,6] [2,3] [] [bx C 40 [vI K.RB,vS p u.length q],sl p q u] b ?_ ?_
   · have h:=B;refine CW.fl [3,4,5,6,42] fun e=>?_;refine gc h ?_ ?_<;>intro _ h
     · refine gb h fun _ k h=>?_;obtain⟨_,_,rfl,_,_⟩:=b.dA (α:=bh) (i:=1) rfl k;refine go ?_;refine gb h fun _ l h=>?_;refine LW.se 10 b 1 k l (hM:=(fK (fun w cs F hF=>by obtain⟨M,X,O,Y,R,Z,U,aa,V,ab,W,ac,rfl,hH⟩:=hF;exact⟨M,X,O,Y,R,Z,U,aa,V,ab,W,ac,rfl,hH⟩))) fun _ z=>?_;refine go ?_;rw[dx (oi l)]at z;exact rt
     exact rt
   intro e _ _;have h:=H;refine fm [] #[vI 0,vI 0] ?_;exact wk
 refine T ?_;intro _ _ h _ _ _ _;refine LW.bd [(0,vI 2)] #[vI 2,vI 0] ?_;exact wk
instance k_36:Ct prog 36:={h:=@Mi}
theorem Ak{w0 N ab ac r}(h:rX N ab ac=some r){p C x}(I:C=ab.length)(au:rb w0 p x ab){q H z}(J:H=ac.length)(K:rb w0 q z ac):
    di prog 11 #[vS p C x,vS q H z] w0 (fun v w=>∃m n O R,v=.tuple #[.agg #[vI r.1.RB,vS m r.1.parts.length n],vS O r.2.length R]/\St w0 [] w [sl m n r.1.parts,sl O R r.2]):=by
 subst I J;unfold rX at h;refine di.fS func11 fun e _=>?_;refine T ?_;intro av _ an;obtain⟨ax,aq,aw⟩:=ob h;refine CW.jn [0,1,4] [0] [(19,.bool ax)] an (h1:=?_) (h2:=?_)
 · have h:=aq;exact wk
 intro e _ _;have h:=aw;refine gc h ?_ ?_<;>intro _ h
 · refine fm [] #[vI 0,vS none 0 0] ?_;refine T ?_;intro _ ao;cases h;have ap:=ao.nil (α:=bh);have V:=ap.nil (α:=dt);exact Rc (dE.b V 2 rfl qN rfl rfl) tt ⟨none,0,none,0,rfl,V.pk [1,0]⟩
 refine T ?_;intro _ _ h ad af _ _ U _ _ _ W;refine LW.b0 (α:=dt) W ?_;intro ae ah _ B hf;refine go ?_;obtain⟨_,Y,am⟩:=ob h;refine CW.i4 Y 0 [4,6,24,25] [3] (fun k (d:Ad) (g:Nat) (f:Ad) (j:Nat)=>[(7,vS d k.1.length g),(26,vI k.2.1)]) (fun k d g f j=>[sl d g k.1,bx U 40 [vI k.2.2.1,vS f k.2.2.2.length j],sl f j k.2.2.2]) B ?_ ?_ ?_
 · exact⟨ae,ah,ad,af,B.po [3,0,1,2]⟩
 · intro k e d g f j _ o _ h;refine gc h ?_ ?_<;>intro _ h
   · refine gb h fun ar Z h=>?_;obtain⟨_,_,_,rfl,_,_,_,rfl,_⟩:=K.idx Z;refine go ?_;refine T ?_;intro ai _ _ _ _ l _ h u A _ _ aj _ _ ak _ _;refine T ?_;intro _ _ _ _ _ X;have⟨_,aa,h⟩:=ob h;refine LW.fZ (M:=[]) (L:=[bx ak 78 [vI l.2.code,vI l.2.RI],bx aj 40 [vI l.1.RB,vS u l.1.parts.length A],sl u A l.1.parts,bx ai 65 (qE ar),bx av 40 [vI 0,vS none 0 0],sl d g k.1,bx U 40 [vI l.1.RB,vS u l.1.parts.length A],sl f j k.2.2.2]) (vs:=#[vI l.2.code,vI l.2.RI]) (i:=5) Ip rfl (by kernel_rfl) rfl rfl aa X rfl (fun w G hG=>by cases(show G=[] from hG);exact⟨rfl,rfl⟩) rfl rfl ?_;intro _ _ _ _ _ hf;exact rt
   exact rt
 intro e d g f j _ _;have h:=am;exact wk
instance k_11:Ct prog 11:={h:=@Ak}
theorem pC{w0 N ac ad K r}(h:ka N ac ad K=some r){m z p}(C:z=ac.length)(am:rb w0 m p ac){n A q}(H:A=ad.length)(J:rb w0 n q ad){g B j}(I:B=K.Ro.length)(an:rb w0 g j K.Ro):
    di prog 15 #[vS m z p,vS n A q,.agg #[vS g B j]] w0 (fun v w=>∃O R,v=vS O r.length R/\St w0 [] w [sl O R r]):=by
 subst C H I;unfold ka at h;refine di.fS func15 fun e _=>?_;refine T ?_;intro aq _ ai;refine LW.b0 (α:=dt) ai ?_;intro ao ap _ _ hf;refine T ?_;intro _ _ h _ _ _ _ _ _ _ _ _ _ U;refine go ?_;obtain⟨_,Z,ah⟩:=ob h;refine CW.i2 Z 0 [0,1,5,19,20] [2,4] (fun f (b:Ad) (d:Nat)=>[(7,vS b f.1.length d),(21,vI f.2)]) (fun f b d=>[sl b d f.1]) U ?_ ?_ ?_
 · exact⟨ao,ap,U.po [2,4,3]⟩
 · intro f e b d ak o V h;refine gf [0,1,5,7,19,20,21,22] fun e=>?_;refine gc h ?_ ?_<;>intro _ h
   · refine gb h fun l x h=>?_;obtain⟨_,_,rfl,_,_⟩:=V.dA (α:=dt) (i:=0) rfl x;refine go ?_;obtain⟨ae,k,_⟩:=V.freeze (α:=dt) 0 rfl;obtain⟨_,_,_,aj,_,_,_,Y,_⟩:=k.fe.idx x;cases aj;obtain rfl:=Y;refine T ?_;intro af _ _ _ W;refine dW ?_;have:=W.drew;refine gb h fun _ aa h=>?_;obtain⟨_,_,_,rfl,_,_,_,rfl,_⟩:=J.idx aa;refine go ?_;refine T ?_;intro _ _ h _ u;refine gc h ?_ ?_<;>intro _ h
     · refine gb h fun _ ab h=>?_;refine LW.fZ (M:=[]) (L:=[bx af 78 [vI l.code,vI l.RI],fz ak ae,bx aq 31 [vS g K.Ro.length j],sl b d f.1]) (vs:=#[vI l.code,vI l.RI]) (i:=3) Ip rfl (by kernel_rfl) rfl rfl ab u rfl (fun w G hG=>by cases(show G=[] from hG);exact⟨rfl,rfl⟩) rfl rfl ?_;intro _ _ _ _ X hf;refine go ?_;have:=X.dZ (α:=dt) 1 rfl k;exact rt
     refine go ?_;have:=u.dZ (α:=dt) 1 rfl k;exact rt
   exact rt
 intro e b d _ _;have h:=ah;exact rt
instance k_15:Ct prog 15:={h:=@pC}
end Go.Kx
