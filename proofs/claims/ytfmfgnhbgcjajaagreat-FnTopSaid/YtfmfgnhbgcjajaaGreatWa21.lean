import Derived.Test.YtfmfgnhbgcjajaaGreatWa18
import Derived.Test.YtfmfgnhbgcjajaaGreatWa19
import Derived.Test.YtfmfgnhbgcjajaaGreatWa20
namespace Go.Kx
open Go Go.RowKit Go.Proofs
open Tryz
set_option maxRecDepth 10000
set_option maxHeartbeats 8000000
set_option linter.unusedVariables false
set_option linter.unusedSimpArgs false
theorem LN{w0 N o J r}(h:vY N o J=some r){g m j}(n:m=o.parts.length)(L:rb w0 g j o.parts):
    dj prog 36 #[.agg #[vI o.Rj,vS g m j],.agg (uE J)] w0 (fun v w=>∃d f,v=.tuple #[.agg #[vI r.1.Rj,vS d r.1.parts.length f],.agg #[vI r.2.code,vI r.2.Rv]]/\St w0 [] w [sl d f r.1.parts]):=by
 subst n;unfold vY at h;refine dj.fS func36 fun e _=>?_;refine T ?_;intro _ _ _ _ _ _ _ _ _ _ _ _;refine gc h ?_ ?_<;>intro _ h
 · refine T ?_;intro _ _ h _ _ _ _;refine LW.bd [] #[vI 0,vI 0] ?_;exact wk
 refine gc h ?_ ?_<;>intro _ h
 · exact wk
 refine gc h ?_ ?_<;>intro _ h
 · refine T ?_;intro K _ h p q _ _ C _ _ _ x;obtain⟨I,A,G⟩:=ob h;refine CW.jn [3,4,5,6] [0,1,2,3,4] [(42,.bool I)] x (h1:=?_) (h2:=?_)
   · have h:=A;exact wk
   intro e _ b;have h:=G;refine gs ?_;obtain⟨u,B,H⟩:=ob h;refine CW.j0 [4,5,6] [2,3] [] [bx C 40 [vI K.Rj,vS p u.length q],sl p q u] b ?_ ?_
   · have h:=B;refine CW.fl [3,4,5,6,42] fun e=>?_;refine gc h ?_ ?_<;>intro _ h
     · refine gb h fun _ k h=>?_;obtain⟨_,_,rfl,_,_⟩:=b.dC (α:=bh) (i:=1) rfl k;refine go ?_;refine gb h fun _ l h=>?_;refine LW.se 10 b 1 k l (hM:=(gf (fun w cs F hF=>by obtain⟨M,X,O,Y,R,Z,U,aa,V,ab,W,ac,rfl,hH⟩:=hF;exact⟨M,X,O,Y,R,Z,U,aa,V,ab,W,ac,rfl,hH⟩))) fun _ z=>?_;refine go ?_;rw[dB (oi l)]at z;exact rt
     exact rt
   intro e _ _;have h:=H;refine fC [] #[vI 0,vI 0] ?_;exact wk
 refine T ?_;intro _ _ h _ _ _ _;refine LW.bd [(0,vI 2)] #[vI 2,vI 0] ?_;exact wk
instance k36:Ct prog 36:={h:=@LN}
theorem LJ{w0 N ab ac r}(h:tZ N ab ac=some r){p C x}(I:C=ab.length)(au:rb w0 p x ab){q H z}(J:H=ac.length)(K:rb w0 q z ac):
    dj prog 11 #[vS p C x,vS q H z] w0 (fun v w=>∃m n O R,v=.tuple #[.agg #[vI r.1.Rj,vS m r.1.parts.length n],vS O r.2.length R]/\St w0 [] w [sl m n r.1.parts,sl O R r.2]):=by
 subst I J;unfold tZ at h;refine dj.fS func11 fun e _=>?_;refine T ?_;intro av _ an;obtain⟨ax,aq,aw⟩:=ob h;refine CW.jn [0,1,4] [0] [(19,.bool ax)] an (h1:=?_) (h2:=?_)
 · have h:=aq;exact wk
 intro e _ _;have h:=aw;refine gc h ?_ ?_<;>intro _ h
 · refine fC [] #[vI 0,vS none 0 0] ?_;refine T ?_;intro _ ao;cases h;have ap:=ao.nil (α:=bh);have V:=ap.nil (α:=dE);exact Rc (dJ.b V 2 rfl sx rfl rfl) tt ⟨none,0,none,0,rfl,V.pk [1,0]⟩
 refine T ?_;intro _ _ h ad af _ _ U _ _ _ W;refine LW.b0 (α:=dE) W ?_;intro ae ah _ B hf;refine go ?_;obtain⟨_,Y,am⟩:=ob h;refine CW.i4 Y 0 [4,6,24,25] [3] (fun k (d:Ad) (g:Nat) (f:Ad) (j:Nat)=>[(7,vS d k.1.length g),(26,vI k.2.1)]) (fun k d g f j=>[sl d g k.1,bx U 40 [vI k.2.2.1,vS f k.2.2.2.length j],sl f j k.2.2.2]) B ?_ ?_ ?_
 · exact⟨ae,ah,ad,af,B.po [3,0,1,2]⟩
 · intro k e d g f j _ o _ h;refine gc h ?_ ?_<;>intro _ h
   · refine gb h fun ar Z h=>?_;obtain⟨_,_,_,rfl,_,_,_,rfl,_⟩:=K.idx Z;refine go ?_;refine T ?_;intro ai _ _ _ _ l _ h u A _ _ aj _ _ ak _ _;refine T ?_;intro _ _ _ _ _ X;have⟨_,aa,h⟩:=ob h;refine LW.hY (M:=[]) (L:=[bx ak 78 [vI l.2.code,vI l.2.Rv],bx aj 40 [vI l.1.Rj,vS u l.1.parts.length A],sl u A l.1.parts,bx ai 65 (qE ar),bx av 40 [vI 0,vS none 0 0],sl d g k.1,bx U 40 [vI l.1.Rj,vS u l.1.parts.length A],sl f j k.2.2.2]) (vs:=#[vI l.2.code,vI l.2.Rv]) (i:=5) QL rfl (by kernel_rfl) rfl rfl aa X rfl (fun w G hG=>by cases(show G=[] from hG);exact⟨rfl,rfl⟩) rfl rfl ?_;intro _ _ _ _ _ hf;exact rt
   exact rt
 intro e d g f j _ _;have h:=am;exact wk
instance k11:Ct prog 11:={h:=@LJ}
theorem B8{w0 N q r}(h:uD N q=some r){b g d}(j:g=q.length)(H:rb w0 b d q):
    dj prog 4 #[vS b g d] w0 (fun v w=>v=.bool r/\St w0 [] w []):=by
 subst j;unfold uD at h;refine dj.fS func4 fun e _=>?_;refine T ?_;intro _ _ h _ _;refine gc h ?_ ?_<;>intro _ h
 · exact rt
 refine T ?_;intro I _ h _ _ _ _ _ _ _ _ h _ _ _ _ _ _ _ _ _ _ A;obtain⟨C,o,x⟩:=ob h;refine CW.jn [0,3,4,5,6] [0,1,2,3,4] [(30,.bool C)] A (h1:=?_) (h2:=?_)
 · have h:=o;exact wk
 intro e _ B;have h:=x;refine gD [0,3,4,5,6,30] fun e=>?_;refine gc h ?_ ?_<;>intro _ h
 · refine gs ?_;obtain⟨G,p,z⟩:=ob h;refine CW.jn [] [] [(2,.bool G)] B (h1:=?_) (h2:=?_)
   · have h:=p;exact wk
   intro e _ _;have h:=z;exact rt
 refine T ?_;intro _ _ h _ k;refine LW.u (dP.quo rfl rfl (by decide)) rfl ?_;refine gb h fun _ f h=>?_;obtain⟨i,_,_,m,n,_⟩:=k.tE (α:=eQ) 4 rfl f;refine LW.u (dP.sub (α:=eQ) (l:=I.2) underlying25 Oe rfl sV (tu rfl) f i m n) rfl ?_;exact wk
instance k4:Ct prog 4:={h:=@B8}
end Go.Kx
