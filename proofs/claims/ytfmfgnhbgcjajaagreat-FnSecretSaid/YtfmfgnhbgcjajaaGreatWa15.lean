import Derived.Test.YtfmfgnhbgcjajaaGreatWa12
import Derived.Test.YtfmfgnhbgcjajaaGreatWa13
import Derived.Test.YtfmfgnhbgcjajaaGreatWa14
namespace Go.Kx
open Go Go.RowKit Go.Proofs
open Tryz
set_option maxRecDepth 10000
set_option maxHeartbeats 8000000
set_option linter.unusedVariables false
set_option linter.unusedSimpArgs false
theorem GB{w0 N d aH r}(h:rH N d aH=some r){C Z L}(af:Z=d.Rp.Ro.length)(aI:rb w0 C L d.Rp.Ro){G aa M}(ah:aa=d.own.length)(aJ:rb w0 G M d.own){H ab O}(ai:ab=d.Rr.length)(aK:rb w0 H O d.Rr){I ac R}(aj:ac=d.py.ag.length)(B:rb w0 I R d.py.ag){J ad U}(ak:ad=d.py.gc.da.length)(aL:rb w0 J U d.py.gc.da){K ae V}(am:ae=d.db.length)(aM:rb w0 K V d.db):
    di prog 178 #[.agg (uP C Z L G aa M H ab O I ac R J ad U K ae V d),vI aH] w0 (fun v w=>∃g o j p k q l x m z n A,v=.tuple #[.agg (uP g r.1.Rp.Ro.length o j r.1.own.length p k r.1.Rr.length q l r.1.py.ag.length x m r.1.py.gc.da.length z n r.1.db.length A r.1),vI r.2]/\St w0 [] w [sl g o r.1.Rp.Ro,sl j p r.1.own,sl k q r.1.Rr,sl l x r.1.py.ag,sl m z r.1.py.gc.da,sl n A r.1.db]):=by
 subst af ah ai aj ak am;unfold rH at h;refine di.fS func178 fun e _=>?_;refine T ?_;intro _ _ _ _ _ _ _ _ h aN aP aO aQ _ _ _ az av aA aw aB _ _ _ _ _ _ _ _ _ h _ _;refine gc h ?_ ?_<;>intro _ h
 · exact wk
 refine T ?_;intro _ aE;refine dW ?_;have:=aE.drew;refine go ?_;refine jP 2 ?_;refine T ?_;intro _ _ h _ _ _ _;refine jP 8 ?_;refine T ?_;intro _ _ h _ an;obtain⟨aF,aq,aD⟩:=ob h;refine CW.jn [2,4,6,7] [1,2,3,4,5,6,7,8,9] [(43,.bool aF)] an (h1:=?_) (h2:=?_)
 · have h:=aq;refine gB h ?_ ?_<;>intro _ h
   · exact rt
   refine gB h ?_ ?_<;>intro _ h
   · exact rt
   refine go ?_;have⟨_,ar,h⟩:=ob h;obtain⟨_,_,_,rfl,_,_,_,⟨_,_,_,_,_,_,rfl,_,_,_⟩,_⟩:=B.idx ar;refine go ?_;refine T ?_;exact rt
 intro e _ ao;have h:=aD;refine gc h ?_ ?_<;>intro _ h
 · exact wk
 refine fA ?_;have:=ao.drew;refine gb h fun _ au h=>?_;obtain⟨_,_,_,rfl,_,_,_,⟨_,_,_,_,_,_,rfl,_,_,_⟩,_⟩:=B.idx au;refine go ?_;refine T ?_;refine AW.u (i:=11) rfl (by kernel_rfl) rfl rfl (dL.build (vs:=[(2,vI 1)]) (cs:=#[vI 0,vI 0,vI 1]) rfl (by kernel_rfl)) ?_;refine jP 10 ?_;refine T ?_;intro _ _ h _ _ _ _ h ax aC _ _ _ _ _ ap;refine dW ?_;have W:=ap.drew;refine go ?_;refine T ?_;have⟨_,X,h⟩:=ob h;obtain⟨ay,aG,rfl,_,_⟩:=W.dA (α:=c6) (i:=5) rfl X;refine go ?_;refine gb h fun _ Y h=>?_;refine T ?_;refine LW.se 8 W 5 X Y (hM:=(fK (fun w cs F hF=>by obtain⟨aR,aU,aS,aV,aT,aW,rfl,hH⟩:=hF;exact⟨aR,aU,aS,aV,aT,aW,rfl,hH⟩))) fun _ _=>?_;refine T ?_;intro _ _;refine T ?_;intro _ f;cases h;rw[dx (oi Y)]at f;exact Rc (dE.b f 8 rfl iE rfl rfl) tt ⟨aN,aP,aO,aQ,ax,aC,(some ⟨ay,aG,none⟩),az,av,aA,aw,aB,rfl,f.pk [2,3,0,5,6,7]⟩
instance k_178:Ct prog 178:={h:=@GB}
theorem D5{w0 N f ak am an aY r}(h:qi N f ak am an aY=some r){B V K}(ad:V=f.Rp.Ro.length)(aZ:rb w0 B K f.Rp.Ro){C W L}(ae:W=f.own.length)(a0:rb w0 C L f.own){G X M}(af:X=f.Rr.length)(a1:rb w0 G M f.Rr){H Y O}(ah:Y=f.py.ag.length)(a2:rb w0 H O f.py.ag){I Z R}(ai:Z=f.py.gc.da.length)(a3:rb w0 I R f.py.gc.da){J aa U}(aj:aa=f.db.length)(a4:rb w0 J U f.db):
    di prog 126 #[.agg (uP B V K C W L G X M H Y O I Z R J aa U f),vI ak,vI am,vI an,.agg (uL aY)] w0 (fun v w=>∃g n i o j p k q l x m z,v=.tuple #[.agg (uP g r.1.Rp.Ro.length n i r.1.own.length o j r.1.Rr.length p k r.1.py.ag.length q l r.1.py.gc.da.length x m r.1.db.length z r.1),.agg #[vI r.2.code,vI r.2.RI]]/\St w0 [] w [sl g n r.1.Rp.Ro,sl i o r.1.own,sl j p r.1.Rr,sl k q r.1.py.ag,sl l x r.1.py.gc.da,sl m z r.1.db]):=by
 subst ad ae af ah ai aj;unfold qi at h;refine di.fS func126 fun e _=>?_;refine T ?_;intro _ _ _ _ _ _ _ _ _ _ _ aW;obtain⟨a5,aX,aV⟩:=ob h;refine CW.jn [1,2,3,5,9,10,11] [0,1,2,3] [(28,.bool a5)] aW (h1:=?_) (h2:=?_)
 · have h:=aX;exact wk
 intro e _ _;have h:=aV;refine gc h ?_ ?_<;>intro _ h
 · refine T ?_;intro _ _ h _ _ _ _ _ _ _ _ _ _ _ _ _ _;refine LW.bd [(0,vI 2)] #[vI 2,vI 0] ?_;exact wk
 refine T ?_;intro _ _ h _ _;refine gc h ?_ ?_<;>intro _ h
 · refine T ?_;intro _ _ h _ _ _ _ _ _ _ _ _ _ _ _ _ _;refine LW.bd [(0,vI 1)] #[vI 1,vI 0] ?_;exact wk
 refine T ?_;intro b _ h ao aw ap ax aq ay ar az au aA av aB _ _;refine LW.bd [(0,.agg #[vS ao b.Rp.Ro.length aw,vS ap b.own.length ax,vS aq b.Rr.length ay,vS ar b.py.ag.length az,vI b.py.gc.Ru,vI b.py.gc.RD,vI b.py.gc.Rv,vS au b.py.gc.da.length aA,vS av b.db.length aB,vI b.RA,vI b.Rz,vI b.dc.cd,vI b.dc.dg,vI b.dc.dn,vI b.du,vI b.Rx]),(1,vI ak),(2,vI am),(3,vI an)] #[vS ao b.Rp.Ro.length aw,vS ap b.own.length ax,vS aq b.Rr.length ay,vS ar b.py.ag.length az,vI b.py.gc.Ru,vI b.py.gc.RD,vI b.py.gc.Rv,vS au b.py.gc.da.length aA,vS av b.db.length aB,vI b.RA,vI b.Rz,vI b.dc.cd,vI b.dc.dg,vI b.dc.dn,vI b.du,vI b.Rx,vI ak,vI am,vI an] ?_;refine T ?_;intro _ _ _ A _ h _ _ _ _ _ _ _ _ _ _;refine CW.fl [5,9,10,11,12,13,14,54] fun e=>?_;refine gc h ?_ ?_<;>intro _ h
 · refine go ?_;refine LW.u (dL.nc rfl) rfl ?_;refine fm [(1,vI A.2.1)] #[vI 0,vI A.2.1] ?_;exact wk
 refine T ?_;intro d _ h aJ aP aK aQ aL aR aM aS aN aT aO aU _ _ aC _ _ _ aF;obtain⟨aH,ab,aD⟩:=ob h;refine CW.jn [10,11,13,15] [0,1,2,3,4,5,6,14,15] [(73,.bool aH)] aF (h1:=?_) (h2:=?_)
 · have h:=ab;exact wk
 intro e _ aG;have h:=aD;refine gs ?_;obtain⟨aI,ac,aE⟩:=ob h;refine CW.j0 [10,11,13,15] [1,2,3,4,5,6,7,8] [] [bx aC 54 [vS aJ d.Rp.Ro.length aP,vS aK d.own.length aQ,vS aL d.Rr.length aR,vS aM d.py.ag.length aS,vI d.py.gc.Ru,vI d.py.gc.RD,vI d.py.gc.Rv,vS aN d.py.gc.da.length aT,vS aO d.db.length aU,vI d.RA,vI d.Rz,vI d.dc.cd,vI d.dc.dg,vI d.dc.dn,vI aI,vI d.Rx]] aG ?_ ?_
 · have h:=ac;refine gc h ?_ ?_<;>intro _ h
   · refine go ?_;refine LW.u (dL.min rfl rfl) rfl ?_;exact wk
   exact rt
 intro e _ _;have h:=aE;refine fm [(0,vI A.1)] #[vI A.1,vI 0] ?_;exact wk
instance k_126:Ct prog 126:={h:=@D5}
theorem Df{w0 N an ao aO aP r}(h:oE N an ao aO aP=some r){Z af aa}(ak:af=an.parts.length)(am:rb w0 Z aa an.parts):
    di prog 131 #[.agg #[vI an.RB,vS Z af aa],vI ao,vI aO,.agg (uL aP)] w0 (fun v w=>∃U V,v=.tuple #[.agg #[vI r.1.RB,vS U r.1.parts.length V],.agg #[vI r.2.code,vI r.2.RI]]/\St w0 [] w [sl U V r.1.parts]):=by
 subst ak;unfold oE at h;refine di.fS func131 fun e _=>?_;refine T ?_;intro _ _ _ _ _ _ ah _ _ ai _ _ R _ h ap K _ _ W _ _ _ aK;obtain⟨aM,aC,aH⟩:=ob h;refine CW.jn [1,2,4,7,8,9,10] [0,1,2,3,4,5] [(27,.bool aM)] aK (h1:=?_) (h2:=?_)
 · have h:=aC;exact wk
 intro e _ aq;have h:=aH;refine gc h ?_ ?_<;>intro _ h
 · refine fm [(0,vI 2)] #[vI 2,vI 0] ?_;exact wk
 refine fA ?_;have:=aq.drew;refine gb h fun _ aF h=>?_;obtain⟨_,_,_,rfl,_,_,_,⟨_,_,_,_,_,_,_,_,_,_,_,_,rfl,_,_,_,_,_,_⟩,_⟩:=am.idx aF;refine go ?_;refine T ?_;intro _ _ h _ ar;refine gc h ?_ ?_<;>intro _ h
 · refine fm [(0,vI 1)] #[vI 1,vI 0] ?_;exact wk
 refine gs ?_;refine CW.region ?_;refine gs ?_;refine CW.block ?_;refine gs ?_;refine CW.region ?_;refine gs ?_;obtain⟨aN,aD,aI⟩:=ob h;refine CW.jn [1,2,4,7,8,9,10] [0,1,2,3,4,5] [(44,.bool aN)] ar (h1:=?_) (h2:=?_)
 · have h:=aD;refine gc h ?_ ?_<;>intro _ h
   · exact rt
   refine gf [1,2,4,7,8,9,10,43,44] fun e=>?_;exact wk
 intro e _ au;have h:=aI;refine gc h ?_ ?_<;>intro _ h
 · refine T ?_;intro _ _ h _ _;refine CW.fl [1,7,8,9,10,11,53] fun e=>?_;refine gc h ?_ ?_<;>intro _ h
   · refine fm [(0,vI 2)] #[vI 2,vI 0] ?_;exact wk
   exact wk
 refine gs ?_;obtain⟨d,aE,aJ⟩:=ob h;refine CW.cut (fun e wb=>∃(C:Nat) (H:Nat) (l:Ad) (q:Nat) (m:Ad) (u:Nat) (n:Ad) (x:Nat) (p:Ad) (A:Nat) (f:Ad) (j:Nat) (g:Ad) (k:Nat),En e [(1,vI ao),(8,.pointer (some ⟨ah,0,none⟩)),(9,.pointer (some ⟨ai,0,none⟩)),(10,.pointer (some ⟨W,0,none⟩)),(12,.pointer (some ⟨C,0,none⟩)),(13,.pointer (some ⟨H,0,none⟩))]/\St w0 [] wb [bx W 40 [vI R.RB,vS ap R.parts.length K],sl ap K R.parts,bx ai 78 [vI 0,vI 0],bx ah 40 [vI 0,vS none 0 0],bx C 54 [vS l d.1.length q,vS m d.2.1.length u,vS n d.2.2.1.length x,vS p d.2.2.2.1.length A,vI d.2.2.2.2.1,vI d.2.2.2.2.2.1,vI d.2.2.2.2.2.2.1,vS f d.2.2.2.2.2.2.2.1.length j,vS g d.2.2.2.2.2.2.2.2.1.length k,vI d.2.2.2.2.2.2.2.2.2.1,vI d.2.2.2.2.2.2.2.2.2.2.1,vI d.2.2.2.2.2.2.2.2.2.2.2.1,vI d.2.2.2.2.2.2.2.2.2.2.2.2.1,vI d.2.2.2.2.2.2.2.2.2.2.2.2.2.1,vI d.2.2.2.2.2.2.2.2.2.2.2.2.2.2.1,vI d.2.2.2.2.2.2.2.2.2.2.2.2.2.2.2.1],bx H 78 [vI d.2.2.2.2.2.2.2.2.2.2.2.2.2.2.2.2.1,vI d.2.2.2.2.2.2.2.2.2.2.2.2.2.2.2.2.2],sl l q d.1,sl m u d.2.1,sl n x d.2.2.1,sl p A d.2.2.2.1,sl f j d.2.2.2.2.2.2.2.1,sl g k d.2.2.2.2.2.2.2.2.1]) ?_ ?_
 · have h:=aE;refine dW ?_;have ab:=au.drew;refine gb h fun _ ae h=>?_;obtain⟨_,_,rfl,_,_⟩:=ab.dA (α:=bh) (i:=1) rfl ae;refine go ?_;obtain⟨_,B,_⟩:=ab.freeze (α:=bh) 1 rfl;obtain⟨_,_,_,aL,_,_,_,aj,_⟩:=B.fe.idx ae;cases aL;obtain⟨_,_,_,_,_,_,_,_,_,_,_,_,rfl,_,_,_,_,_,_⟩:=aj;refine T ?_;have⟨_,_,h⟩:=ob h;refine AW.all (rs:=[10,14,15]) (by kernel_rfl) (by simp) ⟨?_,?_,?_,trivial⟩
   · refine oA ?_;refine T ?_;intro _ _ _ _ _ _ _ _ _ _ _ _ _ _;refine AW.all (rs:=[14,15]) (by kernel_rfl) (by simp) ⟨?_,?_,trivial⟩
     · refine oA ?_;refine T ?_;intro _ _ _ _ _ _ _ _ _ av;have:=av.dZ (α:=bh) 9 rfl B;exact rt
     refine oA ?_;refine T ?_;intro _ _ _;refine jP 14 ?_;refine T ?_;intro _ _ _ _ _ _ aw;have:=aw.dZ (α:=bh) 9 rfl B;exact rt
   · refine oA ?_;refine T ?_;intro _ _ _;refine AW.all (rs:=[10,15]) (by kernel_rfl) (by simp) ⟨?_,?_,trivial⟩
     · refine oA ?_;refine T ?_;intro _ _ _ _ _ _ _ _ _ _ _ _ _ _ _ _ _ _ _ _ ax;have:=ax.dZ (α:=bh) 9 rfl B;exact rt
     refine oA ?_;refine T ?_;intro _ _ _;refine jP 10 ?_;refine T ?_;intro _ _ _ _ _ _ _ _ _ _ _ _ _ _ _ _ _ ay;have:=ay.dZ (α:=bh) 9 rfl B;exact rt
   refine oA ?_;refine T ?_;intro _ _ _;refine AW.all (rs:=[10,14]) (by kernel_rfl) (by simp) ⟨?_,?_,trivial⟩
   · refine oA ?_;refine T ?_;intro _ _ _ _ _ _ _ _ _ _ _ _ _ _ _ _ _ _ _ _ az;have:=az.dZ (α:=bh) 9 rfl B;exact rt
   refine oA ?_;refine T ?_;intro _ _ _;refine jP 10 ?_;refine T ?_;intro _ _ _ _ _ _ _ _ _ _ _ _ _ _ _ _ _ aA;have:=aA.dZ (α:=bh) 9 rfl B;exact rt
 rintro e _ ⟨C,H,l,q,m,u,n,x,p,A,f,j,g,k,hE,ac⟩;obtain⟨e,rfl⟩:=hE.out;have h:=aJ;refine gb h fun aG X h=>?_;obtain⟨J,I,rfl,_,_⟩:=ac.dA (α:=bh) (i:=1) rfl X;refine go ?_;have aB:=ac.pk (M:=[sl l q d.1,sl m u d.2.1,sl n x d.2.2.1,sl p A d.2.2.2.1,sl f j d.2.2.2.2.2.2.2.1,sl g k d.2.2.2.2.2.2.2.2.1]++[bx W 40 [vI R.RB,vS (some ⟨J,I,none⟩) R.parts.length K],sl (some ⟨J,I,none⟩) K R.parts,bx ai 78 [vI 0,vI 0],bx ah 40 [vI 0,vS none 0 0],bx C 54 [vS l d.1.length q,vS m d.2.1.length u,vS n d.2.2.1.length x,vS p d.2.2.2.1.length A,vI d.2.2.2.2.1,vI d.2.2.2.2.2.1,vI d.2.2.2.2.2.2.1,vS f d.2.2.2.2.2.2.2.1.length j,vS g d.2.2.2.2.2.2.2.2.1.length k,vI d.2.2.2.2.2.2.2.2.2.1,vI d.2.2.2.2.2.2.2.2.2.2.1,vI d.2.2.2.2.2.2.2.2.2.2.2.1,vI d.2.2.2.2.2.2.2.2.2.2.2.2.1,vI d.2.2.2.2.2.2.2.2.2.2.2.2.2.1,vI d.2.2.2.2.2.2.2.2.2.2.2.2.2.2.1,vI d.2.2.2.2.2.2.2.2.2.2.2.2.2.2.2.1],bx H 78 [vI d.2.2.2.2.2.2.2.2.2.2.2.2.2.2.2.2.1,vI d.2.2.2.2.2.2.2.2.2.2.2.2.2.2.2.2.2]]) [6,7,8,9,10,11,0,1,2,3,4,5];have⟨_,Y,h⟩:=ob h;refine LW.uR (M:=[sl l q d.1,sl m u d.2.1,sl n x d.2.2.1,sl p A d.2.2.2.1,sl f j d.2.2.2.2.2.2.2.1,sl g k d.2.2.2.2.2.2.2.2.1]) (L:=[bx W 40 [vI R.RB,vS (some ⟨J,I,none⟩) R.parts.length K],sl (some ⟨J,I,none⟩) K R.parts,bx ai 78 [vI 0,vI 0],bx ah 40 [vI 0,vS none 0 0],bx C 54 [vS l d.1.length q,vS m d.2.1.length u,vS n d.2.2.1.length x,vS p d.2.2.2.1.length A,vI d.2.2.2.2.1,vI d.2.2.2.2.2.1,vI d.2.2.2.2.2.2.1,vS f d.2.2.2.2.2.2.2.1.length j,vS g d.2.2.2.2.2.2.2.2.1.length k,vI d.2.2.2.2.2.2.2.2.2.1,vI d.2.2.2.2.2.2.2.2.2.2.1,vI d.2.2.2.2.2.2.2.2.2.2.2.1,vI d.2.2.2.2.2.2.2.2.2.2.2.2.1,vI d.2.2.2.2.2.2.2.2.2.2.2.2.2.1,vI d.2.2.2.2.2.2.2.2.2.2.2.2.2.2.1,vI d.2.2.2.2.2.2.2.2.2.2.2.2.2.2.2.1],bx H 78 [vI d.2.2.2.2.2.2.2.2.2.2.2.2.2.2.2.2.1,vI d.2.2.2.2.2.2.2.2.2.2.2.2.2.2.2.2.2]]) (z:=aG) (z':=(bh.mk (dV.mk d.1) d.2.1 d.2.2.1 (dm.mk d.2.2.2.1 (eS.mk d.2.2.2.2.1 d.2.2.2.2.2.1 d.2.2.2.2.2.2.1 d.2.2.2.2.2.2.2.1)) d.2.2.2.2.2.2.2.2.1 d.2.2.2.2.2.2.2.2.2.1 d.2.2.2.2.2.2.2.2.2.2.1 (de.mk d.2.2.2.2.2.2.2.2.2.2.2.1 d.2.2.2.2.2.2.2.2.2.2.2.2.1 d.2.2.2.2.2.2.2.2.2.2.2.2.2.1) d.2.2.2.2.2.2.2.2.2.2.2.2.2.2.1 d.2.2.2.2.2.2.2.2.2.2.2.2.2.2.2.1)) (o:=0) aB (i:=1) rfl X iE rfl (by show _=I+(ao:Int).toNat*16+0;omega) rfl rfl rfl rfl (whole (fun w G hG=>⟨l,q,m,u,n,x,p,A,f,j,g,k,rfl,hG⟩)) ?_
 intro _ ad hf;rw[oi Y]at ad;refine fA ?_;have:=ad.drew;refine T ?_;intro _ _ _ O;cases h;rw[dx (oi Y)]at O;exact Rc (dE.b O 3 rfl qN rfl rfl) (dE.b O 2 rfl jt rfl rfl) ⟨(some ⟨J,I,none⟩),K,rfl,O.pk [1]⟩
instance k_131:Ct prog 131:={h:=@Df}
theorem L3{w0 N aF r}(h:vL N aF=some r){ar aA au}(aC:aA=aF.parts.length)(aV:rb w0 ar au aF.parts):
    di prog 130 #[.agg #[vI aF.RB,vS ar aA au]] w0 (fun v w=>∃am an,v=.agg #[vI r.RB,vS am r.parts.length an]/\St w0 [] w [sl am an r.parts]):=by
 subst aC;unfold vL at h;refine di.fS func130 fun e _=>?_;refine T ?_;intro _ _ _ aq _ _ _ _ h aW aX _ _ ai _ _ _ aS;obtain⟨aU,aN,aQ⟩:=ob h;refine CW.jn [1,2,3] [0,1,2,3] [(17,.bool aU)] aS (h1:=?_) (h2:=?_)
 · have h:=aN;exact wk
 intro e _ _;have h:=aQ;refine gc h ?_ ?_<;>intro _ h
 · exact wk
 refine T ?_;intro _ av;refine go ?_;obtain⟨_,aD,aH⟩:=ob h;refine CW.i2 aD 0 [2,3] [2] (fun I (J:Ad) (K:Nat)=>[(4,vI I.1)]) (fun I J K=>[bx ai 40 [vI I.2.1,vS J I.2.2.length K],sl J K I.2.2]) av ?_ ?_ ?_
 · exact⟨aW,aX,av.po [2,0,1]⟩
 · intro I e J K _ o _ h;refine gf [2,3,4,27] fun e=>?_;refine gc h ?_ ?_<;>intro _ h
   · refine T ?_;intro H _ h ak O _ _ _ aI;obtain⟨d,aO,aR⟩:=ob h;refine CW.cut (fun e wb=>∃(C:Nat) (X:Ad) (ac:Nat) (Y:Ad) (ad:Nat) (Z:Ad) (ae:Nat) (aa:Ad) (af:Nat) (ab:Ad) (ah:Nat) (R:Ad) (U:Nat),En e [(2,.pointer (some ⟨aq,0,none⟩)),(3,.pointer (some ⟨ai,0,none⟩)),(4,vI I.1),(5,.pointer (some ⟨C,0,none⟩))]/\St w0 [] wb [sl ak O H.parts,bx aq 40 [vI 0,vS none 0 0],bx ai 40 [vI H.RB,vS ak H.parts.length O],bx C 54 [vS X d.1.length ac,vS Y d.2.1.length ad,vS Z d.2.2.1.length ae,vS aa d.2.2.2.1.length af,vI d.2.2.2.2.1,vI d.2.2.2.2.2.1,vI d.2.2.2.2.2.2.1,vS ab d.2.2.2.2.2.2.2.1.length ah,vS R d.2.2.2.2.2.2.2.2.1.length U,vI d.2.2.2.2.2.2.2.2.2.1,vI d.2.2.2.2.2.2.2.2.2.2.1,vI d.2.2.2.2.2.2.2.2.2.2.2.1,vI d.2.2.2.2.2.2.2.2.2.2.2.2.1,vI d.2.2.2.2.2.2.2.2.2.2.2.2.2.1,vI d.2.2.2.2.2.2.2.2.2.2.2.2.2.2.1,vI d.2.2.2.2.2.2.2.2.2.2.2.2.2.2.2],sl X ac d.1,sl Y ad d.2.1,sl Z ae d.2.2.1,sl aa af d.2.2.2.1,sl ab ah d.2.2.2.2.2.2.2.1,sl R U d.2.2.2.2.2.2.2.2.1]) ?_ ?_
     · have h:=aO;refine dW ?_;have aw:=aI.drew;refine gb h fun _ az h=>?_;obtain⟨_,_,rfl,_,_⟩:=aw.dA (α:=bh) (i:=0) rfl az;refine go ?_;obtain⟨_,aj,_⟩:=aw.freeze (α:=bh) 0 rfl;obtain⟨_,_,_,aT,_,_,_,aM,_⟩:=aj.fe.idx az;cases aT;obtain⟨_,_,_,_,_,_,_,_,_,_,_,_,rfl,_,_,_,_,_,_⟩:=aM;refine T ?_;have⟨_,_,h⟩:=ob h;refine AW.all (rs:=[7,8]) (by kernel_rfl) (by simp) ⟨?_,?_,trivial⟩
       · refine oA ?_;refine T ?_;intro _ _ _ _ _ _ _ _ _ _ _ _ _ _ _ _ _ _ aJ;have:=aJ.dZ (α:=bh) 7 rfl aj;exact rt
       refine oA ?_;refine T ?_;intro _ _ _;refine jP 7 ?_;refine T ?_;intro _ _ _ _ _ _ _ _ _ _ _ _ _ _ _ aK;have:=aK.dZ (α:=bh) 7 rfl aj;exact rt
     rintro e _ ⟨C,X,ac,Y,ad,Z,ae,aa,af,ab,ah,R,U,hE,_⟩;obtain⟨e,rfl⟩:=hE.out;have h:=aR;refine T ?_;intro _ _ h _ _ _ _ _ _ _ _ _ _ _ _ _ _ _ _ _ _ h _ _ _ _ _ _ _ _ _ _ _ _ _ _ _ _;have⟨_,aE,h⟩:=ob h;refine LW.u (dL.rem rfl rfl (AY aE)) rfl ?_;refine gs ?_;obtain⟨b,aB,aG⟩:=ob h;refine CW.cut (fun e wb=>∃(j:Ad) (p:Nat) (k:Ad) (q:Nat) (l:Ad) (x:Nat) (m:Ad) (A:Nat) (n:Ad) (B:Nat) (f:Ad) (g:Nat),En e [(2,.pointer (some ⟨aq,0,none⟩)),(3,.pointer (some ⟨ai,0,none⟩)),(4,vI I.1),(5,.pointer (some ⟨C,0,none⟩))]/\St w0 [] wb [sl ak O H.parts,bx aq 40 [vI 0,vS none 0 0],bx ai 40 [vI H.RB,vS ak H.parts.length O],bx C 54 [vS j b.1.length p,vS k b.2.1.length q,vS l b.2.2.1.length x,vS m b.2.2.2.1.length A,vI b.2.2.2.2.1,vI b.2.2.2.2.2.1,vI b.2.2.2.2.2.2.1,vS n b.2.2.2.2.2.2.2.1.length B,vS f b.2.2.2.2.2.2.2.2.1.length g,vI b.2.2.2.2.2.2.2.2.2.1,vI b.2.2.2.2.2.2.2.2.2.2.1,vI b.2.2.2.2.2.2.2.2.2.2.2.1,vI b.2.2.2.2.2.2.2.2.2.2.2.2.1,vI b.2.2.2.2.2.2.2.2.2.2.2.2.2.1,vI b.2.2.2.2.2.2.2.2.2.2.2.2.2.2.1,vI b.2.2.2.2.2.2.2.2.2.2.2.2.2.2.2],sl j p b.1,sl k q b.2.1,sl l x b.2.2.1,sl m A b.2.2.2.1,sl n B b.2.2.2.2.2.2.2.1,sl f g b.2.2.2.2.2.2.2.2.1]) ?_ ?_
     · have h:=aB;refine CW.fl [2,3,4,5,60] fun e=>?_;exact wk
     rintro e _ ⟨j,p,k,q,l,x,m,A,n,B,f,g,hE,ax⟩;obtain⟨e,rfl⟩:=hE.out;have h:=aG;refine go ?_;have⟨aP,ao,h⟩:=ob h;obtain⟨W,V,rfl,_,_⟩:=ax.dA (α:=bh) (i:=0) rfl ao;refine go ?_;have aL:=ax.pk (M:=[sl j p b.1,sl k q b.2.1,sl l x b.2.2.1,sl m A b.2.2.2.1,sl n B b.2.2.2.2.2.2.2.1,sl f g b.2.2.2.2.2.2.2.2.1]++[sl (some ⟨W,V,none⟩) O H.parts,bx aq 40 [vI 0,vS none 0 0],bx ai 40 [vI H.RB,vS (some ⟨W,V,none⟩) H.parts.length O],bx C 54 [vS j b.1.length p,vS k b.2.1.length q,vS l b.2.2.1.length x,vS m b.2.2.2.1.length A,vI b.2.2.2.2.1,vI b.2.2.2.2.2.1,vI b.2.2.2.2.2.2.1,vS n b.2.2.2.2.2.2.2.1.length B,vS f b.2.2.2.2.2.2.2.2.1.length g,vI b.2.2.2.2.2.2.2.2.2.1,vI b.2.2.2.2.2.2.2.2.2.2.1,vI b.2.2.2.2.2.2.2.2.2.2.2.1,vI b.2.2.2.2.2.2.2.2.2.2.2.2.1,vI b.2.2.2.2.2.2.2.2.2.2.2.2.2.1,vI b.2.2.2.2.2.2.2.2.2.2.2.2.2.2.1,vI b.2.2.2.2.2.2.2.2.2.2.2.2.2.2.2]]) [4,5,6,7,8,9,0,1,2,3];have⟨_,ap,h⟩:=ob h;refine LW.uR (M:=[sl j p b.1,sl k q b.2.1,sl l x b.2.2.1,sl m A b.2.2.2.1,sl n B b.2.2.2.2.2.2.2.1,sl f g b.2.2.2.2.2.2.2.2.1]) (L:=[sl (some ⟨W,V,none⟩) O H.parts,bx aq 40 [vI 0,vS none 0 0],bx ai 40 [vI H.RB,vS (some ⟨W,V,none⟩) H.parts.length O],bx C 54 [vS j b.1.length p,vS k b.2.1.length q,vS l b.2.2.1.length x,vS m b.2.2.2.1.length A,vI b.2.2.2.2.1,vI b.2.2.2.2.2.1,vI b.2.2.2.2.2.2.1,vS n b.2.2.2.2.2.2.2.1.length B,vS f b.2.2.2.2.2.2.2.2.1.length g,vI b.2.2.2.2.2.2.2.2.2.1,vI b.2.2.2.2.2.2.2.2.2.2.1,vI b.2.2.2.2.2.2.2.2.2.2.2.1,vI b.2.2.2.2.2.2.2.2.2.2.2.2.1,vI b.2.2.2.2.2.2.2.2.2.2.2.2.2.1,vI b.2.2.2.2.2.2.2.2.2.2.2.2.2.2.1,vI b.2.2.2.2.2.2.2.2.2.2.2.2.2.2.2]]) (z:=aP) (z':=(bh.mk (dV.mk b.1) b.2.1 b.2.2.1 (dm.mk b.2.2.2.1 (eS.mk b.2.2.2.2.1 b.2.2.2.2.2.1 b.2.2.2.2.2.2.1 b.2.2.2.2.2.2.2.1)) b.2.2.2.2.2.2.2.2.1 b.2.2.2.2.2.2.2.2.2.1 b.2.2.2.2.2.2.2.2.2.2.1 (de.mk b.2.2.2.2.2.2.2.2.2.2.2.1 b.2.2.2.2.2.2.2.2.2.2.2.2.1 b.2.2.2.2.2.2.2.2.2.2.2.2.2.1) b.2.2.2.2.2.2.2.2.2.2.2.2.2.2.1 b.2.2.2.2.2.2.2.2.2.2.2.2.2.2.2)) (o:=0) aL (i:=0) rfl ao iE rfl (by show _=V+(I.1:Int).toNat*16+0;omega) rfl rfl rfl rfl (whole (fun w G hG=>⟨j,p,k,q,l,x,m,A,n,B,f,g,rfl,hG⟩)) ?_
     intro _ ay hf;rw[oi ap]at ay;refine go ?_;rw[dx (oi ap)]at ay;exact rt
   exact rt
 intro e J K _ _;have h:=aH;exact wk
instance k_130:Ct prog 130:={h:=@L3}
theorem AN{w0 N l r}(h:ot N l=some r){d k f}(m:k=l.length)(i:rb w0 d f l):
    di prog 8 #[vS d k f] w0 (fun v w=>v=.bool r/\St w0 [] w []):=by
 subst m;unfold ot at h;refine di.fS func8 fun e _=>?_;refine fm [] #[vI 0,vI 0,vI 0] ?_;refine T ?_;intro z _ _ _ K;refine go ?_;obtain⟨q,C,n⟩:=ob h;refine CW.it C (fun g e wb=>En e [(0,vS d l.length f),(3,.pointer (some ⟨z,0,none⟩)),(4,vI g.1)]/\St w0 [] wb [bx z 33 [vI g.2.1,vI g.2.2.1,vI g.2.2.2]]) (fun o x e wb=>match o with|.inl g=>x=.exit 0/\En e [(0,vS d l.length f)]/\St w0 [] wb [bx z 33 [vI g.2.1,vI g.2.2.1,vI g.2.2.2]]|.inr r=>x=.ret/\∃u,u=r/\∃v,gL prog f8.results e wb v/\v=.bool u/\St w0 [] wb []) ?_ (K.po [0]) ?_
 · intro g e _ o hM h;obtain⟨e,rfl,L⟩:=eo hM;refine gs ?_;obtain⟨V,O,U⟩:=ob h;refine CW.jn [0,3,4] [0] [(15,.bool V)] L (h1:=?_) (h2:=?_)
   · have h:=O;exact wk
   intro e _ M;have h:=U;refine gc h ?_ ?_<;>intro _ h
   · refine gs ?_;refine CW.block ?_;refine gs ?_;obtain⟨R,A,I⟩:=ob h;refine CW.jn [0,3,4] [0] [(33,.bool R)] M (h1:=?_) (h2:=?_)
     · have h:=A;refine gb h fun _ G h=>?_;obtain⟨_,_,_,rfl,_,_,_,⟨_,_,_,_,rfl,_,_⟩,_⟩:=i.idx G;exact wk
     intro e _ p;have h:=I;refine gc h ?_ ?_<;>intro _ h
     · exact rt
     refine gs ?_;obtain⟨j,B,J⟩:=ob h;refine CW.j1 [0,3,4] [0] (fun(b:Nat)=>[(5,.pointer (some ⟨b,0,none⟩)),(6,.bool j.2.2.2)]) (fun b=>[bx b 33 [vI j.1,vI j.2.1,vI j.2.2.1]]) p ?_ ?_
     · have h:=B;refine dW ?_;have:=p.drew;refine gb h fun _ H h=>?_;obtain⟨_,_,_,rfl,_,_,_,⟨_,_,_,_,rfl,_,_⟩,_⟩:=i.idx H;refine go ?_;refine T ?_;have⟨_,_,h⟩:=ob h;refine AW.all (rs:=[6,10]) (by kernel_rfl) (by simp) ⟨?_,?_,trivial⟩
       · refine oA ?_;exact wk
       refine oA ?_;refine T ?_;intro _ _ _;refine jP 6 ?_;exact wk
     intro e b _ _;have h:=J;exact wk
   exact rt
 intro x e _ hM;rcases q with q|_
 · obtain⟨rfl,hM⟩:=hM;obtain⟨e,rfl,_⟩:=eo hM;have h:=n;exact wk
 obtain⟨rfl,u,rfl,hM⟩:=hM;cases n;exact And.intro trivial hM
instance k_8:Ct prog 8:={h:=@AN}
theorem K7{w0}{F:List Nat}{N g r}(h:pE N g=some r){j:Nat}{d f}(n:dX (eJ w0 F) w0 d f g.b)(hS:St w0 F w0 [bx j 99 [vS d g.b.length f,vI g.i,vI g.h]]):
    di prog 147 #[.pointer (some ⟨j,0,none⟩)] w0 (fun v w=>v=vI r.1/\St w0 F w [bx j 99 [vS d g.b.length f,vI r.2.i,vI r.2.h]]):=by
 unfold pE at h;refine di.fn func147 fun e=>?_;refine T ?_;intro _ _ h _ k;refine gc h ?_ ?_<;>intro _ h
 · refine go ?_;refine LW.bi [-1,1000000,1000001,999999] k ?_;intro _ _ _ _ hf;refine T ?_;intro _ _ h _ l;replace h:=oi h;subst h;exact Ra ⟨rfl,l.pk [0]⟩
 refine T ?_;intro _ _ h _ m;replace h:=oi h;subst h;exact Ra ⟨rfl,m.pk [0]⟩
instance k_147:Ct prog 147:={h:=@K7}
theorem K4{w0}{F:List Nat}{N g r}(h:sI N g=some r){l:Nat}{d f}(o:dX (eJ w0 F) w0 d f g.b)(hS:St w0 F w0 [bx l 99 [vS d g.b.length f,vI g.i,vI g.h]]):
    di prog 106 #[.pointer (some ⟨l,0,none⟩)] w0 (fun v w=>v=.agg #[vI r.1.cd,vI r.1.dg,vI r.1.dn]/\St w0 F w [bx l 99 [vS d g.b.length f,vI r.2.i,vI r.2.h]]):=by
 unfold sI at h;refine di.fn func106 fun e=>?_;refine T ?_;intro _ _ _ m _ h _ _ n _ h _ _ k _ h _ _;refine LW.bd [(0,vI m.1),(1,vI n.1),(2,vI k.1)] #[vI m.1,vI n.1,vI k.1] ?_;refine T ?_;intro _ j;replace h:=oi h;subst h;exact And.intro trivial ⟨_,gL.one (dE.b j 1 rfl D2 rfl rfl),rfl,j.pk [0]⟩
instance k_106:Ct prog 106:={h:=@K4}
theorem I3{w0 N b d r}(h:qz N b d=some r){f C n}(L:C=b.dk.length)(W:rb w0 f n b.dk){g G p}(M:G=b.Rw.length)(X:rb w0 g p b.Rw){j H q}(O:H=b.Rs.length)(Y:rb w0 j q b.Rs){k I z}(R:I=d.dk.length)(Z:rb w0 k z d.dk){l J A}(U:J=d.Rw.length)(aa:rb w0 l A d.Rw){m K B}(V:K=d.Rs.length)(ab:rb w0 m B d.Rs):
    di prog 83 #[.agg (uO f C n g G p j H q b),.agg (uO k I z l J A m K B d)] w0 (fun v w=>v=.bool r/\St w0 [] w []):=by
 subst L M O R U V;unfold qz at h;refine di.fS func83 fun e _=>?_;refine T ?_;intro _ _ _ _ _ aA;obtain⟨aJ,aF,aI⟩:=ob h;refine CW.jn [2,3] [0,1] [(102,.bool aJ)] aA (h1:=?_) (h2:=?_)
 · have h:=aF;refine gB h ?_ ?_<;>intro _ h
   · exact rt
   refine gB h ?_ ?_<;>intro _ h
   · exact rt
   refine go ?_;refine bH h ?_ ?_<;>intro _ h
   · exact rt
   refine gB h ?_ ?_<;>intro _ h
   · exact rt
   refine gB h ?_ ?_<;>intro _ h
   · exact rt
   refine gB h ?_ ?_<;>intro _ h
   · exact rt
   refine go ?_;refine bH h ?_ ?_<;>intro _ h
   · exact rt
   refine gB h ?_ ?_<;>intro _ h
   · exact rt
   refine gB h ?_ ?_<;>intro _ h
   · exact rt
   refine go ?_;refine LW.u (dL.bne underlying4 rfl rfl) rfl ?_;exact wk
 intro e _ aB;have h:=aI;refine gc h ?_ ?_<;>intro _ h
 · exact rt
 refine go ?_;obtain⟨af,ap,ac⟩:=ob h;refine CW.mono (CW.lx [2,3] [0,1] [2,3] 0 (fun aj=>[(5,vI aj)]) (RT prog f83.results (fun u=>.bool u) w0 []) aB ap (hb:=?_)) ?_
 · intro aj e _ o aC h;refine gc h ?_ ?_<;>intro _ h
   · refine fA ?_;have:=aC.drew;refine gb h fun _ au h=>?_;obtain⟨_,_,_,rfl,_,_,_,rfl,_⟩:=W.idx au;refine go ?_;refine T ?_;have⟨_,av,h⟩:=ob h;obtain⟨_,_,_,rfl,_,_,_,rfl,_⟩:=Z.idx av;refine go ?_;refine T ?_;refine gc h ?_ ?_<;>intro _ h
     · exact rt
     exact rt
   exact rt
 intro x e _ hM;rcases af with af|_
 · obtain⟨rfl,hM⟩:=hM;obtain⟨e,rfl,aD⟩:=eo hM;have h:=ac;refine go ?_;obtain⟨ah,aq,ad⟩:=ob h;refine CW.mono (CW.lx [2,3] [0,1] [2,3] 2 (fun ak=>[(6,vI ak)]) (RT prog f83.results (fun u=>.bool u) w0 []) aD aq (hb:=?_)) ?_
   · intro ak e _ o aE h;refine gc h ?_ ?_<;>intro _ h
     · refine fA ?_;have:=aE.drew;refine gb h fun _ aw h=>?_;obtain⟨_,_,_,rfl,_,_,_,rfl,_⟩:=X.idx aw;refine go ?_;refine T ?_;have⟨_,ax,h⟩:=ob h;obtain⟨_,_,_,rfl,_,_,_,rfl,_⟩:=aa.idx ax;refine go ?_;refine T ?_;refine gc h ?_ ?_<;>intro _ h
       · exact rt
       exact rt
     exact rt
   intro x e _ hM;rcases ah with ah|_
   · obtain⟨rfl,hM⟩:=hM;obtain⟨e,rfl,an⟩:=eo hM;have h:=ad;refine go ?_;obtain⟨ai,ar,ae⟩:=ob h;refine CW.mono (CW.lx [2,3] [0,1] [] 4 (fun am=>[(7,vI am)]) (RT prog f83.results (fun u=>.bool u) w0 []) an ar (hb:=?_)) ?_
     · intro am e _ o ao h;refine gc h ?_ ?_<;>intro _ h
       · refine fA ?_;have:=ao.drew;refine gb h fun aG ay h=>?_;obtain⟨_,_,_,rfl,_,_,_,rfl,_⟩:=Y.idx ay;refine go ?_;refine T ?_;have⟨aH,az,h⟩:=ob h;obtain⟨_,_,_,rfl,_,_,_,rfl,_⟩:=ab.idx az;refine go ?_;refine T ?_;refine AW.u (i:=10) rfl (by kernel_rfl) rfl rfl (dL.Cl MP rfl rfl (fun w=>Ni aG aH w)) ?_;exact wk
       exact rt
     intro x e _ hM;rcases ai with ai|_
     · obtain⟨rfl,hM⟩:=hM;obtain⟨e,rfl,_⟩:=eo hM;rw[show e=dF e [] from rfl];have h:=ae;exact rt
     obtain⟨rfl,u,rfl,hM⟩:=hM;cases ae;exact And.intro trivial hM
   obtain⟨rfl,u,rfl,hM⟩:=hM;cases ad;exact And.intro trivial hM
 obtain⟨rfl,u,rfl,hM⟩:=hM;cases ac;exact And.intro trivial hM
instance k_83:Ct prog 83:={h:=@I3}
theorem L7{w0 N o J r}(h:tM N o J=some r){g m j}(n:m=o.parts.length)(L:rb w0 g j o.parts):
    di prog 85 #[.agg #[vI o.RB,vS g m j],.agg (uE J)] w0 (fun v w=>∃d f,v=.tuple #[.agg #[vI r.1.RB,vS d r.1.parts.length f],.agg #[vI r.2.code,vI r.2.RI]]/\St w0 [] w [sl d f r.1.parts]):=by
 subst n;unfold tM at h;refine di.fS func85 fun e _=>?_;refine T ?_;intro _ _ _ _ _ _ _ _ _ _ _ _;refine gc h ?_ ?_<;>intro _ h
 · refine T ?_;intro _ _ h _ _ _ _;refine LW.bd [] #[vI 0,vI 0] ?_;exact wk
 refine gc h ?_ ?_<;>intro _ h
 · exact wk
 refine gc h ?_ ?_<;>intro _ h
 · refine T ?_;intro K _ h p q _ _ C _ _ _ x;obtain⟨I,A,G⟩:=ob h;refine CW.jn [3,4,5,6] [0,1,2,3,4] [(45,.bool I)] x (h1:=?_) (h2:=?_)
   · have h:=A;exact wk
   intro e _ b;have h:=G;refine gs ?_;obtain⟨u,B,H⟩:=ob h;refine CW.j0 [4,5,6] [2,3] [] [bx C 40 [vI K.RB,vS p u.length q],sl p q u] b ?_ ?_
   · have h:=B;refine CW.fl [3,4,5,6,45] fun e=>?_;refine gc h ?_ ?_<;>intro _ h
     · refine gb h fun _ k h=>?_;obtain⟨_,_,rfl,_,_⟩:=b.dA (α:=bh) (i:=1) rfl k;refine go ?_;refine gb h fun _ l h=>?_;refine LW.se 10 b 1 k l (hM:=(fK (fun w cs F hF=>by obtain⟨M,X,O,Y,R,Z,U,aa,V,ab,W,ac,rfl,hH⟩:=hF;exact⟨M,X,O,Y,R,Z,U,aa,V,ab,W,ac,rfl,hH⟩))) fun _ z=>?_;refine go ?_;rw[dx (oi l)]at z;exact rt
     exact rt
   intro e _ _;have h:=H;refine fm [] #[vI 0,vI 0] ?_;exact wk
 refine T ?_;intro _ _ h _ _ _ _;refine LW.bd [(0,vI 2)] #[vI 2,vI 0] ?_;exact wk
instance k_85:Ct prog 85:={h:=@L7}
theorem DC{w0 N B C r}(h:rT N B C=some r){b i f}(k:i=B.length)(m:rb w0 b f B){d j g}(l:j=C.length)(n:rb w0 d g C):
    di prog 41 #[vS b i f,vS d j g] w0 (fun v w=>v=.bool r/\St w0 [] w []):=by
 subst k l;unfold rT at h;refine di.fS func41 fun e G=>?_;refine gc h ?_ ?_<;>intro _ h
 · exact rt
 refine go ?_;obtain⟨q,z,p⟩:=ob h;refine CW.mono (CW.lx [0,1] [] [] 0 (fun J=>[(5,vI J)]) (RT prog f41.results (fun u=>.bool u) w0 []) G z (hb:=?_)) ?_
 · intro J e _ o H h;refine gc h ?_ ?_<;>intro _ h
   · refine fA ?_;have:=H.drew;refine gb h fun _ I h=>?_;obtain⟨_,_,_,rfl,_,_,_,⟨_,_,_,_,_,_,rfl,_,_,_⟩,_⟩:=m.idx I;refine go ?_;refine T ?_;have⟨_,A,h⟩:=ob h;obtain⟨_,_,_,rfl,_,_,_,⟨_,_,_,_,_,_,rfl,_,_,_⟩,_⟩:=n.idx A;exact wk
   exact rt
 intro x e _ hM;rcases q with q|_
 · obtain⟨rfl,hM⟩:=hM;obtain⟨e,rfl,_⟩:=eo hM;rw[show e=dF e [] from rfl];have h:=p;exact rt
 obtain⟨rfl,u,rfl,hM⟩:=hM;cases p;exact And.intro trivial hM
instance k_41:Ct prog 41:={h:=@DC}
theorem Iu{w0 N i j r}(h:u9 N i j=some r){b f d}(g:f=i.length)(k:rb w0 b d i):
    di prog 28 #[vS b f d,vI j] w0 (fun v w=>v=vI r/\St w0 [] w []):=by
 subst g;unfold u9 at h;refine di.fS func28 fun e _=>?_;refine go ?_;refine LW.u (dL.quo rfl rfl (by decide)) rfl ?_;exact wk
instance k_28:Ct prog 28:={h:=@Iu}
end Go.Kx
