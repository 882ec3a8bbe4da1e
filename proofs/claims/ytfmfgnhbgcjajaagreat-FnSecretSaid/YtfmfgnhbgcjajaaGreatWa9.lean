import Derived.Test.YtfmfgnhbgcjajaaGreatWa6
import Derived.Test.YtfmfgnhbgcjajaaGreatWa7
import Derived.Test.YtfmfgnhbgcjajaaGreatWa8
namespace Go.Kx
open Go Go.RowKit Go.Proofs
open Go.IntKind (i64)
open Tryz
set_option maxRecDepth 10000
set_option maxHeartbeats 8000000
set_option linter.unusedVariables false
set_option linter.unusedSimpArgs false
theorem Bo{w0}{F:List Nat}{N g b r}(h:m7 N g b=some r){ad:Nat}{G K}(aS:dX (eJ w0 F) w0 G K g.Rn.Rp.Ro){H L}(aT:dX (eJ w0 F) w0 H L g.Rn.own){I M j l k m J O}(aU:dX (eJ w0 F) w0 J O g.Rn.db)(hS:St w0 F w0 [bx ad 183 (qC G K H L I M j l k m J O g),sl I M g.Rn.Rr,sl j l g.Rn.py.ag,sl k m g.Rn.py.gc.da]):
    di prog 202 #[.pointer (some ⟨ad,0,none⟩),.agg (uL b)] w0 (fun v w=>∃X aa Y ab Z ac,v=.tuple #[vI r.1,vI r.2.1]/\St w0 F w [bx ad 183 [vS G g.Rn.Rp.Ro.length K,vS H g.Rn.own.length L,vS X r.2.2.Rn.Rr.length aa,vS Y r.2.2.Rn.py.ag.length ab,vI r.2.2.Rn.py.gc.Ru,vI r.2.2.Rn.py.gc.RD,vI r.2.2.Rn.py.gc.Rv,vS Z r.2.2.Rn.py.gc.da.length ac,vS J g.Rn.db.length O,vI r.2.2.Rn.RA,vI r.2.2.Rn.Rz,vI r.2.2.Rn.dc.cd,vI r.2.2.Rn.dc.dg,vI r.2.2.Rn.dc.dn,vI r.2.2.Rn.du,vI r.2.2.Rn.Rx,vI r.2.2.me,vI r.2.2.RB,vI r.2.2.dS],sl X aa r.2.2.Rn.Rr,sl Y ab r.2.2.Rn.py.ag,sl Z ac r.2.2.Rn.py.gc.da]):=by
 unfold m7 at h;refine di.fn func202 fun e=>?_;refine T ?_;intro aL _ an;obtain⟨aW,aR,aV⟩:=ob h;refine CW.jn [0,3] [0,1,2,3,4] [(42,.bool aW)] an (h1:=?_) (h2:=?_)
 · have h:=aR;refine dW ?_;have:=an.drew;exact wk
 intro e _ aO;have h:=aV;refine gc h ?_ ?_<;>intro _ h
 · refine go ?_;replace h:=oi h;subst h;exact Rc tt tt ⟨I,M,j,l,k,m,rfl,aO.pk [1,2,3,4]⟩
 refine T ?_;intro C _ h _ aP;refine CW.fl [0,3,6,7,51] fun e=>?_;refine gc h ?_ ?_<;>intro _ h
 · refine go ?_;replace h:=oi h;subst h;exact Rc tt tt ⟨I,M,j,l,k,m,rfl,aP.pk [0,2,3,4]⟩
 refine fm [(0,vI b.c),(1,vI (i64.wrap (b.c*b.d)))] #[vI b.c,vI (i64.wrap (b.c*b.d)),vI 0] ?_;refine T ?_;intro f _ h V W _ ao;refine CW.fl [0,3,6,65] fun e=>?_;refine gc h ?_ ?_<;>intro _ h
 · refine go ?_;replace h:=oi h;subst h;exact Rc tt tt ⟨V,W,j,l,k,m,rfl,ao.pk [0,1,3,4]⟩
 refine gs ?_;obtain⟨n,aD,aM⟩:=ob h;refine CW.cut (fun e wb=>∃(z:Nat) (o:Ad) (q:Nat) (R:Ad) (U:Nat) (p:Ad) (x:Nat),En e [(0,.pointer (some ⟨ad,0,none⟩)),(3,.pointer (some ⟨aL,0,none⟩)),(8,.pointer (some ⟨z,0,none⟩))]/\St w0 F wb [bx ad 183 [vS G g.Rn.Rp.Ro.length K,vS H g.Rn.own.length L,vS V f.2.Rn.Rr.length W,vS j g.Rn.py.ag.length l,vI f.2.Rn.py.gc.Ru,vI f.2.Rn.py.gc.RD,vI f.2.Rn.py.gc.Rv,vS k g.Rn.py.gc.da.length m,vS J g.Rn.db.length O,vI f.2.Rn.RA,vI f.2.Rn.Rz,vI f.2.Rn.dc.cd,vI f.2.Rn.dc.dg,vI f.2.Rn.dc.dn,vI f.2.Rn.du,vI f.2.Rn.Rx,vI f.2.me,vI f.2.RB,vI f.2.dS],sl V W f.2.Rn.Rr,bx aL 63 (qL b),sl j l g.Rn.py.ag,sl k m g.Rn.py.gc.da,bx z 96 [vI 0,vI b.a,vI C.1,vI b.e,vI (i64.wrap (f.2.RB+b.d)),vI b.c,vI 0,vI 0,vI 0,.bool false,vS o n.1.length q,vS R n.2.1.length U,vS p n.2.2.length x],sl o q n.1,sl R U n.2.1,sl p x n.2.2]) ?_ ?_
 · have h:=aD;refine dW ?_;have aq:=ao.drew;refine go ?_;refine AW.all (rs:=[14,16]) (by kernel_rfl) (by simp) ⟨?_,?_,trivial⟩
   · refine oA ?_;refine LW.bi [-1, -1] aq ?_;intro ai ak _ _ hf;refine T ?_;refine AW.u (i:=15) rfl (by kernel_rfl) rfl rfl (dL.build (vs:=[(1,vI b.a),(2,vI C.1),(3,vI b.e),(4,vI (i64.wrap (f.2.RB+b.d))),(5,vI b.c),(10,vS ai (([-1, -1]:List Int).length) ak)]) (cs:=#[vI 0,vI b.a,vI C.1,vI b.e,vI (i64.wrap (f.2.RB+b.d)),vI b.c,vI 0,vI 0,vI 0,.bool false,vS ai (([-1, -1]:List Int).length) ak,vS none 0 0,vS none 0 0]) rfl (by kernel_rfl)) ?_;refine T ?_;intro _ _ _ _ ar;have au:=ar.nil (α:=Int);have:=au.nil (α:=eL);exact rt
   refine oA ?_;refine T ?_;intro _ _ av;refine jP 14 ?_;refine LW.bi [-1, -1] av ?_;intro aj am _ _ hf;refine T ?_;refine AW.u (i:=15) rfl (by kernel_rfl) rfl rfl (dL.build (vs:=[(1,vI b.a),(2,vI C.1),(3,vI b.e),(4,vI (i64.wrap (f.2.RB+b.d))),(5,vI b.c),(10,vS aj (([-1, -1]:List Int).length) am)]) (cs:=#[vI 0,vI b.a,vI C.1,vI b.e,vI (i64.wrap (f.2.RB+b.d)),vI b.c,vI 0,vI 0,vI 0,.bool false,vS aj (([-1, -1]:List Int).length) am,vS none 0 0,vS none 0 0]) rfl (by kernel_rfl)) ?_;refine T ?_;intro _ aw;have ax:=aw.nil (α:=Int);have:=ax.nil (α:=eL);exact rt
 rintro e _ ⟨z,o,q,R,U,p,x,hE,ae⟩;obtain⟨e,rfl⟩:=hE.out;have h:=aM;refine gs ?_;refine CW.region ?_;refine gs ?_;obtain⟨ap,aE,aN⟩:=ob h;refine CW.j2 [0,8] [0,1,3,4,6,8] (fun(A:Ad) (B:Nat)=>[]) (fun A B=>[bx z 96 [vI 0,vI b.a,vI C.1,vI b.e,vI (i64.wrap (f.2.RB+b.d)),vI b.c,vI 0,vI 0,vI 0,.bool false,vS o n.1.length q,vS A ap.length B,vS p n.2.2.length x],sl A B ap]) ae ?_ ?_
 · have h:=aE;refine gc h ?_ ?_<;>intro _ h
   · refine gb h fun _ aG h=>?_;refine LW.mk lH rfl rfl aG ae rfl ?_;intro _ _ _ _ hf;exact wk
   exact rt
 intro e A B _ ay;have h:=aN;refine fA ?_;have:=ay.drew;refine T ?_;intro _ _ h _ _ _ az;refine gc h ?_ ?_<;>intro _ h
 · refine go ?_;replace h:=oi h;subst h;exact Rc tt tt ⟨V,W,j,l,k,m,rfl,az.pk [1,2,3,4]⟩
 refine go ?_;refine LW.u (dL.nc rfl) rfl ?_;refine T ?_;intro _ _;refine LW.u (dL.nc rfl) rfl ?_;refine T ?_;intro _ _ h aH aJ aI aK _ _;refine LW.u (dL.nc rfl) rfl ?_;refine T ?_;intro _ aA;refine dW ?_;have af:=aA.drew;refine gb h fun _ ah h=>?_;obtain⟨_,_,rfl,_,_⟩:=af.dA (α:=c6) (i:=2) rfl ah;refine go ?_;obtain⟨_,aF,_⟩:=af.freeze (α:=c6) 2 rfl;obtain⟨_,_,_,aQ,_,_,_,aC,_⟩:=aF.fe.idx ah;cases aQ;obtain⟨_,_,_,_,_,_,rfl,_,_,_⟩:=aC;refine T ?_;intro _ _ h _ aB;replace h:=oi h;subst h;exact Rc tt tt ⟨V,W,aH,aJ,aI,aK,rfl,aB.pk [3,4,0,1]⟩
instance k_202:Ct prog 202:={h:=@Bo}
theorem wL{w0 N f ay r}(h:mf N f ay=some r){j J q}(W:J=f.Rp.Ro.length)(az:rb w0 j q f.Rp.Ro){k K u}(X:K=f.own.length)(aA:rb w0 k u f.own){l O x}(Y:O=f.Rr.length)(aB:rb w0 l x f.Rr){m R z}(Z:R=f.py.ag.length)(ac:rb w0 m z f.py.ag){n U A}(aa:U=f.py.gc.da.length)(aC:rb w0 n A f.py.gc.da){p V B}(ab:V=f.db.length)(aD:rb w0 p B f.db):
    di prog 150 #[.agg (uP j J q k K u l O x m R z n U A p V B f),vI ay] w0 (fun v w=>∃ad ae,v=vS ad r.length ae/\St w0 [] w [sl ad ae r]):=by
 subst W X Y Z aa ab;unfold mf at h;refine di.fS func150 fun e _=>?_;refine T ?_;intro aG _ av;refine LW.b0 (α:=Int) av ?_;intro aE aF _ _ hf;refine T ?_;intro _ _ h _ _;refine gc h ?_ ?_<;>intro _ h
 · exact rt
 refine T ?_;intro aH _ h ap aq _ af;refine go ?_;obtain⟨_,am,au⟩:=ob h;refine CW.i2 am 0 [2,6] [0,2] (fun g (b:Ad) (d:Nat)=>[(5,vS b g.1.length d),(7,vI g.2)]) (fun g b d=>[sl b d g.1]) af ?_ ?_ ?_
 · exact⟨aE,aF,af.po [0,2,1]⟩
 · intro g e b d _ o H h;refine gf [2,5,6,7,21] fun e=>?_;refine gc h ?_ ?_<;>intro _ h
   · refine gs ?_;refine CW.block ?_;refine gs ?_;obtain⟨ax,ak,ar⟩:=ob h;refine CW.jn [2,5,6,7] [0,1,2] [(37,.bool ax)] H (h1:=?_) (h2:=?_)
     · have h:=ak;refine gb h fun _ I h=>?_;obtain⟨_,_,rfl,_,_⟩:=H.dA (α:=Bool) (i:=0) rfl I;refine go ?_;obtain⟨_,C,ah⟩:=H.freeze (α:=Bool) 0 rfl;obtain⟨_,_,_,aw,_,_,_,aj,_⟩:=C.fe.idx I;cases aw;obtain rfl:=aj;refine T ?_;refine bH h ?_ ?_<;>intro _ h
       · refine gb h fun _ an h=>?_;obtain⟨_,_,_,rfl,_,_,_,⟨_,_,_,_,_,_,rfl,_,_,_⟩,_⟩:=ac.idx an;refine go ?_;refine T ?_;have:=ah.dZ (α:=Bool) 0 rfl C;exact rt
       refine go ?_;have:=ah.dZ (α:=Bool) 0 rfl C;exact rt
     intro e _ ai;have h:=ar;refine gc h ?_ ?_<;>intro _ h
     · refine gb h fun _ ao h=>?_;refine LW.fZ (M:=[]) (L:=[sl ap aq aH,bx aG 54 (qP j q k u l x m z n A p B f),sl b d g.1]) (vs:=#[vI g.2]) (i:=2) lH rfl (by kernel_rfl) rfl rfl ao ai rfl (fun w G hG=>by cases(show G=[] from hG);exact⟨rfl,rfl⟩) rfl rfl ?_;intro _ _ _ _ _ hf;exact rt
     exact rt
   exact rt
 intro e b d _ _;have h:=au;exact rt
instance k_150:Ct prog 150:={h:=@wL}
theorem Fv{w0 N l o p i r}(h:qf N l o p i=some r){b f d}(g:f=l.length)(q:rb w0 b d l):
    di prog 243 #[vS b f d,vI o,vI p,.agg #[vI i.cd,vI i.dg,vI i.dn]] w0 (fun v w=>∃j k,v=.tuple #[vS j r.1.length k,.bool r.2]/\St w0 [] w [sl j k r.1]):=by
 subst g;unfold qf at h;refine di.fS func243 fun e _=>?_;refine T ?_;intro _ _ _ _ _ h _ _ _ m;obtain⟨x,n,u⟩:=ob h;refine CW.jn [0,2,7,10] [0,1] [(26,.bool x)] m (h1:=?_) (h2:=?_)
 · have h:=n;exact wk
 intro e _ _;have h:=u;exact wk
instance k_243:Ct prog 243:={h:=@Fv}
theorem GC{w0}{F:List Nat}{N d aV aW r}(h:rq N d aV aW=some r){f am m}(au:am=d.Rp.Ro.length){g an n}(av:an=d.own.length){j ao o}(aw:ao=d.Rr.length){ad ap p}(ax:ap=d.py.ag.length){k aq q}(ay:aq=d.py.gc.da.length){l ar x}(az:ar=d.db.length)(hS:St w0 F w0 [sl f m d.Rp.Ro,sl g n d.own,sl j o d.Rr,sl ad p d.py.ag,sl k q d.py.gc.da,sl l x d.db]):
    di prog 232 #[.agg (uP f am m g an n j ao o ad ap p k aq q l ar x d),vI aV,.agg (uL aW)] w0 (fun v w=>∃K W L X M Y O Z R aa U ab,v=.tuple #[.agg (uP K r.1.Rp.Ro.length W L r.1.own.length X M r.1.Rr.length Y O r.1.py.ag.length Z R r.1.py.gc.da.length aa U r.1.db.length ab r.1),.agg #[vI r.2.code,vI r.2.RI]]/\St w0 F w [sl K W r.1.Rp.Ro,sl L X r.1.own,sl M Y r.1.Rr,sl O Z r.1.py.ag,sl R aa r.1.py.gc.da,sl U ab r.1.db]):=by
 subst au av aw ax ay az;unfold rq at h;refine di.fn func232 fun e=>?_;refine T ?_;intro _ _ _ _ _ _ _ _ _ _ _ aB;have⟨aA,aE,h⟩:=ob h;obtain⟨V,ac,rfl,_,_⟩:=aB.dA (α:=c6) (i:=7) rfl aE;refine go ?_;obtain⟨_,A,_⟩:=aB.freeze (α:=c6) 7 rfl;obtain⟨_,_,_,B,_,_,_,aN,_⟩:=A.fe.idx aE;cases B;obtain⟨_,_,_,_,_,_,rfl,_,_,_⟩:=aN;refine T ?_;intro _ _ _ _ aC;obtain⟨ak,aQ,aS⟩:=ob h;refine CW.j1 [3,5,6,7,8] [0,1,2,3,4,5,6,7,8,9,10] (fun(z:Nat)=>[(9,.pointer (some ⟨z,0,none⟩))]) (fun z=>[bx z 33 [vI ak.1,vI ak.2.1,vI ak.2.2]]) aC ?_ ?_
 · have h:=aQ;refine dW ?_;have:=aC.drew;refine gb h fun _ _ h=>?_;refine AW.all (rs:=[5,9]) (by kernel_rfl) (by simp) ⟨?_,?_,trivial⟩
   · refine oA ?_;refine T ?_;intro _ aD;have⟨_,ai,h⟩:=ob h;obtain⟨_,_,rfl,_,_⟩:=aD.dA (α:=dj) (i:=7) rfl ai;refine go ?_;obtain⟨_,af,_⟩:=aD.freeze (α:=dj) 7 rfl;obtain⟨_,_,_,B,_,_,_,aO,_⟩:=af.fe.idx ai;cases B;obtain rfl:=aO;refine T ?_;intro _ _ _ _ aG;have:=aG.dZ (α:=dj) 8 rfl af;exact rt
   refine oA ?_;refine T ?_;intro _ _ _;refine jP 5 ?_;refine T ?_;intro _ ae;have⟨_,aj,h⟩:=ob h;obtain⟨_,_,rfl,_,_⟩:=ae.dA (α:=dj) (i:=8) rfl aj;refine go ?_;obtain⟨_,ah,_⟩:=ae.freeze (α:=dj) 8 rfl;obtain⟨_,_,_,B,_,_,_,aP,_⟩:=ah.fe.idx aj;cases B;obtain rfl:=aP;refine T ?_;intro _ aH;have:=aH.dZ (α:=dj) 8 rfl ah;exact rt
 intro e z _ C;have h:=aS;refine gf [3,5,6,7,8,9,26,27] fun e=>?_;refine gc h ?_ ?_<;>intro _ h
 · refine fA ?_;have:=C.drew;refine go ?_;refine AW.u (i:=3) rfl (by kernel_rfl) rfl rfl (dL.build (vs:=[(1,vI aA.ed)]) (cs:=#[vI 0,vI aA.ed]) rfl (by kernel_rfl)) ?_;refine T ?_;intro _ _ _ aI;cases h;have G:=aI.dZ (α:=c6) 8 rfl A;exact Rc (dE.b G 2 rfl iE rfl rfl) (dE.b G 1 rfl jt rfl rfl) ⟨f,m,g,n,j,o,(some ⟨V,ac,none⟩),p,k,q,l,x,rfl,G.pk [5,6,7,8,9,10]⟩
 refine gc h ?_ ?_<;>intro _ h
 · refine fA ?_;have:=C.drew;refine go ?_;refine AW.u (i:=3) rfl (by kernel_rfl) rfl rfl (dL.build (vs:=[(1,vI aA.ee)]) (cs:=#[vI 0,vI aA.ee]) rfl (by kernel_rfl)) ?_;refine T ?_;intro _ _ _ aJ;cases h;have H:=aJ.dZ (α:=c6) 8 rfl A;exact Rc (dE.b H 2 rfl iE rfl rfl) (dE.b H 1 rfl jt rfl rfl) ⟨f,m,g,n,j,o,(some ⟨V,ac,none⟩),p,k,q,l,x,rfl,H.pk [5,6,7,8,9,10]⟩
 refine gs ?_;refine CW.region ?_;refine gs ?_;obtain⟨aU,aR,aT⟩:=ob h;refine CW.jn [3,5,6,7,9] [1,2,3,4,5,6,7,8,9,10,11] [(39,.bool aU)] C (h1:=?_) (h2:=?_)
 · have h:=aR;exact wk
 intro e _ aK;have h:=aT;refine gc h ?_ ?_<;>intro _ h
 · refine fA ?_;have:=aK.drew;refine T ?_;intro aF _ h _ _;refine AW.u (i:=6) rfl (by kernel_rfl) rfl rfl (dL.build (vs:=[(1,vI aF)]) (cs:=#[vI 0,vI aF]) rfl (by kernel_rfl)) ?_;refine T ?_;intro _ _ _ aL;cases h;have I:=aL.dZ (α:=c6) 7 rfl A;exact Rc (dE.b I 1 rfl iE rfl rfl) (dE.b I 0 rfl jt rfl rfl) ⟨f,m,g,n,j,o,(some ⟨V,ac,none⟩),p,k,q,l,x,rfl,I.pk [4,5,6,7,8,9]⟩
 refine fm [(0,vI 2)] #[vI 2,vI 0] ?_;refine T ?_;intro _ _ _ aM;cases h;have J:=aM.dZ (α:=c6) 7 rfl A;exact Rc (dE.b J 1 rfl iE rfl rfl) (dE.b J 0 rfl jt rfl rfl) ⟨f,m,g,n,j,o,(some ⟨V,ac,none⟩),p,k,q,l,x,rfl,J.pk [4,5,6,7,8,9]⟩
instance k_232:Ct prog 232:={h:=@GC}
theorem JR{w0 N b W r}(h:nY N b W=some r){d u l}(G:u=b.Rp.Ro.length)(X:rb w0 d l b.Rp.Ro){f x m}(H:x=b.own.length)(Y:rb w0 f m b.own){g z n}(I:z=b.Rr.length)(M:rb w0 g n b.Rr){i A o}(J:A=b.py.ag.length)(O:rb w0 i o b.py.ag){j B p}(K:B=b.py.gc.da.length)(Z:rb w0 j p b.py.gc.da){k C q}(L:C=b.db.length)(aa:rb w0 k q b.db):
    di prog 197 #[.agg (uP d u l f x m g z n i A o j B p k C q b),vI W] w0 (fun v w=>v=.agg #[vI r.cd,vI r.dg,vI r.dn]/\St w0 [] w []):=by
 subst G H I J K L;unfold nY at h;refine di.fS func197 fun e _=>?_;refine T ?_;intro _ _ _ _ _ U;refine dW ?_;have:=U.drew;refine gb h fun _ V h=>?_;obtain⟨_,_,_,rfl,_,_,_,⟨_,_,_,_,_,_,rfl,_,_,_⟩,_⟩:=O.idx V;refine go ?_;refine T ?_;intro _ _ h _ _;have⟨_,R,h⟩:=ob h;obtain⟨_,_,_,rfl,_,_,_,rfl,_⟩:=M.idx R;exact wk
instance k_197:Ct prog 197:={h:=@JR}
theorem Je{w0}{F:List Nat}{N f g r}(h:tG N f g=some r){A U J}(aa:U=f.Rp.Ro.length){B V K}(ab:V=f.own.length){C W L}(ac:W=f.Rr.length){G X M}(ad:X=f.py.ag.length){H Y O}(ae:Y=f.py.gc.da.length){I Z R}(af:Z=f.db.length)(hS:St w0 F w0 [sl A J f.Rp.Ro,sl B K f.own,sl C L f.Rr,sl G M f.py.ag,sl H O f.py.gc.da,sl I R f.db]):
    di prog 230 #[.agg (uP A U J B V K C W L G X M H Y O I Z R f),.agg (uL g)] w0 (fun v w=>∃i o j p k q l u m x n z,v=.tuple #[.agg (uP i r.1.Rp.Ro.length o j r.1.own.length p k r.1.Rr.length q l r.1.py.ag.length u m r.1.py.gc.da.length x n r.1.db.length z r.1),.agg #[vI r.2.code,vI r.2.RI]]/\St w0 F w [sl i o r.1.Rp.Ro,sl j p r.1.own,sl k q r.1.Rr,sl l u r.1.py.ag,sl m x r.1.py.gc.da,sl n z r.1.db]):=by
 subst aa ab ac ad ae af;unfold tG at h;refine di.fn func230 fun e=>?_;refine T ?_;intro _ _ _ _ _ _ _ _ _ _ _ ah;refine gc h ?_ ?_<;>intro _ h
 · refine gs ?_;obtain⟨ap,ak,an⟩:=ob h;refine CW.jn [2,3,4,5] [0,1,2,3,4,5,6,7,8,9] [(31,.bool ap)] ah (h1:=?_) (h2:=?_)
   · have h:=ak;refine T ?_;intro _ _ h _ _;refine bH h ?_ ?_<;>intro _ h
     · exact rt
     refine fm [(0,vI g.b),(1,vI g.c),(2,vI g.d)] #[vI g.b,vI g.c,vI g.d] ?_;exact wk
   intro e _ _;have h:=an;refine gc h ?_ ?_<;>intro _ h
   · refine fm [(0,vI 2)] #[vI 2,vI 0] ?_;exact wk
   refine fm [(0,vI g.b),(1,vI g.c),(2,vI g.d)] #[vI g.b,vI g.c,vI g.d] ?_;refine T ?_;intro ai _ h _ _ _ _;refine CW.fl [2,4,5,6,7,51] fun e=>?_;refine gc h ?_ ?_<;>intro _ h
   · refine fm [(0,vI 6)] #[vI 6,vI 0] ?_;exact wk
   refine T ?_;intro _ _;refine LW.bd [(1,vI ai.2.1)] #[vI 0,vI ai.2.1] ?_;exact wk
 refine gc h ?_ ?_<;>intro _ h
 · refine gs ?_;obtain⟨aq,am,ao⟩:=ob h;refine CW.jn [2,3,4,5] [0,1,2,3,4,5,6,7,8,9] [(82,.bool aq)] ah (h1:=?_) (h2:=?_)
   · have h:=am;exact wk
   intro e _ aj;have h:=ao;refine gc h ?_ ?_<;>intro _ h
   · refine fm [(0,vI 2)] #[vI 2,vI 0] ?_;exact wk
   refine fA ?_;have:=aj.drew;refine T ?_;intro _ _ h _ _ _ _ h _ _ _ _;refine gc h ?_ ?_<;>intro _ h
   · refine fm [(0,vI 6)] #[vI 6,vI 0] ?_;exact wk
   refine T ?_;intro _ _;refine LW.bd [] #[vI 0,vI 0] ?_;exact wk
 refine T ?_;intro _ _ h _ _ _ _;refine CW.fl [2,4,5,11,117] fun e=>?_;refine gc h ?_ ?_<;>intro _ h
 · refine fm [(0,vI 2)] #[vI 2,vI 0] ?_;exact wk
 refine T ?_;intro _ _;refine LW.bd [] #[vI 0,vI 0] ?_;exact wk
instance k_230:Ct prog 230:={h:=@Je}
theorem zL{w0 N g r}(h:kX N g=some r){O R H}(U:R=g.parts.length)(V:rb w0 O H g.parts):
    di prog 132 #[.agg #[vI g.RB,vS O R H]] w0 (fun v w=>∃J K,v=.agg #[vI r.RB,vS J r.parts.length K]/\St w0 [] w [sl J K r.parts]):=by
 subst U;unfold kX at h;refine di.fS func132 fun e _=>?_;refine T ?_;intro ah _ _ ai _ _;refine LW.bd [(0,vI g.RB)] #[vI g.RB,vS none 0 0] ?_;refine T ?_;intro aa _ _ _ ak;refine go ?_;have Y:=ak.nil (α:=bh);obtain⟨_,ad,aj⟩:=ob h;refine CW.i2 ad 0 [1,2,3] [2,3] (fun I (d:Ad) (f:Nat)=>[(4,vI I.1)]) (fun I d f=>[bx aa 40 [vI g.RB,vS d I.2.length f],sl d f I.2]) Y ?_ ?_ ?_
 · exact⟨none,0,Y.po [2,3,1,0]⟩
 · intro I e d f _ o am h;refine gf [1,2,3,4,12] fun e=>?_;refine gc h ?_ ?_<;>intro _ h
   · refine fA ?_;have:=am.drew;refine gb h fun _ ae h=>?_;obtain⟨W,Z,_,rfl,_,_,_,⟨_,_,_,_,_,_,_,_,_,_,_,_,rfl,_,_,_,_,_,_⟩,_⟩:=V.idx ae;refine go ?_;refine T ?_;intro b _ h k u l x m z n A p B q C _ an;refine LW.LU (vs:=#[vS k b.Rp.Ro.length u,vS l b.own.length x,vS m b.Rr.length z,vS n b.py.ag.length A,vI b.py.gc.Ru,vI b.py.gc.RD,vI b.py.gc.Rv,vS p b.py.gc.da.length B,vS q b.db.length C,vI b.RA,vI b.Rz,vI b.dc.cd,vI b.dc.dg,vI b.dc.dn,vI b.du,vI b.Rx]) Ai rfl (by kernel_rfl) an rfl ?_;intro X _ ab hf;refine T ?_;have ac:=ab.pk (M:=[sl k u b.Rp.Ro,sl l x b.own,sl m z b.Rr,sl n A b.py.ag,sl p B b.py.gc.da,sl q C b.db]++[bx X 54 (qP k u l x m z n A p B q C b),bx ai 40 [vI 0,vS none 0 0],bx ah 40 [vI g.RB,vS (some ⟨W,Z,none⟩) g.parts.length H],bx aa 40 [vI g.RB,vS d I.2.length f],sl d f I.2]) [1,2,3,4,5,6,0,7,8,9,10];have⟨_,af,h⟩:=ob h;refine T ?_;refine LW.BU (M:=[sl k u b.Rp.Ro,sl l x b.own,sl m z b.Rr,sl n A b.py.ag,sl p B b.py.gc.da,sl q C b.db]) (L:=[bx X 54 (qP k u l x m z n A p B q C b),bx ai 40 [vI 0,vS none 0 0],bx ah 40 [vI g.RB,vS (some ⟨W,Z,none⟩) g.parts.length H],bx aa 40 [vI g.RB,vS d I.2.length f],sl d f I.2]) (vs:=(qP k u l x m z n A p B q C b)) (i:=4) (j:=0) Ai rfl rfl af ac rfl rfl (fun w G hG=>⟨k,u,l,x,m,z,n,A,p,B,q,C,rfl,hG⟩) rfl ?_
     intro _ _ _ _ hf;exact wk
   exact rt
 intro e d f _ _;have h:=aj;exact wk
instance k_132:Ct prog 132:={h:=@zL}
theorem yP{w0}{F:List Nat}{N i j r}(h:kZ N i j=some r){J:Nat}{k p}(ah:dX (eJ w0 F) w0 k p i.Rn.Rp.Ro){l q}(ai:dX (eJ w0 F) w0 l q i.Rn.own){f g m x}(aj:dX (eJ w0 F) w0 m x i.Rn.py.ag){n z}(ak:dX (eJ w0 F) w0 n z i.Rn.py.gc.da){o A}(am:dX (eJ w0 F) w0 o A i.Rn.db)(hS:St w0 F w0 [bx J 183 (qC k p l q f g m x n z o A i),sl f g i.Rn.Rr]):
    di prog 206 #[.pointer (some ⟨J,0,none⟩),.agg (uL j)] w0 (fun v w=>∃B C,v=.tuple #[vI r.1,vI r.2.1]/\St w0 F w [bx J 183 [vS k i.Rn.Rp.Ro.length p,vS l i.Rn.own.length q,vS B r.2.2.Rn.Rr.length C,vS m i.Rn.py.ag.length x,vI r.2.2.Rn.py.gc.Ru,vI r.2.2.Rn.py.gc.RD,vI r.2.2.Rn.py.gc.Rv,vS n i.Rn.py.gc.da.length z,vS o i.Rn.db.length A,vI r.2.2.Rn.RA,vI r.2.2.Rn.Rz,vI r.2.2.Rn.dc.cd,vI r.2.2.Rn.dc.dg,vI r.2.2.Rn.dc.dn,vI r.2.2.Rn.du,vI r.2.2.Rn.Rx,vI r.2.2.me,vI r.2.2.RB,vI r.2.2.dS],sl B C r.2.2.Rn.Rr]):=by
 unfold kZ at h;refine di.fn func206 fun e=>?_;refine T ?_;intro _ _ H;refine gc h ?_ ?_<;>intro _ h
 · refine fm [(0,vI j.b),(1,vI j.c),(2,vI j.d)] #[vI j.b,vI j.c,vI j.d] ?_;refine T ?_;intro _ _ _ _ ab;obtain⟨ao,ae,an⟩:=ob h;refine CW.jn [0,3,6] [0,1,2,3] [(33,.bool ao)] ab (h1:=?_) (h2:=?_)
   · have h:=ae;exact wk
   intro e _ I;have h:=an;refine gf [0,3,6,33] fun e=>?_;refine gc h ?_ ?_<;>intro _ h
   · refine go ?_;replace h:=oi h;subst h;exact Rc tt tt ⟨f,g,rfl,I.pk [2,3]⟩
   refine fA ?_;have:=I.drew;refine T ?_;intro _ _ h U X _ ac;refine gc h ?_ ?_<;>intro _ h
   · refine go ?_;replace h:=oi h;subst h;exact Rc tt tt ⟨f,g,rfl,ac.pk [3,4]⟩
   refine go ?_;refine LW.u (dL.nc rfl) rfl ?_;refine T ?_;intro _ ad;replace h:=oi h;subst h;exact Rc tt tt ⟨U,X,rfl,ad.pk [3,0]⟩
 refine gc h ?_ ?_<;>intro _ h
 · refine gs ?_;obtain⟨af,R,aa⟩:=ob h;refine CW.jn [0,3] [0,1,2] [(78,.bool af)] H (h1:=?_) (h2:=?_)
   · have h:=R;exact wk
   intro e _ G;have h:=aa;refine gc h ?_ ?_<;>intro _ h
   · refine go ?_;replace h:=oi h;subst h;exact Rc tt tt ⟨f,g,rfl,G.pk [1,2]⟩
   refine fA ?_;have:=G.drew;refine T ?_;intro _ _ h _ _ _ _ h V Y _ K;refine gc h ?_ ?_<;>intro _ h
   · refine go ?_;replace h:=oi h;subst h;exact Rc tt tt ⟨f,g,rfl,K.pk [2,3]⟩
   refine go ?_;refine LW.u (dL.nc rfl) rfl ?_;refine T ?_;intro _ L;replace h:=oi h;subst h;exact Rc tt tt ⟨V,Y,rfl,L.pk [2,0]⟩
 refine fA ?_;have:=H.drew;refine T ?_;intro _ _ h W Z _ M;refine gc h ?_ ?_<;>intro _ h
 · refine go ?_;replace h:=oi h;subst h;exact Rc tt tt ⟨f,g,rfl,M.pk [2,3]⟩
 refine go ?_;refine LW.u (dL.nc rfl) rfl ?_;refine T ?_;intro _ O;replace h:=oi h;subst h;exact Rc tt tt ⟨W,Z,rfl,O.pk [2,0]⟩
instance k_206:Ct prog 206:={h:=@yP}
theorem A7{w0}{F:List Nat}{N b L r}(h:mT N b L=some r){A:Nat}{d l}(M:dX (eJ w0 F) w0 d l b.Rn.Rp.Ro){f m}(O:dX (eJ w0 F) w0 f m b.Rn.own){g n}(R:dX (eJ w0 F) w0 g n b.Rn.Rr){i o}(x:dX (eJ w0 F) w0 i o b.Rn.py.ag){j p}(U:dX (eJ w0 F) w0 j p b.Rn.py.gc.da){k q}(V:dX (eJ w0 F) w0 k q b.Rn.db)(hS:St w0 F w0 [bx A 183 (qC d l f m g n i o j p k q b)]):
    di prog 208 #[.pointer (some ⟨A,0,none⟩),vI L] w0 (fun v w=>v=.tuple #[vI r.1,vI r.2.1]/\St w0 F w [bx A 183 [vS d b.Rn.Rp.Ro.length l,vS f b.Rn.own.length m,vS g b.Rn.Rr.length n,vS i b.Rn.py.ag.length o,vI r.2.2.Rn.py.gc.Ru,vI r.2.2.Rn.py.gc.RD,vI r.2.2.Rn.py.gc.Rv,vS j b.Rn.py.gc.da.length p,vS k b.Rn.db.length q,vI r.2.2.Rn.RA,vI r.2.2.Rn.Rz,vI r.2.2.Rn.dc.cd,vI r.2.2.Rn.dc.dg,vI r.2.2.Rn.dc.dn,vI r.2.2.Rn.du,vI r.2.2.Rn.Rx,vI r.2.2.me,vI r.2.2.RB,vI r.2.2.dS]]):=by
 unfold mT at h;refine di.fn func208 fun e=>?_;refine fA ?_;have:=hS.drew;refine gb h fun _ J h=>?_;obtain⟨_,_,_,rfl,_,_,_,⟨_,_,_,_,_,_,rfl,_,_,_⟩,_⟩:=x.idx J;refine go ?_;refine T ?_;intro _ _ _ _ u;refine gc h ?_ ?_<;>intro _ h
 · refine fA ?_;have G:=u.drew;refine go ?_;replace h:=oi h;subst h;exact Rc tt tt ⟨rfl,G.pk [1]⟩
 refine gc h ?_ ?_<;>intro _ h
 · refine fA ?_;have H:=u.drew;refine go ?_;replace h:=oi h;subst h;exact Rc tt tt ⟨rfl,H.pk [1]⟩
 refine gs ?_;refine CW.region ?_;refine gs ?_;obtain⟨K,B,C⟩:=ob h;refine CW.jn [0,1] [1] [(28,.bool K)] u (h1:=?_) (h2:=?_)
 · have h:=B;exact wk
 intro e _ z;have h:=C;refine gc h ?_ ?_<;>intro _ h
 · refine fA ?_;have:=z.drew;refine go ?_;refine jP 8 ?_;refine T ?_;intro _ _ h _ _ _ _ h _ I;replace h:=oi h;subst h;exact Rc tt tt ⟨rfl,I.pk [0]⟩
 refine go ?_;replace h:=oi h;subst h;exact Rc tt tt ⟨rfl,z.pk [0]⟩
instance k_208:Ct prog 208:={h:=@A7}
theorem Mo{w0 N b r}(h:vE N b=some r){d C m}(L:C=b.Rp.Ro.length)(ae:rb w0 d m b.Rp.Ro){f G n}(M:G=b.own.length)(af:rb w0 f n b.own){g H p}(O:H=b.Rr.length)(ah:rb w0 g p b.Rr){j I q}(R:I=b.py.ag.length)(ai:rb w0 j q b.py.ag){k J u}(U:J=b.py.gc.da.length)(aj:rb w0 k u b.py.gc.da){l K z}(V:K=b.db.length)(ak:rb w0 l z b.db):
    di prog 141 #[.agg (uP d C m f G n g H p j I q k J u l K z b)] w0 (fun v w=>v=vI r/\St w0 [] w []):=by
 subst L M O R U V;unfold vE at h;refine di.fS func141 fun e _=>?_;refine T ?_;intro _ _ _ _ _ h _ _ _ ab;refine go ?_;obtain⟨_,Y,aa⟩:=ob h;refine CW.mono (CW.lb [7,8] [0] [3] 0 (fun Z=>[(3,vI Z.1),(9,vI Z.2)]) ab Y (hb:=?_)) ?_
 · intro Z e _ o W h;refine gc h ?_ ?_<;>intro _ h
   · refine gb h fun _ B h=>?_;obtain⟨_,_,rfl,_,_⟩:=W.dA (α:=oo) (i:=0) rfl B;refine go ?_;obtain⟨_,A,_⟩:=W.freeze (α:=oo) 0 rfl;obtain⟨_,_,_,ad,_,_,_,X,_⟩:=A.fe.idx B;cases ad;obtain⟨_,_,_,_,_,_,_,_,_,rfl⟩:=X;refine T ?_;intro _ _ _ _ ac;have:=ac.dZ (α:=oo) 1 rfl A;exact rt
   exact rt
 intro x e _ hM;obtain⟨rfl,hM⟩:=hM;obtain⟨e,rfl,_⟩:=eo hM;have h:=aa;exact rt
instance k_141:Ct prog 141:={h:=@Mo}
theorem GW{w0 N b R U r}(h:o7 N b R U=some r){d u l}(G:u=b.Rp.Ro.length)(V:rb w0 d l b.Rp.Ro){f x m}(H:x=b.own.length)(W:rb w0 f m b.own){g z n}(I:z=b.Rr.length)(X:rb w0 g n b.Rr){i A o}(J:A=b.py.ag.length)(M:rb w0 i o b.py.ag){j B p}(K:B=b.py.gc.da.length)(Y:rb w0 j p b.py.gc.da){k C q}(L:C=b.db.length)(Z:rb w0 k q b.db):
    di prog 179 #[.agg (uP d u l f x m g z n i A o j B p k C q b),vI R,vI U] w0 (fun v w=>v=.bool r/\St w0 [] w []):=by
 subst G H I J K L;unfold o7 at h;refine di.fS func179 fun e _=>?_;refine T ?_;intro _ _ _;refine T ?_;intro _ _ h _ _ _ _ _ _ h _ _;refine bH h ?_ ?_<;>intro _ h
 · refine gb h fun _ O h=>?_;obtain⟨_,_,_,rfl,_,_,_,⟨_,_,_,_,_,_,rfl,_,_,_⟩,_⟩:=M.idx O;refine go ?_;refine T ?_;exact rt
 exact rt
instance k_179:Ct prog 179:={h:=@GW}
theorem F6{w0 N b r}(h:rG N b=some r){d u l}(G:u=b.Rp.Ro.length)(O:rb w0 d l b.Rp.Ro){f x m}(H:x=b.own.length)(R:rb w0 f m b.own){g z n}(I:z=b.Rr.length)(U:rb w0 g n b.Rr){i A o}(J:A=b.py.ag.length)(V:rb w0 i o b.py.ag){j B p}(K:B=b.py.gc.da.length)(W:rb w0 j p b.py.gc.da){k C q}(L:C=b.db.length)(X:rb w0 k q b.db):
    di prog 95 #[.agg (uP d u l f x m g z n i A o j B p k C q b)] w0 (fun v w=>v=.agg #[vI r.cd,vI r.dg,vI r.dn]/\St w0 [] w []):=by
 subst G H I J K L;unfold rG at h;refine di.fS func95 fun e _=>?_;refine T ?_;intro _ _ _ _ _ _ _ _ h _ _ _ _ _ _ _ _ _ h _ M;refine gc h ?_ ?_<;>intro _ h
 · exact wk
 refine fA ?_;have:=M.drew;exact wk
instance k_95:Ct prog 95:={h:=@F6}
end Go.Kx
