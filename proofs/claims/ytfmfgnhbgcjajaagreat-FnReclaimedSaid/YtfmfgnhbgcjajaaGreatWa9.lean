import Derived.Test.YtfmfgnhbgcjajaaGreatWa6
import Derived.Test.YtfmfgnhbgcjajaaGreatWa7
import Derived.Test.YtfmfgnhbgcjajaaGreatWa8
namespace Go.Kx
open Go Go.RowKit Go.Proofs
open Go.IntKind (i64)
open Tryz
set_option maxRecDepth 10000
set_option maxHeartbeats 8000000
set_option linter.unusedVariables false
set_option linter.unusedSimpArgs false
theorem A8{w0}{F:List Nat}{N g b r}(h:na N g b=some r){ad:Nat}{G K}(aS:ee (eT w0 F) w0 G K g.py.Rg.Rf){H L}(aT:ee (eT w0 F) w0 H L g.py.own){I M j l k m J O}(aU:ee (eT w0 F) w0 J O g.py.dc)(hS:St w0 F w0 [bx ad 183 (qC G K H L I M j l k m J O g),sl I M g.py.Rh,sl j l g.py.heap.ag,sl k m g.py.heap.gc.da]):
    dj prog 202 #[.pointer (some ⟨ad,0,none⟩),.agg (uL b)] w0 (fun v w=>∃X aa Y ab Z ac,v=.tuple #[vI r.1,vI r.2.1]/\St w0 F w [bx ad 183 [vS G g.py.Rg.Rf.length K,vS H g.py.own.length L,vS X r.2.2.py.Rh.length aa,vS Y r.2.2.py.heap.ag.length ab,vI r.2.2.py.heap.gc.Rj,vI r.2.2.py.heap.gc.Rs,vI r.2.2.py.heap.gc.Rk,vS Z r.2.2.py.heap.gc.da.length ac,vS J g.py.dc.length O,vI r.2.2.py.Rr,vI r.2.2.py.Rq,vI r.2.2.py.db.c6,vI r.2.2.py.db.dh,vI r.2.2.py.db.du,vI r.2.2.py.dx,vI r.2.2.py.Rp,vI r.2.2.me,vI r.2.2.Rn,vI r.2.2.dS],sl X aa r.2.2.py.Rh,sl Y ab r.2.2.py.heap.ag,sl Z ac r.2.2.py.heap.gc.da]):=by
 unfold na at h;refine dj.fn func202 fun e=>?_;refine T ?_;intro aL _ an;obtain⟨aW,aR,aV⟩:=ob h;refine CW.jn [0,3] [0,1,2,3,4] [(42,.bool aW)] an (h1:=?_) (h2:=?_)
 · have h:=aR;refine dW ?_;have:=an.drew;exact wk
 intro e _ aO;have h:=aV;refine gc h ?_ ?_<;>intro _ h
 · refine go ?_;replace h:=oi h;subst h;exact Rc tt tt ⟨I,M,j,l,k,m,rfl,aO.pk [1,2,3,4]⟩
 refine T ?_;intro C _ h _ aP;refine CW.fl [0,3,6,7,51] fun e=>?_;refine gc h ?_ ?_<;>intro _ h
 · refine go ?_;replace h:=oi h;subst h;exact Rc tt tt ⟨I,M,j,l,k,m,rfl,aP.pk [0,2,3,4]⟩
 refine fD [(0,vI b.c),(1,vI (i64.wrap (b.c*b.d)))] #[vI b.c,vI (i64.wrap (b.c*b.d)),vI 0] ?_;refine T ?_;intro f _ h V W _ ao;refine CW.fl [0,3,6,65] fun e=>?_;refine gc h ?_ ?_<;>intro _ h
 · refine go ?_;replace h:=oi h;subst h;exact Rc tt tt ⟨V,W,j,l,k,m,rfl,ao.pk [0,1,3,4]⟩
 refine gs ?_;obtain⟨n,aD,aM⟩:=ob h;refine CW.cut (fun e wb=>∃(z:Nat) (o:Ad) (q:Nat) (R:Ad) (U:Nat) (p:Ad) (x:Nat),En e [(0,.pointer (some ⟨ad,0,none⟩)),(3,.pointer (some ⟨aL,0,none⟩)),(8,.pointer (some ⟨z,0,none⟩))]/\St w0 F wb [bx ad 183 [vS G g.py.Rg.Rf.length K,vS H g.py.own.length L,vS V f.2.py.Rh.length W,vS j g.py.heap.ag.length l,vI f.2.py.heap.gc.Rj,vI f.2.py.heap.gc.Rs,vI f.2.py.heap.gc.Rk,vS k g.py.heap.gc.da.length m,vS J g.py.dc.length O,vI f.2.py.Rr,vI f.2.py.Rq,vI f.2.py.db.c6,vI f.2.py.db.dh,vI f.2.py.db.du,vI f.2.py.dx,vI f.2.py.Rp,vI f.2.me,vI f.2.Rn,vI f.2.dS],sl V W f.2.py.Rh,bx aL 63 (qL b),sl j l g.py.heap.ag,sl k m g.py.heap.gc.da,bx z 96 [vI 0,vI b.a,vI C.1,vI b.e,vI (i64.wrap (f.2.Rn+b.d)),vI b.c,vI 0,vI 0,vI 0,.bool false,vS o n.1.length q,vS R n.2.1.length U,vS p n.2.2.length x],sl o q n.1,sl R U n.2.1,sl p x n.2.2]) ?_ ?_
 · have h:=aD;refine dW ?_;have aq:=ao.drew;refine go ?_;refine AW.all (rs:=[14,16]) (by kernel_rfl) (by simp) ⟨?_,?_,trivial⟩
   · refine oA ?_;refine LW.bi [-1, -1] aq ?_;intro ai ak _ _ hf;refine T ?_;refine AW.u (i:=15) rfl (by kernel_rfl) rfl rfl (dO.build (vs:=[(1,vI b.a),(2,vI C.1),(3,vI b.e),(4,vI (i64.wrap (f.2.Rn+b.d))),(5,vI b.c),(10,vS ai (([-1, -1]:List Int).length) ak)]) (cs:=#[vI 0,vI b.a,vI C.1,vI b.e,vI (i64.wrap (f.2.Rn+b.d)),vI b.c,vI 0,vI 0,vI 0,.bool false,vS ai (([-1, -1]:List Int).length) ak,vS none 0 0,vS none 0 0]) rfl (by kernel_rfl)) ?_;refine T ?_;intro _ _ _ _ ar;have au:=ar.nil (α:=Int);have:=au.nil (α:=eR);exact rt
   refine oA ?_;refine T ?_;intro _ _ av;refine jP 14 ?_;refine LW.bi [-1, -1] av ?_;intro aj am _ _ hf;refine T ?_;refine AW.u (i:=15) rfl (by kernel_rfl) rfl rfl (dO.build (vs:=[(1,vI b.a),(2,vI C.1),(3,vI b.e),(4,vI (i64.wrap (f.2.Rn+b.d))),(5,vI b.c),(10,vS aj (([-1, -1]:List Int).length) am)]) (cs:=#[vI 0,vI b.a,vI C.1,vI b.e,vI (i64.wrap (f.2.Rn+b.d)),vI b.c,vI 0,vI 0,vI 0,.bool false,vS aj (([-1, -1]:List Int).length) am,vS none 0 0,vS none 0 0]) rfl (by kernel_rfl)) ?_;refine T ?_;intro _ aw;have ax:=aw.nil (α:=Int);have:=ax.nil (α:=eR);exact rt
 rintro e _ ⟨z,o,q,R,U,p,x,hE,ae⟩;obtain⟨e,rfl⟩:=hE.out;have h:=aM;refine gs ?_;refine CW.region ?_;refine gs ?_;obtain⟨ap,aE,aN⟩:=ob h;refine CW.j2 [0,8] [0,1,3,4,6,8] (fun(A:Ad) (B:Nat)=>[]) (fun A B=>[bx z 96 [vI 0,vI b.a,vI C.1,vI b.e,vI (i64.wrap (f.2.Rn+b.d)),vI b.c,vI 0,vI 0,vI 0,.bool false,vS o n.1.length q,vS A ap.length B,vS p n.2.2.length x],sl A B ap]) ae ?_ ?_
 · have h:=aE;refine gc h ?_ ?_<;>intro _ h
   · refine gb h fun _ aG h=>?_;refine LW.mk ky rfl rfl aG ae rfl ?_;intro _ _ _ _ hf;exact wk
   exact rt
 intro e A B _ ay;have h:=aN;refine gP ?_;have:=ay.drew;refine T ?_;intro _ _ h _ _ _ az;refine gc h ?_ ?_<;>intro _ h
 · refine go ?_;replace h:=oi h;subst h;exact Rc tt tt ⟨V,W,j,l,k,m,rfl,az.pk [1,2,3,4]⟩
 refine go ?_;refine LW.u (dO.nc rfl) rfl ?_;refine T ?_;intro _ _;refine LW.u (dO.nc rfl) rfl ?_;refine T ?_;intro _ _ h aH aJ aI aK _ _;refine LW.u (dO.nc rfl) rfl ?_;refine T ?_;intro _ aA;refine dW ?_;have af:=aA.drew;refine gb h fun _ ah h=>?_;obtain⟨_,_,rfl,_,_⟩:=af.dF (α:=cd) (i:=2) rfl ah;refine go ?_;obtain⟨_,aF,_⟩:=af.freeze (α:=cd) 2 rfl;obtain⟨_,_,_,aQ,_,_,_,aC,_⟩:=aF.fw.idx ah;cases aQ;obtain⟨_,_,_,_,_,_,rfl,_,_,_⟩:=aC;refine T ?_;intro _ _ h _ aB;replace h:=oi h;subst h;exact Rc tt tt ⟨V,W,aH,aJ,aI,aK,rfl,aB.pk [3,4,0,1]⟩
instance k_202:Ct prog 202:={h:=@A8}
theorem wT{w0 N f ay r}(h:ml N f ay=some r){j J q}(W:J=f.Rg.Rf.length)(az:rb w0 j q f.Rg.Rf){k K u}(X:K=f.own.length)(aA:rb w0 k u f.own){l O x}(Y:O=f.Rh.length)(aB:rb w0 l x f.Rh){m R z}(Z:R=f.heap.ag.length)(ac:rb w0 m z f.heap.ag){n U A}(aa:U=f.heap.gc.da.length)(aC:rb w0 n A f.heap.gc.da){p V B}(ab:V=f.dc.length)(aD:rb w0 p B f.dc):
    dj prog 150 #[.agg (uP j J q k K u l O x m R z n U A p V B f),vI ay] w0 (fun v w=>∃ad ae,v=vS ad r.length ae/\St w0 [] w [sl ad ae r]):=by
 subst W X Y Z aa ab;unfold ml at h;refine dj.fS func150 fun e _=>?_;refine T ?_;intro aG _ av;refine LW.b0 (α:=Int) av ?_;intro aE aF _ _ hf;refine T ?_;intro _ _ h _ _;refine gc h ?_ ?_<;>intro _ h
 · exact rt
 refine T ?_;intro aH _ h ap aq _ af;refine go ?_;obtain⟨_,am,au⟩:=ob h;refine CW.i2 am 0 [2,6] [0,2] (fun g (b:Ad) (d:Nat)=>[(5,vS b g.1.length d),(7,vI g.2)]) (fun g b d=>[sl b d g.1]) af ?_ ?_ ?_
 · exact⟨aE,aF,af.po [0,2,1]⟩
 · intro g e b d _ o H h;refine gH [2,5,6,7,21] fun e=>?_;refine gc h ?_ ?_<;>intro _ h
   · refine gs ?_;refine CW.block ?_;refine gs ?_;obtain⟨ax,ak,ar⟩:=ob h;refine CW.jn [2,5,6,7] [0,1,2] [(37,.bool ax)] H (h1:=?_) (h2:=?_)
     · have h:=ak;refine gb h fun _ I h=>?_;obtain⟨_,_,rfl,_,_⟩:=H.dF (α:=Bool) (i:=0) rfl I;refine go ?_;obtain⟨_,C,ah⟩:=H.freeze (α:=Bool) 0 rfl;obtain⟨_,_,_,aw,_,_,_,aj,_⟩:=C.fw.idx I;cases aw;obtain rfl:=aj;refine T ?_;refine bH h ?_ ?_<;>intro _ h
       · refine gb h fun _ an h=>?_;obtain⟨_,_,_,rfl,_,_,_,⟨_,_,_,_,_,_,rfl,_,_,_⟩,_⟩:=ac.idx an;refine go ?_;refine T ?_;have:=ah.dZ (α:=Bool) 0 rfl C;exact rt
       refine go ?_;have:=ah.dZ (α:=Bool) 0 rfl C;exact rt
     intro e _ ai;have h:=ar;refine gc h ?_ ?_<;>intro _ h
     · refine gb h fun _ ao h=>?_;refine LW.gE (M:=[]) (L:=[sl ap aq aH,bx aG 54 (qP j q k u l x m z n A p B f),sl b d g.1]) (vs:=#[vI g.2]) (i:=2) ky rfl (by kernel_rfl) rfl rfl ao ai rfl (fun w G hG=>by cases(show G=[] from hG);exact⟨rfl,rfl⟩) rfl rfl ?_;intro _ _ _ _ _ hf;exact rt
     exact rt
   exact rt
 intro e b d _ _;have h:=au;exact rt
instance k_150:Ct prog 150:={h:=@wT}
theorem Fq{w0 N l o p i r}(h:pW N l o p i=some r){b f d}(g:f=l.length)(q:rb w0 b d l):
    dj prog 243 #[vS b f d,vI o,vI p,.agg #[vI i.c6,vI i.dh,vI i.du]] w0 (fun v w=>∃j k,v=.tuple #[vS j r.1.length k,.bool r.2]/\St w0 [] w [sl j k r.1]):=by
 subst g;unfold pW at h;refine dj.fS func243 fun e _=>?_;refine T ?_;intro _ _ _ _ _ h _ _ _ m;obtain⟨x,n,u⟩:=ob h;refine CW.jn [0,2,7,10] [0,1] [(26,.bool x)] m (h1:=?_) (h2:=?_)
 · have h:=n;exact wk
 intro e _ _;have h:=u;exact wk
instance k_243:Ct prog 243:={h:=@Fq}
theorem F6{w0}{F:List Nat}{N d aV aW r}(h:rU N d aV aW=some r){f am m}(au:am=d.Rg.Rf.length){g an n}(av:an=d.own.length){j ao o}(aw:ao=d.Rh.length){ad ap p}(ax:ap=d.heap.ag.length){k aq q}(ay:aq=d.heap.gc.da.length){l ar x}(az:ar=d.dc.length)(hS:St w0 F w0 [sl f m d.Rg.Rf,sl g n d.own,sl j o d.Rh,sl ad p d.heap.ag,sl k q d.heap.gc.da,sl l x d.dc]):
    dj prog 232 #[.agg (uP f am m g an n j ao o ad ap p k aq q l ar x d),vI aV,.agg (uL aW)] w0 (fun v w=>∃K W L X M Y O Z R aa U ab,v=.tuple #[.agg (uP K r.1.Rg.Rf.length W L r.1.own.length X M r.1.Rh.length Y O r.1.heap.ag.length Z R r.1.heap.gc.da.length aa U r.1.dc.length ab r.1),.agg #[vI r.2.code,vI r.2.Rz]]/\St w0 F w [sl K W r.1.Rg.Rf,sl L X r.1.own,sl M Y r.1.Rh,sl O Z r.1.heap.ag,sl R aa r.1.heap.gc.da,sl U ab r.1.dc]):=by
 subst au av aw ax ay az;unfold rU at h;refine dj.fn func232 fun e=>?_;refine T ?_;intro _ _ _ _ _ _ _ _ _ _ _ aB;have⟨aA,aE,h⟩:=ob h;obtain⟨V,ac,rfl,_,_⟩:=aB.dF (α:=cd) (i:=7) rfl aE;refine go ?_;obtain⟨_,A,_⟩:=aB.freeze (α:=cd) 7 rfl;obtain⟨_,_,_,B,_,_,_,aN,_⟩:=A.fw.idx aE;cases B;obtain⟨_,_,_,_,_,_,rfl,_,_,_⟩:=aN;refine T ?_;intro _ _ _ _ aC;obtain⟨ak,aQ,aS⟩:=ob h;refine CW.j1 [3,5,6,7,8] [0,1,2,3,4,5,6,7,8,9,10] (fun(z:Nat)=>[(9,.pointer (some ⟨z,0,none⟩))]) (fun z=>[bx z 33 [vI ak.1,vI ak.2.1,vI ak.2.2]]) aC ?_ ?_
 · have h:=aQ;refine dW ?_;have:=aC.drew;refine gb h fun _ _ h=>?_;refine AW.all (rs:=[5,9]) (by kernel_rfl) (by simp) ⟨?_,?_,trivial⟩
   · refine oA ?_;refine T ?_;intro _ aD;have⟨_,ai,h⟩:=ob h;obtain⟨_,_,rfl,_,_⟩:=aD.dF (α:=dp) (i:=7) rfl ai;refine go ?_;obtain⟨_,af,_⟩:=aD.freeze (α:=dp) 7 rfl;obtain⟨_,_,_,B,_,_,_,aO,_⟩:=af.fw.idx ai;cases B;obtain rfl:=aO;refine T ?_;intro _ _ _ _ aG;have:=aG.dZ (α:=dp) 8 rfl af;exact rt
   refine oA ?_;refine T ?_;intro _ _ _;refine jP 5 ?_;refine T ?_;intro _ ae;have⟨_,aj,h⟩:=ob h;obtain⟨_,_,rfl,_,_⟩:=ae.dF (α:=dp) (i:=8) rfl aj;refine go ?_;obtain⟨_,ah,_⟩:=ae.freeze (α:=dp) 8 rfl;obtain⟨_,_,_,B,_,_,_,aP,_⟩:=ah.fw.idx aj;cases B;obtain rfl:=aP;refine T ?_;intro _ aH;have:=aH.dZ (α:=dp) 8 rfl ah;exact rt
 intro e z _ C;have h:=aS;refine gH [3,5,6,7,8,9,26,27] fun e=>?_;refine gc h ?_ ?_<;>intro _ h
 · refine gP ?_;have:=C.drew;refine go ?_;refine AW.u (i:=3) rfl (by kernel_rfl) rfl rfl (dO.build (vs:=[(1,vI aA.ef)]) (cs:=#[vI 0,vI aA.ef]) rfl (by kernel_rfl)) ?_;refine T ?_;intro _ _ _ aI;cases h;have G:=aI.dZ (α:=cd) 8 rfl A;exact Rc (dK.b G 2 rfl i7 rfl rfl) (dK.b G 1 rfl jX rfl rfl) ⟨f,m,g,n,j,o,(some ⟨V,ac,none⟩),p,k,q,l,x,rfl,G.pk [5,6,7,8,9,10]⟩
 refine gc h ?_ ?_<;>intro _ h
 · refine gP ?_;have:=C.drew;refine go ?_;refine AW.u (i:=3) rfl (by kernel_rfl) rfl rfl (dO.build (vs:=[(1,vI aA.eh)]) (cs:=#[vI 0,vI aA.eh]) rfl (by kernel_rfl)) ?_;refine T ?_;intro _ _ _ aJ;cases h;have H:=aJ.dZ (α:=cd) 8 rfl A;exact Rc (dK.b H 2 rfl i7 rfl rfl) (dK.b H 1 rfl jX rfl rfl) ⟨f,m,g,n,j,o,(some ⟨V,ac,none⟩),p,k,q,l,x,rfl,H.pk [5,6,7,8,9,10]⟩
 refine gs ?_;refine CW.region ?_;refine gs ?_;obtain⟨aU,aR,aT⟩:=ob h;refine CW.jn [3,5,6,7,9] [1,2,3,4,5,6,7,8,9,10,11] [(39,.bool aU)] C (h1:=?_) (h2:=?_)
 · have h:=aR;exact wk
 intro e _ aK;have h:=aT;refine gc h ?_ ?_<;>intro _ h
 · refine gP ?_;have:=aK.drew;refine T ?_;intro aF _ h _ _;refine AW.u (i:=6) rfl (by kernel_rfl) rfl rfl (dO.build (vs:=[(1,vI aF)]) (cs:=#[vI 0,vI aF]) rfl (by kernel_rfl)) ?_;refine T ?_;intro _ _ _ aL;cases h;have I:=aL.dZ (α:=cd) 7 rfl A;exact Rc (dK.b I 1 rfl i7 rfl rfl) (dK.b I 0 rfl jX rfl rfl) ⟨f,m,g,n,j,o,(some ⟨V,ac,none⟩),p,k,q,l,x,rfl,I.pk [4,5,6,7,8,9]⟩
 refine fD [(0,vI 2)] #[vI 2,vI 0] ?_;refine T ?_;intro _ _ _ aM;cases h;have J:=aM.dZ (α:=cd) 7 rfl A;exact Rc (dK.b J 1 rfl i7 rfl rfl) (dK.b J 0 rfl jX rfl rfl) ⟨f,m,g,n,j,o,(some ⟨V,ac,none⟩),p,k,q,l,x,rfl,J.pk [4,5,6,7,8,9]⟩
instance k_232:Ct prog 232:={h:=@F6}
theorem KY{w0 N b W r}(h:ou N b W=some r){d u l}(G:u=b.Rg.Rf.length)(X:rb w0 d l b.Rg.Rf){f x m}(H:x=b.own.length)(Y:rb w0 f m b.own){g z n}(I:z=b.Rh.length)(M:rb w0 g n b.Rh){i A o}(J:A=b.heap.ag.length)(O:rb w0 i o b.heap.ag){j B p}(K:B=b.heap.gc.da.length)(Z:rb w0 j p b.heap.gc.da){k C q}(L:C=b.dc.length)(aa:rb w0 k q b.dc):
    dj prog 197 #[.agg (uP d u l f x m g z n i A o j B p k C q b),vI W] w0 (fun v w=>v=.agg #[vI r.c6,vI r.dh,vI r.du]/\St w0 [] w []):=by
 subst G H I J K L;unfold ou at h;refine dj.fS func197 fun e _=>?_;refine T ?_;intro _ _ _ _ _ U;refine dW ?_;have:=U.drew;refine gb h fun _ V h=>?_;obtain⟨_,_,_,rfl,_,_,_,⟨_,_,_,_,_,_,rfl,_,_,_⟩,_⟩:=O.idx V;refine go ?_;refine T ?_;intro _ _ h _ _;have⟨_,R,h⟩:=ob h;obtain⟨_,_,_,rfl,_,_,_,rfl,_⟩:=M.idx R;exact wk
instance k_197:Ct prog 197:={h:=@KY}
theorem Jh{w0}{F:List Nat}{N f g r}(h:tI N f g=some r){A U J}(aa:U=f.Rg.Rf.length){B V K}(ab:V=f.own.length){C W L}(ac:W=f.Rh.length){G X M}(ad:X=f.heap.ag.length){H Y O}(ae:Y=f.heap.gc.da.length){I Z R}(af:Z=f.dc.length)(hS:St w0 F w0 [sl A J f.Rg.Rf,sl B K f.own,sl C L f.Rh,sl G M f.heap.ag,sl H O f.heap.gc.da,sl I R f.dc]):
    dj prog 230 #[.agg (uP A U J B V K C W L G X M H Y O I Z R f),.agg (uL g)] w0 (fun v w=>∃i o j p k q l u m x n z,v=.tuple #[.agg (uP i r.1.Rg.Rf.length o j r.1.own.length p k r.1.Rh.length q l r.1.heap.ag.length u m r.1.heap.gc.da.length x n r.1.dc.length z r.1),.agg #[vI r.2.code,vI r.2.Rz]]/\St w0 F w [sl i o r.1.Rg.Rf,sl j p r.1.own,sl k q r.1.Rh,sl l u r.1.heap.ag,sl m x r.1.heap.gc.da,sl n z r.1.dc]):=by
 subst aa ab ac ad ae af;unfold tI at h;refine dj.fn func230 fun e=>?_;refine T ?_;intro _ _ _ _ _ _ _ _ _ _ _ ah;refine gc h ?_ ?_<;>intro _ h
 · refine gs ?_;obtain⟨ap,ak,an⟩:=ob h;refine CW.jn [2,3,4,5] [0,1,2,3,4,5,6,7,8,9] [(31,.bool ap)] ah (h1:=?_) (h2:=?_)
   · have h:=ak;refine T ?_;intro _ _ h _ _;refine bH h ?_ ?_<;>intro _ h
     · exact rt
     refine fD [(0,vI g.b),(1,vI g.c),(2,vI g.d)] #[vI g.b,vI g.c,vI g.d] ?_;exact wk
   intro e _ _;have h:=an;refine gc h ?_ ?_<;>intro _ h
   · refine fD [(0,vI 2)] #[vI 2,vI 0] ?_;exact wk
   refine fD [(0,vI g.b),(1,vI g.c),(2,vI g.d)] #[vI g.b,vI g.c,vI g.d] ?_;refine T ?_;intro ai _ h _ _ _ _;refine CW.fl [2,4,5,6,7,51] fun e=>?_;refine gc h ?_ ?_<;>intro _ h
   · refine fD [(0,vI 6)] #[vI 6,vI 0] ?_;exact wk
   refine T ?_;intro _ _;refine LW.bd [(1,vI ai.2.1)] #[vI 0,vI ai.2.1] ?_;exact wk
 refine gc h ?_ ?_<;>intro _ h
 · refine gs ?_;obtain⟨aq,am,ao⟩:=ob h;refine CW.jn [2,3,4,5] [0,1,2,3,4,5,6,7,8,9] [(82,.bool aq)] ah (h1:=?_) (h2:=?_)
   · have h:=am;exact wk
   intro e _ aj;have h:=ao;refine gc h ?_ ?_<;>intro _ h
   · refine fD [(0,vI 2)] #[vI 2,vI 0] ?_;exact wk
   refine gP ?_;have:=aj.drew;refine T ?_;intro _ _ h _ _ _ _ h _ _ _ _;refine gc h ?_ ?_<;>intro _ h
   · refine fD [(0,vI 6)] #[vI 6,vI 0] ?_;exact wk
   refine T ?_;intro _ _;refine LW.bd [] #[vI 0,vI 0] ?_;exact wk
 refine T ?_;intro _ _ h _ _ _ _;refine CW.fl [2,4,5,11,117] fun e=>?_;refine gc h ?_ ?_<;>intro _ h
 · refine fD [(0,vI 2)] #[vI 2,vI 0] ?_;exact wk
 refine T ?_;intro _ _;refine LW.bd [] #[vI 0,vI 0] ?_;exact wk
instance k_230:Ct prog 230:={h:=@Jh}
theorem zI{w0 N g r}(h:lr N g=some r){O R H}(U:R=g.parts.length)(V:rb w0 O H g.parts):
    dj prog 132 #[.agg #[vI g.Rn,vS O R H]] w0 (fun v w=>∃J K,v=.agg #[vI r.Rn,vS J r.parts.length K]/\St w0 [] w [sl J K r.parts]):=by
 subst U;unfold lr at h;refine dj.fS func132 fun e _=>?_;refine T ?_;intro ah _ _ ai _ _;refine LW.bd [(0,vI g.Rn)] #[vI g.Rn,vS none 0 0] ?_;refine T ?_;intro aa _ _ _ ak;refine go ?_;have Y:=ak.nil (α:=bh);obtain⟨_,ad,aj⟩:=ob h;refine CW.i2 ad 0 [1,2,3] [2,3] (fun I (d:Ad) (f:Nat)=>[(4,vI I.1)]) (fun I d f=>[bx aa 40 [vI g.Rn,vS d I.2.length f],sl d f I.2]) Y ?_ ?_ ?_
 · exact⟨none,0,Y.po [2,3,1,0]⟩
 · intro I e d f _ o am h;refine gH [1,2,3,4,12] fun e=>?_;refine gc h ?_ ?_<;>intro _ h
   · refine gP ?_;have:=am.drew;refine gb h fun _ ae h=>?_;obtain⟨W,Z,_,rfl,_,_,_,⟨_,_,_,_,_,_,_,_,_,_,_,_,rfl,_,_,_,_,_,_⟩,_⟩:=V.idx ae;refine go ?_;refine T ?_;intro b _ h k u l x m z n A p B q C _ an;refine LW.OJ (vs:=#[vS k b.Rg.Rf.length u,vS l b.own.length x,vS m b.Rh.length z,vS n b.heap.ag.length A,vI b.heap.gc.Rj,vI b.heap.gc.Rs,vI b.heap.gc.Rk,vS p b.heap.gc.da.length B,vS q b.dc.length C,vI b.Rr,vI b.Rq,vI b.db.c6,vI b.db.dh,vI b.db.du,vI b.dx,vI b.Rp]) B9 rfl (by kernel_rfl) an rfl ?_;intro X _ ab hf;refine T ?_;have ac:=ab.pk (M:=[sl k u b.Rg.Rf,sl l x b.own,sl m z b.Rh,sl n A b.heap.ag,sl p B b.heap.gc.da,sl q C b.dc]++[bx X 54 (qP k u l x m z n A p B q C b),bx ai 40 [vI 0,vS none 0 0],bx ah 40 [vI g.Rn,vS (some ⟨W,Z,none⟩) g.parts.length H],bx aa 40 [vI g.Rn,vS d I.2.length f],sl d f I.2]) [1,2,3,4,5,6,0,7,8,9,10];have⟨_,af,h⟩:=ob h;refine T ?_;refine LW.E6 (M:=[sl k u b.Rg.Rf,sl l x b.own,sl m z b.Rh,sl n A b.heap.ag,sl p B b.heap.gc.da,sl q C b.dc]) (L:=[bx X 54 (qP k u l x m z n A p B q C b),bx ai 40 [vI 0,vS none 0 0],bx ah 40 [vI g.Rn,vS (some ⟨W,Z,none⟩) g.parts.length H],bx aa 40 [vI g.Rn,vS d I.2.length f],sl d f I.2]) (vs:=(qP k u l x m z n A p B q C b)) (i:=4) (j:=0) B9 rfl rfl af ac rfl rfl (fun w G hG=>⟨k,u,l,x,m,z,n,A,p,B,q,C,rfl,hG⟩) rfl ?_
     intro _ _ _ _ hf;exact wk
   exact rt
 intro e d f _ _;have h:=aj;exact wk
instance k_132:Ct prog 132:={h:=@zI}
theorem yK{w0}{F:List Nat}{N i j r}(h:lM N i j=some r){J:Nat}{k p}(ah:ee (eT w0 F) w0 k p i.py.Rg.Rf){l q}(ai:ee (eT w0 F) w0 l q i.py.own){f g m x}(aj:ee (eT w0 F) w0 m x i.py.heap.ag){n z}(ak:ee (eT w0 F) w0 n z i.py.heap.gc.da){o A}(am:ee (eT w0 F) w0 o A i.py.dc)(hS:St w0 F w0 [bx J 183 (qC k p l q f g m x n z o A i),sl f g i.py.Rh]):
    dj prog 206 #[.pointer (some ⟨J,0,none⟩),.agg (uL j)] w0 (fun v w=>∃B C,v=.tuple #[vI r.1,vI r.2.1]/\St w0 F w [bx J 183 [vS k i.py.Rg.Rf.length p,vS l i.py.own.length q,vS B r.2.2.py.Rh.length C,vS m i.py.heap.ag.length x,vI r.2.2.py.heap.gc.Rj,vI r.2.2.py.heap.gc.Rs,vI r.2.2.py.heap.gc.Rk,vS n i.py.heap.gc.da.length z,vS o i.py.dc.length A,vI r.2.2.py.Rr,vI r.2.2.py.Rq,vI r.2.2.py.db.c6,vI r.2.2.py.db.dh,vI r.2.2.py.db.du,vI r.2.2.py.dx,vI r.2.2.py.Rp,vI r.2.2.me,vI r.2.2.Rn,vI r.2.2.dS],sl B C r.2.2.py.Rh]):=by
 unfold lM at h;refine dj.fn func206 fun e=>?_;refine T ?_;intro _ _ H;refine gc h ?_ ?_<;>intro _ h
 · refine fD [(0,vI j.b),(1,vI j.c),(2,vI j.d)] #[vI j.b,vI j.c,vI j.d] ?_;refine T ?_;intro _ _ _ _ ab;obtain⟨ao,ae,an⟩:=ob h;refine CW.jn [0,3,6] [0,1,2,3] [(33,.bool ao)] ab (h1:=?_) (h2:=?_)
   · have h:=ae;exact wk
   intro e _ I;have h:=an;refine gH [0,3,6,33] fun e=>?_;refine gc h ?_ ?_<;>intro _ h
   · refine go ?_;replace h:=oi h;subst h;exact Rc tt tt ⟨f,g,rfl,I.pk [2,3]⟩
   refine gP ?_;have:=I.drew;refine T ?_;intro _ _ h U X _ ac;refine gc h ?_ ?_<;>intro _ h
   · refine go ?_;replace h:=oi h;subst h;exact Rc tt tt ⟨f,g,rfl,ac.pk [3,4]⟩
   refine go ?_;refine LW.u (dO.nc rfl) rfl ?_;refine T ?_;intro _ ad;replace h:=oi h;subst h;exact Rc tt tt ⟨U,X,rfl,ad.pk [3,0]⟩
 refine gc h ?_ ?_<;>intro _ h
 · refine gs ?_;obtain⟨af,R,aa⟩:=ob h;refine CW.jn [0,3] [0,1,2] [(78,.bool af)] H (h1:=?_) (h2:=?_)
   · have h:=R;exact wk
   intro e _ G;have h:=aa;refine gc h ?_ ?_<;>intro _ h
   · refine go ?_;replace h:=oi h;subst h;exact Rc tt tt ⟨f,g,rfl,G.pk [1,2]⟩
   refine gP ?_;have:=G.drew;refine T ?_;intro _ _ h _ _ _ _ h V Y _ K;refine gc h ?_ ?_<;>intro _ h
   · refine go ?_;replace h:=oi h;subst h;exact Rc tt tt ⟨f,g,rfl,K.pk [2,3]⟩
   refine go ?_;refine LW.u (dO.nc rfl) rfl ?_;refine T ?_;intro _ L;replace h:=oi h;subst h;exact Rc tt tt ⟨V,Y,rfl,L.pk [2,0]⟩
 refine gP ?_;have:=H.drew;refine T ?_;intro _ _ h W Z _ M;refine gc h ?_ ?_<;>intro _ h
 · refine go ?_;replace h:=oi h;subst h;exact Rc tt tt ⟨f,g,rfl,M.pk [2,3]⟩
 refine go ?_;refine LW.u (dO.nc rfl) rfl ?_;refine T ?_;intro _ O;replace h:=oi h;subst h;exact Rc tt tt ⟨W,Z,rfl,O.pk [2,0]⟩
instance k_206:Ct prog 206:={h:=@yK}
theorem A7{w0}{F:List Nat}{N b L r}(h:m7 N b L=some r){A:Nat}{d l}(M:ee (eT w0 F) w0 d l b.py.Rg.Rf){f m}(O:ee (eT w0 F) w0 f m b.py.own){g n}(R:ee (eT w0 F) w0 g n b.py.Rh){i o}(x:ee (eT w0 F) w0 i o b.py.heap.ag){j p}(U:ee (eT w0 F) w0 j p b.py.heap.gc.da){k q}(V:ee (eT w0 F) w0 k q b.py.dc)(hS:St w0 F w0 [bx A 183 (qC d l f m g n i o j p k q b)]):
    dj prog 208 #[.pointer (some ⟨A,0,none⟩),vI L] w0 (fun v w=>v=.tuple #[vI r.1,vI r.2.1]/\St w0 F w [bx A 183 [vS d b.py.Rg.Rf.length l,vS f b.py.own.length m,vS g b.py.Rh.length n,vS i b.py.heap.ag.length o,vI r.2.2.py.heap.gc.Rj,vI r.2.2.py.heap.gc.Rs,vI r.2.2.py.heap.gc.Rk,vS j b.py.heap.gc.da.length p,vS k b.py.dc.length q,vI r.2.2.py.Rr,vI r.2.2.py.Rq,vI r.2.2.py.db.c6,vI r.2.2.py.db.dh,vI r.2.2.py.db.du,vI r.2.2.py.dx,vI r.2.2.py.Rp,vI r.2.2.me,vI r.2.2.Rn,vI r.2.2.dS]]):=by
 unfold m7 at h;refine dj.fn func208 fun e=>?_;refine gP ?_;have:=hS.drew;refine gb h fun _ J h=>?_;obtain⟨_,_,_,rfl,_,_,_,⟨_,_,_,_,_,_,rfl,_,_,_⟩,_⟩:=x.idx J;refine go ?_;refine T ?_;intro _ _ _ _ u;refine gc h ?_ ?_<;>intro _ h
 · refine gP ?_;have G:=u.drew;refine go ?_;replace h:=oi h;subst h;exact Rc tt tt ⟨rfl,G.pk [1]⟩
 refine gc h ?_ ?_<;>intro _ h
 · refine gP ?_;have H:=u.drew;refine go ?_;replace h:=oi h;subst h;exact Rc tt tt ⟨rfl,H.pk [1]⟩
 refine gs ?_;refine CW.region ?_;refine gs ?_;obtain⟨K,B,C⟩:=ob h;refine CW.jn [0,1] [1] [(28,.bool K)] u (h1:=?_) (h2:=?_)
 · have h:=B;exact wk
 intro e _ z;have h:=C;refine gc h ?_ ?_<;>intro _ h
 · refine gP ?_;have:=z.drew;refine go ?_;refine jP 8 ?_;refine T ?_;intro _ _ h _ _ _ _ h _ I;replace h:=oi h;subst h;exact Rc tt tt ⟨rfl,I.pk [0]⟩
 refine go ?_;replace h:=oi h;subst h;exact Rc tt tt ⟨rfl,z.pk [0]⟩
instance k_208:Ct prog 208:={h:=@A7}
theorem LJ{w0 N b r}(h:wg N b=some r){d C m}(L:C=b.Rg.Rf.length)(ae:rb w0 d m b.Rg.Rf){f G n}(M:G=b.own.length)(af:rb w0 f n b.own){g H p}(O:H=b.Rh.length)(ah:rb w0 g p b.Rh){j I q}(R:I=b.heap.ag.length)(ai:rb w0 j q b.heap.ag){k J u}(U:J=b.heap.gc.da.length)(aj:rb w0 k u b.heap.gc.da){l K z}(V:K=b.dc.length)(ak:rb w0 l z b.dc):
    dj prog 141 #[.agg (uP d C m f G n g H p j I q k J u l K z b)] w0 (fun v w=>v=vI r/\St w0 [] w []):=by
 subst L M O R U V;unfold wg at h;refine dj.fS func141 fun e _=>?_;refine T ?_;intro _ _ _ _ _ h _ _ _ ab;refine go ?_;obtain⟨_,Y,aa⟩:=ob h;refine CW.mono (CW.lb [7,8] [0] [3] 0 (fun Z=>[(3,vI Z.1),(9,vI Z.2)]) ab Y (hb:=?_)) ?_
 · intro Z e _ o W h;refine gc h ?_ ?_<;>intro _ h
   · refine gb h fun _ B h=>?_;obtain⟨_,_,rfl,_,_⟩:=W.dF (α:=oF) (i:=0) rfl B;refine go ?_;obtain⟨_,A,_⟩:=W.freeze (α:=oF) 0 rfl;obtain⟨_,_,_,ad,_,_,_,X,_⟩:=A.fw.idx B;cases ad;obtain⟨_,_,_,_,_,_,_,_,_,rfl⟩:=X;refine T ?_;intro _ _ _ _ ac;have:=ac.dZ (α:=oF) 1 rfl A;exact rt
   exact rt
 intro x e _ hM;obtain⟨rfl,hM⟩:=hM;obtain⟨e,rfl,_⟩:=eo hM;have h:=aa;exact rt
instance k_141:Ct prog 141:={h:=@LJ}
theorem Gp{w0 N b R U r}(h:o5 N b R U=some r){d u l}(G:u=b.Rg.Rf.length)(V:rb w0 d l b.Rg.Rf){f x m}(H:x=b.own.length)(W:rb w0 f m b.own){g z n}(I:z=b.Rh.length)(X:rb w0 g n b.Rh){i A o}(J:A=b.heap.ag.length)(M:rb w0 i o b.heap.ag){j B p}(K:B=b.heap.gc.da.length)(Y:rb w0 j p b.heap.gc.da){k C q}(L:C=b.dc.length)(Z:rb w0 k q b.dc):
    dj prog 179 #[.agg (uP d u l f x m g z n i A o j B p k C q b),vI R,vI U] w0 (fun v w=>v=.bool r/\St w0 [] w []):=by
 subst G H I J K L;unfold o5 at h;refine dj.fS func179 fun e _=>?_;refine T ?_;intro _ _ _;refine T ?_;intro _ _ h _ _ _ _ _ _ h _ _;refine bH h ?_ ?_<;>intro _ h
 · refine gb h fun _ O h=>?_;obtain⟨_,_,_,rfl,_,_,_,⟨_,_,_,_,_,_,rfl,_,_,_⟩,_⟩:=M.idx O;refine go ?_;refine T ?_;exact rt
 exact rt
instance k_179:Ct prog 179:={h:=@Gp}
theorem Gt{w0 N b r}(h:rq N b=some r){d u l}(G:u=b.Rg.Rf.length)(O:rb w0 d l b.Rg.Rf){f x m}(H:x=b.own.length)(R:rb w0 f m b.own){g z n}(I:z=b.Rh.length)(U:rb w0 g n b.Rh){i A o}(J:A=b.heap.ag.length)(V:rb w0 i o b.heap.ag){j B p}(K:B=b.heap.gc.da.length)(W:rb w0 j p b.heap.gc.da){k C q}(L:C=b.dc.length)(X:rb w0 k q b.dc):
    dj prog 95 #[.agg (uP d u l f x m g z n i A o j B p k C q b)] w0 (fun v w=>v=.agg #[vI r.c6,vI r.dh,vI r.du]/\St w0 [] w []):=by
 subst G H I J K L;unfold rq at h;refine dj.fS func95 fun e _=>?_;refine T ?_;intro _ _ _ _ _ _ _ _ h _ _ _ _ _ _ _ _ _ h _ M;refine gc h ?_ ?_<;>intro _ h
 · exact wk
 refine gP ?_;have:=M.drew;exact wk
instance k_95:Ct prog 95:={h:=@Gt}
end Go.Kx
