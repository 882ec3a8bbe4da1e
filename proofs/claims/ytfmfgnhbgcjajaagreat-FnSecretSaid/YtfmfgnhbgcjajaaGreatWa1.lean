import Derived.Test.YtfmfgnhbgcjajaaGreatFa
import Derived.Test.YtfmfgnhbgcjajaaGreatPu
namespace Go.Kx
open Go Go.RowKit Go.Proofs
open Go.IntKind (i64)
open Tryz
set_option maxRecDepth 10000
set_option maxHeartbeats 8000000
set_option linter.unusedVariables false
set_option linter.unusedSimpArgs false
theorem J5{w0 N m z r}(h:kq N m z=some r){b f d}(g:f=m.length)(i:rb w0 b d m):
    di prog 90 #[vS b f d,vI z] w0 (fun v w=>v=.bool r/\St w0 [] w []):=by
 subst g;unfold kq at h;refine di.fS func90 fun e n=>?_;refine go ?_;obtain⟨k,l,j⟩:=ob h;refine CW.mono (CW.lx [0,1] [] [] 0 (fun q=>[(5,vI q)]) (RT prog f90.results (fun u=>.bool u) w0 []) n l (hb:=?_)) ?_
 · intro q e _ o _ h;refine gc h ?_ ?_<;>intro _ h
   · refine gb h fun _ p h=>?_;obtain⟨_,_,_,rfl,_,_,_,rfl,_⟩:=i.idx p;refine go ?_;refine T ?_;refine CW.fl [0,1,5,17] fun e=>?_;exact wk
   exact rt
 intro x e _ hM;rcases k with k|_
 · obtain⟨rfl,hM⟩:=hM;obtain⟨e,rfl,_⟩:=eo hM;rw[show e=dF e [] from rfl];have h:=j;exact rt
 obtain⟨rfl,u,rfl,hM⟩:=hM;cases j;exact And.intro trivial hM
instance k_90:Ct prog 90:={h:=@J5}
theorem DB{w0 N C G r}(h:rV N C G=some r){b j f}(l:j=C.length)(n:rb w0 b f C){d k g}(m:k=G.length)(p:rb w0 d g G):
    di prog 260 #[vS b j f,vS d k g] w0 (fun v w=>v=.bool r/\St w0 [] w []):=by
 subst l m;unfold rV at h;refine di.fS func260 fun e H=>?_;refine gc h ?_ ?_<;>intro _ h
 · exact rt
 refine go ?_;obtain⟨z,A,q⟩:=ob h;refine CW.mono (CW.lx [0,1,12] [] [] 0 (fun K=>[(13,vI K)]) (RT prog f260.results (fun u=>.bool u) w0 []) H A (hb:=?_)) ?_
 · intro K e _ o I h;refine gc h ?_ ?_<;>intro _ h
   · refine fA ?_;have:=I.drew;refine gb h fun M J h=>?_;obtain⟨_,_,_,rfl,_,_,_,rfl,_⟩:=n.idx J;refine go ?_;refine T ?_;have⟨L,B,h⟩:=ob h;obtain⟨_,_,_,rfl,_,_,_,rfl,_⟩:=p.idx B;refine go ?_;refine T ?_;refine AW.u (i:=8) rfl (by kernel_rfl) rfl rfl (dL.Cl MP rfl rfl (fun w=>Ni M L w)) ?_;exact wk
   exact rt
 intro x e _ hM;rcases z with z|_
 · obtain⟨rfl,hM⟩:=hM;obtain⟨e,rfl,_⟩:=eo hM;rw[show e=dF e [] from rfl];have h:=q;exact rt
 obtain⟨rfl,u,rfl,hM⟩:=hM;cases q;exact And.intro trivial hM
instance k_260:Ct prog 260:={h:=@DB}
theorem De{w0 N m z r}(h:oG N m z=some r){b f d}(g:f=m.length)(i:rb w0 b d m):
    di prog 145 #[vS b f d,vI z] w0 (fun v w=>v=vI r/\St w0 [] w []):=by
 subst g;unfold oG at h;refine di.fS func145 fun e n=>?_;refine go ?_;obtain⟨k,l,j⟩:=ob h;refine CW.mono (CW.lx [0,1,7] [] [] 0 (fun q=>[(8,vI q)]) (RT prog f145.results (fun u=>vI u) w0 []) n l (hb:=?_)) ?_
 · intro q e _ o _ h;refine gc h ?_ ?_<;>intro _ h
   · refine gb h fun _ p h=>?_;obtain⟨_,_,_,rfl,_,_,_,rfl,_⟩:=i.idx p;refine go ?_;refine T ?_;refine CW.fl [0,1,5,7,8,16] fun e=>?_;exact wk
   exact rt
 intro x e _ hM;rcases k with k|_
 · obtain⟨rfl,hM⟩:=hM;obtain⟨e,rfl,_⟩:=eo hM;rw[show e=dF e [] from rfl];have h:=j;exact rt
 obtain⟨rfl,u,rfl,hM⟩:=hM;cases j;exact And.intro trivial hM
instance k_145:Ct prog 145:={h:=@De}
theorem Ax{w0 N i j r}(h:iA N i j=some r){b f d}(g:f=i.length)(k:rb w0 b d i):
    di prog 99 #[vS b f d,vI j] w0 (fun v w=>v=.bool r/\St w0 [] w []):=by
 subst g;unfold iA at h;refine di.fS func99 fun e _=>?_;exact wk
instance k_99:Ct prog 99:={h:=@Ax}
theorem F5{w0 N K ac r}(h:nh N K ac=some r){j m k}(n:m=K.length)(f:rb w0 j k K):
    di prog 100 #[vS j m k,vI ac] w0 (fun v w=>∃p q,v=vS p r.length q/\St w0 [] w [sl p q r]):=by
 subst n;unfold nh at h;refine di.fS func100 fun e V=>?_;refine go ?_;refine LW.b0 (α:=Int) V ?_;intro ad ae _ u hf;refine go ?_;obtain⟨_,C,U⟩:=ob h;refine CW.i2 C 0 [0,1,10,11] [] (fun g (b:Ad) (d:Nat)=>[(5,vS b g.1.length d),(12,vI g.2)]) (fun g b d=>[sl b d g.1]) u ?_ ?_ ?_
 · exact⟨ad,ae,u.po [0]⟩
 · intro g e b d _ o _ h;refine gc h ?_ ?_<;>intro _ h
   · refine gb h fun _ Z h=>?_;obtain⟨_,_,_,rfl,_,_,_,⟨_,_,_,_,_,_,rfl,_,_,_⟩,_⟩:=f.idx Z;refine go ?_;refine T ?_;intro _ _ _ _ W;obtain⟨aa,A,O⟩:=ob h;refine CW.jn [0,1,5,6,10,11,12] [1] [(8,.bool aa)] W (h1:=?_) (h2:=?_)
     · have h:=A;refine gB h ?_ ?_<;>intro _ h
       · refine gB h ?_ ?_<;>intro _ h
         · refine go ?_;refine bH h ?_ ?_<;>intro _ h
           · refine gb h fun _ H h=>?_;obtain⟨_,_,_,l,_,_,_,x,_⟩:=f.idx H;cases l;obtain⟨_,_,_,_,_,_,rfl,_,_,_⟩:=x;refine go ?_;refine T ?_;exact rt
           exact rt
         exact rt
       exact rt
     intro e _ X;have h:=O;refine gs ?_;obtain⟨ab,B,R⟩:=ob h;refine CW.jn [0,1,5,6,10,11,12] [0] [(47,.bool ab)] X (h1:=?_) (h2:=?_)
     · have h:=B;refine gB h ?_ ?_<;>intro _ h
       · exact rt
       refine gb h fun _ I h=>?_;obtain⟨_,_,_,l,_,_,_,z,_⟩:=f.idx I;cases l;obtain⟨_,_,_,_,_,_,rfl,_,_,_⟩:=z;exact wk
     intro e _ Y;have h:=R;refine gf [0,1,5,6,10,11,12,47] fun e=>?_;refine gc h ?_ ?_<;>intro _ h
     · refine gb h fun _ J h=>?_;refine LW.fZ (M:=[]) (L:=[sl b d g.1]) (vs:=#[vI g.2]) (i:=0) lH rfl (by kernel_rfl) rfl rfl J Y rfl (fun w G hG=>by cases(show G=[] from hG);exact⟨rfl,rfl⟩) rfl rfl ?_;intro _ _ _ _ _ hf;exact rt
     exact rt
   exact rt
 intro e b d _ _;have h:=U;exact rt
instance k_100:Ct prog 100:={h:=@F5}
theorem Gu{w0 N b A r}(h:kU N b A=some r){d l i}(o:l=b.dk.length)(u:rb w0 d i b.dk){f m j}(p:m=b.Rw.length)(x:rb w0 f j b.Rw){g n k}(q:n=b.Rs.length)(z:rb w0 g k b.Rs):
    di prog 144 #[.agg (uO d l i f m j g n k b),vI A] w0 (fun v w=>v=.bool r/\St w0 [] w []):=by
 subst o p q;unfold kU at h;refine di.fS func144 fun e _=>?_;exact wk
instance k_144:Ct prog 144:={h:=@Gu}
theorem Kt{w0 N H r}(h:qg N H=some r){j p k}(q:p=H.length)(u:rb w0 j k H):
    di prog 186 #[vS j p k] w0 (fun v w=>v=.agg #[vI r.cd,vI r.dg,vI r.dn]/\St w0 [] w []):=by
 subst q;unfold qg at h;refine di.fS func186 fun e J=>?_;refine go ?_;refine LW.al J fun _ _ K=>?_;refine fm [] #[vI 0,vI 0,vI 0] ?_;refine LW.al K fun U _ L=>?_;refine LW.st L 0 fun _ x=>?_;refine go ?_;obtain⟨_,G,I⟩:=ob h;refine CW.i0 G 0 [0,2,3] [1] (fun i=>[(4,vI i.1)]) (fun i=>[bx U 33 [vI i.2.1,vI i.2.2.1,vI i.2.2.2]]) x ?_ ?_ ?_
 · exact x.po [1,0]
 · intro i e _ o g h;refine gc h ?_ ?_<;>intro _ h
   · refine gb h fun _ R h=>?_;obtain⟨_,_,_,rfl,d,_,_,rfl,f⟩:=u.idx R;refine go ?_;refine LW.l (fv.iu w0 OA rfl (f 0 _ rfl)) (g.same _ d.1 d.2) rfl ?_;refine gf [0,2,3,4,16] fun e=>?_;refine gc h ?_ ?_<;>intro _ h
     · refine fA ?_;have z:=g.drew;refine go ?_;refine AW.tk 7 rfl (fv.iu w0 jR rfl (f 2 _ rfl)) (z.same _ d.1 d.2) ?_;refine Cx 10 ?_;refine LW.st z 1 fun _ M=>?_;refine jN (jW (jW jZ)) ?_;refine fA ?_;have A:=M.drew;refine go ?_;refine AW.tk 7 rfl (fv.iu w0 jR rfl (f 3 _ rfl)) (A.same _ d.1 d.2) ?_;refine Cx 10 ?_;refine LW.st A 1 fun _ O=>?_;refine jN (jW (jW jZ)) ?_;refine fA ?_;have m:=O.drew;refine go ?_;refine AW.tk 7 rfl (fv.iu w0 jR rfl (f 4 _ rfl)) (m.same _ d.1 d.2) ?_;refine Cx 10 ?_;refine LW.st m 1 fun _ B=>?_;refine jN (jW (jW jZ)) ?_;refine go ?_;cases oi h;exact⟨rfl,(B.po [0,1])⟩
     refine go ?_;cases oi h;exact⟨rfl,(g.po [0,1])⟩
   refine go ?_;cases oi h;exact⟨trivial,rfl,(g.po [0,1])⟩
 intro e _ C;have h:=I;refine sC C 0 fun _ n=>?_;refine go ?_;cases h;exact And.intro trivial ⟨_,gL.one (dE.b n 0 rfl D2 rfl rfl),rfl,n.pk []⟩
instance k_186:Ct prog 186:={h:=@Kt}
theorem KF{w0 N b r}(h:ss N b=some r){o A u}(H:A=b.dk.length)(K:rb w0 o u b.dk){p B x}(I:B=b.Rw.length)(L:rb w0 p x b.Rw){q C z}(J:C=b.Rs.length)(M:rb w0 q z b.Rs):
    di prog 211 #[.agg (uO o A u p B x q C z b)] w0 (fun v w=>∃d j f k g n,v=.agg (uO d r.dk.length j f r.Rw.length k g r.Rs.length n r)/\St w0 [] w [sl d j r.dk,sl f k r.Rw,sl g n r.Rs]):=by
 subst H I J;unfold ss at h;refine di.fS func211 fun e _=>?_;refine T ?_;intro _ _ _ _ _ W;refine LW.b0 (α:=Int) W ?_;intro _ _ _ O hf;refine gb h fun _ Z h=>?_;refine LW.fM (l:=([]:List Int)) (m:=b.dk) lH rfl rfl (O.rB K) Z O (i:=0) rfl rfl ?_;intro _ _ _ _ hf;refine T ?_;intro _ X;refine LW.b0 (α:=Int) X ?_;intro _ _ _ R hf;refine gb h fun _ U h=>?_;refine LW.fM (l:=([]:List Int)) (m:=b.Rw) lH rfl rfl (R.rB L) U R (i:=0) rfl rfl ?_;intro _ _ _ _ hf;refine T ?_;intro _ Y;refine LW.b0 (α:=eL) Y ?_;intro _ _ _ G hf;refine gb h fun _ V h=>?_;refine LW.fM (l:=([]:List eL)) (m:=b.Rs) qR rfl rfl (G.rB M) V G (i:=0) rfl rfl ?_;intro _ _ _ _ hf;exact wk
instance k_211:Ct prog 211:={h:=@KF}
theorem J4{w0 N b d r}(h:jY N b d=some r):
    di prog 94 #[.agg #[vI b.cd,vI b.dg,vI b.dn],.agg #[vI d.cd,vI d.dg,vI d.dn]] w0 (fun v w=>v=.agg #[vI r.cd,vI r.dg,vI r.dn]/\St w0 [] w []):=by
 unfold jY at h;refine di.fS func94 fun e _=>?_;refine T ?_;intro _ _ _ _ _ _ _ _ _;refine LW.bd [(0,vI (i64.wrap (b.cd+d.cd))),(1,vI (i64.wrap (b.dg+d.dg))),(2,vI (i64.wrap (b.dn+d.dn)))] #[vI (i64.wrap (b.cd+d.cd)),vI (i64.wrap (b.dg+d.dg)),vI (i64.wrap (b.dn+d.dn))] ?_;exact wk
instance k_94:Ct prog 94:={h:=@J4}
theorem IY{w0 N K r}(h:mP N K=some r){q x u}(z:x=K.length)(A:rb w0 q u K):
    di prog 210 #[vS q x u] w0 (fun v w=>∃B C,v=vS B r.length C/\St w0 [] w [sl B C r]):=by
 subst z;unfold mP at h;refine di.fS func210 fun e R=>?_;refine go ?_;refine LW.b0 (α:=c6) R ?_;intro X Y _ H hf;refine go ?_;obtain⟨_,I,O⟩:=ob h;refine CW.i2 I 0 [0] [] (fun g (d:Ad) (f:Nat)=>[(3,vS d g.1.length f),(4,vI g.2)]) (fun g d f=>[sl d f g.1]) H ?_ ?_ ?_
 · exact⟨X,Y,H.po [0]⟩
 · intro g e d f _ o _ h;refine gc h ?_ ?_<;>intro _ h
   · refine gb h fun _ W h=>?_;obtain⟨_,_,_,rfl,_,_,_,⟨_,_,_,_,_,_,rfl,_,_,_⟩,_⟩:=A.idx W;refine go ?_;refine T ?_;intro b _ h j m k n l p _ U;have V:=U.pk (M:=[sl j m b.dk,sl k n b.Rw,sl l p b.Rs]++[sl d f g.1]) [0,1,2,3];have⟨_,J,h⟩:=ob h;refine LW.fZ (M:=[sl j m b.dk,sl k n b.Rw,sl l p b.Rs]) (L:=[sl d f g.1]) (vs:=#[vI b.RG,vI b.Rq,vI b.box,vI b.RF,vI b.dY,vI b.cd,vI b.Ry,vI b.ee,vI b.ed,.bool b.mark,vS j b.dk.length m,vS k b.Rw.length n,vS l b.Rs.length p]) (i:=0) Jv rfl (by kernel_rfl) rfl rfl J V rfl (fun w G hG=>⟨j,m,k,n,l,p,rfl,hG⟩) rfl rfl ?_;intro _ _ _ _ _ hf;exact rt
   exact rt
 intro e d f _ _;have h:=O;exact rt
instance k_210:Ct prog 210:={h:=@IY}
theorem yG{w0}{F:List Nat}{N b aa r}(h:nR N b aa=some r){j C d}(I:C=b.ag.length){k H l}(J:H=b.gc.da.length)(hS:St w0 F w0 [sl j d b.ag,sl k l b.gc.da]):
    di prog 261 #[.agg (uH j C d k H l b),vI aa] w0 (fun v w=>∃o q p u,v=.agg (uH o r.ag.length q p r.gc.da.length u r)/\St w0 F w [sl o q r.ag,sl p u r.gc.da]):=by
 subst I J;unfold nR at h;refine di.fn func261 fun e=>?_;refine T ?_;intro ab _ _ ah _ z;obtain⟨aj,ae,ai⟩:=ob h;refine CW.jn [1,2,4] [0,1,2,3] [(26,.bool aj)] z (h1:=?_) (h2:=?_)
 · have h:=ae;refine gB h ?_ ?_<;>intro _ h
   · refine gb h fun _ U h=>?_;obtain⟨_,_,rfl,_,_⟩:=z.dA (α:=c6) (i:=2) rfl U;refine go ?_;obtain⟨_,m,O⟩:=z.freeze (α:=c6) 2 rfl;obtain⟨_,_,_,ad,_,_,_,X,_⟩:=m.fe.idx U;cases ad;obtain⟨_,_,_,_,_,_,rfl,_,_,_⟩:=X;refine T ?_;refine bH h ?_ ?_<;>intro _ h
     · refine go ?_;refine T ?_;have:=O.dZ (α:=c6) 2 rfl m;exact rt
     refine go ?_;have:=O.dZ (α:=c6) 2 rfl m;exact rt
   exact rt
 intro e _ A;have h:=ai;refine gs ?_;obtain⟨x,Y,ac⟩:=ob h;refine CW.j2 [2,4] [0] (fun(f:Ad) (g:Nat)=>[]) (fun f g=>[bx ab 51 [vS j x.1.length d,vI b.gc.Ru,vI b.gc.RD,vI b.gc.Rv,vS f x.2.length g],sl j d x.1,sl f g x.2]) A ?_ ?_
 · have h:=Y;refine gc h ?_ ?_<;>intro _ h
   · refine gb h fun _ B h=>?_;obtain⟨K,V,rfl,_,_⟩:=A.dA (α:=c6) (i:=2) rfl B;refine go ?_;refine gb h fun af n h=>?_;refine LW.se 9 A 2 B n (hM:=(fK (fun w cs F hF=>by obtain⟨ak,ao,am,ap,an,aq,rfl,hH⟩:=hF;exact⟨ak,ao,am,ap,an,aq,rfl,hH⟩))) fun _ _=>?_;refine T ?_;intro _ _ h _ R;refine CW.fl [1,2,4,37] fun e=>?_;refine gc h ?_ ?_<;>intro _ h
     · refine gb h fun _ Z h=>?_;refine LW.fZ (M:=[]) (L:=[bx ah 51 [vS none 0 0,vI 0,vI 0,vI 0,vS none 0 0],bx ab 51 [vS (some ⟨K,V,none⟩) b.ag.length d,vI b.gc.Ru,vI b.gc.RD,vI b.gc.Rv,vS k b.gc.da.length l],sl (some ⟨K,V,none⟩) d af,sl k l b.gc.da]) (vs:=#[vI aa]) (i:=3) lH rfl (by kernel_rfl) rfl rfl Z R rfl (fun w G hG=>by cases(show G=[] from hG);exact⟨rfl,rfl⟩) rfl rfl ?_;intro _ _ _ _ _ hf;refine T ?_;intro _ W;rw[dx (oi n)]at W;exact rt
     refine go ?_;rw[dx (oi n)]at R;exact rt
   exact rt
 intro e f g _ _;have h:=ac;exact wk
instance k_261:Ct prog 261:={h:=@yG}
theorem GJ{w0 N b r}(h:l8 N b=some r){k q o}(z:q=b.ag.length)(U:rb w0 k o b.ag){n x p}(A:x=b.gc.da.length)(B:rb w0 n p b.gc.da):
    di prog 212 #[.agg (uH k q o n x p b)] w0 (fun v w=>∃d g f j,v=.agg (uH d r.ag.length g f r.gc.da.length j r)/\St w0 [] w [sl d g r.ag,sl f j r.gc.da]):=by
 subst z A;unfold l8 at h;refine di.fS func212 fun e _=>?_;refine T ?_;intro _ _ _ _ _ _ _ _ _ _ O;refine LW.b0 (α:=Int) O ?_;intro _ _ _ J hf;refine gb h fun K M h=>?_;refine LW.fM (l:=([]:List Int)) (m:=b.gc.da) lH rfl rfl (J.rB B) M J (i:=0) rfl rfl ?_;intro C H _ _ hf;refine T ?_;intro _ R;refine dW ?_;have:=R.drew;refine go ?_;refine jP 2 ?_;refine T ?_;intro L _ h G I _ _;refine AW.u (i:=4) rfl (by kernel_rfl) rfl rfl (dL.build (vs:=[(0,vS G L.length I),(1,.agg #[vI b.gc.Ru,vI b.gc.RD,vI b.gc.Rv,vS C K.length H])]) (cs:=#[vS G L.length I,vI b.gc.Ru,vI b.gc.RD,vI b.gc.Rv,vS C K.length H]) rfl (by kernel_rfl)) ?_;exact wk
instance k_212:Ct prog 212:={h:=@GJ}
theorem JE{w0}{F:List Nat}{N d R r}(h:so N d R=some r){C:Nat}{j b f g}(hS:St w0 F w0 [bx C 51 [vS j d.ag.length b,vI d.gc.Ru,vI d.gc.RD,vI d.gc.Rv,vS f d.gc.da.length g],sl j b d.ag,sl f g d.gc.da]):
    di prog 199 #[.pointer (some ⟨C,0,none⟩),vI R] w0 (fun v w=>∃m p n q,v=.tuple #[]/\St w0 F w [bx C 51 (qH m p n q r),sl m p r.ag,sl n q r.gc.da]):=by
 unfold so at h;refine di.fn func199 fun e=>?_;refine gs ?_;obtain⟨Z,X,h2⟩:=ob h;refine CW.jn [0,1] [0,1,2] [(30,.bool Z)] hS (h1:=?_) (h2:=?_)
 · have h:=X;refine go ?_;refine LW.u (dL.nc rfl) rfl ?_;refine gB h ?_ ?_<;>intro _ h
   · exact rt
   refine go ?_;refine LW.u (dL.nc rfl) rfl ?_;refine gb h fun _ J h=>?_;obtain⟨_,_,rfl,_,_⟩:=hS.dA (α:=c6) (i:=1) rfl J;refine go ?_;obtain⟨_,k,H⟩:=hS.freeze (α:=c6) 1 rfl;obtain⟨_,_,_,W,_,_,_,K,_⟩:=k.fe.idx J;cases W;obtain⟨_,_,_,_,_,_,rfl,_,_,_⟩:=K;refine T ?_;refine bH h ?_ ?_<;>intro _ h
   · refine go ?_;have:=H.dZ (α:=c6) 1 rfl k;exact rt
   refine go ?_;refine LW.u (dL.nc rfl) rfl ?_;refine go ?_;refine T ?_;have:=H.dZ (α:=c6) 1 rfl k;exact rt
 intro e _ z;have h:=h2;refine gc h ?_ ?_<;>intro _ h
 · refine go ?_;replace h:=oi h;subst h;exact And.intro trivial ⟨_,gL.zero , j,b,f,g,rfl,z.pk [0,1,2]⟩
 refine go ?_;refine LW.u (dL.nc rfl) rfl ?_;refine gb h fun _ B h=>?_;obtain⟨o,x,rfl,_,_⟩:=z.dA (α:=c6) (i:=1) rfl B;refine go ?_;refine gb h fun Y l h=>?_;refine LW.se 9 z 1 B l (hM:=(fK (fun w cs F hF=>by obtain⟨aa,ad,ab,ae,ac,af,rfl,hH⟩:=hF;exact⟨aa,ad,ab,ae,ac,af,rfl,hH⟩))) fun _ _=>?_;refine go ?_;refine LW.u (dL.nc rfl) rfl ?_;refine T ?_;intro _ _ h _ A;refine CW.fl [0,1,45] fun e=>?_;refine gc h ?_ ?_<;>intro _ h
 · refine go ?_;refine LW.u (dL.nc rfl) rfl ?_;refine gb h fun _ O h=>?_;refine LW.fZ (M:=[]) (L:=[bx C 51 [vS (some ⟨o,x,none⟩) d.ag.length b,vI d.gc.Ru,vI d.gc.RD,vI d.gc.Rv,vS f d.gc.da.length g],sl (some ⟨o,x,none⟩) b Y,sl f g d.gc.da]) (vs:=#[vI R]) (i:=2) lH rfl (by kernel_rfl) rfl rfl O A rfl (fun w G hG=>by cases(show G=[] from hG);exact⟨rfl,rfl⟩) rfl rfl ?_;intro _ U V _ _ hf;refine LW.u (dL.nc rfl) rfl ?_;refine T ?_;intro _ I;replace h:=oi h;subst h;rw[dx (oi l)]at I;exact And.intro trivial ⟨_,gL.zero , (some ⟨o,x,none⟩),b,U,V,rfl,I.pk [0,1,2]⟩
 refine go ?_;replace h:=oi h;subst h;rw[dx (oi l)]at A;exact And.intro trivial ⟨_,gL.zero , (some ⟨o,x,none⟩),b,f,g,rfl,A.pk [0,1,2]⟩
instance k_199:Ct prog 199:={h:=@JE}
theorem EA{w0 N k r}(h:iX N k=some r){b f d}(g:f=k.length)(j:rb w0 b d k):
    di prog 81 #[vS b f d] w0 (fun v w=>∃n o,v=vS n r.length o/\St w0 [] w [sl n o r]):=by
 subst g;unfold iX at h;refine di.fS func81 fun e q=>?_;refine go ?_;refine LW.b0 (α:=dj) q ?_;intro _ _ _ p hf;refine gb h fun _ u h=>?_;refine LW.fM (l:=([]:List dj)) (m:=k) Jk rfl rfl (p.rB j) u p (i:=0) rfl rfl ?_;intro _ _ _ _ hf;exact rt
instance k_81:Ct prog 81:={h:=@EA}
theorem Bh{w0 N k r}(h:iP N k=some r){b f d}(g:f=k.length)(j:rb w0 b d k):
    di prog 213 #[vS b f d] w0 (fun v w=>∃n o,v=vS n r.length o/\St w0 [] w [sl n o r]):=by
 subst g;unfold iP at h;refine di.fS func213 fun e q=>?_;refine go ?_;refine LW.b0 (α:=dj) q ?_;intro _ _ _ p hf;refine gb h fun _ u h=>?_;refine LW.fM (l:=([]:List dj)) (m:=k) Jk rfl rfl (p.rB j) u p (i:=0) rfl rfl ?_;intro _ _ _ _ hf;exact rt
instance k_213:Ct prog 213:={h:=@Bh}
theorem IA{w0}{F:List Nat}{N g r}(h:lO N g=some r){l:Nat}{d f}(j:dX (eJ w0 F) w0 d f g.b)(hS:St w0 F w0 [bx l 99 [vS d g.b.length f,vI g.i,vI g.h]]):
    di prog 109 #[.pointer (some ⟨l,0,none⟩)] w0 (fun v w=>v=vI r.1/\St w0 F w [bx l 99 [vS d g.b.length f,vI r.2.i,vI r.2.h]]):=by
 unfold lO at h;refine di.fn func109 fun e=>?_;refine go ?_;refine LW.u (dL.nc rfl) rfl ?_;refine go ?_;refine LW.u (dL.nc rfl) rfl ?_;refine T ?_;intro _ m;refine dW ?_;have n:=m.drew;refine go ?_;refine AW.u (i:=4) rfl (by kernel_rfl) rfl rfl (dL.shr rfl rfl (by decide)) ?_;refine go ?_;refine AW.u (i:=9) rfl (by kernel_rfl) rfl rfl (dL.shr rfl rfl (by decide)) ?_;refine fA ?_;have k:=n.drew;refine gc h ?_ ?_<;>intro _ h
 · refine fA ?_;have:=k.drew;refine gb h fun _ p h=>?_;obtain⟨_,_,_,rfl,_,_,_,rfl,_⟩:=j.idx p;refine go ?_;refine T ?_;refine AW.u (i:=11) rfl (by kernel_rfl) rfl rfl (dL.conv underlying5 underlying3 rfl) ?_;refine go ?_;refine LW.u (dL.nc rfl) rfl ?_;refine go ?_;refine LW.u (dL.nc rfl) rfl ?_;refine T ?_;intro _ o;replace h:=oi h;subst h;exact Ra ⟨rfl,o.pk [0]⟩
 refine go ?_;replace h:=oi h;subst h;exact Ra ⟨rfl,k.pk [0]⟩
instance k_109:Ct prog 109:={h:=@IA}
theorem pt{w0}{F:List Nat}{N g o r}(h:dR N g o=some r){j:Nat}{d f}(p:dX (eJ w0 F) w0 d f g.b)(hS:St w0 F w0 [bx j 99 [vS d g.b.length f,vI g.i,vI g.h]]):
    di prog 65 #[.pointer (some ⟨j,0,none⟩),vI o] w0 (fun v w=>v=vI r.1/\St w0 F w [bx j 99 [vS d g.b.length f,vI r.2.i,vI r.2.h]]):=by
 unfold dR at h;refine di.fn func65 fun e=>?_;refine gc h ?_ ?_<;>intro _ h
 · refine go ?_;replace h:=oi h;subst h;exact Ra ⟨rfl,hS.pk [0]⟩
 refine gc h ?_ ?_<;>intro _ h
 · refine T ?_;intro _ _ h _ l;have⟨_,n,h⟩:=ob h;refine LW.u (dL.rem rfl rfl (AY n)) rfl ?_;refine go ?_;replace h:=oi h;subst h;exact Ra ⟨rfl,l.pk [0]⟩
 refine T ?_;intro _ _ h _ _ _ _ h _ _ _ _ h _ _ _ _ h _ m;have⟨_,k,h⟩:=ob h;refine LW.u (dL.rem rfl rfl (AY k)) rfl ?_;refine go ?_;replace h:=oi h;subst h;exact Ra ⟨rfl,m.pk [0]⟩
instance k_65:Ct prog 65:={h:=@pt}
theorem Gw{w0 N b d r}(h:oX N b d=some r):
    di prog 258 #[.agg #[vI b.cd,vI b.dg,vI b.dn],vI d] w0 (fun v w=>v=vI r/\St w0 [] w []):=by
 unfold oX at h;refine di.fS func258 fun e _=>?_;refine T ?_;intro _ _ _;refine gc h ?_ ?_<;>intro _ h
 · exact rt
 refine gc h ?_ ?_<;>intro _ h
 · exact rt
 refine gc h ?_ ?_<;>intro _ h
 · exact rt
 exact rt
instance k_258:Ct prog 258:={h:=@Gw}
theorem zI{w0 N b r}(h:jz N b=some r){A V J}(ab:V=b.Rp.Ro.length)(ai:rb w0 A J b.Rp.Ro){B W K}(ac:W=b.own.length)(aj:rb w0 B K b.own){C X L}(ad:X=b.Rr.length)(az:rb w0 C L b.Rr){G Y M}(ae:Y=b.py.ag.length)(aA:rb w0 G M b.py.ag){H Z O}(af:Z=b.py.gc.da.length)(aB:rb w0 H O b.py.gc.da){I aa R}(ah:aa=b.db.length)(ak:rb w0 I R b.db):
    di prog 173 #[.agg (uP A V J B W K C X L G Y M H Z O I aa R b)] w0 (fun v w=>∃d o f p g q j u k x n z,v=.agg (uP d r.Rp.Ro.length o f r.own.length p g r.Rr.length q j r.py.ag.length u k r.py.gc.da.length x n r.db.length z r)/\St w0 [] w [sl d o r.Rp.Ro,sl f p r.own,sl g q r.Rr,sl j u r.py.ag,sl k x r.py.gc.da,sl n z r.db]):=by
 subst ab ac ad ae af ah;unfold jz at h;refine di.fS func173 fun e _=>?_;refine T ?_;intro _ _ _ _ _ av;refine LW.b0 (α:=Int) av ?_;intro _ _ _ an hf;refine gb h fun ay ax h=>?_;refine LW.fM (l:=([]:List Int)) (m:=b.Rp.Ro) lH rfl rfl (an.rB ai) ax an (i:=0) rfl rfl ?_;intro au am _ _ hf;refine LW.bd [(0,vS au ay.length am)] #[vS au ay.length am] ?_;refine T ?_;intro _ aw;refine LW.b0 (α:=Int) aw ?_;intro _ _ _ ao hf;refine gb h fun _ aq h=>?_;refine LW.fM (l:=([]:List Int)) (m:=b.own) lH rfl rfl (ao.rB aj) aq ao (i:=0) rfl rfl ?_;intro _ _ _ _ hf;refine T ?_;intro _ _ _ _ h _ _ _ _ _ _ _ _ h _ _ _ _ _ _;refine T ?_;intro _ ap;refine LW.b0 (α:=ef) ap ?_;intro _ _ _ U hf;refine gb h fun _ ar h=>?_;refine LW.fM (l:=([]:List ef)) (m:=b.db) tU rfl rfl (U.rB ak) ar U (i:=0) rfl rfl ?_;intro _ _ _ _ hf;exact wk
instance k_173:Ct prog 173:={h:=@zI}
theorem Jz{w0 N C r}(h:qK N C=some r){l n m}(p:n=C.length)(q:rb w0 l m C):
    di prog 245 #[vS l n m] w0 (fun v w=>∃u x,v=vS u r.length x/\St w0 [] w [sl u x r]):=by
 subst p;unfold qK at h;refine di.fS func245 fun e I=>?_;refine go ?_;refine LW.b0 (α:=dJ) I ?_;intro R U _ z hf;refine go ?_;obtain⟨_,A,H⟩:=ob h;refine CW.i2 A 0 [0] [] (fun k (b:Ad) (d:Nat)=>[(3,vS b k.1.length d),(4,vI k.2)]) (fun k b d=>[sl b d k.1]) z ?_ ?_ ?_
 · exact⟨R,U,z.po [0]⟩
 · intro k e b d _ o _ h;refine gc h ?_ ?_<;>intro _ h
   · refine gb h fun _ O h=>?_;obtain⟨_,_,_,rfl,_,_,_,⟨_,_,rfl,_⟩,_⟩:=q.idx O;refine go ?_;refine T ?_;intro j _ h f g _ J;refine LW.bd [(0,vS f j.length g)] #[vS f j.length g] ?_;have K:=J.pk (M:=[sl f g j]++[sl b d k.1]) [0,1];have⟨_,B,h⟩:=ob h;refine LW.fZ (M:=[sl f g j]) (L:=[sl b d k.1]) (vs:=#[vS f j.length g]) (i:=0) M4 rfl (by kernel_rfl) rfl rfl B K rfl (fun w G hG=>⟨f,g,rfl,hG⟩) rfl rfl ?_;intro _ _ _ _ _ hf;exact rt
   exact rt
 intro e b d _ _;have h:=H;exact rt
instance k_245:Ct prog 245:={h:=@Jz}
end Go.Kx
