import Derived.Test.YtfmfgnhbgcjajaaGreatWa1
import Derived.Test.YtfmfgnhbgcjajaaGreatWa2
namespace Go.Kx
open Go Go.RowKit Go.Proofs
open Tryz
set_option maxRecDepth 10000
set_option maxHeartbeats 8000000
set_option linter.unusedVariables false
set_option linter.unusedSimpArgs false
theorem zR{w0 N b d r}(h:rR N b d=some r){f z m}(I:z=b.dk.length)(R:rb w0 f m b.dk){g A n}(J:A=b.Rw.length)(U:rb w0 g n b.Rw){i B o}(K:B=b.Rs.length)(V:rb w0 i o b.Rs){j C p}(L:C=d.dk.length)(W:rb w0 j p d.dk){k G q}(M:G=d.Rw.length)(X:rb w0 k q d.Rw){l H x}(O:H=d.Rs.length)(Y:rb w0 l x d.Rs):
    di prog 233 #[.agg (uO f z m g A n i B o b),.agg (uO j C p k G q l H x d)] w0 (fun v w=>v=.bool r/\St w0 [] w []):=by
 subst I J K L M O;unfold rR at h;refine di.fS func233 fun e _=>?_;refine T ?_;intro _ _ _ _ _ _;refine gB h ?_ ?_<;>intro _ h
 · refine gB h ?_ ?_<;>intro _ h
   · refine go ?_;refine bH h ?_ ?_<;>intro _ h
     · refine gB h ?_ ?_<;>intro _ h
       · refine gB h ?_ ?_<;>intro _ h
         · refine gB h ?_ ?_<;>intro _ h
           · refine go ?_;refine bH h ?_ ?_<;>intro _ h
             · refine gB h ?_ ?_<;>intro _ h
               · refine gB h ?_ ?_<;>intro _ h
                 · refine go ?_;refine LW.u (dL.beq underlying4 rfl rfl) rfl ?_;exact wk
                 exact rt
               exact rt
             exact rt
           exact rt
         exact rt
       exact rt
     exact rt
   exact rt
 exact rt
instance k_233:Ct prog 233:={h:=@zR}
theorem KH{w0 N g r}(h:sH N g=some r){m x p}(H:x=g.dk.length)(j:rb w0 m p g.dk){n z q}(I:z=g.Rw.length)(k:rb w0 n q g.Rw){o A u}(J:A=g.Rs.length)(l:rb w0 o u g.Rs):
    di prog 193 #[.agg (uO m x p n z q o A u g)] w0 (fun v w=>v=.bool r/\St w0 [] w []):=by
 subst H I J;unfold sH at h;refine di.fS func193 fun e ap=>?_;refine we ap fun _ _ K=>?_;refine gs ?_;obtain⟨aA,au,az⟩:=ob h;refine CW.jn [1] [0] [(12,.bool aA)] K (h1:=?_) (h2:=?_)
 · have h:=au;refine gb h fun _ av h=>?_;refine LW.c0 (kR av) K fun _ L=>?_;refine gB h ?_ ?_<;>intro _ h
   · refine go ?_;cases oi h;exact L.po [0]
   refine gb h fun _ aw h=>?_;refine go ?_;refine LW.c0 (kR aw) L fun _ aq=>?_;refine go ?_;cases oi h;exact aq.po [0]
 intro e i f;have h:=az;refine gc h ?_ ?_<;>intro _ h
 · refine go ?_;cases h;exact fi f
 refine gc h ?_ ?_<;>intro _ h
 · refine fm [(0,vI g.RG)] #[vI g.RG,vI 0,vI 0,vI 0,vI 0,vI 0,vI 0,vI 0,vI 0,.bool false,vS none 0 0,vS none 0 0,vS none 0 0] ?_;have⟨_,aa,h⟩:=ob h;refine LW.c0 (zR aa rfl (f.rB j) rfl (f.rB k) rfl (f.rB l) rfl (show dX (α:=Int) (eJ i []) i none 0 [] from dX.nil _ _ _ _ (Nat.zero_le _)) rfl (show dX (α:=Int) (eJ i []) i none 0 [] from dX.nil _ _ _ _ (Nat.zero_le _)) rfl (show dX (α:=eL) (eJ i []) i none 0 [] from dX.nil _ _ _ _ (Nat.zero_le _))) f fun _ ar=>?_;refine go ?_;cases h;exact fi ar
 refine gs ?_;obtain⟨ax,Y,an⟩:=ob h;refine CW.jn [1] [0] [(47,.bool ax)] f (h1:=?_) (h2:=?_)
 · have h:=Y;refine gb h fun _ ab h=>?_;refine LW.c0 (kR ab) f fun _ M=>?_;refine gB h ?_ ?_<;>intro _ h
   · refine go ?_;cases oi h;exact M.po [0]
   refine gb h fun _ ac h=>?_;refine go ?_;refine LW.c0 (zO ac) M fun _ O=>?_;refine gB h ?_ ?_<;>intro _ h
   · refine go ?_;cases oi h;exact O.po [0]
   refine gb h fun _ ad h=>?_;refine go ?_;refine LW.c0 (vb ad) O fun _ R=>?_;refine gB h ?_ ?_<;>intro _ h
   · refine go ?_;cases oi h;exact R.po [0]
   refine go ?_;have⟨_,ae,h⟩:=ob h;refine go ?_;refine LW.c0 (kR ae) R fun _ d=>?_;refine gB h ?_ ?_<;>intro _ h
   · refine go ?_;cases oi h;exact d.po [0]
   refine gb h fun _ af h=>?_;refine go ?_;refine LW.c0 (zJ af rfl (d.rB j) rfl (d.rB k) rfl (d.rB l)) d fun _ U=>?_;refine go ?_;cases oi h;exact U.po [0]
 intro e _ b;have h:=an;refine gc h ?_ ?_<;>intro _ h
 · refine go ?_;cases h;exact fi b
 refine gc h ?_ ?_<;>intro _ h
 · refine gs ?_;obtain⟨ay,Z,ao⟩:=ob h;refine CW.jn [] [] [(2,.bool ay)] b (h1:=?_) (h2:=?_)
   · have h:=Z;refine gB h ?_ ?_<;>intro _ h
     · refine gB h ?_ ?_<;>intro _ h
       · refine go ?_;cases oi h;exact b.po []
       refine go ?_;cases oi h;exact b.po []
     refine go ?_;cases oi h;exact b.po []
   intro e _ V;have h:=ao;refine go ?_;cases h;exact fi V
 refine gB h ?_ ?_<;>intro _ h
 · refine gb h fun _ ah h=>?_;refine go ?_;refine LW.c0 (kR ah) b fun _ B=>?_;refine gB h ?_ ?_<;>intro _ h
   · refine go ?_;have⟨_,ai,h⟩:=ob h;refine go ?_;refine LW.c0 (vb ai) B fun _ W=>?_;refine go ?_;cases h;exact fi W
   refine go ?_;cases h;exact fi B
 refine gb h fun _ aj h=>?_;refine go ?_;refine LW.c0 (yp aj) b fun _ C=>?_;refine gB h ?_ ?_<;>intro _ h
 · refine gb h fun _ ak h=>?_;refine go ?_;refine LW.c0 (kR ak) C fun _ G=>?_;refine go ?_;refine bH h ?_ ?_<;>intro _ h
   · refine gb h fun _ am h=>?_;refine go ?_;refine LW.c0 (vb am) G fun _ X=>?_;refine go ?_;cases h;exact fi X
   refine go ?_;cases h;exact fi G
 refine go ?_;cases h;exact fi C
instance k_193:Ct prog 193:={h:=@KH}
theorem wR{w0 N O r}(h:kQ N O=some r){d k f}(n:k=O.length)(b:rb w0 d f O):
    di prog 143 #[vS d k f] w0 (fun v w=>v=.bool r/\St w0 [] w []):=by
 subst n;unfold kQ at h;refine di.fS func143 fun e V=>?_;refine gs ?_;refine CW.region ?_;refine gs ?_;obtain⟨ae,aa,h2⟩:=ob h;refine CW.jn [0] [] [(30,.bool ae)] V (h1:=?_) (h2:=?_)
 · have h:=aa;refine gB h ?_ ?_<;>intro _ h
   · exact rt
   refine gb h fun _ ab h=>?_;obtain⟨_,_,_,rfl,_,_,_,⟨_,_,_,_,_,_,rfl,_,_,_⟩,_⟩:=b.idx ab;refine go ?_;refine T ?_;refine bH h ?_ ?_<;>intro _ h
   · exact rt
   refine go ?_;refine T ?_;refine bH h ?_ ?_<;>intro _ h
   · exact rt
   refine go ?_;refine T ?_;exact rt
 intro e _ W;have h:=h2;refine gc h ?_ ?_<;>intro _ h
 · exact rt
 refine go ?_;obtain⟨m,q,i⟩:=ob h;refine CW.mono (CW.lx [0,31,32] [] [] 0 (fun z=>[(33,vI z)]) (RT prog f143.results (fun u=>.bool u) w0 []) W q (hb:=?_)) ?_
 · intro z e _ o _ h;refine gc h ?_ ?_<;>intro _ h
   · refine gb h fun _ J h=>?_;obtain⟨_,_,_,rfl,_,_,_,⟨_,_,_,_,_,_,rfl,I,_,_⟩,_⟩:=b.idx J;refine go ?_;refine T ?_;intro _ _ _ _ X;obtain⟨ac,G,R⟩:=ob h;refine CW.jn [0,4,31,32,33] [0] [(63,.bool ac)] X (h1:=?_) (h2:=?_)
     · have h:=G;refine T ?_;intro _ _ h _ _;refine bH h ?_ ?_<;>intro _ h
       · exact rt
       refine gB h ?_ ?_<;>intro _ h
       · refine go ?_;refine bH h ?_ ?_<;>intro _ h
         · refine gB h ?_ ?_<;>intro _ h
           · refine gb h fun _ K h=>?_;obtain⟨_,_,_,j,_,_,_,B,_⟩:=b.idx K;cases j;obtain⟨_,_,_,_,_,_,rfl,_,_,_⟩:=B;refine go ?_;refine T ?_;exact rt
           exact rt
         exact rt
       exact rt
     intro e _ Y;have h:=R;refine gc h ?_ ?_<;>intro _ h
     · exact rt
     refine go ?_;obtain⟨l,p,g⟩:=ob h;refine CW.mono (CW.lx [0,31,32,33,65,66] [] [0,31,32,33] 2 (fun A=>[(67,vI A)]) (RT prog f143.results (fun u=>.bool u) w0 []) Y p (hb:=?_)) ?_
     · intro A e _ o Z h;refine gf [0,31,32,33,65,66,67,68] fun e=>?_;refine gc h ?_ ?_<;>intro _ h
       · refine gb h fun _ L h=>?_;obtain⟨_,_,_,rfl,_,_,_,rfl,_⟩:=I.idx L;refine go ?_;refine T ?_;obtain⟨ad,H,U⟩:=ob h;refine CW.jn [0,31,32,33,65,66,67] [] [(80,.bool ad)] Z (h1:=?_) (h2:=?_)
         · have h:=H;refine gB h ?_ ?_<;>intro _ h
           · refine gb h fun _ M h=>?_;obtain⟨_,_,_,j,_,_,_,C,_⟩:=b.idx M;cases j;obtain⟨_,_,_,_,_,_,rfl,_,_,_⟩:=C;refine go ?_;refine T ?_;exact rt
           exact rt
         intro e _ _;have h:=U;exact wk
       exact rt
     intro x e _ hM;rcases l with l|_
     · obtain⟨rfl,hM⟩:=hM;obtain⟨e,rfl,_⟩:=eo hM;have h:=g;exact rt
     obtain⟨rfl,u,rfl,hM⟩:=hM;cases g;exact⟨trivial,rfl,_,rfl,hM⟩
   exact rt
 intro x e _ hM;rcases m with m|_
 · obtain⟨rfl,hM⟩:=hM;obtain⟨e,rfl,_⟩:=eo hM;rw[show e=dF e [] from rfl];have h:=i;exact rt
 obtain⟨rfl,u,rfl,hM⟩:=hM;cases i;exact And.intro trivial hM
instance k_143:Ct prog 143:={h:=@wR}
theorem Ln{w0 N aI aW r}(h:sB N aI aW=some r){I Z J}(ac:Z=aI.length)(af:rb w0 I J aI):
    di prog 98 #[vS I Z J,vI aW] w0 (fun v w=>∃ai aj,v=vS ai r.length aj/\St w0 [] w [sl ai aj r]):=by
 subst ac;unfold sB at h;refine di.fS func98 fun e _=>?_;refine T ?_;intro _ _ h _ ak;refine gc h ?_ ?_<;>intro _ h
 · refine go ?_;cases h;have aP:=ak.nil (α:=Bool);exact Ra ⟨none,0,rfl,aP.pk [0]⟩
 refine gb h fun aZ aT h=>?_;refine LW.mk Nb rfl rfl aT ak rfl ?_;intro _ q _ am hf;refine gb h fun _ ap h=>?_;obtain⟨f,j,rfl,_,_⟩:=am.dA (α:=Bool) (i:=0) rfl ap;refine go ?_;have⟨aX,U,h⟩:=ob h;refine LW.se 0 am 0 ap U (hM:=ti) fun _ aQ=>?_;refine go ?_;refine LW.bi [0] aQ ?_;intro aK aM _ an hf;refine go ?_;obtain⟨_,ae,av⟩:=ob h;refine CW.i2 ae 0 [0,1] [] (fun p (k:Ad) (m:Nat)=>[(5,vS (some ⟨f,j,none⟩) p.1.length q),(6,vS k p.2.length m)]) (fun p k m=>[sl k m p.2,sl (some ⟨f,j,none⟩) q p.1]) an ?_ ?_ ?_
 · exact⟨aK,aM,⟨rfl,rfl,(show(vS (some ⟨f,j,none⟩) aZ.length q:Value)=vS (some ⟨f,j,none⟩) aX.length q by rw[dx (oi U)]),rfl,trivial⟩,an.pk [0,1]⟩
 · intro p e k m _ o ao h;refine gf [0,1,5,6,19] fun e=>?_;refine gc h ?_ ?_<;>intro _ h
   · refine gb h fun _ V h=>?_;obtain⟨_,_,rfl,_,_⟩:=ao.dA (α:=Int) (i:=0) rfl V;refine go ?_;obtain⟨_,R,aR⟩:=ao.freeze (α:=Int) 0 rfl;obtain⟨_,_,_,g,_,_,_,aB,_⟩:=R.fe.idx V;cases g;obtain rfl:=aB;refine T ?_;have aS:=aR.dZ (α:=Int) 0 rfl R;have⟨_,W,h⟩:=ob h;obtain⟨ab,aL,aN,aE,aF,_⟩:=aS.tI (α:=Int) 0 rfl W;refine LW.u (dL.sub (α:=Int) (l:=p.2) underlying29 E2 rfl (sL rfl) tq W ab aE aF) rfl ?_;refine T ?_;intro _ _ h _ _ _ K;refine go ?_;obtain⟨_,ad,au⟩:=ob h;refine CW.i2 ad 2 [0,1,27,28] [0] (fun n (b:Ad) (d:Nat)=>[(5,vS (some ⟨f,j,none⟩) n.1.length q),(6,vS b n.2.1.length d),(29,vI n.2.2)]) (fun n b d=>[sl b d n.2.1,sl (some ⟨f,j,none⟩) q n.1]) K ?_ ?_ ?_
     · exact⟨aL,aN,K.po [0,1,2]⟩
     · intro n e b d aV o O h;refine gf [0,1,5,6,27,28,29,30] fun e=>?_;refine gc h ?_ ?_<;>intro _ h
       · refine gb h fun aY X h=>?_;obtain⟨_,_,rfl,_,_⟩:=O.dA (α:=Int) (i:=0) rfl X;refine go ?_;obtain⟨aJ,A,x⟩:=O.freeze (α:=Int) 0 rfl;obtain⟨_,_,_,g,_,_,_,aC,_⟩:=A.fe.idx X;cases g;obtain rfl:=aC;refine T ?_;obtain⟨aU,aG,aO⟩:=ob h;refine CW.jn [0,1,5,6,9,27,28,29] [0,1,2] [(46,.bool aU)] x (h1:=?_) (h2:=?_)
         · have h:=aG;refine gb h fun _ Y h=>?_;obtain⟨_,_,g,_,_⟩:=x.dA (α:=Bool) (i:=2) rfl Y;cases g;refine go ?_;obtain⟨_,B,aw⟩:=x.freeze (α:=Bool) 2 rfl;obtain⟨_,_,_,g,_,_,_,aD,_⟩:=B.fe.idx Y;cases g;obtain rfl:=aD;refine T ?_;refine bH h ?_ ?_<;>intro _ h
           · refine gb h fun _ aH h=>?_;obtain⟨_,_,_,rfl,_,_,_,⟨_,_,_,_,_,_,rfl,_,_,_⟩,_⟩:=af.idx aH;refine go ?_;refine T ?_;intro _ _ h _ ax;have:=ax.dZ (α:=Bool) 2 rfl B;exact rt
           refine go ?_;have:=aw.dZ (α:=Bool) 2 rfl B;exact rt
         intro e _ z;have h:=aO;refine gc h ?_ ?_<;>intro _ h
         · refine gb h fun _ C h=>?_;obtain⟨_,_,g,_,_⟩:=z.dA (α:=Bool) (i:=2) rfl C;cases g;refine go ?_;have⟨aa,H,h⟩:=ob h;refine LW.se 0 z 2 C H (hM:=ti) fun _ ay=>?_;refine gb h fun _ ah h=>?_;refine LW.fZ (M:=[]) (L:=[fz aV aJ,sl b d n.2.1,sl (some ⟨f,j,none⟩) q aa]) (vs:=#[vI aY]) (i:=1) lH rfl (by kernel_rfl) rfl rfl ah ay rfl (fun w G hG=>by cases(show G=[] from hG);exact⟨rfl,rfl⟩) rfl rfl ?_;intro _ aq ar _ az hf;refine go ?_;replace h:=oi h;subst h;have aA:=az.dZ (α:=Int) 0 rfl A;exact⟨rfl,⟨aq,ar,⟨rfl,rfl,rfl,rfl,(show(vS (some ⟨f,j,none⟩) n.1.length q:Value)=vS (some ⟨f,j,none⟩) aa.length q by rw[dx (oi H)]),rfl,rfl,trivial⟩,aA.pk [0,1,2]⟩⟩
         refine go ?_;have:=z.dZ (α:=Int) 0 rfl A;exact rt
       exact rt
     intro e b d _ _;have h:=au;exact rt
   exact rt
 intro e k m _ _;have h:=av;exact rt
instance k_98:Ct prog 98:={h:=@Ln}
theorem tm{w0 N u G H I r}(h:lk N u G H I=some r){b g d}(j:g=u.length)(k:rb w0 b d u):
    di prog 154 #[vS b g d,vI G,vI H,vI I] w0 (fun v w=>v=vI r/\St w0 [] w []):=by
 subst j;unfold lk at h;refine di.fS func154 fun e _=>?_;refine T ?_;intro _ _ h _ _ _ z;obtain⟨K,B,J⟩:=ob h;refine CW.jn [0,3,9] [0] [(27,.bool K)] z (h1:=?_) (h2:=?_)
 · have h:=B;exact wk
 intro e _ _;have h:=J;refine gc h ?_ ?_<;>intro _ h
 · exact rt
 refine T ?_;intro _ _ h _ l;obtain⟨C,o,x⟩:=ob h;refine CW.jn [10] [] [(52,.bool C)] l (h1:=?_) (h2:=?_)
 · have h:=o;refine dW ?_;have:=l.drew;refine gb h fun _ q h=>?_;obtain⟨_,_,_,rfl,_,_,_,⟨_,_,_,_,_,_,rfl,_,_,_⟩,_⟩:=k.idx q;refine go ?_;refine T ?_;refine bH h ?_ ?_<;>intro _ h
   · exact rt
   refine go ?_;refine T ?_;intro _ _ h _ m;refine bH h ?_ ?_<;>intro _ h
   · exact rt
   refine gb h fun _ f h=>?_;obtain⟨_,_,rfl,_,_⟩:=m.dA (α:=Bool) (i:=0) rfl f;refine go ?_;obtain⟨_,p,_⟩:=m.freeze (α:=Bool) 0 rfl;obtain⟨_,_,_,A,_,_,_,n,_⟩:=p.fe.idx f;cases A;obtain rfl:=n;refine T ?_;exact rt
 intro e _ _;have h:=x;exact wk
instance k_154:Ct prog 154:={h:=@tm}
theorem pB{w0}{F:List Nat}{N b O R r}(h:gH N b O R=some r){I:Nat}{d m}(U:dX (eJ w0 F) w0 d m b.Rn.Rp.Ro){f n}(V:dX (eJ w0 F) w0 f n b.Rn.own){g o}(W:dX (eJ w0 F) w0 g o b.Rn.Rr){j q}(A:dX (eJ w0 F) w0 j q b.Rn.py.ag){k x}(X:dX (eJ w0 F) w0 k x b.Rn.py.gc.da){l z}(Y:dX (eJ w0 F) w0 l z b.Rn.db)(hS:St w0 F w0 [bx I 183 (qC d m f n g o j q k x l z b)]):
    di prog 201 #[.pointer (some ⟨I,0,none⟩),vI O,vI R] w0 (fun v w=>v=.tuple #[vI r.1,vI r.2.1]/\St w0 F w [bx I 183 [vS d b.Rn.Rp.Ro.length m,vS f b.Rn.own.length n,vS g b.Rn.Rr.length o,vS j b.Rn.py.ag.length q,vI r.2.2.Rn.py.gc.Ru,vI r.2.2.Rn.py.gc.RD,vI r.2.2.Rn.py.gc.Rv,vS k b.Rn.py.gc.da.length x,vS l b.Rn.db.length z,vI r.2.2.Rn.RA,vI r.2.2.Rn.Rz,vI r.2.2.Rn.dc.cd,vI r.2.2.Rn.dc.dg,vI r.2.2.Rn.dc.dn,vI r.2.2.Rn.du,vI r.2.2.Rn.Rx,vI r.2.2.me,vI r.2.2.RB,vI r.2.2.dS]]):=by
 unfold gH at h;refine di.fn func201 fun e=>?_;refine T ?_;intro _ _ h _ B;refine gc h ?_ ?_<;>intro _ h
 · refine go ?_;replace h:=oi h;subst h;exact Rc tt tt ⟨rfl,B.pk [0]⟩
 refine fA ?_;have:=B.drew;refine go ?_;refine jP 1 ?_;refine T ?_;intro _ _ h _ C;refine AW.u (i:=6) rfl (by kernel_rfl) rfl rfl (dL.p rfl) ?_;refine gc h ?_ ?_<;>intro _ h
 · refine go ?_;replace h:=oi h;subst h;exact Rc tt tt ⟨rfl,C.pk [0]⟩
 refine fA ?_;have:=C.drew;refine T ?_;intro _ _ h _ G;refine gc h ?_ ?_<;>intro _ h
 · refine go ?_;replace h:=oi h;subst h;exact Rc tt tt ⟨rfl,G.pk [0]⟩
 refine gs ?_;obtain⟨M,J,L⟩:=ob h;refine CW.jn [0,8] [0] [(52,.bool M)] G (h1:=?_) (h2:=?_)
 · have h:=J;refine gB h ?_ ?_<;>intro _ h
   · refine go ?_;refine LW.u (dL.nc rfl) rfl ?_;refine gb h fun _ K h=>?_;obtain⟨_,_,_,rfl,_,_,_,⟨_,_,_,_,_,_,rfl,_,_,_⟩,_⟩:=A.idx K;refine go ?_;refine T ?_;exact rt
   exact rt
 intro e _ H;have h:=L;refine gc h ?_ ?_<;>intro _ h
 · refine go ?_;replace h:=oi h;subst h;exact Rc tt tt ⟨rfl,H.pk [0]⟩
 refine go ?_;replace h:=oi h;subst h;exact Rc tt tt ⟨rfl,H.pk [0]⟩
instance k_201:Ct prog 201:={h:=@pB}
theorem I2{w0 N d r}(h:mQ N d=some r){f m i}(q:m=d.ag.length)(ac:rb w0 f i d.ag){g n j}(z:n=d.gc.da.length)(b:rb w0 g j d.gc.da):
    di prog 97 #[.agg (uH f m i g n j d)] w0 (fun v w=>v=.bool r/\St w0 [] w []):=by
 subst q z;unfold mQ at h;refine di.fS func97 fun e _=>?_;refine T ?_;intro _ _ R;refine go ?_;obtain⟨B,K,A⟩:=ob h;refine CW.mono (CW.lx [1,9,10] [0] [1] 0 (fun ab=>[(11,vI ab)]) (RT prog f97.results (fun u=>.bool u) w0 []) R K (hb:=?_)) ?_
 · intro ab e _ o U h;refine gc h ?_ ?_<;>intro _ h
   · refine gb h fun _ X h=>?_;obtain⟨_,_,_,rfl,_,_,_,rfl,_⟩:=b.idx X;refine go ?_;refine T ?_;obtain⟨Y,H,L⟩:=ob h;refine CW.jn [1,9,10,11] [0] [(27,.bool Y)] U (h1:=?_) (h2:=?_)
     · have h:=H;refine T ?_;intro _ _ h _ _;refine bH h ?_ ?_<;>intro _ h
       · exact rt
       refine gb h fun _ k h=>?_;obtain⟨_,_,C,G,_⟩:=dX.tI b k;have p:=(b).le;refine go ?_;refine LW.u (dL.sub (α:=Int) (l:=d.gc.da) underlying29 E2 rfl tq (sL rfl) k p C G) rfl ?_;exact wk
     intro e _ _;have h:=L;refine gf [1,9,10,11,27] fun e=>?_;exact wk
   exact rt
 intro x e _ hM;rcases B with B|_
 · obtain⟨rfl,hM⟩:=hM;obtain⟨e,rfl,V⟩:=eo hM;have h:=A;refine gs ?_;obtain⟨Z,I,M⟩:=ob h;refine CW.jn [1] [0] [(5,.bool Z)] V (h1:=?_) (h2:=?_)
   · have h:=I;exact wk
   intro e _ W;have h:=M;refine gs ?_;obtain⟨aa,J,O⟩:=ob h;refine CW.jn [1,5] [0] [(6,.bool aa)] W (h1:=?_) (h2:=?_)
   · have h:=J;exact wk
   intro e _ _;have h:=O;exact wk
 obtain⟨rfl,u,rfl,hM⟩:=hM;cases A;exact And.intro trivial hM
instance k_97:Ct prog 97:={h:=@I2}
theorem ye{w0 N a5 q r}(h:nK N a5 q=some r){aa aD af}(aF:aD=a5.length)(n:rb w0 aa af a5){b X g}(av:X=q.dk.length)(ay:rb w0 b g q.dk){d Y k}(aw:Y=q.Rw.length)(az:rb w0 d k q.Rw){f Z m}(ax:Z=q.Rs.length)(aA:rb w0 f m q.Rs):
    di prog 112 #[vS aa aD af,.agg (uO b X g d Y k f Z m q)] w0 (fun v w=>∃H K,v=.tuple #[vS H r.1.length K,vI r.2]/\St w0 [] w [sl H K r.1]):=by
 subst aF av aw ax;unfold nK at h;refine di.fS func112 fun e a8=>?_;refine we a8 fun a6 _ aO=>?_;refine gb h fun bf bc h=>?_;refine LW.cl (uJ bc rfl (aO.rB n)) ?_;rintro _ _ ⟨ab,ah,rfl,hs⟩;have ap:=aO.add hs;refine gs ?_;obtain⟨bj,bb,bi⟩:=ob h;refine CW.jn [0,3,6] [0,1] [(19,.bool bj)] ap (h1:=?_) (h2:=?_)
 · have h:=bb;refine gb h fun _ bd h=>?_;refine LW.c0 (wR bd rfl (ap.rB n)) ap fun _ aP=>?_;refine gB h ?_ ?_<;>intro _ h
   · refine go ?_;cases oi h;exact aP.po [0,1]
   refine go ?_;cases oi h;exact aP.po [0,1]
 intro e _ aQ;have h:=bi;refine gc h ?_ ?_<;>intro _ h
 · refine go ?_;cases h;exact Rc tt tt ⟨ab,ah,rfl,aQ.pk [0]⟩
 refine go ?_;obtain⟨aR,aX,aN⟩:=ob h;refine CW.mono (CW.lx [0,3,6,21,22] [0,1] [6] 0 (fun O=>[(23,vI O)]) (fun r x e wb=>x=.ret/\∃u,u=r/\∃v,gL prog f112.results e wb v/\∃H K,v=.tuple #[vS H u.1.length K,vI u.2]/\St w0 [] wb [sl H K u.1]) aQ aX (hb:=?_)) ?_
 · intro O e _ o aq h;refine gc h ?_ ?_<;>intro _ h
   · refine gb h fun aS a0 h=>?_;obtain⟨_,_,_,rfl,au,_,_,⟨aG,aJ,aH,aK,aI,aL,rfl,_,_,_⟩,aW⟩:=n.idx a0;refine go ?_;refine LW.l (fv.tH w0 wS rfl rfl (fun j u hu=>aW j u hu)) (aq.same _ au.1 au.2) rfl ?_;refine LW.al aq fun aM _ a9=>?_;refine sC a9 0 fun _ W=>?_;refine gs ?_;obtain⟨be,aV,a7⟩:=ob h;refine CW.jn [0,3,6,7,8,21,22,23] [0,1,2] [(39,.bool be)] W (h1:=?_) (h2:=?_)
     · have h:=aV;refine gB h ?_ ?_<;>intro _ h
       · refine go ?_;cases oi h;exact W.po [0,1,2]
       refine go ?_;refine bH h ?_ ?_<;>intro _ h
       · refine go ?_;cases oi h;exact W.po [0,1,2]
       refine go ?_;cases oi h;exact W.po [0,1,2]
     intro e _ ar;have h:=a7;refine gf [0,3,6,7,8,21,22,23,39] fun e=>?_;refine gc h ?_ ?_<;>intro _ h
     · refine go ?_;cases oi h;exact⟨rfl,(ar.po [1,2])⟩
     refine gb h fun R a1 h=>?_;refine LW.cl (uJ a1 rfl (ar.rB n)) ?_;rintro _ _ ⟨_,J,rfl,hs⟩;have B:=ar.add hs;refine gb h fun p a2 h=>?_;refine LW.cl (zw a2 rfl (B.rB ay) rfl (B.rB az) rfl (B.rB aA)) ?_;rintro _ _ ⟨ac,ai,ad,aj,ae,ak,rfl,hs⟩;have am:=B.add hs;have⟨bg,aB,h⟩:=ob h;obtain⟨I,A,rfl,_,_⟩:=am.dA (α:=c6) (i:=3) rfl aB;refine go ?_;have aT:=am.pk (M:=[sl ac ai p.dk,sl ad aj p.Rw,sl ae ak p.Rs]++[sl (some ⟨I,A,none⟩) J R,bx aM 96 (qO aG aJ aH aK aI aL aS),sl ab ah bf,bx a6 96 (qO b g d k f m q)]) [0,1,2,3,4,5,6];have⟨_,C,h⟩:=ob h;refine LW.uR (M:=[sl ac ai p.dk,sl ad aj p.Rw,sl ae ak p.Rs]) (L:=[sl (some ⟨I,A,none⟩) J R,bx aM 96 (qO aG aJ aH aK aI aL aS),sl ab ah bf,bx a6 96 (qO b g d k f m q)]) (z:=bg) (z':=p) (o:=0) aT (i:=0) rfl aB wS rfl (by show _=A+(O:Int).toNat*13+0;omega) rfl rfl rfl rfl (whole (fun w G hG=>⟨ac,ai,ad,aj,ae,ak,rfl,hG⟩)) ?_;intro _ U hf;rw[oi C]at U;refine gb h fun _ aC h=>?_;obtain⟨_,_,ba,aY,aZ⟩:=U.dA (α:=c6) (i:=0) rfl aC;cases ba;(try refine LW.u (dL.ix underlying47 wO rfl rfl aY (by rw[dx (oi C)];exact aZ)) rfl ?_);refine gb h fun aE V h=>?_;refine LW.se 0 U 0 aC V (hM:=(fK (fun w cs F hF=>by obtain⟨bk,bn,bl,bo,bm,bp,rfl,hH⟩:=hF;exact⟨bk,bn,bl,bo,bm,bp,rfl,hH⟩))) fun _ an=>?_;refine gb h fun _ a3 h=>?_
     refine LW.c0 (wR a3 (show R.length=aE.length from((dx (oi C)).trans (dx (oi V)))) (an.rI 0 rfl)) an fun _ ao=>?_;refine gf [6,7,9,56] fun e=>?_;refine gc h ?_ ?_<;>intro _ h
     · refine go ?_;cases oi h;exact⟨trivial,rfl,_,rfl,ry tt tt ⟨ab,ah,rfl,ao.pk [2]⟩⟩
     refine go ?_;replace h:=oi h;subst h;exact⟨trivial,rfl,_,rfl,ry tt tt ⟨(some ⟨I,A,none⟩),J,(show(.tuple #[vS (some ⟨I,A,none⟩) R.length J,vI O]:Value)=.tuple #[vS (some ⟨I,A,none⟩) aE.length J,vI O] by rw[show R.length=aE.length from((dx (oi C)).trans (dx (oi V)))]),ao.pk [0]⟩⟩
   refine go ?_;cases oi h;exact⟨trivial,rfl,(aq.po [0,1])⟩
 intro x e _ hM;rcases aR with aR|_
 · obtain⟨rfl,hM⟩:=hM;obtain⟨e,rfl,aU⟩:=eo hM;have h:=aN;refine go ?_;cases h;exact Rc tt tt ⟨ab,ah,rfl,aU.pk [0]⟩
 obtain⟨rfl,u,rfl,hM⟩:=hM;cases aN;exact And.intro trivial hM
instance k_112:Ct prog 112:={h:=@ye}
theorem zY{w0 N n O r}(h:nn N n O=some r){o x q}(A:x=n.ag.length)(R:rb w0 o q n.ag){p z u}(B:z=n.gc.da.length)(U:rb w0 p u n.gc.da):
    di prog 241 #[.agg (uH o x q p z u n),vI O] w0 (fun v w=>∃j l k m,v=.agg (uH j r.ag.length l k r.gc.da.length m r)/\St w0 [] w [sl j l r.ag,sl k m r.gc.da]):=by
 subst A B;unfold nn at h;refine di.fS func241 fun e _=>?_;refine T ?_;intro _ _ _ _ _ _ _ _ h _ _ _ _ _ _ H _ _ _ K;obtain⟨M,C,I⟩:=ob h;refine CW.jn [1,4,5] [0,1,2,3] [(13,.bool M)] K (h1:=?_) (h2:=?_)
 · have h:=C;exact wk
 intro e _ L;have h:=I;refine gs ?_;obtain⟨i,G,J⟩:=ob h;refine CW.j4 [4,5] [3] (fun(b:Ad) (f:Nat) (d:Ad) (g:Nat)=>[]) (fun b f d g=>[bx H 51 [vS b i.1.length f,vI i.2.1,vI i.2.2.1,vI i.2.2.2.1,vS d i.2.2.2.2.length g],sl b f i.1,sl d g i.2.2.2.2]) L ?_ ?_
 · have h:=G;exact wk
 intro e b f d g _ _;have h:=J;exact wk
instance k_241:Ct prog 241:={h:=@zY}
theorem AR{w0 N k ah r}(h:qu N k ah=some r){l z n}(B:z=k.ag.length)(G:rb w0 l n k.ag){m A o}(C:A=k.gc.da.length)(ai:rb w0 m o k.gc.da):
    di prog 114 #[.agg (uH l z n m A o k),vI ah] w0 (fun v w=>∃d g f j,v=.agg (uH d r.ag.length g f r.gc.da.length j r)/\St w0 [] w [sl d g r.ag,sl f j r.gc.da]):=by
 subst B C;unfold qu at h;refine di.fS func114 fun e _=>?_;refine T ?_;intro _ _ _ _ _ _ H _ h Z aa aj ak _ _ ab _ _ _ ae;obtain⟨af,L,ac⟩:=ob h;refine CW.jn [1,2,4,5] [0,1,2,3,4] [(22,.bool af)] ae (h1:=?_) (h2:=?_)
 · have h:=L;refine T ?_;intro _ _ h _ _;refine bH h ?_ ?_<;>intro _ h
   · refine T ?_;intro _ _ h _ _;refine bH h ?_ ?_<;>intro _ h
     · refine gb h fun _ O h=>?_;obtain⟨_,_,_,rfl,_,_,_,⟨_,_,_,_,_,_,rfl,_,_,_⟩,_⟩:=G.idx O;refine go ?_;refine T ?_;exact rt
     exact rt
   exact rt
 intro e _ b;have h:=ac;refine gs ?_;obtain⟨I,M,ad⟩:=ob h;refine CW.j0 [4,5] [2,3] [] [bx ab 51 [vS Z I.length aa,vI H.gc.Ru,vI H.gc.RD,vI H.gc.Rv,vS aj H.gc.da.length ak],sl Z aa I] b ?_ ?_
 · have h:=M;refine gc h ?_ ?_<;>intro _ h
   · refine gB h ?_ ?_<;>intro _ h
     · refine gb h fun _ p h=>?_;obtain⟨_,_,rfl,_,_⟩:=b.dA (α:=c6) (i:=1) rfl p;refine go ?_;refine gb h fun _ q h=>?_;refine LW.se 9 b 1 p q (hM:=(fK (fun w cs F hF=>by obtain⟨R,W,U,X,V,Y,rfl,hH⟩:=hF;exact⟨R,W,U,X,V,Y,rfl,hH⟩))) fun _ J=>?_;refine go ?_;rw[dx (oi q)]at J;exact rt
     refine gb h fun _ u h=>?_;obtain⟨_,_,rfl,_,_⟩:=b.dA (α:=c6) (i:=1) rfl u;refine go ?_;refine gb h fun _ x h=>?_;refine LW.se 9 b 1 u x (hM:=(fK (fun w cs F hF=>by obtain⟨R,W,U,X,V,Y,rfl,hH⟩:=hF;exact⟨R,W,U,X,V,Y,rfl,hH⟩))) fun _ K=>?_;refine go ?_;rw[dx (oi x)]at K;exact rt
   exact rt
 intro e _ _;have h:=ad;exact wk
instance k_114:Ct prog 114:={h:=@AR}
theorem Dx{w0}{F:List Nat}{N g p r}(h:gy N g p=some r){o:Nat}{d f}(x:dX (eJ w0 F) w0 d f g.b){j l k}(m:l=p.length)(n:dX (eJ w0 F) w0 j k p)(hS:St w0 F w0 [bx o 99 [vS d g.b.length f,vI g.i,vI g.h]]):
    di prog 66 #[.pointer (some ⟨o,0,none⟩),vS j l k] w0 (fun v w=>v=vI r.1/\St w0 F w [bx o 99 [vS d g.b.length f,vI r.2.i,vI r.2.h]]):=by
 subst m;unfold gy at h;refine di.fn func66 fun e=>?_;refine T ?_;intro _ _ h _ q;have⟨_,u,h⟩:=ob h;obtain⟨_,_,_,rfl,_,_,_,rfl,_⟩:=n.idx u;refine go ?_;refine T ?_;replace h:=oi h;subst h;exact Ra ⟨rfl,q.pk [0]⟩
instance k_66:Ct prog 66:={h:=@Dx}
theorem A0{w0 N g r}(h:mR N g=some r){m K A}(Y:K=g.Rp.Ro.length)(aC:rb w0 m A g.Rp.Ro){n O B}(Z:O=g.own.length)(aD:rb w0 n B g.own){p R C}(aa:R=g.Rr.length)(aE:rb w0 p C g.Rr){q U H}(ab:U=g.py.ag.length)(k:rb w0 q H g.py.ag){x V I}(ac:V=g.py.gc.da.length)(aF:rb w0 x I g.py.gc.da){z W J}(ad:W=g.db.length)(aG:rb w0 z J g.db):
    di prog 192 #[.agg (uP m K A n O B p R C q U H x V I z W J g)] w0 (fun v w=>∃ai an,v=vS ai r.length an/\St w0 [] w [sl ai an r]):=by
 subst Y Z aa ab ac ad;unfold mR at h;refine di.fS func192 fun e _=>?_;refine T ?_;intro _ _ az;refine LW.b0 (α:=oo) az ?_;intro aH aI _ ao hf;refine go ?_;refine LW.u (dL.min rfl rfl) rfl ?_;have⟨_,ap,h⟩:=ob h;obtain⟨_,_,aB,aq,au⟩:=dX.tI k ap;have X:=(k).le;refine LW.u (dL.sub (α:=c6) (l:=g.py.ag) underlying47 wO rfl tq (sL rfl) ap X aB aq) rfl ?_;refine go ?_;obtain⟨_,ar,ay⟩:=ob h;refine CW.i2 ar 0 [15,16] [] (fun j (d:Ad) (f:Nat)=>[(3,vS d j.1.length f),(17,vI j.2)]) (fun j d f=>[sl d f j.1]) ao ?_ ?_ ?_
 · exact⟨aH,aI,ao.po [0]⟩
 · intro j e d f _ o _ h;refine gf [3,15,16,17,18] fun e=>?_;refine gc h ?_ ?_<;>intro _ h
   · refine gb h fun b av h=>?_;obtain⟨_,_,_,rfl,_,_,_,⟨ae,aj,af,ak,ah,am,rfl,_,_,_⟩,_⟩:=au.idx av;refine go ?_;refine T ?_;intro ax _ _ _ _ _ _ h _ aA;refine gc h ?_ ?_<;>intro _ h
     · refine gb h fun _ aw h=>?_;refine LW.fZ (M:=[]) (L:=[bx ax 96 (qO ae aj af ak ah am b),sl d f j.1]) (vs:=#[vI b.RG,vI b.Rq,vI b.box,vI b.RF,vI b.dY,vI b.cd,vI b.Ry,vI b.ee,vI b.ed,.bool b.mark,vS ae b.dk.length aj,vS af b.Rw.length ak,vS ah b.Rs.length am]) (i:=1) P1 rfl (by kernel_rfl) rfl rfl aw aA rfl (fun w G hG=>by cases(show G=[] from hG);exact⟨⟨_,_,_,_,_,_,_,_,_,rfl⟩,rfl⟩) rfl rfl ?_;intro _ _ _ _ _ hf;exact rt
     exact rt
   exact rt
 intro e d f _ _;have h:=ay;exact rt
instance k_192:Ct prog 192:={h:=@A0}
theorem F9{w0 N b d r}(h:o5 N b d=some r):
    di prog 236 #[.agg #[vI b.cd,vI b.dg,vI b.dn],vI d] w0 (fun v w=>v=vI r/\St w0 [] w []):=by
 unfold o5 at h;refine di.fS func236 fun e _=>?_;refine T ?_;intro _ _ _;refine gc h ?_ ?_<;>intro _ h
 · exact rt
 refine gc h ?_ ?_<;>intro _ h
 · exact rt
 refine gc h ?_ ?_<;>intro _ h
 · exact rt
 exact rt
instance k_236:Ct prog 236:={h:=@F9}
end Go.Kx
