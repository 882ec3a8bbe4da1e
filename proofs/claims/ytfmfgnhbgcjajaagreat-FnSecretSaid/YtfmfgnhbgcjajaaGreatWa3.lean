import Derived.Test.YtfmfgnhbgcjajaaGreatWa0
import Derived.Test.YtfmfgnhbgcjajaaGreatWa1
import Derived.Test.YtfmfgnhbgcjajaaGreatWa2
namespace Go.Kx
open Go Go.RowKit Go.Proofs
open Tryz
set_option maxRecDepth 10000
set_option maxHeartbeats 8000000
set_option linter.unusedVariables false
set_option linter.unusedSimpArgs false
theorem J2{w0 N X ae r}(h:pS N X ae=some r){k m l}(p:m=X.length)(b:rb w0 k l X):
    di prog 91 #[vS k m l,vI ae] w0 (fun v w=>∃z A,v=vS z r.length A/\St w0 [] w [sl z A r]):=by
 subst p;unfold pS at h;refine di.fS func91 fun e Z=>?_;refine go ?_;refine LW.b0 (α:=Int) Z ?_;intro af ah _ aa hf;refine gs ?_;obtain⟨aj,ac,ai⟩:=ob h;refine CW.jn [0,1,5] [0] [(23,.bool aj)] aa (h1:=?_) (h2:=?_)
 · have h:=ac;refine T ?_;intro _ _ h _ _;refine bH h ?_ ?_<;>intro _ h
   · exact rt
   refine T ?_;intro _ _ h _ _;refine bH h ?_ ?_<;>intro _ h
   · exact rt
   refine gb h fun _ O h=>?_;obtain⟨_,_,_,rfl,_,_,_,⟨_,_,_,_,_,_,rfl,_,_,_⟩,_⟩:=b.idx O;refine go ?_;refine T ?_;exact rt
 intro e _ B;have h:=ai;refine gc h ?_ ?_<;>intro _ h
 · exact rt
 refine go ?_;obtain⟨_,q,C⟩:=ob h;refine CW.i2 q 0 [0,1] [] (fun g (d:Ad) (f:Nat)=>[(5,vS d g.1.length f),(6,vI g.2)]) (fun g d f=>[sl d f g.1]) B ?_ ?_ ?_
 · exact⟨af,ah,B.po [0]⟩
 · intro g e d f _ o ab h;refine gc h ?_ ?_<;>intro _ h
   · refine gs ?_;refine CW.block ?_;refine gs ?_;obtain⟨ad,K,Y⟩:=ob h;refine CW.jn [0,1,5,6] [0] [(66,.bool ad)] ab (h1:=?_) (h2:=?_)
     · have h:=K;refine gB h ?_ ?_<;>intro _ h
       · refine gb h fun _ R h=>?_;obtain⟨_,_,_,rfl,_,_,_,⟨_,_,_,_,_,_,rfl,_,_,_⟩,_⟩:=b.idx R;refine go ?_;refine T ?_;refine bH h ?_ ?_<;>intro _ h
         · refine go ?_;refine T ?_;refine bH h ?_ ?_<;>intro _ h
           · refine gb h fun _ U h=>?_;obtain⟨_,_,_,j,_,_,_,I,_⟩:=b.idx U;cases j;obtain⟨_,_,_,_,_,_,rfl,_,_,_⟩:=I;refine go ?_;refine T ?_;refine bH h ?_ ?_<;>intro _ h
             · exact rt
             refine go ?_;refine T ?_;intro _ _ h _ _;exact rt
           refine gb h fun _ V h=>?_;obtain⟨_,_,_,j,_,_,_,J,_⟩:=b.idx V;cases j;obtain⟨_,_,_,_,_,_,rfl,_,_,_⟩:=J;exact wk
         refine go ?_;have⟨_,W,h⟩:=ob h;obtain⟨_,_,_,j,_,_,_,n,_⟩:=b.idx W;cases j;obtain⟨_,_,_,_,_,_,rfl,_,_,_⟩:=n;exact wk
       refine go ?_;have⟨_,u,h⟩:=ob h;obtain⟨_,_,_,rfl,_,_,_,⟨_,_,_,_,_,_,rfl,_,_,_⟩,_⟩:=b.idx u;exact wk
     intro e _ H;have h:=Y;refine gc h ?_ ?_<;>intro _ h
     · refine gb h fun _ x h=>?_;refine LW.fZ (M:=[]) (L:=[sl d f g.1]) (vs:=#[vI g.2]) (i:=0) lH rfl (by kernel_rfl) rfl rfl x H rfl (fun w G hG=>by cases(show G=[] from hG);exact⟨rfl,rfl⟩) rfl rfl ?_;intro _ _ _ _ _ hf;exact rt
     exact rt
   exact rt
 intro e d f _ _;have h:=C;exact rt
instance k_91:Ct prog 91:={h:=@J2}
theorem Le{w0 N an ax r}(h:sF N an ax=some r){z M A}(O:M=an.length)(q:rb w0 z A an):
    di prog 89 #[vS z M A,vI ax] w0 (fun v w=>∃W X,v=vS W r.length X/\St w0 [] w [sl W X r]):=by
 subst O;unfold sF at h;refine di.fS func89 fun e aq=>?_;refine go ?_;refine LW.b0 (α:=Bool) aq ?_;intro _ _ _ _ hf;refine T ?_;intro _ _ h _ ar;refine gc h ?_ ?_<;>intro _ h
 · exact rt
 refine gb h fun az av h=>?_;refine LW.mk Nb rfl rfl av ar rfl ?_;intro _ g _ Y hf;refine gb h fun _ I h=>?_;obtain⟨b,d,rfl,_,_⟩:=Y.dA (α:=Bool) (i:=0) rfl I;refine go ?_;have⟨ay,J,h⟩:=ob h;refine LW.se 0 Y 0 I J (hM:=ti) fun _ Z=>?_;refine go ?_;obtain⟨_,V,ad⟩:=ob h;refine CW.i0 V 0 [0,1] [] (fun l=>[(5,vS (some ⟨b,d,none⟩) l.1.length g),(6,vI l.2)]) (fun l=>[sl (some ⟨b,d,none⟩) g l.1]) Z ?_ ?_ ?_
 · exact⟨⟨rfl,rfl,(show(vS (some ⟨b,d,none⟩) az.length g:Value)=vS (some ⟨b,d,none⟩) ay.length g by rw[dx (oi J)]),rfl,trivial⟩,Z.pk [0]⟩
 · intro l e _ o aa h;refine gf [0,1,5,6,19] fun e=>?_;refine gc h ?_ ?_<;>intro _ h
   · refine go ?_;obtain⟨_,U,ac⟩:=ob h;refine CW.i0 U 2 [0,1,6] [] (fun m=>[(5,vS (some ⟨b,d,none⟩) m.1.length g),(7,vI m.2)]) (fun m=>[sl (some ⟨b,d,none⟩) g m.1]) aa ?_ ?_ ?_
     · exact aa.po [0]
     · intro m e _ o H h;refine gc h ?_ ?_<;>intro _ h
       · refine gs ?_;refine CW.block ?_;refine gs ?_;obtain⟨aw,aj,ap⟩:=ob h;refine CW.jn [0,1,5,6,7] [0] [(44,.bool aw)] H (h1:=?_) (h2:=?_)
         · have h:=aj;refine gb h fun _ K h=>?_;obtain⟨_,_,f,_,_⟩:=H.dA (α:=Bool) (i:=0) rfl K;cases f;refine go ?_;obtain⟨_,k,au⟩:=H.freeze (α:=Bool) 0 rfl;obtain⟨_,_,_,f,_,_,_,ah,_⟩:=k.fe.idx K;cases f;obtain rfl:=ah;refine T ?_;refine bH h ?_ ?_<;>intro _ h
           · refine go ?_;have:=au.dZ (α:=Bool) 0 rfl k;exact rt
           refine gb h fun _ ak h=>?_;obtain⟨_,_,_,rfl,_,_,_,⟨_,_,_,_,_,_,rfl,_,_,_⟩,_⟩:=q.idx ak;refine go ?_;refine T ?_;intro _ _ h _ B;refine bH h ?_ ?_<;>intro _ h
           · refine go ?_;have:=B.dZ (α:=Bool) 0 rfl k;exact rt
           refine go ?_;have:=B.dZ (α:=Bool) 0 rfl k;exact rt
         intro e _ _;have h:=ap;refine gc h ?_ ?_<;>intro _ h
         · exact rt
         refine T ?_;intro _ _ h _ _ _ C;refine go ?_;obtain⟨_,R,ab⟩:=ob h;refine CW.i0 R 4 [0,1,6,7,8] [0] (fun j=>[(5,vS (some ⟨b,d,none⟩) j.1.length g),(9,vI j.2)]) (fun j=>[sl (some ⟨b,d,none⟩) g j.1]) C ?_ ?_ ?_
         · exact C.po [0,1]
         · intro j e _ o G h;refine gf [0,1,5,6,7,8,9,51] fun e=>?_;refine gc h ?_ ?_<;>intro _ h
           · refine gb h fun _ L h=>?_;obtain⟨_,_,rfl,_,_⟩:=G.dA (α:=Int) (i:=0) rfl L;refine go ?_;obtain⟨_,p,_⟩:=G.freeze (α:=Int) 0 rfl;obtain⟨_,_,_,f,_,_,_,ai,_⟩:=p.fe.idx L;cases f;obtain rfl:=ai;refine T ?_;have⟨_,am,h⟩:=ob h;obtain⟨_,_,_,rfl,_,_,_,⟨_,_,_,_,_,_,rfl,_,_,_⟩,_⟩:=q.idx am;refine go ?_;refine T ?_;intro _ _ h _ n;refine CW.fl [0,1,5,6,7,8,9,63] fun e=>?_;refine gc h ?_ ?_<;>intro _ h
             · refine go ?_;refine T ?_;have⟨_,u,h⟩:=ob h;obtain⟨_,_,f,_,_⟩:=n.dA (α:=Bool) (i:=1) rfl u;cases f;refine go ?_;have⟨ao,x,h⟩:=ob h;refine LW.se 0 n 1 u x (hM:=ti) fun _ ae=>?_;refine go ?_;replace h:=oi h;subst h;have af:=ae.dZ (α:=Int) 0 rfl p;exact⟨rfl,⟨⟨rfl,rfl,rfl,rfl,rfl,(show(vS (some ⟨b,d,none⟩) j.1.length g:Value)=vS (some ⟨b,d,none⟩) ao.length g by rw[dx (oi x)]),rfl,trivial⟩,af.pk [0,1]⟩⟩
             refine go ?_;have:=n.dZ (α:=Int) 0 rfl p;exact rt
           exact rt
         intro e _ _;have h:=ab;exact rt
       exact rt
     intro e _ _;have h:=ac;exact rt
   exact rt
 intro e _ _;have h:=ad;exact rt
instance k_89:Ct prog 89:={h:=@Le}
theorem vQ{w0 N u G H I r}(h:ll N u G H I=some r){b g d}(j:g=u.length)(k:rb w0 b d u):
    di prog 216 #[vS b g d,vI G,vI H,vI I] w0 (fun v w=>v=vI r/\St w0 [] w []):=by
 subst j;unfold ll at h;refine di.fS func216 fun e z=>?_;refine gs ?_;refine CW.region ?_;refine gs ?_;obtain⟨J,B,h2⟩:=ob h;refine CW.jn [0,1,3] [] [(23,.bool J)] z (h1:=?_) (h2:=?_)
 · have h:=B;exact wk
 intro e _ _;have h:=h2;refine gc h ?_ ?_<;>intro _ h
 · exact rt
 refine T ?_;intro _ _ h _ l;obtain⟨C,o,x⟩:=ob h;refine CW.jn [9] [] [(50,.bool C)] l (h1:=?_) (h2:=?_)
 · have h:=o;refine dW ?_;have:=l.drew;refine gb h fun _ q h=>?_;obtain⟨_,_,_,rfl,_,_,_,⟨_,_,_,_,_,_,rfl,_,_,_⟩,_⟩:=k.idx q;refine go ?_;refine T ?_;refine bH h ?_ ?_<;>intro _ h
   · exact rt
   refine go ?_;refine T ?_;intro _ _ h _ _;refine bH h ?_ ?_<;>intro _ h
   · exact rt
   refine go ?_;refine jP 19 ?_;refine T ?_;intro _ _ h _ _ _ m;have⟨_,f,h⟩:=ob h;obtain⟨_,_,rfl,_,_⟩:=m.dA (α:=Bool) (i:=0) rfl f;refine go ?_;obtain⟨_,p,_⟩:=m.freeze (α:=Bool) 0 rfl;obtain⟨_,_,_,A,_,_,_,n,_⟩:=p.fe.idx f;cases A;obtain rfl:=n;refine T ?_;exact rt
 intro e _ _;have h:=x;exact wk
instance k_216:Ct prog 216:={h:=@vQ}
theorem wN{w0 N b M O R r}(h:kP N b M O R=some r){d u l}(G:u=b.Rp.Ro.length)(U:rb w0 d l b.Rp.Ro){f x m}(H:x=b.own.length)(V:rb w0 f m b.own){g z n}(I:z=b.Rr.length)(W:rb w0 g n b.Rr){i A o}(J:A=b.py.ag.length)(X:rb w0 i o b.py.ag){j B p}(K:B=b.py.gc.da.length)(Y:rb w0 j p b.py.gc.da){k C q}(L:C=b.db.length)(Z:rb w0 k q b.db):
    di prog 253 #[.agg (uP d u l f x m g z n i A o j B p k C q b),vI M,vI O,vI R] w0 (fun v w=>v=.tuple #[vI r.1,vI r.2]/\St w0 [] w []):=by
 subst G H I J K L;unfold kP at h;refine di.fS func253 fun e _=>?_;refine T ?_;intro _ _ _ _ _ h _ _;refine gc h ?_ ?_<;>intro _ h
 · exact rt
 refine T ?_;intro _ _ h _ _;refine gc h ?_ ?_<;>intro _ h
 · exact rt
 refine T ?_;intro _ _ h _ _;refine CW.fl [10,26] fun e=>?_;exact wk
instance k_253:Ct prog 253:={h:=@wN}
theorem zF{w0 N b V W X Y r}(h:lW N b V W X Y=some r){d u l}(G:u=b.Rp.Ro.length)(Z:rb w0 d l b.Rp.Ro){f x m}(H:x=b.own.length)(aa:rb w0 f m b.own){g z n}(I:z=b.Rr.length)(ab:rb w0 g n b.Rr){i A o}(J:A=b.py.ag.length)(M:rb w0 i o b.py.ag){j B p}(K:B=b.py.gc.da.length)(ac:rb w0 j p b.py.gc.da){k C q}(L:C=b.db.length)(ad:rb w0 k q b.db):
    di prog 252 #[.agg (uP d u l f x m g z n i A o j B p k C q b),vI V,vI W,vI X,vI Y] w0 (fun v w=>v=.tuple #[vI r.1,vI r.2]/\St w0 [] w []):=by
 subst G H I J K L;unfold lW at h;refine di.fS func252 fun e _=>?_;refine T ?_;intro _ _ _ _ _ h _ O;obtain⟨af,R,ae⟩:=ob h;refine CW.jn [12,13] [] [(38,.bool af)] O (h1:=?_) (h2:=?_)
 · have h:=R;refine gB h ?_ ?_<;>intro _ h
   · refine gB h ?_ ?_<;>intro _ h
     · refine go ?_;have⟨_,U,h⟩:=ob h;obtain⟨_,_,_,rfl,_,_,_,⟨_,_,_,_,_,_,rfl,_,_,_⟩,_⟩:=M.idx U;refine go ?_;refine T ?_;exact rt
     exact rt
   exact rt
 intro e _ _;have h:=ae;refine gf [12,13,38] fun e=>?_;exact wk
instance k_252:Ct prog 252:={h:=@zF}
theorem mw{w0}{F:List Nat}{N f aX aY aZ r}(h:nF N f aX aY aZ=some r){g ae o}(ar:ae=f.Rp.Ro.length){j af p}(au:af=f.own.length){k ah q}(av:ah=f.Rr.length){l ai x}(aw:ai=f.py.ag.length){m aj z}(ax:aj=f.py.gc.da.length){n ak A}(ay:ak=f.db.length)(hS:St w0 F w0 [sl g o f.Rp.Ro,sl j p f.own,sl k q f.Rr,sl l x f.py.ag,sl m z f.py.gc.da,sl n A f.db]):
    di prog 224 #[.agg (uP g ae o j af p k ah q l ai x m aj z n ak A f),vI aX,vI aY,.agg (uL aZ)] w0 (fun v w=>v=.tuple #[.agg (uP g r.1.Rp.Ro.length o j r.1.own.length p k r.1.Rr.length q l r.1.py.ag.length x m r.1.py.gc.da.length z n r.1.db.length A r.1),.agg #[vI r.2.code,vI r.2.RI]]/\St w0 F w [sl g o r.1.Rp.Ro,sl j p r.1.own,sl k q r.1.Rr,sl l x r.1.py.ag,sl m z r.1.py.gc.da,sl n A r.1.db]):=by
 subst ar au av aw ax ay;unfold nF at h;refine di.fn func224 fun e=>?_;refine T ?_;intro _ _ _ _ _ _ _ _ _ _ _ _ aU _ h _ aF;refine CW.fl [4,7,8,9,10,11,22] fun e=>?_;refine gc h ?_ ?_<;>intro _ h
 · refine fm [(0,vI aU.2)] #[vI aU.2,vI 0] ?_;exact wk
 refine gs ?_;obtain⟨aW,aQ,aV⟩:=ob h;refine CW.jn [4,7,8,9,10] [0,1,2,3,4,5,6,7,8,9] [(49,.bool aW)] aF (h1:=?_) (h2:=?_)
 · have h:=aQ;refine dW ?_;have aG:=aF.drew;refine gb h fun _ ac h=>?_;obtain⟨_,_,rfl,_,_⟩:=aG.dA (α:=c6) (i:=7) rfl ac;refine go ?_;obtain⟨_,C,_⟩:=aG.freeze (α:=c6) 7 rfl;obtain⟨_,_,_,H,_,_,_,aN,_⟩:=C.fe.idx ac;cases H;obtain⟨_,_,_,_,_,_,rfl,_,_,_⟩:=aN;refine T ?_;intro _ _ h _ U;refine bH h ?_ ?_<;>intro _ h
   · refine go ?_;have:=U.dZ (α:=c6) 7 rfl C;exact rt
   refine gB h ?_ ?_<;>intro _ h
   · refine T ?_;intro _ _ h _ aI;have:=aI.dZ (α:=c6) 7 rfl C;exact rt
   refine go ?_;have:=U.dZ (α:=c6) 7 rfl C;exact rt
 intro e _ V;have h:=aV;refine gc h ?_ ?_<;>intro _ h
 · refine fm [(0,vI 2)] #[vI 2,vI 0] ?_;exact wk
 refine gc h ?_ ?_<;>intro _ h
 · refine fA ?_;have W:=V.drew;refine gb h fun _ ad h=>?_;obtain⟨_,_,rfl,_,_⟩:=W.dA (α:=c6) (i:=7) rfl ad;refine go ?_;obtain⟨_,aa,_⟩:=W.freeze (α:=c6) 7 rfl;obtain⟨_,_,_,H,_,_,_,aO,_⟩:=aa.fe.idx ad;cases H;obtain⟨_,_,_,_,_,_,rfl,_,aS,_⟩:=aO;refine T ?_;have⟨aH,aT,h⟩:=ob h;obtain⟨_,_,_,rfl,_,_,_,rfl,_⟩:=aS.idx aT;refine go ?_;refine T ?_;refine AW.u (i:=12) rfl (by kernel_rfl) rfl rfl (dL.build (vs:=[(1,vI aH)]) (cs:=#[vI 0,vI aH]) rfl (by kernel_rfl)) ?_;refine T ?_;intro _ _ _ aJ;cases h;have I:=aJ.dZ (α:=c6) 7 rfl aa;exact Rc (dE.b I 1 rfl iE rfl rfl) (dE.b I 0 rfl jt rfl rfl) ⟨rfl,I.pk [4,5,6,7,8,9]⟩
 refine fA ?_;have X:=V.drew;refine gb h fun d J h=>?_;obtain⟨_,_,rfl,_,_⟩:=X.dA (α:=c6) (i:=7) rfl J;refine go ?_;obtain⟨_,ab,Y⟩:=X.freeze (α:=c6) 7 rfl;obtain⟨_,_,_,H,aM,_,_,aP,aR⟩:=ab.fe.idx J;cases H;obtain⟨aC,aD,_,aE,M,R,rfl,_,aB,_⟩:=aP;refine T ?_;have⟨_,K,h⟩:=ob h;obtain⟨O,am,_,rfl,_,_,_,rfl,_⟩:=aB.idx K;refine go ?_;have az:=Y.mU 7 aM aR;have aK:=Y.dZ (α:=c6) 7 rfl ab;obtain⟨_,aA,aq⟩:=aK.mZ 7 J az;obtain⟨_,_,_,_,_,_,ap,ao⟩:=aA;cases ap;have aL:=aq [sl aC aD d.dk,sl (some ⟨O,am,none⟩) aE d.Rw,sl M R d.Rs] ao;have⟨an,L,h⟩:=ob h;refine T ?_;refine LW.se 0 aL 1 K L (hM:=ti) fun _ _=>?_;refine T ?_;refine LW.bd [] #[vI 0,vI 0] ?_;refine T ?_;intro _ _ _ Z;cases h;rw[dx (oi L)]at Z;have B:=Z.mb (c6.mk d.RG d.Rq d.box d.RF d.dY d.cd d.Ry d.ee d.ed d.mark d.dk an d.Rs) [0,1,2,3,4,5,6,7,8,9,10,11,12] 3 7 rfl rfl (fun w G hG=>⟨aC,aD,(some ⟨O,am,none⟩),aE,M,R,rfl,hG⟩);rw[show f.py.ag.length=(f.py.ag.set (aU.1:Int).toNat (c6.mk d.RG d.Rq d.box d.RF d.dY d.cd d.Ry d.ee d.ed d.mark d.dk an d.Rs)).length from(dx rfl)]at B;exact Rc (dE.b B 1 rfl iE rfl rfl) (dE.b B 0 rfl jt rfl rfl) ⟨rfl,B.pk [4,5,6,7,8,9]⟩
instance k_224:Ct prog 224:={h:=@mw}
theorem Gk{w0}{F:List Nat}{N f cb cc ce V r}(h:rF N f cb cc ce V=some r){o aV A}(bg:aV=f.Rp.Ro.length){p aW B}(bi:aW=f.own.length){q aX C}(bj:aX=f.Rr.length){aC aY j}(bk:aY=f.py.ag.length){x aZ H}(bl:aZ=f.py.gc.da.length){z a0 I}(bm:a0=f.db.length)(hS:St w0 F w0 [sl o A f.Rp.Ro,sl p B f.own,sl q C f.Rr,sl aC j f.py.ag,sl x H f.py.gc.da,sl z I f.db]):
    di prog 231 #[.agg (uP o aV A p aW B q aX C aC aY j x aZ H z a0 I f),vI cb,vI cc,vI ce,.agg (uL V)] w0 (fun v w=>∃ae ao af ap ah aq ai ar aj au ak av,v=.tuple #[.agg (uP ae r.1.Rp.Ro.length ao af r.1.own.length ap ah r.1.Rr.length aq ai r.1.py.ag.length ar aj r.1.py.gc.da.length au ak r.1.db.length av r.1),.agg #[vI r.2.code,vI r.2.RI]]/\St w0 F w [sl ae ao r.1.Rp.Ro,sl af ap r.1.own,sl ah aq r.1.Rr,sl ai ar r.1.py.ag,sl aj au r.1.py.gc.da,sl ak av r.1.db]):=by
 subst bg bi bj bk bl bm;unfold rF at h;refine di.fn func231 fun e=>?_;refine T ?_;intro ci _ _ _ _ _ _ _ _ _ _ _ ab _ h _ _;refine CW.fl [1,2,3,5,9,10,11,12,13,27] fun e=>?_;refine gc h ?_ ?_<;>intro _ h
 · refine fm [(0,vI ab.2)] #[vI ab.2,vI 0] ?_;exact wk
 refine T ?_;intro _ _ h _ bA;refine gc h ?_ ?_<;>intro _ h
 · refine fm [(0,vI 2)] #[vI 2,vI 0] ?_;exact wk
 refine gb h fun d U h=>?_;obtain⟨W,J,rfl,_,_⟩:=bA.dA (α:=c6) (i:=7) rfl U;refine go ?_;obtain⟨_,k,bG⟩:=bA.freeze (α:=c6) 7 rfl;obtain⟨_,_,_,g,aO,_,_,bY,aP⟩:=k.fe.idx U;cases g;obtain⟨ac,am,ad,an,ca,bw,rfl,_,_,O⟩:=bY;refine T ?_;refine CW.fl [1,2,3,5,9,10,11,12,14,46] fun e=>?_;refine gc h ?_ ?_<;>intro _ h
 · refine gc h ?_ ?_<;>intro _ h
   · refine fm [(0,vI 8)] #[vI 8,vI 0] ?_;refine T ?_;intro _ _ _ bI;cases h;have X:=bI.dZ (α:=c6) 7 rfl k;exact Rc (dE.b X 1 rfl iE rfl rfl) (dE.b X 0 rfl jt rfl rfl) ⟨o,A,p,B,q,C,(some ⟨W,J,none⟩),j,x,H,z,I,rfl,X.pk [4,5,6,7,8,9]⟩
   refine fA ?_;have bJ:=bG.drew;refine gb h fun _ aR h=>?_;obtain⟨_,_,g,_,_⟩:=k.dA aR;cases g;refine go ?_;obtain⟨_,_,_,g,_,_,_,bZ,_⟩:=k.fe.idx aR;cases g;obtain⟨_,_,_,_,_,_,rfl,_,_,_⟩:=bZ;refine T ?_;refine jP 4 ?_;refine LW.b0 (α:=eL) bJ ?_;intro _ _ _ aF hf;refine T ?_;have⟨cf,b4,h⟩:=ob h;refine T ?_;refine LW.fM (l:=([]:List eL)) (m:=d.Rs) qR rfl rfl (aF.rZ 8 rfl O) b4 aF (i:=0) rfl rfl ?_;intro _ _ _ _ hf;refine T ?_;refine jP 16 ?_;refine T ?_;intro L _ h _ bK;refine AW.u (i:=19) rfl (by kernel_rfl) rfl rfl (dL.build (vs:=[(0,vI L),(1,vI V.b)]) (cs:=#[vI L,vI V.b]) rfl (by kernel_rfl)) ?_;refine T ?_;refine LW.wX (α:=eL) (vs:=[(0,.agg #[vI L,vI V.b])]) (cs:=#[vI L,vI V.b]) (l:=([eL.mk L V.b]:List eL)) rfl (by kernel_rfl) rfl rfl rfl (fun w=>⟨[vI L,vI V.b],[],[],[],rfl,rfl,⟨rfl,rfl⟩,rfl⟩) bK rfl ?_;intro _ _ _ aG hf;refine T ?_;have⟨bB,b5,h⟩:=ob h;refine T ?_;refine LW.fM (l:=cf) (m:=([eL.mk L V.b]:List eL)) qR rfl rfl (aG.rI 0 rfl) b5 aG (i:=1) rfl rfl ?_;intro bv bz _ aH hf;refine T ?_;refine go ?_;have b2:=aH.mU 9 aO aP;have bL:=aH.dZ (α:=c6) 9 rfl k;obtain⟨_,b3,b1⟩:=bL.mZ 9 U b2;obtain⟨_,_,_,_,_,_,bX,bF⟩:=b3;cases bX;have bM:=b1 [sl ac am d.dk,sl ad an d.Rw,sl ca bw d.Rs] bF;refine T ?_;refine LW.wh (α:=c6) (vs:=[vS bv bB.length bz]) bM 12 rfl tR rfl (by show _=J+(ab.1:Int).toNat*13+12;omega) rfl rfl rfl rfl ?_;intro _ bN hf;refine T ?_;refine go ?_;have aI:=bN.mb (c6.mk d.RG d.Rq d.box d.RF d.dY d.cd d.Ry d.ee d.ed d.mark d.dk d.Rw bB) [0,1,4,2,3,5,6,7,8,9,10,11,12,13,14] 3 9 rfl rfl (fun w G hG=>⟨ac,am,ad,an,bv,bz,rfl,hG⟩);have⟨_,aS,h⟩:=ob h;obtain⟨_,_,g,_,_⟩:=aI.dA (α:=c6) (i:=9) rfl aS;cases g;have⟨cg,aT,h⟩:=ob h;refine LW.se 6 aI 9 aS aT (hM:=(fK (fun w cs F hF=>by obtain⟨a1,a4,a2,a5,a3,a6,rfl,hH⟩:=hF;exact⟨a1,a4,a2,a5,a3,a6,rfl,hH⟩))) fun _ _=>?_;refine fm [] #[vI 0,vI 0] ?_;refine T ?_;intro _ _ _ M;cases h;rw[show f.py.ag.length=cg.length from((dx rfl).trans (dx (oi aT)))]at M;exact Rc (dE.b M 3 rfl iE rfl rfl) (dE.b M 2 rfl jt rfl rfl) ⟨o,A,p,B,q,C,(some ⟨W,J,none⟩),j,x,H,z,I,rfl,M.pk [6,7,8,9,10,11]⟩
 refine gc h ?_ ?_<;>intro _ h
 · refine fm [(0,vI 8)] #[vI 8,vI 0] ?_;refine T ?_;intro _ _ _ bO;cases h;have Y:=bO.dZ (α:=c6) 7 rfl k;exact Rc (dE.b Y 1 rfl iE rfl rfl) (dE.b Y 0 rfl jt rfl rfl) ⟨o,A,p,B,q,C,(some ⟨W,J,none⟩),j,x,H,z,I,rfl,Y.pk [4,5,6,7,8,9]⟩
 refine gb h fun a7 bs h=>?_;obtain⟨bC,b7,_,rfl,_,_,_,rfl,_⟩:=O.idx bs;refine go ?_;refine T ?_;intro _ _ _ _ bP;refine dW ?_;have bQ:=bP.drew;refine gb h fun b8 ax h=>?_;obtain⟨_,_,bb,bc,br⟩:=dX.tI O ax;have aQ:=(O).le;refine AW.u (i:=6) rfl (by kernel_rfl) rfl rfl (dL.sub (α:=eL) (l:=d.Rs) underlying94 IV rfl (sL rfl) tq ax aQ bb bc) ?_;refine jP 4 ?_;refine LW.b0 (α:=eL) bQ ?_;intro _ _ _ aJ hf;refine T ?_;have⟨K,bt,h⟩:=ob h;refine T ?_;refine LW.fM (l:=([]:List eL)) (m:=b8) qR rfl rfl (aJ.rZ 9 rfl br) bt aJ (i:=0) rfl rfl ?_;intro aD aE _ aK hf;refine T ?_;refine go ?_;have bn:=aK.mU 9 aO aP;have bR:=aK.dZ (α:=c6) 9 rfl k;obtain⟨_,bo,bd⟩:=bR.mZ 9 U bn;obtain⟨_,_,_,_,_,_,a9,a8⟩:=bo;cases a9;have bS:=bd [sl ac am d.dk,sl ad an d.Rw,sl (some ⟨bC,b7,none⟩) bw d.Rs] a8;refine T ?_;refine LW.wh (α:=c6) (vs:=[vS aD K.length aE]) bS 12 rfl tR rfl (by show _=J+(ab.1:Int).toNat*13+12;omega) rfl rfl rfl rfl ?_;intro _ bT hf;refine T ?_;have⟨_,bu,h⟩:=ob h;have aL:=bT.mb (c6.mk d.RG d.Rq d.box d.RF d.dY d.cd d.Ry d.ee d.ed d.mark d.dk d.Rw K) [0,1,3,2,4,5,6,7,8,9,10,11,12,13,14] 3 9 rfl rfl (fun w G hG=>⟨ac,am,ad,an,aD,aE,rfl,hG⟩);refine LW.c0 (vQ bu (show f.py.ag.length=(f.py.ag.set (ab.1:Int).toNat (c6.mk d.RG d.Rq d.box d.RF d.dY d.cd d.Ry d.ee d.ed d.mark d.dk d.Rw K)).length from(dx rfl)) (aL.rI 9 rfl)) aL fun _ Z=>?_;refine gs ?_;rw[show f.py.ag.length=(f.py.ag.set (ab.1:Int).toNat (c6.mk d.RG d.Rq d.box d.RF d.dY d.cd d.Ry d.ee d.ed d.mark d.dk d.Rw K)).length from(dx rfl)]at Z;obtain⟨b6,be,bD⟩:=ob h;refine CW.jn [5,9,10,11,15,16] [1,2,3,4,5,6,7,8,9,10,11] [(127,.bool b6)] Z (h1:=?_) (h2:=?_)
 · have h:=be;refine dW ?_;have aM:=Z.drew;refine gB h ?_ ?_<;>intro _ h
   · refine gb h fun _ ay h=>?_;obtain⟨_,_,g,_,_⟩:=aM.dA (α:=c6) (i:=9) rfl ay;cases g;refine go ?_;obtain⟨_,aw,bU⟩:=aM.freeze (α:=c6) 9 rfl;obtain⟨_,_,_,g,_,_,_,ba,_⟩:=aw.fe.idx ay;cases g;obtain⟨_,_,_,_,_,_,rfl,_,_,_⟩:=ba;refine T ?_;have:=bU.dZ (α:=c6) 9 rfl aw;exact rt
   exact rt
 intro e _ aa;have h:=bD;refine gs ?_;obtain⟨aU,bf,bE⟩:=ob h;refine CW.j0 [5,10,11,15] [0,1,2,5,6,7,9,10] [] [bx ci 54 [vS o f.Rp.Ro.length A,vS p f.own.length B,vS q f.Rr.length C,vS (some ⟨W,J,none⟩) aU.length j,vI f.py.gc.Ru,vI f.py.gc.RD,vI f.py.gc.Rv,vS x f.py.gc.da.length H,vS z f.db.length I,vI f.RA,vI f.Rz,vI f.dc.cd,vI f.dc.dg,vI f.dc.dn,vI f.du,vI f.Rx],sl (some ⟨W,J,none⟩) j aU] aa ?_ ?_
 · have h:=bf;refine CW.fl [5,9,10,11,15,16,127] fun e=>?_;refine gc h ?_ ?_<;>intro _ h
   · refine gb h fun _ az h=>?_;obtain⟨_,_,g,_,_⟩:=aa.dA (α:=c6) (i:=8) rfl az;cases g;refine go ?_;refine gb h fun _ R h=>?_;refine LW.se 6 aa 8 az R (hM:=(fK (fun w cs F hF=>by obtain⟨a1,a4,a2,a5,a3,a6,rfl,hH⟩:=hF;exact⟨a1,a4,a2,a5,a3,a6,rfl,hH⟩))) fun _ aN=>?_;refine gb h fun _ aA h=>?_;obtain⟨_,_,g,bp,bq⟩:=aN.dA (α:=c6) (i:=8) rfl aA;cases g;(try refine LW.u (dL.ix underlying47 wO rfl rfl bp (by rw[dx (oi R)];exact bq)) rfl ?_);refine gb h fun b9 aB h=>?_;refine LW.se 7 aN 8 aA aB (hM:=(fK (fun w cs F hF=>by obtain⟨a1,a4,a2,a5,a3,a6,rfl,hH⟩:=hF;exact⟨a1,a4,a2,a5,a3,a6,rfl,hH⟩))) fun _ bV=>?_;refine go ?_;rw[show(f.py.ag.set (ab.1:Int).toNat (c6.mk d.RG d.Rq d.box d.RF d.dY d.cd d.Ry d.ee d.ed d.mark d.dk d.Rw K)).length=b9.length from((dx (oi R)).trans (dx (oi aB)))]at bV;exact rt
   exact rt
 intro e _ bW;have h:=bE;refine fA ?_;have:=bW.drew;refine go ?_;refine AW.u (i:=3) rfl (by kernel_rfl) rfl rfl (dL.build (vs:=[(1,vI a7.n)]) (cs:=#[vI 0,vI a7.n]) rfl (by kernel_rfl)) ?_;exact wk
instance k_231:Ct prog 231:={h:=@Gk}
theorem GY{w0 N g b r}(h:qV N g b=some r):
    di prog 247 #[.agg (uT g),.agg #[vI b.cd,vI b.dg,vI b.dn]] w0 (fun v w=>v=vI r/\St w0 [] w []):=by
 unfold qV at h;refine di.fS func247 fun e _=>?_;refine T ?_;intro _ _ _ _ _ d;obtain⟨j,f,i⟩:=ob h;refine CW.jn [2,3] [0,1] [(13,.bool j)] d (h1:=?_) (h2:=?_)
 · have h:=f;exact wk
 intro e _ _;have h:=i;refine gc h ?_ ?_<;>intro _ h
 · exact rt
 refine T ?_;intro _ _ h _ _;refine gc h ?_ ?_<;>intro _ h
 · refine go ?_;refine LW.u (dL.min rfl rfl) rfl ?_;exact rt
 refine go ?_;refine LW.u (dL.quo rfl rfl (by decide)) rfl ?_;exact rt
instance k_247:Ct prog 247:={h:=@GY}
theorem va{w0}{F:List Nat}{N g l r}(h:gw N g l=some r){j:Nat}{d f}(m:dX (eJ w0 F) w0 d f g.b)(hS:St w0 F w0 [bx j 99 [vS d g.b.length f,vI g.i,vI g.h]]):
    di prog 62 #[.pointer (some ⟨j,0,none⟩),vI l] w0 (fun v w=>v=.bool r.1/\St w0 F w [bx j 99 [vS d g.b.length f,vI r.2.i,vI r.2.h]]):=by
 unfold gw at h;refine di.fn func62 fun e=>?_;refine T ?_;intro _ _ h _ k;replace h:=oi h;subst h;exact Ra ⟨rfl,k.pk [0]⟩
instance k_62:Ct prog 62:={h:=@va}
theorem KU{w0 N f r}(h:nW N f=some r):
    di prog 138 #[.agg (uT f)] w0 (fun v w=>v=.bool r/\St w0 [] w []):=by
 unfold nW at h;refine di.fS func138 fun e _=>?_;refine T ?_;intro _ _ b;obtain⟨i,d,g⟩:=ob h;refine CW.jn [1] [0] [(24,.bool i)] b (h1:=?_) (h2:=?_)
 · have h:=d;exact wk
 intro e _ _;have h:=g;exact wk
instance k_138:Ct prog 138:={h:=@KU}
theorem zW{w0 N m r}(h:kV N m=some r){b f d}(g:f=m.Ro.length)(i:rb w0 b d m.Ro):
    di prog 70 #[.agg #[vS b f d]] w0 (fun v w=>v=.bool r/\St w0 [] w []):=by
 subst g;unfold kV at h;refine di.fS func70 fun e _=>?_;refine T ?_;intro _ _ n;refine go ?_;obtain⟨k,l,j⟩:=ob h;refine CW.mono (CW.lx [1,6,7] [0] [1] 0 (fun q=>[(8,vI q)]) (RT prog f70.results (fun u=>.bool u) w0 []) n l (hb:=?_)) ?_
 · intro q e _ o _ h;refine gc h ?_ ?_<;>intro _ h
   · refine gb h fun _ p h=>?_;obtain⟨_,_,_,rfl,_,_,_,rfl,_⟩:=i.idx p;refine go ?_;refine T ?_;intro _ _ h _ _;refine CW.fl [1,6,7,8,14] fun e=>?_;exact wk
   exact rt
 intro x e _ hM;rcases k with k|_
 · obtain⟨rfl,hM⟩:=hM;obtain⟨e,rfl,_⟩:=eo hM;have h:=j;exact rt
 obtain⟨rfl,u,rfl,hM⟩:=hM;cases j;exact And.intro trivial hM
instance k_70:Ct prog 70:={h:=@zW}
end Go.Kx
