import Derived.Test.YtfmfgnhbgcjajaaGreatFa
import Derived.Test.YtfmfgnhbgcjajaaGreatPu
namespace Go.Kx
open Go Go.RowKit Go.Proofs
open Go.IntKind (i64)
open Tryz
set_option maxRecDepth 10000
set_option maxHeartbeats 8000000
set_option linter.unusedVariables false
set_option linter.unusedSimpArgs false
theorem tS{w0 N b d f r}(h:ey N b d f=some r):
    di prog 32 #[vI b,vI d,vI f] w0 (fun v w=>v=.bool r/\St w0 [] w []):=by
 unfold ey at h;refine di.fS func32 fun e _=>?_;exact wk
instance k_32:Ct prog 32:={h:=@tS}
theorem FN{w0 N b r}(h:iI N b=some r):
    di prog 103 #[vI b] w0 (fun v w=>v=.bool r/\St w0 [] w []):=by
 unfold iI at h;refine di.fS func103 fun e _=>?_;exact wk
instance k_103:Ct prog 103:={h:=@FN}
theorem CE{w0 N b r}(h:jT N b=some r):
    di prog 185 #[vI b] w0 (fun v w=>v=.bool r/\St w0 [] w []):=by
 unfold jT at h;refine di.fS func185 fun e _=>?_;exact wk
instance k_185:Ct prog 185:={h:=@CE}
theorem JK{w0 N b r}(h:sq N b=some r){d l i}(z:l=b.dk.length)(C:rb w0 d i b.dk){f m j}(A:m=b.Rw.length)(G:rb w0 f j b.Rw){g n k}(B:n=b.Rs.length)(H:rb w0 g k b.Rs):
    di prog 189 #[.agg (uO d l i f m j g n k b)] w0 (fun v w=>v=.bool r/\St w0 [] w []):=by
 subst z A B;unfold sq at h;refine di.fS func189 fun e _=>?_;refine T ?_;intro _ _ _ _ _ h _ X;refine gc h ?_ ?_<;>intro _ h
 · exact rt
 refine gc h ?_ ?_<;>intro _ h
 · refine gs ?_;obtain⟨aD,ay,aC⟩:=ob h;refine CW.jn [] [] [(2,.bool aD)] X (h1:=?_) (h2:=?_)
   · have h:=ay;exact wk
   intro e _ _;have h:=aC;exact rt
 refine gs ?_;obtain⟨az,am,av⟩:=ob h;refine CW.jn [1] [0] [(108,.bool az)] X (h1:=?_) (h2:=?_)
 · have h:=am;exact wk
 intro e _ ad;have h:=av;refine gc h ?_ ?_<;>intro _ h
 · exact rt
 refine go ?_;obtain⟨Y,ap,W⟩:=ob h;refine CW.mono (CW.lx [1] [0] [1] 0 (fun Z=>[(3,vI Z)]) (RT prog f189.results (fun u=>.bool u) w0 []) ad ap (hb:=?_)) ?_
 · intro Z e _ o _ h;refine gc h ?_ ?_<;>intro _ h
   · refine gb h fun _ aq h=>?_;obtain⟨_,_,_,rfl,_,_,_,rfl,_⟩:=C.idx aq;refine go ?_;refine T ?_;intro _ _ h _ _;refine CW.fl [1,3,119] fun e=>?_;exact wk
   exact rt
 intro x e _ hM;rcases Y with Y|_
 · obtain⟨rfl,hM⟩:=hM;obtain⟨e,rfl,ae⟩:=eo hM;have h:=W;refine gs ?_;obtain⟨aA,an,aw⟩:=ob h;refine CW.jn [1] [0] [(165,.bool aA)] ae (h1:=?_) (h2:=?_)
   · have h:=an;exact wk
   intro e _ af;have h:=aw;refine gc h ?_ ?_<;>intro _ h
   · exact rt
   refine gs ?_;obtain⟨aB,ao,ax⟩:=ob h;refine CW.jn [1] [0] [(195,.bool aB)] af (h1:=?_) (h2:=?_)
   · have h:=ao;exact wk
   intro e _ ah;have h:=ax;refine gc h ?_ ?_<;>intro _ h
   · exact rt
   refine go ?_;obtain⟨I,O,p⟩:=ob h;refine CW.mono (CW.lx [1] [0] [1] 2 (fun aa=>[(4,vI aa)]) (RT prog f189.results (fun u=>.bool u) w0 []) ah O (hb:=?_)) ?_
   · intro aa e _ o _ h;refine gf [1,4,200] fun e=>?_;refine gc h ?_ ?_<;>intro _ h
     · refine gb h fun _ U h=>?_;obtain⟨_,_,_,rfl,_,_,_,rfl,_⟩:=G.idx U;exact wk
     exact rt
   intro x e _ hM;rcases I with I|_
   · obtain⟨rfl,hM⟩:=hM;obtain⟨e,rfl,ai⟩:=eo hM;have h:=p;refine gs ?_;obtain⟨ar,L,ab⟩:=ob h;refine CW.jn [1] [0] [(224,.bool ar)] ai (h1:=?_) (h2:=?_)
     · have h:=L;exact wk
     intro e _ aj;have h:=ab;refine gc h ?_ ?_<;>intro _ h
     · exact rt
     refine go ?_;obtain⟨J,R,q⟩:=ob h;refine CW.mono (CW.lx [1] [0] [] 4 (fun K=>[(5,vI K)]) (RT prog f189.results (fun u=>.bool u) w0 []) aj R (hb:=?_)) ?_
     · intro K e _ o ak h;refine gf [1,5,229] fun e=>?_;refine gc h ?_ ?_<;>intro _ h
       · refine gs ?_;refine CW.block ?_;refine gs ?_;obtain⟨au,M,ac⟩:=ob h;refine CW.jn [1,5] [0] [(258,.bool au)] ak (h1:=?_) (h2:=?_)
         · have h:=M;refine gb h fun _ V h=>?_;obtain⟨_,_,_,rfl,_,_,_,rfl,_⟩:=H.idx V;exact wk
         intro e _ _;have h:=ac;exact wk
       exact rt
     intro x e _ hM;rcases J with J|_
     · obtain⟨rfl,hM⟩:=hM;obtain⟨e,rfl,_⟩:=eo hM;rw[show e=dF e [] from rfl];have h:=q;exact rt
     obtain⟨rfl,u,rfl,hM⟩:=hM;cases q;exact And.intro trivial hM
   obtain⟨rfl,u,rfl,hM⟩:=hM;cases p;exact And.intro trivial hM
 obtain⟨rfl,u,rfl,hM⟩:=hM;cases W;exact And.intro trivial hM
instance k_189:Ct prog 189:={h:=@JK}
theorem GX{w0 N V r}(h:jC N V=some r){d k f}(q:k=V.length)(b:rb w0 d f V):
    di prog 136 #[vS d k f] w0 (fun v w=>v=.bool r/\St w0 [] w []):=by
 subst q;unfold jC at h;refine di.fS func136 fun e X=>?_;refine gs ?_;refine CW.region ?_;refine gs ?_;obtain⟨af,ac,h2⟩:=ob h;refine CW.jn [0] [] [(29,.bool af)] X (h1:=?_) (h2:=?_)
 · have h:=ac;refine gB h ?_ ?_<;>intro _ h
   · exact rt
   refine gb h fun _ ad h=>?_;obtain⟨_,_,_,rfl,_,_,_,⟨_,_,_,_,_,_,rfl,_,_,_⟩,_⟩:=b.idx ad;refine go ?_;refine T ?_;refine bH h ?_ ?_<;>intro _ h
   · exact rt
   refine go ?_;refine T ?_;refine bH h ?_ ?_<;>intro _ h
   · exact rt
   refine go ?_;refine T ?_;exact rt
 intro e _ Y;have h:=h2;refine gc h ?_ ?_<;>intro _ h
 · exact rt
 refine go ?_;obtain⟨m,A,i⟩:=ob h;refine CW.mono (CW.lx [0] [] [] 0 (fun C=>[(3,vI C)]) (RT prog f136.results (fun u=>.bool u) w0 []) Y A (hb:=?_)) ?_
 · intro C e _ o Z h;refine gc h ?_ ?_<;>intro _ h
   · refine gs ?_;refine CW.block ?_;refine gs ?_;obtain⟨ae,J,W⟩:=ob h;refine CW.jn [0,3] [] [(73,.bool ae)] Z (h1:=?_) (h2:=?_)
     · have h:=J;refine gb h fun _ L h=>?_;obtain⟨_,_,_,rfl,_,_,_,⟨_,_,_,_,_,_,rfl,_,_,_⟩,_⟩:=b.idx L;refine go ?_;refine T ?_;intro _ _ h _ _;refine bH h ?_ ?_<;>intro _ h
       · exact rt
       refine go ?_;refine T ?_;refine bH h ?_ ?_<;>intro _ h
       · refine go ?_;refine bH h ?_ ?_<;>intro _ h
         · refine go ?_;refine T ?_;refine bH h ?_ ?_<;>intro _ h
           · refine go ?_;refine T ?_;have⟨_,M,h⟩:=ob h;obtain⟨_,_,_,j,_,_,_,I,_⟩:=b.idx M;cases j;obtain⟨_,_,_,_,_,_,rfl,_,_,_⟩:=I;refine go ?_;refine T ?_;exact rt
           exact rt
         exact rt
       exact rt
     intro e _ aa;have h:=W;refine gc h ?_ ?_<;>intro _ h
     · exact rt
     refine go ?_;obtain⟨l,z,g⟩:=ob h;refine CW.mono (CW.lx [0,3] [] [0,3] 2 (fun G=>[(4,vI G)]) (RT prog f136.results (fun u=>.bool u) w0 []) aa z (hb:=?_)) ?_
     · intro G e _ o ab h;refine gb h fun _ O h=>?_;obtain⟨_,_,_,rfl,_,_,_,⟨_,_,_,_,_,_,rfl,K,_,_⟩,_⟩:=b.idx O;refine go ?_;refine T ?_;refine CW.fl [0,3,4,81] fun e=>?_;refine gc h ?_ ?_<;>intro _ h
       · refine go ?_;refine T ?_;have⟨_,R,h⟩:=ob h;obtain⟨_,_,_,rfl,_,_,_,rfl,_⟩:=K.idx R;refine go ?_;refine T ?_;obtain⟨U,p,H⟩:=ob h;refine CW.jn [0,3,4] [] [(101,.bool U)] ab (h1:=?_) (h2:=?_)
         · have h:=p;refine gB h ?_ ?_<;>intro _ h
           · refine gb h fun _ B h=>?_;obtain⟨_,_,_,j,_,_,_,n,_⟩:=b.idx B;cases j;obtain⟨_,_,_,_,_,_,rfl,_,_,_⟩:=n;refine go ?_;refine T ?_;exact rt
           exact rt
         intro e _ _;have h:=H;exact wk
       exact rt
     intro x e _ hM;rcases l with l|_
     · obtain⟨rfl,hM⟩:=hM;obtain⟨e,rfl,_⟩:=eo hM;have h:=g;exact rt
     obtain⟨rfl,u,rfl,hM⟩:=hM;cases g;exact⟨trivial,rfl,_,rfl,hM⟩
   exact rt
 intro x e _ hM;rcases m with m|_
 · obtain⟨rfl,hM⟩:=hM;obtain⟨e,rfl,_⟩:=eo hM;rw[show e=dF e [] from rfl];have h:=i;exact rt
 obtain⟨rfl,u,rfl,hM⟩:=hM;cases i;exact And.intro trivial hM
instance k_136:Ct prog 136:={h:=@GX}
theorem Ie{w0 N b r}(h:ja N b=some r):
    di prog 101 #[vI b] w0 (fun v w=>v=.bool r/\St w0 [] w []):=by
 unfold ja at h;refine di.fS func101 fun e _=>?_;exact wk
instance k_101:Ct prog 101:={h:=@Ie}
theorem BL{w0 N b r}(h:nU N b=some r):
    di prog 59 #[vI b] w0 (fun v w=>v=vI r/\St w0 [] w []):=by
 unfold nU at h;refine di.fS func59 fun e _=>?_;refine T ?_;intro _ _ h _ _;refine gc h ?_ ?_<;>intro _ h
 · exact rt
 refine go ?_;refine LW.u (dL.quo rfl rfl (by decide)) rfl ?_;refine LW.u (dL.rem rfl rfl (by decide)) rfl ?_;exact rt
instance k_59:Ct prog 59:={h:=@BL}
theorem Dd{w0 N b r}(h:oM N b=some r):
    di prog 60 #[vI b] w0 (fun v w=>v=vI r/\St w0 [] w []):=by
 unfold oM at h;refine di.fS func60 fun e _=>?_;refine T ?_;intro _ _ h _ _;refine gc h ?_ ?_<;>intro _ h
 · exact rt
 refine go ?_;refine LW.u (dL.quo rfl rfl (by decide)) rfl ?_;refine LW.u (dL.quo rfl rfl (by decide)) rfl ?_;exact rt
instance k_60:Ct prog 60:={h:=@Dd}
theorem BH{w0 N b r}(h:kH N b=some r):
    di prog 58 #[vI b] w0 (fun v w=>v=vI r/\St w0 [] w []):=by
 unfold kH at h;refine di.fS func58 fun e _=>?_;refine T ?_;intro _ _ h _ _;refine gc h ?_ ?_<;>intro _ h
 · exact rt
 refine go ?_;refine LW.u (dL.rem rfl rfl (by decide)) rfl ?_;exact rt
instance k_58:Ct prog 58:={h:=@BH}
theorem Cz{w0 N q r}(h:oe N q=some r){d g f}(i:g=q.length)(b:rb w0 d f q):
    di prog 30 #[vS d g f] w0 (fun v w=>v=.bool r/\St w0 [] w []):=by
 subst i;unfold oe at h;refine di.fS func30 fun e z=>?_;refine go ?_;obtain⟨l,n,j⟩:=ob h;refine CW.mono (CW.lx [0] [] [] 0 (fun G=>[(3,vI G)]) (RT prog f30.results (fun u=>.bool u) w0 []) z n (hb:=?_)) ?_
 · intro G e _ o k h;refine gc h ?_ ?_<;>intro _ h
   · refine gs ?_;refine CW.block ?_;refine gs ?_;obtain⟨I,B,H⟩:=ob h;refine CW.jn [0,3] [] [(31,.bool I)] k (h1:=?_) (h2:=?_)
     · have h:=B;refine dW ?_;have:=k.drew;refine gb h fun _ C h=>?_;obtain⟨_,_,_,rfl,_,_,_,rfl,_⟩:=b.idx C;refine go ?_;refine T ?_;intro _ _ h _ _;refine bH h ?_ ?_<;>intro _ h
       · exact rt
       refine gB h ?_ ?_<;>intro _ h
       · refine go ?_;refine T ?_;have⟨_,p,h⟩:=ob h;obtain⟨_,_,_,A,_,_,_,m,_⟩:=b.idx p;cases A;obtain rfl:=m;refine go ?_;refine T ?_;exact rt
       exact rt
     intro e _ _;have h:=H;exact wk
   exact rt
 intro x e _ hM;rcases l with l|_
 · obtain⟨rfl,hM⟩:=hM;obtain⟨e,rfl,_⟩:=eo hM;rw[show e=dF e [] from rfl];have h:=j;exact rt
 obtain⟨rfl,u,rfl,hM⟩:=hM;cases j;exact And.intro trivial hM
instance k_30:Ct prog 30:={h:=@Cz}
theorem zG{w0 N m r}(h:ju N m=some r){b f d}(g:f=m.Ro.length)(i:rb w0 b d m.Ro):
    di prog 29 #[.agg #[vS b f d]] w0 (fun v w=>v=.bool r/\St w0 [] w []):=by
 subst g;unfold ju at h;refine di.fS func29 fun e _=>?_;refine T ?_;intro _ _ n;refine gc h ?_ ?_<;>intro _ h
 · exact rt
 refine go ?_;obtain⟨k,l,j⟩:=ob h;refine CW.mono (CW.lx [1] [0] [] 0 (fun q=>[(3,vI q)]) (RT prog f29.results (fun u=>.bool u) w0 []) n l (hb:=?_)) ?_
 · intro q e _ o _ h;refine gc h ?_ ?_<;>intro _ h
   · refine gb h fun _ p h=>?_;obtain⟨_,_,_,rfl,_,_,_,rfl,_⟩:=i.idx p;refine go ?_;refine T ?_;intro _ _ h _ _;refine CW.fl [1,3,21] fun e=>?_;exact wk
   exact rt
 intro x e _ hM;rcases k with k|_
 · obtain⟨rfl,hM⟩:=hM;obtain⟨e,rfl,_⟩:=eo hM;rw[show e=dF e [] from rfl];have h:=j;exact rt
 obtain⟨rfl,u,rfl,hM⟩:=hM;cases j;exact And.intro trivial hM
instance k_29:Ct prog 29:={h:=@zG}
theorem Mb{w0 N b r}(h:pD N b=some r):
    di prog 110 #[vI b] w0 (fun v w=>v=.bool r/\St w0 [] w []):=by
 unfold pD at h;refine di.fS func110 fun e _=>?_;exact wk
instance k_110:Ct prog 110:={h:=@Mb}
theorem Ks{w0 N b r}(h:hO N b=some r):
    di prog 67 #[.agg #[vI b.cd,vI b.dg,vI b.dn]] w0 (fun v w=>v=.bool r/\St w0 [] w []):=by
 unfold hO at h;refine di.fS func67 fun e _=>?_;exact wk
instance k_67:Ct prog 67:={h:=@Ks}
theorem Ge{w0 N b d r}(h:qS N b d=some r):
    di prog 262 #[.agg #[vI b.cd,vI b.dg,vI b.dn],.agg #[vI d.cd,vI d.dg,vI d.dn]] w0 (fun v w=>v=.bool r/\St w0 [] w []):=by
 unfold qS at h;refine di.fS func262 fun e _=>?_;exact wk
instance k_262:Ct prog 262:={h:=@Ge}
theorem yL{w0 N f g i r}(h:lr N f g i=some r):
    di prog 53 #[vI f,vI g,vI i] w0 (fun v w=>v=vI r/\St w0 [] w []):=by
 unfold lr at h;refine di.fS func53 fun e b=>?_;refine gs ?_;refine CW.region ?_;refine gs ?_;obtain⟨j,d,h2⟩:=ob h;refine CW.jn [0,1,2] [] [(19,.bool j)] b (h1:=?_) (h2:=?_)
 · have h:=d;exact wk
 intro e _ _;have h:=h2;exact wk
instance k_53:Ct prog 53:={h:=@yL}
theorem JA{w0 N b d r}(h:sN N b d=some r):
    di prog 251 #[.agg #[vI b.cd,vI b.dg,vI b.dn],.agg #[vI d.cd,vI d.dg,vI d.dn]] w0 (fun v w=>v=.tuple #[.agg #[vI r.1.cd,vI r.1.dg,vI r.1.dn],.bool r.2]/\St w0 [] w []):=by
 unfold sN at h;refine di.fS func251 fun e _=>?_;refine T ?_;intro _ _ _ _ _ _ _ _ _ _ _ h _ _;refine gc h ?_ ?_<;>intro _ h
 · exact wk
 refine fm [(0,vI (i64.wrap (b.cd-d.cd))),(1,vI (i64.wrap (b.dg-d.dg))),(2,vI (i64.wrap (b.dn-d.dn)))] #[vI (i64.wrap (b.cd-d.cd)),vI (i64.wrap (b.dg-d.dg)),vI (i64.wrap (b.dn-d.dn))] ?_;exact wk
instance k_251:Ct prog 251:={h:=@JA}
theorem Az{w0 N b d r}(h:kT N b d=some r):
    di prog 31 #[.agg #[vI b.cd,vI b.dg,vI b.dn],.agg #[vI d.cd,vI d.dg,vI d.dn]] w0 (fun v w=>v=.tuple #[.agg #[vI r.1.cd,vI r.1.dg,vI r.1.dn],.bool r.2]/\St w0 [] w []):=by
 unfold kT at h;refine di.fS func31 fun e _=>?_;refine T ?_;intro _ _ _ _ _ _ _ _ f;obtain⟨j,g,i⟩:=ob h;refine CW.jn [2,3,4] [0,1,2] [(14,.bool j)] f (h1:=?_) (h2:=?_)
 · have h:=g;exact wk
 intro e _ _;have h:=i;refine gc h ?_ ?_<;>intro _ h
 · exact wk
 refine fm [(0,vI (i64.wrap (b.cd+d.cd))),(1,vI (i64.wrap (b.dg+d.dg))),(2,vI (i64.wrap (b.dn+d.dn)))] #[vI (i64.wrap (b.cd+d.cd)),vI (i64.wrap (b.dg+d.dg)),vI (i64.wrap (b.dn+d.dn))] ?_;refine T ?_;intro _ _ _ _ _ _ _ h _ _;refine CW.fl [2,4,6,34] fun e=>?_;exact wk
instance k_31:Ct prog 31:={h:=@Az}
theorem Kb{w0 N f r}(h:n7 N f=some r):
    di prog 134 #[.agg (uT f)] w0 (fun v w=>v=.bool r/\St w0 [] w []):=by
 unfold n7 at h;refine di.fS func134 fun e _=>?_;refine T ?_;intro _ _ b;obtain⟨i,d,g⟩:=ob h;refine CW.jn [1] [0] [(24,.bool i)] b (h1:=?_) (h2:=?_)
 · have h:=d;exact wk
 intro e _ _;have h:=g;exact wk
instance k_134:Ct prog 134:={h:=@Kb}
theorem MH{w0 N b r}(h:vu N b=some r){d z l}(I:z=b.Rp.Ro.length)(ab:rb w0 d l b.Rp.Ro){f A m}(J:A=b.own.length)(ac:rb w0 f m b.own){g B n}(K:B=b.Rr.length)(ad:rb w0 g n b.Rr){i C p}(L:C=b.py.ag.length)(R:rb w0 i p b.py.ag){j G q}(M:G=b.py.gc.da.length)(ae:rb w0 j q b.py.gc.da){k H u}(O:H=b.db.length)(af:rb w0 k u b.db):
    di prog 188 #[.agg (uP d z l f A m g B n i C p j G q k H u b)] w0 (fun v w=>v=vI r/\St w0 [] w []):=by
 subst I J K L M O;unfold vu at h;refine di.fS func188 fun e _=>?_;refine T ?_;intro _ _ Y;refine go ?_;obtain⟨_,U,X⟩:=ob h;refine CW.mono (CW.lb [1] [0] [3] 0 (fun W=>[(3,vI W.1),(4,vI W.2)]) Y U (hb:=?_)) ?_
 · intro W e _ o Z h;refine gs ?_;obtain⟨ai,aa,ah⟩:=ob h;refine CW.jn [1,3,4] [0] [(14,.bool ai)] Z (h1:=?_) (h2:=?_)
   · have h:=aa;exact wk
   intro e _ _;have h:=ah;refine gc h ?_ ?_<;>intro _ h
   · refine gb h fun _ V h=>?_;obtain⟨_,_,_,rfl,_,_,_,⟨_,_,_,_,_,_,rfl,_,_,_⟩,_⟩:=R.idx V;refine go ?_;refine T ?_;intro _ _ h _ _;refine gc h ?_ ?_<;>intro _ h
     · refine go ?_;refine T ?_;exact rt
     exact rt
   exact rt
 intro x e _ hM;obtain⟨rfl,hM⟩:=hM;obtain⟨e,rfl,_⟩:=eo hM;have h:=X;exact rt
instance k_188:Ct prog 188:={h:=@MH}
theorem IL{w0 N d b r}(h:qp N d b=some r):
    di prog 248 #[vI d,vI b] w0 (fun v w=>v=.agg #[vI r.cd,vI r.dg,vI r.dn]/\St w0 [] w []):=by
 unfold qp at h;refine di.fS func248 fun e _=>?_;refine T ?_;intro _ _ _;refine gc h ?_ ?_<;>intro _ h
 · refine fm [(0,vI b)] #[vI b,vI 0,vI 0] ?_;exact wk
 refine gc h ?_ ?_<;>intro _ h
 · refine fm [(1,vI b)] #[vI 0,vI b,vI 0] ?_;exact wk
 refine gc h ?_ ?_<;>intro _ h
 · refine fm [(2,vI b)] #[vI 0,vI 0,vI b] ?_;exact wk
 refine fm [] #[vI 0,vI 0,vI 0] ?_;exact wk
instance k_248:Ct prog 248:={h:=@IL}
theorem KL{w0 N O z r}(h:ue N O z=some r){j m l}(p:m=O.Ro.length)(u:rb w0 j l O.Ro){k n f}(q:n=z.Ro.length)(x:rb w0 k f z.Ro):
    di prog 127 #[.agg #[vS j m l],.agg #[vS k n f]] w0 (fun v w=>∃A B,v=vS A r.length B/\St w0 [] w [sl A B r]):=by
 subst p q;unfold ue at h;refine di.fS func127 fun e _=>?_;refine T ?_;intro _ _ _ aa _ V;refine LW.b0 (α:=Int) V ?_;intro Y Z _ C hf;refine go ?_;obtain⟨_,H,U⟩:=ob h;refine CW.i2 H 0 [3,10,11] [1] (fun g (b:Ad) (d:Nat)=>[(5,vS b g.1.length d),(12,vI g.2)]) (fun g b d=>[sl b d g.1]) C ?_ ?_ ?_
 · exact⟨Y,Z,C.po [1,0]⟩
 · intro g e b d _ o W h;refine gc h ?_ ?_<;>intro _ h
   · refine gb h fun _ I h=>?_;obtain⟨_,_,_,rfl,_,_,_,rfl,_⟩:=u.idx I;refine go ?_;refine T ?_;have⟨_,J,h⟩:=ob h;obtain⟨R,X,_,rfl,_,_,_,rfl,_⟩:=x.idx J;refine go ?_;refine T ?_;refine CW.fl [3,5,6,10,11,12,23] fun e=>?_;refine gc h ?_ ?_<;>intro _ h
     · refine gb h fun _ K h=>?_;refine LW.fZ (M:=[]) (L:=[bx aa 31 [vS (some ⟨R,X,none⟩) z.Ro.length f],sl b d g.1]) (vs:=#[vI g.2]) (i:=1) lH rfl (by kernel_rfl) rfl rfl K W rfl (fun w G hG=>by cases(show G=[] from hG);exact⟨rfl,rfl⟩) rfl rfl ?_;intro _ _ _ _ _ hf;exact rt
     exact rt
   exact rt
 intro e b d _ _;have h:=U;exact rt
instance k_127:Ct prog 127:={h:=@KL}
end Go.Kx
