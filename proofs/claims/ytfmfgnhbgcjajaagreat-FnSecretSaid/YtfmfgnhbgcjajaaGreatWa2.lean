import Derived.Test.YtfmfgnhbgcjajaaGreatFa
import Derived.Test.YtfmfgnhbgcjajaaGreatPu
namespace Go.Kx
open Go Go.RowKit Go.Proofs
open Go.IntKind (i64)
open Tryz
set_option maxRecDepth 10000
set_option maxHeartbeats 8000000
set_option linter.unusedVariables false
set_option linter.unusedSimpArgs false
theorem kR{w0 N b d f r}(h:eC N b d f=some r):
    di prog 72 #[vI b,vI d,vI f] w0 (fun v w=>v=.bool r/\St w0 [] w []):=by
 unfold eC at h;refine di.fS func72 fun e _=>?_;exact wk
instance k_72:Ct prog 72:={h:=@kR}
theorem Gf{w0 N b A r}(h:j7 N b A=some r){d l i}(o:l=b.dk.length)(u:rb w0 d i b.dk){f m j}(p:m=b.Rw.length)(x:rb w0 f j b.Rw){g n k}(q:n=b.Rs.length)(z:rb w0 g k b.Rs):
    di prog 137 #[.agg (uO d l i f m j g n k b),vI A] w0 (fun v w=>v=.bool r/\St w0 [] w []):=by
 subst o p q;unfold j7 at h;refine di.fS func137 fun e _=>?_;exact wk
instance k_137:Ct prog 137:={h:=@Gf}
theorem yp{w0 N b r}(h:iU N b=some r):
    di prog 102 #[vI b] w0 (fun v w=>v=.bool r/\St w0 [] w []):=by
 unfold iU at h;refine di.fS func102 fun e _=>?_;exact wk
instance k_102:Ct prog 102:={h:=@yp}
theorem Dg{w0 N B C r}(h:oL N B C=some r){b i f}(k:i=B.length)(m:rb w0 b f B){d j g}(l:j=C.length)(n:rb w0 d g C):
    di prog 259 #[vS b i f,vS d j g] w0 (fun v w=>v=.bool r/\St w0 [] w []):=by
 subst k l;unfold oL at h;refine di.fS func259 fun e G=>?_;refine gc h ?_ ?_<;>intro _ h
 · exact rt
 refine go ?_;obtain⟨q,z,p⟩:=ob h;refine CW.mono (CW.lx [0,1,12] [] [] 0 (fun J=>[(13,vI J)]) (RT prog f259.results (fun u=>.bool u) w0 []) G z (hb:=?_)) ?_
 · intro J e _ o H h;refine gc h ?_ ?_<;>intro _ h
   · refine fA ?_;have:=H.drew;refine gb h fun _ I h=>?_;obtain⟨_,_,_,rfl,_,_,_,rfl,_⟩:=m.idx I;refine go ?_;refine T ?_;have⟨_,A,h⟩:=ob h;obtain⟨_,_,_,rfl,_,_,_,rfl,_⟩:=n.idx A;refine go ?_;refine T ?_;refine gc h ?_ ?_<;>intro _ h
     · exact rt
     exact rt
   exact rt
 intro x e _ hM;rcases q with q|_
 · obtain⟨rfl,hM⟩:=hM;obtain⟨e,rfl,_⟩:=eo hM;rw[show e=dF e [] from rfl];have h:=p;exact rt
 obtain⟨rfl,u,rfl,hM⟩:=hM;cases p;exact And.intro trivial hM
instance k_259:Ct prog 259:={h:=@Dg}
theorem zJ{w0 N b r}(h:rj N b=some r){d l i}(p:l=b.dk.length)(A:rb w0 d i b.dk){f m j}(q:m=b.Rw.length)(B:rb w0 f j b.Rw){g n k}(z:n=b.Rs.length)(C:rb w0 g k b.Rs):
    di prog 234 #[.agg (uO d l i f m j g n k b)] w0 (fun v w=>v=.bool r/\St w0 [] w []):=by
 subst p q z;unfold rj at h;refine di.fS func234 fun e _=>?_;refine T ?_;intro _ _ ai;refine go ?_;obtain⟨J,Z,G⟩:=ob h;refine CW.mono (CW.lx [1,12,13] [0] [1] 0 (fun aq=>[(14,vI aq)]) (RT prog f234.results (fun u=>.bool u) w0 []) ai Z (hb:=?_)) ?_
 · intro aq e _ o _ h;refine gc h ?_ ?_<;>intro _ h
   · refine gb h fun _ am h=>?_;obtain⟨_,_,_,rfl,_,_,_,rfl,_⟩:=A.idx am;refine go ?_;refine T ?_;intro _ _ h _ _;refine CW.fl [1,12,13,14,20] fun e=>?_;exact wk
   exact rt
 intro x e _ hM;rcases J with J|_
 · obtain⟨rfl,hM⟩:=hM;obtain⟨e,rfl,aj⟩:=eo hM;have h:=G;refine go ?_;obtain⟨K,aa,H⟩:=ob h;refine CW.mono (CW.lx [1,23,24] [0] [1] 2 (fun M=>[(25,vI M)]) (RT prog f234.results (fun u=>.bool u) w0 []) aj aa (hb:=?_)) ?_
   · intro M e _ o _ h;refine gc h ?_ ?_<;>intro _ h
     · refine gb h fun _ ac h=>?_;obtain⟨_,_,_,rfl,_,_,_,rfl,_⟩:=B.idx ac;refine go ?_;refine T ?_;intro _ _ h _ _;refine CW.fl [1,23,24,25,31] fun e=>?_;exact wk
     exact rt
   intro x e _ hM;rcases K with K|_
   · obtain⟨rfl,hM⟩:=hM;obtain⟨e,rfl,ak⟩:=eo hM;have h:=H;refine go ?_;obtain⟨L,ab,I⟩:=ob h;refine CW.mono (CW.lx [1,34,35] [0] [1] 4 (fun O=>[(36,vI O)]) (RT prog f234.results (fun u=>.bool u) w0 []) ak ab (hb:=?_)) ?_
     · intro O e _ o _ h;refine gf [1,34,35,36,37] fun e=>?_;refine gc h ?_ ?_<;>intro _ h
       · refine gb h fun _ ad h=>?_;obtain⟨_,_,_,rfl,_,_,_,rfl,_⟩:=C.idx ad;refine go ?_;refine T ?_;intro _ _ _ _ R;obtain⟨an,W,ae⟩:=ob h;refine CW.jn [1,34,35,36] [1] [(54,.bool an)] R (h1:=?_) (h2:=?_)
         · have h:=W;exact wk
         intro e _ _;have h:=ae;exact wk
       exact rt
     intro x e _ hM;rcases L with L|_
     · obtain⟨rfl,hM⟩:=hM;obtain⟨e,rfl,U⟩:=eo hM;have h:=I;refine gs ?_;refine CW.region ?_;refine gs ?_;refine CW.region ?_;refine gs ?_;obtain⟨ao,X,af⟩:=ob h;refine CW.jn [1,10] [0] [(9,vI ao)] U (h1:=?_) (h2:=?_)
       · have h:=X;refine CW.fl [1,9,10,58] fun e=>?_;exact wk
       intro e _ V;have h:=af;refine gs ?_;refine CW.region ?_;refine gs ?_;obtain⟨ap,Y,ah⟩:=ob h;refine CW.jn [1,9] [0] [(10,vI ap)] V (h1:=?_) (h2:=?_)
       · have h:=Y;refine CW.fl [1,9,10,63] fun e=>?_;exact wk
       intro e _ _;have h:=ah;exact wk
     obtain⟨rfl,u,rfl,hM⟩:=hM;cases I;exact And.intro trivial hM
   obtain⟨rfl,u,rfl,hM⟩:=hM;cases H;exact And.intro trivial hM
 obtain⟨rfl,u,rfl,hM⟩:=hM;cases G;exact And.intro trivial hM
instance k_234:Ct prog 234:={h:=@zJ}
theorem zO{w0 N b r}(h:iZ N b=some r):
    di prog 190 #[vI b] w0 (fun v w=>v=.bool r/\St w0 [] w []):=by
 unfold iZ at h;refine di.fS func190 fun e _=>?_;exact wk
instance k_190:Ct prog 190:={h:=@zO}
theorem vb{w0 N b r}(h:je N b=some r):
    di prog 92 #[vI b] w0 (fun v w=>v=.bool r/\St w0 [] w []):=by
 unfold je at h;refine di.fS func92 fun e _=>?_;exact wk
instance k_92:Ct prog 92:={h:=@vb}
theorem tx{w0 N k r}(h:jB N k=some r){b f d}(g:f=k.length)(j:rb w0 b d k):
    di prog 80 #[vS b f d] w0 (fun v w=>∃n o,v=vS n r.length o/\St w0 [] w [sl n o r]):=by
 subst g;unfold jB at h;refine di.fS func80 fun e q=>?_;refine go ?_;refine LW.b0 (α:=Int) q ?_;intro _ _ _ p hf;refine gb h fun _ u h=>?_;refine LW.fM (l:=([]:List Int)) (m:=k) lH rfl rfl (p.rB j) u p (i:=0) rfl rfl ?_;intro _ _ _ _ hf;exact rt
instance k_80:Ct prog 80:={h:=@tx}
theorem zw{w0 N b r}(h:pw N b=some r){C L I}(W:L=b.dk.length)(am:rb w0 C I b.dk){G M J}(X:M=b.Rw.length)(an:rb w0 G J b.Rw){H O K}(Y:O=b.Rs.length)(d:rb w0 H K b.Rs):
    di prog 151 #[.agg (uO C L I G M J H O K b)] w0 (fun v w=>∃f k g n j o,v=.agg (uO f r.dk.length k g r.Rw.length n j r.Rs.length o r)/\St w0 [] w [sl f k r.dk,sl g n r.Rw,sl j o r.Rs]):=by
 subst W X Y;unfold pw at h;refine di.fS func151 fun e _=>?_;refine T ?_;intro ad _ _ ae _ af;obtain⟨R,ak,ao⟩:=ob h;refine CW.cut (fun e wb=>∃(p:Ad) (z:Nat) (q:Ad) (A:Nat) (x:Ad) (B:Nat),En e [(1,.pointer (some ⟨ad,0,none⟩)),(2,.pointer (some ⟨ae,0,none⟩))]/\St w0 [] wb [bx ae 96 [vI 0,vI 0,vI 0,vI 0,vI 0,vI 0,vI 0,vI 0,vI 0,.bool false,vS none 0 0,vS none 0 0,vS none 0 0],bx ad 96 [vI b.RG,vI b.Rq,vI b.box,vI b.RF,vI b.dY,vI b.cd,vI b.Ry,vI b.ee,vI b.ed,.bool b.mark,vS p R.1.length z,vS q R.2.1.length A,vS x R.2.2.length B],sl p z R.1,sl q A R.2.1,sl x B R.2.2]) ?_ ?_
 · have h:=ak;refine dW ?_;have ah:=af.drew;refine gb h fun _ _ h=>?_;refine AW.all (rs:=[2,6]) (by kernel_rfl) (by simp) ⟨?_,?_,trivial⟩
   · refine oA ?_;refine T ?_;intro _ _ _ ai;refine AW.u (i:=10) rfl (by kernel_rfl) rfl rfl (dL.fa HA rfl) ?_;have⟨_,_,h⟩:=ob h;refine AW.all (rs:=[5,6]) (by kernel_rfl) (by simp) ⟨?_,?_,trivial⟩
     · refine oA ?_;refine T ?_;intro _ _ _ aj;refine LW.b0 (α:=eL) aj ?_;intro _ _ _ Z hf;refine T ?_;have⟨_,aa,h⟩:=ob h;refine T ?_;refine LW.fM (l:=([]:List eL)) (m:=b.Rs) qR rfl rfl (Z.rB d) aa Z (i:=0) rfl rfl ?_;intro _ _ _ _ hf;exact wk
     refine oA ?_;refine LW.b0 (α:=eL) ai ?_;intro _ _ _ _ hf;refine T ?_;refine jP 5 ?_;refine T ?_;intro _ _ _ U;have⟨_,ab,h⟩:=ob h;refine jP 9 ?_;refine LW.fM (l:=([]:List eL)) (m:=b.Rs) qR rfl rfl (U.rB d) ab U (i:=1) rfl rfl ?_;intro _ _ _ _ hf;exact wk
   refine oA ?_;refine LW.b0 (α:=eL) ah ?_;intro _ _ _ _ hf;refine T ?_;refine jP 2 ?_;refine T ?_;intro _ _ _ _;refine AW.u (i:=10) rfl (by kernel_rfl) rfl rfl (dL.fa HA rfl) ?_;refine jP 5 ?_;refine T ?_;intro _ _ h _ _ _ V;have⟨_,ac,h⟩:=ob h;refine jP 9 ?_;refine LW.fM (l:=([]:List eL)) (m:=b.Rs) qR rfl rfl (V.rB d) ac V (i:=2) rfl rfl ?_;intro _ _ _ _ hf;exact wk
 rintro e _ ⟨p,z,q,A,x,B,hE,_⟩;obtain⟨e,rfl⟩:=hE.out;have h:=ao;exact wk
instance k_151:Ct prog 151:={h:=@zw}
theorem BN{w0 N b r}(h:nP N b=some r):
    di prog 56 #[vI b] w0 (fun v w=>v=vI r/\St w0 [] w []):=by
 unfold nP at h;refine di.fS func56 fun e _=>?_;refine T ?_;intro _ _ h _ _;refine gc h ?_ ?_<;>intro _ h
 · exact rt
 refine go ?_;refine LW.u (dL.quo rfl rfl (by decide)) rfl ?_;refine LW.u (dL.rem rfl rfl (by decide)) rfl ?_;exact rt
instance k_56:Ct prog 56:={h:=@BN}
theorem Di{w0 N b r}(h:oR N b=some r):
    di prog 57 #[vI b] w0 (fun v w=>v=vI r/\St w0 [] w []):=by
 unfold oR at h;refine di.fS func57 fun e _=>?_;refine T ?_;intro _ _ h _ _;refine gc h ?_ ?_<;>intro _ h
 · exact rt
 refine go ?_;refine LW.u (dL.quo rfl rfl (by decide)) rfl ?_;refine LW.u (dL.quo rfl rfl (by decide)) rfl ?_;exact rt
instance k_57:Ct prog 57:={h:=@Di}
theorem BP{w0 N b r}(h:kF N b=some r):
    di prog 54 #[vI b] w0 (fun v w=>v=vI r/\St w0 [] w []):=by
 unfold kF at h;refine di.fS func54 fun e _=>?_;refine T ?_;intro _ _ h _ _;refine gc h ?_ ?_<;>intro _ h
 · exact rt
 refine go ?_;refine LW.u (dL.rem rfl rfl (by decide)) rfl ?_;exact rt
instance k_54:Ct prog 54:={h:=@BP}
theorem Im{w0 N j l r}(h:jF N j l=some r){b f d}(g:f=j.length)(i:rb w0 b d j):
    di prog 166 #[vS b f d,vI l] w0 (fun v w=>v=.bool r/\St w0 [] w []):=by
 subst g;unfold jF at h;refine di.fS func166 fun e _=>?_;refine go ?_;refine T ?_;intro _ _ h _ _;refine bH h ?_ ?_<;>intro _ h
 · refine gb h fun _ k h=>?_;obtain⟨_,_,_,rfl,_,_,_,rfl,_⟩:=i.idx k;refine go ?_;refine T ?_;exact rt
 exact rt
instance k_166:Ct prog 166:={h:=@Im}
theorem Eh{w0 N b r}(h:lg N b=some r):
    di prog 142 #[vI b] w0 (fun v w=>v=.bool r/\St w0 [] w []):=by
 unfold lg at h;refine di.fS func142 fun e _=>?_;exact wk
instance k_142:Ct prog 142:={h:=@Eh}
theorem Gj{w0 N n z r}(h:qY N n z=some r){b f d}(g:f=n.length)(i:rb w0 b d n):
    di prog 191 #[vS b f d,vI z] w0 (fun v w=>v=.bool r/\St w0 [] w []):=by
 subst g;unfold qY at h;refine di.fS func191 fun e p=>?_;refine go ?_;obtain⟨k,l,j⟩:=ob h;refine CW.mono (CW.lx [0] [] [] 0 (fun m=>[(1,vI m.1),(5,vI m.2)]) (RT prog f191.results (fun u=>.bool u) w0 []) p l (hb:=?_)) ?_
 · intro m e _ o _ h;refine gc h ?_ ?_<;>intro _ h
   · refine gc h ?_ ?_<;>intro _ h
     · exact rt
     refine T ?_;intro _ _ h _ _;refine gc h ?_ ?_<;>intro _ h
     · exact rt
     refine gb h fun _ q h=>?_;obtain⟨_,_,_,rfl,_,_,_,rfl,_⟩:=i.idx q;refine go ?_;refine T ?_;exact rt
   exact rt
 intro x e _ hM;rcases k with k|_
 · obtain⟨rfl,hM⟩:=hM;obtain⟨e,rfl,_⟩:=eo hM;rw[show e=dF e [] from rfl];have h:=j;exact rt
 obtain⟨rfl,u,rfl,hM⟩:=hM;cases j;exact And.intro trivial hM
instance k_191:Ct prog 191:={h:=@Gj}
theorem KY{w0 N b r}(h:hY N b=some r):
    di prog 96 #[.agg #[vI b.cd,vI b.dg,vI b.dn]] w0 (fun v w=>v=.bool r/\St w0 [] w []):=by
 unfold hY at h;refine di.fS func96 fun e _=>?_;exact wk
instance k_96:Ct prog 96:={h:=@KY}
theorem uJ{w0 N Y r}(h:ks N Y=some r){q x u}(z:x=Y.length)(A:rb w0 q u Y):
    di prog 128 #[vS q x u] w0 (fun v w=>∃I R,v=vS I r.length R/\St w0 [] w [sl I R r]):=by
 subst z;unfold ks at h;refine di.fS func128 fun e aa=>?_;refine go ?_;refine LW.b0 (α:=c6) aa ?_;intro af ah _ V hf;refine go ?_;obtain⟨_,W,Z⟩:=ob h;refine CW.i2 W 0 [7,8] [] (fun g (d:Ad) (f:Nat)=>[(3,vS d g.1.length f),(9,vI g.2)]) (fun g d f=>[sl d f g.1]) V ?_ ?_ ?_
 · exact⟨af,ah,V.po [0]⟩
 · intro g e d f _ o _ h;refine gc h ?_ ?_<;>intro _ h
   · refine gb h fun ae ad h=>?_;obtain⟨_,_,_,rfl,_,_,_,⟨B,J,C,K,H,O,rfl,_,_,_⟩,_⟩:=A.idx ad;refine go ?_;refine T ?_;intro U _ _ _ _ b _ h j m k n l p _ ab;have ac:=ab.pk (M:=[sl j m b.dk,sl k n b.Rw,sl l p b.Rs]++[bx U 96 (qO B J C K H O ae),sl d f g.1]) [0,1,2,3,4];have⟨_,X,h⟩:=ob h;refine LW.fZ (M:=[sl j m b.dk,sl k n b.Rw,sl l p b.Rs]) (L:=[bx U 96 (qO B J C K H O ae),sl d f g.1]) (vs:=#[vI b.RG,vI b.Rq,vI b.box,vI b.RF,vI b.dY,vI b.cd,vI b.Ry,vI b.ee,vI b.ed,.bool b.mark,vS j b.dk.length m,vS k b.Rw.length n,vS l b.Rs.length p]) (i:=1) Jv rfl (by kernel_rfl) rfl rfl X ac rfl (fun w G hG=>⟨j,m,k,n,l,p,rfl,hG⟩) rfl rfl ?_;intro _ _ _ _ _ hf;exact rt
   exact rt
 intro e d f _ _;have h:=Z;exact rt
instance k_128:Ct prog 128:={h:=@uJ}
theorem Gx{w0 N b d r}(h:rf N b d=some r):
    di prog 238 #[.agg #[vI b.cd,vI b.dg,vI b.dn],.agg #[vI d.cd,vI d.dg,vI d.dn]] w0 (fun v w=>v=.bool r/\St w0 [] w []):=by
 unfold rf at h;refine di.fS func238 fun e _=>?_;exact wk
instance k_238:Ct prog 238:={h:=@Gx}
theorem Jp{w0 N b r}(h:kj N b=some r):
    di prog 77 #[vI b] w0 (fun v w=>v=.bool r/\St w0 [] w []):=by
 unfold kj at h;refine di.fS func77 fun e _=>?_;exact wk
instance k_77:Ct prog 77:={h:=@Jp}
theorem A4{w0 N b r}(h:mN N b=some r):
    di prog 153 #[vI b] w0 (fun v w=>v=.bool r/\St w0 [] w []):=by
 unfold mN at h;refine di.fS func153 fun e _=>?_;exact wk
instance k_153:Ct prog 153:={h:=@A4}
theorem IS{w0 N b d r}(h:s7 N b d=some r):
    di prog 200 #[.agg #[vI b.cd,vI b.dg,vI b.dn],.agg #[vI d.cd,vI d.dg,vI d.dn]] w0 (fun v w=>v=.tuple #[.agg #[vI r.1.cd,vI r.1.dg,vI r.1.dn],.bool r.2]/\St w0 [] w []):=by
 unfold s7 at h;refine di.fS func200 fun e _=>?_;refine T ?_;intro _ _ _ _ _ _ _ _ _ _ _ h _ _;refine gc h ?_ ?_<;>intro _ h
 · exact wk
 refine fm [(0,vI (i64.wrap (b.cd-d.cd))),(1,vI (i64.wrap (b.dg-d.dg))),(2,vI (i64.wrap (b.dn-d.dn)))] #[vI (i64.wrap (b.cd-d.cd)),vI (i64.wrap (b.dg-d.dg)),vI (i64.wrap (b.dn-d.dn))] ?_;exact wk
instance k_200:Ct prog 200:={h:=@IS}
theorem FJ{w0 N f g i r}(h:nD N f g i=some r):
    di prog 240 #[vI f,vI g,vI i] w0 (fun v w=>v=vI r/\St w0 [] w []):=by
 unfold nD at h;refine di.fS func240 fun e b=>?_;refine gs ?_;refine CW.region ?_;refine gs ?_;obtain⟨j,d,h2⟩:=ob h;refine CW.jn [0,1,2] [] [(19,.bool j)] b (h1:=?_) (h2:=?_)
 · have h:=d;exact wk
 intro e _ _;have h:=h2;exact wk
instance k_240:Ct prog 240:={h:=@FJ}
theorem Ft{w0 N b r}(h:lj N b=some r){g x j}(A:x=b.ag.length)(U:rb w0 g j b.ag){d z f}(B:z=b.gc.da.length)(V:rb w0 d f b.gc.da):
    di prog 82 #[.agg (uH g x j d z f b)] w0 (fun v w=>∃n p o q,v=.agg (uH n r.ag.length p o r.gc.da.length q r)/\St w0 [] w [sl n p r.ag,sl o q r.gc.da]):=by
 subst A B;unfold lj at h;refine di.fS func82 fun e _=>?_;refine T ?_;intro K _ _ L _ M;obtain⟨R,O,W⟩:=ob h;refine CW.cut (fun e wb=>∃(m:Nat) (k:Ad) (l:Nat),En e [(1,.pointer (some ⟨K,0,none⟩)),(2,.pointer (some ⟨L,0,none⟩)),(3,.pointer (some ⟨m,0,none⟩))]/\St w0 [] wb [bx L 51 [vS none 0 0,vI 0,vI 0,vI 0,vS none 0 0],bx K 51 (qH g j d f b),bx m 51 [vS k R.length l,vI b.gc.Ru,vI b.gc.RD,vI b.gc.Rv,vS d b.gc.da.length f],sl k l R]) ?_ ?_
 · have h:=O;refine dW ?_;have:=M.drew;refine gb h fun C _ h=>?_;refine AW.all (rs:=[2,6]) (by kernel_rfl) (by simp) ⟨?_,?_,trivial⟩
   · refine oA ?_;refine T ?_;intro G I _ _;refine AW.u (i:=5) rfl (by kernel_rfl) rfl rfl (dL.build (vs:=[(0,vS G C.length I),(1,.agg #[vI b.gc.Ru,vI b.gc.RD,vI b.gc.Rv,vS d b.gc.da.length f])]) (cs:=#[vS G C.length I,vI b.gc.Ru,vI b.gc.RD,vI b.gc.Rv,vS d b.gc.da.length f]) rfl (by kernel_rfl)) ?_;exact wk
   refine oA ?_;refine T ?_;intro _ _ _;refine jP 2 ?_;refine T ?_;intro H J _ _;refine AW.u (i:=5) rfl (by kernel_rfl) rfl rfl (dL.build (vs:=[(0,vS H C.length J),(1,.agg #[vI b.gc.Ru,vI b.gc.RD,vI b.gc.Rv,vS d b.gc.da.length f])]) (cs:=#[vS H C.length J,vI b.gc.Ru,vI b.gc.RD,vI b.gc.Rv,vS d b.gc.da.length f]) rfl (by kernel_rfl)) ?_;exact wk
 rintro e _ ⟨m,k,l,hE,_⟩;obtain⟨e,rfl⟩:=hE.out;have h:=W;exact wk
instance k_82:Ct prog 82:={h:=@Ft}
theorem I5{w0 N d b r}(h:lP N d b=some r):
    di prog 158 #[vI d,vI b] w0 (fun v w=>v=.agg #[vI r.cd,vI r.dg,vI r.dn]/\St w0 [] w []):=by
 unfold lP at h;refine di.fS func158 fun e _=>?_;refine T ?_;intro _ _ _;refine gc h ?_ ?_<;>intro _ h
 · refine fm [(0,vI b)] #[vI b,vI 0,vI 0] ?_;exact wk
 refine gc h ?_ ?_<;>intro _ h
 · refine fm [(1,vI b)] #[vI 0,vI b,vI 0] ?_;exact wk
 refine gc h ?_ ?_<;>intro _ h
 · refine fm [(2,vI b)] #[vI 0,vI 0,vI b] ?_;exact wk
 refine fm [] #[vI 0,vI 0,vI 0] ?_;exact wk
instance k_158:Ct prog 158:={h:=@I5}
theorem CG{w0 N q r}(h:nZ N q=some r){d g f}(i:g=q.length)(b:rb w0 d f q):
    di prog 71 #[vS d g f] w0 (fun v w=>v=.bool r/\St w0 [] w []):=by
 subst i;unfold nZ at h;refine di.fS func71 fun e A=>?_;refine go ?_;obtain⟨k,n,j⟩:=ob h;refine CW.mono (CW.lx [0,5,6] [] [] 0 (fun I=>[(7,vI I)]) (RT prog f71.results (fun u=>.bool u) w0 []) A n (hb:=?_)) ?_
 · intro I e _ o B h;refine gc h ?_ ?_<;>intro _ h
   · refine gb h fun _ G h=>?_;obtain⟨_,_,_,rfl,_,_,_,rfl,_⟩:=b.idx G;refine go ?_;refine T ?_;obtain⟨H,m,z⟩:=ob h;refine CW.jn [0,5,6,7] [] [(27,.bool H)] B (h1:=?_) (h2:=?_)
     · have h:=m;refine T ?_;intro _ _ h _ _;refine bH h ?_ ?_<;>intro _ h
       · exact rt
       refine gB h ?_ ?_<;>intro _ h
       · refine gb h fun _ p h=>?_;obtain⟨_,_,_,C,_,_,_,l,_⟩:=b.idx p;cases C;obtain rfl:=l;refine go ?_;refine T ?_;exact rt
       exact rt
     intro e _ _;have h:=z;exact wk
   exact rt
 intro x e _ hM;rcases k with k|_
 · obtain⟨rfl,hM⟩:=hM;obtain⟨e,rfl,_⟩:=eo hM;rw[show e=dF e [] from rfl];have h:=j;exact rt
 obtain⟨rfl,u,rfl,hM⟩:=hM;cases j;exact And.intro trivial hM
instance k_71:Ct prog 71:={h:=@CG}
end Go.Kx
