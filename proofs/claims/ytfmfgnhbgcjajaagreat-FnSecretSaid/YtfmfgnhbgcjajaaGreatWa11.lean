import Derived.Test.YtfmfgnhbgcjajaaGreatWa7
import Derived.Test.YtfmfgnhbgcjajaaGreatWa8
namespace Go.Kx
open Go Go.RowKit Go.Proofs
open Go.IntKind (i64)
open Tryz
set_option maxRecDepth 10000
set_option maxHeartbeats 8000000
set_option linter.unusedVariables false
set_option linter.unusedSimpArgs false
theorem IF{w0}{F:List Nat}{N q O bB g r}(h:sM N q O bB g=some r){ak aJ k}(aW:aJ=q.parts.length)(hS:St w0 F w0 [sl ak k q.parts]):
    di prog 183 #[.agg #[vI q.RB,vS ak aJ k],vI O,vI bB,.agg (uL g)] w0 (fun v w=>∃ae af,v=.tuple #[.agg #[vI r.1.RB,vS ae r.1.parts.length af],.agg #[vI r.2.code,vI r.2.RI]]/\St w0 F w [sl ae af r.1.parts]):=by
 subst aW;unfold sM at h;refine di.fn func183 fun e=>?_;refine T ?_;intro bC _ _ _ _ _ _ _ _ _ _ _;refine gc h ?_ ?_<;>intro _ h
 · refine fm [(0,vI 2)] #[vI 2,vI 0] ?_;exact wk
 refine go ?_;refine LW.u (dL.quo rfl rfl (by decide)) rfl ?_;refine go ?_;refine LW.u (dL.rem rfl rfl (by decide)) rfl ?_;refine fm [(0,vI g.a),(1,vI g.b),(2,vI g.c),(3,vI (i64.wrap (Int.tdiv g.d 10))),(4,vI (Int.tmod g.d 10)),(5,vI g.e)] #[vI g.a,vI g.b,vI g.c,vI (i64.wrap (Int.tdiv g.d 10)),vI (Int.tmod g.d 10),vI g.e] ?_;refine T ?_;intro _ _ _ _ _;refine T ?_;intro _ _ h _ bA;refine gc h ?_ ?_<;>intro _ h
 · refine fm [(0,vI 2)] #[vI 2,vI 0] ?_;exact wk
 refine fA ?_;have aw:=bA.drew;refine gb h fun f p h=>?_;obtain⟨H,o,rfl,_,_⟩:=aw.dA (α:=bh) (i:=5) rfl p;refine go ?_;obtain⟨_,j,_⟩:=aw.freeze (α:=bh) 5 rfl;obtain⟨_,_,_,n,Y,_,_,bt,Z⟩:=j.fe.idx p;cases n;obtain⟨x,I,z,J,A,K,B,L,C,M,ap,av,rfl,_,_,_,_,_,aa⟩:=bt;refine T ?_;refine go ?_;refine T ?_;have⟨_,aI,h⟩:=ob h;obtain⟨_,_,n,_,_⟩:=j.dA aI;cases n;refine go ?_;obtain⟨_,_,_,n,_,_,_,bu,_⟩:=j.fe.idx aI;cases n;obtain⟨_,_,_,_,_,_,_,_,_,_,_,_,rfl,_,_,_,_,_,_⟩:=bu;refine T ?_;intro _ _ h _ a8;refine gc h ?_ ?_<;>intro _ h
 · refine fm [(0,vI 3)] #[vI 3,vI 0] ?_;refine T ?_;intro _ _ _ a9;cases h;have R:=a9.dZ (α:=bh) 5 rfl j;exact Rc (dE.b R 2 rfl qN rfl rfl) (dE.b R 1 rfl jt rfl rfl) ⟨(some ⟨H,o,none⟩),k,rfl,R.pk [5]⟩
 refine fA ?_;have:=a8.drew;refine go ?_;refine T ?_;intro _ _ h _ ax;refine gc h ?_ ?_<;>intro _ h
 · refine fm [(0,vI 6)] #[vI 6,vI 0] ?_;refine T ?_;intro _ _ _ ba;cases h;have U:=ba.dZ (α:=bh) 5 rfl j;exact Rc (dE.b U 2 rfl qN rfl rfl) (dE.b U 1 rfl jt rfl rfl) ⟨(some ⟨H,o,none⟩),k,rfl,U.pk [5]⟩
 refine go ?_;refine T ?_;refine gc h ?_ ?_<;>intro _ h
 · refine fm [(0,vI 7)] #[vI 7,vI 0] ?_;refine T ?_;intro _ _ _ bb;cases h;have V:=bb.dZ (α:=bh) 5 rfl j;exact Rc (dE.b V 2 rfl qN rfl rfl) (dE.b V 1 rfl jt rfl rfl) ⟨(some ⟨H,o,none⟩),k,rfl,V.pk [5]⟩
 refine gs ?_;obtain⟨a7,bv,bz⟩:=ob h;refine CW.j0 [1,4,8,9] [1,2] [] [bx bC 40 [vI q.RB,vS (some ⟨H,o,none⟩) a7.length k],sl (some ⟨H,o,none⟩) k a7] ax ?_ ?_
 · have h:=bv;refine dW ?_;have ay:=ax.drew;refine go ?_;refine T ?_;refine AW.all (rs:=[3,12]) (by kernel_rfl) (by simp) ⟨?_,?_,trivial⟩
   · refine oA ?_;refine LW.b0 (α:=ef) ay ?_;intro _ _ _ W hf;refine T ?_;have⟨aK,ai,h⟩:=ob h;refine AW.all (rs:=[10,12]) (by kernel_rfl) (by simp) ⟨?_,?_,trivial⟩
     · refine oA ?_;refine LW.fM (l:=([]:List ef)) (m:=f.db) tU rfl rfl (W.rZ 6 rfl aa) ai W (i:=0) rfl rfl ?_;intro _ _ _ bc hf;refine T ?_;refine LW.wX (α:=ef) (vs:=[(0,.agg #[vI g.a,vI g.b,vI g.c,vI (i64.wrap (Int.tdiv g.d 10)),vI (Int.tmod g.d 10),vI g.e])]) (cs:=#[vI g.a,vI g.b,vI g.c,vI (i64.wrap (Int.tdiv g.d 10)),vI (Int.tmod g.d 10),vI g.e]) (l:=([ef.mk g.a g.b g.c (i64.wrap (Int.tdiv g.d 10)) (Int.tmod g.d 10) g.e]:List ef)) rfl (by kernel_rfl) rfl rfl rfl (fun w=>⟨[vI g.a,vI g.b,vI g.c,vI (i64.wrap (Int.tdiv g.d 10)),vI (Int.tmod g.d 10),vI g.e],[],[],[],rfl,rfl,⟨rfl,rfl⟩,rfl⟩) bc rfl ?_;intro _ _ _ az hf;refine T ?_;have⟨ab,a3,h⟩:=ob h;refine T ?_;refine LW.fM (l:=aK) (m:=([ef.mk g.a g.b g.c (i64.wrap (Int.tdiv g.d 10)) (Int.tmod g.d 10) g.e]:List ef)) tU rfl rfl (az.rI 0 rfl) a3 az (i:=1) rfl rfl ?_;intro am aq _ aA hf;refine T ?_;refine go ?_;have aX:=aA.mU 7 Y Z;have bd:=aA.dZ (α:=bh) 7 rfl j;obtain⟨_,a0,aT⟩:=bd.mZ 7 p aX;obtain⟨_,_,_,_,_,_,_,_,_,_,_,_,aP,aM⟩:=a0;cases aP;have be:=aT [sl x I f.Rp.Ro,sl z J f.own,sl A K f.Rr,sl B L f.py.ag,sl C M f.py.gc.da,sl ap av f.db] aM;refine T ?_;refine LW.wh (α:=bh) (vs:=[vS am ab.length aq]) be 13 rfl Ap rfl (by show _=o+(O:Int).toNat*16+8;omega) rfl rfl rfl rfl ?_;intro _ bf hf;refine T ?_;have bg:=bf.mb (bh.mk f.Rp f.own f.Rr f.py ab f.RA f.Rz f.dc f.du f.Rx) [0,1,2,3,4,7,5,6,8,9,10,11,12,13] 6 7 rfl rfl (fun w G hG=>⟨x,I,z,J,A,K,B,L,C,M,am,aq,rfl,hG⟩);rw[show q.parts.length=(q.parts.set (O:Int).toNat (bh.mk f.Rp f.own f.Rr f.py ab f.RA f.Rz f.dc f.du f.Rx)).length from(dx rfl)]at bg;exact rt
     refine oA ?_;refine LW.wX (α:=ef) (vs:=[(0,.agg #[vI g.a,vI g.b,vI g.c,vI (i64.wrap (Int.tdiv g.d 10)),vI (Int.tmod g.d 10),vI g.e])]) (cs:=#[vI g.a,vI g.b,vI g.c,vI (i64.wrap (Int.tdiv g.d 10)),vI (Int.tmod g.d 10),vI g.e]) (l:=([ef.mk g.a g.b g.c (i64.wrap (Int.tdiv g.d 10)) (Int.tmod g.d 10) g.e]:List ef)) rfl (by kernel_rfl) rfl rfl rfl (fun w=>⟨[vI g.a,vI g.b,vI g.c,vI (i64.wrap (Int.tdiv g.d 10)),vI (Int.tmod g.d 10),vI g.e],[],[],[],rfl,rfl,⟨rfl,rfl⟩,rfl⟩) W rfl ?_;intro _ _ _ aB hf;refine T ?_;refine jP 10 ?_;refine LW.fM (l:=([]:List ef)) (m:=f.db) tU rfl rfl (aB.rZ 7 rfl aa) ai aB (i:=1) rfl rfl ?_;intro _ _ _ aC hf;refine T ?_;have⟨ac,a4,h⟩:=ob h;refine T ?_;refine LW.fM (l:=aK) (m:=([ef.mk g.a g.b g.c (i64.wrap (Int.tdiv g.d 10)) (Int.tmod g.d 10) g.e]:List ef)) tU rfl rfl (aC.rI 0 rfl) a4 aC (i:=1) rfl rfl ?_;intro an ar _ aD hf;refine T ?_;refine go ?_;have aY:=aD.mU 7 Y Z;have bi:=aD.dZ (α:=bh) 7 rfl j;obtain⟨_,a1,aU⟩:=bi.mZ 7 p aY;obtain⟨_,_,_,_,_,_,_,_,_,_,_,_,aQ,aN⟩:=a1;cases aQ;have bj:=aU [sl x I f.Rp.Ro,sl z J f.own,sl A K f.Rr,sl B L f.py.ag,sl C M f.py.gc.da,sl ap av f.db] aN;refine T ?_;refine LW.wh (α:=bh) (vs:=[vS an ac.length ar]) bj 13 rfl Ap rfl (by show _=o+(O:Int).toNat*16+8;omega) rfl rfl rfl rfl ?_;intro _ bk hf;refine T ?_;have bl:=bk.mb (bh.mk f.Rp f.own f.Rr f.py ac f.RA f.Rz f.dc f.du f.Rx) [0,1,2,3,4,7,5,6,8,9,10,11,12,13] 6 7 rfl rfl (fun w G hG=>⟨x,I,z,J,A,K,B,L,C,M,an,ar,rfl,hG⟩);rw[show q.parts.length=(q.parts.set (O:Int).toNat (bh.mk f.Rp f.own f.Rr f.py ac f.RA f.Rz f.dc f.du f.Rx)).length from(dx rfl)]at bl;exact rt
   refine oA ?_;refine LW.wX (α:=ef) (vs:=[(0,.agg #[vI g.a,vI g.b,vI g.c,vI (i64.wrap (Int.tdiv g.d 10)),vI (Int.tmod g.d 10),vI g.e])]) (cs:=#[vI g.a,vI g.b,vI g.c,vI (i64.wrap (Int.tdiv g.d 10)),vI (Int.tmod g.d 10),vI g.e]) (l:=([ef.mk g.a g.b g.c (i64.wrap (Int.tdiv g.d 10)) (Int.tmod g.d 10) g.e]:List ef)) rfl (by kernel_rfl) rfl rfl rfl (fun w=>⟨[vI g.a,vI g.b,vI g.c,vI (i64.wrap (Int.tdiv g.d 10)),vI (Int.tmod g.d 10),vI g.e],[],[],[],rfl,rfl,⟨rfl,rfl⟩,rfl⟩) ay rfl ?_;intro _ _ _ bm hf;refine T ?_;refine jP 3 ?_;refine LW.b0 (α:=ef) bm ?_;intro _ _ _ aE hf;refine T ?_;have⟨bw,a5,h⟩:=ob h;refine jP 10 ?_;refine LW.fM (l:=([]:List ef)) (m:=f.db) tU rfl rfl (aE.rZ 7 rfl aa) a5 aE (i:=0) rfl rfl ?_;intro _ _ _ aF hf;refine T ?_;have⟨ad,a6,h⟩:=ob h;refine T ?_;refine LW.fM (l:=bw) (m:=([ef.mk g.a g.b g.c (i64.wrap (Int.tdiv g.d 10)) (Int.tmod g.d 10) g.e]:List ef)) tU rfl rfl (aF.rI 1 rfl) a6 aF (i:=0) rfl rfl ?_;intro ao au _ aG hf;refine T ?_;refine go ?_;have aZ:=aG.mU 7 Y Z;have bn:=aG.dZ (α:=bh) 7 rfl j;obtain⟨_,a2,aV⟩:=bn.mZ 7 p aZ;obtain⟨_,_,_,_,_,_,_,_,_,_,_,_,aR,aO⟩:=a2;cases aR;have bo:=aV [sl x I f.Rp.Ro,sl z J f.own,sl A K f.Rr,sl B L f.py.ag,sl C M f.py.gc.da,sl ap av f.db] aO;refine T ?_;refine LW.wh (α:=bh) (vs:=[vS ao ad.length au]) bo 13 rfl Ap rfl (by show _=o+(O:Int).toNat*16+8;omega) rfl rfl rfl rfl ?_;intro _ bp hf;refine T ?_;have bq:=bp.mb (bh.mk f.Rp f.own f.Rr f.py ad f.RA f.Rz f.dc f.du f.Rx) [0,1,2,3,4,6,5,7,8,9,10,11,12,13] 6 7 rfl rfl (fun w G hG=>⟨x,I,z,J,A,K,B,L,C,M,ao,au,rfl,hG⟩);rw[show q.parts.length=(q.parts.set (O:Int).toNat (bh.mk f.Rp f.own f.Rr f.py ad f.RA f.Rz f.dc f.du f.Rx)).length from(dx rfl)]at bq;exact rt
 intro e _ br;have h:=bz;refine fA ?_;have aH:=br.drew;refine gb h fun aL aj h=>?_;obtain⟨_,_,n,_,_⟩:=aH.dA (α:=bh) (i:=3) rfl aj;cases n;refine go ?_;obtain⟨_,ah,_⟩:=aH.freeze (α:=bh) 3 rfl;obtain⟨_,_,_,n,_,_,_,aS,_⟩:=ah.fe.idx aj;cases n;obtain⟨_,_,_,_,_,_,_,_,_,_,_,_,rfl,_,_,_,_,_,_⟩:=aS;refine T ?_;refine AW.u (i:=9) rfl (by kernel_rfl) rfl rfl (dL.build (vs:=[(1,vI (i64.wrap ((aL.db.length:Int)-1)))]) (cs:=#[vI 0,vI (i64.wrap ((aL.db.length:Int)-1))]) rfl (by kernel_rfl)) ?_;refine T ?_;intro _ _ _ bs;cases h;have X:=bs.dZ (α:=bh) 3 rfl ah;exact Rc (dE.b X 1 rfl qN rfl rfl) (dE.b X 0 rfl jt rfl rfl) ⟨(some ⟨H,o,none⟩),k,rfl,X.pk [3]⟩
instance k_183:Ct prog 183:={h:=@IF}
theorem zA{w0 N ay az l r}(h:qU N ay az l=some r){p Y A}(ac:Y=ay.length)(n:rb w0 p A ay):
    di prog 214 #[vS p Y A,vI az,.agg (uT l)] w0 (fun v w=>∃ae af,v=.tuple #[vS ae r.1.length af,vI r.2]/\St w0 [] w [sl ae af r.1]):=by
 subst ac;unfold qU at h;refine di.fS func214 fun e _=>?_;refine T ?_;intro ab _ _ ad _ h _ j _ ah;obtain⟨aF,aB,aE⟩:=ob h;refine CW.jn [0,1,5,8] [0,1] [(50,.bool aF)] ah (h1:=?_) (h2:=?_)
 · have h:=aB;refine dW ?_;have:=ah.drew;refine T ?_;intro _ _ h _ _;refine bH h ?_ ?_<;>intro _ h
   · exact rt
   refine T ?_;intro _ _ h _ _;refine bH h ?_ ?_<;>intro _ h
   · exact rt
   refine T ?_;intro _ _ h _ _;refine bH h ?_ ?_<;>intro _ h
   · exact rt
   refine gB h ?_ ?_<;>intro _ h
   · exact rt
   refine gb h fun _ av h=>?_;obtain⟨_,_,_,rfl,_,_,_,⟨_,_,rfl,_⟩,_⟩:=n.idx av;exact wk
 intro e _ aA;have h:=aE;refine gc h ?_ ?_<;>intro _ h
 · exact rt
 refine fA ?_;have:=aA.drew;refine gb h fun _ aw h=>?_;obtain⟨_,_,_,rfl,_,_,_,⟨_,_,rfl,au⟩,_⟩:=n.idx aw;refine go ?_;refine T ?_;have⟨_,ax,h⟩:=ob h;obtain⟨_,_,_,rfl,_,_,_,rfl,_⟩:=au.idx ax;refine go ?_;refine T ?_;intro ai _ h _ _ b _ h _ _ m _ _ _ am;refine dW ?_;have:=am.drew;refine go ?_;refine T ?_;intro Z _ h q B _ H;have⟨aC,W,h⟩:=ob h;obtain⟨f,d,rfl,_,_⟩:=H.dA (α:=dJ) (i:=2) rfl W;refine go ?_;have an:=H.pk (M:=[sl q B Z.1]++[bx m 33 [vI b.cd,vI b.dg,vI b.dn],sl (some ⟨f,d,none⟩) j ad,bx ab 87 (qT l)]) [0,1,2,3];have⟨aj,g,h⟩:=ob h;refine LW.uR (M:=[sl q B Z.1]) (L:=[bx m 33 [vI b.cd,vI b.dg,vI b.dn],sl (some ⟨f,d,none⟩) j ad,bx ab 87 (qT l)]) (z:=aC) (z':=(dJ.mk Z.1)) (o:=0) an (i:=1) rfl W yk rfl (by show _=d+(az:Int).toNat*1+0;omega) rfl rfl rfl rfl (whole (fun w G hG=>⟨q,B,rfl,hG⟩)) ?_;intro _ I hf;rw[oi g]at I;refine fA ?_;have J:=I.drew;refine gb h fun aD k h=>?_;obtain⟨_,_,O,U,V⟩:=J.dA (α:=dJ) (i:=1) rfl k;cases O;(try refine AW.ux (i:=3) (by decide +kernel) rfl (by kernel_rfl) rfl rfl (dL.ix underlying168 yU rfl rfl U (by rw[dx (oi g)];exact V)) ?_);refine go ?_;obtain⟨_,R,_⟩:=J.freeze (α:=dJ) 1 rfl;obtain⟨_,_,_,O,_,_,_,ar,_⟩:=R.fe.idx k;cases O;obtain⟨_,_,rfl,_⟩:=ar;refine T ?_;intro aa _ h x C _ ao;refine CW.fl [0,5,8,9,13,99] fun e=>?_;refine gc h ?_ ?_<;>intro _ h
 · exact wk
 refine go ?_;(try refine LW.u (dL.ix underlying168 yU rfl rfl U (by rw[dx (oi g)];exact V)) rfl ?_);refine go ?_;have ap:=ao.dZ (α:=dJ) 2 rfl R;have aq:=ap.pk (M:=[sl x C aa.1]++[bx m 33 [vI b.cd,vI b.dg,vI b.dn],sl (some ⟨f,d,none⟩) j aj,bx ab 87 (qT l)]) [0,1,2,3];have⟨ak,X,h⟩:=ob h;refine LW.uR (M:=[sl x C aa.1]) (L:=[bx m 33 [vI b.cd,vI b.dg,vI b.dn],sl (some ⟨f,d,none⟩) j aj,bx ab 87 (qT l)]) (z:=aD) (z':=(dJ.mk aa.1)) (o:=0) aq (i:=1) rfl k yk rfl (by show _=d+(l.eP:Int).toNat*1+0;omega) rfl rfl rfl rfl (whole (fun w G hG=>⟨x,C,rfl,hG⟩)) ?_;intro _ K hf;rw[oi X]at K;refine go ?_;replace h:=oi h;subst h;exact Rc tt tt ⟨(some ⟨f,d,none⟩),j,(show(.tuple #[vS (some ⟨f,d,none⟩) ad.length j,vI ai]:Value)=.tuple #[vS (some ⟨f,d,none⟩) ak.length j,vI ai] by rw[show ad.length=ak.length from((dx (oi g)).trans (dx (oi X)))]),K.pk [1]⟩
instance k_214:Ct prog 214:={h:=@zA}
theorem Eu{w0}{F:List Nat}{N d aL aM ap r}(h:ql N d aL aM ap=some r){f aa l}(ai:aa=d.Rp.Ro.length){g ab m}(aj:ab=d.own.length){q ac u}(ak:ac=d.Rr.length){X ad n}(am:ad=d.py.ag.length){j ae o}(an:ae=d.py.gc.da.length){k af p}(ao:af=d.db.length)(hS:St w0 F w0 [sl f l d.Rp.Ro,sl g m d.own,sl q u d.Rr,sl X n d.py.ag,sl j o d.py.gc.da,sl k p d.db]):
    di prog 229 #[.agg (uP f aa l g ab m q ac u X ad n j ae o k af p d),vI aL,vI aM,.agg (uL ap)] w0 (fun v w=>∃G M H O I R J U K V L W,v=.tuple #[.agg (uP G r.1.Rp.Ro.length M H r.1.own.length O I r.1.Rr.length R J r.1.py.ag.length U K r.1.py.gc.da.length V L r.1.db.length W r.1),.agg #[vI r.2.code,vI r.2.RI]]/\St w0 F w [sl G M r.1.Rp.Ro,sl H O r.1.own,sl I R r.1.Rr,sl J U r.1.py.ag,sl K V r.1.py.gc.da,sl L W r.1.db]):=by
 subst ai aj ak am an ao;unfold ql at h;refine di.fn func229 fun e=>?_;refine T ?_;intro _ _ _ _ _ _ _ _ _ _ _ _ aN _ h _ aq;refine CW.fl [4,7,8,9,10,11,28] fun e=>?_;refine gc h ?_ ?_<;>intro _ h
 · refine fm [(0,vI aN.2)] #[vI aN.2,vI 0] ?_;exact wk
 refine gb h fun ar C h=>?_;obtain⟨Y,ah,rfl,_,_⟩:=aq.dA (α:=c6) (i:=7) rfl C;refine go ?_;obtain⟨_,z,_⟩:=aq.freeze (α:=c6) 7 rfl;obtain⟨_,_,_,aI,_,_,_,aB,_⟩:=z.fe.idx C;cases aI;obtain⟨_,_,_,_,_,_,rfl,_,_,_⟩:=aB;refine T ?_;intro _ _ _ _ au;obtain⟨aJ,aC,aG⟩:=ob h;refine CW.jn [4,7,8,9,10,12] [0,1,2,3,4,5,6,7,8,9,10] [(53,.bool aJ)] au (h1:=?_) (h2:=?_)
 · have h:=aC;exact wk
 intro e _ _;have h:=aG;refine gc h ?_ ?_<;>intro _ h
 · refine fm [(0,vI 2)] #[vI 2,vI 0] ?_;refine T ?_;intro _ _ _ av;cases h;have A:=av.dZ (α:=c6) 8 rfl z;exact Rc (dE.b A 2 rfl iE rfl rfl) (dE.b A 1 rfl jt rfl rfl) ⟨f,l,g,m,q,u,(some ⟨Y,ah,none⟩),n,j,o,k,p,rfl,A.pk [5,6,7,8,9,10]⟩
 refine fm [(1,vI (i64.wrap (ar.cd*ap.b)))] #[vI 0,vI (i64.wrap (ar.cd*ap.b)),vI 0] ?_;refine T ?_;intro _ _ _ _ aw;refine dW ?_;have:=aw.drew;refine go ?_;refine jP 5 ?_;refine T ?_;intro _ _ h _ _ _ _ h aE aF _ _ _ _ h _ _;refine T ?_;intro _ _ _ _ ax;obtain⟨aK,aD,aH⟩:=ob h;refine CW.jn [4,7,8,9,10,12,14,16] [0,1,3,4,5,6,7,8,9,10,11,12,13] [(85,.bool aK)] ax (h1:=?_) (h2:=?_)
 · have h:=aD;exact wk
 intro e _ _;have h:=aH;refine gc h ?_ ?_<;>intro _ h
 · refine fm [(0,vI 6)] #[vI 6,vI 0] ?_;refine T ?_;intro _ _ _ ay;cases h;have B:=ay.dZ (α:=c6) 10 rfl z;exact Rc (dE.b B 4 rfl iE rfl rfl) (dE.b B 3 rfl jt rfl rfl) ⟨f,l,g,m,q,u,(some ⟨Y,ah,none⟩),n,j,o,k,p,rfl,B.pk [7,8,9,10,11,12]⟩
 refine T ?_;intro _ _ _ az;refine go ?_;have aA:=az.dZ (α:=c6) 10 rfl z;have⟨_,Z,h⟩:=ob h;refine LW.se 4 aA 10 C Z (hM:=(fK (fun w cs F hF=>by obtain⟨aO,aR,aP,aS,aQ,aT,rfl,hH⟩:=hF;exact⟨aO,aR,aP,aS,aQ,aT,rfl,hH⟩))) fun _ _=>?_;refine fm [] #[vI 0,vI 0] ?_;refine T ?_;intro _ _ _ x;cases h;rw[dx (oi Z)]at x;exact Rc (dE.b x 4 rfl iE rfl rfl) (dE.b x 3 rfl jt rfl rfl) ⟨f,l,g,m,aE,aF,(some ⟨Y,ah,none⟩),n,j,o,k,p,rfl,x.pk [7,8,1,10,11,12]⟩
instance k_229:Ct prog 229:={h:=@Eu}
theorem IJ{w0 N n r}(h:tF N n=some r){f i g}(j:i=n.length)(k:rb w0 f g n):
    di prog 87 #[vS f i g] w0 (fun v w=>v=.agg #[vI r.cd,vI r.dg,vI r.dn]/\St w0 [] w []):=by
 subst j;unfold tF at h;refine di.fS func87 fun e _=>?_;refine T ?_;intro _ _ _;refine LW.bd [] #[vI 0,vI 0,vI 0] ?_;refine T ?_;intro u _ _ _ l;refine go ?_;obtain⟨_,m,p⟩:=ob h;refine CW.i0 m 0 [0,2,3] [1] (fun b=>[(4,vI b.1)]) (fun b=>[bx u 33 [vI b.2.1,vI b.2.2.1,vI b.2.2.2]]) l ?_ ?_ ?_
 · exact l.po [1,0]
 · intro b e _ o _ h;refine gc h ?_ ?_<;>intro _ h
   · refine gb h fun _ q h=>?_;obtain⟨_,_,_,rfl,_,_,_,⟨_,_,_,_,_,_,_,_,_,_,_,_,rfl,_,_,_,_,_,_⟩,_⟩:=k.idx q;refine go ?_;refine T ?_;intro d _ h _ _ _ _ _ _ _;refine LW.bd [(0,vI (i64.wrap (b.2.1+d.cd))),(1,vI (i64.wrap (b.2.2.1+d.dg))),(2,vI (i64.wrap (b.2.2.2+d.dn)))] #[vI (i64.wrap (b.2.1+d.cd)),vI (i64.wrap (b.2.2.1+d.dg)),vI (i64.wrap (b.2.2.2+d.dn))] ?_;exact wk
   exact rt
 intro e _ _;have h:=p;exact wk
instance k_87:Ct prog 87:={h:=@IJ}
theorem AM{w0}{F:List Nat}{N b ad r}(h:m6 N b ad=some r){H:Nat}{l p}(ae:dX (eJ w0 F) w0 l p b.Rn.Rp.Ro){m q}(af:dX (eJ w0 F) w0 m q b.Rn.own){n x}(ah:dX (eJ w0 F) w0 n x b.Rn.Rr){k f d g o z}(ai:dX (eJ w0 F) w0 o z b.Rn.db)(hS:St w0 F w0 [bx H 183 [vS l b.Rn.Rp.Ro.length p,vS m b.Rn.own.length q,vS n b.Rn.Rr.length x,vS k b.Rn.py.ag.length f,vI b.Rn.py.gc.Ru,vI b.Rn.py.gc.RD,vI b.Rn.py.gc.Rv,vS d b.Rn.py.gc.da.length g,vS o b.Rn.db.length z,vI b.Rn.RA,vI b.Rn.Rz,vI b.Rn.dc.cd,vI b.Rn.dc.dg,vI b.Rn.dc.dn,vI b.Rn.du,vI b.Rn.Rx,vI b.me,vI b.RB,vI b.dS],sl k f b.Rn.py.ag,sl d g b.Rn.py.gc.da]):
    di prog 204 #[.pointer (some ⟨H,0,none⟩),.agg (uL ad)] w0 (fun v w=>∃A C B G,v=vI r.1/\St w0 F w [bx H 183 [vS l b.Rn.Rp.Ro.length p,vS m b.Rn.own.length q,vS n b.Rn.Rr.length x,vS A r.2.Rn.py.ag.length C,vI r.2.Rn.py.gc.Ru,vI r.2.Rn.py.gc.RD,vI r.2.Rn.py.gc.Rv,vS B r.2.Rn.py.gc.da.length G,vS o b.Rn.db.length z,vI r.2.Rn.RA,vI r.2.Rn.Rz,vI r.2.Rn.dc.cd,vI r.2.Rn.dc.dg,vI r.2.Rn.dc.dn,vI r.2.Rn.du,vI r.2.Rn.Rx,vI r.2.me,vI r.2.RB,vI r.2.dS],sl A C r.2.Rn.py.ag,sl B G r.2.Rn.py.gc.da]):=by
 unfold m6 at h;refine di.fn func204 fun e=>?_;refine T ?_;intro _ _ _ aq _ h _ L;refine CW.fl [0,3,5,6,16] fun e=>?_;refine gc h ?_ ?_<;>intro _ h
 · refine go ?_;replace h:=oi h;subst h;exact Ra ⟨k,f,d,g,rfl,L.pk [0,2,3]⟩
 refine gc h ?_ ?_<;>intro _ h
 · refine go ?_;replace h:=oi h;subst h;exact Ra ⟨k,f,d,g,rfl,L.pk [0,2,3]⟩
 refine gs ?_;refine CW.region ?_;refine gs ?_;refine CW.region ?_;refine gs ?_;obtain⟨ac,aa,K⟩:=ob h;refine CW.cut (fun e wb=>∃j,ac=.inl j/\En e [(0,.pointer (some ⟨H,0,none⟩)),(5,vI aq.1),(7,vI j.1)]/\St w0 F wb [bx H 183 [vS l b.Rn.Rp.Ro.length p,vS m b.Rn.own.length q,vS n b.Rn.Rr.length x,vS k b.Rn.py.ag.length f,vI j.2.1,vI j.2.2.1,vI j.2.2.2.1,vS d b.Rn.py.gc.da.length g,vS o b.Rn.db.length z,vI j.2.2.2.2.1,vI j.2.2.2.2.2.1,vI j.2.2.2.2.2.2.1,vI j.2.2.2.2.2.2.2.1,vI j.2.2.2.2.2.2.2.2.1,vI j.2.2.2.2.2.2.2.2.2.1,vI j.2.2.2.2.2.2.2.2.2.2.1,vI j.2.2.2.2.2.2.2.2.2.2.2.1,vI j.2.2.2.2.2.2.2.2.2.2.2.2.1,vI j.2.2.2.2.2.2.2.2.2.2.2.2.2],sl k f b.Rn.py.ag,sl d g b.Rn.py.gc.da]) ?_ ?_
 · have h:=aa;refine gc h ?_ ?_<;>intro _ h
   · refine T ?_;intro _ _ h _ Y;refine CW.fl [0,5,6,7,31] fun e=>?_;refine gc h ?_ ?_<;>intro _ h
     · refine go ?_;cases h;have h:=K;replace h:=oi h;subst h;exact Ra ⟨k,f,d,g,rfl,Y.pk [0,2,3]⟩
     exact rt
   exact rt
 rintro e _ ⟨j,rfl,hM⟩;obtain⟨e,rfl,M⟩:=eo hM;have h:=K;refine go ?_;refine LW.u (dL.nc rfl) rfl ?_;refine gb h fun _ I h=>?_;obtain⟨V,ab,rfl,_,_⟩:=M.dA (α:=c6) (i:=1) rfl I;refine go ?_;refine gb h fun _ J h=>?_;refine LW.se 2 M 1 I J (hM:=(fK (fun w cs F hF=>by obtain⟨aj,an,ak,ao,am,ap,rfl,hH⟩:=hF;exact⟨aj,an,ak,ao,am,ap,rfl,hH⟩))) fun _ O=>?_;refine gf [0,5,44] fun e=>?_;refine gc h ?_ ?_<;>intro _ h
 · refine go ?_;refine LW.u (dL.nc rfl) rfl ?_;refine T ?_;intro _ _ h R W U X _ _;refine LW.u (dL.nc rfl) rfl ?_;refine T ?_;intro _ Z;replace h:=oi h;subst h;exact Ra ⟨R,W,U,X,rfl,Z.pk [2,0,1]⟩
 refine go ?_;replace h:=oi h;subst h;rw[dx (oi J)]at O;exact Ra ⟨(some ⟨V,ab,none⟩),f,d,g,rfl,O.pk [0,1,2]⟩
instance k_204:Ct prog 204:={h:=@AM}
theorem DE{w0 N J r}(h:mJ N J=some r){l n m}(p:n=J.length)(q:rb w0 l m J):
    di prog 195 #[vS l n m] w0 (fun v w=>∃x A,v=vS x r.length A/\St w0 [] w [sl x A r]):=by
 subst p;unfold mJ at h;refine di.fS func195 fun e O=>?_;refine go ?_;refine LW.b0 (α:=dJ) O ?_;intro X Y _ C hf;refine go ?_;obtain⟨_,H,K⟩:=ob h;refine CW.i2 H 0 [7,8] [] (fun k (b:Ad) (d:Nat)=>[(3,vS b k.1.length d),(9,vI k.2)]) (fun k b d=>[sl b d k.1]) C ?_ ?_ ?_
 · exact⟨X,Y,C.po [0]⟩
 · intro k e b d _ o _ h;refine gc h ?_ ?_<;>intro _ h
   · refine gb h fun W V h=>?_;obtain⟨_,_,_,rfl,_,_,_,⟨u,z,rfl,_⟩,_⟩:=q.idx V;refine go ?_;refine T ?_;intro B _ _ _ _ j _ h f g _ R;refine LW.bd [(0,vS f j.length g)] #[vS f j.length g] ?_;have U:=R.pk (M:=[sl f g j]++[bx B 170 [vS u W.RH.length z],sl b d k.1]) [0,1,2];have⟨_,I,h⟩:=ob h;refine LW.fZ (M:=[sl f g j]) (L:=[bx B 170 [vS u W.RH.length z],sl b d k.1]) (vs:=#[vS f j.length g]) (i:=1) M4 rfl (by kernel_rfl) rfl rfl I U rfl (fun w G hG=>⟨f,g,rfl,hG⟩) rfl rfl ?_;intro _ _ _ _ _ hf;exact rt
   exact rt
 intro e b d _ _;have h:=K;exact rt
instance k_195:Ct prog 195:={h:=@DE}
theorem AT{w0 N b r}(h:kl N b=some r){d A l}(J:A=b.Rp.Ro.length)(af:rb w0 d l b.Rp.Ro){f B m}(K:B=b.own.length)(ah:rb w0 f m b.own){g C n}(L:C=b.Rr.length)(ai:rb w0 g n b.Rr){i G p}(M:G=b.py.ag.length)(aj:rb w0 i p b.py.ag){j H q}(O:H=b.py.gc.da.length)(ak:rb w0 j q b.py.gc.da){k I z}(R:I=b.db.length)(U:rb w0 k z b.db):
    di prog 93 #[.agg (uP d A l f B m g C n i G p j H q k I z b)] w0 (fun v w=>v=.bool r/\St w0 [] w []):=by
 subst J K L M O R;unfold kl at h;refine di.fS func93 fun e _=>?_;refine T ?_;intro _ _ aa;refine go ?_;obtain⟨W,Y,V⟩:=ob h;refine CW.mono (CW.lx [1,6,7] [0] [1] 0 (fun ae=>[(8,vI ae)]) (RT prog f93.results (fun u=>.bool u) w0 []) aa Y (hb:=?_)) ?_
 · intro ae e _ o _ h;refine gc h ?_ ?_<;>intro _ h
   · refine gb h fun _ ac h=>?_;obtain⟨_,_,_,rfl,_,_,_,rfl,_⟩:=U.idx ac;refine go ?_;refine T ?_;intro _ _ _ _ _ _ _ h _ _;refine CW.fl [1,6,7,8,14] fun e=>?_;exact wk
   exact rt
 intro x e _ hM;rcases W with W|_
 · obtain⟨rfl,hM⟩:=hM;obtain⟨e,rfl,ab⟩:=eo hM;have h:=V;refine gs ?_;obtain⟨ad,X,Z⟩:=ob h;refine CW.jn [1] [0] [(43,.bool ad)] ab (h1:=?_) (h2:=?_)
   · have h:=X;exact wk
   intro e _ _;have h:=Z;exact wk
 obtain⟨rfl,u,rfl,hM⟩:=hM;cases V;exact And.intro trivial hM
instance k_93:Ct prog 93:={h:=@AT}
theorem zN{w0 N j r}(h:lZ N j=some r){b f d}(g:f=j.parts.length)(i:rb w0 b d j.parts):
    di prog 44 #[.agg #[vI j.RB,vS b f d]] w0 (fun v w=>v=.bool r/\St w0 [] w []):=by
 subst g;unfold lZ at h;refine di.fS func44 fun e _=>?_;refine T ?_;intro _ _ q;obtain⟨C,A,B⟩:=ob h;refine CW.jn [1] [0] [(14,.bool C)] q (h1:=?_) (h2:=?_)
 · have h:=A;exact wk
 intro e _ z;have h:=B;refine gc h ?_ ?_<;>intro _ h
 · exact rt
 refine go ?_;obtain⟨l,n,k⟩:=ob h;refine CW.mono (CW.lx [1] [0] [1] 0 (fun m=>[(3,vI m)]) (RT prog f44.results (fun u=>.bool u) w0 []) z n (hb:=?_)) ?_
 · intro m e _ o _ h;refine gc h ?_ ?_<;>intro _ h
   · refine gb h fun _ p h=>?_;obtain⟨_,_,_,rfl,_,_,_,⟨_,_,_,_,_,_,_,_,_,_,_,_,rfl,_,_,_,_,_,_⟩,_⟩:=i.idx p;refine go ?_;refine T ?_;intro _ _ h _ _;refine CW.fl [1,3,28] fun e=>?_;exact wk
   exact rt
 intro x e _ hM;rcases l with l|_
 · obtain⟨rfl,hM⟩:=hM;obtain⟨e,rfl,_⟩:=eo hM;have h:=k;exact wk
 obtain⟨rfl,u,rfl,hM⟩:=hM;cases k;exact And.intro trivial hM
instance k_44:Ct prog 44:={h:=@zN}
theorem BX{w0}{F:List Nat}{N g K z r}(h:nI N g K z=some r){d q b}(x:q=g.length)(hS:St w0 F w0 [sl d b g]):
    di prog 209 #[vS d q b,vI K,vI z] w0 (fun v w=>∃A B,v=vS A r.length B/\St w0 F w [sl A B r]):=by
 subst x;unfold nI at h;refine di.fn func209 fun e=>?_;refine gb h fun _ n h=>?_;have f:=(hS.rI 0 rfl).le;refine LW.u (dL.Qu (α:=ef) (l:=g) underlying52 Aa rfl rfl rfl rfl n f) rfl ?_;refine gc h ?_ ?_<;>intro C h
 · exact rt
 refine fA ?_;have I:=hS.drew;refine gb h fun L o h=>?_;obtain⟨_,_,G,H⟩:∃(a':Ad) (c':Nat),a'=lL d b ((0:Int).toNat) (dp.sz ef)/\c'=b-(0:Int).toNat:=⟨_,_,rfl,rfl⟩;refine AW.u (i:=2) rfl (by kernel_rfl) rfl rfl (dL.sub (α:=ef) (l:=g) underlying52 Aa rfl tq (sL rfl) o f G H) ?_;refine gb h fun M p h=>?_;obtain⟨_,_,j,m⟩:∃(a':Ad) (c':Nat),a'=lL d b ((z:Int).toNat) (dp.sz ef)/\c'=b-(z:Int).toNat:=⟨_,_,rfl,rfl⟩;refine AW.u (i:=5) rfl (by kernel_rfl) rfl rfl (dL.sub (α:=ef) (l:=g) underlying52 Aa rfl (sL rfl) tq p f j m) ?_;refine T ?_;refine LW.QX tU I (k:=0) rfl n C o p rfl G H rfl j m rfl ?_;intro _ J;refine T ?_;have:=NL n C o p;refine LW.u (dL.QS (α:=ef) underlying52 Aa rfl rfl rfl (by omega) (by omega) (by omega)) rfl ?_;refine LW.Rb (l:=(L++M)) tU J (k:=0) rfl rfl (by omega) (by omega) ?_;intro _ _;exact rt
instance k_209:Ct prog 209:={h:=@BX}
theorem GD{w0 N f az r}(h:ni N f az=some r){j I q}(V:I=f.Rp.Ro.length)(aA:rb w0 j q f.Rp.Ro){k J u}(W:J=f.own.length)(aB:rb w0 k u f.own){l K x}(X:K=f.Rr.length)(aC:rb w0 l x f.Rr){m O z}(Y:O=f.py.ag.length)(ab:rb w0 m z f.py.ag){n R A}(Z:R=f.py.gc.da.length)(aD:rb w0 n A f.py.gc.da){p U B}(aa:U=f.db.length)(aE:rb w0 p B f.db):
    di prog 163 #[.agg (uP j I q k J u l K x m O z n R A p U B f),vI az] w0 (fun v w=>∃ac ad,v=vS ac r.length ad/\St w0 [] w [sl ac ad r]):=by
 subst V W X Y Z aa;unfold ni at h;refine di.fS func163 fun e _=>?_;refine T ?_;intro aH _ ar;refine LW.b0 (α:=Int) ar ?_;intro aF aG _ _ hf;refine T ?_;intro _ _ h _ _;refine gc h ?_ ?_<;>intro _ h
 · exact rt
 refine T ?_;intro _ _ h _ _ _ ae;refine go ?_;obtain⟨_,ak,aq⟩:=ob h;refine CW.i2 ak 0 [2,17,18] [0,2] (fun g (b:Ad) (d:Nat)=>[(5,vS b g.1.length d),(19,vI g.2)]) (fun g b d=>[sl b d g.1]) ae ?_ ?_ ?_
 · exact⟨aF,aG,ae.po [0,2,1]⟩
 · intro g e b d ay o af h;refine gf [2,5,17,18,19,20] fun e=>?_;refine gc h ?_ ?_<;>intro _ h
   · refine gb h fun _ H h=>?_;obtain⟨_,_,rfl,_,_⟩:=af.dA (α:=Bool) (i:=0) rfl H;refine go ?_;obtain⟨ao,C,au⟩:=af.freeze (α:=Bool) 0 rfl;obtain⟨_,_,_,aw,_,_,_,ai,_⟩:=C.fe.idx H;cases aw;obtain rfl:=ai;refine T ?_;obtain⟨ax,aj,ap⟩:=ob h;refine CW.jn [2,5,6,17,18,19] [0,1,2] [(34,.bool ax)] au (h1:=?_) (h2:=?_)
     · have h:=aj;refine gB h ?_ ?_<;>intro _ h
       · refine gb h fun _ am h=>?_;obtain⟨_,_,_,rfl,_,_,_,⟨_,_,_,_,_,_,rfl,_,_,_⟩,_⟩:=ab.idx am;refine go ?_;refine T ?_;exact rt
       exact rt
     intro e _ ah;have h:=ap;refine gc h ?_ ?_<;>intro _ h
     · refine gb h fun _ an h=>?_;refine LW.fZ (M:=[]) (L:=[fz ay ao,bx aH 54 (qP j q k u l x m z n A p B f),sl b d g.1]) (vs:=#[vI g.2]) (i:=2) lH rfl (by kernel_rfl) rfl rfl an ah rfl (fun w G hG=>by cases(show G=[] from hG);exact⟨rfl,rfl⟩) rfl rfl ?_;intro _ _ _ _ av hf;refine go ?_;have:=av.dZ (α:=Bool) 0 rfl C;exact rt
     refine go ?_;have:=ah.dZ (α:=Bool) 0 rfl C;exact rt
   exact rt
 intro e b d _ _;have h:=aq;exact rt
instance k_163:Ct prog 163:={h:=@GD}
end Go.Kx
