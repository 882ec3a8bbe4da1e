import Derived.Test.YtlcgibcdiikheaaGreatWa16
import Derived.Test.YtlcgibcdiikheaaGreatWa17
namespace Go.Kx
open Go Go.RowKit Go.Proofs
open Tryz
set_option maxRecDepth 10000
set_option maxHeartbeats 8000000
set_option linter.unusedVariables false
set_option linter.unusedSimpArgs false
theorem Nt {w0 N k ar r} (h:A9 N k ar=some r) {m R n} (Y:R=k.ag.length) (C:rb w0 m n k.ag) {G U p} (Z:U=k.gc.pT.length) (ab:rb w0 G p k.gc.pT) :
    pY prog 218 #[.agg #[vS m R n,vI k.gc.Ve,vI k.gc.Vn,vI k.gc.Vg,vS G U p],vI ar] w0 (fun v w=>∃ x A, ∃ z B,v=.tuple #[.agg #[vS x r.1.ag.length A,vI r.1.gc.Ve,vI r.1.gc.Vn,vI r.1.gc.Vg,vS z r.1.gc.pT.length B],vI r.2]∧St w0 [] w [sl x A r.1.ag,sl z B r.1.gc.pT]):=by
 subst Y Z;unfold A9 at h;refine pY.fn func218 fun e=>?_;have cc:=St.start w0;refine T ?_;intro ay cU ce az cV cf bX cm h cR a2 cS cT cq cg af cr ci ct cj;refine T ?_;intro cI bD h cu aB;refine gc h ?_ ?_<;>intro _ h
 · refine T ?_;intro cv ck;exact rt
 refine rU [1,2,4,6,18] fun e=>?_;refine gc h ?_ ?_<;>intro _ h
 · refine T ?_;intro cJ bE h bZ b7 b0 b8 cw cl cx a7;exact rt
 refine gc h ?_ ?_<;>intro _ h
 · refine T ?_;intro cy a9 cz ba cA bb;exact rt
 refine gb h fun cK ap h=>?_;obtain ⟨av,aD,a3,rfl,bm,bq,bu,rfl,bo⟩:=ab.idx ap;refine go ?_;refine T ?_;have ⟨cL,K,h⟩:=ob h;obtain ⟨X,au,ax,am,an,bc⟩:=aB.B3 (α:=Int) 2 rfl K;refine LW.u (qp.sub (α:=Int) (l:=bX.gc.pT) underlying37 L3 rfl B8 (B1 rfl) K X am an) rfl ?_;refine T ?_;intro cB ai;obtain ⟨aC,ao,aA⟩:=ob h;refine CW.jn [1,2,4,6,8] [0,1,2,3,4] [(67,.bool aC)] ai (h1:=?_) (h2:=?_)
 · have h:=ao;refine gB h ?_ ?_<;>intro _ h
   · refine gb h fun cM aq h=>?_;obtain ⟨b4,cn,a4,rfl,bn,br,bv,⟨b1,b9,b2,ca,b3,cb,rfl,bA,bB,bC⟩,bp⟩:=C.idx aq;refine go ?_;refine T ?_;intro cN bF h cC bd;exact rt
   exact rt
 intro e cD H;have h:=aA;refine gc h ?_ ?_<;>intro _ h
 · refine T ?_;intro cE be;exact rt
 refine gb h fun cO L h=>?_;obtain ⟨aw,aE,hae,bs,bw⟩:=H.qk (α:=j8) (i:=1) rfl L;subst hae;refine go ?_;refine gb h fun cP M h=>?_;refine LW.se 9 H 1 L M (hM:=(rm (fun w cs F hF=>by obtain ⟨bK,bN,bL,bO,bM,bP,rfl,hH⟩:=hF;exact ⟨bK,bN,bL,bO,bM,bP,rfl,hH⟩))) fun cF bf=>?_;refine T ?_;intro V bG h ad ae cG I;refine go ?_;rw [pV (oi M)] at I;obtain ⟨bJ,aa,ah⟩:=ob h;refine CW.ie aa 1 (fun b e wb=>∃ (d:Ad) (g:Nat) (f:Ad) (j:Nat),En e [(1,vI ar),(2,.pointer (some ⟨ay,0,none⟩)),(4,.pointer (some ⟨az,0,none⟩)),(6,.pointer (some ⟨af,0,none⟩)),(77,vS ad V.length ae),(78,vI (V.length:Int)),(79,vI b.1)]∧St w0 [] wb [sl ad ae V,bx af 45 [vS d b.2.1.length g,vI b.2.2.1,vI b.2.2.2.1,vI b.2.2.2.2.1,vS f b.2.2.2.2.2.length j],bx az 45 [vS none 0 0,vI 0,vI 0,vI 0,vS none 0 0],bx ay 45 (qH m n (some ⟨av,aD,none⟩) p k),sl d g b.2.1,sl f j b.2.2.2.2.2]) ?_ ⟨(some ⟨aw,aE,none⟩),a2,au,ax,I.po [0,1,4,5,2,3]⟩ ?_
 · intro b e cH o hM h;obtain ⟨d,g,f,j,hE,J⟩:=hM;obtain ⟨e,rfl⟩:=hE.out;refine rU [1,2,4,6,77,78,79,80] fun e=>?_;refine gc h ?_ ?_<;>intro _ h
   · refine gb h fun cQ O h=>?_;obtain ⟨b5,co,hae,bt,bz⟩:=J.qk (α:=Int) (i:=0) rfl O;subst hae;refine go ?_;obtain ⟨bY,q,bg⟩:=J.freeze (α:=Int) 0 rfl;obtain ⟨b6,cp,a5,hae,aG,_,_,W,aI⟩:=q.rQ.idx O;cases hae;obtain rfl:=W;refine T ?_;have ⟨bU,ac,h⟩:=ob h;obtain ⟨aW,bI,aF,rfl,aH,aK,aL,⟨aR,aX,aS,aY,aT,aZ,rfl,aM,aN,aO⟩,aJ⟩:=C.idx ac;refine go ?_;refine T ?_;intro bV aP h bQ aj;refine CW.fl [1,2,4,6,10,77,78,79,90] fun e=>?_;refine gc h ?_ ?_<;>intro _ h
     · refine T ?_;intro bW aQ h aU a0 aV a1 bR ak;have bi:=ak.qG (α:=Int) 3 rfl q;exact rt
     refine go ?_;have bj:=aj.qG (α:=Int) 0 rfl q;exact rt
   exact rt
 rintro e bS ⟨d,g,f,j,hE,bk⟩;obtain ⟨e,rfl⟩:=hE.out;have h:=ah;refine T ?_;intro bT bl;exact rt
instance k_218:Ct prog 218:=⟨by kernel_rfl,@Nt⟩
theorem wX {w0} {F:List Nat} {N b O R r} (h:so N b O R=some r) {I:Nat} {d m} (U:ra (r7 w0 F) w0 d m b.U9.Vb.Va) {f n} (V:ra (r7 w0 F) w0 f n b.U9.own) {g o} (W:ra (r7 w0 F) w0 g o b.U9.Vd) {j q} (A:ra (r7 w0 F) w0 j q b.U9.U7.ag) {k x} (X:ra (r7 w0 F) w0 k x b.U9.U7.gc.pT) {l z} (Y:ra (r7 w0 F) w0 l z b.U9.pU) (hS:St w0 F w0 [bx I 188 (qC d m f n g o j q k x l z b)]) :
    pY prog 249 #[.pointer (some ⟨I,0,none⟩),vI O,vI R] w0 (fun v w=>v=.tuple #[vI r.1,vI r.2.1]∧St w0 F w [bx I 188 [vS d b.U9.Vb.Va.length m,vS f b.U9.own.length n,vS g b.U9.Vd.length o,vS j b.U9.U7.ag.length q,vI r.2.2.U9.U7.gc.Ve,vI r.2.2.U9.U7.gc.Vn,vI r.2.2.U9.U7.gc.Vg,vS k b.U9.U7.gc.pT.length x,vS l b.U9.pU.length z,vI r.2.2.U9.Vj,vI r.2.2.U9.Vk,vI r.2.2.U9.bh.gE,vI r.2.2.U9.bh.qa,vI r.2.2.U9.bh.qg,vI r.2.2.U9.pZ,vI r.2.2.U9.Vi,vI r.2.2.me,vI r.2.2.Vo,vI r.2.2.qA]]):=by
 unfold so at h;refine pY.fn func249 fun e=>?_;refine T ?_;intro aD au h aA B;refine gc h ?_ ?_<;>intro _ h
 · refine go ?_;replace h:=oi h;subst h;exact Rc tt tt ⟨rfl,B.pk [0]⟩
 refine sf ?_;have aq:=B.drew;refine go ?_;refine jP 1 ?_;refine T ?_;intro aE av h aB C;refine AW.u (i:=6) rfl (by kernel_rfl) rfl rfl (qp.p rfl) ?_;refine gc h ?_ ?_<;>intro _ h
 · refine go ?_;replace h:=oi h;subst h;exact Rc tt tt ⟨rfl,C.pk [0]⟩
 refine sf ?_;have ar:=C.drew;refine T ?_;intro aF aw h aC G;refine gc h ?_ ?_<;>intro _ h
 · refine go ?_;replace h:=oi h;subst h;exact Rc tt tt ⟨rfl,G.pk [0]⟩
 refine gs ?_;obtain ⟨M,J,L⟩:=ob h;refine CW.jn [0,8] [0] [(52,.bool M)] G (h1:=?_) (h2:=?_)
 · have h:=J;refine gB h ?_ ?_<;>intro _ h
   · refine go ?_;refine LW.u (qp.nc rfl) rfl ?_;refine gb h fun az K h=>?_;obtain ⟨am,ax,Z,rfl,aa,ac,ad,⟨ai,an,aj,ao,ak,ap,rfl,ae,af,ah⟩,ab⟩:=A.idx K;refine go ?_;refine T ?_;exact rt
   exact rt
 intro e ay H;have h:=L;refine gc h ?_ ?_<;>intro _ h
 · refine go ?_;replace h:=oi h;subst h;exact Rc tt tt ⟨rfl,H.pk [0]⟩
 refine go ?_;replace h:=oi h;subst h;exact Rc tt tt ⟨rfl,H.pk [0]⟩
instance k_249:Ct prog 249:=⟨by kernel_rfl,@wX⟩
theorem HO {w0} {F:List Nat} {N ak ba a4 k r} (h:xv N ak ba a4 k=some r) {aO:Nat} {q n} (hS:St w0 F w0 [bx aO 26 [vI ak.Vo,vS q ak.parts.length n],sl q n ak.parts]) :
    pY prog 80 #[.pointer (some ⟨aO,0,none⟩),vI ba,vI a4,.agg #[vI k.Vc,vI k.a,vI k.b,vI k.c,vI k.d,vI k.e]] w0 (fun v w=>∃ V af,v=vI r.1∧St w0 F w [bx aO 26 [vI r.2.Vo,vS V r.2.parts.length af],sl V af r.2.parts]):=by
 unfold xv at h;refine pY.fn func80 fun e=>?_;refine C5 hS fun cw cx a6=>?_;refine gb h fun cz a7 h=>?_;refine LW.c0 (uG a7) a6 fun cy av=>?_;refine gc h ?_ ?_<;>intro _ h
 · refine go ?_;replace h:=oi h;subst h;exact Ra ⟨q,n,rfl,av.pk [1,2]⟩
 refine go ?_;refine LW.u (qp.nc rfl) rfl ?_;refine gb h fun cA a8 h=>?_;refine LW.c0 (FY a8 rfl (av.rI 2 rfl)) av fun aD ax=>?_;refine rU [0,2,7,23] fun e=>?_;refine gc h ?_ ?_<;>intro _ h
 · refine go ?_;replace h:=oi h;subst h;exact Ra ⟨q,n,rfl,ax.pk [1,2]⟩
 refine go ?_;refine LW.u (qp.nc rfl) rfl ?_;refine gb h fun g ai h=>?_;obtain ⟨aJ,aN,hae,bt,bw⟩:=ax.qk (α:=cd) (i:=2) rfl ai;subst hae;refine go ?_;refine LW.u (qp.nc rfl) rfl ?_;refine go ?_;obtain ⟨b3,H,aK⟩:=ax.freeze (α:=cd) 2 rfl;obtain ⟨cc,cp,bq,hae,A,_,_,aW,C⟩:=H.rQ.idx ai;cases hae;obtain ⟨J,X,K,Y,L,Z,b4,aa,M,ab,O,ac,rfl,bB,bC,bD,I,bE,bF⟩:=aW;refine LW.l (rh.rR aD DY rfl (C 3 _ rfl)) (aK.zC 2 rfl A) rfl ?_;refine sf ?_;have aL:=aK.drew;refine gb h fun aj a2 h=>?_;refine jO 8 ?_;refine LW.cl (AO a2 rfl (aL.rZ 2 rfl I)) ?_;rintro _ cr ⟨rfl,hs⟩;have p:=aL.add hs;refine jn ?_;refine gs ?_;obtain ⟨a9,aY,a5⟩:=ob h;refine CW.jn [0,7,9,10,11] [0,1,2] [(62,.bool a9)] p (h1:=?_) (h2:=?_)
 · have h:=aY;refine gB h ?_ ?_<;>intro _ h
   · refine gb h fun cv a3 h=>?_;obtain ⟨cf,cq,br,rfl,az,bu,bz,⟨b5,cg,b6,ci,b7,cj,rfl,bG,bI,bJ⟩,aA⟩:=I.idx a3;refine go ?_;refine LW.l (rh.rR aD sW rfl (aA 1 _ rfl)) (p.zC 2 rfl az) rfl ?_;refine gB h ?_ ?_<;>intro _ h
     · refine go ?_;refine LW.l (rh.rR aD yz rfl (aA 12 _ rfl)) (p.zC 2 rfl az) rfl ?_;refine go ?_;cases oi h;exact p.po [0,1,2]
     refine go ?_;cases oi h;exact p.po [0,1,2]
   refine go ?_;cases oi h;exact p.po [0,1,2]
 intro e ct ay;have h:=a5;refine rU [0,7,9,10,11,62] fun e=>?_;refine gc h ?_ ?_<;>intro _ h
 · refine dW ?_;have aM:=ay.drew;refine gb h fun f aC h=>?_;obtain ⟨W,z,bs,rfl,B,bv,bA,⟨R,ad,U,ae,an,ap,rfl,bK,bL,bM⟩,aB⟩:=I.idx aC;refine go ?_;refine AW.tk 6 rfl (rh.rR aD yz rfl (aB 12 _ rfl)) (aM.zC 2 rfl B) ?_;refine go ?_;refine AW.u (i:=9) rfl (by kernel_rfl) rfl rfl (qp.build (vs:=[(0,vI (-1)),(1,vI k.b)]) (cs:=#[vI (-1),vI k.b]) rfl (by kernel_rfl)) ?_;refine jO 10 ?_;refine LW.Ew (α:=qM) (vs:=[(0,.agg #[vI (-1),vI k.b])]) (cs:=#[vI (-1),vI k.b]) (l:=([qM.mk (-1) k.b]:List qM)) rfl (by kernel_rfl) rfl rfl rfl (fun w=>⟨[vI (-1),vI k.b],[],[],[],rfl,rfl,⟨rfl,rfl⟩,rfl⟩) aM rfl ?_;intro b8 ck cu x hf;refine jN (.c (x.ce 1) (.c (x.zC 3 rfl B) jZ)) ?_;have aZ:=fun (j:Nat) (u:Value) (hu:([vS J g.Vb.Va.length X,vS K g.own.length Y,vS L g.Vd.length Z,vS (some ⟨W,z,none⟩) g.U7.ag.length aa,vI g.U7.gc.Ve,vI g.U7.gc.Vn,vI g.U7.gc.Vg,vS M g.U7.gc.pT.length ab,vS O g.pU.length ac,vI g.Vj,vI g.Vk,vI g.bh.gE,vI g.bh.qa,vI g.bh.qg,vI g.pZ,vI g.Vi]:List Value)[j]?=some u)=>(World.cell?_of_block (x.zC 3 rfl A)).trans (C j u hu);have a0:=fun (j:Nat) (u:Value) (hu:((qO R ad U ae an ap f):List Value)[j]?=some u)=>(World.cell?_of_block (x.zC 3 rfl B)).trans (aB j u hu);have aQ:=x.qG (α:=cd) 3 rfl H;obtain ⟨bc,a1,aX⟩:=aQ.focus (α:=cd) (cs:=[vS J g.Vb.Va.length X,vS K g.own.length Y,vS L g.Vd.length Z,vS (some ⟨W,z,none⟩) g.U7.ag.length aa,vI g.U7.gc.Ve,vI g.U7.gc.Vn,vI g.U7.gc.Vg,vS M g.U7.gc.pT.length ab,vS O g.pU.length ac,vI g.Vj,vI g.Vk,vI g.bh.gE,vI g.bh.qa,vI g.bh.qg,vI g.pZ,vI g.Vi]) 3 rfl ai rfl aZ;obtain ⟨b9,cm,ca,cn,cb,co,bd,bk,be,bl,bf,bm,aV,aP⟩:=a1;cases aV;have aR:=aX [sl J X g.Vb.Va,sl K Y g.own,sl L Z g.Vd,sl (some ⟨W,z,none⟩) aa g.U7.ag,sl M ab g.U7.gc.pT,sl O ac g.pU] aP
   obtain ⟨bb,aH,aG⟩:=aR.focus (α:=j8) (cs:=[vI f.Vr,vI f.Vc,vI f.box,vI f.Vp,vI f.qx,vI f.gE,vI f.Vl,vI f.qw,vI f.qq,.bool f.Vm,vS R f.pX.length ad,vS U f.Vh.length ae,vS an f.Vf.length ap]) 3 rfl aC rfl a0;obtain ⟨bg,bn,bi,bo,bj,bp,aF,aE⟩:=aH;cases aF;have aq:=aG [sl R ad f.pX,sl U ae f.Vh,sl an ap f.Vf] aE;have ⟨o,aI,h⟩:=ob h;refine jO 11 ?_;refine LW.sh (l:=f.Vf) (m:=([qM.mk (-1) k.b]:List qM)) zi rfl rfl (aq.rI 9 rfl) aI aq (i:=2) rfl rfl ?_;intro am ao bZ aS hf;refine jn ?_;refine sM 14 ?_;refine LW.zw (α:=j8) (vs:=[vS am o.length ao]) aS 6 rfl yz rfl (by show _=z+(aj:Int).toNat * 13+12;omega) rfl rfl rfl rfl ?_;intro b0 aT hf;refine jn ?_;refine go ?_;replace h:=oi h;subst h;have ar:=aT.vH (j8.mk f.Vr f.Vc f.box f.Vp f.qx f.gE f.Vl f.qw f.qq f.Vm f.pX f.Vh o) [0,1,2,3,4,5,6,7,8,9,10,11,12] 3 3 rfl rfl (fun w G hG=>⟨R,ad,U,ae,am,ao,rfl,hG⟩)
   rw [show g.U7.ag.length=(g.U7.ag.set (aj:Int).toNat (j8.mk f.Vr f.Vc f.box f.Vp f.qx f.gE f.Vl f.qw f.qq f.Vm f.pX f.Vh o)).length from (pV rfl)] at ar;have au:=ar.vH (cd.mk g.Vb g.own g.Vd (qd.mk (g.U7.ag.set (aj:Int).toNat (j8.mk f.Vr f.Vc f.box f.Vp f.qx f.gE f.Vl f.qw f.qq f.Vm f.pX f.Vh o)) g.U7.gc) g.pU g.Vj g.Vk g.bh g.pZ g.Vi) [0,1,2,3,4,5,6,7,8,9] 6 3 rfl rfl (fun w G hG=>⟨J,X,K,Y,L,Z,(some ⟨W,z,none⟩),aa,M,ab,O,ac,rfl,hG⟩)
   rw [show ak.parts.length=(ak.parts.set (a4:Int).toNat (cd.mk g.Vb g.own g.Vd (qd.mk (g.U7.ag.set (aj:Int).toNat (j8.mk f.Vr f.Vc f.box f.Vp f.qx f.gE f.Vl f.qw f.qq f.Vm f.pX f.Vh o)) g.U7.gc) g.pU g.Vj g.Vk g.bh g.pZ g.Vi)).length from (pV rfl)] at au;exact Ra ⟨(some ⟨aJ,aN,none⟩),n,rfl,au.pk [2,3]⟩
 refine go ?_;refine LW.u (qp.nc rfl) rfl ?_;refine go ?_;refine LW.l (rh.rR aD sW rfl (C 15 _ rfl)) (ay.zC 2 rfl A) rfl ?_;refine go ?_;refine LW.u (qp.min rfl rfl) rfl ?_;refine LW.u (qp.nc rfl) rfl ?_;refine go ?_;have aU:=ay.qG (α:=cd) 2 rfl H;have ⟨b2,ah,h⟩:=ob h;refine LW.se 15 aU 2 ai ah (hM:=(rm (fun w cs F hF=>by obtain ⟨bN,bT,bO,bU,bP,bV,bQ,bW,bR,bX,bS,bY,rfl,hH⟩:=hF;exact ⟨bN,bT,bO,bU,bP,bV,bQ,bW,bR,bX,bS,bY,rfl,hH⟩))) fun b1 aw=>?_;refine go ?_;replace h:=oi h;subst h;rw [pV (oi ah)] at aw;exact Ra ⟨(some ⟨aJ,aN,none⟩),n,rfl,aw.pk [1,2]⟩
instance k_80:Ct prog 80:=⟨by kernel_rfl,@HO⟩
theorem J8 {w0 N l o p i r} (h:yY N l o p i=some r) {b f d} (g:f=l.length) (q:rb w0 b d l) :
    pY prog 326 #[vS b f d,vI o,vI p,.agg #[vI i.gE,vI i.qa,vI i.qg]] w0 (fun v w=>∃ j k,v=.tuple #[vS j r.1.length k,.bool r.2]∧St w0 [] w [sl j k r.1]):=by
 subst g;unfold yY at h;refine pY.fn func326 fun e=>?_;have J:=St.start w0;refine T ?_;intro ae af K ai U h ac ad ah m;obtain ⟨B,n,u⟩:=ob h;refine CW.jn [0,2,7,10] [0,1] [(26,.bool B)] m (h1:=?_) (h2:=?_)
 · have h:=n;refine gB h ?_ ?_<;>intro _ h
   · exact rt
   refine T ?_;intro Z x h V L;exact rt
 intro e W M;have h:=u;refine gc h ?_ ?_<;>intro _ h
 · refine T ?_;intro aa z h C H X O;exact rt
 refine T ?_;intro ab A h G I Y R;exact rt
instance k_326:Ct prog 326:=⟨by kernel_rfl,@J8⟩
theorem Hj {w0} {F:List Nat} {N b L r} (h:wD N b L=some r) {A:Nat} {d l} (M:ra (r7 w0 F) w0 d l b.U9.Vb.Va) {f m} (O:ra (r7 w0 F) w0 f m b.U9.own) {g n} (R:ra (r7 w0 F) w0 g n b.U9.Vd) {i o} (x:ra (r7 w0 F) w0 i o b.U9.U7.ag) {j p} (U:ra (r7 w0 F) w0 j p b.U9.U7.gc.pT) {k q} (V:ra (r7 w0 F) w0 k q b.U9.pU) (hS:St w0 F w0 [bx A 188 (qC d l f m g n i o j p k q b)]) :
    pY prog 257 #[.pointer (some ⟨A,0,none⟩),vI L] w0 (fun v w=>v=.tuple #[vI r.1,vI r.2.1]∧St w0 F w [bx A 188 [vS d b.U9.Vb.Va.length l,vS f b.U9.own.length m,vS g b.U9.Vd.length n,vS i b.U9.U7.ag.length o,vI r.2.2.U9.U7.gc.Ve,vI r.2.2.U9.U7.gc.Vn,vI r.2.2.U9.U7.gc.Vg,vS j b.U9.U7.gc.pT.length p,vS k b.U9.pU.length q,vI r.2.2.U9.Vj,vI r.2.2.U9.Vk,vI r.2.2.U9.bh.gE,vI r.2.2.U9.bh.qa,vI r.2.2.U9.bh.qg,vI r.2.2.U9.pZ,vI r.2.2.U9.Vi,vI r.2.2.me,vI r.2.2.Vo,vI r.2.2.qA]]):=by
 unfold wD at h;refine pY.fn func257 fun e=>?_;refine sf ?_;have ak:=hS.drew;refine gb h fun aE J h=>?_;obtain ⟨aC,aD,ai,rfl,ap,ar,au,⟨ab,ae,ac,af,ad,ah,rfl,W,X,Y⟩,aq⟩:=x.idx J;refine go ?_;refine T ?_;intro aj av am aw u;refine gc h ?_ ?_<;>intro _ h
 · refine sf ?_;have G:=u.drew;refine go ?_;replace h:=oi h;subst h;exact Rc tt tt ⟨rfl,G.pk [1]⟩
 refine gc h ?_ ?_<;>intro _ h
 · refine sf ?_;have H:=u.drew;refine go ?_;replace h:=oi h;subst h;exact Rc tt tt ⟨rfl,H.pk [1]⟩
 refine gs ?_;refine CW.region ?_;refine gs ?_;obtain ⟨K,B,C⟩:=ob h;refine CW.jn [0,1] [1] [(28,.bool K)] u (h1:=?_) (h2:=?_)
 · have h:=B;refine gc h ?_ ?_<;>intro _ h
   · exact rt
   refine gc h ?_ ?_<;>intro _ h
   · exact rt
   exact rt
 intro e ax z;have h:=C;refine gc h ?_ ?_<;>intro _ h
 · refine sf ?_;have an:=z.drew;refine go ?_;refine jP 8 ?_;refine T ?_;intro aA Z h ay ao aB aa h az I;replace h:=oi h;subst h;exact Rc tt tt ⟨rfl,I.pk [0]⟩
 refine go ?_;replace h:=oi h;subst h;exact Rc tt tt ⟨rfl,z.pk [0]⟩
instance k_257:Ct prog 257:=⟨by kernel_rfl,@Hj⟩
theorem zI {w0 N m n r} (h:vJ N m n=some r) {b i f} (k:i=m.parts.length) (o:rb w0 b f m.parts) {d j g} (l:j=n.parts.length) (p:rb w0 d g n.parts) :
    pY prog 23 #[.agg #[vI m.Vo,vS b i f],.agg #[vI n.Vo,vS d j g]] w0 (fun v w=>v=.bool r∧St w0 [] w []):=by
 subst k l;unfold vJ at h;refine pY.fn func23 fun e=>?_;have q:=St.start w0;refine T ?_;intro B G u C H x;refine gc h ?_ ?_<;>intro _ h
 · exact rt
 refine T ?_;intro J A h I z;refine CW.fl [15] fun e=>?_;refine gc h ?_ ?_<;>intro _ h
 · exact rt
 exact rt
instance k_23:Ct prog 23:=⟨by kernel_rfl,@zI⟩
end Go.Kx
