import Derived.Test.YtlcgibcdiikheaaGreatWa21
namespace Go.Kx
open Go Go.RowKit Go.Proofs
open Go.IntKind (i64)
open Tryz
set_option maxRecDepth 10000
set_option maxHeartbeats 8000000
set_option linter.unusedVariables false
set_option linter.unusedSimpArgs false
theorem GS {w0} {F:List Nat} {N g I r} (h:vp N g I=some r) {ak:Nat} {m z} (aD:ra (r7 w0 F) w0 m z g.U9.Vb.Va) {n A} (aE:ra (r7 w0 F) w0 n A g.U9.own) {o B} (aF:ra (r7 w0 F) w0 o B g.U9.Vd) {p k q C} (aG:ra (r7 w0 F) w0 q C g.U9.U7.gc.pT) {x H} (aH:ra (r7 w0 F) w0 x H g.U9.pU) (hS:St w0 F w0 [bx ak 188 [vS m g.U9.Vb.Va.length z,vS n g.U9.own.length A,vS o g.U9.Vd.length B,vS p g.U9.U7.ag.length k,vI g.U9.U7.gc.Ve,vI g.U9.U7.gc.Vn,vI g.U9.U7.gc.Vg,vS q g.U9.U7.gc.pT.length C,vS x g.U9.pU.length H,vI g.U9.Vj,vI g.U9.Vk,vI g.U9.bh.gE,vI g.U9.bh.qa,vI g.U9.bh.qg,vI g.U9.pZ,vI g.U9.Vi,vI g.me,vI g.Vo,vI g.qA],sl p k g.U9.U7.ag]) :
    pY prog 158 #[.pointer (some ⟨ak,0,none⟩),.agg #[vI I.Vc,vI I.a,vI I.b,vI I.c,vI I.d,vI I.e]] w0 (fun v w=>∃ L W,v=.tuple #[vI r.1,vI r.2.1]∧St w0 F w [bx ak 188 [vS m g.U9.Vb.Va.length z,vS n g.U9.own.length A,vS o g.U9.Vd.length B,vS L r.2.2.U9.U7.ag.length W,vI r.2.2.U9.U7.gc.Ve,vI r.2.2.U9.U7.gc.Vn,vI r.2.2.U9.U7.gc.Vg,vS q g.U9.U7.gc.pT.length C,vS x g.U9.pU.length H,vI r.2.2.U9.Vj,vI r.2.2.U9.Vk,vI r.2.2.U9.bh.gE,vI r.2.2.U9.bh.qa,vI r.2.2.U9.bh.qg,vI r.2.2.U9.pZ,vI r.2.2.U9.Vi,vI r.2.2.me,vI r.2.2.Vo,vI r.2.2.qA],sl L W r.2.2.U9.U7.ag]):=by
 unfold vp at h;refine pY.fn func158 fun e=>?_;refine T ?_;intro bo bp ba aZ bd h bq ab;refine CW.fl [0,3,6,7,17] fun e=>?_;refine gc h ?_ ?_<;>intro _ h
 · refine go ?_;replace h:=oi h;subst h;exact Rc tt tt ⟨p,k,rfl,ab.pk [0,2]⟩
 refine go ?_;refine LW.u (qp.nc rfl) rfl ?_;refine gb h fun f ah h=>?_;obtain ⟨M,X,hae,bc,aS⟩:=ab.qk (α:=j8) (i:=2) rfl ah;subst hae;refine go ?_;obtain ⟨a0,l,bb⟩:=ab.freeze (α:=j8) 2 rfl;obtain ⟨a5,be,aJ,hae,ap,_,_,ar,av⟩:=l.rQ.idx ah;cases hae;obtain ⟨J,R,a1,U,K,V,rfl,aV,ad,aW⟩:=ar;refine T ?_;intro bk aX h bg ai;refine CW.fl [0,3,8,35] fun e=>?_;refine gc h ?_ ?_<;>intro _ h
 · refine go ?_;replace h:=oi h;subst h;have az:=ai.qG (α:=j8) 2 rfl l;exact Rc tt tt ⟨(some ⟨M,X,none⟩),k,rfl,az.pk [0,2]⟩
 refine gc h ?_ ?_<;>intro _ h
 · refine sf ?_;have aA:=ai.drew;refine gb h fun bl ay h=>?_;obtain ⟨a6,bf,aK,rfl,aM,aQ,aT,rfl,aO⟩:=ad.idx ay;refine go ?_;refine T ?_;replace h:=oi h;subst h;have aB:=aA.qG (α:=j8) 2 rfl l;exact Rc tt tt ⟨(some ⟨M,X,none⟩),k,rfl,aB.pk [0,2]⟩
 refine T ?_;intro bm aY h bi ac;refine gc h ?_ ?_<;>intro _ h
 · refine go ?_;replace h:=oi h;subst h;have aC:=ac.qG (α:=j8) 2 rfl l;exact Rc tt tt ⟨(some ⟨M,X,none⟩),k,rfl,aC.pk [0,2]⟩
 refine gb h fun bn ae h=>?_;obtain ⟨O,Y,aL,rfl,aN,aR,aU,rfl,aP⟩:=ad.idx ae;refine go ?_;have aw:=fun (j:Nat) (u:Value) (hu:([vI f.Vr,vI f.Vc,vI f.box,vI f.Vp,vI f.qx,vI f.gE,vI f.Vl,vI f.qw,vI f.qq,.bool f.Vm,vS J f.pX.length R,vS (some ⟨O,Y,none⟩) f.Vh.length U,vS K f.Vf.length V]:List Value)[j]?=some u)=>(World.cell?_of_block (ac.zC 2 rfl ap)).trans (av j u hu);have an:=ac.qG (α:=j8) 2 rfl l;obtain ⟨aI,ax,au⟩:=an.focus (α:=j8) (cs:=[vI f.Vr,vI f.Vc,vI f.box,vI f.Vp,vI f.qx,vI f.gE,vI f.Vl,vI f.qw,vI f.qq,.bool f.Vm,vS J f.pX.length R,vS (some ⟨O,Y,none⟩) f.Vh.length U,vS K f.Vf.length V]) 2 rfl ah rfl aw;obtain ⟨a2,a7,a3,a8,a4,a9,aq,am⟩:=ax;cases aq;have ao:=au [sl J R f.pX,sl (some ⟨O,Y,none⟩) U f.Vh,sl K V f.Vf] am;have ⟨aj,af,h⟩:=ob h;refine LW.se 0 ao 1 ae af (hM:=A1) fun bj Z=>?_;refine go ?_;replace h:=oi h;subst h;rw [pV (oi af)] at Z;have aa:=Z.vH (j8.mk f.Vr f.Vc f.box f.Vp f.qx f.gE f.Vl f.qw f.qq f.Vm f.pX aj f.Vf) [0,1,2,3,4,5] 3 2 rfl rfl (fun w G hG=>⟨J,R,(some ⟨O,Y,none⟩),U,K,V,rfl,hG⟩)
 rw [show g.U9.U7.ag.length=(g.U9.U7.ag.set (aZ.1:Int).toNat (j8.mk f.Vr f.Vc f.box f.Vp f.qx f.gE f.Vl f.qw f.qq f.Vm f.pX aj f.Vf)).length from (pV rfl)] at aa;exact Rc tt tt ⟨(some ⟨M,X,none⟩),k,rfl,aa.pk [0,2]⟩
instance k_158:Ct prog 158:=⟨by kernel_rfl,@GS⟩
theorem Gv {w0} {F:List Nat} {N j g r} (h:wB N j g=some r) {Y:Nat} {B I} (aS:ra (r7 w0 F) w0 B I j.U9.Vb.Va) {C J} (aT:ra (r7 w0 F) w0 C J j.U9.own) {O R k m l n G K} (aU:ra (r7 w0 F) w0 G K j.U9.pU) (hS:St w0 F w0 [bx Y 188 (qC B I C J O R k m l n G K j),sl O R j.U9.Vd,sl k m j.U9.U7.ag,sl l n j.U9.U7.gc.pT]) :
    pY prog 251 #[.pointer (some ⟨Y,0,none⟩),.agg #[vI g.Vc,vI g.a,vI g.b,vI g.c,vI g.d,vI g.e]] w0 (fun v w=>∃ Z ac, ∃ aa ad, ∃ ab ae,v=.tuple #[vI r.1,vI r.2.1]∧St w0 F w [bx Y 188 [vS B j.U9.Vb.Va.length I,vS C j.U9.own.length J,vS Z r.2.2.U9.Vd.length ac,vS aa r.2.2.U9.U7.ag.length ad,vI r.2.2.U9.U7.gc.Ve,vI r.2.2.U9.U7.gc.Vn,vI r.2.2.U9.U7.gc.Vg,vS ab r.2.2.U9.U7.gc.pT.length ae,vS G j.U9.pU.length K,vI r.2.2.U9.Vj,vI r.2.2.U9.Vk,vI r.2.2.U9.bh.gE,vI r.2.2.U9.bh.qa,vI r.2.2.U9.bh.qg,vI r.2.2.U9.pZ,vI r.2.2.U9.Vi,vI r.2.2.me,vI r.2.2.Vo,vI r.2.2.qA],sl Z ac r.2.2.U9.Vd,sl aa ad r.2.2.U9.U7.ag,sl ab ae r.2.2.U9.U7.gc.pT]):=by
 unfold wB at h;refine pY.fn func251 fun e=>?_;refine T ?_;intro aM cj an;obtain ⟨bo,aR,aW⟩:=ob h;refine CW.jn [0,3] [0,1,2,3,4] [(42,.bool bo)] an (h1:=?_) (h2:=?_)
 · have h:=aR;refine dW ?_;have bG:=an.drew;refine T ?_;intro cm bM h ck bI;refine bH h ?_ ?_<;>intro _ h
   · exact rt
   refine T ?_;intro cn bN h cl bJ;refine bH h ?_ ?_<;>intro _ h
   · exact rt
   refine T ?_;intro ca bf h bQ bK;refine bH h ?_ ?_<;>intro _ h
   · exact rt
   refine gB h ?_ ?_<;>intro _ h
   · exact rt
   refine T ?_;intro cb bg h bR bL;exact rt
 intro e bS aP;have h:=aW;refine gc h ?_ ?_<;>intro _ h
 · refine go ?_;replace h:=oi h;subst h;exact Rc tt tt ⟨O,R,k,m,l,n,rfl,aP.pk [1,2,3,4]⟩
 refine T ?_;intro M bj h bT aQ;refine CW.fl [0,3,6,7,51] fun e=>?_;refine gc h ?_ ?_<;>intro _ h
 · refine go ?_;replace h:=oi h;subst h;exact Rc tt tt ⟨O,R,k,m,l,n,rfl,aQ.pk [0,2,3,4]⟩
 refine rX [(0,vI g.c),(1,vI (i64.wrap (g.c * g.d)))] #[vI g.c,vI (i64.wrap (g.c * g.d)),vI 0] ?_;refine T ?_;intro f bk h H L bU ao;refine CW.fl [0,3,6,65] fun e=>?_;refine gc h ?_ ?_<;>intro _ h
 · refine go ?_;replace h:=oi h;subst h;exact Rc tt tt ⟨H,L,k,m,l,n,rfl,ao.pk [0,1,3,4]⟩
 refine gs ?_;obtain ⟨o,aE,aN⟩:=ob h;refine CW.cut (fun e wb=>∃ (A:Nat) (p:Ad) (x:Nat) (U:Ad) (V:Nat) (q:Ad) (z:Nat),En e [(0,.pointer (some ⟨Y,0,none⟩)),(3,.pointer (some ⟨aM,0,none⟩)),(8,.pointer (some ⟨A,0,none⟩))]∧St w0 F wb [bx Y 188 [vS B j.U9.Vb.Va.length I,vS C j.U9.own.length J,vS H f.2.U9.Vd.length L,vS k j.U9.U7.ag.length m,vI f.2.U9.U7.gc.Ve,vI f.2.U9.U7.gc.Vn,vI f.2.U9.U7.gc.Vg,vS l j.U9.U7.gc.pT.length n,vS G j.U9.pU.length K,vI f.2.U9.Vj,vI f.2.U9.Vk,vI f.2.U9.bh.gE,vI f.2.U9.bh.qa,vI f.2.U9.bh.qg,vI f.2.U9.pZ,vI f.2.U9.Vi,vI f.2.me,vI f.2.Vo,vI f.2.qA],sl H L f.2.U9.Vd,bx aM 28 (qL g),sl k m j.U9.U7.ag,sl l n j.U9.U7.gc.pT,bx A 101 [vI 0,vI g.a,vI M.1,vI g.e,vI (i64.wrap (f.2.Vo+g.d)),vI g.c,vI 0,vI 0,vI 0,.bool false,vS p o.1.length x,vS U o.2.1.length V,vS q o.2.2.length z],sl p x o.1,sl U V o.2.1,sl q z o.2.2]) ?_ ?_
 · have h:=aE;refine dW ?_;have aq:=ao.drew;refine go ?_;refine AW.all (rs:=[14,16]) (by kernel_rfl) (by simp) ⟨?_,?_,trivial⟩
   · refine oA ?_;refine LW.bi [-1, -1] aq ?_;intro ai ak bV aX hf;refine T ?_;refine AW.u (i:=15) rfl (by kernel_rfl) rfl rfl (qp.build (vs:=[(1,vI g.a),(2,vI M.1),(3,vI g.e),(4,vI (i64.wrap (f.2.Vo+g.d))),(5,vI g.c),(10,vS ai (([-1, -1]:List Int).length) ak)]) (cs:=#[vI 0,vI g.a,vI M.1,vI g.e,vI (i64.wrap (f.2.Vo+g.d)),vI g.c,vI 0,vI 0,vI 0,.bool false,vS ai (([-1, -1]:List Int).length) ak,vS none 0 0,vS none 0 0]) rfl (by kernel_rfl)) ?_;refine T ?_;intro bE bW aY bX ar;have au:=ar.nil (α:=Int);have aZ:=au.nil (α:=qM);exact rt
   refine oA ?_;refine T ?_;intro bF bY av;refine jP 14 ?_;refine LW.bi [-1, -1] av ?_;intro aj am bZ a0 hf;refine T ?_;refine AW.u (i:=15) rfl (by kernel_rfl) rfl rfl (qp.build (vs:=[(1,vI g.a),(2,vI M.1),(3,vI g.e),(4,vI (i64.wrap (f.2.Vo+g.d))),(5,vI g.c),(10,vS aj (([-1, -1]:List Int).length) am)]) (cs:=#[vI 0,vI g.a,vI M.1,vI g.e,vI (i64.wrap (f.2.Vo+g.d)),vI g.c,vI 0,vI 0,vI 0,.bool false,vS aj (([-1, -1]:List Int).length) am,vS none 0 0,vS none 0 0]) rfl (by kernel_rfl)) ?_;refine T ?_;intro b0 aw;have ax:=aw.nil (α:=Int);have a1:=ax.nil (α:=qM);exact rt
 rintro e b1 ⟨A,p,x,U,V,q,z,hE,ay⟩;obtain ⟨e,rfl⟩:=hE.out;have h:=aN;refine gs ?_;refine CW.region ?_;refine gs ?_;obtain ⟨ap,aF,aO⟩:=ob h;refine CW.cut (fun e wb=>∃ (W:Ad) (X:Nat),En e [(0,.pointer (some ⟨Y,0,none⟩)),(8,.pointer (some ⟨A,0,none⟩))]∧St w0 F wb [bx Y 188 [vS B j.U9.Vb.Va.length I,vS C j.U9.own.length J,vS H f.2.U9.Vd.length L,vS k j.U9.U7.ag.length m,vI f.2.U9.U7.gc.Ve,vI f.2.U9.U7.gc.Vn,vI f.2.U9.U7.gc.Vg,vS l j.U9.U7.gc.pT.length n,vS G j.U9.pU.length K,vI f.2.U9.Vj,vI f.2.U9.Vk,vI f.2.U9.bh.gE,vI f.2.U9.bh.qa,vI f.2.U9.bh.qg,vI f.2.U9.pZ,vI f.2.U9.Vi,vI f.2.me,vI f.2.Vo,vI f.2.qA],sl H L f.2.U9.Vd,sl k m j.U9.U7.ag,sl l n j.U9.U7.gc.pT,bx A 101 [vI 0,vI g.a,vI M.1,vI g.e,vI (i64.wrap (f.2.Vo+g.d)),vI g.c,vI 0,vI 0,vI 0,.bool false,vS p o.1.length x,vS W ap.length X,vS q o.2.2.length z],sl p x o.1,sl q z o.2.2,sl W X ap]) ?_ ?_
 · have h:=aF;refine gc h ?_ ?_<;>intro _ h
   · refine gb h fun cc aH h=>?_;refine LW.mk xN rfl rfl aH ay rfl ?_;intro bq bz b2 a2 hf;refine T ?_;intro b3 a3;exact rt
   exact rt
 rintro e b4 ⟨W,X,hE,az⟩;obtain ⟨e,rfl⟩:=hE.out;have h:=aO;refine sf ?_;have a4:=az.drew;refine T ?_;intro ce bl h br bA b5 aA;refine gc h ?_ ?_<;>intro _ h
 · refine go ?_;replace h:=oi h;subst h;exact Rc tt tt ⟨H,L,k,m,l,n,rfl,aA.pk [1,2,3,4]⟩
 refine go ?_;refine LW.u (qp.nc rfl) rfl ?_;refine T ?_;intro b6 a5;refine LW.u (qp.nc rfl) rfl ?_;refine T ?_;intro cf bm h aI aK aJ aL b7 a6;refine LW.u (qp.nc rfl) rfl ?_;refine T ?_;intro b8 aB;refine dW ?_;have af:=aB.drew;refine gb h fun cg ah h=>?_;obtain ⟨bv,bO,hae,ba,bb⟩:=af.qk (α:=j8) (i:=2) rfl ah;subst hae;refine go ?_;obtain ⟨bp,aG,a7⟩:=af.freeze (α:=j8) 2 rfl;obtain ⟨bw,bP,aV,hae,a8,_,_,aD,a9⟩:=aG.rQ.idx ah;cases hae;obtain ⟨bs,bB,bt,bC,bu,bD,rfl,bc,bd,be⟩:=aD;refine T ?_;intro ci bn h b9 aC;replace h:=oi h;subst h;exact Rc tt tt ⟨H,L,aI,aK,aJ,aL,rfl,aC.pk [3,4,0,1]⟩
instance k_251:Ct prog 251:=⟨by kernel_rfl,@Gv⟩
end Go.Kx
