import Derived.Test.YtlcgibcdiikheaaGreatWa37
import Derived.Test.YtlcgibcdiikheaaGreatWa43
namespace Go.Kx
open Go Go.RowKit Go.Proofs
open Go.IntKind (i64)
open Tryz
set_option maxRecDepth 10000
set_option maxHeartbeats 8000000
set_option linter.unusedVariables false
set_option linter.unusedSimpArgs false
theorem AE {w0} {F:List Nat} {N g I r} (h:nH N g I=some r) {ak:Nat} {m z} (aD:iR (jo w0 F) w0 m z g.Py.PB.PA) {n A} (aE:iR (jo w0 F) w0 n A g.Py.own) {o B} (aF:iR (jo w0 F) w0 o B g.Py.PC) {p k q C} (aG:iR (jo w0 F) w0 q C g.Py.py.gc.hZ) {x H} (aH:iR (jo w0 F) w0 x H g.Py.ia) (hS:St w0 F w0 [bx ak 188 [vS m g.Py.PB.PA.length z,vS n g.Py.own.length A,vS o g.Py.PC.length B,vS p g.Py.py.ag.length k,vI g.Py.py.gc.PD,vI g.Py.py.gc.PL,vI g.Py.py.gc.PF,vS q g.Py.py.gc.hZ.length C,vS x g.Py.ia.length H,vI g.Py.PJ,vI g.Py.PI,vI g.Py.hY.bh,vI g.Py.hY.ib,vI g.Py.hY.ij,vI g.Py.ik,vI g.Py.PH,vI g.me,vI g.PQ,vI g.jb],sl p k g.Py.py.ag]) :
    iq prog 158 #[.pointer (some ⟨ak,0,none⟩),.agg #[vI I.Pz,vI I.a,vI I.b,vI I.c,vI I.d,vI I.e]] w0 (fun v w=>∃ L W,v=.tuple #[vI r.1,vI r.2.1]∧St w0 F w [bx ak 188 [vS m g.Py.PB.PA.length z,vS n g.Py.own.length A,vS o g.Py.PC.length B,vS L r.2.2.Py.py.ag.length W,vI r.2.2.Py.py.gc.PD,vI r.2.2.Py.py.gc.PL,vI r.2.2.Py.py.gc.PF,vS q g.Py.py.gc.hZ.length C,vS x g.Py.ia.length H,vI r.2.2.Py.PJ,vI r.2.2.Py.PI,vI r.2.2.Py.hY.bh,vI r.2.2.Py.hY.ib,vI r.2.2.Py.hY.ij,vI r.2.2.Py.ik,vI r.2.2.Py.PH,vI r.2.2.me,vI r.2.2.PQ,vI r.2.2.jb],sl L W r.2.2.Py.py.ag]):=by
 unfold nH at h;refine iq.fn func158 fun e=>?_;refine T ?_;intro bo bp ba aZ bd h bq ab;refine CW.fl [0,3,6,7,17] fun e=>?_;refine gc h ?_ ?_<;>intro _ h
 · refine go ?_;replace h:=oi h;subst h;exact Rc tt tt ⟨p,k,rfl,ab.pk [0,2]⟩
 refine go ?_;refine LW.u (iQ.nc rfl) rfl ?_;refine gb h fun f ah h=>?_;obtain ⟨M,X,hae,bc,aS⟩:=ab.iF (α:=gE) (i:=2) rfl ah;subst hae;refine go ?_;obtain ⟨a0,l,bb⟩:=ab.freeze (α:=gE) 2 rfl;obtain ⟨a5,be,aJ,hae,ap,_,_,ar,av⟩:=l.kc.idx ah;cases hae;obtain ⟨J,R,a1,U,K,V,rfl,aV,ad,aW⟩:=ar;refine T ?_;intro bk aX h bg ai;refine CW.fl [0,3,8,35] fun e=>?_;refine gc h ?_ ?_<;>intro _ h
 · refine go ?_;replace h:=oi h;subst h;have az:=ai.i7 (α:=gE) 2 rfl l;exact Rc tt tt ⟨(some ⟨M,X,none⟩),k,rfl,az.pk [0,2]⟩
 refine gc h ?_ ?_<;>intro _ h
 · refine kb ?_;have aA:=ai.drew;refine gb h fun bl ay h=>?_;obtain ⟨a6,bf,aK,rfl,aM,aQ,aT,rfl,aO⟩:=ad.idx ay;refine go ?_;refine T ?_;replace h:=oi h;subst h;have aB:=aA.i7 (α:=gE) 2 rfl l;exact Rc tt tt ⟨(some ⟨M,X,none⟩),k,rfl,aB.pk [0,2]⟩
 refine T ?_;intro bm aY h bi ac;refine gc h ?_ ?_<;>intro _ h
 · refine go ?_;replace h:=oi h;subst h;have aC:=ac.i7 (α:=gE) 2 rfl l;exact Rc tt tt ⟨(some ⟨M,X,none⟩),k,rfl,aC.pk [0,2]⟩
 refine gb h fun bn ae h=>?_;obtain ⟨O,Y,aL,rfl,aN,aR,aU,rfl,aP⟩:=ad.idx ae;refine go ?_;have aw:=fun (j:Nat) (u:Value) (hu:([vI f.PO,vI f.Pz,vI f.box,vI f.res,vI f.iK,vI f.bh,vI f.PK,vI f.iP,vI f.iM,.bool f.mark,vS J f.ig.length R,vS (some ⟨O,Y,none⟩) f.PG.length U,vS K f.PE.length V]:List Value)[j]?=some u)=>(World.cell?_of_block (ac.zC 2 rfl ap)).trans (av j u hu);have an:=ac.i7 (α:=gE) 2 rfl l;obtain ⟨aI,ax,au⟩:=an.focus (α:=gE) (cs:=[vI f.PO,vI f.Pz,vI f.box,vI f.res,vI f.iK,vI f.bh,vI f.PK,vI f.iP,vI f.iM,.bool f.mark,vS J f.ig.length R,vS (some ⟨O,Y,none⟩) f.PG.length U,vS K f.PE.length V]) 2 rfl ah rfl aw;obtain ⟨a2,a7,a3,a8,a4,a9,aq,am⟩:=ax;cases aq;have ao:=au [sl J R f.ig,sl (some ⟨O,Y,none⟩) U f.PG,sl K V f.PE] am;have ⟨aj,af,h⟩:=ob h;refine LW.se 0 ao 1 ae af (hM:=uB) fun bj Z=>?_;refine go ?_;replace h:=oi h;subst h;rw [iB (oi af)] at Z;have aa:=Z.oF (gE.mk f.PO f.Pz f.box f.res f.iK f.bh f.PK f.iP f.iM f.mark f.ig aj f.PE) [0,1,2,3,4,5] 3 2 rfl rfl (fun w G hG=>⟨J,R,(some ⟨O,Y,none⟩),U,K,V,rfl,hG⟩)
 rw [show g.Py.py.ag.length=(g.Py.py.ag.set (aZ.1:Int).toNat (gE.mk f.PO f.Pz f.box f.res f.iK f.bh f.PK f.iP f.iM f.mark f.ig aj f.PE)).length from (iB rfl)] at aa;exact Rc tt tt ⟨(some ⟨M,X,none⟩),k,rfl,aa.pk [0,2]⟩
instance k_158:Ct prog 158:=⟨by kernel_rfl,@AE⟩
theorem Ba {w0} {F:List Nat} {N j g r} (h:oV N j g=some r) {Y:Nat} {B I} (aS:iR (jo w0 F) w0 B I j.Py.PB.PA) {C J} (aT:iR (jo w0 F) w0 C J j.Py.own) {O R k m l n G K} (aU:iR (jo w0 F) w0 G K j.Py.ia) (hS:St w0 F w0 [bx Y 188 (qC B I C J O R k m l n G K j),sl O R j.Py.PC,sl k m j.Py.py.ag,sl l n j.Py.py.gc.hZ]) :
    iq prog 251 #[.pointer (some ⟨Y,0,none⟩),.agg #[vI g.Pz,vI g.a,vI g.b,vI g.c,vI g.d,vI g.e]] w0 (fun v w=>∃ Z ac, ∃ aa ad, ∃ ab ae,v=.tuple #[vI r.1,vI r.2.1]∧St w0 F w [bx Y 188 [vS B j.Py.PB.PA.length I,vS C j.Py.own.length J,vS Z r.2.2.Py.PC.length ac,vS aa r.2.2.Py.py.ag.length ad,vI r.2.2.Py.py.gc.PD,vI r.2.2.Py.py.gc.PL,vI r.2.2.Py.py.gc.PF,vS ab r.2.2.Py.py.gc.hZ.length ae,vS G j.Py.ia.length K,vI r.2.2.Py.PJ,vI r.2.2.Py.PI,vI r.2.2.Py.hY.bh,vI r.2.2.Py.hY.ib,vI r.2.2.Py.hY.ij,vI r.2.2.Py.ik,vI r.2.2.Py.PH,vI r.2.2.me,vI r.2.2.PQ,vI r.2.2.jb],sl Z ac r.2.2.Py.PC,sl aa ad r.2.2.Py.py.ag,sl ab ae r.2.2.Py.py.gc.hZ]):=by
 unfold oV at h;refine iq.fn func251 fun e=>?_;refine T ?_;intro aM cj an;obtain ⟨bo,aR,aW⟩:=ob h;refine CW.jn [0,3] [0,1,2,3,4] [(42,.bool bo)] an (h1:=?_) (h2:=?_)
 · have h:=aR;refine dW ?_;have bG:=an.drew;refine T ?_;intro cm bM h ck bI;refine bH h ?_ ?_<;>intro _ h
   · exact rt
   refine T ?_;intro cn bN h cl bJ;refine bH h ?_ ?_<;>intro _ h
   · exact rt
   refine T ?_;intro ca bf h bQ bK;refine bH h ?_ ?_<;>intro _ h
   · exact rt
   refine gB h ?_ ?_<;>intro _ h
   · exact rt
   refine T ?_;intro cb bg h bR bL;exact rt
 intro e bS aP;have h:=aW;refine gc h ?_ ?_<;>intro _ h
 · refine go ?_;replace h:=oi h;subst h;exact Rc tt tt ⟨O,R,k,m,l,n,rfl,aP.pk [1,2,3,4]⟩
 refine T ?_;intro M bj h bT aQ;refine CW.fl [0,3,6,7,51] fun e=>?_;refine gc h ?_ ?_<;>intro _ h
 · refine go ?_;replace h:=oi h;subst h;exact Rc tt tt ⟨O,R,k,m,l,n,rfl,aQ.pk [0,2,3,4]⟩
 refine jL [(0,vI g.c),(1,vI (i64.wrap (g.c * g.d)))] #[vI g.c,vI (i64.wrap (g.c * g.d)),vI 0] ?_;refine T ?_;intro f bk h H L bU ao;refine CW.fl [0,3,6,65] fun e=>?_;refine gc h ?_ ?_<;>intro _ h
 · refine go ?_;replace h:=oi h;subst h;exact Rc tt tt ⟨H,L,k,m,l,n,rfl,ao.pk [0,1,3,4]⟩
 refine gs ?_;obtain ⟨o,aE,aN⟩:=ob h;refine CW.cut (fun e wb=>∃ (A:Nat) (p:Ad) (x:Nat) (U:Ad) (V:Nat) (q:Ad) (z:Nat),En e [(0,.pointer (some ⟨Y,0,none⟩)),(3,.pointer (some ⟨aM,0,none⟩)),(8,.pointer (some ⟨A,0,none⟩))]∧St w0 F wb [bx Y 188 [vS B j.Py.PB.PA.length I,vS C j.Py.own.length J,vS H f.2.Py.PC.length L,vS k j.Py.py.ag.length m,vI f.2.Py.py.gc.PD,vI f.2.Py.py.gc.PL,vI f.2.Py.py.gc.PF,vS l j.Py.py.gc.hZ.length n,vS G j.Py.ia.length K,vI f.2.Py.PJ,vI f.2.Py.PI,vI f.2.Py.hY.bh,vI f.2.Py.hY.ib,vI f.2.Py.hY.ij,vI f.2.Py.ik,vI f.2.Py.PH,vI f.2.me,vI f.2.PQ,vI f.2.jb],sl H L f.2.Py.PC,bx aM 28 (qL g),sl k m j.Py.py.ag,sl l n j.Py.py.gc.hZ,bx A 101 [vI 0,vI g.a,vI M.1,vI g.e,vI (i64.wrap (f.2.PQ+g.d)),vI g.c,vI 0,vI 0,vI 0,.bool false,vS p o.1.length x,vS U o.2.1.length V,vS q o.2.2.length z],sl p x o.1,sl U V o.2.1,sl q z o.2.2]) ?_ ?_
 · have h:=aE;refine dW ?_;have aq:=ao.drew;refine go ?_;refine AW.all (rs:=[14,16]) (by kernel_rfl) (by simp) ⟨?_,?_,trivial⟩
   · refine oA ?_;refine LW.bi [-1, -1] aq ?_;intro ai ak bV aX hf;refine T ?_;refine AW.u (i:=15) rfl (by kernel_rfl) rfl rfl (iQ.build (vs:=[(1,vI g.a),(2,vI M.1),(3,vI g.e),(4,vI (i64.wrap (f.2.PQ+g.d))),(5,vI g.c),(10,vS ai (([-1, -1]:List Int).length) ak)]) (cs:=#[vI 0,vI g.a,vI M.1,vI g.e,vI (i64.wrap (f.2.PQ+g.d)),vI g.c,vI 0,vI 0,vI 0,.bool false,vS ai (([-1, -1]:List Int).length) ak,vS none 0 0,vS none 0 0]) rfl (by kernel_rfl)) ?_;refine T ?_;intro bE bW aY bX ar;have au:=ar.nil (α:=Int);have aZ:=au.nil (α:=je);exact rt
   refine oA ?_;refine T ?_;intro bF bY av;refine jP 14 ?_;refine LW.bi [-1, -1] av ?_;intro aj am bZ a0 hf;refine T ?_;refine AW.u (i:=15) rfl (by kernel_rfl) rfl rfl (iQ.build (vs:=[(1,vI g.a),(2,vI M.1),(3,vI g.e),(4,vI (i64.wrap (f.2.PQ+g.d))),(5,vI g.c),(10,vS aj (([-1, -1]:List Int).length) am)]) (cs:=#[vI 0,vI g.a,vI M.1,vI g.e,vI (i64.wrap (f.2.PQ+g.d)),vI g.c,vI 0,vI 0,vI 0,.bool false,vS aj (([-1, -1]:List Int).length) am,vS none 0 0,vS none 0 0]) rfl (by kernel_rfl)) ?_;refine T ?_;intro b0 aw;have ax:=aw.nil (α:=Int);have a1:=ax.nil (α:=je);exact rt
 rintro e b1 ⟨A,p,x,U,V,q,z,hE,ay⟩;obtain ⟨e,rfl⟩:=hE.out;have h:=aN;refine gs ?_;refine CW.region ?_;refine gs ?_;obtain ⟨ap,aF,aO⟩:=ob h;refine CW.cut (fun e wb=>∃ (W:Ad) (X:Nat),En e [(0,.pointer (some ⟨Y,0,none⟩)),(8,.pointer (some ⟨A,0,none⟩))]∧St w0 F wb [bx Y 188 [vS B j.Py.PB.PA.length I,vS C j.Py.own.length J,vS H f.2.Py.PC.length L,vS k j.Py.py.ag.length m,vI f.2.Py.py.gc.PD,vI f.2.Py.py.gc.PL,vI f.2.Py.py.gc.PF,vS l j.Py.py.gc.hZ.length n,vS G j.Py.ia.length K,vI f.2.Py.PJ,vI f.2.Py.PI,vI f.2.Py.hY.bh,vI f.2.Py.hY.ib,vI f.2.Py.hY.ij,vI f.2.Py.ik,vI f.2.Py.PH,vI f.2.me,vI f.2.PQ,vI f.2.jb],sl H L f.2.Py.PC,sl k m j.Py.py.ag,sl l n j.Py.py.gc.hZ,bx A 101 [vI 0,vI g.a,vI M.1,vI g.e,vI (i64.wrap (f.2.PQ+g.d)),vI g.c,vI 0,vI 0,vI 0,.bool false,vS p o.1.length x,vS W ap.length X,vS q o.2.2.length z],sl p x o.1,sl q z o.2.2,sl W X ap]) ?_ ?_
 · have h:=aF;refine gc h ?_ ?_<;>intro _ h
   · refine gb h fun cc aH h=>?_;refine LW.mk nb rfl rfl aH ay rfl ?_;intro bq bz b2 a2 hf;refine T ?_;intro b3 a3;exact rt
   exact rt
 rintro e b4 ⟨W,X,hE,az⟩;obtain ⟨e,rfl⟩:=hE.out;have h:=aO;refine kb ?_;have a4:=az.drew;refine T ?_;intro ce bl h br bA b5 aA;refine gc h ?_ ?_<;>intro _ h
 · refine go ?_;replace h:=oi h;subst h;exact Rc tt tt ⟨H,L,k,m,l,n,rfl,aA.pk [1,2,3,4]⟩
 refine go ?_;refine LW.u (iQ.nc rfl) rfl ?_;refine T ?_;intro b6 a5;refine LW.u (iQ.nc rfl) rfl ?_;refine T ?_;intro cf bm h aI aK aJ aL b7 a6;refine LW.u (iQ.nc rfl) rfl ?_;refine T ?_;intro b8 aB;refine dW ?_;have af:=aB.drew;refine gb h fun cg ah h=>?_;obtain ⟨bv,bO,hae,ba,bb⟩:=af.iF (α:=gE) (i:=2) rfl ah;subst hae;refine go ?_;obtain ⟨bp,aG,a7⟩:=af.freeze (α:=gE) 2 rfl;obtain ⟨bw,bP,aV,hae,a8,_,_,aD,a9⟩:=aG.kc.idx ah;cases hae;obtain ⟨bs,bB,bt,bC,bu,bD,rfl,bc,bd,be⟩:=aD;refine T ?_;intro ci bn h b9 aC;replace h:=oi h;subst h;exact Rc tt tt ⟨H,L,aI,aK,aJ,aL,rfl,aC.pk [3,4,0,1]⟩
instance k_251:Ct prog 251:=⟨by kernel_rfl,@Ba⟩
end Go.Kx
