import Derived.Test.YtlcgibcdiikheaaGreatWa23
namespace Go.Kx
open Go Go.RowKit Go.Proofs
open Go.IntKind (i64)
open Tryz
set_option maxRecDepth 10000
set_option maxHeartbeats 8000000
set_option linter.unusedVariables false
set_option linter.unusedSimpArgs false
theorem AT {w0} {F:List Nat} {N g I r} (h:mW N g I=some r) {ak:Nat} {m z} (aD:iR (jA w0 F) w0 m z g.Pc.Pe.Pd) {n A} (aE:iR (jA w0 F) w0 n A g.Pc.own) {o B} (aF:iR (jA w0 F) w0 o B g.Pc.Pg) {p k q C} (aG:iR (jA w0 F) w0 q C g.Pc.py.gc.gQ) {x H} (aH:iR (jA w0 F) w0 x H g.Pc.gR) (hS:St w0 F w0 [bx ak 188 [vS m g.Pc.Pe.Pd.length z,vS n g.Pc.own.length A,vS o g.Pc.Pg.length B,vS p g.Pc.py.ag.length k,vI g.Pc.py.gc.Ph,vI g.Pc.py.gc.Pr,vI g.Pc.py.gc.Pj,vS q g.Pc.py.gc.gQ.length C,vS x g.Pc.gR.length H,vI g.Pc.Pn,vI g.Pc.Pp,vI g.Pc.cd.gE,vI g.Pc.cd.gX,vI g.Pc.cd.g8,vI g.Pc.g5,vI g.Pc.Pm,vI g.me,vI g.Pt,vI g.ir],sl p k g.Pc.py.ag]) :
    gV prog 158 #[.pointer (some ⟨ak,0,none⟩),.agg #[vI I.Pf,vI I.a,vI I.b,vI I.c,vI I.d,vI I.e]] w0 (fun v w=>∃ L W,v=.tuple #[vI r.1,vI r.2.1]∧St w0 F w [bx ak 188 [vS m g.Pc.Pe.Pd.length z,vS n g.Pc.own.length A,vS o g.Pc.Pg.length B,vS L r.2.2.Pc.py.ag.length W,vI r.2.2.Pc.py.gc.Ph,vI r.2.2.Pc.py.gc.Pr,vI r.2.2.Pc.py.gc.Pj,vS q g.Pc.py.gc.gQ.length C,vS x g.Pc.gR.length H,vI r.2.2.Pc.Pn,vI r.2.2.Pc.Pp,vI r.2.2.Pc.cd.gE,vI r.2.2.Pc.cd.gX,vI r.2.2.Pc.cd.g8,vI r.2.2.Pc.g5,vI r.2.2.Pc.Pm,vI r.2.2.me,vI r.2.2.Pt,vI r.2.2.ir],sl L W r.2.2.Pc.py.ag]):=by
 unfold mW at h;refine gV.fn func158 fun e=>?_;refine T ?_;intro bo bp ba aZ bd h bq ab;refine CW.fl [0,3,6,7,17] fun e=>?_;refine gc h ?_ ?_<;>intro _ h
 · refine go ?_;replace h:=oi h;subst h;exact Rc tt tt ⟨p,k,rfl,ab.pk [0,2]⟩
 refine go ?_;refine LW.u (il.nc rfl) rfl ?_;refine gb h fun f ah h=>?_;obtain ⟨M,X,hae,bc,aS⟩:=ab.hZ (α:=gP) (i:=2) rfl ah;subst hae;refine go ?_;obtain ⟨a0,l,bb⟩:=ab.freeze (α:=gP) 2 rfl;obtain ⟨a5,be,aJ,hae,ap,_,_,ar,av⟩:=l.ju.idx ah;cases hae;obtain ⟨J,R,a1,U,K,V,rfl,aV,ad,aW⟩:=ar;refine T ?_;intro bk aX h bg ai;refine CW.fl [0,3,8,35] fun e=>?_;refine gc h ?_ ?_<;>intro _ h
 · refine go ?_;replace h:=oi h;subst h;have az:=ai.iD (α:=gP) 2 rfl l;exact Rc tt tt ⟨(some ⟨M,X,none⟩),k,rfl,az.pk [0,2]⟩
 refine gc h ?_ ?_<;>intro _ h
 · refine jK ?_;have aA:=ai.drew;refine gb h fun bl ay h=>?_;obtain ⟨a6,bf,aK,rfl,aM,aQ,aT,rfl,aO⟩:=ad.idx ay;refine go ?_;refine T ?_;replace h:=oi h;subst h;have aB:=aA.iD (α:=gP) 2 rfl l;exact Rc tt tt ⟨(some ⟨M,X,none⟩),k,rfl,aB.pk [0,2]⟩
 refine T ?_;intro bm aY h bi ac;refine gc h ?_ ?_<;>intro _ h
 · refine go ?_;replace h:=oi h;subst h;have aC:=ac.iD (α:=gP) 2 rfl l;exact Rc tt tt ⟨(some ⟨M,X,none⟩),k,rfl,aC.pk [0,2]⟩
 refine gb h fun bn ae h=>?_;obtain ⟨O,Y,aL,rfl,aN,aR,aU,rfl,aP⟩:=ad.idx ae;refine go ?_;have aw:=fun (j:Nat) (u:Value) (hu:([vI f.Pw,vI f.Pf,vI f.box,vI f.Pu,vI f.iz,vI f.gE,vI f.Pq,vI f.iy,vI f.im,.bool f.Ps,vS J f.gZ.length R,vS (some ⟨O,Y,none⟩) f.Po.length U,vS K f.Pk.length V]:List Value)[j]?=some u)=>(World.cell?_of_block (ac.zC 2 rfl ap)).trans (av j u hu);have an:=ac.iD (α:=gP) 2 rfl l;obtain ⟨aI,ax,au⟩:=an.focus (α:=gP) (cs:=[vI f.Pw,vI f.Pf,vI f.box,vI f.Pu,vI f.iz,vI f.gE,vI f.Pq,vI f.iy,vI f.im,.bool f.Ps,vS J f.gZ.length R,vS (some ⟨O,Y,none⟩) f.Po.length U,vS K f.Pk.length V]) 2 rfl ah rfl aw;obtain ⟨a2,a7,a3,a8,a4,a9,aq,am⟩:=ax;cases aq;have ao:=au [sl J R f.gZ,sl (some ⟨O,Y,none⟩) U f.Po,sl K V f.Pk] am;have ⟨aj,af,h⟩:=ob h;refine LW.se 0 ao 1 ae af (hM:=ui) fun bj Z=>?_;refine go ?_;replace h:=oi h;subst h;rw [gS (oi af)] at Z;have aa:=Z.m6 (gP.mk f.Pw f.Pf f.box f.Pu f.iz f.gE f.Pq f.iy f.im f.Ps f.gZ aj f.Pk) [0,1,2,3,4,5] 3 2 rfl rfl (fun w G hG=>⟨J,R,(some ⟨O,Y,none⟩),U,K,V,rfl,hG⟩)
 rw [show g.Pc.py.ag.length=(g.Pc.py.ag.set (aZ.1:Int).toNat (gP.mk f.Pw f.Pf f.box f.Pu f.iz f.gE f.Pq f.iy f.im f.Ps f.gZ aj f.Pk)).length from (gS rfl)] at aa;exact Rc tt tt ⟨(some ⟨M,X,none⟩),k,rfl,aa.pk [0,2]⟩
instance k_158:Ct prog 158:=⟨by kernel_rfl,@AT⟩
theorem Bf {w0} {F:List Nat} {N j g r} (h:ox N j g=some r) {Y:Nat} {B I} (aS:iR (jA w0 F) w0 B I j.Pc.Pe.Pd) {C J} (aT:iR (jA w0 F) w0 C J j.Pc.own) {O R k m l n G K} (aU:iR (jA w0 F) w0 G K j.Pc.gR) (hS:St w0 F w0 [bx Y 188 (qC B I C J O R k m l n G K j),sl O R j.Pc.Pg,sl k m j.Pc.py.ag,sl l n j.Pc.py.gc.gQ]) :
    gV prog 251 #[.pointer (some ⟨Y,0,none⟩),.agg #[vI g.Pf,vI g.a,vI g.b,vI g.c,vI g.d,vI g.e]] w0 (fun v w=>∃ Z ac, ∃ aa ad, ∃ ab ae,v=.tuple #[vI r.1,vI r.2.1]∧St w0 F w [bx Y 188 [vS B j.Pc.Pe.Pd.length I,vS C j.Pc.own.length J,vS Z r.2.2.Pc.Pg.length ac,vS aa r.2.2.Pc.py.ag.length ad,vI r.2.2.Pc.py.gc.Ph,vI r.2.2.Pc.py.gc.Pr,vI r.2.2.Pc.py.gc.Pj,vS ab r.2.2.Pc.py.gc.gQ.length ae,vS G j.Pc.gR.length K,vI r.2.2.Pc.Pn,vI r.2.2.Pc.Pp,vI r.2.2.Pc.cd.gE,vI r.2.2.Pc.cd.gX,vI r.2.2.Pc.cd.g8,vI r.2.2.Pc.g5,vI r.2.2.Pc.Pm,vI r.2.2.me,vI r.2.2.Pt,vI r.2.2.ir],sl Z ac r.2.2.Pc.Pg,sl aa ad r.2.2.Pc.py.ag,sl ab ae r.2.2.Pc.py.gc.gQ]):=by
 unfold ox at h;refine gV.fn func251 fun e=>?_;refine T ?_;intro aM cj an;obtain ⟨bo,aR,aW⟩:=ob h;refine CW.jn [0,3] [0,1,2,3,4] [(42,.bool bo)] an (h1:=?_) (h2:=?_)
 · have h:=aR;refine dW ?_;have bG:=an.drew;refine T ?_;intro cm bM h ck bI;refine bH h ?_ ?_<;>intro _ h
   · exact rt
   refine T ?_;intro cn bN h cl bJ;refine bH h ?_ ?_<;>intro _ h
   · exact rt
   refine T ?_;intro ca bf h bQ bK;refine bH h ?_ ?_<;>intro _ h
   · exact rt
   refine gB h ?_ ?_<;>intro _ h
   · exact rt
   refine T ?_;intro cb bg h bR bL;exact rt
 intro e bS aP;have h:=aW;refine gc h ?_ ?_<;>intro _ h
 · refine go ?_;replace h:=oi h;subst h;exact Rc tt tt ⟨O,R,k,m,l,n,rfl,aP.pk [1,2,3,4]⟩
 refine T ?_;intro M bj h bT aQ;refine CW.fl [0,3,6,7,51] fun e=>?_;refine gc h ?_ ?_<;>intro _ h
 · refine go ?_;replace h:=oi h;subst h;exact Rc tt tt ⟨O,R,k,m,l,n,rfl,aQ.pk [0,2,3,4]⟩
 refine jt [(0,vI g.c),(1,vI (i64.wrap (g.c * g.d)))] #[vI g.c,vI (i64.wrap (g.c * g.d)),vI 0] ?_;refine T ?_;intro f bk h H L bU ao;refine CW.fl [0,3,6,65] fun e=>?_;refine gc h ?_ ?_<;>intro _ h
 · refine go ?_;replace h:=oi h;subst h;exact Rc tt tt ⟨H,L,k,m,l,n,rfl,ao.pk [0,1,3,4]⟩
 refine gs ?_;obtain ⟨o,aE,aN⟩:=ob h;refine CW.cut (fun e wb=>∃ (A:Nat) (p:Ad) (x:Nat) (U:Ad) (V:Nat) (q:Ad) (z:Nat),En e [(0,.pointer (some ⟨Y,0,none⟩)),(3,.pointer (some ⟨aM,0,none⟩)),(8,.pointer (some ⟨A,0,none⟩))]∧St w0 F wb [bx Y 188 [vS B j.Pc.Pe.Pd.length I,vS C j.Pc.own.length J,vS H f.2.Pc.Pg.length L,vS k j.Pc.py.ag.length m,vI f.2.Pc.py.gc.Ph,vI f.2.Pc.py.gc.Pr,vI f.2.Pc.py.gc.Pj,vS l j.Pc.py.gc.gQ.length n,vS G j.Pc.gR.length K,vI f.2.Pc.Pn,vI f.2.Pc.Pp,vI f.2.Pc.cd.gE,vI f.2.Pc.cd.gX,vI f.2.Pc.cd.g8,vI f.2.Pc.g5,vI f.2.Pc.Pm,vI f.2.me,vI f.2.Pt,vI f.2.ir],sl H L f.2.Pc.Pg,bx aM 28 (qL g),sl k m j.Pc.py.ag,sl l n j.Pc.py.gc.gQ,bx A 101 [vI 0,vI g.a,vI M.1,vI g.e,vI (i64.wrap (f.2.Pt+g.d)),vI g.c,vI 0,vI 0,vI 0,.bool false,vS p o.1.length x,vS U o.2.1.length V,vS q o.2.2.length z],sl p x o.1,sl U V o.2.1,sl q z o.2.2]) ?_ ?_
 · have h:=aE;refine dW ?_;have aq:=ao.drew;refine go ?_;refine AW.all (rs:=[14,16]) (by kernel_rfl) (by simp) ⟨?_,?_,trivial⟩
   · refine oA ?_;refine LW.bi [-1, -1] aq ?_;intro ai ak bV aX hf;refine T ?_;refine AW.u (i:=15) rfl (by kernel_rfl) rfl rfl (il.build (vs:=[(1,vI g.a),(2,vI M.1),(3,vI g.e),(4,vI (i64.wrap (f.2.Pt+g.d))),(5,vI g.c),(10,vS ai (([-1, -1]:List Int).length) ak)]) (cs:=#[vI 0,vI g.a,vI M.1,vI g.e,vI (i64.wrap (f.2.Pt+g.d)),vI g.c,vI 0,vI 0,vI 0,.bool false,vS ai (([-1, -1]:List Int).length) ak,vS none 0 0,vS none 0 0]) rfl (by kernel_rfl)) ?_;refine T ?_;intro bE bW aY bX ar;have au:=ar.nil (α:=Int);have aZ:=au.nil (α:=iM);exact rt
   refine oA ?_;refine T ?_;intro bF bY av;refine jP 14 ?_;refine LW.bi [-1, -1] av ?_;intro aj am bZ a0 hf;refine T ?_;refine AW.u (i:=15) rfl (by kernel_rfl) rfl rfl (il.build (vs:=[(1,vI g.a),(2,vI M.1),(3,vI g.e),(4,vI (i64.wrap (f.2.Pt+g.d))),(5,vI g.c),(10,vS aj (([-1, -1]:List Int).length) am)]) (cs:=#[vI 0,vI g.a,vI M.1,vI g.e,vI (i64.wrap (f.2.Pt+g.d)),vI g.c,vI 0,vI 0,vI 0,.bool false,vS aj (([-1, -1]:List Int).length) am,vS none 0 0,vS none 0 0]) rfl (by kernel_rfl)) ?_;refine T ?_;intro b0 aw;have ax:=aw.nil (α:=Int);have a1:=ax.nil (α:=iM);exact rt
 rintro e b1 ⟨A,p,x,U,V,q,z,hE,ay⟩;obtain ⟨e,rfl⟩:=hE.out;have h:=aN;refine gs ?_;refine CW.region ?_;refine gs ?_;obtain ⟨ap,aF,aO⟩:=ob h;refine CW.cut (fun e wb=>∃ (W:Ad) (X:Nat),En e [(0,.pointer (some ⟨Y,0,none⟩)),(8,.pointer (some ⟨A,0,none⟩))]∧St w0 F wb [bx Y 188 [vS B j.Pc.Pe.Pd.length I,vS C j.Pc.own.length J,vS H f.2.Pc.Pg.length L,vS k j.Pc.py.ag.length m,vI f.2.Pc.py.gc.Ph,vI f.2.Pc.py.gc.Pr,vI f.2.Pc.py.gc.Pj,vS l j.Pc.py.gc.gQ.length n,vS G j.Pc.gR.length K,vI f.2.Pc.Pn,vI f.2.Pc.Pp,vI f.2.Pc.cd.gE,vI f.2.Pc.cd.gX,vI f.2.Pc.cd.g8,vI f.2.Pc.g5,vI f.2.Pc.Pm,vI f.2.me,vI f.2.Pt,vI f.2.ir],sl H L f.2.Pc.Pg,sl k m j.Pc.py.ag,sl l n j.Pc.py.gc.gQ,bx A 101 [vI 0,vI g.a,vI M.1,vI g.e,vI (i64.wrap (f.2.Pt+g.d)),vI g.c,vI 0,vI 0,vI 0,.bool false,vS p o.1.length x,vS W ap.length X,vS q o.2.2.length z],sl p x o.1,sl q z o.2.2,sl W X ap]) ?_ ?_
 · have h:=aF;refine gc h ?_ ?_<;>intro _ h
   · refine gb h fun cc aH h=>?_;refine LW.mk pI rfl rfl aH ay rfl ?_;intro bq bz b2 a2 hf;refine T ?_;intro b3 a3;exact rt
   exact rt
 rintro e b4 ⟨W,X,hE,az⟩;obtain ⟨e,rfl⟩:=hE.out;have h:=aO;refine jK ?_;have a4:=az.drew;refine T ?_;intro ce bl h br bA b5 aA;refine gc h ?_ ?_<;>intro _ h
 · refine go ?_;replace h:=oi h;subst h;exact Rc tt tt ⟨H,L,k,m,l,n,rfl,aA.pk [1,2,3,4]⟩
 refine go ?_;refine LW.u (il.nc rfl) rfl ?_;refine T ?_;intro b6 a5;refine LW.u (il.nc rfl) rfl ?_;refine T ?_;intro cf bm h aI aK aJ aL b7 a6;refine LW.u (il.nc rfl) rfl ?_;refine T ?_;intro b8 aB;refine dW ?_;have af:=aB.drew;refine gb h fun cg ah h=>?_;obtain ⟨bv,bO,hae,ba,bb⟩:=af.hZ (α:=gP) (i:=2) rfl ah;subst hae;refine go ?_;obtain ⟨bp,aG,a7⟩:=af.freeze (α:=gP) 2 rfl;obtain ⟨bw,bP,aV,hae,a8,_,_,aD,a9⟩:=aG.ju.idx ah;cases hae;obtain ⟨bs,bB,bt,bC,bu,bD,rfl,bc,bd,be⟩:=aD;refine T ?_;intro ci bn h b9 aC;replace h:=oi h;subst h;exact Rc tt tt ⟨H,L,aI,aK,aJ,aL,rfl,aC.pk [3,4,0,1]⟩
instance k_251:Ct prog 251:=⟨by kernel_rfl,@Bf⟩
end Go.Kx
