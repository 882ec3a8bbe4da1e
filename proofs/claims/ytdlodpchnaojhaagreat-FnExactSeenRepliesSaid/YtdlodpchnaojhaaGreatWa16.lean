import Derived.Test.YtdlodpchnaojhaaGreatWa14
import Derived.Test.YtdlodpchnaojhaaGreatWa15
namespace Go.Kx
open Go Go.RowKit Go.Proofs
open Go.IntKind (i64)
open Tryz
set_option maxRecDepth 10000
set_option maxHeartbeats 8000000
set_option linter.unusedVariables false
set_option linter.unusedSimpArgs false
theorem Bm {w0} {F:List Nat} {N ak ba a4 k r} (h:o7 N ak ba a4 k=some r) {aO:Nat} {q n} (hS:St w0 F w0 [bx aO 26 [vI ak.Oc,vS q ak.parts.length n],sl q n ak.parts]) :
    gV prog 74 #[.pointer (some ⟨aO,0,none⟩),vI ba,vI a4,.agg #[vI k.N0,vI k.a,vI k.b,vI k.c,vI k.d,vI k.e]] w0 (fun v w=>∃ V af,v=vI r.1∧St w0 F w [bx aO 26 [vI r.2.Oc,vS V r.2.parts.length af],sl V af r.2.parts]):=by
 unfold o7 at h;refine gV.fn func74 fun e=>?_;refine tK hS fun cw cx a6=>?_;refine gb h fun cz a7 h=>?_;refine LW.c0 (lN a7) a6 fun cy av=>?_;refine gc h ?_ ?_<;>intro _ h
 · refine go ?_;replace h:=oi h;subst h;exact Ra ⟨q,n,rfl,av.pk [1,2]⟩
 refine go ?_;refine LW.u (iq.nc rfl) rfl ?_;refine gb h fun cA a8 h=>?_;refine LW.c0 (zi a8 rfl (av.rI 2 rfl)) av fun aD ax=>?_;refine jE [0,2,7,23] fun e=>?_;refine gc h ?_ ?_<;>intro _ h
 · refine go ?_;replace h:=oi h;subst h;exact Ra ⟨q,n,rfl,ax.pk [1,2]⟩
 refine go ?_;refine LW.u (iq.nc rfl) rfl ?_;refine gb h fun g ai h=>?_;obtain ⟨aJ,aN,hae,bt,bw⟩:=ax.hZ (α:=cd) (i:=2) rfl ai;subst hae;refine go ?_;refine LW.u (iq.nc rfl) rfl ?_;refine go ?_;obtain ⟨b3,H,aK⟩:=ax.freeze (α:=cd) 2 rfl;obtain ⟨cc,cp,bq,hae,A,_,_,aW,C⟩:=H.jk.idx ai;cases hae;obtain ⟨J,X,K,Y,L,Z,b4,aa,M,ab,O,ac,rfl,bB,bC,bD,I,bE,bF⟩:=aW;refine LW.l (jf.jX aD zB rfl (C 3 _ rfl)) (aK.zC 2 rfl A) rfl ?_;refine jA ?_;have aL:=aK.drew;refine gb h fun aj a2 h=>?_;refine jO 8 ?_;refine LW.cl (tj a2 rfl (aL.rZ 2 rfl I)) ?_;rintro _ cr ⟨rfl,hs⟩;have p:=aL.add hs;refine jn ?_;refine gs ?_;obtain ⟨a9,aY,a5⟩:=ob h;refine CW.jn [0,7,9,10,11] [0,1,2] [(62,.bool a9)] p (h1:=?_) (h2:=?_)
 · have h:=aY;refine gB h ?_ ?_<;>intro _ h
   · refine gb h fun cv a3 h=>?_;obtain ⟨cf,cq,br,rfl,az,bu,bz,⟨b5,cg,b6,ci,b7,cj,rfl,bG,bI,bJ⟩,aA⟩:=I.idx a3;refine go ?_;refine LW.l (jf.jX aD mK rfl (aA 1 _ rfl)) (p.zC 2 rfl az) rfl ?_;refine gB h ?_ ?_<;>intro _ h
     · refine go ?_;refine LW.l (jf.jX aD nR rfl (aA 12 _ rfl)) (p.zC 2 rfl az) rfl ?_;refine go ?_;cases oi h;exact p.po [0,1,2]
     refine go ?_;cases oi h;exact p.po [0,1,2]
   refine go ?_;cases oi h;exact p.po [0,1,2]
 intro e ct ay;have h:=a5;refine jE [0,7,9,10,11,62] fun e=>?_;refine gc h ?_ ?_<;>intro _ h
 · refine dW ?_;have aM:=ay.drew;refine gb h fun f aC h=>?_;obtain ⟨W,z,bs,rfl,B,bv,bA,⟨R,ad,U,ae,an,ap,rfl,bK,bL,bM⟩,aB⟩:=I.idx aC;refine go ?_;refine AW.tk 6 rfl (jf.jX aD nR rfl (aB 12 _ rfl)) (aM.zC 2 rfl B) ?_;refine go ?_;refine AW.u (i:=9) rfl (by kernel_rfl) rfl rfl (iq.build (vs:=[(0,vI (-1)),(1,vI k.b)]) (cs:=#[vI (-1),vI k.b]) rfl (by kernel_rfl)) ?_;refine jO 10 ?_;refine LW.xI (α:=iS) (vs:=[(0,.agg #[vI (-1),vI k.b])]) (cs:=#[vI (-1),vI k.b]) (l:=([iS.mk (-1) k.b]:List iS)) rfl (by kernel_rfl) rfl rfl rfl (fun w=>⟨[vI (-1),vI k.b],[],[],[],rfl,rfl,⟨rfl,rfl⟩,rfl⟩) aM rfl ?_;intro b8 ck cu x hf;refine jN (.c (x.ce 1) (.c (x.zC 3 rfl B) jZ)) ?_;have aZ:=fun (j:Nat) (u:Value) (hu:([vS J g.NZ.NY.length X,vS K g.own.length Y,vS L g.N1.length Z,vS (some ⟨W,z,none⟩) g.py.ag.length aa,vI g.py.gc.N2,vI g.py.gc.Oa,vI g.py.gc.N3,vS M g.py.gc.gQ.length ab,vS O g.gR.length ac,vI g.N6,vI g.N7,vI g.bh.gE,vI g.bh.gT,vI g.bh.g8,vI g.gW,vI g.N5]:List Value)[j]?=some u)=>(World.cell?_of_block (x.zC 3 rfl A)).trans (C j u hu);have a0:=fun (j:Nat) (u:Value) (hu:((qO R ad U ae an ap f):List Value)[j]?=some u)=>(World.cell?_of_block (x.zC 3 rfl B)).trans (aB j u hu);have aQ:=x.iz (α:=cd) 3 rfl H;obtain ⟨bc,a1,aX⟩:=aQ.focus (α:=cd) (cs:=[vS J g.NZ.NY.length X,vS K g.own.length Y,vS L g.N1.length Z,vS (some ⟨W,z,none⟩) g.py.ag.length aa,vI g.py.gc.N2,vI g.py.gc.Oa,vI g.py.gc.N3,vS M g.py.gc.gQ.length ab,vS O g.gR.length ac,vI g.N6,vI g.N7,vI g.bh.gE,vI g.bh.gT,vI g.bh.g8,vI g.gW,vI g.N5]) 3 rfl ai rfl aZ;obtain ⟨b9,cm,ca,cn,cb,co,bd,bk,be,bl,bf,bm,aV,aP⟩:=a1;cases aV;have aR:=aX [sl J X g.NZ.NY,sl K Y g.own,sl L Z g.N1,sl (some ⟨W,z,none⟩) aa g.py.ag,sl M ab g.py.gc.gQ,sl O ac g.gR] aP
   obtain ⟨bb,aH,aG⟩:=aR.focus (α:=gP) (cs:=[vI f.Oe,vI f.N0,vI f.box,vI f.Od,vI f.iw,vI f.gE,vI f.N9,vI f.iv,vI f.iu,.bool f.Ob,vS R f.gX.length ad,vS U f.N8.length ae,vS an f.N4.length ap]) 3 rfl aC rfl a0;obtain ⟨bg,bn,bi,bo,bj,bp,aF,aE⟩:=aH;cases aF;have aq:=aG [sl R ad f.gX,sl U ae f.N8,sl an ap f.N4] aE;have ⟨o,aI,h⟩:=ob h;refine jO 11 ?_;refine LW.jG (l:=f.N4) (m:=([iS.mk (-1) k.b]:List iS)) oI rfl rfl (aq.rI 9 rfl) aI aq (i:=2) rfl rfl ?_;intro am ao bZ aS hf;refine jn ?_;refine zr 14 ?_;refine LW.vN (α:=gP) (vs:=[vS am o.length ao]) aS 6 rfl nR rfl (by show _=z+(aj:Int).toNat * 13+12;omega) rfl rfl rfl rfl ?_;intro b0 aT hf;refine jn ?_;refine go ?_;replace h:=oi h;subst h;have ar:=aT.nC (gP.mk f.Oe f.N0 f.box f.Od f.iw f.gE f.N9 f.iv f.iu f.Ob f.gX f.N8 o) [0,1,2,3,4,5,6,7,8,9,10,11,12] 3 3 rfl rfl (fun w G hG=>⟨R,ad,U,ae,am,ao,rfl,hG⟩)
   rw [show g.py.ag.length=(g.py.ag.set (aj:Int).toNat (gP.mk f.Oe f.N0 f.box f.Od f.iw f.gE f.N9 f.iv f.iu f.Ob f.gX f.N8 o)).length from (gZ rfl)] at ar;have au:=ar.nC (cd.mk g.NZ g.own g.N1 (g5.mk (g.py.ag.set (aj:Int).toNat (gP.mk f.Oe f.N0 f.box f.Od f.iw f.gE f.N9 f.iv f.iu f.Ob f.gX f.N8 o)) g.py.gc) g.gR g.N6 g.N7 g.bh g.gW g.N5) [0,1,2,3,4,5,6,7,8,9] 6 3 rfl rfl (fun w G hG=>⟨J,X,K,Y,L,Z,(some ⟨W,z,none⟩),aa,M,ab,O,ac,rfl,hG⟩)
   rw [show ak.parts.length=(ak.parts.set (a4:Int).toNat (cd.mk g.NZ g.own g.N1 (g5.mk (g.py.ag.set (aj:Int).toNat (gP.mk f.Oe f.N0 f.box f.Od f.iw f.gE f.N9 f.iv f.iu f.Ob f.gX f.N8 o)) g.py.gc) g.gR g.N6 g.N7 g.bh g.gW g.N5)).length from (gZ rfl)] at au;exact Ra ⟨(some ⟨aJ,aN,none⟩),n,rfl,au.pk [2,3]⟩
 refine go ?_;refine LW.u (iq.nc rfl) rfl ?_;refine go ?_;refine LW.l (jf.jX aD mK rfl (C 15 _ rfl)) (ay.zC 2 rfl A) rfl ?_;refine go ?_;refine LW.u (iq.min rfl rfl) rfl ?_;refine LW.u (iq.nc rfl) rfl ?_;refine go ?_;have aU:=ay.iz (α:=cd) 2 rfl H;have ⟨b2,ah,h⟩:=ob h;refine LW.se 15 aU 2 ai ah (hM:=(je (fun w cs F hF=>by obtain ⟨bN,bT,bO,bU,bP,bV,bQ,bW,bR,bX,bS,bY,rfl,hH⟩:=hF;exact ⟨bN,bT,bO,bU,bP,bV,bQ,bW,bR,bX,bS,bY,rfl,hH⟩))) fun b1 aw=>?_;refine go ?_;replace h:=oi h;subst h;rw [gZ (oi ah)] at aw;exact Ra ⟨(some ⟨aJ,aN,none⟩),n,rfl,aw.pk [1,2]⟩
instance k_74:Ct prog 74:=⟨by kernel_rfl,@Bm⟩
theorem CK {w0 N l o p i r} (h:qX N l o p i=some r) {b f d} (g:f=l.length) (q:rb w0 b d l) :
    gV prog 299 #[vS b f d,vI o,vI p,.agg #[vI i.gE,vI i.gT,vI i.g8]] w0 (fun v w=>∃ j k,v=.tuple #[vS j r.1.length k,.bool r.2]∧St w0 [] w [sl j k r.1]):=by
 subst g;unfold qX at h;refine gV.fn func299 fun e=>?_;have J:=St.start w0;refine T ?_;intro ae af K ai U h ac ad ah m;obtain ⟨B,n,u⟩:=ob h;refine CW.jn [0,2,7,10] [0,1] [(26,.bool B)] m (h1:=?_) (h2:=?_)
 · have h:=n;refine gB h ?_ ?_<;>intro _ h
   · exact rt
   refine T ?_;intro Z x h V L;exact rt
 intro e W M;have h:=u;refine gc h ?_ ?_<;>intro _ h
 · refine T ?_;intro aa z h C H X O;exact rt
 refine T ?_;intro ab A h G I Y R;exact rt
instance k_299:Ct prog 299:=⟨by kernel_rfl,@CK⟩
theorem Aq {w0} {F:List Nat} {N b L r} (h:og N b L=some r) {A:Nat} {d l} (M:iM (jo w0 F) w0 d l b.NX.NZ.NY) {f m} (O:iM (jo w0 F) w0 f m b.NX.own) {g n} (R:iM (jo w0 F) w0 g n b.NX.N1) {i o} (x:iM (jo w0 F) w0 i o b.NX.py.ag) {j p} (U:iM (jo w0 F) w0 j p b.NX.py.gc.gQ) {k q} (V:iM (jo w0 F) w0 k q b.NX.gR) (hS:St w0 F w0 [bx A 188 (qC d l f m g n i o j p k q b)]) :
    gV prog 234 #[.pointer (some ⟨A,0,none⟩),vI L] w0 (fun v w=>v=.tuple #[vI r.1,vI r.2.1]∧St w0 F w [bx A 188 [vS d b.NX.NZ.NY.length l,vS f b.NX.own.length m,vS g b.NX.N1.length n,vS i b.NX.py.ag.length o,vI r.2.2.NX.py.gc.N2,vI r.2.2.NX.py.gc.Oa,vI r.2.2.NX.py.gc.N3,vS j b.NX.py.gc.gQ.length p,vS k b.NX.gR.length q,vI r.2.2.NX.N6,vI r.2.2.NX.N7,vI r.2.2.NX.bh.gE,vI r.2.2.NX.bh.gT,vI r.2.2.NX.bh.g8,vI r.2.2.NX.gW,vI r.2.2.NX.N5,vI r.2.2.me,vI r.2.2.Oc,vI r.2.2.ig]]):=by
 unfold og at h;refine gV.fn func234 fun e=>?_;refine jA ?_;have ak:=hS.drew;refine gb h fun aE J h=>?_;obtain ⟨aC,aD,ai,rfl,ap,ar,au,⟨ab,ae,ac,af,ad,ah,rfl,W,X,Y⟩,aq⟩:=x.idx J;refine go ?_;refine T ?_;intro aj av am aw u;refine gc h ?_ ?_<;>intro _ h
 · refine jA ?_;have G:=u.drew;refine go ?_;replace h:=oi h;subst h;exact Rc tt tt ⟨rfl,G.pk [1]⟩
 refine gc h ?_ ?_<;>intro _ h
 · refine jA ?_;have H:=u.drew;refine go ?_;replace h:=oi h;subst h;exact Rc tt tt ⟨rfl,H.pk [1]⟩
 refine gs ?_;refine CW.region ?_;refine gs ?_;obtain ⟨K,B,C⟩:=ob h;refine CW.jn [0,1] [1] [(28,.bool K)] u (h1:=?_) (h2:=?_)
 · have h:=B;refine gc h ?_ ?_<;>intro _ h
   · exact rt
   refine gc h ?_ ?_<;>intro _ h
   · exact rt
   exact rt
 intro e ax z;have h:=C;refine gc h ?_ ?_<;>intro _ h
 · refine jA ?_;have an:=z.drew;refine go ?_;refine jP 8 ?_;refine T ?_;intro aA Z h ay ao aB aa h az I;replace h:=oi h;subst h;exact Rc tt tt ⟨rfl,I.pk [0]⟩
 refine go ?_;replace h:=oi h;subst h;exact Rc tt tt ⟨rfl,z.pk [0]⟩
instance k_234:Ct prog 234:=⟨by kernel_rfl,@Aq⟩
theorem Ep {w0 N b R U r} (h:qg N b R U=some r) {d u l} (G:u=b.NZ.NY.length) (V:rb w0 d l b.NZ.NY) {f x m} (H:x=b.own.length) (W:rb w0 f m b.own) {g z n} (I:z=b.N1.length) (X:rb w0 g n b.N1) {i A o} (J:A=b.py.ag.length) (M:rb w0 i o b.py.ag) {j B p} (K:B=b.py.gc.gQ.length) (Y:rb w0 j p b.py.gc.gQ) {k C q} (L:C=b.gR.length) (Z:rb w0 k q b.gR) :
    gV prog 71 #[.agg #[vS d u l,vS f x m,vS g z n,vS i A o,vI b.py.gc.N2,vI b.py.gc.Oa,vI b.py.gc.N3,vS j B p,vS k C q,vI b.N6,vI b.N7,vI b.bh.gE,vI b.bh.gT,vI b.bh.g8,vI b.gW,vI b.N5],vI R,vI U] w0 (fun v w=>v=.bool r∧St w0 [] w []):=by
 subst G H I J K L;unfold qg at h;refine gV.fn func71 fun e=>?_;have ar:=St.start w0;refine T ?_;intro aD aE au;refine T ?_;intro aH ax h aB aC aF av aI ay h aG aw;refine bH h ?_ ?_<;>intro _ h
 · refine gb h fun aA O h=>?_;obtain ⟨an,az,aa,rfl,ab,ad,ae,⟨aj,ao,ak,ap,am,aq,rfl,af,ah,ai⟩,ac⟩:=M.idx O;refine go ?_;refine T ?_;exact rt
 exact rt
instance k_71:Ct prog 71:=⟨by kernel_rfl,@Ep⟩
theorem At {w0} {F:List Nat} {N g I r} (h:mJ N g I=some r) {ak:Nat} {m z} (aD:iM (jo w0 F) w0 m z g.NX.NZ.NY) {n A} (aE:iM (jo w0 F) w0 n A g.NX.own) {o B} (aF:iM (jo w0 F) w0 o B g.NX.N1) {p k q C} (aG:iM (jo w0 F) w0 q C g.NX.py.gc.gQ) {x H} (aH:iM (jo w0 F) w0 x H g.NX.gR) (hS:St w0 F w0 [bx ak 188 [vS m g.NX.NZ.NY.length z,vS n g.NX.own.length A,vS o g.NX.N1.length B,vS p g.NX.py.ag.length k,vI g.NX.py.gc.N2,vI g.NX.py.gc.Oa,vI g.NX.py.gc.N3,vS q g.NX.py.gc.gQ.length C,vS x g.NX.gR.length H,vI g.NX.N6,vI g.NX.N7,vI g.NX.bh.gE,vI g.NX.bh.gT,vI g.NX.bh.g8,vI g.NX.gW,vI g.NX.N5,vI g.me,vI g.Oc,vI g.ig],sl p k g.NX.py.ag]) :
    gV prog 143 #[.pointer (some ⟨ak,0,none⟩),.agg #[vI I.N0,vI I.a,vI I.b,vI I.c,vI I.d,vI I.e]] w0 (fun v w=>∃ L W,v=.tuple #[vI r.1,vI r.2.1]∧St w0 F w [bx ak 188 [vS m g.NX.NZ.NY.length z,vS n g.NX.own.length A,vS o g.NX.N1.length B,vS L r.2.2.NX.py.ag.length W,vI r.2.2.NX.py.gc.N2,vI r.2.2.NX.py.gc.Oa,vI r.2.2.NX.py.gc.N3,vS q g.NX.py.gc.gQ.length C,vS x g.NX.gR.length H,vI r.2.2.NX.N6,vI r.2.2.NX.N7,vI r.2.2.NX.bh.gE,vI r.2.2.NX.bh.gT,vI r.2.2.NX.bh.g8,vI r.2.2.NX.gW,vI r.2.2.NX.N5,vI r.2.2.me,vI r.2.2.Oc,vI r.2.2.ig],sl L W r.2.2.NX.py.ag]):=by
 unfold mJ at h;refine gV.fn func143 fun e=>?_;refine T ?_;intro bo bp ba aZ bd h bq ab;refine CW.fl [0,3,6,7,17] fun e=>?_;refine gc h ?_ ?_<;>intro _ h
 · refine go ?_;replace h:=oi h;subst h;exact Rc tt tt ⟨p,k,rfl,ab.pk [0,2]⟩
 refine go ?_;refine LW.u (iq.nc rfl) rfl ?_;refine gb h fun f ah h=>?_;obtain ⟨M,X,hae,bc,aS⟩:=ab.hZ (α:=gP) (i:=2) rfl ah;subst hae;refine go ?_;obtain ⟨a0,l,bb⟩:=ab.freeze (α:=gP) 2 rfl;obtain ⟨a5,be,aJ,hae,ap,_,_,ar,av⟩:=l.jk.idx ah;cases hae;obtain ⟨J,R,a1,U,K,V,rfl,aV,ad,aW⟩:=ar;refine T ?_;intro bk aX h bg ai;refine CW.fl [0,3,8,35] fun e=>?_;refine gc h ?_ ?_<;>intro _ h
 · refine go ?_;replace h:=oi h;subst h;have az:=ai.iz (α:=gP) 2 rfl l;exact Rc tt tt ⟨(some ⟨M,X,none⟩),k,rfl,az.pk [0,2]⟩
 refine gc h ?_ ?_<;>intro _ h
 · refine jA ?_;have aA:=ai.drew;refine gb h fun bl ay h=>?_;obtain ⟨a6,bf,aK,rfl,aM,aQ,aT,rfl,aO⟩:=ad.idx ay;refine go ?_;refine T ?_;replace h:=oi h;subst h;have aB:=aA.iz (α:=gP) 2 rfl l;exact Rc tt tt ⟨(some ⟨M,X,none⟩),k,rfl,aB.pk [0,2]⟩
 refine T ?_;intro bm aY h bi ac;refine gc h ?_ ?_<;>intro _ h
 · refine go ?_;replace h:=oi h;subst h;have aC:=ac.iz (α:=gP) 2 rfl l;exact Rc tt tt ⟨(some ⟨M,X,none⟩),k,rfl,aC.pk [0,2]⟩
 refine gb h fun bn ae h=>?_;obtain ⟨O,Y,aL,rfl,aN,aR,aU,rfl,aP⟩:=ad.idx ae;refine go ?_;have aw:=fun (j:Nat) (u:Value) (hu:([vI f.Oe,vI f.N0,vI f.box,vI f.Od,vI f.iw,vI f.gE,vI f.N9,vI f.iv,vI f.iu,.bool f.Ob,vS J f.gX.length R,vS (some ⟨O,Y,none⟩) f.N8.length U,vS K f.N4.length V]:List Value)[j]?=some u)=>(World.cell?_of_block (ac.zC 2 rfl ap)).trans (av j u hu);have an:=ac.iz (α:=gP) 2 rfl l;obtain ⟨aI,ax,au⟩:=an.focus (α:=gP) (cs:=[vI f.Oe,vI f.N0,vI f.box,vI f.Od,vI f.iw,vI f.gE,vI f.N9,vI f.iv,vI f.iu,.bool f.Ob,vS J f.gX.length R,vS (some ⟨O,Y,none⟩) f.N8.length U,vS K f.N4.length V]) 2 rfl ah rfl aw;obtain ⟨a2,a7,a3,a8,a4,a9,aq,am⟩:=ax;cases aq;have ao:=au [sl J R f.gX,sl (some ⟨O,Y,none⟩) U f.N8,sl K V f.N4] am;have ⟨aj,af,h⟩:=ob h;refine LW.se 0 ao 1 ae af (hM:=td) fun bj Z=>?_;refine go ?_;replace h:=oi h;subst h;rw [gZ (oi af)] at Z;have aa:=Z.nC (gP.mk f.Oe f.N0 f.box f.Od f.iw f.gE f.N9 f.iv f.iu f.Ob f.gX aj f.N4) [0,1,2,3,4,5] 3 2 rfl rfl (fun w G hG=>⟨J,R,(some ⟨O,Y,none⟩),U,K,V,rfl,hG⟩)
 rw [show g.NX.py.ag.length=(g.NX.py.ag.set (aZ.1:Int).toNat (gP.mk f.Oe f.N0 f.box f.Od f.iw f.gE f.N9 f.iv f.iu f.Ob f.gX aj f.N4)).length from (gZ rfl)] at aa;exact Rc tt tt ⟨(some ⟨M,X,none⟩),k,rfl,aa.pk [0,2]⟩
instance k_143:Ct prog 143:=⟨by kernel_rfl,@At⟩
theorem zS {w0} {F:List Nat} {N j g r} (h:nT N j g=some r) {Y:Nat} {B I} (aS:iM (jo w0 F) w0 B I j.NX.NZ.NY) {C J} (aT:iM (jo w0 F) w0 C J j.NX.own) {O R k m l n G K} (aU:iM (jo w0 F) w0 G K j.NX.gR) (hS:St w0 F w0 [bx Y 188 (qC B I C J O R k m l n G K j),sl O R j.NX.N1,sl k m j.NX.py.ag,sl l n j.NX.py.gc.gQ]) :
    gV prog 228 #[.pointer (some ⟨Y,0,none⟩),.agg #[vI g.N0,vI g.a,vI g.b,vI g.c,vI g.d,vI g.e]] w0 (fun v w=>∃ Z ac, ∃ aa ad, ∃ ab ae,v=.tuple #[vI r.1,vI r.2.1]∧St w0 F w [bx Y 188 [vS B j.NX.NZ.NY.length I,vS C j.NX.own.length J,vS Z r.2.2.NX.N1.length ac,vS aa r.2.2.NX.py.ag.length ad,vI r.2.2.NX.py.gc.N2,vI r.2.2.NX.py.gc.Oa,vI r.2.2.NX.py.gc.N3,vS ab r.2.2.NX.py.gc.gQ.length ae,vS G j.NX.gR.length K,vI r.2.2.NX.N6,vI r.2.2.NX.N7,vI r.2.2.NX.bh.gE,vI r.2.2.NX.bh.gT,vI r.2.2.NX.bh.g8,vI r.2.2.NX.gW,vI r.2.2.NX.N5,vI r.2.2.me,vI r.2.2.Oc,vI r.2.2.ig],sl Z ac r.2.2.NX.N1,sl aa ad r.2.2.NX.py.ag,sl ab ae r.2.2.NX.py.gc.gQ]):=by
 unfold nT at h;refine gV.fn func228 fun e=>?_;refine T ?_;intro aM cj an;obtain ⟨bo,aR,aW⟩:=ob h;refine CW.jn [0,3] [0,1,2,3,4] [(42,.bool bo)] an (h1:=?_) (h2:=?_)
 · have h:=aR;refine dW ?_;have bG:=an.drew;refine T ?_;intro cm bM h ck bI;refine bH h ?_ ?_<;>intro _ h
   · exact rt
   refine T ?_;intro cn bN h cl bJ;refine bH h ?_ ?_<;>intro _ h
   · exact rt
   refine T ?_;intro ca bf h bQ bK;refine bH h ?_ ?_<;>intro _ h
   · exact rt
   refine gB h ?_ ?_<;>intro _ h
   · exact rt
   refine T ?_;intro cb bg h bR bL;exact rt
 intro e bS aP;have h:=aW;refine gc h ?_ ?_<;>intro _ h
 · refine go ?_;replace h:=oi h;subst h;exact Rc tt tt ⟨O,R,k,m,l,n,rfl,aP.pk [1,2,3,4]⟩
 refine T ?_;intro M bj h bT aQ;refine CW.fl [0,3,6,7,51] fun e=>?_;refine gc h ?_ ?_<;>intro _ h
 · refine go ?_;replace h:=oi h;subst h;exact Rc tt tt ⟨O,R,k,m,l,n,rfl,aQ.pk [0,2,3,4]⟩
 refine jj [(0,vI g.c),(1,vI (i64.wrap (g.c * g.d)))] #[vI g.c,vI (i64.wrap (g.c * g.d)),vI 0] ?_;refine T ?_;intro f bk h H L bU ao;refine CW.fl [0,3,6,65] fun e=>?_;refine gc h ?_ ?_<;>intro _ h
 · refine go ?_;replace h:=oi h;subst h;exact Rc tt tt ⟨H,L,k,m,l,n,rfl,ao.pk [0,1,3,4]⟩
 refine gs ?_;obtain ⟨o,aE,aN⟩:=ob h;refine CW.cut (fun e wb=>∃ (A:Nat) (p:Ad) (x:Nat) (U:Ad) (V:Nat) (q:Ad) (z:Nat),En e [(0,.pointer (some ⟨Y,0,none⟩)),(3,.pointer (some ⟨aM,0,none⟩)),(8,.pointer (some ⟨A,0,none⟩))]∧St w0 F wb [bx Y 188 [vS B j.NX.NZ.NY.length I,vS C j.NX.own.length J,vS H f.2.NX.N1.length L,vS k j.NX.py.ag.length m,vI f.2.NX.py.gc.N2,vI f.2.NX.py.gc.Oa,vI f.2.NX.py.gc.N3,vS l j.NX.py.gc.gQ.length n,vS G j.NX.gR.length K,vI f.2.NX.N6,vI f.2.NX.N7,vI f.2.NX.bh.gE,vI f.2.NX.bh.gT,vI f.2.NX.bh.g8,vI f.2.NX.gW,vI f.2.NX.N5,vI f.2.me,vI f.2.Oc,vI f.2.ig],sl H L f.2.NX.N1,bx aM 49 (qL g),sl k m j.NX.py.ag,sl l n j.NX.py.gc.gQ,bx A 160 [vI 0,vI g.a,vI M.1,vI g.e,vI (i64.wrap (f.2.Oc+g.d)),vI g.c,vI 0,vI 0,vI 0,.bool false,vS p o.1.length x,vS U o.2.1.length V,vS q o.2.2.length z],sl p x o.1,sl U V o.2.1,sl q z o.2.2]) ?_ ?_
 · have h:=aE;refine dW ?_;have aq:=ao.drew;refine go ?_;refine AW.all (rs:=[14,16]) (by kernel_rfl) (by simp) ⟨?_,?_,trivial⟩
   · refine oA ?_;refine LW.bi [-1, -1] aq ?_;intro ai ak bV aX hf;refine T ?_;refine AW.u (i:=15) rfl (by kernel_rfl) rfl rfl (iq.build (vs:=[(1,vI g.a),(2,vI M.1),(3,vI g.e),(4,vI (i64.wrap (f.2.Oc+g.d))),(5,vI g.c),(10,vS ai (([-1, -1]:List Int).length) ak)]) (cs:=#[vI 0,vI g.a,vI M.1,vI g.e,vI (i64.wrap (f.2.Oc+g.d)),vI g.c,vI 0,vI 0,vI 0,.bool false,vS ai (([-1, -1]:List Int).length) ak,vS none 0 0,vS none 0 0]) rfl (by kernel_rfl)) ?_;refine T ?_;intro bE bW aY bX ar;have au:=ar.nil (α:=Int);have aZ:=au.nil (α:=iS);exact rt
   refine oA ?_;refine T ?_;intro bF bY av;refine jP 14 ?_;refine LW.bi [-1, -1] av ?_;intro aj am bZ a0 hf;refine T ?_;refine AW.u (i:=15) rfl (by kernel_rfl) rfl rfl (iq.build (vs:=[(1,vI g.a),(2,vI M.1),(3,vI g.e),(4,vI (i64.wrap (f.2.Oc+g.d))),(5,vI g.c),(10,vS aj (([-1, -1]:List Int).length) am)]) (cs:=#[vI 0,vI g.a,vI M.1,vI g.e,vI (i64.wrap (f.2.Oc+g.d)),vI g.c,vI 0,vI 0,vI 0,.bool false,vS aj (([-1, -1]:List Int).length) am,vS none 0 0,vS none 0 0]) rfl (by kernel_rfl)) ?_;refine T ?_;intro b0 aw;have ax:=aw.nil (α:=Int);have a1:=ax.nil (α:=iS);exact rt
 rintro e b1 ⟨A,p,x,U,V,q,z,hE,ay⟩;obtain ⟨e,rfl⟩:=hE.out;have h:=aN;refine gs ?_;refine CW.region ?_;refine gs ?_;obtain ⟨ap,aF,aO⟩:=ob h;refine CW.cut (fun e wb=>∃ (W:Ad) (X:Nat),En e [(0,.pointer (some ⟨Y,0,none⟩)),(8,.pointer (some ⟨A,0,none⟩))]∧St w0 F wb [bx Y 188 [vS B j.NX.NZ.NY.length I,vS C j.NX.own.length J,vS H f.2.NX.N1.length L,vS k j.NX.py.ag.length m,vI f.2.NX.py.gc.N2,vI f.2.NX.py.gc.Oa,vI f.2.NX.py.gc.N3,vS l j.NX.py.gc.gQ.length n,vS G j.NX.gR.length K,vI f.2.NX.N6,vI f.2.NX.N7,vI f.2.NX.bh.gE,vI f.2.NX.bh.gT,vI f.2.NX.bh.g8,vI f.2.NX.gW,vI f.2.NX.N5,vI f.2.me,vI f.2.Oc,vI f.2.ig],sl H L f.2.NX.N1,sl k m j.NX.py.ag,sl l n j.NX.py.gc.gQ,bx A 160 [vI 0,vI g.a,vI M.1,vI g.e,vI (i64.wrap (f.2.Oc+g.d)),vI g.c,vI 0,vI 0,vI 0,.bool false,vS p o.1.length x,vS W ap.length X,vS q o.2.2.length z],sl p x o.1,sl q z o.2.2,sl W X ap]) ?_ ?_
 · have h:=aF;refine gc h ?_ ?_<;>intro _ h
   · refine gb h fun cc aH h=>?_;refine LW.mk pH rfl rfl aH ay rfl ?_;intro bq bz b2 a2 hf;refine T ?_;intro b3 a3;exact rt
   exact rt
 rintro e b4 ⟨W,X,hE,az⟩;obtain ⟨e,rfl⟩:=hE.out;have h:=aO;refine jA ?_;have a4:=az.drew;refine T ?_;intro ce bl h br bA b5 aA;refine gc h ?_ ?_<;>intro _ h
 · refine go ?_;replace h:=oi h;subst h;exact Rc tt tt ⟨H,L,k,m,l,n,rfl,aA.pk [1,2,3,4]⟩
 refine go ?_;refine LW.u (iq.nc rfl) rfl ?_;refine T ?_;intro b6 a5;refine LW.u (iq.nc rfl) rfl ?_;refine T ?_;intro cf bm h aI aK aJ aL b7 a6;refine LW.u (iq.nc rfl) rfl ?_;refine T ?_;intro b8 aB;refine dW ?_;have af:=aB.drew;refine gb h fun cg ah h=>?_;obtain ⟨bv,bO,hae,ba,bb⟩:=af.hZ (α:=gP) (i:=2) rfl ah;subst hae;refine go ?_;obtain ⟨bp,aG,a7⟩:=af.freeze (α:=gP) 2 rfl;obtain ⟨bw,bP,aV,hae,a8,_,_,aD,a9⟩:=aG.jk.idx ah;cases hae;obtain ⟨bs,bB,bt,bC,bu,bD,rfl,bc,bd,be⟩:=aD;refine T ?_;intro ci bn h b9 aC;replace h:=oi h;subst h;exact Rc tt tt ⟨H,L,aI,aK,aJ,aL,rfl,aC.pk [3,4,0,1]⟩
instance k_228:Ct prog 228:=⟨by kernel_rfl,@zS⟩
end Go.Kx
