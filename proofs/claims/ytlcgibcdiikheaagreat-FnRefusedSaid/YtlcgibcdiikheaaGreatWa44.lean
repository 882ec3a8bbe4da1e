import Derived.Test.YtlcgibcdiikheaaGreatWa37
import Derived.Test.YtlcgibcdiikheaaGreatWa38
import Derived.Test.YtlcgibcdiikheaaGreatWa39
namespace Go.Kx
open Go Go.RowKit Go.Proofs
open Tryz
set_option maxRecDepth 10000
set_option maxHeartbeats 8000000
set_option linter.unusedVariables false
set_option linter.unusedSimpArgs false
theorem Bl {w0} {F:List Nat} {N ak ba a4 k r} (h:pE N ak ba a4 k=some r) {aO:Nat} {q n} (hS:St w0 F w0 [bx aO 26 [vI ak.PQ,vS q ak.parts.length n],sl q n ak.parts]) :
    iq prog 80 #[.pointer (some ⟨aO,0,none⟩),vI ba,vI a4,.agg #[vI k.Pz,vI k.a,vI k.b,vI k.c,vI k.d,vI k.e]] w0 (fun v w=>∃ V af,v=vI r.1∧St w0 F w [bx aO 26 [vI r.2.PQ,vS V r.2.parts.length af],sl V af r.2.parts]):=by
 unfold pE at h;refine iq.fn func80 fun e=>?_;refine yk hS fun cw cx a6=>?_;refine gb h fun cz a7 h=>?_;refine LW.c0 (mY a7) a6 fun cy av=>?_;refine gc h ?_ ?_<;>intro _ h
 · refine go ?_;replace h:=oi h;subst h;exact Ra ⟨q,n,rfl,av.pk [1,2]⟩
 refine go ?_;refine LW.u (iQ.nc rfl) rfl ?_;refine gb h fun cA a8 h=>?_;refine LW.c0 (zu a8 rfl (av.rI 2 rfl)) av fun aD ax=>?_;refine kD [0,2,7,23] fun e=>?_;refine gc h ?_ ?_<;>intro _ h
 · refine go ?_;replace h:=oi h;subst h;exact Ra ⟨q,n,rfl,ax.pk [1,2]⟩
 refine go ?_;refine LW.u (iQ.nc rfl) rfl ?_;refine gb h fun g ai h=>?_;obtain ⟨aJ,aN,hae,bt,bw⟩:=ax.iF (α:=cd) (i:=2) rfl ai;subst hae;refine go ?_;refine LW.u (iQ.nc rfl) rfl ?_;refine go ?_;obtain ⟨b3,H,aK⟩:=ax.freeze (α:=cd) 2 rfl;obtain ⟨cc,cp,bq,hae,A,_,_,aW,C⟩:=H.kc.idx ai;cases hae;obtain ⟨J,X,K,Y,L,Z,b4,aa,M,ab,O,ac,rfl,bB,bC,bD,I,bE,bF⟩:=aW;refine LW.l (jV.lC aD z9 rfl (C 3 _ rfl)) (aK.zC 2 rfl A) rfl ?_;refine kb ?_;have aL:=aK.drew;refine gb h fun aj a2 h=>?_;refine jO 8 ?_;refine LW.cl (wE a2 rfl (aL.rZ 2 rfl I)) ?_;rintro _ cr ⟨rfl,hs⟩;have p:=aL.add hs;refine jn ?_;refine gs ?_;obtain ⟨a9,aY,a5⟩:=ob h;refine CW.jn [0,7,9,10,11] [0,1,2] [(62,.bool a9)] p (h1:=?_) (h2:=?_)
 · have h:=aY;refine gB h ?_ ?_<;>intro _ h
   · refine gb h fun cv a3 h=>?_;obtain ⟨cf,cq,br,rfl,az,bu,bz,⟨b5,cg,b6,ci,b7,cj,rfl,bG,bI,bJ⟩,aA⟩:=I.idx a3;refine go ?_;refine LW.l (jV.lC aD na rfl (aA 1 _ rfl)) (p.zC 2 rfl az) rfl ?_;refine gB h ?_ ?_<;>intro _ h
     · refine go ?_;refine LW.l (jV.lC aD rn rfl (aA 12 _ rfl)) (p.zC 2 rfl az) rfl ?_;refine go ?_;cases oi h;exact p.po [0,1,2]
     refine go ?_;cases oi h;exact p.po [0,1,2]
   refine go ?_;cases oi h;exact p.po [0,1,2]
 intro e ct ay;have h:=a5;refine kD [0,7,9,10,11,62] fun e=>?_;refine gc h ?_ ?_<;>intro _ h
 · refine dW ?_;have aM:=ay.drew;refine gb h fun f aC h=>?_;obtain ⟨W,z,bs,rfl,B,bv,bA,⟨R,ad,U,ae,an,ap,rfl,bK,bL,bM⟩,aB⟩:=I.idx aC;refine go ?_;refine AW.tk 6 rfl (jV.lC aD rn rfl (aB 12 _ rfl)) (aM.zC 2 rfl B) ?_;refine go ?_;refine AW.u (i:=9) rfl (by kernel_rfl) rfl rfl (iQ.build (vs:=[(0,vI (-1)),(1,vI k.b)]) (cs:=#[vI (-1),vI k.b]) rfl (by kernel_rfl)) ?_;refine jO 10 ?_;refine LW.wj (α:=je) (vs:=[(0,.agg #[vI (-1),vI k.b])]) (cs:=#[vI (-1),vI k.b]) (l:=([je.mk (-1) k.b]:List je)) rfl (by kernel_rfl) rfl rfl rfl (fun w=>⟨[vI (-1),vI k.b],[],[],[],rfl,rfl,⟨rfl,rfl⟩,rfl⟩) aM rfl ?_;intro b8 ck cu x hf;refine jN (.c (x.ce 1) (.c (x.zC 3 rfl B) jZ)) ?_;have aZ:=fun (j:Nat) (u:Value) (hu:([vS J g.PB.PA.length X,vS K g.own.length Y,vS L g.PC.length Z,vS (some ⟨W,z,none⟩) g.py.ag.length aa,vI g.py.gc.PD,vI g.py.gc.PL,vI g.py.gc.PF,vS M g.py.gc.hZ.length ab,vS O g.ia.length ac,vI g.PJ,vI g.PI,vI g.hY.bh,vI g.hY.ib,vI g.hY.ij,vI g.ik,vI g.PH]:List Value)[j]?=some u)=>(World.cell?_of_block (x.zC 3 rfl A)).trans (C j u hu);have a0:=fun (j:Nat) (u:Value) (hu:((qO R ad U ae an ap f):List Value)[j]?=some u)=>(World.cell?_of_block (x.zC 3 rfl B)).trans (aB j u hu);have aQ:=x.i7 (α:=cd) 3 rfl H;obtain ⟨bc,a1,aX⟩:=aQ.focus (α:=cd) (cs:=[vS J g.PB.PA.length X,vS K g.own.length Y,vS L g.PC.length Z,vS (some ⟨W,z,none⟩) g.py.ag.length aa,vI g.py.gc.PD,vI g.py.gc.PL,vI g.py.gc.PF,vS M g.py.gc.hZ.length ab,vS O g.ia.length ac,vI g.PJ,vI g.PI,vI g.hY.bh,vI g.hY.ib,vI g.hY.ij,vI g.ik,vI g.PH]) 3 rfl ai rfl aZ;obtain ⟨b9,cm,ca,cn,cb,co,bd,bk,be,bl,bf,bm,aV,aP⟩:=a1;cases aV;have aR:=aX [sl J X g.PB.PA,sl K Y g.own,sl L Z g.PC,sl (some ⟨W,z,none⟩) aa g.py.ag,sl M ab g.py.gc.hZ,sl O ac g.ia] aP
   obtain ⟨bb,aH,aG⟩:=aR.focus (α:=gE) (cs:=[vI f.PO,vI f.Pz,vI f.box,vI f.res,vI f.iK,vI f.bh,vI f.PK,vI f.iP,vI f.iM,.bool f.mark,vS R f.ig.length ad,vS U f.PG.length ae,vS an f.PE.length ap]) 3 rfl aC rfl a0;obtain ⟨bg,bn,bi,bo,bj,bp,aF,aE⟩:=aH;cases aF;have aq:=aG [sl R ad f.ig,sl U ae f.PG,sl an ap f.PE] aE;have ⟨o,aI,h⟩:=ob h;refine jO 11 ?_;refine LW.jT (l:=f.PE) (m:=([je.mk (-1) k.b]:List je)) rK rfl rfl (aq.rI 9 rfl) aI aq (i:=2) rfl rfl ?_;intro am ao bZ aS hf;refine jn ?_;refine zK 14 ?_;refine LW.xh (α:=gE) (vs:=[vS am o.length ao]) aS 6 rfl rn rfl (by show _=z+(aj:Int).toNat * 13+12;omega) rfl rfl rfl rfl ?_;intro b0 aT hf;refine jn ?_;refine go ?_;replace h:=oi h;subst h;have ar:=aT.oF (gE.mk f.PO f.Pz f.box f.res f.iK f.bh f.PK f.iP f.iM f.mark f.ig f.PG o) [0,1,2,3,4,5,6,7,8,9,10,11,12] 3 3 rfl rfl (fun w G hG=>⟨R,ad,U,ae,am,ao,rfl,hG⟩)
   rw [show g.py.ag.length=(g.py.ag.set (aj:Int).toNat (gE.mk f.PO f.Pz f.box f.res f.iK f.bh f.PK f.iP f.iM f.mark f.ig f.PG o)).length from (iB rfl)] at ar;have au:=ar.oF (cd.mk g.PB g.own g.PC (il.mk (g.py.ag.set (aj:Int).toNat (gE.mk f.PO f.Pz f.box f.res f.iK f.bh f.PK f.iP f.iM f.mark f.ig f.PG o)) g.py.gc) g.ia g.PJ g.PI g.hY g.ik g.PH) [0,1,2,3,4,5,6,7,8,9] 6 3 rfl rfl (fun w G hG=>⟨J,X,K,Y,L,Z,(some ⟨W,z,none⟩),aa,M,ab,O,ac,rfl,hG⟩)
   rw [show ak.parts.length=(ak.parts.set (a4:Int).toNat (cd.mk g.PB g.own g.PC (il.mk (g.py.ag.set (aj:Int).toNat (gE.mk f.PO f.Pz f.box f.res f.iK f.bh f.PK f.iP f.iM f.mark f.ig f.PG o)) g.py.gc) g.ia g.PJ g.PI g.hY g.ik g.PH)).length from (iB rfl)] at au;exact Ra ⟨(some ⟨aJ,aN,none⟩),n,rfl,au.pk [2,3]⟩
 refine go ?_;refine LW.u (iQ.nc rfl) rfl ?_;refine go ?_;refine LW.l (jV.lC aD na rfl (C 15 _ rfl)) (ay.zC 2 rfl A) rfl ?_;refine go ?_;refine LW.u (iQ.min rfl rfl) rfl ?_;refine LW.u (iQ.nc rfl) rfl ?_;refine go ?_;have aU:=ay.i7 (α:=cd) 2 rfl H;have ⟨b2,ah,h⟩:=ob h;refine LW.se 15 aU 2 ai ah (hM:=(ko (fun w cs F hF=>by obtain ⟨bN,bT,bO,bU,bP,bV,bQ,bW,bR,bX,bS,bY,rfl,hH⟩:=hF;exact ⟨bN,bT,bO,bU,bP,bV,bQ,bW,bR,bX,bS,bY,rfl,hH⟩))) fun b1 aw=>?_;refine go ?_;replace h:=oi h;subst h;rw [iB (oi ah)] at aw;exact Ra ⟨(some ⟨aJ,aN,none⟩),n,rfl,aw.pk [1,2]⟩
instance k_80:Ct prog 80:=⟨by kernel_rfl,@Bl⟩
theorem Er {w0 N l o p i r} (h:rX N l o p i=some r) {b f d} (g:f=l.length) (q:rb w0 b d l) :
    iq prog 326 #[vS b f d,vI o,vI p,.agg #[vI i.bh,vI i.ib,vI i.ij]] w0 (fun v w=>∃ j k,v=.tuple #[vS j r.1.length k,.bool r.2]∧St w0 [] w [sl j k r.1]):=by
 subst g;unfold rX at h;refine iq.fn func326 fun e=>?_;have J:=St.start w0;refine T ?_;intro ae af K ai U h ac ad ah m;obtain ⟨B,n,u⟩:=ob h;refine CW.jn [0,2,7,10] [0,1] [(26,.bool B)] m (h1:=?_) (h2:=?_)
 · have h:=n;refine gB h ?_ ?_<;>intro _ h
   · exact rt
   refine T ?_;intro Z x h V L;exact rt
 intro e W M;have h:=u;refine gc h ?_ ?_<;>intro _ h
 · refine T ?_;intro aa z h C H X O;exact rt
 refine T ?_;intro ab A h G I Y R;exact rt
instance k_326:Ct prog 326:=⟨by kernel_rfl,@Er⟩
theorem Bj {w0} {F:List Nat} {N b L r} (h:oR N b L=some r) {A:Nat} {d l} (M:iR (jo w0 F) w0 d l b.Py.PB.PA) {f m} (O:iR (jo w0 F) w0 f m b.Py.own) {g n} (R:iR (jo w0 F) w0 g n b.Py.PC) {i o} (x:iR (jo w0 F) w0 i o b.Py.py.ag) {j p} (U:iR (jo w0 F) w0 j p b.Py.py.gc.hZ) {k q} (V:iR (jo w0 F) w0 k q b.Py.ia) (hS:St w0 F w0 [bx A 188 (qC d l f m g n i o j p k q b)]) :
    iq prog 257 #[.pointer (some ⟨A,0,none⟩),vI L] w0 (fun v w=>v=.tuple #[vI r.1,vI r.2.1]∧St w0 F w [bx A 188 [vS d b.Py.PB.PA.length l,vS f b.Py.own.length m,vS g b.Py.PC.length n,vS i b.Py.py.ag.length o,vI r.2.2.Py.py.gc.PD,vI r.2.2.Py.py.gc.PL,vI r.2.2.Py.py.gc.PF,vS j b.Py.py.gc.hZ.length p,vS k b.Py.ia.length q,vI r.2.2.Py.PJ,vI r.2.2.Py.PI,vI r.2.2.Py.hY.bh,vI r.2.2.Py.hY.ib,vI r.2.2.Py.hY.ij,vI r.2.2.Py.ik,vI r.2.2.Py.PH,vI r.2.2.me,vI r.2.2.PQ,vI r.2.2.jb]]):=by
 unfold oR at h;refine iq.fn func257 fun e=>?_;refine kb ?_;have ak:=hS.drew;refine gb h fun aE J h=>?_;obtain ⟨aC,aD,ai,rfl,ap,ar,au,⟨ab,ae,ac,af,ad,ah,rfl,W,X,Y⟩,aq⟩:=x.idx J;refine go ?_;refine T ?_;intro aj av am aw u;refine gc h ?_ ?_<;>intro _ h
 · refine kb ?_;have G:=u.drew;refine go ?_;replace h:=oi h;subst h;exact Rc tt tt ⟨rfl,G.pk [1]⟩
 refine gc h ?_ ?_<;>intro _ h
 · refine kb ?_;have H:=u.drew;refine go ?_;replace h:=oi h;subst h;exact Rc tt tt ⟨rfl,H.pk [1]⟩
 refine gs ?_;refine CW.region ?_;refine gs ?_;obtain ⟨K,B,C⟩:=ob h;refine CW.jn [0,1] [1] [(28,.bool K)] u (h1:=?_) (h2:=?_)
 · have h:=B;refine gc h ?_ ?_<;>intro _ h
   · exact rt
   refine gc h ?_ ?_<;>intro _ h
   · exact rt
   exact rt
 intro e ax z;have h:=C;refine gc h ?_ ?_<;>intro _ h
 · refine kb ?_;have an:=z.drew;refine go ?_;refine jP 8 ?_;refine T ?_;intro aA Z h ay ao aB aa h az I;replace h:=oi h;subst h;exact Rc tt tt ⟨rfl,I.pk [0]⟩
 refine go ?_;replace h:=oi h;subst h;exact Rc tt tt ⟨rfl,z.pk [0]⟩
instance k_257:Ct prog 257:=⟨by kernel_rfl,@Bj⟩
theorem Dz {w0 N X r} (h:rY N X=some r) {H O I} (V:O=X.length) (W:rb w0 H I X) :
    iq prog 105 #[vS H O I] w0 (fun v w=>∃ J K,v=.agg #[vI r.PQ,vS J r.parts.length K]∧St w0 [] w [sl J K r.parts]):=by
 subst V;unfold rY at h;refine iq.fn func105 fun e=>?_;have aI:=St.start w0;refine T ?_;intro R a1 aJ;refine LW.bd [] #[vI 0,vS none 0 0] ?_;refine T ?_;intro U a2 aK a3 aL a6 aN h a4 ah;refine gc h ?_ ?_<;>intro _ h
 · refine T ?_;intro a5 ai;cases h;have Z:=ai.nil (α:=cd);exact And.intro trivial ⟨_,kI.one (iD.b Z 2 rfl rR rfl rfl),none,0,rfl,Z.pk [0]⟩
 refine go ?_;have aj:=ah.nil (α:=cd);obtain ⟨aP,ac,af⟩:=ob h;refine CW.ie ac 0 (fun j e wb=>∃ (f:Ad) (g:Nat),En e [(0,vS H X.length I),(2,.pointer (some ⟨R,0,none⟩)),(3,.pointer (some ⟨U,0,none⟩)),(4,vI j.1)]∧St w0 [] wb [bx U 26 [vI 0,vS f j.2.length g],bx R 26 [vI 0,vS none 0 0],sl f g j.2]) ?_ ⟨none,0,aj.po [1,2,0]⟩ ?_
 · intro j e aR o hM h;obtain ⟨f,g,hE,aM⟩:=hM;obtain ⟨e,rfl⟩:=hE.out;refine gc h ?_ ?_<;>intro _ h
   · refine gb h fun aZ ad h=>?_;obtain ⟨aE,aO,ak,rfl,au,aw,ax,⟨aB,aF,aC,aG,rfl,ay,az⟩,av⟩:=W.idx ad;refine go ?_;refine T ?_;intro d aA h k u l x m z n A p B q C aS am Y aT an aU aa;have ab:=aa.pk (M:=[sl k u d.1.PB.PA,sl l x d.1.own,sl m z d.1.PC,sl n A d.1.py.ag,sl p B d.1.py.gc.hZ,sl q C d.1.ia]++[bx Y 50 (qP k u l x m z n A p B q C d.1),bx U 26 [vI 0,vS f j.2.length g],bx R 26 [vI 0,vS none 0 0],sl f g j.2]) [1,2,3,4,5,6,0,7,8,9];have ⟨a0,ae,h⟩:=ob h;refine LW.l5 (M:=[sl k u d.1.PB.PA,sl l x d.1.own,sl m z d.1.PC,sl n A d.1.py.ag,sl p B d.1.py.gc.hZ,sl q C d.1.ia]) (L:=[bx Y 50 (qP k u l x m z n A p B q C d.1),bx U 26 [vI 0,vS f j.2.length g],bx R 26 [vI 0,vS none 0 0],sl f g j.2]) (vs:=#[vS k d.1.PB.PA.length u,vS l d.1.own.length x,vS m d.1.PC.length z,vS n d.1.py.ag.length A,vI d.1.py.gc.PD,vI d.1.py.gc.PL,vI d.1.py.gc.PF,vS p d.1.py.gc.hZ.length B,vS q d.1.ia.length C,vI d.1.PJ,vI d.1.PI,vI d.1.hY.bh,vI d.1.hY.ib,vI d.1.hY.ij,vI d.1.ik,vI d.1.PH]) (i:=3) D6 rfl (by kernel_rfl) rfl rfl ae ab rfl (fun w G hG=>⟨k,u,l,x,m,z,n,A,p,B,q,C,rfl,hG⟩) rfl rfl ?_;intro aQ aD aH aV ao hf;refine T ?_;intro aW ap;exact rt
   exact rt
 rintro e aX ⟨f,g,hE,aq⟩;obtain ⟨e,rfl⟩:=hE.out;have h:=af;refine T ?_;intro aY ar;exact rt
instance k_105:Ct prog 105:=⟨by kernel_rfl,@Dz⟩
theorem HO {w0} {F:List Nat} {N l r} (h:sj N l=some r) {m:Nat} {j k} (G:iR (jo w0 F) w0 j k l.b) (hS:St w0 F w0 [bx m 177 [vS j l.b.length k,vI l.i,vI l.h]]) :
    iq prog 315 #[.pointer (some ⟨m,0,none⟩)] w0 (fun v w=>∃ n p,v=vS n r.1.length p∧St w0 F w [sl n p r.1,bx m 177 [vS j l.b.length k,vI r.2.i,vI r.2.h]]):=by
 unfold sj at h;refine iq.fn func315 fun e=>?_;refine T ?_;intro aH ak h aF ab aI am h H I aG ac aJ an h ap C;refine go ?_;obtain ⟨ao,A,B⟩:=ob h;refine CW.ie A 0 (fun g e wb=>∃ (d:Ad) (f:Nat),En e [(0,.pointer (some ⟨m,0,none⟩)),(3,vS d g.1.length f),(5,vI g.2.1)]∧St w0 F wb [bx m 177 [vS j l.b.length k,vI g.2.2.1,vI g.2.2.2],sl d f g.1]) ?_ ⟨H,I,C.po [0,1]⟩ ?_
 · intro g e aq o hM h;obtain ⟨d,f,hE,ad⟩:=hM;obtain ⟨e,rfl⟩:=hE.out;refine kD [0,3,5,21] fun e=>?_;refine gc h ?_ ?_<;>intro _ h
   · refine T ?_;intro aB L h ar ae aC M h au af;refine gc h ?_ ?_<;>intro _ h
     · refine T ?_;intro aD O h X Z av ah;exact rt
     refine T ?_;intro q R h aw ai u U h ax aj x V h ay J;refine LW.bd [(0,vI q.1),(1,vI u.1),(2,vI x.1)] #[vI q.1,vI u.1,vI x.1] ?_;refine T ?_;intro aE W h Y aa az K;exact rt
   exact rt
 rintro e aA ⟨d,f,hE,z⟩;obtain ⟨e,rfl⟩:=hE.out;have h:=B;refine go ?_;replace h:=oi h;subst h;exact Ra ⟨d,f,rfl,z.pk [1,0]⟩
instance k_315:Ct prog 315:=⟨by kernel_rfl,@HO⟩
theorem ET {w0} {F:List Nat} {N u r} (h:qM N u=some r) {x:Nat} {m n} (ad:iR (jo w0 F) w0 m n u.b) (hS:St w0 F w0 [bx x 177 [vS m u.b.length n,vI u.i,vI u.h]]) :
    iq prog 316 #[.pointer (some ⟨x,0,none⟩)] w0 (fun v w=>∃ z B, ∃ A C,v=.agg #[vS z r.1.ag.length B,vI r.1.gc.PD,vI r.1.gc.PL,vI r.1.gc.PF,vS A r.1.gc.hZ.length C]∧St w0 F w [sl z B r.1.ag,sl A C r.1.gc.hZ,bx x 177 [vS m u.b.length n,vI r.2.i,vI r.2.h]]):=by
 unfold qM at h;refine iq.fn func316 fun e=>?_;refine T ?_;intro O a5 aE R aJ h I J a7 aF l aK h p q aO aG;refine LW.bd [(0,vS I R.1.length J),(1,.agg #[vI l.PD,vI l.PL,vI l.PF,vS p l.hZ.length q])] #[vS I R.1.length J,vI l.PD,vI l.PL,vI l.PF,vS p l.hZ.length q] ?_;refine T ?_;intro G aP aH aQ aa;refine go ?_;obtain ⟨aM,W,Y⟩:=ob h;refine CW.ie W 0 (fun H e wb=>En e [(0,.pointer (some ⟨x,0,none⟩)),(2,.pointer (some ⟨O,0,none⟩)),(3,.pointer (some ⟨G,0,none⟩)),(4,vI H.2)]∧St w0 F wb [bx G 45 [vS I H.1.length J,vI l.PD,vI l.PL,vI l.PF,vS p l.hZ.length q],sl p q l.hZ,sl I J H.1,bx x 177 [vS m u.b.length n,vI R.2.i,vI R.2.h],bx O 45 [vS none 0 0,vI 0,vI 0,vI 0,vS none 0 0]]) ?_ (aa.po [0,1,2,3,4]) ?_
 · intro H e aR o hM h;obtain ⟨e,rfl,U⟩:=eo hM;refine kD [0,2,3,4,16] fun e=>?_;refine gc h ?_ ?_<;>intro _ h
   · refine gb h fun a2 L h=>?_;obtain ⟨aA,aL,hae,am,an⟩:=U.iF (α:=gE) (i:=2) rfl L;subst hae;refine go ?_;refine gb h fun a3 M h=>?_;refine LW.se 9 U 2 L M (hM:=(ko (fun w cs F hF=>by obtain ⟨aq,av,ar,aw,au,ax,rfl,hH⟩:=hF;exact ⟨aq,av,ar,aw,au,ax,rfl,hH⟩))) fun aS ab=>?_;refine go ?_;rw [iB (oi M)] at ab;exact rt
   exact rt
 rintro e aT ⟨hE,aI⟩;obtain ⟨e,rfl⟩:=hE.out;have h:=Y;refine T ?_;intro V ao h aU ac;refine go ?_;obtain ⟨aN,X,Z⟩:=ob h;refine CW.ie X 2 (fun d e wb=>∃ (f:Ad) (j:Nat) (g:Ad) (k:Nat),En e [(0,.pointer (some ⟨x,0,none⟩)),(2,.pointer (some ⟨O,0,none⟩)),(3,.pointer (some ⟨G,0,none⟩)),(5,vI d.1)]∧St w0 F wb [bx x 177 [vS m u.b.length n,vI V.2.i,vI V.2.h],bx G 45 [vS f d.2.1.length j,vI d.2.2.1,vI d.2.2.2.1,vI d.2.2.2.2.1,vS g d.2.2.2.2.2.length k],bx O 45 [vS none 0 0,vI 0,vI 0,vI 0,vS none 0 0],sl f j d.2.1,sl g k d.2.2.2.2.2]) ?_ ⟨I,J,p,q,ac.po [0,1,4,3,2]⟩ ?_
 · intro d e aV o hM h;obtain ⟨f,j,g,k,hE,ae⟩:=hM;obtain ⟨e,rfl⟩:=hE.out;refine kD [0,2,3,5,27] fun e=>?_;refine gc h ?_ ?_<;>intro _ h
   · refine T ?_;intro a4 ap h ay aB az aC aW af aD aX ah aY ai aZ aj;exact rt
   exact rt
 rintro e a0 ⟨f,j,g,k,hE,ak⟩;obtain ⟨e,rfl⟩:=hE.out;have h:=Z;refine T ?_;intro a1 K;replace h:=oi h;subst h;exact And.intro trivial ⟨_,kI.one (iD.b K 2 rfl KQ rfl rfl),f,j,g,k,rfl,K.pk [3,4,0]⟩
instance k_316:Ct prog 316:=⟨by kernel_rfl,@ET⟩
end Go.Kx
