import Derived.Test.YtlcgibcdiikheaaGreatWa18
import Derived.Test.YtlcgibcdiikheaaGreatWa19
namespace Go.Kx
open Go Go.RowKit Go.Proofs
open Tryz
set_option maxRecDepth 10000
set_option maxHeartbeats 8000000
set_option linter.unusedVariables false
set_option linter.unusedSimpArgs false
theorem HZ {w0 N k ar r} (h:tR N k ar=some r) {m R n} (Y:R=k.ag.length) (C:rb w0 m n k.ag) {G U p} (Z:U=k.gc.gQ.length) (ab:rb w0 G p k.gc.gQ) :
    gV prog 218 #[.agg #[vS m R n,vI k.gc.Ph,vI k.gc.Pr,vI k.gc.Pj,vS G U p],vI ar] w0 (fun v w=>∃ x A, ∃ z B,v=.tuple #[.agg #[vS x r.1.ag.length A,vI r.1.gc.Ph,vI r.1.gc.Pr,vI r.1.gc.Pj,vS z r.1.gc.gQ.length B],vI r.2]∧St w0 [] w [sl x A r.1.ag,sl z B r.1.gc.gQ]):=by
 subst Y Z;unfold tR at h;refine gV.fn func218 fun e=>?_;have cc:=St.start w0;refine T ?_;intro ay cU ce az cV cf bX cm h cR a2 cS cT cq cg af cr ci ct cj;refine T ?_;intro cI bD h cu aB;refine gc h ?_ ?_<;>intro _ h
 · refine T ?_;intro cv ck;exact rt
 refine jw [1,2,4,6,18] fun e=>?_;refine gc h ?_ ?_<;>intro _ h
 · refine T ?_;intro cJ bE h bZ b7 b0 b8 cw cl cx a7;exact rt
 refine gc h ?_ ?_<;>intro _ h
 · refine T ?_;intro cy a9 cz ba cA bb;exact rt
 refine gb h fun cK ap h=>?_;obtain ⟨av,aD,a3,rfl,bm,bq,bu,rfl,bo⟩:=ab.idx ap;refine go ?_;refine T ?_;have ⟨cL,K,h⟩:=ob h;obtain ⟨X,au,ax,am,an,bc⟩:=aB.vt (α:=Int) 2 rfl K;refine LW.u (il.sub (α:=Int) (l:=bX.gc.gQ) underlying37 GP rfl vp (vn rfl) K X am an) rfl ?_;refine T ?_;intro cB ai;obtain ⟨aC,ao,aA⟩:=ob h;refine CW.jn [1,2,4,6,8] [0,1,2,3,4] [(67,.bool aC)] ai (h1:=?_) (h2:=?_)
 · have h:=ao;refine gB h ?_ ?_<;>intro _ h
   · refine gb h fun cM aq h=>?_;obtain ⟨b4,cn,a4,rfl,bn,br,bv,⟨b1,b9,b2,ca,b3,cb,rfl,bA,bB,bC⟩,bp⟩:=C.idx aq;refine go ?_;refine T ?_;intro cN bF h cC bd;exact rt
   exact rt
 intro e cD H;have h:=aA;refine gc h ?_ ?_<;>intro _ h
 · refine T ?_;intro cE be;exact rt
 refine gb h fun cO L h=>?_;obtain ⟨aw,aE,hae,bs,bw⟩:=H.hZ (α:=gP) (i:=1) rfl L;subst hae;refine go ?_;refine gb h fun cP M h=>?_;refine LW.se 9 H 1 L M (hM:=(iU (fun w cs F hF=>by obtain ⟨bK,bN,bL,bO,bM,bP,rfl,hH⟩:=hF;exact ⟨bK,bN,bL,bO,bM,bP,rfl,hH⟩))) fun cF bf=>?_;refine T ?_;intro V bG h ad ae cG I;refine go ?_;rw [gS (oi M)] at I;obtain ⟨bJ,aa,ah⟩:=ob h;refine CW.ie aa 1 (fun b e wb=>∃ (d:Ad) (g:Nat) (f:Ad) (j:Nat),En e [(1,vI ar),(2,.pointer (some ⟨ay,0,none⟩)),(4,.pointer (some ⟨az,0,none⟩)),(6,.pointer (some ⟨af,0,none⟩)),(77,vS ad V.length ae),(78,vI (V.length:Int)),(79,vI b.1)]∧St w0 [] wb [sl ad ae V,bx af 45 [vS d b.2.1.length g,vI b.2.2.1,vI b.2.2.2.1,vI b.2.2.2.2.1,vS f b.2.2.2.2.2.length j],bx az 45 [vS none 0 0,vI 0,vI 0,vI 0,vS none 0 0],bx ay 45 (qH m n (some ⟨av,aD,none⟩) p k),sl d g b.2.1,sl f j b.2.2.2.2.2]) ?_ ⟨(some ⟨aw,aE,none⟩),a2,au,ax,I.po [0,1,4,5,2,3]⟩ ?_
 · intro b e cH o hM h;obtain ⟨d,g,f,j,hE,J⟩:=hM;obtain ⟨e,rfl⟩:=hE.out;refine jw [1,2,4,6,77,78,79,80] fun e=>?_;refine gc h ?_ ?_<;>intro _ h
   · refine gb h fun cQ O h=>?_;obtain ⟨b5,co,hae,bt,bz⟩:=J.hZ (α:=Int) (i:=0) rfl O;subst hae;refine go ?_;obtain ⟨bY,q,bg⟩:=J.freeze (α:=Int) 0 rfl;obtain ⟨b6,cp,a5,hae,aG,_,_,W,aI⟩:=q.ju.idx O;cases hae;obtain rfl:=W;refine T ?_;have ⟨bU,ac,h⟩:=ob h;obtain ⟨aW,bI,aF,rfl,aH,aK,aL,⟨aR,aX,aS,aY,aT,aZ,rfl,aM,aN,aO⟩,aJ⟩:=C.idx ac;refine go ?_;refine T ?_;intro bV aP h bQ aj;refine CW.fl [1,2,4,6,10,77,78,79,90] fun e=>?_;refine gc h ?_ ?_<;>intro _ h
     · refine T ?_;intro bW aQ h aU a0 aV a1 bR ak;have bi:=ak.iD (α:=Int) 3 rfl q;exact rt
     refine go ?_;have bj:=aj.iD (α:=Int) 0 rfl q;exact rt
   exact rt
 rintro e bS ⟨d,g,f,j,hE,bk⟩;obtain ⟨e,rfl⟩:=hE.out;have h:=ah;refine T ?_;intro bT bl;exact rt
instance k_218:Ct prog 218:=⟨by kernel_rfl,@HZ⟩
theorem oz {w0} {F:List Nat} {N b O R r} (h:j4 N b O R=some r) {I:Nat} {d m} (U:iR (jA w0 F) w0 d m b.Pc.Pe.Pd) {f n} (V:iR (jA w0 F) w0 f n b.Pc.own) {g o} (W:iR (jA w0 F) w0 g o b.Pc.Pg) {j q} (A:iR (jA w0 F) w0 j q b.Pc.py.ag) {k x} (X:iR (jA w0 F) w0 k x b.Pc.py.gc.gQ) {l z} (Y:iR (jA w0 F) w0 l z b.Pc.gR) (hS:St w0 F w0 [bx I 188 (qC d m f n g o j q k x l z b)]) :
    gV prog 249 #[.pointer (some ⟨I,0,none⟩),vI O,vI R] w0 (fun v w=>v=.tuple #[vI r.1,vI r.2.1]∧St w0 F w [bx I 188 [vS d b.Pc.Pe.Pd.length m,vS f b.Pc.own.length n,vS g b.Pc.Pg.length o,vS j b.Pc.py.ag.length q,vI r.2.2.Pc.py.gc.Ph,vI r.2.2.Pc.py.gc.Pr,vI r.2.2.Pc.py.gc.Pj,vS k b.Pc.py.gc.gQ.length x,vS l b.Pc.gR.length z,vI r.2.2.Pc.Pn,vI r.2.2.Pc.Pp,vI r.2.2.Pc.cd.gE,vI r.2.2.Pc.cd.gX,vI r.2.2.Pc.cd.g8,vI r.2.2.Pc.g5,vI r.2.2.Pc.Pm,vI r.2.2.me,vI r.2.2.Pt,vI r.2.2.ir]]):=by
 unfold j4 at h;refine gV.fn func249 fun e=>?_;refine T ?_;intro aD au h aA B;refine gc h ?_ ?_<;>intro _ h
 · refine go ?_;replace h:=oi h;subst h;exact Rc tt tt ⟨rfl,B.pk [0]⟩
 refine jK ?_;have aq:=B.drew;refine go ?_;refine jP 1 ?_;refine T ?_;intro aE av h aB C;refine AW.u (i:=6) rfl (by kernel_rfl) rfl rfl (il.p rfl) ?_;refine gc h ?_ ?_<;>intro _ h
 · refine go ?_;replace h:=oi h;subst h;exact Rc tt tt ⟨rfl,C.pk [0]⟩
 refine jK ?_;have ar:=C.drew;refine T ?_;intro aF aw h aC G;refine gc h ?_ ?_<;>intro _ h
 · refine go ?_;replace h:=oi h;subst h;exact Rc tt tt ⟨rfl,G.pk [0]⟩
 refine gs ?_;obtain ⟨M,J,L⟩:=ob h;refine CW.jn [0,8] [0] [(52,.bool M)] G (h1:=?_) (h2:=?_)
 · have h:=J;refine gB h ?_ ?_<;>intro _ h
   · refine go ?_;refine LW.u (il.nc rfl) rfl ?_;refine gb h fun az K h=>?_;obtain ⟨am,ax,Z,rfl,aa,ac,ad,⟨ai,an,aj,ao,ak,ap,rfl,ae,af,ah⟩,ab⟩:=A.idx K;refine go ?_;refine T ?_;exact rt
   exact rt
 intro e ay H;have h:=L;refine gc h ?_ ?_<;>intro _ h
 · refine go ?_;replace h:=oi h;subst h;exact Rc tt tt ⟨rfl,H.pk [0]⟩
 refine go ?_;replace h:=oi h;subst h;exact Rc tt tt ⟨rfl,H.pk [0]⟩
instance k_249:Ct prog 249:=⟨by kernel_rfl,@oz⟩
theorem BU {w0} {F:List Nat} {N ak ba a4 k r} (h:o7 N ak ba a4 k=some r) {aO:Nat} {q n} (hS:St w0 F w0 [bx aO 26 [vI ak.Pt,vS q ak.parts.length n],sl q n ak.parts]) :
    gV prog 80 #[.pointer (some ⟨aO,0,none⟩),vI ba,vI a4,.agg #[vI k.Pf,vI k.a,vI k.b,vI k.c,vI k.d,vI k.e]] w0 (fun v w=>∃ V af,v=vI r.1∧St w0 F w [bx aO 26 [vI r.2.Pt,vS V r.2.parts.length af],sl V af r.2.parts]):=by
 unfold o7 at h;refine gV.fn func80 fun e=>?_;refine vv hS fun cw cx a6=>?_;refine gb h fun cz a7 h=>?_;refine LW.c0 (lZ a7) a6 fun cy av=>?_;refine gc h ?_ ?_<;>intro _ h
 · refine go ?_;replace h:=oi h;subst h;exact Ra ⟨q,n,rfl,av.pk [1,2]⟩
 refine go ?_;refine LW.u (il.nc rfl) rfl ?_;refine gb h fun cA a8 h=>?_;refine LW.c0 (z6 a8 rfl (av.rI 2 rfl)) av fun aD ax=>?_;refine jw [0,2,7,23] fun e=>?_;refine gc h ?_ ?_<;>intro _ h
 · refine go ?_;replace h:=oi h;subst h;exact Ra ⟨q,n,rfl,ax.pk [1,2]⟩
 refine go ?_;refine LW.u (il.nc rfl) rfl ?_;refine gb h fun g ai h=>?_;obtain ⟨aJ,aN,hae,bt,bw⟩:=ax.hZ (α:=bh) (i:=2) rfl ai;subst hae;refine go ?_;refine LW.u (il.nc rfl) rfl ?_;refine go ?_;obtain ⟨b3,H,aK⟩:=ax.freeze (α:=bh) 2 rfl;obtain ⟨cc,cp,bq,hae,A,_,_,aW,C⟩:=H.ju.idx ai;cases hae;obtain ⟨J,X,K,Y,L,Z,b4,aa,M,ab,O,ac,rfl,bB,bC,bD,I,bE,bF⟩:=aW;refine LW.l (iZ.jz aD xS rfl (C 3 _ rfl)) (aK.zC 2 rfl A) rfl ?_;refine jK ?_;have aL:=aK.drew;refine gb h fun aj a2 h=>?_;refine jO 8 ?_;refine LW.cl (uk a2 rfl (aL.rZ 2 rfl I)) ?_;rintro _ cr ⟨rfl,hs⟩;have p:=aL.add hs;refine jn ?_;refine gs ?_;obtain ⟨a9,aY,a5⟩:=ob h;refine CW.jn [0,7,9,10,11] [0,1,2] [(62,.bool a9)] p (h1:=?_) (h2:=?_)
 · have h:=aY;refine gB h ?_ ?_<;>intro _ h
   · refine gb h fun cv a3 h=>?_;obtain ⟨cf,cq,br,rfl,az,bu,bz,⟨b5,cg,b6,ci,b7,cj,rfl,bG,bI,bJ⟩,aA⟩:=I.idx a3;refine go ?_;refine LW.l (iZ.jz aD ki rfl (aA 1 _ rfl)) (p.zC 2 rfl az) rfl ?_;refine gB h ?_ ?_<;>intro _ h
     · refine go ?_;refine LW.l (iZ.jz aD qJ rfl (aA 12 _ rfl)) (p.zC 2 rfl az) rfl ?_;refine go ?_;cases oi h;exact p.po [0,1,2]
     refine go ?_;cases oi h;exact p.po [0,1,2]
   refine go ?_;cases oi h;exact p.po [0,1,2]
 intro e ct ay;have h:=a5;refine jw [0,7,9,10,11,62] fun e=>?_;refine gc h ?_ ?_<;>intro _ h
 · refine dW ?_;have aM:=ay.drew;refine gb h fun f aC h=>?_;obtain ⟨W,z,bs,rfl,B,bv,bA,⟨R,ad,U,ae,an,ap,rfl,bK,bL,bM⟩,aB⟩:=I.idx aC;refine go ?_;refine AW.tk 6 rfl (iZ.jz aD qJ rfl (aB 12 _ rfl)) (aM.zC 2 rfl B) ?_;refine go ?_;refine AW.u (i:=9) rfl (by kernel_rfl) rfl rfl (il.build (vs:=[(0,vI (-1)),(1,vI k.b)]) (cs:=#[vI (-1),vI k.b]) rfl (by kernel_rfl)) ?_;refine jO 10 ?_;refine LW.yw (α:=iM) (vs:=[(0,.agg #[vI (-1),vI k.b])]) (cs:=#[vI (-1),vI k.b]) (l:=([iM.mk (-1) k.b]:List iM)) rfl (by kernel_rfl) rfl rfl rfl (fun w=>⟨[vI (-1),vI k.b],[],[],[],rfl,rfl,⟨rfl,rfl⟩,rfl⟩) aM rfl ?_;intro b8 ck cu x hf;refine jN (.c (x.ce 1) (.c (x.zC 3 rfl B) jZ)) ?_;have aZ:=fun (j:Nat) (u:Value) (hu:([vS J g.Pe.Pd.length X,vS K g.own.length Y,vS L g.Pg.length Z,vS (some ⟨W,z,none⟩) g.py.ag.length aa,vI g.py.gc.Ph,vI g.py.gc.Pr,vI g.py.gc.Pj,vS M g.py.gc.gQ.length ab,vS O g.gR.length ac,vI g.Pn,vI g.Pp,vI g.cd.gE,vI g.cd.gX,vI g.cd.g8,vI g.g5,vI g.Pm]:List Value)[j]?=some u)=>(World.cell?_of_block (x.zC 3 rfl A)).trans (C j u hu);have a0:=fun (j:Nat) (u:Value) (hu:((qO R ad U ae an ap f):List Value)[j]?=some u)=>(World.cell?_of_block (x.zC 3 rfl B)).trans (aB j u hu);have aQ:=x.iD (α:=bh) 3 rfl H;obtain ⟨bc,a1,aX⟩:=aQ.focus (α:=bh) (cs:=[vS J g.Pe.Pd.length X,vS K g.own.length Y,vS L g.Pg.length Z,vS (some ⟨W,z,none⟩) g.py.ag.length aa,vI g.py.gc.Ph,vI g.py.gc.Pr,vI g.py.gc.Pj,vS M g.py.gc.gQ.length ab,vS O g.gR.length ac,vI g.Pn,vI g.Pp,vI g.cd.gE,vI g.cd.gX,vI g.cd.g8,vI g.g5,vI g.Pm]) 3 rfl ai rfl aZ;obtain ⟨b9,cm,ca,cn,cb,co,bd,bk,be,bl,bf,bm,aV,aP⟩:=a1;cases aV;have aR:=aX [sl J X g.Pe.Pd,sl K Y g.own,sl L Z g.Pg,sl (some ⟨W,z,none⟩) aa g.py.ag,sl M ab g.py.gc.gQ,sl O ac g.gR] aP
   obtain ⟨bb,aH,aG⟩:=aR.focus (α:=gP) (cs:=[vI f.Pw,vI f.Pf,vI f.box,vI f.Pu,vI f.iz,vI f.gE,vI f.Pq,vI f.iy,vI f.im,.bool f.Ps,vS R f.gZ.length ad,vS U f.Po.length ae,vS an f.Pk.length ap]) 3 rfl aC rfl a0;obtain ⟨bg,bn,bi,bo,bj,bp,aF,aE⟩:=aH;cases aF;have aq:=aG [sl R ad f.gZ,sl U ae f.Po,sl an ap f.Pk] aE;have ⟨o,aI,h⟩:=ob h;refine jO 11 ?_;refine LW.jS (l:=f.Pk) (m:=([iM.mk (-1) k.b]:List iM)) si rfl rfl (aq.rI 9 rfl) aI aq (i:=2) rfl rfl ?_;intro am ao bZ aS hf;refine jn ?_;refine zR 14 ?_;refine LW.qf (α:=gP) (vs:=[vS am o.length ao]) aS 6 rfl qJ rfl (by show _=z+(aj:Int).toNat * 13+12;omega) rfl rfl rfl rfl ?_;intro b0 aT hf;refine jn ?_;refine go ?_;replace h:=oi h;subst h;have ar:=aT.m6 (gP.mk f.Pw f.Pf f.box f.Pu f.iz f.gE f.Pq f.iy f.im f.Ps f.gZ f.Po o) [0,1,2,3,4,5,6,7,8,9,10,11,12] 3 3 rfl rfl (fun w G hG=>⟨R,ad,U,ae,am,ao,rfl,hG⟩)
   rw [show g.py.ag.length=(g.py.ag.set (aj:Int).toNat (gP.mk f.Pw f.Pf f.box f.Pu f.iz f.gE f.Pq f.iy f.im f.Ps f.gZ f.Po o)).length from (gS rfl)] at ar;have au:=ar.m6 (bh.mk g.Pe g.own g.Pg (g7.mk (g.py.ag.set (aj:Int).toNat (gP.mk f.Pw f.Pf f.box f.Pu f.iz f.gE f.Pq f.iy f.im f.Ps f.gZ f.Po o)) g.py.gc) g.gR g.Pn g.Pp g.cd g.g5 g.Pm) [0,1,2,3,4,5,6,7,8,9] 6 3 rfl rfl (fun w G hG=>⟨J,X,K,Y,L,Z,(some ⟨W,z,none⟩),aa,M,ab,O,ac,rfl,hG⟩)
   rw [show ak.parts.length=(ak.parts.set (a4:Int).toNat (bh.mk g.Pe g.own g.Pg (g7.mk (g.py.ag.set (aj:Int).toNat (gP.mk f.Pw f.Pf f.box f.Pu f.iz f.gE f.Pq f.iy f.im f.Ps f.gZ f.Po o)) g.py.gc) g.gR g.Pn g.Pp g.cd g.g5 g.Pm)).length from (gS rfl)] at au;exact Ra ⟨(some ⟨aJ,aN,none⟩),n,rfl,au.pk [2,3]⟩
 refine go ?_;refine LW.u (il.nc rfl) rfl ?_;refine go ?_;refine LW.l (iZ.jz aD ki rfl (C 15 _ rfl)) (ay.zC 2 rfl A) rfl ?_;refine go ?_;refine LW.u (il.min rfl rfl) rfl ?_;refine LW.u (il.nc rfl) rfl ?_;refine go ?_;have aU:=ay.iD (α:=bh) 2 rfl H;have ⟨b2,ah,h⟩:=ob h;refine LW.se 15 aU 2 ai ah (hM:=(iU (fun w cs F hF=>by obtain ⟨bN,bT,bO,bU,bP,bV,bQ,bW,bR,bX,bS,bY,rfl,hH⟩:=hF;exact ⟨bN,bT,bO,bU,bP,bV,bQ,bW,bR,bX,bS,bY,rfl,hH⟩))) fun b1 aw=>?_;refine go ?_;replace h:=oi h;subst h;rw [gS (oi ah)] at aw;exact Ra ⟨(some ⟨aJ,aN,none⟩),n,rfl,aw.pk [1,2]⟩
instance k_80:Ct prog 80:=⟨by kernel_rfl,@BU⟩
theorem ER {w0 N l o p i r} (h:ra N l o p i=some r) {b f d} (g:f=l.length) (q:rb w0 b d l) :
    gV prog 326 #[vS b f d,vI o,vI p,.agg #[vI i.gE,vI i.gX,vI i.g8]] w0 (fun v w=>∃ j k,v=.tuple #[vS j r.1.length k,.bool r.2]∧St w0 [] w [sl j k r.1]):=by
 subst g;unfold ra at h;refine gV.fn func326 fun e=>?_;have J:=St.start w0;refine T ?_;intro ae af K ai U h ac ad ah m;obtain ⟨B,n,u⟩:=ob h;refine CW.jn [0,2,7,10] [0,1] [(26,.bool B)] m (h1:=?_) (h2:=?_)
 · have h:=n;refine gB h ?_ ?_<;>intro _ h
   · exact rt
   refine T ?_;intro Z x h V L;exact rt
 intro e W M;have h:=u;refine gc h ?_ ?_<;>intro _ h
 · refine T ?_;intro aa z h C H X O;exact rt
 refine T ?_;intro ab A h G I Y R;exact rt
instance k_326:Ct prog 326:=⟨by kernel_rfl,@ER⟩
theorem AM {w0} {F:List Nat} {N b L r} (h:oE N b L=some r) {A:Nat} {d l} (M:iR (jA w0 F) w0 d l b.Pc.Pe.Pd) {f m} (O:iR (jA w0 F) w0 f m b.Pc.own) {g n} (R:iR (jA w0 F) w0 g n b.Pc.Pg) {i o} (x:iR (jA w0 F) w0 i o b.Pc.py.ag) {j p} (U:iR (jA w0 F) w0 j p b.Pc.py.gc.gQ) {k q} (V:iR (jA w0 F) w0 k q b.Pc.gR) (hS:St w0 F w0 [bx A 188 (qC d l f m g n i o j p k q b)]) :
    gV prog 257 #[.pointer (some ⟨A,0,none⟩),vI L] w0 (fun v w=>v=.tuple #[vI r.1,vI r.2.1]∧St w0 F w [bx A 188 [vS d b.Pc.Pe.Pd.length l,vS f b.Pc.own.length m,vS g b.Pc.Pg.length n,vS i b.Pc.py.ag.length o,vI r.2.2.Pc.py.gc.Ph,vI r.2.2.Pc.py.gc.Pr,vI r.2.2.Pc.py.gc.Pj,vS j b.Pc.py.gc.gQ.length p,vS k b.Pc.gR.length q,vI r.2.2.Pc.Pn,vI r.2.2.Pc.Pp,vI r.2.2.Pc.cd.gE,vI r.2.2.Pc.cd.gX,vI r.2.2.Pc.cd.g8,vI r.2.2.Pc.g5,vI r.2.2.Pc.Pm,vI r.2.2.me,vI r.2.2.Pt,vI r.2.2.ir]]):=by
 unfold oE at h;refine gV.fn func257 fun e=>?_;refine jK ?_;have ak:=hS.drew;refine gb h fun aE J h=>?_;obtain ⟨aC,aD,ai,rfl,ap,ar,au,⟨ab,ae,ac,af,ad,ah,rfl,W,X,Y⟩,aq⟩:=x.idx J;refine go ?_;refine T ?_;intro aj av am aw u;refine gc h ?_ ?_<;>intro _ h
 · refine jK ?_;have G:=u.drew;refine go ?_;replace h:=oi h;subst h;exact Rc tt tt ⟨rfl,G.pk [1]⟩
 refine gc h ?_ ?_<;>intro _ h
 · refine jK ?_;have H:=u.drew;refine go ?_;replace h:=oi h;subst h;exact Rc tt tt ⟨rfl,H.pk [1]⟩
 refine gs ?_;refine CW.region ?_;refine gs ?_;obtain ⟨K,B,C⟩:=ob h;refine CW.jn [0,1] [1] [(28,.bool K)] u (h1:=?_) (h2:=?_)
 · have h:=B;refine gc h ?_ ?_<;>intro _ h
   · exact rt
   refine gc h ?_ ?_<;>intro _ h
   · exact rt
   exact rt
 intro e ax z;have h:=C;refine gc h ?_ ?_<;>intro _ h
 · refine jK ?_;have an:=z.drew;refine go ?_;refine jP 8 ?_;refine T ?_;intro aA Z h ay ao aB aa h az I;replace h:=oi h;subst h;exact Rc tt tt ⟨rfl,I.pk [0]⟩
 refine go ?_;replace h:=oi h;subst h;exact Rc tt tt ⟨rfl,z.pk [0]⟩
instance k_257:Ct prog 257:=⟨by kernel_rfl,@AM⟩
theorem uM {w0 N m n r} (h:oK N m n=some r) {b i f} (k:i=m.parts.length) (o:rb w0 b f m.parts) {d j g} (l:j=n.parts.length) (p:rb w0 d g n.parts) :
    gV prog 23 #[.agg #[vI m.Pt,vS b i f],.agg #[vI n.Pt,vS d j g]] w0 (fun v w=>v=.bool r∧St w0 [] w []):=by
 subst k l;unfold oK at h;refine gV.fn func23 fun e=>?_;have q:=St.start w0;refine T ?_;intro B G u C H x;refine gc h ?_ ?_<;>intro _ h
 · exact rt
 refine T ?_;intro J A h I z;refine CW.fl [15] fun e=>?_;refine gc h ?_ ?_<;>intro _ h
 · exact rt
 exact rt
instance k_23:Ct prog 23:=⟨by kernel_rfl,@uM⟩
end Go.Kx
