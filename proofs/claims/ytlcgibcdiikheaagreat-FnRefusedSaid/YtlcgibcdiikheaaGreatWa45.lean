import Derived.Test.YtlcgibcdiikheaaGreatWa41
import Derived.Test.YtlcgibcdiikheaaGreatWa43
namespace Go.Kx
open Go Go.RowKit Go.Proofs
open Tryz
set_option maxRecDepth 10000
set_option maxHeartbeats 8000000
set_option linter.unusedVariables false
set_option linter.unusedSimpArgs false
theorem zR {w0 N b V W X Y r} (h:nX N b V W X Y=some r) {d u l} (G:u=b.PB.PA.length) (Z:rb w0 d l b.PB.PA) {f x m} (H:x=b.own.length) (aa:rb w0 f m b.own) {g z n} (I:z=b.PC.length) (ab:rb w0 g n b.PC) {i A o} (J:A=b.py.ag.length) (M:rb w0 i o b.py.ag) {j B p} (K:B=b.py.gc.hZ.length) (ac:rb w0 j p b.py.gc.hZ) {k C q} (L:C=b.ia.length) (ad:rb w0 k q b.ia) :
    iq prog 261 #[.agg #[vS d u l,vS f x m,vS g z n,vS i A o,vI b.py.gc.PD,vI b.py.gc.PL,vI b.py.gc.PF,vS j B p,vS k C q,vI b.PJ,vI b.PI,vI b.hY.bh,vI b.hY.ib,vI b.hY.ij,vI b.ik,vI b.PH],vI V,vI W,vI X,vI Y] w0 (fun v w=>v=.tuple #[vI r.1,vI r.2]∧St w0 [] w []):=by
 subst G H I J K L;unfold nX at h;refine iq.fn func261 fun e=>?_;have az:=St.start w0;refine T ?_;intro aF aG aA aI aC h aH O;obtain ⟨ap,R,af⟩:=ob h;refine CW.jn [12,13] [] [(38,.bool ap)] O (h1:=?_) (h2:=?_)
 · have h:=R;refine gB h ?_ ?_<;>intro _ h
   · refine gB h ?_ ?_<;>intro _ h
     · refine go ?_;have ⟨aJ,U,h⟩:=ob h;obtain ⟨av,aD,ae,rfl,ah,aj,ak,⟨aq,aw,ar,ax,au,ay,rfl,am,an,ao⟩,ai⟩:=M.idx U;refine go ?_;refine T ?_;exact rt
     exact rt
   exact rt
 intro e aE aB;have h:=af;refine kD [12,13,38] fun e=>?_;refine gc h ?_ ?_<;>intro _ h
 · exact rt
 exact rt
instance k_261:Ct prog 261:=⟨by kernel_rfl,@zR⟩
theorem E7 {w0} {F:List Nat} {N g bG bI aa r} (h:sJ N g bG bI aa=some r) {k aK o} (aT:aK=g.PB.PA.length) {l aL p} (aU:aL=g.own.length) {m aM q} (aV:aM=g.PC.length) {C aN A} (aW:aN=g.py.ag.length) {z aO B} (aX:aO=g.py.gc.hZ.length) {n aP x} (aY:aP=g.ia.length) (hS:St w0 F w0 [sl k o g.PB.PA,sl l p g.own,sl m q g.PC,sl C A g.py.ag,sl z B g.py.gc.hZ,sl n x g.ia]) :
    iq prog 172 #[.agg #[vS k aK o,vS l aL p,vS m aM q,vS C aN A,vI g.py.gc.PD,vI g.py.gc.PL,vI g.py.gc.PF,vS z aO B,vS n aP x,vI g.PJ,vI g.PI,vI g.hY.bh,vI g.hY.ib,vI g.hY.ij,vI g.ik,vI g.PH],vI bG,vI bI,.agg #[vI aa.Pz,vI aa.a,vI aa.b,vI aa.c,vI aa.d,vI aa.e]] w0 (fun v w=>∃ ak ar, ∃ am au, ∃ an av, ∃ ao aw, ∃ ap ax, ∃ aq ay,v=.tuple #[.agg #[vS ak r.1.PB.PA.length ar,vS am r.1.own.length au,vS an r.1.PC.length av,vS ao r.1.py.ag.length aw,vI r.1.py.gc.PD,vI r.1.py.gc.PL,vI r.1.py.gc.PF,vS ap r.1.py.gc.hZ.length ax,vS aq r.1.ia.length ay,vI r.1.PJ,vI r.1.PI,vI r.1.hY.bh,vI r.1.hY.ib,vI r.1.hY.ij,vI r.1.ik,vI r.1.PH],.agg #[vI r.2.code,vI r.2.PR]]∧St w0 F w [sl ak ar r.1.PB.PA,sl am au r.1.own,sl an av r.1.PC,sl ao aw r.1.py.ag,sl ap ax r.1.py.gc.hZ,sl aq ay r.1.ia]):=by
 subst aT aU aV aW aX aY;unfold sJ at h;refine iq.fn func172 fun e=>?_;refine yk hS fun aQ co bu=>?_;refine LW.bo bu fun bs cp bv=>?_;refine LW.al bv fun aR cq bw=>?_;refine LW.al bw fun aS cr bz=>?_;refine gb h fun ct bC h=>?_;refine LW.c0 (uX bC) bz fun b4 I=>?_;refine gc h ?_ ?_<;>intro _ h
 · refine jL [(0,vI 2)] #[vI 2,vI 0] ?_;refine LW.st I 1 fun b5 bA=>?_;refine LW.st bA 0 fun b6 aD=>?_;refine go ?_;cases h;exact Rc (iD.b aD 1 rfl lV rfl rfl) (iD.b aD 0 rfl lM rfl rfl) ⟨k,o,l,p,m,q,C,A,z,B,n,x,rfl,aD.pk [4,5,6,7,8,9]⟩
 refine gb h fun ab bj h=>?_;refine LW.c0 (xg bj rfl (I.rI 4 rfl) rfl (I.rI 5 rfl) rfl (I.rI 6 rfl) rfl (I.rI 7 rfl) rfl (I.rI 8 rfl) rfl (I.rI 9 rfl)) I fun b7 H=>?_;refine kD [1,2,4,7,8,9,10,11,31] fun e=>?_;refine gc h ?_ ?_<;>intro _ h
 · refine jL [(0,vI ab.2)] #[vI ab.2,vI 0] ?_;refine LW.st H 1 fun b8 bB=>?_;refine LW.st bB 0 fun b9 ac=>?_;refine go ?_;cases h;exact Rc (iD.b ac 1 rfl lV rfl rfl) (iD.b ac 0 rfl lM rfl rfl) ⟨k,o,l,p,m,q,C,A,z,B,n,x,rfl,ac.pk [4,5,6,7,8,9]⟩
 refine gs ?_;refine CW.region ?_;refine gs ?_;refine CW.region ?_;refine gs ?_;obtain ⟨bE,bd,aZ⟩:=ob h;refine CW.cut (fun e wb=>∃ aJ,bE=.inl aJ∧En e [(4,.pointer (some ⟨aQ,0,none⟩)),(7,.pointer (some ⟨bs,0,none⟩)),(8,.pointer (some ⟨aR,0,none⟩)),(9,.pointer (some ⟨aS,0,none⟩)),(10,vI ab.1),(12,vI aJ)]∧St w0 F wb [bx aS 32 [vI 0,vI 0],bx aR 50 [vS none 0 0,vS none 0 0,vS none 0 0,vS none 0 0,vI 0,vI 0,vI 0,vS none 0 0,vS none 0 0,vI 0,vI 0,vI 0,vI 0,vI 0,vI 0,vI 0],bx bs 28 (qL aa),bx aQ 50 [vS k g.PB.PA.length o,vS l g.own.length p,vS m g.PC.length q,vS C g.py.ag.length A,vI g.py.gc.PD,vI g.py.gc.PL,vI g.py.gc.PF,vS z g.py.gc.hZ.length B,vS n g.ia.length x,vI g.PJ,vI g.PI,vI g.hY.bh,vI g.hY.ib,vI g.hY.ij,vI g.ik,vI g.PH],sl k o g.PB.PA,sl l p g.own,sl m q g.PC,sl C A g.py.ag,sl z B g.py.gc.hZ,sl n x g.ia]) ?_ ?_
 · have h:=bd;refine gc h ?_ ?_<;>intro _ h
   · refine gb h fun a0 bk h=>?_;refine LW.c0 (xg bk rfl (H.rI 4 rfl) rfl (H.rI 5 rfl) rfl (H.rI 6 rfl) rfl (H.rI 7 rfl) rfl (H.rI 8 rfl) rfl (H.rI 9 rfl)) H fun ca aA=>?_;refine kD [4,7,8,9,10,13,14,48] fun e=>?_;refine gc h ?_ ?_<;>intro _ h
     · refine jL [(0,vI a0.2)] #[vI a0.2,vI 0] ?_;refine LW.st aA 1 fun cb a2=>?_;refine LW.st a2 0 fun cc ad=>?_;refine go ?_;cases h;have h:=aZ;cases h;exact Rc (iD.b ad 1 rfl lV rfl rfl) (iD.b ad 0 rfl lM rfl rfl) ⟨k,o,l,p,m,q,C,A,z,B,n,x,rfl,ad.pk [4,5,6,7,8,9]⟩
     refine go ?_;cases oi h;exact ⟨_,rfl,(aA.po [0,1,2,3,4,5,6,7,8,9])⟩
   refine go ?_;cases oi h;exact ⟨_,rfl,(H.po [0,1,2,3,4,5,6,7,8,9])⟩
 rintro e bF ⟨aJ,rfl,hM⟩;obtain ⟨e,rfl,a3⟩:=eo hM;have h:=aZ;refine kb ?_;have aB:=a3.drew;refine gb h fun f aj h=>?_;obtain ⟨bp,bD,hae,bO,bQ⟩:=aB.iF (α:=gE) (i:=7) rfl aj;subst hae;refine go ?_;obtain ⟨bU,aG,ae⟩:=aB.freeze (α:=gE) 7 rfl;obtain ⟨bZ,b3,bK,hae,aE,_,_,bb,aF⟩:=aG.kc.idx aj;cases hae;obtain ⟨bV,W,R,X,U,Y,rfl,bi,bS,bT⟩:=bb;refine AW.tk 6 rfl (jV.lC bF.drew BB rfl (aF 10 _ rfl)) (ae.zC 7 rfl aE) ?_;refine gb h fun cm aH h=>?_;obtain ⟨V,Z,bL,rfl,bM,bP,bR,rfl,bN⟩:=bi.idx aH;refine go ?_;have bf:=fun (j:Nat) (u:Value) (hu:([vI f.PO,vI f.Pz,vI f.box,vI f.res,vI f.iK,vI f.bh,vI f.PK,vI f.iP,vI f.iM,.bool f.mark,vS (some ⟨V,Z,none⟩) f.ig.length W,vS R f.PG.length X,vS U f.PE.length Y]:List Value)[j]?=some u)=>(World.cell?_of_block (ae.zC 7 rfl aE)).trans (aF j u hu);have a4:=ae.i7 (α:=gE) 7 rfl aG;obtain ⟨bJ,bg,bc⟩:=a4.focus (α:=gE) (cs:=[vI f.PO,vI f.Pz,vI f.box,vI f.res,vI f.iK,vI f.bh,vI f.PK,vI f.iP,vI f.iM,.bool f.mark,vS (some ⟨V,Z,none⟩) f.ig.length W,vS R f.PG.length X,vS U f.PE.length Y]) 7 rfl aj rfl bf;obtain ⟨bW,b0,bX,b1,bY,b2,ba,a1⟩:=bg;cases ba;have a5:=bc [sl (some ⟨V,Z,none⟩) W f.ig,sl R X f.PG,sl U Y f.PE] a1;have ⟨az,aI,h⟩:=ob h;refine jO 11 ?_;refine LW.se 0 a5 0 aH aI (hM:=uB) fun ce af=>?_;refine jn ?_;refine gs ?_;refine CW.region ?_;refine gs ?_;rw [iB (oi aI)] at af;obtain ⟨O,be,bt⟩:=ob h;refine CW.cut (fun e wb=>∃ (J:Ad) (L:Nat) (K:Ad) (M:Nat),En e [(4,.pointer (some ⟨aQ,0,none⟩)),(8,.pointer (some ⟨aR,0,none⟩)),(9,.pointer (some ⟨aS,0,none⟩))]∧St w0 F wb [bx aS 32 [vI 0,vI 0],bx aR 50 [vS none 0 0,vS none 0 0,vS none 0 0,vS none 0 0,vI 0,vI 0,vI 0,vS none 0 0,vS none 0 0,vI 0,vI 0,vI 0,vI 0,vI 0,vI 0,vI 0],bx aQ 50 [vS k g.PB.PA.length o,vS l g.own.length p,vS m g.PC.length q,vS J O.1.length L,vI O.2.1,vI O.2.2.1,vI O.2.2.2.1,vS K O.2.2.2.2.length M,vS n g.ia.length x,vI g.PJ,vI g.PI,vI g.hY.bh,vI g.hY.ib,vI g.hY.ij,vI g.ik,vI g.PH],sl k o g.PB.PA,sl l p g.own,sl m q g.PC,sl n x g.ia,sl J L O.1,sl K M O.2.2.2.2]) ?_ ?_
 · have h:=be;refine gc h ?_ ?_<;>intro _ h
   · refine gb h fun cn bl h=>?_;have ah:=af.oF (gE.mk f.PO f.Pz f.box f.res f.iK f.bh f.PK f.iP f.iM f.mark az f.PG f.PE) [0,1,2,3,4,5,6,7,8,9,10,11,12] 3 7 rfl rfl (fun w G hG=>⟨(some ⟨V,Z,none⟩),W,R,X,U,Y,rfl,hG⟩)
     refine LW.cl (zP bl (show g.py.ag.length=(g.py.ag.set (ab.1:Int).toNat (gE.mk f.PO f.Pz f.box f.res f.iK f.bh f.PK f.iP f.iM f.mark az f.PG f.PE)).length from (iB rfl)) (ah.rI 7 rfl) rfl (ah.rI 8 rfl)) ?_;rintro _ cf ⟨bm,bq,bn,br,rfl,hs⟩;have a6:=ah.add hs;refine wR a6 5 fun cg a7=>?_;refine go ?_;cases oi h;exact ⟨bm,bq,bn,br,a7.po [2,3,5,6,7,8,11,0,1]⟩
   refine go ?_;have aC:=af.oF (gE.mk f.PO f.Pz f.box f.res f.iK f.bh f.PK f.iP f.iM f.mark az f.PG f.PE) [0,1,2,3,4,5,6,7,8,9,10,11,12] 3 7 rfl rfl (fun w G hG=>⟨(some ⟨V,Z,none⟩),W,R,X,U,Y,rfl,hG⟩)
   rw [show g.py.ag.length=(g.py.ag.set (ab.1:Int).toNat (gE.mk f.PO f.Pz f.box f.res f.iK f.bh f.PK f.iP f.iM f.mark az f.PG f.PE)).length from (iB rfl)] at aC;cases oi h;exact ⟨(some ⟨bp,bD,none⟩),A,z,B,aC.po [0,1,3,4,5,6,9,7,8]⟩
 rintro e ci ⟨J,L,K,M,hE,a8⟩;obtain ⟨e,rfl⟩:=hE.out;have h:=bt;refine jL [] #[vI 0,vI 0] ?_;refine LW.st a8 1 fun cj a9=>?_;refine LW.st a9 0 fun ck ai=>?_;refine go ?_;cases h;exact Rc (iD.b ai 1 rfl lV rfl rfl) (iD.b ai 0 rfl lM rfl rfl) ⟨k,o,l,p,m,q,J,L,K,M,n,x,rfl,ai.pk [3,4,5,7,8,6]⟩
instance k_172:Ct prog 172:=⟨by kernel_rfl,@E7⟩
theorem D0 {w0} {F:List Nat} {N f aL aM B r} (h:rW N f aL aM B=some r) {g ac m} (ak:ac=f.PB.PA.length) {j ad n} (am:ad=f.own.length) {u ae x} (an:ae=f.PC.length) {Z af o} (ao:af=f.py.ag.length) {k ah p} (ap:ah=f.py.gc.hZ.length) {l ai q} (aq:ai=f.ia.length) (hS:St w0 F w0 [sl g m f.PB.PA,sl j n f.own,sl u x f.PC,sl Z o f.py.ag,sl k p f.py.gc.hZ,sl l q f.ia]) :
    iq prog 174 #[.agg #[vS g ac m,vS j ad n,vS u ae x,vS Z af o,vI f.py.gc.PD,vI f.py.gc.PL,vI f.py.gc.PF,vS k ah p,vS l ai q,vI f.PJ,vI f.PI,vI f.hY.bh,vI f.hY.ib,vI f.hY.ij,vI f.ik,vI f.PH],vI aL,vI aM,.agg #[vI B.Pz,vI B.a,vI B.b,vI B.c,vI B.d,vI B.e]] w0 (fun v w=>∃ I R, ∃ J U, ∃ K V, ∃ L W, ∃ M X, ∃ O Y,v=.tuple #[.agg #[vS I r.1.PB.PA.length R,vS J r.1.own.length U,vS K r.1.PC.length V,vS L r.1.py.ag.length W,vI r.1.py.gc.PD,vI r.1.py.gc.PL,vI r.1.py.gc.PF,vS M r.1.py.gc.hZ.length X,vS O r.1.ia.length Y,vI r.1.PJ,vI r.1.PI,vI r.1.hY.bh,vI r.1.hY.ib,vI r.1.hY.ij,vI r.1.ik,vI r.1.PH],.agg #[vI r.2.code,vI r.2.PR]]∧St w0 F w [sl I R r.1.PB.PA,sl J U r.1.own,sl K V r.1.PC,sl L W r.1.py.ag,sl M X r.1.py.gc.hZ,sl O Y r.1.ia]):=by
 subst ak am an ao ap aq;unfold rW at h;refine iq.fn func174 fun e=>?_;refine T ?_;intro cc ci bw ce cj bz cf ck bA cg cl bB aN bG h bJ ar;refine CW.fl [4,7,8,9,10,11,28] fun e=>?_;refine gc h ?_ ?_<;>intro _ h
 · refine jL [(0,vI aN.2)] #[vI aN.2,vI 0] ?_;refine T ?_;intro bK bC bL bD;exact rt
 refine gb h fun au H h=>?_;obtain ⟨aa,aj,hae,a5,a6⟩:=ar.iF (α:=gE) (i:=7) rfl H;subst hae;refine go ?_;obtain ⟨bl,A,bE⟩:=ar.freeze (α:=gE) 7 rfl;obtain ⟨bp,bI,aO,hae,a3,_,_,aC,a4⟩:=A.kc.idx H;cases hae;obtain ⟨bm,bq,bn,br,bo,bs,rfl,a7,a8,a9⟩:=aC;refine T ?_;intro bt bM bF bN av;obtain ⟨aJ,aD,aH⟩:=ob h;refine CW.jn [4,7,8,9,10,12] [0,1,2,3,4,5,6,7,8,9,10] [(53,.bool aJ)] av (h1:=?_) (h2:=?_)
 · have h:=aD;refine gB h ?_ ?_<;>intro _ h
   · exact rt
   refine T ?_;intro b7 ba h bO aP;refine bH h ?_ ?_<;>intro _ h
   · exact rt
   exact rt
 intro e bP aQ;have h:=aH;refine gc h ?_ ?_<;>intro _ h
 · refine jL [(0,vI 2)] #[vI 2,vI 0] ?_;refine T ?_;intro bQ aR bR aw;cases h;have C:=aw.i7 (α:=gE) 8 rfl A;exact Rc (iD.b C 2 rfl lV rfl rfl) (iD.b C 1 rfl lM rfl rfl) ⟨g,m,j,n,u,x,(some ⟨aa,aj,none⟩),o,k,p,l,q,rfl,C.pk [5,6,7,8,9,10]⟩
 refine jL [(1,vI (IntKind.i64.wrap (au.bh * B.b)))] #[vI 0,vI (IntKind.i64.wrap (au.bh * B.b)),vI 0] ?_;refine T ?_;intro bu bS aS bT ax;refine dW ?_;have aT:=ax.drew;refine go ?_;refine jP 5 ?_;refine T ?_;intro b8 bb h bU aU b9 bc h aF aG bV aV ca bd h bW aW;refine T ?_;intro bv bX aX bY ay;obtain ⟨aK,aE,aI⟩:=ob h;refine CW.jn [4,7,8,9,10,12,14,16] [0,1,3,4,5,6,7,8,9,10,11,12,13] [(85,.bool aK)] ay (h1:=?_) (h2:=?_)
 · have h:=aE;refine gB h ?_ ?_<;>intro _ h
   · exact rt
   exact rt
 intro e bZ aY;have h:=aI;refine gc h ?_ ?_<;>intro _ h
 · refine jL [(0,vI 6)] #[vI 6,vI 0] ?_;refine T ?_;intro b0 aZ b1 az;cases h;have G:=az.i7 (α:=gE) 10 rfl A;exact Rc (iD.b G 4 rfl lV rfl rfl) (iD.b G 3 rfl lM rfl rfl) ⟨g,m,j,n,u,x,(some ⟨aa,aj,none⟩),o,k,p,l,q,rfl,G.pk [7,8,9,10,11,12]⟩
 refine T ?_;intro b2 a0 b3 aA;refine go ?_;have aB:=aA.i7 (α:=gE) 10 rfl A;have ⟨cb,ab,h⟩:=ob h;refine LW.se 4 aB 10 H ab (hM:=(ko (fun w cs F hF=>by obtain ⟨be,bi,bf,bj,bg,bk,rfl,hH⟩:=hF;exact ⟨be,bi,bf,bj,bg,bk,rfl,hH⟩))) fun b4 a1=>?_;refine jL [] #[vI 0,vI 0] ?_;refine T ?_;intro b5 a2 b6 z;cases h;rw [iB (oi ab)] at z;exact Rc (iD.b z 4 rfl lV rfl rfl) (iD.b z 3 rfl lM rfl rfl) ⟨g,m,j,n,aF,aG,(some ⟨aa,aj,none⟩),o,k,p,l,q,rfl,z.pk [7,8,1,10,11,12]⟩
instance k_174:Ct prog 174:=⟨by kernel_rfl,@D0⟩
theorem Ft {w0 N b R U r} (h:qN N b R U=some r) {d u l} (G:u=b.PB.PA.length) (V:rb w0 d l b.PB.PA) {f x m} (H:x=b.own.length) (W:rb w0 f m b.own) {g z n} (I:z=b.PC.length) (X:rb w0 g n b.PC) {i A o} (J:A=b.py.ag.length) (M:rb w0 i o b.py.ag) {j B p} (K:B=b.py.gc.hZ.length) (Y:rb w0 j p b.py.gc.hZ) {k C q} (L:C=b.ia.length) (Z:rb w0 k q b.ia) :
    iq prog 77 #[.agg #[vS d u l,vS f x m,vS g z n,vS i A o,vI b.py.gc.PD,vI b.py.gc.PL,vI b.py.gc.PF,vS j B p,vS k C q,vI b.PJ,vI b.PI,vI b.hY.bh,vI b.hY.ib,vI b.hY.ij,vI b.ik,vI b.PH],vI R,vI U] w0 (fun v w=>v=.bool r∧St w0 [] w []):=by
 subst G H I J K L;unfold qN at h;refine iq.fn func77 fun e=>?_;have ar:=St.start w0;refine T ?_;intro aD aE au;refine T ?_;intro aH ax h aB aC aF av aI ay h aG aw;refine bH h ?_ ?_<;>intro _ h
 · refine gb h fun aA O h=>?_;obtain ⟨an,az,aa,rfl,ab,ad,ae,⟨aj,ao,ak,ap,am,aq,rfl,af,ah,ai⟩,ac⟩:=M.idx O;refine go ?_;refine T ?_;exact rt
 exact rt
instance k_77:Ct prog 77:=⟨by kernel_rfl,@Ft⟩
end Go.Kx
