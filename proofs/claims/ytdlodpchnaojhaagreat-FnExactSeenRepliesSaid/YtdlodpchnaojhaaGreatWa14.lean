import Derived.Test.YtdlodpchnaojhaaGreatWa8
import Derived.Test.YtdlodpchnaojhaaGreatWa13
namespace Go.Kx
open Go Go.RowKit Go.Proofs
open Go.IntKind (i64)
open Tryz
set_option maxRecDepth 10000
set_option maxHeartbeats 8000000
set_option linter.unusedVariables false
set_option linter.unusedSimpArgs false
theorem GW {w0} {F:List Nat} {N O U bE g r} (h:sZ N O U bE g=some r) {an aI I} (aV:aI=O.parts.length) (hS:St w0 F w0 [sl an I O.parts]) :
    gV prog 82 #[.agg #[vI O.Oc,vS an aI I],vI U,vI bE,.agg #[vI g.N0,vI g.a,vI g.b,vI g.c,vI g.d,vI g.e]] w0 (fun v w=>∃ ah ai,v=.tuple #[.agg #[vI r.1.Oc,vS ah r.1.parts.length ai],.agg #[vI r.2.code,vI r.2.Oi]]∧St w0 F w [sl ah ai r.1.parts]):=by
 subst aV;unfold sZ at h;refine gV.fn func82 fun e=>?_;refine T ?_;intro bz eK eb eJ eL ec bA eM ed bB eN ee;refine gc h ?_ ?_<;>intro _ h
 · refine jj [(0,vI 2)] #[vI 2,vI 0] ?_;refine T ?_;intro en ef ep eh;exact rt
 refine go ?_;refine LW.u (iq.quo rfl rfl (by decide)) rfl ?_;refine go ?_;refine LW.u (iq.rem rfl rfl (by decide)) rfl ?_;refine jj [(0,vI g.a),(1,vI g.b),(2,vI g.c),(3,vI (i64.wrap (Int.tdiv g.d 10))),(4,vI (Int.tmod g.d 10)),(5,vI g.e)] #[vI g.a,vI g.b,vI g.c,vI (i64.wrap (Int.tdiv g.d 10)),vI (Int.tmod g.d 10),vI g.e] ?_;refine T ?_;intro ea er ei es ej;refine T ?_;intro eF dw h et bD;refine gc h ?_ ?_<;>intro _ h
 · refine jj [(0,vI 2)] #[vI 2,vI 0] ?_;refine T ?_;intro eu c5 ew c6;exact rt
 refine jA ?_;have aw:=bD.drew;refine gb h fun f M h=>?_;obtain ⟨R,L,hae,dg,di⟩:=aw.hZ (α:=cd) (i:=5) rfl M;subst hae;refine go ?_;obtain ⟨dT,k,c7⟩:=aw.freeze (α:=cd) 5 rfl;obtain ⟨d1,ek,c3,hae,aa,_,_,bt,ab⟩:=k.jk.idx M;cases hae;obtain ⟨n,z,o,A,p,B,q,C,x,H,J,K,rfl,dk,dl,dm,dn,dp,ac⟩:=bt;refine T ?_;refine go ?_;refine T ?_;have ⟨eG,aH,h⟩:=ob h;obtain ⟨d2,el,hae,dh,dj⟩:=k.hZ aH;cases hae;refine go ?_;obtain ⟨d3,em,c4,hae,de,_,_,bu,df⟩:=k.jk.idx aH;cases hae;obtain ⟨dU,d4,dV,d5,dX,d6,dY,d7,dZ,d8,d0,d9,rfl,dq,dr,ds,dt,du,dv⟩:=bu;refine T ?_;intro eH dx h ex a7;refine gc h ?_ ?_<;>intro _ h
 · refine jj [(0,vI 3)] #[vI 3,vI 0] ?_;refine T ?_;intro ey c8 ez a8;cases h;have V:=a8.iz (α:=cd) 5 rfl k;exact Rc (ib.b V 2 rfl pz rfl rfl) (ib.b V 1 rfl kS rfl rfl) ⟨(some ⟨R,L,none⟩),I,rfl,V.pk [5]⟩
 refine jA ?_;have c9:=a7.drew;refine go ?_;refine T ?_;intro eI dy h eA a9;refine gc h ?_ ?_<;>intro _ h
 · refine jj [(0,vI 6)] #[vI 6,vI 0] ?_;refine T ?_;intro eB da eC ba;cases h;have W:=ba.iz (α:=cd) 5 rfl k;exact Rc (ib.b W 2 rfl pz rfl rfl) (ib.b W 1 rfl kS rfl rfl) ⟨(some ⟨R,L,none⟩),I,rfl,W.pk [5]⟩
 refine go ?_;refine T ?_;refine gc h ?_ ?_<;>intro _ h
 · refine jj [(0,vI 7)] #[vI 7,vI 0] ?_;refine T ?_;intro eD db eE bb;cases h;have X:=bb.iz (α:=cd) 5 rfl k;exact Rc (ib.b X 2 rfl pz rfl rfl) (ib.b X 1 rfl kS rfl rfl) ⟨(some ⟨R,L,none⟩),I,rfl,X.pk [5]⟩
 refine gs ?_;obtain ⟨a6,bv,bC⟩:=ob h;refine CW.cut (fun e wb=>En e [(1,vI U),(4,.pointer (some ⟨bz,0,none⟩)),(8,.pointer (some ⟨bA,0,none⟩)),(9,.pointer (some ⟨bB,0,none⟩))]∧St w0 F wb [bx bB 53 [vI 0,vI 0],bx bA 26 [vI 0,vS none 0 0],bx bz 26 [vI O.Oc,vS (some ⟨R,L,none⟩) a6.length I],sl (some ⟨R,L,none⟩) I a6]) ?_ ?_
 · have h:=bv;refine dW ?_;have ax:=a9.drew;refine go ?_;refine T ?_;refine AW.all (rs:=[3,12]) (by kernel_rfl) (by simp) ⟨?_,?_,trivial⟩
   · refine oA ?_;refine LW.b0 (α:=iL) ax ?_;intro bV cx dC Y hf;refine T ?_;have ⟨aJ,ak,h⟩:=ob h;refine AW.all (rs:=[10,12]) (by kernel_rfl) (by simp) ⟨?_,?_,trivial⟩
     · refine oA ?_;refine LW.jG (l:=([]:List iL)) (m:=f.gR) tS rfl rfl (Y.rZ 6 rfl ac) ak Y (i:=0) rfl rfl ?_;intro bW cy dD bc hf;refine T ?_;refine LW.xI (α:=iL) (vs:=[(0,.agg #[vI g.a,vI g.b,vI g.c,vI (i64.wrap (Int.tdiv g.d 10)),vI (Int.tmod g.d 10),vI g.e])]) (cs:=#[vI g.a,vI g.b,vI g.c,vI (i64.wrap (Int.tdiv g.d 10)),vI (Int.tmod g.d 10),vI g.e]) (l:=([iL.mk g.a g.b g.c (i64.wrap (Int.tdiv g.d 10)) (Int.tmod g.d 10) g.e]:List iL)) rfl (by kernel_rfl) rfl rfl rfl (fun w=>⟨[vI g.a,vI g.b,vI g.c,vI (i64.wrap (Int.tdiv g.d 10)),vI (Int.tmod g.d 10),vI g.e],[],[],[],rfl,rfl,⟨rfl,rfl⟩,rfl⟩) bc rfl ?_;intro bX cz dE ay hf;refine T ?_;have ⟨ad,a2,h⟩:=ob h;refine T ?_;refine LW.jG (l:=aJ) (m:=([iL.mk g.a g.b g.c (i64.wrap (Int.tdiv g.d 10)) (Int.tmod g.d 10) g.e]:List iL)) tS rfl rfl (ay.rI 0 rfl) a2 ay (i:=1) rfl rfl ?_;intro ao ar dF az hf;refine T ?_;refine go ?_;have aW:=fun (j:Nat) (u:Value) (hu:((qP n z o A p B q C x H J K f):List Value)[j]?=some u)=>(World.cell?_of_block (az.zC 7 rfl aa)).trans (ab j u hu);have bd:=az.iz (α:=cd) 7 rfl k;obtain ⟨bF,aZ,aS⟩:=bd.focus (α:=cd) (cs:=[vS n f.NZ.NY.length z,vS o f.own.length A,vS p f.N1.length B,vS q f.py.ag.length C,vI f.py.gc.N2,vI f.py.gc.Oa,vI f.py.gc.N3,vS x f.py.gc.gQ.length H,vS J f.gR.length K,vI f.N6,vI f.N7,vI f.bh.gE,vI f.bh.gT,vI f.bh.g8,vI f.gW,vI f.N5]) 7 rfl M rfl aW;obtain ⟨bY,cA,bZ,cB,b1,cC,b2,cD,b3,cE,b4,cF,aO,aL⟩:=aZ;cases aO;have be:=aS [sl n z f.NZ.NY,sl o A f.own,sl p B f.N1,sl q C f.py.ag,sl x H f.py.gc.gQ,sl J K f.gR] aL;refine T ?_;refine LW.vN (α:=cd) (vs:=[vS ao ad.length ar]) be 13 rfl zL rfl (by show _=L+(U:Int).toNat * 16+8;omega) rfl rfl rfl rfl ?_;intro dG bf hf
       refine T ?_;have bg:=bf.nC (cd.mk f.NZ f.own f.N1 f.py ad f.N6 f.N7 f.bh f.gW f.N5) [0,1,2,3,4,7,5,6,8,9,10,11,12,13] 6 7 rfl rfl (fun w G hG=>⟨n,z,o,A,p,B,q,C,x,H,ao,ar,rfl,hG⟩);rw [show O.parts.length=(O.parts.set (U:Int).toNat (cd.mk f.NZ f.own f.N1 f.py ad f.N6 f.N7 f.bh f.gW f.N5)).length from (gZ rfl)] at bg
       exact rt
     refine oA ?_;refine LW.xI (α:=iL) (vs:=[(0,.agg #[vI g.a,vI g.b,vI g.c,vI (i64.wrap (Int.tdiv g.d 10)),vI (Int.tmod g.d 10),vI g.e])]) (cs:=#[vI g.a,vI g.b,vI g.c,vI (i64.wrap (Int.tdiv g.d 10)),vI (Int.tmod g.d 10),vI g.e]) (l:=([iL.mk g.a g.b g.c (i64.wrap (Int.tdiv g.d 10)) (Int.tmod g.d 10) g.e]:List iL)) rfl (by kernel_rfl) rfl rfl rfl (fun w=>⟨[vI g.a,vI g.b,vI g.c,vI (i64.wrap (Int.tdiv g.d 10)),vI (Int.tmod g.d 10),vI g.e],[],[],[],rfl,rfl,⟨rfl,rfl⟩,rfl⟩) Y rfl ?_;intro b5 cG dH aA hf;refine T ?_;refine jP 10 ?_;refine LW.jG (l:=([]:List iL)) (m:=f.gR) tS rfl rfl (aA.rZ 7 rfl ac) ak aA (i:=1) rfl rfl ?_;intro b6 cH dI aB hf;refine T ?_;have ⟨ae,a3,h⟩:=ob h;refine T ?_;refine LW.jG (l:=aJ) (m:=([iL.mk g.a g.b g.c (i64.wrap (Int.tdiv g.d 10)) (Int.tmod g.d 10) g.e]:List iL)) tS rfl rfl (aB.rI 0 rfl) a3 aB (i:=1) rfl rfl ?_;intro ap au dJ aC hf;refine T ?_;refine go ?_;have aX:=fun (j:Nat) (u:Value) (hu:((qP n z o A p B q C x H J K f):List Value)[j]?=some u)=>(World.cell?_of_block (aC.zC 7 rfl aa)).trans (ab j u hu);have bi:=aC.iz (α:=cd) 7 rfl k;obtain ⟨bG,a0,aT⟩:=bi.focus (α:=cd) (cs:=[vS n f.NZ.NY.length z,vS o f.own.length A,vS p f.N1.length B,vS q f.py.ag.length C,vI f.py.gc.N2,vI f.py.gc.Oa,vI f.py.gc.N3,vS x f.py.gc.gQ.length H,vS J f.gR.length K,vI f.N6,vI f.N7,vI f.bh.gE,vI f.bh.gT,vI f.bh.g8,vI f.gW,vI f.N5]) 7 rfl M rfl aX;obtain ⟨b7,cI,b8,cJ,b9,cK,ca,cL,cb,cM,cc,cN,aP,aM⟩:=a0;cases aP;have bj:=aT [sl n z f.NZ.NY,sl o A f.own,sl p B f.N1,sl q C f.py.ag,sl x H f.py.gc.gQ,sl J K f.gR] aM;refine T ?_;refine LW.vN (α:=cd) (vs:=[vS ap ae.length au]) bj 13 rfl zL rfl (by show _=L+(U:Int).toNat * 16+8;omega) rfl rfl rfl rfl ?_
     intro dK bk hf;refine T ?_;have bl:=bk.nC (cd.mk f.NZ f.own f.N1 f.py ae f.N6 f.N7 f.bh f.gW f.N5) [0,1,2,3,4,7,5,6,8,9,10,11,12,13] 6 7 rfl rfl (fun w G hG=>⟨n,z,o,A,p,B,q,C,x,H,ap,au,rfl,hG⟩);rw [show O.parts.length=(O.parts.set (U:Int).toNat (cd.mk f.NZ f.own f.N1 f.py ae f.N6 f.N7 f.bh f.gW f.N5)).length from (gZ rfl)] at bl
     exact rt
   refine oA ?_;refine LW.xI (α:=iL) (vs:=[(0,.agg #[vI g.a,vI g.b,vI g.c,vI (i64.wrap (Int.tdiv g.d 10)),vI (Int.tmod g.d 10),vI g.e])]) (cs:=#[vI g.a,vI g.b,vI g.c,vI (i64.wrap (Int.tdiv g.d 10)),vI (Int.tmod g.d 10),vI g.e]) (l:=([iL.mk g.a g.b g.c (i64.wrap (Int.tdiv g.d 10)) (Int.tmod g.d 10) g.e]:List iL)) rfl (by kernel_rfl) rfl rfl rfl (fun w=>⟨[vI g.a,vI g.b,vI g.c,vI (i64.wrap (Int.tdiv g.d 10)),vI (Int.tmod g.d 10),vI g.e],[],[],[],rfl,rfl,⟨rfl,rfl⟩,rfl⟩) ax rfl ?_;intro ce cO dL bm hf;refine T ?_;refine jP 3 ?_;refine LW.b0 (α:=iL) bm ?_;intro cf cP dM aD hf;refine T ?_;have ⟨bw,a4,h⟩:=ob h;refine jP 10 ?_;refine LW.jG (l:=([]:List iL)) (m:=f.gR) tS rfl rfl (aD.rZ 7 rfl ac) a4 aD (i:=0) rfl rfl ?_;intro cg cQ dN aE hf;refine T ?_;have ⟨af,a5,h⟩:=ob h;refine T ?_;refine LW.jG (l:=bw) (m:=([iL.mk g.a g.b g.c (i64.wrap (Int.tdiv g.d 10)) (Int.tmod g.d 10) g.e]:List iL)) tS rfl rfl (aE.rI 1 rfl) a5 aE (i:=0) rfl rfl ?_;intro aq av dO aF hf;refine T ?_;refine go ?_;have aY:=fun (j:Nat) (u:Value) (hu:((qP n z o A p B q C x H J K f):List Value)[j]?=some u)=>(World.cell?_of_block (aF.zC 7 rfl aa)).trans (ab j u hu);have bn:=aF.iz (α:=cd) 7 rfl k;obtain ⟨bI,a1,aU⟩:=bn.focus (α:=cd) (cs:=[vS n f.NZ.NY.length z,vS o f.own.length A,vS p f.N1.length B,vS q f.py.ag.length C,vI f.py.gc.N2,vI f.py.gc.Oa,vI f.py.gc.N3,vS x f.py.gc.gQ.length H,vS J f.gR.length K,vI f.N6,vI f.N7,vI f.bh.gE,vI f.bh.gT,vI f.bh.g8,vI f.gW,vI f.N5]) 7 rfl M rfl aY;obtain ⟨ci,cR,cj,cS,ck,cT,cl,cU,cm,cV,cn,cW,aQ,aN⟩:=a1;cases aQ;have bo:=aU [sl n z f.NZ.NY,sl o A f.own,sl p B f.N1,sl q C f.py.ag,sl x H f.py.gc.gQ,sl J K f.gR] aN
   refine T ?_;refine LW.vN (α:=cd) (vs:=[vS aq af.length av]) bo 13 rfl zL rfl (by show _=L+(U:Int).toNat * 16+8;omega) rfl rfl rfl rfl ?_;intro dP bp hf;refine T ?_;have bq:=bp.nC (cd.mk f.NZ f.own f.N1 f.py af f.N6 f.N7 f.bh f.gW f.N5) [0,1,2,3,4,6,5,7,8,9,10,11,12,13] 6 7 rfl rfl (fun w G hG=>⟨n,z,o,A,p,B,q,C,x,H,aq,av,rfl,hG⟩)
   rw [show O.parts.length=(O.parts.set (U:Int).toNat (cd.mk f.NZ f.own f.N1 f.py af f.N6 f.N7 f.bh f.gW f.N5)).length from (gZ rfl)] at bq;exact rt
 rintro e dQ ⟨hE,br⟩;obtain ⟨e,rfl⟩:=hE.out;have h:=bC;refine jA ?_;have aG:=br.drew;refine gb h fun aK am h=>?_;obtain ⟨cv,dA,hae,bM,bN⟩:=aG.hZ (α:=cd) (i:=3) rfl am;cases hae;refine go ?_;obtain ⟨bU,aj,dc⟩:=aG.freeze (α:=cd) 3 rfl;obtain ⟨cw,dB,bJ,hae,bK,_,_,aR,bL⟩:=aj.jk.idx am;cases hae;obtain ⟨co,cX,cp,cY,cq,cZ,cr,c0,ct,c1,cu,c2,rfl,bO,bP,bQ,bR,bS,bT⟩:=aR;refine T ?_;refine AW.u (i:=9) rfl (by kernel_rfl) rfl rfl (iq.build (vs:=[(1,vI (i64.wrap ((aK.gR.length:Int) - 1)))]) (cs:=#[vI 0,vI (i64.wrap ((aK.gR.length:Int) - 1))]) rfl (by kernel_rfl)) ?_;refine T ?_;intro dR dd dS bs;cases h;have Z:=bs.iz (α:=cd) 3 rfl aj;exact Rc (ib.b Z 1 rfl pz rfl rfl) (ib.b Z 0 rfl kS rfl rfl) ⟨(some ⟨R,L,none⟩),I,rfl,Z.pk [3]⟩
instance k_82:Ct prog 82:=⟨by kernel_rfl,@GW⟩
theorem xR {w0 N a5 b r} (h:o5 N a5 b=some r) {aa aD af} (aF:aD=a5.length) (p:rb w0 aa af a5) {d X k} (av:X=b.gX.length) (ay:rb w0 d k b.gX) {f Y m} (aw:Y=b.N8.length) (az:rb w0 f m b.N8) {g Z n} (ax:Z=b.N4.length) (aA:rb w0 g n b.N4) :
    gV prog 275 #[vS aa aD af,.agg #[vI b.Oe,vI b.N0,vI b.box,vI b.Od,vI b.iw,vI b.gE,vI b.N9,vI b.iv,vI b.iu,.bool b.Ob,vS d X k,vS f Y m,vS g Z n]] w0 (fun v w=>∃ H K,v=.tuple #[vS H r.1.length K,vI r.2]∧St w0 [] w [sl H K r.1]):=by
 subst aF av aw ax;unfold o5 at h;refine gV.fn func275 fun e=>?_;have a8:=St.start w0;refine tK a8 fun a6 bV aO=>?_;refine gb h fun be bb h=>?_;refine LW.cl (uP bb rfl (aO.rB p)) ?_;rintro _ bW ⟨ab,ah,rfl,hs⟩;have ap:=aO.add hs;refine gs ?_;obtain ⟨bq,ba,bi⟩:=ob h;refine CW.jn [0,3,6] [0,1] [(19,.bool bq)] ap (h1:=?_) (h2:=?_)
 · have h:=ba;refine gb h fun bX bc h=>?_;refine LW.c0 (wE bc rfl (ap.rB p)) ap fun bF aP=>?_;refine gB h ?_ ?_<;>intro _ h
   · refine go ?_;cases oi h;exact aP.po [0,1]
   refine go ?_;cases oi h;exact aP.po [0,1]
 intro e bG aQ;have h:=bi;refine gc h ?_ ?_<;>intro _ h
 · refine go ?_;cases h;exact Rc tt tt ⟨ab,ah,rfl,aQ.pk [0]⟩
 refine go ?_;obtain ⟨aR,aX,aN⟩:=ob h;refine CW.mono (CW.lx [0,3,6,21,22] [0,1] [6] 0 (fun O=>[(23,vI O)]) (fun r x e wb=>x=.ret∧∃ u,u=r∧∃ v,kt prog f275.results e wb v∧∃ H K,v=.tuple #[vS H u.1.length K,vI u.2]∧St w0 [] wb [sl H K u.1]) aQ aX (hb:=?_)) ?_
 · intro O e bI o aq h;refine gc h ?_ ?_<;>intro _ h
   · refine gb h fun aS a0 h=>?_;obtain ⟨bA,bC,bg,rfl,au,bj,bl,⟨aG,aJ,aH,aK,aI,aL,rfl,bn,bo,bp⟩,aW⟩:=p.idx a0;refine go ?_;refine LW.l (jf.tR w0 ud rfl rfl (fun j u hu=>aW j u hu)) (aq.same _ au.1 au.2) rfl ?_;refine LW.al aq fun aM bJ a9=>?_;refine uz a9 0 fun bK W=>?_;refine gs ?_;obtain ⟨bd,aV,a7⟩:=ob h;refine CW.jn [0,3,6,7,8,21,22,23] [0,1,2] [(39,.bool bd)] W (h1:=?_) (h2:=?_)
     · have h:=aV;refine gB h ?_ ?_<;>intro _ h
       · refine go ?_;cases oi h;exact W.po [0,1,2]
       refine go ?_;refine bH h ?_ ?_<;>intro _ h
       · refine go ?_;cases oi h;exact W.po [0,1,2]
       refine go ?_;cases oi h;exact W.po [0,1,2]
     intro e bL ar;have h:=a7;refine jE [0,3,6,7,8,21,22,23,39] fun e=>?_;refine gc h ?_ ?_<;>intro _ h
     · refine go ?_;cases oi h;exact ⟨rfl,(ar.po [1,2])⟩
     refine gb h fun R a1 h=>?_;refine LW.cl (uP a1 rfl (ar.rB p)) ?_;rintro _ bM ⟨bz,J,rfl,hs⟩;have B:=ar.add hs;refine gb h fun q a2 h=>?_;refine LW.cl (zo a2 rfl (B.rB ay) rfl (B.rB az) rfl (B.rB aA)) ?_;rintro _ bN ⟨ac,ai,ad,aj,ae,ak,rfl,hs⟩;have am:=B.add hs;have ⟨bf,aB,h⟩:=ob h;obtain ⟨I,A,hae,bk,bm⟩:=am.hZ (α:=gP) (i:=3) rfl aB;subst hae;refine go ?_;have aT:=am.pk (M:=[sl ac ai q.gX,sl ad aj q.N8,sl ae ak q.N4]++[sl (some ⟨I,A,none⟩) J R,bx aM 160 (qO aG aJ aH aK aI aL aS),sl ab ah be,bx a6 160 (qO d k f m g n b)]) [0,1,2,3,4,5,6];have ⟨bS,C,h⟩:=ob h;refine LW.uE (M:=[sl ac ai q.gX,sl ad aj q.N8,sl ae ak q.N4]) (L:=[sl (some ⟨I,A,none⟩) J R,bx aM 160 (qO aG aJ aH aK aI aL aS),sl ab ah be,bx a6 160 (qO d k f m g n b)]) (z:=bf) (z':=q) (o:=0) aT (i:=0) rfl aB ud rfl (by show _=A+(O:Int).toNat * 13+0;omega) rfl rfl rfl rfl (whole (fun w G hG=>⟨ac,ai,ad,aj,ae,ak,rfl,hG⟩)) ?_;intro bO U hf;rw [oi C] at U;refine gb h fun bT aC h=>?_;obtain ⟨bB,bD,hae,aY,aZ⟩:=U.hZ (α:=gP) (i:=0) rfl aC;cases hae;(try refine LW.u (iq.ix underlying36 uc rfl rfl aY (by rw [gZ (oi C)];exact aZ)) rfl ?_);refine gb h fun aE V h=>?_;refine LW.se 0 U 0 aC V (hM:=(je (fun w cs F hF=>by obtain ⟨br,bu,bs,bv,bt,bw,rfl,hH⟩:=hF;exact ⟨br,bu,bs,bv,bt,bw,rfl,hH⟩))) fun bP an=>?_;refine gb h fun bU a3 h=>?_
     refine LW.c0 (wE a3 (show R.length=aE.length from ((gZ (oi C)).trans (gZ (oi V)))) (an.rI 0 rfl)) an fun bQ ao=>?_;refine jE [6,7,9,56] fun e=>?_;refine gc h ?_ ?_<;>intro _ h
     · refine go ?_;cases oi h;exact ⟨trivial,rfl,_,rfl,ry tt tt ⟨ab,ah,rfl,ao.pk [2]⟩⟩
     refine go ?_;replace h:=oi h;subst h;exact ⟨trivial,rfl,_,rfl,ry tt tt ⟨(some ⟨I,A,none⟩),J,(show (.tuple #[vS (some ⟨I,A,none⟩) R.length J,vI O]:Value)=.tuple #[vS (some ⟨I,A,none⟩) aE.length J,vI O] by rw [show R.length=aE.length from ((gZ (oi C)).trans (gZ (oi V)))]),ao.pk [0]⟩⟩
   refine go ?_;cases oi h;exact ⟨trivial,rfl,(aq.po [0,1])⟩
 intro x e bR hM;rcases aR with aR | bE
 · obtain ⟨rfl,hM⟩:=hM;obtain ⟨e,rfl,aU⟩:=eo hM;have h:=aN;refine go ?_;cases h;exact Rc tt tt ⟨ab,ah,rfl,aU.pk [0]⟩
 obtain ⟨rfl,u,rfl,hM⟩:=hM;cases aN;exact And.intro trivial hM
instance k_275:Ct prog 275:=⟨by kernel_rfl,@xR⟩
theorem Dj {w0 N ae af r} (h:rm N ae af=some r) {n J p} (K:J=ae.length) (L:rb w0 n p ae) :
    gV prog 300 #[vS n J p,vI af] w0 (fun v w=>∃ M O,v=.tuple #[vS M r.1.length O,.bool r.2]∧St w0 [] w [sl M O r.1]):=by
 subst K;unfold rm at h;refine gV.fn func300 fun e=>?_;have a1:=St.start w0;refine T ?_;intro ah a6 h bz m bA ak;obtain ⟨aS,ap,ay⟩:=ob h;refine CW.jn [0,1,6] [0] [(23,.bool aS)] ak (h1:=?_) (h2:=?_)
 · have h:=ap;refine T ?_;intro bC a7 h bB a3;refine bH h ?_ ?_<;>intro _ h
   · exact rt
   refine gB h ?_ ?_<;>intro _ h
   · exact rt
   refine T ?_;intro bq aQ h bg a4;exact rt
 intro e bi am;have h:=ay;refine gc h ?_ ?_<;>intro _ h
 · exact rt
 refine gb h fun ar ad h=>?_;obtain ⟨aV,a8,av,rfl,aC,aI,aM,rfl,aF⟩:=L.idx ad;refine go ?_;refine T ?_;refine dW ?_;have R:=am.drew;refine gb h fun br k h=>?_;obtain ⟨b,d,hae,aJ,aN⟩:=R.hZ (α:=g7) (i:=0) rfl k;subst hae;refine go ?_;obtain ⟨aT,A,a5⟩:=R.freeze (α:=g7) 0 rfl;obtain ⟨aW,a9,aw,hae,aD,_,_,X,aG⟩:=A.jk.idx k;cases hae;obtain rfl:=X;refine T ?_;refine go ?_;refine T ?_;intro bs aR h bj an;refine go ?_;have ao:=an.iz (α:=g7) 0 rfl A;have ⟨bt,l,h⟩:=ob h;refine T ?_;refine LW.se 2 ao 0 k l (hM:=(je (fun w cs F hF=>by obtain ⟨rfl,rfl⟩:=hF;exact ⟨rfl,rfl⟩))) fun bk q=>?_;refine T ?_;refine LW.bd [] #[.bool false,vI 0,vI 0,vI 0,vI 0] ?_;have ⟨bu,B,h⟩:=ob h;obtain ⟨aX,ba,hae,ab,ac⟩:=q.hZ (α:=g7) (i:=0) rfl B;cases hae;(try refine LW.u (iq.ix underlying35 GN rfl rfl ab (by rw [gZ (oi l)];exact ac)) rfl ?_);have ⟨U,C,h⟩:=ob h;refine LW.se 0 q 0 B C (hM:=td) fun bl V=>?_;refine go ?_;obtain ⟨bf,aa,aj⟩:=ob h;refine CW.ie aa 0 (fun f e wb=>En e [(1,vI af),(6,vS (some ⟨b,d,none⟩) f.1.length m),(7,vI ar.Og),(50,vI (ah.length:Int)),(51,vI f.2)]∧St w0 [] wb [sl (some ⟨b,d,none⟩) m f.1]) ?_ ⟨⟨rfl,(show (vS (some ⟨b,d,none⟩) ah.length m:Value)=vS (some ⟨b,d,none⟩) U.length m by rw [show ah.length=U.length from ((gZ (oi l)).trans (gZ (oi C)))]),rfl,rfl,rfl,trivial⟩,V.pk [0]⟩ ?_
 · intro f e bm o hM h;obtain ⟨e,rfl,g⟩:=eo hM;refine jE [1,6,7,50,51,52] fun e=>?_;refine gc h ?_ ?_<;>intro _ h
   · refine gs ?_;refine CW.block ?_;refine gs ?_;refine CW.region ?_;refine gs ?_;obtain ⟨aq,Z,ai⟩:=ob h;refine CW.jn [1,6,7,8,50,51] [0] [(67,.bool aq)] g (h1:=?_) (h2:=?_)
     · have h:=Z;refine gb h fun bv G h=>?_;obtain ⟨aY,bb,hae,aK,aO⟩:=g.hZ (α:=g7) (i:=0) rfl G;cases hae;refine go ?_;obtain ⟨aU,j,x⟩:=g.freeze (α:=g7) 0 rfl;obtain ⟨aZ,bc,ax,hae,aE,_,_,Y,aH⟩:=j.jk.idx G;cases hae;obtain rfl:=Y;refine T ?_;refine bH h ?_ ?_<;>intro _ h
       · refine go ?_;refine T ?_;have az:=x.iz (α:=g7) 0 rfl j;exact rt
       refine go ?_;have aA:=x.iz (α:=g7) 0 rfl j;exact rt
     intro e bn z;have h:=ai;refine gc h ?_ ?_<;>intro _ h
     · refine gb h fun bw H h=>?_;obtain ⟨a0,be,hae,aL,aP⟩:=z.hZ (α:=g7) (i:=0) rfl H;cases hae;refine go ?_;refine gb h fun au I h=>?_;refine LW.se 1 z 0 H I (hM:=(je (fun w cs F hF=>by obtain ⟨rfl,rfl⟩:=hF;exact ⟨rfl,rfl⟩))) fun bo W=>?_;refine go ?_;replace h:=oi h;subst h;exact ⟨rfl,⟨⟨rfl,(show (vS (some ⟨b,d,none⟩) f.1.length m:Value)=vS (some ⟨b,d,none⟩) au.length m by rw [gZ (oi I)]),rfl,rfl,rfl,trivial⟩,W.pk [0]⟩⟩
     exact rt
   exact rt
 rintro e bp ⟨hE,aB⟩;obtain ⟨e,rfl⟩:=hE.out;have h:=aj;exact rt
instance k_300:Ct prog 300:=⟨by kernel_rfl,@Dj⟩
theorem AI {w0 N b ak r} (h:rF N b ak=some r) {l z n} (C:z=b.ag.length) (H:rb w0 l n b.ag) {m A o} (G:A=b.gc.gQ.length) (am:rb w0 m o b.gc.gQ) :
    gV prog 277 #[.agg #[vS l z n,vI b.gc.N2,vI b.gc.Oa,vI b.gc.N3,vS m A o],vI ak] w0 (fun v w=>∃ d g, ∃ f j,v=.agg #[vS d r.ag.length g,vI r.gc.N2,vI r.gc.Oa,vI r.gc.N3,vS f r.gc.gQ.length j]∧St w0 [] w [sl d g r.ag,sl f j r.gc.gQ]):=by
 subst C G;unfold rF at h;refine gV.fn func277 fun e=>?_;have aO:=St.start w0;refine T ?_;intro bj bk aP ae bl aQ B aV h aa ac ab ad aZ aR I a0 aS a1 ai;obtain ⟨aj,M,af⟩:=ob h;refine CW.jn [1,2,4,5] [0,1,2,3,4] [(22,.bool aj)] ai (h1:=?_) (h2:=?_)
 · have h:=M;refine T ?_;intro bb aD h a2 aT;refine bH h ?_ ?_<;>intro _ h
   · refine T ?_;intro bc aE h a3 aU;refine bH h ?_ ?_<;>intro _ h
     · refine gb h fun bd R h=>?_;obtain ⟨aI,aW,an,rfl,aq,au,ax,⟨aF,aL,aG,aM,aH,aN,rfl,aA,aB,aC⟩,ar⟩:=H.idx R;refine go ?_;refine T ?_;exact rt
     exact rt
   exact rt
 intro e a4 k;have h:=af;refine gs ?_;obtain ⟨J,O,ah⟩:=ob h;refine CW.cut (fun e wb=>En e [(4,.pointer (some ⟨ae,0,none⟩)),(5,.pointer (some ⟨I,0,none⟩))]∧St w0 [] wb [bx I 40 [vS aa J.length ac,vI B.gc.N2,vI B.gc.Oa,vI B.gc.N3,vS ab B.gc.gQ.length ad],sl aa ac J,sl ab ad B.gc.gQ,bx ae 40 [vS none 0 0,vI 0,vI 0,vI 0,vS none 0 0]]) ?_ ?_
 · have h:=O;refine gc h ?_ ?_<;>intro _ h
   · refine gB h ?_ ?_<;>intro _ h
     · refine gb h fun be p h=>?_;obtain ⟨aJ,aX,hae,av,ay⟩:=k.hZ (α:=gP) (i:=1) rfl p;subst hae;refine go ?_;refine gb h fun bf q h=>?_;refine LW.se 9 k 1 p q (hM:=(je (fun w cs F hF=>by obtain ⟨U,X,V,Y,W,Z,rfl,hH⟩:=hF;exact ⟨U,X,V,Y,W,Z,rfl,hH⟩))) fun a5 K=>?_;refine go ?_;rw [gZ (oi q)] at K;exact rt
     refine gb h fun bg u h=>?_;obtain ⟨aK,aY,hae,aw,az⟩:=k.hZ (α:=gP) (i:=1) rfl u;subst hae;refine go ?_;refine gb h fun bi x h=>?_;refine LW.se 9 k 1 u x (hM:=(je (fun w cs F hF=>by obtain ⟨U,X,V,Y,W,Z,rfl,hH⟩:=hF;exact ⟨U,X,V,Y,W,Z,rfl,hH⟩))) fun a7 L=>?_;refine go ?_;rw [gZ (oi x)] at L;exact rt
   exact rt
 rintro e a9 ⟨hE,ao⟩;obtain ⟨e,rfl⟩:=hE.out;have h:=ah;refine T ?_;intro ba ap;exact rt
instance k_277:Ct prog 277:=⟨by kernel_rfl,@AI⟩
theorem wY {w0} {F:List Nat} {N b Z C r} (h:ng N b Z C=some r) {G:Nat} {g n} (aa:iM (jo w0 F) w0 g n b.NX.NZ.NY) {j o} (ab:iM (jo w0 F) w0 j o b.NX.own) {d f k p} (ac:iM (jo w0 F) w0 k p b.NX.py.ag) {l q} (ad:iM (jo w0 F) w0 l q b.NX.py.gc.gQ) {m x} (ae:iM (jo w0 F) w0 m x b.NX.gR) (hS:St w0 F w0 [bx G 188 (qC g n j o d f k p l q m x b),sl d f b.NX.N1]) :
    gV prog 295 #[.pointer (some ⟨G,0,none⟩),vI Z,.agg #[vI C.gE,vI C.gT,vI C.g8]] w0 (fun v w=>∃ A B,v=.bool r.1∧St w0 F w [bx G 188 [vS g b.NX.NZ.NY.length n,vS j b.NX.own.length o,vS A r.2.NX.N1.length B,vS k b.NX.py.ag.length p,vI r.2.NX.py.gc.N2,vI r.2.NX.py.gc.Oa,vI r.2.NX.py.gc.N3,vS l b.NX.py.gc.gQ.length q,vS m b.NX.gR.length x,vI r.2.NX.N6,vI r.2.NX.N7,vI r.2.NX.bh.gE,vI r.2.NX.bh.gT,vI r.2.NX.bh.g8,vI r.2.NX.gW,vI r.2.NX.N5,vI r.2.me,vI r.2.Oc,vI r.2.ig],sl A B r.2.NX.N1]):=by
 unfold ng at h;refine gV.fn func295 fun e=>?_;refine T ?_;intro aI aJ V;refine dW ?_;have an:=V.drew;refine T ?_;intro R aw h J K aK W;obtain ⟨I,X,af⟩:=ob h;refine CW.cut (fun e wb=>∃ (z:Nat),En e [(0,.pointer (some ⟨G,0,none⟩)),(7,vS J R.1.length K),(8,.bool R.2),(9,.pointer (some ⟨z,0,none⟩)),(10,.bool I.2.2.2)]∧St w0 F wb [sl J K R.1,bx G 188 (qC g n j o d f k p l q m x b),sl d f b.NX.N1,bx z 43 [vI I.1,vI I.2.1,vI I.2.2.1]]) ?_ ?_
 · have h:=X;refine dW ?_;have ao:=W.drew;refine go ?_;refine AW.u (i:=7) rfl (by kernel_rfl) rfl rfl (iq.build (vs:=[(1,vI C.gT)]) (cs:=#[vI 0,vI C.gT,vI 0]) rfl (by kernel_rfl)) ?_;have ⟨aL,ax,h⟩:=ob h;refine AW.all (rs:=[8,12]) (by kernel_rfl) (by simp) ⟨?_,?_,trivial⟩
   · refine oA ?_;refine T ?_;intro ay ap ak az aq aA ar;exact rt
   refine oA ?_;refine T ?_;intro am aB au;refine jP 8 ?_;refine T ?_;intro aC av aD ah;exact rt
 rintro e aE ⟨z,hE,L⟩;obtain ⟨e,rfl⟩:=hE.out;have h:=af;refine gs ?_;obtain ⟨Y,O,U⟩:=ob h;refine CW.jn [0,7,9] [0,1,2,3] [(39,.bool Y)] L (h1:=?_) (h2:=?_)
 · have h:=O;refine gB h ?_ ?_<;>intro _ h
   · exact rt
   exact rt
 intro e aF H;have h:=U;refine gc h ?_ ?_<;>intro _ h
 · refine go ?_;replace h:=oi h;subst h;exact Ra ⟨d,f,rfl,H.pk [1,2]⟩
 refine jA ?_;have ai:=H.drew;refine T ?_;intro aG aj aH M;replace h:=oi h;subst h;exact Ra ⟨J,K,rfl,M.pk [1,0]⟩
instance k_295:Ct prog 295:=⟨by kernel_rfl,@wY⟩
theorem y6 {w0 N j O r} (h:oH N j O=some r) {o x q} (A:x=j.ag.length) (R:rb w0 o q j.ag) {p z u} (B:z=j.gc.gQ.length) (U:rb w0 p u j.gc.gQ) :
    gV prog 297 #[.agg #[vS o x q,vI j.gc.N2,vI j.gc.Oa,vI j.gc.N3,vS p z u],vI O] w0 (fun v w=>∃ k m, ∃ l n,v=.agg #[vS k r.ag.length m,vI r.gc.N2,vI r.gc.Oa,vI r.gc.N3,vS l r.gc.gQ.length n]∧St w0 [] w [sl k m r.ag,sl l n r.gc.gQ]):=by
 subst A B;unfold oH at h;refine gV.fn func297 fun e=>?_;have af:=St.start w0;refine T ?_;intro aI aJ ah I aK ai aL ap h aE aG aF aH aq aj C ar ak au L;obtain ⟨M,G,J⟩:=ob h;refine CW.jn [1,4,5] [0,1,2,3] [(13,.bool M)] L (h1:=?_) (h2:=?_)
 · have h:=G;refine T ?_;intro aB Y h av am;refine bH h ?_ ?_<;>intro _ h
   · refine T ?_;intro aC Z h aw an;exact rt
   exact rt
 intro e ax ao;have h:=J;refine gs ?_;obtain ⟨b,H,K⟩:=ob h;refine CW.cut (fun e wb=>∃ (d:Ad) (g:Nat) (f:Ad) (i:Nat),En e [(4,.pointer (some ⟨I,0,none⟩)),(5,.pointer (some ⟨C,0,none⟩))]∧St w0 [] wb [bx C 40 [vS d b.1.length g,vI b.2.1,vI b.2.2.1,vI b.2.2.2.1,vS f b.2.2.2.2.length i],bx I 40 [vS none 0 0,vI 0,vI 0,vI 0,vS none 0 0],sl d g b.1,sl f i b.2.2.2.2]) ?_ ?_
 · have h:=H;refine gc h ?_ ?_<;>intro _ h
   · refine T ?_;intro aD aa h ab ad ac ae ay V;exact rt
   exact rt
 rintro e az ⟨d,g,f,i,hE,W⟩;obtain ⟨e,rfl⟩:=hE.out;have h:=K;refine T ?_;intro aA X;exact rt
instance k_297:Ct prog 297:=⟨by kernel_rfl,@y6⟩
theorem Ci {w0 N L B b r} (h:pX N L B b=some r) {g n k} (q:n=L.length) (z:rb w0 g k L) :
    gV prog 298 #[vS g n k,vI B,.agg #[vI b.gE,vI b.gT,vI b.g8]] w0 (fun v w=>∃ d f,v=.tuple #[vS d r.1.length f,vI r.2.1,.bool r.2.2]∧St w0 [] w [sl d f r.1]):=by
 subst q;unfold pX at h;refine gV.fn func298 fun e=>?_;have ai:=St.start w0;refine T ?_;intro aD aE aj ac ap h aC I aF M;refine CW.fl [0,1,5,9,21] fun e=>?_;refine gc h ?_ ?_<;>intro _ h
 · exact rt
 refine go ?_;obtain ⟨H,J,C⟩:=ob h;refine CW.mono (CW.lx [0,1,5,9,23,24] [0,1] [0] 0 (fun A=>[(25,vI A)]) (fun r x e wb=>x=.ret∧∃ u,u=r∧∃ v,kt prog f298.results e wb v∧∃ d f,v=.tuple #[vS d u.1.length f,vI u.2.1,.bool u.2.2]∧St w0 [] wb [sl d f u.1]) M J (hb:=?_)) ?_
 · intro A e aG o ak h;refine gc h ?_ ?_<;>intro _ h
   · refine gb h fun az K h=>?_;obtain ⟨ae,aq,U,rfl,V,X,Z,rfl,W⟩:=z.idx K;refine go ?_;refine T ?_;intro ah au am av G;refine CW.fl [0,1,5,9,11,23,24,25,32] fun e=>?_;refine gc h ?_ ?_<;>intro _ h
     · refine jj [(0,.bool true),(1,vI B),(2,.agg #[vI b.gE,vI b.gT,vI b.g8])] #[.bool true,vI B,vI b.gE,vI b.gT,vI b.g8] ?_;have ⟨aA,l,h⟩:=ob h;obtain ⟨j,p,hae,Y,aa⟩:=G.hZ (α:=g7) (i:=1) rfl l;subst hae;refine go ?_;have ⟨R,m,h⟩:=ob h;refine LW.se 0 G 1 l m (hM:=td) fun aw O=>?_;refine go ?_;replace h:=oi h;subst h;exact ⟨trivial,rfl,_,rfl,⟨_,kt.three (ib.t rfl) (ib.t rfl) (ib.t rfl),(some ⟨j,p,none⟩),I,(show (.tuple #[vS (some ⟨j,p,none⟩) ac.1.length I,vI A,.bool true]:Value)=.tuple #[vS (some ⟨j,p,none⟩) R.length I,vI A,.bool true] by rw [gZ (oi m)]),O.pk [1]⟩⟩
     exact rt
   exact rt
 intro x e ax hM;rcases H with H | ar
 · obtain ⟨rfl,hM⟩:=hM;obtain ⟨e,rfl,an⟩:=eo hM;have h:=C;refine T ?_;intro aB ab h ad af ay ao;exact rt
 obtain ⟨rfl,u,rfl,hM⟩:=hM;cases C;exact And.intro trivial hM
instance k_298:Ct prog 298:=⟨by kernel_rfl,@Ci⟩
end Go.Kx
