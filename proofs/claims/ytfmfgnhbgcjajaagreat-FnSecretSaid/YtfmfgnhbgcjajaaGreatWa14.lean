import Derived.Test.YtfmfgnhbgcjajaaGreatWa9
import Derived.Test.YtfmfgnhbgcjajaaGreatWa10
import Derived.Test.YtfmfgnhbgcjajaaGreatWa11
namespace Go.Kx
open Go Go.RowKit Go.Proofs
open Go.IntKind (i64)
open Tryz
set_option maxRecDepth 10000
set_option maxHeartbeats 8000000
set_option linter.unusedVariables false
set_option linter.unusedSimpArgs false
theorem E5{w0 N g a6 r}(h:pW N g a6=some r){x ak H}(au:ak=g.Rp.Ro.length)(Y:rb w0 x H g.Rp.Ro){z am I}(av:am=g.own.length)(Z:rb w0 z I g.own){A an J}(aw:an=g.Rr.length)(p:rb w0 A J g.Rr){ac ao K}(ax:ao=g.py.ag.length)(q:rb w0 ac K g.py.ag){B ap O}(ay:ap=g.py.gc.da.length)(aa:rb w0 B O g.py.gc.da){C aq R}(az:aq=g.db.length)(ab:rb w0 C R g.db):
    di prog 220 #[.agg (uP x ak H z am I A an J ac ao K B ap O C aq R g),vI a6] w0 (fun v w=>∃aA aB,v=vS aA r.length aB/\St w0 [] w [sl aA aB r]):=by
 subst au av aw ax ay az;unfold pW at h;refine di.fS func220 fun e aZ=>?_;refine we aZ fun ba _ a0=>?_;refine go ?_;refine LW.b0 (α:=Int) a0 ?_;intro a8 a9 _ k hf;refine gb h fun _ a2 h=>?_;refine LW.cl (wL a2 rfl (k.rB Y) rfl (k.rB Z) rfl (k.rB p) rfl (k.rB q) rfl (k.rB aa) rfl (k.rB ab)) ?_;rintro _ _ ⟨_,_,rfl,hs⟩;have aC:=k.add hs;refine go ?_;obtain⟨_,aO,aY⟩:=ob h;refine CW.i2 aO 0 [2,6] [0,2] (fun m (b:Ad) (d:Nat)=>[(5,vS b m.1.length d),(7,vI m.2)]) (fun m b d=>[sl b d m.1]) aC ?_ ?_ ?_
 · exact⟨a8,a9,aC.po [0,2,1]⟩
 · intro m e b d ar o aD h;refine gf [2,5,6,7,16] fun e=>?_;refine gc h ?_ ?_<;>intro _ h
   · refine fA ?_;have aE:=aD.drew;refine gb h fun a7 aj h=>?_;obtain⟨_,_,rfl,_,_⟩:=aE.dA (α:=Int) (i:=0) rfl aj;refine go ?_;obtain⟨aT,W,ae⟩:=aE.freeze (α:=Int) 0 rfl;obtain⟨_,_,_,a1,V,_,_,aK,ai⟩:=W.fe.idx aj;cases a1;obtain rfl:=aK;refine AW.tk 6 rfl (fv.iu ar.drew jR rfl (ai 0 _ rfl)) (ae.zC 0 rfl V) ?_;have⟨_,aP,h⟩:=ob h;obtain⟨aV,a5,_,rfl,n,_,_,⟨_,_,_,_,_,_,rfl,_,_,_⟩,aM⟩:=q.idx aP;refine go ?_;refine AW.tk 8 rfl (fv.tH w0 wS rfl rfl (fun j u hu=>aM j u hu)) (ae.same _ n.1 n.2) ?_;refine jO 9 ?_;refine LW.al ae fun _ _ X=>?_;refine jN (.c (X.same _ n.1 n.2) (.c (X.zC 1 rfl V) (.c (X.ce 2) jZ))) ?_;refine jO 10 ?_;refine LW.st X 0 fun _ aF=>?_;refine jn ?_;refine gs ?_;obtain⟨a4,aL,aX⟩:=ob h;refine CW.jn [2,5,6,7] [1,2,3] [(43,.bool a4)] aF (h1:=?_) (h2:=?_)
     · have h:=aL;refine dW ?_;have f:=aF.drew;refine gB h ?_ ?_<;>intro ah h
       · refine gb h fun _ aQ h=>?_;refine jO 9 ?_;refine(LW.gY (jd rfl rfl ah) ?_);refine LW.cl (wj aQ rfl (f.rB Y) rfl (f.rB Z) rfl (f.rB p) rfl (f.rB q) rfl (f.rB aa) rfl (f.rB ab)) ?_;rintro _ _ ⟨rfl,hs⟩;have ad:=f.add hs;refine jn ?_;have⟨_,aR,h⟩:=ob h;obtain⟨_,_,_,rfl,af,_,_,rfl,aN⟩:=p.idx aR;refine go ?_;refine AW.take (i:=13) rfl (by kernel_rfl) (jd rfl rfl ah) rfl (fv.iu w0 jR rfl (aN 4 _ rfl)) (ad.same _ af.1 af.2) ?_;refine go ?_;cases oi h;exact ad.po [1,2,3]
       refine go ?_;cases oi h;exact f.po [1,2,3]
     intro e _ U;have h:=aX;refine gc h ?_ ?_<;>intro _ h
     · refine go ?_;refine LW.l (fv.iu ar.drew jR rfl (ai 0 _ rfl)) (U.zC 0 rfl V) rfl ?_;have⟨_,aS,h⟩:=ob h;refine LW.fZ (M:=[]) (L:=[fz ar.drew aT,bx ba 54 (qP x H z I A J (some ⟨aV,a5,none⟩) K B O C R g),sl b d m.1]) (vs:=#[vI a7]) (i:=2) lH rfl (by kernel_rfl) rfl rfl aS U rfl (fun w G hG=>by cases(show G=[] from hG);exact⟨rfl,rfl⟩) rfl rfl ?_;intro _ aU aW _ aG hf;refine go ?_;have aH:=aG.dZ (α:=Int) 0 rfl W;cases oi h;exact⟨rfl,⟨aU,aW,aH.po [0,1,2]⟩⟩
     refine go ?_;have aI:=U.dZ (α:=Int) 0 rfl W;cases oi h;exact⟨rfl,⟨b,d,aI.po [0,1,2]⟩⟩
   refine go ?_;cases oi h;exact⟨trivial,rfl,⟨b,d,aD.po [0,1,2]⟩⟩
 intro e b d _ aJ;have h:=aY;refine go ?_;cases h;exact Ra ⟨b,d,rfl,aJ.pk [2]⟩
instance k_220:Ct prog 220:={h:=@E5}
theorem Fc{w0 N a1 bO r}(h:pG N a1 bO=some r){av aM aw}(aU:aM=a1.parts.length)(ap:rb w0 av aw a1.parts):
    di prog 174 #[.agg #[vI a1.RB,vS av aM aw],vI bO] w0 (fun v w=>∃am an,v=.agg #[vI r.RB,vS am r.parts.length an]/\St w0 [] w [sl am an r.parts]):=by
 subst aU;unfold pG at h;refine di.fS func174 fun e bU=>?_;refine we bU fun _ _ bV=>?_;refine LW.al bV fun V _ a4=>?_;refine gb h fun f b1 h=>?_;refine LW.cl (zL b1 rfl (a4.rB ap)) ?_;rintro _ _ ⟨ad,B,rfl,hs⟩;have bW:=a4.add hs;refine LW.al bW fun W _ bX=>?_;refine LW.st bX 0 fun _ aG=>?_;refine gs ?_;obtain⟨b2,bB,bT⟩:=ob h;refine CW.jn [1,4,5] [0,1,2] [(25,.bool b2)] aG (h1:=?_) (h2:=?_)
 · have h:=bB;refine gb h fun _ bF h=>?_;refine LW.c0 (zN bF rfl (aG.rB ap)) aG fun _ a5=>?_;refine gB h ?_ ?_<;>intro _ h
   · refine go ?_;cases oi h;exact a5.po [0,1,2]
   refine gb h fun _ bG h=>?_;refine go ?_;refine LW.c0 (tS bG) a5 fun _ bY=>?_;refine go ?_;cases oi h;exact bY.po [0,1,2]
 intro e _ a7;have h:=bT;refine gc h ?_ ?_<;>intro _ h
 · refine sC a7 2 fun _ ax=>?_;refine go ?_;cases h;exact And.intro trivial ⟨_,gL.one (dE.b ax 2 rfl qN rfl rfl),ad,B,rfl,ax.pk [1]⟩
 refine go ?_;refine LW.b0 (α:=fY) a7 ?_;intro a2 a3 _ bf hf;refine go ?_;obtain⟨hgd,h⟩:=DK h;simp only[RP,decide_eq_true_eq]at hgd;have bg:=bf.pk (M:=[sl ad B f.parts]++[sl a2 a3 ([]:List fY),bx W 40 [vI f.RB,vS ad f.parts.length B],bx V 40 [vI 0,vS none 0 0]]) [2,0,1,3];obtain⟨hds,hl,ae⟩:=bg.Lp;obtain⟨pv,hpv⟩:∃pv,pv=List.zipWith rv f.parts hds:=⟨_,rfl⟩;rw[<- hpv]at ae;have hhs:hds.length=f.parts.length:=by have:=hl.len;rwa[List.length_map]at this
 have hpl:f.parts.length=pv.length:=by rw[hpv];exact(BD hl).symm
 rw[hpl]at ae;obtain⟨ar,bD,hoeo61⟩:=DZ rfl (by rw[<- hpl];exact hgd.1) (by rw[<- hpl];exact hgd.2);refine CW.ie bD 0 (fun ab e wb=>∃(k:Ad) (m:Nat),En e [(1,vI bO),(4,.pointer (some ⟨V,0,none⟩)),(5,.pointer (some ⟨W,0,none⟩)),(6,vS k ab.1.length m),(7,vI ab.2)]/\St w0 [] wb [sl ad B pv,tl hds (fp f.parts),sl k m ab.1,bx W 40 [vI f.RB,vS ad pv.length B],bx V 40 [vI 0,vS none 0 0]]) ?_ ⟨a2,a3,ae.po [0,1,2,3,4]⟩ ?_
 · intro ab e a9 o hM h;obtain⟨k,m,hE,af⟩:=hM;obtain⟨e,rfl⟩:=hE.out;refine gf [1,4,5,6,7,32] fun e=>?_;refine gc h ?_ ?_<;>intro _ h
   · refine gb h fun K aL h=>?_;obtain⟨bR,b3,rfl,_,_⟩:=af.dA (α:=fG) (i:=0) rfl aL;refine go ?_;obtain⟨bP,aJ,ay⟩:=af.freeze (α:=fG) 0 rfl;obtain⟨_,_,_,Y,bw,_,_,bz,bC⟩:=aJ.fe.idx aL;cases Y;obtain⟨_,_,_,_,_,_,_,_,_,_,rfl,_,_,_,_,_⟩:=bz;refine LW.l (fv.iu a9 yk rfl (bC 2 _ rfl)) (ay.zC 0 rfl bw) rfl ?_;refine LW.bd [(0,vS K.Rr.a K.Rr.n K.Rr.c)] #[vS K.Rr.a K.Rr.n K.Rr.c] ?_;have⟨_,bI,h⟩:=ob h;refine LW.fZ (M:=[]) (L:=[fz a9 bP,tl hds (fp f.parts),sl k m ab.1,bx W 40 [vI f.RB,vS (some ⟨bR,b3,none⟩) pv.length B],bx V 40 [vI 0,vS none 0 0]]) (vs:=#[vS K.Rr.a K.Rr.n K.Rr.c]) (i:=2) JL rfl (by kernel_rfl) rfl rfl bI ay rfl (fun w G hG=>by cases(show G=[] from hG);exact⟨rfl,rfl⟩) rfl rfl ?_;intro _ bQ bS _ bi hf;refine go ?_;have bj:=bi.dZ (α:=fG) 0 rfl aJ;cases oi h;exact⟨rfl,⟨bQ,bS,bj.po [0,1,2,3,4]⟩⟩
   refine go ?_;cases oi h;exact⟨trivial,rfl,⟨k,m,af.po [0,1,2,3,4]⟩⟩
 rintro e _ ⟨k,m,hE,az⟩;obtain⟨e,rfl⟩:=hE.out;rw[show ar.1=hds.map fY.mk from by rw[hoeo61,hpv];exact B0 hhs]at az;have bk:=az.pk (M:=[sl k m (hds.map fY.mk),tl hds (fp f.parts)]++[sl ad B pv,bx W 40 [vI f.RB,vS ad pv.length B],bx V 40 [vI 0,vS none 0 0]]) [2,1,0,3,4];have ah:=bk.KM hl;have htl:ar.1.length=(ft f.parts).length:=by rw[hoeo61];simp[ft,fp,hpl]
 refine gb h fun _ bK h=>?_;obtain⟨_,aK⟩:=NI hpv hhs bK;obtain⟨I,C,rfl,_,_⟩:=ah.dA (α:=fG) (i:=1) rfl aK;obtain⟨aa,aV,bc⟩:=ob h;refine CW.i2 aV 2 [1,4,5] [1,2,3] (fun ac (p:Ad) (q:Nat)=>[(6,vS p ac.1.length q),(8,vI ac.2)]) (fun ac p q=>[sl p q ac.1]) ah ?_ ?_ ?_
 · exact⟨k,m,⟨rfl,rfl,rfl,(show(vS k ar.1.length m:Value)=vS k ((ft f.parts).length) m by rw[show ar.1.length=(ft f.parts).length from htl]),rfl,trivial⟩,ah.pk [1,2,3,0]⟩
 · intro ac e p q aO o bl h;refine go ?_;obtain⟨_,aj,U⟩:=bl.freeze (α:=fG) 0 rfl;obtain⟨_,_,_,Y,aH,_,_,bA,aI⟩:=aj.fe.idx aK;cases Y;obtain⟨_,_,_,_,_,_,_,_,_,_,rfl,_,_,_,_,bE⟩:=bA;refine LW.l (fv.iu aO Ap rfl (aI 8 _ rfl)) (U.zC 0 rfl aH) rfl ?_;refine gf [1,4,5,6,8,53] fun e=>?_;refine gc h ?_ ?_<;>intro _ h
   · refine go ?_;refine LW.l (fv.iu aO Ap rfl (aI 8 _ rfl)) (U.zC 0 rfl aH) rfl ?_;refine gb h fun _ bJ h=>?_;obtain⟨_,_,_,rfl,aP,_,_,rfl,aS⟩:=bE.idx bJ;refine go ?_;refine LW.l (fv.tH aO PH rfl rfl (fun j u hu=>aS j u hu)) (U.zC 0 rfl aP) rfl ?_;have⟨_,aZ,h⟩:=ob h;refine LW.cl (zA aZ rfl (U.rI 3 rfl)) ?_;rintro _ _ ⟨ba,bb,rfl,hs⟩;have bm:=U.add hs;refine go ?_;have bn:=bm.dZ (α:=fG) 1 rfl aj;cases oi h;exact⟨rfl,⟨ba,bb,bn.po [1,2,3,0]⟩⟩
   refine go ?_;have bo:=U.dZ (α:=fG) 0 rfl aj;cases oi h;exact⟨trivial,rfl,⟨p,q,bo.po [0,1,2,3]⟩⟩
 intro e p q _ aA;have h:=bc;refine go ?_;obtain⟨a8,h⟩:=DK h;have a8:=of_decide_eq_true a8;rw[<- hpl]at aA;have bp:=aA.Q3;obtain⟨aN,aW,be⟩:=ob h;refine CW.mono (CW.iter (σ:=Int×(List (List dj))) (ρ:=Int×(List (List dj))) (fun g e wb=>∃(H:List fG) (A:List Hd) (hR:Rl f.parts H A g.2 g.1),En e [(4,.pointer (some ⟨V,0,none⟩)),(5,.pointer (some ⟨W,0,none⟩)),(6,vS p aa.1.length q),(11,vI g.1)]/\St w0 [] wb [tl A g.2,sl (some ⟨I,C,none⟩) B H,bx W 40 [vI f.RB,vS (some ⟨I,C,none⟩) f.parts.length B],bx V 40 [vI 0,vS none 0 0],sl p q aa.1]) (fun g x e wb=>x=.exit 4/\∃(H:List fG) (A:List Hd) (hR:Rl f.parts H A g.2 g.1/\decide (g.1<(f.parts.length:Int))=false),En e [(4,.pointer (some ⟨V,0,none⟩)),(5,.pointer (some ⟨W,0,none⟩))]/\St w0 [] wb [tl A g.2,sl (some ⟨I,C,none⟩) B H,bx W 40 [vI f.RB,vS (some ⟨I,C,none⟩) f.parts.length B],bx V 40 [vI 0,vS none 0 0],sl p q aa.1]) ?_ N (0,[]) _ _ _ ⟨pv,[],⟨⟨hds,hhs,hpv,rfl⟩,trivial,rfl⟩,bp.po [0,1,2,3,4]⟩ aW) ?_
 · intro g e ak o hM h;obtain⟨H,A,hR,hE,aB⟩:=hM;obtain⟨e,rfl⟩:=hE.out;refine gf [4,5,6,11,76] fun e=>?_;refine gc h ?_ ?_<;>intro X h
   · refine fA ?_;have aC:=aB.drew;refine gb h fun _ aq h=>?_;obtain⟨_,_,rfl,_,_⟩:=aC.dA (α:=dJ) (i:=4) rfl aq;refine go ?_;obtain⟨au,ao,ai⟩:=aC.freeze (α:=dJ) 4 rfl;obtain⟨_,_,_,Y,aQ,_,_,aR,aT⟩:=ao.fe.idx aq;cases Y;obtain⟨_,_,rfl,aY⟩:=aR;refine AW.tk 7 rfl (fv.iu ak.drew yk rfl (aT 0 _ rfl)) (ai.zC 4 rfl aQ) ?_;have⟨J,a0,h⟩:=ob h;refine jO 8 ?_;refine LW.cl (Bh a0 rfl (ai.rZ 4 rfl aY)) ?_;rintro _ _ ⟨O,R,rfl,hs⟩;have aD:=ai.add hs;refine jn ?_;obtain⟨d,Z⟩:=hR.ix X;obtain⟨_,_,Y,_,aX⟩:=aD.dA (α:=fG) (i:=2) rfl Z;have aX:=of_decide_eq_true X;cases Y;refine go ?_;have bq:=aD.pk (M:=[sl O R J,tl A g.2]++[sl (some ⟨I,C,none⟩) B H,bx W 40 [vI f.RB,vS (some ⟨I,C,none⟩) f.parts.length B],bx V 40 [vI 0,vS none 0 0],fz ak.drew au]) [0,1,2,3,4,5];have br:=bq.PZ (h:=(⟨O,J.length,R⟩:Hd)) (hs:=A) hR.2.1 rfl;refine jO 11 ?_;refine LW.uR (M:=[]) (L:=[tl (A++[(⟨O,J.length,R⟩:Hd)]) (g.2++[J]),sl (some ⟨I,C,none⟩) B H,bx W 40 [vI f.RB,vS (some ⟨I,C,none⟩) f.parts.length B],bx V 40 [vI 0,vS none 0 0],fz ak.drew au]) (z:=d) (z':=(fG.mk d.Rp d.own (⟨O,J.length,R⟩:Hd) d.py d.db d.RA d.Rz d.dc d.du d.Rx)) (o:=2) br (i:=1) rfl Z yk rfl (by show _=C+(g.1:Int).toNat*16+2;omega) rfl rfl rfl rfl (fK (fun w cs F hF=>by obtain⟨b4,b9,b5,bL,b6,bM,b7,bN,b8,ca,rfl,hH⟩:=hF;exact⟨b4,b9,b5,bL,b6,bM,b7,bN,b8,ca,rfl,hH⟩)) ?_;intro _ bs hf;refine jn ?_;refine go ?_;have bt:=bs.dZ (α:=dJ) 4 rfl ao;cases oi h;exact⟨rfl,⟨(H.set (g.1:Int).toNat (fG.mk d.Rp d.own (⟨O,J.length,R⟩:Hd) d.py d.db d.RA d.Rz d.dc d.du d.Rx)),(A++[(⟨O,J.length,R⟩:Hd)]),(hR.step X hgd.2 Z rfl),bt.po [0,1,2,3,4]⟩⟩
   refine go ?_;cases oi h;exact⟨trivial,rfl,⟨H,A,⟨hR,X⟩,aB.po [0,1,2,3,4]⟩⟩
 intro x e _ hM;obtain⟨rfl,hM⟩:=hM;obtain⟨H,A,⟨hR,bZ⟩,hE,bu⟩:=hM;obtain⟨e,rfl⟩:=hE.out;have h:=be;obtain⟨bL,bM,bN⟩:=hR.fin bZ;have bv:=bu.pk (M:=[sl (some ⟨I,C,none⟩) B H,tl A aN.2]++[bx W 40 [vI f.RB,vS (some ⟨I,C,none⟩) f.parts.length B],bx V 40 [vI 0,vS none 0 0],sl p q aa.1]) [1,0,2,3,4];have aE:=bv.Kh bL hR.2.1;rw[bM,show f.parts.length=(eW f.parts aN.2).length from(yu bN).symm]at aE;refine sC aE 2 fun _ aF=>?_;refine go ?_;cases h;exact And.intro trivial ⟨_,gL.one (dE.b aF 2 rfl qN rfl rfl),(some ⟨I,C,none⟩),B,rfl,aF.pk [0]⟩
instance k_174:Ct prog 174:={h:=@Fc}
theorem Dj{w0}{F:List Nat}{N m aU r}(h:oO N m aU=some r){K:Nat}{n p}(aV:dX (eJ w0 F) w0 n p m.Rn.Rp.Ro){o q}(aW:dX (eJ w0 F) w0 o q m.Rn.own){f i k l g j b d}(hS:St w0 F w0 [bx K 183 (qC n p o q f i k l g j b d m),sl f i m.Rn.Rr,sl k l m.Rn.py.ag,sl g j m.Rn.py.gc.da,sl b d m.Rn.db]):
    di prog 167 #[.pointer (some ⟨K,0,none⟩),.agg (uL aU)] w0 (fun v w=>∃u B x C z G A H,v=.tuple #[vI r.1,vI r.2.1]/\St w0 F w [bx K 183 [vS n m.Rn.Rp.Ro.length p,vS o m.Rn.own.length q,vS u r.2.2.Rn.Rr.length B,vS x r.2.2.Rn.py.ag.length C,vI r.2.2.Rn.py.gc.Ru,vI r.2.2.Rn.py.gc.RD,vI r.2.2.Rn.py.gc.Rv,vS z r.2.2.Rn.py.gc.da.length G,vS A r.2.2.Rn.db.length H,vI r.2.2.Rn.RA,vI r.2.2.Rn.Rz,vI r.2.2.Rn.dc.cd,vI r.2.2.Rn.dc.dg,vI r.2.2.Rn.dc.dn,vI r.2.2.Rn.du,vI r.2.2.Rn.Rx,vI r.2.2.me,vI r.2.2.RB,vI r.2.2.dS],sl u B r.2.2.Rn.Rr,sl x C r.2.2.Rn.py.ag,sl z G r.2.2.Rn.py.gc.da,sl A H r.2.2.Rn.db]):=by
 unfold oO at h;refine di.fn func167 fun e=>?_;refine T ?_;intro _ _ aG;refine gc h ?_ ?_<;>intro _ h
 · refine T ?_;intro _ _ h aX aZ aY an aa ao _ aH;replace h:=oi h;subst h;exact Rc tt tt ⟨aX,aZ,aY,an,aa,ao,b,d,rfl,aH.pk [0,1,2,3,5]⟩
 refine gs ?_;refine CW.region ?_;refine gs ?_;obtain⟨aP,V,aB⟩:=ob h;refine CW.jn [0,3,7] [0,1,2,3,4,5] [(15,.bool aP)] aG (h1:=?_) (h2:=?_)
 · have h:=V;exact wk
 intro e _ aI;have h:=aB;refine gc h ?_ ?_<;>intro _ h
 · refine T ?_;intro _ _ h ab ap ac aq _ aJ;replace h:=oi h;subst h;exact Rc tt tt ⟨f,i,ab,ap,ac,aq,b,d,rfl,aJ.pk [0,4,1,2,5]⟩
 refine gs ?_;refine CW.region ?_;refine gs ?_;obtain⟨aQ,W,aC⟩:=ob h;refine CW.jn [0,3,7] [0,1,2,3,4,5] [(21,.bool aQ)] aI (h1:=?_) (h2:=?_)
 · have h:=W;exact wk
 intro e _ aK;have h:=aC;refine gc h ?_ ?_<;>intro _ h
 · refine T ?_;intro _ _ h ad ar ae au _ aL;replace h:=oi h;subst h;exact Rc tt tt ⟨f,i,ad,ar,ae,au,b,d,rfl,aL.pk [0,4,1,2,5]⟩
 refine gs ?_;refine CW.region ?_;refine gs ?_;obtain⟨aR,X,aD⟩:=ob h;refine CW.jn [0,3,7] [0,1,2,3,4,5] [(27,.bool aR)] aK (h1:=?_) (h2:=?_)
 · have h:=X;refine CW.fl [0,3,7,27] fun e=>?_;exact wk
 intro e _ aM;have h:=aD;refine gf [0,3,7,27] fun e=>?_;refine gc h ?_ ?_<;>intro _ h
 · refine T ?_;intro _ _ h af av _ aN;replace h:=oi h;subst h;exact Rc tt tt ⟨f,i,af,av,g,j,b,d,rfl,aN.pk [0,3,1,4,5]⟩
 refine gc h ?_ ?_<;>intro _ h
 · refine T ?_;intro _ _ h ah aw ai ax _ aO;replace h:=oi h;subst h;exact Rc tt tt ⟨ah,aw,ai,ax,g,j,b,d,rfl,aO.pk [0,1,2,4,5]⟩
 refine gs ?_;refine CW.region ?_;refine gs ?_;obtain⟨aS,Y,aE⟩:=ob h;refine CW.jn [0,3,7] [0,1,2,3,4,5] [(40,.bool aS)] aM (h1:=?_) (h2:=?_)
 · have h:=Y;exact wk
 intro e _ L;have h:=aE;refine gc h ?_ ?_<;>intro _ h
 · refine T ?_;intro _ _ h aj ay _ M;replace h:=oi h;subst h;exact Rc tt tt ⟨aj,ay,k,l,g,j,b,d,rfl,M.pk [0,1,3,4,5]⟩
 refine gs ?_;refine CW.region ?_;refine gs ?_;obtain⟨aT,Z,aF⟩:=ob h;refine CW.jn [0,3,7] [0,1,2,3,4,5] [(49,.bool aT)] L (h1:=?_) (h2:=?_)
 · have h:=Z;exact wk
 intro e _ I;have h:=aF;refine gc h ?_ ?_<;>intro _ h
 · refine T ?_;intro _ _ h ak az _ O;replace h:=oi h;subst h;exact Rc tt tt ⟨f,i,ak,az,g,j,b,d,rfl,O.pk [0,3,1,4,5]⟩
 refine gc h ?_ ?_<;>intro _ h
 · refine T ?_;intro _ _ h _ R;replace h:=oi h;subst h;exact Rc tt tt ⟨f,i,k,l,g,j,b,d,rfl,R.pk [0,2,3,4,5]⟩
 refine gc h ?_ ?_<;>intro _ h
 · refine fA ?_;have:=I.drew;refine T ?_;intro _ _ h _ J;refine gc h ?_ ?_<;>intro _ h
   · refine go ?_;replace h:=oi h;subst h;exact Rc tt tt ⟨f,i,k,l,g,j,b,d,rfl,J.pk [1,2,3,4,5]⟩
   refine fA ?_;have:=J.drew;refine T ?_;intro _ _ h am aA _ _ _ U;replace h:=oi h;subst h;exact Rc tt tt ⟨f,i,k,l,g,j,am,aA,rfl,U.pk [2,3,4,5,0]⟩
 refine go ?_;replace h:=oi h;subst h;exact Rc tt tt ⟨f,i,k,l,g,j,b,d,rfl,I.pk [1,2,3,4,5]⟩
instance k_167:Ct prog 167:={h:=@Dj}
theorem B7{w0}{F:List Nat}{N L a9 a0 o r}(h:nQ N L a9 a0 o=some r){aK:Nat}{n g}(hS:St w0 F w0 [bx aK 40 [vI L.RB,vS n L.parts.length g],sl n g L.parts]):
    di prog 124 #[.pointer (some ⟨aK,0,none⟩),vI a9,vI a0,.agg (uL o)] w0 (fun v w=>∃C H,v=vI r.1/\St w0 F w [bx aK 40 [vI r.2.RB,vS C r.2.parts.length H],sl C H r.2.parts]):=by
 unfold nQ at h;refine di.fn func124 fun e=>?_;refine we hS fun _ _ a4=>?_;refine gb h fun _ a6 h=>?_;refine LW.c0 (kR a6) a4 fun _ W=>?_;refine gc h ?_ ?_<;>intro _ h
 · refine go ?_;replace h:=oi h;subst h;exact Ra ⟨n,g,rfl,W.pk [1,2]⟩
 refine go ?_;refine LW.u (dL.nc rfl) rfl ?_;refine gb h fun _ a7 h=>?_;refine LW.c0 (zK a7 rfl (W.rI 2 rfl)) W fun af Y=>?_;refine gf [0,2,7,23] fun e=>?_;refine gc h ?_ ?_<;>intro _ h
 · refine go ?_;replace h:=oi h;subst h;exact Ra ⟨n,g,rfl,Y.pk [1,2]⟩
 refine go ?_;refine LW.u (dL.nc rfl) rfl ?_;refine gb h fun f J h=>?_;obtain⟨aw,aJ,rfl,_,_⟩:=Y.dA (α:=bh) (i:=2) rfl J;refine go ?_;refine LW.u (dL.nc rfl) rfl ?_;refine go ?_;obtain⟨_,A,aG⟩:=Y.freeze (α:=bh) 2 rfl;obtain⟨_,_,_,a5,q,_,_,aS,z⟩:=A.fe.idx J;cases a5;obtain⟨an,ay,ao,az,ap,aA,_,aB,aq,aC,ar,aD,rfl,_,_,_,B,_,_⟩:=aS;refine LW.l (fv.iu af Aj rfl (z 3 _ rfl)) (aG.zC 2 rfl q) rfl ?_;refine fA ?_;have aH:=aG.drew;refine gb h fun K aY h=>?_;refine jO 8 ?_;refine LW.cl (tm aY rfl (aH.rZ 2 rfl B)) ?_;rintro _ _ ⟨rfl,hs⟩;have k:=aH.add hs;refine jn ?_;refine gs ?_;obtain⟨a8,aU,a3⟩:=ob h;refine CW.jn [0,7,9,10,11] [0,1,2] [(62,.bool a8)] k (h1:=?_) (h2:=?_)
 · have h:=aU;refine gB h ?_ ?_<;>intro _ h
   · refine gb h fun _ aZ h=>?_;obtain⟨_,_,_,rfl,aa,_,_,⟨_,_,_,_,_,_,rfl,_,_,_⟩,ab⟩:=B.idx aZ;refine go ?_;refine LW.l (fv.iu af jR rfl (ab 1 _ rfl)) (k.zC 2 rfl aa) rfl ?_;refine gB h ?_ ?_<;>intro _ h
     · refine go ?_;refine LW.l (fv.iu af tR rfl (ab 12 _ rfl)) (k.zC 2 rfl aa) rfl ?_;refine go ?_;cases oi h;exact k.po [0,1,2]
     refine go ?_;cases oi h;exact k.po [0,1,2]
   refine go ?_;cases oi h;exact k.po [0,1,2]
 intro e _ Z;have h:=a3;refine gf [0,7,9,10,11,62] fun e=>?_;refine gc h ?_ ?_<;>intro _ h
 · refine dW ?_;have aI:=Z.drew;refine gb h fun d ad h=>?_;obtain⟨ax,ae,_,rfl,x,_,_,⟨au,aE,av,aF,a1,a2,rfl,_,_,_⟩,ac⟩:=B.idx ad;refine go ?_;refine AW.tk 6 rfl (fv.iu af tR rfl (ac 12 _ rfl)) (aI.zC 2 rfl x) ?_;refine go ?_;refine AW.u (i:=9) rfl (by kernel_rfl) rfl rfl (dL.build (vs:=[(0,vI (-1)),(1,vI o.b)]) (cs:=#[vI (-1),vI o.b]) rfl (by kernel_rfl)) ?_;refine jO 10 ?_;refine LW.wX (α:=eL) (vs:=[(0,.agg #[vI (-1),vI o.b])]) (cs:=#[vI (-1),vI o.b]) (l:=([eL.mk (-1) o.b]:List eL)) rfl (by kernel_rfl) rfl rfl rfl (fun w=>⟨[vI (-1),vI o.b],[],[],[],rfl,rfl,⟨rfl,rfl⟩,rfl⟩) aI rfl ?_;intro _ _ _ p hf;refine jN (.c (p.ce 1) (.c (p.zC 3 rfl x) jZ)) ?_;have aV:=p.mU 3 q z;have aW:=p.mU 3 x ac;have aM:=p.dZ (α:=bh) 3 rfl A;obtain⟨_,aX,aT⟩:=aM.mZ 3 J aV;obtain⟨_,_,_,_,_,_,_,_,_,_,_,_,aR,aL⟩:=aX;cases aR;have aN:=aT [sl an ay f.Rp.Ro,sl ao az f.own,sl ap aA f.Rr,sl (some ⟨ax,ae,none⟩) aB f.py.ag,sl aq aC f.py.gc.da,sl ar aD f.db] aL;obtain⟨_,ak,aj⟩:=aN.mZ 3 ad aW;obtain⟨_,_,_,_,_,_,ai,ah⟩:=ak;cases ai;have R:=aj [sl au aE d.dk,sl av aF d.Rw,sl a1 a2 d.Rs] ah;have⟨j,am,h⟩:=ob h;refine jO 11 ?_;refine LW.fM (l:=d.Rs) (m:=([eL.mk (-1) o.b]:List eL)) qR rfl rfl (R.rI 9 rfl) am R (i:=2) rfl rfl ?_;intro M O _ aO hf;refine jn ?_;refine Cx 14 ?_;refine LW.wh (α:=c6) (vs:=[vS M j.length O]) aO 6 rfl tR rfl (by show _=ae+(K:Int).toNat*13+12;omega) rfl rfl rfl rfl ?_;intro _ aP hf;refine jn ?_;refine go ?_;replace h:=oi h;subst h;have U:=aP.mb (c6.mk d.RG d.Rq d.box d.RF d.dY d.cd d.Ry d.ee d.ed d.mark d.dk d.Rw j) [0,1,2,3,4,5,6,7,8,9,10,11,12] 3 3 rfl rfl (fun w G hG=>⟨au,aE,av,aF,M,O,rfl,hG⟩);rw[show f.py.ag.length=(f.py.ag.set (K:Int).toNat (c6.mk d.RG d.Rq d.box d.RF d.dY d.cd d.Ry d.ee d.ed d.mark d.dk d.Rw j)).length from(dx rfl)]at U;have V:=U.mb (bh.mk f.Rp f.own f.Rr (dm.mk (f.py.ag.set (K:Int).toNat (c6.mk d.RG d.Rq d.box d.RF d.dY d.cd d.Ry d.ee d.ed d.mark d.dk d.Rw j)) f.py.gc) f.db f.RA f.Rz f.dc f.du f.Rx) [0,1,2,3,4,5,6,7,8,9] 6 3 rfl rfl (fun w G hG=>⟨an,ay,ao,az,ap,aA,(some ⟨ax,ae,none⟩),aB,aq,aC,ar,aD,rfl,hG⟩);rw[show L.parts.length=(L.parts.set (a0:Int).toNat (bh.mk f.Rp f.own f.Rr (dm.mk (f.py.ag.set (K:Int).toNat (c6.mk d.RG d.Rq d.box d.RF d.dY d.cd d.Ry d.ee d.ed d.mark d.dk d.Rw j)) f.py.gc) f.db f.RA f.Rz f.dc f.du f.Rx)).length from(dx rfl)]at V;exact Ra ⟨(some ⟨aw,aJ,none⟩),g,rfl,V.pk [2,3]⟩
 refine go ?_;refine LW.u (dL.nc rfl) rfl ?_;refine go ?_;refine LW.l (fv.iu af jR rfl (z 15 _ rfl)) (Z.zC 2 rfl q) rfl ?_;refine go ?_;refine LW.u (dL.min rfl rfl) rfl ?_;refine LW.u (dL.nc rfl) rfl ?_;refine go ?_;have aQ:=Z.dZ (α:=bh) 2 rfl A;have⟨_,I,h⟩:=ob h;refine LW.se 15 aQ 2 J I (hM:=(fK (fun w cs F hF=>by obtain⟨ba,bg,bb,bi,bc,bj,bd,bk,be,bl,bf,bm,rfl,hH⟩:=hF;exact⟨ba,bg,bb,bi,bc,bj,bd,bk,be,bl,bf,bm,rfl,hH⟩))) fun _ X=>?_;refine go ?_;replace h:=oi h;subst h;rw[dx (oi I)]at X;exact Ra ⟨(some ⟨aw,aJ,none⟩),g,rfl,X.pk [1,2]⟩
instance k_124:Ct prog 124:={h:=@B7}
theorem Gc{w0 N z R U r}(h:rr N z R U=some r){b f d}(g:f=z.length)(i:rb w0 b d z):
    di prog 159 #[vS b f d,vI R,vI U] w0 (fun v w=>v=vI r/\St w0 [] w []):=by
 subst g;unfold rr at h;refine di.fS func159 fun e G=>?_;refine go ?_;obtain⟨l,q,k⟩:=ob h;refine CW.mono (CW.lx [1,2,11,12] [] [7,8] 0 (fun j=>[(7,vI j.1),(8,vI j.2.1),(13,vI j.2.2)]) (RT prog f159.results (fun u=>vI u) w0 []) G q (hb:=?_)) ?_
 · intro j e _ o H h;refine gc h ?_ ?_<;>intro _ h
   · refine gb h fun _ K h=>?_;obtain⟨_,_,_,rfl,_,_,_,rfl,_⟩:=i.idx K;refine go ?_;refine T ?_;refine CW.fl [1,2,7,8,10,11,12,13,18] fun e=>?_;refine gc h ?_ ?_<;>intro _ h
     · exact rt
     refine gc h ?_ ?_<;>intro _ h
     · exact rt
     refine gs ?_;obtain⟨L,m,A⟩:=ob h;refine CW.jn [1,2,7,8,10,11,12,13] [] [(29,.bool L)] H (h1:=?_) (h2:=?_)
     · have h:=m;exact wk
     intro e _ I;have h:=A;refine gs ?_;obtain⟨M,n,B⟩:=ob h;refine CW.jn [1,2,8,10,11,12,13] [] [(7,vI M)] I (h1:=?_) (h2:=?_)
     · have h:=n;exact wk
     intro e _ J;have h:=B;refine gs ?_;obtain⟨O,p,C⟩:=ob h;refine CW.jn [1,2,7,8,10,11,12,13] [] [(42,.bool O)] J (h1:=?_) (h2:=?_)
     · have h:=p;exact wk
     intro e _ _;have h:=C;exact wk
   exact rt
 intro x e _ hM;rcases l with l|_
 · obtain⟨rfl,hM⟩:=hM;obtain⟨e,rfl,_⟩:=eo hM;have h:=k;exact wk
 obtain⟨rfl,u,rfl,hM⟩:=hM;cases k;exact And.intro trivial hM
instance k_159:Ct prog 159:={h:=@Gc}
theorem Dc{w0}{F:List Nat}{N x R aM f r}(h:oH N x R aM f=some r){aj:Nat}{z j}(hS:St w0 F w0 [bx aj 40 [vI x.RB,vS z x.parts.length j],sl z j x.parts]):
    di prog 125 #[.pointer (some ⟨aj,0,none⟩),vI R,vI aM,.agg (uL f)] w0 (fun v w=>∃p q,v=.tuple #[vI r.1,vI r.2.1]/\St w0 F w [bx aj 40 [vI r.2.2.RB,vS p r.2.2.parts.length q],sl p q r.2.2.parts]):=by
 unfold oH at h;refine di.fn func125 fun e=>?_;refine T ?_;intro _ _ _;refine LW.u (dL.quo rfl rfl (by decide)) rfl ?_;refine go ?_;refine LW.u (dL.rem rfl rfl (by decide)) rfl ?_;refine fm [(0,vI f.a),(1,vI f.b),(2,vI f.c),(3,vI (i64.wrap (Int.tdiv f.d 10))),(4,vI (Int.tmod f.d 10)),(5,vI f.e)] #[vI f.a,vI f.b,vI f.c,vI (i64.wrap (Int.tdiv f.d 10)),vI (Int.tmod f.d 10),vI f.e] ?_;refine T ?_;intro _ _ _ _ ah;refine LW.u (dL.nc rfl) rfl ?_;refine go ?_;have⟨g,L,h⟩:=ob h;obtain⟨A,k,rfl,_,_⟩:=ah.dA (α:=bh) (i:=3) rfl L;refine gs ?_;refine CW.block ?_;refine gs ?_;obtain⟨aL,aB,aI⟩:=ob h;refine CW.jn [0,1,2,7,10,11] [0,1,2,3] [(33,.bool aL)] ah (h1:=?_) (h2:=?_)
 · have h:=aB;exact wk
 intro e _ aJ;have h:=aI;refine gc h ?_ ?_<;>intro _ h
 · refine go ?_;replace h:=oi h;subst h;exact Rc tt tt ⟨(some ⟨A,k,none⟩),j,rfl,aJ.pk [2,3]⟩
 refine go ?_;refine LW.u (dL.nc rfl) rfl ?_;refine T ?_;intro _ _ h _ ai;refine gc h ?_ ?_<;>intro _ h
 · refine go ?_;replace h:=oi h;subst h;exact Rc tt tt ⟨(some ⟨A,k,none⟩),j,rfl,ai.pk [2,3]⟩
 refine fA ?_;have aK:=ai.drew;refine go ?_;obtain⟨_,n,_⟩:=aK.freeze (α:=bh) 3 rfl;obtain⟨_,_,_,o,aw,_,_,ay,aC⟩:=n.fe.idx L;cases o;obtain⟨U,aa,V,ab,W,ac,X,ad,Y,ae,aG,aH,rfl,_,_,_,_,_,_⟩:=ay;refine T ?_;intro _ _ h _ J;refine gc h ?_ ?_<;>intro _ h
 · refine go ?_;replace h:=oi h;subst h;have am:=J.dZ (α:=bh) 3 rfl n;exact Rc tt tt ⟨(some ⟨A,k,none⟩),j,rfl,am.pk [2,3]⟩
 refine go ?_;refine LW.u (dL.nc rfl) rfl ?_;refine T ?_;refine CW.fl [0,10,11,60] fun e=>?_;refine gc h ?_ ?_<;>intro _ h
 · refine go ?_;replace h:=oi h;subst h;have an:=J.dZ (α:=bh) 3 rfl n;exact Rc tt tt ⟨(some ⟨A,k,none⟩),j,rfl,an.pk [2,3]⟩
 refine fA ?_;have ao:=J.drew;refine T ?_;refine LW.wX (α:=ef) (vs:=[(0,.agg #[vI f.a,vI f.b,vI f.c,vI (i64.wrap (Int.tdiv f.d 10)),vI (Int.tmod f.d 10),vI f.e])]) (cs:=#[vI f.a,vI f.b,vI f.c,vI (i64.wrap (Int.tdiv f.d 10)),vI (Int.tmod f.d 10),vI f.e]) (l:=([ef.mk f.a f.b f.c (i64.wrap (Int.tdiv f.d 10)) (Int.tmod f.d 10) f.e]:List ef)) rfl (by kernel_rfl) rfl rfl rfl (fun w=>⟨[vI f.a,vI f.b,vI f.c,vI (i64.wrap (Int.tdiv f.d 10)),vI (Int.tmod f.d 10),vI f.e],[],[],[],rfl,rfl,⟨rfl,rfl⟩,rfl⟩) ao rfl ?_;intro _ _ _ B hf;refine T ?_;have aD:=B.mU 4 aw aC;have ap:=B.dZ (α:=bh) 4 rfl n;obtain⟨_,aE,aA⟩:=ap.mZ 4 L aD;obtain⟨_,_,_,_,_,_,_,_,_,_,_,_,ax,ak⟩:=aE;cases ax;have C:=aA [sl U aa g.Rp.Ro,sl V ab g.own,sl W ac g.Rr,sl X ad g.py.ag,sl Y ae g.py.gc.da,sl aG aH g.db] ak;have⟨O,aF,h⟩:=ob h;refine T ?_;refine LW.fM (l:=g.db) (m:=([ef.mk f.a f.b f.c (i64.wrap (Int.tdiv f.d 10)) (Int.tmod f.d 10) f.e]:List ef)) tU rfl rfl (C.rI 6 rfl) aF C (i:=5) rfl rfl ?_;intro Z af _ aq hf;refine T ?_;refine LW.wh (α:=bh) (vs:=[vS Z O.length af]) aq 10 rfl Ap rfl (by show _=k+(R:Int).toNat*16+8;omega) rfl rfl rfl rfl ?_;intro _ ar hf;refine T ?_;have au:=ar.mb (bh.mk g.Rp g.own g.Rr g.py O g.RA g.Rz g.dc g.du g.Rx) [0,1,2,3,4,5,6,7,8,9,10] 6 4 rfl rfl (fun w G hG=>⟨U,aa,V,ab,W,ac,X,ad,Y,ae,Z,af,rfl,hG⟩)
 refine dW ?_;have H:=au.drew;refine gb h fun _ M h=>?_;obtain⟨_,_,o,_,_⟩:=H.dA (α:=bh) (i:=4) rfl M;cases o;obtain⟨_,K,av⟩:=H.freeze (α:=bh) 4 rfl;obtain⟨_,_,_,o,_,_,_,az,_⟩:=K.fe.idx M;cases o;obtain⟨_,_,_,_,_,_,_,_,_,_,_,_,rfl,_,_,_,_,_,_⟩:=az;refine T ?_;replace h:=oi h;subst h;have I:=av.dZ (α:=bh) 4 rfl K;rw[show x.parts.length=(x.parts.set (R:Int).toNat (bh.mk g.Rp g.own g.Rr g.py O g.RA g.Rz g.dc g.du g.Rx)).length from(dx rfl)]at I;exact Rc tt tt ⟨(some ⟨A,k,none⟩),j,rfl,I.pk [3,4]⟩
instance k_125:Ct prog 125:={h:=@Dc}
theorem xU{w0 N r}(h:tw N=some r):
    di prog 170 #[] w0 (fun v w=>∃l m,v=vS l r.length m/\St w0 [] w [sl l m r]):=by
 unfold tw at h;refine di.fS func170 fun e x=>?_;refine gb h fun u I h=>?_;refine LW.mk Jv rfl rfl I x rfl ?_;intro _ g _ A hf;refine go ?_;refine LW.bi [-1, -1] A ?_;intro f j _ n hf;refine LW.bd [(1,vI 1),(2,vI (-1)),(4,vI 1000000),(10,vS f (([-1, -1]:List Int).length) j)] #[vI 0,vI 1,vI (-1),vI 0,vI 1000000,vI 0,vI 0,vI 0,vI 0,.bool false,vS f (([-1, -1]:List Int).length) j,vS none 0 0,vS none 0 0] ?_;have⟨K,q,h⟩:=ob h;obtain⟨d,b,rfl,_,_⟩:=n.dA (α:=c6) (i:=1) rfl q;refine go ?_;have B:=n.nil (α:=Int);have C:=B.nil (α:=eL);have H:=C.pk (M:=[sl f j ([-1, -1]:List Int),sl none 0 [],sl none 0 []]++[sl (some ⟨d,b,none⟩) g u]) [2,1,0,3];have⟨J,k,h⟩:=ob h;refine LW.uR (M:=[sl f j ([-1, -1]:List Int),sl none 0 [],sl none 0 []]) (L:=[sl (some ⟨d,b,none⟩) g u]) (z:=K) (z':=(c6.mk 0 1 (-1) 0 1000000 0 0 0 0 false ([-1, -1]:List Int) [] [])) (o:=0) H (i:=0) rfl q wS rfl (by show _=b+(0:Int).toNat*13+0;omega) rfl rfl rfl rfl (whole (fun w G hG=>⟨f,j,none,0,none,0,rfl,hG⟩)) ?_;intro _ p hf;rw[oi k]at p;refine go ?_;replace h:=oi h;subst h;exact Ra ⟨(some ⟨d,b,none⟩),g,(show(vS (some ⟨d,b,none⟩) u.length g:Value)=vS (some ⟨d,b,none⟩) J.length g by rw[dx (oi k)]),p.pk [0]⟩
instance k_170:Ct prog 170:={h:=@xU}
theorem zX{w0 N b r}(h:rP N b=some r):
    di prog 168 #[.agg #[vI b.cd,vI b.dg,vI b.dn]] w0 (fun v w=>∃l m,v=.tuple #[vS l r.1.length m,.bool r.2]/\St w0 [] w [sl l m r.1]):=by
 unfold rP at h;refine di.fS func168 fun e _=>?_;refine T ?_;intro _ _ _ _ _ h _ n;refine gc h ?_ ?_<;>intro _ h
 · refine go ?_;refine LW.b0 (α:=dj) n ?_;intro _ _ _ _ hf;exact rt
 refine gb h fun x q h=>?_;refine LW.mk Jk rfl rfl q n rfl ?_;intro _ f _ o hf;refine fm [(0,.bool true),(1,vI (-1)),(2,.agg #[vI b.cd,vI b.dg,vI b.dn])] #[.bool true,vI (-1),vI b.cd,vI b.dg,vI b.dn] ?_;have⟨_,g,h⟩:=ob h;obtain⟨d,k,rfl,_,_⟩:=o.dA (α:=dj) (i:=0) rfl g;refine go ?_;have⟨u,j,h⟩:=ob h;refine LW.se 0 o 0 g j (hM:=ti) fun _ p=>?_;refine go ?_;replace h:=oi h;subst h;exact Rc tt tt ⟨(some ⟨d,k,none⟩),f,(show(.tuple #[vS (some ⟨d,k,none⟩) x.length f,.bool true]:Value)=.tuple #[vS (some ⟨d,k,none⟩) u.length f,.bool true] by rw[dx (oi j)]),p.pk [0]⟩
instance k_168:Ct prog 168:={h:=@zX}
end Go.Kx
