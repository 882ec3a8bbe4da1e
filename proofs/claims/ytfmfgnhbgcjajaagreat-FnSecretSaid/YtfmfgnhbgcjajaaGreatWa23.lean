import Derived.Test.YtfmfgnhbgcjajaaGreatWa21
import Derived.Test.YtfmfgnhbgcjajaaGreatWa22
namespace Go.Kx
open Go Go.RowKit Go.Proofs
open Tryz
set_option maxRecDepth 10000
set_option maxHeartbeats 8000000
set_option linter.unusedVariables false
set_option linter.unusedSimpArgs false
theorem yS{wA:World}{N bK r}(h:pV N bK=some r){am aC an}(aN:aC=bK.length)(g:dX (eJ wA []) wA am an bK):
    di prog 3 #[vS am aC an] wA (fun v w=>v=.bool r/\St wA [] w []):=by
 subst aN;refine di.mono (K:=fun v w=>v=.bool r/\∃wm,St wA [] wm []/\St wm [] w []) ?_ (fun v w ⟨h1,wm,h2,b6⟩=>⟨h1,h2.add b6⟩);have hA:=St.start wA;unfold pV at h;refine di.fn func3 fun e=>?_;have ba:=St.start wA;refine gb h fun _ bW h=>?_;refine LW.c0 (Hm bW rfl (ba.rB g)) ba fun _ ar=>?_;refine gc h ?_ ?_<;>intro _ h
 · refine go ?_;cases h;exact Ra ⟨rfl,⟨_,hA,ar.pk []⟩⟩
 refine gb h fun b1 bX h=>?_;refine LW.cl (yI bX rfl (ar.rB g)) ?_;rintro _ w0 ⟨b2,b4,b3,b5,rfl,hs⟩;have af:=ar.add hs;have bf:rb w0 b2 b4 b1.1:=af.rI 0 rfl;have z:rb w0 b3 b5 b1.2:=af.rI 1 rfl;have g:=af.rB g;have hA:St wA [] w0 []:=af.pk [];have ay:=St.start w0;refine gs ?_;obtain⟨bY,br,bP⟩:=ob h;refine CW.jn [0,3,4] [] [(30,.bool bY)] ay (h1:=?_) (h2:=?_)
 · have h:=br;refine gb h fun _ bv h=>?_;refine LW.c0 (AN bv rfl (ay.rB bf)) ay fun _ bb=>?_;refine gB h ?_ ?_<;>intro _ h
   · refine go ?_;cases oi h;exact bb.po []
   refine go ?_;cases oi h;exact bb.po []
 intro e _ bc;have h:=bP;refine gc h ?_ ?_<;>intro _ h
 · refine go ?_;cases h;exact Ra ⟨rfl,⟨_,hA,bc.pk []⟩⟩
 refine go ?_;refine LW.b0 (α:=dK) bc ?_;intro bL bN _ bR hf;refine go ?_;have bd:=bR.Rm (α:=dK) (S:=eJ w0 []) (wB:=w0) 0 rfl;obtain⟨bZ,bt,bQ⟩:=ob h;refine CW.i2 bt 0 [0,3,4] [] (fun L (k:Ad) (n:Nat)=>[(5,vS k L.1.length n),(6,vI L.2)]) (fun L k n=>[Cr (eJ w0 []) w0 k n L.1]) bd ?_ ?_ ?_
 · exact⟨bL,bN,bd.po [0]⟩
 · intro L e k n _ o be h;refine gf [0,3,4,5,6,35] fun e=>?_;refine gc h ?_ ?_<;>intro _ h
   · refine fA ?_;have O:=be.drew;refine gb h fun f bw h=>?_;obtain⟨_,_,_,rfl,d,_,_,⟨ad,ae,_,_,rfl,bu,_⟩,aB⟩:=bf.idx bw;refine go ?_;refine AW.tk 5 rfl (fv.tH w0 Ae rfl rfl (fun j u hu=>BA (m:=1) aB 0 hu)) (O.same _ d.1 d.2) ?_;refine go ?_;refine AW.tk 10 rfl (fv.tH w0 D2 rfl rfl (fun j u hu=>BA (m:=3) aB 2 hu)) (O.same _ d.1 d.2) ?_;refine AW.u (i:=11) rfl (by kernel_rfl) rfl rfl (dL.build (vs:=[(0,.agg #[vS ad f.Rp.Ro.length ae]),(2,.agg #[vI f.eV.cd,vI f.eV.dg,vI f.eV.dn])]) (cs:=#[vS ad f.Rp.Ro.length ae,vS none 0 0,vI f.eV.cd,vI f.eV.dg,vI f.eV.dn]) rfl (by kernel_rfl)) ?_;refine jO 12 ?_;refine LW.LU (vs:=#[vS ad f.Rp.Ro.length ae,vS none 0 0,vI f.eV.cd,vI f.eV.dg,vI f.eV.dn]) Ii rfl (by kernel_rfl) O rfl ?_;intro _ _ R hf;refine jN (.c (R.same _ d.1 d.2) (.c (R.same _ d.1 d.2) jZ)) ?_;have⟨_,bz,h⟩:=ob h;refine jO 13 ?_;refine LW.Qt (vs:=[vS ad f.Rp.Ro.length ae,vS none 0 0,vI f.eV.cd,vI f.eV.dg,vI f.eV.dn]) (i:=1) (j:=0) Ii rfl rfl bz R rfl rfl rfl ⟨_,_,_,_,rfl,bu,(dX.nil _ _ _ _ (Nat.zero_le _))⟩ rfl rfl ?_;intro bM bO _ U;refine jN (.c (U.same _ d.1 d.2) (.c (U.same _ d.1 d.2) jZ)) ?_;refine go ?_;cases oi h;exact⟨rfl,⟨bM,bO,U.po [1]⟩⟩
   refine go ?_;cases oi h;exact⟨trivial,rfl,⟨k,n,be.po [0]⟩⟩
 intro e k n M B;have h:=bQ;have p:dX (eJ M []) M k n bZ.1:=B.Q4 (i:=0) rfl;have g:=B.rB g;have z:=B.rB z;have hA:St wA [] M []:=hA.add (B.pk []);have ap:=St.start M;obtain⟨w0,bV⟩:∃w0,w0=M:=⟨_,rfl⟩;subst bV;refine gb h fun _ bA h=>?_;refine LW.c0 (JT bA rfl (ap.rB g)) ap fun _ aq=>?_;refine gb h fun _ bI h=>?_;refine LW.u (dL.rem rfl rfl (AY bI)) rfl ?_;have⟨_,bB,h⟩:=ob h;obtain⟨_,_,_,rfl,aA,_,_,⟨_,_,_,_,rfl,q,_⟩,bs⟩:=p.idx bB;refine go ?_;refine LW.l (fv.tH w0 Ae rfl rfl (fun j u hu=>BA (m:=1) bs 0 hu)) (aq.same _ aA.1 aA.2) rfl ?_;refine LW.al aq fun _ _ bi=>?_;refine LW.st bi 0 fun _ C=>?_;refine gb h fun _ bC h=>?_;refine LW.cl (CV bC rfl (C.rB p) rfl (C.rB z) rfl (C.rB q)) ?_;rintro _ _ ⟨_,_,rfl,hs⟩;have V:=C.add hs;refine gb h fun _ bD h=>?_;refine LW.cl (Ak bD rfl (V.rB p) rfl (V.rB z)) ?_;rintro _ _ ⟨_,_,_,_,rfl,hs⟩;have bj:=V.add hs;refine go ?_;refine LW.al bj fun _ _ bk=>?_;refine LW.st bk 0 fun _ W=>?_;refine gb h fun _ bE h=>?_;refine LW.cl (Ak bE rfl (W.rB p) rfl (W.rI 3 rfl)) ?_;rintro _ _ ⟨_,_,_,_,rfl,hs⟩;have bl:=W.add hs;refine go ?_;refine LW.al bl fun _ _ bm=>?_;refine LW.st bm 0 fun _ X=>?_;refine go ?_;have⟨_,bF,h⟩:=ob h;refine LW.cl (uM bF rfl (X.rI 4 rfl) rfl (X.rB q)) ?_;rintro _ _ ⟨_,_,rfl,hs⟩;have Y:=X.add hs;refine gb h fun _ bG h=>?_;refine LW.cl (uM bG rfl (Y.rI 2 rfl) rfl (Y.rB q)) ?_;rintro _ _ ⟨_,_,rfl,hs⟩;have Z:=Y.add hs;refine gs ?_;obtain⟨bJ,aK,bg⟩:=ob h;refine CW.jn [4,5,7,8,13,14] [0,1,8,9] [(92,.bool bJ)] Z (h1:=?_) (h2:=?_)
 · have h:=aK;refine gB h ?_ ?_<;>intro _ h
   · refine go ?_;cases oi h;exact Z.po [0,1,8,9]
   refine go ?_;cases oi h;exact Z.po [0,1,8,9]
 intro e _ au;have h:=bg;refine gc h ?_ ?_<;>intro _ h
 · refine go ?_;cases h;exact Ra ⟨rfl,⟨_,hA,au.pk []⟩⟩
 refine go ?_;obtain⟨aD,aO,ao⟩:=ob h;refine CW.mono (CW.lx [4,5,7,8,13,14] [0,1,2,3] [4,5,7,8] 2 (fun aE=>[(15,vI aE)]) (RT prog f3.results (fun u=>.bool u) w0 []) au aO (hb:=?_)) ?_
 · intro aE e aF o av h;refine gc h ?_ ?_<;>intro _ h
   · refine fA ?_;have aw:=av.drew;refine gb h fun _ aj h=>?_;obtain⟨_,_,rfl,_,_⟩:=aw.dA (α:=bh) (i:=1) rfl aj;refine go ?_;obtain⟨_,ah,aa⟩:=aw.freeze (α:=bh) 1 rfl;obtain⟨_,_,_,az,aG,_,_,aI,aL⟩:=ah.fe.idx aj;cases az;obtain⟨_,_,_,_,_,_,_,_,_,_,_,_,rfl,aP,aQ,aR,aS,aT,aU⟩:=aI;refine AW.tk 3 rfl (fv.tH aF.drew iE rfl rfl (fun j u hu=>aL j u hu)) (aa.zC 1 rfl aG) ?_;refine gb h fun _ ak h=>?_;obtain⟨_,_,rfl,_,_⟩:=aa.dA (α:=bh) (i:=0) rfl ak;refine go ?_;obtain⟨_,ai,b⟩:=aa.freeze (α:=bh) 0 rfl;obtain⟨_,_,_,az,aH,_,_,aJ,aM⟩:=ai.fe.idx ak;cases az;obtain⟨_,_,_,_,_,_,_,_,_,_,_,_,rfl,aV,aW,aX,aY,aZ,a0⟩:=aJ;refine AW.tk 7 rfl (fv.tH aF.drew iE rfl rfl (fun j u hu=>aM j u hu)) (b.zC 0 rfl aH) ?_;have⟨_,a1,h⟩:=ob h;refine jO 8 ?_;refine LW.cl (yx a1 rfl (b.rZ 1 rfl aP) rfl (b.rZ 1 rfl aQ) rfl (b.rZ 1 rfl aR) rfl (b.rZ 1 rfl aS) rfl (b.rZ 1 rfl aT) rfl (b.rZ 1 rfl aU) rfl (b.rZ 0 rfl aV) rfl (b.rZ 0 rfl aW) rfl (b.rZ 0 rfl aX) rfl (b.rZ 0 rfl aY) rfl (b.rZ 0 rfl aZ) rfl (b.rZ 0 rfl a0)) ?_;rintro _ _ ⟨rfl,hs⟩;have ax:=b.add hs;refine jn ?_;refine gc h ?_ ?_<;>intro _ h
     · refine go ?_;cases oi h;exact⟨trivial,rfl,_,rfl,rx ⟨rfl,ax.pk []⟩⟩
     refine go ?_;have bn:=ax.dZ (α:=bh) 0 rfl ai;have bo:=bn.dZ (α:=bh) 1 rfl ah;cases oi h;exact⟨rfl,(bo.po [0,1,2,3])⟩
   refine go ?_;cases oi h;exact⟨trivial,rfl,(av.po [0,1,2,3])⟩
 intro x e _ hM;rcases aD with aD|_
 · obtain⟨rfl,hM⟩:=hM;obtain⟨e,rfl,bp⟩:=eo hM;have h:=ao;refine fA ?_;have G:=bp.drew;refine gb h fun _ a2 h=>?_;refine jO 3 ?_;refine LW.cl (pC a2 rfl (G.rB p) rfl (G.rB z) rfl (G.rB q)) ?_;rintro _ _ ⟨_,_,rfl,hs⟩;have H:=G.add hs;refine jn ?_;have⟨_,a3,h⟩:=ob h;refine jO 7 ?_;refine LW.cl (pC a3 rfl (H.rB p) rfl (H.rI 3 rfl) rfl (H.rB q)) ?_;rintro _ _ ⟨_,_,rfl,hs⟩;have ab:=H.add hs;refine jn ?_;have⟨_,a4,h⟩:=ob h;refine jO 8 ?_;refine LW.cl (sP a4 rfl (ab.rI 1 rfl) rfl (ab.rI 0 rfl)) ?_;rintro _ _ ⟨rfl,hs⟩;have A:=ab.add hs;refine jn ?_;refine gB h ?_ ?_<;>intro J h
   · refine gb h fun _ a6 h=>?_;refine jO 13 ?_;refine(LW.gY (jd rfl rfl J) ?_);refine LW.cl (pC a6 rfl (A.rB p) rfl (A.rB z) rfl (A.rB q)) ?_;rintro _ _ ⟨_,_,rfl,hs⟩;have I:=A.add hs;refine jn ?_;have⟨_,a8,h⟩:=ob h;refine jO 17 ?_;refine(LW.gY (jd rfl rfl J) ?_);refine LW.cl (wE a8 rfl (I.rB p) rfl (I.rI 5 rfl) rfl (I.rB q)) ?_;rintro _ _ ⟨_,_,rfl,hs⟩;have ac:=I.add hs;refine jn ?_;have⟨_,a9,h⟩:=ob h;refine jO 18 ?_;refine(LW.gY (jd rfl rfl J) ?_);refine LW.cl (sP a9 rfl (ac.rI 1 rfl) rfl (ac.rI 0 rfl)) ?_;rintro _ _ ⟨rfl,hs⟩;have bq:=ac.add hs;refine jn ?_;refine go ?_;cases h;exact Ra ⟨rfl,⟨_,hA,bq.pk []⟩⟩
   refine go ?_;cases h;exact Ra ⟨rfl,⟨_,hA,A.pk []⟩⟩
 obtain⟨rfl,u,rfl,hM⟩:=hM;cases ao;obtain⟨v,bS,bT,bU⟩:=hM;exact⟨trivial,v,bS,bT,_,hA,bU⟩
instance k_3:Ct prog 3:={h:=@yS}
end Go.Kx
