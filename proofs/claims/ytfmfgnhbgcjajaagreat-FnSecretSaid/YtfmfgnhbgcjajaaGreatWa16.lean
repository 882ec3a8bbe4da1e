import Derived.Test.YtfmfgnhbgcjajaaGreatWa12
import Derived.Test.YtfmfgnhbgcjajaaGreatWa13
import Derived.Test.YtfmfgnhbgcjajaaGreatWa14
namespace Go.Kx
open Go Go.RowKit Go.Proofs
open Tryz
set_option maxRecDepth 10000
set_option maxHeartbeats 8000000
set_option linter.unusedVariables false
set_option linter.unusedSimpArgs false
theorem Fm{w0 N z aU r}(h:qd N z aU=some r){p ao x}(aq:ao=z.parts.length)(ax:rb w0 p x z.parts):
    di prog 116 #[.agg #[vI z.RB,vS p ao x],vI aU] w0 (fun v w=>∃U V,v=.agg #[vI r.RB,vS U r.parts.length V]/\St w0 [] w [sl U V r.parts]):=by
 subst aq;unfold qd at h;refine di.fS func116 fun e _=>?_;refine T ?_;intro ab _ _ B _ _ l _ h q m _ _ C _ _ _ ba;obtain⟨bc,aM,a9⟩:=ob h;refine CW.jn [1,2,4,5] [0,1,2,3] [(23,.bool bc)] ba (h1:=?_) (h2:=?_)
 · have h:=aM;exact wk
 intro e _ bb;have h:=a9;refine gc h ?_ ?_<;>intro _ h
 · exact wk
 refine go ?_;refine LW.b0 (α:=fY) bb ?_;intro ay az _ aB hf;refine go ?_;obtain⟨hgd,h⟩:=DK h;simp only[RP,decide_eq_true_eq]at hgd;have aC:=aB.pk (M:=[sl q m l.parts]++[sl ay az ([]:List fY),bx C 40 [vI l.RB,vS q l.parts.length m],bx B 40 [vI 0,vS none 0 0],bx ab 40 [vI z.RB,vS p z.parts.length x]]) [2,0,1,3,4];obtain⟨hds,hl,O⟩:=aC.Lp;obtain⟨pv,hpv⟩:∃pv,pv=List.zipWith rv l.parts hds:=⟨_,rfl⟩;rw[<- hpv]at O;have hhs:hds.length=l.parts.length:=by have:=hl.len;rwa[List.length_map]at this
 have hpl:l.parts.length=pv.length:=by rw[hpv];exact(BD hl).symm
 rw[hpl]at O;obtain⟨aa,aN,hoeo64⟩:=DZ hpl (by rw[<- hpl];exact hgd.1) (by rw[<- hpl];exact hgd.2);refine CW.ie aN 0 (fun J e wb=>∃(f:Ad) (g:Nat),En e [(1,vI aU),(2,.pointer (some ⟨ab,0,none⟩)),(4,.pointer (some ⟨B,0,none⟩)),(5,.pointer (some ⟨C,0,none⟩)),(6,vS f J.1.length g),(27,vS q l.parts.length m),(28,vI (l.parts.length:Int)),(29,vI J.2)]/\St w0 [] wb [sl q m pv,tl hds (fp l.parts),sl f g J.1,bx C 40 [vI l.RB,vS q pv.length m],bx B 40 [vI 0,vS none 0 0],bx ab 40 [vI z.RB,vS p z.parts.length x]]) ?_ ⟨ay,az,O.po [0,1,2,3,4,5]⟩ ?_
 · intro J e bf o hM h;obtain⟨f,g,hE,ac⟩:=hM;obtain⟨e,rfl⟩:=hE.out;refine gf [1,2,4,5,6,27,28,29,30] fun e=>?_;refine gc h ?_ ?_<;>intro _ h
   · refine gb h fun b an h=>?_;obtain⟨a1,be,rfl,aO,aP⟩:=ac.dA (α:=fG) (i:=0) rfl an;(try refine LW.u (dL.ix underlying38 L8 rfl rfl aO (by rw[show l.parts.length=pv.length from hpl];exact aP)) rfl ?_);obtain⟨aV,am,_⟩:=ac.freeze (α:=fG) 0 rfl;obtain⟨_,_,_,ak,_,_,_,aL,_⟩:=am.fe.idx an;cases ak;obtain⟨aW,a2,aX,a3,aY,a4,aZ,a5,a0,a7,rfl,_,_,_,_,_⟩:=aL;refine T ?_;intro a8 _ _ _ aD;refine LW.bd [(0,vS b.Rr.a b.Rr.n b.Rr.c)] #[vS b.Rr.a b.Rr.n b.Rr.c] ?_;have⟨_,aR,h⟩:=ob h;refine LW.fZ (M:=[]) (L:=[bx a8 54 [vS aW b.Rp.Ro.length a2,vS aX b.own.length a3,vS b.Rr.a b.Rr.n b.Rr.c,vS aY b.py.ag.length a4,vI b.py.gc.Ru,vI b.py.gc.RD,vI b.py.gc.Rv,vS aZ b.py.gc.da.length a5,vS a0 b.db.length a7,vI b.RA,vI b.Rz,vI b.dc.cd,vI b.dc.dg,vI b.dc.dn,vI b.du,vI b.Rx],fz bf aV,tl hds (fp l.parts),sl f g J.1,bx C 40 [vI l.RB,vS (some ⟨a1,be,none⟩) pv.length m],bx B 40 [vI 0,vS none 0 0],bx ab 40 [vI z.RB,vS p z.parts.length x]]) (vs:=#[vS b.Rr.a b.Rr.n b.Rr.c]) (i:=3) JL rfl (by kernel_rfl) rfl rfl aR aD rfl (fun w G hG=>by cases(show G=[] from hG);exact⟨rfl,rfl⟩) rfl rfl ?_;intro _ _ _ _ aE hf;refine go ?_;have _:=aE.dZ (α:=fG) 1 rfl am;exact rt
   exact rt
 rintro e _ ⟨f,g,hE,ad⟩;obtain⟨e,rfl⟩:=hE.out;rw[show aa.1=hds.map fY.mk from by rw[hoeo64,hpv];exact B0 hhs]at ad;have aF:=ad.pk (M:=[sl f g (hds.map fY.mk),tl hds (fp l.parts)]++[sl q m pv,bx C 40 [vI l.RB,vS q pv.length m],bx B 40 [vI 0,vS none 0 0],bx ab 40 [vI z.RB,vS p z.parts.length x]]) [2,1,0,3,4,5];have ae:=aF.KM hl;have htl:aa.1.length=(ft l.parts).length:=by rw[hoeo64];simp[ft,fp,hpl]
 refine gb h fun _ aS h=>?_;obtain⟨_,_,_,rfl,_,_,_,⟨_,_,_,_,_,_,_,_,_,_,_,_,rfl,_,_,_,_,_,aQ⟩,_⟩:=ax.idx aS;refine go ?_;refine T ?_;refine go ?_;obtain⟨d,ar,aA⟩:=ob h;refine CW.i2 ar 2 [1,4,5,45,46] [1,2,3] (fun K (j:Ad) (k:Nat)=>[(6,vS j K.1.length k),(47,vI K.2)]) (fun K j k=>[sl j k K.1]) ae ?_ ?_ ?_
 · exact⟨f,g,⟨rfl,rfl,rfl,rfl,rfl,(show(vS f aa.1.length g:Value)=vS f ((ft l.parts).length) g by rw[show aa.1.length=(ft l.parts).length from htl]),rfl,trivial⟩,ae.pk [1,2,3,0]⟩
 · intro K e j k _ o _ h;refine gf [1,4,5,6,45,46,47,48] fun e=>?_;refine gc h ?_ ?_<;>intro _ h
   · refine gb h fun _ aT h=>?_;obtain⟨_,_,_,rfl,_,_,_,rfl,_⟩:=aQ.idx aT;exact wk
   exact rt
 intro e j k _ aG;have h:=aA;refine go ?_;obtain⟨A,h⟩:=DK h;have A:=of_decide_eq_true A;have aH:=aG.pk (M:=[sl j k d.1]++[sl q m pv,bx C 40 [vI l.RB,vS q pv.length m],bx B 40 [vI 0,vS none 0 0]]) [3,0,1,2];obtain⟨ht,hlt,af⟩:=aH.Pp;have hht:ht.length=d.1.length:=by have:=hlt.len;rwa[List.length_map]at this
 obtain⟨tv,htv⟩:∃tv,tv=ht.map fY.mk:=⟨_,rfl⟩;rw[<- htv]at af;have R:d.1.length=tv.length:=by rw[htv,List.length_map,hht]
 have htp:tv.length=pv.length:=R.symm.trans (A.trans hpl);obtain⟨H,au,hoeo143⟩:=Oe (n:=d.1.length) R htp (by rw[htp, <- hpl];exact hgd.1) (by rw[htp, <- hpl];exact hgd.2);refine CW.ie au 4 (fun I e wb=>En e [(4,.pointer (some ⟨B,0,none⟩)),(5,.pointer (some ⟨C,0,none⟩)),(59,vS j d.1.length k),(60,vI (d.1.length:Int)),(61,vI I.2)]/\St w0 [] wb [sl j k tv,tl ht (eN d.1),sl q m I.1,bx C 40 [vI l.RB,vS q I.1.length m],bx B 40 [vI 0,vS none 0 0]]) ?_ (af.po [0,1,2,3,4]) ?_
 · intro I e _ o hM h;obtain⟨e,rfl,ah⟩:=eo hM;refine gf [4,5,59,60,61,62] fun e=>?_;refine gc h ?_ ?_<;>intro _ h
   · refine gb h fun _ X h=>?_;obtain⟨_,_,rfl,av,aw⟩:=ah.dA (α:=fY) (i:=0) rfl X;(try refine LW.u (dL.ix underlying168 yU rfl rfl av (by rw[show d.1.length=tv.length from R];exact aw)) rfl ?_);obtain⟨_,W,_⟩:=ah.freeze (α:=fY) 0 rfl;obtain⟨_,_,_,ak,_,_,_,ap,_⟩:=W.fe.idx X;cases ak;obtain rfl:=ap;refine T ?_;intro _ _ _ _ ai;have⟨_,Y,h⟩:=ob h;obtain⟨_,_,rfl,_,_⟩:=ai.dA (α:=fG) (i:=3) rfl Y;refine go ?_;refine gb h fun _ Z h=>?_;refine LW.se 2 ai 3 Y Z (hM:=(fK (fun w cs F hF=>by obtain⟨bg,bm,bi,bn,bj,bo,bk,bp,bl,bq,rfl,hH⟩:=hF;exact⟨bg,bm,bi,bn,bj,bo,bk,bp,bl,bq,rfl,hH⟩))) fun _ aj=>?_;refine go ?_;rw[dx (oi Z)]at aj;have _:=aj.dZ (α:=fY) 1 rfl W;exact rt
   exact rt
 rintro e _ ⟨hE,aI⟩;obtain⟨e,rfl⟩:=hE.out;have hpe:List.zipWith vo H.1 (eN d.1)=(eW l.parts (eN d.1)):=by rw[hoeo143,htv,hpv];exact HJ hhs (hht.trans A)
 have hol:H.1.length=(eW l.parts (eN d.1)).length:=by rw[yu (show(eN d.1).length=l.parts.length by unfold eN;rw[List.length_map];exact A),hoeo143,List.length_zipWith,htp,Nat.min_self,hpl]
 have aJ:=aI.pk (M:=[sl q m H.1,tl ht (eN d.1)]++[sl j k tv,bx C 40 [vI l.RB,vS q H.1.length m],bx B 40 [vI 0,vS none 0 0]]) [2,1,0,3,4];have aK:=aJ.Kh (by rw[hoeo143,htv];exact LC (by rw[hht,A,hpl])) hlt;rw[hpe,hol]at aK;refine go ?_;refine T ?_;intro _ _;exact rt
instance k_116:Ct prog 116:={h:=@Fm}
theorem G9{w0}{F:List Nat}{N V r}(h:pe N V=some r){Y:Nat}{I J}(K:dX (eJ w0 F) w0 I J V.b)(hS:St w0 F w0 [bx Y 99 [vS I V.b.length J,vI V.i,vI V.h]]):
    di prog 61 #[.pointer (some ⟨Y,0,none⟩)] w0 (fun v w=>∃a2 a3,v=vS a2 r.1.length a3/\St w0 F w [sl a2 a3 r.1,bx Y 99 [vS I V.b.length J,vI r.2.i,vI r.2.h]]):=by
 unfold pe at h;refine di.fn func61 fun e=>?_;refine go ?_;refine LW.b0 (α:=dK) hS ?_;intro bR bS _ bT hf;refine go ?_;refine LW.bi [0,0,0,0] bT ?_;intro ay az _ bU hf;refine LW.bd [(0,vS ay (([0,0,0,0]:List Int).length) az)] #[vS ay (([0,0,0,0]:List Int).length) az] ?_;refine LW.al bU fun an _ bV=>?_;refine LW.st bV 0 fun _ bW=>?_;refine gb h fun a7 bO h=>?_;obtain⟨_,ao⟩:=bW.lF [3] [0,1,2];refine LW.cl (pt bO (ao.rB K) ao.st) ?_;rintro _ _ ⟨rfl,hs⟩;have bX:=ao.back _ _ hs;refine go ?_;have bY:=bX.pk (M:=[sl bR bS ([]:List dK),sl ay az ([0,0,0,0]:List Int)]++[bx Y 99 [vS I V.b.length J,vI a7.2.i,vI a7.2.h],bx an 31 [vS ay (([0,0,0,0]:List Int).length) az]]) [3,2,0,1];have a5:=bY.MM;obtain⟨_,aQ,bk⟩:=ob h;refine CW.i4 aQ 0 [0,4] [] (fun q (j:Ad) (k:Nat) (C:Ad) (H:Nat)=>[(3,vS j q.1.length k),(5,vI q.2.1)]) (fun q j k C H=>[bx Y 99 [vS I V.b.length J,vI q.2.2.1,vI q.2.2.2.1],bx an 31 [vS C q.2.2.2.2.length H],al (sl j k q.1) C H q.2.2.2.2]) a5 ?_ ?_ ?_
 · exact⟨bR,bS,ay,az,a5.po [1,2,0]⟩
 · intro q e j k C H _ o a6 h;refine gf [0,3,4,5,15] fun e=>?_;refine gc h ?_ ?_<;>intro _ h
   · refine gb h fun g aS h=>?_;obtain⟨_,ab⟩:=a6.lF [0] [1,2];refine LW.cl (zU aS (ab.rB K) ab.st) ?_;rintro _ _ ⟨a8,bb,Z,aa,rfl,hs⟩;have bZ:=ab.back _ _ hs;refine LW.al bZ fun X _ bl=>?_;refine LW.st bl 0 fun _ bm=>?_;refine gb h fun _ aT h=>?_;obtain⟨_,ac⟩:=bm.lF [3] [0,1,2,4,5];refine LW.cl (va aT (ac.rB K) ac.st) ?_;rintro _ _ ⟨rfl,hs⟩;have ap:=ac.back _ _ hs;refine gs ?_;obtain⟨x,aL,bf⟩:=ob h;refine CW.j4 [0,3,4,5,6] [0,3] (fun(O:Ad) (R:Nat) (d:Ad) (f:Nat)=>[]) (fun O R d f=>[bx X 35 [vS d x.2.length f,vS Z g.1.own.length aa,vI g.1.eV.cd,vI g.1.eV.dg,vI g.1.eV.dn],bx an 31 [vS O x.1.length R],al (sl j k q.1) O R x.1,sl d f x.2]) ap ?_ ?_
     · have h:=aL;refine gc h ?_ ?_<;>intro _ h
       · refine go ?_;refine LW.b0 (α:=Int) ap ?_;intro _ _ _ bn hf;refine go ?_;obtain⟨_,aP,aR,aA⟩:=bn.Od 6 rfl;refine gb h fun aF aU h=>?_;refine LW.fM (l:=([]:List Int)) (m:=q.2.2.2.2) lH rfl rfl (aA.rZ 6 rfl aR) aU aA (i:=0) rfl rfl ?_;intro aj am _ bo hf;refine LW.bd [(0,vS aj aF.length am)] #[vS aj aF.length am] ?_;refine sC bo 2 fun _ bp=>?_;refine go ?_;have bq:=bp.PQ 6 rfl aP;cases oi h;exact⟨C,H,aj,am,bq.po [1,4,2,5,6,0]⟩
       refine go ?_;cases oi h;exact⟨C,H,a8,bb,ap.po [0,3,1,4,5,2]⟩
     intro e O R d f _ br;have h:=bf;refine sC br 3 fun _ bs=>?_;refine gb h fun _ aV h=>?_;obtain⟨_,ad⟩:=bs.lF [0] [1,2,3,4,5];refine LW.cl (va aV (ad.rB K) ad.st) ?_;rintro _ _ ⟨rfl,hs⟩;have aq:=ad.back _ _ hs;refine gs ?_;obtain⟨U,aM,bg⟩:=ob h;refine CW.j2 [0,3,4,5,6] [1,2] (fun(A:Ad) (B:Nat)=>[]) (fun A B=>[bx Y 99 [vS I V.b.length J,vI U.1,vI U.2.1],bx an 31 [vS A U.2.2.length B],sl j k q.1,al (sl d f x.2) A B U.2.2]) aq ?_ ?_
     · have h:=aM;refine gc h ?_ ?_<;>intro _ h
       · refine gb h fun aG aW h=>?_;obtain⟨_,ae⟩:=aq.lF [0] [1,2,3,4,5];refine LW.cl (pt aW (ae.rB K) ae.st) ?_;rintro _ _ ⟨rfl,hs⟩;have bt:=ae.back _ _ hs;refine go ?_;refine LW.b0 (α:=Int) bt ?_;intro _ _ _ aB hf;refine gb h fun aH aX h=>?_;refine LW.fM (l:=([]:List Int)) (m:=x.2) lH rfl rfl (aB.rI 6 rfl) aX aB (i:=0) rfl rfl ?_;intro ax W _ bu hf;refine LW.bd [(0,vS ax aH.length W)] #[vS ax aH.length W] ?_;refine LW.st bu 4 fun bP bv=>?_;refine fA ?_;have aC:=bv.drew;refine gb h fun _ ai h=>?_;obtain⟨ak,au,rfl,_,_⟩:=aC.dA (α:=Int) (i:=0) rfl ai;refine go ?_;obtain⟨_,av,aD⟩:=aC.freeze (α:=Int) 0 rfl;obtain⟨_,_,_,b1,aJ,_,_,aK,aO⟩:=av.fe.idx ai;cases b1;obtain rfl:=aK;refine AW.tk 7 rfl (fv.iu bP.drew jR rfl (aO 0 _ rfl)) (aD.zC 0 rfl aJ) ?_;refine go ?_;refine AW.u (i:=9) rfl (by kernel_rfl) rfl rfl (dL.min rfl rfl) ?_;refine go ?_;have bw:=aD.dZ (α:=Int) 0 rfl av;have⟨aI,aw,h⟩:=ob h;refine jO 11 ?_;refine LW.se 0 bw 0 ai aw (hM:=ti) fun _ aE=>?_;refine jn ?_;refine go ?_;rw[dx (oi aw)]at aE;have bz:=aE.pk (M:=[sl d f x.2,sl (some ⟨ak,au,none⟩) W aI]++[bx Y 99 [vS I V.b.length J,vI aG.2.i,vI aG.2.h],sl Z aa g.1.own,bx X 35 [vS d x.2.length f,vS Z g.1.own.length aa,vI g.1.eV.cd,vI g.1.eV.dg,vI g.1.eV.dn],bx an 31 [vS (some ⟨ak,au,none⟩) aI.length W],al (sl j k q.1) O R x.1]) [6,0,1,2,3,4,5];have bA:=bz.MM;have bB:=bA.Ed 5 rfl;cases oi h;exact⟨(some ⟨ak,au,none⟩),W,bB.po [2,3,1,4,5,0]⟩
       refine go ?_;have bC:=aq.Pv (α:=Int) 5 rfl;have bD:=bC.Ed 4 rfl;cases oi h;exact⟨d,f,bD.po [1,2,0,3,4,5]⟩
     intro e A B _ bE;have h:=bg;refine gb h fun _ aY h=>?_;obtain⟨_,af⟩:=bE.lF [2] [0,1,3,4,5];refine LW.cl (va aY (af.rB K) af.st) ?_;rintro _ _ ⟨rfl,hs⟩;have ar:=af.back _ _ hs;refine gs ?_;obtain⟨z,aN,bj⟩:=ob h;refine CW.j2 [0,3,4,5,6] [3,4,5] (fun(n:Ad) (p:Nat)=>[]) (fun n p=>[bx Y 99 [vS I V.b.length J,vI z.1,vI z.2.1],bx X 35 [vS d x.2.length f,vS n z.2.2.length p,vI g.1.eV.cd,vI g.1.eV.dg,vI g.1.eV.dn],sl n p z.2.2]) ar ?_ ?_
     · have h:=aN;refine CW.fl [0,3,4,5,6,52] fun e=>?_;refine gc h ?_ ?_<;>intro _ h
       · refine gb h fun bQ aZ h=>?_;obtain⟨_,ah⟩:=ar.lF [0] [1,2,3,4,5];refine LW.cl (pt aZ (ah.rB K) ah.st) ?_;rintro _ _ ⟨rfl,hs⟩;have bF:=ah.back _ _ hs;refine LW.bi [bQ.1] bF ?_;intro a9 bc _ bG hf;refine sC bG 3 fun _ bI=>?_;refine go ?_;cases oi h;exact⟨a9,bc,bI.po [4,5,6,1,3,0]⟩
       refine go ?_;cases oi h;exact⟨Z,aa,ar.po [3,4,5,0,2,1]⟩
     intro e n p _ bJ;have h:=bj;refine go ?_;have bK:=bJ.pk (M:=[al (sl d f x.2) A B U.2.2,sl n p z.2.2]++[bx an 31 [vS A U.2.2.length B],sl j k q.1,bx Y 99 [vS I V.b.length J,vI z.1,vI z.2.1],bx X 35 [vS d x.2.length f,vS n z.2.2.length p,vI g.1.eV.cd,vI g.1.eV.dg,vI g.1.eV.dn]]) [2,5,0,1,3,4];have⟨_,a0,h⟩:=ob h;refine LW.P9 (M:=[sl n p z.2.2]) (L:=[bx an 31 [vS A U.2.2.length B],sl j k q.1,bx Y 99 [vS I V.b.length J,vI z.1,vI z.2.1],bx X 35 [vS d x.2.length f,vS n z.2.2.length p,vI g.1.eV.cd,vI g.1.eV.dg,vI g.1.eV.dn]]) (vs:=#[vS d x.2.length f,vS n z.2.2.length p,vI g.1.eV.cd,vI g.1.eV.dg,vI g.1.eV.dn]) (i:=1) Ii rfl (by kernel_rfl) rfl rfl a0 bK rfl (fun w G hG=>⟨d,f,n,p,rfl,hG⟩) rfl rfl ?_;intro _ ba be _ bL hf;refine go ?_;cases oi h;exact⟨rfl,⟨ba,be,A,B,bL.po [2,0,1]⟩⟩
   refine go ?_;cases oi h;exact⟨trivial,rfl,⟨j,k,C,H,a6.po [0,1,2]⟩⟩
 intro e j k C H _ bM;have h:=bk;refine go ?_;replace h:=oi h;subst h;have bN:=bM.Ed 2 rfl;exact Ra ⟨j,k,rfl,bN.pk [2,0]⟩
instance k_61:Ct prog 61:={h:=@G9}
theorem D3{w0 N b aD r}(h:pK N b aD=some r){A W J}(ac:W=b.Rp.Ro.length)(aE:rb w0 A J b.Rp.Ro){B X K}(ad:X=b.own.length)(aF:rb w0 B K b.own){C Y L}(ae:Y=b.Rr.length)(aG:rb w0 C L b.Rr){G Z M}(af:Z=b.py.ag.length)(aH:rb w0 G M b.py.ag){H aa O}(ah:aa=b.py.gc.da.length)(aI:rb w0 H O b.py.gc.da){I ab R}(ai:ab=b.db.length)(aJ:rb w0 I R b.db):
    di prog 118 #[.agg (uP A W J B X K C Y L G Z M H aa O I ab R b),vI aD] w0 (fun v w=>∃g o j p k q l u m x n z,v=.agg (uP g r.Rp.Ro.length o j r.own.length p k r.Rr.length q l r.py.ag.length u m r.py.gc.da.length x n r.db.length z r)/\St w0 [] w [sl g o r.Rp.Ro,sl j p r.own,sl k q r.Rr,sl l u r.py.ag,sl m x r.py.gc.da,sl n z r.db]):=by
 subst ac ad ae af ah ai;unfold pK at h;refine di.fS func118 fun e _=>?_;refine T ?_;intro _ _ _ _ _ _ d _ h aK aM aL aN aq av aj ak ar aw au ax _ _ ay _ _ _ aB;obtain⟨aC,ao,az⟩:=ob h;refine CW.jn [1,2,4,5] [0,1,2,3,4,5,6,7,8] [(21,.bool aC)] aB (h1:=?_) (h2:=?_)
 · have h:=ao;exact wk
 intro e _ _;have h:=az;refine gc h ?_ ?_<;>intro _ h
 · exact wk
 refine T ?_;intro _ _ _ _ h _ f;obtain⟨am,ap,aA⟩:=ob h;refine CW.j0 [4,5] [1,2,3,5,6,7] [] [bx ay 54 [vS aK d.Rp.Ro.length aM,vS aL d.own.length aN,vS aq d.Rr.length av,vS aj am.length ak,vI d.py.gc.Ru,vI d.py.gc.RD,vI d.py.gc.Rv,vS ar d.py.gc.da.length aw,vS au d.db.length ax,vI d.RA,vI d.Rz,vI d.dc.cd,vI d.dc.dg,vI d.dc.dn,vI 0,vI d.Rx],sl aj ak am] f ?_ ?_
 · have h:=ap;refine CW.fl [1,4,5,6,28] fun e=>?_;refine gc h ?_ ?_<;>intro _ h
   · refine gb h fun _ U h=>?_;obtain⟨_,_,rfl,_,_⟩:=f.dA (α:=c6) (i:=4) rfl U;refine go ?_;refine gb h fun _ V h=>?_;refine LW.se 4 f 4 U V (hM:=(fK (fun w cs F hF=>by obtain⟨aO,aR,aP,aS,aQ,aT,rfl,hH⟩:=hF;exact⟨aO,aR,aP,aS,aQ,aT,rfl,hH⟩))) fun _ an=>?_;refine go ?_;rw[dx (oi V)]at an;exact rt
   exact rt
 intro e _ _;have h:=aA;exact wk
instance k_118:Ct prog 118:={h:=@D3}
theorem Dp{w0 N i m n r}(h:oI N i m n=some r){b f d}(g:f=i.parts.length)(o:rb w0 b d i.parts):
    di prog 122 #[.agg #[vI i.RB,vS b f d],vI m,.agg (uL n)] w0 (fun v w=>v=vI r/\St w0 [] w []):=by
 subst g;unfold oI at h;refine di.fS func122 fun e _=>?_;refine T ?_;intro _ _ _ _ _ j;obtain⟨u,k,p⟩:=ob h;refine CW.jn [3] [1] [(7,vI u)] j (h1:=?_) (h2:=?_)
 · have h:=k;refine CW.block ?_;refine gs ?_;refine CW.region ?_;refine gs ?_;obtain⟨x,l,q⟩:=ob h;refine CW.jn [3,5,7,10] [0,1] [(11,.bool x)] j (h1:=?_) (h2:=?_)
   · have h:=l;exact wk
   intro e _ _;have h:=q;exact wk
 intro e _ _;have h:=p;exact wk
instance k_122:Ct prog 122:={h:=@Dp}
theorem Gl{w0 N i r}(h:rK N i=some r){j W l}(Y:W=i.Rp.Ro.length)(K:rb w0 j l i.Rp.Ro){k X m}(Z:X=i.own.length)(L:rb w0 k m i.own):
    di prog 129 #[.agg (uB j W l k X m i)] w0 (fun v w=>∃p B q C u G x H z I A J,v=.tuple #[.agg (uP p r.1.Rp.Ro.length B q r.1.own.length C u r.1.Rr.length G x r.1.py.ag.length H z r.1.py.gc.da.length I A r.1.db.length J r.1),.bool r.2]/\St w0 [] w [sl p B r.1.Rp.Ro,sl q C r.1.own,sl u G r.1.Rr,sl x H r.1.py.ag,sl z I r.1.py.gc.da,sl A J r.1.db]):=by
 subst Y Z;unfold rK at h;refine di.fS func129 fun e aX=>?_;refine we aX fun _ _ aY=>?_;refine LW.al aY fun _ _ aZ=>?_;refine gb h fun a4 a3 h=>?_;refine LW.cl (zX a3) ?_;rintro _ _ ⟨aO,aV,rfl,hs⟩;have U:=aZ.add hs;refine gs ?_;obtain⟨a5,a2,aW⟩:=ob h;refine CW.jn [1,2,4] [0,1,2] [(28,.bool a5)] U (h1:=?_) (h2:=?_)
 · have h:=a2;refine gb h fun _ aB h=>?_;refine LW.c0 (zG aB rfl (U.rB K)) U fun _ V=>?_;refine gB h ?_ ?_<;>intro _ h
   · refine go ?_;cases oi h;exact V.po [0,1,2]
   refine gb h fun _ aC h=>?_;refine go ?_;refine LW.c0 (Cz aC rfl (V.rB L)) V fun _ am=>?_;refine gB h ?_ ?_<;>intro _ h
   · refine go ?_;cases oi h;exact am.po [0,1,2]
   refine go ?_;cases oi h;exact am.po [0,1,2]
 intro e _ an;have h:=aW;refine gc h ?_ ?_<;>intro _ h
 · refine fm [] #[vS none 0 0,vS none 0 0,vS none 0 0,vS none 0 0,vI 0,vI 0,vI 0,vS none 0 0,vS none 0 0,vI 0,vI 0,vI 0,vI 0,vI 0,vI 0,vI 0] ?_;refine LW.st an 1 fun _ a0=>?_;refine go ?_;cases h;have a1:=a0.nil (α:=Int);have aq:=a1.nil (α:=Int);have ar:=aq.nil (α:=dj);have au:=ar.nil (α:=c6);have av:=au.nil (α:=Int);have O:=av.nil (α:=ef);exact Rc (dE.b O 7 rfl iE rfl rfl) tt ⟨none,0,none,0,none,0,none,0,none,0,none,0,rfl,O.pk [5,4,3,2,1,0]⟩
 refine gb h fun _ aD h=>?_;refine LW.cl (xU aD) ?_;rintro _ _ ⟨_,_,rfl,hs⟩;have aw:=an.add hs;refine LW.bi [-1, -1] aw ?_;intro aa af M n hf;refine LW.bd [(1,vI 4),(4,vI 1000000),(10,vS aa (([-1, -1]:List Int).length) af)] #[vI 0,vI 4,vI 0,vI 0,vI 1000000,vI 0,vI 0,vI 0,vI 0,.bool false,vS aa (([-1, -1]:List Int).length) af,vS none 0 0,vS none 0 0] ?_;have⟨ap,aE,h⟩:=ob h;refine LW.cl (vp aE rfl (n.rI 1 rfl) rfl (n.rI 0 rfl) rfl (show dX (α:=Int) (eJ M []) M none 0 [] from dX.nil _ _ _ _ (Nat.zero_le _)) rfl (show dX (α:=eL) (eJ M []) M none 0 [] from dX.nil _ _ _ _ (Nat.zero_le _))) ?_;rintro _ _ ⟨ab,ah,rfl,hs⟩;have ax:=n.add hs;refine gb h fun g aF h=>?_;refine LW.cl (Da aF) ?_;rintro _ _ ⟨ac,ai,rfl,hs⟩;have o:=ax.add hs;refine LW.bd [(0,vS ab ap.1.length ah),(1,.agg #[vI g.Ru,vI g.RD,vI g.Rv,vS ac g.da.length ai])] #[vS ab ap.1.length ah,vI g.Ru,vI g.RD,vI g.Rv,vS ac g.da.length ai] ?_;refine gb h fun d aG h=>?_;refine LW.cl (xj aG rfl (o.rI 1 rfl) rfl (o.rI 0 rfl)) ?_;rintro _ _ ⟨ad,aj,ae,ak,rfl,hs⟩;have ay:=o.add hs;refine LW.al ay fun _ _ az=>?_;refine LW.st az 0 fun ao f=>?_;refine fm [(0,.agg #[vS j i.Rp.Ro.length l]),(1,vS k i.own.length m),(2,vS aO a4.1.length aV),(3,.agg #[vS ad d.ag.length aj,vI d.gc.Ru,vI d.gc.RD,vI d.gc.Rv,vS ae d.gc.da.length ak])] #[vS j i.Rp.Ro.length l,vS k i.own.length m,vS aO a4.1.length aV,vS ad d.ag.length aj,vI d.gc.Ru,vI d.gc.RD,vI d.gc.Rv,vS ae d.gc.da.length ak,vS none 0 0,vI 0,vI 0,vI 0,vI 0,vI 0,vI 0,vI 0] ?_;have⟨_,aH,h⟩:=ob h;refine LW.cl (zI aH rfl (f.rB K) rfl (f.rB L) rfl (f.rI 7 rfl) rfl (f.rI 1 rfl) rfl (f.rI 2 rfl) rfl (show dX (α:=ef) (eJ ao []) ao none 0 [] from dX.nil _ _ _ _ (Nat.zero_le _))) ?_
 rintro _ _ ⟨aI,aP,aJ,aQ,aK,aR,aL,aS,aM,aT,aN,aU,rfl,hs⟩;have aA:=f.add hs;refine LW.st aA 14 fun _ R=>?_;refine go ?_;cases h;exact Rc (dE.b R 14 rfl iE rfl rfl) tt ⟨aI,aP,aJ,aQ,aK,aR,aL,aS,aM,aT,aN,aU,rfl,R.pk [0,1,2,3,4,5]⟩
instance k_129:Ct prog 129:={h:=@Gl}
theorem K6{w0}{F:List Nat}{N k r}(h:sG N k=some r){A:Nat}{g j}(x:dX (eJ w0 F) w0 g j k.b)(hS:St w0 F w0 [bx A 99 [vS g k.b.length j,vI k.i,vI k.h]]):
    di prog 105 #[.pointer (some ⟨A,0,none⟩)] w0 (fun v w=>∃o p,v=.agg #[vS o r.1.Ro.length p]/\St w0 F w [sl o p r.1.Ro,bx A 99 [vS g k.b.length j,vI r.2.i,vI r.2.h]]):=by
 unfold sG at h;refine di.fn func105 fun e=>?_;refine T ?_;intro ao _ _ ah _ h ai aj _ _ ak _ _ _ _ X _ h _ q;obtain⟨z,ae,am⟩:=ob h;refine CW.j2 [0,2,3] [3] (fun(d:Ad) (f:Nat)=>[]) (fun d f=>[bx A 99 [vS g k.b.length j,vI z.2.1,vI z.2.2],bx ak 31 [vS d z.1.length f],sl d f z.1]) q ?_ ?_
 · have h:=ae;refine gc h ?_ ?_<;>intro _ h
   · refine dW ?_;have:=q.drew;refine T ?_;intro _ _ h _ an;have⟨_,J,h⟩:=ob h;obtain⟨W,_,_,ac,ad,_⟩:=an.tI (α:=Int) 2 rfl J;refine AW.u (i:=4) rfl (by kernel_rfl) rfl rfl (dL.sub (α:=Int) (l:=ah.1.Ro) underlying29 E2 rfl tq (sL rfl) J W ac ad) ?_;exact wk
   refine gc h ?_ ?_<;>intro _ h
   · refine dW ?_;have B:=q.drew;refine gb h fun _ K h=>?_;refine AW.all (rs:=[3,5]) (by kernel_rfl) (by simp) ⟨?_,?_,trivial⟩
     · obtain⟨_,m⟩:=B.lF [0] [1,2,3];refine oA ?_;refine LW.cl (pt K (m.rB x) m.st) ?_;rintro _ _ ⟨rfl,hs⟩;have Y:=m.back _ _ hs;refine T ?_;refine LW.bi [-1,4] Y ?_;intro _ _ _ _ hf;refine T ?_;intro _ _ h _ C;have⟨_,O,h⟩:=ob h;obtain⟨_,_,rfl,_,_⟩:=C.dA (α:=Int) (i:=3) rfl O;refine go ?_;have⟨_,R,h⟩:=ob h;refine T ?_;refine LW.se 0 C 3 O R (hM:=ti) fun _ Z=>?_;refine T ?_;rw[dx (oi R)]at Z;exact rt
     refine oA ?_;refine LW.bi [-1,4] B ?_;intro _ _ _ aa hf;refine T ?_;obtain⟨_,n⟩:=aa.lF [1] [0,2,3,4];refine jP 3 ?_;refine LW.cl (pt K (n.rB x) n.st) ?_;rintro _ _ ⟨rfl,hs⟩;have:=n.back _ _ hs;refine T ?_;intro _ _ h _ H;have⟨_,U,h⟩:=ob h;obtain⟨_,_,rfl,_,_⟩:=H.dA (α:=Int) (i:=3) rfl U;refine go ?_;have⟨_,V,h⟩:=ob h;refine T ?_;refine LW.se 0 H 3 U V (hM:=ti) fun _ ab=>?_;refine T ?_;rw[dx (oi V)]at ab;exact rt
   refine gf [0,2,3,26] fun e=>?_;refine gc h ?_ ?_<;>intro _ h
   · refine gb h fun _ af h=>?_;refine LW.fZ (M:=[]) (L:=[bx A 99 [vS g k.b.length j,vI X.2.i,vI X.2.h],bx ak 31 [vS ai ah.1.Ro.length aj],sl ai aj ah.1.Ro,bx ao 31 [vS none 0 0]]) (vs:=#[vI 0]) (i:=2) lH rfl (by kernel_rfl) rfl rfl af q rfl (fun w G hG=>by cases(show G=[] from hG);exact⟨rfl,rfl⟩) rfl rfl ?_;intro _ _ _ _ _ hf;exact wk
   exact rt
 intro e d f _ _;have h:=am;refine T ?_;intro _ I;replace h:=oi h;subst h;exact And.intro trivial ⟨_,gL.one (dE.b I 0 rfl Ae rfl rfl),d,f,rfl,I.pk [3,1]⟩
instance k_105:Ct prog 105:={h:=@K6}
theorem Fb{w0}{F:List Nat}{N m V r}(h:pI N m V=some r){o:Nat}{g j}(au:dX (eJ w0 F) w0 g j m.b){u I x}(O:I=V.parts.length)(n:dX (eJ w0 F) w0 u x V.parts)(hS:St w0 F w0 [bx o 99 [vS g m.b.length j,vI m.i,vI m.h]]):
    di prog 108 #[.pointer (some ⟨o,0,none⟩),.agg #[vI V.RB,vS u I x]] w0 (fun v w=>v=.agg (uE r.1)/\St w0 F w [bx o 99 [vS g m.b.length j,vI r.2.i,vI r.2.h]]):=by
 subst O;unfold pI at h;refine di.fn func108 fun e=>?_;refine T ?_;intro _ _ _ _ _ _ W _ h _ _ _ _ h _ ar;refine gf [0,3,4,5,6,18] fun e=>?_;refine gc h ?_ ?_<;>intro _ h
 · refine fm [(0,vI 1)] #[vI 1,vI 0,vI 0,vI 0,vI 0,vI 0,vI 0,vI 0,vI 0] ?_;refine T ?_;intro _ Y;replace h:=oi h;subst h;exact And.intro trivial ⟨_,gL.one (dE.b Y 1 rfl Il rfl rfl),rfl,Y.pk [0]⟩
 refine gs ?_;obtain⟨C,ai,ao⟩:=ob h;refine CW.j0 [0,3,4,5] [1,2] [(22,.bool C.1)] [bx o 99 [vS g m.b.length j,vI C.2.1,vI C.2.2]] ar ?_ ?_
 · have h:=ai;exact wk
 intro e _ _;have h:=ao;refine gc h ?_ ?_<;>intro _ h
 · refine T ?_;intro aa _ h _ _;refine LW.bd [(0,vI 3),(1,vI W.1),(2,vI aa.1)] #[vI 3,vI W.1,vI aa.1,vI 0,vI 0,vI 0,vI 0,vI 0,vI 0] ?_;refine T ?_;intro _ Z;replace h:=oi h;subst h;exact And.intro trivial ⟨_,gL.one (dE.b Z 1 rfl Il rfl rfl),rfl,Z.pk [0]⟩
 refine gb h fun _ am h=>?_;obtain⟨_,_,_,rfl,_,_,_,⟨_,_,_,_,_,_,_,_,_,_,_,_,rfl,_,_,_,_,_,_⟩,_⟩:=n.idx am;refine go ?_;refine T ?_;intro f _ h _ _ X _ _ _ _ _ _ h _ ad;obtain⟨G,aj,ap⟩:=ob h;refine CW.j0 [0,3,4,5,7,8] [1,2,3] [(52,.bool G.1)] [bx o 99 [vS g m.b.length j,vI G.2.1,vI G.2.2]] ad ?_ ?_
 · have h:=aj;exact wk
 intro e _ ae;have h:=ap;refine gs ?_;obtain⟨H,ak,aq⟩:=ob h;refine CW.j0 [0,3,4,5,7,8] [1,2] [] [bx X 63 [vI f.1.Rq,vI H.2.2,vI f.1.b,vI f.1.c,vI f.1.d,vI f.1.e],bx o 99 [vS g m.b.length j,vI H.1,vI H.2.1]] ae ?_ ?_
 · have h:=ak;refine CW.fl [0,3,4,5,7,8,52] fun e=>?_;refine gc h ?_ ?_<;>intro _ h
   · refine gb h fun _ an h=>?_;obtain⟨_,_,_,p,_,_,_,ah,_⟩:=n.idx an;cases p;obtain⟨_,_,_,_,_,_,_,_,_,_,_,_,rfl,_,_,_,_,_,_⟩:=ah;exact wk
   exact rt
 intro e _ af;have h:=aq;refine gs ?_;refine CW.region ?_;refine gs ?_;obtain⟨k,L,ab⟩:=ob h;refine CW.j0 [0,3,4,5,7] [0,1] [] [bx X 63 [vI f.1.Rq,vI k.2.2,vI f.1.b,vI f.1.c,vI f.1.d,vI f.1.e],bx o 99 [vS g m.b.length j,vI k.1,vI k.2.1]] af ?_ ?_
 · have h:=L;refine CW.fl [0,3,4,5,7,8,64] fun e=>?_;refine gc h ?_ ?_<;>intro _ h
   · refine gb h fun _ U h=>?_;obtain⟨_,_,_,p,_,_,_,J,_⟩:=n.idx U;cases p;obtain⟨_,_,_,_,_,_,_,_,_,_,_,_,rfl,_,_,_,_,_,_⟩:=J;exact wk
   exact rt
 intro e _ _;have h:=ab;refine T ?_;intro _ _ h _ z;obtain⟨l,M,ac⟩:=ob h;refine CW.j0 [0,4,5,7] [1,3] [(9,vI l.1)] [bx o 99 [vS g m.b.length j,vI l.2.1,vI l.2.2]] z ?_ ?_
 · have h:=M;refine CW.fl [0,3,4,5,7,9,75] fun e=>?_;refine gc h ?_ ?_<;>intro _ h
   · refine fA ?_;have:=z.drew;refine go ?_;refine T ?_;intro _ _ h _ _ _ _;refine gc h ?_ ?_<;>intro _ h
     · refine T ?_;intro _ _ h _ A;have⟨_,q,h⟩:=ob h;obtain⟨_,_,rfl,_,_⟩:=A.dA (α:=Int) (i:=1) rfl q;refine go ?_;obtain⟨_,R,_⟩:=A.freeze (α:=Int) 1 rfl;obtain⟨_,_,_,p,_,_,_,K,_⟩:=R.fe.idx q;cases p;obtain rfl:=K;refine T ?_;exact rt
     exact rt
   exact rt
 intro e _ _;have h:=ac;refine fm [(0,vI 2),(1,vI W.1),(2,vI l.1),(3,.agg #[vI f.1.Rq,vI k.2.2,vI f.1.b,vI f.1.c,vI f.1.d,vI f.1.e])] #[vI 2,vI W.1,vI l.1,vI f.1.Rq,vI k.2.2,vI f.1.b,vI f.1.c,vI f.1.d,vI f.1.e] ?_;refine T ?_;intro _ B;replace h:=oi h;subst h;exact And.intro trivial ⟨_,gL.one (dE.b B 0 rfl Il rfl rfl),rfl,B.pk [2]⟩
instance k_108:Ct prog 108:={h:=@Fb}
theorem Dh{w0 N B C r}(h:rW N B C=some r){b i f}(k:i=B.Ro.length)(m:rb w0 b f B.Ro){d j g}(l:j=C.Ro.length)(n:rb w0 d g C.Ro):
    di prog 39 #[.agg #[vS b i f],.agg #[vS d j g]] w0 (fun v w=>v=.bool r/\St w0 [] w []):=by
 subst k l;unfold rW at h;refine di.fS func39 fun e _=>?_;refine T ?_;intro _ _ _ _ _ G;refine gc h ?_ ?_<;>intro _ h
 · exact rt
 refine go ?_;obtain⟨q,z,p⟩:=ob h;refine CW.mono (CW.lx [2,3] [0,1] [] 0 (fun J=>[(5,vI J)]) (RT prog f39.results (fun u=>.bool u) w0 []) G z (hb:=?_)) ?_
 · intro J e _ o H h;refine gf [2,3,5,17] fun e=>?_;refine gc h ?_ ?_<;>intro _ h
   · refine fA ?_;have:=H.drew;refine gb h fun _ I h=>?_;obtain⟨_,_,_,rfl,_,_,_,rfl,_⟩:=m.idx I;refine go ?_;refine T ?_;have⟨_,A,h⟩:=ob h;obtain⟨_,_,_,rfl,_,_,_,rfl,_⟩:=n.idx A;refine go ?_;refine T ?_;refine gc h ?_ ?_<;>intro _ h
     · exact rt
     exact rt
   exact rt
 intro x e _ hM;rcases q with q|_
 · obtain⟨rfl,hM⟩:=hM;obtain⟨e,rfl,_⟩:=eo hM;rw[show e=dF e [] from rfl];have h:=p;exact rt
 obtain⟨rfl,u,rfl,hM⟩:=hM;cases p;exact And.intro trivial hM
instance k_39:Ct prog 39:={h:=@Dh}
theorem FZ{w0 N B C r}(h:rh N B C=some r){b i f}(k:i=B.length)(m:rb w0 b f B){d j g}(l:j=C.length)(n:rb w0 d g C):
    di prog 40 #[vS b i f,vS d j g] w0 (fun v w=>v=.bool r/\St w0 [] w []):=by
 subst k l;unfold rh at h;refine di.fS func40 fun e G=>?_;refine gc h ?_ ?_<;>intro _ h
 · exact rt
 refine go ?_;obtain⟨q,z,p⟩:=ob h;refine CW.mono (CW.lx [0,1] [] [] 0 (fun J=>[(5,vI J)]) (RT prog f40.results (fun u=>.bool u) w0 []) G z (hb:=?_)) ?_
 · intro J e _ o H h;refine gc h ?_ ?_<;>intro _ h
   · refine fA ?_;have:=H.drew;refine gb h fun _ I h=>?_;obtain⟨_,_,_,rfl,_,_,_,rfl,_⟩:=m.idx I;refine go ?_;refine T ?_;have⟨_,A,h⟩:=ob h;obtain⟨_,_,_,rfl,_,_,_,rfl,_⟩:=n.idx A;refine go ?_;refine T ?_;refine gc h ?_ ?_<;>intro _ h
     · exact rt
     exact rt
   exact rt
 intro x e _ hM;rcases q with q|_
 · obtain⟨rfl,hM⟩:=hM;obtain⟨e,rfl,_⟩:=eo hM;rw[show e=dF e [] from rfl];have h:=p;exact rt
 obtain⟨rfl,u,rfl,hM⟩:=hM;cases p;exact And.intro trivial hM
instance k_40:Ct prog 40:={h:=@FZ}
theorem Lf{w0 N p q r}(h:sy N p q=some r){b j f}(l:j=p.Ro.length)(n:rb w0 b f p.Ro){d k g}(m:k=q.Ro.length)(o:rb w0 d g q.Ro):
    di prog 37 #[.agg #[vS b j f],.agg #[vS d k g]] w0 (fun v w=>v=.bool r/\St w0 [] w []):=by
 subst l m;unfold sy at h;refine di.fS func37 fun e u=>?_;refine we u fun _ _ x=>?_;refine LW.bo x fun _ B i=>?_;refine gb h fun _ A h=>?_;refine LW.c0 (yM A rfl (show dX (α:=Int) (eJ B []) B none 0 [] from dX.nil _ _ _ _ (Nat.zero_le _)) rfl (i.rB n) rfl (i.rB o)) i fun _ z=>?_;refine go ?_;cases h;exact fi z
instance k_37:Ct prog 37:={h:=@Lf}
theorem MG{w0 N n u o r}(h:vz N n u o=some r){b i f}(k:i=n.length)(m:rb w0 b f n){d j g}(l:j=o.Ro.length)(x:rb w0 d g o.Ro):
    di prog 42 #[vS b i f,.agg (uE u),.agg #[vS d j g]] w0 (fun v w=>v=.bool r/\St w0 [] w []):=by
 subst k l;unfold vz at h;refine di.fS func42 fun e _=>?_;refine T ?_;intro _ _ _ _ _ p;refine dW ?_;have:=p.drew;refine gB h ?_ ?_<;>intro _ h
 · exact rt
 refine T ?_;intro _ _ h _ _;refine bH h ?_ ?_<;>intro _ h
 · refine gb h fun _ q h=>?_;obtain⟨_,_,_,rfl,_,_,_,⟨_,_,_,_,rfl,_,_⟩,_⟩:=m.idx q;exact wk
 exact rt
instance k_42:Ct prog 42:={h:=@MG}
theorem Hm{w0 N i r}(h:zt N i=some r){b f d}(g:f=i.length)(j:rb w0 b d i):
    di prog 6 #[vS b f d] w0 (fun v w=>v=.bool r/\St w0 [] w []):=by
 subst g;unfold zt at h;refine di.fS func6 fun e _=>?_;exact rt
instance k_6:Ct prog 6:={h:=@Hm}
end Go.Kx
