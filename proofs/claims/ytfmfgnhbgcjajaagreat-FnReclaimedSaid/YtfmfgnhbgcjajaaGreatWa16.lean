import Derived.Test.YtfmfgnhbgcjajaaGreatWa12
import Derived.Test.YtfmfgnhbgcjajaaGreatWa13
import Derived.Test.YtfmfgnhbgcjajaaGreatWa14
namespace Go.Kx
open Go Go.RowKit Go.Proofs
open Tryz
set_option maxRecDepth 10000
set_option maxHeartbeats 8000000
set_option linter.unusedVariables false
set_option linter.unusedSimpArgs false
theorem DJ{w0 N z aU r}(h:qd N z aU=some r){p ao x}(aq:ao=z.parts.length)(ax:rb w0 p x z.parts):
    dj prog 116 #[.agg #[vI z.Rn,vS p ao x],vI aU] w0 (fun v w=>∃U V,v=.agg #[vI r.Rn,vS U r.parts.length V]/\St w0 [] w [sl U V r.parts]):=by
 subst aq;unfold qd at h;refine dj.fS func116 fun e _=>?_;refine T ?_;intro ab _ _ B _ _ l _ h q m _ _ C _ _ _ ba;obtain⟨bc,aM,a9⟩:=ob h;refine CW.jn [1,2,4,5] [0,1,2,3] [(23,.bool bc)] ba (h1:=?_) (h2:=?_)
 · have h:=aM;exact wk
 intro e _ bb;have h:=a9;refine gc h ?_ ?_<;>intro _ h
 · exact wk
 refine go ?_;refine LW.b0 (α:=gz) bb ?_;intro ay az _ aB hf;refine go ?_;obtain⟨hgd,h⟩:=DH h;simp only[RG,decide_eq_true_eq]at hgd;have aC:=aB.pk (M:=[sl q m l.parts]++[sl ay az ([]:List gz),bx C 40 [vI l.Rn,vS q l.parts.length m],bx B 40 [vI 0,vS none 0 0],bx ab 40 [vI z.Rn,vS p z.parts.length x]]) [2,0,1,3,4];obtain⟨hds,hl,O⟩:=aC.Ln;obtain⟨pv,hpv⟩:∃pv,pv=List.zipWith rR l.parts hds:=⟨_,rfl⟩;rw[<- hpv]at O;have hhs:hds.length=l.parts.length:=by have:=hl.len;rwa[List.length_map]at this
 have hpl:l.parts.length=pv.length:=by rw[hpv];exact(BQ hl).symm
 rw[hpl]at O;obtain⟨aa,aN,hoeo64⟩:=ET hpl (by rw[<- hpl];exact hgd.1) (by rw[<- hpl];exact hgd.2);refine CW.ie aN 0 (fun J e wb=>∃(f:Ad) (g:Nat),En e [(1,vI aU),(2,.pointer (some ⟨ab,0,none⟩)),(4,.pointer (some ⟨B,0,none⟩)),(5,.pointer (some ⟨C,0,none⟩)),(6,vS f J.1.length g),(27,vS q l.parts.length m),(28,vI (l.parts.length:Int)),(29,vI J.2)]/\St w0 [] wb [sl q m pv,tl hds (gR l.parts),sl f g J.1,bx C 40 [vI l.Rn,vS q pv.length m],bx B 40 [vI 0,vS none 0 0],bx ab 40 [vI z.Rn,vS p z.parts.length x]]) ?_ ⟨ay,az,O.po [0,1,2,3,4,5]⟩ ?_
 · intro J e bf o hM h;obtain⟨f,g,hE,ac⟩:=hM;obtain⟨e,rfl⟩:=hE.out;refine gH [1,2,4,5,6,27,28,29,30] fun e=>?_;refine gc h ?_ ?_<;>intro _ h
   · refine gb h fun b an h=>?_;obtain⟨a1,be,rfl,aO,aP⟩:=ac.dF (α:=fZ) (i:=0) rfl an;(try refine LW.u (dO.ix underlying38 PK rfl rfl aO (by rw[show l.parts.length=pv.length from hpl];exact aP)) rfl ?_);obtain⟨aV,am,_⟩:=ac.freeze (α:=fZ) 0 rfl;obtain⟨_,_,_,ak,_,_,_,aL,_⟩:=am.fw.idx an;cases ak;obtain⟨aW,a2,aX,a3,aY,a4,aZ,a5,a0,a7,rfl,_,_,_,_,_⟩:=aL;refine T ?_;intro a8 _ _ _ aD;refine LW.bd [(0,vS b.Rh.a b.Rh.n b.Rh.c)] #[vS b.Rh.a b.Rh.n b.Rh.c] ?_;have⟨_,aR,h⟩:=ob h;refine LW.gE (M:=[]) (L:=[bx a8 54 [vS aW b.Rg.Rf.length a2,vS aX b.own.length a3,vS b.Rh.a b.Rh.n b.Rh.c,vS aY b.heap.ag.length a4,vI b.heap.gc.Rj,vI b.heap.gc.Rs,vI b.heap.gc.Rk,vS aZ b.heap.gc.da.length a5,vS a0 b.dc.length a7,vI b.Rr,vI b.Rq,vI b.db.c6,vI b.db.dh,vI b.db.du,vI b.dx,vI b.Rp],fz bf aV,tl hds (gR l.parts),sl f g J.1,bx C 40 [vI l.Rn,vS (some ⟨a1,be,none⟩) pv.length m],bx B 40 [vI 0,vS none 0 0],bx ab 40 [vI z.Rn,vS p z.parts.length x]]) (vs:=#[vS b.Rh.a b.Rh.n b.Rh.c]) (i:=3) KO rfl (by kernel_rfl) rfl rfl aR aD rfl (fun w G hG=>by cases(show G=[] from hG);exact⟨rfl,rfl⟩) rfl rfl ?_;intro _ _ _ _ aE hf;refine go ?_;have _:=aE.dZ (α:=fZ) 1 rfl am;exact rt
   exact rt
 rintro e _ ⟨f,g,hE,ad⟩;obtain⟨e,rfl⟩:=hE.out;rw[show aa.1=hds.map gz.mk from by rw[hoeo64,hpv];exact B3 hhs]at ad;have aF:=ad.pk (M:=[sl f g (hds.map gz.mk),tl hds (gR l.parts)]++[sl q m pv,bx C 40 [vI l.Rn,vS q pv.length m],bx B 40 [vI 0,vS none 0 0],bx ab 40 [vI z.Rn,vS p z.parts.length x]]) [2,1,0,3,4,5];have ae:=aF.Km hl;have htl:aa.1.length=(gx l.parts).length:=by rw[hoeo64];simp[gx,gR,hpl]
 refine gb h fun _ aS h=>?_;obtain⟨_,_,_,rfl,_,_,_,⟨_,_,_,_,_,_,_,_,_,_,_,_,rfl,_,_,_,_,_,aQ⟩,_⟩:=ax.idx aS;refine go ?_;refine T ?_;refine go ?_;obtain⟨d,ar,aA⟩:=ob h;refine CW.i2 ar 2 [1,4,5,45,46] [1,2,3] (fun K (j:Ad) (k:Nat)=>[(6,vS j K.1.length k),(47,vI K.2)]) (fun K j k=>[sl j k K.1]) ae ?_ ?_ ?_
 · exact⟨f,g,⟨rfl,rfl,rfl,rfl,rfl,(show(vS f aa.1.length g:Value)=vS f ((gx l.parts).length) g by rw[show aa.1.length=(gx l.parts).length from htl]),rfl,trivial⟩,ae.pk [1,2,3,0]⟩
 · intro K e j k _ o _ h;refine gH [1,4,5,6,45,46,47,48] fun e=>?_;refine gc h ?_ ?_<;>intro _ h
   · refine gb h fun _ aT h=>?_;obtain⟨_,_,_,rfl,_,_,_,rfl,_⟩:=aQ.idx aT;exact wk
   exact rt
 intro e j k _ aG;have h:=aA;refine go ?_;obtain⟨A,h⟩:=DH h;have A:=of_decide_eq_true A;have aH:=aG.pk (M:=[sl j k d.1]++[sl q m pv,bx C 40 [vI l.Rn,vS q pv.length m],bx B 40 [vI 0,vS none 0 0]]) [3,0,1,2];obtain⟨ht,hlt,af⟩:=aH.O7;have hht:ht.length=d.1.length:=by have:=hlt.len;rwa[List.length_map]at this
 obtain⟨tv,htv⟩:∃tv,tv=ht.map gz.mk:=⟨_,rfl⟩;rw[<- htv]at af;have R:d.1.length=tv.length:=by rw[htv,List.length_map,hht]
 have htp:tv.length=pv.length:=R.symm.trans (A.trans hpl);obtain⟨H,au,hoeo143⟩:=Nv (n:=d.1.length) R htp (by rw[htp, <- hpl];exact hgd.1) (by rw[htp, <- hpl];exact hgd.2);refine CW.ie au 4 (fun I e wb=>En e [(4,.pointer (some ⟨B,0,none⟩)),(5,.pointer (some ⟨C,0,none⟩)),(59,vS j d.1.length k),(60,vI (d.1.length:Int)),(61,vI I.2)]/\St w0 [] wb [sl j k tv,tl ht (fh d.1),sl q m I.1,bx C 40 [vI l.Rn,vS q I.1.length m],bx B 40 [vI 0,vS none 0 0]]) ?_ (af.po [0,1,2,3,4]) ?_
 · intro I e _ o hM h;obtain⟨e,rfl,ah⟩:=eo hM;refine gH [4,5,59,60,61,62] fun e=>?_;refine gc h ?_ ?_<;>intro _ h
   · refine gb h fun _ X h=>?_;obtain⟨_,_,rfl,av,aw⟩:=ah.dF (α:=gz) (i:=0) rfl X;(try refine LW.u (dO.ix underlying168 zy rfl rfl av (by rw[show d.1.length=tv.length from R];exact aw)) rfl ?_);obtain⟨_,W,_⟩:=ah.freeze (α:=gz) 0 rfl;obtain⟨_,_,_,ak,_,_,_,ap,_⟩:=W.fw.idx X;cases ak;obtain rfl:=ap;refine T ?_;intro _ _ _ _ ai;have⟨_,Y,h⟩:=ob h;obtain⟨_,_,rfl,_,_⟩:=ai.dF (α:=fZ) (i:=3) rfl Y;refine go ?_;refine gb h fun _ Z h=>?_;refine LW.se 2 ai 3 Y Z (hM:=(gg (fun w cs F hF=>by obtain⟨bg,bm,bi,bn,bj,bo,bk,bp,bl,bq,rfl,hH⟩:=hF;exact⟨bg,bm,bi,bn,bj,bo,bk,bp,bl,bq,rfl,hH⟩))) fun _ aj=>?_;refine go ?_;rw[dB (oi Z)]at aj;have _:=aj.dZ (α:=gz) 1 rfl W;exact rt
   exact rt
 rintro e _ ⟨hE,aI⟩;obtain⟨e,rfl⟩:=hE.out;have hpe:List.zipWith vJ H.1 (fh d.1)=(fb l.parts (fh d.1)):=by rw[hoeo143,htv,hpv];exact HN hhs (hht.trans A)
 have hol:H.1.length=(fb l.parts (fh d.1)).length:=by rw[yL (show(fh d.1).length=l.parts.length by unfold fh;rw[List.length_map];exact A),hoeo143,List.length_zipWith,htp,Nat.min_self,hpl]
 have aJ:=aI.pk (M:=[sl q m H.1,tl ht (fh d.1)]++[sl j k tv,bx C 40 [vI l.Rn,vS q H.1.length m],bx B 40 [vI 0,vS none 0 0]]) [2,1,0,3,4];have aK:=aJ.KT (by rw[hoeo143,htv];exact J5 (by rw[hht,A,hpl])) hlt;rw[hpe,hol]at aK;refine go ?_;refine T ?_;intro _ _;exact rt
instance k_116:Ct prog 116:={h:=@DJ}
theorem Gl{w0}{F:List Nat}{N V r}(h:pd N V=some r){Y:Nat}{I J}(K:ee (eT w0 F) w0 I J V.b)(hS:St w0 F w0 [bx Y 99 [vS I V.b.length J,vI V.i,vI V.h]]):
    dj prog 61 #[.pointer (some ⟨Y,0,none⟩)] w0 (fun v w=>∃a2 a3,v=vS a2 r.1.length a3/\St w0 F w [sl a2 a3 r.1,bx Y 99 [vS I V.b.length J,vI r.2.i,vI r.2.h]]):=by
 unfold pd at h;refine dj.fn func61 fun e=>?_;refine go ?_;refine LW.b0 (α:=er) hS ?_;intro bR bS _ bT hf;refine go ?_;refine LW.bi [0,0,0,0] bT ?_;intro ay az _ bU hf;refine LW.bd [(0,vS ay (([0,0,0,0]:List Int).length) az)] #[vS ay (([0,0,0,0]:List Int).length) az] ?_;refine LW.al bU fun an _ bV=>?_;refine LW.st bV 0 fun _ bW=>?_;refine gb h fun a7 bO h=>?_;obtain⟨_,ao⟩:=bW.lT [3] [0,1,2];refine LW.cl (o6 bO (ao.rB K) ao.st) ?_;rintro _ _ ⟨rfl,hs⟩;have bX:=ao.back _ _ hs;refine go ?_;have bY:=bX.pk (M:=[sl bR bS ([]:List er),sl ay az ([0,0,0,0]:List Int)]++[bx Y 99 [vS I V.b.length J,vI a7.2.i,vI a7.2.h],bx an 31 [vS ay (([0,0,0,0]:List Int).length) az]]) [3,2,0,1];have a5:=bY.ME;obtain⟨_,aQ,bk⟩:=ob h;refine CW.i4 aQ 0 [0,4] [] (fun q (j:Ad) (k:Nat) (C:Ad) (H:Nat)=>[(3,vS j q.1.length k),(5,vI q.2.1)]) (fun q j k C H=>[bx Y 99 [vS I V.b.length J,vI q.2.2.1,vI q.2.2.2.1],bx an 31 [vS C q.2.2.2.2.length H],al (sl j k q.1) C H q.2.2.2.2]) a5 ?_ ?_ ?_
 · exact⟨bR,bS,ay,az,a5.po [1,2,0]⟩
 · intro q e j k C H _ o a6 h;refine gH [0,3,4,5,15] fun e=>?_;refine gc h ?_ ?_<;>intro _ h
   · refine gb h fun g aS h=>?_;obtain⟨_,ab⟩:=a6.lT [0] [1,2];refine LW.cl (zN aS (ab.rB K) ab.st) ?_;rintro _ _ ⟨a8,bb,Z,aa,rfl,hs⟩;have bZ:=ab.back _ _ hs;refine LW.al bZ fun X _ bl=>?_;refine LW.st bl 0 fun _ bm=>?_;refine gb h fun _ aT h=>?_;obtain⟨_,ac⟩:=bm.lT [3] [0,1,2,4,5];refine LW.cl (vq aT (ac.rB K) ac.st) ?_;rintro _ _ ⟨rfl,hs⟩;have ap:=ac.back _ _ hs;refine gs ?_;obtain⟨x,aL,bf⟩:=ob h;refine CW.j4 [0,3,4,5,6] [0,3] (fun(O:Ad) (R:Nat) (d:Ad) (f:Nat)=>[]) (fun O R d f=>[bx X 35 [vS d x.2.length f,vS Z g.1.own.length aa,vI g.1.fG.c6,vI g.1.fG.dh,vI g.1.fG.du],bx an 31 [vS O x.1.length R],al (sl j k q.1) O R x.1,sl d f x.2]) ap ?_ ?_
     · have h:=aL;refine gc h ?_ ?_<;>intro _ h
       · refine go ?_;refine LW.b0 (α:=Int) ap ?_;intro _ _ _ bn hf;refine go ?_;obtain⟨_,aP,aR,aA⟩:=bn.Ob 6 rfl;refine gb h fun aF aU h=>?_;refine LW.fX (l:=([]:List Int)) (m:=q.2.2.2.2) ky rfl rfl (aA.rZ 6 rfl aR) aU aA (i:=0) rfl rfl ?_;intro aj am _ bo hf;refine LW.bd [(0,vS aj aF.length am)] #[vS aj aF.length am] ?_;refine sP bo 2 fun _ bp=>?_;refine go ?_;have bq:=bp.P1 6 rfl aP;cases oi h;exact⟨C,H,aj,am,bq.po [1,4,2,5,6,0]⟩
       refine go ?_;cases oi h;exact⟨C,H,a8,bb,ap.po [0,3,1,4,5,2]⟩
     intro e O R d f _ br;have h:=bf;refine sP br 3 fun _ bs=>?_;refine gb h fun _ aV h=>?_;obtain⟨_,ad⟩:=bs.lT [0] [1,2,3,4,5];refine LW.cl (vq aV (ad.rB K) ad.st) ?_;rintro _ _ ⟨rfl,hs⟩;have aq:=ad.back _ _ hs;refine gs ?_;obtain⟨U,aM,bg⟩:=ob h;refine CW.j2 [0,3,4,5,6] [1,2] (fun(A:Ad) (B:Nat)=>[]) (fun A B=>[bx Y 99 [vS I V.b.length J,vI U.1,vI U.2.1],bx an 31 [vS A U.2.2.length B],sl j k q.1,al (sl d f x.2) A B U.2.2]) aq ?_ ?_
     · have h:=aM;refine gc h ?_ ?_<;>intro _ h
       · refine gb h fun aG aW h=>?_;obtain⟨_,ae⟩:=aq.lT [0] [1,2,3,4,5];refine LW.cl (o6 aW (ae.rB K) ae.st) ?_;rintro _ _ ⟨rfl,hs⟩;have bt:=ae.back _ _ hs;refine go ?_;refine LW.b0 (α:=Int) bt ?_;intro _ _ _ aB hf;refine gb h fun aH aX h=>?_;refine LW.fX (l:=([]:List Int)) (m:=x.2) ky rfl rfl (aB.rI 6 rfl) aX aB (i:=0) rfl rfl ?_;intro ax W _ bu hf;refine LW.bd [(0,vS ax aH.length W)] #[vS ax aH.length W] ?_;refine LW.st bu 4 fun bP bv=>?_;refine gP ?_;have aC:=bv.drew;refine gb h fun _ ai h=>?_;obtain⟨ak,au,rfl,_,_⟩:=aC.dF (α:=Int) (i:=0) rfl ai;refine go ?_;obtain⟨_,av,aD⟩:=aC.freeze (α:=Int) 0 rfl;obtain⟨_,_,_,b1,aJ,_,_,aK,aO⟩:=av.fw.idx ai;cases b1;obtain rfl:=aK;refine AW.tk 7 rfl (fy.g8 bP.drew kV rfl (aO 0 _ rfl)) (aD.zC 0 rfl aJ) ?_;refine go ?_;refine AW.u (i:=9) rfl (by kernel_rfl) rfl rfl (dO.min rfl rfl) ?_;refine go ?_;have bw:=aD.dZ (α:=Int) 0 rfl av;have⟨aI,aw,h⟩:=ob h;refine jO 11 ?_;refine LW.se 0 bw 0 ai aw (hM:=tx) fun _ aE=>?_;refine jn ?_;refine go ?_;rw[dB (oi aw)]at aE;have bz:=aE.pk (M:=[sl d f x.2,sl (some ⟨ak,au,none⟩) W aI]++[bx Y 99 [vS I V.b.length J,vI aG.2.i,vI aG.2.h],sl Z aa g.1.own,bx X 35 [vS d x.2.length f,vS Z g.1.own.length aa,vI g.1.fG.c6,vI g.1.fG.dh,vI g.1.fG.du],bx an 31 [vS (some ⟨ak,au,none⟩) aI.length W],al (sl j k q.1) O R x.1]) [6,0,1,2,3,4,5];have bA:=bz.ME;have bB:=bA.EY 5 rfl;cases oi h;exact⟨(some ⟨ak,au,none⟩),W,bB.po [2,3,1,4,5,0]⟩
       refine go ?_;have bC:=aq.OK (α:=Int) 5 rfl;have bD:=bC.EY 4 rfl;cases oi h;exact⟨d,f,bD.po [1,2,0,3,4,5]⟩
     intro e A B _ bE;have h:=bg;refine gb h fun _ aY h=>?_;obtain⟨_,af⟩:=bE.lT [2] [0,1,3,4,5];refine LW.cl (vq aY (af.rB K) af.st) ?_;rintro _ _ ⟨rfl,hs⟩;have ar:=af.back _ _ hs;refine gs ?_;obtain⟨z,aN,bj⟩:=ob h;refine CW.j2 [0,3,4,5,6] [3,4,5] (fun(n:Ad) (p:Nat)=>[]) (fun n p=>[bx Y 99 [vS I V.b.length J,vI z.1,vI z.2.1],bx X 35 [vS d x.2.length f,vS n z.2.2.length p,vI g.1.fG.c6,vI g.1.fG.dh,vI g.1.fG.du],sl n p z.2.2]) ar ?_ ?_
     · have h:=aN;refine CW.fl [0,3,4,5,6,52] fun e=>?_;refine gc h ?_ ?_<;>intro _ h
       · refine gb h fun bQ aZ h=>?_;obtain⟨_,ah⟩:=ar.lT [0] [1,2,3,4,5];refine LW.cl (o6 aZ (ah.rB K) ah.st) ?_;rintro _ _ ⟨rfl,hs⟩;have bF:=ah.back _ _ hs;refine LW.bi [bQ.1] bF ?_;intro a9 bc _ bG hf;refine sP bG 3 fun _ bI=>?_;refine go ?_;cases oi h;exact⟨a9,bc,bI.po [4,5,6,1,3,0]⟩
       refine go ?_;cases oi h;exact⟨Z,aa,ar.po [3,4,5,0,2,1]⟩
     intro e n p _ bJ;have h:=bj;refine go ?_;have bK:=bJ.pk (M:=[al (sl d f x.2) A B U.2.2,sl n p z.2.2]++[bx an 31 [vS A U.2.2.length B],sl j k q.1,bx Y 99 [vS I V.b.length J,vI z.1,vI z.2.1],bx X 35 [vS d x.2.length f,vS n z.2.2.length p,vI g.1.fG.c6,vI g.1.fG.dh,vI g.1.fG.du]]) [2,5,0,1,3,4];have⟨_,a0,h⟩:=ob h;refine LW.Qe (M:=[sl n p z.2.2]) (L:=[bx an 31 [vS A U.2.2.length B],sl j k q.1,bx Y 99 [vS I V.b.length J,vI z.1,vI z.2.1],bx X 35 [vS d x.2.length f,vS n z.2.2.length p,vI g.1.fG.c6,vI g.1.fG.dh,vI g.1.fG.du]]) (vs:=#[vS d x.2.length f,vS n z.2.2.length p,vI g.1.fG.c6,vI g.1.fG.dh,vI g.1.fG.du]) (i:=1) Om rfl (by kernel_rfl) rfl rfl a0 bK rfl (fun w G hG=>⟨d,f,n,p,rfl,hG⟩) rfl rfl ?_;intro _ ba be _ bL hf;refine go ?_;cases oi h;exact⟨rfl,⟨ba,be,A,B,bL.po [2,0,1]⟩⟩
   refine go ?_;cases oi h;exact⟨trivial,rfl,⟨j,k,C,H,a6.po [0,1,2]⟩⟩
 intro e j k C H _ bM;have h:=bk;refine go ?_;replace h:=oi h;subst h;have bN:=bM.EY 2 rfl;exact Ra ⟨j,k,rfl,bN.pk [2,0]⟩
instance k_61:Ct prog 61:={h:=@Gl}
theorem Ff{w0 N b aD r}(h:qm N b aD=some r){A W J}(ac:W=b.Rg.Rf.length)(aE:rb w0 A J b.Rg.Rf){B X K}(ad:X=b.own.length)(aF:rb w0 B K b.own){C Y L}(ae:Y=b.Rh.length)(aG:rb w0 C L b.Rh){G Z M}(af:Z=b.heap.ag.length)(aH:rb w0 G M b.heap.ag){H aa O}(ah:aa=b.heap.gc.da.length)(aI:rb w0 H O b.heap.gc.da){I ab R}(ai:ab=b.dc.length)(aJ:rb w0 I R b.dc):
    dj prog 118 #[.agg (uP A W J B X K C Y L G Z M H aa O I ab R b),vI aD] w0 (fun v w=>∃g o j p k q l u m x n z,v=.agg (uP g r.Rg.Rf.length o j r.own.length p k r.Rh.length q l r.heap.ag.length u m r.heap.gc.da.length x n r.dc.length z r)/\St w0 [] w [sl g o r.Rg.Rf,sl j p r.own,sl k q r.Rh,sl l u r.heap.ag,sl m x r.heap.gc.da,sl n z r.dc]):=by
 subst ac ad ae af ah ai;unfold qm at h;refine dj.fS func118 fun e _=>?_;refine T ?_;intro _ _ _ _ _ _ d _ h aK aM aL aN aq av aj ak ar aw au ax _ _ ay _ _ _ aB;obtain⟨aC,ao,az⟩:=ob h;refine CW.jn [1,2,4,5] [0,1,2,3,4,5,6,7,8] [(21,.bool aC)] aB (h1:=?_) (h2:=?_)
 · have h:=ao;exact wk
 intro e _ _;have h:=az;refine gc h ?_ ?_<;>intro _ h
 · exact wk
 refine T ?_;intro _ _ _ _ h _ f;obtain⟨am,ap,aA⟩:=ob h;refine CW.j0 [4,5] [1,2,3,5,6,7] [] [bx ay 54 [vS aK d.Rg.Rf.length aM,vS aL d.own.length aN,vS aq d.Rh.length av,vS aj am.length ak,vI d.heap.gc.Rj,vI d.heap.gc.Rs,vI d.heap.gc.Rk,vS ar d.heap.gc.da.length aw,vS au d.dc.length ax,vI d.Rr,vI d.Rq,vI d.db.c6,vI d.db.dh,vI d.db.du,vI 0,vI d.Rp],sl aj ak am] f ?_ ?_
 · have h:=ap;refine CW.fl [1,4,5,6,28] fun e=>?_;refine gc h ?_ ?_<;>intro _ h
   · refine gb h fun _ U h=>?_;obtain⟨_,_,rfl,_,_⟩:=f.dF (α:=cd) (i:=4) rfl U;refine go ?_;refine gb h fun _ V h=>?_;refine LW.se 4 f 4 U V (hM:=(gg (fun w cs F hF=>by obtain⟨aO,aR,aP,aS,aQ,aT,rfl,hH⟩:=hF;exact⟨aO,aR,aP,aS,aQ,aT,rfl,hH⟩))) fun _ an=>?_;refine go ?_;rw[dB (oi V)]at an;exact rt
   exact rt
 intro e _ _;have h:=aA;exact wk
instance k_118:Ct prog 118:={h:=@Ff}
theorem Dn{w0 N i m n r}(h:oJ N i m n=some r){b f d}(g:f=i.parts.length)(o:rb w0 b d i.parts):
    dj prog 122 #[.agg #[vI i.Rn,vS b f d],vI m,.agg (uL n)] w0 (fun v w=>v=vI r/\St w0 [] w []):=by
 subst g;unfold oJ at h;refine dj.fS func122 fun e _=>?_;refine T ?_;intro _ _ _ _ _ j;obtain⟨u,k,p⟩:=ob h;refine CW.jn [3] [1] [(7,vI u)] j (h1:=?_) (h2:=?_)
 · have h:=k;refine CW.block ?_;refine gs ?_;refine CW.region ?_;refine gs ?_;obtain⟨x,l,q⟩:=ob h;refine CW.jn [3,5,7,10] [0,1] [(11,.bool x)] j (h1:=?_) (h2:=?_)
   · have h:=l;exact wk
   intro e _ _;have h:=q;exact wk
 intro e _ _;have h:=p;exact wk
instance k_122:Ct prog 122:={h:=@Dn}
theorem FV{w0 N i r}(h:rY N i=some r){j W l}(Y:W=i.Rg.Rf.length)(K:rb w0 j l i.Rg.Rf){k X m}(Z:X=i.own.length)(L:rb w0 k m i.own):
    dj prog 129 #[.agg (uB j W l k X m i)] w0 (fun v w=>∃p B q C u G x H z I A J,v=.tuple #[.agg (uP p r.1.Rg.Rf.length B q r.1.own.length C u r.1.Rh.length G x r.1.heap.ag.length H z r.1.heap.gc.da.length I A r.1.dc.length J r.1),.bool r.2]/\St w0 [] w [sl p B r.1.Rg.Rf,sl q C r.1.own,sl u G r.1.Rh,sl x H r.1.heap.ag,sl z I r.1.heap.gc.da,sl A J r.1.dc]):=by
 subst Y Z;unfold rY at h;refine dj.fS func129 fun e aX=>?_;refine vi aX fun _ _ aY=>?_;refine LW.al aY fun _ _ aZ=>?_;refine gb h fun a4 a3 h=>?_;refine LW.cl (z4 a3) ?_;rintro _ _ ⟨aO,aV,rfl,hs⟩;have U:=aZ.add hs;refine gs ?_;obtain⟨a5,a2,aW⟩:=ob h;refine CW.jn [1,2,4] [0,1,2] [(28,.bool a5)] U (h1:=?_) (h2:=?_)
 · have h:=a2;refine gb h fun _ aB h=>?_;refine LW.c0 (z5 aB rfl (U.rB K)) U fun _ V=>?_;refine gB h ?_ ?_<;>intro _ h
   · refine go ?_;cases oi h;exact V.po [0,1,2]
   refine gb h fun _ aC h=>?_;refine go ?_;refine LW.c0 (Cr aC rfl (V.rB L)) V fun _ am=>?_;refine gB h ?_ ?_<;>intro _ h
   · refine go ?_;cases oi h;exact am.po [0,1,2]
   refine go ?_;cases oi h;exact am.po [0,1,2]
 intro e _ an;have h:=aW;refine gc h ?_ ?_<;>intro _ h
 · refine fD [] #[vS none 0 0,vS none 0 0,vS none 0 0,vS none 0 0,vI 0,vI 0,vI 0,vS none 0 0,vS none 0 0,vI 0,vI 0,vI 0,vI 0,vI 0,vI 0,vI 0] ?_;refine LW.st an 1 fun _ a0=>?_;refine go ?_;cases h;have a1:=a0.nil (α:=Int);have aq:=a1.nil (α:=Int);have ar:=aq.nil (α:=dp);have au:=ar.nil (α:=cd);have av:=au.nil (α:=Int);have O:=av.nil (α:=ez);exact Rc (dK.b O 7 rfl i7 rfl rfl) tt ⟨none,0,none,0,none,0,none,0,none,0,none,0,rfl,O.pk [5,4,3,2,1,0]⟩
 refine gb h fun _ aD h=>?_;refine LW.cl (zj aD) ?_;rintro _ _ ⟨_,_,rfl,hs⟩;have aw:=an.add hs;refine LW.bi [-1, -1] aw ?_;intro aa af M n hf;refine LW.bd [(1,vI 4),(4,vI 1000000),(10,vS aa (([-1, -1]:List Int).length) af)] #[vI 0,vI 4,vI 0,vI 0,vI 1000000,vI 0,vI 0,vI 0,vI 0,.bool false,vS aa (([-1, -1]:List Int).length) af,vS none 0 0,vS none 0 0] ?_;have⟨ap,aE,h⟩:=ob h;refine LW.cl (wi aE rfl (n.rI 1 rfl) rfl (n.rI 0 rfl) rfl (show ee (α:=Int) (eT M []) M none 0 [] from ee.nil _ _ _ _ (Nat.zero_le _)) rfl (show ee (α:=eR) (eT M []) M none 0 [] from ee.nil _ _ _ _ (Nat.zero_le _))) ?_;rintro _ _ ⟨ab,ah,rfl,hs⟩;have ax:=n.add hs;refine gb h fun g aF h=>?_;refine LW.cl (CN aF) ?_;rintro _ _ ⟨ac,ai,rfl,hs⟩;have o:=ax.add hs;refine LW.bd [(0,vS ab ap.1.length ah),(1,.agg #[vI g.Rj,vI g.Rs,vI g.Rk,vS ac g.da.length ai])] #[vS ab ap.1.length ah,vI g.Rj,vI g.Rs,vI g.Rk,vS ac g.da.length ai] ?_;refine gb h fun d aG h=>?_;refine LW.cl (xO aG rfl (o.rI 1 rfl) rfl (o.rI 0 rfl)) ?_;rintro _ _ ⟨ad,aj,ae,ak,rfl,hs⟩;have ay:=o.add hs;refine LW.al ay fun _ _ az=>?_;refine LW.st az 0 fun ao f=>?_;refine fD [(0,.agg #[vS j i.Rg.Rf.length l]),(1,vS k i.own.length m),(2,vS aO a4.1.length aV),(3,.agg #[vS ad d.ag.length aj,vI d.gc.Rj,vI d.gc.Rs,vI d.gc.Rk,vS ae d.gc.da.length ak])] #[vS j i.Rg.Rf.length l,vS k i.own.length m,vS aO a4.1.length aV,vS ad d.ag.length aj,vI d.gc.Rj,vI d.gc.Rs,vI d.gc.Rk,vS ae d.gc.da.length ak,vS none 0 0,vI 0,vI 0,vI 0,vI 0,vI 0,vI 0,vI 0] ?_;have⟨_,aH,h⟩:=ob h;refine LW.cl (z8 aH rfl (f.rB K) rfl (f.rB L) rfl (f.rI 7 rfl) rfl (f.rI 1 rfl) rfl (f.rI 2 rfl) rfl (show ee (α:=ez) (eT ao []) ao none 0 [] from ee.nil _ _ _ _ (Nat.zero_le _))) ?_
 rintro _ _ ⟨aI,aP,aJ,aQ,aK,aR,aL,aS,aM,aT,aN,aU,rfl,hs⟩;have aA:=f.add hs;refine LW.st aA 14 fun _ R=>?_;refine go ?_;cases h;exact Rc (dK.b R 14 rfl i7 rfl rfl) tt ⟨aI,aP,aJ,aQ,aK,aR,aL,aS,aM,aT,aN,aU,rfl,R.pk [0,1,2,3,4,5]⟩
instance k_129:Ct prog 129:={h:=@FV}
theorem Kb{w0}{F:List Nat}{N k r}(h:sF N k=some r){A:Nat}{g j}(x:ee (eT w0 F) w0 g j k.b)(hS:St w0 F w0 [bx A 99 [vS g k.b.length j,vI k.i,vI k.h]]):
    dj prog 105 #[.pointer (some ⟨A,0,none⟩)] w0 (fun v w=>∃o p,v=.agg #[vS o r.1.Rf.length p]/\St w0 F w [sl o p r.1.Rf,bx A 99 [vS g k.b.length j,vI r.2.i,vI r.2.h]]):=by
 unfold sF at h;refine dj.fn func105 fun e=>?_;refine T ?_;intro ao _ _ ah _ h ai aj _ _ ak _ _ _ _ X _ h _ q;obtain⟨z,ae,am⟩:=ob h;refine CW.j2 [0,2,3] [3] (fun(d:Ad) (f:Nat)=>[]) (fun d f=>[bx A 99 [vS g k.b.length j,vI z.2.1,vI z.2.2],bx ak 31 [vS d z.1.length f],sl d f z.1]) q ?_ ?_
 · have h:=ae;refine gc h ?_ ?_<;>intro _ h
   · refine dW ?_;have:=q.drew;refine T ?_;intro _ _ h _ an;have⟨_,J,h⟩:=ob h;obtain⟨W,_,_,ac,ad,_⟩:=an.su (α:=Int) 2 rfl J;refine AW.u (i:=4) rfl (by kernel_rfl) rfl rfl (dO.sub (α:=Int) (l:=ah.1.Rf) underlying29 EG rfl sA (sq rfl) J W ac ad) ?_;exact wk
   refine gc h ?_ ?_<;>intro _ h
   · refine dW ?_;have B:=q.drew;refine gb h fun _ K h=>?_;refine AW.all (rs:=[3,5]) (by kernel_rfl) (by simp) ⟨?_,?_,trivial⟩
     · obtain⟨_,m⟩:=B.lT [0] [1,2,3];refine oA ?_;refine LW.cl (o6 K (m.rB x) m.st) ?_;rintro _ _ ⟨rfl,hs⟩;have Y:=m.back _ _ hs;refine T ?_;refine LW.bi [-1,4] Y ?_;intro _ _ _ _ hf;refine T ?_;intro _ _ h _ C;have⟨_,O,h⟩:=ob h;obtain⟨_,_,rfl,_,_⟩:=C.dF (α:=Int) (i:=3) rfl O;refine go ?_;have⟨_,R,h⟩:=ob h;refine T ?_;refine LW.se 0 C 3 O R (hM:=tx) fun _ Z=>?_;refine T ?_;rw[dB (oi R)]at Z;exact rt
     refine oA ?_;refine LW.bi [-1,4] B ?_;intro _ _ _ aa hf;refine T ?_;obtain⟨_,n⟩:=aa.lT [1] [0,2,3,4];refine jP 3 ?_;refine LW.cl (o6 K (n.rB x) n.st) ?_;rintro _ _ ⟨rfl,hs⟩;have:=n.back _ _ hs;refine T ?_;intro _ _ h _ H;have⟨_,U,h⟩:=ob h;obtain⟨_,_,rfl,_,_⟩:=H.dF (α:=Int) (i:=3) rfl U;refine go ?_;have⟨_,V,h⟩:=ob h;refine T ?_;refine LW.se 0 H 3 U V (hM:=tx) fun _ ab=>?_;refine T ?_;rw[dB (oi V)]at ab;exact rt
   refine gH [0,2,3,26] fun e=>?_;refine gc h ?_ ?_<;>intro _ h
   · refine gb h fun _ af h=>?_;refine LW.gE (M:=[]) (L:=[bx A 99 [vS g k.b.length j,vI X.2.i,vI X.2.h],bx ak 31 [vS ai ah.1.Rf.length aj],sl ai aj ah.1.Rf,bx ao 31 [vS none 0 0]]) (vs:=#[vI 0]) (i:=2) ky rfl (by kernel_rfl) rfl rfl af q rfl (fun w G hG=>by cases(show G=[] from hG);exact⟨rfl,rfl⟩) rfl rfl ?_;intro _ _ _ _ _ hf;exact wk
   exact rt
 intro e d f _ _;have h:=am;refine T ?_;intro _ I;replace h:=oi h;subst h;exact And.intro trivial ⟨_,ib.one (dK.b I 0 rfl Ec rfl rfl),d,f,rfl,I.pk [3,1]⟩
instance k_105:Ct prog 105:={h:=@Kb}
theorem Ea{w0}{F:List Nat}{N m V r}(h:qj N m V=some r){o:Nat}{g j}(au:ee (eT w0 F) w0 g j m.b){u I x}(O:I=V.parts.length)(n:ee (eT w0 F) w0 u x V.parts)(hS:St w0 F w0 [bx o 99 [vS g m.b.length j,vI m.i,vI m.h]]):
    dj prog 108 #[.pointer (some ⟨o,0,none⟩),.agg #[vI V.Rn,vS u I x]] w0 (fun v w=>v=.agg (uE r.1)/\St w0 F w [bx o 99 [vS g m.b.length j,vI r.2.i,vI r.2.h]]):=by
 subst O;unfold qj at h;refine dj.fn func108 fun e=>?_;refine T ?_;intro _ _ _ _ _ _ W _ h _ _ _ _ h _ ar;refine gH [0,3,4,5,6,18] fun e=>?_;refine gc h ?_ ?_<;>intro _ h
 · refine fD [(0,vI 1)] #[vI 1,vI 0,vI 0,vI 0,vI 0,vI 0,vI 0,vI 0,vI 0] ?_;refine T ?_;intro _ Y;replace h:=oi h;subst h;exact And.intro trivial ⟨_,ib.one (dK.b Y 1 rfl I1 rfl rfl),rfl,Y.pk [0]⟩
 refine gs ?_;obtain⟨C,ai,ao⟩:=ob h;refine CW.j0 [0,3,4,5] [1,2] [(22,.bool C.1)] [bx o 99 [vS g m.b.length j,vI C.2.1,vI C.2.2]] ar ?_ ?_
 · have h:=ai;exact wk
 intro e _ _;have h:=ao;refine gc h ?_ ?_<;>intro _ h
 · refine T ?_;intro aa _ h _ _;refine LW.bd [(0,vI 3),(1,vI W.1),(2,vI aa.1)] #[vI 3,vI W.1,vI aa.1,vI 0,vI 0,vI 0,vI 0,vI 0,vI 0] ?_;refine T ?_;intro _ Z;replace h:=oi h;subst h;exact And.intro trivial ⟨_,ib.one (dK.b Z 1 rfl I1 rfl rfl),rfl,Z.pk [0]⟩
 refine gb h fun _ am h=>?_;obtain⟨_,_,_,rfl,_,_,_,⟨_,_,_,_,_,_,_,_,_,_,_,_,rfl,_,_,_,_,_,_⟩,_⟩:=n.idx am;refine go ?_;refine T ?_;intro f _ h _ _ X _ _ _ _ _ _ h _ ad;obtain⟨G,aj,ap⟩:=ob h;refine CW.j0 [0,3,4,5,7,8] [1,2,3] [(52,.bool G.1)] [bx o 99 [vS g m.b.length j,vI G.2.1,vI G.2.2]] ad ?_ ?_
 · have h:=aj;exact wk
 intro e _ ae;have h:=ap;refine gs ?_;obtain⟨H,ak,aq⟩:=ob h;refine CW.j0 [0,3,4,5,7,8] [1,2] [] [bx X 63 [vI f.1.so,vI H.2.2,vI f.1.b,vI f.1.c,vI f.1.d,vI f.1.e],bx o 99 [vS g m.b.length j,vI H.1,vI H.2.1]] ae ?_ ?_
 · have h:=ak;refine CW.fl [0,3,4,5,7,8,52] fun e=>?_;refine gc h ?_ ?_<;>intro _ h
   · refine gb h fun _ an h=>?_;obtain⟨_,_,_,p,_,_,_,ah,_⟩:=n.idx an;cases p;obtain⟨_,_,_,_,_,_,_,_,_,_,_,_,rfl,_,_,_,_,_,_⟩:=ah;exact wk
   exact rt
 intro e _ af;have h:=aq;refine gs ?_;refine CW.region ?_;refine gs ?_;obtain⟨k,L,ab⟩:=ob h;refine CW.j0 [0,3,4,5,7] [0,1] [] [bx X 63 [vI f.1.so,vI k.2.2,vI f.1.b,vI f.1.c,vI f.1.d,vI f.1.e],bx o 99 [vS g m.b.length j,vI k.1,vI k.2.1]] af ?_ ?_
 · have h:=L;refine CW.fl [0,3,4,5,7,8,64] fun e=>?_;refine gc h ?_ ?_<;>intro _ h
   · refine gb h fun _ U h=>?_;obtain⟨_,_,_,p,_,_,_,J,_⟩:=n.idx U;cases p;obtain⟨_,_,_,_,_,_,_,_,_,_,_,_,rfl,_,_,_,_,_,_⟩:=J;exact wk
   exact rt
 intro e _ _;have h:=ab;refine T ?_;intro _ _ h _ z;obtain⟨l,M,ac⟩:=ob h;refine CW.j0 [0,4,5,7] [1,3] [(9,vI l.1)] [bx o 99 [vS g m.b.length j,vI l.2.1,vI l.2.2]] z ?_ ?_
 · have h:=M;refine CW.fl [0,3,4,5,7,9,75] fun e=>?_;refine gc h ?_ ?_<;>intro _ h
   · refine gP ?_;have:=z.drew;refine go ?_;refine T ?_;intro _ _ h _ _ _ _;refine gc h ?_ ?_<;>intro _ h
     · refine T ?_;intro _ _ h _ A;have⟨_,q,h⟩:=ob h;obtain⟨_,_,rfl,_,_⟩:=A.dF (α:=Int) (i:=1) rfl q;refine go ?_;obtain⟨_,R,_⟩:=A.freeze (α:=Int) 1 rfl;obtain⟨_,_,_,p,_,_,_,K,_⟩:=R.fw.idx q;cases p;obtain rfl:=K;refine T ?_;exact rt
     exact rt
   exact rt
 intro e _ _;have h:=ac;refine fD [(0,vI 2),(1,vI W.1),(2,vI l.1),(3,.agg #[vI f.1.so,vI k.2.2,vI f.1.b,vI f.1.c,vI f.1.d,vI f.1.e])] #[vI 2,vI W.1,vI l.1,vI f.1.so,vI k.2.2,vI f.1.b,vI f.1.c,vI f.1.d,vI f.1.e] ?_;refine T ?_;intro _ B;replace h:=oi h;subst h;exact And.intro trivial ⟨_,ib.one (dK.b B 0 rfl I1 rfl rfl),rfl,B.pk [2]⟩
instance k_108:Ct prog 108:={h:=@Ea}
theorem Ja{w0 N i j r}(h:vn N i j=some r){b f d}(g:f=i.length)(k:rb w0 b d i):
    dj prog 28 #[vS b f d,vI j] w0 (fun v w=>v=vI r/\St w0 [] w []):=by
 subst g;unfold vn at h;refine dj.fS func28 fun e _=>?_;refine go ?_;refine LW.u (dO.quo rfl rfl (by decide)) rfl ?_;exact wk
instance k_28:Ct prog 28:={h:=@Ja}
theorem Pq{w0 N j l r}(h:yf N j l=some r){b f d}(g:f=j.length)(i:rb w0 b d j):
    dj prog 9 #[vS b f d,vI l] w0 (fun v w=>v=vI r/\St w0 [] w []):=by
 subst g;unfold yf at h;refine dj.fS func9 fun e _=>?_;refine gc h ?_ ?_<;>intro _ h
 · refine gb h fun _ k h=>?_;obtain⟨_,_,_,rfl,_,_,_,rfl,_⟩:=i.idx k;refine go ?_;refine T ?_;refine LW.u (dO.conv underlying5 underlying3 rfl) rfl ?_;exact rt
 refine go ?_;refine LW.u (dO.rem rfl rfl (by decide)) rfl ?_;exact rt
instance k_9:Ct prog 9:={h:=@Pq}
theorem Lr{w0 N l r}(h:uS N l=some r){b f d}(g:f=l.length)(i:rb w0 b d l):
    dj prog 22 #[vS b f d] w0 (fun v w=>v=vI r/\St w0 [] w []):=by
 subst g;unfold uS at h;refine dj.fS func22 fun e n=>?_;refine go ?_;obtain⟨_,j,m⟩:=ob h;refine CW.mono (CW.lb [0] [] [3] 0 (fun k=>[(3,vI k.1),(4,vI k.2)]) n j (hb:=?_)) ?_
 · intro k e _ o _ h;refine gc h ?_ ?_<;>intro _ h
   · refine gb h fun _ p h=>?_;obtain⟨_,_,_,rfl,_,_,_,rfl,_⟩:=i.idx p;refine go ?_;refine T ?_;refine CW.fl [0,3,4,16] fun e=>?_;exact wk
   exact rt
 intro x e _ hM;obtain⟨rfl,hM⟩:=hM;obtain⟨e,rfl,_⟩:=eo hM;have h:=m;exact rt
instance k_22:Ct prog 22:={h:=@Lr}
end Go.Kx
