import Derived.Test.YtlcgibcdiikheaaGreatWa22
import Derived.Test.YtlcgibcdiikheaaGreatWa23
namespace Go.Kx
open Go Go.RowKit Go.Proofs
open Tryz
set_option maxRecDepth 10000
set_option maxHeartbeats 8000000
set_option linter.unusedVariables false
set_option linter.unusedSimpArgs false
theorem EX {w0 N z aw r} (h:rG N z aw=some r) {q am x} (ao:am=z.parts.length) (av:rb w0 q x z.parts) :
    gV prog 119 #[.agg #[vI z.Pt,vS q am x],vI aw] w0 (fun v w=>∃ R U,v=.agg #[vI r.Pt,vS R r.parts.length U]∧St w0 [] w [sl R U r.parts]):=by
 subst ao;unfold rG at h;refine gV.fn func119 fun e=>?_;have cW:=St.start w0;refine T ?_;intro ab dp cX A dq cY f c3 h p m dr cZ B c8 c0 c9 bc;obtain ⟨bf,aN,bb⟩:=ob h;refine CW.jn [1,2,4,5] [0,1,2,3] [(23,.bool bf)] bc (h1:=?_) (h2:=?_)
 · have h:=aN;refine T ?_;intro dk cb h da c1;refine bH h ?_ ?_<;>intro _ h
   · exact rt
   refine T ?_;intro dl cc h db c2;exact rt
 intro e dc be;have h:=bb;refine gc h ?_ ?_<;>intro _ h
 · refine T ?_;intro dd bF;exact rt
 refine go ?_;refine LW.b0 (α:=jM) be ?_;intro ax ay de aB hf;refine go ?_;obtain ⟨hgd,h⟩:=Df h;simp only [PG,decide_eq_true_eq] at hgd;have aC:=aB.pk (M:=[sl p m f.parts]++[sl ax ay ([]:List jM),bx B 26 [vI f.Pt,vS p f.parts.length m],bx A 26 [vI 0,vS none 0 0],bx ab 26 [vI z.Pt,vS q z.parts.length x]]) [2,0,1,3,4];obtain ⟨hds,hl,K⟩:=aC.Im;obtain ⟨pv,hpv⟩:∃ pv,pv=List.zipWith su f.parts hds:=⟨_,rfl⟩;rw [← hpv] at K;have hhs:hds.length=f.parts.length:=by have:=hl.len;rwa [List.length_map] at this
 have hpl:f.parts.length=pv.length:=by rw [hpv];exact (By hl).symm
 rw [hpl] at K;obtain ⟨Z,aO,hoeo64⟩:=DC hpl (by rw [← hpl];exact hgd.1) (by rw [← hpl];exact hgd.2);refine CW.ie aO 0 (fun J e wb=>∃ (g:Ad) (j:Nat),En e [(1,vI aw),(2,.pointer (some ⟨ab,0,none⟩)),(4,.pointer (some ⟨A,0,none⟩)),(5,.pointer (some ⟨B,0,none⟩)),(6,vS g J.1.length j),(27,vS p f.parts.length m),(28,vI (f.parts.length:Int)),(29,vI J.2)]∧St w0 [] wb [sl p m pv,tl hds (kQ f.parts),sl g j J.1,bx B 26 [vI f.Pt,vS p pv.length m],bx A 26 [vI 0,vS none 0 0],bx ab 26 [vI z.Pt,vS q z.parts.length x]]) ?_ ⟨ax,ay,K.po [0,1,2,3,4,5]⟩ ?_
 · intro J e bi o hM h;obtain ⟨g,j,hE,ac⟩:=hM;obtain ⟨e,rfl⟩:=hE.out;refine jw [1,2,4,5,6,27,28,29,30] fun e=>?_;refine gc h ?_ ?_<;>intro _ h
   · refine gb h fun b ak h=>?_;obtain ⟨a2,bg,hae,aP,aQ⟩:=ac.hZ (α:=jH) (i:=0) rfl ak;subst hae;(try refine LW.u (il.ix underlying24 NF rfl rfl aP (by rw [show f.parts.length=pv.length from hpl];exact aQ)) rfl ?_);obtain ⟨aV,aj,bG⟩:=ac.freeze (α:=jH) 0 rfl;obtain ⟨cO,c4,bB,hae,bS,_,_,aM,bU⟩:=aj.ju.idx ak;cases hae;obtain ⟨aW,a3,aX,a4,aY,a5,aZ,a7,a0,a8,rfl,b1,b2,b3,b4,b5⟩:=aM;refine T ?_;intro ba df bI dg aD;refine LW.bd [(0,vS b.Pg.a b.Pg.n b.Pg.c)] #[vS b.Pg.a b.Pg.n b.Pg.c] ?_;have ⟨dm,aS,h⟩:=ob h;refine LW.kB (M:=[]) (L:=[bx ba 50 [vS aW b.Pe.Pd.length a3,vS aX b.own.length a4,vS b.Pg.a b.Pg.n b.Pg.c,vS aY b.py.ag.length a5,vI b.py.gc.Ph,vI b.py.gc.Pr,vI b.py.gc.Pj,vS aZ b.py.gc.gQ.length a7,vS a0 b.gR.length a8,vI b.Pn,vI b.Pp,vI b.cd.gE,vI b.cd.gX,vI b.cd.g8,vI b.g5,vI b.Pm],fz bi aV,tl hds (kQ f.parts),sl g j J.1,bx B 26 [vI f.Pt,vS (some ⟨a2,bg,none⟩) pv.length m],bx A 26 [vI 0,vS none 0 0],bx ab 26 [vI z.Pt,vS q z.parts.length x]]) (vs:=#[vS b.Pg.a b.Pg.n b.Pg.c]) (i:=3) Ir rfl (by kernel_rfl) rfl rfl aS aD rfl (fun w G hG=>by cases (show G=[] from hG);exact ⟨rfl,rfl⟩) rfl rfl ?_;intro c6 cI cQ dh aE hf;refine go ?_;have bJ:=aE.iD (α:=jH) 1 rfl aj;exact rt
   exact rt
 rintro e di ⟨g,j,hE,ad⟩;obtain ⟨e,rfl⟩:=hE.out;rw [show Z.1=hds.map jM.mk from by rw [hoeo64,hpv];exact BD hhs] at ad;have aF:=ad.pk (M:=[sl g j (hds.map jM.mk),tl hds (kQ f.parts)]++[sl p m pv,bx B 26 [vI f.Pt,vS p pv.length m],bx A 26 [vI 0,vS none 0 0],bx ab 26 [vI z.Pt,vS q z.parts.length x]]) [2,1,0,3,4,5];have aG:=aF.Io hl;have htl:Z.1.length=(ku f.parts).length:=by rw [hoeo64];simp [ku,kQ,hpl]
 refine gb h fun az aT h=>?_;obtain ⟨cP,c5,bC,rfl,bT,bW,bY,⟨cJ,cR,cK,cS,cL,cT,cM,cU,cN,cV,a1,a9,rfl,b6,b7,b8,b9,ca,aR⟩,bV⟩:=av.idx aT;refine go ?_;refine T ?_;refine go ?_;obtain ⟨d,ap,aA⟩:=ob h;refine CW.ie ap 2 (fun aa e wb=>∃ (k:Ad) (l:Nat),En e [(1,vI aw),(4,.pointer (some ⟨A,0,none⟩)),(5,.pointer (some ⟨B,0,none⟩)),(6,vS k aa.1.length l),(45,vS a1 az.gR.length a9),(46,vI (az.gR.length:Int)),(47,vI aa.2)]∧St w0 [] wb [sl p m pv,bx B 26 [vI f.Pt,vS p pv.length m],bx A 26 [vI 0,vS none 0 0],sl k l aa.1]) ?_ ⟨g,j,⟨rfl,rfl,rfl,(show (vS g Z.1.length j:Value)=vS g ((ku f.parts).length) j by rw [show Z.1.length=(ku f.parts).length from htl]),rfl,rfl,rfl,trivial⟩,aG.pk [1,2,3,0]⟩ ?_
 · intro aa e dj o hM h;obtain ⟨k,l,hE,bK⟩:=hM;obtain ⟨e,rfl⟩:=hE.out;refine jw [1,4,5,6,45,46,47,48] fun e=>?_;refine gc h ?_ ?_<;>intro _ h
   · refine gb h fun dn aU h=>?_;obtain ⟨bu,ce,bj,rfl,bl,bX,bZ,rfl,bn⟩:=aR.idx aU;refine go ?_;refine T ?_;intro bD cu bL cv bM cE br h bt bA cw bN;exact rt
   exact rt
 rintro e cx ⟨k,l,hE,aH⟩;obtain ⟨e,rfl⟩:=hE.out;have h:=aA;refine go ?_;obtain ⟨C,h⟩:=Df h;have C:=of_decide_eq_true C;have aI:=aH.pk (M:=[sl k l d.1]++[sl p m pv,bx B 26 [vI f.Pt,vS p pv.length m],bx A 26 [vI 0,vS none 0 0]]) [3,0,1,2];obtain ⟨ht,hlt,ae⟩:=aI.M6;have hht:ht.length=d.1.length:=by have:=hlt.len;rwa [List.length_map] at this
 obtain ⟨tv,htv⟩:∃ tv,tv=ht.map jM.mk:=⟨_,rfl⟩;rw [← htv] at ae;have O:d.1.length=tv.length:=by rw [htv,List.length_map,hht]
 have htp:tv.length=pv.length:=O.symm.trans (C.trans hpl);obtain ⟨H,aq,hoeo143⟩:=LY (n:=d.1.length) O htp (by rw [htp, ← hpl];exact hgd.1) (by rw [htp, ← hpl];exact hgd.2);refine CW.ie aq 4 (fun I e wb=>En e [(4,.pointer (some ⟨A,0,none⟩)),(5,.pointer (some ⟨B,0,none⟩)),(59,vS k d.1.length l),(60,vI (d.1.length:Int)),(61,vI I.2)]∧St w0 [] wb [sl k l tv,tl ht (lr d.1),sl p m I.1,bx B 26 [vI f.Pt,vS p I.1.length m],bx A 26 [vI 0,vS none 0 0]]) ?_ (ae.po [0,1,2,3,4]) ?_
 · intro I e cy o hM h;obtain ⟨e,rfl,af⟩:=eo hM;refine jw [4,5,59,60,61,62] fun e=>?_;refine gc h ?_ ?_<;>intro _ h
   · refine gb h fun cF W h=>?_;obtain ⟨bv,cf,hae,ar,au⟩:=af.hZ (α:=jM) (i:=0) rfl W;subst hae;(try refine LW.u (il.ix underlying226 zx rfl rfl ar (by rw [show d.1.length=tv.length from O];exact au)) rfl ?_);obtain ⟨bs,V,bO⟩:=af.freeze (α:=jM) 0 rfl;obtain ⟨bw,cg,bk,hae,bm,_,_,an,bo⟩:=V.ju.idx W;cases hae;obtain rfl:=an;refine T ?_;intro bE cz bP cA ah;have ⟨cG,X,h⟩:=ob h;obtain ⟨bz,ci,hae,bp,bq⟩:=ah.hZ (α:=jH) (i:=3) rfl X;subst hae;refine go ?_;refine gb h fun cH Y h=>?_;refine LW.se 2 ah 3 X Y (hM:=(iU (fun w cs F hF=>by obtain ⟨cj,co,ck,cp,cl,cq,cm,cr,cn,ct,rfl,hH⟩:=hF;exact ⟨cj,co,ck,cp,cl,cq,cm,cr,cn,ct,rfl,hH⟩))) fun cB ai=>?_;refine go ?_;rw [gS (oi Y)] at ai;have bQ:=ai.iD (α:=jM) 1 rfl V;exact rt
   exact rt
 rintro e cC ⟨hE,aJ⟩;obtain ⟨e,rfl⟩:=hE.out;have hpe:List.zipWith v5 H.1 (lr d.1)=(ky f.parts (lr d.1)):=by rw [hoeo143,htv,hpv];exact GJ hhs (hht.trans C)
 have hol:H.1.length=(ky f.parts (lr d.1)).length:=by rw [yP (show (lr d.1).length=f.parts.length by unfold lr;rw [List.length_map];exact C),hoeo143,List.length_zipWith,htp,Nat.min_self,hpl]
 have aK:=aJ.pk (M:=[sl p m H.1,tl ht (lr d.1)]++[sl k l tv,bx B 26 [vI f.Pt,vS p H.1.length m],bx A 26 [vI 0,vS none 0 0]]) [2,1,0,3,4];have aL:=aK.J2 (by rw [hoeo143,htv];exact JV (by rw [hht,C,hpl])) hlt;rw [hpe,hol] at aL;refine go ?_;refine T ?_;intro cD bR;exact rt
instance k_119:Ct prog 119:=⟨by kernel_rfl,@EX⟩
theorem HV {w0 N b ah r} (h:tM N b ah=some r) {f G n} (O:G=b.Pe.Pd.length) (ai:rb w0 f n b.Pe.Pd) {g H p} (R:H=b.own.length) (aj:rb w0 g p b.own) {j I q} (U:I=b.Pg.length) (ak:rb w0 j q b.Pg) {k J z} (V:J=b.py.ag.length) (am:rb w0 k z b.py.ag) {l K A} (W:K=b.py.gc.gQ.length) (an:rb w0 l A b.py.gc.gQ) {m L B} (X:L=b.gR.length) (ao:rb w0 m B b.gR) :
    gV prog 217 #[.agg #[vS f G n,vS g H p,vS j I q,vS k J z,vI b.py.gc.Ph,vI b.py.gc.Pr,vI b.py.gc.Pj,vS l K A,vS m L B,vI b.Pn,vI b.Pp,vI b.cd.gE,vI b.cd.gX,vI b.cd.g8,vI b.g5,vI b.Pm],vI ah] w0 (fun v w=>v=vI r∧St w0 [] w []):=by
 subst O R U V W X;unfold tM at h;refine gV.fn func217 fun e=>?_;have aH:=St.start w0;refine T ?_;intro a3 a5 aI a7 aO h a1 a2 a6 Y;refine gc h ?_ ?_<;>intro _ h
 · exact rt
 refine gb h fun a8 Z h=>?_;obtain ⟨aD,aP,hae,aN,ay⟩:=Y.hZ (α:=Int) (i:=0) rfl Z;subst hae;refine go ?_;obtain ⟨aC,d,ae⟩:=Y.freeze (α:=Int) 0 rfl;obtain ⟨aE,aQ,ap,hae,ar,_,_,aa,av⟩:=d.ju.idx Z;cases hae;obtain rfl:=aa;refine T ?_;refine go ?_;obtain ⟨aT,ac,ad⟩:=ob h;refine CW.mono (CW.lb [2,18,19] [0,1] [6] 0 (fun M=>[(6,vI M.1),(20,vI M.2)]) ae ac (hb:=?_)) ?_
 · intro M e aU o af h;refine jw [2,6,18,19,20,21] fun e=>?_;refine gc h ?_ ?_<;>intro _ h
   · refine gb h fun aY C h=>?_;obtain ⟨aF,aR,hae,ax,az⟩:=d.hZ C;cases hae;refine go ?_;obtain ⟨aG,aS,aq,hae,au,_,_,ab,aw⟩:=d.ju.idx C;cases hae;obtain rfl:=ab;refine T ?_;refine dW ?_;have aJ:=af.drew;refine go ?_;refine jP 2 ?_;refine T ?_;intro aZ aA h aV aK;refine AW.u (i:=3) rfl (by kernel_rfl) rfl rfl (il.fd Ew rfl rfl) ?_;refine T ?_;intro a0 aB h aW aL;refine AW.u (i:=7) rfl (by kernel_rfl) rfl rfl (il.fd Ew rfl rfl) ?_;refine gc h ?_ ?_<;>intro _ h
     · exact rt
     exact rt
   exact rt
 intro x e aX hM;obtain ⟨rfl,hM⟩:=hM;obtain ⟨e,rfl,aM⟩:=eo hM;have h:=ad;exact rt
instance k_217:Ct prog 217:=⟨by kernel_rfl,@HV⟩
theorem AI {w0 N f aG aH r} (h:n5 N f aG aH=some r) {U am aa} (aA:am=f.Pe.Pd.length) (a5:rb w0 U aa f.Pe.Pd) {V an ab} (aB:an=f.own.length) (a7:rb w0 V ab f.own) {W ao ac} (aC:ao=f.Pg.length) (a9:rb w0 W ac f.Pg) {X ap ad} (aD:ap=f.py.ag.length) (ba:rb w0 X ad f.py.ag) {Y aq ae} (aE:aq=f.py.gc.gQ.length) (bb:rb w0 Y ae f.py.gc.gQ) {Z ar af} (aF:ar=f.gR.length) (bc:rb w0 Z af f.gR) :
    gV prog 122 #[.agg #[vS U am aa,vS V an ab,vS W ao ac,vS X ap ad,vI f.py.gc.Ph,vI f.py.gc.Pr,vI f.py.gc.Pj,vS Y aq ae,vS Z ar af,vI f.Pn,vI f.Pp,vI f.cd.gE,vI f.cd.gX,vI f.cd.g8,vI f.g5,vI f.Pm],vI aG,vI aH] w0 (fun v w=>∃ x I, ∃ z J, ∃ A K, ∃ B L, ∃ C M, ∃ G O,v=.tuple #[.agg #[vS x r.1.Pe.Pd.length I,vS z r.1.own.length J,vS A r.1.Pg.length K,vS B r.1.py.ag.length L,vI r.1.py.gc.Ph,vI r.1.py.gc.Pr,vI r.1.py.gc.Pj,vS C r.1.py.gc.gQ.length M,vS G r.1.gR.length O,vI r.1.Pn,vI r.1.Pp,vI r.1.cd.gE,vI r.1.cd.gX,vI r.1.cd.g8,vI r.1.g5,vI r.1.Pm],vI r.2]∧St w0 [] w [sl x I r.1.Pe.Pd,sl z J r.1.own,sl A K r.1.Pg,sl B L r.1.py.ag,sl C M r.1.py.gc.gQ,sl G O r.1.gR]):=by
 subst aA aB aC aD aE aF;unfold n5 at h;refine gV.fn func122 fun e=>?_;have bU:=St.start w0;refine T ?_;intro cw cx bV az cy bW d b1 h av ax aw ay aT aW aU aX aV aY u H b5 bX R b6 bY b7 a2;obtain ⟨a4,aQ,aZ⟩:=ob h;refine CW.jn [1,2,6,8,9] [0,1,2,3,4,5,6,7] [(22,.bool a4)] a2 (h1:=?_) (h2:=?_)
 · have h:=aQ;refine T ?_;intro cr bC h b8 bZ;refine bH h ?_ ?_<;>intro _ h
   · exact rt
   refine T ?_;intro cs bD h b9 b0;exact rt
 intro e ca a3;have h:=aZ;refine gc h ?_ ?_<;>intro _ h
 · refine T ?_;intro cb be;exact rt
 refine go ?_;obtain ⟨b4,aS,a1⟩:=ob h;refine CW.ie aS 0 (fun b e wb=>∃ (m:Ad) (n:Nat) (g:Ad) (k:Nat) (j:Ad) (l:Nat),En e [(1,vI aG),(6,.pointer (some ⟨az,0,none⟩)),(8,.pointer (some ⟨R,0,none⟩)),(9,vI b.1),(25,vI aH),(26,vI b.2.1)]∧St w0 [] wb [bx R 50 [vS av d.Pe.Pd.length ax,vS aw d.own.length ay,vS m b.2.2.1.length n,vS g b.2.2.2.1.length k,vI b.2.2.2.2.1,vI b.2.2.2.2.2.1,vI b.2.2.2.2.2.2.1,vS j b.2.2.2.2.2.2.2.length l,vS u d.gR.length H,vI d.Pn,vI d.Pp,vI d.cd.gE,vI d.cd.gX,vI d.cd.g8,vI d.g5,vI d.Pm],sl av ax d.Pe.Pd,sl aw ay d.own,sl u H d.gR,bx az 50 [vS none 0 0,vS none 0 0,vS none 0 0,vS none 0 0,vI 0,vI 0,vI 0,vS none 0 0,vS none 0 0,vI 0,vI 0,vI 0,vI 0,vI 0,vI 0,vI 0],sl m n b.2.2.1,sl g k b.2.2.2.1,sl j l b.2.2.2.2.2.2.2]) ?_ ⟨aT,aW,aU,aX,aV,aY,a3.po [0,1,2,6,7,3,4,5]⟩ ?_
 · intro b e cc o hM h;obtain ⟨m,n,g,k,j,l,hE,bf⟩:=hM;obtain ⟨e,rfl⟩:=hE.out;refine gc h ?_ ?_<;>intro _ h
   · refine T ?_;intro au bE h aI aK aJ aL ce bg aM cf bi cg ah;obtain ⟨ak,aR,a0⟩:=ob h;refine CW.cut (fun e wb=>∃ (p:Ad) (q:Nat),En e [(1,vI aG),(6,.pointer (some ⟨az,0,none⟩)),(8,.pointer (some ⟨R,0,none⟩)),(9,vI ak.1),(10,.pointer (some ⟨aM,0,none⟩)),(25,vI aH),(26,vI b.2.1)]∧St w0 [] wb [bx aM 45 (qH aI aK aJ aL au.1),sl aI aK au.1.ag,sl aJ aL au.1.gc.gQ,bx R 50 [vS av d.Pe.Pd.length ax,vS aw d.own.length ay,vS p ak.2.length q,vS g b.2.2.2.1.length k,vI b.2.2.2.2.1,vI b.2.2.2.2.2.1,vI b.2.2.2.2.2.2.1,vS j b.2.2.2.2.2.2.2.length l,vS u d.gR.length H,vI d.Pn,vI d.Pp,vI d.cd.gE,vI d.cd.gX,vI d.cd.g8,vI d.g5,vI d.Pm],sl av ax d.Pe.Pd,sl aw ay d.own,sl u H d.gR,bx az 50 [vS none 0 0,vS none 0 0,vS none 0 0,vS none 0 0,vI 0,vI 0,vI 0,vS none 0 0,vS none 0 0,vI 0,vI 0,vI 0,vI 0,vI 0,vI 0,vI 0],sl g k b.2.2.2.1,sl j l b.2.2.2.2.2.2.2,sl p q ak.2]) ?_ ?_
     · have h:=aR;refine CW.fl [1,6,8,9,10,11,25,26,36] fun e=>?_;refine gc h ?_ ?_<;>intro _ h
       · refine gb h fun ct aj h=>?_;obtain ⟨bN,b2,hae,bv,bw⟩:=ah.hZ (α:=gP) (i:=9) rfl aj;subst hae;refine go ?_;obtain ⟨bI,ai,bj⟩:=ah.freeze (α:=gP) 9 rfl;obtain ⟨bO,b3,bd,hae,bt,_,_,aP,bu⟩:=ai.ju.idx aj;cases hae;obtain ⟨bJ,bP,bK,bQ,bL,bR,rfl,bz,bA,bB⟩:=aP;refine T ?_;intro bT ci bk cj aN;refine dW ?_;have bl:=aN.drew;refine T ?_;intro cu bF h ck bm cv bG h bM bS cl bn cm aO;have bo:=aO.iD (α:=gP) 11 rfl ai;exact rt
       exact rt
     rintro e cn ⟨p,q,hE,bp⟩;obtain ⟨e,rfl⟩:=hE.out;have h:=a0;refine go ?_;refine T ?_;intro co bq;exact rt
   exact rt
 rintro e cp ⟨m,n,g,k,j,l,hE,br⟩;obtain ⟨e,rfl⟩:=hE.out;have h:=a1;refine T ?_;intro cq bs;exact rt
instance k_122:Ct prog 122:=⟨by kernel_rfl,@AI⟩
theorem EG {w0 N b aD r} (h:rv N b aD=some r) {g J p} (W:J=b.Pe.Pd.length) (aF:rb w0 g p b.Pe.Pd) {j K q} (X:K=b.own.length) (aG:rb w0 j q b.own) {k O x} (Y:O=b.Pg.length) (aH:rb w0 k x b.Pg) {l R z} (Z:R=b.py.ag.length) (ac:rb w0 l z b.py.ag) {m U A} (aa:U=b.py.gc.gQ.length) (aI:rb w0 m A b.py.gc.gQ) {n V B} (ab:V=b.gR.length) (aJ:rb w0 n B b.gR) :
    gV prog 222 #[.agg #[vS g J p,vS j K q,vS k O x,vS l R z,vI b.py.gc.Ph,vI b.py.gc.Pr,vI b.py.gc.Pj,vS m U A,vS n V B,vI b.Pn,vI b.Pp,vI b.cd.gE,vI b.cd.gX,vI b.cd.g8,vI b.g5,vI b.Pm],vI aD] w0 (fun v w=>∃ ad ae,v=vS ad r.length ae∧St w0 [] w [sl ad ae r]):=by
 subst W X Y Z aa ab;unfold rv at h;refine gV.fn func222 fun e=>?_;have bg:=St.start w0;refine T ?_;intro ai bz ax;refine LW.b0 (α:=Int) ax ?_;intro aK aL bA bi hf;refine T ?_;intro ap bk h ar au bB ay;refine go ?_;obtain ⟨bo,am,aw⟩:=ob h;refine CW.ie am 0 (fun C e wb=>∃ (d:Ad) (f:Nat),En e [(2,.pointer (some ⟨ai,0,none⟩)),(5,vS d C.1.length f),(11,vS ar ap.length au),(12,vI (ap.length:Int)),(13,vI C.2)]∧St w0 [] wb [sl ar au ap,sl d f C.1,bx ai 50 (qP g p j q k x l z m A n B b)]) ?_ ⟨aK,aL,ay.po [0,1,2]⟩ ?_
 · intro C e aC o hM h;obtain ⟨d,f,hE,af⟩:=hM;obtain ⟨e,rfl⟩:=hE.out;refine gc h ?_ ?_<;>intro _ h
   · refine gb h fun aE I h=>?_;obtain ⟨a9,bl,hae,aV,aX⟩:=af.hZ (α:=Int) (i:=0) rfl I;subst hae;refine go ?_;obtain ⟨aq,H,az⟩:=af.freeze (α:=Int) 0 rfl;obtain ⟨ba,bm,aM,hae,aR,_,_,aj,aT⟩:=H.ju.idx I;cases hae;obtain rfl:=aj;refine T ?_;obtain ⟨aB,ak,av⟩:=ob h;refine CW.jn [2,5,7,11,12,13] [0,1,2] [(31,.bool aB)] az (h1:=?_) (h2:=?_)
     · have h:=ak;refine gb h fun bu an h=>?_;obtain ⟨bb,bn,aN,rfl,aS,aW,aY,⟨a4,bc,a5,bd,a6,be,rfl,aZ,a0,a1⟩,aU⟩:=ac.idx an;refine go ?_;refine T ?_;refine bH h ?_ ?_<;>intro _ h
       · refine T ?_;intro bv a2 h bq bj;refine LW.u (il.fd Ew rfl rfl) rfl ?_;exact rt
       exact rt
     intro e br ah;have h:=av;refine jw [2,5,7,11,12,13,31] fun e=>?_;refine gc h ?_ ?_<;>intro _ h
     · refine gb h fun bw ao h=>?_;refine LW.kB (M:=[]) (L:=[fz aC aq,sl d f C.1,bx ai 50 (qP g p j q k x l z m A n B b)]) (vs:=#[vI aE]) (i:=1) pI rfl (by kernel_rfl) rfl rfl ao ah rfl (fun w G hG=>by cases (show G=[] from hG);exact ⟨rfl,rfl⟩) rfl rfl ?_;intro bp a8 bf bs aA hf;refine go ?_;have aO:=aA.iD (α:=Int) 0 rfl H;exact rt
     refine go ?_;have aP:=ah.iD (α:=Int) 0 rfl H;exact rt
   exact rt
 rintro e bt ⟨d,f,hE,aQ⟩;obtain ⟨e,rfl⟩:=hE.out;have h:=aw;exact rt
instance k_222:Ct prog 222:=⟨by kernel_rfl,@EG⟩
theorem FC {w0 N b R U r} (h:qp N b R U=some r) {d u l} (G:u=b.Pe.Pd.length) (V:rb w0 d l b.Pe.Pd) {f x m} (H:x=b.own.length) (W:rb w0 f m b.own) {g z n} (I:z=b.Pg.length) (X:rb w0 g n b.Pg) {i A o} (J:A=b.py.ag.length) (M:rb w0 i o b.py.ag) {j B p} (K:B=b.py.gc.gQ.length) (Y:rb w0 j p b.py.gc.gQ) {k C q} (L:C=b.gR.length) (Z:rb w0 k q b.gR) :
    gV prog 77 #[.agg #[vS d u l,vS f x m,vS g z n,vS i A o,vI b.py.gc.Ph,vI b.py.gc.Pr,vI b.py.gc.Pj,vS j B p,vS k C q,vI b.Pn,vI b.Pp,vI b.cd.gE,vI b.cd.gX,vI b.cd.g8,vI b.g5,vI b.Pm],vI R,vI U] w0 (fun v w=>v=.bool r∧St w0 [] w []):=by
 subst G H I J K L;unfold qp at h;refine gV.fn func77 fun e=>?_;have ar:=St.start w0;refine T ?_;intro aD aE au;refine T ?_;intro aH ax h aB aC aF av aI ay h aG aw;refine bH h ?_ ?_<;>intro _ h
 · refine gb h fun aA O h=>?_;obtain ⟨an,az,aa,rfl,ab,ad,ae,⟨aj,ao,ak,ap,am,aq,rfl,af,ah,ai⟩,ac⟩:=M.idx O;refine go ?_;refine T ?_;exact rt
 exact rt
instance k_77:Ct prog 77:=⟨by kernel_rfl,@FC⟩
end Go.Kx
