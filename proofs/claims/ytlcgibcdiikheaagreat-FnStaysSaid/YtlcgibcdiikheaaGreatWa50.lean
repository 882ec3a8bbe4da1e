import Derived.Test.YtlcgibcdiikheaaGreatWa46
import Derived.Test.YtlcgibcdiikheaaGreatWa47
namespace Go.Kx
open Go Go.RowKit Go.Proofs
open Tryz
set_option maxRecDepth 10000
set_option maxHeartbeats 8000000
set_option linter.unusedVariables false
set_option linter.unusedSimpArgs false
theorem Fp {w0 N z aw r} (h:rS N z aw=some r) {q am x} (ao:am=z.parts.length) (av:rb w0 q x z.parts) :
    g8 prog 119 #[.agg #[vI z.Q1,vS q am x],vI aw] w0 (fun v w=>∃ R U,v=.agg #[vI r.Q1,vS R r.parts.length U]∧St w0 [] w [sl R U r.parts]):=by
 subst ao;unfold rS at h;refine g8.fn func119 fun e=>?_;have cW:=St.start w0;refine T ?_;intro ab dp cX A dq cY f c3 h p m dr cZ B c8 c0 c9 bc;obtain ⟨bf,aN,bb⟩:=ob h;refine CW.jn [1,2,4,5] [0,1,2,3] [(23,.bool bf)] bc (h1:=?_) (h2:=?_)
 · have h:=aN;refine T ?_;intro dk cb h da c1;refine bH h ?_ ?_<;>intro _ h
   · exact rt
   refine T ?_;intro dl cc h db c2;exact rt
 intro e dc be;have h:=bb;refine gc h ?_ ?_<;>intro _ h
 · refine T ?_;intro dd bF;exact rt
 refine go ?_;refine LW.b0 (α:=kl) be ?_;intro ax ay de aB hf;refine go ?_;obtain ⟨hgd,h⟩:=DK h;simp only [Rg,decide_eq_true_eq] at hgd;have aC:=aB.pk (M:=[sl p m f.parts]++[sl ax ay ([]:List kl),bx B 26 [vI f.Q1,vS p f.parts.length m],bx A 26 [vI 0,vS none 0 0],bx ab 26 [vI z.Q1,vS q z.parts.length x]]) [2,0,1,3,4];obtain ⟨hds,hl,K⟩:=aC.Kq;obtain ⟨pv,hpv⟩:∃ pv,pv=List.zipWith tN f.parts hds:=⟨_,rfl⟩;rw [← hpv] at K;have hhs:hds.length=f.parts.length:=by have:=hl.len;rwa [List.length_map] at this
 have hpl:f.parts.length=pv.length:=by rw [hpv];exact (BV hl).symm
 rw [hpl] at K;obtain ⟨Z,aO,hoeo64⟩:=Et hpl (by rw [← hpl];exact hgd.1) (by rw [← hpl];exact hgd.2);refine CW.ie aO 0 (fun J e wb=>∃ (g:Ad) (j:Nat),En e [(1,vI aw),(2,.pointer (some ⟨ab,0,none⟩)),(4,.pointer (some ⟨A,0,none⟩)),(5,.pointer (some ⟨B,0,none⟩)),(6,vS g J.1.length j),(27,vS p f.parts.length m),(28,vI (f.parts.length:Int)),(29,vI J.2)]∧St w0 [] wb [sl p m pv,tl hds (kr f.parts),sl g j J.1,bx B 26 [vI f.Q1,vS p pv.length m],bx A 26 [vI 0,vS none 0 0],bx ab 26 [vI z.Q1,vS q z.parts.length x]]) ?_ ⟨ax,ay,K.po [0,1,2,3,4,5]⟩ ?_
 · intro J e bi o hM h;obtain ⟨g,j,hE,ac⟩:=hM;obtain ⟨e,rfl⟩:=hE.out;refine kS [1,2,4,5,6,27,28,29,30] fun e=>?_;refine gc h ?_ ?_<;>intro _ h
   · refine gb h fun b ak h=>?_;obtain ⟨a2,bg,hae,aP,aQ⟩:=ac.iu (α:=jS) (i:=0) rfl ak;subst hae;(try refine LW.u (iM.ix underlying24 OG rfl rfl aP (by rw [show f.parts.length=pv.length from hpl];exact aQ)) rfl ?_);obtain ⟨aV,aj,bG⟩:=ac.freeze (α:=jS) 0 rfl;obtain ⟨cO,c4,bB,hae,bS,_,_,aM,bU⟩:=aj.j5.idx ak;cases hae;obtain ⟨aW,a3,aX,a4,aY,a5,aZ,a7,a0,a8,rfl,b1,b2,b3,b4,b5⟩:=aM;refine T ?_;intro ba df bI dg aD;refine LW.bd [(0,vS b.QR.a b.QR.n b.QR.c)] #[vS b.QR.a b.QR.n b.QR.c] ?_;have ⟨dm,aS,h⟩:=ob h;refine LW.kX (M:=[]) (L:=[bx ba 50 [vS aW b.QQ.so.length a3,vS aX b.own.length a4,vS b.QR.a b.QR.n b.QR.c,vS aY b.heap.ag.length a5,vI b.heap.gc.QS,vI b.heap.gc.Q0,vI b.heap.gc.QT,vS aZ b.heap.gc.gQ.length a7,vS a0 b.gR.length a8,vI b.QZ,vI b.QY,vI b.gP.bh,vI b.gP.gS,vI b.gP.gW,vI b.hY,vI b.QX],fz bi aV,tl hds (kr f.parts),sl g j J.1,bx B 26 [vI f.Q1,vS (some ⟨a2,bg,none⟩) pv.length m],bx A 26 [vI 0,vS none 0 0],bx ab 26 [vI z.Q1,vS q z.parts.length x]]) (vs:=#[vS b.QR.a b.QR.n b.QR.c]) (i:=3) Jx rfl (by kernel_rfl) rfl rfl aS aD rfl (fun w G hG=>by cases (show G=[] from hG);exact ⟨rfl,rfl⟩) rfl rfl ?_;intro c6 cI cQ dh aE hf;refine go ?_;have bJ:=aE.iJ (α:=jS) 1 rfl aj;exact rt
   exact rt
 rintro e di ⟨g,j,hE,ad⟩;obtain ⟨e,rfl⟩:=hE.out;rw [show Z.1=hds.map kl.mk from by rw [hoeo64,hpv];exact BZ hhs] at ad;have aF:=ad.pk (M:=[sl g j (hds.map kl.mk),tl hds (kr f.parts)]++[sl p m pv,bx B 26 [vI f.Q1,vS p pv.length m],bx A 26 [vI 0,vS none 0 0],bx ab 26 [vI z.Q1,vS q z.parts.length x]]) [2,1,0,3,4,5];have aG:=aF.JT hl;have htl:Z.1.length=(j6 f.parts).length:=by rw [hoeo64];simp [j6,kr,hpl]
 refine gb h fun az aT h=>?_;obtain ⟨cP,c5,bC,rfl,bT,bW,bY,⟨cJ,cR,cK,cS,cL,cT,cM,cU,cN,cV,a1,a9,rfl,b6,b7,b8,b9,ca,aR⟩,bV⟩:=av.idx aT;refine go ?_;refine T ?_;refine go ?_;obtain ⟨d,ap,aA⟩:=ob h;refine CW.ie ap 2 (fun aa e wb=>∃ (k:Ad) (l:Nat),En e [(1,vI aw),(4,.pointer (some ⟨A,0,none⟩)),(5,.pointer (some ⟨B,0,none⟩)),(6,vS k aa.1.length l),(45,vS a1 az.gR.length a9),(46,vI (az.gR.length:Int)),(47,vI aa.2)]∧St w0 [] wb [sl p m pv,bx B 26 [vI f.Q1,vS p pv.length m],bx A 26 [vI 0,vS none 0 0],sl k l aa.1]) ?_ ⟨g,j,⟨rfl,rfl,rfl,(show (vS g Z.1.length j:Value)=vS g ((j6 f.parts).length) j by rw [show Z.1.length=(j6 f.parts).length from htl]),rfl,rfl,rfl,trivial⟩,aG.pk [1,2,3,0]⟩ ?_
 · intro aa e dj o hM h;obtain ⟨k,l,hE,bK⟩:=hM;obtain ⟨e,rfl⟩:=hE.out;refine kS [1,4,5,6,45,46,47,48] fun e=>?_;refine gc h ?_ ?_<;>intro _ h
   · refine gb h fun dn aU h=>?_;obtain ⟨bu,ce,bj,rfl,bl,bX,bZ,rfl,bn⟩:=aR.idx aU;refine go ?_;refine T ?_;intro bD cu bL cv bM cE br h bt bA cw bN;exact rt
   exact rt
 rintro e cx ⟨k,l,hE,aH⟩;obtain ⟨e,rfl⟩:=hE.out;have h:=aA;refine go ?_;obtain ⟨C,h⟩:=DK h;have C:=of_decide_eq_true C;have aI:=aH.pk (M:=[sl k l d.1]++[sl p m pv,bx B 26 [vI f.Q1,vS p pv.length m],bx A 26 [vI 0,vS none 0 0]]) [3,0,1,2];obtain ⟨ht,hlt,ae⟩:=aI.O4;have hht:ht.length=d.1.length:=by have:=hlt.len;rwa [List.length_map] at this
 obtain ⟨tv,htv⟩:∃ tv,tv=ht.map kl.mk:=⟨_,rfl⟩;rw [← htv] at ae;have O:d.1.length=tv.length:=by rw [htv,List.length_map,hht]
 have htp:tv.length=pv.length:=O.symm.trans (C.trans hpl);obtain ⟨H,aq,hoeo143⟩:=Ny (n:=d.1.length) O htp (by rw [htp, ← hpl];exact hgd.1) (by rw [htp, ← hpl];exact hgd.2);refine CW.ie aq 4 (fun I e wb=>En e [(4,.pointer (some ⟨A,0,none⟩)),(5,.pointer (some ⟨B,0,none⟩)),(59,vS k d.1.length l),(60,vI (d.1.length:Int)),(61,vI I.2)]∧St w0 [] wb [sl k l tv,tl ht (jf d.1),sl p m I.1,bx B 26 [vI f.Q1,vS p I.1.length m],bx A 26 [vI 0,vS none 0 0]]) ?_ (ae.po [0,1,2,3,4]) ?_
 · intro I e cy o hM h;obtain ⟨e,rfl,af⟩:=eo hM;refine kS [4,5,59,60,61,62] fun e=>?_;refine gc h ?_ ?_<;>intro _ h
   · refine gb h fun cF W h=>?_;obtain ⟨bv,cf,hae,ar,au⟩:=af.iu (α:=kl) (i:=0) rfl W;subst hae;(try refine LW.u (iM.ix underlying226 zP rfl rfl ar (by rw [show d.1.length=tv.length from O];exact au)) rfl ?_);obtain ⟨bs,V,bO⟩:=af.freeze (α:=kl) 0 rfl;obtain ⟨bw,cg,bk,hae,bm,_,_,an,bo⟩:=V.j5.idx W;cases hae;obtain rfl:=an;refine T ?_;intro bE cz bP cA ah;have ⟨cG,X,h⟩:=ob h;obtain ⟨bz,ci,hae,bp,bq⟩:=ah.iu (α:=jS) (i:=3) rfl X;subst hae;refine go ?_;refine gb h fun cH Y h=>?_;refine LW.se 2 ah 3 X Y (hM:=(kR (fun w cs F hF=>by obtain ⟨cj,co,ck,cp,cl,cq,cm,cr,cn,ct,rfl,hH⟩:=hF;exact ⟨cj,co,ck,cp,cl,cq,cm,cr,cn,ct,rfl,hH⟩))) fun cB ai=>?_;refine go ?_;rw [iv (oi Y)] at ai;have bQ:=ai.iJ (α:=kl) 1 rfl V;exact rt
   exact rt
 rintro e cC ⟨hE,aJ⟩;obtain ⟨e,rfl⟩:=hE.out;have hpe:List.zipWith wK H.1 (jf d.1)=(je f.parts (jf d.1)):=by rw [hoeo143,htv,hpv];exact HJ hhs (hht.trans C)
 have hol:H.1.length=(je f.parts (jf d.1)).length:=by rw [zz (show (jf d.1).length=f.parts.length by unfold jf;rw [List.length_map];exact C),hoeo143,List.length_zipWith,htp,Nat.min_self,hpl]
 have aK:=aJ.pk (M:=[sl p m H.1,tl ht (jf d.1)]++[sl k l tv,bx B 26 [vI f.Q1,vS p H.1.length m],bx A 26 [vI 0,vS none 0 0]]) [2,1,0,3,4];have aL:=aK.Jk (by rw [hoeo143,htv];exact KK (by rw [hht,C,hpl])) hlt;rw [hpe,hol] at aL;refine go ?_;refine T ?_;intro cD bR;exact rt
instance k_119:Ct prog 119:=⟨by kernel_rfl,@Fp⟩
theorem HY {w0 N b ah r} (h:vb N b ah=some r) {f G n} (O:G=b.QQ.so.length) (ai:rb w0 f n b.QQ.so) {g H p} (R:H=b.own.length) (aj:rb w0 g p b.own) {j I q} (U:I=b.QR.length) (ak:rb w0 j q b.QR) {k J z} (V:J=b.heap.ag.length) (am:rb w0 k z b.heap.ag) {l K A} (W:K=b.heap.gc.gQ.length) (an:rb w0 l A b.heap.gc.gQ) {m L B} (X:L=b.gR.length) (ao:rb w0 m B b.gR) :
    g8 prog 217 #[.agg #[vS f G n,vS g H p,vS j I q,vS k J z,vI b.heap.gc.QS,vI b.heap.gc.Q0,vI b.heap.gc.QT,vS l K A,vS m L B,vI b.QZ,vI b.QY,vI b.gP.bh,vI b.gP.gS,vI b.gP.gW,vI b.hY,vI b.QX],vI ah] w0 (fun v w=>v=vI r∧St w0 [] w []):=by
 subst O R U V W X;unfold vb at h;refine g8.fn func217 fun e=>?_;have aH:=St.start w0;refine T ?_;intro a3 a5 aI a7 aO h a1 a2 a6 Y;refine gc h ?_ ?_<;>intro _ h
 · exact rt
 refine gb h fun a8 Z h=>?_;obtain ⟨aD,aP,hae,aN,ay⟩:=Y.iu (α:=Int) (i:=0) rfl Z;subst hae;refine go ?_;obtain ⟨aC,d,ae⟩:=Y.freeze (α:=Int) 0 rfl;obtain ⟨aE,aQ,ap,hae,ar,_,_,aa,av⟩:=d.j5.idx Z;cases hae;obtain rfl:=aa;refine T ?_;refine go ?_;obtain ⟨aT,ac,ad⟩:=ob h;refine CW.mono (CW.lb [2,18,19] [0,1] [6] 0 (fun M=>[(6,vI M.1),(20,vI M.2)]) ae ac (hb:=?_)) ?_
 · intro M e aU o af h;refine kS [2,6,18,19,20,21] fun e=>?_;refine gc h ?_ ?_<;>intro _ h
   · refine gb h fun aY C h=>?_;obtain ⟨aF,aR,hae,ax,az⟩:=d.iu C;cases hae;refine go ?_;obtain ⟨aG,aS,aq,hae,au,_,_,ab,aw⟩:=d.j5.idx C;cases hae;obtain rfl:=ab;refine T ?_;refine dW ?_;have aJ:=af.drew;refine go ?_;refine jP 2 ?_;refine T ?_;intro aZ aA h aV aK;refine AW.u (i:=3) rfl (by kernel_rfl) rfl rfl (iM.fd EM rfl rfl) ?_;refine T ?_;intro a0 aB h aW aL;refine AW.u (i:=7) rfl (by kernel_rfl) rfl rfl (iM.fd EM rfl rfl) ?_;refine gc h ?_ ?_<;>intro _ h
     · exact rt
     exact rt
   exact rt
 intro x e aX hM;obtain ⟨rfl,hM⟩:=hM;obtain ⟨e,rfl,aM⟩:=eo hM;have h:=ad;exact rt
instance k_217:Ct prog 217:=⟨by kernel_rfl,@HY⟩
theorem Bz {w0 N f aG aH r} (h:pt N f aG aH=some r) {U am aa} (aA:am=f.QQ.so.length) (a5:rb w0 U aa f.QQ.so) {V an ab} (aB:an=f.own.length) (a7:rb w0 V ab f.own) {W ao ac} (aC:ao=f.QR.length) (a9:rb w0 W ac f.QR) {X ap ad} (aD:ap=f.heap.ag.length) (ba:rb w0 X ad f.heap.ag) {Y aq ae} (aE:aq=f.heap.gc.gQ.length) (bb:rb w0 Y ae f.heap.gc.gQ) {Z ar af} (aF:ar=f.gR.length) (bc:rb w0 Z af f.gR) :
    g8 prog 122 #[.agg #[vS U am aa,vS V an ab,vS W ao ac,vS X ap ad,vI f.heap.gc.QS,vI f.heap.gc.Q0,vI f.heap.gc.QT,vS Y aq ae,vS Z ar af,vI f.QZ,vI f.QY,vI f.gP.bh,vI f.gP.gS,vI f.gP.gW,vI f.hY,vI f.QX],vI aG,vI aH] w0 (fun v w=>∃ x I, ∃ z J, ∃ A K, ∃ B L, ∃ C M, ∃ G O,v=.tuple #[.agg #[vS x r.1.QQ.so.length I,vS z r.1.own.length J,vS A r.1.QR.length K,vS B r.1.heap.ag.length L,vI r.1.heap.gc.QS,vI r.1.heap.gc.Q0,vI r.1.heap.gc.QT,vS C r.1.heap.gc.gQ.length M,vS G r.1.gR.length O,vI r.1.QZ,vI r.1.QY,vI r.1.gP.bh,vI r.1.gP.gS,vI r.1.gP.gW,vI r.1.hY,vI r.1.QX],vI r.2]∧St w0 [] w [sl x I r.1.QQ.so,sl z J r.1.own,sl A K r.1.QR,sl B L r.1.heap.ag,sl C M r.1.heap.gc.gQ,sl G O r.1.gR]):=by
 subst aA aB aC aD aE aF;unfold pt at h;refine g8.fn func122 fun e=>?_;have bU:=St.start w0;refine T ?_;intro cw cx bV az cy bW d b1 h av ax aw ay aT aW aU aX aV aY u H b5 bX R b6 bY b7 a2;obtain ⟨a4,aQ,aZ⟩:=ob h;refine CW.jn [1,2,6,8,9] [0,1,2,3,4,5,6,7] [(22,.bool a4)] a2 (h1:=?_) (h2:=?_)
 · have h:=aQ;refine T ?_;intro cr bC h b8 bZ;refine bH h ?_ ?_<;>intro _ h
   · exact rt
   refine T ?_;intro cs bD h b9 b0;exact rt
 intro e ca a3;have h:=aZ;refine gc h ?_ ?_<;>intro _ h
 · refine T ?_;intro cb be;exact rt
 refine go ?_;obtain ⟨b4,aS,a1⟩:=ob h;refine CW.ie aS 0 (fun b e wb=>∃ (m:Ad) (n:Nat) (g:Ad) (k:Nat) (j:Ad) (l:Nat),En e [(1,vI aG),(6,.pointer (some ⟨az,0,none⟩)),(8,.pointer (some ⟨R,0,none⟩)),(9,vI b.1),(25,vI aH),(26,vI b.2.1)]∧St w0 [] wb [bx R 50 [vS av d.QQ.so.length ax,vS aw d.own.length ay,vS m b.2.2.1.length n,vS g b.2.2.2.1.length k,vI b.2.2.2.2.1,vI b.2.2.2.2.2.1,vI b.2.2.2.2.2.2.1,vS j b.2.2.2.2.2.2.2.length l,vS u d.gR.length H,vI d.QZ,vI d.QY,vI d.gP.bh,vI d.gP.gS,vI d.gP.gW,vI d.hY,vI d.QX],sl av ax d.QQ.so,sl aw ay d.own,sl u H d.gR,bx az 50 [vS none 0 0,vS none 0 0,vS none 0 0,vS none 0 0,vI 0,vI 0,vI 0,vS none 0 0,vS none 0 0,vI 0,vI 0,vI 0,vI 0,vI 0,vI 0,vI 0],sl m n b.2.2.1,sl g k b.2.2.2.1,sl j l b.2.2.2.2.2.2.2]) ?_ ⟨aT,aW,aU,aX,aV,aY,a3.po [0,1,2,6,7,3,4,5]⟩ ?_
 · intro b e cc o hM h;obtain ⟨m,n,g,k,j,l,hE,bf⟩:=hM;obtain ⟨e,rfl⟩:=hE.out;refine gc h ?_ ?_<;>intro _ h
   · refine T ?_;intro au bE h aI aK aJ aL ce bg aM cf bi cg ah;obtain ⟨ak,aR,a0⟩:=ob h;refine CW.cut (fun e wb=>∃ (p:Ad) (q:Nat),En e [(1,vI aG),(6,.pointer (some ⟨az,0,none⟩)),(8,.pointer (some ⟨R,0,none⟩)),(9,vI ak.1),(10,.pointer (some ⟨aM,0,none⟩)),(25,vI aH),(26,vI b.2.1)]∧St w0 [] wb [bx aM 45 (qH aI aK aJ aL au.1),sl aI aK au.1.ag,sl aJ aL au.1.gc.gQ,bx R 50 [vS av d.QQ.so.length ax,vS aw d.own.length ay,vS p ak.2.length q,vS g b.2.2.2.1.length k,vI b.2.2.2.2.1,vI b.2.2.2.2.2.1,vI b.2.2.2.2.2.2.1,vS j b.2.2.2.2.2.2.2.length l,vS u d.gR.length H,vI d.QZ,vI d.QY,vI d.gP.bh,vI d.gP.gS,vI d.gP.gW,vI d.hY,vI d.QX],sl av ax d.QQ.so,sl aw ay d.own,sl u H d.gR,bx az 50 [vS none 0 0,vS none 0 0,vS none 0 0,vS none 0 0,vI 0,vI 0,vI 0,vS none 0 0,vS none 0 0,vI 0,vI 0,vI 0,vI 0,vI 0,vI 0,vI 0],sl g k b.2.2.2.1,sl j l b.2.2.2.2.2.2.2,sl p q ak.2]) ?_ ?_
     · have h:=aR;refine CW.fl [1,6,8,9,10,11,25,26,36] fun e=>?_;refine gc h ?_ ?_<;>intro _ h
       · refine gb h fun ct aj h=>?_;obtain ⟨bN,b2,hae,bv,bw⟩:=ah.iu (α:=gE) (i:=9) rfl aj;subst hae;refine go ?_;obtain ⟨bI,ai,bj⟩:=ah.freeze (α:=gE) 9 rfl;obtain ⟨bO,b3,bd,hae,bt,_,_,aP,bu⟩:=ai.j5.idx aj;cases hae;obtain ⟨bJ,bP,bK,bQ,bL,bR,rfl,bz,bA,bB⟩:=aP;refine T ?_;intro bT ci bk cj aN;refine dW ?_;have bl:=aN.drew;refine T ?_;intro cu bF h ck bm cv bG h bM bS cl bn cm aO;have bo:=aO.iJ (α:=gE) 11 rfl ai;exact rt
       exact rt
     rintro e cn ⟨p,q,hE,bp⟩;obtain ⟨e,rfl⟩:=hE.out;have h:=a0;refine go ?_;refine T ?_;intro co bq;exact rt
   exact rt
 rintro e cp ⟨m,n,g,k,j,l,hE,br⟩;obtain ⟨e,rfl⟩:=hE.out;have h:=a1;refine T ?_;intro cq bs;exact rt
instance k_122:Ct prog 122:=⟨by kernel_rfl,@Bz⟩
theorem Ff {w0 N b aD r} (h:rL N b aD=some r) {g J p} (W:J=b.QQ.so.length) (aF:rb w0 g p b.QQ.so) {j K q} (X:K=b.own.length) (aG:rb w0 j q b.own) {k O x} (Y:O=b.QR.length) (aH:rb w0 k x b.QR) {l R z} (Z:R=b.heap.ag.length) (ac:rb w0 l z b.heap.ag) {m U A} (aa:U=b.heap.gc.gQ.length) (aI:rb w0 m A b.heap.gc.gQ) {n V B} (ab:V=b.gR.length) (aJ:rb w0 n B b.gR) :
    g8 prog 222 #[.agg #[vS g J p,vS j K q,vS k O x,vS l R z,vI b.heap.gc.QS,vI b.heap.gc.Q0,vI b.heap.gc.QT,vS m U A,vS n V B,vI b.QZ,vI b.QY,vI b.gP.bh,vI b.gP.gS,vI b.gP.gW,vI b.hY,vI b.QX],vI aD] w0 (fun v w=>∃ ad ae,v=vS ad r.length ae∧St w0 [] w [sl ad ae r]):=by
 subst W X Y Z aa ab;unfold rL at h;refine g8.fn func222 fun e=>?_;have bg:=St.start w0;refine T ?_;intro ai bz ax;refine LW.b0 (α:=Int) ax ?_;intro aK aL bA bi hf;refine T ?_;intro ap bk h ar au bB ay;refine go ?_;obtain ⟨bo,am,aw⟩:=ob h;refine CW.ie am 0 (fun C e wb=>∃ (d:Ad) (f:Nat),En e [(2,.pointer (some ⟨ai,0,none⟩)),(5,vS d C.1.length f),(11,vS ar ap.length au),(12,vI (ap.length:Int)),(13,vI C.2)]∧St w0 [] wb [sl ar au ap,sl d f C.1,bx ai 50 (qP g p j q k x l z m A n B b)]) ?_ ⟨aK,aL,ay.po [0,1,2]⟩ ?_
 · intro C e aC o hM h;obtain ⟨d,f,hE,af⟩:=hM;obtain ⟨e,rfl⟩:=hE.out;refine gc h ?_ ?_<;>intro _ h
   · refine gb h fun aE I h=>?_;obtain ⟨a9,bl,hae,aV,aX⟩:=af.iu (α:=Int) (i:=0) rfl I;subst hae;refine go ?_;obtain ⟨aq,H,az⟩:=af.freeze (α:=Int) 0 rfl;obtain ⟨ba,bm,aM,hae,aR,_,_,aj,aT⟩:=H.j5.idx I;cases hae;obtain rfl:=aj;refine T ?_;obtain ⟨aB,ak,av⟩:=ob h;refine CW.jn [2,5,7,11,12,13] [0,1,2] [(31,.bool aB)] az (h1:=?_) (h2:=?_)
     · have h:=ak;refine gb h fun bu an h=>?_;obtain ⟨bb,bn,aN,rfl,aS,aW,aY,⟨a4,bc,a5,bd,a6,be,rfl,aZ,a0,a1⟩,aU⟩:=ac.idx an;refine go ?_;refine T ?_;refine bH h ?_ ?_<;>intro _ h
       · refine T ?_;intro bv a2 h bq bj;refine LW.u (iM.fd EM rfl rfl) rfl ?_;exact rt
       exact rt
     intro e br ah;have h:=av;refine kS [2,5,7,11,12,13,31] fun e=>?_;refine gc h ?_ ?_<;>intro _ h
     · refine gb h fun bw ao h=>?_;refine LW.kX (M:=[]) (L:=[fz aC aq,sl d f C.1,bx ai 50 (qP g p j q k x l z m A n B b)]) (vs:=#[vI aE]) (i:=1) oL rfl (by kernel_rfl) rfl rfl ao ah rfl (fun w G hG=>by cases (show G=[] from hG);exact ⟨rfl,rfl⟩) rfl rfl ?_;intro bp a8 bf bs aA hf;refine go ?_;have aO:=aA.iJ (α:=Int) 0 rfl H;exact rt
     refine go ?_;have aP:=ah.iJ (α:=Int) 0 rfl H;exact rt
   exact rt
 rintro e bt ⟨d,f,hE,aQ⟩;obtain ⟨e,rfl⟩:=hE.out;have h:=aw;exact rt
instance k_222:Ct prog 222:=⟨by kernel_rfl,@Ff⟩
end Go.Kx
