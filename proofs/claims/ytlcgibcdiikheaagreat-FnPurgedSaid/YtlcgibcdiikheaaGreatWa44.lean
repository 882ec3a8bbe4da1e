import Derived.Test.YtlcgibcdiikheaaGreatWa40
import Derived.Test.YtlcgibcdiikheaaGreatWa41
namespace Go.Kx
open Go Go.RowKit Go.Proofs
open Tryz
set_option maxRecDepth 10000
set_option maxHeartbeats 8000000
set_option linter.unusedVariables false
set_option linter.unusedSimpArgs false
theorem yJ {w0 N am R r} (h:nE N am R=some r) {p M q} (O:M=am.length) (n:rb w0 p q am) :
    gZ prog 272 #[vS p M q,vI R] w0 (fun v w=>∃ V W,v=.tuple #[vS V r.1.length W,.bool r.2]∧St w0 [] w [sl V W r.1]):=by
 subst O;unfold nE at h;refine gZ.fn func272 fun e=>?_;have a9:=St.start w0;refine T ?_;intro U bg h an g bO ar;obtain ⟨aY,av,aB⟩:=ob h;refine CW.jn [0,1,6] [0] [(20,.bool aY)] ar (h1:=?_) (h2:=?_)
 · have h:=av;refine T ?_;intro bQ bi h bP ba;refine bH h ?_ ?_<;>intro _ h
   · exact rt
   exact rt
 intro e bq au;have h:=aB;refine gc h ?_ ?_<;>intro _ h
 · exact rt
 refine gb h fun X aj h=>?_;obtain ⟨a0,bj,ay,rfl,aH,aN,aS,rfl,aK⟩:=n.idx aj;refine go ?_;refine T ?_;obtain ⟨L,ad,ao⟩:=ob h;refine CW.cut (fun e wb=>∃ (f:Nat),En e [(1,vI R),(6,vS an U.length g),(7,vI X.HO),(8,.pointer (some ⟨f,0,none⟩))]∧St w0 [] wb [sl an g U,bx f 48 [vI L.1,vI L.2.1,vI L.2.2]]) ?_ ?_
 · have h:=ad;refine dW ?_;have bb:=au.drew;refine gb h fun bG ak h=>?_;obtain ⟨a1,bk,az,hae,aI,aO,aT,ab,aL⟩:=n.idx ak;cases hae;obtain rfl:=ab;refine go ?_;refine T ?_;refine go ?_;refine T ?_;have ⟨bI,aX,h⟩:=ob h;refine AW.all (rs:=[10,14]) (by kernel_rfl) (by simp) ⟨?_,?_,trivial⟩
   · refine oA ?_;refine T ?_;intro br bc a7 bs bd bt be;exact rt
   refine oA ?_;refine T ?_;intro a8 bu bf;refine jP 10 ?_;refine T ?_;intro bv aC bw aD;exact rt
 rintro e bz ⟨f,hE,x⟩;obtain ⟨e,rfl⟩:=hE.out;have h:=ao;refine gb h fun bJ C h=>?_;obtain ⟨b,d,hae,aP,aU⟩:=x.im (α:=gW) (i:=0) rfl C;subst hae;refine go ?_;refine gb h fun bK m h=>?_;refine LW.se 2 x 0 C m (hM:=(kz (fun w cs F hF=>by obtain ⟨rfl,rfl⟩:=hF;exact ⟨rfl,rfl⟩))) fun bA z=>?_;refine jj [] #[.bool false,vI 0,vI 0,vI 0,vI 0] ?_;have ⟨bL,G,h⟩:=ob h;obtain ⟨a3,bl,hae,ah,ai⟩:=z.im (α:=gW) (i:=0) rfl G;cases hae;(try refine LW.u (iI.ix underlying40 Dy rfl rfl ah (by rw [ik (oi m)];exact ai)) rfl ?_);have ⟨Y,H,h⟩:=ob h;refine LW.se 0 z 0 G H (hM:=tG) fun bB Z=>?_;refine go ?_;obtain ⟨bp,af,aq⟩:=ob h;refine CW.ie af 0 (fun j e wb=>En e [(1,vI R),(6,vS (some ⟨b,d,none⟩) j.1.length g),(7,vI X.HO),(10,vI j.2)]∧St w0 [] wb [sl (some ⟨b,d,none⟩) g j.1]) ?_ ⟨⟨rfl,(show (vS (some ⟨b,d,none⟩) U.length g:Value)=vS (some ⟨b,d,none⟩) Y.length g by rw [show U.length=Y.length from ((ik (oi m)).trans (ik (oi H)))]),rfl,rfl,trivial⟩,Z.pk [0]⟩ ?_
 · intro j e bC o hM h;obtain ⟨e,rfl,k⟩:=eo hM;refine kI [1,6,7,10,53] fun e=>?_;refine gc h ?_ ?_<;>intro _ h
   · refine gs ?_;refine CW.block ?_;refine gs ?_;obtain ⟨aw,ae,ap⟩:=ob h;refine CW.jn [1,6,7,10] [0] [(69,.bool aw)] k (h1:=?_) (h2:=?_)
     · have h:=ae;refine gb h fun bM I h=>?_;obtain ⟨a4,bm,hae,aQ,aV⟩:=k.im (α:=gW) (i:=0) rfl I;cases hae;refine go ?_;obtain ⟨aZ,l,A⟩:=k.freeze (α:=gW) 0 rfl;obtain ⟨a5,bn,aA,hae,aJ,_,_,ac,aM⟩:=l.jB.idx I;cases hae;obtain rfl:=ac;refine T ?_;refine bH h ?_ ?_<;>intro _ h
       · refine go ?_;refine T ?_;have aE:=A.iH (α:=gW) 0 rfl l;exact rt
       refine go ?_;have aF:=A.iH (α:=gW) 0 rfl l;exact rt
     intro e bD B;have h:=ap;refine gc h ?_ ?_<;>intro _ h
     · refine gb h fun bN J h=>?_;obtain ⟨a6,bo,hae,aR,aW⟩:=B.im (α:=gW) (i:=0) rfl J;cases hae;refine go ?_;refine gb h fun ax K h=>?_;refine LW.se 1 B 0 J K (hM:=(kz (fun w cs F hF=>by obtain ⟨rfl,rfl⟩:=hF;exact ⟨rfl,rfl⟩))) fun bE aa=>?_;refine go ?_;replace h:=oi h;subst h;exact ⟨rfl,⟨⟨rfl,(show (vS (some ⟨b,d,none⟩) j.1.length g:Value)=vS (some ⟨b,d,none⟩) ax.length g by rw [ik (oi K)]),rfl,rfl,trivial⟩,aa.pk [0]⟩⟩
     exact rt
   exact rt
 rintro e bF ⟨hE,aG⟩;obtain ⟨e,rfl⟩:=hE.out;have h:=aq;exact rt
instance k_272:Ct prog 272:=⟨by kernel_rfl,@yJ⟩
theorem wS {w0} {F:List Nat} {N A r} (h:mB N A=some r) {I:Nat} {m n} (bc:iy (ja w0 F) w0 m n A.b) (hS:St w0 F w0 [bx I 177 [vS m A.b.length n,vI A.i,vI A.h]]) :
    gZ prog 212 #[.pointer (some ⟨I,0,none⟩)] w0 (fun v w=>∃ aE aH,v=vS aE r.1.length aH∧St w0 F w [sl aE aH r.1,bx I 177 [vS m A.b.length n,vI r.2.i,vI r.2.h]]):=by
 unfold mB at h;refine gZ.fn func212 fun e=>?_;refine T ?_;intro B bU h a3 p ce bR cf bV h b0 an;refine gc h ?_ ?_<;>intro _ h
 · refine go ?_;replace h:=oi h;subst h;have a6:=an.nil (α:=iu);exact Ra ⟨none,0,rfl,a6.pk [0,1]⟩
 refine gc h ?_ ?_<;>intro _ h
 · refine go ?_;obtain ⟨bW,a0,a5⟩:=ob h;refine CW.ie a0 1 (fun q e wb=>∃ (k:Ad) (l:Nat),En e [(0,.pointer (some ⟨I,0,none⟩)),(3,vS k q.1.length l)]∧St w0 F wb [bx I 177 [vS m A.b.length n,vI q.2.1,vI q.2.2],sl k l q.1]) ?_ ⟨a3,p,an.po [0,1]⟩ ?_
   · intro q e b1 o hM h;obtain ⟨k,l,hE,bS⟩:=hM;obtain ⟨e,rfl⟩:=hE.out;refine kI [0,3,14] fun e=>?_;refine gc h ?_ ?_<;>intro _ h
     · refine T ?_;intro g bv h O V R W b2 a7;have a8:=a7.pk (M:=[sl O V g.1.HB.Hz,sl R W g.1.own]++[bx I 177 [vS m A.b.length n,vI g.2.i,vI g.2.h],sl k l q.1]) [0,1,2,3];have ⟨ca,a2,h⟩:=ob h;refine LW.kr (M:=[sl O V g.1.HB.Hz,sl R W g.1.own]) (L:=[bx I 177 [vS m A.b.length n,vI g.2.i,vI g.2.h],sl k l q.1]) (vs:=#[vS O g.1.HB.Hz.length V,vS R g.1.own.length W,vI g.1.i7.gE,vI g.1.i7.gV,vI g.1.i7.hY]) (i:=1) EW rfl (by kernel_rfl) rfl rfl a2 a8 rfl (fun w G hG=>⟨O,V,R,W,rfl,hG⟩) rfl rfl ?_;intro bZ bJ bO b3 bT hf;exact rt
     exact rt
   rintro e b4 ⟨k,l,hE,a9⟩;obtain ⟨e,rfl⟩:=hE.out;have h:=a5;refine go ?_;replace h:=oi h;subst h;exact Ra ⟨k,l,rfl,a9.pk [1,0]⟩
 refine gc h ?_ ?_<;>intro _ h
 · refine T ?_;intro aa bw h aC aF b5 aI;have ⟨d,J,h⟩:=ob h;obtain ⟨ad,Y,hae,bn,bq⟩:=aI.im (α:=iu) (i:=2) rfl J;subst hae;refine go ?_;obtain ⟨bG,ao,ai⟩:=aI.freeze (α:=iu) 2 rfl;obtain ⟨bM,bX,bl,hae,aT,_,_,aV,aY⟩:=ao.jB.idx J;cases hae;obtain ⟨ac,ah,U,X,rfl,bt,bu⟩:=aV;have aZ:=fun (j:Nat) (u:Value) (hu:((qB ac ah U X d):List Value)[j]?=some u)=>(World.cell?_of_block (ai.zC 2 rfl aT)).trans (aY j u hu);have aK:=ai.iH (α:=iu) 2 rfl ao;obtain ⟨bf,a1,aX⟩:=aK.focus (α:=iu) (cs:=[vS ac d.HB.Hz.length ah,vS U d.own.length X,vI d.i7.gE,vI d.i7.gV,vI d.i7.hY]) 2 rfl J rfl aZ;obtain ⟨bK,bP,bL,bQ,aU,aJ⟩:=a1;cases aU;have aL:=aX [sl ac ah d.HB.Hz,sl U X d.own] aJ;refine LW.uQ (α:=iu) (vs:=[vS aC aa.1.Hz.length aF]) aL 4 rfl pS rfl (by show _=Y+(0:Int).toNat * 5+0;omega) rfl rfl rfl rfl ?_;intro b6 aM hf;refine go ?_;replace h:=oi h;subst h;have aN:=aM.n5 (iu.mk aa.1 d.own d.i7) [2,1,0,3,4] 2 2 rfl rfl (fun w G hG=>⟨aC,aF,U,X,rfl,hG⟩);exact Ra ⟨(some ⟨ad,Y,none⟩),p,(show (vS (some ⟨ad,Y,none⟩) B.1.length p:Value)=vS (some ⟨ad,Y,none⟩) ((B.1.set (0:Int).toNat (iu.mk aa.1 d.own d.i7)).length) p by rw [show B.1.length=(B.1.set (0:Int).toNat (iu.mk aa.1 d.own d.i7)).length from (ik rfl)]),aN.pk [2,1]⟩
 refine kI [0,3,7,27] fun e=>?_;refine gc h ?_ ?_<;>intro _ h
 · refine T ?_;intro cb bz h b7 aj;have ⟨cc,aq,h⟩:=ob h;obtain ⟨ae,au,hae,bo,br⟩:=aj.im (α:=iu) (i:=1) rfl aq;subst hae;refine go ?_;refine gb h fun ba ar h=>?_;refine LW.se 2 aj 1 aq ar (hM:=(kz (fun w cs F hF=>by obtain ⟨bB,bD,bC,bE,rfl,hH⟩:=hF;exact ⟨bB,bD,bC,bE,rfl,hH⟩))) fun b8 aO=>?_;refine go ?_;replace h:=oi h;subst h;exact Ra ⟨(some ⟨ae,au,none⟩),p,(show (vS (some ⟨ae,au,none⟩) B.1.length p:Value)=vS (some ⟨ae,au,none⟩) ba.length p by rw [ik (oi ar)]),aO.pk [1,0]⟩
 refine gc h ?_ ?_<;>intro _ h
 · refine T ?_;intro ab bA h aD aG b9 ak;have ⟨f,K,h⟩:=ob h;obtain ⟨af,Z,hae,bp,bs⟩:=ak.im (α:=iu) (i:=2) rfl K;subst hae;refine go ?_;obtain ⟨bI,ap,am⟩:=ak.freeze (α:=iu) 2 rfl;obtain ⟨bN,bY,bm,hae,aw,_,_,aW,az⟩:=ap.jB.idx K;cases hae;obtain ⟨x,z,C,H,rfl,bd,be⟩:=aW;have aA:=fun (j:Nat) (u:Value) (hu:((qB x z C H f):List Value)[j]?=some u)=>(World.cell?_of_block (am.zC 2 rfl aw)).trans (az j u hu);have aP:=am.iH (α:=iu) 2 rfl ap;obtain ⟨bb,aB,ay⟩:=aP.focus (α:=iu) (cs:=[vS x f.HB.Hz.length z,vS C f.own.length H,vI f.i7.gE,vI f.i7.gV,vI f.i7.hY]) 2 rfl K rfl aA;obtain ⟨bg,bj,bi,bk,ax,av⟩:=aB;cases ax;have aQ:=ay [sl x z f.HB.Hz,sl C H f.own] av;refine LW.uQ (α:=iu) (vs:=[vS aD ab.1.length aG]) aQ 4 rfl yF rfl (by show _=Z+(0:Int).toNat * 5+1;omega) rfl rfl rfl rfl ?_;intro bF aR hf;refine go ?_;replace h:=oi h;subst h;have aS:=aR.n5 (iu.mk f.HB ab.1 f.i7) [0,2,1,3,4] 2 2 rfl rfl (fun w G hG=>⟨x,z,aD,aG,rfl,hG⟩);exact Ra ⟨(some ⟨af,Z,none⟩),p,(show (vS (some ⟨af,Z,none⟩) B.1.length p:Value)=vS (some ⟨af,Z,none⟩) ((B.1.set (0:Int).toNat (iu.mk f.HB ab.1 f.i7)).length) p by rw [show B.1.length=(B.1.set (0:Int).toNat (iu.mk f.HB ab.1 f.i7)).length from (ik rfl)]),aS.pk [2,1]⟩
 refine go ?_;replace h:=oi h;subst h;exact Ra ⟨a3,p,rfl,an.pk [1,0]⟩
instance k_212:Ct prog 212:=⟨by kernel_rfl,@wS⟩
theorem BM {w0} {F:List Nat} {N I d X ae r} (h:lJ N I d X ae=some r) {H:Nat} {f j} (aq:iy (ja w0 F) w0 f j I.b) {l M z} (Y:M=d.HB.Hz.length) (ar:iy (ja w0 F) w0 l z d.HB.Hz) {m O A} (Z:O=d.own.length) (au:iy (ja w0 F) w0 m A d.own) {n R B} (aa:R=d.HC.length) (av:iy (ja w0 F) w0 n B d.HC) {g U k} (ab:U=d.py.ag.length) (K:iy (ja w0 F) w0 g k d.py.ag) {p V C} (ac:V=d.py.gc.gQ.length) (aw:iy (ja w0 F) w0 p C d.py.gc.gQ) {q W G} (ad:W=d.gR.length) (ax:iy (ja w0 F) w0 q G d.gR) (hS:St w0 F w0 [bx H 177 [vS f I.b.length j,vI I.i,vI I.h]]) :
    gZ prog 73 #[.pointer (some ⟨H,0,none⟩),.agg #[vS l M z,vS m O A,vS n R B,vS g U k,vI d.py.gc.HD,vI d.py.gc.HL,vI d.py.gc.HF,vS p V C,vS q W G,vI d.HH,vI d.HJ,vI d.gP.gE,vI d.gP.gV,vI d.gP.hY,vI d.g8,vI d.HG],vI X,vI ae] w0 (fun v w=>v=vI r.1∧St w0 F w [bx H 177 [vS f I.b.length j,vI r.2.i,vI r.2.h]]):=by
 subst Y Z aa ab ac ad;unfold lJ at h;refine gZ.fn func73 fun e=>?_;refine T ?_;intro L bo am;refine go ?_;obtain ⟨ah,ai,af⟩:=ob h;refine CW.it ai (fun J e wb=>En e [(0,.pointer (some ⟨H,0,none⟩)),(2,vI X),(3,vI ae),(5,.pointer (some ⟨L,0,none⟩)),(9,vS g d.py.ag.length k),(10,vI J.1)]∧St w0 F wb [bx L 50 (qP l z m A n B g k p C q G d),bx H 177 [vS f I.b.length j,vI J.2.1,vI J.2.2]]) (fun o x e wb=>match o with | .inl J=>x=.exit 0∧En e [(0,.pointer (some ⟨H,0,none⟩)),(2,vI X),(5,.pointer (some ⟨L,0,none⟩))]∧St w0 F wb [bx L 50 (qP l z m A n B g k p C q G d),bx H 177 [vS f I.b.length j,vI J.2.1,vI J.2.2]] | .inr r=>x=.ret∧∃ u,u=r∧∃ v,jM prog f73.results e wb v∧v=vI u.1∧St w0 F wb [bx H 177 [vS f I.b.length j,vI u.2.i,vI u.2.h]]) ?_ (am.po [0,1]) ?_
 · intro J e bp o hM h;obtain ⟨e,rfl,a5⟩:=eo hM;refine gc h ?_ ?_<;>intro _ h
   · refine gs ?_;refine CW.block ?_;refine gs ?_;obtain ⟨ak,ao,aA⟩:=ob h;refine CW.cut (fun e wb=>En e [(0,.pointer (some ⟨H,0,none⟩)),(2,vI X),(3,vI ae),(5,.pointer (some ⟨L,0,none⟩)),(9,vS g d.py.ag.length k),(10,vI J.1),(30,.bool ak.1)]∧St w0 F wb [bx L 50 (qP l z m A n B g k p C q G d),bx H 177 [vS f I.b.length j,vI ak.2.1,vI ak.2.2]]) ?_ ?_
     · have h:=ao;refine gb h fun bq ap h=>?_;obtain ⟨aX,bb,ay,rfl,aB,ba,aG,⟨aR,aZ,aS,a0,aT,a1,rfl,aI,aJ,aK⟩,aD⟩:=K.idx ap;refine go ?_;refine T ?_;refine bH h ?_ ?_<;>intro _ h
       · refine T ?_;intro bk aO h be a6;exact rt
       exact rt
     rintro e bf ⟨hE,a7⟩;obtain ⟨e,rfl⟩:=hE.out;have h:=aA;refine gc h ?_ ?_<;>intro _ h
     · refine gb h fun bl aj h=>?_;obtain ⟨aY,bc,az,rfl,aC,aF,aH,⟨aU,a2,aV,a3,aW,a4,rfl,aL,aM,aN⟩,aE⟩:=K.idx aj;refine go ?_;refine T ?_;intro bm aP h bg a8;exact rt
     exact rt
   exact rt
 intro x e bi hM;rcases ah with ah | bd
 · obtain ⟨rfl,hM⟩:=hM;obtain ⟨e,rfl,a9⟩:=eo hM;have h:=af;refine T ?_;intro bn aQ h bj an;replace h:=oi h;subst h;exact Ra ⟨rfl,an.pk [0]⟩
 obtain ⟨rfl,u,rfl,hM⟩:=hM;cases af;exact And.intro trivial hM
instance k_73:Ct prog 73:=⟨by kernel_rfl,@BM⟩
theorem rW {w0 N O B C r} (h:nG N O B C=some r) {m u p} (H:u=O.length) (ae:rb w0 m p O) {n x q} (I:x=B.length) (K:rb w0 n q B) {k z l} (J:z=C.Hz.length) (af:rb w0 k l C.Hz) :
    gZ prog 41 #[vS m u p,vS n x q,.agg #[vS k z l]] w0 (fun v w=>∃ R U,v=vS R r.length U∧St w0 [] w [sl R U r]):=by
 subst H I J;unfold nG at h;refine gZ.fn func41 fun e=>?_;have av:=St.start w0;refine T ?_;intro V aL aa;refine LW.b0 (α:=iq) aa ?_;intro ah ai aM ab hf;refine go ?_;obtain ⟨aC,W,Z⟩:=ob h;refine CW.ie W 0 (fun A e wb=>∃ (f:Ad) (g:Nat),En e [(0,vS m O.length p),(5,.pointer (some ⟨V,0,none⟩)),(7,vS f A.1.length g),(11,vS n B.length q),(12,vI (B.length:Int)),(13,vI A.2)]∧St w0 [] wb [sl f g A.1,bx V 39 [vS k C.Hz.length l]]) ?_ ⟨ah,ai,ab.po [0,1]⟩ ?_
 · intro A e aN o hM h;obtain ⟨f,g,hE,aw⟩:=hM;obtain ⟨e,rfl⟩:=hE.out;refine gc h ?_ ?_<;>intro _ h
   · refine gb h fun j ad h=>?_;obtain ⟨ar,aB,aj,rfl,ak,an,ao,rfl,am⟩:=K.idx ad;refine go ?_;refine T ?_;intro Y aE ax aF ay aJ ap h aG ac;refine CW.fl [0,5,7,9,11,12,13,20] fun e=>?_;refine gc h ?_ ?_<;>intro _ h
     · refine gb h fun aK X h=>?_;refine LW.kr (M:=[]) (L:=[bx Y 62 (qE j),sl f g A.1,bx V 39 [vS k C.Hz.length l]]) (vs:=#[vI j.HA,vI j.HS,vI j.jC,vI j.call.HA,vI j.call.a,vI j.call.b,vI j.call.c,vI j.call.d,vI j.call.e]) (i:=1) A8 rfl (by kernel_rfl) rfl rfl X ac rfl (fun w G hG=>by cases (show G=[] from hG);exact ⟨rfl,rfl⟩) rfl rfl ?_;intro aD aq au aH az hf;exact rt
     exact rt
   exact rt
 rintro e aI ⟨f,g,hE,aA⟩;obtain ⟨e,rfl⟩:=hE.out;have h:=Z;exact rt
instance k_41:Ct prog 41:=⟨by kernel_rfl,@rW⟩
end Go.Kx
