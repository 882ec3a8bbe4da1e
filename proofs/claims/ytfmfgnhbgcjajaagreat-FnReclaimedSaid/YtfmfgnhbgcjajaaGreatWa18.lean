import Derived.Test.YtfmfgnhbgcjajaaGreatWa15
import Derived.Test.YtfmfgnhbgcjajaaGreatWa16
import Derived.Test.YtfmfgnhbgcjajaaGreatWa17
namespace Go.Kx
open Go Go.RowKit Go.Proofs
open Tryz
set_option maxRecDepth 10000
set_option maxHeartbeats 8000000
set_option linter.unusedVariables false
set_option linter.unusedSimpArgs false
theorem DB{w0 N am an aF aG r}(h:oV N am an aF aG=some r){ad ai ae}(aj:ai=am.parts.length)(ak:rb w0 ad ae am.parts):
    dj prog 75 #[.agg #[vI am.Rn,vS ad ai ae],vI an,vI aF,.agg (uL aG)] w0 (fun v w=>∃X Y,v=.tuple #[.agg #[vI r.1.Rn,vS X r.1.parts.length Y],.agg #[vI r.2.code,vI r.2.Rz]]/\St w0 [] w [sl X Y r.1.parts]):=by
 subst aj;unfold oV at h;refine dj.fS func75 fun e _=>?_;refine T ?_;intro _ _ _ _ _ _ ab _ _ ac _ _ W _ h ao K _ _ O _ _ _ aD;obtain⟨aE,av,aB⟩:=ob h;refine CW.jn [1,2,4,7,8,9,10] [0,1,2,3,4,5] [(26,.bool aE)] aD (h1:=?_) (h2:=?_)
 · have h:=av;exact wk
 intro e _ aq;have h:=aB;refine gc h ?_ ?_<;>intro _ h
 · refine fD [(0,vI 2)] #[vI 2,vI 0] ?_;exact wk
 refine gP ?_;have:=aq.drew;refine gb h fun _ ay h=>?_;obtain⟨_,_,_,rfl,_,_,_,⟨_,_,_,_,_,_,_,_,_,_,_,_,rfl,_,_,_,_,_,_⟩,_⟩:=ak.idx ay;refine go ?_;refine T ?_;intro _ _ h _ _;refine gc h ?_ ?_<;>intro _ h
 · refine fD [(0,vI 1)] #[vI 1,vI 0] ?_;exact wk
 refine T ?_;intro _ _ h _ ar;refine CW.fl [1,2,4,7,8,9,10,11,46] fun e=>?_;refine gc h ?_ ?_<;>intro _ h
 · refine fD [(0,vI 2)] #[vI 2,vI 0] ?_;exact wk
 refine gs ?_;refine CW.region ?_;refine gs ?_;refine CW.region ?_;refine gs ?_;obtain⟨az,aw,ap⟩:=ob h;refine CW.cut (fun e wb=>∃B,az=.inl B/\∃(U:Ad) (V:Nat),En e [(8,.pointer (some ⟨ab,0,none⟩)),(9,.pointer (some ⟨ac,0,none⟩)),(10,.pointer (some ⟨O,0,none⟩)),(12,vI B.1),(13,vI B.2.1)]/\St w0 [] wb [bx O 40 [vI B.2.2.1,vS U B.2.2.2.length V],bx ac 78 [vI 0,vI 0],bx ab 40 [vI 0,vS none 0 0],sl U V B.2.2.2]) ?_ ?_
 · have h:=aw;refine gc h ?_ ?_<;>intro _ h
   · exact wk
   refine gc h ?_ ?_<;>intro _ h
   · exact wk
   refine gc h ?_ ?_<;>intro _ h
   · exact wk
   refine gs ?_;obtain⟨d,ax,aC⟩:=ob h;refine CW.cut (fun e wb=>∃(C:Nat) (H:Nat) (l:Ad) (q:Nat) (m:Ad) (u:Nat) (n:Ad) (x:Nat) (p:Ad) (A:Nat) (f:Ad) (j:Nat) (g:Ad) (k:Nat),En e [(1,vI an),(8,.pointer (some ⟨ab,0,none⟩)),(9,.pointer (some ⟨ac,0,none⟩)),(10,.pointer (some ⟨O,0,none⟩)),(14,.pointer (some ⟨C,0,none⟩)),(15,.pointer (some ⟨H,0,none⟩))]/\St w0 [] wb [bx O 40 [vI W.Rn,vS ao W.parts.length K],sl ao K W.parts,bx ac 78 [vI 0,vI 0],bx ab 40 [vI 0,vS none 0 0],bx C 54 [vS l d.1.length q,vS m d.2.1.length u,vS n d.2.2.1.length x,vS p d.2.2.2.1.length A,vI d.2.2.2.2.1,vI d.2.2.2.2.2.1,vI d.2.2.2.2.2.2.1,vS f d.2.2.2.2.2.2.2.1.length j,vS g d.2.2.2.2.2.2.2.2.1.length k,vI d.2.2.2.2.2.2.2.2.2.1,vI d.2.2.2.2.2.2.2.2.2.2.1,vI d.2.2.2.2.2.2.2.2.2.2.2.1,vI d.2.2.2.2.2.2.2.2.2.2.2.2.1,vI d.2.2.2.2.2.2.2.2.2.2.2.2.2.1,vI d.2.2.2.2.2.2.2.2.2.2.2.2.2.2.1,vI d.2.2.2.2.2.2.2.2.2.2.2.2.2.2.2.1],bx H 78 [vI d.2.2.2.2.2.2.2.2.2.2.2.2.2.2.2.2.1,vI d.2.2.2.2.2.2.2.2.2.2.2.2.2.2.2.2.2],sl l q d.1,sl m u d.2.1,sl n x d.2.2.1,sl p A d.2.2.2.1,sl f j d.2.2.2.2.2.2.2.1,sl g k d.2.2.2.2.2.2.2.2.1]) ?_ ?_
   · have h:=ax;refine dW ?_;have:=ar.drew;refine go ?_;refine T ?_;have⟨_,_,h⟩:=ob h;refine AW.all (rs:=[10,14,15]) (by kernel_rfl) (by simp) ⟨?_,?_,?_,trivial⟩
     · refine oA ?_;refine T ?_;intro _ _ _ _ _ _ _ _ _ _ _ _ _ _;refine AW.all (rs:=[14,15]) (by kernel_rfl) (by simp) ⟨?_,?_,trivial⟩
       · refine oA ?_;exact wk
       refine oA ?_;refine T ?_;intro _ _ _;refine jP 14 ?_;exact wk
     · refine oA ?_;refine T ?_;intro _ _ _;refine AW.all (rs:=[10,15]) (by kernel_rfl) (by simp) ⟨?_,?_,trivial⟩
       · refine oA ?_;exact wk
       refine oA ?_;refine T ?_;intro _ _ _;refine jP 10 ?_;exact wk
     refine oA ?_;refine T ?_;intro _ _ _;refine AW.all (rs:=[10,14]) (by kernel_rfl) (by simp) ⟨?_,?_,trivial⟩
     · refine oA ?_;exact wk
     refine oA ?_;refine T ?_;intro _ _ _;refine jP 10 ?_;exact wk
   rintro e _ ⟨C,H,l,q,m,u,n,x,p,A,f,j,g,k,hE,af⟩;obtain⟨e,rfl⟩:=hE.out;have h:=aC;refine gb h fun aA Z h=>?_;obtain⟨J,I,rfl,_,_⟩:=af.dF (α:=bh) (i:=1) rfl Z;refine go ?_;have au:=af.pk (M:=[sl l q d.1,sl m u d.2.1,sl n x d.2.2.1,sl p A d.2.2.2.1,sl f j d.2.2.2.2.2.2.2.1,sl g k d.2.2.2.2.2.2.2.2.1]++[bx O 40 [vI W.Rn,vS (some ⟨J,I,none⟩) W.parts.length K],sl (some ⟨J,I,none⟩) K W.parts,bx ac 78 [vI 0,vI 0],bx ab 40 [vI 0,vS none 0 0],bx C 54 [vS l d.1.length q,vS m d.2.1.length u,vS n d.2.2.1.length x,vS p d.2.2.2.1.length A,vI d.2.2.2.2.1,vI d.2.2.2.2.2.1,vI d.2.2.2.2.2.2.1,vS f d.2.2.2.2.2.2.2.1.length j,vS g d.2.2.2.2.2.2.2.2.1.length k,vI d.2.2.2.2.2.2.2.2.2.1,vI d.2.2.2.2.2.2.2.2.2.2.1,vI d.2.2.2.2.2.2.2.2.2.2.2.1,vI d.2.2.2.2.2.2.2.2.2.2.2.2.1,vI d.2.2.2.2.2.2.2.2.2.2.2.2.2.1,vI d.2.2.2.2.2.2.2.2.2.2.2.2.2.2.1,vI d.2.2.2.2.2.2.2.2.2.2.2.2.2.2.2.1],bx H 78 [vI d.2.2.2.2.2.2.2.2.2.2.2.2.2.2.2.2.1,vI d.2.2.2.2.2.2.2.2.2.2.2.2.2.2.2.2.2]]) [6,7,8,9,10,11,0,1,2,3,4,5];have⟨_,aa,h⟩:=ob h;refine LW.vf (M:=[sl l q d.1,sl m u d.2.1,sl n x d.2.2.1,sl p A d.2.2.2.1,sl f j d.2.2.2.2.2.2.2.1,sl g k d.2.2.2.2.2.2.2.2.1]) (L:=[bx O 40 [vI W.Rn,vS (some ⟨J,I,none⟩) W.parts.length K],sl (some ⟨J,I,none⟩) K W.parts,bx ac 78 [vI 0,vI 0],bx ab 40 [vI 0,vS none 0 0],bx C 54 [vS l d.1.length q,vS m d.2.1.length u,vS n d.2.2.1.length x,vS p d.2.2.2.1.length A,vI d.2.2.2.2.1,vI d.2.2.2.2.2.1,vI d.2.2.2.2.2.2.1,vS f d.2.2.2.2.2.2.2.1.length j,vS g d.2.2.2.2.2.2.2.2.1.length k,vI d.2.2.2.2.2.2.2.2.2.1,vI d.2.2.2.2.2.2.2.2.2.2.1,vI d.2.2.2.2.2.2.2.2.2.2.2.1,vI d.2.2.2.2.2.2.2.2.2.2.2.2.1,vI d.2.2.2.2.2.2.2.2.2.2.2.2.2.1,vI d.2.2.2.2.2.2.2.2.2.2.2.2.2.2.1,vI d.2.2.2.2.2.2.2.2.2.2.2.2.2.2.2.1],bx H 78 [vI d.2.2.2.2.2.2.2.2.2.2.2.2.2.2.2.2.1,vI d.2.2.2.2.2.2.2.2.2.2.2.2.2.2.2.2.2]]) (z:=aA) (z':=(bh.mk (fF.mk d.1) d.2.1 d.2.2.1 (df.mk d.2.2.2.1 (eS.mk d.2.2.2.2.1 d.2.2.2.2.2.1 d.2.2.2.2.2.2.1 d.2.2.2.2.2.2.2.1)) d.2.2.2.2.2.2.2.2.1 d.2.2.2.2.2.2.2.2.2.1 d.2.2.2.2.2.2.2.2.2.2.1 (de.mk d.2.2.2.2.2.2.2.2.2.2.2.1 d.2.2.2.2.2.2.2.2.2.2.2.2.1 d.2.2.2.2.2.2.2.2.2.2.2.2.2.1) d.2.2.2.2.2.2.2.2.2.2.2.2.2.2.1 d.2.2.2.2.2.2.2.2.2.2.2.2.2.2.2.1)) (o:=0) au (i:=1) rfl Z i7 rfl (by show _=I+(an:Int).toNat*16+0;omega) rfl rfl rfl rfl (whole (fun w G hG=>⟨l,q,m,u,n,x,p,A,f,j,g,k,rfl,hG⟩)) ?_
   intro _ ah hf;rw[oi aa]at ah;refine gP ?_;have:=ah.drew;refine T ?_;intro _ _ _ R;cases h;have h:=ap;cases h;rw[dB (oi aa)]at R;exact Rc (dK.b R 3 rfl sy rfl rfl) (dK.b R 2 rfl jX rfl rfl) ⟨(some ⟨J,I,none⟩),K,rfl,R.pk [1]⟩
 rintro e _ ⟨B,rfl,hM⟩;obtain⟨U,V,hE,_⟩:=hM;obtain⟨e,rfl⟩:=hE.out;have h:=ap;refine gc h ?_ ?_<;>intro _ h
 · refine fD [(0,vI B.1)] #[vI B.1,vI 0] ?_;exact wk
 refine fD [(1,vI B.2.1)] #[vI 0,vI B.2.1] ?_;exact wk
instance k_75:Ct prog 75:={h:=@DB}
theorem BU{w0 N O ak r}(h:mu N O ak=some r){k ai m}(ao:ai=O.parts.length)(x:rb w0 k m O.parts){W aj R}(ap:aj=ak.length)(au:rb w0 W R ak):
    dj prog 24 #[.agg #[vI O.Rn,vS k ai m],vS W aj R] w0 (fun v w=>∃aA aB,v=vS aA r.length aB/\St w0 [] w [sl aA aB r]):=by
 subst ao ap;unfold mu at h;refine dj.fS func24 fun e br=>?_;refine vi br fun aK _ bs=>?_;refine go ?_;refine LW.b0 (α:=Int) bs ?_;intro ba bi _ aC hf;refine gb h fun _ bt h=>?_;refine LW.c0 (Ae bt rfl (aC.rB x)) aC fun _ aa=>?_;refine gc h ?_ ?_<;>intro _ h
 · refine go ?_;cases h;exact Ra ⟨ba,bi,rfl,aa.pk [0]⟩
 refine go ?_;obtain⟨_,aq,aM⟩:=ob h;refine CW.i2 aq 0 [2,15,16] [1] (fun K (b:Ad) (d:Nat)=>[(5,vS b K.1.length d),(17,vI K.2)]) (fun K b d=>[sl b d K.1]) aa ?_ ?_ ?_
 · exact⟨ba,bi,aa.po [1,0]⟩
 · intro K e b d _ o ab h;refine gc h ?_ ?_<;>intro _ h
   · refine gb h fun aF a2 h=>?_;obtain⟨bg,bu,_,rfl,ad,_,_,rfl,aT⟩:=au.idx a2;refine go ?_;refine LW.l (fy.g8 w0 kV rfl (aT 0 _ rfl)) (ab.same _ ad.1 ad.2) rfl ?_;refine gb h fun _ a4 h=>?_;refine LW.c0 (xa a4) ab fun _ aD=>?_;refine gb h fun _ a5 h=>?_;refine LW.c0 (zQ a5 rfl (aD.rB x)) aD fun _ aE=>?_;refine gH [2,5,7,8,15,16,17,26] fun e=>?_;refine gc h ?_ ?_<;>intro _ h
     · refine go ?_;cases oi h;exact⟨rfl,⟨b,d,aE.po [0,1]⟩⟩
     refine gs ?_;obtain⟨f,aS,bq⟩:=ob h;refine CW.cut (fun e wb=>∃(J:Nat) (z:Ad) (C:Nat) (ax:rb w0 z C f.2.2.2.2.2.2.2.2.2.2.1) (A:Ad) (H:Nat) (ay:rb w0 A H f.2.2.2.2.2.2.2.2.2.2.2.1) (B:Ad) (I:Nat) (az:rb w0 B I f.2.2.2.2.2.2.2.2.2.2.2.2),En e [(2,.pointer (some ⟨aK,0,none⟩)),(5,vS b K.1.length d),(7,vI aF),(9,.pointer (some ⟨J,0,none⟩)),(15,vS (some ⟨bg,bu,none⟩) ak.length R),(16,vI (ak.length:Int)),(17,vI K.2)]/\St w0 [] wb [bx aK 40 [vI O.Rn,vS k O.parts.length m],sl b d K.1,bx J 96 [vI f.1,vI f.2.1,vI f.2.2.1,vI f.2.2.2.1,vI f.2.2.2.2.1,vI f.2.2.2.2.2.1,vI f.2.2.2.2.2.2.1,vI f.2.2.2.2.2.2.2.1,vI f.2.2.2.2.2.2.2.2.1,.bool f.2.2.2.2.2.2.2.2.2.1,vS z f.2.2.2.2.2.2.2.2.2.2.1.length C,vS A f.2.2.2.2.2.2.2.2.2.2.2.1.length H,vS B f.2.2.2.2.2.2.2.2.2.2.2.2.length I]]) ?_ ?_
     · have h:=aS;refine dW ?_;have ac:=aE.drew;refine gb h fun _ a6 h=>?_;obtain⟨_,_,_,rfl,g,_,_,⟨_,_,_,_,_,_,_,_,_,_,_,_,rfl,_,_,_,af,_,_⟩,aU⟩:=x.idx a6;refine go ?_;refine AW.tk 6 rfl (fy.g8 w0 wR rfl (aU 3 _ rfl)) (ac.same _ g.1 g.2) ?_;refine gb h fun _ ah h=>?_;refine AW.all (rs:=[8,11]) (by kernel_rfl) (by simp) ⟨?_,?_,trivial⟩
       · refine⟨_,rfl,?_⟩;refine LW.cl (uf ah) ?_;rintro _ _ ⟨rfl,hs⟩;have V:=ac.add hs;refine jN (.c (V.same _ g.1 g.2) (.c (V.ce 0) jZ)) ?_;have⟨_,a7,h⟩:=ob h;obtain⟨_,_,_,rfl,q,_,_,⟨bb,bj,bc,bk,bd,bl,rfl,aX,aY,aZ⟩,aV⟩:=af.idx a7;refine go ?_;refine AW.tk 10 rfl (fy.ua w0 tE rfl rfl (fun j u hu=>aV j u hu)) (V.same _ q.1 q.2) ?_;refine jO 11 ?_;refine LW.al V fun bo _ n=>?_;refine jN (.c (n.same _ q.1 q.2) (.c (n.same _ g.1 g.2) (.c (n.ce 1) jZ))) ?_;refine jO 12 ?_;refine LW.st n 0 fun _ aN=>?_;refine jn ?_;refine go ?_;cases oi h;exact⟨bo,bb,bj,aX,bc,bk,aY,bd,bl,aZ,aN.po [1,2,0]⟩
       refine⟨_,rfl,?_⟩;refine LW.al ac fun bp _ U=>?_;refine jN (.c (U.same _ g.1 g.2) (.c (U.ce 1) jZ)) ?_;refine jO 8 ?_;refine LW.cl (uf ah) ?_;rintro _ _ ⟨rfl,hs⟩;have p:=U.add hs;refine jN (.c (p.same _ g.1 g.2) (.c (p.ce 1) jZ)) ?_;have⟨_,a8,h⟩:=ob h;obtain⟨_,_,_,rfl,ae,_,_,⟨be,bm,bf,bn,aG,aI,rfl,a0,a1,ar⟩,aW⟩:=af.idx a8;refine go ?_;refine AW.tk 10 rfl (fy.ua w0 tE rfl rfl (fun j u hu=>aW j u hu)) (p.same _ ae.1 ae.2) ?_;refine jO 12 ?_;refine LW.st p 0 fun _ aO=>?_;refine jn ?_;refine go ?_;cases oi h;exact⟨bp,be,bm,a0,bf,bn,a1,aG,aI,ar,aO.po [1,2,0]⟩
     rintro e _ ⟨J,z,C,ax,A,H,ay,B,I,az,hE,X⟩;obtain⟨e,rfl⟩:=hE.out;have h:=bq;refine gs ?_;obtain⟨a9,an,aL⟩:=ob h;refine CW.jn [2,5,7,15,16,17] [0,1] [(47,.bool a9)] X (h1:=?_) (h2:=?_)
     · have h:=an;refine dW ?_;have Y:=X.drew;refine gB h ?_ ?_<;>intro am h
       · refine gb h fun _ av h=>?_;refine jO 7 ?_;refine(LW.gY (jJ rfl rfl am) ?_);refine LW.cl (ya av) ?_;rintro _ _ ⟨rfl,hs⟩;have aP:=Y.add hs;refine jn ?_;refine go ?_;cases oi h;exact aP.po [0,1]
       refine go ?_;cases oi h;exact Y.po [0,1]
     intro e _ Z;have h:=aL;refine gc h ?_ ?_<;>intro _ h
     · refine gb h fun _ aw h=>?_;refine LW.gE (M:=[]) (L:=[bx aK 40 [vI O.Rn,vS k O.parts.length m],sl b d K.1]) (vs:=#[vI aF]) (i:=1) ky rfl (by kernel_rfl) rfl rfl aw Z rfl (fun w G hG=>by cases(show G=[] from hG);exact⟨rfl,rfl⟩) rfl rfl ?_;intro _ aH aJ _ aQ hf;refine go ?_;cases oi h;exact⟨rfl,⟨aH,aJ,aQ.po [0,1]⟩⟩
     refine go ?_;cases oi h;exact⟨rfl,⟨b,d,Z.po [0,1]⟩⟩
   refine go ?_;cases oi h;exact⟨trivial,rfl,⟨b,d,ab.po [0,1]⟩⟩
 intro e b d _ aR;have h:=aM;refine go ?_;cases h;exact Ra ⟨b,d,rfl,aR.pk [1]⟩
instance k_24:Ct prog 24:={h:=@BU}
end Go.Kx
