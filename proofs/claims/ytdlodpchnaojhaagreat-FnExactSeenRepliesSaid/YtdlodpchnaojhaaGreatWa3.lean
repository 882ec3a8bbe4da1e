import Derived.Test.YtdlodpchnaojhaaGreatWa1
import Derived.Test.YtdlodpchnaojhaaGreatWa2
import Derived.Test.YtdlodpchnaojhaaGreatWa12
namespace Go.Kx
open Go Go.RowKit Go.Proofs
open Tryz
set_option maxRecDepth 10000
set_option maxHeartbeats 8000000
set_option linter.unusedVariables false
set_option linter.unusedSimpArgs false
theorem C2 {w0 N R r} (h:qY N R=some r) {H O I} (W:O=R.length) (X:rb w0 H I R) :
    gV prog 107 #[vS H O I] w0 (fun v w=>∃ J K,v=.agg #[vI r.Oc,vS J r.parts.length K]∧St w0 [] w [sl J K r.parts]):=by
 subst W;unfold qY at h;refine gV.fn func107 fun e=>?_;have aM:=St.start w0;refine T ?_;intro U a6 aN;refine LW.bd [] #[vI 0,vS none 0 0] ?_;refine T ?_;intro V a7 aO a8 aP bb aR h a9 ao;refine gc h ?_ ?_<;>intro _ h
 · refine T ?_;intro ba ap;cases h;have ae:=ap.nil (α:=cd);exact And.intro trivial ⟨_,kt.one (ib.b ae 2 rfl pz rfl rfl),none,0,rfl,ae.pk [0]⟩
 refine go ?_;have aq:=ao.nil (α:=cd);obtain ⟨aT,aj,an⟩:=ob h;refine CW.ie aj 0 (fun j e wb=>∃ (f:Ad) (g:Nat),En e [(2,.pointer (some ⟨U,0,none⟩)),(3,.pointer (some ⟨V,0,none⟩)),(13,vS H R.length I),(14,vI (R.length:Int)),(15,vI j.1)]∧St w0 [] wb [bx V 26 [vI 0,vS f j.2.length g],bx U 26 [vI 0,vS none 0 0],sl f g j.2]) ?_ ⟨none,0,aq.po [1,2,0]⟩ ?_
 · intro j e aV o hM h;obtain ⟨f,g,hE,aQ⟩:=hM;obtain ⟨e,rfl⟩:=hE.out;refine gc h ?_ ?_<;>intro _ h
   · refine gb h fun af ak h=>?_;obtain ⟨aK,aS,ar,rfl,aC,aE,aF,⟨Y,aa,Z,ab,rfl,aG,aH⟩,aD⟩:=X.idx ak;refine go ?_;refine T ?_;intro ac aW au aX av d aI h k u l x m z n A p B q C aY aw ad aZ ax a0 ah;have ai:=ah.pk (M:=[sl k u d.1.NZ.NY,sl l x d.1.own,sl m z d.1.N1,sl n A d.1.py.ag,sl p B d.1.py.gc.gQ,sl q C d.1.gR]++[bx ad 45 (qP k u l x m z n A p B q C d.1),bx ac 134 (qB Y aa Z ab af),bx V 26 [vI 0,vS f j.2.length g],bx U 26 [vI 0,vS none 0 0],sl f g j.2]) [1,2,3,4,5,6,0,7,8,9,10];have ⟨a5,am,h⟩:=ob h;refine LW.j6 (M:=[sl k u d.1.NZ.NY,sl l x d.1.own,sl m z d.1.N1,sl n A d.1.py.ag,sl p B d.1.py.gc.gQ,sl q C d.1.gR]) (L:=[bx ad 45 (qP k u l x m z n A p B q C d.1),bx ac 134 (qB Y aa Z ab af),bx V 26 [vI 0,vS f j.2.length g],bx U 26 [vI 0,vS none 0 0],sl f g j.2]) (vs:=#[vS k d.1.NZ.NY.length u,vS l d.1.own.length x,vS m d.1.N1.length z,vS n d.1.py.ag.length A,vI d.1.py.gc.N2,vI d.1.py.gc.Oa,vI d.1.py.gc.N3,vS p d.1.py.gc.gQ.length B,vS q d.1.gR.length C,vI d.1.N6,vI d.1.N7,vI d.1.bh.gE,vI d.1.bh.gT,vI d.1.bh.g8,vI d.1.gW,vI d.1.N5]) (i:=4) Bi rfl (by kernel_rfl) rfl rfl am ai rfl (fun w G hG=>⟨k,u,l,x,m,z,n,A,p,B,q,C,rfl,hG⟩) rfl rfl ?_
     intro aU aJ aL a1 ay hf;refine T ?_;intro a2 az;exact rt
   exact rt
 rintro e a3 ⟨f,g,hE,aA⟩;obtain ⟨e,rfl⟩:=hE.out;have h:=an;refine T ?_;intro a4 aB;exact rt
instance k_107:Ct prog 107:=⟨by kernel_rfl,@C2⟩
theorem JK {w0 N ai O r} (h:vt N ai O=some r) {C J H} (R:J=ai.length) (av:rb w0 C H ai) {u K x} (U:K=O.length) (W:rb w0 u x O) :
    gV prog 47 #[vS C J H,vS u K x] w0 (fun v w=>∃ A B, ∃ Y Z,v=.tuple #[.agg #[vI r.1.Oc,vS A r.1.parts.length B],vS Y r.2.length Z]∧St w0 [] w [sl A B r.1.parts,sl Y Z r.2]):=by
 subst R U;unfold vt at h;refine gV.fn func47 fun e=>?_;have bP:=St.start w0;refine T ?_;intro I cv ap;refine LW.b0 (α:=g6) ap ?_;intro ak an cw aq hf;refine gs ?_;obtain ⟨bg,au,aC⟩:=ob h;refine CW.jn [0,1,4,6] [0,1] [(19,.bool bg)] aq (h1:=?_) (h2:=?_)
 · have h:=au;refine T ?_;intro cy bU h cx bQ;refine bH h ?_ ?_<;>intro _ h
   · exact rt
   exact rt
 intro e bW bR;have h:=aC;refine gc h ?_ ?_<;>intro _ h
 · refine jj [] #[vI 0,vS none 0 0] ?_;refine T ?_;intro bX ar;cases h;have aa:=ar.nil (α:=cd);exact Rc (ib.b aa 2 rfl pz rfl rfl) tt ⟨none,0,ak,an,rfl,aa.pk [0,1]⟩
 refine T ?_;intro cs be h aj am bY bS z bZ bT b1 ac;refine go ?_;obtain ⟨bi,V,ab⟩:=ob h;refine CW.ie V 0 (fun d e wb=>∃ (g:Ad) (k:Nat) (j:Ad) (l:Nat),En e [(1,vS u O.length x),(4,.pointer (some ⟨I,0,none⟩)),(6,vS g d.1.length k),(7,.pointer (some ⟨z,0,none⟩)),(8,vI d.2.1)]∧St w0 [] wb [bx z 26 [vI d.2.2.1,vS j d.2.2.2.length l],sl g k d.1,bx I 26 [vI 0,vS none 0 0],sl j l d.2.2.2]) ?_ ⟨ak,an,aj,am,ac.po [0,2,3,1]⟩ ?_
 · intro d e b2 o hM h;obtain ⟨g,k,j,l,hE,ad⟩:=hM;obtain ⟨e,rfl⟩:=hE.out;refine jE [1,4,6,7,8,27] fun e=>?_;refine gc h ?_ ?_<;>intro _ h
   · refine gs ?_;refine CW.block ?_;refine gs ?_;obtain ⟨f,af,ao⟩:=ob h;refine CW.cut (fun e wb=>∃ (q:Nat) (p:Nat) (m:Ad) (n:Nat),En e [(1,vS u O.length x),(4,.pointer (some ⟨I,0,none⟩)),(6,vS g d.1.length k),(7,.pointer (some ⟨z,0,none⟩)),(8,vI d.2.1),(9,.pointer (some ⟨q,0,none⟩)),(10,.pointer (some ⟨p,0,none⟩))]∧St w0 [] wb [bx z 26 [vI d.2.2.1,vS j d.2.2.2.length l],sl g k d.1,bx I 26 [vI 0,vS none 0 0],sl j l d.2.2.2,bx q 26 [vI f.1,vS m f.2.1.length n],bx p 53 [vI f.2.2.1,vI f.2.2.2],sl m n f.2.1]) ?_ ?_
     · have h:=af;refine dW ?_;have aD:=ad.drew;refine gb h fun ct ah h=>?_;obtain ⟨bA,bV,aA,rfl,ba,bc,bd,rfl,bb⟩:=W.idx ah;refine go ?_;refine T ?_;have ⟨cu,bf,h⟩:=ob h;refine AW.all (rs:=[5,9,10]) (by kernel_rfl) (by simp) ⟨?_,?_,?_,trivial⟩
       · refine oA ?_;refine T ?_;intro bu bB b3 aE;refine AW.all (rs:=[9,10]) (by kernel_rfl) (by simp) ⟨?_,?_,trivial⟩
         · refine oA ?_;refine T ?_;intro bF b4 aF bG b5 aG b6 aH b7 aI;exact rt
         refine oA ?_;refine T ?_;intro bI b8 aJ;refine jP 9 ?_;refine T ?_;intro bJ b9 aK ca aL cb aM;exact rt
       · refine oA ?_;refine T ?_;intro bK cc aN;refine AW.all (rs:=[5,10]) (by kernel_rfl) (by simp) ⟨?_,?_,trivial⟩
         · refine oA ?_;refine T ?_;intro bv bC ce aO bL cf aP cg aQ ci aR;exact rt
         refine oA ?_;refine T ?_;intro bM cj aS;refine jP 5 ?_;refine T ?_;intro bw bD ck aT cl aU cm aV;exact rt
       refine oA ?_;refine T ?_;intro bN cn aW;refine AW.all (rs:=[5,9]) (by kernel_rfl) (by simp) ⟨?_,?_,trivial⟩
       · refine oA ?_;refine T ?_;intro bz bE co aX bO cp aY cq aZ cr a0;exact rt
       refine oA ?_;refine T ?_;intro aB bk a1;refine jP 5 ?_;refine T ?_;intro aw ay bl a2 bm a4 bn a5;exact rt
     rintro e bo ⟨q,p,m,n,hE,a6⟩;obtain ⟨e,rfl⟩:=hE.out;have h:=ao;refine T ?_;intro bp ae;have ⟨bt,X,h⟩:=ob h;refine LW.j6 (M:=[]) (L:=[bx z 26 [vI f.1,vS m f.2.1.length n],sl g k d.1,bx I 26 [vI 0,vS none 0 0],sl j l d.2.2.2,bx q 26 [vI f.1,vS m f.2.1.length n],bx p 53 [vI f.2.2.1,vI f.2.2.2],sl m n f.2.1]) (vs:=#[vI f.2.2.1,vI f.2.2.2]) (i:=1) Gj rfl (by kernel_rfl) rfl rfl X ae rfl (fun w G hG=>by cases (show G=[] from hG);exact ⟨rfl,rfl⟩) rfl rfl ?_;intro bj ax az bq a7 hf;exact rt
   exact rt
 rintro e br ⟨g,k,j,l,hE,a8⟩;obtain ⟨e,rfl⟩:=hE.out;have h:=ab;refine T ?_;intro bs a9;exact rt
instance k_47:Ct prog 47:=⟨by kernel_rfl,@JK⟩
theorem Jm {w0 N ad I r} (h:vn N ad I=some r) {u C z} (J:C=ad.length) (av:rb w0 u z ad) {m H n} (K:H=I.length) (O:rb w0 m n I) :
    gV prog 48 #[vS u C z,vS m H n] w0 (fun v w=>∃ p q, ∃ R U,v=.tuple #[.agg #[vI r.1.Oc,vS p r.1.parts.length q],vS R r.2.length U]∧St w0 [] w [sl p q r.1.parts,sl R U r.2]):=by
 subst J K;unfold vn at h;refine gV.fn func48 fun e=>?_;have aT:=St.start w0;refine T ?_;intro W bm ao;obtain ⟨aP,ar,ax⟩:=ob h;refine CW.jn [0,1,4] [0] [(19,.bool aP)] ao (h1:=?_) (h2:=?_)
 · have h:=ar;refine T ?_;intro bp aY h bn aU;refine bH h ?_ ?_<;>intro _ h
   · exact rt
   exact rt
 intro e bo aV;have h:=ax;refine gc h ?_ ?_<;>intro _ h
 · refine jj [] #[vI 0,vS none 0 0] ?_;refine T ?_;intro a2 ap;cases h;have aq:=ap.nil (α:=cd);have V:=aq.nil (α:=g6);exact Rc (ib.b V 2 rfl pz rfl rfl) tt ⟨none,0,none,0,rfl,V.pk [1,0]⟩
 refine T ?_;intro bk aN h ae ah a3 aW B a4 aX a5 X;refine LW.b0 (α:=g6) X ?_;intro af ai a6 Y hf;refine go ?_;obtain ⟨a0,aa,an⟩:=ob h;refine CW.ie aa 0 (fun d e wb=>∃ (f:Ad) (j:Nat) (g:Ad) (k:Nat),En e [(4,.pointer (some ⟨W,0,none⟩)),(6,.pointer (some ⟨B,0,none⟩)),(7,vS f d.1.length j),(24,vS m I.length n),(25,vI (I.length:Int)),(26,vI d.2.1)]∧St w0 [] wb [sl f j d.1,bx B 26 [vI d.2.2.1,vS g d.2.2.2.length k],bx W 26 [vI 0,vS none 0 0],sl g k d.2.2.2]) ?_ ⟨af,ai,ae,ah,Y.po [0,1,3,2]⟩ ?_
 · intro d e a7 o hM h;obtain ⟨f,j,g,k,hE,ay⟩:=hM;obtain ⟨e,rfl⟩:=hE.out;refine gc h ?_ ?_<;>intro _ h
   · refine gb h fun au ab h=>?_;obtain ⟨aR,aZ,aw,rfl,aJ,aL,aM,rfl,aK⟩:=O.idx ab;refine go ?_;refine T ?_;intro aj a8 az a9 aA l aO h x A ba aB ak bb aC am bc aD;refine T ?_;intro bd aE be aF bf Z;have ⟨bl,ac,h⟩:=ob h;refine LW.j6 (M:=[]) (L:=[bx am 53 [vI l.2.code,vI l.2.Oi],bx ak 26 [vI l.1.Oc,vS x l.1.parts.length A],sl x A l.1.parts,bx aj 88 (qE au),sl f j d.1,bx B 26 [vI l.1.Oc,vS x l.1.parts.length A],bx W 26 [vI 0,vS none 0 0],sl g k d.2.2.2]) (vs:=#[vI l.2.code,vI l.2.Oi]) (i:=4) Gj rfl (by kernel_rfl) rfl rfl ac Z rfl (fun w G hG=>by cases (show G=[] from hG);exact ⟨rfl,rfl⟩) rfl rfl ?_;intro a1 aQ aS bg aG hf;exact rt
   exact rt
 rintro e bi ⟨f,j,g,k,hE,aH⟩;obtain ⟨e,rfl⟩:=hE.out;have h:=an;refine T ?_;intro bj aI;exact rt
instance k_48:Ct prog 48:=⟨by kernel_rfl,@Jm⟩
end Go.Kx
