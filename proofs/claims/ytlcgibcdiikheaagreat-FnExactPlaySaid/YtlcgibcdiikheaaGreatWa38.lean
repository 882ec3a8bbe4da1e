import Derived.Test.YtlcgibcdiikheaaGreatWa37
namespace Go.Kx
open Go Go.RowKit Go.Proofs
open Tryz
set_option maxRecDepth 10000
set_option maxHeartbeats 8000000
set_option linter.unusedVariables false
set_option linter.unusedSimpArgs false
theorem KQ {w0 N u f r} (h:wz N u f=some r) {k p l} (q:p=u.parts.length) (U:rb w0 k l u.parts) :
    gV prog 19 #[.agg #[vI u.Pt,vS k p l],.agg #[vI f.Pf,vI f.Pc,vI f.ir,vI f.call.Pf,vI f.call.a,vI f.call.b,vI f.call.c,vI f.call.d,vI f.call.e]] w0 (fun v w=>∃ g j,v=.tuple #[.agg #[vI r.1.Pt,vS g r.1.parts.length j],.agg #[vI r.2.code,vI r.2.Pz]]∧St w0 [] w [sl g j r.1.parts]):=by
 subst q;unfold wz at h;refine gV.fn func19 fun e=>?_;have aO:=St.start w0;refine T ?_;intro bs bu aP bt bv aQ J bw aR K bz aS;refine gc h ?_ ?_<;>intro _ h
 · refine T ?_;intro bk am h aH aL aY aT;refine LW.bd [] #[vI 0,vI 0] ?_;refine T ?_;intro aZ aU a0 aV;exact rt
 refine gc h ?_ ?_<;>intro _ h
 · refine T ?_;intro bl an h aI aM a1 aW a2 V a3 W;exact rt
 refine gc h ?_ ?_<;>intro _ h
 · refine T ?_;intro R ao h x z a4 X A a5 Y a6 C;obtain ⟨O,H,L⟩:=ob h;refine CW.jn [3,4,5,6] [0,1,2,3,4] [(45,.bool O)] C (h1:=?_) (h2:=?_)
   · have h:=H;refine T ?_;intro bm ap h a7 Z;refine bH h ?_ ?_<;>intro _ h
     · refine go ?_;refine T ?_;intro bn aq h a8 aa;refine bH h ?_ ?_<;>intro _ h
       · refine T ?_;intro bo ar h a9 ab;exact rt
       exact rt
     exact rt
   intro e ba m;have h:=L;refine gs ?_;obtain ⟨B,I,M⟩:=ob h;refine CW.cut (fun e wb=>En e [(4,.pointer (some ⟨J,0,none⟩)),(5,.pointer (some ⟨K,0,none⟩)),(6,.pointer (some ⟨A,0,none⟩))]∧St w0 [] wb [bx A 26 [vI R.Pt,vS x B.length z],sl x z B,bx K 32 [vI 0,vI 0],bx J 26 [vI 0,vS none 0 0]]) ?_ ?_
   · have h:=I;refine CW.fl [3,4,5,6,45] fun e=>?_;refine gc h ?_ ?_<;>intro _ h
     · refine gb h fun bp n h=>?_;obtain ⟨aK,aX,hae,aj,ak⟩:=m.hZ (α:=bh) (i:=1) rfl n;subst hae;refine go ?_;refine gb h fun bq o h=>?_;refine LW.se 10 m 1 n o (hM:=(iU (fun w cs F hF=>by obtain ⟨av,aB,aw,aC,ax,aD,ay,aE,az,aF,aA,aG,rfl,hH⟩:=hF;exact ⟨av,aB,aw,aC,ax,aD,ay,aE,az,aF,aA,aG,rfl,hH⟩))) fun bb G=>?_;refine go ?_;rw [gS (oi o)] at G;exact rt
     exact rt
   rintro e bc ⟨hE,ac⟩;obtain ⟨e,rfl⟩:=hE.out;have h:=M;refine jt [] #[vI 0,vI 0] ?_;refine T ?_;intro be ad bf ae;exact rt
 refine T ?_;intro br au h aJ aN bg af;refine LW.bd [(0,vI 2)] #[vI 2,vI 0] ?_;refine T ?_;intro bi ah bj ai;exact rt
instance k_19:Ct prog 19:=⟨by kernel_rfl,@KQ⟩
theorem KL {w0 N u f r} (h:wv N u f=some r) {k p l} (q:p=u.parts.length) (U:rb w0 k l u.parts) :
    gV prog 22 #[.agg #[vI u.Pt,vS k p l],.agg #[vI f.Pf,vI f.Pc,vI f.ir,vI f.call.Pf,vI f.call.a,vI f.call.b,vI f.call.c,vI f.call.d,vI f.call.e]] w0 (fun v w=>∃ g j,v=.tuple #[.agg #[vI r.1.Pt,vS g r.1.parts.length j],.agg #[vI r.2.code,vI r.2.Pz]]∧St w0 [] w [sl g j r.1.parts]):=by
 subst q;unfold wv at h;refine gV.fn func22 fun e=>?_;have aO:=St.start w0;refine T ?_;intro bs bu aP bt bv aQ J bw aR K bz aS;refine gc h ?_ ?_<;>intro _ h
 · refine T ?_;intro bk am h aH aL aY aT;refine LW.bd [] #[vI 0,vI 0] ?_;refine T ?_;intro aZ aU a0 aV;exact rt
 refine gc h ?_ ?_<;>intro _ h
 · refine T ?_;intro bl an h aI aM a1 aW a2 V a3 W;exact rt
 refine gc h ?_ ?_<;>intro _ h
 · refine T ?_;intro R ao h x z a4 X A a5 Y a6 C;obtain ⟨O,H,L⟩:=ob h;refine CW.jn [3,4,5,6] [0,1,2,3,4] [(42,.bool O)] C (h1:=?_) (h2:=?_)
   · have h:=H;refine T ?_;intro bm ap h a7 Z;refine bH h ?_ ?_<;>intro _ h
     · refine T ?_;intro bn aq h a8 aa;refine bH h ?_ ?_<;>intro _ h
       · refine T ?_;intro bo ar h a9 ab;exact rt
       exact rt
     exact rt
   intro e ba m;have h:=L;refine gs ?_;obtain ⟨B,I,M⟩:=ob h;refine CW.cut (fun e wb=>En e [(4,.pointer (some ⟨J,0,none⟩)),(5,.pointer (some ⟨K,0,none⟩)),(6,.pointer (some ⟨A,0,none⟩))]∧St w0 [] wb [bx A 26 [vI R.Pt,vS x B.length z],sl x z B,bx K 32 [vI 0,vI 0],bx J 26 [vI 0,vS none 0 0]]) ?_ ?_
   · have h:=I;refine CW.fl [3,4,5,6,42] fun e=>?_;refine gc h ?_ ?_<;>intro _ h
     · refine gb h fun bp n h=>?_;obtain ⟨aK,aX,hae,aj,ak⟩:=m.hZ (α:=bh) (i:=1) rfl n;subst hae;refine go ?_;refine gb h fun bq o h=>?_;refine LW.se 10 m 1 n o (hM:=(iU (fun w cs F hF=>by obtain ⟨av,aB,aw,aC,ax,aD,ay,aE,az,aF,aA,aG,rfl,hH⟩:=hF;exact ⟨av,aB,aw,aC,ax,aD,ay,aE,az,aF,aA,aG,rfl,hH⟩))) fun bb G=>?_;refine go ?_;rw [gS (oi o)] at G;exact rt
     exact rt
   rintro e bc ⟨hE,ac⟩;obtain ⟨e,rfl⟩:=hE.out;have h:=M;refine jt [] #[vI 0,vI 0] ?_;refine T ?_;intro be ad bf ae;exact rt
 refine T ?_;intro br au h aJ aN bg af;refine LW.bd [(0,vI 2)] #[vI 2,vI 0] ?_;refine T ?_;intro bi ah bj ai;exact rt
instance k_22:Ct prog 22:=⟨by kernel_rfl,@KL⟩
theorem Ey {w0 N ai O r} (h:vW N ai O=some r) {C J H} (R:J=ai.length) (av:rb w0 C H ai) {u K x} (U:K=O.length) (W:rb w0 u x O) :
    gV prog 29 #[vS C J H,vS u K x] w0 (fun v w=>∃ A B, ∃ Y Z,v=.tuple #[.agg #[vI r.1.Pt,vS A r.1.parts.length B],vS Y r.2.length Z]∧St w0 [] w [sl A B r.1.parts,sl Y Z r.2]):=by
 subst R U;unfold vW at h;refine gV.fn func29 fun e=>?_;have bP:=St.start w0;refine T ?_;intro I cv ap;refine LW.b0 (α:=hX) ap ?_;intro ak an cw aq hf;refine gs ?_;obtain ⟨bg,au,aC⟩:=ob h;refine CW.jn [0,1,4,6] [0,1] [(19,.bool bg)] aq (h1:=?_) (h2:=?_)
 · have h:=au;refine T ?_;intro cy bU h cx bQ;refine bH h ?_ ?_<;>intro _ h
   · exact rt
   exact rt
 intro e bW bR;have h:=aC;refine gc h ?_ ?_<;>intro _ h
 · refine jt [] #[vI 0,vS none 0 0] ?_;refine T ?_;intro bX ar;cases h;have aa:=ar.nil (α:=bh);exact Rc (ij.b aa 2 rfl pN rfl rfl) tt ⟨none,0,ak,an,rfl,aa.pk [0,1]⟩
 refine T ?_;intro cs be h aj am bY bS z bZ bT b1 ac;refine go ?_;obtain ⟨bi,V,ab⟩:=ob h;refine CW.ie V 0 (fun d e wb=>∃ (g:Ad) (k:Nat) (j:Ad) (l:Nat),En e [(1,vS u O.length x),(4,.pointer (some ⟨I,0,none⟩)),(6,vS g d.1.length k),(7,.pointer (some ⟨z,0,none⟩)),(8,vI d.2.1)]∧St w0 [] wb [bx z 26 [vI d.2.2.1,vS j d.2.2.2.length l],sl g k d.1,bx I 26 [vI 0,vS none 0 0],sl j l d.2.2.2]) ?_ ⟨ak,an,aj,am,ac.po [0,2,3,1]⟩ ?_
 · intro d e b2 o hM h;obtain ⟨g,k,j,l,hE,ad⟩:=hM;obtain ⟨e,rfl⟩:=hE.out;refine jw [1,4,6,7,8,27] fun e=>?_;refine gc h ?_ ?_<;>intro _ h
   · refine gs ?_;refine CW.block ?_;refine gs ?_;obtain ⟨f,af,ao⟩:=ob h;refine CW.cut (fun e wb=>∃ (q:Nat) (p:Nat) (m:Ad) (n:Nat),En e [(1,vS u O.length x),(4,.pointer (some ⟨I,0,none⟩)),(6,vS g d.1.length k),(7,.pointer (some ⟨z,0,none⟩)),(8,vI d.2.1),(9,.pointer (some ⟨q,0,none⟩)),(10,.pointer (some ⟨p,0,none⟩))]∧St w0 [] wb [bx z 26 [vI d.2.2.1,vS j d.2.2.2.length l],sl g k d.1,bx I 26 [vI 0,vS none 0 0],sl j l d.2.2.2,bx q 26 [vI f.1,vS m f.2.1.length n],bx p 32 [vI f.2.2.1,vI f.2.2.2],sl m n f.2.1]) ?_ ?_
     · have h:=af;refine dW ?_;have aD:=ad.drew;refine gb h fun ct ah h=>?_;obtain ⟨bA,bV,aA,rfl,ba,bc,bd,rfl,bb⟩:=W.idx ah;refine go ?_;refine T ?_;have ⟨cu,bf,h⟩:=ob h;refine AW.all (rs:=[5,9,10]) (by kernel_rfl) (by simp) ⟨?_,?_,?_,trivial⟩
       · refine oA ?_;refine T ?_;intro bu bB b3 aE;refine AW.all (rs:=[9,10]) (by kernel_rfl) (by simp) ⟨?_,?_,trivial⟩
         · refine oA ?_;refine T ?_;intro bF b4 aF bG b5 aG b6 aH b7 aI;exact rt
         refine oA ?_;refine T ?_;intro bI b8 aJ;refine jP 9 ?_;refine T ?_;intro bJ b9 aK ca aL cb aM;exact rt
       · refine oA ?_;refine T ?_;intro bK cc aN;refine AW.all (rs:=[5,10]) (by kernel_rfl) (by simp) ⟨?_,?_,trivial⟩
         · refine oA ?_;refine T ?_;intro bv bC ce aO bL cf aP cg aQ ci aR;exact rt
         refine oA ?_;refine T ?_;intro bM cj aS;refine jP 5 ?_;refine T ?_;intro bw bD ck aT cl aU cm aV;exact rt
       refine oA ?_;refine T ?_;intro bN cn aW;refine AW.all (rs:=[5,9]) (by kernel_rfl) (by simp) ⟨?_,?_,trivial⟩
       · refine oA ?_;refine T ?_;intro bz bE co aX bO cp aY cq aZ cr a0;exact rt
       refine oA ?_;refine T ?_;intro aB bk a1;refine jP 5 ?_;refine T ?_;intro aw ay bl a2 bm a4 bn a5;exact rt
     rintro e bo ⟨q,p,m,n,hE,a6⟩;obtain ⟨e,rfl⟩:=hE.out;have h:=ao;refine T ?_;intro bp ae;have ⟨bt,X,h⟩:=ob h;refine LW.kB (M:=[]) (L:=[bx z 26 [vI f.1,vS m f.2.1.length n],sl g k d.1,bx I 26 [vI 0,vS none 0 0],sl j l d.2.2.2,bx q 26 [vI f.1,vS m f.2.1.length n],bx p 32 [vI f.2.2.1,vI f.2.2.2],sl m n f.2.1]) (vs:=#[vI f.2.2.1,vI f.2.2.2]) (i:=1) MM rfl (by kernel_rfl) rfl rfl X ae rfl (fun w G hG=>by cases (show G=[] from hG);exact ⟨rfl,rfl⟩) rfl rfl ?_;intro bj ax az bq a7 hf;exact rt
   exact rt
 rintro e br ⟨g,k,j,l,hE,a8⟩;obtain ⟨e,rfl⟩:=hE.out;have h:=ab;refine T ?_;intro bs a9;exact rt
instance k_29:Ct prog 29:=⟨by kernel_rfl,@Ey⟩
theorem Ap {w0 N ad I r} (h:uv N ad I=some r) {u C z} (J:C=ad.length) (av:rb w0 u z ad) {m H n} (K:H=I.length) (O:rb w0 m n I) :
    gV prog 32 #[vS u C z,vS m H n] w0 (fun v w=>∃ p q, ∃ R U,v=.tuple #[.agg #[vI r.1.Pt,vS p r.1.parts.length q],vS R r.2.length U]∧St w0 [] w [sl p q r.1.parts,sl R U r.2]):=by
 subst J K;unfold uv at h;refine gV.fn func32 fun e=>?_;have aT:=St.start w0;refine T ?_;intro W bm ao;obtain ⟨aP,ar,ax⟩:=ob h;refine CW.jn [0,1,4] [0] [(19,.bool aP)] ao (h1:=?_) (h2:=?_)
 · have h:=ar;refine T ?_;intro bp aY h bn aU;refine bH h ?_ ?_<;>intro _ h
   · exact rt
   exact rt
 intro e bo aV;have h:=ax;refine gc h ?_ ?_<;>intro _ h
 · refine jt [] #[vI 0,vS none 0 0] ?_;refine T ?_;intro a2 ap;cases h;have aq:=ap.nil (α:=bh);have V:=aq.nil (α:=hX);exact Rc (ij.b V 2 rfl pN rfl rfl) tt ⟨none,0,none,0,rfl,V.pk [1,0]⟩
 refine T ?_;intro bk aN h ae ah a3 aW B a4 aX a5 X;refine LW.b0 (α:=hX) X ?_;intro af ai a6 Y hf;refine go ?_;obtain ⟨a0,aa,an⟩:=ob h;refine CW.ie aa 0 (fun d e wb=>∃ (f:Ad) (j:Nat) (g:Ad) (k:Nat),En e [(4,.pointer (some ⟨W,0,none⟩)),(6,.pointer (some ⟨B,0,none⟩)),(7,vS f d.1.length j),(24,vS m I.length n),(25,vI (I.length:Int)),(26,vI d.2.1)]∧St w0 [] wb [sl f j d.1,bx B 26 [vI d.2.2.1,vS g d.2.2.2.length k],bx W 26 [vI 0,vS none 0 0],sl g k d.2.2.2]) ?_ ⟨af,ai,ae,ah,Y.po [0,1,3,2]⟩ ?_
 · intro d e a7 o hM h;obtain ⟨f,j,g,k,hE,ay⟩:=hM;obtain ⟨e,rfl⟩:=hE.out;refine gc h ?_ ?_<;>intro _ h
   · refine gb h fun au ab h=>?_;obtain ⟨aR,aZ,aw,rfl,aJ,aL,aM,rfl,aK⟩:=O.idx ab;refine go ?_;refine T ?_;intro aj a8 az a9 aA l aO h x A ba aB ak bb aC am bc aD;refine T ?_;intro bd aE be aF bf Z;have ⟨bl,ac,h⟩:=ob h;refine LW.kB (M:=[]) (L:=[bx am 32 [vI l.2.code,vI l.2.Pz],bx ak 26 [vI l.1.Pt,vS x l.1.parts.length A],sl x A l.1.parts,bx aj 62 (qE au),sl f j d.1,bx B 26 [vI l.1.Pt,vS x l.1.parts.length A],bx W 26 [vI 0,vS none 0 0],sl g k d.2.2.2]) (vs:=#[vI l.2.code,vI l.2.Pz]) (i:=4) MM rfl (by kernel_rfl) rfl rfl ac Z rfl (fun w G hG=>by cases (show G=[] from hG);exact ⟨rfl,rfl⟩) rfl rfl ?_;intro a1 aQ aS bg aG hf;exact rt
   exact rt
 rintro e bi ⟨f,j,g,k,hE,aH⟩;obtain ⟨e,rfl⟩:=hE.out;have h:=an;refine T ?_;intro bj aI;exact rt
instance k_32:Ct prog 32:=⟨by kernel_rfl,@Ap⟩
end Go.Kx
