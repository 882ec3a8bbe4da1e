import Derived.Test.YtlcgibcdiikheaaGreatWa56
namespace Go.Kx
open Go Go.RowKit Go.Proofs
open Tryz
set_option maxRecDepth 10000
set_option maxHeartbeats 8000000
set_option linter.unusedVariables false
set_option linter.unusedSimpArgs false
theorem Lu {w0 N u f r} (h:vx N u f=some r) {k p l} (q:p=u.parts.length) (U:rb w0 k l u.parts) :
    g8 prog 19 #[.agg #[vI u.Q1,vS k p l],.agg #[vI f.py,vI f.Q5,vI f.lj,vI f.call.py,vI f.call.a,vI f.call.b,vI f.call.c,vI f.call.d,vI f.call.e]] w0 (fun v w=>∃ g j,v=.tuple #[.agg #[vI r.1.Q1,vS g r.1.parts.length j],.agg #[vI r.2.code,vI r.2.Q7]]∧St w0 [] w [sl g j r.1.parts]):=by
 subst q;unfold vx at h;refine g8.fn func19 fun e=>?_;have aO:=St.start w0;refine T ?_;intro bs bu aP bt bv aQ J bw aR K bz aS;refine gc h ?_ ?_<;>intro _ h
 · refine T ?_;intro bk am h aH aL aY aT;refine LW.bd [] #[vI 0,vI 0] ?_;refine T ?_;intro aZ aU a0 aV;exact rt
 refine gc h ?_ ?_<;>intro _ h
 · refine T ?_;intro bl an h aI aM a1 aW a2 V a3 W;exact rt
 refine gc h ?_ ?_<;>intro _ h
 · refine T ?_;intro R ao h x z a4 X A a5 Y a6 C;obtain ⟨O,H,L⟩:=ob h;refine CW.jn [3,4,5,6] [0,1,2,3,4] [(45,.bool O)] C (h1:=?_) (h2:=?_)
   · have h:=H;refine T ?_;intro bm ap h a7 Z;refine bH h ?_ ?_<;>intro _ h
     · refine go ?_;refine T ?_;intro bn aq h a8 aa;refine bH h ?_ ?_<;>intro _ h
       · refine T ?_;intro bo ar h a9 ab;exact rt
       exact rt
     exact rt
   intro e ba m;have h:=L;refine gs ?_;obtain ⟨B,I,M⟩:=ob h;refine CW.cut (fun e wb=>En e [(4,.pointer (some ⟨J,0,none⟩)),(5,.pointer (some ⟨K,0,none⟩)),(6,.pointer (some ⟨A,0,none⟩))]∧St w0 [] wb [bx A 26 [vI R.Q1,vS x B.length z],sl x z B,bx K 32 [vI 0,vI 0],bx J 26 [vI 0,vS none 0 0]]) ?_ ?_
   · have h:=I;refine CW.fl [3,4,5,6,45] fun e=>?_;refine gc h ?_ ?_<;>intro _ h
     · refine gb h fun bp n h=>?_;obtain ⟨aK,aX,hae,aj,ak⟩:=m.iu (α:=cd) (i:=1) rfl n;subst hae;refine go ?_;refine gb h fun bq o h=>?_;refine LW.se 10 m 1 n o (hM:=(kR (fun w cs F hF=>by obtain ⟨av,aB,aw,aC,ax,aD,ay,aE,az,aF,aA,aG,rfl,hH⟩:=hF;exact ⟨av,aB,aw,aC,ax,aD,ay,aE,az,aF,aA,aG,rfl,hH⟩))) fun bb G=>?_;refine go ?_;rw [iv (oi o)] at G;exact rt
     exact rt
   rintro e bc ⟨hE,ac⟩;obtain ⟨e,rfl⟩:=hE.out;have h:=M;refine jX [] #[vI 0,vI 0] ?_;refine T ?_;intro be ad bf ae;exact rt
 refine T ?_;intro br au h aJ aN bg af;refine LW.bd [(0,vI 2)] #[vI 2,vI 0] ?_;refine T ?_;intro bi ah bj ai;exact rt
instance k_19:Ct prog 19:=⟨by kernel_rfl,@Lu⟩
theorem DW {w0 N ai O r} (h:wC N ai O=some r) {C J H} (R:J=ai.length) (av:rb w0 C H ai) {u K x} (U:K=O.length) (W:rb w0 u x O) :
    g8 prog 29 #[vS C J H,vS u K x] w0 (fun v w=>∃ A B, ∃ Y Z,v=.tuple #[.agg #[vI r.1.Q1,vS A r.1.parts.length B],vS Y r.2.length Z]∧St w0 [] w [sl A B r.1.parts,sl Y Z r.2]):=by
 subst R U;unfold wC at h;refine g8.fn func29 fun e=>?_;have bP:=St.start w0;refine T ?_;intro I cv ap;refine LW.b0 (α:=il) ap ?_;intro ak an cw aq hf;refine gs ?_;obtain ⟨bg,au,aC⟩:=ob h;refine CW.jn [0,1,4,6] [0,1] [(19,.bool bg)] aq (h1:=?_) (h2:=?_)
 · have h:=au;refine T ?_;intro cy bU h cx bQ;refine bH h ?_ ?_<;>intro _ h
   · exact rt
   exact rt
 intro e bW bR;have h:=aC;refine gc h ?_ ?_<;>intro _ h
 · refine jX [] #[vI 0,vS none 0 0] ?_;refine T ?_;intro bX ar;cases h;have aa:=ar.nil (α:=cd);exact Rc (iq.b aa 2 rfl sS rfl rfl) tt ⟨none,0,ak,an,rfl,aa.pk [0,1]⟩
 refine T ?_;intro cs be h aj am bY bS z bZ bT b1 ac;refine go ?_;obtain ⟨bi,V,ab⟩:=ob h;refine CW.ie V 0 (fun d e wb=>∃ (g:Ad) (k:Nat) (j:Ad) (l:Nat),En e [(1,vS u O.length x),(4,.pointer (some ⟨I,0,none⟩)),(6,vS g d.1.length k),(7,.pointer (some ⟨z,0,none⟩)),(8,vI d.2.1)]∧St w0 [] wb [bx z 26 [vI d.2.2.1,vS j d.2.2.2.length l],sl g k d.1,bx I 26 [vI 0,vS none 0 0],sl j l d.2.2.2]) ?_ ⟨ak,an,aj,am,ac.po [0,2,3,1]⟩ ?_
 · intro d e b2 o hM h;obtain ⟨g,k,j,l,hE,ad⟩:=hM;obtain ⟨e,rfl⟩:=hE.out;refine kS [1,4,6,7,8,27] fun e=>?_;refine gc h ?_ ?_<;>intro _ h
   · refine gs ?_;refine CW.block ?_;refine gs ?_;obtain ⟨f,af,ao⟩:=ob h;refine CW.cut (fun e wb=>∃ (q:Nat) (p:Nat) (m:Ad) (n:Nat),En e [(1,vS u O.length x),(4,.pointer (some ⟨I,0,none⟩)),(6,vS g d.1.length k),(7,.pointer (some ⟨z,0,none⟩)),(8,vI d.2.1),(9,.pointer (some ⟨q,0,none⟩)),(10,.pointer (some ⟨p,0,none⟩))]∧St w0 [] wb [bx z 26 [vI d.2.2.1,vS j d.2.2.2.length l],sl g k d.1,bx I 26 [vI 0,vS none 0 0],sl j l d.2.2.2,bx q 26 [vI f.1,vS m f.2.1.length n],bx p 32 [vI f.2.2.1,vI f.2.2.2],sl m n f.2.1]) ?_ ?_
     · have h:=af;refine dW ?_;have aD:=ad.drew;refine gb h fun ct ah h=>?_;obtain ⟨bA,bV,aA,rfl,ba,bc,bd,rfl,bb⟩:=W.idx ah;refine go ?_;refine T ?_;have ⟨cu,bf,h⟩:=ob h;refine AW.all (rs:=[5,9,10]) (by kernel_rfl) (by simp) ⟨?_,?_,?_,trivial⟩
       · refine oA ?_;refine T ?_;intro bu bB b3 aE;refine AW.all (rs:=[9,10]) (by kernel_rfl) (by simp) ⟨?_,?_,trivial⟩
         · refine oA ?_;refine T ?_;intro bF b4 aF bG b5 aG b6 aH b7 aI;exact rt
         refine oA ?_;refine T ?_;intro bI b8 aJ;refine jP 9 ?_;refine T ?_;intro bJ b9 aK ca aL cb aM;exact rt
       · refine oA ?_;refine T ?_;intro bK cc aN;refine AW.all (rs:=[5,10]) (by kernel_rfl) (by simp) ⟨?_,?_,trivial⟩
         · refine oA ?_;refine T ?_;intro bv bC ce aO bL cf aP cg aQ ci aR;exact rt
         refine oA ?_;refine T ?_;intro bM cj aS;refine jP 5 ?_;refine T ?_;intro bw bD ck aT cl aU cm aV;exact rt
       refine oA ?_;refine T ?_;intro bN cn aW;refine AW.all (rs:=[5,9]) (by kernel_rfl) (by simp) ⟨?_,?_,trivial⟩
       · refine oA ?_;refine T ?_;intro bz bE co aX bO cp aY cq aZ cr a0;exact rt
       refine oA ?_;refine T ?_;intro aB bk a1;refine jP 5 ?_;refine T ?_;intro aw ay bl a2 bm a4 bn a5;exact rt
     rintro e bo ⟨q,p,m,n,hE,a6⟩;obtain ⟨e,rfl⟩:=hE.out;have h:=ao;refine T ?_;intro bp ae;have ⟨bt,X,h⟩:=ob h;refine LW.kX (M:=[]) (L:=[bx z 26 [vI f.1,vS m f.2.1.length n],sl g k d.1,bx I 26 [vI 0,vS none 0 0],sl j l d.2.2.2,bx q 26 [vI f.1,vS m f.2.1.length n],bx p 32 [vI f.2.2.1,vI f.2.2.2],sl m n f.2.1]) (vs:=#[vI f.2.2.1,vI f.2.2.2]) (i:=1) Qm rfl (by kernel_rfl) rfl rfl X ae rfl (fun w G hG=>by cases (show G=[] from hG);exact ⟨rfl,rfl⟩) rfl rfl ?_;intro bj ax az bq a7 hf;exact rt
   exact rt
 rintro e br ⟨g,k,j,l,hE,a8⟩;obtain ⟨e,rfl⟩:=hE.out;have h:=ab;refine T ?_;intro bs a9;exact rt
instance k_29:Ct prog 29:=⟨by kernel_rfl,@DW⟩
theorem Ci {w0} {F:List Nat} {N u X ah r} (h:qm N u X ah=some r) {x:Nat} {n p} (ai:iV (ki w0 F) w0 n p u.b) {z H B} (I:H=X.length) (aj:iV (ki w0 F) w0 z B X) (hS:St w0 F w0 [bx x 177 [vS n u.b.length p,vI u.i,vI u.h]]) :
    g8 prog 213 #[.pointer (some ⟨x,0,none⟩),vS z H B,vI ah] w0 (fun v w=>∃ J K,v=vS J r.1.length K∧St w0 F w [sl J K r.1,bx x 177 [vS n u.b.length p,vI r.2.i,vI r.2.h]]):=by
 subst I;unfold qm at h;refine g8.fn func213 fun e=>?_;refine go ?_;refine LW.b0 (α:=ja) hS ?_;intro Y Z a0 aA hf;refine T ?_;intro a4 aH h ak am a2 aB O a3 aC aK ae;refine gc h ?_ ?_<;>intro _ h
 · refine go ?_;replace h:=oi h;subst h;exact Ra ⟨Y,Z,rfl,ae.pk [2,3]⟩
 refine T ?_;intro aY av h aL af;refine go ?_;obtain ⟨aI,V,ad⟩:=ob h;refine CW.ie V 0 (fun g e wb=>∃ (j:Ad) (k:Nat) (l:Ad) (m:Nat),En e [(0,.pointer (some ⟨x,0,none⟩)),(7,vS j g.1.length k),(8,.pointer (some ⟨O,0,none⟩)),(9,vI g.2.1)]∧St w0 F wb [bx x 177 [vS n u.b.length p,vI g.2.2.1,vI g.2.2.2.1],bx O 26 [vI g.2.2.2.2.1,vS l g.2.2.2.2.2.length m],sl j k g.1,sl l m g.2.2.2.2.2]) ?_ ⟨Y,Z,ak,am,af.po [0,1,3,2]⟩ ?_
 · intro g e aM o hM h;obtain ⟨j,k,l,m,hE,aD⟩:=hM;obtain ⟨e,rfl⟩:=hE.out;refine kS [0,7,8,9,26] fun e=>?_;refine gc h ?_ ?_<;>intro _ h
   · refine T ?_;intro f aw h aN aE aa aO aF aP aG q ax h A C aQ an ab aR ao ac aS ap aT aq aU ar aV R;have ⟨aZ,W,h⟩:=ob h;refine LW.kX (M:=[]) (L:=[bx ac 32 [vI q.2.code,vI q.2.Q7],bx ab 26 [vI q.1.Q1,vS A q.1.parts.length C],sl A C q.1.parts,bx aa 62 (qE f.1),bx x 177 [vS n u.b.length p,vI f.2.i,vI f.2.h],bx O 26 [vI q.1.Q1,vS A q.1.parts.length C],sl j k g.1,sl l m g.2.2.2.2.2]) (vs:=#[vI f.1.py,vI f.1.Q5,vI f.1.lj,vI f.1.call.py,vI f.1.call.a,vI f.1.call.b,vI f.1.call.c,vI f.1.call.d,vI f.1.call.e]) (i:=6) Lk rfl (by kernel_rfl) rfl rfl W R rfl (fun w G hG=>by cases (show G=[] from hG);exact ⟨rfl,rfl⟩) rfl rfl ?_;intro aJ ay az aW au hf;exact rt
   exact rt
 rintro e aX ⟨j,k,l,m,hE,U⟩;obtain ⟨e,rfl⟩:=hE.out;have h:=ad;refine go ?_;replace h:=oi h;subst h;exact Ra ⟨j,k,rfl,U.pk [2,0]⟩
instance k_213:Ct prog 213:=⟨by kernel_rfl,@Ci⟩
end Go.Kx
