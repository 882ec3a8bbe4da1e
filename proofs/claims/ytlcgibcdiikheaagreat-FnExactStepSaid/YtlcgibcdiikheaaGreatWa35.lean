import Derived.Test.YtlcgibcdiikheaaGreatWa34
namespace Go.Kx
open Go Go.RowKit Go.Proofs
open Tryz
set_option maxRecDepth 10000
set_option maxHeartbeats 8000000
set_option linter.unusedVariables false
set_option linter.unusedSimpArgs false
theorem sV {w0 N u f r} (h:Db N u f=some r) {k p l} (q:p=u.parts.length) (U:rb w0 k l u.parts) :
    pY prog 19 #[.agg #[vI u.Vo,vS k p l],.agg #[vI f.Vc,vI f.U9,vI f.qA,vI f.call.Vc,vI f.call.a,vI f.call.b,vI f.call.c,vI f.call.d,vI f.call.e]] w0 (fun v w=>∃ g j,v=.tuple #[.agg #[vI r.1.Vo,vS g r.1.parts.length j],.agg #[vI r.2.code,vI r.2.Vv]]∧St w0 [] w [sl g j r.1.parts]):=by
 subst q;unfold Db at h;refine pY.fn func19 fun e=>?_;have aO:=St.start w0;refine T ?_;intro bs bu aP bt bv aQ J bw aR K bz aS;refine gc h ?_ ?_<;>intro _ h
 · refine T ?_;intro bk am h aH aL aY aT;refine LW.bd [] #[vI 0,vI 0] ?_;refine T ?_;intro aZ aU a0 aV;exact rt
 refine gc h ?_ ?_<;>intro _ h
 · refine T ?_;intro bl an h aI aM a1 aW a2 V a3 W;exact rt
 refine gc h ?_ ?_<;>intro _ h
 · refine T ?_;intro R ao h x z a4 X A a5 Y a6 C;obtain ⟨O,H,L⟩:=ob h;refine CW.jn [3,4,5,6] [0,1,2,3,4] [(45,.bool O)] C (h1:=?_) (h2:=?_)
   · have h:=H;refine T ?_;intro bm ap h a7 Z;refine bH h ?_ ?_<;>intro _ h
     · refine go ?_;refine T ?_;intro bn aq h a8 aa;refine bH h ?_ ?_<;>intro _ h
       · refine T ?_;intro bo ar h a9 ab;exact rt
       exact rt
     exact rt
   intro e ba m;have h:=L;refine gs ?_;obtain ⟨B,I,M⟩:=ob h;refine CW.cut (fun e wb=>En e [(4,.pointer (some ⟨J,0,none⟩)),(5,.pointer (some ⟨K,0,none⟩)),(6,.pointer (some ⟨A,0,none⟩))]∧St w0 [] wb [bx A 26 [vI R.Vo,vS x B.length z],sl x z B,bx K 32 [vI 0,vI 0],bx J 26 [vI 0,vS none 0 0]]) ?_ ?_
   · have h:=I;refine CW.fl [3,4,5,6,45] fun e=>?_;refine gc h ?_ ?_<;>intro _ h
     · refine gb h fun bp n h=>?_;obtain ⟨aK,aX,hae,aj,ak⟩:=m.qk (α:=cd) (i:=1) rfl n;subst hae;refine go ?_;refine gb h fun bq o h=>?_;refine LW.se 10 m 1 n o (hM:=(rm (fun w cs F hF=>by obtain ⟨av,aB,aw,aC,ax,aD,ay,aE,az,aF,aA,aG,rfl,hH⟩:=hF;exact ⟨av,aB,aw,aC,ax,aD,ay,aE,az,aF,aA,aG,rfl,hH⟩))) fun bb G=>?_;refine go ?_;rw [pV (oi o)] at G;exact rt
     exact rt
   rintro e bc ⟨hE,ac⟩;obtain ⟨e,rfl⟩:=hE.out;have h:=M;refine rX [] #[vI 0,vI 0] ?_;refine T ?_;intro be ad bf ae;exact rt
 refine T ?_;intro br au h aJ aN bg af;refine LW.bd [(0,vI 2)] #[vI 2,vI 0] ?_;refine T ?_;intro bi ah bj ai;exact rt
instance k_19:Ct prog 19:=⟨by kernel_rfl,@sV⟩
theorem rY {w0 N u f r} (h:Bp N u f=some r) {k p l} (q:p=u.parts.length) (U:rb w0 k l u.parts) :
    pY prog 22 #[.agg #[vI u.Vo,vS k p l],.agg #[vI f.Vc,vI f.U9,vI f.qA,vI f.call.Vc,vI f.call.a,vI f.call.b,vI f.call.c,vI f.call.d,vI f.call.e]] w0 (fun v w=>∃ g j,v=.tuple #[.agg #[vI r.1.Vo,vS g r.1.parts.length j],.agg #[vI r.2.code,vI r.2.Vv]]∧St w0 [] w [sl g j r.1.parts]):=by
 subst q;unfold Bp at h;refine pY.fn func22 fun e=>?_;have aO:=St.start w0;refine T ?_;intro bs bu aP bt bv aQ J bw aR K bz aS;refine gc h ?_ ?_<;>intro _ h
 · refine T ?_;intro bk am h aH aL aY aT;refine LW.bd [] #[vI 0,vI 0] ?_;refine T ?_;intro aZ aU a0 aV;exact rt
 refine gc h ?_ ?_<;>intro _ h
 · refine T ?_;intro bl an h aI aM a1 aW a2 V a3 W;exact rt
 refine gc h ?_ ?_<;>intro _ h
 · refine T ?_;intro R ao h x z a4 X A a5 Y a6 C;obtain ⟨O,H,L⟩:=ob h;refine CW.jn [3,4,5,6] [0,1,2,3,4] [(42,.bool O)] C (h1:=?_) (h2:=?_)
   · have h:=H;refine T ?_;intro bm ap h a7 Z;refine bH h ?_ ?_<;>intro _ h
     · refine T ?_;intro bn aq h a8 aa;refine bH h ?_ ?_<;>intro _ h
       · refine T ?_;intro bo ar h a9 ab;exact rt
       exact rt
     exact rt
   intro e ba m;have h:=L;refine gs ?_;obtain ⟨B,I,M⟩:=ob h;refine CW.cut (fun e wb=>En e [(4,.pointer (some ⟨J,0,none⟩)),(5,.pointer (some ⟨K,0,none⟩)),(6,.pointer (some ⟨A,0,none⟩))]∧St w0 [] wb [bx A 26 [vI R.Vo,vS x B.length z],sl x z B,bx K 32 [vI 0,vI 0],bx J 26 [vI 0,vS none 0 0]]) ?_ ?_
   · have h:=I;refine CW.fl [3,4,5,6,42] fun e=>?_;refine gc h ?_ ?_<;>intro _ h
     · refine gb h fun bp n h=>?_;obtain ⟨aK,aX,hae,aj,ak⟩:=m.qk (α:=cd) (i:=1) rfl n;subst hae;refine go ?_;refine gb h fun bq o h=>?_;refine LW.se 10 m 1 n o (hM:=(rm (fun w cs F hF=>by obtain ⟨av,aB,aw,aC,ax,aD,ay,aE,az,aF,aA,aG,rfl,hH⟩:=hF;exact ⟨av,aB,aw,aC,ax,aD,ay,aE,az,aF,aA,aG,rfl,hH⟩))) fun bb G=>?_;refine go ?_;rw [pV (oi o)] at G;exact rt
     exact rt
   rintro e bc ⟨hE,ac⟩;obtain ⟨e,rfl⟩:=hE.out;have h:=M;refine rX [] #[vI 0,vI 0] ?_;refine T ?_;intro be ad bf ae;exact rt
 refine T ?_;intro br au h aJ aN bg af;refine LW.bd [(0,vI 2)] #[vI 2,vI 0] ?_;refine T ?_;intro bi ah bj ai;exact rt
instance k_22:Ct prog 22:=⟨by kernel_rfl,@rY⟩
end Go.Kx
