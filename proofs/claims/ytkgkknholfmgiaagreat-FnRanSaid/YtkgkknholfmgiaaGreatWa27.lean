/- Each call returns what the plain function says. Printed by drive.py. -/
import Derived.Test.YtkgkknholfmgiaaGreatFa
import Derived.Test.YtkgkknholfmgiaaGreatPu
namespace Go.Kx
open Go Go.RowKit Go.Proofs
set_option maxRecDepth 10000
set_option maxHeartbeats 8000000
set_option linter.unusedVariables false
set_option linter.unusedSimpArgs false
theorem W_i_AmtOne {w0:World} {N:Nat} {x0:Int} {x1:Int} {r:DAmt} (h:F_i_AmtOne N x0 x1=some r) :
    Ret Tryz.prog 78 #[vI x0,vI x1] w0 (fun v w=>v=.agg #[vI r.pages,vI r.rent,vI r.cpu]∧St w0 [] w []):=by
 unfold F_i_AmtOne at h;refine Ret.fn Tryz.func78 fun e=>?_;have S1:=St.start w0;refine go ?_;refine LW.al S1 fun g1 w2 S2=>?_;refine go ?_;refine cd (fun z3=>?_) fun z3=>?_
 · replace h:=bcT h z3;refine go ?_;refine LW.u (Pur.build (vs:=[(0,vI x1)]) (cs:=#[vI x1,vI 0,vI 0]) rfl (by kernel_rfl)) rfl ?_;refine LW.st S2 0 fun w4 S3=>?_;refine go ?_;cases h;exact And.intro trivial ⟨_,Res.one (resOne.b S3 0 rfl ag35 rfl rfl),rfl,S3.pick [] rfl rfl⟩
 replace h:=bcF h z3;refine go ?_;refine cd (fun z5=>?_) fun z5=>?_
 · replace h:=bcT h z5;refine go ?_;refine LW.u (Pur.build (vs:=[(1,vI x1)]) (cs:=#[vI 0,vI x1,vI 0]) rfl (by kernel_rfl)) rfl ?_;refine LW.st S2 0 fun w6 S4=>?_;refine go ?_;cases h;exact And.intro trivial ⟨_,Res.one (resOne.b S4 0 rfl ag35 rfl rfl),rfl,S4.pick [] rfl rfl⟩
 replace h:=bcF h z5;refine go ?_;refine cd (fun z7=>?_) fun z7=>?_
 · replace h:=bcT h z7;refine go ?_;refine LW.u (Pur.build (vs:=[(2,vI x1)]) (cs:=#[vI 0,vI 0,vI x1]) rfl (by kernel_rfl)) rfl ?_;refine LW.st S2 0 fun w8 S5=>?_;refine go ?_;cases h;exact And.intro trivial ⟨_,Res.one (resOne.b S5 0 rfl ag35 rfl rfl),rfl,S5.pick [] rfl rfl⟩
 replace h:=bcF h z7;refine go ?_;refine LW.u (Pur.build (vs:=[]) (cs:=#[vI 0,vI 0,vI 0]) rfl (by kernel_rfl)) rfl ?_;refine LW.st S2 0 fun w9 S6=>?_;refine go ?_;cases h;exact And.intro trivial ⟨_,Res.one (resOne.b S6 0 rfl ag35 rfl rfl),rfl,S6.pick [] rfl rfl⟩
end Go.Kx
