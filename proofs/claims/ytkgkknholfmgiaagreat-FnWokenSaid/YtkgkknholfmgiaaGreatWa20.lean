/- Each call returns what the plain function says. Printed by drive.py. -/
import Derived.Test.YtkgkknholfmgiaaGreatFa
import Derived.Test.YtkgkknholfmgiaaGreatPu
import Derived.Test.YtkgkknholfmgiaaGreatWa0
import Derived.Test.YtkgkknholfmgiaaGreatWa3
namespace Go.Kx
open Go Go.RowKit Go.Proofs
set_option maxRecDepth 10000
set_option maxHeartbeats 8000000
set_option linter.unusedVariables false
set_option linter.unusedSimpArgs false
theorem W_s_TreeSum {w0:World} {N:Nat} {x0:List DRes} {r:DAmt} (h:F_s_TreeSum N x0=some r) {a0_0:Ad} {n0_0 c0_0:Nat} (hn0_0:n0_0=x0.length) (hr0_0:rdS (Bor w0 []) w0 a0_0 c0_0 x0) :
    Ret Tryz.prog 34 #[vS a0_0 n0_0 c0_0] w0 (fun v w=>v=.agg #[vI r.pages,vI r.rent,vI r.cpu]∧St w0 [] w []):=by
 subst hn0_0;unfold F_s_TreeSum at h;refine Ret.fn Tryz.func34 fun e=>?_;have S1:=St.start w0;refine go ?_;refine LW.al S1 fun g1 w2 S2=>?_;refine go ?_;replace ⟨y3,hy3,h⟩:=obind h;refine LW.c0 (W_s_TreeOk hy3 rfl (S2.rB hr0_0)) S2 fun w4 S3=>?_;refine go ?_;refine cd (fun z5=>?_) fun z5=>?_
 · replace h:=bcT h z5;refine go ?_;refine LW.u (Pur.build (vs:=[]) (cs:=#[vI 0,vI 0,vI 0]) rfl (by kernel_rfl)) rfl ?_;refine LW.st S3 0 fun w6 S4=>?_;refine go ?_;cases h;exact And.intro trivial ⟨_,Res.one (resOne.b S4 0 rfl ag35 rfl rfl),rfl,S4.pick [] rfl rfl⟩
 replace h:=bcF h z5;refine go ?_;replace ⟨y7,hy7,h⟩:=obind h;refine LW.c0 (W_s_l6Sum hy7 rfl (S3.rB hr0_0)) S3 fun w8 S5=>?_;refine LW.st S5 0 fun w9 S6=>?_;refine go ?_;cases h;exact And.intro trivial ⟨_,Res.one (resOne.b S6 0 rfl ag35 rfl rfl),rfl,S6.pick [] rfl rfl⟩
end Go.Kx
