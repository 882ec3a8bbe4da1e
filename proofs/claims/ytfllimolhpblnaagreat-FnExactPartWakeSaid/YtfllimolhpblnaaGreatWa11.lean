/- Each call returns what the plain function says. Printed by drive.py. -/
import Derived.Test.YtfllimolhpblnaaGreatFa
import Derived.Test.YtfllimolhpblnaaGreatPu
import Derived.Test.YtfllimolhpblnaaGreatWa1
namespace Go.Kx
open Go Go.RowKit Go.Proofs
set_option maxRecDepth 10000
set_option maxHeartbeats 2000000
set_option linter.unusedVariables false
set_option linter.unusedSimpArgs false
theorem W_s_HandlePart {w0 : World} {N : Nat} {x0 : Int} {r : Int} (h : F_s_HandlePart N x0 = some r) :
    Ret Tryz.prog 110 #[.int .i64 x0] w0 (fun v w => v = .int .i64 r ∧ St w0 [] w []) := by
  unfold F_s_HandlePart at h
  refine Ret.fn Tryz.func110 fun e => ?_
  have hS1 := St.start w0
  refine go ?_
  replace ⟨y1, hy1, h⟩ := obind h
  refine LW.c0 (W_s_l8Handle hy1) hS1 fun w2 hS2 => ?_
  refine go ?_
  refine CW.cond rfl (fun hc3 => ?_) (fun hc3 => ?_)
  · replace h := bcT h hc3
    refine go ?_
    cases h
    exact And.intro trivial ⟨_, Res.one (resOne.t rfl), rfl, hS2.pick [] rfl rfl⟩
  replace h := bcF h hc3
  refine go ?_
  refine LW.u (Pur.rem rfl rfl (by decide)) rfl ?_
  refine go ?_
  cases h
  exact And.intro trivial ⟨_, Res.one (resOne.t rfl), rfl, hS2.pick [] rfl rfl⟩

theorem W_i_HandlePart {w0 : World} {N : Nat} {x0 : Int} {r : Int} (h : F_i_HandlePart N x0 = some r) :
    Ret Tryz.prog 115 #[.int .i64 x0] w0 (fun v w => v = .int .i64 r ∧ St w0 [] w []) := by
  unfold F_i_HandlePart at h
  refine Ret.fn Tryz.func115 fun e => ?_
  have hS1 := St.start w0
  refine go ?_
  replace ⟨y1, hy1, h⟩ := obind h
  refine LW.c0 (W_i_isHandle hy1) hS1 fun w2 hS2 => ?_
  refine go ?_
  refine CW.cond rfl (fun hc3 => ?_) (fun hc3 => ?_)
  · replace h := bcT h hc3
    refine go ?_
    cases h
    exact And.intro trivial ⟨_, Res.one (resOne.t rfl), rfl, hS2.pick [] rfl rfl⟩
  replace h := bcF h hc3
  refine go ?_
  refine LW.u (Pur.rem rfl rfl (by decide)) rfl ?_
  refine go ?_
  cases h
  exact And.intro trivial ⟨_, Res.one (resOne.t rfl), rfl, hS2.pick [] rfl rfl⟩

end Go.Kx
