/- Each call returns what the plain function says. Printed by drive.py. -/
import Derived.Test.YtfllimolhpblnaaGreatFa
import Derived.Test.YtfllimolhpblnaaGreatPu
namespace Go.Kx
open Go Go.RowKit Go.Proofs
set_option maxRecDepth 10000
set_option maxHeartbeats 2000000
set_option linter.unusedVariables false
set_option linter.unusedSimpArgs false
theorem W_i_AmtOne {w0 : World} {N : Nat} {x0 : Int} {x1 : Int} {r : DAmt} (h : F_i_AmtOne N x0 x1 = some r) :
    Ret Tryz.prog 94 #[.int .i64 x0, .int .i64 x1] w0 (fun v w => v = .agg #[.int .i64 r.pages, .int .i64 r.rent, .int .i64 r.cpu] ∧ St w0 [] w []) := by
  unfold F_i_AmtOne at h
  refine Ret.fn Tryz.func94 fun e => ?_
  have hS1 := St.start w0
  refine go ?_
  refine LW.al hS1 fun g1 w2 hS2 => ?_
  refine go ?_
  refine CW.cond rfl (fun hc3 => ?_) (fun hc3 => ?_)
  · replace h := bcT h hc3
    refine go ?_
    refine LW.u (Pur.build (vs := [(0, .int .i64 x1)]) (cs := #[.int .i64 x1, .int .i64 0, .int .i64 0]) rfl (by kernel_rfl)) rfl ?_
    refine LW.st hS2 0 fun w4 hS3 => ?_
    refine go ?_
    cases h
    exact And.intro trivial ⟨_, Res.one (resOne.b hS3 0 rfl ag64 rfl rfl), rfl, hS3.pick [] rfl rfl⟩
  replace h := bcF h hc3
  refine go ?_
  refine CW.cond rfl (fun hc5 => ?_) (fun hc5 => ?_)
  · replace h := bcT h hc5
    refine go ?_
    refine LW.u (Pur.build (vs := [(1, .int .i64 x1)]) (cs := #[.int .i64 0, .int .i64 x1, .int .i64 0]) rfl (by kernel_rfl)) rfl ?_
    refine LW.st hS2 0 fun w6 hS4 => ?_
    refine go ?_
    cases h
    exact And.intro trivial ⟨_, Res.one (resOne.b hS4 0 rfl ag64 rfl rfl), rfl, hS4.pick [] rfl rfl⟩
  replace h := bcF h hc5
  refine go ?_
  refine CW.cond rfl (fun hc7 => ?_) (fun hc7 => ?_)
  · replace h := bcT h hc7
    refine go ?_
    refine LW.u (Pur.build (vs := [(2, .int .i64 x1)]) (cs := #[.int .i64 0, .int .i64 0, .int .i64 x1]) rfl (by kernel_rfl)) rfl ?_
    refine LW.st hS2 0 fun w8 hS5 => ?_
    refine go ?_
    cases h
    exact And.intro trivial ⟨_, Res.one (resOne.b hS5 0 rfl ag64 rfl rfl), rfl, hS5.pick [] rfl rfl⟩
  replace h := bcF h hc7
  refine go ?_
  refine LW.u (Pur.build (vs := []) (cs := #[.int .i64 0, .int .i64 0, .int .i64 0]) rfl (by kernel_rfl)) rfl ?_
  refine LW.st hS2 0 fun w9 hS6 => ?_
  refine go ?_
  cases h
  exact And.intro trivial ⟨_, Res.one (resOne.b hS6 0 rfl ag64 rfl rfl), rfl, hS6.pick [] rfl rfl⟩

end Go.Kx
