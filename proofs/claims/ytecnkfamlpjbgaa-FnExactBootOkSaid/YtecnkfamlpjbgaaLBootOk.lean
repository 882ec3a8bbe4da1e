/- The plain law of 'FnExactBootOk'. No program in sight. -/
import Derived.Test.YtecnkfamlpjbgaaLBoot
namespace Go.Kx
open Go
set_option linter.unusedVariables false
set_option linter.unusedSimpArgs false
set_option maxRecDepth 10000
theorem L_FnExactBootOk {x : List DBoot} (hx : Fit.fit x) : ∃ N, F_l_FnExactBootOk N x = some true := by
  suffices h : ∀ N, BIG ≤ N → F_l_FnExactBootOk N x = some true from ⟨BIG, h BIG (Nat.le_refl _)⟩
  intro N hN
  unfold F_l_FnExactBootOk
  refine guard (by decide) (by decide) (rS_DBoot hN (by decide) (by decide) hx) fun b h0 h1 hs => ?_
  have hb : szL sz_DBoot x < BIG := small hs
  simp only [tS_DBoot hN hb, s_BootOk hN hb, i_BootOk hN hb, eS_DBoot hN hb, Option.bind_some, beq_self_eq_true, Bool.not_true, cond_false]
end Go.Kx
