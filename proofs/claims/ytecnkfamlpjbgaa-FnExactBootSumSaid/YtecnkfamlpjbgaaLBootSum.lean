/- The plain law of 'FnExactBootSum'. No program in sight. -/
import Derived.Test.YtecnkfamlpjbgaaLBoot
namespace Go.Kx
open Go
set_option linter.unusedVariables false
set_option linter.unusedSimpArgs false
set_option maxRecDepth 10000
theorem L_FnExactBootSum {x : List DBoot} (hx : Fit.fit x) : ∃ N, F_l_FnExactBootSum N x = some true := by
  suffices h : ∀ N, BIG ≤ N → F_l_FnExactBootSum N x = some true from ⟨BIG, h BIG (Nat.le_refl _)⟩
  intro N hN
  unfold F_l_FnExactBootSum
  refine guard (by decide) (by decide) (rS_DBoot hN (by decide) (by decide) hx) fun b h0 h1 hs => ?_
  have hb : szL sz_DBoot x < BIG := small hs
  simp only [tS_DBoot hN hb, s_BootSum hN hb, i_BootSum hN hb, e_DAmt, eS_DBoot hN hb, Option.bind_some, Bool.not_true, cond_false]
end Go.Kx
