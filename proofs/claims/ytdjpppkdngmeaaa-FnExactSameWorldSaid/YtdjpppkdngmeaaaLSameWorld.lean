/- The plain law of 'FnExactSameWorld'. No program in sight. -/
import Derived.Test.YtdjpppkdngmeaaaLSame
namespace Go.Kx
open Go
set_option linter.unusedVariables false
set_option linter.unusedSimpArgs false
set_option maxRecDepth 10000
theorem L_FnExactSameWorld {a b : DWorld} (ha : Fit.fit a) (hb : Fit.fit b) : ∃ N, F_l_FnExactSameWorld N a b = some true := by
  suffices h : ∀ N, BIG ≤ N → F_l_FnExactSameWorld N a b = some true from ⟨BIG, h BIG (Nat.le_refl _)⟩
  intro N hN
  unfold F_l_FnExactSameWorld
  refine guard (by decide) (by decide) (r_DWorld hN (by decide) (by decide) ha) fun r h0 h1 hs => ?_
  refine guard h0 h1 (r_DWorld hN h0 h1 hb) fun r h0 h1 hs2 => ?_
  have b1 : sz_DWorld a < BIG := small hs
  have b2 : sz_DWorld b < BIG := small hs2
  have b3 : szL sz_DPart a.parts < BIG := by unfold sz_DWorld at b1; omega
  simp only [t_DWorld hN b1, t_DWorld hN b2, s_SameWorld hN b3, i_SameWorld hN b3, e_DWorld hN b1, e_DWorld hN b2, Option.bind_some, beq_self_eq_true, Bool.not_true, cond_false]
end Go.Kx
