/- The plain law of 'FnExactConserved'. No program in sight. -/
import Derived.Test.YtdjpppkdngmeaaaGreatLRun
namespace Go.Kx
open Go
set_option linter.unusedVariables false
set_option linter.unusedSimpArgs false
set_option maxRecDepth 10000
theorem L_FnExactConserved {x : List DBoot} {w : DWorld} (hx : Fit.fit x) (h : Fit.fit w) : ∃ N, F_l_FnExactConserved N x w = some true := by
  suffices q : ∀ N, BIG ≤ N → F_l_FnExactConserved N x w = some true from ⟨BIG, q BIG (Nat.le_refl _)⟩
  intro N hN
  unfold F_l_FnExactConserved
  refine guard (by decide) (by decide) (rS_DBoot hN (by decide) (by decide) hx) fun r h0 h1 hs0 => ?_
  refine guard h0 h1 (r_DWorld hN h0 h1 h) fun r h0 h1 hs => ?_
  have b0 : szL sz_DBoot x < BIG := small hs0
  have b1 : sz_DWorld w < BIG := small hs
  have b3 : szL sz_DPart w.parts < BIG := by unfold sz_DWorld at b1; omega
  simp only [tS_DBoot hN b0, t_DWorld hN b1, s_Conserved hN b0 b3 (fit_wW h), i_Conserved hN b0 b3, eS_DBoot hN b0, e_DWorld hN b1, Option.bind_some, beq_self_eq_true, Bool.not_true, cond_false]
end Go.Kx
