/- The plain law of 'FnExactSound'. No program in sight. -/
import Derived.Test.YtdjpppkdngmeaaaGreatLRun
namespace Go.Kx
open Go
set_option linter.unusedVariables false
set_option linter.unusedSimpArgs false
set_option maxRecDepth 10000
theorem L_FnExactSound {w : DWorld} (h : Fit.fit w) : ∃ N, F_l_FnExactSound N w = some true := by
  suffices q : ∀ N, BIG ≤ N → F_l_FnExactSound N w = some true from ⟨BIG, q BIG (Nat.le_refl _)⟩
  intro N hN
  unfold F_l_FnExactSound
  refine guard (by decide) (by decide) (r_DWorld hN (by decide) (by decide) h) fun r h0 h1 hs => ?_
  have b1 : sz_DWorld w < BIG := small hs
  have b3 : szL sz_DPart w.parts < BIG := by unfold sz_DWorld at b1; omega
  simp only [t_DWorld hN b1, s_Sound hN b3 (fit_wW h), i_Sound hN b3, e_DWorld hN b1, Option.bind_some, beq_self_eq_true, Bool.not_true, cond_false]
end Go.Kx
