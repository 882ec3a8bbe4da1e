/- The plain law of 'FnExactCanCall'. No program in sight. -/
import Derived.Test.YtdjpppkdngmeaaaLReach
namespace Go.Kx
open Go
set_option linter.unusedVariables false
set_option linter.unusedSimpArgs false
set_option maxRecDepth 10000
theorem L_FnExactCanCall {p : DPart} {now th : Int} (hp : Fit.fit p) (h1 : Fit.fit now) (h2 : Fit.fit th) : ∃ N, F_l_FnExactCanCall N p now th = some true := by
  suffices h : ∀ N, BIG ≤ N → F_l_FnExactCanCall N p now th = some true from ⟨BIG, h BIG (Nat.le_refl _)⟩
  intro N hN
  unfold F_l_FnExactCanCall
  refine guard (by decide) (by decide) (r_DPart hN (by decide) (by decide) hp) fun b h0 h1 hs => ?_
  have hb : sz_DPart p < BIG := small hs
  simp only [t_DPart hN hb, s_CanCall hN hb (fit_wP hp), i_CanCall hN hb, e_DPart hN hb, Option.bind_some, beq_self_eq_true, Bool.not_true, cond_false]
end Go.Kx
