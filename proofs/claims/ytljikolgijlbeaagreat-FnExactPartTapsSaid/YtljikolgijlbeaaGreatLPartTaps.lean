/- The plain law of 'FnExactPartTaps'. No program in sight. -/
import Derived.Test.YtljikolgijlbeaaGreatLTaps
namespace Go.Kx
open Go
set_option linter.unusedVariables false
set_option linter.unusedSimpArgs false
set_option maxRecDepth 10000
theorem L_FnExactPartTaps {w : DWorld} {p : Int} (hw : Fit.fit w) (hp : Fit.fit p) : ∃ N, F_l_FnExactPartTaps N w p = some true := by
  suffices h : ∀ N, BIG ≤ N → F_l_FnExactPartTaps N w p = some true from ⟨BIG, h BIG (Nat.le_refl _)⟩
  intro N hN
  unfold F_l_FnExactPartTaps
  refine guard (by decide) (by decide) (r_DWorld hN (by decide) (by decide) hw) fun b h0 h1 hs => ?_
  have hb : sz_DWorld w < BIG := small hs
  have hb' : szL sz_DPart w.parts < BIG := by unfold sz_DWorld at hb; omega
  have sw := taps_sz w p
  simp only [t_DWorld hN hb, s_PartTaps hN hb' (fit_wW hw), i_PartTaps hN hb', Option.bind_some]
  generalize partTaps w p = q at *
  have b2 : sz_DWorld q < BIG := by unfold sz_DWorld at *; omega
  have hB : (16777216 : Nat) = BIG := rfl
  have s1 := sle_DPart w.parts
  have s2 := sle_DPart q.parts
  have n1 : decide (1 + ((sumL c_DPart w.parts : Nat) : Int) < 0) = false := decide_eq_false (by omega)
  have n2 : decide (1 + ((sumL c_DPart q.parts : Nat) : Int) < 0) = false := decide_eq_false (by omega)
  simp only [e_DWorld hN b2, e_DWorld hN hb, Option.bind_some, Bool.not_true, cond_false, mark_DWorld hN (n := 1) hb (by decide) (by omega), mark_DWorld hN (n := 1) b2 (by decide) (by omega), keepL_same (markL_len _ _ _ _), n1,
    held_DWorld hN (n := 1) (x := q) (z := DWorld.mk q.now (markL g_DPart c_DPart 1 q.parts)) b2 (by decide) (by omega) rfl, n2, bne_self_eq_false]
end Go.Kx
