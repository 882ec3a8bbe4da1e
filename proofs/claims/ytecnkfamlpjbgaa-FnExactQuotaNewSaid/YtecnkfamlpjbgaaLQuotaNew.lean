/- The plain law of 'FnExactQuotaNew'. No program in sight. -/
import Derived.Test.YtecnkfamlpjbgaaLBoot
namespace Go.Kx
open Go
set_option linter.unusedVariables false
set_option linter.unusedSimpArgs false
set_option maxRecDepth 10000
def quotaNew (x : Int) : List DNode × Bool := if okA x then ([DNode.mk (-1) x 0], true) else ([], false)
theorem s_QuotaNew (N : Nat) (x : Int) : F_s_QuotaNew N x = some (quotaNew x) := by
  unfold F_s_QuotaNew quotaNew
  rw [s_5, Option.bind_some]
  cases okA x <;> rfl
theorem i_QuotaNew (N : Nat) (x : Int) : F_i_QuotaNew N x = some (quotaNew x) := by
  unfold F_i_QuotaNew quotaNew
  rw [i_isAmount, Option.bind_some]
  cases okA x <;> rfl
theorem L_FnExactQuotaNew {x : Int} (hx : Fit.fit x) : ∃ N, F_l_FnExactQuotaNew N x = some true := by
  suffices h : ∀ N, BIG ≤ N → F_l_FnExactQuotaNew N x = some true from ⟨BIG, h BIG (Nat.le_refl _)⟩
  intro N hN
  unfold F_l_FnExactQuotaNew
  have hb1 : (quotaNew x).1.length ≤ 1 := by unfold quotaNew; split <;> simp
  have hb : (quotaNew x).1.length < BIG := Nat.lt_of_le_of_lt hb1 (by decide)
  have hs := sle_DNode (quotaNew x).1
  have hneg : decide (1 + ((sumL c_DNode (quotaNew x).1 : Nat) : Int) < 0) = false := decide_eq_false (by omega)
  simp only [s_QuotaNew, i_QuotaNew, Option.bind_some, eS_DNode hN hb, beq_self_eq_true, bne_self_eq_false, Bool.not_true, cond_false, markS_DNode hN (n := 1) hb (by decide) (by omega), keepL_same (markL_len _ _ _ _), heldS_DNode hN (n := 1) hb (by decide) (by omega), hneg]
end Go.Kx
