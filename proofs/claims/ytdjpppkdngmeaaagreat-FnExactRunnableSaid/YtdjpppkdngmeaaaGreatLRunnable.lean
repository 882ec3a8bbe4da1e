/- The plain law of 'FnExactRunnable'. No program in sight. -/
import Derived.Test.YtdjpppkdngmeaaaGreatLRun
namespace Go.Kx
open Go
set_option linter.unusedVariables false
set_option linter.unusedSimpArgs false
set_option maxRecDepth 10000
theorem L_FnExactRunnable {p : DPart} {now : Int} (hp : Fit.fit p) (hn : Fit.fit now) : ∃ N, F_l_FnExactRunnable N p now = some true := by
  suffices q : ∀ N, BIG ≤ N → F_l_FnExactRunnable N p now = some true from ⟨BIG, q BIG (Nat.le_refl _)⟩
  intro N hN
  unfold F_l_FnExactRunnable
  refine guard (by decide) (by decide) (r_DPart hN (by decide) (by decide) hp) fun b h0 h1 hs => ?_
  have hb : sz_DPart p < BIG := small hs
  have hl : (runnable p now).length < BIG := Nat.lt_of_le_of_lt (runnable_len p now) (by decide)
  have s1 := sle_Int (runnable p now)
  have s2 := runnable_len p now
  have s3 := sle_Int p.label.levels
  have s4 := sle_Int p.own
  have s5 := sle_DRes p.tree
  have s6 := sle_DObj p.heap.arena
  have s7 := sle_Int p.heap.gc.grey
  have s8 := sle_DTap p.taps
  have z2 : p.label.levels.length + p.own.length + p.tree.length + szL sz_DObj p.heap.arena + p.heap.gc.grey.length + p.taps.length ≤ sz_DPart p := by unfold sz_DPart sz_DHeap sz_DGc sz_DLabel; omega
  have n1 : decide (1 + ((sumL c_Int p.label.levels : Nat) : Int) + ((sumL c_Int p.own : Nat) : Int) + ((sumL c_DRes p.tree : Nat) : Int) + ((sumL c_DObj p.heap.arena : Nat) : Int) + ((sumL c_Int p.heap.gc.grey : Nat) : Int) + ((sumL c_DTap p.taps : Nat) : Int) < 0) = false := decide_eq_false (by omega)
  have n2 : decide (1 + ((sumL c_Int (runnable p now) : Nat) : Int) < 0) = false := decide_eq_false (by omega)
  simp only [t_DPart hN hb, s_Runnable hN hb (fit_wP hp), i_Runnable hN hb, e_DPart hN hb, eS_Int hN hl, Option.bind_some, Bool.not_true, cond_false, mark_DPart hN (n := 1) hb (by decide) (by omega), keepL_same (markL_len _ _ _ _), n1,
    markS_Int hN (n := 1) hl (by decide) (by omega), heldS_Int hN (n := 1) hl (by decide) (by omega), n2, bne_self_eq_false]
end Go.Kx
