/- The plain law of 'FnExactPartNew'. No program in sight. -/
import Derived.Test.YtdjpppkdngmeaaaLNew
namespace Go.Kx
open Go
set_option linter.unusedVariables false
set_option linter.unusedSimpArgs false
set_option maxRecDepth 10000
theorem partNew_sz (b : DBoot) : sz_DPart (partNew b).1 ≤ sz_DBoot b + 20 := by
  unfold partNew
  split
  · rw [newPart_sz]; exact Nat.le_refl _
  · exact Nat.le_trans (show sz_DPart zPart ≤ 20 by decide) (by omega)
theorem L_FnExactPartNew {x : DBoot} (hx : Fit.fit x) : ∃ N, F_l_FnExactPartNew N x = some true := by
  suffices h : ∀ N, BIG + 1 ≤ N → F_l_FnExactPartNew N x = some true from ⟨BIG + 1, h (BIG + 1) (Nat.le_refl _)⟩
  intro N hN1
  have hN : BIG ≤ N := Nat.le_of_succ_le hN1
  unfold F_l_FnExactPartNew
  refine guard (by decide) (by decide) (r_DBoot hN (by decide) (by decide) hx) fun r h0 h1 hs => ?_
  have b1 : sz_DBoot x < BIG := small hs
  have s0 := partNew_sz x
  have b2 : sz_DPart (partNew x).1 < BIG := by have : (16777216 : Nat) = BIG := rfl; omega
  simp only [t_DBoot hN b1, s_PartNew hN hs, i_PartNew hN1 b1, Option.bind_some, e_DPart hN b2, e_DBoot hN b1]
  generalize hp : (partNew x).1 = p at *
  have s1 := sle_Int x.label.levels
  have s2 := sle_Int x.own
  have s3 := sle_Int p.label.levels
  have s4 := sle_Int p.own
  have s5 := sle_DRes p.tree
  have s6 := sle_DObj p.heap.arena
  have s7 := sle_Int p.heap.gc.grey
  have s8 := sle_DTap p.taps
  have z1 : x.label.levels.length + x.own.length ≤ sz_DBoot x := by unfold sz_DBoot sz_DLabel; omega
  have z2 : p.label.levels.length + p.own.length + p.tree.length + szL sz_DObj p.heap.arena + p.heap.gc.grey.length + p.taps.length ≤ sz_DPart p := by unfold sz_DPart sz_DHeap sz_DGc sz_DLabel; omega
  have n1 : decide (1 + ((sumL c_Int x.label.levels : Nat) : Int) + ((sumL c_Int x.own : Nat) : Int) < 0) = false := decide_eq_false (by omega)
  have n2 : decide (1 + ((sumL c_Int p.label.levels : Nat) : Int) + ((sumL c_Int p.own : Nat) : Int) + ((sumL c_DRes p.tree : Nat) : Int) + ((sumL c_DObj p.heap.arena : Nat) : Int) + ((sumL c_Int p.heap.gc.grey : Nat) : Int) + ((sumL c_DTap p.taps : Nat) : Int) < 0) = false := decide_eq_false (by omega)
  simp only [beq_self_eq_true, Bool.not_true, cond_false, Option.bind_some, mark_DBoot hN (n := 1) b1 (by decide) (by omega), mark_DPart hN (n := 1) b2 (by decide) (by omega), keepL_same (markL_len _ _ _ _), n1,
    held_DPart hN (n := 1) (x := p) (z := DPart.mk (DLabel.mk (markL g_Int c_Int 1 p.label.levels)) (markL g_Int c_Int (1 + ((sumL c_Int p.label.levels : Nat) : Int)) p.own) (markL g_DRes c_DRes (1 + ((sumL c_Int p.label.levels : Nat) : Int) + ((sumL c_Int p.own : Nat) : Int)) p.tree) (DHeap.mk (markL g_DObj c_DObj (1 + ((sumL c_Int p.label.levels : Nat) : Int) + ((sumL c_Int p.own : Nat) : Int) + ((sumL c_DRes p.tree : Nat) : Int)) p.heap.arena) (DGc.mk p.heap.gc.phase p.heap.gc.pos p.heap.gc.round (markL g_Int c_Int (1 + ((sumL c_Int p.label.levels : Nat) : Int) + ((sumL c_Int p.own : Nat) : Int) + ((sumL c_DRes p.tree : Nat) : Int) + ((sumL c_DObj p.heap.arena : Nat) : Int)) p.heap.gc.grey))) (markL g_DTap c_DTap (1 + ((sumL c_Int p.label.levels : Nat) : Int) + ((sumL c_Int p.own : Nat) : Int) + ((sumL c_DRes p.tree : Nat) : Int) + ((sumL c_DObj p.heap.arena : Nat) : Int) + ((sumL c_Int p.heap.gc.grey : Nat) : Int)) p.taps) p.next p.want p.spent p.press p.lost) b2 (by decide) (by omega) rfl rfl rfl rfl rfl rfl, n2, bne_self_eq_false]
end Go.Kx
