/- The plain law of 'FnExactSeenParts'. No program in sight. -/
import Derived.Test.YtdjpppkdngmeaaaLCopy
namespace Go.Kx
open Go
set_option linter.unusedVariables false
set_option linter.unusedSimpArgs false
set_option maxRecDepth 10000
def seenParts (w : DWorld) (l : DLabel) : List DPart := (w.parts.take 3).filter fun p => flows p.label l
theorem seenParts_sz (w : DWorld) (l : DLabel) : szL sz_DPart (seenParts w l) ≤ szL sz_DPart w.parts := Nat.le_trans (szL_filter _ _ _) (szL_take _ _ _)
theorem i_SeenParts {N : Nat} (hN : BIG ≤ N) {w : DWorld} {l : DLabel} (hb : szL sz_DPart w.parts < BIG) (hl : l.levels.length < BIG) : F_i_SeenParts N w l = some (seenParts w l) := by
  have hb3 : szL sz_DPart (w.parts.take 3) < BIG := Nat.lt_of_le_of_lt (szL_take _ _ _) hb
  have hl3 := szL_len hb3
  unfold F_i_SeenParts seenParts
  have e : w.parts.take (min 3 w.parts.length) = w.parts.take 3 := by
    rcases Nat.lt_or_ge 3 w.parts.length with h | h
    · rw [show min 3 w.parts.length = 3 by omega]
    · rw [show min 3 w.parts.length = w.parts.length by omega, List.take_of_length_le h, List.take_length]
  rw [min3, sub_take (by omega), e, Option.bind_some, iter_coll (w.parts.take 3) (fun _ p => flows p.label l) (fun _ y => y) hl3 hN, collI_filter]
  · rfl
  · intro k t y hy hk ht
    have hz := szL_mem hb3 (List.mem_of_getElem? hy)
    simp only [lt_dec hk, cond_true, idx_nat, hy, Option.bind_some, i_Flows hN (szPart hz).1 hl, i_copyPart hN hz, wrap1 (Nat.lt_trans hk hl3), app1 ht (Nat.lt_of_le_of_lt hk hl3)]
    cases flows y.label l <;> rfl
  · intro t
    simp only [ge_dec, cond_false]
theorem s_SeenParts {N : Nat} (hN : BIG ≤ N) {w : DWorld} {l : DLabel} (hb : szL sz_DPart w.parts < BIG) (hl : l.levels.length < BIG) : F_s_SeenParts N w l = some (seenParts w l) := by
  have hb3 : szL sz_DPart (w.parts.take 3) < BIG := Nat.lt_of_le_of_lt (szL_take _ _ _) hb
  have hl3 := szL_len hb3
  unfold F_s_SeenParts seenParts
  rw [iter_coll (w.parts.take 3) (fun _ p => flows p.label l) (fun _ y => y) hl3 hN, collI_filter]
  · rfl
  · intro k t y hy hk ht
    have hz := szL_mem hb3 (List.mem_of_getElem? hy)
    have hk2 : k < 3 ∧ k < w.parts.length := by simp at hk; omega
    have h3 : decide ((k : Int) < 3) = true := by simp; omega
    have hy' : w.parts[k]? = some y := by rwa [List.getElem?_take_of_lt hk2.1] at hy
    simp only [lt_dec hk2.2, h3, cond_true, idx_nat, hy', Option.bind_some, s_Flows hN (szPart hz).1 hl, s_l13Copy hN hz, wrap1 (Nat.lt_trans hk hl3), app1 ht (Nat.lt_of_le_of_lt hk hl3)]
    cases flows y.label l <;> rfl
  · intro t
    simp only [List.length_take]
    rcases Nat.lt_or_ge 3 w.parts.length with h | h
    · have e : min 3 w.parts.length = 3 := by omega
      have h3 : decide (((3 : Nat) : Int) < (w.parts.length : Int)) = true := by simp; omega
      simp only [e, h3, cond_true]; rfl
    · have e : min 3 w.parts.length = w.parts.length := by omega
      simp only [e, ge_dec, cond_false, Option.bind_some]
theorem L_FnExactSeenParts {w : DWorld} {l : DLabel} (hw : Fit.fit w) (hl : Fit.fit l) : ∃ N, F_l_FnExactSeenParts N w l = some true := by
  suffices h : ∀ N, BIG ≤ N → F_l_FnExactSeenParts N w l = some true from ⟨BIG, h BIG (Nat.le_refl _)⟩
  intro N hN
  unfold F_l_FnExactSeenParts
  refine guard (by decide) (by decide) (r_DWorld hN (by decide) (by decide) hw) fun b h0 h1 hs => ?_
  refine guard h0 h1 (r_DLabel hN h0 h1 hl) fun b h0 h1 hs3 => ?_
  have b1 : sz_DWorld w < BIG := small hs
  have hs' : szL sz_DPart w.parts ≤ 1048576 := by unfold sz_DWorld at hs; omega
  have b2 : szL sz_DPart w.parts < BIG := small hs'
  have b3 : sz_DLabel l < BIG := small hs3
  have b4 : l.levels.length < BIG := b3
  have s5 := seenParts_sz w l
  have b5 : szL sz_DPart (seenParts w l) < BIG := Nat.lt_of_le_of_lt s5 b2
  have s1 := sle_DPart w.parts
  have s3 := sle_Int l.levels
  have s4 := sle_DPart (seenParts w l)
  have hs3' : l.levels.length ≤ 1048576 := hs3
  have n1 : decide (1 + ((sumL c_DPart w.parts : Nat) : Int) + ((sumL c_Int l.levels : Nat) : Int) < 0) = false := decide_eq_false (by omega)
  have n2 : decide (1 + ((sumL c_DPart (seenParts w l) : Nat) : Int) < 0) = false := decide_eq_false (by omega)
  simp only [t_DWorld hN b1, t_DLabel hN b3, s_SeenParts hN b2 b4, i_SeenParts hN b2 b4, eS_DPart hN b5, e_DWorld hN b1, e_DLabel hN b3, Option.bind_some, Bool.not_true, cond_false,
    mark_DWorld hN (n := 1) b1 (by decide) (by omega), mark_DLabel hN (n := 1 + ((sumL c_DPart w.parts : Nat) : Int)) b3 (by omega) (by omega),
    markS_DPart hN (n := 1) b5 (by decide) (by omega), heldS_DPart hN (n := 1) b5 (by decide) (by omega), keepL_same (markL_len _ _ _ _), n1, n2, bne_self_eq_false]
end Go.Kx
