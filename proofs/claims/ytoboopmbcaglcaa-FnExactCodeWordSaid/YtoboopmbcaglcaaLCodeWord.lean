/- The plain law of 'FnExactCodeWord'. -/
import Derived.Test.YtoboopmbcaglcaaLaw
import Derived.Test.YtoboopmbcaglcaaWa0
namespace Go.Kx
open Go
set_option linter.unusedVariables false
set_option linter.unusedSimpArgs false
theorem idx_some {α : Type} (l : List α) (x : Int) (h0 : 0 ≤ x) (h1 : x < (l.length : Int)) : ∃ y, idx l x = some y := by
  refine ⟨l[x.toNat]'(by omega), ?_⟩
  unfold idx
  rw [if_pos h0]
  exact List.getElem?_eq_getElem _
theorem codeWord_some (x : Int) : ∃ r, F_s_CodeWord 0 x = some r := by
  unfold F_s_CodeWord F_s_l1In
  by_cases h0 : x ≥ 0
  · by_cases h8 : x ≤ 8
    · simp only [h0, h8, decide_true, cond_true, Option.bind_some, Bool.not_true, cond_false]
      obtain ⟨y, hy⟩ := idx_some ([(⟨#[111, 107]⟩ : ByteArray), (⟨#[100, 101, 97, 100]⟩ : ByteArray), (⟨#[98, 97, 100]⟩ : ByteArray), (⟨#[102, 108, 111, 119]⟩ : ByteArray), (⟨#[115, 116, 97, 108, 101]⟩ : ByteArray), (⟨#[107, 105, 110, 100]⟩ : ByteArray), (⟨#[112, 111, 111, 114]⟩ : ByteArray), (⟨#[102, 117, 108, 108]⟩ : ByteArray), (⟨#[98, 117, 115, 121]⟩ : ByteArray)] : List Str) x h0 (by simp; omega)
      exact ⟨y, by simp [hy]⟩
    · exact ⟨⟨#[]⟩, by simp only [h0, h8, decide_true, decide_false, cond_true, Option.bind_some, Bool.not_false]⟩
  · exact ⟨⟨#[]⟩, by simp only [h0, decide_false, cond_false, Option.bind_some, Bool.not_false, cond_true]⟩
theorem L_FnExactCodeWord (x : Int) : ∃ N, F_l_FnExactCodeWord N x = some true := by
  refine ⟨0, ?_⟩
  obtain ⟨r, hr⟩ := codeWord_some x
  have hi : F_i_CodeWord 0 x = some r := hr
  unfold F_l_FnExactCodeWord
  simp [hr, hi]
end Go.Kx
