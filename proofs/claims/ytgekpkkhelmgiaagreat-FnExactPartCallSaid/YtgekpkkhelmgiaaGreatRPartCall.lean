/- 'FnExactPartCall' returns true whatever the input, and the input reads as it did. No further condition. -/
import Derived.Test.YtgekpkkhelmgiaaGreatRows
import Derived.Test.YtgekpkkhelmgiaaGreatTy
import Derived.Test.YtgekpkkhelmgiaaGreatLPartCall
import Derived.Test.YtgekpkkhelmgiaaGreatWa15
namespace Go.Proofs.YtgekpkkhelmgiaaGreat.fnExactPartCall
open Go Go.Kx Go.ChangeShapes Go.WideShapes Go.ChangeAt Go.RowKit
set_option linter.unusedVariables false
set_option linter.unusedSimpArgs false
set_option maxRecDepth 100000
theorem own : ownKnob Tryz.prog.godebug = none := by kernel_rfl
theorem contract (H : Type) (enc : TypeId × Value → H) (W : World) (base : Nat) (args : Array Value) (ds gs : List (DataW H)) (before : List MemPlace)
    (hval : ∀ (j : Nat) t v, Tryz.f3.params[j]? = some t → args[j]? = some v → Value.okWide Tryz.prog W .any base t v)
    (hW : DataW.Whole enc Tryz.prog Tryz.f3.params.toList Rows.fnExactPartCallSpec.vars false W args.toList ds gs before) :
    Calls Tryz.prog 3 args W fun e W' => ∃ v, e = .returned v ∧ Rows.fnExactPartCallSpec.post enc Tryz.prog Tryz.f3 false true false false W args v W' := by
  have hW' := hW
  obtain ⟨p, q, hA0, hV, rfl, hfz, hnd⟩ := hW
  have hA : DataW.TrodAll enc Tryz.prog W 0 (fun _ => true) true Tryz.f3.params.toList args.toList ds p := hA0
  rw [Tryz.params3] at hA hval
  obtain ⟨v0, vs0, d0, ds0, p0, q0, hargs, rfl, rfl, h0, r0⟩ := trodAll_cons hA
  obtain ⟨v1, vs1, d1, ds1, p1, q1, rfl, rfl, rfl, h1, r1⟩ := trodAll_cons r0
  obtain ⟨v2, vs2, d2, ds2, p2, q2, rfl, rfl, rfl, h2, r2⟩ := trodAll_cons r1
  obtain ⟨v3, vs3, d3, ds3, p3, q3, rfl, rfl, rfl, h3, r3⟩ := trodAll_cons r2
  obtain ⟨v4, vs4, d4, ds4, p4, q4, rfl, rfl, rfl, h4, r4⟩ := trodAll_cons r3
  obtain ⟨rfl, rfl, rfl⟩ := trodAll_nil r4
  obtain rfl : args = #[v0, v1, v2, v3, v4] := by cases args; simp_all
  obtain ⟨rfl, rfl⟩ := trodVars_none hV
  obtain ⟨cs0, rfl, _⟩ := okWide_struct Tryz.underlying35 (hval 0 35 v0 rfl rfl)
  obtain ⟨x0, e0, ft0⟩ := op35.arg h0
  obtain ⟨a0_0, c0_0, a0_1, c0_1, a0_2, c0_2, a0_3, c0_3, a0_7, c0_7, a0_8, c0_8, e0, hr0_0, hr0_1, hr0_2, hr0_3, hr0_7, hr0_8⟩ := e0
  cases (aggOf e0)
  obtain ⟨x1, rfl, _, _, hw1⟩ := open_int Tryz.underlying3 (hval 1 3 v1 rfl rfl) h1
  have ft1 := wf_fit hw1
  obtain ⟨x2, rfl, _, _, hw2⟩ := open_int Tryz.underlying3 (hval 2 3 v2 rfl rfl) h2
  have ft2 := wf_fit hw2
  obtain ⟨x3, rfl, _, _, hw3⟩ := open_int Tryz.underlying3 (hval 3 3 v3 rfl rfl) h3
  have ft3 := wf_fit hw3
  obtain ⟨cs4, rfl, _⟩ := okWide_struct Tryz.underlying37 (hval 4 37 v4 rfl rfl)
  obtain ⟨x4, e4, ft4⟩ := op37.arg h4
  cases (aggOf e4)
  obtain ⟨N, hN⟩ := L_FnExactPartCall ft0 ft1 ft2 ft3 ft4
  refine Calls.mono (W_l_FnExactPartCall hN rfl hr0_0 rfl hr0_1 rfl hr0_2 rfl hr0_3 rfl hr0_7 rfl hr0_8) fun e W' he => ?_
  cases e with
  | returned v =>
    obtain ⟨rfl, hS⟩ := he
    exact ⟨_, rfl, lawPost (by kernel_rfl) (by rw [Tryz.params3]; exact of_decide_eq_true (by kernel_rfl)) rfl (by kernel_rfl) Tryz.underlying4 hW' (fun _ => rfl) (fun _ => rfl) (fun _ => rfl) hS.below⟩
  | _ => exact he.elim
theorem lifted (os : Os) (started : os.Started) (H : Type) (enc : TypeId × Value → H) :
    ReturnsInHanded {} Tryz.checked os 3 .any (Rows.fnExactPartCallSpec.pre6 enc Tryz.prog Tryz.f3 Rows.fnExactPartCallRow.domain false) (Rows.fnExactPartCallSpec.post enc Tryz.prog Tryz.f3 false true false false) := by
  refine returnsInHanded_of_change (C := Tryz.checked) own started (by kernel_rfl) Tryz.func3
    (ChangeSpec.witness6 (enc := enc) (C := Tryz.checked) false ⟨#[], #[.agg #[.slice none 0 0, .slice none 0 0, .slice none 0 0, .slice none 0 0, .int .i64 0, .int .i64 0, .int .i64 0, .slice none 0 0, .slice none 0 0, .int .i64 0, .int .i64 0, .int .i64 0, .int .i64 0, .int .i64 0, .int .i64 0, .int .i64 0], .int .i64 0, .int .i64 0, .int .i64 0, .agg #[.int .i64 0, .int .i64 0, .int .i64 0, .int .i64 0, .int .i64 0, .int .i64 0]], []⟩ 8 (by kernel_rfl) (by kernel_rfl) (by kernel_rfl) (by kernel_rfl)) ?_
  intro W base args ds gs before hval hW _ _
  exact contract H enc W base args ds gs before hval hW
theorem over : Rows.fnExactPartCallRow.holds Tryz.pinned (OpenSpec.ofChange Rows.fnExactPartCallSpec) :=
  OpenClaim.holds_of_wide 3 Tryz.f3 rfl rfl rfl rfl rfl rfl rfl ⟨rfl, rfl, rfl, rfl, rfl⟩ rfl rfl rfl rfl rfl (by kernel_rfl) Tryz.func3 (by kernel_rfl)
    (of_decide_eq_true (by kernel_rfl)) (by unfold Func.isWrapper; first | (rw [if_pos (by decide +kernel)]; kernel_rfl) | (rw [if_neg (by decide +kernel)]; exact ⟨rfl, rfl⟩))
    (fun os started H enc _ => lifted os started H enc)
theorem proved : Rows.FnExactPartCallSaid := over
#print axioms proved
end Go.Proofs.YtgekpkkhelmgiaaGreat.fnExactPartCall
