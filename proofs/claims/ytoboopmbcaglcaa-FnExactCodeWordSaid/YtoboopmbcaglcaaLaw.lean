/- Plain laws of the rounds that the printed functions are made of. No program in sight. -/
import Derived.Test.YtoboopmbcaglcaaDat
namespace Go.Kx
open Go
set_option linter.unusedVariables false
set_option linter.unusedSimpArgs false

theorem wrap_ok {n : Int} (h1 : -9223372036854775808 ≤ n) (h2 : n ≤ 9223372036854775807) : IntKind.i64.wrap n = n := by
  simp [IntKind.wrap, IntKind.signed, IntKind.bits]; omega
theorem idx_nat {α : Type} (l : List α) (k : Nat) : idx l (k : Int) = l[k]? := by simp [idx]
/-- more fuel does no harm -/
theorem iter_more {σ ρ : Type} {body : σ → Option (σ ⊕ ρ)} : ∀ {N M : Nat} {s : σ} {r : ρ}, iter body N s = some r → N ≤ M → iter body M s = some r
  | N + 1, M + 1, s, r, h, hm => by
    unfold iter at h ⊢
    cases hb : body s with
    | none => rw [hb] at h; cases h
    | some o =>
      rw [hb] at h
      cases o with
      | inl s' => exact iter_more (N := N) (M := M) h (by omega)
      | inr q => exact h
/-- rounds that count up, one state a place -/
theorem iter_up {σ ρ : Type} {body : σ → Option (σ ⊕ ρ)} (f : Nat → σ) (len : Nat) {r : ρ} (hstep : ∀ k, k < len → body (f k) = some (.inl (f (k + 1)))) (hend : body (f len) = some (.inr r)) :
    ∀ (d : Nat) {N : Nat} {k : Nat}, k + d = len → d < N → iter body N (f k) = some r
  | 0, N + 1, k, hk, _ => by
    have : k = len := by omega
    subst this
    simp [iter, hend]
  | d + 1, N + 1, k, hk, hN => by
    unfold iter
    rw [hstep k (by omega)]
    exact iter_up f len hstep hend d (by omega) (by omega)
theorem iter_from {σ ρ : Type} {body : σ → Option (σ ⊕ ρ)} (f : Nat → σ) (len : Nat) {r : ρ} {N : Nat} (hN : len < N) (hstep : ∀ k, k < len → body (f k) = some (.inl (f (k + 1)))) (hend : body (f len) = some (.inr r)) :
    iter body N (f 0) = some r := iter_up f len hstep hend len (by omega) hN

section
variable {α : Type} [Dat α]
/-- a list, copied place by place -/
theorem copyLoop (x : List α) (g : α → Option α) (hg : ∀ y, y ∈ x → g y = some y) (hb : x.length < BIG) {N : Nat} (hN : x.length < N) :
    ((mk α (x.length : Int)).bind fun y1 => (iter (fun (s : (List α) × Int) => (bif (decide (s.2 < (x.length : Int))) then ((idx x s.2).bind fun y7 => (g y7).bind fun y16 => (idx s.1 s.2).bind fun y18 =>
      (some (s.1.set (s.2 : Int).toNat y16)).bind fun y22 => some (.inl (y22, IntKind.i64.wrap (s.2 + 1)))) else (some (.inr (s.1, s.2))) : Option (((List α) × Int) ⊕ ((List α) × Int)))) N (y1, 0)).bind fun o => some o.1) = some x := by
  have hmk : mk α (x.length : Int) = some (List.replicate x.length Dat.zero) := by simp [mk, hb]
  rw [hmk]
  have hB : x.length < 16777216 := hb
  let f : Nat → (List α) × Int := fun k => (x.take k ++ List.replicate (x.length - k) Dat.zero, (k : Int))
  have h0 : f 0 = (List.replicate x.length Dat.zero, 0) := by simp [f]
  show Option.bind (iter _ N (List.replicate x.length Dat.zero, (0 : Int))) (fun o : (List α) × Int => some o.1) = some x
  rw [← h0, iter_from f x.length (r := (x, (x.length : Int))) hN]
  · rfl
  · intro k hk
    have hk' : (k : Int) < (x.length : Int) := by omega
    have e1 : idx x ((k : Nat) : Int) = some x[k] := by rw [idx_nat]; exact List.getElem?_eq_getElem hk
    have e2 : idx (x.take k ++ List.replicate (x.length - k) Dat.zero) ((k : Nat) : Int) = some Dat.zero := by
      rw [idx_nat, List.getElem?_append_right (by simp; omega)]
      simp [List.getElem?_replicate]; omega
    have e3 : IntKind.i64.wrap ((k : Int) + 1) = ((k + 1 : Nat) : Int) := by rw [wrap_ok (by omega) (by omega)]; omega
    have e4 : (x.take k ++ List.replicate (x.length - k) Dat.zero).set k x[k] = x.take (k + 1) ++ List.replicate (x.length - (k + 1)) Dat.zero := by
      have : x.length - k = (x.length - (k + 1)) + 1 := by omega
      rw [this, List.replicate_succ, List.set_append_right _ _ (by simp; omega)]
      have : k - (x.take k).length = 0 := by simp; omega
      rw [this, List.set_cons_zero, List.take_succ_eq_append_getElem hk, List.append_assoc]
      rfl
    simp only [f, hk', decide_true, cond_true, e1, e2, hg _ (List.getElem_mem hk), Option.bind_some, e3, Int.toNat_natCast, e4]
  · simp [f]
end
/-- a list is as itself, told place by place -/
theorem eqLoop {α : Type} (x : List α) (e : α → α → Option Bool) (he : ∀ y, y ∈ x → e y y = some true) (hb : x.length < 9223372036854775807) {N : Nat} (hN : x.length < N) :
    (bif ((x.length : Int) != (x.length : Int)) then (some false) else ((iter (fun (s2 : Int) => (bif (decide (s2 < (x.length : Int))) then ((idx x s2).bind fun y4 => (idx x s2).bind fun y13 => (e y4 y13).bind fun y22 =>
      bif (!y22) then (some (.inr (.inr false))) else (some (.inl (IntKind.i64.wrap (s2 + 1))))) else (some (.inr (.inl s2))) : Option (Int ⊕ (Int ⊕ Bool)))) N 0).bind fun o25 => Sum.elim (fun o25 => some true) (fun r28 => some r28) o25)) = some true := by
  have h0 : ((x.length : Int) != (x.length : Int)) = false := by simp
  rw [h0, cond_false]
  rw [show (0 : Int) = (fun k : Nat => (k : Int)) 0 from rfl, iter_from (fun k : Nat => (k : Int)) x.length (r := .inl (x.length : Int)) hN]
  · rfl
  · intro k hk
    have hk' : (k : Int) < (x.length : Int) := by omega
    have e1 : idx x ((k : Nat) : Int) = some x[k] := by rw [idx_nat]; exact List.getElem?_eq_getElem hk
    have e3 : IntKind.i64.wrap ((k : Int) + 1) = ((k + 1 : Nat) : Int) := by rw [wrap_ok (by omega) (by omega)]; omega
    simp only [hk', decide_true, cond_true, e1, Option.bind_some, he _ (List.getElem_mem hk), Bool.not_true, cond_false, e3]
  · simp
/-- rounds come to an end -/
theorem iter_ex {σ ρ : Type} {body : σ → Option (σ ⊕ ρ)} (μ : σ → Nat) (I : σ → Prop) (h : ∀ s, I s → ∃ o, body s = some o ∧ ∀ s', o = .inl s' → I s' ∧ μ s' < μ s) : ∀ (N : Nat) (s : σ), I s → μ s < N → ∃ r, iter body N s = some r
  | 0, s, _, hN => by omega
  | N + 1, s, hI, hN => by
    obtain ⟨o, ho, hs⟩ := h s hI
    unfold iter
    rw [ho]
    cases o with
    | inr r => exact ⟨r, rfl⟩
    | inl s' =>
      obtain ⟨h1, h2⟩ := hs s' rfl
      exact iter_ex μ I h N s' h1 (by omega)
end Go.Kx
