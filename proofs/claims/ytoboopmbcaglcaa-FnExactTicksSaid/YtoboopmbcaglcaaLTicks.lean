/- The plain law of 'FnExactTicks'. -/
import Derived.Test.YtoboopmbcaglcaaLaw
import Derived.Test.YtoboopmbcaglcaaWa0
namespace Go.Kx
open Go
set_option linter.unusedVariables false
set_option linter.unusedSimpArgs false
theorem toEntryS_id {N : Nat} {x : List DEntry} (hb : x.length < BIG) (hN : x.length < N) : F_l_toEntryS N x = some x :=
  copyLoop x (F_l_toEntry N) (fun y _ => rfl) hb hN
theorem eqEntry_id (N : Nat) (y : DEntry) : F_l_eqEntry N y y = some true := by simp [F_l_eqEntry, F_l_eqCall]
theorem eqEntryS_id {N : Nat} {x : List DEntry} (hb : x.length < BIG) (hN : x.length < N) : F_l_eqEntryS N x x = some true :=
  eqLoop x (F_l_eqEntry N) (fun y _ => eqEntry_id N y) (Nat.lt_of_lt_of_le hb (by decide)) hN
theorem szEntryS_some (N : Nat) (x : List DEntry) (b : Int) : ∃ r, F_l_szEntryS N x b = some r := by
  unfold F_l_szEntryS
  rcases bcases (decide (IntKind.i64.wrap (b - (x.length : Int)) < 0)) with h | h <;> simp [h]
theorem ticks_some {N : Nat} {x : List DEntry} (hb : x.length < BIG) (hN : x.length < N) : ∃ r, F_s_Ticks N x = some r := by
  have hB : x.length < 16777216 := hb
  have key := iter_ex (body := fun (s1 : Int × Int) => (bif (decide (s1.2 < (x.length : Int))) then ((idx x s1.2).bind fun y3 => bif (y3.kind == 1) then (some (.inl (IntKind.i64.wrap (s1.1 + 1), IntKind.i64.wrap (s1.2 + 1)))) else (some (.inl (s1.1, IntKind.i64.wrap (s1.2 + 1))))) else (some (.inr (s1.1, s1.2))) : Option ((Int × Int) ⊕ (Int × Int))))
    (fun s => x.length - s.2.toNat) (fun s => ∃ k : Nat, s.2 = (k : Int) ∧ k ≤ x.length) ?_ N (0, 0) ⟨0, rfl, by omega⟩ (by simpa using hN)
  · obtain ⟨r, hr⟩ := key
    exact ⟨r.1, by unfold F_s_Ticks; rw [hr]; rfl⟩
  · rintro ⟨c, i⟩ ⟨k, hi, hk⟩
    have hi : i = (k : Int) := hi
    subst hi
    rcases Nat.lt_or_ge k x.length with h | h
    · have hk' : (k : Int) < (x.length : Int) := by omega
      have e1 : idx x ((k : Nat) : Int) = some x[k] := by rw [idx_nat]; exact List.getElem?_eq_getElem h
      have e3 : IntKind.i64.wrap ((k : Int) + 1) = ((k + 1 : Nat) : Int) := by rw [wrap_ok (by omega) (by omega)]; omega
      simp only [hk', decide_true, cond_true, e1, Option.bind_some, e3]
      rcases bcases (x[k].kind == 1) with q | q <;> rw [q] <;> refine ⟨_, rfl, ?_⟩ <;> rintro s' hs <;> cases hs <;> exact ⟨⟨k + 1, rfl, h⟩, by simp; omega⟩
    · refine ⟨.inr (c, (k : Int)), by simp only [show ¬ ((k : Int) < (x.length : Int)) from by omega, decide_false, cond_false], ?_⟩
      rintro s' hs
      cases hs
theorem L_FnExactTicks (x : List DEntry) (hx : x.length ≤ maxLen) : ∃ N, F_l_FnExactTicks N x = some true := by
  refine ⟨x.length + 1, ?_⟩
  unfold F_l_FnExactTicks
  unfold F_l_szEntryS
  rcases Nat.lt_or_ge 1048576 x.length with h | h
  · have hm : x.length ≤ 9223372036854775807 := hx
    have e : IntKind.i64.wrap (1048576 - (x.length : Int)) = 1048576 - (x.length : Int) := wrap_ok (by omega) (by omega)
    have q : decide (IntKind.i64.wrap (1048576 - (x.length : Int)) < 0) = true := by rw [e]; simp; omega
    simp [q]
  · have hB : x.length < BIG := Nat.lt_of_le_of_lt h (by decide)
    obtain ⟨r, hr⟩ := ticks_some hB (Nat.lt_succ_self _)
    have hi : F_i_Ticks (x.length + 1) x = some r := hr
    rcases bcases (decide (IntKind.i64.wrap (1048576 - (x.length : Int)) < 0)) with q | q
    · simp [q]
    · simp [q, toEntryS_id hB (Nat.lt_succ_self _), hr, hi, eqEntryS_id hB (Nat.lt_succ_self _)]
end Go.Kx
