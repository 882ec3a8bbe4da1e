/- The plain law of 'FnBegins'. No program in sight. -/
import Derived.Test.YtljikolgijlbeaaLDraw
import Derived.Test.YtljikolgijlbeaaLNew
import Derived.Test.YtljikolgijlbeaaLDoomed
import Derived.Test.YtljikolgijlbeaaLRun
namespace Go.Kx
open Go
set_option linter.unusedVariables false
set_option linter.unusedSimpArgs false
set_option maxRecDepth 10000
theorem sameInts_refl {N : Nat} (hN : BIG ≤ N) {l : List Int} (hl : l.length < BIG) : F_l_sameInts N l l = some true := by
  unfold F_l_sameInts
  rw [iter_all l (fun _ _ => true) (.inl (l.length : Int)) (.inr false) (Nat.lt_of_lt_of_le hl hN)]
  · rw [show allI (fun _ _ => true) 0 l = true from allI_iff.2 fun _ _ _ => rfl]
    simp
  · intro k y hy hk
    simp only [lt_dec hk, cond_true, idx_nat, hy, Option.bind_some, bne_self_eq_false, cond_false, wrap1 (Nat.lt_trans hk hl), if_true]
  · simp only [ge_dec, cond_false]
theorem newHeap_ok : heapOk newHeap = true := by decide +kernel
theorem newPart_ok {b : DBoot} (h : bOk b = true) : partOk (newPart b) = true := by
  unfold bOk at h
  simp only [Bool.and_eq_true] at h
  obtain ⟨h1, h2, h3⟩ := h
  unfold partOk
  show (labelOk b.label && (ownOk b.own && (treeOk (treeNew b.amt) && (heapOk newHeap && (!decide (((([] : List DTap)).length : Int) > 3) && (([] : List DTap).all tapOk && restOk (newPart b))))))) = true
  rw [h2, h3, treeOk_new, h1, newHeap_ok]
  rfl
theorem new_threads {b : DBoot} (h : bOk b = true) : threads (newPart b) 0 = [1] := by
  unfold threads
  rw [if_pos (newPart_ok h)]
  show collI (fun k b => b && ((nth newHeap.arena (k : Int)).kind == 4)) (fun k _ => (k : Int)) 0 (reach newHeap.arena 0) = [1]
  decide +kernel
theorem new_safe : gcSafe newHeap 0 = true := by decide +kernel
theorem new_held (b : DBoot) : held (newPart b) = 0 := by
  show ((newHeap.arena.take 10).filter objOk).foldl (fun n o => IntKind.i64.wrap (n + o.pages)) 0 = 0
  decide +kernel
theorem new_garbage : garbage newHeap.arena 0 = [] := by decide +kernel
theorem new_sum {b : DBoot} (h : bOk b = true) : partSum (newPart b) = b.amt := by
  have h1 : amtOk b.amt = true := by
    unfold bOk at h; simp only [Bool.and_eq_true] at h; exact h.1
  have h2 := amtOk_na h1
  unfold partSum
  rw [new_held]
  have ht : treeSum (newPart b).tree = b.amt := by
    unfold treeSum
    rw [show (newPart b).tree = treeNew b.amt from rfl, treeOk_new, h1, if_pos rfl]
    show amtSum ⟨0, 0, 0⟩ b.amt = b.amt
    exact h2
  rw [ht, show (newPart b).spent = ⟨0, 0, 0⟩ from rfl, if_pos (by decide)]
  unfold amtOk okA at h1
  simp only [Bool.and_eq_true, inR_iff] at h1
  unfold amtSum
  simp only [Int.add_zero]
  rw [wrap_ok (n := b.amt.pages) (by omega) (by omega), wrap_ok (n := b.amt.pages) (by omega) (by omega), wrap_ok (by omega) (by omega), wrap_ok (by omega) (by omega)]
theorem new_run {b : DBoot} (h : bOk b = true) : runnable (newPart b) 0 = if b.amt.cpu > 0 then [1] else [] := by
  unfold runnable
  rw [new_threads h]
  have hr : resOf (newPart b) 0 = 0 := by unfold resOf; split <;> rfl
  have hb : (balAt (newPart b) 1) = b.amt := by
    unfold balAt
    rw [show (nth (newPart b).heap.arena 1).res = 0 from rfl, hr]
    rfl
  have hm : mayRun (newPart b) 1 = decide (b.amt.cpu > 0) := by
    unfold mayRun
    rw [hb, show (nth (newPart b).heap.arena 1).wait = 0 from rfl]
    rfl
  rw [List.filter_cons, List.filter_nil, hm]
  by_cases hc : b.amt.cpu > 0 <;> simp [hc]
theorem L_FnBegins {x : List U8} (hx : Fit.fit x) : ∃ N, F_l_FnBegins N x = some true := by
  refine ⟨BIG + 1, ?_⟩
  have hN : BIG ≤ BIG + 1 := Nat.le_succ _
  unfold F_l_FnBegins F_l_big
  simp only [Option.bind_some]
  cases hb : decide ((x.length : Int) > 1048576)
  case true => rfl
  have hl := of_decide_eq_false hb
  obtain ⟨b, e, h1, h2⟩ := d_PartNew hN (l := x) (by omega)
  have hB : (16777216 : Nat) = BIG := rfl
  have s1 : sz_DBoot b < BIG := by unfold sz_DBoot sz_DLabel; omega
  have c1 : b.label.levels.length < BIG := by omega
  have c2 : b.own.length < BIG := by omega
  have s2 : sz_DPart (newPart b) < BIG := by rw [newPart_sz]; unfold sz_DBoot sz_DLabel; omega
  have s3 : szL sz_DObj newHeap.arena < BIG := by decide
  have hk : (bif labelOk b.label then bif ownOk b.own then some (!(bOk b) == amtOk b.amt) else some (!(bOk b == false)) else some (!(bOk b == false)) : Option Bool) = some (bif labelOk b.label && ownOk b.own then !(bOk b) == amtOk b.amt else !(bOk b == false)) := by
    cases labelOk b.label <;> cases ownOk b.own <;> rfl
  simp only [cond_false, e, Option.bind_some, i_PartNew (Nat.le_refl _) s1, s_LabelOk hN c1, s_OwnOk hN c2, s_AmtOk]
  unfold partNew
  cases hok : bOk b
  · have : (bif labelOk b.label then bif ownOk b.own then some (!(false == amtOk b.amt)) else some (!(false == false)) else some (!(false == false)) : Option Bool) = some false := by
      unfold bOk at hok
      revert hok
      cases labelOk b.label <;> cases ownOk b.own <;> cases amtOk b.amt <;> simp
    simp only [if_false, Bool.false_eq_true, this, Option.bind_some, cond_false, Bool.not_false, cond_true]
    rfl
  · have : (bif labelOk b.label then bif ownOk b.own then some (!(true == amtOk b.amt)) else some (!(true == false)) else some (!(true == false)) : Option Bool) = some false := by
      unfold bOk at hok
      revert hok
      cases labelOk b.label <;> cases ownOk b.own <;> cases amtOk b.amt <;> simp
    have w1 : wP (newPart b) := by
      intro o ho
      have : ∀ o ∈ arena2, -9223372036854775808 ≤ o.wait := by decide
      exact this o ho
    have s4 : (newPart b).heap.gc.grey.length < BIG := by show newHeap.gc.grey.length < BIG; decide
    have g1 : garbage (newPart b).heap.arena 0 = [] := new_garbage
    have g2 : gcSafe (newPart b).heap 0 = true := new_safe
    have k1 : canCall (newPart b) 0 1 = true := by unfold canCall; rw [new_threads hok]; rfl
    have k0 : canCall (newPart b) 0 0 = false := by unfold canCall; rw [new_threads hok]; rfl
    simp only [if_true, this, Option.bind_some, cond_false, cond_true, Bool.not_true, Bool.not_false, s_PartOk hN s2 w1, i_PartOk hN s2, newPart_ok hok,
      s_GcSafe hN (h := (newPart b).heap) s3 s4 w1, g2, i_Threads hN s2, new_threads hok, sameInts_refl hN (l := [1]) (by decide), i_CanCall hN s2, k1, k0, i_PartSum hN s2, new_sum hok, i_Held hN s2, new_held, i_Garbage hN (l := (newPart b).heap.arena) s3, g1, i_Runnable hN s2, new_run hok,
      decide_true, beq_self_eq_true]
    by_cases hc : b.amt.cpu > 0 <;> simp [hc]
end Go.Kx
