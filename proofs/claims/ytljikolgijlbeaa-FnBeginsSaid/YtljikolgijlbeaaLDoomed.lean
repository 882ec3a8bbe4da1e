/- The plain law of 'FnExactDoomed'. No program in sight. -/
import Derived.Test.YtljikolgijlbeaaLHandle
namespace Go.Kx
open Go
set_option linter.unusedVariables false
set_option linter.unusedSimpArgs false
set_option maxRecDepth 10000
def handleOf (p i g : Int) : Int := if inR p 0 2 && (inR i 0 9 && inR g 0 999) then IntKind.i64.wrap ((IntKind.i64.wrap ((IntKind.i64.wrap ((IntKind.i64.wrap (g * 10)) + i)) * 3)) + p) else -1
theorem i_HandleOf (N : Nat) (p i g : Int) : F_i_HandleOf N p i g = some (handleOf p i g) := by
  unfold F_i_HandleOf handleOf
  simp only [i_isPart, i_isSlot, i_in, Option.bind_some, bOr]
  cases inR p 0 2 <;> cases inR i 0 9 <;> cases inR g 0 999 <;> rfl
theorem s_HandleOf (N : Nat) (p i g : Int) : F_s_HandleOf N p i g = some (handleOf p i g) := by
  unfold F_s_HandleOf handleOf
  simp only [s_l8Slot, s_in, Option.bind_some, bOr]
  cases inR p 0 2 <;> cases inR i 0 9 <;> cases inR g 0 999 <;> rfl
def garbP (l : List DObj) (k : Nat) (b : Bool) : Bool := !b && ((nth l (k : Int)).kind != 0)
def garbage (l : List DObj) (now : Int) : List Int := collI (garbP l) (fun k _ => (k : Int)) 0 (reach l now)
theorem reach_nil {l : List DObj} (h : arenaOk l = false) (now : Int) : reach l now = [] := by unfold reach; rw [h]; rfl
theorem garbage_len (l : List DObj) (now : Int) : (garbage l now).length ≤ 10 := by
  unfold garbage
  refine Nat.le_trans (collI_len _ _ _ _) ?_
  cases h : arenaOk l
  · rw [reach_nil h]; exact Nat.zero_le _
  · rw [reach_len (arenaOk_iff.1 h)]; exact Nat.le_refl _
theorem garbage_rng {l : List DObj} {now k : Int} (h : k ∈ garbage l now) : Ar l ∧ 0 ≤ k ∧ k ≤ 9 := by
  unfold garbage at h
  cases ha : arenaOk l
  · rw [reach_nil ha] at h; simp [collI] at h
  · have har := arenaOk_iff.1 ha
    obtain ⟨j, b, h1, _, h3⟩ := collI_mem.1 h
    have := lt_of_some h1
    rw [reach_len har] at this
    have h3 : k = ((0 + j : Nat) : Int) := h3
    exact ⟨har, by omega, by omega⟩
theorem reachIdx {l : List DObj} {now : Int} {k : Nat} {b : Bool} (h : (reach l now)[k]? = some b) : Ar l ∧ k < 10 := by
  cases ha : arenaOk l
  · rw [reach_nil ha] at h; cases h
  · have har := arenaOk_iff.1 ha
    have := lt_of_some h
    rw [reach_len har] at this
    exact ⟨har, this⟩
theorem reach_lenB (l : List DObj) (now : Int) : (reach l now).length < BIG := by
  cases ha : arenaOk l
  · rw [reach_nil ha]; decide
  · rw [reach_len (arenaOk_iff.1 ha)]; decide
theorem i_Garbage {N : Nat} (hN : BIG ≤ N) {l : List DObj} (hb : szL sz_DObj l < BIG) (now : Int) : F_i_Garbage N l now = some (garbage l now) := by
  have hl := reach_lenB l now
  unfold F_i_Garbage garbage
  rw [i_Reach hN hb, Option.bind_some, iter_coll (reach l now) (garbP l) (fun k _ => (k : Int)) hl hN]
  · rfl
  · intro k t b hy hk ht
    obtain ⟨har, hk10⟩ := reachIdx hy
    have e := (har.at (i := (k : Int)) (by omega) (by omega)).1
    rw [idx_nat] at e
    simp only [lt_dec hk, cond_true, idx_nat, hy, e, Option.bind_some, bAnd, wrap1 (Nat.lt_trans hk hl), app1 ht (Nat.lt_of_le_of_lt hk hl)]
    show (bif garbP l k b then _ else _) = _
    cases garbP l k b <;> rfl
  · intro t
    simp only [ge_dec, cond_false]
def doomedOf (now : Int) (k : Nat) (p : DPart) : List Int := (garbage p.heap.arena now).map fun i => handleOf (k : Int) i (nth p.heap.arena i).gen
def doomed (w : DWorld) : List Int := if worldOk w then foldI (fun k acc p => acc ++ doomedOf w.now k p) 0 [] w.parts else []
theorem doomLoop {N : Nat} (hN : BIG ≤ N) {p : DPart} {now k : Int} {acc : List Int} (ha : acc.length ≤ 1000) {H : Int → Int → Int → Option Int} (hH : ∀ a b c, H a b c = some (handleOf a b c)) :
    iter (fun (s43 : (List Int) × Int) => (bif (decide (s43.2 < ((garbage p.heap.arena now).length : Int))) then ((idx (garbage p.heap.arena now) s43.2).bind fun y46 => (idx p.heap.arena y46).bind fun y59 => (H k y46 y59.gen).bind fun y77 => (app s43.1 ([y77] : List Int)).bind fun y82 => some (.inl (y82, IntKind.i64.wrap (s43.2 + 1)))) else (some (.inr (s43.1, s43.2))) : Option (((List Int) × Int) ⊕ ((List Int) × Int)))) N (acc, 0) =
      some (acc ++ (garbage p.heap.arena now).map (fun i => handleOf k i (nth p.heap.arena i).gen), ((garbage p.heap.arena now).length : Int)) := by
  have hg := garbage_len p.heap.arena now
  have hB : (16777216 : Nat) = BIG := rfl
  have e : ∀ (l : List Int) (j : Nat) (acc : List Int), foldI (fun _ (acc : List Int) i => acc ++ [handleOf k i (nth p.heap.arena i).gen]) j acc l = acc ++ l.map (fun i => handleOf k i (nth p.heap.arena i).gen) := by
    intro l
    induction l with
    | nil => intro j acc; simp [foldI]
    | cons y l ih => intro j acc; unfold foldI; rw [ih]; simp
  rw [show (acc, (0 : Int)) = (fun (j : Nat) (t : List Int) => (t, (j : Int))) 0 acc from rfl,
    iter_fold (garbage p.heap.arena now) (fun (j : Nat) (t : List Int) => (t, (j : Int))) (fun _ acc i => acc ++ [handleOf k i (nth p.heap.arena i).gen]) (fun t => (t, ((garbage p.heap.arena now).length : Int))) (fun j t => t.length ≤ 1000 + j) ?_ ?_ (by omega) ha, e]
  · intro j t y hy hj ht
    obtain ⟨har, y0, y9⟩ := garbage_rng (List.mem_of_getElem? hy)
    refine ⟨?_, by simp; omega⟩
    simp only [lt_dec hj, cond_true, idx_nat, hy, Option.bind_some, (har.at y0 y9).1, hH, wrap1 (show j < BIG by omega), app1 ht (show 1000 + j + 1 < BIG by omega)]
  · intro t _
    simp only [ge_dec, cond_false]
theorem doomedOf_len (now : Int) (k : Nat) (p : DPart) : (doomedOf now k p).length ≤ 10 := by
  unfold doomedOf; rw [List.length_map]; exact garbage_len _ _
theorem worldOk_len {w : DWorld} (h : worldOk w = true) : 1 ≤ w.parts.length ∧ w.parts.length ≤ 3 := by
  unfold worldOk at h
  simp only [Bool.and_eq_true, inR_iff] at h
  omega
theorem doomed_len (w : DWorld) : (doomed w).length ≤ 30 := by
  unfold doomed
  split
  · rename_i h
    have h3 := (worldOk_len h).2
    have key : ∀ (l : List DPart) (k : Nat) (acc : List Int), (foldI (fun k acc p => acc ++ doomedOf w.now k p) k acc l).length ≤ acc.length + 10 * l.length := by
      intro l
      induction l with
      | nil => intro k acc; simp [foldI]
      | cons p l ih =>
        intro k acc
        have := doomedOf_len w.now k p
        have := ih (k + 1) (acc ++ doomedOf w.now k p)
        unfold foldI
        simp only [List.length_append, List.length_cons] at this ⊢
        omega
    have := key w.parts 0 []
    simp at this
    omega
  · exact Nat.zero_le _
end Go.Kx
