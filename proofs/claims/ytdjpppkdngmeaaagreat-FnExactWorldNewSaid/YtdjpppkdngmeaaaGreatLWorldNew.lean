/- The plain law of 'FnExactWorldNew'. No program in sight. -/
import Derived.Test.YtdjpppkdngmeaaaGreatLNew
namespace Go.Kx
open Go
set_option linter.unusedVariables false
set_option linter.unusedSimpArgs false
set_option maxRecDepth 10000
theorem partNew_sz (b : DBoot) : sz_DPart (partNew b).1 ≤ sz_DBoot b + 20 := by
  unfold partNew
  split
  · rw [newPart_sz]; exact Nat.le_refl _
  · exact Nat.le_trans (show sz_DPart zPart ≤ 20 by decide) (by omega)
def partsNew (b : List DBoot) : List DPart := b.map fun x => (partNew x).1
def worldNew (b : List DBoot) : DWorld := if bootOk b then ⟨0, partsNew b⟩ else ⟨0, []⟩
theorem partsNew_sum : ∀ b : List DBoot, sumL sz_DPart (partsNew b) ≤ sumL sz_DBoot b + 20 * b.length
  | [] => Nat.zero_le _
  | x :: b => by
    have h1 := partNew_sz x
    have h2 := partsNew_sum b
    unfold partsNew at h2 ⊢
    simp only [List.map_cons, sumL, List.length_cons, Nat.mul_add]; omega
theorem worldNew_sz (b : List DBoot) : szL sz_DPart (worldNew b).parts ≤ szL sz_DBoot b + 60 := by
  have h1 := partsNew_sum b
  unfold worldNew szL
  split
  · rename_i h
    unfold bootOk at h
    rw [Bool.and_eq_true, inR_iff] at h
    show (partsNew b).length + sumL sz_DPart (partsNew b) ≤ _
    have : (partsNew b).length = b.length := by simp [partsNew]
    omega
  · exact Nat.zero_le _
theorem newLoop {N : Nat} (hN : BIG ≤ N) {b : List DBoot} (hl : b.length < BIG) {F : DBoot → Option (DPart × Bool)} (hF : ∀ y, y ∈ b → F y = some (partNew y)) :
    iter (fun (s10 : Int × (List DPart)) => (bif (decide (s10.1 < (b.length : Int))) then ((idx b s10.1).bind fun y13 => (F y13).bind fun y28 => (app s10.2 [y28.1]).bind fun y45 => some (.inl (IntKind.i64.wrap (s10.1 + 1), y45))) else (some (.inr (s10.1, s10.2))) : Option ((Int × (List DPart)) ⊕ (Int × (List DPart))))) N (0, []) = some ((b.length : Int), partsNew b) := by
  have e : ∀ (l : List DBoot) (k : Nat) (acc : List DPart), foldI (fun _ (acc : List DPart) y => acc ++ [(partNew y).1]) k acc l = acc ++ partsNew l := by
    intro l
    induction l with
    | nil => intro k acc; simp [foldI, partsNew]
    | cons y l ih => intro k acc; unfold foldI; rw [ih]; simp [partsNew]
  rw [show ((0 : Int), ([] : List DPart)) = (fun (k : Nat) (t : List DPart) => ((k : Int), t)) 0 [] from rfl,
    iter_fold b (fun (k : Nat) (t : List DPart) => ((k : Int), t)) (fun _ acc y => acc ++ [(partNew y).1]) (fun t => ((b.length : Int), t)) (fun k t => t.length ≤ k) ?_ ?_ (Nat.lt_of_lt_of_le hl hN) (by simp), e]
  · simp
  · intro k t y hy hk ht
    refine ⟨?_, by simp; omega⟩
    simp only [lt_dec hk, cond_true, idx_nat, hy, Option.bind_some, hF y (List.mem_of_getElem? hy), wrap1 (Nat.lt_trans hk hl), app1 ht (Nat.lt_of_le_of_lt hk hl)]
  · intro t _
    simp only [ge_dec, cond_false]
theorem i_WorldNew {N : Nat} (hN : BIG + 1 ≤ N) {b : List DBoot} (hb : szL sz_DBoot b < BIG) : F_i_WorldNew N b = some (worldNew b) := by
  have hN' : BIG ≤ N := Nat.le_of_succ_le hN
  unfold F_i_WorldNew worldNew
  rw [i_BootOk hN' hb, Option.bind_some]
  cases bootOk b
  · rfl
  · simp only [Bool.not_true, cond_false, if_true]
    rw [newLoop hN' (szL_len hb) fun y hy => i_PartNew hN (szL_mem hb hy)]; rfl
theorem s_WorldNew {N : Nat} (hN : BIG ≤ N) {b : List DBoot} (hb : szL sz_DBoot b ≤ 1048576) : F_s_WorldNew N b = some (worldNew b) := by
  have hb' : szL sz_DBoot b < BIG := small hb
  unfold F_s_WorldNew worldNew
  rw [s_BootOk hN hb', Option.bind_some]
  cases bootOk b
  · rfl
  · simp only [Bool.not_true, cond_false, if_true]
    rw [newLoop hN (szL_len hb') fun y hy => s_PartNew hN (Nat.le_of_lt_succ (szL_mem (Nat.lt_succ_of_le hb) hy))]; rfl
theorem L_FnExactWorldNew {x : List DBoot} (hx : Fit.fit x) : ∃ N, F_l_FnExactWorldNew N x = some true := by
  suffices q : ∀ N, BIG + 1 ≤ N → F_l_FnExactWorldNew N x = some true from ⟨BIG + 1, q (BIG + 1) (Nat.le_refl _)⟩
  intro N hN1
  have hN : BIG ≤ N := Nat.le_of_succ_le hN1
  unfold F_l_FnExactWorldNew
  refine guard (by decide) (by decide) (rS_DBoot hN (by decide) (by decide) hx) fun r h0 h1 hs => ?_
  have b1 : szL sz_DBoot x < BIG := small hs
  have sw := worldNew_sz x
  simp only [tS_DBoot hN b1, s_WorldNew hN hs, i_WorldNew hN1 b1, Option.bind_some]
  generalize worldNew x = w at *
  have hB : (16777216 : Nat) = BIG := rfl
  have b2 : sz_DWorld w < BIG := by unfold sz_DWorld; omega
  have s1 := sle_DBoot x
  have s2 := sle_DPart w.parts
  have n1 : decide (1 + ((sumL c_DBoot x : Nat) : Int) < 0) = false := decide_eq_false (by omega)
  have n2 : decide (1 + ((sumL c_DPart w.parts : Nat) : Int) < 0) = false := decide_eq_false (by omega)
  simp only [e_DWorld hN b2, eS_DBoot hN b1, Option.bind_some, Bool.not_true, cond_false, markS_DBoot hN (n := 1) b1 (by decide) (by omega), keepL_same (markL_len _ _ _ _), n1,
    mark_DWorld hN (n := 1) b2 (by decide) (by omega), held_DWorld hN (n := 1) (x := w) (z := DWorld.mk w.now (markL g_DPart c_DPart 1 w.parts)) b2 (by decide) (by omega) rfl, n2, bne_self_eq_false]
end Go.Kx
