/- The plain law of 'FnExactStillThere'. No program in sight. -/
import Derived.Test.YtdjpppkdngmeaaaGreatLHandle
namespace Go.Kx
open Go
set_option linter.unusedVariables false
set_option linter.unusedSimpArgs false
set_option maxRecDepth 10000
def objAt (w : DWorld) (h : Int) : DObj := nth (nth w.parts (hPart h)).heap.arena (hSlot h)
def thereP (w : DWorld) (h : Int) : Bool := hasPart w (hPart h) && (((objAt w h).kind != 0) && ((objAt w h).gen == hGen h))
def stillThere (w : DWorld) (l : List Int) : List Int := if worldOk w then l.filter (thereP w) else []
theorem stillThere_len (w : DWorld) (l : List Int) : (stillThere w l).length ≤ l.length := by
  unfold stillThere
  split
  · exact List.length_filter_le _ _
  · exact Nat.zero_le _
theorem i_StillThere {N : Nat} (hN : BIG ≤ N) {w : DWorld} {l : List Int} (hb : szL sz_DPart w.parts < BIG) (hl : l.length < BIG) : F_i_StillThere N w l = some (stillThere w l) := by
  unfold F_i_StillThere stillThere
  rw [i_WorldOk hN hb, Option.bind_some]
  cases hw : worldOk w
  · rfl
  simp only [Bool.not_true, cond_false, if_true]
  rw [iter_coll l (fun _ h => thereP w h) (fun _ y => y) hl hN, collI_filter]
  · rfl
  · intro k t y hy hk ht
    simp only [lt_dec hk, cond_true, idx_nat, hy, Option.bind_some, i_HandlePart, i_hasPart (szL_len hb), i_HandleSlot, i_HandleGen, wrap1 (Nat.lt_trans hk hl), app1 ht (Nat.lt_of_le_of_lt hk hl)]
    unfold thereP
    cases hp : hasPart w (hPart y)
    · rfl
    · obtain ⟨p1, p2⟩ := hasPart_idx hp
      have hr : 0 ≤ hPart y := by unfold hasPart at hp; rw [inR_iff] at hp; exact hp.1
      obtain ⟨_, s0, s9⟩ := hSlot_rng hr
      simp only [Bool.not_true, cond_false, p1, ((partOk_ar (worldOk_part hw p2)).at s0 s9).1, Option.bind_some, bAnd, Bool.true_and]
      show (bif ((objAt w y).kind != 0) && ((objAt w y).gen == hGen y) then _ else _) = _
      cases ((objAt w y).kind != 0) && ((objAt w y).gen == hGen y) <;> rfl
  · intro t
    simp only [ge_dec, cond_false]
theorem s_StillThere {N : Nat} (hN : BIG ≤ N) {w : DWorld} {l : List Int} (hb : szL sz_DPart w.parts < BIG) (hW : wW w.parts) (hl : l.length < BIG) : F_s_StillThere N w l = some (stillThere w l) := by
  have hlB : w.parts.length < 16777216 := szL_len hb
  unfold F_s_StillThere stillThere
  rw [s_WorldOk hN hb hW, Option.bind_some]
  cases hw : worldOk w
  · rfl
  simp only [Bool.not_true, cond_false, if_true]
  rw [wrap_ok (by omega) (by omega), iter_coll l (fun _ h => thereP w h) (fun _ y => y) hl hN, collI_filter]
  · rfl
  · intro k t y hy hk ht
    simp only [lt_dec hk, cond_true, idx_nat, hy, Option.bind_some, s_HandlePart, s_in, s_HandleSlot, s_HandleGen, wrap1 (Nat.lt_trans hk hl), app1 ht (Nat.lt_of_le_of_lt hk hl)]
    rw [show inR (hPart y) 0 ((w.parts.length : Int) - 1) = hasPart w (hPart y) from rfl]
    unfold thereP
    cases hp : hasPart w (hPart y)
    · rfl
    · obtain ⟨p1, p2⟩ := hasPart_idx hp
      have hr : 0 ≤ hPart y := by unfold hasPart at hp; rw [inR_iff] at hp; exact hp.1
      obtain ⟨_, s0, s9⟩ := hSlot_rng hr
      simp only [Bool.not_true, cond_false, p1, ((partOk_ar (worldOk_part hw p2)).at s0 s9).1, Option.bind_some, bAnd, Bool.true_and]
      show (bif ((objAt w y).kind != 0) && ((objAt w y).gen == hGen y) then _ else _) = _
      cases ((objAt w y).kind != 0) && ((objAt w y).gen == hGen y) <;> rfl
  · intro t
    simp only [ge_dec, cond_false]
theorem L_FnExactStillThere {w : DWorld} {l : List Int} (h : Fit.fit w) (hl : Fit.fit l) : ∃ N, F_l_FnExactStillThere N w l = some true := by
  suffices q : ∀ N, BIG ≤ N → F_l_FnExactStillThere N w l = some true from ⟨BIG, q BIG (Nat.le_refl _)⟩
  intro N hN
  unfold F_l_FnExactStillThere
  cases hd : decide ((l.length : Int) > 1048576)
  · have hl1 : l.length ≤ 1048576 := by simp at hd; omega
    simp only [cond_false]
    refine guard (by decide) (by decide) (r_DWorld hN (by decide) (by decide) h) fun r h0 h1 hs => ?_
    have b1 : sz_DWorld w < BIG := small hs
    have hs' : szL sz_DPart w.parts ≤ 1048576 := by unfold sz_DWorld at hs; omega
    have b3 : szL sz_DPart w.parts < BIG := small hs'
    have b2 : l.length < BIG := small hl1
    have s0 := stillThere_len w l
    have b4 : (stillThere w l).length < BIG := Nat.lt_of_le_of_lt s0 b2
    have s1 := sle_DPart w.parts
    have s2 := sle_Int l
    have s3 := sle_Int (stillThere w l)
    have n1 : decide (1 + ((sumL c_DPart w.parts : Nat) : Int) + ((sumL c_Int l : Nat) : Int) < 0) = false := decide_eq_false (by omega)
    have n2 : decide (1 + ((sumL c_Int (stillThere w l) : Nat) : Int) < 0) = false := decide_eq_false (by omega)
    simp only [t_DWorld hN b1, tS_Int hN b2, s_StillThere hN b3 (fit_wW h) b2, i_StillThere hN b3 b2, eS_Int hN b4, e_DWorld hN b1, eS_Int hN b2, Option.bind_some, Bool.not_true, cond_false, mark_DWorld hN (n := 1) b1 (by decide) (by omega),
      markS_Int hN (n := 1 + ((sumL c_DPart w.parts : Nat) : Int)) b2 (by omega) (by omega), keepL_same (markL_len _ _ _ _), n1, markS_Int hN (n := 1) b4 (by decide) (by omega), heldS_Int hN (n := 1) b4 (by decide) (by omega), n2, bne_self_eq_false]
  · rfl
end Go.Kx
