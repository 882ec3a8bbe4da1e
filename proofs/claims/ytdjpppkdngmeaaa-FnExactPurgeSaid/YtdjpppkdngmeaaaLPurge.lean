/- The plain law of 'FnExactPurge'. No program in sight. -/
import Derived.Test.YtdjpppkdngmeaaaLBoot
namespace Go.Kx
open Go
set_option linter.unusedVariables false
set_option linter.unusedSimpArgs false
set_option maxRecDepth 10000
def purge (bs : List DBoot) (es : List DEntry) (l : DLabel) : List DEntry := es.filter fun e => seen bs e l
theorem purge_len (bs : List DBoot) (es : List DEntry) (l : DLabel) : (purge bs es l).length ≤ es.length := List.length_filter_le _ _
theorem i_Purge {N : Nat} (hN : BIG ≤ N) {bs : List DBoot} {es : List DEntry} {l : DLabel} (hb : szL sz_DBoot bs < BIG) (he : es.length < BIG) (hl : l.levels.length < BIG) : F_i_Purge N bs es l = some (purge bs es l) := by
  unfold F_i_Purge purge
  rw [iter_coll es (fun _ e => seen bs e l) (fun _ y => y) he hN, collI_filter]
  · rfl
  · intro k t y hy hk ht
    simp only [lt_dec hk, cond_true, idx_nat, hy, Option.bind_some, i_Seen hN hb hl, wrap1 (Nat.lt_trans hk he), app1 ht (Nat.lt_of_le_of_lt hk he)]
    cases seen bs y l <;> rfl
  · intro t
    simp only [ge_dec, cond_false]
theorem s_Purge {N : Nat} (hN : BIG ≤ N) {bs : List DBoot} {es : List DEntry} {l : DLabel} (hb : szL sz_DBoot bs < BIG) (he : es.length < BIG) (hl : l.levels.length < BIG) : F_s_Purge N bs es l = some (purge bs es l) := by
  unfold F_s_Purge purge
  rw [iter_coll es (fun _ e => seen bs e l) (fun _ y => y) he hN, collI_filter]
  · rfl
  · intro k t y hy hk ht
    simp only [lt_dec hk, cond_true, idx_nat, hy, Option.bind_some, s_Seen hN hb hl, wrap1 (Nat.lt_trans hk he), app1 ht (Nat.lt_of_le_of_lt hk he)]
    cases seen bs y l <;> rfl
  · intro t
    simp only [ge_dec, cond_false]
theorem L_FnExactPurge {x : List DBoot} {e : List DEntry} {l : DLabel} (hx : Fit.fit x) (he : Fit.fit e) (hl : Fit.fit l) : ∃ N, F_l_FnExactPurge N x e l = some true := by
  suffices h : ∀ N, BIG ≤ N → F_l_FnExactPurge N x e l = some true from ⟨BIG, h BIG (Nat.le_refl _)⟩
  intro N hN
  unfold F_l_FnExactPurge
  refine guard (by decide) (by decide) (rS_DBoot hN (by decide) (by decide) hx) fun b h0 h1 hs => ?_
  refine guard h0 h1 (rS_DEntry hN h0 h1 he) fun b h0 h1 hs2 => ?_
  refine guard h0 h1 (r_DLabel hN h0 h1 hl) fun b h0 h1 hs3 => ?_
  have b1 : szL sz_DBoot x < BIG := small hs
  have b2 : e.length < BIG := small hs2
  have b3 : sz_DLabel l < BIG := small hs3
  have b4 : l.levels.length < BIG := b3
  have b5 : (purge x e l).length < BIG := Nat.lt_of_le_of_lt (purge_len x e l) b2
  have s1 := sle_DBoot x
  have s2 := sle_DEntry e
  have s3 := sle_Int l.levels
  have s4 := sle_DEntry (purge x e l)
  have s5 := purge_len x e l
  have hs3' : l.levels.length ≤ 1048576 := hs3
  have n1 : decide (1 + ((sumL c_DBoot x : Nat) : Int) + ((sumL c_DEntry e : Nat) : Int) + ((sumL c_Int l.levels : Nat) : Int) < 0) = false := decide_eq_false (by omega)
  have n2 : decide (1 + ((sumL c_DEntry (purge x e l) : Nat) : Int) < 0) = false := decide_eq_false (by omega)
  simp only [tS_DBoot hN b1, tS_DEntry hN b2, t_DLabel hN b3, s_Purge hN b1 b2 b4, i_Purge hN b1 b2 b4, eS_DEntry hN b5, eS_DBoot hN b1, eS_DEntry hN b2, e_DLabel hN b3, Option.bind_some, Bool.not_true, cond_false,
    markS_DBoot hN (n := 1) b1 (by decide) (by omega), markS_DEntry hN (n := 1 + ((sumL c_DBoot x : Nat) : Int)) b2 (by omega) (by omega), mark_DLabel hN (n := 1 + ((sumL c_DBoot x : Nat) : Int) + ((sumL c_DEntry e : Nat) : Int)) b3 (by omega) (by omega),
    markS_DEntry hN (n := 1) b5 (by decide) (by omega), heldS_DEntry hN (n := 1) b5 (by decide) (by omega), keepL_same (markL_len _ _ _ _), n1, n2, bne_self_eq_false]
end Go.Kx
