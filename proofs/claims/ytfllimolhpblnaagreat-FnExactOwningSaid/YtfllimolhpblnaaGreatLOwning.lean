/- The plain law of 'FnExactOwning'. No program in sight. -/
import Derived.Test.YtfllimolhpblnaaGreatLHandle
namespace Go.Kx
open Go
set_option linter.unusedVariables false
set_option linter.unusedSimpArgs false
set_option maxRecDepth 10000
def needs (own : List Int) (a b : DLabel) : List Int := if flowsFor own a b then aboveL b.levels 0 a.levels else []
theorem needs_len (own : List Int) (a b : DLabel) : (needs own a b).length ≤ a.levels.length := by
  unfold needs
  split
  · exact aboveL_len _ _ _
  · exact Nat.zero_le _
theorem s_FlowsFor {N : Nat} (hN : BIG ≤ N) {own : List Int} {a b : DLabel} (ho : own.length < BIG) (ha : a.levels.length < BIG) (hb : b.levels.length < BIG) : F_s_FlowsFor N own a b = some (flowsFor own a b) := by
  unfold F_s_FlowsFor flowsFor
  simp only [s_OwnOk hN ho, s_LabelOk hN ha, s_LabelOk hN hb, Option.bind_some, bOr]
  cases h1 : ownOk own
  · rfl
  cases h2 : labelOk a
  · rfl
  cases h3 : labelOk b
  · rfl
  have l2 := (labelOk_iff.1 h2).1
  have l3 := (labelOk_iff.1 h3).1
  simp only [Bool.not_true, Bool.or_self, cond_false, Bool.true_and]
  rw [iter_4 a.levels l2 (fun k y => !decide (y > (b.levels[k]?).getD 0) || own.contains (k : Int)) (.inl 4) (.inr false) hN]
  · simp only [Option.bind_some]
    cases allI _ 0 a.levels <;> rfl
  · intro k y hy hk hd
    have hz : b.levels[k]? = some (b.levels[k]'(by omega)) := List.getElem?_eq_getElem _
    simp only [hd, cond_true, idx_nat, hy, hz, Option.bind_some, Option.getD_some, s_l4Has hN ho, wrap1 (show k < BIG from Nat.lt_trans hk (by decide))]
    cases decide (y > b.levels[k]'(by omega)) <;> cases own.contains (k : Int) <;> rfl
  · rfl
theorem i_Needs {N : Nat} (hN : BIG ≤ N) {own : List Int} {a b : DLabel} (ho : own.length < BIG) (ha : a.levels.length < BIG) (hb : b.levels.length < BIG) : F_i_Needs N own a b = some (needs own a b) := by
  unfold F_i_Needs needs
  rw [i_FlowsFor hN ho ha hb, Option.bind_some]
  cases h : flowsFor own a b
  · rfl
  · unfold flowsFor at h
    simp only [Bool.and_eq_true] at h
    have l2 := (labelOk_iff.1 h.2.1).1
    have l3 := (labelOk_iff.1 h.2.2.1).1
    simp only [Bool.not_true, cond_false, if_true, i_above hN ha (b := b) (by omega), Option.bind_some]
theorem s_Needs {N : Nat} (hN : BIG ≤ N) {own : List Int} {a b : DLabel} (ho : own.length < BIG) (ha : a.levels.length < BIG) (hb : b.levels.length < BIG) : F_s_Needs N own a b = some (needs own a b) := by
  unfold F_s_Needs needs
  rw [s_FlowsFor hN ho ha hb, Option.bind_some]
  cases h : flowsFor own a b
  · rfl
  · unfold flowsFor at h
    simp only [Bool.and_eq_true] at h
    have l2 := (labelOk_iff.1 h.2.1).1
    have l3 := (labelOk_iff.1 h.2.2.1).1
    simp only [Bool.not_true, cond_false, if_true]
    rw [show (([] : List Int), (0 : Int)) = (fun (k : Nat) (t : List Int) => (t, (k : Int))) 0 [] from rfl,
      iter_fold a.levels (fun k (t : List Int) => (t, (k : Int))) (fun k acc y => if decide (y > (b.levels[k]?).getD 0) then acc ++ [(k : Int)] else acc) (fun t => (t, (4 : Int))) (fun k t => t.length ≤ k) ?_ ?_ (Nat.lt_of_lt_of_le ha hN) (by simp), foldI_above]
    · simp
    · intro k t y hy hk hI
      have hz : b.levels[k]? = some (b.levels[k]'(by omega)) := List.getElem?_eq_getElem _
      have hd : decide ((k : Int) < 4) = true := by simp; omega
      simp only [hd, cond_true, idx_nat, hy, hz, Option.bind_some, Option.getD_some, wrap1 (Nat.lt_trans hk ha), app1 hI (Nat.lt_of_le_of_lt hk ha)]
      cases decide (y > b.levels[k]'(by omega))
      · exact ⟨rfl, by simp; omega⟩
      · exact ⟨rfl, by simp; omega⟩
    · intro t _
      rw [l2]; rfl
def target (p : Int) (c : DCall) : Int := if (c.kind == 7) || (c.kind == 17) then hPart c.a else if c.kind == 16 then c.b else p
def other (w : DWorld) (p : Int) (c : DCall) : Int := if hasPart w (target p c) then target p c else -1
theorem i_otherPart {N : Nat} {w : DWorld} (hl : w.parts.length < BIG) (p : Int) (c : DCall) : F_i_otherPart N w p c = some (other w p c) := by
  unfold F_i_otherPart other target
  simp only [i_HandlePart, i_hasPart hl, Option.bind_some]
  cases c.kind == 7 <;> cases c.kind == 17 <;> cases c.kind == 16 <;> simp only [cond_true, cond_false, Option.bind_some, Bool.or_self, Bool.or_true, Bool.true_or, Bool.or_false, if_true, if_false, Bool.false_eq_true] <;>
    first | (cases hasPart w (hPart c.a) <;> rfl) | (cases hasPart w c.b <;> rfl) | (cases hasPart w p <;> rfl)
theorem s_l17Target {N : Nat} {w : DWorld} (hl : w.parts.length < BIG) (p : Int) (c : DCall) : F_s_l17Target N w p c = some (other w p c) := by
  have hl : w.parts.length < 16777216 := hl
  unfold F_s_l17Target other target hasPart
  simp only [s_HandlePart, s_in, Option.bind_some]
  rw [wrap_ok (by omega) (by omega)]
  cases c.kind == 7 <;> cases c.kind == 17 <;> cases c.kind == 16 <;> simp only [cond_true, cond_false, Option.bind_some, Bool.or_self, Bool.or_true, Bool.true_or, Bool.or_false, if_true, if_false, Bool.false_eq_true] <;>
    first | (cases inR (hPart c.a) 0 ((w.parts.length : Int) - 1) <;> rfl) | (cases inR c.b 0 ((w.parts.length : Int) - 1) <;> rfl) | (cases inR p 0 ((w.parts.length : Int) - 1) <;> rfl)
theorem other_has {w : DWorld} {p : Int} {c : DCall} (h : decide (other w p c < 0) = false) : hasPart w (other w p c) = true := by
  unfold other at h ⊢
  cases hp : hasPart w (target p c)
  · simp [hp] at h
  · simp [hp]
def owning (w : DWorld) (p : Int) (c : DCall) : List Int :=
  if worldOk w && (hasPart w p && !decide (other w p c < 0)) then
    (if c.kind == 7 then needs (nth w.parts p).own (nth w.parts (other w p c)).label (nth w.parts p).label else needs (nth w.parts p).own (nth w.parts p).label (nth w.parts (other w p c)).label)
  else []
theorem i_Owning {N : Nat} (hN : BIG ≤ N) {w : DWorld} {p : Int} {c : DCall} (hb : szL sz_DPart w.parts < BIG) : F_i_Owning N w p c = some (owning w p c) := by
  unfold F_i_Owning owning
  simp only [i_WorldOk hN hb, i_hasPart (szL_len hb), i_otherPart (szL_len hb), Option.bind_some, bOr]
  cases hw : worldOk w
  · rfl
  cases hp : hasPart w p
  · rfl
  simp only [Bool.not_true, Bool.or_self, cond_false, Bool.true_and]
  cases hq : decide (other w p c < 0)
  · obtain ⟨p1, p2⟩ := hasPart_idx hp
    obtain ⟨q1, q2⟩ := hasPart_idx (other_has hq)
    obtain ⟨a1, a2, _⟩ := szPart (szL_mem hb p2)
    obtain ⟨b1, _⟩ := szPart (szL_mem hb q2)
    simp only [cond_false, p1, q1, Option.bind_some, Bool.not_false, if_true]
    rw [i_Needs hN a2 b1 a1, i_Needs hN a2 a1 b1]
    cases c.kind == 7 <;> rfl
  · rfl
theorem s_Owning {N : Nat} (hN : BIG ≤ N) {w : DWorld} {p : Int} {c : DCall} (hb : szL sz_DPart w.parts < BIG) (hW : wW w.parts) : F_s_Owning N w p c = some (owning w p c) := by
  have hl : w.parts.length < 16777216 := szL_len hb
  unfold F_s_Owning owning
  simp only [s_WorldOk hN hb hW, s_in, s_l17Target (szL_len hb), Option.bind_some, bOr]
  rw [wrap_ok (by omega) (by omega), show inR p 0 ((w.parts.length : Int) - 1) = hasPart w p from rfl]
  cases hw : worldOk w
  · rfl
  cases hp : hasPart w p
  · rfl
  simp only [Bool.not_true, Bool.false_or, Bool.true_and]
  cases hq : decide (other w p c < 0)
  · obtain ⟨p1, p2⟩ := hasPart_idx hp
    obtain ⟨q1, q2⟩ := hasPart_idx (other_has hq)
    obtain ⟨a1, a2, _⟩ := szPart (szL_mem hb p2)
    obtain ⟨b1, _⟩ := szPart (szL_mem hb q2)
    simp only [cond_false, p1, q1, Option.bind_some, Bool.not_false, if_true]
    rw [s_Needs hN a2 b1 a1, s_Needs hN a2 a1 b1]
    cases c.kind == 7 <;> rfl
  · rfl
theorem owning_len {w : DWorld} {p : Int} {c : DCall} : (owning w p c).length ≤ 4 := by
  have key : ∀ own a b, (needs own a b).length ≤ 4 := fun own a b => by
    unfold needs
    split
    · rename_i h
      unfold flowsFor at h
      simp only [Bool.and_eq_true] at h
      have := aboveL_len b.levels a.levels 0
      have := (labelOk_iff.1 h.2.1).1
      omega
    · exact Nat.zero_le _
  unfold owning
  split
  · split
    · exact key _ _ _
    · exact key _ _ _
  · exact Nat.zero_le _
theorem L_FnExactOwning {w : DWorld} {p : Int} {c : DCall} (h : Fit.fit w) (hp : Fit.fit p) (hc : Fit.fit c) : ∃ N, F_l_FnExactOwning N w p c = some true := by
  suffices q : ∀ N, BIG ≤ N → F_l_FnExactOwning N w p c = some true from ⟨BIG, q BIG (Nat.le_refl _)⟩
  intro N hN
  unfold F_l_FnExactOwning
  refine guard (by decide) (by decide) (r_DWorld hN (by decide) (by decide) h) fun r h0 h1 hs => ?_
  have b1 : sz_DWorld w < BIG := small hs
  have hs' : szL sz_DPart w.parts ≤ 1048576 := by unfold sz_DWorld at hs; omega
  have b3 : szL sz_DPart w.parts < BIG := small hs'
  have s0 := owning_len (w := w) (p := p) (c := c)
  have b4 : (owning w p c).length < BIG := Nat.lt_of_le_of_lt s0 (by decide)
  have s1 := sle_DPart w.parts
  have s3 := sle_Int (owning w p c)
  have n1 : decide (1 + ((sumL c_DPart w.parts : Nat) : Int) < 0) = false := decide_eq_false (by omega)
  have n2 : decide (1 + ((sumL c_Int (owning w p c) : Nat) : Int) < 0) = false := decide_eq_false (by omega)
  simp only [t_DWorld hN b1, t_DCall, s_Owning hN b3 (fit_wW h), i_Owning hN b3, eS_Int hN b4, e_DWorld hN b1, Option.bind_some, Bool.not_true, cond_false, mark_DWorld hN (n := 1) b1 (by decide) (by omega),
    keepL_same (markL_len _ _ _ _), n1, markS_Int hN (n := 1) b4 (by decide) (by omega), heldS_Int hN (n := 1) b4 (by decide) (by omega), n2, bne_self_eq_false]
end Go.Kx
