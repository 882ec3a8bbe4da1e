/- Plain laws: ranges, amounts, labels, owned categories, what is started. No program in sight. -/
import Derived.Test.YtljikolgijlbeaaGreatHa
namespace Go.Kx
open Go
set_option linter.unusedVariables false
set_option linter.unusedSimpArgs false
set_option maxRecDepth 10000

theorem bAnd (p q : Bool) : (bif p then some q else some false) = some (p && q) := by cases p <;> rfl
theorem bOr (p q : Bool) : (bif p then some true else some q) = some (p || q) := by cases p <;> rfl
theorem bNF (p q : Bool) : (bif p then some false else some q) = some (!p && q) := by cases p <;> rfl
theorem bNT (p q : Bool) : (bif p then some q else some true) = some (!p || q) := by cases p <;> rfl
def inR (a b c : Int) : Bool := decide (b ≤ a) && decide (a ≤ c)
theorem inR_iff {a b c : Int} : inR a b c = true ↔ b ≤ a ∧ a ≤ c := by simp [inR]
theorem s_in (N : Nat) (a b c : Int) : F_s_l1In N a b c = some (inR a b c) := bAnd _ _
theorem i_in (N : Nat) (a b c : Int) : F_i_within N a b c = some (inR a b c) := bAnd _ _
def okA (n : Int) : Bool := inR n 0 1000000
theorem s_5 (N : Nat) (a : Int) : F_s_l5In N a = some (okA a) := by unfold F_s_l5In; rw [s_in]; rfl
theorem i_isAmount (N : Nat) (a : Int) : F_i_isAmount N a = some (okA a) := by unfold F_i_isAmount; rw [i_in]; rfl
def amtOk (a : DAmt) : Bool := okA a.pages && (okA a.rent && okA a.cpu)
theorem s_AmtOk (N : Nat) (a : DAmt) : F_s_AmtOk N a = some (amtOk a) := by unfold F_s_AmtOk; simp only [s_5, Option.bind_some, bAnd]; rfl
theorem i_AmtOk (N : Nat) (a : DAmt) : F_i_AmtOk N a = some (amtOk a) := by unfold F_i_AmtOk; simp only [i_isAmount, Option.bind_some, bAnd]; rfl
def amtSum (a b : DAmt) : DAmt := DAmt.mk (IntKind.i64.wrap (a.pages + b.pages)) (IntKind.i64.wrap (a.rent + b.rent)) (IntKind.i64.wrap (a.cpu + b.cpu))
def amtAdd (a b : DAmt) : DAmt × Bool := if amtOk a && amtOk b && amtOk (amtSum a b) then (amtSum a b, true) else (a, false)
theorem s_AmtAdd (N : Nat) (a b : DAmt) : F_s_AmtAdd N a b = some (amtAdd a b) := by
  unfold F_s_AmtAdd amtAdd
  simp only [s_AmtOk, Option.bind_some, bOr]
  show (bif (!amtOk a || !amtOk b) then some (a, false) else (bif !amtOk (amtSum a b) then some (a, false) else some (amtSum a b, true))) = _
  cases amtOk a <;> cases amtOk b <;> cases amtOk (amtSum a b) <;> rfl
theorem i_sumOf (N : Nat) (a b : DAmt) : F_i_sumOf N a b = some (amtSum a b) := rfl
theorem i_AmtAdd (N : Nat) (a b : DAmt) : F_i_AmtAdd N a b = some (amtAdd a b) := by
  unfold F_i_AmtAdd amtAdd
  simp only [i_AmtOk, i_sumOf, Option.bind_some, bOr]
  cases amtOk a <;> cases amtOk b <;> cases amtOk (amtSum a b) <;> rfl

def labelOk (l : DLabel) : Bool := ((l.levels.length : Int) == 4) && l.levels.all fun y => inR y 0 3
theorem labelOk_iff {l : DLabel} : labelOk l = true ↔ l.levels.length = 4 ∧ ∀ y, y ∈ l.levels → 0 ≤ y ∧ y ≤ 3 := by
  simp only [labelOk, Bool.and_eq_true, List.all_eq_true, inR_iff, beq_iff_eq]
  constructor
  · rintro ⟨h1, h2⟩; exact ⟨by omega, h2⟩
  · rintro ⟨h1, h2⟩; exact ⟨by omega, h2⟩
theorem s_LabelOk {N : Nat} (hN : BIG ≤ N) {l : DLabel} (hb : l.levels.length < BIG) : F_s_LabelOk N l = some (labelOk l) := by
  unfold F_s_LabelOk labelOk
  rw [iter_all l.levels (fun _ y => inR y 0 3) (.inl (l.levels.length : Int)) (.inr false) (Nat.lt_of_lt_of_le hb hN), allI_const]
  · cases h : ((l.levels.length : Int) == 4)
    · have : ((l.levels.length : Int) != 4) = true := by simp [bne, h]
      simp [this]
    · have : ((l.levels.length : Int) != 4) = false := by simp [bne, h]
      simp only [this, cond_false, Option.bind_some, Bool.true_and]
      cases l.levels.all fun y => inR y 0 3 <;> rfl
  · intro k y hy hk
    simp only [lt_dec hk, cond_true, idx_nat, hy, Option.bind_some, s_in, wrap1 (Nat.lt_trans hk hb)]
    cases inR y 0 3 <;> rfl
  · simp only [ge_dec, cond_false]
theorem i_LabelOk {N : Nat} (hN : BIG ≤ N) {l : DLabel} (hb : l.levels.length < BIG) : F_i_LabelOk N l = some (labelOk l) := by
  unfold F_i_LabelOk labelOk
  rw [iter_all l.levels (fun _ y => inR y 0 3) (.inl (l.levels.length : Int)) (.inr false) (Nat.lt_of_lt_of_le hb hN), allI_const]
  · simp only [Option.bind_some]
    cases l.levels.all fun y => inR y 0 3 <;> simp
  · intro k y hy hk
    simp only [lt_dec hk, cond_true, idx_nat, hy, Option.bind_some, i_in, wrap1 (Nat.lt_trans hk hb)]
    cases inR y 0 3 <;> rfl
  · simp only [ge_dec, cond_false]

/-- category y stands well at place k of l -/
def pOwn (l : List Int) (k : Nat) (y : Int) : Bool := inR y 0 3 && match k with
  | 0 => true
  | j + 1 => !decide (y ≤ (l[j]?).getD 0)
def ownOk (l : List Int) : Bool := allI (pOwn l) 0 l
theorem ownStep {l : List Int} {k : Nat} {y : Int} (hy : l[k]? = some y) (hk : k < l.length) (hb : l.length < BIG) {N : Nat} :
    (bif (!(inR y 0 3)) then (some true) else (bif (decide ((k : Int) > 0)) then ((idx l (IntKind.i64.wrap ((k : Int) - 1))).bind fun y18 => some (decide (y ≤ y18))) else (some false)) : Option Bool) = some (!pOwn l k y) := by
  have hB : l.length < 16777216 := hb
  unfold pOwn
  cases k with
  | zero =>
    have : decide (((0 : Nat) : Int) > 0) = false := by decide
    simp only [this, cond_false]
    cases inR y 0 3 <;> rfl
  | succ j =>
    have : decide (((j + 1 : Nat) : Int) > 0) = true := by simp
    have e : IntKind.i64.wrap (((j + 1 : Nat) : Int) - 1) = (j : Int) := by rw [wrap_ok (by omega) (by omega)]; omega
    have hz : l[j]? = some (l[j]'(by omega)) := List.getElem?_eq_getElem _
    simp only [this, cond_true, e, idx_nat, hz, Option.bind_some, Option.getD_some]
    cases inR y 0 3 <;> simp
theorem s_OwnOk {N : Nat} (hN : BIG ≤ N) {l : List Int} (hb : l.length < BIG) : F_s_OwnOk N l = some (ownOk l) := by
  unfold F_s_OwnOk ownOk
  rw [iter_all l (pOwn l) (.inl (l.length : Int)) (.inr false) (Nat.lt_of_lt_of_le hb hN)]
  · simp only [Option.bind_some]
    cases allI (pOwn l) 0 l <;> rfl
  · intro k y hy hk
    simp only [lt_dec hk, cond_true, idx_nat, hy, Option.bind_some, s_in, wrap1 (Nat.lt_trans hk hb)]
    rw [ownStep hy hk hb (N := N)]
    cases pOwn l k y <;> rfl
  · simp only [ge_dec, cond_false]
theorem i_OwnOk {N : Nat} (hN : BIG ≤ N) {l : List Int} (hb : l.length < BIG) : F_i_OwnOk N l = some (ownOk l) := by
  unfold F_i_OwnOk ownOk
  rw [iter_all l (pOwn l) (.inl (l.length : Int)) (.inr false) (Nat.lt_of_lt_of_le hb hN)]
  · simp only [Option.bind_some]
    cases allI (pOwn l) 0 l <;> rfl
  · intro k y hy hk
    simp only [lt_dec hk, cond_true, idx_nat, hy, Option.bind_some, i_in, wrap1 (Nat.lt_trans hk hb), ge_iff_le]
    rw [ownStep hy hk hb (N := N)]
    cases pOwn l k y <;> rfl
  · simp only [ge_dec, cond_false]
theorem ownOk_len {l : List Int} (h : ownOk l = true) : l.length ≤ 4 := by
  unfold ownOk at h
  rw [allI_iff] at h
  simp only [Nat.zero_add] at h
  have key : ∀ k (hk : k < l.length), (k : Int) ≤ l[k] := by
    intro k
    induction k with
    | zero =>
      intro hk
      have := h 0 _ (List.getElem?_eq_getElem hk)
      simp only [pOwn, Bool.and_eq_true, inR_iff] at this
      have := this.1.1
      omega
    | succ k ih =>
      intro hk
      have i1 := ih (by omega)
      have := h (k + 1) _ (List.getElem?_eq_getElem hk)
      have hz : l[k]? = some (l[k]'(by omega)) := List.getElem?_eq_getElem _
      simp only [pOwn, Bool.and_eq_true, hz, Option.getD_some, Bool.not_eq_true', decide_eq_false_iff_not] at this
      have := this.2
      omega
  rcases Nat.lt_or_ge 4 l.length with hl | hl
  · have h1 := key 4 hl
    have := h 4 _ (List.getElem?_eq_getElem hl)
    simp only [pOwn, Bool.and_eq_true, inR_iff] at this
    have := this.1.2
    omega
  · exact hl

/-! ## labels that flow -/
theorem z_Index {N : Nat} (hN : BIG ≤ N) {l : List Int} {x : Int} (hb : l.length < BIG) : ∃ r, F_z_Index_int N l x = some r ∧ decide (r ≥ 0) = l.contains x := by
  unfold F_z_Index_int
  have hB : l.length < 16777216 := hb
  rw [show (0 : Int) = (fun (k : Nat) (_ : Unit) => (k : Int)) 0 () from rfl, iter_list l (fun k (_ : Unit) => (k : Int)) (fun k _ y => if x == y then .inr (.inr (k : Int)) else .inl ()) (fun _ => .inl (l.length : Int)) (fun _ _ => True) ?_ ?_ (Nat.lt_of_lt_of_le hb hN) trivial]
  · simp only [Option.bind_some]
    have key : ∀ (m : List Int) (k : Nat), ∃ r, Sum.elim (fun _ => some (-1)) (fun r16 => some r16) (runL (ρ := Int ⊕ Int) (fun (k : Nat) (_ : Unit) y => if x == y then .inr (.inr (k : Int)) else .inl ()) (fun _ => .inl (l.length : Int)) k () m) = some r ∧ decide (r ≥ 0) = m.contains x := by
      intro m
      induction m with
      | nil => intro k; exact ⟨-1, rfl, rfl⟩
      | cons y m ih =>
        intro k
        cases hxy : (x == y)
        · obtain ⟨r, h1, h2⟩ := ih (k + 1)
          have hne : x ≠ y := by simpa using hxy
          refine ⟨r, by simpa [runL, hxy] using h1, by rw [h2]; simp [List.contains_cons, hne]⟩
        · have he : x = y := by simpa using hxy
          exact ⟨k, by simp [runL, hxy], by simp [List.contains_cons, he]⟩
    exact key l 0
  · intro k _ y hy hk _
    simp only [lt_dec hk, cond_true, idx_nat, hy, Option.bind_some, wrap1 (Nat.lt_trans hk hb)]
    cases (x == y) <;> simp
  · intro _ _
    simp only [ge_dec, cond_false]
theorem z_Contains {N : Nat} (hN : BIG ≤ N) {l : List Int} {x : Int} (hb : l.length < BIG) : F_z_Contains_int N l x = some (l.contains x) := by
  unfold F_z_Contains_int
  obtain ⟨r, h1, h2⟩ := z_Index hN hb (x := x)
  rw [h1, Option.bind_some, h2]
/-- the categories where a is above b, from place k on -/
def aboveL (b : List Int) : Nat → List Int → List Int
  | _, [] => []
  | k, y :: l => if decide (y > (b[k]?).getD 0) then (k : Int) :: aboveL b (k + 1) l else aboveL b (k + 1) l
theorem aboveL_len (b : List Int) : ∀ (l : List Int) (k : Nat), (aboveL b k l).length ≤ l.length
  | [], _ => Nat.le_refl _
  | y :: l, k => by
    unfold aboveL
    have := aboveL_len b l (k + 1)
    split <;> simp <;> omega
theorem foldI_above (b : List Int) : ∀ (l : List Int) (k : Nat) (acc : List Int), foldI (fun k (acc : List Int) y => if decide (y > (b[k]?).getD 0) then acc ++ [(k : Int)] else acc) k acc l = acc ++ aboveL b k l
  | [], _, acc => by simp [foldI, aboveL]
  | y :: l, k, acc => by
    unfold foldI aboveL
    rw [foldI_above b l]
    cases decide (y > (b[k]?).getD 0) <;> simp
theorem i_above {N : Nat} (hN : BIG ≤ N) {a b : DLabel} (ha : a.levels.length < BIG) (hab : a.levels.length ≤ b.levels.length) : F_i_above N a b = some (aboveL b.levels 0 a.levels) := by
  unfold F_i_above
  rw [show (([] : List Int), (0 : Int)) = (fun (k : Nat) (t : List Int) => (t, (k : Int))) 0 [] from rfl,
    iter_fold a.levels (fun k (t : List Int) => (t, (k : Int))) (fun k acc y => if decide (y > (b.levels[k]?).getD 0) then acc ++ [(k : Int)] else acc) (fun t => (t, (a.levels.length : Int))) (fun k t => t.length ≤ k) ?_ ?_ (Nat.lt_of_lt_of_le ha hN) (by simp), foldI_above]
  · simp
  · intro k t y hy hk hI
    have hz : b.levels[k]? = some (b.levels[k]'(by omega)) := List.getElem?_eq_getElem _
    simp only [lt_dec hk, cond_true, idx_nat, hy, hz, Option.bind_some, Option.getD_some, wrap1 (Nat.lt_trans hk ha)]
    cases decide (y > b.levels[k]'(by omega))
    · exact ⟨rfl, by simp; omega⟩
    · have : app t [(k : Int)] = some (t ++ [(k : Int)]) := by unfold app; rw [if_pos (by simp; omega)]
      simp only [this, Option.bind_some, cond_true, if_true]
      exact ⟨trivial, by simp; omega⟩
  · intro t _
    simp only [ge_dec, cond_false]
/-- what may flow where own may stand between -/
def flowsFor (own : List Int) (a b : DLabel) : Bool := ownOk own && (labelOk a && (labelOk b && allI (fun k y => !decide (y > (b.levels[k]?).getD 0) || own.contains (k : Int)) 0 a.levels))
theorem all_above (b : List Int) (q : Int → Bool) : ∀ (l : List Int) (k : Nat), (aboveL b k l).all q = allI (fun k y => !decide (y > (b[k]?).getD 0) || q (k : Int)) k l
  | [], _ => rfl
  | y :: l, k => by
    unfold aboveL allI
    rw [← all_above b q l (k + 1)]
    cases decide (y > (b[k]?).getD 0) <;> simp
theorem i_FlowsFor {N : Nat} (hN : BIG ≤ N) {own : List Int} {a b : DLabel} (ho : own.length < BIG) (ha : a.levels.length < BIG) (hb : b.levels.length < BIG) : F_i_FlowsFor N own a b = some (flowsFor own a b) := by
  unfold F_i_FlowsFor flowsFor
  simp only [i_OwnOk hN ho, i_LabelOk hN ha, i_LabelOk hN hb, Option.bind_some, bOr]
  cases h1 : ownOk own
  · rfl
  cases h2 : labelOk a
  · rfl
  cases h3 : labelOk b
  · rfl
  have l2 := (labelOk_iff.1 h2).1
  have l3 := (labelOk_iff.1 h3).1
  have hl := aboveL_len b.levels a.levels 0
  have hB : (aboveL b.levels 0 a.levels).length < BIG := Nat.lt_of_le_of_lt hl ha
  simp only [Bool.not_true, Bool.or_self, cond_false, i_above hN ha (b := b) (by omega), Option.bind_some, Bool.true_and]
  rw [iter_all (aboveL b.levels 0 a.levels) (fun _ y => own.contains y) (.inl ((aboveL b.levels 0 a.levels).length : Int)) (.inr false) (Nat.lt_of_lt_of_le hB hN), allI_const, all_above]
  · simp only [Option.bind_some]
    cases allI _ 0 a.levels <;> rfl
  · intro k y hy hk
    simp only [lt_dec hk, cond_true, idx_nat, hy, Option.bind_some, z_Contains hN ho, wrap1 (Nat.lt_trans hk hB)]
    cases own.contains y <;> rfl
  · simp only [ge_dec, cond_false]
def flows (a b : DLabel) : Bool := flowsFor [] a b
theorem iter_4 {α ρ : Type} {body : Int → Option (Int ⊕ ρ)} (x : List α) (h4 : x.length = 4) (p : Nat → α → Bool) (r r' : ρ) {N : Nat} (hN : BIG ≤ N)
    (hs : ∀ (k : Nat) (y : α), x[k]? = some y → k < 4 → decide ((k : Int) < 4) = true → body (k : Int) = some (if p k y then .inl ((k + 1 : Nat) : Int) else .inr r')) (he : body 4 = some (.inr r)) : iter body N 0 = some (if allI p 0 x then r else r') :=
  iter_all x p r r' (by have : 16777216 ≤ N := hN; omega) (fun k y hy hk => hs k y hy (by omega) (by simp; omega)) (by rw [h4]; exact he)
/-! ## what is started -/
/-- the boots from the amounts a on: all right -/
def bootsOk : DAmt → List DBoot → Bool
  | _, [] => true
  | a, b :: l => (amtAdd a b.amt).2 && (labelOk b.label && (ownOk b.own && bootsOk (amtAdd a b.amt).1 l))
def bootOk (l : List DBoot) : Bool := bootsOk ⟨0, 0, 0⟩ l && inR (l.length : Int) 1 3
theorem runL_boots (e : Int) (g : Nat → DAmt → DBoot → DAmt ⊕ ((Int × Int × Int × Int) ⊕ Bool)) (fin : DAmt → ((Int × Int × Int × Int) ⊕ Bool)) (k : Option Bool)
    (hg : ∀ k t y, g k t y = if (amtAdd t y.amt).2 && (labelOk y.label && ownOk y.own) then .inl (amtAdd t y.amt).1 else .inr (.inr false)) (hf : ∀ t, ∃ v, fin t = .inl v) :
    ∀ (l : List DBoot) (j : Nat) (t : DAmt), Sum.elim (fun _ => k) (fun r => some r) (runL g fin j t l) = bif bootsOk t l then k else some false
  | [], j, t => by obtain ⟨v, hv⟩ := hf t; simp [runL, bootsOk, hv]
  | b :: l, j, t => by
    have ih := runL_boots e g fin k hg hf l (j + 1)
    simp only [runL, bootsOk, hg]
    cases (amtAdd t b.amt).2
    · rfl
    cases labelOk b.label
    · rfl
    cases ownOk b.own
    · rfl
    simpa using ih _
theorem szBoot {l : List DBoot} {y : DBoot} (hb : szL sz_DBoot l < BIG) (hy : y ∈ l) : y.label.levels.length < BIG ∧ y.own.length < BIG := by
  have := szL_mem hb hy
  unfold sz_DBoot sz_DLabel at this
  omega
theorem i_BootOk {N : Nat} (hN : BIG ≤ N) {l : List DBoot} (hb : szL sz_DBoot l < BIG) : F_i_BootOk N l = some (bootOk l) := by
  have hl := szL_len hb
  unfold F_i_BootOk bootOk
  rw [show ((0 : Int), (0 : Int), (0 : Int), (0 : Int)) = (fun (k : Nat) (t : DAmt) => ((k : Int), t.pages, t.rent, t.cpu)) 0 ⟨0, 0, 0⟩ from rfl,
    iter_list l (fun (k : Nat) (t : DAmt) => ((k : Int), t.pages, t.rent, t.cpu)) (fun k t y => if (amtAdd t y.amt).2 && (labelOk y.label && ownOk y.own) then .inl (amtAdd t y.amt).1 else .inr (.inr false)) (fun t => .inl ((l.length : Int), t.pages, t.rent, t.cpu)) (fun _ _ => True) ?_ ?_ (Nat.lt_of_lt_of_le hl hN) trivial]
  · simp only [Option.bind_some, i_in]
    rw [runL_boots 0 _ _ _ (fun _ _ _ => rfl) (fun t => ⟨_, rfl⟩), bAnd]
  · intro k t y hy hk _
    obtain ⟨b1, b2⟩ := szBoot hb (List.mem_of_getElem? hy)
    refine ⟨?_, fun _ _ => trivial⟩
    simp only [lt_dec hk, cond_true, idx_nat, hy, Option.bind_some, i_AmtAdd, i_LabelOk hN b1, i_OwnOk hN b2, bOr, wrap1 (Nat.lt_trans hk hl)]
    cases (amtAdd t y.amt).2
    · rfl
    cases labelOk y.label
    · rfl
    cases ownOk y.own <;> rfl
  · intro t _
    simp only [ge_dec, cond_false]
/-- the sum of what is started -/
def bootSum (l : List DBoot) : DAmt := if bootOk l then l.foldl (fun a b => amtSum a b.amt) ⟨0, 0, 0⟩ else ⟨0, 0, 0⟩
theorem bootsOk_sum : ∀ (l : List DBoot) (a : DAmt), bootsOk a l = true → l.foldl (fun a b => (amtAdd a b.amt).1) a = l.foldl (fun a b => amtSum a b.amt) a
  | [], _, _ => rfl
  | b :: l, a, h => by
    simp only [bootsOk, Bool.and_eq_true] at h
    obtain ⟨h1, _, _, h4⟩ := h
    have e : (amtAdd a b.amt).1 = amtSum a b.amt := by
      unfold amtAdd at h1 ⊢
      split <;> simp_all
    rw [List.foldl_cons, List.foldl_cons, e]
    rw [e] at h4
    exact bootsOk_sum l _ h4
/-! ## what is seen -/
def seen (bs : List DBoot) (e : DEntry) (l : DLabel) : Bool := e.kind == 1 || (inR e.part 0 ((bs.length : Int) - 1) && flows ((bs[e.part.toNat]?).getD Dat.zero).label l)
theorem seenIdx {bs : List DBoot} {p : Int} (h : inR p 0 ((bs.length : Int) - 1) = true) : idx bs p = some ((bs[p.toNat]?).getD Dat.zero) ∧ (bs[p.toNat]?).getD Dat.zero ∈ bs := by
  rw [inR_iff] at h
  have hz : bs[p.toNat]? = some (bs[p.toNat]'(by omega)) := List.getElem?_eq_getElem _
  unfold idx
  rw [if_pos h.1, hz]
  exact ⟨rfl, List.getElem_mem _⟩
end Go.Kx
