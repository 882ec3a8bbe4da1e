/- make, append, stores into a slice; loops with fuel; a function's beginning and end. No program in sight. -/
import Derived.Test.YtoboopmbcaglcaaOpl
namespace Go.Kx
open Go Go.RowKit
set_option linter.unusedVariables false
set_option linter.unusedSimpArgs false

theorem flat_rep (zc : List Value) (hz : 0 < zc.length) : ∀ (m j : Nat), j < m * zc.length → (List.replicate m zc).flatten[j]? = zc[j % zc.length]?
  | 0, j, h => by simp at h
  | m + 1, j, h => by
    rw [List.replicate_succ, List.flatten_cons]
    by_cases hj : j < zc.length
    · rw [List.getElem?_append_left hj, Nat.mod_eq_of_lt hj]
    · rw [List.getElem?_append_right (by omega), flat_rep zc hz m (j - zc.length) (by rw [Nat.succ_mul] at h; omega)]
      congr 1
      rw [Nat.mod_eq_sub_mod (by omega : j ≥ zc.length)]

section
variable {P : Program} {w0 w : World} {F0 : List Nat} {L M : List Item} {α : Type} [Dat α]
variable {n : Nat} {Q : Post} {e : Env} {ops : Array Oper} {rest : List Oper} {ty : TypeId} {pos : String} {aft : Array Edge} {d : Nat} {v : Value}

/-- a store into thing k of an owned list: cells vs from cell o on; the things M go into it -/
theorem LW.stE {t : TypeId} {x y : Operand} {av : Option Nat} {i : Nat} {g off : Nat} {c : Nat} {l : List α} {k : Int} {z z' : α} {o : Nat} {vs : Array Value}
    (hS : St w0 F0 w (M ++ L)) (hi : L[i]? = some (sl (some ⟨g, 0, none⟩) c l)) (hk : idx l k = some z) (ht : aggV P t = some av) (hx : ev e x = .pointer (some ⟨g, off, none⟩)) (hoff : off = k.toNat * Dat.sz α + o)
    (hy : (ev e y).cells = vs) (hm : vs.size = av.getD 1) (h1 : vs.toList.all (·.oneCell') = true) (hold : Nat.ble (o + vs.size) (Dat.sz α) = true)
    (hM : ∀ (w : World) (cs : List Value) (F G : List Nat), Dat.own w cs F z → Holds M w G → ∃ F', Dat.own w (cs.take o ++ vs.toList ++ cs.drop (o + vs.toList.length)) F' z' ∧ (∀ b, b ∈ F' → b ∈ F ∨ b ∈ G) ∧ (F.Nodup → G.Nodup → (∀ b, b ∈ F → b ∉ G) → F'.Nodup))
    (h : ∀ w' : World, St w0 F0 w' (L.set i (sl (some ⟨g, 0, none⟩) c (l.set k.toNat z'))) → Fr w w' [g] → LW P n ops Q rest e w') : LW P n ops Q (⟨none, .store t x y, ty, pos, aft, none⟩ :: rest) e w := by
  have hold := Nat.le_of_ble_eq_true hold
  obtain ⟨g', cur, ha, h0, hlt, hg, hsz, hst⟩ := St.storeElem (o := o) (vs := vs.toList) hS hi hk (by simpa using hold) hM
  cases ha
  subst hoff
  have hr := run_storeCells_at P g (k.toNat * Dat.sz α + o) (Dat.ty α) vs.toList 0 cur w hg (by simpa using hsz) (fun u hu => List.all_eq_true.1 h1 u hu)
  simp only [Nat.add_zero] at hr
  refine LW.runSkip (w' := w.setRow g (splice cur (k.toNat * Dat.sz α + o) vs.toList)) ?_ (h _ hst ⟨by simp, fun b _ hb => setRow_other w g b _ (by simpa using hb)⟩)
  have := run_isAgg (w := w) ht
  simp [execOp, Instr.storeAt, Instr.sureAddr, hx, storeVar, hy, hm, this.2, hr, splice]

theorem LW.mk {t : TypeId} {x y : Operand} {m : Int} {l : List α} (hT : SlT P t α) (hx : ev e x = .int .i64 m) (hy : ev e y = .int .i64 m) (hl : Kx.mk α m = some l) (hS : St w0 F0 w L) (hd : Nat.ble (d + 1) n = true)
    (h : ∀ (a : Option Addr) (c : Nat) (w' : World), St w0 F0 w' (sl a c l :: L) → Fr w w' [] → LW P n ops Q rest (upd e d (.slice a l.length c)) w') : LW P n ops Q (⟨some d, .makeSlice t x y, ty, pos, aft, none⟩ :: rest) e w := by
  unfold Kx.mk at hl
  split at hl
  case isFalse => cases hl
  case isTrue hb =>
  obtain ⟨h0, hb⟩ := hb
  cases hl
  obtain ⟨i, z, hi, hz, hs, hby, hzc⟩ := hT.info
  unfold BIG at hb
  have hbytes : (i.bytes : Int) * m ≤ 281474976710656 := by
    have h1 : (i.bytes : Int) * m ≤ 4096 * 16777216 := Int.mul_le_mul (by omega) (by omega) h0 (by omega)
    omega
  have hr := run_make (P := P) w t _ i z hT.und hi hz .i64 .i64 m m h0 (Int.le_refl _) hbytes (by omega)
  have hh := h (some ⟨w.heap.size, 0, none⟩) m.toNat (w.alloc (.cells (madeCells z.cells (m.toNat * i.size)) (Dat.ty α)))
  simp only [List.length_replicate] at hh
  have hrun : (execOp (ev e) ⟨some d, .makeSlice t x y, ty, pos, aft, none⟩).run P w = .ok (.value (.slice (some ⟨w.heap.size, 0, none⟩) m.toNat m.toNat)) (w.alloc (.cells (madeCells z.cells (m.toNat * i.size)) (Dat.ty α))) := by
    simp [execOp, hx, hy, hr]
  refine LW.run hrun hd (hh (St.add (M := [_]) hS ?_) ⟨by simp, fun b hb _ => Below.heap_alloc w _ b hb⟩)
  have hlen : ∀ u, u ∈ List.replicate m.toNat (Dat.zc α) → u.length = Dat.sz α := by
    intro u hu
    rw [(List.mem_replicate.1 hu).2]
    exact Dat.own_len (Dat.zero_own w)
  have hcells : (madeCells z.cells (m.toNat * i.size)).toList = (List.replicate m.toNat (Dat.zc α)).flatten := by
    have hzl : z.cells.size = Dat.sz α := by rw [← Array.length_toList, hzc]; exact Dat.own_len (Dat.zero_own w)
    apply List.ext_getElem?
    intro j
    have hz0 := Dat.pos (α := α)
    have hfl : (List.replicate m.toNat (Dat.zc α)).flatten.length = m.toNat * Dat.sz α := by
      simp [List.length_flatten, Dat.own_len (Dat.zero_own w)]
    by_cases hj : j < m.toNat * Dat.sz α
    · have hfr := flat_rep (Dat.zc α) (by rw [Dat.own_len (Dat.zero_own w)]; exact hz0) m.toNat j (by rw [Dat.own_len (Dat.zero_own w)]; exact hj)
      rw [hfr, Dat.own_len (Dat.zero_own w)]
      have hjm : j % Dat.sz α < z.cells.size := by rw [hzl]; exact Nat.mod_lt _ hz0
      simp only [madeCells, hs, hzl, Array.toList_map, Array.toList_range, List.getElem?_map, List.getElem?_range hj, Option.map_some]
      rw [← hzc, Array.getElem?_toList, Array.getElem?_eq_getElem hjm, getElem!_pos z.cells _ hjm]
    · rw [List.getElem?_eq_none (by simp [madeCells, hs]; omega), List.getElem?_eq_none (by omega)]
  refine ⟨rfl, rfl, rfl, by simp, fun b hb _ => Below.heap_alloc w _ b hb, [w.heap.size], ⟨[w.heap.size], [], rfl, .inr ⟨_, _, _, rfl, heap_alloc_new w _, ?_, by simp, by unfold maxLen; omega, rfl, ?_⟩, rfl⟩, by simp, by simp⟩
  · rw [← Array.length_toList, hcells]
    simp [List.length_flatten, Dat.own_len (Dat.zero_own w)]
  · rw [hcells]; exact els.zeros _

theorem St.of_nodup {F G : List Nat} {w' : World} {M : List Item} (hs : w.heap.size ≤ w'.heap.size) (ho : w'.os = w.os) (ht : w'.tape = w.tape) (hu : w'.output = w.output)
    (hsame : ∀ b, b < w.heap.size → b ∉ F → w'.heap[b]? = w.heap[b]?) (hM : Holds M w' G) (hn : G.Nodup) (hG : ∀ b, b ∈ G → (b ∈ F ∨ w.heap.size ≤ b) ∧ b < w'.heap.size) : St w F w' M :=
  ⟨ho, ht, hu, hs, hsame, G, hM, hn, hG⟩

/-- append onto an owned list -/
theorem append_own {t ty : TypeId} (hT : SlT P t α) {a : Option Addr} {c : Nat} {F G : List Nat} {l ys : List α} (ho : ownS w a c F l) {ad : Addr} {cc : Nat} {news : List Value}
    (hl : news.length = ys.length * Dat.sz α) (hnews : ∀ (j : Nat) (u : Value), news[j]? = some u → w.cell? (ad.add j) = some u) (hels : els w news G ys)
    (hn : (F ++ G).Nodup) (hlt : ∀ b, b ∈ F ++ G → b < w.heap.size) (hb : l.length + ys.length < BIG) :
    ∃ a' c' w', (Builtin.append_ #[t, t] ty #[.slice a l.length c, .slice (some ad) ys.length cc]).run P w = .ok (.slice a' (l ++ ys).length c') w' ∧ St w (F ++ G) w' [sl a' c' (l ++ ys)] ∧ Fr w w' ((a.map (·.block)).toList) := by
  obtain ⟨i, z, hi, hz, hs, hby, hzc⟩ := hT.info
  unfold BIG at hb
  have hzl : z.cells.size = Dat.sz α := by rw [← Array.length_toList, hzc]; exact Dat.own_len (Dat.zero_own w)
  have h1 : ∀ u, u ∈ news → u.oneCell' = true := fun u hu => els.one hels u (by rw [← hl, List.take_length]; exact hu)
  obtain ⟨n1, n2, nd⟩ := List.nodup_append.1 hn
  have hby2 : (l.length + ys.length) * i.bytes ≤ 140737488355328 := by
    have : (l.length + ys.length) * i.bytes ≤ 16777216 * 4096 := Nat.mul_le_mul (by omega) hby
    omega
  have hrow : ∃ xs F', w.ownsRow 0 (Dat.ty α) (Dat.sz α) (.slice a l.length c) l.length xs ∧ els w xs F' l ∧ (∀ b, b ∈ F' → b ∈ F) ∧ F'.Nodup ∧ (∀ g, (Value.slice a l.length c).ownBlock = some g → g ∈ F ∧ g ∉ F') ∧ xs.length = l.length * Dat.sz α := by
    rcases ho with ⟨rfl, rfl, rfl, rfl⟩ | ⟨g, cur, F', rfl, hg, hs', k1, k2, rfl, he⟩
    · exact ⟨[], [], World.ownsRow_nil w 0 _ _, rfl, by simp, by simp, by simp [Value.ownBlock], by simp⟩
    · obtain ⟨q1, q2⟩ := he.take
      obtain ⟨m1, m2⟩ := List.nodup_cons.1 n1
      refine ⟨_, F', ⟨?_, .inr ⟨g, c, cur, rfl, Nat.zero_le _, hg, k1, k2, hs', rfl⟩⟩, q1, fun b h => by simp [h], m2, fun g' hg' => ?_, ?_⟩
      · rw [List.length_take]; omega
      · simp [Value.ownBlock] at hg'; subst hg'; exact ⟨by simp, m1⟩
      · rw [List.length_take]; omega
  obtain ⟨xs, F', hown, hex, hF', nF', hgF, hxl⟩ := hrow
  obtain ⟨v', w', hr, ho', hgrow, _, hat⟩ := run_append_own_at (P := P) w 0 t ty _ i z (Dat.sz α) i.bytes hT.und hi hz hs rfl hzl (Dat.pos) _ _ _ hown ad ys.length cc news hl hnews h1 (by unfold maxLen; omega) hby2 (Nat.zero_le _)
  have hblk : ∀ b, b ∈ F' ++ G → w'.heap[b]? = w.heap[b]? := by
    intro b hbm
    have hbF : b ∈ F ++ G := by
      rcases List.mem_append.1 hbm with h | h
      · exact List.mem_append_left _ (hF' b h)
      · exact List.mem_append_right _ h
    refine hgrow.block b (hlt b hbF) fun e => ?_
    obtain ⟨p1, p2⟩ := hgF b e.symm
    rcases List.mem_append.1 hbm with h | h
    · exact p2 h
    · exact nd b p1 b h rfl
  have hels' : els w' (xs ++ news) (F' ++ G) (l ++ ys) := els.append.2 ⟨xs, news, F', G, rfl, rfl, hxl, hex.frame (fun b h => hblk b (List.mem_append_left _ h)), hels.frame (fun b h => hblk b (List.mem_append_right _ h))⟩
  have hfr : Fr w w' ((a.map (·.block)).toList) := ⟨hgrow.size, fun b hbl hno => hgrow.block b hbl fun e => hno (by
    cases a with
    | none => simp [Value.ownBlock] at e
    | some ad' => simp [Value.ownBlock] at e; simp [e])⟩
  have hout : ∀ b, b < w.heap.size → b ∉ F ++ G → w'.heap[b]? = w.heap[b]? := fun b hbl hno => hgrow.block b hbl fun e => hno (List.mem_append_left _ (hgF b e.symm).1)
  rcases ho'.2 with ⟨hv, h0⟩ | ⟨g', cap', cur', hv, _, hg', hnc, hcm, hcs, htake⟩
  · have hl0 : l = [] := List.eq_nil_of_length_eq_zero (by omega)
    have hy0 : ys = [] := List.eq_nil_of_length_eq_zero (by omega)
    subst hl0; subst hy0
    refine ⟨none, 0, w', by rw [hr, hv]; rfl, St.of_nodup (G := []) hgrow.size hgrow.os hgrow.tape hgrow.output hout ⟨[], [], rfl, .inl ⟨rfl, rfl, rfl, rfl⟩, rfl⟩ List.nodup_nil (by simp), hfr⟩
  · have hgnew : (g' ∈ F ∧ g' ∉ F' ∧ g' ∉ G) ∨ g' = w.heap.size := by
      rw [hv] at hat
      rcases hat with h | h
      · have := hgF g' (by rw [← h]; rfl)
        exact .inl ⟨this.1, this.2, fun h2 => nd g' this.1 g' h2 rfl⟩
      · simp [Value.ownBlock] at h; exact .inr h
    have hg'lt : g' < w'.heap.size := (Array.getElem?_eq_some_iff.1 hg').1
    refine ⟨some ⟨g', 0, none⟩, cap', w', by rw [hr, hv, List.length_append], St.of_nodup (G := g' :: (F' ++ G)) hgrow.size hgrow.os hgrow.tape hgrow.output hout
      ⟨g' :: (F' ++ G), [], by simp, .inr ⟨g', cur', _, rfl, hg', hcs, by simpa using hnc, hcm, rfl, ?_⟩, rfl⟩ ?_ ?_, hfr⟩
    · have : cur'.toList = (xs ++ news) ++ cur'.toList.drop ((l.length + ys.length) * Dat.sz α) := by
        rw [← htake]; simp
      rw [this]
      exact hels'.more _
    · refine List.nodup_cons.2 ⟨fun hm => ?_, List.nodup_append.2 ⟨nF', n2, fun a ha b hb e => nd a (hF' a ha) b hb e⟩⟩
      rcases hgnew with ⟨_, h2, h3⟩ | h
      · rcases List.mem_append.1 hm with h | h
        · exact h2 h
        · exact h3 h
      · have : g' ∈ F ++ G := by
          rcases List.mem_append.1 hm with h | h
          · exact List.mem_append_left _ (hF' _ h)
          · exact List.mem_append_right _ h
        have := hlt g' this
        omega
    · intro b hbm
      rcases List.mem_cons.1 hbm with rfl | hbm
      · refine ⟨?_, hg'lt⟩
        rcases hgnew with ⟨h, _⟩ | h
        · exact .inl (List.mem_append_left _ h)
        · exact .inr (by omega)
      · have : b ∈ F ++ G := by
          rcases List.mem_append.1 hbm with h | h
          · exact List.mem_append_left _ (hF' _ h)
          · exact List.mem_append_right _ h
        exact ⟨.inl this, Nat.lt_of_lt_of_le (hlt b this) hgrow.size⟩

/-- what a slice literal lays -/
def bslV (P : Program) (t : TypeId) (len : Nat) (parts : List (Nat × Value)) : Option (TypeId × Array Value) :=
  match P.underlying t with
  | some (.slice el) =>
    match P.info? el with
    | some i =>
      match i.zero with
      | some z => if len * i.size > 16777216 then none else
        (Instr.fill (fun k => some (k * i.size, i.size)) ((Array.range (len * i.size)).map ((if len * i.size = 0 then #[] else z.cells)[· % (if len * i.size = 0 then #[] else z.cells : Array Value).size]!)) parts).map fun cs => (el, cs)
      | none => none
    | none => none
  | _ => none
theorem run_bsl {t el : TypeId} {len : Nat} {parts : Array (Nat × Value)} {cs : Array Value} (h : bslV P t len parts.toList = some (el, cs)) :
    (Instr.buildSlice t len parts).run P w = .ok (.slice (some ⟨w.heap.size, 0, none⟩) len len) (w.alloc (.cells cs el)) := by
  unfold bslV at h
  split at h
  · rename_i el' hu
    split at h
    · rename_i i hi
      split at h
      · rename_i z hz
        split at h
        · cases h
        · rename_i hsm
          have hsm' : ¬ 16777216 < len * i.size := hsm
          cases hf : Instr.fill (fun k => some (k * i.size, i.size)) ((Array.range (len * i.size)).map ((if len * i.size = 0 then #[] else z.cells)[· % (if len * i.size = 0 then #[] else z.cells : Array Value).size]!)) parts.toList with
          | none => rw [hf] at h; cases h
          | some cs' =>
            rw [hf] at h
            simp only [Option.map_some, Option.some.injEq, Prod.mk.injEq] at h
            obtain ⟨rfl, rfl⟩ := h
            by_cases h0 : len * i.size = 0
            · simp [h0] at hf
              simp [Instr.buildSlice, run_underlying hu, sizeOf, typeInfo, hi, h0, hf, newRow]
            · simp only [h0, if_false] at hf
              simp [Instr.buildSlice, run_underlying hu, sizeOf, typeInfo, hi, hsm', h0, zeroValue, hz, hf, newRow]
      · cases h
    · cases h
  · cases h

/-- a slice literal of flat things -/
theorem LW.bsl {t : TypeId} {len : Nat} {parts : Array (Nat × Operand)} {vs : List (Nat × Value)} {cs : Array Value} {l : List α} (hp : parts.toList.map (fun p => (p.1, ev e p.2)) = vs) (hb : bslV P t len vs = some (Dat.ty α, cs))
    (hl : l.length = len) (hcs : cs.size = len * Dat.sz α) (hL : Nat.ble len 65536 = true) (hels : ∀ w : World, els w cs.toList [] l) (hS : St w0 F0 w L) (hd : Nat.ble (d + 1) n = true)
    (h : ∀ (a : Option Addr) (c : Nat) (w' : World), St w0 F0 w' (sl a c l :: L) → Fr w w' [] → LW P n ops Q rest (upd e d (.slice a l.length c)) w') : LW P n ops Q (⟨some d, .buildSlice t len parts, ty, pos, aft, none⟩ :: rest) e w := by
  have hp' : (parts.map fun (i, x) => (i, ev e x)).toList = vs := by rw [← hp]; simp
  subst hp'; subst hl
  have hL := Nat.le_of_ble_eq_true hL
  have hrun : (execOp (ev e) ⟨some d, .buildSlice t l.length parts, ty, pos, aft, none⟩).run P w = .ok (.value (.slice (some ⟨w.heap.size, 0, none⟩) l.length l.length)) (w.alloc (.cells cs (Dat.ty α))) := by
    have := run_bsl (P := P) (w := w) hb
    simp only [execOp, Sem.run_bind, this, Result.andThen_ok]
    rfl
  refine LW.run hrun hd (h _ _ _ (St.add (M := [_]) hS ?_) ⟨by simp, fun b hb _ => Below.heap_alloc w _ b hb⟩)
  exact ⟨rfl, rfl, rfl, by simp, fun b hb _ => Below.heap_alloc w _ b hb, [w.heap.size], ⟨[w.heap.size], [], rfl, .inr ⟨_, _, _, rfl, heap_alloc_new w _, hcs, Nat.le_refl _, by unfold maxLen; omega, rfl, hels _⟩, rfl⟩, by simp, by simp⟩

theorem St.lay {w0 w w' : World} {F0 : List Nat} {L : List Item} (h : St w0 F0 w L) (hs : w.heap.size ≤ w'.heap.size) (ho : w'.os = w.os) (ht : w'.tape = w.tape) (hu : w'.output = w.output)
    (hsame : ∀ b, b < w.heap.size → w'.heap[b]? = w.heap[b]?) : St w0 F0 w' L :=
  St.add (M := []) h ⟨ho, ht, hu, hs, fun b hb _ => hsame b hb, [], rfl, List.nodup_nil, by simp⟩

/-- 'append(s, y)': the new thing's cells are vs, and what they hang on are the things M -/
theorem LW.app1 {t ty2 : TypeId} {pos2 : String} {aft2 : Array Edge} {x s : Operand} {d1 : Nat} {vs : Array Value} {i : Nat} {a : Option Addr} {c : Nat} {l l' : List α} {y : α} (hT : SlT P t α)
    (hp : (ev e x).cells = vs) (hb : bslV P t 1 [(0, ev e x)] = some (Dat.ty α, vs)) (hs : ev e s = .slice a l.length c) (hs1 : ev (upd e d1 undef) s = ev e s) (hl : app l [y] = some l')
    (hS : St w0 F0 w (M ++ L)) (hi : L[i]? = some (sl a c l)) (hM : ∀ (w : World) (G : List Nat), Holds M w G → Dat.own w vs.toList G y) (hd1 : Nat.ble (d1 + 1) n = true) (hd : Nat.ble (d + 1) n = true)
    (h : ∀ (v1 : Value) (a' : Option Addr) (c' : Nat) (w' : World), St w0 F0 w' (L.set i (sl a' c' l')) → Fr w w' ((a.map (·.block)).toList) → LW P n ops Q rest (upd (upd e d1 v1) d (.slice a' l'.length c')) w') :
    LW P n ops Q (⟨some d1, .buildSlice t 1 #[(0, x)], ty2, pos2, aft2, none⟩ :: ⟨some d, .call { callee := .builtin .append, args := #[s, .tmp d1], argTypes := #[t, t] }, ty, pos, aft, none⟩ :: rest) e w := by
  unfold app at hl
  split at hl
  case isFalse => cases hl
  case isTrue hbig =>
  cases hl
  have hrun : (execOp (ev e) ⟨some d1, .buildSlice t 1 #[(0, x)], ty2, pos2, aft2, none⟩).run P w = .ok (.value (.slice (some ⟨w.heap.size, 0, none⟩) 1 1)) (w.alloc (.cells vs (Dat.ty α))) := by
    have := run_bsl (P := P) (w := w) (parts := #[(0, ev e x)]) hb
    simp [execOp, this]
  refine LW.run hrun hd1 ?_
  generalize hw1 : w.alloc (.cells vs (Dat.ty α)) = w1
  have hS1 : St w0 F0 w1 (M ++ L) := hS.lay (by subst hw1; simp) (by subst hw1; rfl) (by subst hw1; rfl) (by subst hw1; rfl) (fun b hb => by subst hw1; exact Below.heap_alloc w _ b hb)
  have h' : St w0 F0 w1 ((sl a c l :: M) ++ L.eraseIdx i) := by
    have := hS1.front (M.length + i) (x := sl a c l) (by rw [List.getElem?_append_right (by omega), Nat.add_sub_cancel_left]; exact hi)
    refine this.perm ?_
    have e : (M ++ L).eraseIdx (M.length + i) = M ++ L.eraseIdx i := by
      rw [List.eraseIdx_append_of_length_le (by omega)]; simp
    rw [e]
    simp
  obtain ⟨F, hF, hn, hlt2, _, _, hm⟩ := h'.share
  obtain ⟨F1, F2, rfl, q1, q2⟩ := hF
  have hy := hM w1 F2 q2
  have hcell : ∀ (j : Nat) (u : Value), vs.toList[j]? = some u → w1.cell? ((⟨w.heap.size, 0, none⟩ : Addr).add j) = some u := by
    intro j u hu
    subst hw1
    rw [add_lit, Nat.zero_add, cell_of_row _ w.heap.size j vs (Dat.ty α) (0, 0) (heap_alloc_new w _)]
    simpa using hu
  obtain ⟨a', c', w', hr, hst, hfr⟩ := append_own (ty := ty) (ys := [y]) (cc := 1) hT q1 (by rw [Dat.own_len hy]; simp) hcell (show els w1 vs.toList F2 [y] from ⟨vs.toList, [], F2, [], by simp, by simp, hy, rfl⟩) hn hlt2 hbig
  have hfr1 : Fr w w' ((a.map (·.block)).toList) := ⟨Nat.le_trans (by subst hw1; simp) hfr.size, fun b hb hno => by
    rw [hfr.same b (by subst hw1; simp; omega) hno]
    subst hw1
    exact Below.heap_alloc w _ b hb⟩
  refine LW.run (v := .slice a' (l ++ [y]).length c') ?_ hd (h _ a' c' w' ((hm w' _ hst).perm (eraseIdx_set L i _ (lt_of_some hi))) hfr1)
  have hs2 : ev (upd e d1 (.slice (some ⟨w.heap.size, 0, none⟩) 1 1)) s = .slice a l.length c := by
    cases s with
    | tmp t' =>
      simp only [ev] at hs hs1 ⊢
      have : Nat.beq t' d1 = false := by
        cases hb : Nat.beq t' d1
        · rfl
        · simp only [upd, hb, cond_true] at hs1
          rw [hs] at hs1; cases hs1
      simp only [upd, this, cond_false]
      exact hs
    | _ => exact hs
  have hx2 : ev (upd e d1 (.slice (some ⟨w.heap.size, 0, none⟩) 1 1)) (.tmp d1) = .slice (some ⟨w.heap.size, 0, none⟩) 1 1 := by
    simp only [ev, upd]
    rw [Nat.beq_refl]; rfl
  simp only [List.length_cons, List.length_nil, Nat.zero_add] at hr
  simp [execOp, resolve, invoke, builtin, hs2, hx2, hr]

/-- a flat thing: its cells say all -/
class Flat (α : Type) [Dat α] : Prop where
  flat : ∀ {S w w' cs} {x : α}, Dat.rd S w cs x → Dat.own w' cs [] x
theorem els.flat [Flat α] {S : Nat → Prop} {a : Option Addr} {c : Nat} {l : List α} (h : rdS S w a c l) : ∃ news : List Value, news.length = l.length * Dat.sz α ∧ (∀ w' : World, els w' news [] l) ∧ (l ≠ [] → ∃ b o, a = some ⟨b, o, none⟩ ∧ ∀ (j : Nat) (u : Value), news[j]? = some u → w.cell? ⟨b, o + j, none⟩ = some u) := by
  by_cases hne : l = []
  · subst hne
    exact ⟨[], by simp, fun _ => rfl, fun h => absurd rfl h⟩
  · obtain ⟨b, o, ha, _, hc⟩ := h.cells hne
    have key : ∀ (m : List α) (o' : Nat), (∀ (k : Nat) (x : α), m[k]? = some x → ∃ cs, Dat.rd S w cs x ∧ ∀ (j : Nat) (u : Value), cs[j]? = some u → w.cell? ⟨b, o' + k * Dat.sz α + j, none⟩ = some u) →
        ∃ news : List Value, news.length = m.length * Dat.sz α ∧ (∀ w' : World, els w' news [] m) ∧ ∀ (j : Nat) (u : Value), news[j]? = some u → w.cell? ⟨b, o' + j, none⟩ = some u := by
      intro m
      induction m with
      | nil => exact fun _ _ => ⟨[], by simp, fun _ => rfl, fun j u hu => by simp at hu⟩
      | cons x m ih =>
        intro o' hm
        obtain ⟨cs, h1, h2⟩ := hm 0 x rfl
        have hl := Dat.rd_len h1
        obtain ⟨news, g1, g2, g3⟩ := ih (o' + Dat.sz α) (fun k y hy => by
          obtain ⟨cs', q1, q2⟩ := hm (k + 1) y (by simpa using hy)
          exact ⟨cs', q1, fun j u hu => by
            have := q2 j u hu
            rw [Nat.succ_mul] at this
            rw [show o' + Dat.sz α + k * Dat.sz α + j = o' + (k * Dat.sz α + Dat.sz α) + j by omega]
            exact this⟩)
        refine ⟨cs ++ news, by simp [hl, g1, Nat.succ_mul, Nat.add_comm], fun w' => ⟨cs, news, [], [], rfl, rfl, Flat.flat h1, g2 w'⟩, fun j u hu => ?_⟩
        by_cases hj : j < cs.length
        · rw [List.getElem?_append_left hj] at hu
          simpa using h2 j u hu
        · rw [List.getElem?_append_right (by omega)] at hu
          have := g3 _ u hu
          rw [show o' + j = o' + Dat.sz α + (j - cs.length) by omega]
          exact this
    obtain ⟨news, g1, g2, g3⟩ := key l o hc
    exact ⟨news, g1, g2, fun _ => ⟨b, o, ha, g3⟩⟩

theorem run_append_none {t ty : TypeId} (hT : SlT P t α) {a : Option Addr} {c cc : Nat} {F : List Nat} {l : List α} (ho : ownS w a c F l) : (Builtin.append_ #[t, t] ty #[.slice a l.length c, .slice none 0 cc]).run P w = .ok (.slice a l.length c) w := by
  obtain ⟨i, z, hi, hz, hs, hby, hzc⟩ := hT.info
  rcases ho with ⟨rfl, rfl, rfl, rfl⟩ | ⟨g, cur, F', rfl, hg, hs', k1, k2, rfl, he⟩
  · simp [Builtin.append_, run_underlying hT.und, sizeOf, typeInfo, hi, Builtin.lenOf, Builtin.firstCells]
  · simp [Builtin.append_, run_underlying hT.und, sizeOf, typeInfo, hi, Builtin.lenOf, Builtin.firstCells, k1, storeCells]

/-- 'append(s, ys...)' for flat things -/
theorem LW.appN [Flat α] {t : TypeId} {s x : Operand} {i : Nat} {S : Nat → Prop} {a b : Option Addr} {c cb : Nat} {l m l' : List α} (hT : SlT P t α) (hs : ev e s = .slice a l.length c) (hx : ev e x = .slice b m.length cb) (hr : rdS S w b cb m)
    (hl : app l m = some l') (hS : St w0 F0 w L) (hi : L[i]? = some (sl a c l)) (hd : Nat.ble (d + 1) n = true)
    (h : ∀ (a' : Option Addr) (c' : Nat) (w' : World), St w0 F0 w' (L.set i (sl a' c' l')) → Fr w w' ((a.map (·.block)).toList) → LW P n ops Q rest (upd e d (.slice a' l'.length c')) w') :
    LW P n ops Q (⟨some d, .call { callee := .builtin .append, args := #[s, x], argTypes := #[t, t] }, ty, pos, aft, none⟩ :: rest) e w := by
  unfold app at hl
  split at hl
  case isFalse => cases hl
  case isTrue hbig =>
  cases hl
  have h' : St w0 F0 w ([sl a c l] ++ L.eraseIdx i) := hS.front i hi
  obtain ⟨F, hF, hn, hlt2, _, _, hm⟩ := h'.share
  obtain ⟨F1, F2, rfl, q1, q2⟩ := hF
  cases (show F2 = [] from q2)
  rw [List.append_nil] at hn hlt2 hm
  obtain ⟨news, g1, g2, g3⟩ := els.flat hr
  by_cases hne : m = []
  · subst hne
    cases b with
    | none =>
      refine LW.run (v := .slice a (l ++ []).length c) ?_ hd (h a c w (by
        have := hS.setAt (w' := w) (y := sl a c (l ++ [])) hi (fun F hF hn hlt => St.init ⟨F, [], by simp, by rw [List.append_nil]; exact hF, rfl⟩ hn hlt)
        exact this) ⟨Nat.le_refl _, fun b _ _ => rfl⟩)
      have := run_append_none (P := P) (ty := ty) (cc := cb) hT q1
      simp [execOp, resolve, invoke, builtin, hs, hx, this]
    | some ad =>
      obtain ⟨a', c', w', hr', hst, hfr⟩ := append_own (ty := ty) (ad := ad) (cc := cb) (ys := []) hT q1 (news := []) (G := []) (by simp) (by simp) rfl (by simpa using hn) (by simpa using hlt2) hbig
      rw [List.append_nil] at hst
      refine LW.run (v := .slice a' (l ++ []).length c') ?_ hd (h a' c' w' ((hm w' _ hst).perm (eraseIdx_set L i _ (lt_of_some hi))) hfr)
      simp only [List.length_nil] at hr' hx
      simp only [execOp, resolve, invoke, builtin, Sem.run_bind, Sem.run_pure, Result.andThen_ok, List.map_toArray, List.map_cons, List.map_nil, hs, hx, hr']
  · obtain ⟨b', o, rfl, hc⟩ := g3 hne
    obtain ⟨a', c', w', hr', hst, hfr⟩ := append_own (ty := ty) (ad := ⟨b', o, none⟩) (cc := cb) (ys := m) hT q1 g1 (fun j u hu => by rw [add_lit]; exact hc j u hu) (g2 w) (by simpa using hn) (by simpa using hlt2) hbig
    rw [List.append_nil] at hst
    refine LW.run (v := .slice a' (l ++ m).length c') ?_ hd (h a' c' w' ((hm w' _ hst).perm (eraseIdx_set L i _ (lt_of_some hi))) hfr)
    simp only [execOp, resolve, invoke, builtin, Sem.run_bind, Sem.run_pure, Result.andThen_ok, List.map_toArray, List.map_cons, List.map_nil, hs, hx, hr']
end
end Go.Kx
