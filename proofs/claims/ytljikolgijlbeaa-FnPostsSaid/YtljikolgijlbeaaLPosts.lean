/- The plain law of 'FnPosts'. No program in sight. -/
import Derived.Test.YtljikolgijlbeaaLDraw
import Derived.Test.YtljikolgijlbeaaLRun
import Derived.Test.YtljikolgijlbeaaLKill
namespace Go.Kx
open Go
set_option linter.unusedVariables false
set_option linter.unusedSimpArgs false
set_option maxRecDepth 100000
theorem bigN : BIG ≤ BIG + 6 := Nat.le_add_right _ _
def gO (q : List DMsg) : DObj := DObj.mk 1 3 0 0 90 0 0 0 0 true [-1, -1] [] q
def o0 : DObj := DObj.mk 0 1 (-1) 0 1000000 0 0 0 0 false [-1, -1] [] []
def o1 : DObj := DObj.mk 1 4 0 0 1000000 0 0 0 0 true [-1, -1] [] []
def oz : DObj := DObj.mk 0 0 0 0 0 0 0 0 0 false [] [] []
def ar (q : List DMsg) : List DObj := [o0, o1, gO q, oz, oz, oz, oz, oz, oz, oz]
def pA : DPart := DPart.mk (DLabel.mk [0, 0, 0, 0]) [] [DRes.mk true (-1) (DAmt.mk 50 9000 500), zRes, zRes, zRes, zRes] (DHeap.mk [o0, o1, oz, oz, oz, oz, oz, oz, oz, oz] (DGc.mk 0 0 0 [0])) [] 0 0 (DAmt.mk 0 0 0) 0 0
def pB0 : DPart := DPart.mk (DLabel.mk [1, 1, 1, 1]) [] [DRes.mk true (-1) (DAmt.mk 20 900 9), zRes, zRes, zRes, zRes] (DHeap.mk [o0, o1, oz, oz, oz, oz, oz, oz, oz, oz] (DGc.mk 0 0 0 [0])) [] 0 0 (DAmt.mk 0 0 0) 0 0
def pB (q : List DMsg) (lost : Int) : DPart := DPart.mk (DLabel.mk [1, 1, 1, 1]) [] [DRes.mk true (-1) (DAmt.mk 20 900 9), zRes, zRes, zRes, zRes] (DHeap.mk (ar q) (DGc.mk 0 0 0 [0])) [] 0 0 (DAmt.mk 0 0 0) 0 lost
def Wd (q : List DMsg) (lost : Int) : DWorld := DWorld.mk 0 [pA, pB q lost]
def Qok (q : List DMsg) : Prop := q.all msgOk = true ∧ q.length ≤ 2
section
variable {q : List DMsg} {lost : Int}
theorem gO_lists (q : List DMsg) : listsOk (gO q) = (q.all msgOk && decide ((q.length : Int) ≤ 2)) := by
  show ((q.all msgOk && decide ((q.length : Int) ≤ 2)) : Bool) = _
  rfl
theorem gO_ok (h : Qok q) : objOk (gO q) = true := by
  unfold objOk
  rw [gO_lists, h.1, decide_eq_true (show (q.length : Int) ≤ 2 by have := h.2; omega)]
  kernel_rfl
theorem ar_ok (h : Qok q) : arenaOk (ar q) = true := by
  have h2 : arenaP (ar q) 2 (gO q) = true := by
    unfold arenaP
    rw [gO_ok h]
    kernel_rfl
  show (!(((ar q).length : Int) != 10) && (!headBad (ar q) && (arenaP (ar q) 0 o0 && (arenaP (ar q) 1 o1 && (arenaP (ar q) 2 (gO q) && allI (arenaP (ar q)) 3 [oz, oz, oz, oz, oz, oz, oz]))))) = true
  rw [h2]
  kernel_rfl
theorem heapB_ok (h : Qok q) : heapOk (pB q lost).heap = true := by
  unfold heapOk
  rw [show arenaOk (pB q lost).heap.arena = true from ar_ok h]
  kernel_rfl
theorem pB_ok (h : Qok q) (hl : inR lost 0 1000000 = true) : partOk (pB q lost) = true := by
  unfold partOk restOk
  rw [heapB_ok h, show inR (pB q lost).lost 0 1000000 = true from hl]
  kernel_rfl
theorem pA_ok : partOk pA = true := by decide +kernel
theorem pB_sz (h : Qok q) : sz_DPart (pB q lost) < 100 := by
  have h2 := h.2
  have : sz_DPart (pB q lost) = 26 + q.length := by
    simp [sz_DPart, sz_DHeap, sz_DLabel, sz_DGc, szL, sumL, sz_DObj, pB, ar, gO, o0, o1, oz]
    omega
  omega
theorem held_B (h : Qok q) : held (pB q lost) = 0 := by
  unfold held
  show (([o0, o1, gO q, oz, oz, oz, oz, oz, oz, oz] : List DObj).filter objOk).foldl (fun n o => IntKind.i64.wrap (n + o.pages)) 0 = 0
  simp only [List.filter_cons, List.filter_nil, gO_ok h, show objOk o0 = true by decide +kernel, show objOk o1 = true by decide +kernel, show objOk oz = true by decide +kernel, if_true]
  kernel_rfl
theorem sum_B (h : Qok q) : partSum (pB q lost) = ⟨20, 900, 9⟩ := by
  unfold partSum
  rw [held_B h]
  kernel_rfl
theorem wd_ok (h : Qok q) (hl : inR lost 0 1000000 = true) : worldOk (DWorld.mk 0 [pA, pB q lost]) = true := by
  unfold worldOk
  show (inR 0 0 1000000 && (inR 2 1 3 && ((partOk pA && (partOk (pB q lost) && true)) && amtOk (amtSum (amtSum ⟨0, 0, 0⟩ (partSum pA)) (partSum (pB q lost)))))) = true
  rw [pB_ok h hl, sum_B h]
  decide +kernel
theorem wd_sz (h : Qok q) : szL sz_DPart [pA, pB q lost] < BIG := by
  have h1 := pB_sz (lost := lost) h
  have h2 : sz_DPart pA < 100 := by decide
  have hB : (16777216 : Nat) = BIG := rfl
  show 2 + (sz_DPart pA + (sz_DPart (pB q lost) + 0)) < BIG
  omega
theorem pB_szB (h : Qok q) : sz_DPart (pB q lost) < BIG := Nat.lt_trans (pB_sz h) (by decide)
theorem ar_sz (h : Qok q) : szL sz_DObj (ar q) < BIG := (szPart (pB_szB (lost := 0) h)).2.2.2.1
theorem reach_B (h : Qok q) : reach (ar q) 0 = [true, true, true, false, false, false, false, false, false, false] := by
  unfold reach
  rw [ar_ok h]
  kernel_rfl
theorem thr_B (h : Qok q) (hl : inR lost 0 1000000 = true) : threads (pB q lost) 0 = [1] := by
  unfold threads
  rw [if_pos (pB_ok h hl), show (pB q lost).heap.arena = ar q from rfl, reach_B h]
  kernel_rfl
theorem can_B (h : Qok q) (hl : inR lost 0 1000000 = true) : F_i_CanCall (BIG + 6) (pB q lost) 0 1 = some true := by
  rw [i_CanCall bigN (pB_szB h)]
  unfold canCall
  rw [thr_B h hl]
  kernel_rfl
theorem can_A : F_i_CanCall (BIG + 6) pA 0 1 = some true := by kernel_rfl
theorem good_B (h : Qok q) : F_i_GoodSlot (BIG + 6) (ar q) 0 1 37 = some 2 := by
  rw [i_GoodSlot bigN (ar_sz h)]
  unfold goodSlot goodP
  rw [ar_ok h, reach_B h]
  kernel_rfl
theorem good_N (h : Qok q) : F_i_GoodSlot (BIG + 6) (ar q) 0 1 (-1) = some (-1) := by
  rw [i_GoodSlot bigN (ar_sz h)]
  unfold goodSlot goodP
  rw [ar_ok h]
  kernel_rfl
theorem ok_B (h : Qok q) (hl : inR lost 0 1000000 = true) : F_i_WorldOk (BIG + 6) (DWorld.mk 0 [pA, pB q lost]) = some true := by
  rw [i_WorldOk bigN (wd_sz h), wd_ok h hl]
/-- a call list of one -/
theorem do_one {w : DWorld} {p t : Int} {c : DCall} {r : DWorld × DReply} (h : F_i_WorldCall (BIG + 6) w p t c = some r) : F_l_do (BIG + 6) w p t [c] = some r := by
  unfold F_l_do
  rw [show idx [c] 0 = some c from rfl]
  simp only [Option.bind_some, h]
  rfl
theorem iter_s {σ ρ : Type} {body : σ → Option (σ ⊕ ρ)} {s s' : σ} {n : Nat} (h : body s = some (.inl s')) : iter body (n + 1) s = iter body n s' := by show (body s).bind _ = _; rw [h]; rfl
theorem iter_e {σ ρ : Type} {body : σ → Option (σ ⊕ ρ)} {s : σ} {r : ρ} {n : Nat} (h : body s = some (.inr r)) : iter body (n + 1) s = some r := by show (body s).bind _ = _; rw [h]; rfl
theorem copy_B (h : Qok q) : F_i_copyWorld (BIG + 6) (DWorld.mk 0 [pA, pB q lost]) = some (DWorld.mk 0 [pA, pB q lost]) := by
  unfold F_i_copyWorld
  rw [iter_s (n := BIG + 5) (s' := (1, [pA])) (by
      show ((F_i_copyPart (BIG + 6) pA).bind fun y41 => (app [] [y41]).bind fun y57 => some (Sum.inl (IntKind.i64.wrap (0 + 1), y57))) = _
      rw [i_copyPart bigN (p := pA) (by decide)]; rfl),
    iter_s (n := BIG + 4) (s' := (2, [pA, pB q lost])) (by
      show ((F_i_copyPart (BIG + 6) (pB q lost)).bind fun y41 => (app [pA] [y41]).bind fun y57 => some (Sum.inl (IntKind.i64.wrap (1 + 1), y57))) = _
      rw [i_copyPart bigN (pB_szB h)]; rfl),
    iter_e (n := BIG + 3) (r := (2, [pA, pB q lost])) rfl]
  rfl
theorem flow_AB : F_i_mayFlow (BIG + 6) (DWorld.mk 0 [pA, pB q lost]) 0 0 1 = some true := by kernel_rfl
theorem flow_BA : F_i_mayFlow (BIG + 6) (DWorld.mk 0 [pA, pB q lost]) 1 1 0 = some false := by kernel_rfl
theorem vok (N : Nat) {v : Int} (h0 : 0 ≤ v) (h1 : v ≤ 255) : F_i_within N v 0 999 = some true := by
  rw [i_in]; exact congrArg some (inR_iff.2 ⟨h0, by omega⟩)
theorem post_B (h : Qok q) {v : Int} (h0 : 0 ≤ v) (h1 : v ≤ 255) {r : Int × DWorld}
    (hr : ((bif decide ((2 : Int) ≥ 0) then ((idx (ar q) 2).bind fun y45 => bif (y45.kind == 3) then (some (decide ((y45.queue.length : Int) < 2))) else (some false)) else (some false) : Option Bool).bind fun j42 => bif j42 then ((idx (ar q) 2).bind fun y66 => (app y66.queue ([DMsg.mk (-1) v] : List DMsg)).bind fun y117 => some ((0 : Int), DWorld.mk 0 [pA, pB y117 lost])) else (some (0, DWorld.mk 0 [pA, pB q (if 1000000 < IntKind.i64.wrap (lost + 1) then 1000000 else IntKind.i64.wrap (lost + 1))]))) = some r) :
    F_i_World_post (BIG + 6) (DWorld.mk 0 [pA, pB q lost]) 0 1 (DCall.mk 17 37 v 0 0 0) = some r := by
  unfold F_i_World_post
  simp only [vok (BIG + 6) h0 h1, Option.bind_some, Bool.not_true, cond_false, flow_AB, show idx [pA, pB q lost] 1 = some (pB q lost) from rfl, show (pB q lost).heap.arena = ar q from rfl, good_B h]
  rw [← hr]
  rfl
theorem call_post (h : Qok q) (hl : inR lost 0 1000000 = true) {v : Int} {w : DWorld} (hp : F_i_World_post (BIG + 6) (DWorld.mk 0 [pA, pB q lost]) 0 1 (DCall.mk 17 37 v 0 0 0) = some (0, w)) :
    F_i_WorldCall (BIG + 6) (DWorld.mk 0 [pA, pB q lost]) 0 1 (DCall.mk 17 37 v 0 0 0) = some (w, DReply.mk 0 0) := by
  unfold F_i_WorldCall
  rw [copy_B h, ok_B h hl]
  simp only [Option.bind_some, Bool.not_true, cond_false, show F_i_hasPart (BIG + 6) (DWorld.mk 0 [pA, pB q lost]) 0 = some true by kernel_rfl, show idx [pA, pB q lost] 0 = some pA from rfl, can_A,
    show F_i_otherPart (BIG + 6) (DWorld.mk 0 [pA, pB q lost]) 0 (DCall.mk 17 37 v 0 0 0) = some 1 by kernel_rfl, hp]
  rfl
theorem post0 {v : Int} (h0 : 0 ≤ v) (h1 : v ≤ 255) : F_l_do (BIG + 6) (DWorld.mk 0 [pA, pB [] 0]) 0 1 [DCall.mk 17 37 v 0 0 0] = some (DWorld.mk 0 [pA, pB [⟨-1, v⟩] 0], DReply.mk 0 0) :=
  do_one (call_post ⟨rfl, by decide⟩ (by decide) (post_B ⟨rfl, by decide⟩ h0 h1 rfl))
theorem msg_ok {v : Int} (h0 : 0 ≤ v) (h1 : v ≤ 255) : msgOk ⟨-1, v⟩ = true := by
  show (!!inR v 0 999) = true
  rw [inR_iff.2 ⟨h0, by omega⟩]; rfl
theorem q1 {v : Int} (h0 : 0 ≤ v) (h1 : v ≤ 255) : Qok [⟨-1, v⟩] := ⟨by simp [msg_ok h0 h1], by simp⟩
theorem q2 {v u : Int} (h0 : 0 ≤ v) (h1 : v ≤ 255) (h2 : 0 ≤ u) (h3 : u ≤ 255) : Qok [⟨-1, v⟩, ⟨-1, u⟩] := ⟨by simp [msg_ok h0 h1, msg_ok h2 h3], by simp⟩
theorem post1 {a v : Int} (a0 : 0 ≤ a) (a1 : a ≤ 255) (h0 : 0 ≤ v) (h1 : v ≤ 255) : F_l_do (BIG + 6) (DWorld.mk 0 [pA, pB [⟨-1, a⟩] 0]) 0 1 [DCall.mk 17 37 v 0 0 0] = some (DWorld.mk 0 [pA, pB [⟨-1, a⟩, ⟨-1, v⟩] 0], DReply.mk 0 0) :=
  do_one (call_post (q1 a0 a1) (by decide) (post_B (q1 a0 a1) h0 h1 rfl))
theorem post2 {a b v : Int} (hq : Qok [⟨-1, a⟩, ⟨-1, b⟩]) (h0 : 0 ≤ v) (h1 : v ≤ 255) (hl : inR lost 0 1000000 = true) {l : Int} (hl2 : (if 1000000 < IntKind.i64.wrap (lost + 1) then 1000000 else IntKind.i64.wrap (lost + 1)) = l) :
    F_l_do (BIG + 6) (DWorld.mk 0 [pA, pB [⟨-1, a⟩, ⟨-1, b⟩] lost]) 0 1 [DCall.mk 17 37 v 0 0 0] = some (DWorld.mk 0 [pA, pB [⟨-1, a⟩, ⟨-1, b⟩] l], DReply.mk 0 0) :=
  do_one (call_post hq hl (post_B hq h0 h1 (by rw [← hl2]; rfl)))
theorem down_B (h : Qok q) (hl : inR lost 0 1000000 = true) : F_l_do (BIG + 6) (DWorld.mk 0 [pA, pB q lost]) 1 1 [DCall.mk 17 0 0 0 0 0] = some (DWorld.mk 0 [pA, pB q lost], DReply.mk 3 0) := by
  refine do_one ?_
  unfold F_i_WorldCall
  rw [copy_B h, ok_B h hl]
  have hp : F_i_World_post (BIG + 6) (DWorld.mk 0 [pA, pB q lost]) 1 0 (DCall.mk 17 0 0 0 0 0) = some (3, DWorld.mk 0 [pA, pB q lost]) := by
    unfold F_i_World_post
    simp only [vok (BIG + 6) (v := 0) (by decide) (by decide), Option.bind_some, Bool.not_true, cond_false, flow_BA, Bool.not_false, cond_true]
  simp only [Option.bind_some, Bool.not_true, cond_false, show F_i_hasPart (BIG + 6) (DWorld.mk 0 [pA, pB q lost]) 1 = some true by kernel_rfl, show idx [pA, pB q lost] 1 = some (pB q lost) from rfl, can_B h hl,
    show F_i_otherPart (BIG + 6) (DWorld.mk 0 [pA, pB q lost]) 1 (DCall.mk 17 0 0 0 0 0) = some 0 by kernel_rfl, hp]
  rfl
/-! ## serving -/
def cl (q : List DMsg) (lost : Int) : DCaller := DCaller.mk (pB q lost) 1 0 1
theorem slot_B (h : Qok q) : F_i_caller_slot (BIG + 6) (cl q lost) 37 3 = some (2, 0, cl q lost) := by
  unfold F_i_caller_slot
  simp only [show F_i_isHandle (BIG + 6) 37 = some true by kernel_rfl, show F_i_HandlePart (BIG + 6) 37 = some 1 by kernel_rfl, Option.bind_some, Bool.not_true, cond_false, show (cl q lost).part.heap.arena = ar q from rfl, show (cl q lost).now = 0 from rfl, show (cl q lost).me = 1 from rfl, good_B h]
  rfl
theorem gate_E (h : Qok []) : F_i_caller_gate (BIG + 6) (cl [] lost) (DCall.mk 13 37 0 0 0 0) = some (8, 0, cl [] lost) := by
  unfold F_i_caller_gate
  simp only [slot_B h, Option.bind_some]
  rfl
theorem gate_B {m : DMsg} {t : List DMsg} (h : Qok (m :: t)) (ht : Qok t) (hm : m.src = -1) (ha : app ([] : List DMsg) t = some t) (hs : sub (m :: t) 1 ((m :: t).length : Int) = some t) :
    F_i_caller_gate (BIG + 6) (cl (m :: t) lost) (DCall.mk 13 37 0 0 0 0) = some (0, m.n, cl t lost) := by
  have hd : ((((m :: t).length : Nat) : Int) == 0) = false := by simp; omega
  unfold F_i_caller_gate
  simp only [slot_B h, Option.bind_some, show ((0 : Int) != 0) = false from rfl, cond_false, cond_true, show (cl (m :: t) lost).part.heap.arena = ar (m :: t) from rfl, show idx (ar (m :: t)) 2 = some (gO (m :: t)) from rfl, vok (BIG + 6) (v := 0) (by decide) (by decide),
    Bool.not_true, show ((13 : Int) == 12) = false from rfl, show ((13 : Int) == 13) = true from rfl, show (gO (m :: t)).queue = m :: t from rfl, hd, show idx (m :: t) 0 = some m from rfl, hs, ha, hm,
    show (ar (m :: t)).set (2 : Int).toNat (DObj.mk (gO (m :: t)).gen (gO (m :: t)).kind (gO (m :: t)).box (gO (m :: t)).res (gO (m :: t)).til (gO (m :: t)).pages (gO (m :: t)).wait (gO (m :: t)).got (gO (m :: t)).ran (gO (m :: t)).mark (gO (m :: t)).links (gO (m :: t)).data t) = ar t from rfl,
    show (cl (m :: t) lost).now = 0 from rfl, show (cl (m :: t) lost).me = 1 from rfl, good_N ht]
  rfl
theorem part_B (h : Qok q) (hl : inR lost 0 1000000 = true) {c : DCall} {code val : Int} {x : DCaller} (hd : F_i_caller_do (BIG + 6) (cl q lost) c = some (code, val, x)) {r : DPart × DReply}
    (hr : (bif (code == 0) then (some (DPart.mk (pB q lost).label (pB q lost).own x.part.tree x.part.heap x.part.taps x.part.next x.part.want x.part.spent x.part.press x.part.lost, DReply.mk 0 val)) else (bif (c.kind == 1) then none else some (pB q lost, DReply.mk code 0)) : Option (DPart × DReply)) = some r) : F_i_PartCall (BIG + 6) (pB q lost) 1 0 1 c = some r := by
  unfold F_i_PartCall
  simp only [i_PartOk bigN (pB_szB h), pB_ok h hl, show F_i_isPart (BIG + 6) 1 = some true by kernel_rfl, show F_i_isTime (BIG + 6) 0 = some true by kernel_rfl, Option.bind_some, Bool.not_true, cond_false, can_B h hl, i_copyPart bigN (pB_szB (lost := lost) h),
    show DCaller.mk (pB q lost) 1 0 1 = cl q lost from rfl, hd]
  rw [← hr]
  cases hc : code == 0
  · cases hk : c.kind == 1
    · rfl
    · rw [hc, hk] at hr; cases hr
  · rfl
theorem do_B {q' : List DMsg} {c : DCall} (hk : c.kind = 13) {code val : Int} (hg : F_i_caller_gate (BIG + 6) (cl q lost) c = some (code, val, cl q' lost)) : F_i_caller_do (BIG + 6) (cl q lost) c = some (code, val, cl q' lost) := by
  unfold F_i_caller_do
  rw [hk]
  simp only [show ((13 : Int) == 1) = false from rfl, show ((13 : Int) == 2) = false from rfl, show ((13 : Int) == 3) = false from rfl, show ((13 : Int) == 4) = false from rfl, show ((13 : Int) == 5) = false from rfl, show ((13 : Int) == 6) = false from rfl, show ((13 : Int) == 7) = false from rfl,
    show ((13 : Int) == 8) = false from rfl, show ((13 : Int) == 9) = false from rfl, show ((13 : Int) == 10) = false from rfl, show ((13 : Int) == 11) = false from rfl, show ((13 : Int) == 12) = false from rfl, show ((13 : Int) == 13) = true from rfl, cond_false, cond_true, Option.bind_some, hg]
  rfl
theorem call_B (h : Qok q) (hl : inR lost 0 1000000 = true) {c : DCall} (hk : c.kind = 13) {p : DPart} {r : DReply} (hp : F_i_PartCall (BIG + 6) (pB q lost) 1 0 1 c = some (p, r)) : F_i_WorldCall (BIG + 6) (DWorld.mk 0 [pA, pB q lost]) 1 1 c = some (DWorld.mk 0 [pA, p], r) := by
  unfold F_i_WorldCall F_i_otherPart
  rw [copy_B h, ok_B h hl, hk]
  simp only [Option.bind_some, Bool.not_true, cond_false, cond_true, show F_i_hasPart (BIG + 6) (DWorld.mk 0 [pA, pB q lost]) 1 = some true by kernel_rfl, show idx [pA, pB q lost] 1 = some (pB q lost) from rfl, can_B h hl,
    show ((13 : Int) == 7) = false from rfl, show ((13 : Int) == 17) = false from rfl, show ((13 : Int) == 16) = false from rfl, show decide ((1 : Int) < 0) = false from rfl, hp]
  rfl
theorem serve_E (hl : inR lost 0 1000000 = true) : F_l_do (BIG + 6) (DWorld.mk 0 [pA, pB [] lost]) 1 1 [DCall.mk 13 37 0 0 0 0] = some (DWorld.mk 0 [pA, pB [] lost], DReply.mk 8 0) := by
  have h : Qok [] := ⟨rfl, by decide⟩
  exact do_one (call_B h hl rfl (part_B h hl (do_B rfl (gate_E h)) rfl))
theorem serve_B {m : DMsg} {t : List DMsg} (h : Qok (m :: t)) (ht : Qok t) (hm : m.src = -1) (ha : app ([] : List DMsg) t = some t) (hs : sub (m :: t) 1 ((m :: t).length : Int) = some t) (hl : inR lost 0 1000000 = true) :
    F_l_do (BIG + 6) (DWorld.mk 0 [pA, pB (m :: t) lost]) 1 1 [DCall.mk 13 37 0 0 0 0] = some (DWorld.mk 0 [pA, pB t lost], DReply.mk 0 m.n) :=
  do_one (call_B h hl rfl (part_B h hl (do_B rfl (gate_B h ht hm ha hs)) rfl))
end
/-! ## the whole -/
theorem at_ex {x : List U8} (hx : Fit.fit x) (hl : x.length ≤ 1048576) (N : Nat) {i : Int} (h0 : 0 ≤ i) (h5 : i ≤ 5) : ∃ v, F_l_at N x i = some v ∧ 0 ≤ v ∧ v ≤ 255 := by
  unfold F_l_at
  cases hlt : decide (i < (x.length : Int))
  · simp only [cond_false]
    rw [wrap_ok (n := i * 37) (by omega) (by omega), wrap_ok (n := (x.length : Int) * 11) (by omega) (by omega), wrap_ok (n := i * 37 + (x.length : Int) * 11) (by omega) (by omega)]
    obtain ⟨q1, q2⟩ := tmod_rng (a := i * 37 + (x.length : Int) * 11) (n := 256) (by omega) (by decide)
    exact ⟨_, rfl, q1, by omega⟩
  · obtain ⟨y, hy, hm⟩ := idx_ex h0 (of_decide_eq_true hlt)
    have hf : 0 ≤ y.v ∧ y.v ≤ 255 := hx.2 y hm
    simp only [cond_true, hy, Option.bind_some]
    exact ⟨_, rfl, by rw [wrap_ok (by omega) (by omega)]; omega⟩
def qs (v : Nat → Int) : Nat → List DMsg
  | 0 => []
  | 1 => [⟨-1, v 0⟩]
  | _ => [⟨-1, v 0⟩, ⟨-1, v 1⟩]
def ls : Nat → Int
  | 0 => 0
  | 1 => 0
  | 2 => 0
  | 3 => 1
  | 4 => 2
  | _ => 3
theorem ls_ok (n : Nat) : inR (ls n) 0 1000000 = true := by
  unfold ls
  split <;> decide
section
variable {v : Nat → Int} (hv : ∀ k, k ≤ 5 → 0 ≤ v k ∧ v k ≤ 255)
include hv
theorem qs_ok : ∀ n, Qok (qs v n)
  | 0 => ⟨rfl, Nat.zero_le 2⟩
  | 1 => q1 (hv 0 (by decide)).1 (hv 0 (by decide)).2
  | _ + 2 => q2 (hv 0 (by decide)).1 (hv 0 (by decide)).2 (hv 1 (by decide)).1 (hv 1 (by decide)).2
theorem step_post : ∀ k, k < 5 → F_l_do (BIG + 6) (DWorld.mk 0 [pA, pB (qs v k) (ls k)]) 0 1 [DCall.mk 17 37 (v k) 0 0 0] = some (DWorld.mk 0 [pA, pB (qs v (k + 1)) (ls (k + 1))], DReply.mk 0 0)
  | 0, _ => post0 (hv 0 (by decide)).1 (hv 0 (by decide)).2
  | 1, _ => post1 (hv 0 (by decide)).1 (hv 0 (by decide)).2 (hv 1 (by decide)).1 (hv 1 (by decide)).2
  | 2, _ => post2 (qs_ok hv 2) (hv 2 (by decide)).1 (hv 2 (by decide)).2 (by decide) (by decide)
  | 3, _ => post2 (qs_ok hv 2) (hv 3 (by decide)).1 (hv 3 (by decide)).2 (by decide) (by decide)
  | 4, _ => post2 (qs_ok hv 2) (hv 4 (by decide)).1 (hv 4 (by decide)).2 (by decide) (by decide)
theorem loop_post {ρ : Type} {body : Int × Int × List DPart → Option ((Int × Int × List DPart) ⊕ ρ)} {r : ρ} {n : Nat} (hn : n ≤ 5)
    (hb : ∀ (k : Nat) (w w' : List DPart), k < n → F_l_do (BIG + 6) (DWorld.mk 0 w) 0 1 [DCall.mk 17 37 (v k) 0 0 0] = some (DWorld.mk 0 w', DReply.mk 0 0) → body ((k : Int), 0, w) = some (.inl (((k + 1 : Nat) : Int), 0, w')))
    (he : body ((n : Int), 0, [pA, pB (qs v n) (ls n)]) = some (.inr r)) : iter body (BIG + 6) (0, 0, [pA, pB [] 0]) = some r :=
  iter_from (fun k => ((k : Int), (0 : Int), [pA, pB (qs v k) (ls k)])) n (Nat.lt_of_le_of_lt hn (by decide)) (fun k hk => hb k _ _ hk (step_post hv k (by omega))) he
theorem step_serve : ∀ n k, (k : Nat) < min n 2 → F_l_do (BIG + 6) (DWorld.mk 0 [pA, pB ((qs v n).drop k) (ls n)]) 1 1 [DCall.mk 13 37 0 0 0 0] = some (DWorld.mk 0 [pA, pB ((qs v n).drop (k + 1)) (ls n)], DReply.mk 0 (v k))
  | 0, k, h => by omega
  | 1, 0, _ => serve_B (qs_ok hv 1) ⟨rfl, by decide⟩ rfl rfl rfl (ls_ok 1)
  | 1, k + 1, h => by omega
  | n + 2, 0, _ => serve_B (qs_ok hv 2) (q1 (hv 1 (by decide)).1 (hv 1 (by decide)).2) rfl rfl rfl (ls_ok (n + 2))
  | n + 2, 1, _ => serve_B (q1 (hv 1 (by decide)).1 (hv 1 (by decide)).2) ⟨rfl, by decide⟩ rfl rfl rfl (ls_ok (n + 2))
  | n + 2, k + 2, h => by omega
theorem loop_serve {ρ : Type} {body : Int × Int × List DPart → Option ((Int × Int × List DPart) ⊕ ρ)} {r : ρ} (n : Nat)
    (hb : ∀ (k : Nat) (w w' : List DPart), k < min n 2 → F_l_do (BIG + 6) (DWorld.mk 0 w) 1 1 [DCall.mk 13 37 0 0 0 0] = some (DWorld.mk 0 w', DReply.mk 0 (v k)) → body ((k : Int), 0, w) = some (.inl (((k + 1 : Nat) : Int), 0, w')))
    (he : body (((min n 2 : Nat) : Int), 0, [pA, pB [] (ls n)]) = some (.inr r)) : iter body (BIG + 6) (0, 0, [pA, pB (qs v n) (ls n)]) = some r := by
  have hd : (qs v n).drop (min n 2) = [] := by
    match n with
    | 0 => rfl
    | 1 => rfl
    | n + 2 => rw [show min (n + 2) 2 = 2 by omega]; rfl
  exact iter_from (fun k => ((k : Int), (0 : Int), [pA, pB ((qs v n).drop k) (ls n)])) (min n 2) (Nat.lt_of_le_of_lt (show min n 2 ≤ 2 by omega) (by decide)) (fun k hk => hb k _ _ hk (step_serve hv n k hk)) (by rw [hd]; exact he)
end
theorem make_B : F_l_do (BIG + 6) (DWorld.mk 0 [pA, pB0]) 1 1 [DCall.mk 1 3 1 0 90 0] = some (DWorld.mk 0 [pA, pB [] 0], DReply.mk 0 37) := by kernel_rfl
theorem boots_B : F_i_WorldNew (BIG + 6) [DBoot.mk (DLabel.mk [0, 0, 0, 0]) [] (DAmt.mk 50 9000 500), DBoot.mk (DLabel.mk [1, 1, 1, 1]) [] (DAmt.mk 20 900 9)] = some (DWorld.mk 0 [pA, pB0]) := by kernel_rfl
theorem L_FnPosts {x : List U8} (hx : Fit.fit x) : ∃ N, F_l_FnPosts N x = some true := by
  refine ⟨BIG + 6, ?_⟩
  unfold F_l_FnPosts F_l_big
  simp only [Option.bind_some]
  cases hb : decide ((x.length : Int) > 1048576)
  case true => rfl
  have hl := of_decide_eq_false hb
  have hat : ∀ k : Nat, k ≤ 5 → F_l_at (BIG + 6) x (k : Int) = some ((F_l_at (BIG + 6) x (k : Int)).getD 0) ∧ 0 ≤ (F_l_at (BIG + 6) x (k : Int)).getD 0 ∧ (F_l_at (BIG + 6) x (k : Int)).getD 0 ≤ 255 := fun k hk => by
    obtain ⟨v, e, h0, h1⟩ := at_ex hx (by omega) (BIG + 6) (i := (k : Int)) (by omega) (by omega)
    rw [e]; exact ⟨rfl, h0, h1⟩
  generalize hvd : (fun k : Nat => (F_l_at (BIG + 6) x (k : Int)).getD 0) = v at *
  have hve : ∀ k : Nat, (F_l_at (BIG + 6) x (k : Int)).getD 0 = v k := fun k => by rw [← hvd]
  simp only [hve] at hat
  have hv : ∀ k, k ≤ 5 → 0 ≤ v k ∧ v k ≤ 255 := fun k hk => (hat k hk).2
  obtain ⟨n, hn, hn5⟩ : ∃ n : Nat, Int.tmod (v 0) 6 = (n : Int) ∧ n ≤ 5 := by
    obtain ⟨q1, q2⟩ := tmod_rng (a := v 0) (n := 6) (hv 0 (by decide)).1 (by decide)
    exact ⟨(Int.tmod (v 0) 6).toNat, by omega, by omega⟩
  have h0 : F_l_at (BIG + 6) x 0 = some (v 0) := (hat 0 (by decide)).1
  simp only [cond_false, show F_l_rich (BIG + 6) = some [DBoot.mk (DLabel.mk [0, 0, 0, 0]) [] (DAmt.mk 50 9000 500)] by kernel_rfl, show F_s_Flat (BIG + 6) 1 = some (DLabel.mk [1, 1, 1, 1]) by kernel_rfl, Option.bind_some,
    show app [DBoot.mk (DLabel.mk [0, 0, 0, 0]) [] (DAmt.mk 50 9000 500)] [DBoot.mk (DLabel.mk [1, 1, 1, 1]) [] (DAmt.mk 20 900 9)] = some [DBoot.mk (DLabel.mk [0, 0, 0, 0]) [] (DAmt.mk 50 9000 500), DBoot.mk (DLabel.mk [1, 1, 1, 1]) [] (DAmt.mk 20 900 9)] from rfl, boots_B,
    show F_s_HandleOf (BIG + 6) 1 0 0 = some 1 by kernel_rfl, make_B, h0, hn]
  rw [loop_post hv (r := .inl ((n : Int), 0, [pA, pB (qs v n) (ls n)])) hn5]
  rotate_left
  · intro k w w' hk hd
    simp only [lt_dec hk, cond_true, (hat k (by omega)).1, Option.bind_some, hd, decide_true, Bool.not_true, cond_false]
    rw [wrap1 (Nat.lt_of_lt_of_le hk (Nat.le_trans hn5 (by decide)))]
  · simp only [ge_dec, cond_false]
  simp only [Option.bind_some, Sum.elim_inl, show idx [pA, pB (qs v n) (ls n)] 1 = some (pB (qs v n) (ls n)) from rfl, show F_s_HandleOf (BIG + 6) 0 0 0 = some 0 by kernel_rfl, down_B (qs_ok hv n) (ls_ok n)]
  have hlost : ((pB (qs v n) (ls n)).lost != (if (0 : Int) > IntKind.i64.wrap ((n : Int) - 2) then (0 : Int) else IntKind.i64.wrap ((n : Int) - 2))) = false := by
    show (ls n != _) = false
    rcases (show n = 0 ∨ n = 1 ∨ n = 2 ∨ n = 3 ∨ n = 4 ∨ n = 5 by omega) with rfl | rfl | rfl | rfl | rfl | rfl <;> decide
  have hmin : (if (2 : Int) < (n : Int) then (2 : Int) else (n : Int)) = ((min n 2 : Nat) : Int) := by split <;> omega
  rw [show ((([pA, pB (qs v n) (ls n)] : List DPart).length : Int) != 2) = false from rfl]
  simp only [cond_false, hlost, Option.bind_some, hmin]
  rw [loop_serve hv (r := .inl (((min n 2 : Nat) : Int), 0, [pA, pB [] (ls n)])) n]
  rotate_left
  · intro k w w' hk hd
    simp only [lt_dec hk, cond_true, hd, Option.bind_some, (hat k (by omega)).1, bne_self_eq_false, cond_false]
    rw [wrap1 (Nat.lt_of_lt_of_le hk (Nat.le_trans (show min n 2 ≤ 2 by omega) (by decide)))]
  · simp only [ge_dec, cond_false]
  simp only [Option.bind_some, Sum.elim_inl, serve_E (ls_ok n)]
  rfl
end Go.Kx
