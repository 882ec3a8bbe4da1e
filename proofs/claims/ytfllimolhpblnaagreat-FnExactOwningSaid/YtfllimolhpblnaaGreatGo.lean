/- Steps of a walk that need no telling: taken by a lemma's own default. No program in sight. -/
import Derived.Test.YtfllimolhpblnaaGreatOwn
namespace Go.Kx
open Go Go.RowKit
set_option linter.unusedVariables false
set_option linter.unusedSimpArgs false

/-! closed facts, found by what they speak of -/
class AgC (P : Program) (t : TypeId) (a : outParam (Option Nat)) : Prop where
  h : aggV P t = some a
class FoC (P : Program) (t : TypeId) (k : Nat) (off : outParam Nat) (a : outParam (Option Nat)) : Prop where
  h : fo P t k = some (off, a)
class SzC (P : Program) (t : TypeId) (m : outParam Nat) : Prop where
  h : szV P t = some m
class UnC (P : Program) (t : TypeId) (ds : outParam TypeDesc) : Prop where
  h : P.underlying t = some ds
class PlC (P : Program) (f : FuncId) : Prop where
  h : plainFn P f = true

class ZvC (P : Program) (t : TypeId) where
  z : Value
  h : zeroV P t = some z
/-- a list, said thing by thing -/
inductive Nf {α : Type} : List α → List α → Prop
  | nil {l : List α} (h : l = []) : Nf l []
  | cons {l t m : List α} {a : α} (h : l = a :: t) (k : Nf t m) : Nf l (a :: m)
theorem Nf.eq {α : Type} : ∀ {l m : List α}, Nf l m → l = m
  | _, _, .nil h => h
  | _, _, .cons h k => by rw [h, k.eq]
/-! the frame as a list: the latest first -/
def lkl : List (Nat × Value) → Nat → Option Value
  | [], _ => none
  | (d, v) :: l, i => bif Nat.beq i d then some v else lkl l i
def evl (l : List (Nat × Value)) : Operand → Option Value
  | .tmp t => lkl l t
  | .const v => some v
  | .global g => some (.pointer (some ⟨g, 0, none⟩))
  | .func f => some (.func (.func f) #[] #[])
theorem lkl_eq {e : Env} : ∀ {l : List (Nat × Value)} {i : Nat} {v : Value}, lkl l i = some v → upds e l i = v
  | [], _, _, h => by cases h
  | (d, u) :: l, i, v, h => by
    unfold lkl at h
    unfold upds upd
    cases hb : Nat.beq i d
    · rw [hb] at h; exact lkl_eq h
    · rw [hb] at h; exact Option.some.inj h
theorem evl_eq {e : Env} {l : List (Nat × Value)} {x : Operand} {v : Value} (h : evl l x = some v) : ev (upds e l) x = v := by
  cases x with
  | tmp t => exact lkl_eq h
  | const u => exact Option.some.inj h
  | global g => exact Option.some.inj h
  | func f => exact Option.some.inj h
def enumL : Nat → List Value → List (Nat × Value)
  | _, [] => []
  | k, v :: l => (k, v) :: enumL (k + 1) l
theorem upds_enum : ∀ (l : List Value) (k i : Nat), upds (fun _ => undef) (enumL k l) i = if k ≤ i then l.getD (i - k) undef else undef
  | [], k, i => by simp [enumL, upds]
  | v :: l, k, i => by
    unfold enumL upds upd
    cases hb : Nat.beq i k
    · have hne : i ≠ k := fun e => by subst e; simp at hb
      rw [cond_false, upds_enum l (k + 1) i]
      by_cases h1 : k + 1 ≤ i
      · rw [if_pos h1, if_pos (by omega), show i - k = (i - (k + 1)) + 1 by omega]; rfl
      · rw [if_neg h1, if_neg (by omega)]
    · have := Nat.eq_of_beq_eq_true hb
      subst this
      simp
theorem args_eq (args : Array Value) : args0 args = upds (fun _ => undef) (enumL 0 args.toList) := by
  funext i
  rw [upds_enum]
  simp [args0, Array.getD_eq_getD_getElem?, List.getD_eq_getElem?_getD]
theorem Ret.fn {P : Program} {n : Nat} {w : World} {f : FuncId} {fn : Func} {c : Code} {args : Array Value} {K : Value → World → Prop} (hf : P.funcs[f]? = some fn)
    (h : ∀ e, CW P n c (fun x e' w' => (match x with | .ret => True | .normal => True | _ => False) ∧ ∃ v, Res P fn.results e' w' v ∧ K v w') (upds e (enumL 0 args.toList)) w) (hb : fn.body = some c := by rfl) (hn : fn.ntmps = n := by rfl) (ha : Nat.ble args.size n = true := by rfl) : Ret P f args w K :=
  Ret.of hf hb hn ha (args_eq args ▸ h _)
/-- some slots -/
inductive Pkl (l : List (Nat × Value)) : List Nat → List (Nat × Value) → Prop
  | nil : Pkl l [] []
  | cons {d : Nat} {v : Value} {ds : List Nat} {m : List (Nat × Value)} (h : lkl l d = some v) (t : Pkl l ds m) : Pkl l (d :: ds) ((d, v) :: m)
theorem Pkl.en {e : Env} {l : List (Nat × Value)} : ∀ {ds : List Nat} {m : List (Nat × Value)}, Pkl l ds m → En (upds e l) m
  | _, _, .nil => trivial
  | _, _, .cons h t => ⟨lkl_eq h, t.en⟩

section
variable {P : Program} {n : Nat} {Q Q' : Post} {e : Env} {l : List (Nat × Value)} {w w0 : World} {F0 : List Nat} {L : List Item} {ops : Array Oper} {rest : List Oper} {ty : TypeId} {pos : String} {aft : Array Edge} {d : Nat} {v : Value}

theorem nrS {E : Env} (h : E = upds e l) : upd E d v = upds e ((d, v) :: l) := by subst h; rfl
theorem LW.nr {E : Env} (hE : E = upds e l) (h : LW P n ops Q rest (upds e ((d, v) :: l)) w) : LW P n ops Q rest (upd E d v) w := by subst hE; exact h
theorem CW.nr {E : Env} {c : Code} (hE : E = upds e l) (h : CW P n c Q (upds e ((d, v) :: l)) w) : CW P n c Q (upd E d v) w := by subst hE; exact h
theorem LW.fl (ds : List Nat) {E : Env} {m : List (Nat × Value)} (k : ∀ e', LW P n ops Q rest (upds e' m) w) (hE : E = upds e l := by repeat (first | (with_reducible exact rfl) | (with_reducible apply nrS))) (h : Pkl l ds m := by repeat (first | exact Pkl.nil | (apply Pkl.cons; rfl))) : LW P n ops Q rest E w := by subst hE; exact LW.fresh h.en k
theorem CW.fl (ds : List Nat) {E : Env} {m : List (Nat × Value)} {c : Code} (k : ∀ e', CW P n c Q (upds e' m) w) (hE : E = upds e l := by repeat (first | (with_reducible exact rfl) | (with_reducible apply nrS))) (h : Pkl l ds m := by repeat (first | exact Pkl.nil | (apply Pkl.cons; rfl))) : CW P n c Q E w := by subst hE; exact CW.fresh h.en k
theorem LW.mv {x : Operand} (hx : evl l x = some v) (hd : Nat.ble (d + 1) n = true) (h : LW P n ops Q rest (upds e ((d, v) :: l)) w) : LW P n ops Q (⟨some d, .move x, ty, pos, aft, none⟩ :: rest) (upds e l) w :=
  LW.p (by simp [pv, evl_eq hx]) hd h
theorem LW.as {x : Operand} (hx : evl l x = some v) (hd : Nat.ble (d + 1) n = true) (h : LW P n ops Q rest (upds e ((d, v) :: l)) w) : LW P n ops Q (⟨some d, .assign x, ty, pos, aft, none⟩ :: rest) (upds e l) w :=
  LW.p (by simp [pv, evl_eq hx]) hd h
theorem LW.bin {o : BinOp} {t u : TypeId} {x y : Operand} {k k' : IntKind} {a b : Int} (hx : evl l x = some (.int k a)) (hy : evl l y = some (.int k' b)) (hv : (bif ikEq k k' then iop o k a b else none) = some v) (hd : Nat.ble (d + 1) n = true)
    (h : LW P n ops Q rest (upds e ((d, v) :: l)) w) : LW P n ops Q (⟨some d, .binOp o t x y u, ty, pos, aft, none⟩ :: rest) (upds e l) w :=
  LW.p (by simp only [pv, evl_eq hx, evl_eq hy]; exact hv) hd h
theorem LW.not {t : TypeId} {x : Operand} {b : Bool} (hx : evl l x = some (.bool b)) (hd : Nat.ble (d + 1) n = true) (h : LW P n ops Q rest (upds e ((d, .bool (!b)) :: l)) w) : LW P n ops Q (⟨some d, .unOp .not t x, ty, pos, aft, none⟩ :: rest) (upds e l) w :=
  LW.p (by simp [pv, evl_eq hx]) hd h
theorem LW.neg {t : TypeId} {x : Operand} {k : IntKind} {a : Int} (hx : evl l x = some (.int k a)) (hd : Nat.ble (d + 1) n = true) (h : LW P n ops Q rest (upds e ((d, .int k (k.wrap (0 - a))) :: l)) w) : LW P n ops Q (⟨some d, .unOp .neg t x, ty, pos, aft, none⟩ :: rest) (upds e l) w :=
  LW.p (by simp [pv, evl_eq hx]) hd h
theorem LW.ext {x : Operand} {i : Nat} {vs : Array Value} (hx : evl l x = some (.tuple vs)) (hv : lkq vs.toList i = some v) (hd : Nat.ble (d + 1) n = true) (h : LW P n ops Q rest (upds e ((d, v) :: l)) w) : LW P n ops Q (⟨some d, .extract x i, ty, pos, aft, none⟩ :: rest) (upds e l) w :=
  LW.p (by simp only [pv, evl_eq hx]; exact hv) hd h
theorem LW.fa {t : TypeId} {x : Operand} {k off g o : Nat} {a : Option Nat} (hf : fo P t k = some (off, a)) (hx : evl l x = some (.pointer (some ⟨g, o, none⟩))) (hd : Nat.ble (d + 1) n = true)
    (h : LW P n ops Q rest (upds e ((d, .pointer (some ⟨g, o + off, none⟩)) :: l)) w) : LW P n ops Q (⟨some d, .fieldAddr t x k, ty, pos, aft, none⟩ :: rest) (upds e l) w := LW.u (Pur.fa hf (evl_eq hx)) hd h
theorem LW.nc {x : Operand} {a : Addr} (hx : evl l x = some (.pointer (some a))) (hd : Nat.ble (d + 1) n = true) (h : LW P n ops Q rest (upds e ((d, .pointer (some a)) :: l)) w) : LW P n ops Q (⟨some d, .nilCheck x, ty, pos, aft, none⟩ :: rest) (upds e l) w := LW.u (Pur.nc (evl_eq hx)) hd h
theorem LW.len {t el : TypeId} {x : Operand} {a : Option Addr} {m c : Nat} (ht : P.underlying t = some (.slice el)) (hx : evl l x = some (.slice a m c)) (hd : Nat.ble (d + 1) n = true) (h : LW P n ops Q rest (upds e ((d, .int .i64 (m : Int)) :: l)) w) :
    LW P n ops Q (⟨some d, .call { callee := .builtin .len, args := #[x], argTypes := #[t] }, ty, pos, aft, none⟩ :: rest) (upds e l) w := LW.u (Pur.len ht (evl_eq hx)) hd h
theorem LW.pkT {c a b : Operand} {t : Bool} (hc : evl l c = some (.bool t)) (ht : t = true) (ha : evl l a = some v) (hd : Nat.ble (d + 1) n = true) (h : LW P n ops Q rest (upds e ((d, v) :: l)) w) : LW P n ops Q (⟨some d, .pick c a b, ty, pos, aft, none⟩ :: rest) (upds e l) w := by
  refine LW.u (Pur.pickT (evl_eq hc) ht) hd ?_
  rw [evl_eq ha]; exact h
theorem LW.pkF {c a b : Operand} {t : Bool} (hc : evl l c = some (.bool t)) (ht : t = false) (ha : evl l b = some v) (hd : Nat.ble (d + 1) n = true) (h : LW P n ops Q rest (upds e ((d, v) :: l)) w) : LW P n ops Q (⟨some d, .pick c a b, ty, pos, aft, none⟩ :: rest) (upds e l) w := by
  refine LW.u (Pur.pickF (evl_eq hc) ht) hd ?_
  rw [evl_eq ha]; exact h
theorem LW.ld {t bt : TypeId} {x : Operand} {g o : Nat} {cs : List Value} (hx : evl l x = some (.pointer (some ⟨g, o, none⟩))) (hS : St w0 F0 w L) (hm : ∃ i : Nat, L[i]? = some (bx g bt cs)) (ht : aggV P t = some none) (hv : lkp cs o = some v) (hd : Nat.ble (d + 1) n = true)
    (h : LW P n ops Q rest (upds e ((d, v) :: l)) w) : LW P n ops Q (⟨some d, .load t x, ty, pos, aft, none⟩ :: rest) (upds e l) w := by
  obtain ⟨i, hi⟩ := hm
  exact LW.ldb hS i hi ht (evl_eq hx) hv hd h
theorem LW.ldN {t bt : TypeId} {x : Operand} {g o m : Nat} {cs : List Value} (hx : evl l x = some (.pointer (some ⟨g, o, none⟩))) (hS : St w0 F0 w L) (hm : ∃ i : Nat, L[i]? = some (bx g bt cs)) (ht : aggV P t = some (some m)) (hl : Nat.ble (o + m) cs.length = true) (hd : Nat.ble (d + 1) n = true)
    {vs : List Value} (hn : Nf (lkN cs o m) vs) (h : LW P n ops Q rest (upds e ((d, .agg vs.toArray) :: l)) w) : LW P n ops Q (⟨some d, .load t x, ty, pos, aft, none⟩ :: rest) (upds e l) w := by
  obtain ⟨i, hi⟩ := hm
  cases hn.eq
  exact LW.ldbN hS i hi ht (evl_eq hx) hl hd h
theorem LW.yes {op : Op} {dd : Option Tmp} {j q : Nat} {b t : Bool} (hd : (ops[j]?).bind (·.dst) = some q) (hv : lkl l q = some (.bool t)) (ht : t = b) (h : LW P n ops Q (⟨dd, op, ty, pos, aft, none⟩ :: rest) (upds e l) w) :
    LW P n ops Q (⟨dd, op, ty, pos, aft, some (j, b)⟩ :: rest) (upds e l) w := LW.gY (want_of hd (lkl_eq hv) ht) h
theorem LW.no {op : Op} {j q : Nat} {b t : Bool} (hd : (ops[j]?).bind (·.dst) = some q) (hv : lkl l q = some (.bool t)) (ht : t = !b) (hn : Nat.ble (d + 1) n = true) (h : LW P n ops Q rest (upds e ((d, undef) :: l)) w) :
    LW P n ops Q (⟨some d, op, ty, pos, aft, some (j, b)⟩ :: rest) (upds e l) w := LW.gN (want_not hd (lkl_eq hv) ht) hn h
theorem LW.noU {op : Op} {j q : Nat} {b : Bool} (hd : (ops[j]?).bind (·.dst) = some q) (hv : lkl l q = some undef) (hn : Nat.ble (d + 1) n = true) (h : LW P n ops Q rest (upds e ((d, undef) :: l)) w) :
    LW P n ops Q (⟨some d, op, ty, pos, aft, some (j, b)⟩ :: rest) (upds e l) w := LW.gN (want_undef hd (lkl_eq hv)) hn h

theorem LW.isc {r : List Oper} {o : Oper} (h : LW P n ops Q (o :: r) e w) : LW P n ops Q (o :: r) e w := h
theorem LW.ex {r : List Oper} {o : Oper} (hr : rest = o :: r) (h : LW P n ops Q (o :: r) e w) : LW P n ops Q rest e w := by subst hr; exact h
theorem bkH {id : Nat} (h : Q .normal e w) : blk id Q (.exit id) e w := by
  show (bif Nat.beq id id then Q .normal e w else Q (.exit id) e w)
  rw [Nat.beq_refl]; exact h
theorem bkM {id id' : Nat} (hn : Nat.beq id' id = false) (h : Q (.exit id') e w) : blk id Q (.exit id') e w := by
  show (bif Nat.beq id' id then Q .normal e w else Q (.exit id') e w)
  rw [hn]; exact h
theorem bkN {id : Nat} (h : Q .normal e w) : blk id Q .normal e w := h
theorem bkR {id : Nat} (h : Q .ret e w) : blk id Q .ret e w := h
theorem thN {M : Env → World → Prop} (h : M e w) : thenE M Q .normal e w := h
theorem thR {M : Env → World → Prop} (h : Q .ret e w) : thenE M Q .ret e w := h
theorem thX {id : Nat} {M : Env → World → Prop} (h : Q (.exit id) e w) : thenE M Q (.exit id) e w := h
/-- a store into a variable of one's own -/
theorem LW.st {E : Env} {t bt : TypeId} {x y : Operand} {a : Option Nat} {g o : Nat} {cs vs cs' : List Value} {L' : List Item} (hS : St w0 F0 w L) (i : Nat) (h : ∀ w' : World, St w0 F0 w' L' → LW P n ops Q rest (upds e l) w')
    (hE : E = upds e l := by repeat (first | (with_reducible exact rfl) | (with_reducible apply nrS))) (hx : evl l x = some (.pointer (some ⟨g, o, none⟩)) := by rfl) (hi : L[i]? = some (bx g bt cs) := by rfl) (ht : aggV P t = some a := by exact AgC.h) (hy : evl l y = some v := by rfl)
    (hv : Nf v.cells.toList vs := by repeat (first | ((with_reducible apply Nf.cons); rfl) | ((with_reducible apply Nf.nil); rfl))) (hm : vs.length = a.getD 1 := by rfl) (hl : Nat.ble (o + vs.length) cs.length = true := by rfl) (h1 : vs.all (·.oneCell') = true := by rfl) (hc : Nf (spl cs o vs) cs' := by repeat (first | ((with_reducible apply Nf.cons); rfl) | ((with_reducible apply Nf.nil); rfl))) (hL : Nf (L.set i (bx g bt cs')) L' := by repeat (first | ((with_reducible apply Nf.cons); rfl) | ((with_reducible apply Nf.nil); rfl))) :
    LW P n ops Q (⟨none, .store t x y, ty, pos, aft, none⟩ :: rest) E w := by
  subst hE
  cases hv.eq; cases hc.eq; cases hL.eq
  exact LW.stb hS i hi ht (evl_eq hx) (by rw [evl_eq hy]) hm hl h1 fun w' hS' _ => h w' hS'
theorem LW.bo {E : Env} {t : TypeId} {x : Operand} {cs : List Value} (hS : St w0 F0 w L) (h : ∀ (g : Nat) (w' : World), St w0 F0 w' (bx g t cs :: L) → LW P n ops Q rest (upds e ((d, .pointer (some ⟨g, 0, none⟩)) :: l)) w')
    (hE : E = upds e l := by repeat (first | (with_reducible exact rfl) | (with_reducible apply nrS))) (hx : evl l x = some v := by rfl) (hv : Nf v.cells.toList cs := by repeat (first | ((with_reducible apply Nf.cons); rfl) | ((with_reducible apply Nf.nil); rfl))) (hd : Nat.ble (d + 1) n = true := by rfl) : LW P n ops Q (⟨some d, .box t x, ty, pos, aft, none⟩ :: rest) E w := by
  subst hE
  cases hv.eq
  exact LW.box (by rw [evl_eq hx]) hS hd fun g w' hS' _ => h g w' hS'
theorem LW.al {E : Env} {t : TypeId} {cs : List Value} [z : ZvC P t] (hS : St w0 F0 w L) (h : ∀ (g : Nat) (w' : World), St w0 F0 w' (bx g t cs :: L) → LW P n ops Q rest (upds e ((d, .pointer (some ⟨g, 0, none⟩)) :: l)) w')
    (hE : E = upds e l := by repeat (first | (with_reducible exact rfl) | (with_reducible apply nrS))) (hv : Nf z.z.cells.toList cs := by repeat (first | ((with_reducible apply Nf.cons); rfl) | ((with_reducible apply Nf.nil); rfl))) (hd : Nat.ble (d + 1) n = true := by rfl) : LW P n ops Q (⟨some d, .alloc t, ty, pos, aft, none⟩ :: rest) E w := by
  subst hE
  cases hv.eq
  exact LW.alloc z.h hS hd fun g w' hS' _ => h g w' hS'
theorem mhd {a : Item} {l : List Item} : ∃ i : Nat, (a :: l)[i]? = some a := ⟨0, rfl⟩
theorem mtl {a b : Item} {l : List Item} (h : ∃ i : Nat, l[i]? = some a) : ∃ i : Nat, (b :: l)[i]? = some a := h.elim fun i hi => ⟨i + 1, hi⟩
theorem oi {α : Type} {a b : α} (h : some a = some b) : a = b := Option.some.inj h
/-- a call, by its contract -/
theorem LW.cl {f : FuncId} {as : Array Operand} {ts : Array TypeId} {al : List Value} {K : Value → World → Prop} (q : Ret P f al.toArray w K) (h : ∀ v w', K v w' → LW P n ops Q rest (upd e d v) w')
    (hp : plainFn P f = true := by exact PlC.h) (hd : Nat.ble (d + 1) n = true := by rfl) (hargs : as.toList.map (ev e) = al := by rfl) :
    LW P n ops Q (⟨some d, .call { callee := .value (.func f), args := as, argTypes := ts }, ty, pos, aft, none⟩ :: rest) e w := LW.call hp hd hargs (Ret.mono q h)
/-- one that gives a plain value, and nothing else -/
theorem LW.c0 {f : FuncId} {as : Array Operand} {ts : Array TypeId} {al : List Value} {u : Value} (q : Ret P f al.toArray w fun v w' => v = u ∧ St w [] w' []) (hS : St w0 F0 w L) (h : ∀ w', St w0 F0 w' L → LW P n ops Q rest (upd e d u) w')
    (hp : plainFn P f = true := by exact PlC.h) (hd : Nat.ble (d + 1) n = true := by rfl) (hargs : as.toList.map (ev e) = al := by rfl) :
    LW P n ops Q (⟨some d, .call { callee := .value (.func f), args := as, argTypes := ts }, ty, pos, aft, none⟩ :: rest) e w :=
  LW.cl q (fun v w' ⟨h1, h2⟩ => by subst h1; exact h w' (by simpa using hS.add h2)) hp hd hargs
/-- steps that need no telling -/
theorem go {A B : Prop} (a : A) (f : (Unit → A) → B := by
    intro a
    repeat (first
      | ((with_reducible apply LW.nr); (repeat first | (with_reducible exact rfl) | (with_reducible apply nrS)))
      | ((with_reducible apply LW.yes); rfl; rfl; (first | assumption | rfl))
      | ((with_reducible apply LW.no); rfl; rfl; (first | assumption | rfl); rfl)
      | ((with_reducible apply LW.mv); rfl; rfl)
      | ((with_reducible apply LW.fa); (exact FoC.h); rfl; rfl)
      | ((with_reducible apply LW.ld); rfl; assumption; (repeat (first | exact mhd | apply mtl)); (exact AgC.h); rfl; rfl)
      | ((with_reducible apply LW.bin); rfl; rfl; rfl; rfl)
      | ((with_reducible apply LW.pkT); rfl; (first | assumption | rfl); rfl; rfl)
      | ((with_reducible apply LW.pkF); rfl; (first | assumption | rfl); rfl; rfl)
      | ((with_reducible apply LW.as); rfl; rfl)
      | ((with_reducible apply LW.ldN); rfl; assumption; (repeat (first | exact mhd | apply mtl)); (exact AgC.h); rfl; rfl; (repeat (first | ((with_reducible apply Nf.cons); rfl) | ((with_reducible apply Nf.nil); rfl))))
      | ((with_reducible apply LW.len); (exact UnC.h); rfl; rfl)
      | ((with_reducible apply LW.noU); rfl; rfl; rfl)
      | ((with_reducible apply LW.ext); rfl; rfl; rfl)
      | ((with_reducible apply LW.not); rfl; rfl)
      | ((with_reducible apply LW.neg); rfl; rfl)
      | with_reducible apply LW.nil
      | ((with_reducible apply CW.nr); (repeat first | (with_reducible exact rfl) | (with_reducible apply nrS)))
      | with_reducible apply CW.seq
      | with_reducible apply thN
      | with_reducible apply bkH
      | with_reducible apply bkN
      | with_reducible apply bkR
      | with_reducible apply thX
      | with_reducible apply thR
      | ((with_reducible apply bkM); (exact rfl))
      | with_reducible apply CW.region
      | with_reducible apply CW.skip
      | with_reducible apply CW.block
      | with_reducible apply CW.exit
      | (with_reducible apply CW.ret)
      | ((fail_if_success (with_reducible apply LW.isc)); (with_reducible apply LW.ex); rfl))
    exact a ()) : B := f fun _ => a
/-- the same, up to the next region or block -/
theorem gs {A B : Prop} (a : A) (f : (Unit → A) → B := by
    intro a
    repeat (first
      | ((with_reducible apply LW.nr); (repeat first | (with_reducible exact rfl) | (with_reducible apply nrS)))
      | ((with_reducible apply LW.yes); rfl; rfl; (first | assumption | rfl))
      | ((with_reducible apply LW.no); rfl; rfl; (first | assumption | rfl); rfl)
      | ((with_reducible apply LW.mv); rfl; rfl)
      | ((with_reducible apply LW.fa); (exact FoC.h); rfl; rfl)
      | ((with_reducible apply LW.ld); rfl; assumption; (repeat (first | exact mhd | apply mtl)); (exact AgC.h); rfl; rfl)
      | ((with_reducible apply LW.bin); rfl; rfl; rfl; rfl)
      | ((with_reducible apply LW.pkT); rfl; (first | assumption | rfl); rfl; rfl)
      | ((with_reducible apply LW.pkF); rfl; (first | assumption | rfl); rfl; rfl)
      | ((with_reducible apply LW.as); rfl; rfl)
      | ((with_reducible apply LW.ldN); rfl; assumption; (repeat (first | exact mhd | apply mtl)); (exact AgC.h); rfl; rfl; (repeat (first | ((with_reducible apply Nf.cons); rfl) | ((with_reducible apply Nf.nil); rfl))))
      | ((with_reducible apply LW.len); (exact UnC.h); rfl; rfl)
      | ((with_reducible apply LW.noU); rfl; rfl; rfl)
      | ((with_reducible apply LW.ext); rfl; rfl; rfl)
      | ((with_reducible apply LW.not); rfl; rfl)
      | ((with_reducible apply LW.neg); rfl; rfl)
      | with_reducible apply LW.nil
      | ((with_reducible apply CW.nr); (repeat first | (with_reducible exact rfl) | (with_reducible apply nrS)))
      | with_reducible apply CW.seq
      | with_reducible apply thN
      | with_reducible apply bkH
      | with_reducible apply bkN
      | with_reducible apply bkR
      | with_reducible apply thX
      | with_reducible apply thR
      | ((with_reducible apply bkM); (exact rfl))
      | with_reducible apply CW.skip
      | ((fail_if_success (with_reducible apply LW.isc)); (with_reducible apply LW.ex); rfl))
    exact a ()) : B := f fun _ => a
end
end Go.Kx
