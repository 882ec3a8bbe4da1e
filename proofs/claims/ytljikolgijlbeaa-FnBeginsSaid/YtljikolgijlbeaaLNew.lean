/- Plain laws: a new part. No program in sight. -/
import Derived.Test.YtljikolgijlbeaaLPut
namespace Go.Kx
open Go
set_option linter.unusedVariables false
set_option linter.unusedSimpArgs false
set_option maxRecDepth 10000

def arenaNew : List DObj := (List.replicate 10 (blank 0)).set 0 (DObj.mk 0 1 (-1) 0 1000000 0 0 0 0 false [-1, -1] [] [])
def aThread : DObj := DObj.mk 0 4 0 0 1000000 0 0 0 0 false [-1, -1] [] []
def arena1 : List DObj := arenaNew.set 1 (genned aThread 1)
def arena2 : List DObj := arenaNew.set 1 (marked (genned aThread 1) true)
theorem i_ArenaNew (N : Nat) : F_i_ArenaNew N = some arenaNew := rfl
theorem arenaPut_new : arenaPut arenaNew aThread = (arena1, 1) := by decide
theorem arenaNew_w : wA arenaNew := by
  intro o ho
  have : ∀ o ∈ arenaNew, -9223372036854775808 ≤ o.wait := by decide
  exact this o ho
theorem arena1_w : wA arena1 := by
  intro o ho
  have : ∀ o ∈ arena1, -9223372036854775808 ≤ o.wait := by decide
  exact this o ho
def newHeap : DHeap := DHeap.mk arena2 (DGc.mk 0 0 0 [0])
theorem gcBorn_new : gcBorn (DHeap.mk arena1 (DGc.mk 0 0 0 [0])) 1 = newHeap := by decide
def treeNew (a : DAmt) : List DRes := (List.replicate 5 zRes).set 0 (DRes.mk true (-1) a)
theorem amtOk_na {a : DAmt} (h : amtOk a = true) : amtSum ⟨0, 0, 0⟩ a = a := by
  unfold amtOk okA at h
  simp only [Bool.and_eq_true, inR_iff] at h
  unfold amtSum
  simp only [Int.zero_add]
  rw [wrap_ok (by omega) (by omega), wrap_ok (by omega) (by omega), wrap_ok (by omega) (by omega)]
theorem treeOk_new (a : DAmt) : treeOk (treeNew a) = amtOk a := by
  have h1 : ∀ i : Nat, allI (treeP (treeNew a)) (i + 1) (List.replicate 4 zRes) = true := fun i => by
    rw [allI_iff]
    intro j r hr
    rw [List.getElem?_replicate] at hr
    split at hr
    · cases hr; rfl
    · cases hr
  have h2 : allI (treeP (treeNew a)) 0 (treeNew a) = amtOk a := by
    show (((amtOk a && true) && allI (treeP (treeNew a)) 1 (List.replicate 4 zRes)) : Bool) = amtOk a
    rw [h1 0, Bool.and_true, Bool.and_true]
  unfold treeOk
  rw [h2]
  show (true && (true && (true && (amtOk a && amtOk (amtSum ⟨0, 0, 0⟩ a))))) = amtOk a
  cases h : amtOk a
  · rfl
  · rw [amtOk_na h, h]; rfl
theorem i_TreeNew {N : Nat} (hN : BIG ≤ N) (a : DAmt) : F_i_TreeNew N a = some (if amtOk a then (treeNew a, true) else ([], false)) := by
  unfold F_i_TreeNew
  rw [show mk DRes 5 = some (List.replicate 5 zRes) from rfl]
  simp only [Option.bind_some]
  rw [show idx (List.replicate 5 zRes) 0 = some zRes from rfl]
  simp only [Option.bind_some]
  rw [show (List.replicate 5 zRes).set (0 : Int).toNat (DRes.mk true (-1) a) = treeNew a from rfl, i_TreeOk hN, treeOk_new]
  cases amtOk a <;> rfl
def zPart : DPart := DPart.mk (DLabel.mk []) [] [] (DHeap.mk [] (DGc.mk 0 0 0 [])) [] 0 0 (DAmt.mk 0 0 0) 0 0
def newPart (b : DBoot) : DPart := DPart.mk b.label b.own (treeNew b.amt) newHeap [] 0 0 (DAmt.mk 0 0 0) 0 0
def bOk (b : DBoot) : Bool := amtOk b.amt && (labelOk b.label && ownOk b.own)
def partNew (b : DBoot) : DPart × Bool := if bOk b then (newPart b, true) else (zPart, false)
theorem aThread_w : wOk aThread := by show (-9223372036854775808 : Int) ≤ 0; decide
theorem i_PartNew {N : Nat} (hN : BIG + 1 ≤ N) {b : DBoot} (hb : sz_DBoot b < BIG) : F_i_PartNew N b = some (partNew b) := by
  have hN' : BIG ≤ N := Nat.le_of_succ_le hN
  have h1 : b.label.levels.length < BIG ∧ b.own.length < BIG := by unfold sz_DBoot sz_DLabel at hb; omega
  unfold F_i_PartNew partNew bOk
  simp only [i_TreeNew hN', i_LabelOk hN' h1.1, i_OwnOk hN' h1.2, Option.bind_some, bOr]
  cases amtOk b.amt
  · rfl
  cases labelOk b.label
  · rfl
  cases ownOk b.own
  · rfl
  simp only [if_true, Bool.not_true, Bool.or_self, cond_false, Bool.and_self, i_ArenaNew, Option.bind_some]
  rw [show DObj.mk 0 4 0 0 1000000 0 0 0 0 false ([-1, -1] : List Int) [] [] = aThread from rfl, i_ArenaPut hN (by decide) (by decide), arenaPut_new]
  simp only [Option.bind_some, i_copyLabel h1.1, i_copyInts h1.2]
  rw [show F_i_GcNew N = some (DGc.mk 0 0 0 [0]) from rfl]
  simp only [Option.bind_some]
  rw [i_GcBorn hN' (by decide) (by decide), gcBorn_new]
  rfl
theorem newPart_sz (b : DBoot) : sz_DPart (newPart b) = sz_DBoot b + 20 := by
  show sz_DLabel b.label + (b.own.length + ((treeNew b.amt).length + ((szL sz_DObj newHeap.arena + ((newHeap.gc.grey.length + 0) + 0)) + (([] : List DTap).length + 0)))) = sz_DLabel b.label + (b.own.length + 0) + 20
  have h1 : szL sz_DObj newHeap.arena = 14 := by decide
  have h2 : newHeap.gc.grey.length = 1 := by decide
  have h3 : (treeNew b.amt).length = 5 := rfl
  have h4 : ([] : List DTap).length = 0 := rfl
  simp only [h1, h2, h3, h4]
  omega
end Go.Kx
