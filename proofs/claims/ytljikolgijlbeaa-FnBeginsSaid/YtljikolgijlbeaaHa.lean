/- What the laws' own helpers do: room, copies, comparisons, marks. Printed by genlaw.py. -/
import Derived.Test.YtljikolgijlbeaaLaw
import Derived.Test.YtljikolgijlbeaaPu
namespace Go.Kx
open Go
set_option linter.unusedVariables false
set_option linter.unusedSimpArgs false
set_option maxRecDepth 10000
def c_Int (_ : Int) : Nat := 1
def g_Int (_ : Int) (n : Int) : Int := n
theorem sle_Int : ∀ l : List Int, sumL c_Int l ≤ 16 * (l.length)
  | [] => Nat.zero_le _
  | y :: l => by
    have h1 := sle_Int l
    have h2 : c_Int y ≤ 16 * (1 + 0) := (by decide : 1 ≤ 16 * (1 + 0))
    simp only [sumL, List.length_cons] at h1 h2 ⊢
    omega
def c_DAmt (x : DAmt) : Nat := 3
def g_DAmt (x : DAmt) (n : Int) : DAmt := DAmt.mk (n) (n + 1) (n + 1 + 1)
theorem cle_DAmt (x : DAmt) : c_DAmt x ≤ 16 * (1 + 0) := by
  unfold c_DAmt
  omega
theorem sle_DAmt : ∀ l : List DAmt, sumL c_DAmt l ≤ 16 * (l.length)
  | [] => Nat.zero_le _
  | y :: l => by
    have h1 := sle_DAmt l
    have h2 : c_DAmt y ≤ 16 * (1 + 0) := cle_DAmt y
    simp only [sumL, List.length_cons] at h1 h2 ⊢
    omega
def c_DNode (x : DNode) : Nat := 3
def g_DNode (x : DNode) (n : Int) : DNode := DNode.mk (n) (n + 1) (n + 1 + 1)
theorem cle_DNode (x : DNode) : c_DNode x ≤ 16 * (1 + 0) := by
  unfold c_DNode
  omega
theorem sle_DNode : ∀ l : List DNode, sumL c_DNode l ≤ 16 * (l.length)
  | [] => Nat.zero_le _
  | y :: l => by
    have h1 := sle_DNode l
    have h2 : c_DNode y ≤ 16 * (1 + 0) := cle_DNode y
    simp only [sumL, List.length_cons] at h1 h2 ⊢
    omega
def c_DCall (x : DCall) : Nat := 6
def g_DCall (x : DCall) (n : Int) : DCall := DCall.mk (n) (n + 1) (n + 1 + 1) (n + 1 + 1 + 1) (n + 1 + 1 + 1 + 1) (n + 1 + 1 + 1 + 1 + 1)
theorem cle_DCall (x : DCall) : c_DCall x ≤ 16 * (1 + 0) := by
  unfold c_DCall
  omega
theorem sle_DCall : ∀ l : List DCall, sumL c_DCall l ≤ 16 * (l.length)
  | [] => Nat.zero_le _
  | y :: l => by
    have h1 := sle_DCall l
    have h2 : c_DCall y ≤ 16 * (1 + 0) := cle_DCall y
    simp only [sumL, List.length_cons] at h1 h2 ⊢
    omega
def c_DEntry (x : DEntry) : Nat := 9
def g_DEntry (x : DEntry) (n : Int) : DEntry := DEntry.mk (n) (n + 1) (n + 1 + 1) (DCall.mk (n + 1 + 1 + 1) (n + 1 + 1 + 1 + 1) (n + 1 + 1 + 1 + 1 + 1) (n + 1 + 1 + 1 + 1 + 1 + 1) (n + 1 + 1 + 1 + 1 + 1 + 1 + 1) (n + 1 + 1 + 1 + 1 + 1 + 1 + 1 + 1))
theorem cle_DEntry (x : DEntry) : c_DEntry x ≤ 16 * (1 + 0) := by
  unfold c_DEntry
  omega
theorem sle_DEntry : ∀ l : List DEntry, sumL c_DEntry l ≤ 16 * (l.length)
  | [] => Nat.zero_le _
  | y :: l => by
    have h1 := sle_DEntry l
    have h2 : c_DEntry y ≤ 16 * (1 + 0) := cle_DEntry y
    simp only [sumL, List.length_cons] at h1 h2 ⊢
    omega
def c_DReply (x : DReply) : Nat := 2
def g_DReply (x : DReply) (n : Int) : DReply := DReply.mk (n) (n + 1)
theorem cle_DReply (x : DReply) : c_DReply x ≤ 16 * (1 + 0) := by
  unfold c_DReply
  omega
theorem sle_DReply : ∀ l : List DReply, sumL c_DReply l ≤ 16 * (l.length)
  | [] => Nat.zero_le _
  | y :: l => by
    have h1 := sle_DReply l
    have h2 : c_DReply y ≤ 16 * (1 + 0) := cle_DReply y
    simp only [sumL, List.length_cons] at h1 h2 ⊢
    omega
def c_DRes (x : DRes) : Nat := 5
def g_DRes (x : DRes) (n : Int) : DRes := DRes.mk (((Int.tmod (n) 3) == 0)) (n + 1) (DAmt.mk (n + 1 + 1) (n + 1 + 1 + 1) (n + 1 + 1 + 1 + 1))
theorem cle_DRes (x : DRes) : c_DRes x ≤ 16 * (1 + 0) := by
  unfold c_DRes
  omega
theorem sle_DRes : ∀ l : List DRes, sumL c_DRes l ≤ 16 * (l.length)
  | [] => Nat.zero_le _
  | y :: l => by
    have h1 := sle_DRes l
    have h2 : c_DRes y ≤ 16 * (1 + 0) := cle_DRes y
    simp only [sumL, List.length_cons] at h1 h2 ⊢
    omega
def c_DTap (x : DTap) : Nat := 6
def g_DTap (x : DTap) (n : Int) : DTap := DTap.mk (n) (n + 1) (n + 1 + 1) (n + 1 + 1 + 1) (n + 1 + 1 + 1 + 1) (n + 1 + 1 + 1 + 1 + 1)
theorem cle_DTap (x : DTap) : c_DTap x ≤ 16 * (1 + 0) := by
  unfold c_DTap
  omega
theorem sle_DTap : ∀ l : List DTap, sumL c_DTap l ≤ 16 * (l.length)
  | [] => Nat.zero_le _
  | y :: l => by
    have h1 := sle_DTap l
    have h2 : c_DTap y ≤ 16 * (1 + 0) := cle_DTap y
    simp only [sumL, List.length_cons] at h1 h2 ⊢
    omega
def c_DMsg (x : DMsg) : Nat := 2
def g_DMsg (x : DMsg) (n : Int) : DMsg := DMsg.mk (n) (n + 1)
theorem cle_DMsg (x : DMsg) : c_DMsg x ≤ 16 * (1 + 0) := by
  unfold c_DMsg
  omega
theorem sle_DMsg : ∀ l : List DMsg, sumL c_DMsg l ≤ 16 * (l.length)
  | [] => Nat.zero_le _
  | y :: l => by
    have h1 := sle_DMsg l
    have h2 : c_DMsg y ≤ 16 * (1 + 0) := cle_DMsg y
    simp only [sumL, List.length_cons] at h1 h2 ⊢
    omega
def sz_DLabel (x : DLabel) : Nat := x.levels.length + (0)
def c_DLabel (x : DLabel) : Nat := sumL c_Int x.levels
def g_DLabel (x : DLabel) (n : Int) : DLabel := DLabel.mk (markL g_Int c_Int (n) x.levels)
theorem cle_DLabel (x : DLabel) : c_DLabel x ≤ 16 * (1 + sz_DLabel x) := by
  unfold c_DLabel sz_DLabel
  have := sle_Int x.levels
  omega
theorem sle_DLabel : ∀ l : List DLabel, sumL c_DLabel l ≤ 16 * (szL sz_DLabel l)
  | [] => Nat.zero_le _
  | y :: l => by
    have h1 := sle_DLabel l
    have h2 : c_DLabel y ≤ 16 * (1 + sz_DLabel y) := cle_DLabel y
    simp only [sumL, szL, List.length_cons] at h1 h2 ⊢
    omega
def sz_DBoot (x : DBoot) : Nat := sz_DLabel x.label + (x.own.length + (0))
def c_DBoot (x : DBoot) : Nat := 3 + sumL c_Int x.label.levels + sumL c_Int x.own
def g_DBoot (x : DBoot) (n : Int) : DBoot := DBoot.mk (DLabel.mk (markL g_Int c_Int (n) x.label.levels)) (markL g_Int c_Int ((n + ((sumL c_Int x.label.levels : Nat) : Int))) x.own) (DAmt.mk (((n + ((sumL c_Int x.label.levels : Nat) : Int)) + ((sumL c_Int x.own : Nat) : Int))) (((n + ((sumL c_Int x.label.levels : Nat) : Int)) + ((sumL c_Int x.own : Nat) : Int)) + 1) (((n + ((sumL c_Int x.label.levels : Nat) : Int)) + ((sumL c_Int x.own : Nat) : Int)) + 1 + 1))
theorem cle_DBoot (x : DBoot) : c_DBoot x ≤ 16 * (1 + sz_DBoot x) := by
  unfold c_DBoot sz_DBoot sz_DLabel
  have := sle_Int x.label.levels
  have := sle_Int x.own
  omega
theorem sle_DBoot : ∀ l : List DBoot, sumL c_DBoot l ≤ 16 * (szL sz_DBoot l)
  | [] => Nat.zero_le _
  | y :: l => by
    have h1 := sle_DBoot l
    have h2 : c_DBoot y ≤ 16 * (1 + sz_DBoot y) := cle_DBoot y
    simp only [sumL, szL, List.length_cons] at h1 h2 ⊢
    omega
def sz_DTree (x : DTree) : Nat := x.list.length + (0)
def c_DTree (x : DTree) : Nat := sumL c_DRes x.list
def g_DTree (x : DTree) (n : Int) : DTree := DTree.mk (markL g_DRes c_DRes (n) x.list)
theorem cle_DTree (x : DTree) : c_DTree x ≤ 16 * (1 + sz_DTree x) := by
  unfold c_DTree sz_DTree
  have := sle_DRes x.list
  omega
theorem sle_DTree : ∀ l : List DTree, sumL c_DTree l ≤ 16 * (szL sz_DTree l)
  | [] => Nat.zero_le _
  | y :: l => by
    have h1 := sle_DTree l
    have h2 : c_DTree y ≤ 16 * (1 + sz_DTree y) := cle_DTree y
    simp only [sumL, szL, List.length_cons] at h1 h2 ⊢
    omega
def sz_DObj (x : DObj) : Nat := x.links.length + (x.data.length + (x.queue.length + (0)))
def c_DObj (x : DObj) : Nat := 10 + sumL c_Int x.links + sumL c_Int x.data + sumL c_DMsg x.queue
def g_DObj (x : DObj) (n : Int) : DObj := DObj.mk (n) (n + 1) (n + 1 + 1) (n + 1 + 1 + 1) (n + 1 + 1 + 1 + 1) (n + 1 + 1 + 1 + 1 + 1) (n + 1 + 1 + 1 + 1 + 1 + 1) (n + 1 + 1 + 1 + 1 + 1 + 1 + 1) (n + 1 + 1 + 1 + 1 + 1 + 1 + 1 + 1) (((Int.tmod (n + 1 + 1 + 1 + 1 + 1 + 1 + 1 + 1 + 1) 3) == 0)) (markL g_Int c_Int (n + 1 + 1 + 1 + 1 + 1 + 1 + 1 + 1 + 1 + 1) x.links) (markL g_Int c_Int ((n + 1 + 1 + 1 + 1 + 1 + 1 + 1 + 1 + 1 + 1 + ((sumL c_Int x.links : Nat) : Int))) x.data) (markL g_DMsg c_DMsg (((n + 1 + 1 + 1 + 1 + 1 + 1 + 1 + 1 + 1 + 1 + ((sumL c_Int x.links : Nat) : Int)) + ((sumL c_Int x.data : Nat) : Int))) x.queue)
theorem cle_DObj (x : DObj) : c_DObj x ≤ 16 * (1 + sz_DObj x) := by
  unfold c_DObj sz_DObj
  have := sle_Int x.links
  have := sle_Int x.data
  have := sle_DMsg x.queue
  omega
theorem sle_DObj : ∀ l : List DObj, sumL c_DObj l ≤ 16 * (szL sz_DObj l)
  | [] => Nat.zero_le _
  | y :: l => by
    have h1 := sle_DObj l
    have h2 : c_DObj y ≤ 16 * (1 + sz_DObj y) := cle_DObj y
    simp only [sumL, szL, List.length_cons] at h1 h2 ⊢
    omega
def sz_DGc (x : DGc) : Nat := x.grey.length + (0)
def c_DGc (x : DGc) : Nat := 3 + sumL c_Int x.grey
def g_DGc (x : DGc) (n : Int) : DGc := DGc.mk (n) (n + 1) (n + 1 + 1) (markL g_Int c_Int (n + 1 + 1 + 1) x.grey)
theorem cle_DGc (x : DGc) : c_DGc x ≤ 16 * (1 + sz_DGc x) := by
  unfold c_DGc sz_DGc
  have := sle_Int x.grey
  omega
theorem sle_DGc : ∀ l : List DGc, sumL c_DGc l ≤ 16 * (szL sz_DGc l)
  | [] => Nat.zero_le _
  | y :: l => by
    have h1 := sle_DGc l
    have h2 : c_DGc y ≤ 16 * (1 + sz_DGc y) := cle_DGc y
    simp only [sumL, szL, List.length_cons] at h1 h2 ⊢
    omega
def sz_DHeap (x : DHeap) : Nat := szL sz_DObj x.arena + (sz_DGc x.gc + (0))
def c_DHeap (x : DHeap) : Nat := 3 + sumL c_DObj x.arena + sumL c_Int x.gc.grey
def g_DHeap (x : DHeap) (n : Int) : DHeap := DHeap.mk (markL g_DObj c_DObj (n) x.arena) (DGc.mk ((n + ((sumL c_DObj x.arena : Nat) : Int))) ((n + ((sumL c_DObj x.arena : Nat) : Int)) + 1) ((n + ((sumL c_DObj x.arena : Nat) : Int)) + 1 + 1) (markL g_Int c_Int ((n + ((sumL c_DObj x.arena : Nat) : Int)) + 1 + 1 + 1) x.gc.grey))
theorem cle_DHeap (x : DHeap) : c_DHeap x ≤ 16 * (1 + sz_DHeap x) := by
  unfold c_DHeap sz_DHeap sz_DGc
  have := sle_DObj x.arena
  have := sle_Int x.gc.grey
  omega
theorem sle_DHeap : ∀ l : List DHeap, sumL c_DHeap l ≤ 16 * (szL sz_DHeap l)
  | [] => Nat.zero_le _
  | y :: l => by
    have h1 := sle_DHeap l
    have h2 : c_DHeap y ≤ 16 * (1 + sz_DHeap y) := cle_DHeap y
    simp only [sumL, szL, List.length_cons] at h1 h2 ⊢
    omega
def sz_DPart (x : DPart) : Nat := sz_DLabel x.label + (x.own.length + (x.tree.length + (sz_DHeap x.heap + (x.taps.length + (0)))))
def c_DPart (x : DPart) : Nat := 10 + sumL c_Int x.label.levels + sumL c_Int x.own + sumL c_DRes x.tree + sumL c_DObj x.heap.arena + sumL c_Int x.heap.gc.grey + sumL c_DTap x.taps
def g_DPart (x : DPart) (n : Int) : DPart := DPart.mk (DLabel.mk (markL g_Int c_Int (n) x.label.levels)) (markL g_Int c_Int ((n + ((sumL c_Int x.label.levels : Nat) : Int))) x.own) (markL g_DRes c_DRes (((n + ((sumL c_Int x.label.levels : Nat) : Int)) + ((sumL c_Int x.own : Nat) : Int))) x.tree) (DHeap.mk (markL g_DObj c_DObj ((((n + ((sumL c_Int x.label.levels : Nat) : Int)) + ((sumL c_Int x.own : Nat) : Int)) + ((sumL c_DRes x.tree : Nat) : Int))) x.heap.arena) (DGc.mk (((((n + ((sumL c_Int x.label.levels : Nat) : Int)) + ((sumL c_Int x.own : Nat) : Int)) + ((sumL c_DRes x.tree : Nat) : Int)) + ((sumL c_DObj x.heap.arena : Nat) : Int))) (((((n + ((sumL c_Int x.label.levels : Nat) : Int)) + ((sumL c_Int x.own : Nat) : Int)) + ((sumL c_DRes x.tree : Nat) : Int)) + ((sumL c_DObj x.heap.arena : Nat) : Int)) + 1) (((((n + ((sumL c_Int x.label.levels : Nat) : Int)) + ((sumL c_Int x.own : Nat) : Int)) + ((sumL c_DRes x.tree : Nat) : Int)) + ((sumL c_DObj x.heap.arena : Nat) : Int)) + 1 + 1) (markL g_Int c_Int (((((n + ((sumL c_Int x.label.levels : Nat) : Int)) + ((sumL c_Int x.own : Nat) : Int)) + ((sumL c_DRes x.tree : Nat) : Int)) + ((sumL c_DObj x.heap.arena : Nat) : Int)) + 1 + 1 + 1) x.heap.gc.grey))) (markL g_DTap c_DTap ((((((n + ((sumL c_Int x.label.levels : Nat) : Int)) + ((sumL c_Int x.own : Nat) : Int)) + ((sumL c_DRes x.tree : Nat) : Int)) + ((sumL c_DObj x.heap.arena : Nat) : Int)) + 1 + 1 + 1 + ((sumL c_Int x.heap.gc.grey : Nat) : Int))) x.taps) (((((((n + ((sumL c_Int x.label.levels : Nat) : Int)) + ((sumL c_Int x.own : Nat) : Int)) + ((sumL c_DRes x.tree : Nat) : Int)) + ((sumL c_DObj x.heap.arena : Nat) : Int)) + 1 + 1 + 1 + ((sumL c_Int x.heap.gc.grey : Nat) : Int)) + ((sumL c_DTap x.taps : Nat) : Int))) (((((((n + ((sumL c_Int x.label.levels : Nat) : Int)) + ((sumL c_Int x.own : Nat) : Int)) + ((sumL c_DRes x.tree : Nat) : Int)) + ((sumL c_DObj x.heap.arena : Nat) : Int)) + 1 + 1 + 1 + ((sumL c_Int x.heap.gc.grey : Nat) : Int)) + ((sumL c_DTap x.taps : Nat) : Int)) + 1) (DAmt.mk (((((((n + ((sumL c_Int x.label.levels : Nat) : Int)) + ((sumL c_Int x.own : Nat) : Int)) + ((sumL c_DRes x.tree : Nat) : Int)) + ((sumL c_DObj x.heap.arena : Nat) : Int)) + 1 + 1 + 1 + ((sumL c_Int x.heap.gc.grey : Nat) : Int)) + ((sumL c_DTap x.taps : Nat) : Int)) + 1 + 1) (((((((n + ((sumL c_Int x.label.levels : Nat) : Int)) + ((sumL c_Int x.own : Nat) : Int)) + ((sumL c_DRes x.tree : Nat) : Int)) + ((sumL c_DObj x.heap.arena : Nat) : Int)) + 1 + 1 + 1 + ((sumL c_Int x.heap.gc.grey : Nat) : Int)) + ((sumL c_DTap x.taps : Nat) : Int)) + 1 + 1 + 1) (((((((n + ((sumL c_Int x.label.levels : Nat) : Int)) + ((sumL c_Int x.own : Nat) : Int)) + ((sumL c_DRes x.tree : Nat) : Int)) + ((sumL c_DObj x.heap.arena : Nat) : Int)) + 1 + 1 + 1 + ((sumL c_Int x.heap.gc.grey : Nat) : Int)) + ((sumL c_DTap x.taps : Nat) : Int)) + 1 + 1 + 1 + 1)) (((((((n + ((sumL c_Int x.label.levels : Nat) : Int)) + ((sumL c_Int x.own : Nat) : Int)) + ((sumL c_DRes x.tree : Nat) : Int)) + ((sumL c_DObj x.heap.arena : Nat) : Int)) + 1 + 1 + 1 + ((sumL c_Int x.heap.gc.grey : Nat) : Int)) + ((sumL c_DTap x.taps : Nat) : Int)) + 1 + 1 + 1 + 1 + 1) (((((((n + ((sumL c_Int x.label.levels : Nat) : Int)) + ((sumL c_Int x.own : Nat) : Int)) + ((sumL c_DRes x.tree : Nat) : Int)) + ((sumL c_DObj x.heap.arena : Nat) : Int)) + 1 + 1 + 1 + ((sumL c_Int x.heap.gc.grey : Nat) : Int)) + ((sumL c_DTap x.taps : Nat) : Int)) + 1 + 1 + 1 + 1 + 1 + 1)
theorem cle_DPart (x : DPart) : c_DPart x ≤ 16 * (1 + sz_DPart x) := by
  unfold c_DPart sz_DPart sz_DLabel sz_DHeap sz_DGc
  have := sle_Int x.label.levels
  have := sle_Int x.own
  have := sle_DRes x.tree
  have := sle_DObj x.heap.arena
  have := sle_Int x.heap.gc.grey
  have := sle_DTap x.taps
  omega
theorem sle_DPart : ∀ l : List DPart, sumL c_DPart l ≤ 16 * (szL sz_DPart l)
  | [] => Nat.zero_le _
  | y :: l => by
    have h1 := sle_DPart l
    have h2 : c_DPart y ≤ 16 * (1 + sz_DPart y) := cle_DPart y
    simp only [sumL, szL, List.length_cons] at h1 h2 ⊢
    omega
def sz_DWorld (x : DWorld) : Nat := szL sz_DPart x.parts + (0)
def c_DWorld (x : DWorld) : Nat := 1 + sumL c_DPart x.parts
def g_DWorld (x : DWorld) (n : Int) : DWorld := DWorld.mk (n) (markL g_DPart c_DPart (n + 1) x.parts)
theorem cle_DWorld (x : DWorld) : c_DWorld x ≤ 16 * (1 + sz_DWorld x) := by
  unfold c_DWorld sz_DWorld
  have := sle_DPart x.parts
  omega
theorem sle_DWorld : ∀ l : List DWorld, sumL c_DWorld l ≤ 16 * (szL sz_DWorld l)
  | [] => Nat.zero_le _
  | y :: l => by
    have h1 := sle_DWorld l
    have h2 : c_DWorld y ≤ 16 * (1 + sz_DWorld y) := cle_DWorld y
    simp only [sumL, szL, List.length_cons] at h1 h2 ⊢
    omega
end Go.Kx
