/- Plain laws of what is told alike: labels, things, parts, worlds. No program in sight. -/
import Derived.Test.YtgekpkkhelmgiaaGreatLBoot
namespace Go.Kx
open Go
set_option linter.unusedVariables false
set_option linter.unusedSimpArgs false
set_option maxRecDepth 10000
theorem z_Equal_int {N:Nat} (hN:BIG≤N) {a b:List Int} (ha:a.length<BIG):F_z_Equal_int N a b=some (decide (a=b)):=eqLoopB a b (· != ·) (by intro y z;by_cases h:y=z <;> simp [h]) ha hN
theorem z_Equal_Msg {N:Nat} (hN:BIG≤N) {a b:List DMsg} (ha:a.length<BIG):F_z_Equal_Msg N a b=some (decide (a=b)):=eqLoopB a b (fun y z=>!decide (y=z)) (fun _ _=>rfl) ha hN
theorem szObj {o:DObj} (h:sz_DObj o<BIG):o.links.length<BIG∧o.data.length<BIG∧o.queue.length<BIG:=by unfold sz_DObj at h;omega
theorem i_sameObj {N:Nat} (hN:BIG≤N) {a b:DObj} (ha:sz_DObj a<BIG):F_i_sameObj N a b=some (decide (a=b)):=by
  obtain ⟨h1,h2,h3⟩:=szObj ha
  unfold F_i_sameObj
  simp only [z_Equal_int hN h1,z_Equal_int hN h2,z_Equal_Msg hN h3,Option.bind_some,bAnd]
  congr 1
  rw [Bool.eq_iff_iff]
  cases a;cases b
  simp [DObj.mk.injEq]
theorem szPart {p:DPart} (h:sz_DPart p<BIG):p.label.levels.length<BIG∧p.own.length<BIG∧p.tree.length<BIG∧szL sz_DObj p.heap.arena<BIG∧p.heap.gc.grey.length<BIG∧p.taps.length<BIG:=by
  unfold sz_DPart sz_DHeap sz_DGc sz_DLabel at h;omega
end Go.Kx
