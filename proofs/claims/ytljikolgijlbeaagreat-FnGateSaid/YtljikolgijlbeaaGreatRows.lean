/-
  No cell of these rows narrows 'for every input' (looked for: loops, veiled, ifaces, maps, wideKeys, modest, calm, conditions, laid).
  DERIVED. THE GIVEN ROWS OF THIS SEAT. 3 by the template 'for every input the law returns true; each argument reads behind the call as it read before'; 0 by the template 'total and deterministic' (their statements: YtljikolgijlbeaaGreatTotals.lean).
  GIVEN WITH THE SEED: the statements are not yours to turn. If you find one false, say at which input.
  Laid BY PROGRAM, IN A SANDBOX (cutbox-rows.mjs): the forced cells as the released guide's own fill.sh prints them over the translation 91446175b665b083… (all of the seat's roots in one cut). By AI agents, Wed Nov 11 2026. No macro, syntax, notation, axiom, sorry.
-/
import Derived.Test.YtljikolgijlbeaaGreatChecked
import GoSem.Claim
import GoSem.ClaimJoined
import GoSem.ClaimMapViews
import Derived.JoinedTies
import Derived.KernelRfl
namespace Go.Proofs.YtljikolgijlbeaaGreat
/- THE CELL 'sum', in the pinned program and in every row, IS THE sha256 OF THE DUMP (.gsa) THAT YtljikolgijlbeaaGreatProg.lean LOADS. Nothing in Lean hashes anything: it is a label: what it is worth is what the hold of that sum in a sandbox is worth. -/
noncomputable def Tryz.pinned : Pinned := { name := "ytljikolgijlbeaagreat", sum := "91446175b665b0836f66f268157ca0a314b44b31f7c8d8c4d0b689bdf356b756", checked := Tryz.checked }
namespace Rows
def none {H : Type} : Left H := { results := [], args := [] }

/-- 'laws.FnGate': WHATEVER THE INPUT: true; the input reads as it did. -/
def fnGateSpec : ChangeSpec := { name := "fnGate", fn := fun _ => fun
  | [d] => { results := [.lit (.bool true)], args := [d] }
  | _ => none }
def fnGateRow : OpenClaim := { program := "ytljikolgijlbeaagreat", sum := "91446175b665b0836f66f268157ca0a314b44b31f7c8d8c4d0b689bdf356b756", func := "loop.example/g01287/laws.FnGate", spec := "fnGate", apart := false }
def FnGateSaid : Prop := fnGateRow.holds Tryz.pinned (OpenSpec.ofChange fnGateSpec)

/-- ITS FALSE NEIGHBOUR: 'it returns false'. Refute it at one input. -/
def fnGateWrong : ChangeSpec := { name := "fnGate", fn := fun _ => fun
  | [d] => { results := [.lit (.bool false)], args := [d] }
  | _ => none }
def FnGateWrongFalsely : Prop := fnGateRow.holds Tryz.pinned (OpenSpec.ofChange fnGateWrong)

/-- 'laws.FnExactPartTaps': WHATEVER THE INPUT: true; the input reads as it did. -/
def fnExactPartTapsSpec : ChangeSpec := { name := "fnExactPartTaps", fn := fun _ => fun
  | [d1, d2] => { results := [.lit (.bool true)], args := [d1, d2] }
  | _ => none }
def fnExactPartTapsRow : OpenClaim := { program := "ytljikolgijlbeaagreat", sum := "91446175b665b0836f66f268157ca0a314b44b31f7c8d8c4d0b689bdf356b756", func := "loop.example/g01287/laws.FnExactPartTaps", spec := "fnExactPartTaps", apart := false }
def FnExactPartTapsSaid : Prop := fnExactPartTapsRow.holds Tryz.pinned (OpenSpec.ofChange fnExactPartTapsSpec)

/-- ITS FALSE NEIGHBOUR: 'it returns false'. Refute it at one input. -/
def fnExactPartTapsWrong : ChangeSpec := { name := "fnExactPartTaps", fn := fun _ => fun
  | [d1, d2] => { results := [.lit (.bool false)], args := [d1, d2] }
  | _ => none }
def FnExactPartTapsWrongFalsely : Prop := fnExactPartTapsRow.holds Tryz.pinned (OpenSpec.ofChange fnExactPartTapsWrong)

/-- 'laws.FnExactTick': WHATEVER THE INPUT: true; the input reads as it did. -/
def fnExactTickSpec : ChangeSpec := { name := "fnExactTick", fn := fun _ => fun
  | [d] => { results := [.lit (.bool true)], args := [d] }
  | _ => none }
def fnExactTickRow : OpenClaim := { program := "ytljikolgijlbeaagreat", sum := "91446175b665b0836f66f268157ca0a314b44b31f7c8d8c4d0b689bdf356b756", func := "loop.example/g01287/laws.FnExactTick", spec := "fnExactTick", apart := false }
def FnExactTickSaid : Prop := fnExactTickRow.holds Tryz.pinned (OpenSpec.ofChange fnExactTickSpec)

/-- ITS FALSE NEIGHBOUR: 'it returns false'. Refute it at one input. -/
def fnExactTickWrong : ChangeSpec := { name := "fnExactTick", fn := fun _ => fun
  | [d] => { results := [.lit (.bool false)], args := [d] }
  | _ => none }
def FnExactTickWrongFalsely : Prop := fnExactTickRow.holds Tryz.pinned (OpenSpec.ofChange fnExactTickWrong)

/- THE SECOND FORM. 'bulk': how many values and letters a reading holds, each counted each time it is reached (what is shared counts as often as it is met; a slice's spare places count too). A statement '..UptoSaid' is the law's where the arguments, and the package variables that the reading takes, are together of bulk at most 1048576: NARROWER than '..Said'. Prove '..Said' where nothing that the law and all that it calls make is longer than what came in: it says more and counts as full. Else prove '..UptoSaid'. A law counts once. -/
mutual
def uptoBulk {H : Type} : DataW H → Nat
  | .lit (.string bytes) => bytes.length + 1
  | .lit _ => 1
  | .nil => 1
  | .ptr d => uptoBulk d + 1
  | .slice elems spare => uptoBulkAll elems + uptoBulkAll spare + 1
  | .agg parts => uptoBulkAll parts + 1
  | .iface _ d => uptoBulk d + 1
  | .map entries => uptoBulkEntries entries + 1
  | .held _ => 1
def uptoBulkAll {H : Type} : List (DataW H) → Nat
  | [] => 0
  | d :: r => uptoBulk d + uptoBulkAll r
def uptoBulkEntries {H : Type} : List (Lit × DataW H) → Nat
  | [] => 0
  | x :: r => uptoBulkEntry x + uptoBulkEntries r
def uptoBulkEntry {H : Type} : Lit × DataW H → Nat
  | (.string bytes, d) => bytes.length + uptoBulk d + 1
  | (_, d) => uptoBulk d + 1
 end
def uptoSmall : (H : Type) → List (DataW H) → Bool := fun _ ds => decide (uptoBulkAll ds ≤ 1048576)
def OpenSpec.upto (s : _root_.Go.ChangeSpec) : _root_.Go.OpenSpec := { _root_.Go.OpenSpec.ofChange s with cond := some uptoSmall }

/-- 'laws.FnGate', WHERE WHAT IT READS IS OF BULK AT MOST 1048576: true; the input reads as it did. -/
def fnGateUptoRow : OpenClaim := { program := "ytljikolgijlbeaagreat", sum := "91446175b665b0836f66f268157ca0a314b44b31f7c8d8c4d0b689bdf356b756", func := "loop.example/g01287/laws.FnGate", spec := "fnGate", apart := false, narrowed := true }
def FnGateUptoSaid : Prop := fnGateUptoRow.holds Tryz.pinned (OpenSpec.upto fnGateSpec)

/-- 'laws.FnExactPartTaps', WHERE WHAT IT READS IS OF BULK AT MOST 1048576: true; the input reads as it did. -/
def fnExactPartTapsUptoRow : OpenClaim := { program := "ytljikolgijlbeaagreat", sum := "91446175b665b0836f66f268157ca0a314b44b31f7c8d8c4d0b689bdf356b756", func := "loop.example/g01287/laws.FnExactPartTaps", spec := "fnExactPartTaps", apart := false, narrowed := true }
def FnExactPartTapsUptoSaid : Prop := fnExactPartTapsUptoRow.holds Tryz.pinned (OpenSpec.upto fnExactPartTapsSpec)

/-- 'laws.FnExactTick', WHERE WHAT IT READS IS OF BULK AT MOST 1048576: true; the input reads as it did. -/
def fnExactTickUptoRow : OpenClaim := { program := "ytljikolgijlbeaagreat", sum := "91446175b665b0836f66f268157ca0a314b44b31f7c8d8c4d0b689bdf356b756", func := "loop.example/g01287/laws.FnExactTick", spec := "fnExactTick", apart := false, narrowed := true }
def FnExactTickUptoSaid : Prop := fnExactTickUptoRow.holds Tryz.pinned (OpenSpec.upto fnExactTickSpec)

end Rows
end Go.Proofs.YtljikolgijlbeaaGreat
