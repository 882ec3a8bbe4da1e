/-
  No cell of these rows narrows 'for every input' (looked for: loops, veiled, ifaces, maps, wideKeys, modest, calm, conditions, laid).
  DERIVED. THE GIVEN ROWS OF THIS SEAT. 6 by the template 'for every input the law returns true; each argument reads behind the call as it read before'; 0 by the template 'total and deterministic' (their statements: YtkgkknholfmgiaaGreatTotals.lean).
  GIVEN WITH THE SEED: the statements are not yours to turn. If you find one false, say at which input.
  Laid BY PROGRAM, IN A SANDBOX (cutbox-rows.mjs): the forced cells as the released guide's own fill.sh prints them over the translation 813ac7787e85f760… (all of the seat's roots in one cut). By AI agents, Wed Nov 11 2026. No macro, syntax, notation, axiom, sorry.
-/
import Derived.Test.YtkgkknholfmgiaaGreatChecked
import GoSem.Claim
import GoSem.ClaimJoined
import GoSem.ClaimMapViews
import Derived.JoinedTies
import Derived.KernelRfl
namespace Go.Proofs.YtkgkknholfmgiaaGreat
/- THE CELL 'sum', in the pinned program and in every row, IS THE sha256 OF THE DUMP (.gsa) THAT YtkgkknholfmgiaaGreatProg.lean LOADS. Nothing in Lean hashes anything: it is a label: what it is worth is what the hold of that sum in a sandbox is worth. -/
noncomputable def Tryz.pinned : Pinned := { name := "ytkgkknholfmgiaagreat", sum := "813ac7787e85f760474255c9bcff6a57df7370b2429614be190068239fcf1408", checked := Tryz.checked }
namespace Rows
def none {H : Type} : Left H := { results := [], args := [] }

/-- 'laws.FnKilled': WHATEVER THE INPUT: true; the input reads as it did. -/
def fnKilledSpec : ChangeSpec := { name := "fnKilled", fn := fun _ => fun
  | [d] => { results := [.lit (.bool true)], args := [d] }
  | _ => none }
def fnKilledRow : OpenClaim := { program := "ytkgkknholfmgiaagreat", sum := "813ac7787e85f760474255c9bcff6a57df7370b2429614be190068239fcf1408", func := "loop.example/g01287/laws.FnKilled", spec := "fnKilled", apart := false }
def FnKilledSaid : Prop := fnKilledRow.holds Tryz.pinned (OpenSpec.ofChange fnKilledSpec)

/-- ITS FALSE NEIGHBOUR: 'it returns false'. Refute it at one input. -/
def fnKilledWrong : ChangeSpec := { name := "fnKilled", fn := fun _ => fun
  | [d] => { results := [.lit (.bool false)], args := [d] }
  | _ => none }
def FnKilledWrongFalsely : Prop := fnKilledRow.holds Tryz.pinned (OpenSpec.ofChange fnKilledWrong)

/-- 'laws.FnPurged': WHATEVER THE INPUT: true; the input reads as it did. -/
def fnPurgedSpec : ChangeSpec := { name := "fnPurged", fn := fun _ => fun
  | [d] => { results := [.lit (.bool true)], args := [d] }
  | _ => none }
def fnPurgedRow : OpenClaim := { program := "ytkgkknholfmgiaagreat", sum := "813ac7787e85f760474255c9bcff6a57df7370b2429614be190068239fcf1408", func := "loop.example/g01287/laws.FnPurged", spec := "fnPurged", apart := false }
def FnPurgedSaid : Prop := fnPurgedRow.holds Tryz.pinned (OpenSpec.ofChange fnPurgedSpec)

/-- ITS FALSE NEIGHBOUR: 'it returns false'. Refute it at one input. -/
def fnPurgedWrong : ChangeSpec := { name := "fnPurged", fn := fun _ => fun
  | [d] => { results := [.lit (.bool false)], args := [d] }
  | _ => none }
def FnPurgedWrongFalsely : Prop := fnPurgedRow.holds Tryz.pinned (OpenSpec.ofChange fnPurgedWrong)

/-- 'laws.FnWoken': WHATEVER THE INPUT: true; the input reads as it did. -/
def fnWokenSpec : ChangeSpec := { name := "fnWoken", fn := fun _ => fun
  | [d] => { results := [.lit (.bool true)], args := [d] }
  | _ => none }
def fnWokenRow : OpenClaim := { program := "ytkgkknholfmgiaagreat", sum := "813ac7787e85f760474255c9bcff6a57df7370b2429614be190068239fcf1408", func := "loop.example/g01287/laws.FnWoken", spec := "fnWoken", apart := false }
def FnWokenSaid : Prop := fnWokenRow.holds Tryz.pinned (OpenSpec.ofChange fnWokenSpec)

/-- ITS FALSE NEIGHBOUR: 'it returns false'. Refute it at one input. -/
def fnWokenWrong : ChangeSpec := { name := "fnWoken", fn := fun _ => fun
  | [d] => { results := [.lit (.bool false)], args := [d] }
  | _ => none }
def FnWokenWrongFalsely : Prop := fnWokenRow.holds Tryz.pinned (OpenSpec.ofChange fnWokenWrong)

/-- 'laws.FnFair': WHATEVER THE INPUT: true; the input reads as it did. -/
def fnFairSpec : ChangeSpec := { name := "fnFair", fn := fun _ => fun
  | [d] => { results := [.lit (.bool true)], args := [d] }
  | _ => none }
def fnFairRow : OpenClaim := { program := "ytkgkknholfmgiaagreat", sum := "813ac7787e85f760474255c9bcff6a57df7370b2429614be190068239fcf1408", func := "loop.example/g01287/laws.FnFair", spec := "fnFair", apart := false }
def FnFairSaid : Prop := fnFairRow.holds Tryz.pinned (OpenSpec.ofChange fnFairSpec)

/-- ITS FALSE NEIGHBOUR: 'it returns false'. Refute it at one input. -/
def fnFairWrong : ChangeSpec := { name := "fnFair", fn := fun _ => fun
  | [d] => { results := [.lit (.bool false)], args := [d] }
  | _ => none }
def FnFairWrongFalsely : Prop := fnFairRow.holds Tryz.pinned (OpenSpec.ofChange fnFairWrong)

/-- 'laws.FnRan': WHATEVER THE INPUT: true; the input reads as it did. -/
def fnRanSpec : ChangeSpec := { name := "fnRan", fn := fun _ => fun
  | [d] => { results := [.lit (.bool true)], args := [d] }
  | _ => none }
def fnRanRow : OpenClaim := { program := "ytkgkknholfmgiaagreat", sum := "813ac7787e85f760474255c9bcff6a57df7370b2429614be190068239fcf1408", func := "loop.example/g01287/laws.FnRan", spec := "fnRan", apart := false }
def FnRanSaid : Prop := fnRanRow.holds Tryz.pinned (OpenSpec.ofChange fnRanSpec)

/-- ITS FALSE NEIGHBOUR: 'it returns false'. Refute it at one input. -/
def fnRanWrong : ChangeSpec := { name := "fnRan", fn := fun _ => fun
  | [d] => { results := [.lit (.bool false)], args := [d] }
  | _ => none }
def FnRanWrongFalsely : Prop := fnRanRow.holds Tryz.pinned (OpenSpec.ofChange fnRanWrong)

/-- 'laws.FnCollected': WHATEVER THE INPUT: true; the input reads as it did. -/
def fnCollectedSpec : ChangeSpec := { name := "fnCollected", fn := fun _ => fun
  | [d] => { results := [.lit (.bool true)], args := [d] }
  | _ => none }
def fnCollectedRow : OpenClaim := { program := "ytkgkknholfmgiaagreat", sum := "813ac7787e85f760474255c9bcff6a57df7370b2429614be190068239fcf1408", func := "loop.example/g01287/laws.FnCollected", spec := "fnCollected", apart := false }
def FnCollectedSaid : Prop := fnCollectedRow.holds Tryz.pinned (OpenSpec.ofChange fnCollectedSpec)

/-- ITS FALSE NEIGHBOUR: 'it returns false'. Refute it at one input. -/
def fnCollectedWrong : ChangeSpec := { name := "fnCollected", fn := fun _ => fun
  | [d] => { results := [.lit (.bool false)], args := [d] }
  | _ => none }
def FnCollectedWrongFalsely : Prop := fnCollectedRow.holds Tryz.pinned (OpenSpec.ofChange fnCollectedWrong)

/- THE SECOND FORM. 'bulk': how many values and letters a reading holds, each counted each time it is reached (what is shared counts as often as it is met; a slice's spare places count too). A statement '..UptoSaid' is the law's where the arguments, and the package variables that the reading takes, are together of bulk at most 1048576: NARROWER than '..Said'. Prove '..Said' where nothing that the law and all that it calls make is longer than what came in: it says more and counts as full. Else prove '..UptoSaid'. A law counts once. -/
mutual
def uptoBulk {H : Type} : DataW H → Nat
  | .lit (.string bytes) => bytes.length + 1
  | .lit _ => 1
  | .nil => 1
  | .ptr d => uptoBulk d + 1
  | .slice elems spare => uptoBulkAll elems + uptoBulkAll spare + 1
  | .agg parts => uptoBulkAll parts + 1
  | .iface _ d => uptoBulk d + 1
  | .map entries => uptoBulkEntries entries + 1
  | .held _ => 1
def uptoBulkAll {H : Type} : List (DataW H) → Nat
  | [] => 0
  | d :: r => uptoBulk d + uptoBulkAll r
def uptoBulkEntries {H : Type} : List (Lit × DataW H) → Nat
  | [] => 0
  | x :: r => uptoBulkEntry x + uptoBulkEntries r
def uptoBulkEntry {H : Type} : Lit × DataW H → Nat
  | (.string bytes, d) => bytes.length + uptoBulk d + 1
  | (_, d) => uptoBulk d + 1
 end
def uptoSmall : (H : Type) → List (DataW H) → Bool := fun _ ds => decide (uptoBulkAll ds ≤ 1048576)
def OpenSpec.upto (s : _root_.Go.ChangeSpec) : _root_.Go.OpenSpec := { _root_.Go.OpenSpec.ofChange s with cond := some uptoSmall }

/-- 'laws.FnKilled', WHERE WHAT IT READS IS OF BULK AT MOST 1048576: true; the input reads as it did. -/
def fnKilledUptoRow : OpenClaim := { program := "ytkgkknholfmgiaagreat", sum := "813ac7787e85f760474255c9bcff6a57df7370b2429614be190068239fcf1408", func := "loop.example/g01287/laws.FnKilled", spec := "fnKilled", apart := false, narrowed := true }
def FnKilledUptoSaid : Prop := fnKilledUptoRow.holds Tryz.pinned (OpenSpec.upto fnKilledSpec)

/-- 'laws.FnPurged', WHERE WHAT IT READS IS OF BULK AT MOST 1048576: true; the input reads as it did. -/
def fnPurgedUptoRow : OpenClaim := { program := "ytkgkknholfmgiaagreat", sum := "813ac7787e85f760474255c9bcff6a57df7370b2429614be190068239fcf1408", func := "loop.example/g01287/laws.FnPurged", spec := "fnPurged", apart := false, narrowed := true }
def FnPurgedUptoSaid : Prop := fnPurgedUptoRow.holds Tryz.pinned (OpenSpec.upto fnPurgedSpec)

/-- 'laws.FnWoken', WHERE WHAT IT READS IS OF BULK AT MOST 1048576: true; the input reads as it did. -/
def fnWokenUptoRow : OpenClaim := { program := "ytkgkknholfmgiaagreat", sum := "813ac7787e85f760474255c9bcff6a57df7370b2429614be190068239fcf1408", func := "loop.example/g01287/laws.FnWoken", spec := "fnWoken", apart := false, narrowed := true }
def FnWokenUptoSaid : Prop := fnWokenUptoRow.holds Tryz.pinned (OpenSpec.upto fnWokenSpec)

/-- 'laws.FnFair', WHERE WHAT IT READS IS OF BULK AT MOST 1048576: true; the input reads as it did. -/
def fnFairUptoRow : OpenClaim := { program := "ytkgkknholfmgiaagreat", sum := "813ac7787e85f760474255c9bcff6a57df7370b2429614be190068239fcf1408", func := "loop.example/g01287/laws.FnFair", spec := "fnFair", apart := false, narrowed := true }
def FnFairUptoSaid : Prop := fnFairUptoRow.holds Tryz.pinned (OpenSpec.upto fnFairSpec)

/-- 'laws.FnRan', WHERE WHAT IT READS IS OF BULK AT MOST 1048576: true; the input reads as it did. -/
def fnRanUptoRow : OpenClaim := { program := "ytkgkknholfmgiaagreat", sum := "813ac7787e85f760474255c9bcff6a57df7370b2429614be190068239fcf1408", func := "loop.example/g01287/laws.FnRan", spec := "fnRan", apart := false, narrowed := true }
def FnRanUptoSaid : Prop := fnRanUptoRow.holds Tryz.pinned (OpenSpec.upto fnRanSpec)

/-- 'laws.FnCollected', WHERE WHAT IT READS IS OF BULK AT MOST 1048576: true; the input reads as it did. -/
def fnCollectedUptoRow : OpenClaim := { program := "ytkgkknholfmgiaagreat", sum := "813ac7787e85f760474255c9bcff6a57df7370b2429614be190068239fcf1408", func := "loop.example/g01287/laws.FnCollected", spec := "fnCollected", apart := false, narrowed := true }
def FnCollectedUptoSaid : Prop := fnCollectedUptoRow.holds Tryz.pinned (OpenSpec.upto fnCollectedSpec)

end Rows
end Go.Proofs.YtkgkknholfmgiaaGreat
