/-
  No cell of these rows narrows 'for every input' (looked for: loops, veiled, ifaces, maps, wideKeys, modest, calm, conditions, laid).
  DERIVED. THE GIVEN ROWS OF THIS SEAT. 8 by the template 'for every input the law returns true; each argument reads behind the call as it read before'; 0 by the template 'total and deterministic' (their statements: YtikeaiogpfjdnaaGreatTotals.lean).
  GIVEN WITH THE SEED: the statements are not yours to turn. If you find one false, say at which input.
  Laid BY PROGRAM, IN A SANDBOX (cutbox-rows.mjs): the forced cells as the released guide's own fill.sh prints them over the translation e6e9826aa025bca5… (all of the seat's roots in one cut). By AI agents, Wed Nov 11 2026. No macro, syntax, notation, axiom, sorry.
-/
import Derived.Test.YtikeaiogpfjdnaaGreatChecked
import GoSem.Claim
import GoSem.ClaimJoined
import GoSem.ClaimMapViews
import Derived.JoinedTies
import Derived.KernelRfl
namespace Go.Proofs.YtikeaiogpfjdnaaGreat
/- THE CELL 'sum', in the pinned program and in every row, IS THE sha256 OF THE DUMP (.gsa) THAT YtikeaiogpfjdnaaGreatProg.lean LOADS. Nothing in Lean hashes anything: it is a label: what it is worth is what the hold of that sum in a sandbox is worth. -/
noncomputable def Tryz.pinned : Pinned := { name := "ytikeaiogpfjdnaagreat", sum := "e6e9826aa025bca57e084870eaad6ae406be31458965de830e80999347f78501", checked := Tryz.checked }
namespace Rows
def none {H : Type} : Left H := { results := [], args := [] }

/-- 'laws.FnFair': WHATEVER THE INPUT: true; the input reads as it did. -/
def fnFairSpec : ChangeSpec := { name := "fnFair", fn := fun _ => fun
  | [d] => { results := [.lit (.bool true)], args := [d] }
  | _ => none }
def fnFairRow : OpenClaim := { program := "ytikeaiogpfjdnaagreat", sum := "e6e9826aa025bca57e084870eaad6ae406be31458965de830e80999347f78501", func := "loop.example/g01287/laws.FnFair", spec := "fnFair", apart := false }
def FnFairSaid : Prop := fnFairRow.holds Tryz.pinned (OpenSpec.ofChange fnFairSpec)

/-- ITS FALSE NEIGHBOUR: 'it returns false'. Refute it at one input. -/
def fnFairWrong : ChangeSpec := { name := "fnFair", fn := fun _ => fun
  | [d] => { results := [.lit (.bool false)], args := [d] }
  | _ => none }
def FnFairWrongFalsely : Prop := fnFairRow.holds Tryz.pinned (OpenSpec.ofChange fnFairWrong)

/-- 'laws.FnPurged': WHATEVER THE INPUT: true; the input reads as it did. -/
def fnPurgedSpec : ChangeSpec := { name := "fnPurged", fn := fun _ => fun
  | [d] => { results := [.lit (.bool true)], args := [d] }
  | _ => none }
def fnPurgedRow : OpenClaim := { program := "ytikeaiogpfjdnaagreat", sum := "e6e9826aa025bca57e084870eaad6ae406be31458965de830e80999347f78501", func := "loop.example/g01287/laws.FnPurged", spec := "fnPurged", apart := false }
def FnPurgedSaid : Prop := fnPurgedRow.holds Tryz.pinned (OpenSpec.ofChange fnPurgedSpec)

/-- ITS FALSE NEIGHBOUR: 'it returns false'. Refute it at one input. -/
def fnPurgedWrong : ChangeSpec := { name := "fnPurged", fn := fun _ => fun
  | [d] => { results := [.lit (.bool false)], args := [d] }
  | _ => none }
def FnPurgedWrongFalsely : Prop := fnPurgedRow.holds Tryz.pinned (OpenSpec.ofChange fnPurgedWrong)

/-- 'laws.FnCollected': WHATEVER THE INPUT: true; the input reads as it did. -/
def fnCollectedSpec : ChangeSpec := { name := "fnCollected", fn := fun _ => fun
  | [d] => { results := [.lit (.bool true)], args := [d] }
  | _ => none }
def fnCollectedRow : OpenClaim := { program := "ytikeaiogpfjdnaagreat", sum := "e6e9826aa025bca57e084870eaad6ae406be31458965de830e80999347f78501", func := "loop.example/g01287/laws.FnCollected", spec := "fnCollected", apart := false }
def FnCollectedSaid : Prop := fnCollectedRow.holds Tryz.pinned (OpenSpec.ofChange fnCollectedSpec)

/-- ITS FALSE NEIGHBOUR: 'it returns false'. Refute it at one input. -/
def fnCollectedWrong : ChangeSpec := { name := "fnCollected", fn := fun _ => fun
  | [d] => { results := [.lit (.bool false)], args := [d] }
  | _ => none }
def FnCollectedWrongFalsely : Prop := fnCollectedRow.holds Tryz.pinned (OpenSpec.ofChange fnCollectedWrong)

/-- 'laws.FnTick': WHATEVER THE INPUT: true; the input reads as it did. -/
def fnTickSpec : ChangeSpec := { name := "fnTick", fn := fun _ => fun
  | [d] => { results := [.lit (.bool true)], args := [d] }
  | _ => none }
def fnTickRow : OpenClaim := { program := "ytikeaiogpfjdnaagreat", sum := "e6e9826aa025bca57e084870eaad6ae406be31458965de830e80999347f78501", func := "loop.example/g01287/laws.FnTick", spec := "fnTick", apart := false }
def FnTickSaid : Prop := fnTickRow.holds Tryz.pinned (OpenSpec.ofChange fnTickSpec)

/-- ITS FALSE NEIGHBOUR: 'it returns false'. Refute it at one input. -/
def fnTickWrong : ChangeSpec := { name := "fnTick", fn := fun _ => fun
  | [d] => { results := [.lit (.bool false)], args := [d] }
  | _ => none }
def FnTickWrongFalsely : Prop := fnTickRow.holds Tryz.pinned (OpenSpec.ofChange fnTickWrong)

/-- 'laws.FnOwnAlone': WHATEVER THE INPUT: true; the input reads as it did. -/
def fnOwnAloneSpec : ChangeSpec := { name := "fnOwnAlone", fn := fun _ => fun
  | [d] => { results := [.lit (.bool true)], args := [d] }
  | _ => none }
def fnOwnAloneRow : OpenClaim := { program := "ytikeaiogpfjdnaagreat", sum := "e6e9826aa025bca57e084870eaad6ae406be31458965de830e80999347f78501", func := "loop.example/g01287/laws.FnOwnAlone", spec := "fnOwnAlone", apart := false }
def FnOwnAloneSaid : Prop := fnOwnAloneRow.holds Tryz.pinned (OpenSpec.ofChange fnOwnAloneSpec)

/-- ITS FALSE NEIGHBOUR: 'it returns false'. Refute it at one input. -/
def fnOwnAloneWrong : ChangeSpec := { name := "fnOwnAlone", fn := fun _ => fun
  | [d] => { results := [.lit (.bool false)], args := [d] }
  | _ => none }
def FnOwnAloneWrongFalsely : Prop := fnOwnAloneRow.holds Tryz.pinned (OpenSpec.ofChange fnOwnAloneWrong)

/-- 'laws.FnFlows': WHATEVER THE INPUT: true; the input reads as it did. -/
def fnFlowsSpec : ChangeSpec := { name := "fnFlows", fn := fun _ => fun
  | [d] => { results := [.lit (.bool true)], args := [d] }
  | _ => none }
def fnFlowsRow : OpenClaim := { program := "ytikeaiogpfjdnaagreat", sum := "e6e9826aa025bca57e084870eaad6ae406be31458965de830e80999347f78501", func := "loop.example/g01287/laws.FnFlows", spec := "fnFlows", apart := false }
def FnFlowsSaid : Prop := fnFlowsRow.holds Tryz.pinned (OpenSpec.ofChange fnFlowsSpec)

/-- ITS FALSE NEIGHBOUR: 'it returns false'. Refute it at one input. -/
def fnFlowsWrong : ChangeSpec := { name := "fnFlows", fn := fun _ => fun
  | [d] => { results := [.lit (.bool false)], args := [d] }
  | _ => none }
def FnFlowsWrongFalsely : Prop := fnFlowsRow.holds Tryz.pinned (OpenSpec.ofChange fnFlowsWrong)

/-- 'laws.FnRefused': WHATEVER THE INPUT: true; the input reads as it did. -/
def fnRefusedSpec : ChangeSpec := { name := "fnRefused", fn := fun _ => fun
  | [d] => { results := [.lit (.bool true)], args := [d] }
  | _ => none }
def fnRefusedRow : OpenClaim := { program := "ytikeaiogpfjdnaagreat", sum := "e6e9826aa025bca57e084870eaad6ae406be31458965de830e80999347f78501", func := "loop.example/g01287/laws.FnRefused", spec := "fnRefused", apart := false }
def FnRefusedSaid : Prop := fnRefusedRow.holds Tryz.pinned (OpenSpec.ofChange fnRefusedSpec)

/-- ITS FALSE NEIGHBOUR: 'it returns false'. Refute it at one input. -/
def fnRefusedWrong : ChangeSpec := { name := "fnRefused", fn := fun _ => fun
  | [d] => { results := [.lit (.bool false)], args := [d] }
  | _ => none }
def FnRefusedWrongFalsely : Prop := fnRefusedRow.holds Tryz.pinned (OpenSpec.ofChange fnRefusedWrong)

/-- 'laws.FnExactWorldCall': WHATEVER THE INPUT: true; the input reads as it did. -/
def fnExactWorldCallSpec : ChangeSpec := { name := "fnExactWorldCall", fn := fun _ => fun
  | [d1, d2, d3, d4] => { results := [.lit (.bool true)], args := [d1, d2, d3, d4] }
  | _ => none }
def fnExactWorldCallRow : OpenClaim := { program := "ytikeaiogpfjdnaagreat", sum := "e6e9826aa025bca57e084870eaad6ae406be31458965de830e80999347f78501", func := "loop.example/g01287/laws.FnExactWorldCall", spec := "fnExactWorldCall", apart := false }
def FnExactWorldCallSaid : Prop := fnExactWorldCallRow.holds Tryz.pinned (OpenSpec.ofChange fnExactWorldCallSpec)

/-- ITS FALSE NEIGHBOUR: 'it returns false'. Refute it at one input. -/
def fnExactWorldCallWrong : ChangeSpec := { name := "fnExactWorldCall", fn := fun _ => fun
  | [d1, d2, d3, d4] => { results := [.lit (.bool false)], args := [d1, d2, d3, d4] }
  | _ => none }
def FnExactWorldCallWrongFalsely : Prop := fnExactWorldCallRow.holds Tryz.pinned (OpenSpec.ofChange fnExactWorldCallWrong)

/- THE SECOND FORM. 'bulk': how many values and letters a reading holds, each counted each time it is reached (what is shared counts as often as it is met; a slice's spare places count too). A statement '..UptoSaid' is the law's where the arguments, and the package variables that the reading takes, are together of bulk at most 1048576: NARROWER than '..Said'. Prove '..Said' where nothing that the law and all that it calls make is longer than what came in: it says more and counts as full. Else prove '..UptoSaid'. A law counts once. -/
mutual
def uptoBulk {H : Type} : DataW H → Nat
  | .lit (.string bytes) => bytes.length + 1
  | .lit _ => 1
  | .nil => 1
  | .ptr d => uptoBulk d + 1
  | .slice elems spare => uptoBulkAll elems + uptoBulkAll spare + 1
  | .agg parts => uptoBulkAll parts + 1
  | .iface _ d => uptoBulk d + 1
  | .map entries => uptoBulkEntries entries + 1
  | .held _ => 1
def uptoBulkAll {H : Type} : List (DataW H) → Nat
  | [] => 0
  | d :: r => uptoBulk d + uptoBulkAll r
def uptoBulkEntries {H : Type} : List (Lit × DataW H) → Nat
  | [] => 0
  | x :: r => uptoBulkEntry x + uptoBulkEntries r
def uptoBulkEntry {H : Type} : Lit × DataW H → Nat
  | (.string bytes, d) => bytes.length + uptoBulk d + 1
  | (_, d) => uptoBulk d + 1
 end
def uptoSmall : (H : Type) → List (DataW H) → Bool := fun _ ds => decide (uptoBulkAll ds ≤ 1048576)
def OpenSpec.upto (s : _root_.Go.ChangeSpec) : _root_.Go.OpenSpec := { _root_.Go.OpenSpec.ofChange s with cond := some uptoSmall }

/-- 'laws.FnFair', WHERE WHAT IT READS IS OF BULK AT MOST 1048576: true; the input reads as it did. -/
def fnFairUptoRow : OpenClaim := { program := "ytikeaiogpfjdnaagreat", sum := "e6e9826aa025bca57e084870eaad6ae406be31458965de830e80999347f78501", func := "loop.example/g01287/laws.FnFair", spec := "fnFair", apart := false, narrowed := true }
def FnFairUptoSaid : Prop := fnFairUptoRow.holds Tryz.pinned (OpenSpec.upto fnFairSpec)

/-- 'laws.FnPurged', WHERE WHAT IT READS IS OF BULK AT MOST 1048576: true; the input reads as it did. -/
def fnPurgedUptoRow : OpenClaim := { program := "ytikeaiogpfjdnaagreat", sum := "e6e9826aa025bca57e084870eaad6ae406be31458965de830e80999347f78501", func := "loop.example/g01287/laws.FnPurged", spec := "fnPurged", apart := false, narrowed := true }
def FnPurgedUptoSaid : Prop := fnPurgedUptoRow.holds Tryz.pinned (OpenSpec.upto fnPurgedSpec)

/-- 'laws.FnCollected', WHERE WHAT IT READS IS OF BULK AT MOST 1048576: true; the input reads as it did. -/
def fnCollectedUptoRow : OpenClaim := { program := "ytikeaiogpfjdnaagreat", sum := "e6e9826aa025bca57e084870eaad6ae406be31458965de830e80999347f78501", func := "loop.example/g01287/laws.FnCollected", spec := "fnCollected", apart := false, narrowed := true }
def FnCollectedUptoSaid : Prop := fnCollectedUptoRow.holds Tryz.pinned (OpenSpec.upto fnCollectedSpec)

/-- 'laws.FnTick', WHERE WHAT IT READS IS OF BULK AT MOST 1048576: true; the input reads as it did. -/
def fnTickUptoRow : OpenClaim := { program := "ytikeaiogpfjdnaagreat", sum := "e6e9826aa025bca57e084870eaad6ae406be31458965de830e80999347f78501", func := "loop.example/g01287/laws.FnTick", spec := "fnTick", apart := false, narrowed := true }
def FnTickUptoSaid : Prop := fnTickUptoRow.holds Tryz.pinned (OpenSpec.upto fnTickSpec)

/-- 'laws.FnOwnAlone', WHERE WHAT IT READS IS OF BULK AT MOST 1048576: true; the input reads as it did. -/
def fnOwnAloneUptoRow : OpenClaim := { program := "ytikeaiogpfjdnaagreat", sum := "e6e9826aa025bca57e084870eaad6ae406be31458965de830e80999347f78501", func := "loop.example/g01287/laws.FnOwnAlone", spec := "fnOwnAlone", apart := false, narrowed := true }
def FnOwnAloneUptoSaid : Prop := fnOwnAloneUptoRow.holds Tryz.pinned (OpenSpec.upto fnOwnAloneSpec)

/-- 'laws.FnFlows', WHERE WHAT IT READS IS OF BULK AT MOST 1048576: true; the input reads as it did. -/
def fnFlowsUptoRow : OpenClaim := { program := "ytikeaiogpfjdnaagreat", sum := "e6e9826aa025bca57e084870eaad6ae406be31458965de830e80999347f78501", func := "loop.example/g01287/laws.FnFlows", spec := "fnFlows", apart := false, narrowed := true }
def FnFlowsUptoSaid : Prop := fnFlowsUptoRow.holds Tryz.pinned (OpenSpec.upto fnFlowsSpec)

/-- 'laws.FnRefused', WHERE WHAT IT READS IS OF BULK AT MOST 1048576: true; the input reads as it did. -/
def fnRefusedUptoRow : OpenClaim := { program := "ytikeaiogpfjdnaagreat", sum := "e6e9826aa025bca57e084870eaad6ae406be31458965de830e80999347f78501", func := "loop.example/g01287/laws.FnRefused", spec := "fnRefused", apart := false, narrowed := true }
def FnRefusedUptoSaid : Prop := fnRefusedUptoRow.holds Tryz.pinned (OpenSpec.upto fnRefusedSpec)

/-- 'laws.FnExactWorldCall', WHERE WHAT IT READS IS OF BULK AT MOST 1048576: true; the input reads as it did. -/
def fnExactWorldCallUptoRow : OpenClaim := { program := "ytikeaiogpfjdnaagreat", sum := "e6e9826aa025bca57e084870eaad6ae406be31458965de830e80999347f78501", func := "loop.example/g01287/laws.FnExactWorldCall", spec := "fnExactWorldCall", apart := false, narrowed := true }
def FnExactWorldCallUptoSaid : Prop := fnExactWorldCallUptoRow.holds Tryz.pinned (OpenSpec.upto fnExactWorldCallSpec)

end Rows
end Go.Proofs.YtikeaiogpfjdnaaGreat
