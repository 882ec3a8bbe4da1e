/-
  No cell of these rows narrows 'for every input' (looked for: loops, veiled, ifaces, maps, wideKeys, modest, calm, conditions, laid).
  DERIVED. THE GIVEN ROWS OF THIS SEAT. 5 by the template 'for every input the law returns true; each argument reads behind the call as it read before'; 0 by the template 'total and deterministic' (their statements: YtdjpppkdngmeaaaGreatTotals.lean).
  GIVEN WITH THE SEED: the statements are not yours to turn. If you find one false, say at which input.
  Laid BY PROGRAM, IN A SANDBOX (cutbox-rows.mjs): the forced cells as the released guide's own fill.sh prints them over the translation b6531b449cd33e69… (all of the seat's roots in one cut). By AI agents, Wed Nov 11 2026. No macro, syntax, notation, axiom, sorry.
-/
import Derived.Test.YtdjpppkdngmeaaaGreatChecked
import GoSem.Claim
import GoSem.ClaimJoined
import GoSem.ClaimMapViews
import Derived.JoinedTies
import Derived.KernelRfl
namespace Go.Proofs.YtdjpppkdngmeaaaGreat
/- THE CELL 'sum', in the pinned program and in every row, IS THE sha256 OF THE DUMP (.gsa) THAT YtdjpppkdngmeaaaGreatProg.lean LOADS. Nothing in Lean hashes anything: it is a label: what it is worth is what the hold of that sum in a sandbox is worth. -/
noncomputable def Tryz.pinned : Pinned := { name := "ytdjpppkdngmeaaagreat", sum := "b6531b449cd33e69f90fe7c2bc0bc8f3b7334e6565887fdb4fd867cbefeb7347", checked := Tryz.checked }
namespace Rows
def none {H : Type} : Left H := { results := [], args := [] }

/-- 'laws.FnExactRunnable': WHATEVER THE INPUT: true; the input reads as it did. -/
def fnExactRunnableSpec : ChangeSpec := { name := "fnExactRunnable", fn := fun _ => fun
  | [d1, d2] => { results := [.lit (.bool true)], args := [d1, d2] }
  | _ => none }
def fnExactRunnableRow : OpenClaim := { program := "ytdjpppkdngmeaaagreat", sum := "b6531b449cd33e69f90fe7c2bc0bc8f3b7334e6565887fdb4fd867cbefeb7347", func := "loop.example/g01287/laws.FnExactRunnable", spec := "fnExactRunnable", apart := false }
def FnExactRunnableSaid : Prop := fnExactRunnableRow.holds Tryz.pinned (OpenSpec.ofChange fnExactRunnableSpec)

/-- ITS FALSE NEIGHBOUR: 'it returns false'. Refute it at one input. -/
def fnExactRunnableWrong : ChangeSpec := { name := "fnExactRunnable", fn := fun _ => fun
  | [d1, d2] => { results := [.lit (.bool false)], args := [d1, d2] }
  | _ => none }
def FnExactRunnableWrongFalsely : Prop := fnExactRunnableRow.holds Tryz.pinned (OpenSpec.ofChange fnExactRunnableWrong)

/-- 'laws.FnExactSound': WHATEVER THE INPUT: true; the input reads as it did. -/
def fnExactSoundSpec : ChangeSpec := { name := "fnExactSound", fn := fun _ => fun
  | [d] => { results := [.lit (.bool true)], args := [d] }
  | _ => none }
def fnExactSoundRow : OpenClaim := { program := "ytdjpppkdngmeaaagreat", sum := "b6531b449cd33e69f90fe7c2bc0bc8f3b7334e6565887fdb4fd867cbefeb7347", func := "loop.example/g01287/laws.FnExactSound", spec := "fnExactSound", apart := false }
def FnExactSoundSaid : Prop := fnExactSoundRow.holds Tryz.pinned (OpenSpec.ofChange fnExactSoundSpec)

/-- ITS FALSE NEIGHBOUR: 'it returns false'. Refute it at one input. -/
def fnExactSoundWrong : ChangeSpec := { name := "fnExactSound", fn := fun _ => fun
  | [d] => { results := [.lit (.bool false)], args := [d] }
  | _ => none }
def FnExactSoundWrongFalsely : Prop := fnExactSoundRow.holds Tryz.pinned (OpenSpec.ofChange fnExactSoundWrong)

/-- 'laws.FnExactConserved': WHATEVER THE INPUT: true; the input reads as it did. -/
def fnExactConservedSpec : ChangeSpec := { name := "fnExactConserved", fn := fun _ => fun
  | [d1, d2] => { results := [.lit (.bool true)], args := [d1, d2] }
  | _ => none }
def fnExactConservedRow : OpenClaim := { program := "ytdjpppkdngmeaaagreat", sum := "b6531b449cd33e69f90fe7c2bc0bc8f3b7334e6565887fdb4fd867cbefeb7347", func := "loop.example/g01287/laws.FnExactConserved", spec := "fnExactConserved", apart := false }
def FnExactConservedSaid : Prop := fnExactConservedRow.holds Tryz.pinned (OpenSpec.ofChange fnExactConservedSpec)

/-- ITS FALSE NEIGHBOUR: 'it returns false'. Refute it at one input. -/
def fnExactConservedWrong : ChangeSpec := { name := "fnExactConserved", fn := fun _ => fun
  | [d1, d2] => { results := [.lit (.bool false)], args := [d1, d2] }
  | _ => none }
def FnExactConservedWrongFalsely : Prop := fnExactConservedRow.holds Tryz.pinned (OpenSpec.ofChange fnExactConservedWrong)

/-- 'laws.FnExactStillThere': WHATEVER THE INPUT: true; the input reads as it did. -/
def fnExactStillThereSpec : ChangeSpec := { name := "fnExactStillThere", fn := fun _ => fun
  | [d1, d2] => { results := [.lit (.bool true)], args := [d1, d2] }
  | _ => none }
def fnExactStillThereRow : OpenClaim := { program := "ytdjpppkdngmeaaagreat", sum := "b6531b449cd33e69f90fe7c2bc0bc8f3b7334e6565887fdb4fd867cbefeb7347", func := "loop.example/g01287/laws.FnExactStillThere", spec := "fnExactStillThere", apart := false }
def FnExactStillThereSaid : Prop := fnExactStillThereRow.holds Tryz.pinned (OpenSpec.ofChange fnExactStillThereSpec)

/-- ITS FALSE NEIGHBOUR: 'it returns false'. Refute it at one input. -/
def fnExactStillThereWrong : ChangeSpec := { name := "fnExactStillThere", fn := fun _ => fun
  | [d1, d2] => { results := [.lit (.bool false)], args := [d1, d2] }
  | _ => none }
def FnExactStillThereWrongFalsely : Prop := fnExactStillThereRow.holds Tryz.pinned (OpenSpec.ofChange fnExactStillThereWrong)

/-- 'laws.FnExactWorldNew': WHATEVER THE INPUT: true; the input reads as it did. -/
def fnExactWorldNewSpec : ChangeSpec := { name := "fnExactWorldNew", fn := fun _ => fun
  | [d] => { results := [.lit (.bool true)], args := [d] }
  | _ => none }
def fnExactWorldNewRow : OpenClaim := { program := "ytdjpppkdngmeaaagreat", sum := "b6531b449cd33e69f90fe7c2bc0bc8f3b7334e6565887fdb4fd867cbefeb7347", func := "loop.example/g01287/laws.FnExactWorldNew", spec := "fnExactWorldNew", apart := false }
def FnExactWorldNewSaid : Prop := fnExactWorldNewRow.holds Tryz.pinned (OpenSpec.ofChange fnExactWorldNewSpec)

/-- ITS FALSE NEIGHBOUR: 'it returns false'. Refute it at one input. -/
def fnExactWorldNewWrong : ChangeSpec := { name := "fnExactWorldNew", fn := fun _ => fun
  | [d] => { results := [.lit (.bool false)], args := [d] }
  | _ => none }
def FnExactWorldNewWrongFalsely : Prop := fnExactWorldNewRow.holds Tryz.pinned (OpenSpec.ofChange fnExactWorldNewWrong)

/- THE SECOND FORM. 'bulk': how many values and letters a reading holds, each counted each time it is reached (what is shared counts as often as it is met; a slice's spare places count too). A statement '..UptoSaid' is the law's where the arguments, and the package variables that the reading takes, are together of bulk at most 1048576: NARROWER than '..Said'. Prove '..Said' where nothing that the law and all that it calls make is longer than what came in: it says more and counts as full. Else prove '..UptoSaid'. A law counts once. -/
mutual
def uptoBulk {H : Type} : DataW H → Nat
  | .lit (.string bytes) => bytes.length + 1
  | .lit _ => 1
  | .nil => 1
  | .ptr d => uptoBulk d + 1
  | .slice elems spare => uptoBulkAll elems + uptoBulkAll spare + 1
  | .agg parts => uptoBulkAll parts + 1
  | .iface _ d => uptoBulk d + 1
  | .map entries => uptoBulkEntries entries + 1
  | .held _ => 1
def uptoBulkAll {H : Type} : List (DataW H) → Nat
  | [] => 0
  | d :: r => uptoBulk d + uptoBulkAll r
def uptoBulkEntries {H : Type} : List (Lit × DataW H) → Nat
  | [] => 0
  | x :: r => uptoBulkEntry x + uptoBulkEntries r
def uptoBulkEntry {H : Type} : Lit × DataW H → Nat
  | (.string bytes, d) => bytes.length + uptoBulk d + 1
  | (_, d) => uptoBulk d + 1
 end
def uptoSmall : (H : Type) → List (DataW H) → Bool := fun _ ds => decide (uptoBulkAll ds ≤ 1048576)
def OpenSpec.upto (s : _root_.Go.ChangeSpec) : _root_.Go.OpenSpec := { _root_.Go.OpenSpec.ofChange s with cond := some uptoSmall }

/-- 'laws.FnExactRunnable', WHERE WHAT IT READS IS OF BULK AT MOST 1048576: true; the input reads as it did. -/
def fnExactRunnableUptoRow : OpenClaim := { program := "ytdjpppkdngmeaaagreat", sum := "b6531b449cd33e69f90fe7c2bc0bc8f3b7334e6565887fdb4fd867cbefeb7347", func := "loop.example/g01287/laws.FnExactRunnable", spec := "fnExactRunnable", apart := false, narrowed := true }
def FnExactRunnableUptoSaid : Prop := fnExactRunnableUptoRow.holds Tryz.pinned (OpenSpec.upto fnExactRunnableSpec)

/-- 'laws.FnExactSound', WHERE WHAT IT READS IS OF BULK AT MOST 1048576: true; the input reads as it did. -/
def fnExactSoundUptoRow : OpenClaim := { program := "ytdjpppkdngmeaaagreat", sum := "b6531b449cd33e69f90fe7c2bc0bc8f3b7334e6565887fdb4fd867cbefeb7347", func := "loop.example/g01287/laws.FnExactSound", spec := "fnExactSound", apart := false, narrowed := true }
def FnExactSoundUptoSaid : Prop := fnExactSoundUptoRow.holds Tryz.pinned (OpenSpec.upto fnExactSoundSpec)

/-- 'laws.FnExactConserved', WHERE WHAT IT READS IS OF BULK AT MOST 1048576: true; the input reads as it did. -/
def fnExactConservedUptoRow : OpenClaim := { program := "ytdjpppkdngmeaaagreat", sum := "b6531b449cd33e69f90fe7c2bc0bc8f3b7334e6565887fdb4fd867cbefeb7347", func := "loop.example/g01287/laws.FnExactConserved", spec := "fnExactConserved", apart := false, narrowed := true }
def FnExactConservedUptoSaid : Prop := fnExactConservedUptoRow.holds Tryz.pinned (OpenSpec.upto fnExactConservedSpec)

/-- 'laws.FnExactStillThere', WHERE WHAT IT READS IS OF BULK AT MOST 1048576: true; the input reads as it did. -/
def fnExactStillThereUptoRow : OpenClaim := { program := "ytdjpppkdngmeaaagreat", sum := "b6531b449cd33e69f90fe7c2bc0bc8f3b7334e6565887fdb4fd867cbefeb7347", func := "loop.example/g01287/laws.FnExactStillThere", spec := "fnExactStillThere", apart := false, narrowed := true }
def FnExactStillThereUptoSaid : Prop := fnExactStillThereUptoRow.holds Tryz.pinned (OpenSpec.upto fnExactStillThereSpec)

/-- 'laws.FnExactWorldNew', WHERE WHAT IT READS IS OF BULK AT MOST 1048576: true; the input reads as it did. -/
def fnExactWorldNewUptoRow : OpenClaim := { program := "ytdjpppkdngmeaaagreat", sum := "b6531b449cd33e69f90fe7c2bc0bc8f3b7334e6565887fdb4fd867cbefeb7347", func := "loop.example/g01287/laws.FnExactWorldNew", spec := "fnExactWorldNew", apart := false, narrowed := true }
def FnExactWorldNewUptoSaid : Prop := fnExactWorldNewUptoRow.holds Tryz.pinned (OpenSpec.upto fnExactWorldNewSpec)

end Rows
end Go.Proofs.YtdjpppkdngmeaaaGreat
