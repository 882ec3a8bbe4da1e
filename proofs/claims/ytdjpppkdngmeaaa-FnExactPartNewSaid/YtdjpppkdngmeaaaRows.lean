/-
  No cell of these rows narrows 'for every input' (looked for: loops, veiled, ifaces, maps, wideKeys, modest, calm, conditions, laid).
  DERIVED. THE GIVEN ROWS OF THIS SEAT. 7 by the template 'for every input the law returns true; each argument reads behind the call as it read before'; 0 by the template 'total and deterministic' (their statements: YtdjpppkdngmeaaaTotals.lean).
  GIVEN WITH THE SEED: the statements are not yours to turn. If you find one false, say at which input.
  Laid BY PROGRAM, IN A SANDBOX (cutbox-rows.mjs): the forced cells as the released guide's own fill.sh prints them over the translation 45ff30fc73facdaf… (all of the seat's roots in one cut). By AI agents, Wed Nov 11 2026. No macro, syntax, notation, axiom, sorry.
-/
import Derived.Test.YtdjpppkdngmeaaaChecked
import GoSem.Claim
import GoSem.ClaimJoined
import GoSem.ClaimMapViews
import Derived.JoinedTies
import Derived.KernelRfl
namespace Go.Proofs.Ytdjpppkdngmeaaa
/- THE CELL 'sum', in the pinned program and in every row, IS THE sha256 OF THE DUMP (.gsa) THAT YtdjpppkdngmeaaaProg.lean LOADS. Nothing in Lean hashes anything: it is a label: what it is worth is what the hold of that sum in a sandbox is worth. -/
noncomputable def Try.pinned : Pinned := { name := "ytdjpppkdngmeaaa", sum := "45ff30fc73facdaf65a84d08ed8c7caf969f2eac3f3ba921c3e6e9185a5bfb02", checked := Try.checked }
namespace Rows
def none {H : Type} : Left H := { results := [], args := [] }

/-- 'laws.FnExactPurge': WHATEVER THE INPUT: true; the input reads as it did. -/
def fnExactPurgeSpec : ChangeSpec := { name := "fnExactPurge", fn := fun _ => fun
  | [d1, d2, d3] => { results := [.lit (.bool true)], args := [d1, d2, d3] }
  | _ => none }
def fnExactPurgeRow : OpenClaim := { program := "ytdjpppkdngmeaaa", sum := "45ff30fc73facdaf65a84d08ed8c7caf969f2eac3f3ba921c3e6e9185a5bfb02", func := "loop.example/g01287/laws.FnExactPurge", spec := "fnExactPurge", apart := false }
def FnExactPurgeSaid : Prop := fnExactPurgeRow.holds Try.pinned (OpenSpec.ofChange fnExactPurgeSpec)

/-- ITS FALSE NEIGHBOUR: 'it returns false'. Refute it at one input. -/
def fnExactPurgeWrong : ChangeSpec := { name := "fnExactPurge", fn := fun _ => fun
  | [d1, d2, d3] => { results := [.lit (.bool false)], args := [d1, d2, d3] }
  | _ => none }
def FnExactPurgeWrongFalsely : Prop := fnExactPurgeRow.holds Try.pinned (OpenSpec.ofChange fnExactPurgeWrong)

/-- 'laws.FnExactSameWorld': WHATEVER THE INPUT: true; the input reads as it did. -/
def fnExactSameWorldSpec : ChangeSpec := { name := "fnExactSameWorld", fn := fun _ => fun
  | [d1, d2] => { results := [.lit (.bool true)], args := [d1, d2] }
  | _ => none }
def fnExactSameWorldRow : OpenClaim := { program := "ytdjpppkdngmeaaa", sum := "45ff30fc73facdaf65a84d08ed8c7caf969f2eac3f3ba921c3e6e9185a5bfb02", func := "loop.example/g01287/laws.FnExactSameWorld", spec := "fnExactSameWorld", unfollowed := true, recurses := true, apart := false }
def FnExactSameWorldSaid : Prop := fnExactSameWorldRow.holds Try.pinned (OpenSpec.ofChange fnExactSameWorldSpec)

/-- ITS FALSE NEIGHBOUR: 'it returns false'. Refute it at one input. -/
def fnExactSameWorldWrong : ChangeSpec := { name := "fnExactSameWorld", fn := fun _ => fun
  | [d1, d2] => { results := [.lit (.bool false)], args := [d1, d2] }
  | _ => none }
def FnExactSameWorldWrongFalsely : Prop := fnExactSameWorldRow.holds Try.pinned (OpenSpec.ofChange fnExactSameWorldWrong)

/-- 'laws.FnExactCanCall': WHATEVER THE INPUT: true; the input reads as it did. -/
def fnExactCanCallSpec : ChangeSpec := { name := "fnExactCanCall", fn := fun _ => fun
  | [d1, d2, d3] => { results := [.lit (.bool true)], args := [d1, d2, d3] }
  | _ => none }
def fnExactCanCallRow : OpenClaim := { program := "ytdjpppkdngmeaaa", sum := "45ff30fc73facdaf65a84d08ed8c7caf969f2eac3f3ba921c3e6e9185a5bfb02", func := "loop.example/g01287/laws.FnExactCanCall", spec := "fnExactCanCall", apart := false }
def FnExactCanCallSaid : Prop := fnExactCanCallRow.holds Try.pinned (OpenSpec.ofChange fnExactCanCallSpec)

/-- ITS FALSE NEIGHBOUR: 'it returns false'. Refute it at one input. -/
def fnExactCanCallWrong : ChangeSpec := { name := "fnExactCanCall", fn := fun _ => fun
  | [d1, d2, d3] => { results := [.lit (.bool false)], args := [d1, d2, d3] }
  | _ => none }
def FnExactCanCallWrongFalsely : Prop := fnExactCanCallRow.holds Try.pinned (OpenSpec.ofChange fnExactCanCallWrong)

/-- 'laws.FnExactWorldOk': WHATEVER THE INPUT: true; the input reads as it did. -/
def fnExactWorldOkSpec : ChangeSpec := { name := "fnExactWorldOk", fn := fun _ => fun
  | [d] => { results := [.lit (.bool true)], args := [d] }
  | _ => none }
def fnExactWorldOkRow : OpenClaim := { program := "ytdjpppkdngmeaaa", sum := "45ff30fc73facdaf65a84d08ed8c7caf969f2eac3f3ba921c3e6e9185a5bfb02", func := "loop.example/g01287/laws.FnExactWorldOk", spec := "fnExactWorldOk", apart := false }
def FnExactWorldOkSaid : Prop := fnExactWorldOkRow.holds Try.pinned (OpenSpec.ofChange fnExactWorldOkSpec)

/-- ITS FALSE NEIGHBOUR: 'it returns false'. Refute it at one input. -/
def fnExactWorldOkWrong : ChangeSpec := { name := "fnExactWorldOk", fn := fun _ => fun
  | [d] => { results := [.lit (.bool false)], args := [d] }
  | _ => none }
def FnExactWorldOkWrongFalsely : Prop := fnExactWorldOkRow.holds Try.pinned (OpenSpec.ofChange fnExactWorldOkWrong)

/-- 'laws.FnExactWorldSum': WHATEVER THE INPUT: true; the input reads as it did. -/
def fnExactWorldSumSpec : ChangeSpec := { name := "fnExactWorldSum", fn := fun _ => fun
  | [d] => { results := [.lit (.bool true)], args := [d] }
  | _ => none }
def fnExactWorldSumRow : OpenClaim := { program := "ytdjpppkdngmeaaa", sum := "45ff30fc73facdaf65a84d08ed8c7caf969f2eac3f3ba921c3e6e9185a5bfb02", func := "loop.example/g01287/laws.FnExactWorldSum", spec := "fnExactWorldSum", apart := false }
def FnExactWorldSumSaid : Prop := fnExactWorldSumRow.holds Try.pinned (OpenSpec.ofChange fnExactWorldSumSpec)

/-- ITS FALSE NEIGHBOUR: 'it returns false'. Refute it at one input. -/
def fnExactWorldSumWrong : ChangeSpec := { name := "fnExactWorldSum", fn := fun _ => fun
  | [d] => { results := [.lit (.bool false)], args := [d] }
  | _ => none }
def FnExactWorldSumWrongFalsely : Prop := fnExactWorldSumRow.holds Try.pinned (OpenSpec.ofChange fnExactWorldSumWrong)

/-- 'laws.FnExactSeenParts': WHATEVER THE INPUT: true; the input reads as it did. -/
def fnExactSeenPartsSpec : ChangeSpec := { name := "fnExactSeenParts", fn := fun _ => fun
  | [d1, d2] => { results := [.lit (.bool true)], args := [d1, d2] }
  | _ => none }
def fnExactSeenPartsRow : OpenClaim := { program := "ytdjpppkdngmeaaa", sum := "45ff30fc73facdaf65a84d08ed8c7caf969f2eac3f3ba921c3e6e9185a5bfb02", func := "loop.example/g01287/laws.FnExactSeenParts", spec := "fnExactSeenParts", apart := false }
def FnExactSeenPartsSaid : Prop := fnExactSeenPartsRow.holds Try.pinned (OpenSpec.ofChange fnExactSeenPartsSpec)

/-- ITS FALSE NEIGHBOUR: 'it returns false'. Refute it at one input. -/
def fnExactSeenPartsWrong : ChangeSpec := { name := "fnExactSeenParts", fn := fun _ => fun
  | [d1, d2] => { results := [.lit (.bool false)], args := [d1, d2] }
  | _ => none }
def FnExactSeenPartsWrongFalsely : Prop := fnExactSeenPartsRow.holds Try.pinned (OpenSpec.ofChange fnExactSeenPartsWrong)

/-- 'laws.FnExactPartNew': WHATEVER THE INPUT: true; the input reads as it did. -/
def fnExactPartNewSpec : ChangeSpec := { name := "fnExactPartNew", fn := fun _ => fun
  | [d] => { results := [.lit (.bool true)], args := [d] }
  | _ => none }
def fnExactPartNewRow : OpenClaim := { program := "ytdjpppkdngmeaaa", sum := "45ff30fc73facdaf65a84d08ed8c7caf969f2eac3f3ba921c3e6e9185a5bfb02", func := "loop.example/g01287/laws.FnExactPartNew", spec := "fnExactPartNew", apart := false }
def FnExactPartNewSaid : Prop := fnExactPartNewRow.holds Try.pinned (OpenSpec.ofChange fnExactPartNewSpec)

/-- ITS FALSE NEIGHBOUR: 'it returns false'. Refute it at one input. -/
def fnExactPartNewWrong : ChangeSpec := { name := "fnExactPartNew", fn := fun _ => fun
  | [d] => { results := [.lit (.bool false)], args := [d] }
  | _ => none }
def FnExactPartNewWrongFalsely : Prop := fnExactPartNewRow.holds Try.pinned (OpenSpec.ofChange fnExactPartNewWrong)

/- THE SECOND FORM. 'bulk': how many values and letters a reading holds, each counted each time it is reached (what is shared counts as often as it is met; a slice's spare places count too). A statement '..UptoSaid' is the law's where the arguments, and the package variables that the reading takes, are together of bulk at most 1048576: NARROWER than '..Said'. Prove '..Said' where nothing that the law and all that it calls make is longer than what came in: it says more and counts as full. Else prove '..UptoSaid'. A law counts once. -/
mutual
def uptoBulk {H : Type} : DataW H → Nat
  | .lit (.string bytes) => bytes.length + 1
  | .lit _ => 1
  | .nil => 1
  | .ptr d => uptoBulk d + 1
  | .slice elems spare => uptoBulkAll elems + uptoBulkAll spare + 1
  | .agg parts => uptoBulkAll parts + 1
  | .iface _ d => uptoBulk d + 1
  | .map entries => uptoBulkEntries entries + 1
  | .held _ => 1
def uptoBulkAll {H : Type} : List (DataW H) → Nat
  | [] => 0
  | d :: r => uptoBulk d + uptoBulkAll r
def uptoBulkEntries {H : Type} : List (Lit × DataW H) → Nat
  | [] => 0
  | x :: r => uptoBulkEntry x + uptoBulkEntries r
def uptoBulkEntry {H : Type} : Lit × DataW H → Nat
  | (.string bytes, d) => bytes.length + uptoBulk d + 1
  | (_, d) => uptoBulk d + 1
 end
def uptoSmall : (H : Type) → List (DataW H) → Bool := fun _ ds => decide (uptoBulkAll ds ≤ 1048576)
def OpenSpec.upto (s : _root_.Go.ChangeSpec) : _root_.Go.OpenSpec := { _root_.Go.OpenSpec.ofChange s with cond := some uptoSmall }

/-- 'laws.FnExactPurge', WHERE WHAT IT READS IS OF BULK AT MOST 1048576: true; the input reads as it did. -/
def fnExactPurgeUptoRow : OpenClaim := { program := "ytdjpppkdngmeaaa", sum := "45ff30fc73facdaf65a84d08ed8c7caf969f2eac3f3ba921c3e6e9185a5bfb02", func := "loop.example/g01287/laws.FnExactPurge", spec := "fnExactPurge", apart := false, narrowed := true }
def FnExactPurgeUptoSaid : Prop := fnExactPurgeUptoRow.holds Try.pinned (OpenSpec.upto fnExactPurgeSpec)

/-- 'laws.FnExactSameWorld', WHERE WHAT IT READS IS OF BULK AT MOST 1048576: true; the input reads as it did. -/
def fnExactSameWorldUptoRow : OpenClaim := { program := "ytdjpppkdngmeaaa", sum := "45ff30fc73facdaf65a84d08ed8c7caf969f2eac3f3ba921c3e6e9185a5bfb02", func := "loop.example/g01287/laws.FnExactSameWorld", spec := "fnExactSameWorld", unfollowed := true, recurses := true, apart := false, narrowed := true }
def FnExactSameWorldUptoSaid : Prop := fnExactSameWorldUptoRow.holds Try.pinned (OpenSpec.upto fnExactSameWorldSpec)

/-- 'laws.FnExactCanCall', WHERE WHAT IT READS IS OF BULK AT MOST 1048576: true; the input reads as it did. -/
def fnExactCanCallUptoRow : OpenClaim := { program := "ytdjpppkdngmeaaa", sum := "45ff30fc73facdaf65a84d08ed8c7caf969f2eac3f3ba921c3e6e9185a5bfb02", func := "loop.example/g01287/laws.FnExactCanCall", spec := "fnExactCanCall", apart := false, narrowed := true }
def FnExactCanCallUptoSaid : Prop := fnExactCanCallUptoRow.holds Try.pinned (OpenSpec.upto fnExactCanCallSpec)

/-- 'laws.FnExactWorldOk', WHERE WHAT IT READS IS OF BULK AT MOST 1048576: true; the input reads as it did. -/
def fnExactWorldOkUptoRow : OpenClaim := { program := "ytdjpppkdngmeaaa", sum := "45ff30fc73facdaf65a84d08ed8c7caf969f2eac3f3ba921c3e6e9185a5bfb02", func := "loop.example/g01287/laws.FnExactWorldOk", spec := "fnExactWorldOk", apart := false, narrowed := true }
def FnExactWorldOkUptoSaid : Prop := fnExactWorldOkUptoRow.holds Try.pinned (OpenSpec.upto fnExactWorldOkSpec)

/-- 'laws.FnExactWorldSum', WHERE WHAT IT READS IS OF BULK AT MOST 1048576: true; the input reads as it did. -/
def fnExactWorldSumUptoRow : OpenClaim := { program := "ytdjpppkdngmeaaa", sum := "45ff30fc73facdaf65a84d08ed8c7caf969f2eac3f3ba921c3e6e9185a5bfb02", func := "loop.example/g01287/laws.FnExactWorldSum", spec := "fnExactWorldSum", apart := false, narrowed := true }
def FnExactWorldSumUptoSaid : Prop := fnExactWorldSumUptoRow.holds Try.pinned (OpenSpec.upto fnExactWorldSumSpec)

/-- 'laws.FnExactSeenParts', WHERE WHAT IT READS IS OF BULK AT MOST 1048576: true; the input reads as it did. -/
def fnExactSeenPartsUptoRow : OpenClaim := { program := "ytdjpppkdngmeaaa", sum := "45ff30fc73facdaf65a84d08ed8c7caf969f2eac3f3ba921c3e6e9185a5bfb02", func := "loop.example/g01287/laws.FnExactSeenParts", spec := "fnExactSeenParts", apart := false, narrowed := true }
def FnExactSeenPartsUptoSaid : Prop := fnExactSeenPartsUptoRow.holds Try.pinned (OpenSpec.upto fnExactSeenPartsSpec)

/-- 'laws.FnExactPartNew', WHERE WHAT IT READS IS OF BULK AT MOST 1048576: true; the input reads as it did. -/
def fnExactPartNewUptoRow : OpenClaim := { program := "ytdjpppkdngmeaaa", sum := "45ff30fc73facdaf65a84d08ed8c7caf969f2eac3f3ba921c3e6e9185a5bfb02", func := "loop.example/g01287/laws.FnExactPartNew", spec := "fnExactPartNew", apart := false, narrowed := true }
def FnExactPartNewUptoSaid : Prop := fnExactPartNewUptoRow.holds Try.pinned (OpenSpec.upto fnExactPartNewSpec)

end Rows
end Go.Proofs.Ytdjpppkdngmeaaa
