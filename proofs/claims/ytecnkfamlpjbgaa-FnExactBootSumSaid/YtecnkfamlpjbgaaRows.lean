/-
  No cell of these rows narrows 'for every input' (looked for: loops, veiled, ifaces, maps, wideKeys, modest, calm, conditions, laid).
  DERIVED. THE GIVEN ROWS OF THIS SEAT. 6 by the template 'for every input the law returns true; each argument reads behind the call as it read before'; 0 by the template 'total and deterministic' (their statements: YtecnkfamlpjbgaaTotals.lean).
  GIVEN WITH THE SEED: the statements are not yours to turn. If you find one false, say at which input.
  Laid BY PROGRAM, IN A SANDBOX (cutbox-rows.mjs): the forced cells as the released guide's own fill.sh prints them over the translation 5519dab1b1c811f7… (all of the seat's roots in one cut). By AI agents, Wed Nov 11 2026. No macro, syntax, notation, axiom, sorry.
-/
import Derived.Test.YtecnkfamlpjbgaaChecked
import GoSem.Claim
import GoSem.ClaimJoined
import GoSem.ClaimMapViews
import Derived.JoinedTies
import Derived.KernelRfl
namespace Go.Proofs.Ytecnkfamlpjbgaa
/- THE CELL 'sum', in the pinned program and in every row, IS THE sha256 OF THE DUMP (.gsa) THAT YtecnkfamlpjbgaaProg.lean LOADS. Nothing in Lean hashes anything: it is a label: what it is worth is what the hold of that sum in a sandbox is worth. -/
noncomputable def Try.pinned : Pinned := { name := "ytecnkfamlpjbgaa", sum := "5519dab1b1c811f71174d707104d0b7d9060b26b38fb7f64eac8479c499d4f50", checked := Try.checked }
namespace Rows
def none {H : Type} : Left H := { results := [], args := [] }

/-- 'laws.FnExactCodeWord': WHATEVER THE INPUT: true; the input reads as it did. -/
def fnExactCodeWordSpec : ChangeSpec := { name := "fnExactCodeWord", fn := fun _ => fun
  | [d] => { results := [.lit (.bool true)], args := [d] }
  | _ => none }
def fnExactCodeWordRow : OpenClaim := { program := "ytecnkfamlpjbgaa", sum := "5519dab1b1c811f71174d707104d0b7d9060b26b38fb7f64eac8479c499d4f50", func := "loop.example/g01287/laws.FnExactCodeWord", spec := "fnExactCodeWord", apart := false }
def FnExactCodeWordSaid : Prop := fnExactCodeWordRow.holds Try.pinned (OpenSpec.ofChange fnExactCodeWordSpec)

/-- ITS FALSE NEIGHBOUR: 'it returns false'. Refute it at one input. -/
def fnExactCodeWordWrong : ChangeSpec := { name := "fnExactCodeWord", fn := fun _ => fun
  | [d] => { results := [.lit (.bool false)], args := [d] }
  | _ => none }
def FnExactCodeWordWrongFalsely : Prop := fnExactCodeWordRow.holds Try.pinned (OpenSpec.ofChange fnExactCodeWordWrong)

/-- 'laws.FnExactQuotaNew': WHATEVER THE INPUT: true; the input reads as it did. -/
def fnExactQuotaNewSpec : ChangeSpec := { name := "fnExactQuotaNew", fn := fun _ => fun
  | [d] => { results := [.lit (.bool true)], args := [d] }
  | _ => none }
def fnExactQuotaNewRow : OpenClaim := { program := "ytecnkfamlpjbgaa", sum := "5519dab1b1c811f71174d707104d0b7d9060b26b38fb7f64eac8479c499d4f50", func := "loop.example/g01287/laws.FnExactQuotaNew", spec := "fnExactQuotaNew", apart := false }
def FnExactQuotaNewSaid : Prop := fnExactQuotaNewRow.holds Try.pinned (OpenSpec.ofChange fnExactQuotaNewSpec)

/-- ITS FALSE NEIGHBOUR: 'it returns false'. Refute it at one input. -/
def fnExactQuotaNewWrong : ChangeSpec := { name := "fnExactQuotaNew", fn := fun _ => fun
  | [d] => { results := [.lit (.bool false)], args := [d] }
  | _ => none }
def FnExactQuotaNewWrongFalsely : Prop := fnExactQuotaNewRow.holds Try.pinned (OpenSpec.ofChange fnExactQuotaNewWrong)

/-- 'laws.FnExactTicks': WHATEVER THE INPUT: true; the input reads as it did. -/
def fnExactTicksSpec : ChangeSpec := { name := "fnExactTicks", fn := fun _ => fun
  | [d] => { results := [.lit (.bool true)], args := [d] }
  | _ => none }
def fnExactTicksRow : OpenClaim := { program := "ytecnkfamlpjbgaa", sum := "5519dab1b1c811f71174d707104d0b7d9060b26b38fb7f64eac8479c499d4f50", func := "loop.example/g01287/laws.FnExactTicks", spec := "fnExactTicks", apart := false }
def FnExactTicksSaid : Prop := fnExactTicksRow.holds Try.pinned (OpenSpec.ofChange fnExactTicksSpec)

/-- ITS FALSE NEIGHBOUR: 'it returns false'. Refute it at one input. -/
def fnExactTicksWrong : ChangeSpec := { name := "fnExactTicks", fn := fun _ => fun
  | [d] => { results := [.lit (.bool false)], args := [d] }
  | _ => none }
def FnExactTicksWrongFalsely : Prop := fnExactTicksRow.holds Try.pinned (OpenSpec.ofChange fnExactTicksWrong)

/-- 'laws.FnExactBootOk': WHATEVER THE INPUT: true; the input reads as it did. -/
def fnExactBootOkSpec : ChangeSpec := { name := "fnExactBootOk", fn := fun _ => fun
  | [d] => { results := [.lit (.bool true)], args := [d] }
  | _ => none }
def fnExactBootOkRow : OpenClaim := { program := "ytecnkfamlpjbgaa", sum := "5519dab1b1c811f71174d707104d0b7d9060b26b38fb7f64eac8479c499d4f50", func := "loop.example/g01287/laws.FnExactBootOk", spec := "fnExactBootOk", apart := false }
def FnExactBootOkSaid : Prop := fnExactBootOkRow.holds Try.pinned (OpenSpec.ofChange fnExactBootOkSpec)

/-- ITS FALSE NEIGHBOUR: 'it returns false'. Refute it at one input. -/
def fnExactBootOkWrong : ChangeSpec := { name := "fnExactBootOk", fn := fun _ => fun
  | [d] => { results := [.lit (.bool false)], args := [d] }
  | _ => none }
def FnExactBootOkWrongFalsely : Prop := fnExactBootOkRow.holds Try.pinned (OpenSpec.ofChange fnExactBootOkWrong)

/-- 'laws.FnExactSeen': WHATEVER THE INPUT: true; the input reads as it did. -/
def fnExactSeenSpec : ChangeSpec := { name := "fnExactSeen", fn := fun _ => fun
  | [d1, d2, d3] => { results := [.lit (.bool true)], args := [d1, d2, d3] }
  | _ => none }
def fnExactSeenRow : OpenClaim := { program := "ytecnkfamlpjbgaa", sum := "5519dab1b1c811f71174d707104d0b7d9060b26b38fb7f64eac8479c499d4f50", func := "loop.example/g01287/laws.FnExactSeen", spec := "fnExactSeen", apart := false }
def FnExactSeenSaid : Prop := fnExactSeenRow.holds Try.pinned (OpenSpec.ofChange fnExactSeenSpec)

/-- ITS FALSE NEIGHBOUR: 'it returns false'. Refute it at one input. -/
def fnExactSeenWrong : ChangeSpec := { name := "fnExactSeen", fn := fun _ => fun
  | [d1, d2, d3] => { results := [.lit (.bool false)], args := [d1, d2, d3] }
  | _ => none }
def FnExactSeenWrongFalsely : Prop := fnExactSeenRow.holds Try.pinned (OpenSpec.ofChange fnExactSeenWrong)

/-- 'laws.FnExactBootSum': WHATEVER THE INPUT: true; the input reads as it did. -/
def fnExactBootSumSpec : ChangeSpec := { name := "fnExactBootSum", fn := fun _ => fun
  | [d] => { results := [.lit (.bool true)], args := [d] }
  | _ => none }
def fnExactBootSumRow : OpenClaim := { program := "ytecnkfamlpjbgaa", sum := "5519dab1b1c811f71174d707104d0b7d9060b26b38fb7f64eac8479c499d4f50", func := "loop.example/g01287/laws.FnExactBootSum", spec := "fnExactBootSum", apart := false }
def FnExactBootSumSaid : Prop := fnExactBootSumRow.holds Try.pinned (OpenSpec.ofChange fnExactBootSumSpec)

/-- ITS FALSE NEIGHBOUR: 'it returns false'. Refute it at one input. -/
def fnExactBootSumWrong : ChangeSpec := { name := "fnExactBootSum", fn := fun _ => fun
  | [d] => { results := [.lit (.bool false)], args := [d] }
  | _ => none }
def FnExactBootSumWrongFalsely : Prop := fnExactBootSumRow.holds Try.pinned (OpenSpec.ofChange fnExactBootSumWrong)

/- THE SECOND FORM. 'bulk': how many values and letters a reading holds, each counted each time it is reached (what is shared counts as often as it is met; a slice's spare places count too). A statement '..UptoSaid' is the law's where the arguments, and the package variables that the reading takes, are together of bulk at most 1048576: NARROWER than '..Said'. Prove '..Said' where nothing that the law and all that it calls make is longer than what came in: it says more and counts as full. Else prove '..UptoSaid'. A law counts once. -/
mutual
def uptoBulk {H : Type} : DataW H → Nat
  | .lit (.string bytes) => bytes.length + 1
  | .lit _ => 1
  | .nil => 1
  | .ptr d => uptoBulk d + 1
  | .slice elems spare => uptoBulkAll elems + uptoBulkAll spare + 1
  | .agg parts => uptoBulkAll parts + 1
  | .iface _ d => uptoBulk d + 1
  | .map entries => uptoBulkEntries entries + 1
  | .held _ => 1
def uptoBulkAll {H : Type} : List (DataW H) → Nat
  | [] => 0
  | d :: r => uptoBulk d + uptoBulkAll r
def uptoBulkEntries {H : Type} : List (Lit × DataW H) → Nat
  | [] => 0
  | x :: r => uptoBulkEntry x + uptoBulkEntries r
def uptoBulkEntry {H : Type} : Lit × DataW H → Nat
  | (.string bytes, d) => bytes.length + uptoBulk d + 1
  | (_, d) => uptoBulk d + 1
 end
def uptoSmall : (H : Type) → List (DataW H) → Bool := fun _ ds => decide (uptoBulkAll ds ≤ 1048576)
def OpenSpec.upto (s : _root_.Go.ChangeSpec) : _root_.Go.OpenSpec := { _root_.Go.OpenSpec.ofChange s with cond := some uptoSmall }

/-- 'laws.FnExactCodeWord', WHERE WHAT IT READS IS OF BULK AT MOST 1048576: true; the input reads as it did. -/
def fnExactCodeWordUptoRow : OpenClaim := { program := "ytecnkfamlpjbgaa", sum := "5519dab1b1c811f71174d707104d0b7d9060b26b38fb7f64eac8479c499d4f50", func := "loop.example/g01287/laws.FnExactCodeWord", spec := "fnExactCodeWord", apart := false, narrowed := true }
def FnExactCodeWordUptoSaid : Prop := fnExactCodeWordUptoRow.holds Try.pinned (OpenSpec.upto fnExactCodeWordSpec)

/-- 'laws.FnExactQuotaNew', WHERE WHAT IT READS IS OF BULK AT MOST 1048576: true; the input reads as it did. -/
def fnExactQuotaNewUptoRow : OpenClaim := { program := "ytecnkfamlpjbgaa", sum := "5519dab1b1c811f71174d707104d0b7d9060b26b38fb7f64eac8479c499d4f50", func := "loop.example/g01287/laws.FnExactQuotaNew", spec := "fnExactQuotaNew", apart := false, narrowed := true }
def FnExactQuotaNewUptoSaid : Prop := fnExactQuotaNewUptoRow.holds Try.pinned (OpenSpec.upto fnExactQuotaNewSpec)

/-- 'laws.FnExactTicks', WHERE WHAT IT READS IS OF BULK AT MOST 1048576: true; the input reads as it did. -/
def fnExactTicksUptoRow : OpenClaim := { program := "ytecnkfamlpjbgaa", sum := "5519dab1b1c811f71174d707104d0b7d9060b26b38fb7f64eac8479c499d4f50", func := "loop.example/g01287/laws.FnExactTicks", spec := "fnExactTicks", apart := false, narrowed := true }
def FnExactTicksUptoSaid : Prop := fnExactTicksUptoRow.holds Try.pinned (OpenSpec.upto fnExactTicksSpec)

/-- 'laws.FnExactBootOk', WHERE WHAT IT READS IS OF BULK AT MOST 1048576: true; the input reads as it did. -/
def fnExactBootOkUptoRow : OpenClaim := { program := "ytecnkfamlpjbgaa", sum := "5519dab1b1c811f71174d707104d0b7d9060b26b38fb7f64eac8479c499d4f50", func := "loop.example/g01287/laws.FnExactBootOk", spec := "fnExactBootOk", apart := false, narrowed := true }
def FnExactBootOkUptoSaid : Prop := fnExactBootOkUptoRow.holds Try.pinned (OpenSpec.upto fnExactBootOkSpec)

/-- 'laws.FnExactSeen', WHERE WHAT IT READS IS OF BULK AT MOST 1048576: true; the input reads as it did. -/
def fnExactSeenUptoRow : OpenClaim := { program := "ytecnkfamlpjbgaa", sum := "5519dab1b1c811f71174d707104d0b7d9060b26b38fb7f64eac8479c499d4f50", func := "loop.example/g01287/laws.FnExactSeen", spec := "fnExactSeen", apart := false, narrowed := true }
def FnExactSeenUptoSaid : Prop := fnExactSeenUptoRow.holds Try.pinned (OpenSpec.upto fnExactSeenSpec)

/-- 'laws.FnExactBootSum', WHERE WHAT IT READS IS OF BULK AT MOST 1048576: true; the input reads as it did. -/
def fnExactBootSumUptoRow : OpenClaim := { program := "ytecnkfamlpjbgaa", sum := "5519dab1b1c811f71174d707104d0b7d9060b26b38fb7f64eac8479c499d4f50", func := "loop.example/g01287/laws.FnExactBootSum", spec := "fnExactBootSum", apart := false, narrowed := true }
def FnExactBootSumUptoSaid : Prop := fnExactBootSumUptoRow.holds Try.pinned (OpenSpec.upto fnExactBootSumSpec)

end Rows
end Go.Proofs.Ytecnkfamlpjbgaa
