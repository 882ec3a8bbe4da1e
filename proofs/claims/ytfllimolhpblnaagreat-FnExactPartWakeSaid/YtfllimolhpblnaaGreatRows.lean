/-
  No cell of these rows narrows 'for every input' (looked for: loops, veiled, ifaces, maps, wideKeys, modest, calm, conditions, laid).
  DERIVED. THE GIVEN ROWS OF THIS SEAT. 7 by the template 'for every input the law returns true; each argument reads behind the call as it read before'; 0 by the template 'total and deterministic' (their statements: YtfllimolhpblnaaGreatTotals.lean).
  GIVEN WITH THE SEED: the statements are not yours to turn. If you find one false, say at which input.
  Laid BY PROGRAM, IN A SANDBOX (cutbox-rows.mjs): the forced cells as the released guide's own fill.sh prints them over the translation 5752e8112f3a4aba… (all of the seat's roots in one cut). By AI agents, Wed Nov 11 2026. No macro, syntax, notation, axiom, sorry.
-/
import Derived.Test.YtfllimolhpblnaaGreatChecked
import GoSem.Claim
import GoSem.ClaimJoined
import GoSem.ClaimMapViews
import Derived.JoinedTies
import Derived.KernelRfl
namespace Go.Proofs.YtfllimolhpblnaaGreat
/- THE CELL 'sum', in the pinned program and in every row, IS THE sha256 OF THE DUMP (.gsa) THAT YtfllimolhpblnaaGreatProg.lean LOADS. Nothing in Lean hashes anything: it is a label: what it is worth is what the hold of that sum in a sandbox is worth. -/
noncomputable def Tryz.pinned : Pinned := { name := "ytfllimolhpblnaagreat", sum := "5752e8112f3a4aba1355dc63e5b756a194a4c8cad361a35cd832a36f2c10be11", checked := Tryz.checked }
namespace Rows
def none {H : Type} : Left H := { results := [], args := [] }

/-- 'laws.FnExactOwning': WHATEVER THE INPUT: true; the input reads as it did. -/
def fnExactOwningSpec : ChangeSpec := { name := "fnExactOwning", fn := fun _ => fun
  | [d1, d2, d3] => { results := [.lit (.bool true)], args := [d1, d2, d3] }
  | _ => none }
def fnExactOwningRow : OpenClaim := { program := "ytfllimolhpblnaagreat", sum := "5752e8112f3a4aba1355dc63e5b756a194a4c8cad361a35cd832a36f2c10be11", func := "loop.example/g01287/laws.FnExactOwning", spec := "fnExactOwning", apart := false }
def FnExactOwningSaid : Prop := fnExactOwningRow.holds Tryz.pinned (OpenSpec.ofChange fnExactOwningSpec)

/-- ITS FALSE NEIGHBOUR: 'it returns false'. Refute it at one input. -/
def fnExactOwningWrong : ChangeSpec := { name := "fnExactOwning", fn := fun _ => fun
  | [d1, d2, d3] => { results := [.lit (.bool false)], args := [d1, d2, d3] }
  | _ => none }
def FnExactOwningWrongFalsely : Prop := fnExactOwningRow.holds Tryz.pinned (OpenSpec.ofChange fnExactOwningWrong)

/-- 'laws.FnExactDoomed': WHATEVER THE INPUT: true; the input reads as it did. -/
def fnExactDoomedSpec : ChangeSpec := { name := "fnExactDoomed", fn := fun _ => fun
  | [d] => { results := [.lit (.bool true)], args := [d] }
  | _ => none }
def fnExactDoomedRow : OpenClaim := { program := "ytfllimolhpblnaagreat", sum := "5752e8112f3a4aba1355dc63e5b756a194a4c8cad361a35cd832a36f2c10be11", func := "loop.example/g01287/laws.FnExactDoomed", spec := "fnExactDoomed", apart := false }
def FnExactDoomedSaid : Prop := fnExactDoomedRow.holds Tryz.pinned (OpenSpec.ofChange fnExactDoomedSpec)

/-- ITS FALSE NEIGHBOUR: 'it returns false'. Refute it at one input. -/
def fnExactDoomedWrong : ChangeSpec := { name := "fnExactDoomed", fn := fun _ => fun
  | [d] => { results := [.lit (.bool false)], args := [d] }
  | _ => none }
def FnExactDoomedWrongFalsely : Prop := fnExactDoomedRow.holds Tryz.pinned (OpenSpec.ofChange fnExactDoomedWrong)

/-- 'laws.FnExactPartWake': WHATEVER THE INPUT: true; the input reads as it did. -/
def fnExactPartWakeSpec : ChangeSpec := { name := "fnExactPartWake", fn := fun _ => fun
  | [d1, d2, d3] => { results := [.lit (.bool true)], args := [d1, d2, d3] }
  | _ => none }
def fnExactPartWakeRow : OpenClaim := { program := "ytfllimolhpblnaagreat", sum := "5752e8112f3a4aba1355dc63e5b756a194a4c8cad361a35cd832a36f2c10be11", func := "loop.example/g01287/laws.FnExactPartWake", spec := "fnExactPartWake", apart := false }
def FnExactPartWakeSaid : Prop := fnExactPartWakeRow.holds Tryz.pinned (OpenSpec.ofChange fnExactPartWakeSpec)

/-- ITS FALSE NEIGHBOUR: 'it returns false'. Refute it at one input. -/
def fnExactPartWakeWrong : ChangeSpec := { name := "fnExactPartWake", fn := fun _ => fun
  | [d1, d2, d3] => { results := [.lit (.bool false)], args := [d1, d2, d3] }
  | _ => none }
def FnExactPartWakeWrongFalsely : Prop := fnExactPartWakeRow.holds Tryz.pinned (OpenSpec.ofChange fnExactPartWakeWrong)

/-- 'laws.FnExactPartKill': WHATEVER THE INPUT: true; the input reads as it did. -/
def fnExactPartKillSpec : ChangeSpec := { name := "fnExactPartKill", fn := fun _ => fun
  | [d1, d2] => { results := [.lit (.bool true)], args := [d1, d2] }
  | _ => none }
def fnExactPartKillRow : OpenClaim := { program := "ytfllimolhpblnaagreat", sum := "5752e8112f3a4aba1355dc63e5b756a194a4c8cad361a35cd832a36f2c10be11", func := "loop.example/g01287/laws.FnExactPartKill", spec := "fnExactPartKill", apart := false }
def FnExactPartKillSaid : Prop := fnExactPartKillRow.holds Tryz.pinned (OpenSpec.ofChange fnExactPartKillSpec)

/-- ITS FALSE NEIGHBOUR: 'it returns false'. Refute it at one input. -/
def fnExactPartKillWrong : ChangeSpec := { name := "fnExactPartKill", fn := fun _ => fun
  | [d1, d2] => { results := [.lit (.bool false)], args := [d1, d2] }
  | _ => none }
def FnExactPartKillWrongFalsely : Prop := fnExactPartKillRow.holds Tryz.pinned (OpenSpec.ofChange fnExactPartKillWrong)

/-- 'laws.FnExactPartRun': WHATEVER THE INPUT: true; the input reads as it did. -/
def fnExactPartRunSpec : ChangeSpec := { name := "fnExactPartRun", fn := fun _ => fun
  | [d1, d2] => { results := [.lit (.bool true)], args := [d1, d2] }
  | _ => none }
def fnExactPartRunRow : OpenClaim := { program := "ytfllimolhpblnaagreat", sum := "5752e8112f3a4aba1355dc63e5b756a194a4c8cad361a35cd832a36f2c10be11", func := "loop.example/g01287/laws.FnExactPartRun", spec := "fnExactPartRun", apart := false }
def FnExactPartRunSaid : Prop := fnExactPartRunRow.holds Tryz.pinned (OpenSpec.ofChange fnExactPartRunSpec)

/-- ITS FALSE NEIGHBOUR: 'it returns false'. Refute it at one input. -/
def fnExactPartRunWrong : ChangeSpec := { name := "fnExactPartRun", fn := fun _ => fun
  | [d1, d2] => { results := [.lit (.bool false)], args := [d1, d2] }
  | _ => none }
def FnExactPartRunWrongFalsely : Prop := fnExactPartRunRow.holds Tryz.pinned (OpenSpec.ofChange fnExactPartRunWrong)

/-- 'laws.FnExactPartCollect': WHATEVER THE INPUT: true; the input reads as it did. -/
def fnExactPartCollectSpec : ChangeSpec := { name := "fnExactPartCollect", fn := fun _ => fun
  | [d1, d2, d3] => { results := [.lit (.bool true)], args := [d1, d2, d3] }
  | _ => none }
def fnExactPartCollectRow : OpenClaim := { program := "ytfllimolhpblnaagreat", sum := "5752e8112f3a4aba1355dc63e5b756a194a4c8cad361a35cd832a36f2c10be11", func := "loop.example/g01287/laws.FnExactPartCollect", spec := "fnExactPartCollect", apart := false }
def FnExactPartCollectSaid : Prop := fnExactPartCollectRow.holds Tryz.pinned (OpenSpec.ofChange fnExactPartCollectSpec)

/-- ITS FALSE NEIGHBOUR: 'it returns false'. Refute it at one input. -/
def fnExactPartCollectWrong : ChangeSpec := { name := "fnExactPartCollect", fn := fun _ => fun
  | [d1, d2, d3] => { results := [.lit (.bool false)], args := [d1, d2, d3] }
  | _ => none }
def FnExactPartCollectWrongFalsely : Prop := fnExactPartCollectRow.holds Tryz.pinned (OpenSpec.ofChange fnExactPartCollectWrong)

/-- 'laws.FnExactPartTaps': WHATEVER THE INPUT: true; the input reads as it did. -/
def fnExactPartTapsSpec : ChangeSpec := { name := "fnExactPartTaps", fn := fun _ => fun
  | [d1, d2] => { results := [.lit (.bool true)], args := [d1, d2] }
  | _ => none }
def fnExactPartTapsRow : OpenClaim := { program := "ytfllimolhpblnaagreat", sum := "5752e8112f3a4aba1355dc63e5b756a194a4c8cad361a35cd832a36f2c10be11", func := "loop.example/g01287/laws.FnExactPartTaps", spec := "fnExactPartTaps", apart := false }
def FnExactPartTapsSaid : Prop := fnExactPartTapsRow.holds Tryz.pinned (OpenSpec.ofChange fnExactPartTapsSpec)

/-- ITS FALSE NEIGHBOUR: 'it returns false'. Refute it at one input. -/
def fnExactPartTapsWrong : ChangeSpec := { name := "fnExactPartTaps", fn := fun _ => fun
  | [d1, d2] => { results := [.lit (.bool false)], args := [d1, d2] }
  | _ => none }
def FnExactPartTapsWrongFalsely : Prop := fnExactPartTapsRow.holds Tryz.pinned (OpenSpec.ofChange fnExactPartTapsWrong)

/- THE SECOND FORM. 'bulk': how many values and letters a reading holds, each counted each time it is reached (what is shared counts as often as it is met; a slice's spare places count too). A statement '..UptoSaid' is the law's where the arguments, and the package variables that the reading takes, are together of bulk at most 1048576: NARROWER than '..Said'. Prove '..Said' where nothing that the law and all that it calls make is longer than what came in: it says more and counts as full. Else prove '..UptoSaid'. A law counts once. -/
mutual
def uptoBulk {H : Type} : DataW H → Nat
  | .lit (.string bytes) => bytes.length + 1
  | .lit _ => 1
  | .nil => 1
  | .ptr d => uptoBulk d + 1
  | .slice elems spare => uptoBulkAll elems + uptoBulkAll spare + 1
  | .agg parts => uptoBulkAll parts + 1
  | .iface _ d => uptoBulk d + 1
  | .map entries => uptoBulkEntries entries + 1
  | .held _ => 1
def uptoBulkAll {H : Type} : List (DataW H) → Nat
  | [] => 0
  | d :: r => uptoBulk d + uptoBulkAll r
def uptoBulkEntries {H : Type} : List (Lit × DataW H) → Nat
  | [] => 0
  | x :: r => uptoBulkEntry x + uptoBulkEntries r
def uptoBulkEntry {H : Type} : Lit × DataW H → Nat
  | (.string bytes, d) => bytes.length + uptoBulk d + 1
  | (_, d) => uptoBulk d + 1
 end
def uptoSmall : (H : Type) → List (DataW H) → Bool := fun _ ds => decide (uptoBulkAll ds ≤ 1048576)
def OpenSpec.upto (s : _root_.Go.ChangeSpec) : _root_.Go.OpenSpec := { _root_.Go.OpenSpec.ofChange s with cond := some uptoSmall }

/-- 'laws.FnExactOwning', WHERE WHAT IT READS IS OF BULK AT MOST 1048576: true; the input reads as it did. -/
def fnExactOwningUptoRow : OpenClaim := { program := "ytfllimolhpblnaagreat", sum := "5752e8112f3a4aba1355dc63e5b756a194a4c8cad361a35cd832a36f2c10be11", func := "loop.example/g01287/laws.FnExactOwning", spec := "fnExactOwning", apart := false, narrowed := true }
def FnExactOwningUptoSaid : Prop := fnExactOwningUptoRow.holds Tryz.pinned (OpenSpec.upto fnExactOwningSpec)

/-- 'laws.FnExactDoomed', WHERE WHAT IT READS IS OF BULK AT MOST 1048576: true; the input reads as it did. -/
def fnExactDoomedUptoRow : OpenClaim := { program := "ytfllimolhpblnaagreat", sum := "5752e8112f3a4aba1355dc63e5b756a194a4c8cad361a35cd832a36f2c10be11", func := "loop.example/g01287/laws.FnExactDoomed", spec := "fnExactDoomed", apart := false, narrowed := true }
def FnExactDoomedUptoSaid : Prop := fnExactDoomedUptoRow.holds Tryz.pinned (OpenSpec.upto fnExactDoomedSpec)

/-- 'laws.FnExactPartWake', WHERE WHAT IT READS IS OF BULK AT MOST 1048576: true; the input reads as it did. -/
def fnExactPartWakeUptoRow : OpenClaim := { program := "ytfllimolhpblnaagreat", sum := "5752e8112f3a4aba1355dc63e5b756a194a4c8cad361a35cd832a36f2c10be11", func := "loop.example/g01287/laws.FnExactPartWake", spec := "fnExactPartWake", apart := false, narrowed := true }
def FnExactPartWakeUptoSaid : Prop := fnExactPartWakeUptoRow.holds Tryz.pinned (OpenSpec.upto fnExactPartWakeSpec)

/-- 'laws.FnExactPartKill', WHERE WHAT IT READS IS OF BULK AT MOST 1048576: true; the input reads as it did. -/
def fnExactPartKillUptoRow : OpenClaim := { program := "ytfllimolhpblnaagreat", sum := "5752e8112f3a4aba1355dc63e5b756a194a4c8cad361a35cd832a36f2c10be11", func := "loop.example/g01287/laws.FnExactPartKill", spec := "fnExactPartKill", apart := false, narrowed := true }
def FnExactPartKillUptoSaid : Prop := fnExactPartKillUptoRow.holds Tryz.pinned (OpenSpec.upto fnExactPartKillSpec)

/-- 'laws.FnExactPartRun', WHERE WHAT IT READS IS OF BULK AT MOST 1048576: true; the input reads as it did. -/
def fnExactPartRunUptoRow : OpenClaim := { program := "ytfllimolhpblnaagreat", sum := "5752e8112f3a4aba1355dc63e5b756a194a4c8cad361a35cd832a36f2c10be11", func := "loop.example/g01287/laws.FnExactPartRun", spec := "fnExactPartRun", apart := false, narrowed := true }
def FnExactPartRunUptoSaid : Prop := fnExactPartRunUptoRow.holds Tryz.pinned (OpenSpec.upto fnExactPartRunSpec)

/-- 'laws.FnExactPartCollect', WHERE WHAT IT READS IS OF BULK AT MOST 1048576: true; the input reads as it did. -/
def fnExactPartCollectUptoRow : OpenClaim := { program := "ytfllimolhpblnaagreat", sum := "5752e8112f3a4aba1355dc63e5b756a194a4c8cad361a35cd832a36f2c10be11", func := "loop.example/g01287/laws.FnExactPartCollect", spec := "fnExactPartCollect", apart := false, narrowed := true }
def FnExactPartCollectUptoSaid : Prop := fnExactPartCollectUptoRow.holds Tryz.pinned (OpenSpec.upto fnExactPartCollectSpec)

/-- 'laws.FnExactPartTaps', WHERE WHAT IT READS IS OF BULK AT MOST 1048576: true; the input reads as it did. -/
def fnExactPartTapsUptoRow : OpenClaim := { program := "ytfllimolhpblnaagreat", sum := "5752e8112f3a4aba1355dc63e5b756a194a4c8cad361a35cd832a36f2c10be11", func := "loop.example/g01287/laws.FnExactPartTaps", spec := "fnExactPartTaps", apart := false, narrowed := true }
def FnExactPartTapsUptoSaid : Prop := fnExactPartTapsUptoRow.holds Tryz.pinned (OpenSpec.upto fnExactPartTapsSpec)

end Rows
end Go.Proofs.YtfllimolhpblnaaGreat
