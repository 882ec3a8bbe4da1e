/- How arguments of each type open as plain data. Printed by genrow.py. -/
import Derived.Test.YtecnkfamlpjbgaaProg
import Derived.Test.YtecnkfamlpjbgaaRow
namespace Go.Kx
open Go Go.RowKit Go.Proofs
set_option linter.unusedVariables false
set_option linter.unusedSimpArgs false
set_option maxRecDepth 100000
theorem op3 : Op Try.prog 3 Int := Op.int Try.underlying3
theorem cl3 : Program.cellsOf Try.prog 3 = 1 := by kernel_rfl
theorem ops47 : OpS Try.prog 47 Int := OpS.of Try.underlying47 cl3 op3
theorem cl47 : Program.cellsOf Try.prog 47 = 1 := by kernel_rfl
theorem cl49 : Program.cellsOf Try.prog 49 = 1 := by kernel_rfl
theorem op49 : Op Try.prog 49 DLabel := by
  intro H enc W base sp held n cs x h
  obtain ⟨xs, n, rfl, rfl, hl, hx, hf⟩ := DataW.trod_struct Try.underlying49 h
  obtain ⟨a0, c0, x0, e0, r0, ft0⟩ := ops47.fld cl47 (by rw [hx]; decide) (hf 0 _ rfl)
  exact ⟨DLabel.mk x0, ⟨a0, c0, (join1 e0 (dnil hl cl49)), r0⟩, ft0⟩
theorem cl71 : Program.cellsOf Try.prog 71 = 3 := by kernel_rfl
theorem op71 : Op Try.prog 71 DAmt := by
  intro H enc W base sp held n cs x h
  obtain ⟨xs, n, rfl, rfl, hl, hx, hf⟩ := DataW.trod_struct Try.underlying71 h
  obtain ⟨x0, e0, ft0⟩ := op3.fld cl3 (by rw [hx]; decide) (hf 0 _ rfl)
  obtain ⟨x1, e1, ft1⟩ := op3.fld cl3 (by rw [hx]; decide) (hf 1 _ rfl)
  obtain ⟨x2, e2, ft2⟩ := op3.fld cl3 (by rw [hx]; decide) (hf 2 _ rfl)
  exact ⟨DAmt.mk x0 x1 x2, (join1 e0 (join1 e1 (join1 e2 (dnil hl cl71)))), (And.intro ft0 (And.intro ft1 ft2))⟩
theorem cl73 : Program.cellsOf Try.prog 73 = 5 := by kernel_rfl
theorem op73 : Op Try.prog 73 DBoot := by
  intro H enc W base sp held n cs x h
  obtain ⟨xs, n, rfl, rfl, hl, hx, hf⟩ := DataW.trod_struct Try.underlying73 h
  obtain ⟨x0, e0, ft0⟩ := op49.fld cl49 (by rw [hx]; decide) (hf 0 _ rfl)
  obtain ⟨a0_0, c0_0, e0, r0_0⟩ := e0
  obtain ⟨a1, c1, x1, e1, r1, ft1⟩ := ops47.fld cl47 (by rw [hx]; decide) (hf 1 _ rfl)
  obtain ⟨x2, e2, ft2⟩ := op71.fld cl71 (by rw [hx]; decide) (hf 2 _ rfl)
  exact ⟨DBoot.mk x0 x1 x2, ⟨a0_0, c0_0, a1, c1, (join1 e0 (join1 e1 (join1 e2 (dnil hl cl73)))), r0_0, r1⟩, (And.intro ft0 (And.intro ft1 ft2))⟩
theorem ops36 : OpS Try.prog 36 DBoot := OpS.of Try.underlying36 cl73 op73
theorem cl44 : Program.cellsOf Try.prog 44 = 6 := by kernel_rfl
theorem op44 : Op Try.prog 44 DCall := by
  intro H enc W base sp held n cs x h
  obtain ⟨xs, n, rfl, rfl, hl, hx, hf⟩ := DataW.trod_struct Try.underlying44 h
  obtain ⟨x0, e0, ft0⟩ := op3.fld cl3 (by rw [hx]; decide) (hf 0 _ rfl)
  obtain ⟨x1, e1, ft1⟩ := op3.fld cl3 (by rw [hx]; decide) (hf 1 _ rfl)
  obtain ⟨x2, e2, ft2⟩ := op3.fld cl3 (by rw [hx]; decide) (hf 2 _ rfl)
  obtain ⟨x3, e3, ft3⟩ := op3.fld cl3 (by rw [hx]; decide) (hf 3 _ rfl)
  obtain ⟨x4, e4, ft4⟩ := op3.fld cl3 (by rw [hx]; decide) (hf 4 _ rfl)
  obtain ⟨x5, e5, ft5⟩ := op3.fld cl3 (by rw [hx]; decide) (hf 5 _ rfl)
  exact ⟨DCall.mk x0 x1 x2 x3 x4 x5, (join1 e0 (join1 e1 (join1 e2 (join1 e3 (join1 e4 (join1 e5 (dnil hl cl44))))))), (And.intro ft0 (And.intro ft1 (And.intro ft2 (And.intro ft3 (And.intro ft4 ft5)))))⟩
theorem cl46 : Program.cellsOf Try.prog 46 = 9 := by kernel_rfl
theorem op46 : Op Try.prog 46 DEntry := by
  intro H enc W base sp held n cs x h
  obtain ⟨xs, n, rfl, rfl, hl, hx, hf⟩ := DataW.trod_struct Try.underlying46 h
  obtain ⟨x0, e0, ft0⟩ := op3.fld cl3 (by rw [hx]; decide) (hf 0 _ rfl)
  obtain ⟨x1, e1, ft1⟩ := op3.fld cl3 (by rw [hx]; decide) (hf 1 _ rfl)
  obtain ⟨x2, e2, ft2⟩ := op3.fld cl3 (by rw [hx]; decide) (hf 2 _ rfl)
  obtain ⟨x3, e3, ft3⟩ := op44.fld cl44 (by rw [hx]; decide) (hf 3 _ rfl)
  exact ⟨DEntry.mk x0 x1 x2 x3, (join1 e0 (join1 e1 (join1 e2 (join1 e3 (dnil hl cl46))))), (And.intro ft0 (And.intro ft1 (And.intro ft2 ft3)))⟩
end Go.Kx
