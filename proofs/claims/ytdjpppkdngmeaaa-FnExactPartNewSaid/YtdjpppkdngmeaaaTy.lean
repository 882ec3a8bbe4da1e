/- How arguments of each type open as plain data. Printed by genrow.py. -/
import Derived.Test.YtdjpppkdngmeaaaProg
import Derived.Test.YtdjpppkdngmeaaaRow
namespace Go.Kx
open Go Go.RowKit Go.Proofs
set_option linter.unusedVariables false
set_option linter.unusedSimpArgs false
set_option maxRecDepth 100000
theorem op3 : Op Try.prog 3 Int := Op.int Try.underlying3
theorem cl3 : Program.cellsOf Try.prog 3 = 1 := by kernel_rfl
theorem ops24 : OpS Try.prog 24 Int := OpS.of Try.underlying24 cl3 op3
theorem cl24 : Program.cellsOf Try.prog 24 = 1 := by kernel_rfl
theorem cl26 : Program.cellsOf Try.prog 26 = 1 := by kernel_rfl
theorem op26 : Op Try.prog 26 DLabel := by
  intro H enc W base sp held n cs x h
  obtain ⟨xs, n, rfl, rfl, hl, hx, hf⟩ := DataW.trod_struct Try.underlying26 h
  obtain ⟨a0, c0, x0, e0, r0, ft0⟩ := ops24.fld cl24 (by rw [hx]; decide) (hf 0 _ rfl)
  exact ⟨DLabel.mk x0, ⟨a0, c0, (join1 e0 (dnil hl cl26)), r0⟩, ft0⟩
theorem cl62 : Program.cellsOf Try.prog 62 = 3 := by kernel_rfl
theorem op62 : Op Try.prog 62 DAmt := by
  intro H enc W base sp held n cs x h
  obtain ⟨xs, n, rfl, rfl, hl, hx, hf⟩ := DataW.trod_struct Try.underlying62 h
  obtain ⟨x0, e0, ft0⟩ := op3.fld cl3 (by rw [hx]; decide) (hf 0 _ rfl)
  obtain ⟨x1, e1, ft1⟩ := op3.fld cl3 (by rw [hx]; decide) (hf 1 _ rfl)
  obtain ⟨x2, e2, ft2⟩ := op3.fld cl3 (by rw [hx]; decide) (hf 2 _ rfl)
  exact ⟨DAmt.mk x0 x1 x2, (join1 e0 (join1 e1 (join1 e2 (dnil hl cl62)))), (And.intro ft0 (And.intro ft1 ft2))⟩
theorem cl89 : Program.cellsOf Try.prog 89 = 5 := by kernel_rfl
theorem op89 : Op Try.prog 89 DBoot := by
  intro H enc W base sp held n cs x h
  obtain ⟨xs, n, rfl, rfl, hl, hx, hf⟩ := DataW.trod_struct Try.underlying89 h
  obtain ⟨x0, e0, ft0⟩ := op26.fld cl26 (by rw [hx]; decide) (hf 0 _ rfl)
  obtain ⟨a0_0, c0_0, e0, r0_0⟩ := e0
  obtain ⟨a1, c1, x1, e1, r1, ft1⟩ := ops24.fld cl24 (by rw [hx]; decide) (hf 1 _ rfl)
  obtain ⟨x2, e2, ft2⟩ := op62.fld cl62 (by rw [hx]; decide) (hf 2 _ rfl)
  exact ⟨DBoot.mk x0 x1 x2, ⟨a0_0, c0_0, a1, c1, (join1 e0 (join1 e1 (join1 e2 (dnil hl cl89)))), r0_0, r1⟩, (And.intro ft0 (And.intro ft1 ft2))⟩
end Go.Kx
