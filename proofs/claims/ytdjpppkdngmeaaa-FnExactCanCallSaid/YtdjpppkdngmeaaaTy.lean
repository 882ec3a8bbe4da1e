/- How arguments of each type open as plain data. Printed by genrow.py. -/
import Derived.Test.YtdjpppkdngmeaaaProg
import Derived.Test.YtdjpppkdngmeaaaRow
namespace Go.Kx
open Go Go.RowKit Go.Proofs
set_option linter.unusedVariables false
set_option linter.unusedSimpArgs false
set_option maxRecDepth 100000
theorem op3 : Op Try.prog 3 Int := Op.int Try.underlying3
theorem cl3 : Program.cellsOf Try.prog 3 = 1 := by kernel_rfl
theorem ops24 : OpS Try.prog 24 Int := OpS.of Try.underlying24 cl3 op3
theorem cl24 : Program.cellsOf Try.prog 24 = 1 := by kernel_rfl
theorem cl26 : Program.cellsOf Try.prog 26 = 1 := by kernel_rfl
theorem op26 : Op Try.prog 26 DLabel := by
  intro H enc W base sp held n cs x h
  obtain ⟨xs, n, rfl, rfl, hl, hx, hf⟩ := DataW.trod_struct Try.underlying26 h
  obtain ⟨a0, c0, x0, e0, r0, ft0⟩ := ops24.fld cl24 (by rw [hx]; decide) (hf 0 _ rfl)
  exact ⟨DLabel.mk x0, ⟨a0, c0, (join1 e0 (dnil hl cl26)), r0⟩, ft0⟩
theorem op4 : Op Try.prog 4 Bool := Op.bool Try.underlying4
theorem cl4 : Program.cellsOf Try.prog 4 = 1 := by kernel_rfl
theorem cl62 : Program.cellsOf Try.prog 62 = 3 := by kernel_rfl
theorem op62 : Op Try.prog 62 DAmt := by
  intro H enc W base sp held n cs x h
  obtain ⟨xs, n, rfl, rfl, hl, hx, hf⟩ := DataW.trod_struct Try.underlying62 h
  obtain ⟨x0, e0, ft0⟩ := op3.fld cl3 (by rw [hx]; decide) (hf 0 _ rfl)
  obtain ⟨x1, e1, ft1⟩ := op3.fld cl3 (by rw [hx]; decide) (hf 1 _ rfl)
  obtain ⟨x2, e2, ft2⟩ := op3.fld cl3 (by rw [hx]; decide) (hf 2 _ rfl)
  exact ⟨DAmt.mk x0 x1 x2, (join1 e0 (join1 e1 (join1 e2 (dnil hl cl62)))), (And.intro ft0 (And.intro ft1 ft2))⟩
theorem cl166 : Program.cellsOf Try.prog 166 = 5 := by kernel_rfl
theorem op166 : Op Try.prog 166 DRes := by
  intro H enc W base sp held n cs x h
  obtain ⟨xs, n, rfl, rfl, hl, hx, hf⟩ := DataW.trod_struct Try.underlying166 h
  obtain ⟨x0, e0, ft0⟩ := op4.fld cl4 (by rw [hx]; decide) (hf 0 _ rfl)
  obtain ⟨x1, e1, ft1⟩ := op3.fld cl3 (by rw [hx]; decide) (hf 1 _ rfl)
  obtain ⟨x2, e2, ft2⟩ := op62.fld cl62 (by rw [hx]; decide) (hf 2 _ rfl)
  exact ⟨DRes.mk x0 x1 x2, (join1 e0 (join1 e1 (join1 e2 (dnil hl cl166)))), (And.intro ft0 (And.intro ft1 ft2))⟩
theorem ops54 : OpS Try.prog 54 DRes := OpS.of Try.underlying54 cl166 op166
theorem cl54 : Program.cellsOf Try.prog 54 = 1 := by kernel_rfl
theorem cl206 : Program.cellsOf Try.prog 206 = 2 := by kernel_rfl
theorem op206 : Op Try.prog 206 DMsg := by
  intro H enc W base sp held n cs x h
  obtain ⟨xs, n, rfl, rfl, hl, hx, hf⟩ := DataW.trod_struct Try.underlying206 h
  obtain ⟨x0, e0, ft0⟩ := op3.fld cl3 (by rw [hx]; decide) (hf 0 _ rfl)
  obtain ⟨x1, e1, ft1⟩ := op3.fld cl3 (by rw [hx]; decide) (hf 1 _ rfl)
  exact ⟨DMsg.mk x0 x1, (join1 e0 (join1 e1 (dnil hl cl206))), (And.intro ft0 ft1)⟩
theorem ops189 : OpS Try.prog 189 DMsg := OpS.of Try.underlying189 cl206 op206
theorem cl189 : Program.cellsOf Try.prog 189 = 1 := by kernel_rfl
theorem cl191 : Program.cellsOf Try.prog 191 = 13 := by kernel_rfl
theorem op191 : Op Try.prog 191 DObj := by
  intro H enc W base sp held n cs x h
  obtain ⟨xs, n, rfl, rfl, hl, hx, hf⟩ := DataW.trod_struct Try.underlying191 h
  obtain ⟨x0, e0, ft0⟩ := op3.fld cl3 (by rw [hx]; decide) (hf 0 _ rfl)
  obtain ⟨x1, e1, ft1⟩ := op3.fld cl3 (by rw [hx]; decide) (hf 1 _ rfl)
  obtain ⟨x2, e2, ft2⟩ := op3.fld cl3 (by rw [hx]; decide) (hf 2 _ rfl)
  obtain ⟨x3, e3, ft3⟩ := op3.fld cl3 (by rw [hx]; decide) (hf 3 _ rfl)
  obtain ⟨x4, e4, ft4⟩ := op3.fld cl3 (by rw [hx]; decide) (hf 4 _ rfl)
  obtain ⟨x5, e5, ft5⟩ := op3.fld cl3 (by rw [hx]; decide) (hf 5 _ rfl)
  obtain ⟨x6, e6, ft6⟩ := op3.fld cl3 (by rw [hx]; decide) (hf 6 _ rfl)
  obtain ⟨x7, e7, ft7⟩ := op3.fld cl3 (by rw [hx]; decide) (hf 7 _ rfl)
  obtain ⟨x8, e8, ft8⟩ := op3.fld cl3 (by rw [hx]; decide) (hf 8 _ rfl)
  obtain ⟨x9, e9, ft9⟩ := op4.fld cl4 (by rw [hx]; decide) (hf 9 _ rfl)
  obtain ⟨a10, c10, x10, e10, r10, ft10⟩ := ops24.fld cl24 (by rw [hx]; decide) (hf 10 _ rfl)
  obtain ⟨a11, c11, x11, e11, r11, ft11⟩ := ops24.fld cl24 (by rw [hx]; decide) (hf 11 _ rfl)
  obtain ⟨a12, c12, x12, e12, r12, ft12⟩ := ops189.fld cl189 (by rw [hx]; decide) (hf 12 _ rfl)
  exact ⟨DObj.mk x0 x1 x2 x3 x4 x5 x6 x7 x8 x9 x10 x11 x12, ⟨a10, c10, a11, c11, a12, c12, (join1 e0 (join1 e1 (join1 e2 (join1 e3 (join1 e4 (join1 e5 (join1 e6 (join1 e7 (join1 e8 (join1 e9 (join1 e10 (join1 e11 (join1 e12 (dnil hl cl191)))))))))))))), r10, r11, r12⟩, (And.intro ft0 (And.intro ft1 (And.intro ft2 (And.intro ft3 (And.intro ft4 (And.intro ft5 (And.intro ft6 (And.intro ft7 (And.intro ft8 (And.intro ft9 (And.intro ft10 (And.intro ft11 ft12))))))))))))⟩
theorem ops55 : OpS Try.prog 55 DObj := OpS.of Try.underlying55 cl191 op191
theorem cl55 : Program.cellsOf Try.prog 55 = 1 := by kernel_rfl
theorem cl57 : Program.cellsOf Try.prog 57 = 4 := by kernel_rfl
theorem op57 : Op Try.prog 57 DGc := by
  intro H enc W base sp held n cs x h
  obtain ⟨xs, n, rfl, rfl, hl, hx, hf⟩ := DataW.trod_struct Try.underlying57 h
  obtain ⟨x0, e0, ft0⟩ := op3.fld cl3 (by rw [hx]; decide) (hf 0 _ rfl)
  obtain ⟨x1, e1, ft1⟩ := op3.fld cl3 (by rw [hx]; decide) (hf 1 _ rfl)
  obtain ⟨x2, e2, ft2⟩ := op3.fld cl3 (by rw [hx]; decide) (hf 2 _ rfl)
  obtain ⟨a3, c3, x3, e3, r3, ft3⟩ := ops24.fld cl24 (by rw [hx]; decide) (hf 3 _ rfl)
  exact ⟨DGc.mk x0 x1 x2 x3, ⟨a3, c3, (join1 e0 (join1 e1 (join1 e2 (join1 e3 (dnil hl cl57))))), r3⟩, (And.intro ft0 (And.intro ft1 (And.intro ft2 ft3)))⟩
theorem cl59 : Program.cellsOf Try.prog 59 = 5 := by kernel_rfl
theorem op59 : Op Try.prog 59 DHeap := by
  intro H enc W base sp held n cs x h
  obtain ⟨xs, n, rfl, rfl, hl, hx, hf⟩ := DataW.trod_struct Try.underlying59 h
  obtain ⟨a0, c0, x0, e0, r0, ft0⟩ := ops55.fld cl55 (by rw [hx]; decide) (hf 0 _ rfl)
  obtain ⟨x1, e1, ft1⟩ := op57.fld cl57 (by rw [hx]; decide) (hf 1 _ rfl)
  obtain ⟨a1_3, c1_3, e1, r1_3⟩ := e1
  exact ⟨DHeap.mk x0 x1, ⟨a0, c0, a1_3, c1_3, (join1 e0 (join1 e1 (dnil hl cl59))), r0, r1_3⟩, (And.intro ft0 ft1)⟩
theorem cl170 : Program.cellsOf Try.prog 170 = 6 := by kernel_rfl
theorem op170 : Op Try.prog 170 DTap := by
  intro H enc W base sp held n cs x h
  obtain ⟨xs, n, rfl, rfl, hl, hx, hf⟩ := DataW.trod_struct Try.underlying170 h
  obtain ⟨x0, e0, ft0⟩ := op3.fld cl3 (by rw [hx]; decide) (hf 0 _ rfl)
  obtain ⟨x1, e1, ft1⟩ := op3.fld cl3 (by rw [hx]; decide) (hf 1 _ rfl)
  obtain ⟨x2, e2, ft2⟩ := op3.fld cl3 (by rw [hx]; decide) (hf 2 _ rfl)
  obtain ⟨x3, e3, ft3⟩ := op3.fld cl3 (by rw [hx]; decide) (hf 3 _ rfl)
  obtain ⟨x4, e4, ft4⟩ := op3.fld cl3 (by rw [hx]; decide) (hf 4 _ rfl)
  obtain ⟨x5, e5, ft5⟩ := op3.fld cl3 (by rw [hx]; decide) (hf 5 _ rfl)
  exact ⟨DTap.mk x0 x1 x2 x3 x4 x5, (join1 e0 (join1 e1 (join1 e2 (join1 e3 (join1 e4 (join1 e5 (dnil hl cl170))))))), (And.intro ft0 (And.intro ft1 (And.intro ft2 (And.intro ft3 (And.intro ft4 ft5)))))⟩
theorem ops60 : OpS Try.prog 60 DTap := OpS.of Try.underlying60 cl170 op170
theorem cl60 : Program.cellsOf Try.prog 60 = 1 := by kernel_rfl
theorem cl64 : Program.cellsOf Try.prog 64 = 16 := by kernel_rfl
theorem op64 : Op Try.prog 64 DPart := by
  intro H enc W base sp held n cs x h
  obtain ⟨xs, n, rfl, rfl, hl, hx, hf⟩ := DataW.trod_struct Try.underlying64 h
  obtain ⟨x0, e0, ft0⟩ := op26.fld cl26 (by rw [hx]; decide) (hf 0 _ rfl)
  obtain ⟨a0_0, c0_0, e0, r0_0⟩ := e0
  obtain ⟨a1, c1, x1, e1, r1, ft1⟩ := ops24.fld cl24 (by rw [hx]; decide) (hf 1 _ rfl)
  obtain ⟨a2, c2, x2, e2, r2, ft2⟩ := ops54.fld cl54 (by rw [hx]; decide) (hf 2 _ rfl)
  obtain ⟨x3, e3, ft3⟩ := op59.fld cl59 (by rw [hx]; decide) (hf 3 _ rfl)
  obtain ⟨a3_0, c3_0, a3_4, c3_4, e3, r3_0, r3_4⟩ := e3
  obtain ⟨a4, c4, x4, e4, r4, ft4⟩ := ops60.fld cl60 (by rw [hx]; decide) (hf 4 _ rfl)
  obtain ⟨x5, e5, ft5⟩ := op3.fld cl3 (by rw [hx]; decide) (hf 5 _ rfl)
  obtain ⟨x6, e6, ft6⟩ := op3.fld cl3 (by rw [hx]; decide) (hf 6 _ rfl)
  obtain ⟨x7, e7, ft7⟩ := op62.fld cl62 (by rw [hx]; decide) (hf 7 _ rfl)
  obtain ⟨x8, e8, ft8⟩ := op3.fld cl3 (by rw [hx]; decide) (hf 8 _ rfl)
  obtain ⟨x9, e9, ft9⟩ := op3.fld cl3 (by rw [hx]; decide) (hf 9 _ rfl)
  exact ⟨DPart.mk x0 x1 x2 x3 x4 x5 x6 x7 x8 x9, ⟨a0_0, c0_0, a1, c1, a2, c2, a3_0, c3_0, a3_4, c3_4, a4, c4, (join1 e0 (join1 e1 (join1 e2 (join1 e3 (join1 e4 (join1 e5 (join1 e6 (join1 e7 (join1 e8 (join1 e9 (dnil hl cl64))))))))))), r0_0, r1, r2, r3_0, r3_4, r4⟩, (And.intro ft0 (And.intro ft1 (And.intro ft2 (And.intro ft3 (And.intro ft4 (And.intro ft5 (And.intro ft6 (And.intro ft7 (And.intro ft8 ft9)))))))))⟩
theorem ops44 : OpS Try.prog 44 DPart := OpS.of Try.underlying44 cl64 op64
theorem cl44 : Program.cellsOf Try.prog 44 = 1 := by kernel_rfl
theorem cl46 : Program.cellsOf Try.prog 46 = 2 := by kernel_rfl
theorem op46 : Op Try.prog 46 DWorld := by
  intro H enc W base sp held n cs x h
  obtain ⟨xs, n, rfl, rfl, hl, hx, hf⟩ := DataW.trod_struct Try.underlying46 h
  obtain ⟨x0, e0, ft0⟩ := op3.fld cl3 (by rw [hx]; decide) (hf 0 _ rfl)
  obtain ⟨a1, c1, x1, e1, r1, ft1⟩ := ops44.fld cl44 (by rw [hx]; decide) (hf 1 _ rfl)
  exact ⟨DWorld.mk x0 x1, ⟨a1, c1, (join1 e0 (join1 e1 (dnil hl cl46))), r1⟩, (And.intro ft0 ft1)⟩
end Go.Kx
