/- How arguments of each type open as plain data. Printed by genrow.py. -/
import Derived.Test.YtoboopmbcaglcaaProg
import Derived.Test.YtoboopmbcaglcaaRow
namespace Go.Kx
open Go Go.RowKit Go.Proofs
set_option linter.unusedVariables false
set_option linter.unusedSimpArgs false
set_option maxRecDepth 100000
theorem op3 : Op Try.prog 3 Int := Op.int Try.underlying3
theorem cl3 : Program.cellsOf Try.prog 3 = 1 := by kernel_rfl
theorem cl44 : Program.cellsOf Try.prog 44 = 6 := by kernel_rfl
theorem op44 : Op Try.prog 44 DCall := by
  intro H enc W base sp held n cs x h
  obtain ⟨xs, n, rfl, rfl, hl, hx, hf⟩ := DataW.trod_struct Try.underlying44 h
  obtain ⟨x0, e0⟩ := op3.fld cl3 (by rw [hx]; decide) (hf 0 _ rfl)
  obtain ⟨x1, e1⟩ := op3.fld cl3 (by rw [hx]; decide) (hf 1 _ rfl)
  obtain ⟨x2, e2⟩ := op3.fld cl3 (by rw [hx]; decide) (hf 2 _ rfl)
  obtain ⟨x3, e3⟩ := op3.fld cl3 (by rw [hx]; decide) (hf 3 _ rfl)
  obtain ⟨x4, e4⟩ := op3.fld cl3 (by rw [hx]; decide) (hf 4 _ rfl)
  obtain ⟨x5, e5⟩ := op3.fld cl3 (by rw [hx]; decide) (hf 5 _ rfl)
  exact ⟨DCall.mk x0 x1 x2 x3 x4 x5, (join1 e0 (join1 e1 (join1 e2 (join1 e3 (join1 e4 (join1 e5 (dnil hl cl44)))))))⟩
theorem cl46 : Program.cellsOf Try.prog 46 = 9 := by kernel_rfl
theorem op46 : Op Try.prog 46 DEntry := by
  intro H enc W base sp held n cs x h
  obtain ⟨xs, n, rfl, rfl, hl, hx, hf⟩ := DataW.trod_struct Try.underlying46 h
  obtain ⟨x0, e0⟩ := op3.fld cl3 (by rw [hx]; decide) (hf 0 _ rfl)
  obtain ⟨x1, e1⟩ := op3.fld cl3 (by rw [hx]; decide) (hf 1 _ rfl)
  obtain ⟨x2, e2⟩ := op3.fld cl3 (by rw [hx]; decide) (hf 2 _ rfl)
  obtain ⟨x3, e3⟩ := op44.fld cl44 (by rw [hx]; decide) (hf 3 _ rfl)
  exact ⟨DEntry.mk x0 x1 x2 x3, (join1 e0 (join1 e1 (join1 e2 (join1 e3 (dnil hl cl46)))))⟩
theorem ops29 : OpS Try.prog 29 DEntry := OpS.of Try.underlying29 cl46 op46
theorem ops47 : OpS Try.prog 47 Int := OpS.of Try.underlying47 cl3 op3
theorem cl47 : Program.cellsOf Try.prog 47 = 1 := by kernel_rfl
theorem cl49 : Program.cellsOf Try.prog 49 = 1 := by kernel_rfl
theorem op49 : Op Try.prog 49 DLabel := by
  intro H enc W base sp held n cs x h
  obtain ⟨xs, n, rfl, rfl, hl, hx, hf⟩ := DataW.trod_struct Try.underlying49 h
  obtain ⟨a0, c0, x0, e0, r0⟩ := ops47.fld cl47 (by rw [hx]; decide) (hf 0 _ rfl)
  exact ⟨DLabel.mk x0, a0, c0, (join1 e0 (dnil hl cl49)), r0⟩
theorem cl86 : Program.cellsOf Try.prog 86 = 3 := by kernel_rfl
theorem op86 : Op Try.prog 86 DAmt := by
  intro H enc W base sp held n cs x h
  obtain ⟨xs, n, rfl, rfl, hl, hx, hf⟩ := DataW.trod_struct Try.underlying86 h
  obtain ⟨x0, e0⟩ := op3.fld cl3 (by rw [hx]; decide) (hf 0 _ rfl)
  obtain ⟨x1, e1⟩ := op3.fld cl3 (by rw [hx]; decide) (hf 1 _ rfl)
  obtain ⟨x2, e2⟩ := op3.fld cl3 (by rw [hx]; decide) (hf 2 _ rfl)
  exact ⟨DAmt.mk x0 x1 x2, (join1 e0 (join1 e1 (join1 e2 (dnil hl cl86))))⟩
theorem cl111 : Program.cellsOf Try.prog 111 = 5 := by kernel_rfl
theorem op111 : Op Try.prog 111 DBoot := by
  intro H enc W base sp held n cs x h
  obtain ⟨xs, n, rfl, rfl, hl, hx, hf⟩ := DataW.trod_struct Try.underlying111 h
  obtain ⟨x0, e0⟩ := op49.fld cl49 (by rw [hx]; decide) (hf 0 _ rfl)
  obtain ⟨a0_0, c0_0, e0, r0_0⟩ := e0
  obtain ⟨a1, c1, x1, e1, r1⟩ := ops47.fld cl47 (by rw [hx]; decide) (hf 1 _ rfl)
  obtain ⟨x2, e2⟩ := op86.fld cl86 (by rw [hx]; decide) (hf 2 _ rfl)
  exact ⟨DBoot.mk x0 x1 x2, a0_0, c0_0, a1, c1, (join1 e0 (join1 e1 (join1 e2 (dnil hl cl111)))), r0_0, r1⟩
theorem ops36 : OpS Try.prog 36 DBoot := OpS.of Try.underlying36 cl111 op111
theorem op4 : Op Try.prog 4 Bool := Op.bool Try.underlying4
theorem cl4 : Program.cellsOf Try.prog 4 = 1 := by kernel_rfl
theorem cl185 : Program.cellsOf Try.prog 185 = 5 := by kernel_rfl
theorem op185 : Op Try.prog 185 DRes := by
  intro H enc W base sp held n cs x h
  obtain ⟨xs, n, rfl, rfl, hl, hx, hf⟩ := DataW.trod_struct Try.underlying185 h
  obtain ⟨x0, e0⟩ := op4.fld cl4 (by rw [hx]; decide) (hf 0 _ rfl)
  obtain ⟨x1, e1⟩ := op3.fld cl3 (by rw [hx]; decide) (hf 1 _ rfl)
  obtain ⟨x2, e2⟩ := op86.fld cl86 (by rw [hx]; decide) (hf 2 _ rfl)
  exact ⟨DRes.mk x0 x1 x2, (join1 e0 (join1 e1 (join1 e2 (dnil hl cl185))))⟩
theorem ops79 : OpS Try.prog 79 DRes := OpS.of Try.underlying79 cl185 op185
theorem cl79 : Program.cellsOf Try.prog 79 = 1 := by kernel_rfl
theorem cl224 : Program.cellsOf Try.prog 224 = 2 := by kernel_rfl
theorem op224 : Op Try.prog 224 DMsg := by
  intro H enc W base sp held n cs x h
  obtain ⟨xs, n, rfl, rfl, hl, hx, hf⟩ := DataW.trod_struct Try.underlying224 h
  obtain ⟨x0, e0⟩ := op3.fld cl3 (by rw [hx]; decide) (hf 0 _ rfl)
  obtain ⟨x1, e1⟩ := op3.fld cl3 (by rw [hx]; decide) (hf 1 _ rfl)
  exact ⟨DMsg.mk x0 x1, (join1 e0 (join1 e1 (dnil hl cl224)))⟩
theorem ops208 : OpS Try.prog 208 DMsg := OpS.of Try.underlying208 cl224 op224
theorem cl208 : Program.cellsOf Try.prog 208 = 1 := by kernel_rfl
theorem cl210 : Program.cellsOf Try.prog 210 = 13 := by kernel_rfl
theorem op210 : Op Try.prog 210 DObj := by
  intro H enc W base sp held n cs x h
  obtain ⟨xs, n, rfl, rfl, hl, hx, hf⟩ := DataW.trod_struct Try.underlying210 h
  obtain ⟨x0, e0⟩ := op3.fld cl3 (by rw [hx]; decide) (hf 0 _ rfl)
  obtain ⟨x1, e1⟩ := op3.fld cl3 (by rw [hx]; decide) (hf 1 _ rfl)
  obtain ⟨x2, e2⟩ := op3.fld cl3 (by rw [hx]; decide) (hf 2 _ rfl)
  obtain ⟨x3, e3⟩ := op3.fld cl3 (by rw [hx]; decide) (hf 3 _ rfl)
  obtain ⟨x4, e4⟩ := op3.fld cl3 (by rw [hx]; decide) (hf 4 _ rfl)
  obtain ⟨x5, e5⟩ := op3.fld cl3 (by rw [hx]; decide) (hf 5 _ rfl)
  obtain ⟨x6, e6⟩ := op3.fld cl3 (by rw [hx]; decide) (hf 6 _ rfl)
  obtain ⟨x7, e7⟩ := op3.fld cl3 (by rw [hx]; decide) (hf 7 _ rfl)
  obtain ⟨x8, e8⟩ := op3.fld cl3 (by rw [hx]; decide) (hf 8 _ rfl)
  obtain ⟨x9, e9⟩ := op4.fld cl4 (by rw [hx]; decide) (hf 9 _ rfl)
  obtain ⟨a10, c10, x10, e10, r10⟩ := ops47.fld cl47 (by rw [hx]; decide) (hf 10 _ rfl)
  obtain ⟨a11, c11, x11, e11, r11⟩ := ops47.fld cl47 (by rw [hx]; decide) (hf 11 _ rfl)
  obtain ⟨a12, c12, x12, e12, r12⟩ := ops208.fld cl208 (by rw [hx]; decide) (hf 12 _ rfl)
  exact ⟨DObj.mk x0 x1 x2 x3 x4 x5 x6 x7 x8 x9 x10 x11 x12, a10, c10, a11, c11, a12, c12, (join1 e0 (join1 e1 (join1 e2 (join1 e3 (join1 e4 (join1 e5 (join1 e6 (join1 e7 (join1 e8 (join1 e9 (join1 e10 (join1 e11 (join1 e12 (dnil hl cl210)))))))))))))), r10, r11, r12⟩
theorem ops80 : OpS Try.prog 80 DObj := OpS.of Try.underlying80 cl210 op210
theorem cl80 : Program.cellsOf Try.prog 80 = 1 := by kernel_rfl
theorem cl82 : Program.cellsOf Try.prog 82 = 4 := by kernel_rfl
theorem op82 : Op Try.prog 82 DGc := by
  intro H enc W base sp held n cs x h
  obtain ⟨xs, n, rfl, rfl, hl, hx, hf⟩ := DataW.trod_struct Try.underlying82 h
  obtain ⟨x0, e0⟩ := op3.fld cl3 (by rw [hx]; decide) (hf 0 _ rfl)
  obtain ⟨x1, e1⟩ := op3.fld cl3 (by rw [hx]; decide) (hf 1 _ rfl)
  obtain ⟨x2, e2⟩ := op3.fld cl3 (by rw [hx]; decide) (hf 2 _ rfl)
  obtain ⟨a3, c3, x3, e3, r3⟩ := ops47.fld cl47 (by rw [hx]; decide) (hf 3 _ rfl)
  exact ⟨DGc.mk x0 x1 x2 x3, a3, c3, (join1 e0 (join1 e1 (join1 e2 (join1 e3 (dnil hl cl82))))), r3⟩
theorem cl84 : Program.cellsOf Try.prog 84 = 5 := by kernel_rfl
theorem op84 : Op Try.prog 84 DHeap := by
  intro H enc W base sp held n cs x h
  obtain ⟨xs, n, rfl, rfl, hl, hx, hf⟩ := DataW.trod_struct Try.underlying84 h
  obtain ⟨a0, c0, x0, e0, r0⟩ := ops80.fld cl80 (by rw [hx]; decide) (hf 0 _ rfl)
  obtain ⟨x1, e1⟩ := op82.fld cl82 (by rw [hx]; decide) (hf 1 _ rfl)
  obtain ⟨a1_3, c1_3, e1, r1_3⟩ := e1
  exact ⟨DHeap.mk x0 x1, a0, c0, a1_3, c1_3, (join1 e0 (join1 e1 (dnil hl cl84))), r0, r1_3⟩
theorem cl189 : Program.cellsOf Try.prog 189 = 6 := by kernel_rfl
theorem op189 : Op Try.prog 189 DTap := by
  intro H enc W base sp held n cs x h
  obtain ⟨xs, n, rfl, rfl, hl, hx, hf⟩ := DataW.trod_struct Try.underlying189 h
  obtain ⟨x0, e0⟩ := op3.fld cl3 (by rw [hx]; decide) (hf 0 _ rfl)
  obtain ⟨x1, e1⟩ := op3.fld cl3 (by rw [hx]; decide) (hf 1 _ rfl)
  obtain ⟨x2, e2⟩ := op3.fld cl3 (by rw [hx]; decide) (hf 2 _ rfl)
  obtain ⟨x3, e3⟩ := op3.fld cl3 (by rw [hx]; decide) (hf 3 _ rfl)
  obtain ⟨x4, e4⟩ := op3.fld cl3 (by rw [hx]; decide) (hf 4 _ rfl)
  obtain ⟨x5, e5⟩ := op3.fld cl3 (by rw [hx]; decide) (hf 5 _ rfl)
  exact ⟨DTap.mk x0 x1 x2 x3 x4 x5, (join1 e0 (join1 e1 (join1 e2 (join1 e3 (join1 e4 (join1 e5 (dnil hl cl189)))))))⟩
theorem ops85 : OpS Try.prog 85 DTap := OpS.of Try.underlying85 cl189 op189
theorem cl85 : Program.cellsOf Try.prog 85 = 1 := by kernel_rfl
theorem cl88 : Program.cellsOf Try.prog 88 = 16 := by kernel_rfl
theorem op88 : Op Try.prog 88 DPart := by
  intro H enc W base sp held n cs x h
  obtain ⟨xs, n, rfl, rfl, hl, hx, hf⟩ := DataW.trod_struct Try.underlying88 h
  obtain ⟨x0, e0⟩ := op49.fld cl49 (by rw [hx]; decide) (hf 0 _ rfl)
  obtain ⟨a0_0, c0_0, e0, r0_0⟩ := e0
  obtain ⟨a1, c1, x1, e1, r1⟩ := ops47.fld cl47 (by rw [hx]; decide) (hf 1 _ rfl)
  obtain ⟨a2, c2, x2, e2, r2⟩ := ops79.fld cl79 (by rw [hx]; decide) (hf 2 _ rfl)
  obtain ⟨x3, e3⟩ := op84.fld cl84 (by rw [hx]; decide) (hf 3 _ rfl)
  obtain ⟨a3_0, c3_0, a3_4, c3_4, e3, r3_0, r3_4⟩ := e3
  obtain ⟨a4, c4, x4, e4, r4⟩ := ops85.fld cl85 (by rw [hx]; decide) (hf 4 _ rfl)
  obtain ⟨x5, e5⟩ := op3.fld cl3 (by rw [hx]; decide) (hf 5 _ rfl)
  obtain ⟨x6, e6⟩ := op3.fld cl3 (by rw [hx]; decide) (hf 6 _ rfl)
  obtain ⟨x7, e7⟩ := op86.fld cl86 (by rw [hx]; decide) (hf 7 _ rfl)
  obtain ⟨x8, e8⟩ := op3.fld cl3 (by rw [hx]; decide) (hf 8 _ rfl)
  obtain ⟨x9, e9⟩ := op3.fld cl3 (by rw [hx]; decide) (hf 9 _ rfl)
  exact ⟨DPart.mk x0 x1 x2 x3 x4 x5 x6 x7 x8 x9, a0_0, c0_0, a1, c1, a2, c2, a3_0, c3_0, a3_4, c3_4, a4, c4, (join1 e0 (join1 e1 (join1 e2 (join1 e3 (join1 e4 (join1 e5 (join1 e6 (join1 e7 (join1 e8 (join1 e9 (dnil hl cl88))))))))))), r0_0, r1, r2, r3_0, r3_4, r4⟩
theorem ops69 : OpS Try.prog 69 DPart := OpS.of Try.underlying69 cl88 op88
theorem cl69 : Program.cellsOf Try.prog 69 = 1 := by kernel_rfl
theorem cl71 : Program.cellsOf Try.prog 71 = 2 := by kernel_rfl
theorem op71 : Op Try.prog 71 DWorld := by
  intro H enc W base sp held n cs x h
  obtain ⟨xs, n, rfl, rfl, hl, hx, hf⟩ := DataW.trod_struct Try.underlying71 h
  obtain ⟨x0, e0⟩ := op3.fld cl3 (by rw [hx]; decide) (hf 0 _ rfl)
  obtain ⟨a1, c1, x1, e1, r1⟩ := ops69.fld cl69 (by rw [hx]; decide) (hf 1 _ rfl)
  exact ⟨DWorld.mk x0 x1, a1, c1, (join1 e0 (join1 e1 (dnil hl cl71))), r1⟩
end Go.Kx
