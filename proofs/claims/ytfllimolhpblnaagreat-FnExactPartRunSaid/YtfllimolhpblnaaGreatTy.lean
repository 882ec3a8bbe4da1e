/- How arguments of each type open as plain data. Printed by genrow.py. -/
import Derived.Test.YtfllimolhpblnaaGreatProg
import Derived.Test.YtfllimolhpblnaaGreatRow
namespace Go.Kx
open Go Go.RowKit Go.Proofs
set_option linter.unusedVariables false
set_option linter.unusedSimpArgs false
set_option maxRecDepth 100000
theorem op3 : Op Tryz.prog 3 Int := Op.int Tryz.underlying3
theorem cl3 : Program.cellsOf Tryz.prog 3 = 1 := by kernel_rfl
theorem ops28 : OpS Tryz.prog 28 Int := OpS.of Tryz.underlying28 cl3 op3
theorem cl28 : Program.cellsOf Tryz.prog 28 = 1 := by kernel_rfl
theorem cl44 : Program.cellsOf Tryz.prog 44 = 1 := by kernel_rfl
theorem op44 : Op Tryz.prog 44 DLabel := by
  intro H enc W base sp held n cs x h
  obtain ⟨xs, n, rfl, rfl, hl, hx, hf⟩ := DataW.trod_struct Tryz.underlying44 h
  obtain ⟨a0, c0, x0, e0, r0, ft0⟩ := ops28.fld cl28 (by rw [hx]; decide) (hf 0 _ rfl)
  exact ⟨DLabel.mk x0, ⟨a0, c0, (join1 e0 (dnil hl cl44)), r0⟩, ft0⟩
theorem op4 : Op Tryz.prog 4 Bool := Op.bool Tryz.underlying4
theorem cl4 : Program.cellsOf Tryz.prog 4 = 1 := by kernel_rfl
theorem cl53 : Program.cellsOf Tryz.prog 53 = 3 := by kernel_rfl
theorem op53 : Op Tryz.prog 53 DAmt := by
  intro H enc W base sp held n cs x h
  obtain ⟨xs, n, rfl, rfl, hl, hx, hf⟩ := DataW.trod_struct Tryz.underlying53 h
  obtain ⟨x0, e0, ft0⟩ := op3.fld cl3 (by rw [hx]; decide) (hf 0 _ rfl)
  obtain ⟨x1, e1, ft1⟩ := op3.fld cl3 (by rw [hx]; decide) (hf 1 _ rfl)
  obtain ⟨x2, e2, ft2⟩ := op3.fld cl3 (by rw [hx]; decide) (hf 2 _ rfl)
  exact ⟨DAmt.mk x0 x1 x2, (join1 e0 (join1 e1 (join1 e2 (dnil hl cl53)))), (And.intro ft0 (And.intro ft1 ft2))⟩
theorem cl155 : Program.cellsOf Tryz.prog 155 = 5 := by kernel_rfl
theorem op155 : Op Tryz.prog 155 DRes := by
  intro H enc W base sp held n cs x h
  obtain ⟨xs, n, rfl, rfl, hl, hx, hf⟩ := DataW.trod_struct Tryz.underlying155 h
  obtain ⟨x0, e0, ft0⟩ := op4.fld cl4 (by rw [hx]; decide) (hf 0 _ rfl)
  obtain ⟨x1, e1, ft1⟩ := op3.fld cl3 (by rw [hx]; decide) (hf 1 _ rfl)
  obtain ⟨x2, e2, ft2⟩ := op53.fld cl53 (by rw [hx]; decide) (hf 2 _ rfl)
  exact ⟨DRes.mk x0 x1 x2, (join1 e0 (join1 e1 (join1 e2 (dnil hl cl155)))), (And.intro ft0 (And.intro ft1 ft2))⟩
theorem ops45 : OpS Tryz.prog 45 DRes := OpS.of Tryz.underlying45 cl155 op155
theorem cl45 : Program.cellsOf Tryz.prog 45 = 1 := by kernel_rfl
theorem cl200 : Program.cellsOf Tryz.prog 200 = 2 := by kernel_rfl
theorem op200 : Op Tryz.prog 200 DMsg := by
  intro H enc W base sp held n cs x h
  obtain ⟨xs, n, rfl, rfl, hl, hx, hf⟩ := DataW.trod_struct Tryz.underlying200 h
  obtain ⟨x0, e0, ft0⟩ := op3.fld cl3 (by rw [hx]; decide) (hf 0 _ rfl)
  obtain ⟨x1, e1, ft1⟩ := op3.fld cl3 (by rw [hx]; decide) (hf 1 _ rfl)
  exact ⟨DMsg.mk x0 x1, (join1 e0 (join1 e1 (dnil hl cl200))), (And.intro ft0 ft1)⟩
theorem ops184 : OpS Tryz.prog 184 DMsg := OpS.of Tryz.underlying184 cl200 op200
theorem cl184 : Program.cellsOf Tryz.prog 184 = 1 := by kernel_rfl
theorem cl186 : Program.cellsOf Tryz.prog 186 = 13 := by kernel_rfl
theorem op186 : Op Tryz.prog 186 DObj := by
  intro H enc W base sp held n cs x h
  obtain ⟨xs, n, rfl, rfl, hl, hx, hf⟩ := DataW.trod_struct Tryz.underlying186 h
  obtain ⟨x0, e0, ft0⟩ := op3.fld cl3 (by rw [hx]; decide) (hf 0 _ rfl)
  obtain ⟨x1, e1, ft1⟩ := op3.fld cl3 (by rw [hx]; decide) (hf 1 _ rfl)
  obtain ⟨x2, e2, ft2⟩ := op3.fld cl3 (by rw [hx]; decide) (hf 2 _ rfl)
  obtain ⟨x3, e3, ft3⟩ := op3.fld cl3 (by rw [hx]; decide) (hf 3 _ rfl)
  obtain ⟨x4, e4, ft4⟩ := op3.fld cl3 (by rw [hx]; decide) (hf 4 _ rfl)
  obtain ⟨x5, e5, ft5⟩ := op3.fld cl3 (by rw [hx]; decide) (hf 5 _ rfl)
  obtain ⟨x6, e6, ft6⟩ := op3.fld cl3 (by rw [hx]; decide) (hf 6 _ rfl)
  obtain ⟨x7, e7, ft7⟩ := op3.fld cl3 (by rw [hx]; decide) (hf 7 _ rfl)
  obtain ⟨x8, e8, ft8⟩ := op3.fld cl3 (by rw [hx]; decide) (hf 8 _ rfl)
  obtain ⟨x9, e9, ft9⟩ := op4.fld cl4 (by rw [hx]; decide) (hf 9 _ rfl)
  obtain ⟨a10, c10, x10, e10, r10, ft10⟩ := ops28.fld cl28 (by rw [hx]; decide) (hf 10 _ rfl)
  obtain ⟨a11, c11, x11, e11, r11, ft11⟩ := ops28.fld cl28 (by rw [hx]; decide) (hf 11 _ rfl)
  obtain ⟨a12, c12, x12, e12, r12, ft12⟩ := ops184.fld cl184 (by rw [hx]; decide) (hf 12 _ rfl)
  exact ⟨DObj.mk x0 x1 x2 x3 x4 x5 x6 x7 x8 x9 x10 x11 x12, ⟨a10, c10, a11, c11, a12, c12, (join1 e0 (join1 e1 (join1 e2 (join1 e3 (join1 e4 (join1 e5 (join1 e6 (join1 e7 (join1 e8 (join1 e9 (join1 e10 (join1 e11 (join1 e12 (dnil hl cl186)))))))))))))), r10, r11, r12⟩, (And.intro ft0 (And.intro ft1 (And.intro ft2 (And.intro ft3 (And.intro ft4 (And.intro ft5 (And.intro ft6 (And.intro ft7 (And.intro ft8 (And.intro ft9 (And.intro ft10 (And.intro ft11 ft12))))))))))))⟩
theorem ops46 : OpS Tryz.prog 46 DObj := OpS.of Tryz.underlying46 cl186 op186
theorem cl46 : Program.cellsOf Tryz.prog 46 = 1 := by kernel_rfl
theorem cl48 : Program.cellsOf Tryz.prog 48 = 4 := by kernel_rfl
theorem op48 : Op Tryz.prog 48 DGc := by
  intro H enc W base sp held n cs x h
  obtain ⟨xs, n, rfl, rfl, hl, hx, hf⟩ := DataW.trod_struct Tryz.underlying48 h
  obtain ⟨x0, e0, ft0⟩ := op3.fld cl3 (by rw [hx]; decide) (hf 0 _ rfl)
  obtain ⟨x1, e1, ft1⟩ := op3.fld cl3 (by rw [hx]; decide) (hf 1 _ rfl)
  obtain ⟨x2, e2, ft2⟩ := op3.fld cl3 (by rw [hx]; decide) (hf 2 _ rfl)
  obtain ⟨a3, c3, x3, e3, r3, ft3⟩ := ops28.fld cl28 (by rw [hx]; decide) (hf 3 _ rfl)
  exact ⟨DGc.mk x0 x1 x2 x3, ⟨a3, c3, (join1 e0 (join1 e1 (join1 e2 (join1 e3 (dnil hl cl48))))), r3⟩, (And.intro ft0 (And.intro ft1 (And.intro ft2 ft3)))⟩
theorem cl50 : Program.cellsOf Tryz.prog 50 = 5 := by kernel_rfl
theorem op50 : Op Tryz.prog 50 DHeap := by
  intro H enc W base sp held n cs x h
  obtain ⟨xs, n, rfl, rfl, hl, hx, hf⟩ := DataW.trod_struct Tryz.underlying50 h
  obtain ⟨a0, c0, x0, e0, r0, ft0⟩ := ops46.fld cl46 (by rw [hx]; decide) (hf 0 _ rfl)
  obtain ⟨x1, e1, ft1⟩ := op48.fld cl48 (by rw [hx]; decide) (hf 1 _ rfl)
  obtain ⟨a1_3, c1_3, e1, r1_3⟩ := e1
  exact ⟨DHeap.mk x0 x1, ⟨a0, c0, a1_3, c1_3, (join1 e0 (join1 e1 (dnil hl cl50))), r0, r1_3⟩, (And.intro ft0 ft1)⟩
theorem cl159 : Program.cellsOf Tryz.prog 159 = 6 := by kernel_rfl
theorem op159 : Op Tryz.prog 159 DTap := by
  intro H enc W base sp held n cs x h
  obtain ⟨xs, n, rfl, rfl, hl, hx, hf⟩ := DataW.trod_struct Tryz.underlying159 h
  obtain ⟨x0, e0, ft0⟩ := op3.fld cl3 (by rw [hx]; decide) (hf 0 _ rfl)
  obtain ⟨x1, e1, ft1⟩ := op3.fld cl3 (by rw [hx]; decide) (hf 1 _ rfl)
  obtain ⟨x2, e2, ft2⟩ := op3.fld cl3 (by rw [hx]; decide) (hf 2 _ rfl)
  obtain ⟨x3, e3, ft3⟩ := op3.fld cl3 (by rw [hx]; decide) (hf 3 _ rfl)
  obtain ⟨x4, e4, ft4⟩ := op3.fld cl3 (by rw [hx]; decide) (hf 4 _ rfl)
  obtain ⟨x5, e5, ft5⟩ := op3.fld cl3 (by rw [hx]; decide) (hf 5 _ rfl)
  exact ⟨DTap.mk x0 x1 x2 x3 x4 x5, (join1 e0 (join1 e1 (join1 e2 (join1 e3 (join1 e4 (join1 e5 (dnil hl cl159))))))), (And.intro ft0 (And.intro ft1 (And.intro ft2 (And.intro ft3 (And.intro ft4 ft5)))))⟩
theorem ops51 : OpS Tryz.prog 51 DTap := OpS.of Tryz.underlying51 cl159 op159
theorem cl51 : Program.cellsOf Tryz.prog 51 = 1 := by kernel_rfl
theorem cl55 : Program.cellsOf Tryz.prog 55 = 16 := by kernel_rfl
theorem op55 : Op Tryz.prog 55 DPart := by
  intro H enc W base sp held n cs x h
  obtain ⟨xs, n, rfl, rfl, hl, hx, hf⟩ := DataW.trod_struct Tryz.underlying55 h
  obtain ⟨x0, e0, ft0⟩ := op44.fld cl44 (by rw [hx]; decide) (hf 0 _ rfl)
  obtain ⟨a0_0, c0_0, e0, r0_0⟩ := e0
  obtain ⟨a1, c1, x1, e1, r1, ft1⟩ := ops28.fld cl28 (by rw [hx]; decide) (hf 1 _ rfl)
  obtain ⟨a2, c2, x2, e2, r2, ft2⟩ := ops45.fld cl45 (by rw [hx]; decide) (hf 2 _ rfl)
  obtain ⟨x3, e3, ft3⟩ := op50.fld cl50 (by rw [hx]; decide) (hf 3 _ rfl)
  obtain ⟨a3_0, c3_0, a3_4, c3_4, e3, r3_0, r3_4⟩ := e3
  obtain ⟨a4, c4, x4, e4, r4, ft4⟩ := ops51.fld cl51 (by rw [hx]; decide) (hf 4 _ rfl)
  obtain ⟨x5, e5, ft5⟩ := op3.fld cl3 (by rw [hx]; decide) (hf 5 _ rfl)
  obtain ⟨x6, e6, ft6⟩ := op3.fld cl3 (by rw [hx]; decide) (hf 6 _ rfl)
  obtain ⟨x7, e7, ft7⟩ := op53.fld cl53 (by rw [hx]; decide) (hf 7 _ rfl)
  obtain ⟨x8, e8, ft8⟩ := op3.fld cl3 (by rw [hx]; decide) (hf 8 _ rfl)
  obtain ⟨x9, e9, ft9⟩ := op3.fld cl3 (by rw [hx]; decide) (hf 9 _ rfl)
  exact ⟨DPart.mk x0 x1 x2 x3 x4 x5 x6 x7 x8 x9, ⟨a0_0, c0_0, a1, c1, a2, c2, a3_0, c3_0, a3_4, c3_4, a4, c4, (join1 e0 (join1 e1 (join1 e2 (join1 e3 (join1 e4 (join1 e5 (join1 e6 (join1 e7 (join1 e8 (join1 e9 (dnil hl cl55))))))))))), r0_0, r1, r2, r3_0, r3_4, r4⟩, (And.intro ft0 (And.intro ft1 (And.intro ft2 (And.intro ft3 (And.intro ft4 (And.intro ft5 (And.intro ft6 (And.intro ft7 (And.intro ft8 ft9)))))))))⟩
theorem ops22 : OpS Tryz.prog 22 DPart := OpS.of Tryz.underlying22 cl55 op55
theorem cl22 : Program.cellsOf Tryz.prog 22 = 1 := by kernel_rfl
theorem cl24 : Program.cellsOf Tryz.prog 24 = 2 := by kernel_rfl
theorem op24 : Op Tryz.prog 24 DWorld := by
  intro H enc W base sp held n cs x h
  obtain ⟨xs, n, rfl, rfl, hl, hx, hf⟩ := DataW.trod_struct Tryz.underlying24 h
  obtain ⟨x0, e0, ft0⟩ := op3.fld cl3 (by rw [hx]; decide) (hf 0 _ rfl)
  obtain ⟨a1, c1, x1, e1, r1, ft1⟩ := ops22.fld cl22 (by rw [hx]; decide) (hf 1 _ rfl)
  exact ⟨DWorld.mk x0 x1, ⟨a1, c1, (join1 e0 (join1 e1 (dnil hl cl24))), r1⟩, (And.intro ft0 ft1)⟩
theorem cl26 : Program.cellsOf Tryz.prog 26 = 6 := by kernel_rfl
theorem op26 : Op Tryz.prog 26 DCall := by
  intro H enc W base sp held n cs x h
  obtain ⟨xs, n, rfl, rfl, hl, hx, hf⟩ := DataW.trod_struct Tryz.underlying26 h
  obtain ⟨x0, e0, ft0⟩ := op3.fld cl3 (by rw [hx]; decide) (hf 0 _ rfl)
  obtain ⟨x1, e1, ft1⟩ := op3.fld cl3 (by rw [hx]; decide) (hf 1 _ rfl)
  obtain ⟨x2, e2, ft2⟩ := op3.fld cl3 (by rw [hx]; decide) (hf 2 _ rfl)
  obtain ⟨x3, e3, ft3⟩ := op3.fld cl3 (by rw [hx]; decide) (hf 3 _ rfl)
  obtain ⟨x4, e4, ft4⟩ := op3.fld cl3 (by rw [hx]; decide) (hf 4 _ rfl)
  obtain ⟨x5, e5, ft5⟩ := op3.fld cl3 (by rw [hx]; decide) (hf 5 _ rfl)
  exact ⟨DCall.mk x0 x1 x2 x3 x4 x5, (join1 e0 (join1 e1 (join1 e2 (join1 e3 (join1 e4 (join1 e5 (dnil hl cl26))))))), (And.intro ft0 (And.intro ft1 (And.intro ft2 (And.intro ft3 (And.intro ft4 ft5)))))⟩
end Go.Kx
