/- How arguments of each type open as plain data. Printed by genrow.py. -/
import Derived.Test.YtljikolgijlbeaaGreatProg
import Derived.Test.YtljikolgijlbeaaGreatRow
namespace Go.Kx
open Go Go.RowKit Go.Proofs
set_option linter.unusedVariables false
set_option linter.unusedSimpArgs false
set_option maxRecDepth 100000
theorem op3:Op Tryz.prog 3 Int:=Op.int Tryz.underlying3
theorem cl3:Program.cellsOf Tryz.prog 3=1:=by kernel_rfl
theorem ops52:OpS Tryz.prog 52 Int:=OpS.of Tryz.underlying52 cl3 op3
theorem cl52:Program.cellsOf Tryz.prog 52=1:=by kernel_rfl
theorem cl118:Program.cellsOf Tryz.prog 118=1:=by kernel_rfl
theorem op118:Op Tryz.prog 118 DLabel:=by
  intro H enc W base sp held n cs x h
  obtain ⟨xs,n,rfl,rfl,hl,hx,hf⟩:=DataW.trod_struct Tryz.underlying118 h
  obtain ⟨a0,c0,x0,e0,r0,ft0⟩:=ops52.fld cl52 (by rw [hx];decide) (hf 0 _ rfl)
  exact ⟨DLabel.mk x0,⟨a0,c0,(join1 e0 (dnil hl cl118)),r0⟩,ft0⟩
theorem op4:Op Tryz.prog 4 Bool:=Op.bool Tryz.underlying4
theorem cl4:Program.cellsOf Tryz.prog 4=1:=by kernel_rfl
theorem cl125:Program.cellsOf Tryz.prog 125=3:=by kernel_rfl
theorem op125:Op Tryz.prog 125 DAmt:=by
  intro H enc W base sp held n cs x h
  obtain ⟨xs,n,rfl,rfl,hl,hx,hf⟩:=DataW.trod_struct Tryz.underlying125 h
  obtain ⟨x0,e0,ft0⟩:=op3.fld cl3 (by rw [hx];decide) (hf 0 _ rfl)
  obtain ⟨x1,e1,ft1⟩:=op3.fld cl3 (by rw [hx];decide) (hf 1 _ rfl)
  obtain ⟨x2,e2,ft2⟩:=op3.fld cl3 (by rw [hx];decide) (hf 2 _ rfl)
  exact ⟨DAmt.mk x0 x1 x2,(join1 e0 (join1 e1 (join1 e2 (dnil hl cl125)))),(And.intro ft0 (And.intro ft1 ft2))⟩
theorem cl209:Program.cellsOf Tryz.prog 209=5:=by kernel_rfl
theorem op209:Op Tryz.prog 209 DRes:=by
  intro H enc W base sp held n cs x h
  obtain ⟨xs,n,rfl,rfl,hl,hx,hf⟩:=DataW.trod_struct Tryz.underlying209 h
  obtain ⟨x0,e0,ft0⟩:=op4.fld cl4 (by rw [hx];decide) (hf 0 _ rfl)
  obtain ⟨x1,e1,ft1⟩:=op3.fld cl3 (by rw [hx];decide) (hf 1 _ rfl)
  obtain ⟨x2,e2,ft2⟩:=op125.fld cl125 (by rw [hx];decide) (hf 2 _ rfl)
  exact ⟨DRes.mk x0 x1 x2,(join1 e0 (join1 e1 (join1 e2 (dnil hl cl209)))),(And.intro ft0 (And.intro ft1 ft2))⟩
theorem ops119:OpS Tryz.prog 119 DRes:=OpS.of Tryz.underlying119 cl209 op209
theorem cl119:Program.cellsOf Tryz.prog 119=1:=by kernel_rfl
theorem cl236:Program.cellsOf Tryz.prog 236=2:=by kernel_rfl
theorem op236:Op Tryz.prog 236 DMsg:=by
  intro H enc W base sp held n cs x h
  obtain ⟨xs,n,rfl,rfl,hl,hx,hf⟩:=DataW.trod_struct Tryz.underlying236 h
  obtain ⟨x0,e0,ft0⟩:=op3.fld cl3 (by rw [hx];decide) (hf 0 _ rfl)
  obtain ⟨x1,e1,ft1⟩:=op3.fld cl3 (by rw [hx];decide) (hf 1 _ rfl)
  exact ⟨DMsg.mk x0 x1,(join1 e0 (join1 e1 (dnil hl cl236))),(And.intro ft0 ft1)⟩
theorem ops228:OpS Tryz.prog 228 DMsg:=OpS.of Tryz.underlying228 cl236 op236
theorem cl228:Program.cellsOf Tryz.prog 228=1:=by kernel_rfl
theorem cl230:Program.cellsOf Tryz.prog 230=13:=by kernel_rfl
theorem op230:Op Tryz.prog 230 DObj:=by
  intro H enc W base sp held n cs x h
  obtain ⟨xs,n,rfl,rfl,hl,hx,hf⟩:=DataW.trod_struct Tryz.underlying230 h
  obtain ⟨x0,e0,ft0⟩:=op3.fld cl3 (by rw [hx];decide) (hf 0 _ rfl)
  obtain ⟨x1,e1,ft1⟩:=op3.fld cl3 (by rw [hx];decide) (hf 1 _ rfl)
  obtain ⟨x2,e2,ft2⟩:=op3.fld cl3 (by rw [hx];decide) (hf 2 _ rfl)
  obtain ⟨x3,e3,ft3⟩:=op3.fld cl3 (by rw [hx];decide) (hf 3 _ rfl)
  obtain ⟨x4,e4,ft4⟩:=op3.fld cl3 (by rw [hx];decide) (hf 4 _ rfl)
  obtain ⟨x5,e5,ft5⟩:=op3.fld cl3 (by rw [hx];decide) (hf 5 _ rfl)
  obtain ⟨x6,e6,ft6⟩:=op3.fld cl3 (by rw [hx];decide) (hf 6 _ rfl)
  obtain ⟨x7,e7,ft7⟩:=op3.fld cl3 (by rw [hx];decide) (hf 7 _ rfl)
  obtain ⟨x8,e8,ft8⟩:=op3.fld cl3 (by rw [hx];decide) (hf 8 _ rfl)
  obtain ⟨x9,e9,ft9⟩:=op4.fld cl4 (by rw [hx];decide) (hf 9 _ rfl)
  obtain ⟨a10,c10,x10,e10,r10,ft10⟩:=ops52.fld cl52 (by rw [hx];decide) (hf 10 _ rfl)
  obtain ⟨a11,c11,x11,e11,r11,ft11⟩:=ops52.fld cl52 (by rw [hx];decide) (hf 11 _ rfl)
  obtain ⟨a12,c12,x12,e12,r12,ft12⟩:=ops228.fld cl228 (by rw [hx];decide) (hf 12 _ rfl)
  exact ⟨DObj.mk x0 x1 x2 x3 x4 x5 x6 x7 x8 x9 x10 x11 x12,⟨a10,c10,a11,c11,a12,c12,(join1 e0 (join1 e1 (join1 e2 (join1 e3 (join1 e4 (join1 e5 (join1 e6 (join1 e7 (join1 e8 (join1 e9 (join1 e10 (join1 e11 (join1 e12 (dnil hl cl230)))))))))))))),r10,r11,r12⟩,(And.intro ft0 (And.intro ft1 (And.intro ft2 (And.intro ft3 (And.intro ft4 (And.intro ft5 (And.intro ft6 (And.intro ft7 (And.intro ft8 (And.intro ft9 (And.intro ft10 (And.intro ft11 ft12))))))))))))⟩
theorem ops120:OpS Tryz.prog 120 DObj:=OpS.of Tryz.underlying120 cl230 op230
theorem cl120:Program.cellsOf Tryz.prog 120=1:=by kernel_rfl
theorem cl121:Program.cellsOf Tryz.prog 121=4:=by kernel_rfl
theorem op121:Op Tryz.prog 121 DGc:=by
  intro H enc W base sp held n cs x h
  obtain ⟨xs,n,rfl,rfl,hl,hx,hf⟩:=DataW.trod_struct Tryz.underlying121 h
  obtain ⟨x0,e0,ft0⟩:=op3.fld cl3 (by rw [hx];decide) (hf 0 _ rfl)
  obtain ⟨x1,e1,ft1⟩:=op3.fld cl3 (by rw [hx];decide) (hf 1 _ rfl)
  obtain ⟨x2,e2,ft2⟩:=op3.fld cl3 (by rw [hx];decide) (hf 2 _ rfl)
  obtain ⟨a3,c3,x3,e3,r3,ft3⟩:=ops52.fld cl52 (by rw [hx];decide) (hf 3 _ rfl)
  exact ⟨DGc.mk x0 x1 x2 x3,⟨a3,c3,(join1 e0 (join1 e1 (join1 e2 (join1 e3 (dnil hl cl121))))),r3⟩,(And.intro ft0 (And.intro ft1 (And.intro ft2 ft3)))⟩
theorem cl123:Program.cellsOf Tryz.prog 123=5:=by kernel_rfl
theorem op123:Op Tryz.prog 123 DHeap:=by
  intro H enc W base sp held n cs x h
  obtain ⟨xs,n,rfl,rfl,hl,hx,hf⟩:=DataW.trod_struct Tryz.underlying123 h
  obtain ⟨a0,c0,x0,e0,r0,ft0⟩:=ops120.fld cl120 (by rw [hx];decide) (hf 0 _ rfl)
  obtain ⟨x1,e1,ft1⟩:=op121.fld cl121 (by rw [hx];decide) (hf 1 _ rfl)
  obtain ⟨a1_3,c1_3,e1,r1_3⟩:=e1
  exact ⟨DHeap.mk x0 x1,⟨a0,c0,a1_3,c1_3,(join1 e0 (join1 e1 (dnil hl cl123))),r0,r1_3⟩,(And.intro ft0 ft1)⟩
theorem cl213:Program.cellsOf Tryz.prog 213=6:=by kernel_rfl
theorem op213:Op Tryz.prog 213 DTap:=by
  intro H enc W base sp held n cs x h
  obtain ⟨xs,n,rfl,rfl,hl,hx,hf⟩:=DataW.trod_struct Tryz.underlying213 h
  obtain ⟨x0,e0,ft0⟩:=op3.fld cl3 (by rw [hx];decide) (hf 0 _ rfl)
  obtain ⟨x1,e1,ft1⟩:=op3.fld cl3 (by rw [hx];decide) (hf 1 _ rfl)
  obtain ⟨x2,e2,ft2⟩:=op3.fld cl3 (by rw [hx];decide) (hf 2 _ rfl)
  obtain ⟨x3,e3,ft3⟩:=op3.fld cl3 (by rw [hx];decide) (hf 3 _ rfl)
  obtain ⟨x4,e4,ft4⟩:=op3.fld cl3 (by rw [hx];decide) (hf 4 _ rfl)
  obtain ⟨x5,e5,ft5⟩:=op3.fld cl3 (by rw [hx];decide) (hf 5 _ rfl)
  exact ⟨DTap.mk x0 x1 x2 x3 x4 x5,(join1 e0 (join1 e1 (join1 e2 (join1 e3 (join1 e4 (join1 e5 (dnil hl cl213))))))),(And.intro ft0 (And.intro ft1 (And.intro ft2 (And.intro ft3 (And.intro ft4 ft5)))))⟩
theorem ops124:OpS Tryz.prog 124 DTap:=OpS.of Tryz.underlying124 cl213 op213
theorem cl124:Program.cellsOf Tryz.prog 124=1:=by kernel_rfl
theorem cl127:Program.cellsOf Tryz.prog 127=16:=by kernel_rfl
theorem op127:Op Tryz.prog 127 DPart:=by
  intro H enc W base sp held n cs x h
  obtain ⟨xs,n,rfl,rfl,hl,hx,hf⟩:=DataW.trod_struct Tryz.underlying127 h
  obtain ⟨x0,e0,ft0⟩:=op118.fld cl118 (by rw [hx];decide) (hf 0 _ rfl)
  obtain ⟨a0_0,c0_0,e0,r0_0⟩:=e0
  obtain ⟨a1,c1,x1,e1,r1,ft1⟩:=ops52.fld cl52 (by rw [hx];decide) (hf 1 _ rfl)
  obtain ⟨a2,c2,x2,e2,r2,ft2⟩:=ops119.fld cl119 (by rw [hx];decide) (hf 2 _ rfl)
  obtain ⟨x3,e3,ft3⟩:=op123.fld cl123 (by rw [hx];decide) (hf 3 _ rfl)
  obtain ⟨a3_0,c3_0,a3_4,c3_4,e3,r3_0,r3_4⟩:=e3
  obtain ⟨a4,c4,x4,e4,r4,ft4⟩:=ops124.fld cl124 (by rw [hx];decide) (hf 4 _ rfl)
  obtain ⟨x5,e5,ft5⟩:=op3.fld cl3 (by rw [hx];decide) (hf 5 _ rfl)
  obtain ⟨x6,e6,ft6⟩:=op3.fld cl3 (by rw [hx];decide) (hf 6 _ rfl)
  obtain ⟨x7,e7,ft7⟩:=op125.fld cl125 (by rw [hx];decide) (hf 7 _ rfl)
  obtain ⟨x8,e8,ft8⟩:=op3.fld cl3 (by rw [hx];decide) (hf 8 _ rfl)
  obtain ⟨x9,e9,ft9⟩:=op3.fld cl3 (by rw [hx];decide) (hf 9 _ rfl)
  exact ⟨DPart.mk x0 x1 x2 x3 x4 x5 x6 x7 x8 x9,⟨a0_0,c0_0,a1,c1,a2,c2,a3_0,c3_0,a3_4,c3_4,a4,c4,(join1 e0 (join1 e1 (join1 e2 (join1 e3 (join1 e4 (join1 e5 (join1 e6 (join1 e7 (join1 e8 (join1 e9 (dnil hl cl127))))))))))),r0_0,r1,r2,r3_0,r3_4,r4⟩,(And.intro ft0 (And.intro ft1 (And.intro ft2 (And.intro ft3 (And.intro ft4 (And.intro ft5 (And.intro ft6 (And.intro ft7 (And.intro ft8 ft9)))))))))⟩
theorem ops41:OpS Tryz.prog 41 DPart:=OpS.of Tryz.underlying41 cl127 op127
theorem cl41:Program.cellsOf Tryz.prog 41=1:=by kernel_rfl
theorem cl43:Program.cellsOf Tryz.prog 43=2:=by kernel_rfl
theorem op43:Op Tryz.prog 43 DWorld:=by
  intro H enc W base sp held n cs x h
  obtain ⟨xs,n,rfl,rfl,hl,hx,hf⟩:=DataW.trod_struct Tryz.underlying43 h
  obtain ⟨x0,e0,ft0⟩:=op3.fld cl3 (by rw [hx];decide) (hf 0 _ rfl)
  obtain ⟨a1,c1,x1,e1,r1,ft1⟩:=ops41.fld cl41 (by rw [hx];decide) (hf 1 _ rfl)
  exact ⟨DWorld.mk x0 x1,⟨a1,c1,(join1 e0 (join1 e1 (dnil hl cl43))),r1⟩,(And.intro ft0 ft1)⟩
end Go.Kx
