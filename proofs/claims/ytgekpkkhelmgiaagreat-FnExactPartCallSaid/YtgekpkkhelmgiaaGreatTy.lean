/- How arguments of each type open as plain data. Printed by genrow.py. -/
import Derived.Test.YtgekpkkhelmgiaaGreatProg
import Derived.Test.YtgekpkkhelmgiaaGreatRow
namespace Go.Kx
open Go Go.RowKit Go.Proofs
set_option linter.unusedVariables false
set_option linter.unusedSimpArgs false
set_option maxRecDepth 100000
theorem op3:Op Tryz.prog 3 Int:=Op.int Tryz.underlying3
theorem cl3:Program.cellsOf Tryz.prog 3=1:=by kernel_rfl
theorem ops22:OpS Tryz.prog 22 Int:=OpS.of Tryz.underlying22 cl3 op3
theorem cl22:Program.cellsOf Tryz.prog 22=1:=by kernel_rfl
theorem cl24:Program.cellsOf Tryz.prog 24=1:=by kernel_rfl
theorem op24:Op Tryz.prog 24 DLabel:=by
  intro H enc W base sp held n cs x h
  obtain ⟨xs,n,rfl,rfl,hl,hx,hf⟩:=DataW.trod_struct Tryz.underlying24 h
  obtain ⟨a0,c0,x0,e0,r0,ft0⟩:=ops22.fld cl22 (by rw [hx];decide) (hf 0 _ rfl)
  exact ⟨DLabel.mk x0,⟨a0,c0,(join1 e0 (dnil hl cl24)),r0⟩,ft0⟩
theorem op4:Op Tryz.prog 4 Bool:=Op.bool Tryz.underlying4
theorem cl4:Program.cellsOf Tryz.prog 4=1:=by kernel_rfl
theorem cl33:Program.cellsOf Tryz.prog 33=3:=by kernel_rfl
theorem op33:Op Tryz.prog 33 DAmt:=by
  intro H enc W base sp held n cs x h
  obtain ⟨xs,n,rfl,rfl,hl,hx,hf⟩:=DataW.trod_struct Tryz.underlying33 h
  obtain ⟨x0,e0,ft0⟩:=op3.fld cl3 (by rw [hx];decide) (hf 0 _ rfl)
  obtain ⟨x1,e1,ft1⟩:=op3.fld cl3 (by rw [hx];decide) (hf 1 _ rfl)
  obtain ⟨x2,e2,ft2⟩:=op3.fld cl3 (by rw [hx];decide) (hf 2 _ rfl)
  exact ⟨DAmt.mk x0 x1 x2,(join1 e0 (join1 e1 (join1 e2 (dnil hl cl33)))),(And.intro ft0 (And.intro ft1 ft2))⟩
theorem cl134:Program.cellsOf Tryz.prog 134=5:=by kernel_rfl
theorem op134:Op Tryz.prog 134 DRes:=by
  intro H enc W base sp held n cs x h
  obtain ⟨xs,n,rfl,rfl,hl,hx,hf⟩:=DataW.trod_struct Tryz.underlying134 h
  obtain ⟨x0,e0,ft0⟩:=op4.fld cl4 (by rw [hx];decide) (hf 0 _ rfl)
  obtain ⟨x1,e1,ft1⟩:=op3.fld cl3 (by rw [hx];decide) (hf 1 _ rfl)
  obtain ⟨x2,e2,ft2⟩:=op33.fld cl33 (by rw [hx];decide) (hf 2 _ rfl)
  exact ⟨DRes.mk x0 x1 x2,(join1 e0 (join1 e1 (join1 e2 (dnil hl cl134)))),(And.intro ft0 (And.intro ft1 ft2))⟩
theorem ops25:OpS Tryz.prog 25 DRes:=OpS.of Tryz.underlying25 cl134 op134
theorem cl25:Program.cellsOf Tryz.prog 25=1:=by kernel_rfl
theorem cl178:Program.cellsOf Tryz.prog 178=2:=by kernel_rfl
theorem op178:Op Tryz.prog 178 DMsg:=by
  intro H enc W base sp held n cs x h
  obtain ⟨xs,n,rfl,rfl,hl,hx,hf⟩:=DataW.trod_struct Tryz.underlying178 h
  obtain ⟨x0,e0,ft0⟩:=op3.fld cl3 (by rw [hx];decide) (hf 0 _ rfl)
  obtain ⟨x1,e1,ft1⟩:=op3.fld cl3 (by rw [hx];decide) (hf 1 _ rfl)
  exact ⟨DMsg.mk x0 x1,(join1 e0 (join1 e1 (dnil hl cl178))),(And.intro ft0 ft1)⟩
theorem ops150:OpS Tryz.prog 150 DMsg:=OpS.of Tryz.underlying150 cl178 op178
theorem cl150:Program.cellsOf Tryz.prog 150=1:=by kernel_rfl
theorem cl152:Program.cellsOf Tryz.prog 152=13:=by kernel_rfl
theorem op152:Op Tryz.prog 152 DObj:=by
  intro H enc W base sp held n cs x h
  obtain ⟨xs,n,rfl,rfl,hl,hx,hf⟩:=DataW.trod_struct Tryz.underlying152 h
  obtain ⟨x0,e0,ft0⟩:=op3.fld cl3 (by rw [hx];decide) (hf 0 _ rfl)
  obtain ⟨x1,e1,ft1⟩:=op3.fld cl3 (by rw [hx];decide) (hf 1 _ rfl)
  obtain ⟨x2,e2,ft2⟩:=op3.fld cl3 (by rw [hx];decide) (hf 2 _ rfl)
  obtain ⟨x3,e3,ft3⟩:=op3.fld cl3 (by rw [hx];decide) (hf 3 _ rfl)
  obtain ⟨x4,e4,ft4⟩:=op3.fld cl3 (by rw [hx];decide) (hf 4 _ rfl)
  obtain ⟨x5,e5,ft5⟩:=op3.fld cl3 (by rw [hx];decide) (hf 5 _ rfl)
  obtain ⟨x6,e6,ft6⟩:=op3.fld cl3 (by rw [hx];decide) (hf 6 _ rfl)
  obtain ⟨x7,e7,ft7⟩:=op3.fld cl3 (by rw [hx];decide) (hf 7 _ rfl)
  obtain ⟨x8,e8,ft8⟩:=op3.fld cl3 (by rw [hx];decide) (hf 8 _ rfl)
  obtain ⟨x9,e9,ft9⟩:=op4.fld cl4 (by rw [hx];decide) (hf 9 _ rfl)
  obtain ⟨a10,c10,x10,e10,r10,ft10⟩:=ops22.fld cl22 (by rw [hx];decide) (hf 10 _ rfl)
  obtain ⟨a11,c11,x11,e11,r11,ft11⟩:=ops22.fld cl22 (by rw [hx];decide) (hf 11 _ rfl)
  obtain ⟨a12,c12,x12,e12,r12,ft12⟩:=ops150.fld cl150 (by rw [hx];decide) (hf 12 _ rfl)
  exact ⟨DObj.mk x0 x1 x2 x3 x4 x5 x6 x7 x8 x9 x10 x11 x12,⟨a10,c10,a11,c11,a12,c12,(join1 e0 (join1 e1 (join1 e2 (join1 e3 (join1 e4 (join1 e5 (join1 e6 (join1 e7 (join1 e8 (join1 e9 (join1 e10 (join1 e11 (join1 e12 (dnil hl cl152)))))))))))))),r10,r11,r12⟩,(And.intro ft0 (And.intro ft1 (And.intro ft2 (And.intro ft3 (And.intro ft4 (And.intro ft5 (And.intro ft6 (And.intro ft7 (And.intro ft8 (And.intro ft9 (And.intro ft10 (And.intro ft11 ft12))))))))))))⟩
theorem ops26:OpS Tryz.prog 26 DObj:=OpS.of Tryz.underlying26 cl152 op152
theorem cl26:Program.cellsOf Tryz.prog 26=1:=by kernel_rfl
theorem cl28:Program.cellsOf Tryz.prog 28=4:=by kernel_rfl
theorem op28:Op Tryz.prog 28 DGc:=by
  intro H enc W base sp held n cs x h
  obtain ⟨xs,n,rfl,rfl,hl,hx,hf⟩:=DataW.trod_struct Tryz.underlying28 h
  obtain ⟨x0,e0,ft0⟩:=op3.fld cl3 (by rw [hx];decide) (hf 0 _ rfl)
  obtain ⟨x1,e1,ft1⟩:=op3.fld cl3 (by rw [hx];decide) (hf 1 _ rfl)
  obtain ⟨x2,e2,ft2⟩:=op3.fld cl3 (by rw [hx];decide) (hf 2 _ rfl)
  obtain ⟨a3,c3,x3,e3,r3,ft3⟩:=ops22.fld cl22 (by rw [hx];decide) (hf 3 _ rfl)
  exact ⟨DGc.mk x0 x1 x2 x3,⟨a3,c3,(join1 e0 (join1 e1 (join1 e2 (join1 e3 (dnil hl cl28))))),r3⟩,(And.intro ft0 (And.intro ft1 (And.intro ft2 ft3)))⟩
theorem cl30:Program.cellsOf Tryz.prog 30=5:=by kernel_rfl
theorem op30:Op Tryz.prog 30 DHeap:=by
  intro H enc W base sp held n cs x h
  obtain ⟨xs,n,rfl,rfl,hl,hx,hf⟩:=DataW.trod_struct Tryz.underlying30 h
  obtain ⟨a0,c0,x0,e0,r0,ft0⟩:=ops26.fld cl26 (by rw [hx];decide) (hf 0 _ rfl)
  obtain ⟨x1,e1,ft1⟩:=op28.fld cl28 (by rw [hx];decide) (hf 1 _ rfl)
  obtain ⟨a1_3,c1_3,e1,r1_3⟩:=e1
  exact ⟨DHeap.mk x0 x1,⟨a0,c0,a1_3,c1_3,(join1 e0 (join1 e1 (dnil hl cl30))),r0,r1_3⟩,(And.intro ft0 ft1)⟩
theorem cl138:Program.cellsOf Tryz.prog 138=6:=by kernel_rfl
theorem op138:Op Tryz.prog 138 DTap:=by
  intro H enc W base sp held n cs x h
  obtain ⟨xs,n,rfl,rfl,hl,hx,hf⟩:=DataW.trod_struct Tryz.underlying138 h
  obtain ⟨x0,e0,ft0⟩:=op3.fld cl3 (by rw [hx];decide) (hf 0 _ rfl)
  obtain ⟨x1,e1,ft1⟩:=op3.fld cl3 (by rw [hx];decide) (hf 1 _ rfl)
  obtain ⟨x2,e2,ft2⟩:=op3.fld cl3 (by rw [hx];decide) (hf 2 _ rfl)
  obtain ⟨x3,e3,ft3⟩:=op3.fld cl3 (by rw [hx];decide) (hf 3 _ rfl)
  obtain ⟨x4,e4,ft4⟩:=op3.fld cl3 (by rw [hx];decide) (hf 4 _ rfl)
  obtain ⟨x5,e5,ft5⟩:=op3.fld cl3 (by rw [hx];decide) (hf 5 _ rfl)
  exact ⟨DTap.mk x0 x1 x2 x3 x4 x5,(join1 e0 (join1 e1 (join1 e2 (join1 e3 (join1 e4 (join1 e5 (dnil hl cl138))))))),(And.intro ft0 (And.intro ft1 (And.intro ft2 (And.intro ft3 (And.intro ft4 ft5)))))⟩
theorem ops31:OpS Tryz.prog 31 DTap:=OpS.of Tryz.underlying31 cl138 op138
theorem cl31:Program.cellsOf Tryz.prog 31=1:=by kernel_rfl
theorem cl35:Program.cellsOf Tryz.prog 35=16:=by kernel_rfl
theorem op35:Op Tryz.prog 35 DPart:=by
  intro H enc W base sp held n cs x h
  obtain ⟨xs,n,rfl,rfl,hl,hx,hf⟩:=DataW.trod_struct Tryz.underlying35 h
  obtain ⟨x0,e0,ft0⟩:=op24.fld cl24 (by rw [hx];decide) (hf 0 _ rfl)
  obtain ⟨a0_0,c0_0,e0,r0_0⟩:=e0
  obtain ⟨a1,c1,x1,e1,r1,ft1⟩:=ops22.fld cl22 (by rw [hx];decide) (hf 1 _ rfl)
  obtain ⟨a2,c2,x2,e2,r2,ft2⟩:=ops25.fld cl25 (by rw [hx];decide) (hf 2 _ rfl)
  obtain ⟨x3,e3,ft3⟩:=op30.fld cl30 (by rw [hx];decide) (hf 3 _ rfl)
  obtain ⟨a3_0,c3_0,a3_4,c3_4,e3,r3_0,r3_4⟩:=e3
  obtain ⟨a4,c4,x4,e4,r4,ft4⟩:=ops31.fld cl31 (by rw [hx];decide) (hf 4 _ rfl)
  obtain ⟨x5,e5,ft5⟩:=op3.fld cl3 (by rw [hx];decide) (hf 5 _ rfl)
  obtain ⟨x6,e6,ft6⟩:=op3.fld cl3 (by rw [hx];decide) (hf 6 _ rfl)
  obtain ⟨x7,e7,ft7⟩:=op33.fld cl33 (by rw [hx];decide) (hf 7 _ rfl)
  obtain ⟨x8,e8,ft8⟩:=op3.fld cl3 (by rw [hx];decide) (hf 8 _ rfl)
  obtain ⟨x9,e9,ft9⟩:=op3.fld cl3 (by rw [hx];decide) (hf 9 _ rfl)
  exact ⟨DPart.mk x0 x1 x2 x3 x4 x5 x6 x7 x8 x9,⟨a0_0,c0_0,a1,c1,a2,c2,a3_0,c3_0,a3_4,c3_4,a4,c4,(join1 e0 (join1 e1 (join1 e2 (join1 e3 (join1 e4 (join1 e5 (join1 e6 (join1 e7 (join1 e8 (join1 e9 (dnil hl cl35))))))))))),r0_0,r1,r2,r3_0,r3_4,r4⟩,(And.intro ft0 (And.intro ft1 (And.intro ft2 (And.intro ft3 (And.intro ft4 (And.intro ft5 (And.intro ft6 (And.intro ft7 (And.intro ft8 ft9)))))))))⟩
theorem cl37:Program.cellsOf Tryz.prog 37=6:=by kernel_rfl
theorem op37:Op Tryz.prog 37 DCall:=by
  intro H enc W base sp held n cs x h
  obtain ⟨xs,n,rfl,rfl,hl,hx,hf⟩:=DataW.trod_struct Tryz.underlying37 h
  obtain ⟨x0,e0,ft0⟩:=op3.fld cl3 (by rw [hx];decide) (hf 0 _ rfl)
  obtain ⟨x1,e1,ft1⟩:=op3.fld cl3 (by rw [hx];decide) (hf 1 _ rfl)
  obtain ⟨x2,e2,ft2⟩:=op3.fld cl3 (by rw [hx];decide) (hf 2 _ rfl)
  obtain ⟨x3,e3,ft3⟩:=op3.fld cl3 (by rw [hx];decide) (hf 3 _ rfl)
  obtain ⟨x4,e4,ft4⟩:=op3.fld cl3 (by rw [hx];decide) (hf 4 _ rfl)
  obtain ⟨x5,e5,ft5⟩:=op3.fld cl3 (by rw [hx];decide) (hf 5 _ rfl)
  exact ⟨DCall.mk x0 x1 x2 x3 x4 x5,(join1 e0 (join1 e1 (join1 e2 (join1 e3 (join1 e4 (join1 e5 (dnil hl cl37))))))),(And.intro ft0 (And.intro ft1 (And.intro ft2 (And.intro ft3 (And.intro ft4 ft5)))))⟩
end Go.Kx
