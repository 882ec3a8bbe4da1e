/- How arguments of each type open as plain data. Printed by genrow.py. -/
import Derived.Test.YtikeaiogpfjdnaaGreatProg
import Derived.Test.YtikeaiogpfjdnaaGreatRow
namespace Go.Kx
open Go Go.RowKit Go.Proofs
set_option maxHeartbeats 8000000
set_option linter.unusedVariables false
set_option linter.unusedSimpArgs false
set_option maxRecDepth 100000
theorem tJ:Op Tryz.prog 3 Int:=Op.int Tryz.underlying3
theorem tI:Program.cellsOf Tryz.prog 3=1:=by kernel_rfl
theorem Ei:zG Tryz.prog 24 Int:=zG.of Tryz.underlying24 tI tJ
theorem Gf:Program.cellsOf Tryz.prog 24=1:=by kernel_rfl
theorem L5:Program.cellsOf Tryz.prog 210=1:=by kernel_rfl
theorem Ob:Op Tryz.prog 210 rm:=by
  intro H enc W base sp held n cs x h
  obtain ⟨xs,n,rfl,rfl,hl,hx,hf⟩:=DataW.trod_struct Tryz.underlying210 h
  obtain ⟨a0,c0,x0,e0,r0,ft0⟩:=Ei.sg Gf (by rw [hx];decide) (hf 0 _ rfl)
  exact ⟨rm.mk x0,⟨a0,c0,(rz e0 (Bh hl L5)),r0⟩,ft0⟩
theorem O8:Op Tryz.prog 4 Bool:=Op.bool Tryz.underlying4
theorem O6:Program.cellsOf Tryz.prog 4=1:=by kernel_rfl
theorem Jr:Program.cellsOf Tryz.prog 217=3:=by kernel_rfl
theorem LD:Op Tryz.prog 217 qa:=by
  intro H enc W base sp held n cs x h
  obtain ⟨xs,n,rfl,rfl,hl,hx,hf⟩:=DataW.trod_struct Tryz.underlying217 h
  obtain ⟨x0,e0,ft0⟩:=tJ.sg tI (by rw [hx];decide) (hf 0 _ rfl)
  obtain ⟨x1,e1,ft1⟩:=tJ.sg tI (by rw [hx];decide) (hf 1 _ rfl)
  obtain ⟨x2,e2,ft2⟩:=tJ.sg tI (by rw [hx];decide) (hf 2 _ rfl)
  exact ⟨qa.mk x0 x1 x2,(rz e0 (rz e1 (rz e2 (Bh hl Jr)))),(And.intro ft0 (And.intro ft1 ft2))⟩
theorem L7:Program.cellsOf Tryz.prog 271=5:=by kernel_rfl
theorem Oz:Op Tryz.prog 271 pW:=by
  intro H enc W base sp held n cs x h
  obtain ⟨xs,n,rfl,rfl,hl,hx,hf⟩:=DataW.trod_struct Tryz.underlying271 h
  obtain ⟨x0,e0,ft0⟩:=O8.sg O6 (by rw [hx];decide) (hf 0 _ rfl)
  obtain ⟨x1,e1,ft1⟩:=tJ.sg tI (by rw [hx];decide) (hf 1 _ rfl)
  obtain ⟨x2,e2,ft2⟩:=LD.sg Jr (by rw [hx];decide) (hf 2 _ rfl)
  exact ⟨pW.mk x0 x1 x2,(rz e0 (rz e1 (rz e2 (Bh hl L7)))),(And.intro ft0 (And.intro ft1 ft2))⟩
theorem Nn:zG Tryz.prog 211 pW:=zG.of Tryz.underlying211 L7 Oz
theorem OL:Program.cellsOf Tryz.prog 211=1:=by kernel_rfl
theorem L6:Program.cellsOf Tryz.prog 290=2:=by kernel_rfl
theorem OR:Op Tryz.prog 290 qt:=by
  intro H enc W base sp held n cs x h
  obtain ⟨xs,n,rfl,rfl,hl,hx,hf⟩:=DataW.trod_struct Tryz.underlying290 h
  obtain ⟨x0,e0,ft0⟩:=tJ.sg tI (by rw [hx];decide) (hf 0 _ rfl)
  obtain ⟨x1,e1,ft1⟩:=tJ.sg tI (by rw [hx];decide) (hf 1 _ rfl)
  exact ⟨qt.mk x0 x1,(rz e0 (rz e1 (Bh hl L6))),(And.intro ft0 ft1)⟩
theorem N5:zG Tryz.prog 281 qt:=zG.of Tryz.underlying281 L6 OR
theorem OM:Program.cellsOf Tryz.prog 281=1:=by kernel_rfl
theorem LJ:Program.cellsOf Tryz.prog 283=13:=by kernel_rfl
theorem Ol:Op Tryz.prog 283 eg:=by
  intro H enc W base sp held n cs x h
  obtain ⟨xs,n,rfl,rfl,hl,hx,hf⟩:=DataW.trod_struct Tryz.underlying283 h
  obtain ⟨x0,e0,ft0⟩:=tJ.sg tI (by rw [hx];decide) (hf 0 _ rfl)
  obtain ⟨x1,e1,ft1⟩:=tJ.sg tI (by rw [hx];decide) (hf 1 _ rfl)
  obtain ⟨x2,e2,ft2⟩:=tJ.sg tI (by rw [hx];decide) (hf 2 _ rfl)
  obtain ⟨x3,e3,ft3⟩:=tJ.sg tI (by rw [hx];decide) (hf 3 _ rfl)
  obtain ⟨x4,e4,ft4⟩:=tJ.sg tI (by rw [hx];decide) (hf 4 _ rfl)
  obtain ⟨x5,e5,ft5⟩:=tJ.sg tI (by rw [hx];decide) (hf 5 _ rfl)
  obtain ⟨x6,e6,ft6⟩:=tJ.sg tI (by rw [hx];decide) (hf 6 _ rfl)
  obtain ⟨x7,e7,ft7⟩:=tJ.sg tI (by rw [hx];decide) (hf 7 _ rfl)
  obtain ⟨x8,e8,ft8⟩:=tJ.sg tI (by rw [hx];decide) (hf 8 _ rfl)
  obtain ⟨x9,e9,ft9⟩:=O8.sg O6 (by rw [hx];decide) (hf 9 _ rfl)
  obtain ⟨a10,c10,x10,e10,r10,ft10⟩:=Ei.sg Gf (by rw [hx];decide) (hf 10 _ rfl)
  obtain ⟨a11,c11,x11,e11,r11,ft11⟩:=Ei.sg Gf (by rw [hx];decide) (hf 11 _ rfl)
  obtain ⟨a12,c12,x12,e12,r12,ft12⟩:=N5.sg OM (by rw [hx];decide) (hf 12 _ rfl)
  exact ⟨eg.mk x0 x1 x2 x3 x4 x5 x6 x7 x8 x9 x10 x11 x12,⟨a10,c10,a11,c11,a12,c12,(rz e0 (rz e1 (rz e2 (rz e3 (rz e4 (rz e5 (rz e6 (rz e7 (rz e8 (rz e9 (rz e10 (rz e11 (rz e12 (Bh hl LJ)))))))))))))),r10,r11,r12⟩,(And.intro ft0 (And.intro ft1 (And.intro ft2 (And.intro ft3 (And.intro ft4 (And.intro ft5 (And.intro ft6 (And.intro ft7 (And.intro ft8 (And.intro ft9 (And.intro ft10 (And.intro ft11 ft12))))))))))))⟩
theorem Nj:zG Tryz.prog 212 eg:=zG.of Tryz.underlying212 LJ Ol
theorem OI:Program.cellsOf Tryz.prog 212=1:=by kernel_rfl
theorem LY:Program.cellsOf Tryz.prog 213=4:=by kernel_rfl
theorem Oh:Op Tryz.prog 213 rr:=by
  intro H enc W base sp held n cs x h
  obtain ⟨xs,n,rfl,rfl,hl,hx,hf⟩:=DataW.trod_struct Tryz.underlying213 h
  obtain ⟨x0,e0,ft0⟩:=tJ.sg tI (by rw [hx];decide) (hf 0 _ rfl)
  obtain ⟨x1,e1,ft1⟩:=tJ.sg tI (by rw [hx];decide) (hf 1 _ rfl)
  obtain ⟨x2,e2,ft2⟩:=tJ.sg tI (by rw [hx];decide) (hf 2 _ rfl)
  obtain ⟨a3,c3,x3,e3,r3,ft3⟩:=Ei.sg Gf (by rw [hx];decide) (hf 3 _ rfl)
  exact ⟨rr.mk x0 x1 x2 x3,⟨a3,c3,(rz e0 (rz e1 (rz e2 (rz e3 (Bh hl LY))))),r3⟩,(And.intro ft0 (And.intro ft1 (And.intro ft2 ft3)))⟩
theorem LL:Program.cellsOf Tryz.prog 215=5:=by kernel_rfl
theorem OA:Op Tryz.prog 215 qe:=by
  intro H enc W base sp held n cs x h
  obtain ⟨xs,n,rfl,rfl,hl,hx,hf⟩:=DataW.trod_struct Tryz.underlying215 h
  obtain ⟨a0,c0,x0,e0,r0,ft0⟩:=Nj.sg OI (by rw [hx];decide) (hf 0 _ rfl)
  obtain ⟨x1,e1,ft1⟩:=Oh.sg LY (by rw [hx];decide) (hf 1 _ rfl)
  obtain ⟨a1_3,c1_3,e1,r1_3⟩:=e1
  exact ⟨qe.mk x0 x1,⟨a0,c0,a1_3,c1_3,(rz e0 (rz e1 (Bh hl LL))),r0,r1_3⟩,(And.intro ft0 ft1)⟩
theorem L8:Program.cellsOf Tryz.prog 275=6:=by kernel_rfl
theorem OQ:Op Tryz.prog 275 qy:=by
  intro H enc W base sp held n cs x h
  obtain ⟨xs,n,rfl,rfl,hl,hx,hf⟩:=DataW.trod_struct Tryz.underlying275 h
  obtain ⟨x0,e0,ft0⟩:=tJ.sg tI (by rw [hx];decide) (hf 0 _ rfl)
  obtain ⟨x1,e1,ft1⟩:=tJ.sg tI (by rw [hx];decide) (hf 1 _ rfl)
  obtain ⟨x2,e2,ft2⟩:=tJ.sg tI (by rw [hx];decide) (hf 2 _ rfl)
  obtain ⟨x3,e3,ft3⟩:=tJ.sg tI (by rw [hx];decide) (hf 3 _ rfl)
  obtain ⟨x4,e4,ft4⟩:=tJ.sg tI (by rw [hx];decide) (hf 4 _ rfl)
  obtain ⟨x5,e5,ft5⟩:=tJ.sg tI (by rw [hx];decide) (hf 5 _ rfl)
  exact ⟨qy.mk x0 x1 x2 x3 x4 x5,(rz e0 (rz e1 (rz e2 (rz e3 (rz e4 (rz e5 (Bh hl L8))))))),(And.intro ft0 (And.intro ft1 (And.intro ft2 (And.intro ft3 (And.intro ft4 ft5)))))⟩
theorem Nq:zG Tryz.prog 216 qy:=zG.of Tryz.underlying216 L8 OQ
theorem OS:Program.cellsOf Tryz.prog 216=1:=by kernel_rfl
theorem LM:Program.cellsOf Tryz.prog 219=16:=by kernel_rfl
theorem Oi:Op Tryz.prog 219 cd:=by
  intro H enc W base sp held n cs x h
  obtain ⟨xs,n,rfl,rfl,hl,hx,hf⟩:=DataW.trod_struct Tryz.underlying219 h
  obtain ⟨x0,e0,ft0⟩:=Ob.sg L5 (by rw [hx];decide) (hf 0 _ rfl)
  obtain ⟨a0_0,c0_0,e0,r0_0⟩:=e0
  obtain ⟨a1,c1,x1,e1,r1,ft1⟩:=Ei.sg Gf (by rw [hx];decide) (hf 1 _ rfl)
  obtain ⟨a2,c2,x2,e2,r2,ft2⟩:=Nn.sg OL (by rw [hx];decide) (hf 2 _ rfl)
  obtain ⟨x3,e3,ft3⟩:=OA.sg LL (by rw [hx];decide) (hf 3 _ rfl)
  obtain ⟨a3_0,c3_0,a3_4,c3_4,e3,r3_0,r3_4⟩:=e3
  obtain ⟨a4,c4,x4,e4,r4,ft4⟩:=Nq.sg OS (by rw [hx];decide) (hf 4 _ rfl)
  obtain ⟨x5,e5,ft5⟩:=tJ.sg tI (by rw [hx];decide) (hf 5 _ rfl)
  obtain ⟨x6,e6,ft6⟩:=tJ.sg tI (by rw [hx];decide) (hf 6 _ rfl)
  obtain ⟨x7,e7,ft7⟩:=LD.sg Jr (by rw [hx];decide) (hf 7 _ rfl)
  obtain ⟨x8,e8,ft8⟩:=tJ.sg tI (by rw [hx];decide) (hf 8 _ rfl)
  obtain ⟨x9,e9,ft9⟩:=tJ.sg tI (by rw [hx];decide) (hf 9 _ rfl)
  exact ⟨cd.mk x0 x1 x2 x3 x4 x5 x6 x7 x8 x9,⟨a0_0,c0_0,a1,c1,a2,c2,a3_0,c3_0,a3_4,c3_4,a4,c4,(rz e0 (rz e1 (rz e2 (rz e3 (rz e4 (rz e5 (rz e6 (rz e7 (rz e8 (rz e9 (Bh hl LM))))))))))),r0_0,r1,r2,r3_0,r3_4,r4⟩,(And.intro ft0 (And.intro ft1 (And.intro ft2 (And.intro ft3 (And.intro ft4 (And.intro ft5 (And.intro ft6 (And.intro ft7 (And.intro ft8 ft9)))))))))⟩
theorem Oe:zG Tryz.prog 94 cd:=zG.of Tryz.underlying94 LM Oi
theorem Pq:Program.cellsOf Tryz.prog 94=1:=by kernel_rfl
theorem Ph:Program.cellsOf Tryz.prog 96=2:=by kernel_rfl
theorem Pm:Op Tryz.prog 96 ql:=by
  intro H enc W base sp held n cs x h
  obtain ⟨xs,n,rfl,rfl,hl,hx,hf⟩:=DataW.trod_struct Tryz.underlying96 h
  obtain ⟨x0,e0,ft0⟩:=tJ.sg tI (by rw [hx];decide) (hf 0 _ rfl)
  obtain ⟨a1,c1,x1,e1,r1,ft1⟩:=Oe.sg Pq (by rw [hx];decide) (hf 1 _ rfl)
  exact ⟨ql.mk x0 x1,⟨a1,c1,(rz e0 (rz e1 (Bh hl Ph))),r1⟩,(And.intro ft0 ft1)⟩
theorem Pf:Program.cellsOf Tryz.prog 97=6:=by kernel_rfl
theorem Pw:Op Tryz.prog 97 qn:=by
  intro H enc W base sp held n cs x h
  obtain ⟨xs,n,rfl,rfl,hl,hx,hf⟩:=DataW.trod_struct Tryz.underlying97 h
  obtain ⟨x0,e0,ft0⟩:=tJ.sg tI (by rw [hx];decide) (hf 0 _ rfl)
  obtain ⟨x1,e1,ft1⟩:=tJ.sg tI (by rw [hx];decide) (hf 1 _ rfl)
  obtain ⟨x2,e2,ft2⟩:=tJ.sg tI (by rw [hx];decide) (hf 2 _ rfl)
  obtain ⟨x3,e3,ft3⟩:=tJ.sg tI (by rw [hx];decide) (hf 3 _ rfl)
  obtain ⟨x4,e4,ft4⟩:=tJ.sg tI (by rw [hx];decide) (hf 4 _ rfl)
  obtain ⟨x5,e5,ft5⟩:=tJ.sg tI (by rw [hx];decide) (hf 5 _ rfl)
  exact ⟨qn.mk x0 x1 x2 x3 x4 x5,(rz e0 (rz e1 (rz e2 (rz e3 (rz e4 (rz e5 (Bh hl Pf))))))),(And.intro ft0 (And.intro ft1 (And.intro ft2 (And.intro ft3 (And.intro ft4 ft5)))))⟩
end Go.Kx
