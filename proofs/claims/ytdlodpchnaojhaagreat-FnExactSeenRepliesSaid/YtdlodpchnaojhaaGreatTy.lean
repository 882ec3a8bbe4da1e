import Derived.Test.YtdlodpchnaojhaaGreatProg
import Derived.Test.YtdlodpchnaojhaaGreatRow
namespace Go.Kx
open Go Go.RowKit Go.Proofs
set_option maxHeartbeats 8000000
set_option linter.unusedVariables false
set_option linter.unusedSimpArgs false
set_option maxRecDepth 100000
theorem wJ:Op Tryz.prog 3 Int:=Op.int Tryz.underlying3
theorem wL:Program.cellsOf Tryz.prog 3=1:=by kernel_rfl
theorem J6:xL Tryz.prog 32 Int:=xL.of Tryz.underlying32 wL wJ
theorem LF:Program.cellsOf Tryz.prog 32=1:=by kernel_rfl
theorem Li:Program.cellsOf Tryz.prog 59=1:=by kernel_rfl
theorem LM:Op Tryz.prog 59 iI:=by
  intro H enc W base sp held n cs x h;obtain ⟨xs,n,rfl,rfl,hl,hx,hf⟩:=DataW.trod_struct Tryz.underlying59 h;obtain ⟨a0,c0,x0,e0,r0,ft0⟩:=J6.tM LF (by rw [hx];decide) (hf 0 _ rfl);exact ⟨iI.mk x0,⟨a0,c0,(oe e0 (D6 hl Li)),r0⟩,ft0⟩
theorem Kj:Program.cellsOf Tryz.prog 128=3:=by kernel_rfl
theorem MM:Op Tryz.prog 128 hJ:=by
  intro H enc W base sp held n cs x h;obtain ⟨xs,n,rfl,rfl,hl,hx,hf⟩:=DataW.trod_struct Tryz.underlying128 h;obtain ⟨x0,e0,ft0⟩:=wJ.tM wL (by rw [hx];decide) (hf 0 _ rfl);obtain ⟨x1,e1,ft1⟩:=wJ.tM wL (by rw [hx];decide) (hf 1 _ rfl);obtain ⟨x2,e2,ft2⟩:=wJ.tM wL (by rw [hx];decide) (hf 2 _ rfl);exact ⟨hJ.mk x0 x1 x2,(oe e0 (oe e1 (oe e2 (D6 hl Kj)))),(And.intro ft0 (And.intro ft1 ft2))⟩
theorem Ka:Program.cellsOf Tryz.prog 130=5:=by kernel_rfl
theorem MB:Op Tryz.prog 130 iC:=by
  intro H enc W base sp held n cs x h;obtain ⟨xs,n,rfl,rfl,hl,hx,hf⟩:=DataW.trod_struct Tryz.underlying130 h;obtain ⟨x0,e0,ft0⟩:=LM.tM Li (by rw [hx];decide) (hf 0 _ rfl);obtain ⟨a0_0,c0_0,e0,r0_0⟩:=e0;obtain ⟨a1,c1,x1,e1,r1,ft1⟩:=J6.tM LF (by rw [hx];decide) (hf 1 _ rfl);obtain ⟨x2,e2,ft2⟩:=MM.tM Kj (by rw [hx];decide) (hf 2 _ rfl);exact ⟨iC.mk x0 x1 x2,⟨a0_0,c0_0,a1,c1,(oe e0 (oe e1 (oe e2 (D6 hl Ka)))),r0_0,r1⟩,(And.intro ft0 (And.intro ft1 ft2))⟩
theorem ML:xL Tryz.prog 57 iC:=xL.of Tryz.underlying57 Ka MB
theorem Mc:Program.cellsOf Tryz.prog 81=6:=by kernel_rfl
theorem Nl:Op Tryz.prog 81 ir:=by
  intro H enc W base sp held n cs x h;obtain ⟨xs,n,rfl,rfl,hl,hx,hf⟩:=DataW.trod_struct Tryz.underlying81 h;obtain ⟨x0,e0,ft0⟩:=wJ.tM wL (by rw [hx];decide) (hf 0 _ rfl);obtain ⟨x1,e1,ft1⟩:=wJ.tM wL (by rw [hx];decide) (hf 1 _ rfl);obtain ⟨x2,e2,ft2⟩:=wJ.tM wL (by rw [hx];decide) (hf 2 _ rfl);obtain ⟨x3,e3,ft3⟩:=wJ.tM wL (by rw [hx];decide) (hf 3 _ rfl);obtain ⟨x4,e4,ft4⟩:=wJ.tM wL (by rw [hx];decide) (hf 4 _ rfl);obtain ⟨x5,e5,ft5⟩:=wJ.tM wL (by rw [hx];decide) (hf 5 _ rfl);exact ⟨ir.mk x0 x1 x2 x3 x4 x5,(oe e0 (oe e1 (oe e2 (oe e3 (oe e4 (oe e5 (D6 hl Mc))))))),(And.intro ft0 (And.intro ft1 (And.intro ft2 (And.intro ft3 (And.intro ft4 ft5)))))⟩
theorem Mb:Program.cellsOf Tryz.prog 83=9:=by kernel_rfl
theorem NF:Op Tryz.prog 83 iA:=by
  intro H enc W base sp held n cs x h;obtain ⟨xs,n,rfl,rfl,hl,hx,hf⟩:=DataW.trod_struct Tryz.underlying83 h;obtain ⟨x0,e0,ft0⟩:=wJ.tM wL (by rw [hx];decide) (hf 0 _ rfl);obtain ⟨x1,e1,ft1⟩:=wJ.tM wL (by rw [hx];decide) (hf 1 _ rfl);obtain ⟨x2,e2,ft2⟩:=wJ.tM wL (by rw [hx];decide) (hf 2 _ rfl);obtain ⟨x3,e3,ft3⟩:=Nl.tM Mc (by rw [hx];decide) (hf 3 _ rfl);exact ⟨iA.mk x0 x1 x2 x3,(oe e0 (oe e1 (oe e2 (oe e3 (D6 hl Mb))))),(And.intro ft0 (And.intro ft1 (And.intro ft2 ft3)))⟩
theorem MH:xL Tryz.prog 58 iA:=xL.of Tryz.underlying58 Mb NF
end Go.Kx
