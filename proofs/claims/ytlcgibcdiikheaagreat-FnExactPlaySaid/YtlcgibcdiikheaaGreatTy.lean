import Derived.Test.YtlcgibcdiikheaaGreatProg
import Derived.Test.YtlcgibcdiikheaaGreatRow
namespace Go.Kx
open Go Go.RowKit Go.Proofs
set_option maxHeartbeats 8000000
set_option linter.unusedVariables false
set_option linter.unusedSimpArgs false
set_option maxRecDepth 100000
theorem xB:Op Tryz.prog 3 Int:=Op.int Tryz.underlying3
theorem xq:Program.cellsOf Tryz.prog 3=1:=by kernel_rfl
theorem Lu:yy Tryz.prog 37 Int:=yy.of Tryz.underlying37 xq xB
theorem Nq:Program.cellsOf Tryz.prog 37=1:=by kernel_rfl
theorem Lh:Program.cellsOf Tryz.prog 141=1:=by kernel_rfl
theorem NP:Op Tryz.prog 141 iY:=by
  intro H enc W base sp held n cs x h;obtain ⟨xs,n,rfl,rfl,hl,hx,hf⟩:=DataW.trod_struct Tryz.underlying141 h;obtain ⟨a0,c0,x0,e0,r0,ft0⟩:=Lu.ur Nq (by rw [hx];decide) (hf 0 _ rfl);exact ⟨iY.mk x0,⟨a0,c0,(n8 e0 (Eg hl Lh)),r0⟩,ft0⟩
theorem K3:Program.cellsOf Tryz.prog 142=3:=by kernel_rfl
theorem Od:Op Tryz.prog 142 hO:=by
  intro H enc W base sp held n cs x h;obtain ⟨xs,n,rfl,rfl,hl,hx,hf⟩:=DataW.trod_struct Tryz.underlying142 h;obtain ⟨x0,e0,ft0⟩:=xB.ur xq (by rw [hx];decide) (hf 0 _ rfl);obtain ⟨x1,e1,ft1⟩:=xB.ur xq (by rw [hx];decide) (hf 1 _ rfl);obtain ⟨x2,e2,ft2⟩:=xB.ur xq (by rw [hx];decide) (hf 2 _ rfl);exact ⟨hO.mk x0 x1 x2,(n8 e0 (n8 e1 (n8 e2 (Eg hl K3)))),(And.intro ft0 (And.intro ft1 ft2))⟩
theorem KZ:Program.cellsOf Tryz.prog 144=5:=by kernel_rfl
theorem NN:Op Tryz.prog 144 iO:=by
  intro H enc W base sp held n cs x h;obtain ⟨xs,n,rfl,rfl,hl,hx,hf⟩:=DataW.trod_struct Tryz.underlying144 h;obtain ⟨x0,e0,ft0⟩:=NP.ur Lh (by rw [hx];decide) (hf 0 _ rfl);obtain ⟨a0_0,c0_0,e0,r0_0⟩:=e0;obtain ⟨a1,c1,x1,e1,r1,ft1⟩:=Lu.ur Nq (by rw [hx];decide) (hf 1 _ rfl);obtain ⟨x2,e2,ft2⟩:=Od.ur K3 (by rw [hx];decide) (hf 2 _ rfl);exact ⟨iO.mk x0 x1 x2,⟨a0_0,c0_0,a1,c1,(n8 e0 (n8 e1 (n8 e2 (Eg hl KZ)))),r0_0,r1⟩,(And.intro ft0 (And.intro ft1 ft2))⟩
theorem NR:yy Tryz.prog 67 iO:=yy.of Tryz.underlying67 KZ NN
theorem NC:Program.cellsOf Tryz.prog 55=6:=by kernel_rfl
theorem OO:Op Tryz.prog 55 iA:=by
  intro H enc W base sp held n cs x h;obtain ⟨xs,n,rfl,rfl,hl,hx,hf⟩:=DataW.trod_struct Tryz.underlying55 h;obtain ⟨x0,e0,ft0⟩:=xB.ur xq (by rw [hx];decide) (hf 0 _ rfl);obtain ⟨x1,e1,ft1⟩:=xB.ur xq (by rw [hx];decide) (hf 1 _ rfl);obtain ⟨x2,e2,ft2⟩:=xB.ur xq (by rw [hx];decide) (hf 2 _ rfl);obtain ⟨x3,e3,ft3⟩:=xB.ur xq (by rw [hx];decide) (hf 3 _ rfl);obtain ⟨x4,e4,ft4⟩:=xB.ur xq (by rw [hx];decide) (hf 4 _ rfl);obtain ⟨x5,e5,ft5⟩:=xB.ur xq (by rw [hx];decide) (hf 5 _ rfl);exact ⟨iA.mk x0 x1 x2 x3 x4 x5,(n8 e0 (n8 e1 (n8 e2 (n8 e3 (n8 e4 (n8 e5 (Eg hl NC))))))),(And.intro ft0 (And.intro ft1 (And.intro ft2 (And.intro ft3 (And.intro ft4 ft5)))))⟩
theorem M0:Program.cellsOf Tryz.prog 57=9:=by kernel_rfl
theorem OK:Op Tryz.prog 57 iK:=by
  intro H enc W base sp held n cs x h;obtain ⟨xs,n,rfl,rfl,hl,hx,hf⟩:=DataW.trod_struct Tryz.underlying57 h;obtain ⟨x0,e0,ft0⟩:=xB.ur xq (by rw [hx];decide) (hf 0 _ rfl);obtain ⟨x1,e1,ft1⟩:=xB.ur xq (by rw [hx];decide) (hf 1 _ rfl);obtain ⟨x2,e2,ft2⟩:=xB.ur xq (by rw [hx];decide) (hf 2 _ rfl);obtain ⟨x3,e3,ft3⟩:=OO.ur NC (by rw [hx];decide) (hf 3 _ rfl);exact ⟨iK.mk x0 x1 x2 x3,(n8 e0 (n8 e1 (n8 e2 (n8 e3 (Eg hl M0))))),(And.intro ft0 (And.intro ft1 (And.intro ft2 ft3)))⟩
theorem N3:yy Tryz.prog 68 iK:=yy.of Tryz.underlying68 M0 OK
end Go.Kx
