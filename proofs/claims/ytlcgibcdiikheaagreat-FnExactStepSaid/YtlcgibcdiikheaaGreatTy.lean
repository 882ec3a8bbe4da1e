import Derived.Test.YtlcgibcdiikheaaGreatProg
import Derived.Test.YtlcgibcdiikheaaGreatRow
namespace Go.Kx
open Go Go.RowKit Go.Proofs
set_option maxHeartbeats 8000000
set_option linter.unusedVariables false
set_option linter.unusedSimpArgs false
set_option maxRecDepth 100000
theorem uB:Op Tryz.prog 3 Int:=Op.int Tryz.underlying3
theorem ur:Program.cellsOf Tryz.prog 3=1:=by kernel_rfl
theorem Hn:Bf Tryz.prog 37 Int:=Bf.of Tryz.underlying37 ur uB
theorem Kl:Program.cellsOf Tryz.prog 37=1:=by kernel_rfl
theorem QS:Program.cellsOf Tryz.prog 141=1:=by kernel_rfl
theorem TV:Op Tryz.prog 141 rA:=by
  intro H enc W base sp held n cs x h;obtain ⟨xs,n,rfl,rfl,hl,hx,hf⟩:=DataW.trod_struct Tryz.underlying141 h;obtain ⟨a0,c0,x0,e0,r0,ft0⟩:=Hn.sL Kl (by rw [hx];decide) (hf 0 _ rfl);exact ⟨rA.mk x0,⟨a0,c0,(rO e0 (B6 hl QS)),r0⟩,ft0⟩
theorem Uj:Op Tryz.prog 4 Bool:=Op.bool Tryz.underlying4
theorem Uc:Program.cellsOf Tryz.prog 4=1:=by kernel_rfl
theorem NI:Program.cellsOf Tryz.prog 142=3:=by kernel_rfl
theorem QV:Op Tryz.prog 142 qj:=by
  intro H enc W base sp held n cs x h;obtain ⟨xs,n,rfl,rfl,hl,hx,hf⟩:=DataW.trod_struct Tryz.underlying142 h;obtain ⟨x0,e0,ft0⟩:=uB.sL ur (by rw [hx];decide) (hf 0 _ rfl);obtain ⟨x1,e1,ft1⟩:=uB.sL ur (by rw [hx];decide) (hf 1 _ rfl);obtain ⟨x2,e2,ft2⟩:=uB.sL ur (by rw [hx];decide) (hf 2 _ rfl);exact ⟨qj.mk x0 x1 x2,(rO e0 (rO e1 (rO e2 (B6 hl NI)))),(And.intro ft0 (And.intro ft1 ft2))⟩
theorem Qk:Program.cellsOf Tryz.prog 300=5:=by kernel_rfl
theorem TI:Op Tryz.prog 300 qc:=by
  intro H enc W base sp held n cs x h;obtain ⟨xs,n,rfl,rfl,hl,hx,hf⟩:=DataW.trod_struct Tryz.underlying300 h;obtain ⟨x0,e0,ft0⟩:=Uj.sL Uc (by rw [hx];decide) (hf 0 _ rfl);obtain ⟨x1,e1,ft1⟩:=uB.sL ur (by rw [hx];decide) (hf 1 _ rfl);obtain ⟨x2,e2,ft2⟩:=QV.sL NI (by rw [hx];decide) (hf 2 _ rfl);exact ⟨qc.mk x0 x1 x2,(rO e0 (rO e1 (rO e2 (B6 hl Qk)))),(And.intro ft0 (And.intro ft1 ft2))⟩
theorem SZ:Bf Tryz.prog 203 qc:=Bf.of Tryz.underlying203 Qk TI
theorem Tl:Program.cellsOf Tryz.prog 203=1:=by kernel_rfl
theorem Qj:Program.cellsOf Tryz.prog 318=2:=by kernel_rfl
theorem TD:Op Tryz.prog 318 qM:=by
  intro H enc W base sp held n cs x h;obtain ⟨xs,n,rfl,rfl,hl,hx,hf⟩:=DataW.trod_struct Tryz.underlying318 h;obtain ⟨x0,e0,ft0⟩:=uB.sL ur (by rw [hx];decide) (hf 0 _ rfl);obtain ⟨x1,e1,ft1⟩:=uB.sL ur (by rw [hx];decide) (hf 1 _ rfl);exact ⟨qM.mk x0 x1,(rO e0 (rO e1 (B6 hl Qj))),(And.intro ft0 ft1)⟩
theorem SC:Bf Tryz.prog 309 qM:=Bf.of Tryz.underlying309 Qj TD
theorem Tp:Program.cellsOf Tryz.prog 309=1:=by kernel_rfl
theorem Qo:Program.cellsOf Tryz.prog 311=13:=by kernel_rfl
theorem Tq:Op Tryz.prog 311 j8:=by
  intro H enc W base sp held n cs x h;obtain ⟨xs,n,rfl,rfl,hl,hx,hf⟩:=DataW.trod_struct Tryz.underlying311 h;obtain ⟨x0,e0,ft0⟩:=uB.sL ur (by rw [hx];decide) (hf 0 _ rfl);obtain ⟨x1,e1,ft1⟩:=uB.sL ur (by rw [hx];decide) (hf 1 _ rfl);obtain ⟨x2,e2,ft2⟩:=uB.sL ur (by rw [hx];decide) (hf 2 _ rfl);obtain ⟨x3,e3,ft3⟩:=uB.sL ur (by rw [hx];decide) (hf 3 _ rfl);obtain ⟨x4,e4,ft4⟩:=uB.sL ur (by rw [hx];decide) (hf 4 _ rfl);obtain ⟨x5,e5,ft5⟩:=uB.sL ur (by rw [hx];decide) (hf 5 _ rfl);obtain ⟨x6,e6,ft6⟩:=uB.sL ur (by rw [hx];decide) (hf 6 _ rfl);obtain ⟨x7,e7,ft7⟩:=uB.sL ur (by rw [hx];decide) (hf 7 _ rfl);obtain ⟨x8,e8,ft8⟩:=uB.sL ur (by rw [hx];decide) (hf 8 _ rfl);obtain ⟨x9,e9,ft9⟩:=Uj.sL Uc (by rw [hx];decide) (hf 9 _ rfl);obtain ⟨a10,c10,x10,e10,r10,ft10⟩:=Hn.sL Kl (by rw [hx];decide) (hf 10 _ rfl);obtain ⟨a11,c11,x11,e11,r11,ft11⟩:=Hn.sL Kl (by rw [hx];decide) (hf 11 _ rfl);obtain ⟨a12,c12,x12,e12,r12,ft12⟩:=SC.sL Tp (by rw [hx];decide) (hf 12 _ rfl);exact ⟨j8.mk x0 x1 x2 x3 x4 x5 x6 x7 x8 x9 x10 x11 x12,⟨a10,c10,a11,c11,a12,c12,(rO e0 (rO e1 (rO e2 (rO e3 (rO e4 (rO e5 (rO e6 (rO e7 (rO e8 (rO e9 (rO e10 (rO e11 (rO e12 (B6 hl Qo)))))))))))))),r10,r11,r12⟩,(And.intro ft0 (And.intro ft1 (And.intro ft2 (And.intro ft3 (And.intro ft4 (And.intro ft5 (And.intro ft6 (And.intro ft7 (And.intro ft8 (And.intro ft9 (And.intro ft10 (And.intro ft11 ft12))))))))))))⟩
theorem SL:Bf Tryz.prog 204 j8:=Bf.of Tryz.underlying204 Qo Tq
theorem TM:Program.cellsOf Tryz.prog 204=1:=by kernel_rfl
theorem Qx:Program.cellsOf Tryz.prog 205=4:=by kernel_rfl
theorem TL:Op Tryz.prog 205 rl:=by
  intro H enc W base sp held n cs x h;obtain ⟨xs,n,rfl,rfl,hl,hx,hf⟩:=DataW.trod_struct Tryz.underlying205 h;obtain ⟨x0,e0,ft0⟩:=uB.sL ur (by rw [hx];decide) (hf 0 _ rfl);obtain ⟨x1,e1,ft1⟩:=uB.sL ur (by rw [hx];decide) (hf 1 _ rfl);obtain ⟨x2,e2,ft2⟩:=uB.sL ur (by rw [hx];decide) (hf 2 _ rfl);obtain ⟨a3,c3,x3,e3,r3,ft3⟩:=Hn.sL Kl (by rw [hx];decide) (hf 3 _ rfl);exact ⟨rl.mk x0 x1 x2 x3,⟨a3,c3,(rO e0 (rO e1 (rO e2 (rO e3 (B6 hl Qx))))),r3⟩,(And.intro ft0 (And.intro ft1 (And.intro ft2 ft3)))⟩
theorem Qw:Program.cellsOf Tryz.prog 207=5:=by kernel_rfl
theorem T2:Op Tryz.prog 207 qd:=by
  intro H enc W base sp held n cs x h;obtain ⟨xs,n,rfl,rfl,hl,hx,hf⟩:=DataW.trod_struct Tryz.underlying207 h;obtain ⟨a0,c0,x0,e0,r0,ft0⟩:=SL.sL TM (by rw [hx];decide) (hf 0 _ rfl);obtain ⟨x1,e1,ft1⟩:=TL.sL Qx (by rw [hx];decide) (hf 1 _ rfl);obtain ⟨a1_3,c1_3,e1,r1_3⟩:=e1;exact ⟨qd.mk x0 x1,⟨a0,c0,a1_3,c1_3,(rO e0 (rO e1 (B6 hl Qw))),r0,r1_3⟩,(And.intro ft0 ft1)⟩
theorem Qr:Program.cellsOf Tryz.prog 304=6:=by kernel_rfl
theorem TG:Op Tryz.prog 304 qB:=by
  intro H enc W base sp held n cs x h;obtain ⟨xs,n,rfl,rfl,hl,hx,hf⟩:=DataW.trod_struct Tryz.underlying304 h;obtain ⟨x0,e0,ft0⟩:=uB.sL ur (by rw [hx];decide) (hf 0 _ rfl);obtain ⟨x1,e1,ft1⟩:=uB.sL ur (by rw [hx];decide) (hf 1 _ rfl);obtain ⟨x2,e2,ft2⟩:=uB.sL ur (by rw [hx];decide) (hf 2 _ rfl);obtain ⟨x3,e3,ft3⟩:=uB.sL ur (by rw [hx];decide) (hf 3 _ rfl);obtain ⟨x4,e4,ft4⟩:=uB.sL ur (by rw [hx];decide) (hf 4 _ rfl);obtain ⟨x5,e5,ft5⟩:=uB.sL ur (by rw [hx];decide) (hf 5 _ rfl);exact ⟨qB.mk x0 x1 x2 x3 x4 x5,(rO e0 (rO e1 (rO e2 (rO e3 (rO e4 (rO e5 (B6 hl Qr))))))),(And.intro ft0 (And.intro ft1 (And.intro ft2 (And.intro ft3 (And.intro ft4 ft5)))))⟩
theorem SB:Bf Tryz.prog 208 qB:=Bf.of Tryz.underlying208 Qr TG
theorem T5:Program.cellsOf Tryz.prog 208=1:=by kernel_rfl
theorem QK:Program.cellsOf Tryz.prog 210=16:=by kernel_rfl
theorem Ua:Op Tryz.prog 210 cd:=by
  intro H enc W base sp held n cs x h;obtain ⟨xs,n,rfl,rfl,hl,hx,hf⟩:=DataW.trod_struct Tryz.underlying210 h;obtain ⟨x0,e0,ft0⟩:=TV.sL QS (by rw [hx];decide) (hf 0 _ rfl);obtain ⟨a0_0,c0_0,e0,r0_0⟩:=e0;obtain ⟨a1,c1,x1,e1,r1,ft1⟩:=Hn.sL Kl (by rw [hx];decide) (hf 1 _ rfl);obtain ⟨a2,c2,x2,e2,r2,ft2⟩:=SZ.sL Tl (by rw [hx];decide) (hf 2 _ rfl);obtain ⟨x3,e3,ft3⟩:=T2.sL Qw (by rw [hx];decide) (hf 3 _ rfl);obtain ⟨a3_0,c3_0,a3_4,c3_4,e3,r3_0,r3_4⟩:=e3;obtain ⟨a4,c4,x4,e4,r4,ft4⟩:=SB.sL T5 (by rw [hx];decide) (hf 4 _ rfl);obtain ⟨x5,e5,ft5⟩:=uB.sL ur (by rw [hx];decide) (hf 5 _ rfl);obtain ⟨x6,e6,ft6⟩:=uB.sL ur (by rw [hx];decide) (hf 6 _ rfl);obtain ⟨x7,e7,ft7⟩:=QV.sL NI (by rw [hx];decide) (hf 7 _ rfl);obtain ⟨x8,e8,ft8⟩:=uB.sL ur (by rw [hx];decide) (hf 8 _ rfl);obtain ⟨x9,e9,ft9⟩:=uB.sL ur (by rw [hx];decide) (hf 9 _ rfl);exact ⟨cd.mk x0 x1 x2 x3 x4 x5 x6 x7 x8 x9,⟨a0_0,c0_0,a1,c1,a2,c2,a3_0,c3_0,a3_4,c3_4,a4,c4,(rO e0 (rO e1 (rO e2 (rO e3 (rO e4 (rO e5 (rO e6 (rO e7 (rO e8 (rO e9 (B6 hl QK))))))))))),r0_0,r1,r2,r3_0,r3_4,r4⟩,(And.intro ft0 (And.intro ft1 (And.intro ft2 (And.intro ft3 (And.intro ft4 (And.intro ft5 (And.intro ft6 (And.intro ft7 (And.intro ft8 ft9)))))))))⟩
theorem Tk:Bf Tryz.prog 52 cd:=Bf.of Tryz.underlying52 QK Ua
theorem UG:Program.cellsOf Tryz.prog 52=1:=by kernel_rfl
theorem Uw:Program.cellsOf Tryz.prog 54=2:=by kernel_rfl
theorem Ur:Op Tryz.prog 54 qi:=by
  intro H enc W base sp held n cs x h;obtain ⟨xs,n,rfl,rfl,hl,hx,hf⟩:=DataW.trod_struct Tryz.underlying54 h;obtain ⟨x0,e0,ft0⟩:=uB.sL ur (by rw [hx];decide) (hf 0 _ rfl);obtain ⟨a1,c1,x1,e1,r1,ft1⟩:=Tk.sL UG (by rw [hx];decide) (hf 1 _ rfl);exact ⟨qi.mk x0 x1,⟨a1,c1,(rO e0 (rO e1 (B6 hl Uw))),r1⟩,(And.intro ft0 ft1)⟩
theorem SF:Program.cellsOf Tryz.prog 55=6:=by kernel_rfl
theorem Us:Op Tryz.prog 55 qD:=by
  intro H enc W base sp held n cs x h;obtain ⟨xs,n,rfl,rfl,hl,hx,hf⟩:=DataW.trod_struct Tryz.underlying55 h;obtain ⟨x0,e0,ft0⟩:=uB.sL ur (by rw [hx];decide) (hf 0 _ rfl);obtain ⟨x1,e1,ft1⟩:=uB.sL ur (by rw [hx];decide) (hf 1 _ rfl);obtain ⟨x2,e2,ft2⟩:=uB.sL ur (by rw [hx];decide) (hf 2 _ rfl);obtain ⟨x3,e3,ft3⟩:=uB.sL ur (by rw [hx];decide) (hf 3 _ rfl);obtain ⟨x4,e4,ft4⟩:=uB.sL ur (by rw [hx];decide) (hf 4 _ rfl);obtain ⟨x5,e5,ft5⟩:=uB.sL ur (by rw [hx];decide) (hf 5 _ rfl);exact ⟨qD.mk x0 x1 x2 x3 x4 x5,(rO e0 (rO e1 (rO e2 (rO e3 (rO e4 (rO e5 (B6 hl SF))))))),(And.intro ft0 (And.intro ft1 (And.intro ft2 (And.intro ft3 (And.intro ft4 ft5)))))⟩
theorem UF:Program.cellsOf Tryz.prog 57=9:=by kernel_rfl
theorem UU:Op Tryz.prog 57 ui:=by
  intro H enc W base sp held n cs x h;obtain ⟨xs,n,rfl,rfl,hl,hx,hf⟩:=DataW.trod_struct Tryz.underlying57 h;obtain ⟨x0,e0,ft0⟩:=uB.sL ur (by rw [hx];decide) (hf 0 _ rfl);obtain ⟨x1,e1,ft1⟩:=uB.sL ur (by rw [hx];decide) (hf 1 _ rfl);obtain ⟨x2,e2,ft2⟩:=uB.sL ur (by rw [hx];decide) (hf 2 _ rfl);obtain ⟨x3,e3,ft3⟩:=Us.sL SF (by rw [hx];decide) (hf 3 _ rfl);exact ⟨ui.mk x0 x1 x2 x3,(rO e0 (rO e1 (rO e2 (rO e3 (B6 hl UF))))),(And.intro ft0 (And.intro ft1 (And.intro ft2 ft3)))⟩
end Go.Kx
