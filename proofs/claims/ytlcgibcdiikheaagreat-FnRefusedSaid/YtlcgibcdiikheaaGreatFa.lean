import Derived.Test.YtlcgibcdiikheaaGreatProg
import Derived.Test.YtlcgibcdiikheaaGreatGo
namespace Go.Kx
open Go Go.RowKit Go.Proofs
set_option maxRecDepth 10000
set_option maxHeartbeats 8000000
set_option linter.unusedVariables false
set_option linter.unusedSimpArgs false
theorem xX:jR Tryz.prog 101=some (some 13):=by kernel_rfl
theorem LH:jR Tryz.prog 108=some (some 5):=by kernel_rfl
theorem Oa:jR Tryz.prog 172=some (some 5):=by kernel_rfl
theorem Lh:jR Tryz.prog 174=some (some 6):=by kernel_rfl
theorem Ly:jR Tryz.prog 193=some (some 2):=by kernel_rfl
theorem OO:jR Tryz.prog 22=some none:=by kernel_rfl
theorem OR:jR Tryz.prog 24=some none:=by kernel_rfl
theorem rR:jR Tryz.prog 26=some (some 2):=by kernel_rfl
theorem KY:jR Tryz.prog 28=some (some 6):=by kernel_rfl
theorem na:jR Tryz.prog 3=some none:=by kernel_rfl
theorem lM:jR Tryz.prog 32=some (some 2):=by kernel_rfl
theorem BB:jR Tryz.prog 37=some none:=by kernel_rfl
theorem Ao:jR Tryz.prog 39=some (some 1):=by kernel_rfl
theorem MU:jR Tryz.prog 4=some none:=by kernel_rfl
theorem OS:jR Tryz.prog 40=some none:=by kernel_rfl
theorem z9:jR Tryz.prog 41=some none:=by kernel_rfl
theorem O3:jR Tryz.prog 43=some (some 4):=by kernel_rfl
theorem KQ:jR Tryz.prog 45=some (some 5):=by kernel_rfl
theorem C3:jR Tryz.prog 46=some none:=by kernel_rfl
theorem DQ:jR Tryz.prog 48=some (some 3):=by kernel_rfl
theorem Pg:jR Tryz.prog 5=some none:=by kernel_rfl
theorem lV:jR Tryz.prog 50=some (some 16):=by kernel_rfl
theorem Pn:jR Tryz.prog 9=some none:=by kernel_rfl
theorem rn:jR Tryz.prog 99=some none:=by kernel_rfl
theorem Hy:Program.eqGuardType Tryz.prog Tryz.prog.depth 172=false:=by kernel_rfl
theorem Oo:Program.eqGuardType Tryz.prog Tryz.prog.depth 174=false:=by kernel_rfl
theorem Ln:Program.eqGuardType Tryz.prog Tryz.prog.depth 193=false:=by kernel_rfl
theorem O1:Program.eqGuardType Tryz.prog Tryz.prog.depth 32=false:=by kernel_rfl
theorem O2:Program.eqGuardType Tryz.prog Tryz.prog.depth 48=false:=by kernel_rfl
theorem H5:∀ (a b:im) (w:World),(Op.equalIn 10000 172 (.agg #[.bool a.PN,.int .i64 a.PM,.int .i64 a.iI.bh,.int .i64 a.iI.ib,.int .i64 a.iI.ij]) (.agg #[.bool b.PN,.int .i64 b.PM,.int .i64 b.iI.bh,.int .i64 b.iI.ib,.int .i64 b.iI.ij])).run Tryz.prog w=.ok (decide (a=b)) w:=fun a b w=>mP.top (n:=2) (mP.agg (n:=1) Tryz.underlying172 (by kernel_rfl) (nJ.one rfl MU rfl rfl (mP.bool Tryz.underlying4) (nJ.one rfl na rfl rfl (mP.int Tryz.underlying3) (nJ.more rfl DQ (mP.agg (n:=0) Tryz.underlying48 (by kernel_rfl) (nJ.one rfl na rfl rfl (mP.int Tryz.underlying3) (nJ.one rfl na rfl rfl (mP.int Tryz.underlying3) (nJ.one rfl na rfl rfl (mP.int Tryz.underlying3) nJ.nil)))) nJ.nil)))) (by decide) (by
  obtain ⟨x0,x1,⟨x2,x3,x4⟩⟩:=a;obtain ⟨y0,y1,⟨y2,y3,y4⟩⟩:=b
  simp [ic.mk.injEq,im.mk.injEq,Bool.beq_eq_decide_eq,Bool.decide_and]) w
theorem N3:∀ (a b:iZ) (w:World),(Op.equalIn 10000 174 (.agg #[.int .i64 a.res,.int .i64 a.km,.int .i64 a.nu,.int .i64 a.kT,.int .i64 a.Pz,.int .i64 a.mA]) (.agg #[.int .i64 b.res,.int .i64 b.km,.int .i64 b.nu,.int .i64 b.kT,.int .i64 b.Pz,.int .i64 b.mA])).run Tryz.prog w=.ok (decide (a=b)) w:=fun a b w=>mP.top (n:=1) (mP.agg (n:=0) Tryz.underlying174 (by kernel_rfl) (nJ.one rfl na rfl rfl (mP.int Tryz.underlying3) (nJ.one rfl na rfl rfl (mP.int Tryz.underlying3) (nJ.one rfl na rfl rfl (mP.int Tryz.underlying3) (nJ.one rfl na rfl rfl (mP.int Tryz.underlying3) (nJ.one rfl na rfl rfl (mP.int Tryz.underlying3) (nJ.one rfl na rfl rfl (mP.int Tryz.underlying3) nJ.nil))))))) (by decide) (by
  obtain ⟨x0,x1,x2,x3,x4,x5⟩:=a;obtain ⟨y0,y1,y2,y3,y4,y5⟩:=b
  simp [iZ.mk.injEq,Bool.beq_eq_decide_eq,Bool.decide_and]) w
theorem Ls:∀ (a b:je) (w:World),(Op.equalIn 10000 193 (.agg #[.int .i64 a.PS,.int .i64 a.n]) (.agg #[.int .i64 b.PS,.int .i64 b.n])).run Tryz.prog w=.ok (decide (a=b)) w:=fun a b w=>mP.top (n:=1) (mP.agg (n:=0) Tryz.underlying193 (by kernel_rfl) (nJ.one rfl na rfl rfl (mP.int Tryz.underlying3) (nJ.one rfl na rfl rfl (mP.int Tryz.underlying3) nJ.nil))) (by decide) (by
  obtain ⟨x0,x1⟩:=a;obtain ⟨y0,y1⟩:=b
  simp [je.mk.injEq,Bool.beq_eq_decide_eq,Bool.decide_and]) w
theorem Pa:∀ (a b:iG) (w:World),(Op.equalIn 10000 32 (.agg #[.int .i64 a.code,.int .i64 a.PR]) (.agg #[.int .i64 b.code,.int .i64 b.PR])).run Tryz.prog w=.ok (decide (a=b)) w:=fun a b w=>mP.top (n:=1) (mP.agg (n:=0) Tryz.underlying32 (by kernel_rfl) (nJ.one rfl na rfl rfl (mP.int Tryz.underlying3) (nJ.one rfl na rfl rfl (mP.int Tryz.underlying3) nJ.nil))) (by decide) (by
  obtain ⟨x0,x1⟩:=a;obtain ⟨y0,y1⟩:=b
  simp [iG.mk.injEq,Bool.beq_eq_decide_eq,Bool.decide_and]) w
theorem OV:∀ (a b:ic) (w:World),(Op.equalIn 10000 48 (.agg #[.int .i64 a.bh,.int .i64 a.ib,.int .i64 a.ij]) (.agg #[.int .i64 b.bh,.int .i64 b.ib,.int .i64 b.ij])).run Tryz.prog w=.ok (decide (a=b)) w:=fun a b w=>mP.top (n:=1) (mP.agg (n:=0) Tryz.underlying48 (by kernel_rfl) (nJ.one rfl na rfl rfl (mP.int Tryz.underlying3) (nJ.one rfl na rfl rfl (mP.int Tryz.underlying3) (nJ.one rfl na rfl rfl (mP.int Tryz.underlying3) nJ.nil)))) (by decide) (by
  obtain ⟨x0,x1,x2⟩:=a;obtain ⟨y0,y1,y2⟩:=b
  simp [ic.mk.injEq,Bool.beq_eq_decide_eq,Bool.decide_and]) w
theorem DN:fo Tryz.prog 101 10=some (10,none):=by kernel_rfl
theorem LU:fo Tryz.prog 101 3=some (3,none):=by kernel_rfl
theorem LL:fo Tryz.prog 101 5=some (5,none):=by kernel_rfl
theorem MD:fo Tryz.prog 188 0=some (0,some 16):=by kernel_rfl
theorem M9:fo Tryz.prog 28 2=some (2,none):=by kernel_rfl
theorem M3:fo Tryz.prog 50 0=some (0,some 1):=by kernel_rfl
theorem On:u7 Tryz.prog 224=true:=by kernel_rfl
theorem D6:n7 Tryz.prog 24 cd:=n7.of (b:=224) (by kernel_rfl) rfl
theorem nb:n7 Tryz.prog 37 Int:=n7.of (b:=8) (by kernel_rfl) rfl
theorem KO:n7 Tryz.prog 40 im:=n7.of (b:=40) (by kernel_rfl) rfl
theorem KD:n7 Tryz.prog 41 gE:=n7.of (b:=152) (by kernel_rfl) rfl
theorem tB:n7 Tryz.prog 46 iZ:=n7.of (b:=48) (by kernel_rfl) rfl
theorem OU:n7 Tryz.prog 74 ku:=n7.of (b:=72) (by kernel_rfl) rfl
theorem NI:n7 Tryz.prog 95 Bool:=n7.of (b:=1) (by kernel_rfl) rfl
theorem rK:n7 Tryz.prog 99 je:=n7.of (b:=16) (by kernel_rfl) rfl
theorem Oy:n7 Tryz.prog 41 pY:=n7.of (b:=152) (by kernel_rfl) rfl
theorem vO:pR Tryz.prog 101=some 13:=by kernel_rfl
theorem Ot:pR Tryz.prog 108=some 5:=by kernel_rfl
theorem CZ:pR Tryz.prog 172=some 5:=by kernel_rfl
theorem xR:pR Tryz.prog 174=some 6:=by kernel_rfl
theorem GS:pR Tryz.prog 193=some 2:=by kernel_rfl
theorem GB:pR Tryz.prog 3=some 1:=by kernel_rfl
theorem Px:pR Tryz.prog 4=some 1:=by kernel_rfl
theorem Pe:pR Tryz.prog 5=some 1:=by kernel_rfl
theorem Pc:pR Tryz.prog 50=some 16:=by kernel_rfl
theorem Pl:pR Tryz.prog 9=some 1:=by kernel_rfl
theorem NZ:zeroV Tryz.prog 101=some (.agg #[.int .i64 0,.int .i64 0,.int .i64 0,.int .i64 0,.int .i64 0,.int .i64 0,.int .i64 0,.int .i64 0,.int .i64 0,.bool false,.slice none 0 0,.slice none 0 0,.slice none 0 0]):=by kernel_rfl
theorem N5:zeroV Tryz.prog 108=some (.agg #[.slice none 0 0,.slice none 0 0,.int .i64 0,.int .i64 0,.int .i64 0]):=by kernel_rfl
theorem N1:zeroV Tryz.prog 172=some (.agg #[.bool false,.int .i64 0,.int .i64 0,.int .i64 0,.int .i64 0]):=by kernel_rfl
theorem Om:zeroV Tryz.prog 174=some (.agg #[.int .i64 0,.int .i64 0,.int .i64 0,.int .i64 0,.int .i64 0,.int .i64 0]):=by kernel_rfl
theorem Oh:zeroV Tryz.prog 193=some (.agg #[.int .i64 0,.int .i64 0]):=by kernel_rfl
theorem O8:zeroV Tryz.prog 26=some (.agg #[.int .i64 0,.slice none 0 0]):=by kernel_rfl
theorem Pb:zeroV Tryz.prog 28=some (.agg #[.int .i64 0,.int .i64 0,.int .i64 0,.int .i64 0,.int .i64 0,.int .i64 0]):=by kernel_rfl
theorem ON:zeroV Tryz.prog 32=some (.agg #[.int .i64 0,.int .i64 0]):=by kernel_rfl
theorem OP:zeroV Tryz.prog 39=some (.agg #[.slice none 0 0]):=by kernel_rfl
theorem O9:zeroV Tryz.prog 43=some (.agg #[.int .i64 0,.int .i64 0,.int .i64 0,.slice none 0 0]):=by kernel_rfl
theorem O4:zeroV Tryz.prog 45=some (.agg #[.slice none 0 0,.int .i64 0,.int .i64 0,.int .i64 0,.slice none 0 0]):=by kernel_rfl
theorem OZ:zeroV Tryz.prog 48=some (.agg #[.int .i64 0,.int .i64 0,.int .i64 0]):=by kernel_rfl
theorem O5:zeroV Tryz.prog 50=some (.agg #[.slice none 0 0,.slice none 0 0,.slice none 0 0,.slice none 0 0,.int .i64 0,.int .i64 0,.int .i64 0,.slice none 0 0,.slice none 0 0,.int .i64 0,.int .i64 0,.int .i64 0,.int .i64 0,.int .i64 0,.int .i64 0,.int .i64 0]):=by kernel_rfl
instance:lS Tryz.prog 101 (some 13):=⟨xX⟩
instance:lS Tryz.prog 108 (some 5):=⟨LH⟩
instance:lS Tryz.prog 172 (some 5):=⟨Oa⟩
instance:lS Tryz.prog 174 (some 6):=⟨Lh⟩
instance:lS Tryz.prog 193 (some 2):=⟨Ly⟩
instance:lS Tryz.prog 22 none:=⟨OO⟩
instance:lS Tryz.prog 24 none:=⟨OR⟩
instance:lS Tryz.prog 26 (some 2):=⟨rR⟩
instance:lS Tryz.prog 28 (some 6):=⟨KY⟩
instance:lS Tryz.prog 3 none:=⟨na⟩
instance:lS Tryz.prog 32 (some 2):=⟨lM⟩
instance:lS Tryz.prog 37 none:=⟨BB⟩
instance:lS Tryz.prog 39 (some 1):=⟨Ao⟩
instance:lS Tryz.prog 4 none:=⟨MU⟩
instance:lS Tryz.prog 40 none:=⟨OS⟩
instance:lS Tryz.prog 41 none:=⟨z9⟩
instance:lS Tryz.prog 43 (some 4):=⟨O3⟩
instance:lS Tryz.prog 45 (some 5):=⟨KQ⟩
instance:lS Tryz.prog 46 none:=⟨C3⟩
instance:lS Tryz.prog 48 (some 3):=⟨DQ⟩
instance:lS Tryz.prog 5 none:=⟨Pg⟩
instance:lS Tryz.prog 50 (some 16):=⟨lV⟩
instance:lS Tryz.prog 9 none:=⟨Pn⟩
instance:lS Tryz.prog 99 none:=⟨rn⟩
instance:kt Tryz.prog 101 0 0 none:=⟨by kernel_rfl⟩
instance:kt Tryz.prog 101 1 1 none:=⟨by kernel_rfl⟩
instance:kt Tryz.prog 101 10 10 none:=⟨by kernel_rfl⟩
instance:kt Tryz.prog 101 11 11 none:=⟨by kernel_rfl⟩
instance:kt Tryz.prog 101 12 12 none:=⟨by kernel_rfl⟩
instance:kt Tryz.prog 101 2 2 none:=⟨by kernel_rfl⟩
instance:kt Tryz.prog 101 3 3 none:=⟨by kernel_rfl⟩
instance:kt Tryz.prog 101 4 4 none:=⟨by kernel_rfl⟩
instance:kt Tryz.prog 101 5 5 none:=⟨by kernel_rfl⟩
instance:kt Tryz.prog 101 6 6 none:=⟨by kernel_rfl⟩
instance:kt Tryz.prog 101 7 7 none:=⟨by kernel_rfl⟩
instance:kt Tryz.prog 101 8 8 none:=⟨by kernel_rfl⟩
instance:kt Tryz.prog 101 9 9 none:=⟨by kernel_rfl⟩
instance:kt Tryz.prog 108 0 0 (some 1):=⟨by kernel_rfl⟩
instance:kt Tryz.prog 108 1 1 none:=⟨by kernel_rfl⟩
instance:kt Tryz.prog 108 2 2 (some 3):=⟨by kernel_rfl⟩
instance:kt Tryz.prog 172 0 0 none:=⟨by kernel_rfl⟩
instance:kt Tryz.prog 172 1 1 none:=⟨by kernel_rfl⟩
instance:kt Tryz.prog 172 2 2 (some 3):=⟨by kernel_rfl⟩
instance:kt Tryz.prog 174 0 0 none:=⟨by kernel_rfl⟩
instance:kt Tryz.prog 174 1 1 none:=⟨by kernel_rfl⟩
instance:kt Tryz.prog 174 2 2 none:=⟨by kernel_rfl⟩
instance:kt Tryz.prog 174 3 3 none:=⟨by kernel_rfl⟩
instance:kt Tryz.prog 174 4 4 none:=⟨by kernel_rfl⟩
instance:kt Tryz.prog 174 5 5 none:=⟨by kernel_rfl⟩
instance:kt Tryz.prog 177 0 0 none:=⟨by kernel_rfl⟩
instance:kt Tryz.prog 177 1 1 none:=⟨by kernel_rfl⟩
instance:kt Tryz.prog 177 2 2 none:=⟨by kernel_rfl⟩
instance:kt Tryz.prog 188 0 0 (some 16):=⟨by kernel_rfl⟩
instance:kt Tryz.prog 188 1 16 none:=⟨by kernel_rfl⟩
instance:kt Tryz.prog 188 2 17 none:=⟨by kernel_rfl⟩
instance:kt Tryz.prog 188 3 18 none:=⟨by kernel_rfl⟩
instance:kt Tryz.prog 193 0 0 none:=⟨by kernel_rfl⟩
instance:kt Tryz.prog 193 1 1 none:=⟨by kernel_rfl⟩
instance:kt Tryz.prog 26 0 0 none:=⟨by kernel_rfl⟩
instance:kt Tryz.prog 26 1 1 none:=⟨by kernel_rfl⟩
instance:kt Tryz.prog 28 0 0 none:=⟨by kernel_rfl⟩
instance:kt Tryz.prog 28 1 1 none:=⟨by kernel_rfl⟩
instance:kt Tryz.prog 28 2 2 none:=⟨by kernel_rfl⟩
instance:kt Tryz.prog 28 3 3 none:=⟨by kernel_rfl⟩
instance:kt Tryz.prog 28 4 4 none:=⟨by kernel_rfl⟩
instance:kt Tryz.prog 28 5 5 none:=⟨by kernel_rfl⟩
instance:kt Tryz.prog 32 0 0 none:=⟨by kernel_rfl⟩
instance:kt Tryz.prog 32 1 1 none:=⟨by kernel_rfl⟩
instance:kt Tryz.prog 39 0 0 none:=⟨by kernel_rfl⟩
instance:kt Tryz.prog 43 0 0 none:=⟨by kernel_rfl⟩
instance:kt Tryz.prog 43 1 1 none:=⟨by kernel_rfl⟩
instance:kt Tryz.prog 43 2 2 none:=⟨by kernel_rfl⟩
instance:kt Tryz.prog 43 3 3 none:=⟨by kernel_rfl⟩
instance:kt Tryz.prog 45 0 0 none:=⟨by kernel_rfl⟩
instance:kt Tryz.prog 45 1 1 (some 4):=⟨by kernel_rfl⟩
instance:kt Tryz.prog 48 0 0 none:=⟨by kernel_rfl⟩
instance:kt Tryz.prog 48 1 1 none:=⟨by kernel_rfl⟩
instance:kt Tryz.prog 48 2 2 none:=⟨by kernel_rfl⟩
instance:kt Tryz.prog 50 0 0 (some 1):=⟨by kernel_rfl⟩
instance:kt Tryz.prog 50 1 1 none:=⟨by kernel_rfl⟩
instance:kt Tryz.prog 50 2 2 none:=⟨by kernel_rfl⟩
instance:kt Tryz.prog 50 3 3 (some 5):=⟨by kernel_rfl⟩
instance:kt Tryz.prog 50 4 8 none:=⟨by kernel_rfl⟩
instance:kt Tryz.prog 50 5 9 none:=⟨by kernel_rfl⟩
instance:kt Tryz.prog 50 6 10 none:=⟨by kernel_rfl⟩
instance:kt Tryz.prog 50 7 11 (some 3):=⟨by kernel_rfl⟩
instance:kt Tryz.prog 50 8 14 none:=⟨by kernel_rfl⟩
instance:kt Tryz.prog 50 9 15 none:=⟨by kernel_rfl⟩
instance:wL Tryz.prog 101 13:=⟨vO⟩
instance:wL Tryz.prog 108 5:=⟨Ot⟩
instance:wL Tryz.prog 172 5:=⟨CZ⟩
instance:wL Tryz.prog 174 6:=⟨xR⟩
instance:wL Tryz.prog 193 2:=⟨GS⟩
instance:wL Tryz.prog 3 1:=⟨GB⟩
instance:wL Tryz.prog 4 1:=⟨Px⟩
instance:wL Tryz.prog 5 1:=⟨Pe⟩
instance:wL Tryz.prog 50 16:=⟨Pc⟩
instance:wL Tryz.prog 9 1:=⟨Pl⟩
instance:vY Tryz.prog 101:=⟨_,NZ⟩
instance:vY Tryz.prog 108:=⟨_,N5⟩
instance:vY Tryz.prog 172:=⟨_,N1⟩
instance:vY Tryz.prog 174:=⟨_,Om⟩
instance:vY Tryz.prog 193:=⟨_,Oh⟩
instance:vY Tryz.prog 26:=⟨_,O8⟩
instance:vY Tryz.prog 28:=⟨_,Pb⟩
instance:vY Tryz.prog 32:=⟨_,ON⟩
instance:vY Tryz.prog 39:=⟨_,OP⟩
instance:vY Tryz.prog 43:=⟨_,O9⟩
instance:vY Tryz.prog 45:=⟨_,O4⟩
instance:vY Tryz.prog 48:=⟨_,OZ⟩
instance:vY Tryz.prog 50:=⟨_,O5⟩
instance:oP Tryz.prog 22 (.slice 5):=⟨Tryz.underlying22⟩
instance:oP Tryz.prog 24 (.slice 50):=⟨Tryz.underlying24⟩
instance:oP Tryz.prog 37 (.slice 3):=⟨Tryz.underlying37⟩
instance:oP Tryz.prog 40 (.slice 172):=⟨Tryz.underlying40⟩
instance:oP Tryz.prog 41 (.slice 101):=⟨Tryz.underlying41⟩
instance:oP Tryz.prog 46 (.slice 174):=⟨Tryz.underlying46⟩
instance:oP Tryz.prog 52 (.slice 210):=⟨Tryz.underlying52⟩
instance:oP Tryz.prog 67 (.slice 144):=⟨Tryz.underlying67⟩
instance:oP Tryz.prog 68 (.slice 57):=⟨Tryz.underlying68⟩
instance:oP Tryz.prog 71 (.slice 32):=⟨Tryz.underlying71⟩
instance:oP Tryz.prog 74 (.slice 108):=⟨Tryz.underlying74⟩
instance:oP Tryz.prog 76 (.slice 62):=⟨Tryz.underlying76⟩
instance:oP Tryz.prog 95 (.slice 4):=⟨Tryz.underlying95⟩
instance:oP Tryz.prog 99 (.slice 193):=⟨Tryz.underlying99⟩
instance:oP Tryz.prog 130 (.slice 9):=⟨Tryz.underlying130⟩
instance:oP Tryz.prog 203 (.slice 300):=⟨Tryz.underlying203⟩
instance:oP Tryz.prog 204 (.slice 311):=⟨Tryz.underlying204⟩
instance:oP Tryz.prog 208 (.slice 304):=⟨Tryz.underlying208⟩
instance:oP Tryz.prog 226 (.slice 228):=⟨Tryz.underlying226⟩
instance:oP Tryz.prog 309 (.slice 318):=⟨Tryz.underlying309⟩
end Go.Kx
