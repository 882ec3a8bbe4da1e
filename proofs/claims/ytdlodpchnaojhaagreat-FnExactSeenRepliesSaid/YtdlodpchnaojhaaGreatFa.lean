import Derived.Test.YtdlodpchnaojhaaGreatProg
import Derived.Test.YtdlodpchnaojhaaGreatGt
import Derived.Test.YtdlodpchnaojhaaGreatDel
import Derived.Test.YtdlodpchnaojhaaGreatTap
import Derived.Test.YtdlodpchnaojhaaGreatAl
namespace Go.Kx
open Go Go.RowKit Go.Proofs
set_option maxRecDepth 10000
set_option maxHeartbeats 8000000
set_option linter.unusedVariables false
set_option linter.unusedSimpArgs false
theorem Mw:jl Tryz.prog 128=some (some 3):=by kernel_rfl
theorem MZ:jl Tryz.prog 130=some (some 5):=by kernel_rfl
theorem JX:jl Tryz.prog 134=some (some 5):=by kernel_rfl
theorem MA:jl Tryz.prog 153=some (some 1):=by kernel_rfl
theorem J5:jl Tryz.prog 155=some (some 6):=by kernel_rfl
theorem nR:jl Tryz.prog 158=some none:=by kernel_rfl
theorem ud:jl Tryz.prog 160=some (some 13):=by kernel_rfl
theorem My:jl Tryz.prog 176=some (some 5):=by kernel_rfl
theorem JW:jl Tryz.prog 193=some (some 2):=by kernel_rfl
theorem Nu:jl Tryz.prog 24=some none:=by kernel_rfl
theorem pz:jl Tryz.prog 26=some (some 2):=by kernel_rfl
theorem mK:jl Tryz.prog 3=some none:=by kernel_rfl
theorem zI:jl Tryz.prog 32=some none:=by kernel_rfl
theorem Dz:jl Tryz.prog 34=some (some 1):=by kernel_rfl
theorem xW:jl Tryz.prog 35=some none:=by kernel_rfl
theorem zB:jl Tryz.prog 36=some none:=by kernel_rfl
theorem NJ:jl Tryz.prog 38=some (some 4):=by kernel_rfl
theorem Mr:jl Tryz.prog 4=some none:=by kernel_rfl
theorem Np:jl Tryz.prog 40=some (some 5):=by kernel_rfl
theorem zL:jl Tryz.prog 41=some none:=by kernel_rfl
theorem JF:jl Tryz.prog 43=some (some 3):=by kernel_rfl
theorem kF:jl Tryz.prog 45=some (some 16):=by kernel_rfl
theorem NG:jl Tryz.prog 49=some (some 6):=by kernel_rfl
theorem kS:jl Tryz.prog 53=some (some 2):=by kernel_rfl
theorem Nc:jl Tryz.prog 59=some (some 1):=by kernel_rfl
theorem NI:jl Tryz.prog 81=some (some 6):=by kernel_rfl
theorem NB:jl Tryz.prog 83=some (some 9):=by kernel_rfl
theorem Nb:jl Tryz.prog 88=some (some 9):=by kernel_rfl
theorem Kb:Program.eqGuardType Tryz.prog Tryz.prog.depth 176=false:=by kernel_rfl
theorem MQ:Program.eqGuardType Tryz.prog Tryz.prog.depth 193=false:=by kernel_rfl
theorem Kn:∀ (a b:g7) (w:World),(Op.equalIn 10000 176 (.agg #[.bool a.Of,.int .i64 a.Og,.int .i64 a.iG.gE,.int .i64 a.iG.gT,.int .i64 a.iG.g8]) (.agg #[.bool b.Of,.int .i64 b.Og,.int .i64 b.iG.gE,.int .i64 b.iG.gT,.int .i64 b.iG.g8])).run Tryz.prog w=.ok (decide (a=b)) w:=fun a b w=>rL.top (n:=2) (rL.agg (n:=1) Tryz.underlying176 (by kernel_rfl) (sY.one rfl Mr rfl rfl (rL.bool Tryz.underlying4) (sY.one rfl mK rfl rfl (rL.int Tryz.underlying3) (sY.more rfl JF (rL.agg (n:=0) Tryz.underlying43 (by kernel_rfl) (sY.one rfl mK rfl rfl (rL.int Tryz.underlying3) (sY.one rfl mK rfl rfl (rL.int Tryz.underlying3) (sY.one rfl mK rfl rfl (rL.int Tryz.underlying3) sY.nil)))) sY.nil)))) (by decide) (by
  obtain ⟨x0,x1,⟨x2,x3,x4⟩⟩:=a;obtain ⟨y0,y1,⟨y2,y3,y4⟩⟩:=b
  simp [hJ.mk.injEq,g7.mk.injEq,Bool.beq_eq_decide_eq,Bool.decide_and]) w
theorem MO:∀ (a b:iS) (w:World),(Op.equalIn 10000 193 (.agg #[.int .i64 a.Oj,.int .i64 a.n]) (.agg #[.int .i64 b.Oj,.int .i64 b.n])).run Tryz.prog w=.ok (decide (a=b)) w:=fun a b w=>rL.top (n:=1) (rL.agg (n:=0) Tryz.underlying193 (by kernel_rfl) (sY.one rfl mK rfl rfl (rL.int Tryz.underlying3) (sY.one rfl mK rfl rfl (rL.int Tryz.underlying3) sY.nil))) (by decide) (by
  obtain ⟨x0,x1⟩:=a;obtain ⟨y0,y1⟩:=b
  simp [iS.mk.injEq,Bool.beq_eq_decide_eq,Bool.decide_and]) w
theorem DT:fo Tryz.prog 160 10=some (10,none):=by kernel_rfl
theorem K2:fo Tryz.prog 160 3=some (3,none):=by kernel_rfl
theorem KB:fo Tryz.prog 160 5=some (5,none):=by kernel_rfl
theorem KA:fo Tryz.prog 188 0=some (0,some 16):=by kernel_rfl
theorem DO:fo Tryz.prog 43 2=some (2,none):=by kernel_rfl
theorem LR:fo Tryz.prog 45 0=some (0,some 1):=by kernel_rfl
theorem LU:fo Tryz.prog 45 2=some (2,none):=by kernel_rfl
theorem Mj:fo Tryz.prog 49 2=some (2,none):=by kernel_rfl
theorem MD:tQ Tryz.prog 124=true:=by kernel_rfl
theorem J7:lS Tryz.prog 151 iy:=lS.of (b:=24) (by kernel_rfl) rfl
theorem oI:lS Tryz.prog 158 iS:=lS.of (b:=16) (by kernel_rfl) rfl
theorem J1:lS Tryz.prog 232 Bool:=lS.of (b:=1) (by kernel_rfl) rfl
theorem Bi:lS Tryz.prog 24 cd:=lS.of (b:=224) (by kernel_rfl) rfl
theorem pH:lS Tryz.prog 32 Int:=lS.of (b:=8) (by kernel_rfl) rfl
theorem G7:lS Tryz.prog 35 g7:=lS.of (b:=40) (by kernel_rfl) rfl
theorem Gt:lS Tryz.prog 36 gP:=lS.of (b:=152) (by kernel_rfl) rfl
theorem tS:lS Tryz.prog 41 iL:=lS.of (b:=48) (by kernel_rfl) rfl
theorem Gj:lS Tryz.prog 63 g6:=lS.of (b:=16) (by kernel_rfl) rfl
theorem Ny:lS Tryz.prog 65 iC:=lS.of (b:=72) (by kernel_rfl) rfl
theorem Nt:lS Tryz.prog 67 iA:=lS.of (b:=72) (by kernel_rfl) rfl
theorem MS:lS Tryz.prog 36 pF:=lS.of (b:=152) (by kernel_rfl) rfl
theorem IX:lS Tryz.prog 151 jD:=lS.of (b:=24) (by kernel_rfl) rfl
theorem Mv:nF Tryz.prog 130=some 5:=by kernel_rfl
theorem MY:nF Tryz.prog 134=some 5:=by kernel_rfl
theorem yM:nF Tryz.prog 153=some 1:=by kernel_rfl
theorem xf:nF Tryz.prog 155=some 6:=by kernel_rfl
theorem uc:nF Tryz.prog 160=some 13:=by kernel_rfl
theorem GN:nF Tryz.prog 176=some 5:=by kernel_rfl
theorem Gw:nF Tryz.prog 193=some 2:=by kernel_rfl
theorem FJ:nF Tryz.prog 3=some 1:=by kernel_rfl
theorem NR:nF Tryz.prog 4=some 1:=by kernel_rfl
theorem LJ:nF Tryz.prog 45=some 16:=by kernel_rfl
theorem LZ:nF Tryz.prog 53=some 2:=by kernel_rfl
theorem Nq:nF Tryz.prog 83=some 9:=by kernel_rfl
theorem xp:nF Tryz.prog 88=some 9:=by kernel_rfl
theorem MV:zeroV Tryz.prog 134=some (.agg #[.slice none 0 0,.slice none 0 0,.int .i64 0,.int .i64 0,.int .i64 0]):=by kernel_rfl
theorem Mt:zeroV Tryz.prog 153=some (.agg #[.slice none 0 0]):=by kernel_rfl
theorem MK:zeroV Tryz.prog 155=some (.agg #[.int .i64 0,.int .i64 0,.int .i64 0,.int .i64 0,.int .i64 0,.int .i64 0]):=by kernel_rfl
theorem MP:zeroV Tryz.prog 160=some (.agg #[.int .i64 0,.int .i64 0,.int .i64 0,.int .i64 0,.int .i64 0,.int .i64 0,.int .i64 0,.int .i64 0,.int .i64 0,.bool false,.slice none 0 0,.slice none 0 0,.slice none 0 0]):=by kernel_rfl
theorem MC:zeroV Tryz.prog 176=some (.agg #[.bool false,.int .i64 0,.int .i64 0,.int .i64 0,.int .i64 0]):=by kernel_rfl
theorem MG:zeroV Tryz.prog 193=some (.agg #[.int .i64 0,.int .i64 0]):=by kernel_rfl
theorem NK:zeroV Tryz.prog 26=some (.agg #[.int .i64 0,.slice none 0 0]):=by kernel_rfl
theorem Na:zeroV Tryz.prog 34=some (.agg #[.slice none 0 0]):=by kernel_rfl
theorem Nw:zeroV Tryz.prog 38=some (.agg #[.int .i64 0,.int .i64 0,.int .i64 0,.slice none 0 0]):=by kernel_rfl
theorem Nr:zeroV Tryz.prog 40=some (.agg #[.slice none 0 0,.int .i64 0,.int .i64 0,.int .i64 0,.slice none 0 0]):=by kernel_rfl
theorem NC:zeroV Tryz.prog 43=some (.agg #[.int .i64 0,.int .i64 0,.int .i64 0]):=by kernel_rfl
theorem Nn:zeroV Tryz.prog 45=some (.agg #[.slice none 0 0,.slice none 0 0,.slice none 0 0,.slice none 0 0,.int .i64 0,.int .i64 0,.int .i64 0,.slice none 0 0,.slice none 0 0,.int .i64 0,.int .i64 0,.int .i64 0,.int .i64 0,.int .i64 0,.int .i64 0,.int .i64 0]):=by kernel_rfl
theorem Nh:zeroV Tryz.prog 49=some (.agg #[.int .i64 0,.int .i64 0,.int .i64 0,.int .i64 0,.int .i64 0,.int .i64 0]):=by kernel_rfl
theorem Nm:zeroV Tryz.prog 53=some (.agg #[.int .i64 0,.int .i64 0]):=by kernel_rfl
theorem Ni:zeroV Tryz.prog 88=some (.agg #[.int .i64 0,.int .i64 0,.int .i64 0,.int .i64 0,.int .i64 0,.int .i64 0,.int .i64 0,.int .i64 0,.int .i64 0]):=by kernel_rfl
instance:kD Tryz.prog 128 (some 3):=⟨Mw⟩
instance:kD Tryz.prog 130 (some 5):=⟨MZ⟩
instance:kD Tryz.prog 134 (some 5):=⟨JX⟩
instance:kD Tryz.prog 153 (some 1):=⟨MA⟩
instance:kD Tryz.prog 155 (some 6):=⟨J5⟩
instance:kD Tryz.prog 158 none:=⟨nR⟩
instance:kD Tryz.prog 160 (some 13):=⟨ud⟩
instance:kD Tryz.prog 176 (some 5):=⟨My⟩
instance:kD Tryz.prog 193 (some 2):=⟨JW⟩
instance:kD Tryz.prog 24 none:=⟨Nu⟩
instance:kD Tryz.prog 26 (some 2):=⟨pz⟩
instance:kD Tryz.prog 3 none:=⟨mK⟩
instance:kD Tryz.prog 32 none:=⟨zI⟩
instance:kD Tryz.prog 34 (some 1):=⟨Dz⟩
instance:kD Tryz.prog 35 none:=⟨xW⟩
instance:kD Tryz.prog 36 none:=⟨zB⟩
instance:kD Tryz.prog 38 (some 4):=⟨NJ⟩
instance:kD Tryz.prog 4 none:=⟨Mr⟩
instance:kD Tryz.prog 40 (some 5):=⟨Np⟩
instance:kD Tryz.prog 41 none:=⟨zL⟩
instance:kD Tryz.prog 43 (some 3):=⟨JF⟩
instance:kD Tryz.prog 45 (some 16):=⟨kF⟩
instance:kD Tryz.prog 49 (some 6):=⟨NG⟩
instance:kD Tryz.prog 53 (some 2):=⟨kS⟩
instance:kD Tryz.prog 59 (some 1):=⟨Nc⟩
instance:kD Tryz.prog 81 (some 6):=⟨NI⟩
instance:kD Tryz.prog 83 (some 9):=⟨NB⟩
instance:kD Tryz.prog 88 (some 9):=⟨Nb⟩
instance:jr Tryz.prog 128 0 0 none:=⟨by kernel_rfl⟩
instance:jr Tryz.prog 128 1 1 none:=⟨by kernel_rfl⟩
instance:jr Tryz.prog 128 2 2 none:=⟨by kernel_rfl⟩
instance:jr Tryz.prog 130 0 0 (some 1):=⟨by kernel_rfl⟩
instance:jr Tryz.prog 130 1 1 none:=⟨by kernel_rfl⟩
instance:jr Tryz.prog 130 2 2 (some 3):=⟨by kernel_rfl⟩
instance:jr Tryz.prog 134 0 0 (some 1):=⟨by kernel_rfl⟩
instance:jr Tryz.prog 134 1 1 none:=⟨by kernel_rfl⟩
instance:jr Tryz.prog 134 2 2 (some 3):=⟨by kernel_rfl⟩
instance:jr Tryz.prog 153 0 0 none:=⟨by kernel_rfl⟩
instance:jr Tryz.prog 155 0 0 none:=⟨by kernel_rfl⟩
instance:jr Tryz.prog 155 1 1 none:=⟨by kernel_rfl⟩
instance:jr Tryz.prog 155 2 2 none:=⟨by kernel_rfl⟩
instance:jr Tryz.prog 155 3 3 none:=⟨by kernel_rfl⟩
instance:jr Tryz.prog 155 4 4 none:=⟨by kernel_rfl⟩
instance:jr Tryz.prog 155 5 5 none:=⟨by kernel_rfl⟩
instance:jr Tryz.prog 160 0 0 none:=⟨by kernel_rfl⟩
instance:jr Tryz.prog 160 1 1 none:=⟨by kernel_rfl⟩
instance:jr Tryz.prog 160 10 10 none:=⟨by kernel_rfl⟩
instance:jr Tryz.prog 160 11 11 none:=⟨by kernel_rfl⟩
instance:jr Tryz.prog 160 12 12 none:=⟨by kernel_rfl⟩
instance:jr Tryz.prog 160 2 2 none:=⟨by kernel_rfl⟩
instance:jr Tryz.prog 160 3 3 none:=⟨by kernel_rfl⟩
instance:jr Tryz.prog 160 4 4 none:=⟨by kernel_rfl⟩
instance:jr Tryz.prog 160 5 5 none:=⟨by kernel_rfl⟩
instance:jr Tryz.prog 160 6 6 none:=⟨by kernel_rfl⟩
instance:jr Tryz.prog 160 7 7 none:=⟨by kernel_rfl⟩
instance:jr Tryz.prog 160 8 8 none:=⟨by kernel_rfl⟩
instance:jr Tryz.prog 160 9 9 none:=⟨by kernel_rfl⟩
instance:jr Tryz.prog 176 0 0 none:=⟨by kernel_rfl⟩
instance:jr Tryz.prog 176 1 1 none:=⟨by kernel_rfl⟩
instance:jr Tryz.prog 176 2 2 (some 3):=⟨by kernel_rfl⟩
instance:jr Tryz.prog 188 0 0 (some 16):=⟨by kernel_rfl⟩
instance:jr Tryz.prog 188 1 16 none:=⟨by kernel_rfl⟩
instance:jr Tryz.prog 188 2 17 none:=⟨by kernel_rfl⟩
instance:jr Tryz.prog 188 3 18 none:=⟨by kernel_rfl⟩
instance:jr Tryz.prog 193 0 0 none:=⟨by kernel_rfl⟩
instance:jr Tryz.prog 193 1 1 none:=⟨by kernel_rfl⟩
instance:jr Tryz.prog 26 0 0 none:=⟨by kernel_rfl⟩
instance:jr Tryz.prog 26 1 1 none:=⟨by kernel_rfl⟩
instance:jr Tryz.prog 34 0 0 none:=⟨by kernel_rfl⟩
instance:jr Tryz.prog 38 0 0 none:=⟨by kernel_rfl⟩
instance:jr Tryz.prog 38 1 1 none:=⟨by kernel_rfl⟩
instance:jr Tryz.prog 38 2 2 none:=⟨by kernel_rfl⟩
instance:jr Tryz.prog 38 3 3 none:=⟨by kernel_rfl⟩
instance:jr Tryz.prog 40 0 0 none:=⟨by kernel_rfl⟩
instance:jr Tryz.prog 40 1 1 (some 4):=⟨by kernel_rfl⟩
instance:jr Tryz.prog 43 0 0 none:=⟨by kernel_rfl⟩
instance:jr Tryz.prog 43 1 1 none:=⟨by kernel_rfl⟩
instance:jr Tryz.prog 43 2 2 none:=⟨by kernel_rfl⟩
instance:jr Tryz.prog 45 0 0 (some 1):=⟨by kernel_rfl⟩
instance:jr Tryz.prog 45 1 1 none:=⟨by kernel_rfl⟩
instance:jr Tryz.prog 45 2 2 none:=⟨by kernel_rfl⟩
instance:jr Tryz.prog 45 3 3 (some 5):=⟨by kernel_rfl⟩
instance:jr Tryz.prog 45 4 8 none:=⟨by kernel_rfl⟩
instance:jr Tryz.prog 45 5 9 none:=⟨by kernel_rfl⟩
instance:jr Tryz.prog 45 6 10 none:=⟨by kernel_rfl⟩
instance:jr Tryz.prog 45 7 11 (some 3):=⟨by kernel_rfl⟩
instance:jr Tryz.prog 45 8 14 none:=⟨by kernel_rfl⟩
instance:jr Tryz.prog 45 9 15 none:=⟨by kernel_rfl⟩
instance:jr Tryz.prog 49 0 0 none:=⟨by kernel_rfl⟩
instance:jr Tryz.prog 49 1 1 none:=⟨by kernel_rfl⟩
instance:jr Tryz.prog 49 2 2 none:=⟨by kernel_rfl⟩
instance:jr Tryz.prog 49 3 3 none:=⟨by kernel_rfl⟩
instance:jr Tryz.prog 49 4 4 none:=⟨by kernel_rfl⟩
instance:jr Tryz.prog 49 5 5 none:=⟨by kernel_rfl⟩
instance:jr Tryz.prog 53 0 0 none:=⟨by kernel_rfl⟩
instance:jr Tryz.prog 53 1 1 none:=⟨by kernel_rfl⟩
instance:jr Tryz.prog 59 0 0 none:=⟨by kernel_rfl⟩
instance:jr Tryz.prog 81 0 0 none:=⟨by kernel_rfl⟩
instance:jr Tryz.prog 81 1 1 none:=⟨by kernel_rfl⟩
instance:jr Tryz.prog 81 2 2 none:=⟨by kernel_rfl⟩
instance:jr Tryz.prog 81 3 3 none:=⟨by kernel_rfl⟩
instance:jr Tryz.prog 81 4 4 none:=⟨by kernel_rfl⟩
instance:jr Tryz.prog 81 5 5 none:=⟨by kernel_rfl⟩
instance:jr Tryz.prog 83 0 0 none:=⟨by kernel_rfl⟩
instance:jr Tryz.prog 83 1 1 none:=⟨by kernel_rfl⟩
instance:jr Tryz.prog 83 2 2 none:=⟨by kernel_rfl⟩
instance:jr Tryz.prog 83 3 3 (some 6):=⟨by kernel_rfl⟩
instance:jr Tryz.prog 88 0 0 none:=⟨by kernel_rfl⟩
instance:jr Tryz.prog 88 1 1 none:=⟨by kernel_rfl⟩
instance:jr Tryz.prog 88 2 2 none:=⟨by kernel_rfl⟩
instance:jr Tryz.prog 88 3 3 (some 6):=⟨by kernel_rfl⟩
instance:tL Tryz.prog 130 5:=⟨Mv⟩
instance:tL Tryz.prog 134 5:=⟨MY⟩
instance:tL Tryz.prog 153 1:=⟨yM⟩
instance:tL Tryz.prog 155 6:=⟨xf⟩
instance:tL Tryz.prog 160 13:=⟨uc⟩
instance:tL Tryz.prog 176 5:=⟨GN⟩
instance:tL Tryz.prog 193 2:=⟨Gw⟩
instance:tL Tryz.prog 3 1:=⟨FJ⟩
instance:tL Tryz.prog 4 1:=⟨NR⟩
instance:tL Tryz.prog 45 16:=⟨LJ⟩
instance:tL Tryz.prog 53 2:=⟨LZ⟩
instance:tL Tryz.prog 83 9:=⟨Nq⟩
instance:tL Tryz.prog 88 9:=⟨xp⟩
instance:uo Tryz.prog 134:=⟨_,MV⟩
instance:uo Tryz.prog 153:=⟨_,Mt⟩
instance:uo Tryz.prog 155:=⟨_,MK⟩
instance:uo Tryz.prog 160:=⟨_,MP⟩
instance:uo Tryz.prog 176:=⟨_,MC⟩
instance:uo Tryz.prog 193:=⟨_,MG⟩
instance:uo Tryz.prog 26:=⟨_,NK⟩
instance:uo Tryz.prog 34:=⟨_,Na⟩
instance:uo Tryz.prog 38:=⟨_,Nw⟩
instance:uo Tryz.prog 40:=⟨_,Nr⟩
instance:uo Tryz.prog 43:=⟨_,NC⟩
instance:uo Tryz.prog 45:=⟨_,Nn⟩
instance:uo Tryz.prog 49:=⟨_,Nh⟩
instance:uo Tryz.prog 53:=⟨_,Nm⟩
instance:uo Tryz.prog 88:=⟨_,Ni⟩
instance:oc Tryz.prog 22 (.slice 5):=⟨Tryz.underlying22⟩
instance:oc Tryz.prog 24 (.slice 45):=⟨Tryz.underlying24⟩
instance:oc Tryz.prog 32 (.slice 3):=⟨Tryz.underlying32⟩
instance:oc Tryz.prog 35 (.slice 176):=⟨Tryz.underlying35⟩
instance:oc Tryz.prog 36 (.slice 160):=⟨Tryz.underlying36⟩
instance:oc Tryz.prog 41 (.slice 155):=⟨Tryz.underlying41⟩
instance:oc Tryz.prog 57 (.slice 130):=⟨Tryz.underlying57⟩
instance:oc Tryz.prog 58 (.slice 83):=⟨Tryz.underlying58⟩
instance:oc Tryz.prog 63 (.slice 53):=⟨Tryz.underlying63⟩
instance:oc Tryz.prog 65 (.slice 134):=⟨Tryz.underlying65⟩
instance:oc Tryz.prog 67 (.slice 88):=⟨Tryz.underlying67⟩
instance:oc Tryz.prog 78 (.slice 210):=⟨Tryz.underlying78⟩
instance:oc Tryz.prog 126 (.slice 9):=⟨Tryz.underlying126⟩
instance:oc Tryz.prog 151 (.slice 153):=⟨Tryz.underlying151⟩
instance:oc Tryz.prog 158 (.slice 193):=⟨Tryz.underlying158⟩
instance:oc Tryz.prog 203 (.slice 285):=⟨Tryz.underlying203⟩
instance:oc Tryz.prog 204 (.slice 296):=⟨Tryz.underlying204⟩
instance:oc Tryz.prog 208 (.slice 289):=⟨Tryz.underlying208⟩
instance:oc Tryz.prog 232 (.slice 4):=⟨Tryz.underlying232⟩
instance:oc Tryz.prog 294 (.slice 303):=⟨Tryz.underlying294⟩
end Go.Kx
