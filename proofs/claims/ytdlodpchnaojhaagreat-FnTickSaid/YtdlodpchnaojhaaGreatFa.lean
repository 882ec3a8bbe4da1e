/- Closed facts of the program's types and functions. Printed by drive.py. -/
import Derived.Test.YtdlodpchnaojhaaGreatProg
import Derived.Test.YtdlodpchnaojhaaGreatGo
import Derived.Test.YtdlodpchnaojhaaGreatGp
import Derived.Test.YtdlodpchnaojhaaGreatDat
import Derived.Test.YtdlodpchnaojhaaGreatDel
import Derived.Test.YtdlodpchnaojhaaGreatTap
import Derived.Test.YtdlodpchnaojhaaGreatAl
namespace Go.Kx
open Go Go.RowKit Go.Proofs
set_option maxRecDepth 10000
set_option maxHeartbeats 8000000
set_option linter.unusedVariables false
set_option linter.unusedSimpArgs false
theorem E2:kh Tryz.prog 134=some (some 5):=by kernel_rfl
theorem BE:kh Tryz.prog 153=some (some 1):=by kernel_rfl
theorem wH:kh Tryz.prog 155=some (some 6):=by kernel_rfl
theorem BA:kh Tryz.prog 158=some none:=by kernel_rfl
theorem kW:kh Tryz.prog 160=some (some 13):=by kernel_rfl
theorem xY:kh Tryz.prog 176=some (some 5):=by kernel_rfl
theorem wi:kh Tryz.prog 193=some (some 2):=by kernel_rfl
theorem LC:kh Tryz.prog 22=some none:=by kernel_rfl
theorem LL:kh Tryz.prog 24=some none:=by kernel_rfl
theorem uW:kh Tryz.prog 26=some (some 2):=by kernel_rfl
theorem jc:kh Tryz.prog 3=some none:=by kernel_rfl
theorem nE:kh Tryz.prog 32=some none:=by kernel_rfl
theorem zd:kh Tryz.prog 34=some (some 1):=by kernel_rfl
theorem zb:kh Tryz.prog 35=some none:=by kernel_rfl
theorem LK:kh Tryz.prog 36=some none:=by kernel_rfl
theorem Kq:kh Tryz.prog 38=some (some 4):=by kernel_rfl
theorem qI:kh Tryz.prog 4=some none:=by kernel_rfl
theorem nD:kh Tryz.prog 40=some (some 5):=by kernel_rfl
theorem KC:kh Tryz.prog 41=some none:=by kernel_rfl
theorem kt:kh Tryz.prog 43=some (some 3):=by kernel_rfl
theorem jz:kh Tryz.prog 45=some (some 16):=by kernel_rfl
theorem Kd:kh Tryz.prog 49=some (some 6):=by kernel_rfl
theorem J5:kh Tryz.prog 5=some none:=by kernel_rfl
theorem ki:kh Tryz.prog 53=some (some 2):=by kernel_rfl
theorem Ld:Program.eqGuardType Tryz.prog Tryz.prog.depth 155=false:=by kernel_rfl
theorem E9:Program.eqGuardType Tryz.prog Tryz.prog.depth 176=false:=by kernel_rfl
theorem IP:Program.eqGuardType Tryz.prog Tryz.prog.depth 193=false:=by kernel_rfl
theorem Kl:Program.eqGuardType Tryz.prog Tryz.prog.depth 43=false:=by kernel_rfl
theorem KM:∀ (a b:jw) (w:World),(Op.equalIn 10000 155 (.agg #[.int .i64 a.res,.int .i64 a.jJ,.int .i64 a.mf,.int .i64 a.kp,.int .i64 a.kind,.int .i64 a.lk]) (.agg #[.int .i64 b.res,.int .i64 b.jJ,.int .i64 b.mf,.int .i64 b.kp,.int .i64 b.kind,.int .i64 b.lk])).run Tryz.prog w=.ok (decide (a=b)) w:=fun a b w=>mV.top (n:=1) (mV.agg (n:=0) Tryz.underlying155 (by kernel_rfl) (ny.one rfl jc rfl rfl (mV.int Tryz.underlying3) (ny.one rfl jc rfl rfl (mV.int Tryz.underlying3) (ny.one rfl jc rfl rfl (mV.int Tryz.underlying3) (ny.one rfl jc rfl rfl (mV.int Tryz.underlying3) (ny.one rfl jc rfl rfl (mV.int Tryz.underlying3) (ny.one rfl jc rfl rfl (mV.int Tryz.underlying3) ny.nil))))))) (by decide) (by
  obtain ⟨x0,x1,x2,x3,x4,x5⟩:=a
  obtain ⟨y0,y1,y2,y3,y4,y5⟩:=b
  simp [jw.mk.injEq,Bool.beq_eq_decide_eq,Bool.decide_and]) w
theorem FK:∀ (a b:ir) (w:World),(Op.equalIn 10000 176 (.agg #[.bool a.live,.int .i64 a.parent,.int .i64 a.iL.bh,.int .i64 a.iL.ib,.int .i64 a.iL.ik]) (.agg #[.bool b.live,.int .i64 b.parent,.int .i64 b.iL.bh,.int .i64 b.iL.ib,.int .i64 b.iL.ik])).run Tryz.prog w=.ok (decide (a=b)) w:=fun a b w=>mV.top (n:=2) (mV.agg (n:=1) Tryz.underlying176 (by kernel_rfl) (ny.one rfl qI rfl rfl (mV.bool Tryz.underlying4) (ny.one rfl jc rfl rfl (mV.int Tryz.underlying3) (ny.more rfl kt (mV.agg (n:=0) Tryz.underlying43 (by kernel_rfl) (ny.one rfl jc rfl rfl (mV.int Tryz.underlying3) (ny.one rfl jc rfl rfl (mV.int Tryz.underlying3) (ny.one rfl jc rfl rfl (mV.int Tryz.underlying3) ny.nil)))) ny.nil)))) (by decide) (by
  obtain ⟨x0,x1,⟨x2,x3,x4⟩⟩:=a
  obtain ⟨y0,y1,⟨y2,y3,y4⟩⟩:=b
  simp [ig.mk.injEq,ir.mk.injEq,Bool.beq_eq_decide_eq,Bool.decide_and]) w
theorem Ix:∀ (a b:jI) (w:World),(Op.equalIn 10000 193 (.agg #[.int .i64 a.src,.int .i64 a.n]) (.agg #[.int .i64 b.src,.int .i64 b.n])).run Tryz.prog w=.ok (decide (a=b)) w:=fun a b w=>mV.top (n:=1) (mV.agg (n:=0) Tryz.underlying193 (by kernel_rfl) (ny.one rfl jc rfl rfl (mV.int Tryz.underlying3) (ny.one rfl jc rfl rfl (mV.int Tryz.underlying3) ny.nil))) (by decide) (by
  obtain ⟨x0,x1⟩:=a
  obtain ⟨y0,y1⟩:=b
  simp [jI.mk.injEq,Bool.beq_eq_decide_eq,Bool.decide_and]) w
theorem JW:∀ (a b:ig) (w:World),(Op.equalIn 10000 43 (.agg #[.int .i64 a.bh,.int .i64 a.ib,.int .i64 a.ik]) (.agg #[.int .i64 b.bh,.int .i64 b.ib,.int .i64 b.ik])).run Tryz.prog w=.ok (decide (a=b)) w:=fun a b w=>mV.top (n:=1) (mV.agg (n:=0) Tryz.underlying43 (by kernel_rfl) (ny.one rfl jc rfl rfl (mV.int Tryz.underlying3) (ny.one rfl jc rfl rfl (mV.int Tryz.underlying3) (ny.one rfl jc rfl rfl (mV.int Tryz.underlying3) ny.nil)))) (by decide) (by
  obtain ⟨x0,x1,x2⟩:=a
  obtain ⟨y0,y1,y2⟩:=b
  simp [ig.mk.injEq,Bool.beq_eq_decide_eq,Bool.decide_and]) w
theorem Ci:fo Tryz.prog 160 10=some (10,none):=by kernel_rfl
theorem Cj:fo Tryz.prog 43 2=some (2,none):=by kernel_rfl
theorem Kz:fo Tryz.prog 45 0=some (0,some 1):=by kernel_rfl
theorem KR:nm Tryz.prog 151 iZ:=nm.of (b:=24) (by kernel_rfl) rfl
theorem vn:nm Tryz.prog 158 jI:=nm.of (b:=16) (by kernel_rfl) rfl
theorem It:nm Tryz.prog 232 Bool:=nm.of (b:=1) (by kernel_rfl) rfl
theorem HL:nm Tryz.prog 24 dW:=nm.of (b:=224) (by kernel_rfl) rfl
theorem mT:nm Tryz.prog 32 Int:=nm.of (b:=8) (by kernel_rfl) rfl
theorem Ik:nm Tryz.prog 35 ir:=nm.of (b:=40) (by kernel_rfl) rfl
theorem HI:nm Tryz.prog 36 cd:=nm.of (b:=152) (by kernel_rfl) rfl
theorem As:nm Tryz.prog 41 jw:=nm.of (b:=48) (by kernel_rfl) rfl
theorem LM:nm Tryz.prog 65 km:=nm.of (b:=72) (by kernel_rfl) rfl
theorem K0:nm Tryz.prog 36 oq:=nm.of (b:=152) (by kernel_rfl) rfl
theorem Ko:nm Tryz.prog 151 kl:=nm.of (b:=24) (by kernel_rfl) rfl
theorem KK:rU Tryz.prog 134=some 5:=by kernel_rfl
theorem BD:rU Tryz.prog 153=some 1:=by kernel_rfl
theorem EU:rU Tryz.prog 155=some 6:=by kernel_rfl
theorem z6:rU Tryz.prog 160=some 13:=by kernel_rfl
theorem FH:rU Tryz.prog 176=some 5:=by kernel_rfl
theorem Iv:rU Tryz.prog 193=some 2:=by kernel_rfl
theorem CE:rU Tryz.prog 3=some 1:=by kernel_rfl
theorem LV:rU Tryz.prog 4=some 1:=by kernel_rfl
theorem JU:rU Tryz.prog 45=some 16:=by kernel_rfl
theorem LX:rU Tryz.prog 5=some 1:=by kernel_rfl
theorem KX:zeroV Tryz.prog 134=some (.agg #[.slice none 0 0,.slice none 0 0,.int .i64 0,.int .i64 0,.int .i64 0]):=by kernel_rfl
theorem KS:zeroV Tryz.prog 153=some (.agg #[.slice none 0 0]):=by kernel_rfl
theorem KV:zeroV Tryz.prog 155=some (.agg #[.int .i64 0,.int .i64 0,.int .i64 0,.int .i64 0,.int .i64 0,.int .i64 0]):=by kernel_rfl
theorem KY:zeroV Tryz.prog 160=some (.agg #[.int .i64 0,.int .i64 0,.int .i64 0,.int .i64 0,.int .i64 0,.int .i64 0,.int .i64 0,.int .i64 0,.int .i64 0,.bool false,.slice none 0 0,.slice none 0 0,.slice none 0 0]):=by kernel_rfl
theorem KQ:zeroV Tryz.prog 176=some (.agg #[.bool false,.int .i64 0,.int .i64 0,.int .i64 0,.int .i64 0]):=by kernel_rfl
theorem KT:zeroV Tryz.prog 193=some (.agg #[.int .i64 0,.int .i64 0]):=by kernel_rfl
theorem Lt:zeroV Tryz.prog 26=some (.agg #[.int .i64 0,.slice none 0 0]):=by kernel_rfl
theorem Lv:zeroV Tryz.prog 34=some (.agg #[.slice none 0 0]):=by kernel_rfl
theorem Lz:zeroV Tryz.prog 38=some (.agg #[.int .i64 0,.int .i64 0,.int .i64 0,.slice none 0 0]):=by kernel_rfl
theorem Lx:zeroV Tryz.prog 40=some (.agg #[.slice none 0 0,.int .i64 0,.int .i64 0,.int .i64 0,.slice none 0 0]):=by kernel_rfl
theorem LJ:zeroV Tryz.prog 43=some (.agg #[.int .i64 0,.int .i64 0,.int .i64 0]):=by kernel_rfl
theorem LB:zeroV Tryz.prog 45=some (.agg #[.slice none 0 0,.slice none 0 0,.slice none 0 0,.slice none 0 0,.int .i64 0,.int .i64 0,.int .i64 0,.slice none 0 0,.slice none 0 0,.int .i64 0,.int .i64 0,.int .i64 0,.int .i64 0,.int .i64 0,.int .i64 0,.int .i64 0]):=by kernel_rfl
theorem LA:zeroV Tryz.prog 49=some (.agg #[.int .i64 0,.int .i64 0,.int .i64 0,.int .i64 0,.int .i64 0,.int .i64 0]):=by kernel_rfl
theorem Ly:zeroV Tryz.prog 53=some (.agg #[.int .i64 0,.int .i64 0]):=by kernel_rfl
instance:na Tryz.prog 134 (some 5):=⟨E2⟩
instance:na Tryz.prog 153 (some 1):=⟨BE⟩
instance:na Tryz.prog 155 (some 6):=⟨wH⟩
instance:na Tryz.prog 158 none:=⟨BA⟩
instance:na Tryz.prog 160 (some 13):=⟨kW⟩
instance:na Tryz.prog 176 (some 5):=⟨xY⟩
instance:na Tryz.prog 193 (some 2):=⟨wi⟩
instance:na Tryz.prog 22 none:=⟨LC⟩
instance:na Tryz.prog 24 none:=⟨LL⟩
instance:na Tryz.prog 26 (some 2):=⟨uW⟩
instance:na Tryz.prog 3 none:=⟨jc⟩
instance:na Tryz.prog 32 none:=⟨nE⟩
instance:na Tryz.prog 34 (some 1):=⟨zd⟩
instance:na Tryz.prog 35 none:=⟨zb⟩
instance:na Tryz.prog 36 none:=⟨LK⟩
instance:na Tryz.prog 38 (some 4):=⟨Kq⟩
instance:na Tryz.prog 4 none:=⟨qI⟩
instance:na Tryz.prog 40 (some 5):=⟨nD⟩
instance:na Tryz.prog 41 none:=⟨KC⟩
instance:na Tryz.prog 43 (some 3):=⟨kt⟩
instance:na Tryz.prog 45 (some 16):=⟨jz⟩
instance:na Tryz.prog 49 (some 6):=⟨Kd⟩
instance:na Tryz.prog 5 none:=⟨J5⟩
instance:na Tryz.prog 53 (some 2):=⟨ki⟩
instance:kz Tryz.prog 134 0 0 (some 1):=⟨by kernel_rfl⟩
instance:kz Tryz.prog 134 1 1 none:=⟨by kernel_rfl⟩
instance:kz Tryz.prog 134 2 2 (some 3):=⟨by kernel_rfl⟩
instance:kz Tryz.prog 148 0 0 none:=⟨by kernel_rfl⟩
instance:kz Tryz.prog 148 1 1 none:=⟨by kernel_rfl⟩
instance:kz Tryz.prog 148 2 2 none:=⟨by kernel_rfl⟩
instance:kz Tryz.prog 153 0 0 none:=⟨by kernel_rfl⟩
instance:kz Tryz.prog 155 0 0 none:=⟨by kernel_rfl⟩
instance:kz Tryz.prog 155 1 1 none:=⟨by kernel_rfl⟩
instance:kz Tryz.prog 155 2 2 none:=⟨by kernel_rfl⟩
instance:kz Tryz.prog 155 3 3 none:=⟨by kernel_rfl⟩
instance:kz Tryz.prog 155 4 4 none:=⟨by kernel_rfl⟩
instance:kz Tryz.prog 155 5 5 none:=⟨by kernel_rfl⟩
instance:kz Tryz.prog 160 0 0 none:=⟨by kernel_rfl⟩
instance:kz Tryz.prog 160 1 1 none:=⟨by kernel_rfl⟩
instance:kz Tryz.prog 160 10 10 none:=⟨by kernel_rfl⟩
instance:kz Tryz.prog 160 11 11 none:=⟨by kernel_rfl⟩
instance:kz Tryz.prog 160 12 12 none:=⟨by kernel_rfl⟩
instance:kz Tryz.prog 160 2 2 none:=⟨by kernel_rfl⟩
instance:kz Tryz.prog 160 3 3 none:=⟨by kernel_rfl⟩
instance:kz Tryz.prog 160 4 4 none:=⟨by kernel_rfl⟩
instance:kz Tryz.prog 160 5 5 none:=⟨by kernel_rfl⟩
instance:kz Tryz.prog 160 6 6 none:=⟨by kernel_rfl⟩
instance:kz Tryz.prog 160 7 7 none:=⟨by kernel_rfl⟩
instance:kz Tryz.prog 160 8 8 none:=⟨by kernel_rfl⟩
instance:kz Tryz.prog 160 9 9 none:=⟨by kernel_rfl⟩
instance:kz Tryz.prog 176 0 0 none:=⟨by kernel_rfl⟩
instance:kz Tryz.prog 176 1 1 none:=⟨by kernel_rfl⟩
instance:kz Tryz.prog 176 2 2 (some 3):=⟨by kernel_rfl⟩
instance:kz Tryz.prog 193 0 0 none:=⟨by kernel_rfl⟩
instance:kz Tryz.prog 193 1 1 none:=⟨by kernel_rfl⟩
instance:kz Tryz.prog 26 0 0 none:=⟨by kernel_rfl⟩
instance:kz Tryz.prog 26 1 1 none:=⟨by kernel_rfl⟩
instance:kz Tryz.prog 34 0 0 none:=⟨by kernel_rfl⟩
instance:kz Tryz.prog 38 0 0 none:=⟨by kernel_rfl⟩
instance:kz Tryz.prog 38 1 1 none:=⟨by kernel_rfl⟩
instance:kz Tryz.prog 38 2 2 none:=⟨by kernel_rfl⟩
instance:kz Tryz.prog 38 3 3 none:=⟨by kernel_rfl⟩
instance:kz Tryz.prog 40 0 0 none:=⟨by kernel_rfl⟩
instance:kz Tryz.prog 40 1 1 (some 4):=⟨by kernel_rfl⟩
instance:kz Tryz.prog 43 0 0 none:=⟨by kernel_rfl⟩
instance:kz Tryz.prog 43 1 1 none:=⟨by kernel_rfl⟩
instance:kz Tryz.prog 43 2 2 none:=⟨by kernel_rfl⟩
instance:kz Tryz.prog 45 0 0 (some 1):=⟨by kernel_rfl⟩
instance:kz Tryz.prog 45 1 1 none:=⟨by kernel_rfl⟩
instance:kz Tryz.prog 45 2 2 none:=⟨by kernel_rfl⟩
instance:kz Tryz.prog 45 3 3 (some 5):=⟨by kernel_rfl⟩
instance:kz Tryz.prog 45 4 8 none:=⟨by kernel_rfl⟩
instance:kz Tryz.prog 45 5 9 none:=⟨by kernel_rfl⟩
instance:kz Tryz.prog 45 6 10 none:=⟨by kernel_rfl⟩
instance:kz Tryz.prog 45 7 11 (some 3):=⟨by kernel_rfl⟩
instance:kz Tryz.prog 45 8 14 none:=⟨by kernel_rfl⟩
instance:kz Tryz.prog 45 9 15 none:=⟨by kernel_rfl⟩
instance:kz Tryz.prog 49 0 0 none:=⟨by kernel_rfl⟩
instance:kz Tryz.prog 49 1 1 none:=⟨by kernel_rfl⟩
instance:kz Tryz.prog 49 2 2 none:=⟨by kernel_rfl⟩
instance:kz Tryz.prog 49 3 3 none:=⟨by kernel_rfl⟩
instance:kz Tryz.prog 49 4 4 none:=⟨by kernel_rfl⟩
instance:kz Tryz.prog 49 5 5 none:=⟨by kernel_rfl⟩
instance:vA Tryz.prog 134 5:=⟨KK⟩
instance:vA Tryz.prog 153 1:=⟨BD⟩
instance:vA Tryz.prog 155 6:=⟨EU⟩
instance:vA Tryz.prog 160 13:=⟨z6⟩
instance:vA Tryz.prog 176 5:=⟨FH⟩
instance:vA Tryz.prog 193 2:=⟨Iv⟩
instance:vA Tryz.prog 3 1:=⟨CE⟩
instance:vA Tryz.prog 4 1:=⟨LV⟩
instance:vA Tryz.prog 45 16:=⟨JU⟩
instance:vA Tryz.prog 5 1:=⟨LX⟩
instance:u9 Tryz.prog 134:=⟨_,KX⟩
instance:u9 Tryz.prog 153:=⟨_,KS⟩
instance:u9 Tryz.prog 155:=⟨_,KV⟩
instance:u9 Tryz.prog 160:=⟨_,KY⟩
instance:u9 Tryz.prog 176:=⟨_,KQ⟩
instance:u9 Tryz.prog 193:=⟨_,KT⟩
instance:u9 Tryz.prog 26:=⟨_,Lt⟩
instance:u9 Tryz.prog 34:=⟨_,Lv⟩
instance:u9 Tryz.prog 38:=⟨_,Lz⟩
instance:u9 Tryz.prog 40:=⟨_,Lx⟩
instance:u9 Tryz.prog 43:=⟨_,LJ⟩
instance:u9 Tryz.prog 45:=⟨_,LB⟩
instance:u9 Tryz.prog 49:=⟨_,LA⟩
instance:u9 Tryz.prog 53:=⟨_,Ly⟩
instance:oC Tryz.prog 22 (.slice 5):=⟨Tryz.underlying22⟩
instance:oC Tryz.prog 24 (.slice 45):=⟨Tryz.underlying24⟩
instance:oC Tryz.prog 32 (.slice 3):=⟨Tryz.underlying32⟩
instance:oC Tryz.prog 35 (.slice 176):=⟨Tryz.underlying35⟩
instance:oC Tryz.prog 36 (.slice 160):=⟨Tryz.underlying36⟩
instance:oC Tryz.prog 41 (.slice 155):=⟨Tryz.underlying41⟩
instance:oC Tryz.prog 57 (.slice 130):=⟨Tryz.underlying57⟩
instance:oC Tryz.prog 58 (.slice 83):=⟨Tryz.underlying58⟩
instance:oC Tryz.prog 63 (.slice 53):=⟨Tryz.underlying63⟩
instance:oC Tryz.prog 65 (.slice 134):=⟨Tryz.underlying65⟩
instance:oC Tryz.prog 67 (.slice 88):=⟨Tryz.underlying67⟩
instance:oC Tryz.prog 78 (.slice 210):=⟨Tryz.underlying78⟩
instance:oC Tryz.prog 126 (.slice 9):=⟨Tryz.underlying126⟩
instance:oC Tryz.prog 151 (.slice 153):=⟨Tryz.underlying151⟩
instance:oC Tryz.prog 158 (.slice 193):=⟨Tryz.underlying158⟩
instance:oC Tryz.prog 203 (.slice 285):=⟨Tryz.underlying203⟩
instance:oC Tryz.prog 204 (.slice 296):=⟨Tryz.underlying204⟩
instance:oC Tryz.prog 208 (.slice 289):=⟨Tryz.underlying208⟩
instance:oC Tryz.prog 232 (.slice 4):=⟨Tryz.underlying232⟩
instance:oC Tryz.prog 294 (.slice 303):=⟨Tryz.underlying294⟩
end Go.Kx
