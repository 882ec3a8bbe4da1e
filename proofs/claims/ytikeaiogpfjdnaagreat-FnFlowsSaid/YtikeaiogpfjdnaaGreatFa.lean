/- Closed facts of the program's types and functions. Printed by drive.py. -/
import Derived.Test.YtikeaiogpfjdnaaGreatProg
import Derived.Test.YtikeaiogpfjdnaaGreatGo
import Derived.Test.YtikeaiogpfjdnaaGreatGp
import Derived.Test.YtikeaiogpfjdnaaGreatDat
import Derived.Test.YtikeaiogpfjdnaaGreatDel
import Derived.Test.YtikeaiogpfjdnaaGreatTap
import Derived.Test.YtikeaiogpfjdnaaGreatAl
namespace Go.Kx
open Go Go.RowKit Go.Proofs
set_option maxRecDepth 10000
set_option maxHeartbeats 8000000
set_option linter.unusedVariables false
set_option linter.unusedSimpArgs false
theorem AQ:j9 Tryz.prog 126=some (some 6):=by kernel_rfl
theorem DU:j9 Tryz.prog 131=some (some 5):=by kernel_rfl
theorem xl:j9 Tryz.prog 189=some (some 2):=by kernel_rfl
theorem I9:j9 Tryz.prog 22=some none:=by kernel_rfl
theorem lS:j9 Tryz.prog 24=some none:=by kernel_rfl
theorem n8:j9 Tryz.prog 26=some (some 1):=by kernel_rfl
theorem Fy:j9 Tryz.prog 27=some none:=by kernel_rfl
theorem ym:j9 Tryz.prog 28=some none:=by kernel_rfl
theorem jg:j9 Tryz.prog 3=some none:=by kernel_rfl
theorem HT:j9 Tryz.prog 30=some (some 4):=by kernel_rfl
theorem pQ:j9 Tryz.prog 32=some (some 5):=by kernel_rfl
theorem uO:j9 Tryz.prog 33=some none:=by kernel_rfl
theorem kn:j9 Tryz.prog 35=some (some 3):=by kernel_rfl
theorem jq:j9 Tryz.prog 37=some (some 16):=by kernel_rfl
theorem pW:j9 Tryz.prog 4=some none:=by kernel_rfl
theorem pR:j9 Tryz.prog 42=some none:=by kernel_rfl
theorem mu:j9 Tryz.prog 44=some (some 13):=by kernel_rfl
theorem Bi:j9 Tryz.prog 46=some (some 5):=by kernel_rfl
theorem HH:j9 Tryz.prog 5=some none:=by kernel_rfl
theorem D1:j9 Tryz.prog 59=some (some 6):=by kernel_rfl
theorem Jo:j9 Tryz.prog 75=some none:=by kernel_rfl
theorem k4:j9 Tryz.prog 77=some (some 2):=by kernel_rfl
theorem ju:j9 Tryz.prog 87=some (some 2):=by kernel_rfl
theorem IL:Program.eqGuardType Tryz.prog Tryz.prog.depth 189=false:=by kernel_rfl
theorem Ht:Program.eqGuardType Tryz.prog Tryz.prog.depth 46=false:=by kernel_rfl
theorem I7:Program.eqGuardType Tryz.prog Tryz.prog.depth 87=false:=by kernel_rfl
theorem IF:∀ (a b:iU) (w:World),(Op.equalIn 10000 189 (.agg #[.int .i64 a.src,.int .i64 a.n]) (.agg #[.int .i64 b.src,.int .i64 b.n])).run Tryz.prog w=.ok (decide (a=b)) w:=fun a b w=>oK.top (n:=1) (oK.agg (n:=0) Tryz.underlying189 (by kernel_rfl) (qz.one rfl jg rfl rfl (oK.int Tryz.underlying3) (qz.one rfl jg rfl rfl (oK.int Tryz.underlying3) qz.nil))) (by decide) (by
  obtain ⟨x0,x1⟩:=a
  obtain ⟨y0,y1⟩:=b
  simp [iU.mk.injEq,Bool.beq_eq_decide_eq,Bool.decide_and]) w
theorem HO:∀ (a b:iz) (w:World),(Op.equalIn 10000 46 (.agg #[.bool a.live,.int .i64 a.parent,.int .i64 a.iX.bh,.int .i64 a.iX.ig,.int .i64 a.iX.iB]) (.agg #[.bool b.live,.int .i64 b.parent,.int .i64 b.iX.bh,.int .i64 b.iX.ig,.int .i64 b.iX.iB])).run Tryz.prog w=.ok (decide (a=b)) w:=fun a b w=>oK.top (n:=2) (oK.agg (n:=1) Tryz.underlying46 (by kernel_rfl) (qz.one rfl pW rfl rfl (oK.bool Tryz.underlying4) (qz.one rfl jg rfl rfl (oK.int Tryz.underlying3) (qz.more rfl kn (oK.agg (n:=0) Tryz.underlying35 (by kernel_rfl) (qz.one rfl jg rfl rfl (oK.int Tryz.underlying3) (qz.one rfl jg rfl rfl (oK.int Tryz.underlying3) (qz.one rfl jg rfl rfl (oK.int Tryz.underlying3) qz.nil)))) qz.nil)))) (by decide) (by
  obtain ⟨x0,x1,⟨x2,x3,x4⟩⟩:=a
  obtain ⟨y0,y1,⟨y2,y3,y4⟩⟩:=b
  simp [iC.mk.injEq,iz.mk.injEq,Bool.beq_eq_decide_eq,Bool.decide_and]) w
theorem Jb:∀ (a b:iJ) (w:World),(Op.equalIn 10000 87 (.agg #[.int .i64 a.code,.int .i64 a.val]) (.agg #[.int .i64 b.code,.int .i64 b.val])).run Tryz.prog w=.ok (decide (a=b)) w:=fun a b w=>oK.top (n:=1) (oK.agg (n:=0) Tryz.underlying87 (by kernel_rfl) (qz.one rfl jg rfl rfl (oK.int Tryz.underlying3) (qz.one rfl jg rfl rfl (oK.int Tryz.underlying3) qz.nil))) (by decide) (by
  obtain ⟨x0,x1⟩:=a
  obtain ⟨y0,y1⟩:=b
  simp [iJ.mk.injEq,Bool.beq_eq_decide_eq,Bool.decide_and]) w
theorem GO:fo Tryz.prog 201 0=some (0,some 16):=by kernel_rfl
theorem HM:fo Tryz.prog 37 0=some (0,some 1):=by kernel_rfl
theorem Du:fo Tryz.prog 44 10=some (10,none):=by kernel_rfl
theorem Ik:fo Tryz.prog 44 3=some (3,none):=by kernel_rfl
theorem Ho:fo Tryz.prog 44 5=some (5,none):=by kernel_rfl
theorem H0:fo Tryz.prog 59 2=some (2,none):=by kernel_rfl
theorem Ja:ur Tryz.prog 73=true:=by kernel_rfl
theorem lU:m3 Tryz.prog 24 Int:=m3.of (b:=8) (by kernel_rfl) rfl
theorem FP:m3 Tryz.prog 27 iz:=m3.of (b:=40) (by kernel_rfl) rfl
theorem FN:m3 Tryz.prog 28 cd:=m3.of (b:=152) (by kernel_rfl) rfl
theorem r6:m3 Tryz.prog 33 je:=m3.of (b:=48) (by kernel_rfl) rfl
theorem qe:m3 Tryz.prog 42 iU:=m3.of (b:=16) (by kernel_rfl) rfl
theorem Jf:m3 Tryz.prog 52 ka:=m3.of (b:=72) (by kernel_rfl) rfl
theorem Hz:m3 Tryz.prog 71 Bool:=m3.of (b:=1) (by kernel_rfl) rfl
theorem Bm:m3 Tryz.prog 75 hZ:=m3.of (b:=224) (by kernel_rfl) rfl
theorem II:m3 Tryz.prog 28 oh:=m3.of (b:=152) (by kernel_rfl) rfl
theorem v8:oH Tryz.prog 126=some 6:=by kernel_rfl
theorem IH:oH Tryz.prog 131=some 5:=by kernel_rfl
theorem DZ:oH Tryz.prog 189=some 2:=by kernel_rfl
theorem Dn:oH Tryz.prog 3=some 1:=by kernel_rfl
theorem I6:oH Tryz.prog 37=some 16:=by kernel_rfl
theorem JH:oH Tryz.prog 4=some 1:=by kernel_rfl
theorem vT:oH Tryz.prog 44=some 13:=by kernel_rfl
theorem DQ:oH Tryz.prog 46=some 5:=by kernel_rfl
theorem JG:oH Tryz.prog 5=some 1:=by kernel_rfl
theorem Iu:zeroV Tryz.prog 126=some (.agg #[.int .i64 0,.int .i64 0,.int .i64 0,.int .i64 0,.int .i64 0,.int .i64 0]):=by kernel_rfl
theorem Iw:zeroV Tryz.prog 131=some (.agg #[.slice none 0 0,.slice none 0 0,.int .i64 0,.int .i64 0,.int .i64 0]):=by kernel_rfl
theorem ID:zeroV Tryz.prog 189=some (.agg #[.int .i64 0,.int .i64 0]):=by kernel_rfl
theorem Jd:zeroV Tryz.prog 26=some (.agg #[.slice none 0 0]):=by kernel_rfl
theorem Jn:zeroV Tryz.prog 30=some (.agg #[.int .i64 0,.int .i64 0,.int .i64 0,.slice none 0 0]):=by kernel_rfl
theorem I8:zeroV Tryz.prog 32=some (.agg #[.slice none 0 0,.int .i64 0,.int .i64 0,.int .i64 0,.slice none 0 0]):=by kernel_rfl
theorem Jv:zeroV Tryz.prog 35=some (.agg #[.int .i64 0,.int .i64 0,.int .i64 0]):=by kernel_rfl
theorem Jk:zeroV Tryz.prog 37=some (.agg #[.slice none 0 0,.slice none 0 0,.slice none 0 0,.slice none 0 0,.int .i64 0,.int .i64 0,.int .i64 0,.slice none 0 0,.slice none 0 0,.int .i64 0,.int .i64 0,.int .i64 0,.int .i64 0,.int .i64 0,.int .i64 0,.int .i64 0]):=by kernel_rfl
theorem Jh:zeroV Tryz.prog 44=some (.agg #[.int .i64 0,.int .i64 0,.int .i64 0,.int .i64 0,.int .i64 0,.int .i64 0,.int .i64 0,.int .i64 0,.int .i64 0,.bool false,.slice none 0 0,.slice none 0 0,.slice none 0 0]):=by kernel_rfl
theorem Jc:zeroV Tryz.prog 46=some (.agg #[.bool false,.int .i64 0,.int .i64 0,.int .i64 0,.int .i64 0]):=by kernel_rfl
theorem Je:zeroV Tryz.prog 59=some (.agg #[.int .i64 0,.int .i64 0,.int .i64 0,.int .i64 0,.int .i64 0,.int .i64 0]):=by kernel_rfl
theorem Ju:zeroV Tryz.prog 77=some (.agg #[.int .i64 0,.slice none 0 0]):=by kernel_rfl
theorem Jl:zeroV Tryz.prog 87=some (.agg #[.int .i64 0,.int .i64 0]):=by kernel_rfl
instance:ni Tryz.prog 126 (some 6):=⟨AQ⟩
instance:ni Tryz.prog 131 (some 5):=⟨DU⟩
instance:ni Tryz.prog 189 (some 2):=⟨xl⟩
instance:ni Tryz.prog 22 none:=⟨I9⟩
instance:ni Tryz.prog 24 none:=⟨lS⟩
instance:ni Tryz.prog 26 (some 1):=⟨n8⟩
instance:ni Tryz.prog 27 none:=⟨Fy⟩
instance:ni Tryz.prog 28 none:=⟨ym⟩
instance:ni Tryz.prog 3 none:=⟨jg⟩
instance:ni Tryz.prog 30 (some 4):=⟨HT⟩
instance:ni Tryz.prog 32 (some 5):=⟨pQ⟩
instance:ni Tryz.prog 33 none:=⟨uO⟩
instance:ni Tryz.prog 35 (some 3):=⟨kn⟩
instance:ni Tryz.prog 37 (some 16):=⟨jq⟩
instance:ni Tryz.prog 4 none:=⟨pW⟩
instance:ni Tryz.prog 42 none:=⟨pR⟩
instance:ni Tryz.prog 44 (some 13):=⟨mu⟩
instance:ni Tryz.prog 46 (some 5):=⟨Bi⟩
instance:ni Tryz.prog 5 none:=⟨HH⟩
instance:ni Tryz.prog 59 (some 6):=⟨D1⟩
instance:ni Tryz.prog 75 none:=⟨Jo⟩
instance:ni Tryz.prog 77 (some 2):=⟨k4⟩
instance:ni Tryz.prog 87 (some 2):=⟨ju⟩
instance:ki Tryz.prog 126 0 0 none:=⟨by kernel_rfl⟩
instance:ki Tryz.prog 126 1 1 none:=⟨by kernel_rfl⟩
instance:ki Tryz.prog 126 2 2 none:=⟨by kernel_rfl⟩
instance:ki Tryz.prog 126 3 3 none:=⟨by kernel_rfl⟩
instance:ki Tryz.prog 126 4 4 none:=⟨by kernel_rfl⟩
instance:ki Tryz.prog 126 5 5 none:=⟨by kernel_rfl⟩
instance:ki Tryz.prog 131 0 0 (some 1):=⟨by kernel_rfl⟩
instance:ki Tryz.prog 131 1 1 none:=⟨by kernel_rfl⟩
instance:ki Tryz.prog 131 2 2 (some 3):=⟨by kernel_rfl⟩
instance:ki Tryz.prog 164 0 0 none:=⟨by kernel_rfl⟩
instance:ki Tryz.prog 164 1 1 none:=⟨by kernel_rfl⟩
instance:ki Tryz.prog 164 2 2 none:=⟨by kernel_rfl⟩
instance:ki Tryz.prog 189 0 0 none:=⟨by kernel_rfl⟩
instance:ki Tryz.prog 189 1 1 none:=⟨by kernel_rfl⟩
instance:ki Tryz.prog 201 0 0 (some 16):=⟨by kernel_rfl⟩
instance:ki Tryz.prog 201 1 16 none:=⟨by kernel_rfl⟩
instance:ki Tryz.prog 201 2 17 none:=⟨by kernel_rfl⟩
instance:ki Tryz.prog 201 3 18 none:=⟨by kernel_rfl⟩
instance:ki Tryz.prog 26 0 0 none:=⟨by kernel_rfl⟩
instance:ki Tryz.prog 30 0 0 none:=⟨by kernel_rfl⟩
instance:ki Tryz.prog 30 1 1 none:=⟨by kernel_rfl⟩
instance:ki Tryz.prog 30 2 2 none:=⟨by kernel_rfl⟩
instance:ki Tryz.prog 30 3 3 none:=⟨by kernel_rfl⟩
instance:ki Tryz.prog 32 0 0 none:=⟨by kernel_rfl⟩
instance:ki Tryz.prog 32 1 1 (some 4):=⟨by kernel_rfl⟩
instance:ki Tryz.prog 35 0 0 none:=⟨by kernel_rfl⟩
instance:ki Tryz.prog 35 1 1 none:=⟨by kernel_rfl⟩
instance:ki Tryz.prog 35 2 2 none:=⟨by kernel_rfl⟩
instance:ki Tryz.prog 37 0 0 (some 1):=⟨by kernel_rfl⟩
instance:ki Tryz.prog 37 1 1 none:=⟨by kernel_rfl⟩
instance:ki Tryz.prog 37 2 2 none:=⟨by kernel_rfl⟩
instance:ki Tryz.prog 37 3 3 (some 5):=⟨by kernel_rfl⟩
instance:ki Tryz.prog 37 4 8 none:=⟨by kernel_rfl⟩
instance:ki Tryz.prog 37 5 9 none:=⟨by kernel_rfl⟩
instance:ki Tryz.prog 37 6 10 none:=⟨by kernel_rfl⟩
instance:ki Tryz.prog 37 7 11 (some 3):=⟨by kernel_rfl⟩
instance:ki Tryz.prog 37 8 14 none:=⟨by kernel_rfl⟩
instance:ki Tryz.prog 37 9 15 none:=⟨by kernel_rfl⟩
instance:ki Tryz.prog 44 0 0 none:=⟨by kernel_rfl⟩
instance:ki Tryz.prog 44 1 1 none:=⟨by kernel_rfl⟩
instance:ki Tryz.prog 44 10 10 none:=⟨by kernel_rfl⟩
instance:ki Tryz.prog 44 11 11 none:=⟨by kernel_rfl⟩
instance:ki Tryz.prog 44 12 12 none:=⟨by kernel_rfl⟩
instance:ki Tryz.prog 44 2 2 none:=⟨by kernel_rfl⟩
instance:ki Tryz.prog 44 3 3 none:=⟨by kernel_rfl⟩
instance:ki Tryz.prog 44 4 4 none:=⟨by kernel_rfl⟩
instance:ki Tryz.prog 44 5 5 none:=⟨by kernel_rfl⟩
instance:ki Tryz.prog 44 6 6 none:=⟨by kernel_rfl⟩
instance:ki Tryz.prog 44 7 7 none:=⟨by kernel_rfl⟩
instance:ki Tryz.prog 44 8 8 none:=⟨by kernel_rfl⟩
instance:ki Tryz.prog 44 9 9 none:=⟨by kernel_rfl⟩
instance:ki Tryz.prog 46 0 0 none:=⟨by kernel_rfl⟩
instance:ki Tryz.prog 46 1 1 none:=⟨by kernel_rfl⟩
instance:ki Tryz.prog 46 2 2 (some 3):=⟨by kernel_rfl⟩
instance:ki Tryz.prog 59 0 0 none:=⟨by kernel_rfl⟩
instance:ki Tryz.prog 59 1 1 none:=⟨by kernel_rfl⟩
instance:ki Tryz.prog 59 2 2 none:=⟨by kernel_rfl⟩
instance:ki Tryz.prog 59 3 3 none:=⟨by kernel_rfl⟩
instance:ki Tryz.prog 59 4 4 none:=⟨by kernel_rfl⟩
instance:ki Tryz.prog 59 5 5 none:=⟨by kernel_rfl⟩
instance:ki Tryz.prog 77 0 0 none:=⟨by kernel_rfl⟩
instance:ki Tryz.prog 77 1 1 none:=⟨by kernel_rfl⟩
instance:ki Tryz.prog 87 0 0 none:=⟨by kernel_rfl⟩
instance:vD Tryz.prog 126 6:=⟨v8⟩
instance:vD Tryz.prog 131 5:=⟨IH⟩
instance:vD Tryz.prog 189 2:=⟨DZ⟩
instance:vD Tryz.prog 3 1:=⟨Dn⟩
instance:vD Tryz.prog 37 16:=⟨I6⟩
instance:vD Tryz.prog 4 1:=⟨JH⟩
instance:vD Tryz.prog 44 13:=⟨vT⟩
instance:vD Tryz.prog 46 5:=⟨DQ⟩
instance:vD Tryz.prog 5 1:=⟨JG⟩
instance:uW Tryz.prog 126:=⟨_,Iu⟩
instance:uW Tryz.prog 131:=⟨_,Iw⟩
instance:uW Tryz.prog 189:=⟨_,ID⟩
instance:uW Tryz.prog 26:=⟨_,Jd⟩
instance:uW Tryz.prog 30:=⟨_,Jn⟩
instance:uW Tryz.prog 32:=⟨_,I8⟩
instance:uW Tryz.prog 35:=⟨_,Jv⟩
instance:uW Tryz.prog 37:=⟨_,Jk⟩
instance:uW Tryz.prog 44:=⟨_,Jh⟩
instance:uW Tryz.prog 46:=⟨_,Jc⟩
instance:uW Tryz.prog 59:=⟨_,Je⟩
instance:uW Tryz.prog 77:=⟨_,Ju⟩
instance:uW Tryz.prog 87:=⟨_,Jl⟩
instance:pU Tryz.prog 22 (.slice 5):=⟨Tryz.underlying22⟩
instance:pU Tryz.prog 24 (.slice 3):=⟨Tryz.underlying24⟩
instance:pU Tryz.prog 27 (.slice 46):=⟨Tryz.underlying27⟩
instance:pU Tryz.prog 28 (.slice 44):=⟨Tryz.underlying28⟩
instance:pU Tryz.prog 33 (.slice 126):=⟨Tryz.underlying33⟩
instance:pU Tryz.prog 42 (.slice 189):=⟨Tryz.underlying42⟩
instance:pU Tryz.prog 52 (.slice 131):=⟨Tryz.underlying52⟩
instance:pU Tryz.prog 53 (.slice 61):=⟨Tryz.underlying53⟩
instance:pU Tryz.prog 71 (.slice 4):=⟨Tryz.underlying71⟩
instance:pU Tryz.prog 75 (.slice 37):=⟨Tryz.underlying75⟩
instance:pU Tryz.prog 94 (.slice 219):=⟨Tryz.underlying94⟩
instance:pU Tryz.prog 158 (.slice 9):=⟨Tryz.underlying158⟩
instance:pU Tryz.prog 190 (.slice 192):=⟨Tryz.underlying190⟩
instance:pU Tryz.prog 211 (.slice 271):=⟨Tryz.underlying211⟩
instance:pU Tryz.prog 212 (.slice 283):=⟨Tryz.underlying212⟩
instance:pU Tryz.prog 216 (.slice 275):=⟨Tryz.underlying216⟩
instance:pU Tryz.prog 281 (.slice 290):=⟨Tryz.underlying281⟩
end Go.Kx
