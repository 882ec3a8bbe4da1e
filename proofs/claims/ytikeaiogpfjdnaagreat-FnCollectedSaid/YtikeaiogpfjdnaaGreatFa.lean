/- Closed facts of the program's types and functions. Printed by drive.py. -/
import Derived.Test.YtikeaiogpfjdnaaGreatProg
import Derived.Test.YtikeaiogpfjdnaaGreatGo
import Derived.Test.YtikeaiogpfjdnaaGreatGp
import Derived.Test.YtikeaiogpfjdnaaGreatDat
import Derived.Test.YtikeaiogpfjdnaaGreatDel
import Derived.Test.YtikeaiogpfjdnaaGreatTap
import Derived.Test.YtikeaiogpfjdnaaGreatAl
namespace Go.Kx
open Go Go.RowKit Go.Proofs
set_option maxRecDepth 10000
set_option maxHeartbeats 8000000
set_option linter.unusedVariables false
set_option linter.unusedSimpArgs false
theorem vz:jV Tryz.prog 126=some (some 6):=by kernel_rfl
theorem D6:jV Tryz.prog 131=some (some 5):=by kernel_rfl
theorem tY:jV Tryz.prog 189=some (some 2):=by kernel_rfl
theorem Gw:jV Tryz.prog 22=some none:=by kernel_rfl
theorem nA:jV Tryz.prog 24=some none:=by kernel_rfl
theorem BJ:jV Tryz.prog 26=some (some 1):=by kernel_rfl
theorem GA:jV Tryz.prog 27=some none:=by kernel_rfl
theorem Gz:jV Tryz.prog 28=some none:=by kernel_rfl
theorem iW:jV Tryz.prog 3=some none:=by kernel_rfl
theorem Fe:jV Tryz.prog 30=some (some 4):=by kernel_rfl
theorem mx:jV Tryz.prog 32=some (some 5):=by kernel_rfl
theorem GK:jV Tryz.prog 33=some none:=by kernel_rfl
theorem kE:jV Tryz.prog 35=some (some 3):=by kernel_rfl
theorem jw:jV Tryz.prog 37=some (some 16):=by kernel_rfl
theorem lP:jV Tryz.prog 4=some none:=by kernel_rfl
theorem Bw:jV Tryz.prog 42=some none:=by kernel_rfl
theorem lA:jV Tryz.prog 44=some (some 13):=by kernel_rfl
theorem xH:jV Tryz.prog 46=some (some 5):=by kernel_rfl
theorem Fj:jV Tryz.prog 5=some none:=by kernel_rfl
theorem Fv:jV Tryz.prog 59=some (some 6):=by kernel_rfl
theorem jP:jV Tryz.prog 87=some (some 2):=by kernel_rfl
theorem FK:Program.eqGuardType Tryz.prog Tryz.prog.depth 126=false:=by kernel_rfl
theorem DV:Program.eqGuardType Tryz.prog Tryz.prog.depth 189=false:=by kernel_rfl
theorem E4:Program.eqGuardType Tryz.prog Tryz.prog.depth 35=false:=by kernel_rfl
theorem Dn:Program.eqGuardType Tryz.prog Tryz.prog.depth 46=false:=by kernel_rfl
theorem F6:∀ (a b:jE) (w:World),(Op.equalIn 10000 126 (.agg #[.int .i64 a.res,.int .i64 a.k5,.int .i64 a.lR,.int .i64 a.lV,.int .i64 a.kind,.int .i64 a.mq]) (.agg #[.int .i64 b.res,.int .i64 b.k5,.int .i64 b.lR,.int .i64 b.lV,.int .i64 b.kind,.int .i64 b.mq])).run Tryz.prog w=.ok (decide (a=b)) w:=fun a b w=>lH.top (n:=1) (lH.agg (n:=0) Tryz.underlying126 (by kernel_rfl) (mr.one rfl iW rfl rfl (lH.int Tryz.underlying3) (mr.one rfl iW rfl rfl (lH.int Tryz.underlying3) (mr.one rfl iW rfl rfl (lH.int Tryz.underlying3) (mr.one rfl iW rfl rfl (lH.int Tryz.underlying3) (mr.one rfl iW rfl rfl (lH.int Tryz.underlying3) (mr.one rfl iW rfl rfl (lH.int Tryz.underlying3) mr.nil))))))) (by decide) (by
  obtain ⟨x0,x1,x2,x3,x4,x5⟩:=a
  obtain ⟨y0,y1,y2,y3,y4,y5⟩:=b
  simp [jE.mk.injEq,Bool.beq_eq_decide_eq,Bool.decide_and]) w
theorem D2:∀ (a b:jq) (w:World),(Op.equalIn 10000 189 (.agg #[.int .i64 a.src,.int .i64 a.n]) (.agg #[.int .i64 b.src,.int .i64 b.n])).run Tryz.prog w=.ok (decide (a=b)) w:=fun a b w=>lH.top (n:=1) (lH.agg (n:=0) Tryz.underlying189 (by kernel_rfl) (mr.one rfl iW rfl rfl (lH.int Tryz.underlying3) (mr.one rfl iW rfl rfl (lH.int Tryz.underlying3) mr.nil))) (by decide) (by
  obtain ⟨x0,x1⟩:=a
  obtain ⟨y0,y1⟩:=b
  simp [jq.mk.injEq,Bool.beq_eq_decide_eq,Bool.decide_and]) w
theorem Fl:∀ (a b:iw) (w:World),(Op.equalIn 10000 35 (.agg #[.int .i64 a.cd,.int .i64 a.im,.int .i64 a.iC]) (.agg #[.int .i64 b.cd,.int .i64 b.im,.int .i64 b.iC])).run Tryz.prog w=.ok (decide (a=b)) w:=fun a b w=>lH.top (n:=1) (lH.agg (n:=0) Tryz.underlying35 (by kernel_rfl) (mr.one rfl iW rfl rfl (lH.int Tryz.underlying3) (mr.one rfl iW rfl rfl (lH.int Tryz.underlying3) (mr.one rfl iW rfl rfl (lH.int Tryz.underlying3) mr.nil)))) (by decide) (by
  obtain ⟨x0,x1,x2⟩:=a
  obtain ⟨y0,y1,y2⟩:=b
  simp [iw.mk.injEq,Bool.beq_eq_decide_eq,Bool.decide_and]) w
theorem DI:∀ (a b:iq) (w:World),(Op.equalIn 10000 46 (.agg #[.bool a.live,.int .i64 a.parent,.int .i64 a.iL.cd,.int .i64 a.iL.im,.int .i64 a.iL.iC]) (.agg #[.bool b.live,.int .i64 b.parent,.int .i64 b.iL.cd,.int .i64 b.iL.im,.int .i64 b.iL.iC])).run Tryz.prog w=.ok (decide (a=b)) w:=fun a b w=>lH.top (n:=2) (lH.agg (n:=1) Tryz.underlying46 (by kernel_rfl) (mr.one rfl lP rfl rfl (lH.bool Tryz.underlying4) (mr.one rfl iW rfl rfl (lH.int Tryz.underlying3) (mr.more rfl kE (lH.agg (n:=0) Tryz.underlying35 (by kernel_rfl) (mr.one rfl iW rfl rfl (lH.int Tryz.underlying3) (mr.one rfl iW rfl rfl (lH.int Tryz.underlying3) (mr.one rfl iW rfl rfl (lH.int Tryz.underlying3) mr.nil)))) mr.nil)))) (by decide) (by
  obtain ⟨x0,x1,⟨x2,x3,x4⟩⟩:=a
  obtain ⟨y0,y1,⟨y2,y3,y4⟩⟩:=b
  simp [iq.mk.injEq,iw.mk.injEq,Bool.beq_eq_decide_eq,Bool.decide_and]) w
theorem FJ:fo Tryz.prog 37 0=some (0,some 1):=by kernel_rfl
theorem AI:fo Tryz.prog 44 10=some (10,none):=by kernel_rfl
theorem mu:ql Tryz.prog 24 Int:=ql.of (b:=8) (by kernel_rfl) rfl
theorem Dw:ql Tryz.prog 27 iq:=ql.of (b:=40) (by kernel_rfl) rfl
theorem Dv:ql Tryz.prog 28 bh:=ql.of (b:=152) (by kernel_rfl) rfl
theorem xE:ql Tryz.prog 33 jE:=ql.of (b:=48) (by kernel_rfl) rfl
theorem ve:ql Tryz.prog 42 jq:=ql.of (b:=16) (by kernel_rfl) rfl
theorem Gv:ql Tryz.prog 71 Bool:=ql.of (b:=1) (by kernel_rfl) rfl
theorem By:qW Tryz.prog 126=some 6:=by kernel_rfl
theorem D5:qW Tryz.prog 189=some 2:=by kernel_rfl
theorem AK:qW Tryz.prog 3=some 1:=by kernel_rfl
theorem GN:qW Tryz.prog 4=some 1:=by kernel_rfl
theorem Db:qW Tryz.prog 44=some 13:=by kernel_rfl
theorem DC:qW Tryz.prog 46=some 5:=by kernel_rfl
theorem GV:qW Tryz.prog 5=some 1:=by kernel_rfl
theorem F8:zeroV Tryz.prog 126=some (.agg #[.int .i64 0,.int .i64 0,.int .i64 0,.int .i64 0,.int .i64 0,.int .i64 0]):=by kernel_rfl
theorem F9:zeroV Tryz.prog 131=some (.agg #[.slice none 0 0,.slice none 0 0,.int .i64 0,.int .i64 0,.int .i64 0]):=by kernel_rfl
theorem FN:zeroV Tryz.prog 189=some (.agg #[.int .i64 0,.int .i64 0]):=by kernel_rfl
theorem GF:zeroV Tryz.prog 26=some (.agg #[.slice none 0 0]):=by kernel_rfl
theorem GM:zeroV Tryz.prog 30=some (.agg #[.int .i64 0,.int .i64 0,.int .i64 0,.slice none 0 0]):=by kernel_rfl
theorem GH:zeroV Tryz.prog 32=some (.agg #[.slice none 0 0,.int .i64 0,.int .i64 0,.int .i64 0,.slice none 0 0]):=by kernel_rfl
theorem GG:zeroV Tryz.prog 35=some (.agg #[.int .i64 0,.int .i64 0,.int .i64 0]):=by kernel_rfl
theorem GJ:zeroV Tryz.prog 37=some (.agg #[.slice none 0 0,.slice none 0 0,.slice none 0 0,.slice none 0 0,.int .i64 0,.int .i64 0,.int .i64 0,.slice none 0 0,.slice none 0 0,.int .i64 0,.int .i64 0,.int .i64 0,.int .i64 0,.int .i64 0,.int .i64 0,.int .i64 0]):=by kernel_rfl
theorem Gu:zeroV Tryz.prog 44=some (.agg #[.int .i64 0,.int .i64 0,.int .i64 0,.int .i64 0,.int .i64 0,.int .i64 0,.int .i64 0,.int .i64 0,.int .i64 0,.bool false,.slice none 0 0,.slice none 0 0,.slice none 0 0]):=by kernel_rfl
theorem GL:zeroV Tryz.prog 46=some (.agg #[.bool false,.int .i64 0,.int .i64 0,.int .i64 0,.int .i64 0]):=by kernel_rfl
theorem Gy:zeroV Tryz.prog 59=some (.agg #[.int .i64 0,.int .i64 0,.int .i64 0,.int .i64 0,.int .i64 0,.int .i64 0]):=by kernel_rfl
theorem GC:zeroV Tryz.prog 87=some (.agg #[.int .i64 0,.int .i64 0]):=by kernel_rfl
instance:mD Tryz.prog 126 (some 6):=⟨vz⟩
instance:mD Tryz.prog 131 (some 5):=⟨D6⟩
instance:mD Tryz.prog 189 (some 2):=⟨tY⟩
instance:mD Tryz.prog 22 none:=⟨Gw⟩
instance:mD Tryz.prog 24 none:=⟨nA⟩
instance:mD Tryz.prog 26 (some 1):=⟨BJ⟩
instance:mD Tryz.prog 27 none:=⟨GA⟩
instance:mD Tryz.prog 28 none:=⟨Gz⟩
instance:mD Tryz.prog 3 none:=⟨iW⟩
instance:mD Tryz.prog 30 (some 4):=⟨Fe⟩
instance:mD Tryz.prog 32 (some 5):=⟨mx⟩
instance:mD Tryz.prog 33 none:=⟨GK⟩
instance:mD Tryz.prog 35 (some 3):=⟨kE⟩
instance:mD Tryz.prog 37 (some 16):=⟨jw⟩
instance:mD Tryz.prog 4 none:=⟨lP⟩
instance:mD Tryz.prog 42 none:=⟨Bw⟩
instance:mD Tryz.prog 44 (some 13):=⟨lA⟩
instance:mD Tryz.prog 46 (some 5):=⟨xH⟩
instance:mD Tryz.prog 5 none:=⟨Fj⟩
instance:mD Tryz.prog 59 (some 6):=⟨Fv⟩
instance:mD Tryz.prog 87 (some 2):=⟨jP⟩
instance:kb Tryz.prog 126 0 0 none:=⟨by kernel_rfl⟩
instance:kb Tryz.prog 126 1 1 none:=⟨by kernel_rfl⟩
instance:kb Tryz.prog 126 2 2 none:=⟨by kernel_rfl⟩
instance:kb Tryz.prog 126 3 3 none:=⟨by kernel_rfl⟩
instance:kb Tryz.prog 126 4 4 none:=⟨by kernel_rfl⟩
instance:kb Tryz.prog 126 5 5 none:=⟨by kernel_rfl⟩
instance:kb Tryz.prog 131 0 0 (some 1):=⟨by kernel_rfl⟩
instance:kb Tryz.prog 131 1 1 none:=⟨by kernel_rfl⟩
instance:kb Tryz.prog 131 2 2 (some 3):=⟨by kernel_rfl⟩
instance:kb Tryz.prog 164 0 0 none:=⟨by kernel_rfl⟩
instance:kb Tryz.prog 164 1 1 none:=⟨by kernel_rfl⟩
instance:kb Tryz.prog 164 2 2 none:=⟨by kernel_rfl⟩
instance:kb Tryz.prog 189 0 0 none:=⟨by kernel_rfl⟩
instance:kb Tryz.prog 189 1 1 none:=⟨by kernel_rfl⟩
instance:kb Tryz.prog 26 0 0 none:=⟨by kernel_rfl⟩
instance:kb Tryz.prog 30 0 0 none:=⟨by kernel_rfl⟩
instance:kb Tryz.prog 30 1 1 none:=⟨by kernel_rfl⟩
instance:kb Tryz.prog 30 2 2 none:=⟨by kernel_rfl⟩
instance:kb Tryz.prog 30 3 3 none:=⟨by kernel_rfl⟩
instance:kb Tryz.prog 32 0 0 none:=⟨by kernel_rfl⟩
instance:kb Tryz.prog 32 1 1 (some 4):=⟨by kernel_rfl⟩
instance:kb Tryz.prog 35 0 0 none:=⟨by kernel_rfl⟩
instance:kb Tryz.prog 35 1 1 none:=⟨by kernel_rfl⟩
instance:kb Tryz.prog 35 2 2 none:=⟨by kernel_rfl⟩
instance:kb Tryz.prog 37 0 0 (some 1):=⟨by kernel_rfl⟩
instance:kb Tryz.prog 37 1 1 none:=⟨by kernel_rfl⟩
instance:kb Tryz.prog 37 2 2 none:=⟨by kernel_rfl⟩
instance:kb Tryz.prog 37 3 3 (some 5):=⟨by kernel_rfl⟩
instance:kb Tryz.prog 37 4 8 none:=⟨by kernel_rfl⟩
instance:kb Tryz.prog 37 5 9 none:=⟨by kernel_rfl⟩
instance:kb Tryz.prog 37 6 10 none:=⟨by kernel_rfl⟩
instance:kb Tryz.prog 37 7 11 (some 3):=⟨by kernel_rfl⟩
instance:kb Tryz.prog 37 8 14 none:=⟨by kernel_rfl⟩
instance:kb Tryz.prog 37 9 15 none:=⟨by kernel_rfl⟩
instance:kb Tryz.prog 44 0 0 none:=⟨by kernel_rfl⟩
instance:kb Tryz.prog 44 1 1 none:=⟨by kernel_rfl⟩
instance:kb Tryz.prog 44 10 10 none:=⟨by kernel_rfl⟩
instance:kb Tryz.prog 44 11 11 none:=⟨by kernel_rfl⟩
instance:kb Tryz.prog 44 12 12 none:=⟨by kernel_rfl⟩
instance:kb Tryz.prog 44 2 2 none:=⟨by kernel_rfl⟩
instance:kb Tryz.prog 44 3 3 none:=⟨by kernel_rfl⟩
instance:kb Tryz.prog 44 4 4 none:=⟨by kernel_rfl⟩
instance:kb Tryz.prog 44 5 5 none:=⟨by kernel_rfl⟩
instance:kb Tryz.prog 44 6 6 none:=⟨by kernel_rfl⟩
instance:kb Tryz.prog 44 7 7 none:=⟨by kernel_rfl⟩
instance:kb Tryz.prog 44 8 8 none:=⟨by kernel_rfl⟩
instance:kb Tryz.prog 44 9 9 none:=⟨by kernel_rfl⟩
instance:kb Tryz.prog 46 0 0 none:=⟨by kernel_rfl⟩
instance:kb Tryz.prog 46 1 1 none:=⟨by kernel_rfl⟩
instance:kb Tryz.prog 46 2 2 (some 3):=⟨by kernel_rfl⟩
instance:kb Tryz.prog 59 0 0 none:=⟨by kernel_rfl⟩
instance:kb Tryz.prog 59 1 1 none:=⟨by kernel_rfl⟩
instance:kb Tryz.prog 59 2 2 none:=⟨by kernel_rfl⟩
instance:kb Tryz.prog 59 3 3 none:=⟨by kernel_rfl⟩
instance:kb Tryz.prog 59 4 4 none:=⟨by kernel_rfl⟩
instance:kb Tryz.prog 59 5 5 none:=⟨by kernel_rfl⟩
instance:vg Tryz.prog 126 6:=⟨By⟩
instance:vg Tryz.prog 189 2:=⟨D5⟩
instance:vg Tryz.prog 3 1:=⟨AK⟩
instance:vg Tryz.prog 4 1:=⟨GN⟩
instance:vg Tryz.prog 44 13:=⟨Db⟩
instance:vg Tryz.prog 46 5:=⟨DC⟩
instance:vg Tryz.prog 5 1:=⟨GV⟩
instance:tB Tryz.prog 126:=⟨_,F8⟩
instance:tB Tryz.prog 131:=⟨_,F9⟩
instance:tB Tryz.prog 189:=⟨_,FN⟩
instance:tB Tryz.prog 26:=⟨_,GF⟩
instance:tB Tryz.prog 30:=⟨_,GM⟩
instance:tB Tryz.prog 32:=⟨_,GH⟩
instance:tB Tryz.prog 35:=⟨_,GG⟩
instance:tB Tryz.prog 37:=⟨_,GJ⟩
instance:tB Tryz.prog 44:=⟨_,Gu⟩
instance:tB Tryz.prog 46:=⟨_,GL⟩
instance:tB Tryz.prog 59:=⟨_,Gy⟩
instance:tB Tryz.prog 87:=⟨_,GC⟩
instance:n4 Tryz.prog 22 (.slice 5):=⟨Tryz.underlying22⟩
instance:n4 Tryz.prog 24 (.slice 3):=⟨Tryz.underlying24⟩
instance:n4 Tryz.prog 27 (.slice 46):=⟨Tryz.underlying27⟩
instance:n4 Tryz.prog 28 (.slice 44):=⟨Tryz.underlying28⟩
instance:n4 Tryz.prog 33 (.slice 126):=⟨Tryz.underlying33⟩
instance:n4 Tryz.prog 42 (.slice 189):=⟨Tryz.underlying42⟩
instance:n4 Tryz.prog 52 (.slice 131):=⟨Tryz.underlying52⟩
instance:n4 Tryz.prog 53 (.slice 61):=⟨Tryz.underlying53⟩
instance:n4 Tryz.prog 71 (.slice 4):=⟨Tryz.underlying71⟩
instance:n4 Tryz.prog 75 (.slice 37):=⟨Tryz.underlying75⟩
instance:n4 Tryz.prog 94 (.slice 219):=⟨Tryz.underlying94⟩
instance:n4 Tryz.prog 158 (.slice 9):=⟨Tryz.underlying158⟩
instance:n4 Tryz.prog 190 (.slice 192):=⟨Tryz.underlying190⟩
instance:n4 Tryz.prog 211 (.slice 271):=⟨Tryz.underlying211⟩
instance:n4 Tryz.prog 212 (.slice 283):=⟨Tryz.underlying212⟩
instance:n4 Tryz.prog 216 (.slice 275):=⟨Tryz.underlying216⟩
instance:n4 Tryz.prog 281 (.slice 290):=⟨Tryz.underlying281⟩
end Go.Kx
