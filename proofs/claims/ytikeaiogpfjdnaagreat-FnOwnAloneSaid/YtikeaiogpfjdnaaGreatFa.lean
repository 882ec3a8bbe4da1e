/- Closed facts of the program's types and functions. Printed by drive.py. -/
import Derived.Test.YtikeaiogpfjdnaaGreatProg
import Derived.Test.YtikeaiogpfjdnaaGreatGo
import Derived.Test.YtikeaiogpfjdnaaGreatGp
import Derived.Test.YtikeaiogpfjdnaaGreatDat
import Derived.Test.YtikeaiogpfjdnaaGreatDel
import Derived.Test.YtikeaiogpfjdnaaGreatTap
import Derived.Test.YtikeaiogpfjdnaaGreatAl
namespace Go.Kx
open Go Go.RowKit Go.Proofs
set_option maxRecDepth 10000
set_option maxHeartbeats 8000000
set_option linter.unusedVariables false
set_option linter.unusedSimpArgs false
theorem wv:jU Tryz.prog 126=some (some 6):=by kernel_rfl
theorem CI:jU Tryz.prog 131=some (some 5):=by kernel_rfl
theorem uj:jU Tryz.prog 189=some (some 2):=by kernel_rfl
theorem Iy:jU Tryz.prog 22=some none:=by kernel_rfl
theorem nD:jU Tryz.prog 24=some none:=by kernel_rfl
theorem xb:jU Tryz.prog 26=some (some 1):=by kernel_rfl
theorem G6:jU Tryz.prog 27=some none:=by kernel_rfl
theorem Hj:jU Tryz.prog 28=some none:=by kernel_rfl
theorem iY:jU Tryz.prog 3=some none:=by kernel_rfl
theorem Hg:jU Tryz.prog 30=some (some 4):=by kernel_rfl
theorem pc:jU Tryz.prog 32=some (some 5):=by kernel_rfl
theorem Ay:jU Tryz.prog 33=some none:=by kernel_rfl
theorem km:jU Tryz.prog 35=some (some 3):=by kernel_rfl
theorem jm:jU Tryz.prog 37=some (some 16):=by kernel_rfl
theorem pd:jU Tryz.prog 4=some none:=by kernel_rfl
theorem sB:jU Tryz.prog 42=some none:=by kernel_rfl
theorem lI:jU Tryz.prog 44=some (some 13):=by kernel_rfl
theorem xp:jU Tryz.prog 46=some (some 5):=by kernel_rfl
theorem GD:jU Tryz.prog 5=some none:=by kernel_rfl
theorem C1:jU Tryz.prog 59=some (some 6):=by kernel_rfl
theorem H9:jU Tryz.prog 75=some none:=by kernel_rfl
theorem sh:jU Tryz.prog 77=some (some 2):=by kernel_rfl
theorem jJ:jU Tryz.prog 87=some (some 2):=by kernel_rfl
theorem HD:Program.eqGuardType Tryz.prog Tryz.prog.depth 126=false:=by kernel_rfl
theorem Fw:Program.eqGuardType Tryz.prog Tryz.prog.depth 189=false:=by kernel_rfl
theorem H8:Program.eqGuardType Tryz.prog Tryz.prog.depth 35=false:=by kernel_rfl
theorem EC:Program.eqGuardType Tryz.prog Tryz.prog.depth 46=false:=by kernel_rfl
theorem Hz:∀ (a b:jy) (w:World),(Op.equalIn 10000 126 (.agg #[.int .i64 a.res,.int .i64 a.lq,.int .i64 a.mD,.int .i64 a.mz,.int .i64 a.kind,.int .i64 a.mS]) (.agg #[.int .i64 b.res,.int .i64 b.lq,.int .i64 b.mD,.int .i64 b.mz,.int .i64 b.kind,.int .i64 b.mS])).run Tryz.prog w=.ok (decide (a=b)) w:=fun a b w=>mb.top (n:=1) (mb.agg (n:=0) Tryz.underlying126 (by kernel_rfl) (mT.one rfl iY rfl rfl (mb.int Tryz.underlying3) (mT.one rfl iY rfl rfl (mb.int Tryz.underlying3) (mT.one rfl iY rfl rfl (mb.int Tryz.underlying3) (mT.one rfl iY rfl rfl (mb.int Tryz.underlying3) (mT.one rfl iY rfl rfl (mb.int Tryz.underlying3) (mT.one rfl iY rfl rfl (mb.int Tryz.underlying3) mT.nil))))))) (by decide) (by
  obtain ⟨x0,x1,x2,x3,x4,x5⟩:=a
  obtain ⟨y0,y1,y2,y3,y4,y5⟩:=b
  simp [jy.mk.injEq,Bool.beq_eq_decide_eq,Bool.decide_and]) w
theorem Ff:∀ (a b:ji) (w:World),(Op.equalIn 10000 189 (.agg #[.int .i64 a.src,.int .i64 a.n]) (.agg #[.int .i64 b.src,.int .i64 b.n])).run Tryz.prog w=.ok (decide (a=b)) w:=fun a b w=>mb.top (n:=1) (mb.agg (n:=0) Tryz.underlying189 (by kernel_rfl) (mT.one rfl iY rfl rfl (mb.int Tryz.underlying3) (mT.one rfl iY rfl rfl (mb.int Tryz.underlying3) mT.nil))) (by decide) (by
  obtain ⟨x0,x1⟩:=a
  obtain ⟨y0,y1⟩:=b
  simp [ji.mk.injEq,Bool.beq_eq_decide_eq,Bool.decide_and]) w
theorem H6:∀ (a b:iB) (w:World),(Op.equalIn 10000 35 (.agg #[.int .i64 a.cd,.int .i64 a.ij,.int .i64 a.iD]) (.agg #[.int .i64 b.cd,.int .i64 b.ij,.int .i64 b.iD])).run Tryz.prog w=.ok (decide (a=b)) w:=fun a b w=>mb.top (n:=1) (mb.agg (n:=0) Tryz.underlying35 (by kernel_rfl) (mT.one rfl iY rfl rfl (mb.int Tryz.underlying3) (mT.one rfl iY rfl rfl (mb.int Tryz.underlying3) (mT.one rfl iY rfl rfl (mb.int Tryz.underlying3) mT.nil)))) (by decide) (by
  obtain ⟨x0,x1,x2⟩:=a
  obtain ⟨y0,y1,y2⟩:=b
  simp [iB.mk.injEq,Bool.beq_eq_decide_eq,Bool.decide_and]) w
theorem Ew:∀ (a b:iy) (w:World),(Op.equalIn 10000 46 (.agg #[.bool a.live,.int .i64 a.parent,.int .i64 a.iU.cd,.int .i64 a.iU.ij,.int .i64 a.iU.iD]) (.agg #[.bool b.live,.int .i64 b.parent,.int .i64 b.iU.cd,.int .i64 b.iU.ij,.int .i64 b.iU.iD])).run Tryz.prog w=.ok (decide (a=b)) w:=fun a b w=>mb.top (n:=2) (mb.agg (n:=1) Tryz.underlying46 (by kernel_rfl) (mT.one rfl pd rfl rfl (mb.bool Tryz.underlying4) (mT.one rfl iY rfl rfl (mb.int Tryz.underlying3) (mT.more rfl km (mb.agg (n:=0) Tryz.underlying35 (by kernel_rfl) (mT.one rfl iY rfl rfl (mb.int Tryz.underlying3) (mT.one rfl iY rfl rfl (mb.int Tryz.underlying3) (mT.one rfl iY rfl rfl (mb.int Tryz.underlying3) mT.nil)))) mT.nil)))) (by decide) (by
  obtain ⟨x0,x1,⟨x2,x3,x4⟩⟩:=a
  obtain ⟨y0,y1,⟨y2,y3,y4⟩⟩:=b
  simp [iy.mk.injEq,iB.mk.injEq,Bool.beq_eq_decide_eq,Bool.decide_and]) w
theorem Gp:fo Tryz.prog 201 0=some (0,some 16):=by kernel_rfl
theorem Gy:fo Tryz.prog 37 0=some (0,some 1):=by kernel_rfl
theorem Cv:fo Tryz.prog 44 10=some (10,none):=by kernel_rfl
theorem Hh:fo Tryz.prog 44 3=some (3,none):=by kernel_rfl
theorem Gz:fo Tryz.prog 44 5=some (5,none):=by kernel_rfl
theorem Ha:fo Tryz.prog 59 2=some (2,none):=by kernel_rfl
theorem Ik:tH Tryz.prog 73=true:=by kernel_rfl
theorem lL:mM Tryz.prog 24 Int:=mM.of (b:=8) (by kernel_rfl) rfl
theorem EA:mM Tryz.prog 27 iy:=mM.of (b:=40) (by kernel_rfl) rfl
theorem EM:mM Tryz.prog 28 bh:=mM.of (b:=152) (by kernel_rfl) rfl
theorem vi:mM Tryz.prog 33 jy:=mM.of (b:=48) (by kernel_rfl) rfl
theorem ua:mM Tryz.prog 42 ji:=mM.of (b:=16) (by kernel_rfl) rfl
theorem Iw:mM Tryz.prog 52 jY:=mM.of (b:=72) (by kernel_rfl) rfl
theorem GA:mM Tryz.prog 71 Bool:=mM.of (b:=1) (by kernel_rfl) rfl
theorem Ey:mM Tryz.prog 75 gE:=mM.of (b:=224) (by kernel_rfl) rfl
theorem HM:mM Tryz.prog 28 nP:=mM.of (b:=152) (by kernel_rfl) rfl
theorem vj:oe Tryz.prog 126=some 6:=by kernel_rfl
theorem HA:oe Tryz.prog 131=some 5:=by kernel_rfl
theorem CE:oe Tryz.prog 189=some 2:=by kernel_rfl
theorem BY:oe Tryz.prog 3=some 1:=by kernel_rfl
theorem Ig:oe Tryz.prog 37=some 16:=by kernel_rfl
theorem IH:oe Tryz.prog 4=some 1:=by kernel_rfl
theorem uW:oe Tryz.prog 44=some 13:=by kernel_rfl
theorem CP:oe Tryz.prog 46=some 5:=by kernel_rfl
theorem IA:oe Tryz.prog 5=some 1:=by kernel_rfl
theorem Hx:zeroV Tryz.prog 126=some (.agg #[.int .i64 0,.int .i64 0,.int .i64 0,.int .i64 0,.int .i64 0,.int .i64 0]):=by kernel_rfl
theorem Ho:zeroV Tryz.prog 131=some (.agg #[.slice none 0 0,.slice none 0 0,.int .i64 0,.int .i64 0,.int .i64 0]):=by kernel_rfl
theorem Hq:zeroV Tryz.prog 189=some (.agg #[.int .i64 0,.int .i64 0]):=by kernel_rfl
theorem Iu:zeroV Tryz.prog 26=some (.agg #[.slice none 0 0]):=by kernel_rfl
theorem H7:zeroV Tryz.prog 30=some (.agg #[.int .i64 0,.int .i64 0,.int .i64 0,.slice none 0 0]):=by kernel_rfl
theorem Iv:zeroV Tryz.prog 32=some (.agg #[.slice none 0 0,.int .i64 0,.int .i64 0,.int .i64 0,.slice none 0 0]):=by kernel_rfl
theorem Iq:zeroV Tryz.prog 35=some (.agg #[.int .i64 0,.int .i64 0,.int .i64 0]):=by kernel_rfl
theorem Ih:zeroV Tryz.prog 37=some (.agg #[.slice none 0 0,.slice none 0 0,.slice none 0 0,.slice none 0 0,.int .i64 0,.int .i64 0,.int .i64 0,.slice none 0 0,.slice none 0 0,.int .i64 0,.int .i64 0,.int .i64 0,.int .i64 0,.int .i64 0,.int .i64 0,.int .i64 0]):=by kernel_rfl
theorem Ii:zeroV Tryz.prog 44=some (.agg #[.int .i64 0,.int .i64 0,.int .i64 0,.int .i64 0,.int .i64 0,.int .i64 0,.int .i64 0,.int .i64 0,.int .i64 0,.bool false,.slice none 0 0,.slice none 0 0,.slice none 0 0]):=by kernel_rfl
theorem Ir:zeroV Tryz.prog 46=some (.agg #[.bool false,.int .i64 0,.int .i64 0,.int .i64 0,.int .i64 0]):=by kernel_rfl
theorem Io:zeroV Tryz.prog 59=some (.agg #[.int .i64 0,.int .i64 0,.int .i64 0,.int .i64 0,.int .i64 0,.int .i64 0]):=by kernel_rfl
theorem Ic:zeroV Tryz.prog 77=some (.agg #[.int .i64 0,.slice none 0 0]):=by kernel_rfl
theorem Ia:zeroV Tryz.prog 87=some (.agg #[.int .i64 0,.int .i64 0]):=by kernel_rfl
instance:mX Tryz.prog 126 (some 6):=⟨wv⟩
instance:mX Tryz.prog 131 (some 5):=⟨CI⟩
instance:mX Tryz.prog 189 (some 2):=⟨uj⟩
instance:mX Tryz.prog 22 none:=⟨Iy⟩
instance:mX Tryz.prog 24 none:=⟨nD⟩
instance:mX Tryz.prog 26 (some 1):=⟨xb⟩
instance:mX Tryz.prog 27 none:=⟨G6⟩
instance:mX Tryz.prog 28 none:=⟨Hj⟩
instance:mX Tryz.prog 3 none:=⟨iY⟩
instance:mX Tryz.prog 30 (some 4):=⟨Hg⟩
instance:mX Tryz.prog 32 (some 5):=⟨pc⟩
instance:mX Tryz.prog 33 none:=⟨Ay⟩
instance:mX Tryz.prog 35 (some 3):=⟨km⟩
instance:mX Tryz.prog 37 (some 16):=⟨jm⟩
instance:mX Tryz.prog 4 none:=⟨pd⟩
instance:mX Tryz.prog 42 none:=⟨sB⟩
instance:mX Tryz.prog 44 (some 13):=⟨lI⟩
instance:mX Tryz.prog 46 (some 5):=⟨xp⟩
instance:mX Tryz.prog 5 none:=⟨GD⟩
instance:mX Tryz.prog 59 (some 6):=⟨C1⟩
instance:mX Tryz.prog 75 none:=⟨H9⟩
instance:mX Tryz.prog 77 (some 2):=⟨sh⟩
instance:mX Tryz.prog 87 (some 2):=⟨jJ⟩
instance:kb Tryz.prog 126 0 0 none:=⟨by kernel_rfl⟩
instance:kb Tryz.prog 126 1 1 none:=⟨by kernel_rfl⟩
instance:kb Tryz.prog 126 2 2 none:=⟨by kernel_rfl⟩
instance:kb Tryz.prog 126 3 3 none:=⟨by kernel_rfl⟩
instance:kb Tryz.prog 126 4 4 none:=⟨by kernel_rfl⟩
instance:kb Tryz.prog 126 5 5 none:=⟨by kernel_rfl⟩
instance:kb Tryz.prog 131 0 0 (some 1):=⟨by kernel_rfl⟩
instance:kb Tryz.prog 131 1 1 none:=⟨by kernel_rfl⟩
instance:kb Tryz.prog 131 2 2 (some 3):=⟨by kernel_rfl⟩
instance:kb Tryz.prog 164 0 0 none:=⟨by kernel_rfl⟩
instance:kb Tryz.prog 164 1 1 none:=⟨by kernel_rfl⟩
instance:kb Tryz.prog 164 2 2 none:=⟨by kernel_rfl⟩
instance:kb Tryz.prog 189 0 0 none:=⟨by kernel_rfl⟩
instance:kb Tryz.prog 189 1 1 none:=⟨by kernel_rfl⟩
instance:kb Tryz.prog 201 0 0 (some 16):=⟨by kernel_rfl⟩
instance:kb Tryz.prog 201 1 16 none:=⟨by kernel_rfl⟩
instance:kb Tryz.prog 201 2 17 none:=⟨by kernel_rfl⟩
instance:kb Tryz.prog 201 3 18 none:=⟨by kernel_rfl⟩
instance:kb Tryz.prog 26 0 0 none:=⟨by kernel_rfl⟩
instance:kb Tryz.prog 30 0 0 none:=⟨by kernel_rfl⟩
instance:kb Tryz.prog 30 1 1 none:=⟨by kernel_rfl⟩
instance:kb Tryz.prog 30 2 2 none:=⟨by kernel_rfl⟩
instance:kb Tryz.prog 30 3 3 none:=⟨by kernel_rfl⟩
instance:kb Tryz.prog 32 0 0 none:=⟨by kernel_rfl⟩
instance:kb Tryz.prog 32 1 1 (some 4):=⟨by kernel_rfl⟩
instance:kb Tryz.prog 35 0 0 none:=⟨by kernel_rfl⟩
instance:kb Tryz.prog 35 1 1 none:=⟨by kernel_rfl⟩
instance:kb Tryz.prog 35 2 2 none:=⟨by kernel_rfl⟩
instance:kb Tryz.prog 37 0 0 (some 1):=⟨by kernel_rfl⟩
instance:kb Tryz.prog 37 1 1 none:=⟨by kernel_rfl⟩
instance:kb Tryz.prog 37 2 2 none:=⟨by kernel_rfl⟩
instance:kb Tryz.prog 37 3 3 (some 5):=⟨by kernel_rfl⟩
instance:kb Tryz.prog 37 4 8 none:=⟨by kernel_rfl⟩
instance:kb Tryz.prog 37 5 9 none:=⟨by kernel_rfl⟩
instance:kb Tryz.prog 37 6 10 none:=⟨by kernel_rfl⟩
instance:kb Tryz.prog 37 7 11 (some 3):=⟨by kernel_rfl⟩
instance:kb Tryz.prog 37 8 14 none:=⟨by kernel_rfl⟩
instance:kb Tryz.prog 37 9 15 none:=⟨by kernel_rfl⟩
instance:kb Tryz.prog 44 0 0 none:=⟨by kernel_rfl⟩
instance:kb Tryz.prog 44 1 1 none:=⟨by kernel_rfl⟩
instance:kb Tryz.prog 44 10 10 none:=⟨by kernel_rfl⟩
instance:kb Tryz.prog 44 11 11 none:=⟨by kernel_rfl⟩
instance:kb Tryz.prog 44 12 12 none:=⟨by kernel_rfl⟩
instance:kb Tryz.prog 44 2 2 none:=⟨by kernel_rfl⟩
instance:kb Tryz.prog 44 3 3 none:=⟨by kernel_rfl⟩
instance:kb Tryz.prog 44 4 4 none:=⟨by kernel_rfl⟩
instance:kb Tryz.prog 44 5 5 none:=⟨by kernel_rfl⟩
instance:kb Tryz.prog 44 6 6 none:=⟨by kernel_rfl⟩
instance:kb Tryz.prog 44 7 7 none:=⟨by kernel_rfl⟩
instance:kb Tryz.prog 44 8 8 none:=⟨by kernel_rfl⟩
instance:kb Tryz.prog 44 9 9 none:=⟨by kernel_rfl⟩
instance:kb Tryz.prog 46 0 0 none:=⟨by kernel_rfl⟩
instance:kb Tryz.prog 46 1 1 none:=⟨by kernel_rfl⟩
instance:kb Tryz.prog 46 2 2 (some 3):=⟨by kernel_rfl⟩
instance:kb Tryz.prog 59 0 0 none:=⟨by kernel_rfl⟩
instance:kb Tryz.prog 59 1 1 none:=⟨by kernel_rfl⟩
instance:kb Tryz.prog 59 2 2 none:=⟨by kernel_rfl⟩
instance:kb Tryz.prog 59 3 3 none:=⟨by kernel_rfl⟩
instance:kb Tryz.prog 59 4 4 none:=⟨by kernel_rfl⟩
instance:kb Tryz.prog 59 5 5 none:=⟨by kernel_rfl⟩
instance:kb Tryz.prog 77 0 0 none:=⟨by kernel_rfl⟩
instance:kb Tryz.prog 77 1 1 none:=⟨by kernel_rfl⟩
instance:uM Tryz.prog 126 6:=⟨vj⟩
instance:uM Tryz.prog 131 5:=⟨HA⟩
instance:uM Tryz.prog 189 2:=⟨CE⟩
instance:uM Tryz.prog 3 1:=⟨BY⟩
instance:uM Tryz.prog 37 16:=⟨Ig⟩
instance:uM Tryz.prog 4 1:=⟨IH⟩
instance:uM Tryz.prog 44 13:=⟨uW⟩
instance:uM Tryz.prog 46 5:=⟨CP⟩
instance:uM Tryz.prog 5 1:=⟨IA⟩
instance:um Tryz.prog 126:=⟨_,Hx⟩
instance:um Tryz.prog 131:=⟨_,Ho⟩
instance:um Tryz.prog 189:=⟨_,Hq⟩
instance:um Tryz.prog 26:=⟨_,Iu⟩
instance:um Tryz.prog 30:=⟨_,H7⟩
instance:um Tryz.prog 32:=⟨_,Iv⟩
instance:um Tryz.prog 35:=⟨_,Iq⟩
instance:um Tryz.prog 37:=⟨_,Ih⟩
instance:um Tryz.prog 44:=⟨_,Ii⟩
instance:um Tryz.prog 46:=⟨_,Ir⟩
instance:um Tryz.prog 59:=⟨_,Io⟩
instance:um Tryz.prog 77:=⟨_,Ic⟩
instance:um Tryz.prog 87:=⟨_,Ia⟩
instance:pf Tryz.prog 22 (.slice 5):=⟨Tryz.underlying22⟩
instance:pf Tryz.prog 24 (.slice 3):=⟨Tryz.underlying24⟩
instance:pf Tryz.prog 27 (.slice 46):=⟨Tryz.underlying27⟩
instance:pf Tryz.prog 28 (.slice 44):=⟨Tryz.underlying28⟩
instance:pf Tryz.prog 33 (.slice 126):=⟨Tryz.underlying33⟩
instance:pf Tryz.prog 42 (.slice 189):=⟨Tryz.underlying42⟩
instance:pf Tryz.prog 52 (.slice 131):=⟨Tryz.underlying52⟩
instance:pf Tryz.prog 53 (.slice 61):=⟨Tryz.underlying53⟩
instance:pf Tryz.prog 71 (.slice 4):=⟨Tryz.underlying71⟩
instance:pf Tryz.prog 75 (.slice 37):=⟨Tryz.underlying75⟩
instance:pf Tryz.prog 94 (.slice 219):=⟨Tryz.underlying94⟩
instance:pf Tryz.prog 158 (.slice 9):=⟨Tryz.underlying158⟩
instance:pf Tryz.prog 190 (.slice 192):=⟨Tryz.underlying190⟩
instance:pf Tryz.prog 211 (.slice 271):=⟨Tryz.underlying211⟩
instance:pf Tryz.prog 212 (.slice 283):=⟨Tryz.underlying212⟩
instance:pf Tryz.prog 216 (.slice 275):=⟨Tryz.underlying216⟩
instance:pf Tryz.prog 281 (.slice 290):=⟨Tryz.underlying281⟩
end Go.Kx
