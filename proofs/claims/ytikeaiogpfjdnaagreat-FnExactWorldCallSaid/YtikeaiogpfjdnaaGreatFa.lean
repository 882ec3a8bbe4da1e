/- Closed facts of the program's types and functions. Printed by drive.py. -/
import Derived.Test.YtikeaiogpfjdnaaGreatProg
import Derived.Test.YtikeaiogpfjdnaaGreatGo
import Derived.Test.YtikeaiogpfjdnaaGreatGp
import Derived.Test.YtikeaiogpfjdnaaGreatDat
import Derived.Test.YtikeaiogpfjdnaaGreatDel
import Derived.Test.YtikeaiogpfjdnaaGreatTap
import Derived.Test.YtikeaiogpfjdnaaGreatAl
namespace Go.Kx
open Go Go.RowKit Go.Proofs
set_option maxRecDepth 10000
set_option maxHeartbeats 8000000
set_option linter.unusedVariables false
set_option linter.unusedSimpArgs false
theorem Db:rA Tryz.prog 126=some (some 6):=by kernel_rfl
theorem AH:rA Tryz.prog 189=some (some 2):=by kernel_rfl
theorem ON:rA Tryz.prog 210=some (some 1):=by kernel_rfl
theorem OG:rA Tryz.prog 211=some none:=by kernel_rfl
theorem Ou:rA Tryz.prog 212=some none:=by kernel_rfl
theorem OC:rA Tryz.prog 213=some (some 4):=by kernel_rfl
theorem Ok:rA Tryz.prog 215=some (some 5):=by kernel_rfl
theorem OO:rA Tryz.prog 216=some none:=by kernel_rfl
theorem OF:rA Tryz.prog 217=some (some 3):=by kernel_rfl
theorem IU:rA Tryz.prog 219=some (some 16):=by kernel_rfl
theorem tw:rA Tryz.prog 24=some none:=by kernel_rfl
theorem Bb:rA Tryz.prog 26=some (some 1):=by kernel_rfl
theorem Ha:rA Tryz.prog 27=some none:=by kernel_rfl
theorem L4:rA Tryz.prog 271=some (some 5):=by kernel_rfl
theorem LP:rA Tryz.prog 275=some (some 6):=by kernel_rfl
theorem Ch:rA Tryz.prog 28=some none:=by kernel_rfl
theorem OV:rA Tryz.prog 281=some none:=by kernel_rfl
theorem Jq:rA Tryz.prog 283=some (some 13):=by kernel_rfl
theorem LH:rA Tryz.prog 290=some (some 2):=by kernel_rfl
theorem qA:rA Tryz.prog 3=some none:=by kernel_rfl
theorem Nb:rA Tryz.prog 30=some (some 4):=by kernel_rfl
theorem Bm:rA Tryz.prog 32=some (some 5):=by kernel_rfl
theorem zU:rA Tryz.prog 33=some none:=by kernel_rfl
theorem r9:rA Tryz.prog 35=some (some 3):=by kernel_rfl
theorem rf:rA Tryz.prog 37=some (some 16):=by kernel_rfl
theorem wE:rA Tryz.prog 4=some none:=by kernel_rfl
theorem vE:rA Tryz.prog 42=some none:=by kernel_rfl
theorem um:rA Tryz.prog 44=some (some 13):=by kernel_rfl
theorem CE:rA Tryz.prog 46=some (some 5):=by kernel_rfl
theorem NR:rA Tryz.prog 59=some (some 6):=by kernel_rfl
theorem Pz:rA Tryz.prog 75=some none:=by kernel_rfl
theorem te:rA Tryz.prog 77=some (some 2):=by kernel_rfl
theorem qW:rA Tryz.prog 87=some (some 2):=by kernel_rfl
theorem PB:rA Tryz.prog 94=some none:=by kernel_rfl
theorem Pv:rA Tryz.prog 96=some (some 2):=by kernel_rfl
theorem Pt:rA Tryz.prog 97=some (some 6):=by kernel_rfl
theorem Oj:Program.eqGuardType Tryz.prog Tryz.prog.depth 189=false:=by kernel_rfl
theorem N4:Program.eqGuardType Tryz.prog Tryz.prog.depth 46=false:=by kernel_rfl
theorem Od:∀ (a b:qt) (w:World),(Op.equalIn 10000 189 (.agg #[.int .i64 a.src,.int .i64 a.n]) (.agg #[.int .i64 b.src,.int .i64 b.n])).run Tryz.prog w=.ok (decide (a=b)) w:=fun a b w=>xS.top (n:=1) (xS.agg (n:=0) Tryz.underlying189 (by kernel_rfl) (yM.one rfl qA rfl rfl (xS.int Tryz.underlying3) (yM.one rfl qA rfl rfl (xS.int Tryz.underlying3) yM.nil))) (by decide) (by
  obtain ⟨x0,x1⟩:=a
  obtain ⟨y0,y1⟩:=b
  simp [qt.mk.injEq,Bool.beq_eq_decide_eq,Bool.decide_and]) w
theorem NO:∀ (a b:pW) (w:World),(Op.equalIn 10000 46 (.agg #[.bool a.live,.int .i64 a.parent,.int .i64 a.qw.bh,.int .i64 a.qw.pU,.int .i64 a.qw.qc]) (.agg #[.bool b.live,.int .i64 b.parent,.int .i64 b.qw.bh,.int .i64 b.qw.pU,.int .i64 b.qw.qc])).run Tryz.prog w=.ok (decide (a=b)) w:=fun a b w=>xS.top (n:=2) (xS.agg (n:=1) Tryz.underlying46 (by kernel_rfl) (yM.one rfl wE rfl rfl (xS.bool Tryz.underlying4) (yM.one rfl qA rfl rfl (xS.int Tryz.underlying3) (yM.more rfl r9 (xS.agg (n:=0) Tryz.underlying35 (by kernel_rfl) (yM.one rfl qA rfl rfl (xS.int Tryz.underlying3) (yM.one rfl qA rfl rfl (xS.int Tryz.underlying3) (yM.one rfl qA rfl rfl (xS.int Tryz.underlying3) yM.nil)))) yM.nil)))) (by decide) (by
  obtain ⟨x0,x1,⟨x2,x3,x4⟩⟩:=a
  obtain ⟨y0,y1,⟨y2,y3,y4⟩⟩:=b
  simp [pW.mk.injEq,qa.mk.injEq,Bool.beq_eq_decide_eq,Bool.decide_and]) w
theorem MD:fo Tryz.prog 201 0=some (0,some 16):=by kernel_rfl
theorem NK:fo Tryz.prog 37 0=some (0,some 1):=by kernel_rfl
theorem IM:fo Tryz.prog 44 10=some (10,none):=by kernel_rfl
theorem N1:fo Tryz.prog 44 3=some (3,none):=by kernel_rfl
theorem M4:fo Tryz.prog 44 5=some (5,none):=by kernel_rfl
theorem Na:fo Tryz.prog 59 2=some (2,none):=by kernel_rfl
theorem PE:AV Tryz.prog 73=true:=by kernel_rfl
theorem xv:vn Tryz.prog 24 Int:=vn.of (b:=8) (by kernel_rfl) rfl
theorem K8:vn Tryz.prog 27 pW:=vn.of (b:=40) (by kernel_rfl) rfl
theorem LA:vn Tryz.prog 28 eg:=vn.of (b:=152) (by kernel_rfl) rfl
theorem zE:vn Tryz.prog 33 qy:=vn.of (b:=48) (by kernel_rfl) rfl
theorem w6:vn Tryz.prog 42 qt:=vn.of (b:=16) (by kernel_rfl) rfl
theorem NY:vn Tryz.prog 71 Bool:=vn.of (b:=1) (by kernel_rfl) rfl
theorem GV:vn Tryz.prog 75 cd:=vn.of (b:=224) (by kernel_rfl) rfl
theorem Ox:vn Tryz.prog 28 vy:=vn.of (b:=152) (by kernel_rfl) rfl
theorem yw:vd Tryz.prog 126=some 6:=by kernel_rfl
theorem FZ:vd Tryz.prog 189=some 2:=by kernel_rfl
theorem Ov:vd Tryz.prog 219=some 16:=by kernel_rfl
theorem OX:vd Tryz.prog 271=some 5:=by kernel_rfl
theorem Ow:vd Tryz.prog 275=some 6:=by kernel_rfl
theorem Oy:vd Tryz.prog 283=some 13:=by kernel_rfl
theorem Oc:vd Tryz.prog 290=some 2:=by kernel_rfl
theorem LU:vd Tryz.prog 3=some 1:=by kernel_rfl
theorem Ps:vd Tryz.prog 37=some 16:=by kernel_rfl
theorem PQ:vd Tryz.prog 4=some 1:=by kernel_rfl
theorem vF:vd Tryz.prog 44=some 13:=by kernel_rfl
theorem DT:vd Tryz.prog 46=some 5:=by kernel_rfl
theorem OT:zeroV Tryz.prog 126=some (.agg #[.int .i64 0,.int .i64 0,.int .i64 0,.int .i64 0,.int .i64 0,.int .i64 0]):=by kernel_rfl
theorem Og:zeroV Tryz.prog 189=some (.agg #[.int .i64 0,.int .i64 0]):=by kernel_rfl
theorem Pl:zeroV Tryz.prog 26=some (.agg #[.slice none 0 0]):=by kernel_rfl
theorem Pe:zeroV Tryz.prog 30=some (.agg #[.int .i64 0,.int .i64 0,.int .i64 0,.slice none 0 0]):=by kernel_rfl
theorem Pn:zeroV Tryz.prog 32=some (.agg #[.slice none 0 0,.int .i64 0,.int .i64 0,.int .i64 0,.slice none 0 0]):=by kernel_rfl
theorem Pj:zeroV Tryz.prog 35=some (.agg #[.int .i64 0,.int .i64 0,.int .i64 0]):=by kernel_rfl
theorem PJ:zeroV Tryz.prog 37=some (.agg #[.slice none 0 0,.slice none 0 0,.slice none 0 0,.slice none 0 0,.int .i64 0,.int .i64 0,.int .i64 0,.slice none 0 0,.slice none 0 0,.int .i64 0,.int .i64 0,.int .i64 0,.int .i64 0,.int .i64 0,.int .i64 0,.int .i64 0]):=by kernel_rfl
theorem PH:zeroV Tryz.prog 44=some (.agg #[.int .i64 0,.int .i64 0,.int .i64 0,.int .i64 0,.int .i64 0,.int .i64 0,.int .i64 0,.int .i64 0,.int .i64 0,.bool false,.slice none 0 0,.slice none 0 0,.slice none 0 0]):=by kernel_rfl
theorem Pg:zeroV Tryz.prog 46=some (.agg #[.bool false,.int .i64 0,.int .i64 0,.int .i64 0,.int .i64 0]):=by kernel_rfl
theorem PC:zeroV Tryz.prog 59=some (.agg #[.int .i64 0,.int .i64 0,.int .i64 0,.int .i64 0,.int .i64 0,.int .i64 0]):=by kernel_rfl
theorem PG:zeroV Tryz.prog 77=some (.agg #[.int .i64 0,.slice none 0 0]):=by kernel_rfl
theorem PA:zeroV Tryz.prog 87=some (.agg #[.int .i64 0,.int .i64 0]):=by kernel_rfl
instance:sQ Tryz.prog 126 (some 6):=⟨Db⟩
instance:sQ Tryz.prog 189 (some 2):=⟨AH⟩
instance:sQ Tryz.prog 210 (some 1):=⟨ON⟩
instance:sQ Tryz.prog 211 none:=⟨OG⟩
instance:sQ Tryz.prog 212 none:=⟨Ou⟩
instance:sQ Tryz.prog 213 (some 4):=⟨OC⟩
instance:sQ Tryz.prog 215 (some 5):=⟨Ok⟩
instance:sQ Tryz.prog 216 none:=⟨OO⟩
instance:sQ Tryz.prog 217 (some 3):=⟨OF⟩
instance:sQ Tryz.prog 219 (some 16):=⟨IU⟩
instance:sQ Tryz.prog 24 none:=⟨tw⟩
instance:sQ Tryz.prog 26 (some 1):=⟨Bb⟩
instance:sQ Tryz.prog 27 none:=⟨Ha⟩
instance:sQ Tryz.prog 271 (some 5):=⟨L4⟩
instance:sQ Tryz.prog 275 (some 6):=⟨LP⟩
instance:sQ Tryz.prog 28 none:=⟨Ch⟩
instance:sQ Tryz.prog 281 none:=⟨OV⟩
instance:sQ Tryz.prog 283 (some 13):=⟨Jq⟩
instance:sQ Tryz.prog 290 (some 2):=⟨LH⟩
instance:sQ Tryz.prog 3 none:=⟨qA⟩
instance:sQ Tryz.prog 30 (some 4):=⟨Nb⟩
instance:sQ Tryz.prog 32 (some 5):=⟨Bm⟩
instance:sQ Tryz.prog 33 none:=⟨zU⟩
instance:sQ Tryz.prog 35 (some 3):=⟨r9⟩
instance:sQ Tryz.prog 37 (some 16):=⟨rf⟩
instance:sQ Tryz.prog 4 none:=⟨wE⟩
instance:sQ Tryz.prog 42 none:=⟨vE⟩
instance:sQ Tryz.prog 44 (some 13):=⟨um⟩
instance:sQ Tryz.prog 46 (some 5):=⟨CE⟩
instance:sQ Tryz.prog 59 (some 6):=⟨NR⟩
instance:sQ Tryz.prog 75 none:=⟨Pz⟩
instance:sQ Tryz.prog 77 (some 2):=⟨te⟩
instance:sQ Tryz.prog 87 (some 2):=⟨qW⟩
instance:sQ Tryz.prog 94 none:=⟨PB⟩
instance:sQ Tryz.prog 96 (some 2):=⟨Pv⟩
instance:sQ Tryz.prog 97 (some 6):=⟨Pt⟩
instance:qU Tryz.prog 126 0 0 none:=⟨by kernel_rfl⟩
instance:qU Tryz.prog 126 1 1 none:=⟨by kernel_rfl⟩
instance:qU Tryz.prog 126 2 2 none:=⟨by kernel_rfl⟩
instance:qU Tryz.prog 126 3 3 none:=⟨by kernel_rfl⟩
instance:qU Tryz.prog 126 4 4 none:=⟨by kernel_rfl⟩
instance:qU Tryz.prog 126 5 5 none:=⟨by kernel_rfl⟩
instance:qU Tryz.prog 189 0 0 none:=⟨by kernel_rfl⟩
instance:qU Tryz.prog 189 1 1 none:=⟨by kernel_rfl⟩
instance:qU Tryz.prog 201 0 0 (some 16):=⟨by kernel_rfl⟩
instance:qU Tryz.prog 201 1 16 none:=⟨by kernel_rfl⟩
instance:qU Tryz.prog 201 2 17 none:=⟨by kernel_rfl⟩
instance:qU Tryz.prog 201 3 18 none:=⟨by kernel_rfl⟩
instance:qU Tryz.prog 210 0 0 none:=⟨by kernel_rfl⟩
instance:qU Tryz.prog 213 0 0 none:=⟨by kernel_rfl⟩
instance:qU Tryz.prog 213 1 1 none:=⟨by kernel_rfl⟩
instance:qU Tryz.prog 213 2 2 none:=⟨by kernel_rfl⟩
instance:qU Tryz.prog 213 3 3 none:=⟨by kernel_rfl⟩
instance:qU Tryz.prog 215 0 0 none:=⟨by kernel_rfl⟩
instance:qU Tryz.prog 215 1 1 (some 4):=⟨by kernel_rfl⟩
instance:qU Tryz.prog 217 0 0 none:=⟨by kernel_rfl⟩
instance:qU Tryz.prog 217 1 1 none:=⟨by kernel_rfl⟩
instance:qU Tryz.prog 217 2 2 none:=⟨by kernel_rfl⟩
instance:qU Tryz.prog 219 0 0 (some 1):=⟨by kernel_rfl⟩
instance:qU Tryz.prog 219 1 1 none:=⟨by kernel_rfl⟩
instance:qU Tryz.prog 219 2 2 none:=⟨by kernel_rfl⟩
instance:qU Tryz.prog 219 3 3 (some 5):=⟨by kernel_rfl⟩
instance:qU Tryz.prog 219 4 8 none:=⟨by kernel_rfl⟩
instance:qU Tryz.prog 219 5 9 none:=⟨by kernel_rfl⟩
instance:qU Tryz.prog 219 6 10 none:=⟨by kernel_rfl⟩
instance:qU Tryz.prog 219 7 11 (some 3):=⟨by kernel_rfl⟩
instance:qU Tryz.prog 219 8 14 none:=⟨by kernel_rfl⟩
instance:qU Tryz.prog 219 9 15 none:=⟨by kernel_rfl⟩
instance:qU Tryz.prog 26 0 0 none:=⟨by kernel_rfl⟩
instance:qU Tryz.prog 271 0 0 none:=⟨by kernel_rfl⟩
instance:qU Tryz.prog 271 1 1 none:=⟨by kernel_rfl⟩
instance:qU Tryz.prog 271 2 2 (some 3):=⟨by kernel_rfl⟩
instance:qU Tryz.prog 275 0 0 none:=⟨by kernel_rfl⟩
instance:qU Tryz.prog 275 1 1 none:=⟨by kernel_rfl⟩
instance:qU Tryz.prog 275 2 2 none:=⟨by kernel_rfl⟩
instance:qU Tryz.prog 275 3 3 none:=⟨by kernel_rfl⟩
instance:qU Tryz.prog 275 4 4 none:=⟨by kernel_rfl⟩
instance:qU Tryz.prog 275 5 5 none:=⟨by kernel_rfl⟩
instance:qU Tryz.prog 283 0 0 none:=⟨by kernel_rfl⟩
instance:qU Tryz.prog 283 1 1 none:=⟨by kernel_rfl⟩
instance:qU Tryz.prog 283 10 10 none:=⟨by kernel_rfl⟩
instance:qU Tryz.prog 283 11 11 none:=⟨by kernel_rfl⟩
instance:qU Tryz.prog 283 12 12 none:=⟨by kernel_rfl⟩
instance:qU Tryz.prog 283 2 2 none:=⟨by kernel_rfl⟩
instance:qU Tryz.prog 283 3 3 none:=⟨by kernel_rfl⟩
instance:qU Tryz.prog 283 4 4 none:=⟨by kernel_rfl⟩
instance:qU Tryz.prog 283 5 5 none:=⟨by kernel_rfl⟩
instance:qU Tryz.prog 283 6 6 none:=⟨by kernel_rfl⟩
instance:qU Tryz.prog 283 7 7 none:=⟨by kernel_rfl⟩
instance:qU Tryz.prog 283 8 8 none:=⟨by kernel_rfl⟩
instance:qU Tryz.prog 283 9 9 none:=⟨by kernel_rfl⟩
instance:qU Tryz.prog 290 0 0 none:=⟨by kernel_rfl⟩
instance:qU Tryz.prog 290 1 1 none:=⟨by kernel_rfl⟩
instance:qU Tryz.prog 30 0 0 none:=⟨by kernel_rfl⟩
instance:qU Tryz.prog 30 1 1 none:=⟨by kernel_rfl⟩
instance:qU Tryz.prog 30 2 2 none:=⟨by kernel_rfl⟩
instance:qU Tryz.prog 30 3 3 none:=⟨by kernel_rfl⟩
instance:qU Tryz.prog 32 0 0 none:=⟨by kernel_rfl⟩
instance:qU Tryz.prog 32 1 1 (some 4):=⟨by kernel_rfl⟩
instance:qU Tryz.prog 35 0 0 none:=⟨by kernel_rfl⟩
instance:qU Tryz.prog 35 1 1 none:=⟨by kernel_rfl⟩
instance:qU Tryz.prog 35 2 2 none:=⟨by kernel_rfl⟩
instance:qU Tryz.prog 37 0 0 (some 1):=⟨by kernel_rfl⟩
instance:qU Tryz.prog 37 1 1 none:=⟨by kernel_rfl⟩
instance:qU Tryz.prog 37 2 2 none:=⟨by kernel_rfl⟩
instance:qU Tryz.prog 37 3 3 (some 5):=⟨by kernel_rfl⟩
instance:qU Tryz.prog 37 4 8 none:=⟨by kernel_rfl⟩
instance:qU Tryz.prog 37 5 9 none:=⟨by kernel_rfl⟩
instance:qU Tryz.prog 37 6 10 none:=⟨by kernel_rfl⟩
instance:qU Tryz.prog 37 7 11 (some 3):=⟨by kernel_rfl⟩
instance:qU Tryz.prog 37 8 14 none:=⟨by kernel_rfl⟩
instance:qU Tryz.prog 37 9 15 none:=⟨by kernel_rfl⟩
instance:qU Tryz.prog 44 0 0 none:=⟨by kernel_rfl⟩
instance:qU Tryz.prog 44 1 1 none:=⟨by kernel_rfl⟩
instance:qU Tryz.prog 44 10 10 none:=⟨by kernel_rfl⟩
instance:qU Tryz.prog 44 11 11 none:=⟨by kernel_rfl⟩
instance:qU Tryz.prog 44 12 12 none:=⟨by kernel_rfl⟩
instance:qU Tryz.prog 44 2 2 none:=⟨by kernel_rfl⟩
instance:qU Tryz.prog 44 3 3 none:=⟨by kernel_rfl⟩
instance:qU Tryz.prog 44 4 4 none:=⟨by kernel_rfl⟩
instance:qU Tryz.prog 44 5 5 none:=⟨by kernel_rfl⟩
instance:qU Tryz.prog 44 6 6 none:=⟨by kernel_rfl⟩
instance:qU Tryz.prog 44 7 7 none:=⟨by kernel_rfl⟩
instance:qU Tryz.prog 44 8 8 none:=⟨by kernel_rfl⟩
instance:qU Tryz.prog 44 9 9 none:=⟨by kernel_rfl⟩
instance:qU Tryz.prog 46 0 0 none:=⟨by kernel_rfl⟩
instance:qU Tryz.prog 46 1 1 none:=⟨by kernel_rfl⟩
instance:qU Tryz.prog 46 2 2 (some 3):=⟨by kernel_rfl⟩
instance:qU Tryz.prog 59 0 0 none:=⟨by kernel_rfl⟩
instance:qU Tryz.prog 59 1 1 none:=⟨by kernel_rfl⟩
instance:qU Tryz.prog 59 2 2 none:=⟨by kernel_rfl⟩
instance:qU Tryz.prog 59 3 3 none:=⟨by kernel_rfl⟩
instance:qU Tryz.prog 59 4 4 none:=⟨by kernel_rfl⟩
instance:qU Tryz.prog 59 5 5 none:=⟨by kernel_rfl⟩
instance:qU Tryz.prog 77 0 0 none:=⟨by kernel_rfl⟩
instance:qU Tryz.prog 77 1 1 none:=⟨by kernel_rfl⟩
instance:qU Tryz.prog 87 0 0 none:=⟨by kernel_rfl⟩
instance:qU Tryz.prog 87 1 1 none:=⟨by kernel_rfl⟩
instance:qU Tryz.prog 96 0 0 none:=⟨by kernel_rfl⟩
instance:qU Tryz.prog 96 1 1 none:=⟨by kernel_rfl⟩
instance:qU Tryz.prog 97 0 0 none:=⟨by kernel_rfl⟩
instance:qU Tryz.prog 97 1 1 none:=⟨by kernel_rfl⟩
instance:qU Tryz.prog 97 2 2 none:=⟨by kernel_rfl⟩
instance:qU Tryz.prog 97 3 3 none:=⟨by kernel_rfl⟩
instance:qU Tryz.prog 97 4 4 none:=⟨by kernel_rfl⟩
instance:qU Tryz.prog 97 5 5 none:=⟨by kernel_rfl⟩
instance:Ax Tryz.prog 126 6:=⟨yw⟩
instance:Ax Tryz.prog 189 2:=⟨FZ⟩
instance:Ax Tryz.prog 219 16:=⟨Ov⟩
instance:Ax Tryz.prog 271 5:=⟨OX⟩
instance:Ax Tryz.prog 275 6:=⟨Ow⟩
instance:Ax Tryz.prog 283 13:=⟨Oy⟩
instance:Ax Tryz.prog 290 2:=⟨Oc⟩
instance:Ax Tryz.prog 3 1:=⟨LU⟩
instance:Ax Tryz.prog 37 16:=⟨Ps⟩
instance:Ax Tryz.prog 4 1:=⟨PQ⟩
instance:Ax Tryz.prog 44 13:=⟨vF⟩
instance:Ax Tryz.prog 46 5:=⟨DT⟩
instance:BX Tryz.prog 126:=⟨_,OT⟩
instance:BX Tryz.prog 189:=⟨_,Og⟩
instance:BX Tryz.prog 26:=⟨_,Pl⟩
instance:BX Tryz.prog 30:=⟨_,Pe⟩
instance:BX Tryz.prog 32:=⟨_,Pn⟩
instance:BX Tryz.prog 35:=⟨_,Pj⟩
instance:BX Tryz.prog 37:=⟨_,PJ⟩
instance:BX Tryz.prog 44:=⟨_,PH⟩
instance:BX Tryz.prog 46:=⟨_,Pg⟩
instance:BX Tryz.prog 59:=⟨_,PC⟩
instance:BX Tryz.prog 77:=⟨_,PG⟩
instance:BX Tryz.prog 87:=⟨_,PA⟩
instance:wV Tryz.prog 22 (.slice 5):=⟨Tryz.underlying22⟩
instance:wV Tryz.prog 24 (.slice 3):=⟨Tryz.underlying24⟩
instance:wV Tryz.prog 27 (.slice 46):=⟨Tryz.underlying27⟩
instance:wV Tryz.prog 28 (.slice 44):=⟨Tryz.underlying28⟩
instance:wV Tryz.prog 33 (.slice 126):=⟨Tryz.underlying33⟩
instance:wV Tryz.prog 42 (.slice 189):=⟨Tryz.underlying42⟩
instance:wV Tryz.prog 52 (.slice 131):=⟨Tryz.underlying52⟩
instance:wV Tryz.prog 53 (.slice 61):=⟨Tryz.underlying53⟩
instance:wV Tryz.prog 71 (.slice 4):=⟨Tryz.underlying71⟩
instance:wV Tryz.prog 75 (.slice 37):=⟨Tryz.underlying75⟩
instance:wV Tryz.prog 94 (.slice 219):=⟨Tryz.underlying94⟩
instance:wV Tryz.prog 158 (.slice 9):=⟨Tryz.underlying158⟩
instance:wV Tryz.prog 190 (.slice 192):=⟨Tryz.underlying190⟩
instance:wV Tryz.prog 211 (.slice 271):=⟨Tryz.underlying211⟩
instance:wV Tryz.prog 212 (.slice 283):=⟨Tryz.underlying212⟩
instance:wV Tryz.prog 216 (.slice 275):=⟨Tryz.underlying216⟩
instance:wV Tryz.prog 281 (.slice 290):=⟨Tryz.underlying281⟩
end Go.Kx
