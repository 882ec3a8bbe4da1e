import Derived.Test.YtfmfgnhbgcjajaaGreatProg
import Derived.Test.YtfmfgnhbgcjajaaGreatGp
import Derived.Test.YtfmfgnhbgcjajaaGreatDel
import Derived.Test.YtfmfgnhbgcjajaaGreatTap
namespace Go.Kx
open Go Go.RowKit Go.Proofs
set_option maxRecDepth 10000
set_option maxHeartbeats 8000000
set_option linter.unusedVariables false
set_option linter.unusedSimpArgs false
theorem Qd:fx Tryz.prog 155=some (some 2):=by kernel_rfl
theorem P8:fx Tryz.prog 170=some (some 1):=by kernel_rfl
theorem QP:fx Tryz.prog 22=some none:=by kernel_rfl
theorem FP:fx Tryz.prog 29=some none:=by kernel_rfl
theorem jR:fx Tryz.prog 3=some none:=by kernel_rfl
theorem Ae:fx Tryz.prog 31=some (some 1):=by kernel_rfl
theorem D2:fx Tryz.prog 33=some (some 3):=by kernel_rfl
theorem Pq:fx Tryz.prog 35=some (some 5):=by kernel_rfl
theorem Qw:fx Tryz.prog 38=some none:=by kernel_rfl
theorem OA:fx Tryz.prog 4=some none:=by kernel_rfl
theorem qN:fx Tryz.prog 40=some (some 2):=by kernel_rfl
theorem yk:fx Tryz.prog 46=some none:=by kernel_rfl
theorem Aj:fx Tryz.prog 47=some none:=by kernel_rfl
theorem QB:fx Tryz.prog 49=some (some 4):=by kernel_rfl
theorem Rh:fx Tryz.prog 5=some none:=by kernel_rfl
theorem QR:fx Tryz.prog 51=some (some 5):=by kernel_rfl
theorem Ap:fx Tryz.prog 52=some none:=by kernel_rfl
theorem iE:fx Tryz.prog 54=some (some 16):=by kernel_rfl
theorem Pz:fx Tryz.prog 63=some (some 6):=by kernel_rfl
theorem Il:fx Tryz.prog 65=some (some 9):=by kernel_rfl
theorem jt:fx Tryz.prog 78=some (some 2):=by kernel_rfl
theorem QM:fx Tryz.prog 85=some (some 5):=by kernel_rfl
theorem PH:fx Tryz.prog 87=some (some 6):=by kernel_rfl
theorem tR:fx Tryz.prog 94=some none:=by kernel_rfl
theorem wS:fx Tryz.prog 96=some (some 13):=by kernel_rfl
theorem MP:Program.eqGuardType Tryz.prog Tryz.prog.depth 155=false:=by kernel_rfl
theorem QK:Program.eqGuardType Tryz.prog Tryz.prog.depth 33=false:=by kernel_rfl
theorem Qy:Program.eqGuardType Tryz.prog Tryz.prog.depth 78=false:=by kernel_rfl
theorem MD:Program.eqGuardType Tryz.prog Tryz.prog.depth 85=false:=by kernel_rfl
theorem Qs:Program.eqGuardType Tryz.prog Tryz.prog.depth 87=false:=by kernel_rfl
theorem Ni:∀(a b:eL) (w:World),(Op.equalIn 10000 155 (.agg #[.int .i64 a.RJ,.int .i64 a.n]) (.agg #[.int .i64 b.RJ,.int .i64 b.n])).run Tryz.prog w=.ok (decide (a=b)) w:=fun a b w=>ki.top (n:=1) (ki.agg (n:=0) Tryz.underlying155 (by kernel_rfl) (lG.one rfl jR rfl rfl (ki.int Tryz.underlying3) (lG.one rfl jR rfl rfl (ki.int Tryz.underlying3) lG.nil))) (by decide) (by
  obtain⟨x0,x1⟩:=a;obtain⟨y0,y1⟩:=b
  simp[eL.mk.injEq,Bool.beq_eq_decide_eq,Bool.decide_and]) w
theorem QC:∀(a b:de) (w:World),(Op.equalIn 10000 33 (.agg #[.int .i64 a.cd,.int .i64 a.dg,.int .i64 a.dn]) (.agg #[.int .i64 b.cd,.int .i64 b.dg,.int .i64 b.dn])).run Tryz.prog w=.ok (decide (a=b)) w:=fun a b w=>ki.top (n:=1) (ki.agg (n:=0) Tryz.underlying33 (by kernel_rfl) (lG.one rfl jR rfl rfl (ki.int Tryz.underlying3) (lG.one rfl jR rfl rfl (ki.int Tryz.underlying3) (lG.one rfl jR rfl rfl (ki.int Tryz.underlying3) lG.nil)))) (by decide) (by
  obtain⟨x0,x1,x2⟩:=a;obtain⟨y0,y1,y2⟩:=b
  simp[de.mk.injEq,Bool.beq_eq_decide_eq,Bool.decide_and]) w
theorem QH:∀(a b:dt) (w:World),(Op.equalIn 10000 78 (.agg #[.int .i64 a.code,.int .i64 a.RI]) (.agg #[.int .i64 b.code,.int .i64 b.RI])).run Tryz.prog w=.ok (decide (a=b)) w:=fun a b w=>ki.top (n:=1) (ki.agg (n:=0) Tryz.underlying78 (by kernel_rfl) (lG.one rfl jR rfl rfl (ki.int Tryz.underlying3) (lG.one rfl jR rfl rfl (ki.int Tryz.underlying3) lG.nil))) (by decide) (by
  obtain⟨x0,x1⟩:=a;obtain⟨y0,y1⟩:=b
  simp[dt.mk.injEq,Bool.beq_eq_decide_eq,Bool.decide_and]) w
theorem L6:∀(a b:dj) (w:World),(Op.equalIn 10000 85 (.agg #[.bool a.RC,.int .i64 a.RE,.int .i64 a.dO.cd,.int .i64 a.dO.dg,.int .i64 a.dO.dn]) (.agg #[.bool b.RC,.int .i64 b.RE,.int .i64 b.dO.cd,.int .i64 b.dO.dg,.int .i64 b.dO.dn])).run Tryz.prog w=.ok (decide (a=b)) w:=fun a b w=>ki.top (n:=2) (ki.agg (n:=1) Tryz.underlying85 (by kernel_rfl) (lG.one rfl OA rfl rfl (ki.bool Tryz.underlying4) (lG.one rfl jR rfl rfl (ki.int Tryz.underlying3) (lG.more rfl D2 (ki.agg (n:=0) Tryz.underlying33 (by kernel_rfl) (lG.one rfl jR rfl rfl (ki.int Tryz.underlying3) (lG.one rfl jR rfl rfl (ki.int Tryz.underlying3) (lG.one rfl jR rfl rfl (ki.int Tryz.underlying3) lG.nil)))) lG.nil)))) (by decide) (by
  obtain⟨x0,x1,⟨x2,x3,x4⟩⟩:=a;obtain⟨y0,y1,⟨y2,y3,y4⟩⟩:=b
  simp[de.mk.injEq,dj.mk.injEq,Bool.beq_eq_decide_eq,Bool.decide_and]) w
theorem Qx:∀(a b:ef) (w:World),(Op.equalIn 10000 87 (.agg #[.int .i64 a.RF,.int .i64 a.eP,.int .i64 a.mB,.int .i64 a.gP,.int .i64 a.Rq,.int .i64 a.jx]) (.agg #[.int .i64 b.RF,.int .i64 b.eP,.int .i64 b.mB,.int .i64 b.gP,.int .i64 b.Rq,.int .i64 b.jx])).run Tryz.prog w=.ok (decide (a=b)) w:=fun a b w=>ki.top (n:=1) (ki.agg (n:=0) Tryz.underlying87 (by kernel_rfl) (lG.one rfl jR rfl rfl (ki.int Tryz.underlying3) (lG.one rfl jR rfl rfl (ki.int Tryz.underlying3) (lG.one rfl jR rfl rfl (ki.int Tryz.underlying3) (lG.one rfl jR rfl rfl (ki.int Tryz.underlying3) (lG.one rfl jR rfl rfl (ki.int Tryz.underlying3) (lG.one rfl jR rfl rfl (ki.int Tryz.underlying3) lG.nil))))))) (by decide) (by
  obtain⟨x0,x1,x2,x3,x4,x5⟩:=a;obtain⟨y0,y1,y2,y3,y4,y5⟩:=b
  simp[ef.mk.injEq,Bool.beq_eq_decide_eq,Bool.decide_and]) w
theorem NJ:fo Tryz.prog 183 0=some (0,some 16):=by kernel_rfl
theorem D1:fo Tryz.prog 33 2=some (2,none):=by kernel_rfl
theorem OV:fo Tryz.prog 54 0=some (0,some 1):=by kernel_rfl
theorem Pa:fo Tryz.prog 54 2=some (2,none):=by kernel_rfl
theorem PK:fo Tryz.prog 63 2=some (2,none):=by kernel_rfl
theorem HA:fo Tryz.prog 96 10=some (10,none):=by kernel_rfl
theorem OE:fo Tryz.prog 96 3=some (3,none):=by kernel_rfl
theorem OI:fo Tryz.prog 96 5=some (5,none):=by kernel_rfl
theorem Qf:tO Tryz.prog 162=true:=by kernel_rfl
theorem Nb:jI Tryz.prog 120 Bool:=jI.of (b:=1) (by kernel_rfl) rfl
theorem M4:jI Tryz.prog 168 dJ:=jI.of (b:=24) (by kernel_rfl) rfl
theorem Ii:jI Tryz.prog 24 dK:=jI.of (b:=72) (by kernel_rfl) rfl
theorem Jw:jI Tryz.prog 25 dQ:=jI.of (b:=72) (by kernel_rfl) rfl
theorem lH:jI Tryz.prog 29 Int:=jI.of (b:=8) (by kernel_rfl) rfl
theorem Ai:jI Tryz.prog 38 bh:=jI.of (b:=224) (by kernel_rfl) rfl
theorem Ip:jI Tryz.prog 41 dt:=jI.of (b:=16) (by kernel_rfl) rfl
theorem Jk:jI Tryz.prog 46 dj:=jI.of (b:=40) (by kernel_rfl) rfl
theorem Jv:jI Tryz.prog 47 c6:=jI.of (b:=152) (by kernel_rfl) rfl
theorem tU:jI Tryz.prog 52 ef:=jI.of (b:=48) (by kernel_rfl) rfl
theorem qR:jI Tryz.prog 94 eL:=jI.of (b:=16) (by kernel_rfl) rfl
theorem P1:jI Tryz.prog 47 oo:=jI.of (b:=152) (by kernel_rfl) rfl
theorem JL:jI Tryz.prog 168 fY:=jI.of (b:=24) (by kernel_rfl) rfl
theorem IV:m4 Tryz.prog 155=some 2:=by kernel_rfl
theorem yU:m4 Tryz.prog 170=some 1:=by kernel_rfl
theorem E2:m4 Tryz.prog 3=some 1:=by kernel_rfl
theorem QZ:m4 Tryz.prog 35=some 5:=by kernel_rfl
theorem Rd:m4 Tryz.prog 4=some 1:=by kernel_rfl
theorem Rj:m4 Tryz.prog 5=some 1:=by kernel_rfl
theorem L8:m4 Tryz.prog 54=some 16:=by kernel_rfl
theorem Q0:m4 Tryz.prog 65=some 9:=by kernel_rfl
theorem Qq:m4 Tryz.prog 78=some 2:=by kernel_rfl
theorem LS:m4 Tryz.prog 85=some 5:=by kernel_rfl
theorem Aa:m4 Tryz.prog 87=some 6:=by kernel_rfl
theorem wO:m4 Tryz.prog 96=some 13:=by kernel_rfl
theorem Qb:zeroV Tryz.prog 155=some (.agg #[.int .i64 0,.int .i64 0]):=by kernel_rfl
theorem PO:zeroV Tryz.prog 170=some (.agg #[.slice none 0 0]):=by kernel_rfl
theorem QF:zeroV Tryz.prog 31=some (.agg #[.slice none 0 0]):=by kernel_rfl
theorem QJ:zeroV Tryz.prog 33=some (.agg #[.int .i64 0,.int .i64 0,.int .i64 0]):=by kernel_rfl
theorem Qz:zeroV Tryz.prog 35=some (.agg #[.slice none 0 0,.slice none 0 0,.int .i64 0,.int .i64 0,.int .i64 0]):=by kernel_rfl
theorem Qv:zeroV Tryz.prog 40=some (.agg #[.int .i64 0,.slice none 0 0]):=by kernel_rfl
theorem QE:zeroV Tryz.prog 49=some (.agg #[.int .i64 0,.int .i64 0,.int .i64 0,.slice none 0 0]):=by kernel_rfl
theorem Qr:zeroV Tryz.prog 51=some (.agg #[.slice none 0 0,.int .i64 0,.int .i64 0,.int .i64 0,.slice none 0 0]):=by kernel_rfl
theorem QL:zeroV Tryz.prog 54=some (.agg #[.slice none 0 0,.slice none 0 0,.slice none 0 0,.slice none 0 0,.int .i64 0,.int .i64 0,.int .i64 0,.slice none 0 0,.slice none 0 0,.int .i64 0,.int .i64 0,.int .i64 0,.int .i64 0,.int .i64 0,.int .i64 0,.int .i64 0]):=by kernel_rfl
theorem QV:zeroV Tryz.prog 63=some (.agg #[.int .i64 0,.int .i64 0,.int .i64 0,.int .i64 0,.int .i64 0,.int .i64 0]):=by kernel_rfl
theorem QQ:zeroV Tryz.prog 65=some (.agg #[.int .i64 0,.int .i64 0,.int .i64 0,.int .i64 0,.int .i64 0,.int .i64 0,.int .i64 0,.int .i64 0,.int .i64 0]):=by kernel_rfl
theorem QN:zeroV Tryz.prog 78=some (.agg #[.int .i64 0,.int .i64 0]):=by kernel_rfl
theorem QD:zeroV Tryz.prog 85=some (.agg #[.bool false,.int .i64 0,.int .i64 0,.int .i64 0,.int .i64 0]):=by kernel_rfl
theorem QU:zeroV Tryz.prog 87=some (.agg #[.int .i64 0,.int .i64 0,.int .i64 0,.int .i64 0,.int .i64 0,.int .i64 0]):=by kernel_rfl
theorem QY:zeroV Tryz.prog 96=some (.agg #[.int .i64 0,.int .i64 0,.int .i64 0,.int .i64 0,.int .i64 0,.int .i64 0,.int .i64 0,.int .i64 0,.int .i64 0,.bool false,.slice none 0 0,.slice none 0 0,.slice none 0 0]):=by kernel_rfl
instance:iY Tryz.prog 155 (some 2):=⟨Qd⟩
instance:iY Tryz.prog 170 (some 1):=⟨P8⟩
instance:iY Tryz.prog 22 none:=⟨QP⟩
instance:iY Tryz.prog 29 none:=⟨FP⟩
instance:iY Tryz.prog 3 none:=⟨jR⟩
instance:iY Tryz.prog 31 (some 1):=⟨Ae⟩
instance:iY Tryz.prog 33 (some 3):=⟨D2⟩
instance:iY Tryz.prog 35 (some 5):=⟨Pq⟩
instance:iY Tryz.prog 38 none:=⟨Qw⟩
instance:iY Tryz.prog 4 none:=⟨OA⟩
instance:iY Tryz.prog 40 (some 2):=⟨qN⟩
instance:iY Tryz.prog 46 none:=⟨yk⟩
instance:iY Tryz.prog 47 none:=⟨Aj⟩
instance:iY Tryz.prog 49 (some 4):=⟨QB⟩
instance:iY Tryz.prog 5 none:=⟨Rh⟩
instance:iY Tryz.prog 51 (some 5):=⟨QR⟩
instance:iY Tryz.prog 52 none:=⟨Ap⟩
instance:iY Tryz.prog 54 (some 16):=⟨iE⟩
instance:iY Tryz.prog 63 (some 6):=⟨Pz⟩
instance:iY Tryz.prog 65 (some 9):=⟨Il⟩
instance:iY Tryz.prog 78 (some 2):=⟨jt⟩
instance:iY Tryz.prog 85 (some 5):=⟨QM⟩
instance:iY Tryz.prog 87 (some 6):=⟨PH⟩
instance:iY Tryz.prog 94 none:=⟨tR⟩
instance:iY Tryz.prog 96 (some 13):=⟨wS⟩
instance:gq Tryz.prog 155 0 0 none:=⟨by kernel_rfl⟩
instance:gq Tryz.prog 155 1 1 none:=⟨by kernel_rfl⟩
instance:gq Tryz.prog 170 0 0 none:=⟨by kernel_rfl⟩
instance:gq Tryz.prog 183 0 0 (some 16):=⟨by kernel_rfl⟩
instance:gq Tryz.prog 183 1 16 none:=⟨by kernel_rfl⟩
instance:gq Tryz.prog 183 2 17 none:=⟨by kernel_rfl⟩
instance:gq Tryz.prog 183 3 18 none:=⟨by kernel_rfl⟩
instance:gq Tryz.prog 31 0 0 none:=⟨by kernel_rfl⟩
instance:gq Tryz.prog 33 0 0 none:=⟨by kernel_rfl⟩
instance:gq Tryz.prog 33 1 1 none:=⟨by kernel_rfl⟩
instance:gq Tryz.prog 33 2 2 none:=⟨by kernel_rfl⟩
instance:gq Tryz.prog 35 0 0 (some 1):=⟨by kernel_rfl⟩
instance:gq Tryz.prog 35 1 1 none:=⟨by kernel_rfl⟩
instance:gq Tryz.prog 35 2 2 (some 3):=⟨by kernel_rfl⟩
instance:gq Tryz.prog 40 0 0 none:=⟨by kernel_rfl⟩
instance:gq Tryz.prog 40 1 1 none:=⟨by kernel_rfl⟩
instance:gq Tryz.prog 49 0 0 none:=⟨by kernel_rfl⟩
instance:gq Tryz.prog 49 1 1 none:=⟨by kernel_rfl⟩
instance:gq Tryz.prog 49 2 2 none:=⟨by kernel_rfl⟩
instance:gq Tryz.prog 49 3 3 none:=⟨by kernel_rfl⟩
instance:gq Tryz.prog 51 0 0 none:=⟨by kernel_rfl⟩
instance:gq Tryz.prog 51 1 1 (some 4):=⟨by kernel_rfl⟩
instance:gq Tryz.prog 54 0 0 (some 1):=⟨by kernel_rfl⟩
instance:gq Tryz.prog 54 1 1 none:=⟨by kernel_rfl⟩
instance:gq Tryz.prog 54 2 2 none:=⟨by kernel_rfl⟩
instance:gq Tryz.prog 54 3 3 (some 5):=⟨by kernel_rfl⟩
instance:gq Tryz.prog 54 4 8 none:=⟨by kernel_rfl⟩
instance:gq Tryz.prog 54 5 9 none:=⟨by kernel_rfl⟩
instance:gq Tryz.prog 54 6 10 none:=⟨by kernel_rfl⟩
instance:gq Tryz.prog 54 7 11 (some 3):=⟨by kernel_rfl⟩
instance:gq Tryz.prog 54 8 14 none:=⟨by kernel_rfl⟩
instance:gq Tryz.prog 54 9 15 none:=⟨by kernel_rfl⟩
instance:gq Tryz.prog 63 0 0 none:=⟨by kernel_rfl⟩
instance:gq Tryz.prog 63 1 1 none:=⟨by kernel_rfl⟩
instance:gq Tryz.prog 63 2 2 none:=⟨by kernel_rfl⟩
instance:gq Tryz.prog 63 3 3 none:=⟨by kernel_rfl⟩
instance:gq Tryz.prog 63 4 4 none:=⟨by kernel_rfl⟩
instance:gq Tryz.prog 63 5 5 none:=⟨by kernel_rfl⟩
instance:gq Tryz.prog 65 0 0 none:=⟨by kernel_rfl⟩
instance:gq Tryz.prog 65 1 1 none:=⟨by kernel_rfl⟩
instance:gq Tryz.prog 65 2 2 none:=⟨by kernel_rfl⟩
instance:gq Tryz.prog 65 3 3 (some 6):=⟨by kernel_rfl⟩
instance:gq Tryz.prog 85 0 0 none:=⟨by kernel_rfl⟩
instance:gq Tryz.prog 85 1 1 none:=⟨by kernel_rfl⟩
instance:gq Tryz.prog 85 2 2 (some 3):=⟨by kernel_rfl⟩
instance:gq Tryz.prog 87 0 0 none:=⟨by kernel_rfl⟩
instance:gq Tryz.prog 87 1 1 none:=⟨by kernel_rfl⟩
instance:gq Tryz.prog 87 2 2 none:=⟨by kernel_rfl⟩
instance:gq Tryz.prog 87 3 3 none:=⟨by kernel_rfl⟩
instance:gq Tryz.prog 87 4 4 none:=⟨by kernel_rfl⟩
instance:gq Tryz.prog 87 5 5 none:=⟨by kernel_rfl⟩
instance:gq Tryz.prog 96 0 0 none:=⟨by kernel_rfl⟩
instance:gq Tryz.prog 96 1 1 none:=⟨by kernel_rfl⟩
instance:gq Tryz.prog 96 10 10 none:=⟨by kernel_rfl⟩
instance:gq Tryz.prog 96 11 11 none:=⟨by kernel_rfl⟩
instance:gq Tryz.prog 96 12 12 none:=⟨by kernel_rfl⟩
instance:gq Tryz.prog 96 2 2 none:=⟨by kernel_rfl⟩
instance:gq Tryz.prog 96 3 3 none:=⟨by kernel_rfl⟩
instance:gq Tryz.prog 96 4 4 none:=⟨by kernel_rfl⟩
instance:gq Tryz.prog 96 5 5 none:=⟨by kernel_rfl⟩
instance:gq Tryz.prog 96 6 6 none:=⟨by kernel_rfl⟩
instance:gq Tryz.prog 96 7 7 none:=⟨by kernel_rfl⟩
instance:gq Tryz.prog 96 8 8 none:=⟨by kernel_rfl⟩
instance:gq Tryz.prog 96 9 9 none:=⟨by kernel_rfl⟩
instance:gq Tryz.prog 99 0 0 none:=⟨by kernel_rfl⟩
instance:gq Tryz.prog 99 1 1 none:=⟨by kernel_rfl⟩
instance:gq Tryz.prog 99 2 2 none:=⟨by kernel_rfl⟩
instance:uf Tryz.prog 155 2:=⟨IV⟩
instance:uf Tryz.prog 170 1:=⟨yU⟩
instance:uf Tryz.prog 3 1:=⟨E2⟩
instance:uf Tryz.prog 35 5:=⟨QZ⟩
instance:uf Tryz.prog 4 1:=⟨Rd⟩
instance:uf Tryz.prog 5 1:=⟨Rj⟩
instance:uf Tryz.prog 54 16:=⟨L8⟩
instance:uf Tryz.prog 65 9:=⟨Q0⟩
instance:uf Tryz.prog 78 2:=⟨Qq⟩
instance:uf Tryz.prog 85 5:=⟨LS⟩
instance:uf Tryz.prog 87 6:=⟨Aa⟩
instance:uf Tryz.prog 96 13:=⟨wO⟩
instance:uk Tryz.prog 155:=⟨_,Qb⟩
instance:uk Tryz.prog 170:=⟨_,PO⟩
instance:uk Tryz.prog 31:=⟨_,QF⟩
instance:uk Tryz.prog 33:=⟨_,QJ⟩
instance:uk Tryz.prog 35:=⟨_,Qz⟩
instance:uk Tryz.prog 40:=⟨_,Qv⟩
instance:uk Tryz.prog 49:=⟨_,QE⟩
instance:uk Tryz.prog 51:=⟨_,Qr⟩
instance:uk Tryz.prog 54:=⟨_,QL⟩
instance:uk Tryz.prog 63:=⟨_,QV⟩
instance:uk Tryz.prog 65:=⟨_,QQ⟩
instance:uk Tryz.prog 78:=⟨_,QN⟩
instance:uk Tryz.prog 85:=⟨_,QD⟩
instance:uk Tryz.prog 87:=⟨_,QU⟩
instance:uk Tryz.prog 96:=⟨_,QY⟩
instance:rL Tryz.prog 22 (.slice 5):=⟨Tryz.underlying22⟩
instance:rL Tryz.prog 24 (.slice 35):=⟨Tryz.underlying24⟩
instance:rL Tryz.prog 25 (.slice 65):=⟨Tryz.underlying25⟩
instance:rL Tryz.prog 29 (.slice 3):=⟨Tryz.underlying29⟩
instance:rL Tryz.prog 38 (.slice 54):=⟨Tryz.underlying38⟩
instance:rL Tryz.prog 41 (.slice 78):=⟨Tryz.underlying41⟩
instance:rL Tryz.prog 46 (.slice 85):=⟨Tryz.underlying46⟩
instance:rL Tryz.prog 47 (.slice 96):=⟨Tryz.underlying47⟩
instance:rL Tryz.prog 52 (.slice 87):=⟨Tryz.underlying52⟩
instance:rL Tryz.prog 94 (.slice 155):=⟨Tryz.underlying94⟩
instance:rL Tryz.prog 120 (.slice 4):=⟨Tryz.underlying120⟩
instance:rL Tryz.prog 168 (.slice 170):=⟨Tryz.underlying168⟩
end Go.Kx
