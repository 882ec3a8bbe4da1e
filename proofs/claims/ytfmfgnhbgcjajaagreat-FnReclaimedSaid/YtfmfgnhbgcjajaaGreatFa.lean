import Derived.Test.YtfmfgnhbgcjajaaGreatProg
import Derived.Test.YtfmfgnhbgcjajaaGreatGp
import Derived.Test.YtfmfgnhbgcjajaaGreatDel
import Derived.Test.YtfmfgnhbgcjajaaGreatTap
namespace Go.Kx
open Go Go.RowKit Go.Proofs
set_option maxRecDepth 10000
set_option maxHeartbeats 8000000
set_option linter.unusedVariables false
set_option linter.unusedSimpArgs false
theorem Qb:fL Tryz.prog 155=some (some 2):=by kernel_rfl
theorem PO:fL Tryz.prog 170=some (some 1):=by kernel_rfl
theorem QT:fL Tryz.prog 22=some none:=by kernel_rfl
theorem Fj:fL Tryz.prog 29=some none:=by kernel_rfl
theorem kV:fL Tryz.prog 3=some none:=by kernel_rfl
theorem Ec:fL Tryz.prog 31=some (some 1):=by kernel_rfl
theorem IS:fL Tryz.prog 33=some (some 3):=by kernel_rfl
theorem PF:fL Tryz.prog 35=some (some 5):=by kernel_rfl
theorem Qx:fL Tryz.prog 38=some none:=by kernel_rfl
theorem Oj:fL Tryz.prog 4=some none:=by kernel_rfl
theorem sy:fL Tryz.prog 40=some (some 2):=by kernel_rfl
theorem yg:fL Tryz.prog 46=some none:=by kernel_rfl
theorem wR:fL Tryz.prog 47=some none:=by kernel_rfl
theorem Qu:fL Tryz.prog 49=some (some 4):=by kernel_rfl
theorem Q6:fL Tryz.prog 5=some none:=by kernel_rfl
theorem QP:fL Tryz.prog 51=some (some 5):=by kernel_rfl
theorem Am:fL Tryz.prog 52=some none:=by kernel_rfl
theorem i7:fL Tryz.prog 54=some (some 16):=by kernel_rfl
theorem O4:fL Tryz.prog 63=some (some 6):=by kernel_rfl
theorem I1:fL Tryz.prog 65=some (some 9):=by kernel_rfl
theorem jX:fL Tryz.prog 78=some (some 2):=by kernel_rfl
theorem QB:fL Tryz.prog 85=some (some 5):=by kernel_rfl
theorem PA:fL Tryz.prog 87=some (some 6):=by kernel_rfl
theorem tY:fL Tryz.prog 94=some none:=by kernel_rfl
theorem tE:fL Tryz.prog 96=some (some 13):=by kernel_rfl
theorem Qc:Program.eqGuardType Tryz.prog Tryz.prog.depth 155=false:=by kernel_rfl
theorem PB:Program.eqGuardType Tryz.prog Tryz.prog.depth 85=false:=by kernel_rfl
theorem P7:∀(a b:eR) (w:World),(Op.equalIn 10000 155 (.agg #[.int .i64 a.RA,.int .i64 a.n]) (.agg #[.int .i64 b.RA,.int .i64 b.n])).run Tryz.prog w=.ok (decide (a=b)) w:=fun a b w=>qZ.top (n:=1) (qZ.agg (n:=0) Tryz.underlying155 (by kernel_rfl) (sH.one rfl kV rfl rfl (qZ.int Tryz.underlying3) (sH.one rfl kV rfl rfl (qZ.int Tryz.underlying3) sH.nil))) (by decide) (by
  obtain⟨x0,x1⟩:=a;obtain⟨y0,y1⟩:=b
  simp[eR.mk.injEq,Bool.beq_eq_decide_eq,Bool.decide_and]) w
theorem OF:∀(a b:dp) (w:World),(Op.equalIn 10000 85 (.agg #[.bool a.Ru,.int .i64 a.Rv,.int .i64 a.dP.c6,.int .i64 a.dP.dh,.int .i64 a.dP.du]) (.agg #[.bool b.Ru,.int .i64 b.Rv,.int .i64 b.dP.c6,.int .i64 b.dP.dh,.int .i64 b.dP.du])).run Tryz.prog w=.ok (decide (a=b)) w:=fun a b w=>qZ.top (n:=2) (qZ.agg (n:=1) Tryz.underlying85 (by kernel_rfl) (sH.one rfl Oj rfl rfl (qZ.bool Tryz.underlying4) (sH.one rfl kV rfl rfl (qZ.int Tryz.underlying3) (sH.more rfl IS (qZ.agg (n:=0) Tryz.underlying33 (by kernel_rfl) (sH.one rfl kV rfl rfl (qZ.int Tryz.underlying3) (sH.one rfl kV rfl rfl (qZ.int Tryz.underlying3) (sH.one rfl kV rfl rfl (qZ.int Tryz.underlying3) sH.nil)))) sH.nil)))) (by decide) (by
  obtain⟨x0,x1,⟨x2,x3,x4⟩⟩:=a;obtain⟨y0,y1,⟨y2,y3,y4⟩⟩:=b
  simp[de.mk.injEq,dp.mk.injEq,Bool.beq_eq_decide_eq,Bool.decide_and]) w
theorem NK:fo Tryz.prog 183 0=some (0,some 16):=by kernel_rfl
theorem D1:fo Tryz.prog 33 2=some (2,none):=by kernel_rfl
theorem PH:fo Tryz.prog 54 0=some (0,some 1):=by kernel_rfl
theorem OB:fo Tryz.prog 54 2=some (2,none):=by kernel_rfl
theorem Py:fo Tryz.prog 63 2=some (2,none):=by kernel_rfl
theorem H6:fo Tryz.prog 96 10=some (10,none):=by kernel_rfl
theorem PI:fo Tryz.prog 96 3=some (3,none):=by kernel_rfl
theorem Po:fo Tryz.prog 96 5=some (5,none):=by kernel_rfl
theorem PZ:uq Tryz.prog 162=true:=by kernel_rfl
theorem Mz:ks Tryz.prog 120 Bool:=ks.of (b:=1) (by kernel_rfl) rfl
theorem M1:ks Tryz.prog 168 dU:=ks.of (b:=24) (by kernel_rfl) rfl
theorem Om:ks Tryz.prog 24 er:=ks.of (b:=72) (by kernel_rfl) rfl
theorem D8:ks Tryz.prog 25 dY:=ks.of (b:=72) (by kernel_rfl) rfl
theorem ky:ks Tryz.prog 29 Int:=ks.of (b:=8) (by kernel_rfl) rfl
theorem B9:ks Tryz.prog 38 bh:=ks.of (b:=224) (by kernel_rfl) rfl
theorem Qs:ks Tryz.prog 41 dD:=ks.of (b:=16) (by kernel_rfl) rfl
theorem Ie:ks Tryz.prog 46 dp:=ks.of (b:=40) (by kernel_rfl) rfl
theorem Iu:ks Tryz.prog 47 cd:=ks.of (b:=152) (by kernel_rfl) rfl
theorem ud:ks Tryz.prog 52 ez:=ks.of (b:=48) (by kernel_rfl) rfl
theorem re:ks Tryz.prog 94 eR:=ks.of (b:=16) (by kernel_rfl) rfl
theorem PV:ks Tryz.prog 47 oF:=ks.of (b:=152) (by kernel_rfl) rfl
theorem KO:ks Tryz.prog 168 gz:=ks.of (b:=24) (by kernel_rfl) rfl
theorem IE:nK Tryz.prog 155=some 2:=by kernel_rfl
theorem zy:nK Tryz.prog 170=some 1:=by kernel_rfl
theorem EG:nK Tryz.prog 3=some 1:=by kernel_rfl
theorem Qv:nK Tryz.prog 35=some 5:=by kernel_rfl
theorem Q5:nK Tryz.prog 4=some 1:=by kernel_rfl
theorem Q9:nK Tryz.prog 5=some 1:=by kernel_rfl
theorem PK:nK Tryz.prog 54=some 16:=by kernel_rfl
theorem L5:nK Tryz.prog 65=some 9:=by kernel_rfl
theorem Ma:nK Tryz.prog 85=some 5:=by kernel_rfl
theorem An:nK Tryz.prog 87=some 6:=by kernel_rfl
theorem wX:nK Tryz.prog 96=some 13:=by kernel_rfl
theorem PN:zeroV Tryz.prog 155=some (.agg #[.int .i64 0,.int .i64 0]):=by kernel_rfl
theorem P8:zeroV Tryz.prog 170=some (.agg #[.slice none 0 0]):=by kernel_rfl
theorem QA:zeroV Tryz.prog 31=some (.agg #[.slice none 0 0]):=by kernel_rfl
theorem QF:zeroV Tryz.prog 33=some (.agg #[.int .i64 0,.int .i64 0,.int .i64 0]):=by kernel_rfl
theorem Qy:zeroV Tryz.prog 35=some (.agg #[.slice none 0 0,.slice none 0 0,.int .i64 0,.int .i64 0,.int .i64 0]):=by kernel_rfl
theorem QO:zeroV Tryz.prog 40=some (.agg #[.int .i64 0,.slice none 0 0]):=by kernel_rfl
theorem QS:zeroV Tryz.prog 49=some (.agg #[.int .i64 0,.int .i64 0,.int .i64 0,.slice none 0 0]):=by kernel_rfl
theorem QR:zeroV Tryz.prog 51=some (.agg #[.slice none 0 0,.int .i64 0,.int .i64 0,.int .i64 0,.slice none 0 0]):=by kernel_rfl
theorem QK:zeroV Tryz.prog 54=some (.agg #[.slice none 0 0,.slice none 0 0,.slice none 0 0,.slice none 0 0,.int .i64 0,.int .i64 0,.int .i64 0,.slice none 0 0,.slice none 0 0,.int .i64 0,.int .i64 0,.int .i64 0,.int .i64 0,.int .i64 0,.int .i64 0,.int .i64 0]):=by kernel_rfl
theorem Qz:zeroV Tryz.prog 63=some (.agg #[.int .i64 0,.int .i64 0,.int .i64 0,.int .i64 0,.int .i64 0,.int .i64 0]):=by kernel_rfl
theorem QM:zeroV Tryz.prog 65=some (.agg #[.int .i64 0,.int .i64 0,.int .i64 0,.int .i64 0,.int .i64 0,.int .i64 0,.int .i64 0,.int .i64 0,.int .i64 0]):=by kernel_rfl
theorem QG:zeroV Tryz.prog 78=some (.agg #[.int .i64 0,.int .i64 0]):=by kernel_rfl
theorem QQ:zeroV Tryz.prog 85=some (.agg #[.bool false,.int .i64 0,.int .i64 0,.int .i64 0,.int .i64 0]):=by kernel_rfl
theorem QE:zeroV Tryz.prog 87=some (.agg #[.int .i64 0,.int .i64 0,.int .i64 0,.int .i64 0,.int .i64 0,.int .i64 0]):=by kernel_rfl
theorem QN:zeroV Tryz.prog 96=some (.agg #[.int .i64 0,.int .i64 0,.int .i64 0,.int .i64 0,.int .i64 0,.int .i64 0,.int .i64 0,.int .i64 0,.int .i64 0,.bool false,.slice none 0 0,.slice none 0 0,.slice none 0 0]):=by kernel_rfl
instance:jA Tryz.prog 155 (some 2):=⟨Qb⟩
instance:jA Tryz.prog 170 (some 1):=⟨PO⟩
instance:jA Tryz.prog 22 none:=⟨QT⟩
instance:jA Tryz.prog 29 none:=⟨Fj⟩
instance:jA Tryz.prog 3 none:=⟨kV⟩
instance:jA Tryz.prog 31 (some 1):=⟨Ec⟩
instance:jA Tryz.prog 33 (some 3):=⟨IS⟩
instance:jA Tryz.prog 35 (some 5):=⟨PF⟩
instance:jA Tryz.prog 38 none:=⟨Qx⟩
instance:jA Tryz.prog 4 none:=⟨Oj⟩
instance:jA Tryz.prog 40 (some 2):=⟨sy⟩
instance:jA Tryz.prog 46 none:=⟨yg⟩
instance:jA Tryz.prog 47 none:=⟨wR⟩
instance:jA Tryz.prog 49 (some 4):=⟨Qu⟩
instance:jA Tryz.prog 5 none:=⟨Q6⟩
instance:jA Tryz.prog 51 (some 5):=⟨QP⟩
instance:jA Tryz.prog 52 none:=⟨Am⟩
instance:jA Tryz.prog 54 (some 16):=⟨i7⟩
instance:jA Tryz.prog 63 (some 6):=⟨O4⟩
instance:jA Tryz.prog 65 (some 9):=⟨I1⟩
instance:jA Tryz.prog 78 (some 2):=⟨jX⟩
instance:jA Tryz.prog 85 (some 5):=⟨QB⟩
instance:jA Tryz.prog 87 (some 6):=⟨PA⟩
instance:jA Tryz.prog 94 none:=⟨tY⟩
instance:jA Tryz.prog 96 (some 13):=⟨tE⟩
instance:gM Tryz.prog 155 0 0 none:=⟨by kernel_rfl⟩
instance:gM Tryz.prog 155 1 1 none:=⟨by kernel_rfl⟩
instance:gM Tryz.prog 170 0 0 none:=⟨by kernel_rfl⟩
instance:gM Tryz.prog 183 0 0 (some 16):=⟨by kernel_rfl⟩
instance:gM Tryz.prog 183 1 16 none:=⟨by kernel_rfl⟩
instance:gM Tryz.prog 183 2 17 none:=⟨by kernel_rfl⟩
instance:gM Tryz.prog 183 3 18 none:=⟨by kernel_rfl⟩
instance:gM Tryz.prog 31 0 0 none:=⟨by kernel_rfl⟩
instance:gM Tryz.prog 33 0 0 none:=⟨by kernel_rfl⟩
instance:gM Tryz.prog 33 1 1 none:=⟨by kernel_rfl⟩
instance:gM Tryz.prog 33 2 2 none:=⟨by kernel_rfl⟩
instance:gM Tryz.prog 35 0 0 (some 1):=⟨by kernel_rfl⟩
instance:gM Tryz.prog 35 1 1 none:=⟨by kernel_rfl⟩
instance:gM Tryz.prog 35 2 2 (some 3):=⟨by kernel_rfl⟩
instance:gM Tryz.prog 40 0 0 none:=⟨by kernel_rfl⟩
instance:gM Tryz.prog 40 1 1 none:=⟨by kernel_rfl⟩
instance:gM Tryz.prog 49 0 0 none:=⟨by kernel_rfl⟩
instance:gM Tryz.prog 49 1 1 none:=⟨by kernel_rfl⟩
instance:gM Tryz.prog 49 2 2 none:=⟨by kernel_rfl⟩
instance:gM Tryz.prog 49 3 3 none:=⟨by kernel_rfl⟩
instance:gM Tryz.prog 51 0 0 none:=⟨by kernel_rfl⟩
instance:gM Tryz.prog 51 1 1 (some 4):=⟨by kernel_rfl⟩
instance:gM Tryz.prog 54 0 0 (some 1):=⟨by kernel_rfl⟩
instance:gM Tryz.prog 54 1 1 none:=⟨by kernel_rfl⟩
instance:gM Tryz.prog 54 2 2 none:=⟨by kernel_rfl⟩
instance:gM Tryz.prog 54 3 3 (some 5):=⟨by kernel_rfl⟩
instance:gM Tryz.prog 54 4 8 none:=⟨by kernel_rfl⟩
instance:gM Tryz.prog 54 5 9 none:=⟨by kernel_rfl⟩
instance:gM Tryz.prog 54 6 10 none:=⟨by kernel_rfl⟩
instance:gM Tryz.prog 54 7 11 (some 3):=⟨by kernel_rfl⟩
instance:gM Tryz.prog 54 8 14 none:=⟨by kernel_rfl⟩
instance:gM Tryz.prog 54 9 15 none:=⟨by kernel_rfl⟩
instance:gM Tryz.prog 63 0 0 none:=⟨by kernel_rfl⟩
instance:gM Tryz.prog 63 1 1 none:=⟨by kernel_rfl⟩
instance:gM Tryz.prog 63 2 2 none:=⟨by kernel_rfl⟩
instance:gM Tryz.prog 63 3 3 none:=⟨by kernel_rfl⟩
instance:gM Tryz.prog 63 4 4 none:=⟨by kernel_rfl⟩
instance:gM Tryz.prog 63 5 5 none:=⟨by kernel_rfl⟩
instance:gM Tryz.prog 65 0 0 none:=⟨by kernel_rfl⟩
instance:gM Tryz.prog 65 1 1 none:=⟨by kernel_rfl⟩
instance:gM Tryz.prog 65 2 2 none:=⟨by kernel_rfl⟩
instance:gM Tryz.prog 65 3 3 (some 6):=⟨by kernel_rfl⟩
instance:gM Tryz.prog 85 0 0 none:=⟨by kernel_rfl⟩
instance:gM Tryz.prog 85 1 1 none:=⟨by kernel_rfl⟩
instance:gM Tryz.prog 85 2 2 (some 3):=⟨by kernel_rfl⟩
instance:gM Tryz.prog 87 0 0 none:=⟨by kernel_rfl⟩
instance:gM Tryz.prog 87 1 1 none:=⟨by kernel_rfl⟩
instance:gM Tryz.prog 87 2 2 none:=⟨by kernel_rfl⟩
instance:gM Tryz.prog 87 3 3 none:=⟨by kernel_rfl⟩
instance:gM Tryz.prog 87 4 4 none:=⟨by kernel_rfl⟩
instance:gM Tryz.prog 87 5 5 none:=⟨by kernel_rfl⟩
instance:gM Tryz.prog 96 0 0 none:=⟨by kernel_rfl⟩
instance:gM Tryz.prog 96 1 1 none:=⟨by kernel_rfl⟩
instance:gM Tryz.prog 96 10 10 none:=⟨by kernel_rfl⟩
instance:gM Tryz.prog 96 11 11 none:=⟨by kernel_rfl⟩
instance:gM Tryz.prog 96 12 12 none:=⟨by kernel_rfl⟩
instance:gM Tryz.prog 96 2 2 none:=⟨by kernel_rfl⟩
instance:gM Tryz.prog 96 3 3 none:=⟨by kernel_rfl⟩
instance:gM Tryz.prog 96 4 4 none:=⟨by kernel_rfl⟩
instance:gM Tryz.prog 96 5 5 none:=⟨by kernel_rfl⟩
instance:gM Tryz.prog 96 6 6 none:=⟨by kernel_rfl⟩
instance:gM Tryz.prog 96 7 7 none:=⟨by kernel_rfl⟩
instance:gM Tryz.prog 96 8 8 none:=⟨by kernel_rfl⟩
instance:gM Tryz.prog 96 9 9 none:=⟨by kernel_rfl⟩
instance:gM Tryz.prog 99 0 0 none:=⟨by kernel_rfl⟩
instance:gM Tryz.prog 99 1 1 none:=⟨by kernel_rfl⟩
instance:gM Tryz.prog 99 2 2 none:=⟨by kernel_rfl⟩
instance:vh Tryz.prog 155 2:=⟨IE⟩
instance:vh Tryz.prog 170 1:=⟨zy⟩
instance:vh Tryz.prog 3 1:=⟨EG⟩
instance:vh Tryz.prog 35 5:=⟨Qv⟩
instance:vh Tryz.prog 4 1:=⟨Q5⟩
instance:vh Tryz.prog 5 1:=⟨Q9⟩
instance:vh Tryz.prog 54 16:=⟨PK⟩
instance:vh Tryz.prog 65 9:=⟨L5⟩
instance:vh Tryz.prog 85 5:=⟨Ma⟩
instance:vh Tryz.prog 87 6:=⟨An⟩
instance:vh Tryz.prog 96 13:=⟨wX⟩
instance:uR Tryz.prog 155:=⟨_,PN⟩
instance:uR Tryz.prog 170:=⟨_,P8⟩
instance:uR Tryz.prog 31:=⟨_,QA⟩
instance:uR Tryz.prog 33:=⟨_,QF⟩
instance:uR Tryz.prog 35:=⟨_,Qy⟩
instance:uR Tryz.prog 40:=⟨_,QO⟩
instance:uR Tryz.prog 49:=⟨_,QS⟩
instance:uR Tryz.prog 51:=⟨_,QR⟩
instance:uR Tryz.prog 54:=⟨_,QK⟩
instance:uR Tryz.prog 63:=⟨_,Qz⟩
instance:uR Tryz.prog 65:=⟨_,QM⟩
instance:uR Tryz.prog 78:=⟨_,QG⟩
instance:uR Tryz.prog 85:=⟨_,QQ⟩
instance:uR Tryz.prog 87:=⟨_,QE⟩
instance:uR Tryz.prog 96:=⟨_,QN⟩
instance:r6 Tryz.prog 22 (.slice 5):=⟨Tryz.underlying22⟩
instance:r6 Tryz.prog 24 (.slice 35):=⟨Tryz.underlying24⟩
instance:r6 Tryz.prog 25 (.slice 65):=⟨Tryz.underlying25⟩
instance:r6 Tryz.prog 29 (.slice 3):=⟨Tryz.underlying29⟩
instance:r6 Tryz.prog 38 (.slice 54):=⟨Tryz.underlying38⟩
instance:r6 Tryz.prog 41 (.slice 78):=⟨Tryz.underlying41⟩
instance:r6 Tryz.prog 46 (.slice 85):=⟨Tryz.underlying46⟩
instance:r6 Tryz.prog 47 (.slice 96):=⟨Tryz.underlying47⟩
instance:r6 Tryz.prog 52 (.slice 87):=⟨Tryz.underlying52⟩
instance:r6 Tryz.prog 94 (.slice 155):=⟨Tryz.underlying94⟩
instance:r6 Tryz.prog 120 (.slice 4):=⟨Tryz.underlying120⟩
instance:r6 Tryz.prog 168 (.slice 170):=⟨Tryz.underlying168⟩
end Go.Kx
