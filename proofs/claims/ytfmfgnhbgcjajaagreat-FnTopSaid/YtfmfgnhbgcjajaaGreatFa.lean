import Derived.Test.YtfmfgnhbgcjajaaGreatProg
import Derived.Test.YtfmfgnhbgcjajaaGreatGp
import Derived.Test.YtfmfgnhbgcjajaaGreatDel
import Derived.Test.YtfmfgnhbgcjajaaGreatTap
namespace Go.Kx
open Go Go.RowKit Go.Proofs
set_option maxRecDepth 10000
set_option maxHeartbeats 8000000
set_option linter.unusedVariables false
set_option linter.unusedSimpArgs false
theorem PM:fK Tryz.prog 155=some (some 2):=by kernel_rfl
theorem PV:fK Tryz.prog 170=some (some 1):=by kernel_rfl
theorem Qs:fK Tryz.prog 22=some none:=by kernel_rfl
theorem FF:fK Tryz.prog 29=some none:=by kernel_rfl
theorem lS:fK Tryz.prog 3=some none:=by kernel_rfl
theorem EY:fK Tryz.prog 31=some (some 1):=by kernel_rfl
theorem Iy:fK Tryz.prog 33=some (some 3):=by kernel_rfl
theorem Ou:fK Tryz.prog 35=some (some 5):=by kernel_rfl
theorem Qy:fK Tryz.prog 38=some none:=by kernel_rfl
theorem PB:fK Tryz.prog 4=some none:=by kernel_rfl
theorem sx:fK Tryz.prog 40=some (some 2):=by kernel_rfl
theorem yQ:fK Tryz.prog 46=some none:=by kernel_rfl
theorem z4:fK Tryz.prog 47=some none:=by kernel_rfl
theorem QH:fK Tryz.prog 49=some (some 4):=by kernel_rfl
theorem Q4:fK Tryz.prog 5=some none:=by kernel_rfl
theorem Qt:fK Tryz.prog 51=some (some 5):=by kernel_rfl
theorem Aj:fK Tryz.prog 52=some none:=by kernel_rfl
theorem iY:fK Tryz.prog 54=some (some 16):=by kernel_rfl
theorem Pq:fK Tryz.prog 63=some (some 6):=by kernel_rfl
theorem It:fK Tryz.prog 65=some (some 9):=by kernel_rfl
theorem jQ:fK Tryz.prog 78=some (some 2):=by kernel_rfl
theorem QD:fK Tryz.prog 85=some (some 5):=by kernel_rfl
theorem Pr:fK Tryz.prog 87=some (some 6):=by kernel_rfl
theorem tW:fK Tryz.prog 94=some none:=by kernel_rfl
theorem wT:fK Tryz.prog 96=some (some 13):=by kernel_rfl
theorem P5:Program.eqGuardType Tryz.prog Tryz.prog.depth 155=false:=by kernel_rfl
theorem PE:Program.eqGuardType Tryz.prog Tryz.prog.depth 33=false:=by kernel_rfl
theorem Pw:Program.eqGuardType Tryz.prog Tryz.prog.depth 85=false:=by kernel_rfl
theorem Qa:∀(a b:eS) (w:World),(Op.equalIn 10000 155 (.agg #[.int .i64 a.Rx,.int .i64 a.n]) (.agg #[.int .i64 b.Rx,.int .i64 b.n])).run Tryz.prog w=.ok (decide (a=b)) w:=fun a b w=>nN.top (n:=1) (nN.agg (n:=0) Tryz.underlying155 (by kernel_rfl) (pL.one rfl lS rfl rfl (nN.int Tryz.underlying3) (pL.one rfl lS rfl rfl (nN.int Tryz.underlying3) pL.nil))) (by decide) (by
  obtain⟨x0,x1⟩:=a;obtain⟨y0,y1⟩:=b
  simp[eS.mk.injEq,Bool.beq_eq_decide_eq,Bool.decide_and]) w
theorem OC:∀(a b:de) (w:World),(Op.equalIn 10000 33 (.agg #[.int .i64 a.cd,.int .i64 a.dg,.int .i64 a.du]) (.agg #[.int .i64 b.cd,.int .i64 b.dg,.int .i64 b.du])).run Tryz.prog w=.ok (decide (a=b)) w:=fun a b w=>nN.top (n:=1) (nN.agg (n:=0) Tryz.underlying33 (by kernel_rfl) (pL.one rfl lS rfl rfl (nN.int Tryz.underlying3) (pL.one rfl lS rfl rfl (nN.int Tryz.underlying3) (pL.one rfl lS rfl rfl (nN.int Tryz.underlying3) pL.nil)))) (by decide) (by
  obtain⟨x0,x1,x2⟩:=a;obtain⟨y0,y1,y2⟩:=b
  simp[de.mk.injEq,Bool.beq_eq_decide_eq,Bool.decide_and]) w
theorem Og:∀(a b:dk) (w:World),(Op.equalIn 10000 85 (.agg #[.bool a.Rq,.int .i64 a.Rr,.int .i64 a.dQ.cd,.int .i64 a.dQ.dg,.int .i64 a.dQ.du]) (.agg #[.bool b.Rq,.int .i64 b.Rr,.int .i64 b.dQ.cd,.int .i64 b.dQ.dg,.int .i64 b.dQ.du])).run Tryz.prog w=.ok (decide (a=b)) w:=fun a b w=>nN.top (n:=2) (nN.agg (n:=1) Tryz.underlying85 (by kernel_rfl) (pL.one rfl PB rfl rfl (nN.bool Tryz.underlying4) (pL.one rfl lS rfl rfl (nN.int Tryz.underlying3) (pL.more rfl Iy (nN.agg (n:=0) Tryz.underlying33 (by kernel_rfl) (pL.one rfl lS rfl rfl (nN.int Tryz.underlying3) (pL.one rfl lS rfl rfl (nN.int Tryz.underlying3) (pL.one rfl lS rfl rfl (nN.int Tryz.underlying3) pL.nil)))) pL.nil)))) (by decide) (by
  obtain⟨x0,x1,⟨x2,x3,x4⟩⟩:=a;obtain⟨y0,y1,⟨y2,y3,y4⟩⟩:=b
  simp[de.mk.injEq,dk.mk.injEq,Bool.beq_eq_decide_eq,Bool.decide_and]) w
theorem NH:fo Tryz.prog 183 0=some (0,some 16):=by kernel_rfl
theorem DT:fo Tryz.prog 33 2=some (2,none):=by kernel_rfl
theorem ON:fo Tryz.prog 54 0=some (0,some 1):=by kernel_rfl
theorem Ob:fo Tryz.prog 54 2=some (2,none):=by kernel_rfl
theorem OS:fo Tryz.prog 63 2=some (2,none):=by kernel_rfl
theorem GW:fo Tryz.prog 96 10=some (10,none):=by kernel_rfl
theorem Pg:fo Tryz.prog 96 3=some (3,none):=by kernel_rfl
theorem Oh:fo Tryz.prog 96 5=some (5,none):=by kernel_rfl
theorem P0:ua Tryz.prog 162=true:=by kernel_rfl
theorem ME:kq Tryz.prog 120 Bool:=kq.of (b:=1) (by kernel_rfl) rfl
theorem MS:kq Tryz.prog 168 dV:=kq.of (b:=24) (by kernel_rfl) rfl
theorem Oq:kq Tryz.prog 24 eh:=kq.of (b:=72) (by kernel_rfl) rfl
theorem Mk:kq Tryz.prog 25 eQ:=kq.of (b:=72) (by kernel_rfl) rfl
theorem lN:kq Tryz.prog 29 Int:=kq.of (b:=8) (by kernel_rfl) rfl
theorem B0:kq Tryz.prog 38 bh:=kq.of (b:=224) (by kernel_rfl) rfl
theorem QL:kq Tryz.prog 41 dE:=kq.of (b:=16) (by kernel_rfl) rfl
theorem Ix:kq Tryz.prog 46 dk:=kq.of (b:=40) (by kernel_rfl) rfl
theorem Iu:kq Tryz.prog 47 c6:=kq.of (b:=152) (by kernel_rfl) rfl
theorem ue:kq Tryz.prog 52 eA:=kq.of (b:=48) (by kernel_rfl) rfl
theorem rm:kq Tryz.prog 94 eS:=kq.of (b:=16) (by kernel_rfl) rfl
theorem PQ:kq Tryz.prog 47 oC:=kq.of (b:=152) (by kernel_rfl) rfl
theorem JP:kq Tryz.prog 168 gx:=kq.of (b:=24) (by kernel_rfl) rfl
theorem IF:nF Tryz.prog 155=some 2:=by kernel_rfl
theorem zf:nF Tryz.prog 170=some 1:=by kernel_rfl
theorem Ff:nF Tryz.prog 3=some 1:=by kernel_rfl
theorem QQ:nF Tryz.prog 35=some 5:=by kernel_rfl
theorem QT:nF Tryz.prog 4=some 1:=by kernel_rfl
theorem Q0:nF Tryz.prog 5=some 1:=by kernel_rfl
theorem Pe:nF Tryz.prog 54=some 16:=by kernel_rfl
theorem Oe:nF Tryz.prog 65=some 9:=by kernel_rfl
theorem LZ:nF Tryz.prog 85=some 5:=by kernel_rfl
theorem Ak:nF Tryz.prog 87=some 6:=by kernel_rfl
theorem wI:nF Tryz.prog 96=some 13:=by kernel_rfl
theorem PN:zeroV Tryz.prog 155=some (.agg #[.int .i64 0,.int .i64 0]):=by kernel_rfl
theorem PH:zeroV Tryz.prog 170=some (.agg #[.slice none 0 0]):=by kernel_rfl
theorem QE:zeroV Tryz.prog 31=some (.agg #[.slice none 0 0]):=by kernel_rfl
theorem QB:zeroV Tryz.prog 33=some (.agg #[.int .i64 0,.int .i64 0,.int .i64 0]):=by kernel_rfl
theorem QF:zeroV Tryz.prog 35=some (.agg #[.slice none 0 0,.slice none 0 0,.int .i64 0,.int .i64 0,.int .i64 0]):=by kernel_rfl
theorem QO:zeroV Tryz.prog 40=some (.agg #[.int .i64 0,.slice none 0 0]):=by kernel_rfl
theorem Qx:zeroV Tryz.prog 49=some (.agg #[.int .i64 0,.int .i64 0,.int .i64 0,.slice none 0 0]):=by kernel_rfl
theorem Qr:zeroV Tryz.prog 51=some (.agg #[.slice none 0 0,.int .i64 0,.int .i64 0,.int .i64 0,.slice none 0 0]):=by kernel_rfl
theorem QI:zeroV Tryz.prog 54=some (.agg #[.slice none 0 0,.slice none 0 0,.slice none 0 0,.slice none 0 0,.int .i64 0,.int .i64 0,.int .i64 0,.slice none 0 0,.slice none 0 0,.int .i64 0,.int .i64 0,.int .i64 0,.int .i64 0,.int .i64 0,.int .i64 0,.int .i64 0]):=by kernel_rfl
theorem Qv:zeroV Tryz.prog 63=some (.agg #[.int .i64 0,.int .i64 0,.int .i64 0,.int .i64 0,.int .i64 0,.int .i64 0]):=by kernel_rfl
theorem QA:zeroV Tryz.prog 65=some (.agg #[.int .i64 0,.int .i64 0,.int .i64 0,.int .i64 0,.int .i64 0,.int .i64 0,.int .i64 0,.int .i64 0,.int .i64 0]):=by kernel_rfl
theorem QM:zeroV Tryz.prog 78=some (.agg #[.int .i64 0,.int .i64 0]):=by kernel_rfl
theorem QR:zeroV Tryz.prog 85=some (.agg #[.bool false,.int .i64 0,.int .i64 0,.int .i64 0,.int .i64 0]):=by kernel_rfl
theorem Qw:zeroV Tryz.prog 87=some (.agg #[.int .i64 0,.int .i64 0,.int .i64 0,.int .i64 0,.int .i64 0,.int .i64 0]):=by kernel_rfl
theorem QG:zeroV Tryz.prog 96=some (.agg #[.int .i64 0,.int .i64 0,.int .i64 0,.int .i64 0,.int .i64 0,.int .i64 0,.int .i64 0,.int .i64 0,.int .i64 0,.bool false,.slice none 0 0,.slice none 0 0,.slice none 0 0]):=by kernel_rfl
instance:jr Tryz.prog 155 (some 2):=⟨PM⟩
instance:jr Tryz.prog 170 (some 1):=⟨PV⟩
instance:jr Tryz.prog 22 none:=⟨Qs⟩
instance:jr Tryz.prog 29 none:=⟨FF⟩
instance:jr Tryz.prog 3 none:=⟨lS⟩
instance:jr Tryz.prog 31 (some 1):=⟨EY⟩
instance:jr Tryz.prog 33 (some 3):=⟨Iy⟩
instance:jr Tryz.prog 35 (some 5):=⟨Ou⟩
instance:jr Tryz.prog 38 none:=⟨Qy⟩
instance:jr Tryz.prog 4 none:=⟨PB⟩
instance:jr Tryz.prog 40 (some 2):=⟨sx⟩
instance:jr Tryz.prog 46 none:=⟨yQ⟩
instance:jr Tryz.prog 47 none:=⟨z4⟩
instance:jr Tryz.prog 49 (some 4):=⟨QH⟩
instance:jr Tryz.prog 5 none:=⟨Q4⟩
instance:jr Tryz.prog 51 (some 5):=⟨Qt⟩
instance:jr Tryz.prog 52 none:=⟨Aj⟩
instance:jr Tryz.prog 54 (some 16):=⟨iY⟩
instance:jr Tryz.prog 63 (some 6):=⟨Pq⟩
instance:jr Tryz.prog 65 (some 9):=⟨It⟩
instance:jr Tryz.prog 78 (some 2):=⟨jQ⟩
instance:jr Tryz.prog 85 (some 5):=⟨QD⟩
instance:jr Tryz.prog 87 (some 6):=⟨Pr⟩
instance:jr Tryz.prog 94 none:=⟨tW⟩
instance:jr Tryz.prog 96 (some 13):=⟨wT⟩
instance:gP Tryz.prog 155 0 0 none:=⟨by kernel_rfl⟩
instance:gP Tryz.prog 155 1 1 none:=⟨by kernel_rfl⟩
instance:gP Tryz.prog 170 0 0 none:=⟨by kernel_rfl⟩
instance:gP Tryz.prog 183 0 0 (some 16):=⟨by kernel_rfl⟩
instance:gP Tryz.prog 183 1 16 none:=⟨by kernel_rfl⟩
instance:gP Tryz.prog 183 2 17 none:=⟨by kernel_rfl⟩
instance:gP Tryz.prog 183 3 18 none:=⟨by kernel_rfl⟩
instance:gP Tryz.prog 31 0 0 none:=⟨by kernel_rfl⟩
instance:gP Tryz.prog 33 0 0 none:=⟨by kernel_rfl⟩
instance:gP Tryz.prog 33 1 1 none:=⟨by kernel_rfl⟩
instance:gP Tryz.prog 33 2 2 none:=⟨by kernel_rfl⟩
instance:gP Tryz.prog 35 0 0 (some 1):=⟨by kernel_rfl⟩
instance:gP Tryz.prog 35 1 1 none:=⟨by kernel_rfl⟩
instance:gP Tryz.prog 35 2 2 (some 3):=⟨by kernel_rfl⟩
instance:gP Tryz.prog 40 0 0 none:=⟨by kernel_rfl⟩
instance:gP Tryz.prog 40 1 1 none:=⟨by kernel_rfl⟩
instance:gP Tryz.prog 49 0 0 none:=⟨by kernel_rfl⟩
instance:gP Tryz.prog 49 1 1 none:=⟨by kernel_rfl⟩
instance:gP Tryz.prog 49 2 2 none:=⟨by kernel_rfl⟩
instance:gP Tryz.prog 49 3 3 none:=⟨by kernel_rfl⟩
instance:gP Tryz.prog 51 0 0 none:=⟨by kernel_rfl⟩
instance:gP Tryz.prog 51 1 1 (some 4):=⟨by kernel_rfl⟩
instance:gP Tryz.prog 54 0 0 (some 1):=⟨by kernel_rfl⟩
instance:gP Tryz.prog 54 1 1 none:=⟨by kernel_rfl⟩
instance:gP Tryz.prog 54 2 2 none:=⟨by kernel_rfl⟩
instance:gP Tryz.prog 54 3 3 (some 5):=⟨by kernel_rfl⟩
instance:gP Tryz.prog 54 4 8 none:=⟨by kernel_rfl⟩
instance:gP Tryz.prog 54 5 9 none:=⟨by kernel_rfl⟩
instance:gP Tryz.prog 54 6 10 none:=⟨by kernel_rfl⟩
instance:gP Tryz.prog 54 7 11 (some 3):=⟨by kernel_rfl⟩
instance:gP Tryz.prog 54 8 14 none:=⟨by kernel_rfl⟩
instance:gP Tryz.prog 54 9 15 none:=⟨by kernel_rfl⟩
instance:gP Tryz.prog 63 0 0 none:=⟨by kernel_rfl⟩
instance:gP Tryz.prog 63 1 1 none:=⟨by kernel_rfl⟩
instance:gP Tryz.prog 63 2 2 none:=⟨by kernel_rfl⟩
instance:gP Tryz.prog 63 3 3 none:=⟨by kernel_rfl⟩
instance:gP Tryz.prog 63 4 4 none:=⟨by kernel_rfl⟩
instance:gP Tryz.prog 63 5 5 none:=⟨by kernel_rfl⟩
instance:gP Tryz.prog 65 0 0 none:=⟨by kernel_rfl⟩
instance:gP Tryz.prog 65 1 1 none:=⟨by kernel_rfl⟩
instance:gP Tryz.prog 65 2 2 none:=⟨by kernel_rfl⟩
instance:gP Tryz.prog 65 3 3 (some 6):=⟨by kernel_rfl⟩
instance:gP Tryz.prog 85 0 0 none:=⟨by kernel_rfl⟩
instance:gP Tryz.prog 85 1 1 none:=⟨by kernel_rfl⟩
instance:gP Tryz.prog 85 2 2 (some 3):=⟨by kernel_rfl⟩
instance:gP Tryz.prog 87 0 0 none:=⟨by kernel_rfl⟩
instance:gP Tryz.prog 87 1 1 none:=⟨by kernel_rfl⟩
instance:gP Tryz.prog 87 2 2 none:=⟨by kernel_rfl⟩
instance:gP Tryz.prog 87 3 3 none:=⟨by kernel_rfl⟩
instance:gP Tryz.prog 87 4 4 none:=⟨by kernel_rfl⟩
instance:gP Tryz.prog 87 5 5 none:=⟨by kernel_rfl⟩
instance:gP Tryz.prog 96 0 0 none:=⟨by kernel_rfl⟩
instance:gP Tryz.prog 96 1 1 none:=⟨by kernel_rfl⟩
instance:gP Tryz.prog 96 10 10 none:=⟨by kernel_rfl⟩
instance:gP Tryz.prog 96 11 11 none:=⟨by kernel_rfl⟩
instance:gP Tryz.prog 96 12 12 none:=⟨by kernel_rfl⟩
instance:gP Tryz.prog 96 2 2 none:=⟨by kernel_rfl⟩
instance:gP Tryz.prog 96 3 3 none:=⟨by kernel_rfl⟩
instance:gP Tryz.prog 96 4 4 none:=⟨by kernel_rfl⟩
instance:gP Tryz.prog 96 5 5 none:=⟨by kernel_rfl⟩
instance:gP Tryz.prog 96 6 6 none:=⟨by kernel_rfl⟩
instance:gP Tryz.prog 96 7 7 none:=⟨by kernel_rfl⟩
instance:gP Tryz.prog 96 8 8 none:=⟨by kernel_rfl⟩
instance:gP Tryz.prog 96 9 9 none:=⟨by kernel_rfl⟩
instance:gP Tryz.prog 99 0 0 none:=⟨by kernel_rfl⟩
instance:gP Tryz.prog 99 1 1 none:=⟨by kernel_rfl⟩
instance:gP Tryz.prog 99 2 2 none:=⟨by kernel_rfl⟩
instance:u5 Tryz.prog 155 2:=⟨IF⟩
instance:u5 Tryz.prog 170 1:=⟨zf⟩
instance:u5 Tryz.prog 3 1:=⟨Ff⟩
instance:u5 Tryz.prog 35 5:=⟨QQ⟩
instance:u5 Tryz.prog 4 1:=⟨QT⟩
instance:u5 Tryz.prog 5 1:=⟨Q0⟩
instance:u5 Tryz.prog 54 16:=⟨Pe⟩
instance:u5 Tryz.prog 65 9:=⟨Oe⟩
instance:u5 Tryz.prog 85 5:=⟨LZ⟩
instance:u5 Tryz.prog 87 6:=⟨Ak⟩
instance:u5 Tryz.prog 96 13:=⟨wI⟩
instance:uI Tryz.prog 155:=⟨_,PN⟩
instance:uI Tryz.prog 170:=⟨_,PH⟩
instance:uI Tryz.prog 31:=⟨_,QE⟩
instance:uI Tryz.prog 33:=⟨_,QB⟩
instance:uI Tryz.prog 35:=⟨_,QF⟩
instance:uI Tryz.prog 40:=⟨_,QO⟩
instance:uI Tryz.prog 49:=⟨_,Qx⟩
instance:uI Tryz.prog 51:=⟨_,Qr⟩
instance:uI Tryz.prog 54:=⟨_,QI⟩
instance:uI Tryz.prog 63:=⟨_,Qv⟩
instance:uI Tryz.prog 65:=⟨_,QA⟩
instance:uI Tryz.prog 78:=⟨_,QM⟩
instance:uI Tryz.prog 85:=⟨_,QR⟩
instance:uI Tryz.prog 87:=⟨_,Qw⟩
instance:uI Tryz.prog 96:=⟨_,QG⟩
instance:sd Tryz.prog 22 (.slice 5):=⟨Tryz.underlying22⟩
instance:sd Tryz.prog 24 (.slice 35):=⟨Tryz.underlying24⟩
instance:sd Tryz.prog 25 (.slice 65):=⟨Tryz.underlying25⟩
instance:sd Tryz.prog 29 (.slice 3):=⟨Tryz.underlying29⟩
instance:sd Tryz.prog 38 (.slice 54):=⟨Tryz.underlying38⟩
instance:sd Tryz.prog 41 (.slice 78):=⟨Tryz.underlying41⟩
instance:sd Tryz.prog 46 (.slice 85):=⟨Tryz.underlying46⟩
instance:sd Tryz.prog 47 (.slice 96):=⟨Tryz.underlying47⟩
instance:sd Tryz.prog 52 (.slice 87):=⟨Tryz.underlying52⟩
instance:sd Tryz.prog 94 (.slice 155):=⟨Tryz.underlying94⟩
instance:sd Tryz.prog 120 (.slice 4):=⟨Tryz.underlying120⟩
instance:sd Tryz.prog 168 (.slice 170):=⟨Tryz.underlying168⟩
end Go.Kx
