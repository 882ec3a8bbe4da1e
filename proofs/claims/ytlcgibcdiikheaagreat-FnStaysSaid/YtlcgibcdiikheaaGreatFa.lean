import Derived.Test.YtlcgibcdiikheaaGreatProg
import Derived.Test.YtlcgibcdiikheaaGreatGp
namespace Go.Kx
open Go Go.RowKit Go.Proofs
set_option maxRecDepth 10000
set_option maxHeartbeats 8000000
set_option linter.unusedVariables false
set_option linter.unusedSimpArgs false
theorem yt:jH Tryz.prog 101=some (some 13):=by kernel_rfl
theorem MY:jH Tryz.prog 108=some (some 5):=by kernel_rfl
theorem PG:jH Tryz.prog 172=some (some 5):=by kernel_rfl
theorem MD:jH Tryz.prog 174=some (some 6):=by kernel_rfl
theorem Pv:jH Tryz.prog 193=some (some 2):=by kernel_rfl
theorem Qr:jH Tryz.prog 22=some none:=by kernel_rfl
theorem PO:jH Tryz.prog 228=some (some 1):=by kernel_rfl
theorem Qg:jH Tryz.prog 24=some none:=by kernel_rfl
theorem sS:jH Tryz.prog 26=some (some 2):=by kernel_rfl
theorem Oy:jH Tryz.prog 28=some (some 6):=by kernel_rfl
theorem qV:jH Tryz.prog 3=some none:=by kernel_rfl
theorem mj:jH Tryz.prog 32=some (some 2):=by kernel_rfl
theorem B7:jH Tryz.prog 37=some none:=by kernel_rfl
theorem zI:jH Tryz.prog 39=some (some 1):=by kernel_rfl
theorem ML:jH Tryz.prog 4=some none:=by kernel_rfl
theorem zE:jH Tryz.prog 40=some none:=by kernel_rfl
theorem zs:jH Tryz.prog 41=some none:=by kernel_rfl
theorem Qe:jH Tryz.prog 43=some (some 4):=by kernel_rfl
theorem Ql:jH Tryz.prog 45=some (some 5):=by kernel_rfl
theorem BU:jH Tryz.prog 46=some none:=by kernel_rfl
theorem H4:jH Tryz.prog 48=some (some 3):=by kernel_rfl
theorem QK:jH Tryz.prog 5=some none:=by kernel_rfl
theorem mx:jH Tryz.prog 50=some (some 16):=by kernel_rfl
theorem IK:jH Tryz.prog 62=some (some 9):=by kernel_rfl
theorem yM:jH Tryz.prog 99=some none:=by kernel_rfl
theorem MR:Program.eqGuardType Tryz.prog Tryz.prog.depth 172=false:=by kernel_rfl
theorem PZ:Program.eqGuardType Tryz.prog Tryz.prog.depth 193=false:=by kernel_rfl
theorem Mv:∀ (a b:g6) (w:World),(Op.equalIn 10000 172 (.agg #[.bool a.Q2,.int .i64 a.Q4,.int .i64 a.iw.bh,.int .i64 a.iw.gS,.int .i64 a.iw.gW]) (.agg #[.bool b.Q2,.int .i64 b.Q4,.int .i64 b.iw.bh,.int .i64 b.iw.gS,.int .i64 b.iw.gW])).run Tryz.prog w=.ok (decide (a=b)) w:=fun a b w=>sQ.top (n:=2) (sQ.agg (n:=1) Tryz.underlying172 (by kernel_rfl) (uA.one rfl ML rfl rfl (sQ.bool Tryz.underlying4) (uA.one rfl qV rfl rfl (sQ.int Tryz.underlying3) (uA.more rfl H4 (sQ.agg (n:=0) Tryz.underlying48 (by kernel_rfl) (uA.one rfl qV rfl rfl (sQ.int Tryz.underlying3) (uA.one rfl qV rfl rfl (sQ.int Tryz.underlying3) (uA.one rfl qV rfl rfl (sQ.int Tryz.underlying3) uA.nil)))) uA.nil)))) (by decide) (by
  obtain ⟨x0,x1,⟨x2,x3,x4⟩⟩:=a;obtain ⟨y0,y1,⟨y2,y3,y4⟩⟩:=b
  simp [gT.mk.injEq,g6.mk.injEq,Bool.beq_eq_decide_eq,Bool.decide_and]) w
theorem PD:∀ (a b:jw) (w:World),(Op.equalIn 10000 193 (.agg #[.int .i64 a.Q6,.int .i64 a.n]) (.agg #[.int .i64 b.Q6,.int .i64 b.n])).run Tryz.prog w=.ok (decide (a=b)) w:=fun a b w=>sQ.top (n:=1) (sQ.agg (n:=0) Tryz.underlying193 (by kernel_rfl) (uA.one rfl qV rfl rfl (sQ.int Tryz.underlying3) (uA.one rfl qV rfl rfl (sQ.int Tryz.underlying3) uA.nil))) (by decide) (by
  obtain ⟨x0,x1⟩:=a;obtain ⟨y0,y1⟩:=b
  simp [jw.mk.injEq,Bool.beq_eq_decide_eq,Bool.decide_and]) w
theorem FF:fo Tryz.prog 101 10=some (10,none):=by kernel_rfl
theorem EM:fo Tryz.prog 48 2=some (2,none):=by kernel_rfl
theorem ON:fo Tryz.prog 50 0=some (0,some 1):=by kernel_rfl
theorem OH:fo Tryz.prog 50 2=some (2,none):=by kernel_rfl
theorem Mu:nC Tryz.prog 226 iB:=nC.of (b:=24) (by kernel_rfl) rfl
theorem Fj:nC Tryz.prog 24 cd:=nC.of (b:=224) (by kernel_rfl) rfl
theorem oL:nC Tryz.prog 37 Int:=nC.of (b:=8) (by kernel_rfl) rfl
theorem Ll:nC Tryz.prog 40 g6:=nC.of (b:=40) (by kernel_rfl) rfl
theorem L0:nC Tryz.prog 41 gE:=nC.of (b:=152) (by kernel_rfl) rfl
theorem xH:nC Tryz.prog 46 i7:=nC.of (b:=48) (by kernel_rfl) rfl
theorem Qm:nC Tryz.prog 71 il:=nC.of (b:=16) (by kernel_rfl) rfl
theorem Ov:nC Tryz.prog 74 iO:=nC.of (b:=72) (by kernel_rfl) rfl
theorem Lk:nC Tryz.prog 76 ja:=nC.of (b:=72) (by kernel_rfl) rfl
theorem Oq:nC Tryz.prog 95 Bool:=nC.of (b:=1) (by kernel_rfl) rfl
theorem vv:nC Tryz.prog 99 jw:=nC.of (b:=16) (by kernel_rfl) rfl
theorem PK:nC Tryz.prog 41 qt:=nC.of (b:=152) (by kernel_rfl) rfl
theorem Jx:nC Tryz.prog 226 kl:=nC.of (b:=24) (by kernel_rfl) rfl
theorem Bi:sR Tryz.prog 101=some 13:=by kernel_rfl
theorem PH:sR Tryz.prog 108=some 5:=by kernel_rfl
theorem Mt:sR Tryz.prog 172=some 5:=by kernel_rfl
theorem IJ:sR Tryz.prog 174=some 6:=by kernel_rfl
theorem Mr:sR Tryz.prog 193=some 2:=by kernel_rfl
theorem zP:sR Tryz.prog 228=some 1:=by kernel_rfl
theorem Ee:sR Tryz.prog 3=some 1:=by kernel_rfl
theorem Qy:sR Tryz.prog 4=some 1:=by kernel_rfl
theorem QN:sR Tryz.prog 5=some 1:=by kernel_rfl
theorem OG:sR Tryz.prog 50=some 16:=by kernel_rfl
theorem Qs:sR Tryz.prog 62=some 9:=by kernel_rfl
theorem Pr:zeroV Tryz.prog 101=some (.agg #[.int .i64 0,.int .i64 0,.int .i64 0,.int .i64 0,.int .i64 0,.int .i64 0,.int .i64 0,.int .i64 0,.int .i64 0,.bool false,.slice none 0 0,.slice none 0 0,.slice none 0 0]):=by kernel_rfl
theorem PX:zeroV Tryz.prog 108=some (.agg #[.slice none 0 0,.slice none 0 0,.int .i64 0,.int .i64 0,.int .i64 0]):=by kernel_rfl
theorem PN:zeroV Tryz.prog 172=some (.agg #[.bool false,.int .i64 0,.int .i64 0,.int .i64 0,.int .i64 0]):=by kernel_rfl
theorem PA:zeroV Tryz.prog 174=some (.agg #[.int .i64 0,.int .i64 0,.int .i64 0,.int .i64 0,.int .i64 0,.int .i64 0]):=by kernel_rfl
theorem PM:zeroV Tryz.prog 193=some (.agg #[.int .i64 0,.int .i64 0]):=by kernel_rfl
theorem PS:zeroV Tryz.prog 228=some (.agg #[.slice none 0 0]):=by kernel_rfl
theorem Qh:zeroV Tryz.prog 26=some (.agg #[.int .i64 0,.slice none 0 0]):=by kernel_rfl
theorem Qa:zeroV Tryz.prog 28=some (.agg #[.int .i64 0,.int .i64 0,.int .i64 0,.int .i64 0,.int .i64 0,.int .i64 0]):=by kernel_rfl
theorem Qo:zeroV Tryz.prog 32=some (.agg #[.int .i64 0,.int .i64 0]):=by kernel_rfl
theorem Qk:zeroV Tryz.prog 39=some (.agg #[.slice none 0 0]):=by kernel_rfl
theorem Qb:zeroV Tryz.prog 43=some (.agg #[.int .i64 0,.int .i64 0,.int .i64 0,.slice none 0 0]):=by kernel_rfl
theorem Qf:zeroV Tryz.prog 45=some (.agg #[.slice none 0 0,.int .i64 0,.int .i64 0,.int .i64 0,.slice none 0 0]):=by kernel_rfl
theorem Qn:zeroV Tryz.prog 48=some (.agg #[.int .i64 0,.int .i64 0,.int .i64 0]):=by kernel_rfl
theorem Qc:zeroV Tryz.prog 50=some (.agg #[.slice none 0 0,.slice none 0 0,.slice none 0 0,.slice none 0 0,.int .i64 0,.int .i64 0,.int .i64 0,.slice none 0 0,.slice none 0 0,.int .i64 0,.int .i64 0,.int .i64 0,.int .i64 0,.int .i64 0,.int .i64 0,.int .i64 0]):=by kernel_rfl
theorem Qi:zeroV Tryz.prog 62=some (.agg #[.int .i64 0,.int .i64 0,.int .i64 0,.int .i64 0,.int .i64 0,.int .i64 0,.int .i64 0,.int .i64 0,.int .i64 0]):=by kernel_rfl
instance:ma Tryz.prog 101 (some 13):=⟨yt⟩
instance:ma Tryz.prog 108 (some 5):=⟨MY⟩
instance:ma Tryz.prog 172 (some 5):=⟨PG⟩
instance:ma Tryz.prog 174 (some 6):=⟨MD⟩
instance:ma Tryz.prog 193 (some 2):=⟨Pv⟩
instance:ma Tryz.prog 22 none:=⟨Qr⟩
instance:ma Tryz.prog 228 (some 1):=⟨PO⟩
instance:ma Tryz.prog 24 none:=⟨Qg⟩
instance:ma Tryz.prog 26 (some 2):=⟨sS⟩
instance:ma Tryz.prog 28 (some 6):=⟨Oy⟩
instance:ma Tryz.prog 3 none:=⟨qV⟩
instance:ma Tryz.prog 32 (some 2):=⟨mj⟩
instance:ma Tryz.prog 37 none:=⟨B7⟩
instance:ma Tryz.prog 39 (some 1):=⟨zI⟩
instance:ma Tryz.prog 4 none:=⟨ML⟩
instance:ma Tryz.prog 40 none:=⟨zE⟩
instance:ma Tryz.prog 41 none:=⟨zs⟩
instance:ma Tryz.prog 43 (some 4):=⟨Qe⟩
instance:ma Tryz.prog 45 (some 5):=⟨Ql⟩
instance:ma Tryz.prog 46 none:=⟨BU⟩
instance:ma Tryz.prog 48 (some 3):=⟨H4⟩
instance:ma Tryz.prog 5 none:=⟨QK⟩
instance:ma Tryz.prog 50 (some 16):=⟨mx⟩
instance:ma Tryz.prog 62 (some 9):=⟨IK⟩
instance:ma Tryz.prog 99 none:=⟨yM⟩
instance:ky Tryz.prog 101 0 0 none:=⟨by kernel_rfl⟩
instance:ky Tryz.prog 101 1 1 none:=⟨by kernel_rfl⟩
instance:ky Tryz.prog 101 10 10 none:=⟨by kernel_rfl⟩
instance:ky Tryz.prog 101 11 11 none:=⟨by kernel_rfl⟩
instance:ky Tryz.prog 101 12 12 none:=⟨by kernel_rfl⟩
instance:ky Tryz.prog 101 2 2 none:=⟨by kernel_rfl⟩
instance:ky Tryz.prog 101 3 3 none:=⟨by kernel_rfl⟩
instance:ky Tryz.prog 101 4 4 none:=⟨by kernel_rfl⟩
instance:ky Tryz.prog 101 5 5 none:=⟨by kernel_rfl⟩
instance:ky Tryz.prog 101 6 6 none:=⟨by kernel_rfl⟩
instance:ky Tryz.prog 101 7 7 none:=⟨by kernel_rfl⟩
instance:ky Tryz.prog 101 8 8 none:=⟨by kernel_rfl⟩
instance:ky Tryz.prog 101 9 9 none:=⟨by kernel_rfl⟩
instance:ky Tryz.prog 108 0 0 (some 1):=⟨by kernel_rfl⟩
instance:ky Tryz.prog 108 1 1 none:=⟨by kernel_rfl⟩
instance:ky Tryz.prog 108 2 2 (some 3):=⟨by kernel_rfl⟩
instance:ky Tryz.prog 172 0 0 none:=⟨by kernel_rfl⟩
instance:ky Tryz.prog 172 1 1 none:=⟨by kernel_rfl⟩
instance:ky Tryz.prog 172 2 2 (some 3):=⟨by kernel_rfl⟩
instance:ky Tryz.prog 174 0 0 none:=⟨by kernel_rfl⟩
instance:ky Tryz.prog 174 1 1 none:=⟨by kernel_rfl⟩
instance:ky Tryz.prog 174 2 2 none:=⟨by kernel_rfl⟩
instance:ky Tryz.prog 174 3 3 none:=⟨by kernel_rfl⟩
instance:ky Tryz.prog 174 4 4 none:=⟨by kernel_rfl⟩
instance:ky Tryz.prog 174 5 5 none:=⟨by kernel_rfl⟩
instance:ky Tryz.prog 177 0 0 none:=⟨by kernel_rfl⟩
instance:ky Tryz.prog 177 1 1 none:=⟨by kernel_rfl⟩
instance:ky Tryz.prog 177 2 2 none:=⟨by kernel_rfl⟩
instance:ky Tryz.prog 193 0 0 none:=⟨by kernel_rfl⟩
instance:ky Tryz.prog 193 1 1 none:=⟨by kernel_rfl⟩
instance:ky Tryz.prog 228 0 0 none:=⟨by kernel_rfl⟩
instance:ky Tryz.prog 26 0 0 none:=⟨by kernel_rfl⟩
instance:ky Tryz.prog 26 1 1 none:=⟨by kernel_rfl⟩
instance:ky Tryz.prog 28 0 0 none:=⟨by kernel_rfl⟩
instance:ky Tryz.prog 28 1 1 none:=⟨by kernel_rfl⟩
instance:ky Tryz.prog 28 2 2 none:=⟨by kernel_rfl⟩
instance:ky Tryz.prog 28 3 3 none:=⟨by kernel_rfl⟩
instance:ky Tryz.prog 28 4 4 none:=⟨by kernel_rfl⟩
instance:ky Tryz.prog 28 5 5 none:=⟨by kernel_rfl⟩
instance:ky Tryz.prog 39 0 0 none:=⟨by kernel_rfl⟩
instance:ky Tryz.prog 43 0 0 none:=⟨by kernel_rfl⟩
instance:ky Tryz.prog 43 1 1 none:=⟨by kernel_rfl⟩
instance:ky Tryz.prog 43 2 2 none:=⟨by kernel_rfl⟩
instance:ky Tryz.prog 43 3 3 none:=⟨by kernel_rfl⟩
instance:ky Tryz.prog 45 0 0 none:=⟨by kernel_rfl⟩
instance:ky Tryz.prog 45 1 1 (some 4):=⟨by kernel_rfl⟩
instance:ky Tryz.prog 48 0 0 none:=⟨by kernel_rfl⟩
instance:ky Tryz.prog 48 1 1 none:=⟨by kernel_rfl⟩
instance:ky Tryz.prog 48 2 2 none:=⟨by kernel_rfl⟩
instance:ky Tryz.prog 50 0 0 (some 1):=⟨by kernel_rfl⟩
instance:ky Tryz.prog 50 1 1 none:=⟨by kernel_rfl⟩
instance:ky Tryz.prog 50 2 2 none:=⟨by kernel_rfl⟩
instance:ky Tryz.prog 50 3 3 (some 5):=⟨by kernel_rfl⟩
instance:ky Tryz.prog 50 4 8 none:=⟨by kernel_rfl⟩
instance:ky Tryz.prog 50 5 9 none:=⟨by kernel_rfl⟩
instance:ky Tryz.prog 50 6 10 none:=⟨by kernel_rfl⟩
instance:ky Tryz.prog 50 7 11 (some 3):=⟨by kernel_rfl⟩
instance:ky Tryz.prog 50 8 14 none:=⟨by kernel_rfl⟩
instance:ky Tryz.prog 50 9 15 none:=⟨by kernel_rfl⟩
instance:ky Tryz.prog 62 0 0 none:=⟨by kernel_rfl⟩
instance:ky Tryz.prog 62 1 1 none:=⟨by kernel_rfl⟩
instance:ky Tryz.prog 62 2 2 none:=⟨by kernel_rfl⟩
instance:ky Tryz.prog 62 3 3 (some 6):=⟨by kernel_rfl⟩
instance:vY Tryz.prog 101 13:=⟨Bi⟩
instance:vY Tryz.prog 108 5:=⟨PH⟩
instance:vY Tryz.prog 172 5:=⟨Mt⟩
instance:vY Tryz.prog 174 6:=⟨IJ⟩
instance:vY Tryz.prog 193 2:=⟨Mr⟩
instance:vY Tryz.prog 228 1:=⟨zP⟩
instance:vY Tryz.prog 3 1:=⟨Ee⟩
instance:vY Tryz.prog 4 1:=⟨Qy⟩
instance:vY Tryz.prog 5 1:=⟨QN⟩
instance:vY Tryz.prog 50 16:=⟨OG⟩
instance:vY Tryz.prog 62 9:=⟨Qs⟩
instance:vT Tryz.prog 101:=⟨_,Pr⟩
instance:vT Tryz.prog 108:=⟨_,PX⟩
instance:vT Tryz.prog 172:=⟨_,PN⟩
instance:vT Tryz.prog 174:=⟨_,PA⟩
instance:vT Tryz.prog 193:=⟨_,PM⟩
instance:vT Tryz.prog 228:=⟨_,PS⟩
instance:vT Tryz.prog 26:=⟨_,Qh⟩
instance:vT Tryz.prog 28:=⟨_,Qa⟩
instance:vT Tryz.prog 32:=⟨_,Qo⟩
instance:vT Tryz.prog 39:=⟨_,Qk⟩
instance:vT Tryz.prog 43:=⟨_,Qb⟩
instance:vT Tryz.prog 45:=⟨_,Qf⟩
instance:vT Tryz.prog 48:=⟨_,Qn⟩
instance:vT Tryz.prog 50:=⟨_,Qc⟩
instance:vT Tryz.prog 62:=⟨_,Qi⟩
instance:o7 Tryz.prog 22 (.slice 5):=⟨Tryz.underlying22⟩
instance:o7 Tryz.prog 24 (.slice 50):=⟨Tryz.underlying24⟩
instance:o7 Tryz.prog 37 (.slice 3):=⟨Tryz.underlying37⟩
instance:o7 Tryz.prog 40 (.slice 172):=⟨Tryz.underlying40⟩
instance:o7 Tryz.prog 41 (.slice 101):=⟨Tryz.underlying41⟩
instance:o7 Tryz.prog 46 (.slice 174):=⟨Tryz.underlying46⟩
instance:o7 Tryz.prog 52 (.slice 210):=⟨Tryz.underlying52⟩
instance:o7 Tryz.prog 67 (.slice 144):=⟨Tryz.underlying67⟩
instance:o7 Tryz.prog 68 (.slice 57):=⟨Tryz.underlying68⟩
instance:o7 Tryz.prog 71 (.slice 32):=⟨Tryz.underlying71⟩
instance:o7 Tryz.prog 74 (.slice 108):=⟨Tryz.underlying74⟩
instance:o7 Tryz.prog 76 (.slice 62):=⟨Tryz.underlying76⟩
instance:o7 Tryz.prog 95 (.slice 4):=⟨Tryz.underlying95⟩
instance:o7 Tryz.prog 99 (.slice 193):=⟨Tryz.underlying99⟩
instance:o7 Tryz.prog 130 (.slice 9):=⟨Tryz.underlying130⟩
instance:o7 Tryz.prog 203 (.slice 300):=⟨Tryz.underlying203⟩
instance:o7 Tryz.prog 204 (.slice 311):=⟨Tryz.underlying204⟩
instance:o7 Tryz.prog 208 (.slice 304):=⟨Tryz.underlying208⟩
instance:o7 Tryz.prog 226 (.slice 228):=⟨Tryz.underlying226⟩
instance:o7 Tryz.prog 309 (.slice 318):=⟨Tryz.underlying309⟩
end Go.Kx
