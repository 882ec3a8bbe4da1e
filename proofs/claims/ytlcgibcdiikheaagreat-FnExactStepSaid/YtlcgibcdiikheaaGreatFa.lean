import Derived.Test.YtlcgibcdiikheaaGreatProg
import Derived.Test.YtlcgibcdiikheaaGreatGp
namespace Go.Kx
open Go Go.RowKit Go.Proofs
set_option maxRecDepth 10000
set_option maxHeartbeats 8000000
set_option linter.unusedVariables false
set_option linter.unusedSimpArgs false
theorem Ci:rr Tryz.prog 101=some (some 13):=by kernel_rfl
theorem Tj:rr Tryz.prog 141=some (some 1):=by kernel_rfl
theorem Ts:rr Tryz.prog 142=some (some 3):=by kernel_rfl
theorem TF:rr Tryz.prog 172=some (some 5):=by kernel_rfl
theorem Qp:rr Tryz.prog 174=some (some 6):=by kernel_rfl
theorem Qu:rr Tryz.prog 193=some (some 2):=by kernel_rfl
theorem TN:rr Tryz.prog 203=some none:=by kernel_rfl
theorem T1:rr Tryz.prog 204=some none:=by kernel_rfl
theorem TS:rr Tryz.prog 205=some (some 4):=by kernel_rfl
theorem Tz:rr Tryz.prog 207=some (some 5):=by kernel_rfl
theorem TQ:rr Tryz.prog 208=some none:=by kernel_rfl
theorem T4:rr Tryz.prog 210=some (some 16):=by kernel_rfl
theorem T8:rr Tryz.prog 228=some (some 1):=by kernel_rfl
theorem UO:rr Tryz.prog 24=some none:=by kernel_rfl
theorem Ab:rr Tryz.prog 26=some (some 2):=by kernel_rfl
theorem Uo:rr Tryz.prog 28=some (some 6):=by kernel_rfl
theorem sW:rr Tryz.prog 3=some none:=by kernel_rfl
theorem Tw:rr Tryz.prog 300=some (some 5):=by kernel_rfl
theorem Ty:rr Tryz.prog 304=some (some 6):=by kernel_rfl
theorem T9:rr Tryz.prog 309=some none:=by kernel_rfl
theorem TH:rr Tryz.prog 311=some (some 13):=by kernel_rfl
theorem T3:rr Tryz.prog 318=some (some 2):=by kernel_rfl
theorem tE:rr Tryz.prog 32=some (some 2):=by kernel_rfl
theorem B0:rr Tryz.prog 37=some none:=by kernel_rfl
theorem Kc:rr Tryz.prog 39=some (some 1):=by kernel_rfl
theorem QG:rr Tryz.prog 4=some none:=by kernel_rfl
theorem DH:rr Tryz.prog 40=some none:=by kernel_rfl
theorem DY:rr Tryz.prog 41=some none:=by kernel_rfl
theorem UI:rr Tryz.prog 43=some (some 4):=by kernel_rfl
theorem UB:rr Tryz.prog 45=some (some 5):=by kernel_rfl
theorem DZ:rr Tryz.prog 46=some none:=by kernel_rfl
theorem Qa:rr Tryz.prog 48=some (some 3):=by kernel_rfl
theorem tN:rr Tryz.prog 50=some (some 16):=by kernel_rfl
theorem Ut:rr Tryz.prog 52=some none:=by kernel_rfl
theorem US:rr Tryz.prog 54=some (some 2):=by kernel_rfl
theorem Uy:rr Tryz.prog 55=some (some 6):=by kernel_rfl
theorem UE:rr Tryz.prog 57=some (some 9):=by kernel_rfl
theorem Ux:rr Tryz.prog 62=some (some 9):=by kernel_rfl
theorem yz:rr Tryz.prog 99=some none:=by kernel_rfl
theorem Qm:Program.eqGuardType Tryz.prog Tryz.prog.depth 172=false:=by kernel_rfl
theorem TP:Program.eqGuardType Tryz.prog Tryz.prog.depth 193=false:=by kernel_rfl
theorem QT:∀ (a b:qc) (w:World),(Op.equalIn 10000 172 (.agg #[.bool a.Vs,.int .i64 a.Vq,.int .i64 a.qI.gE,.int .i64 a.qI.qa,.int .i64 a.qI.qg]) (.agg #[.bool b.Vs,.int .i64 b.Vq,.int .i64 b.qI.gE,.int .i64 b.qI.qa,.int .i64 b.qI.qg])).run Tryz.prog w=.ok (decide (a=b)) w:=fun a b w=>zx.top (n:=2) (zx.agg (n:=1) Tryz.underlying172 (by kernel_rfl) (AG.one rfl QG rfl rfl (zx.bool Tryz.underlying4) (AG.one rfl sW rfl rfl (zx.int Tryz.underlying3) (AG.more rfl Qa (zx.agg (n:=0) Tryz.underlying48 (by kernel_rfl) (AG.one rfl sW rfl rfl (zx.int Tryz.underlying3) (AG.one rfl sW rfl rfl (zx.int Tryz.underlying3) (AG.one rfl sW rfl rfl (zx.int Tryz.underlying3) AG.nil)))) AG.nil)))) (by decide) (by
  obtain ⟨x0,x1,⟨x2,x3,x4⟩⟩:=a;obtain ⟨y0,y1,⟨y2,y3,y4⟩⟩:=b
  simp [qj.mk.injEq,qc.mk.injEq,Bool.beq_eq_decide_eq,Bool.decide_and]) w
theorem TO:∀ (a b:qM) (w:World),(Op.equalIn 10000 193 (.agg #[.int .i64 a.Vu,.int .i64 a.n]) (.agg #[.int .i64 b.Vu,.int .i64 b.n])).run Tryz.prog w=.ok (decide (a=b)) w:=fun a b w=>zx.top (n:=1) (zx.agg (n:=0) Tryz.underlying193 (by kernel_rfl) (AG.one rfl sW rfl rfl (zx.int Tryz.underlying3) (AG.one rfl sW rfl rfl (zx.int Tryz.underlying3) AG.nil))) (by decide) (by
  obtain ⟨x0,x1⟩:=a;obtain ⟨y0,y1⟩:=b
  simp [qM.mk.injEq,Bool.beq_eq_decide_eq,Bool.decide_and]) w
theorem Jh:fo Tryz.prog 101 10=some (10,none):=by kernel_rfl
theorem RK:fo Tryz.prog 101 3=some (3,none):=by kernel_rfl
theorem Ry:fo Tryz.prog 101 5=some (5,none):=by kernel_rfl
theorem RI:fo Tryz.prog 188 0=some (0,some 16):=by kernel_rfl
theorem S7:fo Tryz.prog 28 2=some (2,none):=by kernel_rfl
theorem J5:fo Tryz.prog 48 2=some (2,none):=by kernel_rfl
theorem Sq:fo Tryz.prog 50 0=some (0,some 1):=by kernel_rfl
theorem Ta:fo Tryz.prog 50 2=some (2,none):=by kernel_rfl
theorem TU:Bq Tryz.prog 224=true:=by kernel_rfl
theorem QL:vw Tryz.prog 226 qF:=vw.of (b:=24) (by kernel_rfl) rfl
theorem JQ:vw Tryz.prog 24 cd:=vw.of (b:=224) (by kernel_rfl) rfl
theorem xN:vw Tryz.prog 37 Int:=vw.of (b:=8) (by kernel_rfl) rfl
theorem PM:vw Tryz.prog 40 qc:=vw.of (b:=40) (by kernel_rfl) rfl
theorem Ps:vw Tryz.prog 41 j8:=vw.of (b:=152) (by kernel_rfl) rfl
theorem Bd:vw Tryz.prog 46 qB:=vw.of (b:=48) (by kernel_rfl) rfl
theorem Sb:vw Tryz.prog 95 Bool:=vw.of (b:=1) (by kernel_rfl) rfl
theorem zi:vw Tryz.prog 99 qM:=vw.of (b:=16) (by kernel_rfl) rfl
theorem T6:vw Tryz.prog 41 xM:=vw.of (b:=152) (by kernel_rfl) rfl
theorem ON:vw Tryz.prog 226 sd:=vw.of (b:=24) (by kernel_rfl) rfl
theorem uM:wi Tryz.prog 101=some 13:=by kernel_rfl
theorem Ef:wi Tryz.prog 172=some 5:=by kernel_rfl
theorem z9:wi Tryz.prog 174=some 6:=by kernel_rfl
theorem I3:wi Tryz.prog 193=some 2:=by kernel_rfl
theorem TA:wi Tryz.prog 210=some 16:=by kernel_rfl
theorem FH:wi Tryz.prog 228=some 1:=by kernel_rfl
theorem L3:wi Tryz.prog 3=some 1:=by kernel_rfl
theorem TW:wi Tryz.prog 300=some 5:=by kernel_rfl
theorem Tt:wi Tryz.prog 304=some 6:=by kernel_rfl
theorem Tn:wi Tryz.prog 311=some 13:=by kernel_rfl
theorem TX:wi Tryz.prog 318=some 2:=by kernel_rfl
theorem UY:wi Tryz.prog 4=some 1:=by kernel_rfl
theorem SN:wi Tryz.prog 50=some 16:=by kernel_rfl
theorem TT:zeroV Tryz.prog 101=some (.agg #[.int .i64 0,.int .i64 0,.int .i64 0,.int .i64 0,.int .i64 0,.int .i64 0,.int .i64 0,.int .i64 0,.int .i64 0,.bool false,.slice none 0 0,.slice none 0 0,.slice none 0 0]):=by kernel_rfl
theorem TB:zeroV Tryz.prog 172=some (.agg #[.bool false,.int .i64 0,.int .i64 0,.int .i64 0,.int .i64 0]):=by kernel_rfl
theorem Th:zeroV Tryz.prog 174=some (.agg #[.int .i64 0,.int .i64 0,.int .i64 0,.int .i64 0,.int .i64 0,.int .i64 0]):=by kernel_rfl
theorem Tu:zeroV Tryz.prog 193=some (.agg #[.int .i64 0,.int .i64 0]):=by kernel_rfl
theorem To:zeroV Tryz.prog 228=some (.agg #[.slice none 0 0]):=by kernel_rfl
theorem Uv:zeroV Tryz.prog 26=some (.agg #[.int .i64 0,.slice none 0 0]):=by kernel_rfl
theorem UM:zeroV Tryz.prog 28=some (.agg #[.int .i64 0,.int .i64 0,.int .i64 0,.int .i64 0,.int .i64 0,.int .i64 0]):=by kernel_rfl
theorem UL:zeroV Tryz.prog 32=some (.agg #[.int .i64 0,.int .i64 0]):=by kernel_rfl
theorem UC:zeroV Tryz.prog 39=some (.agg #[.slice none 0 0]):=by kernel_rfl
theorem UK:zeroV Tryz.prog 43=some (.agg #[.int .i64 0,.int .i64 0,.int .i64 0,.slice none 0 0]):=by kernel_rfl
theorem UH:zeroV Tryz.prog 45=some (.agg #[.slice none 0 0,.int .i64 0,.int .i64 0,.int .i64 0,.slice none 0 0]):=by kernel_rfl
theorem Uz:zeroV Tryz.prog 48=some (.agg #[.int .i64 0,.int .i64 0,.int .i64 0]):=by kernel_rfl
theorem UT:zeroV Tryz.prog 50=some (.agg #[.slice none 0 0,.slice none 0 0,.slice none 0 0,.slice none 0 0,.int .i64 0,.int .i64 0,.int .i64 0,.slice none 0 0,.slice none 0 0,.int .i64 0,.int .i64 0,.int .i64 0,.int .i64 0,.int .i64 0,.int .i64 0,.int .i64 0]):=by kernel_rfl
theorem UR:zeroV Tryz.prog 62=some (.agg #[.int .i64 0,.int .i64 0,.int .i64 0,.int .i64 0,.int .i64 0,.int .i64 0,.int .i64 0,.int .i64 0,.int .i64 0]):=by kernel_rfl
instance:sr Tryz.prog 101 (some 13):=⟨Ci⟩
instance:sr Tryz.prog 141 (some 1):=⟨Tj⟩
instance:sr Tryz.prog 142 (some 3):=⟨Ts⟩
instance:sr Tryz.prog 172 (some 5):=⟨TF⟩
instance:sr Tryz.prog 174 (some 6):=⟨Qp⟩
instance:sr Tryz.prog 193 (some 2):=⟨Qu⟩
instance:sr Tryz.prog 203 none:=⟨TN⟩
instance:sr Tryz.prog 204 none:=⟨T1⟩
instance:sr Tryz.prog 205 (some 4):=⟨TS⟩
instance:sr Tryz.prog 207 (some 5):=⟨Tz⟩
instance:sr Tryz.prog 208 none:=⟨TQ⟩
instance:sr Tryz.prog 210 (some 16):=⟨T4⟩
instance:sr Tryz.prog 228 (some 1):=⟨T8⟩
instance:sr Tryz.prog 24 none:=⟨UO⟩
instance:sr Tryz.prog 26 (some 2):=⟨Ab⟩
instance:sr Tryz.prog 28 (some 6):=⟨Uo⟩
instance:sr Tryz.prog 3 none:=⟨sW⟩
instance:sr Tryz.prog 300 (some 5):=⟨Tw⟩
instance:sr Tryz.prog 304 (some 6):=⟨Ty⟩
instance:sr Tryz.prog 309 none:=⟨T9⟩
instance:sr Tryz.prog 311 (some 13):=⟨TH⟩
instance:sr Tryz.prog 318 (some 2):=⟨T3⟩
instance:sr Tryz.prog 32 (some 2):=⟨tE⟩
instance:sr Tryz.prog 37 none:=⟨B0⟩
instance:sr Tryz.prog 39 (some 1):=⟨Kc⟩
instance:sr Tryz.prog 4 none:=⟨QG⟩
instance:sr Tryz.prog 40 none:=⟨DH⟩
instance:sr Tryz.prog 41 none:=⟨DY⟩
instance:sr Tryz.prog 43 (some 4):=⟨UI⟩
instance:sr Tryz.prog 45 (some 5):=⟨UB⟩
instance:sr Tryz.prog 46 none:=⟨DZ⟩
instance:sr Tryz.prog 48 (some 3):=⟨Qa⟩
instance:sr Tryz.prog 50 (some 16):=⟨tN⟩
instance:sr Tryz.prog 52 none:=⟨Ut⟩
instance:sr Tryz.prog 54 (some 2):=⟨US⟩
instance:sr Tryz.prog 55 (some 6):=⟨Uy⟩
instance:sr Tryz.prog 57 (some 9):=⟨UE⟩
instance:sr Tryz.prog 62 (some 9):=⟨Ux⟩
instance:sr Tryz.prog 99 none:=⟨yz⟩
instance:rj Tryz.prog 101 0 0 none:=⟨by kernel_rfl⟩
instance:rj Tryz.prog 101 1 1 none:=⟨by kernel_rfl⟩
instance:rj Tryz.prog 101 10 10 none:=⟨by kernel_rfl⟩
instance:rj Tryz.prog 101 11 11 none:=⟨by kernel_rfl⟩
instance:rj Tryz.prog 101 12 12 none:=⟨by kernel_rfl⟩
instance:rj Tryz.prog 101 2 2 none:=⟨by kernel_rfl⟩
instance:rj Tryz.prog 101 3 3 none:=⟨by kernel_rfl⟩
instance:rj Tryz.prog 101 4 4 none:=⟨by kernel_rfl⟩
instance:rj Tryz.prog 101 5 5 none:=⟨by kernel_rfl⟩
instance:rj Tryz.prog 101 6 6 none:=⟨by kernel_rfl⟩
instance:rj Tryz.prog 101 7 7 none:=⟨by kernel_rfl⟩
instance:rj Tryz.prog 101 8 8 none:=⟨by kernel_rfl⟩
instance:rj Tryz.prog 101 9 9 none:=⟨by kernel_rfl⟩
instance:rj Tryz.prog 141 0 0 none:=⟨by kernel_rfl⟩
instance:rj Tryz.prog 142 0 0 none:=⟨by kernel_rfl⟩
instance:rj Tryz.prog 142 1 1 none:=⟨by kernel_rfl⟩
instance:rj Tryz.prog 142 2 2 none:=⟨by kernel_rfl⟩
instance:rj Tryz.prog 172 0 0 none:=⟨by kernel_rfl⟩
instance:rj Tryz.prog 172 1 1 none:=⟨by kernel_rfl⟩
instance:rj Tryz.prog 172 2 2 (some 3):=⟨by kernel_rfl⟩
instance:rj Tryz.prog 174 0 0 none:=⟨by kernel_rfl⟩
instance:rj Tryz.prog 174 1 1 none:=⟨by kernel_rfl⟩
instance:rj Tryz.prog 174 2 2 none:=⟨by kernel_rfl⟩
instance:rj Tryz.prog 174 3 3 none:=⟨by kernel_rfl⟩
instance:rj Tryz.prog 174 4 4 none:=⟨by kernel_rfl⟩
instance:rj Tryz.prog 174 5 5 none:=⟨by kernel_rfl⟩
instance:rj Tryz.prog 188 0 0 (some 16):=⟨by kernel_rfl⟩
instance:rj Tryz.prog 188 1 16 none:=⟨by kernel_rfl⟩
instance:rj Tryz.prog 188 2 17 none:=⟨by kernel_rfl⟩
instance:rj Tryz.prog 188 3 18 none:=⟨by kernel_rfl⟩
instance:rj Tryz.prog 193 0 0 none:=⟨by kernel_rfl⟩
instance:rj Tryz.prog 193 1 1 none:=⟨by kernel_rfl⟩
instance:rj Tryz.prog 205 0 0 none:=⟨by kernel_rfl⟩
instance:rj Tryz.prog 205 1 1 none:=⟨by kernel_rfl⟩
instance:rj Tryz.prog 205 2 2 none:=⟨by kernel_rfl⟩
instance:rj Tryz.prog 205 3 3 none:=⟨by kernel_rfl⟩
instance:rj Tryz.prog 207 0 0 none:=⟨by kernel_rfl⟩
instance:rj Tryz.prog 207 1 1 (some 4):=⟨by kernel_rfl⟩
instance:rj Tryz.prog 210 0 0 (some 1):=⟨by kernel_rfl⟩
instance:rj Tryz.prog 210 1 1 none:=⟨by kernel_rfl⟩
instance:rj Tryz.prog 210 2 2 none:=⟨by kernel_rfl⟩
instance:rj Tryz.prog 210 3 3 (some 5):=⟨by kernel_rfl⟩
instance:rj Tryz.prog 210 4 8 none:=⟨by kernel_rfl⟩
instance:rj Tryz.prog 210 5 9 none:=⟨by kernel_rfl⟩
instance:rj Tryz.prog 210 6 10 none:=⟨by kernel_rfl⟩
instance:rj Tryz.prog 210 7 11 (some 3):=⟨by kernel_rfl⟩
instance:rj Tryz.prog 210 8 14 none:=⟨by kernel_rfl⟩
instance:rj Tryz.prog 210 9 15 none:=⟨by kernel_rfl⟩
instance:rj Tryz.prog 228 0 0 none:=⟨by kernel_rfl⟩
instance:rj Tryz.prog 26 0 0 none:=⟨by kernel_rfl⟩
instance:rj Tryz.prog 26 1 1 none:=⟨by kernel_rfl⟩
instance:rj Tryz.prog 28 0 0 none:=⟨by kernel_rfl⟩
instance:rj Tryz.prog 28 1 1 none:=⟨by kernel_rfl⟩
instance:rj Tryz.prog 28 2 2 none:=⟨by kernel_rfl⟩
instance:rj Tryz.prog 28 3 3 none:=⟨by kernel_rfl⟩
instance:rj Tryz.prog 28 4 4 none:=⟨by kernel_rfl⟩
instance:rj Tryz.prog 28 5 5 none:=⟨by kernel_rfl⟩
instance:rj Tryz.prog 300 0 0 none:=⟨by kernel_rfl⟩
instance:rj Tryz.prog 300 1 1 none:=⟨by kernel_rfl⟩
instance:rj Tryz.prog 300 2 2 (some 3):=⟨by kernel_rfl⟩
instance:rj Tryz.prog 304 0 0 none:=⟨by kernel_rfl⟩
instance:rj Tryz.prog 304 1 1 none:=⟨by kernel_rfl⟩
instance:rj Tryz.prog 304 2 2 none:=⟨by kernel_rfl⟩
instance:rj Tryz.prog 304 3 3 none:=⟨by kernel_rfl⟩
instance:rj Tryz.prog 304 4 4 none:=⟨by kernel_rfl⟩
instance:rj Tryz.prog 304 5 5 none:=⟨by kernel_rfl⟩
instance:rj Tryz.prog 311 0 0 none:=⟨by kernel_rfl⟩
instance:rj Tryz.prog 311 1 1 none:=⟨by kernel_rfl⟩
instance:rj Tryz.prog 311 10 10 none:=⟨by kernel_rfl⟩
instance:rj Tryz.prog 311 11 11 none:=⟨by kernel_rfl⟩
instance:rj Tryz.prog 311 12 12 none:=⟨by kernel_rfl⟩
instance:rj Tryz.prog 311 2 2 none:=⟨by kernel_rfl⟩
instance:rj Tryz.prog 311 3 3 none:=⟨by kernel_rfl⟩
instance:rj Tryz.prog 311 4 4 none:=⟨by kernel_rfl⟩
instance:rj Tryz.prog 311 5 5 none:=⟨by kernel_rfl⟩
instance:rj Tryz.prog 311 6 6 none:=⟨by kernel_rfl⟩
instance:rj Tryz.prog 311 7 7 none:=⟨by kernel_rfl⟩
instance:rj Tryz.prog 311 8 8 none:=⟨by kernel_rfl⟩
instance:rj Tryz.prog 311 9 9 none:=⟨by kernel_rfl⟩
instance:rj Tryz.prog 318 0 0 none:=⟨by kernel_rfl⟩
instance:rj Tryz.prog 318 1 1 none:=⟨by kernel_rfl⟩
instance:rj Tryz.prog 32 0 0 none:=⟨by kernel_rfl⟩
instance:rj Tryz.prog 32 1 1 none:=⟨by kernel_rfl⟩
instance:rj Tryz.prog 39 0 0 none:=⟨by kernel_rfl⟩
instance:rj Tryz.prog 43 0 0 none:=⟨by kernel_rfl⟩
instance:rj Tryz.prog 43 1 1 none:=⟨by kernel_rfl⟩
instance:rj Tryz.prog 43 2 2 none:=⟨by kernel_rfl⟩
instance:rj Tryz.prog 43 3 3 none:=⟨by kernel_rfl⟩
instance:rj Tryz.prog 45 0 0 none:=⟨by kernel_rfl⟩
instance:rj Tryz.prog 45 1 1 (some 4):=⟨by kernel_rfl⟩
instance:rj Tryz.prog 48 0 0 none:=⟨by kernel_rfl⟩
instance:rj Tryz.prog 48 1 1 none:=⟨by kernel_rfl⟩
instance:rj Tryz.prog 48 2 2 none:=⟨by kernel_rfl⟩
instance:rj Tryz.prog 50 0 0 (some 1):=⟨by kernel_rfl⟩
instance:rj Tryz.prog 50 1 1 none:=⟨by kernel_rfl⟩
instance:rj Tryz.prog 50 2 2 none:=⟨by kernel_rfl⟩
instance:rj Tryz.prog 50 3 3 (some 5):=⟨by kernel_rfl⟩
instance:rj Tryz.prog 50 4 8 none:=⟨by kernel_rfl⟩
instance:rj Tryz.prog 50 5 9 none:=⟨by kernel_rfl⟩
instance:rj Tryz.prog 50 6 10 none:=⟨by kernel_rfl⟩
instance:rj Tryz.prog 50 7 11 (some 3):=⟨by kernel_rfl⟩
instance:rj Tryz.prog 50 8 14 none:=⟨by kernel_rfl⟩
instance:rj Tryz.prog 50 9 15 none:=⟨by kernel_rfl⟩
instance:rj Tryz.prog 54 0 0 none:=⟨by kernel_rfl⟩
instance:rj Tryz.prog 54 1 1 none:=⟨by kernel_rfl⟩
instance:rj Tryz.prog 55 0 0 none:=⟨by kernel_rfl⟩
instance:rj Tryz.prog 55 1 1 none:=⟨by kernel_rfl⟩
instance:rj Tryz.prog 55 2 2 none:=⟨by kernel_rfl⟩
instance:rj Tryz.prog 55 3 3 none:=⟨by kernel_rfl⟩
instance:rj Tryz.prog 55 4 4 none:=⟨by kernel_rfl⟩
instance:rj Tryz.prog 55 5 5 none:=⟨by kernel_rfl⟩
instance:rj Tryz.prog 57 0 0 none:=⟨by kernel_rfl⟩
instance:rj Tryz.prog 57 1 1 none:=⟨by kernel_rfl⟩
instance:rj Tryz.prog 57 2 2 none:=⟨by kernel_rfl⟩
instance:rj Tryz.prog 57 3 3 (some 6):=⟨by kernel_rfl⟩
instance:rj Tryz.prog 62 0 0 none:=⟨by kernel_rfl⟩
instance:rj Tryz.prog 62 1 1 none:=⟨by kernel_rfl⟩
instance:rj Tryz.prog 62 2 2 none:=⟨by kernel_rfl⟩
instance:rj Tryz.prog 62 3 3 (some 6):=⟨by kernel_rfl⟩
instance:Bg Tryz.prog 101 13:=⟨uM⟩
instance:Bg Tryz.prog 172 5:=⟨Ef⟩
instance:Bg Tryz.prog 174 6:=⟨z9⟩
instance:Bg Tryz.prog 193 2:=⟨I3⟩
instance:Bg Tryz.prog 210 16:=⟨TA⟩
instance:Bg Tryz.prog 228 1:=⟨FH⟩
instance:Bg Tryz.prog 3 1:=⟨L3⟩
instance:Bg Tryz.prog 300 5:=⟨TW⟩
instance:Bg Tryz.prog 304 6:=⟨Tt⟩
instance:Bg Tryz.prog 311 13:=⟨Tn⟩
instance:Bg Tryz.prog 318 2:=⟨TX⟩
instance:Bg Tryz.prog 4 1:=⟨UY⟩
instance:Bg Tryz.prog 50 16:=⟨SN⟩
instance:Ca Tryz.prog 101:=⟨_,TT⟩
instance:Ca Tryz.prog 172:=⟨_,TB⟩
instance:Ca Tryz.prog 174:=⟨_,Th⟩
instance:Ca Tryz.prog 193:=⟨_,Tu⟩
instance:Ca Tryz.prog 228:=⟨_,To⟩
instance:Ca Tryz.prog 26:=⟨_,Uv⟩
instance:Ca Tryz.prog 28:=⟨_,UM⟩
instance:Ca Tryz.prog 32:=⟨_,UL⟩
instance:Ca Tryz.prog 39:=⟨_,UC⟩
instance:Ca Tryz.prog 43:=⟨_,UK⟩
instance:Ca Tryz.prog 45:=⟨_,UH⟩
instance:Ca Tryz.prog 48:=⟨_,Uz⟩
instance:Ca Tryz.prog 50:=⟨_,UT⟩
instance:Ca Tryz.prog 62:=⟨_,UR⟩
instance:wN Tryz.prog 22 (.slice 5):=⟨Tryz.underlying22⟩
instance:wN Tryz.prog 24 (.slice 50):=⟨Tryz.underlying24⟩
instance:wN Tryz.prog 37 (.slice 3):=⟨Tryz.underlying37⟩
instance:wN Tryz.prog 40 (.slice 172):=⟨Tryz.underlying40⟩
instance:wN Tryz.prog 41 (.slice 101):=⟨Tryz.underlying41⟩
instance:wN Tryz.prog 46 (.slice 174):=⟨Tryz.underlying46⟩
instance:wN Tryz.prog 52 (.slice 210):=⟨Tryz.underlying52⟩
instance:wN Tryz.prog 67 (.slice 144):=⟨Tryz.underlying67⟩
instance:wN Tryz.prog 68 (.slice 57):=⟨Tryz.underlying68⟩
instance:wN Tryz.prog 71 (.slice 32):=⟨Tryz.underlying71⟩
instance:wN Tryz.prog 74 (.slice 108):=⟨Tryz.underlying74⟩
instance:wN Tryz.prog 76 (.slice 62):=⟨Tryz.underlying76⟩
instance:wN Tryz.prog 95 (.slice 4):=⟨Tryz.underlying95⟩
instance:wN Tryz.prog 99 (.slice 193):=⟨Tryz.underlying99⟩
instance:wN Tryz.prog 130 (.slice 9):=⟨Tryz.underlying130⟩
instance:wN Tryz.prog 203 (.slice 300):=⟨Tryz.underlying203⟩
instance:wN Tryz.prog 204 (.slice 311):=⟨Tryz.underlying204⟩
instance:wN Tryz.prog 208 (.slice 304):=⟨Tryz.underlying208⟩
instance:wN Tryz.prog 226 (.slice 228):=⟨Tryz.underlying226⟩
instance:wN Tryz.prog 309 (.slice 318):=⟨Tryz.underlying309⟩
end Go.Kx
