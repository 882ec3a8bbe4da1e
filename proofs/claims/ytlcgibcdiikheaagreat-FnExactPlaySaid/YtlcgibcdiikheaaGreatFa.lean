import Derived.Test.YtlcgibcdiikheaaGreatProg
import Derived.Test.YtlcgibcdiikheaaGreatGo
namespace Go.Kx
open Go Go.RowKit Go.Proofs
set_option maxRecDepth 10000
set_option maxHeartbeats 8000000
set_option linter.unusedVariables false
set_option linter.unusedSimpArgs false
theorem uK:jx Tryz.prog 101=some (some 13):=by kernel_rfl
theorem K9:jx Tryz.prog 108=some (some 5):=by kernel_rfl
theorem Ob:jx Tryz.prog 141=some (some 1):=by kernel_rfl
theorem Oc:jx Tryz.prog 142=some (some 3):=by kernel_rfl
theorem Oa:jx Tryz.prog 144=some (some 5):=by kernel_rfl
theorem NT:jx Tryz.prog 172=some (some 5):=by kernel_rfl
theorem K5:jx Tryz.prog 174=some (some 6):=by kernel_rfl
theorem K4:jx Tryz.prog 193=some (some 2):=by kernel_rfl
theorem Oj:jx Tryz.prog 228=some (some 1):=by kernel_rfl
theorem OD:jx Tryz.prog 24=some none:=by kernel_rfl
theorem pN:jx Tryz.prog 26=some (some 2):=by kernel_rfl
theorem OW:jx Tryz.prog 28=some (some 6):=by kernel_rfl
theorem ki:jx Tryz.prog 3=some none:=by kernel_rfl
theorem k9:jx Tryz.prog 32=some (some 2):=by kernel_rfl
theorem uF:jx Tryz.prog 37=some none:=by kernel_rfl
theorem D4:jx Tryz.prog 39=some (some 1):=by kernel_rfl
theorem Lm:jx Tryz.prog 4=some none:=by kernel_rfl
theorem xn:jx Tryz.prog 40=some none:=by kernel_rfl
theorem xS:jx Tryz.prog 41=some none:=by kernel_rfl
theorem OQ:jx Tryz.prog 43=some (some 4):=by kernel_rfl
theorem OP:jx Tryz.prog 45=some (some 5):=by kernel_rfl
theorem yf:jx Tryz.prog 46=some none:=by kernel_rfl
theorem J9:jx Tryz.prog 48=some (some 3):=by kernel_rfl
theorem kU:jx Tryz.prog 50=some (some 16):=by kernel_rfl
theorem OM:jx Tryz.prog 55=some (some 6):=by kernel_rfl
theorem OS:jx Tryz.prog 57=some (some 9):=by kernel_rfl
theorem O0:jx Tryz.prog 62=some (some 9):=by kernel_rfl
theorem qJ:jx Tryz.prog 99=some none:=by kernel_rfl
theorem Lj:Program.eqGuardType Tryz.prog Tryz.prog.depth 172=false:=by kernel_rfl
theorem NS:Program.eqGuardType Tryz.prog Tryz.prog.depth 193=false:=by kernel_rfl
theorem Lp:∀ (a b:g6) (w:World),(Op.equalIn 10000 172 (.agg #[.bool a.Px,.int .i64 a.Pv,.int .i64 a.iH.gE,.int .i64 a.iH.gX,.int .i64 a.iH.g8]) (.agg #[.bool b.Px,.int .i64 b.Pv,.int .i64 b.iH.gE,.int .i64 b.iH.gX,.int .i64 b.iH.g8])).run Tryz.prog w=.ok (decide (a=b)) w:=fun a b w=>sh.top (n:=2) (sh.agg (n:=1) Tryz.underlying172 (by kernel_rfl) (tL.one rfl Lm rfl rfl (sh.bool Tryz.underlying4) (tL.one rfl ki rfl rfl (sh.int Tryz.underlying3) (tL.more rfl J9 (sh.agg (n:=0) Tryz.underlying48 (by kernel_rfl) (tL.one rfl ki rfl rfl (sh.int Tryz.underlying3) (tL.one rfl ki rfl rfl (sh.int Tryz.underlying3) (tL.one rfl ki rfl rfl (sh.int Tryz.underlying3) tL.nil)))) tL.nil)))) (by decide) (by
  obtain ⟨x0,x1,⟨x2,x3,x4⟩⟩:=a;obtain ⟨y0,y1,⟨y2,y3,y4⟩⟩:=b
  simp [hO.mk.injEq,g6.mk.injEq,Bool.beq_eq_decide_eq,Bool.decide_and]) w
theorem N7:∀ (a b:iM) (w:World),(Op.equalIn 10000 193 (.agg #[.int .i64 a.PA,.int .i64 a.n]) (.agg #[.int .i64 b.PA,.int .i64 b.n])).run Tryz.prog w=.ok (decide (a=b)) w:=fun a b w=>sh.top (n:=1) (sh.agg (n:=0) Tryz.underlying193 (by kernel_rfl) (tL.one rfl ki rfl rfl (sh.int Tryz.underlying3) (tL.one rfl ki rfl rfl (sh.int Tryz.underlying3) tL.nil))) (by decide) (by
  obtain ⟨x0,x1⟩:=a;obtain ⟨y0,y1⟩:=b
  simp [iM.mk.injEq,Bool.beq_eq_decide_eq,Bool.decide_and]) w
theorem Ev:fo Tryz.prog 101 10=some (10,none):=by kernel_rfl
theorem L0:fo Tryz.prog 101 3=some (3,none):=by kernel_rfl
theorem L5:fo Tryz.prog 101 5=some (5,none):=by kernel_rfl
theorem Mn:fo Tryz.prog 188 0=some (0,some 16):=by kernel_rfl
theorem MZ:fo Tryz.prog 28 2=some (2,none):=by kernel_rfl
theorem Ew:fo Tryz.prog 48 2=some (2,none):=by kernel_rfl
theorem ML:fo Tryz.prog 50 0=some (0,some 1):=by kernel_rfl
theorem Nt:fo Tryz.prog 50 2=some (2,none):=by kernel_rfl
theorem NV:uG Tryz.prog 224=true:=by kernel_rfl
theorem Lf:lY Tryz.prog 226 iC:=lY.of (b:=24) (by kernel_rfl) rfl
theorem BI:lY Tryz.prog 24 bh:=lY.of (b:=224) (by kernel_rfl) rfl
theorem pI:lY Tryz.prog 37 Int:=lY.of (b:=8) (by kernel_rfl) rfl
theorem GX:lY Tryz.prog 40 g6:=lY.of (b:=40) (by kernel_rfl) rfl
theorem GZ:lY Tryz.prog 41 gP:=lY.of (b:=152) (by kernel_rfl) rfl
theorem uJ:lY Tryz.prog 46 iB:=lY.of (b:=48) (by kernel_rfl) rfl
theorem MM:lY Tryz.prog 71 hX:=lY.of (b:=16) (by kernel_rfl) rfl
theorem Oy:lY Tryz.prog 74 iO:=lY.of (b:=72) (by kernel_rfl) rfl
theorem OF:lY Tryz.prog 76 iK:=lY.of (b:=72) (by kernel_rfl) rfl
theorem MN:lY Tryz.prog 95 Bool:=lY.of (b:=1) (by kernel_rfl) rfl
theorem si:lY Tryz.prog 99 iM:=lY.of (b:=16) (by kernel_rfl) rfl
theorem Oe:lY Tryz.prog 41 pP:=lY.of (b:=152) (by kernel_rfl) rfl
theorem Ir:lY Tryz.prog 226 jM:=lY.of (b:=24) (by kernel_rfl) rfl
theorem mh:nQ Tryz.prog 101=some 13:=by kernel_rfl
theorem NY:nQ Tryz.prog 108=some 5:=by kernel_rfl
theorem N2:nQ Tryz.prog 144=some 5:=by kernel_rfl
theorem yb:nQ Tryz.prog 172=some 5:=by kernel_rfl
theorem sY:nQ Tryz.prog 174=some 6:=by kernel_rfl
theorem Dg:nQ Tryz.prog 193=some 2:=by kernel_rfl
theorem zx:nQ Tryz.prog 228=some 1:=by kernel_rfl
theorem GP:nQ Tryz.prog 3=some 1:=by kernel_rfl
theorem Nz:nQ Tryz.prog 32=some 2:=by kernel_rfl
theorem O1:nQ Tryz.prog 4=some 1:=by kernel_rfl
theorem NF:nQ Tryz.prog 50=some 16:=by kernel_rfl
theorem OV:nQ Tryz.prog 57=some 9:=by kernel_rfl
theorem yh:nQ Tryz.prog 62=some 9:=by kernel_rfl
theorem NL:zeroV Tryz.prog 101=some (.agg #[.int .i64 0,.int .i64 0,.int .i64 0,.int .i64 0,.int .i64 0,.int .i64 0,.int .i64 0,.int .i64 0,.int .i64 0,.bool false,.slice none 0 0,.slice none 0 0,.slice none 0 0]):=by kernel_rfl
theorem NX:zeroV Tryz.prog 108=some (.agg #[.slice none 0 0,.slice none 0 0,.int .i64 0,.int .i64 0,.int .i64 0]):=by kernel_rfl
theorem NO:zeroV Tryz.prog 172=some (.agg #[.bool false,.int .i64 0,.int .i64 0,.int .i64 0,.int .i64 0]):=by kernel_rfl
theorem N1:zeroV Tryz.prog 174=some (.agg #[.int .i64 0,.int .i64 0,.int .i64 0,.int .i64 0,.int .i64 0,.int .i64 0]):=by kernel_rfl
theorem N4:zeroV Tryz.prog 193=some (.agg #[.int .i64 0,.int .i64 0]):=by kernel_rfl
theorem Oh:zeroV Tryz.prog 228=some (.agg #[.slice none 0 0]):=by kernel_rfl
theorem OZ:zeroV Tryz.prog 26=some (.agg #[.int .i64 0,.slice none 0 0]):=by kernel_rfl
theorem OJ:zeroV Tryz.prog 28=some (.agg #[.int .i64 0,.int .i64 0,.int .i64 0,.int .i64 0,.int .i64 0,.int .i64 0]):=by kernel_rfl
theorem Ox:zeroV Tryz.prog 32=some (.agg #[.int .i64 0,.int .i64 0]):=by kernel_rfl
theorem OT:zeroV Tryz.prog 39=some (.agg #[.slice none 0 0]):=by kernel_rfl
theorem OG:zeroV Tryz.prog 43=some (.agg #[.int .i64 0,.int .i64 0,.int .i64 0,.slice none 0 0]):=by kernel_rfl
theorem OE:zeroV Tryz.prog 45=some (.agg #[.slice none 0 0,.int .i64 0,.int .i64 0,.int .i64 0,.slice none 0 0]):=by kernel_rfl
theorem ON:zeroV Tryz.prog 48=some (.agg #[.int .i64 0,.int .i64 0,.int .i64 0]):=by kernel_rfl
theorem OX:zeroV Tryz.prog 50=some (.agg #[.slice none 0 0,.slice none 0 0,.slice none 0 0,.slice none 0 0,.int .i64 0,.int .i64 0,.int .i64 0,.slice none 0 0,.slice none 0 0,.int .i64 0,.int .i64 0,.int .i64 0,.int .i64 0,.int .i64 0,.int .i64 0,.int .i64 0]):=by kernel_rfl
theorem Ow:zeroV Tryz.prog 62=some (.agg #[.int .i64 0,.int .i64 0,.int .i64 0,.int .i64 0,.int .i64 0,.int .i64 0,.int .i64 0,.int .i64 0,.int .i64 0]):=by kernel_rfl
instance:kS Tryz.prog 101 (some 13):=⟨uK⟩
instance:kS Tryz.prog 108 (some 5):=⟨K9⟩
instance:kS Tryz.prog 141 (some 1):=⟨Ob⟩
instance:kS Tryz.prog 142 (some 3):=⟨Oc⟩
instance:kS Tryz.prog 144 (some 5):=⟨Oa⟩
instance:kS Tryz.prog 172 (some 5):=⟨NT⟩
instance:kS Tryz.prog 174 (some 6):=⟨K5⟩
instance:kS Tryz.prog 193 (some 2):=⟨K4⟩
instance:kS Tryz.prog 228 (some 1):=⟨Oj⟩
instance:kS Tryz.prog 24 none:=⟨OD⟩
instance:kS Tryz.prog 26 (some 2):=⟨pN⟩
instance:kS Tryz.prog 28 (some 6):=⟨OW⟩
instance:kS Tryz.prog 3 none:=⟨ki⟩
instance:kS Tryz.prog 32 (some 2):=⟨k9⟩
instance:kS Tryz.prog 37 none:=⟨uF⟩
instance:kS Tryz.prog 39 (some 1):=⟨D4⟩
instance:kS Tryz.prog 4 none:=⟨Lm⟩
instance:kS Tryz.prog 40 none:=⟨xn⟩
instance:kS Tryz.prog 41 none:=⟨xS⟩
instance:kS Tryz.prog 43 (some 4):=⟨OQ⟩
instance:kS Tryz.prog 45 (some 5):=⟨OP⟩
instance:kS Tryz.prog 46 none:=⟨yf⟩
instance:kS Tryz.prog 48 (some 3):=⟨J9⟩
instance:kS Tryz.prog 50 (some 16):=⟨kU⟩
instance:kS Tryz.prog 55 (some 6):=⟨OM⟩
instance:kS Tryz.prog 57 (some 9):=⟨OS⟩
instance:kS Tryz.prog 62 (some 9):=⟨O0⟩
instance:kS Tryz.prog 99 none:=⟨qJ⟩
instance:jB Tryz.prog 101 0 0 none:=⟨by kernel_rfl⟩
instance:jB Tryz.prog 101 1 1 none:=⟨by kernel_rfl⟩
instance:jB Tryz.prog 101 10 10 none:=⟨by kernel_rfl⟩
instance:jB Tryz.prog 101 11 11 none:=⟨by kernel_rfl⟩
instance:jB Tryz.prog 101 12 12 none:=⟨by kernel_rfl⟩
instance:jB Tryz.prog 101 2 2 none:=⟨by kernel_rfl⟩
instance:jB Tryz.prog 101 3 3 none:=⟨by kernel_rfl⟩
instance:jB Tryz.prog 101 4 4 none:=⟨by kernel_rfl⟩
instance:jB Tryz.prog 101 5 5 none:=⟨by kernel_rfl⟩
instance:jB Tryz.prog 101 6 6 none:=⟨by kernel_rfl⟩
instance:jB Tryz.prog 101 7 7 none:=⟨by kernel_rfl⟩
instance:jB Tryz.prog 101 8 8 none:=⟨by kernel_rfl⟩
instance:jB Tryz.prog 101 9 9 none:=⟨by kernel_rfl⟩
instance:jB Tryz.prog 108 0 0 (some 1):=⟨by kernel_rfl⟩
instance:jB Tryz.prog 108 1 1 none:=⟨by kernel_rfl⟩
instance:jB Tryz.prog 108 2 2 (some 3):=⟨by kernel_rfl⟩
instance:jB Tryz.prog 141 0 0 none:=⟨by kernel_rfl⟩
instance:jB Tryz.prog 142 0 0 none:=⟨by kernel_rfl⟩
instance:jB Tryz.prog 142 1 1 none:=⟨by kernel_rfl⟩
instance:jB Tryz.prog 142 2 2 none:=⟨by kernel_rfl⟩
instance:jB Tryz.prog 144 0 0 (some 1):=⟨by kernel_rfl⟩
instance:jB Tryz.prog 144 1 1 none:=⟨by kernel_rfl⟩
instance:jB Tryz.prog 144 2 2 (some 3):=⟨by kernel_rfl⟩
instance:jB Tryz.prog 172 0 0 none:=⟨by kernel_rfl⟩
instance:jB Tryz.prog 172 1 1 none:=⟨by kernel_rfl⟩
instance:jB Tryz.prog 172 2 2 (some 3):=⟨by kernel_rfl⟩
instance:jB Tryz.prog 174 0 0 none:=⟨by kernel_rfl⟩
instance:jB Tryz.prog 174 1 1 none:=⟨by kernel_rfl⟩
instance:jB Tryz.prog 174 2 2 none:=⟨by kernel_rfl⟩
instance:jB Tryz.prog 174 3 3 none:=⟨by kernel_rfl⟩
instance:jB Tryz.prog 174 4 4 none:=⟨by kernel_rfl⟩
instance:jB Tryz.prog 174 5 5 none:=⟨by kernel_rfl⟩
instance:jB Tryz.prog 188 0 0 (some 16):=⟨by kernel_rfl⟩
instance:jB Tryz.prog 188 1 16 none:=⟨by kernel_rfl⟩
instance:jB Tryz.prog 188 2 17 none:=⟨by kernel_rfl⟩
instance:jB Tryz.prog 188 3 18 none:=⟨by kernel_rfl⟩
instance:jB Tryz.prog 193 0 0 none:=⟨by kernel_rfl⟩
instance:jB Tryz.prog 193 1 1 none:=⟨by kernel_rfl⟩
instance:jB Tryz.prog 228 0 0 none:=⟨by kernel_rfl⟩
instance:jB Tryz.prog 26 0 0 none:=⟨by kernel_rfl⟩
instance:jB Tryz.prog 26 1 1 none:=⟨by kernel_rfl⟩
instance:jB Tryz.prog 28 0 0 none:=⟨by kernel_rfl⟩
instance:jB Tryz.prog 28 1 1 none:=⟨by kernel_rfl⟩
instance:jB Tryz.prog 28 2 2 none:=⟨by kernel_rfl⟩
instance:jB Tryz.prog 28 3 3 none:=⟨by kernel_rfl⟩
instance:jB Tryz.prog 28 4 4 none:=⟨by kernel_rfl⟩
instance:jB Tryz.prog 28 5 5 none:=⟨by kernel_rfl⟩
instance:jB Tryz.prog 32 0 0 none:=⟨by kernel_rfl⟩
instance:jB Tryz.prog 32 1 1 none:=⟨by kernel_rfl⟩
instance:jB Tryz.prog 39 0 0 none:=⟨by kernel_rfl⟩
instance:jB Tryz.prog 43 0 0 none:=⟨by kernel_rfl⟩
instance:jB Tryz.prog 43 1 1 none:=⟨by kernel_rfl⟩
instance:jB Tryz.prog 43 2 2 none:=⟨by kernel_rfl⟩
instance:jB Tryz.prog 43 3 3 none:=⟨by kernel_rfl⟩
instance:jB Tryz.prog 45 0 0 none:=⟨by kernel_rfl⟩
instance:jB Tryz.prog 45 1 1 (some 4):=⟨by kernel_rfl⟩
instance:jB Tryz.prog 48 0 0 none:=⟨by kernel_rfl⟩
instance:jB Tryz.prog 48 1 1 none:=⟨by kernel_rfl⟩
instance:jB Tryz.prog 48 2 2 none:=⟨by kernel_rfl⟩
instance:jB Tryz.prog 50 0 0 (some 1):=⟨by kernel_rfl⟩
instance:jB Tryz.prog 50 1 1 none:=⟨by kernel_rfl⟩
instance:jB Tryz.prog 50 2 2 none:=⟨by kernel_rfl⟩
instance:jB Tryz.prog 50 3 3 (some 5):=⟨by kernel_rfl⟩
instance:jB Tryz.prog 50 4 8 none:=⟨by kernel_rfl⟩
instance:jB Tryz.prog 50 5 9 none:=⟨by kernel_rfl⟩
instance:jB Tryz.prog 50 6 10 none:=⟨by kernel_rfl⟩
instance:jB Tryz.prog 50 7 11 (some 3):=⟨by kernel_rfl⟩
instance:jB Tryz.prog 50 8 14 none:=⟨by kernel_rfl⟩
instance:jB Tryz.prog 50 9 15 none:=⟨by kernel_rfl⟩
instance:jB Tryz.prog 55 0 0 none:=⟨by kernel_rfl⟩
instance:jB Tryz.prog 55 1 1 none:=⟨by kernel_rfl⟩
instance:jB Tryz.prog 55 2 2 none:=⟨by kernel_rfl⟩
instance:jB Tryz.prog 55 3 3 none:=⟨by kernel_rfl⟩
instance:jB Tryz.prog 55 4 4 none:=⟨by kernel_rfl⟩
instance:jB Tryz.prog 55 5 5 none:=⟨by kernel_rfl⟩
instance:jB Tryz.prog 57 0 0 none:=⟨by kernel_rfl⟩
instance:jB Tryz.prog 57 1 1 none:=⟨by kernel_rfl⟩
instance:jB Tryz.prog 57 2 2 none:=⟨by kernel_rfl⟩
instance:jB Tryz.prog 57 3 3 (some 6):=⟨by kernel_rfl⟩
instance:jB Tryz.prog 62 0 0 none:=⟨by kernel_rfl⟩
instance:jB Tryz.prog 62 1 1 none:=⟨by kernel_rfl⟩
instance:jB Tryz.prog 62 2 2 none:=⟨by kernel_rfl⟩
instance:jB Tryz.prog 62 3 3 (some 6):=⟨by kernel_rfl⟩
instance:uu Tryz.prog 101 13:=⟨mh⟩
instance:uu Tryz.prog 108 5:=⟨NY⟩
instance:uu Tryz.prog 144 5:=⟨N2⟩
instance:uu Tryz.prog 172 5:=⟨yb⟩
instance:uu Tryz.prog 174 6:=⟨sY⟩
instance:uu Tryz.prog 193 2:=⟨Dg⟩
instance:uu Tryz.prog 228 1:=⟨zx⟩
instance:uu Tryz.prog 3 1:=⟨GP⟩
instance:uu Tryz.prog 32 2:=⟨Nz⟩
instance:uu Tryz.prog 4 1:=⟨O1⟩
instance:uu Tryz.prog 50 16:=⟨NF⟩
instance:uu Tryz.prog 57 9:=⟨OV⟩
instance:uu Tryz.prog 62 9:=⟨yh⟩
instance:vd Tryz.prog 101:=⟨_,NL⟩
instance:vd Tryz.prog 108:=⟨_,NX⟩
instance:vd Tryz.prog 172:=⟨_,NO⟩
instance:vd Tryz.prog 174:=⟨_,N1⟩
instance:vd Tryz.prog 193:=⟨_,N4⟩
instance:vd Tryz.prog 228:=⟨_,Oh⟩
instance:vd Tryz.prog 26:=⟨_,OZ⟩
instance:vd Tryz.prog 28:=⟨_,OJ⟩
instance:vd Tryz.prog 32:=⟨_,Ox⟩
instance:vd Tryz.prog 39:=⟨_,OT⟩
instance:vd Tryz.prog 43:=⟨_,OG⟩
instance:vd Tryz.prog 45:=⟨_,OE⟩
instance:vd Tryz.prog 48:=⟨_,ON⟩
instance:vd Tryz.prog 50:=⟨_,OX⟩
instance:vd Tryz.prog 62:=⟨_,Ow⟩
instance:oF Tryz.prog 22 (.slice 5):=⟨Tryz.underlying22⟩
instance:oF Tryz.prog 24 (.slice 50):=⟨Tryz.underlying24⟩
instance:oF Tryz.prog 37 (.slice 3):=⟨Tryz.underlying37⟩
instance:oF Tryz.prog 40 (.slice 172):=⟨Tryz.underlying40⟩
instance:oF Tryz.prog 41 (.slice 101):=⟨Tryz.underlying41⟩
instance:oF Tryz.prog 46 (.slice 174):=⟨Tryz.underlying46⟩
instance:oF Tryz.prog 52 (.slice 210):=⟨Tryz.underlying52⟩
instance:oF Tryz.prog 67 (.slice 144):=⟨Tryz.underlying67⟩
instance:oF Tryz.prog 68 (.slice 57):=⟨Tryz.underlying68⟩
instance:oF Tryz.prog 71 (.slice 32):=⟨Tryz.underlying71⟩
instance:oF Tryz.prog 74 (.slice 108):=⟨Tryz.underlying74⟩
instance:oF Tryz.prog 76 (.slice 62):=⟨Tryz.underlying76⟩
instance:oF Tryz.prog 95 (.slice 4):=⟨Tryz.underlying95⟩
instance:oF Tryz.prog 99 (.slice 193):=⟨Tryz.underlying99⟩
instance:oF Tryz.prog 130 (.slice 9):=⟨Tryz.underlying130⟩
instance:oF Tryz.prog 203 (.slice 300):=⟨Tryz.underlying203⟩
instance:oF Tryz.prog 204 (.slice 311):=⟨Tryz.underlying204⟩
instance:oF Tryz.prog 208 (.slice 304):=⟨Tryz.underlying208⟩
instance:oF Tryz.prog 226 (.slice 228):=⟨Tryz.underlying226⟩
instance:oF Tryz.prog 309 (.slice 318):=⟨Tryz.underlying309⟩
end Go.Kx
