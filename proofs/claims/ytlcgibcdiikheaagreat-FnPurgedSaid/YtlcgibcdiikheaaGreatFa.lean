import Derived.Test.YtlcgibcdiikheaaGreatProg
import Derived.Test.YtlcgibcdiikheaaGreatGt
import Derived.Test.YtlcgibcdiikheaaGreatDel
import Derived.Test.YtlcgibcdiikheaaGreatTap
namespace Go.Kx
open Go Go.RowKit Go.Proofs
set_option maxRecDepth 10000
set_option maxHeartbeats 8000000
set_option linter.unusedVariables false
set_option linter.unusedSimpArgs false
theorem vt:iY Tryz.prog 101=some (some 13):=by kernel_rfl
theorem DI:iY Tryz.prog 108=some (some 5):=by kernel_rfl
theorem FX:iY Tryz.prog 172=some (some 5):=by kernel_rfl
theorem DP:iY Tryz.prog 174=some (some 6):=by kernel_rfl
theorem F7:iY Tryz.prog 193=some (some 2):=by kernel_rfl
theorem GG:iY Tryz.prog 22=some none:=by kernel_rfl
theorem GM:iY Tryz.prog 24=some none:=by kernel_rfl
theorem pc:iY Tryz.prog 26=some (some 2):=by kernel_rfl
theorem Df:iY Tryz.prog 28=some (some 6):=by kernel_rfl
theorem lA:iY Tryz.prog 3=some none:=by kernel_rfl
theorem ka:iY Tryz.prog 32=some (some 2):=by kernel_rfl
theorem yF:iY Tryz.prog 37=some none:=by kernel_rfl
theorem pS:iY Tryz.prog 39=some (some 1):=by kernel_rfl
theorem FT:iY Tryz.prog 4=some none:=by kernel_rfl
theorem wO:iY Tryz.prog 40=some none:=by kernel_rfl
theorem wG:iY Tryz.prog 41=some none:=by kernel_rfl
theorem GZ:iY Tryz.prog 43=some (some 4):=by kernel_rfl
theorem GI:iY Tryz.prog 45=some (some 5):=by kernel_rfl
theorem wK:iY Tryz.prog 46=some none:=by kernel_rfl
theorem Av:iY Tryz.prog 48=some (some 3):=by kernel_rfl
theorem Hx:iY Tryz.prog 5=some none:=by kernel_rfl
theorem kF:iY Tryz.prog 50=some (some 16):=by kernel_rfl
theorem vf:iY Tryz.prog 62=some (some 9):=by kernel_rfl
theorem tZ:iY Tryz.prog 99=some none:=by kernel_rfl
theorem F6:Program.eqGuardType Tryz.prog Tryz.prog.depth 172=false:=by kernel_rfl
theorem Hf:Program.eqGuardType Tryz.prog Tryz.prog.depth 62=false:=by kernel_rfl
theorem Gr:∀ (a b:gW) (w:World),(Op.equalIn 10000 172 (.agg #[.bool a.HN,.int .i64 a.HO,.int .i64 a.iB.gE,.int .i64 a.iB.gV,.int .i64 a.iB.hY]) (.agg #[.bool b.HN,.int .i64 b.HO,.int .i64 b.iB.gE,.int .i64 b.iB.gV,.int .i64 b.iB.hY])).run Tryz.prog w=.ok (decide (a=b)) w:=fun a b w=>lU.top (n:=2) (lU.agg (n:=1) Tryz.underlying172 (by kernel_rfl) (mi.one rfl FT rfl rfl (lU.bool Tryz.underlying4) (mi.one rfl lA rfl rfl (lU.int Tryz.underlying3) (mi.more rfl Av (lU.agg (n:=0) Tryz.underlying48 (by kernel_rfl) (mi.one rfl lA rfl rfl (lU.int Tryz.underlying3) (mi.one rfl lA rfl rfl (lU.int Tryz.underlying3) (mi.one rfl lA rfl rfl (lU.int Tryz.underlying3) mi.nil)))) mi.nil)))) (by decide) (by
  obtain ⟨x0,x1,⟨x2,x3,x4⟩⟩:=a;obtain ⟨y0,y1,⟨y2,y3,y4⟩⟩:=b
  simp [ig.mk.injEq,gW.mk.injEq,Bool.beq_eq_decide_eq,Bool.decide_and]) w
theorem GJ:∀ (a b:iq) (w:World),(Op.equalIn 10000 62 (.agg #[.int .i64 a.HA,.int .i64 a.HS,.int .i64 a.jC,.int .i64 a.call.HA,.int .i64 a.call.a,.int .i64 a.call.b,.int .i64 a.call.c,.int .i64 a.call.d,.int .i64 a.call.e]) (.agg #[.int .i64 b.HA,.int .i64 b.HS,.int .i64 b.jC,.int .i64 b.call.HA,.int .i64 b.call.a,.int .i64 b.call.b,.int .i64 b.call.c,.int .i64 b.call.d,.int .i64 b.call.e])).run Tryz.prog w=.ok (decide (a=b)) w:=fun a b w=>lU.top (n:=2) (lU.agg (n:=1) Tryz.underlying62 (by kernel_rfl) (mi.one rfl lA rfl rfl (lU.int Tryz.underlying3) (mi.one rfl lA rfl rfl (lU.int Tryz.underlying3) (mi.one rfl lA rfl rfl (lU.int Tryz.underlying3) (mi.more rfl Df (lU.agg (n:=0) Tryz.underlying28 (by kernel_rfl) (mi.one rfl lA rfl rfl (lU.int Tryz.underlying3) (mi.one rfl lA rfl rfl (lU.int Tryz.underlying3) (mi.one rfl lA rfl rfl (lU.int Tryz.underlying3) (mi.one rfl lA rfl rfl (lU.int Tryz.underlying3) (mi.one rfl lA rfl rfl (lU.int Tryz.underlying3) (mi.one rfl lA rfl rfl (lU.int Tryz.underlying3) mi.nil))))))) mi.nil))))) (by decide) (by
  obtain ⟨x0,x1,x2,⟨x3,x4,x5,x6,x7,x8⟩⟩:=a;obtain ⟨y0,y1,y2,⟨y3,y4,y5,y6,y7,y8⟩⟩:=b
  simp [il.mk.injEq,iq.mk.injEq,Bool.beq_eq_decide_eq,Bool.decide_and]) w
theorem Fg:fo Tryz.prog 50 2=some (2,none):=by kernel_rfl
theorem F5:lG Tryz.prog 226 iA:=lG.of (b:=24) (by kernel_rfl) rfl
theorem CN:lG Tryz.prog 24 bh:=lG.of (b:=224) (by kernel_rfl) rfl
theorem mX:lG Tryz.prog 37 Int:=lG.of (b:=8) (by kernel_rfl) rfl
theorem FG:lG Tryz.prog 40 gW:=lG.of (b:=40) (by kernel_rfl) rfl
theorem Fy:lG Tryz.prog 41 cd:=lG.of (b:=152) (by kernel_rfl) rfl
theorem sW:lG Tryz.prog 46 iS:=lG.of (b:=48) (by kernel_rfl) rfl
theorem EW:lG Tryz.prog 74 iu:=lG.of (b:=72) (by kernel_rfl) rfl
theorem A8:lG Tryz.prog 76 iq:=lG.of (b:=72) (by kernel_rfl) rfl
theorem Hc:lG Tryz.prog 95 Bool:=lG.of (b:=1) (by kernel_rfl) rfl
theorem sn:lG Tryz.prog 99 jg:=lG.of (b:=16) (by kernel_rfl) rfl
theorem FN:lG Tryz.prog 226 ku:=lG.of (b:=24) (by kernel_rfl) rfl
theorem AU:oG Tryz.prog 101=some 13:=by kernel_rfl
theorem Gn:oG Tryz.prog 108=some 5:=by kernel_rfl
theorem Dy:oG Tryz.prog 172=some 5:=by kernel_rfl
theorem A3:oG Tryz.prog 174=some 6:=by kernel_rfl
theorem DL:oG Tryz.prog 193=some 2:=by kernel_rfl
theorem AG:oG Tryz.prog 228=some 1:=by kernel_rfl
theorem DF:oG Tryz.prog 3=some 1:=by kernel_rfl
theorem Hp:oG Tryz.prog 4=some 1:=by kernel_rfl
theorem Hs:oG Tryz.prog 5=some 1:=by kernel_rfl
theorem GW:oG Tryz.prog 50=some 16:=by kernel_rfl
theorem GH:oG Tryz.prog 62=some 9:=by kernel_rfl
theorem FZ:zeroV Tryz.prog 101=some (.agg #[.int .i64 0,.int .i64 0,.int .i64 0,.int .i64 0,.int .i64 0,.int .i64 0,.int .i64 0,.int .i64 0,.int .i64 0,.bool false,.slice none 0 0,.slice none 0 0,.slice none 0 0]):=by kernel_rfl
theorem Gs:zeroV Tryz.prog 108=some (.agg #[.slice none 0 0,.slice none 0 0,.int .i64 0,.int .i64 0,.int .i64 0]):=by kernel_rfl
theorem Gd:zeroV Tryz.prog 174=some (.agg #[.int .i64 0,.int .i64 0,.int .i64 0,.int .i64 0,.int .i64 0,.int .i64 0]):=by kernel_rfl
theorem Gu:zeroV Tryz.prog 193=some (.agg #[.int .i64 0,.int .i64 0]):=by kernel_rfl
theorem Hb:zeroV Tryz.prog 26=some (.agg #[.int .i64 0,.slice none 0 0]):=by kernel_rfl
theorem GN:zeroV Tryz.prog 28=some (.agg #[.int .i64 0,.int .i64 0,.int .i64 0,.int .i64 0,.int .i64 0,.int .i64 0]):=by kernel_rfl
theorem GQ:zeroV Tryz.prog 32=some (.agg #[.int .i64 0,.int .i64 0]):=by kernel_rfl
theorem G6:zeroV Tryz.prog 39=some (.agg #[.slice none 0 0]):=by kernel_rfl
theorem G5:zeroV Tryz.prog 43=some (.agg #[.int .i64 0,.int .i64 0,.int .i64 0,.slice none 0 0]):=by kernel_rfl
theorem G8:zeroV Tryz.prog 45=some (.agg #[.slice none 0 0,.int .i64 0,.int .i64 0,.int .i64 0,.slice none 0 0]):=by kernel_rfl
theorem Ha:zeroV Tryz.prog 48=some (.agg #[.int .i64 0,.int .i64 0,.int .i64 0]):=by kernel_rfl
theorem G7:zeroV Tryz.prog 50=some (.agg #[.slice none 0 0,.slice none 0 0,.slice none 0 0,.slice none 0 0,.int .i64 0,.int .i64 0,.int .i64 0,.slice none 0 0,.slice none 0 0,.int .i64 0,.int .i64 0,.int .i64 0,.int .i64 0,.int .i64 0,.int .i64 0,.int .i64 0]):=by kernel_rfl
theorem GK:zeroV Tryz.prog 62=some (.agg #[.int .i64 0,.int .i64 0,.int .i64 0,.int .i64 0,.int .i64 0,.int .i64 0,.int .i64 0,.int .i64 0,.int .i64 0]):=by kernel_rfl
instance:j8 Tryz.prog 101 (some 13):=⟨vt⟩
instance:j8 Tryz.prog 108 (some 5):=⟨DI⟩
instance:j8 Tryz.prog 172 (some 5):=⟨FX⟩
instance:j8 Tryz.prog 174 (some 6):=⟨DP⟩
instance:j8 Tryz.prog 193 (some 2):=⟨F7⟩
instance:j8 Tryz.prog 22 none:=⟨GG⟩
instance:j8 Tryz.prog 24 none:=⟨GM⟩
instance:j8 Tryz.prog 26 (some 2):=⟨pc⟩
instance:j8 Tryz.prog 28 (some 6):=⟨Df⟩
instance:j8 Tryz.prog 3 none:=⟨lA⟩
instance:j8 Tryz.prog 32 (some 2):=⟨ka⟩
instance:j8 Tryz.prog 37 none:=⟨yF⟩
instance:j8 Tryz.prog 39 (some 1):=⟨pS⟩
instance:j8 Tryz.prog 4 none:=⟨FT⟩
instance:j8 Tryz.prog 40 none:=⟨wO⟩
instance:j8 Tryz.prog 41 none:=⟨wG⟩
instance:j8 Tryz.prog 43 (some 4):=⟨GZ⟩
instance:j8 Tryz.prog 45 (some 5):=⟨GI⟩
instance:j8 Tryz.prog 46 none:=⟨wK⟩
instance:j8 Tryz.prog 48 (some 3):=⟨Av⟩
instance:j8 Tryz.prog 5 none:=⟨Hx⟩
instance:j8 Tryz.prog 50 (some 16):=⟨kF⟩
instance:j8 Tryz.prog 62 (some 9):=⟨vf⟩
instance:j8 Tryz.prog 99 none:=⟨tZ⟩
instance:jo Tryz.prog 101 0 0 none:=⟨by kernel_rfl⟩
instance:jo Tryz.prog 101 1 1 none:=⟨by kernel_rfl⟩
instance:jo Tryz.prog 101 10 10 none:=⟨by kernel_rfl⟩
instance:jo Tryz.prog 101 11 11 none:=⟨by kernel_rfl⟩
instance:jo Tryz.prog 101 12 12 none:=⟨by kernel_rfl⟩
instance:jo Tryz.prog 101 2 2 none:=⟨by kernel_rfl⟩
instance:jo Tryz.prog 101 3 3 none:=⟨by kernel_rfl⟩
instance:jo Tryz.prog 101 4 4 none:=⟨by kernel_rfl⟩
instance:jo Tryz.prog 101 5 5 none:=⟨by kernel_rfl⟩
instance:jo Tryz.prog 101 6 6 none:=⟨by kernel_rfl⟩
instance:jo Tryz.prog 101 7 7 none:=⟨by kernel_rfl⟩
instance:jo Tryz.prog 101 8 8 none:=⟨by kernel_rfl⟩
instance:jo Tryz.prog 101 9 9 none:=⟨by kernel_rfl⟩
instance:jo Tryz.prog 108 0 0 (some 1):=⟨by kernel_rfl⟩
instance:jo Tryz.prog 108 1 1 none:=⟨by kernel_rfl⟩
instance:jo Tryz.prog 108 2 2 (some 3):=⟨by kernel_rfl⟩
instance:jo Tryz.prog 172 0 0 none:=⟨by kernel_rfl⟩
instance:jo Tryz.prog 172 1 1 none:=⟨by kernel_rfl⟩
instance:jo Tryz.prog 172 2 2 (some 3):=⟨by kernel_rfl⟩
instance:jo Tryz.prog 174 0 0 none:=⟨by kernel_rfl⟩
instance:jo Tryz.prog 174 1 1 none:=⟨by kernel_rfl⟩
instance:jo Tryz.prog 174 2 2 none:=⟨by kernel_rfl⟩
instance:jo Tryz.prog 174 3 3 none:=⟨by kernel_rfl⟩
instance:jo Tryz.prog 174 4 4 none:=⟨by kernel_rfl⟩
instance:jo Tryz.prog 174 5 5 none:=⟨by kernel_rfl⟩
instance:jo Tryz.prog 177 0 0 none:=⟨by kernel_rfl⟩
instance:jo Tryz.prog 177 1 1 none:=⟨by kernel_rfl⟩
instance:jo Tryz.prog 177 2 2 none:=⟨by kernel_rfl⟩
instance:jo Tryz.prog 193 0 0 none:=⟨by kernel_rfl⟩
instance:jo Tryz.prog 193 1 1 none:=⟨by kernel_rfl⟩
instance:jo Tryz.prog 228 0 0 none:=⟨by kernel_rfl⟩
instance:jo Tryz.prog 26 0 0 none:=⟨by kernel_rfl⟩
instance:jo Tryz.prog 26 1 1 none:=⟨by kernel_rfl⟩
instance:jo Tryz.prog 28 0 0 none:=⟨by kernel_rfl⟩
instance:jo Tryz.prog 28 1 1 none:=⟨by kernel_rfl⟩
instance:jo Tryz.prog 28 2 2 none:=⟨by kernel_rfl⟩
instance:jo Tryz.prog 28 3 3 none:=⟨by kernel_rfl⟩
instance:jo Tryz.prog 28 4 4 none:=⟨by kernel_rfl⟩
instance:jo Tryz.prog 28 5 5 none:=⟨by kernel_rfl⟩
instance:jo Tryz.prog 39 0 0 none:=⟨by kernel_rfl⟩
instance:jo Tryz.prog 43 0 0 none:=⟨by kernel_rfl⟩
instance:jo Tryz.prog 43 1 1 none:=⟨by kernel_rfl⟩
instance:jo Tryz.prog 43 2 2 none:=⟨by kernel_rfl⟩
instance:jo Tryz.prog 43 3 3 none:=⟨by kernel_rfl⟩
instance:jo Tryz.prog 45 0 0 none:=⟨by kernel_rfl⟩
instance:jo Tryz.prog 45 1 1 (some 4):=⟨by kernel_rfl⟩
instance:jo Tryz.prog 48 0 0 none:=⟨by kernel_rfl⟩
instance:jo Tryz.prog 48 1 1 none:=⟨by kernel_rfl⟩
instance:jo Tryz.prog 48 2 2 none:=⟨by kernel_rfl⟩
instance:jo Tryz.prog 50 0 0 (some 1):=⟨by kernel_rfl⟩
instance:jo Tryz.prog 50 1 1 none:=⟨by kernel_rfl⟩
instance:jo Tryz.prog 50 2 2 none:=⟨by kernel_rfl⟩
instance:jo Tryz.prog 50 3 3 (some 5):=⟨by kernel_rfl⟩
instance:jo Tryz.prog 50 4 8 none:=⟨by kernel_rfl⟩
instance:jo Tryz.prog 50 5 9 none:=⟨by kernel_rfl⟩
instance:jo Tryz.prog 50 6 10 none:=⟨by kernel_rfl⟩
instance:jo Tryz.prog 50 7 11 (some 3):=⟨by kernel_rfl⟩
instance:jo Tryz.prog 50 8 14 none:=⟨by kernel_rfl⟩
instance:jo Tryz.prog 50 9 15 none:=⟨by kernel_rfl⟩
instance:jo Tryz.prog 62 0 0 none:=⟨by kernel_rfl⟩
instance:jo Tryz.prog 62 1 1 none:=⟨by kernel_rfl⟩
instance:jo Tryz.prog 62 2 2 none:=⟨by kernel_rfl⟩
instance:jo Tryz.prog 62 3 3 (some 6):=⟨by kernel_rfl⟩
instance:qJ Tryz.prog 101 13:=⟨AU⟩
instance:qJ Tryz.prog 108 5:=⟨Gn⟩
instance:qJ Tryz.prog 172 5:=⟨Dy⟩
instance:qJ Tryz.prog 174 6:=⟨A3⟩
instance:qJ Tryz.prog 193 2:=⟨DL⟩
instance:qJ Tryz.prog 228 1:=⟨AG⟩
instance:qJ Tryz.prog 3 1:=⟨DF⟩
instance:qJ Tryz.prog 4 1:=⟨Hp⟩
instance:qJ Tryz.prog 5 1:=⟨Hs⟩
instance:qJ Tryz.prog 50 16:=⟨GW⟩
instance:qJ Tryz.prog 62 9:=⟨GH⟩
instance:rq Tryz.prog 101:=⟨_,FZ⟩
instance:rq Tryz.prog 108:=⟨_,Gs⟩
instance:rq Tryz.prog 174:=⟨_,Gd⟩
instance:rq Tryz.prog 193:=⟨_,Gu⟩
instance:rq Tryz.prog 26:=⟨_,Hb⟩
instance:rq Tryz.prog 28:=⟨_,GN⟩
instance:rq Tryz.prog 32:=⟨_,GQ⟩
instance:rq Tryz.prog 39:=⟨_,G6⟩
instance:rq Tryz.prog 43:=⟨_,G5⟩
instance:rq Tryz.prog 45:=⟨_,G8⟩
instance:rq Tryz.prog 48:=⟨_,Ha⟩
instance:rq Tryz.prog 50:=⟨_,G7⟩
instance:rq Tryz.prog 62:=⟨_,GK⟩
instance:mb Tryz.prog 22 (.slice 5):=⟨Tryz.underlying22⟩
instance:mb Tryz.prog 24 (.slice 50):=⟨Tryz.underlying24⟩
instance:mb Tryz.prog 37 (.slice 3):=⟨Tryz.underlying37⟩
instance:mb Tryz.prog 40 (.slice 172):=⟨Tryz.underlying40⟩
instance:mb Tryz.prog 41 (.slice 101):=⟨Tryz.underlying41⟩
instance:mb Tryz.prog 46 (.slice 174):=⟨Tryz.underlying46⟩
instance:mb Tryz.prog 52 (.slice 210):=⟨Tryz.underlying52⟩
instance:mb Tryz.prog 67 (.slice 144):=⟨Tryz.underlying67⟩
instance:mb Tryz.prog 68 (.slice 57):=⟨Tryz.underlying68⟩
instance:mb Tryz.prog 71 (.slice 32):=⟨Tryz.underlying71⟩
instance:mb Tryz.prog 74 (.slice 108):=⟨Tryz.underlying74⟩
instance:mb Tryz.prog 76 (.slice 62):=⟨Tryz.underlying76⟩
instance:mb Tryz.prog 95 (.slice 4):=⟨Tryz.underlying95⟩
instance:mb Tryz.prog 99 (.slice 193):=⟨Tryz.underlying99⟩
instance:mb Tryz.prog 130 (.slice 9):=⟨Tryz.underlying130⟩
instance:mb Tryz.prog 203 (.slice 300):=⟨Tryz.underlying203⟩
instance:mb Tryz.prog 204 (.slice 311):=⟨Tryz.underlying204⟩
instance:mb Tryz.prog 208 (.slice 304):=⟨Tryz.underlying208⟩
instance:mb Tryz.prog 226 (.slice 228):=⟨Tryz.underlying226⟩
instance:mb Tryz.prog 309 (.slice 318):=⟨Tryz.underlying309⟩
end Go.Kx
