/- Each call returns what the plain function says. Printed by drive.py. -/
import Derived.Test.YtfllimolhpblnaaGreatFa
import Derived.Test.YtfllimolhpblnaaGreatPu
import Derived.Test.YtfllimolhpblnaaGreatWa4
import Derived.Test.YtfllimolhpblnaaGreatWa5
import Derived.Test.YtfllimolhpblnaaGreatWa6
import Derived.Test.YtfllimolhpblnaaGreatWa17
import Derived.Test.YtfllimolhpblnaaGreatWa22
namespace Go.Kx
open Go Go.RowKit Go.Proofs
set_option maxRecDepth 10000
set_option maxHeartbeats 2000000
set_option linter.unusedVariables false
set_option linter.unusedSimpArgs false
theorem W_l_FnExactPartKill {w0 : World} {N : Nat} {x0 : DPart} {x1 : Int} {r : Bool} (h : F_l_FnExactPartKill N x0 x1 = some r) {a0_0 : Option Addr} {n0_0 c0_0 : Nat} (hn0_0 : n0_0 = x0.label.levels.length) (hr0_0 : rdS (Bor w0 []) w0 a0_0 c0_0 x0.label.levels) {a0_1 : Option Addr} {n0_1 c0_1 : Nat} (hn0_1 : n0_1 = x0.own.length) (hr0_1 : rdS (Bor w0 []) w0 a0_1 c0_1 x0.own) {a0_2 : Option Addr} {n0_2 c0_2 : Nat} (hn0_2 : n0_2 = x0.tree.length) (hr0_2 : rdS (Bor w0 []) w0 a0_2 c0_2 x0.tree) {a0_3 : Option Addr} {n0_3 c0_3 : Nat} (hn0_3 : n0_3 = x0.heap.arena.length) (hr0_3 : rdS (Bor w0 []) w0 a0_3 c0_3 x0.heap.arena) {a0_7 : Option Addr} {n0_7 c0_7 : Nat} (hn0_7 : n0_7 = x0.heap.gc.grey.length) (hr0_7 : rdS (Bor w0 []) w0 a0_7 c0_7 x0.heap.gc.grey) {a0_8 : Option Addr} {n0_8 c0_8 : Nat} (hn0_8 : n0_8 = x0.taps.length) (hr0_8 : rdS (Bor w0 []) w0 a0_8 c0_8 x0.taps) :
    Ret Tryz.prog 6 #[.agg #[.slice a0_0 n0_0 c0_0, .slice a0_1 n0_1 c0_1, .slice a0_2 n0_2 c0_2, .slice a0_3 n0_3 c0_3, .int .i64 x0.heap.gc.phase, .int .i64 x0.heap.gc.pos, .int .i64 x0.heap.gc.round, .slice a0_7 n0_7 c0_7, .slice a0_8 n0_8 c0_8, .int .i64 x0.next, .int .i64 x0.want, .int .i64 x0.spent.pages, .int .i64 x0.spent.rent, .int .i64 x0.spent.cpu, .int .i64 x0.press, .int .i64 x0.lost], .int .i64 x1] w0 (fun v w => v = .bool r ∧ St w0 [] w []) := by
  subst hn0_0 hn0_1 hn0_2 hn0_3 hn0_7 hn0_8
  unfold F_l_FnExactPartKill at h
  refine Ret.fn Tryz.func6 fun e => ?_
  have hS1 := St.start w0
  refine go ?_
  refine LW.bo hS1 fun g1 w2 hS2 => ?_
  refine go ?_
  replace ⟨y3, hy3, h⟩ := obind h
  refine LW.c0 (W_l_szPart hy3 rfl (hS2.rB hr0_0) rfl (hS2.rB hr0_1) rfl (hS2.rB hr0_2) rfl (hS2.rB hr0_3) rfl (hS2.rB hr0_7) rfl (hS2.rB hr0_8)) hS2 fun w4 hS3 => ?_
  refine go ?_
  refine CW.cond rfl (fun hc5 => ?_) (fun hc5 => ?_)
  · replace h := bcT h hc5
    refine go ?_
    cases h
    exact And.intro trivial ⟨_, Res.one (resOne.t rfl), rfl, hS3.pick [] rfl rfl⟩
  replace h := bcF h hc5
  refine go ?_
  replace ⟨y6, hy6, h⟩ := obind h
  refine LW.cl (W_l_toPart hy6 rfl (hS3.rB hr0_0) rfl (hS3.rB hr0_1) rfl (hS3.rB hr0_2) rfl (hS3.rB hr0_3) rfl (hS3.rB hr0_7) rfl (hS3.rB hr0_8)) ?_
  rintro _ w19 ⟨a7, c8, a9, c10, a11, c12, a13, c14, a15, c16, a17, c18, rfl, hs⟩
  have hS4 := hS3.add hs
  refine go ?_
  replace ⟨y20, hy20, h⟩ := obind h
  refine LW.cl (W_s_PartKill hy20 rfl (hS4.rI 0 rfl) rfl (hS4.rI 1 rfl) rfl (hS4.rI 2 rfl) rfl (hS4.rI 3 rfl) rfl (hS4.rI 4 rfl) rfl (hS4.rI 5 rfl)) ?_
  rintro _ w33 ⟨a21, c22, a23, c24, a25, c26, a27, c28, a29, c30, a31, c32, rfl, hs⟩
  have hS5 := hS4.add hs
  refine LW.al hS5 fun g34 w35 hS6 => ?_
  refine LW.st hS6 0 fun w36 hS7 => ?_
  refine go ?_
  replace ⟨y37, hy37, h⟩ := obind h
  refine LW.cl (W_l_toPart hy37 rfl (hS7.rB hr0_0) rfl (hS7.rB hr0_1) rfl (hS7.rB hr0_2) rfl (hS7.rB hr0_3) rfl (hS7.rB hr0_7) rfl (hS7.rB hr0_8)) ?_
  rintro _ w50 ⟨a38, c39, a40, c41, a42, c43, a44, c45, a46, c47, a48, c49, rfl, hs⟩
  have hS8 := hS7.add hs
  refine LW.al hS8 fun g51 w52 hS9 => ?_
  refine LW.st hS9 0 fun w53 hS10 => ?_
  refine go ?_
  replace ⟨y54, hy54, h⟩ := obind h
  refine LW.cl (W_i_PartKill hy54 rfl (hS10.rI 1 rfl) rfl (hS10.rI 2 rfl) rfl (hS10.rI 3 rfl) rfl (hS10.rI 4 rfl) rfl (hS10.rI 5 rfl) rfl (hS10.rI 6 rfl)) ?_
  rintro _ w67 ⟨a55, c56, a57, c58, a59, c60, a61, c62, a63, c64, a65, c66, rfl, hs⟩
  have hS11 := hS10.add hs
  refine LW.al hS11 fun g68 w69 hS12 => ?_
  refine LW.st hS12 0 fun w70 hS13 => ?_
  refine go ?_
  refine LW.fl [1, 2, 6, 7, 8, 27, 28] fun e => ?_
  replace ⟨y71, hy71, h⟩ := obind h
  refine LW.c0 (W_l_eqPart hy71 rfl (hS13.rI 1 rfl) rfl (hS13.rI 2 rfl) rfl (hS13.rI 3 rfl) rfl (hS13.rI 4 rfl) rfl (hS13.rI 5 rfl) rfl (hS13.rI 6 rfl) rfl (hS13.rI 15 rfl) rfl (hS13.rI 16 rfl) rfl (hS13.rI 17 rfl) rfl (hS13.rI 18 rfl) rfl (hS13.rI 19 rfl) rfl (hS13.rI 20 rfl)) hS13 fun w72 hS14 => ?_
  refine go ?_
  refine CW.cond rfl (fun hc73 => ?_) (fun hc73 => ?_)
  · replace h := bcT h hc73
    refine go ?_
    cases h
    exact And.intro trivial ⟨_, Res.one (resOne.t rfl), rfl, hS14.pick [] rfl rfl⟩
  replace h := bcF h hc73
  refine go ?_
  refine CW.draw (by kernel_rfl) ?_
  have hS15 := hS14.drew
  refine AW.take (i := 0) rfl (by kernel_rfl) rfl rfl (Ldr.boxN (bt := 66) (fr := (0, 0)) (cs := [.slice a38 y37.label.levels.length c39, .slice a40 y37.own.length c41, .slice a42 y37.tree.length c43, .slice a44 y37.heap.arena.length c45, .int .i64 y37.heap.gc.phase, .int .i64 y37.heap.gc.pos, .int .i64 y37.heap.gc.round, .slice a46 y37.heap.gc.grey.length c47, .slice a48 y37.taps.length c49, .int .i64 y37.next, .int .i64 y37.want, .int .i64 y37.spent.pages, .int .i64 y37.spent.rent, .int .i64 y37.spent.cpu, .int .i64 y37.press, .int .i64 y37.lost]) ag66 rfl rfl) (St.cell (h := hS15) (i := 7) rfl) ?_
  refine AW.take (i := 1) rfl (by kernel_rfl) rfl rfl (Ldr.boxN (bt := 55) (fr := (0, 0)) (cs := [.slice a0_0 x0.label.levels.length c0_0, .slice a0_1 x0.own.length c0_1, .slice a0_2 x0.tree.length c0_2, .slice a0_3 x0.heap.arena.length c0_3, .int .i64 x0.heap.gc.phase, .int .i64 x0.heap.gc.pos, .int .i64 x0.heap.gc.round, .slice a0_7 x0.heap.gc.grey.length c0_7, .slice a0_8 x0.taps.length c0_8, .int .i64 x0.next, .int .i64 x0.want, .int .i64 x0.spent.pages, .int .i64 x0.spent.rent, .int .i64 x0.spent.cpu, .int .i64 x0.press, .int .i64 x0.lost]) ag55 rfl rfl) (St.cell (h := hS15) (i := 27) rfl) ?_
  replace ⟨y74, hy74, h⟩ := obind h
  have q := W_l_toPart (w0 := w72.drew) hy74 rfl (hS15.rB hr0_0) rfl (hS15.rB hr0_1) rfl (hS15.rB hr0_2) rfl (hS15.rB hr0_3) rfl (hS15.rB hr0_7) rfl (hS15.rB hr0_8)
  refine AW.one (i := 2) (by kernel_rfl) ?_
  refine ⟨_, rfl, ?_⟩
  refine LW.call pl24 rfl rfl ?_
  refine Ret.mono q ?_
  rintro _ w87 ⟨a75, c76, a77, c78, a79, c80, a81, c82, a83, c84, a85, c86, rfl, hs⟩
  have hS16 := hS15.add hs
  refine LW.nil ⟨rfl, (.w (by kernel_rfl) (.c (St.cell (h := hS16) (i := 13) rfl) Kept.n)), ?_⟩
  replace ⟨y88, hy88, h⟩ := obind h
  have q := W_l_eqPart (w0 := w87) hy88 rfl (hS16.rI 14 rfl) rfl (hS16.rI 15 rfl) rfl (hS16.rI 16 rfl) rfl (hS16.rI 17 rfl) rfl (hS16.rI 18 rfl) rfl (hS16.rI 19 rfl) rfl (hS16.rI 0 rfl) rfl (hS16.rI 1 rfl) rfl (hS16.rI 2 rfl) rfl (hS16.rI 3 rfl) rfl (hS16.rI 4 rfl) rfl (hS16.rI 5 rfl)
  refine AW.one (i := 3) (by kernel_rfl) ?_
  refine ⟨_, rfl, ?_⟩
  refine LW.call pl26 rfl rfl ?_
  refine Ret.mono q ?_
  rintro _ w89 ⟨rfl, hs⟩
  have hS17 := hS16.add hs
  refine LW.nil ⟨rfl, (.c (St.cell (h := hS17) (i := 33) rfl) (.w (by kernel_rfl) Kept.n)), ?_⟩
  refine AW.u (i := 4) rfl (by kernel_rfl) rfl rfl (Pur.p rfl) ?_
  refine AW.done (by kernel_rfl) ?_
  refine go ?_
  refine CW.cond rfl (fun hc90 => ?_) (fun hc90 => ?_)
  · replace h := bcT h hc90
    refine go ?_
    cases h
    exact And.intro trivial ⟨_, Res.one (resOne.t rfl), rfl, hS17.pick [] rfl rfl⟩
  replace h := bcF h hc90
  refine go ?_
  replace ⟨y91, hy91, h⟩ := obind h
  obtain ⟨q94, hy91', hq95⟩ := obind hy91
  obtain ⟨hl96, hq95⟩ := keepL_some hq95
  obtain ⟨hl97, hq95⟩ := keepL_some hq95
  obtain ⟨hl98, hq95⟩ := keepL_some hq95
  obtain ⟨hl99, hq95⟩ := keepL_some hq95
  obtain ⟨hl100, hq95⟩ := keepL_some hq95
  obtain ⟨hl101, hq95⟩ := keepL_some hq95
  rw [Option.some.inj hq95] at hy91' hl96 hl97 hl98 hl99 hl100 hl101
  have hS18 := hS17.pick (M := [sl a38 c39 y37.label.levels, sl a40 c41 y37.own, sl a42 c43 y37.tree, sl a44 c45 y37.heap.arena, sl a46 c47 y37.heap.gc.grey, sl a48 c49 y37.taps] ++ [sl a75 c76 y74.label.levels, sl a77 c78 y74.own, sl a79 c80 y74.tree, sl a81 c82 y74.heap.arena, sl a83 c84 y74.heap.gc.grey, sl a85 c86 y74.taps, bx g68 66 [.slice a55 y54.label.levels.length c56, .slice a57 y54.own.length c58, .slice a59 y54.tree.length c60, .slice a61 y54.heap.arena.length c62, .int .i64 y54.heap.gc.phase, .int .i64 y54.heap.gc.pos, .int .i64 y54.heap.gc.round, .slice a63 y54.heap.gc.grey.length c64, .slice a65 y54.taps.length c66, .int .i64 y54.next, .int .i64 y54.want, .int .i64 y54.spent.pages, .int .i64 y54.spent.rent, .int .i64 y54.spent.cpu, .int .i64 y54.press, .int .i64 y54.lost], sl a55 c56 y54.label.levels, sl a57 c58 y54.own, sl a59 c60 y54.tree, sl a61 c62 y54.heap.arena, sl a63 c64 y54.heap.gc.grey, sl a65 c66 y54.taps, bx g51 66 [.slice a38 y37.label.levels.length c39, .slice a40 y37.own.length c41, .slice a42 y37.tree.length c43, .slice a44 y37.heap.arena.length c45, .int .i64 y37.heap.gc.phase, .int .i64 y37.heap.gc.pos, .int .i64 y37.heap.gc.round, .slice a46 y37.heap.gc.grey.length c47, .slice a48 y37.taps.length c49, .int .i64 y37.next, .int .i64 y37.want, .int .i64 y37.spent.pages, .int .i64 y37.spent.rent, .int .i64 y37.spent.cpu, .int .i64 y37.press, .int .i64 y37.lost], bx g34 66 [.slice a21 y20.label.levels.length c22, .slice a23 y20.own.length c24, .slice a25 y20.tree.length c26, .slice a27 y20.heap.arena.length c28, .int .i64 y20.heap.gc.phase, .int .i64 y20.heap.gc.pos, .int .i64 y20.heap.gc.round, .slice a29 y20.heap.gc.grey.length c30, .slice a31 y20.taps.length c32, .int .i64 y20.next, .int .i64 y20.want, .int .i64 y20.spent.pages, .int .i64 y20.spent.rent, .int .i64 y20.spent.cpu, .int .i64 y20.press, .int .i64 y20.lost], sl a21 c22 y20.label.levels, sl a23 c24 y20.own, sl a25 c26 y20.tree, sl a27 c28 y20.heap.arena, sl a29 c30 y20.heap.gc.grey, sl a31 c32 y20.taps, sl a7 c8 y6.label.levels, sl a9 c10 y6.own, sl a11 c12 y6.tree, sl a13 c14 y6.heap.arena, sl a15 c16 y6.heap.gc.grey, sl a17 c18 y6.taps, bx g1 55 [.slice a0_0 x0.label.levels.length c0_0, .slice a0_1 x0.own.length c0_1, .slice a0_2 x0.tree.length c0_2, .slice a0_3 x0.heap.arena.length c0_3, .int .i64 x0.heap.gc.phase, .int .i64 x0.heap.gc.pos, .int .i64 x0.heap.gc.round, .slice a0_7 x0.heap.gc.grey.length c0_7, .slice a0_8 x0.taps.length c0_8, .int .i64 x0.next, .int .i64 x0.want, .int .i64 x0.spent.pages, .int .i64 x0.spent.rent, .int .i64 x0.spent.cpu, .int .i64 x0.press, .int .i64 x0.lost]]) [14, 15, 16, 17, 18, 19, 0, 1, 2, 3, 4, 5, 6, 7, 8, 9, 10, 11, 12, 13, 20, 21, 22, 23, 24, 25, 26, 27, 28, 29, 30, 31, 32, 33] rfl rfl
  obtain ⟨F92, hL93⟩ := St.lend (L := [sl a38 c39 y37.label.levels, sl a40 c41 y37.own, sl a42 c43 y37.tree, sl a44 c45 y37.heap.arena, sl a46 c47 y37.heap.gc.grey, sl a48 c49 y37.taps]) (M := [sl a75 c76 y74.label.levels, sl a77 c78 y74.own, sl a79 c80 y74.tree, sl a81 c82 y74.heap.arena, sl a83 c84 y74.heap.gc.grey, sl a85 c86 y74.taps, bx g68 66 [.slice a55 y54.label.levels.length c56, .slice a57 y54.own.length c58, .slice a59 y54.tree.length c60, .slice a61 y54.heap.arena.length c62, .int .i64 y54.heap.gc.phase, .int .i64 y54.heap.gc.pos, .int .i64 y54.heap.gc.round, .slice a63 y54.heap.gc.grey.length c64, .slice a65 y54.taps.length c66, .int .i64 y54.next, .int .i64 y54.want, .int .i64 y54.spent.pages, .int .i64 y54.spent.rent, .int .i64 y54.spent.cpu, .int .i64 y54.press, .int .i64 y54.lost], sl a55 c56 y54.label.levels, sl a57 c58 y54.own, sl a59 c60 y54.tree, sl a61 c62 y54.heap.arena, sl a63 c64 y54.heap.gc.grey, sl a65 c66 y54.taps, bx g51 66 [.slice a38 y37.label.levels.length c39, .slice a40 y37.own.length c41, .slice a42 y37.tree.length c43, .slice a44 y37.heap.arena.length c45, .int .i64 y37.heap.gc.phase, .int .i64 y37.heap.gc.pos, .int .i64 y37.heap.gc.round, .slice a46 y37.heap.gc.grey.length c47, .slice a48 y37.taps.length c49, .int .i64 y37.next, .int .i64 y37.want, .int .i64 y37.spent.pages, .int .i64 y37.spent.rent, .int .i64 y37.spent.cpu, .int .i64 y37.press, .int .i64 y37.lost], bx g34 66 [.slice a21 y20.label.levels.length c22, .slice a23 y20.own.length c24, .slice a25 y20.tree.length c26, .slice a27 y20.heap.arena.length c28, .int .i64 y20.heap.gc.phase, .int .i64 y20.heap.gc.pos, .int .i64 y20.heap.gc.round, .slice a29 y20.heap.gc.grey.length c30, .slice a31 y20.taps.length c32, .int .i64 y20.next, .int .i64 y20.want, .int .i64 y20.spent.pages, .int .i64 y20.spent.rent, .int .i64 y20.spent.cpu, .int .i64 y20.press, .int .i64 y20.lost], sl a21 c22 y20.label.levels, sl a23 c24 y20.own, sl a25 c26 y20.tree, sl a27 c28 y20.heap.arena, sl a29 c30 y20.heap.gc.grey, sl a31 c32 y20.taps, sl a7 c8 y6.label.levels, sl a9 c10 y6.own, sl a11 c12 y6.tree, sl a13 c14 y6.heap.arena, sl a15 c16 y6.heap.gc.grey, sl a17 c18 y6.taps, bx g1 55 [.slice a0_0 x0.label.levels.length c0_0, .slice a0_1 x0.own.length c0_1, .slice a0_2 x0.tree.length c0_2, .slice a0_3 x0.heap.arena.length c0_3, .int .i64 x0.heap.gc.phase, .int .i64 x0.heap.gc.pos, .int .i64 x0.heap.gc.round, .slice a0_7 x0.heap.gc.grey.length c0_7, .slice a0_8 x0.taps.length c0_8, .int .i64 x0.next, .int .i64 x0.want, .int .i64 x0.spent.pages, .int .i64 x0.spent.rent, .int .i64 x0.spent.cpu, .int .i64 x0.press, .int .i64 x0.lost]]) hS18
  refine LW.cl (W_l_markPart hy91' rfl rfl rfl rfl rfl rfl hL93.st) ?_
  rintro _ w102 ⟨rfl, hs⟩
  have hS19 := hL93.back _ _ hs
  refine gs ?_
  rw [show y37.label.levels.length = y91.2.1.length from hl96] at hS19
  rw [show y37.own.length = y91.2.2.1.length from hl97] at hS19
  rw [show y37.tree.length = y91.2.2.2.1.length from hl98] at hS19
  rw [show y37.heap.arena.length = y91.2.2.2.2.1.length from hl99] at hS19
  rw [show y37.heap.gc.grey.length = y91.2.2.2.2.2.1.length from hl100] at hS19
  rw [show y37.taps.length = y91.2.2.2.2.2.2.length from hl101] at hS19
  obtain ⟨j103, hj103, h104⟩ := obind h
  refine CW.cut (fun e wb => En e [(1, .int .i64 x1), (2, .pointer (some ⟨g1, 0, none⟩)), (6, .pointer (some ⟨g34, 0, none⟩)), (8, .pointer (some ⟨g68, 0, none⟩)), (46, .bool j103)] ∧ St w0 [] wb [bx g68 66 [.slice a55 y54.label.levels.length c56, .slice a57 y54.own.length c58, .slice a59 y54.tree.length c60, .slice a61 y54.heap.arena.length c62, .int .i64 y54.heap.gc.phase, .int .i64 y54.heap.gc.pos, .int .i64 y54.heap.gc.round, .slice a63 y54.heap.gc.grey.length c64, .slice a65 y54.taps.length c66, .int .i64 y54.next, .int .i64 y54.want, .int .i64 y54.spent.pages, .int .i64 y54.spent.rent, .int .i64 y54.spent.cpu, .int .i64 y54.press, .int .i64 y54.lost], sl a55 c56 y54.label.levels, sl a57 c58 y54.own, sl a59 c60 y54.tree, sl a61 c62 y54.heap.arena, sl a63 c64 y54.heap.gc.grey, sl a65 c66 y54.taps, bx g34 66 [.slice a21 y20.label.levels.length c22, .slice a23 y20.own.length c24, .slice a25 y20.tree.length c26, .slice a27 y20.heap.arena.length c28, .int .i64 y20.heap.gc.phase, .int .i64 y20.heap.gc.pos, .int .i64 y20.heap.gc.round, .slice a29 y20.heap.gc.grey.length c30, .slice a31 y20.taps.length c32, .int .i64 y20.next, .int .i64 y20.want, .int .i64 y20.spent.pages, .int .i64 y20.spent.rent, .int .i64 y20.spent.cpu, .int .i64 y20.press, .int .i64 y20.lost], sl a21 c22 y20.label.levels, sl a23 c24 y20.own, sl a25 c26 y20.tree, sl a27 c28 y20.heap.arena, sl a29 c30 y20.heap.gc.grey, sl a31 c32 y20.taps, bx g1 55 [.slice a0_0 x0.label.levels.length c0_0, .slice a0_1 x0.own.length c0_1, .slice a0_2 x0.tree.length c0_2, .slice a0_3 x0.heap.arena.length c0_3, .int .i64 x0.heap.gc.phase, .int .i64 x0.heap.gc.pos, .int .i64 x0.heap.gc.round, .slice a0_7 x0.heap.gc.grey.length c0_7, .slice a0_8 x0.taps.length c0_8, .int .i64 x0.next, .int .i64 x0.want, .int .i64 x0.spent.pages, .int .i64 x0.spent.rent, .int .i64 x0.spent.cpu, .int .i64 x0.press, .int .i64 x0.lost]]) ?_ ?_
  · have h := hj103
    refine go ?_
    rcases bcases (decide (y91.1 < 0)) with hc105 | hc105
    · replace h := bcT h hc105
      refine go ?_
      cases oi h
      exact ⟨⟨rfl, rfl, rfl, rfl, rfl, trivial⟩, hS19.pick [12, 13, 14, 15, 16, 17, 18, 20, 21, 22, 23, 24, 25, 26, 33] rfl rfl⟩
    replace h := bcF h hc105
    refine go ?_
    replace ⟨y106, hy106, h⟩ := obind h
    refine go ?_
    refine LW.c0 (W_l_eqPart hy106 rfl (hS19.rI 13 rfl) rfl (hS19.rI 14 rfl) rfl (hS19.rI 15 rfl) rfl (hS19.rI 16 rfl) rfl (hS19.rI 17 rfl) rfl (hS19.rI 18 rfl) rfl (hS19.rI 21 rfl) rfl (hS19.rI 22 rfl) rfl (hS19.rI 23 rfl) rfl (hS19.rI 24 rfl) rfl (hS19.rI 25 rfl) rfl (hS19.rI 26 rfl)) hS19 fun w107 hS20 => ?_
    refine go ?_
    cases oi h
    exact ⟨⟨rfl, rfl, rfl, rfl, rfl, trivial⟩, hS20.pick [12, 13, 14, 15, 16, 17, 18, 20, 21, 22, 23, 24, 25, 26, 33] rfl rfl⟩
  rintro e w108 ⟨hE, hS21⟩
  obtain ⟨e, rfl⟩ := hE.out
  have h := h104
  refine go ?_
  refine CW.cond rfl (fun hc109 => ?_) (fun hc109 => ?_)
  · replace h := bcT h hc109
    refine go ?_
    cases h
    exact And.intro trivial ⟨_, Res.one (resOne.t rfl), rfl, hS21.pick [] rfl rfl⟩
  replace h := bcF h hc109
  refine go ?_
  replace ⟨y110, hy110, h⟩ := obind h
  obtain ⟨q113, hy110', hq114⟩ := obind hy110
  obtain ⟨hl115, hq114⟩ := keepL_some hq114
  obtain ⟨hl116, hq114⟩ := keepL_some hq114
  obtain ⟨hl117, hq114⟩ := keepL_some hq114
  obtain ⟨hl118, hq114⟩ := keepL_some hq114
  obtain ⟨hl119, hq114⟩ := keepL_some hq114
  obtain ⟨hl120, hq114⟩ := keepL_some hq114
  rw [Option.some.inj hq114] at hy110' hl115 hl116 hl117 hl118 hl119 hl120
  have hS22 := hS21.pick (M := [sl a55 c56 y54.label.levels, sl a57 c58 y54.own, sl a59 c60 y54.tree, sl a61 c62 y54.heap.arena, sl a63 c64 y54.heap.gc.grey, sl a65 c66 y54.taps] ++ [bx g68 66 [.slice a55 y54.label.levels.length c56, .slice a57 y54.own.length c58, .slice a59 y54.tree.length c60, .slice a61 y54.heap.arena.length c62, .int .i64 y54.heap.gc.phase, .int .i64 y54.heap.gc.pos, .int .i64 y54.heap.gc.round, .slice a63 y54.heap.gc.grey.length c64, .slice a65 y54.taps.length c66, .int .i64 y54.next, .int .i64 y54.want, .int .i64 y54.spent.pages, .int .i64 y54.spent.rent, .int .i64 y54.spent.cpu, .int .i64 y54.press, .int .i64 y54.lost], bx g34 66 [.slice a21 y20.label.levels.length c22, .slice a23 y20.own.length c24, .slice a25 y20.tree.length c26, .slice a27 y20.heap.arena.length c28, .int .i64 y20.heap.gc.phase, .int .i64 y20.heap.gc.pos, .int .i64 y20.heap.gc.round, .slice a29 y20.heap.gc.grey.length c30, .slice a31 y20.taps.length c32, .int .i64 y20.next, .int .i64 y20.want, .int .i64 y20.spent.pages, .int .i64 y20.spent.rent, .int .i64 y20.spent.cpu, .int .i64 y20.press, .int .i64 y20.lost], sl a21 c22 y20.label.levels, sl a23 c24 y20.own, sl a25 c26 y20.tree, sl a27 c28 y20.heap.arena, sl a29 c30 y20.heap.gc.grey, sl a31 c32 y20.taps, bx g1 55 [.slice a0_0 x0.label.levels.length c0_0, .slice a0_1 x0.own.length c0_1, .slice a0_2 x0.tree.length c0_2, .slice a0_3 x0.heap.arena.length c0_3, .int .i64 x0.heap.gc.phase, .int .i64 x0.heap.gc.pos, .int .i64 x0.heap.gc.round, .slice a0_7 x0.heap.gc.grey.length c0_7, .slice a0_8 x0.taps.length c0_8, .int .i64 x0.next, .int .i64 x0.want, .int .i64 x0.spent.pages, .int .i64 x0.spent.rent, .int .i64 x0.spent.cpu, .int .i64 x0.press, .int .i64 x0.lost]]) [1, 2, 3, 4, 5, 6, 0, 7, 8, 9, 10, 11, 12, 13, 14] rfl rfl
  obtain ⟨F111, hL112⟩ := St.lend (L := [sl a55 c56 y54.label.levels, sl a57 c58 y54.own, sl a59 c60 y54.tree, sl a61 c62 y54.heap.arena, sl a63 c64 y54.heap.gc.grey, sl a65 c66 y54.taps]) (M := [bx g68 66 [.slice a55 y54.label.levels.length c56, .slice a57 y54.own.length c58, .slice a59 y54.tree.length c60, .slice a61 y54.heap.arena.length c62, .int .i64 y54.heap.gc.phase, .int .i64 y54.heap.gc.pos, .int .i64 y54.heap.gc.round, .slice a63 y54.heap.gc.grey.length c64, .slice a65 y54.taps.length c66, .int .i64 y54.next, .int .i64 y54.want, .int .i64 y54.spent.pages, .int .i64 y54.spent.rent, .int .i64 y54.spent.cpu, .int .i64 y54.press, .int .i64 y54.lost], bx g34 66 [.slice a21 y20.label.levels.length c22, .slice a23 y20.own.length c24, .slice a25 y20.tree.length c26, .slice a27 y20.heap.arena.length c28, .int .i64 y20.heap.gc.phase, .int .i64 y20.heap.gc.pos, .int .i64 y20.heap.gc.round, .slice a29 y20.heap.gc.grey.length c30, .slice a31 y20.taps.length c32, .int .i64 y20.next, .int .i64 y20.want, .int .i64 y20.spent.pages, .int .i64 y20.spent.rent, .int .i64 y20.spent.cpu, .int .i64 y20.press, .int .i64 y20.lost], sl a21 c22 y20.label.levels, sl a23 c24 y20.own, sl a25 c26 y20.tree, sl a27 c28 y20.heap.arena, sl a29 c30 y20.heap.gc.grey, sl a31 c32 y20.taps, bx g1 55 [.slice a0_0 x0.label.levels.length c0_0, .slice a0_1 x0.own.length c0_1, .slice a0_2 x0.tree.length c0_2, .slice a0_3 x0.heap.arena.length c0_3, .int .i64 x0.heap.gc.phase, .int .i64 x0.heap.gc.pos, .int .i64 x0.heap.gc.round, .slice a0_7 x0.heap.gc.grey.length c0_7, .slice a0_8 x0.taps.length c0_8, .int .i64 x0.next, .int .i64 x0.want, .int .i64 x0.spent.pages, .int .i64 x0.spent.rent, .int .i64 x0.spent.cpu, .int .i64 x0.press, .int .i64 x0.lost]]) hS22
  refine LW.cl (W_l_markPart hy110' rfl rfl rfl rfl rfl rfl hL112.st) ?_
  rintro _ w121 ⟨rfl, hs⟩
  have hS23 := hL112.back _ _ hs
  refine go ?_
  replace ⟨y122, hy122, h⟩ := obind h
  refine LW.c0 (W_l_heldPart hy122 (show y54.label.levels.length = y110.2.1.length from hl115) (hS23.rI 0 rfl) (show y54.own.length = y110.2.2.1.length from hl116) (hS23.rI 1 rfl) (show y54.tree.length = y110.2.2.2.1.length from hl117) (hS23.rI 2 rfl) (show y54.heap.arena.length = y110.2.2.2.2.1.length from hl118) (hS23.rI 3 rfl) (show y54.heap.gc.grey.length = y110.2.2.2.2.2.1.length from hl119) (hS23.rI 4 rfl) (show y54.taps.length = y110.2.2.2.2.2.2.length from hl120) (hS23.rI 5 rfl)) hS23 fun w123 hS24 => ?_
  refine go ?_
  refine CW.fl [1, 2, 6, 8, 10, 11, 54] fun e => ?_
  refine CW.cond rfl (fun hc124 => ?_) (fun hc124 => ?_)
  · replace h := bcT h hc124
    refine go ?_
    cases h
    rw [show y54.label.levels.length = y110.2.1.length from hl115] at hS24
    rw [show y54.own.length = y110.2.2.1.length from hl116] at hS24
    rw [show y54.tree.length = y110.2.2.2.1.length from hl117] at hS24
    rw [show y54.heap.arena.length = y110.2.2.2.2.1.length from hl118] at hS24
    rw [show y54.heap.gc.grey.length = y110.2.2.2.2.2.1.length from hl119] at hS24
    rw [show y54.taps.length = y110.2.2.2.2.2.2.length from hl120] at hS24
    exact And.intro trivial ⟨_, Res.one (resOne.t rfl), rfl, hS24.pick [] rfl rfl⟩
  replace h := bcF h hc124
  refine go ?_
  refine CW.cond rfl (fun hc125 => ?_) (fun hc125 => ?_)
  · replace h := bcT h hc125
    refine go ?_
    cases h
    rw [show y54.label.levels.length = y110.2.1.length from hl115] at hS24
    rw [show y54.own.length = y110.2.2.1.length from hl116] at hS24
    rw [show y54.tree.length = y110.2.2.2.1.length from hl117] at hS24
    rw [show y54.heap.arena.length = y110.2.2.2.2.1.length from hl118] at hS24
    rw [show y54.heap.gc.grey.length = y110.2.2.2.2.2.1.length from hl119] at hS24
    rw [show y54.taps.length = y110.2.2.2.2.2.2.length from hl120] at hS24
    exact And.intro trivial ⟨_, Res.one (resOne.t rfl), rfl, hS24.pick [] rfl rfl⟩
  replace h := bcF h hc125
  refine go ?_
  replace ⟨y126, hy126, h⟩ := obind h
  refine LW.cl (W_l_toPart hy126 rfl (hS24.rB hr0_0) rfl (hS24.rB hr0_1) rfl (hS24.rB hr0_2) rfl (hS24.rB hr0_3) rfl (hS24.rB hr0_7) rfl (hS24.rB hr0_8)) ?_
  rintro _ w139 ⟨a127, c128, a129, c130, a131, c132, a133, c134, a135, c136, a137, c138, rfl, hs⟩
  have hS25 := hS24.add hs
  refine go ?_
  replace ⟨y140, hy140, h⟩ := obind h
  refine LW.cl (W_i_PartKill hy140 rfl (hS25.rI 0 rfl) rfl (hS25.rI 1 rfl) rfl (hS25.rI 2 rfl) rfl (hS25.rI 3 rfl) rfl (hS25.rI 4 rfl) rfl (hS25.rI 5 rfl)) ?_
  rintro _ w153 ⟨a141, c142, a143, c144, a145, c146, a147, c148, a149, c150, a151, c152, rfl, hs⟩
  have hS26 := hS25.add hs
  refine LW.al hS26 fun g154 w155 hS27 => ?_
  refine LW.st hS27 0 fun w156 hS28 => ?_
  refine go ?_
  replace ⟨y157, hy157, h⟩ := obind h
  refine LW.c0 (W_l_eqPart hy157 rfl (hS28.rI 1 rfl) rfl (hS28.rI 2 rfl) rfl (hS28.rI 3 rfl) rfl (hS28.rI 4 rfl) rfl (hS28.rI 5 rfl) rfl (hS28.rI 6 rfl) rfl (hS28.rI 21 rfl) rfl (hS28.rI 22 rfl) rfl (hS28.rI 23 rfl) rfl (hS28.rI 24 rfl) rfl (hS28.rI 25 rfl) rfl (hS28.rI 26 rfl)) hS28 fun w158 hS29 => ?_
  refine go ?_
  refine CW.fl [8, 10, 65] fun e => ?_
  refine CW.cond rfl (fun hc159 => ?_) (fun hc159 => ?_)
  · replace h := bcT h hc159
    refine go ?_
    cases h
    rw [show y54.label.levels.length = y110.2.1.length from hl115] at hS29
    rw [show y54.own.length = y110.2.2.1.length from hl116] at hS29
    rw [show y54.tree.length = y110.2.2.2.1.length from hl117] at hS29
    rw [show y54.heap.arena.length = y110.2.2.2.2.1.length from hl118] at hS29
    rw [show y54.heap.gc.grey.length = y110.2.2.2.2.2.1.length from hl119] at hS29
    rw [show y54.taps.length = y110.2.2.2.2.2.2.length from hl120] at hS29
    exact And.intro trivial ⟨_, Res.one (resOne.t rfl), rfl, hS29.pick [] rfl rfl⟩
  replace h := bcF h hc159
  refine go ?_
  replace ⟨y160, hy160, h⟩ := obind h
  refine LW.c0 (W_l_heldPart hy160 (show y54.label.levels.length = y110.2.1.length from hl115) (hS29.rI 13 rfl) (show y54.own.length = y110.2.2.1.length from hl116) (hS29.rI 14 rfl) (show y54.tree.length = y110.2.2.2.1.length from hl117) (hS29.rI 15 rfl) (show y54.heap.arena.length = y110.2.2.2.2.1.length from hl118) (hS29.rI 16 rfl) (show y54.heap.gc.grey.length = y110.2.2.2.2.2.1.length from hl119) (hS29.rI 17 rfl) (show y54.taps.length = y110.2.2.2.2.2.2.length from hl120) (hS29.rI 18 rfl)) hS29 fun w161 hS30 => ?_
  refine go ?_
  refine CW.cond rfl (fun hc162 => ?_) (fun hc162 => ?_)
  · replace h := bcT h hc162
    refine go ?_
    cases h
    rw [show y54.label.levels.length = y110.2.1.length from hl115] at hS30
    rw [show y54.own.length = y110.2.2.1.length from hl116] at hS30
    rw [show y54.tree.length = y110.2.2.2.1.length from hl117] at hS30
    rw [show y54.heap.arena.length = y110.2.2.2.2.1.length from hl118] at hS30
    rw [show y54.heap.gc.grey.length = y110.2.2.2.2.2.1.length from hl119] at hS30
    rw [show y54.taps.length = y110.2.2.2.2.2.2.length from hl120] at hS30
    exact And.intro trivial ⟨_, Res.one (resOne.t rfl), rfl, hS30.pick [] rfl rfl⟩
  replace h := bcF h hc162
  refine go ?_
  refine CW.cond rfl (fun hc163 => ?_) (fun hc163 => ?_)
  · replace h := bcT h hc163
    refine go ?_
    cases h
    rw [show y54.label.levels.length = y110.2.1.length from hl115] at hS30
    rw [show y54.own.length = y110.2.2.1.length from hl116] at hS30
    rw [show y54.tree.length = y110.2.2.2.1.length from hl117] at hS30
    rw [show y54.heap.arena.length = y110.2.2.2.2.1.length from hl118] at hS30
    rw [show y54.heap.gc.grey.length = y110.2.2.2.2.2.1.length from hl119] at hS30
    rw [show y54.taps.length = y110.2.2.2.2.2.2.length from hl120] at hS30
    exact And.intro trivial ⟨_, Res.one (resOne.t rfl), rfl, hS30.pick [] rfl rfl⟩
  replace h := bcF h hc163
  refine go ?_
  cases h
  rw [show y54.label.levels.length = y110.2.1.length from hl115] at hS30
  rw [show y54.own.length = y110.2.2.1.length from hl116] at hS30
  rw [show y54.tree.length = y110.2.2.2.1.length from hl117] at hS30
  rw [show y54.heap.arena.length = y110.2.2.2.2.1.length from hl118] at hS30
  rw [show y54.heap.gc.grey.length = y110.2.2.2.2.2.1.length from hl119] at hS30
  rw [show y54.taps.length = y110.2.2.2.2.2.2.length from hl120] at hS30
  exact And.intro trivial ⟨_, Res.one (resOne.t rfl), rfl, hS30.pick [] rfl rfl⟩

end Go.Kx
