/- Each call returns what the plain function says. Printed by drive.py. -/
import Derived.Test.YtfllimolhpblnaaGreatFa
import Derived.Test.YtfllimolhpblnaaGreatPu
import Derived.Test.YtfllimolhpblnaaGreatWa4
import Derived.Test.YtfllimolhpblnaaGreatWa5
import Derived.Test.YtfllimolhpblnaaGreatWa6
import Derived.Test.YtfllimolhpblnaaGreatWa17
import Derived.Test.YtfllimolhpblnaaGreatWa30
namespace Go.Kx
open Go Go.RowKit Go.Proofs
set_option maxRecDepth 10000
set_option maxHeartbeats 2000000
set_option linter.unusedVariables false
set_option linter.unusedSimpArgs false
theorem W_l_FnExactPartCollect {w0 : World} {N : Nat} {x0 : DPart} {x1 : Int} {x2 : Int} {r : Bool} (h : F_l_FnExactPartCollect N x0 x1 x2 = some r) {a0_0 : Option Addr} {n0_0 c0_0 : Nat} (hn0_0 : n0_0 = x0.label.levels.length) (hr0_0 : rdS (Bor w0 []) w0 a0_0 c0_0 x0.label.levels) {a0_1 : Option Addr} {n0_1 c0_1 : Nat} (hn0_1 : n0_1 = x0.own.length) (hr0_1 : rdS (Bor w0 []) w0 a0_1 c0_1 x0.own) {a0_2 : Option Addr} {n0_2 c0_2 : Nat} (hn0_2 : n0_2 = x0.tree.length) (hr0_2 : rdS (Bor w0 []) w0 a0_2 c0_2 x0.tree) {a0_3 : Option Addr} {n0_3 c0_3 : Nat} (hn0_3 : n0_3 = x0.heap.arena.length) (hr0_3 : rdS (Bor w0 []) w0 a0_3 c0_3 x0.heap.arena) {a0_7 : Option Addr} {n0_7 c0_7 : Nat} (hn0_7 : n0_7 = x0.heap.gc.grey.length) (hr0_7 : rdS (Bor w0 []) w0 a0_7 c0_7 x0.heap.gc.grey) {a0_8 : Option Addr} {n0_8 c0_8 : Nat} (hn0_8 : n0_8 = x0.taps.length) (hr0_8 : rdS (Bor w0 []) w0 a0_8 c0_8 x0.taps) :
    Ret Tryz.prog 8 #[.agg #[.slice a0_0 n0_0 c0_0, .slice a0_1 n0_1 c0_1, .slice a0_2 n0_2 c0_2, .slice a0_3 n0_3 c0_3, .int .i64 x0.heap.gc.phase, .int .i64 x0.heap.gc.pos, .int .i64 x0.heap.gc.round, .slice a0_7 n0_7 c0_7, .slice a0_8 n0_8 c0_8, .int .i64 x0.next, .int .i64 x0.want, .int .i64 x0.spent.pages, .int .i64 x0.spent.rent, .int .i64 x0.spent.cpu, .int .i64 x0.press, .int .i64 x0.lost], .int .i64 x1, .int .i64 x2] w0 (fun v w => v = .bool r ∧ St w0 [] w []) := by
  subst hn0_0 hn0_1 hn0_2 hn0_3 hn0_7 hn0_8
  unfold F_l_FnExactPartCollect at h
  refine Ret.fn Tryz.func8 fun e => ?_
  have hS1 := St.start w0
  refine go ?_
  refine LW.bo hS1 fun g1 w2 hS2 => ?_
  refine go ?_
  replace ⟨y3, hy3, h⟩ := obind h
  refine LW.c0 (W_l_szPart hy3 rfl (hS2.rB hr0_0) rfl (hS2.rB hr0_1) rfl (hS2.rB hr0_2) rfl (hS2.rB hr0_3) rfl (hS2.rB hr0_7) rfl (hS2.rB hr0_8)) hS2 fun w4 hS3 => ?_
  refine go ?_
  refine CW.cond rfl (fun hc5 => ?_) (fun hc5 => ?_)
  · replace h := bcT h hc5
    refine go ?_
    cases h
    exact And.intro trivial ⟨_, Res.one (resOne.t rfl), rfl, hS3.pick [] rfl rfl⟩
  replace h := bcF h hc5
  refine go ?_
  replace ⟨y6, hy6, h⟩ := obind h
  refine LW.cl (W_l_toPart hy6 rfl (hS3.rB hr0_0) rfl (hS3.rB hr0_1) rfl (hS3.rB hr0_2) rfl (hS3.rB hr0_3) rfl (hS3.rB hr0_7) rfl (hS3.rB hr0_8)) ?_
  rintro _ w19 ⟨a7, c8, a9, c10, a11, c12, a13, c14, a15, c16, a17, c18, rfl, hs⟩
  have hS4 := hS3.add hs
  refine go ?_
  replace ⟨y20, hy20, h⟩ := obind h
  refine LW.cl (W_s_PartCollect hy20 rfl (hS4.rI 0 rfl) rfl (hS4.rI 1 rfl) rfl (hS4.rI 2 rfl) rfl (hS4.rI 3 rfl) rfl (hS4.rI 4 rfl) rfl (hS4.rI 5 rfl)) ?_
  rintro _ w33 ⟨a21, c22, a23, c24, a25, c26, a27, c28, a29, c30, a31, c32, rfl, hs⟩
  have hS5 := hS4.add hs
  refine go ?_
  refine LW.al hS5 fun g34 w35 hS6 => ?_
  refine LW.st hS6 0 fun w36 hS7 => ?_
  refine go ?_
  replace ⟨y37, hy37, h⟩ := obind h
  refine LW.cl (W_l_toPart hy37 rfl (hS7.rB hr0_0) rfl (hS7.rB hr0_1) rfl (hS7.rB hr0_2) rfl (hS7.rB hr0_3) rfl (hS7.rB hr0_7) rfl (hS7.rB hr0_8)) ?_
  rintro _ w50 ⟨a38, c39, a40, c41, a42, c43, a44, c45, a46, c47, a48, c49, rfl, hs⟩
  have hS8 := hS7.add hs
  refine LW.al hS8 fun g51 w52 hS9 => ?_
  refine LW.st hS9 0 fun w53 hS10 => ?_
  refine go ?_
  refine LW.fl [1, 2, 3, 8, 9, 10, 34, 35, 36] fun e => ?_
  replace ⟨y54, hy54, h⟩ := obind h
  refine LW.cl (W_i_PartCollect hy54 rfl (hS10.rI 1 rfl) rfl (hS10.rI 2 rfl) rfl (hS10.rI 3 rfl) rfl (hS10.rI 4 rfl) rfl (hS10.rI 5 rfl) rfl (hS10.rI 6 rfl)) ?_
  rintro _ w67 ⟨a55, c56, a57, c58, a59, c60, a61, c62, a63, c64, a65, c66, rfl, hs⟩
  have hS11 := hS10.add hs
  refine go ?_
  refine LW.al hS11 fun g68 w69 hS12 => ?_
  refine LW.st hS12 0 fun w70 hS13 => ?_
  refine gs ?_
  obtain ⟨j71, hj71, h72⟩ := obind h
  refine CW.cut (fun e wb => En e [(1, .int .i64 x1), (2, .int .i64 x2), (3, .pointer (some ⟨g1, 0, none⟩)), (8, .pointer (some ⟨g34, 0, none⟩)), (9, .int .i64 y20.2), (10, .pointer (some ⟨g51, 0, none⟩)), (11, .pointer (some ⟨g68, 0, none⟩)), (12, .int .i64 y54.2), (48, .bool j71)] ∧ St w0 [] wb [bx g68 66 [.slice a55 y54.1.label.levels.length c56, .slice a57 y54.1.own.length c58, .slice a59 y54.1.tree.length c60, .slice a61 y54.1.heap.arena.length c62, .int .i64 y54.1.heap.gc.phase, .int .i64 y54.1.heap.gc.pos, .int .i64 y54.1.heap.gc.round, .slice a63 y54.1.heap.gc.grey.length c64, .slice a65 y54.1.taps.length c66, .int .i64 y54.1.next, .int .i64 y54.1.want, .int .i64 y54.1.spent.pages, .int .i64 y54.1.spent.rent, .int .i64 y54.1.spent.cpu, .int .i64 y54.1.press, .int .i64 y54.1.lost], sl a55 c56 y54.1.label.levels, sl a57 c58 y54.1.own, sl a59 c60 y54.1.tree, sl a61 c62 y54.1.heap.arena, sl a63 c64 y54.1.heap.gc.grey, sl a65 c66 y54.1.taps, bx g51 66 [.slice a38 y37.label.levels.length c39, .slice a40 y37.own.length c41, .slice a42 y37.tree.length c43, .slice a44 y37.heap.arena.length c45, .int .i64 y37.heap.gc.phase, .int .i64 y37.heap.gc.pos, .int .i64 y37.heap.gc.round, .slice a46 y37.heap.gc.grey.length c47, .slice a48 y37.taps.length c49, .int .i64 y37.next, .int .i64 y37.want, .int .i64 y37.spent.pages, .int .i64 y37.spent.rent, .int .i64 y37.spent.cpu, .int .i64 y37.press, .int .i64 y37.lost], sl a38 c39 y37.label.levels, sl a40 c41 y37.own, sl a42 c43 y37.tree, sl a44 c45 y37.heap.arena, sl a46 c47 y37.heap.gc.grey, sl a48 c49 y37.taps, bx g34 66 [.slice a21 y20.1.label.levels.length c22, .slice a23 y20.1.own.length c24, .slice a25 y20.1.tree.length c26, .slice a27 y20.1.heap.arena.length c28, .int .i64 y20.1.heap.gc.phase, .int .i64 y20.1.heap.gc.pos, .int .i64 y20.1.heap.gc.round, .slice a29 y20.1.heap.gc.grey.length c30, .slice a31 y20.1.taps.length c32, .int .i64 y20.1.next, .int .i64 y20.1.want, .int .i64 y20.1.spent.pages, .int .i64 y20.1.spent.rent, .int .i64 y20.1.spent.cpu, .int .i64 y20.1.press, .int .i64 y20.1.lost], sl a21 c22 y20.1.label.levels, sl a23 c24 y20.1.own, sl a25 c26 y20.1.tree, sl a27 c28 y20.1.heap.arena, sl a29 c30 y20.1.heap.gc.grey, sl a31 c32 y20.1.taps, bx g1 55 [.slice a0_0 x0.label.levels.length c0_0, .slice a0_1 x0.own.length c0_1, .slice a0_2 x0.tree.length c0_2, .slice a0_3 x0.heap.arena.length c0_3, .int .i64 x0.heap.gc.phase, .int .i64 x0.heap.gc.pos, .int .i64 x0.heap.gc.round, .slice a0_7 x0.heap.gc.grey.length c0_7, .slice a0_8 x0.taps.length c0_8, .int .i64 x0.next, .int .i64 x0.want, .int .i64 x0.spent.pages, .int .i64 x0.spent.rent, .int .i64 x0.spent.cpu, .int .i64 x0.press, .int .i64 x0.lost]]) ?_ ?_
  · have h := hj71
    refine go ?_
    replace ⟨y73, hy73, h⟩ := obind h
    refine LW.c0 (W_l_eqPart hy73 rfl (hS13.rI 1 rfl) rfl (hS13.rI 2 rfl) rfl (hS13.rI 3 rfl) rfl (hS13.rI 4 rfl) rfl (hS13.rI 5 rfl) rfl (hS13.rI 6 rfl) rfl (hS13.rI 15 rfl) rfl (hS13.rI 16 rfl) rfl (hS13.rI 17 rfl) rfl (hS13.rI 18 rfl) rfl (hS13.rI 19 rfl) rfl (hS13.rI 20 rfl)) hS13 fun w74 hS14 => ?_
    refine go ?_
    rcases bcases (!y73) with hc75 | hc75
    · replace h := bcT h hc75
      refine go ?_
      cases oi h
      exact ⟨⟨rfl, rfl, rfl, rfl, rfl, rfl, rfl, rfl, rfl, trivial⟩, hS14.pick [0, 1, 2, 3, 4, 5, 6, 7, 8, 9, 10, 11, 12, 13, 14, 15, 16, 17, 18, 19, 20, 27] rfl rfl⟩
    replace h := bcF h hc75
    refine go ?_
    cases oi h
    exact ⟨⟨rfl, rfl, rfl, rfl, rfl, rfl, rfl, rfl, rfl, trivial⟩, hS14.pick [0, 1, 2, 3, 4, 5, 6, 7, 8, 9, 10, 11, 12, 13, 14, 15, 16, 17, 18, 19, 20, 27] rfl rfl⟩
  rintro e w76 ⟨hE, hS15⟩
  obtain ⟨e, rfl⟩ := hE.out
  have h := h72
  refine go ?_
  refine CW.cond rfl (fun hc77 => ?_) (fun hc77 => ?_)
  · replace h := bcT h hc77
    refine go ?_
    cases h
    exact And.intro trivial ⟨_, Res.one (resOne.t rfl), rfl, hS15.pick [] rfl rfl⟩
  replace h := bcF h hc77
  refine go ?_
  refine CW.draw (by kernel_rfl) ?_
  have hS16 := hS15.drew
  refine AW.take (i := 0) rfl (by kernel_rfl) rfl rfl (Ldr.boxN (bt := 66) (fr := (0, 0)) (cs := [.slice a38 y37.label.levels.length c39, .slice a40 y37.own.length c41, .slice a42 y37.tree.length c43, .slice a44 y37.heap.arena.length c45, .int .i64 y37.heap.gc.phase, .int .i64 y37.heap.gc.pos, .int .i64 y37.heap.gc.round, .slice a46 y37.heap.gc.grey.length c47, .slice a48 y37.taps.length c49, .int .i64 y37.next, .int .i64 y37.want, .int .i64 y37.spent.pages, .int .i64 y37.spent.rent, .int .i64 y37.spent.cpu, .int .i64 y37.press, .int .i64 y37.lost]) ag66 rfl rfl) (St.cell (h := hS16) (i := 7) rfl) ?_
  refine AW.take (i := 1) rfl (by kernel_rfl) rfl rfl (Ldr.boxN (bt := 55) (fr := (0, 0)) (cs := [.slice a0_0 x0.label.levels.length c0_0, .slice a0_1 x0.own.length c0_1, .slice a0_2 x0.tree.length c0_2, .slice a0_3 x0.heap.arena.length c0_3, .int .i64 x0.heap.gc.phase, .int .i64 x0.heap.gc.pos, .int .i64 x0.heap.gc.round, .slice a0_7 x0.heap.gc.grey.length c0_7, .slice a0_8 x0.taps.length c0_8, .int .i64 x0.next, .int .i64 x0.want, .int .i64 x0.spent.pages, .int .i64 x0.spent.rent, .int .i64 x0.spent.cpu, .int .i64 x0.press, .int .i64 x0.lost]) ag55 rfl rfl) (St.cell (h := hS16) (i := 21) rfl) ?_
  replace ⟨y78, hy78, h⟩ := obind h
  have q := W_l_toPart (w0 := w76.drew) hy78 rfl (hS16.rB hr0_0) rfl (hS16.rB hr0_1) rfl (hS16.rB hr0_2) rfl (hS16.rB hr0_3) rfl (hS16.rB hr0_7) rfl (hS16.rB hr0_8)
  refine AW.one (i := 2) (by kernel_rfl) ?_
  refine ⟨_, rfl, ?_⟩
  refine LW.call pl24 rfl rfl ?_
  refine Ret.mono q ?_
  rintro _ w91 ⟨a79, c80, a81, c82, a83, c84, a85, c86, a87, c88, a89, c90, rfl, hs⟩
  have hS17 := hS16.add hs
  refine LW.nil ⟨rfl, (.w (by kernel_rfl) (.c (St.cell (h := hS17) (i := 13) rfl) Kept.n)), ?_⟩
  replace ⟨y92, hy92, h⟩ := obind h
  have q := W_l_eqPart (w0 := w91) hy92 rfl (hS17.rI 14 rfl) rfl (hS17.rI 15 rfl) rfl (hS17.rI 16 rfl) rfl (hS17.rI 17 rfl) rfl (hS17.rI 18 rfl) rfl (hS17.rI 19 rfl) rfl (hS17.rI 0 rfl) rfl (hS17.rI 1 rfl) rfl (hS17.rI 2 rfl) rfl (hS17.rI 3 rfl) rfl (hS17.rI 4 rfl) rfl (hS17.rI 5 rfl)
  refine AW.one (i := 3) (by kernel_rfl) ?_
  refine ⟨_, rfl, ?_⟩
  refine LW.call pl26 rfl rfl ?_
  refine Ret.mono q ?_
  rintro _ w93 ⟨rfl, hs⟩
  have hS18 := hS17.add hs
  refine LW.nil ⟨rfl, (.c (St.cell (h := hS18) (i := 27) rfl) (.w (by kernel_rfl) Kept.n)), ?_⟩
  refine AW.u (i := 4) rfl (by kernel_rfl) rfl rfl (Pur.p rfl) ?_
  refine AW.done (by kernel_rfl) ?_
  refine go ?_
  refine CW.cond rfl (fun hc94 => ?_) (fun hc94 => ?_)
  · replace h := bcT h hc94
    refine go ?_
    cases h
    exact And.intro trivial ⟨_, Res.one (resOne.t rfl), rfl, hS18.pick [] rfl rfl⟩
  replace h := bcF h hc94
  refine go ?_
  replace ⟨y95, hy95, h⟩ := obind h
  obtain ⟨q98, hy95', hq99⟩ := obind hy95
  obtain ⟨hl100, hq99⟩ := keepL_some hq99
  obtain ⟨hl101, hq99⟩ := keepL_some hq99
  obtain ⟨hl102, hq99⟩ := keepL_some hq99
  obtain ⟨hl103, hq99⟩ := keepL_some hq99
  obtain ⟨hl104, hq99⟩ := keepL_some hq99
  obtain ⟨hl105, hq99⟩ := keepL_some hq99
  rw [Option.some.inj hq99] at hy95' hl100 hl101 hl102 hl103 hl104 hl105
  have hS19 := hS18.pick (M := [sl a38 c39 y37.label.levels, sl a40 c41 y37.own, sl a42 c43 y37.tree, sl a44 c45 y37.heap.arena, sl a46 c47 y37.heap.gc.grey, sl a48 c49 y37.taps] ++ [sl a79 c80 y78.label.levels, sl a81 c82 y78.own, sl a83 c84 y78.tree, sl a85 c86 y78.heap.arena, sl a87 c88 y78.heap.gc.grey, sl a89 c90 y78.taps, bx g68 66 [.slice a55 y54.1.label.levels.length c56, .slice a57 y54.1.own.length c58, .slice a59 y54.1.tree.length c60, .slice a61 y54.1.heap.arena.length c62, .int .i64 y54.1.heap.gc.phase, .int .i64 y54.1.heap.gc.pos, .int .i64 y54.1.heap.gc.round, .slice a63 y54.1.heap.gc.grey.length c64, .slice a65 y54.1.taps.length c66, .int .i64 y54.1.next, .int .i64 y54.1.want, .int .i64 y54.1.spent.pages, .int .i64 y54.1.spent.rent, .int .i64 y54.1.spent.cpu, .int .i64 y54.1.press, .int .i64 y54.1.lost], sl a55 c56 y54.1.label.levels, sl a57 c58 y54.1.own, sl a59 c60 y54.1.tree, sl a61 c62 y54.1.heap.arena, sl a63 c64 y54.1.heap.gc.grey, sl a65 c66 y54.1.taps, bx g51 66 [.slice a38 y37.label.levels.length c39, .slice a40 y37.own.length c41, .slice a42 y37.tree.length c43, .slice a44 y37.heap.arena.length c45, .int .i64 y37.heap.gc.phase, .int .i64 y37.heap.gc.pos, .int .i64 y37.heap.gc.round, .slice a46 y37.heap.gc.grey.length c47, .slice a48 y37.taps.length c49, .int .i64 y37.next, .int .i64 y37.want, .int .i64 y37.spent.pages, .int .i64 y37.spent.rent, .int .i64 y37.spent.cpu, .int .i64 y37.press, .int .i64 y37.lost], bx g34 66 [.slice a21 y20.1.label.levels.length c22, .slice a23 y20.1.own.length c24, .slice a25 y20.1.tree.length c26, .slice a27 y20.1.heap.arena.length c28, .int .i64 y20.1.heap.gc.phase, .int .i64 y20.1.heap.gc.pos, .int .i64 y20.1.heap.gc.round, .slice a29 y20.1.heap.gc.grey.length c30, .slice a31 y20.1.taps.length c32, .int .i64 y20.1.next, .int .i64 y20.1.want, .int .i64 y20.1.spent.pages, .int .i64 y20.1.spent.rent, .int .i64 y20.1.spent.cpu, .int .i64 y20.1.press, .int .i64 y20.1.lost], sl a21 c22 y20.1.label.levels, sl a23 c24 y20.1.own, sl a25 c26 y20.1.tree, sl a27 c28 y20.1.heap.arena, sl a29 c30 y20.1.heap.gc.grey, sl a31 c32 y20.1.taps, bx g1 55 [.slice a0_0 x0.label.levels.length c0_0, .slice a0_1 x0.own.length c0_1, .slice a0_2 x0.tree.length c0_2, .slice a0_3 x0.heap.arena.length c0_3, .int .i64 x0.heap.gc.phase, .int .i64 x0.heap.gc.pos, .int .i64 x0.heap.gc.round, .slice a0_7 x0.heap.gc.grey.length c0_7, .slice a0_8 x0.taps.length c0_8, .int .i64 x0.next, .int .i64 x0.want, .int .i64 x0.spent.pages, .int .i64 x0.spent.rent, .int .i64 x0.spent.cpu, .int .i64 x0.press, .int .i64 x0.lost]]) [14, 15, 16, 17, 18, 19, 0, 1, 2, 3, 4, 5, 6, 7, 8, 9, 10, 11, 12, 13, 20, 21, 22, 23, 24, 25, 26, 27] rfl rfl
  obtain ⟨F96, hL97⟩ := St.lend (L := [sl a38 c39 y37.label.levels, sl a40 c41 y37.own, sl a42 c43 y37.tree, sl a44 c45 y37.heap.arena, sl a46 c47 y37.heap.gc.grey, sl a48 c49 y37.taps]) (M := [sl a79 c80 y78.label.levels, sl a81 c82 y78.own, sl a83 c84 y78.tree, sl a85 c86 y78.heap.arena, sl a87 c88 y78.heap.gc.grey, sl a89 c90 y78.taps, bx g68 66 [.slice a55 y54.1.label.levels.length c56, .slice a57 y54.1.own.length c58, .slice a59 y54.1.tree.length c60, .slice a61 y54.1.heap.arena.length c62, .int .i64 y54.1.heap.gc.phase, .int .i64 y54.1.heap.gc.pos, .int .i64 y54.1.heap.gc.round, .slice a63 y54.1.heap.gc.grey.length c64, .slice a65 y54.1.taps.length c66, .int .i64 y54.1.next, .int .i64 y54.1.want, .int .i64 y54.1.spent.pages, .int .i64 y54.1.spent.rent, .int .i64 y54.1.spent.cpu, .int .i64 y54.1.press, .int .i64 y54.1.lost], sl a55 c56 y54.1.label.levels, sl a57 c58 y54.1.own, sl a59 c60 y54.1.tree, sl a61 c62 y54.1.heap.arena, sl a63 c64 y54.1.heap.gc.grey, sl a65 c66 y54.1.taps, bx g51 66 [.slice a38 y37.label.levels.length c39, .slice a40 y37.own.length c41, .slice a42 y37.tree.length c43, .slice a44 y37.heap.arena.length c45, .int .i64 y37.heap.gc.phase, .int .i64 y37.heap.gc.pos, .int .i64 y37.heap.gc.round, .slice a46 y37.heap.gc.grey.length c47, .slice a48 y37.taps.length c49, .int .i64 y37.next, .int .i64 y37.want, .int .i64 y37.spent.pages, .int .i64 y37.spent.rent, .int .i64 y37.spent.cpu, .int .i64 y37.press, .int .i64 y37.lost], bx g34 66 [.slice a21 y20.1.label.levels.length c22, .slice a23 y20.1.own.length c24, .slice a25 y20.1.tree.length c26, .slice a27 y20.1.heap.arena.length c28, .int .i64 y20.1.heap.gc.phase, .int .i64 y20.1.heap.gc.pos, .int .i64 y20.1.heap.gc.round, .slice a29 y20.1.heap.gc.grey.length c30, .slice a31 y20.1.taps.length c32, .int .i64 y20.1.next, .int .i64 y20.1.want, .int .i64 y20.1.spent.pages, .int .i64 y20.1.spent.rent, .int .i64 y20.1.spent.cpu, .int .i64 y20.1.press, .int .i64 y20.1.lost], sl a21 c22 y20.1.label.levels, sl a23 c24 y20.1.own, sl a25 c26 y20.1.tree, sl a27 c28 y20.1.heap.arena, sl a29 c30 y20.1.heap.gc.grey, sl a31 c32 y20.1.taps, bx g1 55 [.slice a0_0 x0.label.levels.length c0_0, .slice a0_1 x0.own.length c0_1, .slice a0_2 x0.tree.length c0_2, .slice a0_3 x0.heap.arena.length c0_3, .int .i64 x0.heap.gc.phase, .int .i64 x0.heap.gc.pos, .int .i64 x0.heap.gc.round, .slice a0_7 x0.heap.gc.grey.length c0_7, .slice a0_8 x0.taps.length c0_8, .int .i64 x0.next, .int .i64 x0.want, .int .i64 x0.spent.pages, .int .i64 x0.spent.rent, .int .i64 x0.spent.cpu, .int .i64 x0.press, .int .i64 x0.lost]]) hS19
  refine LW.cl (W_l_markPart hy95' rfl rfl rfl rfl rfl rfl hL97.st) ?_
  rintro _ w106 ⟨rfl, hs⟩
  have hS20 := hL97.back _ _ hs
  refine gs ?_
  rw [show y37.label.levels.length = y95.2.1.length from hl100] at hS20
  rw [show y37.own.length = y95.2.2.1.length from hl101] at hS20
  rw [show y37.tree.length = y95.2.2.2.1.length from hl102] at hS20
  rw [show y37.heap.arena.length = y95.2.2.2.2.1.length from hl103] at hS20
  rw [show y37.heap.gc.grey.length = y95.2.2.2.2.2.1.length from hl104] at hS20
  rw [show y37.taps.length = y95.2.2.2.2.2.2.length from hl105] at hS20
  obtain ⟨j107, hj107, h108⟩ := obind h
  refine CW.cut (fun e wb => En e [(1, .int .i64 x1), (2, .int .i64 x2), (3, .pointer (some ⟨g1, 0, none⟩)), (8, .pointer (some ⟨g34, 0, none⟩)), (9, .int .i64 y20.2), (11, .pointer (some ⟨g68, 0, none⟩)), (69, .bool j107)] ∧ St w0 [] wb [bx g68 66 [.slice a55 y54.1.label.levels.length c56, .slice a57 y54.1.own.length c58, .slice a59 y54.1.tree.length c60, .slice a61 y54.1.heap.arena.length c62, .int .i64 y54.1.heap.gc.phase, .int .i64 y54.1.heap.gc.pos, .int .i64 y54.1.heap.gc.round, .slice a63 y54.1.heap.gc.grey.length c64, .slice a65 y54.1.taps.length c66, .int .i64 y54.1.next, .int .i64 y54.1.want, .int .i64 y54.1.spent.pages, .int .i64 y54.1.spent.rent, .int .i64 y54.1.spent.cpu, .int .i64 y54.1.press, .int .i64 y54.1.lost], sl a55 c56 y54.1.label.levels, sl a57 c58 y54.1.own, sl a59 c60 y54.1.tree, sl a61 c62 y54.1.heap.arena, sl a63 c64 y54.1.heap.gc.grey, sl a65 c66 y54.1.taps, bx g34 66 [.slice a21 y20.1.label.levels.length c22, .slice a23 y20.1.own.length c24, .slice a25 y20.1.tree.length c26, .slice a27 y20.1.heap.arena.length c28, .int .i64 y20.1.heap.gc.phase, .int .i64 y20.1.heap.gc.pos, .int .i64 y20.1.heap.gc.round, .slice a29 y20.1.heap.gc.grey.length c30, .slice a31 y20.1.taps.length c32, .int .i64 y20.1.next, .int .i64 y20.1.want, .int .i64 y20.1.spent.pages, .int .i64 y20.1.spent.rent, .int .i64 y20.1.spent.cpu, .int .i64 y20.1.press, .int .i64 y20.1.lost], sl a21 c22 y20.1.label.levels, sl a23 c24 y20.1.own, sl a25 c26 y20.1.tree, sl a27 c28 y20.1.heap.arena, sl a29 c30 y20.1.heap.gc.grey, sl a31 c32 y20.1.taps, bx g1 55 [.slice a0_0 x0.label.levels.length c0_0, .slice a0_1 x0.own.length c0_1, .slice a0_2 x0.tree.length c0_2, .slice a0_3 x0.heap.arena.length c0_3, .int .i64 x0.heap.gc.phase, .int .i64 x0.heap.gc.pos, .int .i64 x0.heap.gc.round, .slice a0_7 x0.heap.gc.grey.length c0_7, .slice a0_8 x0.taps.length c0_8, .int .i64 x0.next, .int .i64 x0.want, .int .i64 x0.spent.pages, .int .i64 x0.spent.rent, .int .i64 x0.spent.cpu, .int .i64 x0.press, .int .i64 x0.lost]]) ?_ ?_
  · have h := hj107
    refine go ?_
    rcases bcases (decide (y95.1 < 0)) with hc109 | hc109
    · replace h := bcT h hc109
      refine go ?_
      cases oi h
      exact ⟨⟨rfl, rfl, rfl, rfl, rfl, rfl, rfl, trivial⟩, hS20.pick [12, 13, 14, 15, 16, 17, 18, 20, 21, 22, 23, 24, 25, 26, 27] rfl rfl⟩
    replace h := bcF h hc109
    refine go ?_
    replace ⟨y110, hy110, h⟩ := obind h
    refine go ?_
    refine LW.c0 (W_l_eqPart hy110 rfl (hS20.rI 13 rfl) rfl (hS20.rI 14 rfl) rfl (hS20.rI 15 rfl) rfl (hS20.rI 16 rfl) rfl (hS20.rI 17 rfl) rfl (hS20.rI 18 rfl) rfl (hS20.rI 21 rfl) rfl (hS20.rI 22 rfl) rfl (hS20.rI 23 rfl) rfl (hS20.rI 24 rfl) rfl (hS20.rI 25 rfl) rfl (hS20.rI 26 rfl)) hS20 fun w111 hS21 => ?_
    refine go ?_
    rcases bcases (!y110) with hc112 | hc112
    · replace h := bcT h hc112
      refine go ?_
      cases oi h
      exact ⟨⟨rfl, rfl, rfl, rfl, rfl, rfl, rfl, trivial⟩, hS21.pick [12, 13, 14, 15, 16, 17, 18, 20, 21, 22, 23, 24, 25, 26, 27] rfl rfl⟩
    replace h := bcF h hc112
    refine go ?_
    cases oi h
    exact ⟨⟨rfl, rfl, rfl, rfl, rfl, rfl, rfl, trivial⟩, hS21.pick [12, 13, 14, 15, 16, 17, 18, 20, 21, 22, 23, 24, 25, 26, 27] rfl rfl⟩
  rintro e w113 ⟨hE, hS22⟩
  obtain ⟨e, rfl⟩ := hE.out
  have h := h108
  refine go ?_
  refine CW.cond rfl (fun hc114 => ?_) (fun hc114 => ?_)
  · replace h := bcT h hc114
    refine go ?_
    cases h
    exact And.intro trivial ⟨_, Res.one (resOne.t rfl), rfl, hS22.pick [] rfl rfl⟩
  replace h := bcF h hc114
  refine go ?_
  replace ⟨y115, hy115, h⟩ := obind h
  obtain ⟨q118, hy115', hq119⟩ := obind hy115
  obtain ⟨hl120, hq119⟩ := keepL_some hq119
  obtain ⟨hl121, hq119⟩ := keepL_some hq119
  obtain ⟨hl122, hq119⟩ := keepL_some hq119
  obtain ⟨hl123, hq119⟩ := keepL_some hq119
  obtain ⟨hl124, hq119⟩ := keepL_some hq119
  obtain ⟨hl125, hq119⟩ := keepL_some hq119
  rw [Option.some.inj hq119] at hy115' hl120 hl121 hl122 hl123 hl124 hl125
  have hS23 := hS22.pick (M := [sl a55 c56 y54.1.label.levels, sl a57 c58 y54.1.own, sl a59 c60 y54.1.tree, sl a61 c62 y54.1.heap.arena, sl a63 c64 y54.1.heap.gc.grey, sl a65 c66 y54.1.taps] ++ [bx g68 66 [.slice a55 y54.1.label.levels.length c56, .slice a57 y54.1.own.length c58, .slice a59 y54.1.tree.length c60, .slice a61 y54.1.heap.arena.length c62, .int .i64 y54.1.heap.gc.phase, .int .i64 y54.1.heap.gc.pos, .int .i64 y54.1.heap.gc.round, .slice a63 y54.1.heap.gc.grey.length c64, .slice a65 y54.1.taps.length c66, .int .i64 y54.1.next, .int .i64 y54.1.want, .int .i64 y54.1.spent.pages, .int .i64 y54.1.spent.rent, .int .i64 y54.1.spent.cpu, .int .i64 y54.1.press, .int .i64 y54.1.lost], bx g34 66 [.slice a21 y20.1.label.levels.length c22, .slice a23 y20.1.own.length c24, .slice a25 y20.1.tree.length c26, .slice a27 y20.1.heap.arena.length c28, .int .i64 y20.1.heap.gc.phase, .int .i64 y20.1.heap.gc.pos, .int .i64 y20.1.heap.gc.round, .slice a29 y20.1.heap.gc.grey.length c30, .slice a31 y20.1.taps.length c32, .int .i64 y20.1.next, .int .i64 y20.1.want, .int .i64 y20.1.spent.pages, .int .i64 y20.1.spent.rent, .int .i64 y20.1.spent.cpu, .int .i64 y20.1.press, .int .i64 y20.1.lost], sl a21 c22 y20.1.label.levels, sl a23 c24 y20.1.own, sl a25 c26 y20.1.tree, sl a27 c28 y20.1.heap.arena, sl a29 c30 y20.1.heap.gc.grey, sl a31 c32 y20.1.taps, bx g1 55 [.slice a0_0 x0.label.levels.length c0_0, .slice a0_1 x0.own.length c0_1, .slice a0_2 x0.tree.length c0_2, .slice a0_3 x0.heap.arena.length c0_3, .int .i64 x0.heap.gc.phase, .int .i64 x0.heap.gc.pos, .int .i64 x0.heap.gc.round, .slice a0_7 x0.heap.gc.grey.length c0_7, .slice a0_8 x0.taps.length c0_8, .int .i64 x0.next, .int .i64 x0.want, .int .i64 x0.spent.pages, .int .i64 x0.spent.rent, .int .i64 x0.spent.cpu, .int .i64 x0.press, .int .i64 x0.lost]]) [1, 2, 3, 4, 5, 6, 0, 7, 8, 9, 10, 11, 12, 13, 14] rfl rfl
  obtain ⟨F116, hL117⟩ := St.lend (L := [sl a55 c56 y54.1.label.levels, sl a57 c58 y54.1.own, sl a59 c60 y54.1.tree, sl a61 c62 y54.1.heap.arena, sl a63 c64 y54.1.heap.gc.grey, sl a65 c66 y54.1.taps]) (M := [bx g68 66 [.slice a55 y54.1.label.levels.length c56, .slice a57 y54.1.own.length c58, .slice a59 y54.1.tree.length c60, .slice a61 y54.1.heap.arena.length c62, .int .i64 y54.1.heap.gc.phase, .int .i64 y54.1.heap.gc.pos, .int .i64 y54.1.heap.gc.round, .slice a63 y54.1.heap.gc.grey.length c64, .slice a65 y54.1.taps.length c66, .int .i64 y54.1.next, .int .i64 y54.1.want, .int .i64 y54.1.spent.pages, .int .i64 y54.1.spent.rent, .int .i64 y54.1.spent.cpu, .int .i64 y54.1.press, .int .i64 y54.1.lost], bx g34 66 [.slice a21 y20.1.label.levels.length c22, .slice a23 y20.1.own.length c24, .slice a25 y20.1.tree.length c26, .slice a27 y20.1.heap.arena.length c28, .int .i64 y20.1.heap.gc.phase, .int .i64 y20.1.heap.gc.pos, .int .i64 y20.1.heap.gc.round, .slice a29 y20.1.heap.gc.grey.length c30, .slice a31 y20.1.taps.length c32, .int .i64 y20.1.next, .int .i64 y20.1.want, .int .i64 y20.1.spent.pages, .int .i64 y20.1.spent.rent, .int .i64 y20.1.spent.cpu, .int .i64 y20.1.press, .int .i64 y20.1.lost], sl a21 c22 y20.1.label.levels, sl a23 c24 y20.1.own, sl a25 c26 y20.1.tree, sl a27 c28 y20.1.heap.arena, sl a29 c30 y20.1.heap.gc.grey, sl a31 c32 y20.1.taps, bx g1 55 [.slice a0_0 x0.label.levels.length c0_0, .slice a0_1 x0.own.length c0_1, .slice a0_2 x0.tree.length c0_2, .slice a0_3 x0.heap.arena.length c0_3, .int .i64 x0.heap.gc.phase, .int .i64 x0.heap.gc.pos, .int .i64 x0.heap.gc.round, .slice a0_7 x0.heap.gc.grey.length c0_7, .slice a0_8 x0.taps.length c0_8, .int .i64 x0.next, .int .i64 x0.want, .int .i64 x0.spent.pages, .int .i64 x0.spent.rent, .int .i64 x0.spent.cpu, .int .i64 x0.press, .int .i64 x0.lost]]) hS23
  refine LW.cl (W_l_markPart hy115' rfl rfl rfl rfl rfl rfl hL117.st) ?_
  rintro _ w126 ⟨rfl, hs⟩
  have hS24 := hL117.back _ _ hs
  refine go ?_
  replace ⟨y127, hy127, h⟩ := obind h
  refine LW.c0 (W_l_heldPart hy127 (show y54.1.label.levels.length = y115.2.1.length from hl120) (hS24.rI 0 rfl) (show y54.1.own.length = y115.2.2.1.length from hl121) (hS24.rI 1 rfl) (show y54.1.tree.length = y115.2.2.2.1.length from hl122) (hS24.rI 2 rfl) (show y54.1.heap.arena.length = y115.2.2.2.2.1.length from hl123) (hS24.rI 3 rfl) (show y54.1.heap.gc.grey.length = y115.2.2.2.2.2.1.length from hl124) (hS24.rI 4 rfl) (show y54.1.taps.length = y115.2.2.2.2.2.2.length from hl125) (hS24.rI 5 rfl)) hS24 fun w128 hS25 => ?_
  refine go ?_
  refine CW.fl [1, 2, 3, 8, 9, 11, 14, 15, 77] fun e => ?_
  refine CW.cond rfl (fun hc129 => ?_) (fun hc129 => ?_)
  · replace h := bcT h hc129
    refine go ?_
    cases h
    rw [show y54.1.label.levels.length = y115.2.1.length from hl120] at hS25
    rw [show y54.1.own.length = y115.2.2.1.length from hl121] at hS25
    rw [show y54.1.tree.length = y115.2.2.2.1.length from hl122] at hS25
    rw [show y54.1.heap.arena.length = y115.2.2.2.2.1.length from hl123] at hS25
    rw [show y54.1.heap.gc.grey.length = y115.2.2.2.2.2.1.length from hl124] at hS25
    rw [show y54.1.taps.length = y115.2.2.2.2.2.2.length from hl125] at hS25
    exact And.intro trivial ⟨_, Res.one (resOne.t rfl), rfl, hS25.pick [] rfl rfl⟩
  replace h := bcF h hc129
  refine go ?_
  refine CW.cond rfl (fun hc130 => ?_) (fun hc130 => ?_)
  · replace h := bcT h hc130
    refine go ?_
    cases h
    rw [show y54.1.label.levels.length = y115.2.1.length from hl120] at hS25
    rw [show y54.1.own.length = y115.2.2.1.length from hl121] at hS25
    rw [show y54.1.tree.length = y115.2.2.2.1.length from hl122] at hS25
    rw [show y54.1.heap.arena.length = y115.2.2.2.2.1.length from hl123] at hS25
    rw [show y54.1.heap.gc.grey.length = y115.2.2.2.2.2.1.length from hl124] at hS25
    rw [show y54.1.taps.length = y115.2.2.2.2.2.2.length from hl125] at hS25
    exact And.intro trivial ⟨_, Res.one (resOne.t rfl), rfl, hS25.pick [] rfl rfl⟩
  replace h := bcF h hc130
  refine go ?_
  replace ⟨y131, hy131, h⟩ := obind h
  refine LW.cl (W_l_toPart hy131 rfl (hS25.rB hr0_0) rfl (hS25.rB hr0_1) rfl (hS25.rB hr0_2) rfl (hS25.rB hr0_3) rfl (hS25.rB hr0_7) rfl (hS25.rB hr0_8)) ?_
  rintro _ w144 ⟨a132, c133, a134, c135, a136, c137, a138, c139, a140, c141, a142, c143, rfl, hs⟩
  have hS26 := hS25.add hs
  refine go ?_
  replace ⟨y145, hy145, h⟩ := obind h
  refine LW.cl (W_i_PartCollect hy145 rfl (hS26.rI 0 rfl) rfl (hS26.rI 1 rfl) rfl (hS26.rI 2 rfl) rfl (hS26.rI 3 rfl) rfl (hS26.rI 4 rfl) rfl (hS26.rI 5 rfl)) ?_
  rintro _ w158 ⟨a146, c147, a148, c149, a150, c151, a152, c153, a154, c155, a156, c157, rfl, hs⟩
  have hS27 := hS26.add hs
  refine go ?_
  refine LW.al hS27 fun g159 w160 hS28 => ?_
  refine LW.st hS28 0 fun w161 hS29 => ?_
  refine gs ?_
  rw [show y54.1.label.levels.length = y115.2.1.length from hl120] at hS29
  rw [show y54.1.own.length = y115.2.2.1.length from hl121] at hS29
  rw [show y54.1.tree.length = y115.2.2.2.1.length from hl122] at hS29
  rw [show y54.1.heap.arena.length = y115.2.2.2.2.1.length from hl123] at hS29
  rw [show y54.1.heap.gc.grey.length = y115.2.2.2.2.2.1.length from hl124] at hS29
  rw [show y54.1.taps.length = y115.2.2.2.2.2.2.length from hl125] at hS29
  obtain ⟨j162, hj162, h163⟩ := obind h
  refine CW.cut (fun e wb => En e [(11, .pointer (some ⟨g68, 0, none⟩)), (14, .int .i64 y115.1), (97, .bool j162)] ∧ St w0 [] wb [sl a55 c56 y115.2.1, sl a57 c58 y115.2.2.1, sl a59 c60 y115.2.2.2.1, sl a61 c62 y115.2.2.2.2.1, sl a63 c64 y115.2.2.2.2.2.1, sl a65 c66 y115.2.2.2.2.2.2, bx g68 66 [.slice a55 y115.2.1.length c56, .slice a57 y115.2.2.1.length c58, .slice a59 y115.2.2.2.1.length c60, .slice a61 y115.2.2.2.2.1.length c62, .int .i64 y54.1.heap.gc.phase, .int .i64 y54.1.heap.gc.pos, .int .i64 y54.1.heap.gc.round, .slice a63 y115.2.2.2.2.2.1.length c64, .slice a65 y115.2.2.2.2.2.2.length c66, .int .i64 y54.1.next, .int .i64 y54.1.want, .int .i64 y54.1.spent.pages, .int .i64 y54.1.spent.rent, .int .i64 y54.1.spent.cpu, .int .i64 y54.1.press, .int .i64 y54.1.lost]]) ?_ ?_
  · have h := hj162
    refine go ?_
    replace ⟨y164, hy164, h⟩ := obind h
    refine LW.c0 (W_l_eqPart hy164 rfl (hS29.rI 1 rfl) rfl (hS29.rI 2 rfl) rfl (hS29.rI 3 rfl) rfl (hS29.rI 4 rfl) rfl (hS29.rI 5 rfl) rfl (hS29.rI 6 rfl) rfl (hS29.rI 21 rfl) rfl (hS29.rI 22 rfl) rfl (hS29.rI 23 rfl) rfl (hS29.rI 24 rfl) rfl (hS29.rI 25 rfl) rfl (hS29.rI 26 rfl)) hS29 fun w165 hS30 => ?_
    refine go ?_
    rcases bcases (!y164) with hc166 | hc166
    · replace h := bcT h hc166
      refine go ?_
      cases oi h
      exact ⟨⟨rfl, rfl, rfl, trivial⟩, hS30.pick [13, 14, 15, 16, 17, 18, 19] rfl rfl⟩
    replace h := bcF h hc166
    refine go ?_
    cases oi h
    exact ⟨⟨rfl, rfl, rfl, trivial⟩, hS30.pick [13, 14, 15, 16, 17, 18, 19] rfl rfl⟩
  rintro e w167 ⟨hE, hS31⟩
  obtain ⟨e, rfl⟩ := hE.out
  have h := h163
  refine go ?_
  refine CW.fl [11, 14, 97] fun e => ?_
  refine CW.cond rfl (fun hc168 => ?_) (fun hc168 => ?_)
  · replace h := bcT h hc168
    refine go ?_
    cases h
    exact And.intro trivial ⟨_, Res.one (resOne.t rfl), rfl, hS31.pick [] rfl rfl⟩
  replace h := bcF h hc168
  refine go ?_
  replace ⟨y169, hy169, h⟩ := obind h
  refine LW.c0 (W_l_heldPart hy169 rfl (hS31.rI 0 rfl) rfl (hS31.rI 1 rfl) rfl (hS31.rI 2 rfl) rfl (hS31.rI 3 rfl) rfl (hS31.rI 4 rfl) rfl (hS31.rI 5 rfl)) hS31 fun w170 hS32 => ?_
  refine go ?_
  refine CW.cond rfl (fun hc171 => ?_) (fun hc171 => ?_)
  · replace h := bcT h hc171
    refine go ?_
    cases h
    exact And.intro trivial ⟨_, Res.one (resOne.t rfl), rfl, hS32.pick [] rfl rfl⟩
  replace h := bcF h hc171
  refine go ?_
  refine CW.cond rfl (fun hc172 => ?_) (fun hc172 => ?_)
  · replace h := bcT h hc172
    refine go ?_
    cases h
    exact And.intro trivial ⟨_, Res.one (resOne.t rfl), rfl, hS32.pick [] rfl rfl⟩
  replace h := bcF h hc172
  refine go ?_
  cases h
  exact And.intro trivial ⟨_, Res.one (resOne.t rfl), rfl, hS32.pick [] rfl rfl⟩

end Go.Kx
