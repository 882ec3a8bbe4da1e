/- Each call returns what the plain function says. Printed by drive.py. -/
import Derived.Test.YtfllimolhpblnaaGreatFa
import Derived.Test.YtfllimolhpblnaaGreatPu
import Derived.Test.YtfllimolhpblnaaGreatWa0
import Derived.Test.YtfllimolhpblnaaGreatWa5
import Derived.Test.YtfllimolhpblnaaGreatWa6
import Derived.Test.YtfllimolhpblnaaGreatWa17
import Derived.Test.YtfllimolhpblnaaGreatWa20
import Derived.Test.YtfllimolhpblnaaGreatWa24
import Derived.Test.YtfllimolhpblnaaGreatWa27
namespace Go.Kx
open Go Go.RowKit Go.Proofs
set_option maxRecDepth 10000
set_option maxHeartbeats 2000000
set_option linter.unusedVariables false
set_option linter.unusedSimpArgs false
theorem W_s_PartRun {w0 : World} {N : Nat} {x0 : DPart} {x1 : Int} {r : DPart × Int} (h : F_s_PartRun N x0 x1 = some r) {a0_0 : Option Addr} {n0_0 c0_0 : Nat} (hn0_0 : n0_0 = x0.label.levels.length) (hr0_0 : rdS (Bor w0 []) w0 a0_0 c0_0 x0.label.levels) {a0_1 : Option Addr} {n0_1 c0_1 : Nat} (hn0_1 : n0_1 = x0.own.length) (hr0_1 : rdS (Bor w0 []) w0 a0_1 c0_1 x0.own) {a0_2 : Option Addr} {n0_2 c0_2 : Nat} (hn0_2 : n0_2 = x0.tree.length) (hr0_2 : rdS (Bor w0 []) w0 a0_2 c0_2 x0.tree) {a0_3 : Option Addr} {n0_3 c0_3 : Nat} (hn0_3 : n0_3 = x0.heap.arena.length) (hr0_3 : rdS (Bor w0 []) w0 a0_3 c0_3 x0.heap.arena) {a0_7 : Option Addr} {n0_7 c0_7 : Nat} (hn0_7 : n0_7 = x0.heap.gc.grey.length) (hr0_7 : rdS (Bor w0 []) w0 a0_7 c0_7 x0.heap.gc.grey) {a0_8 : Option Addr} {n0_8 c0_8 : Nat} (hn0_8 : n0_8 = x0.taps.length) (hr0_8 : rdS (Bor w0 []) w0 a0_8 c0_8 x0.taps) :
    Ret Tryz.prog 31 #[.agg #[.slice a0_0 n0_0 c0_0, .slice a0_1 n0_1 c0_1, .slice a0_2 n0_2 c0_2, .slice a0_3 n0_3 c0_3, .int .i64 x0.heap.gc.phase, .int .i64 x0.heap.gc.pos, .int .i64 x0.heap.gc.round, .slice a0_7 n0_7 c0_7, .slice a0_8 n0_8 c0_8, .int .i64 x0.next, .int .i64 x0.want, .int .i64 x0.spent.pages, .int .i64 x0.spent.rent, .int .i64 x0.spent.cpu, .int .i64 x0.press, .int .i64 x0.lost], .int .i64 x1] w0 (fun v w => ∃ ar0_0 cr0_0, ∃ ar0_1 cr0_1, ∃ ar0_2 cr0_2, ∃ ar0_3 cr0_3, ∃ ar0_7 cr0_7, ∃ ar0_8 cr0_8, v = .tuple #[.agg #[.slice ar0_0 r.1.label.levels.length cr0_0, .slice ar0_1 r.1.own.length cr0_1, .slice ar0_2 r.1.tree.length cr0_2, .slice ar0_3 r.1.heap.arena.length cr0_3, .int .i64 r.1.heap.gc.phase, .int .i64 r.1.heap.gc.pos, .int .i64 r.1.heap.gc.round, .slice ar0_7 r.1.heap.gc.grey.length cr0_7, .slice ar0_8 r.1.taps.length cr0_8, .int .i64 r.1.next, .int .i64 r.1.want, .int .i64 r.1.spent.pages, .int .i64 r.1.spent.rent, .int .i64 r.1.spent.cpu, .int .i64 r.1.press, .int .i64 r.1.lost], .int .i64 r.2] ∧ St w0 [] w [sl ar0_0 cr0_0 r.1.label.levels, sl ar0_1 cr0_1 r.1.own, sl ar0_2 cr0_2 r.1.tree, sl ar0_3 cr0_3 r.1.heap.arena, sl ar0_7 cr0_7 r.1.heap.gc.grey, sl ar0_8 cr0_8 r.1.taps]) := by
  subst hn0_0 hn0_1 hn0_2 hn0_3 hn0_7 hn0_8
  unfold F_s_PartRun at h
  refine Ret.fn Tryz.func31 fun e => ?_
  have hS1 := St.start w0
  refine go ?_
  refine LW.bo hS1 fun g1 w2 hS2 => ?_
  refine LW.al hS2 fun g3 w4 hS3 => ?_
  refine go ?_
  replace ⟨y5, hy5, h⟩ := obind h
  refine LW.cl (W_s_l13Copy hy5 rfl (hS3.rB hr0_0) rfl (hS3.rB hr0_1) rfl (hS3.rB hr0_2) rfl (hS3.rB hr0_3) rfl (hS3.rB hr0_7) rfl (hS3.rB hr0_8)) ?_
  rintro _ w18 ⟨a6, c7, a8, c9, a10, c11, a12, c13, a14, c15, a16, c17, rfl, hs⟩
  have hS4 := hS3.add hs
  refine LW.al hS4 fun g19 w20 hS5 => ?_
  refine LW.st hS5 0 fun w21 hS6 => ?_
  refine go ?_
  replace ⟨y22, hy22, h⟩ := obind h
  refine LW.c0 (W_s_PartOk hy22 rfl (hS6.rB hr0_0) rfl (hS6.rB hr0_1) rfl (hS6.rB hr0_2) rfl (hS6.rB hr0_3) rfl (hS6.rB hr0_7) rfl (hS6.rB hr0_8)) hS6 fun w23 hS7 => ?_
  refine go ?_
  refine CW.cond rfl (fun hc24 => ?_) (fun hc24 => ?_)
  · replace h := bcT h hc24
    refine go ?_
    refine LW.st hS7 7 fun w25 hS8 => ?_
    refine go ?_
    cases h
    exact And.intro trivial ⟨_, Res.two (resOne.b hS8 7 rfl ag66 rfl rfl) (resOne.t rfl), a6, c7, a8, c9, a10, c11, a12, c13, a14, c15, a16, c17, rfl, hS8.pick [1, 2, 3, 4, 5, 6] rfl rfl⟩
  replace h := bcF h hc24
  refine go ?_
  refine LW.st hS7 0 fun w26 hS9 => ?_
  refine go ?_
  refine CW.draw (by kernel_rfl) ?_
  have hS10 := hS9.drew
  refine AW.take (i := 0) rfl (by kernel_rfl) rfl rfl (Ldr.boxN (bt := 66) (fr := (0, 0)) (cs := [.slice a0_0 x0.label.levels.length c0_0, .slice a0_1 x0.own.length c0_1, .slice a0_2 x0.tree.length c0_2, .slice a0_3 x0.heap.arena.length c0_3, .int .i64 x0.heap.gc.phase, .int .i64 x0.heap.gc.pos, .int .i64 x0.heap.gc.round, .slice a0_7 x0.heap.gc.grey.length c0_7, .slice a0_8 x0.taps.length c0_8, .int .i64 x0.next, .int .i64 x0.want, .int .i64 x0.spent.pages, .int .i64 x0.spent.rent, .int .i64 x0.spent.cpu, .int .i64 x0.press, .int .i64 x0.lost]) ag66 rfl rfl) (St.cell (h := hS10) (i := 8) rfl) ?_
  refine AW.u (i := 1) rfl (by kernel_rfl) rfl rfl (Pur.p rfl) ?_
  refine AW.u (i := 3) rfl (by kernel_rfl) rfl rfl (Pur.fa fo66_5 rfl) ?_
  refine AW.take (i := 4) rfl (by kernel_rfl) rfl rfl (Ldr.box (bt := 66) (fr := (0, 0)) (cs := [.slice a0_0 x0.label.levels.length c0_0, .slice a0_1 x0.own.length c0_1, .slice a0_2 x0.tree.length c0_2, .slice a0_3 x0.heap.arena.length c0_3, .int .i64 x0.heap.gc.phase, .int .i64 x0.heap.gc.pos, .int .i64 x0.heap.gc.round, .slice a0_7 x0.heap.gc.grey.length c0_7, .slice a0_8 x0.taps.length c0_8, .int .i64 x0.next, .int .i64 x0.want, .int .i64 x0.spent.pages, .int .i64 x0.spent.rent, .int .i64 x0.spent.cpu, .int .i64 x0.press, .int .i64 x0.lost]) ag3 rfl rfl) (St.cell (h := hS10) (i := 8) rfl) ?_
  refine AW.u (i := 5) rfl (by kernel_rfl) rfl rfl (Pur.fa fo66_6 rfl) ?_
  refine AW.take (i := 6) rfl (by kernel_rfl) rfl rfl (Ldr.box (bt := 66) (fr := (0, 0)) (cs := [.slice a0_0 x0.label.levels.length c0_0, .slice a0_1 x0.own.length c0_1, .slice a0_2 x0.tree.length c0_2, .slice a0_3 x0.heap.arena.length c0_3, .int .i64 x0.heap.gc.phase, .int .i64 x0.heap.gc.pos, .int .i64 x0.heap.gc.round, .slice a0_7 x0.heap.gc.grey.length c0_7, .slice a0_8 x0.taps.length c0_8, .int .i64 x0.next, .int .i64 x0.want, .int .i64 x0.spent.pages, .int .i64 x0.spent.rent, .int .i64 x0.spent.cpu, .int .i64 x0.press, .int .i64 x0.lost]) ag3 rfl rfl) (St.cell (h := hS10) (i := 8) rfl) ?_
  refine AW.u (i := 7) rfl (by kernel_rfl) rfl rfl (Pur.p rfl) ?_
  replace ⟨y27, hy27, h⟩ := obind h
  have q := W_s_Runnable (w0 := w26.drew) hy27 rfl (hS10.rB hr0_0) rfl (hS10.rB hr0_1) rfl (hS10.rB hr0_2) rfl (hS10.rB hr0_3) rfl (hS10.rB hr0_7) rfl (hS10.rB hr0_8)
  refine AW.one (i := 2) (by kernel_rfl) ?_
  refine ⟨_, rfl, ?_⟩
  refine LW.call pl89 rfl rfl ?_
  refine Ret.mono q ?_
  rintro _ w30 ⟨a28, c29, rfl, hs⟩
  have hS11 := hS10.add hs
  refine LW.nil ⟨rfl, (.c (St.cell (h := hS11) (i := 9) rfl) (.c (St.cell (h := hS11) (i := 9) rfl) (.w (by kernel_rfl) Kept.n))), ?_⟩
  replace ⟨y31, hy31, h⟩ := obind h
  have q := W_s_RunNext (w0 := w30) hy31 rfl (hS11.rI 0 rfl)
  refine AW.one (i := 8) (by kernel_rfl) ?_
  refine ⟨_, rfl, ?_⟩
  refine LW.call pl88 rfl rfl ?_
  refine Ret.mono q ?_
  rintro _ w32 ⟨rfl, hs⟩
  have hS12 := hS11.add hs
  refine LW.nil ⟨rfl, (.c (St.cell (h := hS12) (i := 9) rfl) (.w (by kernel_rfl) (.c (St.cell (h := hS12) (i := 9) rfl) Kept.n))), ?_⟩
  refine AW.u (i := 9) rfl (by kernel_rfl) rfl rfl (Pur.p rfl) ?_
  refine AW.done (by kernel_rfl) ?_
  refine gs ?_
  obtain ⟨j33, hj33, h34⟩ := obind h
  refine CW.cut (fun e wb => En e [(2, .pointer (some ⟨g1, 0, none⟩)), (4, .pointer (some ⟨g3, 0, none⟩)), (6, .pointer (some ⟨g19, 0, none⟩)), (7, .int .i64 y31), (43, .bool j33)] ∧ St w0 [] wb [bx g19 66 [.slice a6 y5.label.levels.length c7, .slice a8 y5.own.length c9, .slice a10 y5.tree.length c11, .slice a12 y5.heap.arena.length c13, .int .i64 y5.heap.gc.phase, .int .i64 y5.heap.gc.pos, .int .i64 y5.heap.gc.round, .slice a14 y5.heap.gc.grey.length c15, .slice a16 y5.taps.length c17, .int .i64 y5.next, .int .i64 0, .int .i64 y5.spent.pages, .int .i64 y5.spent.rent, .int .i64 y5.spent.cpu, .int .i64 y5.press, .int .i64 y5.lost], sl a6 c7 y5.label.levels, sl a8 c9 y5.own, sl a10 c11 y5.tree, sl a12 c13 y5.heap.arena, sl a14 c15 y5.heap.gc.grey, sl a16 c17 y5.taps, bx g3 66 [.slice none 0 0, .slice none 0 0, .slice none 0 0, .slice none 0 0, .int .i64 0, .int .i64 0, .int .i64 0, .slice none 0 0, .slice none 0 0, .int .i64 0, .int .i64 0, .int .i64 0, .int .i64 0, .int .i64 0, .int .i64 0, .int .i64 0], bx g1 66 [.slice a0_0 x0.label.levels.length c0_0, .slice a0_1 x0.own.length c0_1, .slice a0_2 x0.tree.length c0_2, .slice a0_3 x0.heap.arena.length c0_3, .int .i64 x0.heap.gc.phase, .int .i64 x0.heap.gc.pos, .int .i64 x0.heap.gc.round, .slice a0_7 x0.heap.gc.grey.length c0_7, .slice a0_8 x0.taps.length c0_8, .int .i64 x0.next, .int .i64 x0.want, .int .i64 x0.spent.pages, .int .i64 x0.spent.rent, .int .i64 x0.spent.cpu, .int .i64 x0.press, .int .i64 x0.lost]]) ?_ ?_
  · have h := hj33
    refine go ?_
    rcases bcases (decide (y31 < 0)) with hc35 | hc35
    · replace h := bcT h hc35
      refine go ?_
      cases oi h
      exact ⟨⟨rfl, rfl, rfl, rfl, rfl, trivial⟩, hS12.pick [1, 2, 3, 4, 5, 6, 7, 8, 9] rfl rfl⟩
    replace h := bcF h hc35
    refine go ?_
    rcases bcases (decide (x0.spent.cpu ≥ 1000000)) with hc36 | hc36
    · replace h := bcT h hc36
      refine go ?_
      cases oi h
      exact ⟨⟨rfl, rfl, rfl, rfl, rfl, trivial⟩, hS12.pick [1, 2, 3, 4, 5, 6, 7, 8, 9] rfl rfl⟩
    replace h := bcF h hc36
    refine go ?_
    refine LW.fl [2, 4, 6, 7, 34, 37, 38] fun e => ?_
    replace ⟨y37, hy37, h⟩ := obind h
    obtain ⟨b40, o41, cs42, hae, hb45, hp38, hq39, hd43, hk44⟩ := hr0_3.idx hy37
    subst hae
    obtain ⟨a46, c47, a49, c50, a52, c53, rfl, hr48, hr51, hr54⟩ := hd43
    refine go ?_
    refine LW.u (Pur.ix Tryz.underlying59 sz92 rfl rfl hp38 hq39) rfl ?_
    refine go ?_
    refine LW.l (Ldr.old w0 ag3 rfl (hk44 8 _ rfl)) (hS12.same _ hb45.1 hb45.2) rfl ?_
    refine go ?_
    cases oi h
    exact ⟨⟨rfl, rfl, rfl, rfl, rfl, trivial⟩, hS12.pick [1, 2, 3, 4, 5, 6, 7, 8, 9] rfl rfl⟩
  rintro e w55 ⟨hE, hS13⟩
  obtain ⟨e, rfl⟩ := hE.out
  have h := h34
  refine go ?_
  refine CW.cond rfl (fun hc56 => ?_) (fun hc56 => ?_)
  · replace h := bcT h hc56
    refine go ?_
    refine LW.st hS13 7 fun w57 hS14 => ?_
    refine go ?_
    cases h
    exact And.intro trivial ⟨_, Res.two (resOne.b hS14 7 rfl ag66 rfl rfl) (resOne.t rfl), a6, c7, a8, c9, a10, c11, a12, c13, a14, c15, a16, c17, rfl, hS14.pick [1, 2, 3, 4, 5, 6] rfl rfl⟩
  replace h := bcF h hc56
  refine go ?_
  refine CW.draw (by kernel_rfl) ?_
  have hS15 := hS13.drew
  refine AW.u (i := 0) rfl (by kernel_rfl) rfl rfl (Pur.fa fo66_2 rfl) ?_
  refine AW.take (i := 1) rfl (by kernel_rfl) rfl rfl (Ldr.box (bt := 66) (fr := (0, 0)) (cs := [.slice a0_0 x0.label.levels.length c0_0, .slice a0_1 x0.own.length c0_1, .slice a0_2 x0.tree.length c0_2, .slice a0_3 x0.heap.arena.length c0_3, .int .i64 x0.heap.gc.phase, .int .i64 x0.heap.gc.pos, .int .i64 x0.heap.gc.round, .slice a0_7 x0.heap.gc.grey.length c0_7, .slice a0_8 x0.taps.length c0_8, .int .i64 x0.next, .int .i64 x0.want, .int .i64 x0.spent.pages, .int .i64 x0.spent.rent, .int .i64 x0.spent.cpu, .int .i64 x0.press, .int .i64 x0.lost]) ag58 rfl rfl) (St.cell (h := hS15) (i := 8) rfl) ?_
  refine AW.take (i := 2) rfl (by kernel_rfl) rfl rfl (Ldr.boxN (bt := 66) (fr := (0, 0)) (cs := [.slice a0_0 x0.label.levels.length c0_0, .slice a0_1 x0.own.length c0_1, .slice a0_2 x0.tree.length c0_2, .slice a0_3 x0.heap.arena.length c0_3, .int .i64 x0.heap.gc.phase, .int .i64 x0.heap.gc.pos, .int .i64 x0.heap.gc.round, .slice a0_7 x0.heap.gc.grey.length c0_7, .slice a0_8 x0.taps.length c0_8, .int .i64 x0.next, .int .i64 x0.want, .int .i64 x0.spent.pages, .int .i64 x0.spent.rent, .int .i64 x0.spent.cpu, .int .i64 x0.press, .int .i64 x0.lost]) ag66 rfl rfl) (St.cell (h := hS15) (i := 8) rfl) ?_
  refine AW.u (i := 3) rfl (by kernel_rfl) rfl rfl (Pur.fa fo66_3 rfl) ?_
  refine AW.u (i := 4) rfl (by kernel_rfl) rfl rfl (Pur.fa fo62_0 rfl) ?_
  refine AW.take (i := 5) rfl (by kernel_rfl) rfl rfl (Ldr.box (bt := 66) (fr := (0, 0)) (cs := [.slice a0_0 x0.label.levels.length c0_0, .slice a0_1 x0.own.length c0_1, .slice a0_2 x0.tree.length c0_2, .slice a0_3 x0.heap.arena.length c0_3, .int .i64 x0.heap.gc.phase, .int .i64 x0.heap.gc.pos, .int .i64 x0.heap.gc.round, .slice a0_7 x0.heap.gc.grey.length c0_7, .slice a0_8 x0.taps.length c0_8, .int .i64 x0.next, .int .i64 x0.want, .int .i64 x0.spent.pages, .int .i64 x0.spent.rent, .int .i64 x0.spent.cpu, .int .i64 x0.press, .int .i64 x0.lost]) ag59 rfl rfl) (St.cell (h := hS15) (i := 8) rfl) ?_
  refine AW.u (i := 6) rfl (by kernel_rfl) rfl rfl (Pur.p rfl) ?_
  replace ⟨y58, hy58, h⟩ := obind h
  obtain ⟨b61, o62, cs63, hae, hb66, hp59, hq60, hd64, hk65⟩ := hr0_3.idx hy58
  subst hae
  obtain ⟨a67, c68, a70, c71, a73, c74, rfl, hr69, hr72, hr75⟩ := hd64
  refine AW.u (i := 7) rfl (by kernel_rfl) rfl rfl (Pur.ix Tryz.underlying59 sz92 rfl rfl hp59 hq60) ?_
  refine AW.u (i := 8) rfl (by kernel_rfl) rfl rfl (Pur.fa fo92_3 rfl) ?_
  refine AW.take (i := 9) rfl (by kernel_rfl) rfl rfl (Ldr.old w0 ag3 rfl (hk65 3 _ rfl)) (hS15.same _ hb66.1 hb66.2) ?_
  refine AW.u (i := 11) rfl (by kernel_rfl) rfl rfl (Pur.build (vs := [(2, .int .i64 1)]) (cs := #[.int .i64 0, .int .i64 0, .int .i64 1]) rfl (by kernel_rfl)) ?_
  replace ⟨y76, hy76, h⟩ := obind h
  have q := W_s_ResOf (w0 := w55.drew) hy76 rfl (hS15.rB hr0_0) rfl (hS15.rB hr0_1) rfl (hS15.rB hr0_2) rfl (hS15.rB hr0_3) rfl (hS15.rB hr0_7) rfl (hS15.rB hr0_8)
  refine AW.one (i := 10) (by kernel_rfl) ?_
  refine ⟨_, rfl, ?_⟩
  refine LW.call pl91 rfl rfl ?_
  refine Ret.mono q ?_
  rintro _ w77 ⟨rfl, hs⟩
  have hS16 := hS15.add hs
  refine LW.nil ⟨rfl, (.w (by kernel_rfl) (.c (St.cell (h := hS16) (i := 8) rfl) (.w (by kernel_rfl) (.c (St.cell (h := hS16) (i := 8) rfl) Kept.n)))), ?_⟩
  replace ⟨y78, hy78, h⟩ := obind h
  have q := W_s_TreePay (w0 := w77) hy78 rfl (hS16.rB hr0_2)
  refine AW.one (i := 12) (by kernel_rfl) ?_
  refine ⟨_, rfl, ?_⟩
  refine LW.call pl90 rfl rfl ?_
  refine Ret.mono q ?_
  rintro _ w81 ⟨a79, c80, rfl, hs⟩
  have hS17 := hS16.add hs
  refine LW.nil ⟨rfl, (.c (hS17.same _ hb66.1 hb66.2) (.c (St.cell (h := hS17) (i := 9) rfl) (.c (St.cell (h := hS17) (i := 9) rfl) (.w (by kernel_rfl) Kept.n)))), ?_⟩
  refine AW.u (i := 13) rfl (by kernel_rfl) rfl rfl (Pur.p rfl) ?_
  refine AW.u (i := 14) rfl (by kernel_rfl) rfl rfl (Pur.p rfl) ?_
  refine AW.u (i := 15) rfl (by kernel_rfl) rfl rfl (Pur.p rfl) ?_
  refine AW.u (i := 16) rfl (by kernel_rfl) rfl rfl (Pur.p rfl) ?_
  refine AW.u (i := 17) rfl (by kernel_rfl) rfl rfl (Pur.p rfl) ?_
  refine AW.done (by kernel_rfl) ?_
  refine go ?_
  refine LW.st hS17 1 fun w82 hS18 => ?_
  refine go ?_
  refine LW.st hS18 1 fun w83 hS19 => ?_
  refine go ?_
  refine CW.draw (by kernel_rfl) ?_
  have hS20 := hS19.drew
  refine AW.u (i := 0) rfl (by kernel_rfl) rfl rfl (Pur.fa fo66_3 rfl) ?_
  refine AW.u (i := 1) rfl (by kernel_rfl) rfl rfl (Pur.fa fo62_0 rfl) ?_
  refine AW.take (i := 2) rfl (by kernel_rfl) rfl rfl (Ldr.box (bt := 66) (fr := (0, 0)) (cs := [.slice a6 y5.label.levels.length c7, .slice a8 y5.own.length c9, .slice a79 y78.1.length c80, .slice a12 y5.heap.arena.length c13, .int .i64 y5.heap.gc.phase, .int .i64 y5.heap.gc.pos, .int .i64 y5.heap.gc.round, .slice a14 y5.heap.gc.grey.length c15, .slice a16 y5.taps.length c17, .int .i64 y5.next, .int .i64 0, .int .i64 y5.spent.pages, .int .i64 y5.spent.rent, .int .i64 (IntKind.i64.wrap (x0.spent.cpu + 1)), .int .i64 y5.press, .int .i64 y5.lost]) ag59 rfl rfl) (St.cell (h := hS20) (i := 1) rfl) ?_
  refine AW.u (i := 3) rfl (by kernel_rfl) rfl rfl (Pur.p rfl) ?_
  refine AW.u (i := 4) rfl (by kernel_rfl) rfl rfl (Pur.fa fo66_3 rfl) ?_
  refine AW.u (i := 5) rfl (by kernel_rfl) rfl rfl (Pur.fa fo62_0 rfl) ?_
  refine AW.take (i := 6) rfl (by kernel_rfl) rfl rfl (Ldr.box (bt := 66) (fr := (0, 0)) (cs := [.slice a0_0 x0.label.levels.length c0_0, .slice a0_1 x0.own.length c0_1, .slice a0_2 x0.tree.length c0_2, .slice (some ⟨b61, o62, none⟩) x0.heap.arena.length c0_3, .int .i64 x0.heap.gc.phase, .int .i64 x0.heap.gc.pos, .int .i64 x0.heap.gc.round, .slice a0_7 x0.heap.gc.grey.length c0_7, .slice a0_8 x0.taps.length c0_8, .int .i64 x0.next, .int .i64 x0.want, .int .i64 x0.spent.pages, .int .i64 x0.spent.rent, .int .i64 x0.spent.cpu, .int .i64 x0.press, .int .i64 x0.lost]) ag59 rfl rfl) (St.cell (h := hS20) (i := 9) rfl) ?_
  refine AW.u (i := 7) rfl (by kernel_rfl) rfl rfl (Pur.p rfl) ?_
  refine AW.u (i := 8) rfl (by kernel_rfl) rfl rfl (Pur.ix Tryz.underlying59 sz92 rfl rfl hp59 hq60) ?_
  refine AW.u (i := 9) rfl (by kernel_rfl) rfl rfl (Pur.fa fo92_8 rfl) ?_
  refine AW.take (i := 10) rfl (by kernel_rfl) rfl rfl (Ldr.old w0 ag3 rfl (hk65 8 _ rfl)) (hS20.same _ hb66.1 hb66.2) ?_
  refine AW.u (i := 11) rfl (by kernel_rfl) rfl rfl (Pur.p rfl) ?_
  replace ⟨y84, hy84, h⟩ := obind h
  obtain ⟨b87, o88, hae, hp85, hq86⟩ := hS20.ownIdx (α := DObj) (i := 5) rfl hy84
  subst hae
  refine AW.u (i := 12) rfl (by kernel_rfl) rfl rfl (Pur.ix Tryz.underlying59 sz92 rfl rfl hp85 hq86) ?_
  refine AW.u (i := 13) rfl (by kernel_rfl) rfl rfl (Pur.fa fo92_8 rfl) ?_
  replace ⟨y89, hy89, h⟩ := obind h
  refine AW.one (i := 14) (by kernel_rfl) ?_
  refine ⟨_, rfl, ?_⟩
  refine LW.stE (M := []) (L := [sl a79 c80 y78.1, bx g19 66 [.slice a6 y5.label.levels.length c7, .slice a8 y5.own.length c9, .slice a79 y78.1.length c80, .slice (some ⟨b87, o88, none⟩) y5.heap.arena.length c13, .int .i64 y5.heap.gc.phase, .int .i64 y5.heap.gc.pos, .int .i64 y5.heap.gc.round, .slice a14 y5.heap.gc.grey.length c15, .slice a16 y5.taps.length c17, .int .i64 y5.next, .int .i64 0, .int .i64 y5.spent.pages, .int .i64 y5.spent.rent, .int .i64 (IntKind.i64.wrap (x0.spent.cpu + 1)), .int .i64 y5.press, .int .i64 y5.lost], sl a6 c7 y5.label.levels, sl a8 c9 y5.own, sl a10 c11 y5.tree, sl (some ⟨b87, o88, none⟩) c13 y5.heap.arena, sl a14 c15 y5.heap.gc.grey, sl a16 c17 y5.taps, bx g3 66 [.slice none 0 0, .slice none 0 0, .slice none 0 0, .slice none 0 0, .int .i64 0, .int .i64 0, .int .i64 0, .slice none 0 0, .slice none 0 0, .int .i64 0, .int .i64 0, .int .i64 0, .int .i64 0, .int .i64 0, .int .i64 0, .int .i64 0], bx g1 66 [.slice a0_0 x0.label.levels.length c0_0, .slice a0_1 x0.own.length c0_1, .slice a0_2 x0.tree.length c0_2, .slice (some ⟨b61, o62, none⟩) x0.heap.arena.length c0_3, .int .i64 x0.heap.gc.phase, .int .i64 x0.heap.gc.pos, .int .i64 x0.heap.gc.round, .slice a0_7 x0.heap.gc.grey.length c0_7, .slice a0_8 x0.taps.length c0_8, .int .i64 x0.next, .int .i64 x0.want, .int .i64 x0.spent.pages, .int .i64 x0.spent.rent, .int .i64 x0.spent.cpu, .int .i64 x0.press, .int .i64 x0.lost]]) (z := y84) (z' := (DObj.mk y84.gen y84.kind y84.box y84.res y84.til y84.pages y84.wait y84.got (IntKind.i64.wrap (y58.ran + 1)) y84.mark y84.links y84.data y84.queue)) (o := 8) hS20 (i := 5) rfl hy84 ag3 rfl (by show _ = o88 + (y31 : Int).toNat * 13 + 8; omega) rfl rfl rfl rfl (leafF (fun w cs F hF => by obtain ⟨q0, r0, q1, r1, q2, r2, rfl, hH⟩ := hF; exact ⟨q0, r0, q1, r1, q2, r2, rfl, hH⟩)) ?_
  intro w90 hS21 hf
  rw [Option.some.inj hy89] at hS21
  refine LW.nil ⟨rfl, (.w (by kernel_rfl) (.w (by kernel_rfl) (.w (by kernel_rfl) Kept.n))), ?_⟩
  refine AW.done (by kernel_rfl) ?_
  refine go ?_
  refine LW.st hS21 1 fun w91 hS22 => ?_
  refine go ?_
  refine LW.fl [4, 85, 86] fun e => ?_
  refine LW.st hS22 8 fun w92 hS23 => ?_
  refine go ?_
  cases h
  rw [show y5.heap.arena.length = y89.length from (len_set (Option.some.inj hy89))] at hS23
  exact And.intro trivial ⟨_, Res.two (resOne.b hS23 8 rfl ag66 rfl rfl) (resOne.t rfl), a6, c7, a8, c9, a79, c80, (some ⟨b87, o88, none⟩), c13, a14, c15, a16, c17, rfl, hS23.pick [2, 3, 0, 5, 6, 7] rfl rfl⟩

theorem W_i_Runnable {w0 : World} {N : Nat} {x0 : DPart} {x1 : Int} {r : (List Int)} (h : F_i_Runnable N x0 x1 = some r) {a0_0 : Option Addr} {n0_0 c0_0 : Nat} (hn0_0 : n0_0 = x0.label.levels.length) (hr0_0 : rdS (Bor w0 []) w0 a0_0 c0_0 x0.label.levels) {a0_1 : Option Addr} {n0_1 c0_1 : Nat} (hn0_1 : n0_1 = x0.own.length) (hr0_1 : rdS (Bor w0 []) w0 a0_1 c0_1 x0.own) {a0_2 : Option Addr} {n0_2 c0_2 : Nat} (hn0_2 : n0_2 = x0.tree.length) (hr0_2 : rdS (Bor w0 []) w0 a0_2 c0_2 x0.tree) {a0_3 : Option Addr} {n0_3 c0_3 : Nat} (hn0_3 : n0_3 = x0.heap.arena.length) (hr0_3 : rdS (Bor w0 []) w0 a0_3 c0_3 x0.heap.arena) {a0_7 : Option Addr} {n0_7 c0_7 : Nat} (hn0_7 : n0_7 = x0.heap.gc.grey.length) (hr0_7 : rdS (Bor w0 []) w0 a0_7 c0_7 x0.heap.gc.grey) {a0_8 : Option Addr} {n0_8 c0_8 : Nat} (hn0_8 : n0_8 = x0.taps.length) (hr0_8 : rdS (Bor w0 []) w0 a0_8 c0_8 x0.taps) :
    Ret Tryz.prog 93 #[.agg #[.slice a0_0 n0_0 c0_0, .slice a0_1 n0_1 c0_1, .slice a0_2 n0_2 c0_2, .slice a0_3 n0_3 c0_3, .int .i64 x0.heap.gc.phase, .int .i64 x0.heap.gc.pos, .int .i64 x0.heap.gc.round, .slice a0_7 n0_7 c0_7, .slice a0_8 n0_8 c0_8, .int .i64 x0.next, .int .i64 x0.want, .int .i64 x0.spent.pages, .int .i64 x0.spent.rent, .int .i64 x0.spent.cpu, .int .i64 x0.press, .int .i64 x0.lost], .int .i64 x1] w0 (fun v w => ∃ ar0 cr0, v = .slice ar0 r.length cr0 ∧ St w0 [] w [sl ar0 cr0 r]) := by
  subst hn0_0 hn0_1 hn0_2 hn0_3 hn0_7 hn0_8
  unfold F_i_Runnable at h
  refine Ret.fn Tryz.func93 fun e => ?_
  have hS1 := St.start w0
  refine go ?_
  refine LW.bo hS1 fun g1 w2 hS2 => ?_
  refine go ?_
  refine LW.bsl (α := Int) (vs := []) (cs := #[]) (l := ([] : List Int)) rfl (by kernel_rfl) rfl rfl rfl (fun w => rfl) hS2 rfl ?_
  intro a3 c4 w5 hS3 hf
  refine go ?_
  replace ⟨y6, hy6, h⟩ := obind h
  refine LW.cl (W_i_Threads hy6 rfl (hS3.rB hr0_0) rfl (hS3.rB hr0_1) rfl (hS3.rB hr0_2) rfl (hS3.rB hr0_3) rfl (hS3.rB hr0_7) rfl (hS3.rB hr0_8)) ?_
  rintro _ w9 ⟨a7, c8, rfl, hs⟩
  have hS4 := hS3.add hs
  refine go ?_
  obtain ⟨o56, ho56, h57⟩ := obind h
  refine CW.mono (CW.iter (σ := (List Int) × Int) (ρ := (List Int) × Int) (fun s10 e wb => ∃ (s10a0 : Option Addr), ∃ (s10c0 : Nat), En e [(2, .pointer (some ⟨g1, 0, none⟩)), (5, .slice s10a0 s10.1.length s10c0), (11, .slice a7 y6.length c8), (12, .int .i64 (y6.length : Int)), (13, .int .i64 s10.2)] ∧ St w0 [] wb [sl a7 c8 y6, sl s10a0 s10c0 s10.1, bx g1 66 [.slice a0_0 x0.label.levels.length c0_0, .slice a0_1 x0.own.length c0_1, .slice a0_2 x0.tree.length c0_2, .slice a0_3 x0.heap.arena.length c0_3, .int .i64 x0.heap.gc.phase, .int .i64 x0.heap.gc.pos, .int .i64 x0.heap.gc.round, .slice a0_7 x0.heap.gc.grey.length c0_7, .slice a0_8 x0.taps.length c0_8, .int .i64 x0.next, .int .i64 x0.want, .int .i64 x0.spent.pages, .int .i64 x0.spent.rent, .int .i64 x0.spent.cpu, .int .i64 x0.press, .int .i64 x0.lost]]) (fun s10 x e wb => x = .exit 0 ∧ ∃ (s10a0 : Option Addr), ∃ (s10c0 : Nat), En e [(5, .slice s10a0 s10.1.length s10c0)] ∧ St w0 [] wb [sl a7 c8 y6, sl s10a0 s10c0 s10.1, bx g1 66 [.slice a0_0 x0.label.levels.length c0_0, .slice a0_1 x0.own.length c0_1, .slice a0_2 x0.tree.length c0_2, .slice a0_3 x0.heap.arena.length c0_3, .int .i64 x0.heap.gc.phase, .int .i64 x0.heap.gc.pos, .int .i64 x0.heap.gc.round, .slice a0_7 x0.heap.gc.grey.length c0_7, .slice a0_8 x0.taps.length c0_8, .int .i64 x0.next, .int .i64 x0.want, .int .i64 x0.spent.pages, .int .i64 x0.spent.rent, .int .i64 x0.spent.cpu, .int .i64 x0.press, .int .i64 x0.lost]]) ?_ N (([] : List Int), 0) _ _ _ ⟨a3, c4, ⟨rfl, rfl, rfl, rfl, rfl, trivial⟩, hS4.pick [0, 1, 2] rfl rfl⟩ ho56) ?_
  · intro s10 e w11 o hM h
    obtain ⟨s10a0, s10c0, hE, hS5⟩ := hM
    obtain ⟨e, rfl⟩ := hE.out
    refine go ?_
    refine CW.cond rfl (fun hc12 => ?_) (fun hc12 => ?_)
    · replace h := bcT h hc12
      refine go ?_
      replace ⟨y13, hy13, h⟩ := obind h
      obtain ⟨b16, o17, hae, hp14, hq15⟩ := hS5.ownIdx (α := Int) (i := 0) rfl hy13
      subst hae
      refine LW.u (Pur.ix Tryz.underlying28 sz3 rfl rfl hp14 hq15) rfl ?_
      obtain ⟨F18, ho19, hS6⟩ := hS5.freeze (α := Int) 0 rfl
      obtain ⟨b20, o21, cs22, hae, hb25, _, _, hd23, hk24⟩ := ho19.rdF.idx hy13
      cases hae
      obtain rfl := hd23
      refine LW.l (Ldr.old w11 ag3 rfl (hk24 0 _ rfl)) (hS6.zC 0 rfl hb25) rfl ?_
      refine gs ?_
      obtain ⟨j26, hj26, h27⟩ := obind h
      refine CW.cut (fun e wb => En e [(2, .pointer (some ⟨g1, 0, none⟩)), (5, .slice s10a0 s10.1.length s10c0), (7, .int .i64 y13), (11, .slice (some ⟨b16, o17, none⟩) y6.length c8), (12, .int .i64 (y6.length : Int)), (13, .int .i64 s10.2), (31, .bool j26)] ∧ St w0 [] wb [fz w11 F18, sl s10a0 s10c0 s10.1, bx g1 66 [.slice a0_0 x0.label.levels.length c0_0, .slice a0_1 x0.own.length c0_1, .slice a0_2 x0.tree.length c0_2, .slice a0_3 x0.heap.arena.length c0_3, .int .i64 x0.heap.gc.phase, .int .i64 x0.heap.gc.pos, .int .i64 x0.heap.gc.round, .slice a0_7 x0.heap.gc.grey.length c0_7, .slice a0_8 x0.taps.length c0_8, .int .i64 x0.next, .int .i64 x0.want, .int .i64 x0.spent.pages, .int .i64 x0.spent.rent, .int .i64 x0.spent.cpu, .int .i64 x0.press, .int .i64 x0.lost]]) ?_ ?_
      · have h := hj26
        refine go ?_
        replace ⟨y28, hy28, h⟩ := obind h
        obtain ⟨b31, o32, cs33, hae, hb36, hp29, hq30, hd34, hk35⟩ := hr0_3.idx hy28
        subst hae
        obtain ⟨a37, c38, a40, c41, a43, c44, rfl, hr39, hr42, hr45⟩ := hd34
        refine LW.u (Pur.ix Tryz.underlying59 sz92 rfl rfl hp29 hq30) rfl ?_
        refine go ?_
        refine LW.l (Ldr.old w0 ag3 rfl (hk35 6 _ rfl)) (hS6.same _ hb36.1 hb36.2) rfl ?_
        refine go ?_
        refine LW.fl [2, 5, 7, 11, 12, 13, 25] fun e => ?_
        rcases bcases (y28.wait == 0) with hc46 | hc46
        · replace h := bcT h hc46
          refine go ?_
          replace ⟨y47, hy47, h⟩ := obind h
          refine go ?_
          refine LW.c0 (W_i_balOf hy47 rfl (hS6.rB hr0_0) rfl (hS6.rB hr0_1) rfl (hS6.rB hr0_2) rfl (hS6.rB hr0_3) rfl (hS6.rB hr0_7) rfl (hS6.rB hr0_8)) hS6 fun w48 hS7 => ?_
          refine go ?_
          refine LW.u (Pur.fd fo64_2 rfl rfl) rfl ?_
          refine go ?_
          cases oi h
          exact ⟨⟨rfl, rfl, rfl, rfl, rfl, rfl, rfl, trivial⟩, hS7.pick [0, 1, 2] rfl rfl⟩
        replace h := bcF h hc46
        refine go ?_
        cases oi h
        exact ⟨⟨rfl, rfl, rfl, rfl, rfl, rfl, rfl, trivial⟩, hS6.pick [0, 1, 2] rfl rfl⟩
      rintro e w49 ⟨hE, hS8⟩
      obtain ⟨e, rfl⟩ := hE.out
      have h := h27
      refine go ?_
      refine CW.fl [2, 5, 7, 11, 12, 13, 31] fun e => ?_
      refine CW.cond rfl (fun hc50 => ?_) (fun hc50 => ?_)
      · replace h := bcT h hc50
        refine go ?_
        replace ⟨y51, hy51, h⟩ := obind h
        refine LW.app1 (M := []) (L := [fz w11 F18, sl s10a0 s10c0 s10.1, bx g1 66 [.slice a0_0 x0.label.levels.length c0_0, .slice a0_1 x0.own.length c0_1, .slice a0_2 x0.tree.length c0_2, .slice a0_3 x0.heap.arena.length c0_3, .int .i64 x0.heap.gc.phase, .int .i64 x0.heap.gc.pos, .int .i64 x0.heap.gc.round, .slice a0_7 x0.heap.gc.grey.length c0_7, .slice a0_8 x0.taps.length c0_8, .int .i64 x0.next, .int .i64 x0.want, .int .i64 x0.spent.pages, .int .i64 x0.spent.rent, .int .i64 x0.spent.cpu, .int .i64 x0.press, .int .i64 x0.lost]]) (vs := #[.int .i64 y13]) (i := 1) sT28 rfl (by kernel_rfl) rfl rfl hy51 hS8 rfl (fun w G hG => by cases (show G = [] from hG); exact ⟨rfl, rfl⟩) rfl rfl ?_
        intro v54 a52 c53 w55 hS9 hf
        refine go ?_
        have hS10 := hS9.thaw (α := Int) 0 rfl ho19
        cases oi h
        exact ⟨rfl, ⟨a52, c53, ⟨rfl, rfl, rfl, rfl, rfl, trivial⟩, hS10.pick [0, 1, 2] rfl rfl⟩⟩
      replace h := bcF h hc50
      refine go ?_
      have hS11 := hS8.thaw (α := Int) 0 rfl ho19
      cases oi h
      exact ⟨rfl, ⟨s10a0, s10c0, ⟨rfl, rfl, rfl, rfl, rfl, trivial⟩, hS11.pick [0, 1, 2] rfl rfl⟩⟩
    replace h := bcF h hc12
    refine go ?_
    cases oi h
    exact ⟨trivial, rfl, ⟨s10a0, s10c0, ⟨rfl, trivial⟩, hS5.pick [0, 1, 2] rfl rfl⟩⟩
  intro x e w58 hM
  obtain ⟨rfl, hM⟩ := hM
  obtain ⟨s10a0, s10c0, hE, hS12⟩ := hM
  obtain ⟨e, rfl⟩ := hE.out
  have h := h57
  refine go ?_
  cases h
  exact And.intro trivial ⟨_, Res.one (resOne.t rfl), s10a0, s10c0, rfl, hS12.pick [1] rfl rfl⟩

theorem W_i_PartRun {w0 : World} {N : Nat} {x0 : DPart} {x1 : Int} {r : DPart × Int} (h : F_i_PartRun N x0 x1 = some r) {a0_0 : Option Addr} {n0_0 c0_0 : Nat} (hn0_0 : n0_0 = x0.label.levels.length) (hr0_0 : rdS (Bor w0 []) w0 a0_0 c0_0 x0.label.levels) {a0_1 : Option Addr} {n0_1 c0_1 : Nat} (hn0_1 : n0_1 = x0.own.length) (hr0_1 : rdS (Bor w0 []) w0 a0_1 c0_1 x0.own) {a0_2 : Option Addr} {n0_2 c0_2 : Nat} (hn0_2 : n0_2 = x0.tree.length) (hr0_2 : rdS (Bor w0 []) w0 a0_2 c0_2 x0.tree) {a0_3 : Option Addr} {n0_3 c0_3 : Nat} (hn0_3 : n0_3 = x0.heap.arena.length) (hr0_3 : rdS (Bor w0 []) w0 a0_3 c0_3 x0.heap.arena) {a0_7 : Option Addr} {n0_7 c0_7 : Nat} (hn0_7 : n0_7 = x0.heap.gc.grey.length) (hr0_7 : rdS (Bor w0 []) w0 a0_7 c0_7 x0.heap.gc.grey) {a0_8 : Option Addr} {n0_8 c0_8 : Nat} (hn0_8 : n0_8 = x0.taps.length) (hr0_8 : rdS (Bor w0 []) w0 a0_8 c0_8 x0.taps) :
    Ret Tryz.prog 32 #[.agg #[.slice a0_0 n0_0 c0_0, .slice a0_1 n0_1 c0_1, .slice a0_2 n0_2 c0_2, .slice a0_3 n0_3 c0_3, .int .i64 x0.heap.gc.phase, .int .i64 x0.heap.gc.pos, .int .i64 x0.heap.gc.round, .slice a0_7 n0_7 c0_7, .slice a0_8 n0_8 c0_8, .int .i64 x0.next, .int .i64 x0.want, .int .i64 x0.spent.pages, .int .i64 x0.spent.rent, .int .i64 x0.spent.cpu, .int .i64 x0.press, .int .i64 x0.lost], .int .i64 x1] w0 (fun v w => ∃ ar0_0 cr0_0, ∃ ar0_1 cr0_1, ∃ ar0_2 cr0_2, ∃ ar0_3 cr0_3, ∃ ar0_7 cr0_7, ∃ ar0_8 cr0_8, v = .tuple #[.agg #[.slice ar0_0 r.1.label.levels.length cr0_0, .slice ar0_1 r.1.own.length cr0_1, .slice ar0_2 r.1.tree.length cr0_2, .slice ar0_3 r.1.heap.arena.length cr0_3, .int .i64 r.1.heap.gc.phase, .int .i64 r.1.heap.gc.pos, .int .i64 r.1.heap.gc.round, .slice ar0_7 r.1.heap.gc.grey.length cr0_7, .slice ar0_8 r.1.taps.length cr0_8, .int .i64 r.1.next, .int .i64 r.1.want, .int .i64 r.1.spent.pages, .int .i64 r.1.spent.rent, .int .i64 r.1.spent.cpu, .int .i64 r.1.press, .int .i64 r.1.lost], .int .i64 r.2] ∧ St w0 [] w [sl ar0_0 cr0_0 r.1.label.levels, sl ar0_1 cr0_1 r.1.own, sl ar0_2 cr0_2 r.1.tree, sl ar0_3 cr0_3 r.1.heap.arena, sl ar0_7 cr0_7 r.1.heap.gc.grey, sl ar0_8 cr0_8 r.1.taps]) := by
  subst hn0_0 hn0_1 hn0_2 hn0_3 hn0_7 hn0_8
  unfold F_i_PartRun at h
  refine Ret.fn Tryz.func32 fun e => ?_
  have hS1 := St.start w0
  refine go ?_
  refine LW.bo hS1 fun g1 w2 hS2 => ?_
  refine LW.al hS2 fun g3 w4 hS3 => ?_
  refine go ?_
  replace ⟨y5, hy5, h⟩ := obind h
  refine LW.cl (W_i_copyPart hy5 rfl (hS3.rB hr0_0) rfl (hS3.rB hr0_1) rfl (hS3.rB hr0_2) rfl (hS3.rB hr0_3) rfl (hS3.rB hr0_7) rfl (hS3.rB hr0_8)) ?_
  rintro _ w18 ⟨a6, c7, a8, c9, a10, c11, a12, c13, a14, c15, a16, c17, rfl, hs⟩
  have hS4 := hS3.add hs
  refine LW.al hS4 fun g19 w20 hS5 => ?_
  refine LW.st hS5 0 fun w21 hS6 => ?_
  refine go ?_
  replace ⟨y22, hy22, h⟩ := obind h
  refine LW.c0 (W_i_PartOk hy22 rfl (hS6.rB hr0_0) rfl (hS6.rB hr0_1) rfl (hS6.rB hr0_2) rfl (hS6.rB hr0_3) rfl (hS6.rB hr0_7) rfl (hS6.rB hr0_8)) hS6 fun w23 hS7 => ?_
  refine go ?_
  refine CW.cond rfl (fun hc24 => ?_) (fun hc24 => ?_)
  · replace h := bcT h hc24
    refine go ?_
    refine LW.st hS7 7 fun w25 hS8 => ?_
    refine go ?_
    cases h
    exact And.intro trivial ⟨_, Res.two (resOne.b hS8 7 rfl ag66 rfl rfl) (resOne.t rfl), a6, c7, a8, c9, a10, c11, a12, c13, a14, c15, a16, c17, rfl, hS8.pick [1, 2, 3, 4, 5, 6] rfl rfl⟩
  replace h := bcF h hc24
  refine go ?_
  refine LW.st hS7 0 fun w26 hS9 => ?_
  refine go ?_
  refine CW.draw (by kernel_rfl) ?_
  have hS10 := hS9.drew
  refine AW.take (i := 0) rfl (by kernel_rfl) rfl rfl (Ldr.boxN (bt := 66) (fr := (0, 0)) (cs := [.slice a0_0 x0.label.levels.length c0_0, .slice a0_1 x0.own.length c0_1, .slice a0_2 x0.tree.length c0_2, .slice a0_3 x0.heap.arena.length c0_3, .int .i64 x0.heap.gc.phase, .int .i64 x0.heap.gc.pos, .int .i64 x0.heap.gc.round, .slice a0_7 x0.heap.gc.grey.length c0_7, .slice a0_8 x0.taps.length c0_8, .int .i64 x0.next, .int .i64 x0.want, .int .i64 x0.spent.pages, .int .i64 x0.spent.rent, .int .i64 x0.spent.cpu, .int .i64 x0.press, .int .i64 x0.lost]) ag66 rfl rfl) (St.cell (h := hS10) (i := 8) rfl) ?_
  refine AW.u (i := 1) rfl (by kernel_rfl) rfl rfl (Pur.p rfl) ?_
  refine AW.u (i := 3) rfl (by kernel_rfl) rfl rfl (Pur.fa fo66_5 rfl) ?_
  refine AW.take (i := 4) rfl (by kernel_rfl) rfl rfl (Ldr.box (bt := 66) (fr := (0, 0)) (cs := [.slice a0_0 x0.label.levels.length c0_0, .slice a0_1 x0.own.length c0_1, .slice a0_2 x0.tree.length c0_2, .slice a0_3 x0.heap.arena.length c0_3, .int .i64 x0.heap.gc.phase, .int .i64 x0.heap.gc.pos, .int .i64 x0.heap.gc.round, .slice a0_7 x0.heap.gc.grey.length c0_7, .slice a0_8 x0.taps.length c0_8, .int .i64 x0.next, .int .i64 x0.want, .int .i64 x0.spent.pages, .int .i64 x0.spent.rent, .int .i64 x0.spent.cpu, .int .i64 x0.press, .int .i64 x0.lost]) ag3 rfl rfl) (St.cell (h := hS10) (i := 8) rfl) ?_
  refine AW.u (i := 5) rfl (by kernel_rfl) rfl rfl (Pur.fa fo66_6 rfl) ?_
  refine AW.take (i := 6) rfl (by kernel_rfl) rfl rfl (Ldr.box (bt := 66) (fr := (0, 0)) (cs := [.slice a0_0 x0.label.levels.length c0_0, .slice a0_1 x0.own.length c0_1, .slice a0_2 x0.tree.length c0_2, .slice a0_3 x0.heap.arena.length c0_3, .int .i64 x0.heap.gc.phase, .int .i64 x0.heap.gc.pos, .int .i64 x0.heap.gc.round, .slice a0_7 x0.heap.gc.grey.length c0_7, .slice a0_8 x0.taps.length c0_8, .int .i64 x0.next, .int .i64 x0.want, .int .i64 x0.spent.pages, .int .i64 x0.spent.rent, .int .i64 x0.spent.cpu, .int .i64 x0.press, .int .i64 x0.lost]) ag3 rfl rfl) (St.cell (h := hS10) (i := 8) rfl) ?_
  refine AW.u (i := 7) rfl (by kernel_rfl) rfl rfl (Pur.p rfl) ?_
  replace ⟨y27, hy27, h⟩ := obind h
  have q := W_i_Runnable (w0 := w26.drew) hy27 rfl (hS10.rB hr0_0) rfl (hS10.rB hr0_1) rfl (hS10.rB hr0_2) rfl (hS10.rB hr0_3) rfl (hS10.rB hr0_7) rfl (hS10.rB hr0_8)
  refine AW.one (i := 2) (by kernel_rfl) ?_
  refine ⟨_, rfl, ?_⟩
  refine LW.call pl93 rfl rfl ?_
  refine Ret.mono q ?_
  rintro _ w30 ⟨a28, c29, rfl, hs⟩
  have hS11 := hS10.add hs
  refine LW.nil ⟨rfl, (.c (St.cell (h := hS11) (i := 9) rfl) (.c (St.cell (h := hS11) (i := 9) rfl) (.w (by kernel_rfl) Kept.n))), ?_⟩
  replace ⟨y31, hy31, h⟩ := obind h
  have q := W_i_RunNext (w0 := w30) hy31 rfl (hS11.rI 0 rfl)
  refine AW.one (i := 8) (by kernel_rfl) ?_
  refine ⟨_, rfl, ?_⟩
  refine LW.call pl92 rfl rfl ?_
  refine Ret.mono q ?_
  rintro _ w32 ⟨rfl, hs⟩
  have hS12 := hS11.add hs
  refine LW.nil ⟨rfl, (.c (St.cell (h := hS12) (i := 9) rfl) (.w (by kernel_rfl) (.c (St.cell (h := hS12) (i := 9) rfl) Kept.n))), ?_⟩
  refine AW.u (i := 9) rfl (by kernel_rfl) rfl rfl (Pur.p rfl) ?_
  refine AW.done (by kernel_rfl) ?_
  refine gs ?_
  obtain ⟨j33, hj33, h34⟩ := obind h
  refine CW.cut (fun e wb => En e [(2, .pointer (some ⟨g1, 0, none⟩)), (4, .pointer (some ⟨g3, 0, none⟩)), (6, .pointer (some ⟨g19, 0, none⟩)), (7, .int .i64 y31), (42, .bool j33)] ∧ St w0 [] wb [bx g19 66 [.slice a6 y5.label.levels.length c7, .slice a8 y5.own.length c9, .slice a10 y5.tree.length c11, .slice a12 y5.heap.arena.length c13, .int .i64 y5.heap.gc.phase, .int .i64 y5.heap.gc.pos, .int .i64 y5.heap.gc.round, .slice a14 y5.heap.gc.grey.length c15, .slice a16 y5.taps.length c17, .int .i64 y5.next, .int .i64 0, .int .i64 y5.spent.pages, .int .i64 y5.spent.rent, .int .i64 y5.spent.cpu, .int .i64 y5.press, .int .i64 y5.lost], sl a6 c7 y5.label.levels, sl a8 c9 y5.own, sl a10 c11 y5.tree, sl a12 c13 y5.heap.arena, sl a14 c15 y5.heap.gc.grey, sl a16 c17 y5.taps, bx g3 66 [.slice none 0 0, .slice none 0 0, .slice none 0 0, .slice none 0 0, .int .i64 0, .int .i64 0, .int .i64 0, .slice none 0 0, .slice none 0 0, .int .i64 0, .int .i64 0, .int .i64 0, .int .i64 0, .int .i64 0, .int .i64 0, .int .i64 0], bx g1 66 [.slice a0_0 x0.label.levels.length c0_0, .slice a0_1 x0.own.length c0_1, .slice a0_2 x0.tree.length c0_2, .slice a0_3 x0.heap.arena.length c0_3, .int .i64 x0.heap.gc.phase, .int .i64 x0.heap.gc.pos, .int .i64 x0.heap.gc.round, .slice a0_7 x0.heap.gc.grey.length c0_7, .slice a0_8 x0.taps.length c0_8, .int .i64 x0.next, .int .i64 x0.want, .int .i64 x0.spent.pages, .int .i64 x0.spent.rent, .int .i64 x0.spent.cpu, .int .i64 x0.press, .int .i64 x0.lost]]) ?_ ?_
  · have h := hj33
    refine go ?_
    rcases bcases (decide (y31 < 0)) with hc35 | hc35
    · replace h := bcT h hc35
      refine go ?_
      cases oi h
      exact ⟨⟨rfl, rfl, rfl, rfl, rfl, trivial⟩, hS12.pick [1, 2, 3, 4, 5, 6, 7, 8, 9] rfl rfl⟩
    replace h := bcF h hc35
    refine go ?_
    rcases bcases (x0.spent.cpu == 1000000) with hc36 | hc36
    · replace h := bcT h hc36
      refine go ?_
      cases oi h
      exact ⟨⟨rfl, rfl, rfl, rfl, rfl, trivial⟩, hS12.pick [1, 2, 3, 4, 5, 6, 7, 8, 9] rfl rfl⟩
    replace h := bcF h hc36
    refine go ?_
    refine LW.fl [2, 4, 6, 7, 33, 36, 37] fun e => ?_
    replace ⟨y37, hy37, h⟩ := obind h
    obtain ⟨b40, o41, cs42, hae, hb45, hp38, hq39, hd43, hk44⟩ := hr0_3.idx hy37
    subst hae
    obtain ⟨a46, c47, a49, c50, a52, c53, rfl, hr48, hr51, hr54⟩ := hd43
    refine go ?_
    refine LW.u (Pur.ix Tryz.underlying59 sz92 rfl rfl hp38 hq39) rfl ?_
    refine go ?_
    refine LW.l (Ldr.old w0 ag3 rfl (hk44 8 _ rfl)) (hS12.same _ hb45.1 hb45.2) rfl ?_
    refine go ?_
    cases oi h
    exact ⟨⟨rfl, rfl, rfl, rfl, rfl, trivial⟩, hS12.pick [1, 2, 3, 4, 5, 6, 7, 8, 9] rfl rfl⟩
  rintro e w55 ⟨hE, hS13⟩
  obtain ⟨e, rfl⟩ := hE.out
  have h := h34
  refine go ?_
  refine CW.cond rfl (fun hc56 => ?_) (fun hc56 => ?_)
  · replace h := bcT h hc56
    refine go ?_
    refine LW.st hS13 7 fun w57 hS14 => ?_
    refine go ?_
    cases h
    exact And.intro trivial ⟨_, Res.two (resOne.b hS14 7 rfl ag66 rfl rfl) (resOne.t rfl), a6, c7, a8, c9, a10, c11, a12, c13, a14, c15, a16, c17, rfl, hS14.pick [1, 2, 3, 4, 5, 6] rfl rfl⟩
  replace h := bcF h hc56
  refine go ?_
  replace ⟨y58, hy58, h⟩ := obind h
  refine LW.c0 (W_i_AmtOne hy58) hS13 fun w59 hS15 => ?_
  refine LW.al hS15 fun g60 w61 hS16 => ?_
  refine LW.st hS16 0 fun w62 hS17 => ?_
  refine go ?_
  refine CW.draw (by kernel_rfl) ?_
  have hS18 := hS17.drew
  refine AW.u (i := 0) rfl (by kernel_rfl) rfl rfl (Pur.fa fo66_2 rfl) ?_
  refine AW.take (i := 1) rfl (by kernel_rfl) rfl rfl (Ldr.box (bt := 66) (fr := (0, 0)) (cs := [.slice a0_0 x0.label.levels.length c0_0, .slice a0_1 x0.own.length c0_1, .slice a0_2 x0.tree.length c0_2, .slice a0_3 x0.heap.arena.length c0_3, .int .i64 x0.heap.gc.phase, .int .i64 x0.heap.gc.pos, .int .i64 x0.heap.gc.round, .slice a0_7 x0.heap.gc.grey.length c0_7, .slice a0_8 x0.taps.length c0_8, .int .i64 x0.next, .int .i64 x0.want, .int .i64 x0.spent.pages, .int .i64 x0.spent.rent, .int .i64 x0.spent.cpu, .int .i64 x0.press, .int .i64 x0.lost]) ag58 rfl rfl) (St.cell (h := hS18) (i := 9) rfl) ?_
  refine AW.take (i := 2) rfl (by kernel_rfl) rfl rfl (Ldr.boxN (bt := 66) (fr := (0, 0)) (cs := [.slice a0_0 x0.label.levels.length c0_0, .slice a0_1 x0.own.length c0_1, .slice a0_2 x0.tree.length c0_2, .slice a0_3 x0.heap.arena.length c0_3, .int .i64 x0.heap.gc.phase, .int .i64 x0.heap.gc.pos, .int .i64 x0.heap.gc.round, .slice a0_7 x0.heap.gc.grey.length c0_7, .slice a0_8 x0.taps.length c0_8, .int .i64 x0.next, .int .i64 x0.want, .int .i64 x0.spent.pages, .int .i64 x0.spent.rent, .int .i64 x0.spent.cpu, .int .i64 x0.press, .int .i64 x0.lost]) ag66 rfl rfl) (St.cell (h := hS18) (i := 9) rfl) ?_
  refine AW.u (i := 3) rfl (by kernel_rfl) rfl rfl (Pur.fa fo66_3 rfl) ?_
  refine AW.u (i := 4) rfl (by kernel_rfl) rfl rfl (Pur.fa fo62_0 rfl) ?_
  refine AW.take (i := 5) rfl (by kernel_rfl) rfl rfl (Ldr.box (bt := 66) (fr := (0, 0)) (cs := [.slice a0_0 x0.label.levels.length c0_0, .slice a0_1 x0.own.length c0_1, .slice a0_2 x0.tree.length c0_2, .slice a0_3 x0.heap.arena.length c0_3, .int .i64 x0.heap.gc.phase, .int .i64 x0.heap.gc.pos, .int .i64 x0.heap.gc.round, .slice a0_7 x0.heap.gc.grey.length c0_7, .slice a0_8 x0.taps.length c0_8, .int .i64 x0.next, .int .i64 x0.want, .int .i64 x0.spent.pages, .int .i64 x0.spent.rent, .int .i64 x0.spent.cpu, .int .i64 x0.press, .int .i64 x0.lost]) ag59 rfl rfl) (St.cell (h := hS18) (i := 9) rfl) ?_
  refine AW.u (i := 6) rfl (by kernel_rfl) rfl rfl (Pur.p rfl) ?_
  replace ⟨y63, hy63, h⟩ := obind h
  obtain ⟨b66, o67, cs68, hae, hb71, hp64, hq65, hd69, hk70⟩ := hr0_3.idx hy63
  subst hae
  obtain ⟨a72, c73, a75, c76, a78, c79, rfl, hr74, hr77, hr80⟩ := hd69
  refine AW.u (i := 7) rfl (by kernel_rfl) rfl rfl (Pur.ix Tryz.underlying59 sz92 rfl rfl hp64 hq65) ?_
  refine AW.u (i := 8) rfl (by kernel_rfl) rfl rfl (Pur.fa fo92_3 rfl) ?_
  refine AW.take (i := 9) rfl (by kernel_rfl) rfl rfl (Ldr.old w0 ag3 rfl (hk70 3 _ rfl)) (hS18.same _ hb71.1 hb71.2) ?_
  refine AW.take (i := 11) rfl (by kernel_rfl) rfl rfl (Ldr.boxN (bt := 64) (fr := (0, 0)) (cs := [.int .i64 y58.pages, .int .i64 y58.rent, .int .i64 y58.cpu]) ag64 rfl rfl) (St.cell (h := hS18) (i := 0) rfl) ?_
  replace ⟨y81, hy81, h⟩ := obind h
  have q := W_i_ResOf (w0 := w62.drew) hy81 rfl (hS18.rB hr0_0) rfl (hS18.rB hr0_1) rfl (hS18.rB hr0_2) rfl (hS18.rB hr0_3) rfl (hS18.rB hr0_7) rfl (hS18.rB hr0_8)
  refine AW.one (i := 10) (by kernel_rfl) ?_
  refine ⟨_, rfl, ?_⟩
  refine LW.call pl96 rfl rfl ?_
  refine Ret.mono q ?_
  rintro _ w82 ⟨rfl, hs⟩
  have hS19 := hS18.add hs
  refine LW.nil ⟨rfl, (.c (St.cell (h := hS19) (i := 0) rfl) (.w (by kernel_rfl) (.c (St.cell (h := hS19) (i := 9) rfl) (.w (by kernel_rfl) (.c (St.cell (h := hS19) (i := 9) rfl) Kept.n))))), ?_⟩
  replace ⟨y83, hy83, h⟩ := obind h
  have q := W_i_TreePay (w0 := w82) hy83 rfl (hS19.rB hr0_2)
  refine AW.one (i := 12) (by kernel_rfl) ?_
  refine ⟨_, rfl, ?_⟩
  refine LW.call pl95 rfl rfl ?_
  refine Ret.mono q ?_
  rintro _ w86 ⟨a84, c85, rfl, hs⟩
  have hS20 := hS19.add hs
  refine LW.nil ⟨rfl, (.w (by kernel_rfl) (.c (hS20.same _ hb71.1 hb71.2) (.c (St.cell (h := hS20) (i := 10) rfl) (.c (St.cell (h := hS20) (i := 10) rfl) (.w (by kernel_rfl) Kept.n))))), ?_⟩
  refine AW.u (i := 13) rfl (by kernel_rfl) rfl rfl (Pur.p rfl) ?_
  refine AW.u (i := 14) rfl (by kernel_rfl) rfl rfl (Pur.p rfl) ?_
  refine AW.u (i := 15) rfl (by kernel_rfl) rfl rfl (Pur.p rfl) ?_
  refine AW.u (i := 16) rfl (by kernel_rfl) rfl rfl (Pur.fa fo66_2 rfl) ?_
  refine AW.one (i := 17) (by kernel_rfl) ?_
  refine ⟨_, rfl, ?_⟩
  refine LW.st hS20 2 fun w87 hS21 => ?_
  refine LW.nil ⟨rfl, (.w (by kernel_rfl) (.w (by kernel_rfl) (.w (by kernel_rfl) (.w (by kernel_rfl) (.w (by kernel_rfl) Kept.n))))), ?_⟩
  refine AW.done (by kernel_rfl) ?_
  refine go ?_
  replace ⟨y88, hy88, h⟩ := obind h
  refine LW.c0 (W_i_sumOf hy88) hS21 fun w89 hS22 => ?_
  refine go ?_
  refine LW.st hS22 2 fun w90 hS23 => ?_
  refine go ?_
  refine LW.fl [4, 6, 7, 69, 70] fun e => ?_
  replace ⟨y91, hy91, h⟩ := obind h
  obtain ⟨b94, o95, hae, hp92, hq93⟩ := hS23.ownIdx (α := DObj) (i := 6) rfl hy91
  subst hae
  refine LW.u (Pur.ix Tryz.underlying59 sz92 rfl rfl hp92 hq93) rfl ?_
  refine go ?_
  obtain ⟨F96, ho97, hS24⟩ := hS23.freeze (α := DObj) 6 rfl
  obtain ⟨b98, o99, cs100, hae, hb103, _, _, hd101, hk102⟩ := ho97.rdF.idx hy91
  cases hae
  obtain ⟨a104, c105, a107, c108, a110, c111, rfl, hr106, hr109, hr112⟩ := hd101
  refine LW.l (Ldr.old w90 ag3 rfl (hk102 8 _ rfl)) (hS24.zC 6 rfl hb103) rfl ?_
  refine go ?_
  refine LW.u (Pur.ix Tryz.underlying59 sz92 rfl rfl hp92 hq93) rfl ?_
  refine go ?_
  have hS25 := hS24.thaw (α := DObj) 6 rfl ho97
  replace ⟨y113, hy113, h⟩ := obind h
  refine LW.stE (M := []) (L := [sl a84 c85 y83.1, bx g60 64 [.int .i64 y58.pages, .int .i64 y58.rent, .int .i64 y58.cpu], bx g19 66 [.slice a6 y5.label.levels.length c7, .slice a8 y5.own.length c9, .slice a84 y83.1.length c85, .slice (some ⟨b94, o95, none⟩) y5.heap.arena.length c13, .int .i64 y5.heap.gc.phase, .int .i64 y5.heap.gc.pos, .int .i64 y5.heap.gc.round, .slice a14 y5.heap.gc.grey.length c15, .slice a16 y5.taps.length c17, .int .i64 y5.next, .int .i64 0, .int .i64 y88.pages, .int .i64 y88.rent, .int .i64 y88.cpu, .int .i64 y5.press, .int .i64 y5.lost], sl a6 c7 y5.label.levels, sl a8 c9 y5.own, sl a10 c11 y5.tree, sl (some ⟨b94, o95, none⟩) c13 y5.heap.arena, sl a14 c15 y5.heap.gc.grey, sl a16 c17 y5.taps, bx g3 66 [.slice none 0 0, .slice none 0 0, .slice none 0 0, .slice none 0 0, .int .i64 0, .int .i64 0, .int .i64 0, .slice none 0 0, .slice none 0 0, .int .i64 0, .int .i64 0, .int .i64 0, .int .i64 0, .int .i64 0, .int .i64 0, .int .i64 0], bx g1 66 [.slice a0_0 x0.label.levels.length c0_0, .slice a0_1 x0.own.length c0_1, .slice a0_2 x0.tree.length c0_2, .slice (some ⟨b66, o67, none⟩) x0.heap.arena.length c0_3, .int .i64 x0.heap.gc.phase, .int .i64 x0.heap.gc.pos, .int .i64 x0.heap.gc.round, .slice a0_7 x0.heap.gc.grey.length c0_7, .slice a0_8 x0.taps.length c0_8, .int .i64 x0.next, .int .i64 x0.want, .int .i64 x0.spent.pages, .int .i64 x0.spent.rent, .int .i64 x0.spent.cpu, .int .i64 x0.press, .int .i64 x0.lost]]) (z := y91) (z' := (DObj.mk y91.gen y91.kind y91.box y91.res y91.til y91.pages y91.wait y91.got (IntKind.i64.wrap (y91.ran + 1)) y91.mark y91.links y91.data y91.queue)) (o := 8) hS25 (i := 6) rfl hy91 ag3 rfl (by show _ = o95 + (y31 : Int).toNat * 13 + 8; omega) rfl rfl rfl rfl (leafF (fun w cs F hF => by obtain ⟨q0, r0, q1, r1, q2, r2, rfl, hH⟩ := hF; exact ⟨q0, r0, q1, r1, q2, r2, rfl, hH⟩)) ?_
  intro w114 hS26 hf
  rw [Option.some.inj hy113] at hS26
  refine go ?_
  refine LW.st hS26 2 fun w115 hS27 => ?_
  refine go ?_
  refine LW.st hS27 9 fun w116 hS28 => ?_
  refine go ?_
  cases h
  rw [show y5.heap.arena.length = y113.length from (len_set (Option.some.inj hy113))] at hS28
  exact And.intro trivial ⟨_, Res.two (resOne.b hS28 9 rfl ag66 rfl rfl) (resOne.t rfl), a6, c7, a8, c9, a84, c85, (some ⟨b94, o95, none⟩), c13, a14, c15, a16, c17, rfl, hS28.pick [3, 4, 0, 6, 7, 8] rfl rfl⟩

end Go.Kx
