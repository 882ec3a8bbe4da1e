/- Each call returns what the plain function says. Printed by drive.py. -/
import Derived.Test.YtdjpppkdngmeaaaGreatFa
import Derived.Test.YtdjpppkdngmeaaaGreatPu
import Derived.Test.YtdjpppkdngmeaaaGreatWa2
import Derived.Test.YtdjpppkdngmeaaaGreatWa3
import Derived.Test.YtdjpppkdngmeaaaGreatWa4
import Derived.Test.YtdjpppkdngmeaaaGreatWa7
import Derived.Test.YtdjpppkdngmeaaaGreatWa9
namespace Go.Kx
open Go Go.RowKit Go.Proofs
set_option maxRecDepth 10000
set_option maxHeartbeats 2000000
set_option linter.unusedVariables false
set_option linter.unusedSimpArgs false
theorem W_l_markPart {w0 : World} {F : List Nat} {N : Nat} {x0 : DPart} {x1 : Int} {r : Int × (List Int) × (List Int) × (List DRes) × (List DObj) × (List Int) × (List DTap)} (h : F_l_markPart N x0 x1 = some r) {a0_0 : Option Addr} {n0_0 c0_0 : Nat} (hn0_0 : n0_0 = x0.label.levels.length) {a0_1 : Option Addr} {n0_1 c0_1 : Nat} (hn0_1 : n0_1 = x0.own.length) {a0_2 : Option Addr} {n0_2 c0_2 : Nat} (hn0_2 : n0_2 = x0.tree.length) {a0_3 : Option Addr} {n0_3 c0_3 : Nat} (hn0_3 : n0_3 = x0.heap.arena.length) {a0_7 : Option Addr} {n0_7 c0_7 : Nat} (hn0_7 : n0_7 = x0.heap.gc.grey.length) {a0_8 : Option Addr} {n0_8 c0_8 : Nat} (hn0_8 : n0_8 = x0.taps.length) (hS : St w0 F w0 [sl a0_0 c0_0 x0.label.levels, sl a0_1 c0_1 x0.own, sl a0_2 c0_2 x0.tree, sl a0_3 c0_3 x0.heap.arena, sl a0_7 c0_7 x0.heap.gc.grey, sl a0_8 c0_8 x0.taps]) :
    Ret Tryz.prog 14 #[.agg #[.slice a0_0 n0_0 c0_0, .slice a0_1 n0_1 c0_1, .slice a0_2 n0_2 c0_2, .slice a0_3 n0_3 c0_3, .int .i64 x0.heap.gc.phase, .int .i64 x0.heap.gc.pos, .int .i64 x0.heap.gc.round, .slice a0_7 n0_7 c0_7, .slice a0_8 n0_8 c0_8, .int .i64 x0.next, .int .i64 x0.want, .int .i64 x0.spent.pages, .int .i64 x0.spent.rent, .int .i64 x0.spent.cpu, .int .i64 x0.press, .int .i64 x0.lost], .int .i64 x1] w0 (fun v w => v = .int .i64 r.1 ∧ St w0 F w [sl a0_0 c0_0 r.2.1, sl a0_1 c0_1 r.2.2.1, sl a0_2 c0_2 r.2.2.2.1, sl a0_3 c0_3 r.2.2.2.2.1, sl a0_7 c0_7 r.2.2.2.2.2.1, sl a0_8 c0_8 r.2.2.2.2.2.2]) := by
  subst hn0_0 hn0_1 hn0_2 hn0_3 hn0_7 hn0_8
  unfold F_l_markPart at h
  refine Ret.fn Tryz.func14 fun e => ?_
  refine go ?_
  refine LW.bo hS fun g1 w2 hS1 => ?_
  refine go ?_
  replace ⟨y3, hy3, h⟩ := obind h
  obtain ⟨q6, hy3', hq7⟩ := obind hy3
  obtain ⟨hl8, hq7⟩ := keepL_some hq7
  rw [Option.some.inj hq7] at hy3' hl8
  have hS2 := hS1.pick (M := [sl a0_0 c0_0 x0.label.levels] ++ [bx g1 47 [.slice a0_0 x0.label.levels.length c0_0, .slice a0_1 x0.own.length c0_1, .slice a0_2 x0.tree.length c0_2, .slice a0_3 x0.heap.arena.length c0_3, .int .i64 x0.heap.gc.phase, .int .i64 x0.heap.gc.pos, .int .i64 x0.heap.gc.round, .slice a0_7 x0.heap.gc.grey.length c0_7, .slice a0_8 x0.taps.length c0_8, .int .i64 x0.next, .int .i64 x0.want, .int .i64 x0.spent.pages, .int .i64 x0.spent.rent, .int .i64 x0.spent.cpu, .int .i64 x0.press, .int .i64 x0.lost], sl a0_1 c0_1 x0.own, sl a0_2 c0_2 x0.tree, sl a0_3 c0_3 x0.heap.arena, sl a0_7 c0_7 x0.heap.gc.grey, sl a0_8 c0_8 x0.taps]) [1, 0, 2, 3, 4, 5, 6] rfl rfl
  obtain ⟨F4, hL5⟩ := St.lend (L := [sl a0_0 c0_0 x0.label.levels]) (M := [bx g1 47 [.slice a0_0 x0.label.levels.length c0_0, .slice a0_1 x0.own.length c0_1, .slice a0_2 x0.tree.length c0_2, .slice a0_3 x0.heap.arena.length c0_3, .int .i64 x0.heap.gc.phase, .int .i64 x0.heap.gc.pos, .int .i64 x0.heap.gc.round, .slice a0_7 x0.heap.gc.grey.length c0_7, .slice a0_8 x0.taps.length c0_8, .int .i64 x0.next, .int .i64 x0.want, .int .i64 x0.spent.pages, .int .i64 x0.spent.rent, .int .i64 x0.spent.cpu, .int .i64 x0.press, .int .i64 x0.lost], sl a0_1 c0_1 x0.own, sl a0_2 c0_2 x0.tree, sl a0_3 c0_3 x0.heap.arena, sl a0_7 c0_7 x0.heap.gc.grey, sl a0_8 c0_8 x0.taps]) hS2
  refine LW.cl (W_l_markLabel hy3' rfl hL5.st) ?_
  rintro _ w9 ⟨rfl, hs⟩
  have hS3 := hL5.back _ _ hs
  refine go ?_
  replace ⟨y10, hy10, h⟩ := obind h
  obtain ⟨q13, hy10', hq14⟩ := obind hy10
  obtain ⟨hl15, hq14⟩ := keepL_some hq14
  rw [Option.some.inj hq14] at hy10' hl15
  rw [show x0.label.levels.length = y3.2.length from hl8] at hS3
  have hS4 := hS3.pick (M := [sl a0_1 c0_1 x0.own] ++ [sl a0_0 c0_0 y3.2, bx g1 47 [.slice a0_0 y3.2.length c0_0, .slice a0_1 x0.own.length c0_1, .slice a0_2 x0.tree.length c0_2, .slice a0_3 x0.heap.arena.length c0_3, .int .i64 x0.heap.gc.phase, .int .i64 x0.heap.gc.pos, .int .i64 x0.heap.gc.round, .slice a0_7 x0.heap.gc.grey.length c0_7, .slice a0_8 x0.taps.length c0_8, .int .i64 x0.next, .int .i64 x0.want, .int .i64 x0.spent.pages, .int .i64 x0.spent.rent, .int .i64 x0.spent.cpu, .int .i64 x0.press, .int .i64 x0.lost], sl a0_2 c0_2 x0.tree, sl a0_3 c0_3 x0.heap.arena, sl a0_7 c0_7 x0.heap.gc.grey, sl a0_8 c0_8 x0.taps]) [2, 0, 1, 3, 4, 5, 6] rfl rfl
  obtain ⟨F11, hL12⟩ := St.lend (L := [sl a0_1 c0_1 x0.own]) (M := [sl a0_0 c0_0 y3.2, bx g1 47 [.slice a0_0 y3.2.length c0_0, .slice a0_1 x0.own.length c0_1, .slice a0_2 x0.tree.length c0_2, .slice a0_3 x0.heap.arena.length c0_3, .int .i64 x0.heap.gc.phase, .int .i64 x0.heap.gc.pos, .int .i64 x0.heap.gc.round, .slice a0_7 x0.heap.gc.grey.length c0_7, .slice a0_8 x0.taps.length c0_8, .int .i64 x0.next, .int .i64 x0.want, .int .i64 x0.spent.pages, .int .i64 x0.spent.rent, .int .i64 x0.spent.cpu, .int .i64 x0.press, .int .i64 x0.lost], sl a0_2 c0_2 x0.tree, sl a0_3 c0_3 x0.heap.arena, sl a0_7 c0_7 x0.heap.gc.grey, sl a0_8 c0_8 x0.taps]) hS4
  refine LW.cl (W_l_markIntS hy10' rfl hL12.st) ?_
  rintro _ w16 ⟨rfl, hs⟩
  have hS5 := hL12.back _ _ hs
  refine go ?_
  replace ⟨y17, hy17, h⟩ := obind h
  obtain ⟨q20, hy17', hq21⟩ := obind hy17
  obtain ⟨hl22, hq21⟩ := keepL_some hq21
  rw [Option.some.inj hq21] at hy17' hl22
  rw [show x0.own.length = y10.2.length from hl15] at hS5
  have hS6 := hS5.pick (M := [sl a0_2 c0_2 x0.tree] ++ [sl a0_1 c0_1 y10.2, sl a0_0 c0_0 y3.2, bx g1 47 [.slice a0_0 y3.2.length c0_0, .slice a0_1 y10.2.length c0_1, .slice a0_2 x0.tree.length c0_2, .slice a0_3 x0.heap.arena.length c0_3, .int .i64 x0.heap.gc.phase, .int .i64 x0.heap.gc.pos, .int .i64 x0.heap.gc.round, .slice a0_7 x0.heap.gc.grey.length c0_7, .slice a0_8 x0.taps.length c0_8, .int .i64 x0.next, .int .i64 x0.want, .int .i64 x0.spent.pages, .int .i64 x0.spent.rent, .int .i64 x0.spent.cpu, .int .i64 x0.press, .int .i64 x0.lost], sl a0_3 c0_3 x0.heap.arena, sl a0_7 c0_7 x0.heap.gc.grey, sl a0_8 c0_8 x0.taps]) [3, 0, 1, 2, 4, 5, 6] rfl rfl
  obtain ⟨F18, hL19⟩ := St.lend (L := [sl a0_2 c0_2 x0.tree]) (M := [sl a0_1 c0_1 y10.2, sl a0_0 c0_0 y3.2, bx g1 47 [.slice a0_0 y3.2.length c0_0, .slice a0_1 y10.2.length c0_1, .slice a0_2 x0.tree.length c0_2, .slice a0_3 x0.heap.arena.length c0_3, .int .i64 x0.heap.gc.phase, .int .i64 x0.heap.gc.pos, .int .i64 x0.heap.gc.round, .slice a0_7 x0.heap.gc.grey.length c0_7, .slice a0_8 x0.taps.length c0_8, .int .i64 x0.next, .int .i64 x0.want, .int .i64 x0.spent.pages, .int .i64 x0.spent.rent, .int .i64 x0.spent.cpu, .int .i64 x0.press, .int .i64 x0.lost], sl a0_3 c0_3 x0.heap.arena, sl a0_7 c0_7 x0.heap.gc.grey, sl a0_8 c0_8 x0.taps]) hS6
  refine LW.cl (W_l_markResS hy17' rfl hL19.st) ?_
  rintro _ w23 ⟨rfl, hs⟩
  have hS7 := hL19.back _ _ hs
  refine go ?_
  replace ⟨y24, hy24, h⟩ := obind h
  obtain ⟨q27, hy24', hq28⟩ := obind hy24
  obtain ⟨hl29, hq28⟩ := keepL_some hq28
  obtain ⟨hl30, hq28⟩ := keepL_some hq28
  rw [Option.some.inj hq28] at hy24' hl29 hl30
  rw [show x0.tree.length = y17.2.length from hl22] at hS7
  have hS8 := hS7.pick (M := [sl a0_3 c0_3 x0.heap.arena, sl a0_7 c0_7 x0.heap.gc.grey] ++ [sl a0_2 c0_2 y17.2, sl a0_1 c0_1 y10.2, sl a0_0 c0_0 y3.2, bx g1 47 [.slice a0_0 y3.2.length c0_0, .slice a0_1 y10.2.length c0_1, .slice a0_2 y17.2.length c0_2, .slice a0_3 x0.heap.arena.length c0_3, .int .i64 x0.heap.gc.phase, .int .i64 x0.heap.gc.pos, .int .i64 x0.heap.gc.round, .slice a0_7 x0.heap.gc.grey.length c0_7, .slice a0_8 x0.taps.length c0_8, .int .i64 x0.next, .int .i64 x0.want, .int .i64 x0.spent.pages, .int .i64 x0.spent.rent, .int .i64 x0.spent.cpu, .int .i64 x0.press, .int .i64 x0.lost], sl a0_8 c0_8 x0.taps]) [4, 5, 0, 1, 2, 3, 6] rfl rfl
  obtain ⟨F25, hL26⟩ := St.lend (L := [sl a0_3 c0_3 x0.heap.arena, sl a0_7 c0_7 x0.heap.gc.grey]) (M := [sl a0_2 c0_2 y17.2, sl a0_1 c0_1 y10.2, sl a0_0 c0_0 y3.2, bx g1 47 [.slice a0_0 y3.2.length c0_0, .slice a0_1 y10.2.length c0_1, .slice a0_2 y17.2.length c0_2, .slice a0_3 x0.heap.arena.length c0_3, .int .i64 x0.heap.gc.phase, .int .i64 x0.heap.gc.pos, .int .i64 x0.heap.gc.round, .slice a0_7 x0.heap.gc.grey.length c0_7, .slice a0_8 x0.taps.length c0_8, .int .i64 x0.next, .int .i64 x0.want, .int .i64 x0.spent.pages, .int .i64 x0.spent.rent, .int .i64 x0.spent.cpu, .int .i64 x0.press, .int .i64 x0.lost], sl a0_8 c0_8 x0.taps]) hS8
  refine LW.cl (W_l_markHeap hy24' rfl rfl hL26.st) ?_
  rintro _ w31 ⟨rfl, hs⟩
  have hS9 := hL26.back _ _ hs
  refine go ?_
  refine LW.fl [22, 23] fun e => ?_
  replace ⟨y32, hy32, h⟩ := obind h
  obtain ⟨q35, hy32', hq36⟩ := obind hy32
  obtain ⟨hl37, hq36⟩ := keepL_some hq36
  rw [Option.some.inj hq36] at hy32' hl37
  rw [show x0.heap.arena.length = y24.2.1.length from hl29] at hS9
  rw [show x0.heap.gc.grey.length = y24.2.2.length from hl30] at hS9
  have hS10 := hS9.pick (M := [sl a0_8 c0_8 x0.taps] ++ [sl a0_3 c0_3 y24.2.1, sl a0_7 c0_7 y24.2.2, sl a0_2 c0_2 y17.2, sl a0_1 c0_1 y10.2, sl a0_0 c0_0 y3.2, bx g1 47 [.slice a0_0 y3.2.length c0_0, .slice a0_1 y10.2.length c0_1, .slice a0_2 y17.2.length c0_2, .slice a0_3 y24.2.1.length c0_3, .int .i64 x0.heap.gc.phase, .int .i64 x0.heap.gc.pos, .int .i64 x0.heap.gc.round, .slice a0_7 y24.2.2.length c0_7, .slice a0_8 x0.taps.length c0_8, .int .i64 x0.next, .int .i64 x0.want, .int .i64 x0.spent.pages, .int .i64 x0.spent.rent, .int .i64 x0.spent.cpu, .int .i64 x0.press, .int .i64 x0.lost]]) [6, 0, 1, 2, 3, 4, 5] rfl rfl
  obtain ⟨F33, hL34⟩ := St.lend (L := [sl a0_8 c0_8 x0.taps]) (M := [sl a0_3 c0_3 y24.2.1, sl a0_7 c0_7 y24.2.2, sl a0_2 c0_2 y17.2, sl a0_1 c0_1 y10.2, sl a0_0 c0_0 y3.2, bx g1 47 [.slice a0_0 y3.2.length c0_0, .slice a0_1 y10.2.length c0_1, .slice a0_2 y17.2.length c0_2, .slice a0_3 y24.2.1.length c0_3, .int .i64 x0.heap.gc.phase, .int .i64 x0.heap.gc.pos, .int .i64 x0.heap.gc.round, .slice a0_7 y24.2.2.length c0_7, .slice a0_8 x0.taps.length c0_8, .int .i64 x0.next, .int .i64 x0.want, .int .i64 x0.spent.pages, .int .i64 x0.spent.rent, .int .i64 x0.spent.cpu, .int .i64 x0.press, .int .i64 x0.lost]]) hS10
  refine LW.cl (W_l_markTapS hy32' rfl hL34.st) ?_
  rintro _ w38 ⟨rfl, hs⟩
  have hS11 := hL34.back _ _ hs
  refine go ?_
  replace h := Option.some.inj h
  subst h
  rw [show x0.taps.length = y32.2.length from hl37] at hS11
  exact And.intro trivial ⟨_, Res.one (resOne.t rfl), rfl, hS11.pick [5, 4, 3, 1, 2, 0] rfl rfl⟩

theorem W_l_FnExactRunnable {w0 : World} {N : Nat} {x0 : DPart} {x1 : Int} {r : Bool} (h : F_l_FnExactRunnable N x0 x1 = some r) {a0_0 : Option Addr} {n0_0 c0_0 : Nat} (hn0_0 : n0_0 = x0.label.levels.length) (hr0_0 : rdS (Bor w0 []) w0 a0_0 c0_0 x0.label.levels) {a0_1 : Option Addr} {n0_1 c0_1 : Nat} (hn0_1 : n0_1 = x0.own.length) (hr0_1 : rdS (Bor w0 []) w0 a0_1 c0_1 x0.own) {a0_2 : Option Addr} {n0_2 c0_2 : Nat} (hn0_2 : n0_2 = x0.tree.length) (hr0_2 : rdS (Bor w0 []) w0 a0_2 c0_2 x0.tree) {a0_3 : Option Addr} {n0_3 c0_3 : Nat} (hn0_3 : n0_3 = x0.heap.arena.length) (hr0_3 : rdS (Bor w0 []) w0 a0_3 c0_3 x0.heap.arena) {a0_7 : Option Addr} {n0_7 c0_7 : Nat} (hn0_7 : n0_7 = x0.heap.gc.grey.length) (hr0_7 : rdS (Bor w0 []) w0 a0_7 c0_7 x0.heap.gc.grey) {a0_8 : Option Addr} {n0_8 c0_8 : Nat} (hn0_8 : n0_8 = x0.taps.length) (hr0_8 : rdS (Bor w0 []) w0 a0_8 c0_8 x0.taps) :
    Ret Tryz.prog 3 #[.agg #[.slice a0_0 n0_0 c0_0, .slice a0_1 n0_1 c0_1, .slice a0_2 n0_2 c0_2, .slice a0_3 n0_3 c0_3, .int .i64 x0.heap.gc.phase, .int .i64 x0.heap.gc.pos, .int .i64 x0.heap.gc.round, .slice a0_7 n0_7 c0_7, .slice a0_8 n0_8 c0_8, .int .i64 x0.next, .int .i64 x0.want, .int .i64 x0.spent.pages, .int .i64 x0.spent.rent, .int .i64 x0.spent.cpu, .int .i64 x0.press, .int .i64 x0.lost], .int .i64 x1] w0 (fun v w => v = .bool r ∧ St w0 [] w []) := by
  subst hn0_0 hn0_1 hn0_2 hn0_3 hn0_7 hn0_8
  unfold F_l_FnExactRunnable at h
  refine Ret.fn Tryz.func3 fun e => ?_
  have hS1 := St.start w0
  refine go ?_
  refine LW.bo hS1 fun g1 w2 hS2 => ?_
  refine go ?_
  replace ⟨y3, hy3, h⟩ := obind h
  refine LW.c0 (W_l_szPart hy3 rfl (hS2.rB hr0_0) rfl (hS2.rB hr0_1) rfl (hS2.rB hr0_2) rfl (hS2.rB hr0_3) rfl (hS2.rB hr0_7) rfl (hS2.rB hr0_8)) hS2 fun w4 hS3 => ?_
  refine go ?_
  refine CW.cond rfl (fun hc5 => ?_) (fun hc5 => ?_)
  · replace h := bcT h hc5
    refine go ?_
    cases h
    exact And.intro trivial ⟨_, Res.one (resOne.t rfl), rfl, hS3.pick [] rfl rfl⟩
  replace h := bcF h hc5
  refine go ?_
  replace ⟨y6, hy6, h⟩ := obind h
  refine LW.cl (W_l_toPart hy6 rfl (hS3.rB hr0_0) rfl (hS3.rB hr0_1) rfl (hS3.rB hr0_2) rfl (hS3.rB hr0_3) rfl (hS3.rB hr0_7) rfl (hS3.rB hr0_8)) ?_
  rintro _ w19 ⟨a7, c8, a9, c10, a11, c12, a13, c14, a15, c16, a17, c18, rfl, hs⟩
  have hS4 := hS3.add hs
  refine go ?_
  replace ⟨y20, hy20, h⟩ := obind h
  refine LW.cl (W_s_Runnable hy20 rfl (hS4.rI 0 rfl) rfl (hS4.rI 1 rfl) rfl (hS4.rI 2 rfl) rfl (hS4.rI 3 rfl) rfl (hS4.rI 4 rfl) rfl (hS4.rI 5 rfl)) ?_
  rintro _ w23 ⟨a21, c22, rfl, hs⟩
  have hS5 := hS4.add hs
  refine go ?_
  replace ⟨y24, hy24, h⟩ := obind h
  refine LW.cl (W_l_toPart hy24 rfl (hS5.rB hr0_0) rfl (hS5.rB hr0_1) rfl (hS5.rB hr0_2) rfl (hS5.rB hr0_3) rfl (hS5.rB hr0_7) rfl (hS5.rB hr0_8)) ?_
  rintro _ w37 ⟨a25, c26, a27, c28, a29, c30, a31, c32, a33, c34, a35, c36, rfl, hs⟩
  have hS6 := hS5.add hs
  refine LW.al hS6 fun g38 w39 hS7 => ?_
  refine LW.st hS7 0 fun w40 hS8 => ?_
  refine go ?_
  replace ⟨y41, hy41, h⟩ := obind h
  refine LW.cl (W_i_Runnable hy41 rfl (hS8.rI 1 rfl) rfl (hS8.rI 2 rfl) rfl (hS8.rI 3 rfl) rfl (hS8.rI 4 rfl) rfl (hS8.rI 5 rfl) rfl (hS8.rI 6 rfl)) ?_
  rintro _ w44 ⟨a42, c43, rfl, hs⟩
  have hS9 := hS8.add hs
  refine go ?_
  replace ⟨y45, hy45, h⟩ := obind h
  refine LW.c0 (W_l_eqIntS hy45 rfl (hS9.rI 0 rfl) rfl (hS9.rI 8 rfl)) hS9 fun w46 hS10 => ?_
  refine go ?_
  refine CW.fl [1, 2, 6, 7, 8, 30] fun e => ?_
  refine CW.cond rfl (fun hc47 => ?_) (fun hc47 => ?_)
  · replace h := bcT h hc47
    refine go ?_
    cases h
    exact And.intro trivial ⟨_, Res.one (resOne.t rfl), rfl, hS10.pick [] rfl rfl⟩
  replace h := bcF h hc47
  refine go ?_
  refine CW.draw (by kernel_rfl) ?_
  have hS11 := hS10.drew
  refine AW.take (i := 0) rfl (by kernel_rfl) rfl rfl (Ldr.boxN (bt := 47) (fr := (0, 0)) (cs := [.slice a25 y24.label.levels.length c26, .slice a27 y24.own.length c28, .slice a29 y24.tree.length c30, .slice a31 y24.heap.arena.length c32, .int .i64 y24.heap.gc.phase, .int .i64 y24.heap.gc.pos, .int .i64 y24.heap.gc.round, .slice a33 y24.heap.gc.grey.length c34, .slice a35 y24.taps.length c36, .int .i64 y24.next, .int .i64 y24.want, .int .i64 y24.spent.pages, .int .i64 y24.spent.rent, .int .i64 y24.spent.cpu, .int .i64 y24.press, .int .i64 y24.lost]) ag47 rfl rfl) (St.cell (h := hS11) (i := 1) rfl) ?_
  refine AW.take (i := 1) rfl (by kernel_rfl) rfl rfl (Ldr.boxN (bt := 35) (fr := (0, 0)) (cs := [.slice a0_0 x0.label.levels.length c0_0, .slice a0_1 x0.own.length c0_1, .slice a0_2 x0.tree.length c0_2, .slice a0_3 x0.heap.arena.length c0_3, .int .i64 x0.heap.gc.phase, .int .i64 x0.heap.gc.pos, .int .i64 x0.heap.gc.round, .slice a0_7 x0.heap.gc.grey.length c0_7, .slice a0_8 x0.taps.length c0_8, .int .i64 x0.next, .int .i64 x0.want, .int .i64 x0.spent.pages, .int .i64 x0.spent.rent, .int .i64 x0.spent.cpu, .int .i64 x0.press, .int .i64 x0.lost]) ag35 rfl rfl) (St.cell (h := hS11) (i := 15) rfl) ?_
  replace ⟨y48, hy48, h⟩ := obind h
  have q := W_l_toPart (w0 := w46.drew) hy48 rfl (hS11.rB hr0_0) rfl (hS11.rB hr0_1) rfl (hS11.rB hr0_2) rfl (hS11.rB hr0_3) rfl (hS11.rB hr0_7) rfl (hS11.rB hr0_8)
  refine AW.one (i := 2) (by kernel_rfl) ?_
  refine ⟨_, rfl, ?_⟩
  refine LW.call pl10 rfl rfl ?_
  refine Ret.mono q ?_
  rintro _ w61 ⟨a49, c50, a51, c52, a53, c54, a55, c56, a57, c58, a59, c60, rfl, hs⟩
  have hS12 := hS11.add hs
  refine LW.nil ⟨rfl, (.w (by kernel_rfl) (.c (St.cell (h := hS12) (i := 7) rfl) Kept.n)), ?_⟩
  replace ⟨y62, hy62, h⟩ := obind h
  have q := W_l_eqPart (w0 := w61) hy62 rfl (hS12.rI 8 rfl) rfl (hS12.rI 9 rfl) rfl (hS12.rI 10 rfl) rfl (hS12.rI 11 rfl) rfl (hS12.rI 12 rfl) rfl (hS12.rI 13 rfl) rfl (hS12.rI 0 rfl) rfl (hS12.rI 1 rfl) rfl (hS12.rI 2 rfl) rfl (hS12.rI 3 rfl) rfl (hS12.rI 4 rfl) rfl (hS12.rI 5 rfl)
  refine AW.one (i := 3) (by kernel_rfl) ?_
  refine ⟨_, rfl, ?_⟩
  refine LW.call pl13 rfl rfl ?_
  refine Ret.mono q ?_
  rintro _ w63 ⟨rfl, hs⟩
  have hS13 := hS12.add hs
  refine LW.nil ⟨rfl, (.c (St.cell (h := hS13) (i := 21) rfl) (.w (by kernel_rfl) Kept.n)), ?_⟩
  refine AW.u (i := 4) rfl (by kernel_rfl) rfl rfl (Pur.p rfl) ?_
  refine AW.done (by kernel_rfl) ?_
  refine go ?_
  refine CW.cond rfl (fun hc64 => ?_) (fun hc64 => ?_)
  · replace h := bcT h hc64
    refine go ?_
    cases h
    exact And.intro trivial ⟨_, Res.one (resOne.t rfl), rfl, hS13.pick [] rfl rfl⟩
  replace h := bcF h hc64
  refine go ?_
  replace ⟨y65, hy65, h⟩ := obind h
  obtain ⟨q68, hy65', hq69⟩ := obind hy65
  obtain ⟨hl70, hq69⟩ := keepL_some hq69
  obtain ⟨hl71, hq69⟩ := keepL_some hq69
  obtain ⟨hl72, hq69⟩ := keepL_some hq69
  obtain ⟨hl73, hq69⟩ := keepL_some hq69
  obtain ⟨hl74, hq69⟩ := keepL_some hq69
  obtain ⟨hl75, hq69⟩ := keepL_some hq69
  rw [Option.some.inj hq69] at hy65' hl70 hl71 hl72 hl73 hl74 hl75
  have hS14 := hS13.pick (M := [sl a25 c26 y24.label.levels, sl a27 c28 y24.own, sl a29 c30 y24.tree, sl a31 c32 y24.heap.arena, sl a33 c34 y24.heap.gc.grey, sl a35 c36 y24.taps] ++ [sl a49 c50 y48.label.levels, sl a51 c52 y48.own, sl a53 c54 y48.tree, sl a55 c56 y48.heap.arena, sl a57 c58 y48.heap.gc.grey, sl a59 c60 y48.taps, sl a42 c43 y41, bx g38 47 [.slice a25 y24.label.levels.length c26, .slice a27 y24.own.length c28, .slice a29 y24.tree.length c30, .slice a31 y24.heap.arena.length c32, .int .i64 y24.heap.gc.phase, .int .i64 y24.heap.gc.pos, .int .i64 y24.heap.gc.round, .slice a33 y24.heap.gc.grey.length c34, .slice a35 y24.taps.length c36, .int .i64 y24.next, .int .i64 y24.want, .int .i64 y24.spent.pages, .int .i64 y24.spent.rent, .int .i64 y24.spent.cpu, .int .i64 y24.press, .int .i64 y24.lost], sl a21 c22 y20, sl a7 c8 y6.label.levels, sl a9 c10 y6.own, sl a11 c12 y6.tree, sl a13 c14 y6.heap.arena, sl a15 c16 y6.heap.gc.grey, sl a17 c18 y6.taps, bx g1 35 [.slice a0_0 x0.label.levels.length c0_0, .slice a0_1 x0.own.length c0_1, .slice a0_2 x0.tree.length c0_2, .slice a0_3 x0.heap.arena.length c0_3, .int .i64 x0.heap.gc.phase, .int .i64 x0.heap.gc.pos, .int .i64 x0.heap.gc.round, .slice a0_7 x0.heap.gc.grey.length c0_7, .slice a0_8 x0.taps.length c0_8, .int .i64 x0.next, .int .i64 x0.want, .int .i64 x0.spent.pages, .int .i64 x0.spent.rent, .int .i64 x0.spent.cpu, .int .i64 x0.press, .int .i64 x0.lost]]) [8, 9, 10, 11, 12, 13, 0, 1, 2, 3, 4, 5, 6, 7, 14, 15, 16, 17, 18, 19, 20, 21] rfl rfl
  obtain ⟨F66, hL67⟩ := St.lend (L := [sl a25 c26 y24.label.levels, sl a27 c28 y24.own, sl a29 c30 y24.tree, sl a31 c32 y24.heap.arena, sl a33 c34 y24.heap.gc.grey, sl a35 c36 y24.taps]) (M := [sl a49 c50 y48.label.levels, sl a51 c52 y48.own, sl a53 c54 y48.tree, sl a55 c56 y48.heap.arena, sl a57 c58 y48.heap.gc.grey, sl a59 c60 y48.taps, sl a42 c43 y41, bx g38 47 [.slice a25 y24.label.levels.length c26, .slice a27 y24.own.length c28, .slice a29 y24.tree.length c30, .slice a31 y24.heap.arena.length c32, .int .i64 y24.heap.gc.phase, .int .i64 y24.heap.gc.pos, .int .i64 y24.heap.gc.round, .slice a33 y24.heap.gc.grey.length c34, .slice a35 y24.taps.length c36, .int .i64 y24.next, .int .i64 y24.want, .int .i64 y24.spent.pages, .int .i64 y24.spent.rent, .int .i64 y24.spent.cpu, .int .i64 y24.press, .int .i64 y24.lost], sl a21 c22 y20, sl a7 c8 y6.label.levels, sl a9 c10 y6.own, sl a11 c12 y6.tree, sl a13 c14 y6.heap.arena, sl a15 c16 y6.heap.gc.grey, sl a17 c18 y6.taps, bx g1 35 [.slice a0_0 x0.label.levels.length c0_0, .slice a0_1 x0.own.length c0_1, .slice a0_2 x0.tree.length c0_2, .slice a0_3 x0.heap.arena.length c0_3, .int .i64 x0.heap.gc.phase, .int .i64 x0.heap.gc.pos, .int .i64 x0.heap.gc.round, .slice a0_7 x0.heap.gc.grey.length c0_7, .slice a0_8 x0.taps.length c0_8, .int .i64 x0.next, .int .i64 x0.want, .int .i64 x0.spent.pages, .int .i64 x0.spent.rent, .int .i64 x0.spent.cpu, .int .i64 x0.press, .int .i64 x0.lost]]) hS14
  refine LW.cl (W_l_markPart hy65' rfl rfl rfl rfl rfl rfl hL67.st) ?_
  rintro _ w76 ⟨rfl, hs⟩
  have hS15 := hL67.back _ _ hs
  refine gs ?_
  rw [show y24.label.levels.length = y65.2.1.length from hl70] at hS15
  rw [show y24.own.length = y65.2.2.1.length from hl71] at hS15
  rw [show y24.tree.length = y65.2.2.2.1.length from hl72] at hS15
  rw [show y24.heap.arena.length = y65.2.2.2.2.1.length from hl73] at hS15
  rw [show y24.heap.gc.grey.length = y65.2.2.2.2.2.1.length from hl74] at hS15
  rw [show y24.taps.length = y65.2.2.2.2.2.2.length from hl75] at hS15
  obtain ⟨j77, hj77, h78⟩ := obind h
  refine CW.cut (fun e wb => En e [(1, .int .i64 x1), (2, .pointer (some ⟨g1, 0, none⟩)), (6, .slice a21 y20.length c22), (8, .slice a42 y41.length c43), (46, .bool j77)] ∧ St w0 [] wb [sl a42 c43 y41, sl a21 c22 y20, bx g1 35 [.slice a0_0 x0.label.levels.length c0_0, .slice a0_1 x0.own.length c0_1, .slice a0_2 x0.tree.length c0_2, .slice a0_3 x0.heap.arena.length c0_3, .int .i64 x0.heap.gc.phase, .int .i64 x0.heap.gc.pos, .int .i64 x0.heap.gc.round, .slice a0_7 x0.heap.gc.grey.length c0_7, .slice a0_8 x0.taps.length c0_8, .int .i64 x0.next, .int .i64 x0.want, .int .i64 x0.spent.pages, .int .i64 x0.spent.rent, .int .i64 x0.spent.cpu, .int .i64 x0.press, .int .i64 x0.lost]]) ?_ ?_
  · have h := hj77
    refine go ?_
    rcases bcases (decide (y65.1 < 0)) with hc79 | hc79
    · replace h := bcT h hc79
      refine go ?_
      cases oi h
      exact ⟨⟨rfl, rfl, rfl, rfl, rfl, trivial⟩, hS15.pick [12, 14, 21] rfl rfl⟩
    replace h := bcF h hc79
    refine go ?_
    replace ⟨y80, hy80, h⟩ := obind h
    refine go ?_
    refine LW.c0 (W_l_eqIntS hy80 rfl (hS15.rI 12 rfl) rfl (hS15.rI 14 rfl)) hS15 fun w81 hS16 => ?_
    refine go ?_
    cases oi h
    exact ⟨⟨rfl, rfl, rfl, rfl, rfl, trivial⟩, hS16.pick [12, 14, 21] rfl rfl⟩
  rintro e w82 ⟨hE, hS17⟩
  obtain ⟨e, rfl⟩ := hE.out
  have h := h78
  refine go ?_
  refine CW.cond rfl (fun hc83 => ?_) (fun hc83 => ?_)
  · replace h := bcT h hc83
    refine go ?_
    cases h
    exact And.intro trivial ⟨_, Res.one (resOne.t rfl), rfl, hS17.pick [] rfl rfl⟩
  replace h := bcF h hc83
  refine go ?_
  replace ⟨y84, hy84, h⟩ := obind h
  obtain ⟨q87, hy84', hq88⟩ := obind hy84
  obtain ⟨hl89, hq88⟩ := keepL_some hq88
  rw [Option.some.inj hq88] at hy84' hl89
  have hS18 := hS17.pick (M := [sl a42 c43 y41] ++ [sl a21 c22 y20, bx g1 35 [.slice a0_0 x0.label.levels.length c0_0, .slice a0_1 x0.own.length c0_1, .slice a0_2 x0.tree.length c0_2, .slice a0_3 x0.heap.arena.length c0_3, .int .i64 x0.heap.gc.phase, .int .i64 x0.heap.gc.pos, .int .i64 x0.heap.gc.round, .slice a0_7 x0.heap.gc.grey.length c0_7, .slice a0_8 x0.taps.length c0_8, .int .i64 x0.next, .int .i64 x0.want, .int .i64 x0.spent.pages, .int .i64 x0.spent.rent, .int .i64 x0.spent.cpu, .int .i64 x0.press, .int .i64 x0.lost]]) [0, 1, 2] rfl rfl
  obtain ⟨F85, hL86⟩ := St.lend (L := [sl a42 c43 y41]) (M := [sl a21 c22 y20, bx g1 35 [.slice a0_0 x0.label.levels.length c0_0, .slice a0_1 x0.own.length c0_1, .slice a0_2 x0.tree.length c0_2, .slice a0_3 x0.heap.arena.length c0_3, .int .i64 x0.heap.gc.phase, .int .i64 x0.heap.gc.pos, .int .i64 x0.heap.gc.round, .slice a0_7 x0.heap.gc.grey.length c0_7, .slice a0_8 x0.taps.length c0_8, .int .i64 x0.next, .int .i64 x0.want, .int .i64 x0.spent.pages, .int .i64 x0.spent.rent, .int .i64 x0.spent.cpu, .int .i64 x0.press, .int .i64 x0.lost]]) hS18
  refine LW.cl (W_l_markIntS hy84' rfl hL86.st) ?_
  rintro _ w90 ⟨rfl, hs⟩
  have hS19 := hL86.back _ _ hs
  refine go ?_
  replace ⟨y91, hy91, h⟩ := obind h
  refine LW.c0 (W_l_heldIntS hy91 (show y41.length = y84.2.length from hl89) (hS19.rI 0 rfl)) hS19 fun w92 hS20 => ?_
  refine go ?_
  refine CW.fl [1, 2, 6, 8, 10, 11, 54] fun e => ?_
  refine CW.cond rfl (fun hc93 => ?_) (fun hc93 => ?_)
  · replace h := bcT h hc93
    refine go ?_
    cases h
    exact And.intro trivial ⟨_, Res.one (resOne.t rfl), rfl, hS20.pick [] rfl rfl⟩
  replace h := bcF h hc93
  refine go ?_
  refine CW.cond rfl (fun hc94 => ?_) (fun hc94 => ?_)
  · replace h := bcT h hc94
    refine go ?_
    cases h
    exact And.intro trivial ⟨_, Res.one (resOne.t rfl), rfl, hS20.pick [] rfl rfl⟩
  replace h := bcF h hc94
  refine go ?_
  replace ⟨y95, hy95, h⟩ := obind h
  refine LW.cl (W_l_toPart hy95 rfl (hS20.rB hr0_0) rfl (hS20.rB hr0_1) rfl (hS20.rB hr0_2) rfl (hS20.rB hr0_3) rfl (hS20.rB hr0_7) rfl (hS20.rB hr0_8)) ?_
  rintro _ w108 ⟨a96, c97, a98, c99, a100, c101, a102, c103, a104, c105, a106, c107, rfl, hs⟩
  have hS21 := hS20.add hs
  refine go ?_
  replace ⟨y109, hy109, h⟩ := obind h
  refine LW.cl (W_i_Runnable hy109 rfl (hS21.rI 0 rfl) rfl (hS21.rI 1 rfl) rfl (hS21.rI 2 rfl) rfl (hS21.rI 3 rfl) rfl (hS21.rI 4 rfl) rfl (hS21.rI 5 rfl)) ?_
  rintro _ w112 ⟨a110, c111, rfl, hs⟩
  have hS22 := hS21.add hs
  refine go ?_
  replace ⟨y113, hy113, h⟩ := obind h
  refine LW.c0 (W_l_eqIntS hy113 rfl (hS22.rI 0 rfl) rfl (hS22.rI 8 rfl)) hS22 fun w114 hS23 => ?_
  refine go ?_
  refine CW.cond rfl (fun hc115 => ?_) (fun hc115 => ?_)
  · replace h := bcT h hc115
    refine go ?_
    cases h
    exact And.intro trivial ⟨_, Res.one (resOne.t rfl), rfl, hS23.pick [] rfl rfl⟩
  replace h := bcF h hc115
  refine go ?_
  replace ⟨y116, hy116, h⟩ := obind h
  refine LW.c0 (W_l_heldIntS hy116 (show y41.length = y84.2.length from hl89) (hS23.rI 7 rfl)) hS23 fun w117 hS24 => ?_
  refine go ?_
  refine CW.fl [10, 11, 70] fun e => ?_
  refine CW.cond rfl (fun hc118 => ?_) (fun hc118 => ?_)
  · replace h := bcT h hc118
    refine go ?_
    cases h
    exact And.intro trivial ⟨_, Res.one (resOne.t rfl), rfl, hS24.pick [] rfl rfl⟩
  replace h := bcF h hc118
  refine go ?_
  refine CW.cond rfl (fun hc119 => ?_) (fun hc119 => ?_)
  · replace h := bcT h hc119
    refine go ?_
    cases h
    exact And.intro trivial ⟨_, Res.one (resOne.t rfl), rfl, hS24.pick [] rfl rfl⟩
  replace h := bcF h hc119
  refine go ?_
  cases h
  exact And.intro trivial ⟨_, Res.one (resOne.t rfl), rfl, hS24.pick [] rfl rfl⟩

end Go.Kx
