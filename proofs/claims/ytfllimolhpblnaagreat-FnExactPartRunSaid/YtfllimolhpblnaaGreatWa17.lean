/- Each call returns what the plain function says. Printed by drive.py. -/
import Derived.Test.YtfllimolhpblnaaGreatFa
import Derived.Test.YtfllimolhpblnaaGreatPu
import Derived.Test.YtfllimolhpblnaaGreatWa0
import Derived.Test.YtfllimolhpblnaaGreatWa1
import Derived.Test.YtfllimolhpblnaaGreatWa16
namespace Go.Kx
open Go Go.RowKit Go.Proofs
set_option maxRecDepth 10000
set_option maxHeartbeats 2000000
set_option linter.unusedVariables false
set_option linter.unusedSimpArgs false
theorem W_l_heldHeap {w0 : World} {N : Nat} {x0 : DHeap} {x1 : Int} {r : Int} (h : F_l_heldHeap N x0 x1 = some r) {a0_0 : Option Addr} {n0_0 c0_0 : Nat} (hn0_0 : n0_0 = x0.arena.length) (hr0_0 : rdS (Bor w0 []) w0 a0_0 c0_0 x0.arena) {a0_4 : Option Addr} {n0_4 c0_4 : Nat} (hn0_4 : n0_4 = x0.gc.grey.length) (hr0_4 : rdS (Bor w0 []) w0 a0_4 c0_4 x0.gc.grey) :
    Ret Tryz.prog 83 #[.agg #[.slice a0_0 n0_0 c0_0, .int .i64 x0.gc.phase, .int .i64 x0.gc.pos, .int .i64 x0.gc.round, .slice a0_4 n0_4 c0_4], .int .i64 x1] w0 (fun v w => v = .int .i64 r ∧ St w0 [] w []) := by
  subst hn0_0 hn0_4
  unfold F_l_heldHeap at h
  refine Ret.fn Tryz.func83 fun e => ?_
  have hS1 := St.start w0
  refine go ?_
  refine LW.bo hS1 fun g1 w2 hS2 => ?_
  refine go ?_
  replace ⟨y3, hy3, h⟩ := obind h
  refine LW.c0 (W_l_heldObjS hy3 rfl (hS2.rB hr0_0)) hS2 fun w4 hS3 => ?_
  refine go ?_
  refine CW.cond rfl (fun hc5 => ?_) (fun hc5 => ?_)
  · replace h := bcT h hc5
    refine go ?_
    cases h
    exact And.intro trivial ⟨_, Res.one (resOne.t rfl), rfl, hS3.pick [] rfl rfl⟩
  replace h := bcF h hc5
  refine go ?_
  replace ⟨y6, hy6, h⟩ := obind h
  refine LW.c0 (W_l_heldGc hy6 rfl (hS3.rB hr0_4)) hS3 fun w7 hS4 => ?_
  refine go ?_
  refine CW.fl [1, 16] fun e => ?_
  refine CW.cond rfl (fun hc8 => ?_) (fun hc8 => ?_)
  · replace h := bcT h hc8
    refine go ?_
    cases h
    exact And.intro trivial ⟨_, Res.one (resOne.t rfl), rfl, hS4.pick [] rfl rfl⟩
  replace h := bcF h hc8
  refine go ?_
  cases h
  exact And.intro trivial ⟨_, Res.one (resOne.t rfl), rfl, hS4.pick [] rfl rfl⟩

theorem W_s_l13Copy {w0 : World} {N : Nat} {x0 : DPart} {r : DPart} (h : F_s_l13Copy N x0 = some r) {a0_0 : Option Addr} {n0_0 c0_0 : Nat} (hn0_0 : n0_0 = x0.label.levels.length) (hr0_0 : rdS (Bor w0 []) w0 a0_0 c0_0 x0.label.levels) {a0_1 : Option Addr} {n0_1 c0_1 : Nat} (hn0_1 : n0_1 = x0.own.length) (hr0_1 : rdS (Bor w0 []) w0 a0_1 c0_1 x0.own) {a0_2 : Option Addr} {n0_2 c0_2 : Nat} (hn0_2 : n0_2 = x0.tree.length) (hr0_2 : rdS (Bor w0 []) w0 a0_2 c0_2 x0.tree) {a0_3 : Option Addr} {n0_3 c0_3 : Nat} (hn0_3 : n0_3 = x0.heap.arena.length) (hr0_3 : rdS (Bor w0 []) w0 a0_3 c0_3 x0.heap.arena) {a0_7 : Option Addr} {n0_7 c0_7 : Nat} (hn0_7 : n0_7 = x0.heap.gc.grey.length) (hr0_7 : rdS (Bor w0 []) w0 a0_7 c0_7 x0.heap.gc.grey) {a0_8 : Option Addr} {n0_8 c0_8 : Nat} (hn0_8 : n0_8 = x0.taps.length) (hr0_8 : rdS (Bor w0 []) w0 a0_8 c0_8 x0.taps) :
    Ret Tryz.prog 59 #[.agg #[.slice a0_0 n0_0 c0_0, .slice a0_1 n0_1 c0_1, .slice a0_2 n0_2 c0_2, .slice a0_3 n0_3 c0_3, .int .i64 x0.heap.gc.phase, .int .i64 x0.heap.gc.pos, .int .i64 x0.heap.gc.round, .slice a0_7 n0_7 c0_7, .slice a0_8 n0_8 c0_8, .int .i64 x0.next, .int .i64 x0.want, .int .i64 x0.spent.pages, .int .i64 x0.spent.rent, .int .i64 x0.spent.cpu, .int .i64 x0.press, .int .i64 x0.lost]] w0 (fun v w => ∃ ar0_0 cr0_0, ∃ ar0_1 cr0_1, ∃ ar0_2 cr0_2, ∃ ar0_3 cr0_3, ∃ ar0_7 cr0_7, ∃ ar0_8 cr0_8, v = .agg #[.slice ar0_0 r.label.levels.length cr0_0, .slice ar0_1 r.own.length cr0_1, .slice ar0_2 r.tree.length cr0_2, .slice ar0_3 r.heap.arena.length cr0_3, .int .i64 r.heap.gc.phase, .int .i64 r.heap.gc.pos, .int .i64 r.heap.gc.round, .slice ar0_7 r.heap.gc.grey.length cr0_7, .slice ar0_8 r.taps.length cr0_8, .int .i64 r.next, .int .i64 r.want, .int .i64 r.spent.pages, .int .i64 r.spent.rent, .int .i64 r.spent.cpu, .int .i64 r.press, .int .i64 r.lost] ∧ St w0 [] w [sl ar0_0 cr0_0 r.label.levels, sl ar0_1 cr0_1 r.own, sl ar0_2 cr0_2 r.tree, sl ar0_3 cr0_3 r.heap.arena, sl ar0_7 cr0_7 r.heap.gc.grey, sl ar0_8 cr0_8 r.taps]) := by
  subst hn0_0 hn0_1 hn0_2 hn0_3 hn0_7 hn0_8
  unfold F_s_l13Copy at h
  refine Ret.fn Tryz.func59 fun e => ?_
  have hS1 := St.start w0
  refine go ?_
  refine LW.bo hS1 fun g1 w2 hS2 => ?_
  refine LW.al hS2 fun g3 w4 hS3 => ?_
  refine go ?_
  refine LW.bsl (α := Int) (vs := []) (cs := #[]) (l := ([] : List Int)) rfl (by kernel_rfl) rfl rfl rfl (fun w => rfl) hS3 rfl ?_
  intro a5 c6 w7 hS4 hf
  refine go ?_
  replace ⟨y8, hy8, h⟩ := obind h
  refine LW.appN (l := ([] : List Int)) (m := x0.label.levels) sT28 rfl rfl (hS4.rB hr0_0) hy8 hS4 (i := 0) rfl rfl ?_
  intro a9 c10 w11 hS5 hf
  refine LW.u (Pur.build (vs := [(0, .slice a9 y8.length c10)]) (cs := #[.slice a9 y8.length c10]) rfl (by kernel_rfl)) rfl ?_
  refine go ?_
  refine LW.st hS5 2 fun w12 hS6 => ?_
  refine go ?_
  refine LW.bsl (α := Int) (vs := []) (cs := #[]) (l := ([] : List Int)) rfl (by kernel_rfl) rfl rfl rfl (fun w => rfl) hS6 rfl ?_
  intro a13 c14 w15 hS7 hf
  refine go ?_
  replace ⟨y16, hy16, h⟩ := obind h
  refine LW.appN (l := ([] : List Int)) (m := x0.own) sT28 rfl rfl (hS7.rB hr0_1) hy16 hS7 (i := 0) rfl rfl ?_
  intro a17 c18 w19 hS8 hf
  refine go ?_
  refine LW.st hS8 3 fun w20 hS9 => ?_
  refine go ?_
  replace ⟨y21, hy21, h⟩ := obind h
  refine LW.cl (W_s_l6Copy hy21 rfl (hS9.rB hr0_2)) ?_
  rintro _ w24 ⟨a22, c23, rfl, hs⟩
  have hS10 := hS9.add hs
  refine go ?_
  refine LW.st hS10 4 fun w25 hS11 => ?_
  refine go ?_
  replace ⟨y26, hy26, h⟩ := obind h
  refine LW.cl (W_s_l10Copy hy26 rfl (hS11.rB hr0_3) rfl (hS11.rB hr0_7)) ?_
  rintro _ w31 ⟨a27, c28, a29, c30, rfl, hs⟩
  have hS12 := hS11.add hs
  refine go ?_
  refine LW.fl [1, 2, 21, 22] fun e => ?_
  refine LW.st hS12 6 fun w32 hS13 => ?_
  refine go ?_
  refine LW.bsl (α := DTap) (vs := []) (cs := #[]) (l := ([] : List DTap)) rfl (by kernel_rfl) rfl rfl rfl (fun w => rfl) hS13 rfl ?_
  intro a33 c34 w35 hS14 hf
  refine go ?_
  replace ⟨y36, hy36, h⟩ := obind h
  refine LW.appN (l := ([] : List DTap)) (m := x0.taps) sT63 rfl rfl (hS14.rB hr0_8) hy36 hS14 (i := 0) rfl rfl ?_
  intro a37 c38 w39 hS15 hf
  refine go ?_
  refine LW.st hS15 7 fun w40 hS16 => ?_
  refine go ?_
  refine LW.st hS16 6 fun w41 hS17 => ?_
  refine go ?_
  cases h
  exact And.intro trivial ⟨_, Res.one (resOne.b hS17 6 rfl ag66 rfl rfl), a9, c10, a17, c18, a22, c23, a27, c28, a29, c30, a37, c38, rfl, hS17.pick [5, 4, 3, 1, 2, 0] rfl rfl⟩

theorem W_i_copyHeap {w0 : World} {N : Nat} {x0 : DHeap} {r : DHeap} (h : F_i_copyHeap N x0 = some r) {a0_0 : Option Addr} {n0_0 c0_0 : Nat} (hn0_0 : n0_0 = x0.arena.length) (hr0_0 : rdS (Bor w0 []) w0 a0_0 c0_0 x0.arena) {a0_4 : Option Addr} {n0_4 c0_4 : Nat} (hn0_4 : n0_4 = x0.gc.grey.length) (hr0_4 : rdS (Bor w0 []) w0 a0_4 c0_4 x0.gc.grey) :
    Ret Tryz.prog 142 #[.agg #[.slice a0_0 n0_0 c0_0, .int .i64 x0.gc.phase, .int .i64 x0.gc.pos, .int .i64 x0.gc.round, .slice a0_4 n0_4 c0_4]] w0 (fun v w => ∃ ar0_0 cr0_0, ∃ ar0_4 cr0_4, v = .agg #[.slice ar0_0 r.arena.length cr0_0, .int .i64 r.gc.phase, .int .i64 r.gc.pos, .int .i64 r.gc.round, .slice ar0_4 r.gc.grey.length cr0_4] ∧ St w0 [] w [sl ar0_0 cr0_0 r.arena, sl ar0_4 cr0_4 r.gc.grey]) := by
  subst hn0_0 hn0_4
  unfold F_i_copyHeap at h
  refine Ret.fn Tryz.func142 fun e => ?_
  have hS1 := St.start w0
  refine go ?_
  refine LW.bo hS1 fun g1 w2 hS2 => ?_
  refine LW.al hS2 fun g3 w4 hS3 => ?_
  refine gs ?_
  obtain ⟨j5, hj5, h6⟩ := obind h
  refine CW.cut (fun e wb => ∃ (j5g3 : Nat), ∃ (j5a1 : Option Addr), ∃ (j5c1 : Nat), En e [(1, .pointer (some ⟨g1, 0, none⟩)), (2, .pointer (some ⟨g3, 0, none⟩)), (3, .pointer (some ⟨j5g3, 0, none⟩))] ∧ St w0 [] wb [bx g3 62 [.slice none 0 0, .int .i64 0, .int .i64 0, .int .i64 0, .slice none 0 0], bx g1 62 [.slice a0_0 x0.arena.length c0_0, .int .i64 x0.gc.phase, .int .i64 x0.gc.pos, .int .i64 x0.gc.round, .slice a0_4 x0.gc.grey.length c0_4], bx j5g3 62 [.slice j5a1 j5.length j5c1, .int .i64 x0.gc.phase, .int .i64 x0.gc.pos, .int .i64 x0.gc.round, .slice a0_4 x0.gc.grey.length c0_4], sl j5a1 j5c1 j5]) ?_ ?_
  · have h := hj5
    refine CW.draw (by kernel_rfl) ?_
    have hS4 := hS3.drew
    refine AW.u (i := 0) rfl (by kernel_rfl) rfl rfl (Pur.fa fo62_0 rfl) ?_
    refine AW.take (i := 1) rfl (by kernel_rfl) rfl rfl (Ldr.box (bt := 62) (fr := (0, 0)) (cs := [.slice a0_0 x0.arena.length c0_0, .int .i64 x0.gc.phase, .int .i64 x0.gc.pos, .int .i64 x0.gc.round, .slice a0_4 x0.gc.grey.length c0_4]) ag59 rfl rfl) (St.cell (h := hS4) (i := 1) rfl) ?_
    refine AW.u (i := 3) rfl (by kernel_rfl) rfl rfl (Pur.fa fo62_1 rfl) ?_
    refine AW.take (i := 4) rfl (by kernel_rfl) rfl rfl (Ldr.boxN (bt := 62) (fr := (0, 0)) (cs := [.slice a0_0 x0.arena.length c0_0, .int .i64 x0.gc.phase, .int .i64 x0.gc.pos, .int .i64 x0.gc.round, .slice a0_4 x0.gc.grey.length c0_4]) ag60 rfl rfl) (St.cell (h := hS4) (i := 1) rfl) ?_
    replace ⟨y7, hy7, h⟩ := obind h
    refine AW.all (rs := [2, 6]) (by kernel_rfl) (by simp) ⟨?_, ?_, trivial⟩
    · have q := W_i_copyArena (w0 := w4.drew) hy7 rfl (hS4.rB hr0_0)
      refine ⟨_, rfl, ?_⟩
      refine LW.call pl195 rfl rfl ?_
      refine Ret.mono q ?_
      rintro _ w18 ⟨a16, c17, rfl, hs⟩
      have hS5 := hS4.add hs
      refine LW.nil ⟨rfl, (.c (St.cell (h := hS5) (i := 2) rfl) (.w (by kernel_rfl) Kept.n)), ?_⟩
      refine AW.u (i := 5) rfl (by kernel_rfl) rfl rfl (Pur.build (vs := [(0, .slice a16 y7.length c17), (1, .agg #[.int .i64 x0.gc.phase, .int .i64 x0.gc.pos, .int .i64 x0.gc.round, .slice a0_4 x0.gc.grey.length c0_4])]) (cs := #[.slice a16 y7.length c17, .int .i64 x0.gc.phase, .int .i64 x0.gc.pos, .int .i64 x0.gc.round, .slice a0_4 x0.gc.grey.length c0_4]) rfl (by kernel_rfl)) ?_
      refine AW.one (i := 6) (by kernel_rfl) ?_
      refine ⟨_, rfl, ?_⟩
      refine LW.al hS5 fun g19 w20 hS6 => ?_
      refine LW.nil ⟨rfl, (.c (St.cell (h := hS6) (i := 3) rfl) (.c (St.cell (h := hS6) (i := 3) rfl) Kept.n)), ?_⟩
      refine AW.one (i := 7) (by kernel_rfl) ?_
      refine ⟨_, rfl, ?_⟩
      refine LW.st hS6 0 fun w21 hS7 => ?_
      refine LW.nil ⟨rfl, (.w (by kernel_rfl) (.w (by kernel_rfl) Kept.n)), ?_⟩
      refine AW.done (by kernel_rfl) ?_
      cases oi h
      exact ⟨g19, a16, c17, ⟨rfl, rfl, rfl, trivial⟩, hS7.pick [2, 3, 0, 1] rfl rfl⟩
    refine ⟨_, rfl, ?_⟩
    refine LW.al hS4 fun g22 w23 hS8 => ?_
    refine LW.nil ⟨rfl, (.c (St.cell (h := hS8) (i := 2) rfl) (.c (St.cell (h := hS8) (i := 2) rfl) Kept.n)), ?_⟩
    have q := W_i_copyArena (w0 := w23) hy7 rfl (hS8.rB hr0_0)
    refine AW.one (i := 2) (by kernel_rfl) ?_
    refine ⟨_, rfl, ?_⟩
    refine LW.call pl195 rfl rfl ?_
    refine Ret.mono q ?_
    rintro _ w26 ⟨a24, c25, rfl, hs⟩
    have hS9 := hS8.add hs
    refine LW.nil ⟨rfl, (.c (St.cell (h := hS9) (i := 3) rfl) (.w (by kernel_rfl) Kept.n)), ?_⟩
    refine AW.u (i := 5) rfl (by kernel_rfl) rfl rfl (Pur.build (vs := [(0, .slice a24 y7.length c25), (1, .agg #[.int .i64 x0.gc.phase, .int .i64 x0.gc.pos, .int .i64 x0.gc.round, .slice a0_4 x0.gc.grey.length c0_4])]) (cs := #[.slice a24 y7.length c25, .int .i64 x0.gc.phase, .int .i64 x0.gc.pos, .int .i64 x0.gc.round, .slice a0_4 x0.gc.grey.length c0_4]) rfl (by kernel_rfl)) ?_
    refine AW.one (i := 7) (by kernel_rfl) ?_
    refine ⟨_, rfl, ?_⟩
    refine LW.st hS9 1 fun w27 hS10 => ?_
    refine LW.nil ⟨rfl, (.w (by kernel_rfl) (.w (by kernel_rfl) Kept.n)), ?_⟩
    refine AW.done (by kernel_rfl) ?_
    cases oi h
    exact ⟨g22, a24, c25, ⟨rfl, rfl, rfl, trivial⟩, hS10.pick [2, 3, 1, 0] rfl rfl⟩
  rintro e w28 ⟨j5g3, j5a1, j5c1, hE, hS11⟩
  obtain ⟨e, rfl⟩ := hE.out
  have h := h6
  refine go ?_
  replace ⟨y29, hy29, h⟩ := obind h
  refine LW.cl (W_i_copyInts hy29 rfl (hS11.rB hr0_4)) ?_
  rintro _ w32 ⟨a30, c31, rfl, hs⟩
  have hS12 := hS11.add hs
  refine go ?_
  refine LW.st hS12 3 fun w33 hS13 => ?_
  refine go ?_
  refine LW.st hS13 1 fun w34 hS14 => ?_
  refine go ?_
  cases h
  exact And.intro trivial ⟨_, Res.one (resOne.b hS14 1 rfl ag62 rfl rfl), j5a1, j5c1, a30, c31, rfl, hS14.pick [4, 0] rfl rfl⟩

theorem W_l_markPart {w0 : World} {F : List Nat} {N : Nat} {x0 : DPart} {x1 : Int} {r : Int × (List Int) × (List Int) × (List DRes) × (List DObj) × (List Int) × (List DTap)} (h : F_l_markPart N x0 x1 = some r) {a0_0 : Option Addr} {n0_0 c0_0 : Nat} (hn0_0 : n0_0 = x0.label.levels.length) {a0_1 : Option Addr} {n0_1 c0_1 : Nat} (hn0_1 : n0_1 = x0.own.length) {a0_2 : Option Addr} {n0_2 c0_2 : Nat} (hn0_2 : n0_2 = x0.tree.length) {a0_3 : Option Addr} {n0_3 c0_3 : Nat} (hn0_3 : n0_3 = x0.heap.arena.length) {a0_7 : Option Addr} {n0_7 c0_7 : Nat} (hn0_7 : n0_7 = x0.heap.gc.grey.length) {a0_8 : Option Addr} {n0_8 c0_8 : Nat} (hn0_8 : n0_8 = x0.taps.length) (hS : St w0 F w0 [sl a0_0 c0_0 x0.label.levels, sl a0_1 c0_1 x0.own, sl a0_2 c0_2 x0.tree, sl a0_3 c0_3 x0.heap.arena, sl a0_7 c0_7 x0.heap.gc.grey, sl a0_8 c0_8 x0.taps]) :
    Ret Tryz.prog 27 #[.agg #[.slice a0_0 n0_0 c0_0, .slice a0_1 n0_1 c0_1, .slice a0_2 n0_2 c0_2, .slice a0_3 n0_3 c0_3, .int .i64 x0.heap.gc.phase, .int .i64 x0.heap.gc.pos, .int .i64 x0.heap.gc.round, .slice a0_7 n0_7 c0_7, .slice a0_8 n0_8 c0_8, .int .i64 x0.next, .int .i64 x0.want, .int .i64 x0.spent.pages, .int .i64 x0.spent.rent, .int .i64 x0.spent.cpu, .int .i64 x0.press, .int .i64 x0.lost], .int .i64 x1] w0 (fun v w => v = .int .i64 r.1 ∧ St w0 F w [sl a0_0 c0_0 r.2.1, sl a0_1 c0_1 r.2.2.1, sl a0_2 c0_2 r.2.2.2.1, sl a0_3 c0_3 r.2.2.2.2.1, sl a0_7 c0_7 r.2.2.2.2.2.1, sl a0_8 c0_8 r.2.2.2.2.2.2]) := by
  subst hn0_0 hn0_1 hn0_2 hn0_3 hn0_7 hn0_8
  unfold F_l_markPart at h
  refine Ret.fn Tryz.func27 fun e => ?_
  refine go ?_
  refine LW.bo hS fun g1 w2 hS1 => ?_
  refine go ?_
  replace ⟨y3, hy3, h⟩ := obind h
  obtain ⟨q6, hy3', hq7⟩ := obind hy3
  obtain ⟨hl8, hq7⟩ := keepL_some hq7
  rw [Option.some.inj hq7] at hy3' hl8
  have hS2 := hS1.pick (M := [sl a0_0 c0_0 x0.label.levels] ++ [bx g1 66 [.slice a0_0 x0.label.levels.length c0_0, .slice a0_1 x0.own.length c0_1, .slice a0_2 x0.tree.length c0_2, .slice a0_3 x0.heap.arena.length c0_3, .int .i64 x0.heap.gc.phase, .int .i64 x0.heap.gc.pos, .int .i64 x0.heap.gc.round, .slice a0_7 x0.heap.gc.grey.length c0_7, .slice a0_8 x0.taps.length c0_8, .int .i64 x0.next, .int .i64 x0.want, .int .i64 x0.spent.pages, .int .i64 x0.spent.rent, .int .i64 x0.spent.cpu, .int .i64 x0.press, .int .i64 x0.lost], sl a0_1 c0_1 x0.own, sl a0_2 c0_2 x0.tree, sl a0_3 c0_3 x0.heap.arena, sl a0_7 c0_7 x0.heap.gc.grey, sl a0_8 c0_8 x0.taps]) [1, 0, 2, 3, 4, 5, 6] rfl rfl
  obtain ⟨F4, hL5⟩ := St.lend (L := [sl a0_0 c0_0 x0.label.levels]) (M := [bx g1 66 [.slice a0_0 x0.label.levels.length c0_0, .slice a0_1 x0.own.length c0_1, .slice a0_2 x0.tree.length c0_2, .slice a0_3 x0.heap.arena.length c0_3, .int .i64 x0.heap.gc.phase, .int .i64 x0.heap.gc.pos, .int .i64 x0.heap.gc.round, .slice a0_7 x0.heap.gc.grey.length c0_7, .slice a0_8 x0.taps.length c0_8, .int .i64 x0.next, .int .i64 x0.want, .int .i64 x0.spent.pages, .int .i64 x0.spent.rent, .int .i64 x0.spent.cpu, .int .i64 x0.press, .int .i64 x0.lost], sl a0_1 c0_1 x0.own, sl a0_2 c0_2 x0.tree, sl a0_3 c0_3 x0.heap.arena, sl a0_7 c0_7 x0.heap.gc.grey, sl a0_8 c0_8 x0.taps]) hS2
  refine LW.cl (W_l_markLabel hy3' rfl hL5.st) ?_
  rintro _ w9 ⟨rfl, hs⟩
  have hS3 := hL5.back _ _ hs
  refine go ?_
  replace ⟨y10, hy10, h⟩ := obind h
  obtain ⟨q13, hy10', hq14⟩ := obind hy10
  obtain ⟨hl15, hq14⟩ := keepL_some hq14
  rw [Option.some.inj hq14] at hy10' hl15
  rw [show x0.label.levels.length = y3.2.length from hl8] at hS3
  have hS4 := hS3.pick (M := [sl a0_1 c0_1 x0.own] ++ [sl a0_0 c0_0 y3.2, bx g1 66 [.slice a0_0 y3.2.length c0_0, .slice a0_1 x0.own.length c0_1, .slice a0_2 x0.tree.length c0_2, .slice a0_3 x0.heap.arena.length c0_3, .int .i64 x0.heap.gc.phase, .int .i64 x0.heap.gc.pos, .int .i64 x0.heap.gc.round, .slice a0_7 x0.heap.gc.grey.length c0_7, .slice a0_8 x0.taps.length c0_8, .int .i64 x0.next, .int .i64 x0.want, .int .i64 x0.spent.pages, .int .i64 x0.spent.rent, .int .i64 x0.spent.cpu, .int .i64 x0.press, .int .i64 x0.lost], sl a0_2 c0_2 x0.tree, sl a0_3 c0_3 x0.heap.arena, sl a0_7 c0_7 x0.heap.gc.grey, sl a0_8 c0_8 x0.taps]) [2, 0, 1, 3, 4, 5, 6] rfl rfl
  obtain ⟨F11, hL12⟩ := St.lend (L := [sl a0_1 c0_1 x0.own]) (M := [sl a0_0 c0_0 y3.2, bx g1 66 [.slice a0_0 y3.2.length c0_0, .slice a0_1 x0.own.length c0_1, .slice a0_2 x0.tree.length c0_2, .slice a0_3 x0.heap.arena.length c0_3, .int .i64 x0.heap.gc.phase, .int .i64 x0.heap.gc.pos, .int .i64 x0.heap.gc.round, .slice a0_7 x0.heap.gc.grey.length c0_7, .slice a0_8 x0.taps.length c0_8, .int .i64 x0.next, .int .i64 x0.want, .int .i64 x0.spent.pages, .int .i64 x0.spent.rent, .int .i64 x0.spent.cpu, .int .i64 x0.press, .int .i64 x0.lost], sl a0_2 c0_2 x0.tree, sl a0_3 c0_3 x0.heap.arena, sl a0_7 c0_7 x0.heap.gc.grey, sl a0_8 c0_8 x0.taps]) hS4
  refine LW.cl (W_l_markIntS hy10' rfl hL12.st) ?_
  rintro _ w16 ⟨rfl, hs⟩
  have hS5 := hL12.back _ _ hs
  refine go ?_
  replace ⟨y17, hy17, h⟩ := obind h
  obtain ⟨q20, hy17', hq21⟩ := obind hy17
  obtain ⟨hl22, hq21⟩ := keepL_some hq21
  rw [Option.some.inj hq21] at hy17' hl22
  rw [show x0.own.length = y10.2.length from hl15] at hS5
  have hS6 := hS5.pick (M := [sl a0_2 c0_2 x0.tree] ++ [sl a0_1 c0_1 y10.2, sl a0_0 c0_0 y3.2, bx g1 66 [.slice a0_0 y3.2.length c0_0, .slice a0_1 y10.2.length c0_1, .slice a0_2 x0.tree.length c0_2, .slice a0_3 x0.heap.arena.length c0_3, .int .i64 x0.heap.gc.phase, .int .i64 x0.heap.gc.pos, .int .i64 x0.heap.gc.round, .slice a0_7 x0.heap.gc.grey.length c0_7, .slice a0_8 x0.taps.length c0_8, .int .i64 x0.next, .int .i64 x0.want, .int .i64 x0.spent.pages, .int .i64 x0.spent.rent, .int .i64 x0.spent.cpu, .int .i64 x0.press, .int .i64 x0.lost], sl a0_3 c0_3 x0.heap.arena, sl a0_7 c0_7 x0.heap.gc.grey, sl a0_8 c0_8 x0.taps]) [3, 0, 1, 2, 4, 5, 6] rfl rfl
  obtain ⟨F18, hL19⟩ := St.lend (L := [sl a0_2 c0_2 x0.tree]) (M := [sl a0_1 c0_1 y10.2, sl a0_0 c0_0 y3.2, bx g1 66 [.slice a0_0 y3.2.length c0_0, .slice a0_1 y10.2.length c0_1, .slice a0_2 x0.tree.length c0_2, .slice a0_3 x0.heap.arena.length c0_3, .int .i64 x0.heap.gc.phase, .int .i64 x0.heap.gc.pos, .int .i64 x0.heap.gc.round, .slice a0_7 x0.heap.gc.grey.length c0_7, .slice a0_8 x0.taps.length c0_8, .int .i64 x0.next, .int .i64 x0.want, .int .i64 x0.spent.pages, .int .i64 x0.spent.rent, .int .i64 x0.spent.cpu, .int .i64 x0.press, .int .i64 x0.lost], sl a0_3 c0_3 x0.heap.arena, sl a0_7 c0_7 x0.heap.gc.grey, sl a0_8 c0_8 x0.taps]) hS6
  refine LW.cl (W_l_markResS hy17' rfl hL19.st) ?_
  rintro _ w23 ⟨rfl, hs⟩
  have hS7 := hL19.back _ _ hs
  refine go ?_
  replace ⟨y24, hy24, h⟩ := obind h
  obtain ⟨q27, hy24', hq28⟩ := obind hy24
  obtain ⟨hl29, hq28⟩ := keepL_some hq28
  obtain ⟨hl30, hq28⟩ := keepL_some hq28
  rw [Option.some.inj hq28] at hy24' hl29 hl30
  rw [show x0.tree.length = y17.2.length from hl22] at hS7
  have hS8 := hS7.pick (M := [sl a0_3 c0_3 x0.heap.arena, sl a0_7 c0_7 x0.heap.gc.grey] ++ [sl a0_2 c0_2 y17.2, sl a0_1 c0_1 y10.2, sl a0_0 c0_0 y3.2, bx g1 66 [.slice a0_0 y3.2.length c0_0, .slice a0_1 y10.2.length c0_1, .slice a0_2 y17.2.length c0_2, .slice a0_3 x0.heap.arena.length c0_3, .int .i64 x0.heap.gc.phase, .int .i64 x0.heap.gc.pos, .int .i64 x0.heap.gc.round, .slice a0_7 x0.heap.gc.grey.length c0_7, .slice a0_8 x0.taps.length c0_8, .int .i64 x0.next, .int .i64 x0.want, .int .i64 x0.spent.pages, .int .i64 x0.spent.rent, .int .i64 x0.spent.cpu, .int .i64 x0.press, .int .i64 x0.lost], sl a0_8 c0_8 x0.taps]) [4, 5, 0, 1, 2, 3, 6] rfl rfl
  obtain ⟨F25, hL26⟩ := St.lend (L := [sl a0_3 c0_3 x0.heap.arena, sl a0_7 c0_7 x0.heap.gc.grey]) (M := [sl a0_2 c0_2 y17.2, sl a0_1 c0_1 y10.2, sl a0_0 c0_0 y3.2, bx g1 66 [.slice a0_0 y3.2.length c0_0, .slice a0_1 y10.2.length c0_1, .slice a0_2 y17.2.length c0_2, .slice a0_3 x0.heap.arena.length c0_3, .int .i64 x0.heap.gc.phase, .int .i64 x0.heap.gc.pos, .int .i64 x0.heap.gc.round, .slice a0_7 x0.heap.gc.grey.length c0_7, .slice a0_8 x0.taps.length c0_8, .int .i64 x0.next, .int .i64 x0.want, .int .i64 x0.spent.pages, .int .i64 x0.spent.rent, .int .i64 x0.spent.cpu, .int .i64 x0.press, .int .i64 x0.lost], sl a0_8 c0_8 x0.taps]) hS8
  refine LW.cl (W_l_markHeap hy24' rfl rfl hL26.st) ?_
  rintro _ w31 ⟨rfl, hs⟩
  have hS9 := hL26.back _ _ hs
  refine go ?_
  refine LW.fl [22, 23] fun e => ?_
  replace ⟨y32, hy32, h⟩ := obind h
  obtain ⟨q35, hy32', hq36⟩ := obind hy32
  obtain ⟨hl37, hq36⟩ := keepL_some hq36
  rw [Option.some.inj hq36] at hy32' hl37
  rw [show x0.heap.arena.length = y24.2.1.length from hl29] at hS9
  rw [show x0.heap.gc.grey.length = y24.2.2.length from hl30] at hS9
  have hS10 := hS9.pick (M := [sl a0_8 c0_8 x0.taps] ++ [sl a0_3 c0_3 y24.2.1, sl a0_7 c0_7 y24.2.2, sl a0_2 c0_2 y17.2, sl a0_1 c0_1 y10.2, sl a0_0 c0_0 y3.2, bx g1 66 [.slice a0_0 y3.2.length c0_0, .slice a0_1 y10.2.length c0_1, .slice a0_2 y17.2.length c0_2, .slice a0_3 y24.2.1.length c0_3, .int .i64 x0.heap.gc.phase, .int .i64 x0.heap.gc.pos, .int .i64 x0.heap.gc.round, .slice a0_7 y24.2.2.length c0_7, .slice a0_8 x0.taps.length c0_8, .int .i64 x0.next, .int .i64 x0.want, .int .i64 x0.spent.pages, .int .i64 x0.spent.rent, .int .i64 x0.spent.cpu, .int .i64 x0.press, .int .i64 x0.lost]]) [6, 0, 1, 2, 3, 4, 5] rfl rfl
  obtain ⟨F33, hL34⟩ := St.lend (L := [sl a0_8 c0_8 x0.taps]) (M := [sl a0_3 c0_3 y24.2.1, sl a0_7 c0_7 y24.2.2, sl a0_2 c0_2 y17.2, sl a0_1 c0_1 y10.2, sl a0_0 c0_0 y3.2, bx g1 66 [.slice a0_0 y3.2.length c0_0, .slice a0_1 y10.2.length c0_1, .slice a0_2 y17.2.length c0_2, .slice a0_3 y24.2.1.length c0_3, .int .i64 x0.heap.gc.phase, .int .i64 x0.heap.gc.pos, .int .i64 x0.heap.gc.round, .slice a0_7 y24.2.2.length c0_7, .slice a0_8 x0.taps.length c0_8, .int .i64 x0.next, .int .i64 x0.want, .int .i64 x0.spent.pages, .int .i64 x0.spent.rent, .int .i64 x0.spent.cpu, .int .i64 x0.press, .int .i64 x0.lost]]) hS10
  refine LW.cl (W_l_markTapS hy32' rfl hL34.st) ?_
  rintro _ w38 ⟨rfl, hs⟩
  have hS11 := hL34.back _ _ hs
  refine go ?_
  replace h := Option.some.inj h
  subst h
  rw [show x0.taps.length = y32.2.length from hl37] at hS11
  exact And.intro trivial ⟨_, Res.one (resOne.t rfl), rfl, hS11.pick [5, 4, 3, 1, 2, 0] rfl rfl⟩

theorem W_l_heldPart {w0 : World} {N : Nat} {x0 : DPart} {x1 : Int} {r : Int} (h : F_l_heldPart N x0 x1 = some r) {a0_0 : Option Addr} {n0_0 c0_0 : Nat} (hn0_0 : n0_0 = x0.label.levels.length) (hr0_0 : rdS (Bor w0 []) w0 a0_0 c0_0 x0.label.levels) {a0_1 : Option Addr} {n0_1 c0_1 : Nat} (hn0_1 : n0_1 = x0.own.length) (hr0_1 : rdS (Bor w0 []) w0 a0_1 c0_1 x0.own) {a0_2 : Option Addr} {n0_2 c0_2 : Nat} (hn0_2 : n0_2 = x0.tree.length) (hr0_2 : rdS (Bor w0 []) w0 a0_2 c0_2 x0.tree) {a0_3 : Option Addr} {n0_3 c0_3 : Nat} (hn0_3 : n0_3 = x0.heap.arena.length) (hr0_3 : rdS (Bor w0 []) w0 a0_3 c0_3 x0.heap.arena) {a0_7 : Option Addr} {n0_7 c0_7 : Nat} (hn0_7 : n0_7 = x0.heap.gc.grey.length) (hr0_7 : rdS (Bor w0 []) w0 a0_7 c0_7 x0.heap.gc.grey) {a0_8 : Option Addr} {n0_8 c0_8 : Nat} (hn0_8 : n0_8 = x0.taps.length) (hr0_8 : rdS (Bor w0 []) w0 a0_8 c0_8 x0.taps) :
    Ret Tryz.prog 28 #[.agg #[.slice a0_0 n0_0 c0_0, .slice a0_1 n0_1 c0_1, .slice a0_2 n0_2 c0_2, .slice a0_3 n0_3 c0_3, .int .i64 x0.heap.gc.phase, .int .i64 x0.heap.gc.pos, .int .i64 x0.heap.gc.round, .slice a0_7 n0_7 c0_7, .slice a0_8 n0_8 c0_8, .int .i64 x0.next, .int .i64 x0.want, .int .i64 x0.spent.pages, .int .i64 x0.spent.rent, .int .i64 x0.spent.cpu, .int .i64 x0.press, .int .i64 x0.lost], .int .i64 x1] w0 (fun v w => v = .int .i64 r ∧ St w0 [] w []) := by
  subst hn0_0 hn0_1 hn0_2 hn0_3 hn0_7 hn0_8
  unfold F_l_heldPart at h
  refine Ret.fn Tryz.func28 fun e => ?_
  have hS1 := St.start w0
  refine go ?_
  refine LW.bo hS1 fun g1 w2 hS2 => ?_
  refine go ?_
  replace ⟨y3, hy3, h⟩ := obind h
  refine LW.c0 (W_l_heldLabel hy3 rfl (hS2.rB hr0_0)) hS2 fun w4 hS3 => ?_
  refine go ?_
  refine CW.cond rfl (fun hc5 => ?_) (fun hc5 => ?_)
  · replace h := bcT h hc5
    refine go ?_
    cases h
    exact And.intro trivial ⟨_, Res.one (resOne.t rfl), rfl, hS3.pick [] rfl rfl⟩
  replace h := bcF h hc5
  refine go ?_
  replace ⟨y6, hy6, h⟩ := obind h
  refine LW.c0 (W_l_heldIntS hy6 rfl (hS3.rB hr0_1)) hS3 fun w7 hS4 => ?_
  refine go ?_
  refine CW.fl [1, 2, 16] fun e => ?_
  refine CW.cond rfl (fun hc8 => ?_) (fun hc8 => ?_)
  · replace h := bcT h hc8
    refine go ?_
    cases h
    exact And.intro trivial ⟨_, Res.one (resOne.t rfl), rfl, hS4.pick [] rfl rfl⟩
  replace h := bcF h hc8
  refine go ?_
  replace ⟨y9, hy9, h⟩ := obind h
  refine LW.c0 (W_l_heldResS hy9 rfl (hS4.rB hr0_2)) hS4 fun w10 hS5 => ?_
  refine go ?_
  refine CW.cond rfl (fun hc11 => ?_) (fun hc11 => ?_)
  · replace h := bcT h hc11
    refine go ?_
    cases h
    exact And.intro trivial ⟨_, Res.one (resOne.t rfl), rfl, hS5.pick [] rfl rfl⟩
  replace h := bcF h hc11
  refine go ?_
  replace ⟨y12, hy12, h⟩ := obind h
  refine LW.c0 (W_l_heldHeap hy12 rfl (hS5.rB hr0_3) rfl (hS5.rB hr0_7)) hS5 fun w13 hS6 => ?_
  refine go ?_
  refine CW.fl [1, 2, 28] fun e => ?_
  refine CW.cond rfl (fun hc14 => ?_) (fun hc14 => ?_)
  · replace h := bcT h hc14
    refine go ?_
    cases h
    exact And.intro trivial ⟨_, Res.one (resOne.t rfl), rfl, hS6.pick [] rfl rfl⟩
  replace h := bcF h hc14
  refine go ?_
  replace ⟨y15, hy15, h⟩ := obind h
  refine LW.c0 (W_l_heldTapS hy15 rfl (hS6.rB hr0_8)) hS6 fun w16 hS7 => ?_
  refine go ?_
  refine CW.cond rfl (fun hc17 => ?_) (fun hc17 => ?_)
  · replace h := bcT h hc17
    refine go ?_
    cases h
    exact And.intro trivial ⟨_, Res.one (resOne.t rfl), rfl, hS7.pick [] rfl rfl⟩
  replace h := bcF h hc17
  refine go ?_
  cases h
  exact And.intro trivial ⟨_, Res.one (resOne.t rfl), rfl, hS7.pick [] rfl rfl⟩

theorem W_i_copyPart {w0 : World} {N : Nat} {x0 : DPart} {r : DPart} (h : F_i_copyPart N x0 = some r) {a0_0 : Option Addr} {n0_0 c0_0 : Nat} (hn0_0 : n0_0 = x0.label.levels.length) (hr0_0 : rdS (Bor w0 []) w0 a0_0 c0_0 x0.label.levels) {a0_1 : Option Addr} {n0_1 c0_1 : Nat} (hn0_1 : n0_1 = x0.own.length) (hr0_1 : rdS (Bor w0 []) w0 a0_1 c0_1 x0.own) {a0_2 : Option Addr} {n0_2 c0_2 : Nat} (hn0_2 : n0_2 = x0.tree.length) (hr0_2 : rdS (Bor w0 []) w0 a0_2 c0_2 x0.tree) {a0_3 : Option Addr} {n0_3 c0_3 : Nat} (hn0_3 : n0_3 = x0.heap.arena.length) (hr0_3 : rdS (Bor w0 []) w0 a0_3 c0_3 x0.heap.arena) {a0_7 : Option Addr} {n0_7 c0_7 : Nat} (hn0_7 : n0_7 = x0.heap.gc.grey.length) (hr0_7 : rdS (Bor w0 []) w0 a0_7 c0_7 x0.heap.gc.grey) {a0_8 : Option Addr} {n0_8 c0_8 : Nat} (hn0_8 : n0_8 = x0.taps.length) (hr0_8 : rdS (Bor w0 []) w0 a0_8 c0_8 x0.taps) :
    Ret Tryz.prog 68 #[.agg #[.slice a0_0 n0_0 c0_0, .slice a0_1 n0_1 c0_1, .slice a0_2 n0_2 c0_2, .slice a0_3 n0_3 c0_3, .int .i64 x0.heap.gc.phase, .int .i64 x0.heap.gc.pos, .int .i64 x0.heap.gc.round, .slice a0_7 n0_7 c0_7, .slice a0_8 n0_8 c0_8, .int .i64 x0.next, .int .i64 x0.want, .int .i64 x0.spent.pages, .int .i64 x0.spent.rent, .int .i64 x0.spent.cpu, .int .i64 x0.press, .int .i64 x0.lost]] w0 (fun v w => ∃ ar0_0 cr0_0, ∃ ar0_1 cr0_1, ∃ ar0_2 cr0_2, ∃ ar0_3 cr0_3, ∃ ar0_7 cr0_7, ∃ ar0_8 cr0_8, v = .agg #[.slice ar0_0 r.label.levels.length cr0_0, .slice ar0_1 r.own.length cr0_1, .slice ar0_2 r.tree.length cr0_2, .slice ar0_3 r.heap.arena.length cr0_3, .int .i64 r.heap.gc.phase, .int .i64 r.heap.gc.pos, .int .i64 r.heap.gc.round, .slice ar0_7 r.heap.gc.grey.length cr0_7, .slice ar0_8 r.taps.length cr0_8, .int .i64 r.next, .int .i64 r.want, .int .i64 r.spent.pages, .int .i64 r.spent.rent, .int .i64 r.spent.cpu, .int .i64 r.press, .int .i64 r.lost] ∧ St w0 [] w [sl ar0_0 cr0_0 r.label.levels, sl ar0_1 cr0_1 r.own, sl ar0_2 cr0_2 r.tree, sl ar0_3 cr0_3 r.heap.arena, sl ar0_7 cr0_7 r.heap.gc.grey, sl ar0_8 cr0_8 r.taps]) := by
  subst hn0_0 hn0_1 hn0_2 hn0_3 hn0_7 hn0_8
  unfold F_i_copyPart at h
  refine Ret.fn Tryz.func68 fun e => ?_
  have hS1 := St.start w0
  refine go ?_
  refine LW.bo hS1 fun g1 w2 hS2 => ?_
  refine LW.al hS2 fun g3 w4 hS3 => ?_
  refine go ?_
  refine CW.draw (by kernel_rfl) ?_
  have hS4 := hS3.drew
  refine AW.u (i := 0) rfl (by kernel_rfl) rfl rfl (Pur.fa fo66_0 rfl) ?_
  refine AW.take (i := 1) rfl (by kernel_rfl) rfl rfl (Ldr.boxN (bt := 66) (fr := (0, 0)) (cs := [.slice a0_0 x0.label.levels.length c0_0, .slice a0_1 x0.own.length c0_1, .slice a0_2 x0.tree.length c0_2, .slice a0_3 x0.heap.arena.length c0_3, .int .i64 x0.heap.gc.phase, .int .i64 x0.heap.gc.pos, .int .i64 x0.heap.gc.round, .slice a0_7 x0.heap.gc.grey.length c0_7, .slice a0_8 x0.taps.length c0_8, .int .i64 x0.next, .int .i64 x0.want, .int .i64 x0.spent.pages, .int .i64 x0.spent.rent, .int .i64 x0.spent.cpu, .int .i64 x0.press, .int .i64 x0.lost]) ag57 rfl rfl) (St.cell (h := hS4) (i := 1) rfl) ?_
  refine AW.u (i := 3) rfl (by kernel_rfl) rfl rfl (Pur.fa fo66_1 rfl) ?_
  refine AW.take (i := 4) rfl (by kernel_rfl) rfl rfl (Ldr.box (bt := 66) (fr := (0, 0)) (cs := [.slice a0_0 x0.label.levels.length c0_0, .slice a0_1 x0.own.length c0_1, .slice a0_2 x0.tree.length c0_2, .slice a0_3 x0.heap.arena.length c0_3, .int .i64 x0.heap.gc.phase, .int .i64 x0.heap.gc.pos, .int .i64 x0.heap.gc.round, .slice a0_7 x0.heap.gc.grey.length c0_7, .slice a0_8 x0.taps.length c0_8, .int .i64 x0.next, .int .i64 x0.want, .int .i64 x0.spent.pages, .int .i64 x0.spent.rent, .int .i64 x0.spent.cpu, .int .i64 x0.press, .int .i64 x0.lost]) ag28 rfl rfl) (St.cell (h := hS4) (i := 1) rfl) ?_
  refine AW.u (i := 6) rfl (by kernel_rfl) rfl rfl (Pur.fa fo66_2 rfl) ?_
  refine AW.take (i := 7) rfl (by kernel_rfl) rfl rfl (Ldr.box (bt := 66) (fr := (0, 0)) (cs := [.slice a0_0 x0.label.levels.length c0_0, .slice a0_1 x0.own.length c0_1, .slice a0_2 x0.tree.length c0_2, .slice a0_3 x0.heap.arena.length c0_3, .int .i64 x0.heap.gc.phase, .int .i64 x0.heap.gc.pos, .int .i64 x0.heap.gc.round, .slice a0_7 x0.heap.gc.grey.length c0_7, .slice a0_8 x0.taps.length c0_8, .int .i64 x0.next, .int .i64 x0.want, .int .i64 x0.spent.pages, .int .i64 x0.spent.rent, .int .i64 x0.spent.cpu, .int .i64 x0.press, .int .i64 x0.lost]) ag58 rfl rfl) (St.cell (h := hS4) (i := 1) rfl) ?_
  refine AW.u (i := 9) rfl (by kernel_rfl) rfl rfl (Pur.fa fo66_3 rfl) ?_
  refine AW.take (i := 10) rfl (by kernel_rfl) rfl rfl (Ldr.boxN (bt := 66) (fr := (0, 0)) (cs := [.slice a0_0 x0.label.levels.length c0_0, .slice a0_1 x0.own.length c0_1, .slice a0_2 x0.tree.length c0_2, .slice a0_3 x0.heap.arena.length c0_3, .int .i64 x0.heap.gc.phase, .int .i64 x0.heap.gc.pos, .int .i64 x0.heap.gc.round, .slice a0_7 x0.heap.gc.grey.length c0_7, .slice a0_8 x0.taps.length c0_8, .int .i64 x0.next, .int .i64 x0.want, .int .i64 x0.spent.pages, .int .i64 x0.spent.rent, .int .i64 x0.spent.cpu, .int .i64 x0.press, .int .i64 x0.lost]) ag62 rfl rfl) (St.cell (h := hS4) (i := 1) rfl) ?_
  replace ⟨y5, hy5, h⟩ := obind h
  have q := W_i_copyLabel (w0 := w4.drew) hy5 rfl (hS4.rB hr0_0)
  refine AW.one (i := 2) (by kernel_rfl) ?_
  refine ⟨_, rfl, ?_⟩
  refine LW.call pl139 rfl rfl ?_
  refine Ret.mono q ?_
  rintro _ w8 ⟨a6, c7, rfl, hs⟩
  have hS5 := hS4.add hs
  refine LW.nil ⟨rfl, (.c (St.cell (h := hS5) (i := 2) rfl) (.c (St.cell (h := hS5) (i := 2) rfl) (.c (St.cell (h := hS5) (i := 2) rfl) (.w (by kernel_rfl) Kept.n)))), ?_⟩
  refine AW.u (i := 12) rfl (by kernel_rfl) rfl rfl (Pur.fa fo66_0 rfl) ?_
  replace ⟨y9, hy9, h⟩ := obind h
  have q := W_i_copyInts (w0 := w8) hy9 rfl (hS5.rB hr0_1)
  refine AW.one (i := 5) (by kernel_rfl) ?_
  refine ⟨_, rfl, ?_⟩
  refine LW.call pl140 rfl rfl ?_
  refine Ret.mono q ?_
  rintro _ w12 ⟨a10, c11, rfl, hs⟩
  have hS6 := hS5.add hs
  refine LW.nil ⟨rfl, (.c (St.cell (h := hS6) (i := 3) rfl) (.c (St.cell (h := hS6) (i := 3) rfl) (.w (by kernel_rfl) (.c (St.cell (h := hS6) (i := 3) rfl) Kept.n)))), ?_⟩
  replace ⟨y13, hy13, h⟩ := obind h
  have q := W_i_copyTree (w0 := w12) hy13 rfl (hS6.rB hr0_2)
  refine AW.one (i := 8) (by kernel_rfl) ?_
  refine ⟨_, rfl, ?_⟩
  refine LW.call pl141 rfl rfl ?_
  refine Ret.mono q ?_
  rintro _ w16 ⟨a14, c15, rfl, hs⟩
  have hS7 := hS6.add hs
  refine LW.nil ⟨rfl, (.c (St.cell (h := hS7) (i := 4) rfl) (.w (by kernel_rfl) (.c (St.cell (h := hS7) (i := 4) rfl) (.c (St.cell (h := hS7) (i := 4) rfl) Kept.n)))), ?_⟩
  replace ⟨y17, hy17, h⟩ := obind h
  have q := W_i_copyHeap (w0 := w16) hy17 rfl (hS7.rB hr0_3) rfl (hS7.rB hr0_7)
  refine AW.one (i := 11) (by kernel_rfl) ?_
  refine ⟨_, rfl, ?_⟩
  refine LW.call pl142 rfl rfl ?_
  refine Ret.mono q ?_
  rintro _ w22 ⟨a18, c19, a20, c21, rfl, hs⟩
  have hS8 := hS7.add hs
  refine LW.nil ⟨rfl, (.w (by kernel_rfl) (.c (St.cell (h := hS8) (i := 6) rfl) (.c (St.cell (h := hS8) (i := 6) rfl) (.c (St.cell (h := hS8) (i := 6) rfl) Kept.n)))), ?_⟩
  refine AW.one (i := 13) (by kernel_rfl) ?_
  refine ⟨_, rfl, ?_⟩
  refine LW.st hS8 6 fun w23 hS9 => ?_
  refine LW.nil ⟨rfl, (.w (by kernel_rfl) (.w (by kernel_rfl) (.w (by kernel_rfl) (.w (by kernel_rfl) Kept.n)))), ?_⟩
  refine AW.u (i := 14) rfl (by kernel_rfl) rfl rfl (Pur.fa fo66_1 rfl) ?_
  refine AW.one (i := 15) (by kernel_rfl) ?_
  refine ⟨_, rfl, ?_⟩
  refine LW.st hS9 6 fun w24 hS10 => ?_
  refine LW.nil ⟨rfl, (.w (by kernel_rfl) (.w (by kernel_rfl) (.w (by kernel_rfl) (.w (by kernel_rfl) Kept.n)))), ?_⟩
  refine AW.u (i := 16) rfl (by kernel_rfl) rfl rfl (Pur.fa fo66_2 rfl) ?_
  refine AW.one (i := 17) (by kernel_rfl) ?_
  refine ⟨_, rfl, ?_⟩
  refine LW.st hS10 6 fun w25 hS11 => ?_
  refine LW.nil ⟨rfl, (.w (by kernel_rfl) (.w (by kernel_rfl) (.w (by kernel_rfl) (.w (by kernel_rfl) Kept.n)))), ?_⟩
  refine AW.u (i := 18) rfl (by kernel_rfl) rfl rfl (Pur.fa fo66_3 rfl) ?_
  refine AW.one (i := 19) (by kernel_rfl) ?_
  refine ⟨_, rfl, ?_⟩
  refine LW.st hS11 6 fun w26 hS12 => ?_
  refine LW.nil ⟨rfl, (.w (by kernel_rfl) (.w (by kernel_rfl) (.w (by kernel_rfl) (.w (by kernel_rfl) Kept.n)))), ?_⟩
  refine AW.done (by kernel_rfl) ?_
  refine go ?_
  refine LW.bsl (α := DTap) (vs := []) (cs := #[]) (l := ([] : List DTap)) rfl (by kernel_rfl) rfl rfl rfl (fun w => rfl) hS12 rfl ?_
  intro a27 c28 w29 hS13 hf
  refine go ?_
  replace ⟨y30, hy30, h⟩ := obind h
  refine LW.appN (l := ([] : List DTap)) (m := x0.taps) sT63 rfl rfl (hS13.rB hr0_8) hy30 hS13 (i := 0) rfl rfl ?_
  intro a31 c32 w33 hS14 hf
  refine go ?_
  refine LW.st hS14 7 fun w34 hS15 => ?_
  refine go ?_
  refine LW.st hS15 6 fun w35 hS16 => ?_
  refine go ?_
  cases h
  exact And.intro trivial ⟨_, Res.one (resOne.b hS16 6 rfl ag66 rfl rfl), a6, c7, a10, c11, a14, c15, a18, c19, a20, c21, a31, c32, rfl, hS16.pick [5, 4, 3, 1, 2, 0] rfl rfl⟩

end Go.Kx
