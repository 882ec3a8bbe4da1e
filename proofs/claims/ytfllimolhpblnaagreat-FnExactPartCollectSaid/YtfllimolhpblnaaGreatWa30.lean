/- Each call returns what the plain function says. Printed by drive.py. -/
import Derived.Test.YtfllimolhpblnaaGreatFa
import Derived.Test.YtfllimolhpblnaaGreatPu
import Derived.Test.YtfllimolhpblnaaGreatWa0
import Derived.Test.YtfllimolhpblnaaGreatWa5
import Derived.Test.YtfllimolhpblnaaGreatWa6
import Derived.Test.YtfllimolhpblnaaGreatWa13
import Derived.Test.YtfllimolhpblnaaGreatWa17
import Derived.Test.YtfllimolhpblnaaGreatWa27
import Derived.Test.YtfllimolhpblnaaGreatWa28
import Derived.Test.YtfllimolhpblnaaGreatWa29
namespace Go.Kx
open Go Go.RowKit Go.Proofs
set_option maxRecDepth 10000
set_option maxHeartbeats 2000000
set_option linter.unusedVariables false
set_option linter.unusedSimpArgs false
theorem W_s_PartCollect {w0 : World} {N : Nat} {x0 : DPart} {x1 : Int} {x2 : Int} {r : DPart × Int} (h : F_s_PartCollect N x0 x1 x2 = some r) {a0_0 : Option Addr} {n0_0 c0_0 : Nat} (hn0_0 : n0_0 = x0.label.levels.length) (hr0_0 : rdS (Bor w0 []) w0 a0_0 c0_0 x0.label.levels) {a0_1 : Option Addr} {n0_1 c0_1 : Nat} (hn0_1 : n0_1 = x0.own.length) (hr0_1 : rdS (Bor w0 []) w0 a0_1 c0_1 x0.own) {a0_2 : Option Addr} {n0_2 c0_2 : Nat} (hn0_2 : n0_2 = x0.tree.length) (hr0_2 : rdS (Bor w0 []) w0 a0_2 c0_2 x0.tree) {a0_3 : Option Addr} {n0_3 c0_3 : Nat} (hn0_3 : n0_3 = x0.heap.arena.length) (hr0_3 : rdS (Bor w0 []) w0 a0_3 c0_3 x0.heap.arena) {a0_7 : Option Addr} {n0_7 c0_7 : Nat} (hn0_7 : n0_7 = x0.heap.gc.grey.length) (hr0_7 : rdS (Bor w0 []) w0 a0_7 c0_7 x0.heap.gc.grey) {a0_8 : Option Addr} {n0_8 c0_8 : Nat} (hn0_8 : n0_8 = x0.taps.length) (hr0_8 : rdS (Bor w0 []) w0 a0_8 c0_8 x0.taps) :
    Ret Tryz.prog 33 #[.agg #[.slice a0_0 n0_0 c0_0, .slice a0_1 n0_1 c0_1, .slice a0_2 n0_2 c0_2, .slice a0_3 n0_3 c0_3, .int .i64 x0.heap.gc.phase, .int .i64 x0.heap.gc.pos, .int .i64 x0.heap.gc.round, .slice a0_7 n0_7 c0_7, .slice a0_8 n0_8 c0_8, .int .i64 x0.next, .int .i64 x0.want, .int .i64 x0.spent.pages, .int .i64 x0.spent.rent, .int .i64 x0.spent.cpu, .int .i64 x0.press, .int .i64 x0.lost], .int .i64 x1, .int .i64 x2] w0 (fun v w => ∃ ar0_0 cr0_0, ∃ ar0_1 cr0_1, ∃ ar0_2 cr0_2, ∃ ar0_3 cr0_3, ∃ ar0_7 cr0_7, ∃ ar0_8 cr0_8, v = .tuple #[.agg #[.slice ar0_0 r.1.label.levels.length cr0_0, .slice ar0_1 r.1.own.length cr0_1, .slice ar0_2 r.1.tree.length cr0_2, .slice ar0_3 r.1.heap.arena.length cr0_3, .int .i64 r.1.heap.gc.phase, .int .i64 r.1.heap.gc.pos, .int .i64 r.1.heap.gc.round, .slice ar0_7 r.1.heap.gc.grey.length cr0_7, .slice ar0_8 r.1.taps.length cr0_8, .int .i64 r.1.next, .int .i64 r.1.want, .int .i64 r.1.spent.pages, .int .i64 r.1.spent.rent, .int .i64 r.1.spent.cpu, .int .i64 r.1.press, .int .i64 r.1.lost], .int .i64 r.2] ∧ St w0 [] w [sl ar0_0 cr0_0 r.1.label.levels, sl ar0_1 cr0_1 r.1.own, sl ar0_2 cr0_2 r.1.tree, sl ar0_3 cr0_3 r.1.heap.arena, sl ar0_7 cr0_7 r.1.heap.gc.grey, sl ar0_8 cr0_8 r.1.taps]) := by
  subst hn0_0 hn0_1 hn0_2 hn0_3 hn0_7 hn0_8
  unfold F_s_PartCollect at h
  refine Ret.fn Tryz.func33 fun e => ?_
  have hS1 := St.start w0
  refine go ?_
  refine LW.bo hS1 fun g1 w2 hS2 => ?_
  refine LW.al hS2 fun g3 w4 hS3 => ?_
  refine go ?_
  replace ⟨y5, hy5, h⟩ := obind h
  refine LW.cl (W_s_l13Copy hy5 rfl (hS3.rB hr0_0) rfl (hS3.rB hr0_1) rfl (hS3.rB hr0_2) rfl (hS3.rB hr0_3) rfl (hS3.rB hr0_7) rfl (hS3.rB hr0_8)) ?_
  rintro _ w18 ⟨a6, c7, a8, c9, a10, c11, a12, c13, a14, c15, a16, c17, rfl, hs⟩
  have hS4 := hS3.add hs
  refine LW.al hS4 fun g19 w20 hS5 => ?_
  refine LW.st hS5 0 fun w21 hS6 => ?_
  refine gs ?_
  refine CW.region ?_
  refine gs ?_
  obtain ⟨j22, hj22, h23⟩ := obind h
  refine CW.cut (fun e wb => En e [(1, .int .i64 x1), (2, .int .i64 x2), (6, .pointer (some ⟨g3, 0, none⟩)), (8, .pointer (some ⟨g19, 0, none⟩)), (9, .int .i64 0), (25, .bool j22)] ∧ St w0 [] wb [bx g19 66 [.slice a6 y5.label.levels.length c7, .slice a8 y5.own.length c9, .slice a10 y5.tree.length c11, .slice a12 y5.heap.arena.length c13, .int .i64 y5.heap.gc.phase, .int .i64 y5.heap.gc.pos, .int .i64 y5.heap.gc.round, .slice a14 y5.heap.gc.grey.length c15, .slice a16 y5.taps.length c17, .int .i64 y5.next, .int .i64 y5.want, .int .i64 y5.spent.pages, .int .i64 y5.spent.rent, .int .i64 y5.spent.cpu, .int .i64 y5.press, .int .i64 y5.lost], sl a6 c7 y5.label.levels, sl a8 c9 y5.own, sl a10 c11 y5.tree, sl a12 c13 y5.heap.arena, sl a14 c15 y5.heap.gc.grey, sl a16 c17 y5.taps, bx g3 66 [.slice none 0 0, .slice none 0 0, .slice none 0 0, .slice none 0 0, .int .i64 0, .int .i64 0, .int .i64 0, .slice none 0 0, .slice none 0 0, .int .i64 0, .int .i64 0, .int .i64 0, .int .i64 0, .int .i64 0, .int .i64 0, .int .i64 0]]) ?_ ?_
  · have h := hj22
    refine go ?_
    replace ⟨y24, hy24, h⟩ := obind h
    refine LW.c0 (W_s_PartOk hy24 rfl (hS6.rB hr0_0) rfl (hS6.rB hr0_1) rfl (hS6.rB hr0_2) rfl (hS6.rB hr0_3) rfl (hS6.rB hr0_7) rfl (hS6.rB hr0_8)) hS6 fun w25 hS7 => ?_
    refine go ?_
    rcases bcases (!y24) with hc26 | hc26
    · replace h := bcT h hc26
      refine go ?_
      cases oi h
      exact ⟨⟨rfl, rfl, rfl, rfl, rfl, rfl, trivial⟩, hS7.pick [0, 1, 2, 3, 4, 5, 6, 7] rfl rfl⟩
    replace h := bcF h hc26
    refine go ?_
    replace ⟨y27, hy27, h⟩ := obind h
    refine go ?_
    refine LW.c0 (W_s_l1In hy27) hS7 fun w28 hS8 => ?_
    refine go ?_
    cases oi h
    exact ⟨⟨rfl, rfl, rfl, rfl, rfl, rfl, trivial⟩, hS8.pick [0, 1, 2, 3, 4, 5, 6, 7] rfl rfl⟩
  rintro e w29 ⟨hE, hS9⟩
  obtain ⟨e, rfl⟩ := hE.out
  have h := h23
  refine go ?_
  refine CW.cond rfl (fun hc30 => ?_) (fun hc30 => ?_)
  · replace h := bcT h hc30
    refine go ?_
    refine LW.st hS9 7 fun w31 hS10 => ?_
    refine go ?_
    cases h
    exact And.intro trivial ⟨_, Res.two (resOne.b hS10 7 rfl ag66 rfl rfl) (resOne.t rfl), a6, c7, a8, c9, a10, c11, a12, c13, a14, c15, a16, c17, rfl, hS10.pick [1, 2, 3, 4, 5, 6] rfl rfl⟩
  replace h := bcF h hc30
  refine go ?_
  obtain ⟨o73, ho73, h74⟩ := obind h
  refine CW.mono (CW.iter (σ := Int × Int × (List DRes) × (List DObj) × Int × Int × Int × (List Int)) (ρ := Int × Int × (List DRes) × (List DObj) × Int × Int × Int × (List Int)) (fun s32 e wb => ∃ (s32a0 : Option Addr), ∃ (s32c0 : Nat), ∃ (s32a2 : Option Addr), ∃ (s32c2 : Nat), ∃ (s32a4 : Option Addr), ∃ (s32c4 : Nat), En e [(1, .int .i64 x1), (2, .int .i64 x2), (6, .pointer (some ⟨g3, 0, none⟩)), (8, .pointer (some ⟨g19, 0, none⟩)), (9, .int .i64 s32.1), (10, .int .i64 s32.2.1)] ∧ St w0 [] wb [bx g19 66 [.slice a6 y5.label.levels.length c7, .slice a8 y5.own.length c9, .slice s32a0 s32.2.2.1.length s32c0, .slice s32a2 s32.2.2.2.1.length s32c2, .int .i64 s32.2.2.2.2.1, .int .i64 s32.2.2.2.2.2.1, .int .i64 s32.2.2.2.2.2.2.1, .slice s32a4 s32.2.2.2.2.2.2.2.length s32c4, .slice a16 y5.taps.length c17, .int .i64 y5.next, .int .i64 y5.want, .int .i64 y5.spent.pages, .int .i64 y5.spent.rent, .int .i64 y5.spent.cpu, .int .i64 y5.press, .int .i64 y5.lost], sl a6 c7 y5.label.levels, sl a8 c9 y5.own, sl a16 c17 y5.taps, bx g3 66 [.slice none 0 0, .slice none 0 0, .slice none 0 0, .slice none 0 0, .int .i64 0, .int .i64 0, .int .i64 0, .slice none 0 0, .slice none 0 0, .int .i64 0, .int .i64 0, .int .i64 0, .int .i64 0, .int .i64 0, .int .i64 0, .int .i64 0], sl s32a0 s32c0 s32.2.2.1, sl s32a2 s32c2 s32.2.2.2.1, sl s32a4 s32c4 s32.2.2.2.2.2.2.2]) (fun s32 x e wb => x = .exit 0 ∧ ∃ (s32a0 : Option Addr), ∃ (s32c0 : Nat), ∃ (s32a2 : Option Addr), ∃ (s32c2 : Nat), ∃ (s32a4 : Option Addr), ∃ (s32c4 : Nat), En e [(6, .pointer (some ⟨g3, 0, none⟩)), (8, .pointer (some ⟨g19, 0, none⟩)), (9, .int .i64 s32.1)] ∧ St w0 [] wb [bx g19 66 [.slice a6 y5.label.levels.length c7, .slice a8 y5.own.length c9, .slice s32a0 s32.2.2.1.length s32c0, .slice s32a2 s32.2.2.2.1.length s32c2, .int .i64 s32.2.2.2.2.1, .int .i64 s32.2.2.2.2.2.1, .int .i64 s32.2.2.2.2.2.2.1, .slice s32a4 s32.2.2.2.2.2.2.2.length s32c4, .slice a16 y5.taps.length c17, .int .i64 y5.next, .int .i64 y5.want, .int .i64 y5.spent.pages, .int .i64 y5.spent.rent, .int .i64 y5.spent.cpu, .int .i64 y5.press, .int .i64 y5.lost], sl a6 c7 y5.label.levels, sl a8 c9 y5.own, sl a16 c17 y5.taps, bx g3 66 [.slice none 0 0, .slice none 0 0, .slice none 0 0, .slice none 0 0, .int .i64 0, .int .i64 0, .int .i64 0, .slice none 0 0, .slice none 0 0, .int .i64 0, .int .i64 0, .int .i64 0, .int .i64 0, .int .i64 0, .int .i64 0, .int .i64 0], sl s32a0 s32c0 s32.2.2.1, sl s32a2 s32c2 s32.2.2.2.1, sl s32a4 s32c4 s32.2.2.2.2.2.2.2]) ?_ N (0, 0, y5.tree, y5.heap.arena, y5.heap.gc.phase, y5.heap.gc.pos, y5.heap.gc.round, y5.heap.gc.grey) _ _ _ ⟨a10, c11, a12, c13, a14, c15, ⟨rfl, rfl, rfl, rfl, rfl, rfl, trivial⟩, hS9.pick [0, 1, 2, 6, 7, 3, 4, 5] rfl rfl⟩ ho73) ?_
  · intro s32 e w33 o hM h
    obtain ⟨s32a0, s32c0, s32a2, s32c2, s32a4, s32c4, hE, hS11⟩ := hM
    obtain ⟨e, rfl⟩ := hE.out
    refine go ?_
    refine CW.cond rfl (fun hc34 => ?_) (fun hc34 => ?_)
    · replace h := bcT h hc34
      refine go ?_
      replace ⟨y35, hy35, h⟩ := obind h
      refine LW.cl (W_s_GcStep hy35 rfl (hS11.rI 6 rfl) rfl (hS11.rI 7 rfl)) ?_
      rintro _ w40 ⟨a36, c37, a38, c39, rfl, hs⟩
      have hS12 := hS11.add hs
      refine go ?_
      refine LW.al hS12 fun g41 w42 hS13 => ?_
      refine LW.st hS13 0 fun w43 hS14 => ?_
      refine go ?_
      refine LW.fl [1, 2, 6, 8, 9, 10, 11, 13, 42, 43] fun e => ?_
      refine LW.st hS14 3 fun w44 hS15 => ?_
      refine go ?_
      refine CW.cond rfl (fun hc45 => ?_) (fun hc45 => ?_)
      · replace h := bcT h hc45
        refine go ?_
        refine CW.draw (by kernel_rfl) ?_
        have hS16 := hS15.drew
        refine AW.u (i := 0) rfl (by kernel_rfl) rfl rfl (Pur.fa fo66_2 rfl) ?_
        refine AW.take (i := 1) rfl (by kernel_rfl) rfl rfl (Ldr.box (bt := 66) (fr := (0, 0)) (cs := [.slice a6 y5.label.levels.length c7, .slice a8 y5.own.length c9, .slice s32a0 s32.2.2.1.length s32c0, .slice a36 y35.1.arena.length c37, .int .i64 y35.1.gc.phase, .int .i64 y35.1.gc.pos, .int .i64 y35.1.gc.round, .slice a38 y35.1.gc.grey.length c39, .slice a16 y5.taps.length c17, .int .i64 y5.next, .int .i64 y5.want, .int .i64 y5.spent.pages, .int .i64 y5.spent.rent, .int .i64 y5.spent.cpu, .int .i64 y5.press, .int .i64 y5.lost]) ag58 rfl rfl) (St.cell (h := hS16) (i := 3) rfl) ?_
        refine AW.u (i := 2) rfl (by kernel_rfl) rfl rfl (Pur.p rfl) ?_
        refine AW.u (i := 3) rfl (by kernel_rfl) rfl rfl (Pur.p rfl) ?_
        replace ⟨y46, hy46, h⟩ := obind h
        obtain ⟨b49, o50, hae, hp47, hq48⟩ := hS16.ownIdx (α := DObj) (i := 9) rfl hy46
        subst hae
        refine AW.u (i := 4) rfl (by kernel_rfl) rfl rfl (Pur.ix Tryz.underlying59 sz92 rfl rfl hp47 hq48) ?_
        refine AW.u (i := 5) rfl (by kernel_rfl) rfl rfl (Pur.fa fo92_3 rfl) ?_
        obtain ⟨F51, ho52, hS17⟩ := hS16.freeze (α := DObj) 9 rfl
        obtain ⟨b53, o54, cs55, hae, hb58, _, _, hd56, hk57⟩ := ho52.rdF.idx hy46
        cases hae
        obtain ⟨a59, c60, a62, c63, a65, c66, rfl, hr61, hr64, hr67⟩ := hd56
        refine AW.take (i := 6) rfl (by kernel_rfl) rfl rfl (Ldr.old w44.drew ag3 rfl (hk57 3 _ rfl)) (hS17.zC 9 rfl hb58) ?_
        refine AW.u (i := 7) rfl (by kernel_rfl) rfl rfl (Pur.p rfl) ?_
        refine AW.u (i := 8) rfl (by kernel_rfl) rfl rfl (Pur.p rfl) ?_
        refine AW.u (i := 9) rfl (by kernel_rfl) rfl rfl (Pur.ix Tryz.underlying59 sz92 rfl rfl hp47 hq48) ?_
        refine AW.u (i := 10) rfl (by kernel_rfl) rfl rfl (Pur.fa fo92_5 rfl) ?_
        refine AW.take (i := 11) rfl (by kernel_rfl) rfl rfl (Ldr.old w44.drew ag3 rfl (hk57 5 _ rfl)) (hS17.zC 9 rfl hb58) ?_
        refine AW.u (i := 12) rfl (by kernel_rfl) rfl rfl (Pur.build (vs := [(0, .int .i64 y46.pages)]) (cs := #[.int .i64 y46.pages, .int .i64 0, .int .i64 0]) rfl (by kernel_rfl)) ?_
        replace ⟨y68, hy68, h⟩ := obind h
        have q := W_s_TreeBack (w0 := w44.drew) hy68 rfl (hS17.rI 8 rfl)
        refine AW.one (i := 13) (by kernel_rfl) ?_
        refine ⟨_, rfl, ?_⟩
        refine LW.call pl99 rfl rfl ?_
        refine Ret.mono q ?_
        rintro _ w71 ⟨a69, c70, rfl, hs⟩
        have hS18 := hS17.add hs
        refine LW.nil ⟨rfl, (.c (hS18.zC 10 rfl hb58) (.w (by kernel_rfl) (.w (by kernel_rfl) Kept.n))), ?_⟩
        refine AW.u (i := 14) rfl (by kernel_rfl) rfl rfl (Pur.p rfl) ?_
        refine AW.u (i := 15) rfl (by kernel_rfl) rfl rfl (Pur.p rfl) ?_
        refine AW.u (i := 16) rfl (by kernel_rfl) rfl rfl (Pur.p rfl) ?_
        refine AW.u (i := 17) rfl (by kernel_rfl) rfl rfl (Pur.p rfl) ?_
        refine AW.u (i := 18) rfl (by kernel_rfl) rfl rfl (Pur.p rfl) ?_
        refine AW.done (by kernel_rfl) ?_
        refine go ?_
        refine LW.st hS18 4 fun w72 hS19 => ?_
        refine go ?_
        cases oi h
        exact ⟨rfl, ⟨a69, c70, a36, c37, a38, c39, ⟨rfl, rfl, rfl, rfl, rfl, rfl, trivial⟩, hS19.pick [4, 5, 6, 7, 8, 0, 2, 3] rfl rfl⟩⟩
      replace h := bcF h hc45
      refine go ?_
      cases oi h
      exact ⟨rfl, ⟨s32a0, s32c0, a36, c37, a38, c39, ⟨rfl, rfl, rfl, rfl, rfl, rfl, trivial⟩, hS15.pick [3, 4, 5, 6, 7, 8, 1, 2] rfl rfl⟩⟩
    replace h := bcF h hc34
    refine go ?_
    cases oi h
    exact ⟨trivial, rfl, ⟨s32a0, s32c0, s32a2, s32c2, s32a4, s32c4, ⟨rfl, rfl, rfl, trivial⟩, hS11.pick [0, 1, 2, 3, 4, 5, 6, 7] rfl rfl⟩⟩
  intro x e w75 hM
  obtain ⟨rfl, hM⟩ := hM
  obtain ⟨s32a0, s32c0, s32a2, s32c2, s32a4, s32c4, hE, hS20⟩ := hM
  obtain ⟨e, rfl⟩ := hE.out
  have h := h74
  refine go ?_
  refine LW.st hS20 4 fun w76 hS21 => ?_
  refine go ?_
  cases h
  exact And.intro trivial ⟨_, Res.two (resOne.b hS21 4 rfl ag66 rfl rfl) (resOne.t rfl), a6, c7, a8, c9, s32a0, s32c0, s32a2, s32c2, s32a4, s32c4, a16, c17, rfl, hS21.pick [1, 2, 5, 6, 7, 3] rfl rfl⟩

theorem W_i_GcStep {w0 : World} {N : Nat} {x0 : DHeap} {x1 : Int} {r : DHeap × Int} (h : F_i_GcStep N x0 x1 = some r) {a0_0 : Option Addr} {n0_0 c0_0 : Nat} (hn0_0 : n0_0 = x0.arena.length) (hr0_0 : rdS (Bor w0 []) w0 a0_0 c0_0 x0.arena) {a0_4 : Option Addr} {n0_4 c0_4 : Nat} (hn0_4 : n0_4 = x0.gc.grey.length) (hr0_4 : rdS (Bor w0 []) w0 a0_4 c0_4 x0.gc.grey) :
    Ret Tryz.prog 100 #[.agg #[.slice a0_0 n0_0 c0_0, .int .i64 x0.gc.phase, .int .i64 x0.gc.pos, .int .i64 x0.gc.round, .slice a0_4 n0_4 c0_4], .int .i64 x1] w0 (fun v w => ∃ ar0_0 cr0_0, ∃ ar0_4 cr0_4, v = .tuple #[.agg #[.slice ar0_0 r.1.arena.length cr0_0, .int .i64 r.1.gc.phase, .int .i64 r.1.gc.pos, .int .i64 r.1.gc.round, .slice ar0_4 r.1.gc.grey.length cr0_4], .int .i64 r.2] ∧ St w0 [] w [sl ar0_0 cr0_0 r.1.arena, sl ar0_4 cr0_4 r.1.gc.grey]) := by
  subst hn0_0 hn0_4
  unfold F_i_GcStep at h
  refine Ret.fn Tryz.func100 fun e => ?_
  have hS1 := St.start w0
  refine go ?_
  refine LW.bo hS1 fun g1 w2 hS2 => ?_
  refine LW.al hS2 fun g3 w4 hS3 => ?_
  refine go ?_
  replace ⟨y5, hy5, h⟩ := obind h
  refine LW.cl (W_i_copyHeap hy5 rfl (hS3.rB hr0_0) rfl (hS3.rB hr0_4)) ?_
  rintro _ w10 ⟨a6, c7, a8, c9, rfl, hs⟩
  have hS4 := hS3.add hs
  refine LW.al hS4 fun g11 w12 hS5 => ?_
  refine LW.st hS5 0 fun w13 hS6 => ?_
  refine go ?_
  replace ⟨y14, hy14, h⟩ := obind h
  refine LW.c0 (W_i_HeapOk hy14 rfl (hS6.rB hr0_0) rfl (hS6.rB hr0_4)) hS6 fun w15 hS7 => ?_
  refine go ?_
  refine CW.cond rfl (fun hc16 => ?_) (fun hc16 => ?_)
  · replace h := bcT h hc16
    refine go ?_
    refine LW.st hS7 3 fun w17 hS8 => ?_
    refine go ?_
    cases h
    exact And.intro trivial ⟨_, Res.two (resOne.b hS8 3 rfl ag62 rfl rfl) (resOne.t rfl), a6, c7, a8, c9, rfl, hS8.pick [1, 2] rfl rfl⟩
  replace h := bcF h hc16
  refine go ?_
  refine CW.fl [1, 2, 4, 6, 18] fun e => ?_
  refine CW.cond rfl (fun hc18 => ?_) (fun hc18 => ?_)
  · replace h := bcT h hc18
    refine go ?_
    replace ⟨y19, hy19, h⟩ := obind h
    have hS9 := hS7.pick (M := [sl a6 c7 y5.arena, sl a8 c9 y5.gc.grey] ++ [bx g11 62 [.slice a6 y5.arena.length c7, .int .i64 y5.gc.phase, .int .i64 y5.gc.pos, .int .i64 y5.gc.round, .slice a8 y5.gc.grey.length c9], bx g3 62 [.slice none 0 0, .int .i64 0, .int .i64 0, .int .i64 0, .slice none 0 0], bx g1 62 [.slice a0_0 x0.arena.length c0_0, .int .i64 x0.gc.phase, .int .i64 x0.gc.pos, .int .i64 x0.gc.round, .slice a0_4 x0.gc.grey.length c0_4]]) [1, 2, 0, 3, 4] rfl rfl
    obtain ⟨F20, hL21⟩ := St.lend (L := [sl a6 c7 y5.arena, sl a8 c9 y5.gc.grey]) (M := [bx g11 62 [.slice a6 y5.arena.length c7, .int .i64 y5.gc.phase, .int .i64 y5.gc.pos, .int .i64 y5.gc.round, .slice a8 y5.gc.grey.length c9], bx g3 62 [.slice none 0 0, .int .i64 0, .int .i64 0, .int .i64 0, .slice none 0 0], bx g1 62 [.slice a0_0 x0.arena.length c0_0, .int .i64 x0.gc.phase, .int .i64 x0.gc.pos, .int .i64 x0.gc.round, .slice a0_4 x0.gc.grey.length c0_4]]) hS9
    refine LW.cl (W_i_sweepStep hy19 rfl rfl hL21.st) ?_
    rintro _ w26 ⟨a22, c23, a24, c25, rfl, hs⟩
    have hS10 := hL21.back _ _ hs
    refine go ?_
    refine LW.st hS10 3 fun w27 hS11 => ?_
    refine go ?_
    cases h
    exact And.intro trivial ⟨_, Res.two (resOne.b hS11 3 rfl ag62 rfl rfl) (resOne.t rfl), a22, c23, a24, c25, rfl, hS11.pick [0, 1] rfl rfl⟩
  replace h := bcF h hc18
  refine go ?_
  refine CW.cond rfl (fun hc28 => ?_) (fun hc28 => ?_)
  · replace h := bcT h hc28
    refine go ?_
    refine LW.st hS7 0 fun w29 hS12 => ?_
    refine go ?_
    refine LW.st hS12 0 fun w30 hS13 => ?_
    refine go ?_
    refine LW.st hS13 3 fun w31 hS14 => ?_
    refine go ?_
    cases h
    exact And.intro trivial ⟨_, Res.two (resOne.b hS14 3 rfl ag62 rfl rfl) (resOne.t rfl), a6, c7, a8, c9, rfl, hS14.pick [1, 2] rfl rfl⟩
  replace h := bcF h hc28
  refine go ?_
  replace ⟨y32, hy32, h⟩ := obind h
  obtain ⟨b35, o36, cs37, hae, hb40, hp33, hq34, hd38, hk39⟩ := hr0_4.idx hy32
  subst hae
  obtain rfl := hd38
  refine LW.u (Pur.ix Tryz.underlying28 sz3 rfl rfl hp33 hq34) rfl ?_
  refine LW.l (Ldr.old w0 ag3 rfl (hk39 0 _ rfl)) (hS7.same _ hb40.1 hb40.2) rfl ?_
  refine go ?_
  replace ⟨y41, hy41, h⟩ := obind h
  obtain ⟨hle47, a42, c43, he44, he45, hS15⟩ := hS7.sub' (α := Int) 2 rfl hy41
  refine LW.fl [1, 2, 4, 6, 8, 52, 53] fun e => ?_
  refine LW.u (Pur.sub (α := Int) (l := y5.gc.grey) Tryz.underlying28 sz3 rfl bndN (bndS rfl) hy41 hle47 he44 he45) rfl ?_
  refine go ?_
  refine LW.st hS15 0 fun w48 hS16 => ?_
  refine gs ?_
  obtain ⟨j49, hj49, h50⟩ := obind h
  refine CW.cut (fun e wb => En e [(1, .int .i64 x1), (2, .pointer (some ⟨g1, 0, none⟩)), (4, .pointer (some ⟨g3, 0, none⟩)), (6, .pointer (some ⟨g11, 0, none⟩)), (8, .int .i64 y32), (67, .bool j49)] ∧ St w0 [] wb [bx g11 62 [.slice a6 y5.arena.length c7, .int .i64 y5.gc.phase, .int .i64 y5.gc.pos, .int .i64 y5.gc.round, .slice a42 y41.length c43], sl a6 c7 y5.arena, sl a42 c43 y41, bx g3 62 [.slice none 0 0, .int .i64 0, .int .i64 0, .int .i64 0, .slice none 0 0], bx g1 62 [.slice a0_0 x0.arena.length c0_0, .int .i64 x0.gc.phase, .int .i64 x0.gc.pos, .int .i64 x0.gc.round, .slice (some ⟨b35, o36, none⟩) x0.gc.grey.length c0_4]]) ?_ ?_
  · have h := hj49
    refine go ?_
    rcases bcases (y32 != 0) with hc51 | hc51
    · replace h := bcT h hc51
      refine go ?_
      replace ⟨y52, hy52, h⟩ := obind h
      obtain ⟨b55, o56, cs57, hae, hb60, hp53, hq54, hd58, hk59⟩ := hr0_0.idx hy52
      subst hae
      obtain ⟨a61, c62, a64, c65, a67, c68, rfl, hr63, hr66, hr69⟩ := hd58
      refine go ?_
      refine LW.u (Pur.ix Tryz.underlying59 sz92 rfl rfl hp53 hq54) rfl ?_
      refine go ?_
      refine LW.l (Ldr.oldN w0 ag92 rfl rfl (fun j u hu => hk59 j u hu)) (hS16.same _ hb60.1 hb60.2) rfl ?_
      refine go ?_
      replace ⟨y70, hy70, h⟩ := obind h
      refine go ?_
      refine LW.c0 (W_i_Expired hy70 rfl (hS16.rB hr63) rfl (hS16.rB hr66) rfl (hS16.rB hr69)) hS16 fun w71 hS17 => ?_
      refine go ?_
      cases oi h
      exact ⟨⟨rfl, rfl, rfl, rfl, rfl, rfl, trivial⟩, hS17.pick [0, 1, 2, 3, 4] rfl rfl⟩
    replace h := bcF h hc51
    refine go ?_
    cases oi h
    exact ⟨⟨rfl, rfl, rfl, rfl, rfl, rfl, trivial⟩, hS16.pick [0, 1, 2, 3, 4] rfl rfl⟩
  rintro e w72 ⟨hE, hS18⟩
  obtain ⟨e, rfl⟩ := hE.out
  have h := h50
  refine go ?_
  refine CW.cond rfl (fun hc73 => ?_) (fun hc73 => ?_)
  · replace h := bcT h hc73
    refine go ?_
    refine LW.st hS18 3 fun w74 hS19 => ?_
    refine go ?_
    cases h
    exact And.intro trivial ⟨_, Res.two (resOne.b hS19 3 rfl ag62 rfl rfl) (resOne.t rfl), a6, c7, a42, c43, rfl, hS19.pick [1, 2] rfl rfl⟩
  replace h := bcF h hc73
  refine go ?_
  replace ⟨y75, hy75, h⟩ := obind h
  obtain ⟨b78, o79, hae, hp76, hq77⟩ := hS18.ownIdx (α := DObj) (i := 1) rfl hy75
  subst hae
  refine LW.u (Pur.ix Tryz.underlying59 sz92 rfl rfl hp76 hq77) rfl ?_
  refine go ?_
  replace ⟨y80, hy80, h⟩ := obind h
  refine LW.stE (M := []) (L := [bx g11 62 [.slice (some ⟨b78, o79, none⟩) y5.arena.length c7, .int .i64 y5.gc.phase, .int .i64 y5.gc.pos, .int .i64 y5.gc.round, .slice a42 y41.length c43], sl (some ⟨b78, o79, none⟩) c7 y5.arena, sl a42 c43 y41, bx g3 62 [.slice none 0 0, .int .i64 0, .int .i64 0, .int .i64 0, .slice none 0 0], bx g1 62 [.slice a0_0 x0.arena.length c0_0, .int .i64 x0.gc.phase, .int .i64 x0.gc.pos, .int .i64 x0.gc.round, .slice (some ⟨b35, o36, none⟩) x0.gc.grey.length c0_4]]) (z := y75) (z' := (DObj.mk y75.gen y75.kind y75.box y75.res y75.til y75.pages y75.wait y75.got y75.ran true y75.links y75.data y75.queue)) (o := 9) hS18 (i := 1) rfl hy75 ag4 rfl (by show _ = o79 + (y32 : Int).toNat * 13 + 9; omega) rfl rfl rfl rfl (leafF (fun w cs F hF => by obtain ⟨q0, r0, q1, r1, q2, r2, rfl, hH⟩ := hF; exact ⟨q0, r0, q1, r1, q2, r2, rfl, hH⟩)) ?_
  intro w81 hS20 hf
  rw [Option.some.inj hy80] at hS20
  refine go ?_
  replace ⟨y82, hy82, h⟩ := obind h
  refine LW.cl (W_i_edgesOf hy82 rfl (hS20.rB hr0_0)) ?_
  rintro _ w85 ⟨a83, c84, rfl, hs⟩
  have hS21 := hS20.add hs
  refine go ?_
  rw [show y5.arena.length = y80.length from (len_set (Option.some.inj hy80))] at hS21
  obtain ⟨o131, ho131, h132⟩ := obind h
  refine CW.mono (CW.iter (σ := Int × (List DObj) × Int × Int × Int × (List Int)) (ρ := Int × (List DObj) × Int × Int × Int × (List Int)) (fun s86 e wb => ∃ (s86a0 : Option Addr), ∃ (s86c0 : Nat), ∃ (s86a2 : Option Addr), ∃ (s86c2 : Nat), En e [(1, .int .i64 x1), (2, .pointer (some ⟨g1, 0, none⟩)), (4, .pointer (some ⟨g3, 0, none⟩)), (6, .pointer (some ⟨g11, 0, none⟩)), (77, .slice a83 y82.length c84), (78, .int .i64 (y82.length : Int)), (79, .int .i64 s86.1)] ∧ St w0 [] wb [sl a83 c84 y82, bx g11 62 [.slice s86a0 s86.2.1.length s86c0, .int .i64 s86.2.2.1, .int .i64 s86.2.2.2.1, .int .i64 s86.2.2.2.2.1, .slice s86a2 s86.2.2.2.2.2.length s86c2], bx g3 62 [.slice none 0 0, .int .i64 0, .int .i64 0, .int .i64 0, .slice none 0 0], bx g1 62 [.slice a0_0 x0.arena.length c0_0, .int .i64 x0.gc.phase, .int .i64 x0.gc.pos, .int .i64 x0.gc.round, .slice (some ⟨b35, o36, none⟩) x0.gc.grey.length c0_4], sl s86a0 s86c0 s86.2.1, sl s86a2 s86c2 s86.2.2.2.2.2]) (fun s86 x e wb => x = .exit 1 ∧ ∃ (s86a0 : Option Addr), ∃ (s86c0 : Nat), ∃ (s86a2 : Option Addr), ∃ (s86c2 : Nat), En e [(4, .pointer (some ⟨g3, 0, none⟩)), (6, .pointer (some ⟨g11, 0, none⟩))] ∧ St w0 [] wb [sl a83 c84 y82, bx g11 62 [.slice s86a0 s86.2.1.length s86c0, .int .i64 s86.2.2.1, .int .i64 s86.2.2.2.1, .int .i64 s86.2.2.2.2.1, .slice s86a2 s86.2.2.2.2.2.length s86c2], bx g3 62 [.slice none 0 0, .int .i64 0, .int .i64 0, .int .i64 0, .slice none 0 0], bx g1 62 [.slice a0_0 x0.arena.length c0_0, .int .i64 x0.gc.phase, .int .i64 x0.gc.pos, .int .i64 x0.gc.round, .slice (some ⟨b35, o36, none⟩) x0.gc.grey.length c0_4], sl s86a0 s86c0 s86.2.1, sl s86a2 s86c2 s86.2.2.2.2.2]) ?_ N (0, y80, y5.gc.phase, y5.gc.pos, y5.gc.round, y41) _ _ _ ⟨(some ⟨b78, o79, none⟩), c7, a42, c43, ⟨rfl, rfl, rfl, rfl, rfl, rfl, rfl, trivial⟩, hS21.pick [0, 1, 4, 5, 2, 3] rfl rfl⟩ ho131) ?_
  · intro s86 e w87 o hM h
    obtain ⟨s86a0, s86c0, s86a2, s86c2, hE, hS22⟩ := hM
    obtain ⟨e, rfl⟩ := hE.out
    refine go ?_
    refine CW.fl [1, 2, 4, 6, 77, 78, 79, 80] fun e => ?_
    refine CW.cond rfl (fun hc88 => ?_) (fun hc88 => ?_)
    · replace h := bcT h hc88
      refine go ?_
      replace ⟨y89, hy89, h⟩ := obind h
      obtain ⟨b92, o93, hae, hp90, hq91⟩ := hS22.ownIdx (α := Int) (i := 0) rfl hy89
      subst hae
      refine LW.u (Pur.ix Tryz.underlying28 sz3 rfl rfl hp90 hq91) rfl ?_
      obtain ⟨F94, ho95, hS23⟩ := hS22.freeze (α := Int) 0 rfl
      obtain ⟨b96, o97, cs98, hae, hb101, _, _, hd99, hk100⟩ := ho95.rdF.idx hy89
      cases hae
      obtain rfl := hd99
      refine LW.l (Ldr.old w87 ag3 rfl (hk100 0 _ rfl)) (hS23.zC 0 rfl hb101) rfl ?_
      refine go ?_
      replace ⟨y102, hy102, h⟩ := obind h
      obtain ⟨b105, o106, cs107, hae, hb110, hp103, hq104, hd108, hk109⟩ := hr0_0.idx hy102
      subst hae
      obtain ⟨a111, c112, a114, c115, a117, c118, rfl, hr113, hr116, hr119⟩ := hd108
      refine LW.u (Pur.ix Tryz.underlying59 sz92 rfl rfl hp103 hq104) rfl ?_
      refine LW.l (Ldr.oldN w0 ag92 rfl rfl (fun j u hu => hk109 j u hu)) (hS23.same _ hb110.1 hb110.2) rfl ?_
      refine go ?_
      replace ⟨y120, hy120, h⟩ := obind h
      refine LW.c0 (W_i_Expired hy120 rfl (hS23.rB hr113) rfl (hS23.rB hr116) rfl (hS23.rB hr119)) hS23 fun w121 hS24 => ?_
      refine go ?_
      refine CW.fl [1, 2, 4, 6, 10, 77, 78, 79, 90] fun e => ?_
      refine CW.cond rfl (fun hc122 => ?_) (fun hc122 => ?_)
      · replace h := bcT h hc122
        refine go ?_
        replace ⟨y123, hy123, h⟩ := obind h
        have hS25 := hS24.pick (M := [bx g11 62 [.slice s86a0 s86.2.1.length s86c0, .int .i64 s86.2.2.1, .int .i64 s86.2.2.2.1, .int .i64 s86.2.2.2.2.1, .slice s86a2 s86.2.2.2.2.2.length s86c2], sl s86a0 s86c0 s86.2.1, sl s86a2 s86c2 s86.2.2.2.2.2] ++ [fz w87 F94, bx g3 62 [.slice none 0 0, .int .i64 0, .int .i64 0, .int .i64 0, .slice none 0 0], bx g1 62 [.slice (some ⟨b105, o106, none⟩) x0.arena.length c0_0, .int .i64 x0.gc.phase, .int .i64 x0.gc.pos, .int .i64 x0.gc.round, .slice (some ⟨b35, o36, none⟩) x0.gc.grey.length c0_4]]) [1, 4, 5, 0, 2, 3] rfl rfl
        obtain ⟨F124, hL125⟩ := St.lend (L := [bx g11 62 [.slice s86a0 s86.2.1.length s86c0, .int .i64 s86.2.2.1, .int .i64 s86.2.2.2.1, .int .i64 s86.2.2.2.2.1, .slice s86a2 s86.2.2.2.2.2.length s86c2], sl s86a0 s86c0 s86.2.1, sl s86a2 s86c2 s86.2.2.2.2.2]) (M := [fz w87 F94, bx g3 62 [.slice none 0 0, .int .i64 0, .int .i64 0, .int .i64 0, .slice none 0 0], bx g1 62 [.slice (some ⟨b105, o106, none⟩) x0.arena.length c0_0, .int .i64 x0.gc.phase, .int .i64 x0.gc.pos, .int .i64 x0.gc.round, .slice (some ⟨b35, o36, none⟩) x0.gc.grey.length c0_4]]) hS25
        refine LW.cl (W_i_shade hy123 hL125.st) ?_
        rintro _ w130 ⟨a126, c127, a128, c129, rfl, hs⟩
        have hS26 := hL125.back _ _ hs
        refine go ?_
        have hS27 := hS26.thaw (α := Int) 3 rfl ho95
        cases oi h
        exact ⟨rfl, ⟨a126, c127, a128, c129, ⟨rfl, rfl, rfl, rfl, rfl, rfl, rfl, trivial⟩, hS27.pick [3, 0, 4, 5, 1, 2] rfl rfl⟩⟩
      replace h := bcF h hc122
      refine go ?_
      have hS28 := hS24.thaw (α := Int) 0 rfl ho95
      cases oi h
      exact ⟨rfl, ⟨s86a0, s86c0, s86a2, s86c2, ⟨rfl, rfl, rfl, rfl, rfl, rfl, rfl, trivial⟩, hS28.pick [0, 1, 2, 3, 4, 5] rfl rfl⟩⟩
    replace h := bcF h hc88
    refine go ?_
    cases oi h
    exact ⟨trivial, rfl, ⟨s86a0, s86c0, s86a2, s86c2, ⟨rfl, rfl, trivial⟩, hS22.pick [0, 1, 2, 3, 4, 5] rfl rfl⟩⟩
  intro x e w133 hM
  obtain ⟨rfl, hM⟩ := hM
  obtain ⟨s86a0, s86c0, s86a2, s86c2, hE, hS29⟩ := hM
  obtain ⟨e, rfl⟩ := hE.out
  have h := h132
  refine go ?_
  refine LW.st hS29 2 fun w134 hS30 => ?_
  refine go ?_
  cases h
  exact And.intro trivial ⟨_, Res.two (resOne.b hS30 2 rfl ag62 rfl rfl) (resOne.t rfl), s86a0, s86c0, s86a2, s86c2, rfl, hS30.pick [4, 5] rfl rfl⟩

theorem W_i_PartCollect {w0 : World} {N : Nat} {x0 : DPart} {x1 : Int} {x2 : Int} {r : DPart × Int} (h : F_i_PartCollect N x0 x1 x2 = some r) {a0_0 : Option Addr} {n0_0 c0_0 : Nat} (hn0_0 : n0_0 = x0.label.levels.length) (hr0_0 : rdS (Bor w0 []) w0 a0_0 c0_0 x0.label.levels) {a0_1 : Option Addr} {n0_1 c0_1 : Nat} (hn0_1 : n0_1 = x0.own.length) (hr0_1 : rdS (Bor w0 []) w0 a0_1 c0_1 x0.own) {a0_2 : Option Addr} {n0_2 c0_2 : Nat} (hn0_2 : n0_2 = x0.tree.length) (hr0_2 : rdS (Bor w0 []) w0 a0_2 c0_2 x0.tree) {a0_3 : Option Addr} {n0_3 c0_3 : Nat} (hn0_3 : n0_3 = x0.heap.arena.length) (hr0_3 : rdS (Bor w0 []) w0 a0_3 c0_3 x0.heap.arena) {a0_7 : Option Addr} {n0_7 c0_7 : Nat} (hn0_7 : n0_7 = x0.heap.gc.grey.length) (hr0_7 : rdS (Bor w0 []) w0 a0_7 c0_7 x0.heap.gc.grey) {a0_8 : Option Addr} {n0_8 c0_8 : Nat} (hn0_8 : n0_8 = x0.taps.length) (hr0_8 : rdS (Bor w0 []) w0 a0_8 c0_8 x0.taps) :
    Ret Tryz.prog 34 #[.agg #[.slice a0_0 n0_0 c0_0, .slice a0_1 n0_1 c0_1, .slice a0_2 n0_2 c0_2, .slice a0_3 n0_3 c0_3, .int .i64 x0.heap.gc.phase, .int .i64 x0.heap.gc.pos, .int .i64 x0.heap.gc.round, .slice a0_7 n0_7 c0_7, .slice a0_8 n0_8 c0_8, .int .i64 x0.next, .int .i64 x0.want, .int .i64 x0.spent.pages, .int .i64 x0.spent.rent, .int .i64 x0.spent.cpu, .int .i64 x0.press, .int .i64 x0.lost], .int .i64 x1, .int .i64 x2] w0 (fun v w => ∃ ar0_0 cr0_0, ∃ ar0_1 cr0_1, ∃ ar0_2 cr0_2, ∃ ar0_3 cr0_3, ∃ ar0_7 cr0_7, ∃ ar0_8 cr0_8, v = .tuple #[.agg #[.slice ar0_0 r.1.label.levels.length cr0_0, .slice ar0_1 r.1.own.length cr0_1, .slice ar0_2 r.1.tree.length cr0_2, .slice ar0_3 r.1.heap.arena.length cr0_3, .int .i64 r.1.heap.gc.phase, .int .i64 r.1.heap.gc.pos, .int .i64 r.1.heap.gc.round, .slice ar0_7 r.1.heap.gc.grey.length cr0_7, .slice ar0_8 r.1.taps.length cr0_8, .int .i64 r.1.next, .int .i64 r.1.want, .int .i64 r.1.spent.pages, .int .i64 r.1.spent.rent, .int .i64 r.1.spent.cpu, .int .i64 r.1.press, .int .i64 r.1.lost], .int .i64 r.2] ∧ St w0 [] w [sl ar0_0 cr0_0 r.1.label.levels, sl ar0_1 cr0_1 r.1.own, sl ar0_2 cr0_2 r.1.tree, sl ar0_3 cr0_3 r.1.heap.arena, sl ar0_7 cr0_7 r.1.heap.gc.grey, sl ar0_8 cr0_8 r.1.taps]) := by
  subst hn0_0 hn0_1 hn0_2 hn0_3 hn0_7 hn0_8
  unfold F_i_PartCollect at h
  refine Ret.fn Tryz.func34 fun e => ?_
  have hS1 := St.start w0
  refine go ?_
  refine LW.bo hS1 fun g1 w2 hS2 => ?_
  refine LW.al hS2 fun g3 w4 hS3 => ?_
  refine go ?_
  replace ⟨y5, hy5, h⟩ := obind h
  refine LW.cl (W_i_copyPart hy5 rfl (hS3.rB hr0_0) rfl (hS3.rB hr0_1) rfl (hS3.rB hr0_2) rfl (hS3.rB hr0_3) rfl (hS3.rB hr0_7) rfl (hS3.rB hr0_8)) ?_
  rintro _ w18 ⟨a6, c7, a8, c9, a10, c11, a12, c13, a14, c15, a16, c17, rfl, hs⟩
  have hS4 := hS3.add hs
  refine LW.al hS4 fun g19 w20 hS5 => ?_
  refine LW.st hS5 0 fun w21 hS6 => ?_
  refine gs ?_
  refine CW.region ?_
  refine gs ?_
  obtain ⟨j22, hj22, h23⟩ := obind h
  refine CW.cut (fun e wb => En e [(1, .int .i64 x1), (2, .int .i64 x2), (6, .pointer (some ⟨g3, 0, none⟩)), (8, .pointer (some ⟨g19, 0, none⟩)), (9, .int .i64 0), (22, .bool j22)] ∧ St w0 [] wb [bx g19 66 [.slice a6 y5.label.levels.length c7, .slice a8 y5.own.length c9, .slice a10 y5.tree.length c11, .slice a12 y5.heap.arena.length c13, .int .i64 y5.heap.gc.phase, .int .i64 y5.heap.gc.pos, .int .i64 y5.heap.gc.round, .slice a14 y5.heap.gc.grey.length c15, .slice a16 y5.taps.length c17, .int .i64 y5.next, .int .i64 y5.want, .int .i64 y5.spent.pages, .int .i64 y5.spent.rent, .int .i64 y5.spent.cpu, .int .i64 y5.press, .int .i64 y5.lost], sl a6 c7 y5.label.levels, sl a8 c9 y5.own, sl a10 c11 y5.tree, sl a12 c13 y5.heap.arena, sl a14 c15 y5.heap.gc.grey, sl a16 c17 y5.taps, bx g3 66 [.slice none 0 0, .slice none 0 0, .slice none 0 0, .slice none 0 0, .int .i64 0, .int .i64 0, .int .i64 0, .slice none 0 0, .slice none 0 0, .int .i64 0, .int .i64 0, .int .i64 0, .int .i64 0, .int .i64 0, .int .i64 0, .int .i64 0]]) ?_ ?_
  · have h := hj22
    refine go ?_
    replace ⟨y24, hy24, h⟩ := obind h
    refine LW.c0 (W_i_PartOk hy24 rfl (hS6.rB hr0_0) rfl (hS6.rB hr0_1) rfl (hS6.rB hr0_2) rfl (hS6.rB hr0_3) rfl (hS6.rB hr0_7) rfl (hS6.rB hr0_8)) hS6 fun w25 hS7 => ?_
    refine go ?_
    rcases bcases (!y24) with hc26 | hc26
    · replace h := bcT h hc26
      refine go ?_
      cases oi h
      exact ⟨⟨rfl, rfl, rfl, rfl, rfl, rfl, trivial⟩, hS7.pick [0, 1, 2, 3, 4, 5, 6, 7] rfl rfl⟩
    replace h := bcF h hc26
    refine go ?_
    replace ⟨y27, hy27, h⟩ := obind h
    refine go ?_
    refine LW.c0 (W_i_within hy27) hS7 fun w28 hS8 => ?_
    refine go ?_
    cases oi h
    exact ⟨⟨rfl, rfl, rfl, rfl, rfl, rfl, trivial⟩, hS8.pick [0, 1, 2, 3, 4, 5, 6, 7] rfl rfl⟩
  rintro e w29 ⟨hE, hS9⟩
  obtain ⟨e, rfl⟩ := hE.out
  have h := h23
  refine go ?_
  refine CW.cond rfl (fun hc30 => ?_) (fun hc30 => ?_)
  · replace h := bcT h hc30
    refine go ?_
    refine LW.st hS9 7 fun w31 hS10 => ?_
    refine go ?_
    cases h
    exact And.intro trivial ⟨_, Res.two (resOne.b hS10 7 rfl ag66 rfl rfl) (resOne.t rfl), a6, c7, a8, c9, a10, c11, a12, c13, a14, c15, a16, c17, rfl, hS10.pick [1, 2, 3, 4, 5, 6] rfl rfl⟩
  replace h := bcF h hc30
  refine go ?_
  obtain ⟨o81, ho81, h82⟩ := obind h
  refine CW.mono (CW.iter (σ := Int × Int × (List DRes) × (List DObj) × Int × Int × Int × (List Int)) (ρ := Int × Int × (List DRes) × (List DObj) × Int × Int × Int × (List Int)) (fun s32 e wb => ∃ (s32a0 : Option Addr), ∃ (s32c0 : Nat), ∃ (s32a2 : Option Addr), ∃ (s32c2 : Nat), ∃ (s32a4 : Option Addr), ∃ (s32c4 : Nat), En e [(1, .int .i64 x1), (6, .pointer (some ⟨g3, 0, none⟩)), (8, .pointer (some ⟨g19, 0, none⟩)), (9, .int .i64 s32.1), (25, .int .i64 x2), (26, .int .i64 s32.2.1)] ∧ St w0 [] wb [bx g19 66 [.slice a6 y5.label.levels.length c7, .slice a8 y5.own.length c9, .slice s32a0 s32.2.2.1.length s32c0, .slice s32a2 s32.2.2.2.1.length s32c2, .int .i64 s32.2.2.2.2.1, .int .i64 s32.2.2.2.2.2.1, .int .i64 s32.2.2.2.2.2.2.1, .slice s32a4 s32.2.2.2.2.2.2.2.length s32c4, .slice a16 y5.taps.length c17, .int .i64 y5.next, .int .i64 y5.want, .int .i64 y5.spent.pages, .int .i64 y5.spent.rent, .int .i64 y5.spent.cpu, .int .i64 y5.press, .int .i64 y5.lost], sl a6 c7 y5.label.levels, sl a8 c9 y5.own, sl a16 c17 y5.taps, bx g3 66 [.slice none 0 0, .slice none 0 0, .slice none 0 0, .slice none 0 0, .int .i64 0, .int .i64 0, .int .i64 0, .slice none 0 0, .slice none 0 0, .int .i64 0, .int .i64 0, .int .i64 0, .int .i64 0, .int .i64 0, .int .i64 0, .int .i64 0], sl s32a0 s32c0 s32.2.2.1, sl s32a2 s32c2 s32.2.2.2.1, sl s32a4 s32c4 s32.2.2.2.2.2.2.2]) (fun s32 x e wb => x = .exit 0 ∧ ∃ (s32a0 : Option Addr), ∃ (s32c0 : Nat), ∃ (s32a2 : Option Addr), ∃ (s32c2 : Nat), ∃ (s32a4 : Option Addr), ∃ (s32c4 : Nat), En e [(6, .pointer (some ⟨g3, 0, none⟩)), (8, .pointer (some ⟨g19, 0, none⟩)), (9, .int .i64 s32.1)] ∧ St w0 [] wb [bx g19 66 [.slice a6 y5.label.levels.length c7, .slice a8 y5.own.length c9, .slice s32a0 s32.2.2.1.length s32c0, .slice s32a2 s32.2.2.2.1.length s32c2, .int .i64 s32.2.2.2.2.1, .int .i64 s32.2.2.2.2.2.1, .int .i64 s32.2.2.2.2.2.2.1, .slice s32a4 s32.2.2.2.2.2.2.2.length s32c4, .slice a16 y5.taps.length c17, .int .i64 y5.next, .int .i64 y5.want, .int .i64 y5.spent.pages, .int .i64 y5.spent.rent, .int .i64 y5.spent.cpu, .int .i64 y5.press, .int .i64 y5.lost], sl a6 c7 y5.label.levels, sl a8 c9 y5.own, sl a16 c17 y5.taps, bx g3 66 [.slice none 0 0, .slice none 0 0, .slice none 0 0, .slice none 0 0, .int .i64 0, .int .i64 0, .int .i64 0, .slice none 0 0, .slice none 0 0, .int .i64 0, .int .i64 0, .int .i64 0, .int .i64 0, .int .i64 0, .int .i64 0, .int .i64 0], sl s32a0 s32c0 s32.2.2.1, sl s32a2 s32c2 s32.2.2.2.1, sl s32a4 s32c4 s32.2.2.2.2.2.2.2]) ?_ N (0, 0, y5.tree, y5.heap.arena, y5.heap.gc.phase, y5.heap.gc.pos, y5.heap.gc.round, y5.heap.gc.grey) _ _ _ ⟨a10, c11, a12, c13, a14, c15, ⟨rfl, rfl, rfl, rfl, rfl, rfl, trivial⟩, hS9.pick [0, 1, 2, 6, 7, 3, 4, 5] rfl rfl⟩ ho81) ?_
  · intro s32 e w33 o hM h
    obtain ⟨s32a0, s32c0, s32a2, s32c2, s32a4, s32c4, hE, hS11⟩ := hM
    obtain ⟨e, rfl⟩ := hE.out
    refine go ?_
    refine CW.cond rfl (fun hc34 => ?_) (fun hc34 => ?_)
    · replace h := bcT h hc34
      refine go ?_
      replace ⟨y35, hy35, h⟩ := obind h
      refine LW.cl (W_i_GcStep hy35 rfl (hS11.rI 6 rfl) rfl (hS11.rI 7 rfl)) ?_
      rintro _ w40 ⟨a36, c37, a38, c39, rfl, hs⟩
      have hS12 := hS11.add hs
      refine go ?_
      refine LW.al hS12 fun g41 w42 hS13 => ?_
      refine LW.st hS13 0 fun w43 hS14 => ?_
      refine gs ?_
      refine CW.region ?_
      refine gs ?_
      obtain ⟨j44, hj44, h45⟩ := obind h
      refine CW.cut (fun e wb => ∃ (j44a0 : Option Addr), ∃ (j44c0 : Nat), En e [(1, .int .i64 x1), (6, .pointer (some ⟨g3, 0, none⟩)), (8, .pointer (some ⟨g19, 0, none⟩)), (9, .int .i64 j44.1), (10, .pointer (some ⟨g41, 0, none⟩)), (25, .int .i64 x2), (26, .int .i64 s32.2.1)] ∧ St w0 [] wb [bx g41 62 [.slice a36 y35.1.arena.length c37, .int .i64 y35.1.gc.phase, .int .i64 y35.1.gc.pos, .int .i64 y35.1.gc.round, .slice a38 y35.1.gc.grey.length c39], sl a36 c37 y35.1.arena, sl a38 c39 y35.1.gc.grey, bx g19 66 [.slice a6 y5.label.levels.length c7, .slice a8 y5.own.length c9, .slice j44a0 j44.2.length j44c0, .slice s32a2 s32.2.2.2.1.length s32c2, .int .i64 s32.2.2.2.2.1, .int .i64 s32.2.2.2.2.2.1, .int .i64 s32.2.2.2.2.2.2.1, .slice s32a4 s32.2.2.2.2.2.2.2.length s32c4, .slice a16 y5.taps.length c17, .int .i64 y5.next, .int .i64 y5.want, .int .i64 y5.spent.pages, .int .i64 y5.spent.rent, .int .i64 y5.spent.cpu, .int .i64 y5.press, .int .i64 y5.lost], sl a6 c7 y5.label.levels, sl a8 c9 y5.own, sl a16 c17 y5.taps, bx g3 66 [.slice none 0 0, .slice none 0 0, .slice none 0 0, .slice none 0 0, .int .i64 0, .int .i64 0, .int .i64 0, .slice none 0 0, .slice none 0 0, .int .i64 0, .int .i64 0, .int .i64 0, .int .i64 0, .int .i64 0, .int .i64 0, .int .i64 0], sl s32a2 s32c2 s32.2.2.2.1, sl s32a4 s32c4 s32.2.2.2.2.2.2.2, sl j44a0 j44c0 j44.2]) ?_ ?_
      · have h := hj44
        refine CW.fl [1, 6, 8, 9, 10, 11, 25, 26, 36] fun e => ?_
        refine CW.cond rfl (fun hc46 => ?_) (fun hc46 => ?_)
        · replace h := bcT h hc46
          refine go ?_
          replace ⟨y47, hy47, h⟩ := obind h
          obtain ⟨b50, o51, hae, hp48, hq49⟩ := hS14.ownIdx (α := DObj) (i := 9) rfl hy47
          subst hae
          refine LW.u (Pur.ix Tryz.underlying59 sz92 rfl rfl hp48 hq49) rfl ?_
          obtain ⟨F52, ho53, hS15⟩ := hS14.freeze (α := DObj) 9 rfl
          obtain ⟨b54, o55, cs56, hae, hb59, _, _, hd57, hk58⟩ := ho53.rdF.idx hy47
          cases hae
          obtain ⟨a60, c61, a63, c64, a66, c67, rfl, hr62, hr65, hr68⟩ := hd57
          refine LW.l (Ldr.oldN w43 ag92 rfl rfl (fun j u hu => hk58 j u hu)) (hS15.zC 9 rfl hb59) rfl ?_
          refine LW.al hS15 fun g69 w70 hS16 => ?_
          refine LW.st hS16 0 fun w71 hS17 => ?_
          refine go ?_
          refine CW.draw (by kernel_rfl) ?_
          have hS18 := hS17.drew
          refine AW.u (i := 0) rfl (by kernel_rfl) rfl rfl (Pur.fa fo66_2 rfl) ?_
          refine AW.take (i := 1) rfl (by kernel_rfl) rfl rfl (Ldr.box (bt := 66) (fr := (0, 0)) (cs := [.slice a6 y5.label.levels.length c7, .slice a8 y5.own.length c9, .slice s32a0 s32.2.2.1.length s32c0, .slice (some ⟨b50, o51, none⟩) s32.2.2.2.1.length s32c2, .int .i64 s32.2.2.2.2.1, .int .i64 s32.2.2.2.2.2.1, .int .i64 s32.2.2.2.2.2.2.1, .slice s32a4 s32.2.2.2.2.2.2.2.length s32c4, .slice a16 y5.taps.length c17, .int .i64 y5.next, .int .i64 y5.want, .int .i64 y5.spent.pages, .int .i64 y5.spent.rent, .int .i64 y5.spent.cpu, .int .i64 y5.press, .int .i64 y5.lost]) ag58 rfl rfl) (St.cell (h := hS18) (i := 4) rfl) ?_
          refine AW.u (i := 2) rfl (by kernel_rfl) rfl rfl (Pur.fa fo92_3 rfl) ?_
          refine AW.take (i := 3) rfl (by kernel_rfl) rfl rfl (Ldr.box (bt := 92) (fr := (0, 0)) (cs := [.int .i64 y47.gen, .int .i64 y47.kind, .int .i64 y47.box, .int .i64 y47.res, .int .i64 y47.til, .int .i64 y47.pages, .int .i64 y47.wait, .int .i64 y47.got, .int .i64 y47.ran, .bool y47.mark, .slice a60 y47.links.length c61, .slice a63 y47.data.length c64, .slice a66 y47.queue.length c67]) ag3 rfl rfl) (St.cell (h := hS18) (i := 0) rfl) ?_
          refine AW.u (i := 4) rfl (by kernel_rfl) rfl rfl (Pur.fa fo92_5 rfl) ?_
          refine AW.take (i := 5) rfl (by kernel_rfl) rfl rfl (Ldr.box (bt := 92) (fr := (0, 0)) (cs := [.int .i64 y47.gen, .int .i64 y47.kind, .int .i64 y47.box, .int .i64 y47.res, .int .i64 y47.til, .int .i64 y47.pages, .int .i64 y47.wait, .int .i64 y47.got, .int .i64 y47.ran, .bool y47.mark, .slice a60 y47.links.length c61, .slice a63 y47.data.length c64, .slice a66 y47.queue.length c67]) ag3 rfl rfl) (St.cell (h := hS18) (i := 0) rfl) ?_
          replace ⟨y72, hy72, h⟩ := obind h
          have q := W_i_AmtOne (w0 := w71.drew) hy72
          refine AW.one (i := 6) (by kernel_rfl) ?_
          refine ⟨_, rfl, ?_⟩
          refine LW.call pl94 rfl rfl ?_
          refine Ret.mono q ?_
          rintro _ w73 ⟨rfl, hs⟩
          have hS19 := hS18.add hs
          refine LW.nil ⟨rfl, (.w (by kernel_rfl) (.c (St.cell (h := hS19) (i := 0) rfl) (.c (St.cell (h := hS19) (i := 4) rfl) Kept.n))), ?_⟩
          replace ⟨y74, hy74, h⟩ := obind h
          have q := W_i_TreeBack (w0 := w73) hy74 rfl (hS19.rI 9 rfl)
          refine AW.one (i := 7) (by kernel_rfl) ?_
          refine ⟨_, rfl, ?_⟩
          refine LW.call pl101 rfl rfl ?_
          refine Ret.mono q ?_
          rintro _ w77 ⟨a75, c76, rfl, hs⟩
          have hS20 := hS19.add hs
          refine LW.nil ⟨rfl, (.c (St.cell (h := hS20) (i := 1) rfl) (.w (by kernel_rfl) (.w (by kernel_rfl) Kept.n))), ?_⟩
          refine AW.u (i := 8) rfl (by kernel_rfl) rfl rfl (Pur.p rfl) ?_
          refine AW.u (i := 9) rfl (by kernel_rfl) rfl rfl (Pur.p rfl) ?_
          refine AW.u (i := 10) rfl (by kernel_rfl) rfl rfl (Pur.p rfl) ?_
          refine AW.u (i := 11) rfl (by kernel_rfl) rfl rfl (Pur.fa fo66_2 rfl) ?_
          refine AW.one (i := 12) (by kernel_rfl) ?_
          refine ⟨_, rfl, ?_⟩
          refine LW.st hS20 5 fun w78 hS21 => ?_
          refine LW.nil ⟨rfl, (.w (by kernel_rfl) (.w (by kernel_rfl) (.w (by kernel_rfl) Kept.n))), ?_⟩
          refine AW.done (by kernel_rfl) ?_
          refine go ?_
          have hS22 := hS21.thaw (α := DObj) 11 rfl ho53
          cases oi h
          exact ⟨a75, c76, ⟨rfl, rfl, rfl, rfl, rfl, rfl, rfl, trivial⟩, hS22.pick [2, 3, 4, 5, 6, 7, 8, 9, 11, 12, 0] rfl rfl⟩
        replace h := bcF h hc46
        refine go ?_
        cases oi h
        exact ⟨s32a0, s32c0, ⟨rfl, rfl, rfl, rfl, rfl, rfl, rfl, trivial⟩, hS14.pick [0, 1, 2, 3, 4, 5, 6, 7, 9, 10, 8] rfl rfl⟩
      rintro e w79 ⟨j44a0, j44c0, hE, hS23⟩
      obtain ⟨e, rfl⟩ := hE.out
      have h := h45
      refine go ?_
      refine LW.fl [1, 6, 8, 9, 25, 26, 57, 58] fun e => ?_
      refine LW.st hS23 3 fun w80 hS24 => ?_
      refine go ?_
      cases oi h
      exact ⟨rfl, ⟨j44a0, j44c0, a36, c37, a38, c39, ⟨rfl, rfl, rfl, rfl, rfl, rfl, trivial⟩, hS24.pick [3, 4, 5, 6, 7, 10, 1, 2] rfl rfl⟩⟩
    replace h := bcF h hc34
    refine go ?_
    cases oi h
    exact ⟨trivial, rfl, ⟨s32a0, s32c0, s32a2, s32c2, s32a4, s32c4, ⟨rfl, rfl, rfl, trivial⟩, hS11.pick [0, 1, 2, 3, 4, 5, 6, 7] rfl rfl⟩⟩
  intro x e w83 hM
  obtain ⟨rfl, hM⟩ := hM
  obtain ⟨s32a0, s32c0, s32a2, s32c2, s32a4, s32c4, hE, hS25⟩ := hM
  obtain ⟨e, rfl⟩ := hE.out
  have h := h82
  refine go ?_
  refine LW.st hS25 4 fun w84 hS26 => ?_
  refine go ?_
  cases h
  exact And.intro trivial ⟨_, Res.two (resOne.b hS26 4 rfl ag66 rfl rfl) (resOne.t rfl), a6, c7, a8, c9, s32a0, s32c0, s32a2, s32c2, s32a4, s32c4, a16, c17, rfl, hS26.pick [1, 2, 5, 6, 7, 3] rfl rfl⟩

end Go.Kx
