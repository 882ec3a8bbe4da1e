/- Each call returns what the plain function says. Printed by drive.py. -/
import Derived.Test.YtljikolgijlbeaaGreatFa
import Derived.Test.YtljikolgijlbeaaGreatPu
import Derived.Test.YtljikolgijlbeaaGreatWa0
import Derived.Test.YtljikolgijlbeaaGreatWa1
import Derived.Test.YtljikolgijlbeaaGreatWa2
import Derived.Test.YtljikolgijlbeaaGreatWa3
import Derived.Test.YtljikolgijlbeaaGreatWa4
import Derived.Test.YtljikolgijlbeaaGreatWa7
namespace Go.Kx
open Go Go.RowKit Go.Proofs
set_option maxRecDepth 10000
set_option maxHeartbeats 8000000
set_option linter.unusedVariables false
set_option linter.unusedSimpArgs false
theorem W_s_l15Copy {w0 : World} {N : Nat} {x0 : DWorld} {r : DWorld} (h : F_s_l15Copy N x0 = some r) {a0_1 : Option Addr} {n0_1 c0_1 : Nat} (hn0_1 : n0_1 = x0.parts.length) (hr0_1 : rdS (Bor w0 []) w0 a0_1 c0_1 x0.parts) :
    Ret Tryz.prog 31 #[.agg #[.int .i64 x0.now, .slice a0_1 n0_1 c0_1]] w0 (fun v w => ∃ ar0_1 cr0_1, v = .agg #[.int .i64 r.now, .slice ar0_1 r.parts.length cr0_1] ∧ St w0 [] w [sl ar0_1 cr0_1 r.parts]) := by
  subst hn0_1
  unfold F_s_l15Copy at h
  refine Ret.fn Tryz.func31 fun e => ?_
  have hS1 := St.start w0
  refine go ?_
  refine LW.bo hS1 fun g1 w2 hS2 => ?_
  refine LW.al hS2 fun g3 w4 hS3 => ?_
  refine go ?_
  refine LW.u (Pur.build (vs := [(0, .int .i64 x0.now)]) (cs := #[.int .i64 x0.now, .slice none 0 0]) rfl (by kernel_rfl)) rfl ?_
  refine LW.al hS3 fun g5 w6 hS4 => ?_
  refine LW.st hS4 0 fun w7 hS5 => ?_
  refine go ?_
  have hS6 := hS5.nil (α := DPart)
  obtain ⟨o59, ho59, h60⟩ := obind h
  refine CW.mono (CW.iter (σ := Int × (List DPart)) (ρ := Int × (List DPart)) (fun s8 e wb => ∃ (s8a0 : Option Addr), ∃ (s8c0 : Nat), En e [(1, .pointer (some ⟨g1, 0, none⟩)), (2, .pointer (some ⟨g3, 0, none⟩)), (3, .pointer (some ⟨g5, 0, none⟩)), (4, .int .i64 s8.1)] ∧ St w0 [] wb [bx g5 27 [.int .i64 x0.now, .slice s8a0 s8.2.length s8c0], bx g3 27 [.int .i64 0, .slice none 0 0], bx g1 27 [.int .i64 x0.now, .slice a0_1 x0.parts.length c0_1], sl s8a0 s8c0 s8.2]) (fun s8 x e wb => x = .exit 0 ∧ ∃ (s8a0 : Option Addr), ∃ (s8c0 : Nat), En e [(2, .pointer (some ⟨g3, 0, none⟩)), (3, .pointer (some ⟨g5, 0, none⟩))] ∧ St w0 [] wb [bx g5 27 [.int .i64 x0.now, .slice s8a0 s8.2.length s8c0], bx g3 27 [.int .i64 0, .slice none 0 0], bx g1 27 [.int .i64 x0.now, .slice a0_1 x0.parts.length c0_1], sl s8a0 s8c0 s8.2]) ?_ N (0, []) _ _ _ ⟨none, 0, ⟨rfl, rfl, rfl, rfl, trivial⟩, hS6.pick [1, 2, 3, 0] rfl rfl⟩ ho59) ?_
  · intro s8 e w9 o hM h
    obtain ⟨s8a0, s8c0, hE, hS7⟩ := hM
    obtain ⟨e, rfl⟩ := hE.out
    refine go ?_
    refine CW.fl [1, 2, 3, 4, 12] fun e => ?_
    refine cd (fun hc10 => ?_) fun hc10 => ?_
    · replace h := bcT h hc10
      refine go ?_
      refine CW.draw (by kernel_rfl) ?_
      have hS8 := hS7.drew
      refine go ?_
      replace ⟨y11, hy11, h⟩ := obind h
      obtain ⟨b14, o15, cs16, hae, hb19, hp12, hq13, hd17, hk18⟩ := hr0_1.idx hy11
      subst hae
      obtain ⟨a20, c21, a23, c24, a26, c27, a29, c30, a32, c33, a35, c36, rfl, hr22, hr25, hr28, hr31, hr34, hr37⟩ := hd17
      refine AW.u (i := 5) rfl (by kernel_rfl) rfl rfl (Pur.ix Tryz.underlying25 sz67 rfl rfl hp12 hq13) ?_
      refine AW.take (i := 6) rfl (by kernel_rfl) rfl rfl (Ldr.oldN w0 ag67 rfl rfl (fun j u hu => hk18 j u hu)) (hS8.same _ hb19.1 hb19.2) ?_
      replace ⟨y38, hy38, h⟩ := obind h
      have q := W_s_l13Copy (w0 := w9.drew) hy38 rfl (hS8.rB hr22) rfl (hS8.rB hr25) rfl (hS8.rB hr28) rfl (hS8.rB hr31) rfl (hS8.rB hr34) rfl (hS8.rB hr37)
      refine AW.one (i := 7) (by kernel_rfl) ?_
      refine ⟨_, rfl, ?_⟩
      refine LW.call pl69 rfl rfl ?_
      refine Ret.mono q ?_
      rintro _ w51 ⟨a39, c40, a41, c42, a43, c44, a45, c46, a47, c48, a49, c50, rfl, hs⟩
      have hS9 := hS8.add hs
      refine LW.nil ⟨rfl, (.w (by kernel_rfl) (.c (St.cell (h := hS9) (i := 8) rfl) (.c (St.cell (h := hS9) (i := 6) rfl) Kept.n))), ?_⟩
      refine AW.one (i := 8) (by kernel_rfl) ?_
      refine ⟨_, rfl, ?_⟩
      refine LW.bsl1 (vs := #[.slice a39 y38.label.levels.length c40, .slice a41 y38.own.length c42, .slice a43 y38.tree.length c44, .slice a45 y38.heap.arena.length c46, .int .i64 y38.heap.gc.phase, .int .i64 y38.heap.gc.pos, .int .i64 y38.heap.gc.round, .slice a47 y38.heap.gc.grey.length c48, .slice a49 y38.taps.length c50, .int .i64 y38.next, .int .i64 y38.want, .int .i64 y38.spent.pages, .int .i64 y38.spent.rent, .int .i64 y38.spent.cpu, .int .i64 y38.press, .int .i64 y38.lost]) sT25 rfl (by kernel_rfl) hS9 rfl ?_
      intro g52 w53 hS10 hf
      refine LW.nil ⟨rfl, (.c (hS10.same _ hb19.1 hb19.2) (.c (St.cell (h := hS10) (i := 9) rfl) (.c (St.cell (h := hS10) (i := 7) rfl) Kept.n))), ?_⟩
      have hS11 := hS10.pick (M := [sl a39 c40 y38.label.levels, sl a41 c42 y38.own, sl a43 c44 y38.tree, sl a45 c46 y38.heap.arena, sl a47 c48 y38.heap.gc.grey, sl a49 c50 y38.taps] ++ [bx g52 67 [.slice a39 y38.label.levels.length c40, .slice a41 y38.own.length c42, .slice a43 y38.tree.length c44, .slice a45 y38.heap.arena.length c46, .int .i64 y38.heap.gc.phase, .int .i64 y38.heap.gc.pos, .int .i64 y38.heap.gc.round, .slice a47 y38.heap.gc.grey.length c48, .slice a49 y38.taps.length c50, .int .i64 y38.next, .int .i64 y38.want, .int .i64 y38.spent.pages, .int .i64 y38.spent.rent, .int .i64 y38.spent.cpu, .int .i64 y38.press, .int .i64 y38.lost], bx g5 27 [.int .i64 x0.now, .slice s8a0 s8.2.length s8c0], bx g3 27 [.int .i64 0, .slice none 0 0], bx g1 27 [.int .i64 x0.now, .slice (some ⟨b14, o15, none⟩) x0.parts.length c0_1], sl s8a0 s8c0 s8.2]) [1, 2, 3, 4, 5, 6, 0, 7, 8, 9, 10] rfl rfl
      replace ⟨y54, hy54, h⟩ := obind h
      refine AW.one (i := 9) (by kernel_rfl) ?_
      refine ⟨_, rfl, ?_⟩
      refine LW.appB (M := [sl a39 c40 y38.label.levels, sl a41 c42 y38.own, sl a43 c44 y38.tree, sl a45 c46 y38.heap.arena, sl a47 c48 y38.heap.gc.grey, sl a49 c50 y38.taps]) (L := [bx g52 67 [.slice a39 y38.label.levels.length c40, .slice a41 y38.own.length c42, .slice a43 y38.tree.length c44, .slice a45 y38.heap.arena.length c46, .int .i64 y38.heap.gc.phase, .int .i64 y38.heap.gc.pos, .int .i64 y38.heap.gc.round, .slice a47 y38.heap.gc.grey.length c48, .slice a49 y38.taps.length c50, .int .i64 y38.next, .int .i64 y38.want, .int .i64 y38.spent.pages, .int .i64 y38.spent.rent, .int .i64 y38.spent.cpu, .int .i64 y38.press, .int .i64 y38.lost], bx g5 27 [.int .i64 x0.now, .slice s8a0 s8.2.length s8c0], bx g3 27 [.int .i64 0, .slice none 0 0], bx g1 27 [.int .i64 x0.now, .slice (some ⟨b14, o15, none⟩) x0.parts.length c0_1], sl s8a0 s8c0 s8.2]) (vs := [.slice a39 y38.label.levels.length c40, .slice a41 y38.own.length c42, .slice a43 y38.tree.length c44, .slice a45 y38.heap.arena.length c46, .int .i64 y38.heap.gc.phase, .int .i64 y38.heap.gc.pos, .int .i64 y38.heap.gc.round, .slice a47 y38.heap.gc.grey.length c48, .slice a49 y38.taps.length c50, .int .i64 y38.next, .int .i64 y38.want, .int .i64 y38.spent.pages, .int .i64 y38.spent.rent, .int .i64 y38.spent.cpu, .int .i64 y38.press, .int .i64 y38.lost]) (i := 4) (j := 0) sT25 rfl rfl hy54 hS11 rfl rfl (fun w G hG => ⟨a39, c40, a41, c42, a43, c44, a45, c46, a47, c48, a49, c50, rfl, hG⟩) rfl ?_
      intro a55 c56 w57 hS12 hf
      refine LW.nil ⟨rfl, (.c (hS12.same _ hb19.1 hb19.2) (.c (St.cell (h := hS12) (i := 3) rfl) (.w (by kernel_rfl) Kept.n))), ?_⟩
      refine go ?_
      refine AW.one (i := 11) (by kernel_rfl) ?_
      refine ⟨_, rfl, ?_⟩
      refine LW.st hS12 1 fun w58 hS13 => ?_
      refine LW.nil ⟨rfl, (.w (by kernel_rfl) (.w (by kernel_rfl) (.w (by kernel_rfl) Kept.n))), ?_⟩
      refine go ?_
      cases oi h
      exact ⟨rfl, ⟨a55, c56, ⟨rfl, rfl, rfl, rfl, trivial⟩, hS13.pick [1, 2, 3, 4] rfl rfl⟩⟩
    replace h := bcF h hc10
    refine go ?_
    cases oi h
    exact ⟨trivial, rfl, ⟨s8a0, s8c0, ⟨rfl, rfl, trivial⟩, hS7.pick [0, 1, 2, 3] rfl rfl⟩⟩
  intro x e w61 hM
  obtain ⟨rfl, hM⟩ := hM
  obtain ⟨s8a0, s8c0, hE, hS14⟩ := hM
  obtain ⟨e, rfl⟩ := hE.out
  have h := h60
  refine go ?_
  refine LW.st hS14 1 fun w62 hS15 => ?_
  refine go ?_
  cases h
  exact And.intro trivial ⟨_, Res.one (resOne.b hS15 1 rfl ag27 rfl rfl), s8a0, s8c0, rfl, hS15.pick [3] rfl rfl⟩

theorem W_s_HeapOk {w0 : World} {N : Nat} {x0 : DHeap} {r : Bool} (h : F_s_HeapOk N x0 = some r) {a0_0 : Option Addr} {n0_0 c0_0 : Nat} (hn0_0 : n0_0 = x0.arena.length) (hr0_0 : rdS (Bor w0 []) w0 a0_0 c0_0 x0.arena) {a0_4 : Option Addr} {n0_4 c0_4 : Nat} (hn0_4 : n0_4 = x0.gc.grey.length) (hr0_4 : rdS (Bor w0 []) w0 a0_4 c0_4 x0.gc.grey) :
    Ret Tryz.prog 139 #[.agg #[.slice a0_0 n0_0 c0_0, .int .i64 x0.gc.phase, .int .i64 x0.gc.pos, .int .i64 x0.gc.round, .slice a0_4 n0_4 c0_4]] w0 (fun v w => v = .bool r ∧ St w0 [] w []) := by
  subst hn0_0 hn0_4
  unfold F_s_HeapOk at h
  refine Ret.fn Tryz.func139 fun e => ?_
  have hS1 := St.start w0
  refine go ?_
  refine LW.bo hS1 fun g1 w2 hS2 => ?_
  refine go ?_
  refine LW.al hS2 fun g3 w4 hS3 => ?_
  refine LW.st hS3 0 fun w5 hS4 => ?_
  refine gs ?_
  obtain ⟨j6, hj6, h7⟩ := obind h
  refine CW.jn [3] [0] [(22, .bool j6)] hS4 (h1 := ?_) (h2 := ?_)
  · have h := hj6
    refine go ?_
    replace ⟨y8, hy8, h⟩ := obind h
    refine LW.c0 (W_s_ArenaOk hy8 rfl (hS4.rB hr0_0)) hS4 fun w9 hS5 => ?_
    refine go ?_
    rcases bcases (!y8) with hc10 | hc10
    · replace h := bcT h hc10
      refine go ?_
      cases oi h
      exact ⟨⟨rfl, rfl, trivial⟩, hS5.pick [0] rfl rfl⟩
    replace h := bcF h hc10
    refine go ?_
    replace ⟨y11, hy11, h⟩ := obind h
    refine go ?_
    refine LW.c0 (W_s_l1In hy11) hS5 fun w12 hS6 => ?_
    refine go ?_
    rcases bcases (!y11) with hc13 | hc13
    · replace h := bcT h hc13
      refine go ?_
      cases oi h
      exact ⟨⟨rfl, rfl, trivial⟩, hS6.pick [0] rfl rfl⟩
    replace h := bcF h hc13
    refine go ?_
    replace ⟨y14, hy14, h⟩ := obind h
    refine go ?_
    refine LW.c0 (W_s_l1In hy14) hS6 fun w15 hS7 => ?_
    refine go ?_
    cases oi h
    exact ⟨⟨rfl, rfl, trivial⟩, hS7.pick [0] rfl rfl⟩
  intro e w16 hS8
  have h := h7
  refine go ?_
  refine cd (fun hc17 => ?_) fun hc17 => ?_
  · replace h := bcT h hc17
    refine go ?_
    cases h
    exact fi hS8
  replace h := bcF h hc17
  refine gs ?_
  obtain ⟨j18, hj18, h19⟩ := obind h
  refine CW.jn [3] [0] [(47, .bool j18)] hS8 (h1 := ?_) (h2 := ?_)
  · have h := hj18
    refine go ?_
    rcases bcases (x0.gc.phase == 0) with hc20 | hc20
    · replace h := bcT h hc20
      refine go ?_
      rcases bcases (x0.gc.pos != 0) with hc21 | hc21
      · replace h := bcT h hc21
        refine go ?_
        cases oi h
        exact ⟨⟨rfl, rfl, trivial⟩, hS8.pick [0] rfl rfl⟩
      replace h := bcF h hc21
      refine go ?_
      rcases bcases (x0.gc.phase == 1) with hc22 | hc22
      · replace h := bcT h hc22
        refine go ?_
        replace ⟨y23, hy23, h⟩ := obind h
        refine go ?_
        refine LW.c0 (W_s_l8Slot hy23) hS8 fun w24 hS9 => ?_
        refine go ?_
        refine LW.fl [3, 31, 35, 40] fun e => ?_
        rcases bcases (!y23) with hc25 | hc25
        · replace h := bcT h hc25
          refine go ?_
          cases oi h
          exact ⟨⟨rfl, rfl, trivial⟩, hS9.pick [0] rfl rfl⟩
        replace h := bcF h hc25
        refine go ?_
        cases oi h
        exact ⟨⟨rfl, rfl, trivial⟩, hS9.pick [0] rfl rfl⟩
      replace h := bcF h hc22
      refine go ?_
      cases oi h
      exact ⟨⟨rfl, rfl, trivial⟩, hS8.pick [0] rfl rfl⟩
    replace h := bcF h hc20
    refine go ?_
    rcases bcases (x0.gc.phase == 1) with hc26 | hc26
    · replace h := bcT h hc26
      refine go ?_
      replace ⟨y27, hy27, h⟩ := obind h
      refine go ?_
      refine LW.c0 (W_s_l8Slot hy27) hS8 fun w28 hS10 => ?_
      refine go ?_
      refine LW.fl [3, 31, 35, 40] fun e => ?_
      rcases bcases (!y27) with hc29 | hc29
      · replace h := bcT h hc29
        refine go ?_
        cases oi h
        exact ⟨⟨rfl, rfl, trivial⟩, hS10.pick [0] rfl rfl⟩
      replace h := bcF h hc29
      refine go ?_
      cases oi h
      exact ⟨⟨rfl, rfl, trivial⟩, hS10.pick [0] rfl rfl⟩
    replace h := bcF h hc26
    refine go ?_
    cases oi h
    exact ⟨⟨rfl, rfl, trivial⟩, hS8.pick [0] rfl rfl⟩
  intro e w30 hS11
  have h := h19
  refine go ?_
  refine cd (fun hc31 => ?_) fun hc31 => ?_
  · replace h := bcT h hc31
    refine go ?_
    cases h
    exact fi hS11
  replace h := bcF h hc31
  refine go ?_
  obtain ⟨o60, ho60, h61⟩ := obind h
  refine CW.mono (CW.lx [3] [0] [] 0 (fun s32 => [(4, .int .i64 s32)]) (RT Tryz.prog Tryz.f139.results (fun u => .bool u) w0 []) hS11 ho60 (hb := ?_)) ?_
  · intro s32 e w33 o hS12 h
    refine go ?_
    refine cd (fun hc34 => ?_) fun hc34 => ?_
    · replace h := bcT h hc34
      refine gs ?_
      refine CW.block ?_
      refine gs ?_
      obtain ⟨j35, hj35, h36⟩ := obind h
      refine CW.jn [3, 4] [0] [(73, .bool j35)] hS12 (h1 := ?_) (h2 := ?_)
      · have h := hj35
        refine CW.draw (by kernel_rfl) ?_
        have hS13 := hS12.drew
        refine go ?_
        replace ⟨y37, hy37, h⟩ := obind h
        obtain ⟨b40, o41, cs42, hae, hb45, hp38, hq39, hd43, hk44⟩ := hr0_4.idx hy37
        subst hae
        obtain rfl := hd43
        refine AW.u (i := 3) rfl (by kernel_rfl) rfl rfl (Pur.ix Tryz.underlying52 sz3 rfl rfl hp38 hq39) ?_
        refine AW.take (i := 4) rfl (by kernel_rfl) rfl rfl (Ldr.old w0 ag3 rfl (hk44 0 _ rfl)) (hS13.same _ hb45.1 hb45.2) ?_
        replace ⟨y46, hy46, h⟩ := obind h
        have q := W_s_l8Slot (w0 := w33.drew) hy46
        refine AW.one (i := 5) (by kernel_rfl) ?_
        refine ⟨_, rfl, ?_⟩
        refine LW.call pl28 rfl rfl ?_
        refine Ret.mono q ?_
        rintro _ w47 ⟨rfl, hs⟩
        have hS14 := hS13.add hs
        refine LW.nil ⟨rfl, (.w (by kernel_rfl) (.c (St.cell (h := hS14) (i := 0) rfl) Kept.n)), ?_⟩
        refine go ?_
        rcases bcases (!y46) with hc48 | hc48
        · replace h := bcT h hc48
          refine go ?_
          cases oi h
          exact ⟨⟨rfl, rfl, rfl, trivial⟩, hS14.pick [0] rfl rfl⟩
        replace h := bcF h hc48
        refine go ?_
        replace ⟨y49, hy49, h⟩ := obind h
        obtain ⟨a50, c51, he52, he53, hr54⟩ := rdS.sub' hr0_4 hy49
        have hle55 := (hr0_4).le
        refine AW.u (i := 11) rfl (by kernel_rfl) (want_of rfl rfl hc48) rfl (Pur.sub (α := Int) (l := x0.gc.grey) Tryz.underlying52 sz3 rfl bndN (bndS rfl) hy49 hle55 he52 he53) ?_
        refine go ?_
        refine AW.u (i := 15) rfl (by kernel_rfl) (want_of rfl rfl hc48) rfl (Pur.ix Tryz.underlying52 sz3 rfl rfl hp38 hq39) ?_
        refine AW.take (i := 16) rfl (by kernel_rfl) (want_of rfl rfl hc48) rfl (Ldr.old w0 ag3 rfl (hk44 0 _ rfl)) (hS14.same _ hb45.1 hb45.2) ?_
        replace ⟨y56, hy56, h⟩ := obind h
        have q := W_s_l4Has (w0 := w47) hy56 rfl (hS14.rB hr54)
        refine AW.one (i := 17) (by kernel_rfl) ?_
        refine ⟨_, rfl, ?_⟩
        refine (LW.gY (want_of rfl rfl hc48) ?_)
        refine LW.call pl201 rfl rfl ?_
        refine Ret.mono q ?_
        rintro _ w57 ⟨rfl, hs⟩
        have hS15 := hS14.add hs
        refine LW.nil ⟨rfl, (.w (by kernel_rfl) (.c (St.cell (h := hS15) (i := 0) rfl) (.c (St.cell (h := hS15) (i := 0) rfl) (.c (hS15.same _ hb45.1 hb45.2) (.c (St.cell (h := hS15) (i := 0) rfl) Kept.n))))), ?_⟩
        refine go ?_
        cases oi h
        exact ⟨⟨rfl, rfl, rfl, trivial⟩, hS15.pick [0] rfl rfl⟩
      intro e w58 hS16
      have h := h36
      refine go ?_
      refine cd (fun hc59 => ?_) fun hc59 => ?_
      · replace h := bcT h hc59
        refine go ?_
        cases oi h
        exact ⟨trivial, rfl, _, rfl, ⟨_, Res.one (resOne.t rfl), rfl, hS16.pick [] rfl rfl⟩⟩
      replace h := bcF h hc59
      refine go ?_
      cases oi h
      exact ⟨rfl, ⟨⟨rfl, rfl, trivial⟩, hS16.pick [0] rfl rfl⟩⟩
    replace h := bcF h hc34
    refine go ?_
    cases oi h
    exact ⟨trivial, rfl, ⟨trivial, hS12.pick [0] rfl rfl⟩⟩
  intro x e w62 hM
  rcases o60 with o60 | r63
  · obtain ⟨rfl, hM⟩ := hM
    obtain ⟨hE, hS17⟩ := hM
    obtain ⟨e, rfl⟩ := hE.out; rw [show e = upds e [] from rfl]
    have h := h61
    refine go ?_
    cases h
    exact fi hS17
  obtain ⟨rfl, u, rfl, hM⟩ := hM
  cases h61
  exact And.intro trivial hM

theorem W_s_TreeSum {w0 : World} {N : Nat} {x0 : List DRes} {r : DAmt} (h : F_s_TreeSum N x0 = some r) {a0_0 : Option Addr} {n0_0 c0_0 : Nat} (hn0_0 : n0_0 = x0.length) (hr0_0 : rdS (Bor w0 []) w0 a0_0 c0_0 x0) :
    Ret Tryz.prog 202 #[.slice a0_0 n0_0 c0_0] w0 (fun v w => v = .agg #[.int .i64 r.pages, .int .i64 r.rent, .int .i64 r.cpu] ∧ St w0 [] w []) := by
  subst hn0_0
  unfold F_s_TreeSum at h
  refine Ret.fn Tryz.func202 fun e => ?_
  have hS1 := St.start w0
  refine go ?_
  refine LW.al hS1 fun g1 w2 hS2 => ?_
  refine go ?_
  replace ⟨y3, hy3, h⟩ := obind h
  refine LW.c0 (W_s_TreeOk hy3 rfl (hS2.rB hr0_0)) hS2 fun w4 hS3 => ?_
  refine go ?_
  refine cd (fun hc5 => ?_) fun hc5 => ?_
  · replace h := bcT h hc5
    refine go ?_
    refine LW.u (Pur.build (vs := []) (cs := #[.int .i64 0, .int .i64 0, .int .i64 0]) rfl (by kernel_rfl)) rfl ?_
    refine LW.st hS3 0 fun w6 hS4 => ?_
    refine go ?_
    cases h
    exact And.intro trivial ⟨_, Res.one (resOne.b hS4 0 rfl ag56 rfl rfl), rfl, hS4.pick [] rfl rfl⟩
  replace h := bcF h hc5
  refine go ?_
  replace ⟨y7, hy7, h⟩ := obind h
  refine LW.c0 (W_s_l6Sum hy7 rfl (hS3.rB hr0_0)) hS3 fun w8 hS5 => ?_
  refine LW.st hS5 0 fun w9 hS6 => ?_
  refine go ?_
  cases h
  exact And.intro trivial ⟨_, Res.one (resOne.b hS6 0 rfl ag56 rfl rfl), rfl, hS6.pick [] rfl rfl⟩

theorem W_s_l7Ok {w0 : World} {N : Nat} {x0 : List DTree} {r : Bool} (h : F_s_l7Ok N x0 = some r) {a0_0 : Option Addr} {n0_0 c0_0 : Nat} (hn0_0 : n0_0 = x0.length) (hr0_0 : rdS (Bor w0 []) w0 a0_0 c0_0 x0) :
    Ret Tryz.prog 74 #[.slice a0_0 n0_0 c0_0] w0 (fun v w => v = .bool r ∧ St w0 [] w []) := by
  subst hn0_0
  unfold F_s_l7Ok at h
  refine Ret.fn Tryz.func74 fun e => ?_
  have hS1 := St.start w0
  refine go ?_
  obtain ⟨o19, ho19, h20⟩ := obind h
  refine CW.mono (CW.lx [0] [] [0] 0 (fun s1 => [(3, .int .i64 s1)]) (RT Tryz.prog Tryz.f74.results (fun u => .bool u) w0 []) hS1 ho19 (hb := ?_)) ?_
  · intro s1 e w2 o hS2 h
    refine go ?_
    refine cd (fun hc3 => ?_) fun hc3 => ?_
    · replace h := bcT h hc3
      refine go ?_
      replace ⟨y4, hy4, h⟩ := obind h
      obtain ⟨b7, o8, cs9, hae, hb12, hp5, hq6, hd10, hk11⟩ := hr0_0.idx hy4
      subst hae
      obtain ⟨a13, c14, rfl, hr15⟩ := hd10
      refine LW.u (Pur.ix Tryz.underlying76 sz78 rfl rfl hp5 hq6) rfl ?_
      refine go ?_
      refine LW.l (Ldr.old w0 ag59 rfl (hk11 0 _ rfl)) (hS2.same _ hb12.1 hb12.2) rfl ?_
      replace ⟨y16, hy16, h⟩ := obind h
      refine LW.c0 (W_s_TreeOk hy16 rfl (hS2.rB hr15)) hS2 fun w17 hS3 => ?_
      refine go ?_
      refine CW.fl [0, 3, 16] fun e => ?_
      refine cd (fun hc18 => ?_) fun hc18 => ?_
      · replace h := bcT h hc18
        refine go ?_
        cases oi h
        exact ⟨trivial, rfl, _, rfl, ⟨_, Res.one (resOne.t rfl), rfl, hS3.pick [] rfl rfl⟩⟩
      replace h := bcF h hc18
      refine go ?_
      cases oi h
      exact ⟨rfl, ⟨⟨rfl, rfl, trivial⟩, hS3.pick [] rfl rfl⟩⟩
    replace h := bcF h hc3
    refine go ?_
    cases oi h
    exact ⟨trivial, rfl, ⟨⟨rfl, trivial⟩, hS2.pick [] rfl rfl⟩⟩
  intro x e w21 hM
  rcases o19 with o19 | r22
  · obtain ⟨rfl, hM⟩ := hM
    obtain ⟨hE, hS4⟩ := hM
    obtain ⟨e, rfl⟩ := hE.out
    have h := h20
    refine go ?_
    cases h
    exact fi hS4
  obtain ⟨rfl, u, rfl, hM⟩ := hM
  cases h20
  exact And.intro trivial hM

theorem W_s_l6Live {w0 : World} {N : Nat} {x0 : List DRes} {x1 : Int} {r : Bool} (h : F_s_l6Live N x0 x1 = some r) {a0_0 : Option Addr} {n0_0 c0_0 : Nat} (hn0_0 : n0_0 = x0.length) (hr0_0 : rdS (Bor w0 []) w0 a0_0 c0_0 x0) :
    Ret Tryz.prog 76 #[.slice a0_0 n0_0 c0_0, .int .i64 x1] w0 (fun v w => v = .bool r ∧ St w0 [] w []) := by
  subst hn0_0
  unfold F_s_l6Live at h
  refine Ret.fn Tryz.func76 fun e => ?_
  have hS1 := St.start w0
  refine go ?_
  replace ⟨y1, hy1, h⟩ := obind h
  refine LW.c0 (W_s_TreeOk hy1 rfl (hS1.rB hr0_0)) hS1 fun w2 hS2 => ?_
  refine go ?_
  rcases bcases y1 with hc3 | hc3
  · replace h := bcT h hc3
    refine go ?_
    replace ⟨y4, hy4, h⟩ := obind h
    refine go ?_
    refine LW.c0 (W_s_l6Res hy4) hS2 fun w5 hS3 => ?_
    refine go ?_
    rcases bcases y4 with hc6 | hc6
    · replace h := bcT h hc6
      refine go ?_
      replace ⟨y7, hy7, h⟩ := obind h
      obtain ⟨b10, o11, cs12, hae, hb15, hp8, hq9, hd13, hk14⟩ := hr0_0.idx hy7
      subst hae
      obtain rfl := hd13
      refine go ?_
      refine LW.u (Pur.ix Tryz.underlying59 sz138 rfl rfl hp8 hq9) rfl ?_
      refine go ?_
      refine LW.l (Ldr.old w0 ag4 rfl (hk14 0 _ rfl)) (hS3.same _ hb15.1 hb15.2) rfl ?_
      refine go ?_
      cases h
      exact fi hS3
    replace h := bcF h hc6
    refine go ?_
    cases h
    exact fi hS3
  replace h := bcF h hc3
  refine go ?_
  cases h
  exact fi hS2

theorem W_s_AmtSub {w0 : World} {N : Nat} {x0 : DAmt} {x1 : DAmt} {r : DAmt × Bool} (h : F_s_AmtSub N x0 x1 = some r) :
    Ret Tryz.prog 144 #[.agg #[.int .i64 x0.pages, .int .i64 x0.rent, .int .i64 x0.cpu], .agg #[.int .i64 x1.pages, .int .i64 x1.rent, .int .i64 x1.cpu]] w0 (fun v w => v = .tuple #[.agg #[.int .i64 r.1.pages, .int .i64 r.1.rent, .int .i64 r.1.cpu], .bool r.2] ∧ St w0 [] w []) := by
  unfold F_s_AmtSub at h
  refine Ret.fn Tryz.func144 fun e => ?_
  have hS1 := St.start w0
  refine go ?_
  refine LW.bo hS1 fun g1 w2 hS2 => ?_
  refine LW.bo hS2 fun g3 w4 hS3 => ?_
  refine LW.al hS3 fun g5 w6 hS4 => ?_
  refine go ?_
  replace ⟨y7, hy7, h⟩ := obind h
  refine LW.c0 (W_s_AmtFits hy7) hS4 fun w8 hS5 => ?_
  refine go ?_
  refine cd (fun hc9 => ?_) fun hc9 => ?_
  · replace h := bcT h hc9
    refine go ?_
    refine LW.st hS5 0 fun w10 hS6 => ?_
    refine go ?_
    cases h
    exact And.intro trivial ⟨_, Res.two (resOne.b hS6 0 rfl ag56 rfl rfl) (resOne.t rfl), rfl, hS6.pick [] rfl rfl⟩
  replace h := bcF h hc9
  refine go ?_
  refine LW.u (Pur.build (vs := [(0, .int .i64 (IntKind.i64.wrap (x0.pages - x1.pages))), (1, .int .i64 (IntKind.i64.wrap (x0.rent - x1.rent))), (2, .int .i64 (IntKind.i64.wrap (x0.cpu - x1.cpu)))]) (cs := #[.int .i64 (IntKind.i64.wrap (x0.pages - x1.pages)), .int .i64 (IntKind.i64.wrap (x0.rent - x1.rent)), .int .i64 (IntKind.i64.wrap (x0.cpu - x1.cpu))]) rfl (by kernel_rfl)) rfl ?_
  refine LW.st hS5 0 fun w11 hS7 => ?_
  refine go ?_
  cases h
  exact And.intro trivial ⟨_, Res.two (resOne.b hS7 0 rfl ag56 rfl rfl) (resOne.t rfl), rfl, hS7.pick [] rfl rfl⟩

theorem W_l_eqHeap {w0 : World} {N : Nat} {x0 : DHeap} {x1 : DHeap} {r : Bool} (h : F_l_eqHeap N x0 x1 = some r) {a0_0 : Option Addr} {n0_0 c0_0 : Nat} (hn0_0 : n0_0 = x0.arena.length) (hr0_0 : rdS (Bor w0 []) w0 a0_0 c0_0 x0.arena) {a0_4 : Option Addr} {n0_4 c0_4 : Nat} (hn0_4 : n0_4 = x0.gc.grey.length) (hr0_4 : rdS (Bor w0 []) w0 a0_4 c0_4 x0.gc.grey) {a1_0 : Option Addr} {n1_0 c1_0 : Nat} (hn1_0 : n1_0 = x1.arena.length) (hr1_0 : rdS (Bor w0 []) w0 a1_0 c1_0 x1.arena) {a1_4 : Option Addr} {n1_4 c1_4 : Nat} (hn1_4 : n1_4 = x1.gc.grey.length) (hr1_4 : rdS (Bor w0 []) w0 a1_4 c1_4 x1.gc.grey) :
    Ret Tryz.prog 164 #[.agg #[.slice a0_0 n0_0 c0_0, .int .i64 x0.gc.phase, .int .i64 x0.gc.pos, .int .i64 x0.gc.round, .slice a0_4 n0_4 c0_4], .agg #[.slice a1_0 n1_0 c1_0, .int .i64 x1.gc.phase, .int .i64 x1.gc.pos, .int .i64 x1.gc.round, .slice a1_4 n1_4 c1_4]] w0 (fun v w => v = .bool r ∧ St w0 [] w []) := by
  subst hn0_0 hn0_4 hn1_0 hn1_4
  unfold F_l_eqHeap at h
  refine Ret.fn Tryz.func164 fun e => ?_
  have hS1 := St.start w0
  refine go ?_
  refine LW.bo hS1 fun g1 w2 hS2 => ?_
  refine LW.bo hS2 fun g3 w4 hS3 => ?_
  refine go ?_
  replace ⟨y5, hy5, h⟩ := obind h
  refine LW.c0 (W_l_eqObjS hy5 rfl (hS3.rB hr0_0) rfl (hS3.rB hr1_0)) hS3 fun w6 hS4 => ?_
  refine go ?_
  refine cd (fun hc7 => ?_) fun hc7 => ?_
  · replace h := bcT h hc7
    refine go ?_
    cases h
    exact fi hS4
  replace h := bcF h hc7
  refine go ?_
  replace ⟨y8, hy8, h⟩ := obind h
  refine LW.c0 (W_l_eqGc hy8 rfl (hS4.rB hr0_4) rfl (hS4.rB hr1_4)) hS4 fun w9 hS5 => ?_
  refine go ?_
  refine CW.fl [16] fun e => ?_
  refine cd (fun hc10 => ?_) fun hc10 => ?_
  · replace h := bcT h hc10
    refine go ?_
    cases h
    exact fi hS5
  replace h := bcF h hc10
  refine go ?_
  cases h
  exact fi hS5

theorem W_l_szPartS {w0 : World} {N : Nat} {x0 : List DPart} {x1 : Int} {r : Int} (h : F_l_szPartS N x0 x1 = some r) {a0_0 : Option Addr} {n0_0 c0_0 : Nat} (hn0_0 : n0_0 = x0.length) (hr0_0 : rdS (Bor w0 []) w0 a0_0 c0_0 x0) :
    Ret Tryz.prog 30 #[.slice a0_0 n0_0 c0_0, .int .i64 x1] w0 (fun v w => v = .int .i64 r ∧ St w0 [] w []) := by
  subst hn0_0
  unfold F_l_szPartS at h
  refine Ret.fn Tryz.func30 fun e => ?_
  have hS1 := St.start w0
  refine go ?_
  refine cd (fun hc1 => ?_) fun hc1 => ?_
  · replace h := bcT h hc1
    refine go ?_
    cases h
    exact fi hS1
  replace h := bcF h hc1
  refine go ?_
  obtain ⟨o35, ho35, h36⟩ := obind h
  refine CW.mono (CW.lx [0] [] [1] 0 (fun s2 => [(1, .int .i64 s2.1), (5, .int .i64 s2.2)]) (RT Tryz.prog Tryz.f30.results (fun u => .int .i64 u) w0 []) hS1 ho35 (hb := ?_)) ?_
  · intro s2 e w3 o hS2 h
    refine go ?_
    refine CW.fl [0, 1, 5, 15] fun e => ?_
    refine cd (fun hc4 => ?_) fun hc4 => ?_
    · replace h := bcT h hc4
      refine go ?_
      replace ⟨y5, hy5, h⟩ := obind h
      obtain ⟨b8, o9, cs10, hae, hb13, hp6, hq7, hd11, hk12⟩ := hr0_0.idx hy5
      subst hae
      obtain ⟨a14, c15, a17, c18, a20, c21, a23, c24, a26, c27, a29, c30, rfl, hr16, hr19, hr22, hr25, hr28, hr31⟩ := hd11
      refine LW.u (Pur.ix Tryz.underlying41 sz127 rfl rfl hp6 hq7) rfl ?_
      refine LW.l (Ldr.oldN w0 ag127 rfl rfl (fun j u hu => hk12 j u hu)) (hS2.same _ hb13.1 hb13.2) rfl ?_
      refine go ?_
      replace ⟨y32, hy32, h⟩ := obind h
      refine LW.c0 (W_l_szPart hy32 rfl (hS2.rB hr16) rfl (hS2.rB hr19) rfl (hS2.rB hr22) rfl (hS2.rB hr25) rfl (hS2.rB hr28) rfl (hS2.rB hr31)) hS2 fun w33 hS3 => ?_
      refine go ?_
      refine cd (fun hc34 => ?_) fun hc34 => ?_
      · replace h := bcT h hc34
        refine go ?_
        cases oi h
        exact ⟨trivial, rfl, _, rfl, ⟨_, Res.one (resOne.t rfl), rfl, hS3.pick [] rfl rfl⟩⟩
      replace h := bcF h hc34
      refine go ?_
      cases oi h
      exact ⟨rfl, ⟨⟨rfl, rfl, rfl, trivial⟩, hS3.pick [] rfl rfl⟩⟩
    replace h := bcF h hc4
    refine go ?_
    cases oi h
    exact ⟨trivial, rfl, ⟨⟨rfl, trivial⟩, hS2.pick [] rfl rfl⟩⟩
  intro x e w37 hM
  rcases o35 with o35 | r38
  · obtain ⟨rfl, hM⟩ := hM
    obtain ⟨hE, hS4⟩ := hM
    obtain ⟨e, rfl⟩ := hE.out
    have h := h36
    refine go ?_
    cases h
    exact fi hS4
  obtain ⟨rfl, u, rfl, hM⟩ := hM
  cases h36
  exact And.intro trivial hM

theorem W_l_toPart {w0 : World} {N : Nat} {x0 : DPart} {r : DPart} (h : F_l_toPart N x0 = some r) {a0_0 : Option Addr} {n0_0 c0_0 : Nat} (hn0_0 : n0_0 = x0.label.levels.length) (hr0_0 : rdS (Bor w0 []) w0 a0_0 c0_0 x0.label.levels) {a0_1 : Option Addr} {n0_1 c0_1 : Nat} (hn0_1 : n0_1 = x0.own.length) (hr0_1 : rdS (Bor w0 []) w0 a0_1 c0_1 x0.own) {a0_2 : Option Addr} {n0_2 c0_2 : Nat} (hn0_2 : n0_2 = x0.tree.length) (hr0_2 : rdS (Bor w0 []) w0 a0_2 c0_2 x0.tree) {a0_3 : Option Addr} {n0_3 c0_3 : Nat} (hn0_3 : n0_3 = x0.heap.arena.length) (hr0_3 : rdS (Bor w0 []) w0 a0_3 c0_3 x0.heap.arena) {a0_7 : Option Addr} {n0_7 c0_7 : Nat} (hn0_7 : n0_7 = x0.heap.gc.grey.length) (hr0_7 : rdS (Bor w0 []) w0 a0_7 c0_7 x0.heap.gc.grey) {a0_8 : Option Addr} {n0_8 c0_8 : Nat} (hn0_8 : n0_8 = x0.taps.length) (hr0_8 : rdS (Bor w0 []) w0 a0_8 c0_8 x0.taps) :
    Ret Tryz.prog 81 #[.agg #[.slice a0_0 n0_0 c0_0, .slice a0_1 n0_1 c0_1, .slice a0_2 n0_2 c0_2, .slice a0_3 n0_3 c0_3, .int .i64 x0.heap.gc.phase, .int .i64 x0.heap.gc.pos, .int .i64 x0.heap.gc.round, .slice a0_7 n0_7 c0_7, .slice a0_8 n0_8 c0_8, .int .i64 x0.next, .int .i64 x0.want, .int .i64 x0.spent.pages, .int .i64 x0.spent.rent, .int .i64 x0.spent.cpu, .int .i64 x0.press, .int .i64 x0.lost]] w0 (fun v w => ∃ ar0_0 cr0_0, ∃ ar0_1 cr0_1, ∃ ar0_2 cr0_2, ∃ ar0_3 cr0_3, ∃ ar0_7 cr0_7, ∃ ar0_8 cr0_8, v = .agg #[.slice ar0_0 r.label.levels.length cr0_0, .slice ar0_1 r.own.length cr0_1, .slice ar0_2 r.tree.length cr0_2, .slice ar0_3 r.heap.arena.length cr0_3, .int .i64 r.heap.gc.phase, .int .i64 r.heap.gc.pos, .int .i64 r.heap.gc.round, .slice ar0_7 r.heap.gc.grey.length cr0_7, .slice ar0_8 r.taps.length cr0_8, .int .i64 r.next, .int .i64 r.want, .int .i64 r.spent.pages, .int .i64 r.spent.rent, .int .i64 r.spent.cpu, .int .i64 r.press, .int .i64 r.lost] ∧ St w0 [] w [sl ar0_0 cr0_0 r.label.levels, sl ar0_1 cr0_1 r.own, sl ar0_2 cr0_2 r.tree, sl ar0_3 cr0_3 r.heap.arena, sl ar0_7 cr0_7 r.heap.gc.grey, sl ar0_8 cr0_8 r.taps]) := by
  subst hn0_0 hn0_1 hn0_2 hn0_3 hn0_7 hn0_8
  unfold F_l_toPart at h
  refine Ret.fn Tryz.func81 fun e => ?_
  have hS1 := St.start w0
  refine go ?_
  refine LW.bo hS1 fun g1 w2 hS2 => ?_
  refine LW.al hS2 fun g3 w4 hS3 => ?_
  refine go ?_
  refine LW.al hS3 fun g5 w6 hS4 => ?_
  refine go ?_
  replace ⟨y7, hy7, h⟩ := obind h
  refine LW.cl (W_l_toLabel hy7 rfl (hS4.rB hr0_0)) ?_
  rintro _ w10 ⟨a8, c9, rfl, hs⟩
  have hS5 := hS4.add hs
  refine go ?_
  refine LW.st hS5 1 fun w11 hS6 => ?_
  refine go ?_
  replace ⟨y12, hy12, h⟩ := obind h
  refine LW.cl (W_l_toIntS hy12 rfl (hS6.rB hr0_1)) ?_
  rintro _ w15 ⟨a13, c14, rfl, hs⟩
  have hS7 := hS6.add hs
  refine go ?_
  refine LW.st hS7 2 fun w16 hS8 => ?_
  refine go ?_
  replace ⟨y17, hy17, h⟩ := obind h
  refine LW.cl (W_l_toResS hy17 rfl (hS8.rB hr0_2)) ?_
  rintro _ w20 ⟨a18, c19, rfl, hs⟩
  have hS9 := hS8.add hs
  refine go ?_
  refine LW.st hS9 3 fun w21 hS10 => ?_
  refine go ?_
  replace ⟨y22, hy22, h⟩ := obind h
  refine LW.cl (W_l_toHeap hy22 rfl (hS10.rB hr0_3) rfl (hS10.rB hr0_7)) ?_
  rintro _ w27 ⟨a23, c24, a25, c26, rfl, hs⟩
  have hS11 := hS10.add hs
  refine go ?_
  refine LW.st hS11 5 fun w28 hS12 => ?_
  refine go ?_
  refine LW.fl [1, 2, 3, 21] fun e => ?_
  replace ⟨y29, hy29, h⟩ := obind h
  refine LW.cl (W_l_toTapS hy29 rfl (hS12.rB hr0_8)) ?_
  rintro _ w32 ⟨a30, c31, rfl, hs⟩
  have hS13 := hS12.add hs
  refine go ?_
  refine LW.st hS13 6 fun w33 hS14 => ?_
  refine go ?_
  refine LW.st hS14 6 fun w34 hS15 => ?_
  refine go ?_
  refine LW.st hS15 6 fun w35 hS16 => ?_
  refine go ?_
  replace ⟨y36, hy36, h⟩ := obind h
  refine LW.c0 (W_l_toAmt hy36) hS16 fun w37 hS17 => ?_
  refine go ?_
  refine LW.st hS17 6 fun w38 hS18 => ?_
  refine go ?_
  refine LW.st hS18 6 fun w39 hS19 => ?_
  refine go ?_
  refine LW.st hS19 6 fun w40 hS20 => ?_
  refine go ?_
  refine LW.fl [2, 40] fun e => ?_
  refine LW.st hS20 7 fun w41 hS21 => ?_
  refine go ?_
  cases h
  exact And.intro trivial ⟨_, Res.one (resOne.b hS21 7 rfl ag67 rfl rfl), a8, c9, a13, c14, a18, c19, a23, c24, a25, c26, a30, c31, rfl, hS21.pick [5, 4, 3, 1, 2, 0] rfl rfl⟩

theorem W_s_PartOk {w0 : World} {N : Nat} {x0 : DPart} {r : Bool} (h : F_s_PartOk N x0 = some r) {a0_0 : Option Addr} {n0_0 c0_0 : Nat} (hn0_0 : n0_0 = x0.label.levels.length) (hr0_0 : rdS (Bor w0 []) w0 a0_0 c0_0 x0.label.levels) {a0_1 : Option Addr} {n0_1 c0_1 : Nat} (hn0_1 : n0_1 = x0.own.length) (hr0_1 : rdS (Bor w0 []) w0 a0_1 c0_1 x0.own) {a0_2 : Option Addr} {n0_2 c0_2 : Nat} (hn0_2 : n0_2 = x0.tree.length) (hr0_2 : rdS (Bor w0 []) w0 a0_2 c0_2 x0.tree) {a0_3 : Option Addr} {n0_3 c0_3 : Nat} (hn0_3 : n0_3 = x0.heap.arena.length) (hr0_3 : rdS (Bor w0 []) w0 a0_3 c0_3 x0.heap.arena) {a0_7 : Option Addr} {n0_7 c0_7 : Nat} (hn0_7 : n0_7 = x0.heap.gc.grey.length) (hr0_7 : rdS (Bor w0 []) w0 a0_7 c0_7 x0.heap.gc.grey) {a0_8 : Option Addr} {n0_8 c0_8 : Nat} (hn0_8 : n0_8 = x0.taps.length) (hr0_8 : rdS (Bor w0 []) w0 a0_8 c0_8 x0.taps) :
    Ret Tryz.prog 70 #[.agg #[.slice a0_0 n0_0 c0_0, .slice a0_1 n0_1 c0_1, .slice a0_2 n0_2 c0_2, .slice a0_3 n0_3 c0_3, .int .i64 x0.heap.gc.phase, .int .i64 x0.heap.gc.pos, .int .i64 x0.heap.gc.round, .slice a0_7 n0_7 c0_7, .slice a0_8 n0_8 c0_8, .int .i64 x0.next, .int .i64 x0.want, .int .i64 x0.spent.pages, .int .i64 x0.spent.rent, .int .i64 x0.spent.cpu, .int .i64 x0.press, .int .i64 x0.lost]] w0 (fun v w => v = .bool r ∧ St w0 [] w []) := by
  subst hn0_0 hn0_1 hn0_2 hn0_3 hn0_7 hn0_8
  unfold F_s_PartOk at h
  refine Ret.fn Tryz.func70 fun e => ?_
  have hS1 := St.start w0
  refine go ?_
  refine LW.bo hS1 fun g1 w2 hS2 => ?_
  refine gs ?_
  obtain ⟨j3, hj3, h4⟩ := obind h
  refine CW.jn [1] [0] [(61, .bool j3)] hS2 (h1 := ?_) (h2 := ?_)
  · have h := hj3
    refine go ?_
    replace ⟨y5, hy5, h⟩ := obind h
    refine LW.c0 (W_s_LabelOk hy5 rfl (hS2.rB hr0_0)) hS2 fun w6 hS3 => ?_
    refine go ?_
    rcases bcases (!y5) with hc7 | hc7
    · replace h := bcT h hc7
      refine go ?_
      cases oi h
      exact ⟨⟨rfl, rfl, trivial⟩, hS3.pick [0] rfl rfl⟩
    replace h := bcF h hc7
    refine go ?_
    replace ⟨y8, hy8, h⟩ := obind h
    refine go ?_
    refine LW.c0 (W_s_OwnOk hy8 rfl (hS3.rB hr0_1)) hS3 fun w9 hS4 => ?_
    refine go ?_
    rcases bcases (!y8) with hc10 | hc10
    · replace h := bcT h hc10
      refine go ?_
      cases oi h
      exact ⟨⟨rfl, rfl, trivial⟩, hS4.pick [0] rfl rfl⟩
    replace h := bcF h hc10
    refine go ?_
    replace ⟨y11, hy11, h⟩ := obind h
    refine go ?_
    refine LW.c0 (W_s_TreeOk hy11 rfl (hS4.rB hr0_2)) hS4 fun w12 hS5 => ?_
    refine go ?_
    rcases bcases (!y11) with hc13 | hc13
    · replace h := bcT h hc13
      refine go ?_
      cases oi h
      exact ⟨⟨rfl, rfl, trivial⟩, hS5.pick [0] rfl rfl⟩
    replace h := bcF h hc13
    refine go ?_
    replace ⟨y14, hy14, h⟩ := obind h
    refine go ?_
    refine LW.c0 (W_s_HeapOk hy14 rfl (hS5.rB hr0_3) rfl (hS5.rB hr0_7)) hS5 fun w15 hS6 => ?_
    refine go ?_
    refine LW.fl [1, 26] fun e => ?_
    rcases bcases (!y14) with hc16 | hc16
    · replace h := bcT h hc16
      refine go ?_
      cases oi h
      exact ⟨⟨rfl, rfl, trivial⟩, hS6.pick [0] rfl rfl⟩
    replace h := bcF h hc16
    refine go ?_
    rcases bcases (decide ((x0.taps.length : Int) > 3)) with hc17 | hc17
    · replace h := bcT h hc17
      refine go ?_
      cases oi h
      exact ⟨⟨rfl, rfl, trivial⟩, hS6.pick [0] rfl rfl⟩
    replace h := bcF h hc17
    refine go ?_
    replace ⟨y18, hy18, h⟩ := obind h
    refine go ?_
    refine LW.c0 (W_s_l8Slot hy18) hS6 fun w19 hS7 => ?_
    refine go ?_
    rcases bcases (!y18) with hc20 | hc20
    · replace h := bcT h hc20
      refine go ?_
      cases oi h
      exact ⟨⟨rfl, rfl, trivial⟩, hS7.pick [0] rfl rfl⟩
    replace h := bcF h hc20
    refine go ?_
    replace ⟨y21, hy21, h⟩ := obind h
    refine go ?_
    refine LW.c0 (W_s_l1In hy21) hS7 fun w22 hS8 => ?_
    refine go ?_
    rcases bcases (!y21) with hc23 | hc23
    · replace h := bcT h hc23
      refine go ?_
      cases oi h
      exact ⟨⟨rfl, rfl, trivial⟩, hS8.pick [0] rfl rfl⟩
    replace h := bcF h hc23
    refine go ?_
    replace ⟨y24, hy24, h⟩ := obind h
    refine go ?_
    refine LW.c0 (W_s_AmtOk hy24) hS8 fun w25 hS9 => ?_
    refine go ?_
    refine LW.fl [1, 50] fun e => ?_
    rcases bcases (!y24) with hc26 | hc26
    · replace h := bcT h hc26
      refine go ?_
      cases oi h
      exact ⟨⟨rfl, rfl, trivial⟩, hS9.pick [0] rfl rfl⟩
    replace h := bcF h hc26
    refine go ?_
    replace ⟨y27, hy27, h⟩ := obind h
    refine go ?_
    refine LW.c0 (W_s_l1In hy27) hS9 fun w28 hS10 => ?_
    refine go ?_
    rcases bcases (!y27) with hc29 | hc29
    · replace h := bcT h hc29
      refine go ?_
      cases oi h
      exact ⟨⟨rfl, rfl, trivial⟩, hS10.pick [0] rfl rfl⟩
    replace h := bcF h hc29
    refine go ?_
    replace ⟨y30, hy30, h⟩ := obind h
    refine go ?_
    refine LW.c0 (W_s_l1In hy30) hS10 fun w31 hS11 => ?_
    refine go ?_
    cases oi h
    exact ⟨⟨rfl, rfl, trivial⟩, hS11.pick [0] rfl rfl⟩
  intro e w32 hS12
  have h := h4
  refine go ?_
  refine cd (fun hc33 => ?_) fun hc33 => ?_
  · replace h := bcT h hc33
    refine go ?_
    cases h
    exact fi hS12
  replace h := bcF h hc33
  refine go ?_
  obtain ⟨o49, ho49, h50⟩ := obind h
  refine CW.mono (CW.lx [1] [0] [] 0 (fun s34 => [(3, .int .i64 s34)]) (RT Tryz.prog Tryz.f70.results (fun u => .bool u) w0 []) hS12 ho49 (hb := ?_)) ?_
  · intro s34 e w35 o hS13 h
    refine go ?_
    refine cd (fun hc36 => ?_) fun hc36 => ?_
    · replace h := bcT h hc36
      refine go ?_
      replace ⟨y37, hy37, h⟩ := obind h
      obtain ⟨b40, o41, cs42, hae, hb45, hp38, hq39, hd43, hk44⟩ := hr0_8.idx hy37
      subst hae
      obtain rfl := hd43
      refine LW.u (Pur.ix Tryz.underlying65 sz82 rfl rfl hp38 hq39) rfl ?_
      refine LW.l (Ldr.oldN w0 ag82 rfl rfl (fun j u hu => hk44 j u hu)) (hS13.same _ hb45.1 hb45.2) rfl ?_
      replace ⟨y46, hy46, h⟩ := obind h
      refine LW.c0 (W_s_TapOk hy46) hS13 fun w47 hS14 => ?_
      refine go ?_
      refine CW.fl [1, 3, 75] fun e => ?_
      refine cd (fun hc48 => ?_) fun hc48 => ?_
      · replace h := bcT h hc48
        refine go ?_
        cases oi h
        exact ⟨trivial, rfl, _, rfl, ⟨_, Res.one (resOne.t rfl), rfl, hS14.pick [] rfl rfl⟩⟩
      replace h := bcF h hc48
      refine go ?_
      cases oi h
      exact ⟨rfl, ⟨⟨rfl, rfl, trivial⟩, hS14.pick [0] rfl rfl⟩⟩
    replace h := bcF h hc36
    refine go ?_
    cases oi h
    exact ⟨trivial, rfl, ⟨trivial, hS13.pick [0] rfl rfl⟩⟩
  intro x e w51 hM
  rcases o49 with o49 | r52
  · obtain ⟨rfl, hM⟩ := hM
    obtain ⟨hE, hS15⟩ := hM
    obtain ⟨e, rfl⟩ := hE.out; rw [show e = upds e [] from rfl]
    have h := h50
    refine go ?_
    cases h
    exact fi hS15
  obtain ⟨rfl, u, rfl, hM⟩ := hM
  cases h50
  exact And.intro trivial hM

theorem W_s_PartSum {w0 : World} {N : Nat} {x0 : DPart} {r : DAmt} (h : F_s_PartSum N x0 = some r) {a0_0 : Option Addr} {n0_0 c0_0 : Nat} (hn0_0 : n0_0 = x0.label.levels.length) (hr0_0 : rdS (Bor w0 []) w0 a0_0 c0_0 x0.label.levels) {a0_1 : Option Addr} {n0_1 c0_1 : Nat} (hn0_1 : n0_1 = x0.own.length) (hr0_1 : rdS (Bor w0 []) w0 a0_1 c0_1 x0.own) {a0_2 : Option Addr} {n0_2 c0_2 : Nat} (hn0_2 : n0_2 = x0.tree.length) (hr0_2 : rdS (Bor w0 []) w0 a0_2 c0_2 x0.tree) {a0_3 : Option Addr} {n0_3 c0_3 : Nat} (hn0_3 : n0_3 = x0.heap.arena.length) (hr0_3 : rdS (Bor w0 []) w0 a0_3 c0_3 x0.heap.arena) {a0_7 : Option Addr} {n0_7 c0_7 : Nat} (hn0_7 : n0_7 = x0.heap.gc.grey.length) (hr0_7 : rdS (Bor w0 []) w0 a0_7 c0_7 x0.heap.gc.grey) {a0_8 : Option Addr} {n0_8 c0_8 : Nat} (hn0_8 : n0_8 = x0.taps.length) (hr0_8 : rdS (Bor w0 []) w0 a0_8 c0_8 x0.taps) :
    Ret Tryz.prog 141 #[.agg #[.slice a0_0 n0_0 c0_0, .slice a0_1 n0_1 c0_1, .slice a0_2 n0_2 c0_2, .slice a0_3 n0_3 c0_3, .int .i64 x0.heap.gc.phase, .int .i64 x0.heap.gc.pos, .int .i64 x0.heap.gc.round, .slice a0_7 n0_7 c0_7, .slice a0_8 n0_8 c0_8, .int .i64 x0.next, .int .i64 x0.want, .int .i64 x0.spent.pages, .int .i64 x0.spent.rent, .int .i64 x0.spent.cpu, .int .i64 x0.press, .int .i64 x0.lost]] w0 (fun v w => v = .agg #[.int .i64 r.pages, .int .i64 r.rent, .int .i64 r.cpu] ∧ St w0 [] w []) := by
  subst hn0_0 hn0_1 hn0_2 hn0_3 hn0_7 hn0_8
  unfold F_s_PartSum at h
  refine Ret.fn Tryz.func141 fun e => ?_
  have hS1 := St.start w0
  refine go ?_
  refine LW.bo hS1 fun g1 w2 hS2 => ?_
  refine LW.al hS2 fun g3 w4 hS3 => ?_
  refine go ?_
  replace ⟨y5, hy5, h⟩ := obind h
  refine LW.c0 (W_s_TreeSum hy5 rfl (hS3.rB hr0_2)) hS3 fun w6 hS4 => ?_
  refine LW.al hS4 fun g7 w8 hS5 => ?_
  refine LW.st hS5 0 fun w9 hS6 => ?_
  refine go ?_
  replace ⟨y10, hy10, h⟩ := obind h
  refine LW.c0 (W_s_AmtOk hy10) hS6 fun w11 hS7 => ?_
  refine go ?_
  refine cd (fun hc12 => ?_) fun hc12 => ?_
  · replace h := bcT h hc12
    refine go ?_
    refine LW.st hS7 1 fun w13 hS8 => ?_
    refine go ?_
    cases h
    exact And.intro trivial ⟨_, Res.one (resOne.b hS8 1 rfl ag56 rfl rfl), rfl, hS8.pick [] rfl rfl⟩
  replace h := bcF h hc12
  refine go ?_
  refine CW.draw (by kernel_rfl) ?_
  have hS9 := hS7.drew
  refine go ?_
  replace ⟨y14, hy14, h⟩ := obind h
  have q := W_s_Held (w0 := w11.drew) hy14 rfl (hS9.rB hr0_0) rfl (hS9.rB hr0_1) rfl (hS9.rB hr0_2) rfl (hS9.rB hr0_3) rfl (hS9.rB hr0_7) rfl (hS9.rB hr0_8)
  refine AW.one (i := 3) (by kernel_rfl) ?_
  refine ⟨_, rfl, ?_⟩
  refine LW.call pl203 rfl rfl ?_
  refine Ret.mono q ?_
  rintro _ w15 ⟨rfl, hs⟩
  have hS10 := hS9.add hs
  refine LW.nil ⟨rfl, (.c (St.cell (h := hS10) (i := 2) rfl) (.c (St.cell (h := hS10) (i := 0) rfl) (.c (St.cell (h := hS10) (i := 2) rfl) (.c (St.cell (h := hS10) (i := 0) rfl) (.c (St.cell (h := hS10) (i := 2) rfl) (.w (by kernel_rfl) (.c (St.cell (h := hS10) (i := 0) rfl) Kept.n))))))), ?_⟩
  refine go ?_
  refine AW.u (i := 8) rfl (by kernel_rfl) rfl rfl (Pur.p rfl) ?_
  refine AW.u (i := 21) rfl (by kernel_rfl) rfl rfl (Pur.build (vs := [(0, .int .i64 (IntKind.i64.wrap ((IntKind.i64.wrap (y5.pages + y14)) + x0.spent.pages))), (1, .int .i64 (IntKind.i64.wrap (y5.rent + x0.spent.rent))), (2, .int .i64 (IntKind.i64.wrap (y5.cpu + x0.spent.cpu)))]) (cs := #[.int .i64 (IntKind.i64.wrap ((IntKind.i64.wrap (y5.pages + y14)) + x0.spent.pages)), .int .i64 (IntKind.i64.wrap (y5.rent + x0.spent.rent)), .int .i64 (IntKind.i64.wrap (y5.cpu + x0.spent.cpu))]) rfl (by kernel_rfl)) ?_
  refine AW.one (i := 22) (by kernel_rfl) ?_
  refine ⟨_, rfl, ?_⟩
  refine LW.st hS10 1 fun w16 hS11 => ?_
  refine LW.nil ⟨rfl, (.w (by kernel_rfl) (.w (by kernel_rfl) (.w (by kernel_rfl) (.w (by kernel_rfl) (.w (by kernel_rfl) (.w (by kernel_rfl) (.w (by kernel_rfl) Kept.n))))))), ?_⟩
  refine go ?_
  cases h
  exact And.intro trivial ⟨_, Res.one (resOne.b hS11 1 rfl ag56 rfl rfl), rfl, hS11.pick [] rfl rfl⟩

theorem W_s_TreePay {w0 : World} {N : Nat} {x0 : List DRes} {x1 : Int} {x2 : DAmt} {r : (List DRes) × Bool} (h : F_s_TreePay N x0 x1 x2 = some r) {a0_0 : Option Addr} {n0_0 c0_0 : Nat} (hn0_0 : n0_0 = x0.length) (hr0_0 : rdS (Bor w0 []) w0 a0_0 c0_0 x0) :
    Ret Tryz.prog 79 #[.slice a0_0 n0_0 c0_0, .int .i64 x1, .agg #[.int .i64 x2.pages, .int .i64 x2.rent, .int .i64 x2.cpu]] w0 (fun v w => ∃ ar0 cr0, v = .tuple #[.slice ar0 r.1.length cr0, .bool r.2] ∧ St w0 [] w [sl ar0 cr0 r.1]) := by
  subst hn0_0
  unfold F_s_TreePay at h
  refine Ret.fn Tryz.func79 fun e => ?_
  have hS1 := St.start w0
  refine go ?_
  refine LW.bo hS1 fun g1 w2 hS2 => ?_
  refine go ?_
  replace ⟨y3, hy3, h⟩ := obind h
  refine LW.cl (W_s_l6Copy hy3 rfl (hS2.rB hr0_0)) ?_
  rintro _ w6 ⟨a4, c5, rfl, hs⟩
  have hS3 := hS2.add hs
  refine go ?_
  replace ⟨y7, hy7, h⟩ := obind h
  refine LW.c0 (W_s_l6Live hy7 rfl (hS3.rB hr0_0)) hS3 fun w8 hS4 => ?_
  refine go ?_
  refine cd (fun hc9 => ?_) fun hc9 => ?_
  · replace h := bcT h hc9
    refine go ?_
    cases h
    exact And.intro trivial ⟨_, Res.two (resOne.t rfl) (resOne.t rfl), a4, c5, rfl, hS4.pick [0] rfl rfl⟩
  replace h := bcF h hc9
  refine gs ?_
  obtain ⟨j10, hj10, h11⟩ := obind h
  refine CW.cut (fun e wb => ∃ (j10g9 : Nat), En e [(1, .int .i64 x1), (8, .slice a4 y3.length c5), (9, .pointer (some ⟨j10g9, 0, none⟩)), (10, .bool j10.2.2.2)] ∧ St w0 [] wb [sl a4 c5 y3, bx j10g9 56 [.int .i64 j10.1, .int .i64 j10.2.1, .int .i64 j10.2.2.1]]) ?_ ?_
  · have h := hj10
    refine CW.draw (by kernel_rfl) ?_
    have hS5 := hS4.drew
    refine go ?_
    replace ⟨y12, hy12, h⟩ := obind h
    obtain ⟨b15, o16, cs17, hae, hb20, hp13, hq14, hd18, hk19⟩ := hr0_0.idx hy12
    subst hae
    obtain rfl := hd18
    refine AW.u (i := 2) rfl (by kernel_rfl) rfl rfl (Pur.ix Tryz.underlying59 sz138 rfl rfl hp13 hq14) ?_
    refine go ?_
    refine AW.take (i := 4) rfl (by kernel_rfl) rfl rfl (Ldr.oldN w0 ag56 rfl rfl (fun j u hu => oldsub (m := 3) hk19 2 hu)) (hS5.same _ hb20.1 hb20.2) ?_
    refine go ?_
    replace ⟨y21, hy21, h⟩ := obind h
    refine AW.all (rs := [6, 10]) (by kernel_rfl) (by simp) ⟨?_, ?_, trivial⟩
    · have q := W_s_AmtSub (w0 := w8.drew) hy21
      refine ⟨_, rfl, ?_⟩
      refine LW.call pl144 rfl rfl ?_
      refine Ret.mono q ?_
      rintro _ w26 ⟨rfl, hs⟩
      have hS6 := hS5.add hs
      refine LW.nil ⟨rfl, (.w (by kernel_rfl) (.w (by kernel_rfl) Kept.n)), ?_⟩
      refine AW.u (i := 7) rfl (by kernel_rfl) rfl rfl (Pur.p rfl) ?_
      refine go ?_
      refine AW.one (i := 10) (by kernel_rfl) ?_
      refine ⟨_, rfl, ?_⟩
      refine LW.al hS6 fun g27 w28 hS7 => ?_
      refine LW.nil ⟨rfl, (.c (St.cell (h := hS7) (i := 2) rfl) (.c (hS7.same _ hb20.1 hb20.2) Kept.n)), ?_⟩
      refine AW.one (i := 11) (by kernel_rfl) ?_
      refine ⟨_, rfl, ?_⟩
      refine LW.st hS7 0 fun w29 hS8 => ?_
      refine LW.nil ⟨rfl, (.w (by kernel_rfl) (.w (by kernel_rfl) Kept.n)), ?_⟩
      refine go ?_
      cases oi h
      exact ⟨g27, ⟨rfl, rfl, rfl, rfl, trivial⟩, hS8.pick [1, 0] rfl rfl⟩
    refine ⟨_, rfl, ?_⟩
    refine LW.al hS5 fun g30 w31 hS9 => ?_
    refine LW.nil ⟨rfl, (.c (St.cell (h := hS9) (i := 2) rfl) (.c (hS9.same _ hb20.1 hb20.2) Kept.n)), ?_⟩
    have q := W_s_AmtSub (w0 := w31) hy21
    refine AW.one (i := 6) (by kernel_rfl) ?_
    refine ⟨_, rfl, ?_⟩
    refine LW.call pl144 rfl rfl ?_
    refine Ret.mono q ?_
    rintro _ w32 ⟨rfl, hs⟩
    have hS10 := hS9.add hs
    refine LW.nil ⟨rfl, (.w (by kernel_rfl) (.w (by kernel_rfl) Kept.n)), ?_⟩
    refine go ?_
    refine AW.one (i := 11) (by kernel_rfl) ?_
    refine ⟨_, rfl, ?_⟩
    refine LW.st hS10 0 fun w33 hS11 => ?_
    refine LW.nil ⟨rfl, (.w (by kernel_rfl) (.w (by kernel_rfl) Kept.n)), ?_⟩
    refine go ?_
    cases oi h
    exact ⟨g30, ⟨rfl, rfl, rfl, rfl, trivial⟩, hS11.pick [1, 0] rfl rfl⟩
  rintro e w34 ⟨j10g9, hE, hS12⟩
  obtain ⟨e, rfl⟩ := hE.out
  have h := h11
  refine go ?_
  refine cd (fun hc35 => ?_) fun hc35 => ?_
  · replace h := bcT h hc35
    refine go ?_
    cases h
    exact And.intro trivial ⟨_, Res.two (resOne.t rfl) (resOne.t rfl), a4, c5, rfl, hS12.pick [0] rfl rfl⟩
  replace h := bcF h hc35
  refine go ?_
  replace ⟨y36, hy36, h⟩ := obind h
  obtain ⟨b39, o40, hae, hp37, hq38⟩ := hS12.ownIdx (α := DRes) (i := 0) rfl hy36
  subst hae
  refine LW.u (Pur.ix Tryz.underlying59 sz138 rfl rfl hp37 hq38) rfl ?_
  refine go ?_
  replace ⟨y41, hy41, h⟩ := obind h
  refine LW.stE (M := []) (L := [sl (some ⟨b39, o40, none⟩) c5 y3, bx j10g9 56 [.int .i64 j10.1, .int .i64 j10.2.1, .int .i64 j10.2.2.1]]) (z := y36) (z' := (DRes.mk y36.live y36.parent (DAmt.mk j10.1 j10.2.1 j10.2.2.1))) (o := 2) hS12 (i := 0) rfl hy36 ag56 rfl (by show _ = o40 + (x1 : Int).toNat * 5 + 2; omega) rfl rfl rfl rfl (leafF (fun w cs F hF => by obtain ⟨rfl, rfl⟩ := hF; exact ⟨rfl, rfl⟩)) ?_
  intro w42 hS13 hf
  rw [Option.some.inj hy41] at hS13
  refine go ?_
  replace h := Option.some.inj h
  subst h
  exact And.intro trivial ⟨_, Res.two (resOne.t rfl) (resOne.t rfl), (some ⟨b39, o40, none⟩), c5, (show (.tuple #[.slice (some ⟨b39, o40, none⟩) y3.length c5, .bool true] : Value) = .tuple #[.slice (some ⟨b39, o40, none⟩) y41.length c5, .bool true] by rw [show y3.length = y41.length from (len_set (Option.some.inj hy41))]), hS13.pick [0] rfl rfl⟩

theorem W_s_TreeBack {w0 : World} {N : Nat} {x0 : List DRes} {x1 : Int} {x2 : DAmt} {r : (List DRes) × Bool} (h : F_s_TreeBack N x0 x1 x2 = some r) {a0_0 : Option Addr} {n0_0 c0_0 : Nat} (hn0_0 : n0_0 = x0.length) (hr0_0 : rdS (Bor w0 []) w0 a0_0 c0_0 x0) :
    Ret Tryz.prog 80 #[.slice a0_0 n0_0 c0_0, .int .i64 x1, .agg #[.int .i64 x2.pages, .int .i64 x2.rent, .int .i64 x2.cpu]] w0 (fun v w => ∃ ar0 cr0, v = .tuple #[.slice ar0 r.1.length cr0, .bool r.2] ∧ St w0 [] w [sl ar0 cr0 r.1]) := by
  subst hn0_0
  unfold F_s_TreeBack at h
  refine Ret.fn Tryz.func80 fun e => ?_
  have hS1 := St.start w0
  refine go ?_
  refine LW.bo hS1 fun g1 w2 hS2 => ?_
  refine go ?_
  replace ⟨y3, hy3, h⟩ := obind h
  refine LW.cl (W_s_l6Copy hy3 rfl (hS2.rB hr0_0)) ?_
  rintro _ w6 ⟨a4, c5, rfl, hs⟩
  have hS3 := hS2.add hs
  refine go ?_
  replace ⟨y7, hy7, h⟩ := obind h
  refine LW.c0 (W_s_TreeOk hy7 rfl (hS3.rB hr0_0)) hS3 fun w8 hS4 => ?_
  refine go ?_
  refine cd (fun hc9 => ?_) fun hc9 => ?_
  · replace h := bcT h hc9
    refine go ?_
    cases h
    exact And.intro trivial ⟨_, Res.two (resOne.t rfl) (resOne.t rfl), a4, c5, rfl, hS4.pick [0] rfl rfl⟩
  replace h := bcF h hc9
  refine gs ?_
  obtain ⟨j10, hj10, h11⟩ := obind h
  refine CW.jn [0, 1, 5, 8] [0, 1] [(10, .bool j10)] hS4 (h1 := ?_) (h2 := ?_)
  · have h := hj10
    refine CW.draw (by kernel_rfl) ?_
    have hS5 := hS4.drew
    refine go ?_
    replace ⟨y12, hy12, h⟩ := obind h
    refine AW.all (rs := [1, 7]) (by kernel_rfl) (by simp) ⟨?_, ?_, trivial⟩
    · have q := W_s_l6Sum (w0 := w8.drew) hy12 rfl (hS5.rB hr0_0)
      refine ⟨_, rfl, ?_⟩
      refine LW.call pl146 rfl rfl ?_
      refine Ret.mono q ?_
      rintro _ w17 ⟨rfl, hs⟩
      have hS6 := hS5.add hs
      refine LW.nil ⟨rfl, (.c (St.cell (h := hS6) (i := 1) rfl) Kept.n), ?_⟩
      replace ⟨y18, hy18, h⟩ := obind h
      refine AW.all (rs := [3, 7]) (by kernel_rfl) (by simp) ⟨?_, ?_, trivial⟩
      · have q := W_s_AmtAdd (w0 := w17) hy18
        refine ⟨_, rfl, ?_⟩
        refine LW.call pl145 rfl rfl ?_
        refine Ret.mono q ?_
        rintro _ w23 ⟨rfl, hs⟩
        have hS7 := hS6.add hs
        refine LW.nil ⟨rfl, (.w (by kernel_rfl) Kept.n), ?_⟩
        refine AW.u (i := 4) rfl (by kernel_rfl) rfl rfl (Pur.p rfl) ?_
        refine go ?_
        refine AW.one (i := 7) (by kernel_rfl) ?_
        refine ⟨_, rfl, ?_⟩
        refine LW.al hS7 fun g24 w25 hS8 => ?_
        refine LW.nil ⟨rfl, (.c (St.cell (h := hS8) (i := 2) rfl) Kept.n), ?_⟩
        refine AW.one (i := 8) (by kernel_rfl) ?_
        refine ⟨_, rfl, ?_⟩
        refine LW.st hS8 0 fun w26 hS9 => ?_
        refine LW.nil ⟨rfl, (.w (by kernel_rfl) Kept.n), ?_⟩
        refine go ?_
        cases oi h
        exact ⟨⟨rfl, rfl, rfl, rfl, rfl, trivial⟩, hS9.pick [1, 2] rfl rfl⟩
      refine ⟨_, rfl, ?_⟩
      refine LW.al hS6 fun g27 w28 hS10 => ?_
      refine LW.nil ⟨rfl, (.c (St.cell (h := hS10) (i := 2) rfl) Kept.n), ?_⟩
      have q := W_s_AmtAdd (w0 := w28) hy18
      refine AW.one (i := 3) (by kernel_rfl) ?_
      refine ⟨_, rfl, ?_⟩
      refine LW.call pl145 rfl rfl ?_
      refine Ret.mono q ?_
      rintro _ w29 ⟨rfl, hs⟩
      have hS11 := hS10.add hs
      refine LW.nil ⟨rfl, (.w (by kernel_rfl) Kept.n), ?_⟩
      refine go ?_
      refine AW.one (i := 8) (by kernel_rfl) ?_
      refine ⟨_, rfl, ?_⟩
      refine LW.st hS11 0 fun w30 hS12 => ?_
      refine LW.nil ⟨rfl, (.w (by kernel_rfl) Kept.n), ?_⟩
      refine go ?_
      cases oi h
      exact ⟨⟨rfl, rfl, rfl, rfl, rfl, trivial⟩, hS12.pick [1, 2] rfl rfl⟩
    refine ⟨_, rfl, ?_⟩
    refine LW.al hS5 fun g31 w32 hS13 => ?_
    refine LW.nil ⟨rfl, (.c (St.cell (h := hS13) (i := 2) rfl) Kept.n), ?_⟩
    have q := W_s_l6Sum (w0 := w32) hy12 rfl (hS13.rB hr0_0)
    refine AW.one (i := 1) (by kernel_rfl) ?_
    refine ⟨_, rfl, ?_⟩
    refine LW.call pl146 rfl rfl ?_
    refine Ret.mono q ?_
    rintro _ w33 ⟨rfl, hs⟩
    have hS14 := hS13.add hs
    refine LW.nil ⟨rfl, (.c (St.cell (h := hS14) (i := 2) rfl) Kept.n), ?_⟩
    replace ⟨y34, hy34, h⟩ := obind h
    have q := W_s_AmtAdd (w0 := w33) hy34
    refine AW.one (i := 3) (by kernel_rfl) ?_
    refine ⟨_, rfl, ?_⟩
    refine LW.call pl145 rfl rfl ?_
    refine Ret.mono q ?_
    rintro _ w35 ⟨rfl, hs⟩
    have hS15 := hS14.add hs
    refine LW.nil ⟨rfl, (.w (by kernel_rfl) Kept.n), ?_⟩
    refine go ?_
    refine AW.one (i := 8) (by kernel_rfl) ?_
    refine ⟨_, rfl, ?_⟩
    refine LW.st hS15 0 fun w36 hS16 => ?_
    refine LW.nil ⟨rfl, (.w (by kernel_rfl) Kept.n), ?_⟩
    refine go ?_
    cases oi h
    exact ⟨⟨rfl, rfl, rfl, rfl, rfl, trivial⟩, hS16.pick [1, 2] rfl rfl⟩
  intro e w37 hS17
  have h := h11
  refine go ?_
  refine cd (fun hc38 => ?_) fun hc38 => ?_
  · replace h := bcT h hc38
    refine go ?_
    cases h
    exact And.intro trivial ⟨_, Res.two (resOne.t rfl) (resOne.t rfl), a4, c5, rfl, hS17.pick [0] rfl rfl⟩
  replace h := bcF h hc38
  refine go ?_
  replace ⟨y39, hy39, h⟩ := obind h
  refine LW.c0 (W_s_l6Live hy39 rfl (hS17.rB hr0_0)) hS17 fun w40 hS18 => ?_
  refine gs ?_
  obtain ⟨j41, hj41, h42⟩ := obind h
  refine CW.jn [0, 5, 8] [0, 1] [(1, .int .i64 j41)] hS18 (h1 := ?_) (h2 := ?_)
  · have h := hj41
    refine CW.fl [0, 1, 5, 8, 32] fun e => ?_
    refine cd (fun hc43 => ?_) fun hc43 => ?_
    · replace h := bcT h hc43
      refine go ?_
      cases oi h
      exact ⟨⟨rfl, rfl, rfl, rfl, trivial⟩, hS18.pick [0, 1] rfl rfl⟩
    replace h := bcF h hc43
    refine go ?_
    cases oi h
    exact ⟨⟨rfl, rfl, rfl, rfl, trivial⟩, hS18.pick [0, 1] rfl rfl⟩
  intro e w44 hS19
  have h := h42
  refine gs ?_
  obtain ⟨j45, hj45, h46⟩ := obind h
  refine CW.cut (fun e wb => ∃ (j45g11 : Nat), En e [(1, .int .i64 j41), (8, .slice a4 y3.length c5), (11, .pointer (some ⟨j45g11, 0, none⟩))] ∧ St w0 [] wb [sl a4 c5 y3, bx j45g11 56 [.int .i64 j45.1, .int .i64 j45.2.1, .int .i64 j45.2.2]]) ?_ ?_
  · have h := hj45
    refine CW.draw (by kernel_rfl) ?_
    have hS20 := hS19.drew
    refine go ?_
    replace ⟨y47, hy47, h⟩ := obind h
    obtain ⟨b50, o51, cs52, hae, hb55, hp48, hq49, hd53, hk54⟩ := hr0_0.idx hy47
    subst hae
    obtain rfl := hd53
    refine AW.u (i := 2) rfl (by kernel_rfl) rfl rfl (Pur.ix Tryz.underlying59 sz138 rfl rfl hp48 hq49) ?_
    refine go ?_
    refine AW.take (i := 4) rfl (by kernel_rfl) rfl rfl (Ldr.oldN w0 ag56 rfl rfl (fun j u hu => oldsub (m := 3) hk54 2 hu)) (hS20.same _ hb55.1 hb55.2) ?_
    refine go ?_
    replace ⟨y56, hy56, h⟩ := obind h
    refine AW.all (rs := [6, 10]) (by kernel_rfl) (by simp) ⟨?_, ?_, trivial⟩
    · have q := W_s_AmtAdd (w0 := w44.drew) hy56
      refine ⟨_, rfl, ?_⟩
      refine LW.call pl145 rfl rfl ?_
      refine Ret.mono q ?_
      rintro _ w61 ⟨rfl, hs⟩
      have hS21 := hS20.add hs
      refine LW.nil ⟨rfl, (.w (by kernel_rfl) (.w (by kernel_rfl) Kept.n)), ?_⟩
      refine AW.u (i := 7) rfl (by kernel_rfl) rfl rfl (Pur.p rfl) ?_
      refine go ?_
      refine AW.one (i := 10) (by kernel_rfl) ?_
      refine ⟨_, rfl, ?_⟩
      refine LW.al hS21 fun g62 w63 hS22 => ?_
      refine LW.nil ⟨rfl, (.c (St.cell (h := hS22) (i := 2) rfl) (.c (hS22.same _ hb55.1 hb55.2) Kept.n)), ?_⟩
      refine AW.one (i := 11) (by kernel_rfl) ?_
      refine ⟨_, rfl, ?_⟩
      refine LW.st hS22 0 fun w64 hS23 => ?_
      refine LW.nil ⟨rfl, (.w (by kernel_rfl) (.w (by kernel_rfl) Kept.n)), ?_⟩
      refine go ?_
      cases oi h
      exact ⟨g62, ⟨rfl, rfl, rfl, trivial⟩, hS23.pick [1, 0] rfl rfl⟩
    refine ⟨_, rfl, ?_⟩
    refine LW.al hS20 fun g65 w66 hS24 => ?_
    refine LW.nil ⟨rfl, (.c (St.cell (h := hS24) (i := 2) rfl) (.c (hS24.same _ hb55.1 hb55.2) Kept.n)), ?_⟩
    have q := W_s_AmtAdd (w0 := w66) hy56
    refine AW.one (i := 6) (by kernel_rfl) ?_
    refine ⟨_, rfl, ?_⟩
    refine LW.call pl145 rfl rfl ?_
    refine Ret.mono q ?_
    rintro _ w67 ⟨rfl, hs⟩
    have hS25 := hS24.add hs
    refine LW.nil ⟨rfl, (.w (by kernel_rfl) (.w (by kernel_rfl) Kept.n)), ?_⟩
    refine go ?_
    refine AW.one (i := 11) (by kernel_rfl) ?_
    refine ⟨_, rfl, ?_⟩
    refine LW.st hS25 0 fun w68 hS26 => ?_
    refine LW.nil ⟨rfl, (.w (by kernel_rfl) (.w (by kernel_rfl) Kept.n)), ?_⟩
    refine go ?_
    cases oi h
    exact ⟨g65, ⟨rfl, rfl, rfl, trivial⟩, hS26.pick [1, 0] rfl rfl⟩
  rintro e w69 ⟨j45g11, hE, hS27⟩
  obtain ⟨e, rfl⟩ := hE.out
  have h := h46
  refine go ?_
  replace ⟨y70, hy70, h⟩ := obind h
  obtain ⟨b73, o74, hae, hp71, hq72⟩ := hS27.ownIdx (α := DRes) (i := 0) rfl hy70
  subst hae
  refine LW.u (Pur.ix Tryz.underlying59 sz138 rfl rfl hp71 hq72) rfl ?_
  refine go ?_
  replace ⟨y75, hy75, h⟩ := obind h
  refine LW.stE (M := []) (L := [sl (some ⟨b73, o74, none⟩) c5 y3, bx j45g11 56 [.int .i64 j45.1, .int .i64 j45.2.1, .int .i64 j45.2.2]]) (z := y70) (z' := (DRes.mk y70.live y70.parent (DAmt.mk j45.1 j45.2.1 j45.2.2))) (o := 2) hS27 (i := 0) rfl hy70 ag56 rfl (by show _ = o74 + (j41 : Int).toNat * 5 + 2; omega) rfl rfl rfl rfl (leafF (fun w cs F hF => by obtain ⟨rfl, rfl⟩ := hF; exact ⟨rfl, rfl⟩)) ?_
  intro w76 hS28 hf
  rw [Option.some.inj hy75] at hS28
  refine go ?_
  replace h := Option.some.inj h
  subst h
  exact And.intro trivial ⟨_, Res.two (resOne.t rfl) (resOne.t rfl), (some ⟨b73, o74, none⟩), c5, (show (.tuple #[.slice (some ⟨b73, o74, none⟩) y3.length c5, .bool true] : Value) = .tuple #[.slice (some ⟨b73, o74, none⟩) y75.length c5, .bool true] by rw [show y3.length = y75.length from (len_set (Option.some.inj hy75))]), hS28.pick [0] rfl rfl⟩

end Go.Kx
