/- Each call returns what the plain function says. Printed by drive.py. -/
import Derived.Test.YtljikolgijlbeaaFa
import Derived.Test.YtljikolgijlbeaaPu
import Derived.Test.YtljikolgijlbeaaWa0
import Derived.Test.YtljikolgijlbeaaWa1
import Derived.Test.YtljikolgijlbeaaWa2
namespace Go.Kx
open Go Go.RowKit Go.Proofs
set_option maxRecDepth 10000
set_option maxHeartbeats 8000000
set_option linter.unusedVariables false
set_option linter.unusedSimpArgs false
theorem W_i_PartNew {w0 : World} {N : Nat} {x0 : DBoot} {r : DPart × Bool} (h : F_i_PartNew N x0 = some r) {a0_0 : Option Addr} {n0_0 c0_0 : Nat} (hn0_0 : n0_0 = x0.label.levels.length) (hr0_0 : rdS (Bor w0 []) w0 a0_0 c0_0 x0.label.levels) {a0_1 : Option Addr} {n0_1 c0_1 : Nat} (hn0_1 : n0_1 = x0.own.length) (hr0_1 : rdS (Bor w0 []) w0 a0_1 c0_1 x0.own) :
    Ret Try.prog 7 #[.agg #[.slice a0_0 n0_0 c0_0, .slice a0_1 n0_1 c0_1, .int .i64 x0.amt.pages, .int .i64 x0.amt.rent, .int .i64 x0.amt.cpu]] w0 (fun v w => ∃ ar0_0 cr0_0, ∃ ar0_1 cr0_1, ∃ ar0_2 cr0_2, ∃ ar0_3 cr0_3, ∃ ar0_7 cr0_7, ∃ ar0_8 cr0_8, v = .tuple #[.agg #[.slice ar0_0 r.1.label.levels.length cr0_0, .slice ar0_1 r.1.own.length cr0_1, .slice ar0_2 r.1.tree.length cr0_2, .slice ar0_3 r.1.heap.arena.length cr0_3, .int .i64 r.1.heap.gc.phase, .int .i64 r.1.heap.gc.pos, .int .i64 r.1.heap.gc.round, .slice ar0_7 r.1.heap.gc.grey.length cr0_7, .slice ar0_8 r.1.taps.length cr0_8, .int .i64 r.1.next, .int .i64 r.1.want, .int .i64 r.1.spent.pages, .int .i64 r.1.spent.rent, .int .i64 r.1.spent.cpu, .int .i64 r.1.press, .int .i64 r.1.lost], .bool r.2] ∧ St w0 [] w [sl ar0_0 cr0_0 r.1.label.levels, sl ar0_1 cr0_1 r.1.own, sl ar0_2 cr0_2 r.1.tree, sl ar0_3 cr0_3 r.1.heap.arena, sl ar0_7 cr0_7 r.1.heap.gc.grey, sl ar0_8 cr0_8 r.1.taps]) := by
  subst hn0_0 hn0_1
  unfold F_i_PartNew at h
  refine Ret.fn Try.func7 fun e => ?_
  have hS1 := St.start w0
  refine go ?_
  refine LW.bo hS1 fun g1 w2 hS2 => ?_
  refine LW.al hS2 fun g3 w4 hS3 => ?_
  refine go ?_
  replace ⟨y5, hy5, h⟩ := obind h
  refine LW.cl (W_i_TreeNew hy5) ?_
  rintro _ w8 ⟨a6, c7, rfl, hs⟩
  have hS4 := hS3.add hs
  refine gs ?_
  obtain ⟨j9, hj9, h10⟩ := obind h
  refine CW.jn [1, 2, 4] [0, 1, 2] [(28, .bool j9)] hS4 (h1 := ?_) (h2 := ?_)
  · have h := hj9
    refine go ?_
    rcases bcases (!y5.2) with hc11 | hc11
    · replace h := bcT h hc11
      refine go ?_
      cases oi h
      exact ⟨⟨rfl, rfl, rfl, rfl, trivial⟩, hS4.pick [0, 1, 2] rfl rfl⟩
    replace h := bcF h hc11
    refine go ?_
    replace ⟨y12, hy12, h⟩ := obind h
    refine go ?_
    refine LW.c0 (W_i_LabelOk hy12 rfl (hS4.rB hr0_0)) hS4 fun w13 hS5 => ?_
    refine go ?_
    rcases bcases (!y12) with hc14 | hc14
    · replace h := bcT h hc14
      refine go ?_
      cases oi h
      exact ⟨⟨rfl, rfl, rfl, rfl, trivial⟩, hS5.pick [0, 1, 2] rfl rfl⟩
    replace h := bcF h hc14
    refine go ?_
    replace ⟨y15, hy15, h⟩ := obind h
    refine go ?_
    refine LW.c0 (W_i_OwnOk hy15 rfl (hS5.rB hr0_1)) hS5 fun w16 hS6 => ?_
    refine go ?_
    cases oi h
    exact ⟨⟨rfl, rfl, rfl, rfl, trivial⟩, hS6.pick [0, 1, 2] rfl rfl⟩
  intro e w17 hS7
  have h := h10
  refine go ?_
  refine cd (fun hc18 => ?_) fun hc18 => ?_
  · replace h := bcT h hc18
    refine go ?_
    refine LW.u (Pur.build (vs := []) (cs := #[.slice none 0 0, .slice none 0 0, .slice none 0 0, .slice none 0 0, .int .i64 0, .int .i64 0, .int .i64 0, .slice none 0 0, .slice none 0 0, .int .i64 0, .int .i64 0, .int .i64 0, .int .i64 0, .int .i64 0, .int .i64 0, .int .i64 0]) rfl (by kernel_rfl)) rfl ?_
    refine LW.st hS7 1 fun w19 hS8 => ?_
    refine go ?_
    cases h
    have hS9 := hS8.nil (α := Int)
    have hS10 := hS9.nil (α := Int)
    have hS11 := hS10.nil (α := DRes)
    have hS12 := hS11.nil (α := DObj)
    have hS13 := hS12.nil (α := Int)
    have hS14 := hS13.nil (α := DTap)
    exact And.intro trivial ⟨_, Res.two (resOne.b hS14 7 rfl ag40 rfl rfl) (resOne.t rfl), none, 0, none, 0, none, 0, none, 0, none, 0, none, 0, rfl, hS14.pick [5, 4, 3, 2, 1, 0] rfl rfl⟩
  replace h := bcF h hc18
  refine go ?_
  replace ⟨y20, hy20, h⟩ := obind h
  refine LW.cl (W_i_ArenaNew hy20) ?_
  rintro _ w23 ⟨a21, c22, rfl, hs⟩
  have hS15 := hS7.add hs
  refine LW.bsl (α := Int) (vs := [(0, .int .i64 (-1)), (1, .int .i64 (-1))]) (cs := #[.int .i64 (-1), .int .i64 (-1)]) (l := ([-1, -1] : List Int)) rfl (by kernel_rfl) rfl rfl rfl (fun w => ⟨[.int .i64 (-1)], [.int .i64 (-1)], [], [], rfl, rfl, ⟨rfl, rfl⟩, ⟨[.int .i64 (-1)], [], [], [], rfl, rfl, ⟨rfl, rfl⟩, rfl⟩⟩) hS15 rfl ?_
  intro a24 c25 w26 hS16 hf
  refine LW.u (Pur.build (vs := [(1, .int .i64 4), (4, .int .i64 1000000), (10, .slice a24 (([-1, -1] : List Int).length) c25)]) (cs := #[.int .i64 0, .int .i64 4, .int .i64 0, .int .i64 0, .int .i64 1000000, .int .i64 0, .int .i64 0, .int .i64 0, .int .i64 0, .bool false, .slice a24 (([-1, -1] : List Int).length) c25, .slice none 0 0, .slice none 0 0]) rfl (by kernel_rfl)) rfl ?_
  replace ⟨y27, hy27, h⟩ := obind h
  refine LW.cl (W_i_ArenaPut hy27 rfl (hS16.rI 1 rfl) rfl (hS16.rI 0 rfl) rfl (show rdS (α := Int) (Bor w26 []) w26 none 0 [] from rdS.nil _ _ _ _ (Nat.zero_le _)) rfl (show rdS (α := DMsg) (Bor w26 []) w26 none 0 [] from rdS.nil _ _ _ _ (Nat.zero_le _))) ?_
  rintro _ w30 ⟨a28, c29, rfl, hs⟩
  have hS17 := hS16.add hs
  refine gs ?_
  obtain ⟨j31, hj31, h32⟩ := obind h
  refine CW.cut (fun e wb => ∃ (j31g8 : Nat), ∃ (j31a1 : Option Addr), ∃ (j31c1 : Nat), ∃ (j31a3 : Option Addr), ∃ (j31c3 : Nat), ∃ (j31a5 : Option Addr), ∃ (j31c5 : Nat), ∃ (j31a7 : Option Addr), ∃ (j31c7 : Nat), ∃ (j31a9 : Option Addr), ∃ (j31c9 : Nat), ∃ (j31a11 : Option Addr), ∃ (j31c11 : Nat), En e [(2, .pointer (some ⟨g3, 0, none⟩)), (6, .slice a28 y27.1.length c29), (7, .int .i64 y27.2), (8, .pointer (some ⟨j31g8, 0, none⟩))] ∧ St w0 [] wb [sl a28 c29 y27.1, bx g3 40 [.slice none 0 0, .slice none 0 0, .slice none 0 0, .slice none 0 0, .int .i64 0, .int .i64 0, .int .i64 0, .slice none 0 0, .slice none 0 0, .int .i64 0, .int .i64 0, .int .i64 0, .int .i64 0, .int .i64 0, .int .i64 0, .int .i64 0], bx j31g8 40 [.slice j31a1 j31.1.length j31c1, .slice j31a3 j31.2.1.length j31c3, .slice j31a5 j31.2.2.1.length j31c5, .slice j31a7 j31.2.2.2.1.length j31c7, .int .i64 0, .int .i64 0, .int .i64 0, .slice j31a9 j31.2.2.2.2.1.length j31c9, .slice j31a11 j31.2.2.2.2.2.length j31c11, .int .i64 0, .int .i64 0, .int .i64 0, .int .i64 0, .int .i64 0, .int .i64 0, .int .i64 0], sl j31a1 j31c1 j31.1, sl j31a3 j31c3 j31.2.1, sl j31a5 j31c5 j31.2.2.1, sl j31a7 j31c7 j31.2.2.2.1, sl j31a9 j31c9 j31.2.2.2.2.1, sl j31a11 j31c11 j31.2.2.2.2.2]) ?_ ?_
  · have h := hj31
    refine CW.draw (by kernel_rfl) ?_
    have hS18 := hS17.drew
    refine go ?_
    replace ⟨y33, hy33, h⟩ := obind h
    refine AW.all (rs := [2, 8]) (by kernel_rfl) (by simp) ⟨?_, ?_, trivial⟩
    · have q := W_i_copyLabel (w0 := w30.drew) hy33 rfl (hS18.rB hr0_0)
      refine ⟨_, rfl, ?_⟩
      refine LW.call pl38 rfl rfl ?_
      refine Ret.mono q ?_
      rintro _ w44 ⟨a42, c43, rfl, hs⟩
      have hS19 := hS18.add hs
      refine LW.nil ⟨rfl, (.c (St.cell (h := hS19) (i := 6) rfl) (.w (by kernel_rfl) Kept.n)), ?_⟩
      replace ⟨y45, hy45, h⟩ := obind h
      refine AW.all (rs := [5, 8]) (by kernel_rfl) (by simp) ⟨?_, ?_, trivial⟩
      · have q := W_i_copyInts (w0 := w44) hy45 rfl (hS19.rB hr0_1)
        refine ⟨_, rfl, ?_⟩
        refine LW.call pl39 rfl rfl ?_
        refine Ret.mono q ?_
        rintro _ w56 ⟨a54, c55, rfl, hs⟩
        have hS20 := hS19.add hs
        refine LW.nil ⟨rfl, (.w (by kernel_rfl) (.c (St.cell (h := hS20) (i := 7) rfl) Kept.n)), ?_⟩
        refine AW.u (i := 7) rfl (by kernel_rfl) rfl rfl (Pur.build (vs := [(0, .agg #[.slice a42 y33.levels.length c43]), (1, .slice a54 y45.length c55), (2, .slice a6 y5.1.length c7)]) (cs := #[.slice a42 y33.levels.length c43, .slice a54 y45.length c55, .slice a6 y5.1.length c7, .slice none 0 0, .int .i64 0, .int .i64 0, .int .i64 0, .slice none 0 0, .slice none 0 0, .int .i64 0, .int .i64 0, .int .i64 0, .int .i64 0, .int .i64 0, .int .i64 0, .int .i64 0]) rfl (by kernel_rfl)) ?_
        refine AW.one (i := 8) (by kernel_rfl) ?_
        refine ⟨_, rfl, ?_⟩
        refine LW.al hS20 fun g57 w58 hS21 => ?_
        refine LW.nil ⟨rfl, (.c (St.cell (h := hS21) (i := 8) rfl) (.c (St.cell (h := hS21) (i := 8) rfl) Kept.n)), ?_⟩
        refine AW.one (i := 9) (by kernel_rfl) ?_
        refine ⟨_, rfl, ?_⟩
        refine LW.st hS21 0 fun w59 hS22 => ?_
        refine LW.nil ⟨rfl, (.w (by kernel_rfl) (.w (by kernel_rfl) Kept.n)), ?_⟩
        refine go ?_
        have hS23 := hS22.nil (α := DObj)
        have hS24 := hS23.nil (α := Int)
        have hS25 := hS24.nil (α := DTap)
        cases oi h
        exact ⟨g57, a42, c43, a54, c55, a6, c7, none, 0, none, 0, none, 0, ⟨rfl, rfl, rfl, rfl, trivial⟩, hS25.pick [6, 10, 3, 5, 4, 9, 2, 1, 0] rfl rfl⟩
      refine ⟨_, rfl, ?_⟩
      refine LW.al hS19 fun g60 w61 hS26 => ?_
      refine LW.nil ⟨rfl, (.c (St.cell (h := hS26) (i := 7) rfl) (.c (St.cell (h := hS26) (i := 7) rfl) Kept.n)), ?_⟩
      have q := W_i_copyInts (w0 := w61) hy45 rfl (hS26.rB hr0_1)
      refine AW.one (i := 5) (by kernel_rfl) ?_
      refine ⟨_, rfl, ?_⟩
      refine LW.call pl39 rfl rfl ?_
      refine Ret.mono q ?_
      rintro _ w64 ⟨a62, c63, rfl, hs⟩
      have hS27 := hS26.add hs
      refine LW.nil ⟨rfl, (.w (by kernel_rfl) (.c (St.cell (h := hS27) (i := 8) rfl) Kept.n)), ?_⟩
      refine AW.u (i := 7) rfl (by kernel_rfl) rfl rfl (Pur.build (vs := [(0, .agg #[.slice a42 y33.levels.length c43]), (1, .slice a62 y45.length c63), (2, .slice a6 y5.1.length c7)]) (cs := #[.slice a42 y33.levels.length c43, .slice a62 y45.length c63, .slice a6 y5.1.length c7, .slice none 0 0, .int .i64 0, .int .i64 0, .int .i64 0, .slice none 0 0, .slice none 0 0, .int .i64 0, .int .i64 0, .int .i64 0, .int .i64 0, .int .i64 0, .int .i64 0, .int .i64 0]) rfl (by kernel_rfl)) ?_
      refine AW.one (i := 9) (by kernel_rfl) ?_
      refine ⟨_, rfl, ?_⟩
      refine LW.st hS27 1 fun w65 hS28 => ?_
      refine LW.nil ⟨rfl, (.w (by kernel_rfl) (.w (by kernel_rfl) Kept.n)), ?_⟩
      refine go ?_
      have hS29 := hS28.nil (α := DObj)
      have hS30 := hS29.nil (α := Int)
      have hS31 := hS30.nil (α := DTap)
      cases oi h
      exact ⟨g60, a42, c43, a62, c63, a6, c7, none, 0, none, 0, none, 0, ⟨rfl, rfl, rfl, rfl, trivial⟩, hS31.pick [6, 10, 4, 5, 3, 9, 2, 1, 0] rfl rfl⟩
    refine ⟨_, rfl, ?_⟩
    refine LW.al hS18 fun g66 w67 hS32 => ?_
    refine LW.nil ⟨rfl, (.c (St.cell (h := hS32) (i := 6) rfl) (.c (St.cell (h := hS32) (i := 6) rfl) Kept.n)), ?_⟩
    have q := W_i_copyLabel (w0 := w67) hy33 rfl (hS32.rB hr0_0)
    refine AW.one (i := 2) (by kernel_rfl) ?_
    refine ⟨_, rfl, ?_⟩
    refine LW.call pl38 rfl rfl ?_
    refine Ret.mono q ?_
    rintro _ w70 ⟨a68, c69, rfl, hs⟩
    have hS33 := hS32.add hs
    refine LW.nil ⟨rfl, (.c (St.cell (h := hS33) (i := 7) rfl) (.w (by kernel_rfl) Kept.n)), ?_⟩
    replace ⟨y71, hy71, h⟩ := obind h
    have q := W_i_copyInts (w0 := w70) hy71 rfl (hS33.rB hr0_1)
    refine AW.one (i := 5) (by kernel_rfl) ?_
    refine ⟨_, rfl, ?_⟩
    refine LW.call pl39 rfl rfl ?_
    refine Ret.mono q ?_
    rintro _ w74 ⟨a72, c73, rfl, hs⟩
    have hS34 := hS33.add hs
    refine LW.nil ⟨rfl, (.w (by kernel_rfl) (.c (St.cell (h := hS34) (i := 8) rfl) Kept.n)), ?_⟩
    refine AW.u (i := 7) rfl (by kernel_rfl) rfl rfl (Pur.build (vs := [(0, .agg #[.slice a68 y33.levels.length c69]), (1, .slice a72 y71.length c73), (2, .slice a6 y5.1.length c7)]) (cs := #[.slice a68 y33.levels.length c69, .slice a72 y71.length c73, .slice a6 y5.1.length c7, .slice none 0 0, .int .i64 0, .int .i64 0, .int .i64 0, .slice none 0 0, .slice none 0 0, .int .i64 0, .int .i64 0, .int .i64 0, .int .i64 0, .int .i64 0, .int .i64 0, .int .i64 0]) rfl (by kernel_rfl)) ?_
    refine AW.one (i := 9) (by kernel_rfl) ?_
    refine ⟨_, rfl, ?_⟩
    refine LW.st hS34 2 fun w75 hS35 => ?_
    refine LW.nil ⟨rfl, (.w (by kernel_rfl) (.w (by kernel_rfl) Kept.n)), ?_⟩
    refine go ?_
    have hS36 := hS35.nil (α := DObj)
    have hS37 := hS36.nil (α := Int)
    have hS38 := hS37.nil (α := DTap)
    cases oi h
    exact ⟨g66, a68, c69, a72, c73, a6, c7, none, 0, none, 0, none, 0, ⟨rfl, rfl, rfl, rfl, trivial⟩, hS38.pick [6, 10, 5, 4, 3, 9, 2, 1, 0] rfl rfl⟩
  rintro e w76 ⟨j31g8, j31a1, j31c1, j31a3, j31c3, j31a5, j31c5, j31a7, j31c7, j31a9, j31c9, j31a11, j31c11, hE, hS39⟩
  obtain ⟨e, rfl⟩ := hE.out
  have h := h32
  refine go ?_
  replace ⟨y77, hy77, h⟩ := obind h
  refine LW.cl (W_i_GcNew hy77) ?_
  rintro _ w80 ⟨a78, c79, rfl, hs⟩
  have hS40 := hS39.add hs
  refine LW.u (Pur.build (vs := [(0, .slice a28 y27.1.length c29), (1, .agg #[.int .i64 y77.phase, .int .i64 y77.pos, .int .i64 y77.round, .slice a78 y77.grey.length c79])]) (cs := #[.slice a28 y27.1.length c29, .int .i64 y77.phase, .int .i64 y77.pos, .int .i64 y77.round, .slice a78 y77.grey.length c79]) rfl (by kernel_rfl)) rfl ?_
  refine go ?_
  replace ⟨y81, hy81, h⟩ := obind h
  refine LW.cl (W_i_GcBorn hy81 rfl (hS40.rI 1 rfl) rfl (hS40.rI 0 rfl)) ?_
  rintro _ w86 ⟨a82, c83, a84, c85, rfl, hs⟩
  have hS41 := hS40.add hs
  refine go ?_
  refine LW.fl [2, 8, 49, 50] fun e => ?_
  refine LW.st hS41 5 fun w87 hS42 => ?_
  refine go ?_
  refine LW.st hS42 4 fun w88 hS43 => ?_
  refine go ?_
  cases h
  exact And.intro trivial ⟨_, Res.two (resOne.b hS43 4 rfl ag40 rfl rfl) (resOne.t rfl), j31a1, j31c1, j31a3, j31c3, j31a5, j31c5, a82, c83, a84, c85, j31a11, j31c11, rfl, hS43.pick [6, 7, 8, 0, 1, 11] rfl rfl⟩

theorem W_i_Threads {w0 : World} {N : Nat} {x0 : DPart} {x1 : Int} {r : (List Int)} (h : F_i_Threads N x0 x1 = some r) {a0_0 : Option Addr} {n0_0 c0_0 : Nat} (hn0_0 : n0_0 = x0.label.levels.length) (hr0_0 : rdS (Bor w0 []) w0 a0_0 c0_0 x0.label.levels) {a0_1 : Option Addr} {n0_1 c0_1 : Nat} (hn0_1 : n0_1 = x0.own.length) (hr0_1 : rdS (Bor w0 []) w0 a0_1 c0_1 x0.own) {a0_2 : Option Addr} {n0_2 c0_2 : Nat} (hn0_2 : n0_2 = x0.tree.length) (hr0_2 : rdS (Bor w0 []) w0 a0_2 c0_2 x0.tree) {a0_3 : Option Addr} {n0_3 c0_3 : Nat} (hn0_3 : n0_3 = x0.heap.arena.length) (hr0_3 : rdS (Bor w0 []) w0 a0_3 c0_3 x0.heap.arena) {a0_7 : Option Addr} {n0_7 c0_7 : Nat} (hn0_7 : n0_7 = x0.heap.gc.grey.length) (hr0_7 : rdS (Bor w0 []) w0 a0_7 c0_7 x0.heap.gc.grey) {a0_8 : Option Addr} {n0_8 c0_8 : Nat} (hn0_8 : n0_8 = x0.taps.length) (hr0_8 : rdS (Bor w0 []) w0 a0_8 c0_8 x0.taps) :
    Ret Try.prog 15 #[.agg #[.slice a0_0 n0_0 c0_0, .slice a0_1 n0_1 c0_1, .slice a0_2 n0_2 c0_2, .slice a0_3 n0_3 c0_3, .int .i64 x0.heap.gc.phase, .int .i64 x0.heap.gc.pos, .int .i64 x0.heap.gc.round, .slice a0_7 n0_7 c0_7, .slice a0_8 n0_8 c0_8, .int .i64 x0.next, .int .i64 x0.want, .int .i64 x0.spent.pages, .int .i64 x0.spent.rent, .int .i64 x0.spent.cpu, .int .i64 x0.press, .int .i64 x0.lost], .int .i64 x1] w0 (fun v w => ∃ ar0 cr0, v = .slice ar0 r.length cr0 ∧ St w0 [] w [sl ar0 cr0 r]) := by
  subst hn0_0 hn0_1 hn0_2 hn0_3 hn0_7 hn0_8
  unfold F_i_Threads at h
  refine Ret.fn Try.func15 fun e => ?_
  have hS1 := St.start w0
  refine go ?_
  refine LW.bo hS1 fun g1 w2 hS2 => ?_
  refine go ?_
  refine LW.bsl (α := Int) (vs := []) (cs := #[]) (l := ([] : List Int)) rfl (by kernel_rfl) rfl rfl rfl (fun w => rfl) hS2 rfl ?_
  intro a3 c4 w5 hS3 hf
  refine go ?_
  replace ⟨y6, hy6, h⟩ := obind h
  refine LW.c0 (W_i_PartOk hy6 rfl (hS3.rB hr0_0) rfl (hS3.rB hr0_1) rfl (hS3.rB hr0_2) rfl (hS3.rB hr0_3) rfl (hS3.rB hr0_7) rfl (hS3.rB hr0_8)) hS3 fun w7 hS4 => ?_
  refine go ?_
  refine cd (fun hc8 => ?_) fun hc8 => ?_
  · replace h := bcT h hc8
    refine go ?_
    cases h
    exact And.intro trivial ⟨_, Res.one (resOne.t rfl), a3, c4, rfl, hS4.pick [0] rfl rfl⟩
  replace h := bcF h hc8
  refine go ?_
  replace ⟨y9, hy9, h⟩ := obind h
  refine LW.cl (W_i_Reach hy9 rfl (hS4.rB hr0_3)) ?_
  rintro _ w12 ⟨a10, c11, rfl, hs⟩
  have hS5 := hS4.add hs
  refine go ?_
  obtain ⟨o57, ho57, h58⟩ := obind h
  refine CW.mono (CW.iter (σ := (List Int) × Int) (ρ := (List Int) × Int) (fun s13 e wb => ∃ (s13a0 : Option Addr), ∃ (s13c0 : Nat), En e [(2, .pointer (some ⟨g1, 0, none⟩)), (5, .slice s13a0 s13.1.length s13c0), (17, .slice a10 y9.length c11), (18, .int .i64 (y9.length : Int)), (19, .int .i64 s13.2)] ∧ St w0 [] wb [sl a10 c11 y9, sl s13a0 s13c0 s13.1, bx g1 40 [.slice a0_0 x0.label.levels.length c0_0, .slice a0_1 x0.own.length c0_1, .slice a0_2 x0.tree.length c0_2, .slice a0_3 x0.heap.arena.length c0_3, .int .i64 x0.heap.gc.phase, .int .i64 x0.heap.gc.pos, .int .i64 x0.heap.gc.round, .slice a0_7 x0.heap.gc.grey.length c0_7, .slice a0_8 x0.taps.length c0_8, .int .i64 x0.next, .int .i64 x0.want, .int .i64 x0.spent.pages, .int .i64 x0.spent.rent, .int .i64 x0.spent.cpu, .int .i64 x0.press, .int .i64 x0.lost]]) (fun s13 x e wb => x = .exit 0 ∧ ∃ (s13a0 : Option Addr), ∃ (s13c0 : Nat), En e [(5, .slice s13a0 s13.1.length s13c0)] ∧ St w0 [] wb [sl a10 c11 y9, sl s13a0 s13c0 s13.1, bx g1 40 [.slice a0_0 x0.label.levels.length c0_0, .slice a0_1 x0.own.length c0_1, .slice a0_2 x0.tree.length c0_2, .slice a0_3 x0.heap.arena.length c0_3, .int .i64 x0.heap.gc.phase, .int .i64 x0.heap.gc.pos, .int .i64 x0.heap.gc.round, .slice a0_7 x0.heap.gc.grey.length c0_7, .slice a0_8 x0.taps.length c0_8, .int .i64 x0.next, .int .i64 x0.want, .int .i64 x0.spent.pages, .int .i64 x0.spent.rent, .int .i64 x0.spent.cpu, .int .i64 x0.press, .int .i64 x0.lost]]) ?_ N (([] : List Int), 0) _ _ _ ⟨a3, c4, ⟨rfl, rfl, rfl, rfl, rfl, trivial⟩, hS5.pick [0, 1, 2] rfl rfl⟩ ho57) ?_
  · intro s13 e w14 o hM h
    obtain ⟨s13a0, s13c0, hE, hS6⟩ := hM
    obtain ⟨e, rfl⟩ := hE.out
    refine go ?_
    refine CW.fl [2, 5, 17, 18, 19, 20] fun e => ?_
    refine cd (fun hc15 => ?_) fun hc15 => ?_
    · replace h := bcT h hc15
      refine go ?_
      replace ⟨y16, hy16, h⟩ := obind h
      obtain ⟨b19, o20, hae, hp17, hq18⟩ := hS6.ownIdx (α := Bool) (i := 0) rfl hy16
      subst hae
      refine LW.u (Pur.ix Try.underlying96 sz4 rfl rfl hp17 hq18) rfl ?_
      obtain ⟨F21, ho22, hS7⟩ := hS6.freeze (α := Bool) 0 rfl
      obtain ⟨b23, o24, cs25, hae, hb28, _, _, hd26, hk27⟩ := ho22.rdF.idx hy16
      cases hae
      obtain rfl := hd26
      refine LW.l (Ldr.old w14 ag4 rfl (hk27 0 _ rfl)) (hS7.zC 0 rfl hb28) rfl ?_
      refine gs ?_
      obtain ⟨j29, hj29, h30⟩ := obind h
      refine CW.jn [2, 5, 6, 17, 18, 19] [0, 1, 2] [(34, .bool j29)] hS7 (h1 := ?_) (h2 := ?_)
      · have h := hj29
        refine go ?_
        rcases bcases y16 with hc31 | hc31
        · replace h := bcT h hc31
          refine go ?_
          replace ⟨y32, hy32, h⟩ := obind h
          obtain ⟨b35, o36, cs37, hae, hb40, hp33, hq34, hd38, hk39⟩ := hr0_3.idx hy32
          subst hae
          obtain ⟨a41, c42, a44, c45, a47, c48, rfl, hr43, hr46, hr49⟩ := hd38
          refine go ?_
          refine LW.u (Pur.ix Try.underlying33 sz84 rfl rfl hp33 hq34) rfl ?_
          refine go ?_
          refine LW.l (Ldr.old w0 ag3 rfl (hk39 1 _ rfl)) (hS7.same _ hb40.1 hb40.2) rfl ?_
          refine go ?_
          cases oi h
          exact ⟨⟨rfl, rfl, rfl, rfl, rfl, rfl, rfl, trivial⟩, hS7.pick [0, 1, 2] rfl rfl⟩
        replace h := bcF h hc31
        refine go ?_
        cases oi h
        exact ⟨⟨rfl, rfl, rfl, rfl, rfl, rfl, rfl, trivial⟩, hS7.pick [0, 1, 2] rfl rfl⟩
      intro e w50 hS8
      have h := h30
      refine go ?_
      refine cd (fun hc51 => ?_) fun hc51 => ?_
      · replace h := bcT h hc51
        refine go ?_
        replace ⟨y52, hy52, h⟩ := obind h
        refine LW.app1 (M := []) (L := [fz w14 F21, sl s13a0 s13c0 s13.1, bx g1 40 [.slice a0_0 x0.label.levels.length c0_0, .slice a0_1 x0.own.length c0_1, .slice a0_2 x0.tree.length c0_2, .slice a0_3 x0.heap.arena.length c0_3, .int .i64 x0.heap.gc.phase, .int .i64 x0.heap.gc.pos, .int .i64 x0.heap.gc.round, .slice a0_7 x0.heap.gc.grey.length c0_7, .slice a0_8 x0.taps.length c0_8, .int .i64 x0.next, .int .i64 x0.want, .int .i64 x0.spent.pages, .int .i64 x0.spent.rent, .int .i64 x0.spent.cpu, .int .i64 x0.press, .int .i64 x0.lost]]) (vs := #[.int .i64 s13.2]) (i := 1) sT24 rfl (by kernel_rfl) rfl rfl hy52 hS8 rfl (fun w G hG => by cases (show G = [] from hG); exact ⟨rfl, rfl⟩) rfl rfl ?_
        intro v55 a53 c54 w56 hS9 hf
        refine go ?_
        have hS10 := hS9.thaw (α := Bool) 0 rfl ho22
        cases oi h
        exact ⟨rfl, ⟨a53, c54, ⟨rfl, rfl, rfl, rfl, rfl, trivial⟩, hS10.pick [0, 1, 2] rfl rfl⟩⟩
      replace h := bcF h hc51
      refine go ?_
      have hS11 := hS8.thaw (α := Bool) 0 rfl ho22
      cases oi h
      exact ⟨rfl, ⟨s13a0, s13c0, ⟨rfl, rfl, rfl, rfl, rfl, trivial⟩, hS11.pick [0, 1, 2] rfl rfl⟩⟩
    replace h := bcF h hc15
    refine go ?_
    cases oi h
    exact ⟨trivial, rfl, ⟨s13a0, s13c0, ⟨rfl, trivial⟩, hS6.pick [0, 1, 2] rfl rfl⟩⟩
  intro x e w59 hM
  obtain ⟨rfl, hM⟩ := hM
  obtain ⟨s13a0, s13c0, hE, hS12⟩ := hM
  obtain ⟨e, rfl⟩ := hE.out
  have h := h58
  refine go ?_
  cases h
  exact And.intro trivial ⟨_, Res.one (resOne.t rfl), s13a0, s13c0, rfl, hS12.pick [1] rfl rfl⟩

theorem W_i_CanCall {w0 : World} {N : Nat} {x0 : DPart} {x1 : Int} {x2 : Int} {r : Bool} (h : F_i_CanCall N x0 x1 x2 = some r) {a0_0 : Option Addr} {n0_0 c0_0 : Nat} (hn0_0 : n0_0 = x0.label.levels.length) (hr0_0 : rdS (Bor w0 []) w0 a0_0 c0_0 x0.label.levels) {a0_1 : Option Addr} {n0_1 c0_1 : Nat} (hn0_1 : n0_1 = x0.own.length) (hr0_1 : rdS (Bor w0 []) w0 a0_1 c0_1 x0.own) {a0_2 : Option Addr} {n0_2 c0_2 : Nat} (hn0_2 : n0_2 = x0.tree.length) (hr0_2 : rdS (Bor w0 []) w0 a0_2 c0_2 x0.tree) {a0_3 : Option Addr} {n0_3 c0_3 : Nat} (hn0_3 : n0_3 = x0.heap.arena.length) (hr0_3 : rdS (Bor w0 []) w0 a0_3 c0_3 x0.heap.arena) {a0_7 : Option Addr} {n0_7 c0_7 : Nat} (hn0_7 : n0_7 = x0.heap.gc.grey.length) (hr0_7 : rdS (Bor w0 []) w0 a0_7 c0_7 x0.heap.gc.grey) {a0_8 : Option Addr} {n0_8 c0_8 : Nat} (hn0_8 : n0_8 = x0.taps.length) (hr0_8 : rdS (Bor w0 []) w0 a0_8 c0_8 x0.taps) :
    Ret Try.prog 16 #[.agg #[.slice a0_0 n0_0 c0_0, .slice a0_1 n0_1 c0_1, .slice a0_2 n0_2 c0_2, .slice a0_3 n0_3 c0_3, .int .i64 x0.heap.gc.phase, .int .i64 x0.heap.gc.pos, .int .i64 x0.heap.gc.round, .slice a0_7 n0_7 c0_7, .slice a0_8 n0_8 c0_8, .int .i64 x0.next, .int .i64 x0.want, .int .i64 x0.spent.pages, .int .i64 x0.spent.rent, .int .i64 x0.spent.cpu, .int .i64 x0.press, .int .i64 x0.lost], .int .i64 x1, .int .i64 x2] w0 (fun v w => v = .bool r ∧ St w0 [] w []) := by
  subst hn0_0 hn0_1 hn0_2 hn0_3 hn0_7 hn0_8
  unfold F_i_CanCall at h
  refine Ret.fn Try.func16 fun e => ?_
  have hS1 := St.start w0
  refine go ?_
  refine LW.bo hS1 fun g1 w2 hS2 => ?_
  refine go ?_
  replace ⟨y3, hy3, h⟩ := obind h
  refine LW.cl (W_i_Threads hy3 rfl (hS2.rB hr0_0) rfl (hS2.rB hr0_1) rfl (hS2.rB hr0_2) rfl (hS2.rB hr0_3) rfl (hS2.rB hr0_7) rfl (hS2.rB hr0_8)) ?_
  rintro _ w6 ⟨a4, c5, rfl, hs⟩
  have hS3 := hS2.add hs
  refine go ?_
  replace ⟨y7, hy7, h⟩ := obind h
  refine LW.c0 (W_z_Contains_int hy7 rfl (hS3.rI 0 rfl)) hS3 fun w8 hS4 => ?_
  refine go ?_
  rcases bcases y7 with hc9 | hc9
  · replace h := bcT h hc9
    refine go ?_
    replace ⟨y10, hy10, h⟩ := obind h
    obtain ⟨b13, o14, cs15, hae, hb18, hp11, hq12, hd16, hk17⟩ := hr0_3.idx hy10
    subst hae
    obtain ⟨a19, c20, a22, c23, a25, c26, rfl, hr21, hr24, hr27⟩ := hd16
    refine go ?_
    refine LW.u (Pur.ix Try.underlying33 sz84 rfl rfl hp11 hq12) rfl ?_
    refine go ?_
    refine LW.l (Ldr.old w0 ag3 rfl (hk17 6 _ rfl)) (hS4.same _ hb18.1 hb18.2) rfl ?_
    refine go ?_
    cases h
    exact fi hS4
  replace h := bcF h hc9
  refine go ?_
  cases h
  exact fi hS4

end Go.Kx
