/- Each call returns what the plain function says. Printed by drive.py. -/
import Derived.Test.YtdjpppkdngmeaaaFa
import Derived.Test.YtdjpppkdngmeaaaPu
import Derived.Test.YtdjpppkdngmeaaaWa1
import Derived.Test.YtdjpppkdngmeaaaWa11
import Derived.Test.YtdjpppkdngmeaaaWa22
namespace Go.Kx
open Go Go.RowKit Go.Proofs
set_option maxRecDepth 10000
set_option maxHeartbeats 2000000
set_option linter.unusedVariables false
set_option linter.unusedSimpArgs false
theorem W_l_FnExactPartNew {w0 : World} {N : Nat} {x0 : DBoot} {r : Bool} (h : F_l_FnExactPartNew N x0 = some r) {a0_0 : Option Addr} {n0_0 c0_0 : Nat} (hn0_0 : n0_0 = x0.label.levels.length) (hr0_0 : rdS (Bor w0 []) w0 a0_0 c0_0 x0.label.levels) {a0_1 : Option Addr} {n0_1 c0_1 : Nat} (hn0_1 : n0_1 = x0.own.length) (hr0_1 : rdS (Bor w0 []) w0 a0_1 c0_1 x0.own) :
    Ret Try.prog 9 #[.agg #[.slice a0_0 n0_0 c0_0, .slice a0_1 n0_1 c0_1, .int .i64 x0.amt.pages, .int .i64 x0.amt.rent, .int .i64 x0.amt.cpu]] w0 (fun v w => v = .bool r ∧ St w0 [] w []) := by
  subst hn0_0
  subst hn0_1
  unfold F_l_FnExactPartNew at h
  refine Ret.of Try.func9 rfl rfl rfl ?_
  have hS1 := St.start w0
  refine CW.seq ?_
  refine CW.region ?_
  refine LW.box (cs := [.slice a0_0 x0.label.levels.length c0_0, .slice a0_1 x0.own.length c0_1, .int .i64 x0.amt.pages, .int .i64 x0.amt.rent, .int .i64 x0.amt.cpu]) rfl hS1 rfl ?_
  intro g1 w2 hS2 hf
  refine LW.p rfl rfl ?_
  refine LW.nil ?_
  show CW _ _ _ _ _ _
  refine CW.seq ?_
  refine CW.region ?_
  refine LW.p rfl rfl ?_
  refine LW.nil ?_
  show CW _ _ _ _ _ _
  refine CW.seq ?_
  refine CW.region ?_
  refine LW.ldbN hS2 0 rfl ag89 rfl rfl rfl ?_
  refine LW.p rfl rfl ?_
  replace h := obind h
  obtain ⟨y3, hy3, h⟩ := h
  have q := W_l_szPartBoot (w0 := w2) hy3 rfl (hS2.rB hr0_0) rfl (hS2.rB hr0_1)
  refine LW.call pl46 rfl rfl ?_
  refine Ret.mono q ?_
  rintro _ w4 ⟨rfl, hs⟩
  have hS3 := hS2.add hs
  refine LW.p rfl rfl ?_
  refine LW.nil ?_
  show CW _ _ _ _ _ _
  refine CW.seq ?_
  refine CW.seq ?_
  refine CW.region ?_
  iterate 2 refine LW.p rfl rfl ?_
  refine LW.nil ?_
  show CW _ _ _ _ _ _
  refine CW.cond rfl (fun hc5 => ?_) (fun hc5 => ?_)
  · replace h := bcT h hc5
    refine CW.seq ?_
    refine CW.region ?_
    refine LW.p rfl rfl ?_
    refine LW.nil ?_
    show CW _ _ _ _ _ _
    refine CW.ret ?_
    cases h
    exact And.intro trivial ⟨_, Res.one (resOne.t rfl), rfl, hS3.pick [] rfl rfl⟩
  replace h := bcF h hc5
  refine CW.skip ?_
  show CW _ _ _ _ _ _
  refine CW.seq ?_
  refine CW.region ?_
  refine LW.ldbN hS3 0 rfl ag89 rfl rfl rfl ?_
  replace h := obind h
  obtain ⟨y6, hy6, h⟩ := h
  have q := W_l_toPartBoot (w0 := w4) hy6 rfl (hS3.rB hr0_0) rfl (hS3.rB hr0_1)
  refine LW.call pl48 rfl rfl ?_
  refine Ret.mono q ?_
  rintro _ w11 ⟨a7, c8, a9, c10, rfl, hs⟩
  have hS4 := hS3.add hs
  replace h := obind h
  obtain ⟨y12, hy12, h⟩ := h
  have q := W_s_PartNew (w0 := w11) hy12 rfl (hS4.rI 0 rfl) rfl (hS4.rI 1 rfl)
  refine LW.call pl47 rfl rfl ?_
  refine Ret.mono q ?_
  rintro _ w25 ⟨a13, c14, a15, c16, a17, c18, a19, c20, a21, c22, a23, c24, rfl, hs⟩
  have hS5 := hS4.add hs
  iterate 3 refine LW.p rfl rfl ?_
  refine LW.alloc zv75 hS5 rfl ?_
  intro g26 w27 hS6 hf
  refine LW.stb hS6 0 rfl ag75 rfl rfl rfl rfl rfl ?_
  intro w28 hS7 hf
  refine LW.p rfl rfl ?_
  refine LW.nil ?_
  show CW _ _ _ _ _ _
  refine CW.fresh (l := [(1, .pointer (some ⟨g1, 0, none⟩)), (4, .pointer (some ⟨g26, 0, none⟩)), (5, .bool y12.2)]) ⟨rfl, rfl, rfl, trivial⟩ (fun e => ?_)
  refine CW.seq ?_
  refine CW.region ?_
  refine LW.ldbN hS7 9 rfl ag89 rfl rfl rfl ?_
  replace h := obind h
  obtain ⟨y29, hy29, h⟩ := h
  have q := W_l_toPartBoot (w0 := w28) hy29 rfl (hS7.rB hr0_0) rfl (hS7.rB hr0_1)
  refine LW.call pl48 rfl rfl ?_
  refine Ret.mono q ?_
  rintro _ w34 ⟨a30, c31, a32, c33, rfl, hs⟩
  have hS8 := hS7.add hs
  refine LW.alloc zv94 hS8 rfl ?_
  intro g35 w36 hS9 hf
  refine LW.stb hS9 0 rfl ag94 rfl rfl rfl rfl rfl ?_
  intro w37 hS10 hf
  refine LW.nil ?_
  show CW _ _ _ _ _ _
  refine CW.seq ?_
  refine CW.region ?_
  refine LW.ldbN hS10 0 rfl ag94 rfl rfl rfl ?_
  replace h := obind h
  obtain ⟨y38, hy38, h⟩ := h
  have q := W_i_PartNew (w0 := w37) hy38 rfl (hS10.rI 1 rfl) rfl (hS10.rI 2 rfl)
  refine LW.call pl49 rfl rfl ?_
  refine Ret.mono q ?_
  rintro _ w51 ⟨a39, c40, a41, c42, a43, c44, a45, c46, a47, c48, a49, c50, rfl, hs⟩
  have hS11 := hS10.add hs
  iterate 3 refine LW.p rfl rfl ?_
  refine LW.alloc zv75 hS11 rfl ?_
  intro g52 w53 hS12 hf
  refine LW.stb hS12 0 rfl ag75 rfl rfl rfl rfl rfl ?_
  intro w54 hS13 hf
  refine LW.p rfl rfl ?_
  refine LW.nil ?_
  show CW _ _ _ _ _ _
  refine CW.seq ?_
  refine CW.seq ?_
  obtain ⟨j55, hj55, h56⟩ := obind h
  refine CW.cut (fun e wb => En e [(1, .pointer (some ⟨g1, 0, none⟩)), (4, .pointer (some ⟨g26, 0, none⟩)), (5, .bool y12.2), (6, .pointer (some ⟨g35, 0, none⟩)), (7, .pointer (some ⟨g52, 0, none⟩)), (8, .bool y38.2), (40, .bool j55)] ∧ St w0 [] wb [bx g52 75 [.slice a39 y38.1.label.levels.length c40, .slice a41 y38.1.own.length c42, .slice a43 y38.1.tree.length c44, .slice a45 y38.1.heap.arena.length c46, .int .i64 y38.1.heap.gc.phase, .int .i64 y38.1.heap.gc.pos, .int .i64 y38.1.heap.gc.round, .slice a47 y38.1.heap.gc.grey.length c48, .slice a49 y38.1.taps.length c50, .int .i64 y38.1.next, .int .i64 y38.1.want, .int .i64 y38.1.spent.pages, .int .i64 y38.1.spent.rent, .int .i64 y38.1.spent.cpu, .int .i64 y38.1.press, .int .i64 y38.1.lost], sl a39 c40 y38.1.label.levels, sl a41 c42 y38.1.own, sl a43 c44 y38.1.tree, sl a45 c46 y38.1.heap.arena, sl a47 c48 y38.1.heap.gc.grey, sl a49 c50 y38.1.taps, bx g35 94 [.slice a30 y29.label.levels.length c31, .slice a32 y29.own.length c33, .int .i64 y29.amt.pages, .int .i64 y29.amt.rent, .int .i64 y29.amt.cpu], sl a30 c31 y29.label.levels, sl a32 c33 y29.own, bx g26 75 [.slice a13 y12.1.label.levels.length c14, .slice a15 y12.1.own.length c16, .slice a17 y12.1.tree.length c18, .slice a19 y12.1.heap.arena.length c20, .int .i64 y12.1.heap.gc.phase, .int .i64 y12.1.heap.gc.pos, .int .i64 y12.1.heap.gc.round, .slice a21 y12.1.heap.gc.grey.length c22, .slice a23 y12.1.taps.length c24, .int .i64 y12.1.next, .int .i64 y12.1.want, .int .i64 y12.1.spent.pages, .int .i64 y12.1.spent.rent, .int .i64 y12.1.spent.cpu, .int .i64 y12.1.press, .int .i64 y12.1.lost], sl a13 c14 y12.1.label.levels, sl a15 c16 y12.1.own, sl a17 c18 y12.1.tree, sl a19 c20 y12.1.heap.arena, sl a21 c22 y12.1.heap.gc.grey, sl a23 c24 y12.1.taps, bx g1 89 [.slice a0_0 x0.label.levels.length c0_0, .slice a0_1 x0.own.length c0_1, .int .i64 x0.amt.pages, .int .i64 x0.amt.rent, .int .i64 x0.amt.cpu]]) ?_ ?_
  · have h := hj55
    refine CW.region ?_
    refine LW.ldbN hS13 0 rfl ag75 rfl rfl rfl ?_
    refine LW.ldbN hS13 10 rfl ag75 rfl rfl rfl ?_
    replace h := obind h
    obtain ⟨y57, hy57, h⟩ := h
    have q := W_l_eqPart (w0 := w54) hy57 rfl (hS13.rI 1 rfl) rfl (hS13.rI 2 rfl) rfl (hS13.rI 3 rfl) rfl (hS13.rI 4 rfl) rfl (hS13.rI 5 rfl) rfl (hS13.rI 6 rfl) rfl (hS13.rI 11 rfl) rfl (hS13.rI 12 rfl) rfl (hS13.rI 13 rfl) rfl (hS13.rI 14 rfl) rfl (hS13.rI 15 rfl) rfl (hS13.rI 16 rfl)
    refine LW.call pl34 rfl rfl ?_
    refine Ret.mono q ?_
    rintro _ w58 ⟨rfl, hs⟩
    have hS14 := hS13.add hs
    iterate 2 refine LW.p rfl rfl ?_
    rcases bcases (!y57) with hc59 | hc59
    · replace h := bcT h hc59
      refine LW.gN (want_not rfl rfl hc59) rfl ?_
      refine LW.gN (want_not rfl rfl hc59) rfl ?_
      refine LW.gN (want_not rfl rfl hc59) rfl ?_
      refine LW.u (Pur.pickT rfl hc59) rfl ?_
      refine LW.nil ?_
      replace h := Option.some.inj h
      subst h
      exact ⟨⟨rfl, rfl, rfl, rfl, rfl, rfl, rfl, trivial⟩, hS14.pick [0, 1, 2, 3, 4, 5, 6, 7, 8, 9, 10, 11, 12, 13, 14, 15, 16, 19] rfl rfl⟩
    replace h := bcF h hc59
    refine LW.gY (want_of rfl rfl hc59) ?_
    refine LW.p rfl rfl ?_
    refine LW.gY (want_of rfl rfl hc59) ?_
    refine LW.p rfl rfl ?_
    refine LW.gY (want_of rfl rfl hc59) ?_
    refine LW.u (Pur.bne Try.underlying4 rfl rfl) rfl ?_
    refine LW.u (Pur.pickF rfl hc59) rfl ?_
    refine LW.nil ?_
    replace h := Option.some.inj h
    subst h
    exact ⟨⟨rfl, rfl, rfl, rfl, rfl, rfl, rfl, trivial⟩, hS14.pick [0, 1, 2, 3, 4, 5, 6, 7, 8, 9, 10, 11, 12, 13, 14, 15, 16, 19] rfl rfl⟩
  intro e w60 hM
  obtain ⟨hE, hS15⟩ := hM
  obtain ⟨e, rfl⟩ := hE.out
  have h := h56
  show CW _ _ _ _ _ _
  refine CW.cond rfl (fun hc61 => ?_) (fun hc61 => ?_)
  · replace h := bcT h hc61
    refine CW.seq ?_
    refine CW.region ?_
    refine LW.p rfl rfl ?_
    refine LW.nil ?_
    show CW _ _ _ _ _ _
    refine CW.fresh (l := [(2, .bool false)]) ⟨rfl, trivial⟩ (fun e => ?_)
    refine CW.ret ?_
    cases h
    exact And.intro trivial ⟨_, Res.one (resOne.t rfl), rfl, hS15.pick [] rfl rfl⟩
  replace h := bcF h hc61
  refine CW.skip ?_
  show CW _ _ _ _ _ _
  refine CW.seq ?_
  refine CW.seq ?_
  refine CW.draw (by kernel_rfl) ?_
  have hS16 := hS15.drew
  refine AW.take (i := 0) rfl (by kernel_rfl) rfl rfl (Ldr.boxN (bt := 94) (fr := (0, 0)) (cs := [.slice a30 y29.label.levels.length c31, .slice a32 y29.own.length c33, .int .i64 y29.amt.pages, .int .i64 y29.amt.rent, .int .i64 y29.amt.cpu]) ag94 rfl rfl) (St.cell (h := hS16) (i := 7) rfl) ?_
  refine AW.take (i := 1) rfl (by kernel_rfl) rfl rfl (Ldr.boxN (bt := 89) (fr := (0, 0)) (cs := [.slice a0_0 x0.label.levels.length c0_0, .slice a0_1 x0.own.length c0_1, .int .i64 x0.amt.pages, .int .i64 x0.amt.rent, .int .i64 x0.amt.cpu]) ag89 rfl rfl) (St.cell (h := hS16) (i := 17) rfl) ?_
  replace h := obind h
  obtain ⟨y62, hy62, h⟩ := h
  have q := W_l_toPartBoot (w0 := w60.drew) hy62 rfl (hS16.rB hr0_0) rfl (hS16.rB hr0_1)
  refine AW.one (i := 2) (by kernel_rfl) ?_
  refine ⟨_, rfl, ?_⟩
  refine LW.call pl48 rfl rfl ?_
  refine Ret.mono q ?_
  rintro _ w67 ⟨a63, c64, a65, c66, rfl, hs⟩
  have hS17 := hS16.add hs
  refine LW.nil ⟨rfl, (.w (by kernel_rfl) (.c (St.cell (h := hS17) (i := 9) rfl) Kept.n)), ?_⟩
  replace h := obind h
  obtain ⟨y68, hy68, h⟩ := h
  have q := W_l_eqPartBoot (w0 := w67) hy68 rfl (hS17.rI 10 rfl) rfl (hS17.rI 11 rfl) rfl (hS17.rI 0 rfl) rfl (hS17.rI 1 rfl)
  refine AW.one (i := 3) (by kernel_rfl) ?_
  refine ⟨_, rfl, ?_⟩
  refine LW.call pl50 rfl rfl ?_
  refine Ret.mono q ?_
  rintro _ w69 ⟨rfl, hs⟩
  have hS18 := hS17.add hs
  refine LW.nil ⟨rfl, (.c (St.cell (h := hS18) (i := 19) rfl) (.w (by kernel_rfl) Kept.n)), ?_⟩
  refine AW.u (i := 4) rfl (by kernel_rfl) rfl rfl (Pur.p rfl) ?_
  refine AW.done (by kernel_rfl) ?_
  show CW _ _ _ _ _ _
  refine CW.cond rfl (fun hc70 => ?_) (fun hc70 => ?_)
  · replace h := bcT h hc70
    refine CW.seq ?_
    refine CW.region ?_
    refine LW.p rfl rfl ?_
    refine LW.nil ?_
    show CW _ _ _ _ _ _
    refine CW.fresh (l := [(2, .bool false)]) ⟨rfl, trivial⟩ (fun e => ?_)
    refine CW.ret ?_
    cases h
    exact And.intro trivial ⟨_, Res.one (resOne.t rfl), rfl, hS18.pick [] rfl rfl⟩
  replace h := bcF h hc70
  refine CW.skip ?_
  show CW _ _ _ _ _ _
  refine CW.seq ?_
  refine CW.region ?_
  refine LW.p rfl rfl ?_
  refine LW.nil ?_
  show CW _ _ _ _ _ _
  refine CW.fresh (l := [(1, .pointer (some ⟨g1, 0, none⟩)), (4, .pointer (some ⟨g26, 0, none⟩)), (5, .bool y12.2), (6, .pointer (some ⟨g35, 0, none⟩)), (7, .pointer (some ⟨g52, 0, none⟩)), (8, .bool y38.2), (9, .int .i64 1)]) ⟨rfl, rfl, rfl, rfl, rfl, rfl, rfl, trivial⟩ (fun e => ?_)
  refine CW.seq ?_
  refine CW.region ?_
  refine LW.ldbN hS18 9 rfl ag94 rfl rfl rfl ?_
  refine LW.p rfl rfl ?_
  replace h := obind h
  obtain ⟨y71, hy71, h⟩ := h
  obtain ⟨q74, hy71', hq75⟩ := obind hy71
  obtain ⟨hl76, hq75⟩ := keepL_some hq75
  obtain ⟨hl77, hq75⟩ := keepL_some hq75
  rw [Option.some.inj hq75] at hy71' hl76 hl77
  have hS19 := hS18.pick (M := [sl a30 c31 y29.label.levels, sl a32 c33 y29.own] ++ [sl a63 c64 y62.label.levels, sl a65 c66 y62.own, bx g52 75 [.slice a39 y38.1.label.levels.length c40, .slice a41 y38.1.own.length c42, .slice a43 y38.1.tree.length c44, .slice a45 y38.1.heap.arena.length c46, .int .i64 y38.1.heap.gc.phase, .int .i64 y38.1.heap.gc.pos, .int .i64 y38.1.heap.gc.round, .slice a47 y38.1.heap.gc.grey.length c48, .slice a49 y38.1.taps.length c50, .int .i64 y38.1.next, .int .i64 y38.1.want, .int .i64 y38.1.spent.pages, .int .i64 y38.1.spent.rent, .int .i64 y38.1.spent.cpu, .int .i64 y38.1.press, .int .i64 y38.1.lost], sl a39 c40 y38.1.label.levels, sl a41 c42 y38.1.own, sl a43 c44 y38.1.tree, sl a45 c46 y38.1.heap.arena, sl a47 c48 y38.1.heap.gc.grey, sl a49 c50 y38.1.taps, bx g35 94 [.slice a30 y29.label.levels.length c31, .slice a32 y29.own.length c33, .int .i64 y29.amt.pages, .int .i64 y29.amt.rent, .int .i64 y29.amt.cpu], bx g26 75 [.slice a13 y12.1.label.levels.length c14, .slice a15 y12.1.own.length c16, .slice a17 y12.1.tree.length c18, .slice a19 y12.1.heap.arena.length c20, .int .i64 y12.1.heap.gc.phase, .int .i64 y12.1.heap.gc.pos, .int .i64 y12.1.heap.gc.round, .slice a21 y12.1.heap.gc.grey.length c22, .slice a23 y12.1.taps.length c24, .int .i64 y12.1.next, .int .i64 y12.1.want, .int .i64 y12.1.spent.pages, .int .i64 y12.1.spent.rent, .int .i64 y12.1.spent.cpu, .int .i64 y12.1.press, .int .i64 y12.1.lost], sl a13 c14 y12.1.label.levels, sl a15 c16 y12.1.own, sl a17 c18 y12.1.tree, sl a19 c20 y12.1.heap.arena, sl a21 c22 y12.1.heap.gc.grey, sl a23 c24 y12.1.taps, bx g1 89 [.slice a0_0 x0.label.levels.length c0_0, .slice a0_1 x0.own.length c0_1, .int .i64 x0.amt.pages, .int .i64 x0.amt.rent, .int .i64 x0.amt.cpu]]) [10, 11, 0, 1, 2, 3, 4, 5, 6, 7, 8, 9, 12, 13, 14, 15, 16, 17, 18, 19] rfl rfl
  obtain ⟨F72, hL73⟩ := St.lend (L := [sl a30 c31 y29.label.levels, sl a32 c33 y29.own]) (M := [sl a63 c64 y62.label.levels, sl a65 c66 y62.own, bx g52 75 [.slice a39 y38.1.label.levels.length c40, .slice a41 y38.1.own.length c42, .slice a43 y38.1.tree.length c44, .slice a45 y38.1.heap.arena.length c46, .int .i64 y38.1.heap.gc.phase, .int .i64 y38.1.heap.gc.pos, .int .i64 y38.1.heap.gc.round, .slice a47 y38.1.heap.gc.grey.length c48, .slice a49 y38.1.taps.length c50, .int .i64 y38.1.next, .int .i64 y38.1.want, .int .i64 y38.1.spent.pages, .int .i64 y38.1.spent.rent, .int .i64 y38.1.spent.cpu, .int .i64 y38.1.press, .int .i64 y38.1.lost], sl a39 c40 y38.1.label.levels, sl a41 c42 y38.1.own, sl a43 c44 y38.1.tree, sl a45 c46 y38.1.heap.arena, sl a47 c48 y38.1.heap.gc.grey, sl a49 c50 y38.1.taps, bx g35 94 [.slice a30 y29.label.levels.length c31, .slice a32 y29.own.length c33, .int .i64 y29.amt.pages, .int .i64 y29.amt.rent, .int .i64 y29.amt.cpu], bx g26 75 [.slice a13 y12.1.label.levels.length c14, .slice a15 y12.1.own.length c16, .slice a17 y12.1.tree.length c18, .slice a19 y12.1.heap.arena.length c20, .int .i64 y12.1.heap.gc.phase, .int .i64 y12.1.heap.gc.pos, .int .i64 y12.1.heap.gc.round, .slice a21 y12.1.heap.gc.grey.length c22, .slice a23 y12.1.taps.length c24, .int .i64 y12.1.next, .int .i64 y12.1.want, .int .i64 y12.1.spent.pages, .int .i64 y12.1.spent.rent, .int .i64 y12.1.spent.cpu, .int .i64 y12.1.press, .int .i64 y12.1.lost], sl a13 c14 y12.1.label.levels, sl a15 c16 y12.1.own, sl a17 c18 y12.1.tree, sl a19 c20 y12.1.heap.arena, sl a21 c22 y12.1.heap.gc.grey, sl a23 c24 y12.1.taps, bx g1 89 [.slice a0_0 x0.label.levels.length c0_0, .slice a0_1 x0.own.length c0_1, .int .i64 x0.amt.pages, .int .i64 x0.amt.rent, .int .i64 x0.amt.cpu]]) hS19
  have q := W_l_markPartBoot (w0 := w69) hy71' rfl rfl hL73.st
  refine LW.call pl51 rfl rfl ?_
  refine Ret.mono q ?_
  rintro _ w78 ⟨rfl, hs⟩
  have hS20 := hL73.back _ _ hs
  refine LW.p rfl rfl ?_
  refine LW.nil ?_
  show CW _ _ _ _ _ _
  refine CW.seq ?_
  refine CW.seq ?_
  rw [show y29.label.levels.length = y71.2.1.length from hl76] at hS20
  rw [show y29.own.length = y71.2.2.length from hl77] at hS20
  obtain ⟨j79, hj79, h80⟩ := obind h
  refine CW.cut (fun e wb => En e [(1, .pointer (some ⟨g1, 0, none⟩)), (4, .pointer (some ⟨g26, 0, none⟩)), (5, .bool y12.2), (7, .pointer (some ⟨g52, 0, none⟩)), (61, .bool j79)] ∧ St w0 [] wb [bx g52 75 [.slice a39 y38.1.label.levels.length c40, .slice a41 y38.1.own.length c42, .slice a43 y38.1.tree.length c44, .slice a45 y38.1.heap.arena.length c46, .int .i64 y38.1.heap.gc.phase, .int .i64 y38.1.heap.gc.pos, .int .i64 y38.1.heap.gc.round, .slice a47 y38.1.heap.gc.grey.length c48, .slice a49 y38.1.taps.length c50, .int .i64 y38.1.next, .int .i64 y38.1.want, .int .i64 y38.1.spent.pages, .int .i64 y38.1.spent.rent, .int .i64 y38.1.spent.cpu, .int .i64 y38.1.press, .int .i64 y38.1.lost], sl a39 c40 y38.1.label.levels, sl a41 c42 y38.1.own, sl a43 c44 y38.1.tree, sl a45 c46 y38.1.heap.arena, sl a47 c48 y38.1.heap.gc.grey, sl a49 c50 y38.1.taps, bx g26 75 [.slice a13 y12.1.label.levels.length c14, .slice a15 y12.1.own.length c16, .slice a17 y12.1.tree.length c18, .slice a19 y12.1.heap.arena.length c20, .int .i64 y12.1.heap.gc.phase, .int .i64 y12.1.heap.gc.pos, .int .i64 y12.1.heap.gc.round, .slice a21 y12.1.heap.gc.grey.length c22, .slice a23 y12.1.taps.length c24, .int .i64 y12.1.next, .int .i64 y12.1.want, .int .i64 y12.1.spent.pages, .int .i64 y12.1.spent.rent, .int .i64 y12.1.spent.cpu, .int .i64 y12.1.press, .int .i64 y12.1.lost], sl a13 c14 y12.1.label.levels, sl a15 c16 y12.1.own, sl a17 c18 y12.1.tree, sl a19 c20 y12.1.heap.arena, sl a21 c22 y12.1.heap.gc.grey, sl a23 c24 y12.1.taps, bx g1 89 [.slice a0_0 x0.label.levels.length c0_0, .slice a0_1 x0.own.length c0_1, .int .i64 x0.amt.pages, .int .i64 x0.amt.rent, .int .i64 x0.amt.cpu]]) ?_ ?_
  · have h := hj79
    refine CW.region ?_
    iterate 3 refine LW.p rfl rfl ?_
    rcases bcases (decide (y71.1 < 0)) with hc81 | hc81
    · replace h := bcT h hc81
      refine LW.gN (want_not rfl rfl hc81) rfl ?_
      refine LW.gN (want_not rfl rfl hc81) rfl ?_
      refine LW.gN (want_not rfl rfl hc81) rfl ?_
      refine LW.gN (want_not rfl rfl hc81) rfl ?_
      refine LW.u (Pur.pickT rfl hc81) rfl ?_
      refine LW.p rfl rfl ?_
      refine LW.gN (want_not rfl rfl rfl) rfl ?_
      refine LW.gN (want_not rfl rfl rfl) rfl ?_
      refine LW.gN (want_not rfl rfl rfl) rfl ?_
      refine LW.u (Pur.pickT rfl rfl) rfl ?_
      refine LW.nil ?_
      replace h := Option.some.inj h
      subst h
      exact ⟨⟨rfl, rfl, rfl, rfl, rfl, trivial⟩, hS20.pick [4, 5, 6, 7, 8, 9, 10, 12, 13, 14, 15, 16, 17, 18, 19] rfl rfl⟩
    replace h := bcF h hc81
    refine LW.gY (want_of rfl rfl hc81) ?_
    refine LW.ldbN hS20 4 rfl ag75 rfl rfl rfl ?_
    refine LW.gY (want_of rfl rfl hc81) ?_
    refine LW.ldbN hS20 12 rfl ag75 rfl rfl rfl ?_
    replace h := obind h
    obtain ⟨y82, hy82, h⟩ := h
    have q := W_l_eqPart (w0 := w78) hy82 rfl (hS20.rI 5 rfl) rfl (hS20.rI 6 rfl) rfl (hS20.rI 7 rfl) rfl (hS20.rI 8 rfl) rfl (hS20.rI 9 rfl) rfl (hS20.rI 10 rfl) rfl (hS20.rI 13 rfl) rfl (hS20.rI 14 rfl) rfl (hS20.rI 15 rfl) rfl (hS20.rI 16 rfl) rfl (hS20.rI 17 rfl) rfl (hS20.rI 18 rfl)
    refine LW.gY (want_of rfl rfl hc81) ?_
    refine LW.call pl34 rfl rfl ?_
    refine Ret.mono q ?_
    rintro _ w83 ⟨rfl, hs⟩
    have hS21 := hS20.add hs
    refine LW.gY (want_of rfl rfl hc81) ?_
    refine LW.p rfl rfl ?_
    refine LW.u (Pur.pickF rfl hc81) rfl ?_
    refine LW.p rfl rfl ?_
    rcases bcases (!y82) with hc84 | hc84
    · replace h := bcT h hc84
      refine LW.gN (want_not rfl rfl hc84) rfl ?_
      refine LW.gN (want_not rfl rfl hc84) rfl ?_
      refine LW.gN (want_not rfl rfl hc84) rfl ?_
      refine LW.u (Pur.pickT rfl hc84) rfl ?_
      refine LW.nil ?_
      replace h := Option.some.inj h
      subst h
      exact ⟨⟨rfl, rfl, rfl, rfl, rfl, trivial⟩, hS21.pick [4, 5, 6, 7, 8, 9, 10, 12, 13, 14, 15, 16, 17, 18, 19] rfl rfl⟩
    replace h := bcF h hc84
    refine LW.gY (want_of rfl rfl hc84) ?_
    refine LW.p rfl rfl ?_
    refine LW.gY (want_of rfl rfl hc84) ?_
    refine LW.p rfl rfl ?_
    refine LW.gY (want_of rfl rfl hc84) ?_
    refine LW.u (Pur.bne Try.underlying4 rfl rfl) rfl ?_
    refine LW.u (Pur.pickF rfl hc84) rfl ?_
    refine LW.nil ?_
    replace h := Option.some.inj h
    subst h
    exact ⟨⟨rfl, rfl, rfl, rfl, rfl, trivial⟩, hS21.pick [4, 5, 6, 7, 8, 9, 10, 12, 13, 14, 15, 16, 17, 18, 19] rfl rfl⟩
  intro e w85 hM
  obtain ⟨hE, hS22⟩ := hM
  obtain ⟨e, rfl⟩ := hE.out
  have h := h80
  show CW _ _ _ _ _ _
  refine CW.cond rfl (fun hc86 => ?_) (fun hc86 => ?_)
  · replace h := bcT h hc86
    refine CW.seq ?_
    refine CW.region ?_
    refine LW.p rfl rfl ?_
    refine LW.nil ?_
    show CW _ _ _ _ _ _
    refine CW.ret ?_
    cases h
    exact And.intro trivial ⟨_, Res.one (resOne.t rfl), rfl, hS22.pick [] rfl rfl⟩
  replace h := bcF h hc86
  refine CW.skip ?_
  show CW _ _ _ _ _ _
  refine CW.seq ?_
  refine CW.region ?_
  refine LW.p rfl rfl ?_
  refine LW.nil ?_
  show CW _ _ _ _ _ _
  refine CW.seq ?_
  refine CW.region ?_
  refine LW.ldbN hS22 0 rfl ag75 rfl rfl rfl ?_
  refine LW.p rfl rfl ?_
  replace h := obind h
  obtain ⟨y87, hy87, h⟩ := h
  obtain ⟨q90, hy87', hq91⟩ := obind hy87
  obtain ⟨hl92, hq91⟩ := keepL_some hq91
  obtain ⟨hl93, hq91⟩ := keepL_some hq91
  obtain ⟨hl94, hq91⟩ := keepL_some hq91
  obtain ⟨hl95, hq91⟩ := keepL_some hq91
  obtain ⟨hl96, hq91⟩ := keepL_some hq91
  obtain ⟨hl97, hq91⟩ := keepL_some hq91
  rw [Option.some.inj hq91] at hy87' hl92 hl93 hl94 hl95 hl96 hl97
  have hS23 := hS22.pick (M := [sl a39 c40 y38.1.label.levels, sl a41 c42 y38.1.own, sl a43 c44 y38.1.tree, sl a45 c46 y38.1.heap.arena, sl a47 c48 y38.1.heap.gc.grey, sl a49 c50 y38.1.taps] ++ [bx g52 75 [.slice a39 y38.1.label.levels.length c40, .slice a41 y38.1.own.length c42, .slice a43 y38.1.tree.length c44, .slice a45 y38.1.heap.arena.length c46, .int .i64 y38.1.heap.gc.phase, .int .i64 y38.1.heap.gc.pos, .int .i64 y38.1.heap.gc.round, .slice a47 y38.1.heap.gc.grey.length c48, .slice a49 y38.1.taps.length c50, .int .i64 y38.1.next, .int .i64 y38.1.want, .int .i64 y38.1.spent.pages, .int .i64 y38.1.spent.rent, .int .i64 y38.1.spent.cpu, .int .i64 y38.1.press, .int .i64 y38.1.lost], bx g26 75 [.slice a13 y12.1.label.levels.length c14, .slice a15 y12.1.own.length c16, .slice a17 y12.1.tree.length c18, .slice a19 y12.1.heap.arena.length c20, .int .i64 y12.1.heap.gc.phase, .int .i64 y12.1.heap.gc.pos, .int .i64 y12.1.heap.gc.round, .slice a21 y12.1.heap.gc.grey.length c22, .slice a23 y12.1.taps.length c24, .int .i64 y12.1.next, .int .i64 y12.1.want, .int .i64 y12.1.spent.pages, .int .i64 y12.1.spent.rent, .int .i64 y12.1.spent.cpu, .int .i64 y12.1.press, .int .i64 y12.1.lost], sl a13 c14 y12.1.label.levels, sl a15 c16 y12.1.own, sl a17 c18 y12.1.tree, sl a19 c20 y12.1.heap.arena, sl a21 c22 y12.1.heap.gc.grey, sl a23 c24 y12.1.taps, bx g1 89 [.slice a0_0 x0.label.levels.length c0_0, .slice a0_1 x0.own.length c0_1, .int .i64 x0.amt.pages, .int .i64 x0.amt.rent, .int .i64 x0.amt.cpu]]) [1, 2, 3, 4, 5, 6, 0, 7, 8, 9, 10, 11, 12, 13, 14] rfl rfl
  obtain ⟨F88, hL89⟩ := St.lend (L := [sl a39 c40 y38.1.label.levels, sl a41 c42 y38.1.own, sl a43 c44 y38.1.tree, sl a45 c46 y38.1.heap.arena, sl a47 c48 y38.1.heap.gc.grey, sl a49 c50 y38.1.taps]) (M := [bx g52 75 [.slice a39 y38.1.label.levels.length c40, .slice a41 y38.1.own.length c42, .slice a43 y38.1.tree.length c44, .slice a45 y38.1.heap.arena.length c46, .int .i64 y38.1.heap.gc.phase, .int .i64 y38.1.heap.gc.pos, .int .i64 y38.1.heap.gc.round, .slice a47 y38.1.heap.gc.grey.length c48, .slice a49 y38.1.taps.length c50, .int .i64 y38.1.next, .int .i64 y38.1.want, .int .i64 y38.1.spent.pages, .int .i64 y38.1.spent.rent, .int .i64 y38.1.spent.cpu, .int .i64 y38.1.press, .int .i64 y38.1.lost], bx g26 75 [.slice a13 y12.1.label.levels.length c14, .slice a15 y12.1.own.length c16, .slice a17 y12.1.tree.length c18, .slice a19 y12.1.heap.arena.length c20, .int .i64 y12.1.heap.gc.phase, .int .i64 y12.1.heap.gc.pos, .int .i64 y12.1.heap.gc.round, .slice a21 y12.1.heap.gc.grey.length c22, .slice a23 y12.1.taps.length c24, .int .i64 y12.1.next, .int .i64 y12.1.want, .int .i64 y12.1.spent.pages, .int .i64 y12.1.spent.rent, .int .i64 y12.1.spent.cpu, .int .i64 y12.1.press, .int .i64 y12.1.lost], sl a13 c14 y12.1.label.levels, sl a15 c16 y12.1.own, sl a17 c18 y12.1.tree, sl a19 c20 y12.1.heap.arena, sl a21 c22 y12.1.heap.gc.grey, sl a23 c24 y12.1.taps, bx g1 89 [.slice a0_0 x0.label.levels.length c0_0, .slice a0_1 x0.own.length c0_1, .int .i64 x0.amt.pages, .int .i64 x0.amt.rent, .int .i64 x0.amt.cpu]]) hS23
  have q := W_l_markPart (w0 := w85) hy87' rfl rfl rfl rfl rfl rfl hL89.st
  refine LW.call pl52 rfl rfl ?_
  refine Ret.mono q ?_
  rintro _ w98 ⟨rfl, hs⟩
  have hS24 := hL89.back _ _ hs
  refine LW.p rfl rfl ?_
  refine LW.nil ?_
  show CW _ _ _ _ _ _
  refine CW.seq ?_
  refine CW.region ?_
  refine LW.p rfl rfl ?_
  refine LW.nil ?_
  show CW _ _ _ _ _ _
  refine CW.seq ?_
  refine CW.region ?_
  refine LW.ldbN hS24 6 rfl ag75 rfl rfl rfl ?_
  refine LW.p rfl rfl ?_
  replace h := obind h
  obtain ⟨y99, hy99, h⟩ := h
  have q := W_l_heldPart (w0 := w98) hy99 (show y38.1.label.levels.length = y87.2.1.length from hl92) (hS24.rI 0 rfl) (show y38.1.own.length = y87.2.2.1.length from hl93) (hS24.rI 1 rfl) (show y38.1.tree.length = y87.2.2.2.1.length from hl94) (hS24.rI 2 rfl) (show y38.1.heap.arena.length = y87.2.2.2.2.1.length from hl95) (hS24.rI 3 rfl) (show y38.1.heap.gc.grey.length = y87.2.2.2.2.2.1.length from hl96) (hS24.rI 4 rfl) (show y38.1.taps.length = y87.2.2.2.2.2.2.length from hl97) (hS24.rI 5 rfl)
  refine LW.call pl53 rfl rfl ?_
  refine Ret.mono q ?_
  rintro _ w100 ⟨rfl, hs⟩
  have hS25 := hS24.add hs
  refine LW.p rfl rfl ?_
  refine LW.nil ?_
  show CW _ _ _ _ _ _
  refine CW.fresh (l := [(1, .pointer (some ⟨g1, 0, none⟩)), (4, .pointer (some ⟨g26, 0, none⟩)), (5, .bool y12.2), (7, .pointer (some ⟨g52, 0, none⟩)), (10, .int .i64 y87.1), (11, .int .i64 y99)]) ⟨rfl, rfl, rfl, rfl, rfl, rfl, trivial⟩ (fun e => ?_)
  refine CW.seq ?_
  refine CW.seq ?_
  refine CW.region ?_
  iterate 2 refine LW.p rfl rfl ?_
  refine LW.nil ?_
  show CW _ _ _ _ _ _
  refine CW.cond rfl (fun hc101 => ?_) (fun hc101 => ?_)
  · replace h := bcT h hc101
    refine CW.seq ?_
    refine CW.region ?_
    refine LW.p rfl rfl ?_
    refine LW.nil ?_
    show CW _ _ _ _ _ _
    refine CW.ret ?_
    cases h
    rw [show y38.1.label.levels.length = y87.2.1.length from hl92] at hS25
    rw [show y38.1.own.length = y87.2.2.1.length from hl93] at hS25
    rw [show y38.1.tree.length = y87.2.2.2.1.length from hl94] at hS25
    rw [show y38.1.heap.arena.length = y87.2.2.2.2.1.length from hl95] at hS25
    rw [show y38.1.heap.gc.grey.length = y87.2.2.2.2.2.1.length from hl96] at hS25
    rw [show y38.1.taps.length = y87.2.2.2.2.2.2.length from hl97] at hS25
    exact And.intro trivial ⟨_, Res.one (resOne.t rfl), rfl, hS25.pick [] rfl rfl⟩
  replace h := bcF h hc101
  refine CW.skip ?_
  show CW _ _ _ _ _ _
  refine CW.seq ?_
  refine CW.seq ?_
  refine CW.region ?_
  iterate 3 refine LW.p rfl rfl ?_
  refine LW.nil ?_
  show CW _ _ _ _ _ _
  refine CW.cond rfl (fun hc102 => ?_) (fun hc102 => ?_)
  · replace h := bcT h hc102
    refine CW.seq ?_
    refine CW.region ?_
    refine LW.p rfl rfl ?_
    refine LW.nil ?_
    show CW _ _ _ _ _ _
    refine CW.ret ?_
    cases h
    rw [show y38.1.label.levels.length = y87.2.1.length from hl92] at hS25
    rw [show y38.1.own.length = y87.2.2.1.length from hl93] at hS25
    rw [show y38.1.tree.length = y87.2.2.2.1.length from hl94] at hS25
    rw [show y38.1.heap.arena.length = y87.2.2.2.2.1.length from hl95] at hS25
    rw [show y38.1.heap.gc.grey.length = y87.2.2.2.2.2.1.length from hl96] at hS25
    rw [show y38.1.taps.length = y87.2.2.2.2.2.2.length from hl97] at hS25
    exact And.intro trivial ⟨_, Res.one (resOne.t rfl), rfl, hS25.pick [] rfl rfl⟩
  replace h := bcF h hc102
  refine CW.skip ?_
  show CW _ _ _ _ _ _
  refine CW.seq ?_
  refine CW.region ?_
  refine LW.ldbN hS25 14 rfl ag89 rfl rfl rfl ?_
  replace h := obind h
  obtain ⟨y103, hy103, h⟩ := h
  have q := W_l_toPartBoot (w0 := w100) hy103 rfl (hS25.rB hr0_0) rfl (hS25.rB hr0_1)
  refine LW.call pl48 rfl rfl ?_
  refine Ret.mono q ?_
  rintro _ w108 ⟨a104, c105, a106, c107, rfl, hs⟩
  have hS26 := hS25.add hs
  replace h := obind h
  obtain ⟨y109, hy109, h⟩ := h
  have q := W_i_PartNew (w0 := w108) hy109 rfl (hS26.rI 0 rfl) rfl (hS26.rI 1 rfl)
  refine LW.call pl49 rfl rfl ?_
  refine Ret.mono q ?_
  rintro _ w122 ⟨a110, c111, a112, c113, a114, c115, a116, c117, a118, c119, a120, c121, rfl, hs⟩
  have hS27 := hS26.add hs
  iterate 3 refine LW.p rfl rfl ?_
  refine LW.alloc zv75 hS27 rfl ?_
  intro g123 w124 hS28 hf
  refine LW.stb hS28 0 rfl ag75 rfl rfl rfl rfl rfl ?_
  intro w125 hS29 hf
  refine LW.p rfl rfl ?_
  refine LW.nil ?_
  show CW _ _ _ _ _ _
  refine CW.fresh (l := [(4, .pointer (some ⟨g26, 0, none⟩)), (5, .bool y12.2), (7, .pointer (some ⟨g52, 0, none⟩)), (10, .int .i64 y87.1), (12, .pointer (some ⟨g123, 0, none⟩)), (13, .bool y109.2)]) ⟨rfl, rfl, rfl, rfl, rfl, rfl, trivial⟩ (fun e => ?_)
  refine CW.seq ?_
  refine CW.seq ?_
  rw [show y38.1.label.levels.length = y87.2.1.length from hl92] at hS29
  rw [show y38.1.own.length = y87.2.2.1.length from hl93] at hS29
  rw [show y38.1.tree.length = y87.2.2.2.1.length from hl94] at hS29
  rw [show y38.1.heap.arena.length = y87.2.2.2.2.1.length from hl95] at hS29
  rw [show y38.1.heap.gc.grey.length = y87.2.2.2.2.2.1.length from hl96] at hS29
  rw [show y38.1.taps.length = y87.2.2.2.2.2.2.length from hl97] at hS29
  obtain ⟨j126, hj126, h127⟩ := obind h
  refine CW.cut (fun e wb => En e [(7, .pointer (some ⟨g52, 0, none⟩)), (10, .int .i64 y87.1), (87, .bool j126)] ∧ St w0 [] wb [sl a39 c40 y87.2.1, sl a41 c42 y87.2.2.1, sl a43 c44 y87.2.2.2.1, sl a45 c46 y87.2.2.2.2.1, sl a47 c48 y87.2.2.2.2.2.1, sl a49 c50 y87.2.2.2.2.2.2, bx g52 75 [.slice a39 y87.2.1.length c40, .slice a41 y87.2.2.1.length c42, .slice a43 y87.2.2.2.1.length c44, .slice a45 y87.2.2.2.2.1.length c46, .int .i64 y38.1.heap.gc.phase, .int .i64 y38.1.heap.gc.pos, .int .i64 y38.1.heap.gc.round, .slice a47 y87.2.2.2.2.2.1.length c48, .slice a49 y87.2.2.2.2.2.2.length c50, .int .i64 y38.1.next, .int .i64 y38.1.want, .int .i64 y38.1.spent.pages, .int .i64 y38.1.spent.rent, .int .i64 y38.1.spent.cpu, .int .i64 y38.1.press, .int .i64 y38.1.lost]]) ?_ ?_
  · have h := hj126
    refine CW.region ?_
    refine LW.ldbN hS29 0 rfl ag75 rfl rfl rfl ?_
    refine LW.ldbN hS29 16 rfl ag75 rfl rfl rfl ?_
    replace h := obind h
    obtain ⟨y128, hy128, h⟩ := h
    have q := W_l_eqPart (w0 := w125) hy128 rfl (hS29.rI 1 rfl) rfl (hS29.rI 2 rfl) rfl (hS29.rI 3 rfl) rfl (hS29.rI 4 rfl) rfl (hS29.rI 5 rfl) rfl (hS29.rI 6 rfl) rfl (hS29.rI 17 rfl) rfl (hS29.rI 18 rfl) rfl (hS29.rI 19 rfl) rfl (hS29.rI 20 rfl) rfl (hS29.rI 21 rfl) rfl (hS29.rI 22 rfl)
    refine LW.call pl34 rfl rfl ?_
    refine Ret.mono q ?_
    rintro _ w129 ⟨rfl, hs⟩
    have hS30 := hS29.add hs
    iterate 2 refine LW.p rfl rfl ?_
    rcases bcases (!y128) with hc130 | hc130
    · replace h := bcT h hc130
      refine LW.gN (want_not rfl rfl hc130) rfl ?_
      refine LW.gN (want_not rfl rfl hc130) rfl ?_
      refine LW.gN (want_not rfl rfl hc130) rfl ?_
      refine LW.u (Pur.pickT rfl hc130) rfl ?_
      refine LW.nil ?_
      replace h := Option.some.inj h
      subst h
      exact ⟨⟨rfl, rfl, rfl, trivial⟩, hS30.pick [9, 10, 11, 12, 13, 14, 15] rfl rfl⟩
    replace h := bcF h hc130
    refine LW.gY (want_of rfl rfl hc130) ?_
    refine LW.p rfl rfl ?_
    refine LW.gY (want_of rfl rfl hc130) ?_
    refine LW.p rfl rfl ?_
    refine LW.gY (want_of rfl rfl hc130) ?_
    refine LW.u (Pur.bne Try.underlying4 rfl rfl) rfl ?_
    refine LW.u (Pur.pickF rfl hc130) rfl ?_
    refine LW.nil ?_
    replace h := Option.some.inj h
    subst h
    exact ⟨⟨rfl, rfl, rfl, trivial⟩, hS30.pick [9, 10, 11, 12, 13, 14, 15] rfl rfl⟩
  intro e w131 hM
  obtain ⟨hE, hS31⟩ := hM
  obtain ⟨e, rfl⟩ := hE.out
  have h := h127
  show CW _ _ _ _ _ _
  refine CW.cond rfl (fun hc132 => ?_) (fun hc132 => ?_)
  · replace h := bcT h hc132
    refine CW.seq ?_
    refine CW.region ?_
    refine LW.p rfl rfl ?_
    refine LW.nil ?_
    show CW _ _ _ _ _ _
    refine CW.ret ?_
    cases h
    exact And.intro trivial ⟨_, Res.one (resOne.t rfl), rfl, hS31.pick [] rfl rfl⟩
  replace h := bcF h hc132
  refine CW.skip ?_
  show CW _ _ _ _ _ _
  refine CW.seq ?_
  refine CW.region ?_
  refine LW.p rfl rfl ?_
  refine LW.nil ?_
  show CW _ _ _ _ _ _
  refine CW.seq ?_
  refine CW.region ?_
  refine LW.ldbN hS31 6 rfl ag75 rfl rfl rfl ?_
  refine LW.p rfl rfl ?_
  replace h := obind h
  obtain ⟨y133, hy133, h⟩ := h
  have q := W_l_heldPart (w0 := w131) hy133 rfl (hS31.rI 0 rfl) rfl (hS31.rI 1 rfl) rfl (hS31.rI 2 rfl) rfl (hS31.rI 3 rfl) rfl (hS31.rI 4 rfl) rfl (hS31.rI 5 rfl)
  refine LW.call pl53 rfl rfl ?_
  refine Ret.mono q ?_
  rintro _ w134 ⟨rfl, hs⟩
  have hS32 := hS31.add hs
  refine LW.p rfl rfl ?_
  refine LW.nil ?_
  show CW _ _ _ _ _ _
  refine CW.seq ?_
  refine CW.seq ?_
  refine CW.region ?_
  iterate 2 refine LW.p rfl rfl ?_
  refine LW.nil ?_
  show CW _ _ _ _ _ _
  refine CW.cond rfl (fun hc135 => ?_) (fun hc135 => ?_)
  · replace h := bcT h hc135
    refine CW.seq ?_
    refine CW.region ?_
    refine LW.p rfl rfl ?_
    refine LW.nil ?_
    show CW _ _ _ _ _ _
    refine CW.ret ?_
    cases h
    exact And.intro trivial ⟨_, Res.one (resOne.t rfl), rfl, hS32.pick [] rfl rfl⟩
  replace h := bcF h hc135
  refine CW.skip ?_
  show CW _ _ _ _ _ _
  refine CW.seq ?_
  refine CW.seq ?_
  refine CW.region ?_
  iterate 3 refine LW.p rfl rfl ?_
  refine LW.nil ?_
  show CW _ _ _ _ _ _
  refine CW.cond rfl (fun hc136 => ?_) (fun hc136 => ?_)
  · replace h := bcT h hc136
    refine CW.seq ?_
    refine CW.region ?_
    refine LW.p rfl rfl ?_
    refine LW.nil ?_
    show CW _ _ _ _ _ _
    refine CW.ret ?_
    cases h
    exact And.intro trivial ⟨_, Res.one (resOne.t rfl), rfl, hS32.pick [] rfl rfl⟩
  replace h := bcF h hc136
  refine CW.skip ?_
  show CW _ _ _ _ _ _
  refine CW.seq ?_
  refine CW.region ?_
  refine LW.p rfl rfl ?_
  refine LW.nil ?_
  show CW _ _ _ _ _ _
  refine CW.ret ?_
  cases h
  exact And.intro trivial ⟨_, Res.one (resOne.t rfl), rfl, hS32.pick [] rfl rfl⟩

end Go.Kx
