/- Each call returns what the plain function says. Printed by drive.py. -/
import Derived.Test.YtljikolgijlbeaaGreatFa
import Derived.Test.YtljikolgijlbeaaGreatPu
import Derived.Test.YtljikolgijlbeaaGreatWa7
import Derived.Test.YtljikolgijlbeaaGreatWa8
namespace Go.Kx
open Go Go.RowKit Go.Proofs
set_option maxRecDepth 10000
set_option maxHeartbeats 8000000
set_option linter.unusedVariables false
set_option linter.unusedSimpArgs false
theorem W_i_copyWorld {w0 : World} {N : Nat} {x0 : DWorld} {r : DWorld} (h : F_i_copyWorld N x0 = some r) {a0_1 : Option Addr} {n0_1 c0_1 : Nat} (hn0_1 : n0_1 = x0.parts.length) (hr0_1 : rdS (Bor w0 []) w0 a0_1 c0_1 x0.parts) :
    Ret Tryz.prog 36 #[.agg #[.int .i64 x0.now, .slice a0_1 n0_1 c0_1]] w0 (fun v w => ∃ ar0_1 cr0_1, v = .agg #[.int .i64 r.now, .slice ar0_1 r.parts.length cr0_1] ∧ St w0 [] w [sl ar0_1 cr0_1 r.parts]) := by
  subst hn0_1
  unfold F_i_copyWorld at h
  refine Ret.fn Tryz.func36 fun e => ?_
  have hS1 := St.start w0
  refine go ?_
  refine LW.bo hS1 fun g1 w2 hS2 => ?_
  refine LW.al hS2 fun g3 w4 hS3 => ?_
  refine go ?_
  refine LW.u (Pur.build (vs := [(0, .int .i64 x0.now)]) (cs := #[.int .i64 x0.now, .slice none 0 0]) rfl (by kernel_rfl)) rfl ?_
  refine LW.al hS3 fun g5 w6 hS4 => ?_
  refine LW.st hS4 0 fun w7 hS5 => ?_
  refine go ?_
  have hS6 := hS5.nil (α := DPart)
  obtain ⟨o62, ho62, h63⟩ := obind h
  refine CW.mono (CW.iter (σ := Int × (List DPart)) (ρ := Int × (List DPart)) (fun s8 e wb => ∃ (s8a0 : Option Addr), ∃ (s8c0 : Nat), En e [(2, .pointer (some ⟨g3, 0, none⟩)), (3, .pointer (some ⟨g5, 0, none⟩)), (10, .slice a0_1 x0.parts.length c0_1), (11, .int .i64 (x0.parts.length : Int)), (12, .int .i64 s8.1)] ∧ St w0 [] wb [bx g5 27 [.int .i64 x0.now, .slice s8a0 s8.2.length s8c0], bx g3 27 [.int .i64 0, .slice none 0 0], sl s8a0 s8c0 s8.2]) (fun s8 x e wb => x = .exit 0 ∧ ∃ (s8a0 : Option Addr), ∃ (s8c0 : Nat), En e [(2, .pointer (some ⟨g3, 0, none⟩)), (3, .pointer (some ⟨g5, 0, none⟩))] ∧ St w0 [] wb [bx g5 27 [.int .i64 x0.now, .slice s8a0 s8.2.length s8c0], bx g3 27 [.int .i64 0, .slice none 0 0], sl s8a0 s8c0 s8.2]) ?_ N (0, []) _ _ _ ⟨none, 0, ⟨rfl, rfl, rfl, rfl, rfl, trivial⟩, hS6.pick [1, 2, 0] rfl rfl⟩ ho62) ?_
  · intro s8 e w9 o hM h
    obtain ⟨s8a0, s8c0, hE, hS7⟩ := hM
    obtain ⟨e, rfl⟩ := hE.out
    refine go ?_
    refine cd (fun hc10 => ?_) fun hc10 => ?_
    · replace h := bcT h hc10
      refine go ?_
      replace ⟨y11, hy11, h⟩ := obind h
      obtain ⟨b14, o15, cs16, hae, hb19, hp12, hq13, hd17, hk18⟩ := hr0_1.idx hy11
      subst hae
      obtain ⟨a20, c21, a23, c24, a26, c27, a29, c30, a32, c33, a35, c36, rfl, hr22, hr25, hr28, hr31, hr34, hr37⟩ := hd17
      refine LW.u (Pur.ix Tryz.underlying25 sz67 rfl rfl hp12 hq13) rfl ?_
      refine LW.l (Ldr.oldN w0 ag67 rfl rfl (fun j u hu => hk18 j u hu)) (hS7.same _ hb19.1 hb19.2) rfl ?_
      refine LW.al hS7 fun g38 w39 hS8 => ?_
      refine LW.st hS8 0 fun w40 hS9 => ?_
      refine go ?_
      refine CW.draw (by kernel_rfl) ?_
      have hS10 := hS9.drew
      refine go ?_
      replace ⟨y41, hy41, h⟩ := obind h
      have q := W_i_copyPart (w0 := w40.drew) hy41 rfl (hS10.rB hr22) rfl (hS10.rB hr25) rfl (hS10.rB hr28) rfl (hS10.rB hr31) rfl (hS10.rB hr34) rfl (hS10.rB hr37)
      refine AW.one (i := 3) (by kernel_rfl) ?_
      refine ⟨_, rfl, ?_⟩
      refine LW.call pl82 rfl rfl ?_
      refine Ret.mono q ?_
      rintro _ w54 ⟨a42, c43, a44, c45, a46, c47, a48, c49, a50, c51, a52, c53, rfl, hs⟩
      have hS11 := hS10.add hs
      refine LW.nil ⟨rfl, (.w (by kernel_rfl) (.c (St.cell (h := hS11) (i := 7) rfl) Kept.n)), ?_⟩
      refine AW.one (i := 4) (by kernel_rfl) ?_
      refine ⟨_, rfl, ?_⟩
      refine LW.bsl1 (vs := #[.slice a42 y41.label.levels.length c43, .slice a44 y41.own.length c45, .slice a46 y41.tree.length c47, .slice a48 y41.heap.arena.length c49, .int .i64 y41.heap.gc.phase, .int .i64 y41.heap.gc.pos, .int .i64 y41.heap.gc.round, .slice a50 y41.heap.gc.grey.length c51, .slice a52 y41.taps.length c53, .int .i64 y41.next, .int .i64 y41.want, .int .i64 y41.spent.pages, .int .i64 y41.spent.rent, .int .i64 y41.spent.cpu, .int .i64 y41.press, .int .i64 y41.lost]) sT25 rfl (by kernel_rfl) hS11 rfl ?_
      intro g55 w56 hS12 hf
      refine LW.nil ⟨rfl, (.c (St.cell (h := hS12) (i := 7) rfl) (.c (St.cell (h := hS12) (i := 8) rfl) Kept.n)), ?_⟩
      have hS13 := hS12.pick (M := [sl a42 c43 y41.label.levels, sl a44 c45 y41.own, sl a46 c47 y41.tree, sl a48 c49 y41.heap.arena, sl a50 c51 y41.heap.gc.grey, sl a52 c53 y41.taps] ++ [bx g55 67 [.slice a42 y41.label.levels.length c43, .slice a44 y41.own.length c45, .slice a46 y41.tree.length c47, .slice a48 y41.heap.arena.length c49, .int .i64 y41.heap.gc.phase, .int .i64 y41.heap.gc.pos, .int .i64 y41.heap.gc.round, .slice a50 y41.heap.gc.grey.length c51, .slice a52 y41.taps.length c53, .int .i64 y41.next, .int .i64 y41.want, .int .i64 y41.spent.pages, .int .i64 y41.spent.rent, .int .i64 y41.spent.cpu, .int .i64 y41.press, .int .i64 y41.lost], bx g38 67 [.slice a20 y11.label.levels.length c21, .slice a23 y11.own.length c24, .slice a26 y11.tree.length c27, .slice a29 y11.heap.arena.length c30, .int .i64 y11.heap.gc.phase, .int .i64 y11.heap.gc.pos, .int .i64 y11.heap.gc.round, .slice a32 y11.heap.gc.grey.length c33, .slice a35 y11.taps.length c36, .int .i64 y11.next, .int .i64 y11.want, .int .i64 y11.spent.pages, .int .i64 y11.spent.rent, .int .i64 y11.spent.cpu, .int .i64 y11.press, .int .i64 y11.lost], bx g5 27 [.int .i64 x0.now, .slice s8a0 s8.2.length s8c0], bx g3 27 [.int .i64 0, .slice none 0 0], sl s8a0 s8c0 s8.2]) [1, 2, 3, 4, 5, 6, 0, 7, 8, 9, 10] rfl rfl
      replace ⟨y57, hy57, h⟩ := obind h
      refine AW.one (i := 5) (by kernel_rfl) ?_
      refine ⟨_, rfl, ?_⟩
      refine LW.appB (M := [sl a42 c43 y41.label.levels, sl a44 c45 y41.own, sl a46 c47 y41.tree, sl a48 c49 y41.heap.arena, sl a50 c51 y41.heap.gc.grey, sl a52 c53 y41.taps]) (L := [bx g55 67 [.slice a42 y41.label.levels.length c43, .slice a44 y41.own.length c45, .slice a46 y41.tree.length c47, .slice a48 y41.heap.arena.length c49, .int .i64 y41.heap.gc.phase, .int .i64 y41.heap.gc.pos, .int .i64 y41.heap.gc.round, .slice a50 y41.heap.gc.grey.length c51, .slice a52 y41.taps.length c53, .int .i64 y41.next, .int .i64 y41.want, .int .i64 y41.spent.pages, .int .i64 y41.spent.rent, .int .i64 y41.spent.cpu, .int .i64 y41.press, .int .i64 y41.lost], bx g38 67 [.slice a20 y11.label.levels.length c21, .slice a23 y11.own.length c24, .slice a26 y11.tree.length c27, .slice a29 y11.heap.arena.length c30, .int .i64 y11.heap.gc.phase, .int .i64 y11.heap.gc.pos, .int .i64 y11.heap.gc.round, .slice a32 y11.heap.gc.grey.length c33, .slice a35 y11.taps.length c36, .int .i64 y11.next, .int .i64 y11.want, .int .i64 y11.spent.pages, .int .i64 y11.spent.rent, .int .i64 y11.spent.cpu, .int .i64 y11.press, .int .i64 y11.lost], bx g5 27 [.int .i64 x0.now, .slice s8a0 s8.2.length s8c0], bx g3 27 [.int .i64 0, .slice none 0 0], sl s8a0 s8c0 s8.2]) (vs := [.slice a42 y41.label.levels.length c43, .slice a44 y41.own.length c45, .slice a46 y41.tree.length c47, .slice a48 y41.heap.arena.length c49, .int .i64 y41.heap.gc.phase, .int .i64 y41.heap.gc.pos, .int .i64 y41.heap.gc.round, .slice a50 y41.heap.gc.grey.length c51, .slice a52 y41.taps.length c53, .int .i64 y41.next, .int .i64 y41.want, .int .i64 y41.spent.pages, .int .i64 y41.spent.rent, .int .i64 y41.spent.cpu, .int .i64 y41.press, .int .i64 y41.lost]) (i := 4) (j := 0) sT25 rfl rfl hy57 hS13 rfl rfl (fun w G hG => ⟨a42, c43, a44, c45, a46, c47, a48, c49, a50, c51, a52, c53, rfl, hG⟩) rfl ?_
      intro a58 c59 w60 hS14 hf
      refine LW.nil ⟨rfl, (.c (St.cell (h := hS14) (i := 1) rfl) (.w (by kernel_rfl) Kept.n)), ?_⟩
      refine go ?_
      refine AW.one (i := 7) (by kernel_rfl) ?_
      refine ⟨_, rfl, ?_⟩
      refine LW.st hS14 2 fun w61 hS15 => ?_
      refine LW.nil ⟨rfl, (.w (by kernel_rfl) (.w (by kernel_rfl) Kept.n)), ?_⟩
      refine go ?_
      cases oi h
      exact ⟨rfl, ⟨a58, c59, ⟨rfl, rfl, rfl, rfl, rfl, trivial⟩, hS15.pick [2, 3, 4] rfl rfl⟩⟩
    replace h := bcF h hc10
    refine go ?_
    cases oi h
    exact ⟨trivial, rfl, ⟨s8a0, s8c0, ⟨rfl, rfl, trivial⟩, hS7.pick [0, 1, 2] rfl rfl⟩⟩
  intro x e w64 hM
  obtain ⟨rfl, hM⟩ := hM
  obtain ⟨s8a0, s8c0, hE, hS16⟩ := hM
  obtain ⟨e, rfl⟩ := hE.out
  have h := h63
  refine go ?_
  refine LW.st hS16 1 fun w65 hS17 => ?_
  refine go ?_
  cases h
  exact And.intro trivial ⟨_, Res.one (resOne.b hS17 1 rfl ag27 rfl rfl), s8a0, s8c0, rfl, hS17.pick [2] rfl rfl⟩

theorem W_i_HeapOk {w0 : World} {N : Nat} {x0 : DHeap} {r : Bool} (h : F_i_HeapOk N x0 = some r) {a0_0 : Option Addr} {n0_0 c0_0 : Nat} (hn0_0 : n0_0 = x0.arena.length) (hr0_0 : rdS (Bor w0 []) w0 a0_0 c0_0 x0.arena) {a0_4 : Option Addr} {n0_4 c0_4 : Nat} (hn0_4 : n0_4 = x0.gc.grey.length) (hr0_4 : rdS (Bor w0 []) w0 a0_4 c0_4 x0.gc.grey) :
    Ret Tryz.prog 122 #[.agg #[.slice a0_0 n0_0 c0_0, .int .i64 x0.gc.phase, .int .i64 x0.gc.pos, .int .i64 x0.gc.round, .slice a0_4 n0_4 c0_4]] w0 (fun v w => v = .bool r ∧ St w0 [] w []) := by
  subst hn0_0 hn0_4
  unfold F_i_HeapOk at h
  refine Ret.fn Tryz.func122 fun e => ?_
  have hS1 := St.start w0
  refine go ?_
  refine LW.bo hS1 fun g1 w2 hS2 => ?_
  refine go ?_
  obtain ⟨o31, ho31, h32⟩ := obind h
  refine CW.mono (CW.lx [1, 9, 10] [0] [1] 0 (fun s3 => [(11, .int .i64 s3)]) (RT Tryz.prog Tryz.f122.results (fun u => .bool u) w0 []) hS2 ho31 (hb := ?_)) ?_
  · intro s3 e w4 o hS3 h
    refine go ?_
    refine cd (fun hc5 => ?_) fun hc5 => ?_
    · replace h := bcT h hc5
      refine go ?_
      replace ⟨y6, hy6, h⟩ := obind h
      obtain ⟨b9, o10, cs11, hae, hb14, hp7, hq8, hd12, hk13⟩ := hr0_4.idx hy6
      subst hae
      obtain rfl := hd12
      refine LW.u (Pur.ix Tryz.underlying52 sz3 rfl rfl hp7 hq8) rfl ?_
      refine LW.l (Ldr.old w0 ag3 rfl (hk13 0 _ rfl)) (hS3.same _ hb14.1 hb14.2) rfl ?_
      refine gs ?_
      obtain ⟨j15, hj15, h16⟩ := obind h
      refine CW.jn [1, 9, 10, 11] [0] [(27, .bool j15)] hS3 (h1 := ?_) (h2 := ?_)
      · have h := hj15
        refine go ?_
        replace ⟨y17, hy17, h⟩ := obind h
        refine LW.c0 (W_i_isSlot hy17) hS3 fun w18 hS4 => ?_
        refine go ?_
        rcases bcases (!y17) with hc19 | hc19
        · replace h := bcT h hc19
          refine go ?_
          cases oi h
          exact ⟨⟨rfl, rfl, rfl, rfl, rfl, trivial⟩, hS4.pick [0] rfl rfl⟩
        replace h := bcF h hc19
        refine go ?_
        replace ⟨y20, hy20, h⟩ := obind h
        obtain ⟨a21, c22, he23, he24, hr25⟩ := rdS.sub' hr0_4 hy20
        have hle26 := (hr0_4).le
        refine go ?_
        refine LW.u (Pur.sub (α := Int) (l := x0.gc.grey) Tryz.underlying52 sz3 rfl bndN (bndS rfl) hy20 hle26 he23 he24) rfl ?_
        refine go ?_
        refine LW.fl [1, 9, 10, 11, 19, 24, 25] fun e => ?_
        replace ⟨y27, hy27, h⟩ := obind h
        refine go ?_
        refine LW.c0 (W_z_Contains_int hy27 rfl (hS4.rB hr25)) hS4 fun w28 hS5 => ?_
        refine go ?_
        cases oi h
        exact ⟨⟨rfl, rfl, rfl, rfl, rfl, trivial⟩, hS5.pick [0] rfl rfl⟩
      intro e w29 hS6
      have h := h16
      refine go ?_
      refine CW.fl [1, 9, 10, 11, 27] fun e => ?_
      refine cd (fun hc30 => ?_) fun hc30 => ?_
      · replace h := bcT h hc30
        refine go ?_
        cases oi h
        exact ⟨trivial, rfl, _, rfl, ⟨_, Res.one (resOne.t rfl), rfl, hS6.pick [] rfl rfl⟩⟩
      replace h := bcF h hc30
      refine go ?_
      cases oi h
      exact ⟨rfl, ⟨⟨rfl, rfl, rfl, rfl, trivial⟩, hS6.pick [0] rfl rfl⟩⟩
    replace h := bcF h hc5
    refine go ?_
    cases oi h
    exact ⟨trivial, rfl, ⟨⟨rfl, trivial⟩, hS3.pick [0] rfl rfl⟩⟩
  intro x e w33 hM
  rcases o31 with o31 | r54
  · obtain ⟨rfl, hM⟩ := hM
    obtain ⟨hE, hS7⟩ := hM
    obtain ⟨e, rfl⟩ := hE.out
    have h := h32
    refine gs ?_
    obtain ⟨j34, hj34, h35⟩ := obind h
    refine CW.jn [1] [0] [(5, .bool j34)] hS7 (h1 := ?_) (h2 := ?_)
    · have h := hj34
      refine go ?_
      rcases bcases (x0.gc.phase == 0) with hc36 | hc36
      · replace h := bcT h hc36
        refine go ?_
        cases oi h
        exact ⟨⟨rfl, rfl, trivial⟩, hS7.pick [0] rfl rfl⟩
      replace h := bcF h hc36
      refine go ?_
      cases oi h
      exact ⟨⟨rfl, rfl, trivial⟩, hS7.pick [0] rfl rfl⟩
    intro e w37 hS8
    have h := h35
    refine gs ?_
    obtain ⟨j38, hj38, h39⟩ := obind h
    refine CW.jn [1, 5] [0] [(6, .bool j38)] hS8 (h1 := ?_) (h2 := ?_)
    · have h := hj38
      refine go ?_
      rcases bcases (x0.gc.phase == 1) with hc40 | hc40
      · replace h := bcT h hc40
        refine go ?_
        replace ⟨y41, hy41, h⟩ := obind h
        refine go ?_
        refine LW.c0 (W_i_isSlot hy41) hS8 fun w42 hS9 => ?_
        refine go ?_
        rcases bcases y41 with hc43 | hc43
        · replace h := bcT h hc43
          refine go ?_
          cases oi h
          exact ⟨⟨rfl, rfl, rfl, trivial⟩, hS9.pick [0] rfl rfl⟩
        replace h := bcF h hc43
        refine go ?_
        cases oi h
        exact ⟨⟨rfl, rfl, rfl, trivial⟩, hS9.pick [0] rfl rfl⟩
      replace h := bcF h hc40
      refine go ?_
      cases oi h
      exact ⟨⟨rfl, rfl, rfl, trivial⟩, hS8.pick [0] rfl rfl⟩
    intro e w44 hS10
    have h := h39
    refine go ?_
    replace ⟨y45, hy45, h⟩ := obind h
    refine LW.c0 (W_i_ArenaOk hy45 rfl (hS10.rB hr0_0)) hS10 fun w46 hS11 => ?_
    refine go ?_
    rcases bcases y45 with hc47 | hc47
    · replace h := bcT h hc47
      refine go ?_
      rcases bcases j34 with hc48 | hc48
      · replace h := bcT h hc48
        refine go ?_
        replace ⟨y49, hy49, h⟩ := obind h
        refine go ?_
        refine LW.c0 (W_i_isTime hy49) hS11 fun w50 hS12 => ?_
        refine go ?_
        cases h
        exact fi hS12
      replace h := bcF h hc48
      refine go ?_
      rcases bcases j38 with hc51 | hc51
      · replace h := bcT h hc51
        refine go ?_
        replace ⟨y52, hy52, h⟩ := obind h
        refine go ?_
        refine LW.c0 (W_i_isTime hy52) hS11 fun w53 hS13 => ?_
        refine go ?_
        cases h
        exact fi hS13
      replace h := bcF h hc51
      refine go ?_
      cases h
      exact fi hS11
    replace h := bcF h hc47
    refine go ?_
    cases h
    exact fi hS11
  obtain ⟨rfl, u, rfl, hM⟩ := hM
  cases h32
  exact And.intro trivial hM

theorem W_i_TreeSum {w0 : World} {N : Nat} {x0 : List DRes} {r : DAmt} (h : F_i_TreeSum N x0 = some r) {a0_0 : Option Addr} {n0_0 c0_0 : Nat} (hn0_0 : n0_0 = x0.length) (hr0_0 : rdS (Bor w0 []) w0 a0_0 c0_0 x0) :
    Ret Tryz.prog 154 #[.slice a0_0 n0_0 c0_0] w0 (fun v w => v = .agg #[.int .i64 r.pages, .int .i64 r.rent, .int .i64 r.cpu] ∧ St w0 [] w []) := by
  subst hn0_0
  unfold F_i_TreeSum at h
  refine Ret.fn Tryz.func154 fun e => ?_
  have hS1 := St.start w0
  refine go ?_
  refine LW.al hS1 fun g1 w2 hS2 => ?_
  refine go ?_
  refine LW.u (Pur.build (vs := []) (cs := #[.int .i64 0, .int .i64 0, .int .i64 0]) rfl (by kernel_rfl)) rfl ?_
  refine LW.al hS2 fun g3 w4 hS3 => ?_
  refine LW.st hS3 0 fun w5 hS4 => ?_
  refine go ?_
  replace ⟨y6, hy6, h⟩ := obind h
  refine LW.c0 (W_i_TreeOk hy6 rfl (hS4.rB hr0_0)) hS4 fun w7 hS5 => ?_
  refine go ?_
  refine cd (fun hc8 => ?_) fun hc8 => ?_
  · replace h := bcT h hc8
    refine go ?_
    refine LW.st hS5 1 fun w9 hS6 => ?_
    refine go ?_
    cases h
    exact And.intro trivial ⟨_, Res.one (resOne.b hS6 1 rfl ag56 rfl rfl), rfl, hS6.pick [] rfl rfl⟩
  replace h := bcF h hc8
  refine go ?_
  obtain ⟨o28, ho28, h29⟩ := obind h
  refine CW.mono (CW.iter (σ := Int × Int × Int × Int) (ρ := Int × Int × Int × Int) (fun s10 e wb => En e [(2, .pointer (some ⟨g1, 0, none⟩)), (3, .pointer (some ⟨g3, 0, none⟩)), (11, .slice a0_0 x0.length c0_0), (12, .int .i64 (x0.length : Int)), (13, .int .i64 s10.1)] ∧ St w0 [] wb [bx g3 56 [.int .i64 s10.2.1, .int .i64 s10.2.2.1, .int .i64 s10.2.2.2], bx g1 56 [.int .i64 0, .int .i64 0, .int .i64 0]]) (fun s10 x e wb => x = .exit 0 ∧ En e [(2, .pointer (some ⟨g1, 0, none⟩)), (3, .pointer (some ⟨g3, 0, none⟩))] ∧ St w0 [] wb [bx g3 56 [.int .i64 s10.2.1, .int .i64 s10.2.2.1, .int .i64 s10.2.2.2], bx g1 56 [.int .i64 0, .int .i64 0, .int .i64 0]]) ?_ N (0, 0, 0, 0) _ _ _ ⟨⟨rfl, rfl, rfl, rfl, rfl, trivial⟩, hS5.pick [0, 1] rfl rfl⟩ ho28) ?_
  · intro s10 e w11 o hM h
    obtain ⟨hE, hS7⟩ := hM
    obtain ⟨e, rfl⟩ := hE.out
    refine go ?_
    refine cd (fun hc12 => ?_) fun hc12 => ?_
    · replace h := bcT h hc12
      refine go ?_
      replace ⟨y13, hy13, h⟩ := obind h
      obtain ⟨b16, o17, cs18, hae, hb21, hp14, hq15, hd19, hk20⟩ := hr0_0.idx hy13
      subst hae
      obtain rfl := hd19
      refine LW.u (Pur.ix Tryz.underlying59 sz138 rfl rfl hp14 hq15) rfl ?_
      refine LW.l (Ldr.oldN w0 ag138 rfl rfl (fun j u hu => hk20 j u hu)) (hS7.same _ hb21.1 hb21.2) rfl ?_
      refine LW.al hS7 fun g22 w23 hS8 => ?_
      refine LW.st hS8 0 fun w24 hS9 => ?_
      refine go ?_
      replace ⟨y25, hy25, h⟩ := obind h
      refine LW.c0 (W_i_sumOf hy25) hS9 fun w26 hS10 => ?_
      refine LW.st hS10 1 fun w27 hS11 => ?_
      refine go ?_
      cases oi h
      exact ⟨rfl, ⟨⟨rfl, rfl, rfl, rfl, rfl, trivial⟩, hS11.pick [1, 2] rfl rfl⟩⟩
    replace h := bcF h hc12
    refine go ?_
    cases oi h
    exact ⟨trivial, rfl, ⟨⟨rfl, rfl, trivial⟩, hS7.pick [0, 1] rfl rfl⟩⟩
  intro x e w30 hM
  obtain ⟨rfl, hM⟩ := hM
  obtain ⟨hE, hS12⟩ := hM
  obtain ⟨e, rfl⟩ := hE.out
  have h := h29
  refine go ?_
  refine LW.st hS12 1 fun w31 hS13 => ?_
  refine go ?_
  cases h
  exact And.intro trivial ⟨_, Res.one (resOne.b hS13 1 rfl ag56 rfl rfl), rfl, hS13.pick [] rfl rfl⟩

theorem W_i_Held {w0 : World} {N : Nat} {x0 : DPart} {r : Int} (h : F_i_Held N x0 = some r) {a0_0 : Option Addr} {n0_0 c0_0 : Nat} (hn0_0 : n0_0 = x0.label.levels.length) (hr0_0 : rdS (Bor w0 []) w0 a0_0 c0_0 x0.label.levels) {a0_1 : Option Addr} {n0_1 c0_1 : Nat} (hn0_1 : n0_1 = x0.own.length) (hr0_1 : rdS (Bor w0 []) w0 a0_1 c0_1 x0.own) {a0_2 : Option Addr} {n0_2 c0_2 : Nat} (hn0_2 : n0_2 = x0.tree.length) (hr0_2 : rdS (Bor w0 []) w0 a0_2 c0_2 x0.tree) {a0_3 : Option Addr} {n0_3 c0_3 : Nat} (hn0_3 : n0_3 = x0.heap.arena.length) (hr0_3 : rdS (Bor w0 []) w0 a0_3 c0_3 x0.heap.arena) {a0_7 : Option Addr} {n0_7 c0_7 : Nat} (hn0_7 : n0_7 = x0.heap.gc.grey.length) (hr0_7 : rdS (Bor w0 []) w0 a0_7 c0_7 x0.heap.gc.grey) {a0_8 : Option Addr} {n0_8 c0_8 : Nat} (hn0_8 : n0_8 = x0.taps.length) (hr0_8 : rdS (Bor w0 []) w0 a0_8 c0_8 x0.taps) :
    Ret Tryz.prog 155 #[.agg #[.slice a0_0 n0_0 c0_0, .slice a0_1 n0_1 c0_1, .slice a0_2 n0_2 c0_2, .slice a0_3 n0_3 c0_3, .int .i64 x0.heap.gc.phase, .int .i64 x0.heap.gc.pos, .int .i64 x0.heap.gc.round, .slice a0_7 n0_7 c0_7, .slice a0_8 n0_8 c0_8, .int .i64 x0.next, .int .i64 x0.want, .int .i64 x0.spent.pages, .int .i64 x0.spent.rent, .int .i64 x0.spent.cpu, .int .i64 x0.press, .int .i64 x0.lost]] w0 (fun v w => v = .int .i64 r ∧ St w0 [] w []) := by
  subst hn0_0 hn0_1 hn0_2 hn0_3 hn0_7 hn0_8
  unfold F_i_Held at h
  refine Ret.fn Tryz.func155 fun e => ?_
  have hS1 := St.start w0
  refine go ?_
  refine LW.bo hS1 fun g1 w2 hS2 => ?_
  refine go ?_
  replace ⟨y3, hy3, h⟩ := obind h
  refine LW.cl (W_i_firstThings hy3 rfl (hS2.rB hr0_0) rfl (hS2.rB hr0_1) rfl (hS2.rB hr0_2) rfl (hS2.rB hr0_3) rfl (hS2.rB hr0_7) rfl (hS2.rB hr0_8)) ?_
  rintro _ w6 ⟨a4, c5, rfl, hs⟩
  have hS3 := hS2.add hs
  refine go ?_
  obtain ⟨o35, ho35, h36⟩ := obind h
  refine CW.mono (CW.lb [7, 8] [0] [3] 0 (fun s7 => [(3, .int .i64 s7.1), (9, .int .i64 s7.2)]) hS3 ho35 (hb := ?_)) ?_
  · intro s7 e w8 o hS4 h
    refine go ?_
    refine cd (fun hc9 => ?_) fun hc9 => ?_
    · replace h := bcT h hc9
      refine go ?_
      replace ⟨y10, hy10, h⟩ := obind h
      obtain ⟨b13, o14, hae, hp11, hq12⟩ := hS4.ownIdx (α := DObjP) (i := 0) rfl hy10
      subst hae
      refine LW.u (Pur.ix Tryz.underlying60 sz104 rfl rfl hp11 hq12) rfl ?_
      obtain ⟨F15, ho16, hS5⟩ := hS4.freeze (α := DObjP) 0 rfl
      obtain ⟨b17, o18, cs19, hae, hb22, _, _, hd20, hk21⟩ := ho16.rdF.idx hy10
      cases hae
      obtain ⟨a23, n24, c25, a26, n27, c28, a29, n30, c31, rfl⟩ := hd20
      refine LW.l (Ldr.oldN w8 ag104 rfl rfl (fun j u hu => hk21 j u hu)) (hS5.zC 0 rfl hb22) rfl ?_
      refine LW.al hS5 fun g32 w33 hS6 => ?_
      refine LW.st hS6 0 fun w34 hS7 => ?_
      refine go ?_
      have hS8 := hS7.thaw (α := DObjP) 1 rfl ho16
      cases oi h
      exact ⟨rfl, ⟨⟨rfl, rfl, rfl, rfl, trivial⟩, hS8.pick [1] rfl rfl⟩⟩
    replace h := bcF h hc9
    refine go ?_
    cases oi h
    exact ⟨trivial, rfl, ⟨⟨rfl, trivial⟩, hS4.pick [0] rfl rfl⟩⟩
  intro x e w37 hM
  obtain ⟨rfl, hM⟩ := hM
  obtain ⟨hE, hS9⟩ := hM
  obtain ⟨e, rfl⟩ := hE.out
  have h := h36
  refine go ?_
  cases h
  exact fi hS9

theorem W_i_TreePay {w0 : World} {N : Nat} {x0 : List DRes} {x1 : Int} {x2 : DAmt} {r : (List DRes) × Bool} (h : F_i_TreePay N x0 x1 x2 = some r) {a0_0 : Option Addr} {n0_0 c0_0 : Nat} (hn0_0 : n0_0 = x0.length) (hr0_0 : rdS (Bor w0 []) w0 a0_0 c0_0 x0) :
    Ret Tryz.prog 93 #[.slice a0_0 n0_0 c0_0, .int .i64 x1, .agg #[.int .i64 x2.pages, .int .i64 x2.rent, .int .i64 x2.cpu]] w0 (fun v w => ∃ ar0 cr0, v = .tuple #[.slice ar0 r.1.length cr0, .bool r.2] ∧ St w0 [] w [sl ar0 cr0 r.1]) := by
  subst hn0_0
  unfold F_i_TreePay at h
  refine Ret.fn Tryz.func93 fun e => ?_
  have hS1 := St.start w0
  refine go ?_
  refine LW.bo hS1 fun g1 w2 hS2 => ?_
  refine go ?_
  replace ⟨y3, hy3, h⟩ := obind h
  refine LW.cl (W_i_copyTree hy3 rfl (hS2.rB hr0_0)) ?_
  rintro _ w6 ⟨a4, c5, rfl, hs⟩
  have hS3 := hS2.add hs
  refine gs ?_
  obtain ⟨j7, hj7, h8⟩ := obind h
  refine CW.jn [0, 1, 5, 8] [0, 1] [(21, .bool j7)] hS3 (h1 := ?_) (h2 := ?_)
  · have h := hj7
    refine go ?_
    replace ⟨y9, hy9, h⟩ := obind h
    refine LW.c0 (W_i_TreeOk hy9 rfl (hS3.rB hr0_0)) hS3 fun w10 hS4 => ?_
    refine go ?_
    rcases bcases (!y9) with hc11 | hc11
    · replace h := bcT h hc11
      refine go ?_
      cases oi h
      exact ⟨⟨rfl, rfl, rfl, rfl, rfl, trivial⟩, hS4.pick [0, 1] rfl rfl⟩
    replace h := bcF h hc11
    refine go ?_
    replace ⟨y12, hy12, h⟩ := obind h
    refine go ?_
    refine LW.c0 (W_i_isLive hy12 rfl (hS4.rB hr0_0)) hS4 fun w13 hS5 => ?_
    refine go ?_
    cases oi h
    exact ⟨⟨rfl, rfl, rfl, rfl, rfl, trivial⟩, hS5.pick [0, 1] rfl rfl⟩
  intro e w14 hS6
  have h := h8
  refine go ?_
  refine cd (fun hc15 => ?_) fun hc15 => ?_
  · replace h := bcT h hc15
    refine go ?_
    cases h
    exact And.intro trivial ⟨_, Res.two (resOne.t rfl) (resOne.t rfl), a4, c5, rfl, hS6.pick [0] rfl rfl⟩
  replace h := bcF h hc15
  refine gs ?_
  obtain ⟨j16, hj16, h17⟩ := obind h
  refine CW.cut (fun e wb => ∃ (j16g9 : Nat), En e [(1, .int .i64 x1), (8, .slice a4 y3.length c5), (9, .pointer (some ⟨j16g9, 0, none⟩)), (10, .bool j16.2.2.2)] ∧ St w0 [] wb [sl a4 c5 y3, bx j16g9 56 [.int .i64 j16.1, .int .i64 j16.2.1, .int .i64 j16.2.2.1]]) ?_ ?_
  · have h := hj16
    refine CW.draw (by kernel_rfl) ?_
    have hS7 := hS6.drew
    refine go ?_
    replace ⟨y18, hy18, h⟩ := obind h
    obtain ⟨b21, o22, cs23, hae, hb26, hp19, hq20, hd24, hk25⟩ := hr0_0.idx hy18
    subst hae
    obtain rfl := hd24
    refine AW.u (i := 2) rfl (by kernel_rfl) rfl rfl (Pur.ix Tryz.underlying59 sz138 rfl rfl hp19 hq20) ?_
    refine go ?_
    refine AW.take (i := 4) rfl (by kernel_rfl) rfl rfl (Ldr.oldN w0 ag56 rfl rfl (fun j u hu => oldsub (m := 3) hk25 2 hu)) (hS7.same _ hb26.1 hb26.2) ?_
    refine go ?_
    replace ⟨y27, hy27, h⟩ := obind h
    refine AW.all (rs := [6, 10]) (by kernel_rfl) (by simp) ⟨?_, ?_, trivial⟩
    · have q := W_i_AmtSub (w0 := w14.drew) hy27
      refine ⟨_, rfl, ?_⟩
      refine LW.call pl160 rfl rfl ?_
      refine Ret.mono q ?_
      rintro _ w32 ⟨rfl, hs⟩
      have hS8 := hS7.add hs
      refine LW.nil ⟨rfl, (.w (by kernel_rfl) (.w (by kernel_rfl) Kept.n)), ?_⟩
      refine AW.u (i := 7) rfl (by kernel_rfl) rfl rfl (Pur.p rfl) ?_
      refine go ?_
      refine AW.one (i := 10) (by kernel_rfl) ?_
      refine ⟨_, rfl, ?_⟩
      refine LW.al hS8 fun g33 w34 hS9 => ?_
      refine LW.nil ⟨rfl, (.c (St.cell (h := hS9) (i := 2) rfl) (.c (hS9.same _ hb26.1 hb26.2) Kept.n)), ?_⟩
      refine AW.one (i := 11) (by kernel_rfl) ?_
      refine ⟨_, rfl, ?_⟩
      refine LW.st hS9 0 fun w35 hS10 => ?_
      refine LW.nil ⟨rfl, (.w (by kernel_rfl) (.w (by kernel_rfl) Kept.n)), ?_⟩
      refine go ?_
      cases oi h
      exact ⟨g33, ⟨rfl, rfl, rfl, rfl, trivial⟩, hS10.pick [1, 0] rfl rfl⟩
    refine ⟨_, rfl, ?_⟩
    refine LW.al hS7 fun g36 w37 hS11 => ?_
    refine LW.nil ⟨rfl, (.c (St.cell (h := hS11) (i := 2) rfl) (.c (hS11.same _ hb26.1 hb26.2) Kept.n)), ?_⟩
    have q := W_i_AmtSub (w0 := w37) hy27
    refine AW.one (i := 6) (by kernel_rfl) ?_
    refine ⟨_, rfl, ?_⟩
    refine LW.call pl160 rfl rfl ?_
    refine Ret.mono q ?_
    rintro _ w38 ⟨rfl, hs⟩
    have hS12 := hS11.add hs
    refine LW.nil ⟨rfl, (.w (by kernel_rfl) (.w (by kernel_rfl) Kept.n)), ?_⟩
    refine go ?_
    refine AW.one (i := 11) (by kernel_rfl) ?_
    refine ⟨_, rfl, ?_⟩
    refine LW.st hS12 0 fun w39 hS13 => ?_
    refine LW.nil ⟨rfl, (.w (by kernel_rfl) (.w (by kernel_rfl) Kept.n)), ?_⟩
    refine go ?_
    cases oi h
    exact ⟨g36, ⟨rfl, rfl, rfl, rfl, trivial⟩, hS13.pick [1, 0] rfl rfl⟩
  rintro e w40 ⟨j16g9, hE, hS14⟩
  obtain ⟨e, rfl⟩ := hE.out
  have h := h17
  refine go ?_
  replace ⟨y41, hy41, h⟩ := obind h
  obtain ⟨b44, o45, hae, hp42, hq43⟩ := hS14.ownIdx (α := DRes) (i := 0) rfl hy41
  subst hae
  refine LW.u (Pur.ix Tryz.underlying59 sz138 rfl rfl hp42 hq43) rfl ?_
  refine go ?_
  replace ⟨y46, hy46, h⟩ := obind h
  refine LW.stE (M := []) (L := [sl (some ⟨b44, o45, none⟩) c5 y3, bx j16g9 56 [.int .i64 j16.1, .int .i64 j16.2.1, .int .i64 j16.2.2.1]]) (z := y41) (z' := (DRes.mk y41.live y41.parent (DAmt.mk j16.1 j16.2.1 j16.2.2.1))) (o := 2) hS14 (i := 0) rfl hy41 ag56 rfl (by show _ = o45 + (x1 : Int).toNat * 5 + 2; omega) rfl rfl rfl rfl (leafF (fun w cs F hF => by obtain ⟨rfl, rfl⟩ := hF; exact ⟨rfl, rfl⟩)) ?_
  intro w47 hS15 hf
  rw [Option.some.inj hy46] at hS15
  refine go ?_
  replace h := Option.some.inj h
  subst h
  exact And.intro trivial ⟨_, Res.two (resOne.t rfl) (resOne.t rfl), (some ⟨b44, o45, none⟩), c5, (show (.tuple #[.slice (some ⟨b44, o45, none⟩) y3.length c5, .bool j16.2.2.2] : Value) = .tuple #[.slice (some ⟨b44, o45, none⟩) y46.length c5, .bool j16.2.2.2] by rw [show y3.length = y46.length from (len_set (Option.some.inj hy46))]), hS15.pick [0] rfl rfl⟩

theorem W_i_PartOk {w0 : World} {N : Nat} {x0 : DPart} {r : Bool} (h : F_i_PartOk N x0 = some r) {a0_0 : Option Addr} {n0_0 c0_0 : Nat} (hn0_0 : n0_0 = x0.label.levels.length) (hr0_0 : rdS (Bor w0 []) w0 a0_0 c0_0 x0.label.levels) {a0_1 : Option Addr} {n0_1 c0_1 : Nat} (hn0_1 : n0_1 = x0.own.length) (hr0_1 : rdS (Bor w0 []) w0 a0_1 c0_1 x0.own) {a0_2 : Option Addr} {n0_2 c0_2 : Nat} (hn0_2 : n0_2 = x0.tree.length) (hr0_2 : rdS (Bor w0 []) w0 a0_2 c0_2 x0.tree) {a0_3 : Option Addr} {n0_3 c0_3 : Nat} (hn0_3 : n0_3 = x0.heap.arena.length) (hr0_3 : rdS (Bor w0 []) w0 a0_3 c0_3 x0.heap.arena) {a0_7 : Option Addr} {n0_7 c0_7 : Nat} (hn0_7 : n0_7 = x0.heap.gc.grey.length) (hr0_7 : rdS (Bor w0 []) w0 a0_7 c0_7 x0.heap.gc.grey) {a0_8 : Option Addr} {n0_8 c0_8 : Nat} (hn0_8 : n0_8 = x0.taps.length) (hr0_8 : rdS (Bor w0 []) w0 a0_8 c0_8 x0.taps) :
    Ret Tryz.prog 84 #[.agg #[.slice a0_0 n0_0 c0_0, .slice a0_1 n0_1 c0_1, .slice a0_2 n0_2 c0_2, .slice a0_3 n0_3 c0_3, .int .i64 x0.heap.gc.phase, .int .i64 x0.heap.gc.pos, .int .i64 x0.heap.gc.round, .slice a0_7 n0_7 c0_7, .slice a0_8 n0_8 c0_8, .int .i64 x0.next, .int .i64 x0.want, .int .i64 x0.spent.pages, .int .i64 x0.spent.rent, .int .i64 x0.spent.cpu, .int .i64 x0.press, .int .i64 x0.lost]] w0 (fun v w => v = .bool r ∧ St w0 [] w []) := by
  subst hn0_0 hn0_1 hn0_2 hn0_3 hn0_7 hn0_8
  unfold F_i_PartOk at h
  refine Ret.fn Tryz.func84 fun e => ?_
  have hS1 := St.start w0
  refine go ?_
  refine LW.bo hS1 fun g1 w2 hS2 => ?_
  refine go ?_
  obtain ⟨o21, ho21, h22⟩ := obind h
  refine CW.mono (CW.lx [1, 6, 7] [0] [1] 0 (fun s3 => [(8, .int .i64 s3)]) (RT Tryz.prog Tryz.f84.results (fun u => .bool u) w0 []) hS2 ho21 (hb := ?_)) ?_
  · intro s3 e w4 o hS3 h
    refine go ?_
    refine cd (fun hc5 => ?_) fun hc5 => ?_
    · replace h := bcT h hc5
      refine go ?_
      replace ⟨y6, hy6, h⟩ := obind h
      obtain ⟨b9, o10, cs11, hae, hb14, hp7, hq8, hd12, hk13⟩ := hr0_8.idx hy6
      subst hae
      obtain rfl := hd12
      refine LW.u (Pur.ix Tryz.underlying65 sz82 rfl rfl hp7 hq8) rfl ?_
      refine LW.l (Ldr.oldN w0 ag82 rfl rfl (fun j u hu => hk13 j u hu)) (hS3.same _ hb14.1 hb14.2) rfl ?_
      refine LW.al hS3 fun g15 w16 hS4 => ?_
      refine LW.st hS4 0 fun w17 hS5 => ?_
      refine go ?_
      replace ⟨y18, hy18, h⟩ := obind h
      refine LW.c0 (W_i_TapOk hy18) hS5 fun w19 hS6 => ?_
      refine go ?_
      refine CW.fl [1, 6, 7, 8, 14] fun e => ?_
      refine cd (fun hc20 => ?_) fun hc20 => ?_
      · replace h := bcT h hc20
        refine go ?_
        cases oi h
        exact ⟨trivial, rfl, _, rfl, ⟨_, Res.one (resOne.t rfl), rfl, hS6.pick [] rfl rfl⟩⟩
      replace h := bcF h hc20
      refine go ?_
      cases oi h
      exact ⟨rfl, ⟨⟨rfl, rfl, rfl, rfl, trivial⟩, hS6.pick [1] rfl rfl⟩⟩
    replace h := bcF h hc5
    refine go ?_
    cases oi h
    exact ⟨trivial, rfl, ⟨⟨rfl, trivial⟩, hS3.pick [0] rfl rfl⟩⟩
  intro x e w23 hM
  rcases o21 with o21 | r54
  · obtain ⟨rfl, hM⟩ := hM
    obtain ⟨hE, hS7⟩ := hM
    obtain ⟨e, rfl⟩ := hE.out
    have h := h22
    refine gs ?_
    obtain ⟨j24, hj24, h25⟩ := obind h
    refine CW.jn [1] [0] [(43, .bool j24)] hS7 (h1 := ?_) (h2 := ?_)
    · have h := hj24
      refine go ?_
      replace ⟨y26, hy26, h⟩ := obind h
      refine LW.c0 (W_i_LabelOk hy26 rfl (hS7.rB hr0_0)) hS7 fun w27 hS8 => ?_
      refine go ?_
      rcases bcases (!y26) with hc28 | hc28
      · replace h := bcT h hc28
        refine go ?_
        cases oi h
        exact ⟨⟨rfl, rfl, trivial⟩, hS8.pick [0] rfl rfl⟩
      replace h := bcF h hc28
      refine go ?_
      replace ⟨y29, hy29, h⟩ := obind h
      refine go ?_
      refine LW.c0 (W_i_OwnOk hy29 rfl (hS8.rB hr0_1)) hS8 fun w30 hS9 => ?_
      refine go ?_
      rcases bcases (!y29) with hc31 | hc31
      · replace h := bcT h hc31
        refine go ?_
        cases oi h
        exact ⟨⟨rfl, rfl, trivial⟩, hS9.pick [0] rfl rfl⟩
      replace h := bcF h hc31
      refine go ?_
      replace ⟨y32, hy32, h⟩ := obind h
      refine go ?_
      refine LW.c0 (W_i_TreeOk hy32 rfl (hS9.rB hr0_2)) hS9 fun w33 hS10 => ?_
      refine go ?_
      refine LW.fl [1, 32] fun e => ?_
      rcases bcases (!y32) with hc34 | hc34
      · replace h := bcT h hc34
        refine go ?_
        cases oi h
        exact ⟨⟨rfl, rfl, trivial⟩, hS10.pick [0] rfl rfl⟩
      replace h := bcF h hc34
      refine go ?_
      replace ⟨y35, hy35, h⟩ := obind h
      refine go ?_
      refine LW.c0 (W_i_HeapOk hy35 rfl (hS10.rB hr0_3) rfl (hS10.rB hr0_7)) hS10 fun w36 hS11 => ?_
      refine go ?_
      rcases bcases (!y35) with hc37 | hc37
      · replace h := bcT h hc37
        refine go ?_
        cases oi h
        exact ⟨⟨rfl, rfl, trivial⟩, hS11.pick [0] rfl rfl⟩
      replace h := bcF h hc37
      refine go ?_
      cases oi h
      exact ⟨⟨rfl, rfl, trivial⟩, hS11.pick [0] rfl rfl⟩
    intro e w38 hS12
    have h := h25
    refine go ?_
    refine cd (fun hc39 => ?_) fun hc39 => ?_
    · replace h := bcT h hc39
      refine go ?_
      cases h
      exact fi hS12
    replace h := bcF h hc39
    refine go ?_
    replace ⟨y40, hy40, h⟩ := obind h
    refine LW.c0 (W_i_isSlot hy40) hS12 fun w41 hS13 => ?_
    refine go ?_
    rcases bcases y40 with hc42 | hc42
    · replace h := bcT h hc42
      refine go ?_
      replace ⟨y43, hy43, h⟩ := obind h
      refine go ?_
      refine LW.c0 (W_i_within hy43) hS13 fun w44 hS14 => ?_
      refine go ?_
      rcases bcases y43 with hc45 | hc45
      · replace h := bcT h hc45
        refine go ?_
        replace ⟨y46, hy46, h⟩ := obind h
        refine go ?_
        refine LW.c0 (W_i_AmtOk hy46) hS14 fun w47 hS15 => ?_
        refine go ?_
        rcases bcases y46 with hc48 | hc48
        · replace h := bcT h hc48
          refine go ?_
          refine LW.fl [1, 57, 59] fun e => ?_
          replace ⟨y49, hy49, h⟩ := obind h
          refine go ?_
          refine LW.c0 (W_i_isTime hy49) hS15 fun w50 hS16 => ?_
          refine go ?_
          rcases bcases y49 with hc51 | hc51
          · replace h := bcT h hc51
            refine go ?_
            replace ⟨y52, hy52, h⟩ := obind h
            refine go ?_
            refine LW.c0 (W_i_isTime hy52) hS16 fun w53 hS17 => ?_
            refine go ?_
            cases h
            exact fi hS17
          replace h := bcF h hc51
          refine go ?_
          cases h
          exact fi hS16
        replace h := bcF h hc48
        refine go ?_
        cases h
        exact fi hS15
      replace h := bcF h hc45
      refine go ?_
      cases h
      exact fi hS14
    replace h := bcF h hc42
    refine go ?_
    cases h
    exact fi hS13
  obtain ⟨rfl, u, rfl, hM⟩ := hM
  cases h22
  exact And.intro trivial hM

theorem W_i_PartSum {w0 : World} {N : Nat} {x0 : DPart} {r : DAmt} (h : F_i_PartSum N x0 = some r) {a0_0 : Option Addr} {n0_0 c0_0 : Nat} (hn0_0 : n0_0 = x0.label.levels.length) (hr0_0 : rdS (Bor w0 []) w0 a0_0 c0_0 x0.label.levels) {a0_1 : Option Addr} {n0_1 c0_1 : Nat} (hn0_1 : n0_1 = x0.own.length) (hr0_1 : rdS (Bor w0 []) w0 a0_1 c0_1 x0.own) {a0_2 : Option Addr} {n0_2 c0_2 : Nat} (hn0_2 : n0_2 = x0.tree.length) (hr0_2 : rdS (Bor w0 []) w0 a0_2 c0_2 x0.tree) {a0_3 : Option Addr} {n0_3 c0_3 : Nat} (hn0_3 : n0_3 = x0.heap.arena.length) (hr0_3 : rdS (Bor w0 []) w0 a0_3 c0_3 x0.heap.arena) {a0_7 : Option Addr} {n0_7 c0_7 : Nat} (hn0_7 : n0_7 = x0.heap.gc.grey.length) (hr0_7 : rdS (Bor w0 []) w0 a0_7 c0_7 x0.heap.gc.grey) {a0_8 : Option Addr} {n0_8 c0_8 : Nat} (hn0_8 : n0_8 = x0.taps.length) (hr0_8 : rdS (Bor w0 []) w0 a0_8 c0_8 x0.taps) :
    Ret Tryz.prog 86 #[.agg #[.slice a0_0 n0_0 c0_0, .slice a0_1 n0_1 c0_1, .slice a0_2 n0_2 c0_2, .slice a0_3 n0_3 c0_3, .int .i64 x0.heap.gc.phase, .int .i64 x0.heap.gc.pos, .int .i64 x0.heap.gc.round, .slice a0_7 n0_7 c0_7, .slice a0_8 n0_8 c0_8, .int .i64 x0.next, .int .i64 x0.want, .int .i64 x0.spent.pages, .int .i64 x0.spent.rent, .int .i64 x0.spent.cpu, .int .i64 x0.press, .int .i64 x0.lost]] w0 (fun v w => v = .agg #[.int .i64 r.pages, .int .i64 r.rent, .int .i64 r.cpu] ∧ St w0 [] w []) := by
  subst hn0_0 hn0_1 hn0_2 hn0_3 hn0_7 hn0_8
  unfold F_i_PartSum at h
  refine Ret.fn Tryz.func86 fun e => ?_
  have hS1 := St.start w0
  refine go ?_
  refine LW.bo hS1 fun g1 w2 hS2 => ?_
  refine LW.al hS2 fun g3 w4 hS3 => ?_
  refine go ?_
  replace ⟨y5, hy5, h⟩ := obind h
  refine LW.c0 (W_i_TreeSum hy5 rfl (hS3.rB hr0_2)) hS3 fun w6 hS4 => ?_
  refine LW.al hS4 fun g7 w8 hS5 => ?_
  refine LW.st hS5 0 fun w9 hS6 => ?_
  refine go ?_
  replace ⟨y10, hy10, h⟩ := obind h
  refine LW.c0 (W_i_AmtOk hy10) hS6 fun w11 hS7 => ?_
  refine go ?_
  refine cd (fun hc12 => ?_) fun hc12 => ?_
  · replace h := bcT h hc12
    refine go ?_
    refine LW.st hS7 1 fun w13 hS8 => ?_
    refine go ?_
    cases h
    exact And.intro trivial ⟨_, Res.one (resOne.b hS8 1 rfl ag56 rfl rfl), rfl, hS8.pick [] rfl rfl⟩
  replace h := bcF h hc12
  refine go ?_
  refine CW.draw (by kernel_rfl) ?_
  have hS9 := hS7.drew
  refine go ?_
  replace ⟨y14, hy14, h⟩ := obind h
  have q := W_i_Held (w0 := w11.drew) hy14 rfl (hS9.rB hr0_0) rfl (hS9.rB hr0_1) rfl (hS9.rB hr0_2) rfl (hS9.rB hr0_3) rfl (hS9.rB hr0_7) rfl (hS9.rB hr0_8)
  refine AW.one (i := 3) (by kernel_rfl) ?_
  refine ⟨_, rfl, ?_⟩
  refine LW.call pl155 rfl rfl ?_
  refine Ret.mono q ?_
  rintro _ w15 ⟨rfl, hs⟩
  have hS10 := hS9.add hs
  refine LW.nil ⟨rfl, (.w (by kernel_rfl) (.c (St.cell (h := hS10) (i := 0) rfl) Kept.n)), ?_⟩
  refine go ?_
  refine AW.one (i := 6) (by kernel_rfl) ?_
  refine ⟨_, rfl, ?_⟩
  refine LW.st hS10 0 fun w16 hS11 => ?_
  refine LW.nil ⟨rfl, (.w (by kernel_rfl) (.w (by kernel_rfl) Kept.n)), ?_⟩
  refine go ?_
  replace ⟨y17, hy17, h⟩ := obind h
  refine LW.c0 (W_i_sumOf hy17) hS11 fun w18 hS12 => ?_
  refine LW.st hS12 1 fun w19 hS13 => ?_
  refine go ?_
  cases h
  exact And.intro trivial ⟨_, Res.one (resOne.b hS13 1 rfl ag56 rfl rfl), rfl, hS13.pick [] rfl rfl⟩

theorem W_i_TreeBack {w0 : World} {N : Nat} {x0 : List DRes} {x1 : Int} {x2 : DAmt} {r : (List DRes) × Bool} (h : F_i_TreeBack N x0 x1 x2 = some r) {a0_0 : Option Addr} {n0_0 c0_0 : Nat} (hn0_0 : n0_0 = x0.length) (hr0_0 : rdS (Bor w0 []) w0 a0_0 c0_0 x0) :
    Ret Tryz.prog 95 #[.slice a0_0 n0_0 c0_0, .int .i64 x1, .agg #[.int .i64 x2.pages, .int .i64 x2.rent, .int .i64 x2.cpu]] w0 (fun v w => ∃ ar0 cr0, v = .tuple #[.slice ar0 r.1.length cr0, .bool r.2] ∧ St w0 [] w [sl ar0 cr0 r.1]) := by
  subst hn0_0
  unfold F_i_TreeBack at h
  refine Ret.fn Tryz.func95 fun e => ?_
  have hS1 := St.start w0
  refine go ?_
  refine LW.bo hS1 fun g1 w2 hS2 => ?_
  refine go ?_
  replace ⟨y3, hy3, h⟩ := obind h
  refine LW.cl (W_i_copyTree hy3 rfl (hS2.rB hr0_0)) ?_
  rintro _ w6 ⟨a4, c5, rfl, hs⟩
  have hS3 := hS2.add hs
  refine gs ?_
  obtain ⟨j7, hj7, h8⟩ := obind h
  refine CW.jn [0, 1, 5, 8] [0, 1] [(26, .bool j7)] hS3 (h1 := ?_) (h2 := ?_)
  · have h := hj7
    refine CW.draw (by kernel_rfl) ?_
    have hS4 := hS3.drew
    refine go ?_
    replace ⟨y9, hy9, h⟩ := obind h
    have q := W_i_TreeOk (w0 := w6.drew) hy9 rfl (hS4.rB hr0_0)
    refine AW.one (i := 1) (by kernel_rfl) ?_
    refine ⟨_, rfl, ?_⟩
    refine LW.call pl89 rfl rfl ?_
    refine Ret.mono q ?_
    rintro _ w10 ⟨rfl, hs⟩
    have hS5 := hS4.add hs
    refine LW.nil ⟨rfl, Kept.n, ?_⟩
    refine go ?_
    rcases bcases (!y9) with hc11 | hc11
    · replace h := bcT h hc11
      refine go ?_
      cases oi h
      exact ⟨⟨rfl, rfl, rfl, rfl, rfl, trivial⟩, hS5.pick [0, 1] rfl rfl⟩
    replace h := bcF h hc11
    refine go ?_
    replace ⟨y12, hy12, h⟩ := obind h
    have q := W_i_AmtOk (w0 := w10) hy12
    refine AW.one (i := 5) (by kernel_rfl) ?_
    refine ⟨_, rfl, ?_⟩
    refine (LW.gY (want_of rfl rfl hc11) ?_)
    refine LW.call pl87 rfl rfl ?_
    refine Ret.mono q ?_
    rintro _ w13 ⟨rfl, hs⟩
    have hS6 := hS5.add hs
    refine LW.nil ⟨rfl, (.w (by kernel_rfl) Kept.n), ?_⟩
    refine go ?_
    rcases bcases (!y12) with hc14 | hc14
    · replace h := bcT h hc14
      refine go ?_
      cases oi h
      exact ⟨⟨rfl, rfl, rfl, rfl, rfl, trivial⟩, hS6.pick [0, 1] rfl rfl⟩
    replace h := bcF h hc14
    refine go ?_
    replace ⟨y15, hy15, h⟩ := obind h
    have q := W_i_TreeSum (w0 := w13) hy15 rfl (hS6.rB hr0_0)
    refine AW.one (i := 10) (by kernel_rfl) ?_
    refine ⟨_, rfl, ?_⟩
    refine (LW.gY (want_of rfl rfl hc14) ?_)
    refine LW.call pl154 rfl rfl ?_
    refine Ret.mono q ?_
    rintro _ w16 ⟨rfl, hs⟩
    have hS7 := hS6.add hs
    refine LW.nil ⟨rfl, (.c (St.cell (h := hS7) (i := 1) rfl) (.c (St.cell (h := hS7) (i := 1) rfl) Kept.n)), ?_⟩
    replace ⟨y17, hy17, h⟩ := obind h
    have q := W_i_sumOf (w0 := w16) hy17
    refine AW.one (i := 12) (by kernel_rfl) ?_
    refine ⟨_, rfl, ?_⟩
    refine (LW.gY (want_of rfl rfl hc14) ?_)
    refine LW.call pl85 rfl rfl ?_
    refine Ret.mono q ?_
    rintro _ w18 ⟨rfl, hs⟩
    have hS8 := hS7.add hs
    refine LW.nil ⟨rfl, (.w (by kernel_rfl) (.c (St.cell (h := hS8) (i := 1) rfl) Kept.n)), ?_⟩
    replace ⟨y19, hy19, h⟩ := obind h
    have q := W_i_AmtOk (w0 := w18) hy19
    refine AW.one (i := 13) (by kernel_rfl) ?_
    refine ⟨_, rfl, ?_⟩
    refine (LW.gY (want_of rfl rfl hc14) ?_)
    refine LW.call pl87 rfl rfl ?_
    refine Ret.mono q ?_
    rintro _ w20 ⟨rfl, hs⟩
    have hS9 := hS8.add hs
    refine LW.nil ⟨rfl, (.c (St.cell (h := hS9) (i := 1) rfl) (.c (St.cell (h := hS9) (i := 1) rfl) Kept.n)), ?_⟩
    refine go ?_
    cases oi h
    exact ⟨⟨rfl, rfl, rfl, rfl, rfl, trivial⟩, hS9.pick [0, 1] rfl rfl⟩
  intro e w21 hS10
  have h := h8
  refine go ?_
  refine cd (fun hc22 => ?_) fun hc22 => ?_
  · replace h := bcT h hc22
    refine go ?_
    cases h
    exact And.intro trivial ⟨_, Res.two (resOne.t rfl) (resOne.t rfl), a4, c5, rfl, hS10.pick [0] rfl rfl⟩
  replace h := bcF h hc22
  refine go ?_
  replace ⟨y23, hy23, h⟩ := obind h
  refine LW.c0 (W_i_isLive hy23 rfl (hS10.rB hr0_0)) hS10 fun w24 hS11 => ?_
  refine gs ?_
  obtain ⟨j25, hj25, h26⟩ := obind h
  refine CW.jn [5, 8] [0, 1] [(1, .int .i64 j25)] hS11 (h1 := ?_) (h2 := ?_)
  · have h := hj25
    refine cd (fun hc27 => ?_) fun hc27 => ?_
    · replace h := bcT h hc27
      refine go ?_
      cases oi h
      exact ⟨⟨rfl, rfl, rfl, trivial⟩, hS11.pick [0, 1] rfl rfl⟩
    replace h := bcF h hc27
    refine go ?_
    cases oi h
    exact ⟨⟨rfl, rfl, rfl, trivial⟩, hS11.pick [0, 1] rfl rfl⟩
  intro e w28 hS12
  have h := h26
  refine go ?_
  refine CW.draw (by kernel_rfl) ?_
  have hS13 := hS12.drew
  refine go ?_
  replace ⟨y29, hy29, h⟩ := obind h
  obtain ⟨b32, o33, hae, hp30, hq31⟩ := hS13.ownIdx (α := DRes) (i := 0) rfl hy29
  subst hae
  refine AW.u (i := 4) rfl (by kernel_rfl) rfl rfl (Pur.ix Tryz.underlying59 sz138 rfl rfl hp30 hq31) ?_
  refine go ?_
  obtain ⟨F34, ho35, hS14⟩ := hS13.freeze (α := DRes) 0 rfl
  obtain ⟨b36, o37, cs38, hae, hb41, _, _, hd39, hk40⟩ := ho35.rdF.idx hy29
  cases hae
  obtain rfl := hd39
  refine AW.take (i := 6) rfl (by kernel_rfl) rfl rfl (Ldr.oldN w28.drew ag56 rfl rfl (fun j u hu => oldsub (m := 3) hk40 2 hu)) (hS14.zC 0 rfl hb41) ?_
  refine go ?_
  replace ⟨y42, hy42, h⟩ := obind h
  have q := W_i_sumOf (w0 := w28.drew) hy42
  refine AW.one (i := 8) (by kernel_rfl) ?_
  refine ⟨_, rfl, ?_⟩
  refine LW.call pl85 rfl rfl ?_
  refine Ret.mono q ?_
  rintro _ w43 ⟨rfl, hs⟩
  have hS15 := hS14.add hs
  refine LW.nil ⟨rfl, (.w (by kernel_rfl) (.w (by kernel_rfl) Kept.n)), ?_⟩
  refine AW.u (i := 9) rfl (by kernel_rfl) rfl rfl (Pur.ix Tryz.underlying59 sz138 rfl rfl hp30 hq31) ?_
  refine go ?_
  have hS16 := hS15.thaw (α := DRes) 0 rfl ho35
  replace ⟨y44, hy44, h⟩ := obind h
  refine AW.one (i := 11) (by kernel_rfl) ?_
  refine ⟨_, rfl, ?_⟩
  refine LW.stE (M := []) (L := [sl (some ⟨b32, o33, none⟩) c5 y3, bx g1 56 [.int .i64 x2.pages, .int .i64 x2.rent, .int .i64 x2.cpu]]) (z := y29) (z' := (DRes.mk y29.live y29.parent y42)) (o := 2) hS16 (i := 0) rfl hy29 ag56 rfl (by show _ = o33 + (j25 : Int).toNat * 5 + 2; omega) rfl rfl rfl rfl (leafF (fun w cs F hF => by obtain ⟨rfl, rfl⟩ := hF; exact ⟨rfl, rfl⟩)) ?_
  intro w45 hS17 hf
  rw [Option.some.inj hy44] at hS17
  refine LW.nil ⟨rfl, (.w (by kernel_rfl) (.w (by kernel_rfl) Kept.n)), ?_⟩
  refine go ?_
  replace h := Option.some.inj h
  subst h
  exact And.intro trivial ⟨_, Res.two (resOne.t rfl) (resOne.t rfl), (some ⟨b32, o33, none⟩), c5, (show (.tuple #[.slice (some ⟨b32, o33, none⟩) y3.length c5, .bool true] : Value) = .tuple #[.slice (some ⟨b32, o33, none⟩) y44.length c5, .bool true] by rw [show y3.length = y44.length from (len_set (Option.some.inj hy44))]), hS17.pick [0] rfl rfl⟩

theorem W_i_WorldOk {w0 : World} {N : Nat} {x0 : DWorld} {r : Bool} (h : F_i_WorldOk N x0 = some r) {a0_1 : Option Addr} {n0_1 c0_1 : Nat} (hn0_1 : n0_1 = x0.parts.length) (hr0_1 : rdS (Bor w0 []) w0 a0_1 c0_1 x0.parts) :
    Ret Tryz.prog 37 #[.agg #[.int .i64 x0.now, .slice a0_1 n0_1 c0_1]] w0 (fun v w => v = .bool r ∧ St w0 [] w []) := by
  subst hn0_1
  unfold F_i_WorldOk at h
  refine Ret.fn Tryz.func37 fun e => ?_
  have hS1 := St.start w0
  refine go ?_
  refine LW.bo hS1 fun g1 w2 hS2 => ?_
  refine gs ?_
  obtain ⟨j3, hj3, h4⟩ := obind h
  refine CW.jn [1] [0] [(16, .bool j3)] hS2 (h1 := ?_) (h2 := ?_)
  · have h := hj3
    refine go ?_
    replace ⟨y5, hy5, h⟩ := obind h
    refine LW.c0 (W_i_isTime hy5) hS2 fun w6 hS3 => ?_
    refine go ?_
    rcases bcases (!y5) with hc7 | hc7
    · replace h := bcT h hc7
      refine go ?_
      cases oi h
      exact ⟨⟨rfl, rfl, trivial⟩, hS3.pick [0] rfl rfl⟩
    replace h := bcF h hc7
    refine go ?_
    replace ⟨y8, hy8, h⟩ := obind h
    refine go ?_
    refine LW.c0 (W_i_within hy8) hS3 fun w9 hS4 => ?_
    refine go ?_
    cases oi h
    exact ⟨⟨rfl, rfl, trivial⟩, hS4.pick [0] rfl rfl⟩
  intro e w10 hS5
  have h := h4
  refine go ?_
  refine cd (fun hc11 => ?_) fun hc11 => ?_
  · replace h := bcT h hc11
    refine go ?_
    cases h
    exact fi hS5
  replace h := bcF h hc11
  refine go ?_
  refine LW.u (Pur.build (vs := []) (cs := #[.int .i64 0, .int .i64 0, .int .i64 0]) rfl (by kernel_rfl)) rfl ?_
  refine LW.al hS5 fun g12 w13 hS6 => ?_
  refine LW.st hS6 0 fun w14 hS7 => ?_
  refine go ?_
  obtain ⟨o56, ho56, h57⟩ := obind h
  refine CW.mono (CW.iter (σ := Int × Int × Int × Int) (ρ := (Int × Int × Int × Int) ⊕ Bool) (fun s15 e wb => En e [(3, .pointer (some ⟨g12, 0, none⟩)), (19, .slice a0_1 x0.parts.length c0_1), (20, .int .i64 (x0.parts.length : Int)), (21, .int .i64 s15.1)] ∧ St w0 [] wb [bx g12 56 [.int .i64 s15.2.1, .int .i64 s15.2.2.1, .int .i64 s15.2.2.2]]) (fun o x e wb => match o with | .inl s15 => x = .exit 0 ∧ En e [(3, .pointer (some ⟨g12, 0, none⟩))] ∧ St w0 [] wb [bx g12 56 [.int .i64 s15.2.1, .int .i64 s15.2.2.1, .int .i64 s15.2.2.2]] | .inr r => x = .ret ∧ ∃ u, u = r ∧ ∃ v, Res Tryz.prog Tryz.f37.results e wb v ∧ v = .bool u ∧ St w0 [] wb []) ?_ N (0, 0, 0, 0) _ _ _ ⟨⟨rfl, rfl, rfl, rfl, trivial⟩, hS7.pick [0] rfl rfl⟩ ho56) ?_
  · intro s15 e w16 o hM h
    obtain ⟨hE, hS8⟩ := hM
    obtain ⟨e, rfl⟩ := hE.out
    refine go ?_
    refine cd (fun hc17 => ?_) fun hc17 => ?_
    · replace h := bcT h hc17
      refine go ?_
      replace ⟨y18, hy18, h⟩ := obind h
      obtain ⟨b21, o22, cs23, hae, hb26, hp19, hq20, hd24, hk25⟩ := hr0_1.idx hy18
      subst hae
      obtain ⟨a27, c28, a30, c31, a33, c34, a36, c37, a39, c40, a42, c43, rfl, hr29, hr32, hr35, hr38, hr41, hr44⟩ := hd24
      refine LW.u (Pur.ix Tryz.underlying25 sz67 rfl rfl hp19 hq20) rfl ?_
      refine LW.l (Ldr.oldN w0 ag67 rfl rfl (fun j u hu => hk25 j u hu)) (hS8.same _ hb26.1 hb26.2) rfl ?_
      refine LW.al hS8 fun g45 w46 hS9 => ?_
      refine LW.st hS9 0 fun w47 hS10 => ?_
      refine go ?_
      replace ⟨y48, hy48, h⟩ := obind h
      refine LW.c0 (W_i_PartOk hy48 rfl (hS10.rB hr29) rfl (hS10.rB hr32) rfl (hS10.rB hr35) rfl (hS10.rB hr38) rfl (hS10.rB hr41) rfl (hS10.rB hr44)) hS10 fun w49 hS11 => ?_
      refine go ?_
      refine CW.fl [3, 5, 19, 20, 21, 27] fun e => ?_
      refine cd (fun hc50 => ?_) fun hc50 => ?_
      · replace h := bcT h hc50
        refine go ?_
        cases oi h
        exact ⟨trivial, rfl, _, rfl, ⟨_, Res.one (resOne.t rfl), rfl, hS11.pick [] rfl rfl⟩⟩
      replace h := bcF h hc50
      refine go ?_
      refine CW.draw (by kernel_rfl) ?_
      have hS12 := hS11.drew
      refine go ?_
      replace ⟨y51, hy51, h⟩ := obind h
      have q := W_i_PartSum (w0 := w49.drew) hy51 rfl (hS12.rB hr29) rfl (hS12.rB hr32) rfl (hS12.rB hr35) rfl (hS12.rB hr38) rfl (hS12.rB hr41) rfl (hS12.rB hr44)
      refine AW.one (i := 2) (by kernel_rfl) ?_
      refine ⟨_, rfl, ?_⟩
      refine LW.call pl86 rfl rfl ?_
      refine Ret.mono q ?_
      rintro _ w52 ⟨rfl, hs⟩
      have hS13 := hS12.add hs
      refine LW.nil ⟨rfl, (.w (by kernel_rfl) (.c (St.cell (h := hS13) (i := 1) rfl) Kept.n)), ?_⟩
      replace ⟨y53, hy53, h⟩ := obind h
      have q := W_i_sumOf (w0 := w52) hy53
      refine AW.one (i := 3) (by kernel_rfl) ?_
      refine ⟨_, rfl, ?_⟩
      refine LW.call pl85 rfl rfl ?_
      refine Ret.mono q ?_
      rintro _ w54 ⟨rfl, hs⟩
      have hS14 := hS13.add hs
      refine LW.nil ⟨rfl, (.c (St.cell (h := hS14) (i := 0) rfl) (.w (by kernel_rfl) Kept.n)), ?_⟩
      refine AW.one (i := 4) (by kernel_rfl) ?_
      refine ⟨_, rfl, ?_⟩
      refine LW.st hS14 1 fun w55 hS15 => ?_
      refine LW.nil ⟨rfl, (.w (by kernel_rfl) (.w (by kernel_rfl) Kept.n)), ?_⟩
      refine go ?_
      cases oi h
      exact ⟨rfl, ⟨⟨rfl, rfl, rfl, rfl, trivial⟩, hS15.pick [1] rfl rfl⟩⟩
    replace h := bcF h hc17
    refine go ?_
    cases oi h
    exact ⟨trivial, rfl, ⟨⟨rfl, trivial⟩, hS8.pick [0] rfl rfl⟩⟩
  intro x e w58 hM
  rcases o56 with o56 | r61
  · obtain ⟨rfl, hM⟩ := hM
    obtain ⟨hE, hS16⟩ := hM
    obtain ⟨e, rfl⟩ := hE.out
    have h := h57
    refine go ?_
    replace ⟨y59, hy59, h⟩ := obind h
    refine LW.c0 (W_i_AmtOk hy59) hS16 fun w60 hS17 => ?_
    refine go ?_
    cases h
    exact fi hS17
  obtain ⟨rfl, u, rfl, hM⟩ := hM
  cases h57
  exact And.intro trivial hM

end Go.Kx
