/- Each call returns what the plain function says. Printed by drive.py. -/
import Derived.Test.YtfllimolhpblnaaGreatFa
import Derived.Test.YtfllimolhpblnaaGreatPu
import Derived.Test.YtfllimolhpblnaaGreatWa0
import Derived.Test.YtfllimolhpblnaaGreatWa1
import Derived.Test.YtfllimolhpblnaaGreatWa3
import Derived.Test.YtfllimolhpblnaaGreatWa5
namespace Go.Kx
open Go Go.RowKit Go.Proofs
set_option maxRecDepth 10000
set_option maxHeartbeats 2000000
set_option linter.unusedVariables false
set_option linter.unusedSimpArgs false
theorem W_l_eqPart {w0 : World} {N : Nat} {x0 : DPart} {x1 : DPart} {r : Bool} (h : F_l_eqPart N x0 x1 = some r) {a0_0 : Option Addr} {n0_0 c0_0 : Nat} (hn0_0 : n0_0 = x0.label.levels.length) (hr0_0 : rdS (Bor w0 []) w0 a0_0 c0_0 x0.label.levels) {a0_1 : Option Addr} {n0_1 c0_1 : Nat} (hn0_1 : n0_1 = x0.own.length) (hr0_1 : rdS (Bor w0 []) w0 a0_1 c0_1 x0.own) {a0_2 : Option Addr} {n0_2 c0_2 : Nat} (hn0_2 : n0_2 = x0.tree.length) (hr0_2 : rdS (Bor w0 []) w0 a0_2 c0_2 x0.tree) {a0_3 : Option Addr} {n0_3 c0_3 : Nat} (hn0_3 : n0_3 = x0.heap.arena.length) (hr0_3 : rdS (Bor w0 []) w0 a0_3 c0_3 x0.heap.arena) {a0_7 : Option Addr} {n0_7 c0_7 : Nat} (hn0_7 : n0_7 = x0.heap.gc.grey.length) (hr0_7 : rdS (Bor w0 []) w0 a0_7 c0_7 x0.heap.gc.grey) {a0_8 : Option Addr} {n0_8 c0_8 : Nat} (hn0_8 : n0_8 = x0.taps.length) (hr0_8 : rdS (Bor w0 []) w0 a0_8 c0_8 x0.taps) {a1_0 : Option Addr} {n1_0 c1_0 : Nat} (hn1_0 : n1_0 = x1.label.levels.length) (hr1_0 : rdS (Bor w0 []) w0 a1_0 c1_0 x1.label.levels) {a1_1 : Option Addr} {n1_1 c1_1 : Nat} (hn1_1 : n1_1 = x1.own.length) (hr1_1 : rdS (Bor w0 []) w0 a1_1 c1_1 x1.own) {a1_2 : Option Addr} {n1_2 c1_2 : Nat} (hn1_2 : n1_2 = x1.tree.length) (hr1_2 : rdS (Bor w0 []) w0 a1_2 c1_2 x1.tree) {a1_3 : Option Addr} {n1_3 c1_3 : Nat} (hn1_3 : n1_3 = x1.heap.arena.length) (hr1_3 : rdS (Bor w0 []) w0 a1_3 c1_3 x1.heap.arena) {a1_7 : Option Addr} {n1_7 c1_7 : Nat} (hn1_7 : n1_7 = x1.heap.gc.grey.length) (hr1_7 : rdS (Bor w0 []) w0 a1_7 c1_7 x1.heap.gc.grey) {a1_8 : Option Addr} {n1_8 c1_8 : Nat} (hn1_8 : n1_8 = x1.taps.length) (hr1_8 : rdS (Bor w0 []) w0 a1_8 c1_8 x1.taps) :
    Ret Tryz.prog 26 #[.agg #[.slice a0_0 n0_0 c0_0, .slice a0_1 n0_1 c0_1, .slice a0_2 n0_2 c0_2, .slice a0_3 n0_3 c0_3, .int .i64 x0.heap.gc.phase, .int .i64 x0.heap.gc.pos, .int .i64 x0.heap.gc.round, .slice a0_7 n0_7 c0_7, .slice a0_8 n0_8 c0_8, .int .i64 x0.next, .int .i64 x0.want, .int .i64 x0.spent.pages, .int .i64 x0.spent.rent, .int .i64 x0.spent.cpu, .int .i64 x0.press, .int .i64 x0.lost], .agg #[.slice a1_0 n1_0 c1_0, .slice a1_1 n1_1 c1_1, .slice a1_2 n1_2 c1_2, .slice a1_3 n1_3 c1_3, .int .i64 x1.heap.gc.phase, .int .i64 x1.heap.gc.pos, .int .i64 x1.heap.gc.round, .slice a1_7 n1_7 c1_7, .slice a1_8 n1_8 c1_8, .int .i64 x1.next, .int .i64 x1.want, .int .i64 x1.spent.pages, .int .i64 x1.spent.rent, .int .i64 x1.spent.cpu, .int .i64 x1.press, .int .i64 x1.lost]] w0 (fun v w => v = .bool r ∧ St w0 [] w []) := by
  subst hn0_0 hn0_1 hn0_2 hn0_3 hn0_7 hn0_8 hn1_0 hn1_1 hn1_2 hn1_3 hn1_7 hn1_8
  unfold F_l_eqPart at h
  refine Ret.fn Tryz.func26 fun e => ?_
  have hS1 := St.start w0
  refine go ?_
  refine LW.bo hS1 fun g1 w2 hS2 => ?_
  refine LW.bo hS2 fun g3 w4 hS3 => ?_
  refine go ?_
  replace ⟨y5, hy5, h⟩ := obind h
  refine LW.c0 (W_l_eqLabel hy5 rfl (hS3.rB hr0_0) rfl (hS3.rB hr1_0)) hS3 fun w6 hS4 => ?_
  refine go ?_
  refine CW.cond rfl (fun hc7 => ?_) (fun hc7 => ?_)
  · replace h := bcT h hc7
    refine go ?_
    cases h
    exact And.intro trivial ⟨_, Res.one (resOne.t rfl), rfl, hS4.pick [] rfl rfl⟩
  replace h := bcF h hc7
  refine go ?_
  replace ⟨y8, hy8, h⟩ := obind h
  refine LW.c0 (W_l_eqIntS hy8 rfl (hS4.rB hr0_1) rfl (hS4.rB hr1_1)) hS4 fun w9 hS5 => ?_
  refine go ?_
  refine CW.fl [2, 3, 16] fun e => ?_
  refine CW.cond rfl (fun hc10 => ?_) (fun hc10 => ?_)
  · replace h := bcT h hc10
    refine go ?_
    cases h
    exact And.intro trivial ⟨_, Res.one (resOne.t rfl), rfl, hS5.pick [] rfl rfl⟩
  replace h := bcF h hc10
  refine go ?_
  replace ⟨y11, hy11, h⟩ := obind h
  refine LW.c0 (W_l_eqResS hy11 rfl (hS5.rB hr0_2) rfl (hS5.rB hr1_2)) hS5 fun w12 hS6 => ?_
  refine go ?_
  refine CW.cond rfl (fun hc13 => ?_) (fun hc13 => ?_)
  · replace h := bcT h hc13
    refine go ?_
    cases h
    exact And.intro trivial ⟨_, Res.one (resOne.t rfl), rfl, hS6.pick [] rfl rfl⟩
  replace h := bcF h hc13
  refine go ?_
  replace ⟨y14, hy14, h⟩ := obind h
  refine LW.c0 (W_l_eqHeap hy14 rfl (hS6.rB hr0_3) rfl (hS6.rB hr0_7) rfl (hS6.rB hr1_3) rfl (hS6.rB hr1_7)) hS6 fun w15 hS7 => ?_
  refine go ?_
  refine CW.cond rfl (fun hc16 => ?_) (fun hc16 => ?_)
  · replace h := bcT h hc16
    refine go ?_
    cases h
    exact And.intro trivial ⟨_, Res.one (resOne.t rfl), rfl, hS7.pick [] rfl rfl⟩
  replace h := bcF h hc16
  refine go ?_
  replace ⟨y17, hy17, h⟩ := obind h
  refine LW.c0 (W_l_eqTapS hy17 rfl (hS7.rB hr0_8) rfl (hS7.rB hr1_8)) hS7 fun w18 hS8 => ?_
  refine go ?_
  refine CW.fl [2, 3, 34] fun e => ?_
  refine CW.cond rfl (fun hc19 => ?_) (fun hc19 => ?_)
  · replace h := bcT h hc19
    refine go ?_
    cases h
    exact And.intro trivial ⟨_, Res.one (resOne.t rfl), rfl, hS8.pick [] rfl rfl⟩
  replace h := bcF h hc19
  refine go ?_
  refine CW.cond rfl (fun hc20 => ?_) (fun hc20 => ?_)
  · replace h := bcT h hc20
    refine go ?_
    cases h
    exact And.intro trivial ⟨_, Res.one (resOne.t rfl), rfl, hS8.pick [] rfl rfl⟩
  replace h := bcF h hc20
  refine go ?_
  refine CW.cond rfl (fun hc21 => ?_) (fun hc21 => ?_)
  · replace h := bcT h hc21
    refine go ?_
    cases h
    exact And.intro trivial ⟨_, Res.one (resOne.t rfl), rfl, hS8.pick [] rfl rfl⟩
  replace h := bcF h hc21
  refine go ?_
  replace ⟨y22, hy22, h⟩ := obind h
  refine LW.c0 (W_l_eqAmt hy22) hS8 fun w23 hS9 => ?_
  refine go ?_
  refine CW.fl [2, 3, 50] fun e => ?_
  refine CW.cond rfl (fun hc24 => ?_) (fun hc24 => ?_)
  · replace h := bcT h hc24
    refine go ?_
    cases h
    exact And.intro trivial ⟨_, Res.one (resOne.t rfl), rfl, hS9.pick [] rfl rfl⟩
  replace h := bcF h hc24
  refine go ?_
  refine CW.cond rfl (fun hc25 => ?_) (fun hc25 => ?_)
  · replace h := bcT h hc25
    refine go ?_
    cases h
    exact And.intro trivial ⟨_, Res.one (resOne.t rfl), rfl, hS9.pick [] rfl rfl⟩
  replace h := bcF h hc25
  refine go ?_
  refine CW.cond rfl (fun hc26 => ?_) (fun hc26 => ?_)
  · replace h := bcT h hc26
    refine go ?_
    cases h
    exact And.intro trivial ⟨_, Res.one (resOne.t rfl), rfl, hS9.pick [] rfl rfl⟩
  replace h := bcF h hc26
  refine go ?_
  cases h
  exact And.intro trivial ⟨_, Res.one (resOne.t rfl), rfl, hS9.pick [] rfl rfl⟩

theorem W_i_PartOk {w0 : World} {N : Nat} {x0 : DPart} {r : Bool} (h : F_i_PartOk N x0 = some r) {a0_0 : Option Addr} {n0_0 c0_0 : Nat} (hn0_0 : n0_0 = x0.label.levels.length) (hr0_0 : rdS (Bor w0 []) w0 a0_0 c0_0 x0.label.levels) {a0_1 : Option Addr} {n0_1 c0_1 : Nat} (hn0_1 : n0_1 = x0.own.length) (hr0_1 : rdS (Bor w0 []) w0 a0_1 c0_1 x0.own) {a0_2 : Option Addr} {n0_2 c0_2 : Nat} (hn0_2 : n0_2 = x0.tree.length) (hr0_2 : rdS (Bor w0 []) w0 a0_2 c0_2 x0.tree) {a0_3 : Option Addr} {n0_3 c0_3 : Nat} (hn0_3 : n0_3 = x0.heap.arena.length) (hr0_3 : rdS (Bor w0 []) w0 a0_3 c0_3 x0.heap.arena) {a0_7 : Option Addr} {n0_7 c0_7 : Nat} (hn0_7 : n0_7 = x0.heap.gc.grey.length) (hr0_7 : rdS (Bor w0 []) w0 a0_7 c0_7 x0.heap.gc.grey) {a0_8 : Option Addr} {n0_8 c0_8 : Nat} (hn0_8 : n0_8 = x0.taps.length) (hr0_8 : rdS (Bor w0 []) w0 a0_8 c0_8 x0.taps) :
    Ret Tryz.prog 69 #[.agg #[.slice a0_0 n0_0 c0_0, .slice a0_1 n0_1 c0_1, .slice a0_2 n0_2 c0_2, .slice a0_3 n0_3 c0_3, .int .i64 x0.heap.gc.phase, .int .i64 x0.heap.gc.pos, .int .i64 x0.heap.gc.round, .slice a0_7 n0_7 c0_7, .slice a0_8 n0_8 c0_8, .int .i64 x0.next, .int .i64 x0.want, .int .i64 x0.spent.pages, .int .i64 x0.spent.rent, .int .i64 x0.spent.cpu, .int .i64 x0.press, .int .i64 x0.lost]] w0 (fun v w => v = .bool r ∧ St w0 [] w []) := by
  subst hn0_0 hn0_1 hn0_2 hn0_3 hn0_7 hn0_8
  unfold F_i_PartOk at h
  refine Ret.fn Tryz.func69 fun e => ?_
  have hS1 := St.start w0
  refine go ?_
  refine LW.bo hS1 fun g1 w2 hS2 => ?_
  refine go ?_
  obtain ⟨o21, ho21, h22⟩ := obind h
  refine CW.mono (CW.iter (σ := Int) (ρ := Int ⊕ Bool) (fun s3 e wb => En e [(1, .pointer (some ⟨g1, 0, none⟩)), (6, .slice a0_8 x0.taps.length c0_8), (7, .int .i64 (x0.taps.length : Int)), (8, .int .i64 s3)] ∧ St w0 [] wb [bx g1 66 [.slice a0_0 x0.label.levels.length c0_0, .slice a0_1 x0.own.length c0_1, .slice a0_2 x0.tree.length c0_2, .slice a0_3 x0.heap.arena.length c0_3, .int .i64 x0.heap.gc.phase, .int .i64 x0.heap.gc.pos, .int .i64 x0.heap.gc.round, .slice a0_7 x0.heap.gc.grey.length c0_7, .slice a0_8 x0.taps.length c0_8, .int .i64 x0.next, .int .i64 x0.want, .int .i64 x0.spent.pages, .int .i64 x0.spent.rent, .int .i64 x0.spent.cpu, .int .i64 x0.press, .int .i64 x0.lost]]) (fun o x e wb => match o with | .inl s3 => x = .exit 0 ∧ En e [(1, .pointer (some ⟨g1, 0, none⟩))] ∧ St w0 [] wb [bx g1 66 [.slice a0_0 x0.label.levels.length c0_0, .slice a0_1 x0.own.length c0_1, .slice a0_2 x0.tree.length c0_2, .slice a0_3 x0.heap.arena.length c0_3, .int .i64 x0.heap.gc.phase, .int .i64 x0.heap.gc.pos, .int .i64 x0.heap.gc.round, .slice a0_7 x0.heap.gc.grey.length c0_7, .slice a0_8 x0.taps.length c0_8, .int .i64 x0.next, .int .i64 x0.want, .int .i64 x0.spent.pages, .int .i64 x0.spent.rent, .int .i64 x0.spent.cpu, .int .i64 x0.press, .int .i64 x0.lost]] | .inr r => x = .ret ∧ ∃ u, u = r ∧ ∃ v, Res Tryz.prog Tryz.f69.results e wb v ∧ v = .bool u ∧ St w0 [] wb []) ?_ N 0 _ _ _ ⟨⟨rfl, rfl, rfl, rfl, trivial⟩, hS2.pick [0] rfl rfl⟩ ho21) ?_
  · intro s3 e w4 o hM h
    obtain ⟨hE, hS3⟩ := hM
    obtain ⟨e, rfl⟩ := hE.out
    refine go ?_
    refine CW.cond rfl (fun hc5 => ?_) (fun hc5 => ?_)
    · replace h := bcT h hc5
      refine go ?_
      replace ⟨y6, hy6, h⟩ := obind h
      obtain ⟨b9, o10, cs11, hae, hb14, hp7, hq8, hd12, hk13⟩ := hr0_8.idx hy6
      subst hae
      obtain rfl := hd12
      refine LW.u (Pur.ix Tryz.underlying63 sz131 rfl rfl hp7 hq8) rfl ?_
      refine LW.l (Ldr.oldN w0 ag131 rfl rfl (fun j u hu => hk13 j u hu)) (hS3.same _ hb14.1 hb14.2) rfl ?_
      refine LW.al hS3 fun g15 w16 hS4 => ?_
      refine LW.st hS4 0 fun w17 hS5 => ?_
      refine go ?_
      replace ⟨y18, hy18, h⟩ := obind h
      refine LW.c0 (W_i_TapOk hy18) hS5 fun w19 hS6 => ?_
      refine go ?_
      refine CW.fl [1, 6, 7, 8, 14] fun e => ?_
      refine CW.cond rfl (fun hc20 => ?_) (fun hc20 => ?_)
      · replace h := bcT h hc20
        refine go ?_
        cases oi h
        exact ⟨trivial, rfl, _, rfl, ⟨_, Res.one (resOne.t rfl), rfl, hS6.pick [] rfl rfl⟩⟩
      replace h := bcF h hc20
      refine go ?_
      cases oi h
      exact ⟨rfl, ⟨⟨rfl, rfl, rfl, rfl, trivial⟩, hS6.pick [1] rfl rfl⟩⟩
    replace h := bcF h hc5
    refine go ?_
    cases oi h
    exact ⟨trivial, rfl, ⟨⟨rfl, trivial⟩, hS3.pick [0] rfl rfl⟩⟩
  intro x e w23 hM
  rcases o21 with o21 | r54
  · obtain ⟨rfl, hM⟩ := hM
    obtain ⟨hE, hS7⟩ := hM
    obtain ⟨e, rfl⟩ := hE.out
    have h := h22
    refine gs ?_
    obtain ⟨j24, hj24, h25⟩ := obind h
    refine CW.cut (fun e wb => En e [(1, .pointer (some ⟨g1, 0, none⟩)), (43, .bool j24)] ∧ St w0 [] wb [bx g1 66 [.slice a0_0 x0.label.levels.length c0_0, .slice a0_1 x0.own.length c0_1, .slice a0_2 x0.tree.length c0_2, .slice a0_3 x0.heap.arena.length c0_3, .int .i64 x0.heap.gc.phase, .int .i64 x0.heap.gc.pos, .int .i64 x0.heap.gc.round, .slice a0_7 x0.heap.gc.grey.length c0_7, .slice a0_8 x0.taps.length c0_8, .int .i64 x0.next, .int .i64 x0.want, .int .i64 x0.spent.pages, .int .i64 x0.spent.rent, .int .i64 x0.spent.cpu, .int .i64 x0.press, .int .i64 x0.lost]]) ?_ ?_
    · have h := hj24
      refine go ?_
      replace ⟨y26, hy26, h⟩ := obind h
      refine LW.c0 (W_i_LabelOk hy26 rfl (hS7.rB hr0_0)) hS7 fun w27 hS8 => ?_
      refine go ?_
      rcases bcases (!y26) with hc28 | hc28
      · replace h := bcT h hc28
        refine go ?_
        cases oi h
        exact ⟨⟨rfl, rfl, trivial⟩, hS8.pick [0] rfl rfl⟩
      replace h := bcF h hc28
      refine go ?_
      replace ⟨y29, hy29, h⟩ := obind h
      refine go ?_
      refine LW.c0 (W_i_OwnOk hy29 rfl (hS8.rB hr0_1)) hS8 fun w30 hS9 => ?_
      refine go ?_
      rcases bcases (!y29) with hc31 | hc31
      · replace h := bcT h hc31
        refine go ?_
        cases oi h
        exact ⟨⟨rfl, rfl, trivial⟩, hS9.pick [0] rfl rfl⟩
      replace h := bcF h hc31
      refine go ?_
      replace ⟨y32, hy32, h⟩ := obind h
      refine go ?_
      refine LW.c0 (W_i_TreeOk hy32 rfl (hS9.rB hr0_2)) hS9 fun w33 hS10 => ?_
      refine go ?_
      refine LW.fl [1, 32] fun e => ?_
      rcases bcases (!y32) with hc34 | hc34
      · replace h := bcT h hc34
        refine go ?_
        cases oi h
        exact ⟨⟨rfl, rfl, trivial⟩, hS10.pick [0] rfl rfl⟩
      replace h := bcF h hc34
      refine go ?_
      replace ⟨y35, hy35, h⟩ := obind h
      refine go ?_
      refine LW.c0 (W_i_HeapOk hy35 rfl (hS10.rB hr0_3) rfl (hS10.rB hr0_7)) hS10 fun w36 hS11 => ?_
      refine go ?_
      rcases bcases (!y35) with hc37 | hc37
      · replace h := bcT h hc37
        refine go ?_
        cases oi h
        exact ⟨⟨rfl, rfl, trivial⟩, hS11.pick [0] rfl rfl⟩
      replace h := bcF h hc37
      refine go ?_
      cases oi h
      exact ⟨⟨rfl, rfl, trivial⟩, hS11.pick [0] rfl rfl⟩
    rintro e w38 ⟨hE, hS12⟩
    obtain ⟨e, rfl⟩ := hE.out
    have h := h25
    refine go ?_
    refine CW.cond rfl (fun hc39 => ?_) (fun hc39 => ?_)
    · replace h := bcT h hc39
      refine go ?_
      cases h
      exact And.intro trivial ⟨_, Res.one (resOne.t rfl), rfl, hS12.pick [] rfl rfl⟩
    replace h := bcF h hc39
    refine go ?_
    replace ⟨y40, hy40, h⟩ := obind h
    refine LW.c0 (W_i_isSlot hy40) hS12 fun w41 hS13 => ?_
    refine go ?_
    rcases bcases y40 with hc42 | hc42
    · replace h := bcT h hc42
      refine go ?_
      replace ⟨y43, hy43, h⟩ := obind h
      refine go ?_
      refine LW.c0 (W_i_within hy43) hS13 fun w44 hS14 => ?_
      refine go ?_
      rcases bcases y43 with hc45 | hc45
      · replace h := bcT h hc45
        refine go ?_
        replace ⟨y46, hy46, h⟩ := obind h
        refine go ?_
        refine LW.c0 (W_i_AmtOk hy46) hS14 fun w47 hS15 => ?_
        refine go ?_
        rcases bcases y46 with hc48 | hc48
        · replace h := bcT h hc48
          refine go ?_
          refine LW.fl [1, 57, 59] fun e => ?_
          replace ⟨y49, hy49, h⟩ := obind h
          refine go ?_
          refine LW.c0 (W_i_isTime hy49) hS15 fun w50 hS16 => ?_
          refine go ?_
          rcases bcases y49 with hc51 | hc51
          · replace h := bcT h hc51
            refine go ?_
            replace ⟨y52, hy52, h⟩ := obind h
            refine go ?_
            refine LW.c0 (W_i_isTime hy52) hS16 fun w53 hS17 => ?_
            refine go ?_
            cases h
            exact And.intro trivial ⟨_, Res.one (resOne.t rfl), rfl, hS17.pick [] rfl rfl⟩
          replace h := bcF h hc51
          refine go ?_
          cases h
          exact And.intro trivial ⟨_, Res.one (resOne.t rfl), rfl, hS16.pick [] rfl rfl⟩
        replace h := bcF h hc48
        refine go ?_
        cases h
        exact And.intro trivial ⟨_, Res.one (resOne.t rfl), rfl, hS15.pick [] rfl rfl⟩
      replace h := bcF h hc45
      refine go ?_
      cases h
      exact And.intro trivial ⟨_, Res.one (resOne.t rfl), rfl, hS14.pick [] rfl rfl⟩
    replace h := bcF h hc42
    refine go ?_
    cases h
    exact And.intro trivial ⟨_, Res.one (resOne.t rfl), rfl, hS13.pick [] rfl rfl⟩
  obtain ⟨rfl, u, rfl, hM⟩ := hM
  cases h22
  exact And.intro trivial hM

end Go.Kx
