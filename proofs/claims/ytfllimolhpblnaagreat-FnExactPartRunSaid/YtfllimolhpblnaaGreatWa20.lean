/- Each call returns what the plain function says. Printed by drive.py. -/
import Derived.Test.YtfllimolhpblnaaGreatFa
import Derived.Test.YtfllimolhpblnaaGreatPu
import Derived.Test.YtfllimolhpblnaaGreatWa3
import Derived.Test.YtfllimolhpblnaaGreatWa5
import Derived.Test.YtfllimolhpblnaaGreatWa6
import Derived.Test.YtfllimolhpblnaaGreatWa14
import Derived.Test.YtfllimolhpblnaaGreatWa21
namespace Go.Kx
open Go Go.RowKit Go.Proofs
set_option maxRecDepth 10000
set_option maxHeartbeats 2000000
set_option linter.unusedVariables false
set_option linter.unusedSimpArgs false
theorem W_s_ResOf {w0 : World} {N : Nat} {x0 : DPart} {x1 : Int} {r : Int} (h : F_s_ResOf N x0 x1 = some r) {a0_0 : Option Addr} {n0_0 c0_0 : Nat} (hn0_0 : n0_0 = x0.label.levels.length) (hr0_0 : rdS (Bor w0 []) w0 a0_0 c0_0 x0.label.levels) {a0_1 : Option Addr} {n0_1 c0_1 : Nat} (hn0_1 : n0_1 = x0.own.length) (hr0_1 : rdS (Bor w0 []) w0 a0_1 c0_1 x0.own) {a0_2 : Option Addr} {n0_2 c0_2 : Nat} (hn0_2 : n0_2 = x0.tree.length) (hr0_2 : rdS (Bor w0 []) w0 a0_2 c0_2 x0.tree) {a0_3 : Option Addr} {n0_3 c0_3 : Nat} (hn0_3 : n0_3 = x0.heap.arena.length) (hr0_3 : rdS (Bor w0 []) w0 a0_3 c0_3 x0.heap.arena) {a0_7 : Option Addr} {n0_7 c0_7 : Nat} (hn0_7 : n0_7 = x0.heap.gc.grey.length) (hr0_7 : rdS (Bor w0 []) w0 a0_7 c0_7 x0.heap.gc.grey) {a0_8 : Option Addr} {n0_8 c0_8 : Nat} (hn0_8 : n0_8 = x0.taps.length) (hr0_8 : rdS (Bor w0 []) w0 a0_8 c0_8 x0.taps) :
    Ret Tryz.prog 91 #[.agg #[.slice a0_0 n0_0 c0_0, .slice a0_1 n0_1 c0_1, .slice a0_2 n0_2 c0_2, .slice a0_3 n0_3 c0_3, .int .i64 x0.heap.gc.phase, .int .i64 x0.heap.gc.pos, .int .i64 x0.heap.gc.round, .slice a0_7 n0_7 c0_7, .slice a0_8 n0_8 c0_8, .int .i64 x0.next, .int .i64 x0.want, .int .i64 x0.spent.pages, .int .i64 x0.spent.rent, .int .i64 x0.spent.cpu, .int .i64 x0.press, .int .i64 x0.lost], .int .i64 x1] w0 (fun v w => v = .int .i64 r ∧ St w0 [] w []) := by
  subst hn0_0 hn0_1 hn0_2 hn0_3 hn0_7 hn0_8
  unfold F_s_ResOf at h
  refine Ret.fn Tryz.func91 fun e => ?_
  have hS1 := St.start w0
  refine go ?_
  refine LW.bo hS1 fun g1 w2 hS2 => ?_
  refine go ?_
  replace ⟨y3, hy3, h⟩ := obind h
  refine LW.c0 (W_s_l6Live hy3 rfl (hS2.rB hr0_2)) hS2 fun w4 hS3 => ?_
  refine go ?_
  refine CW.cond rfl (fun hc5 => ?_) (fun hc5 => ?_)
  · replace h := bcT h hc5
    refine go ?_
    cases h
    exact And.intro trivial ⟨_, Res.one (resOne.t rfl), rfl, hS3.pick [] rfl rfl⟩
  replace h := bcF h hc5
  refine go ?_
  cases h
  exact And.intro trivial ⟨_, Res.one (resOne.t rfl), rfl, hS3.pick [] rfl rfl⟩

theorem W_i_ResOf {w0 : World} {N : Nat} {x0 : DPart} {x1 : Int} {r : Int} (h : F_i_ResOf N x0 x1 = some r) {a0_0 : Option Addr} {n0_0 c0_0 : Nat} (hn0_0 : n0_0 = x0.label.levels.length) (hr0_0 : rdS (Bor w0 []) w0 a0_0 c0_0 x0.label.levels) {a0_1 : Option Addr} {n0_1 c0_1 : Nat} (hn0_1 : n0_1 = x0.own.length) (hr0_1 : rdS (Bor w0 []) w0 a0_1 c0_1 x0.own) {a0_2 : Option Addr} {n0_2 c0_2 : Nat} (hn0_2 : n0_2 = x0.tree.length) (hr0_2 : rdS (Bor w0 []) w0 a0_2 c0_2 x0.tree) {a0_3 : Option Addr} {n0_3 c0_3 : Nat} (hn0_3 : n0_3 = x0.heap.arena.length) (hr0_3 : rdS (Bor w0 []) w0 a0_3 c0_3 x0.heap.arena) {a0_7 : Option Addr} {n0_7 c0_7 : Nat} (hn0_7 : n0_7 = x0.heap.gc.grey.length) (hr0_7 : rdS (Bor w0 []) w0 a0_7 c0_7 x0.heap.gc.grey) {a0_8 : Option Addr} {n0_8 c0_8 : Nat} (hn0_8 : n0_8 = x0.taps.length) (hr0_8 : rdS (Bor w0 []) w0 a0_8 c0_8 x0.taps) :
    Ret Tryz.prog 96 #[.agg #[.slice a0_0 n0_0 c0_0, .slice a0_1 n0_1 c0_1, .slice a0_2 n0_2 c0_2, .slice a0_3 n0_3 c0_3, .int .i64 x0.heap.gc.phase, .int .i64 x0.heap.gc.pos, .int .i64 x0.heap.gc.round, .slice a0_7 n0_7 c0_7, .slice a0_8 n0_8 c0_8, .int .i64 x0.next, .int .i64 x0.want, .int .i64 x0.spent.pages, .int .i64 x0.spent.rent, .int .i64 x0.spent.cpu, .int .i64 x0.press, .int .i64 x0.lost], .int .i64 x1] w0 (fun v w => v = .int .i64 r ∧ St w0 [] w []) := by
  subst hn0_0 hn0_1 hn0_2 hn0_3 hn0_7 hn0_8
  unfold F_i_ResOf at h
  refine Ret.fn Tryz.func96 fun e => ?_
  have hS1 := St.start w0
  refine go ?_
  refine LW.bo hS1 fun g1 w2 hS2 => ?_
  refine gs ?_
  obtain ⟨j3, hj3, h4⟩ := obind h
  refine CW.cut (fun e wb => En e [(1, .int .i64 x1), (15, .bool j3)] ∧ St w0 [] wb []) ?_ ?_
  · have h := hj3
    refine go ?_
    replace ⟨y5, hy5, h⟩ := obind h
    refine LW.c0 (W_i_TreeOk hy5 rfl (hS2.rB hr0_2)) hS2 fun w6 hS3 => ?_
    refine go ?_
    rcases bcases (!y5) with hc7 | hc7
    · replace h := bcT h hc7
      refine go ?_
      cases oi h
      exact ⟨⟨rfl, rfl, trivial⟩, hS3.pick [] rfl rfl⟩
    replace h := bcF h hc7
    refine go ?_
    replace ⟨y8, hy8, h⟩ := obind h
    refine go ?_
    refine LW.c0 (W_i_isLive hy8 rfl (hS3.rB hr0_2)) hS3 fun w9 hS4 => ?_
    refine go ?_
    cases oi h
    exact ⟨⟨rfl, rfl, trivial⟩, hS4.pick [] rfl rfl⟩
  rintro e w10 ⟨hE, hS5⟩
  obtain ⟨e, rfl⟩ := hE.out
  have h := h4
  refine go ?_
  refine CW.cond rfl (fun hc11 => ?_) (fun hc11 => ?_)
  · replace h := bcT h hc11
    refine go ?_
    cases h
    exact And.intro trivial ⟨_, Res.one (resOne.t rfl), rfl, hS5.pick [] rfl rfl⟩
  replace h := bcF h hc11
  refine go ?_
  cases h
  exact And.intro trivial ⟨_, Res.one (resOne.t rfl), rfl, hS5.pick [] rfl rfl⟩

theorem W_s_Threads {w0 : World} {N : Nat} {x0 : DPart} {x1 : Int} {r : (List Int)} (h : F_s_Threads N x0 x1 = some r) {a0_0 : Option Addr} {n0_0 c0_0 : Nat} (hn0_0 : n0_0 = x0.label.levels.length) (hr0_0 : rdS (Bor w0 []) w0 a0_0 c0_0 x0.label.levels) {a0_1 : Option Addr} {n0_1 c0_1 : Nat} (hn0_1 : n0_1 = x0.own.length) (hr0_1 : rdS (Bor w0 []) w0 a0_1 c0_1 x0.own) {a0_2 : Option Addr} {n0_2 c0_2 : Nat} (hn0_2 : n0_2 = x0.tree.length) (hr0_2 : rdS (Bor w0 []) w0 a0_2 c0_2 x0.tree) {a0_3 : Option Addr} {n0_3 c0_3 : Nat} (hn0_3 : n0_3 = x0.heap.arena.length) (hr0_3 : rdS (Bor w0 []) w0 a0_3 c0_3 x0.heap.arena) {a0_7 : Option Addr} {n0_7 c0_7 : Nat} (hn0_7 : n0_7 = x0.heap.gc.grey.length) (hr0_7 : rdS (Bor w0 []) w0 a0_7 c0_7 x0.heap.gc.grey) {a0_8 : Option Addr} {n0_8 c0_8 : Nat} (hn0_8 : n0_8 = x0.taps.length) (hr0_8 : rdS (Bor w0 []) w0 a0_8 c0_8 x0.taps) :
    Ret Tryz.prog 158 #[.agg #[.slice a0_0 n0_0 c0_0, .slice a0_1 n0_1 c0_1, .slice a0_2 n0_2 c0_2, .slice a0_3 n0_3 c0_3, .int .i64 x0.heap.gc.phase, .int .i64 x0.heap.gc.pos, .int .i64 x0.heap.gc.round, .slice a0_7 n0_7 c0_7, .slice a0_8 n0_8 c0_8, .int .i64 x0.next, .int .i64 x0.want, .int .i64 x0.spent.pages, .int .i64 x0.spent.rent, .int .i64 x0.spent.cpu, .int .i64 x0.press, .int .i64 x0.lost], .int .i64 x1] w0 (fun v w => ∃ ar0 cr0, v = .slice ar0 r.length cr0 ∧ St w0 [] w [sl ar0 cr0 r]) := by
  subst hn0_0 hn0_1 hn0_2 hn0_3 hn0_7 hn0_8
  unfold F_s_Threads at h
  refine Ret.fn Tryz.func158 fun e => ?_
  have hS1 := St.start w0
  refine go ?_
  refine LW.bo hS1 fun g1 w2 hS2 => ?_
  refine go ?_
  refine LW.bsl (α := Int) (vs := []) (cs := #[]) (l := ([] : List Int)) rfl (by kernel_rfl) rfl rfl rfl (fun w => rfl) hS2 rfl ?_
  intro a3 c4 w5 hS3 hf
  refine go ?_
  replace ⟨y6, hy6, h⟩ := obind h
  refine LW.c0 (W_s_PartOk hy6 rfl (hS3.rB hr0_0) rfl (hS3.rB hr0_1) rfl (hS3.rB hr0_2) rfl (hS3.rB hr0_3) rfl (hS3.rB hr0_7) rfl (hS3.rB hr0_8)) hS3 fun w7 hS4 => ?_
  refine go ?_
  refine CW.cond rfl (fun hc8 => ?_) (fun hc8 => ?_)
  · replace h := bcT h hc8
    refine go ?_
    cases h
    exact And.intro trivial ⟨_, Res.one (resOne.t rfl), a3, c4, rfl, hS4.pick [0] rfl rfl⟩
  replace h := bcF h hc8
  refine go ?_
  replace ⟨y9, hy9, h⟩ := obind h
  refine LW.cl (W_s_Reach hy9 rfl (hS4.rB hr0_3)) ?_
  rintro _ w12 ⟨a10, c11, rfl, hs⟩
  have hS5 := hS4.add hs
  refine go ?_
  obtain ⟨o57, ho57, h58⟩ := obind h
  refine CW.mono (CW.iter (σ := (List Int) × Int) (ρ := (List Int) × Int) (fun s13 e wb => ∃ (s13a0 : Option Addr), ∃ (s13c0 : Nat), En e [(2, .pointer (some ⟨g1, 0, none⟩)), (5, .slice s13a0 s13.1.length s13c0), (6, .slice a10 y9.length c11), (7, .int .i64 s13.2)] ∧ St w0 [] wb [sl a10 c11 y9, sl s13a0 s13c0 s13.1, bx g1 66 [.slice a0_0 x0.label.levels.length c0_0, .slice a0_1 x0.own.length c0_1, .slice a0_2 x0.tree.length c0_2, .slice a0_3 x0.heap.arena.length c0_3, .int .i64 x0.heap.gc.phase, .int .i64 x0.heap.gc.pos, .int .i64 x0.heap.gc.round, .slice a0_7 x0.heap.gc.grey.length c0_7, .slice a0_8 x0.taps.length c0_8, .int .i64 x0.next, .int .i64 x0.want, .int .i64 x0.spent.pages, .int .i64 x0.spent.rent, .int .i64 x0.spent.cpu, .int .i64 x0.press, .int .i64 x0.lost]]) (fun s13 x e wb => x = .exit 0 ∧ ∃ (s13a0 : Option Addr), ∃ (s13c0 : Nat), En e [(5, .slice s13a0 s13.1.length s13c0)] ∧ St w0 [] wb [sl a10 c11 y9, sl s13a0 s13c0 s13.1, bx g1 66 [.slice a0_0 x0.label.levels.length c0_0, .slice a0_1 x0.own.length c0_1, .slice a0_2 x0.tree.length c0_2, .slice a0_3 x0.heap.arena.length c0_3, .int .i64 x0.heap.gc.phase, .int .i64 x0.heap.gc.pos, .int .i64 x0.heap.gc.round, .slice a0_7 x0.heap.gc.grey.length c0_7, .slice a0_8 x0.taps.length c0_8, .int .i64 x0.next, .int .i64 x0.want, .int .i64 x0.spent.pages, .int .i64 x0.spent.rent, .int .i64 x0.spent.cpu, .int .i64 x0.press, .int .i64 x0.lost]]) ?_ N (([] : List Int), 0) _ _ _ ⟨a3, c4, ⟨rfl, rfl, rfl, rfl, trivial⟩, hS5.pick [0, 1, 2] rfl rfl⟩ ho57) ?_
  · intro s13 e w14 o hM h
    obtain ⟨s13a0, s13c0, hE, hS6⟩ := hM
    obtain ⟨e, rfl⟩ := hE.out
    refine go ?_
    refine CW.fl [2, 5, 6, 7, 21] fun e => ?_
    refine CW.cond rfl (fun hc15 => ?_) (fun hc15 => ?_)
    · replace h := bcT h hc15
      refine gs ?_
      refine CW.block ?_
      refine gs ?_
      obtain ⟨j16, hj16, h17⟩ := obind h
      refine CW.cut (fun e wb => En e [(2, .pointer (some ⟨g1, 0, none⟩)), (5, .slice s13a0 s13.1.length s13c0), (6, .slice a10 y9.length c11), (7, .int .i64 s13.2), (37, .bool j16)] ∧ St w0 [] wb [sl a10 c11 y9, sl s13a0 s13c0 s13.1, bx g1 66 [.slice a0_0 x0.label.levels.length c0_0, .slice a0_1 x0.own.length c0_1, .slice a0_2 x0.tree.length c0_2, .slice a0_3 x0.heap.arena.length c0_3, .int .i64 x0.heap.gc.phase, .int .i64 x0.heap.gc.pos, .int .i64 x0.heap.gc.round, .slice a0_7 x0.heap.gc.grey.length c0_7, .slice a0_8 x0.taps.length c0_8, .int .i64 x0.next, .int .i64 x0.want, .int .i64 x0.spent.pages, .int .i64 x0.spent.rent, .int .i64 x0.spent.cpu, .int .i64 x0.press, .int .i64 x0.lost]]) ?_ ?_
      · have h := hj16
        refine go ?_
        replace ⟨y18, hy18, h⟩ := obind h
        obtain ⟨b21, o22, hae, hp19, hq20⟩ := hS6.ownIdx (α := Bool) (i := 0) rfl hy18
        subst hae
        refine LW.u (Pur.ix Tryz.underlying140 sz4 rfl rfl hp19 hq20) rfl ?_
        obtain ⟨F23, ho24, hS7⟩ := hS6.freeze (α := Bool) 0 rfl
        obtain ⟨b25, o26, cs27, hae, hb30, _, _, hd28, hk29⟩ := ho24.rdF.idx hy18
        cases hae
        obtain rfl := hd28
        refine LW.l (Ldr.old w14 ag4 rfl (hk29 0 _ rfl)) (hS7.zC 0 rfl hb30) rfl ?_
        refine go ?_
        rcases bcases y18 with hc31 | hc31
        · replace h := bcT h hc31
          refine go ?_
          replace ⟨y32, hy32, h⟩ := obind h
          obtain ⟨b35, o36, cs37, hae, hb40, hp33, hq34, hd38, hk39⟩ := hr0_3.idx hy32
          subst hae
          obtain ⟨a41, c42, a44, c45, a47, c48, rfl, hr43, hr46, hr49⟩ := hd38
          refine go ?_
          refine LW.u (Pur.ix Tryz.underlying59 sz92 rfl rfl hp33 hq34) rfl ?_
          refine go ?_
          refine LW.l (Ldr.old w0 ag3 rfl (hk39 1 _ rfl)) (hS7.same _ hb40.1 hb40.2) rfl ?_
          refine go ?_
          have hS8 := hS7.thaw (α := Bool) 0 rfl ho24
          cases oi h
          exact ⟨⟨rfl, rfl, rfl, rfl, rfl, trivial⟩, hS8.pick [0, 1, 2] rfl rfl⟩
        replace h := bcF h hc31
        refine go ?_
        have hS9 := hS7.thaw (α := Bool) 0 rfl ho24
        cases oi h
        exact ⟨⟨rfl, rfl, rfl, rfl, rfl, trivial⟩, hS9.pick [0, 1, 2] rfl rfl⟩
      rintro e w50 ⟨hE, hS10⟩
      obtain ⟨e, rfl⟩ := hE.out
      have h := h17
      refine go ?_
      refine CW.cond rfl (fun hc51 => ?_) (fun hc51 => ?_)
      · replace h := bcT h hc51
        refine go ?_
        replace ⟨y52, hy52, h⟩ := obind h
        refine LW.app1 (M := []) (L := [sl a10 c11 y9, sl s13a0 s13c0 s13.1, bx g1 66 [.slice a0_0 x0.label.levels.length c0_0, .slice a0_1 x0.own.length c0_1, .slice a0_2 x0.tree.length c0_2, .slice a0_3 x0.heap.arena.length c0_3, .int .i64 x0.heap.gc.phase, .int .i64 x0.heap.gc.pos, .int .i64 x0.heap.gc.round, .slice a0_7 x0.heap.gc.grey.length c0_7, .slice a0_8 x0.taps.length c0_8, .int .i64 x0.next, .int .i64 x0.want, .int .i64 x0.spent.pages, .int .i64 x0.spent.rent, .int .i64 x0.spent.cpu, .int .i64 x0.press, .int .i64 x0.lost]]) (vs := #[.int .i64 s13.2]) (i := 1) sT28 rfl (by kernel_rfl) rfl rfl hy52 hS10 rfl (fun w G hG => by cases (show G = [] from hG); exact ⟨rfl, rfl⟩) rfl rfl ?_
        intro v55 a53 c54 w56 hS11 hf
        refine go ?_
        cases oi h
        exact ⟨rfl, ⟨a53, c54, ⟨rfl, rfl, rfl, rfl, trivial⟩, hS11.pick [0, 1, 2] rfl rfl⟩⟩
      replace h := bcF h hc51
      refine go ?_
      cases oi h
      exact ⟨rfl, ⟨s13a0, s13c0, ⟨rfl, rfl, rfl, rfl, trivial⟩, hS10.pick [0, 1, 2] rfl rfl⟩⟩
    replace h := bcF h hc15
    refine go ?_
    cases oi h
    exact ⟨trivial, rfl, ⟨s13a0, s13c0, ⟨rfl, trivial⟩, hS6.pick [0, 1, 2] rfl rfl⟩⟩
  intro x e w59 hM
  obtain ⟨rfl, hM⟩ := hM
  obtain ⟨s13a0, s13c0, hE, hS12⟩ := hM
  obtain ⟨e, rfl⟩ := hE.out
  have h := h58
  refine go ?_
  cases h
  exact And.intro trivial ⟨_, Res.one (resOne.t rfl), s13a0, s13c0, rfl, hS12.pick [1] rfl rfl⟩

theorem W_i_balOf {w0 : World} {N : Nat} {x0 : DPart} {x1 : Int} {r : DAmt} (h : F_i_balOf N x0 x1 = some r) {a0_0 : Option Addr} {n0_0 c0_0 : Nat} (hn0_0 : n0_0 = x0.label.levels.length) (hr0_0 : rdS (Bor w0 []) w0 a0_0 c0_0 x0.label.levels) {a0_1 : Option Addr} {n0_1 c0_1 : Nat} (hn0_1 : n0_1 = x0.own.length) (hr0_1 : rdS (Bor w0 []) w0 a0_1 c0_1 x0.own) {a0_2 : Option Addr} {n0_2 c0_2 : Nat} (hn0_2 : n0_2 = x0.tree.length) (hr0_2 : rdS (Bor w0 []) w0 a0_2 c0_2 x0.tree) {a0_3 : Option Addr} {n0_3 c0_3 : Nat} (hn0_3 : n0_3 = x0.heap.arena.length) (hr0_3 : rdS (Bor w0 []) w0 a0_3 c0_3 x0.heap.arena) {a0_7 : Option Addr} {n0_7 c0_7 : Nat} (hn0_7 : n0_7 = x0.heap.gc.grey.length) (hr0_7 : rdS (Bor w0 []) w0 a0_7 c0_7 x0.heap.gc.grey) {a0_8 : Option Addr} {n0_8 c0_8 : Nat} (hn0_8 : n0_8 = x0.taps.length) (hr0_8 : rdS (Bor w0 []) w0 a0_8 c0_8 x0.taps) :
    Ret Tryz.prog 160 #[.agg #[.slice a0_0 n0_0 c0_0, .slice a0_1 n0_1 c0_1, .slice a0_2 n0_2 c0_2, .slice a0_3 n0_3 c0_3, .int .i64 x0.heap.gc.phase, .int .i64 x0.heap.gc.pos, .int .i64 x0.heap.gc.round, .slice a0_7 n0_7 c0_7, .slice a0_8 n0_8 c0_8, .int .i64 x0.next, .int .i64 x0.want, .int .i64 x0.spent.pages, .int .i64 x0.spent.rent, .int .i64 x0.spent.cpu, .int .i64 x0.press, .int .i64 x0.lost], .int .i64 x1] w0 (fun v w => v = .agg #[.int .i64 r.pages, .int .i64 r.rent, .int .i64 r.cpu] ∧ St w0 [] w []) := by
  subst hn0_0 hn0_1 hn0_2 hn0_3 hn0_7 hn0_8
  unfold F_i_balOf at h
  refine Ret.fn Tryz.func160 fun e => ?_
  have hS1 := St.start w0
  refine go ?_
  refine LW.bo hS1 fun g1 w2 hS2 => ?_
  refine LW.al hS2 fun g3 w4 hS3 => ?_
  refine go ?_
  refine CW.draw (by kernel_rfl) ?_
  have hS4 := hS3.drew
  refine AW.u (i := 0) rfl (by kernel_rfl) rfl rfl (Pur.fa fo66_2 rfl) ?_
  refine AW.take (i := 1) rfl (by kernel_rfl) rfl rfl (Ldr.box (bt := 66) (fr := (0, 0)) (cs := [.slice a0_0 x0.label.levels.length c0_0, .slice a0_1 x0.own.length c0_1, .slice a0_2 x0.tree.length c0_2, .slice a0_3 x0.heap.arena.length c0_3, .int .i64 x0.heap.gc.phase, .int .i64 x0.heap.gc.pos, .int .i64 x0.heap.gc.round, .slice a0_7 x0.heap.gc.grey.length c0_7, .slice a0_8 x0.taps.length c0_8, .int .i64 x0.next, .int .i64 x0.want, .int .i64 x0.spent.pages, .int .i64 x0.spent.rent, .int .i64 x0.spent.cpu, .int .i64 x0.press, .int .i64 x0.lost]) ag58 rfl rfl) (St.cell (h := hS4) (i := 1) rfl) ?_
  refine AW.take (i := 2) rfl (by kernel_rfl) rfl rfl (Ldr.boxN (bt := 66) (fr := (0, 0)) (cs := [.slice a0_0 x0.label.levels.length c0_0, .slice a0_1 x0.own.length c0_1, .slice a0_2 x0.tree.length c0_2, .slice a0_3 x0.heap.arena.length c0_3, .int .i64 x0.heap.gc.phase, .int .i64 x0.heap.gc.pos, .int .i64 x0.heap.gc.round, .slice a0_7 x0.heap.gc.grey.length c0_7, .slice a0_8 x0.taps.length c0_8, .int .i64 x0.next, .int .i64 x0.want, .int .i64 x0.spent.pages, .int .i64 x0.spent.rent, .int .i64 x0.spent.cpu, .int .i64 x0.press, .int .i64 x0.lost]) ag66 rfl rfl) (St.cell (h := hS4) (i := 1) rfl) ?_
  refine AW.u (i := 3) rfl (by kernel_rfl) rfl rfl (Pur.fa fo66_3 rfl) ?_
  refine AW.u (i := 4) rfl (by kernel_rfl) rfl rfl (Pur.fa fo62_0 rfl) ?_
  refine AW.take (i := 5) rfl (by kernel_rfl) rfl rfl (Ldr.box (bt := 66) (fr := (0, 0)) (cs := [.slice a0_0 x0.label.levels.length c0_0, .slice a0_1 x0.own.length c0_1, .slice a0_2 x0.tree.length c0_2, .slice a0_3 x0.heap.arena.length c0_3, .int .i64 x0.heap.gc.phase, .int .i64 x0.heap.gc.pos, .int .i64 x0.heap.gc.round, .slice a0_7 x0.heap.gc.grey.length c0_7, .slice a0_8 x0.taps.length c0_8, .int .i64 x0.next, .int .i64 x0.want, .int .i64 x0.spent.pages, .int .i64 x0.spent.rent, .int .i64 x0.spent.cpu, .int .i64 x0.press, .int .i64 x0.lost]) ag59 rfl rfl) (St.cell (h := hS4) (i := 1) rfl) ?_
  refine AW.u (i := 6) rfl (by kernel_rfl) rfl rfl (Pur.p rfl) ?_
  replace ⟨y5, hy5, h⟩ := obind h
  obtain ⟨b8, o9, cs10, hae, hb13, hp6, hq7, hd11, hk12⟩ := hr0_3.idx hy5
  subst hae
  obtain ⟨a14, c15, a17, c18, a20, c21, rfl, hr16, hr19, hr22⟩ := hd11
  refine AW.u (i := 7) rfl (by kernel_rfl) rfl rfl (Pur.ix Tryz.underlying59 sz92 rfl rfl hp6 hq7) ?_
  refine AW.u (i := 8) rfl (by kernel_rfl) rfl rfl (Pur.fa fo92_3 rfl) ?_
  refine AW.take (i := 9) rfl (by kernel_rfl) rfl rfl (Ldr.old w0 ag3 rfl (hk12 3 _ rfl)) (hS4.same _ hb13.1 hb13.2) ?_
  replace ⟨y23, hy23, h⟩ := obind h
  have q := W_i_ResOf (w0 := w4.drew) hy23 rfl (hS4.rB hr0_0) rfl (hS4.rB hr0_1) rfl (hS4.rB hr0_2) rfl (hS4.rB hr0_3) rfl (hS4.rB hr0_7) rfl (hS4.rB hr0_8)
  refine AW.one (i := 10) (by kernel_rfl) ?_
  refine ⟨_, rfl, ?_⟩
  refine LW.call pl96 rfl rfl ?_
  refine Ret.mono q ?_
  rintro _ w24 ⟨rfl, hs⟩
  have hS5 := hS4.add hs
  refine LW.nil ⟨rfl, (.w (by kernel_rfl) (.c (St.cell (h := hS5) (i := 1) rfl) (.w (by kernel_rfl) (.c (St.cell (h := hS5) (i := 1) rfl) Kept.n)))), ?_⟩
  replace ⟨y25, hy25, h⟩ := obind h
  obtain ⟨b28, o29, cs30, hae, hb33, hp26, hq27, hd31, hk32⟩ := hr0_2.idx hy25
  subst hae
  obtain rfl := hd31
  refine AW.u (i := 11) rfl (by kernel_rfl) rfl rfl (Pur.ix Tryz.underlying58 sz152 rfl rfl hp26 hq27) ?_
  refine AW.u (i := 12) rfl (by kernel_rfl) rfl rfl (Pur.fa fo152_2 rfl) ?_
  refine AW.take (i := 13) rfl (by kernel_rfl) rfl rfl (Ldr.oldN w0 ag64 rfl rfl (fun j u hu => oldsub (m := 3) hk32 2 hu)) (hS5.same _ hb33.1 hb33.2) ?_
  refine AW.one (i := 14) (by kernel_rfl) ?_
  refine ⟨_, rfl, ?_⟩
  refine LW.st hS5 0 fun w34 hS6 => ?_
  refine LW.nil ⟨rfl, (.w (by kernel_rfl) (.w (by kernel_rfl) (.w (by kernel_rfl) (.w (by kernel_rfl) (.w (by kernel_rfl) Kept.n))))), ?_⟩
  refine AW.done (by kernel_rfl) ?_
  refine go ?_
  cases h
  exact And.intro trivial ⟨_, Res.one (resOne.b hS6 0 rfl ag64 rfl rfl), rfl, hS6.pick [] rfl rfl⟩

theorem W_i_Threads {w0 : World} {N : Nat} {x0 : DPart} {x1 : Int} {r : (List Int)} (h : F_i_Threads N x0 x1 = some r) {a0_0 : Option Addr} {n0_0 c0_0 : Nat} (hn0_0 : n0_0 = x0.label.levels.length) (hr0_0 : rdS (Bor w0 []) w0 a0_0 c0_0 x0.label.levels) {a0_1 : Option Addr} {n0_1 c0_1 : Nat} (hn0_1 : n0_1 = x0.own.length) (hr0_1 : rdS (Bor w0 []) w0 a0_1 c0_1 x0.own) {a0_2 : Option Addr} {n0_2 c0_2 : Nat} (hn0_2 : n0_2 = x0.tree.length) (hr0_2 : rdS (Bor w0 []) w0 a0_2 c0_2 x0.tree) {a0_3 : Option Addr} {n0_3 c0_3 : Nat} (hn0_3 : n0_3 = x0.heap.arena.length) (hr0_3 : rdS (Bor w0 []) w0 a0_3 c0_3 x0.heap.arena) {a0_7 : Option Addr} {n0_7 c0_7 : Nat} (hn0_7 : n0_7 = x0.heap.gc.grey.length) (hr0_7 : rdS (Bor w0 []) w0 a0_7 c0_7 x0.heap.gc.grey) {a0_8 : Option Addr} {n0_8 c0_8 : Nat} (hn0_8 : n0_8 = x0.taps.length) (hr0_8 : rdS (Bor w0 []) w0 a0_8 c0_8 x0.taps) :
    Ret Tryz.prog 159 #[.agg #[.slice a0_0 n0_0 c0_0, .slice a0_1 n0_1 c0_1, .slice a0_2 n0_2 c0_2, .slice a0_3 n0_3 c0_3, .int .i64 x0.heap.gc.phase, .int .i64 x0.heap.gc.pos, .int .i64 x0.heap.gc.round, .slice a0_7 n0_7 c0_7, .slice a0_8 n0_8 c0_8, .int .i64 x0.next, .int .i64 x0.want, .int .i64 x0.spent.pages, .int .i64 x0.spent.rent, .int .i64 x0.spent.cpu, .int .i64 x0.press, .int .i64 x0.lost], .int .i64 x1] w0 (fun v w => ∃ ar0 cr0, v = .slice ar0 r.length cr0 ∧ St w0 [] w [sl ar0 cr0 r]) := by
  subst hn0_0 hn0_1 hn0_2 hn0_3 hn0_7 hn0_8
  unfold F_i_Threads at h
  refine Ret.fn Tryz.func159 fun e => ?_
  have hS1 := St.start w0
  refine go ?_
  refine LW.bo hS1 fun g1 w2 hS2 => ?_
  refine go ?_
  refine LW.bsl (α := Int) (vs := []) (cs := #[]) (l := ([] : List Int)) rfl (by kernel_rfl) rfl rfl rfl (fun w => rfl) hS2 rfl ?_
  intro a3 c4 w5 hS3 hf
  refine go ?_
  replace ⟨y6, hy6, h⟩ := obind h
  refine LW.c0 (W_i_PartOk hy6 rfl (hS3.rB hr0_0) rfl (hS3.rB hr0_1) rfl (hS3.rB hr0_2) rfl (hS3.rB hr0_3) rfl (hS3.rB hr0_7) rfl (hS3.rB hr0_8)) hS3 fun w7 hS4 => ?_
  refine go ?_
  refine CW.cond rfl (fun hc8 => ?_) (fun hc8 => ?_)
  · replace h := bcT h hc8
    refine go ?_
    cases h
    exact And.intro trivial ⟨_, Res.one (resOne.t rfl), a3, c4, rfl, hS4.pick [0] rfl rfl⟩
  replace h := bcF h hc8
  refine go ?_
  replace ⟨y9, hy9, h⟩ := obind h
  refine LW.cl (W_i_Reach hy9 rfl (hS4.rB hr0_3)) ?_
  rintro _ w12 ⟨a10, c11, rfl, hs⟩
  have hS5 := hS4.add hs
  refine go ?_
  obtain ⟨o57, ho57, h58⟩ := obind h
  refine CW.mono (CW.iter (σ := (List Int) × Int) (ρ := (List Int) × Int) (fun s13 e wb => ∃ (s13a0 : Option Addr), ∃ (s13c0 : Nat), En e [(2, .pointer (some ⟨g1, 0, none⟩)), (5, .slice s13a0 s13.1.length s13c0), (17, .slice a10 y9.length c11), (18, .int .i64 (y9.length : Int)), (19, .int .i64 s13.2)] ∧ St w0 [] wb [sl a10 c11 y9, sl s13a0 s13c0 s13.1, bx g1 66 [.slice a0_0 x0.label.levels.length c0_0, .slice a0_1 x0.own.length c0_1, .slice a0_2 x0.tree.length c0_2, .slice a0_3 x0.heap.arena.length c0_3, .int .i64 x0.heap.gc.phase, .int .i64 x0.heap.gc.pos, .int .i64 x0.heap.gc.round, .slice a0_7 x0.heap.gc.grey.length c0_7, .slice a0_8 x0.taps.length c0_8, .int .i64 x0.next, .int .i64 x0.want, .int .i64 x0.spent.pages, .int .i64 x0.spent.rent, .int .i64 x0.spent.cpu, .int .i64 x0.press, .int .i64 x0.lost]]) (fun s13 x e wb => x = .exit 0 ∧ ∃ (s13a0 : Option Addr), ∃ (s13c0 : Nat), En e [(5, .slice s13a0 s13.1.length s13c0)] ∧ St w0 [] wb [sl a10 c11 y9, sl s13a0 s13c0 s13.1, bx g1 66 [.slice a0_0 x0.label.levels.length c0_0, .slice a0_1 x0.own.length c0_1, .slice a0_2 x0.tree.length c0_2, .slice a0_3 x0.heap.arena.length c0_3, .int .i64 x0.heap.gc.phase, .int .i64 x0.heap.gc.pos, .int .i64 x0.heap.gc.round, .slice a0_7 x0.heap.gc.grey.length c0_7, .slice a0_8 x0.taps.length c0_8, .int .i64 x0.next, .int .i64 x0.want, .int .i64 x0.spent.pages, .int .i64 x0.spent.rent, .int .i64 x0.spent.cpu, .int .i64 x0.press, .int .i64 x0.lost]]) ?_ N (([] : List Int), 0) _ _ _ ⟨a3, c4, ⟨rfl, rfl, rfl, rfl, rfl, trivial⟩, hS5.pick [0, 1, 2] rfl rfl⟩ ho57) ?_
  · intro s13 e w14 o hM h
    obtain ⟨s13a0, s13c0, hE, hS6⟩ := hM
    obtain ⟨e, rfl⟩ := hE.out
    refine go ?_
    refine CW.fl [2, 5, 17, 18, 19, 20] fun e => ?_
    refine CW.cond rfl (fun hc15 => ?_) (fun hc15 => ?_)
    · replace h := bcT h hc15
      refine go ?_
      replace ⟨y16, hy16, h⟩ := obind h
      obtain ⟨b19, o20, hae, hp17, hq18⟩ := hS6.ownIdx (α := Bool) (i := 0) rfl hy16
      subst hae
      refine LW.u (Pur.ix Tryz.underlying140 sz4 rfl rfl hp17 hq18) rfl ?_
      obtain ⟨F21, ho22, hS7⟩ := hS6.freeze (α := Bool) 0 rfl
      obtain ⟨b23, o24, cs25, hae, hb28, _, _, hd26, hk27⟩ := ho22.rdF.idx hy16
      cases hae
      obtain rfl := hd26
      refine LW.l (Ldr.old w14 ag4 rfl (hk27 0 _ rfl)) (hS7.zC 0 rfl hb28) rfl ?_
      refine gs ?_
      obtain ⟨j29, hj29, h30⟩ := obind h
      refine CW.cut (fun e wb => En e [(2, .pointer (some ⟨g1, 0, none⟩)), (5, .slice s13a0 s13.1.length s13c0), (6, .int .i64 s13.2), (17, .slice (some ⟨b19, o20, none⟩) y9.length c11), (18, .int .i64 (y9.length : Int)), (19, .int .i64 s13.2), (34, .bool j29)] ∧ St w0 [] wb [fz w14 F21, sl s13a0 s13c0 s13.1, bx g1 66 [.slice a0_0 x0.label.levels.length c0_0, .slice a0_1 x0.own.length c0_1, .slice a0_2 x0.tree.length c0_2, .slice a0_3 x0.heap.arena.length c0_3, .int .i64 x0.heap.gc.phase, .int .i64 x0.heap.gc.pos, .int .i64 x0.heap.gc.round, .slice a0_7 x0.heap.gc.grey.length c0_7, .slice a0_8 x0.taps.length c0_8, .int .i64 x0.next, .int .i64 x0.want, .int .i64 x0.spent.pages, .int .i64 x0.spent.rent, .int .i64 x0.spent.cpu, .int .i64 x0.press, .int .i64 x0.lost]]) ?_ ?_
      · have h := hj29
        refine go ?_
        rcases bcases y16 with hc31 | hc31
        · replace h := bcT h hc31
          refine go ?_
          replace ⟨y32, hy32, h⟩ := obind h
          obtain ⟨b35, o36, cs37, hae, hb40, hp33, hq34, hd38, hk39⟩ := hr0_3.idx hy32
          subst hae
          obtain ⟨a41, c42, a44, c45, a47, c48, rfl, hr43, hr46, hr49⟩ := hd38
          refine go ?_
          refine LW.u (Pur.ix Tryz.underlying59 sz92 rfl rfl hp33 hq34) rfl ?_
          refine go ?_
          refine LW.l (Ldr.old w0 ag3 rfl (hk39 1 _ rfl)) (hS7.same _ hb40.1 hb40.2) rfl ?_
          refine go ?_
          cases oi h
          exact ⟨⟨rfl, rfl, rfl, rfl, rfl, rfl, rfl, trivial⟩, hS7.pick [0, 1, 2] rfl rfl⟩
        replace h := bcF h hc31
        refine go ?_
        cases oi h
        exact ⟨⟨rfl, rfl, rfl, rfl, rfl, rfl, rfl, trivial⟩, hS7.pick [0, 1, 2] rfl rfl⟩
      rintro e w50 ⟨hE, hS8⟩
      obtain ⟨e, rfl⟩ := hE.out
      have h := h30
      refine go ?_
      refine CW.cond rfl (fun hc51 => ?_) (fun hc51 => ?_)
      · replace h := bcT h hc51
        refine go ?_
        replace ⟨y52, hy52, h⟩ := obind h
        refine LW.app1 (M := []) (L := [fz w14 F21, sl s13a0 s13c0 s13.1, bx g1 66 [.slice a0_0 x0.label.levels.length c0_0, .slice a0_1 x0.own.length c0_1, .slice a0_2 x0.tree.length c0_2, .slice a0_3 x0.heap.arena.length c0_3, .int .i64 x0.heap.gc.phase, .int .i64 x0.heap.gc.pos, .int .i64 x0.heap.gc.round, .slice a0_7 x0.heap.gc.grey.length c0_7, .slice a0_8 x0.taps.length c0_8, .int .i64 x0.next, .int .i64 x0.want, .int .i64 x0.spent.pages, .int .i64 x0.spent.rent, .int .i64 x0.spent.cpu, .int .i64 x0.press, .int .i64 x0.lost]]) (vs := #[.int .i64 s13.2]) (i := 1) sT28 rfl (by kernel_rfl) rfl rfl hy52 hS8 rfl (fun w G hG => by cases (show G = [] from hG); exact ⟨rfl, rfl⟩) rfl rfl ?_
        intro v55 a53 c54 w56 hS9 hf
        refine go ?_
        have hS10 := hS9.thaw (α := Bool) 0 rfl ho22
        cases oi h
        exact ⟨rfl, ⟨a53, c54, ⟨rfl, rfl, rfl, rfl, rfl, trivial⟩, hS10.pick [0, 1, 2] rfl rfl⟩⟩
      replace h := bcF h hc51
      refine go ?_
      have hS11 := hS8.thaw (α := Bool) 0 rfl ho22
      cases oi h
      exact ⟨rfl, ⟨s13a0, s13c0, ⟨rfl, rfl, rfl, rfl, rfl, trivial⟩, hS11.pick [0, 1, 2] rfl rfl⟩⟩
    replace h := bcF h hc15
    refine go ?_
    cases oi h
    exact ⟨trivial, rfl, ⟨s13a0, s13c0, ⟨rfl, trivial⟩, hS6.pick [0, 1, 2] rfl rfl⟩⟩
  intro x e w59 hM
  obtain ⟨rfl, hM⟩ := hM
  obtain ⟨s13a0, s13c0, hE, hS12⟩ := hM
  obtain ⟨e, rfl⟩ := hE.out
  have h := h58
  refine go ?_
  cases h
  exact And.intro trivial ⟨_, Res.one (resOne.t rfl), s13a0, s13c0, rfl, hS12.pick [1] rfl rfl⟩

end Go.Kx
