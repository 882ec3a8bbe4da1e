/- Each call returns what the plain function says. Printed by drive.py. -/
import Derived.Test.YtdjpppkdngmeaaaGreatFa
import Derived.Test.YtdjpppkdngmeaaaGreatPu
import Derived.Test.YtdjpppkdngmeaaaGreatWa0
import Derived.Test.YtdjpppkdngmeaaaGreatWa1
import Derived.Test.YtdjpppkdngmeaaaGreatWa5
import Derived.Test.YtdjpppkdngmeaaaGreatWa6
import Derived.Test.YtdjpppkdngmeaaaGreatWa9
namespace Go.Kx
open Go Go.RowKit Go.Proofs
set_option maxRecDepth 10000
set_option maxHeartbeats 2000000
set_option linter.unusedVariables false
set_option linter.unusedSimpArgs false
theorem W_s_Threads {w0 : World} {N : Nat} {x0 : DPart} {x1 : Int} {r : (List Int)} (h : F_s_Threads N x0 x1 = some r) {a0_0 : Option Addr} {n0_0 c0_0 : Nat} (hn0_0 : n0_0 = x0.label.levels.length) (hr0_0 : rdS (Bor w0 []) w0 a0_0 c0_0 x0.label.levels) {a0_1 : Option Addr} {n0_1 c0_1 : Nat} (hn0_1 : n0_1 = x0.own.length) (hr0_1 : rdS (Bor w0 []) w0 a0_1 c0_1 x0.own) {a0_2 : Option Addr} {n0_2 c0_2 : Nat} (hn0_2 : n0_2 = x0.tree.length) (hr0_2 : rdS (Bor w0 []) w0 a0_2 c0_2 x0.tree) {a0_3 : Option Addr} {n0_3 c0_3 : Nat} (hn0_3 : n0_3 = x0.heap.arena.length) (hr0_3 : rdS (Bor w0 []) w0 a0_3 c0_3 x0.heap.arena) {a0_7 : Option Addr} {n0_7 c0_7 : Nat} (hn0_7 : n0_7 = x0.heap.gc.grey.length) (hr0_7 : rdS (Bor w0 []) w0 a0_7 c0_7 x0.heap.gc.grey) {a0_8 : Option Addr} {n0_8 c0_8 : Nat} (hn0_8 : n0_8 = x0.taps.length) (hr0_8 : rdS (Bor w0 []) w0 a0_8 c0_8 x0.taps) :
    Ret Tryz.prog 40 #[.agg #[.slice a0_0 n0_0 c0_0, .slice a0_1 n0_1 c0_1, .slice a0_2 n0_2 c0_2, .slice a0_3 n0_3 c0_3, .int .i64 x0.heap.gc.phase, .int .i64 x0.heap.gc.pos, .int .i64 x0.heap.gc.round, .slice a0_7 n0_7 c0_7, .slice a0_8 n0_8 c0_8, .int .i64 x0.next, .int .i64 x0.want, .int .i64 x0.spent.pages, .int .i64 x0.spent.rent, .int .i64 x0.spent.cpu, .int .i64 x0.press, .int .i64 x0.lost], .int .i64 x1] w0 (fun v w => ∃ ar0 cr0, v = .slice ar0 r.length cr0 ∧ St w0 [] w [sl ar0 cr0 r]) := by
  subst hn0_0 hn0_1 hn0_2 hn0_3 hn0_7 hn0_8
  unfold F_s_Threads at h
  refine Ret.fn Tryz.func40 fun e => ?_
  have hS1 := St.start w0
  refine go ?_
  refine LW.bo hS1 fun g1 w2 hS2 => ?_
  refine go ?_
  refine LW.bsl (α := Int) (vs := []) (cs := #[]) (l := ([] : List Int)) rfl (by kernel_rfl) rfl rfl rfl (fun w => rfl) hS2 rfl ?_
  intro a3 c4 w5 hS3 hf
  refine go ?_
  replace ⟨y6, hy6, h⟩ := obind h
  refine LW.c0 (W_s_PartOk hy6 rfl (hS3.rB hr0_0) rfl (hS3.rB hr0_1) rfl (hS3.rB hr0_2) rfl (hS3.rB hr0_3) rfl (hS3.rB hr0_7) rfl (hS3.rB hr0_8)) hS3 fun w7 hS4 => ?_
  refine go ?_
  refine CW.cond rfl (fun hc8 => ?_) (fun hc8 => ?_)
  · replace h := bcT h hc8
    refine go ?_
    cases h
    exact And.intro trivial ⟨_, Res.one (resOne.t rfl), a3, c4, rfl, hS4.pick [0] rfl rfl⟩
  replace h := bcF h hc8
  refine go ?_
  replace ⟨y9, hy9, h⟩ := obind h
  refine LW.cl (W_s_Reach hy9 rfl (hS4.rB hr0_3)) ?_
  rintro _ w12 ⟨a10, c11, rfl, hs⟩
  have hS5 := hS4.add hs
  refine go ?_
  obtain ⟨o57, ho57, h58⟩ := obind h
  refine CW.mono (CW.iter (σ := (List Int) × Int) (ρ := (List Int) × Int) (fun s13 e wb => ∃ (s13a0 : Option Addr), ∃ (s13c0 : Nat), En e [(2, .pointer (some ⟨g1, 0, none⟩)), (5, .slice s13a0 s13.1.length s13c0), (6, .slice a10 y9.length c11), (7, .int .i64 s13.2)] ∧ St w0 [] wb [sl a10 c11 y9, sl s13a0 s13c0 s13.1, bx g1 47 [.slice a0_0 x0.label.levels.length c0_0, .slice a0_1 x0.own.length c0_1, .slice a0_2 x0.tree.length c0_2, .slice a0_3 x0.heap.arena.length c0_3, .int .i64 x0.heap.gc.phase, .int .i64 x0.heap.gc.pos, .int .i64 x0.heap.gc.round, .slice a0_7 x0.heap.gc.grey.length c0_7, .slice a0_8 x0.taps.length c0_8, .int .i64 x0.next, .int .i64 x0.want, .int .i64 x0.spent.pages, .int .i64 x0.spent.rent, .int .i64 x0.spent.cpu, .int .i64 x0.press, .int .i64 x0.lost]]) (fun s13 x e wb => x = .exit 0 ∧ ∃ (s13a0 : Option Addr), ∃ (s13c0 : Nat), En e [(5, .slice s13a0 s13.1.length s13c0)] ∧ St w0 [] wb [sl a10 c11 y9, sl s13a0 s13c0 s13.1, bx g1 47 [.slice a0_0 x0.label.levels.length c0_0, .slice a0_1 x0.own.length c0_1, .slice a0_2 x0.tree.length c0_2, .slice a0_3 x0.heap.arena.length c0_3, .int .i64 x0.heap.gc.phase, .int .i64 x0.heap.gc.pos, .int .i64 x0.heap.gc.round, .slice a0_7 x0.heap.gc.grey.length c0_7, .slice a0_8 x0.taps.length c0_8, .int .i64 x0.next, .int .i64 x0.want, .int .i64 x0.spent.pages, .int .i64 x0.spent.rent, .int .i64 x0.spent.cpu, .int .i64 x0.press, .int .i64 x0.lost]]) ?_ N (([] : List Int), 0) _ _ _ ⟨a3, c4, ⟨rfl, rfl, rfl, rfl, trivial⟩, hS5.pick [0, 1, 2] rfl rfl⟩ ho57) ?_
  · intro s13 e w14 o hM h
    obtain ⟨s13a0, s13c0, hE, hS6⟩ := hM
    obtain ⟨e, rfl⟩ := hE.out
    refine go ?_
    refine CW.fl [2, 5, 6, 7, 21] fun e => ?_
    refine CW.cond rfl (fun hc15 => ?_) (fun hc15 => ?_)
    · replace h := bcT h hc15
      refine gs ?_
      refine CW.block ?_
      refine gs ?_
      obtain ⟨j16, hj16, h17⟩ := obind h
      refine CW.cut (fun e wb => En e [(2, .pointer (some ⟨g1, 0, none⟩)), (5, .slice s13a0 s13.1.length s13c0), (6, .slice a10 y9.length c11), (7, .int .i64 s13.2), (37, .bool j16)] ∧ St w0 [] wb [sl a10 c11 y9, sl s13a0 s13c0 s13.1, bx g1 47 [.slice a0_0 x0.label.levels.length c0_0, .slice a0_1 x0.own.length c0_1, .slice a0_2 x0.tree.length c0_2, .slice a0_3 x0.heap.arena.length c0_3, .int .i64 x0.heap.gc.phase, .int .i64 x0.heap.gc.pos, .int .i64 x0.heap.gc.round, .slice a0_7 x0.heap.gc.grey.length c0_7, .slice a0_8 x0.taps.length c0_8, .int .i64 x0.next, .int .i64 x0.want, .int .i64 x0.spent.pages, .int .i64 x0.spent.rent, .int .i64 x0.spent.cpu, .int .i64 x0.press, .int .i64 x0.lost]]) ?_ ?_
      · have h := hj16
        refine go ?_
        replace ⟨y18, hy18, h⟩ := obind h
        obtain ⟨b21, o22, hae, hp19, hq20⟩ := hS6.ownIdx (α := Bool) (i := 0) rfl hy18
        subst hae
        refine LW.u (Pur.ix Tryz.underlying126 sz4 rfl rfl hp19 hq20) rfl ?_
        obtain ⟨F23, ho24, hS7⟩ := hS6.freeze (α := Bool) 0 rfl
        obtain ⟨b25, o26, cs27, hae, hb30, _, _, hd28, hk29⟩ := ho24.rdF.idx hy18
        cases hae
        obtain rfl := hd28
        refine LW.l (Ldr.old w14 ag4 rfl (hk29 0 _ rfl)) (hS7.zC 0 rfl hb30) rfl ?_
        refine go ?_
        rcases bcases y18 with hc31 | hc31
        · replace h := bcT h hc31
          refine go ?_
          replace ⟨y32, hy32, h⟩ := obind h
          obtain ⟨b35, o36, cs37, hae, hb40, hp33, hq34, hd38, hk39⟩ := hr0_3.idx hy32
          subst hae
          obtain ⟨a41, c42, a44, c45, a47, c48, rfl, hr43, hr46, hr49⟩ := hd38
          refine go ?_
          refine LW.u (Pur.ix Tryz.underlying40 sz85 rfl rfl hp33 hq34) rfl ?_
          refine go ?_
          refine LW.l (Ldr.old w0 ag3 rfl (hk39 1 _ rfl)) (hS7.same _ hb40.1 hb40.2) rfl ?_
          refine go ?_
          have hS8 := hS7.thaw (α := Bool) 0 rfl ho24
          cases oi h
          exact ⟨⟨rfl, rfl, rfl, rfl, rfl, trivial⟩, hS8.pick [0, 1, 2] rfl rfl⟩
        replace h := bcF h hc31
        refine go ?_
        have hS9 := hS7.thaw (α := Bool) 0 rfl ho24
        cases oi h
        exact ⟨⟨rfl, rfl, rfl, rfl, rfl, trivial⟩, hS9.pick [0, 1, 2] rfl rfl⟩
      rintro e w50 ⟨hE, hS10⟩
      obtain ⟨e, rfl⟩ := hE.out
      have h := h17
      refine go ?_
      refine CW.cond rfl (fun hc51 => ?_) (fun hc51 => ?_)
      · replace h := bcT h hc51
        refine go ?_
        replace ⟨y52, hy52, h⟩ := obind h
        refine LW.app1 (M := []) (L := [sl a10 c11 y9, sl s13a0 s13c0 s13.1, bx g1 47 [.slice a0_0 x0.label.levels.length c0_0, .slice a0_1 x0.own.length c0_1, .slice a0_2 x0.tree.length c0_2, .slice a0_3 x0.heap.arena.length c0_3, .int .i64 x0.heap.gc.phase, .int .i64 x0.heap.gc.pos, .int .i64 x0.heap.gc.round, .slice a0_7 x0.heap.gc.grey.length c0_7, .slice a0_8 x0.taps.length c0_8, .int .i64 x0.next, .int .i64 x0.want, .int .i64 x0.spent.pages, .int .i64 x0.spent.rent, .int .i64 x0.spent.cpu, .int .i64 x0.press, .int .i64 x0.lost]]) (vs := #[.int .i64 s13.2]) (i := 1) sT22 rfl (by kernel_rfl) rfl rfl hy52 hS10 rfl (fun w G hG => by cases (show G = [] from hG); exact ⟨rfl, rfl⟩) rfl rfl ?_
        intro v55 a53 c54 w56 hS11 hf
        refine go ?_
        cases oi h
        exact ⟨rfl, ⟨a53, c54, ⟨rfl, rfl, rfl, rfl, trivial⟩, hS11.pick [0, 1, 2] rfl rfl⟩⟩
      replace h := bcF h hc51
      refine go ?_
      cases oi h
      exact ⟨rfl, ⟨s13a0, s13c0, ⟨rfl, rfl, rfl, rfl, trivial⟩, hS10.pick [0, 1, 2] rfl rfl⟩⟩
    replace h := bcF h hc15
    refine go ?_
    cases oi h
    exact ⟨trivial, rfl, ⟨s13a0, s13c0, ⟨rfl, trivial⟩, hS6.pick [0, 1, 2] rfl rfl⟩⟩
  intro x e w59 hM
  obtain ⟨rfl, hM⟩ := hM
  obtain ⟨s13a0, s13c0, hE, hS12⟩ := hM
  obtain ⟨e, rfl⟩ := hE.out
  have h := h58
  refine go ?_
  cases h
  exact And.intro trivial ⟨_, Res.one (resOne.t rfl), s13a0, s13c0, rfl, hS12.pick [1] rfl rfl⟩

theorem W_s_l6Live {w0 : World} {N : Nat} {x0 : List DRes} {x1 : Int} {r : Bool} (h : F_s_l6Live N x0 x1 = some r) {a0_0 : Option Addr} {n0_0 c0_0 : Nat} (hn0_0 : n0_0 = x0.length) (hr0_0 : rdS (Bor w0 []) w0 a0_0 c0_0 x0) :
    Ret Tryz.prog 90 #[.slice a0_0 n0_0 c0_0, .int .i64 x1] w0 (fun v w => v = .bool r ∧ St w0 [] w []) := by
  subst hn0_0
  unfold F_s_l6Live at h
  refine Ret.fn Tryz.func90 fun e => ?_
  have hS1 := St.start w0
  refine go ?_
  replace ⟨y1, hy1, h⟩ := obind h
  refine LW.c0 (W_s_TreeOk hy1 rfl (hS1.rB hr0_0)) hS1 fun w2 hS2 => ?_
  refine go ?_
  rcases bcases y1 with hc3 | hc3
  · replace h := bcT h hc3
    refine go ?_
    replace ⟨y4, hy4, h⟩ := obind h
    refine go ?_
    refine LW.c0 (W_s_l6Res hy4) hS2 fun w5 hS3 => ?_
    refine go ?_
    rcases bcases y4 with hc6 | hc6
    · replace h := bcT h hc6
      refine go ?_
      replace ⟨y7, hy7, h⟩ := obind h
      obtain ⟨b10, o11, cs12, hae, hb15, hp8, hq9, hd13, hk14⟩ := hr0_0.idx hy7
      subst hae
      obtain rfl := hd13
      refine go ?_
      refine LW.u (Pur.ix Tryz.underlying39 sz87 rfl rfl hp8 hq9) rfl ?_
      refine go ?_
      refine LW.l (Ldr.old w0 ag4 rfl (hk14 0 _ rfl)) (hS3.same _ hb15.1 hb15.2) rfl ?_
      refine go ?_
      cases h
      exact And.intro trivial ⟨_, Res.one (resOne.t rfl), rfl, hS3.pick [] rfl rfl⟩
    replace h := bcF h hc6
    refine go ?_
    cases h
    exact And.intro trivial ⟨_, Res.one (resOne.t rfl), rfl, hS3.pick [] rfl rfl⟩
  replace h := bcF h hc3
  refine go ?_
  cases h
  exact And.intro trivial ⟨_, Res.one (resOne.t rfl), rfl, hS2.pick [] rfl rfl⟩

theorem W_s_ResOf {w0 : World} {N : Nat} {x0 : DPart} {x1 : Int} {r : Int} (h : F_s_ResOf N x0 x1 = some r) {a0_0 : Option Addr} {n0_0 c0_0 : Nat} (hn0_0 : n0_0 = x0.label.levels.length) (hr0_0 : rdS (Bor w0 []) w0 a0_0 c0_0 x0.label.levels) {a0_1 : Option Addr} {n0_1 c0_1 : Nat} (hn0_1 : n0_1 = x0.own.length) (hr0_1 : rdS (Bor w0 []) w0 a0_1 c0_1 x0.own) {a0_2 : Option Addr} {n0_2 c0_2 : Nat} (hn0_2 : n0_2 = x0.tree.length) (hr0_2 : rdS (Bor w0 []) w0 a0_2 c0_2 x0.tree) {a0_3 : Option Addr} {n0_3 c0_3 : Nat} (hn0_3 : n0_3 = x0.heap.arena.length) (hr0_3 : rdS (Bor w0 []) w0 a0_3 c0_3 x0.heap.arena) {a0_7 : Option Addr} {n0_7 c0_7 : Nat} (hn0_7 : n0_7 = x0.heap.gc.grey.length) (hr0_7 : rdS (Bor w0 []) w0 a0_7 c0_7 x0.heap.gc.grey) {a0_8 : Option Addr} {n0_8 c0_8 : Nat} (hn0_8 : n0_8 = x0.taps.length) (hr0_8 : rdS (Bor w0 []) w0 a0_8 c0_8 x0.taps) :
    Ret Tryz.prog 41 #[.agg #[.slice a0_0 n0_0 c0_0, .slice a0_1 n0_1 c0_1, .slice a0_2 n0_2 c0_2, .slice a0_3 n0_3 c0_3, .int .i64 x0.heap.gc.phase, .int .i64 x0.heap.gc.pos, .int .i64 x0.heap.gc.round, .slice a0_7 n0_7 c0_7, .slice a0_8 n0_8 c0_8, .int .i64 x0.next, .int .i64 x0.want, .int .i64 x0.spent.pages, .int .i64 x0.spent.rent, .int .i64 x0.spent.cpu, .int .i64 x0.press, .int .i64 x0.lost], .int .i64 x1] w0 (fun v w => v = .int .i64 r ∧ St w0 [] w []) := by
  subst hn0_0 hn0_1 hn0_2 hn0_3 hn0_7 hn0_8
  unfold F_s_ResOf at h
  refine Ret.fn Tryz.func41 fun e => ?_
  have hS1 := St.start w0
  refine go ?_
  refine LW.bo hS1 fun g1 w2 hS2 => ?_
  refine go ?_
  replace ⟨y3, hy3, h⟩ := obind h
  refine LW.c0 (W_s_l6Live hy3 rfl (hS2.rB hr0_2)) hS2 fun w4 hS3 => ?_
  refine go ?_
  refine CW.cond rfl (fun hc5 => ?_) (fun hc5 => ?_)
  · replace h := bcT h hc5
    refine go ?_
    cases h
    exact And.intro trivial ⟨_, Res.one (resOne.t rfl), rfl, hS3.pick [] rfl rfl⟩
  replace h := bcF h hc5
  refine go ?_
  cases h
  exact And.intro trivial ⟨_, Res.one (resOne.t rfl), rfl, hS3.pick [] rfl rfl⟩

theorem W_s_Runnable {w0 : World} {N : Nat} {x0 : DPart} {x1 : Int} {r : (List Int)} (h : F_s_Runnable N x0 x1 = some r) {a0_0 : Option Addr} {n0_0 c0_0 : Nat} (hn0_0 : n0_0 = x0.label.levels.length) (hr0_0 : rdS (Bor w0 []) w0 a0_0 c0_0 x0.label.levels) {a0_1 : Option Addr} {n0_1 c0_1 : Nat} (hn0_1 : n0_1 = x0.own.length) (hr0_1 : rdS (Bor w0 []) w0 a0_1 c0_1 x0.own) {a0_2 : Option Addr} {n0_2 c0_2 : Nat} (hn0_2 : n0_2 = x0.tree.length) (hr0_2 : rdS (Bor w0 []) w0 a0_2 c0_2 x0.tree) {a0_3 : Option Addr} {n0_3 c0_3 : Nat} (hn0_3 : n0_3 = x0.heap.arena.length) (hr0_3 : rdS (Bor w0 []) w0 a0_3 c0_3 x0.heap.arena) {a0_7 : Option Addr} {n0_7 c0_7 : Nat} (hn0_7 : n0_7 = x0.heap.gc.grey.length) (hr0_7 : rdS (Bor w0 []) w0 a0_7 c0_7 x0.heap.gc.grey) {a0_8 : Option Addr} {n0_8 c0_8 : Nat} (hn0_8 : n0_8 = x0.taps.length) (hr0_8 : rdS (Bor w0 []) w0 a0_8 c0_8 x0.taps) :
    Ret Tryz.prog 9 #[.agg #[.slice a0_0 n0_0 c0_0, .slice a0_1 n0_1 c0_1, .slice a0_2 n0_2 c0_2, .slice a0_3 n0_3 c0_3, .int .i64 x0.heap.gc.phase, .int .i64 x0.heap.gc.pos, .int .i64 x0.heap.gc.round, .slice a0_7 n0_7 c0_7, .slice a0_8 n0_8 c0_8, .int .i64 x0.next, .int .i64 x0.want, .int .i64 x0.spent.pages, .int .i64 x0.spent.rent, .int .i64 x0.spent.cpu, .int .i64 x0.press, .int .i64 x0.lost], .int .i64 x1] w0 (fun v w => ∃ ar0 cr0, v = .slice ar0 r.length cr0 ∧ St w0 [] w [sl ar0 cr0 r]) := by
  subst hn0_0 hn0_1 hn0_2 hn0_3 hn0_7 hn0_8
  unfold F_s_Runnable at h
  refine Ret.fn Tryz.func9 fun e => ?_
  have hS1 := St.start w0
  refine go ?_
  refine LW.bo hS1 fun g1 w2 hS2 => ?_
  refine go ?_
  refine LW.bsl (α := Int) (vs := []) (cs := #[]) (l := ([] : List Int)) rfl (by kernel_rfl) rfl rfl rfl (fun w => rfl) hS2 rfl ?_
  intro a3 c4 w5 hS3 hf
  refine go ?_
  replace ⟨y6, hy6, h⟩ := obind h
  refine LW.cl (W_s_Threads hy6 rfl (hS3.rB hr0_0) rfl (hS3.rB hr0_1) rfl (hS3.rB hr0_2) rfl (hS3.rB hr0_3) rfl (hS3.rB hr0_7) rfl (hS3.rB hr0_8)) ?_
  rintro _ w9 ⟨a7, c8, rfl, hs⟩
  have hS4 := hS3.add hs
  refine go ?_
  obtain ⟨o68, ho68, h69⟩ := obind h
  refine CW.mono (CW.iter (σ := (List Int) × Int) (ρ := (List Int) × Int) (fun s10 e wb => ∃ (s10a0 : Option Addr), ∃ (s10c0 : Nat), En e [(2, .pointer (some ⟨g1, 0, none⟩)), (5, .slice s10a0 s10.1.length s10c0), (6, .slice a7 y6.length c8), (7, .int .i64 s10.2)] ∧ St w0 [] wb [sl a7 c8 y6, sl s10a0 s10c0 s10.1, bx g1 47 [.slice a0_0 x0.label.levels.length c0_0, .slice a0_1 x0.own.length c0_1, .slice a0_2 x0.tree.length c0_2, .slice a0_3 x0.heap.arena.length c0_3, .int .i64 x0.heap.gc.phase, .int .i64 x0.heap.gc.pos, .int .i64 x0.heap.gc.round, .slice a0_7 x0.heap.gc.grey.length c0_7, .slice a0_8 x0.taps.length c0_8, .int .i64 x0.next, .int .i64 x0.want, .int .i64 x0.spent.pages, .int .i64 x0.spent.rent, .int .i64 x0.spent.cpu, .int .i64 x0.press, .int .i64 x0.lost]]) (fun s10 x e wb => x = .exit 0 ∧ ∃ (s10a0 : Option Addr), ∃ (s10c0 : Nat), En e [(5, .slice s10a0 s10.1.length s10c0)] ∧ St w0 [] wb [sl a7 c8 y6, sl s10a0 s10c0 s10.1, bx g1 47 [.slice a0_0 x0.label.levels.length c0_0, .slice a0_1 x0.own.length c0_1, .slice a0_2 x0.tree.length c0_2, .slice a0_3 x0.heap.arena.length c0_3, .int .i64 x0.heap.gc.phase, .int .i64 x0.heap.gc.pos, .int .i64 x0.heap.gc.round, .slice a0_7 x0.heap.gc.grey.length c0_7, .slice a0_8 x0.taps.length c0_8, .int .i64 x0.next, .int .i64 x0.want, .int .i64 x0.spent.pages, .int .i64 x0.spent.rent, .int .i64 x0.spent.cpu, .int .i64 x0.press, .int .i64 x0.lost]]) ?_ N (([] : List Int), 0) _ _ _ ⟨a3, c4, ⟨rfl, rfl, rfl, rfl, trivial⟩, hS4.pick [0, 1, 2] rfl rfl⟩ ho68) ?_
  · intro s10 e w11 o hM h
    obtain ⟨s10a0, s10c0, hE, hS5⟩ := hM
    obtain ⟨e, rfl⟩ := hE.out
    refine go ?_
    refine CW.fl [2, 5, 6, 7, 16] fun e => ?_
    refine CW.cond rfl (fun hc12 => ?_) (fun hc12 => ?_)
    · replace h := bcT h hc12
      refine go ?_
      refine CW.draw (by kernel_rfl) ?_
      have hS6 := hS5.drew
      refine AW.u (i := 0) rfl (by kernel_rfl) rfl rfl (Pur.fa fo47_3 rfl) ?_
      refine AW.u (i := 1) rfl (by kernel_rfl) rfl rfl (Pur.fa fo43_0 rfl) ?_
      refine AW.take (i := 2) rfl (by kernel_rfl) rfl rfl (Ldr.box (bt := 47) (fr := (0, 0)) (cs := [.slice a0_0 x0.label.levels.length c0_0, .slice a0_1 x0.own.length c0_1, .slice a0_2 x0.tree.length c0_2, .slice a0_3 x0.heap.arena.length c0_3, .int .i64 x0.heap.gc.phase, .int .i64 x0.heap.gc.pos, .int .i64 x0.heap.gc.round, .slice a0_7 x0.heap.gc.grey.length c0_7, .slice a0_8 x0.taps.length c0_8, .int .i64 x0.next, .int .i64 x0.want, .int .i64 x0.spent.pages, .int .i64 x0.spent.rent, .int .i64 x0.spent.cpu, .int .i64 x0.press, .int .i64 x0.lost]) ag40 rfl rfl) (St.cell (h := hS6) (i := 2) rfl) ?_
      refine AW.u (i := 3) rfl (by kernel_rfl) rfl rfl (Pur.p rfl) ?_
      refine AW.u (i := 4) rfl (by kernel_rfl) rfl rfl (Pur.p rfl) ?_
      replace ⟨y13, hy13, h⟩ := obind h
      obtain ⟨b16, o17, hae, hp14, hq15⟩ := hS6.ownIdx (α := Int) (i := 0) rfl hy13
      subst hae
      refine AW.u (i := 5) rfl (by kernel_rfl) rfl rfl (Pur.ix Tryz.underlying22 sz3 rfl rfl hp14 hq15) ?_
      obtain ⟨F18, ho19, hS7⟩ := hS6.freeze (α := Int) 0 rfl
      obtain ⟨b20, o21, cs22, hae, hb25, _, _, hd23, hk24⟩ := ho19.rdF.idx hy13
      cases hae
      obtain rfl := hd23
      refine AW.take (i := 6) rfl (by kernel_rfl) rfl rfl (Ldr.old w11.drew ag3 rfl (hk24 0 _ rfl)) (hS7.zC 0 rfl hb25) ?_
      replace ⟨y26, hy26, h⟩ := obind h
      obtain ⟨b29, o30, cs31, hae, hb34, hp27, hq28, hd32, hk33⟩ := hr0_3.idx hy26
      subst hae
      obtain ⟨a35, c36, a38, c39, a41, c42, rfl, hr37, hr40, hr43⟩ := hd32
      refine AW.u (i := 7) rfl (by kernel_rfl) rfl rfl (Pur.ix Tryz.underlying40 sz85 rfl rfl hp27 hq28) ?_
      refine AW.take (i := 8) rfl (by kernel_rfl) rfl rfl (Ldr.oldN w0 ag85 rfl rfl (fun j u hu => hk33 j u hu)) (hS7.same _ hb34.1 hb34.2) ?_
      refine AW.one (i := 9) (by kernel_rfl) ?_
      refine ⟨_, rfl, ?_⟩
      refine LW.al hS7 fun g44 w45 hS8 => ?_
      refine LW.nil ⟨rfl, (.c (hS8.same _ hb34.1 hb34.2) (.c (hS8.zC 1 rfl hb25) (.c (St.cell (h := hS8) (i := 3) rfl) Kept.n))), ?_⟩
      refine AW.one (i := 10) (by kernel_rfl) ?_
      refine ⟨_, rfl, ?_⟩
      refine LW.st hS8 0 fun w46 hS9 => ?_
      refine LW.nil ⟨rfl, (.w (by kernel_rfl) (.w (by kernel_rfl) (.w (by kernel_rfl) Kept.n))), ?_⟩
      refine AW.done (by kernel_rfl) ?_
      refine gs ?_
      obtain ⟨j47, hj47, h48⟩ := obind h
      refine CW.cut (fun e wb => En e [(2, .pointer (some ⟨g1, 0, none⟩)), (5, .slice s10a0 s10.1.length s10c0), (6, .slice (some ⟨b16, o17, none⟩) y6.length c8), (7, .int .i64 s10.2), (43, .bool j47)] ∧ St w0 [] wb [fz w11.drew F18, sl s10a0 s10c0 s10.1, bx g1 47 [.slice a0_0 x0.label.levels.length c0_0, .slice a0_1 x0.own.length c0_1, .slice a0_2 x0.tree.length c0_2, .slice (some ⟨b29, o30, none⟩) x0.heap.arena.length c0_3, .int .i64 x0.heap.gc.phase, .int .i64 x0.heap.gc.pos, .int .i64 x0.heap.gc.round, .slice a0_7 x0.heap.gc.grey.length c0_7, .slice a0_8 x0.taps.length c0_8, .int .i64 x0.next, .int .i64 x0.want, .int .i64 x0.spent.pages, .int .i64 x0.spent.rent, .int .i64 x0.spent.cpu, .int .i64 x0.press, .int .i64 x0.lost]]) ?_ ?_
      · have h := hj47
        refine CW.draw (by kernel_rfl) ?_
        have hS10 := hS9.drew
        refine AW.u (i := 0) rfl (by kernel_rfl) rfl rfl (Pur.fa fo85_6 rfl) ?_
        refine AW.take (i := 1) rfl (by kernel_rfl) rfl rfl (Ldr.box (bt := 85) (fr := (0, 0)) (cs := [.int .i64 y26.gen, .int .i64 y26.kind, .int .i64 y26.box, .int .i64 y26.res, .int .i64 y26.til, .int .i64 y26.pages, .int .i64 y26.wait, .int .i64 y26.got, .int .i64 y26.ran, .bool y26.mark, .slice a35 y26.links.length c36, .slice a38 y26.data.length c39, .slice a41 y26.queue.length c42]) ag3 rfl rfl) (St.cell (h := hS10) (i := 0) rfl) ?_
        refine AW.u (i := 2) rfl (by kernel_rfl) rfl rfl (Pur.p rfl) ?_
        refine AW.u (i := 3) rfl (by kernel_rfl) rfl rfl (Pur.p rfl) ?_
        rcases bcases (y26.wait == 0) with hc49 | hc49
        · replace h := bcT h hc49
          refine AW.u (i := 4) rfl (by kernel_rfl) (want_of rfl rfl hc49) rfl (Pur.fa fo47_2 rfl) ?_
          refine AW.take (i := 5) rfl (by kernel_rfl) (want_of rfl rfl hc49) rfl (Ldr.box (bt := 47) (fr := (0, 0)) (cs := [.slice a0_0 x0.label.levels.length c0_0, .slice a0_1 x0.own.length c0_1, .slice a0_2 x0.tree.length c0_2, .slice (some ⟨b29, o30, none⟩) x0.heap.arena.length c0_3, .int .i64 x0.heap.gc.phase, .int .i64 x0.heap.gc.pos, .int .i64 x0.heap.gc.round, .slice a0_7 x0.heap.gc.grey.length c0_7, .slice a0_8 x0.taps.length c0_8, .int .i64 x0.next, .int .i64 x0.want, .int .i64 x0.spent.pages, .int .i64 x0.spent.rent, .int .i64 x0.spent.cpu, .int .i64 x0.press, .int .i64 x0.lost]) ag39 rfl rfl) (St.cell (h := hS10) (i := 3) rfl) ?_
          refine AW.take (i := 6) rfl (by kernel_rfl) (want_of rfl rfl hc49) rfl (Ldr.boxN (bt := 47) (fr := (0, 0)) (cs := [.slice a0_0 x0.label.levels.length c0_0, .slice a0_1 x0.own.length c0_1, .slice a0_2 x0.tree.length c0_2, .slice (some ⟨b29, o30, none⟩) x0.heap.arena.length c0_3, .int .i64 x0.heap.gc.phase, .int .i64 x0.heap.gc.pos, .int .i64 x0.heap.gc.round, .slice a0_7 x0.heap.gc.grey.length c0_7, .slice a0_8 x0.taps.length c0_8, .int .i64 x0.next, .int .i64 x0.want, .int .i64 x0.spent.pages, .int .i64 x0.spent.rent, .int .i64 x0.spent.cpu, .int .i64 x0.press, .int .i64 x0.lost]) ag47 rfl rfl) (St.cell (h := hS10) (i := 3) rfl) ?_
          refine AW.u (i := 7) rfl (by kernel_rfl) (want_of rfl rfl hc49) rfl (Pur.fa fo85_3 rfl) ?_
          refine AW.take (i := 8) rfl (by kernel_rfl) (want_of rfl rfl hc49) rfl (Ldr.box (bt := 85) (fr := (0, 0)) (cs := [.int .i64 y26.gen, .int .i64 y26.kind, .int .i64 y26.box, .int .i64 y26.res, .int .i64 y26.til, .int .i64 y26.pages, .int .i64 y26.wait, .int .i64 y26.got, .int .i64 y26.ran, .bool y26.mark, .slice a35 y26.links.length c36, .slice a38 y26.data.length c39, .slice a41 y26.queue.length c42]) ag3 rfl rfl) (St.cell (h := hS10) (i := 0) rfl) ?_
          replace ⟨y50, hy50, h⟩ := obind h
          have q := W_s_ResOf (w0 := w46.drew) hy50 rfl (hS10.rB hr0_0) rfl (hS10.rB hr0_1) rfl (hS10.rB hr0_2) rfl (hS10.rB hr0_3) rfl (hS10.rB hr0_7) rfl (hS10.rB hr0_8)
          refine AW.one (i := 9) (by kernel_rfl) ?_
          refine ⟨_, rfl, ?_⟩
          refine (LW.gY (want_of rfl rfl hc49) ?_)
          refine LW.call pl41 rfl rfl ?_
          refine Ret.mono q ?_
          rintro _ w51 ⟨rfl, hs⟩
          have hS11 := hS10.add hs
          refine LW.nil ⟨rfl, (.w (by kernel_rfl) (.w (by kernel_rfl) (.c (St.cell (h := hS11) (i := 3) rfl) (.c (St.cell (h := hS11) (i := 0) rfl) Kept.n)))), ?_⟩
          replace ⟨y52, hy52, h⟩ := obind h
          obtain ⟨b55, o56, cs57, hae, hb60, hp53, hq54, hd58, hk59⟩ := hr0_2.idx hy52
          subst hae
          obtain rfl := hd58
          refine AW.u (i := 10) rfl (by kernel_rfl) (want_of rfl rfl hc49) rfl (Pur.ix Tryz.underlying39 sz87 rfl rfl hp53 hq54) ?_
          refine AW.u (i := 11) rfl (by kernel_rfl) (want_of rfl rfl hc49) rfl (Pur.fa fo87_2 rfl) ?_
          refine AW.u (i := 12) rfl (by kernel_rfl) (want_of rfl rfl hc49) rfl (Pur.fa fo45_2 rfl) ?_
          refine AW.take (i := 13) rfl (by kernel_rfl) (want_of rfl rfl hc49) rfl (Ldr.old w0 ag3 rfl (hk59 4 _ rfl)) (hS11.same _ hb60.1 hb60.2) ?_
          refine AW.u (i := 14) rfl (by kernel_rfl) (want_of rfl rfl hc49) rfl (Pur.p rfl) ?_
          refine AW.u (i := 15) rfl (by kernel_rfl) rfl rfl (Pur.pickT rfl hc49) ?_
          refine AW.done (by kernel_rfl) ?_
          cases oi h
          exact ⟨⟨rfl, rfl, rfl, rfl, rfl, trivial⟩, hS11.pick [1, 2, 3] rfl rfl⟩
        replace h := bcF h hc49
        refine AW.no (i := 4) rfl (by kernel_rfl) (want_not rfl rfl hc49) rfl ?_
        refine AW.no (i := 5) rfl (by kernel_rfl) (want_not rfl rfl hc49) rfl ?_
        refine AW.no (i := 6) rfl (by kernel_rfl) (want_not rfl rfl hc49) rfl ?_
        refine AW.no (i := 7) rfl (by kernel_rfl) (want_not rfl rfl hc49) rfl ?_
        refine AW.no (i := 8) rfl (by kernel_rfl) (want_not rfl rfl hc49) rfl ?_
        refine AW.no (i := 9) rfl (by kernel_rfl) (want_not rfl rfl hc49) rfl ?_
        refine AW.no (i := 10) rfl (by kernel_rfl) (want_not rfl rfl hc49) rfl ?_
        refine AW.no (i := 11) rfl (by kernel_rfl) (want_not rfl rfl hc49) rfl ?_
        refine AW.no (i := 12) rfl (by kernel_rfl) (want_not rfl rfl hc49) rfl ?_
        refine AW.no (i := 13) rfl (by kernel_rfl) (want_not rfl rfl hc49) rfl ?_
        refine AW.no (i := 14) rfl (by kernel_rfl) (want_not rfl rfl hc49) rfl ?_
        refine AW.u (i := 15) rfl (by kernel_rfl) rfl rfl (Pur.pickF rfl hc49) ?_
        refine AW.done (by kernel_rfl) ?_
        cases oi h
        exact ⟨⟨rfl, rfl, rfl, rfl, rfl, trivial⟩, hS10.pick [1, 2, 3] rfl rfl⟩
      rintro e w61 ⟨hE, hS12⟩
      obtain ⟨e, rfl⟩ := hE.out
      have h := h48
      refine go ?_
      refine CW.cond rfl (fun hc62 => ?_) (fun hc62 => ?_)
      · replace h := bcT h hc62
        refine go ?_
        refine LW.u (Pur.ix Tryz.underlying22 sz3 rfl rfl hp14 hq15) rfl ?_
        refine LW.l (Ldr.old w11.drew ag3 rfl (hk24 0 _ rfl)) (hS12.zC 0 rfl hb25) rfl ?_
        replace ⟨y63, hy63, h⟩ := obind h
        refine LW.app1 (M := []) (L := [fz w11.drew F18, sl s10a0 s10c0 s10.1, bx g1 47 [.slice a0_0 x0.label.levels.length c0_0, .slice a0_1 x0.own.length c0_1, .slice a0_2 x0.tree.length c0_2, .slice (some ⟨b29, o30, none⟩) x0.heap.arena.length c0_3, .int .i64 x0.heap.gc.phase, .int .i64 x0.heap.gc.pos, .int .i64 x0.heap.gc.round, .slice a0_7 x0.heap.gc.grey.length c0_7, .slice a0_8 x0.taps.length c0_8, .int .i64 x0.next, .int .i64 x0.want, .int .i64 x0.spent.pages, .int .i64 x0.spent.rent, .int .i64 x0.spent.cpu, .int .i64 x0.press, .int .i64 x0.lost]]) (vs := #[.int .i64 y13]) (i := 1) sT22 rfl (by kernel_rfl) rfl rfl hy63 hS12 rfl (fun w G hG => by cases (show G = [] from hG); exact ⟨rfl, rfl⟩) rfl rfl ?_
        intro v66 a64 c65 w67 hS13 hf
        refine go ?_
        have hS14 := hS13.thaw (α := Int) 0 rfl ho19
        cases oi h
        exact ⟨rfl, ⟨a64, c65, ⟨rfl, rfl, rfl, rfl, trivial⟩, hS14.pick [0, 1, 2] rfl rfl⟩⟩
      replace h := bcF h hc62
      refine go ?_
      have hS15 := hS12.thaw (α := Int) 0 rfl ho19
      cases oi h
      exact ⟨rfl, ⟨s10a0, s10c0, ⟨rfl, rfl, rfl, rfl, trivial⟩, hS15.pick [0, 1, 2] rfl rfl⟩⟩
    replace h := bcF h hc12
    refine go ?_
    cases oi h
    exact ⟨trivial, rfl, ⟨s10a0, s10c0, ⟨rfl, trivial⟩, hS5.pick [0, 1, 2] rfl rfl⟩⟩
  intro x e w70 hM
  obtain ⟨rfl, hM⟩ := hM
  obtain ⟨s10a0, s10c0, hE, hS16⟩ := hM
  obtain ⟨e, rfl⟩ := hE.out
  have h := h69
  refine go ?_
  cases h
  exact And.intro trivial ⟨_, Res.one (resOne.t rfl), s10a0, s10c0, rfl, hS16.pick [1] rfl rfl⟩

theorem W_i_Threads {w0 : World} {N : Nat} {x0 : DPart} {x1 : Int} {r : (List Int)} (h : F_i_Threads N x0 x1 = some r) {a0_0 : Option Addr} {n0_0 c0_0 : Nat} (hn0_0 : n0_0 = x0.label.levels.length) (hr0_0 : rdS (Bor w0 []) w0 a0_0 c0_0 x0.label.levels) {a0_1 : Option Addr} {n0_1 c0_1 : Nat} (hn0_1 : n0_1 = x0.own.length) (hr0_1 : rdS (Bor w0 []) w0 a0_1 c0_1 x0.own) {a0_2 : Option Addr} {n0_2 c0_2 : Nat} (hn0_2 : n0_2 = x0.tree.length) (hr0_2 : rdS (Bor w0 []) w0 a0_2 c0_2 x0.tree) {a0_3 : Option Addr} {n0_3 c0_3 : Nat} (hn0_3 : n0_3 = x0.heap.arena.length) (hr0_3 : rdS (Bor w0 []) w0 a0_3 c0_3 x0.heap.arena) {a0_7 : Option Addr} {n0_7 c0_7 : Nat} (hn0_7 : n0_7 = x0.heap.gc.grey.length) (hr0_7 : rdS (Bor w0 []) w0 a0_7 c0_7 x0.heap.gc.grey) {a0_8 : Option Addr} {n0_8 c0_8 : Nat} (hn0_8 : n0_8 = x0.taps.length) (hr0_8 : rdS (Bor w0 []) w0 a0_8 c0_8 x0.taps) :
    Ret Tryz.prog 47 #[.agg #[.slice a0_0 n0_0 c0_0, .slice a0_1 n0_1 c0_1, .slice a0_2 n0_2 c0_2, .slice a0_3 n0_3 c0_3, .int .i64 x0.heap.gc.phase, .int .i64 x0.heap.gc.pos, .int .i64 x0.heap.gc.round, .slice a0_7 n0_7 c0_7, .slice a0_8 n0_8 c0_8, .int .i64 x0.next, .int .i64 x0.want, .int .i64 x0.spent.pages, .int .i64 x0.spent.rent, .int .i64 x0.spent.cpu, .int .i64 x0.press, .int .i64 x0.lost], .int .i64 x1] w0 (fun v w => ∃ ar0 cr0, v = .slice ar0 r.length cr0 ∧ St w0 [] w [sl ar0 cr0 r]) := by
  subst hn0_0 hn0_1 hn0_2 hn0_3 hn0_7 hn0_8
  unfold F_i_Threads at h
  refine Ret.fn Tryz.func47 fun e => ?_
  have hS1 := St.start w0
  refine go ?_
  refine LW.bo hS1 fun g1 w2 hS2 => ?_
  refine go ?_
  refine LW.bsl (α := Int) (vs := []) (cs := #[]) (l := ([] : List Int)) rfl (by kernel_rfl) rfl rfl rfl (fun w => rfl) hS2 rfl ?_
  intro a3 c4 w5 hS3 hf
  refine go ?_
  replace ⟨y6, hy6, h⟩ := obind h
  refine LW.c0 (W_i_PartOk hy6 rfl (hS3.rB hr0_0) rfl (hS3.rB hr0_1) rfl (hS3.rB hr0_2) rfl (hS3.rB hr0_3) rfl (hS3.rB hr0_7) rfl (hS3.rB hr0_8)) hS3 fun w7 hS4 => ?_
  refine go ?_
  refine CW.cond rfl (fun hc8 => ?_) (fun hc8 => ?_)
  · replace h := bcT h hc8
    refine go ?_
    cases h
    exact And.intro trivial ⟨_, Res.one (resOne.t rfl), a3, c4, rfl, hS4.pick [0] rfl rfl⟩
  replace h := bcF h hc8
  refine go ?_
  replace ⟨y9, hy9, h⟩ := obind h
  refine LW.cl (W_i_Reach hy9 rfl (hS4.rB hr0_3)) ?_
  rintro _ w12 ⟨a10, c11, rfl, hs⟩
  have hS5 := hS4.add hs
  refine go ?_
  obtain ⟨o57, ho57, h58⟩ := obind h
  refine CW.mono (CW.iter (σ := (List Int) × Int) (ρ := (List Int) × Int) (fun s13 e wb => ∃ (s13a0 : Option Addr), ∃ (s13c0 : Nat), En e [(2, .pointer (some ⟨g1, 0, none⟩)), (5, .slice s13a0 s13.1.length s13c0), (17, .slice a10 y9.length c11), (18, .int .i64 (y9.length : Int)), (19, .int .i64 s13.2)] ∧ St w0 [] wb [sl a10 c11 y9, sl s13a0 s13c0 s13.1, bx g1 47 [.slice a0_0 x0.label.levels.length c0_0, .slice a0_1 x0.own.length c0_1, .slice a0_2 x0.tree.length c0_2, .slice a0_3 x0.heap.arena.length c0_3, .int .i64 x0.heap.gc.phase, .int .i64 x0.heap.gc.pos, .int .i64 x0.heap.gc.round, .slice a0_7 x0.heap.gc.grey.length c0_7, .slice a0_8 x0.taps.length c0_8, .int .i64 x0.next, .int .i64 x0.want, .int .i64 x0.spent.pages, .int .i64 x0.spent.rent, .int .i64 x0.spent.cpu, .int .i64 x0.press, .int .i64 x0.lost]]) (fun s13 x e wb => x = .exit 0 ∧ ∃ (s13a0 : Option Addr), ∃ (s13c0 : Nat), En e [(5, .slice s13a0 s13.1.length s13c0)] ∧ St w0 [] wb [sl a10 c11 y9, sl s13a0 s13c0 s13.1, bx g1 47 [.slice a0_0 x0.label.levels.length c0_0, .slice a0_1 x0.own.length c0_1, .slice a0_2 x0.tree.length c0_2, .slice a0_3 x0.heap.arena.length c0_3, .int .i64 x0.heap.gc.phase, .int .i64 x0.heap.gc.pos, .int .i64 x0.heap.gc.round, .slice a0_7 x0.heap.gc.grey.length c0_7, .slice a0_8 x0.taps.length c0_8, .int .i64 x0.next, .int .i64 x0.want, .int .i64 x0.spent.pages, .int .i64 x0.spent.rent, .int .i64 x0.spent.cpu, .int .i64 x0.press, .int .i64 x0.lost]]) ?_ N (([] : List Int), 0) _ _ _ ⟨a3, c4, ⟨rfl, rfl, rfl, rfl, rfl, trivial⟩, hS5.pick [0, 1, 2] rfl rfl⟩ ho57) ?_
  · intro s13 e w14 o hM h
    obtain ⟨s13a0, s13c0, hE, hS6⟩ := hM
    obtain ⟨e, rfl⟩ := hE.out
    refine go ?_
    refine CW.fl [2, 5, 17, 18, 19, 20] fun e => ?_
    refine CW.cond rfl (fun hc15 => ?_) (fun hc15 => ?_)
    · replace h := bcT h hc15
      refine go ?_
      replace ⟨y16, hy16, h⟩ := obind h
      obtain ⟨b19, o20, hae, hp17, hq18⟩ := hS6.ownIdx (α := Bool) (i := 0) rfl hy16
      subst hae
      refine LW.u (Pur.ix Tryz.underlying126 sz4 rfl rfl hp17 hq18) rfl ?_
      obtain ⟨F21, ho22, hS7⟩ := hS6.freeze (α := Bool) 0 rfl
      obtain ⟨b23, o24, cs25, hae, hb28, _, _, hd26, hk27⟩ := ho22.rdF.idx hy16
      cases hae
      obtain rfl := hd26
      refine LW.l (Ldr.old w14 ag4 rfl (hk27 0 _ rfl)) (hS7.zC 0 rfl hb28) rfl ?_
      refine gs ?_
      obtain ⟨j29, hj29, h30⟩ := obind h
      refine CW.cut (fun e wb => En e [(2, .pointer (some ⟨g1, 0, none⟩)), (5, .slice s13a0 s13.1.length s13c0), (6, .int .i64 s13.2), (17, .slice (some ⟨b19, o20, none⟩) y9.length c11), (18, .int .i64 (y9.length : Int)), (19, .int .i64 s13.2), (34, .bool j29)] ∧ St w0 [] wb [fz w14 F21, sl s13a0 s13c0 s13.1, bx g1 47 [.slice a0_0 x0.label.levels.length c0_0, .slice a0_1 x0.own.length c0_1, .slice a0_2 x0.tree.length c0_2, .slice a0_3 x0.heap.arena.length c0_3, .int .i64 x0.heap.gc.phase, .int .i64 x0.heap.gc.pos, .int .i64 x0.heap.gc.round, .slice a0_7 x0.heap.gc.grey.length c0_7, .slice a0_8 x0.taps.length c0_8, .int .i64 x0.next, .int .i64 x0.want, .int .i64 x0.spent.pages, .int .i64 x0.spent.rent, .int .i64 x0.spent.cpu, .int .i64 x0.press, .int .i64 x0.lost]]) ?_ ?_
      · have h := hj29
        refine go ?_
        rcases bcases y16 with hc31 | hc31
        · replace h := bcT h hc31
          refine go ?_
          replace ⟨y32, hy32, h⟩ := obind h
          obtain ⟨b35, o36, cs37, hae, hb40, hp33, hq34, hd38, hk39⟩ := hr0_3.idx hy32
          subst hae
          obtain ⟨a41, c42, a44, c45, a47, c48, rfl, hr43, hr46, hr49⟩ := hd38
          refine go ?_
          refine LW.u (Pur.ix Tryz.underlying40 sz85 rfl rfl hp33 hq34) rfl ?_
          refine go ?_
          refine LW.l (Ldr.old w0 ag3 rfl (hk39 1 _ rfl)) (hS7.same _ hb40.1 hb40.2) rfl ?_
          refine go ?_
          cases oi h
          exact ⟨⟨rfl, rfl, rfl, rfl, rfl, rfl, rfl, trivial⟩, hS7.pick [0, 1, 2] rfl rfl⟩
        replace h := bcF h hc31
        refine go ?_
        cases oi h
        exact ⟨⟨rfl, rfl, rfl, rfl, rfl, rfl, rfl, trivial⟩, hS7.pick [0, 1, 2] rfl rfl⟩
      rintro e w50 ⟨hE, hS8⟩
      obtain ⟨e, rfl⟩ := hE.out
      have h := h30
      refine go ?_
      refine CW.cond rfl (fun hc51 => ?_) (fun hc51 => ?_)
      · replace h := bcT h hc51
        refine go ?_
        replace ⟨y52, hy52, h⟩ := obind h
        refine LW.app1 (M := []) (L := [fz w14 F21, sl s13a0 s13c0 s13.1, bx g1 47 [.slice a0_0 x0.label.levels.length c0_0, .slice a0_1 x0.own.length c0_1, .slice a0_2 x0.tree.length c0_2, .slice a0_3 x0.heap.arena.length c0_3, .int .i64 x0.heap.gc.phase, .int .i64 x0.heap.gc.pos, .int .i64 x0.heap.gc.round, .slice a0_7 x0.heap.gc.grey.length c0_7, .slice a0_8 x0.taps.length c0_8, .int .i64 x0.next, .int .i64 x0.want, .int .i64 x0.spent.pages, .int .i64 x0.spent.rent, .int .i64 x0.spent.cpu, .int .i64 x0.press, .int .i64 x0.lost]]) (vs := #[.int .i64 s13.2]) (i := 1) sT22 rfl (by kernel_rfl) rfl rfl hy52 hS8 rfl (fun w G hG => by cases (show G = [] from hG); exact ⟨rfl, rfl⟩) rfl rfl ?_
        intro v55 a53 c54 w56 hS9 hf
        refine go ?_
        have hS10 := hS9.thaw (α := Bool) 0 rfl ho22
        cases oi h
        exact ⟨rfl, ⟨a53, c54, ⟨rfl, rfl, rfl, rfl, rfl, trivial⟩, hS10.pick [0, 1, 2] rfl rfl⟩⟩
      replace h := bcF h hc51
      refine go ?_
      have hS11 := hS8.thaw (α := Bool) 0 rfl ho22
      cases oi h
      exact ⟨rfl, ⟨s13a0, s13c0, ⟨rfl, rfl, rfl, rfl, rfl, trivial⟩, hS11.pick [0, 1, 2] rfl rfl⟩⟩
    replace h := bcF h hc15
    refine go ?_
    cases oi h
    exact ⟨trivial, rfl, ⟨s13a0, s13c0, ⟨rfl, trivial⟩, hS6.pick [0, 1, 2] rfl rfl⟩⟩
  intro x e w59 hM
  obtain ⟨rfl, hM⟩ := hM
  obtain ⟨s13a0, s13c0, hE, hS12⟩ := hM
  obtain ⟨e, rfl⟩ := hE.out
  have h := h58
  refine go ?_
  cases h
  exact And.intro trivial ⟨_, Res.one (resOne.t rfl), s13a0, s13c0, rfl, hS12.pick [1] rfl rfl⟩

theorem W_i_ResOf {w0 : World} {N : Nat} {x0 : DPart} {x1 : Int} {r : Int} (h : F_i_ResOf N x0 x1 = some r) {a0_0 : Option Addr} {n0_0 c0_0 : Nat} (hn0_0 : n0_0 = x0.label.levels.length) (hr0_0 : rdS (Bor w0 []) w0 a0_0 c0_0 x0.label.levels) {a0_1 : Option Addr} {n0_1 c0_1 : Nat} (hn0_1 : n0_1 = x0.own.length) (hr0_1 : rdS (Bor w0 []) w0 a0_1 c0_1 x0.own) {a0_2 : Option Addr} {n0_2 c0_2 : Nat} (hn0_2 : n0_2 = x0.tree.length) (hr0_2 : rdS (Bor w0 []) w0 a0_2 c0_2 x0.tree) {a0_3 : Option Addr} {n0_3 c0_3 : Nat} (hn0_3 : n0_3 = x0.heap.arena.length) (hr0_3 : rdS (Bor w0 []) w0 a0_3 c0_3 x0.heap.arena) {a0_7 : Option Addr} {n0_7 c0_7 : Nat} (hn0_7 : n0_7 = x0.heap.gc.grey.length) (hr0_7 : rdS (Bor w0 []) w0 a0_7 c0_7 x0.heap.gc.grey) {a0_8 : Option Addr} {n0_8 c0_8 : Nat} (hn0_8 : n0_8 = x0.taps.length) (hr0_8 : rdS (Bor w0 []) w0 a0_8 c0_8 x0.taps) :
    Ret Tryz.prog 97 #[.agg #[.slice a0_0 n0_0 c0_0, .slice a0_1 n0_1 c0_1, .slice a0_2 n0_2 c0_2, .slice a0_3 n0_3 c0_3, .int .i64 x0.heap.gc.phase, .int .i64 x0.heap.gc.pos, .int .i64 x0.heap.gc.round, .slice a0_7 n0_7 c0_7, .slice a0_8 n0_8 c0_8, .int .i64 x0.next, .int .i64 x0.want, .int .i64 x0.spent.pages, .int .i64 x0.spent.rent, .int .i64 x0.spent.cpu, .int .i64 x0.press, .int .i64 x0.lost], .int .i64 x1] w0 (fun v w => v = .int .i64 r ∧ St w0 [] w []) := by
  subst hn0_0 hn0_1 hn0_2 hn0_3 hn0_7 hn0_8
  unfold F_i_ResOf at h
  refine Ret.fn Tryz.func97 fun e => ?_
  have hS1 := St.start w0
  refine go ?_
  refine LW.bo hS1 fun g1 w2 hS2 => ?_
  refine gs ?_
  obtain ⟨j3, hj3, h4⟩ := obind h
  refine CW.cut (fun e wb => En e [(1, .int .i64 x1), (15, .bool j3)] ∧ St w0 [] wb []) ?_ ?_
  · have h := hj3
    refine go ?_
    replace ⟨y5, hy5, h⟩ := obind h
    refine LW.c0 (W_i_TreeOk hy5 rfl (hS2.rB hr0_2)) hS2 fun w6 hS3 => ?_
    refine go ?_
    rcases bcases (!y5) with hc7 | hc7
    · replace h := bcT h hc7
      refine go ?_
      cases oi h
      exact ⟨⟨rfl, rfl, trivial⟩, hS3.pick [] rfl rfl⟩
    replace h := bcF h hc7
    refine go ?_
    replace ⟨y8, hy8, h⟩ := obind h
    refine go ?_
    refine LW.c0 (W_i_isLive hy8 rfl (hS3.rB hr0_2)) hS3 fun w9 hS4 => ?_
    refine go ?_
    cases oi h
    exact ⟨⟨rfl, rfl, trivial⟩, hS4.pick [] rfl rfl⟩
  rintro e w10 ⟨hE, hS5⟩
  obtain ⟨e, rfl⟩ := hE.out
  have h := h4
  refine go ?_
  refine CW.cond rfl (fun hc11 => ?_) (fun hc11 => ?_)
  · replace h := bcT h hc11
    refine go ?_
    cases h
    exact And.intro trivial ⟨_, Res.one (resOne.t rfl), rfl, hS5.pick [] rfl rfl⟩
  replace h := bcF h hc11
  refine go ?_
  cases h
  exact And.intro trivial ⟨_, Res.one (resOne.t rfl), rfl, hS5.pick [] rfl rfl⟩

theorem W_i_balOf {w0 : World} {N : Nat} {x0 : DPart} {x1 : Int} {r : DAmt} (h : F_i_balOf N x0 x1 = some r) {a0_0 : Option Addr} {n0_0 c0_0 : Nat} (hn0_0 : n0_0 = x0.label.levels.length) (hr0_0 : rdS (Bor w0 []) w0 a0_0 c0_0 x0.label.levels) {a0_1 : Option Addr} {n0_1 c0_1 : Nat} (hn0_1 : n0_1 = x0.own.length) (hr0_1 : rdS (Bor w0 []) w0 a0_1 c0_1 x0.own) {a0_2 : Option Addr} {n0_2 c0_2 : Nat} (hn0_2 : n0_2 = x0.tree.length) (hr0_2 : rdS (Bor w0 []) w0 a0_2 c0_2 x0.tree) {a0_3 : Option Addr} {n0_3 c0_3 : Nat} (hn0_3 : n0_3 = x0.heap.arena.length) (hr0_3 : rdS (Bor w0 []) w0 a0_3 c0_3 x0.heap.arena) {a0_7 : Option Addr} {n0_7 c0_7 : Nat} (hn0_7 : n0_7 = x0.heap.gc.grey.length) (hr0_7 : rdS (Bor w0 []) w0 a0_7 c0_7 x0.heap.gc.grey) {a0_8 : Option Addr} {n0_8 c0_8 : Nat} (hn0_8 : n0_8 = x0.taps.length) (hr0_8 : rdS (Bor w0 []) w0 a0_8 c0_8 x0.taps) :
    Ret Tryz.prog 48 #[.agg #[.slice a0_0 n0_0 c0_0, .slice a0_1 n0_1 c0_1, .slice a0_2 n0_2 c0_2, .slice a0_3 n0_3 c0_3, .int .i64 x0.heap.gc.phase, .int .i64 x0.heap.gc.pos, .int .i64 x0.heap.gc.round, .slice a0_7 n0_7 c0_7, .slice a0_8 n0_8 c0_8, .int .i64 x0.next, .int .i64 x0.want, .int .i64 x0.spent.pages, .int .i64 x0.spent.rent, .int .i64 x0.spent.cpu, .int .i64 x0.press, .int .i64 x0.lost], .int .i64 x1] w0 (fun v w => v = .agg #[.int .i64 r.pages, .int .i64 r.rent, .int .i64 r.cpu] ∧ St w0 [] w []) := by
  subst hn0_0 hn0_1 hn0_2 hn0_3 hn0_7 hn0_8
  unfold F_i_balOf at h
  refine Ret.fn Tryz.func48 fun e => ?_
  have hS1 := St.start w0
  refine go ?_
  refine LW.bo hS1 fun g1 w2 hS2 => ?_
  refine LW.al hS2 fun g3 w4 hS3 => ?_
  refine go ?_
  refine CW.draw (by kernel_rfl) ?_
  have hS4 := hS3.drew
  refine AW.u (i := 0) rfl (by kernel_rfl) rfl rfl (Pur.fa fo47_2 rfl) ?_
  refine AW.take (i := 1) rfl (by kernel_rfl) rfl rfl (Ldr.box (bt := 47) (fr := (0, 0)) (cs := [.slice a0_0 x0.label.levels.length c0_0, .slice a0_1 x0.own.length c0_1, .slice a0_2 x0.tree.length c0_2, .slice a0_3 x0.heap.arena.length c0_3, .int .i64 x0.heap.gc.phase, .int .i64 x0.heap.gc.pos, .int .i64 x0.heap.gc.round, .slice a0_7 x0.heap.gc.grey.length c0_7, .slice a0_8 x0.taps.length c0_8, .int .i64 x0.next, .int .i64 x0.want, .int .i64 x0.spent.pages, .int .i64 x0.spent.rent, .int .i64 x0.spent.cpu, .int .i64 x0.press, .int .i64 x0.lost]) ag39 rfl rfl) (St.cell (h := hS4) (i := 1) rfl) ?_
  refine AW.take (i := 2) rfl (by kernel_rfl) rfl rfl (Ldr.boxN (bt := 47) (fr := (0, 0)) (cs := [.slice a0_0 x0.label.levels.length c0_0, .slice a0_1 x0.own.length c0_1, .slice a0_2 x0.tree.length c0_2, .slice a0_3 x0.heap.arena.length c0_3, .int .i64 x0.heap.gc.phase, .int .i64 x0.heap.gc.pos, .int .i64 x0.heap.gc.round, .slice a0_7 x0.heap.gc.grey.length c0_7, .slice a0_8 x0.taps.length c0_8, .int .i64 x0.next, .int .i64 x0.want, .int .i64 x0.spent.pages, .int .i64 x0.spent.rent, .int .i64 x0.spent.cpu, .int .i64 x0.press, .int .i64 x0.lost]) ag47 rfl rfl) (St.cell (h := hS4) (i := 1) rfl) ?_
  refine AW.u (i := 3) rfl (by kernel_rfl) rfl rfl (Pur.fa fo47_3 rfl) ?_
  refine AW.u (i := 4) rfl (by kernel_rfl) rfl rfl (Pur.fa fo43_0 rfl) ?_
  refine AW.take (i := 5) rfl (by kernel_rfl) rfl rfl (Ldr.box (bt := 47) (fr := (0, 0)) (cs := [.slice a0_0 x0.label.levels.length c0_0, .slice a0_1 x0.own.length c0_1, .slice a0_2 x0.tree.length c0_2, .slice a0_3 x0.heap.arena.length c0_3, .int .i64 x0.heap.gc.phase, .int .i64 x0.heap.gc.pos, .int .i64 x0.heap.gc.round, .slice a0_7 x0.heap.gc.grey.length c0_7, .slice a0_8 x0.taps.length c0_8, .int .i64 x0.next, .int .i64 x0.want, .int .i64 x0.spent.pages, .int .i64 x0.spent.rent, .int .i64 x0.spent.cpu, .int .i64 x0.press, .int .i64 x0.lost]) ag40 rfl rfl) (St.cell (h := hS4) (i := 1) rfl) ?_
  refine AW.u (i := 6) rfl (by kernel_rfl) rfl rfl (Pur.p rfl) ?_
  replace ⟨y5, hy5, h⟩ := obind h
  obtain ⟨b8, o9, cs10, hae, hb13, hp6, hq7, hd11, hk12⟩ := hr0_3.idx hy5
  subst hae
  obtain ⟨a14, c15, a17, c18, a20, c21, rfl, hr16, hr19, hr22⟩ := hd11
  refine AW.u (i := 7) rfl (by kernel_rfl) rfl rfl (Pur.ix Tryz.underlying40 sz85 rfl rfl hp6 hq7) ?_
  refine AW.u (i := 8) rfl (by kernel_rfl) rfl rfl (Pur.fa fo85_3 rfl) ?_
  refine AW.take (i := 9) rfl (by kernel_rfl) rfl rfl (Ldr.old w0 ag3 rfl (hk12 3 _ rfl)) (hS4.same _ hb13.1 hb13.2) ?_
  replace ⟨y23, hy23, h⟩ := obind h
  have q := W_i_ResOf (w0 := w4.drew) hy23 rfl (hS4.rB hr0_0) rfl (hS4.rB hr0_1) rfl (hS4.rB hr0_2) rfl (hS4.rB hr0_3) rfl (hS4.rB hr0_7) rfl (hS4.rB hr0_8)
  refine AW.one (i := 10) (by kernel_rfl) ?_
  refine ⟨_, rfl, ?_⟩
  refine LW.call pl97 rfl rfl ?_
  refine Ret.mono q ?_
  rintro _ w24 ⟨rfl, hs⟩
  have hS5 := hS4.add hs
  refine LW.nil ⟨rfl, (.w (by kernel_rfl) (.c (St.cell (h := hS5) (i := 1) rfl) (.w (by kernel_rfl) (.c (St.cell (h := hS5) (i := 1) rfl) Kept.n)))), ?_⟩
  replace ⟨y25, hy25, h⟩ := obind h
  obtain ⟨b28, o29, cs30, hae, hb33, hp26, hq27, hd31, hk32⟩ := hr0_2.idx hy25
  subst hae
  obtain rfl := hd31
  refine AW.u (i := 11) rfl (by kernel_rfl) rfl rfl (Pur.ix Tryz.underlying39 sz87 rfl rfl hp26 hq27) ?_
  refine AW.u (i := 12) rfl (by kernel_rfl) rfl rfl (Pur.fa fo87_2 rfl) ?_
  refine AW.take (i := 13) rfl (by kernel_rfl) rfl rfl (Ldr.oldN w0 ag45 rfl rfl (fun j u hu => oldsub (m := 3) hk32 2 hu)) (hS5.same _ hb33.1 hb33.2) ?_
  refine AW.one (i := 14) (by kernel_rfl) ?_
  refine ⟨_, rfl, ?_⟩
  refine LW.st hS5 0 fun w34 hS6 => ?_
  refine LW.nil ⟨rfl, (.w (by kernel_rfl) (.w (by kernel_rfl) (.w (by kernel_rfl) (.w (by kernel_rfl) (.w (by kernel_rfl) Kept.n))))), ?_⟩
  refine AW.done (by kernel_rfl) ?_
  refine go ?_
  cases h
  exact And.intro trivial ⟨_, Res.one (resOne.b hS6 0 rfl ag45 rfl rfl), rfl, hS6.pick [] rfl rfl⟩

theorem W_i_Runnable {w0 : World} {N : Nat} {x0 : DPart} {x1 : Int} {r : (List Int)} (h : F_i_Runnable N x0 x1 = some r) {a0_0 : Option Addr} {n0_0 c0_0 : Nat} (hn0_0 : n0_0 = x0.label.levels.length) (hr0_0 : rdS (Bor w0 []) w0 a0_0 c0_0 x0.label.levels) {a0_1 : Option Addr} {n0_1 c0_1 : Nat} (hn0_1 : n0_1 = x0.own.length) (hr0_1 : rdS (Bor w0 []) w0 a0_1 c0_1 x0.own) {a0_2 : Option Addr} {n0_2 c0_2 : Nat} (hn0_2 : n0_2 = x0.tree.length) (hr0_2 : rdS (Bor w0 []) w0 a0_2 c0_2 x0.tree) {a0_3 : Option Addr} {n0_3 c0_3 : Nat} (hn0_3 : n0_3 = x0.heap.arena.length) (hr0_3 : rdS (Bor w0 []) w0 a0_3 c0_3 x0.heap.arena) {a0_7 : Option Addr} {n0_7 c0_7 : Nat} (hn0_7 : n0_7 = x0.heap.gc.grey.length) (hr0_7 : rdS (Bor w0 []) w0 a0_7 c0_7 x0.heap.gc.grey) {a0_8 : Option Addr} {n0_8 c0_8 : Nat} (hn0_8 : n0_8 = x0.taps.length) (hr0_8 : rdS (Bor w0 []) w0 a0_8 c0_8 x0.taps) :
    Ret Tryz.prog 11 #[.agg #[.slice a0_0 n0_0 c0_0, .slice a0_1 n0_1 c0_1, .slice a0_2 n0_2 c0_2, .slice a0_3 n0_3 c0_3, .int .i64 x0.heap.gc.phase, .int .i64 x0.heap.gc.pos, .int .i64 x0.heap.gc.round, .slice a0_7 n0_7 c0_7, .slice a0_8 n0_8 c0_8, .int .i64 x0.next, .int .i64 x0.want, .int .i64 x0.spent.pages, .int .i64 x0.spent.rent, .int .i64 x0.spent.cpu, .int .i64 x0.press, .int .i64 x0.lost], .int .i64 x1] w0 (fun v w => ∃ ar0 cr0, v = .slice ar0 r.length cr0 ∧ St w0 [] w [sl ar0 cr0 r]) := by
  subst hn0_0 hn0_1 hn0_2 hn0_3 hn0_7 hn0_8
  unfold F_i_Runnable at h
  refine Ret.fn Tryz.func11 fun e => ?_
  have hS1 := St.start w0
  refine go ?_
  refine LW.bo hS1 fun g1 w2 hS2 => ?_
  refine go ?_
  refine LW.bsl (α := Int) (vs := []) (cs := #[]) (l := ([] : List Int)) rfl (by kernel_rfl) rfl rfl rfl (fun w => rfl) hS2 rfl ?_
  intro a3 c4 w5 hS3 hf
  refine go ?_
  replace ⟨y6, hy6, h⟩ := obind h
  refine LW.cl (W_i_Threads hy6 rfl (hS3.rB hr0_0) rfl (hS3.rB hr0_1) rfl (hS3.rB hr0_2) rfl (hS3.rB hr0_3) rfl (hS3.rB hr0_7) rfl (hS3.rB hr0_8)) ?_
  rintro _ w9 ⟨a7, c8, rfl, hs⟩
  have hS4 := hS3.add hs
  refine go ?_
  obtain ⟨o56, ho56, h57⟩ := obind h
  refine CW.mono (CW.iter (σ := (List Int) × Int) (ρ := (List Int) × Int) (fun s10 e wb => ∃ (s10a0 : Option Addr), ∃ (s10c0 : Nat), En e [(2, .pointer (some ⟨g1, 0, none⟩)), (5, .slice s10a0 s10.1.length s10c0), (11, .slice a7 y6.length c8), (12, .int .i64 (y6.length : Int)), (13, .int .i64 s10.2)] ∧ St w0 [] wb [sl a7 c8 y6, sl s10a0 s10c0 s10.1, bx g1 47 [.slice a0_0 x0.label.levels.length c0_0, .slice a0_1 x0.own.length c0_1, .slice a0_2 x0.tree.length c0_2, .slice a0_3 x0.heap.arena.length c0_3, .int .i64 x0.heap.gc.phase, .int .i64 x0.heap.gc.pos, .int .i64 x0.heap.gc.round, .slice a0_7 x0.heap.gc.grey.length c0_7, .slice a0_8 x0.taps.length c0_8, .int .i64 x0.next, .int .i64 x0.want, .int .i64 x0.spent.pages, .int .i64 x0.spent.rent, .int .i64 x0.spent.cpu, .int .i64 x0.press, .int .i64 x0.lost]]) (fun s10 x e wb => x = .exit 0 ∧ ∃ (s10a0 : Option Addr), ∃ (s10c0 : Nat), En e [(5, .slice s10a0 s10.1.length s10c0)] ∧ St w0 [] wb [sl a7 c8 y6, sl s10a0 s10c0 s10.1, bx g1 47 [.slice a0_0 x0.label.levels.length c0_0, .slice a0_1 x0.own.length c0_1, .slice a0_2 x0.tree.length c0_2, .slice a0_3 x0.heap.arena.length c0_3, .int .i64 x0.heap.gc.phase, .int .i64 x0.heap.gc.pos, .int .i64 x0.heap.gc.round, .slice a0_7 x0.heap.gc.grey.length c0_7, .slice a0_8 x0.taps.length c0_8, .int .i64 x0.next, .int .i64 x0.want, .int .i64 x0.spent.pages, .int .i64 x0.spent.rent, .int .i64 x0.spent.cpu, .int .i64 x0.press, .int .i64 x0.lost]]) ?_ N (([] : List Int), 0) _ _ _ ⟨a3, c4, ⟨rfl, rfl, rfl, rfl, rfl, trivial⟩, hS4.pick [0, 1, 2] rfl rfl⟩ ho56) ?_
  · intro s10 e w11 o hM h
    obtain ⟨s10a0, s10c0, hE, hS5⟩ := hM
    obtain ⟨e, rfl⟩ := hE.out
    refine go ?_
    refine CW.cond rfl (fun hc12 => ?_) (fun hc12 => ?_)
    · replace h := bcT h hc12
      refine go ?_
      replace ⟨y13, hy13, h⟩ := obind h
      obtain ⟨b16, o17, hae, hp14, hq15⟩ := hS5.ownIdx (α := Int) (i := 0) rfl hy13
      subst hae
      refine LW.u (Pur.ix Tryz.underlying22 sz3 rfl rfl hp14 hq15) rfl ?_
      obtain ⟨F18, ho19, hS6⟩ := hS5.freeze (α := Int) 0 rfl
      obtain ⟨b20, o21, cs22, hae, hb25, _, _, hd23, hk24⟩ := ho19.rdF.idx hy13
      cases hae
      obtain rfl := hd23
      refine LW.l (Ldr.old w11 ag3 rfl (hk24 0 _ rfl)) (hS6.zC 0 rfl hb25) rfl ?_
      refine gs ?_
      obtain ⟨j26, hj26, h27⟩ := obind h
      refine CW.cut (fun e wb => En e [(2, .pointer (some ⟨g1, 0, none⟩)), (5, .slice s10a0 s10.1.length s10c0), (7, .int .i64 y13), (11, .slice (some ⟨b16, o17, none⟩) y6.length c8), (12, .int .i64 (y6.length : Int)), (13, .int .i64 s10.2), (31, .bool j26)] ∧ St w0 [] wb [fz w11 F18, sl s10a0 s10c0 s10.1, bx g1 47 [.slice a0_0 x0.label.levels.length c0_0, .slice a0_1 x0.own.length c0_1, .slice a0_2 x0.tree.length c0_2, .slice a0_3 x0.heap.arena.length c0_3, .int .i64 x0.heap.gc.phase, .int .i64 x0.heap.gc.pos, .int .i64 x0.heap.gc.round, .slice a0_7 x0.heap.gc.grey.length c0_7, .slice a0_8 x0.taps.length c0_8, .int .i64 x0.next, .int .i64 x0.want, .int .i64 x0.spent.pages, .int .i64 x0.spent.rent, .int .i64 x0.spent.cpu, .int .i64 x0.press, .int .i64 x0.lost]]) ?_ ?_
      · have h := hj26
        refine go ?_
        replace ⟨y28, hy28, h⟩ := obind h
        obtain ⟨b31, o32, cs33, hae, hb36, hp29, hq30, hd34, hk35⟩ := hr0_3.idx hy28
        subst hae
        obtain ⟨a37, c38, a40, c41, a43, c44, rfl, hr39, hr42, hr45⟩ := hd34
        refine LW.u (Pur.ix Tryz.underlying40 sz85 rfl rfl hp29 hq30) rfl ?_
        refine go ?_
        refine LW.l (Ldr.old w0 ag3 rfl (hk35 6 _ rfl)) (hS6.same _ hb36.1 hb36.2) rfl ?_
        refine go ?_
        refine LW.fl [2, 5, 7, 11, 12, 13, 25] fun e => ?_
        rcases bcases (y28.wait == 0) with hc46 | hc46
        · replace h := bcT h hc46
          refine go ?_
          replace ⟨y47, hy47, h⟩ := obind h
          refine go ?_
          refine LW.c0 (W_i_balOf hy47 rfl (hS6.rB hr0_0) rfl (hS6.rB hr0_1) rfl (hS6.rB hr0_2) rfl (hS6.rB hr0_3) rfl (hS6.rB hr0_7) rfl (hS6.rB hr0_8)) hS6 fun w48 hS7 => ?_
          refine go ?_
          refine LW.u (Pur.fd fo45_2 rfl rfl) rfl ?_
          refine go ?_
          cases oi h
          exact ⟨⟨rfl, rfl, rfl, rfl, rfl, rfl, rfl, trivial⟩, hS7.pick [0, 1, 2] rfl rfl⟩
        replace h := bcF h hc46
        refine go ?_
        cases oi h
        exact ⟨⟨rfl, rfl, rfl, rfl, rfl, rfl, rfl, trivial⟩, hS6.pick [0, 1, 2] rfl rfl⟩
      rintro e w49 ⟨hE, hS8⟩
      obtain ⟨e, rfl⟩ := hE.out
      have h := h27
      refine go ?_
      refine CW.fl [2, 5, 7, 11, 12, 13, 31] fun e => ?_
      refine CW.cond rfl (fun hc50 => ?_) (fun hc50 => ?_)
      · replace h := bcT h hc50
        refine go ?_
        replace ⟨y51, hy51, h⟩ := obind h
        refine LW.app1 (M := []) (L := [fz w11 F18, sl s10a0 s10c0 s10.1, bx g1 47 [.slice a0_0 x0.label.levels.length c0_0, .slice a0_1 x0.own.length c0_1, .slice a0_2 x0.tree.length c0_2, .slice a0_3 x0.heap.arena.length c0_3, .int .i64 x0.heap.gc.phase, .int .i64 x0.heap.gc.pos, .int .i64 x0.heap.gc.round, .slice a0_7 x0.heap.gc.grey.length c0_7, .slice a0_8 x0.taps.length c0_8, .int .i64 x0.next, .int .i64 x0.want, .int .i64 x0.spent.pages, .int .i64 x0.spent.rent, .int .i64 x0.spent.cpu, .int .i64 x0.press, .int .i64 x0.lost]]) (vs := #[.int .i64 y13]) (i := 1) sT22 rfl (by kernel_rfl) rfl rfl hy51 hS8 rfl (fun w G hG => by cases (show G = [] from hG); exact ⟨rfl, rfl⟩) rfl rfl ?_
        intro v54 a52 c53 w55 hS9 hf
        refine go ?_
        have hS10 := hS9.thaw (α := Int) 0 rfl ho19
        cases oi h
        exact ⟨rfl, ⟨a52, c53, ⟨rfl, rfl, rfl, rfl, rfl, trivial⟩, hS10.pick [0, 1, 2] rfl rfl⟩⟩
      replace h := bcF h hc50
      refine go ?_
      have hS11 := hS8.thaw (α := Int) 0 rfl ho19
      cases oi h
      exact ⟨rfl, ⟨s10a0, s10c0, ⟨rfl, rfl, rfl, rfl, rfl, trivial⟩, hS11.pick [0, 1, 2] rfl rfl⟩⟩
    replace h := bcF h hc12
    refine go ?_
    cases oi h
    exact ⟨trivial, rfl, ⟨s10a0, s10c0, ⟨rfl, trivial⟩, hS5.pick [0, 1, 2] rfl rfl⟩⟩
  intro x e w58 hM
  obtain ⟨rfl, hM⟩ := hM
  obtain ⟨s10a0, s10c0, hE, hS12⟩ := hM
  obtain ⟨e, rfl⟩ := hE.out
  have h := h57
  refine go ?_
  cases h
  exact And.intro trivial ⟨_, Res.one (resOne.t rfl), s10a0, s10c0, rfl, hS12.pick [1] rfl rfl⟩

theorem W_l_markLabel {w0 : World} {F : List Nat} {N : Nat} {x0 : DLabel} {x1 : Int} {r : Int × (List Int)} (h : F_l_markLabel N x0 x1 = some r) {a0_0 : Option Addr} {n0_0 c0_0 : Nat} (hn0_0 : n0_0 = x0.levels.length) (hS : St w0 F w0 [sl a0_0 c0_0 x0.levels]) :
    Ret Tryz.prog 54 #[.agg #[.slice a0_0 n0_0 c0_0], .int .i64 x1] w0 (fun v w => v = .int .i64 r.1 ∧ St w0 F w [sl a0_0 c0_0 r.2]) := by
  subst hn0_0
  unfold F_l_markLabel at h
  refine Ret.fn Tryz.func54 fun e => ?_
  refine go ?_
  refine LW.bo hS fun g1 w2 hS1 => ?_
  refine go ?_
  replace ⟨y3, hy3, h⟩ := obind h
  obtain ⟨q6, hy3', hq7⟩ := obind hy3
  obtain ⟨hl8, hq7⟩ := keepL_some hq7
  rw [Option.some.inj hq7] at hy3' hl8
  have hS2 := hS1.pick (M := [sl a0_0 c0_0 x0.levels] ++ [bx g1 38 [.slice a0_0 x0.levels.length c0_0]]) [1, 0] rfl rfl
  obtain ⟨F4, hL5⟩ := St.lend (L := [sl a0_0 c0_0 x0.levels]) (M := [bx g1 38 [.slice a0_0 x0.levels.length c0_0]]) hS2
  refine LW.cl (W_l_markIntS hy3' rfl hL5.st) ?_
  rintro _ w9 ⟨rfl, hs⟩
  have hS3 := hL5.back _ _ hs
  refine go ?_
  replace h := Option.some.inj h
  subst h
  rw [show x0.levels.length = y3.2.length from hl8] at hS3
  exact And.intro trivial ⟨_, Res.one (resOne.t rfl), rfl, hS3.pick [0] rfl rfl⟩

theorem W_l_markGc {w0 : World} {F : List Nat} {N : Nat} {x0 : DGc} {x1 : Int} {r : Int × (List Int)} (h : F_l_markGc N x0 x1 = some r) {a0_3 : Option Addr} {n0_3 c0_3 : Nat} (hn0_3 : n0_3 = x0.grey.length) (hS : St w0 F w0 [sl a0_3 c0_3 x0.grey]) :
    Ret Tryz.prog 103 #[.agg #[.int .i64 x0.phase, .int .i64 x0.pos, .int .i64 x0.round, .slice a0_3 n0_3 c0_3], .int .i64 x1] w0 (fun v w => v = .int .i64 r.1 ∧ St w0 F w [sl a0_3 c0_3 r.2]) := by
  subst hn0_3
  unfold F_l_markGc at h
  refine Ret.fn Tryz.func103 fun e => ?_
  refine go ?_
  refine LW.bo hS fun g1 w2 hS1 => ?_
  refine go ?_
  replace ⟨y3, hy3, h⟩ := obind h
  obtain ⟨q6, hy3', hq7⟩ := obind hy3
  obtain ⟨hl8, hq7⟩ := keepL_some hq7
  rw [Option.some.inj hq7] at hy3' hl8
  have hS2 := hS1.pick (M := [sl a0_3 c0_3 x0.grey] ++ [bx g1 41 [.int .i64 x0.phase, .int .i64 x0.pos, .int .i64 x0.round, .slice a0_3 x0.grey.length c0_3]]) [1, 0] rfl rfl
  obtain ⟨F4, hL5⟩ := St.lend (L := [sl a0_3 c0_3 x0.grey]) (M := [bx g1 41 [.int .i64 x0.phase, .int .i64 x0.pos, .int .i64 x0.round, .slice a0_3 x0.grey.length c0_3]]) hS2
  refine LW.cl (W_l_markIntS hy3' rfl hL5.st) ?_
  rintro _ w9 ⟨rfl, hs⟩
  have hS3 := hL5.back _ _ hs
  refine go ?_
  replace h := Option.some.inj h
  subst h
  rw [show x0.grey.length = y3.2.length from hl8] at hS3
  exact And.intro trivial ⟨_, Res.one (resOne.t rfl), rfl, hS3.pick [0] rfl rfl⟩

theorem W_l_markHeap {w0 : World} {F : List Nat} {N : Nat} {x0 : DHeap} {x1 : Int} {r : Int × (List DObj) × (List Int)} (h : F_l_markHeap N x0 x1 = some r) {a0_0 : Option Addr} {n0_0 c0_0 : Nat} (hn0_0 : n0_0 = x0.arena.length) {a0_4 : Option Addr} {n0_4 c0_4 : Nat} (hn0_4 : n0_4 = x0.gc.grey.length) (hS : St w0 F w0 [sl a0_0 c0_0 x0.arena, sl a0_4 c0_4 x0.gc.grey]) :
    Ret Tryz.prog 56 #[.agg #[.slice a0_0 n0_0 c0_0, .int .i64 x0.gc.phase, .int .i64 x0.gc.pos, .int .i64 x0.gc.round, .slice a0_4 n0_4 c0_4], .int .i64 x1] w0 (fun v w => v = .int .i64 r.1 ∧ St w0 F w [sl a0_0 c0_0 r.2.1, sl a0_4 c0_4 r.2.2]) := by
  subst hn0_0 hn0_4
  unfold F_l_markHeap at h
  refine Ret.fn Tryz.func56 fun e => ?_
  refine go ?_
  refine LW.bo hS fun g1 w2 hS1 => ?_
  refine go ?_
  replace ⟨y3, hy3, h⟩ := obind h
  obtain ⟨q6, hy3', hq7⟩ := obind hy3
  obtain ⟨hl8, hq7⟩ := keepL_some hq7
  rw [Option.some.inj hq7] at hy3' hl8
  have hS2 := hS1.pick (M := [sl a0_0 c0_0 x0.arena] ++ [bx g1 43 [.slice a0_0 x0.arena.length c0_0, .int .i64 x0.gc.phase, .int .i64 x0.gc.pos, .int .i64 x0.gc.round, .slice a0_4 x0.gc.grey.length c0_4], sl a0_4 c0_4 x0.gc.grey]) [1, 0, 2] rfl rfl
  obtain ⟨F4, hL5⟩ := St.lend (L := [sl a0_0 c0_0 x0.arena]) (M := [bx g1 43 [.slice a0_0 x0.arena.length c0_0, .int .i64 x0.gc.phase, .int .i64 x0.gc.pos, .int .i64 x0.gc.round, .slice a0_4 x0.gc.grey.length c0_4], sl a0_4 c0_4 x0.gc.grey]) hS2
  refine LW.cl (W_l_markObjS hy3' rfl hL5.st) ?_
  rintro _ w9 ⟨rfl, hs⟩
  have hS3 := hL5.back _ _ hs
  refine go ?_
  replace ⟨y10, hy10, h⟩ := obind h
  obtain ⟨q13, hy10', hq14⟩ := obind hy10
  obtain ⟨hl15, hq14⟩ := keepL_some hq14
  rw [Option.some.inj hq14] at hy10' hl15
  rw [show x0.arena.length = y3.2.length from hl8] at hS3
  have hS4 := hS3.pick (M := [sl a0_4 c0_4 x0.gc.grey] ++ [sl a0_0 c0_0 y3.2, bx g1 43 [.slice a0_0 y3.2.length c0_0, .int .i64 x0.gc.phase, .int .i64 x0.gc.pos, .int .i64 x0.gc.round, .slice a0_4 x0.gc.grey.length c0_4]]) [2, 0, 1] rfl rfl
  obtain ⟨F11, hL12⟩ := St.lend (L := [sl a0_4 c0_4 x0.gc.grey]) (M := [sl a0_0 c0_0 y3.2, bx g1 43 [.slice a0_0 y3.2.length c0_0, .int .i64 x0.gc.phase, .int .i64 x0.gc.pos, .int .i64 x0.gc.round, .slice a0_4 x0.gc.grey.length c0_4]]) hS4
  refine LW.cl (W_l_markGc hy10' rfl hL12.st) ?_
  rintro _ w16 ⟨rfl, hs⟩
  have hS5 := hL12.back _ _ hs
  refine go ?_
  replace h := Option.some.inj h
  subst h
  rw [show x0.gc.grey.length = y10.2.length from hl15] at hS5
  exact And.intro trivial ⟨_, Res.one (resOne.t rfl), rfl, hS5.pick [1, 0] rfl rfl⟩

end Go.Kx
