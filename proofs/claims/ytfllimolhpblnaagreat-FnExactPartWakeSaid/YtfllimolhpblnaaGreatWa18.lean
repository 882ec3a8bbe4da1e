/- Each call returns what the plain function says. Printed by drive.py. -/
import Derived.Test.YtfllimolhpblnaaGreatFa
import Derived.Test.YtfllimolhpblnaaGreatPu
import Derived.Test.YtfllimolhpblnaaGreatWa0
import Derived.Test.YtfllimolhpblnaaGreatWa1
import Derived.Test.YtfllimolhpblnaaGreatWa4
import Derived.Test.YtfllimolhpblnaaGreatWa5
import Derived.Test.YtfllimolhpblnaaGreatWa6
import Derived.Test.YtfllimolhpblnaaGreatWa11
import Derived.Test.YtfllimolhpblnaaGreatWa14
import Derived.Test.YtfllimolhpblnaaGreatWa17
namespace Go.Kx
open Go Go.RowKit Go.Proofs
set_option maxRecDepth 10000
set_option maxHeartbeats 2000000
set_option linter.unusedVariables false
set_option linter.unusedSimpArgs false
theorem W_s_HandleSlot {w0 : World} {N : Nat} {x0 : Int} {r : Int} (h : F_s_HandleSlot N x0 = some r) :
    Ret Tryz.prog 133 #[.int .i64 x0] w0 (fun v w => v = .int .i64 r ∧ St w0 [] w []) := by
  unfold F_s_HandleSlot at h
  refine Ret.fn Tryz.func133 fun e => ?_
  have hS1 := St.start w0
  refine go ?_
  replace ⟨y1, hy1, h⟩ := obind h
  refine LW.c0 (W_s_l8Handle hy1) hS1 fun w2 hS2 => ?_
  refine go ?_
  refine CW.cond rfl (fun hc3 => ?_) (fun hc3 => ?_)
  · replace h := bcT h hc3
    refine go ?_
    cases h
    exact And.intro trivial ⟨_, Res.one (resOne.t rfl), rfl, hS2.pick [] rfl rfl⟩
  replace h := bcF h hc3
  refine go ?_
  refine LW.u (Pur.quo rfl rfl (by decide)) rfl ?_
  refine LW.u (Pur.rem rfl rfl (by decide)) rfl ?_
  refine go ?_
  cases h
  exact And.intro trivial ⟨_, Res.one (resOne.t rfl), rfl, hS2.pick [] rfl rfl⟩

theorem W_s_HandleGen {w0 : World} {N : Nat} {x0 : Int} {r : Int} (h : F_s_HandleGen N x0 = some r) :
    Ret Tryz.prog 134 #[.int .i64 x0] w0 (fun v w => v = .int .i64 r ∧ St w0 [] w []) := by
  unfold F_s_HandleGen at h
  refine Ret.fn Tryz.func134 fun e => ?_
  have hS1 := St.start w0
  refine go ?_
  replace ⟨y1, hy1, h⟩ := obind h
  refine LW.c0 (W_s_l8Handle hy1) hS1 fun w2 hS2 => ?_
  refine go ?_
  refine CW.cond rfl (fun hc3 => ?_) (fun hc3 => ?_)
  · replace h := bcT h hc3
    refine go ?_
    cases h
    exact And.intro trivial ⟨_, Res.one (resOne.t rfl), rfl, hS2.pick [] rfl rfl⟩
  replace h := bcF h hc3
  refine go ?_
  refine LW.u (Pur.quo rfl rfl (by decide)) rfl ?_
  refine LW.u (Pur.quo rfl rfl (by decide)) rfl ?_
  refine go ?_
  cases h
  exact And.intro trivial ⟨_, Res.one (resOne.t rfl), rfl, hS2.pick [] rfl rfl⟩

theorem W_i_HandleSlot {w0 : World} {N : Nat} {x0 : Int} {r : Int} (h : F_i_HandleSlot N x0 = some r) :
    Ret Tryz.prog 149 #[.int .i64 x0] w0 (fun v w => v = .int .i64 r ∧ St w0 [] w []) := by
  unfold F_i_HandleSlot at h
  refine Ret.fn Tryz.func149 fun e => ?_
  have hS1 := St.start w0
  refine go ?_
  replace ⟨y1, hy1, h⟩ := obind h
  refine LW.c0 (W_i_isHandle hy1) hS1 fun w2 hS2 => ?_
  refine go ?_
  refine CW.cond rfl (fun hc3 => ?_) (fun hc3 => ?_)
  · replace h := bcT h hc3
    refine go ?_
    cases h
    exact And.intro trivial ⟨_, Res.one (resOne.t rfl), rfl, hS2.pick [] rfl rfl⟩
  replace h := bcF h hc3
  refine go ?_
  refine LW.u (Pur.quo rfl rfl (by decide)) rfl ?_
  refine LW.u (Pur.rem rfl rfl (by decide)) rfl ?_
  refine go ?_
  cases h
  exact And.intro trivial ⟨_, Res.one (resOne.t rfl), rfl, hS2.pick [] rfl rfl⟩

theorem W_i_HandleGen {w0 : World} {N : Nat} {x0 : Int} {r : Int} (h : F_i_HandleGen N x0 = some r) :
    Ret Tryz.prog 150 #[.int .i64 x0] w0 (fun v w => v = .int .i64 r ∧ St w0 [] w []) := by
  unfold F_i_HandleGen at h
  refine Ret.fn Tryz.func150 fun e => ?_
  have hS1 := St.start w0
  refine go ?_
  replace ⟨y1, hy1, h⟩ := obind h
  refine LW.c0 (W_i_isHandle hy1) hS1 fun w2 hS2 => ?_
  refine go ?_
  refine CW.cond rfl (fun hc3 => ?_) (fun hc3 => ?_)
  · replace h := bcT h hc3
    refine go ?_
    cases h
    exact And.intro trivial ⟨_, Res.one (resOne.t rfl), rfl, hS2.pick [] rfl rfl⟩
  replace h := bcF h hc3
  refine go ?_
  refine LW.u (Pur.quo rfl rfl (by decide)) rfl ?_
  refine LW.u (Pur.quo rfl rfl (by decide)) rfl ?_
  refine go ?_
  cases h
  exact And.intro trivial ⟨_, Res.one (resOne.t rfl), rfl, hS2.pick [] rfl rfl⟩

theorem W_s_GoodSlot {w0 : World} {N : Nat} {x0 : List DObj} {x1 : Int} {x2 : Int} {x3 : Int} {r : Int} (h : F_s_GoodSlot N x0 x1 x2 x3 = some r) {a0_0 : Option Addr} {n0_0 c0_0 : Nat} (hn0_0 : n0_0 = x0.length) (hr0_0 : rdS (Bor w0 []) w0 a0_0 c0_0 x0) :
    Ret Tryz.prog 61 #[.slice a0_0 n0_0 c0_0, .int .i64 x1, .int .i64 x2, .int .i64 x3] w0 (fun v w => v = .int .i64 r ∧ St w0 [] w []) := by
  subst hn0_0
  unfold F_s_GoodSlot at h
  refine Ret.fn Tryz.func61 fun e => ?_
  have hS1 := St.start w0
  refine gs ?_
  refine CW.region ?_
  refine gs ?_
  obtain ⟨j1, hj1, h2⟩ := obind h
  refine CW.cut (fun e wb => En e [(0, .slice a0_0 x0.length c0_0), (1, .int .i64 x1), (3, .int .i64 x3), (23, .bool j1)] ∧ St w0 [] wb []) ?_ ?_
  · have h := hj1
    refine go ?_
    replace ⟨y3, hy3, h⟩ := obind h
    refine LW.c0 (W_s_ArenaOk hy3 rfl (hS1.rB hr0_0)) hS1 fun w4 hS2 => ?_
    refine go ?_
    rcases bcases (!y3) with hc5 | hc5
    · replace h := bcT h hc5
      refine go ?_
      cases oi h
      exact ⟨⟨rfl, rfl, rfl, rfl, trivial⟩, hS2.pick [] rfl rfl⟩
    replace h := bcF h hc5
    refine go ?_
    replace ⟨y6, hy6, h⟩ := obind h
    refine go ?_
    refine LW.c0 (W_s_l8Handle hy6) hS2 fun w7 hS3 => ?_
    refine go ?_
    rcases bcases (!y6) with hc8 | hc8
    · replace h := bcT h hc8
      refine go ?_
      cases oi h
      exact ⟨⟨rfl, rfl, rfl, rfl, trivial⟩, hS3.pick [] rfl rfl⟩
    replace h := bcF h hc8
    refine go ?_
    replace ⟨y9, hy9, h⟩ := obind h
    refine go ?_
    refine LW.c0 (W_s_HandlePart hy9) hS3 fun w10 hS4 => ?_
    refine go ?_
    cases oi h
    exact ⟨⟨rfl, rfl, rfl, rfl, trivial⟩, hS4.pick [] rfl rfl⟩
  rintro e w11 ⟨hE, hS5⟩
  obtain ⟨e, rfl⟩ := hE.out
  have h := h2
  refine go ?_
  refine CW.cond rfl (fun hc12 => ?_) (fun hc12 => ?_)
  · replace h := bcT h hc12
    refine go ?_
    cases h
    exact And.intro trivial ⟨_, Res.one (resOne.t rfl), rfl, hS5.pick [] rfl rfl⟩
  replace h := bcF h hc12
  refine go ?_
  replace ⟨y13, hy13, h⟩ := obind h
  refine LW.c0 (W_s_HandleSlot hy13) hS5 fun w14 hS6 => ?_
  refine gs ?_
  obtain ⟨j15, hj15, h16⟩ := obind h
  refine CW.cut (fun e wb => En e [(9, .int .i64 y13), (50, .bool j15)] ∧ St w0 [] wb []) ?_ ?_
  · have h := hj15
    refine CW.draw (by kernel_rfl) ?_
    have hS7 := hS6.drew
    refine AW.u (i := 0) rfl (by kernel_rfl) rfl rfl (Pur.p rfl) ?_
    refine AW.u (i := 1) rfl (by kernel_rfl) rfl rfl (Pur.p rfl) ?_
    replace ⟨y17, hy17, h⟩ := obind h
    obtain ⟨b20, o21, cs22, hae, hb25, hp18, hq19, hd23, hk24⟩ := hr0_0.idx hy17
    subst hae
    obtain ⟨a26, c27, a29, c30, a32, c33, rfl, hr28, hr31, hr34⟩ := hd23
    refine AW.u (i := 2) rfl (by kernel_rfl) rfl rfl (Pur.ix Tryz.underlying59 sz92 rfl rfl hp18 hq19) ?_
    refine AW.u (i := 3) rfl (by kernel_rfl) rfl rfl (Pur.fa fo92_1 rfl) ?_
    refine AW.take (i := 4) rfl (by kernel_rfl) rfl rfl (Ldr.old w0 ag3 rfl (hk24 1 _ rfl)) (hS7.same _ hb25.1 hb25.2) ?_
    refine AW.u (i := 5) rfl (by kernel_rfl) rfl rfl (Pur.p rfl) ?_
    refine AW.u (i := 6) rfl (by kernel_rfl) rfl rfl (Pur.p rfl) ?_
    rcases bcases (y17.kind == 0) with hc35 | hc35
    · replace h := bcT h hc35
      refine AW.no (i := 7) rfl (by kernel_rfl) (want_not rfl rfl hc35) rfl ?_
      refine AW.no (i := 8) rfl (by kernel_rfl) (want_not rfl rfl hc35) rfl ?_
      refine AW.no (i := 9) rfl (by kernel_rfl) (want_not rfl rfl hc35) rfl ?_
      refine AW.no (i := 10) rfl (by kernel_rfl) (want_not rfl rfl hc35) rfl ?_
      refine AW.no (i := 11) rfl (by kernel_rfl) (want_not rfl rfl hc35) rfl ?_
      refine AW.no (i := 12) rfl (by kernel_rfl) (want_not rfl rfl hc35) rfl ?_
      refine AW.no (i := 13) rfl (by kernel_rfl) (want_not rfl rfl hc35) rfl ?_
      refine AW.no (i := 14) rfl (by kernel_rfl) (want_not rfl rfl hc35) rfl ?_
      refine AW.u (i := 15) rfl (by kernel_rfl) rfl rfl (Pur.pickT rfl hc35) ?_
      refine AW.u (i := 16) rfl (by kernel_rfl) rfl rfl (Pur.p rfl) ?_
      refine AW.no (i := 17) rfl (by kernel_rfl) (want_not rfl rfl rfl) rfl ?_
      refine AW.no (i := 18) rfl (by kernel_rfl) (want_not rfl rfl rfl) rfl ?_
      refine AW.no (i := 19) rfl (by kernel_rfl) (want_not rfl rfl rfl) rfl ?_
      refine AW.no (i := 20) rfl (by kernel_rfl) (want_not rfl rfl rfl) rfl ?_
      refine AW.no (i := 21) rfl (by kernel_rfl) (want_not rfl rfl rfl) rfl ?_
      refine AW.no (i := 22) rfl (by kernel_rfl) (want_not rfl rfl rfl) rfl ?_
      refine AW.no (i := 23) rfl (by kernel_rfl) (want_not rfl rfl rfl) rfl ?_
      refine AW.u (i := 24) rfl (by kernel_rfl) rfl rfl (Pur.pickT rfl rfl) ?_
      refine AW.done (by kernel_rfl) ?_
      cases oi h
      exact ⟨⟨rfl, rfl, trivial⟩, hS7.pick [] rfl rfl⟩
    replace h := bcF h hc35
    refine AW.u (i := 7) rfl (by kernel_rfl) (want_of rfl rfl hc35) rfl (Pur.p rfl) ?_
    refine AW.u (i := 8) rfl (by kernel_rfl) (want_of rfl rfl hc35) rfl (Pur.p rfl) ?_
    refine AW.u (i := 9) rfl (by kernel_rfl) (want_of rfl rfl hc35) rfl (Pur.ix Tryz.underlying59 sz92 rfl rfl hp18 hq19) ?_
    refine AW.u (i := 10) rfl (by kernel_rfl) (want_of rfl rfl hc35) rfl (Pur.fa fo92_0 rfl) ?_
    refine AW.take (i := 11) rfl (by kernel_rfl) (want_of rfl rfl hc35) rfl (Ldr.old w0 ag3 rfl (hk24 0 _ rfl)) (hS7.same _ hb25.1 hb25.2) ?_
    refine AW.u (i := 12) rfl (by kernel_rfl) (want_of rfl rfl hc35) rfl (Pur.p rfl) ?_
    replace ⟨y36, hy36, h⟩ := obind h
    have q := W_s_HandleGen (w0 := w14.drew) hy36
    refine AW.one (i := 13) (by kernel_rfl) ?_
    refine ⟨_, rfl, ?_⟩
    refine (LW.gY (want_of rfl rfl hc35) ?_)
    refine LW.call pl134 rfl rfl ?_
    refine Ret.mono q ?_
    rintro _ w37 ⟨rfl, hs⟩
    have hS8 := hS7.add hs
    refine LW.nil ⟨rfl, (.c (hS8.same _ hb25.1 hb25.2) (.c (hS8.same _ hb25.1 hb25.2) Kept.n)), ?_⟩
    refine AW.u (i := 14) rfl (by kernel_rfl) (want_of rfl rfl hc35) rfl (Pur.p rfl) ?_
    refine AW.u (i := 15) rfl (by kernel_rfl) rfl rfl (Pur.pickF rfl hc35) ?_
    refine AW.u (i := 16) rfl (by kernel_rfl) rfl rfl (Pur.p rfl) ?_
    rcases bcases (y17.gen != y36) with hc38 | hc38
    · replace h := bcT h hc38
      refine AW.no (i := 17) rfl (by kernel_rfl) (want_not rfl rfl hc38) rfl ?_
      refine AW.no (i := 18) rfl (by kernel_rfl) (want_not rfl rfl hc38) rfl ?_
      refine AW.no (i := 19) rfl (by kernel_rfl) (want_not rfl rfl hc38) rfl ?_
      refine AW.no (i := 20) rfl (by kernel_rfl) (want_not rfl rfl hc38) rfl ?_
      refine AW.no (i := 21) rfl (by kernel_rfl) (want_not rfl rfl hc38) rfl ?_
      refine AW.no (i := 22) rfl (by kernel_rfl) (want_not rfl rfl hc38) rfl ?_
      refine AW.no (i := 23) rfl (by kernel_rfl) (want_not rfl rfl hc38) rfl ?_
      refine AW.u (i := 24) rfl (by kernel_rfl) rfl rfl (Pur.pickT rfl hc38) ?_
      refine AW.done (by kernel_rfl) ?_
      cases oi h
      exact ⟨⟨rfl, rfl, trivial⟩, hS8.pick [] rfl rfl⟩
    replace h := bcF h hc38
    refine AW.u (i := 17) rfl (by kernel_rfl) (want_of rfl rfl hc38) rfl (Pur.p rfl) ?_
    refine AW.u (i := 18) rfl (by kernel_rfl) (want_of rfl rfl hc38) rfl (Pur.p rfl) ?_
    refine AW.u (i := 20) rfl (by kernel_rfl) (want_of rfl rfl hc38) rfl (Pur.p rfl) ?_
    replace ⟨y39, hy39, h⟩ := obind h
    have q := W_s_Reach (w0 := w37) hy39 rfl (hS8.rB hr0_0)
    refine AW.one (i := 19) (by kernel_rfl) ?_
    refine ⟨_, rfl, ?_⟩
    refine (LW.gY (want_of rfl rfl hc38) ?_)
    refine LW.call pl119 rfl rfl ?_
    refine Ret.mono q ?_
    rintro _ w42 ⟨a40, c41, rfl, hs⟩
    have hS9 := hS8.add hs
    refine LW.nil ⟨rfl, (.c (hS9.same _ hb25.1 hb25.2) (.c (hS9.same _ hb25.1 hb25.2) Kept.n)), ?_⟩
    replace ⟨y43, hy43, h⟩ := obind h
    obtain ⟨b46, o47, hae, hp44, hq45⟩ := hS9.ownIdx (α := Bool) (i := 0) rfl hy43
    subst hae
    refine AW.u (i := 21) rfl (by kernel_rfl) (want_of rfl rfl hc38) rfl (Pur.ix Tryz.underlying140 sz4 rfl rfl hp44 hq45) ?_
    obtain ⟨F48, ho49, hS10⟩ := hS9.freeze (α := Bool) 0 rfl
    obtain ⟨b50, o51, cs52, hae, hb55, _, _, hd53, hk54⟩ := ho49.rdF.idx hy43
    cases hae
    obtain rfl := hd53
    refine AW.take (i := 22) rfl (by kernel_rfl) (want_of rfl rfl hc38) rfl (Ldr.old w42 ag4 rfl (hk54 0 _ rfl)) (hS10.zC 0 rfl hb55) ?_
    refine AW.u (i := 23) rfl (by kernel_rfl) (want_of rfl rfl hc38) rfl (Pur.p rfl) ?_
    refine AW.u (i := 24) rfl (by kernel_rfl) rfl rfl (Pur.pickF rfl hc38) ?_
    refine AW.done (by kernel_rfl) ?_
    cases oi h
    exact ⟨⟨rfl, rfl, trivial⟩, hS10.pick [] rfl rfl⟩
  rintro e w56 ⟨hE, hS11⟩
  obtain ⟨e, rfl⟩ := hE.out
  have h := h16
  refine go ?_
  refine CW.cond rfl (fun hc57 => ?_) (fun hc57 => ?_)
  · replace h := bcT h hc57
    refine go ?_
    cases h
    exact And.intro trivial ⟨_, Res.one (resOne.t rfl), rfl, hS11.pick [] rfl rfl⟩
  replace h := bcF h hc57
  refine go ?_
  cases h
  exact And.intro trivial ⟨_, Res.one (resOne.t rfl), rfl, hS11.pick [] rfl rfl⟩

theorem W_i_GoodSlot {w0 : World} {N : Nat} {x0 : List DObj} {x1 : Int} {x2 : Int} {x3 : Int} {r : Int} (h : F_i_GoodSlot N x0 x1 x2 x3 = some r) {a0_0 : Option Addr} {n0_0 c0_0 : Nat} (hn0_0 : n0_0 = x0.length) (hr0_0 : rdS (Bor w0 []) w0 a0_0 c0_0 x0) :
    Ret Tryz.prog 71 #[.slice a0_0 n0_0 c0_0, .int .i64 x1, .int .i64 x2, .int .i64 x3] w0 (fun v w => v = .int .i64 r ∧ St w0 [] w []) := by
  subst hn0_0
  unfold F_i_GoodSlot at h
  refine Ret.fn Tryz.func71 fun e => ?_
  have hS1 := St.start w0
  refine go ?_
  replace ⟨y1, hy1, h⟩ := obind h
  refine LW.cl (W_i_Reach hy1 rfl (hS1.rB hr0_0)) ?_
  rintro _ w4 ⟨a2, c3, rfl, hs⟩
  have hS2 := hS1.add hs
  refine gs ?_
  obtain ⟨j5, hj5, h6⟩ := obind h
  refine CW.cut (fun e wb => En e [(0, .slice a0_0 x0.length c0_0), (3, .int .i64 x3), (9, .slice a2 y1.length c3), (27, .bool j5)] ∧ St w0 [] wb [sl a2 c3 y1]) ?_ ?_
  · have h := hj5
    refine go ?_
    rcases bcases ((y1.length : Int) == 0) with hc7 | hc7
    · replace h := bcT h hc7
      refine go ?_
      cases oi h
      exact ⟨⟨rfl, rfl, rfl, rfl, trivial⟩, hS2.pick [0] rfl rfl⟩
    replace h := bcF h hc7
    refine go ?_
    replace ⟨y8, hy8, h⟩ := obind h
    refine go ?_
    refine LW.c0 (W_i_isHandle hy8) hS2 fun w9 hS3 => ?_
    refine go ?_
    rcases bcases (!y8) with hc10 | hc10
    · replace h := bcT h hc10
      refine go ?_
      cases oi h
      exact ⟨⟨rfl, rfl, rfl, rfl, trivial⟩, hS3.pick [0] rfl rfl⟩
    replace h := bcF h hc10
    refine go ?_
    replace ⟨y11, hy11, h⟩ := obind h
    refine go ?_
    refine LW.c0 (W_i_HandlePart hy11) hS3 fun w12 hS4 => ?_
    refine go ?_
    cases oi h
    exact ⟨⟨rfl, rfl, rfl, rfl, trivial⟩, hS4.pick [0] rfl rfl⟩
  rintro e w13 ⟨hE, hS5⟩
  obtain ⟨e, rfl⟩ := hE.out
  have h := h6
  refine go ?_
  refine CW.cond rfl (fun hc14 => ?_) (fun hc14 => ?_)
  · replace h := bcT h hc14
    refine go ?_
    cases h
    exact And.intro trivial ⟨_, Res.one (resOne.t rfl), rfl, hS5.pick [] rfl rfl⟩
  replace h := bcF h hc14
  refine go ?_
  replace ⟨y15, hy15, h⟩ := obind h
  refine LW.c0 (W_i_HandleSlot hy15) hS5 fun w16 hS6 => ?_
  refine gs ?_
  obtain ⟨j17, hj17, h18⟩ := obind h
  refine CW.cut (fun e wb => En e [(10, .int .i64 y15), (52, .bool j17)] ∧ St w0 [] wb []) ?_ ?_
  · have h := hj17
    refine CW.draw (by kernel_rfl) ?_
    have hS7 := hS6.drew
    refine AW.u (i := 0) rfl (by kernel_rfl) rfl rfl (Pur.p rfl) ?_
    refine AW.u (i := 1) rfl (by kernel_rfl) rfl rfl (Pur.p rfl) ?_
    replace ⟨y19, hy19, h⟩ := obind h
    obtain ⟨b22, o23, cs24, hae, hb27, hp20, hq21, hd25, hk26⟩ := hr0_0.idx hy19
    subst hae
    obtain ⟨a28, c29, a31, c32, a34, c35, rfl, hr30, hr33, hr36⟩ := hd25
    refine AW.u (i := 2) rfl (by kernel_rfl) rfl rfl (Pur.ix Tryz.underlying59 sz92 rfl rfl hp20 hq21) ?_
    refine AW.u (i := 3) rfl (by kernel_rfl) rfl rfl (Pur.fa fo92_1 rfl) ?_
    refine AW.take (i := 4) rfl (by kernel_rfl) rfl rfl (Ldr.old w0 ag3 rfl (hk26 1 _ rfl)) (hS7.same _ hb27.1 hb27.2) ?_
    refine AW.u (i := 5) rfl (by kernel_rfl) rfl rfl (Pur.p rfl) ?_
    refine AW.u (i := 6) rfl (by kernel_rfl) rfl rfl (Pur.p rfl) ?_
    rcases bcases (y19.kind == 0) with hc37 | hc37
    · replace h := bcT h hc37
      refine AW.no (i := 7) rfl (by kernel_rfl) (want_not rfl rfl hc37) rfl ?_
      refine AW.no (i := 8) rfl (by kernel_rfl) (want_not rfl rfl hc37) rfl ?_
      refine AW.no (i := 9) rfl (by kernel_rfl) (want_not rfl rfl hc37) rfl ?_
      refine AW.no (i := 10) rfl (by kernel_rfl) (want_not rfl rfl hc37) rfl ?_
      refine AW.no (i := 11) rfl (by kernel_rfl) (want_not rfl rfl hc37) rfl ?_
      refine AW.no (i := 12) rfl (by kernel_rfl) (want_not rfl rfl hc37) rfl ?_
      refine AW.no (i := 13) rfl (by kernel_rfl) (want_not rfl rfl hc37) rfl ?_
      refine AW.no (i := 14) rfl (by kernel_rfl) (want_not rfl rfl hc37) rfl ?_
      refine AW.u (i := 15) rfl (by kernel_rfl) rfl rfl (Pur.pickT rfl hc37) ?_
      refine AW.u (i := 16) rfl (by kernel_rfl) rfl rfl (Pur.p rfl) ?_
      refine AW.no (i := 17) rfl (by kernel_rfl) (want_not rfl rfl rfl) rfl ?_
      refine AW.no (i := 18) rfl (by kernel_rfl) (want_not rfl rfl rfl) rfl ?_
      refine AW.no (i := 19) rfl (by kernel_rfl) (want_not rfl rfl rfl) rfl ?_
      refine AW.no (i := 20) rfl (by kernel_rfl) (want_not rfl rfl rfl) rfl ?_
      refine AW.no (i := 21) rfl (by kernel_rfl) (want_not rfl rfl rfl) rfl ?_
      refine AW.u (i := 22) rfl (by kernel_rfl) rfl rfl (Pur.pickT rfl rfl) ?_
      refine AW.done (by kernel_rfl) ?_
      cases oi h
      exact ⟨⟨rfl, rfl, trivial⟩, hS7.pick [] rfl rfl⟩
    replace h := bcF h hc37
    refine AW.u (i := 7) rfl (by kernel_rfl) (want_of rfl rfl hc37) rfl (Pur.p rfl) ?_
    refine AW.u (i := 8) rfl (by kernel_rfl) (want_of rfl rfl hc37) rfl (Pur.p rfl) ?_
    refine AW.u (i := 9) rfl (by kernel_rfl) (want_of rfl rfl hc37) rfl (Pur.ix Tryz.underlying59 sz92 rfl rfl hp20 hq21) ?_
    refine AW.u (i := 10) rfl (by kernel_rfl) (want_of rfl rfl hc37) rfl (Pur.fa fo92_0 rfl) ?_
    refine AW.take (i := 11) rfl (by kernel_rfl) (want_of rfl rfl hc37) rfl (Ldr.old w0 ag3 rfl (hk26 0 _ rfl)) (hS7.same _ hb27.1 hb27.2) ?_
    refine AW.u (i := 12) rfl (by kernel_rfl) (want_of rfl rfl hc37) rfl (Pur.p rfl) ?_
    replace ⟨y38, hy38, h⟩ := obind h
    have q := W_i_HandleGen (w0 := w16.drew) hy38
    refine AW.one (i := 13) (by kernel_rfl) ?_
    refine ⟨_, rfl, ?_⟩
    refine (LW.gY (want_of rfl rfl hc37) ?_)
    refine LW.call pl150 rfl rfl ?_
    refine Ret.mono q ?_
    rintro _ w39 ⟨rfl, hs⟩
    have hS8 := hS7.add hs
    refine LW.nil ⟨rfl, (.c (hS8.same _ hb27.1 hb27.2) (.c (hS8.same _ hb27.1 hb27.2) Kept.n)), ?_⟩
    refine AW.u (i := 14) rfl (by kernel_rfl) (want_of rfl rfl hc37) rfl (Pur.p rfl) ?_
    refine AW.u (i := 15) rfl (by kernel_rfl) rfl rfl (Pur.pickF rfl hc37) ?_
    refine AW.u (i := 16) rfl (by kernel_rfl) rfl rfl (Pur.p rfl) ?_
    rcases bcases (y19.gen != y38) with hc40 | hc40
    · replace h := bcT h hc40
      refine AW.no (i := 17) rfl (by kernel_rfl) (want_not rfl rfl hc40) rfl ?_
      refine AW.no (i := 18) rfl (by kernel_rfl) (want_not rfl rfl hc40) rfl ?_
      refine AW.no (i := 19) rfl (by kernel_rfl) (want_not rfl rfl hc40) rfl ?_
      refine AW.no (i := 20) rfl (by kernel_rfl) (want_not rfl rfl hc40) rfl ?_
      refine AW.no (i := 21) rfl (by kernel_rfl) (want_not rfl rfl hc40) rfl ?_
      refine AW.u (i := 22) rfl (by kernel_rfl) rfl rfl (Pur.pickT rfl hc40) ?_
      refine AW.done (by kernel_rfl) ?_
      cases oi h
      exact ⟨⟨rfl, rfl, trivial⟩, hS8.pick [] rfl rfl⟩
    replace h := bcF h hc40
    refine AW.u (i := 17) rfl (by kernel_rfl) (want_of rfl rfl hc40) rfl (Pur.p rfl) ?_
    refine AW.u (i := 18) rfl (by kernel_rfl) (want_of rfl rfl hc40) rfl (Pur.p rfl) ?_
    replace ⟨y41, hy41, h⟩ := obind h
    obtain ⟨b44, o45, hae, hp42, hq43⟩ := hS8.ownIdx (α := Bool) (i := 0) rfl hy41
    subst hae
    refine AW.u (i := 19) rfl (by kernel_rfl) (want_of rfl rfl hc40) rfl (Pur.ix Tryz.underlying140 sz4 rfl rfl hp42 hq43) ?_
    obtain ⟨F46, ho47, hS9⟩ := hS8.freeze (α := Bool) 0 rfl
    obtain ⟨b48, o49, cs50, hae, hb53, _, _, hd51, hk52⟩ := ho47.rdF.idx hy41
    cases hae
    obtain rfl := hd51
    refine AW.take (i := 20) rfl (by kernel_rfl) (want_of rfl rfl hc40) rfl (Ldr.old w39 ag4 rfl (hk52 0 _ rfl)) (hS9.zC 0 rfl hb53) ?_
    refine AW.u (i := 21) rfl (by kernel_rfl) (want_of rfl rfl hc40) rfl (Pur.p rfl) ?_
    refine AW.u (i := 22) rfl (by kernel_rfl) rfl rfl (Pur.pickF rfl hc40) ?_
    refine AW.done (by kernel_rfl) ?_
    cases oi h
    exact ⟨⟨rfl, rfl, trivial⟩, hS9.pick [] rfl rfl⟩
  rintro e w54 ⟨hE, hS10⟩
  obtain ⟨e, rfl⟩ := hE.out
  have h := h18
  refine go ?_
  refine CW.cond rfl (fun hc55 => ?_) (fun hc55 => ?_)
  · replace h := bcT h hc55
    refine go ?_
    cases h
    exact And.intro trivial ⟨_, Res.one (resOne.t rfl), rfl, hS10.pick [] rfl rfl⟩
  replace h := bcF h hc55
  refine go ?_
  cases h
  exact And.intro trivial ⟨_, Res.one (resOne.t rfl), rfl, hS10.pick [] rfl rfl⟩

theorem W_s_PartWake {w0 : World} {N : Nat} {x0 : DPart} {x1 : Int} {x2 : Int} {r : DPart} (h : F_s_PartWake N x0 x1 x2 = some r) {a0_0 : Option Addr} {n0_0 c0_0 : Nat} (hn0_0 : n0_0 = x0.label.levels.length) (hr0_0 : rdS (Bor w0 []) w0 a0_0 c0_0 x0.label.levels) {a0_1 : Option Addr} {n0_1 c0_1 : Nat} (hn0_1 : n0_1 = x0.own.length) (hr0_1 : rdS (Bor w0 []) w0 a0_1 c0_1 x0.own) {a0_2 : Option Addr} {n0_2 c0_2 : Nat} (hn0_2 : n0_2 = x0.tree.length) (hr0_2 : rdS (Bor w0 []) w0 a0_2 c0_2 x0.tree) {a0_3 : Option Addr} {n0_3 c0_3 : Nat} (hn0_3 : n0_3 = x0.heap.arena.length) (hr0_3 : rdS (Bor w0 []) w0 a0_3 c0_3 x0.heap.arena) {a0_7 : Option Addr} {n0_7 c0_7 : Nat} (hn0_7 : n0_7 = x0.heap.gc.grey.length) (hr0_7 : rdS (Bor w0 []) w0 a0_7 c0_7 x0.heap.gc.grey) {a0_8 : Option Addr} {n0_8 c0_8 : Nat} (hn0_8 : n0_8 = x0.taps.length) (hr0_8 : rdS (Bor w0 []) w0 a0_8 c0_8 x0.taps) :
    Ret Tryz.prog 23 #[.agg #[.slice a0_0 n0_0 c0_0, .slice a0_1 n0_1 c0_1, .slice a0_2 n0_2 c0_2, .slice a0_3 n0_3 c0_3, .int .i64 x0.heap.gc.phase, .int .i64 x0.heap.gc.pos, .int .i64 x0.heap.gc.round, .slice a0_7 n0_7 c0_7, .slice a0_8 n0_8 c0_8, .int .i64 x0.next, .int .i64 x0.want, .int .i64 x0.spent.pages, .int .i64 x0.spent.rent, .int .i64 x0.spent.cpu, .int .i64 x0.press, .int .i64 x0.lost], .int .i64 x1, .int .i64 x2] w0 (fun v w => ∃ ar0_0 cr0_0, ∃ ar0_1 cr0_1, ∃ ar0_2 cr0_2, ∃ ar0_3 cr0_3, ∃ ar0_7 cr0_7, ∃ ar0_8 cr0_8, v = .agg #[.slice ar0_0 r.label.levels.length cr0_0, .slice ar0_1 r.own.length cr0_1, .slice ar0_2 r.tree.length cr0_2, .slice ar0_3 r.heap.arena.length cr0_3, .int .i64 r.heap.gc.phase, .int .i64 r.heap.gc.pos, .int .i64 r.heap.gc.round, .slice ar0_7 r.heap.gc.grey.length cr0_7, .slice ar0_8 r.taps.length cr0_8, .int .i64 r.next, .int .i64 r.want, .int .i64 r.spent.pages, .int .i64 r.spent.rent, .int .i64 r.spent.cpu, .int .i64 r.press, .int .i64 r.lost] ∧ St w0 [] w [sl ar0_0 cr0_0 r.label.levels, sl ar0_1 cr0_1 r.own, sl ar0_2 cr0_2 r.tree, sl ar0_3 cr0_3 r.heap.arena, sl ar0_7 cr0_7 r.heap.gc.grey, sl ar0_8 cr0_8 r.taps]) := by
  subst hn0_0 hn0_1 hn0_2 hn0_3 hn0_7 hn0_8
  unfold F_s_PartWake at h
  refine Ret.fn Tryz.func23 fun e => ?_
  have hS1 := St.start w0
  refine go ?_
  refine LW.bo hS1 fun g1 w2 hS2 => ?_
  refine LW.al hS2 fun g3 w4 hS3 => ?_
  refine go ?_
  replace ⟨y5, hy5, h⟩ := obind h
  refine LW.cl (W_s_l13Copy hy5 rfl (hS3.rB hr0_0) rfl (hS3.rB hr0_1) rfl (hS3.rB hr0_2) rfl (hS3.rB hr0_3) rfl (hS3.rB hr0_7) rfl (hS3.rB hr0_8)) ?_
  rintro _ w18 ⟨a6, c7, a8, c9, a10, c11, a12, c13, a14, c15, a16, c17, rfl, hs⟩
  have hS4 := hS3.add hs
  refine LW.al hS4 fun g19 w20 hS5 => ?_
  refine LW.st hS5 0 fun w21 hS6 => ?_
  refine gs ?_
  obtain ⟨j22, hj22, h23⟩ := obind h
  refine CW.cut (fun e wb => En e [(1, .int .i64 x1), (2, .int .i64 x2), (3, .pointer (some ⟨g1, 0, none⟩)), (6, .pointer (some ⟨g3, 0, none⟩)), (7, .pointer (some ⟨g19, 0, none⟩)), (19, .bool j22)] ∧ St w0 [] wb [bx g19 66 [.slice a6 y5.label.levels.length c7, .slice a8 y5.own.length c9, .slice a10 y5.tree.length c11, .slice a12 y5.heap.arena.length c13, .int .i64 y5.heap.gc.phase, .int .i64 y5.heap.gc.pos, .int .i64 y5.heap.gc.round, .slice a14 y5.heap.gc.grey.length c15, .slice a16 y5.taps.length c17, .int .i64 y5.next, .int .i64 y5.want, .int .i64 y5.spent.pages, .int .i64 y5.spent.rent, .int .i64 y5.spent.cpu, .int .i64 y5.press, .int .i64 y5.lost], sl a6 c7 y5.label.levels, sl a8 c9 y5.own, sl a10 c11 y5.tree, sl a12 c13 y5.heap.arena, sl a14 c15 y5.heap.gc.grey, sl a16 c17 y5.taps, bx g3 66 [.slice none 0 0, .slice none 0 0, .slice none 0 0, .slice none 0 0, .int .i64 0, .int .i64 0, .int .i64 0, .slice none 0 0, .slice none 0 0, .int .i64 0, .int .i64 0, .int .i64 0, .int .i64 0, .int .i64 0, .int .i64 0, .int .i64 0], bx g1 66 [.slice a0_0 x0.label.levels.length c0_0, .slice a0_1 x0.own.length c0_1, .slice a0_2 x0.tree.length c0_2, .slice a0_3 x0.heap.arena.length c0_3, .int .i64 x0.heap.gc.phase, .int .i64 x0.heap.gc.pos, .int .i64 x0.heap.gc.round, .slice a0_7 x0.heap.gc.grey.length c0_7, .slice a0_8 x0.taps.length c0_8, .int .i64 x0.next, .int .i64 x0.want, .int .i64 x0.spent.pages, .int .i64 x0.spent.rent, .int .i64 x0.spent.cpu, .int .i64 x0.press, .int .i64 x0.lost]]) ?_ ?_
  · have h := hj22
    refine go ?_
    replace ⟨y24, hy24, h⟩ := obind h
    refine LW.c0 (W_s_PartOk hy24 rfl (hS6.rB hr0_0) rfl (hS6.rB hr0_1) rfl (hS6.rB hr0_2) rfl (hS6.rB hr0_3) rfl (hS6.rB hr0_7) rfl (hS6.rB hr0_8)) hS6 fun w25 hS7 => ?_
    refine go ?_
    rcases bcases (!y24) with hc26 | hc26
    · replace h := bcT h hc26
      refine go ?_
      cases oi h
      exact ⟨⟨rfl, rfl, rfl, rfl, rfl, rfl, trivial⟩, hS7.pick [0, 1, 2, 3, 4, 5, 6, 7, 8] rfl rfl⟩
    replace h := bcF h hc26
    refine go ?_
    replace ⟨y27, hy27, h⟩ := obind h
    refine go ?_
    refine LW.c0 (W_s_l1In hy27) hS7 fun w28 hS8 => ?_
    refine go ?_
    cases oi h
    exact ⟨⟨rfl, rfl, rfl, rfl, rfl, rfl, trivial⟩, hS8.pick [0, 1, 2, 3, 4, 5, 6, 7, 8] rfl rfl⟩
  rintro e w29 ⟨hE, hS9⟩
  obtain ⟨e, rfl⟩ := hE.out
  have h := h23
  refine go ?_
  refine CW.cond rfl (fun hc30 => ?_) (fun hc30 => ?_)
  · replace h := bcT h hc30
    refine go ?_
    refine LW.st hS9 7 fun w31 hS10 => ?_
    refine go ?_
    cases h
    exact And.intro trivial ⟨_, Res.one (resOne.b hS10 7 rfl ag66 rfl rfl), a6, c7, a8, c9, a10, c11, a12, c13, a14, c15, a16, c17, rfl, hS10.pick [1, 2, 3, 4, 5, 6] rfl rfl⟩
  replace h := bcF h hc30
  refine go ?_
  obtain ⟨o77, ho77, h78⟩ := obind h
  refine CW.mono (CW.iter (σ := (List DObj) × Int) (ρ := (List DObj) × Int) (fun s32 e wb => En e [(1, .int .i64 x1), (2, .int .i64 x2), (3, .pointer (some ⟨g1, 0, none⟩)), (6, .pointer (some ⟨g3, 0, none⟩)), (7, .pointer (some ⟨g19, 0, none⟩)), (8, .int .i64 s32.2)] ∧ St w0 [] wb [bx g19 66 [.slice a6 y5.label.levels.length c7, .slice a8 y5.own.length c9, .slice a10 y5.tree.length c11, .slice a12 s32.1.length c13, .int .i64 y5.heap.gc.phase, .int .i64 y5.heap.gc.pos, .int .i64 y5.heap.gc.round, .slice a14 y5.heap.gc.grey.length c15, .slice a16 y5.taps.length c17, .int .i64 y5.next, .int .i64 y5.want, .int .i64 y5.spent.pages, .int .i64 y5.spent.rent, .int .i64 y5.spent.cpu, .int .i64 y5.press, .int .i64 y5.lost], sl a6 c7 y5.label.levels, sl a8 c9 y5.own, sl a10 c11 y5.tree, sl a12 c13 s32.1, sl a14 c15 y5.heap.gc.grey, sl a16 c17 y5.taps, bx g3 66 [.slice none 0 0, .slice none 0 0, .slice none 0 0, .slice none 0 0, .int .i64 0, .int .i64 0, .int .i64 0, .slice none 0 0, .slice none 0 0, .int .i64 0, .int .i64 0, .int .i64 0, .int .i64 0, .int .i64 0, .int .i64 0, .int .i64 0], bx g1 66 [.slice a0_0 x0.label.levels.length c0_0, .slice a0_1 x0.own.length c0_1, .slice a0_2 x0.tree.length c0_2, .slice a0_3 x0.heap.arena.length c0_3, .int .i64 x0.heap.gc.phase, .int .i64 x0.heap.gc.pos, .int .i64 x0.heap.gc.round, .slice a0_7 x0.heap.gc.grey.length c0_7, .slice a0_8 x0.taps.length c0_8, .int .i64 x0.next, .int .i64 x0.want, .int .i64 x0.spent.pages, .int .i64 x0.spent.rent, .int .i64 x0.spent.cpu, .int .i64 x0.press, .int .i64 x0.lost]]) (fun s32 x e wb => x = .exit 0 ∧ En e [(6, .pointer (some ⟨g3, 0, none⟩)), (7, .pointer (some ⟨g19, 0, none⟩))] ∧ St w0 [] wb [bx g19 66 [.slice a6 y5.label.levels.length c7, .slice a8 y5.own.length c9, .slice a10 y5.tree.length c11, .slice a12 s32.1.length c13, .int .i64 y5.heap.gc.phase, .int .i64 y5.heap.gc.pos, .int .i64 y5.heap.gc.round, .slice a14 y5.heap.gc.grey.length c15, .slice a16 y5.taps.length c17, .int .i64 y5.next, .int .i64 y5.want, .int .i64 y5.spent.pages, .int .i64 y5.spent.rent, .int .i64 y5.spent.cpu, .int .i64 y5.press, .int .i64 y5.lost], sl a6 c7 y5.label.levels, sl a8 c9 y5.own, sl a10 c11 y5.tree, sl a12 c13 s32.1, sl a14 c15 y5.heap.gc.grey, sl a16 c17 y5.taps, bx g3 66 [.slice none 0 0, .slice none 0 0, .slice none 0 0, .slice none 0 0, .int .i64 0, .int .i64 0, .int .i64 0, .slice none 0 0, .slice none 0 0, .int .i64 0, .int .i64 0, .int .i64 0, .int .i64 0, .int .i64 0, .int .i64 0, .int .i64 0], bx g1 66 [.slice a0_0 x0.label.levels.length c0_0, .slice a0_1 x0.own.length c0_1, .slice a0_2 x0.tree.length c0_2, .slice a0_3 x0.heap.arena.length c0_3, .int .i64 x0.heap.gc.phase, .int .i64 x0.heap.gc.pos, .int .i64 x0.heap.gc.round, .slice a0_7 x0.heap.gc.grey.length c0_7, .slice a0_8 x0.taps.length c0_8, .int .i64 x0.next, .int .i64 x0.want, .int .i64 x0.spent.pages, .int .i64 x0.spent.rent, .int .i64 x0.spent.cpu, .int .i64 x0.press, .int .i64 x0.lost]]) ?_ N (y5.heap.arena, 0) _ _ _ ⟨⟨rfl, rfl, rfl, rfl, rfl, rfl, trivial⟩, hS9.pick [0, 1, 2, 3, 4, 5, 6, 7, 8] rfl rfl⟩ ho77) ?_
  · intro s32 e w33 o hM h
    obtain ⟨hE, hS11⟩ := hM
    obtain ⟨e, rfl⟩ := hE.out
    refine go ?_
    refine CW.fl [1, 2, 3, 6, 7, 8, 26] fun e => ?_
    refine CW.cond rfl (fun hc34 => ?_) (fun hc34 => ?_)
    · replace h := bcT h hc34
      refine go ?_
      replace ⟨y35, hy35, h⟩ := obind h
      obtain ⟨b38, o39, cs40, hae, hb43, hp36, hq37, hd41, hk42⟩ := hr0_3.idx hy35
      subst hae
      obtain ⟨a44, c45, a47, c48, a50, c51, rfl, hr46, hr49, hr52⟩ := hd41
      refine LW.u (Pur.ix Tryz.underlying59 sz92 rfl rfl hp36 hq37) rfl ?_
      refine LW.l (Ldr.oldN w0 ag92 rfl rfl (fun j u hu => hk42 j u hu)) (hS11.same _ hb43.1 hb43.2) rfl ?_
      refine LW.al hS11 fun g53 w54 hS12 => ?_
      refine LW.st hS12 0 fun w55 hS13 => ?_
      refine gs ?_
      obtain ⟨j56, hj56, h57⟩ := obind h
      refine CW.cut (fun e wb => En e [(1, .int .i64 x1), (2, .int .i64 x2), (3, .pointer (some ⟨g1, 0, none⟩)), (6, .pointer (some ⟨g3, 0, none⟩)), (7, .pointer (some ⟨g19, 0, none⟩)), (8, .int .i64 s32.2), (49, .bool j56)] ∧ St w0 [] wb [bx g19 66 [.slice a6 y5.label.levels.length c7, .slice a8 y5.own.length c9, .slice a10 y5.tree.length c11, .slice a12 s32.1.length c13, .int .i64 y5.heap.gc.phase, .int .i64 y5.heap.gc.pos, .int .i64 y5.heap.gc.round, .slice a14 y5.heap.gc.grey.length c15, .slice a16 y5.taps.length c17, .int .i64 y5.next, .int .i64 y5.want, .int .i64 y5.spent.pages, .int .i64 y5.spent.rent, .int .i64 y5.spent.cpu, .int .i64 y5.press, .int .i64 y5.lost], sl a6 c7 y5.label.levels, sl a8 c9 y5.own, sl a10 c11 y5.tree, sl a12 c13 s32.1, sl a14 c15 y5.heap.gc.grey, sl a16 c17 y5.taps, bx g3 66 [.slice none 0 0, .slice none 0 0, .slice none 0 0, .slice none 0 0, .int .i64 0, .int .i64 0, .int .i64 0, .slice none 0 0, .slice none 0 0, .int .i64 0, .int .i64 0, .int .i64 0, .int .i64 0, .int .i64 0, .int .i64 0, .int .i64 0], bx g1 66 [.slice a0_0 x0.label.levels.length c0_0, .slice a0_1 x0.own.length c0_1, .slice a0_2 x0.tree.length c0_2, .slice (some ⟨b38, o39, none⟩) x0.heap.arena.length c0_3, .int .i64 x0.heap.gc.phase, .int .i64 x0.heap.gc.pos, .int .i64 x0.heap.gc.round, .slice a0_7 x0.heap.gc.grey.length c0_7, .slice a0_8 x0.taps.length c0_8, .int .i64 x0.next, .int .i64 x0.want, .int .i64 x0.spent.pages, .int .i64 x0.spent.rent, .int .i64 x0.spent.cpu, .int .i64 x0.press, .int .i64 x0.lost]]) ?_ ?_
      · have h := hj56
        refine go ?_
        rcases bcases (decide (y35.wait > 0)) with hc58 | hc58
        · replace h := bcT h hc58
          refine go ?_
          replace ⟨y59, hy59, h⟩ := obind h
          refine go ?_
          refine LW.c0 (W_s_GoodSlot hy59 rfl (hS13.rB hr0_3)) hS13 fun w60 hS14 => ?_
          refine go ?_
          cases oi h
          exact ⟨⟨rfl, rfl, rfl, rfl, rfl, rfl, rfl, trivial⟩, hS14.pick [1, 2, 3, 4, 5, 6, 7, 8, 9] rfl rfl⟩
        replace h := bcF h hc58
        refine go ?_
        cases oi h
        exact ⟨⟨rfl, rfl, rfl, rfl, rfl, rfl, rfl, trivial⟩, hS13.pick [1, 2, 3, 4, 5, 6, 7, 8, 9] rfl rfl⟩
      rintro e w61 ⟨hE, hS15⟩
      obtain ⟨e, rfl⟩ := hE.out
      have h := h57
      refine go ?_
      refine CW.cond rfl (fun hc62 => ?_) (fun hc62 => ?_)
      · replace h := bcT h hc62
        refine go ?_
        replace ⟨y63, hy63, h⟩ := obind h
        obtain ⟨b66, o67, hae, hp64, hq65⟩ := hS15.ownIdx (α := DObj) (i := 4) rfl hy63
        subst hae
        refine LW.u (Pur.ix Tryz.underlying59 sz92 rfl rfl hp64 hq65) rfl ?_
        refine go ?_
        replace ⟨y68, hy68, h⟩ := obind h
        refine LW.stE (M := []) (L := [bx g19 66 [.slice a6 y5.label.levels.length c7, .slice a8 y5.own.length c9, .slice a10 y5.tree.length c11, .slice (some ⟨b66, o67, none⟩) s32.1.length c13, .int .i64 y5.heap.gc.phase, .int .i64 y5.heap.gc.pos, .int .i64 y5.heap.gc.round, .slice a14 y5.heap.gc.grey.length c15, .slice a16 y5.taps.length c17, .int .i64 y5.next, .int .i64 y5.want, .int .i64 y5.spent.pages, .int .i64 y5.spent.rent, .int .i64 y5.spent.cpu, .int .i64 y5.press, .int .i64 y5.lost], sl a6 c7 y5.label.levels, sl a8 c9 y5.own, sl a10 c11 y5.tree, sl (some ⟨b66, o67, none⟩) c13 s32.1, sl a14 c15 y5.heap.gc.grey, sl a16 c17 y5.taps, bx g3 66 [.slice none 0 0, .slice none 0 0, .slice none 0 0, .slice none 0 0, .int .i64 0, .int .i64 0, .int .i64 0, .slice none 0 0, .slice none 0 0, .int .i64 0, .int .i64 0, .int .i64 0, .int .i64 0, .int .i64 0, .int .i64 0, .int .i64 0], bx g1 66 [.slice a0_0 x0.label.levels.length c0_0, .slice a0_1 x0.own.length c0_1, .slice a0_2 x0.tree.length c0_2, .slice (some ⟨b38, o39, none⟩) x0.heap.arena.length c0_3, .int .i64 x0.heap.gc.phase, .int .i64 x0.heap.gc.pos, .int .i64 x0.heap.gc.round, .slice a0_7 x0.heap.gc.grey.length c0_7, .slice a0_8 x0.taps.length c0_8, .int .i64 x0.next, .int .i64 x0.want, .int .i64 x0.spent.pages, .int .i64 x0.spent.rent, .int .i64 x0.spent.cpu, .int .i64 x0.press, .int .i64 x0.lost]]) (z := y63) (z' := (DObj.mk y63.gen y63.kind y63.box y63.res y63.til y63.pages 0 y63.got y63.ran y63.mark y63.links y63.data y63.queue)) (o := 6) hS15 (i := 4) rfl hy63 ag3 rfl (by show _ = o67 + (s32.2 : Int).toNat * 13 + 6; omega) rfl rfl rfl rfl (leafF (fun w cs F hF => by obtain ⟨q0, r0, q1, r1, q2, r2, rfl, hH⟩ := hF; exact ⟨q0, r0, q1, r1, q2, r2, rfl, hH⟩)) ?_
        intro w69 hS16 hf
        rw [Option.some.inj hy68] at hS16
        refine go ?_
        replace ⟨y70, hy70, h⟩ := obind h
        obtain ⟨b73, o74, hae, hp71, hq72⟩ := hS16.ownIdx (α := DObj) (i := 4) rfl hy70
        cases hae
        refine LW.u (Pur.ix Tryz.underlying59 sz92 rfl rfl hp71 (by rw [show s32.1.length = y68.length from (len_set (Option.some.inj hy68))]; exact hq72)) rfl ?_
        refine go ?_
        replace ⟨y75, hy75, h⟩ := obind h
        refine LW.stE (M := []) (L := [bx g19 66 [.slice a6 y5.label.levels.length c7, .slice a8 y5.own.length c9, .slice a10 y5.tree.length c11, .slice (some ⟨b66, o67, none⟩) s32.1.length c13, .int .i64 y5.heap.gc.phase, .int .i64 y5.heap.gc.pos, .int .i64 y5.heap.gc.round, .slice a14 y5.heap.gc.grey.length c15, .slice a16 y5.taps.length c17, .int .i64 y5.next, .int .i64 y5.want, .int .i64 y5.spent.pages, .int .i64 y5.spent.rent, .int .i64 y5.spent.cpu, .int .i64 y5.press, .int .i64 y5.lost], sl a6 c7 y5.label.levels, sl a8 c9 y5.own, sl a10 c11 y5.tree, sl (some ⟨b66, o67, none⟩) c13 y68, sl a14 c15 y5.heap.gc.grey, sl a16 c17 y5.taps, bx g3 66 [.slice none 0 0, .slice none 0 0, .slice none 0 0, .slice none 0 0, .int .i64 0, .int .i64 0, .int .i64 0, .slice none 0 0, .slice none 0 0, .int .i64 0, .int .i64 0, .int .i64 0, .int .i64 0, .int .i64 0, .int .i64 0, .int .i64 0], bx g1 66 [.slice a0_0 x0.label.levels.length c0_0, .slice a0_1 x0.own.length c0_1, .slice a0_2 x0.tree.length c0_2, .slice (some ⟨b38, o39, none⟩) x0.heap.arena.length c0_3, .int .i64 x0.heap.gc.phase, .int .i64 x0.heap.gc.pos, .int .i64 x0.heap.gc.round, .slice a0_7 x0.heap.gc.grey.length c0_7, .slice a0_8 x0.taps.length c0_8, .int .i64 x0.next, .int .i64 x0.want, .int .i64 x0.spent.pages, .int .i64 x0.spent.rent, .int .i64 x0.spent.cpu, .int .i64 x0.press, .int .i64 x0.lost]]) (z := y70) (z' := (DObj.mk y70.gen y70.kind y70.box y70.res y70.til y70.pages y70.wait (-1) y70.ran y70.mark y70.links y70.data y70.queue)) (o := 7) hS16 (i := 4) rfl hy70 ag3 rfl (by show _ = o67 + (s32.2 : Int).toNat * 13 + 7; omega) rfl rfl rfl rfl (leafF (fun w cs F hF => by obtain ⟨q0, r0, q1, r1, q2, r2, rfl, hH⟩ := hF; exact ⟨q0, r0, q1, r1, q2, r2, rfl, hH⟩)) ?_
        intro w76 hS17 hf
        rw [Option.some.inj hy75] at hS17
        refine go ?_
        rw [show s32.1.length = y75.length from ((len_set (Option.some.inj hy68)).trans (len_set (Option.some.inj hy75)))] at hS17
        cases oi h
        exact ⟨rfl, ⟨⟨rfl, rfl, rfl, rfl, rfl, rfl, trivial⟩, hS17.pick [0, 1, 2, 3, 4, 5, 6, 7, 8] rfl rfl⟩⟩
      replace h := bcF h hc62
      refine go ?_
      cases oi h
      exact ⟨rfl, ⟨⟨rfl, rfl, rfl, rfl, rfl, rfl, trivial⟩, hS15.pick [0, 1, 2, 3, 4, 5, 6, 7, 8] rfl rfl⟩⟩
    replace h := bcF h hc34
    refine go ?_
    cases oi h
    exact ⟨trivial, rfl, ⟨⟨rfl, rfl, trivial⟩, hS11.pick [0, 1, 2, 3, 4, 5, 6, 7, 8] rfl rfl⟩⟩
  intro x e w79 hM
  obtain ⟨rfl, hM⟩ := hM
  obtain ⟨hE, hS18⟩ := hM
  obtain ⟨e, rfl⟩ := hE.out
  have h := h78
  refine go ?_
  refine LW.st hS18 7 fun w80 hS19 => ?_
  refine go ?_
  cases h
  exact And.intro trivial ⟨_, Res.one (resOne.b hS19 7 rfl ag66 rfl rfl), a6, c7, a8, c9, a10, c11, a12, c13, a14, c15, a16, c17, rfl, hS19.pick [1, 2, 3, 4, 5, 6] rfl rfl⟩

theorem W_i_PartWake {w0 : World} {N : Nat} {x0 : DPart} {x1 : Int} {x2 : Int} {r : DPart} (h : F_i_PartWake N x0 x1 x2 = some r) {a0_0 : Option Addr} {n0_0 c0_0 : Nat} (hn0_0 : n0_0 = x0.label.levels.length) (hr0_0 : rdS (Bor w0 []) w0 a0_0 c0_0 x0.label.levels) {a0_1 : Option Addr} {n0_1 c0_1 : Nat} (hn0_1 : n0_1 = x0.own.length) (hr0_1 : rdS (Bor w0 []) w0 a0_1 c0_1 x0.own) {a0_2 : Option Addr} {n0_2 c0_2 : Nat} (hn0_2 : n0_2 = x0.tree.length) (hr0_2 : rdS (Bor w0 []) w0 a0_2 c0_2 x0.tree) {a0_3 : Option Addr} {n0_3 c0_3 : Nat} (hn0_3 : n0_3 = x0.heap.arena.length) (hr0_3 : rdS (Bor w0 []) w0 a0_3 c0_3 x0.heap.arena) {a0_7 : Option Addr} {n0_7 c0_7 : Nat} (hn0_7 : n0_7 = x0.heap.gc.grey.length) (hr0_7 : rdS (Bor w0 []) w0 a0_7 c0_7 x0.heap.gc.grey) {a0_8 : Option Addr} {n0_8 c0_8 : Nat} (hn0_8 : n0_8 = x0.taps.length) (hr0_8 : rdS (Bor w0 []) w0 a0_8 c0_8 x0.taps) :
    Ret Tryz.prog 25 #[.agg #[.slice a0_0 n0_0 c0_0, .slice a0_1 n0_1 c0_1, .slice a0_2 n0_2 c0_2, .slice a0_3 n0_3 c0_3, .int .i64 x0.heap.gc.phase, .int .i64 x0.heap.gc.pos, .int .i64 x0.heap.gc.round, .slice a0_7 n0_7 c0_7, .slice a0_8 n0_8 c0_8, .int .i64 x0.next, .int .i64 x0.want, .int .i64 x0.spent.pages, .int .i64 x0.spent.rent, .int .i64 x0.spent.cpu, .int .i64 x0.press, .int .i64 x0.lost], .int .i64 x1, .int .i64 x2] w0 (fun v w => ∃ ar0_0 cr0_0, ∃ ar0_1 cr0_1, ∃ ar0_2 cr0_2, ∃ ar0_3 cr0_3, ∃ ar0_7 cr0_7, ∃ ar0_8 cr0_8, v = .agg #[.slice ar0_0 r.label.levels.length cr0_0, .slice ar0_1 r.own.length cr0_1, .slice ar0_2 r.tree.length cr0_2, .slice ar0_3 r.heap.arena.length cr0_3, .int .i64 r.heap.gc.phase, .int .i64 r.heap.gc.pos, .int .i64 r.heap.gc.round, .slice ar0_7 r.heap.gc.grey.length cr0_7, .slice ar0_8 r.taps.length cr0_8, .int .i64 r.next, .int .i64 r.want, .int .i64 r.spent.pages, .int .i64 r.spent.rent, .int .i64 r.spent.cpu, .int .i64 r.press, .int .i64 r.lost] ∧ St w0 [] w [sl ar0_0 cr0_0 r.label.levels, sl ar0_1 cr0_1 r.own, sl ar0_2 cr0_2 r.tree, sl ar0_3 cr0_3 r.heap.arena, sl ar0_7 cr0_7 r.heap.gc.grey, sl ar0_8 cr0_8 r.taps]) := by
  subst hn0_0 hn0_1 hn0_2 hn0_3 hn0_7 hn0_8
  unfold F_i_PartWake at h
  refine Ret.fn Tryz.func25 fun e => ?_
  have hS1 := St.start w0
  refine go ?_
  refine LW.bo hS1 fun g1 w2 hS2 => ?_
  refine LW.al hS2 fun g3 w4 hS3 => ?_
  refine go ?_
  replace ⟨y5, hy5, h⟩ := obind h
  refine LW.cl (W_i_copyPart hy5 rfl (hS3.rB hr0_0) rfl (hS3.rB hr0_1) rfl (hS3.rB hr0_2) rfl (hS3.rB hr0_3) rfl (hS3.rB hr0_7) rfl (hS3.rB hr0_8)) ?_
  rintro _ w18 ⟨a6, c7, a8, c9, a10, c11, a12, c13, a14, c15, a16, c17, rfl, hs⟩
  have hS4 := hS3.add hs
  refine LW.al hS4 fun g19 w20 hS5 => ?_
  refine LW.st hS5 0 fun w21 hS6 => ?_
  refine gs ?_
  obtain ⟨j22, hj22, h23⟩ := obind h
  refine CW.cut (fun e wb => En e [(1, .int .i64 x1), (2, .int .i64 x2), (3, .pointer (some ⟨g1, 0, none⟩)), (6, .pointer (some ⟨g3, 0, none⟩)), (7, .pointer (some ⟨g19, 0, none⟩)), (19, .bool j22)] ∧ St w0 [] wb [bx g19 66 [.slice a6 y5.label.levels.length c7, .slice a8 y5.own.length c9, .slice a10 y5.tree.length c11, .slice a12 y5.heap.arena.length c13, .int .i64 y5.heap.gc.phase, .int .i64 y5.heap.gc.pos, .int .i64 y5.heap.gc.round, .slice a14 y5.heap.gc.grey.length c15, .slice a16 y5.taps.length c17, .int .i64 y5.next, .int .i64 y5.want, .int .i64 y5.spent.pages, .int .i64 y5.spent.rent, .int .i64 y5.spent.cpu, .int .i64 y5.press, .int .i64 y5.lost], sl a6 c7 y5.label.levels, sl a8 c9 y5.own, sl a10 c11 y5.tree, sl a12 c13 y5.heap.arena, sl a14 c15 y5.heap.gc.grey, sl a16 c17 y5.taps, bx g3 66 [.slice none 0 0, .slice none 0 0, .slice none 0 0, .slice none 0 0, .int .i64 0, .int .i64 0, .int .i64 0, .slice none 0 0, .slice none 0 0, .int .i64 0, .int .i64 0, .int .i64 0, .int .i64 0, .int .i64 0, .int .i64 0, .int .i64 0], bx g1 66 [.slice a0_0 x0.label.levels.length c0_0, .slice a0_1 x0.own.length c0_1, .slice a0_2 x0.tree.length c0_2, .slice a0_3 x0.heap.arena.length c0_3, .int .i64 x0.heap.gc.phase, .int .i64 x0.heap.gc.pos, .int .i64 x0.heap.gc.round, .slice a0_7 x0.heap.gc.grey.length c0_7, .slice a0_8 x0.taps.length c0_8, .int .i64 x0.next, .int .i64 x0.want, .int .i64 x0.spent.pages, .int .i64 x0.spent.rent, .int .i64 x0.spent.cpu, .int .i64 x0.press, .int .i64 x0.lost]]) ?_ ?_
  · have h := hj22
    refine go ?_
    replace ⟨y24, hy24, h⟩ := obind h
    refine LW.c0 (W_i_PartOk hy24 rfl (hS6.rB hr0_0) rfl (hS6.rB hr0_1) rfl (hS6.rB hr0_2) rfl (hS6.rB hr0_3) rfl (hS6.rB hr0_7) rfl (hS6.rB hr0_8)) hS6 fun w25 hS7 => ?_
    refine go ?_
    rcases bcases (!y24) with hc26 | hc26
    · replace h := bcT h hc26
      refine go ?_
      cases oi h
      exact ⟨⟨rfl, rfl, rfl, rfl, rfl, rfl, trivial⟩, hS7.pick [0, 1, 2, 3, 4, 5, 6, 7, 8] rfl rfl⟩
    replace h := bcF h hc26
    refine go ?_
    replace ⟨y27, hy27, h⟩ := obind h
    refine go ?_
    refine LW.c0 (W_i_isPart hy27) hS7 fun w28 hS8 => ?_
    refine go ?_
    cases oi h
    exact ⟨⟨rfl, rfl, rfl, rfl, rfl, rfl, trivial⟩, hS8.pick [0, 1, 2, 3, 4, 5, 6, 7, 8] rfl rfl⟩
  rintro e w29 ⟨hE, hS9⟩
  obtain ⟨e, rfl⟩ := hE.out
  have h := h23
  refine go ?_
  refine CW.cond rfl (fun hc30 => ?_) (fun hc30 => ?_)
  · replace h := bcT h hc30
    refine go ?_
    refine LW.st hS9 7 fun w31 hS10 => ?_
    refine go ?_
    cases h
    exact And.intro trivial ⟨_, Res.one (resOne.b hS10 7 rfl ag66 rfl rfl), a6, c7, a8, c9, a10, c11, a12, c13, a14, c15, a16, c17, rfl, hS10.pick [1, 2, 3, 4, 5, 6] rfl rfl⟩
  replace h := bcF h hc30
  refine go ?_
  obtain ⟨o77, ho77, h78⟩ := obind h
  refine CW.mono (CW.iter (σ := (List DObj) × Int) (ρ := (List DObj) × Int) (fun s32 e wb => En e [(1, .int .i64 x1), (2, .int .i64 x2), (3, .pointer (some ⟨g1, 0, none⟩)), (6, .pointer (some ⟨g3, 0, none⟩)), (7, .pointer (some ⟨g19, 0, none⟩)), (23, .slice a0_3 x0.heap.arena.length c0_3), (24, .int .i64 (x0.heap.arena.length : Int)), (25, .int .i64 s32.2)] ∧ St w0 [] wb [bx g19 66 [.slice a6 y5.label.levels.length c7, .slice a8 y5.own.length c9, .slice a10 y5.tree.length c11, .slice a12 s32.1.length c13, .int .i64 y5.heap.gc.phase, .int .i64 y5.heap.gc.pos, .int .i64 y5.heap.gc.round, .slice a14 y5.heap.gc.grey.length c15, .slice a16 y5.taps.length c17, .int .i64 y5.next, .int .i64 y5.want, .int .i64 y5.spent.pages, .int .i64 y5.spent.rent, .int .i64 y5.spent.cpu, .int .i64 y5.press, .int .i64 y5.lost], sl a6 c7 y5.label.levels, sl a8 c9 y5.own, sl a10 c11 y5.tree, sl a12 c13 s32.1, sl a14 c15 y5.heap.gc.grey, sl a16 c17 y5.taps, bx g3 66 [.slice none 0 0, .slice none 0 0, .slice none 0 0, .slice none 0 0, .int .i64 0, .int .i64 0, .int .i64 0, .slice none 0 0, .slice none 0 0, .int .i64 0, .int .i64 0, .int .i64 0, .int .i64 0, .int .i64 0, .int .i64 0, .int .i64 0], bx g1 66 [.slice a0_0 x0.label.levels.length c0_0, .slice a0_1 x0.own.length c0_1, .slice a0_2 x0.tree.length c0_2, .slice a0_3 x0.heap.arena.length c0_3, .int .i64 x0.heap.gc.phase, .int .i64 x0.heap.gc.pos, .int .i64 x0.heap.gc.round, .slice a0_7 x0.heap.gc.grey.length c0_7, .slice a0_8 x0.taps.length c0_8, .int .i64 x0.next, .int .i64 x0.want, .int .i64 x0.spent.pages, .int .i64 x0.spent.rent, .int .i64 x0.spent.cpu, .int .i64 x0.press, .int .i64 x0.lost]]) (fun s32 x e wb => x = .exit 0 ∧ En e [(6, .pointer (some ⟨g3, 0, none⟩)), (7, .pointer (some ⟨g19, 0, none⟩))] ∧ St w0 [] wb [bx g19 66 [.slice a6 y5.label.levels.length c7, .slice a8 y5.own.length c9, .slice a10 y5.tree.length c11, .slice a12 s32.1.length c13, .int .i64 y5.heap.gc.phase, .int .i64 y5.heap.gc.pos, .int .i64 y5.heap.gc.round, .slice a14 y5.heap.gc.grey.length c15, .slice a16 y5.taps.length c17, .int .i64 y5.next, .int .i64 y5.want, .int .i64 y5.spent.pages, .int .i64 y5.spent.rent, .int .i64 y5.spent.cpu, .int .i64 y5.press, .int .i64 y5.lost], sl a6 c7 y5.label.levels, sl a8 c9 y5.own, sl a10 c11 y5.tree, sl a12 c13 s32.1, sl a14 c15 y5.heap.gc.grey, sl a16 c17 y5.taps, bx g3 66 [.slice none 0 0, .slice none 0 0, .slice none 0 0, .slice none 0 0, .int .i64 0, .int .i64 0, .int .i64 0, .slice none 0 0, .slice none 0 0, .int .i64 0, .int .i64 0, .int .i64 0, .int .i64 0, .int .i64 0, .int .i64 0, .int .i64 0], bx g1 66 [.slice a0_0 x0.label.levels.length c0_0, .slice a0_1 x0.own.length c0_1, .slice a0_2 x0.tree.length c0_2, .slice a0_3 x0.heap.arena.length c0_3, .int .i64 x0.heap.gc.phase, .int .i64 x0.heap.gc.pos, .int .i64 x0.heap.gc.round, .slice a0_7 x0.heap.gc.grey.length c0_7, .slice a0_8 x0.taps.length c0_8, .int .i64 x0.next, .int .i64 x0.want, .int .i64 x0.spent.pages, .int .i64 x0.spent.rent, .int .i64 x0.spent.cpu, .int .i64 x0.press, .int .i64 x0.lost]]) ?_ N (y5.heap.arena, 0) _ _ _ ⟨⟨rfl, rfl, rfl, rfl, rfl, rfl, rfl, rfl, trivial⟩, hS9.pick [0, 1, 2, 3, 4, 5, 6, 7, 8] rfl rfl⟩ ho77) ?_
  · intro s32 e w33 o hM h
    obtain ⟨hE, hS11⟩ := hM
    obtain ⟨e, rfl⟩ := hE.out
    refine go ?_
    refine CW.cond rfl (fun hc34 => ?_) (fun hc34 => ?_)
    · replace h := bcT h hc34
      refine go ?_
      replace ⟨y35, hy35, h⟩ := obind h
      obtain ⟨b38, o39, cs40, hae, hb43, hp36, hq37, hd41, hk42⟩ := hr0_3.idx hy35
      subst hae
      obtain ⟨a44, c45, a47, c48, a50, c51, rfl, hr46, hr49, hr52⟩ := hd41
      refine LW.u (Pur.ix Tryz.underlying59 sz92 rfl rfl hp36 hq37) rfl ?_
      refine LW.l (Ldr.oldN w0 ag92 rfl rfl (fun j u hu => hk42 j u hu)) (hS11.same _ hb43.1 hb43.2) rfl ?_
      refine LW.al hS11 fun g53 w54 hS12 => ?_
      refine go ?_
      refine LW.st hS12 0 fun w55 hS13 => ?_
      refine gs ?_
      obtain ⟨j56, hj56, h57⟩ := obind h
      refine CW.cut (fun e wb => En e [(1, .int .i64 x1), (2, .int .i64 x2), (3, .pointer (some ⟨g1, 0, none⟩)), (6, .pointer (some ⟨g3, 0, none⟩)), (7, .pointer (some ⟨g19, 0, none⟩)), (8, .int .i64 s32.2), (23, .slice (some ⟨b38, o39, none⟩) x0.heap.arena.length c0_3), (24, .int .i64 (x0.heap.arena.length : Int)), (25, .int .i64 s32.2), (44, .bool j56)] ∧ St w0 [] wb [bx g19 66 [.slice a6 y5.label.levels.length c7, .slice a8 y5.own.length c9, .slice a10 y5.tree.length c11, .slice a12 s32.1.length c13, .int .i64 y5.heap.gc.phase, .int .i64 y5.heap.gc.pos, .int .i64 y5.heap.gc.round, .slice a14 y5.heap.gc.grey.length c15, .slice a16 y5.taps.length c17, .int .i64 y5.next, .int .i64 y5.want, .int .i64 y5.spent.pages, .int .i64 y5.spent.rent, .int .i64 y5.spent.cpu, .int .i64 y5.press, .int .i64 y5.lost], sl a6 c7 y5.label.levels, sl a8 c9 y5.own, sl a10 c11 y5.tree, sl a12 c13 s32.1, sl a14 c15 y5.heap.gc.grey, sl a16 c17 y5.taps, bx g3 66 [.slice none 0 0, .slice none 0 0, .slice none 0 0, .slice none 0 0, .int .i64 0, .int .i64 0, .int .i64 0, .slice none 0 0, .slice none 0 0, .int .i64 0, .int .i64 0, .int .i64 0, .int .i64 0, .int .i64 0, .int .i64 0, .int .i64 0], bx g1 66 [.slice a0_0 x0.label.levels.length c0_0, .slice a0_1 x0.own.length c0_1, .slice a0_2 x0.tree.length c0_2, .slice (some ⟨b38, o39, none⟩) x0.heap.arena.length c0_3, .int .i64 x0.heap.gc.phase, .int .i64 x0.heap.gc.pos, .int .i64 x0.heap.gc.round, .slice a0_7 x0.heap.gc.grey.length c0_7, .slice a0_8 x0.taps.length c0_8, .int .i64 x0.next, .int .i64 x0.want, .int .i64 x0.spent.pages, .int .i64 x0.spent.rent, .int .i64 x0.spent.cpu, .int .i64 x0.press, .int .i64 x0.lost]]) ?_ ?_
      · have h := hj56
        refine go ?_
        rcases bcases (decide (y35.wait > 0)) with hc58 | hc58
        · replace h := bcT h hc58
          refine go ?_
          refine LW.fl [1, 2, 3, 6, 7, 8, 23, 24, 25, 33, 36, 37, 38, 41] fun e => ?_
          replace ⟨y59, hy59, h⟩ := obind h
          refine go ?_
          refine LW.c0 (W_i_GoodSlot hy59 rfl (hS13.rB hr0_3)) hS13 fun w60 hS14 => ?_
          refine go ?_
          cases oi h
          exact ⟨⟨rfl, rfl, rfl, rfl, rfl, rfl, rfl, rfl, rfl, rfl, trivial⟩, hS14.pick [1, 2, 3, 4, 5, 6, 7, 8, 9] rfl rfl⟩
        replace h := bcF h hc58
        refine go ?_
        cases oi h
        exact ⟨⟨rfl, rfl, rfl, rfl, rfl, rfl, rfl, rfl, rfl, rfl, trivial⟩, hS13.pick [1, 2, 3, 4, 5, 6, 7, 8, 9] rfl rfl⟩
      rintro e w61 ⟨hE, hS15⟩
      obtain ⟨e, rfl⟩ := hE.out
      have h := h57
      refine go ?_
      refine CW.fl [1, 2, 3, 6, 7, 8, 23, 24, 25, 44] fun e => ?_
      refine CW.cond rfl (fun hc62 => ?_) (fun hc62 => ?_)
      · replace h := bcT h hc62
        refine CW.draw (by kernel_rfl) ?_
        have hS16 := hS15.drew
        refine AW.u (i := 0) rfl (by kernel_rfl) rfl rfl (Pur.fa fo66_3 rfl) ?_
        refine AW.u (i := 1) rfl (by kernel_rfl) rfl rfl (Pur.fa fo62_0 rfl) ?_
        refine AW.take (i := 2) rfl (by kernel_rfl) rfl rfl (Ldr.box (bt := 66) (fr := (0, 0)) (cs := [.slice a6 y5.label.levels.length c7, .slice a8 y5.own.length c9, .slice a10 y5.tree.length c11, .slice a12 s32.1.length c13, .int .i64 y5.heap.gc.phase, .int .i64 y5.heap.gc.pos, .int .i64 y5.heap.gc.round, .slice a14 y5.heap.gc.grey.length c15, .slice a16 y5.taps.length c17, .int .i64 y5.next, .int .i64 y5.want, .int .i64 y5.spent.pages, .int .i64 y5.spent.rent, .int .i64 y5.spent.cpu, .int .i64 y5.press, .int .i64 y5.lost]) ag59 rfl rfl) (St.cell (h := hS16) (i := 0) rfl) ?_
        refine AW.u (i := 3) rfl (by kernel_rfl) rfl rfl (Pur.p rfl) ?_
        refine AW.u (i := 4) rfl (by kernel_rfl) rfl rfl (Pur.fa fo66_3 rfl) ?_
        refine AW.u (i := 5) rfl (by kernel_rfl) rfl rfl (Pur.fa fo62_0 rfl) ?_
        refine AW.take (i := 6) rfl (by kernel_rfl) rfl rfl (Ldr.box (bt := 66) (fr := (0, 0)) (cs := [.slice a6 y5.label.levels.length c7, .slice a8 y5.own.length c9, .slice a10 y5.tree.length c11, .slice a12 s32.1.length c13, .int .i64 y5.heap.gc.phase, .int .i64 y5.heap.gc.pos, .int .i64 y5.heap.gc.round, .slice a14 y5.heap.gc.grey.length c15, .slice a16 y5.taps.length c17, .int .i64 y5.next, .int .i64 y5.want, .int .i64 y5.spent.pages, .int .i64 y5.spent.rent, .int .i64 y5.spent.cpu, .int .i64 y5.press, .int .i64 y5.lost]) ag59 rfl rfl) (St.cell (h := hS16) (i := 0) rfl) ?_
        refine AW.u (i := 7) rfl (by kernel_rfl) rfl rfl (Pur.p rfl) ?_
        replace ⟨y63, hy63, h⟩ := obind h
        obtain ⟨b66, o67, hae, hp64, hq65⟩ := hS16.ownIdx (α := DObj) (i := 4) rfl hy63
        subst hae
        refine AW.u (i := 8) rfl (by kernel_rfl) rfl rfl (Pur.ix Tryz.underlying59 sz92 rfl rfl hp64 hq65) ?_
        refine AW.u (i := 9) rfl (by kernel_rfl) rfl rfl (Pur.fa fo92_6 rfl) ?_
        replace ⟨y68, hy68, h⟩ := obind h
        refine AW.one (i := 10) (by kernel_rfl) ?_
        refine ⟨_, rfl, ?_⟩
        refine LW.stE (M := []) (L := [bx g19 66 [.slice a6 y5.label.levels.length c7, .slice a8 y5.own.length c9, .slice a10 y5.tree.length c11, .slice (some ⟨b66, o67, none⟩) s32.1.length c13, .int .i64 y5.heap.gc.phase, .int .i64 y5.heap.gc.pos, .int .i64 y5.heap.gc.round, .slice a14 y5.heap.gc.grey.length c15, .slice a16 y5.taps.length c17, .int .i64 y5.next, .int .i64 y5.want, .int .i64 y5.spent.pages, .int .i64 y5.spent.rent, .int .i64 y5.spent.cpu, .int .i64 y5.press, .int .i64 y5.lost], sl a6 c7 y5.label.levels, sl a8 c9 y5.own, sl a10 c11 y5.tree, sl (some ⟨b66, o67, none⟩) c13 s32.1, sl a14 c15 y5.heap.gc.grey, sl a16 c17 y5.taps, bx g3 66 [.slice none 0 0, .slice none 0 0, .slice none 0 0, .slice none 0 0, .int .i64 0, .int .i64 0, .int .i64 0, .slice none 0 0, .slice none 0 0, .int .i64 0, .int .i64 0, .int .i64 0, .int .i64 0, .int .i64 0, .int .i64 0, .int .i64 0], bx g1 66 [.slice a0_0 x0.label.levels.length c0_0, .slice a0_1 x0.own.length c0_1, .slice a0_2 x0.tree.length c0_2, .slice (some ⟨b38, o39, none⟩) x0.heap.arena.length c0_3, .int .i64 x0.heap.gc.phase, .int .i64 x0.heap.gc.pos, .int .i64 x0.heap.gc.round, .slice a0_7 x0.heap.gc.grey.length c0_7, .slice a0_8 x0.taps.length c0_8, .int .i64 x0.next, .int .i64 x0.want, .int .i64 x0.spent.pages, .int .i64 x0.spent.rent, .int .i64 x0.spent.cpu, .int .i64 x0.press, .int .i64 x0.lost]]) (z := y63) (z' := (DObj.mk y63.gen y63.kind y63.box y63.res y63.til y63.pages 0 y63.got y63.ran y63.mark y63.links y63.data y63.queue)) (o := 6) hS16 (i := 4) rfl hy63 ag3 rfl (by show _ = o67 + (s32.2 : Int).toNat * 13 + 6; omega) rfl rfl rfl rfl (leafF (fun w cs F hF => by obtain ⟨q0, r0, q1, r1, q2, r2, rfl, hH⟩ := hF; exact ⟨q0, r0, q1, r1, q2, r2, rfl, hH⟩)) ?_
        intro w69 hS17 hf
        rw [Option.some.inj hy68] at hS17
        refine LW.nil ⟨rfl, (.c (St.cell (h := hS17) (i := 0) rfl) (.w (by kernel_rfl) Kept.n)), ?_⟩
        replace ⟨y70, hy70, h⟩ := obind h
        obtain ⟨b73, o74, hae, hp71, hq72⟩ := hS17.ownIdx (α := DObj) (i := 4) rfl hy70
        cases hae
        refine AW.u (i := 11) rfl (by kernel_rfl) rfl rfl (Pur.ix Tryz.underlying59 sz92 rfl rfl hp71 (by rw [show s32.1.length = y68.length from (len_set (Option.some.inj hy68))]; exact hq72)) ?_
        refine AW.u (i := 12) rfl (by kernel_rfl) rfl rfl (Pur.fa fo92_7 rfl) ?_
        replace ⟨y75, hy75, h⟩ := obind h
        refine AW.one (i := 13) (by kernel_rfl) ?_
        refine ⟨_, rfl, ?_⟩
        refine LW.stE (M := []) (L := [bx g19 66 [.slice a6 y5.label.levels.length c7, .slice a8 y5.own.length c9, .slice a10 y5.tree.length c11, .slice (some ⟨b66, o67, none⟩) s32.1.length c13, .int .i64 y5.heap.gc.phase, .int .i64 y5.heap.gc.pos, .int .i64 y5.heap.gc.round, .slice a14 y5.heap.gc.grey.length c15, .slice a16 y5.taps.length c17, .int .i64 y5.next, .int .i64 y5.want, .int .i64 y5.spent.pages, .int .i64 y5.spent.rent, .int .i64 y5.spent.cpu, .int .i64 y5.press, .int .i64 y5.lost], sl a6 c7 y5.label.levels, sl a8 c9 y5.own, sl a10 c11 y5.tree, sl (some ⟨b66, o67, none⟩) c13 y68, sl a14 c15 y5.heap.gc.grey, sl a16 c17 y5.taps, bx g3 66 [.slice none 0 0, .slice none 0 0, .slice none 0 0, .slice none 0 0, .int .i64 0, .int .i64 0, .int .i64 0, .slice none 0 0, .slice none 0 0, .int .i64 0, .int .i64 0, .int .i64 0, .int .i64 0, .int .i64 0, .int .i64 0, .int .i64 0], bx g1 66 [.slice a0_0 x0.label.levels.length c0_0, .slice a0_1 x0.own.length c0_1, .slice a0_2 x0.tree.length c0_2, .slice (some ⟨b38, o39, none⟩) x0.heap.arena.length c0_3, .int .i64 x0.heap.gc.phase, .int .i64 x0.heap.gc.pos, .int .i64 x0.heap.gc.round, .slice a0_7 x0.heap.gc.grey.length c0_7, .slice a0_8 x0.taps.length c0_8, .int .i64 x0.next, .int .i64 x0.want, .int .i64 x0.spent.pages, .int .i64 x0.spent.rent, .int .i64 x0.spent.cpu, .int .i64 x0.press, .int .i64 x0.lost]]) (z := y70) (z' := (DObj.mk y70.gen y70.kind y70.box y70.res y70.til y70.pages y70.wait (-1) y70.ran y70.mark y70.links y70.data y70.queue)) (o := 7) hS17 (i := 4) rfl hy70 ag3 rfl (by show _ = o67 + (s32.2 : Int).toNat * 13 + 7; omega) rfl rfl rfl rfl (leafF (fun w cs F hF => by obtain ⟨q0, r0, q1, r1, q2, r2, rfl, hH⟩ := hF; exact ⟨q0, r0, q1, r1, q2, r2, rfl, hH⟩)) ?_
        intro w76 hS18 hf
        rw [Option.some.inj hy75] at hS18
        refine LW.nil ⟨rfl, (.w (by kernel_rfl) (.w (by kernel_rfl) Kept.n)), ?_⟩
        refine AW.done (by kernel_rfl) ?_
        refine go ?_
        rw [show s32.1.length = y75.length from ((len_set (Option.some.inj hy68)).trans (len_set (Option.some.inj hy75)))] at hS18
        cases oi h
        exact ⟨rfl, ⟨⟨rfl, rfl, rfl, rfl, rfl, rfl, rfl, rfl, trivial⟩, hS18.pick [0, 1, 2, 3, 4, 5, 6, 7, 8] rfl rfl⟩⟩
      replace h := bcF h hc62
      refine go ?_
      cases oi h
      exact ⟨rfl, ⟨⟨rfl, rfl, rfl, rfl, rfl, rfl, rfl, rfl, trivial⟩, hS15.pick [0, 1, 2, 3, 4, 5, 6, 7, 8] rfl rfl⟩⟩
    replace h := bcF h hc34
    refine go ?_
    cases oi h
    exact ⟨trivial, rfl, ⟨⟨rfl, rfl, trivial⟩, hS11.pick [0, 1, 2, 3, 4, 5, 6, 7, 8] rfl rfl⟩⟩
  intro x e w79 hM
  obtain ⟨rfl, hM⟩ := hM
  obtain ⟨hE, hS19⟩ := hM
  obtain ⟨e, rfl⟩ := hE.out
  have h := h78
  refine go ?_
  refine LW.st hS19 7 fun w80 hS20 => ?_
  refine go ?_
  cases h
  exact And.intro trivial ⟨_, Res.one (resOne.b hS20 7 rfl ag66 rfl rfl), a6, c7, a8, c9, a10, c11, a12, c13, a14, c15, a16, c17, rfl, hS20.pick [1, 2, 3, 4, 5, 6] rfl rfl⟩

end Go.Kx
