/- Each call returns what the plain function says. Printed by drive.py. -/
import Derived.Test.YtfllimolhpblnaaGreatFa
import Derived.Test.YtfllimolhpblnaaGreatPu
import Derived.Test.YtfllimolhpblnaaGreatWa0
import Derived.Test.YtfllimolhpblnaaGreatWa1
import Derived.Test.YtfllimolhpblnaaGreatWa7
import Derived.Test.YtfllimolhpblnaaGreatWa8
import Derived.Test.YtfllimolhpblnaaGreatWa14
namespace Go.Kx
open Go Go.RowKit Go.Proofs
set_option maxRecDepth 10000
set_option maxHeartbeats 2000000
set_option linter.unusedVariables false
set_option linter.unusedSimpArgs false
theorem W_s_HandleOf {w0 : World} {N : Nat} {x0 : Int} {x1 : Int} {x2 : Int} {r : Int} (h : F_s_HandleOf N x0 x1 x2 = some r) :
    Ret Tryz.prog 51 #[.int .i64 x0, .int .i64 x1, .int .i64 x2] w0 (fun v w => v = .int .i64 r ∧ St w0 [] w []) := by
  unfold F_s_HandleOf at h
  refine Ret.fn Tryz.func51 fun e => ?_
  have hS1 := St.start w0
  refine gs ?_
  refine CW.region ?_
  refine gs ?_
  obtain ⟨j1, hj1, h2⟩ := obind h
  refine CW.cut (fun e wb => En e [(0, .int .i64 x0), (1, .int .i64 x1), (2, .int .i64 x2), (19, .bool j1)] ∧ St w0 [] wb []) ?_ ?_
  · have h := hj1
    refine go ?_
    replace ⟨y3, hy3, h⟩ := obind h
    refine LW.c0 (W_s_l1In hy3) hS1 fun w4 hS2 => ?_
    refine go ?_
    rcases bcases (!y3) with hc5 | hc5
    · replace h := bcT h hc5
      refine go ?_
      cases oi h
      exact ⟨⟨rfl, rfl, rfl, rfl, trivial⟩, hS2.pick [] rfl rfl⟩
    replace h := bcF h hc5
    refine go ?_
    replace ⟨y6, hy6, h⟩ := obind h
    refine go ?_
    refine LW.c0 (W_s_l8Slot hy6) hS2 fun w7 hS3 => ?_
    refine go ?_
    rcases bcases (!y6) with hc8 | hc8
    · replace h := bcT h hc8
      refine go ?_
      cases oi h
      exact ⟨⟨rfl, rfl, rfl, rfl, trivial⟩, hS3.pick [] rfl rfl⟩
    replace h := bcF h hc8
    refine go ?_
    replace ⟨y9, hy9, h⟩ := obind h
    refine go ?_
    refine LW.c0 (W_s_l1In hy9) hS3 fun w10 hS4 => ?_
    refine go ?_
    cases oi h
    exact ⟨⟨rfl, rfl, rfl, rfl, trivial⟩, hS4.pick [] rfl rfl⟩
  rintro e w11 ⟨hE, hS5⟩
  obtain ⟨e, rfl⟩ := hE.out
  have h := h2
  refine go ?_
  refine CW.cond rfl (fun hc12 => ?_) (fun hc12 => ?_)
  · replace h := bcT h hc12
    refine go ?_
    cases h
    exact And.intro trivial ⟨_, Res.one (resOne.t rfl), rfl, hS5.pick [] rfl rfl⟩
  replace h := bcF h hc12
  refine go ?_
  cases h
  exact And.intro trivial ⟨_, Res.one (resOne.t rfl), rfl, hS5.pick [] rfl rfl⟩

theorem W_i_HandleOf {w0 : World} {N : Nat} {x0 : Int} {x1 : Int} {x2 : Int} {r : Int} (h : F_i_HandleOf N x0 x1 x2 = some r) :
    Ret Tryz.prog 53 #[.int .i64 x0, .int .i64 x1, .int .i64 x2] w0 (fun v w => v = .int .i64 r ∧ St w0 [] w []) := by
  unfold F_i_HandleOf at h
  refine Ret.fn Tryz.func53 fun e => ?_
  have hS1 := St.start w0
  refine gs ?_
  refine CW.region ?_
  refine gs ?_
  obtain ⟨j1, hj1, h2⟩ := obind h
  refine CW.cut (fun e wb => En e [(0, .int .i64 x0), (1, .int .i64 x1), (2, .int .i64 x2), (19, .bool j1)] ∧ St w0 [] wb []) ?_ ?_
  · have h := hj1
    refine go ?_
    replace ⟨y3, hy3, h⟩ := obind h
    refine LW.c0 (W_i_isPart hy3) hS1 fun w4 hS2 => ?_
    refine go ?_
    rcases bcases (!y3) with hc5 | hc5
    · replace h := bcT h hc5
      refine go ?_
      cases oi h
      exact ⟨⟨rfl, rfl, rfl, rfl, trivial⟩, hS2.pick [] rfl rfl⟩
    replace h := bcF h hc5
    refine go ?_
    replace ⟨y6, hy6, h⟩ := obind h
    refine go ?_
    refine LW.c0 (W_i_isSlot hy6) hS2 fun w7 hS3 => ?_
    refine go ?_
    rcases bcases (!y6) with hc8 | hc8
    · replace h := bcT h hc8
      refine go ?_
      cases oi h
      exact ⟨⟨rfl, rfl, rfl, rfl, trivial⟩, hS3.pick [] rfl rfl⟩
    replace h := bcF h hc8
    refine go ?_
    replace ⟨y9, hy9, h⟩ := obind h
    refine go ?_
    refine LW.c0 (W_i_within hy9) hS3 fun w10 hS4 => ?_
    refine go ?_
    cases oi h
    exact ⟨⟨rfl, rfl, rfl, rfl, trivial⟩, hS4.pick [] rfl rfl⟩
  rintro e w11 ⟨hE, hS5⟩
  obtain ⟨e, rfl⟩ := hE.out
  have h := h2
  refine go ?_
  refine CW.cond rfl (fun hc12 => ?_) (fun hc12 => ?_)
  · replace h := bcT h hc12
    refine go ?_
    cases h
    exact And.intro trivial ⟨_, Res.one (resOne.t rfl), rfl, hS5.pick [] rfl rfl⟩
  replace h := bcF h hc12
  refine go ?_
  cases h
  exact And.intro trivial ⟨_, Res.one (resOne.t rfl), rfl, hS5.pick [] rfl rfl⟩

theorem W_s_Garbage {w0 : World} {N : Nat} {x0 : List DObj} {x1 : Int} {r : (List Int)} (h : F_s_Garbage N x0 x1 = some r) {a0_0 : Option Addr} {n0_0 c0_0 : Nat} (hn0_0 : n0_0 = x0.length) (hr0_0 : rdS (Bor w0 []) w0 a0_0 c0_0 x0) :
    Ret Tryz.prog 50 #[.slice a0_0 n0_0 c0_0, .int .i64 x1] w0 (fun v w => ∃ ar0 cr0, v = .slice ar0 r.length cr0 ∧ St w0 [] w [sl ar0 cr0 r]) := by
  subst hn0_0
  unfold F_s_Garbage at h
  refine Ret.fn Tryz.func50 fun e => ?_
  have hS1 := St.start w0
  refine go ?_
  refine LW.bsl (α := Int) (vs := []) (cs := #[]) (l := ([] : List Int)) rfl (by kernel_rfl) rfl rfl rfl (fun w => rfl) hS1 rfl ?_
  intro a1 c2 w3 hS2 hf
  refine go ?_
  replace ⟨y4, hy4, h⟩ := obind h
  refine LW.cl (W_s_Reach hy4 rfl (hS2.rB hr0_0)) ?_
  rintro _ w7 ⟨a5, c6, rfl, hs⟩
  have hS3 := hS2.add hs
  refine go ?_
  obtain ⟨o52, ho52, h53⟩ := obind h
  refine CW.mono (CW.iter (σ := (List Int) × Int) (ρ := (List Int) × Int) (fun s8 e wb => ∃ (s8a0 : Option Addr), ∃ (s8c0 : Nat), En e [(0, .slice a0_0 x0.length c0_0), (5, .slice s8a0 s8.1.length s8c0), (6, .slice a5 y4.length c6), (7, .int .i64 s8.2)] ∧ St w0 [] wb [sl a5 c6 y4, sl s8a0 s8c0 s8.1]) (fun s8 x e wb => x = .exit 0 ∧ ∃ (s8a0 : Option Addr), ∃ (s8c0 : Nat), En e [(5, .slice s8a0 s8.1.length s8c0)] ∧ St w0 [] wb [sl a5 c6 y4, sl s8a0 s8c0 s8.1]) ?_ N (([] : List Int), 0) _ _ _ ⟨a1, c2, ⟨rfl, rfl, rfl, rfl, trivial⟩, hS3.pick [0, 1] rfl rfl⟩ ho52) ?_
  · intro s8 e w9 o hM h
    obtain ⟨s8a0, s8c0, hE, hS4⟩ := hM
    obtain ⟨e, rfl⟩ := hE.out
    refine go ?_
    refine CW.cond rfl (fun hc10 => ?_) (fun hc10 => ?_)
    · replace h := bcT h hc10
      refine gs ?_
      refine CW.block ?_
      refine gs ?_
      obtain ⟨j11, hj11, h12⟩ := obind h
      refine CW.cut (fun e wb => En e [(0, .slice a0_0 x0.length c0_0), (5, .slice s8a0 s8.1.length s8c0), (6, .slice a5 y4.length c6), (7, .int .i64 s8.2), (30, .bool j11)] ∧ St w0 [] wb [sl a5 c6 y4, sl s8a0 s8c0 s8.1]) ?_ ?_
      · have h := hj11
        refine go ?_
        replace ⟨y13, hy13, h⟩ := obind h
        obtain ⟨b16, o17, cs18, hae, hb21, hp14, hq15, hd19, hk20⟩ := hr0_0.idx hy13
        subst hae
        obtain ⟨a22, c23, a25, c26, a28, c29, rfl, hr24, hr27, hr30⟩ := hd19
        refine LW.u (Pur.ix Tryz.underlying59 sz92 rfl rfl hp14 hq15) rfl ?_
        refine go ?_
        refine LW.l (Ldr.old w0 ag3 rfl (hk20 1 _ rfl)) (hS4.same _ hb21.1 hb21.2) rfl ?_
        refine go ?_
        rcases bcases (y13.kind != 0) with hc31 | hc31
        · replace h := bcT h hc31
          refine go ?_
          replace ⟨y32, hy32, h⟩ := obind h
          obtain ⟨b35, o36, hae, hp33, hq34⟩ := hS4.ownIdx (α := Bool) (i := 0) rfl hy32
          subst hae
          refine go ?_
          refine LW.u (Pur.ix Tryz.underlying140 sz4 rfl rfl hp33 hq34) rfl ?_
          refine LW.fl [0, 5, 6, 7, 24, 27] fun e => ?_
          obtain ⟨F37, ho38, hS5⟩ := hS4.freeze (α := Bool) 0 rfl
          obtain ⟨b39, o40, cs41, hae, hb44, _, _, hd42, hk43⟩ := ho38.rdF.idx hy32
          cases hae
          obtain rfl := hd42
          refine go ?_
          refine LW.l (Ldr.old w9 ag4 rfl (hk43 0 _ rfl)) (hS5.zC 0 rfl hb44) rfl ?_
          refine go ?_
          have hS6 := hS5.thaw (α := Bool) 0 rfl ho38
          cases oi h
          exact ⟨⟨rfl, rfl, rfl, rfl, rfl, trivial⟩, hS6.pick [0, 1] rfl rfl⟩
        replace h := bcF h hc31
        refine go ?_
        cases oi h
        exact ⟨⟨rfl, rfl, rfl, rfl, rfl, trivial⟩, hS4.pick [0, 1] rfl rfl⟩
      rintro e w45 ⟨hE, hS7⟩
      obtain ⟨e, rfl⟩ := hE.out
      have h := h12
      refine go ?_
      refine CW.cond rfl (fun hc46 => ?_) (fun hc46 => ?_)
      · replace h := bcT h hc46
        refine go ?_
        replace ⟨y47, hy47, h⟩ := obind h
        refine LW.app1 (M := []) (L := [sl a5 c6 y4, sl s8a0 s8c0 s8.1]) (vs := #[.int .i64 s8.2]) (i := 1) sT28 rfl (by kernel_rfl) rfl rfl hy47 hS7 rfl (fun w G hG => by cases (show G = [] from hG); exact ⟨rfl, rfl⟩) rfl rfl ?_
        intro v50 a48 c49 w51 hS8 hf
        refine go ?_
        cases oi h
        exact ⟨rfl, ⟨a48, c49, ⟨rfl, rfl, rfl, rfl, trivial⟩, hS8.pick [0, 1] rfl rfl⟩⟩
      replace h := bcF h hc46
      refine go ?_
      cases oi h
      exact ⟨rfl, ⟨s8a0, s8c0, ⟨rfl, rfl, rfl, rfl, trivial⟩, hS7.pick [0, 1] rfl rfl⟩⟩
    replace h := bcF h hc10
    refine go ?_
    cases oi h
    exact ⟨trivial, rfl, ⟨s8a0, s8c0, ⟨rfl, trivial⟩, hS4.pick [0, 1] rfl rfl⟩⟩
  intro x e w54 hM
  obtain ⟨rfl, hM⟩ := hM
  obtain ⟨s8a0, s8c0, hE, hS9⟩ := hM
  obtain ⟨e, rfl⟩ := hE.out
  have h := h53
  refine go ?_
  cases h
  exact And.intro trivial ⟨_, Res.one (resOne.t rfl), s8a0, s8c0, rfl, hS9.pick [1] rfl rfl⟩

theorem W_i_Garbage {w0 : World} {N : Nat} {x0 : List DObj} {x1 : Int} {r : (List Int)} (h : F_i_Garbage N x0 x1 = some r) {a0_0 : Option Addr} {n0_0 c0_0 : Nat} (hn0_0 : n0_0 = x0.length) (hr0_0 : rdS (Bor w0 []) w0 a0_0 c0_0 x0) :
    Ret Tryz.prog 52 #[.slice a0_0 n0_0 c0_0, .int .i64 x1] w0 (fun v w => ∃ ar0 cr0, v = .slice ar0 r.length cr0 ∧ St w0 [] w [sl ar0 cr0 r]) := by
  subst hn0_0
  unfold F_i_Garbage at h
  refine Ret.fn Tryz.func52 fun e => ?_
  have hS1 := St.start w0
  refine go ?_
  refine LW.bsl (α := Int) (vs := []) (cs := #[]) (l := ([] : List Int)) rfl (by kernel_rfl) rfl rfl rfl (fun w => rfl) hS1 rfl ?_
  intro a1 c2 w3 hS2 hf
  refine go ?_
  replace ⟨y4, hy4, h⟩ := obind h
  refine LW.cl (W_i_Reach hy4 rfl (hS2.rB hr0_0)) ?_
  rintro _ w7 ⟨a5, c6, rfl, hs⟩
  have hS3 := hS2.add hs
  refine go ?_
  obtain ⟨o52, ho52, h53⟩ := obind h
  refine CW.mono (CW.iter (σ := (List Int) × Int) (ρ := (List Int) × Int) (fun s8 e wb => ∃ (s8a0 : Option Addr), ∃ (s8c0 : Nat), En e [(0, .slice a0_0 x0.length c0_0), (5, .slice s8a0 s8.1.length s8c0), (11, .slice a5 y4.length c6), (12, .int .i64 (y4.length : Int)), (13, .int .i64 s8.2)] ∧ St w0 [] wb [sl a5 c6 y4, sl s8a0 s8c0 s8.1]) (fun s8 x e wb => x = .exit 0 ∧ ∃ (s8a0 : Option Addr), ∃ (s8c0 : Nat), En e [(5, .slice s8a0 s8.1.length s8c0)] ∧ St w0 [] wb [sl a5 c6 y4, sl s8a0 s8c0 s8.1]) ?_ N (([] : List Int), 0) _ _ _ ⟨a1, c2, ⟨rfl, rfl, rfl, rfl, rfl, trivial⟩, hS3.pick [0, 1] rfl rfl⟩ ho52) ?_
  · intro s8 e w9 o hM h
    obtain ⟨s8a0, s8c0, hE, hS4⟩ := hM
    obtain ⟨e, rfl⟩ := hE.out
    refine go ?_
    refine CW.cond rfl (fun hc10 => ?_) (fun hc10 => ?_)
    · replace h := bcT h hc10
      refine go ?_
      replace ⟨y11, hy11, h⟩ := obind h
      obtain ⟨b14, o15, hae, hp12, hq13⟩ := hS4.ownIdx (α := Bool) (i := 0) rfl hy11
      subst hae
      refine LW.u (Pur.ix Tryz.underlying140 sz4 rfl rfl hp12 hq13) rfl ?_
      obtain ⟨F16, ho17, hS5⟩ := hS4.freeze (α := Bool) 0 rfl
      obtain ⟨b18, o19, cs20, hae, hb23, _, _, hd21, hk22⟩ := ho17.rdF.idx hy11
      cases hae
      obtain rfl := hd21
      refine LW.l (Ldr.old w9 ag4 rfl (hk22 0 _ rfl)) (hS5.zC 0 rfl hb23) rfl ?_
      refine gs ?_
      obtain ⟨j24, hj24, h25⟩ := obind h
      refine CW.cut (fun e wb => En e [(0, .slice a0_0 x0.length c0_0), (5, .slice s8a0 s8.1.length s8c0), (6, .int .i64 s8.2), (11, .slice (some ⟨b14, o15, none⟩) y4.length c6), (12, .int .i64 (y4.length : Int)), (13, .int .i64 s8.2), (27, .bool j24)] ∧ St w0 [] wb [fz w9 F16, sl s8a0 s8c0 s8.1]) ?_ ?_
      · have h := hj24
        refine go ?_
        rcases bcases (!y11) with hc26 | hc26
        · replace h := bcT h hc26
          refine go ?_
          replace ⟨y27, hy27, h⟩ := obind h
          obtain ⟨b30, o31, cs32, hae, hb35, hp28, hq29, hd33, hk34⟩ := hr0_0.idx hy27
          subst hae
          obtain ⟨a36, c37, a39, c40, a42, c43, rfl, hr38, hr41, hr44⟩ := hd33
          refine go ?_
          refine LW.u (Pur.ix Tryz.underlying59 sz92 rfl rfl hp28 hq29) rfl ?_
          refine go ?_
          refine LW.fl [0, 5, 6, 11, 12, 13, 20, 24] fun e => ?_
          refine go ?_
          refine LW.l (Ldr.old w0 ag3 rfl (hk34 1 _ rfl)) (hS5.same _ hb35.1 hb35.2) rfl ?_
          refine go ?_
          cases oi h
          exact ⟨⟨rfl, rfl, rfl, rfl, rfl, rfl, rfl, trivial⟩, hS5.pick [0, 1] rfl rfl⟩
        replace h := bcF h hc26
        refine go ?_
        cases oi h
        exact ⟨⟨rfl, rfl, rfl, rfl, rfl, rfl, rfl, trivial⟩, hS5.pick [0, 1] rfl rfl⟩
      rintro e w45 ⟨hE, hS6⟩
      obtain ⟨e, rfl⟩ := hE.out
      have h := h25
      refine go ?_
      refine CW.fl [0, 5, 6, 11, 12, 13, 27] fun e => ?_
      refine CW.cond rfl (fun hc46 => ?_) (fun hc46 => ?_)
      · replace h := bcT h hc46
        refine go ?_
        replace ⟨y47, hy47, h⟩ := obind h
        refine LW.app1 (M := []) (L := [fz w9 F16, sl s8a0 s8c0 s8.1]) (vs := #[.int .i64 s8.2]) (i := 1) sT28 rfl (by kernel_rfl) rfl rfl hy47 hS6 rfl (fun w G hG => by cases (show G = [] from hG); exact ⟨rfl, rfl⟩) rfl rfl ?_
        intro v50 a48 c49 w51 hS7 hf
        refine go ?_
        have hS8 := hS7.thaw (α := Bool) 0 rfl ho17
        cases oi h
        exact ⟨rfl, ⟨a48, c49, ⟨rfl, rfl, rfl, rfl, rfl, trivial⟩, hS8.pick [0, 1] rfl rfl⟩⟩
      replace h := bcF h hc46
      refine go ?_
      have hS9 := hS6.thaw (α := Bool) 0 rfl ho17
      cases oi h
      exact ⟨rfl, ⟨s8a0, s8c0, ⟨rfl, rfl, rfl, rfl, rfl, trivial⟩, hS9.pick [0, 1] rfl rfl⟩⟩
    replace h := bcF h hc10
    refine go ?_
    cases oi h
    exact ⟨trivial, rfl, ⟨s8a0, s8c0, ⟨rfl, trivial⟩, hS4.pick [0, 1] rfl rfl⟩⟩
  intro x e w54 hM
  obtain ⟨rfl, hM⟩ := hM
  obtain ⟨s8a0, s8c0, hE, hS10⟩ := hM
  obtain ⟨e, rfl⟩ := hE.out
  have h := h53
  refine go ?_
  cases h
  exact And.intro trivial ⟨_, Res.one (resOne.t rfl), s8a0, s8c0, rfl, hS10.pick [1] rfl rfl⟩

theorem W_s_Doomed {w0 : World} {N : Nat} {x0 : DWorld} {r : (List Int)} (h : F_s_Doomed N x0 = some r) {a0_1 : Option Addr} {n0_1 c0_1 : Nat} (hn0_1 : n0_1 = x0.parts.length) (hr0_1 : rdS (Bor w0 []) w0 a0_1 c0_1 x0.parts) :
    Ret Tryz.prog 20 #[.agg #[.int .i64 x0.now, .slice a0_1 n0_1 c0_1]] w0 (fun v w => ∃ ar0 cr0, v = .slice ar0 r.length cr0 ∧ St w0 [] w [sl ar0 cr0 r]) := by
  subst hn0_1
  unfold F_s_Doomed at h
  refine Ret.fn Tryz.func20 fun e => ?_
  have hS1 := St.start w0
  refine go ?_
  refine LW.bo hS1 fun g1 w2 hS2 => ?_
  refine go ?_
  refine LW.bsl (α := Int) (vs := []) (cs := #[]) (l := ([] : List Int)) rfl (by kernel_rfl) rfl rfl rfl (fun w => rfl) hS2 rfl ?_
  intro a3 c4 w5 hS3 hf
  refine go ?_
  replace ⟨y6, hy6, h⟩ := obind h
  refine LW.c0 (W_s_WorldOk hy6 rfl (hS3.rB hr0_1)) hS3 fun w7 hS4 => ?_
  refine go ?_
  refine CW.cond rfl (fun hc8 => ?_) (fun hc8 => ?_)
  · replace h := bcT h hc8
    refine go ?_
    cases h
    exact And.intro trivial ⟨_, Res.one (resOne.t rfl), a3, c4, rfl, hS4.pick [0] rfl rfl⟩
  replace h := bcF h hc8
  refine go ?_
  obtain ⟨o89, ho89, h90⟩ := obind h
  refine CW.mono (CW.iter (σ := (List Int) × Int) (ρ := (List Int) × Int) (fun s9 e wb => ∃ (s9a0 : Option Addr), ∃ (s9c0 : Nat), En e [(1, .pointer (some ⟨g1, 0, none⟩)), (3, .slice s9a0 s9.1.length s9c0), (4, .int .i64 s9.2)] ∧ St w0 [] wb [sl s9a0 s9c0 s9.1, bx g1 32 [.int .i64 x0.now, .slice a0_1 x0.parts.length c0_1]]) (fun s9 x e wb => x = .exit 0 ∧ ∃ (s9a0 : Option Addr), ∃ (s9c0 : Nat), En e [(3, .slice s9a0 s9.1.length s9c0)] ∧ St w0 [] wb [sl s9a0 s9c0 s9.1, bx g1 32 [.int .i64 x0.now, .slice a0_1 x0.parts.length c0_1]]) ?_ N (([] : List Int), 0) _ _ _ ⟨a3, c4, ⟨rfl, rfl, rfl, trivial⟩, hS4.pick [0, 1] rfl rfl⟩ ho89) ?_
  · intro s9 e w10 o hM h
    obtain ⟨s9a0, s9c0, hE, hS5⟩ := hM
    obtain ⟨e, rfl⟩ := hE.out
    refine go ?_
    refine CW.fl [1, 3, 4, 17] fun e => ?_
    refine CW.cond rfl (fun hc11 => ?_) (fun hc11 => ?_)
    · replace h := bcT h hc11
      refine go ?_
      replace ⟨y12, hy12, h⟩ := obind h
      obtain ⟨b15, o16, cs17, hae, hb20, hp13, hq14, hd18, hk19⟩ := hr0_1.idx hy12
      subst hae
      obtain ⟨a21, c22, a24, c25, a27, c28, a30, c31, a33, c34, a36, c37, rfl, hr23, hr26, hr29, hr32, hr35, hr38⟩ := hd18
      refine LW.u (Pur.ix Tryz.underlying30 sz66 rfl rfl hp13 hq14) rfl ?_
      refine go ?_
      refine LW.l (Ldr.old w0 ag59 rfl (hk19 3 _ rfl)) (hS5.same _ hb20.1 hb20.2) rfl ?_
      refine go ?_
      replace ⟨y39, hy39, h⟩ := obind h
      refine LW.cl (W_s_Garbage hy39 rfl (hS5.rB hr32)) ?_
      rintro _ w42 ⟨a40, c41, rfl, hs⟩
      have hS6 := hS5.add hs
      refine go ?_
      obtain ⟨o86, ho86, h87⟩ := obind h
      refine CW.mono (CW.iter (σ := (List Int) × Int) (ρ := (List Int) × Int) (fun s43 e wb => ∃ (s43a0 : Option Addr), ∃ (s43c0 : Nat), En e [(1, .pointer (some ⟨g1, 0, none⟩)), (3, .slice s43a0 s43.1.length s43c0), (4, .int .i64 s9.2), (5, .slice a30 y12.heap.arena.length c31), (6, .slice a40 y39.length c41), (7, .int .i64 s43.2)] ∧ St w0 [] wb [sl a40 c41 y39, sl s43a0 s43c0 s43.1, bx g1 32 [.int .i64 x0.now, .slice (some ⟨b15, o16, none⟩) x0.parts.length c0_1]]) (fun s43 x e wb => x = .exit 2 ∧ ∃ (s43a0 : Option Addr), ∃ (s43c0 : Nat), En e [(1, .pointer (some ⟨g1, 0, none⟩)), (3, .slice s43a0 s43.1.length s43c0), (4, .int .i64 s9.2)] ∧ St w0 [] wb [sl a40 c41 y39, sl s43a0 s43c0 s43.1, bx g1 32 [.int .i64 x0.now, .slice (some ⟨b15, o16, none⟩) x0.parts.length c0_1]]) ?_ N (s9.1, 0) _ _ _ ⟨s9a0, s9c0, ⟨rfl, rfl, rfl, rfl, rfl, rfl, trivial⟩, hS6.pick [0, 1, 2] rfl rfl⟩ ho86) ?_
      · intro s43 e w44 o hM h
        obtain ⟨s43a0, s43c0, hE, hS7⟩ := hM
        obtain ⟨e, rfl⟩ := hE.out
        refine go ?_
        refine CW.fl [1, 3, 4, 5, 6, 7, 34] fun e => ?_
        refine CW.cond rfl (fun hc45 => ?_) (fun hc45 => ?_)
        · replace h := bcT h hc45
          refine go ?_
          refine CW.draw (by kernel_rfl) ?_
          have hS8 := hS7.drew
          refine AW.u (i := 0) rfl (by kernel_rfl) rfl rfl (Pur.p rfl) ?_
          refine AW.u (i := 1) rfl (by kernel_rfl) rfl rfl (Pur.p rfl) ?_
          refine AW.u (i := 2) rfl (by kernel_rfl) rfl rfl (Pur.p rfl) ?_
          refine AW.u (i := 3) rfl (by kernel_rfl) rfl rfl (Pur.p rfl) ?_
          replace ⟨y46, hy46, h⟩ := obind h
          obtain ⟨b49, o50, hae, hp47, hq48⟩ := hS8.ownIdx (α := Int) (i := 0) rfl hy46
          subst hae
          refine AW.u (i := 4) rfl (by kernel_rfl) rfl rfl (Pur.ix Tryz.underlying28 sz3 rfl rfl hp47 hq48) ?_
          obtain ⟨F51, ho52, hS9⟩ := hS8.freeze (α := Int) 0 rfl
          obtain ⟨b53, o54, cs55, hae, hb58, _, _, hd56, hk57⟩ := ho52.rdF.idx hy46
          cases hae
          obtain rfl := hd56
          refine AW.take (i := 5) rfl (by kernel_rfl) rfl rfl (Ldr.old w44.drew ag3 rfl (hk57 0 _ rfl)) (hS9.zC 0 rfl hb58) ?_
          refine AW.u (i := 6) rfl (by kernel_rfl) rfl rfl (Pur.p rfl) ?_
          refine AW.u (i := 7) rfl (by kernel_rfl) rfl rfl (Pur.p rfl) ?_
          refine AW.u (i := 8) rfl (by kernel_rfl) rfl rfl (Pur.p rfl) ?_
          refine AW.u (i := 9) rfl (by kernel_rfl) rfl rfl (Pur.ix Tryz.underlying28 sz3 rfl rfl hp47 hq48) ?_
          refine AW.take (i := 10) rfl (by kernel_rfl) rfl rfl (Ldr.old w44.drew ag3 rfl (hk57 0 _ rfl)) (hS9.zC 0 rfl hb58) ?_
          replace ⟨y59, hy59, h⟩ := obind h
          obtain ⟨b62, o63, cs64, hae, hb67, hp60, hq61, hd65, hk66⟩ := hr32.idx hy59
          subst hae
          obtain ⟨a68, c69, a71, c72, a74, c75, rfl, hr70, hr73, hr76⟩ := hd65
          refine AW.u (i := 11) rfl (by kernel_rfl) rfl rfl (Pur.ix Tryz.underlying59 sz92 rfl rfl hp60 hq61) ?_
          refine AW.u (i := 12) rfl (by kernel_rfl) rfl rfl (Pur.fa fo92_0 rfl) ?_
          refine AW.take (i := 13) rfl (by kernel_rfl) rfl rfl (Ldr.old w0 ag3 rfl (hk66 0 _ rfl)) (hS9.same _ hb67.1 hb67.2) ?_
          replace ⟨y77, hy77, h⟩ := obind h
          have q := W_s_HandleOf (w0 := w44.drew) hy77
          refine AW.one (i := 14) (by kernel_rfl) ?_
          refine ⟨_, rfl, ?_⟩
          refine LW.call pl51 rfl rfl ?_
          refine Ret.mono q ?_
          rintro _ w78 ⟨rfl, hs⟩
          have hS10 := hS9.add hs
          refine LW.nil ⟨rfl, (.w (by kernel_rfl) (.c (hS10.zC 0 rfl hb58) (.w (by kernel_rfl) Kept.n))), ?_⟩
          refine AW.one (i := 15) (by kernel_rfl) ?_
          refine ⟨_, rfl, ?_⟩
          refine LW.bsl (α := Int) (vs := [(0, .int .i64 y77)]) (cs := #[.int .i64 y77]) (l := ([y77] : List Int)) rfl (by kernel_rfl) rfl rfl rfl (fun w => ⟨[.int .i64 y77], [], [], [], rfl, rfl, ⟨rfl, rfl⟩, rfl⟩) hS10 rfl ?_
          intro a79 c80 w81 hS11 hf
          refine LW.nil ⟨rfl, (.c (hS11.same _ hb67.1 hb67.2) (.c (hS11.zC 1 rfl hb58) (.c (hS11.zC 1 rfl hb58) Kept.n))), ?_⟩
          replace ⟨y82, hy82, h⟩ := obind h
          refine AW.one (i := 16) (by kernel_rfl) ?_
          refine ⟨_, rfl, ?_⟩
          refine LW.appN (l := s43.1) (m := ([y77] : List Int)) sT28 rfl rfl (hS11.rI 0 rfl) hy82 hS11 (i := 2) rfl rfl ?_
          intro a83 c84 w85 hS12 hf
          refine LW.nil ⟨rfl, (.c (hS12.same _ hb67.1 hb67.2) (.c (hS12.zC 1 rfl hb58) (.c (hS12.zC 1 rfl hb58) Kept.n))), ?_⟩
          refine AW.u (i := 17) rfl (by kernel_rfl) rfl rfl (Pur.p rfl) ?_
          refine AW.done (by kernel_rfl) ?_
          refine go ?_
          have hS13 := hS12.thaw (α := Int) 1 rfl ho52
          cases oi h
          exact ⟨rfl, ⟨a83, c84, ⟨rfl, rfl, rfl, rfl, rfl, rfl, trivial⟩, hS13.pick [1, 2, 3] rfl rfl⟩⟩
        replace h := bcF h hc45
        refine go ?_
        cases oi h
        exact ⟨trivial, rfl, ⟨s43a0, s43c0, ⟨rfl, rfl, rfl, trivial⟩, hS7.pick [0, 1, 2] rfl rfl⟩⟩
      intro x e w88 hM
      obtain ⟨rfl, hM⟩ := hM
      obtain ⟨s43a0, s43c0, hE, hS14⟩ := hM
      obtain ⟨e, rfl⟩ := hE.out
      have h := h87
      refine go ?_
      cases oi h
      exact ⟨rfl, ⟨s43a0, s43c0, ⟨rfl, rfl, rfl, trivial⟩, hS14.pick [1, 2] rfl rfl⟩⟩
    replace h := bcF h hc11
    refine go ?_
    cases oi h
    exact ⟨trivial, rfl, ⟨s9a0, s9c0, ⟨rfl, trivial⟩, hS5.pick [0, 1] rfl rfl⟩⟩
  intro x e w91 hM
  obtain ⟨rfl, hM⟩ := hM
  obtain ⟨s9a0, s9c0, hE, hS15⟩ := hM
  obtain ⟨e, rfl⟩ := hE.out
  have h := h90
  refine go ?_
  cases h
  exact And.intro trivial ⟨_, Res.one (resOne.t rfl), s9a0, s9c0, rfl, hS15.pick [0] rfl rfl⟩

theorem W_i_Doomed {w0 : World} {N : Nat} {x0 : DWorld} {r : (List Int)} (h : F_i_Doomed N x0 = some r) {a0_1 : Option Addr} {n0_1 c0_1 : Nat} (hn0_1 : n0_1 = x0.parts.length) (hr0_1 : rdS (Bor w0 []) w0 a0_1 c0_1 x0.parts) :
    Ret Tryz.prog 21 #[.agg #[.int .i64 x0.now, .slice a0_1 n0_1 c0_1]] w0 (fun v w => ∃ ar0 cr0, v = .slice ar0 r.length cr0 ∧ St w0 [] w [sl ar0 cr0 r]) := by
  subst hn0_1
  unfold F_i_Doomed at h
  refine Ret.fn Tryz.func21 fun e => ?_
  have hS1 := St.start w0
  refine go ?_
  refine LW.bo hS1 fun g1 w2 hS2 => ?_
  refine go ?_
  refine LW.bsl (α := Int) (vs := []) (cs := #[]) (l := ([] : List Int)) rfl (by kernel_rfl) rfl rfl rfl (fun w => rfl) hS2 rfl ?_
  intro a3 c4 w5 hS3 hf
  refine go ?_
  replace ⟨y6, hy6, h⟩ := obind h
  refine LW.c0 (W_i_WorldOk hy6 rfl (hS3.rB hr0_1)) hS3 fun w7 hS4 => ?_
  refine go ?_
  refine CW.cond rfl (fun hc8 => ?_) (fun hc8 => ?_)
  · replace h := bcT h hc8
    refine go ?_
    cases h
    exact And.intro trivial ⟨_, Res.one (resOne.t rfl), a3, c4, rfl, hS4.pick [0] rfl rfl⟩
  replace h := bcF h hc8
  refine go ?_
  obtain ⟨o90, ho90, h91⟩ := obind h
  refine CW.mono (CW.iter (σ := (List Int) × Int) (ρ := (List Int) × Int) (fun s9 e wb => ∃ (s9a0 : Option Addr), ∃ (s9c0 : Nat), En e [(1, .pointer (some ⟨g1, 0, none⟩)), (3, .slice s9a0 s9.1.length s9c0), (15, .slice a0_1 x0.parts.length c0_1), (16, .int .i64 (x0.parts.length : Int)), (17, .int .i64 s9.2)] ∧ St w0 [] wb [sl s9a0 s9c0 s9.1, bx g1 32 [.int .i64 x0.now, .slice a0_1 x0.parts.length c0_1]]) (fun s9 x e wb => x = .exit 0 ∧ ∃ (s9a0 : Option Addr), ∃ (s9c0 : Nat), En e [(3, .slice s9a0 s9.1.length s9c0)] ∧ St w0 [] wb [sl s9a0 s9c0 s9.1, bx g1 32 [.int .i64 x0.now, .slice a0_1 x0.parts.length c0_1]]) ?_ N (([] : List Int), 0) _ _ _ ⟨a3, c4, ⟨rfl, rfl, rfl, rfl, rfl, trivial⟩, hS4.pick [0, 1] rfl rfl⟩ ho90) ?_
  · intro s9 e w10 o hM h
    obtain ⟨s9a0, s9c0, hE, hS5⟩ := hM
    obtain ⟨e, rfl⟩ := hE.out
    refine go ?_
    refine CW.cond rfl (fun hc11 => ?_) (fun hc11 => ?_)
    · replace h := bcT h hc11
      refine go ?_
      replace ⟨y12, hy12, h⟩ := obind h
      obtain ⟨b15, o16, cs17, hae, hb20, hp13, hq14, hd18, hk19⟩ := hr0_1.idx hy12
      subst hae
      obtain ⟨a21, c22, a24, c25, a27, c28, a30, c31, a33, c34, a36, c37, rfl, hr23, hr26, hr29, hr32, hr35, hr38⟩ := hd18
      refine LW.u (Pur.ix Tryz.underlying30 sz66 rfl rfl hp13 hq14) rfl ?_
      refine LW.l (Ldr.oldN w0 ag66 rfl rfl (fun j u hu => hk19 j u hu)) (hS5.same _ hb20.1 hb20.2) rfl ?_
      refine LW.al hS5 fun g39 w40 hS6 => ?_
      refine go ?_
      refine LW.st hS6 0 fun w41 hS7 => ?_
      refine go ?_
      refine LW.fl [1, 3, 4, 6, 15, 16, 17, 25, 27] fun e => ?_
      replace ⟨y42, hy42, h⟩ := obind h
      refine LW.cl (W_i_Garbage hy42 rfl (hS7.rB hr32)) ?_
      rintro _ w45 ⟨a43, c44, rfl, hs⟩
      have hS8 := hS7.add hs
      refine go ?_
      obtain ⟨o87, ho87, h88⟩ := obind h
      refine CW.mono (CW.iter (σ := (List Int) × Int) (ρ := (List Int) × Int) (fun s46 e wb => ∃ (s46a0 : Option Addr), ∃ (s46c0 : Nat), En e [(1, .pointer (some ⟨g1, 0, none⟩)), (3, .slice s46a0 s46.1.length s46c0), (4, .int .i64 s9.2), (6, .slice a30 y12.heap.arena.length c31), (15, .slice (some ⟨b15, o16, none⟩) x0.parts.length c0_1), (16, .int .i64 (x0.parts.length : Int)), (17, .int .i64 s9.2), (28, .slice a43 y42.length c44), (29, .int .i64 (y42.length : Int)), (30, .int .i64 s46.2)] ∧ St w0 [] wb [sl a43 c44 y42, sl s46a0 s46c0 s46.1, bx g1 32 [.int .i64 x0.now, .slice (some ⟨b15, o16, none⟩) x0.parts.length c0_1]]) (fun s46 x e wb => x = .exit 2 ∧ ∃ (s46a0 : Option Addr), ∃ (s46c0 : Nat), En e [(1, .pointer (some ⟨g1, 0, none⟩)), (3, .slice s46a0 s46.1.length s46c0), (15, .slice (some ⟨b15, o16, none⟩) x0.parts.length c0_1), (16, .int .i64 (x0.parts.length : Int)), (17, .int .i64 s9.2)] ∧ St w0 [] wb [sl a43 c44 y42, sl s46a0 s46c0 s46.1, bx g1 32 [.int .i64 x0.now, .slice (some ⟨b15, o16, none⟩) x0.parts.length c0_1]]) ?_ N (s9.1, 0) _ _ _ ⟨s9a0, s9c0, ⟨rfl, rfl, rfl, rfl, rfl, rfl, rfl, rfl, rfl, rfl, trivial⟩, hS8.pick [0, 2, 3] rfl rfl⟩ ho87) ?_
      · intro s46 e w47 o hM h
        obtain ⟨s46a0, s46c0, hE, hS9⟩ := hM
        obtain ⟨e, rfl⟩ := hE.out
        refine go ?_
        refine CW.cond rfl (fun hc48 => ?_) (fun hc48 => ?_)
        · replace h := bcT h hc48
          refine go ?_
          replace ⟨y49, hy49, h⟩ := obind h
          obtain ⟨b52, o53, hae, hp50, hq51⟩ := hS9.ownIdx (α := Int) (i := 0) rfl hy49
          subst hae
          refine LW.u (Pur.ix Tryz.underlying28 sz3 rfl rfl hp50 hq51) rfl ?_
          obtain ⟨F54, ho55, hS10⟩ := hS9.freeze (α := Int) 0 rfl
          obtain ⟨b56, o57, cs58, hae, hb61, _, _, hd59, hk60⟩ := ho55.rdF.idx hy49
          cases hae
          obtain rfl := hd59
          refine LW.l (Ldr.old w47 ag3 rfl (hk60 0 _ rfl)) (hS10.zC 0 rfl hb61) rfl ?_
          refine go ?_
          replace ⟨y62, hy62, h⟩ := obind h
          obtain ⟨b65, o66, cs67, hae, hb70, hp63, hq64, hd68, hk69⟩ := hr32.idx hy62
          subst hae
          obtain ⟨a71, c72, a74, c75, a77, c78, rfl, hr73, hr76, hr79⟩ := hd68
          refine LW.u (Pur.ix Tryz.underlying59 sz92 rfl rfl hp63 hq64) rfl ?_
          refine go ?_
          refine LW.l (Ldr.old w0 ag3 rfl (hk69 0 _ rfl)) (hS10.same _ hb70.1 hb70.2) rfl ?_
          replace ⟨y80, hy80, h⟩ := obind h
          refine LW.c0 (W_i_HandleOf hy80) hS10 fun w81 hS11 => ?_
          replace ⟨y82, hy82, h⟩ := obind h
          refine LW.app1 (M := []) (L := [fz w47 F54, sl s46a0 s46c0 s46.1, bx g1 32 [.int .i64 x0.now, .slice (some ⟨b15, o16, none⟩) x0.parts.length c0_1]]) (vs := #[.int .i64 y80]) (i := 1) sT28 rfl (by kernel_rfl) rfl rfl hy82 hS11 rfl (fun w G hG => by cases (show G = [] from hG); exact ⟨rfl, rfl⟩) rfl rfl ?_
          intro v85 a83 c84 w86 hS12 hf
          refine go ?_
          have hS13 := hS12.thaw (α := Int) 0 rfl ho55
          cases oi h
          exact ⟨rfl, ⟨a83, c84, ⟨rfl, rfl, rfl, rfl, rfl, rfl, rfl, rfl, rfl, rfl, trivial⟩, hS13.pick [0, 1, 2] rfl rfl⟩⟩
        replace h := bcF h hc48
        refine go ?_
        cases oi h
        exact ⟨trivial, rfl, ⟨s46a0, s46c0, ⟨rfl, rfl, rfl, rfl, rfl, trivial⟩, hS9.pick [0, 1, 2] rfl rfl⟩⟩
      intro x e w89 hM
      obtain ⟨rfl, hM⟩ := hM
      obtain ⟨s46a0, s46c0, hE, hS14⟩ := hM
      obtain ⟨e, rfl⟩ := hE.out
      have h := h88
      refine go ?_
      cases oi h
      exact ⟨rfl, ⟨s46a0, s46c0, ⟨rfl, rfl, rfl, rfl, rfl, trivial⟩, hS14.pick [1, 2] rfl rfl⟩⟩
    replace h := bcF h hc11
    refine go ?_
    cases oi h
    exact ⟨trivial, rfl, ⟨s9a0, s9c0, ⟨rfl, trivial⟩, hS5.pick [0, 1] rfl rfl⟩⟩
  intro x e w92 hM
  obtain ⟨rfl, hM⟩ := hM
  obtain ⟨s9a0, s9c0, hE, hS15⟩ := hM
  obtain ⟨e, rfl⟩ := hE.out
  have h := h91
  refine go ?_
  cases h
  exact And.intro trivial ⟨_, Res.one (resOne.t rfl), s9a0, s9c0, rfl, hS15.pick [0] rfl rfl⟩

theorem W_l_FnExactDoomed {w0 : World} {N : Nat} {x0 : DWorld} {r : Bool} (h : F_l_FnExactDoomed N x0 = some r) {a0_1 : Option Addr} {n0_1 c0_1 : Nat} (hn0_1 : n0_1 = x0.parts.length) (hr0_1 : rdS (Bor w0 []) w0 a0_1 c0_1 x0.parts) :
    Ret Tryz.prog 4 #[.agg #[.int .i64 x0.now, .slice a0_1 n0_1 c0_1]] w0 (fun v w => v = .bool r ∧ St w0 [] w []) := by
  subst hn0_1
  unfold F_l_FnExactDoomed at h
  refine Ret.fn Tryz.func4 fun e => ?_
  have hS1 := St.start w0
  refine go ?_
  refine LW.bo hS1 fun g1 w2 hS2 => ?_
  refine go ?_
  replace ⟨y3, hy3, h⟩ := obind h
  refine LW.c0 (W_l_szWorld hy3 rfl (hS2.rB hr0_1)) hS2 fun w4 hS3 => ?_
  refine go ?_
  refine CW.cond rfl (fun hc5 => ?_) (fun hc5 => ?_)
  · replace h := bcT h hc5
    refine go ?_
    cases h
    exact And.intro trivial ⟨_, Res.one (resOne.t rfl), rfl, hS3.pick [] rfl rfl⟩
  replace h := bcF h hc5
  refine go ?_
  replace ⟨y6, hy6, h⟩ := obind h
  refine LW.cl (W_l_toWorld hy6 rfl (hS3.rB hr0_1)) ?_
  rintro _ w9 ⟨a7, c8, rfl, hs⟩
  have hS4 := hS3.add hs
  replace ⟨y10, hy10, h⟩ := obind h
  refine LW.cl (W_s_Doomed hy10 rfl (hS4.rI 0 rfl)) ?_
  rintro _ w13 ⟨a11, c12, rfl, hs⟩
  have hS5 := hS4.add hs
  refine go ?_
  replace ⟨y14, hy14, h⟩ := obind h
  refine LW.cl (W_l_toWorld hy14 rfl (hS5.rB hr0_1)) ?_
  rintro _ w17 ⟨a15, c16, rfl, hs⟩
  have hS6 := hS5.add hs
  refine LW.al hS6 fun g18 w19 hS7 => ?_
  refine LW.st hS7 0 fun w20 hS8 => ?_
  refine go ?_
  replace ⟨y21, hy21, h⟩ := obind h
  refine LW.cl (W_i_Doomed hy21 rfl (hS8.rI 1 rfl)) ?_
  rintro _ w24 ⟨a22, c23, rfl, hs⟩
  have hS9 := hS8.add hs
  refine go ?_
  replace ⟨y25, hy25, h⟩ := obind h
  refine LW.c0 (W_l_eqIntS hy25 rfl (hS9.rI 0 rfl) rfl (hS9.rI 3 rfl)) hS9 fun w26 hS10 => ?_
  refine go ?_
  refine CW.fl [1, 4, 5, 6, 26] fun e => ?_
  refine CW.cond rfl (fun hc27 => ?_) (fun hc27 => ?_)
  · replace h := bcT h hc27
    refine go ?_
    cases h
    exact And.intro trivial ⟨_, Res.one (resOne.t rfl), rfl, hS10.pick [] rfl rfl⟩
  replace h := bcF h hc27
  refine go ?_
  refine CW.draw (by kernel_rfl) ?_
  have hS11 := hS10.drew
  refine AW.take (i := 0) rfl (by kernel_rfl) rfl rfl (Ldr.boxN (bt := 32) (fr := (0, 0)) (cs := [.int .i64 y14.now, .slice a15 y14.parts.length c16]) ag32 rfl rfl) (St.cell (h := hS11) (i := 1) rfl) ?_
  refine AW.take (i := 1) rfl (by kernel_rfl) rfl rfl (Ldr.boxN (bt := 24) (fr := (0, 0)) (cs := [.int .i64 x0.now, .slice a0_1 x0.parts.length c0_1]) ag24 rfl rfl) (St.cell (h := hS11) (i := 5) rfl) ?_
  replace ⟨y28, hy28, h⟩ := obind h
  have q := W_l_toWorld (w0 := w26.drew) hy28 rfl (hS11.rB hr0_1)
  refine AW.one (i := 2) (by kernel_rfl) ?_
  refine ⟨_, rfl, ?_⟩
  refine LW.call pl12 rfl rfl ?_
  refine Ret.mono q ?_
  rintro _ w31 ⟨a29, c30, rfl, hs⟩
  have hS12 := hS11.add hs
  refine LW.nil ⟨rfl, (.w (by kernel_rfl) (.c (St.cell (h := hS12) (i := 2) rfl) Kept.n)), ?_⟩
  replace ⟨y32, hy32, h⟩ := obind h
  have q := W_l_eqWorld (w0 := w31) hy32 rfl (hS12.rI 3 rfl) rfl (hS12.rI 0 rfl)
  refine AW.one (i := 3) (by kernel_rfl) ?_
  refine ⟨_, rfl, ?_⟩
  refine LW.call pl16 rfl rfl ?_
  refine Ret.mono q ?_
  rintro _ w33 ⟨rfl, hs⟩
  have hS13 := hS12.add hs
  refine LW.nil ⟨rfl, (.c (St.cell (h := hS13) (i := 6) rfl) (.w (by kernel_rfl) Kept.n)), ?_⟩
  refine AW.u (i := 4) rfl (by kernel_rfl) rfl rfl (Pur.p rfl) ?_
  refine AW.done (by kernel_rfl) ?_
  refine go ?_
  refine CW.cond rfl (fun hc34 => ?_) (fun hc34 => ?_)
  · replace h := bcT h hc34
    refine go ?_
    cases h
    exact And.intro trivial ⟨_, Res.one (resOne.t rfl), rfl, hS13.pick [] rfl rfl⟩
  replace h := bcF h hc34
  refine go ?_
  replace ⟨y35, hy35, h⟩ := obind h
  obtain ⟨q38, hy35', hq39⟩ := obind hy35
  obtain ⟨hl40, hq39⟩ := keepL_some hq39
  rw [Option.some.inj hq39] at hy35' hl40
  have hS14 := hS13.pick (M := [sl a15 c16 y14.parts] ++ [sl a29 c30 y28.parts, sl a22 c23 y21, bx g18 32 [.int .i64 y14.now, .slice a15 y14.parts.length c16], sl a11 c12 y10, sl a7 c8 y6.parts, bx g1 24 [.int .i64 x0.now, .slice a0_1 x0.parts.length c0_1]]) [3, 0, 1, 2, 4, 5, 6] rfl rfl
  obtain ⟨F36, hL37⟩ := St.lend (L := [sl a15 c16 y14.parts]) (M := [sl a29 c30 y28.parts, sl a22 c23 y21, bx g18 32 [.int .i64 y14.now, .slice a15 y14.parts.length c16], sl a11 c12 y10, sl a7 c8 y6.parts, bx g1 24 [.int .i64 x0.now, .slice a0_1 x0.parts.length c0_1]]) hS14
  refine LW.cl (W_l_markWorld hy35' rfl hL37.st) ?_
  rintro _ w41 ⟨rfl, hs⟩
  have hS15 := hL37.back _ _ hs
  refine gs ?_
  rw [show y14.parts.length = y35.2.length from hl40] at hS15
  obtain ⟨j42, hj42, h43⟩ := obind h
  refine CW.cut (fun e wb => En e [(1, .pointer (some ⟨g1, 0, none⟩)), (4, .slice a11 y10.length c12), (6, .slice a22 y21.length c23), (42, .bool j42)] ∧ St w0 [] wb [sl a22 c23 y21, sl a11 c12 y10, bx g1 24 [.int .i64 x0.now, .slice a0_1 x0.parts.length c0_1]]) ?_ ?_
  · have h := hj42
    refine go ?_
    rcases bcases (decide (y35.1 < 0)) with hc44 | hc44
    · replace h := bcT h hc44
      refine go ?_
      cases oi h
      exact ⟨⟨rfl, rfl, rfl, rfl, trivial⟩, hS15.pick [2, 4, 6] rfl rfl⟩
    replace h := bcF h hc44
    refine go ?_
    replace ⟨y45, hy45, h⟩ := obind h
    refine go ?_
    refine LW.c0 (W_l_eqIntS hy45 rfl (hS15.rI 2 rfl) rfl (hS15.rI 4 rfl)) hS15 fun w46 hS16 => ?_
    refine go ?_
    cases oi h
    exact ⟨⟨rfl, rfl, rfl, rfl, trivial⟩, hS16.pick [2, 4, 6] rfl rfl⟩
  rintro e w47 ⟨hE, hS17⟩
  obtain ⟨e, rfl⟩ := hE.out
  have h := h43
  refine go ?_
  refine CW.cond rfl (fun hc48 => ?_) (fun hc48 => ?_)
  · replace h := bcT h hc48
    refine go ?_
    cases h
    exact And.intro trivial ⟨_, Res.one (resOne.t rfl), rfl, hS17.pick [] rfl rfl⟩
  replace h := bcF h hc48
  refine go ?_
  replace ⟨y49, hy49, h⟩ := obind h
  obtain ⟨q52, hy49', hq53⟩ := obind hy49
  obtain ⟨hl54, hq53⟩ := keepL_some hq53
  rw [Option.some.inj hq53] at hy49' hl54
  have hS18 := hS17.pick (M := [sl a22 c23 y21] ++ [sl a11 c12 y10, bx g1 24 [.int .i64 x0.now, .slice a0_1 x0.parts.length c0_1]]) [0, 1, 2] rfl rfl
  obtain ⟨F50, hL51⟩ := St.lend (L := [sl a22 c23 y21]) (M := [sl a11 c12 y10, bx g1 24 [.int .i64 x0.now, .slice a0_1 x0.parts.length c0_1]]) hS18
  refine LW.cl (W_l_markIntS hy49' rfl hL51.st) ?_
  rintro _ w55 ⟨rfl, hs⟩
  have hS19 := hL51.back _ _ hs
  refine go ?_
  replace ⟨y56, hy56, h⟩ := obind h
  refine LW.c0 (W_l_heldIntS hy56 (show y21.length = y49.2.length from hl54) (hS19.rI 0 rfl)) hS19 fun w57 hS20 => ?_
  refine go ?_
  refine CW.fl [1, 4, 6, 8, 9, 50] fun e => ?_
  refine CW.cond rfl (fun hc58 => ?_) (fun hc58 => ?_)
  · replace h := bcT h hc58
    refine go ?_
    cases h
    exact And.intro trivial ⟨_, Res.one (resOne.t rfl), rfl, hS20.pick [] rfl rfl⟩
  replace h := bcF h hc58
  refine go ?_
  refine CW.cond rfl (fun hc59 => ?_) (fun hc59 => ?_)
  · replace h := bcT h hc59
    refine go ?_
    cases h
    exact And.intro trivial ⟨_, Res.one (resOne.t rfl), rfl, hS20.pick [] rfl rfl⟩
  replace h := bcF h hc59
  refine go ?_
  replace ⟨y60, hy60, h⟩ := obind h
  refine LW.cl (W_l_toWorld hy60 rfl (hS20.rB hr0_1)) ?_
  rintro _ w63 ⟨a61, c62, rfl, hs⟩
  have hS21 := hS20.add hs
  replace ⟨y64, hy64, h⟩ := obind h
  refine LW.cl (W_i_Doomed hy64 rfl (hS21.rI 0 rfl)) ?_
  rintro _ w67 ⟨a65, c66, rfl, hs⟩
  have hS22 := hS21.add hs
  refine go ?_
  replace ⟨y68, hy68, h⟩ := obind h
  refine LW.c0 (W_l_eqIntS hy68 rfl (hS22.rI 0 rfl) rfl (hS22.rI 3 rfl)) hS22 fun w69 hS23 => ?_
  refine go ?_
  refine CW.cond rfl (fun hc70 => ?_) (fun hc70 => ?_)
  · replace h := bcT h hc70
    refine go ?_
    cases h
    exact And.intro trivial ⟨_, Res.one (resOne.t rfl), rfl, hS23.pick [] rfl rfl⟩
  replace h := bcF h hc70
  refine go ?_
  replace ⟨y71, hy71, h⟩ := obind h
  refine LW.c0 (W_l_heldIntS hy71 (show y21.length = y49.2.length from hl54) (hS23.rI 2 rfl)) hS23 fun w72 hS24 => ?_
  refine go ?_
  refine CW.fl [8, 9, 65] fun e => ?_
  refine CW.cond rfl (fun hc73 => ?_) (fun hc73 => ?_)
  · replace h := bcT h hc73
    refine go ?_
    cases h
    exact And.intro trivial ⟨_, Res.one (resOne.t rfl), rfl, hS24.pick [] rfl rfl⟩
  replace h := bcF h hc73
  refine go ?_
  refine CW.cond rfl (fun hc74 => ?_) (fun hc74 => ?_)
  · replace h := bcT h hc74
    refine go ?_
    cases h
    exact And.intro trivial ⟨_, Res.one (resOne.t rfl), rfl, hS24.pick [] rfl rfl⟩
  replace h := bcF h hc74
  refine go ?_
  cases h
  exact And.intro trivial ⟨_, Res.one (resOne.t rfl), rfl, hS24.pick [] rfl rfl⟩

end Go.Kx
