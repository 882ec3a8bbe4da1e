/- Each call returns what the plain function says. Printed by drive.py. -/
import Derived.Test.YtfllimolhpblnaaGreatFa
import Derived.Test.YtfllimolhpblnaaGreatPu
import Derived.Test.YtfllimolhpblnaaGreatWa2
import Derived.Test.YtfllimolhpblnaaGreatWa3
import Derived.Test.YtfllimolhpblnaaGreatWa5
import Derived.Test.YtfllimolhpblnaaGreatWa16
import Derived.Test.YtfllimolhpblnaaGreatWa20
import Derived.Test.YtfllimolhpblnaaGreatWa21
namespace Go.Kx
open Go Go.RowKit Go.Proofs
set_option maxRecDepth 10000
set_option maxHeartbeats 2000000
set_option linter.unusedVariables false
set_option linter.unusedSimpArgs false
theorem W_s_RunNext {w0 : World} {N : Nat} {x0 : List Int} {x1 : Int} {x2 : Int} {r : Int} (h : F_s_RunNext N x0 x1 x2 = some r) {a0_0 : Option Addr} {n0_0 c0_0 : Nat} (hn0_0 : n0_0 = x0.length) (hr0_0 : rdS (Bor w0 []) w0 a0_0 c0_0 x0) :
    Ret Tryz.prog 88 #[.slice a0_0 n0_0 c0_0, .int .i64 x1, .int .i64 x2] w0 (fun v w => v = .int .i64 r ∧ St w0 [] w []) := by
  subst hn0_0
  unfold F_s_RunNext at h
  refine Ret.fn Tryz.func88 fun e => ?_
  have hS1 := St.start w0
  refine go ?_
  obtain ⟨o29, ho29, h30⟩ := obind h
  refine CW.mono (CW.iter (σ := Int × Int × Int) (ρ := (Int × Int × Int) ⊕ Int) (fun s1 e wb => En e [(0, .slice a0_0 x0.length c0_0), (1, .int .i64 x1), (2, .int .i64 x2), (7, .int .i64 s1.1), (8, .int .i64 s1.2.1), (9, .int .i64 s1.2.2)] ∧ St w0 [] wb []) (fun o x e wb => match o with | .inl s1 => x = .exit 0 ∧ En e [(7, .int .i64 s1.1), (8, .int .i64 s1.2.1)] ∧ St w0 [] wb [] | .inr r => x = .ret ∧ ∃ u, u = r ∧ ∃ v, Res Tryz.prog Tryz.f88.results e wb v ∧ v = .int .i64 u ∧ St w0 [] wb []) ?_ N (-1, -1, 0) _ _ _ ⟨⟨rfl, rfl, rfl, rfl, rfl, rfl, trivial⟩, hS1.pick [] rfl rfl⟩ ho29) ?_
  · intro s1 e w2 o hM h
    obtain ⟨hE, hS2⟩ := hM
    obtain ⟨e, rfl⟩ := hE.out
    refine go ?_
    refine CW.cond rfl (fun hc3 => ?_) (fun hc3 => ?_)
    · replace h := bcT h hc3
      refine go ?_
      replace ⟨y4, hy4, h⟩ := obind h
      obtain ⟨b7, o8, cs9, hae, hb12, hp5, hq6, hd10, hk11⟩ := hr0_0.idx hy4
      subst hae
      obtain rfl := hd10
      refine LW.u (Pur.ix Tryz.underlying28 sz3 rfl rfl hp5 hq6) rfl ?_
      refine LW.l (Ldr.old w0 ag3 rfl (hk11 0 _ rfl)) (hS2.same _ hb12.1 hb12.2) rfl ?_
      refine go ?_
      refine CW.fl [0, 1, 2, 7, 8, 9, 20] fun e => ?_
      refine CW.cond rfl (fun hc13 => ?_) (fun hc13 => ?_)
      · replace h := bcT h hc13
        refine go ?_
        cases oi h
        exact ⟨rfl, ⟨⟨rfl, rfl, rfl, rfl, rfl, rfl, trivial⟩, hS2.pick [] rfl rfl⟩⟩
      replace h := bcF h hc13
      refine go ?_
      refine LW.u (Pur.ix Tryz.underlying28 sz3 rfl rfl hp5 hq6) rfl ?_
      refine LW.l (Ldr.old w0 ag3 rfl (hk11 0 _ rfl)) (hS2.same _ hb12.1 hb12.2) rfl ?_
      refine go ?_
      refine CW.cond rfl (fun hc14 => ?_) (fun hc14 => ?_)
      · replace h := bcT h hc14
        refine go ?_
        cases oi h
        exact ⟨trivial, rfl, _, rfl, ⟨_, Res.one (resOne.t rfl), rfl, hS2.pick [] rfl rfl⟩⟩
      replace h := bcF h hc14
      refine gs ?_
      obtain ⟨j15, hj15, h16⟩ := obind h
      refine CW.cut (fun e wb => En e [(0, .slice (some ⟨b7, o8, none⟩) x0.length c0_0), (1, .int .i64 x1), (2, .int .i64 x2), (7, .int .i64 s1.1), (8, .int .i64 s1.2.1), (9, .int .i64 s1.2.2), (37, .bool j15)] ∧ St w0 [] wb []) ?_ ?_
      · have h := hj15
        refine go ?_
        rcases bcases (decide (s1.1 < 0)) with hc17 | hc17
        · replace h := bcT h hc17
          refine go ?_
          cases oi h
          exact ⟨⟨rfl, rfl, rfl, rfl, rfl, rfl, rfl, trivial⟩, hS2.pick [] rfl rfl⟩
        replace h := bcF h hc17
        refine go ?_
        refine LW.u (Pur.ix Tryz.underlying28 sz3 rfl rfl hp5 hq6) rfl ?_
        refine go ?_
        refine LW.l (Ldr.old w0 ag3 rfl (hk11 0 _ rfl)) (hS2.same _ hb12.1 hb12.2) rfl ?_
        refine go ?_
        cases oi h
        exact ⟨⟨rfl, rfl, rfl, rfl, rfl, rfl, rfl, trivial⟩, hS2.pick [] rfl rfl⟩
      rintro e w18 ⟨hE, hS3⟩
      obtain ⟨e, rfl⟩ := hE.out
      have h := h16
      refine gs ?_
      obtain ⟨j19, hj19, h20⟩ := obind h
      refine CW.cut (fun e wb => En e [(0, .slice (some ⟨b7, o8, none⟩) x0.length c0_0), (1, .int .i64 x1), (2, .int .i64 x2), (7, .int .i64 j19), (8, .int .i64 s1.2.1), (9, .int .i64 s1.2.2)] ∧ St w0 [] wb []) ?_ ?_
      · have h := hj19
        refine CW.cond rfl (fun hc21 => ?_) (fun hc21 => ?_)
        · replace h := bcT h hc21
          refine go ?_
          refine LW.u (Pur.ix Tryz.underlying28 sz3 rfl rfl hp5 hq6) rfl ?_
          refine LW.l (Ldr.old w0 ag3 rfl (hk11 0 _ rfl)) (hS3.same _ hb12.1 hb12.2) rfl ?_
          refine go ?_
          cases oi h
          exact ⟨⟨rfl, rfl, rfl, rfl, rfl, rfl, trivial⟩, hS3.pick [] rfl rfl⟩
        replace h := bcF h hc21
        refine go ?_
        cases oi h
        exact ⟨⟨rfl, rfl, rfl, rfl, rfl, rfl, trivial⟩, hS3.pick [] rfl rfl⟩
      rintro e w22 ⟨hE, hS4⟩
      obtain ⟨e, rfl⟩ := hE.out
      have h := h20
      refine gs ?_
      obtain ⟨j23, hj23, h24⟩ := obind h
      refine CW.cut (fun e wb => En e [(0, .slice (some ⟨b7, o8, none⟩) x0.length c0_0), (1, .int .i64 x1), (2, .int .i64 x2), (7, .int .i64 j19), (8, .int .i64 s1.2.1), (9, .int .i64 s1.2.2), (59, .bool j23)] ∧ St w0 [] wb []) ?_ ?_
      · have h := hj23
        refine go ?_
        refine LW.u (Pur.ix Tryz.underlying28 sz3 rfl rfl hp5 hq6) rfl ?_
        refine LW.l (Ldr.old w0 ag3 rfl (hk11 0 _ rfl)) (hS4.same _ hb12.1 hb12.2) rfl ?_
        refine go ?_
        rcases bcases (decide (y4 > x1)) with hc25 | hc25
        · replace h := bcT h hc25
          refine go ?_
          rcases bcases (decide (s1.2.1 < 0)) with hc26 | hc26
          · replace h := bcT h hc26
            refine go ?_
            cases oi h
            exact ⟨⟨rfl, rfl, rfl, rfl, rfl, rfl, rfl, trivial⟩, hS4.pick [] rfl rfl⟩
          replace h := bcF h hc26
          refine go ?_
          refine LW.u (Pur.ix Tryz.underlying28 sz3 rfl rfl hp5 hq6) rfl ?_
          refine go ?_
          refine LW.l (Ldr.old w0 ag3 rfl (hk11 0 _ rfl)) (hS4.same _ hb12.1 hb12.2) rfl ?_
          refine go ?_
          cases oi h
          exact ⟨⟨rfl, rfl, rfl, rfl, rfl, rfl, rfl, trivial⟩, hS4.pick [] rfl rfl⟩
        replace h := bcF h hc25
        refine go ?_
        cases oi h
        exact ⟨⟨rfl, rfl, rfl, rfl, rfl, rfl, rfl, trivial⟩, hS4.pick [] rfl rfl⟩
      rintro e w27 ⟨hE, hS5⟩
      obtain ⟨e, rfl⟩ := hE.out
      have h := h24
      refine go ?_
      refine CW.cond rfl (fun hc28 => ?_) (fun hc28 => ?_)
      · replace h := bcT h hc28
        refine go ?_
        refine LW.u (Pur.ix Tryz.underlying28 sz3 rfl rfl hp5 hq6) rfl ?_
        refine LW.l (Ldr.old w0 ag3 rfl (hk11 0 _ rfl)) (hS5.same _ hb12.1 hb12.2) rfl ?_
        refine go ?_
        cases oi h
        exact ⟨rfl, ⟨⟨rfl, rfl, rfl, rfl, rfl, rfl, trivial⟩, hS5.pick [] rfl rfl⟩⟩
      replace h := bcF h hc28
      refine go ?_
      cases oi h
      exact ⟨rfl, ⟨⟨rfl, rfl, rfl, rfl, rfl, rfl, trivial⟩, hS5.pick [] rfl rfl⟩⟩
    replace h := bcF h hc3
    refine go ?_
    cases oi h
    exact ⟨trivial, rfl, ⟨⟨rfl, rfl, trivial⟩, hS2.pick [] rfl rfl⟩⟩
  intro x e w31 hM
  rcases o29 with o29 | r33
  · obtain ⟨rfl, hM⟩ := hM
    obtain ⟨hE, hS6⟩ := hM
    obtain ⟨e, rfl⟩ := hE.out
    have h := h30
    refine go ?_
    refine CW.cond rfl (fun hc32 => ?_) (fun hc32 => ?_)
    · replace h := bcT h hc32
      refine go ?_
      cases h
      exact And.intro trivial ⟨_, Res.one (resOne.t rfl), rfl, hS6.pick [] rfl rfl⟩
    replace h := bcF h hc32
    refine go ?_
    cases h
    exact And.intro trivial ⟨_, Res.one (resOne.t rfl), rfl, hS6.pick [] rfl rfl⟩
  obtain ⟨rfl, u, rfl, hM⟩ := hM
  cases h30
  exact And.intro trivial hM

theorem W_i_RunNext {w0 : World} {N : Nat} {x0 : List Int} {x1 : Int} {x2 : Int} {r : Int} (h : F_i_RunNext N x0 x1 x2 = some r) {a0_0 : Option Addr} {n0_0 c0_0 : Nat} (hn0_0 : n0_0 = x0.length) (hr0_0 : rdS (Bor w0 []) w0 a0_0 c0_0 x0) :
    Ret Tryz.prog 92 #[.slice a0_0 n0_0 c0_0, .int .i64 x1, .int .i64 x2] w0 (fun v w => v = .int .i64 r ∧ St w0 [] w []) := by
  subst hn0_0
  unfold F_i_RunNext at h
  refine Ret.fn Tryz.func92 fun e => ?_
  have hS1 := St.start w0
  refine go ?_
  obtain ⟨o29, ho29, h30⟩ := obind h
  refine CW.mono (CW.iter (σ := Int × Int × Int) (ρ := (Int × Int × Int) ⊕ Int) (fun s1 e wb => En e [(1, .int .i64 x1), (2, .int .i64 x2), (7, .int .i64 s1.1), (8, .int .i64 s1.2.1), (11, .slice a0_0 x0.length c0_0), (12, .int .i64 (x0.length : Int)), (13, .int .i64 s1.2.2)] ∧ St w0 [] wb []) (fun o x e wb => match o with | .inl s1 => x = .exit 0 ∧ En e [(7, .int .i64 s1.1), (8, .int .i64 s1.2.1)] ∧ St w0 [] wb [] | .inr r => x = .ret ∧ ∃ u, u = r ∧ ∃ v, Res Tryz.prog Tryz.f92.results e wb v ∧ v = .int .i64 u ∧ St w0 [] wb []) ?_ N (-1, -1, 0) _ _ _ ⟨⟨rfl, rfl, rfl, rfl, rfl, rfl, rfl, trivial⟩, hS1.pick [] rfl rfl⟩ ho29) ?_
  · intro s1 e w2 o hM h
    obtain ⟨hE, hS2⟩ := hM
    obtain ⟨e, rfl⟩ := hE.out
    refine go ?_
    refine CW.cond rfl (fun hc3 => ?_) (fun hc3 => ?_)
    · replace h := bcT h hc3
      refine go ?_
      replace ⟨y4, hy4, h⟩ := obind h
      obtain ⟨b7, o8, cs9, hae, hb12, hp5, hq6, hd10, hk11⟩ := hr0_0.idx hy4
      subst hae
      obtain rfl := hd10
      refine LW.u (Pur.ix Tryz.underlying28 sz3 rfl rfl hp5 hq6) rfl ?_
      refine LW.l (Ldr.old w0 ag3 rfl (hk11 0 _ rfl)) (hS2.same _ hb12.1 hb12.2) rfl ?_
      refine go ?_
      refine CW.fl [1, 2, 7, 8, 10, 11, 12, 13, 18] fun e => ?_
      refine CW.cond rfl (fun hc13 => ?_) (fun hc13 => ?_)
      · replace h := bcT h hc13
        refine go ?_
        cases oi h
        exact ⟨rfl, ⟨⟨rfl, rfl, rfl, rfl, rfl, rfl, rfl, trivial⟩, hS2.pick [] rfl rfl⟩⟩
      replace h := bcF h hc13
      refine go ?_
      refine CW.cond rfl (fun hc14 => ?_) (fun hc14 => ?_)
      · replace h := bcT h hc14
        refine go ?_
        cases oi h
        exact ⟨trivial, rfl, _, rfl, ⟨_, Res.one (resOne.t rfl), rfl, hS2.pick [] rfl rfl⟩⟩
      replace h := bcF h hc14
      refine gs ?_
      obtain ⟨j15, hj15, h16⟩ := obind h
      refine CW.cut (fun e wb => En e [(1, .int .i64 x1), (2, .int .i64 x2), (7, .int .i64 s1.1), (8, .int .i64 s1.2.1), (10, .int .i64 y4), (11, .slice (some ⟨b7, o8, none⟩) x0.length c0_0), (12, .int .i64 (x0.length : Int)), (13, .int .i64 s1.2.2), (29, .bool j15)] ∧ St w0 [] wb []) ?_ ?_
      · have h := hj15
        refine go ?_
        rcases bcases (decide (s1.1 < 0)) with hc17 | hc17
        · replace h := bcT h hc17
          refine go ?_
          cases oi h
          exact ⟨⟨rfl, rfl, rfl, rfl, rfl, rfl, rfl, rfl, rfl, trivial⟩, hS2.pick [] rfl rfl⟩
        replace h := bcF h hc17
        refine go ?_
        cases oi h
        exact ⟨⟨rfl, rfl, rfl, rfl, rfl, rfl, rfl, rfl, rfl, trivial⟩, hS2.pick [] rfl rfl⟩
      rintro e w18 ⟨hE, hS3⟩
      obtain ⟨e, rfl⟩ := hE.out
      have h := h16
      refine gs ?_
      obtain ⟨j19, hj19, h20⟩ := obind h
      refine CW.cut (fun e wb => En e [(1, .int .i64 x1), (2, .int .i64 x2), (7, .int .i64 j19), (8, .int .i64 s1.2.1), (10, .int .i64 y4), (11, .slice (some ⟨b7, o8, none⟩) x0.length c0_0), (12, .int .i64 (x0.length : Int)), (13, .int .i64 s1.2.2)] ∧ St w0 [] wb []) ?_ ?_
      · have h := hj19
        refine CW.cond rfl (fun hc21 => ?_) (fun hc21 => ?_)
        · replace h := bcT h hc21
          refine go ?_
          cases oi h
          exact ⟨⟨rfl, rfl, rfl, rfl, rfl, rfl, rfl, rfl, trivial⟩, hS3.pick [] rfl rfl⟩
        replace h := bcF h hc21
        refine go ?_
        cases oi h
        exact ⟨⟨rfl, rfl, rfl, rfl, rfl, rfl, rfl, rfl, trivial⟩, hS3.pick [] rfl rfl⟩
      rintro e w22 ⟨hE, hS4⟩
      obtain ⟨e, rfl⟩ := hE.out
      have h := h20
      refine gs ?_
      obtain ⟨j23, hj23, h24⟩ := obind h
      refine CW.cut (fun e wb => En e [(1, .int .i64 x1), (2, .int .i64 x2), (7, .int .i64 j19), (8, .int .i64 s1.2.1), (10, .int .i64 y4), (11, .slice (some ⟨b7, o8, none⟩) x0.length c0_0), (12, .int .i64 (x0.length : Int)), (13, .int .i64 s1.2.2), (42, .bool j23)] ∧ St w0 [] wb []) ?_ ?_
      · have h := hj23
        refine go ?_
        rcases bcases (decide (y4 > x1)) with hc25 | hc25
        · replace h := bcT h hc25
          refine go ?_
          rcases bcases (decide (s1.2.1 < 0)) with hc26 | hc26
          · replace h := bcT h hc26
            refine go ?_
            cases oi h
            exact ⟨⟨rfl, rfl, rfl, rfl, rfl, rfl, rfl, rfl, rfl, trivial⟩, hS4.pick [] rfl rfl⟩
          replace h := bcF h hc26
          refine go ?_
          cases oi h
          exact ⟨⟨rfl, rfl, rfl, rfl, rfl, rfl, rfl, rfl, rfl, trivial⟩, hS4.pick [] rfl rfl⟩
        replace h := bcF h hc25
        refine go ?_
        cases oi h
        exact ⟨⟨rfl, rfl, rfl, rfl, rfl, rfl, rfl, rfl, rfl, trivial⟩, hS4.pick [] rfl rfl⟩
      rintro e w27 ⟨hE, hS5⟩
      obtain ⟨e, rfl⟩ := hE.out
      have h := h24
      refine go ?_
      refine CW.cond rfl (fun hc28 => ?_) (fun hc28 => ?_)
      · replace h := bcT h hc28
        refine go ?_
        cases oi h
        exact ⟨rfl, ⟨⟨rfl, rfl, rfl, rfl, rfl, rfl, rfl, trivial⟩, hS5.pick [] rfl rfl⟩⟩
      replace h := bcF h hc28
      refine go ?_
      cases oi h
      exact ⟨rfl, ⟨⟨rfl, rfl, rfl, rfl, rfl, rfl, rfl, trivial⟩, hS5.pick [] rfl rfl⟩⟩
    replace h := bcF h hc3
    refine go ?_
    cases oi h
    exact ⟨trivial, rfl, ⟨⟨rfl, rfl, trivial⟩, hS2.pick [] rfl rfl⟩⟩
  intro x e w31 hM
  rcases o29 with o29 | r33
  · obtain ⟨rfl, hM⟩ := hM
    obtain ⟨hE, hS6⟩ := hM
    obtain ⟨e, rfl⟩ := hE.out
    have h := h30
    refine go ?_
    refine CW.cond rfl (fun hc32 => ?_) (fun hc32 => ?_)
    · replace h := bcT h hc32
      refine go ?_
      cases h
      exact And.intro trivial ⟨_, Res.one (resOne.t rfl), rfl, hS6.pick [] rfl rfl⟩
    replace h := bcF h hc32
    refine go ?_
    cases h
    exact And.intro trivial ⟨_, Res.one (resOne.t rfl), rfl, hS6.pick [] rfl rfl⟩
  obtain ⟨rfl, u, rfl, hM⟩ := hM
  cases h30
  exact And.intro trivial hM

theorem W_s_AmtFits {w0 : World} {N : Nat} {x0 : DAmt} {x1 : DAmt} {r : Bool} (h : F_s_AmtFits N x0 x1 = some r) :
    Ret Tryz.prog 200 #[.agg #[.int .i64 x0.pages, .int .i64 x0.rent, .int .i64 x0.cpu], .agg #[.int .i64 x1.pages, .int .i64 x1.rent, .int .i64 x1.cpu]] w0 (fun v w => v = .bool r ∧ St w0 [] w []) := by
  unfold F_s_AmtFits at h
  refine Ret.fn Tryz.func200 fun e => ?_
  have hS1 := St.start w0
  refine go ?_
  refine LW.bo hS1 fun g1 w2 hS2 => ?_
  refine LW.bo hS2 fun g3 w4 hS3 => ?_
  refine go ?_
  replace ⟨y5, hy5, h⟩ := obind h
  refine LW.c0 (W_s_AmtOk hy5) hS3 fun w6 hS4 => ?_
  refine go ?_
  rcases bcases y5 with hc7 | hc7
  · replace h := bcT h hc7
    refine go ?_
    replace ⟨y8, hy8, h⟩ := obind h
    refine go ?_
    refine LW.c0 (W_s_AmtOk hy8) hS4 fun w9 hS5 => ?_
    refine go ?_
    rcases bcases y8 with hc10 | hc10
    · replace h := bcT h hc10
      refine go ?_
      rcases bcases (decide (x0.pages ≤ x1.pages)) with hc11 | hc11
      · replace h := bcT h hc11
        refine go ?_
        refine LW.fl [2, 3, 25] fun e => ?_
        rcases bcases (decide (x0.rent ≤ x1.rent)) with hc12 | hc12
        · replace h := bcT h hc12
          refine go ?_
          cases h
          exact And.intro trivial ⟨_, Res.one (resOne.t rfl), rfl, hS5.pick [] rfl rfl⟩
        replace h := bcF h hc12
        refine go ?_
        cases h
        exact And.intro trivial ⟨_, Res.one (resOne.t rfl), rfl, hS5.pick [] rfl rfl⟩
      replace h := bcF h hc11
      refine go ?_
      cases h
      exact And.intro trivial ⟨_, Res.one (resOne.t rfl), rfl, hS5.pick [] rfl rfl⟩
    replace h := bcF h hc10
    refine go ?_
    cases h
    exact And.intro trivial ⟨_, Res.one (resOne.t rfl), rfl, hS5.pick [] rfl rfl⟩
  replace h := bcF h hc7
  refine go ?_
  cases h
  exact And.intro trivial ⟨_, Res.one (resOne.t rfl), rfl, hS4.pick [] rfl rfl⟩

theorem W_i_AmtFits {w0 : World} {N : Nat} {x0 : DAmt} {x1 : DAmt} {r : Bool} (h : F_i_AmtFits N x0 x1 = some r) :
    Ret Tryz.prog 201 #[.agg #[.int .i64 x0.pages, .int .i64 x0.rent, .int .i64 x0.cpu], .agg #[.int .i64 x1.pages, .int .i64 x1.rent, .int .i64 x1.cpu]] w0 (fun v w => v = .bool r ∧ St w0 [] w []) := by
  unfold F_i_AmtFits at h
  refine Ret.fn Tryz.func201 fun e => ?_
  have hS1 := St.start w0
  refine go ?_
  refine LW.bo hS1 fun g1 w2 hS2 => ?_
  refine LW.bo hS2 fun g3 w4 hS3 => ?_
  refine go ?_
  replace ⟨y5, hy5, h⟩ := obind h
  refine LW.c0 (W_i_AmtOk hy5) hS3 fun w6 hS4 => ?_
  refine go ?_
  rcases bcases y5 with hc7 | hc7
  · replace h := bcT h hc7
    refine go ?_
    replace ⟨y8, hy8, h⟩ := obind h
    refine go ?_
    refine LW.c0 (W_i_AmtOk hy8) hS4 fun w9 hS5 => ?_
    refine go ?_
    rcases bcases y8 with hc10 | hc10
    · replace h := bcT h hc10
      refine go ?_
      rcases bcases (decide (x0.pages ≤ x1.pages)) with hc11 | hc11
      · replace h := bcT h hc11
        refine go ?_
        refine LW.fl [2, 3, 25] fun e => ?_
        rcases bcases (decide (x0.rent ≤ x1.rent)) with hc12 | hc12
        · replace h := bcT h hc12
          refine go ?_
          cases h
          exact And.intro trivial ⟨_, Res.one (resOne.t rfl), rfl, hS5.pick [] rfl rfl⟩
        replace h := bcF h hc12
        refine go ?_
        cases h
        exact And.intro trivial ⟨_, Res.one (resOne.t rfl), rfl, hS5.pick [] rfl rfl⟩
      replace h := bcF h hc11
      refine go ?_
      cases h
      exact And.intro trivial ⟨_, Res.one (resOne.t rfl), rfl, hS5.pick [] rfl rfl⟩
    replace h := bcF h hc10
    refine go ?_
    cases h
    exact And.intro trivial ⟨_, Res.one (resOne.t rfl), rfl, hS5.pick [] rfl rfl⟩
  replace h := bcF h hc7
  refine go ?_
  cases h
  exact And.intro trivial ⟨_, Res.one (resOne.t rfl), rfl, hS4.pick [] rfl rfl⟩

theorem W_s_AmtSub {w0 : World} {N : Nat} {x0 : DAmt} {x1 : DAmt} {r : DAmt × Bool} (h : F_s_AmtSub N x0 x1 = some r) :
    Ret Tryz.prog 162 #[.agg #[.int .i64 x0.pages, .int .i64 x0.rent, .int .i64 x0.cpu], .agg #[.int .i64 x1.pages, .int .i64 x1.rent, .int .i64 x1.cpu]] w0 (fun v w => v = .tuple #[.agg #[.int .i64 r.1.pages, .int .i64 r.1.rent, .int .i64 r.1.cpu], .bool r.2] ∧ St w0 [] w []) := by
  unfold F_s_AmtSub at h
  refine Ret.fn Tryz.func162 fun e => ?_
  have hS1 := St.start w0
  refine go ?_
  refine LW.bo hS1 fun g1 w2 hS2 => ?_
  refine LW.bo hS2 fun g3 w4 hS3 => ?_
  refine LW.al hS3 fun g5 w6 hS4 => ?_
  refine go ?_
  replace ⟨y7, hy7, h⟩ := obind h
  refine LW.c0 (W_s_AmtFits hy7) hS4 fun w8 hS5 => ?_
  refine go ?_
  refine CW.cond rfl (fun hc9 => ?_) (fun hc9 => ?_)
  · replace h := bcT h hc9
    refine go ?_
    refine LW.st hS5 0 fun w10 hS6 => ?_
    refine go ?_
    cases h
    exact And.intro trivial ⟨_, Res.two (resOne.b hS6 0 rfl ag64 rfl rfl) (resOne.t rfl), rfl, hS6.pick [] rfl rfl⟩
  replace h := bcF h hc9
  refine go ?_
  refine LW.u (Pur.build (vs := [(0, .int .i64 (IntKind.i64.wrap (x0.pages - x1.pages))), (1, .int .i64 (IntKind.i64.wrap (x0.rent - x1.rent))), (2, .int .i64 (IntKind.i64.wrap (x0.cpu - x1.cpu)))]) (cs := #[.int .i64 (IntKind.i64.wrap (x0.pages - x1.pages)), .int .i64 (IntKind.i64.wrap (x0.rent - x1.rent)), .int .i64 (IntKind.i64.wrap (x0.cpu - x1.cpu))]) rfl (by kernel_rfl)) rfl ?_
  refine LW.st hS5 0 fun w11 hS7 => ?_
  refine go ?_
  cases h
  exact And.intro trivial ⟨_, Res.two (resOne.b hS7 0 rfl ag64 rfl rfl) (resOne.t rfl), rfl, hS7.pick [] rfl rfl⟩

theorem W_i_AmtSub {w0 : World} {N : Nat} {x0 : DAmt} {x1 : DAmt} {r : DAmt × Bool} (h : F_i_AmtSub N x0 x1 = some r) :
    Ret Tryz.prog 164 #[.agg #[.int .i64 x0.pages, .int .i64 x0.rent, .int .i64 x0.cpu], .agg #[.int .i64 x1.pages, .int .i64 x1.rent, .int .i64 x1.cpu]] w0 (fun v w => v = .tuple #[.agg #[.int .i64 r.1.pages, .int .i64 r.1.rent, .int .i64 r.1.cpu], .bool r.2] ∧ St w0 [] w []) := by
  unfold F_i_AmtSub at h
  refine Ret.fn Tryz.func164 fun e => ?_
  have hS1 := St.start w0
  refine go ?_
  refine LW.bo hS1 fun g1 w2 hS2 => ?_
  refine LW.bo hS2 fun g3 w4 hS3 => ?_
  refine LW.al hS3 fun g5 w6 hS4 => ?_
  refine go ?_
  replace ⟨y7, hy7, h⟩ := obind h
  refine LW.c0 (W_i_AmtFits hy7) hS4 fun w8 hS5 => ?_
  refine go ?_
  refine CW.cond rfl (fun hc9 => ?_) (fun hc9 => ?_)
  · replace h := bcT h hc9
    refine go ?_
    refine LW.st hS5 0 fun w10 hS6 => ?_
    refine go ?_
    cases h
    exact And.intro trivial ⟨_, Res.two (resOne.b hS6 0 rfl ag64 rfl rfl) (resOne.t rfl), rfl, hS6.pick [] rfl rfl⟩
  replace h := bcF h hc9
  refine go ?_
  refine LW.u (Pur.build (vs := [(0, .int .i64 (IntKind.i64.wrap (x0.pages - x1.pages))), (1, .int .i64 (IntKind.i64.wrap (x0.rent - x1.rent))), (2, .int .i64 (IntKind.i64.wrap (x0.cpu - x1.cpu)))]) (cs := #[.int .i64 (IntKind.i64.wrap (x0.pages - x1.pages)), .int .i64 (IntKind.i64.wrap (x0.rent - x1.rent)), .int .i64 (IntKind.i64.wrap (x0.cpu - x1.cpu))]) rfl (by kernel_rfl)) rfl ?_
  refine LW.st hS5 0 fun w11 hS7 => ?_
  refine go ?_
  cases h
  exact And.intro trivial ⟨_, Res.two (resOne.b hS7 0 rfl ag64 rfl rfl) (resOne.t rfl), rfl, hS7.pick [] rfl rfl⟩

theorem W_s_TreePay {w0 : World} {N : Nat} {x0 : List DRes} {x1 : Int} {x2 : DAmt} {r : (List DRes) × Bool} (h : F_s_TreePay N x0 x1 x2 = some r) {a0_0 : Option Addr} {n0_0 c0_0 : Nat} (hn0_0 : n0_0 = x0.length) (hr0_0 : rdS (Bor w0 []) w0 a0_0 c0_0 x0) :
    Ret Tryz.prog 90 #[.slice a0_0 n0_0 c0_0, .int .i64 x1, .agg #[.int .i64 x2.pages, .int .i64 x2.rent, .int .i64 x2.cpu]] w0 (fun v w => ∃ ar0 cr0, v = .tuple #[.slice ar0 r.1.length cr0, .bool r.2] ∧ St w0 [] w [sl ar0 cr0 r.1]) := by
  subst hn0_0
  unfold F_s_TreePay at h
  refine Ret.fn Tryz.func90 fun e => ?_
  have hS1 := St.start w0
  refine go ?_
  refine LW.bo hS1 fun g1 w2 hS2 => ?_
  refine go ?_
  replace ⟨y3, hy3, h⟩ := obind h
  refine LW.cl (W_s_l6Copy hy3 rfl (hS2.rB hr0_0)) ?_
  rintro _ w6 ⟨a4, c5, rfl, hs⟩
  have hS3 := hS2.add hs
  refine go ?_
  replace ⟨y7, hy7, h⟩ := obind h
  refine LW.c0 (W_s_l6Live hy7 rfl (hS3.rB hr0_0)) hS3 fun w8 hS4 => ?_
  refine go ?_
  refine CW.cond rfl (fun hc9 => ?_) (fun hc9 => ?_)
  · replace h := bcT h hc9
    refine go ?_
    cases h
    exact And.intro trivial ⟨_, Res.two (resOne.t rfl) (resOne.t rfl), a4, c5, rfl, hS4.pick [0] rfl rfl⟩
  replace h := bcF h hc9
  refine gs ?_
  obtain ⟨j10, hj10, h11⟩ := obind h
  refine CW.cut (fun e wb => ∃ (j10g9 : Nat), En e [(1, .int .i64 x1), (8, .slice a4 y3.length c5), (9, .pointer (some ⟨j10g9, 0, none⟩)), (10, .bool j10.2.2.2)] ∧ St w0 [] wb [sl a4 c5 y3, bx j10g9 64 [.int .i64 j10.1, .int .i64 j10.2.1, .int .i64 j10.2.2.1]]) ?_ ?_
  · have h := hj10
    refine CW.draw (by kernel_rfl) ?_
    have hS5 := hS4.drew
    refine AW.u (i := 0) rfl (by kernel_rfl) rfl rfl (Pur.p rfl) ?_
    refine AW.u (i := 1) rfl (by kernel_rfl) rfl rfl (Pur.p rfl) ?_
    replace ⟨y12, hy12, h⟩ := obind h
    obtain ⟨b15, o16, cs17, hae, hb20, hp13, hq14, hd18, hk19⟩ := hr0_0.idx hy12
    subst hae
    obtain rfl := hd18
    refine AW.u (i := 2) rfl (by kernel_rfl) rfl rfl (Pur.ix Tryz.underlying58 sz152 rfl rfl hp13 hq14) ?_
    refine AW.u (i := 3) rfl (by kernel_rfl) rfl rfl (Pur.fa fo152_2 rfl) ?_
    refine AW.take (i := 4) rfl (by kernel_rfl) rfl rfl (Ldr.oldN w0 ag64 rfl rfl (fun j u hu => oldsub (m := 3) hk19 2 hu)) (hS5.same _ hb20.1 hb20.2) ?_
    refine AW.take (i := 5) rfl (by kernel_rfl) rfl rfl (Ldr.boxN (bt := 64) (fr := (0, 0)) (cs := [.int .i64 x2.pages, .int .i64 x2.rent, .int .i64 x2.cpu]) ag64 rfl rfl) (St.cell (h := hS5) (i := 1) rfl) ?_
    replace ⟨y21, hy21, h⟩ := obind h
    refine AW.all (rs := [6, 10]) (by kernel_rfl) (by simp) ⟨?_, ?_, trivial⟩
    · have q := W_s_AmtSub (w0 := w8.drew) hy21
      refine ⟨_, rfl, ?_⟩
      refine LW.call pl162 rfl rfl ?_
      refine Ret.mono q ?_
      rintro _ w26 ⟨rfl, hs⟩
      have hS6 := hS5.add hs
      refine LW.nil ⟨rfl, (.w (by kernel_rfl) (.w (by kernel_rfl) Kept.n)), ?_⟩
      refine AW.u (i := 7) rfl (by kernel_rfl) rfl rfl (Pur.p rfl) ?_
      refine AW.u (i := 8) rfl (by kernel_rfl) rfl rfl (Pur.p rfl) ?_
      refine AW.u (i := 9) rfl (by kernel_rfl) rfl rfl (Pur.p rfl) ?_
      refine AW.one (i := 10) (by kernel_rfl) ?_
      refine ⟨_, rfl, ?_⟩
      refine LW.al hS6 fun g27 w28 hS7 => ?_
      refine LW.nil ⟨rfl, (.c (St.cell (h := hS7) (i := 2) rfl) (.c (hS7.same _ hb20.1 hb20.2) Kept.n)), ?_⟩
      refine AW.one (i := 11) (by kernel_rfl) ?_
      refine ⟨_, rfl, ?_⟩
      refine LW.st hS7 0 fun w29 hS8 => ?_
      refine LW.nil ⟨rfl, (.w (by kernel_rfl) (.w (by kernel_rfl) Kept.n)), ?_⟩
      refine AW.u (i := 12) rfl (by kernel_rfl) rfl rfl (Pur.p rfl) ?_
      refine AW.done (by kernel_rfl) ?_
      cases oi h
      exact ⟨g27, ⟨rfl, rfl, rfl, rfl, trivial⟩, hS8.pick [1, 0] rfl rfl⟩
    refine ⟨_, rfl, ?_⟩
    refine LW.al hS5 fun g30 w31 hS9 => ?_
    refine LW.nil ⟨rfl, (.c (St.cell (h := hS9) (i := 2) rfl) (.c (hS9.same _ hb20.1 hb20.2) Kept.n)), ?_⟩
    have q := W_s_AmtSub (w0 := w31) hy21
    refine AW.one (i := 6) (by kernel_rfl) ?_
    refine ⟨_, rfl, ?_⟩
    refine LW.call pl162 rfl rfl ?_
    refine Ret.mono q ?_
    rintro _ w32 ⟨rfl, hs⟩
    have hS10 := hS9.add hs
    refine LW.nil ⟨rfl, (.w (by kernel_rfl) (.w (by kernel_rfl) Kept.n)), ?_⟩
    refine AW.u (i := 7) rfl (by kernel_rfl) rfl rfl (Pur.p rfl) ?_
    refine AW.u (i := 8) rfl (by kernel_rfl) rfl rfl (Pur.p rfl) ?_
    refine AW.u (i := 9) rfl (by kernel_rfl) rfl rfl (Pur.p rfl) ?_
    refine AW.one (i := 11) (by kernel_rfl) ?_
    refine ⟨_, rfl, ?_⟩
    refine LW.st hS10 0 fun w33 hS11 => ?_
    refine LW.nil ⟨rfl, (.w (by kernel_rfl) (.w (by kernel_rfl) Kept.n)), ?_⟩
    refine AW.u (i := 12) rfl (by kernel_rfl) rfl rfl (Pur.p rfl) ?_
    refine AW.done (by kernel_rfl) ?_
    cases oi h
    exact ⟨g30, ⟨rfl, rfl, rfl, rfl, trivial⟩, hS11.pick [1, 0] rfl rfl⟩
  rintro e w34 ⟨j10g9, hE, hS12⟩
  obtain ⟨e, rfl⟩ := hE.out
  have h := h11
  refine go ?_
  refine CW.cond rfl (fun hc35 => ?_) (fun hc35 => ?_)
  · replace h := bcT h hc35
    refine go ?_
    cases h
    exact And.intro trivial ⟨_, Res.two (resOne.t rfl) (resOne.t rfl), a4, c5, rfl, hS12.pick [0] rfl rfl⟩
  replace h := bcF h hc35
  refine go ?_
  replace ⟨y36, hy36, h⟩ := obind h
  obtain ⟨b39, o40, hae, hp37, hq38⟩ := hS12.ownIdx (α := DRes) (i := 0) rfl hy36
  subst hae
  refine LW.u (Pur.ix Tryz.underlying58 sz152 rfl rfl hp37 hq38) rfl ?_
  refine go ?_
  replace ⟨y41, hy41, h⟩ := obind h
  refine LW.stE (M := []) (L := [sl (some ⟨b39, o40, none⟩) c5 y3, bx j10g9 64 [.int .i64 j10.1, .int .i64 j10.2.1, .int .i64 j10.2.2.1]]) (z := y36) (z' := (DRes.mk y36.live y36.parent (DAmt.mk j10.1 j10.2.1 j10.2.2.1))) (o := 2) hS12 (i := 0) rfl hy36 ag64 rfl (by show _ = o40 + (x1 : Int).toNat * 5 + 2; omega) rfl rfl rfl rfl (leafF (fun w cs F hF => by obtain ⟨rfl, rfl⟩ := hF; exact ⟨rfl, rfl⟩)) ?_
  intro w42 hS13 hf
  rw [Option.some.inj hy41] at hS13
  refine go ?_
  replace h := Option.some.inj h
  subst h
  exact And.intro trivial ⟨_, Res.two (resOne.t rfl) (resOne.t rfl), (some ⟨b39, o40, none⟩), c5, (show (.tuple #[.slice (some ⟨b39, o40, none⟩) y3.length c5, .bool true] : Value) = .tuple #[.slice (some ⟨b39, o40, none⟩) y41.length c5, .bool true] by rw [show y3.length = y41.length from (len_set (Option.some.inj hy41))]), hS13.pick [0] rfl rfl⟩

theorem W_i_TreePay {w0 : World} {N : Nat} {x0 : List DRes} {x1 : Int} {x2 : DAmt} {r : (List DRes) × Bool} (h : F_i_TreePay N x0 x1 x2 = some r) {a0_0 : Option Addr} {n0_0 c0_0 : Nat} (hn0_0 : n0_0 = x0.length) (hr0_0 : rdS (Bor w0 []) w0 a0_0 c0_0 x0) :
    Ret Tryz.prog 95 #[.slice a0_0 n0_0 c0_0, .int .i64 x1, .agg #[.int .i64 x2.pages, .int .i64 x2.rent, .int .i64 x2.cpu]] w0 (fun v w => ∃ ar0 cr0, v = .tuple #[.slice ar0 r.1.length cr0, .bool r.2] ∧ St w0 [] w [sl ar0 cr0 r.1]) := by
  subst hn0_0
  unfold F_i_TreePay at h
  refine Ret.fn Tryz.func95 fun e => ?_
  have hS1 := St.start w0
  refine go ?_
  refine LW.bo hS1 fun g1 w2 hS2 => ?_
  refine go ?_
  replace ⟨y3, hy3, h⟩ := obind h
  refine LW.cl (W_i_copyTree hy3 rfl (hS2.rB hr0_0)) ?_
  rintro _ w6 ⟨a4, c5, rfl, hs⟩
  have hS3 := hS2.add hs
  refine gs ?_
  obtain ⟨j7, hj7, h8⟩ := obind h
  refine CW.cut (fun e wb => En e [(0, .slice a0_0 x0.length c0_0), (1, .int .i64 x1), (5, .pointer (some ⟨g1, 0, none⟩)), (8, .slice a4 y3.length c5), (21, .bool j7)] ∧ St w0 [] wb [sl a4 c5 y3, bx g1 64 [.int .i64 x2.pages, .int .i64 x2.rent, .int .i64 x2.cpu]]) ?_ ?_
  · have h := hj7
    refine go ?_
    replace ⟨y9, hy9, h⟩ := obind h
    refine LW.c0 (W_i_TreeOk hy9 rfl (hS3.rB hr0_0)) hS3 fun w10 hS4 => ?_
    refine go ?_
    rcases bcases (!y9) with hc11 | hc11
    · replace h := bcT h hc11
      refine go ?_
      cases oi h
      exact ⟨⟨rfl, rfl, rfl, rfl, rfl, trivial⟩, hS4.pick [0, 1] rfl rfl⟩
    replace h := bcF h hc11
    refine go ?_
    replace ⟨y12, hy12, h⟩ := obind h
    refine go ?_
    refine LW.c0 (W_i_isLive hy12 rfl (hS4.rB hr0_0)) hS4 fun w13 hS5 => ?_
    refine go ?_
    cases oi h
    exact ⟨⟨rfl, rfl, rfl, rfl, rfl, trivial⟩, hS5.pick [0, 1] rfl rfl⟩
  rintro e w14 ⟨hE, hS6⟩
  obtain ⟨e, rfl⟩ := hE.out
  have h := h8
  refine go ?_
  refine CW.cond rfl (fun hc15 => ?_) (fun hc15 => ?_)
  · replace h := bcT h hc15
    refine go ?_
    cases h
    exact And.intro trivial ⟨_, Res.two (resOne.t rfl) (resOne.t rfl), a4, c5, rfl, hS6.pick [0] rfl rfl⟩
  replace h := bcF h hc15
  refine gs ?_
  obtain ⟨j16, hj16, h17⟩ := obind h
  refine CW.cut (fun e wb => ∃ (j16g9 : Nat), En e [(1, .int .i64 x1), (8, .slice a4 y3.length c5), (9, .pointer (some ⟨j16g9, 0, none⟩)), (10, .bool j16.2.2.2)] ∧ St w0 [] wb [sl a4 c5 y3, bx j16g9 64 [.int .i64 j16.1, .int .i64 j16.2.1, .int .i64 j16.2.2.1]]) ?_ ?_
  · have h := hj16
    refine CW.draw (by kernel_rfl) ?_
    have hS7 := hS6.drew
    refine AW.u (i := 0) rfl (by kernel_rfl) rfl rfl (Pur.p rfl) ?_
    refine AW.u (i := 1) rfl (by kernel_rfl) rfl rfl (Pur.p rfl) ?_
    replace ⟨y18, hy18, h⟩ := obind h
    obtain ⟨b21, o22, cs23, hae, hb26, hp19, hq20, hd24, hk25⟩ := hr0_0.idx hy18
    subst hae
    obtain rfl := hd24
    refine AW.u (i := 2) rfl (by kernel_rfl) rfl rfl (Pur.ix Tryz.underlying58 sz152 rfl rfl hp19 hq20) ?_
    refine AW.u (i := 3) rfl (by kernel_rfl) rfl rfl (Pur.fa fo152_2 rfl) ?_
    refine AW.take (i := 4) rfl (by kernel_rfl) rfl rfl (Ldr.oldN w0 ag64 rfl rfl (fun j u hu => oldsub (m := 3) hk25 2 hu)) (hS7.same _ hb26.1 hb26.2) ?_
    refine AW.take (i := 5) rfl (by kernel_rfl) rfl rfl (Ldr.boxN (bt := 64) (fr := (0, 0)) (cs := [.int .i64 x2.pages, .int .i64 x2.rent, .int .i64 x2.cpu]) ag64 rfl rfl) (St.cell (h := hS7) (i := 1) rfl) ?_
    replace ⟨y27, hy27, h⟩ := obind h
    refine AW.all (rs := [6, 10]) (by kernel_rfl) (by simp) ⟨?_, ?_, trivial⟩
    · have q := W_i_AmtSub (w0 := w14.drew) hy27
      refine ⟨_, rfl, ?_⟩
      refine LW.call pl164 rfl rfl ?_
      refine Ret.mono q ?_
      rintro _ w32 ⟨rfl, hs⟩
      have hS8 := hS7.add hs
      refine LW.nil ⟨rfl, (.w (by kernel_rfl) (.w (by kernel_rfl) Kept.n)), ?_⟩
      refine AW.u (i := 7) rfl (by kernel_rfl) rfl rfl (Pur.p rfl) ?_
      refine AW.u (i := 8) rfl (by kernel_rfl) rfl rfl (Pur.p rfl) ?_
      refine AW.u (i := 9) rfl (by kernel_rfl) rfl rfl (Pur.p rfl) ?_
      refine AW.one (i := 10) (by kernel_rfl) ?_
      refine ⟨_, rfl, ?_⟩
      refine LW.al hS8 fun g33 w34 hS9 => ?_
      refine LW.nil ⟨rfl, (.c (St.cell (h := hS9) (i := 2) rfl) (.c (hS9.same _ hb26.1 hb26.2) Kept.n)), ?_⟩
      refine AW.one (i := 11) (by kernel_rfl) ?_
      refine ⟨_, rfl, ?_⟩
      refine LW.st hS9 0 fun w35 hS10 => ?_
      refine LW.nil ⟨rfl, (.w (by kernel_rfl) (.w (by kernel_rfl) Kept.n)), ?_⟩
      refine AW.u (i := 12) rfl (by kernel_rfl) rfl rfl (Pur.p rfl) ?_
      refine AW.done (by kernel_rfl) ?_
      cases oi h
      exact ⟨g33, ⟨rfl, rfl, rfl, rfl, trivial⟩, hS10.pick [1, 0] rfl rfl⟩
    refine ⟨_, rfl, ?_⟩
    refine LW.al hS7 fun g36 w37 hS11 => ?_
    refine LW.nil ⟨rfl, (.c (St.cell (h := hS11) (i := 2) rfl) (.c (hS11.same _ hb26.1 hb26.2) Kept.n)), ?_⟩
    have q := W_i_AmtSub (w0 := w37) hy27
    refine AW.one (i := 6) (by kernel_rfl) ?_
    refine ⟨_, rfl, ?_⟩
    refine LW.call pl164 rfl rfl ?_
    refine Ret.mono q ?_
    rintro _ w38 ⟨rfl, hs⟩
    have hS12 := hS11.add hs
    refine LW.nil ⟨rfl, (.w (by kernel_rfl) (.w (by kernel_rfl) Kept.n)), ?_⟩
    refine AW.u (i := 7) rfl (by kernel_rfl) rfl rfl (Pur.p rfl) ?_
    refine AW.u (i := 8) rfl (by kernel_rfl) rfl rfl (Pur.p rfl) ?_
    refine AW.u (i := 9) rfl (by kernel_rfl) rfl rfl (Pur.p rfl) ?_
    refine AW.one (i := 11) (by kernel_rfl) ?_
    refine ⟨_, rfl, ?_⟩
    refine LW.st hS12 0 fun w39 hS13 => ?_
    refine LW.nil ⟨rfl, (.w (by kernel_rfl) (.w (by kernel_rfl) Kept.n)), ?_⟩
    refine AW.u (i := 12) rfl (by kernel_rfl) rfl rfl (Pur.p rfl) ?_
    refine AW.done (by kernel_rfl) ?_
    cases oi h
    exact ⟨g36, ⟨rfl, rfl, rfl, rfl, trivial⟩, hS13.pick [1, 0] rfl rfl⟩
  rintro e w40 ⟨j16g9, hE, hS14⟩
  obtain ⟨e, rfl⟩ := hE.out
  have h := h17
  refine go ?_
  replace ⟨y41, hy41, h⟩ := obind h
  obtain ⟨b44, o45, hae, hp42, hq43⟩ := hS14.ownIdx (α := DRes) (i := 0) rfl hy41
  subst hae
  refine LW.u (Pur.ix Tryz.underlying58 sz152 rfl rfl hp42 hq43) rfl ?_
  refine go ?_
  replace ⟨y46, hy46, h⟩ := obind h
  refine LW.stE (M := []) (L := [sl (some ⟨b44, o45, none⟩) c5 y3, bx j16g9 64 [.int .i64 j16.1, .int .i64 j16.2.1, .int .i64 j16.2.2.1]]) (z := y41) (z' := (DRes.mk y41.live y41.parent (DAmt.mk j16.1 j16.2.1 j16.2.2.1))) (o := 2) hS14 (i := 0) rfl hy41 ag64 rfl (by show _ = o45 + (x1 : Int).toNat * 5 + 2; omega) rfl rfl rfl rfl (leafF (fun w cs F hF => by obtain ⟨rfl, rfl⟩ := hF; exact ⟨rfl, rfl⟩)) ?_
  intro w47 hS15 hf
  rw [Option.some.inj hy46] at hS15
  refine go ?_
  replace h := Option.some.inj h
  subst h
  exact And.intro trivial ⟨_, Res.two (resOne.t rfl) (resOne.t rfl), (some ⟨b44, o45, none⟩), c5, (show (.tuple #[.slice (some ⟨b44, o45, none⟩) y3.length c5, .bool j16.2.2.2] : Value) = .tuple #[.slice (some ⟨b44, o45, none⟩) y46.length c5, .bool j16.2.2.2] by rw [show y3.length = y46.length from (len_set (Option.some.inj hy46))]), hS15.pick [0] rfl rfl⟩

theorem W_s_Runnable {w0 : World} {N : Nat} {x0 : DPart} {x1 : Int} {r : (List Int)} (h : F_s_Runnable N x0 x1 = some r) {a0_0 : Option Addr} {n0_0 c0_0 : Nat} (hn0_0 : n0_0 = x0.label.levels.length) (hr0_0 : rdS (Bor w0 []) w0 a0_0 c0_0 x0.label.levels) {a0_1 : Option Addr} {n0_1 c0_1 : Nat} (hn0_1 : n0_1 = x0.own.length) (hr0_1 : rdS (Bor w0 []) w0 a0_1 c0_1 x0.own) {a0_2 : Option Addr} {n0_2 c0_2 : Nat} (hn0_2 : n0_2 = x0.tree.length) (hr0_2 : rdS (Bor w0 []) w0 a0_2 c0_2 x0.tree) {a0_3 : Option Addr} {n0_3 c0_3 : Nat} (hn0_3 : n0_3 = x0.heap.arena.length) (hr0_3 : rdS (Bor w0 []) w0 a0_3 c0_3 x0.heap.arena) {a0_7 : Option Addr} {n0_7 c0_7 : Nat} (hn0_7 : n0_7 = x0.heap.gc.grey.length) (hr0_7 : rdS (Bor w0 []) w0 a0_7 c0_7 x0.heap.gc.grey) {a0_8 : Option Addr} {n0_8 c0_8 : Nat} (hn0_8 : n0_8 = x0.taps.length) (hr0_8 : rdS (Bor w0 []) w0 a0_8 c0_8 x0.taps) :
    Ret Tryz.prog 89 #[.agg #[.slice a0_0 n0_0 c0_0, .slice a0_1 n0_1 c0_1, .slice a0_2 n0_2 c0_2, .slice a0_3 n0_3 c0_3, .int .i64 x0.heap.gc.phase, .int .i64 x0.heap.gc.pos, .int .i64 x0.heap.gc.round, .slice a0_7 n0_7 c0_7, .slice a0_8 n0_8 c0_8, .int .i64 x0.next, .int .i64 x0.want, .int .i64 x0.spent.pages, .int .i64 x0.spent.rent, .int .i64 x0.spent.cpu, .int .i64 x0.press, .int .i64 x0.lost], .int .i64 x1] w0 (fun v w => ∃ ar0 cr0, v = .slice ar0 r.length cr0 ∧ St w0 [] w [sl ar0 cr0 r]) := by
  subst hn0_0 hn0_1 hn0_2 hn0_3 hn0_7 hn0_8
  unfold F_s_Runnable at h
  refine Ret.fn Tryz.func89 fun e => ?_
  have hS1 := St.start w0
  refine go ?_
  refine LW.bo hS1 fun g1 w2 hS2 => ?_
  refine go ?_
  refine LW.bsl (α := Int) (vs := []) (cs := #[]) (l := ([] : List Int)) rfl (by kernel_rfl) rfl rfl rfl (fun w => rfl) hS2 rfl ?_
  intro a3 c4 w5 hS3 hf
  refine go ?_
  replace ⟨y6, hy6, h⟩ := obind h
  refine LW.cl (W_s_Threads hy6 rfl (hS3.rB hr0_0) rfl (hS3.rB hr0_1) rfl (hS3.rB hr0_2) rfl (hS3.rB hr0_3) rfl (hS3.rB hr0_7) rfl (hS3.rB hr0_8)) ?_
  rintro _ w9 ⟨a7, c8, rfl, hs⟩
  have hS4 := hS3.add hs
  refine go ?_
  obtain ⟨o68, ho68, h69⟩ := obind h
  refine CW.mono (CW.iter (σ := (List Int) × Int) (ρ := (List Int) × Int) (fun s10 e wb => ∃ (s10a0 : Option Addr), ∃ (s10c0 : Nat), En e [(2, .pointer (some ⟨g1, 0, none⟩)), (5, .slice s10a0 s10.1.length s10c0), (6, .slice a7 y6.length c8), (7, .int .i64 s10.2)] ∧ St w0 [] wb [sl a7 c8 y6, sl s10a0 s10c0 s10.1, bx g1 66 [.slice a0_0 x0.label.levels.length c0_0, .slice a0_1 x0.own.length c0_1, .slice a0_2 x0.tree.length c0_2, .slice a0_3 x0.heap.arena.length c0_3, .int .i64 x0.heap.gc.phase, .int .i64 x0.heap.gc.pos, .int .i64 x0.heap.gc.round, .slice a0_7 x0.heap.gc.grey.length c0_7, .slice a0_8 x0.taps.length c0_8, .int .i64 x0.next, .int .i64 x0.want, .int .i64 x0.spent.pages, .int .i64 x0.spent.rent, .int .i64 x0.spent.cpu, .int .i64 x0.press, .int .i64 x0.lost]]) (fun s10 x e wb => x = .exit 0 ∧ ∃ (s10a0 : Option Addr), ∃ (s10c0 : Nat), En e [(5, .slice s10a0 s10.1.length s10c0)] ∧ St w0 [] wb [sl a7 c8 y6, sl s10a0 s10c0 s10.1, bx g1 66 [.slice a0_0 x0.label.levels.length c0_0, .slice a0_1 x0.own.length c0_1, .slice a0_2 x0.tree.length c0_2, .slice a0_3 x0.heap.arena.length c0_3, .int .i64 x0.heap.gc.phase, .int .i64 x0.heap.gc.pos, .int .i64 x0.heap.gc.round, .slice a0_7 x0.heap.gc.grey.length c0_7, .slice a0_8 x0.taps.length c0_8, .int .i64 x0.next, .int .i64 x0.want, .int .i64 x0.spent.pages, .int .i64 x0.spent.rent, .int .i64 x0.spent.cpu, .int .i64 x0.press, .int .i64 x0.lost]]) ?_ N (([] : List Int), 0) _ _ _ ⟨a3, c4, ⟨rfl, rfl, rfl, rfl, trivial⟩, hS4.pick [0, 1, 2] rfl rfl⟩ ho68) ?_
  · intro s10 e w11 o hM h
    obtain ⟨s10a0, s10c0, hE, hS5⟩ := hM
    obtain ⟨e, rfl⟩ := hE.out
    refine go ?_
    refine CW.fl [2, 5, 6, 7, 16] fun e => ?_
    refine CW.cond rfl (fun hc12 => ?_) (fun hc12 => ?_)
    · replace h := bcT h hc12
      refine go ?_
      refine CW.draw (by kernel_rfl) ?_
      have hS6 := hS5.drew
      refine AW.u (i := 0) rfl (by kernel_rfl) rfl rfl (Pur.fa fo66_3 rfl) ?_
      refine AW.u (i := 1) rfl (by kernel_rfl) rfl rfl (Pur.fa fo62_0 rfl) ?_
      refine AW.take (i := 2) rfl (by kernel_rfl) rfl rfl (Ldr.box (bt := 66) (fr := (0, 0)) (cs := [.slice a0_0 x0.label.levels.length c0_0, .slice a0_1 x0.own.length c0_1, .slice a0_2 x0.tree.length c0_2, .slice a0_3 x0.heap.arena.length c0_3, .int .i64 x0.heap.gc.phase, .int .i64 x0.heap.gc.pos, .int .i64 x0.heap.gc.round, .slice a0_7 x0.heap.gc.grey.length c0_7, .slice a0_8 x0.taps.length c0_8, .int .i64 x0.next, .int .i64 x0.want, .int .i64 x0.spent.pages, .int .i64 x0.spent.rent, .int .i64 x0.spent.cpu, .int .i64 x0.press, .int .i64 x0.lost]) ag59 rfl rfl) (St.cell (h := hS6) (i := 2) rfl) ?_
      refine AW.u (i := 3) rfl (by kernel_rfl) rfl rfl (Pur.p rfl) ?_
      refine AW.u (i := 4) rfl (by kernel_rfl) rfl rfl (Pur.p rfl) ?_
      replace ⟨y13, hy13, h⟩ := obind h
      obtain ⟨b16, o17, hae, hp14, hq15⟩ := hS6.ownIdx (α := Int) (i := 0) rfl hy13
      subst hae
      refine AW.u (i := 5) rfl (by kernel_rfl) rfl rfl (Pur.ix Tryz.underlying28 sz3 rfl rfl hp14 hq15) ?_
      obtain ⟨F18, ho19, hS7⟩ := hS6.freeze (α := Int) 0 rfl
      obtain ⟨b20, o21, cs22, hae, hb25, _, _, hd23, hk24⟩ := ho19.rdF.idx hy13
      cases hae
      obtain rfl := hd23
      refine AW.take (i := 6) rfl (by kernel_rfl) rfl rfl (Ldr.old w11.drew ag3 rfl (hk24 0 _ rfl)) (hS7.zC 0 rfl hb25) ?_
      replace ⟨y26, hy26, h⟩ := obind h
      obtain ⟨b29, o30, cs31, hae, hb34, hp27, hq28, hd32, hk33⟩ := hr0_3.idx hy26
      subst hae
      obtain ⟨a35, c36, a38, c39, a41, c42, rfl, hr37, hr40, hr43⟩ := hd32
      refine AW.u (i := 7) rfl (by kernel_rfl) rfl rfl (Pur.ix Tryz.underlying59 sz92 rfl rfl hp27 hq28) ?_
      refine AW.take (i := 8) rfl (by kernel_rfl) rfl rfl (Ldr.oldN w0 ag92 rfl rfl (fun j u hu => hk33 j u hu)) (hS7.same _ hb34.1 hb34.2) ?_
      refine AW.one (i := 9) (by kernel_rfl) ?_
      refine ⟨_, rfl, ?_⟩
      refine LW.al hS7 fun g44 w45 hS8 => ?_
      refine LW.nil ⟨rfl, (.c (hS8.same _ hb34.1 hb34.2) (.c (hS8.zC 1 rfl hb25) (.c (St.cell (h := hS8) (i := 3) rfl) Kept.n))), ?_⟩
      refine AW.one (i := 10) (by kernel_rfl) ?_
      refine ⟨_, rfl, ?_⟩
      refine LW.st hS8 0 fun w46 hS9 => ?_
      refine LW.nil ⟨rfl, (.w (by kernel_rfl) (.w (by kernel_rfl) (.w (by kernel_rfl) Kept.n))), ?_⟩
      refine AW.done (by kernel_rfl) ?_
      refine gs ?_
      obtain ⟨j47, hj47, h48⟩ := obind h
      refine CW.cut (fun e wb => En e [(2, .pointer (some ⟨g1, 0, none⟩)), (5, .slice s10a0 s10.1.length s10c0), (6, .slice (some ⟨b16, o17, none⟩) y6.length c8), (7, .int .i64 s10.2), (43, .bool j47)] ∧ St w0 [] wb [fz w11.drew F18, sl s10a0 s10c0 s10.1, bx g1 66 [.slice a0_0 x0.label.levels.length c0_0, .slice a0_1 x0.own.length c0_1, .slice a0_2 x0.tree.length c0_2, .slice (some ⟨b29, o30, none⟩) x0.heap.arena.length c0_3, .int .i64 x0.heap.gc.phase, .int .i64 x0.heap.gc.pos, .int .i64 x0.heap.gc.round, .slice a0_7 x0.heap.gc.grey.length c0_7, .slice a0_8 x0.taps.length c0_8, .int .i64 x0.next, .int .i64 x0.want, .int .i64 x0.spent.pages, .int .i64 x0.spent.rent, .int .i64 x0.spent.cpu, .int .i64 x0.press, .int .i64 x0.lost]]) ?_ ?_
      · have h := hj47
        refine CW.draw (by kernel_rfl) ?_
        have hS10 := hS9.drew
        refine AW.u (i := 0) rfl (by kernel_rfl) rfl rfl (Pur.fa fo92_6 rfl) ?_
        refine AW.take (i := 1) rfl (by kernel_rfl) rfl rfl (Ldr.box (bt := 92) (fr := (0, 0)) (cs := [.int .i64 y26.gen, .int .i64 y26.kind, .int .i64 y26.box, .int .i64 y26.res, .int .i64 y26.til, .int .i64 y26.pages, .int .i64 y26.wait, .int .i64 y26.got, .int .i64 y26.ran, .bool y26.mark, .slice a35 y26.links.length c36, .slice a38 y26.data.length c39, .slice a41 y26.queue.length c42]) ag3 rfl rfl) (St.cell (h := hS10) (i := 0) rfl) ?_
        refine AW.u (i := 2) rfl (by kernel_rfl) rfl rfl (Pur.p rfl) ?_
        refine AW.u (i := 3) rfl (by kernel_rfl) rfl rfl (Pur.p rfl) ?_
        rcases bcases (y26.wait == 0) with hc49 | hc49
        · replace h := bcT h hc49
          refine AW.u (i := 4) rfl (by kernel_rfl) (want_of rfl rfl hc49) rfl (Pur.fa fo66_2 rfl) ?_
          refine AW.take (i := 5) rfl (by kernel_rfl) (want_of rfl rfl hc49) rfl (Ldr.box (bt := 66) (fr := (0, 0)) (cs := [.slice a0_0 x0.label.levels.length c0_0, .slice a0_1 x0.own.length c0_1, .slice a0_2 x0.tree.length c0_2, .slice (some ⟨b29, o30, none⟩) x0.heap.arena.length c0_3, .int .i64 x0.heap.gc.phase, .int .i64 x0.heap.gc.pos, .int .i64 x0.heap.gc.round, .slice a0_7 x0.heap.gc.grey.length c0_7, .slice a0_8 x0.taps.length c0_8, .int .i64 x0.next, .int .i64 x0.want, .int .i64 x0.spent.pages, .int .i64 x0.spent.rent, .int .i64 x0.spent.cpu, .int .i64 x0.press, .int .i64 x0.lost]) ag58 rfl rfl) (St.cell (h := hS10) (i := 3) rfl) ?_
          refine AW.take (i := 6) rfl (by kernel_rfl) (want_of rfl rfl hc49) rfl (Ldr.boxN (bt := 66) (fr := (0, 0)) (cs := [.slice a0_0 x0.label.levels.length c0_0, .slice a0_1 x0.own.length c0_1, .slice a0_2 x0.tree.length c0_2, .slice (some ⟨b29, o30, none⟩) x0.heap.arena.length c0_3, .int .i64 x0.heap.gc.phase, .int .i64 x0.heap.gc.pos, .int .i64 x0.heap.gc.round, .slice a0_7 x0.heap.gc.grey.length c0_7, .slice a0_8 x0.taps.length c0_8, .int .i64 x0.next, .int .i64 x0.want, .int .i64 x0.spent.pages, .int .i64 x0.spent.rent, .int .i64 x0.spent.cpu, .int .i64 x0.press, .int .i64 x0.lost]) ag66 rfl rfl) (St.cell (h := hS10) (i := 3) rfl) ?_
          refine AW.u (i := 7) rfl (by kernel_rfl) (want_of rfl rfl hc49) rfl (Pur.fa fo92_3 rfl) ?_
          refine AW.take (i := 8) rfl (by kernel_rfl) (want_of rfl rfl hc49) rfl (Ldr.box (bt := 92) (fr := (0, 0)) (cs := [.int .i64 y26.gen, .int .i64 y26.kind, .int .i64 y26.box, .int .i64 y26.res, .int .i64 y26.til, .int .i64 y26.pages, .int .i64 y26.wait, .int .i64 y26.got, .int .i64 y26.ran, .bool y26.mark, .slice a35 y26.links.length c36, .slice a38 y26.data.length c39, .slice a41 y26.queue.length c42]) ag3 rfl rfl) (St.cell (h := hS10) (i := 0) rfl) ?_
          replace ⟨y50, hy50, h⟩ := obind h
          have q := W_s_ResOf (w0 := w46.drew) hy50 rfl (hS10.rB hr0_0) rfl (hS10.rB hr0_1) rfl (hS10.rB hr0_2) rfl (hS10.rB hr0_3) rfl (hS10.rB hr0_7) rfl (hS10.rB hr0_8)
          refine AW.one (i := 9) (by kernel_rfl) ?_
          refine ⟨_, rfl, ?_⟩
          refine (LW.gY (want_of rfl rfl hc49) ?_)
          refine LW.call pl91 rfl rfl ?_
          refine Ret.mono q ?_
          rintro _ w51 ⟨rfl, hs⟩
          have hS11 := hS10.add hs
          refine LW.nil ⟨rfl, (.w (by kernel_rfl) (.w (by kernel_rfl) (.c (St.cell (h := hS11) (i := 3) rfl) (.c (St.cell (h := hS11) (i := 0) rfl) Kept.n)))), ?_⟩
          replace ⟨y52, hy52, h⟩ := obind h
          obtain ⟨b55, o56, cs57, hae, hb60, hp53, hq54, hd58, hk59⟩ := hr0_2.idx hy52
          subst hae
          obtain rfl := hd58
          refine AW.u (i := 10) rfl (by kernel_rfl) (want_of rfl rfl hc49) rfl (Pur.ix Tryz.underlying58 sz152 rfl rfl hp53 hq54) ?_
          refine AW.u (i := 11) rfl (by kernel_rfl) (want_of rfl rfl hc49) rfl (Pur.fa fo152_2 rfl) ?_
          refine AW.u (i := 12) rfl (by kernel_rfl) (want_of rfl rfl hc49) rfl (Pur.fa fo64_2 rfl) ?_
          refine AW.take (i := 13) rfl (by kernel_rfl) (want_of rfl rfl hc49) rfl (Ldr.old w0 ag3 rfl (hk59 4 _ rfl)) (hS11.same _ hb60.1 hb60.2) ?_
          refine AW.u (i := 14) rfl (by kernel_rfl) (want_of rfl rfl hc49) rfl (Pur.p rfl) ?_
          refine AW.u (i := 15) rfl (by kernel_rfl) rfl rfl (Pur.pickT rfl hc49) ?_
          refine AW.done (by kernel_rfl) ?_
          cases oi h
          exact ⟨⟨rfl, rfl, rfl, rfl, rfl, trivial⟩, hS11.pick [1, 2, 3] rfl rfl⟩
        replace h := bcF h hc49
        refine AW.no (i := 4) rfl (by kernel_rfl) (want_not rfl rfl hc49) rfl ?_
        refine AW.no (i := 5) rfl (by kernel_rfl) (want_not rfl rfl hc49) rfl ?_
        refine AW.no (i := 6) rfl (by kernel_rfl) (want_not rfl rfl hc49) rfl ?_
        refine AW.no (i := 7) rfl (by kernel_rfl) (want_not rfl rfl hc49) rfl ?_
        refine AW.no (i := 8) rfl (by kernel_rfl) (want_not rfl rfl hc49) rfl ?_
        refine AW.no (i := 9) rfl (by kernel_rfl) (want_not rfl rfl hc49) rfl ?_
        refine AW.no (i := 10) rfl (by kernel_rfl) (want_not rfl rfl hc49) rfl ?_
        refine AW.no (i := 11) rfl (by kernel_rfl) (want_not rfl rfl hc49) rfl ?_
        refine AW.no (i := 12) rfl (by kernel_rfl) (want_not rfl rfl hc49) rfl ?_
        refine AW.no (i := 13) rfl (by kernel_rfl) (want_not rfl rfl hc49) rfl ?_
        refine AW.no (i := 14) rfl (by kernel_rfl) (want_not rfl rfl hc49) rfl ?_
        refine AW.u (i := 15) rfl (by kernel_rfl) rfl rfl (Pur.pickF rfl hc49) ?_
        refine AW.done (by kernel_rfl) ?_
        cases oi h
        exact ⟨⟨rfl, rfl, rfl, rfl, rfl, trivial⟩, hS10.pick [1, 2, 3] rfl rfl⟩
      rintro e w61 ⟨hE, hS12⟩
      obtain ⟨e, rfl⟩ := hE.out
      have h := h48
      refine go ?_
      refine CW.cond rfl (fun hc62 => ?_) (fun hc62 => ?_)
      · replace h := bcT h hc62
        refine go ?_
        refine LW.u (Pur.ix Tryz.underlying28 sz3 rfl rfl hp14 hq15) rfl ?_
        refine LW.l (Ldr.old w11.drew ag3 rfl (hk24 0 _ rfl)) (hS12.zC 0 rfl hb25) rfl ?_
        replace ⟨y63, hy63, h⟩ := obind h
        refine LW.app1 (M := []) (L := [fz w11.drew F18, sl s10a0 s10c0 s10.1, bx g1 66 [.slice a0_0 x0.label.levels.length c0_0, .slice a0_1 x0.own.length c0_1, .slice a0_2 x0.tree.length c0_2, .slice (some ⟨b29, o30, none⟩) x0.heap.arena.length c0_3, .int .i64 x0.heap.gc.phase, .int .i64 x0.heap.gc.pos, .int .i64 x0.heap.gc.round, .slice a0_7 x0.heap.gc.grey.length c0_7, .slice a0_8 x0.taps.length c0_8, .int .i64 x0.next, .int .i64 x0.want, .int .i64 x0.spent.pages, .int .i64 x0.spent.rent, .int .i64 x0.spent.cpu, .int .i64 x0.press, .int .i64 x0.lost]]) (vs := #[.int .i64 y13]) (i := 1) sT28 rfl (by kernel_rfl) rfl rfl hy63 hS12 rfl (fun w G hG => by cases (show G = [] from hG); exact ⟨rfl, rfl⟩) rfl rfl ?_
        intro v66 a64 c65 w67 hS13 hf
        refine go ?_
        have hS14 := hS13.thaw (α := Int) 0 rfl ho19
        cases oi h
        exact ⟨rfl, ⟨a64, c65, ⟨rfl, rfl, rfl, rfl, trivial⟩, hS14.pick [0, 1, 2] rfl rfl⟩⟩
      replace h := bcF h hc62
      refine go ?_
      have hS15 := hS12.thaw (α := Int) 0 rfl ho19
      cases oi h
      exact ⟨rfl, ⟨s10a0, s10c0, ⟨rfl, rfl, rfl, rfl, trivial⟩, hS15.pick [0, 1, 2] rfl rfl⟩⟩
    replace h := bcF h hc12
    refine go ?_
    cases oi h
    exact ⟨trivial, rfl, ⟨s10a0, s10c0, ⟨rfl, trivial⟩, hS5.pick [0, 1, 2] rfl rfl⟩⟩
  intro x e w70 hM
  obtain ⟨rfl, hM⟩ := hM
  obtain ⟨s10a0, s10c0, hE, hS16⟩ := hM
  obtain ⟨e, rfl⟩ := hE.out
  have h := h69
  refine go ?_
  cases h
  exact And.intro trivial ⟨_, Res.one (resOne.t rfl), s10a0, s10c0, rfl, hS16.pick [1] rfl rfl⟩

end Go.Kx
