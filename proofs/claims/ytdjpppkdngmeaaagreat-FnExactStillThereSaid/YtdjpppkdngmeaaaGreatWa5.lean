/- Each call returns what the plain function says. Printed by drive.py. -/
import Derived.Test.YtdjpppkdngmeaaaGreatFa
import Derived.Test.YtdjpppkdngmeaaaGreatPu
import Derived.Test.YtdjpppkdngmeaaaGreatWa0
import Derived.Test.YtdjpppkdngmeaaaGreatWa1
import Derived.Test.YtdjpppkdngmeaaaGreatWa2
import Derived.Test.YtdjpppkdngmeaaaGreatWa4
namespace Go.Kx
open Go Go.RowKit Go.Proofs
set_option maxRecDepth 10000
set_option maxHeartbeats 2000000
set_option linter.unusedVariables false
set_option linter.unusedSimpArgs false
theorem W_s_TreeOk {w0 : World} {N : Nat} {x0 : List DRes} {r : Bool} (h : F_s_TreeOk N x0 = some r) {a0_0 : Option Addr} {n0_0 c0_0 : Nat} (hn0_0 : n0_0 = x0.length) (hr0_0 : rdS (Bor w0 []) w0 a0_0 c0_0 x0) :
    Ret Tryz.prog 142 #[.slice a0_0 n0_0 c0_0] w0 (fun v w => v = .bool r ∧ St w0 [] w []) := by
  subst hn0_0
  unfold F_s_TreeOk at h
  refine Ret.fn Tryz.func142 fun e => ?_
  have hS1 := St.start w0
  refine gs ?_
  refine CW.region ?_
  refine gs ?_
  obtain ⟨j1, hj1, h2⟩ := obind h
  refine CW.cut (fun e wb => En e [(0, .slice a0_0 x0.length c0_0), (23, .bool j1)] ∧ St w0 [] wb []) ?_ ?_
  · have h := hj1
    refine go ?_
    rcases bcases ((x0.length : Int) != 5) with hc3 | hc3
    · replace h := bcT h hc3
      refine go ?_
      cases oi h
      exact ⟨⟨rfl, rfl, trivial⟩, hS1.pick [] rfl rfl⟩
    replace h := bcF h hc3
    refine go ?_
    replace ⟨y4, hy4, h⟩ := obind h
    obtain ⟨b7, o8, cs9, hae, hb12, hp5, hq6, hd10, hk11⟩ := hr0_0.idx hy4
    subst hae
    obtain rfl := hd10
    refine go ?_
    refine LW.u (Pur.ix Tryz.underlying39 sz87 rfl rfl hp5 hq6) rfl ?_
    refine go ?_
    refine LW.l (Ldr.old w0 ag4 rfl (hk11 0 _ rfl)) (hS1.same _ hb12.1 hb12.2) rfl ?_
    refine go ?_
    rcases bcases (!y4.live) with hc13 | hc13
    · replace h := bcT h hc13
      refine go ?_
      cases oi h
      exact ⟨⟨rfl, rfl, trivial⟩, hS1.pick [] rfl rfl⟩
    replace h := bcF h hc13
    refine go ?_
    refine LW.u (Pur.ix Tryz.underlying39 sz87 rfl rfl hp5 hq6) rfl ?_
    refine go ?_
    refine LW.l (Ldr.old w0 ag3 rfl (hk11 1 _ rfl)) (hS1.same _ hb12.1 hb12.2) rfl ?_
    refine go ?_
    cases oi h
    exact ⟨⟨rfl, rfl, trivial⟩, hS1.pick [] rfl rfl⟩
  rintro e w14 ⟨hE, hS2⟩
  obtain ⟨e, rfl⟩ := hE.out
  have h := h2
  refine go ?_
  refine CW.cond rfl (fun hc15 => ?_) (fun hc15 => ?_)
  · replace h := bcT h hc15
    refine go ?_
    cases h
    exact And.intro trivial ⟨_, Res.one (resOne.t rfl), rfl, hS2.pick [] rfl rfl⟩
  replace h := bcF h hc15
  refine go ?_
  obtain ⟨o66, ho66, h67⟩ := obind h
  refine CW.mono (CW.iter (σ := Int) (ρ := Int ⊕ Bool) (fun s16 e wb => En e [(0, .slice a0_0 x0.length c0_0), (3, .int .i64 s16)] ∧ St w0 [] wb []) (fun o x e wb => match o with | .inl s16 => x = .exit 0 ∧ En e [(0, .slice a0_0 x0.length c0_0)] ∧ St w0 [] wb [] | .inr r => x = .ret ∧ ∃ u, u = r ∧ ∃ v, Res Tryz.prog Tryz.f142.results e wb v ∧ v = .bool u ∧ St w0 [] wb []) ?_ N 0 _ _ _ ⟨⟨rfl, rfl, trivial⟩, hS2.pick [] rfl rfl⟩ ho66) ?_
  · intro s16 e w17 o hM h
    obtain ⟨hE, hS3⟩ := hM
    obtain ⟨e, rfl⟩ := hE.out
    refine go ?_
    refine CW.cond rfl (fun hc18 => ?_) (fun hc18 => ?_)
    · replace h := bcT h hc18
      refine gs ?_
      refine CW.block ?_
      refine gs ?_
      obtain ⟨j19, hj19, h20⟩ := obind h
      refine CW.cut (fun e wb => En e [(0, .slice a0_0 x0.length c0_0), (3, .int .i64 s16), (52, .bool j19)] ∧ St w0 [] wb []) ?_ ?_
      · have h := hj19
        refine go ?_
        replace ⟨y21, hy21, h⟩ := obind h
        obtain ⟨b24, o25, cs26, hae, hb29, hp22, hq23, hd27, hk28⟩ := hr0_0.idx hy21
        subst hae
        obtain rfl := hd27
        refine LW.u (Pur.ix Tryz.underlying39 sz87 rfl rfl hp22 hq23) rfl ?_
        refine go ?_
        refine LW.l (Ldr.old w0 ag4 rfl (hk28 0 _ rfl)) (hS3.same _ hb29.1 hb29.2) rfl ?_
        refine go ?_
        rcases bcases (!y21.live) with hc30 | hc30
        · replace h := bcT h hc30
          refine go ?_
          refine LW.u (Pur.ix Tryz.underlying39 sz87 rfl rfl hp22 hq23) rfl ?_
          refine go ?_
          refine LW.l (Ldr.oldN w0 ag87 rfl rfl (fun j u hu => hk28 j u hu)) (hS3.same _ hb29.1 hb29.2) rfl ?_
          refine go ?_
          refine LW.u (Pur.build (vs := []) (cs := #[.bool false, .int .i64 0, .int .i64 0, .int .i64 0, .int .i64 0]) rfl (by kernel_rfl)) rfl ?_
          refine go ?_
          refine LW.u (Pur.ane eg87 rfl rfl (fun w => eq87 y21 (DRes.mk false 0 (DAmt.mk 0 0 0)) w)) rfl ?_
          refine go ?_
          rcases bcases (!decide (y21 = DRes.mk false 0 (DAmt.mk 0 0 0))) with hc31 | hc31
          · replace h := bcT h hc31
            refine go ?_
            cases oi h
            exact ⟨⟨rfl, rfl, rfl, trivial⟩, hS3.pick [] rfl rfl⟩
          replace h := bcF h hc31
          refine go ?_
          refine LW.fl [0, 3, 44, 45, 46] fun e => ?_
          refine go ?_
          refine LW.u (Pur.ix Tryz.underlying39 sz87 rfl rfl hp22 hq23) rfl ?_
          refine go ?_
          refine LW.l (Ldr.oldN w0 ag45 rfl rfl (fun j u hu => oldsub (m := 3) hk28 2 hu)) (hS3.same _ hb29.1 hb29.2) rfl ?_
          replace ⟨y32, hy32, h⟩ := obind h
          refine go ?_
          refine LW.c0 (W_s_AmtOk hy32) hS3 fun w33 hS4 => ?_
          refine go ?_
          cases oi h
          exact ⟨⟨rfl, rfl, rfl, trivial⟩, hS4.pick [] rfl rfl⟩
        replace h := bcF h hc30
        refine go ?_
        refine LW.fl [0, 3, 44, 45, 46] fun e => ?_
        refine go ?_
        refine LW.u (Pur.ix Tryz.underlying39 sz87 rfl rfl hp22 hq23) rfl ?_
        refine go ?_
        refine LW.l (Ldr.oldN w0 ag45 rfl rfl (fun j u hu => oldsub (m := 3) hk28 2 hu)) (hS3.same _ hb29.1 hb29.2) rfl ?_
        replace ⟨y34, hy34, h⟩ := obind h
        refine go ?_
        refine LW.c0 (W_s_AmtOk hy34) hS3 fun w35 hS5 => ?_
        refine go ?_
        cases oi h
        exact ⟨⟨rfl, rfl, rfl, trivial⟩, hS5.pick [] rfl rfl⟩
      rintro e w36 ⟨hE, hS6⟩
      obtain ⟨e, rfl⟩ := hE.out
      have h := h20
      refine go ?_
      refine CW.cond rfl (fun hc37 => ?_) (fun hc37 => ?_)
      · replace h := bcT h hc37
        refine go ?_
        cases oi h
        exact ⟨trivial, rfl, _, rfl, ⟨_, Res.one (resOne.t rfl), rfl, hS6.pick [] rfl rfl⟩⟩
      replace h := bcF h hc37
      refine gs ?_
      obtain ⟨j38, hj38, h39⟩ := obind h
      refine CW.cut (fun e wb => En e [(0, .slice a0_0 x0.length c0_0), (3, .int .i64 s16), (91, .bool j38)] ∧ St w0 [] wb []) ?_ ?_
      · have h := hj38
        refine go ?_
        rcases bcases (decide (s16 > 0)) with hc40 | hc40
        · replace h := bcT h hc40
          refine go ?_
          replace ⟨y41, hy41, h⟩ := obind h
          obtain ⟨b44, o45, cs46, hae, hb49, hp42, hq43, hd47, hk48⟩ := hr0_0.idx hy41
          subst hae
          obtain rfl := hd47
          refine go ?_
          refine LW.u (Pur.ix Tryz.underlying39 sz87 rfl rfl hp42 hq43) rfl ?_
          refine go ?_
          refine LW.l (Ldr.old w0 ag4 rfl (hk48 0 _ rfl)) (hS6.same _ hb49.1 hb49.2) rfl ?_
          refine go ?_
          rcases bcases y41.live with hc50 | hc50
          · replace h := bcT h hc50
            refine go ?_
            refine LW.u (Pur.ix Tryz.underlying39 sz87 rfl rfl hp42 hq43) rfl ?_
            refine go ?_
            refine LW.l (Ldr.old w0 ag3 rfl (hk48 1 _ rfl)) (hS6.same _ hb49.1 hb49.2) rfl ?_
            replace ⟨y51, hy51, h⟩ := obind h
            refine go ?_
            refine LW.c0 (W_s_l6Res hy51) hS6 fun w52 hS7 => ?_
            refine go ?_
            refine LW.fl [0, 3, 62, 70] fun e => ?_
            rcases bcases (!y51) with hc53 | hc53
            · replace h := bcT h hc53
              refine go ?_
              cases oi h
              exact ⟨⟨rfl, rfl, rfl, trivial⟩, hS7.pick [] rfl rfl⟩
            replace h := bcF h hc53
            refine go ?_
            refine LW.u (Pur.ix Tryz.underlying39 sz87 rfl rfl hp42 hq43) rfl ?_
            refine go ?_
            refine LW.l (Ldr.old w0 ag3 rfl (hk48 1 _ rfl)) (hS7.same _ hb49.1 hb49.2) rfl ?_
            refine go ?_
            rcases bcases (y41.parent == s16) with hc54 | hc54
            · replace h := bcT h hc54
              refine go ?_
              cases oi h
              exact ⟨⟨rfl, rfl, rfl, trivial⟩, hS7.pick [] rfl rfl⟩
            replace h := bcF h hc54
            refine go ?_
            refine LW.u (Pur.ix Tryz.underlying39 sz87 rfl rfl hp42 hq43) rfl ?_
            refine go ?_
            refine LW.l (Ldr.old w0 ag3 rfl (hk48 1 _ rfl)) (hS7.same _ hb49.1 hb49.2) rfl ?_
            replace ⟨y55, hy55, h⟩ := obind h
            obtain ⟨b58, o59, cs60, hae, hb63, hp56, hq57, hd61, hk62⟩ := hr0_0.idx hy55
            cases hae
            obtain rfl := hd61
            refine go ?_
            refine LW.u (Pur.ix Tryz.underlying39 sz87 rfl rfl hp56 hq57) rfl ?_
            refine go ?_
            refine LW.l (Ldr.old w0 ag4 rfl (hk62 0 _ rfl)) (hS7.same _ hb63.1 hb63.2) rfl ?_
            refine go ?_
            cases oi h
            exact ⟨⟨rfl, rfl, rfl, trivial⟩, hS7.pick [] rfl rfl⟩
          replace h := bcF h hc50
          refine go ?_
          cases oi h
          exact ⟨⟨rfl, rfl, rfl, trivial⟩, hS6.pick [] rfl rfl⟩
        replace h := bcF h hc40
        refine go ?_
        cases oi h
        exact ⟨⟨rfl, rfl, rfl, trivial⟩, hS6.pick [] rfl rfl⟩
      rintro e w64 ⟨hE, hS8⟩
      obtain ⟨e, rfl⟩ := hE.out
      have h := h39
      refine go ?_
      refine CW.cond rfl (fun hc65 => ?_) (fun hc65 => ?_)
      · replace h := bcT h hc65
        refine go ?_
        cases oi h
        exact ⟨trivial, rfl, _, rfl, ⟨_, Res.one (resOne.t rfl), rfl, hS8.pick [] rfl rfl⟩⟩
      replace h := bcF h hc65
      refine go ?_
      cases oi h
      exact ⟨rfl, ⟨⟨rfl, rfl, trivial⟩, hS8.pick [] rfl rfl⟩⟩
    replace h := bcF h hc18
    refine go ?_
    cases oi h
    exact ⟨trivial, rfl, ⟨⟨rfl, trivial⟩, hS3.pick [] rfl rfl⟩⟩
  intro x e w68 hM
  rcases o66 with o66 | r123
  · obtain ⟨rfl, hM⟩ := hM
    obtain ⟨hE, hS9⟩ := hM
    obtain ⟨e, rfl⟩ := hE.out
    have h := h67
    refine go ?_
    obtain ⟨o115, ho115, h116⟩ := obind h
    refine CW.mono (CW.iter (σ := Int) (ρ := Int ⊕ Bool) (fun s69 e wb => En e [(0, .slice a0_0 x0.length c0_0), (4, .int .i64 s69)] ∧ St w0 [] wb []) (fun o x e wb => match o with | .inl s69 => x = .exit 2 ∧ En e [(0, .slice a0_0 x0.length c0_0)] ∧ St w0 [] wb [] | .inr r => x = .ret ∧ ∃ u, u = r ∧ ∃ v, Res Tryz.prog Tryz.f142.results e wb v ∧ v = .bool u ∧ St w0 [] wb []) ?_ N 0 _ _ _ ⟨⟨rfl, rfl, trivial⟩, hS9.pick [] rfl rfl⟩ ho115) ?_
    · intro s69 e w70 o hM h
      obtain ⟨hE, hS10⟩ := hM
      obtain ⟨e, rfl⟩ := hE.out
      refine go ?_
      refine CW.cond rfl (fun hc71 => ?_) (fun hc71 => ?_)
      · replace h := bcT h hc71
        refine go ?_
        obtain ⟨o98, ho98, h99⟩ := obind h
        refine CW.mono (CW.iter (σ := Int × Int) (ρ := Int × Int) (fun s72 e wb => En e [(0, .slice a0_0 x0.length c0_0), (4, .int .i64 s69), (5, .int .i64 s72.1), (6, .int .i64 s72.2)] ∧ St w0 [] wb []) (fun s72 x e wb => x = .exit 4 ∧ En e [(0, .slice a0_0 x0.length c0_0), (4, .int .i64 s69), (5, .int .i64 s72.1)] ∧ St w0 [] wb []) ?_ N (s69, 0) _ _ _ ⟨⟨rfl, rfl, rfl, rfl, trivial⟩, hS10.pick [] rfl rfl⟩ ho98) ?_
        · intro s72 e w73 o hM h
          obtain ⟨hE, hS11⟩ := hM
          obtain ⟨e, rfl⟩ := hE.out
          refine gs ?_
          obtain ⟨j74, hj74, h75⟩ := obind h
          refine CW.cut (fun e wb => En e [(0, .slice a0_0 x0.length c0_0), (4, .int .i64 s69), (5, .int .i64 s72.1), (6, .int .i64 s72.2), (111, .bool j74)] ∧ St w0 [] wb []) ?_ ?_
          · have h := hj74
            refine go ?_
            rcases bcases (decide (s72.2 < 5)) with hc76 | hc76
            · replace h := bcT h hc76
              refine go ?_
              replace ⟨y77, hy77, h⟩ := obind h
              obtain ⟨b80, o81, cs82, hae, hb85, hp78, hq79, hd83, hk84⟩ := hr0_0.idx hy77
              subst hae
              obtain rfl := hd83
              refine go ?_
              refine LW.u (Pur.ix Tryz.underlying39 sz87 rfl rfl hp78 hq79) rfl ?_
              refine go ?_
              refine LW.l (Ldr.old w0 ag4 rfl (hk84 0 _ rfl)) (hS11.same _ hb85.1 hb85.2) rfl ?_
              refine go ?_
              rcases bcases y77.live with hc86 | hc86
              · replace h := bcT h hc86
                refine go ?_
                cases oi h
                exact ⟨⟨rfl, rfl, rfl, rfl, rfl, trivial⟩, hS11.pick [] rfl rfl⟩
              replace h := bcF h hc86
              refine go ?_
              cases oi h
              exact ⟨⟨rfl, rfl, rfl, rfl, rfl, trivial⟩, hS11.pick [] rfl rfl⟩
            replace h := bcF h hc76
            refine go ?_
            cases oi h
            exact ⟨⟨rfl, rfl, rfl, rfl, rfl, trivial⟩, hS11.pick [] rfl rfl⟩
          rintro e w87 ⟨hE, hS12⟩
          obtain ⟨e, rfl⟩ := hE.out
          have h := h75
          refine go ?_
          refine CW.cond rfl (fun hc88 => ?_) (fun hc88 => ?_)
          · replace h := bcT h hc88
            refine go ?_
            replace ⟨y89, hy89, h⟩ := obind h
            obtain ⟨b92, o93, cs94, hae, hb97, hp90, hq91, hd95, hk96⟩ := hr0_0.idx hy89
            subst hae
            obtain rfl := hd95
            refine LW.u (Pur.ix Tryz.underlying39 sz87 rfl rfl hp90 hq91) rfl ?_
            refine go ?_
            refine LW.l (Ldr.old w0 ag3 rfl (hk96 1 _ rfl)) (hS12.same _ hb97.1 hb97.2) rfl ?_
            refine go ?_
            cases oi h
            exact ⟨rfl, ⟨⟨rfl, rfl, rfl, rfl, trivial⟩, hS12.pick [] rfl rfl⟩⟩
          replace h := bcF h hc88
          refine go ?_
          cases oi h
          exact ⟨trivial, rfl, ⟨⟨rfl, rfl, rfl, trivial⟩, hS12.pick [] rfl rfl⟩⟩
        intro x e w100 hM
        obtain ⟨rfl, hM⟩ := hM
        obtain ⟨hE, hS13⟩ := hM
        obtain ⟨e, rfl⟩ := hE.out
        have h := h99
        refine gs ?_
        obtain ⟨j101, hj101, h102⟩ := obind h
        refine CW.cut (fun e wb => En e [(0, .slice a0_0 x0.length c0_0), (4, .int .i64 s69), (127, .bool j101)] ∧ St w0 [] wb []) ?_ ?_
        · have h := hj101
          refine go ?_
          replace ⟨y103, hy103, h⟩ := obind h
          obtain ⟨b106, o107, cs108, hae, hb111, hp104, hq105, hd109, hk110⟩ := hr0_0.idx hy103
          subst hae
          obtain rfl := hd109
          refine LW.u (Pur.ix Tryz.underlying39 sz87 rfl rfl hp104 hq105) rfl ?_
          refine go ?_
          refine LW.l (Ldr.old w0 ag4 rfl (hk110 0 _ rfl)) (hS13.same _ hb111.1 hb111.2) rfl ?_
          refine go ?_
          rcases bcases y103.live with hc112 | hc112
          · replace h := bcT h hc112
            refine go ?_
            cases oi h
            exact ⟨⟨rfl, rfl, rfl, trivial⟩, hS13.pick [] rfl rfl⟩
          replace h := bcF h hc112
          refine go ?_
          cases oi h
          exact ⟨⟨rfl, rfl, rfl, trivial⟩, hS13.pick [] rfl rfl⟩
        rintro e w113 ⟨hE, hS14⟩
        obtain ⟨e, rfl⟩ := hE.out
        have h := h102
        refine go ?_
        refine CW.cond rfl (fun hc114 => ?_) (fun hc114 => ?_)
        · replace h := bcT h hc114
          refine go ?_
          cases oi h
          exact ⟨trivial, rfl, _, rfl, ⟨_, Res.one (resOne.t rfl), rfl, hS14.pick [] rfl rfl⟩⟩
        replace h := bcF h hc114
        refine go ?_
        cases oi h
        exact ⟨rfl, ⟨⟨rfl, rfl, trivial⟩, hS14.pick [] rfl rfl⟩⟩
      replace h := bcF h hc71
      refine go ?_
      cases oi h
      exact ⟨trivial, rfl, ⟨⟨rfl, trivial⟩, hS10.pick [] rfl rfl⟩⟩
    intro x e w117 hM
    rcases o115 with o115 | r122
    · obtain ⟨rfl, hM⟩ := hM
      obtain ⟨hE, hS15⟩ := hM
      obtain ⟨e, rfl⟩ := hE.out
      have h := h116
      refine go ?_
      replace ⟨y118, hy118, h⟩ := obind h
      refine LW.c0 (W_s_l6Sum hy118 rfl (hS15.rB hr0_0)) hS15 fun w119 hS16 => ?_
      replace ⟨y120, hy120, h⟩ := obind h
      refine LW.c0 (W_s_AmtOk hy120) hS16 fun w121 hS17 => ?_
      refine go ?_
      cases h
      exact And.intro trivial ⟨_, Res.one (resOne.t rfl), rfl, hS17.pick [] rfl rfl⟩
    obtain ⟨rfl, u, rfl, hM⟩ := hM
    cases h116
    exact And.intro trivial hM
  obtain ⟨rfl, u, rfl, hM⟩ := hM
  cases h67
  exact And.intro trivial hM

theorem W_s_TapOk {w0 : World} {N : Nat} {x0 : DTap} {r : Bool} (h : F_s_TapOk N x0 = some r) :
    Ret Tryz.prog 144 #[.agg #[.int .i64 x0.res, .int .i64 x0.toPart, .int .i64 x0.toRes, .int .i64 x0.which, .int .i64 x0.kind, .int .i64 x0.rate]] w0 (fun v w => v = .bool r ∧ St w0 [] w []) := by
  unfold F_s_TapOk at h
  refine Ret.fn Tryz.func144 fun e => ?_
  have hS1 := St.start w0
  refine go ?_
  refine LW.bo hS1 fun g1 w2 hS2 => ?_
  refine gs ?_
  obtain ⟨j3, hj3, h4⟩ := obind h
  refine CW.cut (fun e wb => En e [(1, .pointer (some ⟨g1, 0, none⟩)), (24, .bool j3)] ∧ St w0 [] wb [bx g1 135 [.int .i64 x0.res, .int .i64 x0.toPart, .int .i64 x0.toRes, .int .i64 x0.which, .int .i64 x0.kind, .int .i64 x0.rate]]) ?_ ?_
  · have h := hj3
    refine go ?_
    replace ⟨y5, hy5, h⟩ := obind h
    refine LW.c0 (W_s_l6Res hy5) hS2 fun w6 hS3 => ?_
    refine go ?_
    rcases bcases (!y5) with hc7 | hc7
    · replace h := bcT h hc7
      refine go ?_
      cases oi h
      exact ⟨⟨rfl, rfl, trivial⟩, hS3.pick [0] rfl rfl⟩
    replace h := bcF h hc7
    refine go ?_
    replace ⟨y8, hy8, h⟩ := obind h
    refine go ?_
    refine LW.c0 (W_s_l1In hy8) hS3 fun w9 hS4 => ?_
    refine go ?_
    rcases bcases (!y8) with hc10 | hc10
    · replace h := bcT h hc10
      refine go ?_
      cases oi h
      exact ⟨⟨rfl, rfl, trivial⟩, hS4.pick [0] rfl rfl⟩
    replace h := bcF h hc10
    refine go ?_
    replace ⟨y11, hy11, h⟩ := obind h
    refine go ?_
    refine LW.c0 (W_s_l6Res hy11) hS4 fun w12 hS5 => ?_
    refine go ?_
    rcases bcases (!y11) with hc13 | hc13
    · replace h := bcT h hc13
      refine go ?_
      cases oi h
      exact ⟨⟨rfl, rfl, trivial⟩, hS5.pick [0] rfl rfl⟩
    replace h := bcF h hc13
    refine go ?_
    replace ⟨y14, hy14, h⟩ := obind h
    refine go ?_
    refine LW.c0 (W_s_l1In hy14) hS5 fun w15 hS6 => ?_
    refine go ?_
    cases oi h
    exact ⟨⟨rfl, rfl, trivial⟩, hS6.pick [0] rfl rfl⟩
  rintro e w16 ⟨hE, hS7⟩
  obtain ⟨e, rfl⟩ := hE.out
  have h := h4
  refine go ?_
  refine CW.cond rfl (fun hc17 => ?_) (fun hc17 => ?_)
  · replace h := bcT h hc17
    refine go ?_
    cases h
    exact And.intro trivial ⟨_, Res.one (resOne.t rfl), rfl, hS7.pick [] rfl rfl⟩
  replace h := bcF h hc17
  refine go ?_
  refine CW.cond rfl (fun hc18 => ?_) (fun hc18 => ?_)
  · replace h := bcT h hc18
    refine go ?_
    replace ⟨y19, hy19, h⟩ := obind h
    refine LW.c0 (W_s_l1In hy19) hS7 fun w20 hS8 => ?_
    refine go ?_
    cases h
    exact And.intro trivial ⟨_, Res.one (resOne.t rfl), rfl, hS8.pick [] rfl rfl⟩
  replace h := bcF h hc18
  refine go ?_
  refine CW.cond rfl (fun hc21 => ?_) (fun hc21 => ?_)
  · replace h := bcT h hc21
    refine go ?_
    replace ⟨y22, hy22, h⟩ := obind h
    refine LW.c0 (W_s_l1In hy22) hS7 fun w23 hS9 => ?_
    refine go ?_
    cases h
    exact And.intro trivial ⟨_, Res.one (resOne.t rfl), rfl, hS9.pick [] rfl rfl⟩
  replace h := bcF h hc21
  refine go ?_
  cases h
  exact And.intro trivial ⟨_, Res.one (resOne.t rfl), rfl, hS7.pick [] rfl rfl⟩

theorem W_s_PartOk {w0 : World} {N : Nat} {x0 : DPart} {r : Bool} (h : F_s_PartOk N x0 = some r) {a0_0 : Option Addr} {n0_0 c0_0 : Nat} (hn0_0 : n0_0 = x0.label.levels.length) (hr0_0 : rdS (Bor w0 []) w0 a0_0 c0_0 x0.label.levels) {a0_1 : Option Addr} {n0_1 c0_1 : Nat} (hn0_1 : n0_1 = x0.own.length) (hr0_1 : rdS (Bor w0 []) w0 a0_1 c0_1 x0.own) {a0_2 : Option Addr} {n0_2 c0_2 : Nat} (hn0_2 : n0_2 = x0.tree.length) (hr0_2 : rdS (Bor w0 []) w0 a0_2 c0_2 x0.tree) {a0_3 : Option Addr} {n0_3 c0_3 : Nat} (hn0_3 : n0_3 = x0.heap.arena.length) (hr0_3 : rdS (Bor w0 []) w0 a0_3 c0_3 x0.heap.arena) {a0_7 : Option Addr} {n0_7 c0_7 : Nat} (hn0_7 : n0_7 = x0.heap.gc.grey.length) (hr0_7 : rdS (Bor w0 []) w0 a0_7 c0_7 x0.heap.gc.grey) {a0_8 : Option Addr} {n0_8 c0_8 : Nat} (hn0_8 : n0_8 = x0.taps.length) (hr0_8 : rdS (Bor w0 []) w0 a0_8 c0_8 x0.taps) :
    Ret Tryz.prog 88 #[.agg #[.slice a0_0 n0_0 c0_0, .slice a0_1 n0_1 c0_1, .slice a0_2 n0_2 c0_2, .slice a0_3 n0_3 c0_3, .int .i64 x0.heap.gc.phase, .int .i64 x0.heap.gc.pos, .int .i64 x0.heap.gc.round, .slice a0_7 n0_7 c0_7, .slice a0_8 n0_8 c0_8, .int .i64 x0.next, .int .i64 x0.want, .int .i64 x0.spent.pages, .int .i64 x0.spent.rent, .int .i64 x0.spent.cpu, .int .i64 x0.press, .int .i64 x0.lost]] w0 (fun v w => v = .bool r ∧ St w0 [] w []) := by
  subst hn0_0 hn0_1 hn0_2 hn0_3 hn0_7 hn0_8
  unfold F_s_PartOk at h
  refine Ret.fn Tryz.func88 fun e => ?_
  have hS1 := St.start w0
  refine go ?_
  refine LW.bo hS1 fun g1 w2 hS2 => ?_
  refine gs ?_
  obtain ⟨j3, hj3, h4⟩ := obind h
  refine CW.cut (fun e wb => En e [(1, .pointer (some ⟨g1, 0, none⟩)), (61, .bool j3)] ∧ St w0 [] wb [bx g1 47 [.slice a0_0 x0.label.levels.length c0_0, .slice a0_1 x0.own.length c0_1, .slice a0_2 x0.tree.length c0_2, .slice a0_3 x0.heap.arena.length c0_3, .int .i64 x0.heap.gc.phase, .int .i64 x0.heap.gc.pos, .int .i64 x0.heap.gc.round, .slice a0_7 x0.heap.gc.grey.length c0_7, .slice a0_8 x0.taps.length c0_8, .int .i64 x0.next, .int .i64 x0.want, .int .i64 x0.spent.pages, .int .i64 x0.spent.rent, .int .i64 x0.spent.cpu, .int .i64 x0.press, .int .i64 x0.lost]]) ?_ ?_
  · have h := hj3
    refine go ?_
    replace ⟨y5, hy5, h⟩ := obind h
    refine LW.c0 (W_s_LabelOk hy5 rfl (hS2.rB hr0_0)) hS2 fun w6 hS3 => ?_
    refine go ?_
    rcases bcases (!y5) with hc7 | hc7
    · replace h := bcT h hc7
      refine go ?_
      cases oi h
      exact ⟨⟨rfl, rfl, trivial⟩, hS3.pick [0] rfl rfl⟩
    replace h := bcF h hc7
    refine go ?_
    replace ⟨y8, hy8, h⟩ := obind h
    refine go ?_
    refine LW.c0 (W_s_OwnOk hy8 rfl (hS3.rB hr0_1)) hS3 fun w9 hS4 => ?_
    refine go ?_
    rcases bcases (!y8) with hc10 | hc10
    · replace h := bcT h hc10
      refine go ?_
      cases oi h
      exact ⟨⟨rfl, rfl, trivial⟩, hS4.pick [0] rfl rfl⟩
    replace h := bcF h hc10
    refine go ?_
    replace ⟨y11, hy11, h⟩ := obind h
    refine go ?_
    refine LW.c0 (W_s_TreeOk hy11 rfl (hS4.rB hr0_2)) hS4 fun w12 hS5 => ?_
    refine go ?_
    rcases bcases (!y11) with hc13 | hc13
    · replace h := bcT h hc13
      refine go ?_
      cases oi h
      exact ⟨⟨rfl, rfl, trivial⟩, hS5.pick [0] rfl rfl⟩
    replace h := bcF h hc13
    refine go ?_
    replace ⟨y14, hy14, h⟩ := obind h
    refine go ?_
    refine LW.c0 (W_s_HeapOk hy14 rfl (hS5.rB hr0_3) rfl (hS5.rB hr0_7)) hS5 fun w15 hS6 => ?_
    refine go ?_
    refine LW.fl [1, 26] fun e => ?_
    rcases bcases (!y14) with hc16 | hc16
    · replace h := bcT h hc16
      refine go ?_
      cases oi h
      exact ⟨⟨rfl, rfl, trivial⟩, hS6.pick [0] rfl rfl⟩
    replace h := bcF h hc16
    refine go ?_
    rcases bcases (decide ((x0.taps.length : Int) > 3)) with hc17 | hc17
    · replace h := bcT h hc17
      refine go ?_
      cases oi h
      exact ⟨⟨rfl, rfl, trivial⟩, hS6.pick [0] rfl rfl⟩
    replace h := bcF h hc17
    refine go ?_
    replace ⟨y18, hy18, h⟩ := obind h
    refine go ?_
    refine LW.c0 (W_s_l8Slot hy18) hS6 fun w19 hS7 => ?_
    refine go ?_
    rcases bcases (!y18) with hc20 | hc20
    · replace h := bcT h hc20
      refine go ?_
      cases oi h
      exact ⟨⟨rfl, rfl, trivial⟩, hS7.pick [0] rfl rfl⟩
    replace h := bcF h hc20
    refine go ?_
    replace ⟨y21, hy21, h⟩ := obind h
    refine go ?_
    refine LW.c0 (W_s_l1In hy21) hS7 fun w22 hS8 => ?_
    refine go ?_
    rcases bcases (!y21) with hc23 | hc23
    · replace h := bcT h hc23
      refine go ?_
      cases oi h
      exact ⟨⟨rfl, rfl, trivial⟩, hS8.pick [0] rfl rfl⟩
    replace h := bcF h hc23
    refine go ?_
    replace ⟨y24, hy24, h⟩ := obind h
    refine go ?_
    refine LW.c0 (W_s_AmtOk hy24) hS8 fun w25 hS9 => ?_
    refine go ?_
    refine LW.fl [1, 50] fun e => ?_
    rcases bcases (!y24) with hc26 | hc26
    · replace h := bcT h hc26
      refine go ?_
      cases oi h
      exact ⟨⟨rfl, rfl, trivial⟩, hS9.pick [0] rfl rfl⟩
    replace h := bcF h hc26
    refine go ?_
    replace ⟨y27, hy27, h⟩ := obind h
    refine go ?_
    refine LW.c0 (W_s_l1In hy27) hS9 fun w28 hS10 => ?_
    refine go ?_
    rcases bcases (!y27) with hc29 | hc29
    · replace h := bcT h hc29
      refine go ?_
      cases oi h
      exact ⟨⟨rfl, rfl, trivial⟩, hS10.pick [0] rfl rfl⟩
    replace h := bcF h hc29
    refine go ?_
    replace ⟨y30, hy30, h⟩ := obind h
    refine go ?_
    refine LW.c0 (W_s_l1In hy30) hS10 fun w31 hS11 => ?_
    refine go ?_
    cases oi h
    exact ⟨⟨rfl, rfl, trivial⟩, hS11.pick [0] rfl rfl⟩
  rintro e w32 ⟨hE, hS12⟩
  obtain ⟨e, rfl⟩ := hE.out
  have h := h4
  refine go ?_
  refine CW.cond rfl (fun hc33 => ?_) (fun hc33 => ?_)
  · replace h := bcT h hc33
    refine go ?_
    cases h
    exact And.intro trivial ⟨_, Res.one (resOne.t rfl), rfl, hS12.pick [] rfl rfl⟩
  replace h := bcF h hc33
  refine go ?_
  obtain ⟨o49, ho49, h50⟩ := obind h
  refine CW.mono (CW.iter (σ := Int) (ρ := Int ⊕ Bool) (fun s34 e wb => En e [(1, .pointer (some ⟨g1, 0, none⟩)), (3, .int .i64 s34)] ∧ St w0 [] wb [bx g1 47 [.slice a0_0 x0.label.levels.length c0_0, .slice a0_1 x0.own.length c0_1, .slice a0_2 x0.tree.length c0_2, .slice a0_3 x0.heap.arena.length c0_3, .int .i64 x0.heap.gc.phase, .int .i64 x0.heap.gc.pos, .int .i64 x0.heap.gc.round, .slice a0_7 x0.heap.gc.grey.length c0_7, .slice a0_8 x0.taps.length c0_8, .int .i64 x0.next, .int .i64 x0.want, .int .i64 x0.spent.pages, .int .i64 x0.spent.rent, .int .i64 x0.spent.cpu, .int .i64 x0.press, .int .i64 x0.lost]]) (fun o x e wb => match o with | .inl s34 => x = .exit 0 ∧ En e [] ∧ St w0 [] wb [bx g1 47 [.slice a0_0 x0.label.levels.length c0_0, .slice a0_1 x0.own.length c0_1, .slice a0_2 x0.tree.length c0_2, .slice a0_3 x0.heap.arena.length c0_3, .int .i64 x0.heap.gc.phase, .int .i64 x0.heap.gc.pos, .int .i64 x0.heap.gc.round, .slice a0_7 x0.heap.gc.grey.length c0_7, .slice a0_8 x0.taps.length c0_8, .int .i64 x0.next, .int .i64 x0.want, .int .i64 x0.spent.pages, .int .i64 x0.spent.rent, .int .i64 x0.spent.cpu, .int .i64 x0.press, .int .i64 x0.lost]] | .inr r => x = .ret ∧ ∃ u, u = r ∧ ∃ v, Res Tryz.prog Tryz.f88.results e wb v ∧ v = .bool u ∧ St w0 [] wb []) ?_ N 0 _ _ _ ⟨⟨rfl, rfl, trivial⟩, hS12.pick [0] rfl rfl⟩ ho49) ?_
  · intro s34 e w35 o hM h
    obtain ⟨hE, hS13⟩ := hM
    obtain ⟨e, rfl⟩ := hE.out
    refine go ?_
    refine CW.cond rfl (fun hc36 => ?_) (fun hc36 => ?_)
    · replace h := bcT h hc36
      refine go ?_
      replace ⟨y37, hy37, h⟩ := obind h
      obtain ⟨b40, o41, cs42, hae, hb45, hp38, hq39, hd43, hk44⟩ := hr0_8.idx hy37
      subst hae
      obtain rfl := hd43
      refine LW.u (Pur.ix Tryz.underlying44 sz135 rfl rfl hp38 hq39) rfl ?_
      refine LW.l (Ldr.oldN w0 ag135 rfl rfl (fun j u hu => hk44 j u hu)) (hS13.same _ hb45.1 hb45.2) rfl ?_
      replace ⟨y46, hy46, h⟩ := obind h
      refine LW.c0 (W_s_TapOk hy46) hS13 fun w47 hS14 => ?_
      refine go ?_
      refine CW.fl [1, 3, 75] fun e => ?_
      refine CW.cond rfl (fun hc48 => ?_) (fun hc48 => ?_)
      · replace h := bcT h hc48
        refine go ?_
        cases oi h
        exact ⟨trivial, rfl, _, rfl, ⟨_, Res.one (resOne.t rfl), rfl, hS14.pick [] rfl rfl⟩⟩
      replace h := bcF h hc48
      refine go ?_
      cases oi h
      exact ⟨rfl, ⟨⟨rfl, rfl, trivial⟩, hS14.pick [0] rfl rfl⟩⟩
    replace h := bcF h hc36
    refine go ?_
    cases oi h
    exact ⟨trivial, rfl, ⟨trivial, hS13.pick [0] rfl rfl⟩⟩
  intro x e w51 hM
  rcases o49 with o49 | r52
  · obtain ⟨rfl, hM⟩ := hM
    obtain ⟨hE, hS15⟩ := hM
    obtain ⟨e, rfl⟩ := hE.out; rw [show e = upds e [] from rfl]
    have h := h50
    refine go ?_
    cases h
    exact And.intro trivial ⟨_, Res.one (resOne.t rfl), rfl, hS15.pick [] rfl rfl⟩
  obtain ⟨rfl, u, rfl, hM⟩ := hM
  cases h50
  exact And.intro trivial hM

theorem W_i_isPart {w0 : World} {N : Nat} {x0 : Int} {r : Bool} (h : F_i_isPart N x0 = some r) :
    Ret Tryz.prog 176 #[.int .i64 x0] w0 (fun v w => v = .bool r ∧ St w0 [] w []) := by
  unfold F_i_isPart at h
  refine Ret.fn Tryz.func176 fun e => ?_
  have hS1 := St.start w0
  refine go ?_
  replace ⟨y1, hy1, h⟩ := obind h
  refine LW.c0 (W_i_within hy1) hS1 fun w2 hS2 => ?_
  refine go ?_
  cases h
  exact And.intro trivial ⟨_, Res.one (resOne.t rfl), rfl, hS2.pick [] rfl rfl⟩

theorem W_i_TapOk {w0 : World} {N : Nat} {x0 : DTap} {r : Bool} (h : F_i_TapOk N x0 = some r) :
    Ret Tryz.prog 149 #[.agg #[.int .i64 x0.res, .int .i64 x0.toPart, .int .i64 x0.toRes, .int .i64 x0.which, .int .i64 x0.kind, .int .i64 x0.rate]] w0 (fun v w => v = .bool r ∧ St w0 [] w []) := by
  unfold F_i_TapOk at h
  refine Ret.fn Tryz.func149 fun e => ?_
  have hS1 := St.start w0
  refine go ?_
  refine LW.bo hS1 fun g1 w2 hS2 => ?_
  refine gs ?_
  obtain ⟨j3, hj3, h4⟩ := obind h
  refine CW.cut (fun e wb => En e [(1, .pointer (some ⟨g1, 0, none⟩)), (24, .bool j3)] ∧ St w0 [] wb [bx g1 135 [.int .i64 x0.res, .int .i64 x0.toPart, .int .i64 x0.toRes, .int .i64 x0.which, .int .i64 x0.kind, .int .i64 x0.rate]]) ?_ ?_
  · have h := hj3
    refine go ?_
    replace ⟨y5, hy5, h⟩ := obind h
    refine LW.c0 (W_i_isPlace hy5) hS2 fun w6 hS3 => ?_
    refine go ?_
    rcases bcases (!y5) with hc7 | hc7
    · replace h := bcT h hc7
      refine go ?_
      cases oi h
      exact ⟨⟨rfl, rfl, trivial⟩, hS3.pick [0] rfl rfl⟩
    replace h := bcF h hc7
    refine go ?_
    replace ⟨y8, hy8, h⟩ := obind h
    refine go ?_
    refine LW.c0 (W_i_isPlace hy8) hS3 fun w9 hS4 => ?_
    refine go ?_
    rcases bcases (!y8) with hc10 | hc10
    · replace h := bcT h hc10
      refine go ?_
      cases oi h
      exact ⟨⟨rfl, rfl, trivial⟩, hS4.pick [0] rfl rfl⟩
    replace h := bcF h hc10
    refine go ?_
    replace ⟨y11, hy11, h⟩ := obind h
    refine go ?_
    refine LW.c0 (W_i_isPart hy11) hS4 fun w12 hS5 => ?_
    refine go ?_
    rcases bcases (!y11) with hc13 | hc13
    · replace h := bcT h hc13
      refine go ?_
      cases oi h
      exact ⟨⟨rfl, rfl, trivial⟩, hS5.pick [0] rfl rfl⟩
    replace h := bcF h hc13
    refine go ?_
    replace ⟨y14, hy14, h⟩ := obind h
    refine go ?_
    refine LW.c0 (W_i_within hy14) hS5 fun w15 hS6 => ?_
    refine go ?_
    cases oi h
    exact ⟨⟨rfl, rfl, trivial⟩, hS6.pick [0] rfl rfl⟩
  rintro e w16 ⟨hE, hS7⟩
  obtain ⟨e, rfl⟩ := hE.out
  have h := h4
  refine go ?_
  refine CW.cond rfl (fun hc17 => ?_) (fun hc17 => ?_)
  · replace h := bcT h hc17
    refine go ?_
    cases h
    exact And.intro trivial ⟨_, Res.one (resOne.t rfl), rfl, hS7.pick [] rfl rfl⟩
  replace h := bcF h hc17
  refine go ?_
  rcases bcases (x0.kind == 1) with hc18 | hc18
  · replace h := bcT h hc18
    refine go ?_
    replace ⟨y19, hy19, h⟩ := obind h
    refine go ?_
    refine LW.c0 (W_i_within hy19) hS7 fun w20 hS8 => ?_
    refine go ?_
    rcases bcases y19 with hc21 | hc21
    · replace h := bcT h hc21
      refine go ?_
      cases h
      exact And.intro trivial ⟨_, Res.one (resOne.t rfl), rfl, hS8.pick [] rfl rfl⟩
    replace h := bcF h hc21
    refine go ?_
    rcases bcases (x0.kind == 2) with hc22 | hc22
    · replace h := bcT h hc22
      refine go ?_
      replace ⟨y23, hy23, h⟩ := obind h
      refine go ?_
      refine LW.c0 (W_i_within hy23) hS8 fun w24 hS9 => ?_
      refine go ?_
      cases h
      exact And.intro trivial ⟨_, Res.one (resOne.t rfl), rfl, hS9.pick [] rfl rfl⟩
    replace h := bcF h hc22
    refine go ?_
    cases h
    exact And.intro trivial ⟨_, Res.one (resOne.t rfl), rfl, hS8.pick [] rfl rfl⟩
  replace h := bcF h hc18
  refine go ?_
  rcases bcases (x0.kind == 2) with hc25 | hc25
  · replace h := bcT h hc25
    refine go ?_
    replace ⟨y26, hy26, h⟩ := obind h
    refine go ?_
    refine LW.c0 (W_i_within hy26) hS7 fun w27 hS10 => ?_
    refine go ?_
    cases h
    exact And.intro trivial ⟨_, Res.one (resOne.t rfl), rfl, hS10.pick [] rfl rfl⟩
  replace h := bcF h hc25
  refine go ?_
  cases h
  exact And.intro trivial ⟨_, Res.one (resOne.t rfl), rfl, hS7.pick [] rfl rfl⟩

theorem W_i_PartOk {w0 : World} {N : Nat} {x0 : DPart} {r : Bool} (h : F_i_PartOk N x0 = some r) {a0_0 : Option Addr} {n0_0 c0_0 : Nat} (hn0_0 : n0_0 = x0.label.levels.length) (hr0_0 : rdS (Bor w0 []) w0 a0_0 c0_0 x0.label.levels) {a0_1 : Option Addr} {n0_1 c0_1 : Nat} (hn0_1 : n0_1 = x0.own.length) (hr0_1 : rdS (Bor w0 []) w0 a0_1 c0_1 x0.own) {a0_2 : Option Addr} {n0_2 c0_2 : Nat} (hn0_2 : n0_2 = x0.tree.length) (hr0_2 : rdS (Bor w0 []) w0 a0_2 c0_2 x0.tree) {a0_3 : Option Addr} {n0_3 c0_3 : Nat} (hn0_3 : n0_3 = x0.heap.arena.length) (hr0_3 : rdS (Bor w0 []) w0 a0_3 c0_3 x0.heap.arena) {a0_7 : Option Addr} {n0_7 c0_7 : Nat} (hn0_7 : n0_7 = x0.heap.gc.grey.length) (hr0_7 : rdS (Bor w0 []) w0 a0_7 c0_7 x0.heap.gc.grey) {a0_8 : Option Addr} {n0_8 c0_8 : Nat} (hn0_8 : n0_8 = x0.taps.length) (hr0_8 : rdS (Bor w0 []) w0 a0_8 c0_8 x0.taps) :
    Ret Tryz.prog 95 #[.agg #[.slice a0_0 n0_0 c0_0, .slice a0_1 n0_1 c0_1, .slice a0_2 n0_2 c0_2, .slice a0_3 n0_3 c0_3, .int .i64 x0.heap.gc.phase, .int .i64 x0.heap.gc.pos, .int .i64 x0.heap.gc.round, .slice a0_7 n0_7 c0_7, .slice a0_8 n0_8 c0_8, .int .i64 x0.next, .int .i64 x0.want, .int .i64 x0.spent.pages, .int .i64 x0.spent.rent, .int .i64 x0.spent.cpu, .int .i64 x0.press, .int .i64 x0.lost]] w0 (fun v w => v = .bool r ∧ St w0 [] w []) := by
  subst hn0_0 hn0_1 hn0_2 hn0_3 hn0_7 hn0_8
  unfold F_i_PartOk at h
  refine Ret.fn Tryz.func95 fun e => ?_
  have hS1 := St.start w0
  refine go ?_
  refine LW.bo hS1 fun g1 w2 hS2 => ?_
  refine go ?_
  obtain ⟨o21, ho21, h22⟩ := obind h
  refine CW.mono (CW.iter (σ := Int) (ρ := Int ⊕ Bool) (fun s3 e wb => En e [(1, .pointer (some ⟨g1, 0, none⟩)), (6, .slice a0_8 x0.taps.length c0_8), (7, .int .i64 (x0.taps.length : Int)), (8, .int .i64 s3)] ∧ St w0 [] wb [bx g1 47 [.slice a0_0 x0.label.levels.length c0_0, .slice a0_1 x0.own.length c0_1, .slice a0_2 x0.tree.length c0_2, .slice a0_3 x0.heap.arena.length c0_3, .int .i64 x0.heap.gc.phase, .int .i64 x0.heap.gc.pos, .int .i64 x0.heap.gc.round, .slice a0_7 x0.heap.gc.grey.length c0_7, .slice a0_8 x0.taps.length c0_8, .int .i64 x0.next, .int .i64 x0.want, .int .i64 x0.spent.pages, .int .i64 x0.spent.rent, .int .i64 x0.spent.cpu, .int .i64 x0.press, .int .i64 x0.lost]]) (fun o x e wb => match o with | .inl s3 => x = .exit 0 ∧ En e [(1, .pointer (some ⟨g1, 0, none⟩))] ∧ St w0 [] wb [bx g1 47 [.slice a0_0 x0.label.levels.length c0_0, .slice a0_1 x0.own.length c0_1, .slice a0_2 x0.tree.length c0_2, .slice a0_3 x0.heap.arena.length c0_3, .int .i64 x0.heap.gc.phase, .int .i64 x0.heap.gc.pos, .int .i64 x0.heap.gc.round, .slice a0_7 x0.heap.gc.grey.length c0_7, .slice a0_8 x0.taps.length c0_8, .int .i64 x0.next, .int .i64 x0.want, .int .i64 x0.spent.pages, .int .i64 x0.spent.rent, .int .i64 x0.spent.cpu, .int .i64 x0.press, .int .i64 x0.lost]] | .inr r => x = .ret ∧ ∃ u, u = r ∧ ∃ v, Res Tryz.prog Tryz.f95.results e wb v ∧ v = .bool u ∧ St w0 [] wb []) ?_ N 0 _ _ _ ⟨⟨rfl, rfl, rfl, rfl, trivial⟩, hS2.pick [0] rfl rfl⟩ ho21) ?_
  · intro s3 e w4 o hM h
    obtain ⟨hE, hS3⟩ := hM
    obtain ⟨e, rfl⟩ := hE.out
    refine go ?_
    refine CW.cond rfl (fun hc5 => ?_) (fun hc5 => ?_)
    · replace h := bcT h hc5
      refine go ?_
      replace ⟨y6, hy6, h⟩ := obind h
      obtain ⟨b9, o10, cs11, hae, hb14, hp7, hq8, hd12, hk13⟩ := hr0_8.idx hy6
      subst hae
      obtain rfl := hd12
      refine LW.u (Pur.ix Tryz.underlying44 sz135 rfl rfl hp7 hq8) rfl ?_
      refine LW.l (Ldr.oldN w0 ag135 rfl rfl (fun j u hu => hk13 j u hu)) (hS3.same _ hb14.1 hb14.2) rfl ?_
      refine LW.al hS3 fun g15 w16 hS4 => ?_
      refine LW.st hS4 0 fun w17 hS5 => ?_
      refine go ?_
      replace ⟨y18, hy18, h⟩ := obind h
      refine LW.c0 (W_i_TapOk hy18) hS5 fun w19 hS6 => ?_
      refine go ?_
      refine CW.fl [1, 6, 7, 8, 14] fun e => ?_
      refine CW.cond rfl (fun hc20 => ?_) (fun hc20 => ?_)
      · replace h := bcT h hc20
        refine go ?_
        cases oi h
        exact ⟨trivial, rfl, _, rfl, ⟨_, Res.one (resOne.t rfl), rfl, hS6.pick [] rfl rfl⟩⟩
      replace h := bcF h hc20
      refine go ?_
      cases oi h
      exact ⟨rfl, ⟨⟨rfl, rfl, rfl, rfl, trivial⟩, hS6.pick [1] rfl rfl⟩⟩
    replace h := bcF h hc5
    refine go ?_
    cases oi h
    exact ⟨trivial, rfl, ⟨⟨rfl, trivial⟩, hS3.pick [0] rfl rfl⟩⟩
  intro x e w23 hM
  rcases o21 with o21 | r54
  · obtain ⟨rfl, hM⟩ := hM
    obtain ⟨hE, hS7⟩ := hM
    obtain ⟨e, rfl⟩ := hE.out
    have h := h22
    refine gs ?_
    obtain ⟨j24, hj24, h25⟩ := obind h
    refine CW.cut (fun e wb => En e [(1, .pointer (some ⟨g1, 0, none⟩)), (43, .bool j24)] ∧ St w0 [] wb [bx g1 47 [.slice a0_0 x0.label.levels.length c0_0, .slice a0_1 x0.own.length c0_1, .slice a0_2 x0.tree.length c0_2, .slice a0_3 x0.heap.arena.length c0_3, .int .i64 x0.heap.gc.phase, .int .i64 x0.heap.gc.pos, .int .i64 x0.heap.gc.round, .slice a0_7 x0.heap.gc.grey.length c0_7, .slice a0_8 x0.taps.length c0_8, .int .i64 x0.next, .int .i64 x0.want, .int .i64 x0.spent.pages, .int .i64 x0.spent.rent, .int .i64 x0.spent.cpu, .int .i64 x0.press, .int .i64 x0.lost]]) ?_ ?_
    · have h := hj24
      refine go ?_
      replace ⟨y26, hy26, h⟩ := obind h
      refine LW.c0 (W_i_LabelOk hy26 rfl (hS7.rB hr0_0)) hS7 fun w27 hS8 => ?_
      refine go ?_
      rcases bcases (!y26) with hc28 | hc28
      · replace h := bcT h hc28
        refine go ?_
        cases oi h
        exact ⟨⟨rfl, rfl, trivial⟩, hS8.pick [0] rfl rfl⟩
      replace h := bcF h hc28
      refine go ?_
      replace ⟨y29, hy29, h⟩ := obind h
      refine go ?_
      refine LW.c0 (W_i_OwnOk hy29 rfl (hS8.rB hr0_1)) hS8 fun w30 hS9 => ?_
      refine go ?_
      rcases bcases (!y29) with hc31 | hc31
      · replace h := bcT h hc31
        refine go ?_
        cases oi h
        exact ⟨⟨rfl, rfl, trivial⟩, hS9.pick [0] rfl rfl⟩
      replace h := bcF h hc31
      refine go ?_
      replace ⟨y32, hy32, h⟩ := obind h
      refine go ?_
      refine LW.c0 (W_i_TreeOk hy32 rfl (hS9.rB hr0_2)) hS9 fun w33 hS10 => ?_
      refine go ?_
      refine LW.fl [1, 32] fun e => ?_
      rcases bcases (!y32) with hc34 | hc34
      · replace h := bcT h hc34
        refine go ?_
        cases oi h
        exact ⟨⟨rfl, rfl, trivial⟩, hS10.pick [0] rfl rfl⟩
      replace h := bcF h hc34
      refine go ?_
      replace ⟨y35, hy35, h⟩ := obind h
      refine go ?_
      refine LW.c0 (W_i_HeapOk hy35 rfl (hS10.rB hr0_3) rfl (hS10.rB hr0_7)) hS10 fun w36 hS11 => ?_
      refine go ?_
      rcases bcases (!y35) with hc37 | hc37
      · replace h := bcT h hc37
        refine go ?_
        cases oi h
        exact ⟨⟨rfl, rfl, trivial⟩, hS11.pick [0] rfl rfl⟩
      replace h := bcF h hc37
      refine go ?_
      cases oi h
      exact ⟨⟨rfl, rfl, trivial⟩, hS11.pick [0] rfl rfl⟩
    rintro e w38 ⟨hE, hS12⟩
    obtain ⟨e, rfl⟩ := hE.out
    have h := h25
    refine go ?_
    refine CW.cond rfl (fun hc39 => ?_) (fun hc39 => ?_)
    · replace h := bcT h hc39
      refine go ?_
      cases h
      exact And.intro trivial ⟨_, Res.one (resOne.t rfl), rfl, hS12.pick [] rfl rfl⟩
    replace h := bcF h hc39
    refine go ?_
    replace ⟨y40, hy40, h⟩ := obind h
    refine LW.c0 (W_i_isSlot hy40) hS12 fun w41 hS13 => ?_
    refine go ?_
    rcases bcases y40 with hc42 | hc42
    · replace h := bcT h hc42
      refine go ?_
      replace ⟨y43, hy43, h⟩ := obind h
      refine go ?_
      refine LW.c0 (W_i_within hy43) hS13 fun w44 hS14 => ?_
      refine go ?_
      rcases bcases y43 with hc45 | hc45
      · replace h := bcT h hc45
        refine go ?_
        replace ⟨y46, hy46, h⟩ := obind h
        refine go ?_
        refine LW.c0 (W_i_AmtOk hy46) hS14 fun w47 hS15 => ?_
        refine go ?_
        rcases bcases y46 with hc48 | hc48
        · replace h := bcT h hc48
          refine go ?_
          refine LW.fl [1, 57, 59] fun e => ?_
          replace ⟨y49, hy49, h⟩ := obind h
          refine go ?_
          refine LW.c0 (W_i_isTime hy49) hS15 fun w50 hS16 => ?_
          refine go ?_
          rcases bcases y49 with hc51 | hc51
          · replace h := bcT h hc51
            refine go ?_
            replace ⟨y52, hy52, h⟩ := obind h
            refine go ?_
            refine LW.c0 (W_i_isTime hy52) hS16 fun w53 hS17 => ?_
            refine go ?_
            cases h
            exact And.intro trivial ⟨_, Res.one (resOne.t rfl), rfl, hS17.pick [] rfl rfl⟩
          replace h := bcF h hc51
          refine go ?_
          cases h
          exact And.intro trivial ⟨_, Res.one (resOne.t rfl), rfl, hS16.pick [] rfl rfl⟩
        replace h := bcF h hc48
        refine go ?_
        cases h
        exact And.intro trivial ⟨_, Res.one (resOne.t rfl), rfl, hS15.pick [] rfl rfl⟩
      replace h := bcF h hc45
      refine go ?_
      cases h
      exact And.intro trivial ⟨_, Res.one (resOne.t rfl), rfl, hS14.pick [] rfl rfl⟩
    replace h := bcF h hc42
    refine go ?_
    cases h
    exact And.intro trivial ⟨_, Res.one (resOne.t rfl), rfl, hS13.pick [] rfl rfl⟩
  obtain ⟨rfl, u, rfl, hM⟩ := hM
  cases h22
  exact And.intro trivial hM

end Go.Kx
