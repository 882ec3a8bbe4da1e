/- Each call returns what the plain function says. Printed by drive.py. -/
import Derived.Test.YtdjpppkdngmeaaaGreatFa
import Derived.Test.YtdjpppkdngmeaaaGreatPu
import Derived.Test.YtdjpppkdngmeaaaGreatWa0
import Derived.Test.YtdjpppkdngmeaaaGreatWa1
import Derived.Test.YtdjpppkdngmeaaaGreatWa2
import Derived.Test.YtdjpppkdngmeaaaGreatWa3
namespace Go.Kx
open Go Go.RowKit Go.Proofs
set_option maxRecDepth 10000
set_option maxHeartbeats 2000000
set_option linter.unusedVariables false
set_option linter.unusedSimpArgs false
theorem W_l_szPartBoot {w0 : World} {N : Nat} {x0 : DBoot} {x1 : Int} {r : Int} (h : F_l_szPartBoot N x0 x1 = some r) {a0_0 : Option Addr} {n0_0 c0_0 : Nat} (hn0_0 : n0_0 = x0.label.levels.length) (hr0_0 : rdS (Bor w0 []) w0 a0_0 c0_0 x0.label.levels) {a0_1 : Option Addr} {n0_1 c0_1 : Nat} (hn0_1 : n0_1 = x0.own.length) (hr0_1 : rdS (Bor w0 []) w0 a0_1 c0_1 x0.own) :
    Ret Tryz.prog 65 #[.agg #[.slice a0_0 n0_0 c0_0, .slice a0_1 n0_1 c0_1, .int .i64 x0.amt.pages, .int .i64 x0.amt.rent, .int .i64 x0.amt.cpu], .int .i64 x1] w0 (fun v w => v = .int .i64 r ∧ St w0 [] w []) := by
  subst hn0_0 hn0_1
  unfold F_l_szPartBoot at h
  refine Ret.fn Tryz.func65 fun e => ?_
  have hS1 := St.start w0
  refine go ?_
  refine LW.bo hS1 fun g1 w2 hS2 => ?_
  refine go ?_
  replace ⟨y3, hy3, h⟩ := obind h
  refine LW.c0 (W_l_szLabel hy3 rfl (hS2.rB hr0_0)) hS2 fun w4 hS3 => ?_
  refine go ?_
  refine CW.cond rfl (fun hc5 => ?_) (fun hc5 => ?_)
  · replace h := bcT h hc5
    refine go ?_
    cases h
    exact And.intro trivial ⟨_, Res.one (resOne.t rfl), rfl, hS3.pick [] rfl rfl⟩
  replace h := bcF h hc5
  refine go ?_
  replace ⟨y6, hy6, h⟩ := obind h
  refine LW.c0 (W_l_szIntS hy6 rfl (hS3.rB hr0_1)) hS3 fun w7 hS4 => ?_
  refine go ?_
  refine CW.fl [1, 16] fun e => ?_
  refine CW.cond rfl (fun hc8 => ?_) (fun hc8 => ?_)
  · replace h := bcT h hc8
    refine go ?_
    cases h
    exact And.intro trivial ⟨_, Res.one (resOne.t rfl), rfl, hS4.pick [] rfl rfl⟩
  replace h := bcF h hc8
  refine go ?_
  cases h
  exact And.intro trivial ⟨_, Res.one (resOne.t rfl), rfl, hS4.pick [] rfl rfl⟩

theorem W_l_szPartBootS {w0 : World} {N : Nat} {x0 : List DBoot} {x1 : Int} {r : Int} (h : F_l_szPartBootS N x0 x1 = some r) {a0_0 : Option Addr} {n0_0 c0_0 : Nat} (hn0_0 : n0_0 = x0.length) (hr0_0 : rdS (Bor w0 []) w0 a0_0 c0_0 x0) :
    Ret Tryz.prog 22 #[.slice a0_0 n0_0 c0_0, .int .i64 x1] w0 (fun v w => v = .int .i64 r ∧ St w0 [] w []) := by
  subst hn0_0
  unfold F_l_szPartBootS at h
  refine Ret.fn Tryz.func22 fun e => ?_
  have hS1 := St.start w0
  refine go ?_
  refine CW.cond rfl (fun hc1 => ?_) (fun hc1 => ?_)
  · replace h := bcT h hc1
    refine go ?_
    cases h
    exact And.intro trivial ⟨_, Res.one (resOne.t rfl), rfl, hS1.pick [] rfl rfl⟩
  replace h := bcF h hc1
  refine go ?_
  obtain ⟨o23, ho23, h24⟩ := obind h
  refine CW.mono (CW.iter (σ := Int × Int) (ρ := (Int × Int) ⊕ Int) (fun s2 e wb => En e [(0, .slice a0_0 x0.length c0_0), (1, .int .i64 s2.1), (5, .int .i64 s2.2)] ∧ St w0 [] wb []) (fun o x e wb => match o with | .inl s2 => x = .exit 0 ∧ En e [(1, .int .i64 s2.1)] ∧ St w0 [] wb [] | .inr r => x = .ret ∧ ∃ u, u = r ∧ ∃ v, Res Tryz.prog Tryz.f22.results e wb v ∧ v = .int .i64 u ∧ St w0 [] wb []) ?_ N (IntKind.i64.wrap (x1 - (x0.length : Int)), 0) _ _ _ ⟨⟨rfl, rfl, rfl, trivial⟩, hS1.pick [] rfl rfl⟩ ho23) ?_
  · intro s2 e w3 o hM h
    obtain ⟨hE, hS2⟩ := hM
    obtain ⟨e, rfl⟩ := hE.out
    refine go ?_
    refine CW.fl [0, 1, 5, 15] fun e => ?_
    refine CW.cond rfl (fun hc4 => ?_) (fun hc4 => ?_)
    · replace h := bcT h hc4
      refine go ?_
      replace ⟨y5, hy5, h⟩ := obind h
      obtain ⟨b8, o9, cs10, hae, hb13, hp6, hq7, hd11, hk12⟩ := hr0_0.idx hy5
      subst hae
      obtain ⟨a14, c15, a17, c18, rfl, hr16, hr19⟩ := hd11
      refine LW.u (Pur.ix Tryz.underlying65 sz109 rfl rfl hp6 hq7) rfl ?_
      refine LW.l (Ldr.oldN w0 ag109 rfl rfl (fun j u hu => hk12 j u hu)) (hS2.same _ hb13.1 hb13.2) rfl ?_
      refine go ?_
      replace ⟨y20, hy20, h⟩ := obind h
      refine LW.c0 (W_l_szPartBoot hy20 rfl (hS2.rB hr16) rfl (hS2.rB hr19)) hS2 fun w21 hS3 => ?_
      refine go ?_
      refine CW.cond rfl (fun hc22 => ?_) (fun hc22 => ?_)
      · replace h := bcT h hc22
        refine go ?_
        cases oi h
        exact ⟨trivial, rfl, _, rfl, ⟨_, Res.one (resOne.t rfl), rfl, hS3.pick [] rfl rfl⟩⟩
      replace h := bcF h hc22
      refine go ?_
      cases oi h
      exact ⟨rfl, ⟨⟨rfl, rfl, rfl, trivial⟩, hS3.pick [] rfl rfl⟩⟩
    replace h := bcF h hc4
    refine go ?_
    cases oi h
    exact ⟨trivial, rfl, ⟨⟨rfl, trivial⟩, hS2.pick [] rfl rfl⟩⟩
  intro x e w25 hM
  rcases o23 with o23 | r26
  · obtain ⟨rfl, hM⟩ := hM
    obtain ⟨hE, hS4⟩ := hM
    obtain ⟨e, rfl⟩ := hE.out
    have h := h24
    refine go ?_
    cases h
    exact And.intro trivial ⟨_, Res.one (resOne.t rfl), rfl, hS4.pick [] rfl rfl⟩
  obtain ⟨rfl, u, rfl, hM⟩ := hM
  cases h24
  exact And.intro trivial hM

theorem W_l_toPartBoot {w0 : World} {N : Nat} {x0 : DBoot} {r : DBoot} (h : F_l_toPartBoot N x0 = some r) {a0_0 : Option Addr} {n0_0 c0_0 : Nat} (hn0_0 : n0_0 = x0.label.levels.length) (hr0_0 : rdS (Bor w0 []) w0 a0_0 c0_0 x0.label.levels) {a0_1 : Option Addr} {n0_1 c0_1 : Nat} (hn0_1 : n0_1 = x0.own.length) (hr0_1 : rdS (Bor w0 []) w0 a0_1 c0_1 x0.own) :
    Ret Tryz.prog 69 #[.agg #[.slice a0_0 n0_0 c0_0, .slice a0_1 n0_1 c0_1, .int .i64 x0.amt.pages, .int .i64 x0.amt.rent, .int .i64 x0.amt.cpu]] w0 (fun v w => ∃ ar0_0 cr0_0, ∃ ar0_1 cr0_1, v = .agg #[.slice ar0_0 r.label.levels.length cr0_0, .slice ar0_1 r.own.length cr0_1, .int .i64 r.amt.pages, .int .i64 r.amt.rent, .int .i64 r.amt.cpu] ∧ St w0 [] w [sl ar0_0 cr0_0 r.label.levels, sl ar0_1 cr0_1 r.own]) := by
  subst hn0_0 hn0_1
  unfold F_l_toPartBoot at h
  refine Ret.fn Tryz.func69 fun e => ?_
  have hS1 := St.start w0
  refine go ?_
  refine LW.bo hS1 fun g1 w2 hS2 => ?_
  refine LW.al hS2 fun g3 w4 hS3 => ?_
  refine go ?_
  refine LW.al hS3 fun g5 w6 hS4 => ?_
  refine go ?_
  replace ⟨y7, hy7, h⟩ := obind h
  refine LW.cl (W_l_toLabel hy7 rfl (hS4.rB hr0_0)) ?_
  rintro _ w10 ⟨a8, c9, rfl, hs⟩
  have hS5 := hS4.add hs
  refine go ?_
  refine LW.st hS5 1 fun w11 hS6 => ?_
  refine go ?_
  replace ⟨y12, hy12, h⟩ := obind h
  refine LW.cl (W_l_toIntS hy12 rfl (hS6.rB hr0_1)) ?_
  rintro _ w15 ⟨a13, c14, rfl, hs⟩
  have hS7 := hS6.add hs
  refine go ?_
  refine LW.st hS7 2 fun w16 hS8 => ?_
  refine go ?_
  replace ⟨y17, hy17, h⟩ := obind h
  refine LW.c0 (W_l_toAmt hy17) hS8 fun w18 hS9 => ?_
  refine go ?_
  refine LW.st hS9 2 fun w19 hS10 => ?_
  refine go ?_
  refine LW.st hS10 3 fun w20 hS11 => ?_
  refine go ?_
  cases h
  exact And.intro trivial ⟨_, Res.one (resOne.b hS11 3 rfl ag114 rfl rfl), a8, c9, a13, c14, rfl, hS11.pick [1, 0] rfl rfl⟩

theorem W_l_toPartBootS {w0 : World} {N : Nat} {x0 : List DBoot} {r : (List DBoot)} (h : F_l_toPartBootS N x0 = some r) {a0_0 : Option Addr} {n0_0 c0_0 : Nat} (hn0_0 : n0_0 = x0.length) (hr0_0 : rdS (Bor w0 []) w0 a0_0 c0_0 x0) :
    Ret Tryz.prog 24 #[.slice a0_0 n0_0 c0_0] w0 (fun v w => ∃ ar0 cr0, v = .slice ar0 r.length cr0 ∧ St w0 [] w [sl ar0 cr0 r]) := by
  subst hn0_0
  unfold F_l_toPartBootS at h
  refine Ret.fn Tryz.func24 fun e => ?_
  have hS1 := St.start w0
  refine go ?_
  replace ⟨y1, hy1, h⟩ := obind h
  refine LW.mk sT68 rfl rfl hy1 hS1 rfl ?_
  intro a2 c3 w4 hS2 hf
  refine go ?_
  obtain ⟨o36, ho36, h37⟩ := obind h
  refine CW.mono (CW.iter (σ := (List DBoot) × Int) (ρ := (List DBoot) × Int) (fun s5 e wb => En e [(0, .slice a0_0 x0.length c0_0), (3, .slice a2 s5.1.length c3), (4, .int .i64 s5.2)] ∧ St w0 [] wb [sl a2 c3 s5.1]) (fun s5 x e wb => x = .exit 0 ∧ En e [(3, .slice a2 s5.1.length c3)] ∧ St w0 [] wb [sl a2 c3 s5.1]) ?_ N (y1, 0) _ _ _ ⟨⟨rfl, rfl, rfl, trivial⟩, hS2.pick [0] rfl rfl⟩ ho36) ?_
  · intro s5 e w6 o hM h
    obtain ⟨hE, hS3⟩ := hM
    obtain ⟨e, rfl⟩ := hE.out
    refine go ?_
    refine CW.cond rfl (fun hc7 => ?_) (fun hc7 => ?_)
    · replace h := bcT h hc7
      refine go ?_
      replace ⟨y8, hy8, h⟩ := obind h
      obtain ⟨b11, o12, cs13, hae, hb16, hp9, hq10, hd14, hk15⟩ := hr0_0.idx hy8
      subst hae
      obtain ⟨a17, c18, a20, c21, rfl, hr19, hr22⟩ := hd14
      refine LW.u (Pur.ix Tryz.underlying65 sz109 rfl rfl hp9 hq10) rfl ?_
      refine LW.l (Ldr.oldN w0 ag109 rfl rfl (fun j u hu => hk15 j u hu)) (hS3.same _ hb16.1 hb16.2) rfl ?_
      replace ⟨y23, hy23, h⟩ := obind h
      refine LW.cl (W_l_toPartBoot hy23 rfl (hS3.rB hr19) rfl (hS3.rB hr22)) ?_
      rintro _ w28 ⟨a24, c25, a26, c27, rfl, hs⟩
      have hS4 := hS3.add hs
      replace ⟨y29, hy29, h⟩ := obind h
      obtain ⟨b32, o33, hae, hp30, hq31⟩ := hS4.ownIdx (α := DBoot) (i := 2) rfl hy29
      subst hae
      refine LW.u (Pur.ix Tryz.underlying68 sz114 rfl rfl hp30 hq31) rfl ?_
      have hS5 := hS4.pick (M := [sl a24 c25 y23.label.levels, sl a26 c27 y23.own] ++ [sl (some ⟨b32, o33, none⟩) c3 s5.1]) [0, 1, 2] rfl rfl
      replace ⟨y34, hy34, h⟩ := obind h
      refine LW.stE (M := [sl a24 c25 y23.label.levels, sl a26 c27 y23.own]) (L := [sl (some ⟨b32, o33, none⟩) c3 s5.1]) (z := y29) (z' := y23) (o := 0) hS5 (i := 0) rfl hy29 ag114 rfl (by show _ = o33 + (s5.2 : Int).toNat * 5 + 0; omega) rfl rfl rfl rfl (whole (fun w G hG => ⟨a24, c25, a26, c27, rfl, hG⟩)) ?_
      intro w35 hS6 hf
      rw [Option.some.inj hy34] at hS6
      refine go ?_
      cases oi h
      exact ⟨rfl, ⟨⟨rfl, (show (.slice (some ⟨b32, o33, none⟩) s5.1.length c3 : Value) = .slice (some ⟨b32, o33, none⟩) y34.length c3 by rw [show s5.1.length = y34.length from (len_set (Option.some.inj hy34))]), rfl, trivial⟩, hS6.pick [0] rfl rfl⟩⟩
    replace h := bcF h hc7
    refine go ?_
    cases oi h
    exact ⟨trivial, rfl, ⟨⟨rfl, trivial⟩, hS3.pick [0] rfl rfl⟩⟩
  intro x e w38 hM
  obtain ⟨rfl, hM⟩ := hM
  obtain ⟨hE, hS7⟩ := hM
  obtain ⟨e, rfl⟩ := hE.out
  have h := h37
  refine go ?_
  cases h
  exact And.intro trivial ⟨_, Res.one (resOne.t rfl), a2, c3, rfl, hS7.pick [0] rfl rfl⟩

theorem W_s_AmtAdd {w0 : World} {N : Nat} {x0 : DAmt} {x1 : DAmt} {r : DAmt × Bool} (h : F_s_AmtAdd N x0 x1 = some r) :
    Ret Tryz.prog 119 #[.agg #[.int .i64 x0.pages, .int .i64 x0.rent, .int .i64 x0.cpu], .agg #[.int .i64 x1.pages, .int .i64 x1.rent, .int .i64 x1.cpu]] w0 (fun v w => v = .tuple #[.agg #[.int .i64 r.1.pages, .int .i64 r.1.rent, .int .i64 r.1.cpu], .bool r.2] ∧ St w0 [] w []) := by
  unfold F_s_AmtAdd at h
  refine Ret.fn Tryz.func119 fun e => ?_
  have hS1 := St.start w0
  refine go ?_
  refine LW.bo hS1 fun g1 w2 hS2 => ?_
  refine LW.bo hS2 fun g3 w4 hS3 => ?_
  refine LW.al hS3 fun g5 w6 hS4 => ?_
  refine gs ?_
  obtain ⟨j7, hj7, h8⟩ := obind h
  refine CW.cut (fun e wb => En e [(2, .pointer (some ⟨g1, 0, none⟩)), (3, .pointer (some ⟨g3, 0, none⟩)), (4, .pointer (some ⟨g5, 0, none⟩)), (14, .bool j7)] ∧ St w0 [] wb [bx g5 45 [.int .i64 0, .int .i64 0, .int .i64 0], bx g3 45 [.int .i64 x1.pages, .int .i64 x1.rent, .int .i64 x1.cpu], bx g1 45 [.int .i64 x0.pages, .int .i64 x0.rent, .int .i64 x0.cpu]]) ?_ ?_
  · have h := hj7
    refine go ?_
    replace ⟨y9, hy9, h⟩ := obind h
    refine LW.c0 (W_s_AmtOk hy9) hS4 fun w10 hS5 => ?_
    refine go ?_
    rcases bcases (!y9) with hc11 | hc11
    · replace h := bcT h hc11
      refine go ?_
      cases oi h
      exact ⟨⟨rfl, rfl, rfl, rfl, trivial⟩, hS5.pick [0, 1, 2] rfl rfl⟩
    replace h := bcF h hc11
    refine go ?_
    replace ⟨y12, hy12, h⟩ := obind h
    refine go ?_
    refine LW.c0 (W_s_AmtOk hy12) hS5 fun w13 hS6 => ?_
    refine go ?_
    cases oi h
    exact ⟨⟨rfl, rfl, rfl, rfl, trivial⟩, hS6.pick [0, 1, 2] rfl rfl⟩
  rintro e w14 ⟨hE, hS7⟩
  obtain ⟨e, rfl⟩ := hE.out
  have h := h8
  refine go ?_
  refine CW.cond rfl (fun hc15 => ?_) (fun hc15 => ?_)
  · replace h := bcT h hc15
    refine go ?_
    refine LW.st hS7 0 fun w16 hS8 => ?_
    refine go ?_
    cases h
    exact And.intro trivial ⟨_, Res.two (resOne.b hS8 0 rfl ag45 rfl rfl) (resOne.t rfl), rfl, hS8.pick [] rfl rfl⟩
  replace h := bcF h hc15
  refine go ?_
  refine LW.u (Pur.build (vs := [(0, .int .i64 (IntKind.i64.wrap (x0.pages + x1.pages))), (1, .int .i64 (IntKind.i64.wrap (x0.rent + x1.rent))), (2, .int .i64 (IntKind.i64.wrap (x0.cpu + x1.cpu)))]) (cs := #[.int .i64 (IntKind.i64.wrap (x0.pages + x1.pages)), .int .i64 (IntKind.i64.wrap (x0.rent + x1.rent)), .int .i64 (IntKind.i64.wrap (x0.cpu + x1.cpu))]) rfl (by kernel_rfl)) rfl ?_
  refine LW.al hS7 fun g17 w18 hS9 => ?_
  refine LW.st hS9 0 fun w19 hS10 => ?_
  refine go ?_
  replace ⟨y20, hy20, h⟩ := obind h
  refine LW.c0 (W_s_AmtOk hy20) hS10 fun w21 hS11 => ?_
  refine go ?_
  refine CW.fl [2, 4, 6, 34] fun e => ?_
  refine CW.cond rfl (fun hc22 => ?_) (fun hc22 => ?_)
  · replace h := bcT h hc22
    refine go ?_
    refine LW.st hS11 1 fun w23 hS12 => ?_
    refine go ?_
    cases h
    exact And.intro trivial ⟨_, Res.two (resOne.b hS12 1 rfl ag45 rfl rfl) (resOne.t rfl), rfl, hS12.pick [] rfl rfl⟩
  replace h := bcF h hc22
  refine go ?_
  refine LW.st hS11 1 fun w24 hS13 => ?_
  refine go ?_
  cases h
  exact And.intro trivial ⟨_, Res.two (resOne.b hS13 1 rfl ag45 rfl rfl) (resOne.t rfl), rfl, hS13.pick [] rfl rfl⟩

theorem W_s_BootOk {w0 : World} {N : Nat} {x0 : List DBoot} {r : Bool} (h : F_s_BootOk N x0 = some r) {a0_0 : Option Addr} {n0_0 c0_0 : Nat} (hn0_0 : n0_0 = x0.length) (hr0_0 : rdS (Bor w0 []) w0 a0_0 c0_0 x0) :
    Ret Tryz.prog 66 #[.slice a0_0 n0_0 c0_0] w0 (fun v w => v = .bool r ∧ St w0 [] w []) := by
  subst hn0_0
  unfold F_s_BootOk at h
  refine Ret.fn Tryz.func66 fun e => ?_
  have hS1 := St.start w0
  refine go ?_
  refine LW.u (Pur.build (vs := []) (cs := #[.int .i64 0, .int .i64 0, .int .i64 0]) rfl (by kernel_rfl)) rfl ?_
  refine LW.al hS1 fun g1 w2 hS2 => ?_
  refine LW.st hS2 0 fun w3 hS3 => ?_
  refine go ?_
  obtain ⟨o68, ho68, h69⟩ := obind h
  refine CW.mono (CW.iter (σ := Int × Int × Int × Int) (ρ := (Int × Int × Int × Int) ⊕ Bool) (fun s4 e wb => En e [(0, .slice a0_0 x0.length c0_0), (3, .pointer (some ⟨g1, 0, none⟩)), (4, .int .i64 s4.1)] ∧ St w0 [] wb [bx g1 45 [.int .i64 s4.2.1, .int .i64 s4.2.2.1, .int .i64 s4.2.2.2]]) (fun o x e wb => match o with | .inl s4 => x = .exit 0 ∧ En e [(0, .slice a0_0 x0.length c0_0)] ∧ St w0 [] wb [bx g1 45 [.int .i64 s4.2.1, .int .i64 s4.2.2.1, .int .i64 s4.2.2.2]] | .inr r => x = .ret ∧ ∃ u, u = r ∧ ∃ v, Res Tryz.prog Tryz.f66.results e wb v ∧ v = .bool u ∧ St w0 [] wb []) ?_ N (0, 0, 0, 0) _ _ _ ⟨⟨rfl, rfl, rfl, trivial⟩, hS3.pick [0] rfl rfl⟩ ho68) ?_
  · intro s4 e w5 o hM h
    obtain ⟨hE, hS4⟩ := hM
    obtain ⟨e, rfl⟩ := hE.out
    refine gs ?_
    obtain ⟨j6, hj6, h7⟩ := obind h
    refine CW.cut (fun e wb => En e [(0, .slice a0_0 x0.length c0_0), (3, .pointer (some ⟨g1, 0, none⟩)), (4, .int .i64 s4.1), (15, .bool j6)] ∧ St w0 [] wb [bx g1 45 [.int .i64 s4.2.1, .int .i64 s4.2.2.1, .int .i64 s4.2.2.2]]) ?_ ?_
    · have h := hj6
      refine go ?_
      rcases bcases (decide (s4.1 < (x0.length : Int))) with hc8 | hc8
      · replace h := bcT h hc8
        refine go ?_
        cases oi h
        exact ⟨⟨rfl, rfl, rfl, rfl, trivial⟩, hS4.pick [0] rfl rfl⟩
      replace h := bcF h hc8
      refine go ?_
      cases oi h
      exact ⟨⟨rfl, rfl, rfl, rfl, trivial⟩, hS4.pick [0] rfl rfl⟩
    rintro e w9 ⟨hE, hS5⟩
    obtain ⟨e, rfl⟩ := hE.out
    have h := h7
    refine go ?_
    refine CW.cond rfl (fun hc10 => ?_) (fun hc10 => ?_)
    · replace h := bcT h hc10
      refine gs ?_
      refine CW.block ?_
      refine gs ?_
      obtain ⟨j11, hj11, h12⟩ := obind h
      refine CW.cut (fun e wb => En e [(0, .slice a0_0 x0.length c0_0), (3, .pointer (some ⟨g1, 0, none⟩)), (4, .int .i64 s4.1), (33, .bool j11)] ∧ St w0 [] wb [bx g1 45 [.int .i64 s4.2.1, .int .i64 s4.2.2.1, .int .i64 s4.2.2.2]]) ?_ ?_
      · have h := hj11
        refine go ?_
        replace ⟨y13, hy13, h⟩ := obind h
        obtain ⟨b16, o17, cs18, hae, hb21, hp14, hq15, hd19, hk20⟩ := hr0_0.idx hy13
        subst hae
        obtain ⟨a22, c23, a25, c26, rfl, hr24, hr27⟩ := hd19
        refine LW.u (Pur.ix Tryz.underlying68 sz114 rfl rfl hp14 hq15) rfl ?_
        refine go ?_
        refine LW.l (Ldr.oldN w0 ag38 rfl rfl (fun j u hu => oldsub (m := 1) hk20 0 hu)) (hS5.same _ hb21.1 hb21.2) rfl ?_
        replace ⟨y28, hy28, h⟩ := obind h
        refine LW.c0 (W_s_LabelOk hy28 rfl (hS5.rB hr24)) hS5 fun w29 hS6 => ?_
        refine go ?_
        rcases bcases (!y28) with hc30 | hc30
        · replace h := bcT h hc30
          refine go ?_
          cases oi h
          exact ⟨⟨rfl, rfl, rfl, rfl, trivial⟩, hS6.pick [0] rfl rfl⟩
        replace h := bcF h hc30
        refine go ?_
        refine LW.u (Pur.ix Tryz.underlying68 sz114 rfl rfl hp14 hq15) rfl ?_
        refine go ?_
        refine LW.l (Ldr.old w0 ag22 rfl (hk20 1 _ rfl)) (hS6.same _ hb21.1 hb21.2) rfl ?_
        replace ⟨y31, hy31, h⟩ := obind h
        refine go ?_
        refine LW.c0 (W_s_OwnOk hy31 rfl (hS6.rB hr27)) hS6 fun w32 hS7 => ?_
        refine go ?_
        cases oi h
        exact ⟨⟨rfl, rfl, rfl, rfl, trivial⟩, hS7.pick [0] rfl rfl⟩
      rintro e w33 ⟨hE, hS8⟩
      obtain ⟨e, rfl⟩ := hE.out
      have h := h12
      refine go ?_
      refine CW.cond rfl (fun hc34 => ?_) (fun hc34 => ?_)
      · replace h := bcT h hc34
        refine go ?_
        cases oi h
        exact ⟨trivial, rfl, _, rfl, ⟨_, Res.one (resOne.t rfl), rfl, hS8.pick [] rfl rfl⟩⟩
      replace h := bcF h hc34
      refine gs ?_
      obtain ⟨j35, hj35, h36⟩ := obind h
      refine CW.cut (fun e wb => ∃ (j35g5 : Nat), En e [(0, .slice a0_0 x0.length c0_0), (3, .pointer (some ⟨g1, 0, none⟩)), (4, .int .i64 s4.1), (5, .pointer (some ⟨j35g5, 0, none⟩)), (6, .bool j35.2.2.2)] ∧ St w0 [] wb [bx g1 45 [.int .i64 s4.2.1, .int .i64 s4.2.2.1, .int .i64 s4.2.2.2], bx j35g5 45 [.int .i64 j35.1, .int .i64 j35.2.1, .int .i64 j35.2.2.1]]) ?_ ?_
      · have h := hj35
        refine CW.draw (by kernel_rfl) ?_
        have hS9 := hS8.drew
        refine AW.take (i := 0) rfl (by kernel_rfl) rfl rfl (Ldr.boxN (bt := 45) (fr := (0, 0)) (cs := [.int .i64 s4.2.1, .int .i64 s4.2.2.1, .int .i64 s4.2.2.2]) ag45 rfl rfl) (St.cell (h := hS9) (i := 0) rfl) ?_
        refine AW.u (i := 1) rfl (by kernel_rfl) rfl rfl (Pur.p rfl) ?_
        refine AW.u (i := 2) rfl (by kernel_rfl) rfl rfl (Pur.p rfl) ?_
        replace ⟨y37, hy37, h⟩ := obind h
        obtain ⟨b40, o41, cs42, hae, hb45, hp38, hq39, hd43, hk44⟩ := hr0_0.idx hy37
        subst hae
        obtain ⟨a46, c47, a49, c50, rfl, hr48, hr51⟩ := hd43
        refine AW.u (i := 3) rfl (by kernel_rfl) rfl rfl (Pur.ix Tryz.underlying68 sz114 rfl rfl hp38 hq39) ?_
        refine AW.u (i := 4) rfl (by kernel_rfl) rfl rfl (Pur.fa fo114_2 rfl) ?_
        refine AW.take (i := 5) rfl (by kernel_rfl) rfl rfl (Ldr.oldN w0 ag45 rfl rfl (fun j u hu => oldsub (m := 3) hk44 2 hu)) (hS9.same _ hb45.1 hb45.2) ?_
        replace ⟨y52, hy52, h⟩ := obind h
        refine AW.all (rs := [6, 10]) (by kernel_rfl) (by simp) ⟨?_, ?_, trivial⟩
        · have q := W_s_AmtAdd (w0 := w33.drew) hy52
          refine ⟨_, rfl, ?_⟩
          refine LW.call pl119 rfl rfl ?_
          refine Ret.mono q ?_
          rintro _ w57 ⟨rfl, hs⟩
          have hS10 := hS9.add hs
          refine LW.nil ⟨rfl, (.w (by kernel_rfl) (.w (by kernel_rfl) Kept.n)), ?_⟩
          refine AW.u (i := 7) rfl (by kernel_rfl) rfl rfl (Pur.p rfl) ?_
          refine AW.u (i := 8) rfl (by kernel_rfl) rfl rfl (Pur.p rfl) ?_
          refine AW.u (i := 9) rfl (by kernel_rfl) rfl rfl (Pur.p rfl) ?_
          refine AW.one (i := 10) (by kernel_rfl) ?_
          refine ⟨_, rfl, ?_⟩
          refine LW.al hS10 fun g58 w59 hS11 => ?_
          refine LW.nil ⟨rfl, (.c (hS11.same _ hb45.1 hb45.2) (.c (St.cell (h := hS11) (i := 1) rfl) Kept.n)), ?_⟩
          refine AW.one (i := 11) (by kernel_rfl) ?_
          refine ⟨_, rfl, ?_⟩
          refine LW.st hS11 0 fun w60 hS12 => ?_
          refine LW.nil ⟨rfl, (.w (by kernel_rfl) (.w (by kernel_rfl) Kept.n)), ?_⟩
          refine AW.u (i := 12) rfl (by kernel_rfl) rfl rfl (Pur.p rfl) ?_
          refine AW.done (by kernel_rfl) ?_
          cases oi h
          exact ⟨g58, ⟨rfl, rfl, rfl, rfl, rfl, trivial⟩, hS12.pick [1, 0] rfl rfl⟩
        refine ⟨_, rfl, ?_⟩
        refine LW.al hS9 fun g61 w62 hS13 => ?_
        refine LW.nil ⟨rfl, (.c (hS13.same _ hb45.1 hb45.2) (.c (St.cell (h := hS13) (i := 1) rfl) Kept.n)), ?_⟩
        have q := W_s_AmtAdd (w0 := w62) hy52
        refine AW.one (i := 6) (by kernel_rfl) ?_
        refine ⟨_, rfl, ?_⟩
        refine LW.call pl119 rfl rfl ?_
        refine Ret.mono q ?_
        rintro _ w63 ⟨rfl, hs⟩
        have hS14 := hS13.add hs
        refine LW.nil ⟨rfl, (.w (by kernel_rfl) (.w (by kernel_rfl) Kept.n)), ?_⟩
        refine AW.u (i := 7) rfl (by kernel_rfl) rfl rfl (Pur.p rfl) ?_
        refine AW.u (i := 8) rfl (by kernel_rfl) rfl rfl (Pur.p rfl) ?_
        refine AW.u (i := 9) rfl (by kernel_rfl) rfl rfl (Pur.p rfl) ?_
        refine AW.one (i := 11) (by kernel_rfl) ?_
        refine ⟨_, rfl, ?_⟩
        refine LW.st hS14 0 fun w64 hS15 => ?_
        refine LW.nil ⟨rfl, (.w (by kernel_rfl) (.w (by kernel_rfl) Kept.n)), ?_⟩
        refine AW.u (i := 12) rfl (by kernel_rfl) rfl rfl (Pur.p rfl) ?_
        refine AW.done (by kernel_rfl) ?_
        cases oi h
        exact ⟨g61, ⟨rfl, rfl, rfl, rfl, rfl, trivial⟩, hS15.pick [1, 0] rfl rfl⟩
      rintro e w65 ⟨j35g5, hE, hS16⟩
      obtain ⟨e, rfl⟩ := hE.out
      have h := h36
      refine go ?_
      refine CW.cond rfl (fun hc66 => ?_) (fun hc66 => ?_)
      · replace h := bcT h hc66
        refine go ?_
        cases oi h
        exact ⟨trivial, rfl, _, rfl, ⟨_, Res.one (resOne.t rfl), rfl, hS16.pick [] rfl rfl⟩⟩
      replace h := bcF h hc66
      refine go ?_
      refine LW.st hS16 0 fun w67 hS17 => ?_
      refine go ?_
      cases oi h
      exact ⟨rfl, ⟨⟨rfl, rfl, rfl, trivial⟩, hS17.pick [0] rfl rfl⟩⟩
    replace h := bcF h hc10
    refine go ?_
    cases oi h
    exact ⟨trivial, rfl, ⟨⟨rfl, trivial⟩, hS5.pick [0] rfl rfl⟩⟩
  intro x e w70 hM
  rcases o68 with o68 | r73
  · obtain ⟨rfl, hM⟩ := hM
    obtain ⟨hE, hS18⟩ := hM
    obtain ⟨e, rfl⟩ := hE.out
    have h := h69
    refine go ?_
    replace ⟨y71, hy71, h⟩ := obind h
    refine LW.c0 (W_s_l1In hy71) hS18 fun w72 hS19 => ?_
    refine go ?_
    cases h
    exact And.intro trivial ⟨_, Res.one (resOne.t rfl), rfl, hS19.pick [] rfl rfl⟩
  obtain ⟨rfl, u, rfl, hM⟩ := hM
  cases h69
  exact And.intro trivial hM

theorem W_i_AmtAdd {w0 : World} {N : Nat} {x0 : DAmt} {x1 : DAmt} {r : DAmt × Bool} (h : F_i_AmtAdd N x0 x1 = some r) :
    Ret Tryz.prog 120 #[.agg #[.int .i64 x0.pages, .int .i64 x0.rent, .int .i64 x0.cpu], .agg #[.int .i64 x1.pages, .int .i64 x1.rent, .int .i64 x1.cpu]] w0 (fun v w => v = .tuple #[.agg #[.int .i64 r.1.pages, .int .i64 r.1.rent, .int .i64 r.1.cpu], .bool r.2] ∧ St w0 [] w []) := by
  unfold F_i_AmtAdd at h
  refine Ret.fn Tryz.func120 fun e => ?_
  have hS1 := St.start w0
  refine go ?_
  refine LW.bo hS1 fun g1 w2 hS2 => ?_
  refine LW.bo hS2 fun g3 w4 hS3 => ?_
  refine LW.al hS3 fun g5 w6 hS4 => ?_
  refine gs ?_
  obtain ⟨j7, hj7, h8⟩ := obind h
  refine CW.cut (fun e wb => En e [(2, .pointer (some ⟨g1, 0, none⟩)), (3, .pointer (some ⟨g3, 0, none⟩)), (4, .pointer (some ⟨g5, 0, none⟩)), (20, .bool j7)] ∧ St w0 [] wb [bx g5 45 [.int .i64 0, .int .i64 0, .int .i64 0], bx g3 45 [.int .i64 x1.pages, .int .i64 x1.rent, .int .i64 x1.cpu], bx g1 45 [.int .i64 x0.pages, .int .i64 x0.rent, .int .i64 x0.cpu]]) ?_ ?_
  · have h := hj7
    refine go ?_
    replace ⟨y9, hy9, h⟩ := obind h
    refine LW.c0 (W_i_AmtOk hy9) hS4 fun w10 hS5 => ?_
    refine go ?_
    rcases bcases (!y9) with hc11 | hc11
    · replace h := bcT h hc11
      refine go ?_
      cases oi h
      exact ⟨⟨rfl, rfl, rfl, rfl, trivial⟩, hS5.pick [0, 1, 2] rfl rfl⟩
    replace h := bcF h hc11
    refine go ?_
    replace ⟨y12, hy12, h⟩ := obind h
    refine go ?_
    refine LW.c0 (W_i_AmtOk hy12) hS5 fun w13 hS6 => ?_
    refine go ?_
    rcases bcases (!y12) with hc14 | hc14
    · replace h := bcT h hc14
      refine go ?_
      cases oi h
      exact ⟨⟨rfl, rfl, rfl, rfl, trivial⟩, hS6.pick [0, 1, 2] rfl rfl⟩
    replace h := bcF h hc14
    refine go ?_
    replace ⟨y15, hy15, h⟩ := obind h
    refine go ?_
    refine LW.c0 (W_i_sumOf hy15) hS6 fun w16 hS7 => ?_
    replace ⟨y17, hy17, h⟩ := obind h
    refine go ?_
    refine LW.c0 (W_i_AmtOk hy17) hS7 fun w18 hS8 => ?_
    refine go ?_
    cases oi h
    exact ⟨⟨rfl, rfl, rfl, rfl, trivial⟩, hS8.pick [0, 1, 2] rfl rfl⟩
  rintro e w19 ⟨hE, hS9⟩
  obtain ⟨e, rfl⟩ := hE.out
  have h := h8
  refine go ?_
  refine CW.cond rfl (fun hc20 => ?_) (fun hc20 => ?_)
  · replace h := bcT h hc20
    refine go ?_
    refine LW.st hS9 0 fun w21 hS10 => ?_
    refine go ?_
    cases h
    exact And.intro trivial ⟨_, Res.two (resOne.b hS10 0 rfl ag45 rfl rfl) (resOne.t rfl), rfl, hS10.pick [] rfl rfl⟩
  replace h := bcF h hc20
  refine go ?_
  replace ⟨y22, hy22, h⟩ := obind h
  refine LW.c0 (W_i_sumOf hy22) hS9 fun w23 hS11 => ?_
  refine LW.st hS11 0 fun w24 hS12 => ?_
  refine go ?_
  cases h
  exact And.intro trivial ⟨_, Res.two (resOne.b hS12 0 rfl ag45 rfl rfl) (resOne.t rfl), rfl, hS12.pick [] rfl rfl⟩

theorem W_i_BootOk {w0 : World} {N : Nat} {x0 : List DBoot} {r : Bool} (h : F_i_BootOk N x0 = some r) {a0_0 : Option Addr} {n0_0 c0_0 : Nat} (hn0_0 : n0_0 = x0.length) (hr0_0 : rdS (Bor w0 []) w0 a0_0 c0_0 x0) :
    Ret Tryz.prog 70 #[.slice a0_0 n0_0 c0_0] w0 (fun v w => v = .bool r ∧ St w0 [] w []) := by
  subst hn0_0
  unfold F_i_BootOk at h
  refine Ret.fn Tryz.func70 fun e => ?_
  have hS1 := St.start w0
  refine go ?_
  refine LW.u (Pur.build (vs := []) (cs := #[.int .i64 0, .int .i64 0, .int .i64 0]) rfl (by kernel_rfl)) rfl ?_
  refine LW.al hS1 fun g1 w2 hS2 => ?_
  refine LW.st hS2 0 fun w3 hS3 => ?_
  refine go ?_
  obtain ⟨o41, ho41, h42⟩ := obind h
  refine CW.mono (CW.iter (σ := Int × Int × Int × Int) (ρ := (Int × Int × Int × Int) ⊕ Bool) (fun s4 e wb => En e [(0, .slice a0_0 x0.length c0_0), (3, .pointer (some ⟨g1, 0, none⟩)), (9, .slice a0_0 x0.length c0_0), (10, .int .i64 (x0.length : Int)), (11, .int .i64 s4.1)] ∧ St w0 [] wb [bx g1 45 [.int .i64 s4.2.1, .int .i64 s4.2.2.1, .int .i64 s4.2.2.2]]) (fun o x e wb => match o with | .inl s4 => x = .exit 0 ∧ En e [(0, .slice a0_0 x0.length c0_0)] ∧ St w0 [] wb [bx g1 45 [.int .i64 s4.2.1, .int .i64 s4.2.2.1, .int .i64 s4.2.2.2]] | .inr r => x = .ret ∧ ∃ u, u = r ∧ ∃ v, Res Tryz.prog Tryz.f70.results e wb v ∧ v = .bool u ∧ St w0 [] wb []) ?_ N (0, 0, 0, 0) _ _ _ ⟨⟨rfl, rfl, rfl, rfl, rfl, trivial⟩, hS3.pick [0] rfl rfl⟩ ho41) ?_
  · intro s4 e w5 o hM h
    obtain ⟨hE, hS4⟩ := hM
    obtain ⟨e, rfl⟩ := hE.out
    refine go ?_
    refine CW.cond rfl (fun hc6 => ?_) (fun hc6 => ?_)
    · replace h := bcT h hc6
      refine go ?_
      replace ⟨y7, hy7, h⟩ := obind h
      obtain ⟨b10, o11, cs12, hae, hb15, hp8, hq9, hd13, hk14⟩ := hr0_0.idx hy7
      subst hae
      obtain ⟨a16, c17, a19, c20, rfl, hr18, hr21⟩ := hd13
      refine LW.u (Pur.ix Tryz.underlying68 sz114 rfl rfl hp8 hq9) rfl ?_
      refine LW.l (Ldr.oldN w0 ag114 rfl rfl (fun j u hu => hk14 j u hu)) (hS4.same _ hb15.1 hb15.2) rfl ?_
      refine LW.al hS4 fun g22 w23 hS5 => ?_
      refine LW.st hS5 0 fun w24 hS6 => ?_
      refine go ?_
      replace ⟨y25, hy25, h⟩ := obind h
      refine LW.c0 (W_i_AmtAdd hy25) hS6 fun w26 hS7 => ?_
      refine go ?_
      refine LW.al hS7 fun g27 w28 hS8 => ?_
      refine LW.st hS8 0 fun w29 hS9 => ?_
      refine gs ?_
      obtain ⟨j30, hj30, h31⟩ := obind h
      refine CW.cut (fun e wb => En e [(0, .slice (some ⟨b10, o11, none⟩) x0.length c0_0), (3, .pointer (some ⟨g1, 0, none⟩)), (6, .pointer (some ⟨g27, 0, none⟩)), (9, .slice (some ⟨b10, o11, none⟩) x0.length c0_0), (10, .int .i64 (x0.length : Int)), (11, .int .i64 s4.1), (35, .bool j30)] ∧ St w0 [] wb [bx g27 45 [.int .i64 y25.1.pages, .int .i64 y25.1.rent, .int .i64 y25.1.cpu], bx g1 45 [.int .i64 s4.2.1, .int .i64 s4.2.2.1, .int .i64 s4.2.2.2]]) ?_ ?_
      · have h := hj30
        refine go ?_
        refine LW.fl [0, 3, 5, 6, 9, 10, 11, 24] fun e => ?_
        rcases bcases (!y25.2) with hc32 | hc32
        · replace h := bcT h hc32
          refine go ?_
          cases oi h
          exact ⟨⟨rfl, rfl, rfl, rfl, rfl, rfl, rfl, trivial⟩, hS9.pick [0, 2] rfl rfl⟩
        replace h := bcF h hc32
        refine go ?_
        replace ⟨y33, hy33, h⟩ := obind h
        refine go ?_
        refine LW.c0 (W_i_LabelOk hy33 rfl (hS9.rB hr18)) hS9 fun w34 hS10 => ?_
        refine go ?_
        rcases bcases (!y33) with hc35 | hc35
        · replace h := bcT h hc35
          refine go ?_
          cases oi h
          exact ⟨⟨rfl, rfl, rfl, rfl, rfl, rfl, rfl, trivial⟩, hS10.pick [0, 2] rfl rfl⟩
        replace h := bcF h hc35
        refine go ?_
        replace ⟨y36, hy36, h⟩ := obind h
        refine go ?_
        refine LW.c0 (W_i_OwnOk hy36 rfl (hS10.rB hr21)) hS10 fun w37 hS11 => ?_
        refine go ?_
        cases oi h
        exact ⟨⟨rfl, rfl, rfl, rfl, rfl, rfl, rfl, trivial⟩, hS11.pick [0, 2] rfl rfl⟩
      rintro e w38 ⟨hE, hS12⟩
      obtain ⟨e, rfl⟩ := hE.out
      have h := h31
      refine go ?_
      refine CW.fl [0, 3, 6, 9, 10, 11, 35] fun e => ?_
      refine CW.cond rfl (fun hc39 => ?_) (fun hc39 => ?_)
      · replace h := bcT h hc39
        refine go ?_
        cases oi h
        exact ⟨trivial, rfl, _, rfl, ⟨_, Res.one (resOne.t rfl), rfl, hS12.pick [] rfl rfl⟩⟩
      replace h := bcF h hc39
      refine go ?_
      refine LW.st hS12 1 fun w40 hS13 => ?_
      refine go ?_
      cases oi h
      exact ⟨rfl, ⟨⟨rfl, rfl, rfl, rfl, rfl, trivial⟩, hS13.pick [1] rfl rfl⟩⟩
    replace h := bcF h hc6
    refine go ?_
    cases oi h
    exact ⟨trivial, rfl, ⟨⟨rfl, trivial⟩, hS4.pick [0] rfl rfl⟩⟩
  intro x e w43 hM
  rcases o41 with o41 | r46
  · obtain ⟨rfl, hM⟩ := hM
    obtain ⟨hE, hS14⟩ := hM
    obtain ⟨e, rfl⟩ := hE.out
    have h := h42
    refine go ?_
    replace ⟨y44, hy44, h⟩ := obind h
    refine LW.c0 (W_i_within hy44) hS14 fun w45 hS15 => ?_
    refine go ?_
    cases h
    exact And.intro trivial ⟨_, Res.one (resOne.t rfl), rfl, hS15.pick [] rfl rfl⟩
  obtain ⟨rfl, u, rfl, hM⟩ := hM
  cases h42
  exact And.intro trivial hM

theorem W_l_eqPartBoot {w0 : World} {N : Nat} {x0 : DBoot} {x1 : DBoot} {r : Bool} (h : F_l_eqPartBoot N x0 x1 = some r) {a0_0 : Option Addr} {n0_0 c0_0 : Nat} (hn0_0 : n0_0 = x0.label.levels.length) (hr0_0 : rdS (Bor w0 []) w0 a0_0 c0_0 x0.label.levels) {a0_1 : Option Addr} {n0_1 c0_1 : Nat} (hn0_1 : n0_1 = x0.own.length) (hr0_1 : rdS (Bor w0 []) w0 a0_1 c0_1 x0.own) {a1_0 : Option Addr} {n1_0 c1_0 : Nat} (hn1_0 : n1_0 = x1.label.levels.length) (hr1_0 : rdS (Bor w0 []) w0 a1_0 c1_0 x1.label.levels) {a1_1 : Option Addr} {n1_1 c1_1 : Nat} (hn1_1 : n1_1 = x1.own.length) (hr1_1 : rdS (Bor w0 []) w0 a1_1 c1_1 x1.own) :
    Ret Tryz.prog 73 #[.agg #[.slice a0_0 n0_0 c0_0, .slice a0_1 n0_1 c0_1, .int .i64 x0.amt.pages, .int .i64 x0.amt.rent, .int .i64 x0.amt.cpu], .agg #[.slice a1_0 n1_0 c1_0, .slice a1_1 n1_1 c1_1, .int .i64 x1.amt.pages, .int .i64 x1.amt.rent, .int .i64 x1.amt.cpu]] w0 (fun v w => v = .bool r ∧ St w0 [] w []) := by
  subst hn0_0 hn0_1 hn1_0 hn1_1
  unfold F_l_eqPartBoot at h
  refine Ret.fn Tryz.func73 fun e => ?_
  have hS1 := St.start w0
  refine go ?_
  refine LW.bo hS1 fun g1 w2 hS2 => ?_
  refine LW.bo hS2 fun g3 w4 hS3 => ?_
  refine go ?_
  replace ⟨y5, hy5, h⟩ := obind h
  refine LW.c0 (W_l_eqLabel hy5 rfl (hS3.rB hr0_0) rfl (hS3.rB hr1_0)) hS3 fun w6 hS4 => ?_
  refine go ?_
  refine CW.cond rfl (fun hc7 => ?_) (fun hc7 => ?_)
  · replace h := bcT h hc7
    refine go ?_
    cases h
    exact And.intro trivial ⟨_, Res.one (resOne.t rfl), rfl, hS4.pick [] rfl rfl⟩
  replace h := bcF h hc7
  refine go ?_
  replace ⟨y8, hy8, h⟩ := obind h
  refine LW.c0 (W_l_eqIntS hy8 rfl (hS4.rB hr0_1) rfl (hS4.rB hr1_1)) hS4 fun w9 hS5 => ?_
  refine go ?_
  refine CW.fl [2, 3, 16] fun e => ?_
  refine CW.cond rfl (fun hc10 => ?_) (fun hc10 => ?_)
  · replace h := bcT h hc10
    refine go ?_
    cases h
    exact And.intro trivial ⟨_, Res.one (resOne.t rfl), rfl, hS5.pick [] rfl rfl⟩
  replace h := bcF h hc10
  refine go ?_
  replace ⟨y11, hy11, h⟩ := obind h
  refine LW.c0 (W_l_eqAmt hy11) hS5 fun w12 hS6 => ?_
  refine go ?_
  refine CW.cond rfl (fun hc13 => ?_) (fun hc13 => ?_)
  · replace h := bcT h hc13
    refine go ?_
    cases h
    exact And.intro trivial ⟨_, Res.one (resOne.t rfl), rfl, hS6.pick [] rfl rfl⟩
  replace h := bcF h hc13
  refine go ?_
  cases h
  exact And.intro trivial ⟨_, Res.one (resOne.t rfl), rfl, hS6.pick [] rfl rfl⟩

theorem W_l_eqPartBootS {w0 : World} {N : Nat} {x0 : List DBoot} {x1 : List DBoot} {r : Bool} (h : F_l_eqPartBootS N x0 x1 = some r) {a0_0 : Option Addr} {n0_0 c0_0 : Nat} (hn0_0 : n0_0 = x0.length) (hr0_0 : rdS (Bor w0 []) w0 a0_0 c0_0 x0) {a1_0 : Option Addr} {n1_0 c1_0 : Nat} (hn1_0 : n1_0 = x1.length) (hr1_0 : rdS (Bor w0 []) w0 a1_0 c1_0 x1) :
    Ret Tryz.prog 26 #[.slice a0_0 n0_0 c0_0, .slice a1_0 n1_0 c1_0] w0 (fun v w => v = .bool r ∧ St w0 [] w []) := by
  subst hn0_0 hn1_0
  unfold F_l_eqPartBootS at h
  refine Ret.fn Tryz.func26 fun e => ?_
  have hS1 := St.start w0
  refine go ?_
  refine CW.cond rfl (fun hc1 => ?_) (fun hc1 => ?_)
  · replace h := bcT h hc1
    refine go ?_
    cases h
    exact And.intro trivial ⟨_, Res.one (resOne.t rfl), rfl, hS1.pick [] rfl rfl⟩
  replace h := bcF h hc1
  refine go ?_
  obtain ⟨o38, ho38, h39⟩ := obind h
  refine CW.mono (CW.iter (σ := Int) (ρ := Int ⊕ Bool) (fun s2 e wb => En e [(0, .slice a0_0 x0.length c0_0), (1, .slice a1_0 x1.length c1_0), (5, .int .i64 s2)] ∧ St w0 [] wb []) (fun o x e wb => match o with | .inl s2 => x = .exit 0 ∧ En e [] ∧ St w0 [] wb [] | .inr r => x = .ret ∧ ∃ u, u = r ∧ ∃ v, Res Tryz.prog Tryz.f26.results e wb v ∧ v = .bool u ∧ St w0 [] wb []) ?_ N 0 _ _ _ ⟨⟨rfl, rfl, rfl, trivial⟩, hS1.pick [] rfl rfl⟩ ho38) ?_
  · intro s2 e w3 o hM h
    obtain ⟨hE, hS2⟩ := hM
    obtain ⟨e, rfl⟩ := hE.out
    refine go ?_
    refine CW.cond rfl (fun hc4 => ?_) (fun hc4 => ?_)
    · replace h := bcT h hc4
      refine go ?_
      refine CW.draw (by kernel_rfl) ?_
      have hS3 := hS2.drew
      refine AW.u (i := 0) rfl (by kernel_rfl) rfl rfl (Pur.p rfl) ?_
      refine AW.u (i := 1) rfl (by kernel_rfl) rfl rfl (Pur.p rfl) ?_
      replace ⟨y5, hy5, h⟩ := obind h
      obtain ⟨b8, o9, cs10, hae, hb13, hp6, hq7, hd11, hk12⟩ := hr0_0.idx hy5
      subst hae
      obtain ⟨a14, c15, a17, c18, rfl, hr16, hr19⟩ := hd11
      refine AW.u (i := 2) rfl (by kernel_rfl) rfl rfl (Pur.ix Tryz.underlying68 sz114 rfl rfl hp6 hq7) ?_
      refine AW.take (i := 3) rfl (by kernel_rfl) rfl rfl (Ldr.oldN w0 ag114 rfl rfl (fun j u hu => hk12 j u hu)) (hS3.same _ hb13.1 hb13.2) ?_
      refine AW.u (i := 4) rfl (by kernel_rfl) rfl rfl (Pur.p rfl) ?_
      refine AW.u (i := 5) rfl (by kernel_rfl) rfl rfl (Pur.p rfl) ?_
      replace ⟨y20, hy20, h⟩ := obind h
      obtain ⟨b23, o24, cs25, hae, hb28, hp21, hq22, hd26, hk27⟩ := hr1_0.idx hy20
      subst hae
      obtain ⟨a29, c30, a32, c33, rfl, hr31, hr34⟩ := hd26
      refine AW.u (i := 6) rfl (by kernel_rfl) rfl rfl (Pur.ix Tryz.underlying68 sz114 rfl rfl hp21 hq22) ?_
      refine AW.take (i := 7) rfl (by kernel_rfl) rfl rfl (Ldr.oldN w0 ag114 rfl rfl (fun j u hu => hk27 j u hu)) (hS3.same _ hb28.1 hb28.2) ?_
      replace ⟨y35, hy35, h⟩ := obind h
      have q := W_l_eqPartBoot (w0 := w3.drew) hy35 rfl (hS3.rB hr16) rfl (hS3.rB hr19) rfl (hS3.rB hr31) rfl (hS3.rB hr34)
      refine AW.one (i := 8) (by kernel_rfl) ?_
      refine ⟨_, rfl, ?_⟩
      refine LW.call pl73 rfl rfl ?_
      refine Ret.mono q ?_
      rintro _ w36 ⟨rfl, hs⟩
      have hS4 := hS3.add hs
      refine LW.nil ⟨rfl, (.w (by kernel_rfl) (.w (by kernel_rfl) Kept.n)), ?_⟩
      refine AW.u (i := 9) rfl (by kernel_rfl) rfl rfl (Pur.p rfl) ?_
      refine AW.done (by kernel_rfl) ?_
      refine go ?_
      refine CW.cond rfl (fun hc37 => ?_) (fun hc37 => ?_)
      · replace h := bcT h hc37
        refine go ?_
        cases oi h
        exact ⟨trivial, rfl, _, rfl, ⟨_, Res.one (resOne.t rfl), rfl, hS4.pick [] rfl rfl⟩⟩
      replace h := bcF h hc37
      refine go ?_
      cases oi h
      exact ⟨rfl, ⟨⟨rfl, rfl, rfl, trivial⟩, hS4.pick [] rfl rfl⟩⟩
    replace h := bcF h hc4
    refine go ?_
    cases oi h
    exact ⟨trivial, rfl, ⟨trivial, hS2.pick [] rfl rfl⟩⟩
  intro x e w40 hM
  rcases o38 with o38 | r41
  · obtain ⟨rfl, hM⟩ := hM
    obtain ⟨hE, hS5⟩ := hM
    obtain ⟨e, rfl⟩ := hE.out; rw [show e = upds e [] from rfl]
    have h := h39
    refine go ?_
    cases h
    exact And.intro trivial ⟨_, Res.one (resOne.t rfl), rfl, hS5.pick [] rfl rfl⟩
  obtain ⟨rfl, u, rfl, hM⟩ := hM
  cases h39
  exact And.intro trivial hM

end Go.Kx
