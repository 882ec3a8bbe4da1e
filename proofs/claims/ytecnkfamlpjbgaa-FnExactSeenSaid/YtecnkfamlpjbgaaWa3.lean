/- Each call returns what the plain function says. Printed by drive.py. -/
import Derived.Test.YtecnkfamlpjbgaaFa
import Derived.Test.YtecnkfamlpjbgaaPu
import Derived.Test.YtecnkfamlpjbgaaWa2
namespace Go.Kx
open Go Go.RowKit Go.Proofs
set_option maxRecDepth 10000
set_option maxHeartbeats 2000000
set_option linter.unusedVariables false
set_option linter.unusedSimpArgs false
theorem W_l_szIntS {w0 : World} {N : Nat} {x0 : List Int} {x1 : Int} {r : Int} (h : F_l_szIntS N x0 x1 = some r) {a0_0 : Option Addr} {n0_0 c0_0 : Nat} (hn0_0 : n0_0 = x0.length) (hr0_0 : rdS (Bor w0 []) w0 a0_0 c0_0 x0) :
    Ret Try.prog 50 #[.slice a0_0 n0_0 c0_0, .int .i64 x1] w0 (fun v w => v = .int .i64 r ∧ St w0 [] w []) := by
  subst hn0_0
  unfold F_l_szIntS at h
  refine Ret.of Try.func50 rfl rfl rfl ?_
  have hS1 := St.start w0
  refine CW.seq ?_
  refine CW.region ?_
  refine LW.p rfl rfl ?_
  refine LW.nil ?_
  show CW _ _ _ _ _ _
  refine CW.seq ?_
  refine CW.region ?_
  iterate 2 refine LW.p rfl rfl ?_
  refine LW.u (Pur.len Try.underlying47 rfl) rfl ?_
  iterate 2 refine LW.p rfl rfl ?_
  refine LW.nil ?_
  show CW _ _ _ _ _ _
  refine CW.seq ?_
  refine CW.seq ?_
  refine CW.region ?_
  iterate 2 refine LW.p rfl rfl ?_
  refine LW.nil ?_
  show CW _ _ _ _ _ _
  refine CW.cond rfl (fun hc1 => ?_) (fun hc1 => ?_)
  · replace h := bcT h hc1
    refine CW.seq ?_
    refine CW.region ?_
    refine LW.p rfl rfl ?_
    refine LW.nil ?_
    show CW _ _ _ _ _ _
    refine CW.ret ?_
    cases h
    exact And.intro trivial ⟨_, Res.one (resOne.t rfl), rfl, hS1.pick [] rfl rfl⟩
  replace h := bcF h hc1
  refine CW.skip ?_
  show CW _ _ _ _ _ _
  refine CW.seq ?_
  refine CW.region ?_
  iterate 2 refine LW.p rfl rfl ?_
  refine LW.nil ?_
  show CW _ _ _ _ _ _
  refine CW.ret ?_
  cases h
  exact And.intro trivial ⟨_, Res.one (resOne.t rfl), rfl, hS1.pick [] rfl rfl⟩

theorem W_l_szLabel {w0 : World} {N : Nat} {x0 : DLabel} {x1 : Int} {r : Int} (h : F_l_szLabel N x0 x1 = some r) {a0_0 : Option Addr} {n0_0 c0_0 : Nat} (hn0_0 : n0_0 = x0.levels.length) (hr0_0 : rdS (Bor w0 []) w0 a0_0 c0_0 x0.levels) :
    Ret Try.prog 26 #[.agg #[.slice a0_0 n0_0 c0_0], .int .i64 x1] w0 (fun v w => v = .int .i64 r ∧ St w0 [] w []) := by
  subst hn0_0
  unfold F_l_szLabel at h
  refine Ret.of Try.func26 rfl rfl rfl ?_
  have hS1 := St.start w0
  refine CW.seq ?_
  refine CW.region ?_
  refine LW.box (cs := [.slice a0_0 x0.levels.length c0_0]) rfl hS1 rfl ?_
  intro g1 w2 hS2 hf
  refine LW.p rfl rfl ?_
  refine LW.nil ?_
  show CW _ _ _ _ _ _
  refine CW.seq ?_
  refine CW.region ?_
  refine LW.u (Pur.fa fo49_0 rfl) rfl ?_
  refine LW.ldb hS2 0 rfl ag47 rfl rfl rfl ?_
  refine LW.p rfl rfl ?_
  replace h := obind h
  obtain ⟨y3, hy3, h⟩ := h
  have q := W_l_szIntS (w0 := w2) hy3 rfl (hS2.rB hr0_0)
  refine LW.call pl50 rfl rfl ?_
  refine Ret.mono q ?_
  rintro _ w4 ⟨rfl, hs⟩
  have hS3 := hS2.add hs
  refine LW.p rfl rfl ?_
  refine LW.nil ?_
  show CW _ _ _ _ _ _
  refine CW.seq ?_
  refine CW.seq ?_
  refine CW.region ?_
  iterate 2 refine LW.p rfl rfl ?_
  refine LW.nil ?_
  show CW _ _ _ _ _ _
  refine CW.cond rfl (fun hc5 => ?_) (fun hc5 => ?_)
  · replace h := bcT h hc5
    refine CW.seq ?_
    refine CW.region ?_
    refine LW.p rfl rfl ?_
    refine LW.nil ?_
    show CW _ _ _ _ _ _
    refine CW.ret ?_
    cases h
    exact And.intro trivial ⟨_, Res.one (resOne.t rfl), rfl, hS3.pick [] rfl rfl⟩
  replace h := bcF h hc5
  refine CW.skip ?_
  show CW _ _ _ _ _ _
  refine CW.seq ?_
  refine CW.region ?_
  iterate 2 refine LW.p rfl rfl ?_
  refine LW.nil ?_
  show CW _ _ _ _ _ _
  refine CW.ret ?_
  cases h
  exact And.intro trivial ⟨_, Res.one (resOne.t rfl), rfl, hS3.pick [] rfl rfl⟩

theorem W_l_szPartBoot {w0 : World} {N : Nat} {x0 : DBoot} {x1 : Int} {r : Int} (h : F_l_szPartBoot N x0 x1 = some r) {a0_0 : Option Addr} {n0_0 c0_0 : Nat} (hn0_0 : n0_0 = x0.label.levels.length) (hr0_0 : rdS (Bor w0 []) w0 a0_0 c0_0 x0.label.levels) {a0_1 : Option Addr} {n0_1 c0_1 : Nat} (hn0_1 : n0_1 = x0.own.length) (hr0_1 : rdS (Bor w0 []) w0 a0_1 c0_1 x0.own) :
    Ret Try.prog 41 #[.agg #[.slice a0_0 n0_0 c0_0, .slice a0_1 n0_1 c0_1, .int .i64 x0.amt.pages, .int .i64 x0.amt.rent, .int .i64 x0.amt.cpu], .int .i64 x1] w0 (fun v w => v = .int .i64 r ∧ St w0 [] w []) := by
  subst hn0_0
  subst hn0_1
  unfold F_l_szPartBoot at h
  refine Ret.of Try.func41 rfl rfl rfl ?_
  have hS1 := St.start w0
  refine CW.seq ?_
  refine CW.region ?_
  refine LW.box (cs := [.slice a0_0 x0.label.levels.length c0_0, .slice a0_1 x0.own.length c0_1, .int .i64 x0.amt.pages, .int .i64 x0.amt.rent, .int .i64 x0.amt.cpu]) rfl hS1 rfl ?_
  intro g1 w2 hS2 hf
  refine LW.p rfl rfl ?_
  refine LW.nil ?_
  show CW _ _ _ _ _ _
  refine CW.seq ?_
  refine CW.region ?_
  refine LW.u (Pur.fa fo73_0 rfl) rfl ?_
  refine LW.ldbN hS2 0 rfl ag49 rfl rfl rfl ?_
  refine LW.p rfl rfl ?_
  replace h := obind h
  obtain ⟨y3, hy3, h⟩ := h
  have q := W_l_szLabel (w0 := w2) hy3 rfl (hS2.rB hr0_0)
  refine LW.call pl26 rfl rfl ?_
  refine Ret.mono q ?_
  rintro _ w4 ⟨rfl, hs⟩
  have hS3 := hS2.add hs
  refine LW.p rfl rfl ?_
  refine LW.nil ?_
  show CW _ _ _ _ _ _
  refine CW.seq ?_
  refine CW.seq ?_
  refine CW.region ?_
  iterate 2 refine LW.p rfl rfl ?_
  refine LW.nil ?_
  show CW _ _ _ _ _ _
  refine CW.cond rfl (fun hc5 => ?_) (fun hc5 => ?_)
  · replace h := bcT h hc5
    refine CW.seq ?_
    refine CW.region ?_
    refine LW.p rfl rfl ?_
    refine LW.nil ?_
    show CW _ _ _ _ _ _
    refine CW.ret ?_
    cases h
    exact And.intro trivial ⟨_, Res.one (resOne.t rfl), rfl, hS3.pick [] rfl rfl⟩
  replace h := bcF h hc5
  refine CW.skip ?_
  show CW _ _ _ _ _ _
  refine CW.seq ?_
  refine CW.region ?_
  refine LW.u (Pur.fa fo73_1 rfl) rfl ?_
  refine LW.ldb hS3 0 rfl ag47 rfl rfl rfl ?_
  refine LW.p rfl rfl ?_
  replace h := obind h
  obtain ⟨y6, hy6, h⟩ := h
  have q := W_l_szIntS (w0 := w4) hy6 rfl (hS3.rB hr0_1)
  refine LW.call pl50 rfl rfl ?_
  refine Ret.mono q ?_
  rintro _ w7 ⟨rfl, hs⟩
  have hS4 := hS3.add hs
  refine LW.p rfl rfl ?_
  refine LW.nil ?_
  show CW _ _ _ _ _ _
  refine CW.fresh (l := [(1, .int .i64 y6)]) ⟨rfl, trivial⟩ (fun e => ?_)
  refine CW.seq ?_
  refine CW.seq ?_
  refine CW.region ?_
  iterate 2 refine LW.p rfl rfl ?_
  refine LW.nil ?_
  show CW _ _ _ _ _ _
  refine CW.cond rfl (fun hc8 => ?_) (fun hc8 => ?_)
  · replace h := bcT h hc8
    refine CW.seq ?_
    refine CW.region ?_
    refine LW.p rfl rfl ?_
    refine LW.nil ?_
    show CW _ _ _ _ _ _
    refine CW.ret ?_
    cases h
    exact And.intro trivial ⟨_, Res.one (resOne.t rfl), rfl, hS4.pick [] rfl rfl⟩
  replace h := bcF h hc8
  refine CW.skip ?_
  show CW _ _ _ _ _ _
  refine CW.seq ?_
  refine CW.region ?_
  iterate 2 refine LW.p rfl rfl ?_
  refine LW.nil ?_
  show CW _ _ _ _ _ _
  refine CW.ret ?_
  cases h
  exact And.intro trivial ⟨_, Res.one (resOne.t rfl), rfl, hS4.pick [] rfl rfl⟩

theorem W_l_szPartBootS {w0 : World} {N : Nat} {x0 : List DBoot} {x1 : Int} {r : Int} (h : F_l_szPartBootS N x0 x1 = some r) {a0_0 : Option Addr} {n0_0 c0_0 : Nat} (hn0_0 : n0_0 = x0.length) (hr0_0 : rdS (Bor w0 []) w0 a0_0 c0_0 x0) :
    Ret Try.prog 21 #[.slice a0_0 n0_0 c0_0, .int .i64 x1] w0 (fun v w => v = .int .i64 r ∧ St w0 [] w []) := by
  subst hn0_0
  unfold F_l_szPartBootS at h
  refine Ret.of Try.func21 rfl rfl rfl ?_
  have hS1 := St.start w0
  refine CW.seq ?_
  refine CW.region ?_
  refine LW.p rfl rfl ?_
  refine LW.nil ?_
  show CW _ _ _ _ _ _
  refine CW.seq ?_
  refine CW.region ?_
  iterate 2 refine LW.p rfl rfl ?_
  refine LW.u (Pur.len Try.underlying36 rfl) rfl ?_
  iterate 2 refine LW.p rfl rfl ?_
  refine LW.nil ?_
  show CW _ _ _ _ _ _
  refine CW.seq ?_
  refine CW.seq ?_
  refine CW.region ?_
  iterate 2 refine LW.p rfl rfl ?_
  refine LW.nil ?_
  show CW _ _ _ _ _ _
  refine CW.cond rfl (fun hc1 => ?_) (fun hc1 => ?_)
  · replace h := bcT h hc1
    refine CW.seq ?_
    refine CW.region ?_
    refine LW.p rfl rfl ?_
    refine LW.nil ?_
    show CW _ _ _ _ _ _
    refine CW.ret ?_
    cases h
    exact And.intro trivial ⟨_, Res.one (resOne.t rfl), rfl, hS1.pick [] rfl rfl⟩
  replace h := bcF h hc1
  refine CW.skip ?_
  show CW _ _ _ _ _ _
  refine CW.seq ?_
  refine CW.seq ?_
  refine CW.region ?_
  refine LW.p rfl rfl ?_
  refine LW.nil ?_
  show CW _ _ _ _ _ _
  refine CW.block ?_
  obtain ⟨o22, ho22, h23⟩ := obind h
  refine CW.mono (CW.iter (σ := Int × Int) (ρ := (Int × Int) ⊕ Int) (fun s2 e w => En e [(0, .slice a0_0 x0.length c0_0), (1, .int .i64 s2.1), (5, .int .i64 s2.2)] ∧ St w0 [] w []) (fun o x e w => match o with | .inl s2 => x = .exit 0 ∧ En e [(1, .int .i64 s2.1)] ∧ St w0 [] w [] | .inr r => x = .ret ∧ ∃ u, u = r ∧ ∃ v, Res Try.prog Try.f21.results e w v ∧ v = .int .i64 u ∧ St w0 [] w []) ?_ N (IntKind.i64.wrap (x1 - (x0.length : Int)), 0) _ _ _ ⟨⟨rfl, rfl, rfl, trivial⟩, hS1.pick [] rfl rfl⟩ ho22) ?_
  · intro s2 e w o hM h
    obtain ⟨hE, hS2⟩ := hM
    obtain ⟨e, rfl⟩ := hE.out
    refine CW.seq ?_
    refine CW.seq ?_
    refine CW.region ?_
    iterate 2 refine LW.p rfl rfl ?_
    refine LW.u (Pur.len Try.underlying36 rfl) rfl ?_
    refine LW.p rfl rfl ?_
    refine LW.nil ?_
    show CW _ _ _ _ _ _
    refine CW.fresh (l := [(0, .slice a0_0 x0.length c0_0), (1, .int .i64 s2.1), (5, .int .i64 s2.2), (15, .bool (decide (s2.2 < (x0.length : Int))))]) ⟨rfl, rfl, rfl, rfl, trivial⟩ (fun e => ?_)
    refine CW.cond rfl (fun hc3 => ?_) (fun hc3 => ?_)
    · replace h := bcT h hc3
      refine CW.skip ?_
      show CW _ _ _ _ _ _
      refine CW.seq ?_
      refine CW.block ?_
      refine CW.seq ?_
      refine CW.region ?_
      iterate 2 refine LW.p rfl rfl ?_
      replace h := obind h
      obtain ⟨y4, hy4, h⟩ := h
      obtain ⟨b7, o8, cs9, hae, hb12, hp5, hq6, hd10, hk11⟩ := hr0_0.idx hy4
      subst hae
      obtain ⟨a13, c14, a16, c17, rfl, hr15, hr18⟩ := hd10
      refine LW.u (Pur.ix Try.underlying36 sz73 rfl rfl hp5 hq6) rfl ?_
      refine LW.l (Ldr.oldN w0 ag73 rfl rfl (fun j u hu => hk11 j u hu)) (hS2.same _ hb12.1 hb12.2) rfl ?_
      refine LW.p rfl rfl ?_
      replace h := obind h
      obtain ⟨y19, hy19, h⟩ := h
      have q := W_l_szPartBoot (w0 := w) hy19 rfl (hS2.rB hr15) rfl (hS2.rB hr18)
      refine LW.call pl41 rfl rfl ?_
      refine Ret.mono q ?_
      rintro _ w20 ⟨rfl, hs⟩
      have hS3 := hS2.add hs
      refine LW.p rfl rfl ?_
      refine LW.nil ?_
      show CW _ _ _ _ _ _
      refine CW.seq ?_
      refine CW.region ?_
      iterate 2 refine LW.p rfl rfl ?_
      refine LW.nil ?_
      show CW _ _ _ _ _ _
      refine CW.cond rfl (fun hc21 => ?_) (fun hc21 => ?_)
      · replace h := bcT h hc21
        refine CW.seq ?_
        refine CW.region ?_
        refine LW.p rfl rfl ?_
        refine LW.nil ?_
        show CW _ _ _ _ _ _
        refine CW.ret ?_
        replace h := Option.some.inj h
        subst h
        exact ⟨trivial, rfl, _, rfl, ⟨_, Res.one (resOne.t rfl), rfl, hS3.pick [] rfl rfl⟩⟩
      replace h := bcF h hc21
      refine CW.skip ?_
      show CW _ _ _ _ _ _
      refine CW.region ?_
      iterate 3 refine LW.p rfl rfl ?_
      refine LW.nil ?_
      replace h := Option.some.inj h
      subst h
      exact ⟨rfl, ⟨⟨rfl, rfl, rfl, trivial⟩, hS3.pick [] rfl rfl⟩⟩
    replace h := bcF h hc3
    refine CW.exit ?_
    replace h := Option.some.inj h
    subst h
    exact ⟨trivial, rfl, ⟨⟨rfl, trivial⟩, hS2.pick [] rfl rfl⟩⟩
  intro x e w24 hM
  rcases o22 with o22 | r25
  · obtain ⟨rfl, hM⟩ := hM
    obtain ⟨hE, hS4⟩ := hM
    obtain ⟨e, rfl⟩ := hE.out
    have h := h23
    show CW _ _ _ _ _ _
    refine CW.seq ?_
    refine CW.region ?_
    iterate 2 refine LW.p rfl rfl ?_
    refine LW.nil ?_
    show CW _ _ _ _ _ _
    refine CW.ret ?_
    cases h
    exact And.intro trivial ⟨_, Res.one (resOne.t rfl), rfl, hS4.pick [] rfl rfl⟩
  obtain ⟨rfl, u, rfl, hM⟩ := hM
  cases h23
  exact And.intro trivial hM

theorem W_l_toIntS {w0 : World} {N : Nat} {x0 : List Int} {r : (List Int)} (h : F_l_toIntS N x0 = some r) {a0_0 : Option Addr} {n0_0 c0_0 : Nat} (hn0_0 : n0_0 = x0.length) (hr0_0 : rdS (Bor w0 []) w0 a0_0 c0_0 x0) :
    Ret Try.prog 53 #[.slice a0_0 n0_0 c0_0] w0 (fun v w => ∃ ar0 cr0, v = .slice ar0 r.length cr0 ∧ St w0 [] w [sl ar0 cr0 r]) := by
  subst hn0_0
  unfold F_l_toIntS at h
  refine Ret.of Try.func53 rfl rfl rfl ?_
  have hS1 := St.start w0
  refine CW.seq ?_
  refine CW.region ?_
  refine LW.p rfl rfl ?_
  refine LW.nil ?_
  show CW _ _ _ _ _ _
  refine CW.seq ?_
  refine CW.region ?_
  refine LW.p rfl rfl ?_
  refine LW.u (Pur.len Try.underlying47 rfl) rfl ?_
  replace h := obind h
  obtain ⟨y1, hy1, h⟩ := h
  refine LW.mk sT47 rfl rfl hy1 hS1 rfl ?_
  intro a2 c3 w4 hS2 hf
  refine LW.p rfl rfl ?_
  refine LW.nil ?_
  show CW _ _ _ _ _ _
  refine CW.seq ?_
  refine CW.seq ?_
  refine CW.region ?_
  refine LW.p rfl rfl ?_
  refine LW.nil ?_
  show CW _ _ _ _ _ _
  refine CW.block ?_
  obtain ⟨o23, ho23, h24⟩ := obind h
  refine CW.mono (CW.iter (σ := (List Int) × Int) (ρ := (List Int) × Int) (fun s5 e w => En e [(0, .slice a0_0 x0.length c0_0), (3, .slice a2 s5.1.length c3), (4, .int .i64 s5.2)] ∧ St w0 [] w [sl a2 c3 s5.1]) (fun s5 x e w => x = .exit 0 ∧ En e [(3, .slice a2 s5.1.length c3)] ∧ St w0 [] w [sl a2 c3 s5.1]) ?_ N (y1, 0) _ _ _ ⟨⟨rfl, rfl, rfl, trivial⟩, hS2.pick [0] rfl rfl⟩ ho23) ?_
  · intro s5 e w o hM h
    obtain ⟨hE, hS3⟩ := hM
    obtain ⟨e, rfl⟩ := hE.out
    refine CW.seq ?_
    refine CW.seq ?_
    refine CW.region ?_
    iterate 2 refine LW.p rfl rfl ?_
    refine LW.u (Pur.len Try.underlying47 rfl) rfl ?_
    refine LW.p rfl rfl ?_
    refine LW.nil ?_
    show CW _ _ _ _ _ _
    refine CW.cond rfl (fun hc6 => ?_) (fun hc6 => ?_)
    · replace h := bcT h hc6
      refine CW.skip ?_
      show CW _ _ _ _ _ _
      refine CW.seq ?_
      refine CW.block ?_
      refine CW.region ?_
      iterate 4 refine LW.p rfl rfl ?_
      replace h := obind h
      obtain ⟨y7, hy7, h⟩ := h
      obtain ⟨b10, o11, cs12, hae, hb15, hp8, hq9, hd13, hk14⟩ := hr0_0.idx hy7
      subst hae
      obtain rfl := hd13
      refine LW.u (Pur.ix Try.underlying47 sz3 rfl rfl hp8 hq9) rfl ?_
      refine LW.l (Ldr.old w0 ag3 rfl (hk14 0 _ rfl)) (hS3.same _ hb15.1 hb15.2) rfl ?_
      replace h := obind h
      obtain ⟨y16, hy16, h⟩ := h
      obtain ⟨b19, o20, hae, hp17, hq18⟩ := hS3.ownIdx (α := Int) (i := 0) rfl hy16
      subst hae
      refine LW.u (Pur.ix Try.underlying47 sz3 rfl rfl hp17 hq18) rfl ?_
      replace h := obind h
      obtain ⟨y21, hy21, h⟩ := h
      refine LW.stE (M := []) (L := [sl (some ⟨b19, o20, none⟩) c3 s5.1]) (z := y16) (z' := y7) (o := 0) hS3 (i := 0) rfl hy16 ag3 rfl (by show _ = o20 + (s5.2 : Int).toNat * 1 + 0; omega) rfl rfl rfl rfl (whole (fun w G hG => by cases (show G = [] from hG); exact ⟨rfl, rfl⟩)) ?_
      intro w22 hS4 hf
      rw [Option.some.inj hy21] at hS4
      refine LW.nil ?_
      show CW _ _ _ _ _ _
      refine CW.fresh (l := [(0, .slice (some ⟨b10, o11, none⟩) x0.length c0_0), (3, .slice (some ⟨b19, o20, none⟩) s5.1.length c3), (4, .int .i64 s5.2)]) ⟨rfl, rfl, rfl, trivial⟩ (fun e => ?_)
      refine CW.region ?_
      iterate 3 refine LW.p rfl rfl ?_
      refine LW.nil ?_
      replace h := Option.some.inj h
      subst h
      exact ⟨rfl, ⟨⟨rfl, (show (.slice (some ⟨b19, o20, none⟩) s5.1.length c3 : Value) = .slice (some ⟨b19, o20, none⟩) y21.length c3 by rw [show s5.1.length = y21.length from (len_set (Option.some.inj hy21))]), rfl, trivial⟩, hS4.pick [0] rfl rfl⟩⟩
    replace h := bcF h hc6
    refine CW.exit ?_
    replace h := Option.some.inj h
    subst h
    exact ⟨trivial, rfl, ⟨⟨rfl, trivial⟩, hS3.pick [0] rfl rfl⟩⟩
  intro x e w25 hM
  obtain ⟨rfl, hM⟩ := hM
  obtain ⟨hE, hS5⟩ := hM
  obtain ⟨e, rfl⟩ := hE.out
  have h := h24
  show CW _ _ _ _ _ _
  refine CW.seq ?_
  refine CW.region ?_
  iterate 2 refine LW.p rfl rfl ?_
  refine LW.nil ?_
  show CW _ _ _ _ _ _
  refine CW.ret ?_
  cases h
  exact And.intro trivial ⟨_, Res.one (resOne.t rfl), a2, c3, rfl, hS5.pick [0] rfl rfl⟩

theorem W_l_toLabel {w0 : World} {N : Nat} {x0 : DLabel} {r : DLabel} (h : F_l_toLabel N x0 = some r) {a0_0 : Option Addr} {n0_0 c0_0 : Nat} (hn0_0 : n0_0 = x0.levels.length) (hr0_0 : rdS (Bor w0 []) w0 a0_0 c0_0 x0.levels) :
    Ret Try.prog 29 #[.agg #[.slice a0_0 n0_0 c0_0]] w0 (fun v w => ∃ ar0_0 cr0_0, v = .agg #[.slice ar0_0 r.levels.length cr0_0] ∧ St w0 [] w [sl ar0_0 cr0_0 r.levels]) := by
  subst hn0_0
  unfold F_l_toLabel at h
  refine Ret.of Try.func29 rfl rfl rfl ?_
  have hS1 := St.start w0
  refine CW.seq ?_
  refine CW.region ?_
  refine LW.box (cs := [.slice a0_0 x0.levels.length c0_0]) rfl hS1 rfl ?_
  intro g1 w2 hS2 hf
  refine LW.alloc zv56 hS2 rfl ?_
  intro g3 w4 hS3 hf
  refine LW.nil ?_
  show CW _ _ _ _ _ _
  refine CW.seq ?_
  refine CW.region ?_
  refine LW.alloc zv56 hS3 rfl ?_
  intro g5 w6 hS4 hf
  refine LW.nil ?_
  show CW _ _ _ _ _ _
  refine CW.seq ?_
  refine CW.region ?_
  refine LW.u (Pur.fa fo49_0 rfl) rfl ?_
  refine LW.ldb hS4 2 rfl ag47 rfl rfl rfl ?_
  replace h := obind h
  obtain ⟨y7, hy7, h⟩ := h
  have q := W_l_toIntS (w0 := w6) hy7 rfl (hS4.rB hr0_0)
  refine LW.call pl53 rfl rfl ?_
  refine Ret.mono q ?_
  rintro _ w10 ⟨a8, c9, rfl, hs⟩
  have hS5 := hS4.add hs
  refine LW.u (Pur.fa fo56_0 rfl) rfl ?_
  refine LW.stb hS5 1 rfl ag47 rfl rfl rfl rfl rfl ?_
  intro w11 hS6 hf
  refine LW.nil ?_
  show CW _ _ _ _ _ _
  refine CW.seq ?_
  refine CW.region ?_
  refine LW.ldbN hS6 1 rfl ag56 rfl rfl rfl ?_
  refine LW.stb hS6 2 rfl ag56 rfl rfl rfl rfl rfl ?_
  intro w12 hS7 hf
  refine LW.nil ?_
  show CW _ _ _ _ _ _
  refine CW.ret ?_
  cases h
  exact And.intro trivial ⟨_, Res.one (resOne.b hS7 2 rfl ag56 rfl rfl), a8, c9, rfl, hS7.pick [0] rfl rfl⟩

theorem W_l_toAmt {w0 : World} {N : Nat} {x0 : DAmt} {r : DAmt} (h : F_l_toAmt N x0 = some r) :
    Ret Try.prog 59 #[.agg #[.int .i64 x0.pages, .int .i64 x0.rent, .int .i64 x0.cpu]] w0 (fun v w => v = .agg #[.int .i64 r.pages, .int .i64 r.rent, .int .i64 r.cpu] ∧ St w0 [] w []) := by
  unfold F_l_toAmt at h
  refine Ret.of Try.func59 rfl rfl rfl ?_
  have hS1 := St.start w0
  refine CW.seq ?_
  refine CW.region ?_
  refine LW.box (cs := [.int .i64 x0.pages, .int .i64 x0.rent, .int .i64 x0.cpu]) rfl hS1 rfl ?_
  intro g1 w2 hS2 hf
  refine LW.alloc zv61 hS2 rfl ?_
  intro g3 w4 hS3 hf
  refine LW.nil ?_
  show CW _ _ _ _ _ _
  refine CW.seq ?_
  refine CW.region ?_
  refine LW.alloc zv61 hS3 rfl ?_
  intro g5 w6 hS4 hf
  refine LW.nil ?_
  show CW _ _ _ _ _ _
  refine CW.seq ?_
  refine CW.region ?_
  refine LW.u (Pur.fa fo71_0 rfl) rfl ?_
  refine LW.ldb hS4 2 rfl ag3 rfl rfl rfl ?_
  refine LW.u (Pur.fa fo61_0 rfl) rfl ?_
  refine LW.stb hS4 0 rfl ag3 rfl rfl rfl rfl rfl ?_
  intro w7 hS5 hf
  refine LW.nil ?_
  show CW _ _ _ _ _ _
  refine CW.seq ?_
  refine CW.region ?_
  refine LW.u (Pur.fa fo71_1 rfl) rfl ?_
  refine LW.ldb hS5 2 rfl ag3 rfl rfl rfl ?_
  refine LW.u (Pur.fa fo61_1 rfl) rfl ?_
  refine LW.stb hS5 0 rfl ag3 rfl rfl rfl rfl rfl ?_
  intro w8 hS6 hf
  refine LW.nil ?_
  show CW _ _ _ _ _ _
  refine CW.seq ?_
  refine CW.region ?_
  refine LW.u (Pur.fa fo71_2 rfl) rfl ?_
  refine LW.ldb hS6 2 rfl ag3 rfl rfl rfl ?_
  refine LW.u (Pur.fa fo61_2 rfl) rfl ?_
  refine LW.stb hS6 0 rfl ag3 rfl rfl rfl rfl rfl ?_
  intro w9 hS7 hf
  refine LW.nil ?_
  show CW _ _ _ _ _ _
  refine CW.fresh (l := [(2, .pointer (some ⟨g3, 0, none⟩)), (3, .pointer (some ⟨g5, 0, none⟩))]) ⟨rfl, rfl, trivial⟩ (fun e => ?_)
  refine CW.seq ?_
  refine CW.region ?_
  refine LW.ldbN hS7 0 rfl ag61 rfl rfl rfl ?_
  refine LW.stb hS7 1 rfl ag61 rfl rfl rfl rfl rfl ?_
  intro w10 hS8 hf
  refine LW.nil ?_
  show CW _ _ _ _ _ _
  refine CW.ret ?_
  cases h
  exact And.intro trivial ⟨_, Res.one (resOne.b hS8 1 rfl ag61 rfl rfl), rfl, hS8.pick [] rfl rfl⟩

theorem W_l_toPartBoot {w0 : World} {N : Nat} {x0 : DBoot} {r : DBoot} (h : F_l_toPartBoot N x0 = some r) {a0_0 : Option Addr} {n0_0 c0_0 : Nat} (hn0_0 : n0_0 = x0.label.levels.length) (hr0_0 : rdS (Bor w0 []) w0 a0_0 c0_0 x0.label.levels) {a0_1 : Option Addr} {n0_1 c0_1 : Nat} (hn0_1 : n0_1 = x0.own.length) (hr0_1 : rdS (Bor w0 []) w0 a0_1 c0_1 x0.own) :
    Ret Try.prog 45 #[.agg #[.slice a0_0 n0_0 c0_0, .slice a0_1 n0_1 c0_1, .int .i64 x0.amt.pages, .int .i64 x0.amt.rent, .int .i64 x0.amt.cpu]] w0 (fun v w => ∃ ar0_0 cr0_0, ∃ ar0_1 cr0_1, v = .agg #[.slice ar0_0 r.label.levels.length cr0_0, .slice ar0_1 r.own.length cr0_1, .int .i64 r.amt.pages, .int .i64 r.amt.rent, .int .i64 r.amt.cpu] ∧ St w0 [] w [sl ar0_0 cr0_0 r.label.levels, sl ar0_1 cr0_1 r.own]) := by
  subst hn0_0
  subst hn0_1
  unfold F_l_toPartBoot at h
  refine Ret.of Try.func45 rfl rfl rfl ?_
  have hS1 := St.start w0
  refine CW.seq ?_
  refine CW.region ?_
  refine LW.box (cs := [.slice a0_0 x0.label.levels.length c0_0, .slice a0_1 x0.own.length c0_1, .int .i64 x0.amt.pages, .int .i64 x0.amt.rent, .int .i64 x0.amt.cpu]) rfl hS1 rfl ?_
  intro g1 w2 hS2 hf
  refine LW.alloc zv76 hS2 rfl ?_
  intro g3 w4 hS3 hf
  refine LW.nil ?_
  show CW _ _ _ _ _ _
  refine CW.seq ?_
  refine CW.region ?_
  refine LW.alloc zv76 hS3 rfl ?_
  intro g5 w6 hS4 hf
  refine LW.nil ?_
  show CW _ _ _ _ _ _
  refine CW.seq ?_
  refine CW.region ?_
  refine LW.u (Pur.fa fo73_0 rfl) rfl ?_
  refine LW.ldbN hS4 2 rfl ag49 rfl rfl rfl ?_
  replace h := obind h
  obtain ⟨y7, hy7, h⟩ := h
  have q := W_l_toLabel (w0 := w6) hy7 rfl (hS4.rB hr0_0)
  refine LW.call pl29 rfl rfl ?_
  refine Ret.mono q ?_
  rintro _ w10 ⟨a8, c9, rfl, hs⟩
  have hS5 := hS4.add hs
  refine LW.u (Pur.fa fo76_0 rfl) rfl ?_
  refine LW.stb hS5 1 rfl ag56 rfl rfl rfl rfl rfl ?_
  intro w11 hS6 hf
  refine LW.nil ?_
  show CW _ _ _ _ _ _
  refine CW.seq ?_
  refine CW.region ?_
  refine LW.u (Pur.fa fo73_1 rfl) rfl ?_
  refine LW.ldb hS6 3 rfl ag47 rfl rfl rfl ?_
  replace h := obind h
  obtain ⟨y12, hy12, h⟩ := h
  have q := W_l_toIntS (w0 := w11) hy12 rfl (hS6.rB hr0_1)
  refine LW.call pl53 rfl rfl ?_
  refine Ret.mono q ?_
  rintro _ w15 ⟨a13, c14, rfl, hs⟩
  have hS7 := hS6.add hs
  refine LW.u (Pur.fa fo76_1 rfl) rfl ?_
  refine LW.stb hS7 2 rfl ag47 rfl rfl rfl rfl rfl ?_
  intro w16 hS8 hf
  refine LW.nil ?_
  show CW _ _ _ _ _ _
  refine CW.fresh (l := [(1, .pointer (some ⟨g1, 0, none⟩)), (2, .pointer (some ⟨g3, 0, none⟩)), (3, .pointer (some ⟨g5, 0, none⟩))]) ⟨rfl, rfl, rfl, trivial⟩ (fun e => ?_)
  refine CW.seq ?_
  refine CW.region ?_
  refine LW.u (Pur.fa fo73_2 rfl) rfl ?_
  refine LW.ldbN hS8 4 rfl ag71 rfl rfl rfl ?_
  replace h := obind h
  obtain ⟨y17, hy17, h⟩ := h
  have q := W_l_toAmt (w0 := w16) hy17
  refine LW.call pl59 rfl rfl ?_
  refine Ret.mono q ?_
  rintro _ w18 ⟨rfl, hs⟩
  have hS9 := hS8.add hs
  refine LW.u (Pur.fa fo76_2 rfl) rfl ?_
  refine LW.stb hS9 2 rfl ag61 rfl rfl rfl rfl rfl ?_
  intro w19 hS10 hf
  refine LW.nil ?_
  show CW _ _ _ _ _ _
  refine CW.seq ?_
  refine CW.region ?_
  refine LW.ldbN hS10 2 rfl ag76 rfl rfl rfl ?_
  refine LW.stb hS10 3 rfl ag76 rfl rfl rfl rfl rfl ?_
  intro w20 hS11 hf
  refine LW.nil ?_
  show CW _ _ _ _ _ _
  refine CW.ret ?_
  cases h
  exact And.intro trivial ⟨_, Res.one (resOne.b hS11 3 rfl ag76 rfl rfl), a8, c9, a13, c14, rfl, hS11.pick [1, 0] rfl rfl⟩

theorem W_l_toPartBootS {w0 : World} {N : Nat} {x0 : List DBoot} {r : (List DBoot)} (h : F_l_toPartBootS N x0 = some r) {a0_0 : Option Addr} {n0_0 c0_0 : Nat} (hn0_0 : n0_0 = x0.length) (hr0_0 : rdS (Bor w0 []) w0 a0_0 c0_0 x0) :
    Ret Try.prog 23 #[.slice a0_0 n0_0 c0_0] w0 (fun v w => ∃ ar0 cr0, v = .slice ar0 r.length cr0 ∧ St w0 [] w [sl ar0 cr0 r]) := by
  subst hn0_0
  unfold F_l_toPartBootS at h
  refine Ret.of Try.func23 rfl rfl rfl ?_
  have hS1 := St.start w0
  refine CW.seq ?_
  refine CW.region ?_
  refine LW.p rfl rfl ?_
  refine LW.nil ?_
  show CW _ _ _ _ _ _
  refine CW.seq ?_
  refine CW.region ?_
  refine LW.p rfl rfl ?_
  refine LW.u (Pur.len Try.underlying36 rfl) rfl ?_
  replace h := obind h
  obtain ⟨y1, hy1, h⟩ := h
  refine LW.mk sT39 rfl rfl hy1 hS1 rfl ?_
  intro a2 c3 w4 hS2 hf
  refine LW.p rfl rfl ?_
  refine LW.nil ?_
  show CW _ _ _ _ _ _
  refine CW.seq ?_
  refine CW.seq ?_
  refine CW.region ?_
  refine LW.p rfl rfl ?_
  refine LW.nil ?_
  show CW _ _ _ _ _ _
  refine CW.block ?_
  obtain ⟨o35, ho35, h36⟩ := obind h
  refine CW.mono (CW.iter (σ := (List DBoot) × Int) (ρ := (List DBoot) × Int) (fun s5 e w => En e [(0, .slice a0_0 x0.length c0_0), (3, .slice a2 s5.1.length c3), (4, .int .i64 s5.2)] ∧ St w0 [] w [sl a2 c3 s5.1]) (fun s5 x e w => x = .exit 0 ∧ En e [(3, .slice a2 s5.1.length c3)] ∧ St w0 [] w [sl a2 c3 s5.1]) ?_ N (y1, 0) _ _ _ ⟨⟨rfl, rfl, rfl, trivial⟩, hS2.pick [0] rfl rfl⟩ ho35) ?_
  · intro s5 e w o hM h
    obtain ⟨hE, hS3⟩ := hM
    obtain ⟨e, rfl⟩ := hE.out
    refine CW.seq ?_
    refine CW.seq ?_
    refine CW.region ?_
    iterate 2 refine LW.p rfl rfl ?_
    refine LW.u (Pur.len Try.underlying36 rfl) rfl ?_
    refine LW.p rfl rfl ?_
    refine LW.nil ?_
    show CW _ _ _ _ _ _
    refine CW.cond rfl (fun hc6 => ?_) (fun hc6 => ?_)
    · replace h := bcT h hc6
      refine CW.skip ?_
      show CW _ _ _ _ _ _
      refine CW.seq ?_
      refine CW.block ?_
      refine CW.region ?_
      iterate 4 refine LW.p rfl rfl ?_
      replace h := obind h
      obtain ⟨y7, hy7, h⟩ := h
      obtain ⟨b10, o11, cs12, hae, hb15, hp8, hq9, hd13, hk14⟩ := hr0_0.idx hy7
      subst hae
      obtain ⟨a16, c17, a19, c20, rfl, hr18, hr21⟩ := hd13
      refine LW.u (Pur.ix Try.underlying36 sz73 rfl rfl hp8 hq9) rfl ?_
      refine LW.l (Ldr.oldN w0 ag73 rfl rfl (fun j u hu => hk14 j u hu)) (hS3.same _ hb15.1 hb15.2) rfl ?_
      replace h := obind h
      obtain ⟨y22, hy22, h⟩ := h
      have q := W_l_toPartBoot (w0 := w) hy22 rfl (hS3.rB hr18) rfl (hS3.rB hr21)
      refine LW.call pl45 rfl rfl ?_
      refine Ret.mono q ?_
      rintro _ w27 ⟨a23, c24, a25, c26, rfl, hs⟩
      have hS4 := hS3.add hs
      replace h := obind h
      obtain ⟨y28, hy28, h⟩ := h
      obtain ⟨b31, o32, hae, hp29, hq30⟩ := hS4.ownIdx (α := DBoot) (i := 2) rfl hy28
      subst hae
      refine LW.u (Pur.ix Try.underlying39 sz76 rfl rfl hp29 hq30) rfl ?_
      have hS5 := hS4.pick (M := [sl a23 c24 y22.label.levels, sl a25 c26 y22.own] ++ [sl (some ⟨b31, o32, none⟩) c3 s5.1]) [0, 1, 2] rfl rfl
      replace h := obind h
      obtain ⟨y33, hy33, h⟩ := h
      refine LW.stE (M := [sl a23 c24 y22.label.levels, sl a25 c26 y22.own]) (L := [sl (some ⟨b31, o32, none⟩) c3 s5.1]) (z := y28) (z' := y22) (o := 0) hS5 (i := 0) rfl hy28 ag76 rfl (by show _ = o32 + (s5.2 : Int).toNat * 5 + 0; omega) rfl rfl rfl rfl (whole (fun w G hG => ⟨a23, c24, a25, c26, rfl, hG⟩)) ?_
      intro w34 hS6 hf
      rw [Option.some.inj hy33] at hS6
      refine LW.nil ?_
      show CW _ _ _ _ _ _
      refine CW.fresh (l := [(0, .slice (some ⟨b10, o11, none⟩) x0.length c0_0), (3, .slice (some ⟨b31, o32, none⟩) s5.1.length c3), (4, .int .i64 s5.2)]) ⟨rfl, rfl, rfl, trivial⟩ (fun e => ?_)
      refine CW.region ?_
      iterate 3 refine LW.p rfl rfl ?_
      refine LW.nil ?_
      replace h := Option.some.inj h
      subst h
      exact ⟨rfl, ⟨⟨rfl, (show (.slice (some ⟨b31, o32, none⟩) s5.1.length c3 : Value) = .slice (some ⟨b31, o32, none⟩) y33.length c3 by rw [show s5.1.length = y33.length from (len_set (Option.some.inj hy33))]), rfl, trivial⟩, hS6.pick [0] rfl rfl⟩⟩
    replace h := bcF h hc6
    refine CW.exit ?_
    replace h := Option.some.inj h
    subst h
    exact ⟨trivial, rfl, ⟨⟨rfl, trivial⟩, hS3.pick [0] rfl rfl⟩⟩
  intro x e w37 hM
  obtain ⟨rfl, hM⟩ := hM
  obtain ⟨hE, hS7⟩ := hM
  obtain ⟨e, rfl⟩ := hE.out
  have h := h36
  show CW _ _ _ _ _ _
  refine CW.seq ?_
  refine CW.region ?_
  iterate 2 refine LW.p rfl rfl ?_
  refine LW.nil ?_
  show CW _ _ _ _ _ _
  refine CW.ret ?_
  cases h
  exact And.intro trivial ⟨_, Res.one (resOne.t rfl), a2, c3, rfl, hS7.pick [0] rfl rfl⟩

theorem W_s_LabelOk {w0 : World} {N : Nat} {x0 : DLabel} {r : Bool} (h : F_s_LabelOk N x0 = some r) {a0_0 : Option Addr} {n0_0 c0_0 : Nat} (hn0_0 : n0_0 = x0.levels.length) (hr0_0 : rdS (Bor w0 []) w0 a0_0 c0_0 x0.levels) :
    Ret Try.prog 42 #[.agg #[.slice a0_0 n0_0 c0_0]] w0 (fun v w => v = .bool r ∧ St w0 [] w []) := by
  subst hn0_0
  unfold F_s_LabelOk at h
  refine Ret.of Try.func42 rfl rfl rfl ?_
  have hS1 := St.start w0
  refine CW.seq ?_
  refine CW.region ?_
  refine LW.box (cs := [.slice a0_0 x0.levels.length c0_0]) rfl hS1 rfl ?_
  intro g1 w2 hS2 hf
  refine LW.p rfl rfl ?_
  refine LW.nil ?_
  show CW _ _ _ _ _ _
  refine CW.seq ?_
  refine CW.seq ?_
  refine CW.region ?_
  refine LW.u (Pur.fa fo56_0 rfl) rfl ?_
  refine LW.ldb hS2 0 rfl ag47 rfl rfl rfl ?_
  refine LW.u (Pur.len Try.underlying47 rfl) rfl ?_
  refine LW.p rfl rfl ?_
  refine LW.nil ?_
  show CW _ _ _ _ _ _
  refine CW.cond rfl (fun hc3 => ?_) (fun hc3 => ?_)
  · replace h := bcT h hc3
    refine CW.seq ?_
    refine CW.region ?_
    refine LW.p rfl rfl ?_
    refine LW.nil ?_
    show CW _ _ _ _ _ _
    refine CW.ret ?_
    cases h
    exact And.intro trivial ⟨_, Res.one (resOne.t rfl), rfl, hS2.pick [] rfl rfl⟩
  replace h := bcF h hc3
  refine CW.skip ?_
  show CW _ _ _ _ _ _
  refine CW.seq ?_
  refine CW.seq ?_
  refine CW.region ?_
  refine LW.p rfl rfl ?_
  refine LW.nil ?_
  show CW _ _ _ _ _ _
  refine CW.block ?_
  obtain ⟨o18, ho18, h19⟩ := obind h
  refine CW.mono (CW.iter (σ := Int) (ρ := Int ⊕ Bool) (fun s4 e w => En e [(1, .pointer (some ⟨g1, 0, none⟩)), (3, .int .i64 s4)] ∧ St w0 [] w [bx g1 56 [.slice a0_0 x0.levels.length c0_0]]) (fun o x e w => match o with | .inl s4 => x = .exit 0 ∧ En e [] ∧ St w0 [] w [bx g1 56 [.slice a0_0 x0.levels.length c0_0]] | .inr r => x = .ret ∧ ∃ u, u = r ∧ ∃ v, Res Try.prog Try.f42.results e w v ∧ v = .bool u ∧ St w0 [] w []) ?_ N 0 _ _ _ ⟨⟨rfl, rfl, trivial⟩, hS2.pick [0] rfl rfl⟩ ho18) ?_
  · intro s4 e w o hM h
    obtain ⟨hE, hS3⟩ := hM
    obtain ⟨e, rfl⟩ := hE.out
    refine CW.seq ?_
    refine CW.seq ?_
    refine CW.region ?_
    refine LW.p rfl rfl ?_
    refine LW.u (Pur.fa fo56_0 rfl) rfl ?_
    refine LW.ldb hS3 0 rfl ag47 rfl rfl rfl ?_
    refine LW.u (Pur.len Try.underlying47 rfl) rfl ?_
    refine LW.p rfl rfl ?_
    refine LW.nil ?_
    show CW _ _ _ _ _ _
    refine CW.cond rfl (fun hc5 => ?_) (fun hc5 => ?_)
    · replace h := bcT h hc5
      refine CW.skip ?_
      show CW _ _ _ _ _ _
      refine CW.seq ?_
      refine CW.block ?_
      refine CW.seq ?_
      refine CW.region ?_
      refine LW.u (Pur.fa fo56_0 rfl) rfl ?_
      refine LW.ldb hS3 0 rfl ag47 rfl rfl rfl ?_
      refine LW.p rfl rfl ?_
      replace h := obind h
      obtain ⟨y6, hy6, h⟩ := h
      obtain ⟨b9, o10, cs11, hae, hb14, hp7, hq8, hd12, hk13⟩ := hr0_0.idx hy6
      subst hae
      obtain rfl := hd12
      refine LW.u (Pur.ix Try.underlying47 sz3 rfl rfl hp7 hq8) rfl ?_
      refine LW.l (Ldr.old w0 ag3 rfl (hk13 0 _ rfl)) (hS3.same _ hb14.1 hb14.2) rfl ?_
      replace h := obind h
      obtain ⟨y15, hy15, h⟩ := h
      have q := W_s_l1In (w0 := w) hy15
      refine LW.call pl35 rfl rfl ?_
      refine Ret.mono q ?_
      rintro _ w16 ⟨rfl, hs⟩
      have hS4 := hS3.add hs
      refine LW.p rfl rfl ?_
      refine LW.nil ?_
      show CW _ _ _ _ _ _
      refine CW.fresh (l := [(1, .pointer (some ⟨g1, 0, none⟩)), (3, .int .i64 s4), (21, .bool (!y15))]) ⟨rfl, rfl, rfl, trivial⟩ (fun e => ?_)
      refine CW.cond rfl (fun hc17 => ?_) (fun hc17 => ?_)
      · replace h := bcT h hc17
        refine CW.seq ?_
        refine CW.region ?_
        refine LW.p rfl rfl ?_
        refine LW.nil ?_
        show CW _ _ _ _ _ _
        refine CW.ret ?_
        replace h := Option.some.inj h
        subst h
        exact ⟨trivial, rfl, _, rfl, ⟨_, Res.one (resOne.t rfl), rfl, hS4.pick [] rfl rfl⟩⟩
      replace h := bcF h hc17
      refine CW.skip ?_
      show CW _ _ _ _ _ _
      refine CW.region ?_
      iterate 3 refine LW.p rfl rfl ?_
      refine LW.nil ?_
      replace h := Option.some.inj h
      subst h
      exact ⟨rfl, ⟨⟨rfl, rfl, trivial⟩, hS4.pick [0] rfl rfl⟩⟩
    replace h := bcF h hc5
    refine CW.exit ?_
    replace h := Option.some.inj h
    subst h
    exact ⟨trivial, rfl, ⟨trivial, hS3.pick [0] rfl rfl⟩⟩
  intro x e w20 hM
  rcases o18 with o18 | r21
  · obtain ⟨rfl, hM⟩ := hM
    obtain ⟨hE, hS5⟩ := hM
    obtain ⟨e, rfl⟩ := hE.out
    have h := h19
    show CW _ _ _ _ _ _
    refine CW.seq ?_
    refine CW.region ?_
    refine LW.p rfl rfl ?_
    refine LW.nil ?_
    show CW _ _ _ _ _ _
    refine CW.ret ?_
    cases h
    exact And.intro trivial ⟨_, Res.one (resOne.t rfl), rfl, hS5.pick [] rfl rfl⟩
  obtain ⟨rfl, u, rfl, hM⟩ := hM
  cases h19
  exact And.intro trivial hM

theorem W_s_OwnOk {w0 : World} {N : Nat} {x0 : List Int} {r : Bool} (h : F_s_OwnOk N x0 = some r) {a0_0 : Option Addr} {n0_0 c0_0 : Nat} (hn0_0 : n0_0 = x0.length) (hr0_0 : rdS (Bor w0 []) w0 a0_0 c0_0 x0) :
    Ret Try.prog 43 #[.slice a0_0 n0_0 c0_0] w0 (fun v w => v = .bool r ∧ St w0 [] w []) := by
  subst hn0_0
  unfold F_s_OwnOk at h
  refine Ret.of Try.func43 rfl rfl rfl ?_
  have hS1 := St.start w0
  refine CW.seq ?_
  refine CW.region ?_
  refine LW.p rfl rfl ?_
  refine LW.nil ?_
  show CW _ _ _ _ _ _
  refine CW.seq ?_
  refine CW.seq ?_
  refine CW.region ?_
  refine LW.p rfl rfl ?_
  refine LW.nil ?_
  show CW _ _ _ _ _ _
  refine CW.block ?_
  obtain ⟨o29, ho29, h30⟩ := obind h
  refine CW.mono (CW.iter (σ := Int) (ρ := Int ⊕ Bool) (fun s1 e w => En e [(0, .slice a0_0 x0.length c0_0), (3, .int .i64 s1)] ∧ St w0 [] w []) (fun o x e w => match o with | .inl s1 => x = .exit 0 ∧ En e [] ∧ St w0 [] w [] | .inr r => x = .ret ∧ ∃ u, u = r ∧ ∃ v, Res Try.prog Try.f43.results e w v ∧ v = .bool u ∧ St w0 [] w []) ?_ N 0 _ _ _ ⟨⟨rfl, rfl, trivial⟩, hS1.pick [] rfl rfl⟩ ho29) ?_
  · intro s1 e w o hM h
    obtain ⟨hE, hS2⟩ := hM
    obtain ⟨e, rfl⟩ := hE.out
    refine CW.seq ?_
    refine CW.seq ?_
    refine CW.region ?_
    iterate 2 refine LW.p rfl rfl ?_
    refine LW.u (Pur.len Try.underlying47 rfl) rfl ?_
    refine LW.p rfl rfl ?_
    refine LW.nil ?_
    show CW _ _ _ _ _ _
    refine CW.cond rfl (fun hc2 => ?_) (fun hc2 => ?_)
    · replace h := bcT h hc2
      refine CW.skip ?_
      show CW _ _ _ _ _ _
      refine CW.seq ?_
      refine CW.block ?_
      refine CW.seq ?_
      obtain ⟨j3, hj3, h4⟩ := obind h
      refine CW.cut (fun e w => En e [(0, .slice a0_0 x0.length c0_0), (3, .int .i64 s1), (31, .bool j3)] ∧ St w0 [] w []) ?_ ?_
      · have h := hj3
        refine CW.draw (by kernel_rfl) ?_
        have hS3 := hS2.drew
        refine AW.u (i := 0) rfl (by kernel_rfl) rfl rfl (Pur.p rfl) ?_
        refine AW.u (i := 1) rfl (by kernel_rfl) rfl rfl (Pur.p rfl) ?_
        replace h := obind h
        obtain ⟨y5, hy5, h⟩ := h
        obtain ⟨b8, o9, cs10, hae, hb13, hp6, hq7, hd11, hk12⟩ := hr0_0.idx hy5
        subst hae
        obtain rfl := hd11
        refine AW.u (i := 2) rfl (by kernel_rfl) rfl rfl (Pur.ix Try.underlying47 sz3 rfl rfl hp6 hq7) ?_
        refine AW.take (i := 3) rfl (by kernel_rfl) rfl rfl (Ldr.old w0 ag3 rfl (hk12 0 _ rfl)) (hS3.same _ hb13.1 hb13.2) ?_
        replace h := obind h
        obtain ⟨y14, hy14, h⟩ := h
        have q := W_s_l1In (w0 := w.drew) hy14
        refine AW.one (i := 4) (by kernel_rfl) ?_
        refine ⟨_, rfl, ?_⟩
        refine LW.call pl35 rfl rfl ?_
        refine Ret.mono q ?_
        rintro _ w15 ⟨rfl, hs⟩
        have hS4 := hS3.add hs
        refine LW.nil ⟨rfl, (.w (by kernel_rfl) Kept.n), ?_⟩
        refine AW.u (i := 5) rfl (by kernel_rfl) rfl rfl (Pur.p rfl) ?_
        refine AW.u (i := 6) rfl (by kernel_rfl) rfl rfl (Pur.p rfl) ?_
        rcases bcases (!y14) with hc16 | hc16
        · replace h := bcT h hc16
          refine AW.no (i := 7) rfl (by kernel_rfl) (want_not rfl rfl hc16) rfl ?_
          refine AW.no (i := 8) rfl (by kernel_rfl) (want_not rfl rfl hc16) rfl ?_
          refine AW.no (i := 9) rfl (by kernel_rfl) (want_not rfl rfl hc16) rfl ?_
          refine AW.no (i := 10) rfl (by kernel_rfl) (want_undef rfl rfl) rfl ?_
          refine AW.no (i := 11) rfl (by kernel_rfl) (want_undef rfl rfl) rfl ?_
          refine AW.no (i := 12) rfl (by kernel_rfl) (want_undef rfl rfl) rfl ?_
          refine AW.no (i := 13) rfl (by kernel_rfl) (want_undef rfl rfl) rfl ?_
          refine AW.no (i := 14) rfl (by kernel_rfl) (want_undef rfl rfl) rfl ?_
          refine AW.no (i := 15) rfl (by kernel_rfl) (want_undef rfl rfl) rfl ?_
          refine AW.no (i := 16) rfl (by kernel_rfl) (want_undef rfl rfl) rfl ?_
          refine AW.no (i := 17) rfl (by kernel_rfl) (want_undef rfl rfl) rfl ?_
          refine AW.no (i := 18) rfl (by kernel_rfl) (want_undef rfl rfl) rfl ?_
          refine AW.no (i := 19) rfl (by kernel_rfl) (want_undef rfl rfl) rfl ?_
          refine AW.no (i := 20) rfl (by kernel_rfl) (want_not rfl rfl hc16) rfl ?_
          refine AW.u (i := 21) rfl (by kernel_rfl) rfl rfl (Pur.pickT rfl hc16) ?_
          refine AW.done (by kernel_rfl) ?_
          replace h := Option.some.inj h
          subst h
          exact ⟨⟨rfl, rfl, rfl, trivial⟩, hS4.pick [] rfl rfl⟩
        replace h := bcF h hc16
        refine AW.u (i := 7) rfl (by kernel_rfl) (want_of rfl rfl hc16) rfl (Pur.p rfl) ?_
        refine AW.u (i := 8) rfl (by kernel_rfl) (want_of rfl rfl hc16) rfl (Pur.p rfl) ?_
        refine AW.u (i := 9) rfl (by kernel_rfl) (want_of rfl rfl hc16) rfl (Pur.p rfl) ?_
        rcases bcases (decide (s1 > 0)) with hc17 | hc17
        · replace h := bcT h hc17
          refine AW.u (i := 10) rfl (by kernel_rfl) (want_of rfl rfl hc17) rfl (Pur.p rfl) ?_
          refine AW.u (i := 11) rfl (by kernel_rfl) (want_of rfl rfl hc17) rfl (Pur.p rfl) ?_
          refine AW.u (i := 12) rfl (by kernel_rfl) (want_of rfl rfl hc17) rfl (Pur.ix Try.underlying47 sz3 rfl rfl hp6 hq7) ?_
          refine AW.take (i := 13) rfl (by kernel_rfl) (want_of rfl rfl hc17) rfl (Ldr.old w0 ag3 rfl (hk12 0 _ rfl)) (hS4.same _ hb13.1 hb13.2) ?_
          refine AW.u (i := 14) rfl (by kernel_rfl) (want_of rfl rfl hc17) rfl (Pur.p rfl) ?_
          refine AW.u (i := 15) rfl (by kernel_rfl) (want_of rfl rfl hc17) rfl (Pur.p rfl) ?_
          refine AW.u (i := 16) rfl (by kernel_rfl) (want_of rfl rfl hc17) rfl (Pur.p rfl) ?_
          replace h := obind h
          obtain ⟨y18, hy18, h⟩ := h
          obtain ⟨b21, o22, cs23, hae, hb26, hp19, hq20, hd24, hk25⟩ := hr0_0.idx hy18
          cases hae
          obtain rfl := hd24
          refine AW.u (i := 17) rfl (by kernel_rfl) (want_of rfl rfl hc17) rfl (Pur.ix Try.underlying47 sz3 rfl rfl hp19 hq20) ?_
          refine AW.take (i := 18) rfl (by kernel_rfl) (want_of rfl rfl hc17) rfl (Ldr.old w0 ag3 rfl (hk25 0 _ rfl)) (hS4.same _ hb26.1 hb26.2) ?_
          refine AW.u (i := 19) rfl (by kernel_rfl) (want_of rfl rfl hc17) rfl (Pur.p rfl) ?_
          refine AW.u (i := 20) rfl (by kernel_rfl) (want_of rfl rfl hc16) rfl (Pur.pickT rfl hc17) ?_
          refine AW.u (i := 21) rfl (by kernel_rfl) rfl rfl (Pur.pickF rfl hc16) ?_
          refine AW.done (by kernel_rfl) ?_
          replace h := Option.some.inj h
          subst h
          exact ⟨⟨rfl, rfl, rfl, trivial⟩, hS4.pick [] rfl rfl⟩
        replace h := bcF h hc17
        refine AW.no (i := 10) rfl (by kernel_rfl) (want_not rfl rfl hc17) rfl ?_
        refine AW.no (i := 11) rfl (by kernel_rfl) (want_not rfl rfl hc17) rfl ?_
        refine AW.no (i := 12) rfl (by kernel_rfl) (want_not rfl rfl hc17) rfl ?_
        refine AW.no (i := 13) rfl (by kernel_rfl) (want_not rfl rfl hc17) rfl ?_
        refine AW.no (i := 14) rfl (by kernel_rfl) (want_not rfl rfl hc17) rfl ?_
        refine AW.no (i := 15) rfl (by kernel_rfl) (want_not rfl rfl hc17) rfl ?_
        refine AW.no (i := 16) rfl (by kernel_rfl) (want_not rfl rfl hc17) rfl ?_
        refine AW.no (i := 17) rfl (by kernel_rfl) (want_not rfl rfl hc17) rfl ?_
        refine AW.no (i := 18) rfl (by kernel_rfl) (want_not rfl rfl hc17) rfl ?_
        refine AW.no (i := 19) rfl (by kernel_rfl) (want_not rfl rfl hc17) rfl ?_
        refine AW.u (i := 20) rfl (by kernel_rfl) (want_of rfl rfl hc16) rfl (Pur.pickF rfl hc17) ?_
        refine AW.u (i := 21) rfl (by kernel_rfl) rfl rfl (Pur.pickF rfl hc16) ?_
        refine AW.done (by kernel_rfl) ?_
        replace h := Option.some.inj h
        subst h
        exact ⟨⟨rfl, rfl, rfl, trivial⟩, hS4.pick [] rfl rfl⟩
      intro e w27 hM
      obtain ⟨hE, hS5⟩ := hM
      obtain ⟨e, rfl⟩ := hE.out
      have h := h4
      show CW _ _ _ _ _ _
      refine CW.cond rfl (fun hc28 => ?_) (fun hc28 => ?_)
      · replace h := bcT h hc28
        refine CW.seq ?_
        refine CW.region ?_
        refine LW.p rfl rfl ?_
        refine LW.nil ?_
        show CW _ _ _ _ _ _
        refine CW.ret ?_
        replace h := Option.some.inj h
        subst h
        exact ⟨trivial, rfl, _, rfl, ⟨_, Res.one (resOne.t rfl), rfl, hS5.pick [] rfl rfl⟩⟩
      replace h := bcF h hc28
      refine CW.skip ?_
      show CW _ _ _ _ _ _
      refine CW.region ?_
      iterate 3 refine LW.p rfl rfl ?_
      refine LW.nil ?_
      replace h := Option.some.inj h
      subst h
      exact ⟨rfl, ⟨⟨rfl, rfl, trivial⟩, hS5.pick [] rfl rfl⟩⟩
    replace h := bcF h hc2
    refine CW.exit ?_
    replace h := Option.some.inj h
    subst h
    exact ⟨trivial, rfl, ⟨trivial, hS2.pick [] rfl rfl⟩⟩
  intro x e w31 hM
  rcases o29 with o29 | r32
  · obtain ⟨rfl, hM⟩ := hM
    obtain ⟨hE, hS6⟩ := hM
    obtain ⟨e, rfl⟩ := hE.out
    have h := h30
    show CW _ _ _ _ _ _
    refine CW.seq ?_
    refine CW.region ?_
    refine LW.p rfl rfl ?_
    refine LW.nil ?_
    show CW _ _ _ _ _ _
    refine CW.ret ?_
    cases h
    exact And.intro trivial ⟨_, Res.one (resOne.t rfl), rfl, hS6.pick [] rfl rfl⟩
  obtain ⟨rfl, u, rfl, hM⟩ := hM
  cases h30
  exact And.intro trivial hM

theorem W_s_AmtOk {w0 : World} {N : Nat} {x0 : DAmt} {r : Bool} (h : F_s_AmtOk N x0 = some r) :
    Ret Try.prog 58 #[.agg #[.int .i64 x0.pages, .int .i64 x0.rent, .int .i64 x0.cpu]] w0 (fun v w => v = .bool r ∧ St w0 [] w []) := by
  unfold F_s_AmtOk at h
  refine Ret.of Try.func58 rfl rfl rfl ?_
  have hS1 := St.start w0
  refine CW.seq ?_
  refine CW.region ?_
  refine LW.box (cs := [.int .i64 x0.pages, .int .i64 x0.rent, .int .i64 x0.cpu]) rfl hS1 rfl ?_
  intro g1 w2 hS2 hf
  refine LW.p rfl rfl ?_
  refine LW.nil ?_
  show CW _ _ _ _ _ _
  refine CW.seq ?_
  refine CW.region ?_
  refine LW.u (Pur.fa fo61_0 rfl) rfl ?_
  refine LW.ldb hS2 0 rfl ag3 rfl rfl rfl ?_
  replace h := obind h
  obtain ⟨y3, hy3, h⟩ := h
  have q := W_s_l5In (w0 := w2) hy3
  refine LW.call pl37 rfl rfl ?_
  refine Ret.mono q ?_
  rintro _ w4 ⟨rfl, hs⟩
  have hS3 := hS2.add hs
  refine LW.p rfl rfl ?_
  rcases bcases y3 with hc5 | hc5
  · replace h := bcT h hc5
    refine LW.gY (want_of rfl rfl hc5) ?_
    refine LW.u (Pur.fa fo61_1 rfl) rfl ?_
    refine LW.gY (want_of rfl rfl hc5) ?_
    refine LW.ldb hS3 0 rfl ag3 rfl rfl rfl ?_
    replace h := obind h
    obtain ⟨y6, hy6, h⟩ := h
    have q := W_s_l5In (w0 := w4) hy6
    refine LW.gY (want_of rfl rfl hc5) ?_
    refine LW.call pl37 rfl rfl ?_
    refine Ret.mono q ?_
    rintro _ w7 ⟨rfl, hs⟩
    have hS4 := hS3.add hs
    refine LW.u (Pur.pickT rfl hc5) rfl ?_
    refine LW.p rfl rfl ?_
    rcases bcases y6 with hc8 | hc8
    · replace h := bcT h hc8
      refine LW.gY (want_of rfl rfl hc8) ?_
      refine LW.u (Pur.fa fo61_2 rfl) rfl ?_
      refine LW.gY (want_of rfl rfl hc8) ?_
      refine LW.ldb hS4 0 rfl ag3 rfl rfl rfl ?_
      replace h := obind h
      obtain ⟨y9, hy9, h⟩ := h
      have q := W_s_l5In (w0 := w7) hy9
      refine LW.gY (want_of rfl rfl hc8) ?_
      refine LW.call pl37 rfl rfl ?_
      refine Ret.mono q ?_
      rintro _ w10 ⟨rfl, hs⟩
      have hS5 := hS4.add hs
      refine LW.u (Pur.pickT rfl hc8) rfl ?_
      refine LW.p rfl rfl ?_
      refine LW.nil ?_
      show CW _ _ _ _ _ _
      refine CW.fresh (l := [(2, .bool y9)]) ⟨rfl, trivial⟩ (fun e => ?_)
      refine CW.ret ?_
      cases h
      exact And.intro trivial ⟨_, Res.one (resOne.t rfl), rfl, hS5.pick [] rfl rfl⟩
    replace h := bcF h hc8
    refine LW.gN (want_not rfl rfl hc8) rfl ?_
    refine LW.gN (want_not rfl rfl hc8) rfl ?_
    refine LW.gN (want_not rfl rfl hc8) rfl ?_
    refine LW.u (Pur.pickF rfl hc8) rfl ?_
    refine LW.p rfl rfl ?_
    refine LW.nil ?_
    show CW _ _ _ _ _ _
    refine CW.fresh (l := [(2, .bool false)]) ⟨rfl, trivial⟩ (fun e => ?_)
    refine CW.ret ?_
    cases h
    exact And.intro trivial ⟨_, Res.one (resOne.t rfl), rfl, hS4.pick [] rfl rfl⟩
  replace h := bcF h hc5
  refine LW.gN (want_not rfl rfl hc5) rfl ?_
  refine LW.gN (want_not rfl rfl hc5) rfl ?_
  refine LW.gN (want_not rfl rfl hc5) rfl ?_
  refine LW.u (Pur.pickF rfl hc5) rfl ?_
  refine LW.p rfl rfl ?_
  refine LW.gN (want_not rfl rfl rfl) rfl ?_
  refine LW.gN (want_not rfl rfl rfl) rfl ?_
  refine LW.gN (want_not rfl rfl rfl) rfl ?_
  refine LW.u (Pur.pickF rfl rfl) rfl ?_
  refine LW.p rfl rfl ?_
  refine LW.nil ?_
  show CW _ _ _ _ _ _
  refine CW.fresh (l := [(2, .bool false)]) ⟨rfl, trivial⟩ (fun e => ?_)
  refine CW.ret ?_
  cases h
  exact And.intro trivial ⟨_, Res.one (resOne.t rfl), rfl, hS3.pick [] rfl rfl⟩

theorem W_s_AmtAdd {w0 : World} {N : Nat} {x0 : DAmt} {x1 : DAmt} {r : DAmt × Bool} (h : F_s_AmtAdd N x0 x1 = some r) :
    Ret Try.prog 44 #[.agg #[.int .i64 x0.pages, .int .i64 x0.rent, .int .i64 x0.cpu], .agg #[.int .i64 x1.pages, .int .i64 x1.rent, .int .i64 x1.cpu]] w0 (fun v w => v = .tuple #[.agg #[.int .i64 r.1.pages, .int .i64 r.1.rent, .int .i64 r.1.cpu], .bool r.2] ∧ St w0 [] w []) := by
  unfold F_s_AmtAdd at h
  refine Ret.of Try.func44 rfl rfl rfl ?_
  have hS1 := St.start w0
  refine CW.seq ?_
  refine CW.region ?_
  refine LW.box (cs := [.int .i64 x0.pages, .int .i64 x0.rent, .int .i64 x0.cpu]) rfl hS1 rfl ?_
  intro g1 w2 hS2 hf
  refine LW.box (cs := [.int .i64 x1.pages, .int .i64 x1.rent, .int .i64 x1.cpu]) rfl hS2 rfl ?_
  intro g3 w4 hS3 hf
  refine LW.alloc zv61 hS3 rfl ?_
  intro g5 w6 hS4 hf
  refine LW.p rfl rfl ?_
  refine LW.nil ?_
  show CW _ _ _ _ _ _
  refine CW.seq ?_
  refine CW.seq ?_
  obtain ⟨j7, hj7, h8⟩ := obind h
  refine CW.cut (fun e w => En e [(2, .pointer (some ⟨g1, 0, none⟩)), (3, .pointer (some ⟨g3, 0, none⟩)), (4, .pointer (some ⟨g5, 0, none⟩)), (14, .bool j7)] ∧ St w0 [] w [bx g5 61 [.int .i64 0, .int .i64 0, .int .i64 0], bx g3 61 [.int .i64 x1.pages, .int .i64 x1.rent, .int .i64 x1.cpu], bx g1 61 [.int .i64 x0.pages, .int .i64 x0.rent, .int .i64 x0.cpu]]) ?_ ?_
  · have h := hj7
    refine CW.region ?_
    refine LW.ldbN hS4 2 rfl ag61 rfl rfl rfl ?_
    replace h := obind h
    obtain ⟨y9, hy9, h⟩ := h
    have q := W_s_AmtOk (w0 := w6) hy9
    refine LW.call pl58 rfl rfl ?_
    refine Ret.mono q ?_
    rintro _ w10 ⟨rfl, hs⟩
    have hS5 := hS4.add hs
    iterate 2 refine LW.p rfl rfl ?_
    rcases bcases (!y9) with hc11 | hc11
    · replace h := bcT h hc11
      refine LW.gN (want_not rfl rfl hc11) rfl ?_
      refine LW.gN (want_not rfl rfl hc11) rfl ?_
      refine LW.gN (want_not rfl rfl hc11) rfl ?_
      refine LW.u (Pur.pickT rfl hc11) rfl ?_
      refine LW.nil ?_
      replace h := Option.some.inj h
      subst h
      exact ⟨⟨rfl, rfl, rfl, rfl, trivial⟩, hS5.pick [0, 1, 2] rfl rfl⟩
    replace h := bcF h hc11
    refine LW.gY (want_of rfl rfl hc11) ?_
    refine LW.ldbN hS5 1 rfl ag61 rfl rfl rfl ?_
    replace h := obind h
    obtain ⟨y12, hy12, h⟩ := h
    have q := W_s_AmtOk (w0 := w10) hy12
    refine LW.gY (want_of rfl rfl hc11) ?_
    refine LW.call pl58 rfl rfl ?_
    refine Ret.mono q ?_
    rintro _ w13 ⟨rfl, hs⟩
    have hS6 := hS5.add hs
    refine LW.gY (want_of rfl rfl hc11) ?_
    refine LW.p rfl rfl ?_
    refine LW.u (Pur.pickF rfl hc11) rfl ?_
    refine LW.nil ?_
    replace h := Option.some.inj h
    subst h
    exact ⟨⟨rfl, rfl, rfl, rfl, trivial⟩, hS6.pick [0, 1, 2] rfl rfl⟩
  intro e w14 hM
  obtain ⟨hE, hS7⟩ := hM
  obtain ⟨e, rfl⟩ := hE.out
  have h := h8
  show CW _ _ _ _ _ _
  refine CW.cond rfl (fun hc15 => ?_) (fun hc15 => ?_)
  · replace h := bcT h hc15
    refine CW.seq ?_
    refine CW.region ?_
    refine LW.ldbN hS7 2 rfl ag61 rfl rfl rfl ?_
    refine LW.stb hS7 0 rfl ag61 rfl rfl rfl rfl rfl ?_
    intro w16 hS8 hf
    refine LW.p rfl rfl ?_
    refine LW.nil ?_
    show CW _ _ _ _ _ _
    refine CW.ret ?_
    cases h
    exact And.intro trivial ⟨_, Res.two (resOne.b hS8 0 rfl ag61 rfl rfl) (resOne.t rfl), rfl, hS8.pick [] rfl rfl⟩
  replace h := bcF h hc15
  refine CW.skip ?_
  show CW _ _ _ _ _ _
  refine CW.seq ?_
  refine CW.region ?_
  refine LW.u (Pur.fa fo61_0 rfl) rfl ?_
  refine LW.ldb hS7 2 rfl ag3 rfl rfl rfl ?_
  refine LW.u (Pur.fa fo61_0 rfl) rfl ?_
  refine LW.ldb hS7 1 rfl ag3 rfl rfl rfl ?_
  refine LW.p rfl rfl ?_
  refine LW.u (Pur.fa fo61_1 rfl) rfl ?_
  refine LW.ldb hS7 2 rfl ag3 rfl rfl rfl ?_
  refine LW.u (Pur.fa fo61_1 rfl) rfl ?_
  refine LW.ldb hS7 1 rfl ag3 rfl rfl rfl ?_
  refine LW.p rfl rfl ?_
  refine LW.u (Pur.fa fo61_2 rfl) rfl ?_
  refine LW.ldb hS7 2 rfl ag3 rfl rfl rfl ?_
  refine LW.u (Pur.fa fo61_2 rfl) rfl ?_
  refine LW.ldb hS7 1 rfl ag3 rfl rfl rfl ?_
  refine LW.p rfl rfl ?_
  refine LW.u (Pur.build (vs := [(0, .int .i64 (IntKind.i64.wrap (x0.pages + x1.pages))), (1, .int .i64 (IntKind.i64.wrap (x0.rent + x1.rent))), (2, .int .i64 (IntKind.i64.wrap (x0.cpu + x1.cpu)))]) (cs := #[.int .i64 (IntKind.i64.wrap (x0.pages + x1.pages)), .int .i64 (IntKind.i64.wrap (x0.rent + x1.rent)), .int .i64 (IntKind.i64.wrap (x0.cpu + x1.cpu))]) rfl (by kernel_rfl)) rfl ?_
  refine LW.alloc zv61 hS7 rfl ?_
  intro g17 w18 hS9 hf
  refine LW.stb hS9 0 rfl ag61 rfl rfl rfl rfl rfl ?_
  intro w19 hS10 hf
  refine LW.nil ?_
  show CW _ _ _ _ _ _
  refine CW.fresh (l := [(2, .pointer (some ⟨g1, 0, none⟩)), (4, .pointer (some ⟨g5, 0, none⟩)), (6, .pointer (some ⟨g17, 0, none⟩))]) ⟨rfl, rfl, rfl, trivial⟩ (fun e => ?_)
  refine CW.seq ?_
  refine CW.seq ?_
  refine CW.region ?_
  refine LW.ldbN hS10 0 rfl ag61 rfl rfl rfl ?_
  replace h := obind h
  obtain ⟨y20, hy20, h⟩ := h
  have q := W_s_AmtOk (w0 := w19) hy20
  refine LW.call pl58 rfl rfl ?_
  refine Ret.mono q ?_
  rintro _ w21 ⟨rfl, hs⟩
  have hS11 := hS10.add hs
  refine LW.p rfl rfl ?_
  refine LW.nil ?_
  show CW _ _ _ _ _ _
  refine CW.cond rfl (fun hc22 => ?_) (fun hc22 => ?_)
  · replace h := bcT h hc22
    refine CW.seq ?_
    refine CW.region ?_
    refine LW.ldbN hS11 3 rfl ag61 rfl rfl rfl ?_
    refine LW.stb hS11 1 rfl ag61 rfl rfl rfl rfl rfl ?_
    intro w23 hS12 hf
    refine LW.p rfl rfl ?_
    refine LW.nil ?_
    show CW _ _ _ _ _ _
    refine CW.ret ?_
    cases h
    exact And.intro trivial ⟨_, Res.two (resOne.b hS12 1 rfl ag61 rfl rfl) (resOne.t rfl), rfl, hS12.pick [] rfl rfl⟩
  replace h := bcF h hc22
  refine CW.skip ?_
  show CW _ _ _ _ _ _
  refine CW.seq ?_
  refine CW.region ?_
  refine LW.ldbN hS11 0 rfl ag61 rfl rfl rfl ?_
  refine LW.stb hS11 1 rfl ag61 rfl rfl rfl rfl rfl ?_
  intro w24 hS13 hf
  refine LW.p rfl rfl ?_
  refine LW.nil ?_
  show CW _ _ _ _ _ _
  refine CW.ret ?_
  cases h
  exact And.intro trivial ⟨_, Res.two (resOne.b hS13 1 rfl ag61 rfl rfl) (resOne.t rfl), rfl, hS13.pick [] rfl rfl⟩

theorem W_s_BootOk {w0 : World} {N : Nat} {x0 : List DBoot} {r : Bool} (h : F_s_BootOk N x0 = some r) {a0_0 : Option Addr} {n0_0 c0_0 : Nat} (hn0_0 : n0_0 = x0.length) (hr0_0 : rdS (Bor w0 []) w0 a0_0 c0_0 x0) :
    Ret Try.prog 22 #[.slice a0_0 n0_0 c0_0] w0 (fun v w => v = .bool r ∧ St w0 [] w []) := by
  subst hn0_0
  unfold F_s_BootOk at h
  refine Ret.of Try.func22 rfl rfl rfl ?_
  have hS1 := St.start w0
  refine CW.seq ?_
  refine CW.region ?_
  refine LW.p rfl rfl ?_
  refine LW.nil ?_
  show CW _ _ _ _ _ _
  refine CW.seq ?_
  refine CW.region ?_
  refine LW.u (Pur.build (vs := []) (cs := #[.int .i64 0, .int .i64 0, .int .i64 0]) rfl (by kernel_rfl)) rfl ?_
  refine LW.alloc zv61 hS1 rfl ?_
  intro g1 w2 hS2 hf
  refine LW.stb hS2 0 rfl ag61 rfl rfl rfl rfl rfl ?_
  intro w3 hS3 hf
  refine LW.nil ?_
  show CW _ _ _ _ _ _
  refine CW.seq ?_
  refine CW.seq ?_
  refine CW.region ?_
  refine LW.p rfl rfl ?_
  refine LW.nil ?_
  show CW _ _ _ _ _ _
  refine CW.block ?_
  obtain ⟨o67, ho67, h68⟩ := obind h
  refine CW.mono (CW.iter (σ := Int × Int × Int × Int) (ρ := (Int × Int × Int × Int) ⊕ Bool) (fun s4 e w => En e [(0, .slice a0_0 x0.length c0_0), (3, .pointer (some ⟨g1, 0, none⟩)), (4, .int .i64 s4.1)] ∧ St w0 [] w [bx g1 61 [.int .i64 s4.2.1, .int .i64 s4.2.2.1, .int .i64 s4.2.2.2]]) (fun o x e w => match o with | .inl s4 => x = .exit 0 ∧ En e [(0, .slice a0_0 x0.length c0_0)] ∧ St w0 [] w [bx g1 61 [.int .i64 s4.2.1, .int .i64 s4.2.2.1, .int .i64 s4.2.2.2]] | .inr r => x = .ret ∧ ∃ u, u = r ∧ ∃ v, Res Try.prog Try.f22.results e w v ∧ v = .bool u ∧ St w0 [] w []) ?_ N (0, 0, 0, 0) _ _ _ ⟨⟨rfl, rfl, rfl, trivial⟩, hS3.pick [0] rfl rfl⟩ ho67) ?_
  · intro s4 e w o hM h
    obtain ⟨hE, hS4⟩ := hM
    obtain ⟨e, rfl⟩ := hE.out
    refine CW.seq ?_
    refine CW.seq ?_
    obtain ⟨j5, hj5, h6⟩ := obind h
    refine CW.cut (fun e w => En e [(0, .slice a0_0 x0.length c0_0), (3, .pointer (some ⟨g1, 0, none⟩)), (4, .int .i64 s4.1), (15, .bool j5)] ∧ St w0 [] w [bx g1 61 [.int .i64 s4.2.1, .int .i64 s4.2.2.1, .int .i64 s4.2.2.2]]) ?_ ?_
    · have h := hj5
      refine CW.region ?_
      iterate 2 refine LW.p rfl rfl ?_
      refine LW.u (Pur.len Try.underlying39 rfl) rfl ?_
      iterate 2 refine LW.p rfl rfl ?_
      rcases bcases (decide (s4.1 < (x0.length : Int))) with hc7 | hc7
      · replace h := bcT h hc7
        refine LW.gY (want_of rfl rfl hc7) ?_
        refine LW.p rfl rfl ?_
        refine LW.gY (want_of rfl rfl hc7) ?_
        refine LW.p rfl rfl ?_
        refine LW.u (Pur.pickT rfl hc7) rfl ?_
        refine LW.nil ?_
        replace h := Option.some.inj h
        subst h
        exact ⟨⟨rfl, rfl, rfl, rfl, trivial⟩, hS4.pick [0] rfl rfl⟩
      replace h := bcF h hc7
      refine LW.gN (want_not rfl rfl hc7) rfl ?_
      refine LW.gN (want_not rfl rfl hc7) rfl ?_
      refine LW.u (Pur.pickF rfl hc7) rfl ?_
      refine LW.nil ?_
      replace h := Option.some.inj h
      subst h
      exact ⟨⟨rfl, rfl, rfl, rfl, trivial⟩, hS4.pick [0] rfl rfl⟩
    intro e w8 hM
    obtain ⟨hE, hS5⟩ := hM
    obtain ⟨e, rfl⟩ := hE.out
    have h := h6
    show CW _ _ _ _ _ _
    refine CW.cond rfl (fun hc9 => ?_) (fun hc9 => ?_)
    · replace h := bcT h hc9
      refine CW.skip ?_
      show CW _ _ _ _ _ _
      refine CW.seq ?_
      refine CW.block ?_
      refine CW.seq ?_
      refine CW.seq ?_
      obtain ⟨j10, hj10, h11⟩ := obind h
      refine CW.cut (fun e w => En e [(0, .slice a0_0 x0.length c0_0), (3, .pointer (some ⟨g1, 0, none⟩)), (4, .int .i64 s4.1), (33, .bool j10)] ∧ St w0 [] w [bx g1 61 [.int .i64 s4.2.1, .int .i64 s4.2.2.1, .int .i64 s4.2.2.2]]) ?_ ?_
      · have h := hj10
        refine CW.region ?_
        iterate 2 refine LW.p rfl rfl ?_
        replace h := obind h
        obtain ⟨y12, hy12, h⟩ := h
        obtain ⟨b15, o16, cs17, hae, hb20, hp13, hq14, hd18, hk19⟩ := hr0_0.idx hy12
        subst hae
        obtain ⟨a21, c22, a24, c25, rfl, hr23, hr26⟩ := hd18
        refine LW.u (Pur.ix Try.underlying39 sz76 rfl rfl hp13 hq14) rfl ?_
        refine LW.u (Pur.fa fo76_0 rfl) rfl ?_
        refine LW.l (Ldr.oldN w0 ag56 rfl rfl (fun j u hu => oldsub (m := 1) hk19 0 hu)) (hS5.same _ hb20.1 hb20.2) rfl ?_
        replace h := obind h
        obtain ⟨y27, hy27, h⟩ := h
        have q := W_s_LabelOk (w0 := w8) hy27 rfl (hS5.rB hr23)
        refine LW.call pl42 rfl rfl ?_
        refine Ret.mono q ?_
        rintro _ w28 ⟨rfl, hs⟩
        have hS6 := hS5.add hs
        iterate 2 refine LW.p rfl rfl ?_
        rcases bcases (!y27) with hc29 | hc29
        · replace h := bcT h hc29
          refine LW.gN (want_not rfl rfl hc29) rfl ?_
          refine LW.gN (want_not rfl rfl hc29) rfl ?_
          refine LW.gN (want_not rfl rfl hc29) rfl ?_
          refine LW.gN (want_not rfl rfl hc29) rfl ?_
          refine LW.gN (want_not rfl rfl hc29) rfl ?_
          refine LW.gN (want_not rfl rfl hc29) rfl ?_
          refine LW.gN (want_not rfl rfl hc29) rfl ?_
          refine LW.u (Pur.pickT rfl hc29) rfl ?_
          refine LW.nil ?_
          replace h := Option.some.inj h
          subst h
          exact ⟨⟨rfl, rfl, rfl, rfl, trivial⟩, hS6.pick [0] rfl rfl⟩
        replace h := bcF h hc29
        refine LW.gY (want_of rfl rfl hc29) ?_
        refine LW.p rfl rfl ?_
        refine LW.gY (want_of rfl rfl hc29) ?_
        refine LW.p rfl rfl ?_
        refine LW.gY (want_of rfl rfl hc29) ?_
        refine LW.u (Pur.ix Try.underlying39 sz76 rfl rfl hp13 hq14) rfl ?_
        refine LW.gY (want_of rfl rfl hc29) ?_
        refine LW.u (Pur.fa fo76_1 rfl) rfl ?_
        refine LW.gY (want_of rfl rfl hc29) ?_
        refine LW.l (Ldr.old w0 ag47 rfl (hk19 1 _ rfl)) (hS6.same _ hb20.1 hb20.2) rfl ?_
        replace h := obind h
        obtain ⟨y30, hy30, h⟩ := h
        have q := W_s_OwnOk (w0 := w28) hy30 rfl (hS6.rB hr26)
        refine LW.gY (want_of rfl rfl hc29) ?_
        refine LW.call pl43 rfl rfl ?_
        refine Ret.mono q ?_
        rintro _ w31 ⟨rfl, hs⟩
        have hS7 := hS6.add hs
        refine LW.gY (want_of rfl rfl hc29) ?_
        refine LW.p rfl rfl ?_
        refine LW.u (Pur.pickF rfl hc29) rfl ?_
        refine LW.nil ?_
        replace h := Option.some.inj h
        subst h
        exact ⟨⟨rfl, rfl, rfl, rfl, trivial⟩, hS7.pick [0] rfl rfl⟩
      intro e w32 hM
      obtain ⟨hE, hS8⟩ := hM
      obtain ⟨e, rfl⟩ := hE.out
      have h := h11
      show CW _ _ _ _ _ _
      refine CW.cond rfl (fun hc33 => ?_) (fun hc33 => ?_)
      · replace h := bcT h hc33
        refine CW.seq ?_
        refine CW.region ?_
        refine LW.p rfl rfl ?_
        refine LW.nil ?_
        show CW _ _ _ _ _ _
        refine CW.ret ?_
        replace h := Option.some.inj h
        subst h
        exact ⟨trivial, rfl, _, rfl, ⟨_, Res.one (resOne.t rfl), rfl, hS8.pick [] rfl rfl⟩⟩
      replace h := bcF h hc33
      refine CW.skip ?_
      show CW _ _ _ _ _ _
      refine CW.seq ?_
      obtain ⟨j34, hj34, h35⟩ := obind h
      refine CW.cut (fun e w => ∃ (j34g5 : Nat), En e [(0, .slice a0_0 x0.length c0_0), (3, .pointer (some ⟨g1, 0, none⟩)), (4, .int .i64 s4.1), (5, .pointer (some ⟨j34g5, 0, none⟩)), (6, .bool j34.2.2.2)] ∧ St w0 [] w [bx g1 61 [.int .i64 s4.2.1, .int .i64 s4.2.2.1, .int .i64 s4.2.2.2], bx j34g5 61 [.int .i64 j34.1, .int .i64 j34.2.1, .int .i64 j34.2.2.1]]) ?_ ?_
      · have h := hj34
        refine CW.draw (by kernel_rfl) ?_
        have hS9 := hS8.drew
        refine AW.take (i := 0) rfl (by kernel_rfl) rfl rfl (Ldr.boxN (bt := 61) (fr := (0, 0)) (cs := [.int .i64 s4.2.1, .int .i64 s4.2.2.1, .int .i64 s4.2.2.2]) ag61 rfl rfl) (St.cell (h := hS9) (i := 0) rfl) ?_
        refine AW.u (i := 1) rfl (by kernel_rfl) rfl rfl (Pur.p rfl) ?_
        refine AW.u (i := 2) rfl (by kernel_rfl) rfl rfl (Pur.p rfl) ?_
        replace h := obind h
        obtain ⟨y36, hy36, h⟩ := h
        obtain ⟨b39, o40, cs41, hae, hb44, hp37, hq38, hd42, hk43⟩ := hr0_0.idx hy36
        subst hae
        obtain ⟨a45, c46, a48, c49, rfl, hr47, hr50⟩ := hd42
        refine AW.u (i := 3) rfl (by kernel_rfl) rfl rfl (Pur.ix Try.underlying39 sz76 rfl rfl hp37 hq38) ?_
        refine AW.u (i := 4) rfl (by kernel_rfl) rfl rfl (Pur.fa fo76_2 rfl) ?_
        refine AW.take (i := 5) rfl (by kernel_rfl) rfl rfl (Ldr.oldN w0 ag61 rfl rfl (fun j u hu => oldsub (m := 3) hk43 2 hu)) (hS9.same _ hb44.1 hb44.2) ?_
        replace h := obind h
        obtain ⟨y51, hy51, h⟩ := h
        refine AW.all (rs := [6, 10]) (by kernel_rfl) (by simp) ⟨?_, ?_, trivial⟩
        · have q := W_s_AmtAdd (w0 := w32.drew) hy51
          refine ⟨_, rfl, ?_⟩
          refine LW.call pl44 rfl rfl ?_
          refine Ret.mono q ?_
          rintro _ w56 ⟨rfl, hs⟩
          have hS10 := hS9.add hs
          refine LW.nil ⟨rfl, (.w (by kernel_rfl) (.w (by kernel_rfl) Kept.n)), ?_⟩
          refine AW.u (i := 7) rfl (by kernel_rfl) rfl rfl (Pur.p rfl) ?_
          refine AW.u (i := 8) rfl (by kernel_rfl) rfl rfl (Pur.p rfl) ?_
          refine AW.u (i := 9) rfl (by kernel_rfl) rfl rfl (Pur.p rfl) ?_
          refine AW.one (i := 10) (by kernel_rfl) ?_
          refine ⟨_, rfl, ?_⟩
          refine LW.alloc zv61 hS10 rfl ?_
          intro g57 w58 hS11 hf
          refine LW.nil ⟨rfl, (.c (hS11.same _ hb44.1 hb44.2) (.c (St.cell (h := hS11) (i := 1) rfl) Kept.n)), ?_⟩
          refine AW.one (i := 11) (by kernel_rfl) ?_
          refine ⟨_, rfl, ?_⟩
          refine LW.stb hS11 0 rfl ag61 rfl rfl rfl rfl rfl ?_
          intro w59 hS12 hf
          refine LW.nil ⟨rfl, (.w (by kernel_rfl) (.w (by kernel_rfl) Kept.n)), ?_⟩
          refine AW.u (i := 12) rfl (by kernel_rfl) rfl rfl (Pur.p rfl) ?_
          refine AW.done (by kernel_rfl) ?_
          replace h := Option.some.inj h
          subst h
          exact ⟨g57, ⟨rfl, rfl, rfl, rfl, rfl, trivial⟩, hS12.pick [1, 0] rfl rfl⟩
        refine ⟨_, rfl, ?_⟩
        refine LW.alloc zv61 hS9 rfl ?_
        intro g60 w61 hS13 hf
        refine LW.nil ⟨rfl, (.c (hS13.same _ hb44.1 hb44.2) (.c (St.cell (h := hS13) (i := 1) rfl) Kept.n)), ?_⟩
        have q := W_s_AmtAdd (w0 := w61) hy51
        refine AW.one (i := 6) (by kernel_rfl) ?_
        refine ⟨_, rfl, ?_⟩
        refine LW.call pl44 rfl rfl ?_
        refine Ret.mono q ?_
        rintro _ w62 ⟨rfl, hs⟩
        have hS14 := hS13.add hs
        refine LW.nil ⟨rfl, (.w (by kernel_rfl) (.w (by kernel_rfl) Kept.n)), ?_⟩
        refine AW.u (i := 7) rfl (by kernel_rfl) rfl rfl (Pur.p rfl) ?_
        refine AW.u (i := 8) rfl (by kernel_rfl) rfl rfl (Pur.p rfl) ?_
        refine AW.u (i := 9) rfl (by kernel_rfl) rfl rfl (Pur.p rfl) ?_
        refine AW.one (i := 11) (by kernel_rfl) ?_
        refine ⟨_, rfl, ?_⟩
        refine LW.stb hS14 0 rfl ag61 rfl rfl rfl rfl rfl ?_
        intro w63 hS15 hf
        refine LW.nil ⟨rfl, (.w (by kernel_rfl) (.w (by kernel_rfl) Kept.n)), ?_⟩
        refine AW.u (i := 12) rfl (by kernel_rfl) rfl rfl (Pur.p rfl) ?_
        refine AW.done (by kernel_rfl) ?_
        replace h := Option.some.inj h
        subst h
        exact ⟨g60, ⟨rfl, rfl, rfl, rfl, rfl, trivial⟩, hS15.pick [1, 0] rfl rfl⟩
      intro e w64 hM
      obtain ⟨j34g5, hE, hS16⟩ := hM
      obtain ⟨e, rfl⟩ := hE.out
      have h := h35
      show CW _ _ _ _ _ _
      refine CW.seq ?_
      refine CW.seq ?_
      refine CW.region ?_
      iterate 2 refine LW.p rfl rfl ?_
      refine LW.nil ?_
      show CW _ _ _ _ _ _
      refine CW.cond rfl (fun hc65 => ?_) (fun hc65 => ?_)
      · replace h := bcT h hc65
        refine CW.seq ?_
        refine CW.region ?_
        refine LW.p rfl rfl ?_
        refine LW.nil ?_
        show CW _ _ _ _ _ _
        refine CW.ret ?_
        replace h := Option.some.inj h
        subst h
        exact ⟨trivial, rfl, _, rfl, ⟨_, Res.one (resOne.t rfl), rfl, hS16.pick [] rfl rfl⟩⟩
      replace h := bcF h hc65
      refine CW.skip ?_
      show CW _ _ _ _ _ _
      refine CW.region ?_
      refine LW.ldbN hS16 1 rfl ag61 rfl rfl rfl ?_
      refine LW.stb hS16 0 rfl ag61 rfl rfl rfl rfl rfl ?_
      intro w66 hS17 hf
      refine LW.nil ?_
      show CW _ _ _ _ _ _
      refine CW.region ?_
      iterate 3 refine LW.p rfl rfl ?_
      refine LW.nil ?_
      replace h := Option.some.inj h
      subst h
      exact ⟨rfl, ⟨⟨rfl, rfl, rfl, trivial⟩, hS17.pick [0] rfl rfl⟩⟩
    replace h := bcF h hc9
    refine CW.exit ?_
    replace h := Option.some.inj h
    subst h
    exact ⟨trivial, rfl, ⟨⟨rfl, trivial⟩, hS5.pick [0] rfl rfl⟩⟩
  intro x e w69 hM
  rcases o67 with o67 | r72
  · obtain ⟨rfl, hM⟩ := hM
    obtain ⟨hE, hS18⟩ := hM
    obtain ⟨e, rfl⟩ := hE.out
    have h := h68
    show CW _ _ _ _ _ _
    refine CW.seq ?_
    refine CW.region ?_
    refine LW.p rfl rfl ?_
    refine LW.u (Pur.len Try.underlying39 rfl) rfl ?_
    replace h := obind h
    obtain ⟨y70, hy70, h⟩ := h
    have q := W_s_l1In (w0 := w69) hy70
    refine LW.call pl35 rfl rfl ?_
    refine Ret.mono q ?_
    rintro _ w71 ⟨rfl, hs⟩
    have hS19 := hS18.add hs
    refine LW.p rfl rfl ?_
    refine LW.nil ?_
    show CW _ _ _ _ _ _
    refine CW.ret ?_
    cases h
    exact And.intro trivial ⟨_, Res.one (resOne.t rfl), rfl, hS19.pick [] rfl rfl⟩
  obtain ⟨rfl, u, rfl, hM⟩ := hM
  cases h68
  exact And.intro trivial hM

theorem W_i_AmtOk {w0 : World} {N : Nat} {x0 : DAmt} {r : Bool} (h : F_i_AmtOk N x0 = some r) :
    Ret Try.prog 60 #[.agg #[.int .i64 x0.pages, .int .i64 x0.rent, .int .i64 x0.cpu]] w0 (fun v w => v = .bool r ∧ St w0 [] w []) := by
  unfold F_i_AmtOk at h
  refine Ret.of Try.func60 rfl rfl rfl ?_
  have hS1 := St.start w0
  refine CW.seq ?_
  refine CW.region ?_
  refine LW.box (cs := [.int .i64 x0.pages, .int .i64 x0.rent, .int .i64 x0.cpu]) rfl hS1 rfl ?_
  intro g1 w2 hS2 hf
  refine LW.p rfl rfl ?_
  refine LW.nil ?_
  show CW _ _ _ _ _ _
  refine CW.seq ?_
  refine CW.region ?_
  refine LW.u (Pur.fa fo61_0 rfl) rfl ?_
  refine LW.ldb hS2 0 rfl ag3 rfl rfl rfl ?_
  replace h := obind h
  obtain ⟨y3, hy3, h⟩ := h
  have q := W_i_isAmount (w0 := w2) hy3
  refine LW.call pl38 rfl rfl ?_
  refine Ret.mono q ?_
  rintro _ w4 ⟨rfl, hs⟩
  have hS3 := hS2.add hs
  refine LW.p rfl rfl ?_
  rcases bcases y3 with hc5 | hc5
  · replace h := bcT h hc5
    refine LW.gY (want_of rfl rfl hc5) ?_
    refine LW.u (Pur.fa fo61_1 rfl) rfl ?_
    refine LW.gY (want_of rfl rfl hc5) ?_
    refine LW.ldb hS3 0 rfl ag3 rfl rfl rfl ?_
    replace h := obind h
    obtain ⟨y6, hy6, h⟩ := h
    have q := W_i_isAmount (w0 := w4) hy6
    refine LW.gY (want_of rfl rfl hc5) ?_
    refine LW.call pl38 rfl rfl ?_
    refine Ret.mono q ?_
    rintro _ w7 ⟨rfl, hs⟩
    have hS4 := hS3.add hs
    refine LW.u (Pur.pickT rfl hc5) rfl ?_
    refine LW.p rfl rfl ?_
    rcases bcases y6 with hc8 | hc8
    · replace h := bcT h hc8
      refine LW.gY (want_of rfl rfl hc8) ?_
      refine LW.u (Pur.fa fo61_2 rfl) rfl ?_
      refine LW.gY (want_of rfl rfl hc8) ?_
      refine LW.ldb hS4 0 rfl ag3 rfl rfl rfl ?_
      replace h := obind h
      obtain ⟨y9, hy9, h⟩ := h
      have q := W_i_isAmount (w0 := w7) hy9
      refine LW.gY (want_of rfl rfl hc8) ?_
      refine LW.call pl38 rfl rfl ?_
      refine Ret.mono q ?_
      rintro _ w10 ⟨rfl, hs⟩
      have hS5 := hS4.add hs
      refine LW.u (Pur.pickT rfl hc8) rfl ?_
      refine LW.p rfl rfl ?_
      refine LW.nil ?_
      show CW _ _ _ _ _ _
      refine CW.fresh (l := [(2, .bool y9)]) ⟨rfl, trivial⟩ (fun e => ?_)
      refine CW.ret ?_
      cases h
      exact And.intro trivial ⟨_, Res.one (resOne.t rfl), rfl, hS5.pick [] rfl rfl⟩
    replace h := bcF h hc8
    refine LW.gN (want_not rfl rfl hc8) rfl ?_
    refine LW.gN (want_not rfl rfl hc8) rfl ?_
    refine LW.gN (want_not rfl rfl hc8) rfl ?_
    refine LW.u (Pur.pickF rfl hc8) rfl ?_
    refine LW.p rfl rfl ?_
    refine LW.nil ?_
    show CW _ _ _ _ _ _
    refine CW.fresh (l := [(2, .bool false)]) ⟨rfl, trivial⟩ (fun e => ?_)
    refine CW.ret ?_
    cases h
    exact And.intro trivial ⟨_, Res.one (resOne.t rfl), rfl, hS4.pick [] rfl rfl⟩
  replace h := bcF h hc5
  refine LW.gN (want_not rfl rfl hc5) rfl ?_
  refine LW.gN (want_not rfl rfl hc5) rfl ?_
  refine LW.gN (want_not rfl rfl hc5) rfl ?_
  refine LW.u (Pur.pickF rfl hc5) rfl ?_
  refine LW.p rfl rfl ?_
  refine LW.gN (want_not rfl rfl rfl) rfl ?_
  refine LW.gN (want_not rfl rfl rfl) rfl ?_
  refine LW.gN (want_not rfl rfl rfl) rfl ?_
  refine LW.u (Pur.pickF rfl rfl) rfl ?_
  refine LW.p rfl rfl ?_
  refine LW.nil ?_
  show CW _ _ _ _ _ _
  refine CW.fresh (l := [(2, .bool false)]) ⟨rfl, trivial⟩ (fun e => ?_)
  refine CW.ret ?_
  cases h
  exact And.intro trivial ⟨_, Res.one (resOne.t rfl), rfl, hS3.pick [] rfl rfl⟩

theorem W_i_sumOf {w0 : World} {N : Nat} {x0 : DAmt} {x1 : DAmt} {r : DAmt} (h : F_i_sumOf N x0 x1 = some r) :
    Ret Try.prog 56 #[.agg #[.int .i64 x0.pages, .int .i64 x0.rent, .int .i64 x0.cpu], .agg #[.int .i64 x1.pages, .int .i64 x1.rent, .int .i64 x1.cpu]] w0 (fun v w => v = .agg #[.int .i64 r.pages, .int .i64 r.rent, .int .i64 r.cpu] ∧ St w0 [] w []) := by
  unfold F_i_sumOf at h
  refine Ret.of Try.func56 rfl rfl rfl ?_
  have hS1 := St.start w0
  refine CW.seq ?_
  refine CW.region ?_
  refine LW.box (cs := [.int .i64 x0.pages, .int .i64 x0.rent, .int .i64 x0.cpu]) rfl hS1 rfl ?_
  intro g1 w2 hS2 hf
  refine LW.box (cs := [.int .i64 x1.pages, .int .i64 x1.rent, .int .i64 x1.cpu]) rfl hS2 rfl ?_
  intro g3 w4 hS3 hf
  refine LW.alloc zv61 hS3 rfl ?_
  intro g5 w6 hS4 hf
  refine LW.nil ?_
  show CW _ _ _ _ _ _
  refine CW.seq ?_
  refine CW.region ?_
  refine LW.u (Pur.fa fo61_0 rfl) rfl ?_
  refine LW.ldb hS4 2 rfl ag3 rfl rfl rfl ?_
  refine LW.u (Pur.fa fo61_0 rfl) rfl ?_
  refine LW.ldb hS4 1 rfl ag3 rfl rfl rfl ?_
  refine LW.p rfl rfl ?_
  refine LW.u (Pur.fa fo61_1 rfl) rfl ?_
  refine LW.ldb hS4 2 rfl ag3 rfl rfl rfl ?_
  refine LW.u (Pur.fa fo61_1 rfl) rfl ?_
  refine LW.ldb hS4 1 rfl ag3 rfl rfl rfl ?_
  refine LW.p rfl rfl ?_
  refine LW.u (Pur.fa fo61_2 rfl) rfl ?_
  refine LW.ldb hS4 2 rfl ag3 rfl rfl rfl ?_
  refine LW.u (Pur.fa fo61_2 rfl) rfl ?_
  refine LW.ldb hS4 1 rfl ag3 rfl rfl rfl ?_
  refine LW.p rfl rfl ?_
  refine LW.u (Pur.build (vs := [(0, .int .i64 (IntKind.i64.wrap (x0.pages + x1.pages))), (1, .int .i64 (IntKind.i64.wrap (x0.rent + x1.rent))), (2, .int .i64 (IntKind.i64.wrap (x0.cpu + x1.cpu)))]) (cs := #[.int .i64 (IntKind.i64.wrap (x0.pages + x1.pages)), .int .i64 (IntKind.i64.wrap (x0.rent + x1.rent)), .int .i64 (IntKind.i64.wrap (x0.cpu + x1.cpu))]) rfl (by kernel_rfl)) rfl ?_
  refine LW.stb hS4 0 rfl ag61 rfl rfl rfl rfl rfl ?_
  intro w7 hS5 hf
  refine LW.nil ?_
  show CW _ _ _ _ _ _
  refine CW.fresh (l := [(4, .pointer (some ⟨g5, 0, none⟩))]) ⟨rfl, trivial⟩ (fun e => ?_)
  refine CW.ret ?_
  cases h
  exact And.intro trivial ⟨_, Res.one (resOne.b hS5 0 rfl ag61 rfl rfl), rfl, hS5.pick [] rfl rfl⟩

theorem W_i_AmtAdd {w0 : World} {N : Nat} {x0 : DAmt} {x1 : DAmt} {r : DAmt × Bool} (h : F_i_AmtAdd N x0 x1 = some r) :
    Ret Try.prog 46 #[.agg #[.int .i64 x0.pages, .int .i64 x0.rent, .int .i64 x0.cpu], .agg #[.int .i64 x1.pages, .int .i64 x1.rent, .int .i64 x1.cpu]] w0 (fun v w => v = .tuple #[.agg #[.int .i64 r.1.pages, .int .i64 r.1.rent, .int .i64 r.1.cpu], .bool r.2] ∧ St w0 [] w []) := by
  unfold F_i_AmtAdd at h
  refine Ret.of Try.func46 rfl rfl rfl ?_
  have hS1 := St.start w0
  refine CW.seq ?_
  refine CW.region ?_
  refine LW.box (cs := [.int .i64 x0.pages, .int .i64 x0.rent, .int .i64 x0.cpu]) rfl hS1 rfl ?_
  intro g1 w2 hS2 hf
  refine LW.box (cs := [.int .i64 x1.pages, .int .i64 x1.rent, .int .i64 x1.cpu]) rfl hS2 rfl ?_
  intro g3 w4 hS3 hf
  refine LW.alloc zv61 hS3 rfl ?_
  intro g5 w6 hS4 hf
  refine LW.p rfl rfl ?_
  refine LW.nil ?_
  show CW _ _ _ _ _ _
  refine CW.seq ?_
  refine CW.seq ?_
  obtain ⟨j7, hj7, h8⟩ := obind h
  refine CW.cut (fun e w => En e [(2, .pointer (some ⟨g1, 0, none⟩)), (3, .pointer (some ⟨g3, 0, none⟩)), (4, .pointer (some ⟨g5, 0, none⟩)), (20, .bool j7)] ∧ St w0 [] w [bx g5 61 [.int .i64 0, .int .i64 0, .int .i64 0], bx g3 61 [.int .i64 x1.pages, .int .i64 x1.rent, .int .i64 x1.cpu], bx g1 61 [.int .i64 x0.pages, .int .i64 x0.rent, .int .i64 x0.cpu]]) ?_ ?_
  · have h := hj7
    refine CW.region ?_
    refine LW.ldbN hS4 2 rfl ag61 rfl rfl rfl ?_
    replace h := obind h
    obtain ⟨y9, hy9, h⟩ := h
    have q := W_i_AmtOk (w0 := w6) hy9
    refine LW.call pl60 rfl rfl ?_
    refine Ret.mono q ?_
    rintro _ w10 ⟨rfl, hs⟩
    have hS5 := hS4.add hs
    iterate 2 refine LW.p rfl rfl ?_
    rcases bcases (!y9) with hc11 | hc11
    · replace h := bcT h hc11
      refine LW.gN (want_not rfl rfl hc11) rfl ?_
      refine LW.gN (want_not rfl rfl hc11) rfl ?_
      refine LW.gN (want_not rfl rfl hc11) rfl ?_
      refine LW.u (Pur.pickT rfl hc11) rfl ?_
      refine LW.p rfl rfl ?_
      refine LW.gN (want_not rfl rfl rfl) rfl ?_
      refine LW.gN (want_not rfl rfl rfl) rfl ?_
      refine LW.gN (want_not rfl rfl rfl) rfl ?_
      refine LW.gN (want_not rfl rfl rfl) rfl ?_
      refine LW.gN (want_not rfl rfl rfl) rfl ?_
      refine LW.u (Pur.pickT rfl rfl) rfl ?_
      refine LW.nil ?_
      replace h := Option.some.inj h
      subst h
      exact ⟨⟨rfl, rfl, rfl, rfl, trivial⟩, hS5.pick [0, 1, 2] rfl rfl⟩
    replace h := bcF h hc11
    refine LW.gY (want_of rfl rfl hc11) ?_
    refine LW.ldbN hS5 1 rfl ag61 rfl rfl rfl ?_
    replace h := obind h
    obtain ⟨y12, hy12, h⟩ := h
    have q := W_i_AmtOk (w0 := w10) hy12
    refine LW.gY (want_of rfl rfl hc11) ?_
    refine LW.call pl60 rfl rfl ?_
    refine Ret.mono q ?_
    rintro _ w13 ⟨rfl, hs⟩
    have hS6 := hS5.add hs
    refine LW.gY (want_of rfl rfl hc11) ?_
    refine LW.p rfl rfl ?_
    refine LW.u (Pur.pickF rfl hc11) rfl ?_
    refine LW.p rfl rfl ?_
    rcases bcases (!y12) with hc14 | hc14
    · replace h := bcT h hc14
      refine LW.gN (want_not rfl rfl hc14) rfl ?_
      refine LW.gN (want_not rfl rfl hc14) rfl ?_
      refine LW.gN (want_not rfl rfl hc14) rfl ?_
      refine LW.gN (want_not rfl rfl hc14) rfl ?_
      refine LW.gN (want_not rfl rfl hc14) rfl ?_
      refine LW.u (Pur.pickT rfl hc14) rfl ?_
      refine LW.nil ?_
      replace h := Option.some.inj h
      subst h
      exact ⟨⟨rfl, rfl, rfl, rfl, trivial⟩, hS6.pick [0, 1, 2] rfl rfl⟩
    replace h := bcF h hc14
    refine LW.gY (want_of rfl rfl hc14) ?_
    refine LW.ldbN hS6 2 rfl ag61 rfl rfl rfl ?_
    refine LW.gY (want_of rfl rfl hc14) ?_
    refine LW.ldbN hS6 1 rfl ag61 rfl rfl rfl ?_
    replace h := obind h
    obtain ⟨y15, hy15, h⟩ := h
    have q := W_i_sumOf (w0 := w13) hy15
    refine LW.gY (want_of rfl rfl hc14) ?_
    refine LW.call pl56 rfl rfl ?_
    refine Ret.mono q ?_
    rintro _ w16 ⟨rfl, hs⟩
    have hS7 := hS6.add hs
    replace h := obind h
    obtain ⟨y17, hy17, h⟩ := h
    have q := W_i_AmtOk (w0 := w16) hy17
    refine LW.gY (want_of rfl rfl hc14) ?_
    refine LW.call pl60 rfl rfl ?_
    refine Ret.mono q ?_
    rintro _ w18 ⟨rfl, hs⟩
    have hS8 := hS7.add hs
    refine LW.gY (want_of rfl rfl hc14) ?_
    refine LW.p rfl rfl ?_
    refine LW.u (Pur.pickF rfl hc14) rfl ?_
    refine LW.nil ?_
    replace h := Option.some.inj h
    subst h
    exact ⟨⟨rfl, rfl, rfl, rfl, trivial⟩, hS8.pick [0, 1, 2] rfl rfl⟩
  intro e w19 hM
  obtain ⟨hE, hS9⟩ := hM
  obtain ⟨e, rfl⟩ := hE.out
  have h := h8
  show CW _ _ _ _ _ _
  refine CW.cond rfl (fun hc20 => ?_) (fun hc20 => ?_)
  · replace h := bcT h hc20
    refine CW.seq ?_
    refine CW.region ?_
    refine LW.ldbN hS9 2 rfl ag61 rfl rfl rfl ?_
    refine LW.stb hS9 0 rfl ag61 rfl rfl rfl rfl rfl ?_
    intro w21 hS10 hf
    refine LW.p rfl rfl ?_
    refine LW.nil ?_
    show CW _ _ _ _ _ _
    refine CW.ret ?_
    cases h
    exact And.intro trivial ⟨_, Res.two (resOne.b hS10 0 rfl ag61 rfl rfl) (resOne.t rfl), rfl, hS10.pick [] rfl rfl⟩
  replace h := bcF h hc20
  refine CW.skip ?_
  show CW _ _ _ _ _ _
  refine CW.seq ?_
  refine CW.region ?_
  refine LW.ldbN hS9 2 rfl ag61 rfl rfl rfl ?_
  refine LW.ldbN hS9 1 rfl ag61 rfl rfl rfl ?_
  replace h := obind h
  obtain ⟨y22, hy22, h⟩ := h
  have q := W_i_sumOf (w0 := w19) hy22
  refine LW.call pl56 rfl rfl ?_
  refine Ret.mono q ?_
  rintro _ w23 ⟨rfl, hs⟩
  have hS11 := hS9.add hs
  refine LW.stb hS11 0 rfl ag61 rfl rfl rfl rfl rfl ?_
  intro w24 hS12 hf
  refine LW.p rfl rfl ?_
  refine LW.nil ?_
  show CW _ _ _ _ _ _
  refine CW.ret ?_
  cases h
  exact And.intro trivial ⟨_, Res.two (resOne.b hS12 0 rfl ag61 rfl rfl) (resOne.t rfl), rfl, hS12.pick [] rfl rfl⟩

theorem W_i_LabelOk {w0 : World} {N : Nat} {x0 : DLabel} {r : Bool} (h : F_i_LabelOk N x0 = some r) {a0_0 : Option Addr} {n0_0 c0_0 : Nat} (hn0_0 : n0_0 = x0.levels.length) (hr0_0 : rdS (Bor w0 []) w0 a0_0 c0_0 x0.levels) :
    Ret Try.prog 47 #[.agg #[.slice a0_0 n0_0 c0_0]] w0 (fun v w => v = .bool r ∧ St w0 [] w []) := by
  subst hn0_0
  unfold F_i_LabelOk at h
  refine Ret.of Try.func47 rfl rfl rfl ?_
  have hS1 := St.start w0
  refine CW.seq ?_
  refine CW.region ?_
  refine LW.box (cs := [.slice a0_0 x0.levels.length c0_0]) rfl hS1 rfl ?_
  intro g1 w2 hS2 hf
  refine LW.p rfl rfl ?_
  refine LW.nil ?_
  show CW _ _ _ _ _ _
  refine CW.seq ?_
  refine CW.seq ?_
  refine CW.region ?_
  refine LW.u (Pur.fa fo56_0 rfl) rfl ?_
  refine LW.ldb hS2 0 rfl ag47 rfl rfl rfl ?_
  refine LW.u (Pur.len Try.underlying47 rfl) rfl ?_
  refine LW.p rfl rfl ?_
  refine LW.nil ?_
  show CW _ _ _ _ _ _
  refine CW.block ?_
  obtain ⟨o17, ho17, h18⟩ := obind h
  refine CW.mono (CW.iter (σ := Int) (ρ := Int ⊕ Bool) (fun s3 e w => En e [(1, .pointer (some ⟨g1, 0, none⟩)), (6, .slice a0_0 x0.levels.length c0_0), (7, .int .i64 (x0.levels.length : Int)), (8, .int .i64 s3)] ∧ St w0 [] w [bx g1 56 [.slice a0_0 x0.levels.length c0_0]]) (fun o x e w => match o with | .inl s3 => x = .exit 0 ∧ En e [(1, .pointer (some ⟨g1, 0, none⟩))] ∧ St w0 [] w [bx g1 56 [.slice a0_0 x0.levels.length c0_0]] | .inr r => x = .ret ∧ ∃ u, u = r ∧ ∃ v, Res Try.prog Try.f47.results e w v ∧ v = .bool u ∧ St w0 [] w []) ?_ N 0 _ _ _ ⟨⟨rfl, rfl, rfl, rfl, trivial⟩, hS2.pick [0] rfl rfl⟩ ho17) ?_
  · intro s3 e w o hM h
    obtain ⟨hE, hS3⟩ := hM
    obtain ⟨e, rfl⟩ := hE.out
    refine CW.seq ?_
    refine CW.region ?_
    refine LW.p rfl rfl ?_
    refine LW.nil ?_
    show CW _ _ _ _ _ _
    refine CW.seq ?_
    refine CW.cond rfl (fun hc4 => ?_) (fun hc4 => ?_)
    · replace h := bcT h hc4
      refine CW.skip ?_
      show CW _ _ _ _ _ _
      refine CW.seq ?_
      refine CW.block ?_
      refine CW.seq ?_
      refine CW.region ?_
      replace h := obind h
      obtain ⟨y5, hy5, h⟩ := h
      obtain ⟨b8, o9, cs10, hae, hb13, hp6, hq7, hd11, hk12⟩ := hr0_0.idx hy5
      subst hae
      obtain rfl := hd11
      refine LW.u (Pur.ix Try.underlying47 sz3 rfl rfl hp6 hq7) rfl ?_
      refine LW.l (Ldr.old w0 ag3 rfl (hk12 0 _ rfl)) (hS3.same _ hb13.1 hb13.2) rfl ?_
      refine LW.p rfl rfl ?_
      refine LW.nil ?_
      show CW _ _ _ _ _ _
      refine CW.seq ?_
      refine CW.region ?_
      refine LW.p rfl rfl ?_
      replace h := obind h
      obtain ⟨y14, hy14, h⟩ := h
      have q := W_i_within (w0 := w) hy14
      refine LW.call pl36 rfl rfl ?_
      refine Ret.mono q ?_
      rintro _ w15 ⟨rfl, hs⟩
      have hS4 := hS3.add hs
      refine LW.p rfl rfl ?_
      refine LW.nil ?_
      show CW _ _ _ _ _ _
      refine CW.fresh (l := [(1, .pointer (some ⟨g1, 0, none⟩)), (6, .slice (some ⟨b8, o9, none⟩) x0.levels.length c0_0), (7, .int .i64 (x0.levels.length : Int)), (8, .int .i64 s3), (14, .bool (!y14))]) ⟨rfl, rfl, rfl, rfl, rfl, trivial⟩ (fun e => ?_)
      refine CW.cond rfl (fun hc16 => ?_) (fun hc16 => ?_)
      · replace h := bcT h hc16
        refine CW.seq ?_
        refine CW.region ?_
        refine LW.p rfl rfl ?_
        refine LW.nil ?_
        show CW _ _ _ _ _ _
        refine CW.ret ?_
        replace h := Option.some.inj h
        subst h
        exact ⟨trivial, rfl, _, rfl, ⟨_, Res.one (resOne.t rfl), rfl, hS4.pick [] rfl rfl⟩⟩
      replace h := bcF h hc16
      refine CW.skip ?_
      show CW _ _ _ _ _ _
      refine CW.region ?_
      iterate 2 refine LW.p rfl rfl ?_
      refine LW.nil ?_
      replace h := Option.some.inj h
      subst h
      exact ⟨rfl, ⟨⟨rfl, rfl, rfl, rfl, trivial⟩, hS4.pick [0] rfl rfl⟩⟩
    replace h := bcF h hc4
    refine CW.exit ?_
    replace h := Option.some.inj h
    subst h
    exact ⟨trivial, rfl, ⟨⟨rfl, trivial⟩, hS3.pick [0] rfl rfl⟩⟩
  intro x e w19 hM
  rcases o17 with o17 | r20
  · obtain ⟨rfl, hM⟩ := hM
    obtain ⟨hE, hS5⟩ := hM
    obtain ⟨e, rfl⟩ := hE.out
    have h := h18
    show CW _ _ _ _ _ _
    refine CW.seq ?_
    refine CW.region ?_
    refine LW.u (Pur.fa fo56_0 rfl) rfl ?_
    refine LW.ldb hS5 0 rfl ag47 rfl rfl rfl ?_
    refine LW.u (Pur.len Try.underlying47 rfl) rfl ?_
    iterate 2 refine LW.p rfl rfl ?_
    refine LW.nil ?_
    show CW _ _ _ _ _ _
    refine CW.ret ?_
    cases h
    exact And.intro trivial ⟨_, Res.one (resOne.t rfl), rfl, hS5.pick [] rfl rfl⟩
  obtain ⟨rfl, u, rfl, hM⟩ := hM
  cases h18
  exact And.intro trivial hM

theorem W_i_OwnOk {w0 : World} {N : Nat} {x0 : List Int} {r : Bool} (h : F_i_OwnOk N x0 = some r) {a0_0 : Option Addr} {n0_0 c0_0 : Nat} (hn0_0 : n0_0 = x0.length) (hr0_0 : rdS (Bor w0 []) w0 a0_0 c0_0 x0) :
    Ret Try.prog 48 #[.slice a0_0 n0_0 c0_0] w0 (fun v w => v = .bool r ∧ St w0 [] w []) := by
  subst hn0_0
  unfold F_i_OwnOk at h
  refine Ret.of Try.func48 rfl rfl rfl ?_
  have hS1 := St.start w0
  refine CW.seq ?_
  refine CW.region ?_
  refine LW.p rfl rfl ?_
  refine LW.nil ?_
  show CW _ _ _ _ _ _
  refine CW.seq ?_
  refine CW.seq ?_
  refine CW.region ?_
  refine LW.p rfl rfl ?_
  refine LW.u (Pur.len Try.underlying47 rfl) rfl ?_
  refine LW.p rfl rfl ?_
  refine LW.nil ?_
  show CW _ _ _ _ _ _
  refine CW.block ?_
  obtain ⟨o29, ho29, h30⟩ := obind h
  refine CW.mono (CW.iter (σ := Int) (ρ := Int ⊕ Bool) (fun s1 e w => En e [(0, .slice a0_0 x0.length c0_0), (5, .slice a0_0 x0.length c0_0), (6, .int .i64 (x0.length : Int)), (7, .int .i64 s1)] ∧ St w0 [] w []) (fun o x e w => match o with | .inl s1 => x = .exit 0 ∧ En e [] ∧ St w0 [] w [] | .inr r => x = .ret ∧ ∃ u, u = r ∧ ∃ v, Res Try.prog Try.f48.results e w v ∧ v = .bool u ∧ St w0 [] w []) ?_ N 0 _ _ _ ⟨⟨rfl, rfl, rfl, rfl, trivial⟩, hS1.pick [] rfl rfl⟩ ho29) ?_
  · intro s1 e w o hM h
    obtain ⟨hE, hS2⟩ := hM
    obtain ⟨e, rfl⟩ := hE.out
    refine CW.seq ?_
    refine CW.region ?_
    refine LW.p rfl rfl ?_
    refine LW.nil ?_
    show CW _ _ _ _ _ _
    refine CW.seq ?_
    refine CW.cond rfl (fun hc2 => ?_) (fun hc2 => ?_)
    · replace h := bcT h hc2
      refine CW.skip ?_
      show CW _ _ _ _ _ _
      refine CW.seq ?_
      refine CW.block ?_
      refine CW.seq ?_
      refine CW.region ?_
      refine LW.p rfl rfl ?_
      replace h := obind h
      obtain ⟨y3, hy3, h⟩ := h
      obtain ⟨b6, o7, cs8, hae, hb11, hp4, hq5, hd9, hk10⟩ := hr0_0.idx hy3
      subst hae
      obtain rfl := hd9
      refine LW.u (Pur.ix Try.underlying47 sz3 rfl rfl hp4 hq5) rfl ?_
      refine LW.l (Ldr.old w0 ag3 rfl (hk10 0 _ rfl)) (hS2.same _ hb11.1 hb11.2) rfl ?_
      iterate 2 refine LW.p rfl rfl ?_
      refine LW.nil ?_
      show CW _ _ _ _ _ _
      refine CW.seq ?_
      obtain ⟨j12, hj12, h13⟩ := obind h
      refine CW.cut (fun e w => En e [(0, .slice (some ⟨b6, o7, none⟩) x0.length c0_0), (5, .slice (some ⟨b6, o7, none⟩) x0.length c0_0), (6, .int .i64 (x0.length : Int)), (7, .int .i64 s1), (27, .bool j12)] ∧ St w0 [] w []) ?_ ?_
      · have h := hj12
        refine CW.region ?_
        refine LW.p rfl rfl ?_
        replace h := obind h
        obtain ⟨y14, hy14, h⟩ := h
        have q := W_i_within (w0 := w) hy14
        refine LW.call pl36 rfl rfl ?_
        refine Ret.mono q ?_
        rintro _ w15 ⟨rfl, hs⟩
        have hS3 := hS2.add hs
        iterate 2 refine LW.p rfl rfl ?_
        rcases bcases (!y14) with hc16 | hc16
        · replace h := bcT h hc16
          refine LW.gN (want_not rfl rfl hc16) rfl ?_
          refine LW.gN (want_not rfl rfl hc16) rfl ?_
          refine LW.gN (want_not rfl rfl hc16) rfl ?_
          refine LW.gN (want_undef rfl rfl) rfl ?_
          refine LW.gN (want_undef rfl rfl) rfl ?_
          refine LW.gN (want_undef rfl rfl) rfl ?_
          refine LW.gN (want_undef rfl rfl) rfl ?_
          refine LW.gN (want_undef rfl rfl) rfl ?_
          refine LW.gN (want_undef rfl rfl) rfl ?_
          refine LW.fresh (l := [(0, .slice (some ⟨b6, o7, none⟩) x0.length c0_0), (5, .slice (some ⟨b6, o7, none⟩) x0.length c0_0), (6, .int .i64 (x0.length : Int)), (7, .int .i64 s1), (15, .bool (!y14)), (18, undef), (23, undef), (24, undef)]) ⟨rfl, rfl, rfl, rfl, rfl, rfl, rfl, rfl, trivial⟩ (fun e => ?_)
          refine LW.gN (want_undef rfl rfl) rfl ?_
          refine LW.gN (want_not rfl rfl hc16) rfl ?_
          refine LW.u (Pur.pickT rfl hc16) rfl ?_
          refine LW.nil ?_
          replace h := Option.some.inj h
          subst h
          exact ⟨⟨rfl, rfl, rfl, rfl, rfl, trivial⟩, hS3.pick [] rfl rfl⟩
        replace h := bcF h hc16
        refine LW.gY (want_of rfl rfl hc16) ?_
        refine LW.p rfl rfl ?_
        refine LW.gY (want_of rfl rfl hc16) ?_
        refine LW.p rfl rfl ?_
        refine LW.gY (want_of rfl rfl hc16) ?_
        refine LW.p rfl rfl ?_
        rcases bcases (decide (s1 > 0)) with hc17 | hc17
        · replace h := bcT h hc17
          refine LW.gY (want_of rfl rfl hc17) ?_
          refine LW.p rfl rfl ?_
          refine LW.gY (want_of rfl rfl hc17) ?_
          refine LW.p rfl rfl ?_
          refine LW.gY (want_of rfl rfl hc17) ?_
          refine LW.p rfl rfl ?_
          replace h := obind h
          obtain ⟨y18, hy18, h⟩ := h
          obtain ⟨b21, o22, cs23, hae, hb26, hp19, hq20, hd24, hk25⟩ := hr0_0.idx hy18
          cases hae
          obtain rfl := hd24
          refine LW.gY (want_of rfl rfl hc17) ?_
          refine LW.u (Pur.ix Try.underlying47 sz3 rfl rfl hp19 hq20) rfl ?_
          refine LW.fresh (l := [(0, .slice (some ⟨b6, o7, none⟩) x0.length c0_0), (4, .int .i64 y3), (5, .slice (some ⟨b6, o7, none⟩) x0.length c0_0), (6, .int .i64 (x0.length : Int)), (7, .int .i64 s1), (15, .bool (!y14)), (18, .bool (decide (s1 > 0))), (22, .pointer (some ⟨b6, o7 + (IntKind.i64.wrap (s1 - 1) : Int).toNat * 1, none⟩))]) ⟨rfl, rfl, rfl, rfl, rfl, rfl, rfl, rfl, trivial⟩ (fun e => ?_)
          refine LW.gY (want_of rfl rfl hc17) ?_
          refine LW.l (Ldr.old w0 ag3 rfl (hk25 0 _ rfl)) (hS3.same _ hb26.1 hb26.2) rfl ?_
          refine LW.gY (want_of rfl rfl hc17) ?_
          refine LW.p rfl rfl ?_
          refine LW.gY (want_of rfl rfl hc17) ?_
          refine LW.p rfl rfl ?_
          refine LW.gY (want_of rfl rfl hc16) ?_
          refine LW.u (Pur.pickT rfl hc17) rfl ?_
          refine LW.u (Pur.pickF rfl hc16) rfl ?_
          refine LW.nil ?_
          replace h := Option.some.inj h
          subst h
          exact ⟨⟨rfl, rfl, rfl, rfl, rfl, trivial⟩, hS3.pick [] rfl rfl⟩
        replace h := bcF h hc17
        refine LW.gN (want_not rfl rfl hc17) rfl ?_
        refine LW.gN (want_not rfl rfl hc17) rfl ?_
        refine LW.gN (want_not rfl rfl hc17) rfl ?_
        refine LW.gN (want_not rfl rfl hc17) rfl ?_
        refine LW.gN (want_not rfl rfl hc17) rfl ?_
        refine LW.fresh (l := [(0, .slice (some ⟨b6, o7, none⟩) x0.length c0_0), (4, .int .i64 y3), (5, .slice (some ⟨b6, o7, none⟩) x0.length c0_0), (6, .int .i64 (x0.length : Int)), (7, .int .i64 s1), (15, .bool (!y14)), (18, .bool (decide (s1 > 0))), (23, undef)]) ⟨rfl, rfl, rfl, rfl, rfl, rfl, rfl, rfl, trivial⟩ (fun e => ?_)
        refine LW.gN (want_not rfl rfl hc17) rfl ?_
        refine LW.gN (want_not rfl rfl hc17) rfl ?_
        refine LW.gY (want_of rfl rfl hc16) ?_
        refine LW.u (Pur.pickF rfl hc17) rfl ?_
        refine LW.u (Pur.pickF rfl hc16) rfl ?_
        refine LW.nil ?_
        replace h := Option.some.inj h
        subst h
        exact ⟨⟨rfl, rfl, rfl, rfl, rfl, trivial⟩, hS3.pick [] rfl rfl⟩
      intro e w27 hM
      obtain ⟨hE, hS4⟩ := hM
      obtain ⟨e, rfl⟩ := hE.out
      have h := h13
      show CW _ _ _ _ _ _
      refine CW.cond rfl (fun hc28 => ?_) (fun hc28 => ?_)
      · replace h := bcT h hc28
        refine CW.seq ?_
        refine CW.region ?_
        refine LW.p rfl rfl ?_
        refine LW.nil ?_
        show CW _ _ _ _ _ _
        refine CW.ret ?_
        replace h := Option.some.inj h
        subst h
        exact ⟨trivial, rfl, _, rfl, ⟨_, Res.one (resOne.t rfl), rfl, hS4.pick [] rfl rfl⟩⟩
      replace h := bcF h hc28
      refine CW.skip ?_
      show CW _ _ _ _ _ _
      refine CW.region ?_
      iterate 2 refine LW.p rfl rfl ?_
      refine LW.nil ?_
      replace h := Option.some.inj h
      subst h
      exact ⟨rfl, ⟨⟨rfl, rfl, rfl, rfl, trivial⟩, hS4.pick [] rfl rfl⟩⟩
    replace h := bcF h hc2
    refine CW.exit ?_
    replace h := Option.some.inj h
    subst h
    exact ⟨trivial, rfl, ⟨trivial, hS2.pick [] rfl rfl⟩⟩
  intro x e w31 hM
  rcases o29 with o29 | r32
  · obtain ⟨rfl, hM⟩ := hM
    obtain ⟨hE, hS5⟩ := hM
    obtain ⟨e, rfl⟩ := hE.out
    have h := h30
    show CW _ _ _ _ _ _
    refine CW.seq ?_
    refine CW.region ?_
    refine LW.p rfl rfl ?_
    refine LW.nil ?_
    show CW _ _ _ _ _ _
    refine CW.ret ?_
    cases h
    exact And.intro trivial ⟨_, Res.one (resOne.t rfl), rfl, hS5.pick [] rfl rfl⟩
  obtain ⟨rfl, u, rfl, hM⟩ := hM
  cases h30
  exact And.intro trivial hM

theorem W_i_BootOk {w0 : World} {N : Nat} {x0 : List DBoot} {r : Bool} (h : F_i_BootOk N x0 = some r) {a0_0 : Option Addr} {n0_0 c0_0 : Nat} (hn0_0 : n0_0 = x0.length) (hr0_0 : rdS (Bor w0 []) w0 a0_0 c0_0 x0) :
    Ret Try.prog 24 #[.slice a0_0 n0_0 c0_0] w0 (fun v w => v = .bool r ∧ St w0 [] w []) := by
  subst hn0_0
  unfold F_i_BootOk at h
  refine Ret.of Try.func24 rfl rfl rfl ?_
  have hS1 := St.start w0
  refine CW.seq ?_
  refine CW.region ?_
  refine LW.p rfl rfl ?_
  refine LW.nil ?_
  show CW _ _ _ _ _ _
  refine CW.seq ?_
  refine CW.region ?_
  refine LW.u (Pur.build (vs := []) (cs := #[.int .i64 0, .int .i64 0, .int .i64 0]) rfl (by kernel_rfl)) rfl ?_
  refine LW.alloc zv61 hS1 rfl ?_
  intro g1 w2 hS2 hf
  refine LW.stb hS2 0 rfl ag61 rfl rfl rfl rfl rfl ?_
  intro w3 hS3 hf
  refine LW.nil ?_
  show CW _ _ _ _ _ _
  refine CW.seq ?_
  refine CW.seq ?_
  refine CW.region ?_
  refine LW.p rfl rfl ?_
  refine LW.u (Pur.len Try.underlying39 rfl) rfl ?_
  refine LW.p rfl rfl ?_
  refine LW.nil ?_
  show CW _ _ _ _ _ _
  refine CW.block ?_
  obtain ⟨o40, ho40, h41⟩ := obind h
  refine CW.mono (CW.iter (σ := Int × Int × Int × Int) (ρ := (Int × Int × Int × Int) ⊕ Bool) (fun s4 e w => En e [(0, .slice a0_0 x0.length c0_0), (3, .pointer (some ⟨g1, 0, none⟩)), (9, .slice a0_0 x0.length c0_0), (10, .int .i64 (x0.length : Int)), (11, .int .i64 s4.1)] ∧ St w0 [] w [bx g1 61 [.int .i64 s4.2.1, .int .i64 s4.2.2.1, .int .i64 s4.2.2.2]]) (fun o x e w => match o with | .inl s4 => x = .exit 0 ∧ En e [(0, .slice a0_0 x0.length c0_0)] ∧ St w0 [] w [bx g1 61 [.int .i64 s4.2.1, .int .i64 s4.2.2.1, .int .i64 s4.2.2.2]] | .inr r => x = .ret ∧ ∃ u, u = r ∧ ∃ v, Res Try.prog Try.f24.results e w v ∧ v = .bool u ∧ St w0 [] w []) ?_ N (0, 0, 0, 0) _ _ _ ⟨⟨rfl, rfl, rfl, rfl, rfl, trivial⟩, hS3.pick [0] rfl rfl⟩ ho40) ?_
  · intro s4 e w o hM h
    obtain ⟨hE, hS4⟩ := hM
    obtain ⟨e, rfl⟩ := hE.out
    refine CW.seq ?_
    refine CW.region ?_
    refine LW.p rfl rfl ?_
    refine LW.nil ?_
    show CW _ _ _ _ _ _
    refine CW.seq ?_
    refine CW.cond rfl (fun hc5 => ?_) (fun hc5 => ?_)
    · replace h := bcT h hc5
      refine CW.skip ?_
      show CW _ _ _ _ _ _
      refine CW.seq ?_
      refine CW.block ?_
      refine CW.seq ?_
      refine CW.region ?_
      replace h := obind h
      obtain ⟨y6, hy6, h⟩ := h
      obtain ⟨b9, o10, cs11, hae, hb14, hp7, hq8, hd12, hk13⟩ := hr0_0.idx hy6
      subst hae
      obtain ⟨a15, c16, a18, c19, rfl, hr17, hr20⟩ := hd12
      refine LW.u (Pur.ix Try.underlying39 sz76 rfl rfl hp7 hq8) rfl ?_
      refine LW.l (Ldr.oldN w0 ag76 rfl rfl (fun j u hu => hk13 j u hu)) (hS4.same _ hb14.1 hb14.2) rfl ?_
      refine LW.alloc zv76 hS4 rfl ?_
      intro g21 w22 hS5 hf
      refine LW.stb hS5 0 rfl ag76 rfl rfl rfl rfl rfl ?_
      intro w23 hS6 hf
      refine LW.nil ?_
      show CW _ _ _ _ _ _
      refine CW.fresh (l := [(0, .slice (some ⟨b9, o10, none⟩) x0.length c0_0), (3, .pointer (some ⟨g1, 0, none⟩)), (5, .pointer (some ⟨g21, 0, none⟩)), (9, .slice (some ⟨b9, o10, none⟩) x0.length c0_0), (10, .int .i64 (x0.length : Int)), (11, .int .i64 s4.1)]) ⟨rfl, rfl, rfl, rfl, rfl, rfl, trivial⟩ (fun e => ?_)
      refine CW.seq ?_
      refine CW.region ?_
      refine LW.ldbN hS6 1 rfl ag61 rfl rfl rfl ?_
      refine LW.u (Pur.fa fo76_2 rfl) rfl ?_
      refine LW.ldbN hS6 0 rfl ag61 rfl rfl rfl ?_
      replace h := obind h
      obtain ⟨y24, hy24, h⟩ := h
      have q := W_i_AmtAdd (w0 := w23) hy24
      refine LW.call pl46 rfl rfl ?_
      refine Ret.mono q ?_
      rintro _ w25 ⟨rfl, hs⟩
      have hS7 := hS6.add hs
      iterate 3 refine LW.p rfl rfl ?_
      refine LW.alloc zv61 hS7 rfl ?_
      intro g26 w27 hS8 hf
      refine LW.stb hS8 0 rfl ag61 rfl rfl rfl rfl rfl ?_
      intro w28 hS9 hf
      refine LW.p rfl rfl ?_
      refine LW.nil ?_
      show CW _ _ _ _ _ _
      refine CW.seq ?_
      refine CW.seq ?_
      obtain ⟨j29, hj29, h30⟩ := obind h
      refine CW.cut (fun e w => En e [(0, .slice (some ⟨b9, o10, none⟩) x0.length c0_0), (3, .pointer (some ⟨g1, 0, none⟩)), (6, .pointer (some ⟨g26, 0, none⟩)), (9, .slice (some ⟨b9, o10, none⟩) x0.length c0_0), (10, .int .i64 (x0.length : Int)), (11, .int .i64 s4.1), (35, .bool j29)] ∧ St w0 [] w [bx g26 61 [.int .i64 y24.1.pages, .int .i64 y24.1.rent, .int .i64 y24.1.cpu], bx g1 61 [.int .i64 s4.2.1, .int .i64 s4.2.2.1, .int .i64 s4.2.2.2]]) ?_ ?_
      · have h := hj29
        refine CW.region ?_
        iterate 3 refine LW.p rfl rfl ?_
        rcases bcases (!y24.2) with hc31 | hc31
        · replace h := bcT h hc31
          refine LW.gN (want_not rfl rfl hc31) rfl ?_
          refine LW.gN (want_not rfl rfl hc31) rfl ?_
          refine LW.gN (want_not rfl rfl hc31) rfl ?_
          refine LW.gN (want_not rfl rfl hc31) rfl ?_
          refine LW.u (Pur.pickT rfl hc31) rfl ?_
          refine LW.p rfl rfl ?_
          refine LW.gN (want_not rfl rfl rfl) rfl ?_
          refine LW.gN (want_not rfl rfl rfl) rfl ?_
          refine LW.gN (want_not rfl rfl rfl) rfl ?_
          refine LW.gN (want_not rfl rfl rfl) rfl ?_
          refine LW.u (Pur.pickT rfl rfl) rfl ?_
          refine LW.nil ?_
          replace h := Option.some.inj h
          subst h
          exact ⟨⟨rfl, rfl, rfl, rfl, rfl, rfl, rfl, trivial⟩, hS9.pick [0, 2] rfl rfl⟩
        replace h := bcF h hc31
        refine LW.gY (want_of rfl rfl hc31) ?_
        refine LW.u (Pur.fa fo76_0 rfl) rfl ?_
        refine LW.gY (want_of rfl rfl hc31) ?_
        refine LW.ldbN hS9 1 rfl ag56 rfl rfl rfl ?_
        replace h := obind h
        obtain ⟨y32, hy32, h⟩ := h
        have q := W_i_LabelOk (w0 := w28) hy32 rfl (hS9.rB hr17)
        refine LW.gY (want_of rfl rfl hc31) ?_
        refine LW.call pl47 rfl rfl ?_
        refine Ret.mono q ?_
        rintro _ w33 ⟨rfl, hs⟩
        have hS10 := hS9.add hs
        refine LW.gY (want_of rfl rfl hc31) ?_
        refine LW.p rfl rfl ?_
        refine LW.u (Pur.pickF rfl hc31) rfl ?_
        refine LW.p rfl rfl ?_
        rcases bcases (!y32) with hc34 | hc34
        · replace h := bcT h hc34
          refine LW.gN (want_not rfl rfl hc34) rfl ?_
          refine LW.gN (want_not rfl rfl hc34) rfl ?_
          refine LW.gN (want_not rfl rfl hc34) rfl ?_
          refine LW.gN (want_not rfl rfl hc34) rfl ?_
          refine LW.fresh (l := [(0, .slice (some ⟨b9, o10, none⟩) x0.length c0_0), (3, .pointer (some ⟨g1, 0, none⟩)), (6, .pointer (some ⟨g26, 0, none⟩)), (9, .slice (some ⟨b9, o10, none⟩) x0.length c0_0), (10, .int .i64 (x0.length : Int)), (11, .int .i64 s4.1), (30, .bool (!y32)), (34, undef)]) ⟨rfl, rfl, rfl, rfl, rfl, rfl, rfl, rfl, trivial⟩ (fun e => ?_)
          refine LW.u (Pur.pickT rfl hc34) rfl ?_
          refine LW.nil ?_
          replace h := Option.some.inj h
          subst h
          exact ⟨⟨rfl, rfl, rfl, rfl, rfl, rfl, rfl, trivial⟩, hS10.pick [0, 2] rfl rfl⟩
        replace h := bcF h hc34
        refine LW.gY (want_of rfl rfl hc34) ?_
        refine LW.u (Pur.fa fo76_1 rfl) rfl ?_
        refine LW.gY (want_of rfl rfl hc34) ?_
        refine LW.ldb hS10 1 rfl ag47 rfl rfl rfl ?_
        replace h := obind h
        obtain ⟨y35, hy35, h⟩ := h
        have q := W_i_OwnOk (w0 := w33) hy35 rfl (hS10.rB hr20)
        refine LW.gY (want_of rfl rfl hc34) ?_
        refine LW.call pl48 rfl rfl ?_
        refine Ret.mono q ?_
        rintro _ w36 ⟨rfl, hs⟩
        have hS11 := hS10.add hs
        refine LW.gY (want_of rfl rfl hc34) ?_
        refine LW.p rfl rfl ?_
        refine LW.fresh (l := [(0, .slice (some ⟨b9, o10, none⟩) x0.length c0_0), (3, .pointer (some ⟨g1, 0, none⟩)), (6, .pointer (some ⟨g26, 0, none⟩)), (9, .slice (some ⟨b9, o10, none⟩) x0.length c0_0), (10, .int .i64 (x0.length : Int)), (11, .int .i64 s4.1), (30, .bool (!y32)), (34, .bool (!y35))]) ⟨rfl, rfl, rfl, rfl, rfl, rfl, rfl, rfl, trivial⟩ (fun e => ?_)
        refine LW.u (Pur.pickF rfl hc34) rfl ?_
        refine LW.nil ?_
        replace h := Option.some.inj h
        subst h
        exact ⟨⟨rfl, rfl, rfl, rfl, rfl, rfl, rfl, trivial⟩, hS11.pick [0, 2] rfl rfl⟩
      intro e w37 hM
      obtain ⟨hE, hS12⟩ := hM
      obtain ⟨e, rfl⟩ := hE.out
      have h := h30
      show CW _ _ _ _ _ _
      refine CW.cond rfl (fun hc38 => ?_) (fun hc38 => ?_)
      · replace h := bcT h hc38
        refine CW.seq ?_
        refine CW.region ?_
        refine LW.p rfl rfl ?_
        refine LW.nil ?_
        show CW _ _ _ _ _ _
        refine CW.ret ?_
        replace h := Option.some.inj h
        subst h
        exact ⟨trivial, rfl, _, rfl, ⟨_, Res.one (resOne.t rfl), rfl, hS12.pick [] rfl rfl⟩⟩
      replace h := bcF h hc38
      refine CW.skip ?_
      show CW _ _ _ _ _ _
      refine CW.region ?_
      refine LW.ldbN hS12 0 rfl ag61 rfl rfl rfl ?_
      refine LW.stb hS12 1 rfl ag61 rfl rfl rfl rfl rfl ?_
      intro w39 hS13 hf
      refine LW.nil ?_
      show CW _ _ _ _ _ _
      refine CW.region ?_
      iterate 2 refine LW.p rfl rfl ?_
      refine LW.nil ?_
      replace h := Option.some.inj h
      subst h
      exact ⟨rfl, ⟨⟨rfl, rfl, rfl, rfl, rfl, trivial⟩, hS13.pick [1] rfl rfl⟩⟩
    replace h := bcF h hc5
    refine CW.exit ?_
    replace h := Option.some.inj h
    subst h
    exact ⟨trivial, rfl, ⟨⟨rfl, trivial⟩, hS4.pick [0] rfl rfl⟩⟩
  intro x e w42 hM
  rcases o40 with o40 | r45
  · obtain ⟨rfl, hM⟩ := hM
    obtain ⟨hE, hS14⟩ := hM
    obtain ⟨e, rfl⟩ := hE.out
    have h := h41
    show CW _ _ _ _ _ _
    refine CW.seq ?_
    refine CW.region ?_
    refine LW.p rfl rfl ?_
    refine LW.u (Pur.len Try.underlying39 rfl) rfl ?_
    replace h := obind h
    obtain ⟨y43, hy43, h⟩ := h
    have q := W_i_within (w0 := w42) hy43
    refine LW.call pl36 rfl rfl ?_
    refine Ret.mono q ?_
    rintro _ w44 ⟨rfl, hs⟩
    have hS15 := hS14.add hs
    refine LW.p rfl rfl ?_
    refine LW.nil ?_
    show CW _ _ _ _ _ _
    refine CW.ret ?_
    cases h
    exact And.intro trivial ⟨_, Res.one (resOne.t rfl), rfl, hS15.pick [] rfl rfl⟩
  obtain ⟨rfl, u, rfl, hM⟩ := hM
  cases h41
  exact And.intro trivial hM

theorem W_l_eqIntS {w0 : World} {N : Nat} {x0 : List Int} {x1 : List Int} {r : Bool} (h : F_l_eqIntS N x0 x1 = some r) {a0_0 : Option Addr} {n0_0 c0_0 : Nat} (hn0_0 : n0_0 = x0.length) (hr0_0 : rdS (Bor w0 []) w0 a0_0 c0_0 x0) {a1_0 : Option Addr} {n1_0 c1_0 : Nat} (hn1_0 : n1_0 = x1.length) (hr1_0 : rdS (Bor w0 []) w0 a1_0 c1_0 x1) :
    Ret Try.prog 55 #[.slice a0_0 n0_0 c0_0, .slice a1_0 n1_0 c1_0] w0 (fun v w => v = .bool r ∧ St w0 [] w []) := by
  subst hn0_0
  subst hn1_0
  unfold F_l_eqIntS at h
  refine Ret.of Try.func55 rfl rfl rfl ?_
  have hS1 := St.start w0
  refine CW.seq ?_
  refine CW.region ?_
  refine LW.p rfl rfl ?_
  refine LW.nil ?_
  show CW _ _ _ _ _ _
  refine CW.seq ?_
  refine CW.seq ?_
  refine CW.region ?_
  refine LW.p rfl rfl ?_
  refine LW.u (Pur.len Try.underlying47 rfl) rfl ?_
  refine LW.p rfl rfl ?_
  refine LW.u (Pur.len Try.underlying47 rfl) rfl ?_
  refine LW.p rfl rfl ?_
  refine LW.nil ?_
  show CW _ _ _ _ _ _
  refine CW.cond rfl (fun hc1 => ?_) (fun hc1 => ?_)
  · replace h := bcT h hc1
    refine CW.seq ?_
    refine CW.region ?_
    refine LW.p rfl rfl ?_
    refine LW.nil ?_
    show CW _ _ _ _ _ _
    refine CW.ret ?_
    cases h
    exact And.intro trivial ⟨_, Res.one (resOne.t rfl), rfl, hS1.pick [] rfl rfl⟩
  replace h := bcF h hc1
  refine CW.skip ?_
  show CW _ _ _ _ _ _
  refine CW.seq ?_
  refine CW.seq ?_
  refine CW.region ?_
  refine LW.p rfl rfl ?_
  refine LW.nil ?_
  show CW _ _ _ _ _ _
  refine CW.block ?_
  obtain ⟨o23, ho23, h24⟩ := obind h
  refine CW.mono (CW.iter (σ := Int) (ρ := Int ⊕ Bool) (fun s2 e w => En e [(0, .slice a0_0 x0.length c0_0), (1, .slice a1_0 x1.length c1_0), (5, .int .i64 s2)] ∧ St w0 [] w []) (fun o x e w => match o with | .inl s2 => x = .exit 0 ∧ En e [] ∧ St w0 [] w [] | .inr r => x = .ret ∧ ∃ u, u = r ∧ ∃ v, Res Try.prog Try.f55.results e w v ∧ v = .bool u ∧ St w0 [] w []) ?_ N 0 _ _ _ ⟨⟨rfl, rfl, rfl, trivial⟩, hS1.pick [] rfl rfl⟩ ho23) ?_
  · intro s2 e w o hM h
    obtain ⟨hE, hS2⟩ := hM
    obtain ⟨e, rfl⟩ := hE.out
    refine CW.seq ?_
    refine CW.seq ?_
    refine CW.region ?_
    iterate 2 refine LW.p rfl rfl ?_
    refine LW.u (Pur.len Try.underlying47 rfl) rfl ?_
    refine LW.p rfl rfl ?_
    refine LW.nil ?_
    show CW _ _ _ _ _ _
    refine CW.cond rfl (fun hc3 => ?_) (fun hc3 => ?_)
    · replace h := bcT h hc3
      refine CW.skip ?_
      show CW _ _ _ _ _ _
      refine CW.seq ?_
      refine CW.block ?_
      refine CW.seq ?_
      refine CW.draw (by kernel_rfl) ?_
      have hS3 := hS2.drew
      refine AW.u (i := 0) rfl (by kernel_rfl) rfl rfl (Pur.p rfl) ?_
      refine AW.u (i := 1) rfl (by kernel_rfl) rfl rfl (Pur.p rfl) ?_
      replace h := obind h
      obtain ⟨y4, hy4, h⟩ := h
      obtain ⟨b7, o8, cs9, hae, hb12, hp5, hq6, hd10, hk11⟩ := hr0_0.idx hy4
      subst hae
      obtain rfl := hd10
      refine AW.u (i := 2) rfl (by kernel_rfl) rfl rfl (Pur.ix Try.underlying47 sz3 rfl rfl hp5 hq6) ?_
      refine AW.take (i := 3) rfl (by kernel_rfl) rfl rfl (Ldr.old w0 ag3 rfl (hk11 0 _ rfl)) (hS3.same _ hb12.1 hb12.2) ?_
      refine AW.u (i := 4) rfl (by kernel_rfl) rfl rfl (Pur.p rfl) ?_
      refine AW.u (i := 5) rfl (by kernel_rfl) rfl rfl (Pur.p rfl) ?_
      replace h := obind h
      obtain ⟨y13, hy13, h⟩ := h
      obtain ⟨b16, o17, cs18, hae, hb21, hp14, hq15, hd19, hk20⟩ := hr1_0.idx hy13
      subst hae
      obtain rfl := hd19
      refine AW.u (i := 6) rfl (by kernel_rfl) rfl rfl (Pur.ix Try.underlying47 sz3 rfl rfl hp14 hq15) ?_
      refine AW.take (i := 7) rfl (by kernel_rfl) rfl rfl (Ldr.old w0 ag3 rfl (hk20 0 _ rfl)) (hS3.same _ hb21.1 hb21.2) ?_
      refine AW.u (i := 8) rfl (by kernel_rfl) rfl rfl (Pur.p rfl) ?_
      refine AW.done (by kernel_rfl) ?_
      show CW _ _ _ _ _ _
      refine CW.cond rfl (fun hc22 => ?_) (fun hc22 => ?_)
      · replace h := bcT h hc22
        refine CW.seq ?_
        refine CW.region ?_
        refine LW.p rfl rfl ?_
        refine LW.nil ?_
        show CW _ _ _ _ _ _
        refine CW.ret ?_
        replace h := Option.some.inj h
        subst h
        exact ⟨trivial, rfl, _, rfl, ⟨_, Res.one (resOne.t rfl), rfl, hS3.pick [] rfl rfl⟩⟩
      replace h := bcF h hc22
      refine CW.skip ?_
      show CW _ _ _ _ _ _
      refine CW.region ?_
      iterate 3 refine LW.p rfl rfl ?_
      refine LW.nil ?_
      replace h := Option.some.inj h
      subst h
      exact ⟨rfl, ⟨⟨rfl, rfl, rfl, trivial⟩, hS3.pick [] rfl rfl⟩⟩
    replace h := bcF h hc3
    refine CW.exit ?_
    replace h := Option.some.inj h
    subst h
    exact ⟨trivial, rfl, ⟨trivial, hS2.pick [] rfl rfl⟩⟩
  intro x e w25 hM
  rcases o23 with o23 | r26
  · obtain ⟨rfl, hM⟩ := hM
    obtain ⟨hE, hS4⟩ := hM
    obtain ⟨e, rfl⟩ := hE.out
    have h := h24
    show CW _ _ _ _ _ _
    refine CW.seq ?_
    refine CW.region ?_
    refine LW.p rfl rfl ?_
    refine LW.nil ?_
    show CW _ _ _ _ _ _
    refine CW.ret ?_
    cases h
    exact And.intro trivial ⟨_, Res.one (resOne.t rfl), rfl, hS4.pick [] rfl rfl⟩
  obtain ⟨rfl, u, rfl, hM⟩ := hM
  cases h24
  exact And.intro trivial hM

theorem W_l_eqLabel {w0 : World} {N : Nat} {x0 : DLabel} {x1 : DLabel} {r : Bool} (h : F_l_eqLabel N x0 x1 = some r) {a0_0 : Option Addr} {n0_0 c0_0 : Nat} (hn0_0 : n0_0 = x0.levels.length) (hr0_0 : rdS (Bor w0 []) w0 a0_0 c0_0 x0.levels) {a1_0 : Option Addr} {n1_0 c1_0 : Nat} (hn1_0 : n1_0 = x1.levels.length) (hr1_0 : rdS (Bor w0 []) w0 a1_0 c1_0 x1.levels) :
    Ret Try.prog 31 #[.agg #[.slice a0_0 n0_0 c0_0], .agg #[.slice a1_0 n1_0 c1_0]] w0 (fun v w => v = .bool r ∧ St w0 [] w []) := by
  subst hn0_0
  subst hn1_0
  unfold F_l_eqLabel at h
  refine Ret.of Try.func31 rfl rfl rfl ?_
  have hS1 := St.start w0
  refine CW.seq ?_
  refine CW.region ?_
  refine LW.box (cs := [.slice a0_0 x0.levels.length c0_0]) rfl hS1 rfl ?_
  intro g1 w2 hS2 hf
  refine LW.box (cs := [.slice a1_0 x1.levels.length c1_0]) rfl hS2 rfl ?_
  intro g3 w4 hS3 hf
  refine LW.p rfl rfl ?_
  refine LW.nil ?_
  show CW _ _ _ _ _ _
  refine CW.seq ?_
  refine CW.seq ?_
  refine CW.region ?_
  refine LW.u (Pur.fa fo56_0 rfl) rfl ?_
  refine LW.ldb hS3 1 rfl ag47 rfl rfl rfl ?_
  refine LW.u (Pur.fa fo56_0 rfl) rfl ?_
  refine LW.ldb hS3 0 rfl ag47 rfl rfl rfl ?_
  replace h := obind h
  obtain ⟨y5, hy5, h⟩ := h
  have q := W_l_eqIntS (w0 := w4) hy5 rfl (hS3.rB hr0_0) rfl (hS3.rB hr1_0)
  refine LW.call pl55 rfl rfl ?_
  refine Ret.mono q ?_
  rintro _ w6 ⟨rfl, hs⟩
  have hS4 := hS3.add hs
  refine LW.p rfl rfl ?_
  refine LW.nil ?_
  show CW _ _ _ _ _ _
  refine CW.cond rfl (fun hc7 => ?_) (fun hc7 => ?_)
  · replace h := bcT h hc7
    refine CW.seq ?_
    refine CW.region ?_
    refine LW.p rfl rfl ?_
    refine LW.nil ?_
    show CW _ _ _ _ _ _
    refine CW.ret ?_
    cases h
    exact And.intro trivial ⟨_, Res.one (resOne.t rfl), rfl, hS4.pick [] rfl rfl⟩
  replace h := bcF h hc7
  refine CW.skip ?_
  show CW _ _ _ _ _ _
  refine CW.seq ?_
  refine CW.region ?_
  refine LW.p rfl rfl ?_
  refine LW.nil ?_
  show CW _ _ _ _ _ _
  refine CW.ret ?_
  cases h
  exact And.intro trivial ⟨_, Res.one (resOne.t rfl), rfl, hS4.pick [] rfl rfl⟩

theorem W_l_eqAmt {w0 : World} {N : Nat} {x0 : DAmt} {x1 : DAmt} {r : Bool} (h : F_l_eqAmt N x0 x1 = some r) :
    Ret Try.prog 34 #[.agg #[.int .i64 x0.pages, .int .i64 x0.rent, .int .i64 x0.cpu], .agg #[.int .i64 x1.pages, .int .i64 x1.rent, .int .i64 x1.cpu]] w0 (fun v w => v = .bool r ∧ St w0 [] w []) := by
  unfold F_l_eqAmt at h
  refine Ret.of Try.func34 rfl rfl rfl ?_
  have hS1 := St.start w0
  refine CW.seq ?_
  refine CW.region ?_
  refine LW.box (cs := [.int .i64 x0.pages, .int .i64 x0.rent, .int .i64 x0.cpu]) rfl hS1 rfl ?_
  intro g1 w2 hS2 hf
  refine LW.box (cs := [.int .i64 x1.pages, .int .i64 x1.rent, .int .i64 x1.cpu]) rfl hS2 rfl ?_
  intro g3 w4 hS3 hf
  refine LW.p rfl rfl ?_
  refine LW.nil ?_
  show CW _ _ _ _ _ _
  refine CW.seq ?_
  refine CW.seq ?_
  refine CW.region ?_
  refine LW.u (Pur.fa fo61_0 rfl) rfl ?_
  refine LW.ldb hS3 1 rfl ag3 rfl rfl rfl ?_
  refine LW.u (Pur.fa fo61_0 rfl) rfl ?_
  refine LW.ldb hS3 0 rfl ag3 rfl rfl rfl ?_
  refine LW.p rfl rfl ?_
  refine LW.nil ?_
  show CW _ _ _ _ _ _
  refine CW.cond rfl (fun hc5 => ?_) (fun hc5 => ?_)
  · replace h := bcT h hc5
    refine CW.seq ?_
    refine CW.region ?_
    refine LW.p rfl rfl ?_
    refine LW.nil ?_
    show CW _ _ _ _ _ _
    refine CW.ret ?_
    cases h
    exact And.intro trivial ⟨_, Res.one (resOne.t rfl), rfl, hS3.pick [] rfl rfl⟩
  replace h := bcF h hc5
  refine CW.skip ?_
  show CW _ _ _ _ _ _
  refine CW.seq ?_
  refine CW.seq ?_
  refine CW.region ?_
  refine LW.u (Pur.fa fo61_1 rfl) rfl ?_
  refine LW.ldb hS3 1 rfl ag3 rfl rfl rfl ?_
  refine LW.u (Pur.fa fo61_1 rfl) rfl ?_
  refine LW.ldb hS3 0 rfl ag3 rfl rfl rfl ?_
  refine LW.p rfl rfl ?_
  refine LW.nil ?_
  show CW _ _ _ _ _ _
  refine CW.fresh (l := [(2, .pointer (some ⟨g1, 0, none⟩)), (3, .pointer (some ⟨g3, 0, none⟩)), (14, .bool (x0.rent != x1.rent))]) ⟨rfl, rfl, rfl, trivial⟩ (fun e => ?_)
  refine CW.cond rfl (fun hc6 => ?_) (fun hc6 => ?_)
  · replace h := bcT h hc6
    refine CW.seq ?_
    refine CW.region ?_
    refine LW.p rfl rfl ?_
    refine LW.nil ?_
    show CW _ _ _ _ _ _
    refine CW.ret ?_
    cases h
    exact And.intro trivial ⟨_, Res.one (resOne.t rfl), rfl, hS3.pick [] rfl rfl⟩
  replace h := bcF h hc6
  refine CW.skip ?_
  show CW _ _ _ _ _ _
  refine CW.seq ?_
  refine CW.seq ?_
  refine CW.region ?_
  refine LW.u (Pur.fa fo61_2 rfl) rfl ?_
  refine LW.ldb hS3 1 rfl ag3 rfl rfl rfl ?_
  refine LW.u (Pur.fa fo61_2 rfl) rfl ?_
  refine LW.ldb hS3 0 rfl ag3 rfl rfl rfl ?_
  refine LW.p rfl rfl ?_
  refine LW.nil ?_
  show CW _ _ _ _ _ _
  refine CW.cond rfl (fun hc7 => ?_) (fun hc7 => ?_)
  · replace h := bcT h hc7
    refine CW.seq ?_
    refine CW.region ?_
    refine LW.p rfl rfl ?_
    refine LW.nil ?_
    show CW _ _ _ _ _ _
    refine CW.ret ?_
    cases h
    exact And.intro trivial ⟨_, Res.one (resOne.t rfl), rfl, hS3.pick [] rfl rfl⟩
  replace h := bcF h hc7
  refine CW.skip ?_
  show CW _ _ _ _ _ _
  refine CW.seq ?_
  refine CW.region ?_
  refine LW.p rfl rfl ?_
  refine LW.nil ?_
  show CW _ _ _ _ _ _
  refine CW.ret ?_
  cases h
  exact And.intro trivial ⟨_, Res.one (resOne.t rfl), rfl, hS3.pick [] rfl rfl⟩

theorem W_l_eqPartBoot {w0 : World} {N : Nat} {x0 : DBoot} {x1 : DBoot} {r : Bool} (h : F_l_eqPartBoot N x0 x1 = some r) {a0_0 : Option Addr} {n0_0 c0_0 : Nat} (hn0_0 : n0_0 = x0.label.levels.length) (hr0_0 : rdS (Bor w0 []) w0 a0_0 c0_0 x0.label.levels) {a0_1 : Option Addr} {n0_1 c0_1 : Nat} (hn0_1 : n0_1 = x0.own.length) (hr0_1 : rdS (Bor w0 []) w0 a0_1 c0_1 x0.own) {a1_0 : Option Addr} {n1_0 c1_0 : Nat} (hn1_0 : n1_0 = x1.label.levels.length) (hr1_0 : rdS (Bor w0 []) w0 a1_0 c1_0 x1.label.levels) {a1_1 : Option Addr} {n1_1 c1_1 : Nat} (hn1_1 : n1_1 = x1.own.length) (hr1_1 : rdS (Bor w0 []) w0 a1_1 c1_1 x1.own) :
    Ret Try.prog 49 #[.agg #[.slice a0_0 n0_0 c0_0, .slice a0_1 n0_1 c0_1, .int .i64 x0.amt.pages, .int .i64 x0.amt.rent, .int .i64 x0.amt.cpu], .agg #[.slice a1_0 n1_0 c1_0, .slice a1_1 n1_1 c1_1, .int .i64 x1.amt.pages, .int .i64 x1.amt.rent, .int .i64 x1.amt.cpu]] w0 (fun v w => v = .bool r ∧ St w0 [] w []) := by
  subst hn0_0
  subst hn0_1
  subst hn1_0
  subst hn1_1
  unfold F_l_eqPartBoot at h
  refine Ret.of Try.func49 rfl rfl rfl ?_
  have hS1 := St.start w0
  refine CW.seq ?_
  refine CW.region ?_
  refine LW.box (cs := [.slice a0_0 x0.label.levels.length c0_0, .slice a0_1 x0.own.length c0_1, .int .i64 x0.amt.pages, .int .i64 x0.amt.rent, .int .i64 x0.amt.cpu]) rfl hS1 rfl ?_
  intro g1 w2 hS2 hf
  refine LW.box (cs := [.slice a1_0 x1.label.levels.length c1_0, .slice a1_1 x1.own.length c1_1, .int .i64 x1.amt.pages, .int .i64 x1.amt.rent, .int .i64 x1.amt.cpu]) rfl hS2 rfl ?_
  intro g3 w4 hS3 hf
  refine LW.p rfl rfl ?_
  refine LW.nil ?_
  show CW _ _ _ _ _ _
  refine CW.seq ?_
  refine CW.seq ?_
  refine CW.region ?_
  refine LW.u (Pur.fa fo76_0 rfl) rfl ?_
  refine LW.ldbN hS3 1 rfl ag56 rfl rfl rfl ?_
  refine LW.u (Pur.fa fo76_0 rfl) rfl ?_
  refine LW.ldbN hS3 0 rfl ag56 rfl rfl rfl ?_
  replace h := obind h
  obtain ⟨y5, hy5, h⟩ := h
  have q := W_l_eqLabel (w0 := w4) hy5 rfl (hS3.rB hr0_0) rfl (hS3.rB hr1_0)
  refine LW.call pl31 rfl rfl ?_
  refine Ret.mono q ?_
  rintro _ w6 ⟨rfl, hs⟩
  have hS4 := hS3.add hs
  refine LW.p rfl rfl ?_
  refine LW.nil ?_
  show CW _ _ _ _ _ _
  refine CW.cond rfl (fun hc7 => ?_) (fun hc7 => ?_)
  · replace h := bcT h hc7
    refine CW.seq ?_
    refine CW.region ?_
    refine LW.p rfl rfl ?_
    refine LW.nil ?_
    show CW _ _ _ _ _ _
    refine CW.ret ?_
    cases h
    exact And.intro trivial ⟨_, Res.one (resOne.t rfl), rfl, hS4.pick [] rfl rfl⟩
  replace h := bcF h hc7
  refine CW.skip ?_
  show CW _ _ _ _ _ _
  refine CW.seq ?_
  refine CW.seq ?_
  refine CW.region ?_
  refine LW.u (Pur.fa fo76_1 rfl) rfl ?_
  refine LW.ldb hS4 1 rfl ag47 rfl rfl rfl ?_
  refine LW.u (Pur.fa fo76_1 rfl) rfl ?_
  refine LW.ldb hS4 0 rfl ag47 rfl rfl rfl ?_
  replace h := obind h
  obtain ⟨y8, hy8, h⟩ := h
  have q := W_l_eqIntS (w0 := w6) hy8 rfl (hS4.rB hr0_1) rfl (hS4.rB hr1_1)
  refine LW.call pl55 rfl rfl ?_
  refine Ret.mono q ?_
  rintro _ w9 ⟨rfl, hs⟩
  have hS5 := hS4.add hs
  refine LW.p rfl rfl ?_
  refine LW.nil ?_
  show CW _ _ _ _ _ _
  refine CW.fresh (l := [(2, .pointer (some ⟨g1, 0, none⟩)), (3, .pointer (some ⟨g3, 0, none⟩)), (16, .bool (!y8))]) ⟨rfl, rfl, rfl, trivial⟩ (fun e => ?_)
  refine CW.cond rfl (fun hc10 => ?_) (fun hc10 => ?_)
  · replace h := bcT h hc10
    refine CW.seq ?_
    refine CW.region ?_
    refine LW.p rfl rfl ?_
    refine LW.nil ?_
    show CW _ _ _ _ _ _
    refine CW.ret ?_
    cases h
    exact And.intro trivial ⟨_, Res.one (resOne.t rfl), rfl, hS5.pick [] rfl rfl⟩
  replace h := bcF h hc10
  refine CW.skip ?_
  show CW _ _ _ _ _ _
  refine CW.seq ?_
  refine CW.seq ?_
  refine CW.region ?_
  refine LW.u (Pur.fa fo76_2 rfl) rfl ?_
  refine LW.ldbN hS5 1 rfl ag61 rfl rfl rfl ?_
  refine LW.u (Pur.fa fo76_2 rfl) rfl ?_
  refine LW.ldbN hS5 0 rfl ag61 rfl rfl rfl ?_
  replace h := obind h
  obtain ⟨y11, hy11, h⟩ := h
  have q := W_l_eqAmt (w0 := w9) hy11
  refine LW.call pl34 rfl rfl ?_
  refine Ret.mono q ?_
  rintro _ w12 ⟨rfl, hs⟩
  have hS6 := hS5.add hs
  refine LW.p rfl rfl ?_
  refine LW.nil ?_
  show CW _ _ _ _ _ _
  refine CW.cond rfl (fun hc13 => ?_) (fun hc13 => ?_)
  · replace h := bcT h hc13
    refine CW.seq ?_
    refine CW.region ?_
    refine LW.p rfl rfl ?_
    refine LW.nil ?_
    show CW _ _ _ _ _ _
    refine CW.ret ?_
    cases h
    exact And.intro trivial ⟨_, Res.one (resOne.t rfl), rfl, hS6.pick [] rfl rfl⟩
  replace h := bcF h hc13
  refine CW.skip ?_
  show CW _ _ _ _ _ _
  refine CW.seq ?_
  refine CW.region ?_
  refine LW.p rfl rfl ?_
  refine LW.nil ?_
  show CW _ _ _ _ _ _
  refine CW.ret ?_
  cases h
  exact And.intro trivial ⟨_, Res.one (resOne.t rfl), rfl, hS6.pick [] rfl rfl⟩

theorem W_l_eqPartBootS {w0 : World} {N : Nat} {x0 : List DBoot} {x1 : List DBoot} {r : Bool} (h : F_l_eqPartBootS N x0 x1 = some r) {a0_0 : Option Addr} {n0_0 c0_0 : Nat} (hn0_0 : n0_0 = x0.length) (hr0_0 : rdS (Bor w0 []) w0 a0_0 c0_0 x0) {a1_0 : Option Addr} {n1_0 c1_0 : Nat} (hn1_0 : n1_0 = x1.length) (hr1_0 : rdS (Bor w0 []) w0 a1_0 c1_0 x1) :
    Ret Try.prog 25 #[.slice a0_0 n0_0 c0_0, .slice a1_0 n1_0 c1_0] w0 (fun v w => v = .bool r ∧ St w0 [] w []) := by
  subst hn0_0
  subst hn1_0
  unfold F_l_eqPartBootS at h
  refine Ret.of Try.func25 rfl rfl rfl ?_
  have hS1 := St.start w0
  refine CW.seq ?_
  refine CW.region ?_
  refine LW.p rfl rfl ?_
  refine LW.nil ?_
  show CW _ _ _ _ _ _
  refine CW.seq ?_
  refine CW.seq ?_
  refine CW.region ?_
  refine LW.p rfl rfl ?_
  refine LW.u (Pur.len Try.underlying39 rfl) rfl ?_
  refine LW.p rfl rfl ?_
  refine LW.u (Pur.len Try.underlying39 rfl) rfl ?_
  refine LW.p rfl rfl ?_
  refine LW.nil ?_
  show CW _ _ _ _ _ _
  refine CW.cond rfl (fun hc1 => ?_) (fun hc1 => ?_)
  · replace h := bcT h hc1
    refine CW.seq ?_
    refine CW.region ?_
    refine LW.p rfl rfl ?_
    refine LW.nil ?_
    show CW _ _ _ _ _ _
    refine CW.ret ?_
    cases h
    exact And.intro trivial ⟨_, Res.one (resOne.t rfl), rfl, hS1.pick [] rfl rfl⟩
  replace h := bcF h hc1
  refine CW.skip ?_
  show CW _ _ _ _ _ _
  refine CW.seq ?_
  refine CW.seq ?_
  refine CW.region ?_
  refine LW.p rfl rfl ?_
  refine LW.nil ?_
  show CW _ _ _ _ _ _
  refine CW.block ?_
  obtain ⟨o37, ho37, h38⟩ := obind h
  refine CW.mono (CW.iter (σ := Int) (ρ := Int ⊕ Bool) (fun s2 e w => En e [(0, .slice a0_0 x0.length c0_0), (1, .slice a1_0 x1.length c1_0), (5, .int .i64 s2)] ∧ St w0 [] w []) (fun o x e w => match o with | .inl s2 => x = .exit 0 ∧ En e [] ∧ St w0 [] w [] | .inr r => x = .ret ∧ ∃ u, u = r ∧ ∃ v, Res Try.prog Try.f25.results e w v ∧ v = .bool u ∧ St w0 [] w []) ?_ N 0 _ _ _ ⟨⟨rfl, rfl, rfl, trivial⟩, hS1.pick [] rfl rfl⟩ ho37) ?_
  · intro s2 e w o hM h
    obtain ⟨hE, hS2⟩ := hM
    obtain ⟨e, rfl⟩ := hE.out
    refine CW.seq ?_
    refine CW.seq ?_
    refine CW.region ?_
    iterate 2 refine LW.p rfl rfl ?_
    refine LW.u (Pur.len Try.underlying39 rfl) rfl ?_
    refine LW.p rfl rfl ?_
    refine LW.nil ?_
    show CW _ _ _ _ _ _
    refine CW.cond rfl (fun hc3 => ?_) (fun hc3 => ?_)
    · replace h := bcT h hc3
      refine CW.skip ?_
      show CW _ _ _ _ _ _
      refine CW.seq ?_
      refine CW.block ?_
      refine CW.seq ?_
      refine CW.draw (by kernel_rfl) ?_
      have hS3 := hS2.drew
      refine AW.u (i := 0) rfl (by kernel_rfl) rfl rfl (Pur.p rfl) ?_
      refine AW.u (i := 1) rfl (by kernel_rfl) rfl rfl (Pur.p rfl) ?_
      replace h := obind h
      obtain ⟨y4, hy4, h⟩ := h
      obtain ⟨b7, o8, cs9, hae, hb12, hp5, hq6, hd10, hk11⟩ := hr0_0.idx hy4
      subst hae
      obtain ⟨a13, c14, a16, c17, rfl, hr15, hr18⟩ := hd10
      refine AW.u (i := 2) rfl (by kernel_rfl) rfl rfl (Pur.ix Try.underlying39 sz76 rfl rfl hp5 hq6) ?_
      refine AW.take (i := 3) rfl (by kernel_rfl) rfl rfl (Ldr.oldN w0 ag76 rfl rfl (fun j u hu => hk11 j u hu)) (hS3.same _ hb12.1 hb12.2) ?_
      refine AW.u (i := 4) rfl (by kernel_rfl) rfl rfl (Pur.p rfl) ?_
      refine AW.u (i := 5) rfl (by kernel_rfl) rfl rfl (Pur.p rfl) ?_
      replace h := obind h
      obtain ⟨y19, hy19, h⟩ := h
      obtain ⟨b22, o23, cs24, hae, hb27, hp20, hq21, hd25, hk26⟩ := hr1_0.idx hy19
      subst hae
      obtain ⟨a28, c29, a31, c32, rfl, hr30, hr33⟩ := hd25
      refine AW.u (i := 6) rfl (by kernel_rfl) rfl rfl (Pur.ix Try.underlying39 sz76 rfl rfl hp20 hq21) ?_
      refine AW.take (i := 7) rfl (by kernel_rfl) rfl rfl (Ldr.oldN w0 ag76 rfl rfl (fun j u hu => hk26 j u hu)) (hS3.same _ hb27.1 hb27.2) ?_
      replace h := obind h
      obtain ⟨y34, hy34, h⟩ := h
      have q := W_l_eqPartBoot (w0 := w.drew) hy34 rfl (hS3.rB hr15) rfl (hS3.rB hr18) rfl (hS3.rB hr30) rfl (hS3.rB hr33)
      refine AW.one (i := 8) (by kernel_rfl) ?_
      refine ⟨_, rfl, ?_⟩
      refine LW.call pl49 rfl rfl ?_
      refine Ret.mono q ?_
      rintro _ w35 ⟨rfl, hs⟩
      have hS4 := hS3.add hs
      refine LW.nil ⟨rfl, (.w (by kernel_rfl) (.w (by kernel_rfl) Kept.n)), ?_⟩
      refine AW.u (i := 9) rfl (by kernel_rfl) rfl rfl (Pur.p rfl) ?_
      refine AW.done (by kernel_rfl) ?_
      show CW _ _ _ _ _ _
      refine CW.cond rfl (fun hc36 => ?_) (fun hc36 => ?_)
      · replace h := bcT h hc36
        refine CW.seq ?_
        refine CW.region ?_
        refine LW.p rfl rfl ?_
        refine LW.nil ?_
        show CW _ _ _ _ _ _
        refine CW.ret ?_
        replace h := Option.some.inj h
        subst h
        exact ⟨trivial, rfl, _, rfl, ⟨_, Res.one (resOne.t rfl), rfl, hS4.pick [] rfl rfl⟩⟩
      replace h := bcF h hc36
      refine CW.skip ?_
      show CW _ _ _ _ _ _
      refine CW.region ?_
      iterate 3 refine LW.p rfl rfl ?_
      refine LW.nil ?_
      replace h := Option.some.inj h
      subst h
      exact ⟨rfl, ⟨⟨rfl, rfl, rfl, trivial⟩, hS4.pick [] rfl rfl⟩⟩
    replace h := bcF h hc3
    refine CW.exit ?_
    replace h := Option.some.inj h
    subst h
    exact ⟨trivial, rfl, ⟨trivial, hS2.pick [] rfl rfl⟩⟩
  intro x e w39 hM
  rcases o37 with o37 | r40
  · obtain ⟨rfl, hM⟩ := hM
    obtain ⟨hE, hS5⟩ := hM
    obtain ⟨e, rfl⟩ := hE.out
    have h := h38
    show CW _ _ _ _ _ _
    refine CW.seq ?_
    refine CW.region ?_
    refine LW.p rfl rfl ?_
    refine LW.nil ?_
    show CW _ _ _ _ _ _
    refine CW.ret ?_
    cases h
    exact And.intro trivial ⟨_, Res.one (resOne.t rfl), rfl, hS5.pick [] rfl rfl⟩
  obtain ⟨rfl, u, rfl, hM⟩ := hM
  cases h38
  exact And.intro trivial hM

theorem W_l_FnExactBootOk {w0 : World} {N : Nat} {x0 : List DBoot} {r : Bool} (h : F_l_FnExactBootOk N x0 = some r) {a0_0 : Option Addr} {n0_0 c0_0 : Nat} (hn0_0 : n0_0 = x0.length) (hr0_0 : rdS (Bor w0 []) w0 a0_0 c0_0 x0) :
    Ret Try.prog 6 #[.slice a0_0 n0_0 c0_0] w0 (fun v w => v = .bool r ∧ St w0 [] w []) := by
  subst hn0_0
  unfold F_l_FnExactBootOk at h
  refine Ret.of Try.func6 rfl rfl rfl ?_
  have hS1 := St.start w0
  refine CW.seq ?_
  refine CW.region ?_
  refine LW.p rfl rfl ?_
  refine LW.nil ?_
  show CW _ _ _ _ _ _
  refine CW.seq ?_
  refine CW.region ?_
  refine LW.p rfl rfl ?_
  refine LW.nil ?_
  show CW _ _ _ _ _ _
  refine CW.seq ?_
  refine CW.region ?_
  iterate 2 refine LW.p rfl rfl ?_
  replace h := obind h
  obtain ⟨y1, hy1, h⟩ := h
  have q := W_l_szPartBootS (w0 := w0) hy1 rfl (hS1.rB hr0_0)
  refine LW.call pl21 rfl rfl ?_
  refine Ret.mono q ?_
  rintro _ w2 ⟨rfl, hs⟩
  have hS2 := hS1.add hs
  refine LW.p rfl rfl ?_
  refine LW.nil ?_
  show CW _ _ _ _ _ _
  refine CW.seq ?_
  refine CW.seq ?_
  refine CW.region ?_
  iterate 2 refine LW.p rfl rfl ?_
  refine LW.nil ?_
  show CW _ _ _ _ _ _
  refine CW.cond rfl (fun hc3 => ?_) (fun hc3 => ?_)
  · replace h := bcT h hc3
    refine CW.seq ?_
    refine CW.region ?_
    refine LW.p rfl rfl ?_
    refine LW.nil ?_
    show CW _ _ _ _ _ _
    refine CW.ret ?_
    cases h
    exact And.intro trivial ⟨_, Res.one (resOne.t rfl), rfl, hS2.pick [] rfl rfl⟩
  replace h := bcF h hc3
  refine CW.skip ?_
  show CW _ _ _ _ _ _
  refine CW.seq ?_
  refine CW.region ?_
  refine LW.p rfl rfl ?_
  replace h := obind h
  obtain ⟨y4, hy4, h⟩ := h
  have q := W_l_toPartBootS (w0 := w2) hy4 rfl (hS2.rB hr0_0)
  refine LW.call pl23 rfl rfl ?_
  refine Ret.mono q ?_
  rintro _ w7 ⟨a5, c6, rfl, hs⟩
  have hS3 := hS2.add hs
  replace h := obind h
  obtain ⟨y8, hy8, h⟩ := h
  have q := W_s_BootOk (w0 := w7) hy8 rfl (hS3.rI 0 rfl)
  refine LW.call pl22 rfl rfl ?_
  refine Ret.mono q ?_
  rintro _ w9 ⟨rfl, hs⟩
  have hS4 := hS3.add hs
  refine LW.p rfl rfl ?_
  refine LW.nil ?_
  show CW _ _ _ _ _ _
  refine CW.seq ?_
  refine CW.region ?_
  refine LW.p rfl rfl ?_
  replace h := obind h
  obtain ⟨y10, hy10, h⟩ := h
  have q := W_l_toPartBootS (w0 := w9) hy10 rfl (hS4.rB hr0_0)
  refine LW.call pl23 rfl rfl ?_
  refine Ret.mono q ?_
  rintro _ w13 ⟨a11, c12, rfl, hs⟩
  have hS5 := hS4.add hs
  refine LW.p rfl rfl ?_
  refine LW.nil ?_
  show CW _ _ _ _ _ _
  refine CW.fresh (l := [(0, .slice a0_0 x0.length c0_0), (4, .bool y8), (5, .slice a11 y10.length c12)]) ⟨rfl, rfl, rfl, trivial⟩ (fun e => ?_)
  refine CW.seq ?_
  refine CW.region ?_
  refine LW.p rfl rfl ?_
  replace h := obind h
  obtain ⟨y14, hy14, h⟩ := h
  have q := W_i_BootOk (w0 := w13) hy14 rfl (hS5.rI 0 rfl)
  refine LW.call pl24 rfl rfl ?_
  refine Ret.mono q ?_
  rintro _ w15 ⟨rfl, hs⟩
  have hS6 := hS5.add hs
  refine LW.p rfl rfl ?_
  refine LW.nil ?_
  show CW _ _ _ _ _ _
  refine CW.seq ?_
  refine CW.seq ?_
  refine CW.region ?_
  iterate 2 refine LW.p rfl rfl ?_
  refine LW.u (Pur.bne Try.underlying4 rfl rfl) rfl ?_
  refine LW.nil ?_
  show CW _ _ _ _ _ _
  refine CW.cond rfl (fun hc16 => ?_) (fun hc16 => ?_)
  · replace h := bcT h hc16
    refine CW.seq ?_
    refine CW.region ?_
    refine LW.p rfl rfl ?_
    refine LW.nil ?_
    show CW _ _ _ _ _ _
    refine CW.ret ?_
    cases h
    exact And.intro trivial ⟨_, Res.one (resOne.t rfl), rfl, hS6.pick [] rfl rfl⟩
  replace h := bcF h hc16
  refine CW.skip ?_
  show CW _ _ _ _ _ _
  refine CW.seq ?_
  refine CW.seq ?_
  refine CW.region ?_
  iterate 2 refine LW.p rfl rfl ?_
  replace h := obind h
  obtain ⟨y17, hy17, h⟩ := h
  have q := W_l_toPartBootS (w0 := w15) hy17 rfl (hS6.rB hr0_0)
  refine LW.call pl23 rfl rfl ?_
  refine Ret.mono q ?_
  rintro _ w20 ⟨a18, c19, rfl, hs⟩
  have hS7 := hS6.add hs
  replace h := obind h
  obtain ⟨y21, hy21, h⟩ := h
  have q := W_l_eqPartBootS (w0 := w20) hy21 rfl (hS7.rI 1 rfl) rfl (hS7.rI 0 rfl)
  refine LW.call pl25 rfl rfl ?_
  refine Ret.mono q ?_
  rintro _ w22 ⟨rfl, hs⟩
  have hS8 := hS7.add hs
  refine LW.p rfl rfl ?_
  refine LW.nil ?_
  show CW _ _ _ _ _ _
  refine CW.cond rfl (fun hc23 => ?_) (fun hc23 => ?_)
  · replace h := bcT h hc23
    refine CW.seq ?_
    refine CW.region ?_
    refine LW.p rfl rfl ?_
    refine LW.nil ?_
    show CW _ _ _ _ _ _
    refine CW.ret ?_
    cases h
    exact And.intro trivial ⟨_, Res.one (resOne.t rfl), rfl, hS8.pick [] rfl rfl⟩
  replace h := bcF h hc23
  refine CW.skip ?_
  show CW _ _ _ _ _ _
  refine CW.seq ?_
  refine CW.region ?_
  refine LW.p rfl rfl ?_
  refine LW.nil ?_
  show CW _ _ _ _ _ _
  refine CW.ret ?_
  cases h
  exact And.intro trivial ⟨_, Res.one (resOne.t rfl), rfl, hS8.pick [] rfl rfl⟩

end Go.Kx
