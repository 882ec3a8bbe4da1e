/- Each call returns what the plain function says. Printed by drive.py. -/
import Derived.Test.YtdjpppkdngmeaaaGreatFa
import Derived.Test.YtdjpppkdngmeaaaGreatPu
namespace Go.Kx
open Go Go.RowKit Go.Proofs
set_option maxRecDepth 10000
set_option maxHeartbeats 2000000
set_option linter.unusedVariables false
set_option linter.unusedSimpArgs false
theorem W_l_szIntS {w0 : World} {N : Nat} {x0 : List Int} {x1 : Int} {r : Int} (h : F_l_szIntS N x0 x1 = some r) {a0_0 : Option Addr} {n0_0 c0_0 : Nat} (hn0_0 : n0_0 = x0.length) (hr0_0 : rdS (Bor w0 []) w0 a0_0 c0_0 x0) :
    Ret Tryz.prog 36 #[.slice a0_0 n0_0 c0_0, .int .i64 x1] w0 (fun v w => v = .int .i64 r ∧ St w0 [] w []) := by
  subst hn0_0
  unfold F_l_szIntS at h
  refine Ret.fn Tryz.func36 fun e => ?_
  have hS1 := St.start w0
  refine go ?_
  refine CW.cond rfl (fun hc1 => ?_) (fun hc1 => ?_)
  · replace h := bcT h hc1
    refine go ?_
    cases h
    exact And.intro trivial ⟨_, Res.one (resOne.t rfl), rfl, hS1.pick [] rfl rfl⟩
  replace h := bcF h hc1
  refine go ?_
  cases h
  exact And.intro trivial ⟨_, Res.one (resOne.t rfl), rfl, hS1.pick [] rfl rfl⟩

theorem W_l_szLabel {w0 : World} {N : Nat} {x0 : DLabel} {x1 : Int} {r : Int} (h : F_l_szLabel N x0 x1 = some r) {a0_0 : Option Addr} {n0_0 c0_0 : Nat} (hn0_0 : n0_0 = x0.levels.length) (hr0_0 : rdS (Bor w0 []) w0 a0_0 c0_0 x0.levels) :
    Ret Tryz.prog 35 #[.agg #[.slice a0_0 n0_0 c0_0], .int .i64 x1] w0 (fun v w => v = .int .i64 r ∧ St w0 [] w []) := by
  subst hn0_0
  unfold F_l_szLabel at h
  refine Ret.fn Tryz.func35 fun e => ?_
  have hS1 := St.start w0
  refine go ?_
  refine LW.bo hS1 fun g1 w2 hS2 => ?_
  refine go ?_
  replace ⟨y3, hy3, h⟩ := obind h
  refine LW.c0 (W_l_szIntS hy3 rfl (hS2.rB hr0_0)) hS2 fun w4 hS3 => ?_
  refine go ?_
  refine CW.cond rfl (fun hc5 => ?_) (fun hc5 => ?_)
  · replace h := bcT h hc5
    refine go ?_
    cases h
    exact And.intro trivial ⟨_, Res.one (resOne.t rfl), rfl, hS3.pick [] rfl rfl⟩
  replace h := bcF h hc5
  refine go ?_
  cases h
  exact And.intro trivial ⟨_, Res.one (resOne.t rfl), rfl, hS3.pick [] rfl rfl⟩

theorem W_l_toIntS {w0 : World} {N : Nat} {x0 : List Int} {r : (List Int)} (h : F_l_toIntS N x0 = some r) {a0_0 : Option Addr} {n0_0 c0_0 : Nat} (hn0_0 : n0_0 = x0.length) (hr0_0 : rdS (Bor w0 []) w0 a0_0 c0_0 x0) :
    Ret Tryz.prog 28 #[.slice a0_0 n0_0 c0_0] w0 (fun v w => ∃ ar0 cr0, v = .slice ar0 r.length cr0 ∧ St w0 [] w [sl ar0 cr0 r]) := by
  subst hn0_0
  unfold F_l_toIntS at h
  refine Ret.fn Tryz.func28 fun e => ?_
  have hS1 := St.start w0
  refine go ?_
  replace ⟨y1, hy1, h⟩ := obind h
  refine LW.mk sT22 rfl rfl hy1 hS1 rfl ?_
  intro a2 c3 w4 hS2 hf
  refine go ?_
  obtain ⟨o24, ho24, h25⟩ := obind h
  refine CW.mono (CW.iter (σ := (List Int) × Int) (ρ := (List Int) × Int) (fun s5 e wb => En e [(0, .slice a0_0 x0.length c0_0), (3, .slice a2 s5.1.length c3), (4, .int .i64 s5.2)] ∧ St w0 [] wb [sl a2 c3 s5.1]) (fun s5 x e wb => x = .exit 0 ∧ En e [(3, .slice a2 s5.1.length c3)] ∧ St w0 [] wb [sl a2 c3 s5.1]) ?_ N (y1, 0) _ _ _ ⟨⟨rfl, rfl, rfl, trivial⟩, hS2.pick [0] rfl rfl⟩ ho24) ?_
  · intro s5 e w6 o hM h
    obtain ⟨hE, hS3⟩ := hM
    obtain ⟨e, rfl⟩ := hE.out
    refine go ?_
    refine CW.cond rfl (fun hc7 => ?_) (fun hc7 => ?_)
    · replace h := bcT h hc7
      refine go ?_
      replace ⟨y8, hy8, h⟩ := obind h
      obtain ⟨b11, o12, cs13, hae, hb16, hp9, hq10, hd14, hk15⟩ := hr0_0.idx hy8
      subst hae
      obtain rfl := hd14
      refine LW.u (Pur.ix Tryz.underlying22 sz3 rfl rfl hp9 hq10) rfl ?_
      refine LW.l (Ldr.old w0 ag3 rfl (hk15 0 _ rfl)) (hS3.same _ hb16.1 hb16.2) rfl ?_
      replace ⟨y17, hy17, h⟩ := obind h
      obtain ⟨b20, o21, hae, hp18, hq19⟩ := hS3.ownIdx (α := Int) (i := 0) rfl hy17
      subst hae
      refine LW.u (Pur.ix Tryz.underlying22 sz3 rfl rfl hp18 hq19) rfl ?_
      replace ⟨y22, hy22, h⟩ := obind h
      refine LW.stE (M := []) (L := [sl (some ⟨b20, o21, none⟩) c3 s5.1]) (z := y17) (z' := y8) (o := 0) hS3 (i := 0) rfl hy17 ag3 rfl (by show _ = o21 + (s5.2 : Int).toNat * 1 + 0; omega) rfl rfl rfl rfl (whole (fun w G hG => by cases (show G = [] from hG); exact ⟨rfl, rfl⟩)) ?_
      intro w23 hS4 hf
      rw [Option.some.inj hy22] at hS4
      refine go ?_
      cases oi h
      exact ⟨rfl, ⟨⟨rfl, (show (.slice (some ⟨b20, o21, none⟩) s5.1.length c3 : Value) = .slice (some ⟨b20, o21, none⟩) y22.length c3 by rw [show s5.1.length = y22.length from (len_set (Option.some.inj hy22))]), rfl, trivial⟩, hS4.pick [0] rfl rfl⟩⟩
    replace h := bcF h hc7
    refine go ?_
    cases oi h
    exact ⟨trivial, rfl, ⟨⟨rfl, trivial⟩, hS3.pick [0] rfl rfl⟩⟩
  intro x e w26 hM
  obtain ⟨rfl, hM⟩ := hM
  obtain ⟨hE, hS5⟩ := hM
  obtain ⟨e, rfl⟩ := hE.out
  have h := h25
  refine go ?_
  cases h
  exact And.intro trivial ⟨_, Res.one (resOne.t rfl), a2, c3, rfl, hS5.pick [0] rfl rfl⟩

theorem W_l_toLabel {w0 : World} {N : Nat} {x0 : DLabel} {r : DLabel} (h : F_l_toLabel N x0 = some r) {a0_0 : Option Addr} {n0_0 c0_0 : Nat} (hn0_0 : n0_0 = x0.levels.length) (hr0_0 : rdS (Bor w0 []) w0 a0_0 c0_0 x0.levels) :
    Ret Tryz.prog 42 #[.agg #[.slice a0_0 n0_0 c0_0]] w0 (fun v w => ∃ ar0_0 cr0_0, v = .agg #[.slice ar0_0 r.levels.length cr0_0] ∧ St w0 [] w [sl ar0_0 cr0_0 r.levels]) := by
  subst hn0_0
  unfold F_l_toLabel at h
  refine Ret.fn Tryz.func42 fun e => ?_
  have hS1 := St.start w0
  refine go ?_
  refine LW.bo hS1 fun g1 w2 hS2 => ?_
  refine LW.al hS2 fun g3 w4 hS3 => ?_
  refine go ?_
  refine LW.al hS3 fun g5 w6 hS4 => ?_
  refine go ?_
  replace ⟨y7, hy7, h⟩ := obind h
  refine LW.cl (W_l_toIntS hy7 rfl (hS4.rB hr0_0)) ?_
  rintro _ w10 ⟨a8, c9, rfl, hs⟩
  have hS5 := hS4.add hs
  refine go ?_
  refine LW.st hS5 1 fun w11 hS6 => ?_
  refine go ?_
  refine LW.st hS6 2 fun w12 hS7 => ?_
  refine go ?_
  cases h
  exact And.intro trivial ⟨_, Res.one (resOne.b hS7 2 rfl ag38 rfl rfl), a8, c9, rfl, hS7.pick [0] rfl rfl⟩

theorem W_l_toAmt {w0 : World} {N : Nat} {x0 : DAmt} {r : DAmt} (h : F_l_toAmt N x0 = some r) :
    Ret Tryz.prog 46 #[.agg #[.int .i64 x0.pages, .int .i64 x0.rent, .int .i64 x0.cpu]] w0 (fun v w => v = .agg #[.int .i64 r.pages, .int .i64 r.rent, .int .i64 r.cpu] ∧ St w0 [] w []) := by
  unfold F_l_toAmt at h
  refine Ret.fn Tryz.func46 fun e => ?_
  have hS1 := St.start w0
  refine go ?_
  refine LW.bo hS1 fun g1 w2 hS2 => ?_
  refine LW.al hS2 fun g3 w4 hS3 => ?_
  refine go ?_
  refine LW.al hS3 fun g5 w6 hS4 => ?_
  refine go ?_
  refine LW.st hS4 0 fun w7 hS5 => ?_
  refine go ?_
  refine LW.st hS5 0 fun w8 hS6 => ?_
  refine go ?_
  refine LW.st hS6 0 fun w9 hS7 => ?_
  refine go ?_
  refine LW.st hS7 1 fun w10 hS8 => ?_
  refine go ?_
  cases h
  exact And.intro trivial ⟨_, Res.one (resOne.b hS8 1 rfl ag45 rfl rfl), rfl, hS8.pick [] rfl rfl⟩

theorem W_s_l1In {w0 : World} {N : Nat} {x0 : Int} {x1 : Int} {x2 : Int} {r : Bool} (h : F_s_l1In N x0 x1 x2 = some r) :
    Ret Tryz.prog 75 #[.int .i64 x0, .int .i64 x1, .int .i64 x2] w0 (fun v w => v = .bool r ∧ St w0 [] w []) := by
  unfold F_s_l1In at h
  refine Ret.fn Tryz.func75 fun e => ?_
  have hS1 := St.start w0
  refine go ?_
  rcases bcases (decide (x0 ≥ x1)) with hc1 | hc1
  · replace h := bcT h hc1
    refine go ?_
    cases h
    exact And.intro trivial ⟨_, Res.one (resOne.t rfl), rfl, hS1.pick [] rfl rfl⟩
  replace h := bcF h hc1
  refine go ?_
  cases h
  exact And.intro trivial ⟨_, Res.one (resOne.t rfl), rfl, hS1.pick [] rfl rfl⟩

theorem W_s_LabelOk {w0 : World} {N : Nat} {x0 : DLabel} {r : Bool} (h : F_s_LabelOk N x0 = some r) {a0_0 : Option Addr} {n0_0 c0_0 : Nat} (hn0_0 : n0_0 = x0.levels.length) (hr0_0 : rdS (Bor w0 []) w0 a0_0 c0_0 x0.levels) :
    Ret Tryz.prog 117 #[.agg #[.slice a0_0 n0_0 c0_0]] w0 (fun v w => v = .bool r ∧ St w0 [] w []) := by
  subst hn0_0
  unfold F_s_LabelOk at h
  refine Ret.fn Tryz.func117 fun e => ?_
  have hS1 := St.start w0
  refine go ?_
  refine LW.bo hS1 fun g1 w2 hS2 => ?_
  refine go ?_
  refine CW.cond rfl (fun hc3 => ?_) (fun hc3 => ?_)
  · replace h := bcT h hc3
    refine go ?_
    cases h
    exact And.intro trivial ⟨_, Res.one (resOne.t rfl), rfl, hS2.pick [] rfl rfl⟩
  replace h := bcF h hc3
  refine go ?_
  obtain ⟨o19, ho19, h20⟩ := obind h
  refine CW.mono (CW.iter (σ := Int) (ρ := Int ⊕ Bool) (fun s4 e wb => En e [(1, .pointer (some ⟨g1, 0, none⟩)), (3, .int .i64 s4)] ∧ St w0 [] wb [bx g1 38 [.slice a0_0 x0.levels.length c0_0]]) (fun o x e wb => match o with | .inl s4 => x = .exit 0 ∧ En e [] ∧ St w0 [] wb [bx g1 38 [.slice a0_0 x0.levels.length c0_0]] | .inr r => x = .ret ∧ ∃ u, u = r ∧ ∃ v, Res Tryz.prog Tryz.f117.results e wb v ∧ v = .bool u ∧ St w0 [] wb []) ?_ N 0 _ _ _ ⟨⟨rfl, rfl, trivial⟩, hS2.pick [0] rfl rfl⟩ ho19) ?_
  · intro s4 e w5 o hM h
    obtain ⟨hE, hS3⟩ := hM
    obtain ⟨e, rfl⟩ := hE.out
    refine go ?_
    refine CW.cond rfl (fun hc6 => ?_) (fun hc6 => ?_)
    · replace h := bcT h hc6
      refine go ?_
      replace ⟨y7, hy7, h⟩ := obind h
      obtain ⟨b10, o11, cs12, hae, hb15, hp8, hq9, hd13, hk14⟩ := hr0_0.idx hy7
      subst hae
      obtain rfl := hd13
      refine LW.u (Pur.ix Tryz.underlying22 sz3 rfl rfl hp8 hq9) rfl ?_
      refine LW.l (Ldr.old w0 ag3 rfl (hk14 0 _ rfl)) (hS3.same _ hb15.1 hb15.2) rfl ?_
      replace ⟨y16, hy16, h⟩ := obind h
      refine LW.c0 (W_s_l1In hy16) hS3 fun w17 hS4 => ?_
      refine go ?_
      refine CW.fl [1, 3, 21] fun e => ?_
      refine CW.cond rfl (fun hc18 => ?_) (fun hc18 => ?_)
      · replace h := bcT h hc18
        refine go ?_
        cases oi h
        exact ⟨trivial, rfl, _, rfl, ⟨_, Res.one (resOne.t rfl), rfl, hS4.pick [] rfl rfl⟩⟩
      replace h := bcF h hc18
      refine go ?_
      cases oi h
      exact ⟨rfl, ⟨⟨rfl, rfl, trivial⟩, hS4.pick [0] rfl rfl⟩⟩
    replace h := bcF h hc6
    refine go ?_
    cases oi h
    exact ⟨trivial, rfl, ⟨trivial, hS3.pick [0] rfl rfl⟩⟩
  intro x e w21 hM
  rcases o19 with o19 | r22
  · obtain ⟨rfl, hM⟩ := hM
    obtain ⟨hE, hS5⟩ := hM
    obtain ⟨e, rfl⟩ := hE.out; rw [show e = upds e [] from rfl]
    have h := h20
    refine go ?_
    cases h
    exact And.intro trivial ⟨_, Res.one (resOne.t rfl), rfl, hS5.pick [] rfl rfl⟩
  obtain ⟨rfl, u, rfl, hM⟩ := hM
  cases h20
  exact And.intro trivial hM

theorem W_s_OwnOk {w0 : World} {N : Nat} {x0 : List Int} {r : Bool} (h : F_s_OwnOk N x0 = some r) {a0_0 : Option Addr} {n0_0 c0_0 : Nat} (hn0_0 : n0_0 = x0.length) (hr0_0 : rdS (Bor w0 []) w0 a0_0 c0_0 x0) :
    Ret Tryz.prog 118 #[.slice a0_0 n0_0 c0_0] w0 (fun v w => v = .bool r ∧ St w0 [] w []) := by
  subst hn0_0
  unfold F_s_OwnOk at h
  refine Ret.fn Tryz.func118 fun e => ?_
  have hS1 := St.start w0
  refine go ?_
  obtain ⟨o30, ho30, h31⟩ := obind h
  refine CW.mono (CW.iter (σ := Int) (ρ := Int ⊕ Bool) (fun s1 e wb => En e [(0, .slice a0_0 x0.length c0_0), (3, .int .i64 s1)] ∧ St w0 [] wb []) (fun o x e wb => match o with | .inl s1 => x = .exit 0 ∧ En e [] ∧ St w0 [] wb [] | .inr r => x = .ret ∧ ∃ u, u = r ∧ ∃ v, Res Tryz.prog Tryz.f118.results e wb v ∧ v = .bool u ∧ St w0 [] wb []) ?_ N 0 _ _ _ ⟨⟨rfl, rfl, trivial⟩, hS1.pick [] rfl rfl⟩ ho30) ?_
  · intro s1 e w2 o hM h
    obtain ⟨hE, hS2⟩ := hM
    obtain ⟨e, rfl⟩ := hE.out
    refine go ?_
    refine CW.cond rfl (fun hc3 => ?_) (fun hc3 => ?_)
    · replace h := bcT h hc3
      refine gs ?_
      refine CW.block ?_
      refine gs ?_
      obtain ⟨j4, hj4, h5⟩ := obind h
      refine CW.cut (fun e wb => En e [(0, .slice a0_0 x0.length c0_0), (3, .int .i64 s1), (31, .bool j4)] ∧ St w0 [] wb []) ?_ ?_
      · have h := hj4
        refine CW.draw (by kernel_rfl) ?_
        have hS3 := hS2.drew
        refine AW.u (i := 0) rfl (by kernel_rfl) rfl rfl (Pur.p rfl) ?_
        refine AW.u (i := 1) rfl (by kernel_rfl) rfl rfl (Pur.p rfl) ?_
        replace ⟨y6, hy6, h⟩ := obind h
        obtain ⟨b9, o10, cs11, hae, hb14, hp7, hq8, hd12, hk13⟩ := hr0_0.idx hy6
        subst hae
        obtain rfl := hd12
        refine AW.u (i := 2) rfl (by kernel_rfl) rfl rfl (Pur.ix Tryz.underlying22 sz3 rfl rfl hp7 hq8) ?_
        refine AW.take (i := 3) rfl (by kernel_rfl) rfl rfl (Ldr.old w0 ag3 rfl (hk13 0 _ rfl)) (hS3.same _ hb14.1 hb14.2) ?_
        replace ⟨y15, hy15, h⟩ := obind h
        have q := W_s_l1In (w0 := w2.drew) hy15
        refine AW.one (i := 4) (by kernel_rfl) ?_
        refine ⟨_, rfl, ?_⟩
        refine LW.call pl75 rfl rfl ?_
        refine Ret.mono q ?_
        rintro _ w16 ⟨rfl, hs⟩
        have hS4 := hS3.add hs
        refine LW.nil ⟨rfl, (.w (by kernel_rfl) Kept.n), ?_⟩
        refine AW.u (i := 5) rfl (by kernel_rfl) rfl rfl (Pur.p rfl) ?_
        refine AW.u (i := 6) rfl (by kernel_rfl) rfl rfl (Pur.p rfl) ?_
        rcases bcases (!y15) with hc17 | hc17
        · replace h := bcT h hc17
          refine AW.no (i := 7) rfl (by kernel_rfl) (want_not rfl rfl hc17) rfl ?_
          refine AW.no (i := 8) rfl (by kernel_rfl) (want_not rfl rfl hc17) rfl ?_
          refine AW.no (i := 9) rfl (by kernel_rfl) (want_not rfl rfl hc17) rfl ?_
          refine AW.no (i := 10) rfl (by kernel_rfl) (want_undef rfl rfl) rfl ?_
          refine AW.no (i := 11) rfl (by kernel_rfl) (want_undef rfl rfl) rfl ?_
          refine AW.no (i := 12) rfl (by kernel_rfl) (want_undef rfl rfl) rfl ?_
          refine AW.no (i := 13) rfl (by kernel_rfl) (want_undef rfl rfl) rfl ?_
          refine AW.no (i := 14) rfl (by kernel_rfl) (want_undef rfl rfl) rfl ?_
          refine AW.no (i := 15) rfl (by kernel_rfl) (want_undef rfl rfl) rfl ?_
          refine AW.no (i := 16) rfl (by kernel_rfl) (want_undef rfl rfl) rfl ?_
          refine AW.no (i := 17) rfl (by kernel_rfl) (want_undef rfl rfl) rfl ?_
          refine AW.no (i := 18) rfl (by kernel_rfl) (want_undef rfl rfl) rfl ?_
          refine AW.no (i := 19) rfl (by kernel_rfl) (want_undef rfl rfl) rfl ?_
          refine AW.no (i := 20) rfl (by kernel_rfl) (want_not rfl rfl hc17) rfl ?_
          refine AW.u (i := 21) rfl (by kernel_rfl) rfl rfl (Pur.pickT rfl hc17) ?_
          refine AW.done (by kernel_rfl) ?_
          cases oi h
          exact ⟨⟨rfl, rfl, rfl, trivial⟩, hS4.pick [] rfl rfl⟩
        replace h := bcF h hc17
        refine AW.u (i := 7) rfl (by kernel_rfl) (want_of rfl rfl hc17) rfl (Pur.p rfl) ?_
        refine AW.u (i := 8) rfl (by kernel_rfl) (want_of rfl rfl hc17) rfl (Pur.p rfl) ?_
        refine AW.u (i := 9) rfl (by kernel_rfl) (want_of rfl rfl hc17) rfl (Pur.p rfl) ?_
        rcases bcases (decide (s1 > 0)) with hc18 | hc18
        · replace h := bcT h hc18
          refine AW.u (i := 10) rfl (by kernel_rfl) (want_of rfl rfl hc18) rfl (Pur.p rfl) ?_
          refine AW.u (i := 11) rfl (by kernel_rfl) (want_of rfl rfl hc18) rfl (Pur.p rfl) ?_
          refine AW.u (i := 12) rfl (by kernel_rfl) (want_of rfl rfl hc18) rfl (Pur.ix Tryz.underlying22 sz3 rfl rfl hp7 hq8) ?_
          refine AW.take (i := 13) rfl (by kernel_rfl) (want_of rfl rfl hc18) rfl (Ldr.old w0 ag3 rfl (hk13 0 _ rfl)) (hS4.same _ hb14.1 hb14.2) ?_
          refine AW.u (i := 14) rfl (by kernel_rfl) (want_of rfl rfl hc18) rfl (Pur.p rfl) ?_
          refine AW.u (i := 15) rfl (by kernel_rfl) (want_of rfl rfl hc18) rfl (Pur.p rfl) ?_
          refine AW.u (i := 16) rfl (by kernel_rfl) (want_of rfl rfl hc18) rfl (Pur.p rfl) ?_
          replace ⟨y19, hy19, h⟩ := obind h
          obtain ⟨b22, o23, cs24, hae, hb27, hp20, hq21, hd25, hk26⟩ := hr0_0.idx hy19
          cases hae
          obtain rfl := hd25
          refine AW.u (i := 17) rfl (by kernel_rfl) (want_of rfl rfl hc18) rfl (Pur.ix Tryz.underlying22 sz3 rfl rfl hp20 hq21) ?_
          refine AW.take (i := 18) rfl (by kernel_rfl) (want_of rfl rfl hc18) rfl (Ldr.old w0 ag3 rfl (hk26 0 _ rfl)) (hS4.same _ hb27.1 hb27.2) ?_
          refine AW.u (i := 19) rfl (by kernel_rfl) (want_of rfl rfl hc18) rfl (Pur.p rfl) ?_
          refine AW.u (i := 20) rfl (by kernel_rfl) (want_of rfl rfl hc17) rfl (Pur.pickT rfl hc18) ?_
          refine AW.u (i := 21) rfl (by kernel_rfl) rfl rfl (Pur.pickF rfl hc17) ?_
          refine AW.done (by kernel_rfl) ?_
          cases oi h
          exact ⟨⟨rfl, rfl, rfl, trivial⟩, hS4.pick [] rfl rfl⟩
        replace h := bcF h hc18
        refine AW.no (i := 10) rfl (by kernel_rfl) (want_not rfl rfl hc18) rfl ?_
        refine AW.no (i := 11) rfl (by kernel_rfl) (want_not rfl rfl hc18) rfl ?_
        refine AW.no (i := 12) rfl (by kernel_rfl) (want_not rfl rfl hc18) rfl ?_
        refine AW.no (i := 13) rfl (by kernel_rfl) (want_not rfl rfl hc18) rfl ?_
        refine AW.no (i := 14) rfl (by kernel_rfl) (want_not rfl rfl hc18) rfl ?_
        refine AW.no (i := 15) rfl (by kernel_rfl) (want_not rfl rfl hc18) rfl ?_
        refine AW.no (i := 16) rfl (by kernel_rfl) (want_not rfl rfl hc18) rfl ?_
        refine AW.no (i := 17) rfl (by kernel_rfl) (want_not rfl rfl hc18) rfl ?_
        refine AW.no (i := 18) rfl (by kernel_rfl) (want_not rfl rfl hc18) rfl ?_
        refine AW.no (i := 19) rfl (by kernel_rfl) (want_not rfl rfl hc18) rfl ?_
        refine AW.u (i := 20) rfl (by kernel_rfl) (want_of rfl rfl hc17) rfl (Pur.pickF rfl hc18) ?_
        refine AW.u (i := 21) rfl (by kernel_rfl) rfl rfl (Pur.pickF rfl hc17) ?_
        refine AW.done (by kernel_rfl) ?_
        cases oi h
        exact ⟨⟨rfl, rfl, rfl, trivial⟩, hS4.pick [] rfl rfl⟩
      rintro e w28 ⟨hE, hS5⟩
      obtain ⟨e, rfl⟩ := hE.out
      have h := h5
      refine go ?_
      refine CW.cond rfl (fun hc29 => ?_) (fun hc29 => ?_)
      · replace h := bcT h hc29
        refine go ?_
        cases oi h
        exact ⟨trivial, rfl, _, rfl, ⟨_, Res.one (resOne.t rfl), rfl, hS5.pick [] rfl rfl⟩⟩
      replace h := bcF h hc29
      refine go ?_
      cases oi h
      exact ⟨rfl, ⟨⟨rfl, rfl, trivial⟩, hS5.pick [] rfl rfl⟩⟩
    replace h := bcF h hc3
    refine go ?_
    cases oi h
    exact ⟨trivial, rfl, ⟨trivial, hS2.pick [] rfl rfl⟩⟩
  intro x e w32 hM
  rcases o30 with o30 | r33
  · obtain ⟨rfl, hM⟩ := hM
    obtain ⟨hE, hS6⟩ := hM
    obtain ⟨e, rfl⟩ := hE.out; rw [show e = upds e [] from rfl]
    have h := h31
    refine go ?_
    cases h
    exact And.intro trivial ⟨_, Res.one (resOne.t rfl), rfl, hS6.pick [] rfl rfl⟩
  obtain ⟨rfl, u, rfl, hM⟩ := hM
  cases h31
  exact And.intro trivial hM

theorem W_s_l5In {w0 : World} {N : Nat} {x0 : Int} {r : Bool} (h : F_s_l5In N x0 = some r) :
    Ret Tryz.prog 157 #[.int .i64 x0] w0 (fun v w => v = .bool r ∧ St w0 [] w []) := by
  unfold F_s_l5In at h
  refine Ret.fn Tryz.func157 fun e => ?_
  have hS1 := St.start w0
  refine go ?_
  replace ⟨y1, hy1, h⟩ := obind h
  refine LW.c0 (W_s_l1In hy1) hS1 fun w2 hS2 => ?_
  refine go ?_
  cases h
  exact And.intro trivial ⟨_, Res.one (resOne.t rfl), rfl, hS2.pick [] rfl rfl⟩

theorem W_s_AmtOk {w0 : World} {N : Nat} {x0 : DAmt} {r : Bool} (h : F_s_AmtOk N x0 = some r) :
    Ret Tryz.prog 104 #[.agg #[.int .i64 x0.pages, .int .i64 x0.rent, .int .i64 x0.cpu]] w0 (fun v w => v = .bool r ∧ St w0 [] w []) := by
  unfold F_s_AmtOk at h
  refine Ret.fn Tryz.func104 fun e => ?_
  have hS1 := St.start w0
  refine go ?_
  refine LW.bo hS1 fun g1 w2 hS2 => ?_
  refine go ?_
  replace ⟨y3, hy3, h⟩ := obind h
  refine LW.c0 (W_s_l5In hy3) hS2 fun w4 hS3 => ?_
  refine go ?_
  rcases bcases y3 with hc5 | hc5
  · replace h := bcT h hc5
    refine go ?_
    replace ⟨y6, hy6, h⟩ := obind h
    refine go ?_
    refine LW.c0 (W_s_l5In hy6) hS3 fun w7 hS4 => ?_
    refine go ?_
    rcases bcases y6 with hc8 | hc8
    · replace h := bcT h hc8
      refine go ?_
      replace ⟨y9, hy9, h⟩ := obind h
      refine go ?_
      refine LW.c0 (W_s_l5In hy9) hS4 fun w10 hS5 => ?_
      refine go ?_
      cases h
      exact And.intro trivial ⟨_, Res.one (resOne.t rfl), rfl, hS5.pick [] rfl rfl⟩
    replace h := bcF h hc8
    refine go ?_
    cases h
    exact And.intro trivial ⟨_, Res.one (resOne.t rfl), rfl, hS4.pick [] rfl rfl⟩
  replace h := bcF h hc5
  refine go ?_
  cases h
  exact And.intro trivial ⟨_, Res.one (resOne.t rfl), rfl, hS3.pick [] rfl rfl⟩

theorem W_s_l6Res {w0 : World} {N : Nat} {x0 : Int} {r : Bool} (h : F_s_l6Res N x0 = some r) :
    Ret Tryz.prog 147 #[.int .i64 x0] w0 (fun v w => v = .bool r ∧ St w0 [] w []) := by
  unfold F_s_l6Res at h
  refine Ret.fn Tryz.func147 fun e => ?_
  have hS1 := St.start w0
  refine go ?_
  replace ⟨y1, hy1, h⟩ := obind h
  refine LW.c0 (W_s_l1In hy1) hS1 fun w2 hS2 => ?_
  refine go ?_
  cases h
  exact And.intro trivial ⟨_, Res.one (resOne.t rfl), rfl, hS2.pick [] rfl rfl⟩

theorem W_s_l8Handle {w0 : World} {N : Nat} {x0 : Int} {r : Bool} (h : F_s_l8Handle N x0 = some r) :
    Ret Tryz.prog 123 #[.int .i64 x0] w0 (fun v w => v = .bool r ∧ St w0 [] w []) := by
  unfold F_s_l8Handle at h
  refine Ret.fn Tryz.func123 fun e => ?_
  have hS1 := St.start w0
  refine go ?_
  replace ⟨y1, hy1, h⟩ := obind h
  refine LW.c0 (W_s_l1In hy1) hS1 fun w2 hS2 => ?_
  refine go ?_
  cases h
  exact And.intro trivial ⟨_, Res.one (resOne.t rfl), rfl, hS2.pick [] rfl rfl⟩

theorem W_s_ObjOk {w0 : World} {N : Nat} {x0 : DObj} {r : Bool} (h : F_s_ObjOk N x0 = some r) {a0_10 : Option Addr} {n0_10 c0_10 : Nat} (hn0_10 : n0_10 = x0.links.length) (hr0_10 : rdS (Bor w0 []) w0 a0_10 c0_10 x0.links) {a0_11 : Option Addr} {n0_11 c0_11 : Nat} (hn0_11 : n0_11 = x0.data.length) (hr0_11 : rdS (Bor w0 []) w0 a0_11 c0_11 x0.data) {a0_12 : Option Addr} {n0_12 c0_12 : Nat} (hn0_12 : n0_12 = x0.queue.length) (hr0_12 : rdS (Bor w0 []) w0 a0_12 c0_12 x0.queue) :
    Ret Tryz.prog 173 #[.agg #[.int .i64 x0.gen, .int .i64 x0.kind, .int .i64 x0.box, .int .i64 x0.res, .int .i64 x0.til, .int .i64 x0.pages, .int .i64 x0.wait, .int .i64 x0.got, .int .i64 x0.ran, .bool x0.mark, .slice a0_10 n0_10 c0_10, .slice a0_11 n0_11 c0_11, .slice a0_12 n0_12 c0_12]] w0 (fun v w => v = .bool r ∧ St w0 [] w []) := by
  subst hn0_10 hn0_11 hn0_12
  unfold F_s_ObjOk at h
  refine Ret.fn Tryz.func173 fun e => ?_
  have hS1 := St.start w0
  refine go ?_
  refine LW.bo hS1 fun g1 w2 hS2 => ?_
  refine go ?_
  replace ⟨y3, hy3, h⟩ := obind h
  refine LW.c0 (W_s_l1In hy3) hS2 fun w4 hS3 => ?_
  refine go ?_
  refine CW.cond rfl (fun hc5 => ?_) (fun hc5 => ?_)
  · replace h := bcT h hc5
    refine go ?_
    cases h
    exact And.intro trivial ⟨_, Res.one (resOne.t rfl), rfl, hS3.pick [] rfl rfl⟩
  replace h := bcF h hc5
  refine go ?_
  refine CW.cond rfl (fun hc6 => ?_) (fun hc6 => ?_)
  · replace h := bcT h hc6
    refine gs ?_
    obtain ⟨j7, hj7, h8⟩ := obind h
    refine CW.cut (fun e wb => En e [(2, .bool j7)] ∧ St w0 [] wb []) ?_ ?_
    · have h := hj7
      refine go ?_
      rcases bcases (x0.box == 0) with hc9 | hc9
      · replace h := bcT h hc9
        refine go ?_
        rcases bcases (x0.res == 0) with hc10 | hc10
        · replace h := bcT h hc10
          refine go ?_
          refine LW.fl [1, 26] fun e => ?_
          rcases bcases (x0.til == 0) with hc11 | hc11
          · replace h := bcT h hc11
            refine go ?_
            rcases bcases (x0.pages == 0) with hc12 | hc12
            · replace h := bcT h hc12
              refine go ?_
              rcases bcases (x0.wait == 0) with hc13 | hc13
              · replace h := bcT h hc13
                refine go ?_
                rcases bcases (x0.got == 0) with hc14 | hc14
                · replace h := bcT h hc14
                  refine go ?_
                  rcases bcases (x0.ran == 0) with hc15 | hc15
                  · replace h := bcT h hc15
                    refine go ?_
                    refine LW.fl [1, 51] fun e => ?_
                    rcases bcases (!x0.mark) with hc16 | hc16
                    · replace h := bcT h hc16
                      refine go ?_
                      rcases bcases ((x0.links.length : Int) == 0) with hc17 | hc17
                      · replace h := bcT h hc17
                        refine go ?_
                        rcases bcases ((x0.data.length : Int) == 0) with hc18 | hc18
                        · replace h := bcT h hc18
                          refine go ?_
                          cases oi h
                          exact ⟨⟨rfl, trivial⟩, hS3.pick [] rfl rfl⟩
                        replace h := bcF h hc18
                        refine go ?_
                        cases oi h
                        exact ⟨⟨rfl, trivial⟩, hS3.pick [] rfl rfl⟩
                      replace h := bcF h hc17
                      refine go ?_
                      cases oi h
                      exact ⟨⟨rfl, trivial⟩, hS3.pick [] rfl rfl⟩
                    replace h := bcF h hc16
                    refine go ?_
                    cases oi h
                    exact ⟨⟨rfl, trivial⟩, hS3.pick [] rfl rfl⟩
                  replace h := bcF h hc15
                  refine go ?_
                  cases oi h
                  exact ⟨⟨rfl, trivial⟩, hS3.pick [] rfl rfl⟩
                replace h := bcF h hc14
                refine go ?_
                cases oi h
                exact ⟨⟨rfl, trivial⟩, hS3.pick [] rfl rfl⟩
              replace h := bcF h hc13
              refine go ?_
              cases oi h
              exact ⟨⟨rfl, trivial⟩, hS3.pick [] rfl rfl⟩
            replace h := bcF h hc12
            refine go ?_
            cases oi h
            exact ⟨⟨rfl, trivial⟩, hS3.pick [] rfl rfl⟩
          replace h := bcF h hc11
          refine go ?_
          cases oi h
          exact ⟨⟨rfl, trivial⟩, hS3.pick [] rfl rfl⟩
        replace h := bcF h hc10
        refine go ?_
        cases oi h
        exact ⟨⟨rfl, trivial⟩, hS3.pick [] rfl rfl⟩
      replace h := bcF h hc9
      refine go ?_
      cases oi h
      exact ⟨⟨rfl, trivial⟩, hS3.pick [] rfl rfl⟩
    rintro e w19 ⟨hE, hS4⟩
    obtain ⟨e, rfl⟩ := hE.out
    have h := h8
    refine go ?_
    cases h
    exact And.intro trivial ⟨_, Res.one (resOne.t rfl), rfl, hS4.pick [] rfl rfl⟩
  replace h := bcF h hc6
  refine gs ?_
  obtain ⟨j20, hj20, h21⟩ := obind h
  refine CW.cut (fun e wb => En e [(1, .pointer (some ⟨g1, 0, none⟩)), (108, .bool j20)] ∧ St w0 [] wb [bx g1 85 [.int .i64 x0.gen, .int .i64 x0.kind, .int .i64 x0.box, .int .i64 x0.res, .int .i64 x0.til, .int .i64 x0.pages, .int .i64 x0.wait, .int .i64 x0.got, .int .i64 x0.ran, .bool x0.mark, .slice a0_10 x0.links.length c0_10, .slice a0_11 x0.data.length c0_11, .slice a0_12 x0.queue.length c0_12]]) ?_ ?_
  · have h := hj20
    refine go ?_
    replace ⟨y22, hy22, h⟩ := obind h
    refine LW.c0 (W_s_l1In hy22) hS3 fun w23 hS5 => ?_
    refine go ?_
    rcases bcases (!y22) with hc24 | hc24
    · replace h := bcT h hc24
      refine go ?_
      cases oi h
      exact ⟨⟨rfl, rfl, trivial⟩, hS5.pick [0] rfl rfl⟩
    replace h := bcF h hc24
    refine go ?_
    replace ⟨y25, hy25, h⟩ := obind h
    refine go ?_
    refine LW.c0 (W_s_l1In hy25) hS5 fun w26 hS6 => ?_
    refine go ?_
    rcases bcases (!y25) with hc27 | hc27
    · replace h := bcT h hc27
      refine go ?_
      cases oi h
      exact ⟨⟨rfl, rfl, trivial⟩, hS6.pick [0] rfl rfl⟩
    replace h := bcF h hc27
    refine go ?_
    replace ⟨y28, hy28, h⟩ := obind h
    refine go ?_
    refine LW.c0 (W_s_l6Res hy28) hS6 fun w29 hS7 => ?_
    refine go ?_
    refine LW.fl [1, 85] fun e => ?_
    rcases bcases (!y28) with hc30 | hc30
    · replace h := bcT h hc30
      refine go ?_
      cases oi h
      exact ⟨⟨rfl, rfl, trivial⟩, hS7.pick [0] rfl rfl⟩
    replace h := bcF h hc30
    refine go ?_
    replace ⟨y31, hy31, h⟩ := obind h
    refine go ?_
    refine LW.c0 (W_s_l1In hy31) hS7 fun w32 hS8 => ?_
    refine go ?_
    rcases bcases (!y31) with hc33 | hc33
    · replace h := bcT h hc33
      refine go ?_
      cases oi h
      exact ⟨⟨rfl, rfl, trivial⟩, hS8.pick [0] rfl rfl⟩
    replace h := bcF h hc33
    refine go ?_
    replace ⟨y34, hy34, h⟩ := obind h
    refine go ?_
    refine LW.c0 (W_s_l1In hy34) hS8 fun w35 hS9 => ?_
    refine go ?_
    rcases bcases (!y34) with hc36 | hc36
    · replace h := bcT h hc36
      refine go ?_
      cases oi h
      exact ⟨⟨rfl, rfl, trivial⟩, hS9.pick [0] rfl rfl⟩
    replace h := bcF h hc36
    refine go ?_
    rcases bcases ((x0.links.length : Int) != 2) with hc37 | hc37
    · replace h := bcT h hc37
      refine go ?_
      cases oi h
      exact ⟨⟨rfl, rfl, trivial⟩, hS9.pick [0] rfl rfl⟩
    replace h := bcF h hc37
    refine go ?_
    replace ⟨y38, hy38, h⟩ := obind h
    refine go ?_
    refine LW.c0 (W_s_l1In hy38) hS9 fun w39 hS10 => ?_
    refine go ?_
    cases oi h
    exact ⟨⟨rfl, rfl, trivial⟩, hS10.pick [0] rfl rfl⟩
  rintro e w40 ⟨hE, hS11⟩
  obtain ⟨e, rfl⟩ := hE.out
  have h := h21
  refine go ?_
  refine CW.cond rfl (fun hc41 => ?_) (fun hc41 => ?_)
  · replace h := bcT h hc41
    refine go ?_
    cases h
    exact And.intro trivial ⟨_, Res.one (resOne.t rfl), rfl, hS11.pick [] rfl rfl⟩
  replace h := bcF h hc41
  refine go ?_
  obtain ⟨o57, ho57, h58⟩ := obind h
  refine CW.mono (CW.iter (σ := Int) (ρ := Int ⊕ Bool) (fun s42 e wb => En e [(1, .pointer (some ⟨g1, 0, none⟩)), (3, .int .i64 s42)] ∧ St w0 [] wb [bx g1 85 [.int .i64 x0.gen, .int .i64 x0.kind, .int .i64 x0.box, .int .i64 x0.res, .int .i64 x0.til, .int .i64 x0.pages, .int .i64 x0.wait, .int .i64 x0.got, .int .i64 x0.ran, .bool x0.mark, .slice a0_10 x0.links.length c0_10, .slice a0_11 x0.data.length c0_11, .slice a0_12 x0.queue.length c0_12]]) (fun o x e wb => match o with | .inl s42 => x = .exit 0 ∧ En e [(1, .pointer (some ⟨g1, 0, none⟩))] ∧ St w0 [] wb [bx g1 85 [.int .i64 x0.gen, .int .i64 x0.kind, .int .i64 x0.box, .int .i64 x0.res, .int .i64 x0.til, .int .i64 x0.pages, .int .i64 x0.wait, .int .i64 x0.got, .int .i64 x0.ran, .bool x0.mark, .slice a0_10 x0.links.length c0_10, .slice a0_11 x0.data.length c0_11, .slice a0_12 x0.queue.length c0_12]] | .inr r => x = .ret ∧ ∃ u, u = r ∧ ∃ v, Res Tryz.prog Tryz.f173.results e wb v ∧ v = .bool u ∧ St w0 [] wb []) ?_ N 0 _ _ _ ⟨⟨rfl, rfl, trivial⟩, hS11.pick [0] rfl rfl⟩ ho57) ?_
  · intro s42 e w43 o hM h
    obtain ⟨hE, hS12⟩ := hM
    obtain ⟨e, rfl⟩ := hE.out
    refine go ?_
    refine CW.cond rfl (fun hc44 => ?_) (fun hc44 => ?_)
    · replace h := bcT h hc44
      refine go ?_
      replace ⟨y45, hy45, h⟩ := obind h
      obtain ⟨b48, o49, cs50, hae, hb53, hp46, hq47, hd51, hk52⟩ := hr0_10.idx hy45
      subst hae
      obtain rfl := hd51
      refine LW.u (Pur.ix Tryz.underlying22 sz3 rfl rfl hp46 hq47) rfl ?_
      refine LW.l (Ldr.old w0 ag3 rfl (hk52 0 _ rfl)) (hS12.same _ hb53.1 hb53.2) rfl ?_
      replace ⟨y54, hy54, h⟩ := obind h
      refine LW.c0 (W_s_l1In hy54) hS12 fun w55 hS13 => ?_
      refine go ?_
      refine CW.fl [1, 3, 119] fun e => ?_
      refine CW.cond rfl (fun hc56 => ?_) (fun hc56 => ?_)
      · replace h := bcT h hc56
        refine go ?_
        cases oi h
        exact ⟨trivial, rfl, _, rfl, ⟨_, Res.one (resOne.t rfl), rfl, hS13.pick [] rfl rfl⟩⟩
      replace h := bcF h hc56
      refine go ?_
      cases oi h
      exact ⟨rfl, ⟨⟨rfl, rfl, trivial⟩, hS13.pick [0] rfl rfl⟩⟩
    replace h := bcF h hc44
    refine go ?_
    cases oi h
    exact ⟨trivial, rfl, ⟨⟨rfl, trivial⟩, hS12.pick [0] rfl rfl⟩⟩
  intro x e w59 hM
  rcases o57 with o57 | r150
  · obtain ⟨rfl, hM⟩ := hM
    obtain ⟨hE, hS14⟩ := hM
    obtain ⟨e, rfl⟩ := hE.out
    have h := h58
    refine gs ?_
    obtain ⟨j60, hj60, h61⟩ := obind h
    refine CW.cut (fun e wb => En e [(1, .pointer (some ⟨g1, 0, none⟩)), (165, .bool j60)] ∧ St w0 [] wb [bx g1 85 [.int .i64 x0.gen, .int .i64 x0.kind, .int .i64 x0.box, .int .i64 x0.res, .int .i64 x0.til, .int .i64 x0.pages, .int .i64 x0.wait, .int .i64 x0.got, .int .i64 x0.ran, .bool x0.mark, .slice a0_10 x0.links.length c0_10, .slice a0_11 x0.data.length c0_11, .slice a0_12 x0.queue.length c0_12]]) ?_ ?_
    · have h := hj60
      refine go ?_
      rcases bcases (x0.kind != 4) with hc62 | hc62
      · replace h := bcT h hc62
        refine go ?_
        rcases bcases (x0.wait != 0) with hc63 | hc63
        · replace h := bcT h hc63
          refine go ?_
          cases oi h
          exact ⟨⟨rfl, rfl, trivial⟩, hS14.pick [0] rfl rfl⟩
        replace h := bcF h hc63
        refine go ?_
        refine LW.fl [1, 123, 132] fun e => ?_
        rcases bcases (x0.got != 0) with hc64 | hc64
        · replace h := bcT h hc64
          refine go ?_
          cases oi h
          exact ⟨⟨rfl, rfl, trivial⟩, hS14.pick [0] rfl rfl⟩
        replace h := bcF h hc64
        refine go ?_
        rcases bcases (x0.ran != 0) with hc65 | hc65
        · replace h := bcT h hc65
          refine go ?_
          cases oi h
          exact ⟨⟨rfl, rfl, trivial⟩, hS14.pick [0] rfl rfl⟩
        replace h := bcF h hc65
        refine go ?_
        rcases bcases (x0.kind == 4) with hc66 | hc66
        · replace h := bcT h hc66
          refine go ?_
          rcases bcases (decide (x0.wait < 0)) with hc67 | hc67
          · replace h := bcT h hc67
            refine go ?_
            cases oi h
            exact ⟨⟨rfl, rfl, trivial⟩, hS14.pick [0] rfl rfl⟩
          replace h := bcF h hc67
          refine go ?_
          rcases bcases (decide (x0.wait > 0)) with hc68 | hc68
          · replace h := bcT h hc68
            refine go ?_
            refine LW.fl [1, 138, 142, 146, 150, 153] fun e => ?_
            replace ⟨y69, hy69, h⟩ := obind h
            refine go ?_
            refine LW.c0 (W_s_l8Handle hy69) hS14 fun w70 hS15 => ?_
            refine go ?_
            rcases bcases (!y69) with hc71 | hc71
            · replace h := bcT h hc71
              refine go ?_
              cases oi h
              exact ⟨⟨rfl, rfl, trivial⟩, hS15.pick [0] rfl rfl⟩
            replace h := bcF h hc71
            refine go ?_
            replace ⟨y72, hy72, h⟩ := obind h
            refine go ?_
            refine LW.c0 (W_s_l1In hy72) hS15 fun w73 hS16 => ?_
            refine go ?_
            cases oi h
            exact ⟨⟨rfl, rfl, trivial⟩, hS16.pick [0] rfl rfl⟩
          replace h := bcF h hc68
          refine go ?_
          refine LW.fl [1, 138, 142, 158, 160] fun e => ?_
          replace ⟨y74, hy74, h⟩ := obind h
          refine go ?_
          refine LW.c0 (W_s_l1In hy74) hS14 fun w75 hS17 => ?_
          refine go ?_
          cases oi h
          exact ⟨⟨rfl, rfl, trivial⟩, hS17.pick [0] rfl rfl⟩
        replace h := bcF h hc66
        refine go ?_
        cases oi h
        exact ⟨⟨rfl, rfl, trivial⟩, hS14.pick [0] rfl rfl⟩
      replace h := bcF h hc62
      refine go ?_
      refine LW.fl [1, 138, 142] fun e => ?_
      rcases bcases (x0.kind == 4) with hc76 | hc76
      · replace h := bcT h hc76
        refine go ?_
        rcases bcases (decide (x0.wait < 0)) with hc77 | hc77
        · replace h := bcT h hc77
          refine go ?_
          cases oi h
          exact ⟨⟨rfl, rfl, trivial⟩, hS14.pick [0] rfl rfl⟩
        replace h := bcF h hc77
        refine go ?_
        rcases bcases (decide (x0.wait > 0)) with hc78 | hc78
        · replace h := bcT h hc78
          refine go ?_
          replace ⟨y79, hy79, h⟩ := obind h
          refine go ?_
          refine LW.c0 (W_s_l8Handle hy79) hS14 fun w80 hS18 => ?_
          refine go ?_
          rcases bcases (!y79) with hc81 | hc81
          · replace h := bcT h hc81
            refine go ?_
            cases oi h
            exact ⟨⟨rfl, rfl, trivial⟩, hS18.pick [0] rfl rfl⟩
          replace h := bcF h hc81
          refine go ?_
          replace ⟨y82, hy82, h⟩ := obind h
          refine go ?_
          refine LW.c0 (W_s_l1In hy82) hS18 fun w83 hS19 => ?_
          refine go ?_
          cases oi h
          exact ⟨⟨rfl, rfl, trivial⟩, hS19.pick [0] rfl rfl⟩
        replace h := bcF h hc78
        refine go ?_
        replace ⟨y84, hy84, h⟩ := obind h
        refine go ?_
        refine LW.c0 (W_s_l1In hy84) hS14 fun w85 hS20 => ?_
        refine go ?_
        cases oi h
        exact ⟨⟨rfl, rfl, trivial⟩, hS20.pick [0] rfl rfl⟩
      replace h := bcF h hc76
      refine go ?_
      cases oi h
      exact ⟨⟨rfl, rfl, trivial⟩, hS14.pick [0] rfl rfl⟩
    rintro e w86 ⟨hE, hS21⟩
    obtain ⟨e, rfl⟩ := hE.out
    have h := h61
    refine go ?_
    refine CW.cond rfl (fun hc87 => ?_) (fun hc87 => ?_)
    · replace h := bcT h hc87
      refine go ?_
      cases h
      exact And.intro trivial ⟨_, Res.one (resOne.t rfl), rfl, hS21.pick [] rfl rfl⟩
    replace h := bcF h hc87
    refine gs ?_
    obtain ⟨j88, hj88, h89⟩ := obind h
    refine CW.cut (fun e wb => En e [(1, .pointer (some ⟨g1, 0, none⟩)), (195, .bool j88)] ∧ St w0 [] wb [bx g1 85 [.int .i64 x0.gen, .int .i64 x0.kind, .int .i64 x0.box, .int .i64 x0.res, .int .i64 x0.til, .int .i64 x0.pages, .int .i64 x0.wait, .int .i64 x0.got, .int .i64 x0.ran, .bool x0.mark, .slice a0_10 x0.links.length c0_10, .slice a0_11 x0.data.length c0_11, .slice a0_12 x0.queue.length c0_12]]) ?_ ?_
    · have h := hj88
      refine go ?_
      rcases bcases ((x0.data.length : Int) != 0) with hc90 | hc90
      · replace h := bcT h hc90
        refine go ?_
        rcases bcases (x0.kind != 2) with hc91 | hc91
        · replace h := bcT h hc91
          refine go ?_
          cases oi h
          exact ⟨⟨rfl, rfl, trivial⟩, hS21.pick [0] rfl rfl⟩
        replace h := bcF h hc91
        refine go ?_
        refine LW.fl [1, 183] fun e => ?_
        rcases bcases ((x0.data.length : Int) != x0.pages) with hc92 | hc92
        · replace h := bcT h hc92
          refine go ?_
          cases oi h
          exact ⟨⟨rfl, rfl, trivial⟩, hS21.pick [0] rfl rfl⟩
        replace h := bcF h hc92
        refine go ?_
        rcases bcases (x0.kind == 2) with hc93 | hc93
        · replace h := bcT h hc93
          refine go ?_
          cases oi h
          exact ⟨⟨rfl, rfl, trivial⟩, hS21.pick [0] rfl rfl⟩
        replace h := bcF h hc93
        refine go ?_
        cases oi h
        exact ⟨⟨rfl, rfl, trivial⟩, hS21.pick [0] rfl rfl⟩
      replace h := bcF h hc90
      refine go ?_
      refine LW.fl [1, 183, 187] fun e => ?_
      rcases bcases (x0.kind == 2) with hc94 | hc94
      · replace h := bcT h hc94
        refine go ?_
        cases oi h
        exact ⟨⟨rfl, rfl, trivial⟩, hS21.pick [0] rfl rfl⟩
      replace h := bcF h hc94
      refine go ?_
      cases oi h
      exact ⟨⟨rfl, rfl, trivial⟩, hS21.pick [0] rfl rfl⟩
    rintro e w95 ⟨hE, hS22⟩
    obtain ⟨e, rfl⟩ := hE.out
    have h := h89
    refine go ?_
    refine CW.cond rfl (fun hc96 => ?_) (fun hc96 => ?_)
    · replace h := bcT h hc96
      refine go ?_
      cases h
      exact And.intro trivial ⟨_, Res.one (resOne.t rfl), rfl, hS22.pick [] rfl rfl⟩
    replace h := bcF h hc96
    refine go ?_
    obtain ⟨o112, ho112, h113⟩ := obind h
    refine CW.mono (CW.iter (σ := Int) (ρ := Int ⊕ Bool) (fun s97 e wb => En e [(1, .pointer (some ⟨g1, 0, none⟩)), (4, .int .i64 s97)] ∧ St w0 [] wb [bx g1 85 [.int .i64 x0.gen, .int .i64 x0.kind, .int .i64 x0.box, .int .i64 x0.res, .int .i64 x0.til, .int .i64 x0.pages, .int .i64 x0.wait, .int .i64 x0.got, .int .i64 x0.ran, .bool x0.mark, .slice a0_10 x0.links.length c0_10, .slice a0_11 x0.data.length c0_11, .slice a0_12 x0.queue.length c0_12]]) (fun o x e wb => match o with | .inl s97 => x = .exit 2 ∧ En e [(1, .pointer (some ⟨g1, 0, none⟩))] ∧ St w0 [] wb [bx g1 85 [.int .i64 x0.gen, .int .i64 x0.kind, .int .i64 x0.box, .int .i64 x0.res, .int .i64 x0.til, .int .i64 x0.pages, .int .i64 x0.wait, .int .i64 x0.got, .int .i64 x0.ran, .bool x0.mark, .slice a0_10 x0.links.length c0_10, .slice a0_11 x0.data.length c0_11, .slice a0_12 x0.queue.length c0_12]] | .inr r => x = .ret ∧ ∃ u, u = r ∧ ∃ v, Res Tryz.prog Tryz.f173.results e wb v ∧ v = .bool u ∧ St w0 [] wb []) ?_ N 0 _ _ _ ⟨⟨rfl, rfl, trivial⟩, hS22.pick [0] rfl rfl⟩ ho112) ?_
    · intro s97 e w98 o hM h
      obtain ⟨hE, hS23⟩ := hM
      obtain ⟨e, rfl⟩ := hE.out
      refine go ?_
      refine CW.fl [1, 4, 200] fun e => ?_
      refine CW.cond rfl (fun hc99 => ?_) (fun hc99 => ?_)
      · replace h := bcT h hc99
        refine go ?_
        replace ⟨y100, hy100, h⟩ := obind h
        obtain ⟨b103, o104, cs105, hae, hb108, hp101, hq102, hd106, hk107⟩ := hr0_11.idx hy100
        subst hae
        obtain rfl := hd106
        refine LW.u (Pur.ix Tryz.underlying22 sz3 rfl rfl hp101 hq102) rfl ?_
        refine LW.l (Ldr.old w0 ag3 rfl (hk107 0 _ rfl)) (hS23.same _ hb108.1 hb108.2) rfl ?_
        replace ⟨y109, hy109, h⟩ := obind h
        refine LW.c0 (W_s_l1In hy109) hS23 fun w110 hS24 => ?_
        refine go ?_
        refine CW.cond rfl (fun hc111 => ?_) (fun hc111 => ?_)
        · replace h := bcT h hc111
          refine go ?_
          cases oi h
          exact ⟨trivial, rfl, _, rfl, ⟨_, Res.one (resOne.t rfl), rfl, hS24.pick [] rfl rfl⟩⟩
        replace h := bcF h hc111
        refine go ?_
        cases oi h
        exact ⟨rfl, ⟨⟨rfl, rfl, trivial⟩, hS24.pick [0] rfl rfl⟩⟩
      replace h := bcF h hc99
      refine go ?_
      cases oi h
      exact ⟨trivial, rfl, ⟨⟨rfl, trivial⟩, hS23.pick [0] rfl rfl⟩⟩
    intro x e w114 hM
    rcases o112 with o112 | r149
    · obtain ⟨rfl, hM⟩ := hM
      obtain ⟨hE, hS25⟩ := hM
      obtain ⟨e, rfl⟩ := hE.out
      have h := h113
      refine gs ?_
      obtain ⟨j115, hj115, h116⟩ := obind h
      refine CW.cut (fun e wb => En e [(1, .pointer (some ⟨g1, 0, none⟩)), (224, .bool j115)] ∧ St w0 [] wb [bx g1 85 [.int .i64 x0.gen, .int .i64 x0.kind, .int .i64 x0.box, .int .i64 x0.res, .int .i64 x0.til, .int .i64 x0.pages, .int .i64 x0.wait, .int .i64 x0.got, .int .i64 x0.ran, .bool x0.mark, .slice a0_10 x0.links.length c0_10, .slice a0_11 x0.data.length c0_11, .slice a0_12 x0.queue.length c0_12]]) ?_ ?_
      · have h := hj115
        refine go ?_
        rcases bcases (decide ((x0.queue.length : Int) > 2)) with hc117 | hc117
        · replace h := bcT h hc117
          refine go ?_
          cases oi h
          exact ⟨⟨rfl, rfl, trivial⟩, hS25.pick [0] rfl rfl⟩
        replace h := bcF h hc117
        refine go ?_
        rcases bcases (decide ((x0.queue.length : Int) > 0)) with hc118 | hc118
        · replace h := bcT h hc118
          refine go ?_
          cases oi h
          exact ⟨⟨rfl, rfl, trivial⟩, hS25.pick [0] rfl rfl⟩
        replace h := bcF h hc118
        refine go ?_
        cases oi h
        exact ⟨⟨rfl, rfl, trivial⟩, hS25.pick [0] rfl rfl⟩
      rintro e w119 ⟨hE, hS26⟩
      obtain ⟨e, rfl⟩ := hE.out
      have h := h116
      refine go ?_
      refine CW.cond rfl (fun hc120 => ?_) (fun hc120 => ?_)
      · replace h := bcT h hc120
        refine go ?_
        cases h
        exact And.intro trivial ⟨_, Res.one (resOne.t rfl), rfl, hS26.pick [] rfl rfl⟩
      replace h := bcF h hc120
      refine go ?_
      obtain ⟨o145, ho145, h146⟩ := obind h
      refine CW.mono (CW.iter (σ := Int) (ρ := Int ⊕ Bool) (fun s121 e wb => En e [(1, .pointer (some ⟨g1, 0, none⟩)), (5, .int .i64 s121)] ∧ St w0 [] wb [bx g1 85 [.int .i64 x0.gen, .int .i64 x0.kind, .int .i64 x0.box, .int .i64 x0.res, .int .i64 x0.til, .int .i64 x0.pages, .int .i64 x0.wait, .int .i64 x0.got, .int .i64 x0.ran, .bool x0.mark, .slice a0_10 x0.links.length c0_10, .slice a0_11 x0.data.length c0_11, .slice a0_12 x0.queue.length c0_12]]) (fun o x e wb => match o with | .inl s121 => x = .exit 4 ∧ En e [] ∧ St w0 [] wb [bx g1 85 [.int .i64 x0.gen, .int .i64 x0.kind, .int .i64 x0.box, .int .i64 x0.res, .int .i64 x0.til, .int .i64 x0.pages, .int .i64 x0.wait, .int .i64 x0.got, .int .i64 x0.ran, .bool x0.mark, .slice a0_10 x0.links.length c0_10, .slice a0_11 x0.data.length c0_11, .slice a0_12 x0.queue.length c0_12]] | .inr r => x = .ret ∧ ∃ u, u = r ∧ ∃ v, Res Tryz.prog Tryz.f173.results e wb v ∧ v = .bool u ∧ St w0 [] wb []) ?_ N 0 _ _ _ ⟨⟨rfl, rfl, trivial⟩, hS26.pick [0] rfl rfl⟩ ho145) ?_
      · intro s121 e w122 o hM h
        obtain ⟨hE, hS27⟩ := hM
        obtain ⟨e, rfl⟩ := hE.out
        refine go ?_
        refine CW.fl [1, 5, 229] fun e => ?_
        refine CW.cond rfl (fun hc123 => ?_) (fun hc123 => ?_)
        · replace h := bcT h hc123
          refine gs ?_
          refine CW.block ?_
          refine gs ?_
          obtain ⟨j124, hj124, h125⟩ := obind h
          refine CW.cut (fun e wb => En e [(1, .pointer (some ⟨g1, 0, none⟩)), (5, .int .i64 s121), (258, .bool j124)] ∧ St w0 [] wb [bx g1 85 [.int .i64 x0.gen, .int .i64 x0.kind, .int .i64 x0.box, .int .i64 x0.res, .int .i64 x0.til, .int .i64 x0.pages, .int .i64 x0.wait, .int .i64 x0.got, .int .i64 x0.ran, .bool x0.mark, .slice a0_10 x0.links.length c0_10, .slice a0_11 x0.data.length c0_11, .slice a0_12 x0.queue.length c0_12]]) ?_ ?_
          · have h := hj124
            refine go ?_
            replace ⟨y126, hy126, h⟩ := obind h
            obtain ⟨b129, o130, cs131, hae, hb134, hp127, hq128, hd132, hk133⟩ := hr0_12.idx hy126
            subst hae
            obtain rfl := hd132
            refine LW.u (Pur.ix Tryz.underlying83 sz187 rfl rfl hp127 hq128) rfl ?_
            refine go ?_
            refine LW.l (Ldr.old w0 ag3 rfl (hk133 0 _ rfl)) (hS27.same _ hb134.1 hb134.2) rfl ?_
            refine go ?_
            rcases bcases (y126.src != (-1)) with hc135 | hc135
            · replace h := bcT h hc135
              refine go ?_
              refine LW.u (Pur.ix Tryz.underlying83 sz187 rfl rfl hp127 hq128) rfl ?_
              refine go ?_
              refine LW.l (Ldr.old w0 ag3 rfl (hk133 0 _ rfl)) (hS27.same _ hb134.1 hb134.2) rfl ?_
              replace ⟨y136, hy136, h⟩ := obind h
              refine go ?_
              refine LW.c0 (W_s_l8Handle hy136) hS27 fun w137 hS28 => ?_
              refine go ?_
              rcases bcases (!y136) with hc138 | hc138
              · replace h := bcT h hc138
                refine go ?_
                cases oi h
                exact ⟨⟨rfl, rfl, rfl, trivial⟩, hS28.pick [0] rfl rfl⟩
              replace h := bcF h hc138
              refine go ?_
              refine LW.u (Pur.ix Tryz.underlying83 sz187 rfl rfl hp127 hq128) rfl ?_
              refine go ?_
              refine LW.fl [1, 5, 249, 254] fun e => ?_
              refine go ?_
              refine LW.l (Ldr.old w0 ag3 rfl (hk133 1 _ rfl)) (hS28.same _ hb134.1 hb134.2) rfl ?_
              replace ⟨y139, hy139, h⟩ := obind h
              refine go ?_
              refine LW.c0 (W_s_l1In hy139) hS28 fun w140 hS29 => ?_
              refine go ?_
              cases oi h
              exact ⟨⟨rfl, rfl, rfl, trivial⟩, hS29.pick [0] rfl rfl⟩
            replace h := bcF h hc135
            refine go ?_
            refine LW.u (Pur.ix Tryz.underlying83 sz187 rfl rfl hp127 hq128) rfl ?_
            refine go ?_
            refine LW.fl [1, 5, 249, 254] fun e => ?_
            refine go ?_
            refine LW.l (Ldr.old w0 ag3 rfl (hk133 1 _ rfl)) (hS27.same _ hb134.1 hb134.2) rfl ?_
            replace ⟨y141, hy141, h⟩ := obind h
            refine go ?_
            refine LW.c0 (W_s_l1In hy141) hS27 fun w142 hS30 => ?_
            refine go ?_
            cases oi h
            exact ⟨⟨rfl, rfl, rfl, trivial⟩, hS30.pick [0] rfl rfl⟩
          rintro e w143 ⟨hE, hS31⟩
          obtain ⟨e, rfl⟩ := hE.out
          have h := h125
          refine go ?_
          refine CW.cond rfl (fun hc144 => ?_) (fun hc144 => ?_)
          · replace h := bcT h hc144
            refine go ?_
            cases oi h
            exact ⟨trivial, rfl, _, rfl, ⟨_, Res.one (resOne.t rfl), rfl, hS31.pick [] rfl rfl⟩⟩
          replace h := bcF h hc144
          refine go ?_
          cases oi h
          exact ⟨rfl, ⟨⟨rfl, rfl, trivial⟩, hS31.pick [0] rfl rfl⟩⟩
        replace h := bcF h hc123
        refine go ?_
        cases oi h
        exact ⟨trivial, rfl, ⟨trivial, hS27.pick [0] rfl rfl⟩⟩
      intro x e w147 hM
      rcases o145 with o145 | r148
      · obtain ⟨rfl, hM⟩ := hM
        obtain ⟨hE, hS32⟩ := hM
        obtain ⟨e, rfl⟩ := hE.out; rw [show e = upds e [] from rfl]
        have h := h146
        refine go ?_
        cases h
        exact And.intro trivial ⟨_, Res.one (resOne.t rfl), rfl, hS32.pick [] rfl rfl⟩
      obtain ⟨rfl, u, rfl, hM⟩ := hM
      cases h146
      exact And.intro trivial hM
    obtain ⟨rfl, u, rfl, hM⟩ := hM
    cases h113
    exact And.intro trivial hM
  obtain ⟨rfl, u, rfl, hM⟩ := hM
  cases h58
  exact And.intro trivial hM

end Go.Kx
