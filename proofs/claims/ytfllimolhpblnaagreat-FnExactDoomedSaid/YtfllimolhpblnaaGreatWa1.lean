/- Each call returns what the plain function says. Printed by drive.py. -/
import Derived.Test.YtfllimolhpblnaaGreatFa
import Derived.Test.YtfllimolhpblnaaGreatPu
import Derived.Test.YtfllimolhpblnaaGreatWa0
namespace Go.Kx
open Go Go.RowKit Go.Proofs
set_option maxRecDepth 10000
set_option maxHeartbeats 2000000
set_option linter.unusedVariables false
set_option linter.unusedSimpArgs false
theorem W_l_heldIntS {w0 : World} {N : Nat} {x0 : List Int} {x1 : Int} {r : Int} (h : F_l_heldIntS N x0 x1 = some r) {a0_0 : Option Addr} {n0_0 c0_0 : Nat} (hn0_0 : n0_0 = x0.length) (hr0_0 : rdS (Bor w0 []) w0 a0_0 c0_0 x0) :
    Ret Tryz.prog 19 #[.slice a0_0 n0_0 c0_0, .int .i64 x1] w0 (fun v w => v = .int .i64 r ∧ St w0 [] w []) := by
  subst hn0_0
  unfold F_l_heldIntS at h
  refine Ret.fn Tryz.func19 fun e => ?_
  have hS1 := St.start w0
  refine go ?_
  obtain ⟨o14, ho14, h15⟩ := obind h
  refine CW.mono (CW.iter (σ := Int × Int) (ρ := (Int × Int) ⊕ Int) (fun s1 e wb => En e [(0, .slice a0_0 x0.length c0_0), (1, .int .i64 s1.1), (5, .int .i64 s1.2)] ∧ St w0 [] wb []) (fun o x e wb => match o with | .inl s1 => x = .exit 0 ∧ En e [(1, .int .i64 s1.1)] ∧ St w0 [] wb [] | .inr r => x = .ret ∧ ∃ u, u = r ∧ ∃ v, Res Tryz.prog Tryz.f19.results e wb v ∧ v = .int .i64 u ∧ St w0 [] wb []) ?_ N (x1, 0) _ _ _ ⟨⟨rfl, rfl, rfl, trivial⟩, hS1.pick [] rfl rfl⟩ ho14) ?_
  · intro s1 e w2 o hM h
    obtain ⟨hE, hS2⟩ := hM
    obtain ⟨e, rfl⟩ := hE.out
    refine go ?_
    refine CW.cond rfl (fun hc3 => ?_) (fun hc3 => ?_)
    · replace h := bcT h hc3
      refine go ?_
      replace ⟨y4, hy4, h⟩ := obind h
      obtain ⟨b7, o8, cs9, hae, hb12, hp5, hq6, hd10, hk11⟩ := hr0_0.idx hy4
      subst hae
      obtain rfl := hd10
      refine LW.u (Pur.ix Tryz.underlying28 sz3 rfl rfl hp5 hq6) rfl ?_
      refine LW.l (Ldr.old w0 ag3 rfl (hk11 0 _ rfl)) (hS2.same _ hb12.1 hb12.2) rfl ?_
      refine go ?_
      refine CW.fl [0, 1, 5, 17] fun e => ?_
      refine CW.cond rfl (fun hc13 => ?_) (fun hc13 => ?_)
      · replace h := bcT h hc13
        refine go ?_
        cases oi h
        exact ⟨trivial, rfl, _, rfl, ⟨_, Res.one (resOne.t rfl), rfl, hS2.pick [] rfl rfl⟩⟩
      replace h := bcF h hc13
      refine go ?_
      cases oi h
      exact ⟨rfl, ⟨⟨rfl, rfl, rfl, trivial⟩, hS2.pick [] rfl rfl⟩⟩
    replace h := bcF h hc3
    refine go ?_
    cases oi h
    exact ⟨trivial, rfl, ⟨⟨rfl, trivial⟩, hS2.pick [] rfl rfl⟩⟩
  intro x e w16 hM
  rcases o14 with o14 | r17
  · obtain ⟨rfl, hM⟩ := hM
    obtain ⟨hE, hS3⟩ := hM
    obtain ⟨e, rfl⟩ := hE.out
    have h := h15
    refine go ?_
    cases h
    exact And.intro trivial ⟨_, Res.one (resOne.t rfl), rfl, hS3.pick [] rfl rfl⟩
  obtain ⟨rfl, u, rfl, hM⟩ := hM
  cases h15
  exact And.intro trivial hM

theorem W_l_szLabel {w0 : World} {N : Nat} {x0 : DLabel} {x1 : Int} {r : Int} (h : F_l_szLabel N x0 x1 = some r) {a0_0 : Option Addr} {n0_0 c0_0 : Nat} (hn0_0 : n0_0 = x0.levels.length) (hr0_0 : rdS (Bor w0 []) w0 a0_0 c0_0 x0.levels) :
    Ret Tryz.prog 54 #[.agg #[.slice a0_0 n0_0 c0_0], .int .i64 x1] w0 (fun v w => v = .int .i64 r ∧ St w0 [] w []) := by
  subst hn0_0
  unfold F_l_szLabel at h
  refine Ret.fn Tryz.func54 fun e => ?_
  have hS1 := St.start w0
  refine go ?_
  refine LW.bo hS1 fun g1 w2 hS2 => ?_
  refine go ?_
  replace ⟨y3, hy3, h⟩ := obind h
  refine LW.c0 (W_l_szIntS hy3 rfl (hS2.rB hr0_0)) hS2 fun w4 hS3 => ?_
  refine go ?_
  refine CW.cond rfl (fun hc5 => ?_) (fun hc5 => ?_)
  · replace h := bcT h hc5
    refine go ?_
    cases h
    exact And.intro trivial ⟨_, Res.one (resOne.t rfl), rfl, hS3.pick [] rfl rfl⟩
  replace h := bcF h hc5
  refine go ?_
  cases h
  exact And.intro trivial ⟨_, Res.one (resOne.t rfl), rfl, hS3.pick [] rfl rfl⟩

theorem W_l_szObj {w0 : World} {N : Nat} {x0 : DObj} {x1 : Int} {r : Int} (h : F_l_szObj N x0 x1 = some r) {a0_10 : Option Addr} {n0_10 c0_10 : Nat} (hn0_10 : n0_10 = x0.links.length) (hr0_10 : rdS (Bor w0 []) w0 a0_10 c0_10 x0.links) {a0_11 : Option Addr} {n0_11 c0_11 : Nat} (hn0_11 : n0_11 = x0.data.length) (hr0_11 : rdS (Bor w0 []) w0 a0_11 c0_11 x0.data) {a0_12 : Option Addr} {n0_12 c0_12 : Nat} (hn0_12 : n0_12 = x0.queue.length) (hr0_12 : rdS (Bor w0 []) w0 a0_12 c0_12 x0.queue) :
    Ret Tryz.prog 190 #[.agg #[.int .i64 x0.gen, .int .i64 x0.kind, .int .i64 x0.box, .int .i64 x0.res, .int .i64 x0.til, .int .i64 x0.pages, .int .i64 x0.wait, .int .i64 x0.got, .int .i64 x0.ran, .bool x0.mark, .slice a0_10 n0_10 c0_10, .slice a0_11 n0_11 c0_11, .slice a0_12 n0_12 c0_12], .int .i64 x1] w0 (fun v w => v = .int .i64 r ∧ St w0 [] w []) := by
  subst hn0_10 hn0_11 hn0_12
  unfold F_l_szObj at h
  refine Ret.fn Tryz.func190 fun e => ?_
  have hS1 := St.start w0
  refine go ?_
  refine LW.bo hS1 fun g1 w2 hS2 => ?_
  refine go ?_
  replace ⟨y3, hy3, h⟩ := obind h
  refine LW.c0 (W_l_szIntS hy3 rfl (hS2.rB hr0_10)) hS2 fun w4 hS3 => ?_
  refine go ?_
  refine CW.cond rfl (fun hc5 => ?_) (fun hc5 => ?_)
  · replace h := bcT h hc5
    refine go ?_
    cases h
    exact And.intro trivial ⟨_, Res.one (resOne.t rfl), rfl, hS3.pick [] rfl rfl⟩
  replace h := bcF h hc5
  refine go ?_
  replace ⟨y6, hy6, h⟩ := obind h
  refine LW.c0 (W_l_szIntS hy6 rfl (hS3.rB hr0_11)) hS3 fun w7 hS4 => ?_
  refine go ?_
  refine CW.fl [1, 2, 16] fun e => ?_
  refine CW.cond rfl (fun hc8 => ?_) (fun hc8 => ?_)
  · replace h := bcT h hc8
    refine go ?_
    cases h
    exact And.intro trivial ⟨_, Res.one (resOne.t rfl), rfl, hS4.pick [] rfl rfl⟩
  replace h := bcF h hc8
  refine go ?_
  replace ⟨y9, hy9, h⟩ := obind h
  refine LW.c0 (W_l_szMsgS hy9 rfl (hS4.rB hr0_12)) hS4 fun w10 hS5 => ?_
  refine go ?_
  refine CW.cond rfl (fun hc11 => ?_) (fun hc11 => ?_)
  · replace h := bcT h hc11
    refine go ?_
    cases h
    exact And.intro trivial ⟨_, Res.one (resOne.t rfl), rfl, hS5.pick [] rfl rfl⟩
  replace h := bcF h hc11
  refine go ?_
  cases h
  exact And.intro trivial ⟨_, Res.one (resOne.t rfl), rfl, hS5.pick [] rfl rfl⟩

theorem W_l_szGc {w0 : World} {N : Nat} {x0 : DGc} {x1 : Int} {r : Int} (h : F_l_szGc N x0 x1 = some r) {a0_3 : Option Addr} {n0_3 c0_3 : Nat} (hn0_3 : n0_3 = x0.grey.length) (hr0_3 : rdS (Bor w0 []) w0 a0_3 c0_3 x0.grey) :
    Ret Tryz.prog 124 #[.agg #[.int .i64 x0.phase, .int .i64 x0.pos, .int .i64 x0.round, .slice a0_3 n0_3 c0_3], .int .i64 x1] w0 (fun v w => v = .int .i64 r ∧ St w0 [] w []) := by
  subst hn0_3
  unfold F_l_szGc at h
  refine Ret.fn Tryz.func124 fun e => ?_
  have hS1 := St.start w0
  refine go ?_
  refine LW.bo hS1 fun g1 w2 hS2 => ?_
  refine go ?_
  replace ⟨y3, hy3, h⟩ := obind h
  refine LW.c0 (W_l_szIntS hy3 rfl (hS2.rB hr0_3)) hS2 fun w4 hS3 => ?_
  refine go ?_
  refine CW.cond rfl (fun hc5 => ?_) (fun hc5 => ?_)
  · replace h := bcT h hc5
    refine go ?_
    cases h
    exact And.intro trivial ⟨_, Res.one (resOne.t rfl), rfl, hS3.pick [] rfl rfl⟩
  replace h := bcF h hc5
  refine go ?_
  cases h
  exact And.intro trivial ⟨_, Res.one (resOne.t rfl), rfl, hS3.pick [] rfl rfl⟩

theorem W_l_toLabel {w0 : World} {N : Nat} {x0 : DLabel} {r : DLabel} (h : F_l_toLabel N x0 = some r) {a0_0 : Option Addr} {n0_0 c0_0 : Nat} (hn0_0 : n0_0 = x0.levels.length) (hr0_0 : rdS (Bor w0 []) w0 a0_0 c0_0 x0.levels) :
    Ret Tryz.prog 62 #[.agg #[.slice a0_0 n0_0 c0_0]] w0 (fun v w => ∃ ar0_0 cr0_0, v = .agg #[.slice ar0_0 r.levels.length cr0_0] ∧ St w0 [] w [sl ar0_0 cr0_0 r.levels]) := by
  subst hn0_0
  unfold F_l_toLabel at h
  refine Ret.fn Tryz.func62 fun e => ?_
  have hS1 := St.start w0
  refine go ?_
  refine LW.bo hS1 fun g1 w2 hS2 => ?_
  refine LW.al hS2 fun g3 w4 hS3 => ?_
  refine go ?_
  refine LW.al hS3 fun g5 w6 hS4 => ?_
  refine go ?_
  replace ⟨y7, hy7, h⟩ := obind h
  refine LW.cl (W_l_toIntS hy7 rfl (hS4.rB hr0_0)) ?_
  rintro _ w10 ⟨a8, c9, rfl, hs⟩
  have hS5 := hS4.add hs
  refine go ?_
  refine LW.st hS5 1 fun w11 hS6 => ?_
  refine go ?_
  refine LW.st hS6 2 fun w12 hS7 => ?_
  refine go ?_
  cases h
  exact And.intro trivial ⟨_, Res.one (resOne.b hS7 2 rfl ag57 rfl rfl), a8, c9, rfl, hS7.pick [0] rfl rfl⟩

theorem W_l_toRes {w0 : World} {N : Nat} {x0 : DRes} {r : DRes} (h : F_l_toRes N x0 = some r) :
    Ret Tryz.prog 135 #[.agg #[.bool x0.live, .int .i64 x0.parent, .int .i64 x0.bal.pages, .int .i64 x0.bal.rent, .int .i64 x0.bal.cpu]] w0 (fun v w => v = .agg #[.bool r.live, .int .i64 r.parent, .int .i64 r.bal.pages, .int .i64 r.bal.rent, .int .i64 r.bal.cpu] ∧ St w0 [] w []) := by
  unfold F_l_toRes at h
  refine Ret.fn Tryz.func135 fun e => ?_
  have hS1 := St.start w0
  refine go ?_
  refine LW.bo hS1 fun g1 w2 hS2 => ?_
  refine LW.al hS2 fun g3 w4 hS3 => ?_
  refine go ?_
  refine LW.al hS3 fun g5 w6 hS4 => ?_
  refine go ?_
  refine LW.st hS4 0 fun w7 hS5 => ?_
  refine go ?_
  refine LW.st hS5 0 fun w8 hS6 => ?_
  refine go ?_
  replace ⟨y9, hy9, h⟩ := obind h
  refine LW.c0 (W_l_toAmt hy9) hS6 fun w10 hS7 => ?_
  refine go ?_
  refine LW.st hS7 0 fun w11 hS8 => ?_
  refine go ?_
  refine LW.st hS8 1 fun w12 hS9 => ?_
  refine go ?_
  cases h
  exact And.intro trivial ⟨_, Res.one (resOne.b hS9 1 rfl ag152 rfl rfl), rfl, hS9.pick [] rfl rfl⟩

theorem W_l_toMsgS {w0 : World} {N : Nat} {x0 : List DMsg} {r : (List DMsg)} (h : F_l_toMsgS N x0 = some r) {a0_0 : Option Addr} {n0_0 c0_0 : Nat} (hn0_0 : n0_0 = x0.length) (hr0_0 : rdS (Bor w0 []) w0 a0_0 c0_0 x0) :
    Ret Tryz.prog 213 #[.slice a0_0 n0_0 c0_0] w0 (fun v w => ∃ ar0 cr0, v = .slice ar0 r.length cr0 ∧ St w0 [] w [sl ar0 cr0 r]) := by
  subst hn0_0
  unfold F_l_toMsgS at h
  refine Ret.fn Tryz.func213 fun e => ?_
  have hS1 := St.start w0
  refine go ?_
  replace ⟨y1, hy1, h⟩ := obind h
  refine LW.mk sT90 rfl rfl hy1 hS1 rfl ?_
  intro a2 c3 w4 hS2 hf
  refine go ?_
  obtain ⟨o26, ho26, h27⟩ := obind h
  refine CW.mono (CW.iter (σ := (List DMsg) × Int) (ρ := (List DMsg) × Int) (fun s5 e wb => En e [(0, .slice a0_0 x0.length c0_0), (3, .slice a2 s5.1.length c3), (4, .int .i64 s5.2)] ∧ St w0 [] wb [sl a2 c3 s5.1]) (fun s5 x e wb => x = .exit 0 ∧ En e [(3, .slice a2 s5.1.length c3)] ∧ St w0 [] wb [sl a2 c3 s5.1]) ?_ N (y1, 0) _ _ _ ⟨⟨rfl, rfl, rfl, trivial⟩, hS2.pick [0] rfl rfl⟩ ho26) ?_
  · intro s5 e w6 o hM h
    obtain ⟨hE, hS3⟩ := hM
    obtain ⟨e, rfl⟩ := hE.out
    refine go ?_
    refine CW.cond rfl (fun hc7 => ?_) (fun hc7 => ?_)
    · replace h := bcT h hc7
      refine go ?_
      replace ⟨y8, hy8, h⟩ := obind h
      obtain ⟨b11, o12, cs13, hae, hb16, hp9, hq10, hd14, hk15⟩ := hr0_0.idx hy8
      subst hae
      obtain rfl := hd14
      refine LW.u (Pur.ix Tryz.underlying184 sz200 rfl rfl hp9 hq10) rfl ?_
      refine LW.l (Ldr.oldN w0 ag200 rfl rfl (fun j u hu => hk15 j u hu)) (hS3.same _ hb16.1 hb16.2) rfl ?_
      replace ⟨y17, hy17, h⟩ := obind h
      refine LW.c0 (W_l_toMsg hy17) hS3 fun w18 hS4 => ?_
      replace ⟨y19, hy19, h⟩ := obind h
      obtain ⟨b22, o23, hae, hp20, hq21⟩ := hS4.ownIdx (α := DMsg) (i := 0) rfl hy19
      subst hae
      refine LW.u (Pur.ix Tryz.underlying90 sz194 rfl rfl hp20 hq21) rfl ?_
      replace ⟨y24, hy24, h⟩ := obind h
      refine LW.stE (M := []) (L := [sl (some ⟨b22, o23, none⟩) c3 s5.1]) (z := y19) (z' := y17) (o := 0) hS4 (i := 0) rfl hy19 ag194 rfl (by show _ = o23 + (s5.2 : Int).toNat * 2 + 0; omega) rfl rfl rfl rfl (whole (fun w G hG => by cases (show G = [] from hG); exact ⟨rfl, rfl⟩)) ?_
      intro w25 hS5 hf
      rw [Option.some.inj hy24] at hS5
      refine go ?_
      replace h := Option.some.inj h
      subst h
      exact ⟨rfl, ⟨⟨rfl, (show (.slice (some ⟨b22, o23, none⟩) s5.1.length c3 : Value) = .slice (some ⟨b22, o23, none⟩) y24.length c3 by rw [show s5.1.length = y24.length from (len_set (Option.some.inj hy24))]), rfl, trivial⟩, hS5.pick [0] rfl rfl⟩⟩
    replace h := bcF h hc7
    refine go ?_
    cases oi h
    exact ⟨trivial, rfl, ⟨⟨rfl, trivial⟩, hS3.pick [0] rfl rfl⟩⟩
  intro x e w28 hM
  obtain ⟨rfl, hM⟩ := hM
  obtain ⟨hE, hS6⟩ := hM
  obtain ⟨e, rfl⟩ := hE.out
  have h := h27
  refine go ?_
  cases h
  exact And.intro trivial ⟨_, Res.one (resOne.t rfl), a2, c3, rfl, hS6.pick [0] rfl rfl⟩

theorem W_l_toGc {w0 : World} {N : Nat} {x0 : DGc} {r : DGc} (h : F_l_toGc N x0 = some r) {a0_3 : Option Addr} {n0_3 c0_3 : Nat} (hn0_3 : n0_3 = x0.grey.length) (hr0_3 : rdS (Bor w0 []) w0 a0_3 c0_3 x0.grey) :
    Ret Tryz.prog 137 #[.agg #[.int .i64 x0.phase, .int .i64 x0.pos, .int .i64 x0.round, .slice a0_3 n0_3 c0_3]] w0 (fun v w => ∃ ar0_3 cr0_3, v = .agg #[.int .i64 r.phase, .int .i64 r.pos, .int .i64 r.round, .slice ar0_3 r.grey.length cr0_3] ∧ St w0 [] w [sl ar0_3 cr0_3 r.grey]) := by
  subst hn0_3
  unfold F_l_toGc at h
  refine Ret.fn Tryz.func137 fun e => ?_
  have hS1 := St.start w0
  refine go ?_
  refine LW.bo hS1 fun g1 w2 hS2 => ?_
  refine LW.al hS2 fun g3 w4 hS3 => ?_
  refine go ?_
  refine LW.al hS3 fun g5 w6 hS4 => ?_
  refine go ?_
  refine LW.st hS4 0 fun w7 hS5 => ?_
  refine go ?_
  refine LW.st hS5 0 fun w8 hS6 => ?_
  refine go ?_
  refine LW.st hS6 0 fun w9 hS7 => ?_
  refine go ?_
  replace ⟨y10, hy10, h⟩ := obind h
  refine LW.cl (W_l_toIntS hy10 rfl (hS7.rB hr0_3)) ?_
  rintro _ w13 ⟨a11, c12, rfl, hs⟩
  have hS8 := hS7.add hs
  refine go ?_
  refine LW.st hS8 1 fun w14 hS9 => ?_
  refine go ?_
  refine LW.st hS9 2 fun w15 hS10 => ?_
  refine go ?_
  cases h
  exact And.intro trivial ⟨_, Res.one (resOne.b hS10 2 rfl ag60 rfl rfl), a11, c12, rfl, hS10.pick [0] rfl rfl⟩

theorem W_l_toTapS {w0 : World} {N : Nat} {x0 : List DTap} {r : (List DTap)} (h : F_l_toTapS N x0 = some r) {a0_0 : Option Addr} {n0_0 c0_0 : Nat} (hn0_0 : n0_0 = x0.length) (hr0_0 : rdS (Bor w0 []) w0 a0_0 c0_0 x0) :
    Ret Tryz.prog 66 #[.slice a0_0 n0_0 c0_0] w0 (fun v w => ∃ ar0 cr0, v = .slice ar0 r.length cr0 ∧ St w0 [] w [sl ar0 cr0 r]) := by
  subst hn0_0
  unfold F_l_toTapS at h
  refine Ret.fn Tryz.func66 fun e => ?_
  have hS1 := St.start w0
  refine go ?_
  replace ⟨y1, hy1, h⟩ := obind h
  refine LW.mk sT63 rfl rfl hy1 hS1 rfl ?_
  intro a2 c3 w4 hS2 hf
  refine go ?_
  obtain ⟨o26, ho26, h27⟩ := obind h
  refine CW.mono (CW.iter (σ := (List DTap) × Int) (ρ := (List DTap) × Int) (fun s5 e wb => En e [(0, .slice a0_0 x0.length c0_0), (3, .slice a2 s5.1.length c3), (4, .int .i64 s5.2)] ∧ St w0 [] wb [sl a2 c3 s5.1]) (fun s5 x e wb => x = .exit 0 ∧ En e [(3, .slice a2 s5.1.length c3)] ∧ St w0 [] wb [sl a2 c3 s5.1]) ?_ N (y1, 0) _ _ _ ⟨⟨rfl, rfl, rfl, trivial⟩, hS2.pick [0] rfl rfl⟩ ho26) ?_
  · intro s5 e w6 o hM h
    obtain ⟨hE, hS3⟩ := hM
    obtain ⟨e, rfl⟩ := hE.out
    refine go ?_
    refine CW.cond rfl (fun hc7 => ?_) (fun hc7 => ?_)
    · replace h := bcT h hc7
      refine go ?_
      replace ⟨y8, hy8, h⟩ := obind h
      obtain ⟨b11, o12, cs13, hae, hb16, hp9, hq10, hd14, hk15⟩ := hr0_0.idx hy8
      subst hae
      obtain rfl := hd14
      refine LW.u (Pur.ix Tryz.underlying51 sz159 rfl rfl hp9 hq10) rfl ?_
      refine LW.l (Ldr.oldN w0 ag159 rfl rfl (fun j u hu => hk15 j u hu)) (hS3.same _ hb16.1 hb16.2) rfl ?_
      replace ⟨y17, hy17, h⟩ := obind h
      refine LW.c0 (W_l_toTap hy17) hS3 fun w18 hS4 => ?_
      replace ⟨y19, hy19, h⟩ := obind h
      obtain ⟨b22, o23, hae, hp20, hq21⟩ := hS4.ownIdx (α := DTap) (i := 0) rfl hy19
      subst hae
      refine LW.u (Pur.ix Tryz.underlying63 sz131 rfl rfl hp20 hq21) rfl ?_
      replace ⟨y24, hy24, h⟩ := obind h
      refine LW.stE (M := []) (L := [sl (some ⟨b22, o23, none⟩) c3 s5.1]) (z := y19) (z' := y17) (o := 0) hS4 (i := 0) rfl hy19 ag131 rfl (by show _ = o23 + (s5.2 : Int).toNat * 6 + 0; omega) rfl rfl rfl rfl (whole (fun w G hG => by cases (show G = [] from hG); exact ⟨rfl, rfl⟩)) ?_
      intro w25 hS5 hf
      rw [Option.some.inj hy24] at hS5
      refine go ?_
      replace h := Option.some.inj h
      subst h
      exact ⟨rfl, ⟨⟨rfl, (show (.slice (some ⟨b22, o23, none⟩) s5.1.length c3 : Value) = .slice (some ⟨b22, o23, none⟩) y24.length c3 by rw [show s5.1.length = y24.length from (len_set (Option.some.inj hy24))]), rfl, trivial⟩, hS5.pick [0] rfl rfl⟩⟩
    replace h := bcF h hc7
    refine go ?_
    cases oi h
    exact ⟨trivial, rfl, ⟨⟨rfl, trivial⟩, hS3.pick [0] rfl rfl⟩⟩
  intro x e w28 hM
  obtain ⟨rfl, hM⟩ := hM
  obtain ⟨hE, hS6⟩ := hM
  obtain ⟨e, rfl⟩ := hE.out
  have h := h27
  refine go ?_
  cases h
  exact And.intro trivial ⟨_, Res.one (resOne.t rfl), a2, c3, rfl, hS6.pick [0] rfl rfl⟩

theorem W_s_LabelOk {w0 : World} {N : Nat} {x0 : DLabel} {r : Bool} (h : F_s_LabelOk N x0 = some r) {a0_0 : Option Addr} {n0_0 c0_0 : Nat} (hn0_0 : n0_0 = x0.levels.length) (hr0_0 : rdS (Bor w0 []) w0 a0_0 c0_0 x0.levels) :
    Ret Tryz.prog 126 #[.agg #[.slice a0_0 n0_0 c0_0]] w0 (fun v w => v = .bool r ∧ St w0 [] w []) := by
  subst hn0_0
  unfold F_s_LabelOk at h
  refine Ret.fn Tryz.func126 fun e => ?_
  have hS1 := St.start w0
  refine go ?_
  refine LW.bo hS1 fun g1 w2 hS2 => ?_
  refine go ?_
  refine CW.cond rfl (fun hc3 => ?_) (fun hc3 => ?_)
  · replace h := bcT h hc3
    refine go ?_
    cases h
    exact And.intro trivial ⟨_, Res.one (resOne.t rfl), rfl, hS2.pick [] rfl rfl⟩
  replace h := bcF h hc3
  refine go ?_
  obtain ⟨o19, ho19, h20⟩ := obind h
  refine CW.mono (CW.iter (σ := Int) (ρ := Int ⊕ Bool) (fun s4 e wb => En e [(1, .pointer (some ⟨g1, 0, none⟩)), (3, .int .i64 s4)] ∧ St w0 [] wb [bx g1 57 [.slice a0_0 x0.levels.length c0_0]]) (fun o x e wb => match o with | .inl s4 => x = .exit 0 ∧ En e [] ∧ St w0 [] wb [bx g1 57 [.slice a0_0 x0.levels.length c0_0]] | .inr r => x = .ret ∧ ∃ u, u = r ∧ ∃ v, Res Tryz.prog Tryz.f126.results e wb v ∧ v = .bool u ∧ St w0 [] wb []) ?_ N 0 _ _ _ ⟨⟨rfl, rfl, trivial⟩, hS2.pick [0] rfl rfl⟩ ho19) ?_
  · intro s4 e w5 o hM h
    obtain ⟨hE, hS3⟩ := hM
    obtain ⟨e, rfl⟩ := hE.out
    refine go ?_
    refine CW.cond rfl (fun hc6 => ?_) (fun hc6 => ?_)
    · replace h := bcT h hc6
      refine go ?_
      replace ⟨y7, hy7, h⟩ := obind h
      obtain ⟨b10, o11, cs12, hae, hb15, hp8, hq9, hd13, hk14⟩ := hr0_0.idx hy7
      subst hae
      obtain rfl := hd13
      refine LW.u (Pur.ix Tryz.underlying28 sz3 rfl rfl hp8 hq9) rfl ?_
      refine LW.l (Ldr.old w0 ag3 rfl (hk14 0 _ rfl)) (hS3.same _ hb15.1 hb15.2) rfl ?_
      replace ⟨y16, hy16, h⟩ := obind h
      refine LW.c0 (W_s_l1In hy16) hS3 fun w17 hS4 => ?_
      refine go ?_
      refine CW.fl [1, 3, 21] fun e => ?_
      refine CW.cond rfl (fun hc18 => ?_) (fun hc18 => ?_)
      · replace h := bcT h hc18
        refine go ?_
        cases oi h
        exact ⟨trivial, rfl, _, rfl, ⟨_, Res.one (resOne.t rfl), rfl, hS4.pick [] rfl rfl⟩⟩
      replace h := bcF h hc18
      refine go ?_
      cases oi h
      exact ⟨rfl, ⟨⟨rfl, rfl, trivial⟩, hS4.pick [0] rfl rfl⟩⟩
    replace h := bcF h hc6
    refine go ?_
    cases oi h
    exact ⟨trivial, rfl, ⟨trivial, hS3.pick [0] rfl rfl⟩⟩
  intro x e w21 hM
  rcases o19 with o19 | r22
  · obtain ⟨rfl, hM⟩ := hM
    obtain ⟨hE, hS5⟩ := hM
    obtain ⟨e, rfl⟩ := hE.out; rw [show e = upds e [] from rfl]
    have h := h20
    refine go ?_
    cases h
    exact And.intro trivial ⟨_, Res.one (resOne.t rfl), rfl, hS5.pick [] rfl rfl⟩
  obtain ⟨rfl, u, rfl, hM⟩ := hM
  cases h20
  exact And.intro trivial hM

theorem W_s_OwnOk {w0 : World} {N : Nat} {x0 : List Int} {r : Bool} (h : F_s_OwnOk N x0 = some r) {a0_0 : Option Addr} {n0_0 c0_0 : Nat} (hn0_0 : n0_0 = x0.length) (hr0_0 : rdS (Bor w0 []) w0 a0_0 c0_0 x0) :
    Ret Tryz.prog 127 #[.slice a0_0 n0_0 c0_0] w0 (fun v w => v = .bool r ∧ St w0 [] w []) := by
  subst hn0_0
  unfold F_s_OwnOk at h
  refine Ret.fn Tryz.func127 fun e => ?_
  have hS1 := St.start w0
  refine go ?_
  obtain ⟨o30, ho30, h31⟩ := obind h
  refine CW.mono (CW.iter (σ := Int) (ρ := Int ⊕ Bool) (fun s1 e wb => En e [(0, .slice a0_0 x0.length c0_0), (3, .int .i64 s1)] ∧ St w0 [] wb []) (fun o x e wb => match o with | .inl s1 => x = .exit 0 ∧ En e [] ∧ St w0 [] wb [] | .inr r => x = .ret ∧ ∃ u, u = r ∧ ∃ v, Res Tryz.prog Tryz.f127.results e wb v ∧ v = .bool u ∧ St w0 [] wb []) ?_ N 0 _ _ _ ⟨⟨rfl, rfl, trivial⟩, hS1.pick [] rfl rfl⟩ ho30) ?_
  · intro s1 e w2 o hM h
    obtain ⟨hE, hS2⟩ := hM
    obtain ⟨e, rfl⟩ := hE.out
    refine go ?_
    refine CW.cond rfl (fun hc3 => ?_) (fun hc3 => ?_)
    · replace h := bcT h hc3
      refine gs ?_
      refine CW.block ?_
      refine gs ?_
      obtain ⟨j4, hj4, h5⟩ := obind h
      refine CW.cut (fun e wb => En e [(0, .slice a0_0 x0.length c0_0), (3, .int .i64 s1), (31, .bool j4)] ∧ St w0 [] wb []) ?_ ?_
      · have h := hj4
        refine CW.draw (by kernel_rfl) ?_
        have hS3 := hS2.drew
        refine AW.u (i := 0) rfl (by kernel_rfl) rfl rfl (Pur.p rfl) ?_
        refine AW.u (i := 1) rfl (by kernel_rfl) rfl rfl (Pur.p rfl) ?_
        replace ⟨y6, hy6, h⟩ := obind h
        obtain ⟨b9, o10, cs11, hae, hb14, hp7, hq8, hd12, hk13⟩ := hr0_0.idx hy6
        subst hae
        obtain rfl := hd12
        refine AW.u (i := 2) rfl (by kernel_rfl) rfl rfl (Pur.ix Tryz.underlying28 sz3 rfl rfl hp7 hq8) ?_
        refine AW.take (i := 3) rfl (by kernel_rfl) rfl rfl (Ldr.old w0 ag3 rfl (hk13 0 _ rfl)) (hS3.same _ hb14.1 hb14.2) ?_
        replace ⟨y15, hy15, h⟩ := obind h
        have q := W_s_l1In (w0 := w2.drew) hy15
        refine AW.one (i := 4) (by kernel_rfl) ?_
        refine ⟨_, rfl, ?_⟩
        refine LW.call pl40 rfl rfl ?_
        refine Ret.mono q ?_
        rintro _ w16 ⟨rfl, hs⟩
        have hS4 := hS3.add hs
        refine LW.nil ⟨rfl, (.w (by kernel_rfl) Kept.n), ?_⟩
        refine AW.u (i := 5) rfl (by kernel_rfl) rfl rfl (Pur.p rfl) ?_
        refine AW.u (i := 6) rfl (by kernel_rfl) rfl rfl (Pur.p rfl) ?_
        rcases bcases (!y15) with hc17 | hc17
        · replace h := bcT h hc17
          refine AW.no (i := 7) rfl (by kernel_rfl) (want_not rfl rfl hc17) rfl ?_
          refine AW.no (i := 8) rfl (by kernel_rfl) (want_not rfl rfl hc17) rfl ?_
          refine AW.no (i := 9) rfl (by kernel_rfl) (want_not rfl rfl hc17) rfl ?_
          refine AW.no (i := 10) rfl (by kernel_rfl) (want_undef rfl rfl) rfl ?_
          refine AW.no (i := 11) rfl (by kernel_rfl) (want_undef rfl rfl) rfl ?_
          refine AW.no (i := 12) rfl (by kernel_rfl) (want_undef rfl rfl) rfl ?_
          refine AW.no (i := 13) rfl (by kernel_rfl) (want_undef rfl rfl) rfl ?_
          refine AW.no (i := 14) rfl (by kernel_rfl) (want_undef rfl rfl) rfl ?_
          refine AW.no (i := 15) rfl (by kernel_rfl) (want_undef rfl rfl) rfl ?_
          refine AW.no (i := 16) rfl (by kernel_rfl) (want_undef rfl rfl) rfl ?_
          refine AW.no (i := 17) rfl (by kernel_rfl) (want_undef rfl rfl) rfl ?_
          refine AW.no (i := 18) rfl (by kernel_rfl) (want_undef rfl rfl) rfl ?_
          refine AW.no (i := 19) rfl (by kernel_rfl) (want_undef rfl rfl) rfl ?_
          refine AW.no (i := 20) rfl (by kernel_rfl) (want_not rfl rfl hc17) rfl ?_
          refine AW.u (i := 21) rfl (by kernel_rfl) rfl rfl (Pur.pickT rfl hc17) ?_
          refine AW.done (by kernel_rfl) ?_
          cases oi h
          exact ⟨⟨rfl, rfl, rfl, trivial⟩, hS4.pick [] rfl rfl⟩
        replace h := bcF h hc17
        refine AW.u (i := 7) rfl (by kernel_rfl) (want_of rfl rfl hc17) rfl (Pur.p rfl) ?_
        refine AW.u (i := 8) rfl (by kernel_rfl) (want_of rfl rfl hc17) rfl (Pur.p rfl) ?_
        refine AW.u (i := 9) rfl (by kernel_rfl) (want_of rfl rfl hc17) rfl (Pur.p rfl) ?_
        rcases bcases (decide (s1 > 0)) with hc18 | hc18
        · replace h := bcT h hc18
          refine AW.u (i := 10) rfl (by kernel_rfl) (want_of rfl rfl hc18) rfl (Pur.p rfl) ?_
          refine AW.u (i := 11) rfl (by kernel_rfl) (want_of rfl rfl hc18) rfl (Pur.p rfl) ?_
          refine AW.u (i := 12) rfl (by kernel_rfl) (want_of rfl rfl hc18) rfl (Pur.ix Tryz.underlying28 sz3 rfl rfl hp7 hq8) ?_
          refine AW.take (i := 13) rfl (by kernel_rfl) (want_of rfl rfl hc18) rfl (Ldr.old w0 ag3 rfl (hk13 0 _ rfl)) (hS4.same _ hb14.1 hb14.2) ?_
          refine AW.u (i := 14) rfl (by kernel_rfl) (want_of rfl rfl hc18) rfl (Pur.p rfl) ?_
          refine AW.u (i := 15) rfl (by kernel_rfl) (want_of rfl rfl hc18) rfl (Pur.p rfl) ?_
          refine AW.u (i := 16) rfl (by kernel_rfl) (want_of rfl rfl hc18) rfl (Pur.p rfl) ?_
          replace ⟨y19, hy19, h⟩ := obind h
          obtain ⟨b22, o23, cs24, hae, hb27, hp20, hq21, hd25, hk26⟩ := hr0_0.idx hy19
          cases hae
          obtain rfl := hd25
          refine AW.u (i := 17) rfl (by kernel_rfl) (want_of rfl rfl hc18) rfl (Pur.ix Tryz.underlying28 sz3 rfl rfl hp20 hq21) ?_
          refine AW.take (i := 18) rfl (by kernel_rfl) (want_of rfl rfl hc18) rfl (Ldr.old w0 ag3 rfl (hk26 0 _ rfl)) (hS4.same _ hb27.1 hb27.2) ?_
          refine AW.u (i := 19) rfl (by kernel_rfl) (want_of rfl rfl hc18) rfl (Pur.p rfl) ?_
          refine AW.u (i := 20) rfl (by kernel_rfl) (want_of rfl rfl hc17) rfl (Pur.pickT rfl hc18) ?_
          refine AW.u (i := 21) rfl (by kernel_rfl) rfl rfl (Pur.pickF rfl hc17) ?_
          refine AW.done (by kernel_rfl) ?_
          cases oi h
          exact ⟨⟨rfl, rfl, rfl, trivial⟩, hS4.pick [] rfl rfl⟩
        replace h := bcF h hc18
        refine AW.no (i := 10) rfl (by kernel_rfl) (want_not rfl rfl hc18) rfl ?_
        refine AW.no (i := 11) rfl (by kernel_rfl) (want_not rfl rfl hc18) rfl ?_
        refine AW.no (i := 12) rfl (by kernel_rfl) (want_not rfl rfl hc18) rfl ?_
        refine AW.no (i := 13) rfl (by kernel_rfl) (want_not rfl rfl hc18) rfl ?_
        refine AW.no (i := 14) rfl (by kernel_rfl) (want_not rfl rfl hc18) rfl ?_
        refine AW.no (i := 15) rfl (by kernel_rfl) (want_not rfl rfl hc18) rfl ?_
        refine AW.no (i := 16) rfl (by kernel_rfl) (want_not rfl rfl hc18) rfl ?_
        refine AW.no (i := 17) rfl (by kernel_rfl) (want_not rfl rfl hc18) rfl ?_
        refine AW.no (i := 18) rfl (by kernel_rfl) (want_not rfl rfl hc18) rfl ?_
        refine AW.no (i := 19) rfl (by kernel_rfl) (want_not rfl rfl hc18) rfl ?_
        refine AW.u (i := 20) rfl (by kernel_rfl) (want_of rfl rfl hc17) rfl (Pur.pickF rfl hc18) ?_
        refine AW.u (i := 21) rfl (by kernel_rfl) rfl rfl (Pur.pickF rfl hc17) ?_
        refine AW.done (by kernel_rfl) ?_
        cases oi h
        exact ⟨⟨rfl, rfl, rfl, trivial⟩, hS4.pick [] rfl rfl⟩
      rintro e w28 ⟨hE, hS5⟩
      obtain ⟨e, rfl⟩ := hE.out
      have h := h5
      refine go ?_
      refine CW.cond rfl (fun hc29 => ?_) (fun hc29 => ?_)
      · replace h := bcT h hc29
        refine go ?_
        cases oi h
        exact ⟨trivial, rfl, _, rfl, ⟨_, Res.one (resOne.t rfl), rfl, hS5.pick [] rfl rfl⟩⟩
      replace h := bcF h hc29
      refine go ?_
      cases oi h
      exact ⟨rfl, ⟨⟨rfl, rfl, trivial⟩, hS5.pick [] rfl rfl⟩⟩
    replace h := bcF h hc3
    refine go ?_
    cases oi h
    exact ⟨trivial, rfl, ⟨trivial, hS2.pick [] rfl rfl⟩⟩
  intro x e w32 hM
  rcases o30 with o30 | r33
  · obtain ⟨rfl, hM⟩ := hM
    obtain ⟨hE, hS6⟩ := hM
    obtain ⟨e, rfl⟩ := hE.out; rw [show e = upds e [] from rfl]
    have h := h31
    refine go ?_
    cases h
    exact And.intro trivial ⟨_, Res.one (resOne.t rfl), rfl, hS6.pick [] rfl rfl⟩
  obtain ⟨rfl, u, rfl, hM⟩ := hM
  cases h31
  exact And.intro trivial hM

theorem W_s_l5In {w0 : World} {N : Nat} {x0 : Int} {r : Bool} (h : F_s_l5In N x0 = some r) :
    Ret Tryz.prog 181 #[.int .i64 x0] w0 (fun v w => v = .bool r ∧ St w0 [] w []) := by
  unfold F_s_l5In at h
  refine Ret.fn Tryz.func181 fun e => ?_
  have hS1 := St.start w0
  refine go ?_
  replace ⟨y1, hy1, h⟩ := obind h
  refine LW.c0 (W_s_l1In hy1) hS1 fun w2 hS2 => ?_
  refine go ?_
  cases h
  exact And.intro trivial ⟨_, Res.one (resOne.t rfl), rfl, hS2.pick [] rfl rfl⟩

theorem W_s_l6Res {w0 : World} {N : Nat} {x0 : Int} {r : Bool} (h : F_s_l6Res N x0 = some r) :
    Ret Tryz.prog 192 #[.int .i64 x0] w0 (fun v w => v = .bool r ∧ St w0 [] w []) := by
  unfold F_s_l6Res at h
  refine Ret.fn Tryz.func192 fun e => ?_
  have hS1 := St.start w0
  refine go ?_
  replace ⟨y1, hy1, h⟩ := obind h
  refine LW.c0 (W_s_l1In hy1) hS1 fun w2 hS2 => ?_
  refine go ?_
  cases h
  exact And.intro trivial ⟨_, Res.one (resOne.t rfl), rfl, hS2.pick [] rfl rfl⟩

theorem W_s_l8Handle {w0 : World} {N : Nat} {x0 : Int} {r : Bool} (h : F_s_l8Handle N x0 = some r) :
    Ret Tryz.prog 132 #[.int .i64 x0] w0 (fun v w => v = .bool r ∧ St w0 [] w []) := by
  unfold F_s_l8Handle at h
  refine Ret.fn Tryz.func132 fun e => ?_
  have hS1 := St.start w0
  refine go ?_
  replace ⟨y1, hy1, h⟩ := obind h
  refine LW.c0 (W_s_l1In hy1) hS1 fun w2 hS2 => ?_
  refine go ?_
  cases h
  exact And.intro trivial ⟨_, Res.one (resOne.t rfl), rfl, hS2.pick [] rfl rfl⟩

theorem W_s_l8Slot {w0 : World} {N : Nat} {x0 : Int} {r : Bool} (h : F_s_l8Slot N x0 = some r) :
    Ret Tryz.prog 120 #[.int .i64 x0] w0 (fun v w => v = .bool r ∧ St w0 [] w []) := by
  unfold F_s_l8Slot at h
  refine Ret.fn Tryz.func120 fun e => ?_
  have hS1 := St.start w0
  refine go ?_
  replace ⟨y1, hy1, h⟩ := obind h
  refine LW.c0 (W_s_l1In hy1) hS1 fun w2 hS2 => ?_
  refine go ?_
  cases h
  exact And.intro trivial ⟨_, Res.one (resOne.t rfl), rfl, hS2.pick [] rfl rfl⟩

theorem W_i_isTime {w0 : World} {N : Nat} {x0 : Int} {r : Bool} (h : F_i_isTime N x0 = some r) :
    Ret Tryz.prog 112 #[.int .i64 x0] w0 (fun v w => v = .bool r ∧ St w0 [] w []) := by
  unfold F_i_isTime at h
  refine Ret.fn Tryz.func112 fun e => ?_
  have hS1 := St.start w0
  refine go ?_
  replace ⟨y1, hy1, h⟩ := obind h
  refine LW.c0 (W_i_within hy1) hS1 fun w2 hS2 => ?_
  refine go ?_
  cases h
  exact And.intro trivial ⟨_, Res.one (resOne.t rfl), rfl, hS2.pick [] rfl rfl⟩

theorem W_i_isPlace {w0 : World} {N : Nat} {x0 : Int} {r : Bool} (h : F_i_isPlace N x0 = some r) :
    Ret Tryz.prog 196 #[.int .i64 x0] w0 (fun v w => v = .bool r ∧ St w0 [] w []) := by
  unfold F_i_isPlace at h
  refine Ret.fn Tryz.func196 fun e => ?_
  have hS1 := St.start w0
  refine go ?_
  replace ⟨y1, hy1, h⟩ := obind h
  refine LW.c0 (W_i_within hy1) hS1 fun w2 hS2 => ?_
  refine go ?_
  cases h
  exact And.intro trivial ⟨_, Res.one (resOne.t rfl), rfl, hS2.pick [] rfl rfl⟩

theorem W_i_isPart {w0 : World} {N : Nat} {x0 : Int} {r : Bool} (h : F_i_isPart N x0 = some r) :
    Ret Tryz.prog 70 #[.int .i64 x0] w0 (fun v w => v = .bool r ∧ St w0 [] w []) := by
  unfold F_i_isPart at h
  refine Ret.fn Tryz.func70 fun e => ?_
  have hS1 := St.start w0
  refine go ?_
  replace ⟨y1, hy1, h⟩ := obind h
  refine LW.c0 (W_i_within hy1) hS1 fun w2 hS2 => ?_
  refine go ?_
  cases h
  exact And.intro trivial ⟨_, Res.one (resOne.t rfl), rfl, hS2.pick [] rfl rfl⟩

theorem W_i_LabelOk {w0 : World} {N : Nat} {x0 : DLabel} {r : Bool} (h : F_i_LabelOk N x0 = some r) {a0_0 : Option Addr} {n0_0 c0_0 : Nat} (hn0_0 : n0_0 = x0.levels.length) (hr0_0 : rdS (Bor w0 []) w0 a0_0 c0_0 x0.levels) :
    Ret Tryz.prog 144 #[.agg #[.slice a0_0 n0_0 c0_0]] w0 (fun v w => v = .bool r ∧ St w0 [] w []) := by
  subst hn0_0
  unfold F_i_LabelOk at h
  refine Ret.fn Tryz.func144 fun e => ?_
  have hS1 := St.start w0
  refine go ?_
  refine LW.bo hS1 fun g1 w2 hS2 => ?_
  refine go ?_
  obtain ⟨o18, ho18, h19⟩ := obind h
  refine CW.mono (CW.iter (σ := Int) (ρ := Int ⊕ Bool) (fun s3 e wb => En e [(1, .pointer (some ⟨g1, 0, none⟩)), (6, .slice a0_0 x0.levels.length c0_0), (7, .int .i64 (x0.levels.length : Int)), (8, .int .i64 s3)] ∧ St w0 [] wb [bx g1 57 [.slice a0_0 x0.levels.length c0_0]]) (fun o x e wb => match o with | .inl s3 => x = .exit 0 ∧ En e [(1, .pointer (some ⟨g1, 0, none⟩))] ∧ St w0 [] wb [bx g1 57 [.slice a0_0 x0.levels.length c0_0]] | .inr r => x = .ret ∧ ∃ u, u = r ∧ ∃ v, Res Tryz.prog Tryz.f144.results e wb v ∧ v = .bool u ∧ St w0 [] wb []) ?_ N 0 _ _ _ ⟨⟨rfl, rfl, rfl, rfl, trivial⟩, hS2.pick [0] rfl rfl⟩ ho18) ?_
  · intro s3 e w4 o hM h
    obtain ⟨hE, hS3⟩ := hM
    obtain ⟨e, rfl⟩ := hE.out
    refine go ?_
    refine CW.cond rfl (fun hc5 => ?_) (fun hc5 => ?_)
    · replace h := bcT h hc5
      refine go ?_
      replace ⟨y6, hy6, h⟩ := obind h
      obtain ⟨b9, o10, cs11, hae, hb14, hp7, hq8, hd12, hk13⟩ := hr0_0.idx hy6
      subst hae
      obtain rfl := hd12
      refine LW.u (Pur.ix Tryz.underlying28 sz3 rfl rfl hp7 hq8) rfl ?_
      refine LW.l (Ldr.old w0 ag3 rfl (hk13 0 _ rfl)) (hS3.same _ hb14.1 hb14.2) rfl ?_
      refine go ?_
      replace ⟨y15, hy15, h⟩ := obind h
      refine LW.c0 (W_i_within hy15) hS3 fun w16 hS4 => ?_
      refine go ?_
      refine CW.fl [1, 6, 7, 8, 14] fun e => ?_
      refine CW.cond rfl (fun hc17 => ?_) (fun hc17 => ?_)
      · replace h := bcT h hc17
        refine go ?_
        cases oi h
        exact ⟨trivial, rfl, _, rfl, ⟨_, Res.one (resOne.t rfl), rfl, hS4.pick [] rfl rfl⟩⟩
      replace h := bcF h hc17
      refine go ?_
      cases oi h
      exact ⟨rfl, ⟨⟨rfl, rfl, rfl, rfl, trivial⟩, hS4.pick [0] rfl rfl⟩⟩
    replace h := bcF h hc5
    refine go ?_
    cases oi h
    exact ⟨trivial, rfl, ⟨⟨rfl, trivial⟩, hS3.pick [0] rfl rfl⟩⟩
  intro x e w20 hM
  rcases o18 with o18 | r21
  · obtain ⟨rfl, hM⟩ := hM
    obtain ⟨hE, hS5⟩ := hM
    obtain ⟨e, rfl⟩ := hE.out
    have h := h19
    refine go ?_
    cases h
    exact And.intro trivial ⟨_, Res.one (resOne.t rfl), rfl, hS5.pick [] rfl rfl⟩
  obtain ⟨rfl, u, rfl, hM⟩ := hM
  cases h19
  exact And.intro trivial hM

theorem W_i_OwnOk {w0 : World} {N : Nat} {x0 : List Int} {r : Bool} (h : F_i_OwnOk N x0 = some r) {a0_0 : Option Addr} {n0_0 c0_0 : Nat} (hn0_0 : n0_0 = x0.length) (hr0_0 : rdS (Bor w0 []) w0 a0_0 c0_0 x0) :
    Ret Tryz.prog 145 #[.slice a0_0 n0_0 c0_0] w0 (fun v w => v = .bool r ∧ St w0 [] w []) := by
  subst hn0_0
  unfold F_i_OwnOk at h
  refine Ret.fn Tryz.func145 fun e => ?_
  have hS1 := St.start w0
  refine go ?_
  obtain ⟨o30, ho30, h31⟩ := obind h
  refine CW.mono (CW.iter (σ := Int) (ρ := Int ⊕ Bool) (fun s1 e wb => En e [(0, .slice a0_0 x0.length c0_0), (5, .slice a0_0 x0.length c0_0), (6, .int .i64 (x0.length : Int)), (7, .int .i64 s1)] ∧ St w0 [] wb []) (fun o x e wb => match o with | .inl s1 => x = .exit 0 ∧ En e [] ∧ St w0 [] wb [] | .inr r => x = .ret ∧ ∃ u, u = r ∧ ∃ v, Res Tryz.prog Tryz.f145.results e wb v ∧ v = .bool u ∧ St w0 [] wb []) ?_ N 0 _ _ _ ⟨⟨rfl, rfl, rfl, rfl, trivial⟩, hS1.pick [] rfl rfl⟩ ho30) ?_
  · intro s1 e w2 o hM h
    obtain ⟨hE, hS2⟩ := hM
    obtain ⟨e, rfl⟩ := hE.out
    refine go ?_
    refine CW.cond rfl (fun hc3 => ?_) (fun hc3 => ?_)
    · replace h := bcT h hc3
      refine go ?_
      replace ⟨y4, hy4, h⟩ := obind h
      obtain ⟨b7, o8, cs9, hae, hb12, hp5, hq6, hd10, hk11⟩ := hr0_0.idx hy4
      subst hae
      obtain rfl := hd10
      refine LW.u (Pur.ix Tryz.underlying28 sz3 rfl rfl hp5 hq6) rfl ?_
      refine LW.l (Ldr.old w0 ag3 rfl (hk11 0 _ rfl)) (hS2.same _ hb12.1 hb12.2) rfl ?_
      refine gs ?_
      obtain ⟨j13, hj13, h14⟩ := obind h
      refine CW.cut (fun e wb => En e [(0, .slice (some ⟨b7, o8, none⟩) x0.length c0_0), (5, .slice (some ⟨b7, o8, none⟩) x0.length c0_0), (6, .int .i64 (x0.length : Int)), (7, .int .i64 s1), (27, .bool j13)] ∧ St w0 [] wb []) ?_ ?_
      · have h := hj13
        refine go ?_
        replace ⟨y15, hy15, h⟩ := obind h
        refine LW.c0 (W_i_within hy15) hS2 fun w16 hS3 => ?_
        refine go ?_
        rcases bcases (!y15) with hc17 | hc17
        · replace h := bcT h hc17
          refine go ?_
          cases oi h
          exact ⟨⟨rfl, rfl, rfl, rfl, rfl, trivial⟩, hS3.pick [] rfl rfl⟩
        replace h := bcF h hc17
        refine go ?_
        rcases bcases (decide (s1 > 0)) with hc18 | hc18
        · replace h := bcT h hc18
          refine go ?_
          replace ⟨y19, hy19, h⟩ := obind h
          obtain ⟨b22, o23, cs24, hae, hb27, hp20, hq21, hd25, hk26⟩ := hr0_0.idx hy19
          cases hae
          obtain rfl := hd25
          refine go ?_
          refine LW.u (Pur.ix Tryz.underlying28 sz3 rfl rfl hp20 hq21) rfl ?_
          refine LW.fl [0, 4, 5, 6, 7, 15, 18, 22] fun e => ?_
          refine go ?_
          refine LW.l (Ldr.old w0 ag3 rfl (hk26 0 _ rfl)) (hS3.same _ hb27.1 hb27.2) rfl ?_
          refine go ?_
          cases oi h
          exact ⟨⟨rfl, rfl, rfl, rfl, rfl, trivial⟩, hS3.pick [] rfl rfl⟩
        replace h := bcF h hc18
        refine go ?_
        cases oi h
        exact ⟨⟨rfl, rfl, rfl, rfl, rfl, trivial⟩, hS3.pick [] rfl rfl⟩
      rintro e w28 ⟨hE, hS4⟩
      obtain ⟨e, rfl⟩ := hE.out
      have h := h14
      refine go ?_
      refine CW.cond rfl (fun hc29 => ?_) (fun hc29 => ?_)
      · replace h := bcT h hc29
        refine go ?_
        cases oi h
        exact ⟨trivial, rfl, _, rfl, ⟨_, Res.one (resOne.t rfl), rfl, hS4.pick [] rfl rfl⟩⟩
      replace h := bcF h hc29
      refine go ?_
      cases oi h
      exact ⟨rfl, ⟨⟨rfl, rfl, rfl, rfl, trivial⟩, hS4.pick [] rfl rfl⟩⟩
    replace h := bcF h hc3
    refine go ?_
    cases oi h
    exact ⟨trivial, rfl, ⟨trivial, hS2.pick [] rfl rfl⟩⟩
  intro x e w32 hM
  rcases o30 with o30 | r33
  · obtain ⟨rfl, hM⟩ := hM
    obtain ⟨hE, hS5⟩ := hM
    obtain ⟨e, rfl⟩ := hE.out; rw [show e = upds e [] from rfl]
    have h := h31
    refine go ?_
    cases h
    exact And.intro trivial ⟨_, Res.one (resOne.t rfl), rfl, hS5.pick [] rfl rfl⟩
  obtain ⟨rfl, u, rfl, hM⟩ := hM
  cases h31
  exact And.intro trivial hM

theorem W_i_isAmount {w0 : World} {N : Nat} {x0 : Int} {r : Bool} (h : F_i_isAmount N x0 = some r) :
    Ret Tryz.prog 185 #[.int .i64 x0] w0 (fun v w => v = .bool r ∧ St w0 [] w []) := by
  unfold F_i_isAmount at h
  refine Ret.fn Tryz.func185 fun e => ?_
  have hS1 := St.start w0
  refine go ?_
  replace ⟨y1, hy1, h⟩ := obind h
  refine LW.c0 (W_i_within hy1) hS1 fun w2 hS2 => ?_
  refine go ?_
  cases h
  exact And.intro trivial ⟨_, Res.one (resOne.t rfl), rfl, hS2.pick [] rfl rfl⟩

theorem W_i_isSlot {w0 : World} {N : Nat} {x0 : Int} {r : Bool} (h : F_i_isSlot N x0 = some r) :
    Ret Tryz.prog 122 #[.int .i64 x0] w0 (fun v w => v = .bool r ∧ St w0 [] w []) := by
  unfold F_i_isSlot at h
  refine Ret.fn Tryz.func122 fun e => ?_
  have hS1 := St.start w0
  refine go ?_
  replace ⟨y1, hy1, h⟩ := obind h
  refine LW.c0 (W_i_within hy1) hS1 fun w2 hS2 => ?_
  refine go ?_
  cases h
  exact And.intro trivial ⟨_, Res.one (resOne.t rfl), rfl, hS2.pick [] rfl rfl⟩

theorem W_z_Contains_int {w0 : World} {N : Nat} {x0 : List Int} {x1 : Int} {r : Bool} (h : F_z_Contains_int N x0 x1 = some r) {a0_0 : Option Addr} {n0_0 c0_0 : Nat} (hn0_0 : n0_0 = x0.length) (hr0_0 : rdS (Bor w0 []) w0 a0_0 c0_0 x0) :
    Ret Tryz.prog 186 #[.slice a0_0 n0_0 c0_0, .int .i64 x1] w0 (fun v w => v = .bool r ∧ St w0 [] w []) := by
  subst hn0_0
  unfold F_z_Contains_int at h
  refine Ret.fn Tryz.func186 fun e => ?_
  have hS1 := St.start w0
  refine go ?_
  replace ⟨y1, hy1, h⟩ := obind h
  refine LW.c0 (W_z_Index_int hy1 rfl (hS1.rB hr0_0)) hS1 fun w2 hS2 => ?_
  refine go ?_
  cases h
  exact And.intro trivial ⟨_, Res.one (resOne.t rfl), rfl, hS2.pick [] rfl rfl⟩

theorem W_i_sameObj {w0 : World} {N : Nat} {x0 : DObj} {x1 : DObj} {r : Bool} (h : F_i_sameObj N x0 x1 = some r) {a0_10 : Option Addr} {n0_10 c0_10 : Nat} (hn0_10 : n0_10 = x0.links.length) (hr0_10 : rdS (Bor w0 []) w0 a0_10 c0_10 x0.links) {a0_11 : Option Addr} {n0_11 c0_11 : Nat} (hn0_11 : n0_11 = x0.data.length) (hr0_11 : rdS (Bor w0 []) w0 a0_11 c0_11 x0.data) {a0_12 : Option Addr} {n0_12 c0_12 : Nat} (hn0_12 : n0_12 = x0.queue.length) (hr0_12 : rdS (Bor w0 []) w0 a0_12 c0_12 x0.queue) {a1_10 : Option Addr} {n1_10 c1_10 : Nat} (hn1_10 : n1_10 = x1.links.length) (hr1_10 : rdS (Bor w0 []) w0 a1_10 c1_10 x1.links) {a1_11 : Option Addr} {n1_11 c1_11 : Nat} (hn1_11 : n1_11 = x1.data.length) (hr1_11 : rdS (Bor w0 []) w0 a1_11 c1_11 x1.data) {a1_12 : Option Addr} {n1_12 c1_12 : Nat} (hn1_12 : n1_12 = x1.queue.length) (hr1_12 : rdS (Bor w0 []) w0 a1_12 c1_12 x1.queue) :
    Ret Tryz.prog 216 #[.agg #[.int .i64 x0.gen, .int .i64 x0.kind, .int .i64 x0.box, .int .i64 x0.res, .int .i64 x0.til, .int .i64 x0.pages, .int .i64 x0.wait, .int .i64 x0.got, .int .i64 x0.ran, .bool x0.mark, .slice a0_10 n0_10 c0_10, .slice a0_11 n0_11 c0_11, .slice a0_12 n0_12 c0_12], .agg #[.int .i64 x1.gen, .int .i64 x1.kind, .int .i64 x1.box, .int .i64 x1.res, .int .i64 x1.til, .int .i64 x1.pages, .int .i64 x1.wait, .int .i64 x1.got, .int .i64 x1.ran, .bool x1.mark, .slice a1_10 n1_10 c1_10, .slice a1_11 n1_11 c1_11, .slice a1_12 n1_12 c1_12]] w0 (fun v w => v = .bool r ∧ St w0 [] w []) := by
  subst hn0_10 hn0_11 hn0_12 hn1_10 hn1_11 hn1_12
  unfold F_i_sameObj at h
  refine Ret.fn Tryz.func216 fun e => ?_
  have hS1 := St.start w0
  refine go ?_
  refine LW.bo hS1 fun g1 w2 hS2 => ?_
  refine LW.bo hS2 fun g3 w4 hS3 => ?_
  refine go ?_
  rcases bcases (x0.gen == x1.gen) with hc5 | hc5
  · replace h := bcT h hc5
    refine go ?_
    rcases bcases (x0.kind == x1.kind) with hc6 | hc6
    · replace h := bcT h hc6
      refine go ?_
      refine LW.fl [2, 3, 24] fun e => ?_
      rcases bcases (x0.box == x1.box) with hc7 | hc7
      · replace h := bcT h hc7
        refine go ?_
        rcases bcases (x0.res == x1.res) with hc8 | hc8
        · replace h := bcT h hc8
          refine go ?_
          rcases bcases (x0.til == x1.til) with hc9 | hc9
          · replace h := bcT h hc9
            refine go ?_
            rcases bcases (x0.pages == x1.pages) with hc10 | hc10
            · replace h := bcT h hc10
              refine go ?_
              refine LW.fl [2, 3, 52] fun e => ?_
              rcases bcases (x0.wait == x1.wait) with hc11 | hc11
              · replace h := bcT h hc11
                refine go ?_
                rcases bcases (x0.got == x1.got) with hc12 | hc12
                · replace h := bcT h hc12
                  refine go ?_
                  rcases bcases (x0.ran == x1.ran) with hc13 | hc13
                  · replace h := bcT h hc13
                    refine go ?_
                    refine LW.u (Pur.beq Tryz.underlying4 rfl rfl) rfl ?_
                    refine go ?_
                    rcases bcases (x0.mark == x1.mark) with hc14 | hc14
                    · replace h := bcT h hc14
                      refine go ?_
                      refine LW.fl [2, 3, 73, 75, 77] fun e => ?_
                      replace ⟨y15, hy15, h⟩ := obind h
                      refine go ?_
                      refine LW.c0 (W_z_Equal_int hy15 rfl (hS3.rB hr0_10) rfl (hS3.rB hr1_10)) hS3 fun w16 hS4 => ?_
                      refine go ?_
                      rcases bcases y15 with hc17 | hc17
                      · replace h := bcT h hc17
                        refine go ?_
                        replace ⟨y18, hy18, h⟩ := obind h
                        refine go ?_
                        refine LW.c0 (W_z_Equal_int hy18 rfl (hS4.rB hr0_11) rfl (hS4.rB hr1_11)) hS4 fun w19 hS5 => ?_
                        refine go ?_
                        rcases bcases y18 with hc20 | hc20
                        · replace h := bcT h hc20
                          refine go ?_
                          replace ⟨y21, hy21, h⟩ := obind h
                          refine go ?_
                          refine LW.c0 (W_z_Equal_Msg hy21 rfl (hS5.rB hr0_12) rfl (hS5.rB hr1_12)) hS5 fun w22 hS6 => ?_
                          refine go ?_
                          cases h
                          exact And.intro trivial ⟨_, Res.one (resOne.t rfl), rfl, hS6.pick [] rfl rfl⟩
                        replace h := bcF h hc20
                        refine go ?_
                        cases h
                        exact And.intro trivial ⟨_, Res.one (resOne.t rfl), rfl, hS5.pick [] rfl rfl⟩
                      replace h := bcF h hc17
                      refine go ?_
                      cases h
                      exact And.intro trivial ⟨_, Res.one (resOne.t rfl), rfl, hS4.pick [] rfl rfl⟩
                    replace h := bcF h hc14
                    refine go ?_
                    cases h
                    exact And.intro trivial ⟨_, Res.one (resOne.t rfl), rfl, hS3.pick [] rfl rfl⟩
                  replace h := bcF h hc13
                  refine go ?_
                  cases h
                  exact And.intro trivial ⟨_, Res.one (resOne.t rfl), rfl, hS3.pick [] rfl rfl⟩
                replace h := bcF h hc12
                refine go ?_
                cases h
                exact And.intro trivial ⟨_, Res.one (resOne.t rfl), rfl, hS3.pick [] rfl rfl⟩
              replace h := bcF h hc11
              refine go ?_
              cases h
              exact And.intro trivial ⟨_, Res.one (resOne.t rfl), rfl, hS3.pick [] rfl rfl⟩
            replace h := bcF h hc10
            refine go ?_
            cases h
            exact And.intro trivial ⟨_, Res.one (resOne.t rfl), rfl, hS3.pick [] rfl rfl⟩
          replace h := bcF h hc9
          refine go ?_
          cases h
          exact And.intro trivial ⟨_, Res.one (resOne.t rfl), rfl, hS3.pick [] rfl rfl⟩
        replace h := bcF h hc8
        refine go ?_
        cases h
        exact And.intro trivial ⟨_, Res.one (resOne.t rfl), rfl, hS3.pick [] rfl rfl⟩
      replace h := bcF h hc7
      refine go ?_
      cases h
      exact And.intro trivial ⟨_, Res.one (resOne.t rfl), rfl, hS3.pick [] rfl rfl⟩
    replace h := bcF h hc6
    refine go ?_
    cases h
    exact And.intro trivial ⟨_, Res.one (resOne.t rfl), rfl, hS3.pick [] rfl rfl⟩
  replace h := bcF h hc5
  refine go ?_
  cases h
  exact And.intro trivial ⟨_, Res.one (resOne.t rfl), rfl, hS3.pick [] rfl rfl⟩

theorem W_i_isHandle {w0 : World} {N : Nat} {x0 : Int} {r : Bool} (h : F_i_isHandle N x0 = some r) :
    Ret Tryz.prog 148 #[.int .i64 x0] w0 (fun v w => v = .bool r ∧ St w0 [] w []) := by
  unfold F_i_isHandle at h
  refine Ret.fn Tryz.func148 fun e => ?_
  have hS1 := St.start w0
  refine go ?_
  replace ⟨y1, hy1, h⟩ := obind h
  refine LW.c0 (W_i_within hy1) hS1 fun w2 hS2 => ?_
  refine go ?_
  cases h
  exact And.intro trivial ⟨_, Res.one (resOne.t rfl), rfl, hS2.pick [] rfl rfl⟩

theorem W_l_eqLabel {w0 : World} {N : Nat} {x0 : DLabel} {x1 : DLabel} {r : Bool} (h : F_l_eqLabel N x0 x1 = some r) {a0_0 : Option Addr} {n0_0 c0_0 : Nat} (hn0_0 : n0_0 = x0.levels.length) (hr0_0 : rdS (Bor w0 []) w0 a0_0 c0_0 x0.levels) {a1_0 : Option Addr} {n1_0 c1_0 : Nat} (hn1_0 : n1_0 = x1.levels.length) (hr1_0 : rdS (Bor w0 []) w0 a1_0 c1_0 x1.levels) :
    Ret Tryz.prog 72 #[.agg #[.slice a0_0 n0_0 c0_0], .agg #[.slice a1_0 n1_0 c1_0]] w0 (fun v w => v = .bool r ∧ St w0 [] w []) := by
  subst hn0_0 hn1_0
  unfold F_l_eqLabel at h
  refine Ret.fn Tryz.func72 fun e => ?_
  have hS1 := St.start w0
  refine go ?_
  refine LW.bo hS1 fun g1 w2 hS2 => ?_
  refine LW.bo hS2 fun g3 w4 hS3 => ?_
  refine go ?_
  replace ⟨y5, hy5, h⟩ := obind h
  refine LW.c0 (W_l_eqIntS hy5 rfl (hS3.rB hr0_0) rfl (hS3.rB hr1_0)) hS3 fun w6 hS4 => ?_
  refine go ?_
  refine CW.cond rfl (fun hc7 => ?_) (fun hc7 => ?_)
  · replace h := bcT h hc7
    refine go ?_
    cases h
    exact And.intro trivial ⟨_, Res.one (resOne.t rfl), rfl, hS4.pick [] rfl rfl⟩
  replace h := bcF h hc7
  refine go ?_
  cases h
  exact And.intro trivial ⟨_, Res.one (resOne.t rfl), rfl, hS4.pick [] rfl rfl⟩

theorem W_l_eqRes {w0 : World} {N : Nat} {x0 : DRes} {x1 : DRes} {r : Bool} (h : F_l_eqRes N x0 x1 = some r) :
    Ret Tryz.prog 151 #[.agg #[.bool x0.live, .int .i64 x0.parent, .int .i64 x0.bal.pages, .int .i64 x0.bal.rent, .int .i64 x0.bal.cpu], .agg #[.bool x1.live, .int .i64 x1.parent, .int .i64 x1.bal.pages, .int .i64 x1.bal.rent, .int .i64 x1.bal.cpu]] w0 (fun v w => v = .bool r ∧ St w0 [] w []) := by
  unfold F_l_eqRes at h
  refine Ret.fn Tryz.func151 fun e => ?_
  have hS1 := St.start w0
  refine go ?_
  refine LW.bo hS1 fun g1 w2 hS2 => ?_
  refine LW.bo hS2 fun g3 w4 hS3 => ?_
  refine go ?_
  refine LW.u (Pur.bne Tryz.underlying4 rfl rfl) rfl ?_
  refine go ?_
  refine CW.cond rfl (fun hc5 => ?_) (fun hc5 => ?_)
  · replace h := bcT h hc5
    refine go ?_
    cases h
    exact And.intro trivial ⟨_, Res.one (resOne.t rfl), rfl, hS3.pick [] rfl rfl⟩
  replace h := bcF h hc5
  refine go ?_
  refine CW.fl [2, 3, 14] fun e => ?_
  refine CW.cond rfl (fun hc6 => ?_) (fun hc6 => ?_)
  · replace h := bcT h hc6
    refine go ?_
    cases h
    exact And.intro trivial ⟨_, Res.one (resOne.t rfl), rfl, hS3.pick [] rfl rfl⟩
  replace h := bcF h hc6
  refine go ?_
  replace ⟨y7, hy7, h⟩ := obind h
  refine LW.c0 (W_l_eqAmt hy7) hS3 fun w8 hS4 => ?_
  refine go ?_
  refine CW.cond rfl (fun hc9 => ?_) (fun hc9 => ?_)
  · replace h := bcT h hc9
    refine go ?_
    cases h
    exact And.intro trivial ⟨_, Res.one (resOne.t rfl), rfl, hS4.pick [] rfl rfl⟩
  replace h := bcF h hc9
  refine go ?_
  cases h
  exact And.intro trivial ⟨_, Res.one (resOne.t rfl), rfl, hS4.pick [] rfl rfl⟩

theorem W_l_eqMsgS {w0 : World} {N : Nat} {x0 : List DMsg} {x1 : List DMsg} {r : Bool} (h : F_l_eqMsgS N x0 x1 = some r) {a0_0 : Option Addr} {n0_0 c0_0 : Nat} (hn0_0 : n0_0 = x0.length) (hr0_0 : rdS (Bor w0 []) w0 a0_0 c0_0 x0) {a1_0 : Option Addr} {n1_0 c1_0 : Nat} (hn1_0 : n1_0 = x1.length) (hr1_0 : rdS (Bor w0 []) w0 a1_0 c1_0 x1) :
    Ret Tryz.prog 215 #[.slice a0_0 n0_0 c0_0, .slice a1_0 n1_0 c1_0] w0 (fun v w => v = .bool r ∧ St w0 [] w []) := by
  subst hn0_0 hn1_0
  unfold F_l_eqMsgS at h
  refine Ret.fn Tryz.func215 fun e => ?_
  have hS1 := St.start w0
  refine go ?_
  refine CW.cond rfl (fun hc1 => ?_) (fun hc1 => ?_)
  · replace h := bcT h hc1
    refine go ?_
    cases h
    exact And.intro trivial ⟨_, Res.one (resOne.t rfl), rfl, hS1.pick [] rfl rfl⟩
  replace h := bcF h hc1
  refine go ?_
  obtain ⟨o26, ho26, h27⟩ := obind h
  refine CW.mono (CW.iter (σ := Int) (ρ := Int ⊕ Bool) (fun s2 e wb => En e [(0, .slice a0_0 x0.length c0_0), (1, .slice a1_0 x1.length c1_0), (5, .int .i64 s2)] ∧ St w0 [] wb []) (fun o x e wb => match o with | .inl s2 => x = .exit 0 ∧ En e [] ∧ St w0 [] wb [] | .inr r => x = .ret ∧ ∃ u, u = r ∧ ∃ v, Res Tryz.prog Tryz.f215.results e wb v ∧ v = .bool u ∧ St w0 [] wb []) ?_ N 0 _ _ _ ⟨⟨rfl, rfl, rfl, trivial⟩, hS1.pick [] rfl rfl⟩ ho26) ?_
  · intro s2 e w3 o hM h
    obtain ⟨hE, hS2⟩ := hM
    obtain ⟨e, rfl⟩ := hE.out
    refine go ?_
    refine CW.cond rfl (fun hc4 => ?_) (fun hc4 => ?_)
    · replace h := bcT h hc4
      refine go ?_
      refine CW.draw (by kernel_rfl) ?_
      have hS3 := hS2.drew
      refine AW.u (i := 0) rfl (by kernel_rfl) rfl rfl (Pur.p rfl) ?_
      refine AW.u (i := 1) rfl (by kernel_rfl) rfl rfl (Pur.p rfl) ?_
      replace ⟨y5, hy5, h⟩ := obind h
      obtain ⟨b8, o9, cs10, hae, hb13, hp6, hq7, hd11, hk12⟩ := hr0_0.idx hy5
      subst hae
      obtain rfl := hd11
      refine AW.u (i := 2) rfl (by kernel_rfl) rfl rfl (Pur.ix Tryz.underlying90 sz194 rfl rfl hp6 hq7) ?_
      refine AW.take (i := 3) rfl (by kernel_rfl) rfl rfl (Ldr.oldN w0 ag194 rfl rfl (fun j u hu => hk12 j u hu)) (hS3.same _ hb13.1 hb13.2) ?_
      refine AW.u (i := 4) rfl (by kernel_rfl) rfl rfl (Pur.p rfl) ?_
      refine AW.u (i := 5) rfl (by kernel_rfl) rfl rfl (Pur.p rfl) ?_
      replace ⟨y14, hy14, h⟩ := obind h
      obtain ⟨b17, o18, cs19, hae, hb22, hp15, hq16, hd20, hk21⟩ := hr1_0.idx hy14
      subst hae
      obtain rfl := hd20
      refine AW.u (i := 6) rfl (by kernel_rfl) rfl rfl (Pur.ix Tryz.underlying90 sz194 rfl rfl hp15 hq16) ?_
      refine AW.take (i := 7) rfl (by kernel_rfl) rfl rfl (Ldr.oldN w0 ag194 rfl rfl (fun j u hu => hk21 j u hu)) (hS3.same _ hb22.1 hb22.2) ?_
      replace ⟨y23, hy23, h⟩ := obind h
      have q := W_l_eqMsg (w0 := w3.drew) hy23
      refine AW.one (i := 8) (by kernel_rfl) ?_
      refine ⟨_, rfl, ?_⟩
      refine LW.call pl219 rfl rfl ?_
      refine Ret.mono q ?_
      rintro _ w24 ⟨rfl, hs⟩
      have hS4 := hS3.add hs
      refine LW.nil ⟨rfl, (.w (by kernel_rfl) (.w (by kernel_rfl) Kept.n)), ?_⟩
      refine AW.u (i := 9) rfl (by kernel_rfl) rfl rfl (Pur.p rfl) ?_
      refine AW.done (by kernel_rfl) ?_
      refine go ?_
      refine CW.cond rfl (fun hc25 => ?_) (fun hc25 => ?_)
      · replace h := bcT h hc25
        refine go ?_
        cases oi h
        exact ⟨trivial, rfl, _, rfl, ⟨_, Res.one (resOne.t rfl), rfl, hS4.pick [] rfl rfl⟩⟩
      replace h := bcF h hc25
      refine go ?_
      cases oi h
      exact ⟨rfl, ⟨⟨rfl, rfl, rfl, trivial⟩, hS4.pick [] rfl rfl⟩⟩
    replace h := bcF h hc4
    refine go ?_
    cases oi h
    exact ⟨trivial, rfl, ⟨trivial, hS2.pick [] rfl rfl⟩⟩
  intro x e w28 hM
  rcases o26 with o26 | r29
  · obtain ⟨rfl, hM⟩ := hM
    obtain ⟨hE, hS5⟩ := hM
    obtain ⟨e, rfl⟩ := hE.out; rw [show e = upds e [] from rfl]
    have h := h27
    refine go ?_
    cases h
    exact And.intro trivial ⟨_, Res.one (resOne.t rfl), rfl, hS5.pick [] rfl rfl⟩
  obtain ⟨rfl, u, rfl, hM⟩ := hM
  cases h27
  exact And.intro trivial hM

theorem W_l_eqGc {w0 : World} {N : Nat} {x0 : DGc} {x1 : DGc} {r : Bool} (h : F_l_eqGc N x0 x1 = some r) {a0_3 : Option Addr} {n0_3 c0_3 : Nat} (hn0_3 : n0_3 = x0.grey.length) (hr0_3 : rdS (Bor w0 []) w0 a0_3 c0_3 x0.grey) {a1_3 : Option Addr} {n1_3 c1_3 : Nat} (hn1_3 : n1_3 = x1.grey.length) (hr1_3 : rdS (Bor w0 []) w0 a1_3 c1_3 x1.grey) :
    Ret Tryz.prog 153 #[.agg #[.int .i64 x0.phase, .int .i64 x0.pos, .int .i64 x0.round, .slice a0_3 n0_3 c0_3], .agg #[.int .i64 x1.phase, .int .i64 x1.pos, .int .i64 x1.round, .slice a1_3 n1_3 c1_3]] w0 (fun v w => v = .bool r ∧ St w0 [] w []) := by
  subst hn0_3 hn1_3
  unfold F_l_eqGc at h
  refine Ret.fn Tryz.func153 fun e => ?_
  have hS1 := St.start w0
  refine go ?_
  refine LW.bo hS1 fun g1 w2 hS2 => ?_
  refine LW.bo hS2 fun g3 w4 hS3 => ?_
  refine go ?_
  refine CW.cond rfl (fun hc5 => ?_) (fun hc5 => ?_)
  · replace h := bcT h hc5
    refine go ?_
    cases h
    exact And.intro trivial ⟨_, Res.one (resOne.t rfl), rfl, hS3.pick [] rfl rfl⟩
  replace h := bcF h hc5
  refine go ?_
  refine CW.fl [2, 3, 14] fun e => ?_
  refine CW.cond rfl (fun hc6 => ?_) (fun hc6 => ?_)
  · replace h := bcT h hc6
    refine go ?_
    cases h
    exact And.intro trivial ⟨_, Res.one (resOne.t rfl), rfl, hS3.pick [] rfl rfl⟩
  replace h := bcF h hc6
  refine go ?_
  refine CW.cond rfl (fun hc7 => ?_) (fun hc7 => ?_)
  · replace h := bcT h hc7
    refine go ?_
    cases h
    exact And.intro trivial ⟨_, Res.one (resOne.t rfl), rfl, hS3.pick [] rfl rfl⟩
  replace h := bcF h hc7
  refine go ?_
  replace ⟨y8, hy8, h⟩ := obind h
  refine LW.c0 (W_l_eqIntS hy8 rfl (hS3.rB hr0_3) rfl (hS3.rB hr1_3)) hS3 fun w9 hS4 => ?_
  refine go ?_
  refine CW.cond rfl (fun hc10 => ?_) (fun hc10 => ?_)
  · replace h := bcT h hc10
    refine go ?_
    cases h
    exact And.intro trivial ⟨_, Res.one (resOne.t rfl), rfl, hS4.pick [] rfl rfl⟩
  replace h := bcF h hc10
  refine go ?_
  cases h
  exact And.intro trivial ⟨_, Res.one (resOne.t rfl), rfl, hS4.pick [] rfl rfl⟩

theorem W_l_eqTapS {w0 : World} {N : Nat} {x0 : List DTap} {x1 : List DTap} {r : Bool} (h : F_l_eqTapS N x0 x1 = some r) {a0_0 : Option Addr} {n0_0 c0_0 : Nat} (hn0_0 : n0_0 = x0.length) (hr0_0 : rdS (Bor w0 []) w0 a0_0 c0_0 x0) {a1_0 : Option Addr} {n1_0 c1_0 : Nat} (hn1_0 : n1_0 = x1.length) (hr1_0 : rdS (Bor w0 []) w0 a1_0 c1_0 x1) :
    Ret Tryz.prog 75 #[.slice a0_0 n0_0 c0_0, .slice a1_0 n1_0 c1_0] w0 (fun v w => v = .bool r ∧ St w0 [] w []) := by
  subst hn0_0 hn1_0
  unfold F_l_eqTapS at h
  refine Ret.fn Tryz.func75 fun e => ?_
  have hS1 := St.start w0
  refine go ?_
  refine CW.cond rfl (fun hc1 => ?_) (fun hc1 => ?_)
  · replace h := bcT h hc1
    refine go ?_
    cases h
    exact And.intro trivial ⟨_, Res.one (resOne.t rfl), rfl, hS1.pick [] rfl rfl⟩
  replace h := bcF h hc1
  refine go ?_
  obtain ⟨o26, ho26, h27⟩ := obind h
  refine CW.mono (CW.iter (σ := Int) (ρ := Int ⊕ Bool) (fun s2 e wb => En e [(0, .slice a0_0 x0.length c0_0), (1, .slice a1_0 x1.length c1_0), (5, .int .i64 s2)] ∧ St w0 [] wb []) (fun o x e wb => match o with | .inl s2 => x = .exit 0 ∧ En e [] ∧ St w0 [] wb [] | .inr r => x = .ret ∧ ∃ u, u = r ∧ ∃ v, Res Tryz.prog Tryz.f75.results e wb v ∧ v = .bool u ∧ St w0 [] wb []) ?_ N 0 _ _ _ ⟨⟨rfl, rfl, rfl, trivial⟩, hS1.pick [] rfl rfl⟩ ho26) ?_
  · intro s2 e w3 o hM h
    obtain ⟨hE, hS2⟩ := hM
    obtain ⟨e, rfl⟩ := hE.out
    refine go ?_
    refine CW.cond rfl (fun hc4 => ?_) (fun hc4 => ?_)
    · replace h := bcT h hc4
      refine go ?_
      refine CW.draw (by kernel_rfl) ?_
      have hS3 := hS2.drew
      refine AW.u (i := 0) rfl (by kernel_rfl) rfl rfl (Pur.p rfl) ?_
      refine AW.u (i := 1) rfl (by kernel_rfl) rfl rfl (Pur.p rfl) ?_
      replace ⟨y5, hy5, h⟩ := obind h
      obtain ⟨b8, o9, cs10, hae, hb13, hp6, hq7, hd11, hk12⟩ := hr0_0.idx hy5
      subst hae
      obtain rfl := hd11
      refine AW.u (i := 2) rfl (by kernel_rfl) rfl rfl (Pur.ix Tryz.underlying63 sz131 rfl rfl hp6 hq7) ?_
      refine AW.take (i := 3) rfl (by kernel_rfl) rfl rfl (Ldr.oldN w0 ag131 rfl rfl (fun j u hu => hk12 j u hu)) (hS3.same _ hb13.1 hb13.2) ?_
      refine AW.u (i := 4) rfl (by kernel_rfl) rfl rfl (Pur.p rfl) ?_
      refine AW.u (i := 5) rfl (by kernel_rfl) rfl rfl (Pur.p rfl) ?_
      replace ⟨y14, hy14, h⟩ := obind h
      obtain ⟨b17, o18, cs19, hae, hb22, hp15, hq16, hd20, hk21⟩ := hr1_0.idx hy14
      subst hae
      obtain rfl := hd20
      refine AW.u (i := 6) rfl (by kernel_rfl) rfl rfl (Pur.ix Tryz.underlying63 sz131 rfl rfl hp15 hq16) ?_
      refine AW.take (i := 7) rfl (by kernel_rfl) rfl rfl (Ldr.oldN w0 ag131 rfl rfl (fun j u hu => hk21 j u hu)) (hS3.same _ hb22.1 hb22.2) ?_
      replace ⟨y23, hy23, h⟩ := obind h
      have q := W_l_eqTap (w0 := w3.drew) hy23
      refine AW.one (i := 8) (by kernel_rfl) ?_
      refine ⟨_, rfl, ?_⟩
      refine LW.call pl154 rfl rfl ?_
      refine Ret.mono q ?_
      rintro _ w24 ⟨rfl, hs⟩
      have hS4 := hS3.add hs
      refine LW.nil ⟨rfl, (.w (by kernel_rfl) (.w (by kernel_rfl) Kept.n)), ?_⟩
      refine AW.u (i := 9) rfl (by kernel_rfl) rfl rfl (Pur.p rfl) ?_
      refine AW.done (by kernel_rfl) ?_
      refine go ?_
      refine CW.cond rfl (fun hc25 => ?_) (fun hc25 => ?_)
      · replace h := bcT h hc25
        refine go ?_
        cases oi h
        exact ⟨trivial, rfl, _, rfl, ⟨_, Res.one (resOne.t rfl), rfl, hS4.pick [] rfl rfl⟩⟩
      replace h := bcF h hc25
      refine go ?_
      cases oi h
      exact ⟨rfl, ⟨⟨rfl, rfl, rfl, trivial⟩, hS4.pick [] rfl rfl⟩⟩
    replace h := bcF h hc4
    refine go ?_
    cases oi h
    exact ⟨trivial, rfl, ⟨trivial, hS2.pick [] rfl rfl⟩⟩
  intro x e w28 hM
  rcases o26 with o26 | r29
  · obtain ⟨rfl, hM⟩ := hM
    obtain ⟨hE, hS5⟩ := hM
    obtain ⟨e, rfl⟩ := hE.out; rw [show e = upds e [] from rfl]
    have h := h27
    refine go ?_
    cases h
    exact And.intro trivial ⟨_, Res.one (resOne.t rfl), rfl, hS5.pick [] rfl rfl⟩
  obtain ⟨rfl, u, rfl, hM⟩ := hM
  cases h27
  exact And.intro trivial hM

end Go.Kx
