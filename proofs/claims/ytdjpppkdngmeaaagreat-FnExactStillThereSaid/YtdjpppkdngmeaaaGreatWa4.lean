/- Each call returns what the plain function says. Printed by drive.py. -/
import Derived.Test.YtdjpppkdngmeaaaGreatFa
import Derived.Test.YtdjpppkdngmeaaaGreatPu
import Derived.Test.YtdjpppkdngmeaaaGreatWa0
namespace Go.Kx
open Go Go.RowKit Go.Proofs
set_option maxRecDepth 10000
set_option maxHeartbeats 2000000
set_option linter.unusedVariables false
set_option linter.unusedSimpArgs false
theorem W_l_szResS {w0 : World} {N : Nat} {x0 : List DRes} {x1 : Int} {r : Int} (h : F_l_szResS N x0 x1 = some r) {a0_0 : Option Addr} {n0_0 c0_0 : Nat} (hn0_0 : n0_0 = x0.length) (hr0_0 : rdS (Bor w0 []) w0 a0_0 c0_0 x0) :
    Ret Tryz.prog 37 #[.slice a0_0 n0_0 c0_0, .int .i64 x1] w0 (fun v w => v = .int .i64 r ∧ St w0 [] w []) := by
  subst hn0_0
  unfold F_l_szResS at h
  refine Ret.fn Tryz.func37 fun e => ?_
  have hS1 := St.start w0
  refine go ?_
  refine CW.cond rfl (fun hc1 => ?_) (fun hc1 => ?_)
  · replace h := bcT h hc1
    refine go ?_
    cases h
    exact And.intro trivial ⟨_, Res.one (resOne.t rfl), rfl, hS1.pick [] rfl rfl⟩
  replace h := bcF h hc1
  refine go ?_
  cases h
  exact And.intro trivial ⟨_, Res.one (resOne.t rfl), rfl, hS1.pick [] rfl rfl⟩

theorem W_l_szMsgS {w0 : World} {N : Nat} {x0 : List DMsg} {x1 : Int} {r : Int} (h : F_l_szMsgS N x0 x1 = some r) {a0_0 : Option Addr} {n0_0 c0_0 : Nat} (hn0_0 : n0_0 = x0.length) (hr0_0 : rdS (Bor w0 []) w0 a0_0 c0_0 x0) :
    Ret Tryz.prog 171 #[.slice a0_0 n0_0 c0_0, .int .i64 x1] w0 (fun v w => v = .int .i64 r ∧ St w0 [] w []) := by
  subst hn0_0
  unfold F_l_szMsgS at h
  refine Ret.fn Tryz.func171 fun e => ?_
  have hS1 := St.start w0
  refine go ?_
  refine CW.cond rfl (fun hc1 => ?_) (fun hc1 => ?_)
  · replace h := bcT h hc1
    refine go ?_
    cases h
    exact And.intro trivial ⟨_, Res.one (resOne.t rfl), rfl, hS1.pick [] rfl rfl⟩
  replace h := bcF h hc1
  refine go ?_
  cases h
  exact And.intro trivial ⟨_, Res.one (resOne.t rfl), rfl, hS1.pick [] rfl rfl⟩

theorem W_l_szObj {w0 : World} {N : Nat} {x0 : DObj} {x1 : Int} {r : Int} (h : F_l_szObj N x0 x1 = some r) {a0_10 : Option Addr} {n0_10 c0_10 : Nat} (hn0_10 : n0_10 = x0.links.length) (hr0_10 : rdS (Bor w0 []) w0 a0_10 c0_10 x0.links) {a0_11 : Option Addr} {n0_11 c0_11 : Nat} (hn0_11 : n0_11 = x0.data.length) (hr0_11 : rdS (Bor w0 []) w0 a0_11 c0_11 x0.data) {a0_12 : Option Addr} {n0_12 c0_12 : Nat} (hn0_12 : n0_12 = x0.queue.length) (hr0_12 : rdS (Bor w0 []) w0 a0_12 c0_12 x0.queue) :
    Ret Tryz.prog 141 #[.agg #[.int .i64 x0.gen, .int .i64 x0.kind, .int .i64 x0.box, .int .i64 x0.res, .int .i64 x0.til, .int .i64 x0.pages, .int .i64 x0.wait, .int .i64 x0.got, .int .i64 x0.ran, .bool x0.mark, .slice a0_10 n0_10 c0_10, .slice a0_11 n0_11 c0_11, .slice a0_12 n0_12 c0_12], .int .i64 x1] w0 (fun v w => v = .int .i64 r ∧ St w0 [] w []) := by
  subst hn0_10 hn0_11 hn0_12
  unfold F_l_szObj at h
  refine Ret.fn Tryz.func141 fun e => ?_
  have hS1 := St.start w0
  refine go ?_
  refine LW.bo hS1 fun g1 w2 hS2 => ?_
  refine go ?_
  replace ⟨y3, hy3, h⟩ := obind h
  refine LW.c0 (W_l_szIntS hy3 rfl (hS2.rB hr0_10)) hS2 fun w4 hS3 => ?_
  refine go ?_
  refine CW.cond rfl (fun hc5 => ?_) (fun hc5 => ?_)
  · replace h := bcT h hc5
    refine go ?_
    cases h
    exact And.intro trivial ⟨_, Res.one (resOne.t rfl), rfl, hS3.pick [] rfl rfl⟩
  replace h := bcF h hc5
  refine go ?_
  replace ⟨y6, hy6, h⟩ := obind h
  refine LW.c0 (W_l_szIntS hy6 rfl (hS3.rB hr0_11)) hS3 fun w7 hS4 => ?_
  refine go ?_
  refine CW.fl [1, 2, 16] fun e => ?_
  refine CW.cond rfl (fun hc8 => ?_) (fun hc8 => ?_)
  · replace h := bcT h hc8
    refine go ?_
    cases h
    exact And.intro trivial ⟨_, Res.one (resOne.t rfl), rfl, hS4.pick [] rfl rfl⟩
  replace h := bcF h hc8
  refine go ?_
  replace ⟨y9, hy9, h⟩ := obind h
  refine LW.c0 (W_l_szMsgS hy9 rfl (hS4.rB hr0_12)) hS4 fun w10 hS5 => ?_
  refine go ?_
  refine CW.cond rfl (fun hc11 => ?_) (fun hc11 => ?_)
  · replace h := bcT h hc11
    refine go ?_
    cases h
    exact And.intro trivial ⟨_, Res.one (resOne.t rfl), rfl, hS5.pick [] rfl rfl⟩
  replace h := bcF h hc11
  refine go ?_
  cases h
  exact And.intro trivial ⟨_, Res.one (resOne.t rfl), rfl, hS5.pick [] rfl rfl⟩

theorem W_l_szObjS {w0 : World} {N : Nat} {x0 : List DObj} {x1 : Int} {r : Int} (h : F_l_szObjS N x0 x1 = some r) {a0_0 : Option Addr} {n0_0 c0_0 : Nat} (hn0_0 : n0_0 = x0.length) (hr0_0 : rdS (Bor w0 []) w0 a0_0 c0_0 x0) :
    Ret Tryz.prog 86 #[.slice a0_0 n0_0 c0_0, .int .i64 x1] w0 (fun v w => v = .int .i64 r ∧ St w0 [] w []) := by
  subst hn0_0
  unfold F_l_szObjS at h
  refine Ret.fn Tryz.func86 fun e => ?_
  have hS1 := St.start w0
  refine go ?_
  refine CW.cond rfl (fun hc1 => ?_) (fun hc1 => ?_)
  · replace h := bcT h hc1
    refine go ?_
    cases h
    exact And.intro trivial ⟨_, Res.one (resOne.t rfl), rfl, hS1.pick [] rfl rfl⟩
  replace h := bcF h hc1
  refine go ?_
  obtain ⟨o26, ho26, h27⟩ := obind h
  refine CW.mono (CW.iter (σ := Int × Int) (ρ := (Int × Int) ⊕ Int) (fun s2 e wb => En e [(0, .slice a0_0 x0.length c0_0), (1, .int .i64 s2.1), (5, .int .i64 s2.2)] ∧ St w0 [] wb []) (fun o x e wb => match o with | .inl s2 => x = .exit 0 ∧ En e [(1, .int .i64 s2.1)] ∧ St w0 [] wb [] | .inr r => x = .ret ∧ ∃ u, u = r ∧ ∃ v, Res Tryz.prog Tryz.f86.results e wb v ∧ v = .int .i64 u ∧ St w0 [] wb []) ?_ N (IntKind.i64.wrap (x1 - (x0.length : Int)), 0) _ _ _ ⟨⟨rfl, rfl, rfl, trivial⟩, hS1.pick [] rfl rfl⟩ ho26) ?_
  · intro s2 e w3 o hM h
    obtain ⟨hE, hS2⟩ := hM
    obtain ⟨e, rfl⟩ := hE.out
    refine go ?_
    refine CW.fl [0, 1, 5, 15] fun e => ?_
    refine CW.cond rfl (fun hc4 => ?_) (fun hc4 => ?_)
    · replace h := bcT h hc4
      refine go ?_
      replace ⟨y5, hy5, h⟩ := obind h
      obtain ⟨b8, o9, cs10, hae, hb13, hp6, hq7, hd11, hk12⟩ := hr0_0.idx hy5
      subst hae
      obtain ⟨a14, c15, a17, c18, a20, c21, rfl, hr16, hr19, hr22⟩ := hd11
      refine LW.u (Pur.ix Tryz.underlying26 sz168 rfl rfl hp6 hq7) rfl ?_
      refine LW.l (Ldr.oldN w0 ag168 rfl rfl (fun j u hu => hk12 j u hu)) (hS2.same _ hb13.1 hb13.2) rfl ?_
      refine go ?_
      replace ⟨y23, hy23, h⟩ := obind h
      refine LW.c0 (W_l_szObj hy23 rfl (hS2.rB hr16) rfl (hS2.rB hr19) rfl (hS2.rB hr22)) hS2 fun w24 hS3 => ?_
      refine go ?_
      refine CW.cond rfl (fun hc25 => ?_) (fun hc25 => ?_)
      · replace h := bcT h hc25
        refine go ?_
        cases oi h
        exact ⟨trivial, rfl, _, rfl, ⟨_, Res.one (resOne.t rfl), rfl, hS3.pick [] rfl rfl⟩⟩
      replace h := bcF h hc25
      refine go ?_
      cases oi h
      exact ⟨rfl, ⟨⟨rfl, rfl, rfl, trivial⟩, hS3.pick [] rfl rfl⟩⟩
    replace h := bcF h hc4
    refine go ?_
    cases oi h
    exact ⟨trivial, rfl, ⟨⟨rfl, trivial⟩, hS2.pick [] rfl rfl⟩⟩
  intro x e w28 hM
  rcases o26 with o26 | r29
  · obtain ⟨rfl, hM⟩ := hM
    obtain ⟨hE, hS4⟩ := hM
    obtain ⟨e, rfl⟩ := hE.out
    have h := h27
    refine go ?_
    cases h
    exact And.intro trivial ⟨_, Res.one (resOne.t rfl), rfl, hS4.pick [] rfl rfl⟩
  obtain ⟨rfl, u, rfl, hM⟩ := hM
  cases h27
  exact And.intro trivial hM

theorem W_l_szGc {w0 : World} {N : Nat} {x0 : DGc} {x1 : Int} {r : Int} (h : F_l_szGc N x0 x1 = some r) {a0_3 : Option Addr} {n0_3 c0_3 : Nat} (hn0_3 : n0_3 = x0.grey.length) (hr0_3 : rdS (Bor w0 []) w0 a0_3 c0_3 x0.grey) :
    Ret Tryz.prog 87 #[.agg #[.int .i64 x0.phase, .int .i64 x0.pos, .int .i64 x0.round, .slice a0_3 n0_3 c0_3], .int .i64 x1] w0 (fun v w => v = .int .i64 r ∧ St w0 [] w []) := by
  subst hn0_3
  unfold F_l_szGc at h
  refine Ret.fn Tryz.func87 fun e => ?_
  have hS1 := St.start w0
  refine go ?_
  refine LW.bo hS1 fun g1 w2 hS2 => ?_
  refine go ?_
  replace ⟨y3, hy3, h⟩ := obind h
  refine LW.c0 (W_l_szIntS hy3 rfl (hS2.rB hr0_3)) hS2 fun w4 hS3 => ?_
  refine go ?_
  refine CW.cond rfl (fun hc5 => ?_) (fun hc5 => ?_)
  · replace h := bcT h hc5
    refine go ?_
    cases h
    exact And.intro trivial ⟨_, Res.one (resOne.t rfl), rfl, hS3.pick [] rfl rfl⟩
  replace h := bcF h hc5
  refine go ?_
  cases h
  exact And.intro trivial ⟨_, Res.one (resOne.t rfl), rfl, hS3.pick [] rfl rfl⟩

theorem W_l_szHeap {w0 : World} {N : Nat} {x0 : DHeap} {x1 : Int} {r : Int} (h : F_l_szHeap N x0 x1 = some r) {a0_0 : Option Addr} {n0_0 c0_0 : Nat} (hn0_0 : n0_0 = x0.arena.length) (hr0_0 : rdS (Bor w0 []) w0 a0_0 c0_0 x0.arena) {a0_4 : Option Addr} {n0_4 c0_4 : Nat} (hn0_4 : n0_4 = x0.gc.grey.length) (hr0_4 : rdS (Bor w0 []) w0 a0_4 c0_4 x0.gc.grey) :
    Ret Tryz.prog 38 #[.agg #[.slice a0_0 n0_0 c0_0, .int .i64 x0.gc.phase, .int .i64 x0.gc.pos, .int .i64 x0.gc.round, .slice a0_4 n0_4 c0_4], .int .i64 x1] w0 (fun v w => v = .int .i64 r ∧ St w0 [] w []) := by
  subst hn0_0 hn0_4
  unfold F_l_szHeap at h
  refine Ret.fn Tryz.func38 fun e => ?_
  have hS1 := St.start w0
  refine go ?_
  refine LW.bo hS1 fun g1 w2 hS2 => ?_
  refine go ?_
  replace ⟨y3, hy3, h⟩ := obind h
  refine LW.c0 (W_l_szObjS hy3 rfl (hS2.rB hr0_0)) hS2 fun w4 hS3 => ?_
  refine go ?_
  refine CW.cond rfl (fun hc5 => ?_) (fun hc5 => ?_)
  · replace h := bcT h hc5
    refine go ?_
    cases h
    exact And.intro trivial ⟨_, Res.one (resOne.t rfl), rfl, hS3.pick [] rfl rfl⟩
  replace h := bcF h hc5
  refine go ?_
  replace ⟨y6, hy6, h⟩ := obind h
  refine LW.c0 (W_l_szGc hy6 rfl (hS3.rB hr0_4)) hS3 fun w7 hS4 => ?_
  refine go ?_
  refine CW.fl [1, 16] fun e => ?_
  refine CW.cond rfl (fun hc8 => ?_) (fun hc8 => ?_)
  · replace h := bcT h hc8
    refine go ?_
    cases h
    exact And.intro trivial ⟨_, Res.one (resOne.t rfl), rfl, hS4.pick [] rfl rfl⟩
  replace h := bcF h hc8
  refine go ?_
  cases h
  exact And.intro trivial ⟨_, Res.one (resOne.t rfl), rfl, hS4.pick [] rfl rfl⟩

theorem W_l_szTapS {w0 : World} {N : Nat} {x0 : List DTap} {x1 : Int} {r : Int} (h : F_l_szTapS N x0 x1 = some r) {a0_0 : Option Addr} {n0_0 c0_0 : Nat} (hn0_0 : n0_0 = x0.length) (hr0_0 : rdS (Bor w0 []) w0 a0_0 c0_0 x0) :
    Ret Tryz.prog 39 #[.slice a0_0 n0_0 c0_0, .int .i64 x1] w0 (fun v w => v = .int .i64 r ∧ St w0 [] w []) := by
  subst hn0_0
  unfold F_l_szTapS at h
  refine Ret.fn Tryz.func39 fun e => ?_
  have hS1 := St.start w0
  refine go ?_
  refine CW.cond rfl (fun hc1 => ?_) (fun hc1 => ?_)
  · replace h := bcT h hc1
    refine go ?_
    cases h
    exact And.intro trivial ⟨_, Res.one (resOne.t rfl), rfl, hS1.pick [] rfl rfl⟩
  replace h := bcF h hc1
  refine go ?_
  cases h
  exact And.intro trivial ⟨_, Res.one (resOne.t rfl), rfl, hS1.pick [] rfl rfl⟩

theorem W_l_szPart {w0 : World} {N : Nat} {x0 : DPart} {x1 : Int} {r : Int} (h : F_l_szPart N x0 x1 = some r) {a0_0 : Option Addr} {n0_0 c0_0 : Nat} (hn0_0 : n0_0 = x0.label.levels.length) (hr0_0 : rdS (Bor w0 []) w0 a0_0 c0_0 x0.label.levels) {a0_1 : Option Addr} {n0_1 c0_1 : Nat} (hn0_1 : n0_1 = x0.own.length) (hr0_1 : rdS (Bor w0 []) w0 a0_1 c0_1 x0.own) {a0_2 : Option Addr} {n0_2 c0_2 : Nat} (hn0_2 : n0_2 = x0.tree.length) (hr0_2 : rdS (Bor w0 []) w0 a0_2 c0_2 x0.tree) {a0_3 : Option Addr} {n0_3 c0_3 : Nat} (hn0_3 : n0_3 = x0.heap.arena.length) (hr0_3 : rdS (Bor w0 []) w0 a0_3 c0_3 x0.heap.arena) {a0_7 : Option Addr} {n0_7 c0_7 : Nat} (hn0_7 : n0_7 = x0.heap.gc.grey.length) (hr0_7 : rdS (Bor w0 []) w0 a0_7 c0_7 x0.heap.gc.grey) {a0_8 : Option Addr} {n0_8 c0_8 : Nat} (hn0_8 : n0_8 = x0.taps.length) (hr0_8 : rdS (Bor w0 []) w0 a0_8 c0_8 x0.taps) :
    Ret Tryz.prog 8 #[.agg #[.slice a0_0 n0_0 c0_0, .slice a0_1 n0_1 c0_1, .slice a0_2 n0_2 c0_2, .slice a0_3 n0_3 c0_3, .int .i64 x0.heap.gc.phase, .int .i64 x0.heap.gc.pos, .int .i64 x0.heap.gc.round, .slice a0_7 n0_7 c0_7, .slice a0_8 n0_8 c0_8, .int .i64 x0.next, .int .i64 x0.want, .int .i64 x0.spent.pages, .int .i64 x0.spent.rent, .int .i64 x0.spent.cpu, .int .i64 x0.press, .int .i64 x0.lost], .int .i64 x1] w0 (fun v w => v = .int .i64 r ∧ St w0 [] w []) := by
  subst hn0_0 hn0_1 hn0_2 hn0_3 hn0_7 hn0_8
  unfold F_l_szPart at h
  refine Ret.fn Tryz.func8 fun e => ?_
  have hS1 := St.start w0
  refine go ?_
  refine LW.bo hS1 fun g1 w2 hS2 => ?_
  refine go ?_
  replace ⟨y3, hy3, h⟩ := obind h
  refine LW.c0 (W_l_szLabel hy3 rfl (hS2.rB hr0_0)) hS2 fun w4 hS3 => ?_
  refine go ?_
  refine CW.cond rfl (fun hc5 => ?_) (fun hc5 => ?_)
  · replace h := bcT h hc5
    refine go ?_
    cases h
    exact And.intro trivial ⟨_, Res.one (resOne.t rfl), rfl, hS3.pick [] rfl rfl⟩
  replace h := bcF h hc5
  refine go ?_
  replace ⟨y6, hy6, h⟩ := obind h
  refine LW.c0 (W_l_szIntS hy6 rfl (hS3.rB hr0_1)) hS3 fun w7 hS4 => ?_
  refine go ?_
  refine CW.fl [1, 2, 16] fun e => ?_
  refine CW.cond rfl (fun hc8 => ?_) (fun hc8 => ?_)
  · replace h := bcT h hc8
    refine go ?_
    cases h
    exact And.intro trivial ⟨_, Res.one (resOne.t rfl), rfl, hS4.pick [] rfl rfl⟩
  replace h := bcF h hc8
  refine go ?_
  replace ⟨y9, hy9, h⟩ := obind h
  refine LW.c0 (W_l_szResS hy9 rfl (hS4.rB hr0_2)) hS4 fun w10 hS5 => ?_
  refine go ?_
  refine CW.cond rfl (fun hc11 => ?_) (fun hc11 => ?_)
  · replace h := bcT h hc11
    refine go ?_
    cases h
    exact And.intro trivial ⟨_, Res.one (resOne.t rfl), rfl, hS5.pick [] rfl rfl⟩
  replace h := bcF h hc11
  refine go ?_
  replace ⟨y12, hy12, h⟩ := obind h
  refine LW.c0 (W_l_szHeap hy12 rfl (hS5.rB hr0_3) rfl (hS5.rB hr0_7)) hS5 fun w13 hS6 => ?_
  refine go ?_
  refine CW.fl [1, 2, 28] fun e => ?_
  refine CW.cond rfl (fun hc14 => ?_) (fun hc14 => ?_)
  · replace h := bcT h hc14
    refine go ?_
    cases h
    exact And.intro trivial ⟨_, Res.one (resOne.t rfl), rfl, hS6.pick [] rfl rfl⟩
  replace h := bcF h hc14
  refine go ?_
  replace ⟨y15, hy15, h⟩ := obind h
  refine LW.c0 (W_l_szTapS hy15 rfl (hS6.rB hr0_8)) hS6 fun w16 hS7 => ?_
  refine go ?_
  refine CW.cond rfl (fun hc17 => ?_) (fun hc17 => ?_)
  · replace h := bcT h hc17
    refine go ?_
    cases h
    exact And.intro trivial ⟨_, Res.one (resOne.t rfl), rfl, hS7.pick [] rfl rfl⟩
  replace h := bcF h hc17
  refine go ?_
  cases h
  exact And.intro trivial ⟨_, Res.one (resOne.t rfl), rfl, hS7.pick [] rfl rfl⟩

theorem W_l_toRes {w0 : World} {N : Nat} {x0 : DRes} {r : DRes} (h : F_l_toRes N x0 = some r) :
    Ret Tryz.prog 91 #[.agg #[.bool x0.live, .int .i64 x0.parent, .int .i64 x0.bal.pages, .int .i64 x0.bal.rent, .int .i64 x0.bal.cpu]] w0 (fun v w => v = .agg #[.bool r.live, .int .i64 r.parent, .int .i64 r.bal.pages, .int .i64 r.bal.rent, .int .i64 r.bal.cpu] ∧ St w0 [] w []) := by
  unfold F_l_toRes at h
  refine Ret.fn Tryz.func91 fun e => ?_
  have hS1 := St.start w0
  refine go ?_
  refine LW.bo hS1 fun g1 w2 hS2 => ?_
  refine LW.al hS2 fun g3 w4 hS3 => ?_
  refine go ?_
  refine LW.al hS3 fun g5 w6 hS4 => ?_
  refine go ?_
  refine LW.st hS4 0 fun w7 hS5 => ?_
  refine go ?_
  refine LW.st hS5 0 fun w8 hS6 => ?_
  refine go ?_
  replace ⟨y9, hy9, h⟩ := obind h
  refine LW.c0 (W_l_toAmt hy9) hS6 fun w10 hS7 => ?_
  refine go ?_
  refine LW.st hS7 0 fun w11 hS8 => ?_
  refine go ?_
  refine LW.st hS8 1 fun w12 hS9 => ?_
  refine go ?_
  cases h
  exact And.intro trivial ⟨_, Res.one (resOne.b hS9 1 rfl ag87 rfl rfl), rfl, hS9.pick [] rfl rfl⟩

theorem W_l_toResS {w0 : World} {N : Nat} {x0 : List DRes} {r : (List DRes)} (h : F_l_toResS N x0 = some r) {a0_0 : Option Addr} {n0_0 c0_0 : Nat} (hn0_0 : n0_0 = x0.length) (hr0_0 : rdS (Bor w0 []) w0 a0_0 c0_0 x0) :
    Ret Tryz.prog 43 #[.slice a0_0 n0_0 c0_0] w0 (fun v w => ∃ ar0 cr0, v = .slice ar0 r.length cr0 ∧ St w0 [] w [sl ar0 cr0 r]) := by
  subst hn0_0
  unfold F_l_toResS at h
  refine Ret.fn Tryz.func43 fun e => ?_
  have hS1 := St.start w0
  refine go ?_
  replace ⟨y1, hy1, h⟩ := obind h
  refine LW.mk sT39 rfl rfl hy1 hS1 rfl ?_
  intro a2 c3 w4 hS2 hf
  refine go ?_
  obtain ⟨o26, ho26, h27⟩ := obind h
  refine CW.mono (CW.iter (σ := (List DRes) × Int) (ρ := (List DRes) × Int) (fun s5 e wb => En e [(0, .slice a0_0 x0.length c0_0), (3, .slice a2 s5.1.length c3), (4, .int .i64 s5.2)] ∧ St w0 [] wb [sl a2 c3 s5.1]) (fun s5 x e wb => x = .exit 0 ∧ En e [(3, .slice a2 s5.1.length c3)] ∧ St w0 [] wb [sl a2 c3 s5.1]) ?_ N (y1, 0) _ _ _ ⟨⟨rfl, rfl, rfl, trivial⟩, hS2.pick [0] rfl rfl⟩ ho26) ?_
  · intro s5 e w6 o hM h
    obtain ⟨hE, hS3⟩ := hM
    obtain ⟨e, rfl⟩ := hE.out
    refine go ?_
    refine CW.cond rfl (fun hc7 => ?_) (fun hc7 => ?_)
    · replace h := bcT h hc7
      refine go ?_
      replace ⟨y8, hy8, h⟩ := obind h
      obtain ⟨b11, o12, cs13, hae, hb16, hp9, hq10, hd14, hk15⟩ := hr0_0.idx hy8
      subst hae
      obtain rfl := hd14
      refine LW.u (Pur.ix Tryz.underlying25 sz131 rfl rfl hp9 hq10) rfl ?_
      refine LW.l (Ldr.oldN w0 ag131 rfl rfl (fun j u hu => hk15 j u hu)) (hS3.same _ hb16.1 hb16.2) rfl ?_
      replace ⟨y17, hy17, h⟩ := obind h
      refine LW.c0 (W_l_toRes hy17) hS3 fun w18 hS4 => ?_
      replace ⟨y19, hy19, h⟩ := obind h
      obtain ⟨b22, o23, hae, hp20, hq21⟩ := hS4.ownIdx (α := DRes) (i := 0) rfl hy19
      subst hae
      refine LW.u (Pur.ix Tryz.underlying39 sz87 rfl rfl hp20 hq21) rfl ?_
      replace ⟨y24, hy24, h⟩ := obind h
      refine LW.stE (M := []) (L := [sl (some ⟨b22, o23, none⟩) c3 s5.1]) (z := y19) (z' := y17) (o := 0) hS4 (i := 0) rfl hy19 ag87 rfl (by show _ = o23 + (s5.2 : Int).toNat * 5 + 0; omega) rfl rfl rfl rfl (whole (fun w G hG => by cases (show G = [] from hG); exact ⟨rfl, rfl⟩)) ?_
      intro w25 hS5 hf
      rw [Option.some.inj hy24] at hS5
      refine go ?_
      cases oi h
      exact ⟨rfl, ⟨⟨rfl, (show (.slice (some ⟨b22, o23, none⟩) s5.1.length c3 : Value) = .slice (some ⟨b22, o23, none⟩) y24.length c3 by rw [show s5.1.length = y24.length from (len_set (Option.some.inj hy24))]), rfl, trivial⟩, hS5.pick [0] rfl rfl⟩⟩
    replace h := bcF h hc7
    refine go ?_
    cases oi h
    exact ⟨trivial, rfl, ⟨⟨rfl, trivial⟩, hS3.pick [0] rfl rfl⟩⟩
  intro x e w28 hM
  obtain ⟨rfl, hM⟩ := hM
  obtain ⟨hE, hS6⟩ := hM
  obtain ⟨e, rfl⟩ := hE.out
  have h := h27
  refine go ?_
  cases h
  exact And.intro trivial ⟨_, Res.one (resOne.t rfl), a2, c3, rfl, hS6.pick [0] rfl rfl⟩

theorem W_l_toMsg {w0 : World} {N : Nat} {x0 : DMsg} {r : DMsg} (h : F_l_toMsg N x0 = some r) :
    Ret Tryz.prog 183 #[.agg #[.int .i64 x0.src, .int .i64 x0.n]] w0 (fun v w => v = .agg #[.int .i64 r.src, .int .i64 r.n] ∧ St w0 [] w []) := by
  unfold F_l_toMsg at h
  refine Ret.fn Tryz.func183 fun e => ?_
  have hS1 := St.start w0
  refine go ?_
  refine LW.bo hS1 fun g1 w2 hS2 => ?_
  refine LW.al hS2 fun g3 w4 hS3 => ?_
  refine go ?_
  refine LW.al hS3 fun g5 w6 hS4 => ?_
  refine go ?_
  refine LW.st hS4 0 fun w7 hS5 => ?_
  refine go ?_
  refine LW.st hS5 0 fun w8 hS6 => ?_
  refine go ?_
  refine LW.st hS6 1 fun w9 hS7 => ?_
  refine go ?_
  cases h
  exact And.intro trivial ⟨_, Res.one (resOne.b hS7 1 rfl ag187 rfl rfl), rfl, hS7.pick [] rfl rfl⟩

theorem W_l_toMsgS {w0 : World} {N : Nat} {x0 : List DMsg} {r : (List DMsg)} (h : F_l_toMsgS N x0 = some r) {a0_0 : Option Addr} {n0_0 c0_0 : Nat} (hn0_0 : n0_0 = x0.length) (hr0_0 : rdS (Bor w0 []) w0 a0_0 c0_0 x0) :
    Ret Tryz.prog 174 #[.slice a0_0 n0_0 c0_0] w0 (fun v w => ∃ ar0 cr0, v = .slice ar0 r.length cr0 ∧ St w0 [] w [sl ar0 cr0 r]) := by
  subst hn0_0
  unfold F_l_toMsgS at h
  refine Ret.fn Tryz.func174 fun e => ?_
  have hS1 := St.start w0
  refine go ?_
  replace ⟨y1, hy1, h⟩ := obind h
  refine LW.mk sT83 rfl rfl hy1 hS1 rfl ?_
  intro a2 c3 w4 hS2 hf
  refine go ?_
  obtain ⟨o26, ho26, h27⟩ := obind h
  refine CW.mono (CW.iter (σ := (List DMsg) × Int) (ρ := (List DMsg) × Int) (fun s5 e wb => En e [(0, .slice a0_0 x0.length c0_0), (3, .slice a2 s5.1.length c3), (4, .int .i64 s5.2)] ∧ St w0 [] wb [sl a2 c3 s5.1]) (fun s5 x e wb => x = .exit 0 ∧ En e [(3, .slice a2 s5.1.length c3)] ∧ St w0 [] wb [sl a2 c3 s5.1]) ?_ N (y1, 0) _ _ _ ⟨⟨rfl, rfl, rfl, trivial⟩, hS2.pick [0] rfl rfl⟩ ho26) ?_
  · intro s5 e w6 o hM h
    obtain ⟨hE, hS3⟩ := hM
    obtain ⟨e, rfl⟩ := hE.out
    refine go ?_
    refine CW.cond rfl (fun hc7 => ?_) (fun hc7 => ?_)
    · replace h := bcT h hc7
      refine go ?_
      replace ⟨y8, hy8, h⟩ := obind h
      obtain ⟨b11, o12, cs13, hae, hb16, hp9, hq10, hd14, hk15⟩ := hr0_0.idx hy8
      subst hae
      obtain rfl := hd14
      refine LW.u (Pur.ix Tryz.underlying166 sz190 rfl rfl hp9 hq10) rfl ?_
      refine LW.l (Ldr.oldN w0 ag190 rfl rfl (fun j u hu => hk15 j u hu)) (hS3.same _ hb16.1 hb16.2) rfl ?_
      replace ⟨y17, hy17, h⟩ := obind h
      refine LW.c0 (W_l_toMsg hy17) hS3 fun w18 hS4 => ?_
      replace ⟨y19, hy19, h⟩ := obind h
      obtain ⟨b22, o23, hae, hp20, hq21⟩ := hS4.ownIdx (α := DMsg) (i := 0) rfl hy19
      subst hae
      refine LW.u (Pur.ix Tryz.underlying83 sz187 rfl rfl hp20 hq21) rfl ?_
      replace ⟨y24, hy24, h⟩ := obind h
      refine LW.stE (M := []) (L := [sl (some ⟨b22, o23, none⟩) c3 s5.1]) (z := y19) (z' := y17) (o := 0) hS4 (i := 0) rfl hy19 ag187 rfl (by show _ = o23 + (s5.2 : Int).toNat * 2 + 0; omega) rfl rfl rfl rfl (whole (fun w G hG => by cases (show G = [] from hG); exact ⟨rfl, rfl⟩)) ?_
      intro w25 hS5 hf
      rw [Option.some.inj hy24] at hS5
      refine go ?_
      cases oi h
      exact ⟨rfl, ⟨⟨rfl, (show (.slice (some ⟨b22, o23, none⟩) s5.1.length c3 : Value) = .slice (some ⟨b22, o23, none⟩) y24.length c3 by rw [show s5.1.length = y24.length from (len_set (Option.some.inj hy24))]), rfl, trivial⟩, hS5.pick [0] rfl rfl⟩⟩
    replace h := bcF h hc7
    refine go ?_
    cases oi h
    exact ⟨trivial, rfl, ⟨⟨rfl, trivial⟩, hS3.pick [0] rfl rfl⟩⟩
  intro x e w28 hM
  obtain ⟨rfl, hM⟩ := hM
  obtain ⟨hE, hS6⟩ := hM
  obtain ⟨e, rfl⟩ := hE.out
  have h := h27
  refine go ?_
  cases h
  exact And.intro trivial ⟨_, Res.one (resOne.t rfl), a2, c3, rfl, hS6.pick [0] rfl rfl⟩

theorem W_l_toObj {w0 : World} {N : Nat} {x0 : DObj} {r : DObj} (h : F_l_toObj N x0 = some r) {a0_10 : Option Addr} {n0_10 c0_10 : Nat} (hn0_10 : n0_10 = x0.links.length) (hr0_10 : rdS (Bor w0 []) w0 a0_10 c0_10 x0.links) {a0_11 : Option Addr} {n0_11 c0_11 : Nat} (hn0_11 : n0_11 = x0.data.length) (hr0_11 : rdS (Bor w0 []) w0 a0_11 c0_11 x0.data) {a0_12 : Option Addr} {n0_12 c0_12 : Nat} (hn0_12 : n0_12 = x0.queue.length) (hr0_12 : rdS (Bor w0 []) w0 a0_12 c0_12 x0.queue) :
    Ret Tryz.prog 148 #[.agg #[.int .i64 x0.gen, .int .i64 x0.kind, .int .i64 x0.box, .int .i64 x0.res, .int .i64 x0.til, .int .i64 x0.pages, .int .i64 x0.wait, .int .i64 x0.got, .int .i64 x0.ran, .bool x0.mark, .slice a0_10 n0_10 c0_10, .slice a0_11 n0_11 c0_11, .slice a0_12 n0_12 c0_12]] w0 (fun v w => ∃ ar0_10 cr0_10, ∃ ar0_11 cr0_11, ∃ ar0_12 cr0_12, v = .agg #[.int .i64 r.gen, .int .i64 r.kind, .int .i64 r.box, .int .i64 r.res, .int .i64 r.til, .int .i64 r.pages, .int .i64 r.wait, .int .i64 r.got, .int .i64 r.ran, .bool r.mark, .slice ar0_10 r.links.length cr0_10, .slice ar0_11 r.data.length cr0_11, .slice ar0_12 r.queue.length cr0_12] ∧ St w0 [] w [sl ar0_10 cr0_10 r.links, sl ar0_11 cr0_11 r.data, sl ar0_12 cr0_12 r.queue]) := by
  subst hn0_10 hn0_11 hn0_12
  unfold F_l_toObj at h
  refine Ret.fn Tryz.func148 fun e => ?_
  have hS1 := St.start w0
  refine go ?_
  refine LW.bo hS1 fun g1 w2 hS2 => ?_
  refine LW.al hS2 fun g3 w4 hS3 => ?_
  refine go ?_
  refine LW.al hS3 fun g5 w6 hS4 => ?_
  refine go ?_
  refine LW.st hS4 0 fun w7 hS5 => ?_
  refine go ?_
  refine LW.st hS5 0 fun w8 hS6 => ?_
  refine go ?_
  refine LW.st hS6 0 fun w9 hS7 => ?_
  refine go ?_
  refine LW.st hS7 0 fun w10 hS8 => ?_
  refine go ?_
  refine LW.st hS8 0 fun w11 hS9 => ?_
  refine go ?_
  refine LW.fl [1, 2, 3, 20, 21] fun e => ?_
  refine LW.st hS9 0 fun w12 hS10 => ?_
  refine go ?_
  refine LW.st hS10 0 fun w13 hS11 => ?_
  refine go ?_
  refine LW.st hS11 0 fun w14 hS12 => ?_
  refine go ?_
  refine LW.st hS12 0 fun w15 hS13 => ?_
  refine go ?_
  refine LW.st hS13 0 fun w16 hS14 => ?_
  refine go ?_
  replace ⟨y17, hy17, h⟩ := obind h
  refine LW.cl (W_l_toIntS hy17 rfl (hS14.rB hr0_10)) ?_
  rintro _ w20 ⟨a18, c19, rfl, hs⟩
  have hS15 := hS14.add hs
  refine go ?_
  refine LW.st hS15 1 fun w21 hS16 => ?_
  refine go ?_
  replace ⟨y22, hy22, h⟩ := obind h
  refine LW.cl (W_l_toIntS hy22 rfl (hS16.rB hr0_11)) ?_
  rintro _ w25 ⟨a23, c24, rfl, hs⟩
  have hS17 := hS16.add hs
  refine go ?_
  refine LW.fl [1, 2, 3, 40, 41] fun e => ?_
  refine LW.st hS17 2 fun w26 hS18 => ?_
  refine go ?_
  replace ⟨y27, hy27, h⟩ := obind h
  refine LW.cl (W_l_toMsgS hy27 rfl (hS18.rB hr0_12)) ?_
  rintro _ w30 ⟨a28, c29, rfl, hs⟩
  have hS19 := hS18.add hs
  refine go ?_
  refine LW.st hS19 3 fun w31 hS20 => ?_
  refine go ?_
  refine LW.st hS20 4 fun w32 hS21 => ?_
  refine go ?_
  cases h
  exact And.intro trivial ⟨_, Res.one (resOne.b hS21 4 rfl ag85 rfl rfl), a18, c19, a23, c24, a28, c29, rfl, hS21.pick [2, 1, 0] rfl rfl⟩

theorem W_l_toObjS {w0 : World} {N : Nat} {x0 : List DObj} {r : (List DObj)} (h : F_l_toObjS N x0 = some r) {a0_0 : Option Addr} {n0_0 c0_0 : Nat} (hn0_0 : n0_0 = x0.length) (hr0_0 : rdS (Bor w0 []) w0 a0_0 c0_0 x0) :
    Ret Tryz.prog 92 #[.slice a0_0 n0_0 c0_0] w0 (fun v w => ∃ ar0 cr0, v = .slice ar0 r.length cr0 ∧ St w0 [] w [sl ar0 cr0 r]) := by
  subst hn0_0
  unfold F_l_toObjS at h
  refine Ret.fn Tryz.func92 fun e => ?_
  have hS1 := St.start w0
  refine go ?_
  replace ⟨y1, hy1, h⟩ := obind h
  refine LW.mk sT40 rfl rfl hy1 hS1 rfl ?_
  intro a2 c3 w4 hS2 hf
  refine go ?_
  obtain ⟨o41, ho41, h42⟩ := obind h
  refine CW.mono (CW.iter (σ := (List DObj) × Int) (ρ := (List DObj) × Int) (fun s5 e wb => En e [(0, .slice a0_0 x0.length c0_0), (3, .slice a2 s5.1.length c3), (4, .int .i64 s5.2)] ∧ St w0 [] wb [sl a2 c3 s5.1]) (fun s5 x e wb => x = .exit 0 ∧ En e [(3, .slice a2 s5.1.length c3)] ∧ St w0 [] wb [sl a2 c3 s5.1]) ?_ N (y1, 0) _ _ _ ⟨⟨rfl, rfl, rfl, trivial⟩, hS2.pick [0] rfl rfl⟩ ho41) ?_
  · intro s5 e w6 o hM h
    obtain ⟨hE, hS3⟩ := hM
    obtain ⟨e, rfl⟩ := hE.out
    refine go ?_
    refine CW.cond rfl (fun hc7 => ?_) (fun hc7 => ?_)
    · replace h := bcT h hc7
      refine go ?_
      replace ⟨y8, hy8, h⟩ := obind h
      obtain ⟨b11, o12, cs13, hae, hb16, hp9, hq10, hd14, hk15⟩ := hr0_0.idx hy8
      subst hae
      obtain ⟨a17, c18, a20, c21, a23, c24, rfl, hr19, hr22, hr25⟩ := hd14
      refine LW.u (Pur.ix Tryz.underlying26 sz168 rfl rfl hp9 hq10) rfl ?_
      refine LW.l (Ldr.oldN w0 ag168 rfl rfl (fun j u hu => hk15 j u hu)) (hS3.same _ hb16.1 hb16.2) rfl ?_
      replace ⟨y26, hy26, h⟩ := obind h
      refine LW.cl (W_l_toObj hy26 rfl (hS3.rB hr19) rfl (hS3.rB hr22) rfl (hS3.rB hr25)) ?_
      rintro _ w33 ⟨a27, c28, a29, c30, a31, c32, rfl, hs⟩
      have hS4 := hS3.add hs
      replace ⟨y34, hy34, h⟩ := obind h
      obtain ⟨b37, o38, hae, hp35, hq36⟩ := hS4.ownIdx (α := DObj) (i := 3) rfl hy34
      subst hae
      refine LW.u (Pur.ix Tryz.underlying40 sz85 rfl rfl hp35 hq36) rfl ?_
      have hS5 := hS4.pick (M := [sl a27 c28 y26.links, sl a29 c30 y26.data, sl a31 c32 y26.queue] ++ [sl (some ⟨b37, o38, none⟩) c3 s5.1]) [0, 1, 2, 3] rfl rfl
      replace ⟨y39, hy39, h⟩ := obind h
      refine LW.stE (M := [sl a27 c28 y26.links, sl a29 c30 y26.data, sl a31 c32 y26.queue]) (L := [sl (some ⟨b37, o38, none⟩) c3 s5.1]) (z := y34) (z' := y26) (o := 0) hS5 (i := 0) rfl hy34 ag85 rfl (by show _ = o38 + (s5.2 : Int).toNat * 13 + 0; omega) rfl rfl rfl rfl (whole (fun w G hG => ⟨a27, c28, a29, c30, a31, c32, rfl, hG⟩)) ?_
      intro w40 hS6 hf
      rw [Option.some.inj hy39] at hS6
      refine go ?_
      cases oi h
      exact ⟨rfl, ⟨⟨rfl, (show (.slice (some ⟨b37, o38, none⟩) s5.1.length c3 : Value) = .slice (some ⟨b37, o38, none⟩) y39.length c3 by rw [show s5.1.length = y39.length from (len_set (Option.some.inj hy39))]), rfl, trivial⟩, hS6.pick [0] rfl rfl⟩⟩
    replace h := bcF h hc7
    refine go ?_
    cases oi h
    exact ⟨trivial, rfl, ⟨⟨rfl, trivial⟩, hS3.pick [0] rfl rfl⟩⟩
  intro x e w43 hM
  obtain ⟨rfl, hM⟩ := hM
  obtain ⟨hE, hS7⟩ := hM
  obtain ⟨e, rfl⟩ := hE.out
  have h := h42
  refine go ?_
  cases h
  exact And.intro trivial ⟨_, Res.one (resOne.t rfl), a2, c3, rfl, hS7.pick [0] rfl rfl⟩

theorem W_l_toGc {w0 : World} {N : Nat} {x0 : DGc} {r : DGc} (h : F_l_toGc N x0 = some r) {a0_3 : Option Addr} {n0_3 c0_3 : Nat} (hn0_3 : n0_3 = x0.grey.length) (hr0_3 : rdS (Bor w0 []) w0 a0_3 c0_3 x0.grey) :
    Ret Tryz.prog 93 #[.agg #[.int .i64 x0.phase, .int .i64 x0.pos, .int .i64 x0.round, .slice a0_3 n0_3 c0_3]] w0 (fun v w => ∃ ar0_3 cr0_3, v = .agg #[.int .i64 r.phase, .int .i64 r.pos, .int .i64 r.round, .slice ar0_3 r.grey.length cr0_3] ∧ St w0 [] w [sl ar0_3 cr0_3 r.grey]) := by
  subst hn0_3
  unfold F_l_toGc at h
  refine Ret.fn Tryz.func93 fun e => ?_
  have hS1 := St.start w0
  refine go ?_
  refine LW.bo hS1 fun g1 w2 hS2 => ?_
  refine LW.al hS2 fun g3 w4 hS3 => ?_
  refine go ?_
  refine LW.al hS3 fun g5 w6 hS4 => ?_
  refine go ?_
  refine LW.st hS4 0 fun w7 hS5 => ?_
  refine go ?_
  refine LW.st hS5 0 fun w8 hS6 => ?_
  refine go ?_
  refine LW.st hS6 0 fun w9 hS7 => ?_
  refine go ?_
  replace ⟨y10, hy10, h⟩ := obind h
  refine LW.cl (W_l_toIntS hy10 rfl (hS7.rB hr0_3)) ?_
  rintro _ w13 ⟨a11, c12, rfl, hs⟩
  have hS8 := hS7.add hs
  refine go ?_
  refine LW.st hS8 1 fun w14 hS9 => ?_
  refine go ?_
  refine LW.st hS9 2 fun w15 hS10 => ?_
  refine go ?_
  cases h
  exact And.intro trivial ⟨_, Res.one (resOne.b hS10 2 rfl ag41 rfl rfl), a11, c12, rfl, hS10.pick [0] rfl rfl⟩

theorem W_l_toHeap {w0 : World} {N : Nat} {x0 : DHeap} {r : DHeap} (h : F_l_toHeap N x0 = some r) {a0_0 : Option Addr} {n0_0 c0_0 : Nat} (hn0_0 : n0_0 = x0.arena.length) (hr0_0 : rdS (Bor w0 []) w0 a0_0 c0_0 x0.arena) {a0_4 : Option Addr} {n0_4 c0_4 : Nat} (hn0_4 : n0_4 = x0.gc.grey.length) (hr0_4 : rdS (Bor w0 []) w0 a0_4 c0_4 x0.gc.grey) :
    Ret Tryz.prog 44 #[.agg #[.slice a0_0 n0_0 c0_0, .int .i64 x0.gc.phase, .int .i64 x0.gc.pos, .int .i64 x0.gc.round, .slice a0_4 n0_4 c0_4]] w0 (fun v w => ∃ ar0_0 cr0_0, ∃ ar0_4 cr0_4, v = .agg #[.slice ar0_0 r.arena.length cr0_0, .int .i64 r.gc.phase, .int .i64 r.gc.pos, .int .i64 r.gc.round, .slice ar0_4 r.gc.grey.length cr0_4] ∧ St w0 [] w [sl ar0_0 cr0_0 r.arena, sl ar0_4 cr0_4 r.gc.grey]) := by
  subst hn0_0 hn0_4
  unfold F_l_toHeap at h
  refine Ret.fn Tryz.func44 fun e => ?_
  have hS1 := St.start w0
  refine go ?_
  refine LW.bo hS1 fun g1 w2 hS2 => ?_
  refine LW.al hS2 fun g3 w4 hS3 => ?_
  refine go ?_
  refine LW.al hS3 fun g5 w6 hS4 => ?_
  refine go ?_
  replace ⟨y7, hy7, h⟩ := obind h
  refine LW.cl (W_l_toObjS hy7 rfl (hS4.rB hr0_0)) ?_
  rintro _ w10 ⟨a8, c9, rfl, hs⟩
  have hS5 := hS4.add hs
  refine go ?_
  refine LW.st hS5 1 fun w11 hS6 => ?_
  refine go ?_
  replace ⟨y12, hy12, h⟩ := obind h
  refine LW.cl (W_l_toGc hy12 rfl (hS6.rB hr0_4)) ?_
  rintro _ w15 ⟨a13, c14, rfl, hs⟩
  have hS7 := hS6.add hs
  refine go ?_
  refine LW.st hS7 2 fun w16 hS8 => ?_
  refine go ?_
  refine LW.st hS8 3 fun w17 hS9 => ?_
  refine go ?_
  cases h
  exact And.intro trivial ⟨_, Res.one (resOne.b hS9 3 rfl ag43 rfl rfl), a8, c9, a13, c14, rfl, hS9.pick [1, 0] rfl rfl⟩

theorem W_l_toTap {w0 : World} {N : Nat} {x0 : DTap} {r : DTap} (h : F_l_toTap N x0 = some r) :
    Ret Tryz.prog 94 #[.agg #[.int .i64 x0.res, .int .i64 x0.toPart, .int .i64 x0.toRes, .int .i64 x0.which, .int .i64 x0.kind, .int .i64 x0.rate]] w0 (fun v w => v = .agg #[.int .i64 r.res, .int .i64 r.toPart, .int .i64 r.toRes, .int .i64 r.which, .int .i64 r.kind, .int .i64 r.rate] ∧ St w0 [] w []) := by
  unfold F_l_toTap at h
  refine Ret.fn Tryz.func94 fun e => ?_
  have hS1 := St.start w0
  refine go ?_
  refine LW.bo hS1 fun g1 w2 hS2 => ?_
  refine LW.al hS2 fun g3 w4 hS3 => ?_
  refine go ?_
  refine LW.al hS3 fun g5 w6 hS4 => ?_
  refine go ?_
  refine LW.st hS4 0 fun w7 hS5 => ?_
  refine go ?_
  refine LW.st hS5 0 fun w8 hS6 => ?_
  refine go ?_
  refine LW.st hS6 0 fun w9 hS7 => ?_
  refine go ?_
  refine LW.st hS7 0 fun w10 hS8 => ?_
  refine go ?_
  refine LW.st hS8 0 fun w11 hS9 => ?_
  refine go ?_
  refine LW.fl [2, 3, 20, 21] fun e => ?_
  refine LW.st hS9 0 fun w12 hS10 => ?_
  refine go ?_
  refine LW.st hS10 1 fun w13 hS11 => ?_
  refine go ?_
  cases h
  exact And.intro trivial ⟨_, Res.one (resOne.b hS11 1 rfl ag135 rfl rfl), rfl, hS11.pick [] rfl rfl⟩

theorem W_l_toTapS {w0 : World} {N : Nat} {x0 : List DTap} {r : (List DTap)} (h : F_l_toTapS N x0 = some r) {a0_0 : Option Addr} {n0_0 c0_0 : Nat} (hn0_0 : n0_0 = x0.length) (hr0_0 : rdS (Bor w0 []) w0 a0_0 c0_0 x0) :
    Ret Tryz.prog 45 #[.slice a0_0 n0_0 c0_0] w0 (fun v w => ∃ ar0 cr0, v = .slice ar0 r.length cr0 ∧ St w0 [] w [sl ar0 cr0 r]) := by
  subst hn0_0
  unfold F_l_toTapS at h
  refine Ret.fn Tryz.func45 fun e => ?_
  have hS1 := St.start w0
  refine go ?_
  replace ⟨y1, hy1, h⟩ := obind h
  refine LW.mk sT44 rfl rfl hy1 hS1 rfl ?_
  intro a2 c3 w4 hS2 hf
  refine go ?_
  obtain ⟨o26, ho26, h27⟩ := obind h
  refine CW.mono (CW.iter (σ := (List DTap) × Int) (ρ := (List DTap) × Int) (fun s5 e wb => En e [(0, .slice a0_0 x0.length c0_0), (3, .slice a2 s5.1.length c3), (4, .int .i64 s5.2)] ∧ St w0 [] wb [sl a2 c3 s5.1]) (fun s5 x e wb => x = .exit 0 ∧ En e [(3, .slice a2 s5.1.length c3)] ∧ St w0 [] wb [sl a2 c3 s5.1]) ?_ N (y1, 0) _ _ _ ⟨⟨rfl, rfl, rfl, trivial⟩, hS2.pick [0] rfl rfl⟩ ho26) ?_
  · intro s5 e w6 o hM h
    obtain ⟨hE, hS3⟩ := hM
    obtain ⟨e, rfl⟩ := hE.out
    refine go ?_
    refine CW.cond rfl (fun hc7 => ?_) (fun hc7 => ?_)
    · replace h := bcT h hc7
      refine go ?_
      replace ⟨y8, hy8, h⟩ := obind h
      obtain ⟨b11, o12, cs13, hae, hb16, hp9, hq10, hd14, hk15⟩ := hr0_0.idx hy8
      subst hae
      obtain rfl := hd14
      refine LW.u (Pur.ix Tryz.underlying31 sz137 rfl rfl hp9 hq10) rfl ?_
      refine LW.l (Ldr.oldN w0 ag137 rfl rfl (fun j u hu => hk15 j u hu)) (hS3.same _ hb16.1 hb16.2) rfl ?_
      replace ⟨y17, hy17, h⟩ := obind h
      refine LW.c0 (W_l_toTap hy17) hS3 fun w18 hS4 => ?_
      replace ⟨y19, hy19, h⟩ := obind h
      obtain ⟨b22, o23, hae, hp20, hq21⟩ := hS4.ownIdx (α := DTap) (i := 0) rfl hy19
      subst hae
      refine LW.u (Pur.ix Tryz.underlying44 sz135 rfl rfl hp20 hq21) rfl ?_
      replace ⟨y24, hy24, h⟩ := obind h
      refine LW.stE (M := []) (L := [sl (some ⟨b22, o23, none⟩) c3 s5.1]) (z := y19) (z' := y17) (o := 0) hS4 (i := 0) rfl hy19 ag135 rfl (by show _ = o23 + (s5.2 : Int).toNat * 6 + 0; omega) rfl rfl rfl rfl (whole (fun w G hG => by cases (show G = [] from hG); exact ⟨rfl, rfl⟩)) ?_
      intro w25 hS5 hf
      rw [Option.some.inj hy24] at hS5
      refine go ?_
      cases oi h
      exact ⟨rfl, ⟨⟨rfl, (show (.slice (some ⟨b22, o23, none⟩) s5.1.length c3 : Value) = .slice (some ⟨b22, o23, none⟩) y24.length c3 by rw [show s5.1.length = y24.length from (len_set (Option.some.inj hy24))]), rfl, trivial⟩, hS5.pick [0] rfl rfl⟩⟩
    replace h := bcF h hc7
    refine go ?_
    cases oi h
    exact ⟨trivial, rfl, ⟨⟨rfl, trivial⟩, hS3.pick [0] rfl rfl⟩⟩
  intro x e w28 hM
  obtain ⟨rfl, hM⟩ := hM
  obtain ⟨hE, hS6⟩ := hM
  obtain ⟨e, rfl⟩ := hE.out
  have h := h27
  refine go ?_
  cases h
  exact And.intro trivial ⟨_, Res.one (resOne.t rfl), a2, c3, rfl, hS6.pick [0] rfl rfl⟩

theorem W_l_toPart {w0 : World} {N : Nat} {x0 : DPart} {r : DPart} (h : F_l_toPart N x0 = some r) {a0_0 : Option Addr} {n0_0 c0_0 : Nat} (hn0_0 : n0_0 = x0.label.levels.length) (hr0_0 : rdS (Bor w0 []) w0 a0_0 c0_0 x0.label.levels) {a0_1 : Option Addr} {n0_1 c0_1 : Nat} (hn0_1 : n0_1 = x0.own.length) (hr0_1 : rdS (Bor w0 []) w0 a0_1 c0_1 x0.own) {a0_2 : Option Addr} {n0_2 c0_2 : Nat} (hn0_2 : n0_2 = x0.tree.length) (hr0_2 : rdS (Bor w0 []) w0 a0_2 c0_2 x0.tree) {a0_3 : Option Addr} {n0_3 c0_3 : Nat} (hn0_3 : n0_3 = x0.heap.arena.length) (hr0_3 : rdS (Bor w0 []) w0 a0_3 c0_3 x0.heap.arena) {a0_7 : Option Addr} {n0_7 c0_7 : Nat} (hn0_7 : n0_7 = x0.heap.gc.grey.length) (hr0_7 : rdS (Bor w0 []) w0 a0_7 c0_7 x0.heap.gc.grey) {a0_8 : Option Addr} {n0_8 c0_8 : Nat} (hn0_8 : n0_8 = x0.taps.length) (hr0_8 : rdS (Bor w0 []) w0 a0_8 c0_8 x0.taps) :
    Ret Tryz.prog 10 #[.agg #[.slice a0_0 n0_0 c0_0, .slice a0_1 n0_1 c0_1, .slice a0_2 n0_2 c0_2, .slice a0_3 n0_3 c0_3, .int .i64 x0.heap.gc.phase, .int .i64 x0.heap.gc.pos, .int .i64 x0.heap.gc.round, .slice a0_7 n0_7 c0_7, .slice a0_8 n0_8 c0_8, .int .i64 x0.next, .int .i64 x0.want, .int .i64 x0.spent.pages, .int .i64 x0.spent.rent, .int .i64 x0.spent.cpu, .int .i64 x0.press, .int .i64 x0.lost]] w0 (fun v w => ∃ ar0_0 cr0_0, ∃ ar0_1 cr0_1, ∃ ar0_2 cr0_2, ∃ ar0_3 cr0_3, ∃ ar0_7 cr0_7, ∃ ar0_8 cr0_8, v = .agg #[.slice ar0_0 r.label.levels.length cr0_0, .slice ar0_1 r.own.length cr0_1, .slice ar0_2 r.tree.length cr0_2, .slice ar0_3 r.heap.arena.length cr0_3, .int .i64 r.heap.gc.phase, .int .i64 r.heap.gc.pos, .int .i64 r.heap.gc.round, .slice ar0_7 r.heap.gc.grey.length cr0_7, .slice ar0_8 r.taps.length cr0_8, .int .i64 r.next, .int .i64 r.want, .int .i64 r.spent.pages, .int .i64 r.spent.rent, .int .i64 r.spent.cpu, .int .i64 r.press, .int .i64 r.lost] ∧ St w0 [] w [sl ar0_0 cr0_0 r.label.levels, sl ar0_1 cr0_1 r.own, sl ar0_2 cr0_2 r.tree, sl ar0_3 cr0_3 r.heap.arena, sl ar0_7 cr0_7 r.heap.gc.grey, sl ar0_8 cr0_8 r.taps]) := by
  subst hn0_0 hn0_1 hn0_2 hn0_3 hn0_7 hn0_8
  unfold F_l_toPart at h
  refine Ret.fn Tryz.func10 fun e => ?_
  have hS1 := St.start w0
  refine go ?_
  refine LW.bo hS1 fun g1 w2 hS2 => ?_
  refine LW.al hS2 fun g3 w4 hS3 => ?_
  refine go ?_
  refine LW.al hS3 fun g5 w6 hS4 => ?_
  refine go ?_
  replace ⟨y7, hy7, h⟩ := obind h
  refine LW.cl (W_l_toLabel hy7 rfl (hS4.rB hr0_0)) ?_
  rintro _ w10 ⟨a8, c9, rfl, hs⟩
  have hS5 := hS4.add hs
  refine go ?_
  refine LW.st hS5 1 fun w11 hS6 => ?_
  refine go ?_
  replace ⟨y12, hy12, h⟩ := obind h
  refine LW.cl (W_l_toIntS hy12 rfl (hS6.rB hr0_1)) ?_
  rintro _ w15 ⟨a13, c14, rfl, hs⟩
  have hS7 := hS6.add hs
  refine go ?_
  refine LW.st hS7 2 fun w16 hS8 => ?_
  refine go ?_
  replace ⟨y17, hy17, h⟩ := obind h
  refine LW.cl (W_l_toResS hy17 rfl (hS8.rB hr0_2)) ?_
  rintro _ w20 ⟨a18, c19, rfl, hs⟩
  have hS9 := hS8.add hs
  refine go ?_
  refine LW.st hS9 3 fun w21 hS10 => ?_
  refine go ?_
  replace ⟨y22, hy22, h⟩ := obind h
  refine LW.cl (W_l_toHeap hy22 rfl (hS10.rB hr0_3) rfl (hS10.rB hr0_7)) ?_
  rintro _ w27 ⟨a23, c24, a25, c26, rfl, hs⟩
  have hS11 := hS10.add hs
  refine go ?_
  refine LW.st hS11 5 fun w28 hS12 => ?_
  refine go ?_
  refine LW.fl [1, 2, 3, 21] fun e => ?_
  replace ⟨y29, hy29, h⟩ := obind h
  refine LW.cl (W_l_toTapS hy29 rfl (hS12.rB hr0_8)) ?_
  rintro _ w32 ⟨a30, c31, rfl, hs⟩
  have hS13 := hS12.add hs
  refine go ?_
  refine LW.st hS13 6 fun w33 hS14 => ?_
  refine go ?_
  refine LW.st hS14 6 fun w34 hS15 => ?_
  refine go ?_
  refine LW.st hS15 6 fun w35 hS16 => ?_
  refine go ?_
  replace ⟨y36, hy36, h⟩ := obind h
  refine LW.c0 (W_l_toAmt hy36) hS16 fun w37 hS17 => ?_
  refine go ?_
  refine LW.st hS17 6 fun w38 hS18 => ?_
  refine go ?_
  refine LW.st hS18 6 fun w39 hS19 => ?_
  refine go ?_
  refine LW.st hS19 6 fun w40 hS20 => ?_
  refine go ?_
  refine LW.fl [2, 40] fun e => ?_
  refine LW.st hS20 7 fun w41 hS21 => ?_
  refine go ?_
  cases h
  exact And.intro trivial ⟨_, Res.one (resOne.b hS21 7 rfl ag47 rfl rfl), a8, c9, a13, c14, a18, c19, a23, c24, a25, c26, a30, c31, rfl, hS21.pick [5, 4, 3, 1, 2, 0] rfl rfl⟩

theorem W_s_l6Sum {w0 : World} {N : Nat} {x0 : List DRes} {r : DAmt} (h : F_s_l6Sum N x0 = some r) {a0_0 : Option Addr} {n0_0 c0_0 : Nat} (hn0_0 : n0_0 = x0.length) (hr0_0 : rdS (Bor w0 []) w0 a0_0 c0_0 x0) :
    Ret Tryz.prog 172 #[.slice a0_0 n0_0 c0_0] w0 (fun v w => v = .agg #[.int .i64 r.pages, .int .i64 r.rent, .int .i64 r.cpu] ∧ St w0 [] w []) := by
  subst hn0_0
  unfold F_s_l6Sum at h
  refine Ret.fn Tryz.func172 fun e => ?_
  have hS1 := St.start w0
  refine go ?_
  refine LW.al hS1 fun g1 w2 hS2 => ?_
  refine go ?_
  refine LW.u (Pur.build (vs := []) (cs := #[.int .i64 0, .int .i64 0, .int .i64 0]) rfl (by kernel_rfl)) rfl ?_
  refine LW.al hS2 fun g3 w4 hS3 => ?_
  refine LW.st hS3 0 fun w5 hS4 => ?_
  refine go ?_
  obtain ⟨o22, ho22, h23⟩ := obind h
  refine CW.mono (CW.iter (σ := Int × Int × Int × Int) (ρ := Int × Int × Int × Int) (fun s6 e wb => En e [(0, .slice a0_0 x0.length c0_0), (2, .pointer (some ⟨g1, 0, none⟩)), (3, .pointer (some ⟨g3, 0, none⟩)), (4, .int .i64 s6.1)] ∧ St w0 [] wb [bx g3 45 [.int .i64 s6.2.1, .int .i64 s6.2.2.1, .int .i64 s6.2.2.2], bx g1 45 [.int .i64 0, .int .i64 0, .int .i64 0]]) (fun s6 x e wb => x = .exit 0 ∧ En e [(2, .pointer (some ⟨g1, 0, none⟩)), (3, .pointer (some ⟨g3, 0, none⟩))] ∧ St w0 [] wb [bx g3 45 [.int .i64 s6.2.1, .int .i64 s6.2.2.1, .int .i64 s6.2.2.2], bx g1 45 [.int .i64 0, .int .i64 0, .int .i64 0]]) ?_ N (0, 0, 0, 0) _ _ _ ⟨⟨rfl, rfl, rfl, rfl, trivial⟩, hS4.pick [0, 1] rfl rfl⟩ ho22) ?_
  · intro s6 e w7 o hM h
    obtain ⟨hE, hS5⟩ := hM
    obtain ⟨e, rfl⟩ := hE.out
    refine go ?_
    refine CW.cond rfl (fun hc8 => ?_) (fun hc8 => ?_)
    · replace h := bcT h hc8
      refine go ?_
      replace ⟨y9, hy9, h⟩ := obind h
      obtain ⟨b12, o13, cs14, hae, hb17, hp10, hq11, hd15, hk16⟩ := hr0_0.idx hy9
      subst hae
      obtain rfl := hd15
      refine LW.u (Pur.ix Tryz.underlying39 sz87 rfl rfl hp10 hq11) rfl ?_
      refine go ?_
      refine LW.l (Ldr.old w0 ag4 rfl (hk16 0 _ rfl)) (hS5.same _ hb17.1 hb17.2) rfl ?_
      refine go ?_
      refine CW.fl [0, 2, 3, 4, 16] fun e => ?_
      refine CW.cond rfl (fun hc18 => ?_) (fun hc18 => ?_)
      · replace h := bcT h hc18
        refine go ?_
        refine CW.draw (by kernel_rfl) ?_
        have hS6 := hS5.drew
        refine AW.u (i := 0) rfl (by kernel_rfl) rfl rfl (Pur.fa fo45_0 rfl) ?_
        refine AW.take (i := 1) rfl (by kernel_rfl) rfl rfl (Ldr.box (bt := 45) (fr := (0, 0)) (cs := [.int .i64 s6.2.1, .int .i64 s6.2.2.1, .int .i64 s6.2.2.2]) ag3 rfl rfl) (St.cell (h := hS6) (i := 0) rfl) ?_
        refine AW.u (i := 2) rfl (by kernel_rfl) rfl rfl (Pur.p rfl) ?_
        refine AW.u (i := 3) rfl (by kernel_rfl) rfl rfl (Pur.p rfl) ?_
        refine AW.u (i := 4) rfl (by kernel_rfl) rfl rfl (Pur.ix Tryz.underlying39 sz87 rfl rfl hp10 hq11) ?_
        refine AW.u (i := 5) rfl (by kernel_rfl) rfl rfl (Pur.fa fo87_2 rfl) ?_
        refine AW.u (i := 6) rfl (by kernel_rfl) rfl rfl (Pur.fa fo45_0 rfl) ?_
        refine AW.take (i := 7) rfl (by kernel_rfl) rfl rfl (Ldr.old w0 ag3 rfl (hk16 2 _ rfl)) (hS6.same _ hb17.1 hb17.2) ?_
        refine AW.u (i := 8) rfl (by kernel_rfl) rfl rfl (Pur.p rfl) ?_
        refine AW.u (i := 9) rfl (by kernel_rfl) rfl rfl (Pur.fa fo45_0 rfl) ?_
        refine AW.one (i := 10) (by kernel_rfl) ?_
        refine ⟨_, rfl, ?_⟩
        refine LW.st hS6 0 fun w19 hS7 => ?_
        refine LW.nil ⟨rfl, (.w (by kernel_rfl) (.w (by kernel_rfl) Kept.n)), ?_⟩
        refine AW.done (by kernel_rfl) ?_
        refine go ?_
        refine CW.draw (by kernel_rfl) ?_
        have hS8 := hS7.drew
        refine AW.u (i := 0) rfl (by kernel_rfl) rfl rfl (Pur.fa fo45_1 rfl) ?_
        refine AW.take (i := 1) rfl (by kernel_rfl) rfl rfl (Ldr.box (bt := 45) (fr := (0, 0)) (cs := [.int .i64 (IntKind.i64.wrap (s6.2.1 + y9.bal.pages)), .int .i64 s6.2.2.1, .int .i64 s6.2.2.2]) ag3 rfl rfl) (St.cell (h := hS8) (i := 0) rfl) ?_
        refine AW.u (i := 2) rfl (by kernel_rfl) rfl rfl (Pur.p rfl) ?_
        refine AW.u (i := 3) rfl (by kernel_rfl) rfl rfl (Pur.p rfl) ?_
        refine AW.u (i := 4) rfl (by kernel_rfl) rfl rfl (Pur.ix Tryz.underlying39 sz87 rfl rfl hp10 hq11) ?_
        refine AW.u (i := 5) rfl (by kernel_rfl) rfl rfl (Pur.fa fo87_2 rfl) ?_
        refine AW.u (i := 6) rfl (by kernel_rfl) rfl rfl (Pur.fa fo45_1 rfl) ?_
        refine AW.take (i := 7) rfl (by kernel_rfl) rfl rfl (Ldr.old w0 ag3 rfl (hk16 3 _ rfl)) (hS8.same _ hb17.1 hb17.2) ?_
        refine AW.u (i := 8) rfl (by kernel_rfl) rfl rfl (Pur.p rfl) ?_
        refine AW.u (i := 9) rfl (by kernel_rfl) rfl rfl (Pur.fa fo45_1 rfl) ?_
        refine AW.one (i := 10) (by kernel_rfl) ?_
        refine ⟨_, rfl, ?_⟩
        refine LW.st hS8 0 fun w20 hS9 => ?_
        refine LW.nil ⟨rfl, (.w (by kernel_rfl) (.w (by kernel_rfl) Kept.n)), ?_⟩
        refine AW.done (by kernel_rfl) ?_
        refine go ?_
        refine CW.draw (by kernel_rfl) ?_
        have hS10 := hS9.drew
        refine AW.u (i := 0) rfl (by kernel_rfl) rfl rfl (Pur.fa fo45_2 rfl) ?_
        refine AW.take (i := 1) rfl (by kernel_rfl) rfl rfl (Ldr.box (bt := 45) (fr := (0, 0)) (cs := [.int .i64 (IntKind.i64.wrap (s6.2.1 + y9.bal.pages)), .int .i64 (IntKind.i64.wrap (s6.2.2.1 + y9.bal.rent)), .int .i64 s6.2.2.2]) ag3 rfl rfl) (St.cell (h := hS10) (i := 0) rfl) ?_
        refine AW.u (i := 2) rfl (by kernel_rfl) rfl rfl (Pur.p rfl) ?_
        refine AW.u (i := 3) rfl (by kernel_rfl) rfl rfl (Pur.p rfl) ?_
        refine AW.u (i := 4) rfl (by kernel_rfl) rfl rfl (Pur.ix Tryz.underlying39 sz87 rfl rfl hp10 hq11) ?_
        refine AW.u (i := 5) rfl (by kernel_rfl) rfl rfl (Pur.fa fo87_2 rfl) ?_
        refine AW.u (i := 6) rfl (by kernel_rfl) rfl rfl (Pur.fa fo45_2 rfl) ?_
        refine AW.take (i := 7) rfl (by kernel_rfl) rfl rfl (Ldr.old w0 ag3 rfl (hk16 4 _ rfl)) (hS10.same _ hb17.1 hb17.2) ?_
        refine AW.u (i := 8) rfl (by kernel_rfl) rfl rfl (Pur.p rfl) ?_
        refine AW.u (i := 9) rfl (by kernel_rfl) rfl rfl (Pur.fa fo45_2 rfl) ?_
        refine AW.one (i := 10) (by kernel_rfl) ?_
        refine ⟨_, rfl, ?_⟩
        refine LW.st hS10 0 fun w21 hS11 => ?_
        refine LW.nil ⟨rfl, (.w (by kernel_rfl) (.w (by kernel_rfl) Kept.n)), ?_⟩
        refine AW.done (by kernel_rfl) ?_
        refine go ?_
        cases oi h
        exact ⟨rfl, ⟨⟨rfl, rfl, rfl, rfl, trivial⟩, hS11.pick [0, 1] rfl rfl⟩⟩
      replace h := bcF h hc18
      refine go ?_
      cases oi h
      exact ⟨rfl, ⟨⟨rfl, rfl, rfl, rfl, trivial⟩, hS5.pick [0, 1] rfl rfl⟩⟩
    replace h := bcF h hc8
    refine go ?_
    cases oi h
    exact ⟨trivial, rfl, ⟨⟨rfl, rfl, trivial⟩, hS5.pick [0, 1] rfl rfl⟩⟩
  intro x e w24 hM
  obtain ⟨rfl, hM⟩ := hM
  obtain ⟨hE, hS12⟩ := hM
  obtain ⟨e, rfl⟩ := hE.out
  have h := h23
  refine go ?_
  refine LW.st hS12 1 fun w25 hS13 => ?_
  refine go ?_
  cases h
  exact And.intro trivial ⟨_, Res.one (resOne.b hS13 1 rfl ag45 rfl rfl), rfl, hS13.pick [] rfl rfl⟩

end Go.Kx
