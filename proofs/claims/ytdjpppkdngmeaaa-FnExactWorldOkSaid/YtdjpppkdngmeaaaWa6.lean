/- Each call returns what the plain function says. Printed by drive.py. -/
import Derived.Test.YtdjpppkdngmeaaaFa
import Derived.Test.YtdjpppkdngmeaaaPu
import Derived.Test.YtdjpppkdngmeaaaWa0
namespace Go.Kx
open Go Go.RowKit Go.Proofs
set_option maxRecDepth 10000
set_option maxHeartbeats 2000000
set_option linter.unusedVariables false
set_option linter.unusedSimpArgs false
theorem W_l_szResS {w0 : World} {N : Nat} {x0 : List DRes} {x1 : Int} {r : Int} (h : F_l_szResS N x0 x1 = some r) {a0_0 : Option Addr} {n0_0 c0_0 : Nat} (hn0_0 : n0_0 = x0.length) (hr0_0 : rdS (Bor w0 []) w0 a0_0 c0_0 x0) :
    Ret Try.prog 67 #[.slice a0_0 n0_0 c0_0, .int .i64 x1] w0 (fun v w => v = .int .i64 r ∧ St w0 [] w []) := by
  subst hn0_0
  unfold F_l_szResS at h
  refine Ret.of Try.func67 rfl rfl rfl ?_
  have hS1 := St.start w0
  refine CW.seq ?_
  refine CW.region ?_
  refine LW.p rfl rfl ?_
  refine LW.nil ?_
  show CW _ _ _ _ _ _
  refine CW.seq ?_
  refine CW.region ?_
  iterate 2 refine LW.p rfl rfl ?_
  refine LW.u (Pur.len Try.underlying54 rfl) rfl ?_
  iterate 2 refine LW.p rfl rfl ?_
  refine LW.nil ?_
  show CW _ _ _ _ _ _
  refine CW.seq ?_
  refine CW.seq ?_
  refine CW.region ?_
  iterate 2 refine LW.p rfl rfl ?_
  refine LW.nil ?_
  show CW _ _ _ _ _ _
  refine CW.cond rfl (fun hc1 => ?_) (fun hc1 => ?_)
  · replace h := bcT h hc1
    refine CW.seq ?_
    refine CW.region ?_
    refine LW.p rfl rfl ?_
    refine LW.nil ?_
    show CW _ _ _ _ _ _
    refine CW.ret ?_
    cases h
    exact And.intro trivial ⟨_, Res.one (resOne.t rfl), rfl, hS1.pick [] rfl rfl⟩
  replace h := bcF h hc1
  refine CW.skip ?_
  show CW _ _ _ _ _ _
  refine CW.seq ?_
  refine CW.region ?_
  iterate 2 refine LW.p rfl rfl ?_
  refine LW.nil ?_
  show CW _ _ _ _ _ _
  refine CW.ret ?_
  cases h
  exact And.intro trivial ⟨_, Res.one (resOne.t rfl), rfl, hS1.pick [] rfl rfl⟩

theorem W_l_szMsgS {w0 : World} {N : Nat} {x0 : List DMsg} {x1 : Int} {r : Int} (h : F_l_szMsgS N x0 x1 = some r) {a0_0 : Option Addr} {n0_0 c0_0 : Nat} (hn0_0 : n0_0 = x0.length) (hr0_0 : rdS (Bor w0 []) w0 a0_0 c0_0 x0) :
    Ret Try.prog 194 #[.slice a0_0 n0_0 c0_0, .int .i64 x1] w0 (fun v w => v = .int .i64 r ∧ St w0 [] w []) := by
  subst hn0_0
  unfold F_l_szMsgS at h
  refine Ret.of Try.func194 rfl rfl rfl ?_
  have hS1 := St.start w0
  refine CW.seq ?_
  refine CW.region ?_
  refine LW.p rfl rfl ?_
  refine LW.nil ?_
  show CW _ _ _ _ _ _
  refine CW.seq ?_
  refine CW.region ?_
  iterate 2 refine LW.p rfl rfl ?_
  refine LW.u (Pur.len Try.underlying189 rfl) rfl ?_
  iterate 2 refine LW.p rfl rfl ?_
  refine LW.nil ?_
  show CW _ _ _ _ _ _
  refine CW.seq ?_
  refine CW.seq ?_
  refine CW.region ?_
  iterate 2 refine LW.p rfl rfl ?_
  refine LW.nil ?_
  show CW _ _ _ _ _ _
  refine CW.cond rfl (fun hc1 => ?_) (fun hc1 => ?_)
  · replace h := bcT h hc1
    refine CW.seq ?_
    refine CW.region ?_
    refine LW.p rfl rfl ?_
    refine LW.nil ?_
    show CW _ _ _ _ _ _
    refine CW.ret ?_
    cases h
    exact And.intro trivial ⟨_, Res.one (resOne.t rfl), rfl, hS1.pick [] rfl rfl⟩
  replace h := bcF h hc1
  refine CW.skip ?_
  show CW _ _ _ _ _ _
  refine CW.seq ?_
  refine CW.region ?_
  iterate 2 refine LW.p rfl rfl ?_
  refine LW.nil ?_
  show CW _ _ _ _ _ _
  refine CW.ret ?_
  cases h
  exact And.intro trivial ⟨_, Res.one (resOne.t rfl), rfl, hS1.pick [] rfl rfl⟩

theorem W_l_szObj {w0 : World} {N : Nat} {x0 : DObj} {x1 : Int} {r : Int} (h : F_l_szObj N x0 x1 = some r) {a0_10 : Option Addr} {n0_10 c0_10 : Nat} (hn0_10 : n0_10 = x0.links.length) (hr0_10 : rdS (Bor w0 []) w0 a0_10 c0_10 x0.links) {a0_11 : Option Addr} {n0_11 c0_11 : Nat} (hn0_11 : n0_11 = x0.data.length) (hr0_11 : rdS (Bor w0 []) w0 a0_11 c0_11 x0.data) {a0_12 : Option Addr} {n0_12 c0_12 : Nat} (hn0_12 : n0_12 = x0.queue.length) (hr0_12 : rdS (Bor w0 []) w0 a0_12 c0_12 x0.queue) :
    Ret Try.prog 174 #[.agg #[.int .i64 x0.gen, .int .i64 x0.kind, .int .i64 x0.box, .int .i64 x0.res, .int .i64 x0.til, .int .i64 x0.pages, .int .i64 x0.wait, .int .i64 x0.got, .int .i64 x0.ran, .bool x0.mark, .slice a0_10 n0_10 c0_10, .slice a0_11 n0_11 c0_11, .slice a0_12 n0_12 c0_12], .int .i64 x1] w0 (fun v w => v = .int .i64 r ∧ St w0 [] w []) := by
  subst hn0_10
  subst hn0_11
  subst hn0_12
  unfold F_l_szObj at h
  refine Ret.of Try.func174 rfl rfl rfl ?_
  have hS1 := St.start w0
  refine CW.seq ?_
  refine CW.region ?_
  refine LW.box (cs := [.int .i64 x0.gen, .int .i64 x0.kind, .int .i64 x0.box, .int .i64 x0.res, .int .i64 x0.til, .int .i64 x0.pages, .int .i64 x0.wait, .int .i64 x0.got, .int .i64 x0.ran, .bool x0.mark, .slice a0_10 x0.links.length c0_10, .slice a0_11 x0.data.length c0_11, .slice a0_12 x0.queue.length c0_12]) rfl hS1 rfl ?_
  intro g1 w2 hS2 hf
  refine LW.p rfl rfl ?_
  refine LW.nil ?_
  show CW _ _ _ _ _ _
  refine CW.seq ?_
  refine CW.region ?_
  refine LW.u (Pur.fa fo191_10 rfl) rfl ?_
  refine LW.ldb hS2 0 rfl ag24 rfl rfl rfl ?_
  refine LW.p rfl rfl ?_
  replace h := obind h
  obtain ⟨y3, hy3, h⟩ := h
  have q := W_l_szIntS (w0 := w2) hy3 rfl (hS2.rB hr0_10)
  refine LW.call pl54 rfl rfl ?_
  refine Ret.mono q ?_
  rintro _ w4 ⟨rfl, hs⟩
  have hS3 := hS2.add hs
  refine LW.p rfl rfl ?_
  refine LW.nil ?_
  show CW _ _ _ _ _ _
  refine CW.seq ?_
  refine CW.seq ?_
  refine CW.region ?_
  iterate 2 refine LW.p rfl rfl ?_
  refine LW.nil ?_
  show CW _ _ _ _ _ _
  refine CW.cond rfl (fun hc5 => ?_) (fun hc5 => ?_)
  · replace h := bcT h hc5
    refine CW.seq ?_
    refine CW.region ?_
    refine LW.p rfl rfl ?_
    refine LW.nil ?_
    show CW _ _ _ _ _ _
    refine CW.ret ?_
    cases h
    exact And.intro trivial ⟨_, Res.one (resOne.t rfl), rfl, hS3.pick [] rfl rfl⟩
  replace h := bcF h hc5
  refine CW.skip ?_
  show CW _ _ _ _ _ _
  refine CW.seq ?_
  refine CW.region ?_
  refine LW.u (Pur.fa fo191_11 rfl) rfl ?_
  refine LW.ldb hS3 0 rfl ag24 rfl rfl rfl ?_
  refine LW.p rfl rfl ?_
  replace h := obind h
  obtain ⟨y6, hy6, h⟩ := h
  have q := W_l_szIntS (w0 := w4) hy6 rfl (hS3.rB hr0_11)
  refine LW.call pl54 rfl rfl ?_
  refine Ret.mono q ?_
  rintro _ w7 ⟨rfl, hs⟩
  have hS4 := hS3.add hs
  refine LW.p rfl rfl ?_
  refine LW.nil ?_
  show CW _ _ _ _ _ _
  refine CW.fresh (l := [(1, .int .i64 y6), (2, .pointer (some ⟨g1, 0, none⟩))]) ⟨rfl, rfl, trivial⟩ (fun e => ?_)
  refine CW.seq ?_
  refine CW.seq ?_
  refine CW.region ?_
  iterate 2 refine LW.p rfl rfl ?_
  refine LW.nil ?_
  show CW _ _ _ _ _ _
  refine CW.cond rfl (fun hc8 => ?_) (fun hc8 => ?_)
  · replace h := bcT h hc8
    refine CW.seq ?_
    refine CW.region ?_
    refine LW.p rfl rfl ?_
    refine LW.nil ?_
    show CW _ _ _ _ _ _
    refine CW.ret ?_
    cases h
    exact And.intro trivial ⟨_, Res.one (resOne.t rfl), rfl, hS4.pick [] rfl rfl⟩
  replace h := bcF h hc8
  refine CW.skip ?_
  show CW _ _ _ _ _ _
  refine CW.seq ?_
  refine CW.region ?_
  refine LW.u (Pur.fa fo191_12 rfl) rfl ?_
  refine LW.ldb hS4 0 rfl ag189 rfl rfl rfl ?_
  refine LW.p rfl rfl ?_
  replace h := obind h
  obtain ⟨y9, hy9, h⟩ := h
  have q := W_l_szMsgS (w0 := w7) hy9 rfl (hS4.rB hr0_12)
  refine LW.call pl194 rfl rfl ?_
  refine Ret.mono q ?_
  rintro _ w10 ⟨rfl, hs⟩
  have hS5 := hS4.add hs
  refine LW.p rfl rfl ?_
  refine LW.nil ?_
  show CW _ _ _ _ _ _
  refine CW.seq ?_
  refine CW.seq ?_
  refine CW.region ?_
  iterate 2 refine LW.p rfl rfl ?_
  refine LW.nil ?_
  show CW _ _ _ _ _ _
  refine CW.cond rfl (fun hc11 => ?_) (fun hc11 => ?_)
  · replace h := bcT h hc11
    refine CW.seq ?_
    refine CW.region ?_
    refine LW.p rfl rfl ?_
    refine LW.nil ?_
    show CW _ _ _ _ _ _
    refine CW.ret ?_
    cases h
    exact And.intro trivial ⟨_, Res.one (resOne.t rfl), rfl, hS5.pick [] rfl rfl⟩
  replace h := bcF h hc11
  refine CW.skip ?_
  show CW _ _ _ _ _ _
  refine CW.seq ?_
  refine CW.region ?_
  iterate 2 refine LW.p rfl rfl ?_
  refine LW.nil ?_
  show CW _ _ _ _ _ _
  refine CW.ret ?_
  cases h
  exact And.intro trivial ⟨_, Res.one (resOne.t rfl), rfl, hS5.pick [] rfl rfl⟩

theorem W_l_szObjS {w0 : World} {N : Nat} {x0 : List DObj} {x1 : Int} {r : Int} (h : F_l_szObjS N x0 x1 = some r) {a0_0 : Option Addr} {n0_0 c0_0 : Nat} (hn0_0 : n0_0 = x0.length) (hr0_0 : rdS (Bor w0 []) w0 a0_0 c0_0 x0) :
    Ret Try.prog 131 #[.slice a0_0 n0_0 c0_0, .int .i64 x1] w0 (fun v w => v = .int .i64 r ∧ St w0 [] w []) := by
  subst hn0_0
  unfold F_l_szObjS at h
  refine Ret.of Try.func131 rfl rfl rfl ?_
  have hS1 := St.start w0
  refine CW.seq ?_
  refine CW.region ?_
  refine LW.p rfl rfl ?_
  refine LW.nil ?_
  show CW _ _ _ _ _ _
  refine CW.seq ?_
  refine CW.region ?_
  iterate 2 refine LW.p rfl rfl ?_
  refine LW.u (Pur.len Try.underlying55 rfl) rfl ?_
  iterate 2 refine LW.p rfl rfl ?_
  refine LW.nil ?_
  show CW _ _ _ _ _ _
  refine CW.seq ?_
  refine CW.seq ?_
  refine CW.region ?_
  iterate 2 refine LW.p rfl rfl ?_
  refine LW.nil ?_
  show CW _ _ _ _ _ _
  refine CW.cond rfl (fun hc1 => ?_) (fun hc1 => ?_)
  · replace h := bcT h hc1
    refine CW.seq ?_
    refine CW.region ?_
    refine LW.p rfl rfl ?_
    refine LW.nil ?_
    show CW _ _ _ _ _ _
    refine CW.ret ?_
    cases h
    exact And.intro trivial ⟨_, Res.one (resOne.t rfl), rfl, hS1.pick [] rfl rfl⟩
  replace h := bcF h hc1
  refine CW.skip ?_
  show CW _ _ _ _ _ _
  refine CW.seq ?_
  refine CW.seq ?_
  refine CW.region ?_
  refine LW.p rfl rfl ?_
  refine LW.nil ?_
  show CW _ _ _ _ _ _
  refine CW.block ?_
  obtain ⟨o26, ho26, h27⟩ := obind h
  refine CW.mono (CW.iter (σ := Int × Int) (ρ := (Int × Int) ⊕ Int) (fun s2 e wb => En e [(0, .slice a0_0 x0.length c0_0), (1, .int .i64 s2.1), (5, .int .i64 s2.2)] ∧ St w0 [] wb []) (fun o x e wb => match o with | .inl s2 => x = .exit 0 ∧ En e [(1, .int .i64 s2.1)] ∧ St w0 [] wb [] | .inr r => x = .ret ∧ ∃ u, u = r ∧ ∃ v, Res Try.prog Try.f131.results e wb v ∧ v = .int .i64 u ∧ St w0 [] wb []) ?_ N (IntKind.i64.wrap (x1 - (x0.length : Int)), 0) _ _ _ ⟨⟨rfl, rfl, rfl, trivial⟩, hS1.pick [] rfl rfl⟩ ho26) ?_
  · intro s2 e w3 o hM h
    obtain ⟨hE, hS2⟩ := hM
    obtain ⟨e, rfl⟩ := hE.out
    refine CW.seq ?_
    refine CW.seq ?_
    refine CW.region ?_
    iterate 2 refine LW.p rfl rfl ?_
    refine LW.u (Pur.len Try.underlying55 rfl) rfl ?_
    refine LW.p rfl rfl ?_
    refine LW.nil ?_
    show CW _ _ _ _ _ _
    refine CW.fresh (l := [(0, .slice a0_0 x0.length c0_0), (1, .int .i64 s2.1), (5, .int .i64 s2.2), (15, .bool (decide (s2.2 < (x0.length : Int))))]) ⟨rfl, rfl, rfl, rfl, trivial⟩ (fun e => ?_)
    refine CW.cond rfl (fun hc4 => ?_) (fun hc4 => ?_)
    · replace h := bcT h hc4
      refine CW.skip ?_
      show CW _ _ _ _ _ _
      refine CW.seq ?_
      refine CW.block ?_
      refine CW.seq ?_
      refine CW.region ?_
      iterate 2 refine LW.p rfl rfl ?_
      replace h := obind h
      obtain ⟨y5, hy5, h⟩ := h
      obtain ⟨b8, o9, cs10, hae, hb13, hp6, hq7, hd11, hk12⟩ := hr0_0.idx hy5
      subst hae
      obtain ⟨a14, c15, a17, c18, a20, c21, rfl, hr16, hr19, hr22⟩ := hd11
      refine LW.u (Pur.ix Try.underlying55 sz191 rfl rfl hp6 hq7) rfl ?_
      refine LW.l (Ldr.oldN w0 ag191 rfl rfl (fun j u hu => hk12 j u hu)) (hS2.same _ hb13.1 hb13.2) rfl ?_
      refine LW.p rfl rfl ?_
      replace h := obind h
      obtain ⟨y23, hy23, h⟩ := h
      have q := W_l_szObj (w0 := w3) hy23 rfl (hS2.rB hr16) rfl (hS2.rB hr19) rfl (hS2.rB hr22)
      refine LW.call pl174 rfl rfl ?_
      refine Ret.mono q ?_
      rintro _ w24 ⟨rfl, hs⟩
      have hS3 := hS2.add hs
      refine LW.p rfl rfl ?_
      refine LW.nil ?_
      show CW _ _ _ _ _ _
      refine CW.seq ?_
      refine CW.region ?_
      iterate 2 refine LW.p rfl rfl ?_
      refine LW.nil ?_
      show CW _ _ _ _ _ _
      refine CW.cond rfl (fun hc25 => ?_) (fun hc25 => ?_)
      · replace h := bcT h hc25
        refine CW.seq ?_
        refine CW.region ?_
        refine LW.p rfl rfl ?_
        refine LW.nil ?_
        show CW _ _ _ _ _ _
        refine CW.ret ?_
        replace h := Option.some.inj h
        subst h
        exact ⟨trivial, rfl, _, rfl, ⟨_, Res.one (resOne.t rfl), rfl, hS3.pick [] rfl rfl⟩⟩
      replace h := bcF h hc25
      refine CW.skip ?_
      show CW _ _ _ _ _ _
      refine CW.region ?_
      iterate 3 refine LW.p rfl rfl ?_
      refine LW.nil ?_
      replace h := Option.some.inj h
      subst h
      exact ⟨rfl, ⟨⟨rfl, rfl, rfl, trivial⟩, hS3.pick [] rfl rfl⟩⟩
    replace h := bcF h hc4
    refine CW.exit ?_
    replace h := Option.some.inj h
    subst h
    exact ⟨trivial, rfl, ⟨⟨rfl, trivial⟩, hS2.pick [] rfl rfl⟩⟩
  intro x e w28 hM
  rcases o26 with o26 | r29
  · obtain ⟨rfl, hM⟩ := hM
    obtain ⟨hE, hS4⟩ := hM
    obtain ⟨e, rfl⟩ := hE.out
    have h := h27
    show CW _ _ _ _ _ _
    refine CW.seq ?_
    refine CW.region ?_
    iterate 2 refine LW.p rfl rfl ?_
    refine LW.nil ?_
    show CW _ _ _ _ _ _
    refine CW.ret ?_
    cases h
    exact And.intro trivial ⟨_, Res.one (resOne.t rfl), rfl, hS4.pick [] rfl rfl⟩
  obtain ⟨rfl, u, rfl, hM⟩ := hM
  cases h27
  exact And.intro trivial hM

theorem W_l_szGc {w0 : World} {N : Nat} {x0 : DGc} {x1 : Int} {r : Int} (h : F_l_szGc N x0 x1 = some r) {a0_3 : Option Addr} {n0_3 c0_3 : Nat} (hn0_3 : n0_3 = x0.grey.length) (hr0_3 : rdS (Bor w0 []) w0 a0_3 c0_3 x0.grey) :
    Ret Try.prog 132 #[.agg #[.int .i64 x0.phase, .int .i64 x0.pos, .int .i64 x0.round, .slice a0_3 n0_3 c0_3], .int .i64 x1] w0 (fun v w => v = .int .i64 r ∧ St w0 [] w []) := by
  subst hn0_3
  unfold F_l_szGc at h
  refine Ret.of Try.func132 rfl rfl rfl ?_
  have hS1 := St.start w0
  refine CW.seq ?_
  refine CW.region ?_
  refine LW.box (cs := [.int .i64 x0.phase, .int .i64 x0.pos, .int .i64 x0.round, .slice a0_3 x0.grey.length c0_3]) rfl hS1 rfl ?_
  intro g1 w2 hS2 hf
  refine LW.p rfl rfl ?_
  refine LW.nil ?_
  show CW _ _ _ _ _ _
  refine CW.seq ?_
  refine CW.region ?_
  refine LW.u (Pur.fa fo57_3 rfl) rfl ?_
  refine LW.ldb hS2 0 rfl ag24 rfl rfl rfl ?_
  refine LW.p rfl rfl ?_
  replace h := obind h
  obtain ⟨y3, hy3, h⟩ := h
  have q := W_l_szIntS (w0 := w2) hy3 rfl (hS2.rB hr0_3)
  refine LW.call pl54 rfl rfl ?_
  refine Ret.mono q ?_
  rintro _ w4 ⟨rfl, hs⟩
  have hS3 := hS2.add hs
  refine LW.p rfl rfl ?_
  refine LW.nil ?_
  show CW _ _ _ _ _ _
  refine CW.seq ?_
  refine CW.seq ?_
  refine CW.region ?_
  iterate 2 refine LW.p rfl rfl ?_
  refine LW.nil ?_
  show CW _ _ _ _ _ _
  refine CW.cond rfl (fun hc5 => ?_) (fun hc5 => ?_)
  · replace h := bcT h hc5
    refine CW.seq ?_
    refine CW.region ?_
    refine LW.p rfl rfl ?_
    refine LW.nil ?_
    show CW _ _ _ _ _ _
    refine CW.ret ?_
    cases h
    exact And.intro trivial ⟨_, Res.one (resOne.t rfl), rfl, hS3.pick [] rfl rfl⟩
  replace h := bcF h hc5
  refine CW.skip ?_
  show CW _ _ _ _ _ _
  refine CW.seq ?_
  refine CW.region ?_
  iterate 2 refine LW.p rfl rfl ?_
  refine LW.nil ?_
  show CW _ _ _ _ _ _
  refine CW.ret ?_
  cases h
  exact And.intro trivial ⟨_, Res.one (resOne.t rfl), rfl, hS3.pick [] rfl rfl⟩

theorem W_l_szHeap {w0 : World} {N : Nat} {x0 : DHeap} {x1 : Int} {r : Int} (h : F_l_szHeap N x0 x1 = some r) {a0_0 : Option Addr} {n0_0 c0_0 : Nat} (hn0_0 : n0_0 = x0.arena.length) (hr0_0 : rdS (Bor w0 []) w0 a0_0 c0_0 x0.arena) {a0_4 : Option Addr} {n0_4 c0_4 : Nat} (hn0_4 : n0_4 = x0.gc.grey.length) (hr0_4 : rdS (Bor w0 []) w0 a0_4 c0_4 x0.gc.grey) :
    Ret Try.prog 68 #[.agg #[.slice a0_0 n0_0 c0_0, .int .i64 x0.gc.phase, .int .i64 x0.gc.pos, .int .i64 x0.gc.round, .slice a0_4 n0_4 c0_4], .int .i64 x1] w0 (fun v w => v = .int .i64 r ∧ St w0 [] w []) := by
  subst hn0_0
  subst hn0_4
  unfold F_l_szHeap at h
  refine Ret.of Try.func68 rfl rfl rfl ?_
  have hS1 := St.start w0
  refine CW.seq ?_
  refine CW.region ?_
  refine LW.box (cs := [.slice a0_0 x0.arena.length c0_0, .int .i64 x0.gc.phase, .int .i64 x0.gc.pos, .int .i64 x0.gc.round, .slice a0_4 x0.gc.grey.length c0_4]) rfl hS1 rfl ?_
  intro g1 w2 hS2 hf
  refine LW.p rfl rfl ?_
  refine LW.nil ?_
  show CW _ _ _ _ _ _
  refine CW.seq ?_
  refine CW.region ?_
  refine LW.u (Pur.fa fo59_0 rfl) rfl ?_
  refine LW.ldb hS2 0 rfl ag55 rfl rfl rfl ?_
  refine LW.p rfl rfl ?_
  replace h := obind h
  obtain ⟨y3, hy3, h⟩ := h
  have q := W_l_szObjS (w0 := w2) hy3 rfl (hS2.rB hr0_0)
  refine LW.call pl131 rfl rfl ?_
  refine Ret.mono q ?_
  rintro _ w4 ⟨rfl, hs⟩
  have hS3 := hS2.add hs
  refine LW.p rfl rfl ?_
  refine LW.nil ?_
  show CW _ _ _ _ _ _
  refine CW.seq ?_
  refine CW.seq ?_
  refine CW.region ?_
  iterate 2 refine LW.p rfl rfl ?_
  refine LW.nil ?_
  show CW _ _ _ _ _ _
  refine CW.cond rfl (fun hc5 => ?_) (fun hc5 => ?_)
  · replace h := bcT h hc5
    refine CW.seq ?_
    refine CW.region ?_
    refine LW.p rfl rfl ?_
    refine LW.nil ?_
    show CW _ _ _ _ _ _
    refine CW.ret ?_
    cases h
    exact And.intro trivial ⟨_, Res.one (resOne.t rfl), rfl, hS3.pick [] rfl rfl⟩
  replace h := bcF h hc5
  refine CW.skip ?_
  show CW _ _ _ _ _ _
  refine CW.seq ?_
  refine CW.region ?_
  refine LW.u (Pur.fa fo59_1 rfl) rfl ?_
  refine LW.ldbN hS3 0 rfl ag57 rfl rfl rfl ?_
  refine LW.p rfl rfl ?_
  replace h := obind h
  obtain ⟨y6, hy6, h⟩ := h
  have q := W_l_szGc (w0 := w4) hy6 rfl (hS3.rB hr0_4)
  refine LW.call pl132 rfl rfl ?_
  refine Ret.mono q ?_
  rintro _ w7 ⟨rfl, hs⟩
  have hS4 := hS3.add hs
  refine LW.p rfl rfl ?_
  refine LW.nil ?_
  show CW _ _ _ _ _ _
  refine CW.fresh (l := [(1, .int .i64 y6)]) ⟨rfl, trivial⟩ (fun e => ?_)
  refine CW.seq ?_
  refine CW.seq ?_
  refine CW.region ?_
  iterate 2 refine LW.p rfl rfl ?_
  refine LW.nil ?_
  show CW _ _ _ _ _ _
  refine CW.cond rfl (fun hc8 => ?_) (fun hc8 => ?_)
  · replace h := bcT h hc8
    refine CW.seq ?_
    refine CW.region ?_
    refine LW.p rfl rfl ?_
    refine LW.nil ?_
    show CW _ _ _ _ _ _
    refine CW.ret ?_
    cases h
    exact And.intro trivial ⟨_, Res.one (resOne.t rfl), rfl, hS4.pick [] rfl rfl⟩
  replace h := bcF h hc8
  refine CW.skip ?_
  show CW _ _ _ _ _ _
  refine CW.seq ?_
  refine CW.region ?_
  iterate 2 refine LW.p rfl rfl ?_
  refine LW.nil ?_
  show CW _ _ _ _ _ _
  refine CW.ret ?_
  cases h
  exact And.intro trivial ⟨_, Res.one (resOne.t rfl), rfl, hS4.pick [] rfl rfl⟩

theorem W_l_szTapS {w0 : World} {N : Nat} {x0 : List DTap} {x1 : Int} {r : Int} (h : F_l_szTapS N x0 x1 = some r) {a0_0 : Option Addr} {n0_0 c0_0 : Nat} (hn0_0 : n0_0 = x0.length) (hr0_0 : rdS (Bor w0 []) w0 a0_0 c0_0 x0) :
    Ret Try.prog 69 #[.slice a0_0 n0_0 c0_0, .int .i64 x1] w0 (fun v w => v = .int .i64 r ∧ St w0 [] w []) := by
  subst hn0_0
  unfold F_l_szTapS at h
  refine Ret.of Try.func69 rfl rfl rfl ?_
  have hS1 := St.start w0
  refine CW.seq ?_
  refine CW.region ?_
  refine LW.p rfl rfl ?_
  refine LW.nil ?_
  show CW _ _ _ _ _ _
  refine CW.seq ?_
  refine CW.region ?_
  iterate 2 refine LW.p rfl rfl ?_
  refine LW.u (Pur.len Try.underlying60 rfl) rfl ?_
  iterate 2 refine LW.p rfl rfl ?_
  refine LW.nil ?_
  show CW _ _ _ _ _ _
  refine CW.seq ?_
  refine CW.seq ?_
  refine CW.region ?_
  iterate 2 refine LW.p rfl rfl ?_
  refine LW.nil ?_
  show CW _ _ _ _ _ _
  refine CW.cond rfl (fun hc1 => ?_) (fun hc1 => ?_)
  · replace h := bcT h hc1
    refine CW.seq ?_
    refine CW.region ?_
    refine LW.p rfl rfl ?_
    refine LW.nil ?_
    show CW _ _ _ _ _ _
    refine CW.ret ?_
    cases h
    exact And.intro trivial ⟨_, Res.one (resOne.t rfl), rfl, hS1.pick [] rfl rfl⟩
  replace h := bcF h hc1
  refine CW.skip ?_
  show CW _ _ _ _ _ _
  refine CW.seq ?_
  refine CW.region ?_
  iterate 2 refine LW.p rfl rfl ?_
  refine LW.nil ?_
  show CW _ _ _ _ _ _
  refine CW.ret ?_
  cases h
  exact And.intro trivial ⟨_, Res.one (resOne.t rfl), rfl, hS1.pick [] rfl rfl⟩

theorem W_l_szPart {w0 : World} {N : Nat} {x0 : DPart} {x1 : Int} {r : Int} (h : F_l_szPart N x0 x1 = some r) {a0_0 : Option Addr} {n0_0 c0_0 : Nat} (hn0_0 : n0_0 = x0.label.levels.length) (hr0_0 : rdS (Bor w0 []) w0 a0_0 c0_0 x0.label.levels) {a0_1 : Option Addr} {n0_1 c0_1 : Nat} (hn0_1 : n0_1 = x0.own.length) (hr0_1 : rdS (Bor w0 []) w0 a0_1 c0_1 x0.own) {a0_2 : Option Addr} {n0_2 c0_2 : Nat} (hn0_2 : n0_2 = x0.tree.length) (hr0_2 : rdS (Bor w0 []) w0 a0_2 c0_2 x0.tree) {a0_3 : Option Addr} {n0_3 c0_3 : Nat} (hn0_3 : n0_3 = x0.heap.arena.length) (hr0_3 : rdS (Bor w0 []) w0 a0_3 c0_3 x0.heap.arena) {a0_7 : Option Addr} {n0_7 c0_7 : Nat} (hn0_7 : n0_7 = x0.heap.gc.grey.length) (hr0_7 : rdS (Bor w0 []) w0 a0_7 c0_7 x0.heap.gc.grey) {a0_8 : Option Addr} {n0_8 c0_8 : Nat} (hn0_8 : n0_8 = x0.taps.length) (hr0_8 : rdS (Bor w0 []) w0 a0_8 c0_8 x0.taps) :
    Ret Try.prog 30 #[.agg #[.slice a0_0 n0_0 c0_0, .slice a0_1 n0_1 c0_1, .slice a0_2 n0_2 c0_2, .slice a0_3 n0_3 c0_3, .int .i64 x0.heap.gc.phase, .int .i64 x0.heap.gc.pos, .int .i64 x0.heap.gc.round, .slice a0_7 n0_7 c0_7, .slice a0_8 n0_8 c0_8, .int .i64 x0.next, .int .i64 x0.want, .int .i64 x0.spent.pages, .int .i64 x0.spent.rent, .int .i64 x0.spent.cpu, .int .i64 x0.press, .int .i64 x0.lost], .int .i64 x1] w0 (fun v w => v = .int .i64 r ∧ St w0 [] w []) := by
  subst hn0_0
  subst hn0_1
  subst hn0_2
  subst hn0_3
  subst hn0_7
  subst hn0_8
  unfold F_l_szPart at h
  refine Ret.of Try.func30 rfl rfl rfl ?_
  have hS1 := St.start w0
  refine CW.seq ?_
  refine CW.region ?_
  refine LW.box (cs := [.slice a0_0 x0.label.levels.length c0_0, .slice a0_1 x0.own.length c0_1, .slice a0_2 x0.tree.length c0_2, .slice a0_3 x0.heap.arena.length c0_3, .int .i64 x0.heap.gc.phase, .int .i64 x0.heap.gc.pos, .int .i64 x0.heap.gc.round, .slice a0_7 x0.heap.gc.grey.length c0_7, .slice a0_8 x0.taps.length c0_8, .int .i64 x0.next, .int .i64 x0.want, .int .i64 x0.spent.pages, .int .i64 x0.spent.rent, .int .i64 x0.spent.cpu, .int .i64 x0.press, .int .i64 x0.lost]) rfl hS1 rfl ?_
  intro g1 w2 hS2 hf
  refine LW.p rfl rfl ?_
  refine LW.nil ?_
  show CW _ _ _ _ _ _
  refine CW.seq ?_
  refine CW.region ?_
  refine LW.u (Pur.fa fo64_0 rfl) rfl ?_
  refine LW.ldbN hS2 0 rfl ag26 rfl rfl rfl ?_
  refine LW.p rfl rfl ?_
  replace h := obind h
  obtain ⟨y3, hy3, h⟩ := h
  have q := W_l_szLabel (w0 := w2) hy3 rfl (hS2.rB hr0_0)
  refine LW.call pl12 rfl rfl ?_
  refine Ret.mono q ?_
  rintro _ w4 ⟨rfl, hs⟩
  have hS3 := hS2.add hs
  refine LW.p rfl rfl ?_
  refine LW.nil ?_
  show CW _ _ _ _ _ _
  refine CW.seq ?_
  refine CW.seq ?_
  refine CW.region ?_
  iterate 2 refine LW.p rfl rfl ?_
  refine LW.nil ?_
  show CW _ _ _ _ _ _
  refine CW.cond rfl (fun hc5 => ?_) (fun hc5 => ?_)
  · replace h := bcT h hc5
    refine CW.seq ?_
    refine CW.region ?_
    refine LW.p rfl rfl ?_
    refine LW.nil ?_
    show CW _ _ _ _ _ _
    refine CW.ret ?_
    cases h
    exact And.intro trivial ⟨_, Res.one (resOne.t rfl), rfl, hS3.pick [] rfl rfl⟩
  replace h := bcF h hc5
  refine CW.skip ?_
  show CW _ _ _ _ _ _
  refine CW.seq ?_
  refine CW.region ?_
  refine LW.u (Pur.fa fo64_1 rfl) rfl ?_
  refine LW.ldb hS3 0 rfl ag24 rfl rfl rfl ?_
  refine LW.p rfl rfl ?_
  replace h := obind h
  obtain ⟨y6, hy6, h⟩ := h
  have q := W_l_szIntS (w0 := w4) hy6 rfl (hS3.rB hr0_1)
  refine LW.call pl54 rfl rfl ?_
  refine Ret.mono q ?_
  rintro _ w7 ⟨rfl, hs⟩
  have hS4 := hS3.add hs
  refine LW.p rfl rfl ?_
  refine LW.nil ?_
  show CW _ _ _ _ _ _
  refine CW.fresh (l := [(1, .int .i64 y6), (2, .pointer (some ⟨g1, 0, none⟩))]) ⟨rfl, rfl, trivial⟩ (fun e => ?_)
  refine CW.seq ?_
  refine CW.seq ?_
  refine CW.region ?_
  iterate 2 refine LW.p rfl rfl ?_
  refine LW.nil ?_
  show CW _ _ _ _ _ _
  refine CW.cond rfl (fun hc8 => ?_) (fun hc8 => ?_)
  · replace h := bcT h hc8
    refine CW.seq ?_
    refine CW.region ?_
    refine LW.p rfl rfl ?_
    refine LW.nil ?_
    show CW _ _ _ _ _ _
    refine CW.ret ?_
    cases h
    exact And.intro trivial ⟨_, Res.one (resOne.t rfl), rfl, hS4.pick [] rfl rfl⟩
  replace h := bcF h hc8
  refine CW.skip ?_
  show CW _ _ _ _ _ _
  refine CW.seq ?_
  refine CW.region ?_
  refine LW.u (Pur.fa fo64_2 rfl) rfl ?_
  refine LW.ldb hS4 0 rfl ag54 rfl rfl rfl ?_
  refine LW.p rfl rfl ?_
  replace h := obind h
  obtain ⟨y9, hy9, h⟩ := h
  have q := W_l_szResS (w0 := w7) hy9 rfl (hS4.rB hr0_2)
  refine LW.call pl67 rfl rfl ?_
  refine Ret.mono q ?_
  rintro _ w10 ⟨rfl, hs⟩
  have hS5 := hS4.add hs
  refine LW.p rfl rfl ?_
  refine LW.nil ?_
  show CW _ _ _ _ _ _
  refine CW.seq ?_
  refine CW.seq ?_
  refine CW.region ?_
  iterate 2 refine LW.p rfl rfl ?_
  refine LW.nil ?_
  show CW _ _ _ _ _ _
  refine CW.cond rfl (fun hc11 => ?_) (fun hc11 => ?_)
  · replace h := bcT h hc11
    refine CW.seq ?_
    refine CW.region ?_
    refine LW.p rfl rfl ?_
    refine LW.nil ?_
    show CW _ _ _ _ _ _
    refine CW.ret ?_
    cases h
    exact And.intro trivial ⟨_, Res.one (resOne.t rfl), rfl, hS5.pick [] rfl rfl⟩
  replace h := bcF h hc11
  refine CW.skip ?_
  show CW _ _ _ _ _ _
  refine CW.seq ?_
  refine CW.region ?_
  refine LW.u (Pur.fa fo64_3 rfl) rfl ?_
  refine LW.ldbN hS5 0 rfl ag59 rfl rfl rfl ?_
  refine LW.p rfl rfl ?_
  replace h := obind h
  obtain ⟨y12, hy12, h⟩ := h
  have q := W_l_szHeap (w0 := w10) hy12 rfl (hS5.rB hr0_3) rfl (hS5.rB hr0_7)
  refine LW.call pl68 rfl rfl ?_
  refine Ret.mono q ?_
  rintro _ w13 ⟨rfl, hs⟩
  have hS6 := hS5.add hs
  refine LW.p rfl rfl ?_
  refine LW.nil ?_
  show CW _ _ _ _ _ _
  refine CW.fresh (l := [(1, .int .i64 y12), (2, .pointer (some ⟨g1, 0, none⟩))]) ⟨rfl, rfl, trivial⟩ (fun e => ?_)
  refine CW.seq ?_
  refine CW.seq ?_
  refine CW.region ?_
  iterate 2 refine LW.p rfl rfl ?_
  refine LW.nil ?_
  show CW _ _ _ _ _ _
  refine CW.cond rfl (fun hc14 => ?_) (fun hc14 => ?_)
  · replace h := bcT h hc14
    refine CW.seq ?_
    refine CW.region ?_
    refine LW.p rfl rfl ?_
    refine LW.nil ?_
    show CW _ _ _ _ _ _
    refine CW.ret ?_
    cases h
    exact And.intro trivial ⟨_, Res.one (resOne.t rfl), rfl, hS6.pick [] rfl rfl⟩
  replace h := bcF h hc14
  refine CW.skip ?_
  show CW _ _ _ _ _ _
  refine CW.seq ?_
  refine CW.region ?_
  refine LW.u (Pur.fa fo64_4 rfl) rfl ?_
  refine LW.ldb hS6 0 rfl ag60 rfl rfl rfl ?_
  refine LW.p rfl rfl ?_
  replace h := obind h
  obtain ⟨y15, hy15, h⟩ := h
  have q := W_l_szTapS (w0 := w13) hy15 rfl (hS6.rB hr0_8)
  refine LW.call pl69 rfl rfl ?_
  refine Ret.mono q ?_
  rintro _ w16 ⟨rfl, hs⟩
  have hS7 := hS6.add hs
  refine LW.p rfl rfl ?_
  refine LW.nil ?_
  show CW _ _ _ _ _ _
  refine CW.seq ?_
  refine CW.seq ?_
  refine CW.region ?_
  iterate 2 refine LW.p rfl rfl ?_
  refine LW.nil ?_
  show CW _ _ _ _ _ _
  refine CW.cond rfl (fun hc17 => ?_) (fun hc17 => ?_)
  · replace h := bcT h hc17
    refine CW.seq ?_
    refine CW.region ?_
    refine LW.p rfl rfl ?_
    refine LW.nil ?_
    show CW _ _ _ _ _ _
    refine CW.ret ?_
    cases h
    exact And.intro trivial ⟨_, Res.one (resOne.t rfl), rfl, hS7.pick [] rfl rfl⟩
  replace h := bcF h hc17
  refine CW.skip ?_
  show CW _ _ _ _ _ _
  refine CW.seq ?_
  refine CW.region ?_
  iterate 2 refine LW.p rfl rfl ?_
  refine LW.nil ?_
  show CW _ _ _ _ _ _
  refine CW.ret ?_
  cases h
  exact And.intro trivial ⟨_, Res.one (resOne.t rfl), rfl, hS7.pick [] rfl rfl⟩

theorem W_l_toRes {w0 : World} {N : Nat} {x0 : DRes} {r : DRes} (h : F_l_toRes N x0 = some r) :
    Ret Try.prog 134 #[.agg #[.bool x0.live, .int .i64 x0.parent, .int .i64 x0.bal.pages, .int .i64 x0.bal.rent, .int .i64 x0.bal.cpu]] w0 (fun v w => v = .agg #[.bool r.live, .int .i64 r.parent, .int .i64 r.bal.pages, .int .i64 r.bal.rent, .int .i64 r.bal.cpu] ∧ St w0 [] w []) := by
  unfold F_l_toRes at h
  refine Ret.of Try.func134 rfl rfl rfl ?_
  have hS1 := St.start w0
  refine CW.seq ?_
  refine CW.region ?_
  refine LW.box (cs := [.bool x0.live, .int .i64 x0.parent, .int .i64 x0.bal.pages, .int .i64 x0.bal.rent, .int .i64 x0.bal.cpu]) rfl hS1 rfl ?_
  intro g1 w2 hS2 hf
  refine LW.alloc zv156 hS2 rfl ?_
  intro g3 w4 hS3 hf
  refine LW.nil ?_
  show CW _ _ _ _ _ _
  refine CW.seq ?_
  refine CW.region ?_
  refine LW.alloc zv156 hS3 rfl ?_
  intro g5 w6 hS4 hf
  refine LW.nil ?_
  show CW _ _ _ _ _ _
  refine CW.seq ?_
  refine CW.region ?_
  refine LW.u (Pur.fa fo166_0 rfl) rfl ?_
  refine LW.ldb hS4 2 rfl ag4 rfl rfl rfl ?_
  refine LW.u (Pur.fa fo156_0 rfl) rfl ?_
  refine LW.stb hS4 0 rfl ag4 rfl rfl rfl rfl rfl ?_
  intro w7 hS5 hf
  refine LW.nil ?_
  show CW _ _ _ _ _ _
  refine CW.seq ?_
  refine CW.region ?_
  refine LW.u (Pur.fa fo166_1 rfl) rfl ?_
  refine LW.ldb hS5 2 rfl ag3 rfl rfl rfl ?_
  refine LW.u (Pur.fa fo156_1 rfl) rfl ?_
  refine LW.stb hS5 0 rfl ag3 rfl rfl rfl rfl rfl ?_
  intro w8 hS6 hf
  refine LW.nil ?_
  show CW _ _ _ _ _ _
  refine CW.seq ?_
  refine CW.region ?_
  refine LW.u (Pur.fa fo166_2 rfl) rfl ?_
  refine LW.ldbN hS6 2 rfl ag62 rfl rfl rfl ?_
  replace h := obind h
  obtain ⟨y9, hy9, h⟩ := h
  have q := W_l_toAmt (w0 := w8) hy9
  refine LW.call pl75 rfl rfl ?_
  refine Ret.mono q ?_
  rintro _ w10 ⟨rfl, hs⟩
  have hS7 := hS6.add hs
  refine LW.u (Pur.fa fo156_2 rfl) rfl ?_
  refine LW.stb hS7 0 rfl ag73 rfl rfl rfl rfl rfl ?_
  intro w11 hS8 hf
  refine LW.nil ?_
  show CW _ _ _ _ _ _
  refine CW.fresh (l := [(2, .pointer (some ⟨g3, 0, none⟩)), (3, .pointer (some ⟨g5, 0, none⟩))]) ⟨rfl, rfl, trivial⟩ (fun e => ?_)
  refine CW.seq ?_
  refine CW.region ?_
  refine LW.ldbN hS8 0 rfl ag156 rfl rfl rfl ?_
  refine LW.stb hS8 1 rfl ag156 rfl rfl rfl rfl rfl ?_
  intro w12 hS9 hf
  refine LW.nil ?_
  show CW _ _ _ _ _ _
  refine CW.ret ?_
  cases h
  exact And.intro trivial ⟨_, Res.one (resOne.b hS9 1 rfl ag156 rfl rfl), rfl, hS9.pick [] rfl rfl⟩

theorem W_l_toResS {w0 : World} {N : Nat} {x0 : List DRes} {r : (List DRes)} (h : F_l_toResS N x0 = some r) {a0_0 : Option Addr} {n0_0 c0_0 : Nat} (hn0_0 : n0_0 = x0.length) (hr0_0 : rdS (Bor w0 []) w0 a0_0 c0_0 x0) :
    Ret Try.prog 72 #[.slice a0_0 n0_0 c0_0] w0 (fun v w => ∃ ar0 cr0, v = .slice ar0 r.length cr0 ∧ St w0 [] w [sl ar0 cr0 r]) := by
  subst hn0_0
  unfold F_l_toResS at h
  refine Ret.of Try.func72 rfl rfl rfl ?_
  have hS1 := St.start w0
  refine CW.seq ?_
  refine CW.region ?_
  refine LW.p rfl rfl ?_
  refine LW.nil ?_
  show CW _ _ _ _ _ _
  refine CW.seq ?_
  refine CW.region ?_
  refine LW.p rfl rfl ?_
  refine LW.u (Pur.len Try.underlying54 rfl) rfl ?_
  replace h := obind h
  obtain ⟨y1, hy1, h⟩ := h
  refine LW.mk sT67 rfl rfl hy1 hS1 rfl ?_
  intro a2 c3 w4 hS2 hf
  refine LW.p rfl rfl ?_
  refine LW.nil ?_
  show CW _ _ _ _ _ _
  refine CW.seq ?_
  refine CW.seq ?_
  refine CW.region ?_
  refine LW.p rfl rfl ?_
  refine LW.nil ?_
  show CW _ _ _ _ _ _
  refine CW.block ?_
  obtain ⟨o26, ho26, h27⟩ := obind h
  refine CW.mono (CW.iter (σ := (List DRes) × Int) (ρ := (List DRes) × Int) (fun s5 e wb => En e [(0, .slice a0_0 x0.length c0_0), (3, .slice a2 s5.1.length c3), (4, .int .i64 s5.2)] ∧ St w0 [] wb [sl a2 c3 s5.1]) (fun s5 x e wb => x = .exit 0 ∧ En e [(3, .slice a2 s5.1.length c3)] ∧ St w0 [] wb [sl a2 c3 s5.1]) ?_ N (y1, 0) _ _ _ ⟨⟨rfl, rfl, rfl, trivial⟩, hS2.pick [0] rfl rfl⟩ ho26) ?_
  · intro s5 e w6 o hM h
    obtain ⟨hE, hS3⟩ := hM
    obtain ⟨e, rfl⟩ := hE.out
    refine CW.seq ?_
    refine CW.seq ?_
    refine CW.region ?_
    iterate 2 refine LW.p rfl rfl ?_
    refine LW.u (Pur.len Try.underlying54 rfl) rfl ?_
    refine LW.p rfl rfl ?_
    refine LW.nil ?_
    show CW _ _ _ _ _ _
    refine CW.cond rfl (fun hc7 => ?_) (fun hc7 => ?_)
    · replace h := bcT h hc7
      refine CW.skip ?_
      show CW _ _ _ _ _ _
      refine CW.seq ?_
      refine CW.block ?_
      refine CW.region ?_
      iterate 4 refine LW.p rfl rfl ?_
      replace h := obind h
      obtain ⟨y8, hy8, h⟩ := h
      obtain ⟨b11, o12, cs13, hae, hb16, hp9, hq10, hd14, hk15⟩ := hr0_0.idx hy8
      subst hae
      obtain rfl := hd14
      refine LW.u (Pur.ix Try.underlying54 sz166 rfl rfl hp9 hq10) rfl ?_
      refine LW.l (Ldr.oldN w0 ag166 rfl rfl (fun j u hu => hk15 j u hu)) (hS3.same _ hb16.1 hb16.2) rfl ?_
      replace h := obind h
      obtain ⟨y17, hy17, h⟩ := h
      have q := W_l_toRes (w0 := w6) hy17
      refine LW.call pl134 rfl rfl ?_
      refine Ret.mono q ?_
      rintro _ w18 ⟨rfl, hs⟩
      have hS4 := hS3.add hs
      replace h := obind h
      obtain ⟨y19, hy19, h⟩ := h
      obtain ⟨b22, o23, hae, hp20, hq21⟩ := hS4.ownIdx (α := DRes) (i := 0) rfl hy19
      subst hae
      refine LW.u (Pur.ix Try.underlying67 sz156 rfl rfl hp20 hq21) rfl ?_
      replace h := obind h
      obtain ⟨y24, hy24, h⟩ := h
      refine LW.stE (M := []) (L := [sl (some ⟨b22, o23, none⟩) c3 s5.1]) (z := y19) (z' := y17) (o := 0) hS4 (i := 0) rfl hy19 ag156 rfl (by show _ = o23 + (s5.2 : Int).toNat * 5 + 0; omega) rfl rfl rfl rfl (whole (fun w G hG => by cases (show G = [] from hG); exact ⟨rfl, rfl⟩)) ?_
      intro w25 hS5 hf
      rw [Option.some.inj hy24] at hS5
      refine LW.nil ?_
      show CW _ _ _ _ _ _
      refine CW.fresh (l := [(0, .slice (some ⟨b11, o12, none⟩) x0.length c0_0), (3, .slice (some ⟨b22, o23, none⟩) s5.1.length c3), (4, .int .i64 s5.2)]) ⟨rfl, rfl, rfl, trivial⟩ (fun e => ?_)
      refine CW.region ?_
      iterate 3 refine LW.p rfl rfl ?_
      refine LW.nil ?_
      replace h := Option.some.inj h
      subst h
      exact ⟨rfl, ⟨⟨rfl, (show (.slice (some ⟨b22, o23, none⟩) s5.1.length c3 : Value) = .slice (some ⟨b22, o23, none⟩) y24.length c3 by rw [show s5.1.length = y24.length from (len_set (Option.some.inj hy24))]), rfl, trivial⟩, hS5.pick [0] rfl rfl⟩⟩
    replace h := bcF h hc7
    refine CW.exit ?_
    replace h := Option.some.inj h
    subst h
    exact ⟨trivial, rfl, ⟨⟨rfl, trivial⟩, hS3.pick [0] rfl rfl⟩⟩
  intro x e w28 hM
  obtain ⟨rfl, hM⟩ := hM
  obtain ⟨hE, hS6⟩ := hM
  obtain ⟨e, rfl⟩ := hE.out
  have h := h27
  show CW _ _ _ _ _ _
  refine CW.seq ?_
  refine CW.region ?_
  iterate 2 refine LW.p rfl rfl ?_
  refine LW.nil ?_
  show CW _ _ _ _ _ _
  refine CW.ret ?_
  cases h
  exact And.intro trivial ⟨_, Res.one (resOne.t rfl), a2, c3, rfl, hS6.pick [0] rfl rfl⟩

theorem W_l_toMsg {w0 : World} {N : Nat} {x0 : DMsg} {r : DMsg} (h : F_l_toMsg N x0 = some r) :
    Ret Try.prog 202 #[.agg #[.int .i64 x0.src, .int .i64 x0.n]] w0 (fun v w => v = .agg #[.int .i64 r.src, .int .i64 r.n] ∧ St w0 [] w []) := by
  unfold F_l_toMsg at h
  refine Ret.of Try.func202 rfl rfl rfl ?_
  have hS1 := St.start w0
  refine CW.seq ?_
  refine CW.region ?_
  refine LW.box (cs := [.int .i64 x0.src, .int .i64 x0.n]) rfl hS1 rfl ?_
  intro g1 w2 hS2 hf
  refine LW.alloc zv199 hS2 rfl ?_
  intro g3 w4 hS3 hf
  refine LW.nil ?_
  show CW _ _ _ _ _ _
  refine CW.seq ?_
  refine CW.region ?_
  refine LW.alloc zv199 hS3 rfl ?_
  intro g5 w6 hS4 hf
  refine LW.nil ?_
  show CW _ _ _ _ _ _
  refine CW.seq ?_
  refine CW.region ?_
  refine LW.u (Pur.fa fo206_0 rfl) rfl ?_
  refine LW.ldb hS4 2 rfl ag3 rfl rfl rfl ?_
  refine LW.u (Pur.fa fo199_0 rfl) rfl ?_
  refine LW.stb hS4 0 rfl ag3 rfl rfl rfl rfl rfl ?_
  intro w7 hS5 hf
  refine LW.nil ?_
  show CW _ _ _ _ _ _
  refine CW.seq ?_
  refine CW.region ?_
  refine LW.u (Pur.fa fo206_1 rfl) rfl ?_
  refine LW.ldb hS5 2 rfl ag3 rfl rfl rfl ?_
  refine LW.u (Pur.fa fo199_1 rfl) rfl ?_
  refine LW.stb hS5 0 rfl ag3 rfl rfl rfl rfl rfl ?_
  intro w8 hS6 hf
  refine LW.nil ?_
  show CW _ _ _ _ _ _
  refine CW.seq ?_
  refine CW.region ?_
  refine LW.ldbN hS6 0 rfl ag199 rfl rfl rfl ?_
  refine LW.stb hS6 1 rfl ag199 rfl rfl rfl rfl rfl ?_
  intro w9 hS7 hf
  refine LW.nil ?_
  show CW _ _ _ _ _ _
  refine CW.fresh (l := [(2, .pointer (some ⟨g3, 0, none⟩))]) ⟨rfl, trivial⟩ (fun e => ?_)
  refine CW.ret ?_
  cases h
  exact And.intro trivial ⟨_, Res.one (resOne.b hS7 1 rfl ag199 rfl rfl), rfl, hS7.pick [] rfl rfl⟩

theorem W_l_toMsgS {w0 : World} {N : Nat} {x0 : List DMsg} {r : (List DMsg)} (h : F_l_toMsgS N x0 = some r) {a0_0 : Option Addr} {n0_0 c0_0 : Nat} (hn0_0 : n0_0 = x0.length) (hr0_0 : rdS (Bor w0 []) w0 a0_0 c0_0 x0) :
    Ret Try.prog 195 #[.slice a0_0 n0_0 c0_0] w0 (fun v w => ∃ ar0 cr0, v = .slice ar0 r.length cr0 ∧ St w0 [] w [sl ar0 cr0 r]) := by
  subst hn0_0
  unfold F_l_toMsgS at h
  refine Ret.of Try.func195 rfl rfl rfl ?_
  have hS1 := St.start w0
  refine CW.seq ?_
  refine CW.region ?_
  refine LW.p rfl rfl ?_
  refine LW.nil ?_
  show CW _ _ _ _ _ _
  refine CW.seq ?_
  refine CW.region ?_
  refine LW.p rfl rfl ?_
  refine LW.u (Pur.len Try.underlying189 rfl) rfl ?_
  replace h := obind h
  obtain ⟨y1, hy1, h⟩ := h
  refine LW.mk sT121 rfl rfl hy1 hS1 rfl ?_
  intro a2 c3 w4 hS2 hf
  refine LW.p rfl rfl ?_
  refine LW.nil ?_
  show CW _ _ _ _ _ _
  refine CW.seq ?_
  refine CW.seq ?_
  refine CW.region ?_
  refine LW.p rfl rfl ?_
  refine LW.nil ?_
  show CW _ _ _ _ _ _
  refine CW.block ?_
  obtain ⟨o26, ho26, h27⟩ := obind h
  refine CW.mono (CW.iter (σ := (List DMsg) × Int) (ρ := (List DMsg) × Int) (fun s5 e wb => En e [(0, .slice a0_0 x0.length c0_0), (3, .slice a2 s5.1.length c3), (4, .int .i64 s5.2)] ∧ St w0 [] wb [sl a2 c3 s5.1]) (fun s5 x e wb => x = .exit 0 ∧ En e [(3, .slice a2 s5.1.length c3)] ∧ St w0 [] wb [sl a2 c3 s5.1]) ?_ N (y1, 0) _ _ _ ⟨⟨rfl, rfl, rfl, trivial⟩, hS2.pick [0] rfl rfl⟩ ho26) ?_
  · intro s5 e w6 o hM h
    obtain ⟨hE, hS3⟩ := hM
    obtain ⟨e, rfl⟩ := hE.out
    refine CW.seq ?_
    refine CW.seq ?_
    refine CW.region ?_
    iterate 2 refine LW.p rfl rfl ?_
    refine LW.u (Pur.len Try.underlying189 rfl) rfl ?_
    refine LW.p rfl rfl ?_
    refine LW.nil ?_
    show CW _ _ _ _ _ _
    refine CW.cond rfl (fun hc7 => ?_) (fun hc7 => ?_)
    · replace h := bcT h hc7
      refine CW.skip ?_
      show CW _ _ _ _ _ _
      refine CW.seq ?_
      refine CW.block ?_
      refine CW.region ?_
      iterate 4 refine LW.p rfl rfl ?_
      replace h := obind h
      obtain ⟨y8, hy8, h⟩ := h
      obtain ⟨b11, o12, cs13, hae, hb16, hp9, hq10, hd14, hk15⟩ := hr0_0.idx hy8
      subst hae
      obtain rfl := hd14
      refine LW.u (Pur.ix Try.underlying189 sz206 rfl rfl hp9 hq10) rfl ?_
      refine LW.l (Ldr.oldN w0 ag206 rfl rfl (fun j u hu => hk15 j u hu)) (hS3.same _ hb16.1 hb16.2) rfl ?_
      replace h := obind h
      obtain ⟨y17, hy17, h⟩ := h
      have q := W_l_toMsg (w0 := w6) hy17
      refine LW.call pl202 rfl rfl ?_
      refine Ret.mono q ?_
      rintro _ w18 ⟨rfl, hs⟩
      have hS4 := hS3.add hs
      replace h := obind h
      obtain ⟨y19, hy19, h⟩ := h
      obtain ⟨b22, o23, hae, hp20, hq21⟩ := hS4.ownIdx (α := DMsg) (i := 0) rfl hy19
      subst hae
      refine LW.u (Pur.ix Try.underlying121 sz199 rfl rfl hp20 hq21) rfl ?_
      replace h := obind h
      obtain ⟨y24, hy24, h⟩ := h
      refine LW.stE (M := []) (L := [sl (some ⟨b22, o23, none⟩) c3 s5.1]) (z := y19) (z' := y17) (o := 0) hS4 (i := 0) rfl hy19 ag199 rfl (by show _ = o23 + (s5.2 : Int).toNat * 2 + 0; omega) rfl rfl rfl rfl (whole (fun w G hG => by cases (show G = [] from hG); exact ⟨rfl, rfl⟩)) ?_
      intro w25 hS5 hf
      rw [Option.some.inj hy24] at hS5
      refine LW.nil ?_
      show CW _ _ _ _ _ _
      refine CW.fresh (l := [(0, .slice (some ⟨b11, o12, none⟩) x0.length c0_0), (3, .slice (some ⟨b22, o23, none⟩) s5.1.length c3), (4, .int .i64 s5.2)]) ⟨rfl, rfl, rfl, trivial⟩ (fun e => ?_)
      refine CW.region ?_
      iterate 3 refine LW.p rfl rfl ?_
      refine LW.nil ?_
      replace h := Option.some.inj h
      subst h
      exact ⟨rfl, ⟨⟨rfl, (show (.slice (some ⟨b22, o23, none⟩) s5.1.length c3 : Value) = .slice (some ⟨b22, o23, none⟩) y24.length c3 by rw [show s5.1.length = y24.length from (len_set (Option.some.inj hy24))]), rfl, trivial⟩, hS5.pick [0] rfl rfl⟩⟩
    replace h := bcF h hc7
    refine CW.exit ?_
    replace h := Option.some.inj h
    subst h
    exact ⟨trivial, rfl, ⟨⟨rfl, trivial⟩, hS3.pick [0] rfl rfl⟩⟩
  intro x e w28 hM
  obtain ⟨rfl, hM⟩ := hM
  obtain ⟨hE, hS6⟩ := hM
  obtain ⟨e, rfl⟩ := hE.out
  have h := h27
  show CW _ _ _ _ _ _
  refine CW.seq ?_
  refine CW.region ?_
  iterate 2 refine LW.p rfl rfl ?_
  refine LW.nil ?_
  show CW _ _ _ _ _ _
  refine CW.ret ?_
  cases h
  exact And.intro trivial ⟨_, Res.one (resOne.t rfl), a2, c3, rfl, hS6.pick [0] rfl rfl⟩

theorem W_l_toObj {w0 : World} {N : Nat} {x0 : DObj} {r : DObj} (h : F_l_toObj N x0 = some r) {a0_10 : Option Addr} {n0_10 c0_10 : Nat} (hn0_10 : n0_10 = x0.links.length) (hr0_10 : rdS (Bor w0 []) w0 a0_10 c0_10 x0.links) {a0_11 : Option Addr} {n0_11 c0_11 : Nat} (hn0_11 : n0_11 = x0.data.length) (hr0_11 : rdS (Bor w0 []) w0 a0_11 c0_11 x0.data) {a0_12 : Option Addr} {n0_12 c0_12 : Nat} (hn0_12 : n0_12 = x0.queue.length) (hr0_12 : rdS (Bor w0 []) w0 a0_12 c0_12 x0.queue) :
    Ret Try.prog 177 #[.agg #[.int .i64 x0.gen, .int .i64 x0.kind, .int .i64 x0.box, .int .i64 x0.res, .int .i64 x0.til, .int .i64 x0.pages, .int .i64 x0.wait, .int .i64 x0.got, .int .i64 x0.ran, .bool x0.mark, .slice a0_10 n0_10 c0_10, .slice a0_11 n0_11 c0_11, .slice a0_12 n0_12 c0_12]] w0 (fun v w => ∃ ar0_10 cr0_10, ∃ ar0_11 cr0_11, ∃ ar0_12 cr0_12, v = .agg #[.int .i64 r.gen, .int .i64 r.kind, .int .i64 r.box, .int .i64 r.res, .int .i64 r.til, .int .i64 r.pages, .int .i64 r.wait, .int .i64 r.got, .int .i64 r.ran, .bool r.mark, .slice ar0_10 r.links.length cr0_10, .slice ar0_11 r.data.length cr0_11, .slice ar0_12 r.queue.length cr0_12] ∧ St w0 [] w [sl ar0_10 cr0_10 r.links, sl ar0_11 cr0_11 r.data, sl ar0_12 cr0_12 r.queue]) := by
  subst hn0_10
  subst hn0_11
  subst hn0_12
  unfold F_l_toObj at h
  refine Ret.of Try.func177 rfl rfl rfl ?_
  have hS1 := St.start w0
  refine CW.seq ?_
  refine CW.region ?_
  refine LW.box (cs := [.int .i64 x0.gen, .int .i64 x0.kind, .int .i64 x0.box, .int .i64 x0.res, .int .i64 x0.til, .int .i64 x0.pages, .int .i64 x0.wait, .int .i64 x0.got, .int .i64 x0.ran, .bool x0.mark, .slice a0_10 x0.links.length c0_10, .slice a0_11 x0.data.length c0_11, .slice a0_12 x0.queue.length c0_12]) rfl hS1 rfl ?_
  intro g1 w2 hS2 hf
  refine LW.alloc zv123 hS2 rfl ?_
  intro g3 w4 hS3 hf
  refine LW.nil ?_
  show CW _ _ _ _ _ _
  refine CW.seq ?_
  refine CW.region ?_
  refine LW.alloc zv123 hS3 rfl ?_
  intro g5 w6 hS4 hf
  refine LW.nil ?_
  show CW _ _ _ _ _ _
  refine CW.seq ?_
  refine CW.region ?_
  refine LW.u (Pur.fa fo191_0 rfl) rfl ?_
  refine LW.ldb hS4 2 rfl ag3 rfl rfl rfl ?_
  refine LW.u (Pur.fa fo123_0 rfl) rfl ?_
  refine LW.stb hS4 0 rfl ag3 rfl rfl rfl rfl rfl ?_
  intro w7 hS5 hf
  refine LW.nil ?_
  show CW _ _ _ _ _ _
  refine CW.seq ?_
  refine CW.region ?_
  refine LW.u (Pur.fa fo191_1 rfl) rfl ?_
  refine LW.ldb hS5 2 rfl ag3 rfl rfl rfl ?_
  refine LW.u (Pur.fa fo123_1 rfl) rfl ?_
  refine LW.stb hS5 0 rfl ag3 rfl rfl rfl rfl rfl ?_
  intro w8 hS6 hf
  refine LW.nil ?_
  show CW _ _ _ _ _ _
  refine CW.seq ?_
  refine CW.region ?_
  refine LW.u (Pur.fa fo191_2 rfl) rfl ?_
  refine LW.ldb hS6 2 rfl ag3 rfl rfl rfl ?_
  refine LW.u (Pur.fa fo123_2 rfl) rfl ?_
  refine LW.stb hS6 0 rfl ag3 rfl rfl rfl rfl rfl ?_
  intro w9 hS7 hf
  refine LW.nil ?_
  show CW _ _ _ _ _ _
  refine CW.fresh (l := [(1, .pointer (some ⟨g1, 0, none⟩)), (2, .pointer (some ⟨g3, 0, none⟩)), (3, .pointer (some ⟨g5, 0, none⟩))]) ⟨rfl, rfl, rfl, trivial⟩ (fun e => ?_)
  refine CW.seq ?_
  refine CW.region ?_
  refine LW.u (Pur.fa fo191_3 rfl) rfl ?_
  refine LW.ldb hS7 2 rfl ag3 rfl rfl rfl ?_
  refine LW.u (Pur.fa fo123_3 rfl) rfl ?_
  refine LW.stb hS7 0 rfl ag3 rfl rfl rfl rfl rfl ?_
  intro w10 hS8 hf
  refine LW.nil ?_
  show CW _ _ _ _ _ _
  refine CW.seq ?_
  refine CW.region ?_
  refine LW.u (Pur.fa fo191_4 rfl) rfl ?_
  refine LW.ldb hS8 2 rfl ag3 rfl rfl rfl ?_
  refine LW.u (Pur.fa fo123_4 rfl) rfl ?_
  refine LW.stb hS8 0 rfl ag3 rfl rfl rfl rfl rfl ?_
  intro w11 hS9 hf
  refine LW.nil ?_
  show CW _ _ _ _ _ _
  refine CW.seq ?_
  refine CW.region ?_
  refine LW.u (Pur.fa fo191_5 rfl) rfl ?_
  refine LW.ldb hS9 2 rfl ag3 rfl rfl rfl ?_
  refine LW.u (Pur.fa fo123_5 rfl) rfl ?_
  refine LW.stb hS9 0 rfl ag3 rfl rfl rfl rfl rfl ?_
  intro w12 hS10 hf
  refine LW.nil ?_
  show CW _ _ _ _ _ _
  refine CW.seq ?_
  refine CW.region ?_
  refine LW.u (Pur.fa fo191_6 rfl) rfl ?_
  refine LW.ldb hS10 2 rfl ag3 rfl rfl rfl ?_
  refine LW.u (Pur.fa fo123_6 rfl) rfl ?_
  refine LW.stb hS10 0 rfl ag3 rfl rfl rfl rfl rfl ?_
  intro w13 hS11 hf
  refine LW.nil ?_
  show CW _ _ _ _ _ _
  refine CW.fresh (l := [(1, .pointer (some ⟨g1, 0, none⟩)), (2, .pointer (some ⟨g3, 0, none⟩)), (3, .pointer (some ⟨g5, 0, none⟩))]) ⟨rfl, rfl, rfl, trivial⟩ (fun e => ?_)
  refine CW.seq ?_
  refine CW.region ?_
  refine LW.u (Pur.fa fo191_7 rfl) rfl ?_
  refine LW.ldb hS11 2 rfl ag3 rfl rfl rfl ?_
  refine LW.u (Pur.fa fo123_7 rfl) rfl ?_
  refine LW.stb hS11 0 rfl ag3 rfl rfl rfl rfl rfl ?_
  intro w14 hS12 hf
  refine LW.nil ?_
  show CW _ _ _ _ _ _
  refine CW.seq ?_
  refine CW.region ?_
  refine LW.u (Pur.fa fo191_8 rfl) rfl ?_
  refine LW.ldb hS12 2 rfl ag3 rfl rfl rfl ?_
  refine LW.u (Pur.fa fo123_8 rfl) rfl ?_
  refine LW.stb hS12 0 rfl ag3 rfl rfl rfl rfl rfl ?_
  intro w15 hS13 hf
  refine LW.nil ?_
  show CW _ _ _ _ _ _
  refine CW.seq ?_
  refine CW.region ?_
  refine LW.u (Pur.fa fo191_9 rfl) rfl ?_
  refine LW.ldb hS13 2 rfl ag4 rfl rfl rfl ?_
  refine LW.u (Pur.fa fo123_9 rfl) rfl ?_
  refine LW.stb hS13 0 rfl ag4 rfl rfl rfl rfl rfl ?_
  intro w16 hS14 hf
  refine LW.nil ?_
  show CW _ _ _ _ _ _
  refine CW.seq ?_
  refine CW.region ?_
  refine LW.u (Pur.fa fo191_10 rfl) rfl ?_
  refine LW.ldb hS14 2 rfl ag24 rfl rfl rfl ?_
  replace h := obind h
  obtain ⟨y17, hy17, h⟩ := h
  have q := W_l_toIntS (w0 := w16) hy17 rfl (hS14.rB hr0_10)
  refine LW.call pl57 rfl rfl ?_
  refine Ret.mono q ?_
  rintro _ w20 ⟨a18, c19, rfl, hs⟩
  have hS15 := hS14.add hs
  refine LW.u (Pur.fa fo123_10 rfl) rfl ?_
  refine LW.stb hS15 1 rfl ag24 rfl rfl rfl rfl rfl ?_
  intro w21 hS16 hf
  refine LW.nil ?_
  show CW _ _ _ _ _ _
  refine CW.fresh (l := [(1, .pointer (some ⟨g1, 0, none⟩)), (2, .pointer (some ⟨g3, 0, none⟩)), (3, .pointer (some ⟨g5, 0, none⟩))]) ⟨rfl, rfl, rfl, trivial⟩ (fun e => ?_)
  refine CW.seq ?_
  refine CW.region ?_
  refine LW.u (Pur.fa fo191_11 rfl) rfl ?_
  refine LW.ldb hS16 3 rfl ag24 rfl rfl rfl ?_
  replace h := obind h
  obtain ⟨y22, hy22, h⟩ := h
  have q := W_l_toIntS (w0 := w21) hy22 rfl (hS16.rB hr0_11)
  refine LW.call pl57 rfl rfl ?_
  refine Ret.mono q ?_
  rintro _ w25 ⟨a23, c24, rfl, hs⟩
  have hS17 := hS16.add hs
  refine LW.u (Pur.fa fo123_11 rfl) rfl ?_
  refine LW.stb hS17 2 rfl ag24 rfl rfl rfl rfl rfl ?_
  intro w26 hS18 hf
  refine LW.nil ?_
  show CW _ _ _ _ _ _
  refine CW.seq ?_
  refine CW.region ?_
  refine LW.u (Pur.fa fo191_12 rfl) rfl ?_
  refine LW.ldb hS18 4 rfl ag189 rfl rfl rfl ?_
  replace h := obind h
  obtain ⟨y27, hy27, h⟩ := h
  have q := W_l_toMsgS (w0 := w26) hy27 rfl (hS18.rB hr0_12)
  refine LW.call pl195 rfl rfl ?_
  refine Ret.mono q ?_
  rintro _ w30 ⟨a28, c29, rfl, hs⟩
  have hS19 := hS18.add hs
  refine LW.u (Pur.fa fo123_12 rfl) rfl ?_
  refine LW.stb hS19 3 rfl ag121 rfl rfl rfl rfl rfl ?_
  intro w31 hS20 hf
  refine LW.nil ?_
  show CW _ _ _ _ _ _
  refine CW.seq ?_
  refine CW.region ?_
  refine LW.ldbN hS20 3 rfl ag123 rfl rfl rfl ?_
  refine LW.stb hS20 4 rfl ag123 rfl rfl rfl rfl rfl ?_
  intro w32 hS21 hf
  refine LW.nil ?_
  show CW _ _ _ _ _ _
  refine CW.ret ?_
  cases h
  exact And.intro trivial ⟨_, Res.one (resOne.b hS21 4 rfl ag123 rfl rfl), a18, c19, a23, c24, a28, c29, rfl, hS21.pick [2, 1, 0] rfl rfl⟩

theorem W_l_toObjS {w0 : World} {N : Nat} {x0 : List DObj} {r : (List DObj)} (h : F_l_toObjS N x0 = some r) {a0_0 : Option Addr} {n0_0 c0_0 : Nat} (hn0_0 : n0_0 = x0.length) (hr0_0 : rdS (Bor w0 []) w0 a0_0 c0_0 x0) :
    Ret Try.prog 135 #[.slice a0_0 n0_0 c0_0] w0 (fun v w => ∃ ar0 cr0, v = .slice ar0 r.length cr0 ∧ St w0 [] w [sl ar0 cr0 r]) := by
  subst hn0_0
  unfold F_l_toObjS at h
  refine Ret.of Try.func135 rfl rfl rfl ?_
  have hS1 := St.start w0
  refine CW.seq ?_
  refine CW.region ?_
  refine LW.p rfl rfl ?_
  refine LW.nil ?_
  show CW _ _ _ _ _ _
  refine CW.seq ?_
  refine CW.region ?_
  refine LW.p rfl rfl ?_
  refine LW.u (Pur.len Try.underlying55 rfl) rfl ?_
  replace h := obind h
  obtain ⟨y1, hy1, h⟩ := h
  refine LW.mk sT68 rfl rfl hy1 hS1 rfl ?_
  intro a2 c3 w4 hS2 hf
  refine LW.p rfl rfl ?_
  refine LW.nil ?_
  show CW _ _ _ _ _ _
  refine CW.seq ?_
  refine CW.seq ?_
  refine CW.region ?_
  refine LW.p rfl rfl ?_
  refine LW.nil ?_
  show CW _ _ _ _ _ _
  refine CW.block ?_
  obtain ⟨o41, ho41, h42⟩ := obind h
  refine CW.mono (CW.iter (σ := (List DObj) × Int) (ρ := (List DObj) × Int) (fun s5 e wb => En e [(0, .slice a0_0 x0.length c0_0), (3, .slice a2 s5.1.length c3), (4, .int .i64 s5.2)] ∧ St w0 [] wb [sl a2 c3 s5.1]) (fun s5 x e wb => x = .exit 0 ∧ En e [(3, .slice a2 s5.1.length c3)] ∧ St w0 [] wb [sl a2 c3 s5.1]) ?_ N (y1, 0) _ _ _ ⟨⟨rfl, rfl, rfl, trivial⟩, hS2.pick [0] rfl rfl⟩ ho41) ?_
  · intro s5 e w6 o hM h
    obtain ⟨hE, hS3⟩ := hM
    obtain ⟨e, rfl⟩ := hE.out
    refine CW.seq ?_
    refine CW.seq ?_
    refine CW.region ?_
    iterate 2 refine LW.p rfl rfl ?_
    refine LW.u (Pur.len Try.underlying55 rfl) rfl ?_
    refine LW.p rfl rfl ?_
    refine LW.nil ?_
    show CW _ _ _ _ _ _
    refine CW.cond rfl (fun hc7 => ?_) (fun hc7 => ?_)
    · replace h := bcT h hc7
      refine CW.skip ?_
      show CW _ _ _ _ _ _
      refine CW.seq ?_
      refine CW.block ?_
      refine CW.region ?_
      iterate 4 refine LW.p rfl rfl ?_
      replace h := obind h
      obtain ⟨y8, hy8, h⟩ := h
      obtain ⟨b11, o12, cs13, hae, hb16, hp9, hq10, hd14, hk15⟩ := hr0_0.idx hy8
      subst hae
      obtain ⟨a17, c18, a20, c21, a23, c24, rfl, hr19, hr22, hr25⟩ := hd14
      refine LW.u (Pur.ix Try.underlying55 sz191 rfl rfl hp9 hq10) rfl ?_
      refine LW.l (Ldr.oldN w0 ag191 rfl rfl (fun j u hu => hk15 j u hu)) (hS3.same _ hb16.1 hb16.2) rfl ?_
      replace h := obind h
      obtain ⟨y26, hy26, h⟩ := h
      have q := W_l_toObj (w0 := w6) hy26 rfl (hS3.rB hr19) rfl (hS3.rB hr22) rfl (hS3.rB hr25)
      refine LW.call pl177 rfl rfl ?_
      refine Ret.mono q ?_
      rintro _ w33 ⟨a27, c28, a29, c30, a31, c32, rfl, hs⟩
      have hS4 := hS3.add hs
      replace h := obind h
      obtain ⟨y34, hy34, h⟩ := h
      obtain ⟨b37, o38, hae, hp35, hq36⟩ := hS4.ownIdx (α := DObj) (i := 3) rfl hy34
      subst hae
      refine LW.u (Pur.ix Try.underlying68 sz123 rfl rfl hp35 hq36) rfl ?_
      have hS5 := hS4.pick (M := [sl a27 c28 y26.links, sl a29 c30 y26.data, sl a31 c32 y26.queue] ++ [sl (some ⟨b37, o38, none⟩) c3 s5.1]) [0, 1, 2, 3] rfl rfl
      replace h := obind h
      obtain ⟨y39, hy39, h⟩ := h
      refine LW.stE (M := [sl a27 c28 y26.links, sl a29 c30 y26.data, sl a31 c32 y26.queue]) (L := [sl (some ⟨b37, o38, none⟩) c3 s5.1]) (z := y34) (z' := y26) (o := 0) hS5 (i := 0) rfl hy34 ag123 rfl (by show _ = o38 + (s5.2 : Int).toNat * 13 + 0; omega) rfl rfl rfl rfl (whole (fun w G hG => ⟨a27, c28, a29, c30, a31, c32, rfl, hG⟩)) ?_
      intro w40 hS6 hf
      rw [Option.some.inj hy39] at hS6
      refine LW.nil ?_
      show CW _ _ _ _ _ _
      refine CW.fresh (l := [(0, .slice (some ⟨b11, o12, none⟩) x0.length c0_0), (3, .slice (some ⟨b37, o38, none⟩) s5.1.length c3), (4, .int .i64 s5.2)]) ⟨rfl, rfl, rfl, trivial⟩ (fun e => ?_)
      refine CW.region ?_
      iterate 3 refine LW.p rfl rfl ?_
      refine LW.nil ?_
      replace h := Option.some.inj h
      subst h
      exact ⟨rfl, ⟨⟨rfl, (show (.slice (some ⟨b37, o38, none⟩) s5.1.length c3 : Value) = .slice (some ⟨b37, o38, none⟩) y39.length c3 by rw [show s5.1.length = y39.length from (len_set (Option.some.inj hy39))]), rfl, trivial⟩, hS6.pick [0] rfl rfl⟩⟩
    replace h := bcF h hc7
    refine CW.exit ?_
    replace h := Option.some.inj h
    subst h
    exact ⟨trivial, rfl, ⟨⟨rfl, trivial⟩, hS3.pick [0] rfl rfl⟩⟩
  intro x e w43 hM
  obtain ⟨rfl, hM⟩ := hM
  obtain ⟨hE, hS7⟩ := hM
  obtain ⟨e, rfl⟩ := hE.out
  have h := h42
  show CW _ _ _ _ _ _
  refine CW.seq ?_
  refine CW.region ?_
  iterate 2 refine LW.p rfl rfl ?_
  refine LW.nil ?_
  show CW _ _ _ _ _ _
  refine CW.ret ?_
  cases h
  exact And.intro trivial ⟨_, Res.one (resOne.t rfl), a2, c3, rfl, hS7.pick [0] rfl rfl⟩

theorem W_l_toGc {w0 : World} {N : Nat} {x0 : DGc} {r : DGc} (h : F_l_toGc N x0 = some r) {a0_3 : Option Addr} {n0_3 c0_3 : Nat} (hn0_3 : n0_3 = x0.grey.length) (hr0_3 : rdS (Bor w0 []) w0 a0_3 c0_3 x0.grey) :
    Ret Try.prog 136 #[.agg #[.int .i64 x0.phase, .int .i64 x0.pos, .int .i64 x0.round, .slice a0_3 n0_3 c0_3]] w0 (fun v w => ∃ ar0_3 cr0_3, v = .agg #[.int .i64 r.phase, .int .i64 r.pos, .int .i64 r.round, .slice ar0_3 r.grey.length cr0_3] ∧ St w0 [] w [sl ar0_3 cr0_3 r.grey]) := by
  subst hn0_3
  unfold F_l_toGc at h
  refine Ret.of Try.func136 rfl rfl rfl ?_
  have hS1 := St.start w0
  refine CW.seq ?_
  refine CW.region ?_
  refine LW.box (cs := [.int .i64 x0.phase, .int .i64 x0.pos, .int .i64 x0.round, .slice a0_3 x0.grey.length c0_3]) rfl hS1 rfl ?_
  intro g1 w2 hS2 hf
  refine LW.alloc zv69 hS2 rfl ?_
  intro g3 w4 hS3 hf
  refine LW.nil ?_
  show CW _ _ _ _ _ _
  refine CW.seq ?_
  refine CW.region ?_
  refine LW.alloc zv69 hS3 rfl ?_
  intro g5 w6 hS4 hf
  refine LW.nil ?_
  show CW _ _ _ _ _ _
  refine CW.seq ?_
  refine CW.region ?_
  refine LW.u (Pur.fa fo57_0 rfl) rfl ?_
  refine LW.ldb hS4 2 rfl ag3 rfl rfl rfl ?_
  refine LW.u (Pur.fa fo69_0 rfl) rfl ?_
  refine LW.stb hS4 0 rfl ag3 rfl rfl rfl rfl rfl ?_
  intro w7 hS5 hf
  refine LW.nil ?_
  show CW _ _ _ _ _ _
  refine CW.seq ?_
  refine CW.region ?_
  refine LW.u (Pur.fa fo57_1 rfl) rfl ?_
  refine LW.ldb hS5 2 rfl ag3 rfl rfl rfl ?_
  refine LW.u (Pur.fa fo69_1 rfl) rfl ?_
  refine LW.stb hS5 0 rfl ag3 rfl rfl rfl rfl rfl ?_
  intro w8 hS6 hf
  refine LW.nil ?_
  show CW _ _ _ _ _ _
  refine CW.seq ?_
  refine CW.region ?_
  refine LW.u (Pur.fa fo57_2 rfl) rfl ?_
  refine LW.ldb hS6 2 rfl ag3 rfl rfl rfl ?_
  refine LW.u (Pur.fa fo69_2 rfl) rfl ?_
  refine LW.stb hS6 0 rfl ag3 rfl rfl rfl rfl rfl ?_
  intro w9 hS7 hf
  refine LW.nil ?_
  show CW _ _ _ _ _ _
  refine CW.fresh (l := [(1, .pointer (some ⟨g1, 0, none⟩)), (2, .pointer (some ⟨g3, 0, none⟩)), (3, .pointer (some ⟨g5, 0, none⟩))]) ⟨rfl, rfl, rfl, trivial⟩ (fun e => ?_)
  refine CW.seq ?_
  refine CW.region ?_
  refine LW.u (Pur.fa fo57_3 rfl) rfl ?_
  refine LW.ldb hS7 2 rfl ag24 rfl rfl rfl ?_
  replace h := obind h
  obtain ⟨y10, hy10, h⟩ := h
  have q := W_l_toIntS (w0 := w9) hy10 rfl (hS7.rB hr0_3)
  refine LW.call pl57 rfl rfl ?_
  refine Ret.mono q ?_
  rintro _ w13 ⟨a11, c12, rfl, hs⟩
  have hS8 := hS7.add hs
  refine LW.u (Pur.fa fo69_3 rfl) rfl ?_
  refine LW.stb hS8 1 rfl ag24 rfl rfl rfl rfl rfl ?_
  intro w14 hS9 hf
  refine LW.nil ?_
  show CW _ _ _ _ _ _
  refine CW.seq ?_
  refine CW.region ?_
  refine LW.ldbN hS9 1 rfl ag69 rfl rfl rfl ?_
  refine LW.stb hS9 2 rfl ag69 rfl rfl rfl rfl rfl ?_
  intro w15 hS10 hf
  refine LW.nil ?_
  show CW _ _ _ _ _ _
  refine CW.ret ?_
  cases h
  exact And.intro trivial ⟨_, Res.one (resOne.b hS10 2 rfl ag69 rfl rfl), a11, c12, rfl, hS10.pick [0] rfl rfl⟩

theorem W_l_toHeap {w0 : World} {N : Nat} {x0 : DHeap} {r : DHeap} (h : F_l_toHeap N x0 = some r) {a0_0 : Option Addr} {n0_0 c0_0 : Nat} (hn0_0 : n0_0 = x0.arena.length) (hr0_0 : rdS (Bor w0 []) w0 a0_0 c0_0 x0.arena) {a0_4 : Option Addr} {n0_4 c0_4 : Nat} (hn0_4 : n0_4 = x0.gc.grey.length) (hr0_4 : rdS (Bor w0 []) w0 a0_4 c0_4 x0.gc.grey) :
    Ret Try.prog 73 #[.agg #[.slice a0_0 n0_0 c0_0, .int .i64 x0.gc.phase, .int .i64 x0.gc.pos, .int .i64 x0.gc.round, .slice a0_4 n0_4 c0_4]] w0 (fun v w => ∃ ar0_0 cr0_0, ∃ ar0_4 cr0_4, v = .agg #[.slice ar0_0 r.arena.length cr0_0, .int .i64 r.gc.phase, .int .i64 r.gc.pos, .int .i64 r.gc.round, .slice ar0_4 r.gc.grey.length cr0_4] ∧ St w0 [] w [sl ar0_0 cr0_0 r.arena, sl ar0_4 cr0_4 r.gc.grey]) := by
  subst hn0_0
  subst hn0_4
  unfold F_l_toHeap at h
  refine Ret.of Try.func73 rfl rfl rfl ?_
  have hS1 := St.start w0
  refine CW.seq ?_
  refine CW.region ?_
  refine LW.box (cs := [.slice a0_0 x0.arena.length c0_0, .int .i64 x0.gc.phase, .int .i64 x0.gc.pos, .int .i64 x0.gc.round, .slice a0_4 x0.gc.grey.length c0_4]) rfl hS1 rfl ?_
  intro g1 w2 hS2 hf
  refine LW.alloc zv71 hS2 rfl ?_
  intro g3 w4 hS3 hf
  refine LW.nil ?_
  show CW _ _ _ _ _ _
  refine CW.seq ?_
  refine CW.region ?_
  refine LW.alloc zv71 hS3 rfl ?_
  intro g5 w6 hS4 hf
  refine LW.nil ?_
  show CW _ _ _ _ _ _
  refine CW.seq ?_
  refine CW.region ?_
  refine LW.u (Pur.fa fo59_0 rfl) rfl ?_
  refine LW.ldb hS4 2 rfl ag55 rfl rfl rfl ?_
  replace h := obind h
  obtain ⟨y7, hy7, h⟩ := h
  have q := W_l_toObjS (w0 := w6) hy7 rfl (hS4.rB hr0_0)
  refine LW.call pl135 rfl rfl ?_
  refine Ret.mono q ?_
  rintro _ w10 ⟨a8, c9, rfl, hs⟩
  have hS5 := hS4.add hs
  refine LW.u (Pur.fa fo71_0 rfl) rfl ?_
  refine LW.stb hS5 1 rfl ag68 rfl rfl rfl rfl rfl ?_
  intro w11 hS6 hf
  refine LW.nil ?_
  show CW _ _ _ _ _ _
  refine CW.seq ?_
  refine CW.region ?_
  refine LW.u (Pur.fa fo59_1 rfl) rfl ?_
  refine LW.ldbN hS6 3 rfl ag57 rfl rfl rfl ?_
  replace h := obind h
  obtain ⟨y12, hy12, h⟩ := h
  have q := W_l_toGc (w0 := w11) hy12 rfl (hS6.rB hr0_4)
  refine LW.call pl136 rfl rfl ?_
  refine Ret.mono q ?_
  rintro _ w15 ⟨a13, c14, rfl, hs⟩
  have hS7 := hS6.add hs
  refine LW.u (Pur.fa fo71_1 rfl) rfl ?_
  refine LW.stb hS7 2 rfl ag69 rfl rfl rfl rfl rfl ?_
  intro w16 hS8 hf
  refine LW.nil ?_
  show CW _ _ _ _ _ _
  refine CW.fresh (l := [(2, .pointer (some ⟨g3, 0, none⟩)), (3, .pointer (some ⟨g5, 0, none⟩))]) ⟨rfl, rfl, trivial⟩ (fun e => ?_)
  refine CW.seq ?_
  refine CW.region ?_
  refine LW.ldbN hS8 2 rfl ag71 rfl rfl rfl ?_
  refine LW.stb hS8 3 rfl ag71 rfl rfl rfl rfl rfl ?_
  intro w17 hS9 hf
  refine LW.nil ?_
  show CW _ _ _ _ _ _
  refine CW.ret ?_
  cases h
  exact And.intro trivial ⟨_, Res.one (resOne.b hS9 3 rfl ag71 rfl rfl), a8, c9, a13, c14, rfl, hS9.pick [1, 0] rfl rfl⟩

theorem W_l_toTap {w0 : World} {N : Nat} {x0 : DTap} {r : DTap} (h : F_l_toTap N x0 = some r) :
    Ret Try.prog 137 #[.agg #[.int .i64 x0.res, .int .i64 x0.toPart, .int .i64 x0.toRes, .int .i64 x0.which, .int .i64 x0.kind, .int .i64 x0.rate]] w0 (fun v w => v = .agg #[.int .i64 r.res, .int .i64 r.toPart, .int .i64 r.toRes, .int .i64 r.which, .int .i64 r.kind, .int .i64 r.rate] ∧ St w0 [] w []) := by
  unfold F_l_toTap at h
  refine Ret.of Try.func137 rfl rfl rfl ?_
  have hS1 := St.start w0
  refine CW.seq ?_
  refine CW.region ?_
  refine LW.box (cs := [.int .i64 x0.res, .int .i64 x0.toPart, .int .i64 x0.toRes, .int .i64 x0.which, .int .i64 x0.kind, .int .i64 x0.rate]) rfl hS1 rfl ?_
  intro g1 w2 hS2 hf
  refine LW.alloc zv158 hS2 rfl ?_
  intro g3 w4 hS3 hf
  refine LW.nil ?_
  show CW _ _ _ _ _ _
  refine CW.seq ?_
  refine CW.region ?_
  refine LW.alloc zv158 hS3 rfl ?_
  intro g5 w6 hS4 hf
  refine LW.nil ?_
  show CW _ _ _ _ _ _
  refine CW.seq ?_
  refine CW.region ?_
  refine LW.u (Pur.fa fo170_0 rfl) rfl ?_
  refine LW.ldb hS4 2 rfl ag3 rfl rfl rfl ?_
  refine LW.u (Pur.fa fo158_0 rfl) rfl ?_
  refine LW.stb hS4 0 rfl ag3 rfl rfl rfl rfl rfl ?_
  intro w7 hS5 hf
  refine LW.nil ?_
  show CW _ _ _ _ _ _
  refine CW.seq ?_
  refine CW.region ?_
  refine LW.u (Pur.fa fo170_1 rfl) rfl ?_
  refine LW.ldb hS5 2 rfl ag3 rfl rfl rfl ?_
  refine LW.u (Pur.fa fo158_1 rfl) rfl ?_
  refine LW.stb hS5 0 rfl ag3 rfl rfl rfl rfl rfl ?_
  intro w8 hS6 hf
  refine LW.nil ?_
  show CW _ _ _ _ _ _
  refine CW.seq ?_
  refine CW.region ?_
  refine LW.u (Pur.fa fo170_2 rfl) rfl ?_
  refine LW.ldb hS6 2 rfl ag3 rfl rfl rfl ?_
  refine LW.u (Pur.fa fo158_2 rfl) rfl ?_
  refine LW.stb hS6 0 rfl ag3 rfl rfl rfl rfl rfl ?_
  intro w9 hS7 hf
  refine LW.nil ?_
  show CW _ _ _ _ _ _
  refine CW.fresh (l := [(1, .pointer (some ⟨g1, 0, none⟩)), (2, .pointer (some ⟨g3, 0, none⟩)), (3, .pointer (some ⟨g5, 0, none⟩))]) ⟨rfl, rfl, rfl, trivial⟩ (fun e => ?_)
  refine CW.seq ?_
  refine CW.region ?_
  refine LW.u (Pur.fa fo170_3 rfl) rfl ?_
  refine LW.ldb hS7 2 rfl ag3 rfl rfl rfl ?_
  refine LW.u (Pur.fa fo158_3 rfl) rfl ?_
  refine LW.stb hS7 0 rfl ag3 rfl rfl rfl rfl rfl ?_
  intro w10 hS8 hf
  refine LW.nil ?_
  show CW _ _ _ _ _ _
  refine CW.seq ?_
  refine CW.region ?_
  refine LW.u (Pur.fa fo170_4 rfl) rfl ?_
  refine LW.ldb hS8 2 rfl ag3 rfl rfl rfl ?_
  refine LW.u (Pur.fa fo158_4 rfl) rfl ?_
  refine LW.stb hS8 0 rfl ag3 rfl rfl rfl rfl rfl ?_
  intro w11 hS9 hf
  refine LW.nil ?_
  show CW _ _ _ _ _ _
  refine CW.seq ?_
  refine CW.region ?_
  refine LW.u (Pur.fa fo170_5 rfl) rfl ?_
  refine LW.ldb hS9 2 rfl ag3 rfl rfl rfl ?_
  refine LW.u (Pur.fa fo158_5 rfl) rfl ?_
  refine LW.stb hS9 0 rfl ag3 rfl rfl rfl rfl rfl ?_
  intro w12 hS10 hf
  refine LW.nil ?_
  show CW _ _ _ _ _ _
  refine CW.seq ?_
  refine CW.region ?_
  refine LW.ldbN hS10 0 rfl ag158 rfl rfl rfl ?_
  refine LW.stb hS10 1 rfl ag158 rfl rfl rfl rfl rfl ?_
  intro w13 hS11 hf
  refine LW.nil ?_
  show CW _ _ _ _ _ _
  refine CW.fresh (l := [(2, .pointer (some ⟨g3, 0, none⟩))]) ⟨rfl, trivial⟩ (fun e => ?_)
  refine CW.ret ?_
  cases h
  exact And.intro trivial ⟨_, Res.one (resOne.b hS11 1 rfl ag158 rfl rfl), rfl, hS11.pick [] rfl rfl⟩

theorem W_l_toTapS {w0 : World} {N : Nat} {x0 : List DTap} {r : (List DTap)} (h : F_l_toTapS N x0 = some r) {a0_0 : Option Addr} {n0_0 c0_0 : Nat} (hn0_0 : n0_0 = x0.length) (hr0_0 : rdS (Bor w0 []) w0 a0_0 c0_0 x0) :
    Ret Try.prog 74 #[.slice a0_0 n0_0 c0_0] w0 (fun v w => ∃ ar0 cr0, v = .slice ar0 r.length cr0 ∧ St w0 [] w [sl ar0 cr0 r]) := by
  subst hn0_0
  unfold F_l_toTapS at h
  refine Ret.of Try.func74 rfl rfl rfl ?_
  have hS1 := St.start w0
  refine CW.seq ?_
  refine CW.region ?_
  refine LW.p rfl rfl ?_
  refine LW.nil ?_
  show CW _ _ _ _ _ _
  refine CW.seq ?_
  refine CW.region ?_
  refine LW.p rfl rfl ?_
  refine LW.u (Pur.len Try.underlying60 rfl) rfl ?_
  replace h := obind h
  obtain ⟨y1, hy1, h⟩ := h
  refine LW.mk sT72 rfl rfl hy1 hS1 rfl ?_
  intro a2 c3 w4 hS2 hf
  refine LW.p rfl rfl ?_
  refine LW.nil ?_
  show CW _ _ _ _ _ _
  refine CW.seq ?_
  refine CW.seq ?_
  refine CW.region ?_
  refine LW.p rfl rfl ?_
  refine LW.nil ?_
  show CW _ _ _ _ _ _
  refine CW.block ?_
  obtain ⟨o26, ho26, h27⟩ := obind h
  refine CW.mono (CW.iter (σ := (List DTap) × Int) (ρ := (List DTap) × Int) (fun s5 e wb => En e [(0, .slice a0_0 x0.length c0_0), (3, .slice a2 s5.1.length c3), (4, .int .i64 s5.2)] ∧ St w0 [] wb [sl a2 c3 s5.1]) (fun s5 x e wb => x = .exit 0 ∧ En e [(3, .slice a2 s5.1.length c3)] ∧ St w0 [] wb [sl a2 c3 s5.1]) ?_ N (y1, 0) _ _ _ ⟨⟨rfl, rfl, rfl, trivial⟩, hS2.pick [0] rfl rfl⟩ ho26) ?_
  · intro s5 e w6 o hM h
    obtain ⟨hE, hS3⟩ := hM
    obtain ⟨e, rfl⟩ := hE.out
    refine CW.seq ?_
    refine CW.seq ?_
    refine CW.region ?_
    iterate 2 refine LW.p rfl rfl ?_
    refine LW.u (Pur.len Try.underlying60 rfl) rfl ?_
    refine LW.p rfl rfl ?_
    refine LW.nil ?_
    show CW _ _ _ _ _ _
    refine CW.cond rfl (fun hc7 => ?_) (fun hc7 => ?_)
    · replace h := bcT h hc7
      refine CW.skip ?_
      show CW _ _ _ _ _ _
      refine CW.seq ?_
      refine CW.block ?_
      refine CW.region ?_
      iterate 4 refine LW.p rfl rfl ?_
      replace h := obind h
      obtain ⟨y8, hy8, h⟩ := h
      obtain ⟨b11, o12, cs13, hae, hb16, hp9, hq10, hd14, hk15⟩ := hr0_0.idx hy8
      subst hae
      obtain rfl := hd14
      refine LW.u (Pur.ix Try.underlying60 sz170 rfl rfl hp9 hq10) rfl ?_
      refine LW.l (Ldr.oldN w0 ag170 rfl rfl (fun j u hu => hk15 j u hu)) (hS3.same _ hb16.1 hb16.2) rfl ?_
      replace h := obind h
      obtain ⟨y17, hy17, h⟩ := h
      have q := W_l_toTap (w0 := w6) hy17
      refine LW.call pl137 rfl rfl ?_
      refine Ret.mono q ?_
      rintro _ w18 ⟨rfl, hs⟩
      have hS4 := hS3.add hs
      replace h := obind h
      obtain ⟨y19, hy19, h⟩ := h
      obtain ⟨b22, o23, hae, hp20, hq21⟩ := hS4.ownIdx (α := DTap) (i := 0) rfl hy19
      subst hae
      refine LW.u (Pur.ix Try.underlying72 sz158 rfl rfl hp20 hq21) rfl ?_
      replace h := obind h
      obtain ⟨y24, hy24, h⟩ := h
      refine LW.stE (M := []) (L := [sl (some ⟨b22, o23, none⟩) c3 s5.1]) (z := y19) (z' := y17) (o := 0) hS4 (i := 0) rfl hy19 ag158 rfl (by show _ = o23 + (s5.2 : Int).toNat * 6 + 0; omega) rfl rfl rfl rfl (whole (fun w G hG => by cases (show G = [] from hG); exact ⟨rfl, rfl⟩)) ?_
      intro w25 hS5 hf
      rw [Option.some.inj hy24] at hS5
      refine LW.nil ?_
      show CW _ _ _ _ _ _
      refine CW.fresh (l := [(0, .slice (some ⟨b11, o12, none⟩) x0.length c0_0), (3, .slice (some ⟨b22, o23, none⟩) s5.1.length c3), (4, .int .i64 s5.2)]) ⟨rfl, rfl, rfl, trivial⟩ (fun e => ?_)
      refine CW.region ?_
      iterate 3 refine LW.p rfl rfl ?_
      refine LW.nil ?_
      replace h := Option.some.inj h
      subst h
      exact ⟨rfl, ⟨⟨rfl, (show (.slice (some ⟨b22, o23, none⟩) s5.1.length c3 : Value) = .slice (some ⟨b22, o23, none⟩) y24.length c3 by rw [show s5.1.length = y24.length from (len_set (Option.some.inj hy24))]), rfl, trivial⟩, hS5.pick [0] rfl rfl⟩⟩
    replace h := bcF h hc7
    refine CW.exit ?_
    replace h := Option.some.inj h
    subst h
    exact ⟨trivial, rfl, ⟨⟨rfl, trivial⟩, hS3.pick [0] rfl rfl⟩⟩
  intro x e w28 hM
  obtain ⟨rfl, hM⟩ := hM
  obtain ⟨hE, hS6⟩ := hM
  obtain ⟨e, rfl⟩ := hE.out
  have h := h27
  show CW _ _ _ _ _ _
  refine CW.seq ?_
  refine CW.region ?_
  iterate 2 refine LW.p rfl rfl ?_
  refine LW.nil ?_
  show CW _ _ _ _ _ _
  refine CW.ret ?_
  cases h
  exact And.intro trivial ⟨_, Res.one (resOne.t rfl), a2, c3, rfl, hS6.pick [0] rfl rfl⟩

theorem W_l_toPart {w0 : World} {N : Nat} {x0 : DPart} {r : DPart} (h : F_l_toPart N x0 = some r) {a0_0 : Option Addr} {n0_0 c0_0 : Nat} (hn0_0 : n0_0 = x0.label.levels.length) (hr0_0 : rdS (Bor w0 []) w0 a0_0 c0_0 x0.label.levels) {a0_1 : Option Addr} {n0_1 c0_1 : Nat} (hn0_1 : n0_1 = x0.own.length) (hr0_1 : rdS (Bor w0 []) w0 a0_1 c0_1 x0.own) {a0_2 : Option Addr} {n0_2 c0_2 : Nat} (hn0_2 : n0_2 = x0.tree.length) (hr0_2 : rdS (Bor w0 []) w0 a0_2 c0_2 x0.tree) {a0_3 : Option Addr} {n0_3 c0_3 : Nat} (hn0_3 : n0_3 = x0.heap.arena.length) (hr0_3 : rdS (Bor w0 []) w0 a0_3 c0_3 x0.heap.arena) {a0_7 : Option Addr} {n0_7 c0_7 : Nat} (hn0_7 : n0_7 = x0.heap.gc.grey.length) (hr0_7 : rdS (Bor w0 []) w0 a0_7 c0_7 x0.heap.gc.grey) {a0_8 : Option Addr} {n0_8 c0_8 : Nat} (hn0_8 : n0_8 = x0.taps.length) (hr0_8 : rdS (Bor w0 []) w0 a0_8 c0_8 x0.taps) :
    Ret Try.prog 32 #[.agg #[.slice a0_0 n0_0 c0_0, .slice a0_1 n0_1 c0_1, .slice a0_2 n0_2 c0_2, .slice a0_3 n0_3 c0_3, .int .i64 x0.heap.gc.phase, .int .i64 x0.heap.gc.pos, .int .i64 x0.heap.gc.round, .slice a0_7 n0_7 c0_7, .slice a0_8 n0_8 c0_8, .int .i64 x0.next, .int .i64 x0.want, .int .i64 x0.spent.pages, .int .i64 x0.spent.rent, .int .i64 x0.spent.cpu, .int .i64 x0.press, .int .i64 x0.lost]] w0 (fun v w => ∃ ar0_0 cr0_0, ∃ ar0_1 cr0_1, ∃ ar0_2 cr0_2, ∃ ar0_3 cr0_3, ∃ ar0_7 cr0_7, ∃ ar0_8 cr0_8, v = .agg #[.slice ar0_0 r.label.levels.length cr0_0, .slice ar0_1 r.own.length cr0_1, .slice ar0_2 r.tree.length cr0_2, .slice ar0_3 r.heap.arena.length cr0_3, .int .i64 r.heap.gc.phase, .int .i64 r.heap.gc.pos, .int .i64 r.heap.gc.round, .slice ar0_7 r.heap.gc.grey.length cr0_7, .slice ar0_8 r.taps.length cr0_8, .int .i64 r.next, .int .i64 r.want, .int .i64 r.spent.pages, .int .i64 r.spent.rent, .int .i64 r.spent.cpu, .int .i64 r.press, .int .i64 r.lost] ∧ St w0 [] w [sl ar0_0 cr0_0 r.label.levels, sl ar0_1 cr0_1 r.own, sl ar0_2 cr0_2 r.tree, sl ar0_3 cr0_3 r.heap.arena, sl ar0_7 cr0_7 r.heap.gc.grey, sl ar0_8 cr0_8 r.taps]) := by
  subst hn0_0
  subst hn0_1
  subst hn0_2
  subst hn0_3
  subst hn0_7
  subst hn0_8
  unfold F_l_toPart at h
  refine Ret.of Try.func32 rfl rfl rfl ?_
  have hS1 := St.start w0
  refine CW.seq ?_
  refine CW.region ?_
  refine LW.box (cs := [.slice a0_0 x0.label.levels.length c0_0, .slice a0_1 x0.own.length c0_1, .slice a0_2 x0.tree.length c0_2, .slice a0_3 x0.heap.arena.length c0_3, .int .i64 x0.heap.gc.phase, .int .i64 x0.heap.gc.pos, .int .i64 x0.heap.gc.round, .slice a0_7 x0.heap.gc.grey.length c0_7, .slice a0_8 x0.taps.length c0_8, .int .i64 x0.next, .int .i64 x0.want, .int .i64 x0.spent.pages, .int .i64 x0.spent.rent, .int .i64 x0.spent.cpu, .int .i64 x0.press, .int .i64 x0.lost]) rfl hS1 rfl ?_
  intro g1 w2 hS2 hf
  refine LW.alloc zv75 hS2 rfl ?_
  intro g3 w4 hS3 hf
  refine LW.nil ?_
  show CW _ _ _ _ _ _
  refine CW.seq ?_
  refine CW.region ?_
  refine LW.alloc zv75 hS3 rfl ?_
  intro g5 w6 hS4 hf
  refine LW.nil ?_
  show CW _ _ _ _ _ _
  refine CW.seq ?_
  refine CW.region ?_
  refine LW.u (Pur.fa fo64_0 rfl) rfl ?_
  refine LW.ldbN hS4 2 rfl ag26 rfl rfl rfl ?_
  replace h := obind h
  obtain ⟨y7, hy7, h⟩ := h
  have q := W_l_toLabel (w0 := w6) hy7 rfl (hS4.rB hr0_0)
  refine LW.call pl16 rfl rfl ?_
  refine Ret.mono q ?_
  rintro _ w10 ⟨a8, c9, rfl, hs⟩
  have hS5 := hS4.add hs
  refine LW.u (Pur.fa fo75_0 rfl) rfl ?_
  refine LW.stb hS5 1 rfl ag35 rfl rfl rfl rfl rfl ?_
  intro w11 hS6 hf
  refine LW.nil ?_
  show CW _ _ _ _ _ _
  refine CW.seq ?_
  refine CW.region ?_
  refine LW.u (Pur.fa fo64_1 rfl) rfl ?_
  refine LW.ldb hS6 3 rfl ag24 rfl rfl rfl ?_
  replace h := obind h
  obtain ⟨y12, hy12, h⟩ := h
  have q := W_l_toIntS (w0 := w11) hy12 rfl (hS6.rB hr0_1)
  refine LW.call pl57 rfl rfl ?_
  refine Ret.mono q ?_
  rintro _ w15 ⟨a13, c14, rfl, hs⟩
  have hS7 := hS6.add hs
  refine LW.u (Pur.fa fo75_1 rfl) rfl ?_
  refine LW.stb hS7 2 rfl ag24 rfl rfl rfl rfl rfl ?_
  intro w16 hS8 hf
  refine LW.nil ?_
  show CW _ _ _ _ _ _
  refine CW.fresh (l := [(1, .pointer (some ⟨g1, 0, none⟩)), (2, .pointer (some ⟨g3, 0, none⟩)), (3, .pointer (some ⟨g5, 0, none⟩))]) ⟨rfl, rfl, rfl, trivial⟩ (fun e => ?_)
  refine CW.seq ?_
  refine CW.region ?_
  refine LW.u (Pur.fa fo64_2 rfl) rfl ?_
  refine LW.ldb hS8 4 rfl ag54 rfl rfl rfl ?_
  replace h := obind h
  obtain ⟨y17, hy17, h⟩ := h
  have q := W_l_toResS (w0 := w16) hy17 rfl (hS8.rB hr0_2)
  refine LW.call pl72 rfl rfl ?_
  refine Ret.mono q ?_
  rintro _ w20 ⟨a18, c19, rfl, hs⟩
  have hS9 := hS8.add hs
  refine LW.u (Pur.fa fo75_2 rfl) rfl ?_
  refine LW.stb hS9 3 rfl ag67 rfl rfl rfl rfl rfl ?_
  intro w21 hS10 hf
  refine LW.nil ?_
  show CW _ _ _ _ _ _
  refine CW.seq ?_
  refine CW.region ?_
  refine LW.u (Pur.fa fo64_3 rfl) rfl ?_
  refine LW.ldbN hS10 5 rfl ag59 rfl rfl rfl ?_
  replace h := obind h
  obtain ⟨y22, hy22, h⟩ := h
  have q := W_l_toHeap (w0 := w21) hy22 rfl (hS10.rB hr0_3) rfl (hS10.rB hr0_7)
  refine LW.call pl73 rfl rfl ?_
  refine Ret.mono q ?_
  rintro _ w27 ⟨a23, c24, a25, c26, rfl, hs⟩
  have hS11 := hS10.add hs
  refine LW.u (Pur.fa fo75_3 rfl) rfl ?_
  refine LW.stb hS11 5 rfl ag71 rfl rfl rfl rfl rfl ?_
  intro w28 hS12 hf
  refine LW.nil ?_
  show CW _ _ _ _ _ _
  refine CW.seq ?_
  refine CW.region ?_
  refine LW.u (Pur.fa fo64_4 rfl) rfl ?_
  refine LW.ldb hS12 7 rfl ag60 rfl rfl rfl ?_
  replace h := obind h
  obtain ⟨y29, hy29, h⟩ := h
  have q := W_l_toTapS (w0 := w28) hy29 rfl (hS12.rB hr0_8)
  refine LW.call pl74 rfl rfl ?_
  refine Ret.mono q ?_
  rintro _ w32 ⟨a30, c31, rfl, hs⟩
  have hS13 := hS12.add hs
  refine LW.u (Pur.fa fo75_4 rfl) rfl ?_
  refine LW.stb hS13 6 rfl ag72 rfl rfl rfl rfl rfl ?_
  intro w33 hS14 hf
  refine LW.nil ?_
  show CW _ _ _ _ _ _
  refine CW.fresh (l := [(1, .pointer (some ⟨g1, 0, none⟩)), (2, .pointer (some ⟨g3, 0, none⟩)), (3, .pointer (some ⟨g5, 0, none⟩))]) ⟨rfl, rfl, rfl, trivial⟩ (fun e => ?_)
  refine CW.seq ?_
  refine CW.region ?_
  refine LW.u (Pur.fa fo64_5 rfl) rfl ?_
  refine LW.ldb hS14 8 rfl ag3 rfl rfl rfl ?_
  refine LW.u (Pur.fa fo75_5 rfl) rfl ?_
  refine LW.stb hS14 6 rfl ag3 rfl rfl rfl rfl rfl ?_
  intro w34 hS15 hf
  refine LW.nil ?_
  show CW _ _ _ _ _ _
  refine CW.seq ?_
  refine CW.region ?_
  refine LW.u (Pur.fa fo64_6 rfl) rfl ?_
  refine LW.ldb hS15 8 rfl ag3 rfl rfl rfl ?_
  refine LW.u (Pur.fa fo75_6 rfl) rfl ?_
  refine LW.stb hS15 6 rfl ag3 rfl rfl rfl rfl rfl ?_
  intro w35 hS16 hf
  refine LW.nil ?_
  show CW _ _ _ _ _ _
  refine CW.seq ?_
  refine CW.region ?_
  refine LW.u (Pur.fa fo64_7 rfl) rfl ?_
  refine LW.ldbN hS16 8 rfl ag62 rfl rfl rfl ?_
  replace h := obind h
  obtain ⟨y36, hy36, h⟩ := h
  have q := W_l_toAmt (w0 := w35) hy36
  refine LW.call pl75 rfl rfl ?_
  refine Ret.mono q ?_
  rintro _ w37 ⟨rfl, hs⟩
  have hS17 := hS16.add hs
  refine LW.u (Pur.fa fo75_7 rfl) rfl ?_
  refine LW.stb hS17 6 rfl ag73 rfl rfl rfl rfl rfl ?_
  intro w38 hS18 hf
  refine LW.nil ?_
  show CW _ _ _ _ _ _
  refine CW.fresh (l := [(1, .pointer (some ⟨g1, 0, none⟩)), (2, .pointer (some ⟨g3, 0, none⟩)), (3, .pointer (some ⟨g5, 0, none⟩))]) ⟨rfl, rfl, rfl, trivial⟩ (fun e => ?_)
  refine CW.seq ?_
  refine CW.region ?_
  refine LW.u (Pur.fa fo64_8 rfl) rfl ?_
  refine LW.ldb hS18 8 rfl ag3 rfl rfl rfl ?_
  refine LW.u (Pur.fa fo75_8 rfl) rfl ?_
  refine LW.stb hS18 6 rfl ag3 rfl rfl rfl rfl rfl ?_
  intro w39 hS19 hf
  refine LW.nil ?_
  show CW _ _ _ _ _ _
  refine CW.seq ?_
  refine CW.region ?_
  refine LW.u (Pur.fa fo64_9 rfl) rfl ?_
  refine LW.ldb hS19 8 rfl ag3 rfl rfl rfl ?_
  refine LW.u (Pur.fa fo75_9 rfl) rfl ?_
  refine LW.stb hS19 6 rfl ag3 rfl rfl rfl rfl rfl ?_
  intro w40 hS20 hf
  refine LW.nil ?_
  show CW _ _ _ _ _ _
  refine CW.seq ?_
  refine CW.region ?_
  refine LW.ldbN hS20 6 rfl ag75 rfl rfl rfl ?_
  refine LW.stb hS20 7 rfl ag75 rfl rfl rfl rfl rfl ?_
  intro w41 hS21 hf
  refine LW.nil ?_
  show CW _ _ _ _ _ _
  refine CW.ret ?_
  cases h
  exact And.intro trivial ⟨_, Res.one (resOne.b hS21 7 rfl ag75 rfl rfl), a8, c9, a13, c14, a18, c19, a23, c24, a25, c26, a30, c31, rfl, hS21.pick [5, 4, 3, 1, 2, 0] rfl rfl⟩

end Go.Kx
