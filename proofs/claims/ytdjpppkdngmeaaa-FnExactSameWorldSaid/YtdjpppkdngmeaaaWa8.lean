/- Each call returns what the plain function says. Printed by drive.py. -/
import Derived.Test.YtdjpppkdngmeaaaFa
import Derived.Test.YtdjpppkdngmeaaaPu
import Derived.Test.YtdjpppkdngmeaaaWa10
namespace Go.Kx
open Go Go.RowKit Go.Proofs
set_option maxRecDepth 10000
set_option maxHeartbeats 2000000
set_option linter.unusedVariables false
set_option linter.unusedSimpArgs false
theorem W_s_SameLabel {w0 : World} {N : Nat} {x0 : DLabel} {x1 : DLabel} {r : Bool} (h : F_s_SameLabel N x0 x1 = some r) {a0_0 : Option Addr} {n0_0 c0_0 : Nat} (hn0_0 : n0_0 = x0.levels.length) (hr0_0 : rdS (Bor w0 []) w0 a0_0 c0_0 x0.levels) {a1_0 : Option Addr} {n1_0 c1_0 : Nat} (hn1_0 : n1_0 = x1.levels.length) (hr1_0 : rdS (Bor w0 []) w0 a1_0 c1_0 x1.levels) :
    Ret Try.prog 123 #[.agg #[.slice a0_0 n0_0 c0_0], .agg #[.slice a1_0 n1_0 c1_0]] w0 (fun v w => v = .bool r ∧ St w0 [] w []) := by
  subst hn0_0
  subst hn1_0
  unfold F_s_SameLabel at h
  refine Ret.of Try.func123 rfl rfl rfl ?_
  have hS1 := St.start w0
  refine CW.seq ?_
  refine CW.region ?_
  refine LW.box (cs := [.slice a0_0 x0.levels.length c0_0]) rfl hS1 rfl ?_
  intro g1 w2 hS2 hf
  refine LW.box (cs := [.slice a1_0 x1.levels.length c1_0]) rfl hS2 rfl ?_
  intro g3 w4 hS3 hf
  refine LW.p rfl rfl ?_
  refine LW.nil ?_
  show CW _ _ _ _ _ _
  refine CW.seq ?_
  refine CW.seq ?_
  refine CW.region ?_
  refine LW.u (Pur.fa fo35_0 rfl) rfl ?_
  refine LW.ldb hS3 1 rfl ag24 rfl rfl rfl ?_
  refine LW.u (Pur.len Try.underlying24 rfl) rfl ?_
  refine LW.u (Pur.fa fo35_0 rfl) rfl ?_
  refine LW.ldb hS3 0 rfl ag24 rfl rfl rfl ?_
  refine LW.u (Pur.len Try.underlying24 rfl) rfl ?_
  refine LW.p rfl rfl ?_
  refine LW.nil ?_
  show CW _ _ _ _ _ _
  refine CW.cond rfl (fun hc5 => ?_) (fun hc5 => ?_)
  · replace h := bcT h hc5
    refine CW.seq ?_
    refine CW.region ?_
    refine LW.p rfl rfl ?_
    refine LW.nil ?_
    show CW _ _ _ _ _ _
    refine CW.ret ?_
    cases h
    exact And.intro trivial ⟨_, Res.one (resOne.t rfl), rfl, hS3.pick [] rfl rfl⟩
  replace h := bcF h hc5
  refine CW.skip ?_
  show CW _ _ _ _ _ _
  refine CW.seq ?_
  refine CW.seq ?_
  refine CW.region ?_
  refine LW.p rfl rfl ?_
  refine LW.nil ?_
  show CW _ _ _ _ _ _
  refine CW.block ?_
  obtain ⟨o28, ho28, h29⟩ := obind h
  refine CW.mono (CW.iter (σ := Int) (ρ := Int ⊕ Bool) (fun s6 e wb => En e [(2, .pointer (some ⟨g1, 0, none⟩)), (3, .pointer (some ⟨g3, 0, none⟩)), (5, .int .i64 s6)] ∧ St w0 [] wb [bx g3 35 [.slice a1_0 x1.levels.length c1_0], bx g1 35 [.slice a0_0 x0.levels.length c0_0]]) (fun o x e wb => match o with | .inl s6 => x = .exit 0 ∧ En e [] ∧ St w0 [] wb [bx g3 35 [.slice a1_0 x1.levels.length c1_0], bx g1 35 [.slice a0_0 x0.levels.length c0_0]] | .inr r => x = .ret ∧ ∃ u, u = r ∧ ∃ v, Res Try.prog Try.f123.results e wb v ∧ v = .bool u ∧ St w0 [] wb []) ?_ N 0 _ _ _ ⟨⟨rfl, rfl, rfl, trivial⟩, hS3.pick [0, 1] rfl rfl⟩ ho28) ?_
  · intro s6 e w7 o hM h
    obtain ⟨hE, hS4⟩ := hM
    obtain ⟨e, rfl⟩ := hE.out
    refine CW.seq ?_
    refine CW.seq ?_
    refine CW.region ?_
    refine LW.p rfl rfl ?_
    refine LW.u (Pur.fa fo35_0 rfl) rfl ?_
    refine LW.ldb hS4 1 rfl ag24 rfl rfl rfl ?_
    refine LW.u (Pur.len Try.underlying24 rfl) rfl ?_
    refine LW.p rfl rfl ?_
    refine LW.nil ?_
    show CW _ _ _ _ _ _
    refine CW.fresh (l := [(2, .pointer (some ⟨g1, 0, none⟩)), (3, .pointer (some ⟨g3, 0, none⟩)), (5, .int .i64 s6), (17, .bool (decide (s6 < (x0.levels.length : Int))))]) ⟨rfl, rfl, rfl, rfl, trivial⟩ (fun e => ?_)
    refine CW.cond rfl (fun hc8 => ?_) (fun hc8 => ?_)
    · replace h := bcT h hc8
      refine CW.skip ?_
      show CW _ _ _ _ _ _
      refine CW.seq ?_
      refine CW.block ?_
      refine CW.seq ?_
      refine CW.draw (by kernel_rfl) ?_
      have hS5 := hS4.drew
      refine AW.u (i := 0) rfl (by kernel_rfl) rfl rfl (Pur.fa fo35_0 rfl) ?_
      refine AW.take (i := 1) rfl (by kernel_rfl) rfl rfl (Ldr.box (bt := 35) (fr := (0, 0)) (cs := [.slice a0_0 x0.levels.length c0_0]) ag24 rfl rfl) (St.cell (h := hS5) (i := 1) rfl) ?_
      refine AW.u (i := 2) rfl (by kernel_rfl) rfl rfl (Pur.p rfl) ?_
      replace h := obind h
      obtain ⟨y9, hy9, h⟩ := h
      obtain ⟨b12, o13, cs14, hae, hb17, hp10, hq11, hd15, hk16⟩ := hr0_0.idx hy9
      subst hae
      obtain rfl := hd15
      refine AW.u (i := 3) rfl (by kernel_rfl) rfl rfl (Pur.ix Try.underlying24 sz3 rfl rfl hp10 hq11) ?_
      refine AW.take (i := 4) rfl (by kernel_rfl) rfl rfl (Ldr.old w0 ag3 rfl (hk16 0 _ rfl)) (hS5.same _ hb17.1 hb17.2) ?_
      refine AW.u (i := 5) rfl (by kernel_rfl) rfl rfl (Pur.fa fo35_0 rfl) ?_
      refine AW.take (i := 6) rfl (by kernel_rfl) rfl rfl (Ldr.box (bt := 35) (fr := (0, 0)) (cs := [.slice a1_0 x1.levels.length c1_0]) ag24 rfl rfl) (St.cell (h := hS5) (i := 0) rfl) ?_
      refine AW.u (i := 7) rfl (by kernel_rfl) rfl rfl (Pur.p rfl) ?_
      replace h := obind h
      obtain ⟨y18, hy18, h⟩ := h
      obtain ⟨b21, o22, cs23, hae, hb26, hp19, hq20, hd24, hk25⟩ := hr1_0.idx hy18
      subst hae
      obtain rfl := hd24
      refine AW.u (i := 8) rfl (by kernel_rfl) rfl rfl (Pur.ix Try.underlying24 sz3 rfl rfl hp19 hq20) ?_
      refine AW.take (i := 9) rfl (by kernel_rfl) rfl rfl (Ldr.old w0 ag3 rfl (hk25 0 _ rfl)) (hS5.same _ hb26.1 hb26.2) ?_
      refine AW.u (i := 10) rfl (by kernel_rfl) rfl rfl (Pur.p rfl) ?_
      refine AW.done (by kernel_rfl) ?_
      show CW _ _ _ _ _ _
      refine CW.cond rfl (fun hc27 => ?_) (fun hc27 => ?_)
      · replace h := bcT h hc27
        refine CW.seq ?_
        refine CW.region ?_
        refine LW.p rfl rfl ?_
        refine LW.nil ?_
        show CW _ _ _ _ _ _
        refine CW.ret ?_
        replace h := Option.some.inj h
        subst h
        exact ⟨trivial, rfl, _, rfl, ⟨_, Res.one (resOne.t rfl), rfl, hS5.pick [] rfl rfl⟩⟩
      replace h := bcF h hc27
      refine CW.skip ?_
      show CW _ _ _ _ _ _
      refine CW.region ?_
      iterate 3 refine LW.p rfl rfl ?_
      refine LW.nil ?_
      replace h := Option.some.inj h
      subst h
      exact ⟨rfl, ⟨⟨rfl, rfl, rfl, trivial⟩, hS5.pick [0, 1] rfl rfl⟩⟩
    replace h := bcF h hc8
    refine CW.exit ?_
    replace h := Option.some.inj h
    subst h
    exact ⟨trivial, rfl, ⟨trivial, hS4.pick [0, 1] rfl rfl⟩⟩
  intro x e w30 hM
  rcases o28 with o28 | r31
  · obtain ⟨rfl, hM⟩ := hM
    obtain ⟨hE, hS6⟩ := hM
    obtain ⟨e, rfl⟩ := hE.out
    have h := h29
    show CW _ _ _ _ _ _
    refine CW.seq ?_
    refine CW.region ?_
    refine LW.p rfl rfl ?_
    refine LW.nil ?_
    show CW _ _ _ _ _ _
    refine CW.ret ?_
    cases h
    exact And.intro trivial ⟨_, Res.one (resOne.t rfl), rfl, hS6.pick [] rfl rfl⟩
  obtain ⟨rfl, u, rfl, hM⟩ := hM
  cases h29
  exact And.intro trivial hM

theorem W_s_l13Ints {w0 : World} {N : Nat} {x0 : List Int} {x1 : List Int} {r : Bool} (h : F_s_l13Ints N x0 x1 = some r) {a0_0 : Option Addr} {n0_0 c0_0 : Nat} (hn0_0 : n0_0 = x0.length) (hr0_0 : rdS (Bor w0 []) w0 a0_0 c0_0 x0) {a1_0 : Option Addr} {n1_0 c1_0 : Nat} (hn1_0 : n1_0 = x1.length) (hr1_0 : rdS (Bor w0 []) w0 a1_0 c1_0 x1) :
    Ret Try.prog 124 #[.slice a0_0 n0_0 c0_0, .slice a1_0 n1_0 c1_0] w0 (fun v w => v = .bool r ∧ St w0 [] w []) := by
  subst hn0_0
  subst hn1_0
  unfold F_s_l13Ints at h
  refine Ret.of Try.func124 rfl rfl rfl ?_
  have hS1 := St.start w0
  refine CW.seq ?_
  refine CW.region ?_
  refine LW.p rfl rfl ?_
  refine LW.nil ?_
  show CW _ _ _ _ _ _
  refine CW.seq ?_
  refine CW.seq ?_
  refine CW.region ?_
  refine LW.p rfl rfl ?_
  refine LW.u (Pur.len Try.underlying24 rfl) rfl ?_
  refine LW.p rfl rfl ?_
  refine LW.u (Pur.len Try.underlying24 rfl) rfl ?_
  refine LW.p rfl rfl ?_
  refine LW.nil ?_
  show CW _ _ _ _ _ _
  refine CW.cond rfl (fun hc1 => ?_) (fun hc1 => ?_)
  · replace h := bcT h hc1
    refine CW.seq ?_
    refine CW.region ?_
    refine LW.p rfl rfl ?_
    refine LW.nil ?_
    show CW _ _ _ _ _ _
    refine CW.ret ?_
    cases h
    exact And.intro trivial ⟨_, Res.one (resOne.t rfl), rfl, hS1.pick [] rfl rfl⟩
  replace h := bcF h hc1
  refine CW.skip ?_
  show CW _ _ _ _ _ _
  refine CW.seq ?_
  refine CW.seq ?_
  refine CW.region ?_
  refine LW.p rfl rfl ?_
  refine LW.nil ?_
  show CW _ _ _ _ _ _
  refine CW.block ?_
  obtain ⟨o24, ho24, h25⟩ := obind h
  refine CW.mono (CW.iter (σ := Int) (ρ := Int ⊕ Bool) (fun s2 e wb => En e [(0, .slice a0_0 x0.length c0_0), (1, .slice a1_0 x1.length c1_0), (5, .int .i64 s2)] ∧ St w0 [] wb []) (fun o x e wb => match o with | .inl s2 => x = .exit 0 ∧ En e [] ∧ St w0 [] wb [] | .inr r => x = .ret ∧ ∃ u, u = r ∧ ∃ v, Res Try.prog Try.f124.results e wb v ∧ v = .bool u ∧ St w0 [] wb []) ?_ N 0 _ _ _ ⟨⟨rfl, rfl, rfl, trivial⟩, hS1.pick [] rfl rfl⟩ ho24) ?_
  · intro s2 e w3 o hM h
    obtain ⟨hE, hS2⟩ := hM
    obtain ⟨e, rfl⟩ := hE.out
    refine CW.seq ?_
    refine CW.seq ?_
    refine CW.region ?_
    iterate 2 refine LW.p rfl rfl ?_
    refine LW.u (Pur.len Try.underlying24 rfl) rfl ?_
    refine LW.p rfl rfl ?_
    refine LW.nil ?_
    show CW _ _ _ _ _ _
    refine CW.cond rfl (fun hc4 => ?_) (fun hc4 => ?_)
    · replace h := bcT h hc4
      refine CW.skip ?_
      show CW _ _ _ _ _ _
      refine CW.seq ?_
      refine CW.block ?_
      refine CW.seq ?_
      refine CW.draw (by kernel_rfl) ?_
      have hS3 := hS2.drew
      refine AW.u (i := 0) rfl (by kernel_rfl) rfl rfl (Pur.p rfl) ?_
      refine AW.u (i := 1) rfl (by kernel_rfl) rfl rfl (Pur.p rfl) ?_
      replace h := obind h
      obtain ⟨y5, hy5, h⟩ := h
      obtain ⟨b8, o9, cs10, hae, hb13, hp6, hq7, hd11, hk12⟩ := hr0_0.idx hy5
      subst hae
      obtain rfl := hd11
      refine AW.u (i := 2) rfl (by kernel_rfl) rfl rfl (Pur.ix Try.underlying24 sz3 rfl rfl hp6 hq7) ?_
      refine AW.take (i := 3) rfl (by kernel_rfl) rfl rfl (Ldr.old w0 ag3 rfl (hk12 0 _ rfl)) (hS3.same _ hb13.1 hb13.2) ?_
      refine AW.u (i := 4) rfl (by kernel_rfl) rfl rfl (Pur.p rfl) ?_
      refine AW.u (i := 5) rfl (by kernel_rfl) rfl rfl (Pur.p rfl) ?_
      replace h := obind h
      obtain ⟨y14, hy14, h⟩ := h
      obtain ⟨b17, o18, cs19, hae, hb22, hp15, hq16, hd20, hk21⟩ := hr1_0.idx hy14
      subst hae
      obtain rfl := hd20
      refine AW.u (i := 6) rfl (by kernel_rfl) rfl rfl (Pur.ix Try.underlying24 sz3 rfl rfl hp15 hq16) ?_
      refine AW.take (i := 7) rfl (by kernel_rfl) rfl rfl (Ldr.old w0 ag3 rfl (hk21 0 _ rfl)) (hS3.same _ hb22.1 hb22.2) ?_
      refine AW.u (i := 8) rfl (by kernel_rfl) rfl rfl (Pur.p rfl) ?_
      refine AW.done (by kernel_rfl) ?_
      show CW _ _ _ _ _ _
      refine CW.cond rfl (fun hc23 => ?_) (fun hc23 => ?_)
      · replace h := bcT h hc23
        refine CW.seq ?_
        refine CW.region ?_
        refine LW.p rfl rfl ?_
        refine LW.nil ?_
        show CW _ _ _ _ _ _
        refine CW.ret ?_
        replace h := Option.some.inj h
        subst h
        exact ⟨trivial, rfl, _, rfl, ⟨_, Res.one (resOne.t rfl), rfl, hS3.pick [] rfl rfl⟩⟩
      replace h := bcF h hc23
      refine CW.skip ?_
      show CW _ _ _ _ _ _
      refine CW.region ?_
      iterate 3 refine LW.p rfl rfl ?_
      refine LW.nil ?_
      replace h := Option.some.inj h
      subst h
      exact ⟨rfl, ⟨⟨rfl, rfl, rfl, trivial⟩, hS3.pick [] rfl rfl⟩⟩
    replace h := bcF h hc4
    refine CW.exit ?_
    replace h := Option.some.inj h
    subst h
    exact ⟨trivial, rfl, ⟨trivial, hS2.pick [] rfl rfl⟩⟩
  intro x e w26 hM
  rcases o24 with o24 | r27
  · obtain ⟨rfl, hM⟩ := hM
    obtain ⟨hE, hS4⟩ := hM
    obtain ⟨e, rfl⟩ := hE.out
    have h := h25
    show CW _ _ _ _ _ _
    refine CW.seq ?_
    refine CW.region ?_
    refine LW.p rfl rfl ?_
    refine LW.nil ?_
    show CW _ _ _ _ _ _
    refine CW.ret ?_
    cases h
    exact And.intro trivial ⟨_, Res.one (resOne.t rfl), rfl, hS4.pick [] rfl rfl⟩
  obtain ⟨rfl, u, rfl, hM⟩ := hM
  cases h25
  exact And.intro trivial hM

theorem W_s_l8Same {w0 : World} {N : Nat} {x0 : DObj} {x1 : DObj} {r : Bool} (h : F_s_l8Same N x0 x1 = some r) {a0_10 : Option Addr} {n0_10 c0_10 : Nat} (hn0_10 : n0_10 = x0.links.length) (hr0_10 : rdS (Bor w0 []) w0 a0_10 c0_10 x0.links) {a0_11 : Option Addr} {n0_11 c0_11 : Nat} (hn0_11 : n0_11 = x0.data.length) (hr0_11 : rdS (Bor w0 []) w0 a0_11 c0_11 x0.data) {a0_12 : Option Addr} {n0_12 c0_12 : Nat} (hn0_12 : n0_12 = x0.queue.length) (hr0_12 : rdS (Bor w0 []) w0 a0_12 c0_12 x0.queue) {a1_10 : Option Addr} {n1_10 c1_10 : Nat} (hn1_10 : n1_10 = x1.links.length) (hr1_10 : rdS (Bor w0 []) w0 a1_10 c1_10 x1.links) {a1_11 : Option Addr} {n1_11 c1_11 : Nat} (hn1_11 : n1_11 = x1.data.length) (hr1_11 : rdS (Bor w0 []) w0 a1_11 c1_11 x1.data) {a1_12 : Option Addr} {n1_12 c1_12 : Nat} (hn1_12 : n1_12 = x1.queue.length) (hr1_12 : rdS (Bor w0 []) w0 a1_12 c1_12 x1.queue) :
    Ret Try.prog 172 #[.agg #[.int .i64 x0.gen, .int .i64 x0.kind, .int .i64 x0.box, .int .i64 x0.res, .int .i64 x0.til, .int .i64 x0.pages, .int .i64 x0.wait, .int .i64 x0.got, .int .i64 x0.ran, .bool x0.mark, .slice a0_10 n0_10 c0_10, .slice a0_11 n0_11 c0_11, .slice a0_12 n0_12 c0_12], .agg #[.int .i64 x1.gen, .int .i64 x1.kind, .int .i64 x1.box, .int .i64 x1.res, .int .i64 x1.til, .int .i64 x1.pages, .int .i64 x1.wait, .int .i64 x1.got, .int .i64 x1.ran, .bool x1.mark, .slice a1_10 n1_10 c1_10, .slice a1_11 n1_11 c1_11, .slice a1_12 n1_12 c1_12]] w0 (fun v w => v = .bool r ∧ St w0 [] w []) := by
  subst hn0_10
  subst hn0_11
  subst hn0_12
  subst hn1_10
  subst hn1_11
  subst hn1_12
  unfold F_s_l8Same at h
  refine Ret.of Try.func172 rfl rfl rfl ?_
  have hS1 := St.start w0
  refine CW.seq ?_
  refine CW.region ?_
  refine LW.box (cs := [.int .i64 x0.gen, .int .i64 x0.kind, .int .i64 x0.box, .int .i64 x0.res, .int .i64 x0.til, .int .i64 x0.pages, .int .i64 x0.wait, .int .i64 x0.got, .int .i64 x0.ran, .bool x0.mark, .slice a0_10 x0.links.length c0_10, .slice a0_11 x0.data.length c0_11, .slice a0_12 x0.queue.length c0_12]) rfl hS1 rfl ?_
  intro g1 w2 hS2 hf
  refine LW.box (cs := [.int .i64 x1.gen, .int .i64 x1.kind, .int .i64 x1.box, .int .i64 x1.res, .int .i64 x1.til, .int .i64 x1.pages, .int .i64 x1.wait, .int .i64 x1.got, .int .i64 x1.ran, .bool x1.mark, .slice a1_10 x1.links.length c1_10, .slice a1_11 x1.data.length c1_11, .slice a1_12 x1.queue.length c1_12]) rfl hS2 rfl ?_
  intro g3 w4 hS3 hf
  refine LW.p rfl rfl ?_
  refine LW.nil ?_
  show CW _ _ _ _ _ _
  refine CW.seq ?_
  refine CW.seq ?_
  obtain ⟨j5, hj5, h6⟩ := obind h
  refine CW.cut (fun e wb => En e [(2, .pointer (some ⟨g1, 0, none⟩)), (3, .pointer (some ⟨g3, 0, none⟩)), (102, .bool j5)] ∧ St w0 [] wb [bx g3 123 [.int .i64 x1.gen, .int .i64 x1.kind, .int .i64 x1.box, .int .i64 x1.res, .int .i64 x1.til, .int .i64 x1.pages, .int .i64 x1.wait, .int .i64 x1.got, .int .i64 x1.ran, .bool x1.mark, .slice a1_10 x1.links.length c1_10, .slice a1_11 x1.data.length c1_11, .slice a1_12 x1.queue.length c1_12], bx g1 123 [.int .i64 x0.gen, .int .i64 x0.kind, .int .i64 x0.box, .int .i64 x0.res, .int .i64 x0.til, .int .i64 x0.pages, .int .i64 x0.wait, .int .i64 x0.got, .int .i64 x0.ran, .bool x0.mark, .slice a0_10 x0.links.length c0_10, .slice a0_11 x0.data.length c0_11, .slice a0_12 x0.queue.length c0_12]]) ?_ ?_
  · have h := hj5
    refine CW.region ?_
    refine LW.u (Pur.fa fo123_0 rfl) rfl ?_
    refine LW.ldb hS3 1 rfl ag3 rfl rfl rfl ?_
    refine LW.u (Pur.fa fo123_0 rfl) rfl ?_
    refine LW.ldb hS3 0 rfl ag3 rfl rfl rfl ?_
    iterate 2 refine LW.p rfl rfl ?_
    rcases bcases (x0.gen != x1.gen) with hc7 | hc7
    · replace h := bcT h hc7
      refine LW.gN (want_not rfl rfl hc7) rfl ?_
      refine LW.gN (want_not rfl rfl hc7) rfl ?_
      refine LW.gN (want_not rfl rfl hc7) rfl ?_
      refine LW.gN (want_not rfl rfl hc7) rfl ?_
      refine LW.gN (want_not rfl rfl hc7) rfl ?_
      refine LW.u (Pur.pickT rfl hc7) rfl ?_
      refine LW.p rfl rfl ?_
      refine LW.gN (want_not rfl rfl rfl) rfl ?_
      refine LW.gN (want_not rfl rfl rfl) rfl ?_
      refine LW.gN (want_not rfl rfl rfl) rfl ?_
      refine LW.gN (want_not rfl rfl rfl) rfl ?_
      refine LW.gN (want_not rfl rfl rfl) rfl ?_
      refine LW.u (Pur.pickT rfl rfl) rfl ?_
      refine LW.p rfl rfl ?_
      refine LW.gN (want_not rfl rfl rfl) rfl ?_
      refine LW.fresh (l := [(2, .pointer (some ⟨g1, 0, none⟩)), (3, .pointer (some ⟨g3, 0, none⟩)), (27, .bool true), (28, undef)]) ⟨rfl, rfl, rfl, rfl, trivial⟩ (fun e => ?_)
      refine LW.gN (want_not rfl rfl rfl) rfl ?_
      refine LW.gN (want_not rfl rfl rfl) rfl ?_
      refine LW.gN (want_not rfl rfl rfl) rfl ?_
      refine LW.gN (want_not rfl rfl rfl) rfl ?_
      refine LW.u (Pur.pickT rfl rfl) rfl ?_
      refine LW.p rfl rfl ?_
      refine LW.gN (want_not rfl rfl rfl) rfl ?_
      refine LW.gN (want_not rfl rfl rfl) rfl ?_
      refine LW.gN (want_not rfl rfl rfl) rfl ?_
      refine LW.gN (want_not rfl rfl rfl) rfl ?_
      refine LW.gN (want_not rfl rfl rfl) rfl ?_
      refine LW.u (Pur.pickT rfl rfl) rfl ?_
      refine LW.p rfl rfl ?_
      refine LW.gN (want_not rfl rfl rfl) rfl ?_
      refine LW.gN (want_not rfl rfl rfl) rfl ?_
      refine LW.gN (want_not rfl rfl rfl) rfl ?_
      refine LW.gN (want_not rfl rfl rfl) rfl ?_
      refine LW.gN (want_not rfl rfl rfl) rfl ?_
      refine LW.u (Pur.pickT rfl rfl) rfl ?_
      refine LW.p rfl rfl ?_
      refine LW.gN (want_not rfl rfl rfl) rfl ?_
      refine LW.gN (want_not rfl rfl rfl) rfl ?_
      refine LW.gN (want_not rfl rfl rfl) rfl ?_
      refine LW.gN (want_not rfl rfl rfl) rfl ?_
      refine LW.gN (want_not rfl rfl rfl) rfl ?_
      refine LW.fresh (l := [(2, .pointer (some ⟨g1, 0, none⟩)), (3, .pointer (some ⟨g3, 0, none⟩)), (48, .bool true), (53, undef)]) ⟨rfl, rfl, rfl, rfl, trivial⟩ (fun e => ?_)
      refine LW.u (Pur.pickT rfl rfl) rfl ?_
      refine LW.p rfl rfl ?_
      refine LW.gN (want_not rfl rfl rfl) rfl ?_
      refine LW.gN (want_not rfl rfl rfl) rfl ?_
      refine LW.gN (want_not rfl rfl rfl) rfl ?_
      refine LW.gN (want_not rfl rfl rfl) rfl ?_
      refine LW.gN (want_not rfl rfl rfl) rfl ?_
      refine LW.u (Pur.pickT rfl rfl) rfl ?_
      refine LW.p rfl rfl ?_
      refine LW.gN (want_not rfl rfl rfl) rfl ?_
      refine LW.gN (want_not rfl rfl rfl) rfl ?_
      refine LW.gN (want_not rfl rfl rfl) rfl ?_
      refine LW.gN (want_not rfl rfl rfl) rfl ?_
      refine LW.gN (want_not rfl rfl rfl) rfl ?_
      refine LW.u (Pur.pickT rfl rfl) rfl ?_
      refine LW.p rfl rfl ?_
      refine LW.gN (want_not rfl rfl rfl) rfl ?_
      refine LW.gN (want_not rfl rfl rfl) rfl ?_
      refine LW.gN (want_not rfl rfl rfl) rfl ?_
      refine LW.gN (want_not rfl rfl rfl) rfl ?_
      refine LW.gN (want_not rfl rfl rfl) rfl ?_
      refine LW.u (Pur.pickT rfl rfl) rfl ?_
      refine LW.p rfl rfl ?_
      refine LW.gN (want_not rfl rfl rfl) rfl ?_
      refine LW.gN (want_not rfl rfl rfl) rfl ?_
      refine LW.fresh (l := [(2, .pointer (some ⟨g1, 0, none⟩)), (3, .pointer (some ⟨g3, 0, none⟩)), (76, .bool true), (78, undef)]) ⟨rfl, rfl, rfl, rfl, trivial⟩ (fun e => ?_)
      refine LW.gN (want_not rfl rfl rfl) rfl ?_
      refine LW.gN (want_not rfl rfl rfl) rfl ?_
      refine LW.gN (want_not rfl rfl rfl) rfl ?_
      refine LW.gN (want_not rfl rfl rfl) rfl ?_
      refine LW.gN (want_not rfl rfl rfl) rfl ?_
      refine LW.u (Pur.pickT rfl rfl) rfl ?_
      refine LW.p rfl rfl ?_
      refine LW.gN (want_not rfl rfl rfl) rfl ?_
      refine LW.gN (want_not rfl rfl rfl) rfl ?_
      refine LW.gN (want_not rfl rfl rfl) rfl ?_
      refine LW.gN (want_not rfl rfl rfl) rfl ?_
      refine LW.gN (want_not rfl rfl rfl) rfl ?_
      refine LW.gN (want_not rfl rfl rfl) rfl ?_
      refine LW.gN (want_not rfl rfl rfl) rfl ?_
      refine LW.u (Pur.pickT rfl rfl) rfl ?_
      refine LW.p rfl rfl ?_
      refine LW.gN (want_not rfl rfl rfl) rfl ?_
      refine LW.gN (want_not rfl rfl rfl) rfl ?_
      refine LW.gN (want_not rfl rfl rfl) rfl ?_
      refine LW.gN (want_not rfl rfl rfl) rfl ?_
      refine LW.gN (want_not rfl rfl rfl) rfl ?_
      refine LW.gN (want_not rfl rfl rfl) rfl ?_
      refine LW.gN (want_not rfl rfl rfl) rfl ?_
      refine LW.u (Pur.pickT rfl rfl) rfl ?_
      refine LW.nil ?_
      replace h := Option.some.inj h
      subst h
      exact ⟨⟨rfl, rfl, rfl, trivial⟩, hS3.pick [0, 1] rfl rfl⟩
    replace h := bcF h hc7
    refine LW.gY (want_of rfl rfl hc7) ?_
    refine LW.u (Pur.fa fo123_1 rfl) rfl ?_
    refine LW.gY (want_of rfl rfl hc7) ?_
    refine LW.ldb hS3 1 rfl ag3 rfl rfl rfl ?_
    refine LW.gY (want_of rfl rfl hc7) ?_
    refine LW.u (Pur.fa fo123_1 rfl) rfl ?_
    refine LW.gY (want_of rfl rfl hc7) ?_
    refine LW.ldb hS3 0 rfl ag3 rfl rfl rfl ?_
    refine LW.gY (want_of rfl rfl hc7) ?_
    refine LW.p rfl rfl ?_
    refine LW.u (Pur.pickF rfl hc7) rfl ?_
    refine LW.p rfl rfl ?_
    rcases bcases (x0.kind != x1.kind) with hc8 | hc8
    · replace h := bcT h hc8
      refine LW.gN (want_not rfl rfl hc8) rfl ?_
      refine LW.gN (want_not rfl rfl hc8) rfl ?_
      refine LW.gN (want_not rfl rfl hc8) rfl ?_
      refine LW.gN (want_not rfl rfl hc8) rfl ?_
      refine LW.gN (want_not rfl rfl hc8) rfl ?_
      refine LW.u (Pur.pickT rfl hc8) rfl ?_
      refine LW.p rfl rfl ?_
      refine LW.fresh (l := [(2, .pointer (some ⟨g1, 0, none⟩)), (3, .pointer (some ⟨g3, 0, none⟩)), (27, .bool true)]) ⟨rfl, rfl, rfl, trivial⟩ (fun e => ?_)
      refine LW.gN (want_not rfl rfl rfl) rfl ?_
      refine LW.gN (want_not rfl rfl rfl) rfl ?_
      refine LW.gN (want_not rfl rfl rfl) rfl ?_
      refine LW.gN (want_not rfl rfl rfl) rfl ?_
      refine LW.gN (want_not rfl rfl rfl) rfl ?_
      refine LW.u (Pur.pickT rfl rfl) rfl ?_
      refine LW.p rfl rfl ?_
      refine LW.gN (want_not rfl rfl rfl) rfl ?_
      refine LW.gN (want_not rfl rfl rfl) rfl ?_
      refine LW.gN (want_not rfl rfl rfl) rfl ?_
      refine LW.gN (want_not rfl rfl rfl) rfl ?_
      refine LW.gN (want_not rfl rfl rfl) rfl ?_
      refine LW.u (Pur.pickT rfl rfl) rfl ?_
      refine LW.p rfl rfl ?_
      refine LW.gN (want_not rfl rfl rfl) rfl ?_
      refine LW.gN (want_not rfl rfl rfl) rfl ?_
      refine LW.gN (want_not rfl rfl rfl) rfl ?_
      refine LW.gN (want_not rfl rfl rfl) rfl ?_
      refine LW.gN (want_not rfl rfl rfl) rfl ?_
      refine LW.u (Pur.pickT rfl rfl) rfl ?_
      refine LW.p rfl rfl ?_
      refine LW.gN (want_not rfl rfl rfl) rfl ?_
      refine LW.gN (want_not rfl rfl rfl) rfl ?_
      refine LW.gN (want_not rfl rfl rfl) rfl ?_
      refine LW.gN (want_not rfl rfl rfl) rfl ?_
      refine LW.fresh (l := [(2, .pointer (some ⟨g1, 0, none⟩)), (3, .pointer (some ⟨g3, 0, none⟩)), (48, .bool true), (50, undef), (52, undef)]) ⟨rfl, rfl, rfl, rfl, rfl, trivial⟩ (fun e => ?_)
      refine LW.gN (want_not rfl rfl rfl) rfl ?_
      refine LW.u (Pur.pickT rfl rfl) rfl ?_
      refine LW.p rfl rfl ?_
      refine LW.gN (want_not rfl rfl rfl) rfl ?_
      refine LW.gN (want_not rfl rfl rfl) rfl ?_
      refine LW.gN (want_not rfl rfl rfl) rfl ?_
      refine LW.gN (want_not rfl rfl rfl) rfl ?_
      refine LW.gN (want_not rfl rfl rfl) rfl ?_
      refine LW.u (Pur.pickT rfl rfl) rfl ?_
      refine LW.p rfl rfl ?_
      refine LW.gN (want_not rfl rfl rfl) rfl ?_
      refine LW.gN (want_not rfl rfl rfl) rfl ?_
      refine LW.gN (want_not rfl rfl rfl) rfl ?_
      refine LW.gN (want_not rfl rfl rfl) rfl ?_
      refine LW.gN (want_not rfl rfl rfl) rfl ?_
      refine LW.u (Pur.pickT rfl rfl) rfl ?_
      refine LW.p rfl rfl ?_
      refine LW.gN (want_not rfl rfl rfl) rfl ?_
      refine LW.gN (want_not rfl rfl rfl) rfl ?_
      refine LW.gN (want_not rfl rfl rfl) rfl ?_
      refine LW.gN (want_not rfl rfl rfl) rfl ?_
      refine LW.gN (want_not rfl rfl rfl) rfl ?_
      refine LW.u (Pur.pickT rfl rfl) rfl ?_
      refine LW.p rfl rfl ?_
      refine LW.gN (want_not rfl rfl rfl) rfl ?_
      refine LW.fresh (l := [(2, .pointer (some ⟨g1, 0, none⟩)), (3, .pointer (some ⟨g3, 0, none⟩)), (76, .bool true), (77, undef)]) ⟨rfl, rfl, rfl, rfl, trivial⟩ (fun e => ?_)
      refine LW.gN (want_not rfl rfl rfl) rfl ?_
      refine LW.gN (want_not rfl rfl rfl) rfl ?_
      refine LW.gN (want_not rfl rfl rfl) rfl ?_
      refine LW.gN (want_not rfl rfl rfl) rfl ?_
      refine LW.gN (want_not rfl rfl rfl) rfl ?_
      refine LW.gN (want_not rfl rfl rfl) rfl ?_
      refine LW.u (Pur.pickT rfl rfl) rfl ?_
      refine LW.p rfl rfl ?_
      refine LW.gN (want_not rfl rfl rfl) rfl ?_
      refine LW.gN (want_not rfl rfl rfl) rfl ?_
      refine LW.gN (want_not rfl rfl rfl) rfl ?_
      refine LW.gN (want_not rfl rfl rfl) rfl ?_
      refine LW.gN (want_not rfl rfl rfl) rfl ?_
      refine LW.gN (want_not rfl rfl rfl) rfl ?_
      refine LW.gN (want_not rfl rfl rfl) rfl ?_
      refine LW.u (Pur.pickT rfl rfl) rfl ?_
      refine LW.p rfl rfl ?_
      refine LW.gN (want_not rfl rfl rfl) rfl ?_
      refine LW.gN (want_not rfl rfl rfl) rfl ?_
      refine LW.gN (want_not rfl rfl rfl) rfl ?_
      refine LW.gN (want_not rfl rfl rfl) rfl ?_
      refine LW.gN (want_not rfl rfl rfl) rfl ?_
      refine LW.gN (want_not rfl rfl rfl) rfl ?_
      refine LW.gN (want_not rfl rfl rfl) rfl ?_
      refine LW.u (Pur.pickT rfl rfl) rfl ?_
      refine LW.nil ?_
      replace h := Option.some.inj h
      subst h
      exact ⟨⟨rfl, rfl, rfl, trivial⟩, hS3.pick [0, 1] rfl rfl⟩
    replace h := bcF h hc8
    refine LW.gY (want_of rfl rfl hc8) ?_
    refine LW.u (Pur.fa fo123_2 rfl) rfl ?_
    refine LW.gY (want_of rfl rfl hc8) ?_
    refine LW.ldb hS3 1 rfl ag3 rfl rfl rfl ?_
    refine LW.gY (want_of rfl rfl hc8) ?_
    refine LW.u (Pur.fa fo123_2 rfl) rfl ?_
    refine LW.gY (want_of rfl rfl hc8) ?_
    refine LW.ldb hS3 0 rfl ag3 rfl rfl rfl ?_
    refine LW.gY (want_of rfl rfl hc8) ?_
    refine LW.p rfl rfl ?_
    refine LW.u (Pur.pickF rfl hc8) rfl ?_
    refine LW.p rfl rfl ?_
    refine LW.fresh (l := [(2, .pointer (some ⟨g1, 0, none⟩)), (3, .pointer (some ⟨g3, 0, none⟩)), (27, .bool (x0.box != x1.box))]) ⟨rfl, rfl, rfl, trivial⟩ (fun e => ?_)
    rcases bcases (x0.box != x1.box) with hc9 | hc9
    · replace h := bcT h hc9
      refine LW.gN (want_not rfl rfl hc9) rfl ?_
      refine LW.gN (want_not rfl rfl hc9) rfl ?_
      refine LW.gN (want_not rfl rfl hc9) rfl ?_
      refine LW.gN (want_not rfl rfl hc9) rfl ?_
      refine LW.gN (want_not rfl rfl hc9) rfl ?_
      refine LW.u (Pur.pickT rfl hc9) rfl ?_
      refine LW.p rfl rfl ?_
      refine LW.gN (want_not rfl rfl rfl) rfl ?_
      refine LW.gN (want_not rfl rfl rfl) rfl ?_
      refine LW.gN (want_not rfl rfl rfl) rfl ?_
      refine LW.gN (want_not rfl rfl rfl) rfl ?_
      refine LW.gN (want_not rfl rfl rfl) rfl ?_
      refine LW.u (Pur.pickT rfl rfl) rfl ?_
      refine LW.p rfl rfl ?_
      refine LW.gN (want_not rfl rfl rfl) rfl ?_
      refine LW.gN (want_not rfl rfl rfl) rfl ?_
      refine LW.gN (want_not rfl rfl rfl) rfl ?_
      refine LW.gN (want_not rfl rfl rfl) rfl ?_
      refine LW.gN (want_not rfl rfl rfl) rfl ?_
      refine LW.u (Pur.pickT rfl rfl) rfl ?_
      refine LW.p rfl rfl ?_
      refine LW.gN (want_not rfl rfl rfl) rfl ?_
      refine LW.gN (want_not rfl rfl rfl) rfl ?_
      refine LW.gN (want_not rfl rfl rfl) rfl ?_
      refine LW.fresh (l := [(2, .pointer (some ⟨g1, 0, none⟩)), (3, .pointer (some ⟨g3, 0, none⟩)), (48, .bool true), (50, undef), (51, undef)]) ⟨rfl, rfl, rfl, rfl, rfl, trivial⟩ (fun e => ?_)
      refine LW.gN (want_not rfl rfl rfl) rfl ?_
      refine LW.gN (want_not rfl rfl rfl) rfl ?_
      refine LW.u (Pur.pickT rfl rfl) rfl ?_
      refine LW.p rfl rfl ?_
      refine LW.gN (want_not rfl rfl rfl) rfl ?_
      refine LW.gN (want_not rfl rfl rfl) rfl ?_
      refine LW.gN (want_not rfl rfl rfl) rfl ?_
      refine LW.gN (want_not rfl rfl rfl) rfl ?_
      refine LW.gN (want_not rfl rfl rfl) rfl ?_
      refine LW.u (Pur.pickT rfl rfl) rfl ?_
      refine LW.p rfl rfl ?_
      refine LW.gN (want_not rfl rfl rfl) rfl ?_
      refine LW.gN (want_not rfl rfl rfl) rfl ?_
      refine LW.gN (want_not rfl rfl rfl) rfl ?_
      refine LW.gN (want_not rfl rfl rfl) rfl ?_
      refine LW.gN (want_not rfl rfl rfl) rfl ?_
      refine LW.u (Pur.pickT rfl rfl) rfl ?_
      refine LW.p rfl rfl ?_
      refine LW.gN (want_not rfl rfl rfl) rfl ?_
      refine LW.gN (want_not rfl rfl rfl) rfl ?_
      refine LW.gN (want_not rfl rfl rfl) rfl ?_
      refine LW.gN (want_not rfl rfl rfl) rfl ?_
      refine LW.gN (want_not rfl rfl rfl) rfl ?_
      refine LW.u (Pur.pickT rfl rfl) rfl ?_
      refine LW.p rfl rfl ?_
      refine LW.fresh (l := [(2, .pointer (some ⟨g1, 0, none⟩)), (3, .pointer (some ⟨g3, 0, none⟩)), (76, .bool true)]) ⟨rfl, rfl, rfl, trivial⟩ (fun e => ?_)
      refine LW.gN (want_not rfl rfl rfl) rfl ?_
      refine LW.gN (want_not rfl rfl rfl) rfl ?_
      refine LW.gN (want_not rfl rfl rfl) rfl ?_
      refine LW.gN (want_not rfl rfl rfl) rfl ?_
      refine LW.gN (want_not rfl rfl rfl) rfl ?_
      refine LW.gN (want_not rfl rfl rfl) rfl ?_
      refine LW.gN (want_not rfl rfl rfl) rfl ?_
      refine LW.u (Pur.pickT rfl rfl) rfl ?_
      refine LW.p rfl rfl ?_
      refine LW.gN (want_not rfl rfl rfl) rfl ?_
      refine LW.gN (want_not rfl rfl rfl) rfl ?_
      refine LW.gN (want_not rfl rfl rfl) rfl ?_
      refine LW.gN (want_not rfl rfl rfl) rfl ?_
      refine LW.gN (want_not rfl rfl rfl) rfl ?_
      refine LW.gN (want_not rfl rfl rfl) rfl ?_
      refine LW.gN (want_not rfl rfl rfl) rfl ?_
      refine LW.u (Pur.pickT rfl rfl) rfl ?_
      refine LW.p rfl rfl ?_
      refine LW.gN (want_not rfl rfl rfl) rfl ?_
      refine LW.gN (want_not rfl rfl rfl) rfl ?_
      refine LW.gN (want_not rfl rfl rfl) rfl ?_
      refine LW.gN (want_not rfl rfl rfl) rfl ?_
      refine LW.gN (want_not rfl rfl rfl) rfl ?_
      refine LW.gN (want_not rfl rfl rfl) rfl ?_
      refine LW.gN (want_not rfl rfl rfl) rfl ?_
      refine LW.fresh (l := [(2, .pointer (some ⟨g1, 0, none⟩)), (3, .pointer (some ⟨g3, 0, none⟩)), (94, .bool true), (101, undef)]) ⟨rfl, rfl, rfl, rfl, trivial⟩ (fun e => ?_)
      refine LW.u (Pur.pickT rfl rfl) rfl ?_
      refine LW.nil ?_
      replace h := Option.some.inj h
      subst h
      exact ⟨⟨rfl, rfl, rfl, trivial⟩, hS3.pick [0, 1] rfl rfl⟩
    replace h := bcF h hc9
    refine LW.gY (want_of rfl rfl hc9) ?_
    refine LW.u (Pur.fa fo123_3 rfl) rfl ?_
    refine LW.gY (want_of rfl rfl hc9) ?_
    refine LW.ldb hS3 1 rfl ag3 rfl rfl rfl ?_
    refine LW.gY (want_of rfl rfl hc9) ?_
    refine LW.u (Pur.fa fo123_3 rfl) rfl ?_
    refine LW.gY (want_of rfl rfl hc9) ?_
    refine LW.ldb hS3 0 rfl ag3 rfl rfl rfl ?_
    refine LW.gY (want_of rfl rfl hc9) ?_
    refine LW.p rfl rfl ?_
    refine LW.u (Pur.pickF rfl hc9) rfl ?_
    refine LW.p rfl rfl ?_
    rcases bcases (x0.res != x1.res) with hc10 | hc10
    · replace h := bcT h hc10
      refine LW.gN (want_not rfl rfl hc10) rfl ?_
      refine LW.gN (want_not rfl rfl hc10) rfl ?_
      refine LW.gN (want_not rfl rfl hc10) rfl ?_
      refine LW.gN (want_not rfl rfl hc10) rfl ?_
      refine LW.gN (want_not rfl rfl hc10) rfl ?_
      refine LW.u (Pur.pickT rfl hc10) rfl ?_
      refine LW.p rfl rfl ?_
      refine LW.gN (want_not rfl rfl rfl) rfl ?_
      refine LW.gN (want_not rfl rfl rfl) rfl ?_
      refine LW.gN (want_not rfl rfl rfl) rfl ?_
      refine LW.gN (want_not rfl rfl rfl) rfl ?_
      refine LW.gN (want_not rfl rfl rfl) rfl ?_
      refine LW.u (Pur.pickT rfl rfl) rfl ?_
      refine LW.p rfl rfl ?_
      refine LW.gN (want_not rfl rfl rfl) rfl ?_
      refine LW.gN (want_not rfl rfl rfl) rfl ?_
      refine LW.fresh (l := [(2, .pointer (some ⟨g1, 0, none⟩)), (3, .pointer (some ⟨g3, 0, none⟩)), (48, .bool true), (50, undef)]) ⟨rfl, rfl, rfl, rfl, trivial⟩ (fun e => ?_)
      refine LW.gN (want_not rfl rfl rfl) rfl ?_
      refine LW.gN (want_not rfl rfl rfl) rfl ?_
      refine LW.gN (want_not rfl rfl rfl) rfl ?_
      refine LW.u (Pur.pickT rfl rfl) rfl ?_
      refine LW.p rfl rfl ?_
      refine LW.gN (want_not rfl rfl rfl) rfl ?_
      refine LW.gN (want_not rfl rfl rfl) rfl ?_
      refine LW.gN (want_not rfl rfl rfl) rfl ?_
      refine LW.gN (want_not rfl rfl rfl) rfl ?_
      refine LW.gN (want_not rfl rfl rfl) rfl ?_
      refine LW.u (Pur.pickT rfl rfl) rfl ?_
      refine LW.p rfl rfl ?_
      refine LW.gN (want_not rfl rfl rfl) rfl ?_
      refine LW.gN (want_not rfl rfl rfl) rfl ?_
      refine LW.gN (want_not rfl rfl rfl) rfl ?_
      refine LW.gN (want_not rfl rfl rfl) rfl ?_
      refine LW.gN (want_not rfl rfl rfl) rfl ?_
      refine LW.u (Pur.pickT rfl rfl) rfl ?_
      refine LW.p rfl rfl ?_
      refine LW.gN (want_not rfl rfl rfl) rfl ?_
      refine LW.gN (want_not rfl rfl rfl) rfl ?_
      refine LW.gN (want_not rfl rfl rfl) rfl ?_
      refine LW.gN (want_not rfl rfl rfl) rfl ?_
      refine LW.gN (want_not rfl rfl rfl) rfl ?_
      refine LW.u (Pur.pickT rfl rfl) rfl ?_
      refine LW.fresh (l := [(2, .pointer (some ⟨g1, 0, none⟩)), (3, .pointer (some ⟨g3, 0, none⟩)), (75, .bool true)]) ⟨rfl, rfl, rfl, trivial⟩ (fun e => ?_)
      refine LW.p rfl rfl ?_
      refine LW.gN (want_not rfl rfl rfl) rfl ?_
      refine LW.gN (want_not rfl rfl rfl) rfl ?_
      refine LW.gN (want_not rfl rfl rfl) rfl ?_
      refine LW.gN (want_not rfl rfl rfl) rfl ?_
      refine LW.gN (want_not rfl rfl rfl) rfl ?_
      refine LW.gN (want_not rfl rfl rfl) rfl ?_
      refine LW.gN (want_not rfl rfl rfl) rfl ?_
      refine LW.u (Pur.pickT rfl rfl) rfl ?_
      refine LW.p rfl rfl ?_
      refine LW.gN (want_not rfl rfl rfl) rfl ?_
      refine LW.gN (want_not rfl rfl rfl) rfl ?_
      refine LW.gN (want_not rfl rfl rfl) rfl ?_
      refine LW.gN (want_not rfl rfl rfl) rfl ?_
      refine LW.gN (want_not rfl rfl rfl) rfl ?_
      refine LW.gN (want_not rfl rfl rfl) rfl ?_
      refine LW.gN (want_not rfl rfl rfl) rfl ?_
      refine LW.u (Pur.pickT rfl rfl) rfl ?_
      refine LW.p rfl rfl ?_
      refine LW.gN (want_not rfl rfl rfl) rfl ?_
      refine LW.gN (want_not rfl rfl rfl) rfl ?_
      refine LW.gN (want_not rfl rfl rfl) rfl ?_
      refine LW.gN (want_not rfl rfl rfl) rfl ?_
      refine LW.gN (want_not rfl rfl rfl) rfl ?_
      refine LW.gN (want_not rfl rfl rfl) rfl ?_
      refine LW.fresh (l := [(2, .pointer (some ⟨g1, 0, none⟩)), (3, .pointer (some ⟨g3, 0, none⟩)), (94, .bool true), (97, undef), (100, undef)]) ⟨rfl, rfl, rfl, rfl, rfl, trivial⟩ (fun e => ?_)
      refine LW.gN (want_not rfl rfl rfl) rfl ?_
      refine LW.u (Pur.pickT rfl rfl) rfl ?_
      refine LW.nil ?_
      replace h := Option.some.inj h
      subst h
      exact ⟨⟨rfl, rfl, rfl, trivial⟩, hS3.pick [0, 1] rfl rfl⟩
    replace h := bcF h hc10
    refine LW.gY (want_of rfl rfl hc10) ?_
    refine LW.u (Pur.fa fo123_4 rfl) rfl ?_
    refine LW.gY (want_of rfl rfl hc10) ?_
    refine LW.ldb hS3 1 rfl ag3 rfl rfl rfl ?_
    refine LW.gY (want_of rfl rfl hc10) ?_
    refine LW.u (Pur.fa fo123_4 rfl) rfl ?_
    refine LW.gY (want_of rfl rfl hc10) ?_
    refine LW.ldb hS3 0 rfl ag3 rfl rfl rfl ?_
    refine LW.gY (want_of rfl rfl hc10) ?_
    refine LW.p rfl rfl ?_
    refine LW.u (Pur.pickF rfl hc10) rfl ?_
    refine LW.p rfl rfl ?_
    rcases bcases (x0.til != x1.til) with hc11 | hc11
    · replace h := bcT h hc11
      refine LW.gN (want_not rfl rfl hc11) rfl ?_
      refine LW.gN (want_not rfl rfl hc11) rfl ?_
      refine LW.gN (want_not rfl rfl hc11) rfl ?_
      refine LW.gN (want_not rfl rfl hc11) rfl ?_
      refine LW.gN (want_not rfl rfl hc11) rfl ?_
      refine LW.u (Pur.pickT rfl hc11) rfl ?_
      refine LW.p rfl rfl ?_
      refine LW.gN (want_not rfl rfl rfl) rfl ?_
      refine LW.fresh (l := [(2, .pointer (some ⟨g1, 0, none⟩)), (3, .pointer (some ⟨g3, 0, none⟩)), (48, .bool true), (49, undef)]) ⟨rfl, rfl, rfl, rfl, trivial⟩ (fun e => ?_)
      refine LW.gN (want_not rfl rfl rfl) rfl ?_
      refine LW.gN (want_not rfl rfl rfl) rfl ?_
      refine LW.gN (want_not rfl rfl rfl) rfl ?_
      refine LW.gN (want_not rfl rfl rfl) rfl ?_
      refine LW.u (Pur.pickT rfl rfl) rfl ?_
      refine LW.p rfl rfl ?_
      refine LW.gN (want_not rfl rfl rfl) rfl ?_
      refine LW.gN (want_not rfl rfl rfl) rfl ?_
      refine LW.gN (want_not rfl rfl rfl) rfl ?_
      refine LW.gN (want_not rfl rfl rfl) rfl ?_
      refine LW.gN (want_not rfl rfl rfl) rfl ?_
      refine LW.u (Pur.pickT rfl rfl) rfl ?_
      refine LW.p rfl rfl ?_
      refine LW.gN (want_not rfl rfl rfl) rfl ?_
      refine LW.gN (want_not rfl rfl rfl) rfl ?_
      refine LW.gN (want_not rfl rfl rfl) rfl ?_
      refine LW.gN (want_not rfl rfl rfl) rfl ?_
      refine LW.gN (want_not rfl rfl rfl) rfl ?_
      refine LW.u (Pur.pickT rfl rfl) rfl ?_
      refine LW.p rfl rfl ?_
      refine LW.gN (want_not rfl rfl rfl) rfl ?_
      refine LW.gN (want_not rfl rfl rfl) rfl ?_
      refine LW.gN (want_not rfl rfl rfl) rfl ?_
      refine LW.gN (want_not rfl rfl rfl) rfl ?_
      refine LW.gN (want_not rfl rfl rfl) rfl ?_
      refine LW.fresh (l := [(2, .pointer (some ⟨g1, 0, none⟩)), (3, .pointer (some ⟨g3, 0, none⟩)), (69, .bool true), (74, undef)]) ⟨rfl, rfl, rfl, rfl, trivial⟩ (fun e => ?_)
      refine LW.u (Pur.pickT rfl rfl) rfl ?_
      refine LW.p rfl rfl ?_
      refine LW.gN (want_not rfl rfl rfl) rfl ?_
      refine LW.gN (want_not rfl rfl rfl) rfl ?_
      refine LW.gN (want_not rfl rfl rfl) rfl ?_
      refine LW.gN (want_not rfl rfl rfl) rfl ?_
      refine LW.gN (want_not rfl rfl rfl) rfl ?_
      refine LW.gN (want_not rfl rfl rfl) rfl ?_
      refine LW.gN (want_not rfl rfl rfl) rfl ?_
      refine LW.u (Pur.pickT rfl rfl) rfl ?_
      refine LW.p rfl rfl ?_
      refine LW.gN (want_not rfl rfl rfl) rfl ?_
      refine LW.gN (want_not rfl rfl rfl) rfl ?_
      refine LW.gN (want_not rfl rfl rfl) rfl ?_
      refine LW.gN (want_not rfl rfl rfl) rfl ?_
      refine LW.gN (want_not rfl rfl rfl) rfl ?_
      refine LW.gN (want_not rfl rfl rfl) rfl ?_
      refine LW.gN (want_not rfl rfl rfl) rfl ?_
      refine LW.u (Pur.pickT rfl rfl) rfl ?_
      refine LW.p rfl rfl ?_
      refine LW.gN (want_not rfl rfl rfl) rfl ?_
      refine LW.gN (want_not rfl rfl rfl) rfl ?_
      refine LW.gN (want_not rfl rfl rfl) rfl ?_
      refine LW.gN (want_not rfl rfl rfl) rfl ?_
      refine LW.gN (want_not rfl rfl rfl) rfl ?_
      refine LW.fresh (l := [(2, .pointer (some ⟨g1, 0, none⟩)), (3, .pointer (some ⟨g3, 0, none⟩)), (94, .bool true), (97, undef), (99, undef)]) ⟨rfl, rfl, rfl, rfl, rfl, trivial⟩ (fun e => ?_)
      refine LW.gN (want_not rfl rfl rfl) rfl ?_
      refine LW.gN (want_not rfl rfl rfl) rfl ?_
      refine LW.u (Pur.pickT rfl rfl) rfl ?_
      refine LW.nil ?_
      replace h := Option.some.inj h
      subst h
      exact ⟨⟨rfl, rfl, rfl, trivial⟩, hS3.pick [0, 1] rfl rfl⟩
    replace h := bcF h hc11
    refine LW.gY (want_of rfl rfl hc11) ?_
    refine LW.u (Pur.fa fo123_5 rfl) rfl ?_
    refine LW.gY (want_of rfl rfl hc11) ?_
    refine LW.ldb hS3 1 rfl ag3 rfl rfl rfl ?_
    refine LW.gY (want_of rfl rfl hc11) ?_
    refine LW.u (Pur.fa fo123_5 rfl) rfl ?_
    refine LW.gY (want_of rfl rfl hc11) ?_
    refine LW.ldb hS3 0 rfl ag3 rfl rfl rfl ?_
    refine LW.gY (want_of rfl rfl hc11) ?_
    refine LW.p rfl rfl ?_
    refine LW.u (Pur.pickF rfl hc11) rfl ?_
    refine LW.p rfl rfl ?_
    rcases bcases (x0.pages != x1.pages) with hc12 | hc12
    · replace h := bcT h hc12
      refine LW.fresh (l := [(2, .pointer (some ⟨g1, 0, none⟩)), (3, .pointer (some ⟨g3, 0, none⟩)), (48, .bool (x0.pages != x1.pages))]) ⟨rfl, rfl, rfl, trivial⟩ (fun e => ?_)
      refine LW.gN (want_not rfl rfl hc12) rfl ?_
      refine LW.gN (want_not rfl rfl hc12) rfl ?_
      refine LW.gN (want_not rfl rfl hc12) rfl ?_
      refine LW.gN (want_not rfl rfl hc12) rfl ?_
      refine LW.gN (want_not rfl rfl hc12) rfl ?_
      refine LW.u (Pur.pickT rfl hc12) rfl ?_
      refine LW.p rfl rfl ?_
      refine LW.gN (want_not rfl rfl rfl) rfl ?_
      refine LW.gN (want_not rfl rfl rfl) rfl ?_
      refine LW.gN (want_not rfl rfl rfl) rfl ?_
      refine LW.gN (want_not rfl rfl rfl) rfl ?_
      refine LW.gN (want_not rfl rfl rfl) rfl ?_
      refine LW.u (Pur.pickT rfl rfl) rfl ?_
      refine LW.p rfl rfl ?_
      refine LW.gN (want_not rfl rfl rfl) rfl ?_
      refine LW.gN (want_not rfl rfl rfl) rfl ?_
      refine LW.gN (want_not rfl rfl rfl) rfl ?_
      refine LW.gN (want_not rfl rfl rfl) rfl ?_
      refine LW.gN (want_not rfl rfl rfl) rfl ?_
      refine LW.u (Pur.pickT rfl rfl) rfl ?_
      refine LW.p rfl rfl ?_
      refine LW.gN (want_not rfl rfl rfl) rfl ?_
      refine LW.gN (want_not rfl rfl rfl) rfl ?_
      refine LW.gN (want_not rfl rfl rfl) rfl ?_
      refine LW.gN (want_not rfl rfl rfl) rfl ?_
      refine LW.fresh (l := [(2, .pointer (some ⟨g1, 0, none⟩)), (3, .pointer (some ⟨g3, 0, none⟩)), (69, .bool true), (71, undef), (73, undef)]) ⟨rfl, rfl, rfl, rfl, rfl, trivial⟩ (fun e => ?_)
      refine LW.gN (want_not rfl rfl rfl) rfl ?_
      refine LW.u (Pur.pickT rfl rfl) rfl ?_
      refine LW.p rfl rfl ?_
      refine LW.gN (want_not rfl rfl rfl) rfl ?_
      refine LW.gN (want_not rfl rfl rfl) rfl ?_
      refine LW.gN (want_not rfl rfl rfl) rfl ?_
      refine LW.gN (want_not rfl rfl rfl) rfl ?_
      refine LW.gN (want_not rfl rfl rfl) rfl ?_
      refine LW.gN (want_not rfl rfl rfl) rfl ?_
      refine LW.gN (want_not rfl rfl rfl) rfl ?_
      refine LW.u (Pur.pickT rfl rfl) rfl ?_
      refine LW.p rfl rfl ?_
      refine LW.gN (want_not rfl rfl rfl) rfl ?_
      refine LW.gN (want_not rfl rfl rfl) rfl ?_
      refine LW.gN (want_not rfl rfl rfl) rfl ?_
      refine LW.gN (want_not rfl rfl rfl) rfl ?_
      refine LW.gN (want_not rfl rfl rfl) rfl ?_
      refine LW.gN (want_not rfl rfl rfl) rfl ?_
      refine LW.gN (want_not rfl rfl rfl) rfl ?_
      refine LW.u (Pur.pickT rfl rfl) rfl ?_
      refine LW.p rfl rfl ?_
      refine LW.gN (want_not rfl rfl rfl) rfl ?_
      refine LW.gN (want_not rfl rfl rfl) rfl ?_
      refine LW.gN (want_not rfl rfl rfl) rfl ?_
      refine LW.gN (want_not rfl rfl rfl) rfl ?_
      refine LW.fresh (l := [(2, .pointer (some ⟨g1, 0, none⟩)), (3, .pointer (some ⟨g3, 0, none⟩)), (94, .bool true), (97, undef), (98, undef)]) ⟨rfl, rfl, rfl, rfl, rfl, trivial⟩ (fun e => ?_)
      refine LW.gN (want_not rfl rfl rfl) rfl ?_
      refine LW.gN (want_not rfl rfl rfl) rfl ?_
      refine LW.gN (want_not rfl rfl rfl) rfl ?_
      refine LW.u (Pur.pickT rfl rfl) rfl ?_
      refine LW.nil ?_
      replace h := Option.some.inj h
      subst h
      exact ⟨⟨rfl, rfl, rfl, trivial⟩, hS3.pick [0, 1] rfl rfl⟩
    replace h := bcF h hc12
    refine LW.fresh (l := [(2, .pointer (some ⟨g1, 0, none⟩)), (3, .pointer (some ⟨g3, 0, none⟩)), (48, .bool (x0.pages != x1.pages))]) ⟨rfl, rfl, rfl, trivial⟩ (fun e => ?_)
    refine LW.gY (want_of rfl rfl hc12) ?_
    refine LW.u (Pur.fa fo123_6 rfl) rfl ?_
    refine LW.gY (want_of rfl rfl hc12) ?_
    refine LW.ldb hS3 1 rfl ag3 rfl rfl rfl ?_
    refine LW.gY (want_of rfl rfl hc12) ?_
    refine LW.u (Pur.fa fo123_6 rfl) rfl ?_
    refine LW.gY (want_of rfl rfl hc12) ?_
    refine LW.ldb hS3 0 rfl ag3 rfl rfl rfl ?_
    refine LW.gY (want_of rfl rfl hc12) ?_
    refine LW.p rfl rfl ?_
    refine LW.u (Pur.pickF rfl hc12) rfl ?_
    refine LW.p rfl rfl ?_
    rcases bcases (x0.wait != x1.wait) with hc13 | hc13
    · replace h := bcT h hc13
      refine LW.gN (want_not rfl rfl hc13) rfl ?_
      refine LW.gN (want_not rfl rfl hc13) rfl ?_
      refine LW.gN (want_not rfl rfl hc13) rfl ?_
      refine LW.gN (want_not rfl rfl hc13) rfl ?_
      refine LW.gN (want_not rfl rfl hc13) rfl ?_
      refine LW.u (Pur.pickT rfl hc13) rfl ?_
      refine LW.p rfl rfl ?_
      refine LW.gN (want_not rfl rfl rfl) rfl ?_
      refine LW.gN (want_not rfl rfl rfl) rfl ?_
      refine LW.gN (want_not rfl rfl rfl) rfl ?_
      refine LW.gN (want_not rfl rfl rfl) rfl ?_
      refine LW.gN (want_not rfl rfl rfl) rfl ?_
      refine LW.u (Pur.pickT rfl rfl) rfl ?_
      refine LW.p rfl rfl ?_
      refine LW.gN (want_not rfl rfl rfl) rfl ?_
      refine LW.gN (want_not rfl rfl rfl) rfl ?_
      refine LW.gN (want_not rfl rfl rfl) rfl ?_
      refine LW.fresh (l := [(2, .pointer (some ⟨g1, 0, none⟩)), (3, .pointer (some ⟨g3, 0, none⟩)), (69, .bool true), (71, undef), (72, undef)]) ⟨rfl, rfl, rfl, rfl, rfl, trivial⟩ (fun e => ?_)
      refine LW.gN (want_not rfl rfl rfl) rfl ?_
      refine LW.gN (want_not rfl rfl rfl) rfl ?_
      refine LW.u (Pur.pickT rfl rfl) rfl ?_
      refine LW.p rfl rfl ?_
      refine LW.gN (want_not rfl rfl rfl) rfl ?_
      refine LW.gN (want_not rfl rfl rfl) rfl ?_
      refine LW.gN (want_not rfl rfl rfl) rfl ?_
      refine LW.gN (want_not rfl rfl rfl) rfl ?_
      refine LW.gN (want_not rfl rfl rfl) rfl ?_
      refine LW.gN (want_not rfl rfl rfl) rfl ?_
      refine LW.gN (want_not rfl rfl rfl) rfl ?_
      refine LW.u (Pur.pickT rfl rfl) rfl ?_
      refine LW.p rfl rfl ?_
      refine LW.gN (want_not rfl rfl rfl) rfl ?_
      refine LW.gN (want_not rfl rfl rfl) rfl ?_
      refine LW.gN (want_not rfl rfl rfl) rfl ?_
      refine LW.gN (want_not rfl rfl rfl) rfl ?_
      refine LW.gN (want_not rfl rfl rfl) rfl ?_
      refine LW.gN (want_not rfl rfl rfl) rfl ?_
      refine LW.gN (want_not rfl rfl rfl) rfl ?_
      refine LW.u (Pur.pickT rfl rfl) rfl ?_
      refine LW.p rfl rfl ?_
      refine LW.gN (want_not rfl rfl rfl) rfl ?_
      refine LW.gN (want_not rfl rfl rfl) rfl ?_
      refine LW.gN (want_not rfl rfl rfl) rfl ?_
      refine LW.fresh (l := [(2, .pointer (some ⟨g1, 0, none⟩)), (3, .pointer (some ⟨g3, 0, none⟩)), (94, .bool true), (97, undef)]) ⟨rfl, rfl, rfl, rfl, trivial⟩ (fun e => ?_)
      refine LW.gN (want_not rfl rfl rfl) rfl ?_
      refine LW.gN (want_not rfl rfl rfl) rfl ?_
      refine LW.gN (want_not rfl rfl rfl) rfl ?_
      refine LW.gN (want_not rfl rfl rfl) rfl ?_
      refine LW.u (Pur.pickT rfl rfl) rfl ?_
      refine LW.nil ?_
      replace h := Option.some.inj h
      subst h
      exact ⟨⟨rfl, rfl, rfl, trivial⟩, hS3.pick [0, 1] rfl rfl⟩
    replace h := bcF h hc13
    refine LW.gY (want_of rfl rfl hc13) ?_
    refine LW.u (Pur.fa fo123_7 rfl) rfl ?_
    refine LW.gY (want_of rfl rfl hc13) ?_
    refine LW.ldb hS3 1 rfl ag3 rfl rfl rfl ?_
    refine LW.gY (want_of rfl rfl hc13) ?_
    refine LW.u (Pur.fa fo123_7 rfl) rfl ?_
    refine LW.gY (want_of rfl rfl hc13) ?_
    refine LW.ldb hS3 0 rfl ag3 rfl rfl rfl ?_
    refine LW.gY (want_of rfl rfl hc13) ?_
    refine LW.p rfl rfl ?_
    refine LW.u (Pur.pickF rfl hc13) rfl ?_
    refine LW.p rfl rfl ?_
    rcases bcases (x0.got != x1.got) with hc14 | hc14
    · replace h := bcT h hc14
      refine LW.gN (want_not rfl rfl hc14) rfl ?_
      refine LW.gN (want_not rfl rfl hc14) rfl ?_
      refine LW.gN (want_not rfl rfl hc14) rfl ?_
      refine LW.gN (want_not rfl rfl hc14) rfl ?_
      refine LW.gN (want_not rfl rfl hc14) rfl ?_
      refine LW.u (Pur.pickT rfl hc14) rfl ?_
      refine LW.p rfl rfl ?_
      refine LW.gN (want_not rfl rfl rfl) rfl ?_
      refine LW.gN (want_not rfl rfl rfl) rfl ?_
      refine LW.fresh (l := [(2, .pointer (some ⟨g1, 0, none⟩)), (3, .pointer (some ⟨g3, 0, none⟩)), (69, .bool true), (71, undef)]) ⟨rfl, rfl, rfl, rfl, trivial⟩ (fun e => ?_)
      refine LW.gN (want_not rfl rfl rfl) rfl ?_
      refine LW.gN (want_not rfl rfl rfl) rfl ?_
      refine LW.gN (want_not rfl rfl rfl) rfl ?_
      refine LW.u (Pur.pickT rfl rfl) rfl ?_
      refine LW.p rfl rfl ?_
      refine LW.gN (want_not rfl rfl rfl) rfl ?_
      refine LW.gN (want_not rfl rfl rfl) rfl ?_
      refine LW.gN (want_not rfl rfl rfl) rfl ?_
      refine LW.gN (want_not rfl rfl rfl) rfl ?_
      refine LW.gN (want_not rfl rfl rfl) rfl ?_
      refine LW.gN (want_not rfl rfl rfl) rfl ?_
      refine LW.gN (want_not rfl rfl rfl) rfl ?_
      refine LW.u (Pur.pickT rfl rfl) rfl ?_
      refine LW.p rfl rfl ?_
      refine LW.gN (want_not rfl rfl rfl) rfl ?_
      refine LW.gN (want_not rfl rfl rfl) rfl ?_
      refine LW.gN (want_not rfl rfl rfl) rfl ?_
      refine LW.gN (want_not rfl rfl rfl) rfl ?_
      refine LW.gN (want_not rfl rfl rfl) rfl ?_
      refine LW.gN (want_not rfl rfl rfl) rfl ?_
      refine LW.gN (want_not rfl rfl rfl) rfl ?_
      refine LW.u (Pur.pickT rfl rfl) rfl ?_
      refine LW.p rfl rfl ?_
      refine LW.gN (want_not rfl rfl rfl) rfl ?_
      refine LW.gN (want_not rfl rfl rfl) rfl ?_
      refine LW.fresh (l := [(2, .pointer (some ⟨g1, 0, none⟩)), (3, .pointer (some ⟨g3, 0, none⟩)), (94, .bool true), (96, undef)]) ⟨rfl, rfl, rfl, rfl, trivial⟩ (fun e => ?_)
      refine LW.gN (want_not rfl rfl rfl) rfl ?_
      refine LW.gN (want_not rfl rfl rfl) rfl ?_
      refine LW.gN (want_not rfl rfl rfl) rfl ?_
      refine LW.gN (want_not rfl rfl rfl) rfl ?_
      refine LW.gN (want_not rfl rfl rfl) rfl ?_
      refine LW.u (Pur.pickT rfl rfl) rfl ?_
      refine LW.nil ?_
      replace h := Option.some.inj h
      subst h
      exact ⟨⟨rfl, rfl, rfl, trivial⟩, hS3.pick [0, 1] rfl rfl⟩
    replace h := bcF h hc14
    refine LW.gY (want_of rfl rfl hc14) ?_
    refine LW.u (Pur.fa fo123_8 rfl) rfl ?_
    refine LW.gY (want_of rfl rfl hc14) ?_
    refine LW.ldb hS3 1 rfl ag3 rfl rfl rfl ?_
    refine LW.gY (want_of rfl rfl hc14) ?_
    refine LW.u (Pur.fa fo123_8 rfl) rfl ?_
    refine LW.gY (want_of rfl rfl hc14) ?_
    refine LW.ldb hS3 0 rfl ag3 rfl rfl rfl ?_
    refine LW.gY (want_of rfl rfl hc14) ?_
    refine LW.p rfl rfl ?_
    refine LW.u (Pur.pickF rfl hc14) rfl ?_
    refine LW.p rfl rfl ?_
    rcases bcases (x0.ran != x1.ran) with hc15 | hc15
    · replace h := bcT h hc15
      refine LW.gN (want_not rfl rfl hc15) rfl ?_
      refine LW.fresh (l := [(2, .pointer (some ⟨g1, 0, none⟩)), (3, .pointer (some ⟨g3, 0, none⟩)), (69, .bool (x0.ran != x1.ran)), (70, undef)]) ⟨rfl, rfl, rfl, rfl, trivial⟩ (fun e => ?_)
      refine LW.gN (want_not rfl rfl hc15) rfl ?_
      refine LW.gN (want_not rfl rfl hc15) rfl ?_
      refine LW.gN (want_not rfl rfl hc15) rfl ?_
      refine LW.gN (want_not rfl rfl hc15) rfl ?_
      refine LW.u (Pur.pickT rfl hc15) rfl ?_
      refine LW.p rfl rfl ?_
      refine LW.gN (want_not rfl rfl rfl) rfl ?_
      refine LW.gN (want_not rfl rfl rfl) rfl ?_
      refine LW.gN (want_not rfl rfl rfl) rfl ?_
      refine LW.gN (want_not rfl rfl rfl) rfl ?_
      refine LW.gN (want_not rfl rfl rfl) rfl ?_
      refine LW.gN (want_not rfl rfl rfl) rfl ?_
      refine LW.gN (want_not rfl rfl rfl) rfl ?_
      refine LW.u (Pur.pickT rfl rfl) rfl ?_
      refine LW.p rfl rfl ?_
      refine LW.gN (want_not rfl rfl rfl) rfl ?_
      refine LW.gN (want_not rfl rfl rfl) rfl ?_
      refine LW.gN (want_not rfl rfl rfl) rfl ?_
      refine LW.gN (want_not rfl rfl rfl) rfl ?_
      refine LW.gN (want_not rfl rfl rfl) rfl ?_
      refine LW.gN (want_not rfl rfl rfl) rfl ?_
      refine LW.gN (want_not rfl rfl rfl) rfl ?_
      refine LW.u (Pur.pickT rfl rfl) rfl ?_
      refine LW.p rfl rfl ?_
      refine LW.gN (want_not rfl rfl rfl) rfl ?_
      refine LW.fresh (l := [(2, .pointer (some ⟨g1, 0, none⟩)), (3, .pointer (some ⟨g3, 0, none⟩)), (94, .bool true), (95, undef)]) ⟨rfl, rfl, rfl, rfl, trivial⟩ (fun e => ?_)
      refine LW.gN (want_not rfl rfl rfl) rfl ?_
      refine LW.gN (want_not rfl rfl rfl) rfl ?_
      refine LW.gN (want_not rfl rfl rfl) rfl ?_
      refine LW.gN (want_not rfl rfl rfl) rfl ?_
      refine LW.gN (want_not rfl rfl rfl) rfl ?_
      refine LW.gN (want_not rfl rfl rfl) rfl ?_
      refine LW.u (Pur.pickT rfl rfl) rfl ?_
      refine LW.nil ?_
      replace h := Option.some.inj h
      subst h
      exact ⟨⟨rfl, rfl, rfl, trivial⟩, hS3.pick [0, 1] rfl rfl⟩
    replace h := bcF h hc15
    refine LW.gY (want_of rfl rfl hc15) ?_
    refine LW.u (Pur.fa fo123_9 rfl) rfl ?_
    refine LW.fresh (l := [(2, .pointer (some ⟨g1, 0, none⟩)), (3, .pointer (some ⟨g3, 0, none⟩)), (69, .bool (x0.ran != x1.ran)), (70, .pointer (some ⟨g1, 0 + 9, none⟩))]) ⟨rfl, rfl, rfl, rfl, trivial⟩ (fun e => ?_)
    refine LW.gY (want_of rfl rfl hc15) ?_
    refine LW.ldb hS3 1 rfl ag4 rfl rfl rfl ?_
    refine LW.gY (want_of rfl rfl hc15) ?_
    refine LW.u (Pur.fa fo123_9 rfl) rfl ?_
    refine LW.gY (want_of rfl rfl hc15) ?_
    refine LW.ldb hS3 0 rfl ag4 rfl rfl rfl ?_
    refine LW.gY (want_of rfl rfl hc15) ?_
    refine LW.u (Pur.bne Try.underlying4 rfl rfl) rfl ?_
    refine LW.u (Pur.pickF rfl hc15) rfl ?_
    refine LW.p rfl rfl ?_
    rcases bcases (!(x0.mark == x1.mark)) with hc16 | hc16
    · replace h := bcT h hc16
      refine LW.gN (want_not rfl rfl hc16) rfl ?_
      refine LW.gN (want_not rfl rfl hc16) rfl ?_
      refine LW.gN (want_not rfl rfl hc16) rfl ?_
      refine LW.gN (want_not rfl rfl hc16) rfl ?_
      refine LW.gN (want_not rfl rfl hc16) rfl ?_
      refine LW.gN (want_not rfl rfl hc16) rfl ?_
      refine LW.gN (want_not rfl rfl hc16) rfl ?_
      refine LW.u (Pur.pickT rfl hc16) rfl ?_
      refine LW.p rfl rfl ?_
      refine LW.gN (want_not rfl rfl rfl) rfl ?_
      refine LW.gN (want_not rfl rfl rfl) rfl ?_
      refine LW.gN (want_not rfl rfl rfl) rfl ?_
      refine LW.gN (want_not rfl rfl rfl) rfl ?_
      refine LW.gN (want_not rfl rfl rfl) rfl ?_
      refine LW.gN (want_not rfl rfl rfl) rfl ?_
      refine LW.gN (want_not rfl rfl rfl) rfl ?_
      refine LW.u (Pur.pickT rfl rfl) rfl ?_
      refine LW.p rfl rfl ?_
      refine LW.fresh (l := [(2, .pointer (some ⟨g1, 0, none⟩)), (3, .pointer (some ⟨g3, 0, none⟩)), (94, .bool true)]) ⟨rfl, rfl, rfl, trivial⟩ (fun e => ?_)
      refine LW.gN (want_not rfl rfl rfl) rfl ?_
      refine LW.gN (want_not rfl rfl rfl) rfl ?_
      refine LW.gN (want_not rfl rfl rfl) rfl ?_
      refine LW.gN (want_not rfl rfl rfl) rfl ?_
      refine LW.gN (want_not rfl rfl rfl) rfl ?_
      refine LW.gN (want_not rfl rfl rfl) rfl ?_
      refine LW.gN (want_not rfl rfl rfl) rfl ?_
      refine LW.u (Pur.pickT rfl rfl) rfl ?_
      refine LW.nil ?_
      replace h := Option.some.inj h
      subst h
      exact ⟨⟨rfl, rfl, rfl, trivial⟩, hS3.pick [0, 1] rfl rfl⟩
    replace h := bcF h hc16
    refine LW.gY (want_of rfl rfl hc16) ?_
    refine LW.u (Pur.fa fo123_10 rfl) rfl ?_
    refine LW.gY (want_of rfl rfl hc16) ?_
    refine LW.ldb hS3 1 rfl ag24 rfl rfl rfl ?_
    refine LW.gY (want_of rfl rfl hc16) ?_
    refine LW.u (Pur.len Try.underlying24 rfl) rfl ?_
    refine LW.gY (want_of rfl rfl hc16) ?_
    refine LW.u (Pur.fa fo123_10 rfl) rfl ?_
    refine LW.gY (want_of rfl rfl hc16) ?_
    refine LW.ldb hS3 0 rfl ag24 rfl rfl rfl ?_
    refine LW.gY (want_of rfl rfl hc16) ?_
    refine LW.u (Pur.len Try.underlying24 rfl) rfl ?_
    refine LW.gY (want_of rfl rfl hc16) ?_
    refine LW.p rfl rfl ?_
    refine LW.u (Pur.pickF rfl hc16) rfl ?_
    refine LW.p rfl rfl ?_
    rcases bcases ((x0.links.length : Int) != (x1.links.length : Int)) with hc17 | hc17
    · replace h := bcT h hc17
      refine LW.gN (want_not rfl rfl hc17) rfl ?_
      refine LW.gN (want_not rfl rfl hc17) rfl ?_
      refine LW.gN (want_not rfl rfl hc17) rfl ?_
      refine LW.gN (want_not rfl rfl hc17) rfl ?_
      refine LW.gN (want_not rfl rfl hc17) rfl ?_
      refine LW.gN (want_not rfl rfl hc17) rfl ?_
      refine LW.gN (want_not rfl rfl hc17) rfl ?_
      refine LW.u (Pur.pickT rfl hc17) rfl ?_
      refine LW.fresh (l := [(2, .pointer (some ⟨g1, 0, none⟩)), (3, .pointer (some ⟨g3, 0, none⟩)), (93, .bool true)]) ⟨rfl, rfl, rfl, trivial⟩ (fun e => ?_)
      refine LW.p rfl rfl ?_
      refine LW.gN (want_not rfl rfl rfl) rfl ?_
      refine LW.gN (want_not rfl rfl rfl) rfl ?_
      refine LW.gN (want_not rfl rfl rfl) rfl ?_
      refine LW.gN (want_not rfl rfl rfl) rfl ?_
      refine LW.gN (want_not rfl rfl rfl) rfl ?_
      refine LW.gN (want_not rfl rfl rfl) rfl ?_
      refine LW.gN (want_not rfl rfl rfl) rfl ?_
      refine LW.u (Pur.pickT rfl rfl) rfl ?_
      refine LW.nil ?_
      replace h := Option.some.inj h
      subst h
      exact ⟨⟨rfl, rfl, rfl, trivial⟩, hS3.pick [0, 1] rfl rfl⟩
    replace h := bcF h hc17
    refine LW.gY (want_of rfl rfl hc17) ?_
    refine LW.u (Pur.fa fo123_11 rfl) rfl ?_
    refine LW.gY (want_of rfl rfl hc17) ?_
    refine LW.ldb hS3 1 rfl ag24 rfl rfl rfl ?_
    refine LW.gY (want_of rfl rfl hc17) ?_
    refine LW.u (Pur.len Try.underlying24 rfl) rfl ?_
    refine LW.gY (want_of rfl rfl hc17) ?_
    refine LW.u (Pur.fa fo123_11 rfl) rfl ?_
    refine LW.gY (want_of rfl rfl hc17) ?_
    refine LW.ldb hS3 0 rfl ag24 rfl rfl rfl ?_
    refine LW.gY (want_of rfl rfl hc17) ?_
    refine LW.u (Pur.len Try.underlying24 rfl) rfl ?_
    refine LW.gY (want_of rfl rfl hc17) ?_
    refine LW.p rfl rfl ?_
    refine LW.u (Pur.pickF rfl hc17) rfl ?_
    refine LW.fresh (l := [(2, .pointer (some ⟨g1, 0, none⟩)), (3, .pointer (some ⟨g3, 0, none⟩)), (93, .bool ((x0.data.length : Int) != (x1.data.length : Int)))]) ⟨rfl, rfl, rfl, trivial⟩ (fun e => ?_)
    refine LW.p rfl rfl ?_
    rcases bcases ((x0.data.length : Int) != (x1.data.length : Int)) with hc18 | hc18
    · replace h := bcT h hc18
      refine LW.gN (want_not rfl rfl hc18) rfl ?_
      refine LW.gN (want_not rfl rfl hc18) rfl ?_
      refine LW.gN (want_not rfl rfl hc18) rfl ?_
      refine LW.gN (want_not rfl rfl hc18) rfl ?_
      refine LW.gN (want_not rfl rfl hc18) rfl ?_
      refine LW.gN (want_not rfl rfl hc18) rfl ?_
      refine LW.gN (want_not rfl rfl hc18) rfl ?_
      refine LW.u (Pur.pickT rfl hc18) rfl ?_
      refine LW.nil ?_
      replace h := Option.some.inj h
      subst h
      exact ⟨⟨rfl, rfl, rfl, trivial⟩, hS3.pick [0, 1] rfl rfl⟩
    replace h := bcF h hc18
    refine LW.gY (want_of rfl rfl hc18) ?_
    refine LW.u (Pur.fa fo123_12 rfl) rfl ?_
    refine LW.gY (want_of rfl rfl hc18) ?_
    refine LW.ldb hS3 1 rfl ag121 rfl rfl rfl ?_
    refine LW.gY (want_of rfl rfl hc18) ?_
    refine LW.u (Pur.len Try.underlying121 rfl) rfl ?_
    refine LW.gY (want_of rfl rfl hc18) ?_
    refine LW.u (Pur.fa fo123_12 rfl) rfl ?_
    refine LW.gY (want_of rfl rfl hc18) ?_
    refine LW.ldb hS3 0 rfl ag121 rfl rfl rfl ?_
    refine LW.gY (want_of rfl rfl hc18) ?_
    refine LW.u (Pur.len Try.underlying121 rfl) rfl ?_
    refine LW.gY (want_of rfl rfl hc18) ?_
    refine LW.p rfl rfl ?_
    refine LW.u (Pur.pickF rfl hc18) rfl ?_
    refine LW.nil ?_
    replace h := Option.some.inj h
    subst h
    exact ⟨⟨rfl, rfl, rfl, trivial⟩, hS3.pick [0, 1] rfl rfl⟩
  intro e w19 hM
  obtain ⟨hE, hS4⟩ := hM
  obtain ⟨e, rfl⟩ := hE.out
  have h := h6
  show CW _ _ _ _ _ _
  refine CW.cond rfl (fun hc20 => ?_) (fun hc20 => ?_)
  · replace h := bcT h hc20
    refine CW.seq ?_
    refine CW.region ?_
    refine LW.p rfl rfl ?_
    refine LW.nil ?_
    show CW _ _ _ _ _ _
    refine CW.ret ?_
    cases h
    exact And.intro trivial ⟨_, Res.one (resOne.t rfl), rfl, hS4.pick [] rfl rfl⟩
  replace h := bcF h hc20
  refine CW.skip ?_
  show CW _ _ _ _ _ _
  refine CW.seq ?_
  refine CW.seq ?_
  refine CW.region ?_
  refine LW.p rfl rfl ?_
  refine LW.nil ?_
  show CW _ _ _ _ _ _
  refine CW.block ?_
  obtain ⟨o43, ho43, h44⟩ := obind h
  refine CW.mono (CW.iter (σ := Int) (ρ := Int ⊕ Bool) (fun s21 e wb => En e [(2, .pointer (some ⟨g1, 0, none⟩)), (3, .pointer (some ⟨g3, 0, none⟩)), (5, .int .i64 s21)] ∧ St w0 [] wb [bx g3 123 [.int .i64 x1.gen, .int .i64 x1.kind, .int .i64 x1.box, .int .i64 x1.res, .int .i64 x1.til, .int .i64 x1.pages, .int .i64 x1.wait, .int .i64 x1.got, .int .i64 x1.ran, .bool x1.mark, .slice a1_10 x1.links.length c1_10, .slice a1_11 x1.data.length c1_11, .slice a1_12 x1.queue.length c1_12], bx g1 123 [.int .i64 x0.gen, .int .i64 x0.kind, .int .i64 x0.box, .int .i64 x0.res, .int .i64 x0.til, .int .i64 x0.pages, .int .i64 x0.wait, .int .i64 x0.got, .int .i64 x0.ran, .bool x0.mark, .slice a0_10 x0.links.length c0_10, .slice a0_11 x0.data.length c0_11, .slice a0_12 x0.queue.length c0_12]]) (fun o x e wb => match o with | .inl s21 => x = .exit 0 ∧ En e [(2, .pointer (some ⟨g1, 0, none⟩)), (3, .pointer (some ⟨g3, 0, none⟩))] ∧ St w0 [] wb [bx g3 123 [.int .i64 x1.gen, .int .i64 x1.kind, .int .i64 x1.box, .int .i64 x1.res, .int .i64 x1.til, .int .i64 x1.pages, .int .i64 x1.wait, .int .i64 x1.got, .int .i64 x1.ran, .bool x1.mark, .slice a1_10 x1.links.length c1_10, .slice a1_11 x1.data.length c1_11, .slice a1_12 x1.queue.length c1_12], bx g1 123 [.int .i64 x0.gen, .int .i64 x0.kind, .int .i64 x0.box, .int .i64 x0.res, .int .i64 x0.til, .int .i64 x0.pages, .int .i64 x0.wait, .int .i64 x0.got, .int .i64 x0.ran, .bool x0.mark, .slice a0_10 x0.links.length c0_10, .slice a0_11 x0.data.length c0_11, .slice a0_12 x0.queue.length c0_12]] | .inr r => x = .ret ∧ ∃ u, u = r ∧ ∃ v, Res Try.prog Try.f172.results e wb v ∧ v = .bool u ∧ St w0 [] wb []) ?_ N 0 _ _ _ ⟨⟨rfl, rfl, rfl, trivial⟩, hS4.pick [0, 1] rfl rfl⟩ ho43) ?_
  · intro s21 e w22 o hM h
    obtain ⟨hE, hS5⟩ := hM
    obtain ⟨e, rfl⟩ := hE.out
    refine CW.seq ?_
    refine CW.seq ?_
    refine CW.region ?_
    refine LW.p rfl rfl ?_
    refine LW.u (Pur.fa fo123_10 rfl) rfl ?_
    refine LW.ldb hS5 1 rfl ag24 rfl rfl rfl ?_
    refine LW.u (Pur.len Try.underlying24 rfl) rfl ?_
    refine LW.p rfl rfl ?_
    refine LW.nil ?_
    show CW _ _ _ _ _ _
    refine CW.cond rfl (fun hc23 => ?_) (fun hc23 => ?_)
    · replace h := bcT h hc23
      refine CW.skip ?_
      show CW _ _ _ _ _ _
      refine CW.seq ?_
      refine CW.block ?_
      refine CW.seq ?_
      refine CW.draw (by kernel_rfl) ?_
      have hS6 := hS5.drew
      refine AW.u (i := 0) rfl (by kernel_rfl) rfl rfl (Pur.fa fo123_10 rfl) ?_
      refine AW.take (i := 1) rfl (by kernel_rfl) rfl rfl (Ldr.box (bt := 123) (fr := (0, 0)) (cs := [.int .i64 x0.gen, .int .i64 x0.kind, .int .i64 x0.box, .int .i64 x0.res, .int .i64 x0.til, .int .i64 x0.pages, .int .i64 x0.wait, .int .i64 x0.got, .int .i64 x0.ran, .bool x0.mark, .slice a0_10 x0.links.length c0_10, .slice a0_11 x0.data.length c0_11, .slice a0_12 x0.queue.length c0_12]) ag24 rfl rfl) (St.cell (h := hS6) (i := 1) rfl) ?_
      refine AW.u (i := 2) rfl (by kernel_rfl) rfl rfl (Pur.p rfl) ?_
      replace h := obind h
      obtain ⟨y24, hy24, h⟩ := h
      obtain ⟨b27, o28, cs29, hae, hb32, hp25, hq26, hd30, hk31⟩ := hr0_10.idx hy24
      subst hae
      obtain rfl := hd30
      refine AW.u (i := 3) rfl (by kernel_rfl) rfl rfl (Pur.ix Try.underlying24 sz3 rfl rfl hp25 hq26) ?_
      refine AW.take (i := 4) rfl (by kernel_rfl) rfl rfl (Ldr.old w0 ag3 rfl (hk31 0 _ rfl)) (hS6.same _ hb32.1 hb32.2) ?_
      refine AW.u (i := 5) rfl (by kernel_rfl) rfl rfl (Pur.fa fo123_10 rfl) ?_
      refine AW.take (i := 6) rfl (by kernel_rfl) rfl rfl (Ldr.box (bt := 123) (fr := (0, 0)) (cs := [.int .i64 x1.gen, .int .i64 x1.kind, .int .i64 x1.box, .int .i64 x1.res, .int .i64 x1.til, .int .i64 x1.pages, .int .i64 x1.wait, .int .i64 x1.got, .int .i64 x1.ran, .bool x1.mark, .slice a1_10 x1.links.length c1_10, .slice a1_11 x1.data.length c1_11, .slice a1_12 x1.queue.length c1_12]) ag24 rfl rfl) (St.cell (h := hS6) (i := 0) rfl) ?_
      refine AW.u (i := 7) rfl (by kernel_rfl) rfl rfl (Pur.p rfl) ?_
      replace h := obind h
      obtain ⟨y33, hy33, h⟩ := h
      obtain ⟨b36, o37, cs38, hae, hb41, hp34, hq35, hd39, hk40⟩ := hr1_10.idx hy33
      subst hae
      obtain rfl := hd39
      refine AW.u (i := 8) rfl (by kernel_rfl) rfl rfl (Pur.ix Try.underlying24 sz3 rfl rfl hp34 hq35) ?_
      refine AW.take (i := 9) rfl (by kernel_rfl) rfl rfl (Ldr.old w0 ag3 rfl (hk40 0 _ rfl)) (hS6.same _ hb41.1 hb41.2) ?_
      refine AW.u (i := 10) rfl (by kernel_rfl) rfl rfl (Pur.p rfl) ?_
      refine AW.done (by kernel_rfl) ?_
      show CW _ _ _ _ _ _
      refine CW.cond rfl (fun hc42 => ?_) (fun hc42 => ?_)
      · replace h := bcT h hc42
        refine CW.seq ?_
        refine CW.region ?_
        refine LW.p rfl rfl ?_
        refine LW.nil ?_
        show CW _ _ _ _ _ _
        refine CW.ret ?_
        replace h := Option.some.inj h
        subst h
        exact ⟨trivial, rfl, _, rfl, ⟨_, Res.one (resOne.t rfl), rfl, hS6.pick [] rfl rfl⟩⟩
      replace h := bcF h hc42
      refine CW.skip ?_
      show CW _ _ _ _ _ _
      refine CW.region ?_
      iterate 3 refine LW.p rfl rfl ?_
      refine LW.nil ?_
      replace h := Option.some.inj h
      subst h
      exact ⟨rfl, ⟨⟨rfl, rfl, rfl, trivial⟩, hS6.pick [0, 1] rfl rfl⟩⟩
    replace h := bcF h hc23
    refine CW.exit ?_
    replace h := Option.some.inj h
    subst h
    exact ⟨trivial, rfl, ⟨⟨rfl, rfl, trivial⟩, hS5.pick [0, 1] rfl rfl⟩⟩
  intro x e w45 hM
  rcases o43 with o43 | r98
  · obtain ⟨rfl, hM⟩ := hM
    obtain ⟨hE, hS7⟩ := hM
    obtain ⟨e, rfl⟩ := hE.out
    have h := h44
    show CW _ _ _ _ _ _
    refine CW.seq ?_
    refine CW.seq ?_
    refine CW.region ?_
    refine LW.p rfl rfl ?_
    refine LW.nil ?_
    show CW _ _ _ _ _ _
    refine CW.block ?_
    obtain ⟨o68, ho68, h69⟩ := obind h
    refine CW.mono (CW.iter (σ := Int) (ρ := Int ⊕ Bool) (fun s46 e wb => En e [(2, .pointer (some ⟨g1, 0, none⟩)), (3, .pointer (some ⟨g3, 0, none⟩)), (6, .int .i64 s46)] ∧ St w0 [] wb [bx g3 123 [.int .i64 x1.gen, .int .i64 x1.kind, .int .i64 x1.box, .int .i64 x1.res, .int .i64 x1.til, .int .i64 x1.pages, .int .i64 x1.wait, .int .i64 x1.got, .int .i64 x1.ran, .bool x1.mark, .slice a1_10 x1.links.length c1_10, .slice a1_11 x1.data.length c1_11, .slice a1_12 x1.queue.length c1_12], bx g1 123 [.int .i64 x0.gen, .int .i64 x0.kind, .int .i64 x0.box, .int .i64 x0.res, .int .i64 x0.til, .int .i64 x0.pages, .int .i64 x0.wait, .int .i64 x0.got, .int .i64 x0.ran, .bool x0.mark, .slice a0_10 x0.links.length c0_10, .slice a0_11 x0.data.length c0_11, .slice a0_12 x0.queue.length c0_12]]) (fun o x e wb => match o with | .inl s46 => x = .exit 2 ∧ En e [(2, .pointer (some ⟨g1, 0, none⟩)), (3, .pointer (some ⟨g3, 0, none⟩))] ∧ St w0 [] wb [bx g3 123 [.int .i64 x1.gen, .int .i64 x1.kind, .int .i64 x1.box, .int .i64 x1.res, .int .i64 x1.til, .int .i64 x1.pages, .int .i64 x1.wait, .int .i64 x1.got, .int .i64 x1.ran, .bool x1.mark, .slice a1_10 x1.links.length c1_10, .slice a1_11 x1.data.length c1_11, .slice a1_12 x1.queue.length c1_12], bx g1 123 [.int .i64 x0.gen, .int .i64 x0.kind, .int .i64 x0.box, .int .i64 x0.res, .int .i64 x0.til, .int .i64 x0.pages, .int .i64 x0.wait, .int .i64 x0.got, .int .i64 x0.ran, .bool x0.mark, .slice a0_10 x0.links.length c0_10, .slice a0_11 x0.data.length c0_11, .slice a0_12 x0.queue.length c0_12]] | .inr r => x = .ret ∧ ∃ u, u = r ∧ ∃ v, Res Try.prog Try.f172.results e wb v ∧ v = .bool u ∧ St w0 [] wb []) ?_ N 0 _ _ _ ⟨⟨rfl, rfl, rfl, trivial⟩, hS7.pick [0, 1] rfl rfl⟩ ho68) ?_
    · intro s46 e w47 o hM h
      obtain ⟨hE, hS8⟩ := hM
      obtain ⟨e, rfl⟩ := hE.out
      refine CW.seq ?_
      refine CW.seq ?_
      refine CW.region ?_
      refine LW.p rfl rfl ?_
      refine LW.u (Pur.fa fo123_11 rfl) rfl ?_
      refine LW.ldb hS8 1 rfl ag24 rfl rfl rfl ?_
      refine LW.u (Pur.len Try.underlying24 rfl) rfl ?_
      refine LW.p rfl rfl ?_
      refine LW.nil ?_
      show CW _ _ _ _ _ _
      refine CW.cond rfl (fun hc48 => ?_) (fun hc48 => ?_)
      · replace h := bcT h hc48
        refine CW.skip ?_
        show CW _ _ _ _ _ _
        refine CW.seq ?_
        refine CW.block ?_
        refine CW.seq ?_
        refine CW.draw (by kernel_rfl) ?_
        have hS9 := hS8.drew
        refine AW.u (i := 0) rfl (by kernel_rfl) rfl rfl (Pur.fa fo123_11 rfl) ?_
        refine AW.take (i := 1) rfl (by kernel_rfl) rfl rfl (Ldr.box (bt := 123) (fr := (0, 0)) (cs := [.int .i64 x0.gen, .int .i64 x0.kind, .int .i64 x0.box, .int .i64 x0.res, .int .i64 x0.til, .int .i64 x0.pages, .int .i64 x0.wait, .int .i64 x0.got, .int .i64 x0.ran, .bool x0.mark, .slice a0_10 x0.links.length c0_10, .slice a0_11 x0.data.length c0_11, .slice a0_12 x0.queue.length c0_12]) ag24 rfl rfl) (St.cell (h := hS9) (i := 1) rfl) ?_
        refine AW.u (i := 2) rfl (by kernel_rfl) rfl rfl (Pur.p rfl) ?_
        replace h := obind h
        obtain ⟨y49, hy49, h⟩ := h
        obtain ⟨b52, o53, cs54, hae, hb57, hp50, hq51, hd55, hk56⟩ := hr0_11.idx hy49
        subst hae
        obtain rfl := hd55
        refine AW.u (i := 3) rfl (by kernel_rfl) rfl rfl (Pur.ix Try.underlying24 sz3 rfl rfl hp50 hq51) ?_
        refine AW.take (i := 4) rfl (by kernel_rfl) rfl rfl (Ldr.old w0 ag3 rfl (hk56 0 _ rfl)) (hS9.same _ hb57.1 hb57.2) ?_
        refine AW.u (i := 5) rfl (by kernel_rfl) rfl rfl (Pur.fa fo123_11 rfl) ?_
        refine AW.take (i := 6) rfl (by kernel_rfl) rfl rfl (Ldr.box (bt := 123) (fr := (0, 0)) (cs := [.int .i64 x1.gen, .int .i64 x1.kind, .int .i64 x1.box, .int .i64 x1.res, .int .i64 x1.til, .int .i64 x1.pages, .int .i64 x1.wait, .int .i64 x1.got, .int .i64 x1.ran, .bool x1.mark, .slice a1_10 x1.links.length c1_10, .slice a1_11 x1.data.length c1_11, .slice a1_12 x1.queue.length c1_12]) ag24 rfl rfl) (St.cell (h := hS9) (i := 0) rfl) ?_
        refine AW.u (i := 7) rfl (by kernel_rfl) rfl rfl (Pur.p rfl) ?_
        replace h := obind h
        obtain ⟨y58, hy58, h⟩ := h
        obtain ⟨b61, o62, cs63, hae, hb66, hp59, hq60, hd64, hk65⟩ := hr1_11.idx hy58
        subst hae
        obtain rfl := hd64
        refine AW.u (i := 8) rfl (by kernel_rfl) rfl rfl (Pur.ix Try.underlying24 sz3 rfl rfl hp59 hq60) ?_
        refine AW.take (i := 9) rfl (by kernel_rfl) rfl rfl (Ldr.old w0 ag3 rfl (hk65 0 _ rfl)) (hS9.same _ hb66.1 hb66.2) ?_
        refine AW.u (i := 10) rfl (by kernel_rfl) rfl rfl (Pur.p rfl) ?_
        refine AW.done (by kernel_rfl) ?_
        show CW _ _ _ _ _ _
        refine CW.cond rfl (fun hc67 => ?_) (fun hc67 => ?_)
        · replace h := bcT h hc67
          refine CW.seq ?_
          refine CW.region ?_
          refine LW.p rfl rfl ?_
          refine LW.nil ?_
          show CW _ _ _ _ _ _
          refine CW.ret ?_
          replace h := Option.some.inj h
          subst h
          exact ⟨trivial, rfl, _, rfl, ⟨_, Res.one (resOne.t rfl), rfl, hS9.pick [] rfl rfl⟩⟩
        replace h := bcF h hc67
        refine CW.skip ?_
        show CW _ _ _ _ _ _
        refine CW.region ?_
        iterate 3 refine LW.p rfl rfl ?_
        refine LW.nil ?_
        replace h := Option.some.inj h
        subst h
        exact ⟨rfl, ⟨⟨rfl, rfl, rfl, trivial⟩, hS9.pick [0, 1] rfl rfl⟩⟩
      replace h := bcF h hc48
      refine CW.exit ?_
      replace h := Option.some.inj h
      subst h
      exact ⟨trivial, rfl, ⟨⟨rfl, rfl, trivial⟩, hS8.pick [0, 1] rfl rfl⟩⟩
    intro x e w70 hM
    rcases o68 with o68 | r97
    · obtain ⟨rfl, hM⟩ := hM
      obtain ⟨hE, hS10⟩ := hM
      obtain ⟨e, rfl⟩ := hE.out
      have h := h69
      show CW _ _ _ _ _ _
      refine CW.seq ?_
      refine CW.seq ?_
      refine CW.region ?_
      refine LW.p rfl rfl ?_
      refine LW.nil ?_
      show CW _ _ _ _ _ _
      refine CW.block ?_
      obtain ⟨o93, ho93, h94⟩ := obind h
      refine CW.mono (CW.iter (σ := Int) (ρ := Int ⊕ Bool) (fun s71 e wb => En e [(2, .pointer (some ⟨g1, 0, none⟩)), (3, .pointer (some ⟨g3, 0, none⟩)), (7, .int .i64 s71)] ∧ St w0 [] wb [bx g3 123 [.int .i64 x1.gen, .int .i64 x1.kind, .int .i64 x1.box, .int .i64 x1.res, .int .i64 x1.til, .int .i64 x1.pages, .int .i64 x1.wait, .int .i64 x1.got, .int .i64 x1.ran, .bool x1.mark, .slice a1_10 x1.links.length c1_10, .slice a1_11 x1.data.length c1_11, .slice a1_12 x1.queue.length c1_12], bx g1 123 [.int .i64 x0.gen, .int .i64 x0.kind, .int .i64 x0.box, .int .i64 x0.res, .int .i64 x0.til, .int .i64 x0.pages, .int .i64 x0.wait, .int .i64 x0.got, .int .i64 x0.ran, .bool x0.mark, .slice a0_10 x0.links.length c0_10, .slice a0_11 x0.data.length c0_11, .slice a0_12 x0.queue.length c0_12]]) (fun o x e wb => match o with | .inl s71 => x = .exit 4 ∧ En e [] ∧ St w0 [] wb [bx g3 123 [.int .i64 x1.gen, .int .i64 x1.kind, .int .i64 x1.box, .int .i64 x1.res, .int .i64 x1.til, .int .i64 x1.pages, .int .i64 x1.wait, .int .i64 x1.got, .int .i64 x1.ran, .bool x1.mark, .slice a1_10 x1.links.length c1_10, .slice a1_11 x1.data.length c1_11, .slice a1_12 x1.queue.length c1_12], bx g1 123 [.int .i64 x0.gen, .int .i64 x0.kind, .int .i64 x0.box, .int .i64 x0.res, .int .i64 x0.til, .int .i64 x0.pages, .int .i64 x0.wait, .int .i64 x0.got, .int .i64 x0.ran, .bool x0.mark, .slice a0_10 x0.links.length c0_10, .slice a0_11 x0.data.length c0_11, .slice a0_12 x0.queue.length c0_12]] | .inr r => x = .ret ∧ ∃ u, u = r ∧ ∃ v, Res Try.prog Try.f172.results e wb v ∧ v = .bool u ∧ St w0 [] wb []) ?_ N 0 _ _ _ ⟨⟨rfl, rfl, rfl, trivial⟩, hS10.pick [0, 1] rfl rfl⟩ ho93) ?_
      · intro s71 e w72 o hM h
        obtain ⟨hE, hS11⟩ := hM
        obtain ⟨e, rfl⟩ := hE.out
        refine CW.seq ?_
        refine CW.seq ?_
        refine CW.region ?_
        refine LW.p rfl rfl ?_
        refine LW.u (Pur.fa fo123_12 rfl) rfl ?_
        refine LW.ldb hS11 1 rfl ag121 rfl rfl rfl ?_
        refine LW.u (Pur.len Try.underlying121 rfl) rfl ?_
        refine LW.p rfl rfl ?_
        refine LW.nil ?_
        show CW _ _ _ _ _ _
        refine CW.cond rfl (fun hc73 => ?_) (fun hc73 => ?_)
        · replace h := bcT h hc73
          refine CW.skip ?_
          show CW _ _ _ _ _ _
          refine CW.seq ?_
          refine CW.block ?_
          refine CW.seq ?_
          refine CW.draw (by kernel_rfl) ?_
          have hS12 := hS11.drew
          refine AW.u (i := 0) rfl (by kernel_rfl) rfl rfl (Pur.fa fo123_12 rfl) ?_
          refine AW.take (i := 1) rfl (by kernel_rfl) rfl rfl (Ldr.box (bt := 123) (fr := (0, 0)) (cs := [.int .i64 x0.gen, .int .i64 x0.kind, .int .i64 x0.box, .int .i64 x0.res, .int .i64 x0.til, .int .i64 x0.pages, .int .i64 x0.wait, .int .i64 x0.got, .int .i64 x0.ran, .bool x0.mark, .slice a0_10 x0.links.length c0_10, .slice a0_11 x0.data.length c0_11, .slice a0_12 x0.queue.length c0_12]) ag121 rfl rfl) (St.cell (h := hS12) (i := 1) rfl) ?_
          refine AW.u (i := 2) rfl (by kernel_rfl) rfl rfl (Pur.p rfl) ?_
          replace h := obind h
          obtain ⟨y74, hy74, h⟩ := h
          obtain ⟨b77, o78, cs79, hae, hb82, hp75, hq76, hd80, hk81⟩ := hr0_12.idx hy74
          subst hae
          obtain rfl := hd80
          refine AW.u (i := 3) rfl (by kernel_rfl) rfl rfl (Pur.ix Try.underlying121 sz199 rfl rfl hp75 hq76) ?_
          refine AW.take (i := 4) rfl (by kernel_rfl) rfl rfl (Ldr.oldN w0 ag199 rfl rfl (fun j u hu => hk81 j u hu)) (hS12.same _ hb82.1 hb82.2) ?_
          refine AW.u (i := 5) rfl (by kernel_rfl) rfl rfl (Pur.fa fo123_12 rfl) ?_
          refine AW.take (i := 6) rfl (by kernel_rfl) rfl rfl (Ldr.box (bt := 123) (fr := (0, 0)) (cs := [.int .i64 x1.gen, .int .i64 x1.kind, .int .i64 x1.box, .int .i64 x1.res, .int .i64 x1.til, .int .i64 x1.pages, .int .i64 x1.wait, .int .i64 x1.got, .int .i64 x1.ran, .bool x1.mark, .slice a1_10 x1.links.length c1_10, .slice a1_11 x1.data.length c1_11, .slice a1_12 x1.queue.length c1_12]) ag121 rfl rfl) (St.cell (h := hS12) (i := 0) rfl) ?_
          refine AW.u (i := 7) rfl (by kernel_rfl) rfl rfl (Pur.p rfl) ?_
          replace h := obind h
          obtain ⟨y83, hy83, h⟩ := h
          obtain ⟨b86, o87, cs88, hae, hb91, hp84, hq85, hd89, hk90⟩ := hr1_12.idx hy83
          subst hae
          obtain rfl := hd89
          refine AW.u (i := 8) rfl (by kernel_rfl) rfl rfl (Pur.ix Try.underlying121 sz199 rfl rfl hp84 hq85) ?_
          refine AW.take (i := 9) rfl (by kernel_rfl) rfl rfl (Ldr.oldN w0 ag199 rfl rfl (fun j u hu => hk90 j u hu)) (hS12.same _ hb91.1 hb91.2) ?_
          refine AW.u (i := 10) rfl (by kernel_rfl) rfl rfl (Pur.ane eg199 rfl rfl (fun w => eq199 y74 y83 w)) ?_
          refine AW.done (by kernel_rfl) ?_
          show CW _ _ _ _ _ _
          refine CW.cond rfl (fun hc92 => ?_) (fun hc92 => ?_)
          · replace h := bcT h hc92
            refine CW.seq ?_
            refine CW.region ?_
            refine LW.p rfl rfl ?_
            refine LW.nil ?_
            show CW _ _ _ _ _ _
            refine CW.ret ?_
            replace h := Option.some.inj h
            subst h
            exact ⟨trivial, rfl, _, rfl, ⟨_, Res.one (resOne.t rfl), rfl, hS12.pick [] rfl rfl⟩⟩
          replace h := bcF h hc92
          refine CW.skip ?_
          show CW _ _ _ _ _ _
          refine CW.region ?_
          iterate 3 refine LW.p rfl rfl ?_
          refine LW.nil ?_
          replace h := Option.some.inj h
          subst h
          exact ⟨rfl, ⟨⟨rfl, rfl, rfl, trivial⟩, hS12.pick [0, 1] rfl rfl⟩⟩
        replace h := bcF h hc73
        refine CW.exit ?_
        replace h := Option.some.inj h
        subst h
        exact ⟨trivial, rfl, ⟨trivial, hS11.pick [0, 1] rfl rfl⟩⟩
      intro x e w95 hM
      rcases o93 with o93 | r96
      · obtain ⟨rfl, hM⟩ := hM
        obtain ⟨hE, hS13⟩ := hM
        obtain ⟨e, rfl⟩ := hE.out
        have h := h94
        show CW _ _ _ _ _ _
        refine CW.seq ?_
        refine CW.region ?_
        refine LW.p rfl rfl ?_
        refine LW.nil ?_
        show CW _ _ _ _ _ _
        refine CW.ret ?_
        cases h
        exact And.intro trivial ⟨_, Res.one (resOne.t rfl), rfl, hS13.pick [] rfl rfl⟩
      obtain ⟨rfl, u, rfl, hM⟩ := hM
      cases h94
      exact And.intro trivial hM
    obtain ⟨rfl, u, rfl, hM⟩ := hM
    cases h69
    exact And.intro trivial hM
  obtain ⟨rfl, u, rfl, hM⟩ := hM
  cases h44
  exact And.intro trivial hM

theorem W_s_SameArena {w0 : World} {N : Nat} {x0 : List DObj} {x1 : List DObj} {r : Bool} (h : F_s_SameArena N x0 x1 = some r) {a0_0 : Option Addr} {n0_0 c0_0 : Nat} (hn0_0 : n0_0 = x0.length) (hr0_0 : rdS (Bor w0 []) w0 a0_0 c0_0 x0) {a1_0 : Option Addr} {n1_0 c1_0 : Nat} (hn1_0 : n1_0 = x1.length) (hr1_0 : rdS (Bor w0 []) w0 a1_0 c1_0 x1) :
    Ret Try.prog 125 #[.slice a0_0 n0_0 c0_0, .slice a1_0 n1_0 c1_0] w0 (fun v w => v = .bool r ∧ St w0 [] w []) := by
  subst hn0_0
  subst hn1_0
  unfold F_s_SameArena at h
  refine Ret.of Try.func125 rfl rfl rfl ?_
  have hS1 := St.start w0
  refine CW.seq ?_
  refine CW.region ?_
  refine LW.p rfl rfl ?_
  refine LW.nil ?_
  show CW _ _ _ _ _ _
  refine CW.seq ?_
  refine CW.seq ?_
  refine CW.region ?_
  refine LW.p rfl rfl ?_
  refine LW.u (Pur.len Try.underlying68 rfl) rfl ?_
  refine LW.p rfl rfl ?_
  refine LW.u (Pur.len Try.underlying68 rfl) rfl ?_
  refine LW.p rfl rfl ?_
  refine LW.nil ?_
  show CW _ _ _ _ _ _
  refine CW.cond rfl (fun hc1 => ?_) (fun hc1 => ?_)
  · replace h := bcT h hc1
    refine CW.seq ?_
    refine CW.region ?_
    refine LW.p rfl rfl ?_
    refine LW.nil ?_
    show CW _ _ _ _ _ _
    refine CW.ret ?_
    cases h
    exact And.intro trivial ⟨_, Res.one (resOne.t rfl), rfl, hS1.pick [] rfl rfl⟩
  replace h := bcF h hc1
  refine CW.skip ?_
  show CW _ _ _ _ _ _
  refine CW.seq ?_
  refine CW.seq ?_
  refine CW.region ?_
  refine LW.p rfl rfl ?_
  refine LW.nil ?_
  show CW _ _ _ _ _ _
  refine CW.block ?_
  obtain ⟨o44, ho44, h45⟩ := obind h
  refine CW.mono (CW.iter (σ := Int) (ρ := Int ⊕ Bool) (fun s2 e wb => En e [(0, .slice a0_0 x0.length c0_0), (1, .slice a1_0 x1.length c1_0), (5, .int .i64 s2)] ∧ St w0 [] wb []) (fun o x e wb => match o with | .inl s2 => x = .exit 0 ∧ En e [] ∧ St w0 [] wb [] | .inr r => x = .ret ∧ ∃ u, u = r ∧ ∃ v, Res Try.prog Try.f125.results e wb v ∧ v = .bool u ∧ St w0 [] wb []) ?_ N 0 _ _ _ ⟨⟨rfl, rfl, rfl, trivial⟩, hS1.pick [] rfl rfl⟩ ho44) ?_
  · intro s2 e w3 o hM h
    obtain ⟨hE, hS2⟩ := hM
    obtain ⟨e, rfl⟩ := hE.out
    refine CW.seq ?_
    refine CW.seq ?_
    refine CW.region ?_
    iterate 2 refine LW.p rfl rfl ?_
    refine LW.u (Pur.len Try.underlying68 rfl) rfl ?_
    refine LW.p rfl rfl ?_
    refine LW.nil ?_
    show CW _ _ _ _ _ _
    refine CW.cond rfl (fun hc4 => ?_) (fun hc4 => ?_)
    · replace h := bcT h hc4
      refine CW.skip ?_
      show CW _ _ _ _ _ _
      refine CW.seq ?_
      refine CW.block ?_
      refine CW.seq ?_
      refine CW.draw (by kernel_rfl) ?_
      have hS3 := hS2.drew
      refine AW.u (i := 0) rfl (by kernel_rfl) rfl rfl (Pur.p rfl) ?_
      refine AW.u (i := 1) rfl (by kernel_rfl) rfl rfl (Pur.p rfl) ?_
      replace h := obind h
      obtain ⟨y5, hy5, h⟩ := h
      obtain ⟨b8, o9, cs10, hae, hb13, hp6, hq7, hd11, hk12⟩ := hr0_0.idx hy5
      subst hae
      obtain ⟨a14, c15, a17, c18, a20, c21, rfl, hr16, hr19, hr22⟩ := hd11
      refine AW.u (i := 2) rfl (by kernel_rfl) rfl rfl (Pur.ix Try.underlying68 sz123 rfl rfl hp6 hq7) ?_
      refine AW.take (i := 3) rfl (by kernel_rfl) rfl rfl (Ldr.oldN w0 ag123 rfl rfl (fun j u hu => hk12 j u hu)) (hS3.same _ hb13.1 hb13.2) ?_
      refine AW.u (i := 4) rfl (by kernel_rfl) rfl rfl (Pur.p rfl) ?_
      refine AW.u (i := 5) rfl (by kernel_rfl) rfl rfl (Pur.p rfl) ?_
      replace h := obind h
      obtain ⟨y23, hy23, h⟩ := h
      obtain ⟨b26, o27, cs28, hae, hb31, hp24, hq25, hd29, hk30⟩ := hr1_0.idx hy23
      subst hae
      obtain ⟨a32, c33, a35, c36, a38, c39, rfl, hr34, hr37, hr40⟩ := hd29
      refine AW.u (i := 6) rfl (by kernel_rfl) rfl rfl (Pur.ix Try.underlying68 sz123 rfl rfl hp24 hq25) ?_
      refine AW.take (i := 7) rfl (by kernel_rfl) rfl rfl (Ldr.oldN w0 ag123 rfl rfl (fun j u hu => hk30 j u hu)) (hS3.same _ hb31.1 hb31.2) ?_
      replace h := obind h
      obtain ⟨y41, hy41, h⟩ := h
      have q := W_s_l8Same (w0 := w3.drew) hy41 rfl (hS3.rB hr16) rfl (hS3.rB hr19) rfl (hS3.rB hr22) rfl (hS3.rB hr34) rfl (hS3.rB hr37) rfl (hS3.rB hr40)
      refine AW.one (i := 8) (by kernel_rfl) ?_
      refine ⟨_, rfl, ?_⟩
      refine LW.call pl172 rfl rfl ?_
      refine Ret.mono q ?_
      rintro _ w42 ⟨rfl, hs⟩
      have hS4 := hS3.add hs
      refine LW.nil ⟨rfl, (.w (by kernel_rfl) (.w (by kernel_rfl) Kept.n)), ?_⟩
      refine AW.u (i := 9) rfl (by kernel_rfl) rfl rfl (Pur.p rfl) ?_
      refine AW.done (by kernel_rfl) ?_
      show CW _ _ _ _ _ _
      refine CW.cond rfl (fun hc43 => ?_) (fun hc43 => ?_)
      · replace h := bcT h hc43
        refine CW.seq ?_
        refine CW.region ?_
        refine LW.p rfl rfl ?_
        refine LW.nil ?_
        show CW _ _ _ _ _ _
        refine CW.ret ?_
        replace h := Option.some.inj h
        subst h
        exact ⟨trivial, rfl, _, rfl, ⟨_, Res.one (resOne.t rfl), rfl, hS4.pick [] rfl rfl⟩⟩
      replace h := bcF h hc43
      refine CW.skip ?_
      show CW _ _ _ _ _ _
      refine CW.region ?_
      iterate 3 refine LW.p rfl rfl ?_
      refine LW.nil ?_
      replace h := Option.some.inj h
      subst h
      exact ⟨rfl, ⟨⟨rfl, rfl, rfl, trivial⟩, hS4.pick [] rfl rfl⟩⟩
    replace h := bcF h hc4
    refine CW.exit ?_
    replace h := Option.some.inj h
    subst h
    exact ⟨trivial, rfl, ⟨trivial, hS2.pick [] rfl rfl⟩⟩
  intro x e w46 hM
  rcases o44 with o44 | r47
  · obtain ⟨rfl, hM⟩ := hM
    obtain ⟨hE, hS5⟩ := hM
    obtain ⟨e, rfl⟩ := hE.out
    have h := h45
    show CW _ _ _ _ _ _
    refine CW.seq ?_
    refine CW.region ?_
    refine LW.p rfl rfl ?_
    refine LW.nil ?_
    show CW _ _ _ _ _ _
    refine CW.ret ?_
    cases h
    exact And.intro trivial ⟨_, Res.one (resOne.t rfl), rfl, hS5.pick [] rfl rfl⟩
  obtain ⟨rfl, u, rfl, hM⟩ := hM
  cases h45
  exact And.intro trivial hM

theorem W_s_SamePart {w0 : World} {N : Nat} {x0 : DPart} {x1 : DPart} {r : Bool} (h : F_s_SamePart N x0 x1 = some r) {a0_0 : Option Addr} {n0_0 c0_0 : Nat} (hn0_0 : n0_0 = x0.label.levels.length) (hr0_0 : rdS (Bor w0 []) w0 a0_0 c0_0 x0.label.levels) {a0_1 : Option Addr} {n0_1 c0_1 : Nat} (hn0_1 : n0_1 = x0.own.length) (hr0_1 : rdS (Bor w0 []) w0 a0_1 c0_1 x0.own) {a0_2 : Option Addr} {n0_2 c0_2 : Nat} (hn0_2 : n0_2 = x0.tree.length) (hr0_2 : rdS (Bor w0 []) w0 a0_2 c0_2 x0.tree) {a0_3 : Option Addr} {n0_3 c0_3 : Nat} (hn0_3 : n0_3 = x0.heap.arena.length) (hr0_3 : rdS (Bor w0 []) w0 a0_3 c0_3 x0.heap.arena) {a0_7 : Option Addr} {n0_7 c0_7 : Nat} (hn0_7 : n0_7 = x0.heap.gc.grey.length) (hr0_7 : rdS (Bor w0 []) w0 a0_7 c0_7 x0.heap.gc.grey) {a0_8 : Option Addr} {n0_8 c0_8 : Nat} (hn0_8 : n0_8 = x0.taps.length) (hr0_8 : rdS (Bor w0 []) w0 a0_8 c0_8 x0.taps) {a1_0 : Option Addr} {n1_0 c1_0 : Nat} (hn1_0 : n1_0 = x1.label.levels.length) (hr1_0 : rdS (Bor w0 []) w0 a1_0 c1_0 x1.label.levels) {a1_1 : Option Addr} {n1_1 c1_1 : Nat} (hn1_1 : n1_1 = x1.own.length) (hr1_1 : rdS (Bor w0 []) w0 a1_1 c1_1 x1.own) {a1_2 : Option Addr} {n1_2 c1_2 : Nat} (hn1_2 : n1_2 = x1.tree.length) (hr1_2 : rdS (Bor w0 []) w0 a1_2 c1_2 x1.tree) {a1_3 : Option Addr} {n1_3 c1_3 : Nat} (hn1_3 : n1_3 = x1.heap.arena.length) (hr1_3 : rdS (Bor w0 []) w0 a1_3 c1_3 x1.heap.arena) {a1_7 : Option Addr} {n1_7 c1_7 : Nat} (hn1_7 : n1_7 = x1.heap.gc.grey.length) (hr1_7 : rdS (Bor w0 []) w0 a1_7 c1_7 x1.heap.gc.grey) {a1_8 : Option Addr} {n1_8 c1_8 : Nat} (hn1_8 : n1_8 = x1.taps.length) (hr1_8 : rdS (Bor w0 []) w0 a1_8 c1_8 x1.taps) :
    Ret Try.prog 63 #[.agg #[.slice a0_0 n0_0 c0_0, .slice a0_1 n0_1 c0_1, .slice a0_2 n0_2 c0_2, .slice a0_3 n0_3 c0_3, .int .i64 x0.heap.gc.phase, .int .i64 x0.heap.gc.pos, .int .i64 x0.heap.gc.round, .slice a0_7 n0_7 c0_7, .slice a0_8 n0_8 c0_8, .int .i64 x0.next, .int .i64 x0.want, .int .i64 x0.spent.pages, .int .i64 x0.spent.rent, .int .i64 x0.spent.cpu, .int .i64 x0.press, .int .i64 x0.lost], .agg #[.slice a1_0 n1_0 c1_0, .slice a1_1 n1_1 c1_1, .slice a1_2 n1_2 c1_2, .slice a1_3 n1_3 c1_3, .int .i64 x1.heap.gc.phase, .int .i64 x1.heap.gc.pos, .int .i64 x1.heap.gc.round, .slice a1_7 n1_7 c1_7, .slice a1_8 n1_8 c1_8, .int .i64 x1.next, .int .i64 x1.want, .int .i64 x1.spent.pages, .int .i64 x1.spent.rent, .int .i64 x1.spent.cpu, .int .i64 x1.press, .int .i64 x1.lost]] w0 (fun v w => v = .bool r ∧ St w0 [] w []) := by
  subst hn0_0
  subst hn0_1
  subst hn0_2
  subst hn0_3
  subst hn0_7
  subst hn0_8
  subst hn1_0
  subst hn1_1
  subst hn1_2
  subst hn1_3
  subst hn1_7
  subst hn1_8
  unfold F_s_SamePart at h
  refine Ret.of Try.func63 rfl rfl rfl ?_
  have hS1 := St.start w0
  refine CW.seq ?_
  refine CW.region ?_
  refine LW.box (cs := [.slice a0_0 x0.label.levels.length c0_0, .slice a0_1 x0.own.length c0_1, .slice a0_2 x0.tree.length c0_2, .slice a0_3 x0.heap.arena.length c0_3, .int .i64 x0.heap.gc.phase, .int .i64 x0.heap.gc.pos, .int .i64 x0.heap.gc.round, .slice a0_7 x0.heap.gc.grey.length c0_7, .slice a0_8 x0.taps.length c0_8, .int .i64 x0.next, .int .i64 x0.want, .int .i64 x0.spent.pages, .int .i64 x0.spent.rent, .int .i64 x0.spent.cpu, .int .i64 x0.press, .int .i64 x0.lost]) rfl hS1 rfl ?_
  intro g1 w2 hS2 hf
  refine LW.box (cs := [.slice a1_0 x1.label.levels.length c1_0, .slice a1_1 x1.own.length c1_1, .slice a1_2 x1.tree.length c1_2, .slice a1_3 x1.heap.arena.length c1_3, .int .i64 x1.heap.gc.phase, .int .i64 x1.heap.gc.pos, .int .i64 x1.heap.gc.round, .slice a1_7 x1.heap.gc.grey.length c1_7, .slice a1_8 x1.taps.length c1_8, .int .i64 x1.next, .int .i64 x1.want, .int .i64 x1.spent.pages, .int .i64 x1.spent.rent, .int .i64 x1.spent.cpu, .int .i64 x1.press, .int .i64 x1.lost]) rfl hS2 rfl ?_
  intro g3 w4 hS3 hf
  refine LW.p rfl rfl ?_
  refine LW.nil ?_
  show CW _ _ _ _ _ _
  refine CW.seq ?_
  refine CW.seq ?_
  obtain ⟨j5, hj5, h6⟩ := obind h
  refine CW.cut (fun e wb => En e [(2, .pointer (some ⟨g1, 0, none⟩)), (3, .pointer (some ⟨g3, 0, none⟩)), (75, .bool j5)] ∧ St w0 [] wb [bx g3 75 [.slice a1_0 x1.label.levels.length c1_0, .slice a1_1 x1.own.length c1_1, .slice a1_2 x1.tree.length c1_2, .slice a1_3 x1.heap.arena.length c1_3, .int .i64 x1.heap.gc.phase, .int .i64 x1.heap.gc.pos, .int .i64 x1.heap.gc.round, .slice a1_7 x1.heap.gc.grey.length c1_7, .slice a1_8 x1.taps.length c1_8, .int .i64 x1.next, .int .i64 x1.want, .int .i64 x1.spent.pages, .int .i64 x1.spent.rent, .int .i64 x1.spent.cpu, .int .i64 x1.press, .int .i64 x1.lost], bx g1 75 [.slice a0_0 x0.label.levels.length c0_0, .slice a0_1 x0.own.length c0_1, .slice a0_2 x0.tree.length c0_2, .slice a0_3 x0.heap.arena.length c0_3, .int .i64 x0.heap.gc.phase, .int .i64 x0.heap.gc.pos, .int .i64 x0.heap.gc.round, .slice a0_7 x0.heap.gc.grey.length c0_7, .slice a0_8 x0.taps.length c0_8, .int .i64 x0.next, .int .i64 x0.want, .int .i64 x0.spent.pages, .int .i64 x0.spent.rent, .int .i64 x0.spent.cpu, .int .i64 x0.press, .int .i64 x0.lost]]) ?_ ?_
  · have h := hj5
    refine CW.region ?_
    refine LW.u (Pur.fa fo75_0 rfl) rfl ?_
    refine LW.ldbN hS3 1 rfl ag35 rfl rfl rfl ?_
    refine LW.u (Pur.fa fo75_0 rfl) rfl ?_
    refine LW.ldbN hS3 0 rfl ag35 rfl rfl rfl ?_
    replace h := obind h
    obtain ⟨y7, hy7, h⟩ := h
    have q := W_s_SameLabel (w0 := w4) hy7 rfl (hS3.rB hr0_0) rfl (hS3.rB hr1_0)
    refine LW.call pl123 rfl rfl ?_
    refine Ret.mono q ?_
    rintro _ w8 ⟨rfl, hs⟩
    have hS4 := hS3.add hs
    iterate 2 refine LW.p rfl rfl ?_
    rcases bcases (!y7) with hc9 | hc9
    · replace h := bcT h hc9
      refine LW.gN (want_not rfl rfl hc9) rfl ?_
      refine LW.gN (want_not rfl rfl hc9) rfl ?_
      refine LW.gN (want_not rfl rfl hc9) rfl ?_
      refine LW.gN (want_not rfl rfl hc9) rfl ?_
      refine LW.gN (want_not rfl rfl hc9) rfl ?_
      refine LW.gN (want_not rfl rfl hc9) rfl ?_
      refine LW.u (Pur.pickT rfl hc9) rfl ?_
      refine LW.p rfl rfl ?_
      refine LW.gN (want_not rfl rfl rfl) rfl ?_
      refine LW.gN (want_not rfl rfl rfl) rfl ?_
      refine LW.gN (want_not rfl rfl rfl) rfl ?_
      refine LW.gN (want_not rfl rfl rfl) rfl ?_
      refine LW.gN (want_not rfl rfl rfl) rfl ?_
      refine LW.gN (want_not rfl rfl rfl) rfl ?_
      refine LW.fresh (l := [(2, .pointer (some ⟨g1, 0, none⟩)), (3, .pointer (some ⟨g3, 0, none⟩)), (23, .bool true), (26, undef), (29, undef)]) ⟨rfl, rfl, rfl, rfl, rfl, trivial⟩ (fun e => ?_)
      refine LW.gN (want_not rfl rfl rfl) rfl ?_
      refine LW.u (Pur.pickT rfl rfl) rfl ?_
      refine LW.p rfl rfl ?_
      refine LW.gN (want_not rfl rfl rfl) rfl ?_
      refine LW.gN (want_not rfl rfl rfl) rfl ?_
      refine LW.gN (want_not rfl rfl rfl) rfl ?_
      refine LW.gN (want_not rfl rfl rfl) rfl ?_
      refine LW.gN (want_not rfl rfl rfl) rfl ?_
      refine LW.gN (want_not rfl rfl rfl) rfl ?_
      refine LW.gN (want_not rfl rfl rfl) rfl ?_
      refine LW.u (Pur.pickT rfl rfl) rfl ?_
      refine LW.p rfl rfl ?_
      refine LW.gN (want_not rfl rfl rfl) rfl ?_
      refine LW.gN (want_not rfl rfl rfl) rfl ?_
      refine LW.gN (want_not rfl rfl rfl) rfl ?_
      refine LW.gN (want_not rfl rfl rfl) rfl ?_
      refine LW.gN (want_not rfl rfl rfl) rfl ?_
      refine LW.u (Pur.pickT rfl rfl) rfl ?_
      refine LW.p rfl rfl ?_
      refine LW.gN (want_not rfl rfl rfl) rfl ?_
      refine LW.gN (want_not rfl rfl rfl) rfl ?_
      refine LW.gN (want_not rfl rfl rfl) rfl ?_
      refine LW.gN (want_not rfl rfl rfl) rfl ?_
      refine LW.gN (want_not rfl rfl rfl) rfl ?_
      refine LW.u (Pur.pickT rfl rfl) rfl ?_
      refine LW.fresh (l := [(2, .pointer (some ⟨g1, 0, none⟩)), (3, .pointer (some ⟨g3, 0, none⟩)), (54, .bool true)]) ⟨rfl, rfl, rfl, trivial⟩ (fun e => ?_)
      refine LW.p rfl rfl ?_
      refine LW.gN (want_not rfl rfl rfl) rfl ?_
      refine LW.gN (want_not rfl rfl rfl) rfl ?_
      refine LW.gN (want_not rfl rfl rfl) rfl ?_
      refine LW.gN (want_not rfl rfl rfl) rfl ?_
      refine LW.gN (want_not rfl rfl rfl) rfl ?_
      refine LW.u (Pur.pickT rfl rfl) rfl ?_
      refine LW.p rfl rfl ?_
      refine LW.gN (want_not rfl rfl rfl) rfl ?_
      refine LW.gN (want_not rfl rfl rfl) rfl ?_
      refine LW.gN (want_not rfl rfl rfl) rfl ?_
      refine LW.gN (want_not rfl rfl rfl) rfl ?_
      refine LW.gN (want_not rfl rfl rfl) rfl ?_
      refine LW.u (Pur.pickT rfl rfl) rfl ?_
      refine LW.p rfl rfl ?_
      refine LW.gN (want_not rfl rfl rfl) rfl ?_
      refine LW.gN (want_not rfl rfl rfl) rfl ?_
      refine LW.gN (want_not rfl rfl rfl) rfl ?_
      refine LW.gN (want_not rfl rfl rfl) rfl ?_
      refine LW.gN (want_not rfl rfl rfl) rfl ?_
      refine LW.u (Pur.pickT rfl rfl) rfl ?_
      refine LW.nil ?_
      replace h := Option.some.inj h
      subst h
      exact ⟨⟨rfl, rfl, rfl, trivial⟩, hS4.pick [0, 1] rfl rfl⟩
    replace h := bcF h hc9
    refine LW.gY (want_of rfl rfl hc9) ?_
    refine LW.u (Pur.fa fo75_1 rfl) rfl ?_
    refine LW.gY (want_of rfl rfl hc9) ?_
    refine LW.ldb hS4 1 rfl ag24 rfl rfl rfl ?_
    refine LW.gY (want_of rfl rfl hc9) ?_
    refine LW.u (Pur.fa fo75_1 rfl) rfl ?_
    refine LW.gY (want_of rfl rfl hc9) ?_
    refine LW.ldb hS4 0 rfl ag24 rfl rfl rfl ?_
    replace h := obind h
    obtain ⟨y10, hy10, h⟩ := h
    have q := W_s_l13Ints (w0 := w8) hy10 rfl (hS4.rB hr0_1) rfl (hS4.rB hr1_1)
    refine LW.gY (want_of rfl rfl hc9) ?_
    refine LW.call pl124 rfl rfl ?_
    refine Ret.mono q ?_
    rintro _ w11 ⟨rfl, hs⟩
    have hS5 := hS4.add hs
    refine LW.gY (want_of rfl rfl hc9) ?_
    refine LW.p rfl rfl ?_
    refine LW.u (Pur.pickF rfl hc9) rfl ?_
    refine LW.p rfl rfl ?_
    rcases bcases (!y10) with hc12 | hc12
    · replace h := bcT h hc12
      refine LW.gN (want_not rfl rfl hc12) rfl ?_
      refine LW.gN (want_not rfl rfl hc12) rfl ?_
      refine LW.gN (want_not rfl rfl hc12) rfl ?_
      refine LW.gN (want_not rfl rfl hc12) rfl ?_
      refine LW.gN (want_not rfl rfl hc12) rfl ?_
      refine LW.fresh (l := [(2, .pointer (some ⟨g1, 0, none⟩)), (3, .pointer (some ⟨g3, 0, none⟩)), (23, .bool (!y10)), (26, undef), (28, undef)]) ⟨rfl, rfl, rfl, rfl, rfl, trivial⟩ (fun e => ?_)
      refine LW.gN (want_not rfl rfl hc12) rfl ?_
      refine LW.gN (want_not rfl rfl hc12) rfl ?_
      refine LW.u (Pur.pickT rfl hc12) rfl ?_
      refine LW.p rfl rfl ?_
      refine LW.gN (want_not rfl rfl rfl) rfl ?_
      refine LW.gN (want_not rfl rfl rfl) rfl ?_
      refine LW.gN (want_not rfl rfl rfl) rfl ?_
      refine LW.gN (want_not rfl rfl rfl) rfl ?_
      refine LW.gN (want_not rfl rfl rfl) rfl ?_
      refine LW.gN (want_not rfl rfl rfl) rfl ?_
      refine LW.gN (want_not rfl rfl rfl) rfl ?_
      refine LW.u (Pur.pickT rfl rfl) rfl ?_
      refine LW.p rfl rfl ?_
      refine LW.gN (want_not rfl rfl rfl) rfl ?_
      refine LW.gN (want_not rfl rfl rfl) rfl ?_
      refine LW.gN (want_not rfl rfl rfl) rfl ?_
      refine LW.gN (want_not rfl rfl rfl) rfl ?_
      refine LW.gN (want_not rfl rfl rfl) rfl ?_
      refine LW.u (Pur.pickT rfl rfl) rfl ?_
      refine LW.p rfl rfl ?_
      refine LW.gN (want_not rfl rfl rfl) rfl ?_
      refine LW.gN (want_not rfl rfl rfl) rfl ?_
      refine LW.gN (want_not rfl rfl rfl) rfl ?_
      refine LW.gN (want_not rfl rfl rfl) rfl ?_
      refine LW.gN (want_not rfl rfl rfl) rfl ?_
      refine LW.fresh (l := [(2, .pointer (some ⟨g1, 0, none⟩)), (3, .pointer (some ⟨g3, 0, none⟩)), (48, .bool true), (53, undef)]) ⟨rfl, rfl, rfl, rfl, trivial⟩ (fun e => ?_)
      refine LW.u (Pur.pickT rfl rfl) rfl ?_
      refine LW.p rfl rfl ?_
      refine LW.gN (want_not rfl rfl rfl) rfl ?_
      refine LW.gN (want_not rfl rfl rfl) rfl ?_
      refine LW.gN (want_not rfl rfl rfl) rfl ?_
      refine LW.gN (want_not rfl rfl rfl) rfl ?_
      refine LW.gN (want_not rfl rfl rfl) rfl ?_
      refine LW.u (Pur.pickT rfl rfl) rfl ?_
      refine LW.p rfl rfl ?_
      refine LW.gN (want_not rfl rfl rfl) rfl ?_
      refine LW.gN (want_not rfl rfl rfl) rfl ?_
      refine LW.gN (want_not rfl rfl rfl) rfl ?_
      refine LW.gN (want_not rfl rfl rfl) rfl ?_
      refine LW.gN (want_not rfl rfl rfl) rfl ?_
      refine LW.u (Pur.pickT rfl rfl) rfl ?_
      refine LW.p rfl rfl ?_
      refine LW.gN (want_not rfl rfl rfl) rfl ?_
      refine LW.gN (want_not rfl rfl rfl) rfl ?_
      refine LW.gN (want_not rfl rfl rfl) rfl ?_
      refine LW.gN (want_not rfl rfl rfl) rfl ?_
      refine LW.gN (want_not rfl rfl rfl) rfl ?_
      refine LW.u (Pur.pickT rfl rfl) rfl ?_
      refine LW.nil ?_
      replace h := Option.some.inj h
      subst h
      exact ⟨⟨rfl, rfl, rfl, trivial⟩, hS5.pick [0, 1] rfl rfl⟩
    replace h := bcF h hc12
    refine LW.gY (want_of rfl rfl hc12) ?_
    refine LW.u (Pur.fa fo75_2 rfl) rfl ?_
    refine LW.gY (want_of rfl rfl hc12) ?_
    refine LW.ldb hS5 1 rfl ag67 rfl rfl rfl ?_
    refine LW.gY (want_of rfl rfl hc12) ?_
    refine LW.u (Pur.len Try.underlying67 rfl) rfl ?_
    refine LW.gY (want_of rfl rfl hc12) ?_
    refine LW.u (Pur.fa fo75_2 rfl) rfl ?_
    refine LW.gY (want_of rfl rfl hc12) ?_
    refine LW.ldb hS5 0 rfl ag67 rfl rfl rfl ?_
    refine LW.fresh (l := [(2, .pointer (some ⟨g1, 0, none⟩)), (3, .pointer (some ⟨g3, 0, none⟩)), (23, .bool (!y10)), (26, .int .i64 (x0.tree.length : Int)), (28, .slice a1_2 x1.tree.length c1_2)]) ⟨rfl, rfl, rfl, rfl, rfl, trivial⟩ (fun e => ?_)
    refine LW.gY (want_of rfl rfl hc12) ?_
    refine LW.u (Pur.len Try.underlying67 rfl) rfl ?_
    refine LW.gY (want_of rfl rfl hc12) ?_
    refine LW.p rfl rfl ?_
    refine LW.u (Pur.pickF rfl hc12) rfl ?_
    refine LW.p rfl rfl ?_
    rcases bcases ((x0.tree.length : Int) != (x1.tree.length : Int)) with hc13 | hc13
    · replace h := bcT h hc13
      refine LW.gN (want_not rfl rfl hc13) rfl ?_
      refine LW.gN (want_not rfl rfl hc13) rfl ?_
      refine LW.gN (want_not rfl rfl hc13) rfl ?_
      refine LW.gN (want_not rfl rfl hc13) rfl ?_
      refine LW.gN (want_not rfl rfl hc13) rfl ?_
      refine LW.gN (want_not rfl rfl hc13) rfl ?_
      refine LW.gN (want_not rfl rfl hc13) rfl ?_
      refine LW.u (Pur.pickT rfl hc13) rfl ?_
      refine LW.p rfl rfl ?_
      refine LW.gN (want_not rfl rfl rfl) rfl ?_
      refine LW.gN (want_not rfl rfl rfl) rfl ?_
      refine LW.gN (want_not rfl rfl rfl) rfl ?_
      refine LW.gN (want_not rfl rfl rfl) rfl ?_
      refine LW.gN (want_not rfl rfl rfl) rfl ?_
      refine LW.u (Pur.pickT rfl rfl) rfl ?_
      refine LW.p rfl rfl ?_
      refine LW.gN (want_not rfl rfl rfl) rfl ?_
      refine LW.gN (want_not rfl rfl rfl) rfl ?_
      refine LW.gN (want_not rfl rfl rfl) rfl ?_
      refine LW.gN (want_not rfl rfl rfl) rfl ?_
      refine LW.fresh (l := [(2, .pointer (some ⟨g1, 0, none⟩)), (3, .pointer (some ⟨g3, 0, none⟩)), (48, .bool true), (50, undef), (52, undef)]) ⟨rfl, rfl, rfl, rfl, rfl, trivial⟩ (fun e => ?_)
      refine LW.gN (want_not rfl rfl rfl) rfl ?_
      refine LW.u (Pur.pickT rfl rfl) rfl ?_
      refine LW.p rfl rfl ?_
      refine LW.gN (want_not rfl rfl rfl) rfl ?_
      refine LW.gN (want_not rfl rfl rfl) rfl ?_
      refine LW.gN (want_not rfl rfl rfl) rfl ?_
      refine LW.gN (want_not rfl rfl rfl) rfl ?_
      refine LW.gN (want_not rfl rfl rfl) rfl ?_
      refine LW.u (Pur.pickT rfl rfl) rfl ?_
      refine LW.p rfl rfl ?_
      refine LW.gN (want_not rfl rfl rfl) rfl ?_
      refine LW.gN (want_not rfl rfl rfl) rfl ?_
      refine LW.gN (want_not rfl rfl rfl) rfl ?_
      refine LW.gN (want_not rfl rfl rfl) rfl ?_
      refine LW.gN (want_not rfl rfl rfl) rfl ?_
      refine LW.u (Pur.pickT rfl rfl) rfl ?_
      refine LW.p rfl rfl ?_
      refine LW.gN (want_not rfl rfl rfl) rfl ?_
      refine LW.gN (want_not rfl rfl rfl) rfl ?_
      refine LW.gN (want_not rfl rfl rfl) rfl ?_
      refine LW.gN (want_not rfl rfl rfl) rfl ?_
      refine LW.gN (want_not rfl rfl rfl) rfl ?_
      refine LW.u (Pur.pickT rfl rfl) rfl ?_
      refine LW.nil ?_
      replace h := Option.some.inj h
      subst h
      exact ⟨⟨rfl, rfl, rfl, trivial⟩, hS5.pick [0, 1] rfl rfl⟩
    replace h := bcF h hc13
    refine LW.gY (want_of rfl rfl hc13) ?_
    refine LW.u (Pur.fa fo75_4 rfl) rfl ?_
    refine LW.gY (want_of rfl rfl hc13) ?_
    refine LW.ldb hS5 1 rfl ag72 rfl rfl rfl ?_
    refine LW.gY (want_of rfl rfl hc13) ?_
    refine LW.u (Pur.len Try.underlying72 rfl) rfl ?_
    refine LW.gY (want_of rfl rfl hc13) ?_
    refine LW.u (Pur.fa fo75_4 rfl) rfl ?_
    refine LW.gY (want_of rfl rfl hc13) ?_
    refine LW.ldb hS5 0 rfl ag72 rfl rfl rfl ?_
    refine LW.gY (want_of rfl rfl hc13) ?_
    refine LW.u (Pur.len Try.underlying72 rfl) rfl ?_
    refine LW.gY (want_of rfl rfl hc13) ?_
    refine LW.p rfl rfl ?_
    refine LW.u (Pur.pickF rfl hc13) rfl ?_
    refine LW.p rfl rfl ?_
    rcases bcases ((x0.taps.length : Int) != (x1.taps.length : Int)) with hc14 | hc14
    · replace h := bcT h hc14
      refine LW.gN (want_not rfl rfl hc14) rfl ?_
      refine LW.gN (want_not rfl rfl hc14) rfl ?_
      refine LW.gN (want_not rfl rfl hc14) rfl ?_
      refine LW.gN (want_not rfl rfl hc14) rfl ?_
      refine LW.gN (want_not rfl rfl hc14) rfl ?_
      refine LW.u (Pur.pickT rfl hc14) rfl ?_
      refine LW.p rfl rfl ?_
      refine LW.gN (want_not rfl rfl rfl) rfl ?_
      refine LW.gN (want_not rfl rfl rfl) rfl ?_
      refine LW.gN (want_not rfl rfl rfl) rfl ?_
      refine LW.fresh (l := [(2, .pointer (some ⟨g1, 0, none⟩)), (3, .pointer (some ⟨g3, 0, none⟩)), (48, .bool true), (50, undef), (51, undef)]) ⟨rfl, rfl, rfl, rfl, rfl, trivial⟩ (fun e => ?_)
      refine LW.gN (want_not rfl rfl rfl) rfl ?_
      refine LW.gN (want_not rfl rfl rfl) rfl ?_
      refine LW.u (Pur.pickT rfl rfl) rfl ?_
      refine LW.p rfl rfl ?_
      refine LW.gN (want_not rfl rfl rfl) rfl ?_
      refine LW.gN (want_not rfl rfl rfl) rfl ?_
      refine LW.gN (want_not rfl rfl rfl) rfl ?_
      refine LW.gN (want_not rfl rfl rfl) rfl ?_
      refine LW.gN (want_not rfl rfl rfl) rfl ?_
      refine LW.u (Pur.pickT rfl rfl) rfl ?_
      refine LW.p rfl rfl ?_
      refine LW.gN (want_not rfl rfl rfl) rfl ?_
      refine LW.gN (want_not rfl rfl rfl) rfl ?_
      refine LW.gN (want_not rfl rfl rfl) rfl ?_
      refine LW.gN (want_not rfl rfl rfl) rfl ?_
      refine LW.gN (want_not rfl rfl rfl) rfl ?_
      refine LW.u (Pur.pickT rfl rfl) rfl ?_
      refine LW.p rfl rfl ?_
      refine LW.gN (want_not rfl rfl rfl) rfl ?_
      refine LW.gN (want_not rfl rfl rfl) rfl ?_
      refine LW.gN (want_not rfl rfl rfl) rfl ?_
      refine LW.gN (want_not rfl rfl rfl) rfl ?_
      refine LW.gN (want_not rfl rfl rfl) rfl ?_
      refine LW.u (Pur.pickT rfl rfl) rfl ?_
      refine LW.nil ?_
      replace h := Option.some.inj h
      subst h
      exact ⟨⟨rfl, rfl, rfl, trivial⟩, hS5.pick [0, 1] rfl rfl⟩
    replace h := bcF h hc14
    refine LW.gY (want_of rfl rfl hc14) ?_
    refine LW.u (Pur.fa fo75_5 rfl) rfl ?_
    refine LW.gY (want_of rfl rfl hc14) ?_
    refine LW.ldb hS5 1 rfl ag3 rfl rfl rfl ?_
    refine LW.gY (want_of rfl rfl hc14) ?_
    refine LW.u (Pur.fa fo75_5 rfl) rfl ?_
    refine LW.gY (want_of rfl rfl hc14) ?_
    refine LW.ldb hS5 0 rfl ag3 rfl rfl rfl ?_
    refine LW.gY (want_of rfl rfl hc14) ?_
    refine LW.p rfl rfl ?_
    refine LW.u (Pur.pickF rfl hc14) rfl ?_
    refine LW.p rfl rfl ?_
    rcases bcases (x0.next != x1.next) with hc15 | hc15
    · replace h := bcT h hc15
      refine LW.gN (want_not rfl rfl hc15) rfl ?_
      refine LW.gN (want_not rfl rfl hc15) rfl ?_
      refine LW.fresh (l := [(2, .pointer (some ⟨g1, 0, none⟩)), (3, .pointer (some ⟨g3, 0, none⟩)), (48, .bool (x0.next != x1.next)), (50, undef)]) ⟨rfl, rfl, rfl, rfl, trivial⟩ (fun e => ?_)
      refine LW.gN (want_not rfl rfl hc15) rfl ?_
      refine LW.gN (want_not rfl rfl hc15) rfl ?_
      refine LW.gN (want_not rfl rfl hc15) rfl ?_
      refine LW.u (Pur.pickT rfl hc15) rfl ?_
      refine LW.p rfl rfl ?_
      refine LW.gN (want_not rfl rfl rfl) rfl ?_
      refine LW.gN (want_not rfl rfl rfl) rfl ?_
      refine LW.gN (want_not rfl rfl rfl) rfl ?_
      refine LW.gN (want_not rfl rfl rfl) rfl ?_
      refine LW.gN (want_not rfl rfl rfl) rfl ?_
      refine LW.u (Pur.pickT rfl rfl) rfl ?_
      refine LW.p rfl rfl ?_
      refine LW.gN (want_not rfl rfl rfl) rfl ?_
      refine LW.gN (want_not rfl rfl rfl) rfl ?_
      refine LW.gN (want_not rfl rfl rfl) rfl ?_
      refine LW.gN (want_not rfl rfl rfl) rfl ?_
      refine LW.gN (want_not rfl rfl rfl) rfl ?_
      refine LW.u (Pur.pickT rfl rfl) rfl ?_
      refine LW.p rfl rfl ?_
      refine LW.gN (want_not rfl rfl rfl) rfl ?_
      refine LW.gN (want_not rfl rfl rfl) rfl ?_
      refine LW.gN (want_not rfl rfl rfl) rfl ?_
      refine LW.gN (want_not rfl rfl rfl) rfl ?_
      refine LW.gN (want_not rfl rfl rfl) rfl ?_
      refine LW.u (Pur.pickT rfl rfl) rfl ?_
      refine LW.nil ?_
      replace h := Option.some.inj h
      subst h
      exact ⟨⟨rfl, rfl, rfl, trivial⟩, hS5.pick [0, 1] rfl rfl⟩
    replace h := bcF h hc15
    refine LW.gY (want_of rfl rfl hc15) ?_
    refine LW.u (Pur.fa fo75_6 rfl) rfl ?_
    refine LW.gY (want_of rfl rfl hc15) ?_
    refine LW.ldb hS5 1 rfl ag3 rfl rfl rfl ?_
    refine LW.fresh (l := [(2, .pointer (some ⟨g1, 0, none⟩)), (3, .pointer (some ⟨g3, 0, none⟩)), (48, .bool (x0.next != x1.next)), (50, .int .i64 x0.want)]) ⟨rfl, rfl, rfl, rfl, trivial⟩ (fun e => ?_)
    refine LW.gY (want_of rfl rfl hc15) ?_
    refine LW.u (Pur.fa fo75_6 rfl) rfl ?_
    refine LW.gY (want_of rfl rfl hc15) ?_
    refine LW.ldb hS5 0 rfl ag3 rfl rfl rfl ?_
    refine LW.gY (want_of rfl rfl hc15) ?_
    refine LW.p rfl rfl ?_
    refine LW.u (Pur.pickF rfl hc15) rfl ?_
    refine LW.p rfl rfl ?_
    rcases bcases (x0.want != x1.want) with hc16 | hc16
    · replace h := bcT h hc16
      refine LW.gN (want_not rfl rfl hc16) rfl ?_
      refine LW.gN (want_not rfl rfl hc16) rfl ?_
      refine LW.gN (want_not rfl rfl hc16) rfl ?_
      refine LW.gN (want_not rfl rfl hc16) rfl ?_
      refine LW.gN (want_not rfl rfl hc16) rfl ?_
      refine LW.u (Pur.pickT rfl hc16) rfl ?_
      refine LW.p rfl rfl ?_
      refine LW.gN (want_not rfl rfl rfl) rfl ?_
      refine LW.gN (want_not rfl rfl rfl) rfl ?_
      refine LW.gN (want_not rfl rfl rfl) rfl ?_
      refine LW.gN (want_not rfl rfl rfl) rfl ?_
      refine LW.gN (want_not rfl rfl rfl) rfl ?_
      refine LW.u (Pur.pickT rfl rfl) rfl ?_
      refine LW.p rfl rfl ?_
      refine LW.gN (want_not rfl rfl rfl) rfl ?_
      refine LW.gN (want_not rfl rfl rfl) rfl ?_
      refine LW.gN (want_not rfl rfl rfl) rfl ?_
      refine LW.gN (want_not rfl rfl rfl) rfl ?_
      refine LW.gN (want_not rfl rfl rfl) rfl ?_
      refine LW.fresh (l := [(2, .pointer (some ⟨g1, 0, none⟩)), (3, .pointer (some ⟨g3, 0, none⟩)), (69, .bool true), (74, undef)]) ⟨rfl, rfl, rfl, rfl, trivial⟩ (fun e => ?_)
      refine LW.u (Pur.pickT rfl rfl) rfl ?_
      refine LW.nil ?_
      replace h := Option.some.inj h
      subst h
      exact ⟨⟨rfl, rfl, rfl, trivial⟩, hS5.pick [0, 1] rfl rfl⟩
    replace h := bcF h hc16
    refine LW.gY (want_of rfl rfl hc16) ?_
    refine LW.u (Pur.fa fo75_7 rfl) rfl ?_
    refine LW.gY (want_of rfl rfl hc16) ?_
    refine LW.ldbN hS5 1 rfl ag73 rfl rfl rfl ?_
    refine LW.gY (want_of rfl rfl hc16) ?_
    refine LW.u (Pur.fa fo75_7 rfl) rfl ?_
    refine LW.gY (want_of rfl rfl hc16) ?_
    refine LW.ldbN hS5 0 rfl ag73 rfl rfl rfl ?_
    refine LW.gY (want_of rfl rfl hc16) ?_
    refine LW.u (Pur.ane eg73 rfl rfl (fun w => eq73 x0.spent x1.spent w)) rfl ?_
    refine LW.u (Pur.pickF rfl hc16) rfl ?_
    refine LW.p rfl rfl ?_
    rcases bcases (!decide (x0.spent = x1.spent)) with hc17 | hc17
    · replace h := bcT h hc17
      refine LW.gN (want_not rfl rfl hc17) rfl ?_
      refine LW.gN (want_not rfl rfl hc17) rfl ?_
      refine LW.gN (want_not rfl rfl hc17) rfl ?_
      refine LW.gN (want_not rfl rfl hc17) rfl ?_
      refine LW.gN (want_not rfl rfl hc17) rfl ?_
      refine LW.u (Pur.pickT rfl hc17) rfl ?_
      refine LW.p rfl rfl ?_
      refine LW.gN (want_not rfl rfl rfl) rfl ?_
      refine LW.gN (want_not rfl rfl rfl) rfl ?_
      refine LW.gN (want_not rfl rfl rfl) rfl ?_
      refine LW.gN (want_not rfl rfl rfl) rfl ?_
      refine LW.fresh (l := [(2, .pointer (some ⟨g1, 0, none⟩)), (3, .pointer (some ⟨g3, 0, none⟩)), (69, .bool true), (71, undef), (73, undef)]) ⟨rfl, rfl, rfl, rfl, rfl, trivial⟩ (fun e => ?_)
      refine LW.gN (want_not rfl rfl rfl) rfl ?_
      refine LW.u (Pur.pickT rfl rfl) rfl ?_
      refine LW.nil ?_
      replace h := Option.some.inj h
      subst h
      exact ⟨⟨rfl, rfl, rfl, trivial⟩, hS5.pick [0, 1] rfl rfl⟩
    replace h := bcF h hc17
    refine LW.gY (want_of rfl rfl hc17) ?_
    refine LW.u (Pur.fa fo75_8 rfl) rfl ?_
    refine LW.gY (want_of rfl rfl hc17) ?_
    refine LW.ldb hS5 1 rfl ag3 rfl rfl rfl ?_
    refine LW.gY (want_of rfl rfl hc17) ?_
    refine LW.u (Pur.fa fo75_8 rfl) rfl ?_
    refine LW.gY (want_of rfl rfl hc17) ?_
    refine LW.ldb hS5 0 rfl ag3 rfl rfl rfl ?_
    refine LW.gY (want_of rfl rfl hc17) ?_
    refine LW.p rfl rfl ?_
    refine LW.u (Pur.pickF rfl hc17) rfl ?_
    refine LW.p rfl rfl ?_
    rcases bcases (x0.press != x1.press) with hc18 | hc18
    · replace h := bcT h hc18
      refine LW.gN (want_not rfl rfl hc18) rfl ?_
      refine LW.gN (want_not rfl rfl hc18) rfl ?_
      refine LW.gN (want_not rfl rfl hc18) rfl ?_
      refine LW.fresh (l := [(2, .pointer (some ⟨g1, 0, none⟩)), (3, .pointer (some ⟨g3, 0, none⟩)), (69, .bool (x0.press != x1.press)), (71, undef), (72, undef)]) ⟨rfl, rfl, rfl, rfl, rfl, trivial⟩ (fun e => ?_)
      refine LW.gN (want_not rfl rfl hc18) rfl ?_
      refine LW.gN (want_not rfl rfl hc18) rfl ?_
      refine LW.u (Pur.pickT rfl hc18) rfl ?_
      refine LW.nil ?_
      replace h := Option.some.inj h
      subst h
      exact ⟨⟨rfl, rfl, rfl, trivial⟩, hS5.pick [0, 1] rfl rfl⟩
    replace h := bcF h hc18
    refine LW.gY (want_of rfl rfl hc18) ?_
    refine LW.u (Pur.fa fo75_9 rfl) rfl ?_
    refine LW.gY (want_of rfl rfl hc18) ?_
    refine LW.ldb hS5 1 rfl ag3 rfl rfl rfl ?_
    refine LW.gY (want_of rfl rfl hc18) ?_
    refine LW.u (Pur.fa fo75_9 rfl) rfl ?_
    refine LW.fresh (l := [(2, .pointer (some ⟨g1, 0, none⟩)), (3, .pointer (some ⟨g3, 0, none⟩)), (69, .bool (x0.press != x1.press)), (71, .int .i64 x0.lost), (72, .pointer (some ⟨g3, 0 + 15, none⟩))]) ⟨rfl, rfl, rfl, rfl, rfl, trivial⟩ (fun e => ?_)
    refine LW.gY (want_of rfl rfl hc18) ?_
    refine LW.ldb hS5 0 rfl ag3 rfl rfl rfl ?_
    refine LW.gY (want_of rfl rfl hc18) ?_
    refine LW.p rfl rfl ?_
    refine LW.u (Pur.pickF rfl hc18) rfl ?_
    refine LW.nil ?_
    replace h := Option.some.inj h
    subst h
    exact ⟨⟨rfl, rfl, rfl, trivial⟩, hS5.pick [0, 1] rfl rfl⟩
  intro e w19 hM
  obtain ⟨hE, hS6⟩ := hM
  obtain ⟨e, rfl⟩ := hE.out
  have h := h6
  show CW _ _ _ _ _ _
  refine CW.cond rfl (fun hc20 => ?_) (fun hc20 => ?_)
  · replace h := bcT h hc20
    refine CW.seq ?_
    refine CW.region ?_
    refine LW.p rfl rfl ?_
    refine LW.nil ?_
    show CW _ _ _ _ _ _
    refine CW.ret ?_
    cases h
    exact And.intro trivial ⟨_, Res.one (resOne.t rfl), rfl, hS6.pick [] rfl rfl⟩
  replace h := bcF h hc20
  refine CW.skip ?_
  show CW _ _ _ _ _ _
  refine CW.seq ?_
  refine CW.seq ?_
  refine CW.region ?_
  refine LW.p rfl rfl ?_
  refine LW.nil ?_
  show CW _ _ _ _ _ _
  refine CW.block ?_
  obtain ⟨o43, ho43, h44⟩ := obind h
  refine CW.mono (CW.iter (σ := Int) (ρ := Int ⊕ Bool) (fun s21 e wb => En e [(2, .pointer (some ⟨g1, 0, none⟩)), (3, .pointer (some ⟨g3, 0, none⟩)), (5, .int .i64 s21)] ∧ St w0 [] wb [bx g3 75 [.slice a1_0 x1.label.levels.length c1_0, .slice a1_1 x1.own.length c1_1, .slice a1_2 x1.tree.length c1_2, .slice a1_3 x1.heap.arena.length c1_3, .int .i64 x1.heap.gc.phase, .int .i64 x1.heap.gc.pos, .int .i64 x1.heap.gc.round, .slice a1_7 x1.heap.gc.grey.length c1_7, .slice a1_8 x1.taps.length c1_8, .int .i64 x1.next, .int .i64 x1.want, .int .i64 x1.spent.pages, .int .i64 x1.spent.rent, .int .i64 x1.spent.cpu, .int .i64 x1.press, .int .i64 x1.lost], bx g1 75 [.slice a0_0 x0.label.levels.length c0_0, .slice a0_1 x0.own.length c0_1, .slice a0_2 x0.tree.length c0_2, .slice a0_3 x0.heap.arena.length c0_3, .int .i64 x0.heap.gc.phase, .int .i64 x0.heap.gc.pos, .int .i64 x0.heap.gc.round, .slice a0_7 x0.heap.gc.grey.length c0_7, .slice a0_8 x0.taps.length c0_8, .int .i64 x0.next, .int .i64 x0.want, .int .i64 x0.spent.pages, .int .i64 x0.spent.rent, .int .i64 x0.spent.cpu, .int .i64 x0.press, .int .i64 x0.lost]]) (fun o x e wb => match o with | .inl s21 => x = .exit 0 ∧ En e [(2, .pointer (some ⟨g1, 0, none⟩)), (3, .pointer (some ⟨g3, 0, none⟩))] ∧ St w0 [] wb [bx g3 75 [.slice a1_0 x1.label.levels.length c1_0, .slice a1_1 x1.own.length c1_1, .slice a1_2 x1.tree.length c1_2, .slice a1_3 x1.heap.arena.length c1_3, .int .i64 x1.heap.gc.phase, .int .i64 x1.heap.gc.pos, .int .i64 x1.heap.gc.round, .slice a1_7 x1.heap.gc.grey.length c1_7, .slice a1_8 x1.taps.length c1_8, .int .i64 x1.next, .int .i64 x1.want, .int .i64 x1.spent.pages, .int .i64 x1.spent.rent, .int .i64 x1.spent.cpu, .int .i64 x1.press, .int .i64 x1.lost], bx g1 75 [.slice a0_0 x0.label.levels.length c0_0, .slice a0_1 x0.own.length c0_1, .slice a0_2 x0.tree.length c0_2, .slice a0_3 x0.heap.arena.length c0_3, .int .i64 x0.heap.gc.phase, .int .i64 x0.heap.gc.pos, .int .i64 x0.heap.gc.round, .slice a0_7 x0.heap.gc.grey.length c0_7, .slice a0_8 x0.taps.length c0_8, .int .i64 x0.next, .int .i64 x0.want, .int .i64 x0.spent.pages, .int .i64 x0.spent.rent, .int .i64 x0.spent.cpu, .int .i64 x0.press, .int .i64 x0.lost]] | .inr r => x = .ret ∧ ∃ u, u = r ∧ ∃ v, Res Try.prog Try.f63.results e wb v ∧ v = .bool u ∧ St w0 [] wb []) ?_ N 0 _ _ _ ⟨⟨rfl, rfl, rfl, trivial⟩, hS6.pick [0, 1] rfl rfl⟩ ho43) ?_
  · intro s21 e w22 o hM h
    obtain ⟨hE, hS7⟩ := hM
    obtain ⟨e, rfl⟩ := hE.out
    refine CW.seq ?_
    refine CW.seq ?_
    refine CW.region ?_
    refine LW.p rfl rfl ?_
    refine LW.u (Pur.fa fo75_2 rfl) rfl ?_
    refine LW.ldb hS7 1 rfl ag67 rfl rfl rfl ?_
    refine LW.u (Pur.len Try.underlying67 rfl) rfl ?_
    refine LW.p rfl rfl ?_
    refine LW.nil ?_
    show CW _ _ _ _ _ _
    refine CW.cond rfl (fun hc23 => ?_) (fun hc23 => ?_)
    · replace h := bcT h hc23
      refine CW.skip ?_
      show CW _ _ _ _ _ _
      refine CW.seq ?_
      refine CW.block ?_
      refine CW.seq ?_
      refine CW.draw (by kernel_rfl) ?_
      have hS8 := hS7.drew
      refine AW.u (i := 0) rfl (by kernel_rfl) rfl rfl (Pur.fa fo75_2 rfl) ?_
      refine AW.take (i := 1) rfl (by kernel_rfl) rfl rfl (Ldr.box (bt := 75) (fr := (0, 0)) (cs := [.slice a0_0 x0.label.levels.length c0_0, .slice a0_1 x0.own.length c0_1, .slice a0_2 x0.tree.length c0_2, .slice a0_3 x0.heap.arena.length c0_3, .int .i64 x0.heap.gc.phase, .int .i64 x0.heap.gc.pos, .int .i64 x0.heap.gc.round, .slice a0_7 x0.heap.gc.grey.length c0_7, .slice a0_8 x0.taps.length c0_8, .int .i64 x0.next, .int .i64 x0.want, .int .i64 x0.spent.pages, .int .i64 x0.spent.rent, .int .i64 x0.spent.cpu, .int .i64 x0.press, .int .i64 x0.lost]) ag67 rfl rfl) (St.cell (h := hS8) (i := 1) rfl) ?_
      refine AW.u (i := 2) rfl (by kernel_rfl) rfl rfl (Pur.p rfl) ?_
      replace h := obind h
      obtain ⟨y24, hy24, h⟩ := h
      obtain ⟨b27, o28, cs29, hae, hb32, hp25, hq26, hd30, hk31⟩ := hr0_2.idx hy24
      subst hae
      obtain rfl := hd30
      refine AW.u (i := 3) rfl (by kernel_rfl) rfl rfl (Pur.ix Try.underlying67 sz156 rfl rfl hp25 hq26) ?_
      refine AW.take (i := 4) rfl (by kernel_rfl) rfl rfl (Ldr.oldN w0 ag156 rfl rfl (fun j u hu => hk31 j u hu)) (hS8.same _ hb32.1 hb32.2) ?_
      refine AW.u (i := 5) rfl (by kernel_rfl) rfl rfl (Pur.fa fo75_2 rfl) ?_
      refine AW.take (i := 6) rfl (by kernel_rfl) rfl rfl (Ldr.box (bt := 75) (fr := (0, 0)) (cs := [.slice a1_0 x1.label.levels.length c1_0, .slice a1_1 x1.own.length c1_1, .slice a1_2 x1.tree.length c1_2, .slice a1_3 x1.heap.arena.length c1_3, .int .i64 x1.heap.gc.phase, .int .i64 x1.heap.gc.pos, .int .i64 x1.heap.gc.round, .slice a1_7 x1.heap.gc.grey.length c1_7, .slice a1_8 x1.taps.length c1_8, .int .i64 x1.next, .int .i64 x1.want, .int .i64 x1.spent.pages, .int .i64 x1.spent.rent, .int .i64 x1.spent.cpu, .int .i64 x1.press, .int .i64 x1.lost]) ag67 rfl rfl) (St.cell (h := hS8) (i := 0) rfl) ?_
      refine AW.u (i := 7) rfl (by kernel_rfl) rfl rfl (Pur.p rfl) ?_
      replace h := obind h
      obtain ⟨y33, hy33, h⟩ := h
      obtain ⟨b36, o37, cs38, hae, hb41, hp34, hq35, hd39, hk40⟩ := hr1_2.idx hy33
      subst hae
      obtain rfl := hd39
      refine AW.u (i := 8) rfl (by kernel_rfl) rfl rfl (Pur.ix Try.underlying67 sz156 rfl rfl hp34 hq35) ?_
      refine AW.take (i := 9) rfl (by kernel_rfl) rfl rfl (Ldr.oldN w0 ag156 rfl rfl (fun j u hu => hk40 j u hu)) (hS8.same _ hb41.1 hb41.2) ?_
      refine AW.u (i := 10) rfl (by kernel_rfl) rfl rfl (Pur.ane eg156 rfl rfl (fun w => eq156 y24 y33 w)) ?_
      refine AW.done (by kernel_rfl) ?_
      show CW _ _ _ _ _ _
      refine CW.cond rfl (fun hc42 => ?_) (fun hc42 => ?_)
      · replace h := bcT h hc42
        refine CW.seq ?_
        refine CW.region ?_
        refine LW.p rfl rfl ?_
        refine LW.nil ?_
        show CW _ _ _ _ _ _
        refine CW.ret ?_
        replace h := Option.some.inj h
        subst h
        exact ⟨trivial, rfl, _, rfl, ⟨_, Res.one (resOne.t rfl), rfl, hS8.pick [] rfl rfl⟩⟩
      replace h := bcF h hc42
      refine CW.skip ?_
      show CW _ _ _ _ _ _
      refine CW.region ?_
      iterate 3 refine LW.p rfl rfl ?_
      refine LW.nil ?_
      replace h := Option.some.inj h
      subst h
      exact ⟨rfl, ⟨⟨rfl, rfl, rfl, trivial⟩, hS8.pick [0, 1] rfl rfl⟩⟩
    replace h := bcF h hc23
    refine CW.exit ?_
    replace h := Option.some.inj h
    subst h
    exact ⟨trivial, rfl, ⟨⟨rfl, rfl, trivial⟩, hS7.pick [0, 1] rfl rfl⟩⟩
  intro x e w45 hM
  rcases o43 with o43 | r86
  · obtain ⟨rfl, hM⟩ := hM
    obtain ⟨hE, hS9⟩ := hM
    obtain ⟨e, rfl⟩ := hE.out
    have h := h44
    show CW _ _ _ _ _ _
    refine CW.seq ?_
    refine CW.seq ?_
    refine CW.region ?_
    refine LW.p rfl rfl ?_
    refine LW.nil ?_
    show CW _ _ _ _ _ _
    refine CW.block ?_
    obtain ⟨o68, ho68, h69⟩ := obind h
    refine CW.mono (CW.iter (σ := Int) (ρ := Int ⊕ Bool) (fun s46 e wb => En e [(2, .pointer (some ⟨g1, 0, none⟩)), (3, .pointer (some ⟨g3, 0, none⟩)), (6, .int .i64 s46)] ∧ St w0 [] wb [bx g3 75 [.slice a1_0 x1.label.levels.length c1_0, .slice a1_1 x1.own.length c1_1, .slice a1_2 x1.tree.length c1_2, .slice a1_3 x1.heap.arena.length c1_3, .int .i64 x1.heap.gc.phase, .int .i64 x1.heap.gc.pos, .int .i64 x1.heap.gc.round, .slice a1_7 x1.heap.gc.grey.length c1_7, .slice a1_8 x1.taps.length c1_8, .int .i64 x1.next, .int .i64 x1.want, .int .i64 x1.spent.pages, .int .i64 x1.spent.rent, .int .i64 x1.spent.cpu, .int .i64 x1.press, .int .i64 x1.lost], bx g1 75 [.slice a0_0 x0.label.levels.length c0_0, .slice a0_1 x0.own.length c0_1, .slice a0_2 x0.tree.length c0_2, .slice a0_3 x0.heap.arena.length c0_3, .int .i64 x0.heap.gc.phase, .int .i64 x0.heap.gc.pos, .int .i64 x0.heap.gc.round, .slice a0_7 x0.heap.gc.grey.length c0_7, .slice a0_8 x0.taps.length c0_8, .int .i64 x0.next, .int .i64 x0.want, .int .i64 x0.spent.pages, .int .i64 x0.spent.rent, .int .i64 x0.spent.cpu, .int .i64 x0.press, .int .i64 x0.lost]]) (fun o x e wb => match o with | .inl s46 => x = .exit 2 ∧ En e [(2, .pointer (some ⟨g1, 0, none⟩)), (3, .pointer (some ⟨g3, 0, none⟩))] ∧ St w0 [] wb [bx g3 75 [.slice a1_0 x1.label.levels.length c1_0, .slice a1_1 x1.own.length c1_1, .slice a1_2 x1.tree.length c1_2, .slice a1_3 x1.heap.arena.length c1_3, .int .i64 x1.heap.gc.phase, .int .i64 x1.heap.gc.pos, .int .i64 x1.heap.gc.round, .slice a1_7 x1.heap.gc.grey.length c1_7, .slice a1_8 x1.taps.length c1_8, .int .i64 x1.next, .int .i64 x1.want, .int .i64 x1.spent.pages, .int .i64 x1.spent.rent, .int .i64 x1.spent.cpu, .int .i64 x1.press, .int .i64 x1.lost], bx g1 75 [.slice a0_0 x0.label.levels.length c0_0, .slice a0_1 x0.own.length c0_1, .slice a0_2 x0.tree.length c0_2, .slice a0_3 x0.heap.arena.length c0_3, .int .i64 x0.heap.gc.phase, .int .i64 x0.heap.gc.pos, .int .i64 x0.heap.gc.round, .slice a0_7 x0.heap.gc.grey.length c0_7, .slice a0_8 x0.taps.length c0_8, .int .i64 x0.next, .int .i64 x0.want, .int .i64 x0.spent.pages, .int .i64 x0.spent.rent, .int .i64 x0.spent.cpu, .int .i64 x0.press, .int .i64 x0.lost]] | .inr r => x = .ret ∧ ∃ u, u = r ∧ ∃ v, Res Try.prog Try.f63.results e wb v ∧ v = .bool u ∧ St w0 [] wb []) ?_ N 0 _ _ _ ⟨⟨rfl, rfl, rfl, trivial⟩, hS9.pick [0, 1] rfl rfl⟩ ho68) ?_
    · intro s46 e w47 o hM h
      obtain ⟨hE, hS10⟩ := hM
      obtain ⟨e, rfl⟩ := hE.out
      refine CW.seq ?_
      refine CW.seq ?_
      refine CW.region ?_
      refine LW.p rfl rfl ?_
      refine LW.u (Pur.fa fo75_4 rfl) rfl ?_
      refine LW.ldb hS10 1 rfl ag72 rfl rfl rfl ?_
      refine LW.u (Pur.len Try.underlying72 rfl) rfl ?_
      refine LW.p rfl rfl ?_
      refine LW.nil ?_
      show CW _ _ _ _ _ _
      refine CW.cond rfl (fun hc48 => ?_) (fun hc48 => ?_)
      · replace h := bcT h hc48
        refine CW.skip ?_
        show CW _ _ _ _ _ _
        refine CW.seq ?_
        refine CW.block ?_
        refine CW.seq ?_
        refine CW.draw (by kernel_rfl) ?_
        have hS11 := hS10.drew
        refine AW.u (i := 0) rfl (by kernel_rfl) rfl rfl (Pur.fa fo75_4 rfl) ?_
        refine AW.take (i := 1) rfl (by kernel_rfl) rfl rfl (Ldr.box (bt := 75) (fr := (0, 0)) (cs := [.slice a0_0 x0.label.levels.length c0_0, .slice a0_1 x0.own.length c0_1, .slice a0_2 x0.tree.length c0_2, .slice a0_3 x0.heap.arena.length c0_3, .int .i64 x0.heap.gc.phase, .int .i64 x0.heap.gc.pos, .int .i64 x0.heap.gc.round, .slice a0_7 x0.heap.gc.grey.length c0_7, .slice a0_8 x0.taps.length c0_8, .int .i64 x0.next, .int .i64 x0.want, .int .i64 x0.spent.pages, .int .i64 x0.spent.rent, .int .i64 x0.spent.cpu, .int .i64 x0.press, .int .i64 x0.lost]) ag72 rfl rfl) (St.cell (h := hS11) (i := 1) rfl) ?_
        refine AW.u (i := 2) rfl (by kernel_rfl) rfl rfl (Pur.p rfl) ?_
        replace h := obind h
        obtain ⟨y49, hy49, h⟩ := h
        obtain ⟨b52, o53, cs54, hae, hb57, hp50, hq51, hd55, hk56⟩ := hr0_8.idx hy49
        subst hae
        obtain rfl := hd55
        refine AW.u (i := 3) rfl (by kernel_rfl) rfl rfl (Pur.ix Try.underlying72 sz158 rfl rfl hp50 hq51) ?_
        refine AW.take (i := 4) rfl (by kernel_rfl) rfl rfl (Ldr.oldN w0 ag158 rfl rfl (fun j u hu => hk56 j u hu)) (hS11.same _ hb57.1 hb57.2) ?_
        refine AW.u (i := 5) rfl (by kernel_rfl) rfl rfl (Pur.fa fo75_4 rfl) ?_
        refine AW.take (i := 6) rfl (by kernel_rfl) rfl rfl (Ldr.box (bt := 75) (fr := (0, 0)) (cs := [.slice a1_0 x1.label.levels.length c1_0, .slice a1_1 x1.own.length c1_1, .slice a1_2 x1.tree.length c1_2, .slice a1_3 x1.heap.arena.length c1_3, .int .i64 x1.heap.gc.phase, .int .i64 x1.heap.gc.pos, .int .i64 x1.heap.gc.round, .slice a1_7 x1.heap.gc.grey.length c1_7, .slice a1_8 x1.taps.length c1_8, .int .i64 x1.next, .int .i64 x1.want, .int .i64 x1.spent.pages, .int .i64 x1.spent.rent, .int .i64 x1.spent.cpu, .int .i64 x1.press, .int .i64 x1.lost]) ag72 rfl rfl) (St.cell (h := hS11) (i := 0) rfl) ?_
        refine AW.u (i := 7) rfl (by kernel_rfl) rfl rfl (Pur.p rfl) ?_
        replace h := obind h
        obtain ⟨y58, hy58, h⟩ := h
        obtain ⟨b61, o62, cs63, hae, hb66, hp59, hq60, hd64, hk65⟩ := hr1_8.idx hy58
        subst hae
        obtain rfl := hd64
        refine AW.u (i := 8) rfl (by kernel_rfl) rfl rfl (Pur.ix Try.underlying72 sz158 rfl rfl hp59 hq60) ?_
        refine AW.take (i := 9) rfl (by kernel_rfl) rfl rfl (Ldr.oldN w0 ag158 rfl rfl (fun j u hu => hk65 j u hu)) (hS11.same _ hb66.1 hb66.2) ?_
        refine AW.u (i := 10) rfl (by kernel_rfl) rfl rfl (Pur.ane eg158 rfl rfl (fun w => eq158 y49 y58 w)) ?_
        refine AW.done (by kernel_rfl) ?_
        show CW _ _ _ _ _ _
        refine CW.cond rfl (fun hc67 => ?_) (fun hc67 => ?_)
        · replace h := bcT h hc67
          refine CW.seq ?_
          refine CW.region ?_
          refine LW.p rfl rfl ?_
          refine LW.nil ?_
          show CW _ _ _ _ _ _
          refine CW.ret ?_
          replace h := Option.some.inj h
          subst h
          exact ⟨trivial, rfl, _, rfl, ⟨_, Res.one (resOne.t rfl), rfl, hS11.pick [] rfl rfl⟩⟩
        replace h := bcF h hc67
        refine CW.skip ?_
        show CW _ _ _ _ _ _
        refine CW.region ?_
        iterate 3 refine LW.p rfl rfl ?_
        refine LW.nil ?_
        replace h := Option.some.inj h
        subst h
        exact ⟨rfl, ⟨⟨rfl, rfl, rfl, trivial⟩, hS11.pick [0, 1] rfl rfl⟩⟩
      replace h := bcF h hc48
      refine CW.exit ?_
      replace h := Option.some.inj h
      subst h
      exact ⟨trivial, rfl, ⟨⟨rfl, rfl, trivial⟩, hS10.pick [0, 1] rfl rfl⟩⟩
    intro x e w70 hM
    rcases o68 with o68 | r85
    · obtain ⟨rfl, hM⟩ := hM
      obtain ⟨hE, hS12⟩ := hM
      obtain ⟨e, rfl⟩ := hE.out
      have h := h69
      show CW _ _ _ _ _ _
      refine CW.seq ?_
      refine CW.region ?_
      refine LW.u (Pur.fa fo75_3 rfl) rfl ?_
      refine LW.u (Pur.fa fo71_1 rfl) rfl ?_
      refine LW.ldbN hS12 1 rfl ag69 rfl rfl rfl ?_
      refine LW.alloc zv69 hS12 rfl ?_
      intro g71 w72 hS13 hf
      refine LW.stb hS13 0 rfl ag69 rfl rfl rfl rfl rfl ?_
      intro w73 hS14 hf
      refine LW.nil ?_
      show CW _ _ _ _ _ _
      refine CW.seq ?_
      refine CW.region ?_
      refine LW.u (Pur.fa fo75_3 rfl) rfl ?_
      refine LW.u (Pur.fa fo71_1 rfl) rfl ?_
      refine LW.ldbN hS14 1 rfl ag69 rfl rfl rfl ?_
      refine LW.alloc zv69 hS14 rfl ?_
      intro g74 w75 hS15 hf
      refine LW.stb hS15 0 rfl ag69 rfl rfl rfl rfl rfl ?_
      intro w76 hS16 hf
      refine LW.nil ?_
      show CW _ _ _ _ _ _
      refine CW.fresh (l := [(2, .pointer (some ⟨g1, 0, none⟩)), (3, .pointer (some ⟨g3, 0, none⟩)), (7, .pointer (some ⟨g71, 0, none⟩)), (8, .pointer (some ⟨g74, 0, none⟩))]) ⟨rfl, rfl, rfl, rfl, trivial⟩ (fun e => ?_)
      refine CW.seq ?_
      refine CW.region ?_
      refine LW.u (Pur.fa fo75_3 rfl) rfl ?_
      refine LW.u (Pur.fa fo71_0 rfl) rfl ?_
      refine LW.ldb hS16 3 rfl ag68 rfl rfl rfl ?_
      refine LW.u (Pur.fa fo75_3 rfl) rfl ?_
      refine LW.u (Pur.fa fo71_0 rfl) rfl ?_
      refine LW.ldb hS16 2 rfl ag68 rfl rfl rfl ?_
      replace h := obind h
      obtain ⟨y77, hy77, h⟩ := h
      have q := W_s_SameArena (w0 := w76) hy77 rfl (hS16.rB hr0_3) rfl (hS16.rB hr1_3)
      refine LW.call pl125 rfl rfl ?_
      refine Ret.mono q ?_
      rintro _ w78 ⟨rfl, hs⟩
      have hS17 := hS16.add hs
      refine LW.p rfl rfl ?_
      rcases bcases y77 with hc79 | hc79
      · replace h := bcT h hc79
        refine LW.gY (want_of rfl rfl hc79) ?_
        refine LW.u (Pur.fa fo69_0 rfl) rfl ?_
        refine LW.gY (want_of rfl rfl hc79) ?_
        refine LW.ldb hS17 1 rfl ag3 rfl rfl rfl ?_
        refine LW.gY (want_of rfl rfl hc79) ?_
        refine LW.u (Pur.fa fo69_0 rfl) rfl ?_
        refine LW.gY (want_of rfl rfl hc79) ?_
        refine LW.ldb hS17 0 rfl ag3 rfl rfl rfl ?_
        refine LW.gY (want_of rfl rfl hc79) ?_
        refine LW.p rfl rfl ?_
        refine LW.u (Pur.pickT rfl hc79) rfl ?_
        refine LW.p rfl rfl ?_
        rcases bcases (x0.heap.gc.phase == x1.heap.gc.phase) with hc80 | hc80
        · replace h := bcT h hc80
          refine LW.gY (want_of rfl rfl hc80) ?_
          refine LW.u (Pur.fa fo69_1 rfl) rfl ?_
          refine LW.gY (want_of rfl rfl hc80) ?_
          refine LW.ldb hS17 1 rfl ag3 rfl rfl rfl ?_
          refine LW.gY (want_of rfl rfl hc80) ?_
          refine LW.u (Pur.fa fo69_1 rfl) rfl ?_
          refine LW.gY (want_of rfl rfl hc80) ?_
          refine LW.ldb hS17 0 rfl ag3 rfl rfl rfl ?_
          refine LW.gY (want_of rfl rfl hc80) ?_
          refine LW.p rfl rfl ?_
          refine LW.u (Pur.pickT rfl hc80) rfl ?_
          refine LW.p rfl rfl ?_
          rcases bcases (x0.heap.gc.pos == x1.heap.gc.pos) with hc81 | hc81
          · replace h := bcT h hc81
            refine LW.fresh (l := [(7, .pointer (some ⟨g71, 0, none⟩)), (8, .pointer (some ⟨g74, 0, none⟩)), (139, .bool (x0.heap.gc.pos == x1.heap.gc.pos))]) ⟨rfl, rfl, rfl, trivial⟩ (fun e => ?_)
            refine LW.gY (want_of rfl rfl hc81) ?_
            refine LW.u (Pur.fa fo69_2 rfl) rfl ?_
            refine LW.gY (want_of rfl rfl hc81) ?_
            refine LW.ldb hS17 1 rfl ag3 rfl rfl rfl ?_
            refine LW.gY (want_of rfl rfl hc81) ?_
            refine LW.u (Pur.fa fo69_2 rfl) rfl ?_
            refine LW.gY (want_of rfl rfl hc81) ?_
            refine LW.ldb hS17 0 rfl ag3 rfl rfl rfl ?_
            refine LW.gY (want_of rfl rfl hc81) ?_
            refine LW.p rfl rfl ?_
            refine LW.u (Pur.pickT rfl hc81) rfl ?_
            refine LW.p rfl rfl ?_
            rcases bcases (x0.heap.gc.round == x1.heap.gc.round) with hc82 | hc82
            · replace h := bcT h hc82
              refine LW.gY (want_of rfl rfl hc82) ?_
              refine LW.u (Pur.fa fo69_3 rfl) rfl ?_
              refine LW.gY (want_of rfl rfl hc82) ?_
              refine LW.ldb hS17 1 rfl ag24 rfl rfl rfl ?_
              refine LW.gY (want_of rfl rfl hc82) ?_
              refine LW.u (Pur.fa fo69_3 rfl) rfl ?_
              refine LW.gY (want_of rfl rfl hc82) ?_
              refine LW.ldb hS17 0 rfl ag24 rfl rfl rfl ?_
              replace h := obind h
              obtain ⟨y83, hy83, h⟩ := h
              have q := W_s_l13Ints (w0 := w78) hy83 rfl (hS17.rB hr0_7) rfl (hS17.rB hr1_7)
              refine LW.gY (want_of rfl rfl hc82) ?_
              refine LW.call pl124 rfl rfl ?_
              refine Ret.mono q ?_
              rintro _ w84 ⟨rfl, hs⟩
              have hS18 := hS17.add hs
              refine LW.u (Pur.pickT rfl hc82) rfl ?_
              refine LW.p rfl rfl ?_
              refine LW.nil ?_
              show CW _ _ _ _ _ _
              refine CW.fresh (l := [(4, .bool y83)]) ⟨rfl, trivial⟩ (fun e => ?_)
              refine CW.ret ?_
              cases h
              exact And.intro trivial ⟨_, Res.one (resOne.t rfl), rfl, hS18.pick [] rfl rfl⟩
            replace h := bcF h hc82
            refine LW.gN (want_not rfl rfl hc82) rfl ?_
            refine LW.gN (want_not rfl rfl hc82) rfl ?_
            refine LW.gN (want_not rfl rfl hc82) rfl ?_
            refine LW.gN (want_not rfl rfl hc82) rfl ?_
            refine LW.gN (want_not rfl rfl hc82) rfl ?_
            refine LW.u (Pur.pickF rfl hc82) rfl ?_
            refine LW.p rfl rfl ?_
            refine LW.nil ?_
            show CW _ _ _ _ _ _
            refine CW.fresh (l := [(4, .bool false)]) ⟨rfl, trivial⟩ (fun e => ?_)
            refine CW.ret ?_
            cases h
            exact And.intro trivial ⟨_, Res.one (resOne.t rfl), rfl, hS17.pick [] rfl rfl⟩
          replace h := bcF h hc81
          refine LW.fresh (l := [(7, .pointer (some ⟨g71, 0, none⟩)), (8, .pointer (some ⟨g74, 0, none⟩)), (139, .bool (x0.heap.gc.pos == x1.heap.gc.pos))]) ⟨rfl, rfl, rfl, trivial⟩ (fun e => ?_)
          refine LW.gN (want_not rfl rfl hc81) rfl ?_
          refine LW.gN (want_not rfl rfl hc81) rfl ?_
          refine LW.gN (want_not rfl rfl hc81) rfl ?_
          refine LW.gN (want_not rfl rfl hc81) rfl ?_
          refine LW.gN (want_not rfl rfl hc81) rfl ?_
          refine LW.u (Pur.pickF rfl hc81) rfl ?_
          refine LW.p rfl rfl ?_
          refine LW.gN (want_not rfl rfl rfl) rfl ?_
          refine LW.gN (want_not rfl rfl rfl) rfl ?_
          refine LW.gN (want_not rfl rfl rfl) rfl ?_
          refine LW.gN (want_not rfl rfl rfl) rfl ?_
          refine LW.gN (want_not rfl rfl rfl) rfl ?_
          refine LW.u (Pur.pickF rfl rfl) rfl ?_
          refine LW.p rfl rfl ?_
          refine LW.nil ?_
          show CW _ _ _ _ _ _
          refine CW.fresh (l := [(4, .bool false)]) ⟨rfl, trivial⟩ (fun e => ?_)
          refine CW.ret ?_
          cases h
          exact And.intro trivial ⟨_, Res.one (resOne.t rfl), rfl, hS17.pick [] rfl rfl⟩
        replace h := bcF h hc80
        refine LW.gN (want_not rfl rfl hc80) rfl ?_
        refine LW.gN (want_not rfl rfl hc80) rfl ?_
        refine LW.gN (want_not rfl rfl hc80) rfl ?_
        refine LW.gN (want_not rfl rfl hc80) rfl ?_
        refine LW.gN (want_not rfl rfl hc80) rfl ?_
        refine LW.u (Pur.pickF rfl hc80) rfl ?_
        refine LW.p rfl rfl ?_
        refine LW.gN (want_not rfl rfl rfl) rfl ?_
        refine LW.fresh (l := [(7, .pointer (some ⟨g71, 0, none⟩)), (8, .pointer (some ⟨g74, 0, none⟩)), (139, .bool false), (140, undef)]) ⟨rfl, rfl, rfl, rfl, trivial⟩ (fun e => ?_)
        refine LW.gN (want_not rfl rfl rfl) rfl ?_
        refine LW.gN (want_not rfl rfl rfl) rfl ?_
        refine LW.gN (want_not rfl rfl rfl) rfl ?_
        refine LW.gN (want_not rfl rfl rfl) rfl ?_
        refine LW.u (Pur.pickF rfl rfl) rfl ?_
        refine LW.p rfl rfl ?_
        refine LW.gN (want_not rfl rfl rfl) rfl ?_
        refine LW.gN (want_not rfl rfl rfl) rfl ?_
        refine LW.gN (want_not rfl rfl rfl) rfl ?_
        refine LW.gN (want_not rfl rfl rfl) rfl ?_
        refine LW.gN (want_not rfl rfl rfl) rfl ?_
        refine LW.u (Pur.pickF rfl rfl) rfl ?_
        refine LW.p rfl rfl ?_
        refine LW.nil ?_
        show CW _ _ _ _ _ _
        refine CW.fresh (l := [(4, .bool false)]) ⟨rfl, trivial⟩ (fun e => ?_)
        refine CW.ret ?_
        cases h
        exact And.intro trivial ⟨_, Res.one (resOne.t rfl), rfl, hS17.pick [] rfl rfl⟩
      replace h := bcF h hc79
      refine LW.gN (want_not rfl rfl hc79) rfl ?_
      refine LW.gN (want_not rfl rfl hc79) rfl ?_
      refine LW.gN (want_not rfl rfl hc79) rfl ?_
      refine LW.gN (want_not rfl rfl hc79) rfl ?_
      refine LW.gN (want_not rfl rfl hc79) rfl ?_
      refine LW.u (Pur.pickF rfl hc79) rfl ?_
      refine LW.p rfl rfl ?_
      refine LW.gN (want_not rfl rfl rfl) rfl ?_
      refine LW.gN (want_not rfl rfl rfl) rfl ?_
      refine LW.gN (want_not rfl rfl rfl) rfl ?_
      refine LW.gN (want_not rfl rfl rfl) rfl ?_
      refine LW.gN (want_not rfl rfl rfl) rfl ?_
      refine LW.u (Pur.pickF rfl rfl) rfl ?_
      refine LW.p rfl rfl ?_
      refine LW.gN (want_not rfl rfl rfl) rfl ?_
      refine LW.gN (want_not rfl rfl rfl) rfl ?_
      refine LW.fresh (l := [(7, .pointer (some ⟨g71, 0, none⟩)), (8, .pointer (some ⟨g74, 0, none⟩)), (139, .bool false), (141, undef)]) ⟨rfl, rfl, rfl, rfl, trivial⟩ (fun e => ?_)
      refine LW.gN (want_not rfl rfl rfl) rfl ?_
      refine LW.gN (want_not rfl rfl rfl) rfl ?_
      refine LW.gN (want_not rfl rfl rfl) rfl ?_
      refine LW.u (Pur.pickF rfl rfl) rfl ?_
      refine LW.p rfl rfl ?_
      refine LW.gN (want_not rfl rfl rfl) rfl ?_
      refine LW.gN (want_not rfl rfl rfl) rfl ?_
      refine LW.gN (want_not rfl rfl rfl) rfl ?_
      refine LW.gN (want_not rfl rfl rfl) rfl ?_
      refine LW.gN (want_not rfl rfl rfl) rfl ?_
      refine LW.u (Pur.pickF rfl rfl) rfl ?_
      refine LW.p rfl rfl ?_
      refine LW.nil ?_
      show CW _ _ _ _ _ _
      refine CW.ret ?_
      cases h
      exact And.intro trivial ⟨_, Res.one (resOne.t rfl), rfl, hS17.pick [] rfl rfl⟩
    obtain ⟨rfl, u, rfl, hM⟩ := hM
    cases h69
    exact And.intro trivial hM
  obtain ⟨rfl, u, rfl, hM⟩ := hM
  cases h44
  exact And.intro trivial hM

theorem W_s_SameWorld {w0 : World} {N : Nat} {x0 : DWorld} {x1 : DWorld} {r : Bool} (h : F_s_SameWorld N x0 x1 = some r) {a0_1 : Option Addr} {n0_1 c0_1 : Nat} (hn0_1 : n0_1 = x0.parts.length) (hr0_1 : rdS (Bor w0 []) w0 a0_1 c0_1 x0.parts) {a1_1 : Option Addr} {n1_1 c1_1 : Nat} (hn1_1 : n1_1 = x1.parts.length) (hr1_1 : rdS (Bor w0 []) w0 a1_1 c1_1 x1.parts) :
    Ret Try.prog 26 #[.agg #[.int .i64 x0.now, .slice a0_1 n0_1 c0_1], .agg #[.int .i64 x1.now, .slice a1_1 n1_1 c1_1]] w0 (fun v w => v = .bool r ∧ St w0 [] w []) := by
  subst hn0_1
  subst hn1_1
  unfold F_s_SameWorld at h
  refine Ret.of Try.func26 rfl rfl rfl ?_
  have hS1 := St.start w0
  refine CW.seq ?_
  refine CW.region ?_
  refine LW.box (cs := [.int .i64 x0.now, .slice a0_1 x0.parts.length c0_1]) rfl hS1 rfl ?_
  intro g1 w2 hS2 hf
  refine LW.box (cs := [.int .i64 x1.now, .slice a1_1 x1.parts.length c1_1]) rfl hS2 rfl ?_
  intro g3 w4 hS3 hf
  refine LW.p rfl rfl ?_
  refine LW.nil ?_
  show CW _ _ _ _ _ _
  refine CW.seq ?_
  refine CW.seq ?_
  obtain ⟨j5, hj5, h6⟩ := obind h
  refine CW.cut (fun e wb => En e [(2, .pointer (some ⟨g1, 0, none⟩)), (3, .pointer (some ⟨g3, 0, none⟩)), (19, .bool j5)] ∧ St w0 [] wb [bx g3 51 [.int .i64 x1.now, .slice a1_1 x1.parts.length c1_1], bx g1 51 [.int .i64 x0.now, .slice a0_1 x0.parts.length c0_1]]) ?_ ?_
  · have h := hj5
    refine CW.region ?_
    refine LW.u (Pur.fa fo51_0 rfl) rfl ?_
    refine LW.ldb hS3 1 rfl ag3 rfl rfl rfl ?_
    refine LW.u (Pur.fa fo51_0 rfl) rfl ?_
    refine LW.ldb hS3 0 rfl ag3 rfl rfl rfl ?_
    iterate 2 refine LW.p rfl rfl ?_
    rcases bcases (x0.now != x1.now) with hc7 | hc7
    · replace h := bcT h hc7
      refine LW.gN (want_not rfl rfl hc7) rfl ?_
      refine LW.gN (want_not rfl rfl hc7) rfl ?_
      refine LW.gN (want_not rfl rfl hc7) rfl ?_
      refine LW.gN (want_not rfl rfl hc7) rfl ?_
      refine LW.gN (want_not rfl rfl hc7) rfl ?_
      refine LW.gN (want_not rfl rfl hc7) rfl ?_
      refine LW.gN (want_not rfl rfl hc7) rfl ?_
      refine LW.u (Pur.pickT rfl hc7) rfl ?_
      refine LW.nil ?_
      replace h := Option.some.inj h
      subst h
      exact ⟨⟨rfl, rfl, rfl, trivial⟩, hS3.pick [0, 1] rfl rfl⟩
    replace h := bcF h hc7
    refine LW.gY (want_of rfl rfl hc7) ?_
    refine LW.u (Pur.fa fo51_1 rfl) rfl ?_
    refine LW.gY (want_of rfl rfl hc7) ?_
    refine LW.ldb hS3 1 rfl ag49 rfl rfl rfl ?_
    refine LW.gY (want_of rfl rfl hc7) ?_
    refine LW.u (Pur.len Try.underlying49 rfl) rfl ?_
    refine LW.gY (want_of rfl rfl hc7) ?_
    refine LW.u (Pur.fa fo51_1 rfl) rfl ?_
    refine LW.gY (want_of rfl rfl hc7) ?_
    refine LW.ldb hS3 0 rfl ag49 rfl rfl rfl ?_
    refine LW.gY (want_of rfl rfl hc7) ?_
    refine LW.u (Pur.len Try.underlying49 rfl) rfl ?_
    refine LW.gY (want_of rfl rfl hc7) ?_
    refine LW.p rfl rfl ?_
    refine LW.u (Pur.pickF rfl hc7) rfl ?_
    refine LW.nil ?_
    replace h := Option.some.inj h
    subst h
    exact ⟨⟨rfl, rfl, rfl, trivial⟩, hS3.pick [0, 1] rfl rfl⟩
  intro e w8 hM
  obtain ⟨hE, hS4⟩ := hM
  obtain ⟨e, rfl⟩ := hE.out
  have h := h6
  show CW _ _ _ _ _ _
  refine CW.cond rfl (fun hc9 => ?_) (fun hc9 => ?_)
  · replace h := bcT h hc9
    refine CW.seq ?_
    refine CW.region ?_
    refine LW.p rfl rfl ?_
    refine LW.nil ?_
    show CW _ _ _ _ _ _
    refine CW.ret ?_
    cases h
    exact And.intro trivial ⟨_, Res.one (resOne.t rfl), rfl, hS4.pick [] rfl rfl⟩
  replace h := bcF h hc9
  refine CW.skip ?_
  show CW _ _ _ _ _ _
  refine CW.seq ?_
  refine CW.seq ?_
  refine CW.region ?_
  refine LW.p rfl rfl ?_
  refine LW.nil ?_
  show CW _ _ _ _ _ _
  refine CW.block ?_
  obtain ⟨o70, ho70, h71⟩ := obind h
  refine CW.mono (CW.iter (σ := Int) (ρ := Int ⊕ Bool) (fun s10 e wb => En e [(2, .pointer (some ⟨g1, 0, none⟩)), (3, .pointer (some ⟨g3, 0, none⟩)), (5, .int .i64 s10)] ∧ St w0 [] wb [bx g3 51 [.int .i64 x1.now, .slice a1_1 x1.parts.length c1_1], bx g1 51 [.int .i64 x0.now, .slice a0_1 x0.parts.length c0_1]]) (fun o x e wb => match o with | .inl s10 => x = .exit 0 ∧ En e [] ∧ St w0 [] wb [bx g3 51 [.int .i64 x1.now, .slice a1_1 x1.parts.length c1_1], bx g1 51 [.int .i64 x0.now, .slice a0_1 x0.parts.length c0_1]] | .inr r => x = .ret ∧ ∃ u, u = r ∧ ∃ v, Res Try.prog Try.f26.results e wb v ∧ v = .bool u ∧ St w0 [] wb []) ?_ N 0 _ _ _ ⟨⟨rfl, rfl, rfl, trivial⟩, hS4.pick [0, 1] rfl rfl⟩ ho70) ?_
  · intro s10 e w11 o hM h
    obtain ⟨hE, hS5⟩ := hM
    obtain ⟨e, rfl⟩ := hE.out
    refine CW.seq ?_
    refine CW.seq ?_
    refine CW.region ?_
    refine LW.p rfl rfl ?_
    refine LW.u (Pur.fa fo51_1 rfl) rfl ?_
    refine LW.ldb hS5 1 rfl ag49 rfl rfl rfl ?_
    refine LW.u (Pur.len Try.underlying49 rfl) rfl ?_
    refine LW.p rfl rfl ?_
    refine LW.nil ?_
    show CW _ _ _ _ _ _
    refine CW.cond rfl (fun hc12 => ?_) (fun hc12 => ?_)
    · replace h := bcT h hc12
      refine CW.skip ?_
      show CW _ _ _ _ _ _
      refine CW.seq ?_
      refine CW.block ?_
      refine CW.seq ?_
      refine CW.draw (by kernel_rfl) ?_
      have hS6 := hS5.drew
      refine AW.u (i := 0) rfl (by kernel_rfl) rfl rfl (Pur.fa fo51_1 rfl) ?_
      refine AW.take (i := 1) rfl (by kernel_rfl) rfl rfl (Ldr.box (bt := 51) (fr := (0, 0)) (cs := [.int .i64 x0.now, .slice a0_1 x0.parts.length c0_1]) ag49 rfl rfl) (St.cell (h := hS6) (i := 1) rfl) ?_
      refine AW.u (i := 2) rfl (by kernel_rfl) rfl rfl (Pur.p rfl) ?_
      replace h := obind h
      obtain ⟨y13, hy13, h⟩ := h
      obtain ⟨b16, o17, cs18, hae, hb21, hp14, hq15, hd19, hk20⟩ := hr0_1.idx hy13
      subst hae
      obtain ⟨a22, c23, a25, c26, a28, c29, a31, c32, a34, c35, a37, c38, rfl, hr24, hr27, hr30, hr33, hr36, hr39⟩ := hd19
      refine AW.u (i := 3) rfl (by kernel_rfl) rfl rfl (Pur.ix Try.underlying49 sz75 rfl rfl hp14 hq15) ?_
      refine AW.take (i := 4) rfl (by kernel_rfl) rfl rfl (Ldr.oldN w0 ag75 rfl rfl (fun j u hu => hk20 j u hu)) (hS6.same _ hb21.1 hb21.2) ?_
      refine AW.u (i := 5) rfl (by kernel_rfl) rfl rfl (Pur.fa fo51_1 rfl) ?_
      refine AW.take (i := 6) rfl (by kernel_rfl) rfl rfl (Ldr.box (bt := 51) (fr := (0, 0)) (cs := [.int .i64 x1.now, .slice a1_1 x1.parts.length c1_1]) ag49 rfl rfl) (St.cell (h := hS6) (i := 0) rfl) ?_
      refine AW.u (i := 7) rfl (by kernel_rfl) rfl rfl (Pur.p rfl) ?_
      replace h := obind h
      obtain ⟨y40, hy40, h⟩ := h
      obtain ⟨b43, o44, cs45, hae, hb48, hp41, hq42, hd46, hk47⟩ := hr1_1.idx hy40
      subst hae
      obtain ⟨a49, c50, a52, c53, a55, c56, a58, c59, a61, c62, a64, c65, rfl, hr51, hr54, hr57, hr60, hr63, hr66⟩ := hd46
      refine AW.u (i := 8) rfl (by kernel_rfl) rfl rfl (Pur.ix Try.underlying49 sz75 rfl rfl hp41 hq42) ?_
      refine AW.take (i := 9) rfl (by kernel_rfl) rfl rfl (Ldr.oldN w0 ag75 rfl rfl (fun j u hu => hk47 j u hu)) (hS6.same _ hb48.1 hb48.2) ?_
      replace h := obind h
      obtain ⟨y67, hy67, h⟩ := h
      have q := W_s_SamePart (w0 := w11.drew) hy67 rfl (hS6.rB hr24) rfl (hS6.rB hr27) rfl (hS6.rB hr30) rfl (hS6.rB hr33) rfl (hS6.rB hr36) rfl (hS6.rB hr39) rfl (hS6.rB hr51) rfl (hS6.rB hr54) rfl (hS6.rB hr57) rfl (hS6.rB hr60) rfl (hS6.rB hr63) rfl (hS6.rB hr66)
      refine AW.one (i := 10) (by kernel_rfl) ?_
      refine ⟨_, rfl, ?_⟩
      refine LW.call pl63 rfl rfl ?_
      refine Ret.mono q ?_
      rintro _ w68 ⟨rfl, hs⟩
      have hS7 := hS6.add hs
      refine LW.nil ⟨rfl, (.w (by kernel_rfl) (.c (St.cell (h := hS7) (i := 0) rfl) (.w (by kernel_rfl) (.c (St.cell (h := hS7) (i := 1) rfl) Kept.n)))), ?_⟩
      refine AW.u (i := 11) rfl (by kernel_rfl) rfl rfl (Pur.p rfl) ?_
      refine AW.done (by kernel_rfl) ?_
      show CW _ _ _ _ _ _
      refine CW.cond rfl (fun hc69 => ?_) (fun hc69 => ?_)
      · replace h := bcT h hc69
        refine CW.seq ?_
        refine CW.region ?_
        refine LW.p rfl rfl ?_
        refine LW.nil ?_
        show CW _ _ _ _ _ _
        refine CW.ret ?_
        replace h := Option.some.inj h
        subst h
        exact ⟨trivial, rfl, _, rfl, ⟨_, Res.one (resOne.t rfl), rfl, hS7.pick [] rfl rfl⟩⟩
      replace h := bcF h hc69
      refine CW.skip ?_
      show CW _ _ _ _ _ _
      refine CW.region ?_
      iterate 3 refine LW.p rfl rfl ?_
      refine LW.nil ?_
      replace h := Option.some.inj h
      subst h
      exact ⟨rfl, ⟨⟨rfl, rfl, rfl, trivial⟩, hS7.pick [0, 1] rfl rfl⟩⟩
    replace h := bcF h hc12
    refine CW.exit ?_
    replace h := Option.some.inj h
    subst h
    exact ⟨trivial, rfl, ⟨trivial, hS5.pick [0, 1] rfl rfl⟩⟩
  intro x e w72 hM
  rcases o70 with o70 | r73
  · obtain ⟨rfl, hM⟩ := hM
    obtain ⟨hE, hS8⟩ := hM
    obtain ⟨e, rfl⟩ := hE.out
    have h := h71
    show CW _ _ _ _ _ _
    refine CW.seq ?_
    refine CW.region ?_
    refine LW.p rfl rfl ?_
    refine LW.nil ?_
    show CW _ _ _ _ _ _
    refine CW.ret ?_
    cases h
    exact And.intro trivial ⟨_, Res.one (resOne.t rfl), rfl, hS8.pick [] rfl rfl⟩
  obtain ⟨rfl, u, rfl, hM⟩ := hM
  cases h71
  exact And.intro trivial hM

theorem W_i_SameLabel {w0 : World} {N : Nat} {x0 : DLabel} {x1 : DLabel} {r : Bool} (h : F_i_SameLabel N x0 x1 = some r) {a0_0 : Option Addr} {n0_0 c0_0 : Nat} (hn0_0 : n0_0 = x0.levels.length) (hr0_0 : rdS (Bor w0 []) w0 a0_0 c0_0 x0.levels) {a1_0 : Option Addr} {n1_0 c1_0 : Nat} (hn1_0 : n1_0 = x1.levels.length) (hr1_0 : rdS (Bor w0 []) w0 a1_0 c1_0 x1.levels) :
    Ret Try.prog 126 #[.agg #[.slice a0_0 n0_0 c0_0], .agg #[.slice a1_0 n1_0 c1_0]] w0 (fun v w => v = .bool r ∧ St w0 [] w []) := by
  subst hn0_0
  subst hn1_0
  unfold F_i_SameLabel at h
  refine Ret.of Try.func126 rfl rfl rfl ?_
  have hS1 := St.start w0
  refine CW.seq ?_
  refine CW.region ?_
  refine LW.box (cs := [.slice a0_0 x0.levels.length c0_0]) rfl hS1 rfl ?_
  intro g1 w2 hS2 hf
  refine LW.box (cs := [.slice a1_0 x1.levels.length c1_0]) rfl hS2 rfl ?_
  intro g3 w4 hS3 hf
  refine LW.p rfl rfl ?_
  refine LW.nil ?_
  show CW _ _ _ _ _ _
  refine CW.seq ?_
  refine CW.region ?_
  refine LW.u (Pur.fa fo35_0 rfl) rfl ?_
  refine LW.ldb hS3 1 rfl ag24 rfl rfl rfl ?_
  refine LW.u (Pur.fa fo35_0 rfl) rfl ?_
  refine LW.ldb hS3 0 rfl ag24 rfl rfl rfl ?_
  replace h := obind h
  obtain ⟨y5, hy5, h⟩ := h
  have q := W_z_Equal_int (w0 := w4) hy5 rfl (hS3.rB hr0_0) rfl (hS3.rB hr1_0)
  refine LW.call pl127 rfl rfl ?_
  refine Ret.mono q ?_
  rintro _ w6 ⟨rfl, hs⟩
  have hS4 := hS3.add hs
  refine LW.p rfl rfl ?_
  refine LW.nil ?_
  show CW _ _ _ _ _ _
  refine CW.ret ?_
  cases h
  exact And.intro trivial ⟨_, Res.one (resOne.t rfl), rfl, hS4.pick [] rfl rfl⟩

end Go.Kx
