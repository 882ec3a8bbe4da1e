/- Each call returns what the plain function says. Printed by drive.py. -/
import Derived.Test.YtdjpppkdngmeaaaFa
import Derived.Test.YtdjpppkdngmeaaaPu
namespace Go.Kx
open Go Go.RowKit Go.Proofs
set_option maxRecDepth 10000
set_option maxHeartbeats 2000000
set_option linter.unusedVariables false
set_option linter.unusedSimpArgs false
theorem W_s_l1In {w0 : World} {N : Nat} {x0 : Int} {x1 : Int} {x2 : Int} {r : Bool} (h : F_s_l1In N x0 x1 x2 = some r) :
    Ret Try.prog 81 #[.int .i64 x0, .int .i64 x1, .int .i64 x2] w0 (fun v w => v = .bool r ∧ St w0 [] w []) := by
  unfold F_s_l1In at h
  refine Ret.of Try.func81 rfl rfl rfl ?_
  have hS1 := St.start w0
  refine CW.seq ?_
  refine CW.region ?_
  refine LW.p rfl rfl ?_
  refine LW.nil ?_
  show CW _ _ _ _ _ _
  refine CW.seq ?_
  refine CW.region ?_
  iterate 4 refine LW.p rfl rfl ?_
  rcases bcases (decide (x0 ≥ x1)) with hc1 | hc1
  · replace h := bcT h hc1
    refine LW.gY (want_of rfl rfl hc1) ?_
    refine LW.p rfl rfl ?_
    refine LW.gY (want_of rfl rfl hc1) ?_
    refine LW.p rfl rfl ?_
    refine LW.gY (want_of rfl rfl hc1) ?_
    refine LW.p rfl rfl ?_
    refine LW.u (Pur.pickT rfl hc1) rfl ?_
    refine LW.p rfl rfl ?_
    refine LW.nil ?_
    show CW _ _ _ _ _ _
    refine CW.ret ?_
    cases h
    exact And.intro trivial ⟨_, Res.one (resOne.t rfl), rfl, hS1.pick [] rfl rfl⟩
  replace h := bcF h hc1
  refine LW.gN (want_not rfl rfl hc1) rfl ?_
  refine LW.gN (want_not rfl rfl hc1) rfl ?_
  refine LW.gN (want_not rfl rfl hc1) rfl ?_
  refine LW.u (Pur.pickF rfl hc1) rfl ?_
  refine LW.p rfl rfl ?_
  refine LW.nil ?_
  show CW _ _ _ _ _ _
  refine CW.ret ?_
  cases h
  exact And.intro trivial ⟨_, Res.one (resOne.t rfl), rfl, hS1.pick [] rfl rfl⟩

theorem W_s_LabelOk {w0 : World} {N : Nat} {x0 : DLabel} {r : Bool} (h : F_s_LabelOk N x0 = some r) {a0_0 : Option Addr} {n0_0 c0_0 : Nat} (hn0_0 : n0_0 = x0.levels.length) (hr0_0 : rdS (Bor w0 []) w0 a0_0 c0_0 x0.levels) :
    Ret Try.prog 103 #[.agg #[.slice a0_0 n0_0 c0_0]] w0 (fun v w => v = .bool r ∧ St w0 [] w []) := by
  subst hn0_0
  unfold F_s_LabelOk at h
  refine Ret.of Try.func103 rfl rfl rfl ?_
  have hS1 := St.start w0
  refine CW.seq ?_
  refine CW.region ?_
  refine LW.box (cs := [.slice a0_0 x0.levels.length c0_0]) rfl hS1 rfl ?_
  intro g1 w2 hS2 hf
  refine LW.p rfl rfl ?_
  refine LW.nil ?_
  show CW _ _ _ _ _ _
  refine CW.seq ?_
  refine CW.seq ?_
  refine CW.region ?_
  refine LW.u (Pur.fa fo35_0 rfl) rfl ?_
  refine LW.ldb hS2 0 rfl ag24 rfl rfl rfl ?_
  refine LW.u (Pur.len Try.underlying24 rfl) rfl ?_
  refine LW.p rfl rfl ?_
  refine LW.nil ?_
  show CW _ _ _ _ _ _
  refine CW.cond rfl (fun hc3 => ?_) (fun hc3 => ?_)
  · replace h := bcT h hc3
    refine CW.seq ?_
    refine CW.region ?_
    refine LW.p rfl rfl ?_
    refine LW.nil ?_
    show CW _ _ _ _ _ _
    refine CW.ret ?_
    cases h
    exact And.intro trivial ⟨_, Res.one (resOne.t rfl), rfl, hS2.pick [] rfl rfl⟩
  replace h := bcF h hc3
  refine CW.skip ?_
  show CW _ _ _ _ _ _
  refine CW.seq ?_
  refine CW.seq ?_
  refine CW.region ?_
  refine LW.p rfl rfl ?_
  refine LW.nil ?_
  show CW _ _ _ _ _ _
  refine CW.block ?_
  obtain ⟨o19, ho19, h20⟩ := obind h
  refine CW.mono (CW.iter (σ := Int) (ρ := Int ⊕ Bool) (fun s4 e wb => En e [(1, .pointer (some ⟨g1, 0, none⟩)), (3, .int .i64 s4)] ∧ St w0 [] wb [bx g1 35 [.slice a0_0 x0.levels.length c0_0]]) (fun o x e wb => match o with | .inl s4 => x = .exit 0 ∧ En e [] ∧ St w0 [] wb [bx g1 35 [.slice a0_0 x0.levels.length c0_0]] | .inr r => x = .ret ∧ ∃ u, u = r ∧ ∃ v, Res Try.prog Try.f103.results e wb v ∧ v = .bool u ∧ St w0 [] wb []) ?_ N 0 _ _ _ ⟨⟨rfl, rfl, trivial⟩, hS2.pick [0] rfl rfl⟩ ho19) ?_
  · intro s4 e w5 o hM h
    obtain ⟨hE, hS3⟩ := hM
    obtain ⟨e, rfl⟩ := hE.out
    refine CW.seq ?_
    refine CW.seq ?_
    refine CW.region ?_
    refine LW.p rfl rfl ?_
    refine LW.u (Pur.fa fo35_0 rfl) rfl ?_
    refine LW.ldb hS3 0 rfl ag24 rfl rfl rfl ?_
    refine LW.u (Pur.len Try.underlying24 rfl) rfl ?_
    refine LW.p rfl rfl ?_
    refine LW.nil ?_
    show CW _ _ _ _ _ _
    refine CW.cond rfl (fun hc6 => ?_) (fun hc6 => ?_)
    · replace h := bcT h hc6
      refine CW.skip ?_
      show CW _ _ _ _ _ _
      refine CW.seq ?_
      refine CW.block ?_
      refine CW.seq ?_
      refine CW.region ?_
      refine LW.u (Pur.fa fo35_0 rfl) rfl ?_
      refine LW.ldb hS3 0 rfl ag24 rfl rfl rfl ?_
      refine LW.p rfl rfl ?_
      replace h := obind h
      obtain ⟨y7, hy7, h⟩ := h
      obtain ⟨b10, o11, cs12, hae, hb15, hp8, hq9, hd13, hk14⟩ := hr0_0.idx hy7
      subst hae
      obtain rfl := hd13
      refine LW.u (Pur.ix Try.underlying24 sz3 rfl rfl hp8 hq9) rfl ?_
      refine LW.l (Ldr.old w0 ag3 rfl (hk14 0 _ rfl)) (hS3.same _ hb15.1 hb15.2) rfl ?_
      replace h := obind h
      obtain ⟨y16, hy16, h⟩ := h
      have q := W_s_l1In (w0 := w5) hy16
      refine LW.call pl81 rfl rfl ?_
      refine Ret.mono q ?_
      rintro _ w17 ⟨rfl, hs⟩
      have hS4 := hS3.add hs
      refine LW.p rfl rfl ?_
      refine LW.nil ?_
      show CW _ _ _ _ _ _
      refine CW.fresh (l := [(1, .pointer (some ⟨g1, 0, none⟩)), (3, .int .i64 s4), (21, .bool (!y16))]) ⟨rfl, rfl, rfl, trivial⟩ (fun e => ?_)
      refine CW.cond rfl (fun hc18 => ?_) (fun hc18 => ?_)
      · replace h := bcT h hc18
        refine CW.seq ?_
        refine CW.region ?_
        refine LW.p rfl rfl ?_
        refine LW.nil ?_
        show CW _ _ _ _ _ _
        refine CW.ret ?_
        replace h := Option.some.inj h
        subst h
        exact ⟨trivial, rfl, _, rfl, ⟨_, Res.one (resOne.t rfl), rfl, hS4.pick [] rfl rfl⟩⟩
      replace h := bcF h hc18
      refine CW.skip ?_
      show CW _ _ _ _ _ _
      refine CW.region ?_
      iterate 3 refine LW.p rfl rfl ?_
      refine LW.nil ?_
      replace h := Option.some.inj h
      subst h
      exact ⟨rfl, ⟨⟨rfl, rfl, trivial⟩, hS4.pick [0] rfl rfl⟩⟩
    replace h := bcF h hc6
    refine CW.exit ?_
    replace h := Option.some.inj h
    subst h
    exact ⟨trivial, rfl, ⟨trivial, hS3.pick [0] rfl rfl⟩⟩
  intro x e w21 hM
  rcases o19 with o19 | r22
  · obtain ⟨rfl, hM⟩ := hM
    obtain ⟨hE, hS5⟩ := hM
    obtain ⟨e, rfl⟩ := hE.out
    have h := h20
    show CW _ _ _ _ _ _
    refine CW.seq ?_
    refine CW.region ?_
    refine LW.p rfl rfl ?_
    refine LW.nil ?_
    show CW _ _ _ _ _ _
    refine CW.ret ?_
    cases h
    exact And.intro trivial ⟨_, Res.one (resOne.t rfl), rfl, hS5.pick [] rfl rfl⟩
  obtain ⟨rfl, u, rfl, hM⟩ := hM
  cases h20
  exact And.intro trivial hM

theorem W_i_within {w0 : World} {N : Nat} {x0 : Int} {x1 : Int} {x2 : Int} {r : Bool} (h : F_i_within N x0 x1 x2 = some r) :
    Ret Try.prog 86 #[.int .i64 x0, .int .i64 x1, .int .i64 x2] w0 (fun v w => v = .bool r ∧ St w0 [] w []) := by
  unfold F_i_within at h
  refine Ret.of Try.func86 rfl rfl rfl ?_
  have hS1 := St.start w0
  refine CW.seq ?_
  refine CW.region ?_
  refine LW.p rfl rfl ?_
  refine LW.nil ?_
  show CW _ _ _ _ _ _
  refine CW.seq ?_
  refine CW.region ?_
  iterate 4 refine LW.p rfl rfl ?_
  rcases bcases (decide (x0 ≥ x1)) with hc1 | hc1
  · replace h := bcT h hc1
    refine LW.gY (want_of rfl rfl hc1) ?_
    refine LW.p rfl rfl ?_
    refine LW.gY (want_of rfl rfl hc1) ?_
    refine LW.p rfl rfl ?_
    refine LW.gY (want_of rfl rfl hc1) ?_
    refine LW.p rfl rfl ?_
    refine LW.u (Pur.pickT rfl hc1) rfl ?_
    refine LW.p rfl rfl ?_
    refine LW.nil ?_
    show CW _ _ _ _ _ _
    refine CW.ret ?_
    cases h
    exact And.intro trivial ⟨_, Res.one (resOne.t rfl), rfl, hS1.pick [] rfl rfl⟩
  replace h := bcF h hc1
  refine LW.gN (want_not rfl rfl hc1) rfl ?_
  refine LW.gN (want_not rfl rfl hc1) rfl ?_
  refine LW.gN (want_not rfl rfl hc1) rfl ?_
  refine LW.u (Pur.pickF rfl hc1) rfl ?_
  refine LW.p rfl rfl ?_
  refine LW.nil ?_
  show CW _ _ _ _ _ _
  refine CW.ret ?_
  cases h
  exact And.intro trivial ⟨_, Res.one (resOne.t rfl), rfl, hS1.pick [] rfl rfl⟩

theorem W_i_OwnOk {w0 : World} {N : Nat} {x0 : List Int} {r : Bool} (h : F_i_OwnOk N x0 = some r) {a0_0 : Option Addr} {n0_0 c0_0 : Nat} (hn0_0 : n0_0 = x0.length) (hr0_0 : rdS (Bor w0 []) w0 a0_0 c0_0 x0) :
    Ret Try.prog 111 #[.slice a0_0 n0_0 c0_0] w0 (fun v w => v = .bool r ∧ St w0 [] w []) := by
  subst hn0_0
  unfold F_i_OwnOk at h
  refine Ret.of Try.func111 rfl rfl rfl ?_
  have hS1 := St.start w0
  refine CW.seq ?_
  refine CW.region ?_
  refine LW.p rfl rfl ?_
  refine LW.nil ?_
  show CW _ _ _ _ _ _
  refine CW.seq ?_
  refine CW.seq ?_
  refine CW.region ?_
  refine LW.p rfl rfl ?_
  refine LW.u (Pur.len Try.underlying24 rfl) rfl ?_
  refine LW.p rfl rfl ?_
  refine LW.nil ?_
  show CW _ _ _ _ _ _
  refine CW.block ?_
  obtain ⟨o30, ho30, h31⟩ := obind h
  refine CW.mono (CW.iter (σ := Int) (ρ := Int ⊕ Bool) (fun s1 e wb => En e [(0, .slice a0_0 x0.length c0_0), (5, .slice a0_0 x0.length c0_0), (6, .int .i64 (x0.length : Int)), (7, .int .i64 s1)] ∧ St w0 [] wb []) (fun o x e wb => match o with | .inl s1 => x = .exit 0 ∧ En e [] ∧ St w0 [] wb [] | .inr r => x = .ret ∧ ∃ u, u = r ∧ ∃ v, Res Try.prog Try.f111.results e wb v ∧ v = .bool u ∧ St w0 [] wb []) ?_ N 0 _ _ _ ⟨⟨rfl, rfl, rfl, rfl, trivial⟩, hS1.pick [] rfl rfl⟩ ho30) ?_
  · intro s1 e w2 o hM h
    obtain ⟨hE, hS2⟩ := hM
    obtain ⟨e, rfl⟩ := hE.out
    refine CW.seq ?_
    refine CW.region ?_
    refine LW.p rfl rfl ?_
    refine LW.nil ?_
    show CW _ _ _ _ _ _
    refine CW.seq ?_
    refine CW.cond rfl (fun hc3 => ?_) (fun hc3 => ?_)
    · replace h := bcT h hc3
      refine CW.skip ?_
      show CW _ _ _ _ _ _
      refine CW.seq ?_
      refine CW.block ?_
      refine CW.seq ?_
      refine CW.region ?_
      refine LW.p rfl rfl ?_
      replace h := obind h
      obtain ⟨y4, hy4, h⟩ := h
      obtain ⟨b7, o8, cs9, hae, hb12, hp5, hq6, hd10, hk11⟩ := hr0_0.idx hy4
      subst hae
      obtain rfl := hd10
      refine LW.u (Pur.ix Try.underlying24 sz3 rfl rfl hp5 hq6) rfl ?_
      refine LW.l (Ldr.old w0 ag3 rfl (hk11 0 _ rfl)) (hS2.same _ hb12.1 hb12.2) rfl ?_
      iterate 2 refine LW.p rfl rfl ?_
      refine LW.nil ?_
      show CW _ _ _ _ _ _
      refine CW.seq ?_
      obtain ⟨j13, hj13, h14⟩ := obind h
      refine CW.cut (fun e wb => En e [(0, .slice (some ⟨b7, o8, none⟩) x0.length c0_0), (5, .slice (some ⟨b7, o8, none⟩) x0.length c0_0), (6, .int .i64 (x0.length : Int)), (7, .int .i64 s1), (27, .bool j13)] ∧ St w0 [] wb []) ?_ ?_
      · have h := hj13
        refine CW.region ?_
        refine LW.p rfl rfl ?_
        replace h := obind h
        obtain ⟨y15, hy15, h⟩ := h
        have q := W_i_within (w0 := w2) hy15
        refine LW.call pl86 rfl rfl ?_
        refine Ret.mono q ?_
        rintro _ w16 ⟨rfl, hs⟩
        have hS3 := hS2.add hs
        iterate 2 refine LW.p rfl rfl ?_
        rcases bcases (!y15) with hc17 | hc17
        · replace h := bcT h hc17
          refine LW.gN (want_not rfl rfl hc17) rfl ?_
          refine LW.gN (want_not rfl rfl hc17) rfl ?_
          refine LW.gN (want_not rfl rfl hc17) rfl ?_
          refine LW.gN (want_undef rfl rfl) rfl ?_
          refine LW.gN (want_undef rfl rfl) rfl ?_
          refine LW.gN (want_undef rfl rfl) rfl ?_
          refine LW.gN (want_undef rfl rfl) rfl ?_
          refine LW.gN (want_undef rfl rfl) rfl ?_
          refine LW.gN (want_undef rfl rfl) rfl ?_
          refine LW.fresh (l := [(0, .slice (some ⟨b7, o8, none⟩) x0.length c0_0), (5, .slice (some ⟨b7, o8, none⟩) x0.length c0_0), (6, .int .i64 (x0.length : Int)), (7, .int .i64 s1), (15, .bool (!y15)), (18, undef), (23, undef), (24, undef)]) ⟨rfl, rfl, rfl, rfl, rfl, rfl, rfl, rfl, trivial⟩ (fun e => ?_)
          refine LW.gN (want_undef rfl rfl) rfl ?_
          refine LW.gN (want_not rfl rfl hc17) rfl ?_
          refine LW.u (Pur.pickT rfl hc17) rfl ?_
          refine LW.nil ?_
          replace h := Option.some.inj h
          subst h
          exact ⟨⟨rfl, rfl, rfl, rfl, rfl, trivial⟩, hS3.pick [] rfl rfl⟩
        replace h := bcF h hc17
        refine LW.gY (want_of rfl rfl hc17) ?_
        refine LW.p rfl rfl ?_
        refine LW.gY (want_of rfl rfl hc17) ?_
        refine LW.p rfl rfl ?_
        refine LW.gY (want_of rfl rfl hc17) ?_
        refine LW.p rfl rfl ?_
        rcases bcases (decide (s1 > 0)) with hc18 | hc18
        · replace h := bcT h hc18
          refine LW.gY (want_of rfl rfl hc18) ?_
          refine LW.p rfl rfl ?_
          refine LW.gY (want_of rfl rfl hc18) ?_
          refine LW.p rfl rfl ?_
          refine LW.gY (want_of rfl rfl hc18) ?_
          refine LW.p rfl rfl ?_
          replace h := obind h
          obtain ⟨y19, hy19, h⟩ := h
          obtain ⟨b22, o23, cs24, hae, hb27, hp20, hq21, hd25, hk26⟩ := hr0_0.idx hy19
          cases hae
          obtain rfl := hd25
          refine LW.gY (want_of rfl rfl hc18) ?_
          refine LW.u (Pur.ix Try.underlying24 sz3 rfl rfl hp20 hq21) rfl ?_
          refine LW.fresh (l := [(0, .slice (some ⟨b7, o8, none⟩) x0.length c0_0), (4, .int .i64 y4), (5, .slice (some ⟨b7, o8, none⟩) x0.length c0_0), (6, .int .i64 (x0.length : Int)), (7, .int .i64 s1), (15, .bool (!y15)), (18, .bool (decide (s1 > 0))), (22, .pointer (some ⟨b7, o8 + (IntKind.i64.wrap (s1 - 1) : Int).toNat * 1, none⟩))]) ⟨rfl, rfl, rfl, rfl, rfl, rfl, rfl, rfl, trivial⟩ (fun e => ?_)
          refine LW.gY (want_of rfl rfl hc18) ?_
          refine LW.l (Ldr.old w0 ag3 rfl (hk26 0 _ rfl)) (hS3.same _ hb27.1 hb27.2) rfl ?_
          refine LW.gY (want_of rfl rfl hc18) ?_
          refine LW.p rfl rfl ?_
          refine LW.gY (want_of rfl rfl hc18) ?_
          refine LW.p rfl rfl ?_
          refine LW.gY (want_of rfl rfl hc17) ?_
          refine LW.u (Pur.pickT rfl hc18) rfl ?_
          refine LW.u (Pur.pickF rfl hc17) rfl ?_
          refine LW.nil ?_
          replace h := Option.some.inj h
          subst h
          exact ⟨⟨rfl, rfl, rfl, rfl, rfl, trivial⟩, hS3.pick [] rfl rfl⟩
        replace h := bcF h hc18
        refine LW.gN (want_not rfl rfl hc18) rfl ?_
        refine LW.gN (want_not rfl rfl hc18) rfl ?_
        refine LW.gN (want_not rfl rfl hc18) rfl ?_
        refine LW.gN (want_not rfl rfl hc18) rfl ?_
        refine LW.gN (want_not rfl rfl hc18) rfl ?_
        refine LW.fresh (l := [(0, .slice (some ⟨b7, o8, none⟩) x0.length c0_0), (4, .int .i64 y4), (5, .slice (some ⟨b7, o8, none⟩) x0.length c0_0), (6, .int .i64 (x0.length : Int)), (7, .int .i64 s1), (15, .bool (!y15)), (18, .bool (decide (s1 > 0))), (23, undef)]) ⟨rfl, rfl, rfl, rfl, rfl, rfl, rfl, rfl, trivial⟩ (fun e => ?_)
        refine LW.gN (want_not rfl rfl hc18) rfl ?_
        refine LW.gN (want_not rfl rfl hc18) rfl ?_
        refine LW.gY (want_of rfl rfl hc17) ?_
        refine LW.u (Pur.pickF rfl hc18) rfl ?_
        refine LW.u (Pur.pickF rfl hc17) rfl ?_
        refine LW.nil ?_
        replace h := Option.some.inj h
        subst h
        exact ⟨⟨rfl, rfl, rfl, rfl, rfl, trivial⟩, hS3.pick [] rfl rfl⟩
      intro e w28 hM
      obtain ⟨hE, hS4⟩ := hM
      obtain ⟨e, rfl⟩ := hE.out
      have h := h14
      show CW _ _ _ _ _ _
      refine CW.cond rfl (fun hc29 => ?_) (fun hc29 => ?_)
      · replace h := bcT h hc29
        refine CW.seq ?_
        refine CW.region ?_
        refine LW.p rfl rfl ?_
        refine LW.nil ?_
        show CW _ _ _ _ _ _
        refine CW.ret ?_
        replace h := Option.some.inj h
        subst h
        exact ⟨trivial, rfl, _, rfl, ⟨_, Res.one (resOne.t rfl), rfl, hS4.pick [] rfl rfl⟩⟩
      replace h := bcF h hc29
      refine CW.skip ?_
      show CW _ _ _ _ _ _
      refine CW.region ?_
      iterate 2 refine LW.p rfl rfl ?_
      refine LW.nil ?_
      replace h := Option.some.inj h
      subst h
      exact ⟨rfl, ⟨⟨rfl, rfl, rfl, rfl, trivial⟩, hS4.pick [] rfl rfl⟩⟩
    replace h := bcF h hc3
    refine CW.exit ?_
    replace h := Option.some.inj h
    subst h
    exact ⟨trivial, rfl, ⟨trivial, hS2.pick [] rfl rfl⟩⟩
  intro x e w32 hM
  rcases o30 with o30 | r33
  · obtain ⟨rfl, hM⟩ := hM
    obtain ⟨hE, hS5⟩ := hM
    obtain ⟨e, rfl⟩ := hE.out
    have h := h31
    show CW _ _ _ _ _ _
    refine CW.seq ?_
    refine CW.region ?_
    refine LW.p rfl rfl ?_
    refine LW.nil ?_
    show CW _ _ _ _ _ _
    refine CW.ret ?_
    cases h
    exact And.intro trivial ⟨_, Res.one (resOne.t rfl), rfl, hS5.pick [] rfl rfl⟩
  obtain ⟨rfl, u, rfl, hM⟩ := hM
  cases h31
  exact And.intro trivial hM

theorem W_i_LabelOk {w0 : World} {N : Nat} {x0 : DLabel} {r : Bool} (h : F_i_LabelOk N x0 = some r) {a0_0 : Option Addr} {n0_0 c0_0 : Nat} (hn0_0 : n0_0 = x0.levels.length) (hr0_0 : rdS (Bor w0 []) w0 a0_0 c0_0 x0.levels) :
    Ret Try.prog 110 #[.agg #[.slice a0_0 n0_0 c0_0]] w0 (fun v w => v = .bool r ∧ St w0 [] w []) := by
  subst hn0_0
  unfold F_i_LabelOk at h
  refine Ret.of Try.func110 rfl rfl rfl ?_
  have hS1 := St.start w0
  refine CW.seq ?_
  refine CW.region ?_
  refine LW.box (cs := [.slice a0_0 x0.levels.length c0_0]) rfl hS1 rfl ?_
  intro g1 w2 hS2 hf
  refine LW.p rfl rfl ?_
  refine LW.nil ?_
  show CW _ _ _ _ _ _
  refine CW.seq ?_
  refine CW.seq ?_
  refine CW.region ?_
  refine LW.u (Pur.fa fo35_0 rfl) rfl ?_
  refine LW.ldb hS2 0 rfl ag24 rfl rfl rfl ?_
  refine LW.u (Pur.len Try.underlying24 rfl) rfl ?_
  refine LW.p rfl rfl ?_
  refine LW.nil ?_
  show CW _ _ _ _ _ _
  refine CW.block ?_
  obtain ⟨o18, ho18, h19⟩ := obind h
  refine CW.mono (CW.iter (σ := Int) (ρ := Int ⊕ Bool) (fun s3 e wb => En e [(1, .pointer (some ⟨g1, 0, none⟩)), (6, .slice a0_0 x0.levels.length c0_0), (7, .int .i64 (x0.levels.length : Int)), (8, .int .i64 s3)] ∧ St w0 [] wb [bx g1 35 [.slice a0_0 x0.levels.length c0_0]]) (fun o x e wb => match o with | .inl s3 => x = .exit 0 ∧ En e [(1, .pointer (some ⟨g1, 0, none⟩))] ∧ St w0 [] wb [bx g1 35 [.slice a0_0 x0.levels.length c0_0]] | .inr r => x = .ret ∧ ∃ u, u = r ∧ ∃ v, Res Try.prog Try.f110.results e wb v ∧ v = .bool u ∧ St w0 [] wb []) ?_ N 0 _ _ _ ⟨⟨rfl, rfl, rfl, rfl, trivial⟩, hS2.pick [0] rfl rfl⟩ ho18) ?_
  · intro s3 e w4 o hM h
    obtain ⟨hE, hS3⟩ := hM
    obtain ⟨e, rfl⟩ := hE.out
    refine CW.seq ?_
    refine CW.region ?_
    refine LW.p rfl rfl ?_
    refine LW.nil ?_
    show CW _ _ _ _ _ _
    refine CW.seq ?_
    refine CW.cond rfl (fun hc5 => ?_) (fun hc5 => ?_)
    · replace h := bcT h hc5
      refine CW.skip ?_
      show CW _ _ _ _ _ _
      refine CW.seq ?_
      refine CW.block ?_
      refine CW.seq ?_
      refine CW.region ?_
      replace h := obind h
      obtain ⟨y6, hy6, h⟩ := h
      obtain ⟨b9, o10, cs11, hae, hb14, hp7, hq8, hd12, hk13⟩ := hr0_0.idx hy6
      subst hae
      obtain rfl := hd12
      refine LW.u (Pur.ix Try.underlying24 sz3 rfl rfl hp7 hq8) rfl ?_
      refine LW.l (Ldr.old w0 ag3 rfl (hk13 0 _ rfl)) (hS3.same _ hb14.1 hb14.2) rfl ?_
      refine LW.p rfl rfl ?_
      refine LW.nil ?_
      show CW _ _ _ _ _ _
      refine CW.seq ?_
      refine CW.region ?_
      refine LW.p rfl rfl ?_
      replace h := obind h
      obtain ⟨y15, hy15, h⟩ := h
      have q := W_i_within (w0 := w4) hy15
      refine LW.call pl86 rfl rfl ?_
      refine Ret.mono q ?_
      rintro _ w16 ⟨rfl, hs⟩
      have hS4 := hS3.add hs
      refine LW.p rfl rfl ?_
      refine LW.nil ?_
      show CW _ _ _ _ _ _
      refine CW.fresh (l := [(1, .pointer (some ⟨g1, 0, none⟩)), (6, .slice (some ⟨b9, o10, none⟩) x0.levels.length c0_0), (7, .int .i64 (x0.levels.length : Int)), (8, .int .i64 s3), (14, .bool (!y15))]) ⟨rfl, rfl, rfl, rfl, rfl, trivial⟩ (fun e => ?_)
      refine CW.cond rfl (fun hc17 => ?_) (fun hc17 => ?_)
      · replace h := bcT h hc17
        refine CW.seq ?_
        refine CW.region ?_
        refine LW.p rfl rfl ?_
        refine LW.nil ?_
        show CW _ _ _ _ _ _
        refine CW.ret ?_
        replace h := Option.some.inj h
        subst h
        exact ⟨trivial, rfl, _, rfl, ⟨_, Res.one (resOne.t rfl), rfl, hS4.pick [] rfl rfl⟩⟩
      replace h := bcF h hc17
      refine CW.skip ?_
      show CW _ _ _ _ _ _
      refine CW.region ?_
      iterate 2 refine LW.p rfl rfl ?_
      refine LW.nil ?_
      replace h := Option.some.inj h
      subst h
      exact ⟨rfl, ⟨⟨rfl, rfl, rfl, rfl, trivial⟩, hS4.pick [0] rfl rfl⟩⟩
    replace h := bcF h hc5
    refine CW.exit ?_
    replace h := Option.some.inj h
    subst h
    exact ⟨trivial, rfl, ⟨⟨rfl, trivial⟩, hS3.pick [0] rfl rfl⟩⟩
  intro x e w20 hM
  rcases o18 with o18 | r21
  · obtain ⟨rfl, hM⟩ := hM
    obtain ⟨hE, hS5⟩ := hM
    obtain ⟨e, rfl⟩ := hE.out
    have h := h19
    show CW _ _ _ _ _ _
    refine CW.seq ?_
    refine CW.region ?_
    refine LW.u (Pur.fa fo35_0 rfl) rfl ?_
    refine LW.ldb hS5 0 rfl ag24 rfl rfl rfl ?_
    refine LW.u (Pur.len Try.underlying24 rfl) rfl ?_
    iterate 2 refine LW.p rfl rfl ?_
    refine LW.nil ?_
    show CW _ _ _ _ _ _
    refine CW.ret ?_
    cases h
    exact And.intro trivial ⟨_, Res.one (resOne.t rfl), rfl, hS5.pick [] rfl rfl⟩
  obtain ⟨rfl, u, rfl, hM⟩ := hM
  cases h19
  exact And.intro trivial hM

theorem W_z_Index_int {w0 : World} {N : Nat} {x0 : List Int} {x1 : Int} {r : Int} (h : F_z_Index_int N x0 x1 = some r) {a0_0 : Option Addr} {n0_0 c0_0 : Nat} (hn0_0 : n0_0 = x0.length) (hr0_0 : rdS (Bor w0 []) w0 a0_0 c0_0 x0) :
    Ret Try.prog 138 #[.slice a0_0 n0_0 c0_0, .int .i64 x1] w0 (fun v w => v = .int .i64 r ∧ St w0 [] w []) := by
  subst hn0_0
  unfold F_z_Index_int at h
  refine Ret.of Try.func138 rfl rfl rfl ?_
  have hS1 := St.start w0
  refine CW.seq ?_
  refine CW.region ?_
  refine LW.p rfl rfl ?_
  refine LW.nil ?_
  show CW _ _ _ _ _ _
  refine CW.seq ?_
  refine CW.seq ?_
  refine CW.region ?_
  refine LW.p rfl rfl ?_
  refine LW.u (Pur.len Try.underlying24 rfl) rfl ?_
  refine LW.p rfl rfl ?_
  refine LW.nil ?_
  show CW _ _ _ _ _ _
  refine CW.block ?_
  obtain ⟨o14, ho14, h15⟩ := obind h
  refine CW.mono (CW.iter (σ := Int) (ρ := Int ⊕ Int) (fun s1 e wb => En e [(0, .slice a0_0 x0.length c0_0), (1, .int .i64 x1), (7, .int .i64 (x0.length : Int)), (8, .int .i64 s1)] ∧ St w0 [] wb []) (fun o x e wb => match o with | .inl s1 => x = .exit 0 ∧ En e [] ∧ St w0 [] wb [] | .inr r => x = .ret ∧ ∃ u, u = r ∧ ∃ v, Res Try.prog Try.f138.results e wb v ∧ v = .int .i64 u ∧ St w0 [] wb []) ?_ N 0 _ _ _ ⟨⟨rfl, rfl, rfl, rfl, trivial⟩, hS1.pick [] rfl rfl⟩ ho14) ?_
  · intro s1 e w2 o hM h
    obtain ⟨hE, hS2⟩ := hM
    obtain ⟨e, rfl⟩ := hE.out
    refine CW.seq ?_
    refine CW.region ?_
    refine LW.p rfl rfl ?_
    refine LW.nil ?_
    show CW _ _ _ _ _ _
    refine CW.seq ?_
    refine CW.cond rfl (fun hc3 => ?_) (fun hc3 => ?_)
    · replace h := bcT h hc3
      refine CW.skip ?_
      show CW _ _ _ _ _ _
      refine CW.seq ?_
      refine CW.block ?_
      refine CW.seq ?_
      refine CW.region ?_
      iterate 2 refine LW.p rfl rfl ?_
      refine LW.nil ?_
      show CW _ _ _ _ _ _
      refine CW.seq ?_
      refine CW.region ?_
      iterate 3 refine LW.p rfl rfl ?_
      replace h := obind h
      obtain ⟨y4, hy4, h⟩ := h
      obtain ⟨b7, o8, cs9, hae, hb12, hp5, hq6, hd10, hk11⟩ := hr0_0.idx hy4
      subst hae
      obtain rfl := hd10
      refine LW.u (Pur.ix Try.underlying24 sz3 rfl rfl hp5 hq6) rfl ?_
      refine LW.l (Ldr.old w0 ag3 rfl (hk11 0 _ rfl)) (hS2.same _ hb12.1 hb12.2) rfl ?_
      refine LW.p rfl rfl ?_
      refine LW.nil ?_
      show CW _ _ _ _ _ _
      refine CW.fresh (l := [(0, .slice (some ⟨b7, o8, none⟩) x0.length c0_0), (1, .int .i64 x1), (5, .int .i64 s1), (7, .int .i64 (x0.length : Int)), (8, .int .i64 s1), (16, .bool (x1 == y4))]) ⟨rfl, rfl, rfl, rfl, rfl, rfl, trivial⟩ (fun e => ?_)
      refine CW.cond rfl (fun hc13 => ?_) (fun hc13 => ?_)
      · replace h := bcT h hc13
        refine CW.seq ?_
        refine CW.region ?_
        iterate 2 refine LW.p rfl rfl ?_
        refine LW.nil ?_
        show CW _ _ _ _ _ _
        refine CW.ret ?_
        replace h := Option.some.inj h
        subst h
        exact ⟨trivial, rfl, _, rfl, ⟨_, Res.one (resOne.t rfl), rfl, hS2.pick [] rfl rfl⟩⟩
      replace h := bcF h hc13
      refine CW.skip ?_
      show CW _ _ _ _ _ _
      refine CW.region ?_
      iterate 2 refine LW.p rfl rfl ?_
      refine LW.nil ?_
      replace h := Option.some.inj h
      subst h
      exact ⟨rfl, ⟨⟨rfl, rfl, rfl, rfl, trivial⟩, hS2.pick [] rfl rfl⟩⟩
    replace h := bcF h hc3
    refine CW.exit ?_
    replace h := Option.some.inj h
    subst h
    exact ⟨trivial, rfl, ⟨trivial, hS2.pick [] rfl rfl⟩⟩
  intro x e w16 hM
  rcases o14 with o14 | r17
  · obtain ⟨rfl, hM⟩ := hM
    obtain ⟨hE, hS3⟩ := hM
    obtain ⟨e, rfl⟩ := hE.out
    have h := h15
    show CW _ _ _ _ _ _
    refine CW.seq ?_
    refine CW.region ?_
    refine LW.p rfl rfl ?_
    refine LW.nil ?_
    show CW _ _ _ _ _ _
    refine CW.ret ?_
    cases h
    exact And.intro trivial ⟨_, Res.one (resOne.t rfl), rfl, hS3.pick [] rfl rfl⟩
  obtain ⟨rfl, u, rfl, hM⟩ := hM
  cases h15
  exact And.intro trivial hM

theorem W_z_Contains_int {w0 : World} {N : Nat} {x0 : List Int} {x1 : Int} {r : Bool} (h : F_z_Contains_int N x0 x1 = some r) {a0_0 : Option Addr} {n0_0 c0_0 : Nat} (hn0_0 : n0_0 = x0.length) (hr0_0 : rdS (Bor w0 []) w0 a0_0 c0_0 x0) :
    Ret Try.prog 76 #[.slice a0_0 n0_0 c0_0, .int .i64 x1] w0 (fun v w => v = .bool r ∧ St w0 [] w []) := by
  subst hn0_0
  unfold F_z_Contains_int at h
  refine Ret.of Try.func76 rfl rfl rfl ?_
  have hS1 := St.start w0
  refine CW.seq ?_
  refine CW.region ?_
  refine LW.p rfl rfl ?_
  refine LW.nil ?_
  show CW _ _ _ _ _ _
  refine CW.seq ?_
  refine CW.region ?_
  iterate 2 refine LW.p rfl rfl ?_
  replace h := obind h
  obtain ⟨y1, hy1, h⟩ := h
  have q := W_z_Index_int (w0 := w0) hy1 rfl (hS1.rB hr0_0)
  refine LW.call pl138 rfl rfl ?_
  refine Ret.mono q ?_
  rintro _ w2 ⟨rfl, hs⟩
  have hS2 := hS1.add hs
  iterate 2 refine LW.p rfl rfl ?_
  refine LW.nil ?_
  show CW _ _ _ _ _ _
  refine CW.ret ?_
  cases h
  exact And.intro trivial ⟨_, Res.one (resOne.t rfl), rfl, hS2.pick [] rfl rfl⟩

end Go.Kx
