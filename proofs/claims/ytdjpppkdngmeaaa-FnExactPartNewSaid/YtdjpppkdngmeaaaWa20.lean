/- Each call returns what the plain function says. Printed by drive.py. -/
import Derived.Test.YtdjpppkdngmeaaaFa
import Derived.Test.YtdjpppkdngmeaaaPu
namespace Go.Kx
open Go Go.RowKit Go.Proofs
set_option maxRecDepth 10000
set_option maxHeartbeats 2000000
set_option linter.unusedVariables false
set_option linter.unusedSimpArgs false
theorem W_l_heldTapS {w0 : World} {N : Nat} {x0 : List DTap} {x1 : Int} {r : Int} (h : F_l_heldTapS N x0 x1 = some r) {a0_0 : Option Addr} {n0_0 c0_0 : Nat} (hn0_0 : n0_0 = x0.length) (hr0_0 : rdS (Bor w0 []) w0 a0_0 c0_0 x0) :
    Ret Try.prog 101 #[.slice a0_0 n0_0 c0_0, .int .i64 x1] w0 (fun v w => v = .int .i64 r ∧ St w0 [] w []) := by
  subst hn0_0
  unfold F_l_heldTapS at h
  refine Ret.of Try.func101 rfl rfl rfl ?_
  have hS1 := St.start w0
  refine CW.seq ?_
  refine CW.region ?_
  refine LW.p rfl rfl ?_
  refine LW.nil ?_
  show CW _ _ _ _ _ _
  refine CW.seq ?_
  refine CW.seq ?_
  refine CW.region ?_
  refine LW.p rfl rfl ?_
  refine LW.nil ?_
  show CW _ _ _ _ _ _
  refine CW.block ?_
  obtain ⟨o19, ho19, h20⟩ := obind h
  refine CW.mono (CW.iter (σ := Int × Int) (ρ := (Int × Int) ⊕ Int) (fun s1 e wb => En e [(0, .slice a0_0 x0.length c0_0), (1, .int .i64 s1.1), (5, .int .i64 s1.2)] ∧ St w0 [] wb []) (fun o x e wb => match o with | .inl s1 => x = .exit 0 ∧ En e [(1, .int .i64 s1.1)] ∧ St w0 [] wb [] | .inr r => x = .ret ∧ ∃ u, u = r ∧ ∃ v, Res Try.prog Try.f101.results e wb v ∧ v = .int .i64 u ∧ St w0 [] wb []) ?_ N (x1, 0) _ _ _ ⟨⟨rfl, rfl, rfl, trivial⟩, hS1.pick [] rfl rfl⟩ ho19) ?_
  · intro s1 e w2 o hM h
    obtain ⟨hE, hS2⟩ := hM
    obtain ⟨e, rfl⟩ := hE.out
    refine CW.seq ?_
    refine CW.seq ?_
    refine CW.region ?_
    iterate 2 refine LW.p rfl rfl ?_
    refine LW.u (Pur.len Try.underlying72 rfl) rfl ?_
    refine LW.p rfl rfl ?_
    refine LW.nil ?_
    show CW _ _ _ _ _ _
    refine CW.cond rfl (fun hc3 => ?_) (fun hc3 => ?_)
    · replace h := bcT h hc3
      refine CW.skip ?_
      show CW _ _ _ _ _ _
      refine CW.seq ?_
      refine CW.block ?_
      refine CW.seq ?_
      refine CW.seq ?_
      refine CW.region ?_
      iterate 2 refine LW.p rfl rfl ?_
      replace h := obind h
      obtain ⟨y4, hy4, h⟩ := h
      obtain ⟨b7, o8, cs9, hae, hb12, hp5, hq6, hd10, hk11⟩ := hr0_0.idx hy4
      subst hae
      obtain rfl := hd10
      refine LW.u (Pur.ix Try.underlying72 sz158 rfl rfl hp5 hq6) rfl ?_
      refine LW.u (Pur.fa fo158_0 rfl) rfl ?_
      refine LW.l (Ldr.old w0 ag3 rfl (hk11 0 _ rfl)) (hS2.same _ hb12.1 hb12.2) rfl ?_
      iterate 2 refine LW.p rfl rfl ?_
      refine LW.nil ?_
      show CW _ _ _ _ _ _
      refine CW.fresh (l := [(0, .slice (some ⟨b7, o8, none⟩) x0.length c0_0), (1, .int .i64 s1.1), (5, .int .i64 s1.2), (18, .bool (y4.res != s1.1))]) ⟨rfl, rfl, rfl, rfl, trivial⟩ (fun e => ?_)
      refine CW.cond rfl (fun hc13 => ?_) (fun hc13 => ?_)
      · replace h := bcT h hc13
        refine CW.seq ?_
        refine CW.region ?_
        refine LW.p rfl rfl ?_
        refine LW.nil ?_
        show CW _ _ _ _ _ _
        refine CW.ret ?_
        replace h := Option.some.inj h
        subst h
        exact ⟨trivial, rfl, _, rfl, ⟨_, Res.one (resOne.t rfl), rfl, hS2.pick [] rfl rfl⟩⟩
      replace h := bcF h hc13
      refine CW.skip ?_
      show CW _ _ _ _ _ _
      refine CW.seq ?_
      refine CW.region ?_
      iterate 3 refine LW.p rfl rfl ?_
      refine LW.nil ?_
      show CW _ _ _ _ _ _
      refine CW.seq ?_
      refine CW.seq ?_
      refine CW.region ?_
      iterate 2 refine LW.p rfl rfl ?_
      refine LW.u (Pur.ix Try.underlying72 sz158 rfl rfl hp5 hq6) rfl ?_
      refine LW.u (Pur.fa fo158_1 rfl) rfl ?_
      refine LW.l (Ldr.old w0 ag3 rfl (hk11 1 _ rfl)) (hS2.same _ hb12.1 hb12.2) rfl ?_
      iterate 2 refine LW.p rfl rfl ?_
      refine LW.nil ?_
      show CW _ _ _ _ _ _
      refine CW.cond rfl (fun hc14 => ?_) (fun hc14 => ?_)
      · replace h := bcT h hc14
        refine CW.seq ?_
        refine CW.region ?_
        refine LW.p rfl rfl ?_
        refine LW.nil ?_
        show CW _ _ _ _ _ _
        refine CW.ret ?_
        replace h := Option.some.inj h
        subst h
        exact ⟨trivial, rfl, _, rfl, ⟨_, Res.one (resOne.t rfl), rfl, hS2.pick [] rfl rfl⟩⟩
      replace h := bcF h hc14
      refine CW.skip ?_
      show CW _ _ _ _ _ _
      refine CW.seq ?_
      refine CW.region ?_
      iterate 3 refine LW.p rfl rfl ?_
      refine LW.nil ?_
      show CW _ _ _ _ _ _
      refine CW.fresh (l := [(0, .slice (some ⟨b7, o8, none⟩) x0.length c0_0), (1, .int .i64 (IntKind.i64.wrap ((IntKind.i64.wrap (s1.1 + 1)) + 1))), (5, .int .i64 s1.2)]) ⟨rfl, rfl, rfl, trivial⟩ (fun e => ?_)
      refine CW.seq ?_
      refine CW.seq ?_
      refine CW.region ?_
      iterate 2 refine LW.p rfl rfl ?_
      refine LW.u (Pur.ix Try.underlying72 sz158 rfl rfl hp5 hq6) rfl ?_
      refine LW.u (Pur.fa fo158_2 rfl) rfl ?_
      refine LW.l (Ldr.old w0 ag3 rfl (hk11 2 _ rfl)) (hS2.same _ hb12.1 hb12.2) rfl ?_
      iterate 2 refine LW.p rfl rfl ?_
      refine LW.nil ?_
      show CW _ _ _ _ _ _
      refine CW.cond rfl (fun hc15 => ?_) (fun hc15 => ?_)
      · replace h := bcT h hc15
        refine CW.seq ?_
        refine CW.region ?_
        refine LW.p rfl rfl ?_
        refine LW.nil ?_
        show CW _ _ _ _ _ _
        refine CW.ret ?_
        replace h := Option.some.inj h
        subst h
        exact ⟨trivial, rfl, _, rfl, ⟨_, Res.one (resOne.t rfl), rfl, hS2.pick [] rfl rfl⟩⟩
      replace h := bcF h hc15
      refine CW.skip ?_
      show CW _ _ _ _ _ _
      refine CW.seq ?_
      refine CW.region ?_
      iterate 3 refine LW.p rfl rfl ?_
      refine LW.nil ?_
      show CW _ _ _ _ _ _
      refine CW.seq ?_
      refine CW.seq ?_
      refine CW.region ?_
      iterate 2 refine LW.p rfl rfl ?_
      refine LW.u (Pur.ix Try.underlying72 sz158 rfl rfl hp5 hq6) rfl ?_
      refine LW.u (Pur.fa fo158_3 rfl) rfl ?_
      refine LW.l (Ldr.old w0 ag3 rfl (hk11 3 _ rfl)) (hS2.same _ hb12.1 hb12.2) rfl ?_
      iterate 2 refine LW.p rfl rfl ?_
      refine LW.nil ?_
      show CW _ _ _ _ _ _
      refine CW.fresh (l := [(0, .slice (some ⟨b7, o8, none⟩) x0.length c0_0), (1, .int .i64 (IntKind.i64.wrap ((IntKind.i64.wrap ((IntKind.i64.wrap (s1.1 + 1)) + 1)) + 1))), (5, .int .i64 s1.2), (45, .bool (y4.which != (IntKind.i64.wrap ((IntKind.i64.wrap ((IntKind.i64.wrap (s1.1 + 1)) + 1)) + 1))))]) ⟨rfl, rfl, rfl, rfl, trivial⟩ (fun e => ?_)
      refine CW.cond rfl (fun hc16 => ?_) (fun hc16 => ?_)
      · replace h := bcT h hc16
        refine CW.seq ?_
        refine CW.region ?_
        refine LW.p rfl rfl ?_
        refine LW.nil ?_
        show CW _ _ _ _ _ _
        refine CW.ret ?_
        replace h := Option.some.inj h
        subst h
        exact ⟨trivial, rfl, _, rfl, ⟨_, Res.one (resOne.t rfl), rfl, hS2.pick [] rfl rfl⟩⟩
      replace h := bcF h hc16
      refine CW.skip ?_
      show CW _ _ _ _ _ _
      refine CW.seq ?_
      refine CW.region ?_
      iterate 3 refine LW.p rfl rfl ?_
      refine LW.nil ?_
      show CW _ _ _ _ _ _
      refine CW.seq ?_
      refine CW.seq ?_
      refine CW.region ?_
      iterate 2 refine LW.p rfl rfl ?_
      refine LW.u (Pur.ix Try.underlying72 sz158 rfl rfl hp5 hq6) rfl ?_
      refine LW.u (Pur.fa fo158_4 rfl) rfl ?_
      refine LW.l (Ldr.old w0 ag3 rfl (hk11 4 _ rfl)) (hS2.same _ hb12.1 hb12.2) rfl ?_
      iterate 2 refine LW.p rfl rfl ?_
      refine LW.nil ?_
      show CW _ _ _ _ _ _
      refine CW.cond rfl (fun hc17 => ?_) (fun hc17 => ?_)
      · replace h := bcT h hc17
        refine CW.seq ?_
        refine CW.region ?_
        refine LW.p rfl rfl ?_
        refine LW.nil ?_
        show CW _ _ _ _ _ _
        refine CW.ret ?_
        replace h := Option.some.inj h
        subst h
        exact ⟨trivial, rfl, _, rfl, ⟨_, Res.one (resOne.t rfl), rfl, hS2.pick [] rfl rfl⟩⟩
      replace h := bcF h hc17
      refine CW.skip ?_
      show CW _ _ _ _ _ _
      refine CW.seq ?_
      refine CW.region ?_
      iterate 3 refine LW.p rfl rfl ?_
      refine LW.nil ?_
      show CW _ _ _ _ _ _
      refine CW.fresh (l := [(0, .slice (some ⟨b7, o8, none⟩) x0.length c0_0), (1, .int .i64 (IntKind.i64.wrap ((IntKind.i64.wrap ((IntKind.i64.wrap ((IntKind.i64.wrap ((IntKind.i64.wrap (s1.1 + 1)) + 1)) + 1)) + 1)) + 1))), (5, .int .i64 s1.2)]) ⟨rfl, rfl, rfl, trivial⟩ (fun e => ?_)
      refine CW.seq ?_
      refine CW.seq ?_
      refine CW.region ?_
      iterate 2 refine LW.p rfl rfl ?_
      refine LW.u (Pur.ix Try.underlying72 sz158 rfl rfl hp5 hq6) rfl ?_
      refine LW.u (Pur.fa fo158_5 rfl) rfl ?_
      refine LW.l (Ldr.old w0 ag3 rfl (hk11 5 _ rfl)) (hS2.same _ hb12.1 hb12.2) rfl ?_
      iterate 2 refine LW.p rfl rfl ?_
      refine LW.nil ?_
      show CW _ _ _ _ _ _
      refine CW.cond rfl (fun hc18 => ?_) (fun hc18 => ?_)
      · replace h := bcT h hc18
        refine CW.seq ?_
        refine CW.region ?_
        refine LW.p rfl rfl ?_
        refine LW.nil ?_
        show CW _ _ _ _ _ _
        refine CW.ret ?_
        replace h := Option.some.inj h
        subst h
        exact ⟨trivial, rfl, _, rfl, ⟨_, Res.one (resOne.t rfl), rfl, hS2.pick [] rfl rfl⟩⟩
      replace h := bcF h hc18
      refine CW.skip ?_
      show CW _ _ _ _ _ _
      refine CW.region ?_
      iterate 3 refine LW.p rfl rfl ?_
      refine LW.nil ?_
      show CW _ _ _ _ _ _
      refine CW.region ?_
      iterate 3 refine LW.p rfl rfl ?_
      refine LW.nil ?_
      replace h := Option.some.inj h
      subst h
      exact ⟨rfl, ⟨⟨rfl, rfl, rfl, trivial⟩, hS2.pick [] rfl rfl⟩⟩
    replace h := bcF h hc3
    refine CW.exit ?_
    replace h := Option.some.inj h
    subst h
    exact ⟨trivial, rfl, ⟨⟨rfl, trivial⟩, hS2.pick [] rfl rfl⟩⟩
  intro x e w21 hM
  rcases o19 with o19 | r22
  · obtain ⟨rfl, hM⟩ := hM
    obtain ⟨hE, hS3⟩ := hM
    obtain ⟨e, rfl⟩ := hE.out
    have h := h20
    show CW _ _ _ _ _ _
    refine CW.seq ?_
    refine CW.region ?_
    iterate 2 refine LW.p rfl rfl ?_
    refine LW.nil ?_
    show CW _ _ _ _ _ _
    refine CW.ret ?_
    cases h
    exact And.intro trivial ⟨_, Res.one (resOne.t rfl), rfl, hS3.pick [] rfl rfl⟩
  obtain ⟨rfl, u, rfl, hM⟩ := hM
  cases h20
  exact And.intro trivial hM

end Go.Kx
