/- Each call returns what the plain function says. Printed by drive.py. -/
import Derived.Test.YtecnkfamlpjbgaaFa
import Derived.Test.YtecnkfamlpjbgaaPu
import Derived.Test.YtecnkfamlpjbgaaWa0
namespace Go.Kx
open Go Go.RowKit Go.Proofs
set_option maxRecDepth 10000
set_option maxHeartbeats 2000000
set_option linter.unusedVariables false
set_option linter.unusedSimpArgs false
theorem W_s_l5In {w0 : World} {N : Nat} {x0 : Int} {r : Bool} (h : F_s_l5In N x0 = some r) :
    Ret Try.prog 37 #[.int .i64 x0] w0 (fun v w => v = .bool r ∧ St w0 [] w []) := by
  unfold F_s_l5In at h
  refine Ret.of Try.func37 rfl rfl rfl ?_
  have hS1 := St.start w0
  refine CW.seq ?_
  refine CW.region ?_
  refine LW.p rfl rfl ?_
  refine LW.nil ?_
  show CW _ _ _ _ _ _
  refine CW.seq ?_
  refine CW.region ?_
  refine LW.p rfl rfl ?_
  replace h := obind h
  obtain ⟨y1, hy1, h⟩ := h
  have q := W_s_l1In (w0 := w0) hy1
  refine LW.call pl35 rfl rfl ?_
  refine Ret.mono q ?_
  rintro _ w2 ⟨rfl, hs⟩
  have hS2 := hS1.add hs
  refine LW.p rfl rfl ?_
  refine LW.nil ?_
  show CW _ _ _ _ _ _
  refine CW.ret ?_
  cases h
  exact And.intro trivial ⟨_, Res.one (resOne.t rfl), rfl, hS2.pick [] rfl rfl⟩

theorem W_s_QuotaNew {w0 : World} {N : Nat} {x0 : Int} {r : (List DNode) × Bool} (h : F_s_QuotaNew N x0 = some r) :
    Ret Try.prog 11 #[.int .i64 x0] w0 (fun v w => ∃ ar0 cr0, v = .tuple #[.slice ar0 r.1.length cr0, .bool r.2] ∧ St w0 [] w [sl ar0 cr0 r.1]) := by
  unfold F_s_QuotaNew at h
  refine Ret.of Try.func11 rfl rfl rfl ?_
  have hS1 := St.start w0
  refine CW.seq ?_
  refine CW.region ?_
  iterate 2 refine LW.p rfl rfl ?_
  refine LW.nil ?_
  show CW _ _ _ _ _ _
  refine CW.seq ?_
  refine CW.seq ?_
  refine CW.region ?_
  refine LW.p rfl rfl ?_
  replace h := obind h
  obtain ⟨y1, hy1, h⟩ := h
  have q := W_s_l5In (w0 := w0) hy1
  refine LW.call pl37 rfl rfl ?_
  refine Ret.mono q ?_
  rintro _ w2 ⟨rfl, hs⟩
  have hS2 := hS1.add hs
  refine LW.p rfl rfl ?_
  refine LW.nil ?_
  show CW _ _ _ _ _ _
  refine CW.cond rfl (fun hc3 => ?_) (fun hc3 => ?_)
  · replace h := bcT h hc3
    refine CW.seq ?_
    refine CW.region ?_
    refine LW.bsl (α := DNode) (vs := []) (cs := #[]) (l := ([] : List DNode)) rfl (by kernel_rfl) rfl rfl rfl (fun w => rfl) hS2 rfl ?_
    intro a4 c5 w6 hS3 hf
    iterate 2 refine LW.p rfl rfl ?_
    refine LW.nil ?_
    show CW _ _ _ _ _ _
    refine CW.ret ?_
    cases h
    exact And.intro trivial ⟨_, Res.two (resOne.t rfl) (resOne.t rfl), a4, c5, rfl, hS3.pick [0] rfl rfl⟩
  replace h := bcF h hc3
  refine CW.skip ?_
  show CW _ _ _ _ _ _
  refine CW.seq ?_
  refine CW.region ?_
  refine LW.p rfl rfl ?_
  refine LW.u (Pur.build (vs := [(0, .int .i64 (-1)), (1, .int .i64 x0)]) (cs := #[.int .i64 (-1), .int .i64 x0, .int .i64 0]) rfl (by kernel_rfl)) rfl ?_
  refine LW.bsl (α := DNode) (vs := [(0, .agg #[.int .i64 (-1), .int .i64 x0, .int .i64 0])]) (cs := #[.int .i64 (-1), .int .i64 x0, .int .i64 0]) (l := ([DNode.mk (-1) x0 0] : List DNode)) rfl (by kernel_rfl) rfl rfl rfl (fun w => ⟨[.int .i64 (-1), .int .i64 x0, .int .i64 0], [], [], [], rfl, rfl, ⟨rfl, rfl⟩, rfl⟩) hS2 rfl ?_
  intro a7 c8 w9 hS4 hf
  iterate 2 refine LW.p rfl rfl ?_
  refine LW.nil ?_
  show CW _ _ _ _ _ _
  refine CW.ret ?_
  cases h
  exact And.intro trivial ⟨_, Res.two (resOne.t rfl) (resOne.t rfl), a7, c8, rfl, hS4.pick [0] rfl rfl⟩

theorem W_i_isAmount {w0 : World} {N : Nat} {x0 : Int} {r : Bool} (h : F_i_isAmount N x0 = some r) :
    Ret Try.prog 38 #[.int .i64 x0] w0 (fun v w => v = .bool r ∧ St w0 [] w []) := by
  unfold F_i_isAmount at h
  refine Ret.of Try.func38 rfl rfl rfl ?_
  have hS1 := St.start w0
  refine CW.seq ?_
  refine CW.region ?_
  refine LW.p rfl rfl ?_
  refine LW.nil ?_
  show CW _ _ _ _ _ _
  refine CW.seq ?_
  refine CW.region ?_
  refine LW.p rfl rfl ?_
  replace h := obind h
  obtain ⟨y1, hy1, h⟩ := h
  have q := W_i_within (w0 := w0) hy1
  refine LW.call pl36 rfl rfl ?_
  refine Ret.mono q ?_
  rintro _ w2 ⟨rfl, hs⟩
  have hS2 := hS1.add hs
  refine LW.p rfl rfl ?_
  refine LW.nil ?_
  show CW _ _ _ _ _ _
  refine CW.ret ?_
  cases h
  exact And.intro trivial ⟨_, Res.one (resOne.t rfl), rfl, hS2.pick [] rfl rfl⟩

theorem W_i_QuotaNew {w0 : World} {N : Nat} {x0 : Int} {r : (List DNode) × Bool} (h : F_i_QuotaNew N x0 = some r) :
    Ret Try.prog 12 #[.int .i64 x0] w0 (fun v w => ∃ ar0 cr0, v = .tuple #[.slice ar0 r.1.length cr0, .bool r.2] ∧ St w0 [] w [sl ar0 cr0 r.1]) := by
  unfold F_i_QuotaNew at h
  refine Ret.of Try.func12 rfl rfl rfl ?_
  have hS1 := St.start w0
  refine CW.seq ?_
  refine CW.region ?_
  iterate 2 refine LW.p rfl rfl ?_
  refine LW.nil ?_
  show CW _ _ _ _ _ _
  refine CW.seq ?_
  refine CW.seq ?_
  refine CW.region ?_
  refine LW.p rfl rfl ?_
  replace h := obind h
  obtain ⟨y1, hy1, h⟩ := h
  have q := W_i_isAmount (w0 := w0) hy1
  refine LW.call pl38 rfl rfl ?_
  refine Ret.mono q ?_
  rintro _ w2 ⟨rfl, hs⟩
  have hS2 := hS1.add hs
  refine LW.p rfl rfl ?_
  refine LW.nil ?_
  show CW _ _ _ _ _ _
  refine CW.cond rfl (fun hc3 => ?_) (fun hc3 => ?_)
  · replace h := bcT h hc3
    refine CW.seq ?_
    refine CW.region ?_
    iterate 2 refine LW.p rfl rfl ?_
    refine LW.nil ?_
    show CW _ _ _ _ _ _
    refine CW.ret ?_
    cases h
    have hS3 := hS2.nil (α := DNode)
    exact And.intro trivial ⟨_, Res.two (resOne.t rfl) (resOne.t rfl), none, 0, rfl, hS3.pick [0] rfl rfl⟩
  replace h := bcF h hc3
  refine CW.skip ?_
  show CW _ _ _ _ _ _
  refine CW.seq ?_
  refine CW.region ?_
  refine LW.p rfl rfl ?_
  refine LW.u (Pur.build (vs := [(0, .int .i64 (-1)), (1, .int .i64 x0)]) (cs := #[.int .i64 (-1), .int .i64 x0, .int .i64 0]) rfl (by kernel_rfl)) rfl ?_
  refine LW.bsl (α := DNode) (vs := [(0, .agg #[.int .i64 (-1), .int .i64 x0, .int .i64 0])]) (cs := #[.int .i64 (-1), .int .i64 x0, .int .i64 0]) (l := ([DNode.mk (-1) x0 0] : List DNode)) rfl (by kernel_rfl) rfl rfl rfl (fun w => ⟨[.int .i64 (-1), .int .i64 x0, .int .i64 0], [], [], [], rfl, rfl, ⟨rfl, rfl⟩, rfl⟩) hS2 rfl ?_
  intro a4 c5 w6 hS4 hf
  iterate 2 refine LW.p rfl rfl ?_
  refine LW.nil ?_
  show CW _ _ _ _ _ _
  refine CW.ret ?_
  cases h
  exact And.intro trivial ⟨_, Res.two (resOne.t rfl) (resOne.t rfl), a4, c5, rfl, hS4.pick [0] rfl rfl⟩

theorem W_l_eqNode {w0 : World} {N : Nat} {x0 : DNode} {x1 : DNode} {r : Bool} (h : F_l_eqNode N x0 x1 = some r) :
    Ret Try.prog 39 #[.agg #[.int .i64 x0.parent, .int .i64 x0.limit, .int .i64 x0.used], .agg #[.int .i64 x1.parent, .int .i64 x1.limit, .int .i64 x1.used]] w0 (fun v w => v = .bool r ∧ St w0 [] w []) := by
  unfold F_l_eqNode at h
  refine Ret.of Try.func39 rfl rfl rfl ?_
  have hS1 := St.start w0
  refine CW.seq ?_
  refine CW.region ?_
  refine LW.box (cs := [.int .i64 x0.parent, .int .i64 x0.limit, .int .i64 x0.used]) rfl hS1 rfl ?_
  intro g1 w2 hS2 hf
  refine LW.box (cs := [.int .i64 x1.parent, .int .i64 x1.limit, .int .i64 x1.used]) rfl hS2 rfl ?_
  intro g3 w4 hS3 hf
  refine LW.p rfl rfl ?_
  refine LW.nil ?_
  show CW _ _ _ _ _ _
  refine CW.seq ?_
  refine CW.seq ?_
  refine CW.region ?_
  refine LW.u (Pur.fa fo67_0 rfl) rfl ?_
  refine LW.ldb hS3 1 rfl ag3 rfl rfl rfl ?_
  refine LW.u (Pur.fa fo67_0 rfl) rfl ?_
  refine LW.ldb hS3 0 rfl ag3 rfl rfl rfl ?_
  refine LW.p rfl rfl ?_
  refine LW.nil ?_
  show CW _ _ _ _ _ _
  refine CW.cond rfl (fun hc5 => ?_) (fun hc5 => ?_)
  · replace h := bcT h hc5
    refine CW.seq ?_
    refine CW.region ?_
    refine LW.p rfl rfl ?_
    refine LW.nil ?_
    show CW _ _ _ _ _ _
    refine CW.ret ?_
    cases h
    exact And.intro trivial ⟨_, Res.one (resOne.t rfl), rfl, hS3.pick [] rfl rfl⟩
  replace h := bcF h hc5
  refine CW.skip ?_
  show CW _ _ _ _ _ _
  refine CW.seq ?_
  refine CW.seq ?_
  refine CW.region ?_
  refine LW.u (Pur.fa fo67_1 rfl) rfl ?_
  refine LW.ldb hS3 1 rfl ag3 rfl rfl rfl ?_
  refine LW.u (Pur.fa fo67_1 rfl) rfl ?_
  refine LW.ldb hS3 0 rfl ag3 rfl rfl rfl ?_
  refine LW.p rfl rfl ?_
  refine LW.nil ?_
  show CW _ _ _ _ _ _
  refine CW.fresh (l := [(2, .pointer (some ⟨g1, 0, none⟩)), (3, .pointer (some ⟨g3, 0, none⟩)), (14, .bool (x0.limit != x1.limit))]) ⟨rfl, rfl, rfl, trivial⟩ (fun e => ?_)
  refine CW.cond rfl (fun hc6 => ?_) (fun hc6 => ?_)
  · replace h := bcT h hc6
    refine CW.seq ?_
    refine CW.region ?_
    refine LW.p rfl rfl ?_
    refine LW.nil ?_
    show CW _ _ _ _ _ _
    refine CW.ret ?_
    cases h
    exact And.intro trivial ⟨_, Res.one (resOne.t rfl), rfl, hS3.pick [] rfl rfl⟩
  replace h := bcF h hc6
  refine CW.skip ?_
  show CW _ _ _ _ _ _
  refine CW.seq ?_
  refine CW.seq ?_
  refine CW.region ?_
  refine LW.u (Pur.fa fo67_2 rfl) rfl ?_
  refine LW.ldb hS3 1 rfl ag3 rfl rfl rfl ?_
  refine LW.u (Pur.fa fo67_2 rfl) rfl ?_
  refine LW.ldb hS3 0 rfl ag3 rfl rfl rfl ?_
  refine LW.p rfl rfl ?_
  refine LW.nil ?_
  show CW _ _ _ _ _ _
  refine CW.cond rfl (fun hc7 => ?_) (fun hc7 => ?_)
  · replace h := bcT h hc7
    refine CW.seq ?_
    refine CW.region ?_
    refine LW.p rfl rfl ?_
    refine LW.nil ?_
    show CW _ _ _ _ _ _
    refine CW.ret ?_
    cases h
    exact And.intro trivial ⟨_, Res.one (resOne.t rfl), rfl, hS3.pick [] rfl rfl⟩
  replace h := bcF h hc7
  refine CW.skip ?_
  show CW _ _ _ _ _ _
  refine CW.seq ?_
  refine CW.region ?_
  refine LW.p rfl rfl ?_
  refine LW.nil ?_
  show CW _ _ _ _ _ _
  refine CW.ret ?_
  cases h
  exact And.intro trivial ⟨_, Res.one (resOne.t rfl), rfl, hS3.pick [] rfl rfl⟩

theorem W_l_eqNodeS {w0 : World} {N : Nat} {x0 : List DNode} {x1 : List DNode} {r : Bool} (h : F_l_eqNodeS N x0 x1 = some r) {a0_0 : Option Addr} {n0_0 c0_0 : Nat} (hn0_0 : n0_0 = x0.length) (hr0_0 : rdS (Bor w0 []) w0 a0_0 c0_0 x0) {a1_0 : Option Addr} {n1_0 c1_0 : Nat} (hn1_0 : n1_0 = x1.length) (hr1_0 : rdS (Bor w0 []) w0 a1_0 c1_0 x1) :
    Ret Try.prog 13 #[.slice a0_0 n0_0 c0_0, .slice a1_0 n1_0 c1_0] w0 (fun v w => v = .bool r ∧ St w0 [] w []) := by
  subst hn0_0
  subst hn1_0
  unfold F_l_eqNodeS at h
  refine Ret.of Try.func13 rfl rfl rfl ?_
  have hS1 := St.start w0
  refine CW.seq ?_
  refine CW.region ?_
  refine LW.p rfl rfl ?_
  refine LW.nil ?_
  show CW _ _ _ _ _ _
  refine CW.seq ?_
  refine CW.seq ?_
  refine CW.region ?_
  refine LW.p rfl rfl ?_
  refine LW.u (Pur.len Try.underlying24 rfl) rfl ?_
  refine LW.p rfl rfl ?_
  refine LW.u (Pur.len Try.underlying24 rfl) rfl ?_
  refine LW.p rfl rfl ?_
  refine LW.nil ?_
  show CW _ _ _ _ _ _
  refine CW.cond rfl (fun hc1 => ?_) (fun hc1 => ?_)
  · replace h := bcT h hc1
    refine CW.seq ?_
    refine CW.region ?_
    refine LW.p rfl rfl ?_
    refine LW.nil ?_
    show CW _ _ _ _ _ _
    refine CW.ret ?_
    cases h
    exact And.intro trivial ⟨_, Res.one (resOne.t rfl), rfl, hS1.pick [] rfl rfl⟩
  replace h := bcF h hc1
  refine CW.skip ?_
  show CW _ _ _ _ _ _
  refine CW.seq ?_
  refine CW.seq ?_
  refine CW.region ?_
  refine LW.p rfl rfl ?_
  refine LW.nil ?_
  show CW _ _ _ _ _ _
  refine CW.block ?_
  obtain ⟨o25, ho25, h26⟩ := obind h
  refine CW.mono (CW.iter (σ := Int) (ρ := Int ⊕ Bool) (fun s2 e w => En e [(0, .slice a0_0 x0.length c0_0), (1, .slice a1_0 x1.length c1_0), (5, .int .i64 s2)] ∧ St w0 [] w []) (fun o x e w => match o with | .inl s2 => x = .exit 0 ∧ En e [] ∧ St w0 [] w [] | .inr r => x = .ret ∧ ∃ u, u = r ∧ ∃ v, Res Try.prog Try.f13.results e w v ∧ v = .bool u ∧ St w0 [] w []) ?_ N 0 _ _ _ ⟨⟨rfl, rfl, rfl, trivial⟩, hS1.pick [] rfl rfl⟩ ho25) ?_
  · intro s2 e w o hM h
    obtain ⟨hE, hS2⟩ := hM
    obtain ⟨e, rfl⟩ := hE.out
    refine CW.seq ?_
    refine CW.seq ?_
    refine CW.region ?_
    iterate 2 refine LW.p rfl rfl ?_
    refine LW.u (Pur.len Try.underlying24 rfl) rfl ?_
    refine LW.p rfl rfl ?_
    refine LW.nil ?_
    show CW _ _ _ _ _ _
    refine CW.cond rfl (fun hc3 => ?_) (fun hc3 => ?_)
    · replace h := bcT h hc3
      refine CW.skip ?_
      show CW _ _ _ _ _ _
      refine CW.seq ?_
      refine CW.block ?_
      refine CW.seq ?_
      refine CW.draw (by kernel_rfl) ?_
      have hS3 := hS2.drew
      refine AW.u (i := 0) rfl (by kernel_rfl) rfl rfl (Pur.p rfl) ?_
      refine AW.u (i := 1) rfl (by kernel_rfl) rfl rfl (Pur.p rfl) ?_
      replace h := obind h
      obtain ⟨y4, hy4, h⟩ := h
      obtain ⟨b7, o8, cs9, hae, hb12, hp5, hq6, hd10, hk11⟩ := hr0_0.idx hy4
      subst hae
      obtain rfl := hd10
      refine AW.u (i := 2) rfl (by kernel_rfl) rfl rfl (Pur.ix Try.underlying24 sz67 rfl rfl hp5 hq6) ?_
      refine AW.take (i := 3) rfl (by kernel_rfl) rfl rfl (Ldr.oldN w0 ag67 rfl rfl (fun j u hu => hk11 j u hu)) (hS3.same _ hb12.1 hb12.2) ?_
      refine AW.u (i := 4) rfl (by kernel_rfl) rfl rfl (Pur.p rfl) ?_
      refine AW.u (i := 5) rfl (by kernel_rfl) rfl rfl (Pur.p rfl) ?_
      replace h := obind h
      obtain ⟨y13, hy13, h⟩ := h
      obtain ⟨b16, o17, cs18, hae, hb21, hp14, hq15, hd19, hk20⟩ := hr1_0.idx hy13
      subst hae
      obtain rfl := hd19
      refine AW.u (i := 6) rfl (by kernel_rfl) rfl rfl (Pur.ix Try.underlying24 sz67 rfl rfl hp14 hq15) ?_
      refine AW.take (i := 7) rfl (by kernel_rfl) rfl rfl (Ldr.oldN w0 ag67 rfl rfl (fun j u hu => hk20 j u hu)) (hS3.same _ hb21.1 hb21.2) ?_
      replace h := obind h
      obtain ⟨y22, hy22, h⟩ := h
      have q := W_l_eqNode (w0 := w.drew) hy22
      refine AW.one (i := 8) (by kernel_rfl) ?_
      refine ⟨_, rfl, ?_⟩
      refine LW.call pl39 rfl rfl ?_
      refine Ret.mono q ?_
      rintro _ w23 ⟨rfl, hs⟩
      have hS4 := hS3.add hs
      refine LW.nil ⟨rfl, (.w (by kernel_rfl) (.w (by kernel_rfl) Kept.n)), ?_⟩
      refine AW.u (i := 9) rfl (by kernel_rfl) rfl rfl (Pur.p rfl) ?_
      refine AW.done (by kernel_rfl) ?_
      show CW _ _ _ _ _ _
      refine CW.cond rfl (fun hc24 => ?_) (fun hc24 => ?_)
      · replace h := bcT h hc24
        refine CW.seq ?_
        refine CW.region ?_
        refine LW.p rfl rfl ?_
        refine LW.nil ?_
        show CW _ _ _ _ _ _
        refine CW.ret ?_
        replace h := Option.some.inj h
        subst h
        exact ⟨trivial, rfl, _, rfl, ⟨_, Res.one (resOne.t rfl), rfl, hS4.pick [] rfl rfl⟩⟩
      replace h := bcF h hc24
      refine CW.skip ?_
      show CW _ _ _ _ _ _
      refine CW.region ?_
      iterate 3 refine LW.p rfl rfl ?_
      refine LW.nil ?_
      replace h := Option.some.inj h
      subst h
      exact ⟨rfl, ⟨⟨rfl, rfl, rfl, trivial⟩, hS4.pick [] rfl rfl⟩⟩
    replace h := bcF h hc3
    refine CW.exit ?_
    replace h := Option.some.inj h
    subst h
    exact ⟨trivial, rfl, ⟨trivial, hS2.pick [] rfl rfl⟩⟩
  intro x e w27 hM
  rcases o25 with o25 | r28
  · obtain ⟨rfl, hM⟩ := hM
    obtain ⟨hE, hS5⟩ := hM
    obtain ⟨e, rfl⟩ := hE.out
    have h := h26
    show CW _ _ _ _ _ _
    refine CW.seq ?_
    refine CW.region ?_
    refine LW.p rfl rfl ?_
    refine LW.nil ?_
    show CW _ _ _ _ _ _
    refine CW.ret ?_
    cases h
    exact And.intro trivial ⟨_, Res.one (resOne.t rfl), rfl, hS5.pick [] rfl rfl⟩
  obtain ⟨rfl, u, rfl, hM⟩ := hM
  cases h26
  exact And.intro trivial hM

theorem W_l_markNodeS {w0 : World} {F : List Nat} {N : Nat} {x0 : List DNode} {x1 : Int} {r : Int × (List DNode)} (h : F_l_markNodeS N x0 x1 = some r) {a0_0 : Option Addr} {n0_0 c0_0 : Nat} (hn0_0 : n0_0 = x0.length) (hS : St w0 F w0 [sl a0_0 c0_0 x0]) :
    Ret Try.prog 14 #[.slice a0_0 n0_0 c0_0, .int .i64 x1] w0 (fun v w => v = .int .i64 r.1 ∧ St w0 F w [sl a0_0 c0_0 r.2]) := by
  subst hn0_0
  unfold F_l_markNodeS at h
  refine Ret.of Try.func14 rfl rfl rfl ?_
  refine CW.seq ?_
  refine CW.region ?_
  refine LW.p rfl rfl ?_
  refine LW.nil ?_
  show CW _ _ _ _ _ _
  refine CW.seq ?_
  refine CW.seq ?_
  refine CW.region ?_
  refine LW.p rfl rfl ?_
  refine LW.nil ?_
  show CW _ _ _ _ _ _
  refine CW.block ?_
  obtain ⟨o24, ho24, h25⟩ := obind h
  refine CW.mono (CW.iter (σ := (List DNode) × Int × Int) (ρ := (List DNode) × Int × Int) (fun s1 e w => En e [(0, .slice a0_0 s1.1.length c0_0), (1, .int .i64 s1.2.1), (5, .int .i64 s1.2.2)] ∧ St w0 F w [sl a0_0 c0_0 s1.1]) (fun s1 x e w => x = .exit 0 ∧ En e [(1, .int .i64 s1.2.1)] ∧ St w0 F w [sl a0_0 c0_0 s1.1]) ?_ N (x0, x1, 0) _ _ _ ⟨⟨rfl, rfl, rfl, trivial⟩, hS.pick [0] rfl rfl⟩ ho24) ?_
  · intro s1 e w o hM h
    obtain ⟨hE, hS1⟩ := hM
    obtain ⟨e, rfl⟩ := hE.out
    refine CW.seq ?_
    refine CW.seq ?_
    refine CW.region ?_
    iterate 2 refine LW.p rfl rfl ?_
    refine LW.u (Pur.len Try.underlying24 rfl) rfl ?_
    refine LW.p rfl rfl ?_
    refine LW.nil ?_
    show CW _ _ _ _ _ _
    refine CW.cond rfl (fun hc2 => ?_) (fun hc2 => ?_)
    · replace h := bcT h hc2
      refine CW.skip ?_
      show CW _ _ _ _ _ _
      refine CW.seq ?_
      refine CW.block ?_
      refine CW.seq ?_
      refine CW.region ?_
      iterate 3 refine LW.p rfl rfl ?_
      replace h := obind h
      obtain ⟨y3, hy3, h⟩ := h
      obtain ⟨b6, o7, hae, hp4, hq5⟩ := hS1.ownIdx (α := DNode) (i := 0) rfl hy3
      subst hae
      refine LW.u (Pur.ix Try.underlying24 sz67 rfl rfl hp4 hq5) rfl ?_
      refine LW.u (Pur.fa fo67_0 rfl) rfl ?_
      replace h := obind h
      obtain ⟨y8, hy8, h⟩ := h
      refine LW.stE (M := []) (L := [sl (some ⟨b6, o7, none⟩) c0_0 s1.1]) (z := y3) (z' := (DNode.mk s1.2.1 y3.limit y3.used)) (o := 0) hS1 (i := 0) rfl hy3 ag3 rfl (by show _ = o7 + (s1.2.2 : Int).toNat * 3 + 0; omega) rfl rfl rfl rfl (leafF (fun w cs F hF => by obtain ⟨rfl, rfl⟩ := hF; exact ⟨rfl, rfl⟩)) ?_
      intro w9 hS2 hf
      rw [Option.some.inj hy8] at hS2
      refine LW.nil ?_
      show CW _ _ _ _ _ _
      refine CW.fresh (l := [(0, .slice (some ⟨b6, o7, none⟩) s1.1.length c0_0), (1, .int .i64 s1.2.1), (5, .int .i64 s1.2.2)]) ⟨rfl, rfl, rfl, trivial⟩ (fun e => ?_)
      refine CW.seq ?_
      refine CW.region ?_
      iterate 3 refine LW.p rfl rfl ?_
      refine LW.nil ?_
      show CW _ _ _ _ _ _
      refine CW.seq ?_
      refine CW.region ?_
      iterate 3 refine LW.p rfl rfl ?_
      replace h := obind h
      obtain ⟨y10, hy10, h⟩ := h
      obtain ⟨b13, o14, hae, hp11, hq12⟩ := hS2.ownIdx (α := DNode) (i := 0) rfl hy10
      cases hae
      refine LW.u (Pur.ix Try.underlying24 sz67 rfl rfl hp11 (by rw [show s1.1.length = y8.length from (len_set (Option.some.inj hy8))]; exact hq12)) rfl ?_
      refine LW.u (Pur.fa fo67_1 rfl) rfl ?_
      replace h := obind h
      obtain ⟨y15, hy15, h⟩ := h
      refine LW.stE (M := []) (L := [sl (some ⟨b6, o7, none⟩) c0_0 y8]) (z := y10) (z' := (DNode.mk y10.parent (IntKind.i64.wrap (s1.2.1 + 1)) y10.used)) (o := 1) hS2 (i := 0) rfl hy10 ag3 rfl (by show _ = o7 + (s1.2.2 : Int).toNat * 3 + 1; omega) rfl rfl rfl rfl (leafF (fun w cs F hF => by obtain ⟨rfl, rfl⟩ := hF; exact ⟨rfl, rfl⟩)) ?_
      intro w16 hS3 hf
      rw [Option.some.inj hy15] at hS3
      refine LW.nil ?_
      show CW _ _ _ _ _ _
      refine CW.seq ?_
      refine CW.region ?_
      iterate 3 refine LW.p rfl rfl ?_
      refine LW.nil ?_
      show CW _ _ _ _ _ _
      refine CW.fresh (l := [(0, .slice (some ⟨b6, o7, none⟩) s1.1.length c0_0), (1, .int .i64 (IntKind.i64.wrap ((IntKind.i64.wrap (s1.2.1 + 1)) + 1))), (5, .int .i64 s1.2.2)]) ⟨rfl, rfl, rfl, trivial⟩ (fun e => ?_)
      refine CW.seq ?_
      refine CW.region ?_
      iterate 3 refine LW.p rfl rfl ?_
      replace h := obind h
      obtain ⟨y17, hy17, h⟩ := h
      obtain ⟨b20, o21, hae, hp18, hq19⟩ := hS3.ownIdx (α := DNode) (i := 0) rfl hy17
      cases hae
      refine LW.u (Pur.ix Try.underlying24 sz67 rfl rfl hp18 (by rw [show s1.1.length = y15.length from ((len_set (Option.some.inj hy8)).trans (len_set (Option.some.inj hy15)))]; exact hq19)) rfl ?_
      refine LW.u (Pur.fa fo67_2 rfl) rfl ?_
      replace h := obind h
      obtain ⟨y22, hy22, h⟩ := h
      refine LW.stE (M := []) (L := [sl (some ⟨b6, o7, none⟩) c0_0 y15]) (z := y17) (z' := (DNode.mk y17.parent y17.limit (IntKind.i64.wrap ((IntKind.i64.wrap (s1.2.1 + 1)) + 1)))) (o := 2) hS3 (i := 0) rfl hy17 ag3 rfl (by show _ = o7 + (s1.2.2 : Int).toNat * 3 + 2; omega) rfl rfl rfl rfl (leafF (fun w cs F hF => by obtain ⟨rfl, rfl⟩ := hF; exact ⟨rfl, rfl⟩)) ?_
      intro w23 hS4 hf
      rw [Option.some.inj hy22] at hS4
      refine LW.nil ?_
      show CW _ _ _ _ _ _
      refine CW.region ?_
      iterate 3 refine LW.p rfl rfl ?_
      refine LW.nil ?_
      show CW _ _ _ _ _ _
      refine CW.region ?_
      iterate 3 refine LW.p rfl rfl ?_
      refine LW.nil ?_
      replace h := Option.some.inj h
      subst h
      exact ⟨rfl, ⟨⟨(show (.slice (some ⟨b6, o7, none⟩) s1.1.length c0_0 : Value) = .slice (some ⟨b6, o7, none⟩) y22.length c0_0 by rw [show s1.1.length = y22.length from (((len_set (Option.some.inj hy8)).trans (len_set (Option.some.inj hy15))).trans (len_set (Option.some.inj hy22)))]), rfl, rfl, trivial⟩, hS4.pick [0] rfl rfl⟩⟩
    replace h := bcF h hc2
    refine CW.exit ?_
    replace h := Option.some.inj h
    subst h
    exact ⟨trivial, rfl, ⟨⟨rfl, trivial⟩, hS1.pick [0] rfl rfl⟩⟩
  intro x e w26 hM
  obtain ⟨rfl, hM⟩ := hM
  obtain ⟨hE, hS5⟩ := hM
  obtain ⟨e, rfl⟩ := hE.out
  have h := h25
  show CW _ _ _ _ _ _
  refine CW.seq ?_
  refine CW.region ?_
  iterate 2 refine LW.p rfl rfl ?_
  refine LW.nil ?_
  show CW _ _ _ _ _ _
  refine CW.ret ?_
  replace h := Option.some.inj h
  subst h
  exact And.intro trivial ⟨_, Res.one (resOne.t rfl), rfl, hS5.pick [0] rfl rfl⟩

theorem W_l_heldNodeS {w0 : World} {N : Nat} {x0 : List DNode} {x1 : Int} {r : Int} (h : F_l_heldNodeS N x0 x1 = some r) {a0_0 : Option Addr} {n0_0 c0_0 : Nat} (hn0_0 : n0_0 = x0.length) (hr0_0 : rdS (Bor w0 []) w0 a0_0 c0_0 x0) :
    Ret Try.prog 15 #[.slice a0_0 n0_0 c0_0, .int .i64 x1] w0 (fun v w => v = .int .i64 r ∧ St w0 [] w []) := by
  subst hn0_0
  unfold F_l_heldNodeS at h
  refine Ret.of Try.func15 rfl rfl rfl ?_
  have hS1 := St.start w0
  refine CW.seq ?_
  refine CW.region ?_
  refine LW.p rfl rfl ?_
  refine LW.nil ?_
  show CW _ _ _ _ _ _
  refine CW.seq ?_
  refine CW.seq ?_
  refine CW.region ?_
  refine LW.p rfl rfl ?_
  refine LW.nil ?_
  show CW _ _ _ _ _ _
  refine CW.block ?_
  obtain ⟨o15, ho15, h16⟩ := obind h
  refine CW.mono (CW.iter (σ := Int × Int) (ρ := (Int × Int) ⊕ Int) (fun s1 e w => En e [(0, .slice a0_0 x0.length c0_0), (1, .int .i64 s1.1), (5, .int .i64 s1.2)] ∧ St w0 [] w []) (fun o x e w => match o with | .inl s1 => x = .exit 0 ∧ En e [(1, .int .i64 s1.1)] ∧ St w0 [] w [] | .inr r => x = .ret ∧ ∃ u, u = r ∧ ∃ v, Res Try.prog Try.f15.results e w v ∧ v = .int .i64 u ∧ St w0 [] w []) ?_ N (x1, 0) _ _ _ ⟨⟨rfl, rfl, rfl, trivial⟩, hS1.pick [] rfl rfl⟩ ho15) ?_
  · intro s1 e w o hM h
    obtain ⟨hE, hS2⟩ := hM
    obtain ⟨e, rfl⟩ := hE.out
    refine CW.seq ?_
    refine CW.seq ?_
    refine CW.region ?_
    iterate 2 refine LW.p rfl rfl ?_
    refine LW.u (Pur.len Try.underlying24 rfl) rfl ?_
    refine LW.p rfl rfl ?_
    refine LW.nil ?_
    show CW _ _ _ _ _ _
    refine CW.cond rfl (fun hc2 => ?_) (fun hc2 => ?_)
    · replace h := bcT h hc2
      refine CW.skip ?_
      show CW _ _ _ _ _ _
      refine CW.seq ?_
      refine CW.block ?_
      refine CW.seq ?_
      refine CW.seq ?_
      refine CW.region ?_
      iterate 2 refine LW.p rfl rfl ?_
      replace h := obind h
      obtain ⟨y3, hy3, h⟩ := h
      obtain ⟨b6, o7, cs8, hae, hb11, hp4, hq5, hd9, hk10⟩ := hr0_0.idx hy3
      subst hae
      obtain rfl := hd9
      refine LW.u (Pur.ix Try.underlying24 sz67 rfl rfl hp4 hq5) rfl ?_
      refine LW.u (Pur.fa fo67_0 rfl) rfl ?_
      refine LW.l (Ldr.old w0 ag3 rfl (hk10 0 _ rfl)) (hS2.same _ hb11.1 hb11.2) rfl ?_
      iterate 2 refine LW.p rfl rfl ?_
      refine LW.nil ?_
      show CW _ _ _ _ _ _
      refine CW.fresh (l := [(0, .slice (some ⟨b6, o7, none⟩) x0.length c0_0), (1, .int .i64 s1.1), (5, .int .i64 s1.2), (18, .bool (y3.parent != s1.1))]) ⟨rfl, rfl, rfl, rfl, trivial⟩ (fun e => ?_)
      refine CW.cond rfl (fun hc12 => ?_) (fun hc12 => ?_)
      · replace h := bcT h hc12
        refine CW.seq ?_
        refine CW.region ?_
        refine LW.p rfl rfl ?_
        refine LW.nil ?_
        show CW _ _ _ _ _ _
        refine CW.ret ?_
        replace h := Option.some.inj h
        subst h
        exact ⟨trivial, rfl, _, rfl, ⟨_, Res.one (resOne.t rfl), rfl, hS2.pick [] rfl rfl⟩⟩
      replace h := bcF h hc12
      refine CW.skip ?_
      show CW _ _ _ _ _ _
      refine CW.seq ?_
      refine CW.region ?_
      iterate 3 refine LW.p rfl rfl ?_
      refine LW.nil ?_
      show CW _ _ _ _ _ _
      refine CW.seq ?_
      refine CW.seq ?_
      refine CW.region ?_
      iterate 2 refine LW.p rfl rfl ?_
      refine LW.u (Pur.ix Try.underlying24 sz67 rfl rfl hp4 hq5) rfl ?_
      refine LW.u (Pur.fa fo67_1 rfl) rfl ?_
      refine LW.l (Ldr.old w0 ag3 rfl (hk10 1 _ rfl)) (hS2.same _ hb11.1 hb11.2) rfl ?_
      iterate 2 refine LW.p rfl rfl ?_
      refine LW.nil ?_
      show CW _ _ _ _ _ _
      refine CW.cond rfl (fun hc13 => ?_) (fun hc13 => ?_)
      · replace h := bcT h hc13
        refine CW.seq ?_
        refine CW.region ?_
        refine LW.p rfl rfl ?_
        refine LW.nil ?_
        show CW _ _ _ _ _ _
        refine CW.ret ?_
        replace h := Option.some.inj h
        subst h
        exact ⟨trivial, rfl, _, rfl, ⟨_, Res.one (resOne.t rfl), rfl, hS2.pick [] rfl rfl⟩⟩
      replace h := bcF h hc13
      refine CW.skip ?_
      show CW _ _ _ _ _ _
      refine CW.seq ?_
      refine CW.region ?_
      iterate 3 refine LW.p rfl rfl ?_
      refine LW.nil ?_
      show CW _ _ _ _ _ _
      refine CW.fresh (l := [(0, .slice (some ⟨b6, o7, none⟩) x0.length c0_0), (1, .int .i64 (IntKind.i64.wrap ((IntKind.i64.wrap (s1.1 + 1)) + 1))), (5, .int .i64 s1.2)]) ⟨rfl, rfl, rfl, trivial⟩ (fun e => ?_)
      refine CW.seq ?_
      refine CW.seq ?_
      refine CW.region ?_
      iterate 2 refine LW.p rfl rfl ?_
      refine LW.u (Pur.ix Try.underlying24 sz67 rfl rfl hp4 hq5) rfl ?_
      refine LW.u (Pur.fa fo67_2 rfl) rfl ?_
      refine LW.l (Ldr.old w0 ag3 rfl (hk10 2 _ rfl)) (hS2.same _ hb11.1 hb11.2) rfl ?_
      iterate 2 refine LW.p rfl rfl ?_
      refine LW.nil ?_
      show CW _ _ _ _ _ _
      refine CW.cond rfl (fun hc14 => ?_) (fun hc14 => ?_)
      · replace h := bcT h hc14
        refine CW.seq ?_
        refine CW.region ?_
        refine LW.p rfl rfl ?_
        refine LW.nil ?_
        show CW _ _ _ _ _ _
        refine CW.ret ?_
        replace h := Option.some.inj h
        subst h
        exact ⟨trivial, rfl, _, rfl, ⟨_, Res.one (resOne.t rfl), rfl, hS2.pick [] rfl rfl⟩⟩
      replace h := bcF h hc14
      refine CW.skip ?_
      show CW _ _ _ _ _ _
      refine CW.region ?_
      iterate 3 refine LW.p rfl rfl ?_
      refine LW.nil ?_
      show CW _ _ _ _ _ _
      refine CW.region ?_
      iterate 3 refine LW.p rfl rfl ?_
      refine LW.nil ?_
      replace h := Option.some.inj h
      subst h
      exact ⟨rfl, ⟨⟨rfl, rfl, rfl, trivial⟩, hS2.pick [] rfl rfl⟩⟩
    replace h := bcF h hc2
    refine CW.exit ?_
    replace h := Option.some.inj h
    subst h
    exact ⟨trivial, rfl, ⟨⟨rfl, trivial⟩, hS2.pick [] rfl rfl⟩⟩
  intro x e w17 hM
  rcases o15 with o15 | r18
  · obtain ⟨rfl, hM⟩ := hM
    obtain ⟨hE, hS3⟩ := hM
    obtain ⟨e, rfl⟩ := hE.out
    have h := h16
    show CW _ _ _ _ _ _
    refine CW.seq ?_
    refine CW.region ?_
    iterate 2 refine LW.p rfl rfl ?_
    refine LW.nil ?_
    show CW _ _ _ _ _ _
    refine CW.ret ?_
    cases h
    exact And.intro trivial ⟨_, Res.one (resOne.t rfl), rfl, hS3.pick [] rfl rfl⟩
  obtain ⟨rfl, u, rfl, hM⟩ := hM
  cases h16
  exact And.intro trivial hM

theorem W_l_FnExactQuotaNew {w0 : World} {N : Nat} {x0 : Int} {r : Bool} (h : F_l_FnExactQuotaNew N x0 = some r) :
    Ret Try.prog 4 #[.int .i64 x0] w0 (fun v w => v = .bool r ∧ St w0 [] w []) := by
  unfold F_l_FnExactQuotaNew at h
  refine Ret.of Try.func4 rfl rfl rfl ?_
  have hS1 := St.start w0
  refine CW.seq ?_
  refine CW.region ?_
  refine LW.p rfl rfl ?_
  refine LW.nil ?_
  show CW _ _ _ _ _ _
  refine CW.seq ?_
  refine CW.region ?_
  refine LW.p rfl rfl ?_
  replace h := obind h
  obtain ⟨y1, hy1, h⟩ := h
  have q := W_s_QuotaNew (w0 := w0) hy1
  refine LW.call pl11 rfl rfl ?_
  refine Ret.mono q ?_
  rintro _ w4 ⟨a2, c3, rfl, hs⟩
  have hS2 := hS1.add hs
  iterate 5 refine LW.p rfl rfl ?_
  refine LW.nil ?_
  show CW _ _ _ _ _ _
  refine CW.seq ?_
  refine CW.region ?_
  refine LW.p rfl rfl ?_
  replace h := obind h
  obtain ⟨y5, hy5, h⟩ := h
  have q := W_i_QuotaNew (w0 := w4) hy5
  refine LW.call pl12 rfl rfl ?_
  refine Ret.mono q ?_
  rintro _ w8 ⟨a6, c7, rfl, hs⟩
  have hS3 := hS2.add hs
  iterate 5 refine LW.p rfl rfl ?_
  refine LW.nil ?_
  show CW _ _ _ _ _ _
  refine CW.fresh (l := [(0, .int .i64 x0), (3, .slice a2 y1.1.length c3), (4, .bool y1.2), (5, .slice a6 y5.1.length c7), (6, .bool y5.2)]) ⟨rfl, rfl, rfl, rfl, rfl, trivial⟩ (fun e => ?_)
  refine CW.seq ?_
  refine CW.seq ?_
  obtain ⟨j9, hj9, h10⟩ := obind h
  refine CW.cut (fun e w => En e [(0, .int .i64 x0), (3, .slice a2 y1.1.length c3), (4, .bool y1.2), (5, .slice a6 y5.1.length c7), (29, .bool j9)] ∧ St w0 [] w [sl a6 c7 y5.1, sl a2 c3 y1.1]) ?_ ?_
  · have h := hj9
    refine CW.region ?_
    iterate 2 refine LW.p rfl rfl ?_
    replace h := obind h
    obtain ⟨y11, hy11, h⟩ := h
    have q := W_l_eqNodeS (w0 := w8) hy11 rfl (hS3.rI 0 rfl) rfl (hS3.rI 1 rfl)
    refine LW.call pl13 rfl rfl ?_
    refine Ret.mono q ?_
    rintro _ w12 ⟨rfl, hs⟩
    have hS4 := hS3.add hs
    iterate 2 refine LW.p rfl rfl ?_
    rcases bcases (!y11) with hc13 | hc13
    · replace h := bcT h hc13
      refine LW.gN (want_not rfl rfl hc13) rfl ?_
      refine LW.gN (want_not rfl rfl hc13) rfl ?_
      refine LW.gN (want_not rfl rfl hc13) rfl ?_
      refine LW.u (Pur.pickT rfl hc13) rfl ?_
      refine LW.nil ?_
      replace h := Option.some.inj h
      subst h
      exact ⟨⟨rfl, rfl, rfl, rfl, rfl, trivial⟩, hS4.pick [0, 1] rfl rfl⟩
    replace h := bcF h hc13
    refine LW.gY (want_of rfl rfl hc13) ?_
    refine LW.p rfl rfl ?_
    refine LW.gY (want_of rfl rfl hc13) ?_
    refine LW.p rfl rfl ?_
    refine LW.gY (want_of rfl rfl hc13) ?_
    refine LW.u (Pur.bne Try.underlying4 rfl rfl) rfl ?_
    refine LW.u (Pur.pickF rfl hc13) rfl ?_
    refine LW.nil ?_
    replace h := Option.some.inj h
    subst h
    exact ⟨⟨rfl, rfl, rfl, rfl, rfl, trivial⟩, hS4.pick [0, 1] rfl rfl⟩
  intro e w14 hM
  obtain ⟨hE, hS5⟩ := hM
  obtain ⟨e, rfl⟩ := hE.out
  have h := h10
  show CW _ _ _ _ _ _
  refine CW.cond rfl (fun hc15 => ?_) (fun hc15 => ?_)
  · replace h := bcT h hc15
    refine CW.seq ?_
    refine CW.region ?_
    refine LW.p rfl rfl ?_
    refine LW.nil ?_
    show CW _ _ _ _ _ _
    refine CW.ret ?_
    cases h
    exact And.intro trivial ⟨_, Res.one (resOne.t rfl), rfl, hS5.pick [] rfl rfl⟩
  replace h := bcF h hc15
  refine CW.skip ?_
  show CW _ _ _ _ _ _
  refine CW.seq ?_
  refine CW.region ?_
  refine LW.p rfl rfl ?_
  refine LW.nil ?_
  show CW _ _ _ _ _ _
  refine CW.seq ?_
  refine CW.region ?_
  iterate 2 refine LW.p rfl rfl ?_
  replace h := obind h
  obtain ⟨y16, hy16, h⟩ := h
  obtain ⟨q19, hy16', hq20⟩ := obind hy16
  obtain ⟨hl21, hq20⟩ := keepL_some hq20
  rw [Option.some.inj hq20] at hy16' hl21
  have hS6 := hS5.pick (M := [sl a6 c7 y5.1] ++ [sl a2 c3 y1.1]) [0, 1] rfl rfl
  obtain ⟨F17, hL18⟩ := St.lend (L := [sl a6 c7 y5.1]) (M := [sl a2 c3 y1.1]) hS6
  have q := W_l_markNodeS (w0 := w14) hy16' rfl hL18.st
  refine LW.call pl14 rfl rfl ?_
  refine Ret.mono q ?_
  rintro _ w22 ⟨rfl, hs⟩
  have hS7 := hL18.back _ _ hs
  refine LW.p rfl rfl ?_
  refine LW.nil ?_
  show CW _ _ _ _ _ _
  refine CW.seq ?_
  refine CW.region ?_
  refine LW.p rfl rfl ?_
  refine LW.nil ?_
  show CW _ _ _ _ _ _
  refine CW.seq ?_
  refine CW.region ?_
  iterate 2 refine LW.p rfl rfl ?_
  replace h := obind h
  obtain ⟨y23, hy23, h⟩ := h
  have q := W_l_heldNodeS (w0 := w22) hy23 (show y5.1.length = y16.2.length from hl21) (hS7.rI 0 rfl)
  refine LW.call pl15 rfl rfl ?_
  refine Ret.mono q ?_
  rintro _ w24 ⟨rfl, hs⟩
  have hS8 := hS7.add hs
  refine LW.p rfl rfl ?_
  refine LW.nil ?_
  show CW _ _ _ _ _ _
  refine CW.seq ?_
  refine CW.seq ?_
  refine CW.region ?_
  iterate 2 refine LW.p rfl rfl ?_
  refine LW.nil ?_
  show CW _ _ _ _ _ _
  refine CW.cond rfl (fun hc25 => ?_) (fun hc25 => ?_)
  · replace h := bcT h hc25
    refine CW.seq ?_
    refine CW.region ?_
    refine LW.p rfl rfl ?_
    refine LW.nil ?_
    show CW _ _ _ _ _ _
    refine CW.fresh (l := [(2, .bool false)]) ⟨rfl, trivial⟩ (fun e => ?_)
    refine CW.ret ?_
    cases h
    exact And.intro trivial ⟨_, Res.one (resOne.t rfl), rfl, hS8.pick [] rfl rfl⟩
  replace h := bcF h hc25
  refine CW.skip ?_
  show CW _ _ _ _ _ _
  refine CW.seq ?_
  refine CW.seq ?_
  refine CW.region ?_
  iterate 3 refine LW.p rfl rfl ?_
  refine LW.nil ?_
  show CW _ _ _ _ _ _
  refine CW.fresh (l := [(0, .int .i64 x0), (3, .slice a2 y1.1.length c3), (4, .bool y1.2), (5, .slice a6 y5.1.length c7), (7, .int .i64 y16.1), (40, .bool (y23 != y16.1))]) ⟨rfl, rfl, rfl, rfl, rfl, rfl, trivial⟩ (fun e => ?_)
  refine CW.cond rfl (fun hc26 => ?_) (fun hc26 => ?_)
  · replace h := bcT h hc26
    refine CW.seq ?_
    refine CW.region ?_
    refine LW.p rfl rfl ?_
    refine LW.nil ?_
    show CW _ _ _ _ _ _
    refine CW.ret ?_
    cases h
    exact And.intro trivial ⟨_, Res.one (resOne.t rfl), rfl, hS8.pick [] rfl rfl⟩
  replace h := bcF h hc26
  refine CW.skip ?_
  show CW _ _ _ _ _ _
  refine CW.seq ?_
  refine CW.region ?_
  refine LW.p rfl rfl ?_
  replace h := obind h
  obtain ⟨y27, hy27, h⟩ := h
  have q := W_i_QuotaNew (w0 := w24) hy27
  refine LW.call pl12 rfl rfl ?_
  refine Ret.mono q ?_
  rintro _ w30 ⟨a28, c29, rfl, hs⟩
  have hS9 := hS8.add hs
  iterate 5 refine LW.p rfl rfl ?_
  refine LW.nil ?_
  show CW _ _ _ _ _ _
  refine CW.seq ?_
  refine CW.seq ?_
  obtain ⟨j31, hj31, h32⟩ := obind h
  refine CW.cut (fun e w => En e [(5, .slice a6 y5.1.length c7), (7, .int .i64 y16.1), (54, .bool j31)] ∧ St w0 [] w [sl a6 c7 y16.2]) ?_ ?_
  · have h := hj31
    refine CW.region ?_
    iterate 2 refine LW.p rfl rfl ?_
    replace h := obind h
    obtain ⟨y33, hy33, h⟩ := h
    have q := W_l_eqNodeS (w0 := w30) hy33 rfl (hS9.rI 0 rfl) rfl (hS9.rI 2 rfl)
    refine LW.call pl13 rfl rfl ?_
    refine Ret.mono q ?_
    rintro _ w34 ⟨rfl, hs⟩
    have hS10 := hS9.add hs
    iterate 2 refine LW.p rfl rfl ?_
    rcases bcases (!y33) with hc35 | hc35
    · replace h := bcT h hc35
      refine LW.gN (want_not rfl rfl hc35) rfl ?_
      refine LW.gN (want_not rfl rfl hc35) rfl ?_
      refine LW.gN (want_not rfl rfl hc35) rfl ?_
      refine LW.u (Pur.pickT rfl hc35) rfl ?_
      refine LW.nil ?_
      replace h := Option.some.inj h
      subst h
      exact ⟨⟨rfl, rfl, rfl, trivial⟩, hS10.pick [1] rfl rfl⟩
    replace h := bcF h hc35
    refine LW.gY (want_of rfl rfl hc35) ?_
    refine LW.p rfl rfl ?_
    refine LW.gY (want_of rfl rfl hc35) ?_
    refine LW.p rfl rfl ?_
    refine LW.gY (want_of rfl rfl hc35) ?_
    refine LW.u (Pur.bne Try.underlying4 rfl rfl) rfl ?_
    refine LW.u (Pur.pickF rfl hc35) rfl ?_
    refine LW.nil ?_
    replace h := Option.some.inj h
    subst h
    exact ⟨⟨rfl, rfl, rfl, trivial⟩, hS10.pick [1] rfl rfl⟩
  intro e w36 hM
  obtain ⟨hE, hS11⟩ := hM
  obtain ⟨e, rfl⟩ := hE.out
  have h := h32
  show CW _ _ _ _ _ _
  refine CW.cond rfl (fun hc37 => ?_) (fun hc37 => ?_)
  · replace h := bcT h hc37
    refine CW.seq ?_
    refine CW.region ?_
    refine LW.p rfl rfl ?_
    refine LW.nil ?_
    show CW _ _ _ _ _ _
    refine CW.ret ?_
    cases h
    exact And.intro trivial ⟨_, Res.one (resOne.t rfl), rfl, hS11.pick [] rfl rfl⟩
  replace h := bcF h hc37
  refine CW.skip ?_
  show CW _ _ _ _ _ _
  refine CW.seq ?_
  refine CW.region ?_
  refine LW.p rfl rfl ?_
  refine LW.nil ?_
  show CW _ _ _ _ _ _
  refine CW.seq ?_
  refine CW.region ?_
  iterate 2 refine LW.p rfl rfl ?_
  replace h := obind h
  obtain ⟨y38, hy38, h⟩ := h
  have q := W_l_heldNodeS (w0 := w36) hy38 (show y5.1.length = y16.2.length from hl21) (hS11.rI 0 rfl)
  refine LW.call pl15 rfl rfl ?_
  refine Ret.mono q ?_
  rintro _ w39 ⟨rfl, hs⟩
  have hS12 := hS11.add hs
  refine LW.p rfl rfl ?_
  refine LW.nil ?_
  show CW _ _ _ _ _ _
  refine CW.seq ?_
  refine CW.seq ?_
  refine CW.region ?_
  iterate 2 refine LW.p rfl rfl ?_
  refine LW.nil ?_
  show CW _ _ _ _ _ _
  refine CW.fresh (l := [(7, .int .i64 y16.1), (8, .int .i64 y38), (59, .bool (decide (y38 < 0)))]) ⟨rfl, rfl, rfl, trivial⟩ (fun e => ?_)
  refine CW.cond rfl (fun hc40 => ?_) (fun hc40 => ?_)
  · replace h := bcT h hc40
    refine CW.seq ?_
    refine CW.region ?_
    refine LW.p rfl rfl ?_
    refine LW.nil ?_
    show CW _ _ _ _ _ _
    refine CW.ret ?_
    cases h
    exact And.intro trivial ⟨_, Res.one (resOne.t rfl), rfl, hS12.pick [] rfl rfl⟩
  replace h := bcF h hc40
  refine CW.skip ?_
  show CW _ _ _ _ _ _
  refine CW.seq ?_
  refine CW.seq ?_
  refine CW.region ?_
  iterate 3 refine LW.p rfl rfl ?_
  refine LW.nil ?_
  show CW _ _ _ _ _ _
  refine CW.cond rfl (fun hc41 => ?_) (fun hc41 => ?_)
  · replace h := bcT h hc41
    refine CW.seq ?_
    refine CW.region ?_
    refine LW.p rfl rfl ?_
    refine LW.nil ?_
    show CW _ _ _ _ _ _
    refine CW.ret ?_
    cases h
    exact And.intro trivial ⟨_, Res.one (resOne.t rfl), rfl, hS12.pick [] rfl rfl⟩
  replace h := bcF h hc41
  refine CW.skip ?_
  show CW _ _ _ _ _ _
  refine CW.seq ?_
  refine CW.region ?_
  refine LW.p rfl rfl ?_
  refine LW.nil ?_
  show CW _ _ _ _ _ _
  refine CW.ret ?_
  cases h
  exact And.intro trivial ⟨_, Res.one (resOne.t rfl), rfl, hS12.pick [] rfl rfl⟩

end Go.Kx
