/- Each call returns what the plain function says. Printed by drive.py. -/
import Derived.Test.YtecnkfamlpjbgaaFa
import Derived.Test.YtecnkfamlpjbgaaPu
import Derived.Test.YtecnkfamlpjbgaaWa4
namespace Go.Kx
open Go Go.RowKit Go.Proofs
set_option maxRecDepth 10000
set_option maxHeartbeats 2000000
set_option linter.unusedVariables false
set_option linter.unusedSimpArgs false
theorem W_s_BootSum {w0 : World} {N : Nat} {x0 : List DBoot} {r : DAmt} (h : F_s_BootSum N x0 = some r) {a0_0 : Option Addr} {n0_0 c0_0 : Nat} (hn0_0 : n0_0 = x0.length) (hr0_0 : rdS (Bor w0 []) w0 a0_0 c0_0 x0) :
    Ret Try.prog 32 #[.slice a0_0 n0_0 c0_0] w0 (fun v w => v = .agg #[.int .i64 r.pages, .int .i64 r.rent, .int .i64 r.cpu] ∧ St w0 [] w []) := by
  subst hn0_0
  unfold F_s_BootSum at h
  refine Ret.of Try.func32 rfl rfl rfl ?_
  have hS1 := St.start w0
  refine CW.seq ?_
  refine CW.region ?_
  refine LW.alloc zv61 hS1 rfl ?_
  intro g1 w2 hS2 hf
  refine LW.nil ?_
  show CW _ _ _ _ _ _
  refine CW.seq ?_
  refine CW.region ?_
  refine LW.u (Pur.build (vs := []) (cs := #[.int .i64 0, .int .i64 0, .int .i64 0]) rfl (by kernel_rfl)) rfl ?_
  refine LW.alloc zv61 hS2 rfl ?_
  intro g3 w4 hS3 hf
  refine LW.stb hS3 0 rfl ag61 rfl rfl rfl rfl rfl ?_
  intro w5 hS4 hf
  refine LW.nil ?_
  show CW _ _ _ _ _ _
  refine CW.seq ?_
  refine CW.seq ?_
  refine CW.region ?_
  refine LW.p rfl rfl ?_
  replace h := obind h
  obtain ⟨y6, hy6, h⟩ := h
  have q := W_s_BootOk (w0 := w5) hy6 rfl (hS4.rB hr0_0)
  refine LW.call pl22 rfl rfl ?_
  refine Ret.mono q ?_
  rintro _ w7 ⟨rfl, hs⟩
  have hS5 := hS4.add hs
  refine LW.p rfl rfl ?_
  refine LW.nil ?_
  show CW _ _ _ _ _ _
  refine CW.cond rfl (fun hc8 => ?_) (fun hc8 => ?_)
  · replace h := bcT h hc8
    refine CW.seq ?_
    refine CW.region ?_
    refine LW.ldbN hS5 0 rfl ag61 rfl rfl rfl ?_
    refine LW.stb hS5 1 rfl ag61 rfl rfl rfl rfl rfl ?_
    intro w9 hS6 hf
    refine LW.nil ?_
    show CW _ _ _ _ _ _
    refine CW.ret ?_
    cases h
    exact And.intro trivial ⟨_, Res.one (resOne.b hS6 1 rfl ag61 rfl rfl), rfl, hS6.pick [] rfl rfl⟩
  replace h := bcF h hc8
  refine CW.skip ?_
  show CW _ _ _ _ _ _
  refine CW.seq ?_
  refine CW.seq ?_
  refine CW.region ?_
  refine LW.p rfl rfl ?_
  refine LW.nil ?_
  show CW _ _ _ _ _ _
  refine CW.block ?_
  obtain ⟨o44, ho44, h45⟩ := obind h
  refine CW.mono (CW.iter (σ := Int × Int × Int × Int) (ρ := Int × Int × Int × Int) (fun s10 e w => En e [(0, .slice a0_0 x0.length c0_0), (2, .pointer (some ⟨g1, 0, none⟩)), (3, .pointer (some ⟨g3, 0, none⟩)), (4, .int .i64 s10.1)] ∧ St w0 [] w [bx g3 61 [.int .i64 s10.2.1, .int .i64 s10.2.2.1, .int .i64 s10.2.2.2], bx g1 61 [.int .i64 0, .int .i64 0, .int .i64 0]]) (fun s10 x e w => x = .exit 0 ∧ En e [(2, .pointer (some ⟨g1, 0, none⟩)), (3, .pointer (some ⟨g3, 0, none⟩))] ∧ St w0 [] w [bx g3 61 [.int .i64 s10.2.1, .int .i64 s10.2.2.1, .int .i64 s10.2.2.2], bx g1 61 [.int .i64 0, .int .i64 0, .int .i64 0]]) ?_ N (0, 0, 0, 0) _ _ _ ⟨⟨rfl, rfl, rfl, rfl, trivial⟩, hS5.pick [0, 1] rfl rfl⟩ ho44) ?_
  · intro s10 e w o hM h
    obtain ⟨hE, hS7⟩ := hM
    obtain ⟨e, rfl⟩ := hE.out
    refine CW.seq ?_
    refine CW.seq ?_
    refine CW.region ?_
    iterate 2 refine LW.p rfl rfl ?_
    refine LW.u (Pur.len Try.underlying39 rfl) rfl ?_
    refine LW.p rfl rfl ?_
    refine LW.nil ?_
    show CW _ _ _ _ _ _
    refine CW.cond rfl (fun hc11 => ?_) (fun hc11 => ?_)
    · replace h := bcT h hc11
      refine CW.skip ?_
      show CW _ _ _ _ _ _
      refine CW.seq ?_
      refine CW.block ?_
      refine CW.seq ?_
      obtain ⟨j12, hj12, h13⟩ := obind h
      refine CW.cut (fun e w => ∃ (j12g5 : Nat), En e [(0, .slice a0_0 x0.length c0_0), (2, .pointer (some ⟨g1, 0, none⟩)), (3, .pointer (some ⟨g3, 0, none⟩)), (4, .int .i64 s10.1), (5, .pointer (some ⟨j12g5, 0, none⟩))] ∧ St w0 [] w [bx g3 61 [.int .i64 s10.2.1, .int .i64 s10.2.2.1, .int .i64 s10.2.2.2], bx g1 61 [.int .i64 0, .int .i64 0, .int .i64 0], bx j12g5 61 [.int .i64 j12.1, .int .i64 j12.2.1, .int .i64 j12.2.2]]) ?_ ?_
      · have h := hj12
        refine CW.draw (by kernel_rfl) ?_
        have hS8 := hS7.drew
        refine AW.take (i := 0) rfl (by kernel_rfl) rfl rfl (Ldr.boxN (bt := 61) (fr := (0, 0)) (cs := [.int .i64 s10.2.1, .int .i64 s10.2.2.1, .int .i64 s10.2.2.2]) ag61 rfl rfl) (St.cell (h := hS8) (i := 0) rfl) ?_
        refine AW.u (i := 1) rfl (by kernel_rfl) rfl rfl (Pur.p rfl) ?_
        refine AW.u (i := 2) rfl (by kernel_rfl) rfl rfl (Pur.p rfl) ?_
        replace h := obind h
        obtain ⟨y14, hy14, h⟩ := h
        obtain ⟨b17, o18, cs19, hae, hb22, hp15, hq16, hd20, hk21⟩ := hr0_0.idx hy14
        subst hae
        obtain ⟨a23, c24, a26, c27, rfl, hr25, hr28⟩ := hd20
        refine AW.u (i := 3) rfl (by kernel_rfl) rfl rfl (Pur.ix Try.underlying39 sz76 rfl rfl hp15 hq16) ?_
        refine AW.u (i := 4) rfl (by kernel_rfl) rfl rfl (Pur.fa fo76_2 rfl) ?_
        refine AW.take (i := 5) rfl (by kernel_rfl) rfl rfl (Ldr.oldN w0 ag61 rfl rfl (fun j u hu => oldsub (m := 3) hk21 2 hu)) (hS8.same _ hb22.1 hb22.2) ?_
        replace h := obind h
        obtain ⟨y29, hy29, h⟩ := h
        refine AW.all (rs := [6, 10]) (by kernel_rfl) (by simp) ⟨?_, ?_, trivial⟩
        · have q := W_s_AmtAdd (w0 := w.drew) hy29
          refine ⟨_, rfl, ?_⟩
          refine LW.call pl44 rfl rfl ?_
          refine Ret.mono q ?_
          rintro _ w34 ⟨rfl, hs⟩
          have hS9 := hS8.add hs
          refine LW.nil ⟨rfl, (.w (by kernel_rfl) (.w (by kernel_rfl) Kept.n)), ?_⟩
          refine AW.u (i := 7) rfl (by kernel_rfl) rfl rfl (Pur.p rfl) ?_
          refine AW.u (i := 8) rfl (by kernel_rfl) rfl rfl (Pur.p rfl) ?_
          refine AW.u (i := 9) rfl (by kernel_rfl) rfl rfl (Pur.p rfl) ?_
          refine AW.one (i := 10) (by kernel_rfl) ?_
          refine ⟨_, rfl, ?_⟩
          refine LW.alloc zv61 hS9 rfl ?_
          intro g35 w36 hS10 hf
          refine LW.nil ⟨rfl, (.c (hS10.same _ hb22.1 hb22.2) (.c (St.cell (h := hS10) (i := 1) rfl) Kept.n)), ?_⟩
          refine AW.one (i := 11) (by kernel_rfl) ?_
          refine ⟨_, rfl, ?_⟩
          refine LW.stb hS10 0 rfl ag61 rfl rfl rfl rfl rfl ?_
          intro w37 hS11 hf
          refine LW.nil ⟨rfl, (.w (by kernel_rfl) (.w (by kernel_rfl) Kept.n)), ?_⟩
          refine AW.u (i := 12) rfl (by kernel_rfl) rfl rfl (Pur.p rfl) ?_
          refine AW.done (by kernel_rfl) ?_
          replace h := Option.some.inj h
          subst h
          exact ⟨g35, ⟨rfl, rfl, rfl, rfl, rfl, trivial⟩, hS11.pick [1, 2, 0] rfl rfl⟩
        refine ⟨_, rfl, ?_⟩
        refine LW.alloc zv61 hS8 rfl ?_
        intro g38 w39 hS12 hf
        refine LW.nil ⟨rfl, (.c (hS12.same _ hb22.1 hb22.2) (.c (St.cell (h := hS12) (i := 1) rfl) Kept.n)), ?_⟩
        have q := W_s_AmtAdd (w0 := w39) hy29
        refine AW.one (i := 6) (by kernel_rfl) ?_
        refine ⟨_, rfl, ?_⟩
        refine LW.call pl44 rfl rfl ?_
        refine Ret.mono q ?_
        rintro _ w40 ⟨rfl, hs⟩
        have hS13 := hS12.add hs
        refine LW.nil ⟨rfl, (.w (by kernel_rfl) (.w (by kernel_rfl) Kept.n)), ?_⟩
        refine AW.u (i := 7) rfl (by kernel_rfl) rfl rfl (Pur.p rfl) ?_
        refine AW.u (i := 8) rfl (by kernel_rfl) rfl rfl (Pur.p rfl) ?_
        refine AW.u (i := 9) rfl (by kernel_rfl) rfl rfl (Pur.p rfl) ?_
        refine AW.one (i := 11) (by kernel_rfl) ?_
        refine ⟨_, rfl, ?_⟩
        refine LW.stb hS13 0 rfl ag61 rfl rfl rfl rfl rfl ?_
        intro w41 hS14 hf
        refine LW.nil ⟨rfl, (.w (by kernel_rfl) (.w (by kernel_rfl) Kept.n)), ?_⟩
        refine AW.u (i := 12) rfl (by kernel_rfl) rfl rfl (Pur.p rfl) ?_
        refine AW.done (by kernel_rfl) ?_
        replace h := Option.some.inj h
        subst h
        exact ⟨g38, ⟨rfl, rfl, rfl, rfl, rfl, trivial⟩, hS14.pick [1, 2, 0] rfl rfl⟩
      intro e w42 hM
      obtain ⟨j12g5, hE, hS15⟩ := hM
      obtain ⟨e, rfl⟩ := hE.out
      have h := h13
      show CW _ _ _ _ _ _
      refine CW.region ?_
      refine LW.ldbN hS15 2 rfl ag61 rfl rfl rfl ?_
      refine LW.stb hS15 0 rfl ag61 rfl rfl rfl rfl rfl ?_
      intro w43 hS16 hf
      refine LW.nil ?_
      show CW _ _ _ _ _ _
      refine CW.fresh (l := [(0, .slice a0_0 x0.length c0_0), (2, .pointer (some ⟨g1, 0, none⟩)), (3, .pointer (some ⟨g3, 0, none⟩)), (4, .int .i64 s10.1)]) ⟨rfl, rfl, rfl, rfl, trivial⟩ (fun e => ?_)
      refine CW.region ?_
      iterate 3 refine LW.p rfl rfl ?_
      refine LW.nil ?_
      replace h := Option.some.inj h
      subst h
      exact ⟨rfl, ⟨⟨rfl, rfl, rfl, rfl, trivial⟩, hS16.pick [0, 1] rfl rfl⟩⟩
    replace h := bcF h hc11
    refine CW.exit ?_
    replace h := Option.some.inj h
    subst h
    exact ⟨trivial, rfl, ⟨⟨rfl, rfl, trivial⟩, hS7.pick [0, 1] rfl rfl⟩⟩
  intro x e w46 hM
  obtain ⟨rfl, hM⟩ := hM
  obtain ⟨hE, hS17⟩ := hM
  obtain ⟨e, rfl⟩ := hE.out
  have h := h45
  show CW _ _ _ _ _ _
  refine CW.seq ?_
  refine CW.region ?_
  refine LW.ldbN hS17 0 rfl ag61 rfl rfl rfl ?_
  refine LW.stb hS17 1 rfl ag61 rfl rfl rfl rfl rfl ?_
  intro w47 hS18 hf
  refine LW.nil ?_
  show CW _ _ _ _ _ _
  refine CW.ret ?_
  cases h
  exact And.intro trivial ⟨_, Res.one (resOne.b hS18 1 rfl ag61 rfl rfl), rfl, hS18.pick [] rfl rfl⟩

theorem W_i_BootSum {w0 : World} {N : Nat} {x0 : List DBoot} {r : DAmt} (h : F_i_BootSum N x0 = some r) {a0_0 : Option Addr} {n0_0 c0_0 : Nat} (hn0_0 : n0_0 = x0.length) (hr0_0 : rdS (Bor w0 []) w0 a0_0 c0_0 x0) :
    Ret Try.prog 33 #[.slice a0_0 n0_0 c0_0] w0 (fun v w => v = .agg #[.int .i64 r.pages, .int .i64 r.rent, .int .i64 r.cpu] ∧ St w0 [] w []) := by
  subst hn0_0
  unfold F_i_BootSum at h
  refine Ret.of Try.func33 rfl rfl rfl ?_
  have hS1 := St.start w0
  refine CW.seq ?_
  refine CW.region ?_
  refine LW.alloc zv61 hS1 rfl ?_
  intro g1 w2 hS2 hf
  refine LW.nil ?_
  show CW _ _ _ _ _ _
  refine CW.seq ?_
  refine CW.region ?_
  refine LW.u (Pur.build (vs := []) (cs := #[.int .i64 0, .int .i64 0, .int .i64 0]) rfl (by kernel_rfl)) rfl ?_
  refine LW.alloc zv61 hS2 rfl ?_
  intro g3 w4 hS3 hf
  refine LW.stb hS3 0 rfl ag61 rfl rfl rfl rfl rfl ?_
  intro w5 hS4 hf
  refine LW.nil ?_
  show CW _ _ _ _ _ _
  refine CW.seq ?_
  refine CW.seq ?_
  refine CW.region ?_
  refine LW.p rfl rfl ?_
  replace h := obind h
  obtain ⟨y6, hy6, h⟩ := h
  have q := W_i_BootOk (w0 := w5) hy6 rfl (hS4.rB hr0_0)
  refine LW.call pl24 rfl rfl ?_
  refine Ret.mono q ?_
  rintro _ w7 ⟨rfl, hs⟩
  have hS5 := hS4.add hs
  refine LW.p rfl rfl ?_
  refine LW.nil ?_
  show CW _ _ _ _ _ _
  refine CW.cond rfl (fun hc8 => ?_) (fun hc8 => ?_)
  · replace h := bcT h hc8
    refine CW.seq ?_
    refine CW.region ?_
    refine LW.ldbN hS5 0 rfl ag61 rfl rfl rfl ?_
    refine LW.stb hS5 1 rfl ag61 rfl rfl rfl rfl rfl ?_
    intro w9 hS6 hf
    refine LW.nil ?_
    show CW _ _ _ _ _ _
    refine CW.ret ?_
    cases h
    exact And.intro trivial ⟨_, Res.one (resOne.b hS6 1 rfl ag61 rfl rfl), rfl, hS6.pick [] rfl rfl⟩
  replace h := bcF h hc8
  refine CW.skip ?_
  show CW _ _ _ _ _ _
  refine CW.seq ?_
  refine CW.seq ?_
  refine CW.region ?_
  refine LW.p rfl rfl ?_
  refine LW.u (Pur.len Try.underlying39 rfl) rfl ?_
  refine LW.p rfl rfl ?_
  refine LW.nil ?_
  show CW _ _ _ _ _ _
  refine CW.block ?_
  obtain ⟨o33, ho33, h34⟩ := obind h
  refine CW.mono (CW.iter (σ := Int × Int × Int × Int) (ρ := Int × Int × Int × Int) (fun s10 e w => En e [(2, .pointer (some ⟨g1, 0, none⟩)), (3, .pointer (some ⟨g3, 0, none⟩)), (11, .slice a0_0 x0.length c0_0), (12, .int .i64 (x0.length : Int)), (13, .int .i64 s10.1)] ∧ St w0 [] w [bx g3 61 [.int .i64 s10.2.1, .int .i64 s10.2.2.1, .int .i64 s10.2.2.2], bx g1 61 [.int .i64 0, .int .i64 0, .int .i64 0]]) (fun s10 x e w => x = .exit 0 ∧ En e [(2, .pointer (some ⟨g1, 0, none⟩)), (3, .pointer (some ⟨g3, 0, none⟩))] ∧ St w0 [] w [bx g3 61 [.int .i64 s10.2.1, .int .i64 s10.2.2.1, .int .i64 s10.2.2.2], bx g1 61 [.int .i64 0, .int .i64 0, .int .i64 0]]) ?_ N (0, 0, 0, 0) _ _ _ ⟨⟨rfl, rfl, rfl, rfl, rfl, trivial⟩, hS5.pick [0, 1] rfl rfl⟩ ho33) ?_
  · intro s10 e w o hM h
    obtain ⟨hE, hS7⟩ := hM
    obtain ⟨e, rfl⟩ := hE.out
    refine CW.seq ?_
    refine CW.region ?_
    refine LW.p rfl rfl ?_
    refine LW.nil ?_
    show CW _ _ _ _ _ _
    refine CW.seq ?_
    refine CW.cond rfl (fun hc11 => ?_) (fun hc11 => ?_)
    · replace h := bcT h hc11
      refine CW.skip ?_
      show CW _ _ _ _ _ _
      refine CW.seq ?_
      refine CW.block ?_
      refine CW.seq ?_
      refine CW.region ?_
      replace h := obind h
      obtain ⟨y12, hy12, h⟩ := h
      obtain ⟨b15, o16, cs17, hae, hb20, hp13, hq14, hd18, hk19⟩ := hr0_0.idx hy12
      subst hae
      obtain ⟨a21, c22, a24, c25, rfl, hr23, hr26⟩ := hd18
      refine LW.u (Pur.ix Try.underlying39 sz76 rfl rfl hp13 hq14) rfl ?_
      refine LW.l (Ldr.oldN w0 ag76 rfl rfl (fun j u hu => hk19 j u hu)) (hS7.same _ hb20.1 hb20.2) rfl ?_
      refine LW.alloc zv76 hS7 rfl ?_
      intro g27 w28 hS8 hf
      refine LW.stb hS8 0 rfl ag76 rfl rfl rfl rfl rfl ?_
      intro w29 hS9 hf
      refine LW.nil ?_
      show CW _ _ _ _ _ _
      refine CW.fresh (l := [(2, .pointer (some ⟨g1, 0, none⟩)), (3, .pointer (some ⟨g3, 0, none⟩)), (5, .pointer (some ⟨g27, 0, none⟩)), (11, .slice (some ⟨b15, o16, none⟩) x0.length c0_0), (12, .int .i64 (x0.length : Int)), (13, .int .i64 s10.1)]) ⟨rfl, rfl, rfl, rfl, rfl, rfl, trivial⟩ (fun e => ?_)
      refine CW.region ?_
      refine LW.ldbN hS9 1 rfl ag61 rfl rfl rfl ?_
      refine LW.u (Pur.fa fo76_2 rfl) rfl ?_
      refine LW.ldbN hS9 0 rfl ag61 rfl rfl rfl ?_
      replace h := obind h
      obtain ⟨y30, hy30, h⟩ := h
      have q := W_i_sumOf (w0 := w29) hy30
      refine LW.call pl56 rfl rfl ?_
      refine Ret.mono q ?_
      rintro _ w31 ⟨rfl, hs⟩
      have hS10 := hS9.add hs
      refine LW.stb hS10 1 rfl ag61 rfl rfl rfl rfl rfl ?_
      intro w32 hS11 hf
      refine LW.nil ?_
      show CW _ _ _ _ _ _
      refine CW.region ?_
      iterate 2 refine LW.p rfl rfl ?_
      refine LW.nil ?_
      replace h := Option.some.inj h
      subst h
      exact ⟨rfl, ⟨⟨rfl, rfl, rfl, rfl, rfl, trivial⟩, hS11.pick [1, 2] rfl rfl⟩⟩
    replace h := bcF h hc11
    refine CW.exit ?_
    replace h := Option.some.inj h
    subst h
    exact ⟨trivial, rfl, ⟨⟨rfl, rfl, trivial⟩, hS7.pick [0, 1] rfl rfl⟩⟩
  intro x e w35 hM
  obtain ⟨rfl, hM⟩ := hM
  obtain ⟨hE, hS12⟩ := hM
  obtain ⟨e, rfl⟩ := hE.out
  have h := h34
  show CW _ _ _ _ _ _
  refine CW.seq ?_
  refine CW.region ?_
  refine LW.ldbN hS12 0 rfl ag61 rfl rfl rfl ?_
  refine LW.stb hS12 1 rfl ag61 rfl rfl rfl rfl rfl ?_
  intro w36 hS13 hf
  refine LW.nil ?_
  show CW _ _ _ _ _ _
  refine CW.ret ?_
  cases h
  exact And.intro trivial ⟨_, Res.one (resOne.b hS13 1 rfl ag61 rfl rfl), rfl, hS13.pick [] rfl rfl⟩

theorem W_l_FnExactBootSum {w0 : World} {N : Nat} {x0 : List DBoot} {r : Bool} (h : F_l_FnExactBootSum N x0 = some r) {a0_0 : Option Addr} {n0_0 c0_0 : Nat} (hn0_0 : n0_0 = x0.length) (hr0_0 : rdS (Bor w0 []) w0 a0_0 c0_0 x0) :
    Ret Try.prog 8 #[.slice a0_0 n0_0 c0_0] w0 (fun v w => v = .bool r ∧ St w0 [] w []) := by
  subst hn0_0
  unfold F_l_FnExactBootSum at h
  refine Ret.of Try.func8 rfl rfl rfl ?_
  have hS1 := St.start w0
  refine CW.seq ?_
  refine CW.region ?_
  refine LW.p rfl rfl ?_
  refine LW.nil ?_
  show CW _ _ _ _ _ _
  refine CW.seq ?_
  refine CW.region ?_
  refine LW.p rfl rfl ?_
  refine LW.nil ?_
  show CW _ _ _ _ _ _
  refine CW.seq ?_
  refine CW.region ?_
  iterate 2 refine LW.p rfl rfl ?_
  replace h := obind h
  obtain ⟨y1, hy1, h⟩ := h
  have q := W_l_szPartBootS (w0 := w0) hy1 rfl (hS1.rB hr0_0)
  refine LW.call pl21 rfl rfl ?_
  refine Ret.mono q ?_
  rintro _ w2 ⟨rfl, hs⟩
  have hS2 := hS1.add hs
  refine LW.p rfl rfl ?_
  refine LW.nil ?_
  show CW _ _ _ _ _ _
  refine CW.seq ?_
  refine CW.seq ?_
  refine CW.region ?_
  iterate 2 refine LW.p rfl rfl ?_
  refine LW.nil ?_
  show CW _ _ _ _ _ _
  refine CW.cond rfl (fun hc3 => ?_) (fun hc3 => ?_)
  · replace h := bcT h hc3
    refine CW.seq ?_
    refine CW.region ?_
    refine LW.p rfl rfl ?_
    refine LW.nil ?_
    show CW _ _ _ _ _ _
    refine CW.ret ?_
    cases h
    exact And.intro trivial ⟨_, Res.one (resOne.t rfl), rfl, hS2.pick [] rfl rfl⟩
  replace h := bcF h hc3
  refine CW.skip ?_
  show CW _ _ _ _ _ _
  refine CW.seq ?_
  refine CW.region ?_
  refine LW.p rfl rfl ?_
  replace h := obind h
  obtain ⟨y4, hy4, h⟩ := h
  have q := W_l_toPartBootS (w0 := w2) hy4 rfl (hS2.rB hr0_0)
  refine LW.call pl23 rfl rfl ?_
  refine Ret.mono q ?_
  rintro _ w7 ⟨a5, c6, rfl, hs⟩
  have hS3 := hS2.add hs
  replace h := obind h
  obtain ⟨y8, hy8, h⟩ := h
  have q := W_s_BootSum (w0 := w7) hy8 rfl (hS3.rI 0 rfl)
  refine LW.call pl32 rfl rfl ?_
  refine Ret.mono q ?_
  rintro _ w9 ⟨rfl, hs⟩
  have hS4 := hS3.add hs
  refine LW.alloc zv61 hS4 rfl ?_
  intro g10 w11 hS5 hf
  refine LW.stb hS5 0 rfl ag61 rfl rfl rfl rfl rfl ?_
  intro w12 hS6 hf
  refine LW.nil ?_
  show CW _ _ _ _ _ _
  refine CW.fresh (l := [(0, .slice a0_0 x0.length c0_0), (4, .pointer (some ⟨g10, 0, none⟩))]) ⟨rfl, rfl, trivial⟩ (fun e => ?_)
  refine CW.seq ?_
  refine CW.region ?_
  refine LW.p rfl rfl ?_
  replace h := obind h
  obtain ⟨y13, hy13, h⟩ := h
  have q := W_l_toPartBootS (w0 := w12) hy13 rfl (hS6.rB hr0_0)
  refine LW.call pl23 rfl rfl ?_
  refine Ret.mono q ?_
  rintro _ w16 ⟨a14, c15, rfl, hs⟩
  have hS7 := hS6.add hs
  refine LW.p rfl rfl ?_
  refine LW.nil ?_
  show CW _ _ _ _ _ _
  refine CW.seq ?_
  refine CW.region ?_
  refine LW.p rfl rfl ?_
  replace h := obind h
  obtain ⟨y17, hy17, h⟩ := h
  have q := W_i_BootSum (w0 := w16) hy17 rfl (hS7.rI 0 rfl)
  refine LW.call pl33 rfl rfl ?_
  refine Ret.mono q ?_
  rintro _ w18 ⟨rfl, hs⟩
  have hS8 := hS7.add hs
  refine LW.alloc zv61 hS8 rfl ?_
  intro g19 w20 hS9 hf
  refine LW.stb hS9 0 rfl ag61 rfl rfl rfl rfl rfl ?_
  intro w21 hS10 hf
  refine LW.nil ?_
  show CW _ _ _ _ _ _
  refine CW.seq ?_
  refine CW.seq ?_
  refine CW.region ?_
  refine LW.ldbN hS10 0 rfl ag61 rfl rfl rfl ?_
  refine LW.ldbN hS10 2 rfl ag61 rfl rfl rfl ?_
  replace h := obind h
  obtain ⟨y22, hy22, h⟩ := h
  have q := W_l_eqAmt (w0 := w21) hy22
  refine LW.call pl34 rfl rfl ?_
  refine Ret.mono q ?_
  rintro _ w23 ⟨rfl, hs⟩
  have hS11 := hS10.add hs
  refine LW.p rfl rfl ?_
  refine LW.nil ?_
  show CW _ _ _ _ _ _
  refine CW.cond rfl (fun hc24 => ?_) (fun hc24 => ?_)
  · replace h := bcT h hc24
    refine CW.seq ?_
    refine CW.region ?_
    refine LW.p rfl rfl ?_
    refine LW.nil ?_
    show CW _ _ _ _ _ _
    refine CW.ret ?_
    cases h
    exact And.intro trivial ⟨_, Res.one (resOne.t rfl), rfl, hS11.pick [] rfl rfl⟩
  replace h := bcF h hc24
  refine CW.skip ?_
  show CW _ _ _ _ _ _
  refine CW.seq ?_
  refine CW.seq ?_
  refine CW.region ?_
  iterate 2 refine LW.p rfl rfl ?_
  replace h := obind h
  obtain ⟨y25, hy25, h⟩ := h
  have q := W_l_toPartBootS (w0 := w23) hy25 rfl (hS11.rB hr0_0)
  refine LW.call pl23 rfl rfl ?_
  refine Ret.mono q ?_
  rintro _ w28 ⟨a26, c27, rfl, hs⟩
  have hS12 := hS11.add hs
  replace h := obind h
  obtain ⟨y29, hy29, h⟩ := h
  have q := W_l_eqPartBootS (w0 := w28) hy29 rfl (hS12.rI 2 rfl) rfl (hS12.rI 0 rfl)
  refine LW.call pl25 rfl rfl ?_
  refine Ret.mono q ?_
  rintro _ w30 ⟨rfl, hs⟩
  have hS13 := hS12.add hs
  refine LW.p rfl rfl ?_
  refine LW.nil ?_
  show CW _ _ _ _ _ _
  refine CW.fresh (l := [(27, .bool (!y29))]) ⟨rfl, trivial⟩ (fun e => ?_)
  refine CW.cond rfl (fun hc31 => ?_) (fun hc31 => ?_)
  · replace h := bcT h hc31
    refine CW.seq ?_
    refine CW.region ?_
    refine LW.p rfl rfl ?_
    refine LW.nil ?_
    show CW _ _ _ _ _ _
    refine CW.ret ?_
    cases h
    exact And.intro trivial ⟨_, Res.one (resOne.t rfl), rfl, hS13.pick [] rfl rfl⟩
  replace h := bcF h hc31
  refine CW.skip ?_
  show CW _ _ _ _ _ _
  refine CW.seq ?_
  refine CW.region ?_
  refine LW.p rfl rfl ?_
  refine LW.nil ?_
  show CW _ _ _ _ _ _
  refine CW.ret ?_
  cases h
  exact And.intro trivial ⟨_, Res.one (resOne.t rfl), rfl, hS13.pick [] rfl rfl⟩

end Go.Kx
