/- Each call returns what the plain function says. Printed by drive.py. -/
import Derived.Test.YtecnkfamlpjbgaaFa
import Derived.Test.YtecnkfamlpjbgaaPu
import Derived.Test.YtecnkfamlpjbgaaWa3
namespace Go.Kx
open Go Go.RowKit Go.Proofs
set_option maxRecDepth 10000
set_option maxHeartbeats 2000000
set_option linter.unusedVariables false
set_option linter.unusedSimpArgs false
theorem W_s_Flows {w0 : World} {N : Nat} {x0 : DLabel} {x1 : DLabel} {r : Bool} (h : F_s_Flows N x0 x1 = some r) {a0_0 : Option Addr} {n0_0 c0_0 : Nat} (hn0_0 : n0_0 = x0.levels.length) (hr0_0 : rdS (Bor w0 []) w0 a0_0 c0_0 x0.levels) {a1_0 : Option Addr} {n1_0 c1_0 : Nat} (hn1_0 : n1_0 = x1.levels.length) (hr1_0 : rdS (Bor w0 []) w0 a1_0 c1_0 x1.levels) :
    Ret Try.prog 51 #[.agg #[.slice a0_0 n0_0 c0_0], .agg #[.slice a1_0 n1_0 c1_0]] w0 (fun v w => v = .bool r ∧ St w0 [] w []) := by
  subst hn0_0
  subst hn1_0
  unfold F_s_Flows at h
  refine Ret.of Try.func51 rfl rfl rfl ?_
  have hS1 := St.start w0
  refine CW.seq ?_
  refine CW.region ?_
  refine LW.box (cs := [.slice a0_0 x0.levels.length c0_0]) rfl hS1 rfl ?_
  intro g1 w2 hS2 hf
  refine LW.box (cs := [.slice a1_0 x1.levels.length c1_0]) rfl hS2 rfl ?_
  intro g3 w4 hS3 hf
  refine LW.p rfl rfl ?_
  refine LW.nil ?_
  show CW _ _ _ _ _ _
  refine CW.seq ?_
  refine CW.seq ?_
  obtain ⟨j5, hj5, h6⟩ := obind h
  refine CW.cut (fun e w => En e [(2, .pointer (some ⟨g1, 0, none⟩)), (3, .pointer (some ⟨g3, 0, none⟩)), (13, .bool j5)] ∧ St w0 [] w [bx g3 56 [.slice a1_0 x1.levels.length c1_0], bx g1 56 [.slice a0_0 x0.levels.length c0_0]]) ?_ ?_
  · have h := hj5
    refine CW.region ?_
    refine LW.ldbN hS3 1 rfl ag56 rfl rfl rfl ?_
    replace h := obind h
    obtain ⟨y7, hy7, h⟩ := h
    have q := W_s_LabelOk (w0 := w4) hy7 rfl (hS3.rB hr0_0)
    refine LW.call pl42 rfl rfl ?_
    refine Ret.mono q ?_
    rintro _ w8 ⟨rfl, hs⟩
    have hS4 := hS3.add hs
    iterate 2 refine LW.p rfl rfl ?_
    rcases bcases (!y7) with hc9 | hc9
    · replace h := bcT h hc9
      refine LW.gN (want_not rfl rfl hc9) rfl ?_
      refine LW.gN (want_not rfl rfl hc9) rfl ?_
      refine LW.gN (want_not rfl rfl hc9) rfl ?_
      refine LW.u (Pur.pickT rfl hc9) rfl ?_
      refine LW.nil ?_
      replace h := Option.some.inj h
      subst h
      exact ⟨⟨rfl, rfl, rfl, trivial⟩, hS4.pick [0, 1] rfl rfl⟩
    replace h := bcF h hc9
    refine LW.gY (want_of rfl rfl hc9) ?_
    refine LW.ldbN hS4 0 rfl ag56 rfl rfl rfl ?_
    replace h := obind h
    obtain ⟨y10, hy10, h⟩ := h
    have q := W_s_LabelOk (w0 := w8) hy10 rfl (hS4.rB hr1_0)
    refine LW.gY (want_of rfl rfl hc9) ?_
    refine LW.call pl42 rfl rfl ?_
    refine Ret.mono q ?_
    rintro _ w11 ⟨rfl, hs⟩
    have hS5 := hS4.add hs
    refine LW.gY (want_of rfl rfl hc9) ?_
    refine LW.p rfl rfl ?_
    refine LW.u (Pur.pickF rfl hc9) rfl ?_
    refine LW.nil ?_
    replace h := Option.some.inj h
    subst h
    exact ⟨⟨rfl, rfl, rfl, trivial⟩, hS5.pick [0, 1] rfl rfl⟩
  intro e w12 hM
  obtain ⟨hE, hS6⟩ := hM
  obtain ⟨e, rfl⟩ := hE.out
  have h := h6
  show CW _ _ _ _ _ _
  refine CW.cond rfl (fun hc13 => ?_) (fun hc13 => ?_)
  · replace h := bcT h hc13
    refine CW.seq ?_
    refine CW.region ?_
    refine LW.p rfl rfl ?_
    refine LW.nil ?_
    show CW _ _ _ _ _ _
    refine CW.ret ?_
    cases h
    exact And.intro trivial ⟨_, Res.one (resOne.t rfl), rfl, hS6.pick [] rfl rfl⟩
  replace h := bcF h hc13
  refine CW.skip ?_
  show CW _ _ _ _ _ _
  refine CW.seq ?_
  refine CW.seq ?_
  refine CW.region ?_
  refine LW.p rfl rfl ?_
  refine LW.nil ?_
  show CW _ _ _ _ _ _
  refine CW.block ?_
  obtain ⟨o35, ho35, h36⟩ := obind h
  refine CW.mono (CW.iter (σ := Int) (ρ := Int ⊕ Bool) (fun s14 e w => En e [(2, .pointer (some ⟨g1, 0, none⟩)), (3, .pointer (some ⟨g3, 0, none⟩)), (5, .int .i64 s14)] ∧ St w0 [] w [bx g3 56 [.slice a1_0 x1.levels.length c1_0], bx g1 56 [.slice a0_0 x0.levels.length c0_0]]) (fun o x e w => match o with | .inl s14 => x = .exit 0 ∧ En e [] ∧ St w0 [] w [bx g3 56 [.slice a1_0 x1.levels.length c1_0], bx g1 56 [.slice a0_0 x0.levels.length c0_0]] | .inr r => x = .ret ∧ ∃ u, u = r ∧ ∃ v, Res Try.prog Try.f51.results e w v ∧ v = .bool u ∧ St w0 [] w []) ?_ N 0 _ _ _ ⟨⟨rfl, rfl, rfl, trivial⟩, hS6.pick [0, 1] rfl rfl⟩ ho35) ?_
  · intro s14 e w o hM h
    obtain ⟨hE, hS7⟩ := hM
    obtain ⟨e, rfl⟩ := hE.out
    refine CW.seq ?_
    refine CW.seq ?_
    refine CW.region ?_
    iterate 2 refine LW.p rfl rfl ?_
    refine LW.nil ?_
    show CW _ _ _ _ _ _
    refine CW.cond rfl (fun hc15 => ?_) (fun hc15 => ?_)
    · replace h := bcT h hc15
      refine CW.skip ?_
      show CW _ _ _ _ _ _
      refine CW.seq ?_
      refine CW.block ?_
      refine CW.seq ?_
      refine CW.draw (by kernel_rfl) ?_
      have hS8 := hS7.drew
      refine AW.u (i := 0) rfl (by kernel_rfl) rfl rfl (Pur.fa fo56_0 rfl) ?_
      refine AW.take (i := 1) rfl (by kernel_rfl) rfl rfl (Ldr.box (bt := 56) (fr := (0, 0)) (cs := [.slice a0_0 x0.levels.length c0_0]) ag47 rfl rfl) (St.cell (h := hS8) (i := 1) rfl) ?_
      refine AW.u (i := 2) rfl (by kernel_rfl) rfl rfl (Pur.p rfl) ?_
      replace h := obind h
      obtain ⟨y16, hy16, h⟩ := h
      obtain ⟨b19, o20, cs21, hae, hb24, hp17, hq18, hd22, hk23⟩ := hr0_0.idx hy16
      subst hae
      obtain rfl := hd22
      refine AW.u (i := 3) rfl (by kernel_rfl) rfl rfl (Pur.ix Try.underlying47 sz3 rfl rfl hp17 hq18) ?_
      refine AW.take (i := 4) rfl (by kernel_rfl) rfl rfl (Ldr.old w0 ag3 rfl (hk23 0 _ rfl)) (hS8.same _ hb24.1 hb24.2) ?_
      refine AW.u (i := 5) rfl (by kernel_rfl) rfl rfl (Pur.fa fo56_0 rfl) ?_
      refine AW.take (i := 6) rfl (by kernel_rfl) rfl rfl (Ldr.box (bt := 56) (fr := (0, 0)) (cs := [.slice a1_0 x1.levels.length c1_0]) ag47 rfl rfl) (St.cell (h := hS8) (i := 0) rfl) ?_
      refine AW.u (i := 7) rfl (by kernel_rfl) rfl rfl (Pur.p rfl) ?_
      replace h := obind h
      obtain ⟨y25, hy25, h⟩ := h
      obtain ⟨b28, o29, cs30, hae, hb33, hp26, hq27, hd31, hk32⟩ := hr1_0.idx hy25
      subst hae
      obtain rfl := hd31
      refine AW.u (i := 8) rfl (by kernel_rfl) rfl rfl (Pur.ix Try.underlying47 sz3 rfl rfl hp26 hq27) ?_
      refine AW.take (i := 9) rfl (by kernel_rfl) rfl rfl (Ldr.old w0 ag3 rfl (hk32 0 _ rfl)) (hS8.same _ hb33.1 hb33.2) ?_
      refine AW.u (i := 10) rfl (by kernel_rfl) rfl rfl (Pur.p rfl) ?_
      refine AW.done (by kernel_rfl) ?_
      show CW _ _ _ _ _ _
      refine CW.cond rfl (fun hc34 => ?_) (fun hc34 => ?_)
      · replace h := bcT h hc34
        refine CW.seq ?_
        refine CW.region ?_
        refine LW.p rfl rfl ?_
        refine LW.nil ?_
        show CW _ _ _ _ _ _
        refine CW.ret ?_
        replace h := Option.some.inj h
        subst h
        exact ⟨trivial, rfl, _, rfl, ⟨_, Res.one (resOne.t rfl), rfl, hS8.pick [] rfl rfl⟩⟩
      replace h := bcF h hc34
      refine CW.skip ?_
      show CW _ _ _ _ _ _
      refine CW.region ?_
      iterate 3 refine LW.p rfl rfl ?_
      refine LW.nil ?_
      replace h := Option.some.inj h
      subst h
      exact ⟨rfl, ⟨⟨rfl, rfl, rfl, trivial⟩, hS8.pick [0, 1] rfl rfl⟩⟩
    replace h := bcF h hc15
    refine CW.exit ?_
    replace h := Option.some.inj h
    subst h
    exact ⟨trivial, rfl, ⟨trivial, hS7.pick [0, 1] rfl rfl⟩⟩
  intro x e w37 hM
  rcases o35 with o35 | r38
  · obtain ⟨rfl, hM⟩ := hM
    obtain ⟨hE, hS9⟩ := hM
    obtain ⟨e, rfl⟩ := hE.out
    have h := h36
    show CW _ _ _ _ _ _
    refine CW.seq ?_
    refine CW.region ?_
    refine LW.p rfl rfl ?_
    refine LW.nil ?_
    show CW _ _ _ _ _ _
    refine CW.ret ?_
    cases h
    exact And.intro trivial ⟨_, Res.one (resOne.t rfl), rfl, hS9.pick [] rfl rfl⟩
  obtain ⟨rfl, u, rfl, hM⟩ := hM
  cases h36
  exact And.intro trivial hM

theorem W_s_Seen {w0 : World} {N : Nat} {x0 : List DBoot} {x1 : DEntry} {x2 : DLabel} {r : Bool} (h : F_s_Seen N x0 x1 x2 = some r) {a0_0 : Option Addr} {n0_0 c0_0 : Nat} (hn0_0 : n0_0 = x0.length) (hr0_0 : rdS (Bor w0 []) w0 a0_0 c0_0 x0) {a2_0 : Option Addr} {n2_0 c2_0 : Nat} (hn2_0 : n2_0 = x2.levels.length) (hr2_0 : rdS (Bor w0 []) w0 a2_0 c2_0 x2.levels) :
    Ret Try.prog 27 #[.slice a0_0 n0_0 c0_0, .agg #[.int .i64 x1.kind, .int .i64 x1.part, .int .i64 x1.thread, .int .i64 x1.call.kind, .int .i64 x1.call.a, .int .i64 x1.call.b, .int .i64 x1.call.c, .int .i64 x1.call.d, .int .i64 x1.call.e], .agg #[.slice a2_0 n2_0 c2_0]] w0 (fun v w => v = .bool r ∧ St w0 [] w []) := by
  subst hn0_0
  subst hn2_0
  unfold F_s_Seen at h
  refine Ret.of Try.func27 rfl rfl rfl ?_
  have hS1 := St.start w0
  refine CW.seq ?_
  refine CW.region ?_
  refine LW.box (cs := [.int .i64 x1.kind, .int .i64 x1.part, .int .i64 x1.thread, .int .i64 x1.call.kind, .int .i64 x1.call.a, .int .i64 x1.call.b, .int .i64 x1.call.c, .int .i64 x1.call.d, .int .i64 x1.call.e]) rfl hS1 rfl ?_
  intro g1 w2 hS2 hf
  refine LW.box (cs := [.slice a2_0 x2.levels.length c2_0]) rfl hS2 rfl ?_
  intro g3 w4 hS3 hf
  refine LW.p rfl rfl ?_
  refine LW.nil ?_
  show CW _ _ _ _ _ _
  refine CW.seq ?_
  refine CW.seq ?_
  refine CW.region ?_
  refine LW.u (Pur.fa fo54_0 rfl) rfl ?_
  refine LW.ldb hS3 1 rfl ag3 rfl rfl rfl ?_
  refine LW.p rfl rfl ?_
  refine LW.nil ?_
  show CW _ _ _ _ _ _
  refine CW.cond rfl (fun hc5 => ?_) (fun hc5 => ?_)
  · replace h := bcT h hc5
    refine CW.seq ?_
    refine CW.region ?_
    refine LW.p rfl rfl ?_
    refine LW.nil ?_
    show CW _ _ _ _ _ _
    refine CW.ret ?_
    cases h
    exact And.intro trivial ⟨_, Res.one (resOne.t rfl), rfl, hS3.pick [] rfl rfl⟩
  replace h := bcF h hc5
  refine CW.skip ?_
  show CW _ _ _ _ _ _
  refine CW.seq ?_
  refine CW.draw (by kernel_rfl) ?_
  have hS4 := hS3.drew
  refine AW.u (i := 0) rfl (by kernel_rfl) rfl rfl (Pur.fa fo54_1 rfl) ?_
  refine AW.take (i := 1) rfl (by kernel_rfl) rfl rfl (Ldr.box (bt := 54) (fr := (0, 0)) (cs := [.int .i64 x1.kind, .int .i64 x1.part, .int .i64 x1.thread, .int .i64 x1.call.kind, .int .i64 x1.call.a, .int .i64 x1.call.b, .int .i64 x1.call.c, .int .i64 x1.call.d, .int .i64 x1.call.e]) ag3 rfl rfl) (St.cell (h := hS4) (i := 1) rfl) ?_
  refine AW.u (i := 2) rfl (by kernel_rfl) rfl rfl (Pur.p rfl) ?_
  refine AW.u (i := 3) rfl (by kernel_rfl) rfl rfl (Pur.len Try.underlying39 rfl) ?_
  refine AW.u (i := 4) rfl (by kernel_rfl) rfl rfl (Pur.p rfl) ?_
  replace h := obind h
  obtain ⟨y6, hy6, h⟩ := h
  have q := W_s_l1In (w0 := w4.drew) hy6
  refine AW.one (i := 5) (by kernel_rfl) ?_
  refine ⟨_, rfl, ?_⟩
  refine LW.call pl35 rfl rfl ?_
  refine Ret.mono q ?_
  rintro _ w7 ⟨rfl, hs⟩
  have hS5 := hS4.add hs
  refine LW.nil ⟨rfl, (.w (by kernel_rfl) Kept.n), ?_⟩
  refine AW.u (i := 6) rfl (by kernel_rfl) rfl rfl (Pur.p rfl) ?_
  rcases bcases y6 with hc8 | hc8
  · replace h := bcT h hc8
    refine AW.u (i := 7) rfl (by kernel_rfl) (want_of rfl rfl hc8) rfl (Pur.p rfl) ?_
    refine AW.u (i := 8) rfl (by kernel_rfl) (want_of rfl rfl hc8) rfl (Pur.fa fo54_1 rfl) ?_
    refine AW.take (i := 9) rfl (by kernel_rfl) (want_of rfl rfl hc8) rfl (Ldr.box (bt := 54) (fr := (0, 0)) (cs := [.int .i64 x1.kind, .int .i64 x1.part, .int .i64 x1.thread, .int .i64 x1.call.kind, .int .i64 x1.call.a, .int .i64 x1.call.b, .int .i64 x1.call.c, .int .i64 x1.call.d, .int .i64 x1.call.e]) ag3 rfl rfl) (St.cell (h := hS5) (i := 1) rfl) ?_
    replace h := obind h
    obtain ⟨y9, hy9, h⟩ := h
    obtain ⟨b12, o13, cs14, hae, hb17, hp10, hq11, hd15, hk16⟩ := hr0_0.idx hy9
    subst hae
    obtain ⟨a18, c19, a21, c22, rfl, hr20, hr23⟩ := hd15
    refine AW.u (i := 10) rfl (by kernel_rfl) (want_of rfl rfl hc8) rfl (Pur.ix Try.underlying39 sz76 rfl rfl hp10 hq11) ?_
    refine AW.u (i := 11) rfl (by kernel_rfl) (want_of rfl rfl hc8) rfl (Pur.fa fo76_0 rfl) ?_
    refine AW.take (i := 12) rfl (by kernel_rfl) (want_of rfl rfl hc8) rfl (Ldr.oldN w0 ag56 rfl rfl (fun j u hu => oldsub (m := 1) hk16 0 hu)) (hS5.same _ hb17.1 hb17.2) ?_
    refine AW.take (i := 13) rfl (by kernel_rfl) (want_of rfl rfl hc8) rfl (Ldr.boxN (bt := 56) (fr := (0, 0)) (cs := [.slice a2_0 x2.levels.length c2_0]) ag56 rfl rfl) (St.cell (h := hS5) (i := 0) rfl) ?_
    replace h := obind h
    obtain ⟨y24, hy24, h⟩ := h
    have q := W_s_Flows (w0 := w7) hy24 rfl (hS5.rB hr20) rfl (hS5.rB hr2_0)
    refine AW.one (i := 14) (by kernel_rfl) ?_
    refine ⟨_, rfl, ?_⟩
    refine LW.gY (want_of rfl rfl hc8) ?_
    refine LW.call pl51 rfl rfl ?_
    refine Ret.mono q ?_
    rintro _ w25 ⟨rfl, hs⟩
    have hS6 := hS5.add hs
    refine LW.nil ⟨rfl, (.w (by kernel_rfl) (.w (by kernel_rfl) (.c (St.cell (h := hS6) (i := 1) rfl) (.c (St.cell (h := hS6) (i := 1) rfl) Kept.n)))), ?_⟩
    refine AW.u (i := 15) rfl (by kernel_rfl) rfl rfl (Pur.pickT rfl hc8) ?_
    refine AW.u (i := 16) rfl (by kernel_rfl) rfl rfl (Pur.p rfl) ?_
    refine AW.done (by kernel_rfl) ?_
    show CW _ _ _ _ _ _
    refine CW.ret ?_
    cases h
    exact And.intro trivial ⟨_, Res.one (resOne.t rfl), rfl, hS6.pick [] rfl rfl⟩
  replace h := bcF h hc8
  refine AW.no (i := 7) rfl (by kernel_rfl) (want_not rfl rfl hc8) rfl ?_
  refine AW.no (i := 8) rfl (by kernel_rfl) (want_not rfl rfl hc8) rfl ?_
  refine AW.no (i := 9) rfl (by kernel_rfl) (want_not rfl rfl hc8) rfl ?_
  refine AW.no (i := 10) rfl (by kernel_rfl) (want_not rfl rfl hc8) rfl ?_
  refine AW.no (i := 11) rfl (by kernel_rfl) (want_not rfl rfl hc8) rfl ?_
  refine AW.no (i := 12) rfl (by kernel_rfl) (want_not rfl rfl hc8) rfl ?_
  refine AW.no (i := 13) rfl (by kernel_rfl) (want_not rfl rfl hc8) rfl ?_
  refine AW.no (i := 14) rfl (by kernel_rfl) (want_not rfl rfl hc8) rfl ?_
  refine AW.u (i := 15) rfl (by kernel_rfl) rfl rfl (Pur.pickF rfl hc8) ?_
  refine AW.u (i := 16) rfl (by kernel_rfl) rfl rfl (Pur.p rfl) ?_
  refine AW.done (by kernel_rfl) ?_
  show CW _ _ _ _ _ _
  refine CW.ret ?_
  cases h
  exact And.intro trivial ⟨_, Res.one (resOne.t rfl), rfl, hS5.pick [] rfl rfl⟩

theorem W_i_above {w0 : World} {N : Nat} {x0 : DLabel} {x1 : DLabel} {r : (List Int)} (h : F_i_above N x0 x1 = some r) {a0_0 : Option Addr} {n0_0 c0_0 : Nat} (hn0_0 : n0_0 = x0.levels.length) (hr0_0 : rdS (Bor w0 []) w0 a0_0 c0_0 x0.levels) {a1_0 : Option Addr} {n1_0 c1_0 : Nat} (hn1_0 : n1_0 = x1.levels.length) (hr1_0 : rdS (Bor w0 []) w0 a1_0 c1_0 x1.levels) :
    Ret Try.prog 62 #[.agg #[.slice a0_0 n0_0 c0_0], .agg #[.slice a1_0 n1_0 c1_0]] w0 (fun v w => ∃ ar0 cr0, v = .slice ar0 r.length cr0 ∧ St w0 [] w [sl ar0 cr0 r]) := by
  subst hn0_0
  subst hn1_0
  unfold F_i_above at h
  refine Ret.of Try.func62 rfl rfl rfl ?_
  have hS1 := St.start w0
  refine CW.seq ?_
  refine CW.region ?_
  refine LW.box (cs := [.slice a0_0 x0.levels.length c0_0]) rfl hS1 rfl ?_
  intro g1 w2 hS2 hf
  refine LW.box (cs := [.slice a1_0 x1.levels.length c1_0]) rfl hS2 rfl ?_
  intro g3 w4 hS3 hf
  refine LW.p rfl rfl ?_
  refine LW.nil ?_
  show CW _ _ _ _ _ _
  refine CW.seq ?_
  refine CW.region ?_
  refine LW.bsl (α := Int) (vs := []) (cs := #[]) (l := ([] : List Int)) rfl (by kernel_rfl) rfl rfl rfl (fun w => rfl) hS3 rfl ?_
  intro a5 c6 w7 hS4 hf
  refine LW.p rfl rfl ?_
  refine LW.nil ?_
  show CW _ _ _ _ _ _
  refine CW.seq ?_
  refine CW.seq ?_
  refine CW.region ?_
  refine LW.u (Pur.fa fo56_0 rfl) rfl ?_
  refine LW.ldb hS4 2 rfl ag47 rfl rfl rfl ?_
  refine LW.u (Pur.len Try.underlying47 rfl) rfl ?_
  refine LW.p rfl rfl ?_
  refine LW.nil ?_
  show CW _ _ _ _ _ _
  refine CW.block ?_
  obtain ⟨o34, ho34, h35⟩ := obind h
  refine CW.mono (CW.iter (σ := (List Int) × Int) (ρ := (List Int) × Int) (fun s8 e w => ∃ (s8a0 : Option Addr), ∃ (s8c0 : Nat), En e [(3, .pointer (some ⟨g3, 0, none⟩)), (5, .slice s8a0 s8.1.length s8c0), (10, .slice a0_0 x0.levels.length c0_0), (11, .int .i64 (x0.levels.length : Int)), (12, .int .i64 s8.2)] ∧ St w0 [] w [sl s8a0 s8c0 s8.1, bx g3 56 [.slice a1_0 x1.levels.length c1_0]]) (fun s8 x e w => x = .exit 0 ∧ ∃ (s8a0 : Option Addr), ∃ (s8c0 : Nat), En e [(5, .slice s8a0 s8.1.length s8c0)] ∧ St w0 [] w [sl s8a0 s8c0 s8.1, bx g3 56 [.slice a1_0 x1.levels.length c1_0]]) ?_ N (([] : List Int), 0) _ _ _ ⟨a5, c6, ⟨rfl, rfl, rfl, rfl, rfl, trivial⟩, hS4.pick [0, 1] rfl rfl⟩ ho34) ?_
  · intro s8 e w o hM h
    obtain ⟨s8a0, s8c0, hE, hS5⟩ := hM
    obtain ⟨e, rfl⟩ := hE.out
    refine CW.seq ?_
    refine CW.region ?_
    refine LW.p rfl rfl ?_
    refine LW.nil ?_
    show CW _ _ _ _ _ _
    refine CW.seq ?_
    refine CW.cond rfl (fun hc9 => ?_) (fun hc9 => ?_)
    · replace h := bcT h hc9
      refine CW.skip ?_
      show CW _ _ _ _ _ _
      refine CW.seq ?_
      refine CW.block ?_
      refine CW.seq ?_
      refine CW.region ?_
      refine LW.p rfl rfl ?_
      replace h := obind h
      obtain ⟨y10, hy10, h⟩ := h
      obtain ⟨b13, o14, cs15, hae, hb18, hp11, hq12, hd16, hk17⟩ := hr0_0.idx hy10
      subst hae
      obtain rfl := hd16
      refine LW.u (Pur.ix Try.underlying47 sz3 rfl rfl hp11 hq12) rfl ?_
      refine LW.l (Ldr.old w0 ag3 rfl (hk17 0 _ rfl)) (hS5.same _ hb18.1 hb18.2) rfl ?_
      iterate 2 refine LW.p rfl rfl ?_
      refine LW.nil ?_
      show CW _ _ _ _ _ _
      refine CW.fresh (l := [(3, .pointer (some ⟨g3, 0, none⟩)), (5, .slice s8a0 s8.1.length s8c0), (6, .int .i64 s8.2), (7, .int .i64 y10), (10, .slice (some ⟨b13, o14, none⟩) x0.levels.length c0_0), (11, .int .i64 (x0.levels.length : Int)), (12, .int .i64 s8.2)]) ⟨rfl, rfl, rfl, rfl, rfl, rfl, rfl, trivial⟩ (fun e => ?_)
      refine CW.seq ?_
      refine CW.region ?_
      refine LW.p rfl rfl ?_
      refine LW.u (Pur.fa fo56_0 rfl) rfl ?_
      refine LW.ldb hS5 1 rfl ag47 rfl rfl rfl ?_
      refine LW.p rfl rfl ?_
      replace h := obind h
      obtain ⟨y19, hy19, h⟩ := h
      obtain ⟨b22, o23, cs24, hae, hb27, hp20, hq21, hd25, hk26⟩ := hr1_0.idx hy19
      subst hae
      obtain rfl := hd25
      refine LW.u (Pur.ix Try.underlying47 sz3 rfl rfl hp20 hq21) rfl ?_
      refine LW.l (Ldr.old w0 ag3 rfl (hk26 0 _ rfl)) (hS5.same _ hb27.1 hb27.2) rfl ?_
      refine LW.p rfl rfl ?_
      refine LW.nil ?_
      show CW _ _ _ _ _ _
      refine CW.cond rfl (fun hc28 => ?_) (fun hc28 => ?_)
      · replace h := bcT h hc28
        refine CW.region ?_
        iterate 2 refine LW.p rfl rfl ?_
        replace h := obind h
        obtain ⟨y29, hy29, h⟩ := h
        refine LW.app1 (M := []) (L := [sl s8a0 s8c0 s8.1, bx g3 56 [.slice (some ⟨b22, o23, none⟩) x1.levels.length c1_0]]) (vs := #[.int .i64 s8.2]) (i := 0) sT47 rfl (by kernel_rfl) rfl rfl hy29 hS5 rfl (fun w G hG => by cases (show G = [] from hG); exact ⟨rfl, rfl⟩) rfl rfl ?_
        intro v32 a30 c31 w33 hS6 hf
        refine LW.p rfl rfl ?_
        refine LW.nil ?_
        show CW _ _ _ _ _ _
        refine CW.region ?_
        iterate 2 refine LW.p rfl rfl ?_
        refine LW.nil ?_
        replace h := Option.some.inj h
        subst h
        exact ⟨rfl, ⟨a30, c31, ⟨rfl, rfl, rfl, rfl, rfl, trivial⟩, hS6.pick [0, 1] rfl rfl⟩⟩
      replace h := bcF h hc28
      refine CW.skip ?_
      show CW _ _ _ _ _ _
      refine CW.region ?_
      iterate 2 refine LW.p rfl rfl ?_
      refine LW.nil ?_
      replace h := Option.some.inj h
      subst h
      exact ⟨rfl, ⟨s8a0, s8c0, ⟨rfl, rfl, rfl, rfl, rfl, trivial⟩, hS5.pick [0, 1] rfl rfl⟩⟩
    replace h := bcF h hc9
    refine CW.exit ?_
    replace h := Option.some.inj h
    subst h
    exact ⟨trivial, rfl, ⟨s8a0, s8c0, ⟨rfl, trivial⟩, hS5.pick [0, 1] rfl rfl⟩⟩
  intro x e w36 hM
  obtain ⟨rfl, hM⟩ := hM
  obtain ⟨s8a0, s8c0, hE, hS7⟩ := hM
  obtain ⟨e, rfl⟩ := hE.out
  have h := h35
  show CW _ _ _ _ _ _
  refine CW.seq ?_
  refine CW.region ?_
  iterate 2 refine LW.p rfl rfl ?_
  refine LW.nil ?_
  show CW _ _ _ _ _ _
  refine CW.ret ?_
  cases h
  exact And.intro trivial ⟨_, Res.one (resOne.t rfl), s8a0, s8c0, rfl, hS7.pick [0] rfl rfl⟩

theorem W_z_Index_int {w0 : World} {N : Nat} {x0 : List Int} {x1 : Int} {r : Int} (h : F_z_Index_int N x0 x1 = some r) {a0_0 : Option Addr} {n0_0 c0_0 : Nat} (hn0_0 : n0_0 = x0.length) (hr0_0 : rdS (Bor w0 []) w0 a0_0 c0_0 x0) :
    Ret Try.prog 64 #[.slice a0_0 n0_0 c0_0, .int .i64 x1] w0 (fun v w => v = .int .i64 r ∧ St w0 [] w []) := by
  subst hn0_0
  unfold F_z_Index_int at h
  refine Ret.of Try.func64 rfl rfl rfl ?_
  have hS1 := St.start w0
  refine CW.seq ?_
  refine CW.region ?_
  refine LW.p rfl rfl ?_
  refine LW.nil ?_
  show CW _ _ _ _ _ _
  refine CW.seq ?_
  refine CW.seq ?_
  refine CW.region ?_
  refine LW.p rfl rfl ?_
  refine LW.u (Pur.len Try.underlying47 rfl) rfl ?_
  refine LW.p rfl rfl ?_
  refine LW.nil ?_
  show CW _ _ _ _ _ _
  refine CW.block ?_
  obtain ⟨o13, ho13, h14⟩ := obind h
  refine CW.mono (CW.iter (σ := Int) (ρ := Int ⊕ Int) (fun s1 e w => En e [(0, .slice a0_0 x0.length c0_0), (1, .int .i64 x1), (7, .int .i64 (x0.length : Int)), (8, .int .i64 s1)] ∧ St w0 [] w []) (fun o x e w => match o with | .inl s1 => x = .exit 0 ∧ En e [] ∧ St w0 [] w [] | .inr r => x = .ret ∧ ∃ u, u = r ∧ ∃ v, Res Try.prog Try.f64.results e w v ∧ v = .int .i64 u ∧ St w0 [] w []) ?_ N 0 _ _ _ ⟨⟨rfl, rfl, rfl, rfl, trivial⟩, hS1.pick [] rfl rfl⟩ ho13) ?_
  · intro s1 e w o hM h
    obtain ⟨hE, hS2⟩ := hM
    obtain ⟨e, rfl⟩ := hE.out
    refine CW.seq ?_
    refine CW.region ?_
    refine LW.p rfl rfl ?_
    refine LW.nil ?_
    show CW _ _ _ _ _ _
    refine CW.seq ?_
    refine CW.cond rfl (fun hc2 => ?_) (fun hc2 => ?_)
    · replace h := bcT h hc2
      refine CW.skip ?_
      show CW _ _ _ _ _ _
      refine CW.seq ?_
      refine CW.block ?_
      refine CW.seq ?_
      refine CW.region ?_
      iterate 2 refine LW.p rfl rfl ?_
      refine LW.nil ?_
      show CW _ _ _ _ _ _
      refine CW.seq ?_
      refine CW.region ?_
      iterate 3 refine LW.p rfl rfl ?_
      replace h := obind h
      obtain ⟨y3, hy3, h⟩ := h
      obtain ⟨b6, o7, cs8, hae, hb11, hp4, hq5, hd9, hk10⟩ := hr0_0.idx hy3
      subst hae
      obtain rfl := hd9
      refine LW.u (Pur.ix Try.underlying47 sz3 rfl rfl hp4 hq5) rfl ?_
      refine LW.l (Ldr.old w0 ag3 rfl (hk10 0 _ rfl)) (hS2.same _ hb11.1 hb11.2) rfl ?_
      refine LW.p rfl rfl ?_
      refine LW.nil ?_
      show CW _ _ _ _ _ _
      refine CW.fresh (l := [(0, .slice (some ⟨b6, o7, none⟩) x0.length c0_0), (1, .int .i64 x1), (5, .int .i64 s1), (7, .int .i64 (x0.length : Int)), (8, .int .i64 s1), (16, .bool (x1 == y3))]) ⟨rfl, rfl, rfl, rfl, rfl, rfl, trivial⟩ (fun e => ?_)
      refine CW.cond rfl (fun hc12 => ?_) (fun hc12 => ?_)
      · replace h := bcT h hc12
        refine CW.seq ?_
        refine CW.region ?_
        iterate 2 refine LW.p rfl rfl ?_
        refine LW.nil ?_
        show CW _ _ _ _ _ _
        refine CW.ret ?_
        replace h := Option.some.inj h
        subst h
        exact ⟨trivial, rfl, _, rfl, ⟨_, Res.one (resOne.t rfl), rfl, hS2.pick [] rfl rfl⟩⟩
      replace h := bcF h hc12
      refine CW.skip ?_
      show CW _ _ _ _ _ _
      refine CW.region ?_
      iterate 2 refine LW.p rfl rfl ?_
      refine LW.nil ?_
      replace h := Option.some.inj h
      subst h
      exact ⟨rfl, ⟨⟨rfl, rfl, rfl, rfl, trivial⟩, hS2.pick [] rfl rfl⟩⟩
    replace h := bcF h hc2
    refine CW.exit ?_
    replace h := Option.some.inj h
    subst h
    exact ⟨trivial, rfl, ⟨trivial, hS2.pick [] rfl rfl⟩⟩
  intro x e w15 hM
  rcases o13 with o13 | r16
  · obtain ⟨rfl, hM⟩ := hM
    obtain ⟨hE, hS3⟩ := hM
    obtain ⟨e, rfl⟩ := hE.out
    have h := h14
    show CW _ _ _ _ _ _
    refine CW.seq ?_
    refine CW.region ?_
    refine LW.p rfl rfl ?_
    refine LW.nil ?_
    show CW _ _ _ _ _ _
    refine CW.ret ?_
    cases h
    exact And.intro trivial ⟨_, Res.one (resOne.t rfl), rfl, hS3.pick [] rfl rfl⟩
  obtain ⟨rfl, u, rfl, hM⟩ := hM
  cases h14
  exact And.intro trivial hM

theorem W_z_Contains_int {w0 : World} {N : Nat} {x0 : List Int} {x1 : Int} {r : Bool} (h : F_z_Contains_int N x0 x1 = some r) {a0_0 : Option Addr} {n0_0 c0_0 : Nat} (hn0_0 : n0_0 = x0.length) (hr0_0 : rdS (Bor w0 []) w0 a0_0 c0_0 x0) :
    Ret Try.prog 63 #[.slice a0_0 n0_0 c0_0, .int .i64 x1] w0 (fun v w => v = .bool r ∧ St w0 [] w []) := by
  subst hn0_0
  unfold F_z_Contains_int at h
  refine Ret.of Try.func63 rfl rfl rfl ?_
  have hS1 := St.start w0
  refine CW.seq ?_
  refine CW.region ?_
  refine LW.p rfl rfl ?_
  refine LW.nil ?_
  show CW _ _ _ _ _ _
  refine CW.seq ?_
  refine CW.region ?_
  iterate 2 refine LW.p rfl rfl ?_
  replace h := obind h
  obtain ⟨y1, hy1, h⟩ := h
  have q := W_z_Index_int (w0 := w0) hy1 rfl (hS1.rB hr0_0)
  refine LW.call pl64 rfl rfl ?_
  refine Ret.mono q ?_
  rintro _ w2 ⟨rfl, hs⟩
  have hS2 := hS1.add hs
  iterate 2 refine LW.p rfl rfl ?_
  refine LW.nil ?_
  show CW _ _ _ _ _ _
  refine CW.ret ?_
  cases h
  exact And.intro trivial ⟨_, Res.one (resOne.t rfl), rfl, hS2.pick [] rfl rfl⟩

theorem W_i_FlowsFor {w0 : World} {N : Nat} {x0 : List Int} {x1 : DLabel} {x2 : DLabel} {r : Bool} (h : F_i_FlowsFor N x0 x1 x2 = some r) {a0_0 : Option Addr} {n0_0 c0_0 : Nat} (hn0_0 : n0_0 = x0.length) (hr0_0 : rdS (Bor w0 []) w0 a0_0 c0_0 x0) {a1_0 : Option Addr} {n1_0 c1_0 : Nat} (hn1_0 : n1_0 = x1.levels.length) (hr1_0 : rdS (Bor w0 []) w0 a1_0 c1_0 x1.levels) {a2_0 : Option Addr} {n2_0 c2_0 : Nat} (hn2_0 : n2_0 = x2.levels.length) (hr2_0 : rdS (Bor w0 []) w0 a2_0 c2_0 x2.levels) :
    Ret Try.prog 61 #[.slice a0_0 n0_0 c0_0, .agg #[.slice a1_0 n1_0 c1_0], .agg #[.slice a2_0 n2_0 c2_0]] w0 (fun v w => v = .bool r ∧ St w0 [] w []) := by
  subst hn0_0
  subst hn1_0
  subst hn2_0
  unfold F_i_FlowsFor at h
  refine Ret.of Try.func61 rfl rfl rfl ?_
  have hS1 := St.start w0
  refine CW.seq ?_
  refine CW.region ?_
  refine LW.box (cs := [.slice a1_0 x1.levels.length c1_0]) rfl hS1 rfl ?_
  intro g1 w2 hS2 hf
  refine LW.box (cs := [.slice a2_0 x2.levels.length c2_0]) rfl hS2 rfl ?_
  intro g3 w4 hS3 hf
  refine LW.p rfl rfl ?_
  refine LW.nil ?_
  show CW _ _ _ _ _ _
  refine CW.seq ?_
  refine CW.seq ?_
  obtain ⟨j5, hj5, h6⟩ := obind h
  refine CW.cut (fun e w => En e [(0, .slice a0_0 x0.length c0_0), (4, .pointer (some ⟨g1, 0, none⟩)), (5, .pointer (some ⟨g3, 0, none⟩)), (21, .bool j5)] ∧ St w0 [] w [bx g3 56 [.slice a2_0 x2.levels.length c2_0], bx g1 56 [.slice a1_0 x1.levels.length c1_0]]) ?_ ?_
  · have h := hj5
    refine CW.region ?_
    refine LW.p rfl rfl ?_
    replace h := obind h
    obtain ⟨y7, hy7, h⟩ := h
    have q := W_i_OwnOk (w0 := w4) hy7 rfl (hS3.rB hr0_0)
    refine LW.call pl48 rfl rfl ?_
    refine Ret.mono q ?_
    rintro _ w8 ⟨rfl, hs⟩
    have hS4 := hS3.add hs
    iterate 2 refine LW.p rfl rfl ?_
    rcases bcases (!y7) with hc9 | hc9
    · replace h := bcT h hc9
      refine LW.gN (want_not rfl rfl hc9) rfl ?_
      refine LW.gN (want_not rfl rfl hc9) rfl ?_
      refine LW.gN (want_not rfl rfl hc9) rfl ?_
      refine LW.u (Pur.pickT rfl hc9) rfl ?_
      refine LW.p rfl rfl ?_
      refine LW.gN (want_not rfl rfl rfl) rfl ?_
      refine LW.gN (want_not rfl rfl rfl) rfl ?_
      refine LW.gN (want_not rfl rfl rfl) rfl ?_
      refine LW.u (Pur.pickT rfl rfl) rfl ?_
      refine LW.nil ?_
      replace h := Option.some.inj h
      subst h
      exact ⟨⟨rfl, rfl, rfl, rfl, trivial⟩, hS4.pick [0, 1] rfl rfl⟩
    replace h := bcF h hc9
    refine LW.gY (want_of rfl rfl hc9) ?_
    refine LW.ldbN hS4 1 rfl ag56 rfl rfl rfl ?_
    replace h := obind h
    obtain ⟨y10, hy10, h⟩ := h
    have q := W_i_LabelOk (w0 := w8) hy10 rfl (hS4.rB hr1_0)
    refine LW.gY (want_of rfl rfl hc9) ?_
    refine LW.call pl47 rfl rfl ?_
    refine Ret.mono q ?_
    rintro _ w11 ⟨rfl, hs⟩
    have hS5 := hS4.add hs
    refine LW.gY (want_of rfl rfl hc9) ?_
    refine LW.p rfl rfl ?_
    refine LW.u (Pur.pickF rfl hc9) rfl ?_
    refine LW.p rfl rfl ?_
    rcases bcases (!y10) with hc12 | hc12
    · replace h := bcT h hc12
      refine LW.gN (want_not rfl rfl hc12) rfl ?_
      refine LW.gN (want_not rfl rfl hc12) rfl ?_
      refine LW.gN (want_not rfl rfl hc12) rfl ?_
      refine LW.u (Pur.pickT rfl hc12) rfl ?_
      refine LW.nil ?_
      replace h := Option.some.inj h
      subst h
      exact ⟨⟨rfl, rfl, rfl, rfl, trivial⟩, hS5.pick [0, 1] rfl rfl⟩
    replace h := bcF h hc12
    refine LW.gY (want_of rfl rfl hc12) ?_
    refine LW.ldbN hS5 0 rfl ag56 rfl rfl rfl ?_
    replace h := obind h
    obtain ⟨y13, hy13, h⟩ := h
    have q := W_i_LabelOk (w0 := w11) hy13 rfl (hS5.rB hr2_0)
    refine LW.gY (want_of rfl rfl hc12) ?_
    refine LW.call pl47 rfl rfl ?_
    refine Ret.mono q ?_
    rintro _ w14 ⟨rfl, hs⟩
    have hS6 := hS5.add hs
    refine LW.gY (want_of rfl rfl hc12) ?_
    refine LW.p rfl rfl ?_
    refine LW.u (Pur.pickF rfl hc12) rfl ?_
    refine LW.nil ?_
    replace h := Option.some.inj h
    subst h
    exact ⟨⟨rfl, rfl, rfl, rfl, trivial⟩, hS6.pick [0, 1] rfl rfl⟩
  intro e w15 hM
  obtain ⟨hE, hS7⟩ := hM
  obtain ⟨e, rfl⟩ := hE.out
  have h := h6
  show CW _ _ _ _ _ _
  refine CW.cond rfl (fun hc16 => ?_) (fun hc16 => ?_)
  · replace h := bcT h hc16
    refine CW.seq ?_
    refine CW.region ?_
    refine LW.p rfl rfl ?_
    refine LW.nil ?_
    show CW _ _ _ _ _ _
    refine CW.ret ?_
    cases h
    exact And.intro trivial ⟨_, Res.one (resOne.t rfl), rfl, hS7.pick [] rfl rfl⟩
  replace h := bcF h hc16
  refine CW.skip ?_
  show CW _ _ _ _ _ _
  refine CW.seq ?_
  refine CW.seq ?_
  refine CW.region ?_
  refine LW.ldbN hS7 1 rfl ag56 rfl rfl rfl ?_
  refine LW.ldbN hS7 0 rfl ag56 rfl rfl rfl ?_
  replace h := obind h
  obtain ⟨y17, hy17, h⟩ := h
  have q := W_i_above (w0 := w15) hy17 rfl (hS7.rB hr1_0) rfl (hS7.rB hr2_0)
  refine LW.call pl62 rfl rfl ?_
  refine Ret.mono q ?_
  rintro _ w20 ⟨a18, c19, rfl, hs⟩
  have hS8 := hS7.add hs
  refine LW.u (Pur.len Try.underlying47 rfl) rfl ?_
  refine LW.p rfl rfl ?_
  refine LW.nil ?_
  show CW _ _ _ _ _ _
  refine CW.block ?_
  obtain ⟨o39, ho39, h40⟩ := obind h
  refine CW.mono (CW.iter (σ := Int) (ρ := Int ⊕ Bool) (fun s21 e w => En e [(0, .slice a0_0 x0.length c0_0), (24, .slice a18 y17.length c19), (25, .int .i64 (y17.length : Int)), (26, .int .i64 s21)] ∧ St w0 [] w [sl a18 c19 y17]) (fun o x e w => match o with | .inl s21 => x = .exit 0 ∧ En e [] ∧ St w0 [] w [sl a18 c19 y17] | .inr r => x = .ret ∧ ∃ u, u = r ∧ ∃ v, Res Try.prog Try.f61.results e w v ∧ v = .bool u ∧ St w0 [] w []) ?_ N 0 _ _ _ ⟨⟨rfl, rfl, rfl, rfl, trivial⟩, hS8.pick [0] rfl rfl⟩ ho39) ?_
  · intro s21 e w o hM h
    obtain ⟨hE, hS9⟩ := hM
    obtain ⟨e, rfl⟩ := hE.out
    refine CW.seq ?_
    refine CW.region ?_
    refine LW.p rfl rfl ?_
    refine LW.nil ?_
    show CW _ _ _ _ _ _
    refine CW.seq ?_
    refine CW.cond rfl (fun hc22 => ?_) (fun hc22 => ?_)
    · replace h := bcT h hc22
      refine CW.skip ?_
      show CW _ _ _ _ _ _
      refine CW.seq ?_
      refine CW.block ?_
      refine CW.seq ?_
      refine CW.region ?_
      replace h := obind h
      obtain ⟨y23, hy23, h⟩ := h
      obtain ⟨b26, o27, hae, hp24, hq25⟩ := hS9.ownIdx (α := Int) (i := 0) rfl hy23
      subst hae
      refine LW.u (Pur.ix Try.underlying47 sz3 rfl rfl hp24 hq25) rfl ?_
      obtain ⟨F28, ho29, hS10⟩ := hS9.freeze (α := Int) 0 rfl
      obtain ⟨b30, o31, cs32, hae, hb35, _, _, hd33, hk34⟩ := ho29.rdF.idx hy23
      cases hae
      obtain rfl := hd33
      refine LW.l (Ldr.old w ag3 rfl (hk34 0 _ rfl)) (hS10.zC 0 rfl hb35) rfl ?_
      refine LW.p rfl rfl ?_
      refine LW.nil ?_
      show CW _ _ _ _ _ _
      refine CW.fresh (l := [(0, .slice a0_0 x0.length c0_0), (8, .int .i64 y23), (24, .slice (some ⟨b26, o27, none⟩) y17.length c19), (25, .int .i64 (y17.length : Int)), (26, .int .i64 s21)]) ⟨rfl, rfl, rfl, rfl, rfl, trivial⟩ (fun e => ?_)
      refine CW.seq ?_
      refine CW.region ?_
      iterate 2 refine LW.p rfl rfl ?_
      replace h := obind h
      obtain ⟨y36, hy36, h⟩ := h
      have q := W_z_Contains_int (w0 := w) hy36 rfl (hS10.rB hr0_0)
      refine LW.call pl63 rfl rfl ?_
      refine Ret.mono q ?_
      rintro _ w37 ⟨rfl, hs⟩
      have hS11 := hS10.add hs
      refine LW.p rfl rfl ?_
      refine LW.nil ?_
      show CW _ _ _ _ _ _
      refine CW.cond rfl (fun hc38 => ?_) (fun hc38 => ?_)
      · replace h := bcT h hc38
        refine CW.seq ?_
        refine CW.region ?_
        refine LW.p rfl rfl ?_
        refine LW.nil ?_
        show CW _ _ _ _ _ _
        refine CW.ret ?_
        replace h := Option.some.inj h
        subst h
        exact ⟨trivial, rfl, _, rfl, ⟨_, Res.one (resOne.t rfl), rfl, hS11.pick [] rfl rfl⟩⟩
      replace h := bcF h hc38
      refine CW.skip ?_
      show CW _ _ _ _ _ _
      refine CW.region ?_
      iterate 2 refine LW.p rfl rfl ?_
      refine LW.nil ?_
      replace h := Option.some.inj h
      subst h
      have hS12 := hS11.thaw (α := Int) 0 rfl ho29
      exact ⟨rfl, ⟨⟨rfl, rfl, rfl, rfl, trivial⟩, hS12.pick [0] rfl rfl⟩⟩
    replace h := bcF h hc22
    refine CW.exit ?_
    replace h := Option.some.inj h
    subst h
    exact ⟨trivial, rfl, ⟨trivial, hS9.pick [0] rfl rfl⟩⟩
  intro x e w41 hM
  rcases o39 with o39 | r42
  · obtain ⟨rfl, hM⟩ := hM
    obtain ⟨hE, hS13⟩ := hM
    obtain ⟨e, rfl⟩ := hE.out
    have h := h40
    show CW _ _ _ _ _ _
    refine CW.seq ?_
    refine CW.region ?_
    refine LW.p rfl rfl ?_
    refine LW.nil ?_
    show CW _ _ _ _ _ _
    refine CW.ret ?_
    cases h
    exact And.intro trivial ⟨_, Res.one (resOne.t rfl), rfl, hS13.pick [] rfl rfl⟩
  obtain ⟨rfl, u, rfl, hM⟩ := hM
  cases h40
  exact And.intro trivial hM

theorem W_i_Flows {w0 : World} {N : Nat} {x0 : DLabel} {x1 : DLabel} {r : Bool} (h : F_i_Flows N x0 x1 = some r) {a0_0 : Option Addr} {n0_0 c0_0 : Nat} (hn0_0 : n0_0 = x0.levels.length) (hr0_0 : rdS (Bor w0 []) w0 a0_0 c0_0 x0.levels) {a1_0 : Option Addr} {n1_0 c1_0 : Nat} (hn1_0 : n1_0 = x1.levels.length) (hr1_0 : rdS (Bor w0 []) w0 a1_0 c1_0 x1.levels) :
    Ret Try.prog 54 #[.agg #[.slice a0_0 n0_0 c0_0], .agg #[.slice a1_0 n1_0 c1_0]] w0 (fun v w => v = .bool r ∧ St w0 [] w []) := by
  subst hn0_0
  subst hn1_0
  unfold F_i_Flows at h
  refine Ret.of Try.func54 rfl rfl rfl ?_
  have hS1 := St.start w0
  refine CW.seq ?_
  refine CW.region ?_
  refine LW.box (cs := [.slice a0_0 x0.levels.length c0_0]) rfl hS1 rfl ?_
  intro g1 w2 hS2 hf
  refine LW.box (cs := [.slice a1_0 x1.levels.length c1_0]) rfl hS2 rfl ?_
  intro g3 w4 hS3 hf
  refine LW.p rfl rfl ?_
  refine LW.nil ?_
  show CW _ _ _ _ _ _
  refine CW.seq ?_
  refine CW.region ?_
  refine LW.ldbN hS3 1 rfl ag56 rfl rfl rfl ?_
  refine LW.ldbN hS3 0 rfl ag56 rfl rfl rfl ?_
  replace h := obind h
  obtain ⟨y5, hy5, h⟩ := h
  have q := W_i_FlowsFor (w0 := w4) hy5 rfl (show rdS (α := Int) (Bor w4 []) w4 none 0 [] from rdS.nil _ _ _ _ (Nat.zero_le _)) rfl (hS3.rB hr0_0) rfl (hS3.rB hr1_0)
  refine LW.call pl61 rfl rfl ?_
  refine Ret.mono q ?_
  rintro _ w6 ⟨rfl, hs⟩
  have hS4 := hS3.add hs
  refine LW.p rfl rfl ?_
  refine LW.nil ?_
  show CW _ _ _ _ _ _
  refine CW.ret ?_
  cases h
  exact And.intro trivial ⟨_, Res.one (resOne.t rfl), rfl, hS4.pick [] rfl rfl⟩

theorem W_i_Seen {w0 : World} {N : Nat} {x0 : List DBoot} {x1 : DEntry} {x2 : DLabel} {r : Bool} (h : F_i_Seen N x0 x1 x2 = some r) {a0_0 : Option Addr} {n0_0 c0_0 : Nat} (hn0_0 : n0_0 = x0.length) (hr0_0 : rdS (Bor w0 []) w0 a0_0 c0_0 x0) {a2_0 : Option Addr} {n2_0 c2_0 : Nat} (hn2_0 : n2_0 = x2.levels.length) (hr2_0 : rdS (Bor w0 []) w0 a2_0 c2_0 x2.levels) :
    Ret Try.prog 30 #[.slice a0_0 n0_0 c0_0, .agg #[.int .i64 x1.kind, .int .i64 x1.part, .int .i64 x1.thread, .int .i64 x1.call.kind, .int .i64 x1.call.a, .int .i64 x1.call.b, .int .i64 x1.call.c, .int .i64 x1.call.d, .int .i64 x1.call.e], .agg #[.slice a2_0 n2_0 c2_0]] w0 (fun v w => v = .bool r ∧ St w0 [] w []) := by
  subst hn0_0
  subst hn2_0
  unfold F_i_Seen at h
  refine Ret.of Try.func30 rfl rfl rfl ?_
  have hS1 := St.start w0
  refine CW.seq ?_
  refine CW.region ?_
  refine LW.box (cs := [.int .i64 x1.kind, .int .i64 x1.part, .int .i64 x1.thread, .int .i64 x1.call.kind, .int .i64 x1.call.a, .int .i64 x1.call.b, .int .i64 x1.call.c, .int .i64 x1.call.d, .int .i64 x1.call.e]) rfl hS1 rfl ?_
  intro g1 w2 hS2 hf
  refine LW.box (cs := [.slice a2_0 x2.levels.length c2_0]) rfl hS2 rfl ?_
  intro g3 w4 hS3 hf
  refine LW.p rfl rfl ?_
  refine LW.nil ?_
  show CW _ _ _ _ _ _
  refine CW.seq ?_
  refine CW.draw (by kernel_rfl) ?_
  have hS4 := hS3.drew
  refine AW.u (i := 0) rfl (by kernel_rfl) rfl rfl (Pur.fa fo54_0 rfl) ?_
  refine AW.take (i := 1) rfl (by kernel_rfl) rfl rfl (Ldr.box (bt := 54) (fr := (0, 0)) (cs := [.int .i64 x1.kind, .int .i64 x1.part, .int .i64 x1.thread, .int .i64 x1.call.kind, .int .i64 x1.call.a, .int .i64 x1.call.b, .int .i64 x1.call.c, .int .i64 x1.call.d, .int .i64 x1.call.e]) ag3 rfl rfl) (St.cell (h := hS4) (i := 1) rfl) ?_
  refine AW.u (i := 2) rfl (by kernel_rfl) rfl rfl (Pur.p rfl) ?_
  refine AW.u (i := 3) rfl (by kernel_rfl) rfl rfl (Pur.p rfl) ?_
  rcases bcases (x1.kind == 1) with hc5 | hc5
  · replace h := bcT h hc5
    refine AW.no (i := 4) rfl (by kernel_rfl) (want_not rfl rfl hc5) rfl ?_
    refine AW.no (i := 5) rfl (by kernel_rfl) (want_not rfl rfl hc5) rfl ?_
    refine AW.no (i := 6) rfl (by kernel_rfl) (want_not rfl rfl hc5) rfl ?_
    refine AW.no (i := 7) rfl (by kernel_rfl) (want_not rfl rfl hc5) rfl ?_
    refine AW.no (i := 8) rfl (by kernel_rfl) (want_not rfl rfl hc5) rfl ?_
    refine AW.no (i := 9) rfl (by kernel_rfl) (want_not rfl rfl hc5) rfl ?_
    refine AW.no (i := 10) rfl (by kernel_rfl) (want_not rfl rfl hc5) rfl ?_
    refine AW.no (i := 11) rfl (by kernel_rfl) (want_undef rfl rfl) rfl ?_
    refine AW.no (i := 12) rfl (by kernel_rfl) (want_undef rfl rfl) rfl ?_
    refine AW.no (i := 13) rfl (by kernel_rfl) (want_undef rfl rfl) rfl ?_
    refine AW.no (i := 14) rfl (by kernel_rfl) (want_undef rfl rfl) rfl ?_
    refine AW.no (i := 15) rfl (by kernel_rfl) (want_undef rfl rfl) rfl ?_
    refine AW.no (i := 16) rfl (by kernel_rfl) (want_undef rfl rfl) rfl ?_
    refine AW.no (i := 17) rfl (by kernel_rfl) (want_undef rfl rfl) rfl ?_
    refine AW.no (i := 18) rfl (by kernel_rfl) (want_undef rfl rfl) rfl ?_
    refine AW.no (i := 19) rfl (by kernel_rfl) (want_not rfl rfl hc5) rfl ?_
    refine AW.u (i := 20) rfl (by kernel_rfl) rfl rfl (Pur.pickT rfl hc5) ?_
    refine AW.u (i := 21) rfl (by kernel_rfl) rfl rfl (Pur.p rfl) ?_
    refine AW.done (by kernel_rfl) ?_
    show CW _ _ _ _ _ _
    refine CW.ret ?_
    cases h
    exact And.intro trivial ⟨_, Res.one (resOne.t rfl), rfl, hS4.pick [] rfl rfl⟩
  replace h := bcF h hc5
  refine AW.u (i := 4) rfl (by kernel_rfl) (want_of rfl rfl hc5) rfl (Pur.fa fo54_1 rfl) ?_
  refine AW.take (i := 5) rfl (by kernel_rfl) (want_of rfl rfl hc5) rfl (Ldr.box (bt := 54) (fr := (0, 0)) (cs := [.int .i64 x1.kind, .int .i64 x1.part, .int .i64 x1.thread, .int .i64 x1.call.kind, .int .i64 x1.call.a, .int .i64 x1.call.b, .int .i64 x1.call.c, .int .i64 x1.call.d, .int .i64 x1.call.e]) ag3 rfl rfl) (St.cell (h := hS4) (i := 1) rfl) ?_
  refine AW.u (i := 6) rfl (by kernel_rfl) (want_of rfl rfl hc5) rfl (Pur.p rfl) ?_
  refine AW.u (i := 7) rfl (by kernel_rfl) (want_of rfl rfl hc5) rfl (Pur.len Try.underlying39 rfl) ?_
  refine AW.u (i := 8) rfl (by kernel_rfl) (want_of rfl rfl hc5) rfl (Pur.p rfl) ?_
  replace h := obind h
  obtain ⟨y6, hy6, h⟩ := h
  have q := W_i_within (w0 := w4.drew) hy6
  refine AW.one (i := 9) (by kernel_rfl) ?_
  refine ⟨_, rfl, ?_⟩
  refine LW.gY (want_of rfl rfl hc5) ?_
  refine LW.call pl36 rfl rfl ?_
  refine Ret.mono q ?_
  rintro _ w7 ⟨rfl, hs⟩
  have hS5 := hS4.add hs
  refine LW.nil ⟨rfl, (.w (by kernel_rfl) (.c (St.cell (h := hS5) (i := 1) rfl) Kept.n)), ?_⟩
  refine AW.u (i := 10) rfl (by kernel_rfl) (want_of rfl rfl hc5) rfl (Pur.p rfl) ?_
  rcases bcases y6 with hc8 | hc8
  · replace h := bcT h hc8
    refine AW.u (i := 11) rfl (by kernel_rfl) (want_of rfl rfl hc8) rfl (Pur.p rfl) ?_
    refine AW.u (i := 12) rfl (by kernel_rfl) (want_of rfl rfl hc8) rfl (Pur.fa fo54_1 rfl) ?_
    refine AW.take (i := 13) rfl (by kernel_rfl) (want_of rfl rfl hc8) rfl (Ldr.box (bt := 54) (fr := (0, 0)) (cs := [.int .i64 x1.kind, .int .i64 x1.part, .int .i64 x1.thread, .int .i64 x1.call.kind, .int .i64 x1.call.a, .int .i64 x1.call.b, .int .i64 x1.call.c, .int .i64 x1.call.d, .int .i64 x1.call.e]) ag3 rfl rfl) (St.cell (h := hS5) (i := 1) rfl) ?_
    replace h := obind h
    obtain ⟨y9, hy9, h⟩ := h
    obtain ⟨b12, o13, cs14, hae, hb17, hp10, hq11, hd15, hk16⟩ := hr0_0.idx hy9
    subst hae
    obtain ⟨a18, c19, a21, c22, rfl, hr20, hr23⟩ := hd15
    refine AW.u (i := 14) rfl (by kernel_rfl) (want_of rfl rfl hc8) rfl (Pur.ix Try.underlying39 sz76 rfl rfl hp10 hq11) ?_
    refine AW.u (i := 15) rfl (by kernel_rfl) (want_of rfl rfl hc8) rfl (Pur.fa fo76_0 rfl) ?_
    refine AW.take (i := 16) rfl (by kernel_rfl) (want_of rfl rfl hc8) rfl (Ldr.oldN w0 ag56 rfl rfl (fun j u hu => oldsub (m := 1) hk16 0 hu)) (hS5.same _ hb17.1 hb17.2) ?_
    refine AW.take (i := 17) rfl (by kernel_rfl) (want_of rfl rfl hc8) rfl (Ldr.boxN (bt := 56) (fr := (0, 0)) (cs := [.slice a2_0 x2.levels.length c2_0]) ag56 rfl rfl) (St.cell (h := hS5) (i := 0) rfl) ?_
    replace h := obind h
    obtain ⟨y24, hy24, h⟩ := h
    have q := W_i_Flows (w0 := w7) hy24 rfl (hS5.rB hr20) rfl (hS5.rB hr2_0)
    refine AW.one (i := 18) (by kernel_rfl) ?_
    refine ⟨_, rfl, ?_⟩
    refine LW.gY (want_of rfl rfl hc8) ?_
    refine LW.call pl54 rfl rfl ?_
    refine Ret.mono q ?_
    rintro _ w25 ⟨rfl, hs⟩
    have hS6 := hS5.add hs
    refine LW.nil ⟨rfl, (.w (by kernel_rfl) (.w (by kernel_rfl) (.c (St.cell (h := hS6) (i := 1) rfl) (.c (St.cell (h := hS6) (i := 1) rfl) (.c (St.cell (h := hS6) (i := 1) rfl) Kept.n))))), ?_⟩
    refine AW.u (i := 19) rfl (by kernel_rfl) (want_of rfl rfl hc5) rfl (Pur.pickT rfl hc8) ?_
    refine AW.u (i := 20) rfl (by kernel_rfl) rfl rfl (Pur.pickF rfl hc5) ?_
    refine AW.u (i := 21) rfl (by kernel_rfl) rfl rfl (Pur.p rfl) ?_
    refine AW.done (by kernel_rfl) ?_
    show CW _ _ _ _ _ _
    refine CW.ret ?_
    cases h
    exact And.intro trivial ⟨_, Res.one (resOne.t rfl), rfl, hS6.pick [] rfl rfl⟩
  replace h := bcF h hc8
  refine AW.no (i := 11) rfl (by kernel_rfl) (want_not rfl rfl hc8) rfl ?_
  refine AW.no (i := 12) rfl (by kernel_rfl) (want_not rfl rfl hc8) rfl ?_
  refine AW.no (i := 13) rfl (by kernel_rfl) (want_not rfl rfl hc8) rfl ?_
  refine AW.no (i := 14) rfl (by kernel_rfl) (want_not rfl rfl hc8) rfl ?_
  refine AW.no (i := 15) rfl (by kernel_rfl) (want_not rfl rfl hc8) rfl ?_
  refine AW.no (i := 16) rfl (by kernel_rfl) (want_not rfl rfl hc8) rfl ?_
  refine AW.no (i := 17) rfl (by kernel_rfl) (want_not rfl rfl hc8) rfl ?_
  refine AW.no (i := 18) rfl (by kernel_rfl) (want_not rfl rfl hc8) rfl ?_
  refine AW.u (i := 19) rfl (by kernel_rfl) (want_of rfl rfl hc5) rfl (Pur.pickF rfl hc8) ?_
  refine AW.u (i := 20) rfl (by kernel_rfl) rfl rfl (Pur.pickF rfl hc5) ?_
  refine AW.u (i := 21) rfl (by kernel_rfl) rfl rfl (Pur.p rfl) ?_
  refine AW.done (by kernel_rfl) ?_
  show CW _ _ _ _ _ _
  refine CW.ret ?_
  cases h
  exact And.intro trivial ⟨_, Res.one (resOne.t rfl), rfl, hS5.pick [] rfl rfl⟩

theorem W_l_FnExactSeen {w0 : World} {N : Nat} {x0 : List DBoot} {x1 : DEntry} {x2 : DLabel} {r : Bool} (h : F_l_FnExactSeen N x0 x1 x2 = some r) {a0_0 : Option Addr} {n0_0 c0_0 : Nat} (hn0_0 : n0_0 = x0.length) (hr0_0 : rdS (Bor w0 []) w0 a0_0 c0_0 x0) {a2_0 : Option Addr} {n2_0 c2_0 : Nat} (hn2_0 : n2_0 = x2.levels.length) (hr2_0 : rdS (Bor w0 []) w0 a2_0 c2_0 x2.levels) :
    Ret Try.prog 7 #[.slice a0_0 n0_0 c0_0, .agg #[.int .i64 x1.kind, .int .i64 x1.part, .int .i64 x1.thread, .int .i64 x1.call.kind, .int .i64 x1.call.a, .int .i64 x1.call.b, .int .i64 x1.call.c, .int .i64 x1.call.d, .int .i64 x1.call.e], .agg #[.slice a2_0 n2_0 c2_0]] w0 (fun v w => v = .bool r ∧ St w0 [] w []) := by
  subst hn0_0
  subst hn2_0
  unfold F_l_FnExactSeen at h
  refine Ret.of Try.func7 rfl rfl rfl ?_
  have hS1 := St.start w0
  refine CW.seq ?_
  refine CW.region ?_
  refine LW.box (cs := [.int .i64 x1.kind, .int .i64 x1.part, .int .i64 x1.thread, .int .i64 x1.call.kind, .int .i64 x1.call.a, .int .i64 x1.call.b, .int .i64 x1.call.c, .int .i64 x1.call.d, .int .i64 x1.call.e]) rfl hS1 rfl ?_
  intro g1 w2 hS2 hf
  refine LW.box (cs := [.slice a2_0 x2.levels.length c2_0]) rfl hS2 rfl ?_
  intro g3 w4 hS3 hf
  refine LW.p rfl rfl ?_
  refine LW.nil ?_
  show CW _ _ _ _ _ _
  refine CW.seq ?_
  refine CW.region ?_
  refine LW.p rfl rfl ?_
  refine LW.nil ?_
  show CW _ _ _ _ _ _
  refine CW.seq ?_
  refine CW.region ?_
  iterate 2 refine LW.p rfl rfl ?_
  replace h := obind h
  obtain ⟨y5, hy5, h⟩ := h
  have q := W_l_szPartBootS (w0 := w4) hy5 rfl (hS3.rB hr0_0)
  refine LW.call pl21 rfl rfl ?_
  refine Ret.mono q ?_
  rintro _ w6 ⟨rfl, hs⟩
  have hS4 := hS3.add hs
  refine LW.p rfl rfl ?_
  refine LW.nil ?_
  show CW _ _ _ _ _ _
  refine CW.seq ?_
  refine CW.seq ?_
  refine CW.region ?_
  iterate 2 refine LW.p rfl rfl ?_
  refine LW.nil ?_
  show CW _ _ _ _ _ _
  refine CW.cond rfl (fun hc7 => ?_) (fun hc7 => ?_)
  · replace h := bcT h hc7
    refine CW.seq ?_
    refine CW.region ?_
    refine LW.p rfl rfl ?_
    refine LW.nil ?_
    show CW _ _ _ _ _ _
    refine CW.ret ?_
    cases h
    exact And.intro trivial ⟨_, Res.one (resOne.t rfl), rfl, hS4.pick [] rfl rfl⟩
  replace h := bcF h hc7
  refine CW.skip ?_
  show CW _ _ _ _ _ _
  refine CW.seq ?_
  refine CW.region ?_
  refine LW.ldbN hS4 0 rfl ag49 rfl rfl rfl ?_
  refine LW.p rfl rfl ?_
  replace h := obind h
  obtain ⟨y8, hy8, h⟩ := h
  have q := W_l_szLabel (w0 := w6) hy8 rfl (hS4.rB hr2_0)
  refine LW.call pl26 rfl rfl ?_
  refine Ret.mono q ?_
  rintro _ w9 ⟨rfl, hs⟩
  have hS5 := hS4.add hs
  refine LW.p rfl rfl ?_
  refine LW.nil ?_
  show CW _ _ _ _ _ _
  refine CW.fresh (l := [(0, .slice a0_0 x0.length c0_0), (4, .pointer (some ⟨g1, 0, none⟩)), (5, .pointer (some ⟨g3, 0, none⟩)), (7, .int .i64 y8)]) ⟨rfl, rfl, rfl, rfl, trivial⟩ (fun e => ?_)
  refine CW.seq ?_
  refine CW.seq ?_
  refine CW.region ?_
  iterate 2 refine LW.p rfl rfl ?_
  refine LW.nil ?_
  show CW _ _ _ _ _ _
  refine CW.cond rfl (fun hc10 => ?_) (fun hc10 => ?_)
  · replace h := bcT h hc10
    refine CW.seq ?_
    refine CW.region ?_
    refine LW.p rfl rfl ?_
    refine LW.nil ?_
    show CW _ _ _ _ _ _
    refine CW.ret ?_
    cases h
    exact And.intro trivial ⟨_, Res.one (resOne.t rfl), rfl, hS5.pick [] rfl rfl⟩
  replace h := bcF h hc10
  refine CW.skip ?_
  show CW _ _ _ _ _ _
  refine CW.seq ?_
  refine CW.draw (by kernel_rfl) ?_
  have hS6 := hS5.drew
  refine AW.u (i := 0) rfl (by kernel_rfl) rfl rfl (Pur.p rfl) ?_
  refine AW.take (i := 2) rfl (by kernel_rfl) rfl rfl (Ldr.boxN (bt := 46) (fr := (0, 0)) (cs := [.int .i64 x1.kind, .int .i64 x1.part, .int .i64 x1.thread, .int .i64 x1.call.kind, .int .i64 x1.call.a, .int .i64 x1.call.b, .int .i64 x1.call.c, .int .i64 x1.call.d, .int .i64 x1.call.e]) ag46 rfl rfl) (St.cell (h := hS6) (i := 1) rfl) ?_
  refine AW.take (i := 4) rfl (by kernel_rfl) rfl rfl (Ldr.boxN (bt := 49) (fr := (0, 0)) (cs := [.slice a2_0 x2.levels.length c2_0]) ag49 rfl rfl) (St.cell (h := hS6) (i := 0) rfl) ?_
  replace h := obind h
  obtain ⟨y11, hy11, h⟩ := h
  have q := W_l_toPartBootS (w0 := w9.drew) hy11 rfl (hS6.rB hr0_0)
  refine AW.one (i := 1) (by kernel_rfl) ?_
  refine ⟨_, rfl, ?_⟩
  refine LW.call pl23 rfl rfl ?_
  refine Ret.mono q ?_
  rintro _ w14 ⟨a12, c13, rfl, hs⟩
  have hS7 := hS6.add hs
  refine LW.nil ⟨rfl, (.c (St.cell (h := hS7) (i := 1) rfl) (.c (St.cell (h := hS7) (i := 2) rfl) Kept.n)), ?_⟩
  replace h := obind h
  obtain ⟨y15, hy15, h⟩ := h
  have q := W_l_toEntry (w0 := w14) hy15
  refine AW.one (i := 3) (by kernel_rfl) ?_
  refine ⟨_, rfl, ?_⟩
  refine LW.call pl28 rfl rfl ?_
  refine Ret.mono q ?_
  rintro _ w16 ⟨rfl, hs⟩
  have hS8 := hS7.add hs
  refine LW.nil ⟨rfl, (.c (St.cell (h := hS8) (i := 1) rfl) (.w (by kernel_rfl) Kept.n)), ?_⟩
  replace h := obind h
  obtain ⟨y17, hy17, h⟩ := h
  have q := W_l_toLabel (w0 := w16) hy17 rfl (hS8.rB hr2_0)
  refine AW.one (i := 5) (by kernel_rfl) ?_
  refine ⟨_, rfl, ?_⟩
  refine LW.call pl29 rfl rfl ?_
  refine Ret.mono q ?_
  rintro _ w20 ⟨a18, c19, rfl, hs⟩
  have hS9 := hS8.add hs
  refine LW.nil ⟨rfl, (.w (by kernel_rfl) (.c (St.cell (h := hS9) (i := 3) rfl) Kept.n)), ?_⟩
  replace h := obind h
  obtain ⟨y21, hy21, h⟩ := h
  have q := W_s_Seen (w0 := w20) hy21 rfl (hS9.rI 1 rfl) rfl (hS9.rI 0 rfl)
  refine AW.one (i := 6) (by kernel_rfl) ?_
  refine ⟨_, rfl, ?_⟩
  refine LW.call pl27 rfl rfl ?_
  refine Ret.mono q ?_
  rintro _ w22 ⟨rfl, hs⟩
  have hS10 := hS9.add hs
  refine LW.nil ⟨rfl, (.c (St.cell (h := hS10) (i := 2) rfl) (.c (St.cell (h := hS10) (i := 3) rfl) Kept.n)), ?_⟩
  refine AW.u (i := 7) rfl (by kernel_rfl) rfl rfl (Pur.p rfl) ?_
  refine AW.done (by kernel_rfl) ?_
  show CW _ _ _ _ _ _
  refine CW.seq ?_
  refine CW.region ?_
  refine LW.p rfl rfl ?_
  replace h := obind h
  obtain ⟨y23, hy23, h⟩ := h
  have q := W_l_toPartBootS (w0 := w22) hy23 rfl (hS10.rB hr0_0)
  refine LW.call pl23 rfl rfl ?_
  refine Ret.mono q ?_
  rintro _ w26 ⟨a24, c25, rfl, hs⟩
  have hS11 := hS10.add hs
  refine LW.p rfl rfl ?_
  refine LW.nil ?_
  show CW _ _ _ _ _ _
  refine CW.seq ?_
  refine CW.region ?_
  refine LW.ldbN hS11 3 rfl ag49 rfl rfl rfl ?_
  replace h := obind h
  obtain ⟨y27, hy27, h⟩ := h
  have q := W_l_toLabel (w0 := w26) hy27 rfl (hS11.rB hr2_0)
  refine LW.call pl29 rfl rfl ?_
  refine Ret.mono q ?_
  rintro _ w30 ⟨a28, c29, rfl, hs⟩
  have hS12 := hS11.add hs
  refine LW.alloc zv56 hS12 rfl ?_
  intro g31 w32 hS13 hf
  refine LW.stb hS13 0 rfl ag56 rfl rfl rfl rfl rfl ?_
  intro w33 hS14 hf
  refine LW.nil ?_
  show CW _ _ _ _ _ _
  refine CW.seq ?_
  refine CW.draw (by kernel_rfl) ?_
  have hS15 := hS14.drew
  refine AW.u (i := 0) rfl (by kernel_rfl) rfl rfl (Pur.p rfl) ?_
  refine AW.take (i := 1) rfl (by kernel_rfl) rfl rfl (Ldr.boxN (bt := 46) (fr := (0, 0)) (cs := [.int .i64 x1.kind, .int .i64 x1.part, .int .i64 x1.thread, .int .i64 x1.call.kind, .int .i64 x1.call.a, .int .i64 x1.call.b, .int .i64 x1.call.c, .int .i64 x1.call.d, .int .i64 x1.call.e]) ag46 rfl rfl) (St.cell (h := hS15) (i := 6) rfl) ?_
  refine AW.take (i := 3) rfl (by kernel_rfl) rfl rfl (Ldr.boxN (bt := 56) (fr := (0, 0)) (cs := [.slice a28 y27.levels.length c29]) ag56 rfl rfl) (St.cell (h := hS15) (i := 0) rfl) ?_
  replace h := obind h
  obtain ⟨y34, hy34, h⟩ := h
  have q := W_l_toEntry (w0 := w33.drew) hy34
  refine AW.one (i := 2) (by kernel_rfl) ?_
  refine ⟨_, rfl, ?_⟩
  refine LW.call pl28 rfl rfl ?_
  refine Ret.mono q ?_
  rintro _ w35 ⟨rfl, hs⟩
  have hS16 := hS15.add hs
  refine LW.nil ⟨rfl, (.c (St.cell (h := hS16) (i := 0) rfl) (.w (by kernel_rfl) Kept.n)), ?_⟩
  replace h := obind h
  obtain ⟨y36, hy36, h⟩ := h
  have q := W_i_Seen (w0 := w35) hy36 rfl (hS16.rI 2 rfl) rfl (hS16.rI 1 rfl)
  refine AW.one (i := 4) (by kernel_rfl) ?_
  refine ⟨_, rfl, ?_⟩
  refine LW.call pl30 rfl rfl ?_
  refine Ret.mono q ?_
  rintro _ w37 ⟨rfl, hs⟩
  have hS17 := hS16.add hs
  refine LW.nil ⟨rfl, (.w (by kernel_rfl) (.c (St.cell (h := hS17) (i := 6) rfl) Kept.n)), ?_⟩
  refine AW.u (i := 5) rfl (by kernel_rfl) rfl rfl (Pur.p rfl) ?_
  refine AW.done (by kernel_rfl) ?_
  show CW _ _ _ _ _ _
  refine CW.seq ?_
  refine CW.seq ?_
  refine CW.region ?_
  iterate 2 refine LW.p rfl rfl ?_
  refine LW.u (Pur.bne Try.underlying4 rfl rfl) rfl ?_
  refine LW.nil ?_
  show CW _ _ _ _ _ _
  refine CW.cond rfl (fun hc38 => ?_) (fun hc38 => ?_)
  · replace h := bcT h hc38
    refine CW.seq ?_
    refine CW.region ?_
    refine LW.p rfl rfl ?_
    refine LW.nil ?_
    show CW _ _ _ _ _ _
    refine CW.fresh (l := [(6, .bool false)]) ⟨rfl, trivial⟩ (fun e => ?_)
    refine CW.ret ?_
    cases h
    exact And.intro trivial ⟨_, Res.one (resOne.t rfl), rfl, hS17.pick [] rfl rfl⟩
  replace h := bcF h hc38
  refine CW.skip ?_
  show CW _ _ _ _ _ _
  refine CW.seq ?_
  refine CW.seq ?_
  refine CW.region ?_
  iterate 2 refine LW.p rfl rfl ?_
  replace h := obind h
  obtain ⟨y39, hy39, h⟩ := h
  have q := W_l_toPartBootS (w0 := w37) hy39 rfl (hS17.rB hr0_0)
  refine LW.call pl23 rfl rfl ?_
  refine Ret.mono q ?_
  rintro _ w42 ⟨a40, c41, rfl, hs⟩
  have hS18 := hS17.add hs
  replace h := obind h
  obtain ⟨y43, hy43, h⟩ := h
  have q := W_l_eqPartBootS (w0 := w42) hy43 rfl (hS18.rI 3 rfl) rfl (hS18.rI 0 rfl)
  refine LW.call pl25 rfl rfl ?_
  refine Ret.mono q ?_
  rintro _ w44 ⟨rfl, hs⟩
  have hS19 := hS18.add hs
  refine LW.p rfl rfl ?_
  refine LW.nil ?_
  show CW _ _ _ _ _ _
  refine CW.fresh (l := [(5, .pointer (some ⟨g3, 0, none⟩)), (10, .pointer (some ⟨g31, 0, none⟩)), (45, .bool (!y43))]) ⟨rfl, rfl, rfl, trivial⟩ (fun e => ?_)
  refine CW.cond rfl (fun hc45 => ?_) (fun hc45 => ?_)
  · replace h := bcT h hc45
    refine CW.seq ?_
    refine CW.region ?_
    refine LW.p rfl rfl ?_
    refine LW.nil ?_
    show CW _ _ _ _ _ _
    refine CW.ret ?_
    cases h
    exact And.intro trivial ⟨_, Res.one (resOne.t rfl), rfl, hS19.pick [] rfl rfl⟩
  replace h := bcF h hc45
  refine CW.skip ?_
  show CW _ _ _ _ _ _
  refine CW.seq ?_
  refine CW.seq ?_
  refine CW.draw (by kernel_rfl) ?_
  have hS20 := hS19.drew
  refine AW.take (i := 0) rfl (by kernel_rfl) rfl rfl (Ldr.boxN (bt := 56) (fr := (0, 0)) (cs := [.slice a28 y27.levels.length c29]) ag56 rfl rfl) (St.cell (h := hS20) (i := 1) rfl) ?_
  refine AW.take (i := 1) rfl (by kernel_rfl) rfl rfl (Ldr.boxN (bt := 49) (fr := (0, 0)) (cs := [.slice a2_0 x2.levels.length c2_0]) ag49 rfl rfl) (St.cell (h := hS20) (i := 6) rfl) ?_
  replace h := obind h
  obtain ⟨y46, hy46, h⟩ := h
  have q := W_l_toLabel (w0 := w44.drew) hy46 rfl (hS20.rB hr2_0)
  refine AW.one (i := 2) (by kernel_rfl) ?_
  refine ⟨_, rfl, ?_⟩
  refine LW.call pl29 rfl rfl ?_
  refine Ret.mono q ?_
  rintro _ w49 ⟨a47, c48, rfl, hs⟩
  have hS21 := hS20.add hs
  refine LW.nil ⟨rfl, (.w (by kernel_rfl) (.c (St.cell (h := hS21) (i := 2) rfl) Kept.n)), ?_⟩
  replace h := obind h
  obtain ⟨y50, hy50, h⟩ := h
  have q := W_l_eqLabel (w0 := w49) hy50 rfl (hS21.rI 3 rfl) rfl (hS21.rI 0 rfl)
  refine AW.one (i := 3) (by kernel_rfl) ?_
  refine ⟨_, rfl, ?_⟩
  refine LW.call pl31 rfl rfl ?_
  refine Ret.mono q ?_
  rintro _ w51 ⟨rfl, hs⟩
  have hS22 := hS21.add hs
  refine LW.nil ⟨rfl, (.c (St.cell (h := hS22) (i := 7) rfl) (.w (by kernel_rfl) Kept.n)), ?_⟩
  refine AW.u (i := 4) rfl (by kernel_rfl) rfl rfl (Pur.p rfl) ?_
  refine AW.done (by kernel_rfl) ?_
  show CW _ _ _ _ _ _
  refine CW.cond rfl (fun hc52 => ?_) (fun hc52 => ?_)
  · replace h := bcT h hc52
    refine CW.seq ?_
    refine CW.region ?_
    refine LW.p rfl rfl ?_
    refine LW.nil ?_
    show CW _ _ _ _ _ _
    refine CW.ret ?_
    cases h
    exact And.intro trivial ⟨_, Res.one (resOne.t rfl), rfl, hS22.pick [] rfl rfl⟩
  replace h := bcF h hc52
  refine CW.skip ?_
  show CW _ _ _ _ _ _
  refine CW.seq ?_
  refine CW.region ?_
  refine LW.p rfl rfl ?_
  refine LW.nil ?_
  show CW _ _ _ _ _ _
  refine CW.ret ?_
  cases h
  exact And.intro trivial ⟨_, Res.one (resOne.t rfl), rfl, hS22.pick [] rfl rfl⟩

end Go.Kx
