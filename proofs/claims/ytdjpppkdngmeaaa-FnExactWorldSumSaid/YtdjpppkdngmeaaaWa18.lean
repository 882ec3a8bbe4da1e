/- Each call returns what the plain function says. Printed by drive.py. -/
import Derived.Test.YtdjpppkdngmeaaaFa
import Derived.Test.YtdjpppkdngmeaaaPu
import Derived.Test.YtdjpppkdngmeaaaWa0
import Derived.Test.YtdjpppkdngmeaaaWa7
import Derived.Test.YtdjpppkdngmeaaaWa13
import Derived.Test.YtdjpppkdngmeaaaWa16
namespace Go.Kx
open Go Go.RowKit Go.Proofs
set_option maxRecDepth 10000
set_option maxHeartbeats 2000000
set_option linter.unusedVariables false
set_option linter.unusedSimpArgs false
theorem W_s_WorldSum {w0 : World} {N : Nat} {x0 : DWorld} {r : DAmt} (h : F_s_WorldSum N x0 = some r) {a0_1 : Option Addr} {n0_1 c0_1 : Nat} (hn0_1 : n0_1 = x0.parts.length) (hr0_1 : rdS (Bor w0 []) w0 a0_1 c0_1 x0.parts) :
    Ret Try.prog 37 #[.agg #[.int .i64 x0.now, .slice a0_1 n0_1 c0_1]] w0 (fun v w => v = .agg #[.int .i64 r.pages, .int .i64 r.rent, .int .i64 r.cpu] ∧ St w0 [] w []) := by
  subst hn0_1
  unfold F_s_WorldSum at h
  refine Ret.of Try.func37 rfl rfl rfl ?_
  have hS1 := St.start w0
  refine CW.seq ?_
  refine CW.region ?_
  refine LW.box (cs := [.int .i64 x0.now, .slice a0_1 x0.parts.length c0_1]) rfl hS1 rfl ?_
  intro g1 w2 hS2 hf
  refine LW.alloc zv73 hS2 rfl ?_
  intro g3 w4 hS3 hf
  refine LW.nil ?_
  show CW _ _ _ _ _ _
  refine CW.seq ?_
  refine CW.seq ?_
  refine CW.region ?_
  refine LW.ldbN hS3 1 rfl ag51 rfl rfl rfl ?_
  replace h := obind h
  obtain ⟨y5, hy5, h⟩ := h
  have q := W_s_WorldOk (w0 := w4) hy5 rfl (hS3.rB hr0_1)
  refine LW.call pl35 rfl rfl ?_
  refine Ret.mono q ?_
  rintro _ w6 ⟨rfl, hs⟩
  have hS4 := hS3.add hs
  refine LW.p rfl rfl ?_
  refine LW.nil ?_
  show CW _ _ _ _ _ _
  refine CW.cond rfl (fun hc7 => ?_) (fun hc7 => ?_)
  · replace h := bcT h hc7
    refine CW.seq ?_
    refine CW.region ?_
    refine LW.u (Pur.build (vs := []) (cs := #[.int .i64 0, .int .i64 0, .int .i64 0]) rfl (by kernel_rfl)) rfl ?_
    refine LW.stb hS4 0 rfl ag73 rfl rfl rfl rfl rfl ?_
    intro w8 hS5 hf
    refine LW.nil ?_
    show CW _ _ _ _ _ _
    refine CW.ret ?_
    cases h
    exact And.intro trivial ⟨_, Res.one (resOne.b hS5 0 rfl ag73 rfl rfl), rfl, hS5.pick [] rfl rfl⟩
  replace h := bcF h hc7
  refine CW.skip ?_
  show CW _ _ _ _ _ _
  refine CW.seq ?_
  refine CW.region ?_
  refine LW.u (Pur.fa fo51_1 rfl) rfl ?_
  refine LW.ldb hS4 1 rfl ag49 rfl rfl rfl ?_
  replace h := obind h
  obtain ⟨y9, hy9, h⟩ := h
  have q := W_s_l15Sum (w0 := w6) hy9 rfl (hS4.rB hr0_1)
  refine LW.call pl84 rfl rfl ?_
  refine Ret.mono q ?_
  rintro _ w10 ⟨rfl, hs⟩
  have hS6 := hS4.add hs
  refine LW.stb hS6 0 rfl ag73 rfl rfl rfl rfl rfl ?_
  intro w11 hS7 hf
  refine LW.nil ?_
  show CW _ _ _ _ _ _
  refine CW.ret ?_
  cases h
  exact And.intro trivial ⟨_, Res.one (resOne.b hS7 0 rfl ag73 rfl rfl), rfl, hS7.pick [] rfl rfl⟩

theorem W_i_WorldSum {w0 : World} {N : Nat} {x0 : DWorld} {r : DAmt} (h : F_i_WorldSum N x0 = some r) {a0_1 : Option Addr} {n0_1 c0_1 : Nat} (hn0_1 : n0_1 = x0.parts.length) (hr0_1 : rdS (Bor w0 []) w0 a0_1 c0_1 x0.parts) :
    Ret Try.prog 38 #[.agg #[.int .i64 x0.now, .slice a0_1 n0_1 c0_1]] w0 (fun v w => v = .agg #[.int .i64 r.pages, .int .i64 r.rent, .int .i64 r.cpu] ∧ St w0 [] w []) := by
  subst hn0_1
  unfold F_i_WorldSum at h
  refine Ret.of Try.func38 rfl rfl rfl ?_
  have hS1 := St.start w0
  refine CW.seq ?_
  refine CW.region ?_
  refine LW.box (cs := [.int .i64 x0.now, .slice a0_1 x0.parts.length c0_1]) rfl hS1 rfl ?_
  intro g1 w2 hS2 hf
  refine LW.alloc zv73 hS2 rfl ?_
  intro g3 w4 hS3 hf
  refine LW.nil ?_
  show CW _ _ _ _ _ _
  refine CW.seq ?_
  refine CW.region ?_
  refine LW.u (Pur.build (vs := []) (cs := #[.int .i64 0, .int .i64 0, .int .i64 0]) rfl (by kernel_rfl)) rfl ?_
  refine LW.alloc zv73 hS3 rfl ?_
  intro g5 w6 hS4 hf
  refine LW.stb hS4 0 rfl ag73 rfl rfl rfl rfl rfl ?_
  intro w7 hS5 hf
  refine LW.nil ?_
  show CW _ _ _ _ _ _
  refine CW.seq ?_
  refine CW.seq ?_
  refine CW.region ?_
  refine LW.ldbN hS5 2 rfl ag51 rfl rfl rfl ?_
  replace h := obind h
  obtain ⟨y8, hy8, h⟩ := h
  have q := W_i_WorldOk (w0 := w7) hy8 rfl (hS5.rB hr0_1)
  refine LW.call pl36 rfl rfl ?_
  refine Ret.mono q ?_
  rintro _ w9 ⟨rfl, hs⟩
  have hS6 := hS5.add hs
  refine LW.p rfl rfl ?_
  refine LW.nil ?_
  show CW _ _ _ _ _ _
  refine CW.cond rfl (fun hc10 => ?_) (fun hc10 => ?_)
  · replace h := bcT h hc10
    refine CW.seq ?_
    refine CW.region ?_
    refine LW.ldbN hS6 0 rfl ag73 rfl rfl rfl ?_
    refine LW.stb hS6 1 rfl ag73 rfl rfl rfl rfl rfl ?_
    intro w11 hS7 hf
    refine LW.nil ?_
    show CW _ _ _ _ _ _
    refine CW.ret ?_
    cases h
    exact And.intro trivial ⟨_, Res.one (resOne.b hS7 1 rfl ag73 rfl rfl), rfl, hS7.pick [] rfl rfl⟩
  replace h := bcF h hc10
  refine CW.skip ?_
  show CW _ _ _ _ _ _
  refine CW.seq ?_
  refine CW.seq ?_
  refine CW.region ?_
  refine LW.u (Pur.fa fo51_1 rfl) rfl ?_
  refine LW.ldb hS6 2 rfl ag49 rfl rfl rfl ?_
  refine LW.u (Pur.len Try.underlying49 rfl) rfl ?_
  refine LW.p rfl rfl ?_
  refine LW.nil ?_
  show CW _ _ _ _ _ _
  refine CW.block ?_
  obtain ⟨o50, ho50, h51⟩ := obind h
  refine CW.mono (CW.iter (σ := Int × Int × Int × Int) (ρ := Int × Int × Int × Int) (fun s12 e wb => En e [(2, .pointer (some ⟨g3, 0, none⟩)), (3, .pointer (some ⟨g5, 0, none⟩)), (12, .slice a0_1 x0.parts.length c0_1), (13, .int .i64 (x0.parts.length : Int)), (14, .int .i64 s12.1)] ∧ St w0 [] wb [bx g5 73 [.int .i64 s12.2.1, .int .i64 s12.2.2.1, .int .i64 s12.2.2.2], bx g3 73 [.int .i64 0, .int .i64 0, .int .i64 0]]) (fun s12 x e wb => x = .exit 0 ∧ En e [(2, .pointer (some ⟨g3, 0, none⟩)), (3, .pointer (some ⟨g5, 0, none⟩))] ∧ St w0 [] wb [bx g5 73 [.int .i64 s12.2.1, .int .i64 s12.2.2.1, .int .i64 s12.2.2.2], bx g3 73 [.int .i64 0, .int .i64 0, .int .i64 0]]) ?_ N (0, 0, 0, 0) _ _ _ ⟨⟨rfl, rfl, rfl, rfl, rfl, trivial⟩, hS6.pick [0, 1] rfl rfl⟩ ho50) ?_
  · intro s12 e w13 o hM h
    obtain ⟨hE, hS8⟩ := hM
    obtain ⟨e, rfl⟩ := hE.out
    refine CW.seq ?_
    refine CW.region ?_
    refine LW.p rfl rfl ?_
    refine LW.nil ?_
    show CW _ _ _ _ _ _
    refine CW.fresh (l := [(2, .pointer (some ⟨g3, 0, none⟩)), (3, .pointer (some ⟨g5, 0, none⟩)), (12, .slice a0_1 x0.parts.length c0_1), (13, .int .i64 (x0.parts.length : Int)), (14, .int .i64 s12.1), (15, .bool (decide (s12.1 < (x0.parts.length : Int))))]) ⟨rfl, rfl, rfl, rfl, rfl, rfl, trivial⟩ (fun e => ?_)
    refine CW.seq ?_
    refine CW.cond rfl (fun hc14 => ?_) (fun hc14 => ?_)
    · replace h := bcT h hc14
      refine CW.skip ?_
      show CW _ _ _ _ _ _
      refine CW.seq ?_
      refine CW.block ?_
      refine CW.seq ?_
      refine CW.region ?_
      replace h := obind h
      obtain ⟨y15, hy15, h⟩ := h
      obtain ⟨b18, o19, cs20, hae, hb23, hp16, hq17, hd21, hk22⟩ := hr0_1.idx hy15
      subst hae
      obtain ⟨a24, c25, a27, c28, a30, c31, a33, c34, a36, c37, a39, c40, rfl, hr26, hr29, hr32, hr35, hr38, hr41⟩ := hd21
      refine LW.u (Pur.ix Try.underlying49 sz75 rfl rfl hp16 hq17) rfl ?_
      refine LW.l (Ldr.oldN w0 ag75 rfl rfl (fun j u hu => hk22 j u hu)) (hS8.same _ hb23.1 hb23.2) rfl ?_
      refine LW.alloc zv75 hS8 rfl ?_
      intro g42 w43 hS9 hf
      refine LW.stb hS9 0 rfl ag75 rfl rfl rfl rfl rfl ?_
      intro w44 hS10 hf
      refine LW.nil ?_
      show CW _ _ _ _ _ _
      refine CW.draw (by kernel_rfl) ?_
      have hS11 := hS10.drew
      refine AW.take (i := 0) rfl (by kernel_rfl) rfl rfl (Ldr.boxN (bt := 73) (fr := (0, 0)) (cs := [.int .i64 s12.2.1, .int .i64 s12.2.2.1, .int .i64 s12.2.2.2]) ag73 rfl rfl) (St.cell (h := hS11) (i := 1) rfl) ?_
      refine AW.take (i := 1) rfl (by kernel_rfl) rfl rfl (Ldr.boxN (bt := 75) (fr := (0, 0)) (cs := [.slice a24 y15.label.levels.length c25, .slice a27 y15.own.length c28, .slice a30 y15.tree.length c31, .slice a33 y15.heap.arena.length c34, .int .i64 y15.heap.gc.phase, .int .i64 y15.heap.gc.pos, .int .i64 y15.heap.gc.round, .slice a36 y15.heap.gc.grey.length c37, .slice a39 y15.taps.length c40, .int .i64 y15.next, .int .i64 y15.want, .int .i64 y15.spent.pages, .int .i64 y15.spent.rent, .int .i64 y15.spent.cpu, .int .i64 y15.press, .int .i64 y15.lost]) ag75 rfl rfl) (St.cell (h := hS11) (i := 0) rfl) ?_
      replace h := obind h
      obtain ⟨y45, hy45, h⟩ := h
      have q := W_i_PartSum (w0 := w44.drew) hy45 rfl (hS11.rB hr26) rfl (hS11.rB hr29) rfl (hS11.rB hr32) rfl (hS11.rB hr35) rfl (hS11.rB hr38) rfl (hS11.rB hr41)
      refine AW.one (i := 2) (by kernel_rfl) ?_
      refine ⟨_, rfl, ?_⟩
      refine LW.call pl89 rfl rfl ?_
      refine Ret.mono q ?_
      rintro _ w46 ⟨rfl, hs⟩
      have hS12 := hS11.add hs
      refine LW.nil ⟨rfl, (.w (by kernel_rfl) (.c (St.cell (h := hS12) (i := 1) rfl) Kept.n)), ?_⟩
      replace h := obind h
      obtain ⟨y47, hy47, h⟩ := h
      have q := W_i_sumOf (w0 := w46) hy47
      refine AW.one (i := 3) (by kernel_rfl) ?_
      refine ⟨_, rfl, ?_⟩
      refine LW.call pl88 rfl rfl ?_
      refine Ret.mono q ?_
      rintro _ w48 ⟨rfl, hs⟩
      have hS13 := hS12.add hs
      refine LW.nil ⟨rfl, (.c (St.cell (h := hS13) (i := 0) rfl) (.w (by kernel_rfl) Kept.n)), ?_⟩
      refine AW.one (i := 4) (by kernel_rfl) ?_
      refine ⟨_, rfl, ?_⟩
      refine LW.stb hS13 1 rfl ag73 rfl rfl rfl rfl rfl ?_
      intro w49 hS14 hf
      refine LW.nil ⟨rfl, (.w (by kernel_rfl) (.w (by kernel_rfl) Kept.n)), ?_⟩
      refine AW.done (by kernel_rfl) ?_
      show CW _ _ _ _ _ _
      refine CW.region ?_
      iterate 2 refine LW.p rfl rfl ?_
      refine LW.nil ?_
      replace h := Option.some.inj h
      subst h
      exact ⟨rfl, ⟨⟨rfl, rfl, rfl, rfl, rfl, trivial⟩, hS14.pick [1, 2] rfl rfl⟩⟩
    replace h := bcF h hc14
    refine CW.exit ?_
    replace h := Option.some.inj h
    subst h
    exact ⟨trivial, rfl, ⟨⟨rfl, rfl, trivial⟩, hS8.pick [0, 1] rfl rfl⟩⟩
  intro x e w52 hM
  obtain ⟨rfl, hM⟩ := hM
  obtain ⟨hE, hS15⟩ := hM
  obtain ⟨e, rfl⟩ := hE.out
  have h := h51
  show CW _ _ _ _ _ _
  refine CW.seq ?_
  refine CW.region ?_
  refine LW.ldbN hS15 0 rfl ag73 rfl rfl rfl ?_
  refine LW.stb hS15 1 rfl ag73 rfl rfl rfl rfl rfl ?_
  intro w53 hS16 hf
  refine LW.nil ?_
  show CW _ _ _ _ _ _
  refine CW.fresh (l := [(2, .pointer (some ⟨g3, 0, none⟩))]) ⟨rfl, trivial⟩ (fun e => ?_)
  refine CW.ret ?_
  cases h
  exact And.intro trivial ⟨_, Res.one (resOne.b hS16 1 rfl ag73 rfl rfl), rfl, hS16.pick [] rfl rfl⟩

theorem W_l_FnExactWorldSum {w0 : World} {N : Nat} {x0 : DWorld} {r : Bool} (h : F_l_FnExactWorldSum N x0 = some r) {a0_1 : Option Addr} {n0_1 c0_1 : Nat} (hn0_1 : n0_1 = x0.parts.length) (hr0_1 : rdS (Bor w0 []) w0 a0_1 c0_1 x0.parts) :
    Ret Try.prog 7 #[.agg #[.int .i64 x0.now, .slice a0_1 n0_1 c0_1]] w0 (fun v w => v = .bool r ∧ St w0 [] w []) := by
  subst hn0_1
  unfold F_l_FnExactWorldSum at h
  refine Ret.of Try.func7 rfl rfl rfl ?_
  have hS1 := St.start w0
  refine CW.seq ?_
  refine CW.region ?_
  refine LW.box (cs := [.int .i64 x0.now, .slice a0_1 x0.parts.length c0_1]) rfl hS1 rfl ?_
  intro g1 w2 hS2 hf
  refine LW.p rfl rfl ?_
  refine LW.nil ?_
  show CW _ _ _ _ _ _
  refine CW.seq ?_
  refine CW.region ?_
  refine LW.p rfl rfl ?_
  refine LW.nil ?_
  show CW _ _ _ _ _ _
  refine CW.seq ?_
  refine CW.region ?_
  refine LW.ldbN hS2 0 rfl ag46 rfl rfl rfl ?_
  refine LW.p rfl rfl ?_
  replace h := obind h
  obtain ⟨y3, hy3, h⟩ := h
  have q := W_l_szWorld (w0 := w2) hy3 rfl (hS2.rB hr0_1)
  refine LW.call pl25 rfl rfl ?_
  refine Ret.mono q ?_
  rintro _ w4 ⟨rfl, hs⟩
  have hS3 := hS2.add hs
  refine LW.p rfl rfl ?_
  refine LW.nil ?_
  show CW _ _ _ _ _ _
  refine CW.seq ?_
  refine CW.seq ?_
  refine CW.region ?_
  iterate 2 refine LW.p rfl rfl ?_
  refine LW.nil ?_
  show CW _ _ _ _ _ _
  refine CW.cond rfl (fun hc5 => ?_) (fun hc5 => ?_)
  · replace h := bcT h hc5
    refine CW.seq ?_
    refine CW.region ?_
    refine LW.p rfl rfl ?_
    refine LW.nil ?_
    show CW _ _ _ _ _ _
    refine CW.ret ?_
    cases h
    exact And.intro trivial ⟨_, Res.one (resOne.t rfl), rfl, hS3.pick [] rfl rfl⟩
  replace h := bcF h hc5
  refine CW.skip ?_
  show CW _ _ _ _ _ _
  refine CW.seq ?_
  refine CW.region ?_
  refine LW.ldbN hS3 0 rfl ag46 rfl rfl rfl ?_
  replace h := obind h
  obtain ⟨y6, hy6, h⟩ := h
  have q := W_l_toWorld (w0 := w4) hy6 rfl (hS3.rB hr0_1)
  refine LW.call pl27 rfl rfl ?_
  refine Ret.mono q ?_
  rintro _ w9 ⟨a7, c8, rfl, hs⟩
  have hS4 := hS3.add hs
  replace h := obind h
  obtain ⟨y10, hy10, h⟩ := h
  have q := W_s_WorldSum (w0 := w9) hy10 rfl (hS4.rI 0 rfl)
  refine LW.call pl37 rfl rfl ?_
  refine Ret.mono q ?_
  rintro _ w11 ⟨rfl, hs⟩
  have hS5 := hS4.add hs
  refine LW.alloc zv73 hS5 rfl ?_
  intro g12 w13 hS6 hf
  refine LW.stb hS6 0 rfl ag73 rfl rfl rfl rfl rfl ?_
  intro w14 hS7 hf
  refine LW.nil ?_
  show CW _ _ _ _ _ _
  refine CW.fresh (l := [(1, .pointer (some ⟨g1, 0, none⟩)), (4, .pointer (some ⟨g12, 0, none⟩))]) ⟨rfl, rfl, trivial⟩ (fun e => ?_)
  refine CW.seq ?_
  refine CW.region ?_
  refine LW.ldbN hS7 2 rfl ag46 rfl rfl rfl ?_
  replace h := obind h
  obtain ⟨y15, hy15, h⟩ := h
  have q := W_l_toWorld (w0 := w14) hy15 rfl (hS7.rB hr0_1)
  refine LW.call pl27 rfl rfl ?_
  refine Ret.mono q ?_
  rintro _ w18 ⟨a16, c17, rfl, hs⟩
  have hS8 := hS7.add hs
  refine LW.alloc zv51 hS8 rfl ?_
  intro g19 w20 hS9 hf
  refine LW.stb hS9 0 rfl ag51 rfl rfl rfl rfl rfl ?_
  intro w21 hS10 hf
  refine LW.nil ?_
  show CW _ _ _ _ _ _
  refine CW.seq ?_
  refine CW.region ?_
  refine LW.ldbN hS10 0 rfl ag51 rfl rfl rfl ?_
  replace h := obind h
  obtain ⟨y22, hy22, h⟩ := h
  have q := W_i_WorldSum (w0 := w21) hy22 rfl (hS10.rI 1 rfl)
  refine LW.call pl38 rfl rfl ?_
  refine Ret.mono q ?_
  rintro _ w23 ⟨rfl, hs⟩
  have hS11 := hS10.add hs
  refine LW.alloc zv73 hS11 rfl ?_
  intro g24 w25 hS12 hf
  refine LW.stb hS12 0 rfl ag73 rfl rfl rfl rfl rfl ?_
  intro w26 hS13 hf
  refine LW.nil ?_
  show CW _ _ _ _ _ _
  refine CW.seq ?_
  refine CW.seq ?_
  refine CW.region ?_
  refine LW.ldbN hS13 0 rfl ag73 rfl rfl rfl ?_
  refine LW.ldbN hS13 3 rfl ag73 rfl rfl rfl ?_
  replace h := obind h
  obtain ⟨y27, hy27, h⟩ := h
  have q := W_l_eqAmt (w0 := w26) hy27
  refine LW.call pl39 rfl rfl ?_
  refine Ret.mono q ?_
  rintro _ w28 ⟨rfl, hs⟩
  have hS14 := hS13.add hs
  refine LW.p rfl rfl ?_
  refine LW.nil ?_
  show CW _ _ _ _ _ _
  refine CW.cond rfl (fun hc29 => ?_) (fun hc29 => ?_)
  · replace h := bcT h hc29
    refine CW.seq ?_
    refine CW.region ?_
    refine LW.p rfl rfl ?_
    refine LW.nil ?_
    show CW _ _ _ _ _ _
    refine CW.fresh (l := [(2, .bool false)]) ⟨rfl, trivial⟩ (fun e => ?_)
    refine CW.ret ?_
    cases h
    exact And.intro trivial ⟨_, Res.one (resOne.t rfl), rfl, hS14.pick [] rfl rfl⟩
  replace h := bcF h hc29
  refine CW.skip ?_
  show CW _ _ _ _ _ _
  refine CW.seq ?_
  refine CW.seq ?_
  refine CW.draw (by kernel_rfl) ?_
  have hS15 := hS14.drew
  refine AW.take (i := 0) rfl (by kernel_rfl) rfl rfl (Ldr.boxN (bt := 51) (fr := (0, 0)) (cs := [.int .i64 y15.now, .slice a16 y15.parts.length c17]) ag51 rfl rfl) (St.cell (h := hS15) (i := 1) rfl) ?_
  refine AW.take (i := 1) rfl (by kernel_rfl) rfl rfl (Ldr.boxN (bt := 46) (fr := (0, 0)) (cs := [.int .i64 x0.now, .slice a0_1 x0.parts.length c0_1]) ag46 rfl rfl) (St.cell (h := hS15) (i := 5) rfl) ?_
  replace h := obind h
  obtain ⟨y30, hy30, h⟩ := h
  have q := W_l_toWorld (w0 := w28.drew) hy30 rfl (hS15.rB hr0_1)
  refine AW.one (i := 2) (by kernel_rfl) ?_
  refine ⟨_, rfl, ?_⟩
  refine LW.call pl27 rfl rfl ?_
  refine Ret.mono q ?_
  rintro _ w33 ⟨a31, c32, rfl, hs⟩
  have hS16 := hS15.add hs
  refine LW.nil ⟨rfl, (.w (by kernel_rfl) (.c (St.cell (h := hS16) (i := 2) rfl) Kept.n)), ?_⟩
  replace h := obind h
  obtain ⟨y34, hy34, h⟩ := h
  have q := W_l_eqWorld (w0 := w33) hy34 rfl (hS16.rI 3 rfl) rfl (hS16.rI 0 rfl)
  refine AW.one (i := 3) (by kernel_rfl) ?_
  refine ⟨_, rfl, ?_⟩
  refine LW.call pl29 rfl rfl ?_
  refine Ret.mono q ?_
  rintro _ w35 ⟨rfl, hs⟩
  have hS17 := hS16.add hs
  refine LW.nil ⟨rfl, (.c (St.cell (h := hS17) (i := 6) rfl) (.w (by kernel_rfl) Kept.n)), ?_⟩
  refine AW.u (i := 4) rfl (by kernel_rfl) rfl rfl (Pur.p rfl) ?_
  refine AW.done (by kernel_rfl) ?_
  show CW _ _ _ _ _ _
  refine CW.cond rfl (fun hc36 => ?_) (fun hc36 => ?_)
  · replace h := bcT h hc36
    refine CW.seq ?_
    refine CW.region ?_
    refine LW.p rfl rfl ?_
    refine LW.nil ?_
    show CW _ _ _ _ _ _
    refine CW.fresh (l := [(2, .bool false)]) ⟨rfl, trivial⟩ (fun e => ?_)
    refine CW.ret ?_
    cases h
    exact And.intro trivial ⟨_, Res.one (resOne.t rfl), rfl, hS17.pick [] rfl rfl⟩
  replace h := bcF h hc36
  refine CW.skip ?_
  show CW _ _ _ _ _ _
  refine CW.seq ?_
  refine CW.region ?_
  refine LW.p rfl rfl ?_
  refine LW.nil ?_
  show CW _ _ _ _ _ _
  refine CW.fresh (l := [(2, .bool true)]) ⟨rfl, trivial⟩ (fun e => ?_)
  refine CW.ret ?_
  cases h
  exact And.intro trivial ⟨_, Res.one (resOne.t rfl), rfl, hS17.pick [] rfl rfl⟩

end Go.Kx
