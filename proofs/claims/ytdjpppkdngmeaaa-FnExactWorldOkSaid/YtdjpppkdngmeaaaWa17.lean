/- Each call returns what the plain function says. Printed by drive.py. -/
import Derived.Test.YtdjpppkdngmeaaaFa
import Derived.Test.YtdjpppkdngmeaaaPu
import Derived.Test.YtdjpppkdngmeaaaWa7
import Derived.Test.YtdjpppkdngmeaaaWa16
namespace Go.Kx
open Go Go.RowKit Go.Proofs
set_option maxRecDepth 10000
set_option maxHeartbeats 2000000
set_option linter.unusedVariables false
set_option linter.unusedSimpArgs false
theorem W_l_FnExactWorldOk {w0 : World} {N : Nat} {x0 : DWorld} {r : Bool} (h : F_l_FnExactWorldOk N x0 = some r) {a0_1 : Option Addr} {n0_1 c0_1 : Nat} (hn0_1 : n0_1 = x0.parts.length) (hr0_1 : rdS (Bor w0 []) w0 a0_1 c0_1 x0.parts) :
    Ret Try.prog 6 #[.agg #[.int .i64 x0.now, .slice a0_1 n0_1 c0_1]] w0 (fun v w => v = .bool r ∧ St w0 [] w []) := by
  subst hn0_1
  unfold F_l_FnExactWorldOk at h
  refine Ret.of Try.func6 rfl rfl rfl ?_
  have hS1 := St.start w0
  refine CW.seq ?_
  refine CW.region ?_
  refine LW.box (cs := [.int .i64 x0.now, .slice a0_1 x0.parts.length c0_1]) rfl hS1 rfl ?_
  intro g1 w2 hS2 hf
  refine LW.p rfl rfl ?_
  refine LW.nil ?_
  show CW _ _ _ _ _ _
  refine CW.seq ?_
  refine CW.region ?_
  refine LW.p rfl rfl ?_
  refine LW.nil ?_
  show CW _ _ _ _ _ _
  refine CW.seq ?_
  refine CW.region ?_
  refine LW.ldbN hS2 0 rfl ag46 rfl rfl rfl ?_
  refine LW.p rfl rfl ?_
  replace h := obind h
  obtain ⟨y3, hy3, h⟩ := h
  have q := W_l_szWorld (w0 := w2) hy3 rfl (hS2.rB hr0_1)
  refine LW.call pl25 rfl rfl ?_
  refine Ret.mono q ?_
  rintro _ w4 ⟨rfl, hs⟩
  have hS3 := hS2.add hs
  refine LW.p rfl rfl ?_
  refine LW.nil ?_
  show CW _ _ _ _ _ _
  refine CW.seq ?_
  refine CW.seq ?_
  refine CW.region ?_
  iterate 2 refine LW.p rfl rfl ?_
  refine LW.nil ?_
  show CW _ _ _ _ _ _
  refine CW.cond rfl (fun hc5 => ?_) (fun hc5 => ?_)
  · replace h := bcT h hc5
    refine CW.seq ?_
    refine CW.region ?_
    refine LW.p rfl rfl ?_
    refine LW.nil ?_
    show CW _ _ _ _ _ _
    refine CW.ret ?_
    cases h
    exact And.intro trivial ⟨_, Res.one (resOne.t rfl), rfl, hS3.pick [] rfl rfl⟩
  replace h := bcF h hc5
  refine CW.skip ?_
  show CW _ _ _ _ _ _
  refine CW.seq ?_
  refine CW.region ?_
  refine LW.ldbN hS3 0 rfl ag46 rfl rfl rfl ?_
  replace h := obind h
  obtain ⟨y6, hy6, h⟩ := h
  have q := W_l_toWorld (w0 := w4) hy6 rfl (hS3.rB hr0_1)
  refine LW.call pl27 rfl rfl ?_
  refine Ret.mono q ?_
  rintro _ w9 ⟨a7, c8, rfl, hs⟩
  have hS4 := hS3.add hs
  replace h := obind h
  obtain ⟨y10, hy10, h⟩ := h
  have q := W_s_WorldOk (w0 := w9) hy10 rfl (hS4.rI 0 rfl)
  refine LW.call pl35 rfl rfl ?_
  refine Ret.mono q ?_
  rintro _ w11 ⟨rfl, hs⟩
  have hS5 := hS4.add hs
  refine LW.p rfl rfl ?_
  refine LW.nil ?_
  show CW _ _ _ _ _ _
  refine CW.fresh (l := [(1, .pointer (some ⟨g1, 0, none⟩)), (4, .bool y10)]) ⟨rfl, rfl, trivial⟩ (fun e => ?_)
  refine CW.seq ?_
  refine CW.region ?_
  refine LW.ldbN hS5 1 rfl ag46 rfl rfl rfl ?_
  replace h := obind h
  obtain ⟨y12, hy12, h⟩ := h
  have q := W_l_toWorld (w0 := w11) hy12 rfl (hS5.rB hr0_1)
  refine LW.call pl27 rfl rfl ?_
  refine Ret.mono q ?_
  rintro _ w15 ⟨a13, c14, rfl, hs⟩
  have hS6 := hS5.add hs
  refine LW.alloc zv51 hS6 rfl ?_
  intro g16 w17 hS7 hf
  refine LW.stb hS7 0 rfl ag51 rfl rfl rfl rfl rfl ?_
  intro w18 hS8 hf
  refine LW.nil ?_
  show CW _ _ _ _ _ _
  refine CW.seq ?_
  refine CW.region ?_
  refine LW.ldbN hS8 0 rfl ag51 rfl rfl rfl ?_
  replace h := obind h
  obtain ⟨y19, hy19, h⟩ := h
  have q := W_i_WorldOk (w0 := w18) hy19 rfl (hS8.rI 1 rfl)
  refine LW.call pl36 rfl rfl ?_
  refine Ret.mono q ?_
  rintro _ w20 ⟨rfl, hs⟩
  have hS9 := hS8.add hs
  refine LW.p rfl rfl ?_
  refine LW.nil ?_
  show CW _ _ _ _ _ _
  refine CW.seq ?_
  refine CW.seq ?_
  refine CW.region ?_
  iterate 2 refine LW.p rfl rfl ?_
  refine LW.u (Pur.bne Try.underlying4 rfl rfl) rfl ?_
  refine LW.nil ?_
  show CW _ _ _ _ _ _
  refine CW.cond rfl (fun hc21 => ?_) (fun hc21 => ?_)
  · replace h := bcT h hc21
    refine CW.seq ?_
    refine CW.region ?_
    refine LW.p rfl rfl ?_
    refine LW.nil ?_
    show CW _ _ _ _ _ _
    refine CW.ret ?_
    cases h
    exact And.intro trivial ⟨_, Res.one (resOne.t rfl), rfl, hS9.pick [] rfl rfl⟩
  replace h := bcF h hc21
  refine CW.skip ?_
  show CW _ _ _ _ _ _
  refine CW.seq ?_
  refine CW.seq ?_
  refine CW.draw (by kernel_rfl) ?_
  have hS10 := hS9.drew
  refine AW.take (i := 0) rfl (by kernel_rfl) rfl rfl (Ldr.boxN (bt := 51) (fr := (0, 0)) (cs := [.int .i64 y12.now, .slice a13 y12.parts.length c14]) ag51 rfl rfl) (St.cell (h := hS10) (i := 0) rfl) ?_
  refine AW.take (i := 1) rfl (by kernel_rfl) rfl rfl (Ldr.boxN (bt := 46) (fr := (0, 0)) (cs := [.int .i64 x0.now, .slice a0_1 x0.parts.length c0_1]) ag46 rfl rfl) (St.cell (h := hS10) (i := 3) rfl) ?_
  replace h := obind h
  obtain ⟨y22, hy22, h⟩ := h
  have q := W_l_toWorld (w0 := w20.drew) hy22 rfl (hS10.rB hr0_1)
  refine AW.one (i := 2) (by kernel_rfl) ?_
  refine ⟨_, rfl, ?_⟩
  refine LW.call pl27 rfl rfl ?_
  refine Ret.mono q ?_
  rintro _ w25 ⟨a23, c24, rfl, hs⟩
  have hS11 := hS10.add hs
  refine LW.nil ⟨rfl, (.w (by kernel_rfl) (.c (St.cell (h := hS11) (i := 1) rfl) Kept.n)), ?_⟩
  replace h := obind h
  obtain ⟨y26, hy26, h⟩ := h
  have q := W_l_eqWorld (w0 := w25) hy26 rfl (hS11.rI 2 rfl) rfl (hS11.rI 0 rfl)
  refine AW.one (i := 3) (by kernel_rfl) ?_
  refine ⟨_, rfl, ?_⟩
  refine LW.call pl29 rfl rfl ?_
  refine Ret.mono q ?_
  rintro _ w27 ⟨rfl, hs⟩
  have hS12 := hS11.add hs
  refine LW.nil ⟨rfl, (.c (St.cell (h := hS12) (i := 4) rfl) (.w (by kernel_rfl) Kept.n)), ?_⟩
  refine AW.u (i := 4) rfl (by kernel_rfl) rfl rfl (Pur.p rfl) ?_
  refine AW.done (by kernel_rfl) ?_
  show CW _ _ _ _ _ _
  refine CW.cond rfl (fun hc28 => ?_) (fun hc28 => ?_)
  · replace h := bcT h hc28
    refine CW.seq ?_
    refine CW.region ?_
    refine LW.p rfl rfl ?_
    refine LW.nil ?_
    show CW _ _ _ _ _ _
    refine CW.ret ?_
    cases h
    exact And.intro trivial ⟨_, Res.one (resOne.t rfl), rfl, hS12.pick [] rfl rfl⟩
  replace h := bcF h hc28
  refine CW.skip ?_
  show CW _ _ _ _ _ _
  refine CW.seq ?_
  refine CW.region ?_
  refine LW.p rfl rfl ?_
  refine LW.nil ?_
  show CW _ _ _ _ _ _
  refine CW.ret ?_
  cases h
  exact And.intro trivial ⟨_, Res.one (resOne.t rfl), rfl, hS12.pick [] rfl rfl⟩

end Go.Kx
