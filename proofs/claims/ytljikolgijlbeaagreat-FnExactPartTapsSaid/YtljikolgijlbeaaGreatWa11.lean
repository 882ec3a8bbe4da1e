/- Each call returns what the plain function says. Printed by drive.py. -/
import Derived.Test.YtljikolgijlbeaaGreatFa
import Derived.Test.YtljikolgijlbeaaGreatPu
import Derived.Test.YtljikolgijlbeaaGreatWa4
import Derived.Test.YtljikolgijlbeaaGreatWa6
import Derived.Test.YtljikolgijlbeaaGreatWa10
namespace Go.Kx
open Go Go.RowKit Go.Proofs
set_option maxRecDepth 10000
set_option maxHeartbeats 8000000
set_option linter.unusedVariables false
set_option linter.unusedSimpArgs false
theorem W_l_FnExactPartTaps {w0 : World} {N : Nat} {x0 : DWorld} {x1 : Int} {r : Bool} (h : F_l_FnExactPartTaps N x0 x1 = some r) {a0_1 : Option Addr} {n0_1 c0_1 : Nat} (hn0_1 : n0_1 = x0.parts.length) (hr0_1 : rdS (Bor w0 []) w0 a0_1 c0_1 x0.parts) :
    Ret Tryz.prog 4 #[.agg #[.int .i64 x0.now, .slice a0_1 n0_1 c0_1], .int .i64 x1] w0 (fun v w => v = .bool r ∧ St w0 [] w []) := by
  subst hn0_1
  unfold F_l_FnExactPartTaps at h
  refine Ret.fn Tryz.func4 fun e => ?_
  have hS1 := St.start w0
  refine go ?_
  refine LW.bo hS1 fun g1 w2 hS2 => ?_
  refine go ?_
  replace ⟨y3, hy3, h⟩ := obind h
  refine LW.c0 (W_l_szWorld hy3 rfl (hS2.rB hr0_1)) hS2 fun w4 hS3 => ?_
  refine go ?_
  refine cd (fun hc5 => ?_) fun hc5 => ?_
  · replace h := bcT h hc5
    refine go ?_
    cases h
    exact fi hS3
  replace h := bcF h hc5
  refine go ?_
  replace ⟨y6, hy6, h⟩ := obind h
  refine LW.cl (W_l_toWorld hy6 rfl (hS3.rB hr0_1)) ?_
  rintro _ w9 ⟨a7, c8, rfl, hs⟩
  have hS4 := hS3.add hs
  refine go ?_
  replace ⟨y10, hy10, h⟩ := obind h
  refine LW.cl (W_s_PartTaps hy10 rfl (hS4.rI 0 rfl)) ?_
  rintro _ w13 ⟨a11, c12, rfl, hs⟩
  have hS5 := hS4.add hs
  refine LW.al hS5 fun g14 w15 hS6 => ?_
  refine LW.st hS6 0 fun w16 hS7 => ?_
  refine go ?_
  replace ⟨y17, hy17, h⟩ := obind h
  refine LW.cl (W_l_toWorld hy17 rfl (hS7.rB hr0_1)) ?_
  rintro _ w20 ⟨a18, c19, rfl, hs⟩
  have hS8 := hS7.add hs
  refine LW.al hS8 fun g21 w22 hS9 => ?_
  refine LW.st hS9 0 fun w23 hS10 => ?_
  refine go ?_
  replace ⟨y24, hy24, h⟩ := obind h
  refine LW.cl (W_i_PartTaps hy24 rfl (hS10.rI 1 rfl)) ?_
  rintro _ w27 ⟨a25, c26, rfl, hs⟩
  have hS11 := hS10.add hs
  refine LW.al hS11 fun g28 w29 hS12 => ?_
  refine LW.st hS12 0 fun w30 hS13 => ?_
  refine go ?_
  refine LW.fl [1, 2, 6, 7, 8, 27, 28] fun e => ?_
  replace ⟨y31, hy31, h⟩ := obind h
  refine LW.c0 (W_l_eqWorld hy31 rfl (hS13.rI 1 rfl) rfl (hS13.rI 5 rfl)) hS13 fun w32 hS14 => ?_
  refine go ?_
  refine cd (fun hc33 => ?_) fun hc33 => ?_
  · replace h := bcT h hc33
    refine go ?_
    cases h
    exact fi hS14
  replace h := bcF h hc33
  refine go ?_
  refine CW.draw (by kernel_rfl) ?_
  have hS15 := hS14.drew
  refine go ?_
  replace ⟨y34, hy34, h⟩ := obind h
  have q := W_l_toWorld (w0 := w32.drew) hy34 rfl (hS15.rB hr0_1)
  refine AW.one (i := 2) (by kernel_rfl) ?_
  refine ⟨_, rfl, ?_⟩
  refine LW.call pl16 rfl rfl ?_
  refine Ret.mono q ?_
  rintro _ w37 ⟨a35, c36, rfl, hs⟩
  have hS16 := hS15.add hs
  refine LW.nil ⟨rfl, (.w (by kernel_rfl) (.c (St.cell (h := hS16) (i := 3) rfl) Kept.n)), ?_⟩
  replace ⟨y38, hy38, h⟩ := obind h
  have q := W_l_eqWorld (w0 := w37) hy38 rfl (hS16.rI 4 rfl) rfl (hS16.rI 0 rfl)
  refine AW.one (i := 3) (by kernel_rfl) ?_
  refine ⟨_, rfl, ?_⟩
  refine LW.call pl18 rfl rfl ?_
  refine Ret.mono q ?_
  rintro _ w39 ⟨rfl, hs⟩
  have hS17 := hS16.add hs
  refine LW.nil ⟨rfl, (.c (St.cell (h := hS17) (i := 8) rfl) (.w (by kernel_rfl) Kept.n)), ?_⟩
  refine go ?_
  refine cd (fun hc40 => ?_) fun hc40 => ?_
  · replace h := bcT h hc40
    refine go ?_
    cases h
    exact fi hS17
  replace h := bcF h hc40
  refine go ?_
  replace ⟨y41, hy41, h⟩ := obind h
  obtain ⟨q44, hy41', hq45⟩ := obind hy41
  obtain ⟨hl46, hq45⟩ := keepL_some hq45
  rw [Option.some.inj hq45] at hy41' hl46
  obtain ⟨F42, hL43⟩ := hS17.lendI [4] [0, 1, 2, 3, 5, 6, 7, 8]
  refine LW.cl (W_l_markWorld hy41' rfl hL43.st) ?_
  rintro _ w47 ⟨rfl, hs⟩
  have hS18 := hL43.back _ _ hs
  refine gs ?_
  rw [show y17.parts.length = y41.2.length from hl46] at hS18
  obtain ⟨j48, hj48, h49⟩ := obind h
  refine CW.jn [1, 2, 6, 8] [2, 3, 5, 6, 8] [(46, .bool j48)] hS18 (h1 := ?_) (h2 := ?_)
  · have h := hj48
    refine go ?_
    rcases bcases (decide (y41.1 < 0)) with hc50 | hc50
    · replace h := bcT h hc50
      refine go ?_
      cases oi h
      exact ⟨⟨rfl, rfl, rfl, rfl, rfl, trivial⟩, hS18.pick [2, 3, 5, 6, 8] rfl rfl⟩
    replace h := bcF h hc50
    refine go ?_
    replace ⟨y51, hy51, h⟩ := obind h
    refine go ?_
    refine LW.c0 (W_l_eqWorld hy51 rfl (hS18.rI 3 rfl) rfl (hS18.rI 6 rfl)) hS18 fun w52 hS19 => ?_
    refine go ?_
    cases oi h
    exact ⟨⟨rfl, rfl, rfl, rfl, rfl, trivial⟩, hS19.pick [2, 3, 5, 6, 8] rfl rfl⟩
  intro e w53 hS20
  have h := h49
  refine go ?_
  refine cd (fun hc54 => ?_) fun hc54 => ?_
  · replace h := bcT h hc54
    refine go ?_
    cases h
    exact fi hS20
  replace h := bcF h hc54
  refine go ?_
  replace ⟨y55, hy55, h⟩ := obind h
  obtain ⟨q58, hy55', hq59⟩ := obind hy55
  obtain ⟨hl60, hq59⟩ := keepL_some hq59
  rw [Option.some.inj hq59] at hy55' hl60
  obtain ⟨F56, hL57⟩ := hS20.lendI [1] [0, 2, 3, 4]
  refine LW.cl (W_l_markWorld hy55' rfl hL57.st) ?_
  rintro _ w61 ⟨rfl, hs⟩
  have hS21 := hL57.back _ _ hs
  refine go ?_
  replace ⟨y62, hy62, h⟩ := obind h
  refine LW.c0 (W_l_heldWorld hy62 (show y24.parts.length = y55.2.length from hl60) (hS21.rI 0 rfl)) hS21 fun w63 hS22 => ?_
  refine go ?_
  refine CW.fl [1, 2, 6, 8, 10, 11, 54] fun e => ?_
  refine cd (fun hc64 => ?_) fun hc64 => ?_
  · replace h := bcT h hc64
    refine go ?_
    cases h
    rw [show y24.parts.length = y55.2.length from hl60] at hS22
    exact fi hS22
  replace h := bcF h hc64
  refine go ?_
  refine cd (fun hc65 => ?_) fun hc65 => ?_
  · replace h := bcT h hc65
    refine go ?_
    cases h
    rw [show y24.parts.length = y55.2.length from hl60] at hS22
    exact fi hS22
  replace h := bcF h hc65
  refine go ?_
  replace ⟨y66, hy66, h⟩ := obind h
  refine LW.cl (W_l_toWorld hy66 rfl (hS22.rB hr0_1)) ?_
  rintro _ w69 ⟨a67, c68, rfl, hs⟩
  have hS23 := hS22.add hs
  refine go ?_
  replace ⟨y70, hy70, h⟩ := obind h
  refine LW.cl (W_i_PartTaps hy70 rfl (hS23.rI 0 rfl)) ?_
  rintro _ w73 ⟨a71, c72, rfl, hs⟩
  have hS24 := hS23.add hs
  refine LW.al hS24 fun g74 w75 hS25 => ?_
  refine LW.st hS25 0 fun w76 hS26 => ?_
  refine go ?_
  replace ⟨y77, hy77, h⟩ := obind h
  refine LW.c0 (W_l_eqWorld hy77 rfl (hS26.rI 1 rfl) rfl (hS26.rI 6 rfl)) hS26 fun w78 hS27 => ?_
  refine go ?_
  refine CW.fl [8, 10, 65] fun e => ?_
  refine cd (fun hc79 => ?_) fun hc79 => ?_
  · replace h := bcT h hc79
    refine go ?_
    cases h
    rw [show y24.parts.length = y55.2.length from hl60] at hS27
    exact fi hS27
  replace h := bcF h hc79
  refine go ?_
  replace ⟨y80, hy80, h⟩ := obind h
  refine LW.c0 (W_l_heldWorld hy80 (show y24.parts.length = y55.2.length from hl60) (hS27.rI 3 rfl)) hS27 fun w81 hS28 => ?_
  refine go ?_
  refine cd (fun hc82 => ?_) fun hc82 => ?_
  · replace h := bcT h hc82
    refine go ?_
    cases h
    rw [show y24.parts.length = y55.2.length from hl60] at hS28
    exact fi hS28
  replace h := bcF h hc82
  refine go ?_
  refine cd (fun hc83 => ?_) fun hc83 => ?_
  · replace h := bcT h hc83
    refine go ?_
    cases h
    rw [show y24.parts.length = y55.2.length from hl60] at hS28
    exact fi hS28
  replace h := bcF h hc83
  refine go ?_
  cases h
  rw [show y24.parts.length = y55.2.length from hl60] at hS28
  exact fi hS28

end Go.Kx
