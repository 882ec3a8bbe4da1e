/- Each call returns what the plain function says. Printed by drive.py. -/
import Derived.Test.YtfllimolhpblnaaGreatFa
import Derived.Test.YtfllimolhpblnaaGreatPu
import Derived.Test.YtfllimolhpblnaaGreatWa0
import Derived.Test.YtfllimolhpblnaaGreatWa1
import Derived.Test.YtfllimolhpblnaaGreatWa7
import Derived.Test.YtfllimolhpblnaaGreatWa8
import Derived.Test.YtfllimolhpblnaaGreatWa9
namespace Go.Kx
open Go Go.RowKit Go.Proofs
set_option maxRecDepth 10000
set_option maxHeartbeats 2000000
set_option linter.unusedVariables false
set_option linter.unusedSimpArgs false
theorem W_l_FnExactOwning {w0 : World} {N : Nat} {x0 : DWorld} {x1 : Int} {x2 : DCall} {r : Bool} (h : F_l_FnExactOwning N x0 x1 x2 = some r) {a0_1 : Option Addr} {n0_1 c0_1 : Nat} (hn0_1 : n0_1 = x0.parts.length) (hr0_1 : rdS (Bor w0 []) w0 a0_1 c0_1 x0.parts) :
    Ret Tryz.prog 3 #[.agg #[.int .i64 x0.now, .slice a0_1 n0_1 c0_1], .int .i64 x1, .agg #[.int .i64 x2.kind, .int .i64 x2.a, .int .i64 x2.b, .int .i64 x2.c, .int .i64 x2.d, .int .i64 x2.e]] w0 (fun v w => v = .bool r ∧ St w0 [] w []) := by
  subst hn0_1
  unfold F_l_FnExactOwning at h
  refine Ret.fn Tryz.func3 fun e => ?_
  have hS1 := St.start w0
  refine go ?_
  refine LW.bo hS1 fun g1 w2 hS2 => ?_
  refine LW.bo hS2 fun g3 w4 hS3 => ?_
  refine go ?_
  replace ⟨y5, hy5, h⟩ := obind h
  refine LW.c0 (W_l_szWorld hy5 rfl (hS3.rB hr0_1)) hS3 fun w6 hS4 => ?_
  refine go ?_
  refine CW.cond rfl (fun hc7 => ?_) (fun hc7 => ?_)
  · replace h := bcT h hc7
    refine go ?_
    cases h
    exact And.intro trivial ⟨_, Res.one (resOne.t rfl), rfl, hS4.pick [] rfl rfl⟩
  replace h := bcF h hc7
  refine go ?_
  refine CW.draw (by kernel_rfl) ?_
  have hS5 := hS4.drew
  refine AW.take (i := 0) rfl (by kernel_rfl) rfl rfl (Ldr.boxN (bt := 24) (fr := (0, 0)) (cs := [.int .i64 x0.now, .slice a0_1 x0.parts.length c0_1]) ag24 rfl rfl) (St.cell (h := hS5) (i := 1) rfl) ?_
  refine AW.u (i := 2) rfl (by kernel_rfl) rfl rfl (Pur.p rfl) ?_
  refine AW.take (i := 3) rfl (by kernel_rfl) rfl rfl (Ldr.boxN (bt := 26) (fr := (0, 0)) (cs := [.int .i64 x2.kind, .int .i64 x2.a, .int .i64 x2.b, .int .i64 x2.c, .int .i64 x2.d, .int .i64 x2.e]) ag26 rfl rfl) (St.cell (h := hS5) (i := 0) rfl) ?_
  replace ⟨y8, hy8, h⟩ := obind h
  have q := W_l_toWorld (w0 := w6.drew) hy8 rfl (hS5.rB hr0_1)
  refine AW.one (i := 1) (by kernel_rfl) ?_
  refine ⟨_, rfl, ?_⟩
  refine LW.call pl12 rfl rfl ?_
  refine Ret.mono q ?_
  rintro _ w11 ⟨a9, c10, rfl, hs⟩
  have hS6 := hS5.add hs
  refine LW.nil ⟨rfl, (.c (St.cell (h := hS6) (i := 1) rfl) (.w (by kernel_rfl) Kept.n)), ?_⟩
  replace ⟨y12, hy12, h⟩ := obind h
  have q := W_l_toCall (w0 := w11) hy12
  refine AW.one (i := 4) (by kernel_rfl) ?_
  refine ⟨_, rfl, ?_⟩
  refine LW.call pl13 rfl rfl ?_
  refine Ret.mono q ?_
  rintro _ w13 ⟨rfl, hs⟩
  have hS7 := hS6.add hs
  refine LW.nil ⟨rfl, (.w (by kernel_rfl) (.c (St.cell (h := hS7) (i := 2) rfl) Kept.n)), ?_⟩
  replace ⟨y14, hy14, h⟩ := obind h
  have q := W_s_Owning (w0 := w13) hy14 rfl (hS7.rI 0 rfl)
  refine AW.one (i := 5) (by kernel_rfl) ?_
  refine ⟨_, rfl, ?_⟩
  refine LW.call pl11 rfl rfl ?_
  refine Ret.mono q ?_
  rintro _ w17 ⟨a15, c16, rfl, hs⟩
  have hS8 := hS7.add hs
  refine LW.nil ⟨rfl, (.c (St.cell (h := hS8) (i := 2) rfl) (.c (St.cell (h := hS8) (i := 3) rfl) Kept.n)), ?_⟩
  refine AW.u (i := 6) rfl (by kernel_rfl) rfl rfl (Pur.p rfl) ?_
  refine AW.done (by kernel_rfl) ?_
  refine go ?_
  replace ⟨y18, hy18, h⟩ := obind h
  refine LW.cl (W_l_toWorld hy18 rfl (hS8.rB hr0_1)) ?_
  rintro _ w21 ⟨a19, c20, rfl, hs⟩
  have hS9 := hS8.add hs
  refine LW.al hS9 fun g22 w23 hS10 => ?_
  refine LW.st hS10 0 fun w24 hS11 => ?_
  refine go ?_
  refine CW.draw (by kernel_rfl) ?_
  have hS12 := hS11.drew
  refine AW.take (i := 0) rfl (by kernel_rfl) rfl rfl (Ldr.boxN (bt := 32) (fr := (0, 0)) (cs := [.int .i64 y18.now, .slice a19 y18.parts.length c20]) ag32 rfl rfl) (St.cell (h := hS12) (i := 0) rfl) ?_
  refine AW.u (i := 1) rfl (by kernel_rfl) rfl rfl (Pur.p rfl) ?_
  refine AW.take (i := 2) rfl (by kernel_rfl) rfl rfl (Ldr.boxN (bt := 26) (fr := (0, 0)) (cs := [.int .i64 x2.kind, .int .i64 x2.a, .int .i64 x2.b, .int .i64 x2.c, .int .i64 x2.d, .int .i64 x2.e]) ag26 rfl rfl) (St.cell (h := hS12) (i := 4) rfl) ?_
  replace ⟨y25, hy25, h⟩ := obind h
  have q := W_l_toCall (w0 := w24.drew) hy25
  refine AW.one (i := 3) (by kernel_rfl) ?_
  refine ⟨_, rfl, ?_⟩
  refine LW.call pl13 rfl rfl ?_
  refine Ret.mono q ?_
  rintro _ w26 ⟨rfl, hs⟩
  have hS13 := hS12.add hs
  refine LW.nil ⟨rfl, (.w (by kernel_rfl) (.c (St.cell (h := hS13) (i := 0) rfl) Kept.n)), ?_⟩
  replace ⟨y27, hy27, h⟩ := obind h
  have q := W_i_Owning (w0 := w26) hy27 rfl (hS13.rI 1 rfl)
  refine AW.one (i := 4) (by kernel_rfl) ?_
  refine ⟨_, rfl, ?_⟩
  refine LW.call pl14 rfl rfl ?_
  refine Ret.mono q ?_
  rintro _ w30 ⟨a28, c29, rfl, hs⟩
  have hS14 := hS13.add hs
  refine LW.nil ⟨rfl, (.c (St.cell (h := hS14) (i := 5) rfl) (.w (by kernel_rfl) Kept.n)), ?_⟩
  refine AW.u (i := 5) rfl (by kernel_rfl) rfl rfl (Pur.p rfl) ?_
  refine AW.done (by kernel_rfl) ?_
  refine go ?_
  replace ⟨y31, hy31, h⟩ := obind h
  refine LW.c0 (W_l_eqIntS hy31 rfl (hS14.rI 0 rfl) rfl (hS14.rI 3 rfl)) hS14 fun w32 hS15 => ?_
  refine go ?_
  refine CW.fl [1, 3, 5, 8, 9, 10, 36] fun e => ?_
  refine CW.cond rfl (fun hc33 => ?_) (fun hc33 => ?_)
  · replace h := bcT h hc33
    refine go ?_
    cases h
    exact And.intro trivial ⟨_, Res.one (resOne.t rfl), rfl, hS15.pick [] rfl rfl⟩
  replace h := bcF h hc33
  refine go ?_
  refine CW.draw (by kernel_rfl) ?_
  have hS16 := hS15.drew
  refine AW.take (i := 0) rfl (by kernel_rfl) rfl rfl (Ldr.boxN (bt := 32) (fr := (0, 0)) (cs := [.int .i64 y18.now, .slice a19 y18.parts.length c20]) ag32 rfl rfl) (St.cell (h := hS16) (i := 1) rfl) ?_
  refine AW.take (i := 1) rfl (by kernel_rfl) rfl rfl (Ldr.boxN (bt := 24) (fr := (0, 0)) (cs := [.int .i64 x0.now, .slice a0_1 x0.parts.length c0_1]) ag24 rfl rfl) (St.cell (h := hS16) (i := 6) rfl) ?_
  replace ⟨y34, hy34, h⟩ := obind h
  have q := W_l_toWorld (w0 := w32.drew) hy34 rfl (hS16.rB hr0_1)
  refine AW.one (i := 2) (by kernel_rfl) ?_
  refine ⟨_, rfl, ?_⟩
  refine LW.call pl12 rfl rfl ?_
  refine Ret.mono q ?_
  rintro _ w37 ⟨a35, c36, rfl, hs⟩
  have hS17 := hS16.add hs
  refine LW.nil ⟨rfl, (.w (by kernel_rfl) (.c (St.cell (h := hS17) (i := 2) rfl) Kept.n)), ?_⟩
  replace ⟨y38, hy38, h⟩ := obind h
  have q := W_l_eqWorld (w0 := w37) hy38 rfl (hS17.rI 3 rfl) rfl (hS17.rI 0 rfl)
  refine AW.one (i := 3) (by kernel_rfl) ?_
  refine ⟨_, rfl, ?_⟩
  refine LW.call pl16 rfl rfl ?_
  refine Ret.mono q ?_
  rintro _ w39 ⟨rfl, hs⟩
  have hS18 := hS17.add hs
  refine LW.nil ⟨rfl, (.c (St.cell (h := hS18) (i := 7) rfl) (.w (by kernel_rfl) Kept.n)), ?_⟩
  refine AW.u (i := 4) rfl (by kernel_rfl) rfl rfl (Pur.p rfl) ?_
  refine AW.done (by kernel_rfl) ?_
  refine go ?_
  refine CW.cond rfl (fun hc40 => ?_) (fun hc40 => ?_)
  · replace h := bcT h hc40
    refine go ?_
    cases h
    exact And.intro trivial ⟨_, Res.one (resOne.t rfl), rfl, hS18.pick [] rfl rfl⟩
  replace h := bcF h hc40
  refine go ?_
  replace ⟨y41, hy41, h⟩ := obind h
  obtain ⟨q44, hy41', hq45⟩ := obind hy41
  obtain ⟨hl46, hq45⟩ := keepL_some hq45
  rw [Option.some.inj hq45] at hy41' hl46
  have hS19 := hS18.pick (M := [sl a19 c20 y18.parts] ++ [sl a35 c36 y34.parts, sl a28 c29 y27, bx g22 32 [.int .i64 y18.now, .slice a19 y18.parts.length c20], sl a15 c16 y14, sl a9 c10 y8.parts, bx g3 26 [.int .i64 x2.kind, .int .i64 x2.a, .int .i64 x2.b, .int .i64 x2.c, .int .i64 x2.d, .int .i64 x2.e], bx g1 24 [.int .i64 x0.now, .slice a0_1 x0.parts.length c0_1]]) [3, 0, 1, 2, 4, 5, 6, 7] rfl rfl
  obtain ⟨F42, hL43⟩ := St.lend (L := [sl a19 c20 y18.parts]) (M := [sl a35 c36 y34.parts, sl a28 c29 y27, bx g22 32 [.int .i64 y18.now, .slice a19 y18.parts.length c20], sl a15 c16 y14, sl a9 c10 y8.parts, bx g3 26 [.int .i64 x2.kind, .int .i64 x2.a, .int .i64 x2.b, .int .i64 x2.c, .int .i64 x2.d, .int .i64 x2.e], bx g1 24 [.int .i64 x0.now, .slice a0_1 x0.parts.length c0_1]]) hS19
  refine LW.cl (W_l_markWorld hy41' rfl hL43.st) ?_
  rintro _ w47 ⟨rfl, hs⟩
  have hS20 := hL43.back _ _ hs
  refine gs ?_
  rw [show y18.parts.length = y41.2.length from hl46] at hS20
  obtain ⟨j48, hj48, h49⟩ := obind h
  refine CW.cut (fun e wb => En e [(1, .int .i64 x1), (3, .pointer (some ⟨g1, 0, none⟩)), (5, .pointer (some ⟨g3, 0, none⟩)), (8, .slice a15 y14.length c16), (10, .slice a28 y27.length c29), (52, .bool j48)] ∧ St w0 [] wb [sl a28 c29 y27, sl a15 c16 y14, bx g3 26 [.int .i64 x2.kind, .int .i64 x2.a, .int .i64 x2.b, .int .i64 x2.c, .int .i64 x2.d, .int .i64 x2.e], bx g1 24 [.int .i64 x0.now, .slice a0_1 x0.parts.length c0_1]]) ?_ ?_
  · have h := hj48
    refine go ?_
    rcases bcases (decide (y41.1 < 0)) with hc50 | hc50
    · replace h := bcT h hc50
      refine go ?_
      cases oi h
      exact ⟨⟨rfl, rfl, rfl, rfl, rfl, rfl, trivial⟩, hS20.pick [2, 4, 6, 7] rfl rfl⟩
    replace h := bcF h hc50
    refine go ?_
    replace ⟨y51, hy51, h⟩ := obind h
    refine go ?_
    refine LW.c0 (W_l_eqIntS hy51 rfl (hS20.rI 2 rfl) rfl (hS20.rI 4 rfl)) hS20 fun w52 hS21 => ?_
    refine go ?_
    cases oi h
    exact ⟨⟨rfl, rfl, rfl, rfl, rfl, rfl, trivial⟩, hS21.pick [2, 4, 6, 7] rfl rfl⟩
  rintro e w53 ⟨hE, hS22⟩
  obtain ⟨e, rfl⟩ := hE.out
  have h := h49
  refine go ?_
  refine CW.cond rfl (fun hc54 => ?_) (fun hc54 => ?_)
  · replace h := bcT h hc54
    refine go ?_
    cases h
    exact And.intro trivial ⟨_, Res.one (resOne.t rfl), rfl, hS22.pick [] rfl rfl⟩
  replace h := bcF h hc54
  refine go ?_
  replace ⟨y55, hy55, h⟩ := obind h
  obtain ⟨q58, hy55', hq59⟩ := obind hy55
  obtain ⟨hl60, hq59⟩ := keepL_some hq59
  rw [Option.some.inj hq59] at hy55' hl60
  have hS23 := hS22.pick (M := [sl a28 c29 y27] ++ [sl a15 c16 y14, bx g3 26 [.int .i64 x2.kind, .int .i64 x2.a, .int .i64 x2.b, .int .i64 x2.c, .int .i64 x2.d, .int .i64 x2.e], bx g1 24 [.int .i64 x0.now, .slice a0_1 x0.parts.length c0_1]]) [0, 1, 2, 3] rfl rfl
  obtain ⟨F56, hL57⟩ := St.lend (L := [sl a28 c29 y27]) (M := [sl a15 c16 y14, bx g3 26 [.int .i64 x2.kind, .int .i64 x2.a, .int .i64 x2.b, .int .i64 x2.c, .int .i64 x2.d, .int .i64 x2.e], bx g1 24 [.int .i64 x0.now, .slice a0_1 x0.parts.length c0_1]]) hS23
  refine LW.cl (W_l_markIntS hy55' rfl hL57.st) ?_
  rintro _ w61 ⟨rfl, hs⟩
  have hS24 := hL57.back _ _ hs
  refine go ?_
  replace ⟨y62, hy62, h⟩ := obind h
  refine LW.c0 (W_l_heldIntS hy62 (show y27.length = y55.2.length from hl60) (hS24.rI 0 rfl)) hS24 fun w63 hS25 => ?_
  refine go ?_
  refine CW.fl [1, 3, 5, 8, 10, 12, 13, 60] fun e => ?_
  refine CW.cond rfl (fun hc64 => ?_) (fun hc64 => ?_)
  · replace h := bcT h hc64
    refine go ?_
    cases h
    exact And.intro trivial ⟨_, Res.one (resOne.t rfl), rfl, hS25.pick [] rfl rfl⟩
  replace h := bcF h hc64
  refine go ?_
  refine CW.cond rfl (fun hc65 => ?_) (fun hc65 => ?_)
  · replace h := bcT h hc65
    refine go ?_
    cases h
    exact And.intro trivial ⟨_, Res.one (resOne.t rfl), rfl, hS25.pick [] rfl rfl⟩
  replace h := bcF h hc65
  refine go ?_
  refine CW.draw (by kernel_rfl) ?_
  have hS26 := hS25.drew
  refine AW.take (i := 0) rfl (by kernel_rfl) rfl rfl (Ldr.boxN (bt := 24) (fr := (0, 0)) (cs := [.int .i64 x0.now, .slice a0_1 x0.parts.length c0_1]) ag24 rfl rfl) (St.cell (h := hS26) (i := 3) rfl) ?_
  refine AW.u (i := 2) rfl (by kernel_rfl) rfl rfl (Pur.p rfl) ?_
  refine AW.take (i := 3) rfl (by kernel_rfl) rfl rfl (Ldr.boxN (bt := 26) (fr := (0, 0)) (cs := [.int .i64 x2.kind, .int .i64 x2.a, .int .i64 x2.b, .int .i64 x2.c, .int .i64 x2.d, .int .i64 x2.e]) ag26 rfl rfl) (St.cell (h := hS26) (i := 2) rfl) ?_
  replace ⟨y66, hy66, h⟩ := obind h
  have q := W_l_toWorld (w0 := w63.drew) hy66 rfl (hS26.rB hr0_1)
  refine AW.one (i := 1) (by kernel_rfl) ?_
  refine ⟨_, rfl, ?_⟩
  refine LW.call pl12 rfl rfl ?_
  refine Ret.mono q ?_
  rintro _ w69 ⟨a67, c68, rfl, hs⟩
  have hS27 := hS26.add hs
  refine LW.nil ⟨rfl, (.c (St.cell (h := hS27) (i := 3) rfl) (.w (by kernel_rfl) Kept.n)), ?_⟩
  replace ⟨y70, hy70, h⟩ := obind h
  have q := W_l_toCall (w0 := w69) hy70
  refine AW.one (i := 4) (by kernel_rfl) ?_
  refine ⟨_, rfl, ?_⟩
  refine LW.call pl13 rfl rfl ?_
  refine Ret.mono q ?_
  rintro _ w71 ⟨rfl, hs⟩
  have hS28 := hS27.add hs
  refine LW.nil ⟨rfl, (.w (by kernel_rfl) (.c (St.cell (h := hS28) (i := 4) rfl) Kept.n)), ?_⟩
  replace ⟨y72, hy72, h⟩ := obind h
  have q := W_i_Owning (w0 := w71) hy72 rfl (hS28.rI 0 rfl)
  refine AW.one (i := 5) (by kernel_rfl) ?_
  refine ⟨_, rfl, ?_⟩
  refine LW.call pl14 rfl rfl ?_
  refine Ret.mono q ?_
  rintro _ w75 ⟨a73, c74, rfl, hs⟩
  have hS29 := hS28.add hs
  refine LW.nil ⟨rfl, (.c (St.cell (h := hS29) (i := 4) rfl) (.c (St.cell (h := hS29) (i := 5) rfl) Kept.n)), ?_⟩
  refine AW.u (i := 6) rfl (by kernel_rfl) rfl rfl (Pur.p rfl) ?_
  refine AW.done (by kernel_rfl) ?_
  refine go ?_
  replace ⟨y76, hy76, h⟩ := obind h
  refine LW.c0 (W_l_eqIntS hy76 rfl (hS29.rI 0 rfl) rfl (hS29.rI 3 rfl)) hS29 fun w77 hS30 => ?_
  refine go ?_
  refine CW.cond rfl (fun hc78 => ?_) (fun hc78 => ?_)
  · replace h := bcT h hc78
    refine go ?_
    cases h
    exact And.intro trivial ⟨_, Res.one (resOne.t rfl), rfl, hS30.pick [] rfl rfl⟩
  replace h := bcF h hc78
  refine go ?_
  replace ⟨y79, hy79, h⟩ := obind h
  refine LW.c0 (W_l_heldIntS hy79 (show y27.length = y55.2.length from hl60) (hS30.rI 2 rfl)) hS30 fun w80 hS31 => ?_
  refine go ?_
  refine CW.fl [12, 13, 78] fun e => ?_
  refine CW.cond rfl (fun hc81 => ?_) (fun hc81 => ?_)
  · replace h := bcT h hc81
    refine go ?_
    cases h
    exact And.intro trivial ⟨_, Res.one (resOne.t rfl), rfl, hS31.pick [] rfl rfl⟩
  replace h := bcF h hc81
  refine go ?_
  refine CW.cond rfl (fun hc82 => ?_) (fun hc82 => ?_)
  · replace h := bcT h hc82
    refine go ?_
    cases h
    exact And.intro trivial ⟨_, Res.one (resOne.t rfl), rfl, hS31.pick [] rfl rfl⟩
  replace h := bcF h hc82
  refine go ?_
  cases h
  exact And.intro trivial ⟨_, Res.one (resOne.t rfl), rfl, hS31.pick [] rfl rfl⟩

end Go.Kx
