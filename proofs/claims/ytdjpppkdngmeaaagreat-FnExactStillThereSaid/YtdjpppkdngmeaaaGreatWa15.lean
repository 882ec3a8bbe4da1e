/- Each call returns what the plain function says. Printed by drive.py. -/
import Derived.Test.YtdjpppkdngmeaaaGreatFa
import Derived.Test.YtdjpppkdngmeaaaGreatPu
import Derived.Test.YtdjpppkdngmeaaaGreatWa0
import Derived.Test.YtdjpppkdngmeaaaGreatWa1
import Derived.Test.YtdjpppkdngmeaaaGreatWa2
import Derived.Test.YtdjpppkdngmeaaaGreatWa9
import Derived.Test.YtdjpppkdngmeaaaGreatWa10
import Derived.Test.YtdjpppkdngmeaaaGreatWa12
import Derived.Test.YtdjpppkdngmeaaaGreatWa16
namespace Go.Kx
open Go Go.RowKit Go.Proofs
set_option maxRecDepth 10000
set_option maxHeartbeats 2000000
set_option linter.unusedVariables false
set_option linter.unusedSimpArgs false
theorem W_s_HandlePart {w0 : World} {N : Nat} {x0 : Int} {r : Int} (h : F_s_HandlePart N x0 = some r) :
    Ret Tryz.prog 74 #[.int .i64 x0] w0 (fun v w => v = .int .i64 r ∧ St w0 [] w []) := by
  unfold F_s_HandlePart at h
  refine Ret.fn Tryz.func74 fun e => ?_
  have hS1 := St.start w0
  refine go ?_
  replace ⟨y1, hy1, h⟩ := obind h
  refine LW.c0 (W_s_l8Handle hy1) hS1 fun w2 hS2 => ?_
  refine go ?_
  refine CW.cond rfl (fun hc3 => ?_) (fun hc3 => ?_)
  · replace h := bcT h hc3
    refine go ?_
    cases h
    exact And.intro trivial ⟨_, Res.one (resOne.t rfl), rfl, hS2.pick [] rfl rfl⟩
  replace h := bcF h hc3
  refine go ?_
  refine LW.u (Pur.rem rfl rfl (by decide)) rfl ?_
  refine go ?_
  cases h
  exact And.intro trivial ⟨_, Res.one (resOne.t rfl), rfl, hS2.pick [] rfl rfl⟩

theorem W_s_HandleSlot {w0 : World} {N : Nat} {x0 : Int} {r : Int} (h : F_s_HandleSlot N x0 = some r) :
    Ret Tryz.prog 76 #[.int .i64 x0] w0 (fun v w => v = .int .i64 r ∧ St w0 [] w []) := by
  unfold F_s_HandleSlot at h
  refine Ret.fn Tryz.func76 fun e => ?_
  have hS1 := St.start w0
  refine go ?_
  replace ⟨y1, hy1, h⟩ := obind h
  refine LW.c0 (W_s_l8Handle hy1) hS1 fun w2 hS2 => ?_
  refine go ?_
  refine CW.cond rfl (fun hc3 => ?_) (fun hc3 => ?_)
  · replace h := bcT h hc3
    refine go ?_
    cases h
    exact And.intro trivial ⟨_, Res.one (resOne.t rfl), rfl, hS2.pick [] rfl rfl⟩
  replace h := bcF h hc3
  refine go ?_
  refine LW.u (Pur.quo rfl rfl (by decide)) rfl ?_
  refine LW.u (Pur.rem rfl rfl (by decide)) rfl ?_
  refine go ?_
  cases h
  exact And.intro trivial ⟨_, Res.one (resOne.t rfl), rfl, hS2.pick [] rfl rfl⟩

theorem W_s_HandleGen {w0 : World} {N : Nat} {x0 : Int} {r : Int} (h : F_s_HandleGen N x0 = some r) :
    Ret Tryz.prog 77 #[.int .i64 x0] w0 (fun v w => v = .int .i64 r ∧ St w0 [] w []) := by
  unfold F_s_HandleGen at h
  refine Ret.fn Tryz.func77 fun e => ?_
  have hS1 := St.start w0
  refine go ?_
  replace ⟨y1, hy1, h⟩ := obind h
  refine LW.c0 (W_s_l8Handle hy1) hS1 fun w2 hS2 => ?_
  refine go ?_
  refine CW.cond rfl (fun hc3 => ?_) (fun hc3 => ?_)
  · replace h := bcT h hc3
    refine go ?_
    cases h
    exact And.intro trivial ⟨_, Res.one (resOne.t rfl), rfl, hS2.pick [] rfl rfl⟩
  replace h := bcF h hc3
  refine go ?_
  refine LW.u (Pur.quo rfl rfl (by decide)) rfl ?_
  refine LW.u (Pur.quo rfl rfl (by decide)) rfl ?_
  refine go ?_
  cases h
  exact And.intro trivial ⟨_, Res.one (resOne.t rfl), rfl, hS2.pick [] rfl rfl⟩

theorem W_s_StillThere {w0 : World} {N : Nat} {x0 : DWorld} {x1 : List Int} {r : (List Int)} (h : F_s_StillThere N x0 x1 = some r) {a0_1 : Option Addr} {n0_1 c0_1 : Nat} (hn0_1 : n0_1 = x0.parts.length) (hr0_1 : rdS (Bor w0 []) w0 a0_1 c0_1 x0.parts) {a1_0 : Option Addr} {n1_0 c1_0 : Nat} (hn1_0 : n1_0 = x1.length) (hr1_0 : rdS (Bor w0 []) w0 a1_0 c1_0 x1) :
    Ret Tryz.prog 27 #[.agg #[.int .i64 x0.now, .slice a0_1 n0_1 c0_1], .slice a1_0 n1_0 c1_0] w0 (fun v w => ∃ ar0 cr0, v = .slice ar0 r.length cr0 ∧ St w0 [] w [sl ar0 cr0 r]) := by
  subst hn0_1 hn1_0
  unfold F_s_StillThere at h
  refine Ret.fn Tryz.func27 fun e => ?_
  have hS1 := St.start w0
  refine go ?_
  refine LW.bo hS1 fun g1 w2 hS2 => ?_
  refine go ?_
  refine LW.bsl (α := Int) (vs := []) (cs := #[]) (l := ([] : List Int)) rfl (by kernel_rfl) rfl rfl rfl (fun w => rfl) hS2 rfl ?_
  intro a3 c4 w5 hS3 hf
  refine go ?_
  replace ⟨y6, hy6, h⟩ := obind h
  refine LW.c0 (W_s_WorldOk hy6 rfl (hS3.rB hr0_1)) hS3 fun w7 hS4 => ?_
  refine go ?_
  refine CW.cond rfl (fun hc8 => ?_) (fun hc8 => ?_)
  · replace h := bcT h hc8
    refine go ?_
    cases h
    exact And.intro trivial ⟨_, Res.one (resOne.t rfl), a3, c4, rfl, hS4.pick [0] rfl rfl⟩
  replace h := bcF h hc8
  refine go ?_
  obtain ⟨o117, ho117, h118⟩ := obind h
  refine CW.mono (CW.iter (σ := (List Int) × Int) (ρ := (List Int) × Int) (fun s9 e wb => ∃ (s9a0 : Option Addr), ∃ (s9c0 : Nat), En e [(1, .slice a1_0 x1.length c1_0), (2, .pointer (some ⟨g1, 0, none⟩)), (5, .slice s9a0 s9.1.length s9c0), (6, .int .i64 s9.2)] ∧ St w0 [] wb [sl s9a0 s9c0 s9.1, bx g1 61 [.int .i64 x0.now, .slice a0_1 x0.parts.length c0_1]]) (fun s9 x e wb => x = .exit 0 ∧ ∃ (s9a0 : Option Addr), ∃ (s9c0 : Nat), En e [(5, .slice s9a0 s9.1.length s9c0)] ∧ St w0 [] wb [sl s9a0 s9c0 s9.1, bx g1 61 [.int .i64 x0.now, .slice a0_1 x0.parts.length c0_1]]) ?_ N (([] : List Int), 0) _ _ _ ⟨a3, c4, ⟨rfl, rfl, rfl, rfl, trivial⟩, hS4.pick [0, 1] rfl rfl⟩ ho117) ?_
  · intro s9 e w10 o hM h
    obtain ⟨s9a0, s9c0, hE, hS5⟩ := hM
    obtain ⟨e, rfl⟩ := hE.out
    refine go ?_
    refine CW.cond rfl (fun hc11 => ?_) (fun hc11 => ?_)
    · replace h := bcT h hc11
      refine go ?_
      replace ⟨y12, hy12, h⟩ := obind h
      obtain ⟨b15, o16, cs17, hae, hb20, hp13, hq14, hd18, hk19⟩ := hr1_0.idx hy12
      subst hae
      obtain rfl := hd18
      refine LW.u (Pur.ix Tryz.underlying22 sz3 rfl rfl hp13 hq14) rfl ?_
      refine LW.l (Ldr.old w0 ag3 rfl (hk19 0 _ rfl)) (hS5.same _ hb20.1 hb20.2) rfl ?_
      replace ⟨y21, hy21, h⟩ := obind h
      refine LW.c0 (W_s_HandlePart hy21) hS5 fun w22 hS6 => ?_
      refine go ?_
      replace ⟨y23, hy23, h⟩ := obind h
      refine LW.c0 (W_s_l1In hy23) hS6 fun w24 hS7 => ?_
      refine go ?_
      refine CW.fl [1, 2, 5, 6, 7, 31] fun e => ?_
      refine CW.cond rfl (fun hc25 => ?_) (fun hc25 => ?_)
      · replace h := bcT h hc25
        refine go ?_
        cases oi h
        exact ⟨rfl, ⟨s9a0, s9c0, ⟨rfl, rfl, rfl, rfl, trivial⟩, hS7.pick [0, 1] rfl rfl⟩⟩
      replace h := bcF h hc25
      refine gs ?_
      obtain ⟨j26, hj26, h27⟩ := obind h
      refine CW.cut (fun e wb => ∃ (j26g8 : Nat), ∃ (j26a1 : Option Addr), ∃ (j26c1 : Nat), ∃ (j26h1 : rdS (Bor w0 []) w0 j26a1 j26c1 j26.2.2.2.2.2.2.2.2.2.2.1), ∃ (j26a4 : Option Addr), ∃ (j26c4 : Nat), ∃ (j26h4 : rdS (Bor w0 []) w0 j26a4 j26c4 j26.2.2.2.2.2.2.2.2.2.2.2.1), ∃ (j26a7 : Option Addr), ∃ (j26c7 : Nat), ∃ (j26h7 : rdS (Bor w0 []) w0 j26a7 j26c7 j26.2.2.2.2.2.2.2.2.2.2.2.2), En e [(1, .slice (some ⟨b15, o16, none⟩) x1.length c1_0), (2, .pointer (some ⟨g1, 0, none⟩)), (5, .slice s9a0 s9.1.length s9c0), (6, .int .i64 s9.2), (8, .pointer (some ⟨j26g8, 0, none⟩))] ∧ St w0 [] wb [sl s9a0 s9c0 s9.1, bx g1 61 [.int .i64 x0.now, .slice a0_1 x0.parts.length c0_1], bx j26g8 85 [.int .i64 j26.1, .int .i64 j26.2.1, .int .i64 j26.2.2.1, .int .i64 j26.2.2.2.1, .int .i64 j26.2.2.2.2.1, .int .i64 j26.2.2.2.2.2.1, .int .i64 j26.2.2.2.2.2.2.1, .int .i64 j26.2.2.2.2.2.2.2.1, .int .i64 j26.2.2.2.2.2.2.2.2.1, .bool j26.2.2.2.2.2.2.2.2.2.1, .slice j26a1 j26.2.2.2.2.2.2.2.2.2.2.1.length j26c1, .slice j26a4 j26.2.2.2.2.2.2.2.2.2.2.2.1.length j26c4, .slice j26a7 j26.2.2.2.2.2.2.2.2.2.2.2.2.length j26c7]]) ?_ ?_
      · have h := hj26
        refine CW.draw (by kernel_rfl) ?_
        have hS8 := hS7.drew
        refine AW.u (i := 0) rfl (by kernel_rfl) rfl rfl (Pur.fa fo61_1 rfl) ?_
        refine AW.take (i := 1) rfl (by kernel_rfl) rfl rfl (Ldr.box (bt := 61) (fr := (0, 0)) (cs := [.int .i64 x0.now, .slice a0_1 x0.parts.length c0_1]) ag59 rfl rfl) (St.cell (h := hS8) (i := 1) rfl) ?_
        refine AW.u (i := 2) rfl (by kernel_rfl) rfl rfl (Pur.p rfl) ?_
        replace ⟨y28, hy28, h⟩ := obind h
        obtain ⟨b31, o32, cs33, hae, hb36, hp29, hq30, hd34, hk35⟩ := hr0_1.idx hy28
        subst hae
        obtain ⟨a37, c38, a40, c41, a43, c44, a46, c47, a49, c50, a52, c53, rfl, hr39, hr42, hr45, hr48, hr51, hr54⟩ := hd34
        refine AW.u (i := 3) rfl (by kernel_rfl) rfl rfl (Pur.ix Tryz.underlying59 sz47 rfl rfl hp29 hq30) ?_
        refine AW.u (i := 4) rfl (by kernel_rfl) rfl rfl (Pur.fa fo47_3 rfl) ?_
        refine AW.u (i := 5) rfl (by kernel_rfl) rfl rfl (Pur.fa fo43_0 rfl) ?_
        refine AW.take (i := 6) rfl (by kernel_rfl) rfl rfl (Ldr.old w0 ag40 rfl (hk35 3 _ rfl)) (hS8.same _ hb36.1 hb36.2) ?_
        refine AW.u (i := 7) rfl (by kernel_rfl) rfl rfl (Pur.p rfl) ?_
        refine AW.u (i := 8) rfl (by kernel_rfl) rfl rfl (Pur.p rfl) ?_
        refine AW.u (i := 9) rfl (by kernel_rfl) rfl rfl (Pur.ix Tryz.underlying22 sz3 rfl rfl hp13 hq14) ?_
        refine AW.take (i := 10) rfl (by kernel_rfl) rfl rfl (Ldr.old w0 ag3 rfl (hk19 0 _ rfl)) (hS8.same _ hb20.1 hb20.2) ?_
        replace ⟨y55, hy55, h⟩ := obind h
        refine AW.all (rs := [11, 14]) (by kernel_rfl) (by simp) ⟨?_, ?_, trivial⟩
        · have q := W_s_HandleSlot (w0 := w24.drew) hy55
          refine ⟨_, rfl, ?_⟩
          refine LW.call pl76 rfl rfl ?_
          refine Ret.mono q ?_
          rintro _ w60 ⟨rfl, hs⟩
          have hS9 := hS8.add hs
          refine LW.nil ⟨rfl, (.w (by kernel_rfl) (.c (hS9.same _ hb36.1 hb36.2) (.c (St.cell (h := hS9) (i := 1) rfl) Kept.n))), ?_⟩
          replace ⟨y61, hy61, h⟩ := obind h
          obtain ⟨b64, o65, cs66, hae, hb69, hp62, hq63, hd67, hk68⟩ := hr48.idx hy61
          subst hae
          obtain ⟨a70, c71, a73, c74, a76, c77, rfl, hr72, hr75, hr78⟩ := hd67
          refine AW.u (i := 12) rfl (by kernel_rfl) rfl rfl (Pur.ix Tryz.underlying40 sz85 rfl rfl hp62 hq63) ?_
          refine AW.take (i := 13) rfl (by kernel_rfl) rfl rfl (Ldr.oldN w0 ag85 rfl rfl (fun j u hu => hk68 j u hu)) (hS9.same _ hb69.1 hb69.2) ?_
          refine AW.one (i := 14) (by kernel_rfl) ?_
          refine ⟨_, rfl, ?_⟩
          refine LW.al hS9 fun g79 w80 hS10 => ?_
          refine LW.nil ⟨rfl, (.c (hS10.same _ hb69.1 hb69.2) (.c (hS10.same _ hb20.1 hb20.2) (.c (hS10.same _ hb36.1 hb36.2) (.c (St.cell (h := hS10) (i := 2) rfl) Kept.n)))), ?_⟩
          refine AW.one (i := 15) (by kernel_rfl) ?_
          refine ⟨_, rfl, ?_⟩
          refine LW.st hS10 0 fun w81 hS11 => ?_
          refine LW.nil ⟨rfl, (.w (by kernel_rfl) (.w (by kernel_rfl) (.w (by kernel_rfl) (.w (by kernel_rfl) Kept.n)))), ?_⟩
          refine AW.done (by kernel_rfl) ?_
          cases oi h
          exact ⟨g79, a70, c71, hr72, a73, c74, hr75, a76, c77, hr78, ⟨rfl, rfl, rfl, rfl, rfl, trivial⟩, hS11.pick [1, 2, 0] rfl rfl⟩
        refine ⟨_, rfl, ?_⟩
        refine LW.al hS8 fun g82 w83 hS12 => ?_
        refine LW.nil ⟨rfl, (.c (hS12.same _ hb20.1 hb20.2) (.c (hS12.same _ hb36.1 hb36.2) (.c (St.cell (h := hS12) (i := 2) rfl) Kept.n))), ?_⟩
        have q := W_s_HandleSlot (w0 := w83) hy55
        refine AW.one (i := 11) (by kernel_rfl) ?_
        refine ⟨_, rfl, ?_⟩
        refine LW.call pl76 rfl rfl ?_
        refine Ret.mono q ?_
        rintro _ w84 ⟨rfl, hs⟩
        have hS13 := hS12.add hs
        refine LW.nil ⟨rfl, (.w (by kernel_rfl) (.c (hS13.same _ hb36.1 hb36.2) (.c (St.cell (h := hS13) (i := 2) rfl) Kept.n))), ?_⟩
        replace ⟨y85, hy85, h⟩ := obind h
        obtain ⟨b88, o89, cs90, hae, hb93, hp86, hq87, hd91, hk92⟩ := hr48.idx hy85
        subst hae
        obtain ⟨a94, c95, a97, c98, a100, c101, rfl, hr96, hr99, hr102⟩ := hd91
        refine AW.u (i := 12) rfl (by kernel_rfl) rfl rfl (Pur.ix Tryz.underlying40 sz85 rfl rfl hp86 hq87) ?_
        refine AW.take (i := 13) rfl (by kernel_rfl) rfl rfl (Ldr.oldN w0 ag85 rfl rfl (fun j u hu => hk92 j u hu)) (hS13.same _ hb93.1 hb93.2) ?_
        refine AW.one (i := 15) (by kernel_rfl) ?_
        refine ⟨_, rfl, ?_⟩
        refine LW.st hS13 0 fun w103 hS14 => ?_
        refine LW.nil ⟨rfl, (.w (by kernel_rfl) (.w (by kernel_rfl) (.w (by kernel_rfl) (.w (by kernel_rfl) Kept.n)))), ?_⟩
        refine AW.done (by kernel_rfl) ?_
        cases oi h
        exact ⟨g82, a94, c95, hr96, a97, c98, hr99, a100, c101, hr102, ⟨rfl, rfl, rfl, rfl, rfl, trivial⟩, hS14.pick [1, 2, 0] rfl rfl⟩
      rintro e w104 ⟨j26g8, j26a1, j26c1, j26h1, j26a4, j26c4, j26h4, j26a7, j26c7, j26h7, hE, hS15⟩
      obtain ⟨e, rfl⟩ := hE.out
      have h := h27
      refine gs ?_
      obtain ⟨j105, hj105, h106⟩ := obind h
      refine CW.cut (fun e wb => En e [(1, .slice (some ⟨b15, o16, none⟩) x1.length c1_0), (2, .pointer (some ⟨g1, 0, none⟩)), (5, .slice s9a0 s9.1.length s9c0), (6, .int .i64 s9.2), (58, .bool j105)] ∧ St w0 [] wb [sl s9a0 s9c0 s9.1, bx g1 61 [.int .i64 x0.now, .slice a0_1 x0.parts.length c0_1]]) ?_ ?_
      · have h := hj105
        refine CW.draw (by kernel_rfl) ?_
        have hS16 := hS15.drew
        refine AW.u (i := 0) rfl (by kernel_rfl) rfl rfl (Pur.fa fo85_1 rfl) ?_
        refine AW.take (i := 1) rfl (by kernel_rfl) rfl rfl (Ldr.box (bt := 85) (fr := (0, 0)) (cs := [.int .i64 j26.1, .int .i64 j26.2.1, .int .i64 j26.2.2.1, .int .i64 j26.2.2.2.1, .int .i64 j26.2.2.2.2.1, .int .i64 j26.2.2.2.2.2.1, .int .i64 j26.2.2.2.2.2.2.1, .int .i64 j26.2.2.2.2.2.2.2.1, .int .i64 j26.2.2.2.2.2.2.2.2.1, .bool j26.2.2.2.2.2.2.2.2.2.1, .slice j26a1 j26.2.2.2.2.2.2.2.2.2.2.1.length j26c1, .slice j26a4 j26.2.2.2.2.2.2.2.2.2.2.2.1.length j26c4, .slice j26a7 j26.2.2.2.2.2.2.2.2.2.2.2.2.length j26c7]) ag3 rfl rfl) (St.cell (h := hS16) (i := 2) rfl) ?_
        refine AW.u (i := 2) rfl (by kernel_rfl) rfl rfl (Pur.p rfl) ?_
        refine AW.u (i := 3) rfl (by kernel_rfl) rfl rfl (Pur.p rfl) ?_
        rcases bcases (j26.2.1 != 0) with hc107 | hc107
        · replace h := bcT h hc107
          refine AW.u (i := 4) rfl (by kernel_rfl) (want_of rfl rfl hc107) rfl (Pur.fa fo85_0 rfl) ?_
          refine AW.take (i := 5) rfl (by kernel_rfl) (want_of rfl rfl hc107) rfl (Ldr.box (bt := 85) (fr := (0, 0)) (cs := [.int .i64 j26.1, .int .i64 j26.2.1, .int .i64 j26.2.2.1, .int .i64 j26.2.2.2.1, .int .i64 j26.2.2.2.2.1, .int .i64 j26.2.2.2.2.2.1, .int .i64 j26.2.2.2.2.2.2.1, .int .i64 j26.2.2.2.2.2.2.2.1, .int .i64 j26.2.2.2.2.2.2.2.2.1, .bool j26.2.2.2.2.2.2.2.2.2.1, .slice j26a1 j26.2.2.2.2.2.2.2.2.2.2.1.length j26c1, .slice j26a4 j26.2.2.2.2.2.2.2.2.2.2.2.1.length j26c4, .slice j26a7 j26.2.2.2.2.2.2.2.2.2.2.2.2.length j26c7]) ag3 rfl rfl) (St.cell (h := hS16) (i := 2) rfl) ?_
          refine AW.u (i := 6) rfl (by kernel_rfl) (want_of rfl rfl hc107) rfl (Pur.p rfl) ?_
          refine AW.u (i := 7) rfl (by kernel_rfl) (want_of rfl rfl hc107) rfl (Pur.p rfl) ?_
          refine AW.u (i := 8) rfl (by kernel_rfl) (want_of rfl rfl hc107) rfl (Pur.ix Tryz.underlying22 sz3 rfl rfl hp13 hq14) ?_
          refine AW.take (i := 9) rfl (by kernel_rfl) (want_of rfl rfl hc107) rfl (Ldr.old w0 ag3 rfl (hk19 0 _ rfl)) (hS16.same _ hb20.1 hb20.2) ?_
          replace ⟨y108, hy108, h⟩ := obind h
          have q := W_s_HandleGen (w0 := w104.drew) hy108
          refine AW.one (i := 10) (by kernel_rfl) ?_
          refine ⟨_, rfl, ?_⟩
          refine (LW.gY (want_of rfl rfl hc107) ?_)
          refine LW.call pl77 rfl rfl ?_
          refine Ret.mono q ?_
          rintro _ w109 ⟨rfl, hs⟩
          have hS17 := hS16.add hs
          refine LW.nil ⟨rfl, (.w (by kernel_rfl) (.c (St.cell (h := hS17) (i := 2) rfl) (.c (St.cell (h := hS17) (i := 2) rfl) Kept.n))), ?_⟩
          refine AW.u (i := 11) rfl (by kernel_rfl) (want_of rfl rfl hc107) rfl (Pur.p rfl) ?_
          refine AW.u (i := 12) rfl (by kernel_rfl) rfl rfl (Pur.pickT rfl hc107) ?_
          refine AW.done (by kernel_rfl) ?_
          cases oi h
          exact ⟨⟨rfl, rfl, rfl, rfl, rfl, trivial⟩, hS17.pick [0, 1] rfl rfl⟩
        replace h := bcF h hc107
        refine AW.no (i := 4) rfl (by kernel_rfl) (want_not rfl rfl hc107) rfl ?_
        refine AW.no (i := 5) rfl (by kernel_rfl) (want_not rfl rfl hc107) rfl ?_
        refine AW.no (i := 6) rfl (by kernel_rfl) (want_not rfl rfl hc107) rfl ?_
        refine AW.no (i := 7) rfl (by kernel_rfl) (want_not rfl rfl hc107) rfl ?_
        refine AW.no (i := 8) rfl (by kernel_rfl) (want_not rfl rfl hc107) rfl ?_
        refine AW.no (i := 9) rfl (by kernel_rfl) (want_not rfl rfl hc107) rfl ?_
        refine AW.no (i := 10) rfl (by kernel_rfl) (want_not rfl rfl hc107) rfl ?_
        refine AW.no (i := 11) rfl (by kernel_rfl) (want_not rfl rfl hc107) rfl ?_
        refine AW.u (i := 12) rfl (by kernel_rfl) rfl rfl (Pur.pickF rfl hc107) ?_
        refine AW.done (by kernel_rfl) ?_
        cases oi h
        exact ⟨⟨rfl, rfl, rfl, rfl, rfl, trivial⟩, hS16.pick [0, 1] rfl rfl⟩
      rintro e w110 ⟨hE, hS18⟩
      obtain ⟨e, rfl⟩ := hE.out
      have h := h106
      refine go ?_
      refine CW.cond rfl (fun hc111 => ?_) (fun hc111 => ?_)
      · replace h := bcT h hc111
        refine go ?_
        refine LW.u (Pur.ix Tryz.underlying22 sz3 rfl rfl hp13 hq14) rfl ?_
        refine LW.l (Ldr.old w0 ag3 rfl (hk19 0 _ rfl)) (hS18.same _ hb20.1 hb20.2) rfl ?_
        replace ⟨y112, hy112, h⟩ := obind h
        refine LW.app1 (M := []) (L := [sl s9a0 s9c0 s9.1, bx g1 61 [.int .i64 x0.now, .slice a0_1 x0.parts.length c0_1]]) (vs := #[.int .i64 y12]) (i := 0) sT22 rfl (by kernel_rfl) rfl rfl hy112 hS18 rfl (fun w G hG => by cases (show G = [] from hG); exact ⟨rfl, rfl⟩) rfl rfl ?_
        intro v115 a113 c114 w116 hS19 hf
        refine go ?_
        cases oi h
        exact ⟨rfl, ⟨a113, c114, ⟨rfl, rfl, rfl, rfl, trivial⟩, hS19.pick [0, 1] rfl rfl⟩⟩
      replace h := bcF h hc111
      refine go ?_
      cases oi h
      exact ⟨rfl, ⟨s9a0, s9c0, ⟨rfl, rfl, rfl, rfl, trivial⟩, hS18.pick [0, 1] rfl rfl⟩⟩
    replace h := bcF h hc11
    refine go ?_
    cases oi h
    exact ⟨trivial, rfl, ⟨s9a0, s9c0, ⟨rfl, trivial⟩, hS5.pick [0, 1] rfl rfl⟩⟩
  intro x e w119 hM
  obtain ⟨rfl, hM⟩ := hM
  obtain ⟨s9a0, s9c0, hE, hS20⟩ := hM
  obtain ⟨e, rfl⟩ := hE.out
  have h := h118
  refine go ?_
  cases h
  exact And.intro trivial ⟨_, Res.one (resOne.t rfl), s9a0, s9c0, rfl, hS20.pick [0] rfl rfl⟩

theorem W_i_HandlePart {w0 : World} {N : Nat} {x0 : Int} {r : Int} (h : F_i_HandlePart N x0 = some r) :
    Ret Tryz.prog 78 #[.int .i64 x0] w0 (fun v w => v = .int .i64 r ∧ St w0 [] w []) := by
  unfold F_i_HandlePart at h
  refine Ret.fn Tryz.func78 fun e => ?_
  have hS1 := St.start w0
  refine go ?_
  replace ⟨y1, hy1, h⟩ := obind h
  refine LW.c0 (W_i_isHandle hy1) hS1 fun w2 hS2 => ?_
  refine go ?_
  refine CW.cond rfl (fun hc3 => ?_) (fun hc3 => ?_)
  · replace h := bcT h hc3
    refine go ?_
    cases h
    exact And.intro trivial ⟨_, Res.one (resOne.t rfl), rfl, hS2.pick [] rfl rfl⟩
  replace h := bcF h hc3
  refine go ?_
  refine LW.u (Pur.rem rfl rfl (by decide)) rfl ?_
  refine go ?_
  cases h
  exact And.intro trivial ⟨_, Res.one (resOne.t rfl), rfl, hS2.pick [] rfl rfl⟩

theorem W_i_hasPart {w0 : World} {N : Nat} {x0 : DWorld} {x1 : Int} {r : Bool} (h : F_i_hasPart N x0 x1 = some r) {a0_1 : Option Addr} {n0_1 c0_1 : Nat} (hn0_1 : n0_1 = x0.parts.length) (hr0_1 : rdS (Bor w0 []) w0 a0_1 c0_1 x0.parts) :
    Ret Tryz.prog 79 #[.agg #[.int .i64 x0.now, .slice a0_1 n0_1 c0_1], .int .i64 x1] w0 (fun v w => v = .bool r ∧ St w0 [] w []) := by
  subst hn0_1
  unfold F_i_hasPart at h
  refine Ret.fn Tryz.func79 fun e => ?_
  have hS1 := St.start w0
  refine go ?_
  refine LW.bo hS1 fun g1 w2 hS2 => ?_
  refine go ?_
  replace ⟨y3, hy3, h⟩ := obind h
  refine LW.c0 (W_i_within hy3) hS2 fun w4 hS3 => ?_
  refine go ?_
  cases h
  exact And.intro trivial ⟨_, Res.one (resOne.t rfl), rfl, hS3.pick [] rfl rfl⟩

theorem W_i_HandleSlot {w0 : World} {N : Nat} {x0 : Int} {r : Int} (h : F_i_HandleSlot N x0 = some r) :
    Ret Tryz.prog 80 #[.int .i64 x0] w0 (fun v w => v = .int .i64 r ∧ St w0 [] w []) := by
  unfold F_i_HandleSlot at h
  refine Ret.fn Tryz.func80 fun e => ?_
  have hS1 := St.start w0
  refine go ?_
  replace ⟨y1, hy1, h⟩ := obind h
  refine LW.c0 (W_i_isHandle hy1) hS1 fun w2 hS2 => ?_
  refine go ?_
  refine CW.cond rfl (fun hc3 => ?_) (fun hc3 => ?_)
  · replace h := bcT h hc3
    refine go ?_
    cases h
    exact And.intro trivial ⟨_, Res.one (resOne.t rfl), rfl, hS2.pick [] rfl rfl⟩
  replace h := bcF h hc3
  refine go ?_
  refine LW.u (Pur.quo rfl rfl (by decide)) rfl ?_
  refine LW.u (Pur.rem rfl rfl (by decide)) rfl ?_
  refine go ?_
  cases h
  exact And.intro trivial ⟨_, Res.one (resOne.t rfl), rfl, hS2.pick [] rfl rfl⟩

theorem W_i_HandleGen {w0 : World} {N : Nat} {x0 : Int} {r : Int} (h : F_i_HandleGen N x0 = some r) :
    Ret Tryz.prog 81 #[.int .i64 x0] w0 (fun v w => v = .int .i64 r ∧ St w0 [] w []) := by
  unfold F_i_HandleGen at h
  refine Ret.fn Tryz.func81 fun e => ?_
  have hS1 := St.start w0
  refine go ?_
  replace ⟨y1, hy1, h⟩ := obind h
  refine LW.c0 (W_i_isHandle hy1) hS1 fun w2 hS2 => ?_
  refine go ?_
  refine CW.cond rfl (fun hc3 => ?_) (fun hc3 => ?_)
  · replace h := bcT h hc3
    refine go ?_
    cases h
    exact And.intro trivial ⟨_, Res.one (resOne.t rfl), rfl, hS2.pick [] rfl rfl⟩
  replace h := bcF h hc3
  refine go ?_
  refine LW.u (Pur.quo rfl rfl (by decide)) rfl ?_
  refine LW.u (Pur.quo rfl rfl (by decide)) rfl ?_
  refine go ?_
  cases h
  exact And.intro trivial ⟨_, Res.one (resOne.t rfl), rfl, hS2.pick [] rfl rfl⟩

theorem W_i_StillThere {w0 : World} {N : Nat} {x0 : DWorld} {x1 : List Int} {r : (List Int)} (h : F_i_StillThere N x0 x1 = some r) {a0_1 : Option Addr} {n0_1 c0_1 : Nat} (hn0_1 : n0_1 = x0.parts.length) (hr0_1 : rdS (Bor w0 []) w0 a0_1 c0_1 x0.parts) {a1_0 : Option Addr} {n1_0 c1_0 : Nat} (hn1_0 : n1_0 = x1.length) (hr1_0 : rdS (Bor w0 []) w0 a1_0 c1_0 x1) :
    Ret Tryz.prog 29 #[.agg #[.int .i64 x0.now, .slice a0_1 n0_1 c0_1], .slice a1_0 n1_0 c1_0] w0 (fun v w => ∃ ar0 cr0, v = .slice ar0 r.length cr0 ∧ St w0 [] w [sl ar0 cr0 r]) := by
  subst hn0_1 hn1_0
  unfold F_i_StillThere at h
  refine Ret.fn Tryz.func29 fun e => ?_
  have hS1 := St.start w0
  refine go ?_
  refine LW.bo hS1 fun g1 w2 hS2 => ?_
  refine go ?_
  refine LW.bsl (α := Int) (vs := []) (cs := #[]) (l := ([] : List Int)) rfl (by kernel_rfl) rfl rfl rfl (fun w => rfl) hS2 rfl ?_
  intro a3 c4 w5 hS3 hf
  refine go ?_
  replace ⟨y6, hy6, h⟩ := obind h
  refine LW.c0 (W_i_WorldOk hy6 rfl (hS3.rB hr0_1)) hS3 fun w7 hS4 => ?_
  refine go ?_
  refine CW.cond rfl (fun hc8 => ?_) (fun hc8 => ?_)
  · replace h := bcT h hc8
    refine go ?_
    cases h
    exact And.intro trivial ⟨_, Res.one (resOne.t rfl), a3, c4, rfl, hS4.pick [0] rfl rfl⟩
  replace h := bcF h hc8
  refine go ?_
  obtain ⟨o117, ho117, h118⟩ := obind h
  refine CW.mono (CW.iter (σ := (List Int) × Int) (ρ := (List Int) × Int) (fun s9 e wb => ∃ (s9a0 : Option Addr), ∃ (s9c0 : Nat), En e [(2, .pointer (some ⟨g1, 0, none⟩)), (5, .slice s9a0 s9.1.length s9c0), (15, .slice a1_0 x1.length c1_0), (16, .int .i64 (x1.length : Int)), (17, .int .i64 s9.2)] ∧ St w0 [] wb [sl s9a0 s9c0 s9.1, bx g1 61 [.int .i64 x0.now, .slice a0_1 x0.parts.length c0_1]]) (fun s9 x e wb => x = .exit 0 ∧ ∃ (s9a0 : Option Addr), ∃ (s9c0 : Nat), En e [(5, .slice s9a0 s9.1.length s9c0)] ∧ St w0 [] wb [sl s9a0 s9c0 s9.1, bx g1 61 [.int .i64 x0.now, .slice a0_1 x0.parts.length c0_1]]) ?_ N (([] : List Int), 0) _ _ _ ⟨a3, c4, ⟨rfl, rfl, rfl, rfl, rfl, trivial⟩, hS4.pick [0, 1] rfl rfl⟩ ho117) ?_
  · intro s9 e w10 o hM h
    obtain ⟨s9a0, s9c0, hE, hS5⟩ := hM
    obtain ⟨e, rfl⟩ := hE.out
    refine go ?_
    refine CW.cond rfl (fun hc11 => ?_) (fun hc11 => ?_)
    · replace h := bcT h hc11
      refine go ?_
      replace ⟨y12, hy12, h⟩ := obind h
      obtain ⟨b15, o16, cs17, hae, hb20, hp13, hq14, hd18, hk19⟩ := hr1_0.idx hy12
      subst hae
      obtain rfl := hd18
      refine LW.u (Pur.ix Tryz.underlying22 sz3 rfl rfl hp13 hq14) rfl ?_
      refine LW.l (Ldr.old w0 ag3 rfl (hk19 0 _ rfl)) (hS5.same _ hb20.1 hb20.2) rfl ?_
      refine go ?_
      replace ⟨y21, hy21, h⟩ := obind h
      refine LW.c0 (W_i_HandlePart hy21) hS5 fun w22 hS6 => ?_
      refine go ?_
      replace ⟨y23, hy23, h⟩ := obind h
      refine LW.c0 (W_i_hasPart hy23 rfl (hS6.rB hr0_1)) hS6 fun w24 hS7 => ?_
      refine go ?_
      refine CW.fl [2, 5, 7, 8, 15, 16, 17, 26] fun e => ?_
      refine CW.cond rfl (fun hc25 => ?_) (fun hc25 => ?_)
      · replace h := bcT h hc25
        refine go ?_
        cases oi h
        exact ⟨rfl, ⟨s9a0, s9c0, ⟨rfl, rfl, rfl, rfl, rfl, trivial⟩, hS7.pick [0, 1] rfl rfl⟩⟩
      replace h := bcF h hc25
      refine gs ?_
      obtain ⟨j26, hj26, h27⟩ := obind h
      refine CW.cut (fun e wb => ∃ (j26g9 : Nat), ∃ (j26a1 : Option Addr), ∃ (j26c1 : Nat), ∃ (j26h1 : rdS (Bor w0 []) w0 j26a1 j26c1 j26.2.2.2.2.2.2.2.2.2.2.1), ∃ (j26a4 : Option Addr), ∃ (j26c4 : Nat), ∃ (j26h4 : rdS (Bor w0 []) w0 j26a4 j26c4 j26.2.2.2.2.2.2.2.2.2.2.2.1), ∃ (j26a7 : Option Addr), ∃ (j26c7 : Nat), ∃ (j26h7 : rdS (Bor w0 []) w0 j26a7 j26c7 j26.2.2.2.2.2.2.2.2.2.2.2.2), En e [(2, .pointer (some ⟨g1, 0, none⟩)), (5, .slice s9a0 s9.1.length s9c0), (7, .int .i64 y12), (9, .pointer (some ⟨j26g9, 0, none⟩)), (15, .slice (some ⟨b15, o16, none⟩) x1.length c1_0), (16, .int .i64 (x1.length : Int)), (17, .int .i64 s9.2)] ∧ St w0 [] wb [sl s9a0 s9c0 s9.1, bx g1 61 [.int .i64 x0.now, .slice a0_1 x0.parts.length c0_1], bx j26g9 85 [.int .i64 j26.1, .int .i64 j26.2.1, .int .i64 j26.2.2.1, .int .i64 j26.2.2.2.1, .int .i64 j26.2.2.2.2.1, .int .i64 j26.2.2.2.2.2.1, .int .i64 j26.2.2.2.2.2.2.1, .int .i64 j26.2.2.2.2.2.2.2.1, .int .i64 j26.2.2.2.2.2.2.2.2.1, .bool j26.2.2.2.2.2.2.2.2.2.1, .slice j26a1 j26.2.2.2.2.2.2.2.2.2.2.1.length j26c1, .slice j26a4 j26.2.2.2.2.2.2.2.2.2.2.2.1.length j26c4, .slice j26a7 j26.2.2.2.2.2.2.2.2.2.2.2.2.length j26c7]]) ?_ ?_
      · have h := hj26
        refine CW.draw (by kernel_rfl) ?_
        have hS8 := hS7.drew
        refine AW.u (i := 0) rfl (by kernel_rfl) rfl rfl (Pur.fa fo61_1 rfl) ?_
        refine AW.take (i := 1) rfl (by kernel_rfl) rfl rfl (Ldr.box (bt := 61) (fr := (0, 0)) (cs := [.int .i64 x0.now, .slice a0_1 x0.parts.length c0_1]) ag59 rfl rfl) (St.cell (h := hS8) (i := 1) rfl) ?_
        refine AW.u (i := 2) rfl (by kernel_rfl) rfl rfl (Pur.p rfl) ?_
        replace ⟨y28, hy28, h⟩ := obind h
        obtain ⟨b31, o32, cs33, hae, hb36, hp29, hq30, hd34, hk35⟩ := hr0_1.idx hy28
        subst hae
        obtain ⟨a37, c38, a40, c41, a43, c44, a46, c47, a49, c50, a52, c53, rfl, hr39, hr42, hr45, hr48, hr51, hr54⟩ := hd34
        refine AW.u (i := 3) rfl (by kernel_rfl) rfl rfl (Pur.ix Tryz.underlying59 sz47 rfl rfl hp29 hq30) ?_
        refine AW.u (i := 4) rfl (by kernel_rfl) rfl rfl (Pur.fa fo47_3 rfl) ?_
        refine AW.u (i := 5) rfl (by kernel_rfl) rfl rfl (Pur.fa fo43_0 rfl) ?_
        refine AW.take (i := 6) rfl (by kernel_rfl) rfl rfl (Ldr.old w0 ag40 rfl (hk35 3 _ rfl)) (hS8.same _ hb36.1 hb36.2) ?_
        refine AW.u (i := 7) rfl (by kernel_rfl) rfl rfl (Pur.p rfl) ?_
        replace ⟨y55, hy55, h⟩ := obind h
        refine AW.all (rs := [8, 11]) (by kernel_rfl) (by simp) ⟨?_, ?_, trivial⟩
        · have q := W_i_HandleSlot (w0 := w24.drew) hy55
          refine ⟨_, rfl, ?_⟩
          refine LW.call pl80 rfl rfl ?_
          refine Ret.mono q ?_
          rintro _ w60 ⟨rfl, hs⟩
          have hS9 := hS8.add hs
          refine LW.nil ⟨rfl, (.c (hS9.same _ hb36.1 hb36.2) (.c (St.cell (h := hS9) (i := 1) rfl) Kept.n)), ?_⟩
          replace ⟨y61, hy61, h⟩ := obind h
          obtain ⟨b64, o65, cs66, hae, hb69, hp62, hq63, hd67, hk68⟩ := hr48.idx hy61
          subst hae
          obtain ⟨a70, c71, a73, c74, a76, c77, rfl, hr72, hr75, hr78⟩ := hd67
          refine AW.u (i := 9) rfl (by kernel_rfl) rfl rfl (Pur.ix Tryz.underlying40 sz85 rfl rfl hp62 hq63) ?_
          refine AW.take (i := 10) rfl (by kernel_rfl) rfl rfl (Ldr.oldN w0 ag85 rfl rfl (fun j u hu => hk68 j u hu)) (hS9.same _ hb69.1 hb69.2) ?_
          refine AW.one (i := 11) (by kernel_rfl) ?_
          refine ⟨_, rfl, ?_⟩
          refine LW.al hS9 fun g79 w80 hS10 => ?_
          refine LW.nil ⟨rfl, (.c (hS10.same _ hb69.1 hb69.2) (.c (hS10.same _ hb36.1 hb36.2) (.c (St.cell (h := hS10) (i := 2) rfl) Kept.n))), ?_⟩
          refine AW.one (i := 12) (by kernel_rfl) ?_
          refine ⟨_, rfl, ?_⟩
          refine LW.st hS10 0 fun w81 hS11 => ?_
          refine LW.nil ⟨rfl, (.w (by kernel_rfl) (.w (by kernel_rfl) (.w (by kernel_rfl) Kept.n))), ?_⟩
          refine AW.done (by kernel_rfl) ?_
          cases oi h
          exact ⟨g79, a70, c71, hr72, a73, c74, hr75, a76, c77, hr78, ⟨rfl, rfl, rfl, rfl, rfl, rfl, rfl, trivial⟩, hS11.pick [1, 2, 0] rfl rfl⟩
        refine ⟨_, rfl, ?_⟩
        refine LW.al hS8 fun g82 w83 hS12 => ?_
        refine LW.nil ⟨rfl, (.c (hS12.same _ hb36.1 hb36.2) (.c (St.cell (h := hS12) (i := 2) rfl) Kept.n)), ?_⟩
        have q := W_i_HandleSlot (w0 := w83) hy55
        refine AW.one (i := 8) (by kernel_rfl) ?_
        refine ⟨_, rfl, ?_⟩
        refine LW.call pl80 rfl rfl ?_
        refine Ret.mono q ?_
        rintro _ w84 ⟨rfl, hs⟩
        have hS13 := hS12.add hs
        refine LW.nil ⟨rfl, (.c (hS13.same _ hb36.1 hb36.2) (.c (St.cell (h := hS13) (i := 2) rfl) Kept.n)), ?_⟩
        replace ⟨y85, hy85, h⟩ := obind h
        obtain ⟨b88, o89, cs90, hae, hb93, hp86, hq87, hd91, hk92⟩ := hr48.idx hy85
        subst hae
        obtain ⟨a94, c95, a97, c98, a100, c101, rfl, hr96, hr99, hr102⟩ := hd91
        refine AW.u (i := 9) rfl (by kernel_rfl) rfl rfl (Pur.ix Tryz.underlying40 sz85 rfl rfl hp86 hq87) ?_
        refine AW.take (i := 10) rfl (by kernel_rfl) rfl rfl (Ldr.oldN w0 ag85 rfl rfl (fun j u hu => hk92 j u hu)) (hS13.same _ hb93.1 hb93.2) ?_
        refine AW.one (i := 12) (by kernel_rfl) ?_
        refine ⟨_, rfl, ?_⟩
        refine LW.st hS13 0 fun w103 hS14 => ?_
        refine LW.nil ⟨rfl, (.w (by kernel_rfl) (.w (by kernel_rfl) (.w (by kernel_rfl) Kept.n))), ?_⟩
        refine AW.done (by kernel_rfl) ?_
        cases oi h
        exact ⟨g82, a94, c95, hr96, a97, c98, hr99, a100, c101, hr102, ⟨rfl, rfl, rfl, rfl, rfl, rfl, rfl, trivial⟩, hS14.pick [1, 2, 0] rfl rfl⟩
      rintro e w104 ⟨j26g9, j26a1, j26c1, j26h1, j26a4, j26c4, j26h4, j26a7, j26c7, j26h7, hE, hS15⟩
      obtain ⟨e, rfl⟩ := hE.out
      have h := h27
      refine gs ?_
      obtain ⟨j105, hj105, h106⟩ := obind h
      refine CW.cut (fun e wb => En e [(2, .pointer (some ⟨g1, 0, none⟩)), (5, .slice s9a0 s9.1.length s9c0), (7, .int .i64 y12), (15, .slice (some ⟨b15, o16, none⟩) x1.length c1_0), (16, .int .i64 (x1.length : Int)), (17, .int .i64 s9.2), (47, .bool j105)] ∧ St w0 [] wb [sl s9a0 s9c0 s9.1, bx g1 61 [.int .i64 x0.now, .slice a0_1 x0.parts.length c0_1]]) ?_ ?_
      · have h := hj105
        refine CW.draw (by kernel_rfl) ?_
        have hS16 := hS15.drew
        refine AW.u (i := 0) rfl (by kernel_rfl) rfl rfl (Pur.fa fo85_1 rfl) ?_
        refine AW.take (i := 1) rfl (by kernel_rfl) rfl rfl (Ldr.box (bt := 85) (fr := (0, 0)) (cs := [.int .i64 j26.1, .int .i64 j26.2.1, .int .i64 j26.2.2.1, .int .i64 j26.2.2.2.1, .int .i64 j26.2.2.2.2.1, .int .i64 j26.2.2.2.2.2.1, .int .i64 j26.2.2.2.2.2.2.1, .int .i64 j26.2.2.2.2.2.2.2.1, .int .i64 j26.2.2.2.2.2.2.2.2.1, .bool j26.2.2.2.2.2.2.2.2.2.1, .slice j26a1 j26.2.2.2.2.2.2.2.2.2.2.1.length j26c1, .slice j26a4 j26.2.2.2.2.2.2.2.2.2.2.2.1.length j26c4, .slice j26a7 j26.2.2.2.2.2.2.2.2.2.2.2.2.length j26c7]) ag3 rfl rfl) (St.cell (h := hS16) (i := 2) rfl) ?_
        refine AW.u (i := 2) rfl (by kernel_rfl) rfl rfl (Pur.p rfl) ?_
        refine AW.u (i := 3) rfl (by kernel_rfl) rfl rfl (Pur.p rfl) ?_
        rcases bcases (j26.2.1 != 0) with hc107 | hc107
        · replace h := bcT h hc107
          refine AW.u (i := 4) rfl (by kernel_rfl) (want_of rfl rfl hc107) rfl (Pur.fa fo85_0 rfl) ?_
          refine AW.take (i := 5) rfl (by kernel_rfl) (want_of rfl rfl hc107) rfl (Ldr.box (bt := 85) (fr := (0, 0)) (cs := [.int .i64 j26.1, .int .i64 j26.2.1, .int .i64 j26.2.2.1, .int .i64 j26.2.2.2.1, .int .i64 j26.2.2.2.2.1, .int .i64 j26.2.2.2.2.2.1, .int .i64 j26.2.2.2.2.2.2.1, .int .i64 j26.2.2.2.2.2.2.2.1, .int .i64 j26.2.2.2.2.2.2.2.2.1, .bool j26.2.2.2.2.2.2.2.2.2.1, .slice j26a1 j26.2.2.2.2.2.2.2.2.2.2.1.length j26c1, .slice j26a4 j26.2.2.2.2.2.2.2.2.2.2.2.1.length j26c4, .slice j26a7 j26.2.2.2.2.2.2.2.2.2.2.2.2.length j26c7]) ag3 rfl rfl) (St.cell (h := hS16) (i := 2) rfl) ?_
          refine AW.u (i := 6) rfl (by kernel_rfl) (want_of rfl rfl hc107) rfl (Pur.p rfl) ?_
          replace ⟨y108, hy108, h⟩ := obind h
          have q := W_i_HandleGen (w0 := w104.drew) hy108
          refine AW.one (i := 7) (by kernel_rfl) ?_
          refine ⟨_, rfl, ?_⟩
          refine (LW.gY (want_of rfl rfl hc107) ?_)
          refine LW.call pl81 rfl rfl ?_
          refine Ret.mono q ?_
          rintro _ w109 ⟨rfl, hs⟩
          have hS17 := hS16.add hs
          refine LW.nil ⟨rfl, (.c (St.cell (h := hS17) (i := 2) rfl) (.c (St.cell (h := hS17) (i := 2) rfl) Kept.n)), ?_⟩
          refine AW.u (i := 8) rfl (by kernel_rfl) (want_of rfl rfl hc107) rfl (Pur.p rfl) ?_
          refine AW.u (i := 9) rfl (by kernel_rfl) rfl rfl (Pur.pickT rfl hc107) ?_
          refine AW.done (by kernel_rfl) ?_
          cases oi h
          exact ⟨⟨rfl, rfl, rfl, rfl, rfl, rfl, rfl, trivial⟩, hS17.pick [0, 1] rfl rfl⟩
        replace h := bcF h hc107
        refine AW.no (i := 4) rfl (by kernel_rfl) (want_not rfl rfl hc107) rfl ?_
        refine AW.no (i := 5) rfl (by kernel_rfl) (want_not rfl rfl hc107) rfl ?_
        refine AW.no (i := 6) rfl (by kernel_rfl) (want_not rfl rfl hc107) rfl ?_
        refine AW.no (i := 7) rfl (by kernel_rfl) (want_not rfl rfl hc107) rfl ?_
        refine AW.no (i := 8) rfl (by kernel_rfl) (want_not rfl rfl hc107) rfl ?_
        refine AW.u (i := 9) rfl (by kernel_rfl) rfl rfl (Pur.pickF rfl hc107) ?_
        refine AW.done (by kernel_rfl) ?_
        cases oi h
        exact ⟨⟨rfl, rfl, rfl, rfl, rfl, rfl, rfl, trivial⟩, hS16.pick [0, 1] rfl rfl⟩
      rintro e w110 ⟨hE, hS18⟩
      obtain ⟨e, rfl⟩ := hE.out
      have h := h106
      refine go ?_
      refine CW.cond rfl (fun hc111 => ?_) (fun hc111 => ?_)
      · replace h := bcT h hc111
        refine go ?_
        replace ⟨y112, hy112, h⟩ := obind h
        refine LW.app1 (M := []) (L := [sl s9a0 s9c0 s9.1, bx g1 61 [.int .i64 x0.now, .slice a0_1 x0.parts.length c0_1]]) (vs := #[.int .i64 y12]) (i := 0) sT22 rfl (by kernel_rfl) rfl rfl hy112 hS18 rfl (fun w G hG => by cases (show G = [] from hG); exact ⟨rfl, rfl⟩) rfl rfl ?_
        intro v115 a113 c114 w116 hS19 hf
        refine go ?_
        cases oi h
        exact ⟨rfl, ⟨a113, c114, ⟨rfl, rfl, rfl, rfl, rfl, trivial⟩, hS19.pick [0, 1] rfl rfl⟩⟩
      replace h := bcF h hc111
      refine go ?_
      cases oi h
      exact ⟨rfl, ⟨s9a0, s9c0, ⟨rfl, rfl, rfl, rfl, rfl, trivial⟩, hS18.pick [0, 1] rfl rfl⟩⟩
    replace h := bcF h hc11
    refine go ?_
    cases oi h
    exact ⟨trivial, rfl, ⟨s9a0, s9c0, ⟨rfl, trivial⟩, hS5.pick [0, 1] rfl rfl⟩⟩
  intro x e w119 hM
  obtain ⟨rfl, hM⟩ := hM
  obtain ⟨s9a0, s9c0, hE, hS20⟩ := hM
  obtain ⟨e, rfl⟩ := hE.out
  have h := h118
  refine go ?_
  cases h
  exact And.intro trivial ⟨_, Res.one (resOne.t rfl), s9a0, s9c0, rfl, hS20.pick [0] rfl rfl⟩

theorem W_l_FnExactStillThere {w0 : World} {N : Nat} {x0 : DWorld} {x1 : List Int} {r : Bool} (h : F_l_FnExactStillThere N x0 x1 = some r) {a0_1 : Option Addr} {n0_1 c0_1 : Nat} (hn0_1 : n0_1 = x0.parts.length) (hr0_1 : rdS (Bor w0 []) w0 a0_1 c0_1 x0.parts) {a1_0 : Option Addr} {n1_0 c1_0 : Nat} (hn1_0 : n1_0 = x1.length) (hr1_0 : rdS (Bor w0 []) w0 a1_0 c1_0 x1) :
    Ret Tryz.prog 6 #[.agg #[.int .i64 x0.now, .slice a0_1 n0_1 c0_1], .slice a1_0 n1_0 c1_0] w0 (fun v w => v = .bool r ∧ St w0 [] w []) := by
  subst hn0_1 hn1_0
  unfold F_l_FnExactStillThere at h
  refine Ret.fn Tryz.func6 fun e => ?_
  have hS1 := St.start w0
  refine go ?_
  refine LW.bo hS1 fun g1 w2 hS2 => ?_
  refine go ?_
  refine CW.cond rfl (fun hc3 => ?_) (fun hc3 => ?_)
  · replace h := bcT h hc3
    refine go ?_
    cases h
    exact And.intro trivial ⟨_, Res.one (resOne.t rfl), rfl, hS2.pick [] rfl rfl⟩
  replace h := bcF h hc3
  refine go ?_
  replace ⟨y4, hy4, h⟩ := obind h
  refine LW.c0 (W_l_szWorld hy4 rfl (hS2.rB hr0_1)) hS2 fun w5 hS3 => ?_
  refine go ?_
  refine CW.cond rfl (fun hc6 => ?_) (fun hc6 => ?_)
  · replace h := bcT h hc6
    refine go ?_
    cases h
    exact And.intro trivial ⟨_, Res.one (resOne.t rfl), rfl, hS3.pick [] rfl rfl⟩
  replace h := bcF h hc6
  refine go ?_
  replace ⟨y7, hy7, h⟩ := obind h
  refine LW.cl (W_l_toWorld hy7 rfl (hS3.rB hr0_1)) ?_
  rintro _ w10 ⟨a8, c9, rfl, hs⟩
  have hS4 := hS3.add hs
  refine go ?_
  replace ⟨y11, hy11, h⟩ := obind h
  refine LW.cl (W_l_toIntS hy11 rfl (hS4.rB hr1_0)) ?_
  rintro _ w14 ⟨a12, c13, rfl, hs⟩
  have hS5 := hS4.add hs
  replace ⟨y15, hy15, h⟩ := obind h
  refine LW.cl (W_s_StillThere hy15 rfl (hS5.rI 1 rfl) rfl (hS5.rI 0 rfl)) ?_
  rintro _ w18 ⟨a16, c17, rfl, hs⟩
  have hS6 := hS5.add hs
  refine go ?_
  replace ⟨y19, hy19, h⟩ := obind h
  refine LW.cl (W_l_toWorld hy19 rfl (hS6.rB hr0_1)) ?_
  rintro _ w22 ⟨a20, c21, rfl, hs⟩
  have hS7 := hS6.add hs
  refine LW.al hS7 fun g23 w24 hS8 => ?_
  refine LW.st hS8 0 fun w25 hS9 => ?_
  refine go ?_
  replace ⟨y26, hy26, h⟩ := obind h
  refine LW.cl (W_l_toIntS hy26 rfl (hS9.rB hr1_0)) ?_
  rintro _ w29 ⟨a27, c28, rfl, hs⟩
  have hS10 := hS9.add hs
  refine go ?_
  refine LW.fl [1, 2, 6, 7, 8, 31, 32] fun e => ?_
  replace ⟨y30, hy30, h⟩ := obind h
  refine LW.cl (W_i_StillThere hy30 rfl (hS10.rI 2 rfl) rfl (hS10.rI 0 rfl)) ?_
  rintro _ w33 ⟨a31, c32, rfl, hs⟩
  have hS11 := hS10.add hs
  refine go ?_
  replace ⟨y34, hy34, h⟩ := obind h
  refine LW.c0 (W_l_eqIntS hy34 rfl (hS11.rI 0 rfl) rfl (hS11.rI 4 rfl)) hS11 fun w35 hS12 => ?_
  refine go ?_
  refine CW.cond rfl (fun hc36 => ?_) (fun hc36 => ?_)
  · replace h := bcT h hc36
    refine go ?_
    cases h
    exact And.intro trivial ⟨_, Res.one (resOne.t rfl), rfl, hS12.pick [] rfl rfl⟩
  replace h := bcF h hc36
  refine go ?_
  refine CW.draw (by kernel_rfl) ?_
  have hS13 := hS12.drew
  refine AW.take (i := 0) rfl (by kernel_rfl) rfl rfl (Ldr.boxN (bt := 61) (fr := (0, 0)) (cs := [.int .i64 y19.now, .slice a20 y19.parts.length c21]) ag61 rfl rfl) (St.cell (h := hS13) (i := 2) rfl) ?_
  refine AW.take (i := 1) rfl (by kernel_rfl) rfl rfl (Ldr.boxN (bt := 56) (fr := (0, 0)) (cs := [.int .i64 x0.now, .slice a0_1 x0.parts.length c0_1]) ag56 rfl rfl) (St.cell (h := hS13) (i := 7) rfl) ?_
  replace ⟨y37, hy37, h⟩ := obind h
  have q := W_l_toWorld (w0 := w35.drew) hy37 rfl (hS13.rB hr0_1)
  refine AW.one (i := 2) (by kernel_rfl) ?_
  refine ⟨_, rfl, ?_⟩
  refine LW.call pl19 rfl rfl ?_
  refine Ret.mono q ?_
  rintro _ w40 ⟨a38, c39, rfl, hs⟩
  have hS14 := hS13.add hs
  refine LW.nil ⟨rfl, (.w (by kernel_rfl) (.c (St.cell (h := hS14) (i := 3) rfl) Kept.n)), ?_⟩
  replace ⟨y41, hy41, h⟩ := obind h
  have q := W_l_eqWorld (w0 := w40) hy41 rfl (hS14.rI 4 rfl) rfl (hS14.rI 0 rfl)
  refine AW.one (i := 3) (by kernel_rfl) ?_
  refine ⟨_, rfl, ?_⟩
  refine LW.call pl21 rfl rfl ?_
  refine Ret.mono q ?_
  rintro _ w42 ⟨rfl, hs⟩
  have hS15 := hS14.add hs
  refine LW.nil ⟨rfl, (.c (St.cell (h := hS15) (i := 8) rfl) (.w (by kernel_rfl) Kept.n)), ?_⟩
  refine AW.u (i := 4) rfl (by kernel_rfl) rfl rfl (Pur.p rfl) ?_
  refine AW.done (by kernel_rfl) ?_
  refine go ?_
  refine CW.cond rfl (fun hc43 => ?_) (fun hc43 => ?_)
  · replace h := bcT h hc43
    refine go ?_
    cases h
    exact And.intro trivial ⟨_, Res.one (resOne.t rfl), rfl, hS15.pick [] rfl rfl⟩
  replace h := bcF h hc43
  refine go ?_
  replace ⟨y44, hy44, h⟩ := obind h
  refine LW.cl (W_l_toIntS hy44 rfl (hS15.rB hr1_0)) ?_
  rintro _ w47 ⟨a45, c46, rfl, hs⟩
  have hS16 := hS15.add hs
  replace ⟨y48, hy48, h⟩ := obind h
  refine LW.c0 (W_l_eqIntS hy48 rfl (hS16.rI 3 rfl) rfl (hS16.rI 0 rfl)) hS16 fun w49 hS17 => ?_
  refine go ?_
  refine CW.cond rfl (fun hc50 => ?_) (fun hc50 => ?_)
  · replace h := bcT h hc50
    refine go ?_
    cases h
    exact And.intro trivial ⟨_, Res.one (resOne.t rfl), rfl, hS17.pick [] rfl rfl⟩
  replace h := bcF h hc50
  refine go ?_
  replace ⟨y51, hy51, h⟩ := obind h
  obtain ⟨q54, hy51', hq55⟩ := obind hy51
  obtain ⟨hl56, hq55⟩ := keepL_some hq55
  rw [Option.some.inj hq55] at hy51' hl56
  have hS18 := hS17.pick (M := [sl a20 c21 y19.parts] ++ [sl a45 c46 y44, sl a38 c39 y37.parts, sl a31 c32 y30, sl a27 c28 y26, bx g23 61 [.int .i64 y19.now, .slice a20 y19.parts.length c21], sl a16 c17 y15, sl a12 c13 y11, sl a8 c9 y7.parts, bx g1 56 [.int .i64 x0.now, .slice a0_1 x0.parts.length c0_1]]) [5, 0, 1, 2, 3, 4, 6, 7, 8, 9] rfl rfl
  obtain ⟨F52, hL53⟩ := St.lend (L := [sl a20 c21 y19.parts]) (M := [sl a45 c46 y44, sl a38 c39 y37.parts, sl a31 c32 y30, sl a27 c28 y26, bx g23 61 [.int .i64 y19.now, .slice a20 y19.parts.length c21], sl a16 c17 y15, sl a12 c13 y11, sl a8 c9 y7.parts, bx g1 56 [.int .i64 x0.now, .slice a0_1 x0.parts.length c0_1]]) hS18
  refine LW.cl (W_l_markWorld hy51' rfl hL53.st) ?_
  rintro _ w57 ⟨rfl, hs⟩
  have hS19 := hL53.back _ _ hs
  refine go ?_
  replace ⟨y58, hy58, h⟩ := obind h
  obtain ⟨q61, hy58', hq62⟩ := obind hy58
  obtain ⟨hl63, hq62⟩ := keepL_some hq62
  rw [Option.some.inj hq62] at hy58' hl63
  rw [show y19.parts.length = y51.2.length from hl56] at hS19
  have hS20 := hS19.pick (M := [sl a27 c28 y26] ++ [sl a20 c21 y51.2, sl a45 c46 y44, sl a38 c39 y37.parts, sl a31 c32 y30, bx g23 61 [.int .i64 y19.now, .slice a20 y51.2.length c21], sl a16 c17 y15, sl a12 c13 y11, sl a8 c9 y7.parts, bx g1 56 [.int .i64 x0.now, .slice a0_1 x0.parts.length c0_1]]) [4, 0, 1, 2, 3, 5, 6, 7, 8, 9] rfl rfl
  obtain ⟨F59, hL60⟩ := St.lend (L := [sl a27 c28 y26]) (M := [sl a20 c21 y51.2, sl a45 c46 y44, sl a38 c39 y37.parts, sl a31 c32 y30, bx g23 61 [.int .i64 y19.now, .slice a20 y51.2.length c21], sl a16 c17 y15, sl a12 c13 y11, sl a8 c9 y7.parts, bx g1 56 [.int .i64 x0.now, .slice a0_1 x0.parts.length c0_1]]) hS20
  refine LW.cl (W_l_markIntS hy58' rfl hL60.st) ?_
  rintro _ w64 ⟨rfl, hs⟩
  have hS21 := hL60.back _ _ hs
  refine gs ?_
  obtain ⟨j65, hj65, h66⟩ := obind h
  refine CW.cut (fun e wb => En e [(1, .slice a1_0 x1.length c1_0), (2, .pointer (some ⟨g1, 0, none⟩)), (6, .slice a16 y15.length c17), (9, .slice a31 y30.length c32), (61, .bool j65)] ∧ St w0 [] wb [sl a31 c32 y30, sl a16 c17 y15, bx g1 56 [.int .i64 x0.now, .slice a0_1 x0.parts.length c0_1]]) ?_ ?_
  · have h := hj65
    refine go ?_
    rcases bcases (decide (y58.1 < 0)) with hc67 | hc67
    · replace h := bcT h hc67
      refine go ?_
      cases oi h
      exact ⟨⟨rfl, rfl, rfl, rfl, rfl, trivial⟩, hS21.pick [4, 6, 9] rfl rfl⟩
    replace h := bcF h hc67
    refine go ?_
    refine LW.fl [1, 2, 6, 9, 56, 57, 58] fun e => ?_
    replace ⟨y68, hy68, h⟩ := obind h
    refine go ?_
    refine LW.c0 (W_l_eqIntS hy68 rfl (hS21.rI 4 rfl) rfl (hS21.rI 6 rfl)) hS21 fun w69 hS22 => ?_
    refine go ?_
    cases oi h
    exact ⟨⟨rfl, rfl, rfl, rfl, rfl, trivial⟩, hS22.pick [4, 6, 9] rfl rfl⟩
  rintro e w70 ⟨hE, hS23⟩
  obtain ⟨e, rfl⟩ := hE.out
  have h := h66
  refine go ?_
  refine CW.fl [1, 2, 6, 9, 61] fun e => ?_
  refine CW.cond rfl (fun hc71 => ?_) (fun hc71 => ?_)
  · replace h := bcT h hc71
    refine go ?_
    cases h
    exact And.intro trivial ⟨_, Res.one (resOne.t rfl), rfl, hS23.pick [] rfl rfl⟩
  replace h := bcF h hc71
  refine go ?_
  replace ⟨y72, hy72, h⟩ := obind h
  obtain ⟨q75, hy72', hq76⟩ := obind hy72
  obtain ⟨hl77, hq76⟩ := keepL_some hq76
  rw [Option.some.inj hq76] at hy72' hl77
  have hS24 := hS23.pick (M := [sl a31 c32 y30] ++ [sl a16 c17 y15, bx g1 56 [.int .i64 x0.now, .slice a0_1 x0.parts.length c0_1]]) [0, 1, 2] rfl rfl
  obtain ⟨F73, hL74⟩ := St.lend (L := [sl a31 c32 y30]) (M := [sl a16 c17 y15, bx g1 56 [.int .i64 x0.now, .slice a0_1 x0.parts.length c0_1]]) hS24
  refine LW.cl (W_l_markIntS hy72' rfl hL74.st) ?_
  rintro _ w78 ⟨rfl, hs⟩
  have hS25 := hL74.back _ _ hs
  refine go ?_
  replace ⟨y79, hy79, h⟩ := obind h
  refine LW.c0 (W_l_heldIntS hy79 (show y30.length = y72.2.length from hl77) (hS25.rI 0 rfl)) hS25 fun w80 hS26 => ?_
  refine go ?_
  refine CW.cond rfl (fun hc81 => ?_) (fun hc81 => ?_)
  · replace h := bcT h hc81
    refine go ?_
    cases h
    exact And.intro trivial ⟨_, Res.one (resOne.t rfl), rfl, hS26.pick [] rfl rfl⟩
  replace h := bcF h hc81
  refine go ?_
  refine CW.fl [1, 2, 6, 9, 11, 72] fun e => ?_
  refine CW.cond rfl (fun hc82 => ?_) (fun hc82 => ?_)
  · replace h := bcT h hc82
    refine go ?_
    cases h
    exact And.intro trivial ⟨_, Res.one (resOne.t rfl), rfl, hS26.pick [] rfl rfl⟩
  replace h := bcF h hc82
  refine go ?_
  replace ⟨y83, hy83, h⟩ := obind h
  refine LW.cl (W_l_toWorld hy83 rfl (hS26.rB hr0_1)) ?_
  rintro _ w86 ⟨a84, c85, rfl, hs⟩
  have hS27 := hS26.add hs
  refine go ?_
  replace ⟨y87, hy87, h⟩ := obind h
  refine LW.cl (W_l_toIntS hy87 rfl (hS27.rB hr1_0)) ?_
  rintro _ w90 ⟨a88, c89, rfl, hs⟩
  have hS28 := hS27.add hs
  replace ⟨y91, hy91, h⟩ := obind h
  refine LW.cl (W_i_StillThere hy91 rfl (hS28.rI 1 rfl) rfl (hS28.rI 0 rfl)) ?_
  rintro _ w94 ⟨a92, c93, rfl, hs⟩
  have hS29 := hS28.add hs
  refine go ?_
  replace ⟨y95, hy95, h⟩ := obind h
  refine LW.c0 (W_l_eqIntS hy95 rfl (hS29.rI 0 rfl) rfl (hS29.rI 4 rfl)) hS29 fun w96 hS30 => ?_
  refine go ?_
  refine CW.cond rfl (fun hc97 => ?_) (fun hc97 => ?_)
  · replace h := bcT h hc97
    refine go ?_
    cases h
    exact And.intro trivial ⟨_, Res.one (resOne.t rfl), rfl, hS30.pick [] rfl rfl⟩
  replace h := bcF h hc97
  refine go ?_
  replace ⟨y98, hy98, h⟩ := obind h
  refine LW.c0 (W_l_heldIntS hy98 (show y30.length = y72.2.length from hl77) (hS30.rI 3 rfl)) hS30 fun w99 hS31 => ?_
  refine go ?_
  refine CW.fl [11, 12, 86] fun e => ?_
  refine CW.cond rfl (fun hc100 => ?_) (fun hc100 => ?_)
  · replace h := bcT h hc100
    refine go ?_
    cases h
    exact And.intro trivial ⟨_, Res.one (resOne.t rfl), rfl, hS31.pick [] rfl rfl⟩
  replace h := bcF h hc100
  refine go ?_
  refine CW.cond rfl (fun hc101 => ?_) (fun hc101 => ?_)
  · replace h := bcT h hc101
    refine go ?_
    cases h
    exact And.intro trivial ⟨_, Res.one (resOne.t rfl), rfl, hS31.pick [] rfl rfl⟩
  replace h := bcF h hc101
  refine go ?_
  cases h
  exact And.intro trivial ⟨_, Res.one (resOne.t rfl), rfl, hS31.pick [] rfl rfl⟩

end Go.Kx
