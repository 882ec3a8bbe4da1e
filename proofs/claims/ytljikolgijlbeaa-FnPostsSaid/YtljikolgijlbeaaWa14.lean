/- Each call returns what the plain function says. Printed by drive.py. -/
import Derived.Test.YtljikolgijlbeaaFa
import Derived.Test.YtljikolgijlbeaaPu
import Derived.Test.YtljikolgijlbeaaWa0
import Derived.Test.YtljikolgijlbeaaWa8
import Derived.Test.YtljikolgijlbeaaWa10
import Derived.Test.YtljikolgijlbeaaWa13
namespace Go.Kx
open Go Go.RowKit Go.Proofs
set_option maxRecDepth 10000
set_option maxHeartbeats 8000000
set_option linter.unusedVariables false
set_option linter.unusedSimpArgs false
theorem W_l_FnPosts {w0 : World} {N : Nat} {x0 : List U8} {r : Bool} (h : F_l_FnPosts N x0 = some r) {a0_0 : Option Addr} {n0_0 c0_0 : Nat} (hn0_0 : n0_0 = x0.length) (hr0_0 : rdS (Bor w0 []) w0 a0_0 c0_0 x0) :
    Ret Try.prog 4 #[.slice a0_0 n0_0 c0_0] w0 (fun v w => v = .bool r ∧ St w0 [] w []) := by
  subst hn0_0
  unfold F_l_FnPosts at h
  refine Ret.fn Try.func4 fun e => ?_
  have hS1 := St.start w0
  refine go ?_
  replace ⟨y1, hy1, h⟩ := obind h
  refine LW.c0 (W_l_big hy1 rfl (hS1.rB hr0_0)) hS1 fun w2 hS2 => ?_
  refine go ?_
  refine cd (fun hc3 => ?_) fun hc3 => ?_
  · replace h := bcT h hc3
    refine go ?_
    cases h
    exact fi hS2
  replace h := bcF h hc3
  refine go ?_
  replace ⟨y4, hy4, h⟩ := obind h
  refine LW.cl (W_l_rich hy4) ?_
  rintro _ w7 ⟨a5, c6, rfl, hs⟩
  have hS3 := hS2.add hs
  replace ⟨y8, hy8, h⟩ := obind h
  refine LW.cl (W_s_Flat hy8) ?_
  rintro _ w11 ⟨a9, c10, rfl, hs⟩
  have hS4 := hS3.add hs
  refine LW.u (Pur.build (vs := [(0, .int .i64 20), (1, .int .i64 900), (2, .int .i64 9)]) (cs := #[.int .i64 20, .int .i64 900, .int .i64 9]) rfl (by kernel_rfl)) rfl ?_
  refine LW.u (Pur.build (vs := [(0, .agg #[.slice a9 y8.levels.length c10]), (2, .agg #[.int .i64 20, .int .i64 900, .int .i64 9])]) (cs := #[.slice a9 y8.levels.length c10, .slice none 0 0, .int .i64 20, .int .i64 900, .int .i64 9]) rfl (by kernel_rfl)) rfl ?_
  have hS5 := hS4.nil (α := Int)
  have hS6 := hS5.pick (M := [sl a9 c10 y8.levels, sl none 0 []] ++ [sl a5 c6 y4]) [1, 0, 2] rfl rfl
  replace ⟨y12, hy12, h⟩ := obind h
  refine LW.app1 (M := [sl a9 c10 y8.levels, sl none 0 []]) (L := [sl a5 c6 y4]) (vs := #[.slice a9 y8.levels.length c10, .slice none 0 0, .int .i64 20, .int .i64 900, .int .i64 9]) (i := 0) sT54 rfl (by kernel_rfl) rfl rfl hy12 hS6 rfl (fun w G hG => ⟨a9, c10, none, 0, rfl, hG⟩) rfl rfl ?_
  intro v15 a13 c14 w16 hS7 hf
  refine go ?_
  replace ⟨y17, hy17, h⟩ := obind h
  refine LW.cl (W_i_WorldNew hy17 rfl (hS7.rI 0 rfl)) ?_
  rintro _ w20 ⟨a18, c19, rfl, hs⟩
  have hS8 := hS7.add hs
  refine LW.al hS8 fun g21 w22 hS9 => ?_
  refine LW.st hS9 0 fun w23 hS10 => ?_
  refine gs ?_
  obtain ⟨j24, hj24, h25⟩ := obind h
  refine CW.cut (fun e wb => ∃ (j24g5 : Nat), ∃ (j24a1 : Option Addr), ∃ (j24c1 : Nat), En e [(0, .slice a0_0 x0.length c0_0), (4, .pointer (some ⟨g21, 0, none⟩)), (5, .pointer (some ⟨j24g5, 0, none⟩))] ∧ St w0 [] wb [bx g21 59 [.int .i64 j24.2.2.1, .slice j24a1 j24.2.2.2.length j24c1], bx j24g5 62 [.int .i64 j24.1, .int .i64 j24.2.1], sl j24a1 j24c1 j24.2.2.2]) ?_ ?_
  · have h := hj24
    refine CW.draw (by kernel_rfl) ?_
    have hS11 := hS10.drew
    refine go ?_
    replace ⟨y26, hy26, h⟩ := obind h
    refine AW.all (rs := [1, 8]) (by kernel_rfl) (by simp) ⟨?_, ?_, trivial⟩
    · have q := W_s_HandleOf (w0 := w23.drew) hy26
      refine ⟨_, rfl, ?_⟩
      refine LW.call pl25 rfl rfl ?_
      refine Ret.mono q ?_
      rintro _ w31 ⟨rfl, hs⟩
      have hS12 := hS11.add hs
      refine LW.nil ⟨rfl, (.c (St.cell (h := hS12) (i := 0) rfl) Kept.n), ?_⟩
      refine AW.u (i := 2) rfl (by kernel_rfl) rfl rfl (Pur.build (vs := [(0, .int .i64 1), (1, .int .i64 3), (2, .int .i64 y26), (4, .int .i64 90)]) (cs := #[.int .i64 1, .int .i64 3, .int .i64 y26, .int .i64 0, .int .i64 90, .int .i64 0]) rfl (by kernel_rfl)) ?_
      refine AW.all (rs := [3, 8]) (by kernel_rfl) (by simp) ⟨?_, ?_, trivial⟩
      · refine ⟨_, rfl, ?_⟩
        refine LW.bsl (α := DCall) (vs := [(0, .agg #[.int .i64 1, .int .i64 3, .int .i64 y26, .int .i64 0, .int .i64 90, .int .i64 0])]) (cs := #[.int .i64 1, .int .i64 3, .int .i64 y26, .int .i64 0, .int .i64 90, .int .i64 0]) (l := ([DCall.mk 1 3 y26 0 90 0] : List DCall)) rfl (by kernel_rfl) rfl rfl rfl (fun w => ⟨[.int .i64 1, .int .i64 3, .int .i64 y26, .int .i64 0, .int .i64 90, .int .i64 0], [], [], [], rfl, rfl, ⟨rfl, rfl⟩, rfl⟩) hS12 rfl ?_
        intro a37 c38 w39 hS13 hf
        refine LW.nil ⟨rfl, (.c (St.cell (h := hS13) (i := 1) rfl) Kept.n), ?_⟩
        replace ⟨y40, hy40, h⟩ := obind h
        refine AW.all (rs := [4, 8]) (by kernel_rfl) (by simp) ⟨?_, ?_, trivial⟩
        · have q := W_l_do (w0 := w39) hy40 rfl (hS13.rI 2 rfl) rfl (hS13.rI 0 rfl)
          refine ⟨_, rfl, ?_⟩
          refine LW.call pl24 rfl rfl ?_
          refine Ret.mono q ?_
          rintro _ w51 ⟨a49, c50, rfl, hs⟩
          have hS14 := hS13.add hs
          refine LW.nil ⟨rfl, (.w (by kernel_rfl) Kept.n), ?_⟩
          refine AW.u (i := 5) rfl (by kernel_rfl) rfl rfl (Pur.p rfl) ?_
          refine go ?_
          refine AW.one (i := 8) (by kernel_rfl) ?_
          refine ⟨_, rfl, ?_⟩
          refine LW.al hS14 fun g52 w53 hS15 => ?_
          refine LW.nil ⟨rfl, (.c (St.cell (h := hS15) (i := 3) rfl) Kept.n), ?_⟩
          refine AW.one (i := 9) (by kernel_rfl) ?_
          refine ⟨_, rfl, ?_⟩
          refine LW.st hS15 3 fun w54 hS16 => ?_
          refine LW.nil ⟨rfl, (.w (by kernel_rfl) Kept.n), ?_⟩
          refine AW.one (i := 10) (by kernel_rfl) ?_
          refine ⟨_, rfl, ?_⟩
          refine LW.st hS16 0 fun w55 hS17 => ?_
          refine LW.nil ⟨rfl, (.w (by kernel_rfl) Kept.n), ?_⟩
          refine go ?_
          cases oi h
          exact ⟨g52, a49, c50, ⟨rfl, rfl, rfl, trivial⟩, hS17.pick [3, 0, 1] rfl rfl⟩
        refine ⟨_, rfl, ?_⟩
        refine LW.al hS13 fun g56 w57 hS18 => ?_
        refine LW.nil ⟨rfl, (.c (St.cell (h := hS18) (i := 2) rfl) Kept.n), ?_⟩
        have q := W_l_do (w0 := w57) hy40 rfl (hS18.rI 3 rfl) rfl (hS18.rI 1 rfl)
        refine AW.one (i := 4) (by kernel_rfl) ?_
        refine ⟨_, rfl, ?_⟩
        refine LW.call pl24 rfl rfl ?_
        refine Ret.mono q ?_
        rintro _ w60 ⟨a58, c59, rfl, hs⟩
        have hS19 := hS18.add hs
        refine LW.nil ⟨rfl, (.w (by kernel_rfl) Kept.n), ?_⟩
        refine go ?_
        refine AW.one (i := 9) (by kernel_rfl) ?_
        refine ⟨_, rfl, ?_⟩
        refine LW.st hS19 3 fun w61 hS20 => ?_
        refine LW.nil ⟨rfl, (.w (by kernel_rfl) Kept.n), ?_⟩
        refine AW.one (i := 10) (by kernel_rfl) ?_
        refine ⟨_, rfl, ?_⟩
        refine LW.st hS20 1 fun w62 hS21 => ?_
        refine LW.nil ⟨rfl, (.w (by kernel_rfl) Kept.n), ?_⟩
        refine go ?_
        cases oi h
        exact ⟨g56, a58, c59, ⟨rfl, rfl, rfl, trivial⟩, hS21.pick [3, 1, 0] rfl rfl⟩
      refine ⟨_, rfl, ?_⟩
      refine LW.al hS12 fun g63 w64 hS22 => ?_
      refine LW.nil ⟨rfl, (.c (St.cell (h := hS22) (i := 1) rfl) Kept.n), ?_⟩
      refine AW.one (i := 3) (by kernel_rfl) ?_
      refine ⟨_, rfl, ?_⟩
      refine LW.bsl (α := DCall) (vs := [(0, .agg #[.int .i64 1, .int .i64 3, .int .i64 y26, .int .i64 0, .int .i64 90, .int .i64 0])]) (cs := #[.int .i64 1, .int .i64 3, .int .i64 y26, .int .i64 0, .int .i64 90, .int .i64 0]) (l := ([DCall.mk 1 3 y26 0 90 0] : List DCall)) rfl (by kernel_rfl) rfl rfl rfl (fun w => ⟨[.int .i64 1, .int .i64 3, .int .i64 y26, .int .i64 0, .int .i64 90, .int .i64 0], [], [], [], rfl, rfl, ⟨rfl, rfl⟩, rfl⟩) hS22 rfl ?_
      intro a65 c66 w67 hS23 hf
      refine LW.nil ⟨rfl, (.c (St.cell (h := hS23) (i := 2) rfl) Kept.n), ?_⟩
      replace ⟨y68, hy68, h⟩ := obind h
      have q := W_l_do (w0 := w67) hy68 rfl (hS23.rI 3 rfl) rfl (hS23.rI 0 rfl)
      refine AW.one (i := 4) (by kernel_rfl) ?_
      refine ⟨_, rfl, ?_⟩
      refine LW.call pl24 rfl rfl ?_
      refine Ret.mono q ?_
      rintro _ w71 ⟨a69, c70, rfl, hs⟩
      have hS24 := hS23.add hs
      refine LW.nil ⟨rfl, (.w (by kernel_rfl) Kept.n), ?_⟩
      refine go ?_
      refine AW.one (i := 9) (by kernel_rfl) ?_
      refine ⟨_, rfl, ?_⟩
      refine LW.st hS24 3 fun w72 hS25 => ?_
      refine LW.nil ⟨rfl, (.w (by kernel_rfl) Kept.n), ?_⟩
      refine AW.one (i := 10) (by kernel_rfl) ?_
      refine ⟨_, rfl, ?_⟩
      refine LW.st hS25 2 fun w73 hS26 => ?_
      refine LW.nil ⟨rfl, (.w (by kernel_rfl) Kept.n), ?_⟩
      refine go ?_
      cases oi h
      exact ⟨g63, a69, c70, ⟨rfl, rfl, rfl, trivial⟩, hS26.pick [3, 2, 0] rfl rfl⟩
    refine ⟨_, rfl, ?_⟩
    refine LW.al hS11 fun g74 w75 hS27 => ?_
    refine LW.nil ⟨rfl, (.c (St.cell (h := hS27) (i := 1) rfl) Kept.n), ?_⟩
    have q := W_s_HandleOf (w0 := w75) hy26
    refine AW.one (i := 1) (by kernel_rfl) ?_
    refine ⟨_, rfl, ?_⟩
    refine LW.call pl25 rfl rfl ?_
    refine Ret.mono q ?_
    rintro _ w76 ⟨rfl, hs⟩
    have hS28 := hS27.add hs
    refine LW.nil ⟨rfl, (.c (St.cell (h := hS28) (i := 1) rfl) Kept.n), ?_⟩
    refine AW.u (i := 2) rfl (by kernel_rfl) rfl rfl (Pur.build (vs := [(0, .int .i64 1), (1, .int .i64 3), (2, .int .i64 y26), (4, .int .i64 90)]) (cs := #[.int .i64 1, .int .i64 3, .int .i64 y26, .int .i64 0, .int .i64 90, .int .i64 0]) rfl (by kernel_rfl)) ?_
    refine AW.one (i := 3) (by kernel_rfl) ?_
    refine ⟨_, rfl, ?_⟩
    refine LW.bsl (α := DCall) (vs := [(0, .agg #[.int .i64 1, .int .i64 3, .int .i64 y26, .int .i64 0, .int .i64 90, .int .i64 0])]) (cs := #[.int .i64 1, .int .i64 3, .int .i64 y26, .int .i64 0, .int .i64 90, .int .i64 0]) (l := ([DCall.mk 1 3 y26 0 90 0] : List DCall)) rfl (by kernel_rfl) rfl rfl rfl (fun w => ⟨[.int .i64 1, .int .i64 3, .int .i64 y26, .int .i64 0, .int .i64 90, .int .i64 0], [], [], [], rfl, rfl, ⟨rfl, rfl⟩, rfl⟩) hS28 rfl ?_
    intro a77 c78 w79 hS29 hf
    refine LW.nil ⟨rfl, (.c (St.cell (h := hS29) (i := 2) rfl) Kept.n), ?_⟩
    replace ⟨y80, hy80, h⟩ := obind h
    have q := W_l_do (w0 := w79) hy80 rfl (hS29.rI 3 rfl) rfl (hS29.rI 0 rfl)
    refine AW.one (i := 4) (by kernel_rfl) ?_
    refine ⟨_, rfl, ?_⟩
    refine LW.call pl24 rfl rfl ?_
    refine Ret.mono q ?_
    rintro _ w83 ⟨a81, c82, rfl, hs⟩
    have hS30 := hS29.add hs
    refine LW.nil ⟨rfl, (.w (by kernel_rfl) Kept.n), ?_⟩
    refine go ?_
    refine AW.one (i := 9) (by kernel_rfl) ?_
    refine ⟨_, rfl, ?_⟩
    refine LW.st hS30 3 fun w84 hS31 => ?_
    refine LW.nil ⟨rfl, (.w (by kernel_rfl) Kept.n), ?_⟩
    refine AW.one (i := 10) (by kernel_rfl) ?_
    refine ⟨_, rfl, ?_⟩
    refine LW.st hS31 2 fun w85 hS32 => ?_
    refine LW.nil ⟨rfl, (.w (by kernel_rfl) Kept.n), ?_⟩
    refine go ?_
    cases oi h
    exact ⟨g74, a81, c82, ⟨rfl, rfl, rfl, trivial⟩, hS32.pick [3, 2, 0] rfl rfl⟩
  rintro e w86 ⟨j24g5, j24a1, j24c1, hE, hS33⟩
  obtain ⟨e, rfl⟩ := hE.out
  have h := h25
  refine go ?_
  replace ⟨y87, hy87, h⟩ := obind h
  refine LW.c0 (W_l_at hy87 rfl (hS33.rB hr0_0)) hS33 fun w88 hS34 => ?_
  refine LW.u (Pur.rem rfl rfl (by decide)) rfl ?_
  refine go ?_
  obtain ⟨o395, ho395, h396⟩ := obind h
  refine CW.mono (CW.iter (σ := Int × Int × (List DPart)) (ρ := (Int × Int × (List DPart)) ⊕ Bool) (fun s89 e wb => ∃ (s89a0 : Option Addr), ∃ (s89c0 : Nat), En e [(0, .slice a0_0 x0.length c0_0), (4, .pointer (some ⟨g21, 0, none⟩)), (5, .pointer (some ⟨j24g5, 0, none⟩)), (6, .int .i64 (Int.tmod y87 6)), (7, .int .i64 s89.1)] ∧ St w0 [] wb [bx g21 59 [.int .i64 s89.2.1, .slice s89a0 s89.2.2.length s89c0], bx j24g5 62 [.int .i64 j24.1, .int .i64 j24.2.1], sl s89a0 s89c0 s89.2.2]) (fun o x e wb => match o with | .inl s89 => x = .exit 0 ∧ ∃ (s89a0 : Option Addr), ∃ (s89c0 : Nat), En e [(0, .slice a0_0 x0.length c0_0), (4, .pointer (some ⟨g21, 0, none⟩)), (5, .pointer (some ⟨j24g5, 0, none⟩)), (6, .int .i64 (Int.tmod y87 6))] ∧ St w0 [] wb [bx g21 59 [.int .i64 s89.2.1, .slice s89a0 s89.2.2.length s89c0], bx j24g5 62 [.int .i64 j24.1, .int .i64 j24.2.1], sl s89a0 s89c0 s89.2.2] | .inr r => x = .ret ∧ ∃ u, u = r ∧ ∃ v, Res Try.prog Try.f4.results e wb v ∧ v = .bool u ∧ St w0 [] wb []) ?_ N (0, j24.2.2.1, j24.2.2.2) _ _ _ ⟨j24a1, j24c1, ⟨rfl, rfl, rfl, rfl, rfl, trivial⟩, hS34.pick [0, 1, 2] rfl rfl⟩ ho395) ?_
  · intro s89 e w90 o hM h
    obtain ⟨s89a0, s89c0, hE, hS35⟩ := hM
    obtain ⟨e, rfl⟩ := hE.out
    refine go ?_
    refine CW.fl [0, 4, 5, 6, 7, 40] fun e => ?_
    refine cd (fun hc91 => ?_) fun hc91 => ?_
    · replace h := bcT h hc91
      refine gs ?_
      refine CW.block ?_
      refine gs ?_
      obtain ⟨j92, hj92, h93⟩ := obind h
      refine CW.cut (fun e wb => ∃ (j92g8 : Nat), ∃ (j92g9 : Nat), ∃ (j92a2 : Option Addr), ∃ (j92c2 : Nat), En e [(0, .slice a0_0 x0.length c0_0), (4, .pointer (some ⟨g21, 0, none⟩)), (5, .pointer (some ⟨j24g5, 0, none⟩)), (6, .int .i64 (Int.tmod y87 6)), (7, .int .i64 s89.1), (8, .pointer (some ⟨j92g8, 0, none⟩)), (9, .pointer (some ⟨j92g9, 0, none⟩))] ∧ St w0 [] wb [bx g21 59 [.int .i64 s89.2.1, .slice s89a0 s89.2.2.length s89c0], bx j24g5 62 [.int .i64 j24.1, .int .i64 j24.2.1], sl s89a0 s89c0 s89.2.2, bx j92g8 59 [.int .i64 j92.1, .slice j92a2 j92.2.1.length j92c2], bx j92g9 62 [.int .i64 j92.2.2.1, .int .i64 j92.2.2.2], sl j92a2 j92c2 j92.2.1]) ?_ ?_
      · have h := hj92
        refine CW.draw (by kernel_rfl) ?_
        have hS36 := hS35.drew
        refine go ?_
        replace ⟨y94, hy94, h⟩ := obind h
        refine AW.all (rs := [5, 12, 13]) (by kernel_rfl) (by simp) ⟨?_, ?_, ?_, trivial⟩
        · have q := W_l_at (w0 := w90.drew) hy94 rfl (hS36.rB hr0_0)
          refine ⟨_, rfl, ?_⟩
          refine LW.call pl26 rfl rfl ?_
          refine Ret.mono q ?_
          rintro _ w101 ⟨rfl, hs⟩
          have hS37 := hS36.add hs
          refine LW.nil ⟨rfl, (.c (St.cell (h := hS37) (i := 1) rfl) (.c (St.cell (h := hS37) (i := 0) rfl) Kept.n)), ?_⟩
          refine AW.u (i := 6) rfl (by kernel_rfl) rfl rfl (Pur.build (vs := [(0, .int .i64 17), (1, .int .i64 j24.2.1), (2, .int .i64 y94)]) (cs := #[.int .i64 17, .int .i64 j24.2.1, .int .i64 y94, .int .i64 0, .int .i64 0, .int .i64 0]) rfl (by kernel_rfl)) ?_
          refine AW.all (rs := [7, 12, 13]) (by kernel_rfl) (by simp) ⟨?_, ?_, ?_, trivial⟩
          · refine ⟨_, rfl, ?_⟩
            refine LW.bsl (α := DCall) (vs := [(0, .agg #[.int .i64 17, .int .i64 j24.2.1, .int .i64 y94, .int .i64 0, .int .i64 0, .int .i64 0])]) (cs := #[.int .i64 17, .int .i64 j24.2.1, .int .i64 y94, .int .i64 0, .int .i64 0, .int .i64 0]) (l := ([DCall.mk 17 j24.2.1 y94 0 0 0] : List DCall)) rfl (by kernel_rfl) rfl rfl rfl (fun w => ⟨[.int .i64 17, .int .i64 j24.2.1, .int .i64 y94, .int .i64 0, .int .i64 0, .int .i64 0], [], [], [], rfl, rfl, ⟨rfl, rfl⟩, rfl⟩) hS37 rfl ?_
            intro a109 c110 w111 hS38 hf
            refine LW.nil ⟨rfl, (.c (St.cell (h := hS38) (i := 2) rfl) (.c (St.cell (h := hS38) (i := 1) rfl) Kept.n)), ?_⟩
            replace ⟨y112, hy112, h⟩ := obind h
            refine AW.all (rs := [8, 12, 13]) (by kernel_rfl) (by simp) ⟨?_, ?_, ?_, trivial⟩
            · have q := W_l_do (w0 := w111) hy112 rfl (hS38.rI 3 rfl) rfl (hS38.rI 0 rfl)
              refine ⟨_, rfl, ?_⟩
              refine LW.call pl24 rfl rfl ?_
              refine Ret.mono q ?_
              rintro _ w125 ⟨a123, c124, rfl, hs⟩
              have hS39 := hS38.add hs
              refine LW.nil ⟨rfl, (.c (St.cell (h := hS39) (i := 3) rfl) (.w (by kernel_rfl) Kept.n)), ?_⟩
              refine AW.u (i := 9) rfl (by kernel_rfl) rfl rfl (Pur.p rfl) ?_
              refine go ?_
              refine AW.all (rs := [12, 13]) (by kernel_rfl) (by simp) ⟨?_, ?_, trivial⟩
              · refine ⟨_, rfl, ?_⟩
                refine LW.al hS39 fun g130 w131 hS40 => ?_
                refine LW.nil ⟨rfl, (.c (St.cell (h := hS40) (i := 4) rfl) (.c (St.cell (h := hS40) (i := 3) rfl) Kept.n)), ?_⟩
                refine AW.one (i := 13) (by kernel_rfl) ?_
                refine ⟨_, rfl, ?_⟩
                refine LW.al hS40 fun g132 w133 hS41 => ?_
                refine LW.nil ⟨rfl, (.c (St.cell (h := hS41) (i := 5) rfl) (.c (St.cell (h := hS41) (i := 4) rfl) Kept.n)), ?_⟩
                refine AW.one (i := 14) (by kernel_rfl) ?_
                refine ⟨_, rfl, ?_⟩
                refine LW.st hS41 1 fun w134 hS42 => ?_
                refine LW.nil ⟨rfl, (.w (by kernel_rfl) (.w (by kernel_rfl) Kept.n)), ?_⟩
                refine AW.one (i := 15) (by kernel_rfl) ?_
                refine ⟨_, rfl, ?_⟩
                refine LW.st hS42 0 fun w135 hS43 => ?_
                refine LW.nil ⟨rfl, (.w (by kernel_rfl) (.w (by kernel_rfl) Kept.n)), ?_⟩
                refine go ?_
                cases oi h
                exact ⟨g130, g132, a123, c124, ⟨rfl, rfl, rfl, rfl, rfl, rfl, rfl, trivial⟩, hS43.pick [4, 5, 6, 1, 0, 2] rfl rfl⟩
              refine ⟨_, rfl, ?_⟩
              refine LW.al hS39 fun g136 w137 hS44 => ?_
              refine LW.nil ⟨rfl, (.c (St.cell (h := hS44) (i := 4) rfl) (.c (St.cell (h := hS44) (i := 3) rfl) Kept.n)), ?_⟩
              refine AW.one (i := 12) (by kernel_rfl) ?_
              refine ⟨_, rfl, ?_⟩
              refine LW.al hS44 fun g138 w139 hS45 => ?_
              refine LW.nil ⟨rfl, (.c (St.cell (h := hS45) (i := 5) rfl) (.c (St.cell (h := hS45) (i := 4) rfl) Kept.n)), ?_⟩
              refine AW.one (i := 14) (by kernel_rfl) ?_
              refine ⟨_, rfl, ?_⟩
              refine LW.st hS45 0 fun w140 hS46 => ?_
              refine LW.nil ⟨rfl, (.w (by kernel_rfl) (.w (by kernel_rfl) Kept.n)), ?_⟩
              refine AW.one (i := 15) (by kernel_rfl) ?_
              refine ⟨_, rfl, ?_⟩
              refine LW.st hS46 1 fun w141 hS47 => ?_
              refine LW.nil ⟨rfl, (.w (by kernel_rfl) (.w (by kernel_rfl) Kept.n)), ?_⟩
              refine go ?_
              cases oi h
              exact ⟨g138, g136, a123, c124, ⟨rfl, rfl, rfl, rfl, rfl, rfl, rfl, trivial⟩, hS47.pick [4, 5, 6, 0, 1, 2] rfl rfl⟩
            · refine ⟨_, rfl, ?_⟩
              refine LW.al hS38 fun g142 w143 hS48 => ?_
              refine LW.nil ⟨rfl, (.c (St.cell (h := hS48) (i := 3) rfl) (.c (St.cell (h := hS48) (i := 2) rfl) Kept.n)), ?_⟩
              refine AW.all (rs := [8, 13]) (by kernel_rfl) (by simp) ⟨?_, ?_, trivial⟩
              · have q := W_l_do (w0 := w143) hy112 rfl (hS48.rI 4 rfl) rfl (hS48.rI 1 rfl)
                refine ⟨_, rfl, ?_⟩
                refine LW.call pl24 rfl rfl ?_
                refine Ret.mono q ?_
                rintro _ w151 ⟨a149, c150, rfl, hs⟩
                have hS49 := hS48.add hs
                refine LW.nil ⟨rfl, (.c (St.cell (h := hS49) (i := 4) rfl) (.w (by kernel_rfl) Kept.n)), ?_⟩
                refine AW.u (i := 9) rfl (by kernel_rfl) rfl rfl (Pur.p rfl) ?_
                refine go ?_
                refine AW.one (i := 13) (by kernel_rfl) ?_
                refine ⟨_, rfl, ?_⟩
                refine LW.al hS49 fun g152 w153 hS50 => ?_
                refine LW.nil ⟨rfl, (.c (St.cell (h := hS50) (i := 5) rfl) (.c (St.cell (h := hS50) (i := 4) rfl) Kept.n)), ?_⟩
                refine AW.one (i := 14) (by kernel_rfl) ?_
                refine ⟨_, rfl, ?_⟩
                refine LW.st hS50 2 fun w154 hS51 => ?_
                refine LW.nil ⟨rfl, (.w (by kernel_rfl) (.w (by kernel_rfl) Kept.n)), ?_⟩
                refine AW.one (i := 15) (by kernel_rfl) ?_
                refine ⟨_, rfl, ?_⟩
                refine LW.st hS51 0 fun w155 hS52 => ?_
                refine LW.nil ⟨rfl, (.w (by kernel_rfl) (.w (by kernel_rfl) Kept.n)), ?_⟩
                refine go ?_
                cases oi h
                exact ⟨g142, g152, a149, c150, ⟨rfl, rfl, rfl, rfl, rfl, rfl, rfl, trivial⟩, hS52.pick [4, 5, 6, 2, 0, 1] rfl rfl⟩
              refine ⟨_, rfl, ?_⟩
              refine LW.al hS48 fun g156 w157 hS53 => ?_
              refine LW.nil ⟨rfl, (.c (St.cell (h := hS53) (i := 4) rfl) (.c (St.cell (h := hS53) (i := 3) rfl) Kept.n)), ?_⟩
              have q := W_l_do (w0 := w157) hy112 rfl (hS53.rI 5 rfl) rfl (hS53.rI 2 rfl)
              refine AW.one (i := 8) (by kernel_rfl) ?_
              refine ⟨_, rfl, ?_⟩
              refine LW.call pl24 rfl rfl ?_
              refine Ret.mono q ?_
              rintro _ w160 ⟨a158, c159, rfl, hs⟩
              have hS54 := hS53.add hs
              refine LW.nil ⟨rfl, (.c (St.cell (h := hS54) (i := 5) rfl) (.w (by kernel_rfl) Kept.n)), ?_⟩
              refine go ?_
              refine AW.one (i := 14) (by kernel_rfl) ?_
              refine ⟨_, rfl, ?_⟩
              refine LW.st hS54 2 fun w161 hS55 => ?_
              refine LW.nil ⟨rfl, (.w (by kernel_rfl) (.w (by kernel_rfl) Kept.n)), ?_⟩
              refine AW.one (i := 15) (by kernel_rfl) ?_
              refine ⟨_, rfl, ?_⟩
              refine LW.st hS55 1 fun w162 hS56 => ?_
              refine LW.nil ⟨rfl, (.w (by kernel_rfl) (.w (by kernel_rfl) Kept.n)), ?_⟩
              refine go ?_
              cases oi h
              exact ⟨g142, g156, a158, c159, ⟨rfl, rfl, rfl, rfl, rfl, rfl, rfl, trivial⟩, hS56.pick [4, 5, 6, 2, 1, 0] rfl rfl⟩
            refine ⟨_, rfl, ?_⟩
            refine LW.al hS38 fun g163 w164 hS57 => ?_
            refine LW.nil ⟨rfl, (.c (St.cell (h := hS57) (i := 3) rfl) (.c (St.cell (h := hS57) (i := 2) rfl) Kept.n)), ?_⟩
            refine AW.all (rs := [8, 12]) (by kernel_rfl) (by simp) ⟨?_, ?_, trivial⟩
            · have q := W_l_do (w0 := w164) hy112 rfl (hS57.rI 4 rfl) rfl (hS57.rI 1 rfl)
              refine ⟨_, rfl, ?_⟩
              refine LW.call pl24 rfl rfl ?_
              refine Ret.mono q ?_
              rintro _ w172 ⟨a170, c171, rfl, hs⟩
              have hS58 := hS57.add hs
              refine LW.nil ⟨rfl, (.c (St.cell (h := hS58) (i := 4) rfl) (.w (by kernel_rfl) Kept.n)), ?_⟩
              refine AW.u (i := 9) rfl (by kernel_rfl) rfl rfl (Pur.p rfl) ?_
              refine go ?_
              refine AW.one (i := 12) (by kernel_rfl) ?_
              refine ⟨_, rfl, ?_⟩
              refine LW.al hS58 fun g173 w174 hS59 => ?_
              refine LW.nil ⟨rfl, (.c (St.cell (h := hS59) (i := 5) rfl) (.c (St.cell (h := hS59) (i := 4) rfl) Kept.n)), ?_⟩
              refine AW.one (i := 14) (by kernel_rfl) ?_
              refine ⟨_, rfl, ?_⟩
              refine LW.st hS59 0 fun w175 hS60 => ?_
              refine LW.nil ⟨rfl, (.w (by kernel_rfl) (.w (by kernel_rfl) Kept.n)), ?_⟩
              refine AW.one (i := 15) (by kernel_rfl) ?_
              refine ⟨_, rfl, ?_⟩
              refine LW.st hS60 2 fun w176 hS61 => ?_
              refine LW.nil ⟨rfl, (.w (by kernel_rfl) (.w (by kernel_rfl) Kept.n)), ?_⟩
              refine go ?_
              cases oi h
              exact ⟨g173, g163, a170, c171, ⟨rfl, rfl, rfl, rfl, rfl, rfl, rfl, trivial⟩, hS61.pick [4, 5, 6, 0, 2, 1] rfl rfl⟩
            refine ⟨_, rfl, ?_⟩
            refine LW.al hS57 fun g177 w178 hS62 => ?_
            refine LW.nil ⟨rfl, (.c (St.cell (h := hS62) (i := 4) rfl) (.c (St.cell (h := hS62) (i := 3) rfl) Kept.n)), ?_⟩
            have q := W_l_do (w0 := w178) hy112 rfl (hS62.rI 5 rfl) rfl (hS62.rI 2 rfl)
            refine AW.one (i := 8) (by kernel_rfl) ?_
            refine ⟨_, rfl, ?_⟩
            refine LW.call pl24 rfl rfl ?_
            refine Ret.mono q ?_
            rintro _ w181 ⟨a179, c180, rfl, hs⟩
            have hS63 := hS62.add hs
            refine LW.nil ⟨rfl, (.c (St.cell (h := hS63) (i := 5) rfl) (.w (by kernel_rfl) Kept.n)), ?_⟩
            refine go ?_
            refine AW.one (i := 14) (by kernel_rfl) ?_
            refine ⟨_, rfl, ?_⟩
            refine LW.st hS63 1 fun w182 hS64 => ?_
            refine LW.nil ⟨rfl, (.w (by kernel_rfl) (.w (by kernel_rfl) Kept.n)), ?_⟩
            refine AW.one (i := 15) (by kernel_rfl) ?_
            refine ⟨_, rfl, ?_⟩
            refine LW.st hS64 2 fun w183 hS65 => ?_
            refine LW.nil ⟨rfl, (.w (by kernel_rfl) (.w (by kernel_rfl) Kept.n)), ?_⟩
            refine go ?_
            cases oi h
            exact ⟨g177, g163, a179, c180, ⟨rfl, rfl, rfl, rfl, rfl, rfl, rfl, trivial⟩, hS65.pick [4, 5, 6, 1, 2, 0] rfl rfl⟩
          · refine ⟨_, rfl, ?_⟩
            refine LW.al hS37 fun g184 w185 hS66 => ?_
            refine LW.nil ⟨rfl, (.c (St.cell (h := hS66) (i := 2) rfl) (.c (St.cell (h := hS66) (i := 1) rfl) Kept.n)), ?_⟩
            refine AW.all (rs := [7, 13]) (by kernel_rfl) (by simp) ⟨?_, ?_, trivial⟩
            · refine ⟨_, rfl, ?_⟩
              refine LW.bsl (α := DCall) (vs := [(0, .agg #[.int .i64 17, .int .i64 j24.2.1, .int .i64 y94, .int .i64 0, .int .i64 0, .int .i64 0])]) (cs := #[.int .i64 17, .int .i64 j24.2.1, .int .i64 y94, .int .i64 0, .int .i64 0, .int .i64 0]) (l := ([DCall.mk 17 j24.2.1 y94 0 0 0] : List DCall)) rfl (by kernel_rfl) rfl rfl rfl (fun w => ⟨[.int .i64 17, .int .i64 j24.2.1, .int .i64 y94, .int .i64 0, .int .i64 0, .int .i64 0], [], [], [], rfl, rfl, ⟨rfl, rfl⟩, rfl⟩) hS66 rfl ?_
              intro a191 c192 w193 hS67 hf
              refine LW.nil ⟨rfl, (.c (St.cell (h := hS67) (i := 3) rfl) (.c (St.cell (h := hS67) (i := 2) rfl) Kept.n)), ?_⟩
              replace ⟨y194, hy194, h⟩ := obind h
              refine AW.all (rs := [8, 13]) (by kernel_rfl) (by simp) ⟨?_, ?_, trivial⟩
              · have q := W_l_do (w0 := w193) hy194 rfl (hS67.rI 4 rfl) rfl (hS67.rI 0 rfl)
                refine ⟨_, rfl, ?_⟩
                refine LW.call pl24 rfl rfl ?_
                refine Ret.mono q ?_
                rintro _ w205 ⟨a203, c204, rfl, hs⟩
                have hS68 := hS67.add hs
                refine LW.nil ⟨rfl, (.c (St.cell (h := hS68) (i := 4) rfl) (.w (by kernel_rfl) Kept.n)), ?_⟩
                refine AW.u (i := 9) rfl (by kernel_rfl) rfl rfl (Pur.p rfl) ?_
                refine go ?_
                refine AW.one (i := 13) (by kernel_rfl) ?_
                refine ⟨_, rfl, ?_⟩
                refine LW.al hS68 fun g206 w207 hS69 => ?_
                refine LW.nil ⟨rfl, (.c (St.cell (h := hS69) (i := 5) rfl) (.c (St.cell (h := hS69) (i := 4) rfl) Kept.n)), ?_⟩
                refine AW.one (i := 14) (by kernel_rfl) ?_
                refine ⟨_, rfl, ?_⟩
                refine LW.st hS69 3 fun w208 hS70 => ?_
                refine LW.nil ⟨rfl, (.w (by kernel_rfl) (.w (by kernel_rfl) Kept.n)), ?_⟩
                refine AW.one (i := 15) (by kernel_rfl) ?_
                refine ⟨_, rfl, ?_⟩
                refine LW.st hS70 0 fun w209 hS71 => ?_
                refine LW.nil ⟨rfl, (.w (by kernel_rfl) (.w (by kernel_rfl) Kept.n)), ?_⟩
                refine go ?_
                cases oi h
                exact ⟨g184, g206, a203, c204, ⟨rfl, rfl, rfl, rfl, rfl, rfl, rfl, trivial⟩, hS71.pick [4, 5, 6, 3, 0, 1] rfl rfl⟩
              refine ⟨_, rfl, ?_⟩
              refine LW.al hS67 fun g210 w211 hS72 => ?_
              refine LW.nil ⟨rfl, (.c (St.cell (h := hS72) (i := 4) rfl) (.c (St.cell (h := hS72) (i := 3) rfl) Kept.n)), ?_⟩
              have q := W_l_do (w0 := w211) hy194 rfl (hS72.rI 5 rfl) rfl (hS72.rI 1 rfl)
              refine AW.one (i := 8) (by kernel_rfl) ?_
              refine ⟨_, rfl, ?_⟩
              refine LW.call pl24 rfl rfl ?_
              refine Ret.mono q ?_
              rintro _ w214 ⟨a212, c213, rfl, hs⟩
              have hS73 := hS72.add hs
              refine LW.nil ⟨rfl, (.c (St.cell (h := hS73) (i := 5) rfl) (.w (by kernel_rfl) Kept.n)), ?_⟩
              refine go ?_
              refine AW.one (i := 14) (by kernel_rfl) ?_
              refine ⟨_, rfl, ?_⟩
              refine LW.st hS73 3 fun w215 hS74 => ?_
              refine LW.nil ⟨rfl, (.w (by kernel_rfl) (.w (by kernel_rfl) Kept.n)), ?_⟩
              refine AW.one (i := 15) (by kernel_rfl) ?_
              refine ⟨_, rfl, ?_⟩
              refine LW.st hS74 1 fun w216 hS75 => ?_
              refine LW.nil ⟨rfl, (.w (by kernel_rfl) (.w (by kernel_rfl) Kept.n)), ?_⟩
              refine go ?_
              cases oi h
              exact ⟨g184, g210, a212, c213, ⟨rfl, rfl, rfl, rfl, rfl, rfl, rfl, trivial⟩, hS75.pick [4, 5, 6, 3, 1, 0] rfl rfl⟩
            refine ⟨_, rfl, ?_⟩
            refine LW.al hS66 fun g217 w218 hS76 => ?_
            refine LW.nil ⟨rfl, (.c (St.cell (h := hS76) (i := 3) rfl) (.c (St.cell (h := hS76) (i := 2) rfl) Kept.n)), ?_⟩
            refine AW.one (i := 7) (by kernel_rfl) ?_
            refine ⟨_, rfl, ?_⟩
            refine LW.bsl (α := DCall) (vs := [(0, .agg #[.int .i64 17, .int .i64 j24.2.1, .int .i64 y94, .int .i64 0, .int .i64 0, .int .i64 0])]) (cs := #[.int .i64 17, .int .i64 j24.2.1, .int .i64 y94, .int .i64 0, .int .i64 0, .int .i64 0]) (l := ([DCall.mk 17 j24.2.1 y94 0 0 0] : List DCall)) rfl (by kernel_rfl) rfl rfl rfl (fun w => ⟨[.int .i64 17, .int .i64 j24.2.1, .int .i64 y94, .int .i64 0, .int .i64 0, .int .i64 0], [], [], [], rfl, rfl, ⟨rfl, rfl⟩, rfl⟩) hS76 rfl ?_
            intro a219 c220 w221 hS77 hf
            refine LW.nil ⟨rfl, (.c (St.cell (h := hS77) (i := 4) rfl) (.c (St.cell (h := hS77) (i := 3) rfl) Kept.n)), ?_⟩
            replace ⟨y222, hy222, h⟩ := obind h
            have q := W_l_do (w0 := w221) hy222 rfl (hS77.rI 5 rfl) rfl (hS77.rI 0 rfl)
            refine AW.one (i := 8) (by kernel_rfl) ?_
            refine ⟨_, rfl, ?_⟩
            refine LW.call pl24 rfl rfl ?_
            refine Ret.mono q ?_
            rintro _ w225 ⟨a223, c224, rfl, hs⟩
            have hS78 := hS77.add hs
            refine LW.nil ⟨rfl, (.c (St.cell (h := hS78) (i := 5) rfl) (.w (by kernel_rfl) Kept.n)), ?_⟩
            refine go ?_
            refine AW.one (i := 14) (by kernel_rfl) ?_
            refine ⟨_, rfl, ?_⟩
            refine LW.st hS78 3 fun w226 hS79 => ?_
            refine LW.nil ⟨rfl, (.w (by kernel_rfl) (.w (by kernel_rfl) Kept.n)), ?_⟩
            refine AW.one (i := 15) (by kernel_rfl) ?_
            refine ⟨_, rfl, ?_⟩
            refine LW.st hS79 2 fun w227 hS80 => ?_
            refine LW.nil ⟨rfl, (.w (by kernel_rfl) (.w (by kernel_rfl) Kept.n)), ?_⟩
            refine go ?_
            cases oi h
            exact ⟨g184, g217, a223, c224, ⟨rfl, rfl, rfl, rfl, rfl, rfl, rfl, trivial⟩, hS80.pick [4, 5, 6, 3, 2, 0] rfl rfl⟩
          refine ⟨_, rfl, ?_⟩
          refine LW.al hS37 fun g228 w229 hS81 => ?_
          refine LW.nil ⟨rfl, (.c (St.cell (h := hS81) (i := 2) rfl) (.c (St.cell (h := hS81) (i := 1) rfl) Kept.n)), ?_⟩
          refine AW.all (rs := [7, 12]) (by kernel_rfl) (by simp) ⟨?_, ?_, trivial⟩
          · refine ⟨_, rfl, ?_⟩
            refine LW.bsl (α := DCall) (vs := [(0, .agg #[.int .i64 17, .int .i64 j24.2.1, .int .i64 y94, .int .i64 0, .int .i64 0, .int .i64 0])]) (cs := #[.int .i64 17, .int .i64 j24.2.1, .int .i64 y94, .int .i64 0, .int .i64 0, .int .i64 0]) (l := ([DCall.mk 17 j24.2.1 y94 0 0 0] : List DCall)) rfl (by kernel_rfl) rfl rfl rfl (fun w => ⟨[.int .i64 17, .int .i64 j24.2.1, .int .i64 y94, .int .i64 0, .int .i64 0, .int .i64 0], [], [], [], rfl, rfl, ⟨rfl, rfl⟩, rfl⟩) hS81 rfl ?_
            intro a235 c236 w237 hS82 hf
            refine LW.nil ⟨rfl, (.c (St.cell (h := hS82) (i := 3) rfl) (.c (St.cell (h := hS82) (i := 2) rfl) Kept.n)), ?_⟩
            replace ⟨y238, hy238, h⟩ := obind h
            refine AW.all (rs := [8, 12]) (by kernel_rfl) (by simp) ⟨?_, ?_, trivial⟩
            · have q := W_l_do (w0 := w237) hy238 rfl (hS82.rI 4 rfl) rfl (hS82.rI 0 rfl)
              refine ⟨_, rfl, ?_⟩
              refine LW.call pl24 rfl rfl ?_
              refine Ret.mono q ?_
              rintro _ w249 ⟨a247, c248, rfl, hs⟩
              have hS83 := hS82.add hs
              refine LW.nil ⟨rfl, (.c (St.cell (h := hS83) (i := 4) rfl) (.w (by kernel_rfl) Kept.n)), ?_⟩
              refine AW.u (i := 9) rfl (by kernel_rfl) rfl rfl (Pur.p rfl) ?_
              refine go ?_
              refine AW.one (i := 12) (by kernel_rfl) ?_
              refine ⟨_, rfl, ?_⟩
              refine LW.al hS83 fun g250 w251 hS84 => ?_
              refine LW.nil ⟨rfl, (.c (St.cell (h := hS84) (i := 5) rfl) (.c (St.cell (h := hS84) (i := 4) rfl) Kept.n)), ?_⟩
              refine AW.one (i := 14) (by kernel_rfl) ?_
              refine ⟨_, rfl, ?_⟩
              refine LW.st hS84 0 fun w252 hS85 => ?_
              refine LW.nil ⟨rfl, (.w (by kernel_rfl) (.w (by kernel_rfl) Kept.n)), ?_⟩
              refine AW.one (i := 15) (by kernel_rfl) ?_
              refine ⟨_, rfl, ?_⟩
              refine LW.st hS85 3 fun w253 hS86 => ?_
              refine LW.nil ⟨rfl, (.w (by kernel_rfl) (.w (by kernel_rfl) Kept.n)), ?_⟩
              refine go ?_
              cases oi h
              exact ⟨g250, g228, a247, c248, ⟨rfl, rfl, rfl, rfl, rfl, rfl, rfl, trivial⟩, hS86.pick [4, 5, 6, 0, 3, 1] rfl rfl⟩
            refine ⟨_, rfl, ?_⟩
            refine LW.al hS82 fun g254 w255 hS87 => ?_
            refine LW.nil ⟨rfl, (.c (St.cell (h := hS87) (i := 4) rfl) (.c (St.cell (h := hS87) (i := 3) rfl) Kept.n)), ?_⟩
            have q := W_l_do (w0 := w255) hy238 rfl (hS87.rI 5 rfl) rfl (hS87.rI 1 rfl)
            refine AW.one (i := 8) (by kernel_rfl) ?_
            refine ⟨_, rfl, ?_⟩
            refine LW.call pl24 rfl rfl ?_
            refine Ret.mono q ?_
            rintro _ w258 ⟨a256, c257, rfl, hs⟩
            have hS88 := hS87.add hs
            refine LW.nil ⟨rfl, (.c (St.cell (h := hS88) (i := 5) rfl) (.w (by kernel_rfl) Kept.n)), ?_⟩
            refine go ?_
            refine AW.one (i := 14) (by kernel_rfl) ?_
            refine ⟨_, rfl, ?_⟩
            refine LW.st hS88 1 fun w259 hS89 => ?_
            refine LW.nil ⟨rfl, (.w (by kernel_rfl) (.w (by kernel_rfl) Kept.n)), ?_⟩
            refine AW.one (i := 15) (by kernel_rfl) ?_
            refine ⟨_, rfl, ?_⟩
            refine LW.st hS89 3 fun w260 hS90 => ?_
            refine LW.nil ⟨rfl, (.w (by kernel_rfl) (.w (by kernel_rfl) Kept.n)), ?_⟩
            refine go ?_
            cases oi h
            exact ⟨g254, g228, a256, c257, ⟨rfl, rfl, rfl, rfl, rfl, rfl, rfl, trivial⟩, hS90.pick [4, 5, 6, 1, 3, 0] rfl rfl⟩
          refine ⟨_, rfl, ?_⟩
          refine LW.al hS81 fun g261 w262 hS91 => ?_
          refine LW.nil ⟨rfl, (.c (St.cell (h := hS91) (i := 3) rfl) (.c (St.cell (h := hS91) (i := 2) rfl) Kept.n)), ?_⟩
          refine AW.one (i := 7) (by kernel_rfl) ?_
          refine ⟨_, rfl, ?_⟩
          refine LW.bsl (α := DCall) (vs := [(0, .agg #[.int .i64 17, .int .i64 j24.2.1, .int .i64 y94, .int .i64 0, .int .i64 0, .int .i64 0])]) (cs := #[.int .i64 17, .int .i64 j24.2.1, .int .i64 y94, .int .i64 0, .int .i64 0, .int .i64 0]) (l := ([DCall.mk 17 j24.2.1 y94 0 0 0] : List DCall)) rfl (by kernel_rfl) rfl rfl rfl (fun w => ⟨[.int .i64 17, .int .i64 j24.2.1, .int .i64 y94, .int .i64 0, .int .i64 0, .int .i64 0], [], [], [], rfl, rfl, ⟨rfl, rfl⟩, rfl⟩) hS91 rfl ?_
          intro a263 c264 w265 hS92 hf
          refine LW.nil ⟨rfl, (.c (St.cell (h := hS92) (i := 4) rfl) (.c (St.cell (h := hS92) (i := 3) rfl) Kept.n)), ?_⟩
          replace ⟨y266, hy266, h⟩ := obind h
          have q := W_l_do (w0 := w265) hy266 rfl (hS92.rI 5 rfl) rfl (hS92.rI 0 rfl)
          refine AW.one (i := 8) (by kernel_rfl) ?_
          refine ⟨_, rfl, ?_⟩
          refine LW.call pl24 rfl rfl ?_
          refine Ret.mono q ?_
          rintro _ w269 ⟨a267, c268, rfl, hs⟩
          have hS93 := hS92.add hs
          refine LW.nil ⟨rfl, (.c (St.cell (h := hS93) (i := 5) rfl) (.w (by kernel_rfl) Kept.n)), ?_⟩
          refine go ?_
          refine AW.one (i := 14) (by kernel_rfl) ?_
          refine ⟨_, rfl, ?_⟩
          refine LW.st hS93 2 fun w270 hS94 => ?_
          refine LW.nil ⟨rfl, (.w (by kernel_rfl) (.w (by kernel_rfl) Kept.n)), ?_⟩
          refine AW.one (i := 15) (by kernel_rfl) ?_
          refine ⟨_, rfl, ?_⟩
          refine LW.st hS94 3 fun w271 hS95 => ?_
          refine LW.nil ⟨rfl, (.w (by kernel_rfl) (.w (by kernel_rfl) Kept.n)), ?_⟩
          refine go ?_
          cases oi h
          exact ⟨g261, g228, a267, c268, ⟨rfl, rfl, rfl, rfl, rfl, rfl, rfl, trivial⟩, hS95.pick [4, 5, 6, 2, 3, 0] rfl rfl⟩
        · refine ⟨_, rfl, ?_⟩
          refine LW.al hS36 fun g272 w273 hS96 => ?_
          refine LW.nil ⟨rfl, (.c (St.cell (h := hS96) (i := 2) rfl) (.c (St.cell (h := hS96) (i := 1) rfl) Kept.n)), ?_⟩
          refine AW.all (rs := [5, 13]) (by kernel_rfl) (by simp) ⟨?_, ?_, trivial⟩
          · have q := W_l_at (w0 := w273) hy94 rfl (hS96.rB hr0_0)
            refine ⟨_, rfl, ?_⟩
            refine LW.call pl26 rfl rfl ?_
            refine Ret.mono q ?_
            rintro _ w277 ⟨rfl, hs⟩
            have hS97 := hS96.add hs
            refine LW.nil ⟨rfl, (.c (St.cell (h := hS97) (i := 2) rfl) (.c (St.cell (h := hS97) (i := 1) rfl) Kept.n)), ?_⟩
            refine AW.u (i := 6) rfl (by kernel_rfl) rfl rfl (Pur.build (vs := [(0, .int .i64 17), (1, .int .i64 j24.2.1), (2, .int .i64 y94)]) (cs := #[.int .i64 17, .int .i64 j24.2.1, .int .i64 y94, .int .i64 0, .int .i64 0, .int .i64 0]) rfl (by kernel_rfl)) ?_
            refine AW.all (rs := [7, 13]) (by kernel_rfl) (by simp) ⟨?_, ?_, trivial⟩
            · refine ⟨_, rfl, ?_⟩
              refine LW.bsl (α := DCall) (vs := [(0, .agg #[.int .i64 17, .int .i64 j24.2.1, .int .i64 y94, .int .i64 0, .int .i64 0, .int .i64 0])]) (cs := #[.int .i64 17, .int .i64 j24.2.1, .int .i64 y94, .int .i64 0, .int .i64 0, .int .i64 0]) (l := ([DCall.mk 17 j24.2.1 y94 0 0 0] : List DCall)) rfl (by kernel_rfl) rfl rfl rfl (fun w => ⟨[.int .i64 17, .int .i64 j24.2.1, .int .i64 y94, .int .i64 0, .int .i64 0, .int .i64 0], [], [], [], rfl, rfl, ⟨rfl, rfl⟩, rfl⟩) hS97 rfl ?_
              intro a283 c284 w285 hS98 hf
              refine LW.nil ⟨rfl, (.c (St.cell (h := hS98) (i := 3) rfl) (.c (St.cell (h := hS98) (i := 2) rfl) Kept.n)), ?_⟩
              replace ⟨y286, hy286, h⟩ := obind h
              refine AW.all (rs := [8, 13]) (by kernel_rfl) (by simp) ⟨?_, ?_, trivial⟩
              · have q := W_l_do (w0 := w285) hy286 rfl (hS98.rI 4 rfl) rfl (hS98.rI 0 rfl)
                refine ⟨_, rfl, ?_⟩
                refine LW.call pl24 rfl rfl ?_
                refine Ret.mono q ?_
                rintro _ w297 ⟨a295, c296, rfl, hs⟩
                have hS99 := hS98.add hs
                refine LW.nil ⟨rfl, (.c (St.cell (h := hS99) (i := 4) rfl) (.w (by kernel_rfl) Kept.n)), ?_⟩
                refine AW.u (i := 9) rfl (by kernel_rfl) rfl rfl (Pur.p rfl) ?_
                refine go ?_
                refine AW.one (i := 13) (by kernel_rfl) ?_
                refine ⟨_, rfl, ?_⟩
                refine LW.al hS99 fun g298 w299 hS100 => ?_
                refine LW.nil ⟨rfl, (.c (St.cell (h := hS100) (i := 5) rfl) (.c (St.cell (h := hS100) (i := 4) rfl) Kept.n)), ?_⟩
                refine AW.one (i := 14) (by kernel_rfl) ?_
                refine ⟨_, rfl, ?_⟩
                refine LW.st hS100 3 fun w300 hS101 => ?_
                refine LW.nil ⟨rfl, (.w (by kernel_rfl) (.w (by kernel_rfl) Kept.n)), ?_⟩
                refine AW.one (i := 15) (by kernel_rfl) ?_
                refine ⟨_, rfl, ?_⟩
                refine LW.st hS101 0 fun w301 hS102 => ?_
                refine LW.nil ⟨rfl, (.w (by kernel_rfl) (.w (by kernel_rfl) Kept.n)), ?_⟩
                refine go ?_
                cases oi h
                exact ⟨g272, g298, a295, c296, ⟨rfl, rfl, rfl, rfl, rfl, rfl, rfl, trivial⟩, hS102.pick [4, 5, 6, 3, 0, 1] rfl rfl⟩
              refine ⟨_, rfl, ?_⟩
              refine LW.al hS98 fun g302 w303 hS103 => ?_
              refine LW.nil ⟨rfl, (.c (St.cell (h := hS103) (i := 4) rfl) (.c (St.cell (h := hS103) (i := 3) rfl) Kept.n)), ?_⟩
              have q := W_l_do (w0 := w303) hy286 rfl (hS103.rI 5 rfl) rfl (hS103.rI 1 rfl)
              refine AW.one (i := 8) (by kernel_rfl) ?_
              refine ⟨_, rfl, ?_⟩
              refine LW.call pl24 rfl rfl ?_
              refine Ret.mono q ?_
              rintro _ w306 ⟨a304, c305, rfl, hs⟩
              have hS104 := hS103.add hs
              refine LW.nil ⟨rfl, (.c (St.cell (h := hS104) (i := 5) rfl) (.w (by kernel_rfl) Kept.n)), ?_⟩
              refine go ?_
              refine AW.one (i := 14) (by kernel_rfl) ?_
              refine ⟨_, rfl, ?_⟩
              refine LW.st hS104 3 fun w307 hS105 => ?_
              refine LW.nil ⟨rfl, (.w (by kernel_rfl) (.w (by kernel_rfl) Kept.n)), ?_⟩
              refine AW.one (i := 15) (by kernel_rfl) ?_
              refine ⟨_, rfl, ?_⟩
              refine LW.st hS105 1 fun w308 hS106 => ?_
              refine LW.nil ⟨rfl, (.w (by kernel_rfl) (.w (by kernel_rfl) Kept.n)), ?_⟩
              refine go ?_
              cases oi h
              exact ⟨g272, g302, a304, c305, ⟨rfl, rfl, rfl, rfl, rfl, rfl, rfl, trivial⟩, hS106.pick [4, 5, 6, 3, 1, 0] rfl rfl⟩
            refine ⟨_, rfl, ?_⟩
            refine LW.al hS97 fun g309 w310 hS107 => ?_
            refine LW.nil ⟨rfl, (.c (St.cell (h := hS107) (i := 3) rfl) (.c (St.cell (h := hS107) (i := 2) rfl) Kept.n)), ?_⟩
            refine AW.one (i := 7) (by kernel_rfl) ?_
            refine ⟨_, rfl, ?_⟩
            refine LW.bsl (α := DCall) (vs := [(0, .agg #[.int .i64 17, .int .i64 j24.2.1, .int .i64 y94, .int .i64 0, .int .i64 0, .int .i64 0])]) (cs := #[.int .i64 17, .int .i64 j24.2.1, .int .i64 y94, .int .i64 0, .int .i64 0, .int .i64 0]) (l := ([DCall.mk 17 j24.2.1 y94 0 0 0] : List DCall)) rfl (by kernel_rfl) rfl rfl rfl (fun w => ⟨[.int .i64 17, .int .i64 j24.2.1, .int .i64 y94, .int .i64 0, .int .i64 0, .int .i64 0], [], [], [], rfl, rfl, ⟨rfl, rfl⟩, rfl⟩) hS107 rfl ?_
            intro a311 c312 w313 hS108 hf
            refine LW.nil ⟨rfl, (.c (St.cell (h := hS108) (i := 4) rfl) (.c (St.cell (h := hS108) (i := 3) rfl) Kept.n)), ?_⟩
            replace ⟨y314, hy314, h⟩ := obind h
            have q := W_l_do (w0 := w313) hy314 rfl (hS108.rI 5 rfl) rfl (hS108.rI 0 rfl)
            refine AW.one (i := 8) (by kernel_rfl) ?_
            refine ⟨_, rfl, ?_⟩
            refine LW.call pl24 rfl rfl ?_
            refine Ret.mono q ?_
            rintro _ w317 ⟨a315, c316, rfl, hs⟩
            have hS109 := hS108.add hs
            refine LW.nil ⟨rfl, (.c (St.cell (h := hS109) (i := 5) rfl) (.w (by kernel_rfl) Kept.n)), ?_⟩
            refine go ?_
            refine AW.one (i := 14) (by kernel_rfl) ?_
            refine ⟨_, rfl, ?_⟩
            refine LW.st hS109 3 fun w318 hS110 => ?_
            refine LW.nil ⟨rfl, (.w (by kernel_rfl) (.w (by kernel_rfl) Kept.n)), ?_⟩
            refine AW.one (i := 15) (by kernel_rfl) ?_
            refine ⟨_, rfl, ?_⟩
            refine LW.st hS110 2 fun w319 hS111 => ?_
            refine LW.nil ⟨rfl, (.w (by kernel_rfl) (.w (by kernel_rfl) Kept.n)), ?_⟩
            refine go ?_
            cases oi h
            exact ⟨g272, g309, a315, c316, ⟨rfl, rfl, rfl, rfl, rfl, rfl, rfl, trivial⟩, hS111.pick [4, 5, 6, 3, 2, 0] rfl rfl⟩
          refine ⟨_, rfl, ?_⟩
          refine LW.al hS96 fun g320 w321 hS112 => ?_
          refine LW.nil ⟨rfl, (.c (St.cell (h := hS112) (i := 3) rfl) (.c (St.cell (h := hS112) (i := 2) rfl) Kept.n)), ?_⟩
          have q := W_l_at (w0 := w321) hy94 rfl (hS112.rB hr0_0)
          refine AW.one (i := 5) (by kernel_rfl) ?_
          refine ⟨_, rfl, ?_⟩
          refine LW.call pl26 rfl rfl ?_
          refine Ret.mono q ?_
          rintro _ w322 ⟨rfl, hs⟩
          have hS113 := hS112.add hs
          refine LW.nil ⟨rfl, (.c (St.cell (h := hS113) (i := 3) rfl) (.c (St.cell (h := hS113) (i := 2) rfl) Kept.n)), ?_⟩
          refine AW.u (i := 6) rfl (by kernel_rfl) rfl rfl (Pur.build (vs := [(0, .int .i64 17), (1, .int .i64 j24.2.1), (2, .int .i64 y94)]) (cs := #[.int .i64 17, .int .i64 j24.2.1, .int .i64 y94, .int .i64 0, .int .i64 0, .int .i64 0]) rfl (by kernel_rfl)) ?_
          refine AW.one (i := 7) (by kernel_rfl) ?_
          refine ⟨_, rfl, ?_⟩
          refine LW.bsl (α := DCall) (vs := [(0, .agg #[.int .i64 17, .int .i64 j24.2.1, .int .i64 y94, .int .i64 0, .int .i64 0, .int .i64 0])]) (cs := #[.int .i64 17, .int .i64 j24.2.1, .int .i64 y94, .int .i64 0, .int .i64 0, .int .i64 0]) (l := ([DCall.mk 17 j24.2.1 y94 0 0 0] : List DCall)) rfl (by kernel_rfl) rfl rfl rfl (fun w => ⟨[.int .i64 17, .int .i64 j24.2.1, .int .i64 y94, .int .i64 0, .int .i64 0, .int .i64 0], [], [], [], rfl, rfl, ⟨rfl, rfl⟩, rfl⟩) hS113 rfl ?_
          intro a323 c324 w325 hS114 hf
          refine LW.nil ⟨rfl, (.c (St.cell (h := hS114) (i := 4) rfl) (.c (St.cell (h := hS114) (i := 3) rfl) Kept.n)), ?_⟩
          replace ⟨y326, hy326, h⟩ := obind h
          have q := W_l_do (w0 := w325) hy326 rfl (hS114.rI 5 rfl) rfl (hS114.rI 0 rfl)
          refine AW.one (i := 8) (by kernel_rfl) ?_
          refine ⟨_, rfl, ?_⟩
          refine LW.call pl24 rfl rfl ?_
          refine Ret.mono q ?_
          rintro _ w329 ⟨a327, c328, rfl, hs⟩
          have hS115 := hS114.add hs
          refine LW.nil ⟨rfl, (.c (St.cell (h := hS115) (i := 5) rfl) (.w (by kernel_rfl) Kept.n)), ?_⟩
          refine go ?_
          refine AW.one (i := 14) (by kernel_rfl) ?_
          refine ⟨_, rfl, ?_⟩
          refine LW.st hS115 3 fun w330 hS116 => ?_
          refine LW.nil ⟨rfl, (.w (by kernel_rfl) (.w (by kernel_rfl) Kept.n)), ?_⟩
          refine AW.one (i := 15) (by kernel_rfl) ?_
          refine ⟨_, rfl, ?_⟩
          refine LW.st hS116 2 fun w331 hS117 => ?_
          refine LW.nil ⟨rfl, (.w (by kernel_rfl) (.w (by kernel_rfl) Kept.n)), ?_⟩
          refine go ?_
          cases oi h
          exact ⟨g272, g320, a327, c328, ⟨rfl, rfl, rfl, rfl, rfl, rfl, rfl, trivial⟩, hS117.pick [4, 5, 6, 3, 2, 0] rfl rfl⟩
        refine ⟨_, rfl, ?_⟩
        refine LW.al hS36 fun g332 w333 hS118 => ?_
        refine LW.nil ⟨rfl, (.c (St.cell (h := hS118) (i := 2) rfl) (.c (St.cell (h := hS118) (i := 1) rfl) Kept.n)), ?_⟩
        refine AW.all (rs := [5, 12]) (by kernel_rfl) (by simp) ⟨?_, ?_, trivial⟩
        · have q := W_l_at (w0 := w333) hy94 rfl (hS118.rB hr0_0)
          refine ⟨_, rfl, ?_⟩
          refine LW.call pl26 rfl rfl ?_
          refine Ret.mono q ?_
          rintro _ w337 ⟨rfl, hs⟩
          have hS119 := hS118.add hs
          refine LW.nil ⟨rfl, (.c (St.cell (h := hS119) (i := 2) rfl) (.c (St.cell (h := hS119) (i := 1) rfl) Kept.n)), ?_⟩
          refine AW.u (i := 6) rfl (by kernel_rfl) rfl rfl (Pur.build (vs := [(0, .int .i64 17), (1, .int .i64 j24.2.1), (2, .int .i64 y94)]) (cs := #[.int .i64 17, .int .i64 j24.2.1, .int .i64 y94, .int .i64 0, .int .i64 0, .int .i64 0]) rfl (by kernel_rfl)) ?_
          refine AW.all (rs := [7, 12]) (by kernel_rfl) (by simp) ⟨?_, ?_, trivial⟩
          · refine ⟨_, rfl, ?_⟩
            refine LW.bsl (α := DCall) (vs := [(0, .agg #[.int .i64 17, .int .i64 j24.2.1, .int .i64 y94, .int .i64 0, .int .i64 0, .int .i64 0])]) (cs := #[.int .i64 17, .int .i64 j24.2.1, .int .i64 y94, .int .i64 0, .int .i64 0, .int .i64 0]) (l := ([DCall.mk 17 j24.2.1 y94 0 0 0] : List DCall)) rfl (by kernel_rfl) rfl rfl rfl (fun w => ⟨[.int .i64 17, .int .i64 j24.2.1, .int .i64 y94, .int .i64 0, .int .i64 0, .int .i64 0], [], [], [], rfl, rfl, ⟨rfl, rfl⟩, rfl⟩) hS119 rfl ?_
            intro a343 c344 w345 hS120 hf
            refine LW.nil ⟨rfl, (.c (St.cell (h := hS120) (i := 3) rfl) (.c (St.cell (h := hS120) (i := 2) rfl) Kept.n)), ?_⟩
            replace ⟨y346, hy346, h⟩ := obind h
            refine AW.all (rs := [8, 12]) (by kernel_rfl) (by simp) ⟨?_, ?_, trivial⟩
            · have q := W_l_do (w0 := w345) hy346 rfl (hS120.rI 4 rfl) rfl (hS120.rI 0 rfl)
              refine ⟨_, rfl, ?_⟩
              refine LW.call pl24 rfl rfl ?_
              refine Ret.mono q ?_
              rintro _ w357 ⟨a355, c356, rfl, hs⟩
              have hS121 := hS120.add hs
              refine LW.nil ⟨rfl, (.c (St.cell (h := hS121) (i := 4) rfl) (.w (by kernel_rfl) Kept.n)), ?_⟩
              refine AW.u (i := 9) rfl (by kernel_rfl) rfl rfl (Pur.p rfl) ?_
              refine go ?_
              refine AW.one (i := 12) (by kernel_rfl) ?_
              refine ⟨_, rfl, ?_⟩
              refine LW.al hS121 fun g358 w359 hS122 => ?_
              refine LW.nil ⟨rfl, (.c (St.cell (h := hS122) (i := 5) rfl) (.c (St.cell (h := hS122) (i := 4) rfl) Kept.n)), ?_⟩
              refine AW.one (i := 14) (by kernel_rfl) ?_
              refine ⟨_, rfl, ?_⟩
              refine LW.st hS122 0 fun w360 hS123 => ?_
              refine LW.nil ⟨rfl, (.w (by kernel_rfl) (.w (by kernel_rfl) Kept.n)), ?_⟩
              refine AW.one (i := 15) (by kernel_rfl) ?_
              refine ⟨_, rfl, ?_⟩
              refine LW.st hS123 3 fun w361 hS124 => ?_
              refine LW.nil ⟨rfl, (.w (by kernel_rfl) (.w (by kernel_rfl) Kept.n)), ?_⟩
              refine go ?_
              cases oi h
              exact ⟨g358, g332, a355, c356, ⟨rfl, rfl, rfl, rfl, rfl, rfl, rfl, trivial⟩, hS124.pick [4, 5, 6, 0, 3, 1] rfl rfl⟩
            refine ⟨_, rfl, ?_⟩
            refine LW.al hS120 fun g362 w363 hS125 => ?_
            refine LW.nil ⟨rfl, (.c (St.cell (h := hS125) (i := 4) rfl) (.c (St.cell (h := hS125) (i := 3) rfl) Kept.n)), ?_⟩
            have q := W_l_do (w0 := w363) hy346 rfl (hS125.rI 5 rfl) rfl (hS125.rI 1 rfl)
            refine AW.one (i := 8) (by kernel_rfl) ?_
            refine ⟨_, rfl, ?_⟩
            refine LW.call pl24 rfl rfl ?_
            refine Ret.mono q ?_
            rintro _ w366 ⟨a364, c365, rfl, hs⟩
            have hS126 := hS125.add hs
            refine LW.nil ⟨rfl, (.c (St.cell (h := hS126) (i := 5) rfl) (.w (by kernel_rfl) Kept.n)), ?_⟩
            refine go ?_
            refine AW.one (i := 14) (by kernel_rfl) ?_
            refine ⟨_, rfl, ?_⟩
            refine LW.st hS126 1 fun w367 hS127 => ?_
            refine LW.nil ⟨rfl, (.w (by kernel_rfl) (.w (by kernel_rfl) Kept.n)), ?_⟩
            refine AW.one (i := 15) (by kernel_rfl) ?_
            refine ⟨_, rfl, ?_⟩
            refine LW.st hS127 3 fun w368 hS128 => ?_
            refine LW.nil ⟨rfl, (.w (by kernel_rfl) (.w (by kernel_rfl) Kept.n)), ?_⟩
            refine go ?_
            cases oi h
            exact ⟨g362, g332, a364, c365, ⟨rfl, rfl, rfl, rfl, rfl, rfl, rfl, trivial⟩, hS128.pick [4, 5, 6, 1, 3, 0] rfl rfl⟩
          refine ⟨_, rfl, ?_⟩
          refine LW.al hS119 fun g369 w370 hS129 => ?_
          refine LW.nil ⟨rfl, (.c (St.cell (h := hS129) (i := 3) rfl) (.c (St.cell (h := hS129) (i := 2) rfl) Kept.n)), ?_⟩
          refine AW.one (i := 7) (by kernel_rfl) ?_
          refine ⟨_, rfl, ?_⟩
          refine LW.bsl (α := DCall) (vs := [(0, .agg #[.int .i64 17, .int .i64 j24.2.1, .int .i64 y94, .int .i64 0, .int .i64 0, .int .i64 0])]) (cs := #[.int .i64 17, .int .i64 j24.2.1, .int .i64 y94, .int .i64 0, .int .i64 0, .int .i64 0]) (l := ([DCall.mk 17 j24.2.1 y94 0 0 0] : List DCall)) rfl (by kernel_rfl) rfl rfl rfl (fun w => ⟨[.int .i64 17, .int .i64 j24.2.1, .int .i64 y94, .int .i64 0, .int .i64 0, .int .i64 0], [], [], [], rfl, rfl, ⟨rfl, rfl⟩, rfl⟩) hS129 rfl ?_
          intro a371 c372 w373 hS130 hf
          refine LW.nil ⟨rfl, (.c (St.cell (h := hS130) (i := 4) rfl) (.c (St.cell (h := hS130) (i := 3) rfl) Kept.n)), ?_⟩
          replace ⟨y374, hy374, h⟩ := obind h
          have q := W_l_do (w0 := w373) hy374 rfl (hS130.rI 5 rfl) rfl (hS130.rI 0 rfl)
          refine AW.one (i := 8) (by kernel_rfl) ?_
          refine ⟨_, rfl, ?_⟩
          refine LW.call pl24 rfl rfl ?_
          refine Ret.mono q ?_
          rintro _ w377 ⟨a375, c376, rfl, hs⟩
          have hS131 := hS130.add hs
          refine LW.nil ⟨rfl, (.c (St.cell (h := hS131) (i := 5) rfl) (.w (by kernel_rfl) Kept.n)), ?_⟩
          refine go ?_
          refine AW.one (i := 14) (by kernel_rfl) ?_
          refine ⟨_, rfl, ?_⟩
          refine LW.st hS131 2 fun w378 hS132 => ?_
          refine LW.nil ⟨rfl, (.w (by kernel_rfl) (.w (by kernel_rfl) Kept.n)), ?_⟩
          refine AW.one (i := 15) (by kernel_rfl) ?_
          refine ⟨_, rfl, ?_⟩
          refine LW.st hS132 3 fun w379 hS133 => ?_
          refine LW.nil ⟨rfl, (.w (by kernel_rfl) (.w (by kernel_rfl) Kept.n)), ?_⟩
          refine go ?_
          cases oi h
          exact ⟨g369, g332, a375, c376, ⟨rfl, rfl, rfl, rfl, rfl, rfl, rfl, trivial⟩, hS133.pick [4, 5, 6, 2, 3, 0] rfl rfl⟩
        refine ⟨_, rfl, ?_⟩
        refine LW.al hS118 fun g380 w381 hS134 => ?_
        refine LW.nil ⟨rfl, (.c (St.cell (h := hS134) (i := 3) rfl) (.c (St.cell (h := hS134) (i := 2) rfl) Kept.n)), ?_⟩
        have q := W_l_at (w0 := w381) hy94 rfl (hS134.rB hr0_0)
        refine AW.one (i := 5) (by kernel_rfl) ?_
        refine ⟨_, rfl, ?_⟩
        refine LW.call pl26 rfl rfl ?_
        refine Ret.mono q ?_
        rintro _ w382 ⟨rfl, hs⟩
        have hS135 := hS134.add hs
        refine LW.nil ⟨rfl, (.c (St.cell (h := hS135) (i := 3) rfl) (.c (St.cell (h := hS135) (i := 2) rfl) Kept.n)), ?_⟩
        refine AW.u (i := 6) rfl (by kernel_rfl) rfl rfl (Pur.build (vs := [(0, .int .i64 17), (1, .int .i64 j24.2.1), (2, .int .i64 y94)]) (cs := #[.int .i64 17, .int .i64 j24.2.1, .int .i64 y94, .int .i64 0, .int .i64 0, .int .i64 0]) rfl (by kernel_rfl)) ?_
        refine AW.one (i := 7) (by kernel_rfl) ?_
        refine ⟨_, rfl, ?_⟩
        refine LW.bsl (α := DCall) (vs := [(0, .agg #[.int .i64 17, .int .i64 j24.2.1, .int .i64 y94, .int .i64 0, .int .i64 0, .int .i64 0])]) (cs := #[.int .i64 17, .int .i64 j24.2.1, .int .i64 y94, .int .i64 0, .int .i64 0, .int .i64 0]) (l := ([DCall.mk 17 j24.2.1 y94 0 0 0] : List DCall)) rfl (by kernel_rfl) rfl rfl rfl (fun w => ⟨[.int .i64 17, .int .i64 j24.2.1, .int .i64 y94, .int .i64 0, .int .i64 0, .int .i64 0], [], [], [], rfl, rfl, ⟨rfl, rfl⟩, rfl⟩) hS135 rfl ?_
        intro a383 c384 w385 hS136 hf
        refine LW.nil ⟨rfl, (.c (St.cell (h := hS136) (i := 4) rfl) (.c (St.cell (h := hS136) (i := 3) rfl) Kept.n)), ?_⟩
        replace ⟨y386, hy386, h⟩ := obind h
        have q := W_l_do (w0 := w385) hy386 rfl (hS136.rI 5 rfl) rfl (hS136.rI 0 rfl)
        refine AW.one (i := 8) (by kernel_rfl) ?_
        refine ⟨_, rfl, ?_⟩
        refine LW.call pl24 rfl rfl ?_
        refine Ret.mono q ?_
        rintro _ w389 ⟨a387, c388, rfl, hs⟩
        have hS137 := hS136.add hs
        refine LW.nil ⟨rfl, (.c (St.cell (h := hS137) (i := 5) rfl) (.w (by kernel_rfl) Kept.n)), ?_⟩
        refine go ?_
        refine AW.one (i := 14) (by kernel_rfl) ?_
        refine ⟨_, rfl, ?_⟩
        refine LW.st hS137 2 fun w390 hS138 => ?_
        refine LW.nil ⟨rfl, (.w (by kernel_rfl) (.w (by kernel_rfl) Kept.n)), ?_⟩
        refine AW.one (i := 15) (by kernel_rfl) ?_
        refine ⟨_, rfl, ?_⟩
        refine LW.st hS138 3 fun w391 hS139 => ?_
        refine LW.nil ⟨rfl, (.w (by kernel_rfl) (.w (by kernel_rfl) Kept.n)), ?_⟩
        refine go ?_
        cases oi h
        exact ⟨g380, g332, a387, c388, ⟨rfl, rfl, rfl, rfl, rfl, rfl, rfl, trivial⟩, hS139.pick [4, 5, 6, 2, 3, 0] rfl rfl⟩
      rintro e w392 ⟨j92g8, j92g9, j92a2, j92c2, hE, hS140⟩
      obtain ⟨e, rfl⟩ := hE.out
      have h := h93
      refine go ?_
      refine LW.u (Pur.build (vs := []) (cs := #[.int .i64 0, .int .i64 0]) rfl (by kernel_rfl)) rfl ?_
      refine LW.u (Pur.ane eg62 rfl rfl (fun w => eq62 (DReply.mk j92.2.2.1 j92.2.2.2) (DReply.mk 0 0) w)) rfl ?_
      refine go ?_
      refine cd (fun hc393 => ?_) fun hc393 => ?_
      · replace h := bcT h hc393
        refine go ?_
        cases oi h
        exact ⟨trivial, rfl, _, rfl, ⟨_, Res.one (resOne.t rfl), rfl, hS140.pick [] rfl rfl⟩⟩
      replace h := bcF h hc393
      refine go ?_
      refine LW.st hS140 0 fun w394 hS141 => ?_
      refine go ?_
      cases oi h
      exact ⟨rfl, ⟨j92a2, j92c2, ⟨rfl, rfl, rfl, rfl, rfl, trivial⟩, hS141.pick [0, 1, 5] rfl rfl⟩⟩
    replace h := bcF h hc91
    refine go ?_
    cases oi h
    exact ⟨trivial, rfl, ⟨s89a0, s89c0, ⟨rfl, rfl, rfl, rfl, trivial⟩, hS35.pick [0, 1, 2] rfl rfl⟩⟩
  intro x e w397 hM
  rcases o395 with o395 | r777
  · obtain ⟨rfl, hM⟩ := hM
    obtain ⟨s89a0, s89c0, hE, hS142⟩ := hM
    obtain ⟨e, rfl⟩ := hE.out
    have h := h396
    refine gs ?_
    obtain ⟨j398, hj398, h399⟩ := obind h
    refine CW.jn [0, 4, 5, 6] [0, 1, 2] [(73, .bool j398)] hS142 (h1 := ?_) (h2 := ?_)
    · have h := hj398
      refine go ?_
      rcases bcases ((o395.2.2.length : Int) != 2) with hc400 | hc400
      · replace h := bcT h hc400
        refine go ?_
        cases oi h
        exact ⟨⟨rfl, rfl, rfl, rfl, rfl, trivial⟩, hS142.pick [0, 1, 2] rfl rfl⟩
      replace h := bcF h hc400
      refine go ?_
      refine LW.fl [0, 4, 5, 6, 63, 65] fun e => ?_
      replace ⟨y401, hy401, h⟩ := obind h
      obtain ⟨b404, o405, hae, hp402, hq403⟩ := hS142.ownIdx (α := DPart) (i := 2) rfl hy401
      subst hae
      refine go ?_
      refine LW.u (Pur.ix Try.underlying57 sz40 rfl rfl hp402 hq403) rfl ?_
      refine go ?_
      obtain ⟨F406, ho407, hS143⟩ := hS142.freeze (α := DPart) 2 rfl
      obtain ⟨b408, o409, cs410, hae, hb413, _, _, hd411, hk412⟩ := ho407.rdF.idx hy401
      cases hae
      obtain ⟨a414, c415, a417, c418, a420, c421, a423, c424, a426, c427, a429, c430, rfl, hr416, hr419, hr422, hr425, hr428, hr431⟩ := hd411
      refine go ?_
      refine LW.l (Ldr.old w397 ag3 rfl (hk412 15 _ rfl)) (hS143.zC 2 rfl hb413) rfl ?_
      refine go ?_
      refine LW.u (Pur.mx rfl rfl) rfl ?_
      refine go ?_
      have hS144 := hS143.thaw (α := DPart) 2 rfl ho407
      cases oi h
      exact ⟨⟨rfl, rfl, rfl, rfl, rfl, trivial⟩, hS144.pick [0, 1, 2] rfl rfl⟩
    intro e w432 hS145
    have h := h399
    refine go ?_
    refine CW.fl [0, 4, 5, 6, 73] fun e => ?_
    refine cd (fun hc433 => ?_) fun hc433 => ?_
    · replace h := bcT h hc433
      refine go ?_
      cases h
      exact fi hS145
    replace h := bcF h hc433
    refine gs ?_
    obtain ⟨j434, hj434, h435⟩ := obind h
    refine CW.cut (fun e wb => ∃ (j434g11 : Nat), En e [(0, .slice a0_0 x0.length c0_0), (4, .pointer (some ⟨g21, 0, none⟩)), (5, .pointer (some ⟨j24g5, 0, none⟩)), (6, .int .i64 (Int.tmod y87 6)), (11, .pointer (some ⟨j434g11, 0, none⟩))] ∧ St w0 [] wb [bx g21 59 [.int .i64 o395.2.1, .slice s89a0 o395.2.2.length s89c0], bx j24g5 62 [.int .i64 j24.1, .int .i64 j24.2.1], sl s89a0 s89c0 o395.2.2, bx j434g11 62 [.int .i64 j434.1, .int .i64 j434.2]]) ?_ ?_
    · have h := hj434
      refine CW.draw (by kernel_rfl) ?_
      have hS146 := hS145.drew
      refine go ?_
      replace ⟨y436, hy436, h⟩ := obind h
      refine AW.all (rs := [1, 8, 9]) (by kernel_rfl) (by simp) ⟨?_, ?_, ?_, trivial⟩
      · have q := W_s_HandleOf (w0 := w432.drew) hy436
        refine ⟨_, rfl, ?_⟩
        refine LW.call pl25 rfl rfl ?_
        refine Ret.mono q ?_
        rintro _ w443 ⟨rfl, hs⟩
        have hS147 := hS146.add hs
        refine LW.nil ⟨rfl, (.c (St.cell (h := hS147) (i := 0) rfl) Kept.n), ?_⟩
        refine AW.u (i := 2) rfl (by kernel_rfl) rfl rfl (Pur.build (vs := [(0, .int .i64 17), (1, .int .i64 y436)]) (cs := #[.int .i64 17, .int .i64 y436, .int .i64 0, .int .i64 0, .int .i64 0, .int .i64 0]) rfl (by kernel_rfl)) ?_
        refine AW.all (rs := [3, 8, 9]) (by kernel_rfl) (by simp) ⟨?_, ?_, ?_, trivial⟩
        · refine ⟨_, rfl, ?_⟩
          refine LW.bsl (α := DCall) (vs := [(0, .agg #[.int .i64 17, .int .i64 y436, .int .i64 0, .int .i64 0, .int .i64 0, .int .i64 0])]) (cs := #[.int .i64 17, .int .i64 y436, .int .i64 0, .int .i64 0, .int .i64 0, .int .i64 0]) (l := ([DCall.mk 17 y436 0 0 0 0] : List DCall)) rfl (by kernel_rfl) rfl rfl rfl (fun w => ⟨[.int .i64 17, .int .i64 y436, .int .i64 0, .int .i64 0, .int .i64 0, .int .i64 0], [], [], [], rfl, rfl, ⟨rfl, rfl⟩, rfl⟩) hS147 rfl ?_
          intro a451 c452 w453 hS148 hf
          refine LW.nil ⟨rfl, (.c (St.cell (h := hS148) (i := 1) rfl) Kept.n), ?_⟩
          replace ⟨y454, hy454, h⟩ := obind h
          refine AW.all (rs := [4, 8, 9]) (by kernel_rfl) (by simp) ⟨?_, ?_, ?_, trivial⟩
          · have q := W_l_do (w0 := w453) hy454 rfl (hS148.rI 3 rfl) rfl (hS148.rI 0 rfl)
            refine ⟨_, rfl, ?_⟩
            refine LW.call pl24 rfl rfl ?_
            refine Ret.mono q ?_
            rintro _ w467 ⟨a465, c466, rfl, hs⟩
            have hS149 := hS148.add hs
            refine LW.nil ⟨rfl, (.w (by kernel_rfl) Kept.n), ?_⟩
            refine AW.u (i := 5) rfl (by kernel_rfl) rfl rfl (Pur.p rfl) ?_
            refine go ?_
            refine AW.all (rs := [8, 9]) (by kernel_rfl) (by simp) ⟨?_, ?_, trivial⟩
            · refine ⟨_, rfl, ?_⟩
              refine LW.al hS149 fun g472 w473 hS150 => ?_
              refine LW.nil ⟨rfl, (.c (St.cell (h := hS150) (i := 3) rfl) Kept.n), ?_⟩
              refine AW.one (i := 9) (by kernel_rfl) ?_
              refine ⟨_, rfl, ?_⟩
              refine LW.al hS150 fun g474 w475 hS151 => ?_
              refine LW.nil ⟨rfl, (.c (St.cell (h := hS151) (i := 4) rfl) Kept.n), ?_⟩
              refine AW.one (i := 10) (by kernel_rfl) ?_
              refine ⟨_, rfl, ?_⟩
              refine LW.st hS151 1 fun w476 hS152 => ?_
              refine LW.nil ⟨rfl, (.w (by kernel_rfl) Kept.n), ?_⟩
              refine AW.one (i := 11) (by kernel_rfl) ?_
              refine ⟨_, rfl, ?_⟩
              refine LW.st hS152 0 fun w477 hS153 => ?_
              refine LW.nil ⟨rfl, (.w (by kernel_rfl) Kept.n), ?_⟩
              refine go ?_
              cases oi h
              exact ⟨g474, ⟨rfl, rfl, rfl, rfl, rfl, trivial⟩, hS153.pick [4, 5, 6, 0] rfl rfl⟩
            refine ⟨_, rfl, ?_⟩
            refine LW.al hS149 fun g478 w479 hS154 => ?_
            refine LW.nil ⟨rfl, (.c (St.cell (h := hS154) (i := 3) rfl) Kept.n), ?_⟩
            refine AW.one (i := 8) (by kernel_rfl) ?_
            refine ⟨_, rfl, ?_⟩
            refine LW.al hS154 fun g480 w481 hS155 => ?_
            refine LW.nil ⟨rfl, (.c (St.cell (h := hS155) (i := 4) rfl) Kept.n), ?_⟩
            refine AW.one (i := 10) (by kernel_rfl) ?_
            refine ⟨_, rfl, ?_⟩
            refine LW.st hS155 0 fun w482 hS156 => ?_
            refine LW.nil ⟨rfl, (.w (by kernel_rfl) Kept.n), ?_⟩
            refine AW.one (i := 11) (by kernel_rfl) ?_
            refine ⟨_, rfl, ?_⟩
            refine LW.st hS156 1 fun w483 hS157 => ?_
            refine LW.nil ⟨rfl, (.w (by kernel_rfl) Kept.n), ?_⟩
            refine go ?_
            cases oi h
            exact ⟨g478, ⟨rfl, rfl, rfl, rfl, rfl, trivial⟩, hS157.pick [4, 5, 6, 1] rfl rfl⟩
          · refine ⟨_, rfl, ?_⟩
            refine LW.al hS148 fun g484 w485 hS158 => ?_
            refine LW.nil ⟨rfl, (.c (St.cell (h := hS158) (i := 2) rfl) Kept.n), ?_⟩
            refine AW.all (rs := [4, 9]) (by kernel_rfl) (by simp) ⟨?_, ?_, trivial⟩
            · have q := W_l_do (w0 := w485) hy454 rfl (hS158.rI 4 rfl) rfl (hS158.rI 1 rfl)
              refine ⟨_, rfl, ?_⟩
              refine LW.call pl24 rfl rfl ?_
              refine Ret.mono q ?_
              rintro _ w493 ⟨a491, c492, rfl, hs⟩
              have hS159 := hS158.add hs
              refine LW.nil ⟨rfl, (.w (by kernel_rfl) Kept.n), ?_⟩
              refine AW.u (i := 5) rfl (by kernel_rfl) rfl rfl (Pur.p rfl) ?_
              refine go ?_
              refine AW.one (i := 9) (by kernel_rfl) ?_
              refine ⟨_, rfl, ?_⟩
              refine LW.al hS159 fun g494 w495 hS160 => ?_
              refine LW.nil ⟨rfl, (.c (St.cell (h := hS160) (i := 4) rfl) Kept.n), ?_⟩
              refine AW.one (i := 10) (by kernel_rfl) ?_
              refine ⟨_, rfl, ?_⟩
              refine LW.st hS160 2 fun w496 hS161 => ?_
              refine LW.nil ⟨rfl, (.w (by kernel_rfl) Kept.n), ?_⟩
              refine AW.one (i := 11) (by kernel_rfl) ?_
              refine ⟨_, rfl, ?_⟩
              refine LW.st hS161 0 fun w497 hS162 => ?_
              refine LW.nil ⟨rfl, (.w (by kernel_rfl) Kept.n), ?_⟩
              refine go ?_
              cases oi h
              exact ⟨g494, ⟨rfl, rfl, rfl, rfl, rfl, trivial⟩, hS162.pick [4, 5, 6, 0] rfl rfl⟩
            refine ⟨_, rfl, ?_⟩
            refine LW.al hS158 fun g498 w499 hS163 => ?_
            refine LW.nil ⟨rfl, (.c (St.cell (h := hS163) (i := 3) rfl) Kept.n), ?_⟩
            have q := W_l_do (w0 := w499) hy454 rfl (hS163.rI 5 rfl) rfl (hS163.rI 2 rfl)
            refine AW.one (i := 4) (by kernel_rfl) ?_
            refine ⟨_, rfl, ?_⟩
            refine LW.call pl24 rfl rfl ?_
            refine Ret.mono q ?_
            rintro _ w502 ⟨a500, c501, rfl, hs⟩
            have hS164 := hS163.add hs
            refine LW.nil ⟨rfl, (.w (by kernel_rfl) Kept.n), ?_⟩
            refine go ?_
            refine AW.one (i := 10) (by kernel_rfl) ?_
            refine ⟨_, rfl, ?_⟩
            refine LW.st hS164 2 fun w503 hS165 => ?_
            refine LW.nil ⟨rfl, (.w (by kernel_rfl) Kept.n), ?_⟩
            refine AW.one (i := 11) (by kernel_rfl) ?_
            refine ⟨_, rfl, ?_⟩
            refine LW.st hS165 1 fun w504 hS166 => ?_
            refine LW.nil ⟨rfl, (.w (by kernel_rfl) Kept.n), ?_⟩
            refine go ?_
            cases oi h
            exact ⟨g498, ⟨rfl, rfl, rfl, rfl, rfl, trivial⟩, hS166.pick [4, 5, 6, 1] rfl rfl⟩
          refine ⟨_, rfl, ?_⟩
          refine LW.al hS148 fun g505 w506 hS167 => ?_
          refine LW.nil ⟨rfl, (.c (St.cell (h := hS167) (i := 2) rfl) Kept.n), ?_⟩
          refine AW.all (rs := [4, 8]) (by kernel_rfl) (by simp) ⟨?_, ?_, trivial⟩
          · have q := W_l_do (w0 := w506) hy454 rfl (hS167.rI 4 rfl) rfl (hS167.rI 1 rfl)
            refine ⟨_, rfl, ?_⟩
            refine LW.call pl24 rfl rfl ?_
            refine Ret.mono q ?_
            rintro _ w514 ⟨a512, c513, rfl, hs⟩
            have hS168 := hS167.add hs
            refine LW.nil ⟨rfl, (.w (by kernel_rfl) Kept.n), ?_⟩
            refine AW.u (i := 5) rfl (by kernel_rfl) rfl rfl (Pur.p rfl) ?_
            refine go ?_
            refine AW.one (i := 8) (by kernel_rfl) ?_
            refine ⟨_, rfl, ?_⟩
            refine LW.al hS168 fun g515 w516 hS169 => ?_
            refine LW.nil ⟨rfl, (.c (St.cell (h := hS169) (i := 4) rfl) Kept.n), ?_⟩
            refine AW.one (i := 10) (by kernel_rfl) ?_
            refine ⟨_, rfl, ?_⟩
            refine LW.st hS169 0 fun w517 hS170 => ?_
            refine LW.nil ⟨rfl, (.w (by kernel_rfl) Kept.n), ?_⟩
            refine AW.one (i := 11) (by kernel_rfl) ?_
            refine ⟨_, rfl, ?_⟩
            refine LW.st hS170 2 fun w518 hS171 => ?_
            refine LW.nil ⟨rfl, (.w (by kernel_rfl) Kept.n), ?_⟩
            refine go ?_
            cases oi h
            exact ⟨g505, ⟨rfl, rfl, rfl, rfl, rfl, trivial⟩, hS171.pick [4, 5, 6, 2] rfl rfl⟩
          refine ⟨_, rfl, ?_⟩
          refine LW.al hS167 fun g519 w520 hS172 => ?_
          refine LW.nil ⟨rfl, (.c (St.cell (h := hS172) (i := 3) rfl) Kept.n), ?_⟩
          have q := W_l_do (w0 := w520) hy454 rfl (hS172.rI 5 rfl) rfl (hS172.rI 2 rfl)
          refine AW.one (i := 4) (by kernel_rfl) ?_
          refine ⟨_, rfl, ?_⟩
          refine LW.call pl24 rfl rfl ?_
          refine Ret.mono q ?_
          rintro _ w523 ⟨a521, c522, rfl, hs⟩
          have hS173 := hS172.add hs
          refine LW.nil ⟨rfl, (.w (by kernel_rfl) Kept.n), ?_⟩
          refine go ?_
          refine AW.one (i := 10) (by kernel_rfl) ?_
          refine ⟨_, rfl, ?_⟩
          refine LW.st hS173 1 fun w524 hS174 => ?_
          refine LW.nil ⟨rfl, (.w (by kernel_rfl) Kept.n), ?_⟩
          refine AW.one (i := 11) (by kernel_rfl) ?_
          refine ⟨_, rfl, ?_⟩
          refine LW.st hS174 2 fun w525 hS175 => ?_
          refine LW.nil ⟨rfl, (.w (by kernel_rfl) Kept.n), ?_⟩
          refine go ?_
          cases oi h
          exact ⟨g505, ⟨rfl, rfl, rfl, rfl, rfl, trivial⟩, hS175.pick [4, 5, 6, 2] rfl rfl⟩
        · refine ⟨_, rfl, ?_⟩
          refine LW.al hS147 fun g526 w527 hS176 => ?_
          refine LW.nil ⟨rfl, (.c (St.cell (h := hS176) (i := 1) rfl) Kept.n), ?_⟩
          refine AW.all (rs := [3, 9]) (by kernel_rfl) (by simp) ⟨?_, ?_, trivial⟩
          · refine ⟨_, rfl, ?_⟩
            refine LW.bsl (α := DCall) (vs := [(0, .agg #[.int .i64 17, .int .i64 y436, .int .i64 0, .int .i64 0, .int .i64 0, .int .i64 0])]) (cs := #[.int .i64 17, .int .i64 y436, .int .i64 0, .int .i64 0, .int .i64 0, .int .i64 0]) (l := ([DCall.mk 17 y436 0 0 0 0] : List DCall)) rfl (by kernel_rfl) rfl rfl rfl (fun w => ⟨[.int .i64 17, .int .i64 y436, .int .i64 0, .int .i64 0, .int .i64 0, .int .i64 0], [], [], [], rfl, rfl, ⟨rfl, rfl⟩, rfl⟩) hS176 rfl ?_
            intro a533 c534 w535 hS177 hf
            refine LW.nil ⟨rfl, (.c (St.cell (h := hS177) (i := 2) rfl) Kept.n), ?_⟩
            replace ⟨y536, hy536, h⟩ := obind h
            refine AW.all (rs := [4, 9]) (by kernel_rfl) (by simp) ⟨?_, ?_, trivial⟩
            · have q := W_l_do (w0 := w535) hy536 rfl (hS177.rI 4 rfl) rfl (hS177.rI 0 rfl)
              refine ⟨_, rfl, ?_⟩
              refine LW.call pl24 rfl rfl ?_
              refine Ret.mono q ?_
              rintro _ w547 ⟨a545, c546, rfl, hs⟩
              have hS178 := hS177.add hs
              refine LW.nil ⟨rfl, (.w (by kernel_rfl) Kept.n), ?_⟩
              refine AW.u (i := 5) rfl (by kernel_rfl) rfl rfl (Pur.p rfl) ?_
              refine go ?_
              refine AW.one (i := 9) (by kernel_rfl) ?_
              refine ⟨_, rfl, ?_⟩
              refine LW.al hS178 fun g548 w549 hS179 => ?_
              refine LW.nil ⟨rfl, (.c (St.cell (h := hS179) (i := 4) rfl) Kept.n), ?_⟩
              refine AW.one (i := 10) (by kernel_rfl) ?_
              refine ⟨_, rfl, ?_⟩
              refine LW.st hS179 3 fun w550 hS180 => ?_
              refine LW.nil ⟨rfl, (.w (by kernel_rfl) Kept.n), ?_⟩
              refine AW.one (i := 11) (by kernel_rfl) ?_
              refine ⟨_, rfl, ?_⟩
              refine LW.st hS180 0 fun w551 hS181 => ?_
              refine LW.nil ⟨rfl, (.w (by kernel_rfl) Kept.n), ?_⟩
              refine go ?_
              cases oi h
              exact ⟨g548, ⟨rfl, rfl, rfl, rfl, rfl, trivial⟩, hS181.pick [4, 5, 6, 0] rfl rfl⟩
            refine ⟨_, rfl, ?_⟩
            refine LW.al hS177 fun g552 w553 hS182 => ?_
            refine LW.nil ⟨rfl, (.c (St.cell (h := hS182) (i := 3) rfl) Kept.n), ?_⟩
            have q := W_l_do (w0 := w553) hy536 rfl (hS182.rI 5 rfl) rfl (hS182.rI 1 rfl)
            refine AW.one (i := 4) (by kernel_rfl) ?_
            refine ⟨_, rfl, ?_⟩
            refine LW.call pl24 rfl rfl ?_
            refine Ret.mono q ?_
            rintro _ w556 ⟨a554, c555, rfl, hs⟩
            have hS183 := hS182.add hs
            refine LW.nil ⟨rfl, (.w (by kernel_rfl) Kept.n), ?_⟩
            refine go ?_
            refine AW.one (i := 10) (by kernel_rfl) ?_
            refine ⟨_, rfl, ?_⟩
            refine LW.st hS183 3 fun w557 hS184 => ?_
            refine LW.nil ⟨rfl, (.w (by kernel_rfl) Kept.n), ?_⟩
            refine AW.one (i := 11) (by kernel_rfl) ?_
            refine ⟨_, rfl, ?_⟩
            refine LW.st hS184 1 fun w558 hS185 => ?_
            refine LW.nil ⟨rfl, (.w (by kernel_rfl) Kept.n), ?_⟩
            refine go ?_
            cases oi h
            exact ⟨g552, ⟨rfl, rfl, rfl, rfl, rfl, trivial⟩, hS185.pick [4, 5, 6, 1] rfl rfl⟩
          refine ⟨_, rfl, ?_⟩
          refine LW.al hS176 fun g559 w560 hS186 => ?_
          refine LW.nil ⟨rfl, (.c (St.cell (h := hS186) (i := 2) rfl) Kept.n), ?_⟩
          refine AW.one (i := 3) (by kernel_rfl) ?_
          refine ⟨_, rfl, ?_⟩
          refine LW.bsl (α := DCall) (vs := [(0, .agg #[.int .i64 17, .int .i64 y436, .int .i64 0, .int .i64 0, .int .i64 0, .int .i64 0])]) (cs := #[.int .i64 17, .int .i64 y436, .int .i64 0, .int .i64 0, .int .i64 0, .int .i64 0]) (l := ([DCall.mk 17 y436 0 0 0 0] : List DCall)) rfl (by kernel_rfl) rfl rfl rfl (fun w => ⟨[.int .i64 17, .int .i64 y436, .int .i64 0, .int .i64 0, .int .i64 0, .int .i64 0], [], [], [], rfl, rfl, ⟨rfl, rfl⟩, rfl⟩) hS186 rfl ?_
          intro a561 c562 w563 hS187 hf
          refine LW.nil ⟨rfl, (.c (St.cell (h := hS187) (i := 3) rfl) Kept.n), ?_⟩
          replace ⟨y564, hy564, h⟩ := obind h
          have q := W_l_do (w0 := w563) hy564 rfl (hS187.rI 5 rfl) rfl (hS187.rI 0 rfl)
          refine AW.one (i := 4) (by kernel_rfl) ?_
          refine ⟨_, rfl, ?_⟩
          refine LW.call pl24 rfl rfl ?_
          refine Ret.mono q ?_
          rintro _ w567 ⟨a565, c566, rfl, hs⟩
          have hS188 := hS187.add hs
          refine LW.nil ⟨rfl, (.w (by kernel_rfl) Kept.n), ?_⟩
          refine go ?_
          refine AW.one (i := 10) (by kernel_rfl) ?_
          refine ⟨_, rfl, ?_⟩
          refine LW.st hS188 3 fun w568 hS189 => ?_
          refine LW.nil ⟨rfl, (.w (by kernel_rfl) Kept.n), ?_⟩
          refine AW.one (i := 11) (by kernel_rfl) ?_
          refine ⟨_, rfl, ?_⟩
          refine LW.st hS189 2 fun w569 hS190 => ?_
          refine LW.nil ⟨rfl, (.w (by kernel_rfl) Kept.n), ?_⟩
          refine go ?_
          cases oi h
          exact ⟨g559, ⟨rfl, rfl, rfl, rfl, rfl, trivial⟩, hS190.pick [4, 5, 6, 2] rfl rfl⟩
        refine ⟨_, rfl, ?_⟩
        refine LW.al hS147 fun g570 w571 hS191 => ?_
        refine LW.nil ⟨rfl, (.c (St.cell (h := hS191) (i := 1) rfl) Kept.n), ?_⟩
        refine AW.all (rs := [3, 8]) (by kernel_rfl) (by simp) ⟨?_, ?_, trivial⟩
        · refine ⟨_, rfl, ?_⟩
          refine LW.bsl (α := DCall) (vs := [(0, .agg #[.int .i64 17, .int .i64 y436, .int .i64 0, .int .i64 0, .int .i64 0, .int .i64 0])]) (cs := #[.int .i64 17, .int .i64 y436, .int .i64 0, .int .i64 0, .int .i64 0, .int .i64 0]) (l := ([DCall.mk 17 y436 0 0 0 0] : List DCall)) rfl (by kernel_rfl) rfl rfl rfl (fun w => ⟨[.int .i64 17, .int .i64 y436, .int .i64 0, .int .i64 0, .int .i64 0, .int .i64 0], [], [], [], rfl, rfl, ⟨rfl, rfl⟩, rfl⟩) hS191 rfl ?_
          intro a577 c578 w579 hS192 hf
          refine LW.nil ⟨rfl, (.c (St.cell (h := hS192) (i := 2) rfl) Kept.n), ?_⟩
          replace ⟨y580, hy580, h⟩ := obind h
          refine AW.all (rs := [4, 8]) (by kernel_rfl) (by simp) ⟨?_, ?_, trivial⟩
          · have q := W_l_do (w0 := w579) hy580 rfl (hS192.rI 4 rfl) rfl (hS192.rI 0 rfl)
            refine ⟨_, rfl, ?_⟩
            refine LW.call pl24 rfl rfl ?_
            refine Ret.mono q ?_
            rintro _ w591 ⟨a589, c590, rfl, hs⟩
            have hS193 := hS192.add hs
            refine LW.nil ⟨rfl, (.w (by kernel_rfl) Kept.n), ?_⟩
            refine AW.u (i := 5) rfl (by kernel_rfl) rfl rfl (Pur.p rfl) ?_
            refine go ?_
            refine AW.one (i := 8) (by kernel_rfl) ?_
            refine ⟨_, rfl, ?_⟩
            refine LW.al hS193 fun g592 w593 hS194 => ?_
            refine LW.nil ⟨rfl, (.c (St.cell (h := hS194) (i := 4) rfl) Kept.n), ?_⟩
            refine AW.one (i := 10) (by kernel_rfl) ?_
            refine ⟨_, rfl, ?_⟩
            refine LW.st hS194 0 fun w594 hS195 => ?_
            refine LW.nil ⟨rfl, (.w (by kernel_rfl) Kept.n), ?_⟩
            refine AW.one (i := 11) (by kernel_rfl) ?_
            refine ⟨_, rfl, ?_⟩
            refine LW.st hS195 3 fun w595 hS196 => ?_
            refine LW.nil ⟨rfl, (.w (by kernel_rfl) Kept.n), ?_⟩
            refine go ?_
            cases oi h
            exact ⟨g570, ⟨rfl, rfl, rfl, rfl, rfl, trivial⟩, hS196.pick [4, 5, 6, 3] rfl rfl⟩
          refine ⟨_, rfl, ?_⟩
          refine LW.al hS192 fun g596 w597 hS197 => ?_
          refine LW.nil ⟨rfl, (.c (St.cell (h := hS197) (i := 3) rfl) Kept.n), ?_⟩
          have q := W_l_do (w0 := w597) hy580 rfl (hS197.rI 5 rfl) rfl (hS197.rI 1 rfl)
          refine AW.one (i := 4) (by kernel_rfl) ?_
          refine ⟨_, rfl, ?_⟩
          refine LW.call pl24 rfl rfl ?_
          refine Ret.mono q ?_
          rintro _ w600 ⟨a598, c599, rfl, hs⟩
          have hS198 := hS197.add hs
          refine LW.nil ⟨rfl, (.w (by kernel_rfl) Kept.n), ?_⟩
          refine go ?_
          refine AW.one (i := 10) (by kernel_rfl) ?_
          refine ⟨_, rfl, ?_⟩
          refine LW.st hS198 1 fun w601 hS199 => ?_
          refine LW.nil ⟨rfl, (.w (by kernel_rfl) Kept.n), ?_⟩
          refine AW.one (i := 11) (by kernel_rfl) ?_
          refine ⟨_, rfl, ?_⟩
          refine LW.st hS199 3 fun w602 hS200 => ?_
          refine LW.nil ⟨rfl, (.w (by kernel_rfl) Kept.n), ?_⟩
          refine go ?_
          cases oi h
          exact ⟨g570, ⟨rfl, rfl, rfl, rfl, rfl, trivial⟩, hS200.pick [4, 5, 6, 3] rfl rfl⟩
        refine ⟨_, rfl, ?_⟩
        refine LW.al hS191 fun g603 w604 hS201 => ?_
        refine LW.nil ⟨rfl, (.c (St.cell (h := hS201) (i := 2) rfl) Kept.n), ?_⟩
        refine AW.one (i := 3) (by kernel_rfl) ?_
        refine ⟨_, rfl, ?_⟩
        refine LW.bsl (α := DCall) (vs := [(0, .agg #[.int .i64 17, .int .i64 y436, .int .i64 0, .int .i64 0, .int .i64 0, .int .i64 0])]) (cs := #[.int .i64 17, .int .i64 y436, .int .i64 0, .int .i64 0, .int .i64 0, .int .i64 0]) (l := ([DCall.mk 17 y436 0 0 0 0] : List DCall)) rfl (by kernel_rfl) rfl rfl rfl (fun w => ⟨[.int .i64 17, .int .i64 y436, .int .i64 0, .int .i64 0, .int .i64 0, .int .i64 0], [], [], [], rfl, rfl, ⟨rfl, rfl⟩, rfl⟩) hS201 rfl ?_
        intro a605 c606 w607 hS202 hf
        refine LW.nil ⟨rfl, (.c (St.cell (h := hS202) (i := 3) rfl) Kept.n), ?_⟩
        replace ⟨y608, hy608, h⟩ := obind h
        have q := W_l_do (w0 := w607) hy608 rfl (hS202.rI 5 rfl) rfl (hS202.rI 0 rfl)
        refine AW.one (i := 4) (by kernel_rfl) ?_
        refine ⟨_, rfl, ?_⟩
        refine LW.call pl24 rfl rfl ?_
        refine Ret.mono q ?_
        rintro _ w611 ⟨a609, c610, rfl, hs⟩
        have hS203 := hS202.add hs
        refine LW.nil ⟨rfl, (.w (by kernel_rfl) Kept.n), ?_⟩
        refine go ?_
        refine AW.one (i := 10) (by kernel_rfl) ?_
        refine ⟨_, rfl, ?_⟩
        refine LW.st hS203 2 fun w612 hS204 => ?_
        refine LW.nil ⟨rfl, (.w (by kernel_rfl) Kept.n), ?_⟩
        refine AW.one (i := 11) (by kernel_rfl) ?_
        refine ⟨_, rfl, ?_⟩
        refine LW.st hS204 3 fun w613 hS205 => ?_
        refine LW.nil ⟨rfl, (.w (by kernel_rfl) Kept.n), ?_⟩
        refine go ?_
        cases oi h
        exact ⟨g570, ⟨rfl, rfl, rfl, rfl, rfl, trivial⟩, hS205.pick [4, 5, 6, 3] rfl rfl⟩
      · refine ⟨_, rfl, ?_⟩
        refine LW.al hS146 fun g614 w615 hS206 => ?_
        refine LW.nil ⟨rfl, (.c (St.cell (h := hS206) (i := 1) rfl) Kept.n), ?_⟩
        refine AW.all (rs := [1, 9]) (by kernel_rfl) (by simp) ⟨?_, ?_, trivial⟩
        · have q := W_s_HandleOf (w0 := w615) hy436
          refine ⟨_, rfl, ?_⟩
          refine LW.call pl25 rfl rfl ?_
          refine Ret.mono q ?_
          rintro _ w619 ⟨rfl, hs⟩
          have hS207 := hS206.add hs
          refine LW.nil ⟨rfl, (.c (St.cell (h := hS207) (i := 1) rfl) Kept.n), ?_⟩
          refine AW.u (i := 2) rfl (by kernel_rfl) rfl rfl (Pur.build (vs := [(0, .int .i64 17), (1, .int .i64 y436)]) (cs := #[.int .i64 17, .int .i64 y436, .int .i64 0, .int .i64 0, .int .i64 0, .int .i64 0]) rfl (by kernel_rfl)) ?_
          refine AW.all (rs := [3, 9]) (by kernel_rfl) (by simp) ⟨?_, ?_, trivial⟩
          · refine ⟨_, rfl, ?_⟩
            refine LW.bsl (α := DCall) (vs := [(0, .agg #[.int .i64 17, .int .i64 y436, .int .i64 0, .int .i64 0, .int .i64 0, .int .i64 0])]) (cs := #[.int .i64 17, .int .i64 y436, .int .i64 0, .int .i64 0, .int .i64 0, .int .i64 0]) (l := ([DCall.mk 17 y436 0 0 0 0] : List DCall)) rfl (by kernel_rfl) rfl rfl rfl (fun w => ⟨[.int .i64 17, .int .i64 y436, .int .i64 0, .int .i64 0, .int .i64 0, .int .i64 0], [], [], [], rfl, rfl, ⟨rfl, rfl⟩, rfl⟩) hS207 rfl ?_
            intro a625 c626 w627 hS208 hf
            refine LW.nil ⟨rfl, (.c (St.cell (h := hS208) (i := 2) rfl) Kept.n), ?_⟩
            replace ⟨y628, hy628, h⟩ := obind h
            refine AW.all (rs := [4, 9]) (by kernel_rfl) (by simp) ⟨?_, ?_, trivial⟩
            · have q := W_l_do (w0 := w627) hy628 rfl (hS208.rI 4 rfl) rfl (hS208.rI 0 rfl)
              refine ⟨_, rfl, ?_⟩
              refine LW.call pl24 rfl rfl ?_
              refine Ret.mono q ?_
              rintro _ w639 ⟨a637, c638, rfl, hs⟩
              have hS209 := hS208.add hs
              refine LW.nil ⟨rfl, (.w (by kernel_rfl) Kept.n), ?_⟩
              refine AW.u (i := 5) rfl (by kernel_rfl) rfl rfl (Pur.p rfl) ?_
              refine go ?_
              refine AW.one (i := 9) (by kernel_rfl) ?_
              refine ⟨_, rfl, ?_⟩
              refine LW.al hS209 fun g640 w641 hS210 => ?_
              refine LW.nil ⟨rfl, (.c (St.cell (h := hS210) (i := 4) rfl) Kept.n), ?_⟩
              refine AW.one (i := 10) (by kernel_rfl) ?_
              refine ⟨_, rfl, ?_⟩
              refine LW.st hS210 3 fun w642 hS211 => ?_
              refine LW.nil ⟨rfl, (.w (by kernel_rfl) Kept.n), ?_⟩
              refine AW.one (i := 11) (by kernel_rfl) ?_
              refine ⟨_, rfl, ?_⟩
              refine LW.st hS211 0 fun w643 hS212 => ?_
              refine LW.nil ⟨rfl, (.w (by kernel_rfl) Kept.n), ?_⟩
              refine go ?_
              cases oi h
              exact ⟨g640, ⟨rfl, rfl, rfl, rfl, rfl, trivial⟩, hS212.pick [4, 5, 6, 0] rfl rfl⟩
            refine ⟨_, rfl, ?_⟩
            refine LW.al hS208 fun g644 w645 hS213 => ?_
            refine LW.nil ⟨rfl, (.c (St.cell (h := hS213) (i := 3) rfl) Kept.n), ?_⟩
            have q := W_l_do (w0 := w645) hy628 rfl (hS213.rI 5 rfl) rfl (hS213.rI 1 rfl)
            refine AW.one (i := 4) (by kernel_rfl) ?_
            refine ⟨_, rfl, ?_⟩
            refine LW.call pl24 rfl rfl ?_
            refine Ret.mono q ?_
            rintro _ w648 ⟨a646, c647, rfl, hs⟩
            have hS214 := hS213.add hs
            refine LW.nil ⟨rfl, (.w (by kernel_rfl) Kept.n), ?_⟩
            refine go ?_
            refine AW.one (i := 10) (by kernel_rfl) ?_
            refine ⟨_, rfl, ?_⟩
            refine LW.st hS214 3 fun w649 hS215 => ?_
            refine LW.nil ⟨rfl, (.w (by kernel_rfl) Kept.n), ?_⟩
            refine AW.one (i := 11) (by kernel_rfl) ?_
            refine ⟨_, rfl, ?_⟩
            refine LW.st hS215 1 fun w650 hS216 => ?_
            refine LW.nil ⟨rfl, (.w (by kernel_rfl) Kept.n), ?_⟩
            refine go ?_
            cases oi h
            exact ⟨g644, ⟨rfl, rfl, rfl, rfl, rfl, trivial⟩, hS216.pick [4, 5, 6, 1] rfl rfl⟩
          refine ⟨_, rfl, ?_⟩
          refine LW.al hS207 fun g651 w652 hS217 => ?_
          refine LW.nil ⟨rfl, (.c (St.cell (h := hS217) (i := 2) rfl) Kept.n), ?_⟩
          refine AW.one (i := 3) (by kernel_rfl) ?_
          refine ⟨_, rfl, ?_⟩
          refine LW.bsl (α := DCall) (vs := [(0, .agg #[.int .i64 17, .int .i64 y436, .int .i64 0, .int .i64 0, .int .i64 0, .int .i64 0])]) (cs := #[.int .i64 17, .int .i64 y436, .int .i64 0, .int .i64 0, .int .i64 0, .int .i64 0]) (l := ([DCall.mk 17 y436 0 0 0 0] : List DCall)) rfl (by kernel_rfl) rfl rfl rfl (fun w => ⟨[.int .i64 17, .int .i64 y436, .int .i64 0, .int .i64 0, .int .i64 0, .int .i64 0], [], [], [], rfl, rfl, ⟨rfl, rfl⟩, rfl⟩) hS217 rfl ?_
          intro a653 c654 w655 hS218 hf
          refine LW.nil ⟨rfl, (.c (St.cell (h := hS218) (i := 3) rfl) Kept.n), ?_⟩
          replace ⟨y656, hy656, h⟩ := obind h
          have q := W_l_do (w0 := w655) hy656 rfl (hS218.rI 5 rfl) rfl (hS218.rI 0 rfl)
          refine AW.one (i := 4) (by kernel_rfl) ?_
          refine ⟨_, rfl, ?_⟩
          refine LW.call pl24 rfl rfl ?_
          refine Ret.mono q ?_
          rintro _ w659 ⟨a657, c658, rfl, hs⟩
          have hS219 := hS218.add hs
          refine LW.nil ⟨rfl, (.w (by kernel_rfl) Kept.n), ?_⟩
          refine go ?_
          refine AW.one (i := 10) (by kernel_rfl) ?_
          refine ⟨_, rfl, ?_⟩
          refine LW.st hS219 3 fun w660 hS220 => ?_
          refine LW.nil ⟨rfl, (.w (by kernel_rfl) Kept.n), ?_⟩
          refine AW.one (i := 11) (by kernel_rfl) ?_
          refine ⟨_, rfl, ?_⟩
          refine LW.st hS220 2 fun w661 hS221 => ?_
          refine LW.nil ⟨rfl, (.w (by kernel_rfl) Kept.n), ?_⟩
          refine go ?_
          cases oi h
          exact ⟨g651, ⟨rfl, rfl, rfl, rfl, rfl, trivial⟩, hS221.pick [4, 5, 6, 2] rfl rfl⟩
        refine ⟨_, rfl, ?_⟩
        refine LW.al hS206 fun g662 w663 hS222 => ?_
        refine LW.nil ⟨rfl, (.c (St.cell (h := hS222) (i := 2) rfl) Kept.n), ?_⟩
        have q := W_s_HandleOf (w0 := w663) hy436
        refine AW.one (i := 1) (by kernel_rfl) ?_
        refine ⟨_, rfl, ?_⟩
        refine LW.call pl25 rfl rfl ?_
        refine Ret.mono q ?_
        rintro _ w664 ⟨rfl, hs⟩
        have hS223 := hS222.add hs
        refine LW.nil ⟨rfl, (.c (St.cell (h := hS223) (i := 2) rfl) Kept.n), ?_⟩
        refine AW.u (i := 2) rfl (by kernel_rfl) rfl rfl (Pur.build (vs := [(0, .int .i64 17), (1, .int .i64 y436)]) (cs := #[.int .i64 17, .int .i64 y436, .int .i64 0, .int .i64 0, .int .i64 0, .int .i64 0]) rfl (by kernel_rfl)) ?_
        refine AW.one (i := 3) (by kernel_rfl) ?_
        refine ⟨_, rfl, ?_⟩
        refine LW.bsl (α := DCall) (vs := [(0, .agg #[.int .i64 17, .int .i64 y436, .int .i64 0, .int .i64 0, .int .i64 0, .int .i64 0])]) (cs := #[.int .i64 17, .int .i64 y436, .int .i64 0, .int .i64 0, .int .i64 0, .int .i64 0]) (l := ([DCall.mk 17 y436 0 0 0 0] : List DCall)) rfl (by kernel_rfl) rfl rfl rfl (fun w => ⟨[.int .i64 17, .int .i64 y436, .int .i64 0, .int .i64 0, .int .i64 0, .int .i64 0], [], [], [], rfl, rfl, ⟨rfl, rfl⟩, rfl⟩) hS223 rfl ?_
        intro a665 c666 w667 hS224 hf
        refine LW.nil ⟨rfl, (.c (St.cell (h := hS224) (i := 3) rfl) Kept.n), ?_⟩
        replace ⟨y668, hy668, h⟩ := obind h
        have q := W_l_do (w0 := w667) hy668 rfl (hS224.rI 5 rfl) rfl (hS224.rI 0 rfl)
        refine AW.one (i := 4) (by kernel_rfl) ?_
        refine ⟨_, rfl, ?_⟩
        refine LW.call pl24 rfl rfl ?_
        refine Ret.mono q ?_
        rintro _ w671 ⟨a669, c670, rfl, hs⟩
        have hS225 := hS224.add hs
        refine LW.nil ⟨rfl, (.w (by kernel_rfl) Kept.n), ?_⟩
        refine go ?_
        refine AW.one (i := 10) (by kernel_rfl) ?_
        refine ⟨_, rfl, ?_⟩
        refine LW.st hS225 3 fun w672 hS226 => ?_
        refine LW.nil ⟨rfl, (.w (by kernel_rfl) Kept.n), ?_⟩
        refine AW.one (i := 11) (by kernel_rfl) ?_
        refine ⟨_, rfl, ?_⟩
        refine LW.st hS226 2 fun w673 hS227 => ?_
        refine LW.nil ⟨rfl, (.w (by kernel_rfl) Kept.n), ?_⟩
        refine go ?_
        cases oi h
        exact ⟨g662, ⟨rfl, rfl, rfl, rfl, rfl, trivial⟩, hS227.pick [4, 5, 6, 2] rfl rfl⟩
      refine ⟨_, rfl, ?_⟩
      refine LW.al hS146 fun g674 w675 hS228 => ?_
      refine LW.nil ⟨rfl, (.c (St.cell (h := hS228) (i := 1) rfl) Kept.n), ?_⟩
      refine AW.all (rs := [1, 8]) (by kernel_rfl) (by simp) ⟨?_, ?_, trivial⟩
      · have q := W_s_HandleOf (w0 := w675) hy436
        refine ⟨_, rfl, ?_⟩
        refine LW.call pl25 rfl rfl ?_
        refine Ret.mono q ?_
        rintro _ w679 ⟨rfl, hs⟩
        have hS229 := hS228.add hs
        refine LW.nil ⟨rfl, (.c (St.cell (h := hS229) (i := 1) rfl) Kept.n), ?_⟩
        refine AW.u (i := 2) rfl (by kernel_rfl) rfl rfl (Pur.build (vs := [(0, .int .i64 17), (1, .int .i64 y436)]) (cs := #[.int .i64 17, .int .i64 y436, .int .i64 0, .int .i64 0, .int .i64 0, .int .i64 0]) rfl (by kernel_rfl)) ?_
        refine AW.all (rs := [3, 8]) (by kernel_rfl) (by simp) ⟨?_, ?_, trivial⟩
        · refine ⟨_, rfl, ?_⟩
          refine LW.bsl (α := DCall) (vs := [(0, .agg #[.int .i64 17, .int .i64 y436, .int .i64 0, .int .i64 0, .int .i64 0, .int .i64 0])]) (cs := #[.int .i64 17, .int .i64 y436, .int .i64 0, .int .i64 0, .int .i64 0, .int .i64 0]) (l := ([DCall.mk 17 y436 0 0 0 0] : List DCall)) rfl (by kernel_rfl) rfl rfl rfl (fun w => ⟨[.int .i64 17, .int .i64 y436, .int .i64 0, .int .i64 0, .int .i64 0, .int .i64 0], [], [], [], rfl, rfl, ⟨rfl, rfl⟩, rfl⟩) hS229 rfl ?_
          intro a685 c686 w687 hS230 hf
          refine LW.nil ⟨rfl, (.c (St.cell (h := hS230) (i := 2) rfl) Kept.n), ?_⟩
          replace ⟨y688, hy688, h⟩ := obind h
          refine AW.all (rs := [4, 8]) (by kernel_rfl) (by simp) ⟨?_, ?_, trivial⟩
          · have q := W_l_do (w0 := w687) hy688 rfl (hS230.rI 4 rfl) rfl (hS230.rI 0 rfl)
            refine ⟨_, rfl, ?_⟩
            refine LW.call pl24 rfl rfl ?_
            refine Ret.mono q ?_
            rintro _ w699 ⟨a697, c698, rfl, hs⟩
            have hS231 := hS230.add hs
            refine LW.nil ⟨rfl, (.w (by kernel_rfl) Kept.n), ?_⟩
            refine AW.u (i := 5) rfl (by kernel_rfl) rfl rfl (Pur.p rfl) ?_
            refine go ?_
            refine AW.one (i := 8) (by kernel_rfl) ?_
            refine ⟨_, rfl, ?_⟩
            refine LW.al hS231 fun g700 w701 hS232 => ?_
            refine LW.nil ⟨rfl, (.c (St.cell (h := hS232) (i := 4) rfl) Kept.n), ?_⟩
            refine AW.one (i := 10) (by kernel_rfl) ?_
            refine ⟨_, rfl, ?_⟩
            refine LW.st hS232 0 fun w702 hS233 => ?_
            refine LW.nil ⟨rfl, (.w (by kernel_rfl) Kept.n), ?_⟩
            refine AW.one (i := 11) (by kernel_rfl) ?_
            refine ⟨_, rfl, ?_⟩
            refine LW.st hS233 3 fun w703 hS234 => ?_
            refine LW.nil ⟨rfl, (.w (by kernel_rfl) Kept.n), ?_⟩
            refine go ?_
            cases oi h
            exact ⟨g674, ⟨rfl, rfl, rfl, rfl, rfl, trivial⟩, hS234.pick [4, 5, 6, 3] rfl rfl⟩
          refine ⟨_, rfl, ?_⟩
          refine LW.al hS230 fun g704 w705 hS235 => ?_
          refine LW.nil ⟨rfl, (.c (St.cell (h := hS235) (i := 3) rfl) Kept.n), ?_⟩
          have q := W_l_do (w0 := w705) hy688 rfl (hS235.rI 5 rfl) rfl (hS235.rI 1 rfl)
          refine AW.one (i := 4) (by kernel_rfl) ?_
          refine ⟨_, rfl, ?_⟩
          refine LW.call pl24 rfl rfl ?_
          refine Ret.mono q ?_
          rintro _ w708 ⟨a706, c707, rfl, hs⟩
          have hS236 := hS235.add hs
          refine LW.nil ⟨rfl, (.w (by kernel_rfl) Kept.n), ?_⟩
          refine go ?_
          refine AW.one (i := 10) (by kernel_rfl) ?_
          refine ⟨_, rfl, ?_⟩
          refine LW.st hS236 1 fun w709 hS237 => ?_
          refine LW.nil ⟨rfl, (.w (by kernel_rfl) Kept.n), ?_⟩
          refine AW.one (i := 11) (by kernel_rfl) ?_
          refine ⟨_, rfl, ?_⟩
          refine LW.st hS237 3 fun w710 hS238 => ?_
          refine LW.nil ⟨rfl, (.w (by kernel_rfl) Kept.n), ?_⟩
          refine go ?_
          cases oi h
          exact ⟨g674, ⟨rfl, rfl, rfl, rfl, rfl, trivial⟩, hS238.pick [4, 5, 6, 3] rfl rfl⟩
        refine ⟨_, rfl, ?_⟩
        refine LW.al hS229 fun g711 w712 hS239 => ?_
        refine LW.nil ⟨rfl, (.c (St.cell (h := hS239) (i := 2) rfl) Kept.n), ?_⟩
        refine AW.one (i := 3) (by kernel_rfl) ?_
        refine ⟨_, rfl, ?_⟩
        refine LW.bsl (α := DCall) (vs := [(0, .agg #[.int .i64 17, .int .i64 y436, .int .i64 0, .int .i64 0, .int .i64 0, .int .i64 0])]) (cs := #[.int .i64 17, .int .i64 y436, .int .i64 0, .int .i64 0, .int .i64 0, .int .i64 0]) (l := ([DCall.mk 17 y436 0 0 0 0] : List DCall)) rfl (by kernel_rfl) rfl rfl rfl (fun w => ⟨[.int .i64 17, .int .i64 y436, .int .i64 0, .int .i64 0, .int .i64 0, .int .i64 0], [], [], [], rfl, rfl, ⟨rfl, rfl⟩, rfl⟩) hS239 rfl ?_
        intro a713 c714 w715 hS240 hf
        refine LW.nil ⟨rfl, (.c (St.cell (h := hS240) (i := 3) rfl) Kept.n), ?_⟩
        replace ⟨y716, hy716, h⟩ := obind h
        have q := W_l_do (w0 := w715) hy716 rfl (hS240.rI 5 rfl) rfl (hS240.rI 0 rfl)
        refine AW.one (i := 4) (by kernel_rfl) ?_
        refine ⟨_, rfl, ?_⟩
        refine LW.call pl24 rfl rfl ?_
        refine Ret.mono q ?_
        rintro _ w719 ⟨a717, c718, rfl, hs⟩
        have hS241 := hS240.add hs
        refine LW.nil ⟨rfl, (.w (by kernel_rfl) Kept.n), ?_⟩
        refine go ?_
        refine AW.one (i := 10) (by kernel_rfl) ?_
        refine ⟨_, rfl, ?_⟩
        refine LW.st hS241 2 fun w720 hS242 => ?_
        refine LW.nil ⟨rfl, (.w (by kernel_rfl) Kept.n), ?_⟩
        refine AW.one (i := 11) (by kernel_rfl) ?_
        refine ⟨_, rfl, ?_⟩
        refine LW.st hS242 3 fun w721 hS243 => ?_
        refine LW.nil ⟨rfl, (.w (by kernel_rfl) Kept.n), ?_⟩
        refine go ?_
        cases oi h
        exact ⟨g674, ⟨rfl, rfl, rfl, rfl, rfl, trivial⟩, hS243.pick [4, 5, 6, 3] rfl rfl⟩
      refine ⟨_, rfl, ?_⟩
      refine LW.al hS228 fun g722 w723 hS244 => ?_
      refine LW.nil ⟨rfl, (.c (St.cell (h := hS244) (i := 2) rfl) Kept.n), ?_⟩
      have q := W_s_HandleOf (w0 := w723) hy436
      refine AW.one (i := 1) (by kernel_rfl) ?_
      refine ⟨_, rfl, ?_⟩
      refine LW.call pl25 rfl rfl ?_
      refine Ret.mono q ?_
      rintro _ w724 ⟨rfl, hs⟩
      have hS245 := hS244.add hs
      refine LW.nil ⟨rfl, (.c (St.cell (h := hS245) (i := 2) rfl) Kept.n), ?_⟩
      refine AW.u (i := 2) rfl (by kernel_rfl) rfl rfl (Pur.build (vs := [(0, .int .i64 17), (1, .int .i64 y436)]) (cs := #[.int .i64 17, .int .i64 y436, .int .i64 0, .int .i64 0, .int .i64 0, .int .i64 0]) rfl (by kernel_rfl)) ?_
      refine AW.one (i := 3) (by kernel_rfl) ?_
      refine ⟨_, rfl, ?_⟩
      refine LW.bsl (α := DCall) (vs := [(0, .agg #[.int .i64 17, .int .i64 y436, .int .i64 0, .int .i64 0, .int .i64 0, .int .i64 0])]) (cs := #[.int .i64 17, .int .i64 y436, .int .i64 0, .int .i64 0, .int .i64 0, .int .i64 0]) (l := ([DCall.mk 17 y436 0 0 0 0] : List DCall)) rfl (by kernel_rfl) rfl rfl rfl (fun w => ⟨[.int .i64 17, .int .i64 y436, .int .i64 0, .int .i64 0, .int .i64 0, .int .i64 0], [], [], [], rfl, rfl, ⟨rfl, rfl⟩, rfl⟩) hS245 rfl ?_
      intro a725 c726 w727 hS246 hf
      refine LW.nil ⟨rfl, (.c (St.cell (h := hS246) (i := 3) rfl) Kept.n), ?_⟩
      replace ⟨y728, hy728, h⟩ := obind h
      have q := W_l_do (w0 := w727) hy728 rfl (hS246.rI 5 rfl) rfl (hS246.rI 0 rfl)
      refine AW.one (i := 4) (by kernel_rfl) ?_
      refine ⟨_, rfl, ?_⟩
      refine LW.call pl24 rfl rfl ?_
      refine Ret.mono q ?_
      rintro _ w731 ⟨a729, c730, rfl, hs⟩
      have hS247 := hS246.add hs
      refine LW.nil ⟨rfl, (.w (by kernel_rfl) Kept.n), ?_⟩
      refine go ?_
      refine AW.one (i := 10) (by kernel_rfl) ?_
      refine ⟨_, rfl, ?_⟩
      refine LW.st hS247 2 fun w732 hS248 => ?_
      refine LW.nil ⟨rfl, (.w (by kernel_rfl) Kept.n), ?_⟩
      refine AW.one (i := 11) (by kernel_rfl) ?_
      refine ⟨_, rfl, ?_⟩
      refine LW.st hS248 3 fun w733 hS249 => ?_
      refine LW.nil ⟨rfl, (.w (by kernel_rfl) Kept.n), ?_⟩
      refine go ?_
      cases oi h
      exact ⟨g674, ⟨rfl, rfl, rfl, rfl, rfl, trivial⟩, hS249.pick [4, 5, 6, 3] rfl rfl⟩
    rintro e w734 ⟨j434g11, hE, hS250⟩
    obtain ⟨e, rfl⟩ := hE.out
    have h := h435
    refine go ?_
    obtain ⟨o759, ho759, h760⟩ := obind h
    refine CW.mono (CW.iter (σ := Int × Int × (List DPart)) (ρ := (Int × Int × (List DPart)) ⊕ Bool) (fun s735 e wb => ∃ (s735a0 : Option Addr), ∃ (s735c0 : Nat), En e [(0, .slice a0_0 x0.length c0_0), (4, .pointer (some ⟨g21, 0, none⟩)), (5, .pointer (some ⟨j24g5, 0, none⟩)), (6, .int .i64 (Int.tmod y87 6)), (11, .pointer (some ⟨j434g11, 0, none⟩)), (12, .int .i64 s735.1)] ∧ St w0 [] wb [bx g21 59 [.int .i64 s735.2.1, .slice s735a0 s735.2.2.length s735c0], bx j24g5 62 [.int .i64 j24.1, .int .i64 j24.2.1], bx j434g11 62 [.int .i64 j434.1, .int .i64 j434.2], sl s735a0 s735c0 s735.2.2]) (fun o x e wb => match o with | .inl s735 => x = .exit 2 ∧ ∃ (s735a0 : Option Addr), ∃ (s735c0 : Nat), En e [(4, .pointer (some ⟨g21, 0, none⟩)), (5, .pointer (some ⟨j24g5, 0, none⟩)), (11, .pointer (some ⟨j434g11, 0, none⟩))] ∧ St w0 [] wb [bx g21 59 [.int .i64 s735.2.1, .slice s735a0 s735.2.2.length s735c0], bx j24g5 62 [.int .i64 j24.1, .int .i64 j24.2.1], bx j434g11 62 [.int .i64 j434.1, .int .i64 j434.2], sl s735a0 s735c0 s735.2.2] | .inr r => x = .ret ∧ ∃ u, u = r ∧ ∃ v, Res Try.prog Try.f4.results e wb v ∧ v = .bool u ∧ St w0 [] wb []) ?_ N (0, o395.2.1, o395.2.2) _ _ _ ⟨s89a0, s89c0, ⟨rfl, rfl, rfl, rfl, rfl, rfl, trivial⟩, hS250.pick [0, 1, 3, 2] rfl rfl⟩ ho759) ?_
    · intro s735 e w736 o hM h
      obtain ⟨s735a0, s735c0, hE, hS251⟩ := hM
      obtain ⟨e, rfl⟩ := hE.out
      refine go ?_
      refine LW.u (Pur.min rfl rfl) rfl ?_
      refine go ?_
      refine cd (fun hc737 => ?_) fun hc737 => ?_
      · replace h := bcT h hc737
        refine go ?_
        refine LW.u (Pur.build (vs := [(0, .int .i64 13), (1, .int .i64 j24.2.1)]) (cs := #[.int .i64 13, .int .i64 j24.2.1, .int .i64 0, .int .i64 0, .int .i64 0, .int .i64 0]) rfl (by kernel_rfl)) rfl ?_
        refine LW.bsl (α := DCall) (vs := [(0, .agg #[.int .i64 13, .int .i64 j24.2.1, .int .i64 0, .int .i64 0, .int .i64 0, .int .i64 0])]) (cs := #[.int .i64 13, .int .i64 j24.2.1, .int .i64 0, .int .i64 0, .int .i64 0, .int .i64 0]) (l := ([DCall.mk 13 j24.2.1 0 0 0 0] : List DCall)) rfl (by kernel_rfl) rfl rfl rfl (fun w => ⟨[.int .i64 13, .int .i64 j24.2.1, .int .i64 0, .int .i64 0, .int .i64 0, .int .i64 0], [], [], [], rfl, rfl, ⟨rfl, rfl⟩, rfl⟩) hS251 rfl ?_
        intro a738 c739 w740 hS252 hf
        replace ⟨y741, hy741, h⟩ := obind h
        refine LW.cl (W_l_do hy741 rfl (hS252.rI 4 rfl) rfl (hS252.rI 0 rfl)) ?_
        rintro _ w744 ⟨a742, c743, rfl, hs⟩
        have hS253 := hS252.add hs
        refine go ?_
        refine LW.al hS253 fun g745 w746 hS254 => ?_
        refine LW.al hS254 fun g747 w748 hS255 => ?_
        refine LW.st hS255 1 fun w749 hS256 => ?_
        refine LW.st hS256 0 fun w750 hS257 => ?_
        refine gs ?_
        obtain ⟨j751, hj751, h752⟩ := obind h
        refine CW.jn [0, 4, 5, 6, 11, 12, 13] [1, 2, 4, 5, 6, 7] [(107, .bool j751)] hS257 (h1 := ?_) (h2 := ?_)
        · have h := hj751
          refine CW.draw (by kernel_rfl) ?_
          have hS258 := hS257.drew
          refine go ?_
          rcases bcases (y741.2.code != 0) with hc753 | hc753
          · replace h := bcT h hc753
            refine go ?_
            cases oi h
            exact ⟨⟨rfl, rfl, rfl, rfl, rfl, rfl, rfl, rfl, trivial⟩, hS258.pick [1, 2, 4, 5, 6, 7] rfl rfl⟩
          replace h := bcF h hc753
          refine go ?_
          replace ⟨y754, hy754, h⟩ := obind h
          have q := W_l_at (w0 := w750.drew) hy754 rfl (hS258.rB hr0_0)
          refine AW.one (i := 8) (by kernel_rfl) ?_
          refine ⟨_, rfl, ?_⟩
          refine (LW.gY (want_of rfl rfl hc753) ?_)
          refine LW.call pl26 rfl rfl ?_
          refine Ret.mono q ?_
          rintro _ w755 ⟨rfl, hs⟩
          have hS259 := hS258.add hs
          refine LW.nil ⟨rfl, (.c (St.cell (h := hS259) (i := 0) rfl) (.c (St.cell (h := hS259) (i := 0) rfl) Kept.n)), ?_⟩
          refine go ?_
          cases oi h
          exact ⟨⟨rfl, rfl, rfl, rfl, rfl, rfl, rfl, rfl, trivial⟩, hS259.pick [1, 2, 4, 5, 6, 7] rfl rfl⟩
        intro e w756 hS260
        have h := h752
        refine go ?_
        refine CW.fl [0, 4, 5, 6, 11, 12, 13, 107] fun e => ?_
        refine cd (fun hc757 => ?_) fun hc757 => ?_
        · replace h := bcT h hc757
          refine go ?_
          cases oi h
          exact ⟨trivial, rfl, _, rfl, ⟨_, Res.one (resOne.t rfl), rfl, hS260.pick [] rfl rfl⟩⟩
        replace h := bcF h hc757
        refine go ?_
        refine LW.st hS260 2 fun w758 hS261 => ?_
        refine go ?_
        cases oi h
        exact ⟨rfl, ⟨a742, c743, ⟨rfl, rfl, rfl, rfl, rfl, rfl, trivial⟩, hS261.pick [2, 3, 4, 1] rfl rfl⟩⟩
      replace h := bcF h hc737
      refine go ?_
      cases oi h
      exact ⟨trivial, rfl, ⟨s735a0, s735c0, ⟨rfl, rfl, rfl, trivial⟩, hS251.pick [0, 1, 2, 3] rfl rfl⟩⟩
    intro x e w761 hM
    rcases o759 with o759 | r776
    · obtain ⟨rfl, hM⟩ := hM
      obtain ⟨s735a0, s735c0, hE, hS262⟩ := hM
      obtain ⟨e, rfl⟩ := hE.out
      have h := h760
      refine go ?_
      refine LW.u (Pur.build (vs := [(0, .int .i64 13), (1, .int .i64 j24.2.1)]) (cs := #[.int .i64 13, .int .i64 j24.2.1, .int .i64 0, .int .i64 0, .int .i64 0, .int .i64 0]) rfl (by kernel_rfl)) rfl ?_
      refine LW.bsl (α := DCall) (vs := [(0, .agg #[.int .i64 13, .int .i64 j24.2.1, .int .i64 0, .int .i64 0, .int .i64 0, .int .i64 0])]) (cs := #[.int .i64 13, .int .i64 j24.2.1, .int .i64 0, .int .i64 0, .int .i64 0, .int .i64 0]) (l := ([DCall.mk 13 j24.2.1 0 0 0 0] : List DCall)) rfl (by kernel_rfl) rfl rfl rfl (fun w => ⟨[.int .i64 13, .int .i64 j24.2.1, .int .i64 0, .int .i64 0, .int .i64 0, .int .i64 0], [], [], [], rfl, rfl, ⟨rfl, rfl⟩, rfl⟩) hS262 rfl ?_
      intro a762 c763 w764 hS263 hf
      replace ⟨y765, hy765, h⟩ := obind h
      refine LW.cl (W_l_do hy765 rfl (hS263.rI 4 rfl) rfl (hS263.rI 0 rfl)) ?_
      rintro _ w768 ⟨a766, c767, rfl, hs⟩
      have hS264 := hS263.add hs
      refine go ?_
      refine LW.al hS264 fun g769 w770 hS265 => ?_
      refine LW.al hS265 fun g771 w772 hS266 => ?_
      refine LW.st hS266 1 fun w773 hS267 => ?_
      refine LW.st hS267 0 fun w774 hS268 => ?_
      refine go ?_
      rcases bcases (y765.2.code == 8) with hc775 | hc775
      · replace h := bcT h hc775
        refine go ?_
        cases h
        exact fi hS268
      replace h := bcF h hc775
      refine go ?_
      cases h
      exact fi hS268
    obtain ⟨rfl, u, rfl, hM⟩ := hM
    cases h760
    exact And.intro trivial hM
  obtain ⟨rfl, u, rfl, hM⟩ := hM
  cases h396
  exact And.intro trivial hM

end Go.Kx
