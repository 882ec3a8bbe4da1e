/- Each call returns what the plain function says. Printed by drive.py. -/
import Derived.Test.YtljikolgijlbeaaFa
import Derived.Test.YtljikolgijlbeaaPu
import Derived.Test.YtljikolgijlbeaaWa0
import Derived.Test.YtljikolgijlbeaaWa4
namespace Go.Kx
open Go Go.RowKit Go.Proofs
set_option maxRecDepth 10000
set_option maxHeartbeats 8000000
set_option linter.unusedVariables false
set_option linter.unusedSimpArgs false
theorem W_s_l13Boot {w0 : World} {F : List Nat} {N : Nat} {x0 : DCur} {r : DBoot × DCur} (h : F_s_l13Boot N x0 = some r) {g0 : Nat} {a0_0 : Option Addr} {c0_0 : Nat} (hr0_0 : rdS (Bor w0 F) w0 a0_0 c0_0 x0.b) (hS : St w0 F w0 [bx g0 106 [.slice a0_0 x0.b.length c0_0, .int .i64 x0.i, .int .i64 x0.h]]) :
    Ret Try.prog 28 #[.pointer (some ⟨g0, 0, none⟩)] w0 (fun v w => ∃ ar0_0 cr0_0, ∃ ar0_1 cr0_1, v = .agg #[.slice ar0_0 r.1.label.levels.length cr0_0, .slice ar0_1 r.1.own.length cr0_1, .int .i64 r.1.amt.pages, .int .i64 r.1.amt.rent, .int .i64 r.1.amt.cpu] ∧ St w0 F w [sl ar0_0 cr0_0 r.1.label.levels, sl ar0_1 cr0_1 r.1.own, bx g0 106 [.slice a0_0 x0.b.length c0_0, .int .i64 r.2.i, .int .i64 r.2.h]]) := by
  unfold F_s_l13Boot at h
  refine Ret.fn Try.func28 fun e => ?_
  refine go ?_
  refine LW.al hS fun g1 w2 hS1 => ?_
  refine go ?_
  replace ⟨y3, hy3, h⟩ := obind h
  obtain ⟨F4, hL5⟩ := hS1.lendI [1] [0]
  refine LW.cl (W_s_l3Label hy3 (hL5.rB hr0_0) hL5.st) ?_
  rintro _ w8 ⟨a6, c7, rfl, hs⟩
  have hS2 := hL5.back _ _ hs
  refine go ?_
  replace ⟨y9, hy9, h⟩ := obind h
  obtain ⟨F10, hL11⟩ := hS2.lendI [1] [0, 2]
  refine LW.cl (W_s_l1Below hy9 (hL11.rB hr0_0) hL11.st) ?_
  rintro _ w12 ⟨rfl, hs⟩
  have hS3 := hL11.back _ _ hs
  refine go ?_
  replace ⟨y13, hy13, h⟩ := obind h
  obtain ⟨F14, hL15⟩ := hS3.lendI [0] [1, 2]
  refine LW.cl (W_s_l1Below hy13 (hL15.rB hr0_0) hL15.st) ?_
  rintro _ w16 ⟨rfl, hs⟩
  have hS4 := hL15.back _ _ hs
  refine go ?_
  replace ⟨y17, hy17, h⟩ := obind h
  obtain ⟨F18, hL19⟩ := hS4.lendI [0] [1, 2]
  refine LW.cl (W_s_l1Below hy17 (hL19.rB hr0_0) hL19.st) ?_
  rintro _ w20 ⟨rfl, hs⟩
  have hS5 := hL19.back _ _ hs
  refine LW.u (Pur.build (vs := [(0, .int .i64 y9.1), (1, .int .i64 y13.1), (2, .int .i64 y17.1)]) (cs := #[.int .i64 y9.1, .int .i64 y13.1, .int .i64 y17.1]) rfl (by kernel_rfl)) rfl ?_
  refine LW.u (Pur.build (vs := [(0, .agg #[.slice a6 y3.1.levels.length c7]), (2, .agg #[.int .i64 y9.1, .int .i64 y13.1, .int .i64 y17.1])]) (cs := #[.slice a6 y3.1.levels.length c7, .slice none 0 0, .int .i64 y9.1, .int .i64 y13.1, .int .i64 y17.1]) rfl (by kernel_rfl)) rfl ?_
  refine LW.st hS5 2 fun w21 hS6 => ?_
  refine go ?_
  replace h := Option.some.inj h
  subst h
  have hS7 := hS6.nil (α := Int)
  exact And.intro trivial ⟨_, Res.one (resOne.b hS7 3 rfl ag30 rfl rfl), a6, c7, none, 0, rfl, hS7.pick [2, 0, 1] rfl rfl⟩

theorem W_s_l3Any {w0 : World} {F : List Nat} {N : Nat} {x0 : DCur} {r : DLabel × DCur} (h : F_s_l3Any N x0 = some r) {g0 : Nat} {a0_0 : Option Addr} {c0_0 : Nat} (hr0_0 : rdS (Bor w0 F) w0 a0_0 c0_0 x0.b) (hS : St w0 F w0 [bx g0 106 [.slice a0_0 x0.b.length c0_0, .int .i64 x0.i, .int .i64 x0.h]]) :
    Ret Try.prog 30 #[.pointer (some ⟨g0, 0, none⟩)] w0 (fun v w => ∃ ar0_0 cr0_0, v = .agg #[.slice ar0_0 r.1.levels.length cr0_0] ∧ St w0 F w [sl ar0_0 cr0_0 r.1.levels, bx g0 106 [.slice a0_0 x0.b.length c0_0, .int .i64 r.2.i, .int .i64 r.2.h]]) := by
  unfold F_s_l3Any at h
  refine Ret.fn Try.func30 fun e => ?_
  refine go ?_
  refine LW.al hS fun g1 w2 hS1 => ?_
  refine go ?_
  replace ⟨y3, hy3, h⟩ := obind h
  obtain ⟨F4, hL5⟩ := hS1.lendI [1] [0]
  refine LW.cl (W_s_l3Label hy3 (hL5.rB hr0_0) hL5.st) ?_
  rintro _ w8 ⟨a6, c7, rfl, hs⟩
  have hS2 := hL5.back _ _ hs
  refine LW.al hS2 fun g9 w10 hS3 => ?_
  refine LW.st hS3 0 fun w11 hS4 => ?_
  refine go ?_
  replace ⟨y12, hy12, h⟩ := obind h
  obtain ⟨F13, hL14⟩ := hS4.lendI [2] [0, 1, 3]
  refine LW.cl (W_s_l1Below hy12 (hL14.rB hr0_0) hL14.st) ?_
  rintro _ w15 ⟨rfl, hs⟩
  have hS5 := hL14.back _ _ hs
  refine gs ?_
  obtain ⟨j16, hj16, h17⟩ := obind h
  refine CW.cut (fun e wb => ∃ (j16a0 : Option Addr), ∃ (j16c0 : Nat), En e [(0, .pointer (some ⟨g0, 0, none⟩)), (2, .pointer (some ⟨g1, 0, none⟩)), (3, .pointer (some ⟨g9, 0, none⟩))] ∧ St w0 F wb [bx g0 106 [.slice a0_0 x0.b.length c0_0, .int .i64 j16.2.1, .int .i64 j16.2.2], bx g9 26 [.slice j16a0 j16.1.length j16c0], sl j16a0 j16c0 j16.1, bx g1 26 [.slice none 0 0]]) ?_ ?_
  · have h := hj16
    refine go ?_
    refine cd (fun hc18 => ?_) fun hc18 => ?_
    · replace h := bcT h hc18
      refine CW.draw (by kernel_rfl) ?_
      have hS6 := hS5.drew
      refine go ?_
      replace ⟨y19, hy19, h⟩ := obind h
      obtain ⟨F20, hL21⟩ := hS6.lendI [0] [1, 2, 3]
      have q := W_s_l1Below (w0 := w15.drew) hy19 (hL21.rB hr0_0) hL21.st
      refine AW.one (i := 3) (by kernel_rfl) ?_
      refine ⟨_, rfl, ?_⟩
      refine LW.call pl29 rfl rfl ?_
      refine Ret.mono q ?_
      rintro _ w22 ⟨rfl, hs⟩
      have hS7 := hL21.back _ _ hs
      refine LW.nil ⟨rfl, (.c (St.cell (h := hS7) (i := 1) rfl) Kept.n), ?_⟩
      replace ⟨y23, hy23, h⟩ := obind h
      obtain ⟨hle29, a24, c25, he26, he27, hS8⟩ := hS7.sub' (α := Int) 2 rfl hy23
      refine AW.u (i := 4) rfl (by kernel_rfl) rfl rfl (Pur.sub (α := Int) (l := y3.1.levels) Try.underlying24 sz3 rfl bndN (bndS rfl) hy23 hle29 he26 he27) ?_
      refine go ?_
      refine AW.one (i := 6) (by kernel_rfl) ?_
      refine ⟨_, rfl, ?_⟩
      refine LW.st hS8 1 fun w30 hS9 => ?_
      refine LW.nil ⟨rfl, (.w (by kernel_rfl) Kept.n), ?_⟩
      refine go ?_
      cases oi h
      exact ⟨a24, c25, ⟨rfl, rfl, rfl, trivial⟩, hS9.pick [0, 1, 2, 3] rfl rfl⟩
    replace h := bcF h hc18
    refine go ?_
    refine cd (fun hc31 => ?_) fun hc31 => ?_
    · replace h := bcT h hc31
      refine CW.draw (by kernel_rfl) ?_
      have hS10 := hS5.drew
      refine go ?_
      replace ⟨y32, hy32, h⟩ := obind h
      refine AW.all (rs := [3, 5]) (by kernel_rfl) (by simp) ⟨?_, ?_, trivial⟩
      · obtain ⟨F42, hL43⟩ := hS10.lendI [0] [1, 2, 3]
        have q := W_s_l1Below (w0 := w15.drew) hy32 (hL43.rB hr0_0) hL43.st
        refine ⟨_, rfl, ?_⟩
        refine LW.call pl29 rfl rfl ?_
        refine Ret.mono q ?_
        rintro _ w44 ⟨rfl, hs⟩
        have hS11 := hL43.back _ _ hs
        refine LW.nil ⟨rfl, (.c (St.cell (h := hS11) (i := 1) rfl) Kept.n), ?_⟩
        refine AW.one (i := 5) (by kernel_rfl) ?_
        refine ⟨_, rfl, ?_⟩
        refine LW.bsl (α := Int) (vs := [(0, .int .i64 (-1)), (1, .int .i64 4)]) (cs := #[.int .i64 (-1), .int .i64 4]) (l := ([-1, 4] : List Int)) rfl (by kernel_rfl) rfl rfl rfl (fun w => ⟨[.int .i64 (-1)], [.int .i64 4], [], [], rfl, rfl, ⟨rfl, rfl⟩, ⟨[.int .i64 4], [], [], [], rfl, rfl, ⟨rfl, rfl⟩, rfl⟩⟩) hS11 rfl ?_
        intro a45 c46 w47 hS12 hf
        refine LW.nil ⟨rfl, (.c (St.cell (h := hS12) (i := 2) rfl) Kept.n), ?_⟩
        replace ⟨y48, hy48, h⟩ := obind h
        obtain ⟨F49, hL50⟩ := hS12.lendI [1] [0, 2, 3, 4]
        have q := W_s_l1PickInt (w0 := w47) hy48 (hL50.rB hr0_0) rfl (hL50.rI 0 rfl) hL50.st
        refine AW.one (i := 6) (by kernel_rfl) ?_
        refine ⟨_, rfl, ?_⟩
        refine LW.call pl68 rfl rfl ?_
        refine Ret.mono q ?_
        rintro _ w51 ⟨rfl, hs⟩
        have hS13 := hL50.back _ _ hs
        refine LW.nil ⟨rfl, (.c (St.cell (h := hS13) (i := 2) rfl) Kept.n), ?_⟩
        replace ⟨y52, hy52, h⟩ := obind h
        obtain ⟨b55, o56, hae, hp53, hq54⟩ := hS13.ownIdx (α := Int) (i := 3) rfl hy52
        subst hae
        refine AW.u (i := 7) rfl (by kernel_rfl) rfl rfl (Pur.ix Try.underlying24 sz3 rfl rfl hp53 hq54) ?_
        replace ⟨y57, hy57, h⟩ := obind h
        refine AW.one (i := 8) (by kernel_rfl) ?_
        refine ⟨_, rfl, ?_⟩
        refine LW.stE (M := []) (L := [bx g0 106 [.slice a0_0 x0.b.length c0_0, .int .i64 y48.2.i, .int .i64 y48.2.h], sl a45 c46 ([-1, 4] : List Int), bx g9 26 [.slice (some ⟨b55, o56, none⟩) y3.1.levels.length c7], sl (some ⟨b55, o56, none⟩) c7 y3.1.levels, bx g1 26 [.slice none 0 0]]) (z := y52) (z' := y48.1) (o := 0) hS13 (i := 3) rfl hy52 ag3 rfl (by show _ = o56 + (y32.1 : Int).toNat * 1 + 0; omega) rfl rfl rfl rfl (whole (fun w G hG => by cases (show G = [] from hG); exact ⟨rfl, rfl⟩)) ?_
        intro w58 hS14 hf
        rw [Option.some.inj hy57] at hS14
        refine LW.nil ⟨rfl, (.w (by kernel_rfl) Kept.n), ?_⟩
        refine go ?_
        rw [show y3.1.levels.length = y57.length from (len_set (Option.some.inj hy57))] at hS14
        cases oi h
        exact ⟨(some ⟨b55, o56, none⟩), c7, ⟨rfl, rfl, rfl, trivial⟩, hS14.pick [0, 2, 3, 4] rfl rfl⟩
      refine ⟨_, rfl, ?_⟩
      refine LW.bsl (α := Int) (vs := [(0, .int .i64 (-1)), (1, .int .i64 4)]) (cs := #[.int .i64 (-1), .int .i64 4]) (l := ([-1, 4] : List Int)) rfl (by kernel_rfl) rfl rfl rfl (fun w => ⟨[.int .i64 (-1)], [.int .i64 4], [], [], rfl, rfl, ⟨rfl, rfl⟩, ⟨[.int .i64 4], [], [], [], rfl, rfl, ⟨rfl, rfl⟩, rfl⟩⟩) hS10 rfl ?_
      intro a59 c60 w61 hS15 hf
      refine LW.nil ⟨rfl, (.c (St.cell (h := hS15) (i := 2) rfl) Kept.n), ?_⟩
      obtain ⟨F62, hL63⟩ := hS15.lendI [1] [0, 2, 3, 4]
      have q := W_s_l1Below (w0 := w61) hy32 (hL63.rB hr0_0) hL63.st
      refine AW.one (i := 3) (by kernel_rfl) ?_
      refine ⟨_, rfl, ?_⟩
      refine LW.call pl29 rfl rfl ?_
      refine Ret.mono q ?_
      rintro _ w64 ⟨rfl, hs⟩
      have hS16 := hL63.back _ _ hs
      refine LW.nil ⟨rfl, (.c (St.cell (h := hS16) (i := 2) rfl) Kept.n), ?_⟩
      replace ⟨y65, hy65, h⟩ := obind h
      obtain ⟨F66, hL67⟩ := hS16.lendI [0] [1, 2, 3, 4]
      have q := W_s_l1PickInt (w0 := w64) hy65 (hL67.rB hr0_0) rfl (hL67.rI 0 rfl) hL67.st
      refine AW.one (i := 6) (by kernel_rfl) ?_
      refine ⟨_, rfl, ?_⟩
      refine LW.call pl68 rfl rfl ?_
      refine Ret.mono q ?_
      rintro _ w68 ⟨rfl, hs⟩
      have hS17 := hL67.back _ _ hs
      refine LW.nil ⟨rfl, (.c (St.cell (h := hS17) (i := 2) rfl) Kept.n), ?_⟩
      replace ⟨y69, hy69, h⟩ := obind h
      obtain ⟨b72, o73, hae, hp70, hq71⟩ := hS17.ownIdx (α := Int) (i := 3) rfl hy69
      subst hae
      refine AW.u (i := 7) rfl (by kernel_rfl) rfl rfl (Pur.ix Try.underlying24 sz3 rfl rfl hp70 hq71) ?_
      replace ⟨y74, hy74, h⟩ := obind h
      refine AW.one (i := 8) (by kernel_rfl) ?_
      refine ⟨_, rfl, ?_⟩
      refine LW.stE (M := []) (L := [bx g0 106 [.slice a0_0 x0.b.length c0_0, .int .i64 y65.2.i, .int .i64 y65.2.h], sl a59 c60 ([-1, 4] : List Int), bx g9 26 [.slice (some ⟨b72, o73, none⟩) y3.1.levels.length c7], sl (some ⟨b72, o73, none⟩) c7 y3.1.levels, bx g1 26 [.slice none 0 0]]) (z := y69) (z' := y65.1) (o := 0) hS17 (i := 3) rfl hy69 ag3 rfl (by show _ = o73 + (y32.1 : Int).toNat * 1 + 0; omega) rfl rfl rfl rfl (whole (fun w G hG => by cases (show G = [] from hG); exact ⟨rfl, rfl⟩)) ?_
      intro w75 hS18 hf
      rw [Option.some.inj hy74] at hS18
      refine LW.nil ⟨rfl, (.w (by kernel_rfl) Kept.n), ?_⟩
      refine go ?_
      rw [show y3.1.levels.length = y74.length from (len_set (Option.some.inj hy74))] at hS18
      cases oi h
      exact ⟨(some ⟨b72, o73, none⟩), c7, ⟨rfl, rfl, rfl, trivial⟩, hS18.pick [0, 2, 3, 4] rfl rfl⟩
    replace h := bcF h hc31
    refine go ?_
    refine CW.fl [0, 2, 3, 26] fun e => ?_
    refine cd (fun hc76 => ?_) fun hc76 => ?_
    · replace h := bcT h hc76
      refine go ?_
      replace ⟨y77, hy77, h⟩ := obind h
      refine LW.app1 (M := []) (L := [bx g0 106 [.slice a0_0 x0.b.length c0_0, .int .i64 y12.2.i, .int .i64 y12.2.h], bx g9 26 [.slice a6 y3.1.levels.length c7], sl a6 c7 y3.1.levels, bx g1 26 [.slice none 0 0]]) (vs := #[.int .i64 0]) (i := 2) sT24 rfl (by kernel_rfl) rfl rfl hy77 hS5 rfl (fun w G hG => by cases (show G = [] from hG); exact ⟨rfl, rfl⟩) rfl rfl ?_
      intro v80 a78 c79 w81 hS19 hf
      refine go ?_
      refine LW.st hS19 1 fun w82 hS20 => ?_
      refine go ?_
      cases oi h
      exact ⟨a78, c79, ⟨rfl, rfl, rfl, trivial⟩, hS20.pick [0, 1, 2, 3] rfl rfl⟩
    replace h := bcF h hc76
    refine go ?_
    cases oi h
    exact ⟨a6, c7, ⟨rfl, rfl, rfl, trivial⟩, hS5.pick [0, 1, 2, 3] rfl rfl⟩
  rintro e w83 ⟨j16a0, j16c0, hE, hS21⟩
  obtain ⟨e, rfl⟩ := hE.out
  have h := h17
  refine go ?_
  refine LW.st hS21 3 fun w84 hS22 => ?_
  refine go ?_
  replace h := Option.some.inj h
  subst h
  exact And.intro trivial ⟨_, Res.one (resOne.b hS22 3 rfl ag26 rfl rfl), j16a0, j16c0, rfl, hS22.pick [2, 0] rfl rfl⟩

theorem W_s_l4Own {w0 : World} {F : List Nat} {N : Nat} {x0 : DCur} {r : (List Int) × DCur} (h : F_s_l4Own N x0 = some r) {g0 : Nat} {a0_0 : Option Addr} {c0_0 : Nat} (hr0_0 : rdS (Bor w0 F) w0 a0_0 c0_0 x0.b) (hS : St w0 F w0 [bx g0 106 [.slice a0_0 x0.b.length c0_0, .int .i64 x0.i, .int .i64 x0.h]]) :
    Ret Try.prog 31 #[.pointer (some ⟨g0, 0, none⟩)] w0 (fun v w => ∃ ar0 cr0, v = .slice ar0 r.1.length cr0 ∧ St w0 F w [sl ar0 cr0 r.1, bx g0 106 [.slice a0_0 x0.b.length c0_0, .int .i64 r.2.i, .int .i64 r.2.h]]) := by
  unfold F_s_l4Own at h
  refine Ret.fn Try.func31 fun e => ?_
  refine go ?_
  refine LW.bsl (α := Int) (vs := []) (cs := #[]) (l := ([] : List Int)) rfl (by kernel_rfl) rfl rfl rfl (fun w => rfl) hS rfl ?_
  intro a1 c2 w3 hS1 hf
  refine go ?_
  obtain ⟨o17, ho17, h18⟩ := obind h
  refine CW.mono (CW.iter (σ := (List Int) × Int × Int × Int) (ρ := (List Int) × Int × Int × Int) (fun s4 e wb => ∃ (s4a0 : Option Addr), ∃ (s4c0 : Nat), En e [(0, .pointer (some ⟨g0, 0, none⟩)), (3, .slice s4a0 s4.1.length s4c0), (4, .int .i64 s4.2.1)] ∧ St w0 F wb [sl s4a0 s4c0 s4.1, bx g0 106 [.slice a0_0 x0.b.length c0_0, .int .i64 s4.2.2.1, .int .i64 s4.2.2.2]]) (fun s4 x e wb => x = .exit 0 ∧ ∃ (s4a0 : Option Addr), ∃ (s4c0 : Nat), En e [(0, .pointer (some ⟨g0, 0, none⟩)), (3, .slice s4a0 s4.1.length s4c0)] ∧ St w0 F wb [sl s4a0 s4c0 s4.1, bx g0 106 [.slice a0_0 x0.b.length c0_0, .int .i64 s4.2.2.1, .int .i64 s4.2.2.2]]) ?_ N (([] : List Int), 0, x0.i, x0.h) _ _ _ ⟨a1, c2, ⟨rfl, rfl, rfl, trivial⟩, hS1.pick [0, 1] rfl rfl⟩ ho17) ?_
  · intro s4 e w5 o hM h
    obtain ⟨s4a0, s4c0, hE, hS2⟩ := hM
    obtain ⟨e, rfl⟩ := hE.out
    refine go ?_
    refine cd (fun hc6 => ?_) fun hc6 => ?_
    · replace h := bcT h hc6
      refine go ?_
      replace ⟨y7, hy7, h⟩ := obind h
      obtain ⟨F8, hL9⟩ := hS2.lendI [1] [0]
      refine LW.cl (W_s_l1Once hy7 (hL9.rB hr0_0) hL9.st) ?_
      rintro _ w10 ⟨rfl, hs⟩
      have hS3 := hL9.back _ _ hs
      refine go ?_
      refine cd (fun hc11 => ?_) fun hc11 => ?_
      · replace h := bcT h hc11
        refine go ?_
        replace ⟨y12, hy12, h⟩ := obind h
        refine LW.app1 (M := []) (L := [bx g0 106 [.slice a0_0 x0.b.length c0_0, .int .i64 y7.2.i, .int .i64 y7.2.h], sl s4a0 s4c0 s4.1]) (vs := #[.int .i64 s4.2.1]) (i := 1) sT24 rfl (by kernel_rfl) rfl rfl hy12 hS3 rfl (fun w G hG => by cases (show G = [] from hG); exact ⟨rfl, rfl⟩) rfl rfl ?_
        intro v15 a13 c14 w16 hS4 hf
        refine go ?_
        cases oi h
        exact ⟨rfl, ⟨a13, c14, ⟨rfl, rfl, rfl, trivial⟩, hS4.pick [1, 0] rfl rfl⟩⟩
      replace h := bcF h hc11
      refine go ?_
      cases oi h
      exact ⟨rfl, ⟨s4a0, s4c0, ⟨rfl, rfl, rfl, trivial⟩, hS3.pick [1, 0] rfl rfl⟩⟩
    replace h := bcF h hc6
    refine go ?_
    cases oi h
    exact ⟨trivial, rfl, ⟨s4a0, s4c0, ⟨rfl, rfl, trivial⟩, hS2.pick [0, 1] rfl rfl⟩⟩
  intro x e w19 hM
  obtain ⟨rfl, hM⟩ := hM
  obtain ⟨s4a0, s4c0, hE, hS5⟩ := hM
  obtain ⟨e, rfl⟩ := hE.out
  have h := h18
  refine go ?_
  replace ⟨y20, hy20, h⟩ := obind h
  obtain ⟨F21, hL22⟩ := hS5.lendI [1] [0]
  refine LW.cl (W_s_l1Below hy20 (hL22.rB hr0_0) hL22.st) ?_
  rintro _ w23 ⟨rfl, hs⟩
  have hS6 := hL22.back _ _ hs
  refine go ?_
  refine cd (fun hc24 => ?_) fun hc24 => ?_
  · replace h := bcT h hc24
    refine go ?_
    replace ⟨y25, hy25, h⟩ := obind h
    refine LW.app1 (M := []) (L := [bx g0 106 [.slice a0_0 x0.b.length c0_0, .int .i64 y20.2.i, .int .i64 y20.2.h], sl s4a0 s4c0 o17.1]) (vs := #[.int .i64 4]) (i := 1) sT24 rfl (by kernel_rfl) rfl rfl hy25 hS6 rfl (fun w G hG => by cases (show G = [] from hG); exact ⟨rfl, rfl⟩) rfl rfl ?_
    intro v28 a26 c27 w29 hS7 hf
    refine go ?_
    replace h := Option.some.inj h
    subst h
    exact And.intro trivial ⟨_, Res.one (resOne.t rfl), a26, c27, rfl, hS7.pick [1, 0] rfl rfl⟩
  replace h := bcF h hc24
  refine go ?_
  refine cd (fun hc30 => ?_) fun hc30 => ?_
  · replace h := bcT h hc30
    refine go ?_
    replace ⟨y31, hy31, h⟩ := obind h
    refine LW.app1 (M := []) (L := [bx g0 106 [.slice a0_0 x0.b.length c0_0, .int .i64 y20.2.i, .int .i64 y20.2.h], sl s4a0 s4c0 o17.1]) (vs := #[.int .i64 0]) (i := 1) sT24 rfl (by kernel_rfl) rfl rfl hy31 hS6 rfl (fun w G hG => by cases (show G = [] from hG); exact ⟨rfl, rfl⟩) rfl rfl ?_
    intro v34 a32 c33 w35 hS8 hf
    refine go ?_
    replace h := Option.some.inj h
    subst h
    exact And.intro trivial ⟨_, Res.one (resOne.t rfl), a32, c33, rfl, hS8.pick [1, 0] rfl rfl⟩
  replace h := bcF h hc30
  refine go ?_
  replace h := Option.some.inj h
  subst h
  exact And.intro trivial ⟨_, Res.one (resOne.t rfl), s4a0, s4c0, rfl, hS6.pick [1, 0] rfl rfl⟩

theorem W_s_l5Num {w0 : World} {F : List Nat} {N : Nat} {x0 : DCur} {r : Int × DCur} (h : F_s_l5Num N x0 = some r) {g0 : Nat} {a0_0 : Option Addr} {c0_0 : Nat} (hr0_0 : rdS (Bor w0 F) w0 a0_0 c0_0 x0.b) (hS : St w0 F w0 [bx g0 106 [.slice a0_0 x0.b.length c0_0, .int .i64 x0.i, .int .i64 x0.h]]) :
    Ret Try.prog 70 #[.pointer (some ⟨g0, 0, none⟩)] w0 (fun v w => v = .int .i64 r.1 ∧ St w0 F w [bx g0 106 [.slice a0_0 x0.b.length c0_0, .int .i64 r.2.i, .int .i64 r.2.h]]) := by
  unfold F_s_l5Num at h
  refine Ret.fn Try.func70 fun e => ?_
  refine go ?_
  replace ⟨y1, hy1, h⟩ := obind h
  obtain ⟨F2, hL3⟩ := hS.lendI [0] []
  refine LW.cl (W_s_l1Once hy1 (hL3.rB hr0_0) hL3.st) ?_
  rintro _ w4 ⟨rfl, hs⟩
  have hS1 := hL3.back _ _ hs
  refine go ?_
  refine cd (fun hc5 => ?_) fun hc5 => ?_
  · replace h := bcT h hc5
    refine go ?_
    refine LW.bsl (α := Int) (vs := [(0, .int .i64 (-1)), (1, .int .i64 1000000), (2, .int .i64 1000001), (3, .int .i64 999999)]) (cs := #[.int .i64 (-1), .int .i64 1000000, .int .i64 1000001, .int .i64 999999]) (l := ([-1, 1000000, 1000001, 999999] : List Int)) rfl (by kernel_rfl) rfl rfl rfl (fun w => ⟨[.int .i64 (-1)], [.int .i64 1000000, .int .i64 1000001, .int .i64 999999], [], [], rfl, rfl, ⟨rfl, rfl⟩, ⟨[.int .i64 1000000], [.int .i64 1000001, .int .i64 999999], [], [], rfl, rfl, ⟨rfl, rfl⟩, ⟨[.int .i64 1000001], [.int .i64 999999], [], [], rfl, rfl, ⟨rfl, rfl⟩, ⟨[.int .i64 999999], [], [], [], rfl, rfl, ⟨rfl, rfl⟩, rfl⟩⟩⟩⟩) hS1 rfl ?_
    intro a6 c7 w8 hS2 hf
    replace ⟨y9, hy9, h⟩ := obind h
    obtain ⟨F10, hL11⟩ := hS2.lendI [1] [0]
    refine LW.cl (W_s_l1PickInt hy9 (hL11.rB hr0_0) rfl (hL11.rI 0 rfl) hL11.st) ?_
    rintro _ w12 ⟨rfl, hs⟩
    have hS3 := hL11.back _ _ hs
    refine go ?_
    replace h := Option.some.inj h
    subst h
    exact And.intro trivial ⟨_, Res.one (resOne.t rfl), rfl, hS3.pick [0] rfl rfl⟩
  replace h := bcF h hc5
  refine go ?_
  replace ⟨y13, hy13, h⟩ := obind h
  obtain ⟨F14, hL15⟩ := hS1.lendI [0] []
  refine LW.cl (W_s_l1Below hy13 (hL15.rB hr0_0) hL15.st) ?_
  rintro _ w16 ⟨rfl, hs⟩
  have hS4 := hL15.back _ _ hs
  refine go ?_
  replace h := Option.some.inj h
  subst h
  exact And.intro trivial ⟨_, Res.one (resOne.t rfl), rfl, hS4.pick [0] rfl rfl⟩

theorem W_s_TreeOk {w0 : World} {N : Nat} {x0 : List DRes} {r : Bool} (h : F_s_TreeOk N x0 = some r) {a0_0 : Option Addr} {n0_0 c0_0 : Nat} (hn0_0 : n0_0 = x0.length) (hr0_0 : rdS (Bor w0 []) w0 a0_0 c0_0 x0) :
    Ret Try.prog 44 #[.slice a0_0 n0_0 c0_0] w0 (fun v w => v = .bool r ∧ St w0 [] w []) := by
  subst hn0_0
  unfold F_s_TreeOk at h
  refine Ret.fn Try.func44 fun e => ?_
  have hS1 := St.start w0
  refine gs ?_
  refine CW.region ?_
  refine gs ?_
  obtain ⟨j1, hj1, h2⟩ := obind h
  refine CW.jn [0] [] [(23, .bool j1)] hS1 (h1 := ?_) (h2 := ?_)
  · have h := hj1
    refine go ?_
    rcases bcases ((x0.length : Int) != 5) with hc3 | hc3
    · replace h := bcT h hc3
      refine go ?_
      cases oi h
      exact ⟨⟨rfl, rfl, trivial⟩, hS1.pick [] rfl rfl⟩
    replace h := bcF h hc3
    refine go ?_
    replace ⟨y4, hy4, h⟩ := obind h
    obtain ⟨b7, o8, cs9, hae, hb12, hp5, hq6, hd10, hk11⟩ := hr0_0.idx hy4
    subst hae
    obtain rfl := hd10
    refine go ?_
    refine LW.u (Pur.ix Try.underlying32 sz111 rfl rfl hp5 hq6) rfl ?_
    refine go ?_
    refine LW.l (Ldr.old w0 ag4 rfl (hk11 0 _ rfl)) (hS1.same _ hb12.1 hb12.2) rfl ?_
    refine go ?_
    rcases bcases (!y4.live) with hc13 | hc13
    · replace h := bcT h hc13
      refine go ?_
      cases oi h
      exact ⟨⟨rfl, rfl, trivial⟩, hS1.pick [] rfl rfl⟩
    replace h := bcF h hc13
    refine go ?_
    refine LW.u (Pur.ix Try.underlying32 sz111 rfl rfl hp5 hq6) rfl ?_
    refine go ?_
    refine LW.l (Ldr.old w0 ag3 rfl (hk11 1 _ rfl)) (hS1.same _ hb12.1 hb12.2) rfl ?_
    refine go ?_
    cases oi h
    exact ⟨⟨rfl, rfl, trivial⟩, hS1.pick [] rfl rfl⟩
  intro e w14 hS2
  have h := h2
  refine go ?_
  refine cd (fun hc15 => ?_) fun hc15 => ?_
  · replace h := bcT h hc15
    refine go ?_
    cases h
    exact fi hS2
  replace h := bcF h hc15
  refine go ?_
  obtain ⟨o66, ho66, h67⟩ := obind h
  refine CW.mono (CW.lx [0] [] [0] 0 (fun s16 => [(3, .int .i64 s16)]) (RT Try.prog Try.f44.results (fun u => .bool u) w0 []) hS2 ho66 (hb := ?_)) ?_
  · intro s16 e w17 o hS3 h
    refine go ?_
    refine cd (fun hc18 => ?_) fun hc18 => ?_
    · replace h := bcT h hc18
      refine gs ?_
      refine CW.block ?_
      refine gs ?_
      obtain ⟨j19, hj19, h20⟩ := obind h
      refine CW.jn [0, 3] [] [(52, .bool j19)] hS3 (h1 := ?_) (h2 := ?_)
      · have h := hj19
        refine go ?_
        replace ⟨y21, hy21, h⟩ := obind h
        obtain ⟨b24, o25, cs26, hae, hb29, hp22, hq23, hd27, hk28⟩ := hr0_0.idx hy21
        subst hae
        obtain rfl := hd27
        refine LW.u (Pur.ix Try.underlying32 sz111 rfl rfl hp22 hq23) rfl ?_
        refine go ?_
        refine LW.l (Ldr.old w0 ag4 rfl (hk28 0 _ rfl)) (hS3.same _ hb29.1 hb29.2) rfl ?_
        refine go ?_
        rcases bcases (!y21.live) with hc30 | hc30
        · replace h := bcT h hc30
          refine go ?_
          refine LW.u (Pur.ix Try.underlying32 sz111 rfl rfl hp22 hq23) rfl ?_
          refine go ?_
          refine LW.l (Ldr.oldN w0 ag111 rfl rfl (fun j u hu => hk28 j u hu)) (hS3.same _ hb29.1 hb29.2) rfl ?_
          refine go ?_
          refine LW.u (Pur.build (vs := []) (cs := #[.bool false, .int .i64 0, .int .i64 0, .int .i64 0, .int .i64 0]) rfl (by kernel_rfl)) rfl ?_
          refine go ?_
          refine LW.u (Pur.ane eg111 rfl rfl (fun w => eq111 y21 (DRes.mk false 0 (DAmt.mk 0 0 0)) w)) rfl ?_
          refine go ?_
          rcases bcases (!decide (y21 = DRes.mk false 0 (DAmt.mk 0 0 0))) with hc31 | hc31
          · replace h := bcT h hc31
            refine go ?_
            cases oi h
            exact ⟨⟨rfl, rfl, rfl, trivial⟩, hS3.pick [] rfl rfl⟩
          replace h := bcF h hc31
          refine go ?_
          refine LW.fl [0, 3, 44, 45, 46] fun e => ?_
          refine go ?_
          refine LW.u (Pur.ix Try.underlying32 sz111 rfl rfl hp22 hq23) rfl ?_
          refine go ?_
          refine LW.l (Ldr.oldN w0 ag28 rfl rfl (fun j u hu => oldsub (m := 3) hk28 2 hu)) (hS3.same _ hb29.1 hb29.2) rfl ?_
          replace ⟨y32, hy32, h⟩ := obind h
          refine go ?_
          refine LW.c0 (W_s_AmtOk hy32) hS3 fun w33 hS4 => ?_
          refine go ?_
          cases oi h
          exact ⟨⟨rfl, rfl, rfl, trivial⟩, hS4.pick [] rfl rfl⟩
        replace h := bcF h hc30
        refine go ?_
        refine LW.fl [0, 3, 44, 45, 46] fun e => ?_
        refine go ?_
        refine LW.u (Pur.ix Try.underlying32 sz111 rfl rfl hp22 hq23) rfl ?_
        refine go ?_
        refine LW.l (Ldr.oldN w0 ag28 rfl rfl (fun j u hu => oldsub (m := 3) hk28 2 hu)) (hS3.same _ hb29.1 hb29.2) rfl ?_
        replace ⟨y34, hy34, h⟩ := obind h
        refine go ?_
        refine LW.c0 (W_s_AmtOk hy34) hS3 fun w35 hS5 => ?_
        refine go ?_
        cases oi h
        exact ⟨⟨rfl, rfl, rfl, trivial⟩, hS5.pick [] rfl rfl⟩
      intro e w36 hS6
      have h := h20
      refine go ?_
      refine cd (fun hc37 => ?_) fun hc37 => ?_
      · replace h := bcT h hc37
        refine go ?_
        cases oi h
        exact ⟨trivial, rfl, _, rfl, ⟨_, Res.one (resOne.t rfl), rfl, hS6.pick [] rfl rfl⟩⟩
      replace h := bcF h hc37
      refine gs ?_
      obtain ⟨j38, hj38, h39⟩ := obind h
      refine CW.jn [0, 3] [] [(91, .bool j38)] hS6 (h1 := ?_) (h2 := ?_)
      · have h := hj38
        refine go ?_
        rcases bcases (decide (s16 > 0)) with hc40 | hc40
        · replace h := bcT h hc40
          refine go ?_
          replace ⟨y41, hy41, h⟩ := obind h
          obtain ⟨b44, o45, cs46, hae, hb49, hp42, hq43, hd47, hk48⟩ := hr0_0.idx hy41
          subst hae
          obtain rfl := hd47
          refine go ?_
          refine LW.u (Pur.ix Try.underlying32 sz111 rfl rfl hp42 hq43) rfl ?_
          refine go ?_
          refine LW.l (Ldr.old w0 ag4 rfl (hk48 0 _ rfl)) (hS6.same _ hb49.1 hb49.2) rfl ?_
          refine go ?_
          rcases bcases y41.live with hc50 | hc50
          · replace h := bcT h hc50
            refine go ?_
            refine LW.u (Pur.ix Try.underlying32 sz111 rfl rfl hp42 hq43) rfl ?_
            refine go ?_
            refine LW.l (Ldr.old w0 ag3 rfl (hk48 1 _ rfl)) (hS6.same _ hb49.1 hb49.2) rfl ?_
            replace ⟨y51, hy51, h⟩ := obind h
            refine go ?_
            refine LW.c0 (W_s_l6Res hy51) hS6 fun w52 hS7 => ?_
            refine go ?_
            refine LW.fl [0, 3, 62, 70] fun e => ?_
            rcases bcases (!y51) with hc53 | hc53
            · replace h := bcT h hc53
              refine go ?_
              cases oi h
              exact ⟨⟨rfl, rfl, rfl, trivial⟩, hS7.pick [] rfl rfl⟩
            replace h := bcF h hc53
            refine go ?_
            refine LW.u (Pur.ix Try.underlying32 sz111 rfl rfl hp42 hq43) rfl ?_
            refine go ?_
            refine LW.l (Ldr.old w0 ag3 rfl (hk48 1 _ rfl)) (hS7.same _ hb49.1 hb49.2) rfl ?_
            refine go ?_
            rcases bcases (y41.parent == s16) with hc54 | hc54
            · replace h := bcT h hc54
              refine go ?_
              cases oi h
              exact ⟨⟨rfl, rfl, rfl, trivial⟩, hS7.pick [] rfl rfl⟩
            replace h := bcF h hc54
            refine go ?_
            refine LW.u (Pur.ix Try.underlying32 sz111 rfl rfl hp42 hq43) rfl ?_
            refine go ?_
            refine LW.l (Ldr.old w0 ag3 rfl (hk48 1 _ rfl)) (hS7.same _ hb49.1 hb49.2) rfl ?_
            replace ⟨y55, hy55, h⟩ := obind h
            obtain ⟨b58, o59, cs60, hae, hb63, hp56, hq57, hd61, hk62⟩ := hr0_0.idx hy55
            cases hae
            obtain rfl := hd61
            refine go ?_
            refine LW.u (Pur.ix Try.underlying32 sz111 rfl rfl hp56 hq57) rfl ?_
            refine go ?_
            refine LW.l (Ldr.old w0 ag4 rfl (hk62 0 _ rfl)) (hS7.same _ hb63.1 hb63.2) rfl ?_
            refine go ?_
            cases oi h
            exact ⟨⟨rfl, rfl, rfl, trivial⟩, hS7.pick [] rfl rfl⟩
          replace h := bcF h hc50
          refine go ?_
          cases oi h
          exact ⟨⟨rfl, rfl, rfl, trivial⟩, hS6.pick [] rfl rfl⟩
        replace h := bcF h hc40
        refine go ?_
        cases oi h
        exact ⟨⟨rfl, rfl, rfl, trivial⟩, hS6.pick [] rfl rfl⟩
      intro e w64 hS8
      have h := h39
      refine go ?_
      refine cd (fun hc65 => ?_) fun hc65 => ?_
      · replace h := bcT h hc65
        refine go ?_
        cases oi h
        exact ⟨trivial, rfl, _, rfl, ⟨_, Res.one (resOne.t rfl), rfl, hS8.pick [] rfl rfl⟩⟩
      replace h := bcF h hc65
      refine go ?_
      cases oi h
      exact ⟨rfl, ⟨⟨rfl, rfl, trivial⟩, hS8.pick [] rfl rfl⟩⟩
    replace h := bcF h hc18
    refine go ?_
    cases oi h
    exact ⟨trivial, rfl, ⟨⟨rfl, trivial⟩, hS3.pick [] rfl rfl⟩⟩
  intro x e w68 hM
  rcases o66 with o66 | r123
  · obtain ⟨rfl, hM⟩ := hM
    obtain ⟨hE, hS9⟩ := hM
    obtain ⟨e, rfl⟩ := hE.out
    have h := h67
    refine go ?_
    obtain ⟨o115, ho115, h116⟩ := obind h
    refine CW.mono (CW.lx [0] [] [0] 2 (fun s69 => [(4, .int .i64 s69)]) (RT Try.prog Try.f44.results (fun u => .bool u) w0 []) hS9 ho115 (hb := ?_)) ?_
    · intro s69 e w70 o hS10 h
      refine go ?_
      refine cd (fun hc71 => ?_) fun hc71 => ?_
      · replace h := bcT h hc71
        refine go ?_
        obtain ⟨o98, ho98, h99⟩ := obind h
        refine CW.mono (CW.lb [0, 4] [] [0, 4, 5] 4 (fun s72 => [(5, .int .i64 s72.1), (6, .int .i64 s72.2)]) hS10 ho98 (hb := ?_)) ?_
        · intro s72 e w73 o hS11 h
          refine gs ?_
          obtain ⟨j74, hj74, h75⟩ := obind h
          refine CW.jn [0, 4, 5, 6] [] [(111, .bool j74)] hS11 (h1 := ?_) (h2 := ?_)
          · have h := hj74
            refine go ?_
            rcases bcases (decide (s72.2 < 5)) with hc76 | hc76
            · replace h := bcT h hc76
              refine go ?_
              replace ⟨y77, hy77, h⟩ := obind h
              obtain ⟨b80, o81, cs82, hae, hb85, hp78, hq79, hd83, hk84⟩ := hr0_0.idx hy77
              subst hae
              obtain rfl := hd83
              refine go ?_
              refine LW.u (Pur.ix Try.underlying32 sz111 rfl rfl hp78 hq79) rfl ?_
              refine go ?_
              refine LW.l (Ldr.old w0 ag4 rfl (hk84 0 _ rfl)) (hS11.same _ hb85.1 hb85.2) rfl ?_
              refine go ?_
              rcases bcases y77.live with hc86 | hc86
              · replace h := bcT h hc86
                refine go ?_
                cases oi h
                exact ⟨⟨rfl, rfl, rfl, rfl, rfl, trivial⟩, hS11.pick [] rfl rfl⟩
              replace h := bcF h hc86
              refine go ?_
              cases oi h
              exact ⟨⟨rfl, rfl, rfl, rfl, rfl, trivial⟩, hS11.pick [] rfl rfl⟩
            replace h := bcF h hc76
            refine go ?_
            cases oi h
            exact ⟨⟨rfl, rfl, rfl, rfl, rfl, trivial⟩, hS11.pick [] rfl rfl⟩
          intro e w87 hS12
          have h := h75
          refine go ?_
          refine cd (fun hc88 => ?_) fun hc88 => ?_
          · replace h := bcT h hc88
            refine go ?_
            replace ⟨y89, hy89, h⟩ := obind h
            obtain ⟨b92, o93, cs94, hae, hb97, hp90, hq91, hd95, hk96⟩ := hr0_0.idx hy89
            subst hae
            obtain rfl := hd95
            refine LW.u (Pur.ix Try.underlying32 sz111 rfl rfl hp90 hq91) rfl ?_
            refine go ?_
            refine LW.l (Ldr.old w0 ag3 rfl (hk96 1 _ rfl)) (hS12.same _ hb97.1 hb97.2) rfl ?_
            refine go ?_
            cases oi h
            exact ⟨rfl, ⟨⟨rfl, rfl, rfl, rfl, trivial⟩, hS12.pick [] rfl rfl⟩⟩
          replace h := bcF h hc88
          refine go ?_
          cases oi h
          exact ⟨trivial, rfl, ⟨⟨rfl, rfl, rfl, trivial⟩, hS12.pick [] rfl rfl⟩⟩
        intro x e w100 hM
        obtain ⟨rfl, hM⟩ := hM
        obtain ⟨hE, hS13⟩ := hM
        obtain ⟨e, rfl⟩ := hE.out
        have h := h99
        refine gs ?_
        obtain ⟨j101, hj101, h102⟩ := obind h
        refine CW.jn [0, 4] [] [(127, .bool j101)] hS13 (h1 := ?_) (h2 := ?_)
        · have h := hj101
          refine go ?_
          replace ⟨y103, hy103, h⟩ := obind h
          obtain ⟨b106, o107, cs108, hae, hb111, hp104, hq105, hd109, hk110⟩ := hr0_0.idx hy103
          subst hae
          obtain rfl := hd109
          refine LW.u (Pur.ix Try.underlying32 sz111 rfl rfl hp104 hq105) rfl ?_
          refine go ?_
          refine LW.l (Ldr.old w0 ag4 rfl (hk110 0 _ rfl)) (hS13.same _ hb111.1 hb111.2) rfl ?_
          refine go ?_
          rcases bcases y103.live with hc112 | hc112
          · replace h := bcT h hc112
            refine go ?_
            cases oi h
            exact ⟨⟨rfl, rfl, rfl, trivial⟩, hS13.pick [] rfl rfl⟩
          replace h := bcF h hc112
          refine go ?_
          cases oi h
          exact ⟨⟨rfl, rfl, rfl, trivial⟩, hS13.pick [] rfl rfl⟩
        intro e w113 hS14
        have h := h102
        refine go ?_
        refine cd (fun hc114 => ?_) fun hc114 => ?_
        · replace h := bcT h hc114
          refine go ?_
          cases oi h
          exact ⟨trivial, rfl, _, rfl, ⟨_, Res.one (resOne.t rfl), rfl, hS14.pick [] rfl rfl⟩⟩
        replace h := bcF h hc114
        refine go ?_
        cases oi h
        exact ⟨rfl, ⟨⟨rfl, rfl, trivial⟩, hS14.pick [] rfl rfl⟩⟩
      replace h := bcF h hc71
      refine go ?_
      cases oi h
      exact ⟨trivial, rfl, ⟨⟨rfl, trivial⟩, hS10.pick [] rfl rfl⟩⟩
    intro x e w117 hM
    rcases o115 with o115 | r122
    · obtain ⟨rfl, hM⟩ := hM
      obtain ⟨hE, hS15⟩ := hM
      obtain ⟨e, rfl⟩ := hE.out
      have h := h116
      refine go ?_
      replace ⟨y118, hy118, h⟩ := obind h
      refine LW.c0 (W_s_l6Sum hy118 rfl (hS15.rB hr0_0)) hS15 fun w119 hS16 => ?_
      replace ⟨y120, hy120, h⟩ := obind h
      refine LW.c0 (W_s_AmtOk hy120) hS16 fun w121 hS17 => ?_
      refine go ?_
      cases h
      exact fi hS17
    obtain ⟨rfl, u, rfl, hM⟩ := hM
    cases h116
    exact And.intro trivial hM
  obtain ⟨rfl, u, rfl, hM⟩ := hM
  cases h67
  exact And.intro trivial hM

theorem W_s_ArenaOk {w0 : World} {N : Nat} {x0 : List DObj} {r : Bool} (h : F_s_ArenaOk N x0 = some r) {a0_0 : Option Addr} {n0_0 c0_0 : Nat} (hn0_0 : n0_0 = x0.length) (hr0_0 : rdS (Bor w0 []) w0 a0_0 c0_0 x0) :
    Ret Try.prog 77 #[.slice a0_0 n0_0 c0_0] w0 (fun v w => v = .bool r ∧ St w0 [] w []) := by
  subst hn0_0
  unfold F_s_ArenaOk at h
  refine Ret.fn Try.func77 fun e => ?_
  have hS1 := St.start w0
  refine gs ?_
  refine CW.region ?_
  refine gs ?_
  obtain ⟨j1, hj1, h2⟩ := obind h
  refine CW.jn [0] [] [(29, .bool j1)] hS1 (h1 := ?_) (h2 := ?_)
  · have h := hj1
    refine go ?_
    rcases bcases ((x0.length : Int) != 10) with hc3 | hc3
    · replace h := bcT h hc3
      refine go ?_
      cases oi h
      exact ⟨⟨rfl, rfl, trivial⟩, hS1.pick [] rfl rfl⟩
    replace h := bcF h hc3
    refine go ?_
    replace ⟨y4, hy4, h⟩ := obind h
    obtain ⟨b7, o8, cs9, hae, hb12, hp5, hq6, hd10, hk11⟩ := hr0_0.idx hy4
    subst hae
    obtain ⟨a13, c14, a16, c17, a19, c20, rfl, hr15, hr18, hr21⟩ := hd10
    refine go ?_
    refine LW.u (Pur.ix Try.underlying33 sz84 rfl rfl hp5 hq6) rfl ?_
    refine go ?_
    refine LW.l (Ldr.old w0 ag3 rfl (hk11 1 _ rfl)) (hS1.same _ hb12.1 hb12.2) rfl ?_
    refine go ?_
    rcases bcases (y4.kind != 1) with hc22 | hc22
    · replace h := bcT h hc22
      refine go ?_
      cases oi h
      exact ⟨⟨rfl, rfl, trivial⟩, hS1.pick [] rfl rfl⟩
    replace h := bcF h hc22
    refine go ?_
    refine LW.u (Pur.ix Try.underlying33 sz84 rfl rfl hp5 hq6) rfl ?_
    refine go ?_
    refine LW.l (Ldr.old w0 ag3 rfl (hk11 2 _ rfl)) (hS1.same _ hb12.1 hb12.2) rfl ?_
    refine go ?_
    rcases bcases (y4.box != (-1)) with hc23 | hc23
    · replace h := bcT h hc23
      refine go ?_
      cases oi h
      exact ⟨⟨rfl, rfl, trivial⟩, hS1.pick [] rfl rfl⟩
    replace h := bcF h hc23
    refine go ?_
    refine LW.u (Pur.ix Try.underlying33 sz84 rfl rfl hp5 hq6) rfl ?_
    refine go ?_
    refine LW.fl [0, 23, 26] fun e => ?_
    refine go ?_
    refine LW.l (Ldr.old w0 ag3 rfl (hk11 4 _ rfl)) (hS1.same _ hb12.1 hb12.2) rfl ?_
    refine go ?_
    cases oi h
    exact ⟨⟨rfl, rfl, trivial⟩, hS1.pick [] rfl rfl⟩
  intro e w24 hS2
  have h := h2
  refine go ?_
  refine cd (fun hc25 => ?_) fun hc25 => ?_
  · replace h := bcT h hc25
    refine go ?_
    cases h
    exact fi hS2
  replace h := bcF h hc25
  refine go ?_
  obtain ⟨o132, ho132, h133⟩ := obind h
  refine CW.mono (CW.lx [0] [] [] 0 (fun s26 => [(3, .int .i64 s26)]) (RT Try.prog Try.f77.results (fun u => .bool u) w0 []) hS2 ho132 (hb := ?_)) ?_
  · intro s26 e w27 o hS3 h
    refine go ?_
    refine cd (fun hc28 => ?_) fun hc28 => ?_
    · replace h := bcT h hc28
      refine gs ?_
      refine CW.block ?_
      refine gs ?_
      obtain ⟨j29, hj29, h30⟩ := obind h
      refine CW.jn [0, 3] [] [(73, .bool j29)] hS3 (h1 := ?_) (h2 := ?_)
      · have h := hj29
        refine go ?_
        replace ⟨y31, hy31, h⟩ := obind h
        obtain ⟨b34, o35, cs36, hae, hb39, hp32, hq33, hd37, hk38⟩ := hr0_0.idx hy31
        subst hae
        obtain ⟨a40, c41, a43, c44, a46, c47, rfl, hr42, hr45, hr48⟩ := hd37
        refine LW.u (Pur.ix Try.underlying33 sz84 rfl rfl hp32 hq33) rfl ?_
        refine LW.l (Ldr.oldN w0 ag84 rfl rfl (fun j u hu => hk38 j u hu)) (hS3.same _ hb39.1 hb39.2) rfl ?_
        replace ⟨y49, hy49, h⟩ := obind h
        refine LW.c0 (W_s_ObjOk hy49 rfl (hS3.rB hr42) rfl (hS3.rB hr45) rfl (hS3.rB hr48)) hS3 fun w50 hS4 => ?_
        refine go ?_
        rcases bcases (!y49) with hc51 | hc51
        · replace h := bcT h hc51
          refine go ?_
          cases oi h
          exact ⟨⟨rfl, rfl, rfl, trivial⟩, hS4.pick [] rfl rfl⟩
        replace h := bcF h hc51
        refine go ?_
        refine LW.u (Pur.ix Try.underlying33 sz84 rfl rfl hp32 hq33) rfl ?_
        refine go ?_
        refine LW.l (Ldr.old w0 ag3 rfl (hk38 1 _ rfl)) (hS4.same _ hb39.1 hb39.2) rfl ?_
        refine go ?_
        rcases bcases (y31.kind != 0) with hc52 | hc52
        · replace h := bcT h hc52
          refine go ?_
          refine LW.fl [0, 3, 42, 53] fun e => ?_
          rcases bcases (decide (s26 > 0)) with hc53 | hc53
          · replace h := bcT h hc53
            refine go ?_
            refine LW.u (Pur.ix Try.underlying33 sz84 rfl rfl hp32 hq33) rfl ?_
            refine go ?_
            refine LW.l (Ldr.old w0 ag3 rfl (hk38 2 _ rfl)) (hS4.same _ hb39.1 hb39.2) rfl ?_
            refine go ?_
            rcases bcases (decide (y31.box ≥ 0)) with hc54 | hc54
            · replace h := bcT h hc54
              refine go ?_
              refine LW.u (Pur.ix Try.underlying33 sz84 rfl rfl hp32 hq33) rfl ?_
              refine go ?_
              refine LW.l (Ldr.old w0 ag3 rfl (hk38 2 _ rfl)) (hS4.same _ hb39.1 hb39.2) rfl ?_
              replace ⟨y55, hy55, h⟩ := obind h
              obtain ⟨b58, o59, cs60, hae, hb63, hp56, hq57, hd61, hk62⟩ := hr0_0.idx hy55
              cases hae
              obtain ⟨a64, c65, a67, c68, a70, c71, rfl, hr66, hr69, hr72⟩ := hd61
              refine go ?_
              refine LW.u (Pur.ix Try.underlying33 sz84 rfl rfl hp56 hq57) rfl ?_
              refine go ?_
              refine LW.l (Ldr.old w0 ag3 rfl (hk62 1 _ rfl)) (hS4.same _ hb63.1 hb63.2) rfl ?_
              refine go ?_
              cases oi h
              exact ⟨⟨rfl, rfl, rfl, trivial⟩, hS4.pick [] rfl rfl⟩
            replace h := bcF h hc54
            refine go ?_
            cases oi h
            exact ⟨⟨rfl, rfl, rfl, trivial⟩, hS4.pick [] rfl rfl⟩
          replace h := bcF h hc53
          refine go ?_
          cases oi h
          exact ⟨⟨rfl, rfl, rfl, trivial⟩, hS4.pick [] rfl rfl⟩
        replace h := bcF h hc52
        refine go ?_
        cases oi h
        exact ⟨⟨rfl, rfl, rfl, trivial⟩, hS4.pick [] rfl rfl⟩
      intro e w73 hS5
      have h := h30
      refine go ?_
      refine cd (fun hc74 => ?_) fun hc74 => ?_
      · replace h := bcT h hc74
        refine go ?_
        cases oi h
        exact ⟨trivial, rfl, _, rfl, ⟨_, Res.one (resOne.t rfl), rfl, hS5.pick [] rfl rfl⟩⟩
      replace h := bcF h hc74
      refine go ?_
      obtain ⟨o128, ho128, h129⟩ := obind h
      refine CW.mono (CW.lx [0, 3] [] [0, 3] 2 (fun s75 => [(4, .int .i64 s75)]) (RT Try.prog Try.f77.results (fun u => .bool u) w0 []) hS5 ho128 (hb := ?_)) ?_
      · intro s75 e w76 o hS6 h
        refine go ?_
        replace ⟨y77, hy77, h⟩ := obind h
        obtain ⟨b80, o81, cs82, hae, hb85, hp78, hq79, hd83, hk84⟩ := hr0_0.idx hy77
        subst hae
        obtain ⟨a86, c87, a89, c90, a92, c93, rfl, hr88, hr91, hr94⟩ := hd83
        refine LW.u (Pur.ix Try.underlying33 sz84 rfl rfl hp78 hq79) rfl ?_
        refine go ?_
        refine LW.l (Ldr.old w0 ag24 rfl (hk84 10 _ rfl)) (hS6.same _ hb85.1 hb85.2) rfl ?_
        refine go ?_
        refine CW.fl [0, 3, 4, 81] fun e => ?_
        refine cd (fun hc95 => ?_) fun hc95 => ?_
        · replace h := bcT h hc95
          refine go ?_
          refine LW.u (Pur.ix Try.underlying33 sz84 rfl rfl hp78 hq79) rfl ?_
          refine go ?_
          refine LW.l (Ldr.old w0 ag24 rfl (hk84 10 _ rfl)) (hS6.same _ hb85.1 hb85.2) rfl ?_
          refine go ?_
          replace ⟨y96, hy96, h⟩ := obind h
          obtain ⟨b99, o100, cs101, hae, hb104, hp97, hq98, hd102, hk103⟩ := hr88.idx hy96
          subst hae
          obtain rfl := hd102
          refine LW.u (Pur.ix Try.underlying24 sz3 rfl rfl hp97 hq98) rfl ?_
          refine LW.l (Ldr.old w0 ag3 rfl (hk103 0 _ rfl)) (hS6.same _ hb104.1 hb104.2) rfl ?_
          refine gs ?_
          obtain ⟨j105, hj105, h106⟩ := obind h
          refine CW.jn [0, 3, 4] [] [(101, .bool j105)] hS6 (h1 := ?_) (h2 := ?_)
          · have h := hj105
            refine go ?_
            rcases bcases (decide (y96 ≥ 0)) with hc107 | hc107
            · replace h := bcT h hc107
              refine go ?_
              replace ⟨y108, hy108, h⟩ := obind h
              obtain ⟨b111, o112, cs113, hae, hb116, hp109, hq110, hd114, hk115⟩ := hr0_0.idx hy108
              cases hae
              obtain ⟨a117, c118, a120, c121, a123, c124, rfl, hr119, hr122, hr125⟩ := hd114
              refine go ?_
              refine LW.u (Pur.ix Try.underlying33 sz84 rfl rfl hp109 hq110) rfl ?_
              refine go ?_
              refine LW.l (Ldr.old w0 ag3 rfl (hk115 1 _ rfl)) (hS6.same _ hb116.1 hb116.2) rfl ?_
              refine go ?_
              cases oi h
              exact ⟨⟨rfl, rfl, rfl, rfl, trivial⟩, hS6.pick [] rfl rfl⟩
            replace h := bcF h hc107
            refine go ?_
            cases oi h
            exact ⟨⟨rfl, rfl, rfl, rfl, trivial⟩, hS6.pick [] rfl rfl⟩
          intro e w126 hS7
          have h := h106
          refine go ?_
          refine cd (fun hc127 => ?_) fun hc127 => ?_
          · replace h := bcT h hc127
            refine go ?_
            cases oi h
            exact ⟨trivial, rfl, _, rfl, ⟨_, Res.one (resOne.t rfl), rfl, hS7.pick [] rfl rfl⟩⟩
          replace h := bcF h hc127
          refine go ?_
          cases oi h
          exact ⟨rfl, ⟨⟨rfl, rfl, rfl, trivial⟩, hS7.pick [] rfl rfl⟩⟩
        replace h := bcF h hc95
        refine go ?_
        cases oi h
        exact ⟨trivial, rfl, ⟨⟨rfl, rfl, trivial⟩, hS6.pick [] rfl rfl⟩⟩
      intro x e w130 hM
      rcases o128 with o128 | r131
      · obtain ⟨rfl, hM⟩ := hM
        obtain ⟨hE, hS8⟩ := hM
        obtain ⟨e, rfl⟩ := hE.out
        have h := h129
        refine go ?_
        cases oi h
        exact ⟨rfl, ⟨⟨rfl, rfl, trivial⟩, hS8.pick [] rfl rfl⟩⟩
      obtain ⟨rfl, u, rfl, hM⟩ := hM
      cases h129
      exact ⟨trivial, rfl, _, rfl, hM⟩
    replace h := bcF h hc28
    refine go ?_
    cases oi h
    exact ⟨trivial, rfl, ⟨trivial, hS3.pick [] rfl rfl⟩⟩
  intro x e w134 hM
  rcases o132 with o132 | r135
  · obtain ⟨rfl, hM⟩ := hM
    obtain ⟨hE, hS9⟩ := hM
    obtain ⟨e, rfl⟩ := hE.out; rw [show e = upds e [] from rfl]
    have h := h133
    refine go ?_
    cases h
    exact fi hS9
  obtain ⟨rfl, u, rfl, hM⟩ := hM
  cases h133
  exact And.intro trivial hM

theorem W_s_l5Any {w0 : World} {F : List Nat} {N : Nat} {x0 : DCur} {r : DAmt × DCur} (h : F_s_l5Any N x0 = some r) {g0 : Nat} {a0_0 : Option Addr} {c0_0 : Nat} (hr0_0 : rdS (Bor w0 F) w0 a0_0 c0_0 x0.b) (hS : St w0 F w0 [bx g0 106 [.slice a0_0 x0.b.length c0_0, .int .i64 x0.i, .int .i64 x0.h]]) :
    Ret Try.prog 32 #[.pointer (some ⟨g0, 0, none⟩)] w0 (fun v w => v = .agg #[.int .i64 r.1.pages, .int .i64 r.1.rent, .int .i64 r.1.cpu] ∧ St w0 F w [bx g0 106 [.slice a0_0 x0.b.length c0_0, .int .i64 r.2.i, .int .i64 r.2.h]]) := by
  unfold F_s_l5Any at h
  refine Ret.fn Try.func32 fun e => ?_
  refine go ?_
  refine LW.al hS fun g1 w2 hS1 => ?_
  refine go ?_
  replace ⟨y3, hy3, h⟩ := obind h
  obtain ⟨F4, hL5⟩ := hS1.lendI [1] [0]
  refine LW.cl (W_s_l5Num hy3 (hL5.rB hr0_0) hL5.st) ?_
  rintro _ w6 ⟨rfl, hs⟩
  have hS2 := hL5.back _ _ hs
  refine go ?_
  replace ⟨y7, hy7, h⟩ := obind h
  obtain ⟨F8, hL9⟩ := hS2.lendI [0] [1]
  refine LW.cl (W_s_l5Num hy7 (hL9.rB hr0_0) hL9.st) ?_
  rintro _ w10 ⟨rfl, hs⟩
  have hS3 := hL9.back _ _ hs
  refine go ?_
  replace ⟨y11, hy11, h⟩ := obind h
  obtain ⟨F12, hL13⟩ := hS3.lendI [0] [1]
  refine LW.cl (W_s_l5Num hy11 (hL13.rB hr0_0) hL13.st) ?_
  rintro _ w14 ⟨rfl, hs⟩
  have hS4 := hL13.back _ _ hs
  refine LW.u (Pur.build (vs := [(0, .int .i64 y3.1), (1, .int .i64 y7.1), (2, .int .i64 y11.1)]) (cs := #[.int .i64 y3.1, .int .i64 y7.1, .int .i64 y11.1]) rfl (by kernel_rfl)) rfl ?_
  refine LW.st hS4 1 fun w15 hS5 => ?_
  refine go ?_
  replace h := Option.some.inj h
  subst h
  exact And.intro trivial ⟨_, Res.one (resOne.b hS5 1 rfl ag28 rfl rfl), rfl, hS5.pick [0] rfl rfl⟩

theorem W_s_HeapOk {w0 : World} {N : Nat} {x0 : DHeap} {r : Bool} (h : F_s_HeapOk N x0 = some r) {a0_0 : Option Addr} {n0_0 c0_0 : Nat} (hn0_0 : n0_0 = x0.arena.length) (hr0_0 : rdS (Bor w0 []) w0 a0_0 c0_0 x0.arena) {a0_4 : Option Addr} {n0_4 c0_4 : Nat} (hn0_4 : n0_4 = x0.gc.grey.length) (hr0_4 : rdS (Bor w0 []) w0 a0_4 c0_4 x0.gc.grey) :
    Ret Try.prog 45 #[.agg #[.slice a0_0 n0_0 c0_0, .int .i64 x0.gc.phase, .int .i64 x0.gc.pos, .int .i64 x0.gc.round, .slice a0_4 n0_4 c0_4]] w0 (fun v w => v = .bool r ∧ St w0 [] w []) := by
  subst hn0_0 hn0_4
  unfold F_s_HeapOk at h
  refine Ret.fn Try.func45 fun e => ?_
  have hS1 := St.start w0
  refine go ?_
  refine LW.bo hS1 fun g1 w2 hS2 => ?_
  refine go ?_
  refine LW.al hS2 fun g3 w4 hS3 => ?_
  refine LW.st hS3 0 fun w5 hS4 => ?_
  refine gs ?_
  obtain ⟨j6, hj6, h7⟩ := obind h
  refine CW.jn [3] [0] [(22, .bool j6)] hS4 (h1 := ?_) (h2 := ?_)
  · have h := hj6
    refine go ?_
    replace ⟨y8, hy8, h⟩ := obind h
    refine LW.c0 (W_s_ArenaOk hy8 rfl (hS4.rB hr0_0)) hS4 fun w9 hS5 => ?_
    refine go ?_
    rcases bcases (!y8) with hc10 | hc10
    · replace h := bcT h hc10
      refine go ?_
      cases oi h
      exact ⟨⟨rfl, rfl, trivial⟩, hS5.pick [0] rfl rfl⟩
    replace h := bcF h hc10
    refine go ?_
    replace ⟨y11, hy11, h⟩ := obind h
    refine go ?_
    refine LW.c0 (W_s_l1In hy11) hS5 fun w12 hS6 => ?_
    refine go ?_
    rcases bcases (!y11) with hc13 | hc13
    · replace h := bcT h hc13
      refine go ?_
      cases oi h
      exact ⟨⟨rfl, rfl, trivial⟩, hS6.pick [0] rfl rfl⟩
    replace h := bcF h hc13
    refine go ?_
    replace ⟨y14, hy14, h⟩ := obind h
    refine go ?_
    refine LW.c0 (W_s_l1In hy14) hS6 fun w15 hS7 => ?_
    refine go ?_
    cases oi h
    exact ⟨⟨rfl, rfl, trivial⟩, hS7.pick [0] rfl rfl⟩
  intro e w16 hS8
  have h := h7
  refine go ?_
  refine cd (fun hc17 => ?_) fun hc17 => ?_
  · replace h := bcT h hc17
    refine go ?_
    cases h
    exact fi hS8
  replace h := bcF h hc17
  refine gs ?_
  obtain ⟨j18, hj18, h19⟩ := obind h
  refine CW.jn [3] [0] [(47, .bool j18)] hS8 (h1 := ?_) (h2 := ?_)
  · have h := hj18
    refine go ?_
    rcases bcases (x0.gc.phase == 0) with hc20 | hc20
    · replace h := bcT h hc20
      refine go ?_
      rcases bcases (x0.gc.pos != 0) with hc21 | hc21
      · replace h := bcT h hc21
        refine go ?_
        cases oi h
        exact ⟨⟨rfl, rfl, trivial⟩, hS8.pick [0] rfl rfl⟩
      replace h := bcF h hc21
      refine go ?_
      rcases bcases (x0.gc.phase == 1) with hc22 | hc22
      · replace h := bcT h hc22
        refine go ?_
        replace ⟨y23, hy23, h⟩ := obind h
        refine go ?_
        refine LW.c0 (W_s_l8Slot hy23) hS8 fun w24 hS9 => ?_
        refine go ?_
        refine LW.fl [3, 31, 35, 40] fun e => ?_
        rcases bcases (!y23) with hc25 | hc25
        · replace h := bcT h hc25
          refine go ?_
          cases oi h
          exact ⟨⟨rfl, rfl, trivial⟩, hS9.pick [0] rfl rfl⟩
        replace h := bcF h hc25
        refine go ?_
        cases oi h
        exact ⟨⟨rfl, rfl, trivial⟩, hS9.pick [0] rfl rfl⟩
      replace h := bcF h hc22
      refine go ?_
      cases oi h
      exact ⟨⟨rfl, rfl, trivial⟩, hS8.pick [0] rfl rfl⟩
    replace h := bcF h hc20
    refine go ?_
    rcases bcases (x0.gc.phase == 1) with hc26 | hc26
    · replace h := bcT h hc26
      refine go ?_
      replace ⟨y27, hy27, h⟩ := obind h
      refine go ?_
      refine LW.c0 (W_s_l8Slot hy27) hS8 fun w28 hS10 => ?_
      refine go ?_
      refine LW.fl [3, 31, 35, 40] fun e => ?_
      rcases bcases (!y27) with hc29 | hc29
      · replace h := bcT h hc29
        refine go ?_
        cases oi h
        exact ⟨⟨rfl, rfl, trivial⟩, hS10.pick [0] rfl rfl⟩
      replace h := bcF h hc29
      refine go ?_
      cases oi h
      exact ⟨⟨rfl, rfl, trivial⟩, hS10.pick [0] rfl rfl⟩
    replace h := bcF h hc26
    refine go ?_
    cases oi h
    exact ⟨⟨rfl, rfl, trivial⟩, hS8.pick [0] rfl rfl⟩
  intro e w30 hS11
  have h := h19
  refine go ?_
  refine cd (fun hc31 => ?_) fun hc31 => ?_
  · replace h := bcT h hc31
    refine go ?_
    cases h
    exact fi hS11
  replace h := bcF h hc31
  refine go ?_
  obtain ⟨o60, ho60, h61⟩ := obind h
  refine CW.mono (CW.lx [3] [0] [] 0 (fun s32 => [(4, .int .i64 s32)]) (RT Try.prog Try.f45.results (fun u => .bool u) w0 []) hS11 ho60 (hb := ?_)) ?_
  · intro s32 e w33 o hS12 h
    refine go ?_
    refine cd (fun hc34 => ?_) fun hc34 => ?_
    · replace h := bcT h hc34
      refine gs ?_
      refine CW.block ?_
      refine gs ?_
      obtain ⟨j35, hj35, h36⟩ := obind h
      refine CW.jn [3, 4] [0] [(73, .bool j35)] hS12 (h1 := ?_) (h2 := ?_)
      · have h := hj35
        refine CW.draw (by kernel_rfl) ?_
        have hS13 := hS12.drew
        refine go ?_
        replace ⟨y37, hy37, h⟩ := obind h
        obtain ⟨b40, o41, cs42, hae, hb45, hp38, hq39, hd43, hk44⟩ := hr0_4.idx hy37
        subst hae
        obtain rfl := hd43
        refine AW.u (i := 3) rfl (by kernel_rfl) rfl rfl (Pur.ix Try.underlying24 sz3 rfl rfl hp38 hq39) ?_
        refine AW.take (i := 4) rfl (by kernel_rfl) rfl rfl (Ldr.old w0 ag3 rfl (hk44 0 _ rfl)) (hS13.same _ hb45.1 hb45.2) ?_
        replace ⟨y46, hy46, h⟩ := obind h
        have q := W_s_l8Slot (w0 := w33.drew) hy46
        refine AW.one (i := 5) (by kernel_rfl) ?_
        refine ⟨_, rfl, ?_⟩
        refine LW.call pl46 rfl rfl ?_
        refine Ret.mono q ?_
        rintro _ w47 ⟨rfl, hs⟩
        have hS14 := hS13.add hs
        refine LW.nil ⟨rfl, (.w (by kernel_rfl) (.c (St.cell (h := hS14) (i := 0) rfl) Kept.n)), ?_⟩
        refine go ?_
        rcases bcases (!y46) with hc48 | hc48
        · replace h := bcT h hc48
          refine go ?_
          cases oi h
          exact ⟨⟨rfl, rfl, rfl, trivial⟩, hS14.pick [0] rfl rfl⟩
        replace h := bcF h hc48
        refine go ?_
        replace ⟨y49, hy49, h⟩ := obind h
        obtain ⟨a50, c51, he52, he53, hr54⟩ := rdS.sub' hr0_4 hy49
        have hle55 := (hr0_4).le
        refine AW.u (i := 11) rfl (by kernel_rfl) (want_of rfl rfl hc48) rfl (Pur.sub (α := Int) (l := x0.gc.grey) Try.underlying24 sz3 rfl bndN (bndS rfl) hy49 hle55 he52 he53) ?_
        refine go ?_
        refine AW.u (i := 15) rfl (by kernel_rfl) (want_of rfl rfl hc48) rfl (Pur.ix Try.underlying24 sz3 rfl rfl hp38 hq39) ?_
        refine AW.take (i := 16) rfl (by kernel_rfl) (want_of rfl rfl hc48) rfl (Ldr.old w0 ag3 rfl (hk44 0 _ rfl)) (hS14.same _ hb45.1 hb45.2) ?_
        replace ⟨y56, hy56, h⟩ := obind h
        have q := W_s_l4Has (w0 := w47) hy56 rfl (hS14.rB hr54)
        refine AW.one (i := 17) (by kernel_rfl) ?_
        refine ⟨_, rfl, ?_⟩
        refine (LW.gY (want_of rfl rfl hc48) ?_)
        refine LW.call pl56 rfl rfl ?_
        refine Ret.mono q ?_
        rintro _ w57 ⟨rfl, hs⟩
        have hS15 := hS14.add hs
        refine LW.nil ⟨rfl, (.w (by kernel_rfl) (.c (St.cell (h := hS15) (i := 0) rfl) (.c (St.cell (h := hS15) (i := 0) rfl) (.c (hS15.same _ hb45.1 hb45.2) (.c (St.cell (h := hS15) (i := 0) rfl) Kept.n))))), ?_⟩
        refine go ?_
        cases oi h
        exact ⟨⟨rfl, rfl, rfl, trivial⟩, hS15.pick [0] rfl rfl⟩
      intro e w58 hS16
      have h := h36
      refine go ?_
      refine cd (fun hc59 => ?_) fun hc59 => ?_
      · replace h := bcT h hc59
        refine go ?_
        cases oi h
        exact ⟨trivial, rfl, _, rfl, ⟨_, Res.one (resOne.t rfl), rfl, hS16.pick [] rfl rfl⟩⟩
      replace h := bcF h hc59
      refine go ?_
      cases oi h
      exact ⟨rfl, ⟨⟨rfl, rfl, trivial⟩, hS16.pick [0] rfl rfl⟩⟩
    replace h := bcF h hc34
    refine go ?_
    cases oi h
    exact ⟨trivial, rfl, ⟨trivial, hS12.pick [0] rfl rfl⟩⟩
  intro x e w62 hM
  rcases o60 with o60 | r63
  · obtain ⟨rfl, hM⟩ := hM
    obtain ⟨hE, hS17⟩ := hM
    obtain ⟨e, rfl⟩ := hE.out; rw [show e = upds e [] from rfl]
    have h := h61
    refine go ?_
    cases h
    exact fi hS17
  obtain ⟨rfl, u, rfl, hM⟩ := hM
  cases h61
  exact And.intro trivial hM

end Go.Kx
