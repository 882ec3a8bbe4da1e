/- Each call returns what the plain function says. Printed by drive.py. -/
import Derived.Test.YtljikolgijlbeaaFa
import Derived.Test.YtljikolgijlbeaaPu
import Derived.Test.YtljikolgijlbeaaWa0
import Derived.Test.YtljikolgijlbeaaWa1
namespace Go.Kx
open Go Go.RowKit Go.Proofs
set_option maxRecDepth 10000
set_option maxHeartbeats 8000000
set_option linter.unusedVariables false
set_option linter.unusedSimpArgs false
theorem W_i_copyTree {w0 : World} {N : Nat} {x0 : List DRes} {r : (List DRes)} (h : F_i_copyTree N x0 = some r) {a0_0 : Option Addr} {n0_0 c0_0 : Nat} (hn0_0 : n0_0 = x0.length) (hr0_0 : rdS (Bor w0 []) w0 a0_0 c0_0 x0) :
    Ret Try.prog 111 #[.slice a0_0 n0_0 c0_0] w0 (fun v w => ∃ ar0 cr0, v = .slice ar0 r.length cr0 ∧ St w0 [] w [sl ar0 cr0 r]) := by
  subst hn0_0
  unfold F_i_copyTree at h
  refine Ret.fn Try.func111 fun e => ?_
  have hS1 := St.start w0
  refine go ?_
  refine LW.bsl (α := DRes) (vs := []) (cs := #[]) (l := ([] : List DRes)) rfl (by kernel_rfl) rfl rfl rfl (fun w => rfl) hS1 rfl ?_
  intro a1 c2 w3 hS2 hf
  refine go ?_
  replace ⟨y4, hy4, h⟩ := obind h
  refine LW.appN (l := ([] : List DRes)) (m := x0) sT32 rfl rfl (hS2.rB hr0_0) hy4 hS2 (i := 0) rfl rfl ?_
  intro a5 c6 w7 hS3 hf
  refine go ?_
  cases h
  exact And.intro trivial ⟨_, Res.one (resOne.t rfl), a5, c6, rfl, hS3.pick [0] rfl rfl⟩

theorem W_i_above {w0 : World} {N : Nat} {x0 : DLabel} {x1 : DLabel} {r : (List Int)} (h : F_i_above N x0 x1 = some r) {a0_0 : Option Addr} {n0_0 c0_0 : Nat} (hn0_0 : n0_0 = x0.levels.length) (hr0_0 : rdS (Bor w0 []) w0 a0_0 c0_0 x0.levels) {a1_0 : Option Addr} {n1_0 c1_0 : Nat} (hn1_0 : n1_0 = x1.levels.length) (hr1_0 : rdS (Bor w0 []) w0 a1_0 c1_0 x1.levels) :
    Ret Try.prog 124 #[.agg #[.slice a0_0 n0_0 c0_0], .agg #[.slice a1_0 n1_0 c1_0]] w0 (fun v w => ∃ ar0 cr0, v = .slice ar0 r.length cr0 ∧ St w0 [] w [sl ar0 cr0 r]) := by
  subst hn0_0 hn1_0
  unfold F_i_above at h
  refine Ret.fn Try.func124 fun e => ?_
  have hS1 := St.start w0
  refine go ?_
  refine LW.bo hS1 fun g1 w2 hS2 => ?_
  refine LW.bo hS2 fun g3 w4 hS3 => ?_
  refine go ?_
  refine LW.bsl (α := Int) (vs := []) (cs := #[]) (l := ([] : List Int)) rfl (by kernel_rfl) rfl rfl rfl (fun w => rfl) hS3 rfl ?_
  intro a5 c6 w7 hS4 hf
  refine go ?_
  obtain ⟨o35, ho35, h36⟩ := obind h
  refine CW.mono (CW.iter (σ := (List Int) × Int) (ρ := (List Int) × Int) (fun s8 e wb => ∃ (s8a0 : Option Addr), ∃ (s8c0 : Nat), En e [(3, .pointer (some ⟨g3, 0, none⟩)), (5, .slice s8a0 s8.1.length s8c0), (10, .slice a0_0 x0.levels.length c0_0), (11, .int .i64 (x0.levels.length : Int)), (12, .int .i64 s8.2)] ∧ St w0 [] wb [sl s8a0 s8c0 s8.1, bx g3 26 [.slice a1_0 x1.levels.length c1_0]]) (fun s8 x e wb => x = .exit 0 ∧ ∃ (s8a0 : Option Addr), ∃ (s8c0 : Nat), En e [(5, .slice s8a0 s8.1.length s8c0)] ∧ St w0 [] wb [sl s8a0 s8c0 s8.1, bx g3 26 [.slice a1_0 x1.levels.length c1_0]]) ?_ N (([] : List Int), 0) _ _ _ ⟨a5, c6, ⟨rfl, rfl, rfl, rfl, rfl, trivial⟩, hS4.pick [0, 1] rfl rfl⟩ ho35) ?_
  · intro s8 e w9 o hM h
    obtain ⟨s8a0, s8c0, hE, hS5⟩ := hM
    obtain ⟨e, rfl⟩ := hE.out
    refine go ?_
    refine cd (fun hc10 => ?_) fun hc10 => ?_
    · replace h := bcT h hc10
      refine go ?_
      replace ⟨y11, hy11, h⟩ := obind h
      obtain ⟨b14, o15, cs16, hae, hb19, hp12, hq13, hd17, hk18⟩ := hr0_0.idx hy11
      subst hae
      obtain rfl := hd17
      refine LW.u (Pur.ix Try.underlying24 sz3 rfl rfl hp12 hq13) rfl ?_
      refine LW.l (Ldr.old w0 ag3 rfl (hk18 0 _ rfl)) (hS5.same _ hb19.1 hb19.2) rfl ?_
      refine go ?_
      replace ⟨y20, hy20, h⟩ := obind h
      obtain ⟨b23, o24, cs25, hae, hb28, hp21, hq22, hd26, hk27⟩ := hr1_0.idx hy20
      subst hae
      obtain rfl := hd26
      refine LW.u (Pur.ix Try.underlying24 sz3 rfl rfl hp21 hq22) rfl ?_
      refine LW.l (Ldr.old w0 ag3 rfl (hk27 0 _ rfl)) (hS5.same _ hb28.1 hb28.2) rfl ?_
      refine go ?_
      refine CW.fl [3, 5, 6, 10, 11, 12, 23] fun e => ?_
      refine cd (fun hc29 => ?_) fun hc29 => ?_
      · replace h := bcT h hc29
        refine go ?_
        replace ⟨y30, hy30, h⟩ := obind h
        refine LW.app1 (M := []) (L := [sl s8a0 s8c0 s8.1, bx g3 26 [.slice (some ⟨b23, o24, none⟩) x1.levels.length c1_0]]) (vs := #[.int .i64 s8.2]) (i := 0) sT24 rfl (by kernel_rfl) rfl rfl hy30 hS5 rfl (fun w G hG => by cases (show G = [] from hG); exact ⟨rfl, rfl⟩) rfl rfl ?_
        intro v33 a31 c32 w34 hS6 hf
        refine go ?_
        cases oi h
        exact ⟨rfl, ⟨a31, c32, ⟨rfl, rfl, rfl, rfl, rfl, trivial⟩, hS6.pick [0, 1] rfl rfl⟩⟩
      replace h := bcF h hc29
      refine go ?_
      cases oi h
      exact ⟨rfl, ⟨s8a0, s8c0, ⟨rfl, rfl, rfl, rfl, rfl, trivial⟩, hS5.pick [0, 1] rfl rfl⟩⟩
    replace h := bcF h hc10
    refine go ?_
    cases oi h
    exact ⟨trivial, rfl, ⟨s8a0, s8c0, ⟨rfl, trivial⟩, hS5.pick [0, 1] rfl rfl⟩⟩
  intro x e w37 hM
  obtain ⟨rfl, hM⟩ := hM
  obtain ⟨s8a0, s8c0, hE, hS7⟩ := hM
  obtain ⟨e, rfl⟩ := hE.out
  have h := h36
  refine go ?_
  cases h
  exact And.intro trivial ⟨_, Res.one (resOne.t rfl), s8a0, s8c0, rfl, hS7.pick [0] rfl rfl⟩

theorem W_i_AmtOne {w0 : World} {N : Nat} {x0 : Int} {x1 : Int} {r : DAmt} (h : F_i_AmtOne N x0 x1 = some r) :
    Ret Try.prog 130 #[.int .i64 x0, .int .i64 x1] w0 (fun v w => v = .agg #[.int .i64 r.pages, .int .i64 r.rent, .int .i64 r.cpu] ∧ St w0 [] w []) := by
  unfold F_i_AmtOne at h
  refine Ret.fn Try.func130 fun e => ?_
  have hS1 := St.start w0
  refine go ?_
  refine LW.al hS1 fun g1 w2 hS2 => ?_
  refine go ?_
  refine cd (fun hc3 => ?_) fun hc3 => ?_
  · replace h := bcT h hc3
    refine go ?_
    refine LW.u (Pur.build (vs := [(0, .int .i64 x1)]) (cs := #[.int .i64 x1, .int .i64 0, .int .i64 0]) rfl (by kernel_rfl)) rfl ?_
    refine LW.st hS2 0 fun w4 hS3 => ?_
    refine go ?_
    cases h
    exact And.intro trivial ⟨_, Res.one (resOne.b hS3 0 rfl ag28 rfl rfl), rfl, hS3.pick [] rfl rfl⟩
  replace h := bcF h hc3
  refine go ?_
  refine cd (fun hc5 => ?_) fun hc5 => ?_
  · replace h := bcT h hc5
    refine go ?_
    refine LW.u (Pur.build (vs := [(1, .int .i64 x1)]) (cs := #[.int .i64 0, .int .i64 x1, .int .i64 0]) rfl (by kernel_rfl)) rfl ?_
    refine LW.st hS2 0 fun w6 hS4 => ?_
    refine go ?_
    cases h
    exact And.intro trivial ⟨_, Res.one (resOne.b hS4 0 rfl ag28 rfl rfl), rfl, hS4.pick [] rfl rfl⟩
  replace h := bcF h hc5
  refine go ?_
  refine cd (fun hc7 => ?_) fun hc7 => ?_
  · replace h := bcT h hc7
    refine go ?_
    refine LW.u (Pur.build (vs := [(2, .int .i64 x1)]) (cs := #[.int .i64 0, .int .i64 0, .int .i64 x1]) rfl (by kernel_rfl)) rfl ?_
    refine LW.st hS2 0 fun w8 hS5 => ?_
    refine go ?_
    cases h
    exact And.intro trivial ⟨_, Res.one (resOne.b hS5 0 rfl ag28 rfl rfl), rfl, hS5.pick [] rfl rfl⟩
  replace h := bcF h hc7
  refine go ?_
  refine LW.u (Pur.build (vs := []) (cs := #[.int .i64 0, .int .i64 0, .int .i64 0]) rfl (by kernel_rfl)) rfl ?_
  refine LW.st hS2 0 fun w9 hS6 => ?_
  refine go ?_
  cases h
  exact And.intro trivial ⟨_, Res.one (resOne.b hS6 0 rfl ag28 rfl rfl), rfl, hS6.pick [] rfl rfl⟩

theorem W_i_AmtPart {w0 : World} {N : Nat} {x0 : DAmt} {x1 : Int} {r : Int} (h : F_i_AmtPart N x0 x1 = some r) :
    Ret Try.prog 132 #[.agg #[.int .i64 x0.pages, .int .i64 x0.rent, .int .i64 x0.cpu], .int .i64 x1] w0 (fun v w => v = .int .i64 r ∧ St w0 [] w []) := by
  unfold F_i_AmtPart at h
  refine Ret.fn Try.func132 fun e => ?_
  have hS1 := St.start w0
  refine go ?_
  refine LW.bo hS1 fun g1 w2 hS2 => ?_
  refine go ?_
  refine cd (fun hc3 => ?_) fun hc3 => ?_
  · replace h := bcT h hc3
    refine go ?_
    cases h
    exact fi hS2
  replace h := bcF h hc3
  refine go ?_
  refine cd (fun hc4 => ?_) fun hc4 => ?_
  · replace h := bcT h hc4
    refine go ?_
    cases h
    exact fi hS2
  replace h := bcF h hc4
  refine go ?_
  refine cd (fun hc5 => ?_) fun hc5 => ?_
  · replace h := bcT h hc5
    refine go ?_
    cases h
    exact fi hS2
  replace h := bcF h hc5
  refine go ?_
  cases h
  exact fi hS2

theorem W_z_Delete_Tap {w0 : World} {F : List Nat} {N : Nat} {x0 : List DTap} {x1 : Int} {x2 : Int} {r : (List DTap)} (h : F_z_Delete_Tap N x0 x1 x2 = some r) {a0_0 : Option Addr} {n0_0 c0_0 : Nat} (hn0_0 : n0_0 = x0.length) (hS : St w0 F w0 [sl a0_0 c0_0 x0]) :
    Ret Try.prog 123 #[.slice a0_0 n0_0 c0_0, .int .i64 x1, .int .i64 x2] w0 (fun v w => ∃ ar0 cr0, v = .slice ar0 r.length cr0 ∧ St w0 F w [sl ar0 cr0 r]) := by
  subst hn0_0
  unfold F_z_Delete_Tap at h
  refine Ret.fn Try.func123 fun e => ?_
  refine go ?_
  replace ⟨y1, hy1, h⟩ := obind h
  have hle2 := (hS.rI 0 rfl).le
  refine LW.u (Pur.sub3 (α := DTap) (l := x0) Try.underlying38 sz95 rfl rfl rfl rfl hy1 hle2) rfl ?_
  refine go ?_
  refine cd (fun hc3 => ?_) fun hc3 => ?_
  · replace h := bcT h hc3
    refine go ?_
    cases h
    exact And.intro trivial ⟨_, Res.one (resOne.t rfl), a0_0, c0_0, rfl, hS.pick [0] rfl rfl⟩
  replace h := bcF h hc3
  refine go ?_
  refine CW.draw (by kernel_rfl) ?_
  have hS1 := hS.drew
  refine go ?_
  replace ⟨y4, hy4, h⟩ := obind h
  obtain ⟨a5, c6, he7, he8⟩ : ∃ (a' : Option Addr) (c' : Nat), a' = subA a0_0 c0_0 ((0 : Int).toNat) (Dat.sz DTap) ∧ c' = c0_0 - (0 : Int).toNat := ⟨_, _, rfl, rfl⟩
  refine AW.u (i := 2) rfl (by kernel_rfl) rfl rfl (Pur.sub (α := DTap) (l := x0) Try.underlying38 sz95 rfl bndN (bndS rfl) hy4 hle2 he7 he8) ?_
  refine go ?_
  replace ⟨y9, hy9, h⟩ := obind h
  obtain ⟨a10, c11, he12, he13⟩ : ∃ (a' : Option Addr) (c' : Nat), a' = subA a0_0 c0_0 ((x2 : Int).toNat) (Dat.sz DTap) ∧ c' = c0_0 - (x2 : Int).toNat := ⟨_, _, rfl, rfl⟩
  refine AW.u (i := 5) rfl (by kernel_rfl) rfl rfl (Pur.sub (α := DTap) (l := x0) Try.underlying38 sz95 rfl (bndS rfl) bndN hy9 hle2 he12 he13) ?_
  refine AW.one (i := 6) (by kernel_rfl) ?_
  refine ⟨_, rfl, ?_⟩
  refine LW.appR sT38 hS1 (k := 0) rfl hy1 hc3 hy4 hy9 rfl he7 he8 rfl he12 he13 rfl ?_
  intro w14 hS2
  refine LW.nil ⟨rfl, Kept.n, ?_⟩
  refine go ?_
  have hn15 := del_len hy1 hc3 hy4 hy9
  refine LW.u (Pur.subC (α := DTap) Try.underlying38 sz95 rfl rfl rfl (by omega) (by omega) (by omega)) rfl ?_
  refine LW.clr (l := (y4 ++ y9)) sT38 hS2 (k := 0) rfl rfl (by omega) (by omega) ?_
  intro w16 hS3
  refine go ?_
  cases h
  exact And.intro trivial ⟨_, Res.one (resOne.t rfl), a0_0, c0_0, rfl, hS3.pick [0] rfl rfl⟩

theorem W_l_at {w0 : World} {N : Nat} {x0 : List U8} {x1 : Int} {r : Int} (h : F_l_at N x0 x1 = some r) {a0_0 : Option Addr} {n0_0 c0_0 : Nat} (hn0_0 : n0_0 = x0.length) (hr0_0 : rdS (Bor w0 []) w0 a0_0 c0_0 x0) :
    Ret Try.prog 26 #[.slice a0_0 n0_0 c0_0, .int .i64 x1] w0 (fun v w => v = .int .i64 r ∧ St w0 [] w []) := by
  subst hn0_0
  unfold F_l_at at h
  refine Ret.fn Try.func26 fun e => ?_
  have hS1 := St.start w0
  refine go ?_
  refine cd (fun hc1 => ?_) fun hc1 => ?_
  · replace h := bcT h hc1
    refine go ?_
    replace ⟨y2, hy2, h⟩ := obind h
    obtain ⟨b5, o6, cs7, hae, hb10, hp3, hq4, hd8, hk9⟩ := hr0_0.idx hy2
    subst hae
    obtain rfl := hd8
    refine LW.u (Pur.ix Try.underlying22 sz5 rfl rfl hp3 hq4) rfl ?_
    refine LW.l (Ldr.old w0 ag5 rfl (hk9 0 _ rfl)) (hS1.same _ hb10.1 hb10.2) rfl ?_
    refine LW.u (Pur.conv Try.underlying5 Try.underlying3 rfl) rfl ?_
    refine go ?_
    cases h
    exact fi hS1
  replace h := bcF h hc1
  refine go ?_
  refine LW.u (Pur.rem rfl rfl (by decide)) rfl ?_
  refine go ?_
  cases h
  exact fi hS1

theorem W_s_Flat {w0 : World} {N : Nat} {x0 : Int} {r : DLabel} (h : F_s_Flat N x0 = some r) :
    Ret Try.prog 22 #[.int .i64 x0] w0 (fun v w => ∃ ar0_0 cr0_0, v = .agg #[.slice ar0_0 r.levels.length cr0_0] ∧ St w0 [] w [sl ar0_0 cr0_0 r.levels]) := by
  unfold F_s_Flat at h
  refine Ret.fn Try.func22 fun e => ?_
  have hS1 := St.start w0
  refine go ?_
  refine LW.al hS1 fun g1 w2 hS2 => ?_
  refine go ?_
  refine LW.u (Pur.build (vs := []) (cs := #[.slice none 0 0]) rfl (by kernel_rfl)) rfl ?_
  refine LW.al hS2 fun g3 w4 hS3 => ?_
  refine LW.st hS3 0 fun w5 hS4 => ?_
  refine go ?_
  replace ⟨y6, hy6, h⟩ := obind h
  refine LW.c0 (W_s_l1In hy6) hS4 fun w7 hS5 => ?_
  refine go ?_
  refine cd (fun hc8 => ?_) fun hc8 => ?_
  · replace h := bcT h hc8
    refine go ?_
    refine LW.st hS5 1 fun w9 hS6 => ?_
    refine go ?_
    cases h
    have hS7 := hS6.nil (α := Int)
    exact And.intro trivial ⟨_, Res.one (resOne.b hS7 2 rfl ag26 rfl rfl), none, 0, rfl, hS7.pick [0] rfl rfl⟩
  replace h := bcF h hc8
  refine go ?_
  have hS8 := hS5.nil (α := Int)
  obtain ⟨o19, ho19, h20⟩ := obind h
  refine CW.mono (CW.iter (σ := Int × (List Int)) (ρ := Int × (List Int)) (fun s10 e wb => ∃ (s10a0 : Option Addr), ∃ (s10c0 : Nat), En e [(0, .int .i64 x0), (2, .pointer (some ⟨g1, 0, none⟩)), (3, .pointer (some ⟨g3, 0, none⟩)), (4, .int .i64 s10.1)] ∧ St w0 [] wb [bx g3 26 [.slice s10a0 s10.2.length s10c0], bx g1 26 [.slice none 0 0], sl s10a0 s10c0 s10.2]) (fun s10 x e wb => x = .exit 0 ∧ ∃ (s10a0 : Option Addr), ∃ (s10c0 : Nat), En e [(2, .pointer (some ⟨g1, 0, none⟩)), (3, .pointer (some ⟨g3, 0, none⟩))] ∧ St w0 [] wb [bx g3 26 [.slice s10a0 s10.2.length s10c0], bx g1 26 [.slice none 0 0], sl s10a0 s10c0 s10.2]) ?_ N (0, []) _ _ _ ⟨none, 0, ⟨rfl, rfl, rfl, rfl, trivial⟩, hS8.pick [1, 2, 0] rfl rfl⟩ ho19) ?_
  · intro s10 e w11 o hM h
    obtain ⟨s10a0, s10c0, hE, hS9⟩ := hM
    obtain ⟨e, rfl⟩ := hE.out
    refine go ?_
    refine cd (fun hc12 => ?_) fun hc12 => ?_
    · replace h := bcT h hc12
      refine go ?_
      replace ⟨y13, hy13, h⟩ := obind h
      refine LW.app1 (M := []) (L := [bx g3 26 [.slice s10a0 s10.2.length s10c0], bx g1 26 [.slice none 0 0], sl s10a0 s10c0 s10.2]) (vs := #[.int .i64 x0]) (i := 2) sT24 rfl (by kernel_rfl) rfl rfl hy13 hS9 rfl (fun w G hG => by cases (show G = [] from hG); exact ⟨rfl, rfl⟩) rfl rfl ?_
      intro v16 a14 c15 w17 hS10 hf
      refine go ?_
      refine LW.st hS10 0 fun w18 hS11 => ?_
      refine go ?_
      cases oi h
      exact ⟨rfl, ⟨a14, c15, ⟨rfl, rfl, rfl, rfl, trivial⟩, hS11.pick [0, 1, 2] rfl rfl⟩⟩
    replace h := bcF h hc12
    refine go ?_
    cases oi h
    exact ⟨trivial, rfl, ⟨s10a0, s10c0, ⟨rfl, rfl, trivial⟩, hS9.pick [0, 1, 2] rfl rfl⟩⟩
  intro x e w21 hM
  obtain ⟨rfl, hM⟩ := hM
  obtain ⟨s10a0, s10c0, hE, hS12⟩ := hM
  obtain ⟨e, rfl⟩ := hE.out
  have h := h20
  refine go ?_
  refine LW.st hS12 1 fun w22 hS13 => ?_
  refine go ?_
  cases h
  exact And.intro trivial ⟨_, Res.one (resOne.b hS13 1 rfl ag26 rfl rfl), s10a0, s10c0, rfl, hS13.pick [2] rfl rfl⟩

theorem W_i_hasPart {w0 : World} {N : Nat} {x0 : DWorld} {x1 : Int} {r : Bool} (h : F_i_hasPart N x0 x1 = some r) {a0_1 : Option Addr} {n0_1 c0_1 : Nat} (hn0_1 : n0_1 = x0.parts.length) (hr0_1 : rdS (Bor w0 []) w0 a0_1 c0_1 x0.parts) :
    Ret Try.prog 91 #[.agg #[.int .i64 x0.now, .slice a0_1 n0_1 c0_1], .int .i64 x1] w0 (fun v w => v = .bool r ∧ St w0 [] w []) := by
  subst hn0_1
  unfold F_i_hasPart at h
  refine Ret.fn Try.func91 fun e => ?_
  have hS1 := St.start w0
  refine go ?_
  refine LW.bo hS1 fun g1 w2 hS2 => ?_
  refine go ?_
  replace ⟨y3, hy3, h⟩ := obind h
  refine LW.c0 (W_i_within hy3) hS2 fun w4 hS3 => ?_
  refine go ?_
  cases h
  exact fi hS3

theorem W_l_rich {w0 : World} {N : Nat} {r : (List DBoot)} (h : F_l_rich N = some r) :
    Ret Try.prog 21 #[] w0 (fun v w => ∃ ar0 cr0, v = .slice ar0 r.length cr0 ∧ St w0 [] w [sl ar0 cr0 r]) := by
  unfold F_l_rich at h
  refine Ret.fn Try.func21 fun e => ?_
  have hS1 := St.start w0
  refine go ?_
  replace ⟨y1, hy1, h⟩ := obind h
  refine LW.cl (W_s_Flat hy1) ?_
  rintro _ w4 ⟨a2, c3, rfl, hs⟩
  have hS2 := hS1.add hs
  refine LW.u (Pur.build (vs := [(0, .int .i64 50), (1, .int .i64 9000), (2, .int .i64 500)]) (cs := #[.int .i64 50, .int .i64 9000, .int .i64 500]) rfl (by kernel_rfl)) rfl ?_
  refine LW.u (Pur.build (vs := [(0, .agg #[.slice a2 y1.levels.length c3]), (2, .agg #[.int .i64 50, .int .i64 9000, .int .i64 500])]) (cs := #[.slice a2 y1.levels.length c3, .slice none 0 0, .int .i64 50, .int .i64 9000, .int .i64 500]) rfl (by kernel_rfl)) rfl ?_
  refine LW.bsl1 (vs := #[.slice a2 y1.levels.length c3, .slice none 0 0, .int .i64 50, .int .i64 9000, .int .i64 500]) sT54 rfl (by kernel_rfl) hS2 rfl ?_
  intro g5 w6 hS3 hf
  refine go ?_
  cases h
  have hS4 := hS3.nil (α := Int)
  have hS5 := hS4.pick (M := [bx g5 30 [.slice a2 y1.levels.length c3, .slice none 0 0, .int .i64 50, .int .i64 9000, .int .i64 500], sl a2 c3 y1.levels, sl none 0 []] ++ []) [1, 2, 0] rfl rfl
  have hS6 := St.lit (M := [sl a2 c3 y1.levels, sl none 0 []]) (L := []) (y := (DBoot.mk y1 [] (DAmt.mk 50 9000 500))) hS5 (fun w G hG => ⟨a2, c3, none, 0, rfl, hG⟩)
  exact And.intro trivial ⟨_, Res.one (resOne.t rfl), (some ⟨g5, 0, none⟩), 1, rfl, hS6.pick [0] rfl rfl⟩

theorem W_s_HandleOf {w0 : World} {N : Nat} {x0 : Int} {x1 : Int} {x2 : Int} {r : Int} (h : F_s_HandleOf N x0 x1 x2 = some r) :
    Ret Try.prog 25 #[.int .i64 x0, .int .i64 x1, .int .i64 x2] w0 (fun v w => v = .int .i64 r ∧ St w0 [] w []) := by
  unfold F_s_HandleOf at h
  refine Ret.fn Try.func25 fun e => ?_
  have hS1 := St.start w0
  refine gs ?_
  refine CW.region ?_
  refine gs ?_
  obtain ⟨j1, hj1, h2⟩ := obind h
  refine CW.jn [0, 1, 2] [] [(19, .bool j1)] hS1 (h1 := ?_) (h2 := ?_)
  · have h := hj1
    refine go ?_
    replace ⟨y3, hy3, h⟩ := obind h
    refine LW.c0 (W_s_l1In hy3) hS1 fun w4 hS2 => ?_
    refine go ?_
    rcases bcases (!y3) with hc5 | hc5
    · replace h := bcT h hc5
      refine go ?_
      cases oi h
      exact ⟨⟨rfl, rfl, rfl, rfl, trivial⟩, hS2.pick [] rfl rfl⟩
    replace h := bcF h hc5
    refine go ?_
    replace ⟨y6, hy6, h⟩ := obind h
    refine go ?_
    refine LW.c0 (W_s_l8Slot hy6) hS2 fun w7 hS3 => ?_
    refine go ?_
    rcases bcases (!y6) with hc8 | hc8
    · replace h := bcT h hc8
      refine go ?_
      cases oi h
      exact ⟨⟨rfl, rfl, rfl, rfl, trivial⟩, hS3.pick [] rfl rfl⟩
    replace h := bcF h hc8
    refine go ?_
    replace ⟨y9, hy9, h⟩ := obind h
    refine go ?_
    refine LW.c0 (W_s_l1In hy9) hS3 fun w10 hS4 => ?_
    refine go ?_
    cases oi h
    exact ⟨⟨rfl, rfl, rfl, rfl, trivial⟩, hS4.pick [] rfl rfl⟩
  intro e w11 hS5
  have h := h2
  refine go ?_
  refine cd (fun hc12 => ?_) fun hc12 => ?_
  · replace h := bcT h hc12
    refine go ?_
    cases h
    exact fi hS5
  replace h := bcF h hc12
  refine go ?_
  cases h
  exact fi hS5

theorem W_i_HandlePart {w0 : World} {N : Nat} {x0 : Int} {r : Int} (h : F_i_HandlePart N x0 = some r) :
    Ret Try.prog 103 #[.int .i64 x0] w0 (fun v w => v = .int .i64 r ∧ St w0 [] w []) := by
  unfold F_i_HandlePart at h
  refine Ret.fn Try.func103 fun e => ?_
  have hS1 := St.start w0
  refine go ?_
  replace ⟨y1, hy1, h⟩ := obind h
  refine LW.c0 (W_i_isHandle hy1) hS1 fun w2 hS2 => ?_
  refine go ?_
  refine cd (fun hc3 => ?_) fun hc3 => ?_
  · replace h := bcT h hc3
    refine go ?_
    cases h
    exact fi hS2
  replace h := bcF h hc3
  refine go ?_
  refine LW.u (Pur.rem rfl rfl (by decide)) rfl ?_
  refine go ?_
  cases h
  exact fi hS2

theorem W_i_FlowsFor {w0 : World} {N : Nat} {x0 : List Int} {x1 : DLabel} {x2 : DLabel} {r : Bool} (h : F_i_FlowsFor N x0 x1 x2 = some r) {a0_0 : Option Addr} {n0_0 c0_0 : Nat} (hn0_0 : n0_0 = x0.length) (hr0_0 : rdS (Bor w0 []) w0 a0_0 c0_0 x0) {a1_0 : Option Addr} {n1_0 c1_0 : Nat} (hn1_0 : n1_0 = x1.levels.length) (hr1_0 : rdS (Bor w0 []) w0 a1_0 c1_0 x1.levels) {a2_0 : Option Addr} {n2_0 c2_0 : Nat} (hn2_0 : n2_0 = x2.levels.length) (hr2_0 : rdS (Bor w0 []) w0 a2_0 c2_0 x2.levels) :
    Ret Try.prog 112 #[.slice a0_0 n0_0 c0_0, .agg #[.slice a1_0 n1_0 c1_0], .agg #[.slice a2_0 n2_0 c2_0]] w0 (fun v w => v = .bool r ∧ St w0 [] w []) := by
  subst hn0_0 hn1_0 hn2_0
  unfold F_i_FlowsFor at h
  refine Ret.fn Try.func112 fun e => ?_
  have hS1 := St.start w0
  refine go ?_
  refine LW.bo hS1 fun g1 w2 hS2 => ?_
  refine LW.bo hS2 fun g3 w4 hS3 => ?_
  refine gs ?_
  obtain ⟨j5, hj5, h6⟩ := obind h
  refine CW.jn [0, 4, 5] [0, 1] [(21, .bool j5)] hS3 (h1 := ?_) (h2 := ?_)
  · have h := hj5
    refine go ?_
    replace ⟨y7, hy7, h⟩ := obind h
    refine LW.c0 (W_i_OwnOk hy7 rfl (hS3.rB hr0_0)) hS3 fun w8 hS4 => ?_
    refine go ?_
    rcases bcases (!y7) with hc9 | hc9
    · replace h := bcT h hc9
      refine go ?_
      cases oi h
      exact ⟨⟨rfl, rfl, rfl, rfl, trivial⟩, hS4.pick [0, 1] rfl rfl⟩
    replace h := bcF h hc9
    refine go ?_
    replace ⟨y10, hy10, h⟩ := obind h
    refine go ?_
    refine LW.c0 (W_i_LabelOk hy10 rfl (hS4.rB hr1_0)) hS4 fun w11 hS5 => ?_
    refine go ?_
    rcases bcases (!y10) with hc12 | hc12
    · replace h := bcT h hc12
      refine go ?_
      cases oi h
      exact ⟨⟨rfl, rfl, rfl, rfl, trivial⟩, hS5.pick [0, 1] rfl rfl⟩
    replace h := bcF h hc12
    refine go ?_
    replace ⟨y13, hy13, h⟩ := obind h
    refine go ?_
    refine LW.c0 (W_i_LabelOk hy13 rfl (hS5.rB hr2_0)) hS5 fun w14 hS6 => ?_
    refine go ?_
    cases oi h
    exact ⟨⟨rfl, rfl, rfl, rfl, trivial⟩, hS6.pick [0, 1] rfl rfl⟩
  intro e w15 hS7
  have h := h6
  refine go ?_
  refine cd (fun hc16 => ?_) fun hc16 => ?_
  · replace h := bcT h hc16
    refine go ?_
    cases h
    exact fi hS7
  replace h := bcF h hc16
  refine go ?_
  replace ⟨y17, hy17, h⟩ := obind h
  refine LW.cl (W_i_above hy17 rfl (hS7.rB hr1_0) rfl (hS7.rB hr2_0)) ?_
  rintro _ w20 ⟨a18, c19, rfl, hs⟩
  have hS8 := hS7.add hs
  refine go ?_
  obtain ⟨o40, ho40, h41⟩ := obind h
  refine CW.mono (CW.lx [0, 24, 25] [0] [] 0 (fun s21 => [(26, .int .i64 s21)]) (RT Try.prog Try.f112.results (fun u => .bool u) w0 []) hS8 ho40 (hb := ?_)) ?_
  · intro s21 e w22 o hS9 h
    refine go ?_
    refine cd (fun hc23 => ?_) fun hc23 => ?_
    · replace h := bcT h hc23
      refine go ?_
      replace ⟨y24, hy24, h⟩ := obind h
      obtain ⟨b27, o28, hae, hp25, hq26⟩ := hS9.ownIdx (α := Int) (i := 0) rfl hy24
      subst hae
      refine LW.u (Pur.ix Try.underlying24 sz3 rfl rfl hp25 hq26) rfl ?_
      obtain ⟨F29, ho30, hS10⟩ := hS9.freeze (α := Int) 0 rfl
      obtain ⟨b31, o32, cs33, hae, hb36, _, _, hd34, hk35⟩ := ho30.rdF.idx hy24
      cases hae
      obtain rfl := hd34
      refine LW.l (Ldr.old w22 ag3 rfl (hk35 0 _ rfl)) (hS10.zC 0 rfl hb36) rfl ?_
      refine go ?_
      replace ⟨y37, hy37, h⟩ := obind h
      refine LW.c0 (W_z_Contains_int hy37 rfl (hS10.rB hr0_0)) hS10 fun w38 hS11 => ?_
      refine go ?_
      refine CW.fl [0, 24, 25, 26, 33] fun e => ?_
      refine cd (fun hc39 => ?_) fun hc39 => ?_
      · replace h := bcT h hc39
        refine go ?_
        cases oi h
        exact ⟨trivial, rfl, _, rfl, ⟨_, Res.one (resOne.t rfl), rfl, hS11.pick [] rfl rfl⟩⟩
      replace h := bcF h hc39
      refine go ?_
      have hS12 := hS11.thaw (α := Int) 0 rfl ho30
      cases oi h
      exact ⟨rfl, ⟨⟨rfl, rfl, rfl, rfl, trivial⟩, hS12.pick [0] rfl rfl⟩⟩
    replace h := bcF h hc23
    refine go ?_
    cases oi h
    exact ⟨trivial, rfl, ⟨trivial, hS9.pick [0] rfl rfl⟩⟩
  intro x e w42 hM
  rcases o40 with o40 | r43
  · obtain ⟨rfl, hM⟩ := hM
    obtain ⟨hE, hS13⟩ := hM
    obtain ⟨e, rfl⟩ := hE.out; rw [show e = upds e [] from rfl]
    have h := h41
    refine go ?_
    cases h
    exact fi hS13
  obtain ⟨rfl, u, rfl, hM⟩ := hM
  cases h41
  exact And.intro trivial hM

theorem W_i_HandleSlot {w0 : World} {N : Nat} {x0 : Int} {r : Int} (h : F_i_HandleSlot N x0 = some r) :
    Ret Try.prog 114 #[.int .i64 x0] w0 (fun v w => v = .int .i64 r ∧ St w0 [] w []) := by
  unfold F_i_HandleSlot at h
  refine Ret.fn Try.func114 fun e => ?_
  have hS1 := St.start w0
  refine go ?_
  replace ⟨y1, hy1, h⟩ := obind h
  refine LW.c0 (W_i_isHandle hy1) hS1 fun w2 hS2 => ?_
  refine go ?_
  refine cd (fun hc3 => ?_) fun hc3 => ?_
  · replace h := bcT h hc3
    refine go ?_
    cases h
    exact fi hS2
  replace h := bcF h hc3
  refine go ?_
  refine LW.u (Pur.quo rfl rfl (by decide)) rfl ?_
  refine LW.u (Pur.rem rfl rfl (by decide)) rfl ?_
  refine go ?_
  cases h
  exact fi hS2

theorem W_i_HandleGen {w0 : World} {N : Nat} {x0 : Int} {r : Int} (h : F_i_HandleGen N x0 = some r) :
    Ret Try.prog 115 #[.int .i64 x0] w0 (fun v w => v = .int .i64 r ∧ St w0 [] w []) := by
  unfold F_i_HandleGen at h
  refine Ret.fn Try.func115 fun e => ?_
  have hS1 := St.start w0
  refine go ?_
  replace ⟨y1, hy1, h⟩ := obind h
  refine LW.c0 (W_i_isHandle hy1) hS1 fun w2 hS2 => ?_
  refine go ?_
  refine cd (fun hc3 => ?_) fun hc3 => ?_
  · replace h := bcT h hc3
    refine go ?_
    cases h
    exact fi hS2
  replace h := bcF h hc3
  refine go ?_
  refine LW.u (Pur.quo rfl rfl (by decide)) rfl ?_
  refine LW.u (Pur.quo rfl rfl (by decide)) rfl ?_
  refine go ?_
  cases h
  exact fi hS2

theorem W_i_HandleOf {w0 : World} {N : Nat} {x0 : Int} {x1 : Int} {x2 : Int} {r : Int} (h : F_i_HandleOf N x0 x1 x2 = some r) :
    Ret Try.prog 126 #[.int .i64 x0, .int .i64 x1, .int .i64 x2] w0 (fun v w => v = .int .i64 r ∧ St w0 [] w []) := by
  unfold F_i_HandleOf at h
  refine Ret.fn Try.func126 fun e => ?_
  have hS1 := St.start w0
  refine gs ?_
  refine CW.region ?_
  refine gs ?_
  obtain ⟨j1, hj1, h2⟩ := obind h
  refine CW.jn [0, 1, 2] [] [(19, .bool j1)] hS1 (h1 := ?_) (h2 := ?_)
  · have h := hj1
    refine go ?_
    replace ⟨y3, hy3, h⟩ := obind h
    refine LW.c0 (W_i_isPart hy3) hS1 fun w4 hS2 => ?_
    refine go ?_
    rcases bcases (!y3) with hc5 | hc5
    · replace h := bcT h hc5
      refine go ?_
      cases oi h
      exact ⟨⟨rfl, rfl, rfl, rfl, trivial⟩, hS2.pick [] rfl rfl⟩
    replace h := bcF h hc5
    refine go ?_
    replace ⟨y6, hy6, h⟩ := obind h
    refine go ?_
    refine LW.c0 (W_i_isSlot hy6) hS2 fun w7 hS3 => ?_
    refine go ?_
    rcases bcases (!y6) with hc8 | hc8
    · replace h := bcT h hc8
      refine go ?_
      cases oi h
      exact ⟨⟨rfl, rfl, rfl, rfl, trivial⟩, hS3.pick [] rfl rfl⟩
    replace h := bcF h hc8
    refine go ?_
    replace ⟨y9, hy9, h⟩ := obind h
    refine go ?_
    refine LW.c0 (W_i_within hy9) hS3 fun w10 hS4 => ?_
    refine go ?_
    cases oi h
    exact ⟨⟨rfl, rfl, rfl, rfl, trivial⟩, hS4.pick [] rfl rfl⟩
  intro e w11 hS5
  have h := h2
  refine go ?_
  refine cd (fun hc12 => ?_) fun hc12 => ?_
  · replace h := bcT h hc12
    refine go ?_
    cases h
    exact fi hS5
  replace h := bcF h hc12
  refine go ?_
  cases h
  exact fi hS5

theorem W_i_shade {w0 : World} {F : List Nat} {N : Nat} {x0 : DHeap} {x1 : Int} {r : DHeap} (h : F_i_shade N x0 x1 = some r) {g0 : Nat} {a0_0 : Option Addr} {c0_0 : Nat} {a0_4 : Option Addr} {c0_4 : Nat} (hS : St w0 F w0 [bx g0 37 [.slice a0_0 x0.arena.length c0_0, .int .i64 x0.gc.phase, .int .i64 x0.gc.pos, .int .i64 x0.gc.round, .slice a0_4 x0.gc.grey.length c0_4], sl a0_0 c0_0 x0.arena, sl a0_4 c0_4 x0.gc.grey]) :
    Ret Try.prog 134 #[.pointer (some ⟨g0, 0, none⟩), .int .i64 x1] w0 (fun v w => ∃ ab0_0 cb0_0, ∃ ab0_4 cb0_4, v = .tuple #[] ∧ St w0 F w [bx g0 37 [.slice ab0_0 r.arena.length cb0_0, .int .i64 r.gc.phase, .int .i64 r.gc.pos, .int .i64 r.gc.round, .slice ab0_4 r.gc.grey.length cb0_4], sl ab0_0 cb0_0 r.arena, sl ab0_4 cb0_4 r.gc.grey]) := by
  unfold F_i_shade at h
  refine Ret.fn Try.func134 fun e => ?_
  refine gs ?_
  obtain ⟨j1, hj1, h2⟩ := obind h
  refine CW.jn [0, 1] [0, 1, 2] [(30, .bool j1)] hS (h1 := ?_) (h2 := ?_)
  · have h := hj1
    refine go ?_
    refine LW.u (Pur.nc rfl) rfl ?_
    refine go ?_
    rcases bcases (x0.gc.phase != 0) with hc3 | hc3
    · replace h := bcT h hc3
      refine go ?_
      cases oi h
      exact ⟨⟨rfl, rfl, rfl, trivial⟩, hS.pick [0, 1, 2] rfl rfl⟩
    replace h := bcF h hc3
    refine go ?_
    refine LW.u (Pur.nc rfl) rfl ?_
    refine go ?_
    replace ⟨y4, hy4, h⟩ := obind h
    obtain ⟨b7, o8, hae, hp5, hq6⟩ := hS.ownIdx (α := DObj) (i := 1) rfl hy4
    subst hae
    refine go ?_
    refine LW.u (Pur.ix Try.underlying33 sz84 rfl rfl hp5 hq6) rfl ?_
    refine go ?_
    obtain ⟨F9, ho10, hS1⟩ := hS.freeze (α := DObj) 1 rfl
    obtain ⟨b11, o12, cs13, hae, hb16, _, _, hd14, hk15⟩ := ho10.rdF.idx hy4
    cases hae
    obtain ⟨a17, c18, a20, c21, a23, c24, rfl, hr19, hr22, hr25⟩ := hd14
    refine go ?_
    refine LW.l (Ldr.old w0 ag3 rfl (hk15 1 _ rfl)) (hS1.zC 1 rfl hb16) rfl ?_
    refine go ?_
    rcases bcases (y4.kind == 0) with hc26 | hc26
    · replace h := bcT h hc26
      refine go ?_
      have hS2 := hS1.thaw (α := DObj) 1 rfl ho10
      cases oi h
      exact ⟨⟨rfl, rfl, rfl, trivial⟩, hS2.pick [0, 1, 2] rfl rfl⟩
    replace h := bcF h hc26
    refine go ?_
    refine LW.u (Pur.nc rfl) rfl ?_
    refine go ?_
    refine LW.fl [0, 1, 21, 25, 26] fun e => ?_
    refine go ?_
    refine LW.u (Pur.ix Try.underlying33 sz84 rfl rfl hp5 hq6) rfl ?_
    refine go ?_
    refine LW.l (Ldr.old w0 ag4 rfl (hk15 9 _ rfl)) (hS1.zC 1 rfl hb16) rfl ?_
    refine go ?_
    have hS3 := hS1.thaw (α := DObj) 1 rfl ho10
    cases oi h
    exact ⟨⟨rfl, rfl, rfl, trivial⟩, hS3.pick [0, 1, 2] rfl rfl⟩
  intro e w27 hS4
  have h := h2
  refine go ?_
  refine cd (fun hc28 => ?_) fun hc28 => ?_
  · replace h := bcT h hc28
    refine go ?_
    replace h := Option.some.inj h
    subst h
    exact And.intro trivial ⟨_, Res.zero , a0_0, c0_0, a0_4, c0_4, rfl, hS4.pick [0, 1, 2] rfl rfl⟩
  replace h := bcF h hc28
  refine go ?_
  refine LW.u (Pur.nc rfl) rfl ?_
  refine go ?_
  replace ⟨y29, hy29, h⟩ := obind h
  obtain ⟨b32, o33, hae, hp30, hq31⟩ := hS4.ownIdx (α := DObj) (i := 1) rfl hy29
  subst hae
  refine LW.u (Pur.ix Try.underlying33 sz84 rfl rfl hp30 hq31) rfl ?_
  refine go ?_
  replace ⟨y34, hy34, h⟩ := obind h
  refine LW.stE (M := []) (L := [bx g0 37 [.slice (some ⟨b32, o33, none⟩) x0.arena.length c0_0, .int .i64 x0.gc.phase, .int .i64 x0.gc.pos, .int .i64 x0.gc.round, .slice a0_4 x0.gc.grey.length c0_4], sl (some ⟨b32, o33, none⟩) c0_0 x0.arena, sl a0_4 c0_4 x0.gc.grey]) (z := y29) (z' := (DObj.mk y29.gen y29.kind y29.box y29.res y29.til y29.pages y29.wait y29.got y29.ran true y29.links y29.data y29.queue)) (o := 9) hS4 (i := 1) rfl hy29 ag4 rfl (by show _ = o33 + (x1 : Int).toNat * 13 + 9; omega) rfl rfl rfl rfl (leafF (fun w cs F hF => by obtain ⟨q0, r0, q1, r1, q2, r2, rfl, hH⟩ := hF; exact ⟨q0, r0, q1, r1, q2, r2, rfl, hH⟩)) ?_
  intro w35 hS5 hf
  rw [Option.some.inj hy34] at hS5
  refine go ?_
  refine LW.u (Pur.nc rfl) rfl ?_
  refine go ?_
  replace ⟨y36, hy36, h⟩ := obind h
  refine LW.c0 (W_z_Contains_int hy36 rfl (hS5.rI 2 rfl)) hS5 fun w37 hS6 => ?_
  refine go ?_
  refine CW.fl [0, 1, 45] fun e => ?_
  refine cd (fun hc38 => ?_) fun hc38 => ?_
  · replace h := bcT h hc38
    refine go ?_
    refine LW.u (Pur.nc rfl) rfl ?_
    refine go ?_
    replace ⟨y39, hy39, h⟩ := obind h
    refine LW.app1 (M := []) (L := [bx g0 37 [.slice (some ⟨b32, o33, none⟩) x0.arena.length c0_0, .int .i64 x0.gc.phase, .int .i64 x0.gc.pos, .int .i64 x0.gc.round, .slice a0_4 x0.gc.grey.length c0_4], sl (some ⟨b32, o33, none⟩) c0_0 y34, sl a0_4 c0_4 x0.gc.grey]) (vs := #[.int .i64 x1]) (i := 2) sT24 rfl (by kernel_rfl) rfl rfl hy39 hS6 rfl (fun w G hG => by cases (show G = [] from hG); exact ⟨rfl, rfl⟩) rfl rfl ?_
    intro v42 a40 c41 w43 hS7 hf
    refine LW.u (Pur.nc rfl) rfl ?_
    refine go ?_
    refine LW.st hS7 0 fun w44 hS8 => ?_
    refine go ?_
    replace h := Option.some.inj h
    subst h
    rw [show x0.arena.length = y34.length from (len_set (Option.some.inj hy34))] at hS8
    exact And.intro trivial ⟨_, Res.zero , (some ⟨b32, o33, none⟩), c0_0, a40, c41, rfl, hS8.pick [0, 1, 2] rfl rfl⟩
  replace h := bcF h hc38
  refine go ?_
  replace h := Option.some.inj h
  subst h
  rw [show x0.arena.length = y34.length from (len_set (Option.some.inj hy34))] at hS6
  exact And.intro trivial ⟨_, Res.zero , (some ⟨b32, o33, none⟩), c0_0, a0_4, c0_4, rfl, hS6.pick [0, 1, 2] rfl rfl⟩

theorem W_i_AmtAdd {w0 : World} {N : Nat} {x0 : DAmt} {x1 : DAmt} {r : DAmt × Bool} (h : F_i_AmtAdd N x0 x1 = some r) :
    Ret Try.prog 88 #[.agg #[.int .i64 x0.pages, .int .i64 x0.rent, .int .i64 x0.cpu], .agg #[.int .i64 x1.pages, .int .i64 x1.rent, .int .i64 x1.cpu]] w0 (fun v w => v = .tuple #[.agg #[.int .i64 r.1.pages, .int .i64 r.1.rent, .int .i64 r.1.cpu], .bool r.2] ∧ St w0 [] w []) := by
  unfold F_i_AmtAdd at h
  refine Ret.fn Try.func88 fun e => ?_
  have hS1 := St.start w0
  refine go ?_
  refine LW.bo hS1 fun g1 w2 hS2 => ?_
  refine LW.bo hS2 fun g3 w4 hS3 => ?_
  refine LW.al hS3 fun g5 w6 hS4 => ?_
  refine gs ?_
  obtain ⟨j7, hj7, h8⟩ := obind h
  refine CW.jn [2, 3, 4] [0, 1, 2] [(20, .bool j7)] hS4 (h1 := ?_) (h2 := ?_)
  · have h := hj7
    refine go ?_
    replace ⟨y9, hy9, h⟩ := obind h
    refine LW.c0 (W_i_AmtOk hy9) hS4 fun w10 hS5 => ?_
    refine go ?_
    rcases bcases (!y9) with hc11 | hc11
    · replace h := bcT h hc11
      refine go ?_
      cases oi h
      exact ⟨⟨rfl, rfl, rfl, rfl, trivial⟩, hS5.pick [0, 1, 2] rfl rfl⟩
    replace h := bcF h hc11
    refine go ?_
    replace ⟨y12, hy12, h⟩ := obind h
    refine go ?_
    refine LW.c0 (W_i_AmtOk hy12) hS5 fun w13 hS6 => ?_
    refine go ?_
    rcases bcases (!y12) with hc14 | hc14
    · replace h := bcT h hc14
      refine go ?_
      cases oi h
      exact ⟨⟨rfl, rfl, rfl, rfl, trivial⟩, hS6.pick [0, 1, 2] rfl rfl⟩
    replace h := bcF h hc14
    refine go ?_
    replace ⟨y15, hy15, h⟩ := obind h
    refine go ?_
    refine LW.c0 (W_i_sumOf hy15) hS6 fun w16 hS7 => ?_
    replace ⟨y17, hy17, h⟩ := obind h
    refine go ?_
    refine LW.c0 (W_i_AmtOk hy17) hS7 fun w18 hS8 => ?_
    refine go ?_
    cases oi h
    exact ⟨⟨rfl, rfl, rfl, rfl, trivial⟩, hS8.pick [0, 1, 2] rfl rfl⟩
  intro e w19 hS9
  have h := h8
  refine go ?_
  refine cd (fun hc20 => ?_) fun hc20 => ?_
  · replace h := bcT h hc20
    refine go ?_
    refine LW.st hS9 0 fun w21 hS10 => ?_
    refine go ?_
    cases h
    exact And.intro trivial ⟨_, Res.two (resOne.b hS10 0 rfl ag28 rfl rfl) (resOne.t rfl), rfl, hS10.pick [] rfl rfl⟩
  replace h := bcF h hc20
  refine go ?_
  replace ⟨y22, hy22, h⟩ := obind h
  refine LW.c0 (W_i_sumOf hy22) hS9 fun w23 hS11 => ?_
  refine LW.st hS11 0 fun w24 hS12 => ?_
  refine go ?_
  cases h
  exact And.intro trivial ⟨_, Res.two (resOne.b hS12 0 rfl ag28 rfl rfl) (resOne.t rfl), rfl, hS12.pick [] rfl rfl⟩

theorem W_i_otherPart {w0 : World} {N : Nat} {x0 : DWorld} {x1 : Int} {x2 : DCall} {r : Int} (h : F_i_otherPart N x0 x1 x2 = some r) {a0_1 : Option Addr} {n0_1 c0_1 : Nat} (hn0_1 : n0_1 = x0.parts.length) (hr0_1 : rdS (Bor w0 []) w0 a0_1 c0_1 x0.parts) :
    Ret Try.prog 92 #[.agg #[.int .i64 x0.now, .slice a0_1 n0_1 c0_1], .int .i64 x1, .agg #[.int .i64 x2.kind, .int .i64 x2.a, .int .i64 x2.b, .int .i64 x2.c, .int .i64 x2.d, .int .i64 x2.e]] w0 (fun v w => v = .int .i64 r ∧ St w0 [] w []) := by
  subst hn0_1
  unfold F_i_otherPart at h
  refine Ret.fn Try.func92 fun e => ?_
  have hS1 := St.start w0
  refine go ?_
  refine LW.bo hS1 fun g1 w2 hS2 => ?_
  refine LW.bo hS2 fun g3 w4 hS3 => ?_
  refine gs ?_
  refine CW.region ?_
  refine gs ?_
  refine CW.region ?_
  refine gs ?_
  obtain ⟨j5, hj5, h6⟩ := obind h
  refine CW.jn [3] [1] [(7, .int .i64 j5)] hS3 (h1 := ?_) (h2 := ?_)
  · have h := hj5
    refine CW.block ?_
    refine gs ?_
    refine CW.region ?_
    refine gs ?_
    obtain ⟨j7, hj7, h8⟩ := obind h
    refine CW.jn [3, 5, 7, 10] [0, 1] [(11, .bool j7)] hS3 (h1 := ?_) (h2 := ?_)
    · have h := hj7
      refine cd (fun hc9 => ?_) fun hc9 => ?_
      · replace h := bcT h hc9
        refine go ?_
        cases oi h
        exact ⟨⟨rfl, rfl, rfl, rfl, rfl, trivial⟩, hS3.pick [0, 1] rfl rfl⟩
      replace h := bcF h hc9
      refine go ?_
      cases oi h
      exact ⟨⟨rfl, rfl, rfl, rfl, rfl, trivial⟩, hS3.pick [0, 1] rfl rfl⟩
    intro e w10 hS4
    have h := h8
    refine go ?_
    refine cd (fun hc11 => ?_) fun hc11 => ?_
    · replace h := bcT h hc11
      refine go ?_
      replace ⟨y12, hy12, h⟩ := obind h
      refine LW.c0 (W_i_HandlePart hy12) hS4 fun w13 hS5 => ?_
      refine go ?_
      cases oi h
      exact ⟨⟨rfl, rfl, trivial⟩, hS5.pick [1] rfl rfl⟩
    replace h := bcF h hc11
    refine go ?_
    refine cd (fun hc14 => ?_) fun hc14 => ?_
    · replace h := bcT h hc14
      refine go ?_
      cases oi h
      exact ⟨⟨rfl, rfl, trivial⟩, hS4.pick [1] rfl rfl⟩
    replace h := bcF h hc14
    refine go ?_
    cases oi h
    exact ⟨⟨rfl, rfl, trivial⟩, hS4.pick [1] rfl rfl⟩
  intro e w15 hS6
  have h := h6
  refine go ?_
  replace ⟨y16, hy16, h⟩ := obind h
  refine LW.c0 (W_i_hasPart hy16 rfl (hS6.rB hr0_1)) hS6 fun w17 hS7 => ?_
  refine go ?_
  refine cd (fun hc18 => ?_) fun hc18 => ?_
  · replace h := bcT h hc18
    refine go ?_
    cases h
    exact fi hS7
  replace h := bcF h hc18
  refine go ?_
  cases h
  exact fi hS7

theorem W_i_mayFlow {w0 : World} {N : Nat} {x0 : DWorld} {x1 : Int} {x2 : Int} {x3 : Int} {r : Bool} (h : F_i_mayFlow N x0 x1 x2 x3 = some r) {a0_1 : Option Addr} {n0_1 c0_1 : Nat} (hn0_1 : n0_1 = x0.parts.length) (hr0_1 : rdS (Bor w0 []) w0 a0_1 c0_1 x0.parts) :
    Ret Try.prog 104 #[.agg #[.int .i64 x0.now, .slice a0_1 n0_1 c0_1], .int .i64 x1, .int .i64 x2, .int .i64 x3] w0 (fun v w => v = .bool r ∧ St w0 [] w []) := by
  subst hn0_1
  unfold F_i_mayFlow at h
  refine Ret.fn Try.func104 fun e => ?_
  have hS1 := St.start w0
  refine go ?_
  refine LW.bo hS1 fun g1 w2 hS2 => ?_
  refine go ?_
  refine CW.draw (by kernel_rfl) ?_
  have hS3 := hS2.drew
  refine go ?_
  replace ⟨y3, hy3, h⟩ := obind h
  obtain ⟨b6, o7, cs8, hae, hb11, hp4, hq5, hd9, hk10⟩ := hr0_1.idx hy3
  subst hae
  obtain ⟨a12, c13, a15, c16, a18, c19, a21, c22, a24, c25, a27, c28, rfl, hr14, hr17, hr20, hr23, hr26, hr29⟩ := hd9
  refine AW.u (i := 3) rfl (by kernel_rfl) rfl rfl (Pur.ix Try.underlying57 sz40 rfl rfl hp4 hq5) ?_
  refine go ?_
  refine AW.take (i := 5) rfl (by kernel_rfl) rfl rfl (Ldr.old w0 ag24 rfl (hk10 1 _ rfl)) (hS3.same _ hb11.1 hb11.2) ?_
  refine go ?_
  replace ⟨y30, hy30, h⟩ := obind h
  obtain ⟨b33, o34, cs35, hae, hb38, hp31, hq32, hd36, hk37⟩ := hr0_1.idx hy30
  cases hae
  obtain ⟨a39, c40, a42, c43, a45, c46, a48, c49, a51, c52, a54, c55, rfl, hr41, hr44, hr47, hr50, hr53, hr56⟩ := hd36
  refine AW.u (i := 9) rfl (by kernel_rfl) rfl rfl (Pur.ix Try.underlying57 sz40 rfl rfl hp31 hq32) ?_
  refine go ?_
  refine AW.take (i := 11) rfl (by kernel_rfl) rfl rfl (Ldr.oldN w0 ag26 rfl rfl (fun j u hu => oldsub (m := 1) hk37 0 hu)) (hS3.same _ hb38.1 hb38.2) ?_
  refine go ?_
  replace ⟨y57, hy57, h⟩ := obind h
  obtain ⟨b60, o61, cs62, hae, hb65, hp58, hq59, hd63, hk64⟩ := hr0_1.idx hy57
  cases hae
  obtain ⟨a66, c67, a69, c70, a72, c73, a75, c76, a78, c79, a81, c82, rfl, hr68, hr71, hr74, hr77, hr80, hr83⟩ := hd63
  refine AW.u (i := 15) rfl (by kernel_rfl) rfl rfl (Pur.ix Try.underlying57 sz40 rfl rfl hp58 hq59) ?_
  refine go ?_
  refine AW.take (i := 17) rfl (by kernel_rfl) rfl rfl (Ldr.oldN w0 ag26 rfl rfl (fun j u hu => oldsub (m := 1) hk64 0 hu)) (hS3.same _ hb65.1 hb65.2) ?_
  replace ⟨y84, hy84, h⟩ := obind h
  have q := W_i_FlowsFor (w0 := w2.drew) hy84 rfl (hS3.rB hr17) rfl (hS3.rB hr41) rfl (hS3.rB hr68)
  refine AW.one (i := 18) (by kernel_rfl) ?_
  refine ⟨_, rfl, ?_⟩
  refine LW.call pl112 rfl rfl ?_
  refine Ret.mono q ?_
  rintro _ w85 ⟨rfl, hs⟩
  have hS4 := hS3.add hs
  refine LW.nil ⟨rfl, (.w (by kernel_rfl) (.c (St.cell (h := hS4) (i := 0) rfl) (.w (by kernel_rfl) (.c (St.cell (h := hS4) (i := 0) rfl) (.w (by kernel_rfl) (.c (St.cell (h := hS4) (i := 0) rfl) Kept.n)))))), ?_⟩
  refine go ?_
  cases h
  exact fi hS4

theorem W_i_AmtFits {w0 : World} {N : Nat} {x0 : DAmt} {x1 : DAmt} {r : Bool} (h : F_i_AmtFits N x0 x1 = some r) :
    Ret Try.prog 137 #[.agg #[.int .i64 x0.pages, .int .i64 x0.rent, .int .i64 x0.cpu], .agg #[.int .i64 x1.pages, .int .i64 x1.rent, .int .i64 x1.cpu]] w0 (fun v w => v = .bool r ∧ St w0 [] w []) := by
  unfold F_i_AmtFits at h
  refine Ret.fn Try.func137 fun e => ?_
  have hS1 := St.start w0
  refine go ?_
  refine LW.bo hS1 fun g1 w2 hS2 => ?_
  refine LW.bo hS2 fun g3 w4 hS3 => ?_
  refine go ?_
  replace ⟨y5, hy5, h⟩ := obind h
  refine LW.c0 (W_i_AmtOk hy5) hS3 fun w6 hS4 => ?_
  refine go ?_
  rcases bcases y5 with hc7 | hc7
  · replace h := bcT h hc7
    refine go ?_
    replace ⟨y8, hy8, h⟩ := obind h
    refine go ?_
    refine LW.c0 (W_i_AmtOk hy8) hS4 fun w9 hS5 => ?_
    refine go ?_
    rcases bcases y8 with hc10 | hc10
    · replace h := bcT h hc10
      refine go ?_
      rcases bcases (decide (x0.pages ≤ x1.pages)) with hc11 | hc11
      · replace h := bcT h hc11
        refine go ?_
        refine LW.fl [2, 3, 25] fun e => ?_
        rcases bcases (decide (x0.rent ≤ x1.rent)) with hc12 | hc12
        · replace h := bcT h hc12
          refine go ?_
          cases h
          exact fi hS5
        replace h := bcF h hc12
        refine go ?_
        cases h
        exact fi hS5
      replace h := bcF h hc11
      refine go ?_
      cases h
      exact fi hS5
    replace h := bcF h hc10
    refine go ?_
    cases h
    exact fi hS5
  replace h := bcF h hc7
  refine go ?_
  cases h
  exact fi hS4

theorem W_i_BootOk {w0 : World} {N : Nat} {x0 : List DBoot} {r : Bool} (h : F_i_BootOk N x0 = some r) {a0_0 : Option Addr} {n0_0 c0_0 : Nat} (hn0_0 : n0_0 = x0.length) (hr0_0 : rdS (Bor w0 []) w0 a0_0 c0_0 x0) :
    Ret Try.prog 64 #[.slice a0_0 n0_0 c0_0] w0 (fun v w => v = .bool r ∧ St w0 [] w []) := by
  subst hn0_0
  unfold F_i_BootOk at h
  refine Ret.fn Try.func64 fun e => ?_
  have hS1 := St.start w0
  refine go ?_
  refine LW.u (Pur.build (vs := []) (cs := #[.int .i64 0, .int .i64 0, .int .i64 0]) rfl (by kernel_rfl)) rfl ?_
  refine LW.al hS1 fun g1 w2 hS2 => ?_
  refine LW.st hS2 0 fun w3 hS3 => ?_
  refine go ?_
  obtain ⟨o41, ho41, h42⟩ := obind h
  refine CW.mono (CW.iter (σ := Int × Int × Int × Int) (ρ := (Int × Int × Int × Int) ⊕ Bool) (fun s4 e wb => En e [(0, .slice a0_0 x0.length c0_0), (3, .pointer (some ⟨g1, 0, none⟩)), (9, .slice a0_0 x0.length c0_0), (10, .int .i64 (x0.length : Int)), (11, .int .i64 s4.1)] ∧ St w0 [] wb [bx g1 28 [.int .i64 s4.2.1, .int .i64 s4.2.2.1, .int .i64 s4.2.2.2]]) (fun o x e wb => match o with | .inl s4 => x = .exit 0 ∧ En e [(0, .slice a0_0 x0.length c0_0)] ∧ St w0 [] wb [bx g1 28 [.int .i64 s4.2.1, .int .i64 s4.2.2.1, .int .i64 s4.2.2.2]] | .inr r => x = .ret ∧ ∃ u, u = r ∧ ∃ v, Res Try.prog Try.f64.results e wb v ∧ v = .bool u ∧ St w0 [] wb []) ?_ N (0, 0, 0, 0) _ _ _ ⟨⟨rfl, rfl, rfl, rfl, rfl, trivial⟩, hS3.pick [0] rfl rfl⟩ ho41) ?_
  · intro s4 e w5 o hM h
    obtain ⟨hE, hS4⟩ := hM
    obtain ⟨e, rfl⟩ := hE.out
    refine go ?_
    refine cd (fun hc6 => ?_) fun hc6 => ?_
    · replace h := bcT h hc6
      refine go ?_
      replace ⟨y7, hy7, h⟩ := obind h
      obtain ⟨b10, o11, cs12, hae, hb15, hp8, hq9, hd13, hk14⟩ := hr0_0.idx hy7
      subst hae
      obtain ⟨a16, c17, a19, c20, rfl, hr18, hr21⟩ := hd13
      refine LW.u (Pur.ix Try.underlying54 sz30 rfl rfl hp8 hq9) rfl ?_
      refine LW.l (Ldr.oldN w0 ag30 rfl rfl (fun j u hu => hk14 j u hu)) (hS4.same _ hb15.1 hb15.2) rfl ?_
      refine LW.al hS4 fun g22 w23 hS5 => ?_
      refine LW.st hS5 0 fun w24 hS6 => ?_
      refine go ?_
      replace ⟨y25, hy25, h⟩ := obind h
      refine LW.c0 (W_i_AmtAdd hy25) hS6 fun w26 hS7 => ?_
      refine go ?_
      refine LW.al hS7 fun g27 w28 hS8 => ?_
      refine LW.st hS8 0 fun w29 hS9 => ?_
      refine gs ?_
      obtain ⟨j30, hj30, h31⟩ := obind h
      refine CW.jn [0, 3, 6, 9, 10, 11] [0, 2] [(35, .bool j30)] hS9 (h1 := ?_) (h2 := ?_)
      · have h := hj30
        refine go ?_
        refine LW.fl [0, 3, 5, 6, 9, 10, 11, 24] fun e => ?_
        rcases bcases (!y25.2) with hc32 | hc32
        · replace h := bcT h hc32
          refine go ?_
          cases oi h
          exact ⟨⟨rfl, rfl, rfl, rfl, rfl, rfl, rfl, trivial⟩, hS9.pick [0, 2] rfl rfl⟩
        replace h := bcF h hc32
        refine go ?_
        replace ⟨y33, hy33, h⟩ := obind h
        refine go ?_
        refine LW.c0 (W_i_LabelOk hy33 rfl (hS9.rB hr18)) hS9 fun w34 hS10 => ?_
        refine go ?_
        rcases bcases (!y33) with hc35 | hc35
        · replace h := bcT h hc35
          refine go ?_
          cases oi h
          exact ⟨⟨rfl, rfl, rfl, rfl, rfl, rfl, rfl, trivial⟩, hS10.pick [0, 2] rfl rfl⟩
        replace h := bcF h hc35
        refine go ?_
        replace ⟨y36, hy36, h⟩ := obind h
        refine go ?_
        refine LW.c0 (W_i_OwnOk hy36 rfl (hS10.rB hr21)) hS10 fun w37 hS11 => ?_
        refine go ?_
        cases oi h
        exact ⟨⟨rfl, rfl, rfl, rfl, rfl, rfl, rfl, trivial⟩, hS11.pick [0, 2] rfl rfl⟩
      intro e w38 hS12
      have h := h31
      refine go ?_
      refine CW.fl [0, 3, 6, 9, 10, 11, 35] fun e => ?_
      refine cd (fun hc39 => ?_) fun hc39 => ?_
      · replace h := bcT h hc39
        refine go ?_
        cases oi h
        exact ⟨trivial, rfl, _, rfl, ⟨_, Res.one (resOne.t rfl), rfl, hS12.pick [] rfl rfl⟩⟩
      replace h := bcF h hc39
      refine go ?_
      refine LW.st hS12 1 fun w40 hS13 => ?_
      refine go ?_
      cases oi h
      exact ⟨rfl, ⟨⟨rfl, rfl, rfl, rfl, rfl, trivial⟩, hS13.pick [1] rfl rfl⟩⟩
    replace h := bcF h hc6
    refine go ?_
    cases oi h
    exact ⟨trivial, rfl, ⟨⟨rfl, trivial⟩, hS4.pick [0] rfl rfl⟩⟩
  intro x e w43 hM
  rcases o41 with o41 | r46
  · obtain ⟨rfl, hM⟩ := hM
    obtain ⟨hE, hS14⟩ := hM
    obtain ⟨e, rfl⟩ := hE.out
    have h := h42
    refine go ?_
    replace ⟨y44, hy44, h⟩ := obind h
    refine LW.c0 (W_i_within hy44) hS14 fun w45 hS15 => ?_
    refine go ?_
    cases h
    exact fi hS15
  obtain ⟨rfl, u, rfl, hM⟩ := hM
  cases h42
  exact And.intro trivial hM

theorem W_i_copyPart {w0 : World} {N : Nat} {x0 : DPart} {r : DPart} (h : F_i_copyPart N x0 = some r) {a0_0 : Option Addr} {n0_0 c0_0 : Nat} (hn0_0 : n0_0 = x0.label.levels.length) (hr0_0 : rdS (Bor w0 []) w0 a0_0 c0_0 x0.label.levels) {a0_1 : Option Addr} {n0_1 c0_1 : Nat} (hn0_1 : n0_1 = x0.own.length) (hr0_1 : rdS (Bor w0 []) w0 a0_1 c0_1 x0.own) {a0_2 : Option Addr} {n0_2 c0_2 : Nat} (hn0_2 : n0_2 = x0.tree.length) (hr0_2 : rdS (Bor w0 []) w0 a0_2 c0_2 x0.tree) {a0_3 : Option Addr} {n0_3 c0_3 : Nat} (hn0_3 : n0_3 = x0.heap.arena.length) (hr0_3 : rdS (Bor w0 []) w0 a0_3 c0_3 x0.heap.arena) {a0_7 : Option Addr} {n0_7 c0_7 : Nat} (hn0_7 : n0_7 = x0.heap.gc.grey.length) (hr0_7 : rdS (Bor w0 []) w0 a0_7 c0_7 x0.heap.gc.grey) {a0_8 : Option Addr} {n0_8 c0_8 : Nat} (hn0_8 : n0_8 = x0.taps.length) (hr0_8 : rdS (Bor w0 []) w0 a0_8 c0_8 x0.taps) :
    Ret Try.prog 102 #[.agg #[.slice a0_0 n0_0 c0_0, .slice a0_1 n0_1 c0_1, .slice a0_2 n0_2 c0_2, .slice a0_3 n0_3 c0_3, .int .i64 x0.heap.gc.phase, .int .i64 x0.heap.gc.pos, .int .i64 x0.heap.gc.round, .slice a0_7 n0_7 c0_7, .slice a0_8 n0_8 c0_8, .int .i64 x0.next, .int .i64 x0.want, .int .i64 x0.spent.pages, .int .i64 x0.spent.rent, .int .i64 x0.spent.cpu, .int .i64 x0.press, .int .i64 x0.lost]] w0 (fun v w => ∃ ar0_0 cr0_0, ∃ ar0_1 cr0_1, ∃ ar0_2 cr0_2, ∃ ar0_3 cr0_3, ∃ ar0_7 cr0_7, ∃ ar0_8 cr0_8, v = .agg #[.slice ar0_0 r.label.levels.length cr0_0, .slice ar0_1 r.own.length cr0_1, .slice ar0_2 r.tree.length cr0_2, .slice ar0_3 r.heap.arena.length cr0_3, .int .i64 r.heap.gc.phase, .int .i64 r.heap.gc.pos, .int .i64 r.heap.gc.round, .slice ar0_7 r.heap.gc.grey.length cr0_7, .slice ar0_8 r.taps.length cr0_8, .int .i64 r.next, .int .i64 r.want, .int .i64 r.spent.pages, .int .i64 r.spent.rent, .int .i64 r.spent.cpu, .int .i64 r.press, .int .i64 r.lost] ∧ St w0 [] w [sl ar0_0 cr0_0 r.label.levels, sl ar0_1 cr0_1 r.own, sl ar0_2 cr0_2 r.tree, sl ar0_3 cr0_3 r.heap.arena, sl ar0_7 cr0_7 r.heap.gc.grey, sl ar0_8 cr0_8 r.taps]) := by
  subst hn0_0 hn0_1 hn0_2 hn0_3 hn0_7 hn0_8
  unfold F_i_copyPart at h
  refine Ret.fn Try.func102 fun e => ?_
  have hS1 := St.start w0
  refine go ?_
  refine LW.bo hS1 fun g1 w2 hS2 => ?_
  refine LW.al hS2 fun g3 w4 hS3 => ?_
  refine go ?_
  refine CW.draw (by kernel_rfl) ?_
  have hS4 := hS3.drew
  refine go ?_
  replace ⟨y5, hy5, h⟩ := obind h
  have q := W_i_copyLabel (w0 := w4.drew) hy5 rfl (hS4.rB hr0_0)
  refine AW.one (i := 2) (by kernel_rfl) ?_
  refine ⟨_, rfl, ?_⟩
  refine LW.call pl38 rfl rfl ?_
  refine Ret.mono q ?_
  rintro _ w8 ⟨a6, c7, rfl, hs⟩
  have hS5 := hS4.add hs
  refine LW.nil ⟨rfl, (.c (St.cell (h := hS5) (i := 2) rfl) (.c (St.cell (h := hS5) (i := 2) rfl) (.c (St.cell (h := hS5) (i := 2) rfl) (.w (by kernel_rfl) Kept.n)))), ?_⟩
  refine AW.u (i := 12) rfl (by kernel_rfl) rfl rfl (Pur.fa fo40_0 rfl) ?_
  replace ⟨y9, hy9, h⟩ := obind h
  have q := W_i_copyInts (w0 := w8) hy9 rfl (hS5.rB hr0_1)
  refine AW.one (i := 5) (by kernel_rfl) ?_
  refine ⟨_, rfl, ?_⟩
  refine LW.call pl39 rfl rfl ?_
  refine Ret.mono q ?_
  rintro _ w12 ⟨a10, c11, rfl, hs⟩
  have hS6 := hS5.add hs
  refine LW.nil ⟨rfl, (.c (St.cell (h := hS6) (i := 3) rfl) (.c (St.cell (h := hS6) (i := 3) rfl) (.w (by kernel_rfl) (.c (St.cell (h := hS6) (i := 3) rfl) Kept.n)))), ?_⟩
  replace ⟨y13, hy13, h⟩ := obind h
  have q := W_i_copyTree (w0 := w12) hy13 rfl (hS6.rB hr0_2)
  refine AW.one (i := 8) (by kernel_rfl) ?_
  refine ⟨_, rfl, ?_⟩
  refine LW.call pl111 rfl rfl ?_
  refine Ret.mono q ?_
  rintro _ w16 ⟨a14, c15, rfl, hs⟩
  have hS7 := hS6.add hs
  refine LW.nil ⟨rfl, (.c (St.cell (h := hS7) (i := 4) rfl) (.w (by kernel_rfl) (.c (St.cell (h := hS7) (i := 4) rfl) (.c (St.cell (h := hS7) (i := 4) rfl) Kept.n)))), ?_⟩
  replace ⟨y17, hy17, h⟩ := obind h
  have q := W_i_copyHeap (w0 := w16) hy17 rfl (hS7.rB hr0_3) rfl (hS7.rB hr0_7)
  refine AW.one (i := 11) (by kernel_rfl) ?_
  refine ⟨_, rfl, ?_⟩
  refine LW.call pl74 rfl rfl ?_
  refine Ret.mono q ?_
  rintro _ w22 ⟨a18, c19, a20, c21, rfl, hs⟩
  have hS8 := hS7.add hs
  refine LW.nil ⟨rfl, (.w (by kernel_rfl) (.c (St.cell (h := hS8) (i := 6) rfl) (.c (St.cell (h := hS8) (i := 6) rfl) (.c (St.cell (h := hS8) (i := 6) rfl) Kept.n)))), ?_⟩
  refine AW.one (i := 13) (by kernel_rfl) ?_
  refine ⟨_, rfl, ?_⟩
  refine LW.st hS8 6 fun w23 hS9 => ?_
  refine LW.nil ⟨rfl, (.w (by kernel_rfl) (.w (by kernel_rfl) (.w (by kernel_rfl) (.w (by kernel_rfl) Kept.n)))), ?_⟩
  refine go ?_
  refine AW.one (i := 15) (by kernel_rfl) ?_
  refine ⟨_, rfl, ?_⟩
  refine LW.st hS9 6 fun w24 hS10 => ?_
  refine LW.nil ⟨rfl, (.w (by kernel_rfl) (.w (by kernel_rfl) (.w (by kernel_rfl) (.w (by kernel_rfl) Kept.n)))), ?_⟩
  refine go ?_
  refine AW.one (i := 17) (by kernel_rfl) ?_
  refine ⟨_, rfl, ?_⟩
  refine LW.st hS10 6 fun w25 hS11 => ?_
  refine LW.nil ⟨rfl, (.w (by kernel_rfl) (.w (by kernel_rfl) (.w (by kernel_rfl) (.w (by kernel_rfl) Kept.n)))), ?_⟩
  refine go ?_
  refine AW.one (i := 19) (by kernel_rfl) ?_
  refine ⟨_, rfl, ?_⟩
  refine LW.st hS11 6 fun w26 hS12 => ?_
  refine LW.nil ⟨rfl, (.w (by kernel_rfl) (.w (by kernel_rfl) (.w (by kernel_rfl) (.w (by kernel_rfl) Kept.n)))), ?_⟩
  refine go ?_
  refine LW.bsl (α := DTap) (vs := []) (cs := #[]) (l := ([] : List DTap)) rfl (by kernel_rfl) rfl rfl rfl (fun w => rfl) hS12 rfl ?_
  intro a27 c28 w29 hS13 hf
  refine go ?_
  replace ⟨y30, hy30, h⟩ := obind h
  refine LW.appN (l := ([] : List DTap)) (m := x0.taps) sT38 rfl rfl (hS13.rB hr0_8) hy30 hS13 (i := 0) rfl rfl ?_
  intro a31 c32 w33 hS14 hf
  refine go ?_
  refine LW.st hS14 7 fun w34 hS15 => ?_
  refine go ?_
  refine LW.st hS15 6 fun w35 hS16 => ?_
  refine go ?_
  cases h
  exact And.intro trivial ⟨_, Res.one (resOne.b hS16 6 rfl ag40 rfl rfl), a6, c7, a10, c11, a14, c15, a18, c19, a20, c21, a31, c32, rfl, hS16.pick [5, 4, 3, 1, 2, 0] rfl rfl⟩

end Go.Kx
