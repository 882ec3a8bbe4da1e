/- Each call returns what the plain function says. Printed by drive.py. -/
import Derived.Test.YtdjpppkdngmeaaaGreatFa
import Derived.Test.YtdjpppkdngmeaaaGreatPu
import Derived.Test.YtdjpppkdngmeaaaGreatWa1
import Derived.Test.YtdjpppkdngmeaaaGreatWa10
import Derived.Test.YtdjpppkdngmeaaaGreatWa12
import Derived.Test.YtdjpppkdngmeaaaGreatWa13
namespace Go.Kx
open Go Go.RowKit Go.Proofs
set_option maxRecDepth 10000
set_option maxHeartbeats 2000000
set_option linter.unusedVariables false
set_option linter.unusedSimpArgs false
theorem W_s_WorldSum {w0 : World} {N : Nat} {x0 : DWorld} {r : DAmt} (h : F_s_WorldSum N x0 = some r) {a0_1 : Option Addr} {n0_1 c0_1 : Nat} (hn0_1 : n0_1 = x0.parts.length) (hr0_1 : rdS (Bor w0 []) w0 a0_1 c0_1 x0.parts) :
    Ret Tryz.prog 67 #[.agg #[.int .i64 x0.now, .slice a0_1 n0_1 c0_1]] w0 (fun v w => v = .agg #[.int .i64 r.pages, .int .i64 r.rent, .int .i64 r.cpu] ∧ St w0 [] w []) := by
  subst hn0_1
  unfold F_s_WorldSum at h
  refine Ret.fn Tryz.func67 fun e => ?_
  have hS1 := St.start w0
  refine go ?_
  refine LW.bo hS1 fun g1 w2 hS2 => ?_
  refine LW.al hS2 fun g3 w4 hS3 => ?_
  refine go ?_
  replace ⟨y5, hy5, h⟩ := obind h
  refine LW.c0 (W_s_WorldOk hy5 rfl (hS3.rB hr0_1)) hS3 fun w6 hS4 => ?_
  refine go ?_
  refine CW.cond rfl (fun hc7 => ?_) (fun hc7 => ?_)
  · replace h := bcT h hc7
    refine go ?_
    refine LW.u (Pur.build (vs := []) (cs := #[.int .i64 0, .int .i64 0, .int .i64 0]) rfl (by kernel_rfl)) rfl ?_
    refine LW.st hS4 0 fun w8 hS5 => ?_
    refine go ?_
    cases h
    exact And.intro trivial ⟨_, Res.one (resOne.b hS5 0 rfl ag45 rfl rfl), rfl, hS5.pick [] rfl rfl⟩
  replace h := bcF h hc7
  refine go ?_
  replace ⟨y9, hy9, h⟩ := obind h
  refine LW.c0 (W_s_l15Sum hy9 rfl (hS4.rB hr0_1)) hS4 fun w10 hS6 => ?_
  refine LW.st hS6 0 fun w11 hS7 => ?_
  refine go ?_
  cases h
  exact And.intro trivial ⟨_, Res.one (resOne.b hS7 0 rfl ag45 rfl rfl), rfl, hS7.pick [] rfl rfl⟩

theorem W_s_BootSum {w0 : World} {N : Nat} {x0 : List DBoot} {r : DAmt} (h : F_s_BootSum N x0 = some r) {a0_0 : Option Addr} {n0_0 c0_0 : Nat} (hn0_0 : n0_0 = x0.length) (hr0_0 : rdS (Bor w0 []) w0 a0_0 c0_0 x0) :
    Ret Tryz.prog 68 #[.slice a0_0 n0_0 c0_0] w0 (fun v w => v = .agg #[.int .i64 r.pages, .int .i64 r.rent, .int .i64 r.cpu] ∧ St w0 [] w []) := by
  subst hn0_0
  unfold F_s_BootSum at h
  refine Ret.fn Tryz.func68 fun e => ?_
  have hS1 := St.start w0
  refine go ?_
  refine LW.al hS1 fun g1 w2 hS2 => ?_
  refine go ?_
  refine LW.u (Pur.build (vs := []) (cs := #[.int .i64 0, .int .i64 0, .int .i64 0]) rfl (by kernel_rfl)) rfl ?_
  refine LW.al hS2 fun g3 w4 hS3 => ?_
  refine LW.st hS3 0 fun w5 hS4 => ?_
  refine go ?_
  replace ⟨y6, hy6, h⟩ := obind h
  refine LW.c0 (W_s_BootOk hy6 rfl (hS4.rB hr0_0)) hS4 fun w7 hS5 => ?_
  refine go ?_
  refine CW.cond rfl (fun hc8 => ?_) (fun hc8 => ?_)
  · replace h := bcT h hc8
    refine go ?_
    refine LW.st hS5 1 fun w9 hS6 => ?_
    refine go ?_
    cases h
    exact And.intro trivial ⟨_, Res.one (resOne.b hS6 1 rfl ag45 rfl rfl), rfl, hS6.pick [] rfl rfl⟩
  replace h := bcF h hc8
  refine go ?_
  obtain ⟨o45, ho45, h46⟩ := obind h
  refine CW.mono (CW.iter (σ := Int × Int × Int × Int) (ρ := Int × Int × Int × Int) (fun s10 e wb => En e [(0, .slice a0_0 x0.length c0_0), (2, .pointer (some ⟨g1, 0, none⟩)), (3, .pointer (some ⟨g3, 0, none⟩)), (4, .int .i64 s10.1)] ∧ St w0 [] wb [bx g3 45 [.int .i64 s10.2.1, .int .i64 s10.2.2.1, .int .i64 s10.2.2.2], bx g1 45 [.int .i64 0, .int .i64 0, .int .i64 0]]) (fun s10 x e wb => x = .exit 0 ∧ En e [(2, .pointer (some ⟨g1, 0, none⟩)), (3, .pointer (some ⟨g3, 0, none⟩))] ∧ St w0 [] wb [bx g3 45 [.int .i64 s10.2.1, .int .i64 s10.2.2.1, .int .i64 s10.2.2.2], bx g1 45 [.int .i64 0, .int .i64 0, .int .i64 0]]) ?_ N (0, 0, 0, 0) _ _ _ ⟨⟨rfl, rfl, rfl, rfl, trivial⟩, hS5.pick [0, 1] rfl rfl⟩ ho45) ?_
  · intro s10 e w11 o hM h
    obtain ⟨hE, hS7⟩ := hM
    obtain ⟨e, rfl⟩ := hE.out
    refine go ?_
    refine CW.cond rfl (fun hc12 => ?_) (fun hc12 => ?_)
    · replace h := bcT h hc12
      refine gs ?_
      refine CW.block ?_
      refine gs ?_
      obtain ⟨j13, hj13, h14⟩ := obind h
      refine CW.cut (fun e wb => ∃ (j13g5 : Nat), En e [(0, .slice a0_0 x0.length c0_0), (2, .pointer (some ⟨g1, 0, none⟩)), (3, .pointer (some ⟨g3, 0, none⟩)), (4, .int .i64 s10.1), (5, .pointer (some ⟨j13g5, 0, none⟩))] ∧ St w0 [] wb [bx g3 45 [.int .i64 s10.2.1, .int .i64 s10.2.2.1, .int .i64 s10.2.2.2], bx g1 45 [.int .i64 0, .int .i64 0, .int .i64 0], bx j13g5 45 [.int .i64 j13.1, .int .i64 j13.2.1, .int .i64 j13.2.2]]) ?_ ?_
      · have h := hj13
        refine CW.draw (by kernel_rfl) ?_
        have hS8 := hS7.drew
        refine AW.take (i := 0) rfl (by kernel_rfl) rfl rfl (Ldr.boxN (bt := 45) (fr := (0, 0)) (cs := [.int .i64 s10.2.1, .int .i64 s10.2.2.1, .int .i64 s10.2.2.2]) ag45 rfl rfl) (St.cell (h := hS8) (i := 0) rfl) ?_
        refine AW.u (i := 1) rfl (by kernel_rfl) rfl rfl (Pur.p rfl) ?_
        refine AW.u (i := 2) rfl (by kernel_rfl) rfl rfl (Pur.p rfl) ?_
        replace ⟨y15, hy15, h⟩ := obind h
        obtain ⟨b18, o19, cs20, hae, hb23, hp16, hq17, hd21, hk22⟩ := hr0_0.idx hy15
        subst hae
        obtain ⟨a24, c25, a27, c28, rfl, hr26, hr29⟩ := hd21
        refine AW.u (i := 3) rfl (by kernel_rfl) rfl rfl (Pur.ix Tryz.underlying68 sz114 rfl rfl hp16 hq17) ?_
        refine AW.u (i := 4) rfl (by kernel_rfl) rfl rfl (Pur.fa fo114_2 rfl) ?_
        refine AW.take (i := 5) rfl (by kernel_rfl) rfl rfl (Ldr.oldN w0 ag45 rfl rfl (fun j u hu => oldsub (m := 3) hk22 2 hu)) (hS8.same _ hb23.1 hb23.2) ?_
        replace ⟨y30, hy30, h⟩ := obind h
        refine AW.all (rs := [6, 10]) (by kernel_rfl) (by simp) ⟨?_, ?_, trivial⟩
        · have q := W_s_AmtAdd (w0 := w11.drew) hy30
          refine ⟨_, rfl, ?_⟩
          refine LW.call pl119 rfl rfl ?_
          refine Ret.mono q ?_
          rintro _ w35 ⟨rfl, hs⟩
          have hS9 := hS8.add hs
          refine LW.nil ⟨rfl, (.w (by kernel_rfl) (.w (by kernel_rfl) Kept.n)), ?_⟩
          refine AW.u (i := 7) rfl (by kernel_rfl) rfl rfl (Pur.p rfl) ?_
          refine AW.u (i := 8) rfl (by kernel_rfl) rfl rfl (Pur.p rfl) ?_
          refine AW.u (i := 9) rfl (by kernel_rfl) rfl rfl (Pur.p rfl) ?_
          refine AW.one (i := 10) (by kernel_rfl) ?_
          refine ⟨_, rfl, ?_⟩
          refine LW.al hS9 fun g36 w37 hS10 => ?_
          refine LW.nil ⟨rfl, (.c (hS10.same _ hb23.1 hb23.2) (.c (St.cell (h := hS10) (i := 1) rfl) Kept.n)), ?_⟩
          refine AW.one (i := 11) (by kernel_rfl) ?_
          refine ⟨_, rfl, ?_⟩
          refine LW.st hS10 0 fun w38 hS11 => ?_
          refine LW.nil ⟨rfl, (.w (by kernel_rfl) (.w (by kernel_rfl) Kept.n)), ?_⟩
          refine AW.u (i := 12) rfl (by kernel_rfl) rfl rfl (Pur.p rfl) ?_
          refine AW.done (by kernel_rfl) ?_
          cases oi h
          exact ⟨g36, ⟨rfl, rfl, rfl, rfl, rfl, trivial⟩, hS11.pick [1, 2, 0] rfl rfl⟩
        refine ⟨_, rfl, ?_⟩
        refine LW.al hS8 fun g39 w40 hS12 => ?_
        refine LW.nil ⟨rfl, (.c (hS12.same _ hb23.1 hb23.2) (.c (St.cell (h := hS12) (i := 1) rfl) Kept.n)), ?_⟩
        have q := W_s_AmtAdd (w0 := w40) hy30
        refine AW.one (i := 6) (by kernel_rfl) ?_
        refine ⟨_, rfl, ?_⟩
        refine LW.call pl119 rfl rfl ?_
        refine Ret.mono q ?_
        rintro _ w41 ⟨rfl, hs⟩
        have hS13 := hS12.add hs
        refine LW.nil ⟨rfl, (.w (by kernel_rfl) (.w (by kernel_rfl) Kept.n)), ?_⟩
        refine AW.u (i := 7) rfl (by kernel_rfl) rfl rfl (Pur.p rfl) ?_
        refine AW.u (i := 8) rfl (by kernel_rfl) rfl rfl (Pur.p rfl) ?_
        refine AW.u (i := 9) rfl (by kernel_rfl) rfl rfl (Pur.p rfl) ?_
        refine AW.one (i := 11) (by kernel_rfl) ?_
        refine ⟨_, rfl, ?_⟩
        refine LW.st hS13 0 fun w42 hS14 => ?_
        refine LW.nil ⟨rfl, (.w (by kernel_rfl) (.w (by kernel_rfl) Kept.n)), ?_⟩
        refine AW.u (i := 12) rfl (by kernel_rfl) rfl rfl (Pur.p rfl) ?_
        refine AW.done (by kernel_rfl) ?_
        cases oi h
        exact ⟨g39, ⟨rfl, rfl, rfl, rfl, rfl, trivial⟩, hS14.pick [1, 2, 0] rfl rfl⟩
      rintro e w43 ⟨j13g5, hE, hS15⟩
      obtain ⟨e, rfl⟩ := hE.out
      have h := h14
      refine go ?_
      refine LW.st hS15 0 fun w44 hS16 => ?_
      refine go ?_
      cases oi h
      exact ⟨rfl, ⟨⟨rfl, rfl, rfl, rfl, trivial⟩, hS16.pick [0, 1] rfl rfl⟩⟩
    replace h := bcF h hc12
    refine go ?_
    cases oi h
    exact ⟨trivial, rfl, ⟨⟨rfl, rfl, trivial⟩, hS7.pick [0, 1] rfl rfl⟩⟩
  intro x e w47 hM
  obtain ⟨rfl, hM⟩ := hM
  obtain ⟨hE, hS17⟩ := hM
  obtain ⟨e, rfl⟩ := hE.out
  have h := h46
  refine go ?_
  refine LW.st hS17 1 fun w48 hS18 => ?_
  refine go ?_
  cases h
  exact And.intro trivial ⟨_, Res.one (resOne.b hS18 1 rfl ag45 rfl rfl), rfl, hS18.pick [] rfl rfl⟩

theorem W_s_Conserved {w0 : World} {N : Nat} {x0 : List DBoot} {x1 : DWorld} {r : Bool} (h : F_s_Conserved N x0 x1 = some r) {a0_0 : Option Addr} {n0_0 c0_0 : Nat} (hn0_0 : n0_0 = x0.length) (hr0_0 : rdS (Bor w0 []) w0 a0_0 c0_0 x0) {a1_1 : Option Addr} {n1_1 c1_1 : Nat} (hn1_1 : n1_1 = x1.parts.length) (hr1_1 : rdS (Bor w0 []) w0 a1_1 c1_1 x1.parts) :
    Ret Tryz.prog 23 #[.slice a0_0 n0_0 c0_0, .agg #[.int .i64 x1.now, .slice a1_1 n1_1 c1_1]] w0 (fun v w => v = .bool r ∧ St w0 [] w []) := by
  subst hn0_0 hn1_1
  unfold F_s_Conserved at h
  refine Ret.fn Tryz.func23 fun e => ?_
  have hS1 := St.start w0
  refine go ?_
  refine LW.bo hS1 fun g1 w2 hS2 => ?_
  refine go ?_
  replace ⟨y3, hy3, h⟩ := obind h
  refine LW.c0 (W_s_BootOk hy3 rfl (hS2.rB hr0_0)) hS2 fun w4 hS3 => ?_
  refine go ?_
  rcases bcases y3 with hc5 | hc5
  · replace h := bcT h hc5
    refine go ?_
    replace ⟨y6, hy6, h⟩ := obind h
    refine go ?_
    refine LW.c0 (W_s_WorldOk hy6 rfl (hS3.rB hr1_1)) hS3 fun w7 hS4 => ?_
    refine go ?_
    rcases bcases y6 with hc8 | hc8
    · replace h := bcT h hc8
      refine go ?_
      replace ⟨y9, hy9, h⟩ := obind h
      refine go ?_
      refine LW.c0 (W_s_WorldSum hy9 rfl (hS4.rB hr1_1)) hS4 fun w10 hS5 => ?_
      refine go ?_
      replace ⟨y11, hy11, h⟩ := obind h
      refine go ?_
      refine LW.c0 (W_s_BootSum hy11 rfl (hS5.rB hr0_0)) hS5 fun w12 hS6 => ?_
      refine go ?_
      refine LW.u (Pur.aeq eg45 rfl rfl (fun w => eq45 y9 y11 w)) rfl ?_
      refine go ?_
      cases h
      exact And.intro trivial ⟨_, Res.one (resOne.t rfl), rfl, hS6.pick [] rfl rfl⟩
    replace h := bcF h hc8
    refine go ?_
    cases h
    exact And.intro trivial ⟨_, Res.one (resOne.t rfl), rfl, hS4.pick [] rfl rfl⟩
  replace h := bcF h hc5
  refine go ?_
  cases h
  exact And.intro trivial ⟨_, Res.one (resOne.t rfl), rfl, hS3.pick [] rfl rfl⟩

theorem W_i_WorldSum {w0 : World} {N : Nat} {x0 : DWorld} {r : DAmt} (h : F_i_WorldSum N x0 = some r) {a0_1 : Option Addr} {n0_1 c0_1 : Nat} (hn0_1 : n0_1 = x0.parts.length) (hr0_1 : rdS (Bor w0 []) w0 a0_1 c0_1 x0.parts) :
    Ret Tryz.prog 71 #[.agg #[.int .i64 x0.now, .slice a0_1 n0_1 c0_1]] w0 (fun v w => v = .agg #[.int .i64 r.pages, .int .i64 r.rent, .int .i64 r.cpu] ∧ St w0 [] w []) := by
  subst hn0_1
  unfold F_i_WorldSum at h
  refine Ret.fn Tryz.func71 fun e => ?_
  have hS1 := St.start w0
  refine go ?_
  refine LW.bo hS1 fun g1 w2 hS2 => ?_
  refine LW.al hS2 fun g3 w4 hS3 => ?_
  refine go ?_
  refine LW.u (Pur.build (vs := []) (cs := #[.int .i64 0, .int .i64 0, .int .i64 0]) rfl (by kernel_rfl)) rfl ?_
  refine LW.al hS3 fun g5 w6 hS4 => ?_
  refine LW.st hS4 0 fun w7 hS5 => ?_
  refine go ?_
  replace ⟨y8, hy8, h⟩ := obind h
  refine LW.c0 (W_i_WorldOk hy8 rfl (hS5.rB hr0_1)) hS5 fun w9 hS6 => ?_
  refine go ?_
  refine CW.cond rfl (fun hc10 => ?_) (fun hc10 => ?_)
  · replace h := bcT h hc10
    refine go ?_
    refine LW.st hS6 1 fun w11 hS7 => ?_
    refine go ?_
    cases h
    exact And.intro trivial ⟨_, Res.one (resOne.b hS7 1 rfl ag45 rfl rfl), rfl, hS7.pick [] rfl rfl⟩
  replace h := bcF h hc10
  refine go ?_
  obtain ⟨o50, ho50, h51⟩ := obind h
  refine CW.mono (CW.iter (σ := Int × Int × Int × Int) (ρ := Int × Int × Int × Int) (fun s12 e wb => En e [(2, .pointer (some ⟨g3, 0, none⟩)), (3, .pointer (some ⟨g5, 0, none⟩)), (12, .slice a0_1 x0.parts.length c0_1), (13, .int .i64 (x0.parts.length : Int)), (14, .int .i64 s12.1)] ∧ St w0 [] wb [bx g5 45 [.int .i64 s12.2.1, .int .i64 s12.2.2.1, .int .i64 s12.2.2.2], bx g3 45 [.int .i64 0, .int .i64 0, .int .i64 0]]) (fun s12 x e wb => x = .exit 0 ∧ En e [(2, .pointer (some ⟨g3, 0, none⟩)), (3, .pointer (some ⟨g5, 0, none⟩))] ∧ St w0 [] wb [bx g5 45 [.int .i64 s12.2.1, .int .i64 s12.2.2.1, .int .i64 s12.2.2.2], bx g3 45 [.int .i64 0, .int .i64 0, .int .i64 0]]) ?_ N (0, 0, 0, 0) _ _ _ ⟨⟨rfl, rfl, rfl, rfl, rfl, trivial⟩, hS6.pick [0, 1] rfl rfl⟩ ho50) ?_
  · intro s12 e w13 o hM h
    obtain ⟨hE, hS8⟩ := hM
    obtain ⟨e, rfl⟩ := hE.out
    refine go ?_
    refine CW.fl [2, 3, 12, 13, 14, 15] fun e => ?_
    refine CW.cond rfl (fun hc14 => ?_) (fun hc14 => ?_)
    · replace h := bcT h hc14
      refine go ?_
      replace ⟨y15, hy15, h⟩ := obind h
      obtain ⟨b18, o19, cs20, hae, hb23, hp16, hq17, hd21, hk22⟩ := hr0_1.idx hy15
      subst hae
      obtain ⟨a24, c25, a27, c28, a30, c31, a33, c34, a36, c37, a39, c40, rfl, hr26, hr29, hr32, hr35, hr38, hr41⟩ := hd21
      refine LW.u (Pur.ix Tryz.underlying59 sz47 rfl rfl hp16 hq17) rfl ?_
      refine LW.l (Ldr.oldN w0 ag47 rfl rfl (fun j u hu => hk22 j u hu)) (hS8.same _ hb23.1 hb23.2) rfl ?_
      refine LW.al hS8 fun g42 w43 hS9 => ?_
      refine LW.st hS9 0 fun w44 hS10 => ?_
      refine go ?_
      refine CW.draw (by kernel_rfl) ?_
      have hS11 := hS10.drew
      refine AW.take (i := 0) rfl (by kernel_rfl) rfl rfl (Ldr.boxN (bt := 45) (fr := (0, 0)) (cs := [.int .i64 s12.2.1, .int .i64 s12.2.2.1, .int .i64 s12.2.2.2]) ag45 rfl rfl) (St.cell (h := hS11) (i := 1) rfl) ?_
      refine AW.take (i := 1) rfl (by kernel_rfl) rfl rfl (Ldr.boxN (bt := 47) (fr := (0, 0)) (cs := [.slice a24 y15.label.levels.length c25, .slice a27 y15.own.length c28, .slice a30 y15.tree.length c31, .slice a33 y15.heap.arena.length c34, .int .i64 y15.heap.gc.phase, .int .i64 y15.heap.gc.pos, .int .i64 y15.heap.gc.round, .slice a36 y15.heap.gc.grey.length c37, .slice a39 y15.taps.length c40, .int .i64 y15.next, .int .i64 y15.want, .int .i64 y15.spent.pages, .int .i64 y15.spent.rent, .int .i64 y15.spent.cpu, .int .i64 y15.press, .int .i64 y15.lost]) ag47 rfl rfl) (St.cell (h := hS11) (i := 0) rfl) ?_
      replace ⟨y45, hy45, h⟩ := obind h
      have q := W_i_PartSum (w0 := w44.drew) hy45 rfl (hS11.rB hr26) rfl (hS11.rB hr29) rfl (hS11.rB hr32) rfl (hS11.rB hr35) rfl (hS11.rB hr38) rfl (hS11.rB hr41)
      refine AW.one (i := 2) (by kernel_rfl) ?_
      refine ⟨_, rfl, ?_⟩
      refine LW.call pl115 rfl rfl ?_
      refine Ret.mono q ?_
      rintro _ w46 ⟨rfl, hs⟩
      have hS12 := hS11.add hs
      refine LW.nil ⟨rfl, (.w (by kernel_rfl) (.c (St.cell (h := hS12) (i := 1) rfl) Kept.n)), ?_⟩
      replace ⟨y47, hy47, h⟩ := obind h
      have q := W_i_sumOf (w0 := w46) hy47
      refine AW.one (i := 3) (by kernel_rfl) ?_
      refine ⟨_, rfl, ?_⟩
      refine LW.call pl114 rfl rfl ?_
      refine Ret.mono q ?_
      rintro _ w48 ⟨rfl, hs⟩
      have hS13 := hS12.add hs
      refine LW.nil ⟨rfl, (.c (St.cell (h := hS13) (i := 0) rfl) (.w (by kernel_rfl) Kept.n)), ?_⟩
      refine AW.one (i := 4) (by kernel_rfl) ?_
      refine ⟨_, rfl, ?_⟩
      refine LW.st hS13 1 fun w49 hS14 => ?_
      refine LW.nil ⟨rfl, (.w (by kernel_rfl) (.w (by kernel_rfl) Kept.n)), ?_⟩
      refine AW.done (by kernel_rfl) ?_
      refine go ?_
      cases oi h
      exact ⟨rfl, ⟨⟨rfl, rfl, rfl, rfl, rfl, trivial⟩, hS14.pick [1, 2] rfl rfl⟩⟩
    replace h := bcF h hc14
    refine go ?_
    cases oi h
    exact ⟨trivial, rfl, ⟨⟨rfl, rfl, trivial⟩, hS8.pick [0, 1] rfl rfl⟩⟩
  intro x e w52 hM
  obtain ⟨rfl, hM⟩ := hM
  obtain ⟨hE, hS15⟩ := hM
  obtain ⟨e, rfl⟩ := hE.out
  have h := h51
  refine go ?_
  refine LW.st hS15 1 fun w53 hS16 => ?_
  refine go ?_
  cases h
  exact And.intro trivial ⟨_, Res.one (resOne.b hS16 1 rfl ag45 rfl rfl), rfl, hS16.pick [] rfl rfl⟩

theorem W_i_BootSum {w0 : World} {N : Nat} {x0 : List DBoot} {r : DAmt} (h : F_i_BootSum N x0 = some r) {a0_0 : Option Addr} {n0_0 c0_0 : Nat} (hn0_0 : n0_0 = x0.length) (hr0_0 : rdS (Bor w0 []) w0 a0_0 c0_0 x0) :
    Ret Tryz.prog 72 #[.slice a0_0 n0_0 c0_0] w0 (fun v w => v = .agg #[.int .i64 r.pages, .int .i64 r.rent, .int .i64 r.cpu] ∧ St w0 [] w []) := by
  subst hn0_0
  unfold F_i_BootSum at h
  refine Ret.fn Tryz.func72 fun e => ?_
  have hS1 := St.start w0
  refine go ?_
  refine LW.al hS1 fun g1 w2 hS2 => ?_
  refine go ?_
  refine LW.u (Pur.build (vs := []) (cs := #[.int .i64 0, .int .i64 0, .int .i64 0]) rfl (by kernel_rfl)) rfl ?_
  refine LW.al hS2 fun g3 w4 hS3 => ?_
  refine LW.st hS3 0 fun w5 hS4 => ?_
  refine go ?_
  replace ⟨y6, hy6, h⟩ := obind h
  refine LW.c0 (W_i_BootOk hy6 rfl (hS4.rB hr0_0)) hS4 fun w7 hS5 => ?_
  refine go ?_
  refine CW.cond rfl (fun hc8 => ?_) (fun hc8 => ?_)
  · replace h := bcT h hc8
    refine go ?_
    refine LW.st hS5 1 fun w9 hS6 => ?_
    refine go ?_
    cases h
    exact And.intro trivial ⟨_, Res.one (resOne.b hS6 1 rfl ag45 rfl rfl), rfl, hS6.pick [] rfl rfl⟩
  replace h := bcF h hc8
  refine go ?_
  obtain ⟨o34, ho34, h35⟩ := obind h
  refine CW.mono (CW.iter (σ := Int × Int × Int × Int) (ρ := Int × Int × Int × Int) (fun s10 e wb => En e [(2, .pointer (some ⟨g1, 0, none⟩)), (3, .pointer (some ⟨g3, 0, none⟩)), (11, .slice a0_0 x0.length c0_0), (12, .int .i64 (x0.length : Int)), (13, .int .i64 s10.1)] ∧ St w0 [] wb [bx g3 45 [.int .i64 s10.2.1, .int .i64 s10.2.2.1, .int .i64 s10.2.2.2], bx g1 45 [.int .i64 0, .int .i64 0, .int .i64 0]]) (fun s10 x e wb => x = .exit 0 ∧ En e [(2, .pointer (some ⟨g1, 0, none⟩)), (3, .pointer (some ⟨g3, 0, none⟩))] ∧ St w0 [] wb [bx g3 45 [.int .i64 s10.2.1, .int .i64 s10.2.2.1, .int .i64 s10.2.2.2], bx g1 45 [.int .i64 0, .int .i64 0, .int .i64 0]]) ?_ N (0, 0, 0, 0) _ _ _ ⟨⟨rfl, rfl, rfl, rfl, rfl, trivial⟩, hS5.pick [0, 1] rfl rfl⟩ ho34) ?_
  · intro s10 e w11 o hM h
    obtain ⟨hE, hS7⟩ := hM
    obtain ⟨e, rfl⟩ := hE.out
    refine go ?_
    refine CW.cond rfl (fun hc12 => ?_) (fun hc12 => ?_)
    · replace h := bcT h hc12
      refine go ?_
      replace ⟨y13, hy13, h⟩ := obind h
      obtain ⟨b16, o17, cs18, hae, hb21, hp14, hq15, hd19, hk20⟩ := hr0_0.idx hy13
      subst hae
      obtain ⟨a22, c23, a25, c26, rfl, hr24, hr27⟩ := hd19
      refine LW.u (Pur.ix Tryz.underlying68 sz114 rfl rfl hp14 hq15) rfl ?_
      refine LW.l (Ldr.oldN w0 ag114 rfl rfl (fun j u hu => hk20 j u hu)) (hS7.same _ hb21.1 hb21.2) rfl ?_
      refine LW.al hS7 fun g28 w29 hS8 => ?_
      refine LW.st hS8 0 fun w30 hS9 => ?_
      refine go ?_
      replace ⟨y31, hy31, h⟩ := obind h
      refine LW.c0 (W_i_sumOf hy31) hS9 fun w32 hS10 => ?_
      refine LW.st hS10 1 fun w33 hS11 => ?_
      refine go ?_
      cases oi h
      exact ⟨rfl, ⟨⟨rfl, rfl, rfl, rfl, rfl, trivial⟩, hS11.pick [1, 2] rfl rfl⟩⟩
    replace h := bcF h hc12
    refine go ?_
    cases oi h
    exact ⟨trivial, rfl, ⟨⟨rfl, rfl, trivial⟩, hS7.pick [0, 1] rfl rfl⟩⟩
  intro x e w36 hM
  obtain ⟨rfl, hM⟩ := hM
  obtain ⟨hE, hS12⟩ := hM
  obtain ⟨e, rfl⟩ := hE.out
  have h := h35
  refine go ?_
  refine LW.st hS12 1 fun w37 hS13 => ?_
  refine go ?_
  cases h
  exact And.intro trivial ⟨_, Res.one (resOne.b hS13 1 rfl ag45 rfl rfl), rfl, hS13.pick [] rfl rfl⟩

theorem W_i_Conserved {w0 : World} {N : Nat} {x0 : List DBoot} {x1 : DWorld} {r : Bool} (h : F_i_Conserved N x0 x1 = some r) {a0_0 : Option Addr} {n0_0 c0_0 : Nat} (hn0_0 : n0_0 = x0.length) (hr0_0 : rdS (Bor w0 []) w0 a0_0 c0_0 x0) {a1_1 : Option Addr} {n1_1 c1_1 : Nat} (hn1_1 : n1_1 = x1.parts.length) (hr1_1 : rdS (Bor w0 []) w0 a1_1 c1_1 x1.parts) :
    Ret Tryz.prog 25 #[.slice a0_0 n0_0 c0_0, .agg #[.int .i64 x1.now, .slice a1_1 n1_1 c1_1]] w0 (fun v w => v = .bool r ∧ St w0 [] w []) := by
  subst hn0_0 hn1_1
  unfold F_i_Conserved at h
  refine Ret.fn Tryz.func25 fun e => ?_
  have hS1 := St.start w0
  refine go ?_
  refine LW.bo hS1 fun g1 w2 hS2 => ?_
  refine go ?_
  replace ⟨y3, hy3, h⟩ := obind h
  refine LW.c0 (W_i_BootOk hy3 rfl (hS2.rB hr0_0)) hS2 fun w4 hS3 => ?_
  refine go ?_
  rcases bcases y3 with hc5 | hc5
  · replace h := bcT h hc5
    refine go ?_
    replace ⟨y6, hy6, h⟩ := obind h
    refine go ?_
    refine LW.c0 (W_i_WorldOk hy6 rfl (hS3.rB hr1_1)) hS3 fun w7 hS4 => ?_
    refine go ?_
    rcases bcases y6 with hc8 | hc8
    · replace h := bcT h hc8
      refine go ?_
      replace ⟨y9, hy9, h⟩ := obind h
      refine go ?_
      refine LW.c0 (W_i_WorldSum hy9 rfl (hS4.rB hr1_1)) hS4 fun w10 hS5 => ?_
      refine go ?_
      replace ⟨y11, hy11, h⟩ := obind h
      refine go ?_
      refine LW.c0 (W_i_BootSum hy11 rfl (hS5.rB hr0_0)) hS5 fun w12 hS6 => ?_
      refine go ?_
      refine LW.u (Pur.aeq eg45 rfl rfl (fun w => eq45 y9 y11 w)) rfl ?_
      refine go ?_
      cases h
      exact And.intro trivial ⟨_, Res.one (resOne.t rfl), rfl, hS6.pick [] rfl rfl⟩
    replace h := bcF h hc8
    refine go ?_
    cases h
    exact And.intro trivial ⟨_, Res.one (resOne.t rfl), rfl, hS4.pick [] rfl rfl⟩
  replace h := bcF h hc5
  refine go ?_
  cases h
  exact And.intro trivial ⟨_, Res.one (resOne.t rfl), rfl, hS3.pick [] rfl rfl⟩

theorem W_l_FnExactConserved {w0 : World} {N : Nat} {x0 : List DBoot} {x1 : DWorld} {r : Bool} (h : F_l_FnExactConserved N x0 x1 = some r) {a0_0 : Option Addr} {n0_0 c0_0 : Nat} (hn0_0 : n0_0 = x0.length) (hr0_0 : rdS (Bor w0 []) w0 a0_0 c0_0 x0) {a1_1 : Option Addr} {n1_1 c1_1 : Nat} (hn1_1 : n1_1 = x1.parts.length) (hr1_1 : rdS (Bor w0 []) w0 a1_1 c1_1 x1.parts) :
    Ret Tryz.prog 5 #[.slice a0_0 n0_0 c0_0, .agg #[.int .i64 x1.now, .slice a1_1 n1_1 c1_1]] w0 (fun v w => v = .bool r ∧ St w0 [] w []) := by
  subst hn0_0 hn1_1
  unfold F_l_FnExactConserved at h
  refine Ret.fn Tryz.func5 fun e => ?_
  have hS1 := St.start w0
  refine go ?_
  refine LW.bo hS1 fun g1 w2 hS2 => ?_
  refine go ?_
  replace ⟨y3, hy3, h⟩ := obind h
  refine LW.c0 (W_l_szPartBootS hy3 rfl (hS2.rB hr0_0)) hS2 fun w4 hS3 => ?_
  refine go ?_
  refine CW.cond rfl (fun hc5 => ?_) (fun hc5 => ?_)
  · replace h := bcT h hc5
    refine go ?_
    cases h
    exact And.intro trivial ⟨_, Res.one (resOne.t rfl), rfl, hS3.pick [] rfl rfl⟩
  replace h := bcF h hc5
  refine go ?_
  replace ⟨y6, hy6, h⟩ := obind h
  refine LW.c0 (W_l_szWorld hy6 rfl (hS3.rB hr1_1)) hS3 fun w7 hS4 => ?_
  refine go ?_
  refine CW.fl [0, 3, 19] fun e => ?_
  refine CW.cond rfl (fun hc8 => ?_) (fun hc8 => ?_)
  · replace h := bcT h hc8
    refine go ?_
    cases h
    exact And.intro trivial ⟨_, Res.one (resOne.t rfl), rfl, hS4.pick [] rfl rfl⟩
  replace h := bcF h hc8
  refine go ?_
  refine CW.draw (by kernel_rfl) ?_
  have hS5 := hS4.drew
  refine AW.u (i := 0) rfl (by kernel_rfl) rfl rfl (Pur.p rfl) ?_
  refine AW.take (i := 2) rfl (by kernel_rfl) rfl rfl (Ldr.boxN (bt := 56) (fr := (0, 0)) (cs := [.int .i64 x1.now, .slice a1_1 x1.parts.length c1_1]) ag56 rfl rfl) (St.cell (h := hS5) (i := 0) rfl) ?_
  replace ⟨y9, hy9, h⟩ := obind h
  have q := W_l_toPartBootS (w0 := w7.drew) hy9 rfl (hS5.rB hr0_0)
  refine AW.one (i := 1) (by kernel_rfl) ?_
  refine ⟨_, rfl, ?_⟩
  refine LW.call pl24 rfl rfl ?_
  refine Ret.mono q ?_
  rintro _ w12 ⟨a10, c11, rfl, hs⟩
  have hS6 := hS5.add hs
  refine LW.nil ⟨rfl, (.c (St.cell (h := hS6) (i := 1) rfl) Kept.n), ?_⟩
  replace ⟨y13, hy13, h⟩ := obind h
  have q := W_l_toWorld (w0 := w12) hy13 rfl (hS6.rB hr1_1)
  refine AW.one (i := 3) (by kernel_rfl) ?_
  refine ⟨_, rfl, ?_⟩
  refine LW.call pl19 rfl rfl ?_
  refine Ret.mono q ?_
  rintro _ w16 ⟨a14, c15, rfl, hs⟩
  have hS7 := hS6.add hs
  refine LW.nil ⟨rfl, (.w (by kernel_rfl) Kept.n), ?_⟩
  replace ⟨y17, hy17, h⟩ := obind h
  have q := W_s_Conserved (w0 := w16) hy17 rfl (hS7.rI 1 rfl) rfl (hS7.rI 0 rfl)
  refine AW.one (i := 4) (by kernel_rfl) ?_
  refine ⟨_, rfl, ?_⟩
  refine LW.call pl23 rfl rfl ?_
  refine Ret.mono q ?_
  rintro _ w18 ⟨rfl, hs⟩
  have hS8 := hS7.add hs
  refine LW.nil ⟨rfl, (.c (St.cell (h := hS8) (i := 2) rfl) Kept.n), ?_⟩
  refine AW.u (i := 5) rfl (by kernel_rfl) rfl rfl (Pur.p rfl) ?_
  refine AW.done (by kernel_rfl) ?_
  refine go ?_
  replace ⟨y19, hy19, h⟩ := obind h
  refine LW.cl (W_l_toPartBootS hy19 rfl (hS8.rB hr0_0)) ?_
  rintro _ w22 ⟨a20, c21, rfl, hs⟩
  have hS9 := hS8.add hs
  refine go ?_
  replace ⟨y23, hy23, h⟩ := obind h
  refine LW.cl (W_l_toWorld hy23 rfl (hS9.rB hr1_1)) ?_
  rintro _ w26 ⟨a24, c25, rfl, hs⟩
  have hS10 := hS9.add hs
  refine LW.al hS10 fun g27 w28 hS11 => ?_
  refine LW.st hS11 0 fun w29 hS12 => ?_
  refine go ?_
  replace ⟨y30, hy30, h⟩ := obind h
  refine LW.c0 (W_i_Conserved hy30 rfl (hS12.rI 2 rfl) rfl (hS12.rI 1 rfl)) hS12 fun w31 hS13 => ?_
  refine go ?_
  refine LW.u (Pur.bne Tryz.underlying4 rfl rfl) rfl ?_
  refine go ?_
  refine CW.fl [0, 3, 7, 8, 34] fun e => ?_
  refine CW.cond rfl (fun hc32 => ?_) (fun hc32 => ?_)
  · replace h := bcT h hc32
    refine go ?_
    cases h
    exact And.intro trivial ⟨_, Res.one (resOne.t rfl), rfl, hS13.pick [] rfl rfl⟩
  replace h := bcF h hc32
  refine go ?_
  replace ⟨y33, hy33, h⟩ := obind h
  refine LW.cl (W_l_toPartBootS hy33 rfl (hS13.rB hr0_0)) ?_
  rintro _ w36 ⟨a34, c35, rfl, hs⟩
  have hS14 := hS13.add hs
  replace ⟨y37, hy37, h⟩ := obind h
  refine LW.c0 (W_l_eqPartBootS hy37 rfl (hS14.rI 3 rfl) rfl (hS14.rI 0 rfl)) hS14 fun w38 hS15 => ?_
  refine go ?_
  refine CW.cond rfl (fun hc39 => ?_) (fun hc39 => ?_)
  · replace h := bcT h hc39
    refine go ?_
    cases h
    exact And.intro trivial ⟨_, Res.one (resOne.t rfl), rfl, hS15.pick [] rfl rfl⟩
  replace h := bcF h hc39
  refine go ?_
  refine CW.draw (by kernel_rfl) ?_
  have hS16 := hS15.drew
  refine AW.take (i := 0) rfl (by kernel_rfl) rfl rfl (Ldr.boxN (bt := 61) (fr := (0, 0)) (cs := [.int .i64 y23.now, .slice a24 y23.parts.length c25]) ag61 rfl rfl) (St.cell (h := hS16) (i := 1) rfl) ?_
  refine AW.take (i := 1) rfl (by kernel_rfl) rfl rfl (Ldr.boxN (bt := 56) (fr := (0, 0)) (cs := [.int .i64 x1.now, .slice a1_1 x1.parts.length c1_1]) ag56 rfl rfl) (St.cell (h := hS16) (i := 6) rfl) ?_
  replace ⟨y40, hy40, h⟩ := obind h
  have q := W_l_toWorld (w0 := w38.drew) hy40 rfl (hS16.rB hr1_1)
  refine AW.one (i := 2) (by kernel_rfl) ?_
  refine ⟨_, rfl, ?_⟩
  refine LW.call pl19 rfl rfl ?_
  refine Ret.mono q ?_
  rintro _ w43 ⟨a41, c42, rfl, hs⟩
  have hS17 := hS16.add hs
  refine LW.nil ⟨rfl, (.w (by kernel_rfl) (.c (St.cell (h := hS17) (i := 2) rfl) Kept.n)), ?_⟩
  replace ⟨y44, hy44, h⟩ := obind h
  have q := W_l_eqWorld (w0 := w43) hy44 rfl (hS17.rI 3 rfl) rfl (hS17.rI 0 rfl)
  refine AW.one (i := 3) (by kernel_rfl) ?_
  refine ⟨_, rfl, ?_⟩
  refine LW.call pl21 rfl rfl ?_
  refine Ret.mono q ?_
  rintro _ w45 ⟨rfl, hs⟩
  have hS18 := hS17.add hs
  refine LW.nil ⟨rfl, (.c (St.cell (h := hS18) (i := 7) rfl) (.w (by kernel_rfl) Kept.n)), ?_⟩
  refine AW.u (i := 4) rfl (by kernel_rfl) rfl rfl (Pur.p rfl) ?_
  refine AW.done (by kernel_rfl) ?_
  refine go ?_
  refine CW.cond rfl (fun hc46 => ?_) (fun hc46 => ?_)
  · replace h := bcT h hc46
    refine go ?_
    cases h
    exact And.intro trivial ⟨_, Res.one (resOne.t rfl), rfl, hS18.pick [] rfl rfl⟩
  replace h := bcF h hc46
  refine go ?_
  cases h
  exact And.intro trivial ⟨_, Res.one (resOne.t rfl), rfl, hS18.pick [] rfl rfl⟩

end Go.Kx
