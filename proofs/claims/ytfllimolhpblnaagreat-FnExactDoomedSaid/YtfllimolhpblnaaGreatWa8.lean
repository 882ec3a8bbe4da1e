/- Each call returns what the plain function says. Printed by drive.py. -/
import Derived.Test.YtfllimolhpblnaaGreatFa
import Derived.Test.YtfllimolhpblnaaGreatPu
import Derived.Test.YtfllimolhpblnaaGreatWa0
import Derived.Test.YtfllimolhpblnaaGreatWa1
import Derived.Test.YtfllimolhpblnaaGreatWa2
import Derived.Test.YtfllimolhpblnaaGreatWa3
import Derived.Test.YtfllimolhpblnaaGreatWa5
import Derived.Test.YtfllimolhpblnaaGreatWa6
import Derived.Test.YtfllimolhpblnaaGreatWa7
import Derived.Test.YtfllimolhpblnaaGreatWa12
namespace Go.Kx
open Go Go.RowKit Go.Proofs
set_option maxRecDepth 10000
set_option maxHeartbeats 2000000
set_option linter.unusedVariables false
set_option linter.unusedSimpArgs false
theorem W_s_l15Sum {w0 : World} {N : Nat} {x0 : List DPart} {r : DAmt} (h : F_s_l15Sum N x0 = some r) {a0_0 : Option Addr} {n0_0 c0_0 : Nat} (hn0_0 : n0_0 = x0.length) (hr0_0 : rdS (Bor w0 []) w0 a0_0 c0_0 x0) :
    Ret Tryz.prog 109 #[.slice a0_0 n0_0 c0_0] w0 (fun v w => v = .agg #[.int .i64 r.pages, .int .i64 r.rent, .int .i64 r.cpu] ∧ St w0 [] w []) := by
  subst hn0_0
  unfold F_s_l15Sum at h
  refine Ret.fn Tryz.func109 fun e => ?_
  have hS1 := St.start w0
  refine go ?_
  refine LW.al hS1 fun g1 w2 hS2 => ?_
  refine go ?_
  refine LW.u (Pur.build (vs := []) (cs := #[.int .i64 0, .int .i64 0, .int .i64 0]) rfl (by kernel_rfl)) rfl ?_
  refine LW.al hS2 fun g3 w4 hS3 => ?_
  refine LW.st hS3 0 fun w5 hS4 => ?_
  refine go ?_
  obtain ⟨o42, ho42, h43⟩ := obind h
  refine CW.mono (CW.iter (σ := Int × Int × Int × Int) (ρ := Int × Int × Int × Int) (fun s6 e wb => En e [(0, .slice a0_0 x0.length c0_0), (2, .pointer (some ⟨g1, 0, none⟩)), (3, .pointer (some ⟨g3, 0, none⟩)), (4, .int .i64 s6.1)] ∧ St w0 [] wb [bx g3 64 [.int .i64 s6.2.1, .int .i64 s6.2.2.1, .int .i64 s6.2.2.2], bx g1 64 [.int .i64 0, .int .i64 0, .int .i64 0]]) (fun s6 x e wb => x = .exit 0 ∧ En e [(2, .pointer (some ⟨g1, 0, none⟩)), (3, .pointer (some ⟨g3, 0, none⟩))] ∧ St w0 [] wb [bx g3 64 [.int .i64 s6.2.1, .int .i64 s6.2.2.1, .int .i64 s6.2.2.2], bx g1 64 [.int .i64 0, .int .i64 0, .int .i64 0]]) ?_ N (0, 0, 0, 0) _ _ _ ⟨⟨rfl, rfl, rfl, rfl, trivial⟩, hS4.pick [0, 1] rfl rfl⟩ ho42) ?_
  · intro s6 e w7 o hM h
    obtain ⟨hE, hS5⟩ := hM
    obtain ⟨e, rfl⟩ := hE.out
    refine go ?_
    refine CW.cond rfl (fun hc8 => ?_) (fun hc8 => ?_)
    · replace h := bcT h hc8
      refine go ?_
      replace ⟨y9, hy9, h⟩ := obind h
      obtain ⟨b12, o13, cs14, hae, hb17, hp10, hq11, hd15, hk16⟩ := hr0_0.idx hy9
      subst hae
      obtain ⟨a18, c19, a21, c22, a24, c25, a27, c28, a30, c31, a33, c34, rfl, hr20, hr23, hr26, hr29, hr32, hr35⟩ := hd15
      refine LW.u (Pur.ix Tryz.underlying30 sz66 rfl rfl hp10 hq11) rfl ?_
      refine LW.l (Ldr.oldN w0 ag66 rfl rfl (fun j u hu => hk16 j u hu)) (hS5.same _ hb17.1 hb17.2) rfl ?_
      replace ⟨y36, hy36, h⟩ := obind h
      refine LW.c0 (W_s_PartSum hy36 rfl (hS5.rB hr20) rfl (hS5.rB hr23) rfl (hS5.rB hr26) rfl (hS5.rB hr29) rfl (hS5.rB hr32) rfl (hS5.rB hr35)) hS5 fun w37 hS6 => ?_
      refine LW.al hS6 fun g38 w39 hS7 => ?_
      refine LW.st hS7 0 fun w40 hS8 => ?_
      refine go ?_
      refine LW.fl [0, 2, 3, 4, 22, 27, 32] fun e => ?_
      refine LW.u (Pur.build (vs := [(0, .int .i64 (IntKind.i64.wrap (s6.2.1 + y36.pages))), (1, .int .i64 (IntKind.i64.wrap (s6.2.2.1 + y36.rent))), (2, .int .i64 (IntKind.i64.wrap (s6.2.2.2 + y36.cpu)))]) (cs := #[.int .i64 (IntKind.i64.wrap (s6.2.1 + y36.pages)), .int .i64 (IntKind.i64.wrap (s6.2.2.1 + y36.rent)), .int .i64 (IntKind.i64.wrap (s6.2.2.2 + y36.cpu))]) rfl (by kernel_rfl)) rfl ?_
      refine LW.st hS8 1 fun w41 hS9 => ?_
      refine go ?_
      cases oi h
      exact ⟨rfl, ⟨⟨rfl, rfl, rfl, rfl, trivial⟩, hS9.pick [1, 2] rfl rfl⟩⟩
    replace h := bcF h hc8
    refine go ?_
    cases oi h
    exact ⟨trivial, rfl, ⟨⟨rfl, rfl, trivial⟩, hS5.pick [0, 1] rfl rfl⟩⟩
  intro x e w44 hM
  obtain ⟨rfl, hM⟩ := hM
  obtain ⟨hE, hS10⟩ := hM
  obtain ⟨e, rfl⟩ := hE.out
  have h := h43
  refine go ?_
  refine LW.st hS10 1 fun w45 hS11 => ?_
  refine go ?_
  cases h
  exact And.intro trivial ⟨_, Res.one (resOne.b hS11 1 rfl ag64 rfl rfl), rfl, hS11.pick [] rfl rfl⟩

theorem W_i_PartSum {w0 : World} {N : Nat} {x0 : DPart} {r : DAmt} (h : F_i_PartSum N x0 = some r) {a0_0 : Option Addr} {n0_0 c0_0 : Nat} (hn0_0 : n0_0 = x0.label.levels.length) (hr0_0 : rdS (Bor w0 []) w0 a0_0 c0_0 x0.label.levels) {a0_1 : Option Addr} {n0_1 c0_1 : Nat} (hn0_1 : n0_1 = x0.own.length) (hr0_1 : rdS (Bor w0 []) w0 a0_1 c0_1 x0.own) {a0_2 : Option Addr} {n0_2 c0_2 : Nat} (hn0_2 : n0_2 = x0.tree.length) (hr0_2 : rdS (Bor w0 []) w0 a0_2 c0_2 x0.tree) {a0_3 : Option Addr} {n0_3 c0_3 : Nat} (hn0_3 : n0_3 = x0.heap.arena.length) (hr0_3 : rdS (Bor w0 []) w0 a0_3 c0_3 x0.heap.arena) {a0_7 : Option Addr} {n0_7 c0_7 : Nat} (hn0_7 : n0_7 = x0.heap.gc.grey.length) (hr0_7 : rdS (Bor w0 []) w0 a0_7 c0_7 x0.heap.gc.grey) {a0_8 : Option Addr} {n0_8 c0_8 : Nat} (hn0_8 : n0_8 = x0.taps.length) (hr0_8 : rdS (Bor w0 []) w0 a0_8 c0_8 x0.taps) :
    Ret Tryz.prog 113 #[.agg #[.slice a0_0 n0_0 c0_0, .slice a0_1 n0_1 c0_1, .slice a0_2 n0_2 c0_2, .slice a0_3 n0_3 c0_3, .int .i64 x0.heap.gc.phase, .int .i64 x0.heap.gc.pos, .int .i64 x0.heap.gc.round, .slice a0_7 n0_7 c0_7, .slice a0_8 n0_8 c0_8, .int .i64 x0.next, .int .i64 x0.want, .int .i64 x0.spent.pages, .int .i64 x0.spent.rent, .int .i64 x0.spent.cpu, .int .i64 x0.press, .int .i64 x0.lost]] w0 (fun v w => v = .agg #[.int .i64 r.pages, .int .i64 r.rent, .int .i64 r.cpu] ∧ St w0 [] w []) := by
  subst hn0_0 hn0_1 hn0_2 hn0_3 hn0_7 hn0_8
  unfold F_i_PartSum at h
  refine Ret.fn Tryz.func113 fun e => ?_
  have hS1 := St.start w0
  refine go ?_
  refine LW.bo hS1 fun g1 w2 hS2 => ?_
  refine LW.al hS2 fun g3 w4 hS3 => ?_
  refine go ?_
  replace ⟨y5, hy5, h⟩ := obind h
  refine LW.c0 (W_i_TreeSum hy5 rfl (hS3.rB hr0_2)) hS3 fun w6 hS4 => ?_
  refine LW.al hS4 fun g7 w8 hS5 => ?_
  refine LW.st hS5 0 fun w9 hS6 => ?_
  refine go ?_
  replace ⟨y10, hy10, h⟩ := obind h
  refine LW.c0 (W_i_AmtOk hy10) hS6 fun w11 hS7 => ?_
  refine go ?_
  refine CW.cond rfl (fun hc12 => ?_) (fun hc12 => ?_)
  · replace h := bcT h hc12
    refine go ?_
    refine LW.st hS7 1 fun w13 hS8 => ?_
    refine go ?_
    cases h
    exact And.intro trivial ⟨_, Res.one (resOne.b hS8 1 rfl ag64 rfl rfl), rfl, hS8.pick [] rfl rfl⟩
  replace h := bcF h hc12
  refine go ?_
  refine CW.draw (by kernel_rfl) ?_
  have hS9 := hS7.drew
  refine AW.u (i := 0) rfl (by kernel_rfl) rfl rfl (Pur.fa fo64_0 rfl) ?_
  refine AW.take (i := 1) rfl (by kernel_rfl) rfl rfl (Ldr.box (bt := 64) (fr := (0, 0)) (cs := [.int .i64 y5.pages, .int .i64 y5.rent, .int .i64 y5.cpu]) ag3 rfl rfl) (St.cell (h := hS9) (i := 0) rfl) ?_
  refine AW.take (i := 2) rfl (by kernel_rfl) rfl rfl (Ldr.boxN (bt := 66) (fr := (0, 0)) (cs := [.slice a0_0 x0.label.levels.length c0_0, .slice a0_1 x0.own.length c0_1, .slice a0_2 x0.tree.length c0_2, .slice a0_3 x0.heap.arena.length c0_3, .int .i64 x0.heap.gc.phase, .int .i64 x0.heap.gc.pos, .int .i64 x0.heap.gc.round, .slice a0_7 x0.heap.gc.grey.length c0_7, .slice a0_8 x0.taps.length c0_8, .int .i64 x0.next, .int .i64 x0.want, .int .i64 x0.spent.pages, .int .i64 x0.spent.rent, .int .i64 x0.spent.cpu, .int .i64 x0.press, .int .i64 x0.lost]) ag66 rfl rfl) (St.cell (h := hS9) (i := 2) rfl) ?_
  replace ⟨y14, hy14, h⟩ := obind h
  have q := W_i_Held (w0 := w11.drew) hy14 rfl (hS9.rB hr0_0) rfl (hS9.rB hr0_1) rfl (hS9.rB hr0_2) rfl (hS9.rB hr0_3) rfl (hS9.rB hr0_7) rfl (hS9.rB hr0_8)
  refine AW.one (i := 3) (by kernel_rfl) ?_
  refine ⟨_, rfl, ?_⟩
  refine LW.call pl184 rfl rfl ?_
  refine Ret.mono q ?_
  rintro _ w15 ⟨rfl, hs⟩
  have hS10 := hS9.add hs
  refine LW.nil ⟨rfl, (.w (by kernel_rfl) (.c (St.cell (h := hS10) (i := 0) rfl) Kept.n)), ?_⟩
  refine AW.u (i := 4) rfl (by kernel_rfl) rfl rfl (Pur.p rfl) ?_
  refine AW.u (i := 5) rfl (by kernel_rfl) rfl rfl (Pur.fa fo64_0 rfl) ?_
  refine AW.one (i := 6) (by kernel_rfl) ?_
  refine ⟨_, rfl, ?_⟩
  refine LW.st hS10 0 fun w16 hS11 => ?_
  refine LW.nil ⟨rfl, (.w (by kernel_rfl) (.w (by kernel_rfl) Kept.n)), ?_⟩
  refine AW.done (by kernel_rfl) ?_
  refine go ?_
  replace ⟨y17, hy17, h⟩ := obind h
  refine LW.c0 (W_i_sumOf hy17) hS11 fun w18 hS12 => ?_
  refine LW.st hS12 1 fun w19 hS13 => ?_
  refine go ?_
  cases h
  exact And.intro trivial ⟨_, Res.one (resOne.b hS13 1 rfl ag64 rfl rfl), rfl, hS13.pick [] rfl rfl⟩

theorem W_l_eqPartS {w0 : World} {N : Nat} {x0 : List DPart} {x1 : List DPart} {r : Bool} (h : F_l_eqPartS N x0 x1 = some r) {a0_0 : Option Addr} {n0_0 c0_0 : Nat} (hn0_0 : n0_0 = x0.length) (hr0_0 : rdS (Bor w0 []) w0 a0_0 c0_0 x0) {a1_0 : Option Addr} {n1_0 c1_0 : Nat} (hn1_0 : n1_0 = x1.length) (hr1_0 : rdS (Bor w0 []) w0 a1_0 c1_0 x1) :
    Ret Tryz.prog 48 #[.slice a0_0 n0_0 c0_0, .slice a1_0 n1_0 c1_0] w0 (fun v w => v = .bool r ∧ St w0 [] w []) := by
  subst hn0_0 hn1_0
  unfold F_l_eqPartS at h
  refine Ret.fn Tryz.func48 fun e => ?_
  have hS1 := St.start w0
  refine go ?_
  refine CW.cond rfl (fun hc1 => ?_) (fun hc1 => ?_)
  · replace h := bcT h hc1
    refine go ?_
    cases h
    exact And.intro trivial ⟨_, Res.one (resOne.t rfl), rfl, hS1.pick [] rfl rfl⟩
  replace h := bcF h hc1
  refine go ?_
  obtain ⟨o62, ho62, h63⟩ := obind h
  refine CW.mono (CW.iter (σ := Int) (ρ := Int ⊕ Bool) (fun s2 e wb => En e [(0, .slice a0_0 x0.length c0_0), (1, .slice a1_0 x1.length c1_0), (5, .int .i64 s2)] ∧ St w0 [] wb []) (fun o x e wb => match o with | .inl s2 => x = .exit 0 ∧ En e [] ∧ St w0 [] wb [] | .inr r => x = .ret ∧ ∃ u, u = r ∧ ∃ v, Res Tryz.prog Tryz.f48.results e wb v ∧ v = .bool u ∧ St w0 [] wb []) ?_ N 0 _ _ _ ⟨⟨rfl, rfl, rfl, trivial⟩, hS1.pick [] rfl rfl⟩ ho62) ?_
  · intro s2 e w3 o hM h
    obtain ⟨hE, hS2⟩ := hM
    obtain ⟨e, rfl⟩ := hE.out
    refine go ?_
    refine CW.cond rfl (fun hc4 => ?_) (fun hc4 => ?_)
    · replace h := bcT h hc4
      refine go ?_
      refine CW.draw (by kernel_rfl) ?_
      have hS3 := hS2.drew
      refine AW.u (i := 0) rfl (by kernel_rfl) rfl rfl (Pur.p rfl) ?_
      refine AW.u (i := 1) rfl (by kernel_rfl) rfl rfl (Pur.p rfl) ?_
      replace ⟨y5, hy5, h⟩ := obind h
      obtain ⟨b8, o9, cs10, hae, hb13, hp6, hq7, hd11, hk12⟩ := hr0_0.idx hy5
      subst hae
      obtain ⟨a14, c15, a17, c18, a20, c21, a23, c24, a26, c27, a29, c30, rfl, hr16, hr19, hr22, hr25, hr28, hr31⟩ := hd11
      refine AW.u (i := 2) rfl (by kernel_rfl) rfl rfl (Pur.ix Tryz.underlying30 sz66 rfl rfl hp6 hq7) ?_
      refine AW.take (i := 3) rfl (by kernel_rfl) rfl rfl (Ldr.oldN w0 ag66 rfl rfl (fun j u hu => hk12 j u hu)) (hS3.same _ hb13.1 hb13.2) ?_
      refine AW.u (i := 4) rfl (by kernel_rfl) rfl rfl (Pur.p rfl) ?_
      refine AW.u (i := 5) rfl (by kernel_rfl) rfl rfl (Pur.p rfl) ?_
      replace ⟨y32, hy32, h⟩ := obind h
      obtain ⟨b35, o36, cs37, hae, hb40, hp33, hq34, hd38, hk39⟩ := hr1_0.idx hy32
      subst hae
      obtain ⟨a41, c42, a44, c45, a47, c48, a50, c51, a53, c54, a56, c57, rfl, hr43, hr46, hr49, hr52, hr55, hr58⟩ := hd38
      refine AW.u (i := 6) rfl (by kernel_rfl) rfl rfl (Pur.ix Tryz.underlying30 sz66 rfl rfl hp33 hq34) ?_
      refine AW.take (i := 7) rfl (by kernel_rfl) rfl rfl (Ldr.oldN w0 ag66 rfl rfl (fun j u hu => hk39 j u hu)) (hS3.same _ hb40.1 hb40.2) ?_
      replace ⟨y59, hy59, h⟩ := obind h
      have q := W_l_eqPart (w0 := w3.drew) hy59 rfl (hS3.rB hr16) rfl (hS3.rB hr19) rfl (hS3.rB hr22) rfl (hS3.rB hr25) rfl (hS3.rB hr28) rfl (hS3.rB hr31) rfl (hS3.rB hr43) rfl (hS3.rB hr46) rfl (hS3.rB hr49) rfl (hS3.rB hr52) rfl (hS3.rB hr55) rfl (hS3.rB hr58)
      refine AW.one (i := 8) (by kernel_rfl) ?_
      refine ⟨_, rfl, ?_⟩
      refine LW.call pl26 rfl rfl ?_
      refine Ret.mono q ?_
      rintro _ w60 ⟨rfl, hs⟩
      have hS4 := hS3.add hs
      refine LW.nil ⟨rfl, (.w (by kernel_rfl) (.w (by kernel_rfl) Kept.n)), ?_⟩
      refine AW.u (i := 9) rfl (by kernel_rfl) rfl rfl (Pur.p rfl) ?_
      refine AW.done (by kernel_rfl) ?_
      refine go ?_
      refine CW.cond rfl (fun hc61 => ?_) (fun hc61 => ?_)
      · replace h := bcT h hc61
        refine go ?_
        cases oi h
        exact ⟨trivial, rfl, _, rfl, ⟨_, Res.one (resOne.t rfl), rfl, hS4.pick [] rfl rfl⟩⟩
      replace h := bcF h hc61
      refine go ?_
      cases oi h
      exact ⟨rfl, ⟨⟨rfl, rfl, rfl, trivial⟩, hS4.pick [] rfl rfl⟩⟩
    replace h := bcF h hc4
    refine go ?_
    cases oi h
    exact ⟨trivial, rfl, ⟨trivial, hS2.pick [] rfl rfl⟩⟩
  intro x e w64 hM
  rcases o62 with o62 | r65
  · obtain ⟨rfl, hM⟩ := hM
    obtain ⟨hE, hS5⟩ := hM
    obtain ⟨e, rfl⟩ := hE.out; rw [show e = upds e [] from rfl]
    have h := h63
    refine go ?_
    cases h
    exact And.intro trivial ⟨_, Res.one (resOne.t rfl), rfl, hS5.pick [] rfl rfl⟩
  obtain ⟨rfl, u, rfl, hM⟩ := hM
  cases h63
  exact And.intro trivial hM

theorem W_l_toWorld {w0 : World} {N : Nat} {x0 : DWorld} {r : DWorld} (h : F_l_toWorld N x0 = some r) {a0_1 : Option Addr} {n0_1 c0_1 : Nat} (hn0_1 : n0_1 = x0.parts.length) (hr0_1 : rdS (Bor w0 []) w0 a0_1 c0_1 x0.parts) :
    Ret Tryz.prog 12 #[.agg #[.int .i64 x0.now, .slice a0_1 n0_1 c0_1]] w0 (fun v w => ∃ ar0_1 cr0_1, v = .agg #[.int .i64 r.now, .slice ar0_1 r.parts.length cr0_1] ∧ St w0 [] w [sl ar0_1 cr0_1 r.parts]) := by
  subst hn0_1
  unfold F_l_toWorld at h
  refine Ret.fn Tryz.func12 fun e => ?_
  have hS1 := St.start w0
  refine go ?_
  refine LW.bo hS1 fun g1 w2 hS2 => ?_
  refine LW.al hS2 fun g3 w4 hS3 => ?_
  refine go ?_
  refine LW.al hS3 fun g5 w6 hS4 => ?_
  refine go ?_
  refine LW.st hS4 0 fun w7 hS5 => ?_
  refine go ?_
  replace ⟨y8, hy8, h⟩ := obind h
  refine LW.cl (W_l_toPartS hy8 rfl (hS5.rB hr0_1)) ?_
  rintro _ w11 ⟨a9, c10, rfl, hs⟩
  have hS6 := hS5.add hs
  refine go ?_
  refine LW.st hS6 1 fun w12 hS7 => ?_
  refine go ?_
  refine LW.st hS7 2 fun w13 hS8 => ?_
  refine go ?_
  cases h
  exact And.intro trivial ⟨_, Res.one (resOne.b hS8 2 rfl ag32 rfl rfl), a9, c10, rfl, hS8.pick [0] rfl rfl⟩

theorem W_s_WorldOk {w0 : World} {N : Nat} {x0 : DWorld} {r : Bool} (h : F_s_WorldOk N x0 = some r) {a0_1 : Option Addr} {n0_1 c0_1 : Nat} (hn0_1 : n0_1 = x0.parts.length) (hr0_1 : rdS (Bor w0 []) w0 a0_1 c0_1 x0.parts) :
    Ret Tryz.prog 39 #[.agg #[.int .i64 x0.now, .slice a0_1 n0_1 c0_1]] w0 (fun v w => v = .bool r ∧ St w0 [] w []) := by
  subst hn0_1
  unfold F_s_WorldOk at h
  refine Ret.fn Tryz.func39 fun e => ?_
  have hS1 := St.start w0
  refine go ?_
  refine LW.bo hS1 fun g1 w2 hS2 => ?_
  refine gs ?_
  obtain ⟨j3, hj3, h4⟩ := obind h
  refine CW.cut (fun e wb => En e [(1, .pointer (some ⟨g1, 0, none⟩)), (14, .bool j3)] ∧ St w0 [] wb [bx g1 32 [.int .i64 x0.now, .slice a0_1 x0.parts.length c0_1]]) ?_ ?_
  · have h := hj3
    refine go ?_
    replace ⟨y5, hy5, h⟩ := obind h
    refine LW.c0 (W_s_l1In hy5) hS2 fun w6 hS3 => ?_
    refine go ?_
    rcases bcases (!y5) with hc7 | hc7
    · replace h := bcT h hc7
      refine go ?_
      cases oi h
      exact ⟨⟨rfl, rfl, trivial⟩, hS3.pick [0] rfl rfl⟩
    replace h := bcF h hc7
    refine go ?_
    replace ⟨y8, hy8, h⟩ := obind h
    refine go ?_
    refine LW.c0 (W_s_l1In hy8) hS3 fun w9 hS4 => ?_
    refine go ?_
    cases oi h
    exact ⟨⟨rfl, rfl, trivial⟩, hS4.pick [0] rfl rfl⟩
  rintro e w10 ⟨hE, hS5⟩
  obtain ⟨e, rfl⟩ := hE.out
  have h := h4
  refine go ?_
  refine CW.cond rfl (fun hc11 => ?_) (fun hc11 => ?_)
  · replace h := bcT h hc11
    refine go ?_
    cases h
    exact And.intro trivial ⟨_, Res.one (resOne.t rfl), rfl, hS5.pick [] rfl rfl⟩
  replace h := bcF h hc11
  refine go ?_
  obtain ⟨o45, ho45, h46⟩ := obind h
  refine CW.mono (CW.iter (σ := Int) (ρ := Int ⊕ Bool) (fun s12 e wb => En e [(1, .pointer (some ⟨g1, 0, none⟩)), (3, .int .i64 s12)] ∧ St w0 [] wb [bx g1 32 [.int .i64 x0.now, .slice a0_1 x0.parts.length c0_1]]) (fun o x e wb => match o with | .inl s12 => x = .exit 0 ∧ En e [(1, .pointer (some ⟨g1, 0, none⟩))] ∧ St w0 [] wb [bx g1 32 [.int .i64 x0.now, .slice a0_1 x0.parts.length c0_1]] | .inr r => x = .ret ∧ ∃ u, u = r ∧ ∃ v, Res Tryz.prog Tryz.f39.results e wb v ∧ v = .bool u ∧ St w0 [] wb []) ?_ N 0 _ _ _ ⟨⟨rfl, rfl, trivial⟩, hS5.pick [0] rfl rfl⟩ ho45) ?_
  · intro s12 e w13 o hM h
    obtain ⟨hE, hS6⟩ := hM
    obtain ⟨e, rfl⟩ := hE.out
    refine go ?_
    refine CW.cond rfl (fun hc14 => ?_) (fun hc14 => ?_)
    · replace h := bcT h hc14
      refine go ?_
      replace ⟨y15, hy15, h⟩ := obind h
      obtain ⟨b18, o19, cs20, hae, hb23, hp16, hq17, hd21, hk22⟩ := hr0_1.idx hy15
      subst hae
      obtain ⟨a24, c25, a27, c28, a30, c31, a33, c34, a36, c37, a39, c40, rfl, hr26, hr29, hr32, hr35, hr38, hr41⟩ := hd21
      refine LW.u (Pur.ix Tryz.underlying30 sz66 rfl rfl hp16 hq17) rfl ?_
      refine LW.l (Ldr.oldN w0 ag66 rfl rfl (fun j u hu => hk22 j u hu)) (hS6.same _ hb23.1 hb23.2) rfl ?_
      replace ⟨y42, hy42, h⟩ := obind h
      refine LW.c0 (W_s_PartOk hy42 rfl (hS6.rB hr26) rfl (hS6.rB hr29) rfl (hS6.rB hr32) rfl (hS6.rB hr35) rfl (hS6.rB hr38) rfl (hS6.rB hr41)) hS6 fun w43 hS7 => ?_
      refine go ?_
      refine CW.fl [1, 3, 28] fun e => ?_
      refine CW.cond rfl (fun hc44 => ?_) (fun hc44 => ?_)
      · replace h := bcT h hc44
        refine go ?_
        cases oi h
        exact ⟨trivial, rfl, _, rfl, ⟨_, Res.one (resOne.t rfl), rfl, hS7.pick [] rfl rfl⟩⟩
      replace h := bcF h hc44
      refine go ?_
      cases oi h
      exact ⟨rfl, ⟨⟨rfl, rfl, trivial⟩, hS7.pick [0] rfl rfl⟩⟩
    replace h := bcF h hc14
    refine go ?_
    cases oi h
    exact ⟨trivial, rfl, ⟨⟨rfl, trivial⟩, hS6.pick [0] rfl rfl⟩⟩
  intro x e w47 hM
  rcases o45 with o45 | r52
  · obtain ⟨rfl, hM⟩ := hM
    obtain ⟨hE, hS8⟩ := hM
    obtain ⟨e, rfl⟩ := hE.out
    have h := h46
    refine go ?_
    replace ⟨y48, hy48, h⟩ := obind h
    refine LW.c0 (W_s_l15Sum hy48 rfl (hS8.rB hr0_1)) hS8 fun w49 hS9 => ?_
    replace ⟨y50, hy50, h⟩ := obind h
    refine LW.c0 (W_s_AmtOk hy50) hS9 fun w51 hS10 => ?_
    refine go ?_
    cases h
    exact And.intro trivial ⟨_, Res.one (resOne.t rfl), rfl, hS10.pick [] rfl rfl⟩
  obtain ⟨rfl, u, rfl, hM⟩ := hM
  cases h46
  exact And.intro trivial hM

theorem W_i_WorldOk {w0 : World} {N : Nat} {x0 : DWorld} {r : Bool} (h : F_i_WorldOk N x0 = some r) {a0_1 : Option Addr} {n0_1 c0_1 : Nat} (hn0_1 : n0_1 = x0.parts.length) (hr0_1 : rdS (Bor w0 []) w0 a0_1 c0_1 x0.parts) :
    Ret Tryz.prog 44 #[.agg #[.int .i64 x0.now, .slice a0_1 n0_1 c0_1]] w0 (fun v w => v = .bool r ∧ St w0 [] w []) := by
  subst hn0_1
  unfold F_i_WorldOk at h
  refine Ret.fn Tryz.func44 fun e => ?_
  have hS1 := St.start w0
  refine go ?_
  refine LW.bo hS1 fun g1 w2 hS2 => ?_
  refine gs ?_
  obtain ⟨j3, hj3, h4⟩ := obind h
  refine CW.cut (fun e wb => En e [(1, .pointer (some ⟨g1, 0, none⟩)), (16, .bool j3)] ∧ St w0 [] wb [bx g1 32 [.int .i64 x0.now, .slice a0_1 x0.parts.length c0_1]]) ?_ ?_
  · have h := hj3
    refine go ?_
    replace ⟨y5, hy5, h⟩ := obind h
    refine LW.c0 (W_i_isTime hy5) hS2 fun w6 hS3 => ?_
    refine go ?_
    rcases bcases (!y5) with hc7 | hc7
    · replace h := bcT h hc7
      refine go ?_
      cases oi h
      exact ⟨⟨rfl, rfl, trivial⟩, hS3.pick [0] rfl rfl⟩
    replace h := bcF h hc7
    refine go ?_
    replace ⟨y8, hy8, h⟩ := obind h
    refine go ?_
    refine LW.c0 (W_i_within hy8) hS3 fun w9 hS4 => ?_
    refine go ?_
    cases oi h
    exact ⟨⟨rfl, rfl, trivial⟩, hS4.pick [0] rfl rfl⟩
  rintro e w10 ⟨hE, hS5⟩
  obtain ⟨e, rfl⟩ := hE.out
  have h := h4
  refine go ?_
  refine CW.cond rfl (fun hc11 => ?_) (fun hc11 => ?_)
  · replace h := bcT h hc11
    refine go ?_
    cases h
    exact And.intro trivial ⟨_, Res.one (resOne.t rfl), rfl, hS5.pick [] rfl rfl⟩
  replace h := bcF h hc11
  refine go ?_
  refine LW.u (Pur.build (vs := []) (cs := #[.int .i64 0, .int .i64 0, .int .i64 0]) rfl (by kernel_rfl)) rfl ?_
  refine LW.al hS5 fun g12 w13 hS6 => ?_
  refine LW.st hS6 0 fun w14 hS7 => ?_
  refine go ?_
  obtain ⟨o56, ho56, h57⟩ := obind h
  refine CW.mono (CW.iter (σ := Int × Int × Int × Int) (ρ := (Int × Int × Int × Int) ⊕ Bool) (fun s15 e wb => En e [(3, .pointer (some ⟨g12, 0, none⟩)), (19, .slice a0_1 x0.parts.length c0_1), (20, .int .i64 (x0.parts.length : Int)), (21, .int .i64 s15.1)] ∧ St w0 [] wb [bx g12 64 [.int .i64 s15.2.1, .int .i64 s15.2.2.1, .int .i64 s15.2.2.2]]) (fun o x e wb => match o with | .inl s15 => x = .exit 0 ∧ En e [(3, .pointer (some ⟨g12, 0, none⟩))] ∧ St w0 [] wb [bx g12 64 [.int .i64 s15.2.1, .int .i64 s15.2.2.1, .int .i64 s15.2.2.2]] | .inr r => x = .ret ∧ ∃ u, u = r ∧ ∃ v, Res Tryz.prog Tryz.f44.results e wb v ∧ v = .bool u ∧ St w0 [] wb []) ?_ N (0, 0, 0, 0) _ _ _ ⟨⟨rfl, rfl, rfl, rfl, trivial⟩, hS7.pick [0] rfl rfl⟩ ho56) ?_
  · intro s15 e w16 o hM h
    obtain ⟨hE, hS8⟩ := hM
    obtain ⟨e, rfl⟩ := hE.out
    refine go ?_
    refine CW.cond rfl (fun hc17 => ?_) (fun hc17 => ?_)
    · replace h := bcT h hc17
      refine go ?_
      replace ⟨y18, hy18, h⟩ := obind h
      obtain ⟨b21, o22, cs23, hae, hb26, hp19, hq20, hd24, hk25⟩ := hr0_1.idx hy18
      subst hae
      obtain ⟨a27, c28, a30, c31, a33, c34, a36, c37, a39, c40, a42, c43, rfl, hr29, hr32, hr35, hr38, hr41, hr44⟩ := hd24
      refine LW.u (Pur.ix Tryz.underlying30 sz66 rfl rfl hp19 hq20) rfl ?_
      refine LW.l (Ldr.oldN w0 ag66 rfl rfl (fun j u hu => hk25 j u hu)) (hS8.same _ hb26.1 hb26.2) rfl ?_
      refine LW.al hS8 fun g45 w46 hS9 => ?_
      refine LW.st hS9 0 fun w47 hS10 => ?_
      refine go ?_
      replace ⟨y48, hy48, h⟩ := obind h
      refine LW.c0 (W_i_PartOk hy48 rfl (hS10.rB hr29) rfl (hS10.rB hr32) rfl (hS10.rB hr35) rfl (hS10.rB hr38) rfl (hS10.rB hr41) rfl (hS10.rB hr44)) hS10 fun w49 hS11 => ?_
      refine go ?_
      refine CW.fl [3, 5, 19, 20, 21, 27] fun e => ?_
      refine CW.cond rfl (fun hc50 => ?_) (fun hc50 => ?_)
      · replace h := bcT h hc50
        refine go ?_
        cases oi h
        exact ⟨trivial, rfl, _, rfl, ⟨_, Res.one (resOne.t rfl), rfl, hS11.pick [] rfl rfl⟩⟩
      replace h := bcF h hc50
      refine go ?_
      refine CW.draw (by kernel_rfl) ?_
      have hS12 := hS11.drew
      refine AW.take (i := 0) rfl (by kernel_rfl) rfl rfl (Ldr.boxN (bt := 64) (fr := (0, 0)) (cs := [.int .i64 s15.2.1, .int .i64 s15.2.2.1, .int .i64 s15.2.2.2]) ag64 rfl rfl) (St.cell (h := hS12) (i := 1) rfl) ?_
      refine AW.take (i := 1) rfl (by kernel_rfl) rfl rfl (Ldr.boxN (bt := 66) (fr := (0, 0)) (cs := [.slice a27 y18.label.levels.length c28, .slice a30 y18.own.length c31, .slice a33 y18.tree.length c34, .slice a36 y18.heap.arena.length c37, .int .i64 y18.heap.gc.phase, .int .i64 y18.heap.gc.pos, .int .i64 y18.heap.gc.round, .slice a39 y18.heap.gc.grey.length c40, .slice a42 y18.taps.length c43, .int .i64 y18.next, .int .i64 y18.want, .int .i64 y18.spent.pages, .int .i64 y18.spent.rent, .int .i64 y18.spent.cpu, .int .i64 y18.press, .int .i64 y18.lost]) ag66 rfl rfl) (St.cell (h := hS12) (i := 0) rfl) ?_
      replace ⟨y51, hy51, h⟩ := obind h
      have q := W_i_PartSum (w0 := w49.drew) hy51 rfl (hS12.rB hr29) rfl (hS12.rB hr32) rfl (hS12.rB hr35) rfl (hS12.rB hr38) rfl (hS12.rB hr41) rfl (hS12.rB hr44)
      refine AW.one (i := 2) (by kernel_rfl) ?_
      refine ⟨_, rfl, ?_⟩
      refine LW.call pl113 rfl rfl ?_
      refine Ret.mono q ?_
      rintro _ w52 ⟨rfl, hs⟩
      have hS13 := hS12.add hs
      refine LW.nil ⟨rfl, (.w (by kernel_rfl) (.c (St.cell (h := hS13) (i := 1) rfl) Kept.n)), ?_⟩
      replace ⟨y53, hy53, h⟩ := obind h
      have q := W_i_sumOf (w0 := w52) hy53
      refine AW.one (i := 3) (by kernel_rfl) ?_
      refine ⟨_, rfl, ?_⟩
      refine LW.call pl97 rfl rfl ?_
      refine Ret.mono q ?_
      rintro _ w54 ⟨rfl, hs⟩
      have hS14 := hS13.add hs
      refine LW.nil ⟨rfl, (.c (St.cell (h := hS14) (i := 0) rfl) (.w (by kernel_rfl) Kept.n)), ?_⟩
      refine AW.one (i := 4) (by kernel_rfl) ?_
      refine ⟨_, rfl, ?_⟩
      refine LW.st hS14 1 fun w55 hS15 => ?_
      refine LW.nil ⟨rfl, (.w (by kernel_rfl) (.w (by kernel_rfl) Kept.n)), ?_⟩
      refine AW.done (by kernel_rfl) ?_
      refine go ?_
      cases oi h
      exact ⟨rfl, ⟨⟨rfl, rfl, rfl, rfl, trivial⟩, hS15.pick [1] rfl rfl⟩⟩
    replace h := bcF h hc17
    refine go ?_
    cases oi h
    exact ⟨trivial, rfl, ⟨⟨rfl, trivial⟩, hS8.pick [0] rfl rfl⟩⟩
  intro x e w58 hM
  rcases o56 with o56 | r61
  · obtain ⟨rfl, hM⟩ := hM
    obtain ⟨hE, hS16⟩ := hM
    obtain ⟨e, rfl⟩ := hE.out
    have h := h57
    refine go ?_
    replace ⟨y59, hy59, h⟩ := obind h
    refine LW.c0 (W_i_AmtOk hy59) hS16 fun w60 hS17 => ?_
    refine go ?_
    cases h
    exact And.intro trivial ⟨_, Res.one (resOne.t rfl), rfl, hS17.pick [] rfl rfl⟩
  obtain ⟨rfl, u, rfl, hM⟩ := hM
  cases h57
  exact And.intro trivial hM

theorem W_l_eqWorld {w0 : World} {N : Nat} {x0 : DWorld} {x1 : DWorld} {r : Bool} (h : F_l_eqWorld N x0 x1 = some r) {a0_1 : Option Addr} {n0_1 c0_1 : Nat} (hn0_1 : n0_1 = x0.parts.length) (hr0_1 : rdS (Bor w0 []) w0 a0_1 c0_1 x0.parts) {a1_1 : Option Addr} {n1_1 c1_1 : Nat} (hn1_1 : n1_1 = x1.parts.length) (hr1_1 : rdS (Bor w0 []) w0 a1_1 c1_1 x1.parts) :
    Ret Tryz.prog 16 #[.agg #[.int .i64 x0.now, .slice a0_1 n0_1 c0_1], .agg #[.int .i64 x1.now, .slice a1_1 n1_1 c1_1]] w0 (fun v w => v = .bool r ∧ St w0 [] w []) := by
  subst hn0_1 hn1_1
  unfold F_l_eqWorld at h
  refine Ret.fn Tryz.func16 fun e => ?_
  have hS1 := St.start w0
  refine go ?_
  refine LW.bo hS1 fun g1 w2 hS2 => ?_
  refine LW.bo hS2 fun g3 w4 hS3 => ?_
  refine go ?_
  refine CW.cond rfl (fun hc5 => ?_) (fun hc5 => ?_)
  · replace h := bcT h hc5
    refine go ?_
    cases h
    exact And.intro trivial ⟨_, Res.one (resOne.t rfl), rfl, hS3.pick [] rfl rfl⟩
  replace h := bcF h hc5
  refine go ?_
  replace ⟨y6, hy6, h⟩ := obind h
  refine LW.c0 (W_l_eqPartS hy6 rfl (hS3.rB hr0_1) rfl (hS3.rB hr1_1)) hS3 fun w7 hS4 => ?_
  refine go ?_
  refine CW.fl [15] fun e => ?_
  refine CW.cond rfl (fun hc8 => ?_) (fun hc8 => ?_)
  · replace h := bcT h hc8
    refine go ?_
    cases h
    exact And.intro trivial ⟨_, Res.one (resOne.t rfl), rfl, hS4.pick [] rfl rfl⟩
  replace h := bcF h hc8
  refine go ?_
  cases h
  exact And.intro trivial ⟨_, Res.one (resOne.t rfl), rfl, hS4.pick [] rfl rfl⟩

end Go.Kx
