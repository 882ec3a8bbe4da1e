/- Each call returns what the plain function says. Printed by drive.py. -/
import Derived.Test.YtfllimolhpblnaaGreatFa
import Derived.Test.YtfllimolhpblnaaGreatPu
import Derived.Test.YtfllimolhpblnaaGreatWa0
import Derived.Test.YtfllimolhpblnaaGreatWa1
import Derived.Test.YtfllimolhpblnaaGreatWa8
import Derived.Test.YtfllimolhpblnaaGreatWa11
namespace Go.Kx
open Go Go.RowKit Go.Proofs
set_option maxRecDepth 10000
set_option maxHeartbeats 2000000
set_option linter.unusedVariables false
set_option linter.unusedSimpArgs false
theorem W_l_toCall {w0 : World} {N : Nat} {x0 : DCall} {r : DCall} (h : F_l_toCall N x0 = some r) :
    Ret Tryz.prog 13 #[.agg #[.int .i64 x0.kind, .int .i64 x0.a, .int .i64 x0.b, .int .i64 x0.c, .int .i64 x0.d, .int .i64 x0.e]] w0 (fun v w => v = .agg #[.int .i64 r.kind, .int .i64 r.a, .int .i64 r.b, .int .i64 r.c, .int .i64 r.d, .int .i64 r.e] ∧ St w0 [] w []) := by
  unfold F_l_toCall at h
  refine Ret.fn Tryz.func13 fun e => ?_
  have hS1 := St.start w0
  refine go ?_
  refine LW.bo hS1 fun g1 w2 hS2 => ?_
  refine LW.al hS2 fun g3 w4 hS3 => ?_
  refine go ?_
  refine LW.al hS3 fun g5 w6 hS4 => ?_
  refine go ?_
  refine LW.st hS4 0 fun w7 hS5 => ?_
  refine go ?_
  refine LW.st hS5 0 fun w8 hS6 => ?_
  refine go ?_
  refine LW.st hS6 0 fun w9 hS7 => ?_
  refine go ?_
  refine LW.st hS7 0 fun w10 hS8 => ?_
  refine go ?_
  refine LW.st hS8 0 fun w11 hS9 => ?_
  refine go ?_
  refine LW.fl [2, 3, 20, 21] fun e => ?_
  refine LW.st hS9 0 fun w12 hS10 => ?_
  refine go ?_
  refine LW.st hS10 1 fun w13 hS11 => ?_
  refine go ?_
  cases h
  exact And.intro trivial ⟨_, Res.one (resOne.b hS11 1 rfl ag34 rfl rfl), rfl, hS11.pick [] rfl rfl⟩

theorem W_i_above {w0 : World} {N : Nat} {x0 : DLabel} {x1 : DLabel} {r : (List Int)} (h : F_i_above N x0 x1 = some r) {a0_0 : Option Addr} {n0_0 c0_0 : Nat} (hn0_0 : n0_0 = x0.levels.length) (hr0_0 : rdS (Bor w0 []) w0 a0_0 c0_0 x0.levels) {a1_0 : Option Addr} {n1_0 c1_0 : Nat} (hn1_0 : n1_0 = x1.levels.length) (hr1_0 : rdS (Bor w0 []) w0 a1_0 c1_0 x1.levels) :
    Ret Tryz.prog 117 #[.agg #[.slice a0_0 n0_0 c0_0], .agg #[.slice a1_0 n1_0 c1_0]] w0 (fun v w => ∃ ar0 cr0, v = .slice ar0 r.length cr0 ∧ St w0 [] w [sl ar0 cr0 r]) := by
  subst hn0_0 hn1_0
  unfold F_i_above at h
  refine Ret.fn Tryz.func117 fun e => ?_
  have hS1 := St.start w0
  refine go ?_
  refine LW.bo hS1 fun g1 w2 hS2 => ?_
  refine LW.bo hS2 fun g3 w4 hS3 => ?_
  refine go ?_
  refine LW.bsl (α := Int) (vs := []) (cs := #[]) (l := ([] : List Int)) rfl (by kernel_rfl) rfl rfl rfl (fun w => rfl) hS3 rfl ?_
  intro a5 c6 w7 hS4 hf
  refine go ?_
  obtain ⟨o35, ho35, h36⟩ := obind h
  refine CW.mono (CW.iter (σ := (List Int) × Int) (ρ := (List Int) × Int) (fun s8 e wb => ∃ (s8a0 : Option Addr), ∃ (s8c0 : Nat), En e [(3, .pointer (some ⟨g3, 0, none⟩)), (5, .slice s8a0 s8.1.length s8c0), (10, .slice a0_0 x0.levels.length c0_0), (11, .int .i64 (x0.levels.length : Int)), (12, .int .i64 s8.2)] ∧ St w0 [] wb [sl s8a0 s8c0 s8.1, bx g3 57 [.slice a1_0 x1.levels.length c1_0]]) (fun s8 x e wb => x = .exit 0 ∧ ∃ (s8a0 : Option Addr), ∃ (s8c0 : Nat), En e [(5, .slice s8a0 s8.1.length s8c0)] ∧ St w0 [] wb [sl s8a0 s8c0 s8.1, bx g3 57 [.slice a1_0 x1.levels.length c1_0]]) ?_ N (([] : List Int), 0) _ _ _ ⟨a5, c6, ⟨rfl, rfl, rfl, rfl, rfl, trivial⟩, hS4.pick [0, 1] rfl rfl⟩ ho35) ?_
  · intro s8 e w9 o hM h
    obtain ⟨s8a0, s8c0, hE, hS5⟩ := hM
    obtain ⟨e, rfl⟩ := hE.out
    refine go ?_
    refine CW.cond rfl (fun hc10 => ?_) (fun hc10 => ?_)
    · replace h := bcT h hc10
      refine go ?_
      replace ⟨y11, hy11, h⟩ := obind h
      obtain ⟨b14, o15, cs16, hae, hb19, hp12, hq13, hd17, hk18⟩ := hr0_0.idx hy11
      subst hae
      obtain rfl := hd17
      refine LW.u (Pur.ix Tryz.underlying28 sz3 rfl rfl hp12 hq13) rfl ?_
      refine LW.l (Ldr.old w0 ag3 rfl (hk18 0 _ rfl)) (hS5.same _ hb19.1 hb19.2) rfl ?_
      refine go ?_
      replace ⟨y20, hy20, h⟩ := obind h
      obtain ⟨b23, o24, cs25, hae, hb28, hp21, hq22, hd26, hk27⟩ := hr1_0.idx hy20
      subst hae
      obtain rfl := hd26
      refine LW.u (Pur.ix Tryz.underlying28 sz3 rfl rfl hp21 hq22) rfl ?_
      refine LW.l (Ldr.old w0 ag3 rfl (hk27 0 _ rfl)) (hS5.same _ hb28.1 hb28.2) rfl ?_
      refine go ?_
      refine CW.fl [3, 5, 6, 10, 11, 12, 23] fun e => ?_
      refine CW.cond rfl (fun hc29 => ?_) (fun hc29 => ?_)
      · replace h := bcT h hc29
        refine go ?_
        replace ⟨y30, hy30, h⟩ := obind h
        refine LW.app1 (M := []) (L := [sl s8a0 s8c0 s8.1, bx g3 57 [.slice (some ⟨b23, o24, none⟩) x1.levels.length c1_0]]) (vs := #[.int .i64 s8.2]) (i := 0) sT28 rfl (by kernel_rfl) rfl rfl hy30 hS5 rfl (fun w G hG => by cases (show G = [] from hG); exact ⟨rfl, rfl⟩) rfl rfl ?_
        intro v33 a31 c32 w34 hS6 hf
        refine go ?_
        cases oi h
        exact ⟨rfl, ⟨a31, c32, ⟨rfl, rfl, rfl, rfl, rfl, trivial⟩, hS6.pick [0, 1] rfl rfl⟩⟩
      replace h := bcF h hc29
      refine go ?_
      cases oi h
      exact ⟨rfl, ⟨s8a0, s8c0, ⟨rfl, rfl, rfl, rfl, rfl, trivial⟩, hS5.pick [0, 1] rfl rfl⟩⟩
    replace h := bcF h hc10
    refine go ?_
    cases oi h
    exact ⟨trivial, rfl, ⟨s8a0, s8c0, ⟨rfl, trivial⟩, hS5.pick [0, 1] rfl rfl⟩⟩
  intro x e w37 hM
  obtain ⟨rfl, hM⟩ := hM
  obtain ⟨s8a0, s8c0, hE, hS7⟩ := hM
  obtain ⟨e, rfl⟩ := hE.out
  have h := h36
  refine go ?_
  cases h
  exact And.intro trivial ⟨_, Res.one (resOne.t rfl), s8a0, s8c0, rfl, hS7.pick [0] rfl rfl⟩

theorem W_i_hasPart {w0 : World} {N : Nat} {x0 : DWorld} {x1 : Int} {r : Bool} (h : F_i_hasPart N x0 x1 = some r) {a0_1 : Option Addr} {n0_1 c0_1 : Nat} (hn0_1 : n0_1 = x0.parts.length) (hr0_1 : rdS (Bor w0 []) w0 a0_1 c0_1 x0.parts) :
    Ret Tryz.prog 45 #[.agg #[.int .i64 x0.now, .slice a0_1 n0_1 c0_1], .int .i64 x1] w0 (fun v w => v = .bool r ∧ St w0 [] w []) := by
  subst hn0_1
  unfold F_i_hasPart at h
  refine Ret.fn Tryz.func45 fun e => ?_
  have hS1 := St.start w0
  refine go ?_
  refine LW.bo hS1 fun g1 w2 hS2 => ?_
  refine go ?_
  replace ⟨y3, hy3, h⟩ := obind h
  refine LW.c0 (W_i_within hy3) hS2 fun w4 hS3 => ?_
  refine go ?_
  cases h
  exact And.intro trivial ⟨_, Res.one (resOne.t rfl), rfl, hS3.pick [] rfl rfl⟩

theorem W_s_FlowsFor {w0 : World} {N : Nat} {x0 : List Int} {x1 : DLabel} {x2 : DLabel} {r : Bool} (h : F_s_FlowsFor N x0 x1 x2 = some r) {a0_0 : Option Addr} {n0_0 c0_0 : Nat} (hn0_0 : n0_0 = x0.length) (hr0_0 : rdS (Bor w0 []) w0 a0_0 c0_0 x0) {a1_0 : Option Addr} {n1_0 c1_0 : Nat} (hn1_0 : n1_0 = x1.levels.length) (hr1_0 : rdS (Bor w0 []) w0 a1_0 c1_0 x1.levels) {a2_0 : Option Addr} {n2_0 c2_0 : Nat} (hn2_0 : n2_0 = x2.levels.length) (hr2_0 : rdS (Bor w0 []) w0 a2_0 c2_0 x2.levels) :
    Ret Tryz.prog 111 #[.slice a0_0 n0_0 c0_0, .agg #[.slice a1_0 n1_0 c1_0], .agg #[.slice a2_0 n2_0 c2_0]] w0 (fun v w => v = .bool r ∧ St w0 [] w []) := by
  subst hn0_0 hn1_0 hn2_0
  unfold F_s_FlowsFor at h
  refine Ret.fn Tryz.func111 fun e => ?_
  have hS1 := St.start w0
  refine go ?_
  refine LW.bo hS1 fun g1 w2 hS2 => ?_
  refine LW.bo hS2 fun g3 w4 hS3 => ?_
  refine gs ?_
  obtain ⟨j5, hj5, h6⟩ := obind h
  refine CW.cut (fun e wb => En e [(0, .slice a0_0 x0.length c0_0), (4, .pointer (some ⟨g1, 0, none⟩)), (5, .pointer (some ⟨g3, 0, none⟩)), (20, .bool j5)] ∧ St w0 [] wb [bx g3 57 [.slice a2_0 x2.levels.length c2_0], bx g1 57 [.slice a1_0 x1.levels.length c1_0]]) ?_ ?_
  · have h := hj5
    refine go ?_
    replace ⟨y7, hy7, h⟩ := obind h
    refine LW.c0 (W_s_OwnOk hy7 rfl (hS3.rB hr0_0)) hS3 fun w8 hS4 => ?_
    refine go ?_
    rcases bcases (!y7) with hc9 | hc9
    · replace h := bcT h hc9
      refine go ?_
      cases oi h
      exact ⟨⟨rfl, rfl, rfl, rfl, trivial⟩, hS4.pick [0, 1] rfl rfl⟩
    replace h := bcF h hc9
    refine go ?_
    replace ⟨y10, hy10, h⟩ := obind h
    refine go ?_
    refine LW.c0 (W_s_LabelOk hy10 rfl (hS4.rB hr1_0)) hS4 fun w11 hS5 => ?_
    refine go ?_
    rcases bcases (!y10) with hc12 | hc12
    · replace h := bcT h hc12
      refine go ?_
      cases oi h
      exact ⟨⟨rfl, rfl, rfl, rfl, trivial⟩, hS5.pick [0, 1] rfl rfl⟩
    replace h := bcF h hc12
    refine go ?_
    replace ⟨y13, hy13, h⟩ := obind h
    refine go ?_
    refine LW.c0 (W_s_LabelOk hy13 rfl (hS5.rB hr2_0)) hS5 fun w14 hS6 => ?_
    refine go ?_
    cases oi h
    exact ⟨⟨rfl, rfl, rfl, rfl, trivial⟩, hS6.pick [0, 1] rfl rfl⟩
  rintro e w15 ⟨hE, hS7⟩
  obtain ⟨e, rfl⟩ := hE.out
  have h := h6
  refine go ?_
  refine CW.cond rfl (fun hc16 => ?_) (fun hc16 => ?_)
  · replace h := bcT h hc16
    refine go ?_
    cases h
    exact And.intro trivial ⟨_, Res.one (resOne.t rfl), rfl, hS7.pick [] rfl rfl⟩
  replace h := bcF h hc16
  refine go ?_
  obtain ⟨o45, ho45, h46⟩ := obind h
  refine CW.mono (CW.iter (σ := Int) (ρ := Int ⊕ Bool) (fun s17 e wb => En e [(0, .slice a0_0 x0.length c0_0), (4, .pointer (some ⟨g1, 0, none⟩)), (5, .pointer (some ⟨g3, 0, none⟩)), (7, .int .i64 s17)] ∧ St w0 [] wb [bx g3 57 [.slice a2_0 x2.levels.length c2_0], bx g1 57 [.slice a1_0 x1.levels.length c1_0]]) (fun o x e wb => match o with | .inl s17 => x = .exit 0 ∧ En e [] ∧ St w0 [] wb [bx g3 57 [.slice a2_0 x2.levels.length c2_0], bx g1 57 [.slice a1_0 x1.levels.length c1_0]] | .inr r => x = .ret ∧ ∃ u, u = r ∧ ∃ v, Res Tryz.prog Tryz.f111.results e wb v ∧ v = .bool u ∧ St w0 [] wb []) ?_ N 0 _ _ _ ⟨⟨rfl, rfl, rfl, rfl, trivial⟩, hS7.pick [0, 1] rfl rfl⟩ ho45) ?_
  · intro s17 e w18 o hM h
    obtain ⟨hE, hS8⟩ := hM
    obtain ⟨e, rfl⟩ := hE.out
    refine go ?_
    refine CW.cond rfl (fun hc19 => ?_) (fun hc19 => ?_)
    · replace h := bcT h hc19
      refine gs ?_
      refine CW.block ?_
      refine gs ?_
      obtain ⟨j20, hj20, h21⟩ := obind h
      refine CW.cut (fun e wb => En e [(0, .slice a0_0 x0.length c0_0), (4, .pointer (some ⟨g1, 0, none⟩)), (5, .pointer (some ⟨g3, 0, none⟩)), (7, .int .i64 s17), (41, .bool j20)] ∧ St w0 [] wb [bx g3 57 [.slice a2_0 x2.levels.length c2_0], bx g1 57 [.slice a1_0 x1.levels.length c1_0]]) ?_ ?_
      · have h := hj20
        refine CW.draw (by kernel_rfl) ?_
        have hS9 := hS8.drew
        refine AW.u (i := 0) rfl (by kernel_rfl) rfl rfl (Pur.fa fo57_0 rfl) ?_
        refine AW.take (i := 1) rfl (by kernel_rfl) rfl rfl (Ldr.box (bt := 57) (fr := (0, 0)) (cs := [.slice a1_0 x1.levels.length c1_0]) ag28 rfl rfl) (St.cell (h := hS9) (i := 1) rfl) ?_
        refine AW.u (i := 2) rfl (by kernel_rfl) rfl rfl (Pur.p rfl) ?_
        replace ⟨y22, hy22, h⟩ := obind h
        obtain ⟨b25, o26, cs27, hae, hb30, hp23, hq24, hd28, hk29⟩ := hr1_0.idx hy22
        subst hae
        obtain rfl := hd28
        refine AW.u (i := 3) rfl (by kernel_rfl) rfl rfl (Pur.ix Tryz.underlying28 sz3 rfl rfl hp23 hq24) ?_
        refine AW.take (i := 4) rfl (by kernel_rfl) rfl rfl (Ldr.old w0 ag3 rfl (hk29 0 _ rfl)) (hS9.same _ hb30.1 hb30.2) ?_
        refine AW.u (i := 5) rfl (by kernel_rfl) rfl rfl (Pur.fa fo57_0 rfl) ?_
        refine AW.take (i := 6) rfl (by kernel_rfl) rfl rfl (Ldr.box (bt := 57) (fr := (0, 0)) (cs := [.slice a2_0 x2.levels.length c2_0]) ag28 rfl rfl) (St.cell (h := hS9) (i := 0) rfl) ?_
        refine AW.u (i := 7) rfl (by kernel_rfl) rfl rfl (Pur.p rfl) ?_
        replace ⟨y31, hy31, h⟩ := obind h
        obtain ⟨b34, o35, cs36, hae, hb39, hp32, hq33, hd37, hk38⟩ := hr2_0.idx hy31
        subst hae
        obtain rfl := hd37
        refine AW.u (i := 8) rfl (by kernel_rfl) rfl rfl (Pur.ix Tryz.underlying28 sz3 rfl rfl hp32 hq33) ?_
        refine AW.take (i := 9) rfl (by kernel_rfl) rfl rfl (Ldr.old w0 ag3 rfl (hk38 0 _ rfl)) (hS9.same _ hb39.1 hb39.2) ?_
        refine AW.u (i := 10) rfl (by kernel_rfl) rfl rfl (Pur.p rfl) ?_
        refine AW.u (i := 11) rfl (by kernel_rfl) rfl rfl (Pur.p rfl) ?_
        rcases bcases (decide (y22 > y31)) with hc40 | hc40
        · replace h := bcT h hc40
          refine AW.u (i := 12) rfl (by kernel_rfl) (want_of rfl rfl hc40) rfl (Pur.p rfl) ?_
          refine AW.u (i := 13) rfl (by kernel_rfl) (want_of rfl rfl hc40) rfl (Pur.p rfl) ?_
          replace ⟨y41, hy41, h⟩ := obind h
          have q := W_s_l4Has (w0 := w18.drew) hy41 rfl (hS9.rB hr0_0)
          refine AW.one (i := 14) (by kernel_rfl) ?_
          refine ⟨_, rfl, ?_⟩
          refine (LW.gY (want_of rfl rfl hc40) ?_)
          refine LW.call pl183 rfl rfl ?_
          refine Ret.mono q ?_
          rintro _ w42 ⟨rfl, hs⟩
          have hS10 := hS9.add hs
          refine LW.nil ⟨rfl, (.c (hS10.same _ hb39.1 hb39.2) (.c (St.cell (h := hS10) (i := 0) rfl) (.c (hS10.same _ hb30.1 hb30.2) (.c (St.cell (h := hS10) (i := 1) rfl) Kept.n)))), ?_⟩
          refine AW.u (i := 15) rfl (by kernel_rfl) (want_of rfl rfl hc40) rfl (Pur.p rfl) ?_
          refine AW.u (i := 16) rfl (by kernel_rfl) rfl rfl (Pur.pickT rfl hc40) ?_
          refine AW.done (by kernel_rfl) ?_
          cases oi h
          exact ⟨⟨rfl, rfl, rfl, rfl, rfl, trivial⟩, hS10.pick [0, 1] rfl rfl⟩
        replace h := bcF h hc40
        refine AW.no (i := 12) rfl (by kernel_rfl) (want_not rfl rfl hc40) rfl ?_
        refine AW.no (i := 13) rfl (by kernel_rfl) (want_not rfl rfl hc40) rfl ?_
        refine AW.no (i := 14) rfl (by kernel_rfl) (want_not rfl rfl hc40) rfl ?_
        refine AW.no (i := 15) rfl (by kernel_rfl) (want_not rfl rfl hc40) rfl ?_
        refine AW.u (i := 16) rfl (by kernel_rfl) rfl rfl (Pur.pickF rfl hc40) ?_
        refine AW.done (by kernel_rfl) ?_
        cases oi h
        exact ⟨⟨rfl, rfl, rfl, rfl, rfl, trivial⟩, hS9.pick [0, 1] rfl rfl⟩
      rintro e w43 ⟨hE, hS11⟩
      obtain ⟨e, rfl⟩ := hE.out
      have h := h21
      refine go ?_
      refine CW.cond rfl (fun hc44 => ?_) (fun hc44 => ?_)
      · replace h := bcT h hc44
        refine go ?_
        cases oi h
        exact ⟨trivial, rfl, _, rfl, ⟨_, Res.one (resOne.t rfl), rfl, hS11.pick [] rfl rfl⟩⟩
      replace h := bcF h hc44
      refine go ?_
      cases oi h
      exact ⟨rfl, ⟨⟨rfl, rfl, rfl, rfl, trivial⟩, hS11.pick [0, 1] rfl rfl⟩⟩
    replace h := bcF h hc19
    refine go ?_
    cases oi h
    exact ⟨trivial, rfl, ⟨trivial, hS8.pick [0, 1] rfl rfl⟩⟩
  intro x e w47 hM
  rcases o45 with o45 | r48
  · obtain ⟨rfl, hM⟩ := hM
    obtain ⟨hE, hS12⟩ := hM
    obtain ⟨e, rfl⟩ := hE.out; rw [show e = upds e [] from rfl]
    have h := h46
    refine go ?_
    cases h
    exact And.intro trivial ⟨_, Res.one (resOne.t rfl), rfl, hS12.pick [] rfl rfl⟩
  obtain ⟨rfl, u, rfl, hM⟩ := hM
  cases h46
  exact And.intro trivial hM

theorem W_i_FlowsFor {w0 : World} {N : Nat} {x0 : List Int} {x1 : DLabel} {x2 : DLabel} {r : Bool} (h : F_i_FlowsFor N x0 x1 x2 = some r) {a0_0 : Option Addr} {n0_0 c0_0 : Nat} (hn0_0 : n0_0 = x0.length) (hr0_0 : rdS (Bor w0 []) w0 a0_0 c0_0 x0) {a1_0 : Option Addr} {n1_0 c1_0 : Nat} (hn1_0 : n1_0 = x1.levels.length) (hr1_0 : rdS (Bor w0 []) w0 a1_0 c1_0 x1.levels) {a2_0 : Option Addr} {n2_0 c2_0 : Nat} (hn2_0 : n2_0 = x2.levels.length) (hr2_0 : rdS (Bor w0 []) w0 a2_0 c2_0 x2.levels) :
    Ret Tryz.prog 116 #[.slice a0_0 n0_0 c0_0, .agg #[.slice a1_0 n1_0 c1_0], .agg #[.slice a2_0 n2_0 c2_0]] w0 (fun v w => v = .bool r ∧ St w0 [] w []) := by
  subst hn0_0 hn1_0 hn2_0
  unfold F_i_FlowsFor at h
  refine Ret.fn Tryz.func116 fun e => ?_
  have hS1 := St.start w0
  refine go ?_
  refine LW.bo hS1 fun g1 w2 hS2 => ?_
  refine LW.bo hS2 fun g3 w4 hS3 => ?_
  refine gs ?_
  obtain ⟨j5, hj5, h6⟩ := obind h
  refine CW.cut (fun e wb => En e [(0, .slice a0_0 x0.length c0_0), (4, .pointer (some ⟨g1, 0, none⟩)), (5, .pointer (some ⟨g3, 0, none⟩)), (21, .bool j5)] ∧ St w0 [] wb [bx g3 57 [.slice a2_0 x2.levels.length c2_0], bx g1 57 [.slice a1_0 x1.levels.length c1_0]]) ?_ ?_
  · have h := hj5
    refine go ?_
    replace ⟨y7, hy7, h⟩ := obind h
    refine LW.c0 (W_i_OwnOk hy7 rfl (hS3.rB hr0_0)) hS3 fun w8 hS4 => ?_
    refine go ?_
    rcases bcases (!y7) with hc9 | hc9
    · replace h := bcT h hc9
      refine go ?_
      cases oi h
      exact ⟨⟨rfl, rfl, rfl, rfl, trivial⟩, hS4.pick [0, 1] rfl rfl⟩
    replace h := bcF h hc9
    refine go ?_
    replace ⟨y10, hy10, h⟩ := obind h
    refine go ?_
    refine LW.c0 (W_i_LabelOk hy10 rfl (hS4.rB hr1_0)) hS4 fun w11 hS5 => ?_
    refine go ?_
    rcases bcases (!y10) with hc12 | hc12
    · replace h := bcT h hc12
      refine go ?_
      cases oi h
      exact ⟨⟨rfl, rfl, rfl, rfl, trivial⟩, hS5.pick [0, 1] rfl rfl⟩
    replace h := bcF h hc12
    refine go ?_
    replace ⟨y13, hy13, h⟩ := obind h
    refine go ?_
    refine LW.c0 (W_i_LabelOk hy13 rfl (hS5.rB hr2_0)) hS5 fun w14 hS6 => ?_
    refine go ?_
    cases oi h
    exact ⟨⟨rfl, rfl, rfl, rfl, trivial⟩, hS6.pick [0, 1] rfl rfl⟩
  rintro e w15 ⟨hE, hS7⟩
  obtain ⟨e, rfl⟩ := hE.out
  have h := h6
  refine go ?_
  refine CW.cond rfl (fun hc16 => ?_) (fun hc16 => ?_)
  · replace h := bcT h hc16
    refine go ?_
    cases h
    exact And.intro trivial ⟨_, Res.one (resOne.t rfl), rfl, hS7.pick [] rfl rfl⟩
  replace h := bcF h hc16
  refine go ?_
  replace ⟨y17, hy17, h⟩ := obind h
  refine LW.cl (W_i_above hy17 rfl (hS7.rB hr1_0) rfl (hS7.rB hr2_0)) ?_
  rintro _ w20 ⟨a18, c19, rfl, hs⟩
  have hS8 := hS7.add hs
  refine go ?_
  obtain ⟨o40, ho40, h41⟩ := obind h
  refine CW.mono (CW.iter (σ := Int) (ρ := Int ⊕ Bool) (fun s21 e wb => En e [(0, .slice a0_0 x0.length c0_0), (24, .slice a18 y17.length c19), (25, .int .i64 (y17.length : Int)), (26, .int .i64 s21)] ∧ St w0 [] wb [sl a18 c19 y17]) (fun o x e wb => match o with | .inl s21 => x = .exit 0 ∧ En e [] ∧ St w0 [] wb [sl a18 c19 y17] | .inr r => x = .ret ∧ ∃ u, u = r ∧ ∃ v, Res Tryz.prog Tryz.f116.results e wb v ∧ v = .bool u ∧ St w0 [] wb []) ?_ N 0 _ _ _ ⟨⟨rfl, rfl, rfl, rfl, trivial⟩, hS8.pick [0] rfl rfl⟩ ho40) ?_
  · intro s21 e w22 o hM h
    obtain ⟨hE, hS9⟩ := hM
    obtain ⟨e, rfl⟩ := hE.out
    refine go ?_
    refine CW.cond rfl (fun hc23 => ?_) (fun hc23 => ?_)
    · replace h := bcT h hc23
      refine go ?_
      replace ⟨y24, hy24, h⟩ := obind h
      obtain ⟨b27, o28, hae, hp25, hq26⟩ := hS9.ownIdx (α := Int) (i := 0) rfl hy24
      subst hae
      refine LW.u (Pur.ix Tryz.underlying28 sz3 rfl rfl hp25 hq26) rfl ?_
      obtain ⟨F29, ho30, hS10⟩ := hS9.freeze (α := Int) 0 rfl
      obtain ⟨b31, o32, cs33, hae, hb36, _, _, hd34, hk35⟩ := ho30.rdF.idx hy24
      cases hae
      obtain rfl := hd34
      refine LW.l (Ldr.old w22 ag3 rfl (hk35 0 _ rfl)) (hS10.zC 0 rfl hb36) rfl ?_
      refine go ?_
      replace ⟨y37, hy37, h⟩ := obind h
      refine LW.c0 (W_z_Contains_int hy37 rfl (hS10.rB hr0_0)) hS10 fun w38 hS11 => ?_
      refine go ?_
      refine CW.fl [0, 24, 25, 26, 33] fun e => ?_
      refine CW.cond rfl (fun hc39 => ?_) (fun hc39 => ?_)
      · replace h := bcT h hc39
        refine go ?_
        cases oi h
        exact ⟨trivial, rfl, _, rfl, ⟨_, Res.one (resOne.t rfl), rfl, hS11.pick [] rfl rfl⟩⟩
      replace h := bcF h hc39
      refine go ?_
      have hS12 := hS11.thaw (α := Int) 0 rfl ho30
      cases oi h
      exact ⟨rfl, ⟨⟨rfl, rfl, rfl, rfl, trivial⟩, hS12.pick [0] rfl rfl⟩⟩
    replace h := bcF h hc23
    refine go ?_
    cases oi h
    exact ⟨trivial, rfl, ⟨trivial, hS9.pick [0] rfl rfl⟩⟩
  intro x e w42 hM
  rcases o40 with o40 | r43
  · obtain ⟨rfl, hM⟩ := hM
    obtain ⟨hE, hS13⟩ := hM
    obtain ⟨e, rfl⟩ := hE.out; rw [show e = upds e [] from rfl]
    have h := h41
    refine go ?_
    cases h
    exact And.intro trivial ⟨_, Res.one (resOne.t rfl), rfl, hS13.pick [] rfl rfl⟩
  obtain ⟨rfl, u, rfl, hM⟩ := hM
  cases h41
  exact And.intro trivial hM

theorem W_s_l17Target {w0 : World} {N : Nat} {x0 : DWorld} {x1 : Int} {x2 : DCall} {r : Int} (h : F_s_l17Target N x0 x1 x2 = some r) {a0_1 : Option Addr} {n0_1 c0_1 : Nat} (hn0_1 : n0_1 = x0.parts.length) (hr0_1 : rdS (Bor w0 []) w0 a0_1 c0_1 x0.parts) :
    Ret Tryz.prog 41 #[.agg #[.int .i64 x0.now, .slice a0_1 n0_1 c0_1], .int .i64 x1, .agg #[.int .i64 x2.kind, .int .i64 x2.a, .int .i64 x2.b, .int .i64 x2.c, .int .i64 x2.d, .int .i64 x2.e]] w0 (fun v w => v = .int .i64 r ∧ St w0 [] w []) := by
  subst hn0_1
  unfold F_s_l17Target at h
  refine Ret.fn Tryz.func41 fun e => ?_
  have hS1 := St.start w0
  refine go ?_
  refine LW.bo hS1 fun g1 w2 hS2 => ?_
  refine LW.bo hS2 fun g3 w4 hS3 => ?_
  refine gs ?_
  refine CW.region ?_
  refine gs ?_
  refine CW.region ?_
  refine gs ?_
  obtain ⟨j5, hj5, h6⟩ := obind h
  refine CW.cut (fun e wb => En e [(3, .pointer (some ⟨g1, 0, none⟩)), (7, .int .i64 j5)] ∧ St w0 [] wb [bx g1 32 [.int .i64 x0.now, .slice a0_1 x0.parts.length c0_1]]) ?_ ?_
  · have h := hj5
    refine CW.block ?_
    refine gs ?_
    refine CW.region ?_
    refine gs ?_
    obtain ⟨j7, hj7, h8⟩ := obind h
    refine CW.cut (fun e wb => En e [(3, .pointer (some ⟨g1, 0, none⟩)), (5, .pointer (some ⟨g3, 0, none⟩)), (7, .int .i64 x1), (10, .int .i64 x2.kind), (11, .bool j7)] ∧ St w0 [] wb [bx g3 34 [.int .i64 x2.kind, .int .i64 x2.a, .int .i64 x2.b, .int .i64 x2.c, .int .i64 x2.d, .int .i64 x2.e], bx g1 32 [.int .i64 x0.now, .slice a0_1 x0.parts.length c0_1]]) ?_ ?_
    · have h := hj7
      refine CW.cond rfl (fun hc9 => ?_) (fun hc9 => ?_)
      · replace h := bcT h hc9
        refine go ?_
        cases oi h
        exact ⟨⟨rfl, rfl, rfl, rfl, rfl, trivial⟩, hS3.pick [0, 1] rfl rfl⟩
      replace h := bcF h hc9
      refine go ?_
      cases oi h
      exact ⟨⟨rfl, rfl, rfl, rfl, rfl, trivial⟩, hS3.pick [0, 1] rfl rfl⟩
    rintro e w10 ⟨hE, hS4⟩
    obtain ⟨e, rfl⟩ := hE.out
    have h := h8
    refine go ?_
    refine CW.cond rfl (fun hc11 => ?_) (fun hc11 => ?_)
    · replace h := bcT h hc11
      refine go ?_
      replace ⟨y12, hy12, h⟩ := obind h
      refine LW.c0 (W_s_HandlePart hy12) hS4 fun w13 hS5 => ?_
      refine go ?_
      cases oi h
      exact ⟨⟨rfl, rfl, trivial⟩, hS5.pick [1] rfl rfl⟩
    replace h := bcF h hc11
    refine go ?_
    refine CW.cond rfl (fun hc14 => ?_) (fun hc14 => ?_)
    · replace h := bcT h hc14
      refine go ?_
      cases oi h
      exact ⟨⟨rfl, rfl, trivial⟩, hS4.pick [1] rfl rfl⟩
    replace h := bcF h hc14
    refine go ?_
    cases oi h
    exact ⟨⟨rfl, rfl, trivial⟩, hS4.pick [1] rfl rfl⟩
  rintro e w15 ⟨hE, hS6⟩
  obtain ⟨e, rfl⟩ := hE.out
  have h := h6
  refine go ?_
  replace ⟨y16, hy16, h⟩ := obind h
  refine LW.c0 (W_s_l1In hy16) hS6 fun w17 hS7 => ?_
  refine go ?_
  refine CW.fl [7, 27] fun e => ?_
  refine CW.cond rfl (fun hc18 => ?_) (fun hc18 => ?_)
  · replace h := bcT h hc18
    refine go ?_
    cases h
    exact And.intro trivial ⟨_, Res.one (resOne.t rfl), rfl, hS7.pick [] rfl rfl⟩
  replace h := bcF h hc18
  refine go ?_
  cases h
  exact And.intro trivial ⟨_, Res.one (resOne.t rfl), rfl, hS7.pick [] rfl rfl⟩

theorem W_s_Needs {w0 : World} {N : Nat} {x0 : List Int} {x1 : DLabel} {x2 : DLabel} {r : (List Int)} (h : F_s_Needs N x0 x1 x2 = some r) {a0_0 : Option Addr} {n0_0 c0_0 : Nat} (hn0_0 : n0_0 = x0.length) (hr0_0 : rdS (Bor w0 []) w0 a0_0 c0_0 x0) {a1_0 : Option Addr} {n1_0 c1_0 : Nat} (hn1_0 : n1_0 = x1.levels.length) (hr1_0 : rdS (Bor w0 []) w0 a1_0 c1_0 x1.levels) {a2_0 : Option Addr} {n2_0 c2_0 : Nat} (hn2_0 : n2_0 = x2.levels.length) (hr2_0 : rdS (Bor w0 []) w0 a2_0 c2_0 x2.levels) :
    Ret Tryz.prog 42 #[.slice a0_0 n0_0 c0_0, .agg #[.slice a1_0 n1_0 c1_0], .agg #[.slice a2_0 n2_0 c2_0]] w0 (fun v w => ∃ ar0 cr0, v = .slice ar0 r.length cr0 ∧ St w0 [] w [sl ar0 cr0 r]) := by
  subst hn0_0 hn1_0 hn2_0
  unfold F_s_Needs at h
  refine Ret.fn Tryz.func42 fun e => ?_
  have hS1 := St.start w0
  refine go ?_
  refine LW.bo hS1 fun g1 w2 hS2 => ?_
  refine LW.bo hS2 fun g3 w4 hS3 => ?_
  refine go ?_
  refine LW.bsl (α := Int) (vs := []) (cs := #[]) (l := ([] : List Int)) rfl (by kernel_rfl) rfl rfl rfl (fun w => rfl) hS3 rfl ?_
  intro a5 c6 w7 hS4 hf
  refine go ?_
  replace ⟨y8, hy8, h⟩ := obind h
  refine LW.c0 (W_s_FlowsFor hy8 rfl (hS4.rB hr0_0) rfl (hS4.rB hr1_0) rfl (hS4.rB hr2_0)) hS4 fun w9 hS5 => ?_
  refine go ?_
  refine CW.cond rfl (fun hc10 => ?_) (fun hc10 => ?_)
  · replace h := bcT h hc10
    refine go ?_
    cases h
    exact And.intro trivial ⟨_, Res.one (resOne.t rfl), a5, c6, rfl, hS5.pick [0] rfl rfl⟩
  replace h := bcF h hc10
  refine go ?_
  obtain ⟨o38, ho38, h39⟩ := obind h
  refine CW.mono (CW.iter (σ := (List Int) × Int) (ρ := (List Int) × Int) (fun s11 e wb => ∃ (s11a0 : Option Addr), ∃ (s11c0 : Nat), En e [(4, .pointer (some ⟨g1, 0, none⟩)), (5, .pointer (some ⟨g3, 0, none⟩)), (7, .slice s11a0 s11.1.length s11c0), (8, .int .i64 s11.2)] ∧ St w0 [] wb [sl s11a0 s11c0 s11.1, bx g3 57 [.slice a2_0 x2.levels.length c2_0], bx g1 57 [.slice a1_0 x1.levels.length c1_0]]) (fun s11 x e wb => x = .exit 0 ∧ ∃ (s11a0 : Option Addr), ∃ (s11c0 : Nat), En e [(7, .slice s11a0 s11.1.length s11c0)] ∧ St w0 [] wb [sl s11a0 s11c0 s11.1, bx g3 57 [.slice a2_0 x2.levels.length c2_0], bx g1 57 [.slice a1_0 x1.levels.length c1_0]]) ?_ N (([] : List Int), 0) _ _ _ ⟨a5, c6, ⟨rfl, rfl, rfl, rfl, trivial⟩, hS5.pick [0, 1, 2] rfl rfl⟩ ho38) ?_
  · intro s11 e w12 o hM h
    obtain ⟨s11a0, s11c0, hE, hS6⟩ := hM
    obtain ⟨e, rfl⟩ := hE.out
    refine go ?_
    refine CW.fl [4, 5, 7, 8, 17] fun e => ?_
    refine CW.cond rfl (fun hc13 => ?_) (fun hc13 => ?_)
    · replace h := bcT h hc13
      refine go ?_
      refine CW.draw (by kernel_rfl) ?_
      have hS7 := hS6.drew
      refine AW.u (i := 0) rfl (by kernel_rfl) rfl rfl (Pur.fa fo57_0 rfl) ?_
      refine AW.take (i := 1) rfl (by kernel_rfl) rfl rfl (Ldr.box (bt := 57) (fr := (0, 0)) (cs := [.slice a1_0 x1.levels.length c1_0]) ag28 rfl rfl) (St.cell (h := hS7) (i := 2) rfl) ?_
      refine AW.u (i := 2) rfl (by kernel_rfl) rfl rfl (Pur.p rfl) ?_
      replace ⟨y14, hy14, h⟩ := obind h
      obtain ⟨b17, o18, cs19, hae, hb22, hp15, hq16, hd20, hk21⟩ := hr1_0.idx hy14
      subst hae
      obtain rfl := hd20
      refine AW.u (i := 3) rfl (by kernel_rfl) rfl rfl (Pur.ix Tryz.underlying28 sz3 rfl rfl hp15 hq16) ?_
      refine AW.take (i := 4) rfl (by kernel_rfl) rfl rfl (Ldr.old w0 ag3 rfl (hk21 0 _ rfl)) (hS7.same _ hb22.1 hb22.2) ?_
      refine AW.u (i := 5) rfl (by kernel_rfl) rfl rfl (Pur.fa fo57_0 rfl) ?_
      refine AW.take (i := 6) rfl (by kernel_rfl) rfl rfl (Ldr.box (bt := 57) (fr := (0, 0)) (cs := [.slice a2_0 x2.levels.length c2_0]) ag28 rfl rfl) (St.cell (h := hS7) (i := 1) rfl) ?_
      refine AW.u (i := 7) rfl (by kernel_rfl) rfl rfl (Pur.p rfl) ?_
      replace ⟨y23, hy23, h⟩ := obind h
      obtain ⟨b26, o27, cs28, hae, hb31, hp24, hq25, hd29, hk30⟩ := hr2_0.idx hy23
      subst hae
      obtain rfl := hd29
      refine AW.u (i := 8) rfl (by kernel_rfl) rfl rfl (Pur.ix Tryz.underlying28 sz3 rfl rfl hp24 hq25) ?_
      refine AW.take (i := 9) rfl (by kernel_rfl) rfl rfl (Ldr.old w0 ag3 rfl (hk30 0 _ rfl)) (hS7.same _ hb31.1 hb31.2) ?_
      refine AW.u (i := 10) rfl (by kernel_rfl) rfl rfl (Pur.p rfl) ?_
      refine AW.done (by kernel_rfl) ?_
      refine go ?_
      refine CW.cond rfl (fun hc32 => ?_) (fun hc32 => ?_)
      · replace h := bcT h hc32
        refine go ?_
        replace ⟨y33, hy33, h⟩ := obind h
        refine LW.app1 (M := []) (L := [sl s11a0 s11c0 s11.1, bx g3 57 [.slice (some ⟨b26, o27, none⟩) x2.levels.length c2_0], bx g1 57 [.slice (some ⟨b17, o18, none⟩) x1.levels.length c1_0]]) (vs := #[.int .i64 s11.2]) (i := 0) sT28 rfl (by kernel_rfl) rfl rfl hy33 hS7 rfl (fun w G hG => by cases (show G = [] from hG); exact ⟨rfl, rfl⟩) rfl rfl ?_
        intro v36 a34 c35 w37 hS8 hf
        refine go ?_
        cases oi h
        exact ⟨rfl, ⟨a34, c35, ⟨rfl, rfl, rfl, rfl, trivial⟩, hS8.pick [0, 1, 2] rfl rfl⟩⟩
      replace h := bcF h hc32
      refine go ?_
      cases oi h
      exact ⟨rfl, ⟨s11a0, s11c0, ⟨rfl, rfl, rfl, rfl, trivial⟩, hS7.pick [0, 1, 2] rfl rfl⟩⟩
    replace h := bcF h hc13
    refine go ?_
    cases oi h
    exact ⟨trivial, rfl, ⟨s11a0, s11c0, ⟨rfl, trivial⟩, hS6.pick [0, 1, 2] rfl rfl⟩⟩
  intro x e w40 hM
  obtain ⟨rfl, hM⟩ := hM
  obtain ⟨s11a0, s11c0, hE, hS9⟩ := hM
  obtain ⟨e, rfl⟩ := hE.out
  have h := h39
  refine go ?_
  cases h
  exact And.intro trivial ⟨_, Res.one (resOne.t rfl), s11a0, s11c0, rfl, hS9.pick [0] rfl rfl⟩

theorem W_i_otherPart {w0 : World} {N : Nat} {x0 : DWorld} {x1 : Int} {x2 : DCall} {r : Int} (h : F_i_otherPart N x0 x1 x2 = some r) {a0_1 : Option Addr} {n0_1 c0_1 : Nat} (hn0_1 : n0_1 = x0.parts.length) (hr0_1 : rdS (Bor w0 []) w0 a0_1 c0_1 x0.parts) :
    Ret Tryz.prog 46 #[.agg #[.int .i64 x0.now, .slice a0_1 n0_1 c0_1], .int .i64 x1, .agg #[.int .i64 x2.kind, .int .i64 x2.a, .int .i64 x2.b, .int .i64 x2.c, .int .i64 x2.d, .int .i64 x2.e]] w0 (fun v w => v = .int .i64 r ∧ St w0 [] w []) := by
  subst hn0_1
  unfold F_i_otherPart at h
  refine Ret.fn Tryz.func46 fun e => ?_
  have hS1 := St.start w0
  refine go ?_
  refine LW.bo hS1 fun g1 w2 hS2 => ?_
  refine LW.bo hS2 fun g3 w4 hS3 => ?_
  refine gs ?_
  refine CW.region ?_
  refine gs ?_
  refine CW.region ?_
  refine gs ?_
  obtain ⟨j5, hj5, h6⟩ := obind h
  refine CW.cut (fun e wb => En e [(3, .pointer (some ⟨g1, 0, none⟩)), (7, .int .i64 j5)] ∧ St w0 [] wb [bx g1 32 [.int .i64 x0.now, .slice a0_1 x0.parts.length c0_1]]) ?_ ?_
  · have h := hj5
    refine CW.block ?_
    refine gs ?_
    refine CW.region ?_
    refine gs ?_
    obtain ⟨j7, hj7, h8⟩ := obind h
    refine CW.cut (fun e wb => En e [(3, .pointer (some ⟨g1, 0, none⟩)), (5, .pointer (some ⟨g3, 0, none⟩)), (7, .int .i64 x1), (10, .int .i64 x2.kind), (11, .bool j7)] ∧ St w0 [] wb [bx g3 34 [.int .i64 x2.kind, .int .i64 x2.a, .int .i64 x2.b, .int .i64 x2.c, .int .i64 x2.d, .int .i64 x2.e], bx g1 32 [.int .i64 x0.now, .slice a0_1 x0.parts.length c0_1]]) ?_ ?_
    · have h := hj7
      refine CW.cond rfl (fun hc9 => ?_) (fun hc9 => ?_)
      · replace h := bcT h hc9
        refine go ?_
        cases oi h
        exact ⟨⟨rfl, rfl, rfl, rfl, rfl, trivial⟩, hS3.pick [0, 1] rfl rfl⟩
      replace h := bcF h hc9
      refine go ?_
      cases oi h
      exact ⟨⟨rfl, rfl, rfl, rfl, rfl, trivial⟩, hS3.pick [0, 1] rfl rfl⟩
    rintro e w10 ⟨hE, hS4⟩
    obtain ⟨e, rfl⟩ := hE.out
    have h := h8
    refine go ?_
    refine CW.cond rfl (fun hc11 => ?_) (fun hc11 => ?_)
    · replace h := bcT h hc11
      refine go ?_
      replace ⟨y12, hy12, h⟩ := obind h
      refine LW.c0 (W_i_HandlePart hy12) hS4 fun w13 hS5 => ?_
      refine go ?_
      cases oi h
      exact ⟨⟨rfl, rfl, trivial⟩, hS5.pick [1] rfl rfl⟩
    replace h := bcF h hc11
    refine go ?_
    refine CW.cond rfl (fun hc14 => ?_) (fun hc14 => ?_)
    · replace h := bcT h hc14
      refine go ?_
      cases oi h
      exact ⟨⟨rfl, rfl, trivial⟩, hS4.pick [1] rfl rfl⟩
    replace h := bcF h hc14
    refine go ?_
    cases oi h
    exact ⟨⟨rfl, rfl, trivial⟩, hS4.pick [1] rfl rfl⟩
  rintro e w15 ⟨hE, hS6⟩
  obtain ⟨e, rfl⟩ := hE.out
  have h := h6
  refine go ?_
  replace ⟨y16, hy16, h⟩ := obind h
  refine LW.c0 (W_i_hasPart hy16 rfl (hS6.rB hr0_1)) hS6 fun w17 hS7 => ?_
  refine go ?_
  refine CW.cond rfl (fun hc18 => ?_) (fun hc18 => ?_)
  · replace h := bcT h hc18
    refine go ?_
    cases h
    exact And.intro trivial ⟨_, Res.one (resOne.t rfl), rfl, hS7.pick [] rfl rfl⟩
  replace h := bcF h hc18
  refine go ?_
  cases h
  exact And.intro trivial ⟨_, Res.one (resOne.t rfl), rfl, hS7.pick [] rfl rfl⟩

theorem W_i_Needs {w0 : World} {N : Nat} {x0 : List Int} {x1 : DLabel} {x2 : DLabel} {r : (List Int)} (h : F_i_Needs N x0 x1 x2 = some r) {a0_0 : Option Addr} {n0_0 c0_0 : Nat} (hn0_0 : n0_0 = x0.length) (hr0_0 : rdS (Bor w0 []) w0 a0_0 c0_0 x0) {a1_0 : Option Addr} {n1_0 c1_0 : Nat} (hn1_0 : n1_0 = x1.levels.length) (hr1_0 : rdS (Bor w0 []) w0 a1_0 c1_0 x1.levels) {a2_0 : Option Addr} {n2_0 c2_0 : Nat} (hn2_0 : n2_0 = x2.levels.length) (hr2_0 : rdS (Bor w0 []) w0 a2_0 c2_0 x2.levels) :
    Ret Tryz.prog 47 #[.slice a0_0 n0_0 c0_0, .agg #[.slice a1_0 n1_0 c1_0], .agg #[.slice a2_0 n2_0 c2_0]] w0 (fun v w => ∃ ar0 cr0, v = .slice ar0 r.length cr0 ∧ St w0 [] w [sl ar0 cr0 r]) := by
  subst hn0_0 hn1_0 hn2_0
  unfold F_i_Needs at h
  refine Ret.fn Tryz.func47 fun e => ?_
  have hS1 := St.start w0
  refine go ?_
  refine LW.bo hS1 fun g1 w2 hS2 => ?_
  refine LW.bo hS2 fun g3 w4 hS3 => ?_
  refine go ?_
  replace ⟨y5, hy5, h⟩ := obind h
  refine LW.c0 (W_i_FlowsFor hy5 rfl (hS3.rB hr0_0) rfl (hS3.rB hr1_0) rfl (hS3.rB hr2_0)) hS3 fun w6 hS4 => ?_
  refine go ?_
  refine CW.cond rfl (fun hc7 => ?_) (fun hc7 => ?_)
  · replace h := bcT h hc7
    refine go ?_
    cases h
    have hS5 := hS4.nil (α := Int)
    exact And.intro trivial ⟨_, Res.one (resOne.t rfl), none, 0, rfl, hS5.pick [0] rfl rfl⟩
  replace h := bcF h hc7
  refine go ?_
  replace ⟨y8, hy8, h⟩ := obind h
  refine LW.cl (W_i_above hy8 rfl (hS4.rB hr1_0) rfl (hS4.rB hr2_0)) ?_
  rintro _ w11 ⟨a9, c10, rfl, hs⟩
  have hS6 := hS4.add hs
  refine go ?_
  cases h
  exact And.intro trivial ⟨_, Res.one (resOne.t rfl), a9, c10, rfl, hS6.pick [0] rfl rfl⟩

theorem W_s_Owning {w0 : World} {N : Nat} {x0 : DWorld} {x1 : Int} {x2 : DCall} {r : (List Int)} (h : F_s_Owning N x0 x1 x2 = some r) {a0_1 : Option Addr} {n0_1 c0_1 : Nat} (hn0_1 : n0_1 = x0.parts.length) (hr0_1 : rdS (Bor w0 []) w0 a0_1 c0_1 x0.parts) :
    Ret Tryz.prog 11 #[.agg #[.int .i64 x0.now, .slice a0_1 n0_1 c0_1], .int .i64 x1, .agg #[.int .i64 x2.kind, .int .i64 x2.a, .int .i64 x2.b, .int .i64 x2.c, .int .i64 x2.d, .int .i64 x2.e]] w0 (fun v w => ∃ ar0 cr0, v = .slice ar0 r.length cr0 ∧ St w0 [] w [sl ar0 cr0 r]) := by
  subst hn0_1
  unfold F_s_Owning at h
  refine Ret.fn Tryz.func11 fun e => ?_
  have hS1 := St.start w0
  refine go ?_
  refine LW.bo hS1 fun g1 w2 hS2 => ?_
  refine LW.bo hS2 fun g3 w4 hS3 => ?_
  refine gs ?_
  obtain ⟨j5, hj5, h6⟩ := obind h
  refine CW.cut (fun e wb => En e [(1, .int .i64 x1), (3, .pointer (some ⟨g1, 0, none⟩)), (5, .pointer (some ⟨g3, 0, none⟩)), (26, .bool j5)] ∧ St w0 [] wb [bx g3 34 [.int .i64 x2.kind, .int .i64 x2.a, .int .i64 x2.b, .int .i64 x2.c, .int .i64 x2.d, .int .i64 x2.e], bx g1 32 [.int .i64 x0.now, .slice a0_1 x0.parts.length c0_1]]) ?_ ?_
  · have h := hj5
    refine go ?_
    replace ⟨y7, hy7, h⟩ := obind h
    refine LW.c0 (W_s_WorldOk hy7 rfl (hS3.rB hr0_1)) hS3 fun w8 hS4 => ?_
    refine go ?_
    rcases bcases (!y7) with hc9 | hc9
    · replace h := bcT h hc9
      refine go ?_
      cases oi h
      exact ⟨⟨rfl, rfl, rfl, rfl, trivial⟩, hS4.pick [0, 1] rfl rfl⟩
    replace h := bcF h hc9
    refine go ?_
    replace ⟨y10, hy10, h⟩ := obind h
    refine go ?_
    refine LW.c0 (W_s_l1In hy10) hS4 fun w11 hS5 => ?_
    refine go ?_
    rcases bcases (!y10) with hc12 | hc12
    · replace h := bcT h hc12
      refine go ?_
      cases oi h
      exact ⟨⟨rfl, rfl, rfl, rfl, trivial⟩, hS5.pick [0, 1] rfl rfl⟩
    replace h := bcF h hc12
    refine go ?_
    replace ⟨y13, hy13, h⟩ := obind h
    refine go ?_
    refine LW.c0 (W_s_l17Target hy13 rfl (hS5.rB hr0_1)) hS5 fun w14 hS6 => ?_
    refine go ?_
    cases oi h
    exact ⟨⟨rfl, rfl, rfl, rfl, trivial⟩, hS6.pick [0, 1] rfl rfl⟩
  rintro e w15 ⟨hE, hS7⟩
  obtain ⟨e, rfl⟩ := hE.out
  have h := h6
  refine go ?_
  refine CW.cond rfl (fun hc16 => ?_) (fun hc16 => ?_)
  · replace h := bcT h hc16
    refine go ?_
    refine LW.bsl (α := Int) (vs := []) (cs := #[]) (l := ([] : List Int)) rfl (by kernel_rfl) rfl rfl rfl (fun w => rfl) hS7 rfl ?_
    intro a17 c18 w19 hS8 hf
    refine go ?_
    cases h
    exact And.intro trivial ⟨_, Res.one (resOne.t rfl), a17, c18, rfl, hS8.pick [0] rfl rfl⟩
  replace h := bcF h hc16
  refine go ?_
  replace ⟨y20, hy20, h⟩ := obind h
  refine LW.c0 (W_s_l17Target hy20 rfl (hS7.rB hr0_1)) hS7 fun w21 hS9 => ?_
  refine go ?_
  refine CW.cond rfl (fun hc22 => ?_) (fun hc22 => ?_)
  · replace h := bcT h hc22
    refine go ?_
    refine CW.draw (by kernel_rfl) ?_
    have hS10 := hS9.drew
    refine AW.u (i := 0) rfl (by kernel_rfl) rfl rfl (Pur.fa fo32_1 rfl) ?_
    refine AW.take (i := 1) rfl (by kernel_rfl) rfl rfl (Ldr.box (bt := 32) (fr := (0, 0)) (cs := [.int .i64 x0.now, .slice a0_1 x0.parts.length c0_1]) ag30 rfl rfl) (St.cell (h := hS10) (i := 1) rfl) ?_
    refine AW.u (i := 2) rfl (by kernel_rfl) rfl rfl (Pur.p rfl) ?_
    replace ⟨y23, hy23, h⟩ := obind h
    obtain ⟨b26, o27, cs28, hae, hb31, hp24, hq25, hd29, hk30⟩ := hr0_1.idx hy23
    subst hae
    obtain ⟨a32, c33, a35, c36, a38, c39, a41, c42, a44, c45, a47, c48, rfl, hr34, hr37, hr40, hr43, hr46, hr49⟩ := hd29
    refine AW.u (i := 3) rfl (by kernel_rfl) rfl rfl (Pur.ix Tryz.underlying30 sz66 rfl rfl hp24 hq25) ?_
    refine AW.u (i := 4) rfl (by kernel_rfl) rfl rfl (Pur.fa fo66_1 rfl) ?_
    refine AW.take (i := 5) rfl (by kernel_rfl) rfl rfl (Ldr.old w0 ag28 rfl (hk30 1 _ rfl)) (hS10.same _ hb31.1 hb31.2) ?_
    refine AW.u (i := 6) rfl (by kernel_rfl) rfl rfl (Pur.fa fo32_1 rfl) ?_
    refine AW.take (i := 7) rfl (by kernel_rfl) rfl rfl (Ldr.box (bt := 32) (fr := (0, 0)) (cs := [.int .i64 x0.now, .slice (some ⟨b26, o27, none⟩) x0.parts.length c0_1]) ag30 rfl rfl) (St.cell (h := hS10) (i := 1) rfl) ?_
    refine AW.u (i := 8) rfl (by kernel_rfl) rfl rfl (Pur.p rfl) ?_
    replace ⟨y50, hy50, h⟩ := obind h
    obtain ⟨b53, o54, cs55, hae, hb58, hp51, hq52, hd56, hk57⟩ := hr0_1.idx hy50
    cases hae
    obtain ⟨a59, c60, a62, c63, a65, c66, a68, c69, a71, c72, a74, c75, rfl, hr61, hr64, hr67, hr70, hr73, hr76⟩ := hd56
    refine AW.u (i := 9) rfl (by kernel_rfl) rfl rfl (Pur.ix Tryz.underlying30 sz66 rfl rfl hp51 hq52) ?_
    refine AW.u (i := 10) rfl (by kernel_rfl) rfl rfl (Pur.fa fo66_0 rfl) ?_
    refine AW.take (i := 11) rfl (by kernel_rfl) rfl rfl (Ldr.oldN w0 ag57 rfl rfl (fun j u hu => oldsub (m := 1) hk57 0 hu)) (hS10.same _ hb58.1 hb58.2) ?_
    refine AW.u (i := 12) rfl (by kernel_rfl) rfl rfl (Pur.fa fo32_1 rfl) ?_
    refine AW.take (i := 13) rfl (by kernel_rfl) rfl rfl (Ldr.box (bt := 32) (fr := (0, 0)) (cs := [.int .i64 x0.now, .slice (some ⟨b26, o27, none⟩) x0.parts.length c0_1]) ag30 rfl rfl) (St.cell (h := hS10) (i := 1) rfl) ?_
    refine AW.u (i := 14) rfl (by kernel_rfl) rfl rfl (Pur.p rfl) ?_
    refine AW.u (i := 15) rfl (by kernel_rfl) rfl rfl (Pur.ix Tryz.underlying30 sz66 rfl rfl hp24 hq25) ?_
    refine AW.u (i := 16) rfl (by kernel_rfl) rfl rfl (Pur.fa fo66_0 rfl) ?_
    refine AW.take (i := 17) rfl (by kernel_rfl) rfl rfl (Ldr.oldN w0 ag57 rfl rfl (fun j u hu => oldsub (m := 1) hk30 0 hu)) (hS10.same _ hb31.1 hb31.2) ?_
    replace ⟨y77, hy77, h⟩ := obind h
    have q := W_s_Needs (w0 := w21.drew) hy77 rfl (hS10.rB hr37) rfl (hS10.rB hr61) rfl (hS10.rB hr34)
    refine AW.one (i := 18) (by kernel_rfl) ?_
    refine ⟨_, rfl, ?_⟩
    refine LW.call pl42 rfl rfl ?_
    refine Ret.mono q ?_
    rintro _ w80 ⟨a78, c79, rfl, hs⟩
    have hS11 := hS10.add hs
    refine LW.nil ⟨rfl, (.w (by kernel_rfl) (.c (St.cell (h := hS11) (i := 2) rfl) (.w (by kernel_rfl) (.c (St.cell (h := hS11) (i := 2) rfl) (.w (by kernel_rfl) (.c (St.cell (h := hS11) (i := 2) rfl) Kept.n)))))), ?_⟩
    refine AW.u (i := 19) rfl (by kernel_rfl) rfl rfl (Pur.p rfl) ?_
    refine AW.done (by kernel_rfl) ?_
    refine go ?_
    cases h
    exact And.intro trivial ⟨_, Res.one (resOne.t rfl), a78, c79, rfl, hS11.pick [0] rfl rfl⟩
  replace h := bcF h hc22
  refine go ?_
  refine CW.draw (by kernel_rfl) ?_
  have hS12 := hS9.drew
  refine AW.u (i := 0) rfl (by kernel_rfl) rfl rfl (Pur.fa fo32_1 rfl) ?_
  refine AW.take (i := 1) rfl (by kernel_rfl) rfl rfl (Ldr.box (bt := 32) (fr := (0, 0)) (cs := [.int .i64 x0.now, .slice a0_1 x0.parts.length c0_1]) ag30 rfl rfl) (St.cell (h := hS12) (i := 1) rfl) ?_
  refine AW.u (i := 2) rfl (by kernel_rfl) rfl rfl (Pur.p rfl) ?_
  replace ⟨y81, hy81, h⟩ := obind h
  obtain ⟨b84, o85, cs86, hae, hb89, hp82, hq83, hd87, hk88⟩ := hr0_1.idx hy81
  subst hae
  obtain ⟨a90, c91, a93, c94, a96, c97, a99, c100, a102, c103, a105, c106, rfl, hr92, hr95, hr98, hr101, hr104, hr107⟩ := hd87
  refine AW.u (i := 3) rfl (by kernel_rfl) rfl rfl (Pur.ix Tryz.underlying30 sz66 rfl rfl hp82 hq83) ?_
  refine AW.u (i := 4) rfl (by kernel_rfl) rfl rfl (Pur.fa fo66_1 rfl) ?_
  refine AW.take (i := 5) rfl (by kernel_rfl) rfl rfl (Ldr.old w0 ag28 rfl (hk88 1 _ rfl)) (hS12.same _ hb89.1 hb89.2) ?_
  refine AW.u (i := 6) rfl (by kernel_rfl) rfl rfl (Pur.fa fo32_1 rfl) ?_
  refine AW.take (i := 7) rfl (by kernel_rfl) rfl rfl (Ldr.box (bt := 32) (fr := (0, 0)) (cs := [.int .i64 x0.now, .slice (some ⟨b84, o85, none⟩) x0.parts.length c0_1]) ag30 rfl rfl) (St.cell (h := hS12) (i := 1) rfl) ?_
  refine AW.u (i := 8) rfl (by kernel_rfl) rfl rfl (Pur.p rfl) ?_
  refine AW.u (i := 9) rfl (by kernel_rfl) rfl rfl (Pur.ix Tryz.underlying30 sz66 rfl rfl hp82 hq83) ?_
  refine AW.u (i := 10) rfl (by kernel_rfl) rfl rfl (Pur.fa fo66_0 rfl) ?_
  refine AW.take (i := 11) rfl (by kernel_rfl) rfl rfl (Ldr.oldN w0 ag57 rfl rfl (fun j u hu => oldsub (m := 1) hk88 0 hu)) (hS12.same _ hb89.1 hb89.2) ?_
  refine AW.u (i := 12) rfl (by kernel_rfl) rfl rfl (Pur.fa fo32_1 rfl) ?_
  refine AW.take (i := 13) rfl (by kernel_rfl) rfl rfl (Ldr.box (bt := 32) (fr := (0, 0)) (cs := [.int .i64 x0.now, .slice (some ⟨b84, o85, none⟩) x0.parts.length c0_1]) ag30 rfl rfl) (St.cell (h := hS12) (i := 1) rfl) ?_
  refine AW.u (i := 14) rfl (by kernel_rfl) rfl rfl (Pur.p rfl) ?_
  replace ⟨y108, hy108, h⟩ := obind h
  obtain ⟨b111, o112, cs113, hae, hb116, hp109, hq110, hd114, hk115⟩ := hr0_1.idx hy108
  cases hae
  obtain ⟨a117, c118, a120, c121, a123, c124, a126, c127, a129, c130, a132, c133, rfl, hr119, hr122, hr125, hr128, hr131, hr134⟩ := hd114
  refine AW.u (i := 15) rfl (by kernel_rfl) rfl rfl (Pur.ix Tryz.underlying30 sz66 rfl rfl hp109 hq110) ?_
  refine AW.u (i := 16) rfl (by kernel_rfl) rfl rfl (Pur.fa fo66_0 rfl) ?_
  refine AW.take (i := 17) rfl (by kernel_rfl) rfl rfl (Ldr.oldN w0 ag57 rfl rfl (fun j u hu => oldsub (m := 1) hk115 0 hu)) (hS12.same _ hb116.1 hb116.2) ?_
  replace ⟨y135, hy135, h⟩ := obind h
  have q := W_s_Needs (w0 := w21.drew) hy135 rfl (hS12.rB hr95) rfl (hS12.rB hr92) rfl (hS12.rB hr119)
  refine AW.one (i := 18) (by kernel_rfl) ?_
  refine ⟨_, rfl, ?_⟩
  refine LW.call pl42 rfl rfl ?_
  refine Ret.mono q ?_
  rintro _ w138 ⟨a136, c137, rfl, hs⟩
  have hS13 := hS12.add hs
  refine LW.nil ⟨rfl, (.w (by kernel_rfl) (.c (St.cell (h := hS13) (i := 2) rfl) (.w (by kernel_rfl) (.c (St.cell (h := hS13) (i := 2) rfl) (.w (by kernel_rfl) (.c (St.cell (h := hS13) (i := 2) rfl) Kept.n)))))), ?_⟩
  refine AW.u (i := 19) rfl (by kernel_rfl) rfl rfl (Pur.p rfl) ?_
  refine AW.done (by kernel_rfl) ?_
  refine go ?_
  cases h
  exact And.intro trivial ⟨_, Res.one (resOne.t rfl), a136, c137, rfl, hS13.pick [0] rfl rfl⟩

theorem W_i_Owning {w0 : World} {N : Nat} {x0 : DWorld} {x1 : Int} {x2 : DCall} {r : (List Int)} (h : F_i_Owning N x0 x1 x2 = some r) {a0_1 : Option Addr} {n0_1 c0_1 : Nat} (hn0_1 : n0_1 = x0.parts.length) (hr0_1 : rdS (Bor w0 []) w0 a0_1 c0_1 x0.parts) :
    Ret Tryz.prog 14 #[.agg #[.int .i64 x0.now, .slice a0_1 n0_1 c0_1], .int .i64 x1, .agg #[.int .i64 x2.kind, .int .i64 x2.a, .int .i64 x2.b, .int .i64 x2.c, .int .i64 x2.d, .int .i64 x2.e]] w0 (fun v w => ∃ ar0 cr0, v = .slice ar0 r.length cr0 ∧ St w0 [] w [sl ar0 cr0 r]) := by
  subst hn0_1
  unfold F_i_Owning at h
  refine Ret.fn Tryz.func14 fun e => ?_
  have hS1 := St.start w0
  refine go ?_
  refine LW.bo hS1 fun g1 w2 hS2 => ?_
  refine LW.bo hS2 fun g3 w4 hS3 => ?_
  refine gs ?_
  obtain ⟨j5, hj5, h6⟩ := obind h
  refine CW.cut (fun e wb => En e [(1, .int .i64 x1), (3, .pointer (some ⟨g1, 0, none⟩)), (5, .pointer (some ⟨g3, 0, none⟩)), (19, .bool j5)] ∧ St w0 [] wb [bx g3 34 [.int .i64 x2.kind, .int .i64 x2.a, .int .i64 x2.b, .int .i64 x2.c, .int .i64 x2.d, .int .i64 x2.e], bx g1 32 [.int .i64 x0.now, .slice a0_1 x0.parts.length c0_1]]) ?_ ?_
  · have h := hj5
    refine go ?_
    replace ⟨y7, hy7, h⟩ := obind h
    refine LW.c0 (W_i_WorldOk hy7 rfl (hS3.rB hr0_1)) hS3 fun w8 hS4 => ?_
    refine go ?_
    rcases bcases (!y7) with hc9 | hc9
    · replace h := bcT h hc9
      refine go ?_
      cases oi h
      exact ⟨⟨rfl, rfl, rfl, rfl, trivial⟩, hS4.pick [0, 1] rfl rfl⟩
    replace h := bcF h hc9
    refine go ?_
    replace ⟨y10, hy10, h⟩ := obind h
    refine go ?_
    refine LW.c0 (W_i_hasPart hy10 rfl (hS4.rB hr0_1)) hS4 fun w11 hS5 => ?_
    refine go ?_
    cases oi h
    exact ⟨⟨rfl, rfl, rfl, rfl, trivial⟩, hS5.pick [0, 1] rfl rfl⟩
  rintro e w12 ⟨hE, hS6⟩
  obtain ⟨e, rfl⟩ := hE.out
  have h := h6
  refine go ?_
  refine CW.cond rfl (fun hc13 => ?_) (fun hc13 => ?_)
  · replace h := bcT h hc13
    refine go ?_
    cases h
    have hS7 := hS6.nil (α := Int)
    exact And.intro trivial ⟨_, Res.one (resOne.t rfl), none, 0, rfl, hS7.pick [0] rfl rfl⟩
  replace h := bcF h hc13
  refine go ?_
  replace ⟨y14, hy14, h⟩ := obind h
  refine LW.c0 (W_i_otherPart hy14 rfl (hS6.rB hr0_1)) hS6 fun w15 hS8 => ?_
  refine go ?_
  refine CW.cond rfl (fun hc16 => ?_) (fun hc16 => ?_)
  · replace h := bcT h hc16
    refine go ?_
    cases h
    have hS9 := hS8.nil (α := Int)
    exact And.intro trivial ⟨_, Res.one (resOne.t rfl), none, 0, rfl, hS9.pick [0] rfl rfl⟩
  replace h := bcF h hc16
  refine gs ?_
  obtain ⟨j17, hj17, h18⟩ := obind h
  refine CW.cut (fun e wb => ∃ (j17g9 : Nat), ∃ (j17g10 : Nat), ∃ (j17a2 : Option Addr), ∃ (j17c2 : Nat), ∃ (j17h2 : rdS (Bor w0 []) w0 j17a2 j17c2 j17.1), ∃ (j17a5 : Option Addr), ∃ (j17c5 : Nat), ∃ (j17h5 : rdS (Bor w0 []) w0 j17a5 j17c5 j17.2.1), ∃ (j17a8 : Option Addr), ∃ (j17c8 : Nat), ∃ (j17h8 : rdS (Bor w0 []) w0 j17a8 j17c8 j17.2.2), En e [(5, .pointer (some ⟨g3, 0, none⟩)), (8, .slice j17a2 j17.1.length j17c2), (9, .pointer (some ⟨j17g9, 0, none⟩)), (10, .pointer (some ⟨j17g10, 0, none⟩))] ∧ St w0 [] wb [bx g3 34 [.int .i64 x2.kind, .int .i64 x2.a, .int .i64 x2.b, .int .i64 x2.c, .int .i64 x2.d, .int .i64 x2.e], bx j17g9 57 [.slice j17a5 j17.2.1.length j17c5], bx j17g10 57 [.slice j17a8 j17.2.2.length j17c8]]) ?_ ?_
  · have h := hj17
    refine CW.draw (by kernel_rfl) ?_
    have hS10 := hS8.drew
    refine AW.u (i := 0) rfl (by kernel_rfl) rfl rfl (Pur.fa fo32_1 rfl) ?_
    refine AW.take (i := 1) rfl (by kernel_rfl) rfl rfl (Ldr.box (bt := 32) (fr := (0, 0)) (cs := [.int .i64 x0.now, .slice a0_1 x0.parts.length c0_1]) ag30 rfl rfl) (St.cell (h := hS10) (i := 1) rfl) ?_
    refine AW.u (i := 2) rfl (by kernel_rfl) rfl rfl (Pur.p rfl) ?_
    replace ⟨y19, hy19, h⟩ := obind h
    obtain ⟨b22, o23, cs24, hae, hb27, hp20, hq21, hd25, hk26⟩ := hr0_1.idx hy19
    subst hae
    obtain ⟨a28, c29, a31, c32, a34, c35, a37, c38, a40, c41, a43, c44, rfl, hr30, hr33, hr36, hr39, hr42, hr45⟩ := hd25
    refine AW.u (i := 3) rfl (by kernel_rfl) rfl rfl (Pur.ix Tryz.underlying30 sz66 rfl rfl hp20 hq21) ?_
    refine AW.u (i := 4) rfl (by kernel_rfl) rfl rfl (Pur.fa fo66_1 rfl) ?_
    refine AW.take (i := 5) rfl (by kernel_rfl) rfl rfl (Ldr.old w0 ag28 rfl (hk26 1 _ rfl)) (hS10.same _ hb27.1 hb27.2) ?_
    refine AW.u (i := 6) rfl (by kernel_rfl) rfl rfl (Pur.fa fo32_1 rfl) ?_
    refine AW.take (i := 7) rfl (by kernel_rfl) rfl rfl (Ldr.box (bt := 32) (fr := (0, 0)) (cs := [.int .i64 x0.now, .slice (some ⟨b22, o23, none⟩) x0.parts.length c0_1]) ag30 rfl rfl) (St.cell (h := hS10) (i := 1) rfl) ?_
    refine AW.u (i := 8) rfl (by kernel_rfl) rfl rfl (Pur.p rfl) ?_
    refine AW.u (i := 9) rfl (by kernel_rfl) rfl rfl (Pur.ix Tryz.underlying30 sz66 rfl rfl hp20 hq21) ?_
    refine AW.u (i := 10) rfl (by kernel_rfl) rfl rfl (Pur.fa fo66_0 rfl) ?_
    refine AW.take (i := 11) rfl (by kernel_rfl) rfl rfl (Ldr.oldN w0 ag57 rfl rfl (fun j u hu => oldsub (m := 1) hk26 0 hu)) (hS10.same _ hb27.1 hb27.2) ?_
    refine AW.u (i := 12) rfl (by kernel_rfl) rfl rfl (Pur.fa fo32_1 rfl) ?_
    refine AW.take (i := 13) rfl (by kernel_rfl) rfl rfl (Ldr.box (bt := 32) (fr := (0, 0)) (cs := [.int .i64 x0.now, .slice (some ⟨b22, o23, none⟩) x0.parts.length c0_1]) ag30 rfl rfl) (St.cell (h := hS10) (i := 1) rfl) ?_
    refine AW.u (i := 14) rfl (by kernel_rfl) rfl rfl (Pur.p rfl) ?_
    replace ⟨y46, hy46, h⟩ := obind h
    obtain ⟨b49, o50, cs51, hae, hb54, hp47, hq48, hd52, hk53⟩ := hr0_1.idx hy46
    cases hae
    obtain ⟨a55, c56, a58, c59, a61, c62, a64, c65, a67, c68, a70, c71, rfl, hr57, hr60, hr63, hr66, hr69, hr72⟩ := hd52
    refine AW.u (i := 15) rfl (by kernel_rfl) rfl rfl (Pur.ix Tryz.underlying30 sz66 rfl rfl hp47 hq48) ?_
    refine AW.u (i := 16) rfl (by kernel_rfl) rfl rfl (Pur.fa fo66_0 rfl) ?_
    refine AW.take (i := 17) rfl (by kernel_rfl) rfl rfl (Ldr.oldN w0 ag57 rfl rfl (fun j u hu => oldsub (m := 1) hk53 0 hu)) (hS10.same _ hb54.1 hb54.2) ?_
    refine AW.all (rs := [18, 19]) (by kernel_rfl) (by simp) ⟨?_, ?_, trivial⟩
    · refine ⟨_, rfl, ?_⟩
      refine LW.al hS10 fun g77 w78 hS11 => ?_
      refine LW.nil ⟨rfl, (.c (hS11.same _ hb54.1 hb54.2) (.c (St.cell (h := hS11) (i := 2) rfl) (.c (hS11.same _ hb27.1 hb27.2) (.c (St.cell (h := hS11) (i := 2) rfl) (.c (hS11.same _ hb27.1 hb27.2) (.c (St.cell (h := hS11) (i := 2) rfl) Kept.n)))))), ?_⟩
      refine AW.one (i := 19) (by kernel_rfl) ?_
      refine ⟨_, rfl, ?_⟩
      refine LW.al hS11 fun g79 w80 hS12 => ?_
      refine LW.nil ⟨rfl, (.c (hS12.same _ hb54.1 hb54.2) (.c (St.cell (h := hS12) (i := 3) rfl) (.c (hS12.same _ hb27.1 hb27.2) (.c (St.cell (h := hS12) (i := 3) rfl) (.c (hS12.same _ hb27.1 hb27.2) (.c (St.cell (h := hS12) (i := 3) rfl) Kept.n)))))), ?_⟩
      refine AW.u (i := 20) rfl (by kernel_rfl) rfl rfl (Pur.p rfl) ?_
      refine AW.one (i := 21) (by kernel_rfl) ?_
      refine ⟨_, rfl, ?_⟩
      refine LW.st hS12 1 fun w81 hS13 => ?_
      refine LW.nil ⟨rfl, (.c (hS13.same _ hb54.1 hb54.2) (.c (St.cell (h := hS13) (i := 3) rfl) (.w (by kernel_rfl) (.w (by kernel_rfl) (.w (by kernel_rfl) (.w (by kernel_rfl) Kept.n)))))), ?_⟩
      refine AW.one (i := 22) (by kernel_rfl) ?_
      refine ⟨_, rfl, ?_⟩
      refine LW.st hS13 0 fun w82 hS14 => ?_
      refine LW.nil ⟨rfl, (.w (by kernel_rfl) (.w (by kernel_rfl) (.w (by kernel_rfl) (.w (by kernel_rfl) (.w (by kernel_rfl) (.w (by kernel_rfl) Kept.n)))))), ?_⟩
      refine AW.done (by kernel_rfl) ?_
      cases oi h
      exact ⟨g77, g79, a31, c32, hr33, a28, c29, hr30, a55, c56, hr57, ⟨rfl, rfl, rfl, rfl, trivial⟩, hS14.pick [2, 1, 0] rfl rfl⟩
    refine ⟨_, rfl, ?_⟩
    refine LW.al hS10 fun g83 w84 hS15 => ?_
    refine LW.nil ⟨rfl, (.c (hS15.same _ hb54.1 hb54.2) (.c (St.cell (h := hS15) (i := 2) rfl) (.c (hS15.same _ hb27.1 hb27.2) (.c (St.cell (h := hS15) (i := 2) rfl) (.c (hS15.same _ hb27.1 hb27.2) (.c (St.cell (h := hS15) (i := 2) rfl) Kept.n)))))), ?_⟩
    refine AW.one (i := 18) (by kernel_rfl) ?_
    refine ⟨_, rfl, ?_⟩
    refine LW.al hS15 fun g85 w86 hS16 => ?_
    refine LW.nil ⟨rfl, (.c (hS16.same _ hb54.1 hb54.2) (.c (St.cell (h := hS16) (i := 3) rfl) (.c (hS16.same _ hb27.1 hb27.2) (.c (St.cell (h := hS16) (i := 3) rfl) (.c (hS16.same _ hb27.1 hb27.2) (.c (St.cell (h := hS16) (i := 3) rfl) Kept.n)))))), ?_⟩
    refine AW.u (i := 20) rfl (by kernel_rfl) rfl rfl (Pur.p rfl) ?_
    refine AW.one (i := 21) (by kernel_rfl) ?_
    refine ⟨_, rfl, ?_⟩
    refine LW.st hS16 0 fun w87 hS17 => ?_
    refine LW.nil ⟨rfl, (.c (hS17.same _ hb54.1 hb54.2) (.c (St.cell (h := hS17) (i := 3) rfl) (.w (by kernel_rfl) (.w (by kernel_rfl) (.w (by kernel_rfl) (.w (by kernel_rfl) Kept.n)))))), ?_⟩
    refine AW.one (i := 22) (by kernel_rfl) ?_
    refine ⟨_, rfl, ?_⟩
    refine LW.st hS17 1 fun w88 hS18 => ?_
    refine LW.nil ⟨rfl, (.w (by kernel_rfl) (.w (by kernel_rfl) (.w (by kernel_rfl) (.w (by kernel_rfl) (.w (by kernel_rfl) (.w (by kernel_rfl) Kept.n)))))), ?_⟩
    refine AW.done (by kernel_rfl) ?_
    cases oi h
    exact ⟨g85, g83, a31, c32, hr33, a28, c29, hr30, a55, c56, hr57, ⟨rfl, rfl, rfl, rfl, trivial⟩, hS18.pick [2, 0, 1] rfl rfl⟩
  rintro e w89 ⟨j17g9, j17g10, j17a2, j17c2, j17h2, j17a5, j17c5, j17h5, j17a8, j17c8, j17h8, hE, hS19⟩
  obtain ⟨e, rfl⟩ := hE.out
  have h := h18
  refine go ?_
  refine CW.fl [8, 9, 10, 46] fun e => ?_
  refine CW.cond rfl (fun hc90 => ?_) (fun hc90 => ?_)
  · replace h := bcT h hc90
    refine go ?_
    replace ⟨y91, hy91, h⟩ := obind h
    refine LW.cl (W_i_Needs hy91 rfl (hS19.rB j17h2) rfl (hS19.rB j17h8) rfl (hS19.rB j17h5)) ?_
    rintro _ w94 ⟨a92, c93, rfl, hs⟩
    have hS20 := hS19.add hs
    refine go ?_
    cases h
    exact And.intro trivial ⟨_, Res.one (resOne.t rfl), a92, c93, rfl, hS20.pick [0] rfl rfl⟩
  replace h := bcF h hc90
  refine go ?_
  replace ⟨y95, hy95, h⟩ := obind h
  refine LW.cl (W_i_Needs hy95 rfl (hS19.rB j17h2) rfl (hS19.rB j17h5) rfl (hS19.rB j17h8)) ?_
  rintro _ w98 ⟨a96, c97, rfl, hs⟩
  have hS21 := hS19.add hs
  refine go ?_
  cases h
  exact And.intro trivial ⟨_, Res.one (resOne.t rfl), a96, c97, rfl, hS21.pick [0] rfl rfl⟩

end Go.Kx
