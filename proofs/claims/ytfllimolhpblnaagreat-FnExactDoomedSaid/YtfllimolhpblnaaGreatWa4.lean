/- Each call returns what the plain function says. Printed by drive.py. -/
import Derived.Test.YtfllimolhpblnaaGreatFa
import Derived.Test.YtfllimolhpblnaaGreatPu
import Derived.Test.YtfllimolhpblnaaGreatWa0
import Derived.Test.YtfllimolhpblnaaGreatWa1
import Derived.Test.YtfllimolhpblnaaGreatWa2
import Derived.Test.YtfllimolhpblnaaGreatWa3
namespace Go.Kx
open Go Go.RowKit Go.Proofs
set_option maxRecDepth 10000
set_option maxHeartbeats 2000000
set_option linter.unusedVariables false
set_option linter.unusedSimpArgs false
theorem W_l_eqObj {w0 : World} {N : Nat} {x0 : DObj} {x1 : DObj} {r : Bool} (h : F_l_eqObj N x0 x1 = some r) {a0_10 : Option Addr} {n0_10 c0_10 : Nat} (hn0_10 : n0_10 = x0.links.length) (hr0_10 : rdS (Bor w0 []) w0 a0_10 c0_10 x0.links) {a0_11 : Option Addr} {n0_11 c0_11 : Nat} (hn0_11 : n0_11 = x0.data.length) (hr0_11 : rdS (Bor w0 []) w0 a0_11 c0_11 x0.data) {a0_12 : Option Addr} {n0_12 c0_12 : Nat} (hn0_12 : n0_12 = x0.queue.length) (hr0_12 : rdS (Bor w0 []) w0 a0_12 c0_12 x0.queue) {a1_10 : Option Addr} {n1_10 c1_10 : Nat} (hn1_10 : n1_10 = x1.links.length) (hr1_10 : rdS (Bor w0 []) w0 a1_10 c1_10 x1.links) {a1_11 : Option Addr} {n1_11 c1_11 : Nat} (hn1_11 : n1_11 = x1.data.length) (hr1_11 : rdS (Bor w0 []) w0 a1_11 c1_11 x1.data) {a1_12 : Option Addr} {n1_12 c1_12 : Nat} (hn1_12 : n1_12 = x1.queue.length) (hr1_12 : rdS (Bor w0 []) w0 a1_12 c1_12 x1.queue) :
    Ret Tryz.prog 198 #[.agg #[.int .i64 x0.gen, .int .i64 x0.kind, .int .i64 x0.box, .int .i64 x0.res, .int .i64 x0.til, .int .i64 x0.pages, .int .i64 x0.wait, .int .i64 x0.got, .int .i64 x0.ran, .bool x0.mark, .slice a0_10 n0_10 c0_10, .slice a0_11 n0_11 c0_11, .slice a0_12 n0_12 c0_12], .agg #[.int .i64 x1.gen, .int .i64 x1.kind, .int .i64 x1.box, .int .i64 x1.res, .int .i64 x1.til, .int .i64 x1.pages, .int .i64 x1.wait, .int .i64 x1.got, .int .i64 x1.ran, .bool x1.mark, .slice a1_10 n1_10 c1_10, .slice a1_11 n1_11 c1_11, .slice a1_12 n1_12 c1_12]] w0 (fun v w => v = .bool r ∧ St w0 [] w []) := by
  subst hn0_10 hn0_11 hn0_12 hn1_10 hn1_11 hn1_12
  unfold F_l_eqObj at h
  refine Ret.fn Tryz.func198 fun e => ?_
  have hS1 := St.start w0
  refine go ?_
  refine LW.bo hS1 fun g1 w2 hS2 => ?_
  refine LW.bo hS2 fun g3 w4 hS3 => ?_
  refine go ?_
  refine CW.cond rfl (fun hc5 => ?_) (fun hc5 => ?_)
  · replace h := bcT h hc5
    refine go ?_
    cases h
    exact And.intro trivial ⟨_, Res.one (resOne.t rfl), rfl, hS3.pick [] rfl rfl⟩
  replace h := bcF h hc5
  refine go ?_
  refine CW.fl [2, 3, 14] fun e => ?_
  refine CW.cond rfl (fun hc6 => ?_) (fun hc6 => ?_)
  · replace h := bcT h hc6
    refine go ?_
    cases h
    exact And.intro trivial ⟨_, Res.one (resOne.t rfl), rfl, hS3.pick [] rfl rfl⟩
  replace h := bcF h hc6
  refine go ?_
  refine CW.cond rfl (fun hc7 => ?_) (fun hc7 => ?_)
  · replace h := bcT h hc7
    refine go ?_
    cases h
    exact And.intro trivial ⟨_, Res.one (resOne.t rfl), rfl, hS3.pick [] rfl rfl⟩
  replace h := bcF h hc7
  refine go ?_
  refine CW.cond rfl (fun hc8 => ?_) (fun hc8 => ?_)
  · replace h := bcT h hc8
    refine go ?_
    cases h
    exact And.intro trivial ⟨_, Res.one (resOne.t rfl), rfl, hS3.pick [] rfl rfl⟩
  replace h := bcF h hc8
  refine go ?_
  refine CW.fl [2, 3, 29] fun e => ?_
  refine CW.cond rfl (fun hc9 => ?_) (fun hc9 => ?_)
  · replace h := bcT h hc9
    refine go ?_
    cases h
    exact And.intro trivial ⟨_, Res.one (resOne.t rfl), rfl, hS3.pick [] rfl rfl⟩
  replace h := bcF h hc9
  refine go ?_
  refine CW.cond rfl (fun hc10 => ?_) (fun hc10 => ?_)
  · replace h := bcT h hc10
    refine go ?_
    cases h
    exact And.intro trivial ⟨_, Res.one (resOne.t rfl), rfl, hS3.pick [] rfl rfl⟩
  replace h := bcF h hc10
  refine go ?_
  refine CW.cond rfl (fun hc11 => ?_) (fun hc11 => ?_)
  · replace h := bcT h hc11
    refine go ?_
    cases h
    exact And.intro trivial ⟨_, Res.one (resOne.t rfl), rfl, hS3.pick [] rfl rfl⟩
  replace h := bcF h hc11
  refine go ?_
  refine CW.fl [2, 3, 44] fun e => ?_
  refine CW.cond rfl (fun hc12 => ?_) (fun hc12 => ?_)
  · replace h := bcT h hc12
    refine go ?_
    cases h
    exact And.intro trivial ⟨_, Res.one (resOne.t rfl), rfl, hS3.pick [] rfl rfl⟩
  replace h := bcF h hc12
  refine go ?_
  refine CW.cond rfl (fun hc13 => ?_) (fun hc13 => ?_)
  · replace h := bcT h hc13
    refine go ?_
    cases h
    exact And.intro trivial ⟨_, Res.one (resOne.t rfl), rfl, hS3.pick [] rfl rfl⟩
  replace h := bcF h hc13
  refine go ?_
  refine LW.u (Pur.bne Tryz.underlying4 rfl rfl) rfl ?_
  refine go ?_
  refine CW.cond rfl (fun hc14 => ?_) (fun hc14 => ?_)
  · replace h := bcT h hc14
    refine go ?_
    cases h
    exact And.intro trivial ⟨_, Res.one (resOne.t rfl), rfl, hS3.pick [] rfl rfl⟩
  replace h := bcF h hc14
  refine go ?_
  replace ⟨y15, hy15, h⟩ := obind h
  refine LW.c0 (W_l_eqIntS hy15 rfl (hS3.rB hr0_10) rfl (hS3.rB hr1_10)) hS3 fun w16 hS4 => ?_
  refine go ?_
  refine CW.fl [2, 3, 60] fun e => ?_
  refine CW.cond rfl (fun hc17 => ?_) (fun hc17 => ?_)
  · replace h := bcT h hc17
    refine go ?_
    cases h
    exact And.intro trivial ⟨_, Res.one (resOne.t rfl), rfl, hS4.pick [] rfl rfl⟩
  replace h := bcF h hc17
  refine go ?_
  replace ⟨y18, hy18, h⟩ := obind h
  refine LW.c0 (W_l_eqIntS hy18 rfl (hS4.rB hr0_11) rfl (hS4.rB hr1_11)) hS4 fun w19 hS5 => ?_
  refine go ?_
  refine CW.cond rfl (fun hc20 => ?_) (fun hc20 => ?_)
  · replace h := bcT h hc20
    refine go ?_
    cases h
    exact And.intro trivial ⟨_, Res.one (resOne.t rfl), rfl, hS5.pick [] rfl rfl⟩
  replace h := bcF h hc20
  refine go ?_
  replace ⟨y21, hy21, h⟩ := obind h
  refine LW.c0 (W_l_eqMsgS hy21 rfl (hS5.rB hr0_12) rfl (hS5.rB hr1_12)) hS5 fun w22 hS6 => ?_
  refine go ?_
  refine CW.cond rfl (fun hc23 => ?_) (fun hc23 => ?_)
  · replace h := bcT h hc23
    refine go ?_
    cases h
    exact And.intro trivial ⟨_, Res.one (resOne.t rfl), rfl, hS6.pick [] rfl rfl⟩
  replace h := bcF h hc23
  refine go ?_
  cases h
  exact And.intro trivial ⟨_, Res.one (resOne.t rfl), rfl, hS6.pick [] rfl rfl⟩

theorem W_l_szHeap {w0 : World} {N : Nat} {x0 : DHeap} {x1 : Int} {r : Int} (h : F_l_szHeap N x0 x1 = some r) {a0_0 : Option Addr} {n0_0 c0_0 : Nat} (hn0_0 : n0_0 = x0.arena.length) (hr0_0 : rdS (Bor w0 []) w0 a0_0 c0_0 x0.arena) {a0_4 : Option Addr} {n0_4 c0_4 : Nat} (hn0_4 : n0_4 = x0.gc.grey.length) (hr0_4 : rdS (Bor w0 []) w0 a0_4 c0_4 x0.gc.grey) :
    Ret Tryz.prog 57 #[.agg #[.slice a0_0 n0_0 c0_0, .int .i64 x0.gc.phase, .int .i64 x0.gc.pos, .int .i64 x0.gc.round, .slice a0_4 n0_4 c0_4], .int .i64 x1] w0 (fun v w => v = .int .i64 r ∧ St w0 [] w []) := by
  subst hn0_0 hn0_4
  unfold F_l_szHeap at h
  refine Ret.fn Tryz.func57 fun e => ?_
  have hS1 := St.start w0
  refine go ?_
  refine LW.bo hS1 fun g1 w2 hS2 => ?_
  refine go ?_
  replace ⟨y3, hy3, h⟩ := obind h
  refine LW.c0 (W_l_szObjS hy3 rfl (hS2.rB hr0_0)) hS2 fun w4 hS3 => ?_
  refine go ?_
  refine CW.cond rfl (fun hc5 => ?_) (fun hc5 => ?_)
  · replace h := bcT h hc5
    refine go ?_
    cases h
    exact And.intro trivial ⟨_, Res.one (resOne.t rfl), rfl, hS3.pick [] rfl rfl⟩
  replace h := bcF h hc5
  refine go ?_
  replace ⟨y6, hy6, h⟩ := obind h
  refine LW.c0 (W_l_szGc hy6 rfl (hS3.rB hr0_4)) hS3 fun w7 hS4 => ?_
  refine go ?_
  refine CW.fl [1, 16] fun e => ?_
  refine CW.cond rfl (fun hc8 => ?_) (fun hc8 => ?_)
  · replace h := bcT h hc8
    refine go ?_
    cases h
    exact And.intro trivial ⟨_, Res.one (resOne.t rfl), rfl, hS4.pick [] rfl rfl⟩
  replace h := bcF h hc8
  refine go ?_
  cases h
  exact And.intro trivial ⟨_, Res.one (resOne.t rfl), rfl, hS4.pick [] rfl rfl⟩

theorem W_l_toObjS {w0 : World} {N : Nat} {x0 : List DObj} {r : (List DObj)} (h : F_l_toObjS N x0 = some r) {a0_0 : Option Addr} {n0_0 c0_0 : Nat} (hn0_0 : n0_0 = x0.length) (hr0_0 : rdS (Bor w0 []) w0 a0_0 c0_0 x0) :
    Ret Tryz.prog 136 #[.slice a0_0 n0_0 c0_0] w0 (fun v w => ∃ ar0 cr0, v = .slice ar0 r.length cr0 ∧ St w0 [] w [sl ar0 cr0 r]) := by
  subst hn0_0
  unfold F_l_toObjS at h
  refine Ret.fn Tryz.func136 fun e => ?_
  have hS1 := St.start w0
  refine go ?_
  replace ⟨y1, hy1, h⟩ := obind h
  refine LW.mk sT59 rfl rfl hy1 hS1 rfl ?_
  intro a2 c3 w4 hS2 hf
  refine go ?_
  obtain ⟨o41, ho41, h42⟩ := obind h
  refine CW.mono (CW.iter (σ := (List DObj) × Int) (ρ := (List DObj) × Int) (fun s5 e wb => En e [(0, .slice a0_0 x0.length c0_0), (3, .slice a2 s5.1.length c3), (4, .int .i64 s5.2)] ∧ St w0 [] wb [sl a2 c3 s5.1]) (fun s5 x e wb => x = .exit 0 ∧ En e [(3, .slice a2 s5.1.length c3)] ∧ St w0 [] wb [sl a2 c3 s5.1]) ?_ N (y1, 0) _ _ _ ⟨⟨rfl, rfl, rfl, trivial⟩, hS2.pick [0] rfl rfl⟩ ho41) ?_
  · intro s5 e w6 o hM h
    obtain ⟨hE, hS3⟩ := hM
    obtain ⟨e, rfl⟩ := hE.out
    refine go ?_
    refine CW.cond rfl (fun hc7 => ?_) (fun hc7 => ?_)
    · replace h := bcT h hc7
      refine go ?_
      replace ⟨y8, hy8, h⟩ := obind h
      obtain ⟨b11, o12, cs13, hae, hb16, hp9, hq10, hd14, hk15⟩ := hr0_0.idx hy8
      subst hae
      obtain ⟨a17, c18, a20, c21, a23, c24, rfl, hr19, hr22, hr25⟩ := hd14
      refine LW.u (Pur.ix Tryz.underlying46 sz186 rfl rfl hp9 hq10) rfl ?_
      refine LW.l (Ldr.oldN w0 ag186 rfl rfl (fun j u hu => hk15 j u hu)) (hS3.same _ hb16.1 hb16.2) rfl ?_
      replace ⟨y26, hy26, h⟩ := obind h
      refine LW.cl (W_l_toObj hy26 rfl (hS3.rB hr19) rfl (hS3.rB hr22) rfl (hS3.rB hr25)) ?_
      rintro _ w33 ⟨a27, c28, a29, c30, a31, c32, rfl, hs⟩
      have hS4 := hS3.add hs
      replace ⟨y34, hy34, h⟩ := obind h
      obtain ⟨b37, o38, hae, hp35, hq36⟩ := hS4.ownIdx (α := DObj) (i := 3) rfl hy34
      subst hae
      refine LW.u (Pur.ix Tryz.underlying59 sz92 rfl rfl hp35 hq36) rfl ?_
      have hS5 := hS4.pick (M := [sl a27 c28 y26.links, sl a29 c30 y26.data, sl a31 c32 y26.queue] ++ [sl (some ⟨b37, o38, none⟩) c3 s5.1]) [0, 1, 2, 3] rfl rfl
      replace ⟨y39, hy39, h⟩ := obind h
      refine LW.stE (M := [sl a27 c28 y26.links, sl a29 c30 y26.data, sl a31 c32 y26.queue]) (L := [sl (some ⟨b37, o38, none⟩) c3 s5.1]) (z := y34) (z' := y26) (o := 0) hS5 (i := 0) rfl hy34 ag92 rfl (by show _ = o38 + (s5.2 : Int).toNat * 13 + 0; omega) rfl rfl rfl rfl (whole (fun w G hG => ⟨a27, c28, a29, c30, a31, c32, rfl, hG⟩)) ?_
      intro w40 hS6 hf
      rw [Option.some.inj hy39] at hS6
      refine go ?_
      replace h := Option.some.inj h
      subst h
      exact ⟨rfl, ⟨⟨rfl, (show (.slice (some ⟨b37, o38, none⟩) s5.1.length c3 : Value) = .slice (some ⟨b37, o38, none⟩) y39.length c3 by rw [show s5.1.length = y39.length from (len_set (Option.some.inj hy39))]), rfl, trivial⟩, hS6.pick [0] rfl rfl⟩⟩
    replace h := bcF h hc7
    refine go ?_
    cases oi h
    exact ⟨trivial, rfl, ⟨⟨rfl, trivial⟩, hS3.pick [0] rfl rfl⟩⟩
  intro x e w43 hM
  obtain ⟨rfl, hM⟩ := hM
  obtain ⟨hE, hS7⟩ := hM
  obtain ⟨e, rfl⟩ := hE.out
  have h := h42
  refine go ?_
  cases h
  exact And.intro trivial ⟨_, Res.one (resOne.t rfl), a2, c3, rfl, hS7.pick [0] rfl rfl⟩

theorem W_s_TreeOk {w0 : World} {N : Nat} {x0 : List DRes} {r : Bool} (h : F_s_TreeOk N x0 = some r) {a0_0 : Option Addr} {n0_0 c0_0 : Nat} (hn0_0 : n0_0 = x0.length) (hr0_0 : rdS (Bor w0 []) w0 a0_0 c0_0 x0) :
    Ret Tryz.prog 128 #[.slice a0_0 n0_0 c0_0] w0 (fun v w => v = .bool r ∧ St w0 [] w []) := by
  subst hn0_0
  unfold F_s_TreeOk at h
  refine Ret.fn Tryz.func128 fun e => ?_
  have hS1 := St.start w0
  refine gs ?_
  refine CW.region ?_
  refine gs ?_
  obtain ⟨j1, hj1, h2⟩ := obind h
  refine CW.cut (fun e wb => En e [(0, .slice a0_0 x0.length c0_0), (23, .bool j1)] ∧ St w0 [] wb []) ?_ ?_
  · have h := hj1
    refine go ?_
    rcases bcases ((x0.length : Int) != 5) with hc3 | hc3
    · replace h := bcT h hc3
      refine go ?_
      cases oi h
      exact ⟨⟨rfl, rfl, trivial⟩, hS1.pick [] rfl rfl⟩
    replace h := bcF h hc3
    refine go ?_
    replace ⟨y4, hy4, h⟩ := obind h
    obtain ⟨b7, o8, cs9, hae, hb12, hp5, hq6, hd10, hk11⟩ := hr0_0.idx hy4
    subst hae
    obtain rfl := hd10
    refine go ?_
    refine LW.u (Pur.ix Tryz.underlying58 sz152 rfl rfl hp5 hq6) rfl ?_
    refine go ?_
    refine LW.l (Ldr.old w0 ag4 rfl (hk11 0 _ rfl)) (hS1.same _ hb12.1 hb12.2) rfl ?_
    refine go ?_
    rcases bcases (!y4.live) with hc13 | hc13
    · replace h := bcT h hc13
      refine go ?_
      cases oi h
      exact ⟨⟨rfl, rfl, trivial⟩, hS1.pick [] rfl rfl⟩
    replace h := bcF h hc13
    refine go ?_
    refine LW.u (Pur.ix Tryz.underlying58 sz152 rfl rfl hp5 hq6) rfl ?_
    refine go ?_
    refine LW.l (Ldr.old w0 ag3 rfl (hk11 1 _ rfl)) (hS1.same _ hb12.1 hb12.2) rfl ?_
    refine go ?_
    cases oi h
    exact ⟨⟨rfl, rfl, trivial⟩, hS1.pick [] rfl rfl⟩
  rintro e w14 ⟨hE, hS2⟩
  obtain ⟨e, rfl⟩ := hE.out
  have h := h2
  refine go ?_
  refine CW.cond rfl (fun hc15 => ?_) (fun hc15 => ?_)
  · replace h := bcT h hc15
    refine go ?_
    cases h
    exact And.intro trivial ⟨_, Res.one (resOne.t rfl), rfl, hS2.pick [] rfl rfl⟩
  replace h := bcF h hc15
  refine go ?_
  obtain ⟨o66, ho66, h67⟩ := obind h
  refine CW.mono (CW.iter (σ := Int) (ρ := Int ⊕ Bool) (fun s16 e wb => En e [(0, .slice a0_0 x0.length c0_0), (3, .int .i64 s16)] ∧ St w0 [] wb []) (fun o x e wb => match o with | .inl s16 => x = .exit 0 ∧ En e [(0, .slice a0_0 x0.length c0_0)] ∧ St w0 [] wb [] | .inr r => x = .ret ∧ ∃ u, u = r ∧ ∃ v, Res Tryz.prog Tryz.f128.results e wb v ∧ v = .bool u ∧ St w0 [] wb []) ?_ N 0 _ _ _ ⟨⟨rfl, rfl, trivial⟩, hS2.pick [] rfl rfl⟩ ho66) ?_
  · intro s16 e w17 o hM h
    obtain ⟨hE, hS3⟩ := hM
    obtain ⟨e, rfl⟩ := hE.out
    refine go ?_
    refine CW.cond rfl (fun hc18 => ?_) (fun hc18 => ?_)
    · replace h := bcT h hc18
      refine gs ?_
      refine CW.block ?_
      refine gs ?_
      obtain ⟨j19, hj19, h20⟩ := obind h
      refine CW.cut (fun e wb => En e [(0, .slice a0_0 x0.length c0_0), (3, .int .i64 s16), (52, .bool j19)] ∧ St w0 [] wb []) ?_ ?_
      · have h := hj19
        refine go ?_
        replace ⟨y21, hy21, h⟩ := obind h
        obtain ⟨b24, o25, cs26, hae, hb29, hp22, hq23, hd27, hk28⟩ := hr0_0.idx hy21
        subst hae
        obtain rfl := hd27
        refine LW.u (Pur.ix Tryz.underlying58 sz152 rfl rfl hp22 hq23) rfl ?_
        refine go ?_
        refine LW.l (Ldr.old w0 ag4 rfl (hk28 0 _ rfl)) (hS3.same _ hb29.1 hb29.2) rfl ?_
        refine go ?_
        rcases bcases (!y21.live) with hc30 | hc30
        · replace h := bcT h hc30
          refine go ?_
          refine LW.u (Pur.ix Tryz.underlying58 sz152 rfl rfl hp22 hq23) rfl ?_
          refine go ?_
          refine LW.l (Ldr.oldN w0 ag152 rfl rfl (fun j u hu => hk28 j u hu)) (hS3.same _ hb29.1 hb29.2) rfl ?_
          refine go ?_
          refine LW.u (Pur.build (vs := []) (cs := #[.bool false, .int .i64 0, .int .i64 0, .int .i64 0, .int .i64 0]) rfl (by kernel_rfl)) rfl ?_
          refine go ?_
          refine LW.u (Pur.ane eg152 rfl rfl (fun w => eq152 y21 (DRes.mk false 0 (DAmt.mk 0 0 0)) w)) rfl ?_
          refine go ?_
          rcases bcases (!decide (y21 = DRes.mk false 0 (DAmt.mk 0 0 0))) with hc31 | hc31
          · replace h := bcT h hc31
            refine go ?_
            cases oi h
            exact ⟨⟨rfl, rfl, rfl, trivial⟩, hS3.pick [] rfl rfl⟩
          replace h := bcF h hc31
          refine go ?_
          refine LW.fl [0, 3, 44, 45, 46] fun e => ?_
          refine go ?_
          refine LW.u (Pur.ix Tryz.underlying58 sz152 rfl rfl hp22 hq23) rfl ?_
          refine go ?_
          refine LW.l (Ldr.oldN w0 ag64 rfl rfl (fun j u hu => oldsub (m := 3) hk28 2 hu)) (hS3.same _ hb29.1 hb29.2) rfl ?_
          replace ⟨y32, hy32, h⟩ := obind h
          refine go ?_
          refine LW.c0 (W_s_AmtOk hy32) hS3 fun w33 hS4 => ?_
          refine go ?_
          cases oi h
          exact ⟨⟨rfl, rfl, rfl, trivial⟩, hS4.pick [] rfl rfl⟩
        replace h := bcF h hc30
        refine go ?_
        refine LW.fl [0, 3, 44, 45, 46] fun e => ?_
        refine go ?_
        refine LW.u (Pur.ix Tryz.underlying58 sz152 rfl rfl hp22 hq23) rfl ?_
        refine go ?_
        refine LW.l (Ldr.oldN w0 ag64 rfl rfl (fun j u hu => oldsub (m := 3) hk28 2 hu)) (hS3.same _ hb29.1 hb29.2) rfl ?_
        replace ⟨y34, hy34, h⟩ := obind h
        refine go ?_
        refine LW.c0 (W_s_AmtOk hy34) hS3 fun w35 hS5 => ?_
        refine go ?_
        cases oi h
        exact ⟨⟨rfl, rfl, rfl, trivial⟩, hS5.pick [] rfl rfl⟩
      rintro e w36 ⟨hE, hS6⟩
      obtain ⟨e, rfl⟩ := hE.out
      have h := h20
      refine go ?_
      refine CW.cond rfl (fun hc37 => ?_) (fun hc37 => ?_)
      · replace h := bcT h hc37
        refine go ?_
        cases oi h
        exact ⟨trivial, rfl, _, rfl, ⟨_, Res.one (resOne.t rfl), rfl, hS6.pick [] rfl rfl⟩⟩
      replace h := bcF h hc37
      refine gs ?_
      obtain ⟨j38, hj38, h39⟩ := obind h
      refine CW.cut (fun e wb => En e [(0, .slice a0_0 x0.length c0_0), (3, .int .i64 s16), (91, .bool j38)] ∧ St w0 [] wb []) ?_ ?_
      · have h := hj38
        refine go ?_
        rcases bcases (decide (s16 > 0)) with hc40 | hc40
        · replace h := bcT h hc40
          refine go ?_
          replace ⟨y41, hy41, h⟩ := obind h
          obtain ⟨b44, o45, cs46, hae, hb49, hp42, hq43, hd47, hk48⟩ := hr0_0.idx hy41
          subst hae
          obtain rfl := hd47
          refine go ?_
          refine LW.u (Pur.ix Tryz.underlying58 sz152 rfl rfl hp42 hq43) rfl ?_
          refine go ?_
          refine LW.l (Ldr.old w0 ag4 rfl (hk48 0 _ rfl)) (hS6.same _ hb49.1 hb49.2) rfl ?_
          refine go ?_
          rcases bcases y41.live with hc50 | hc50
          · replace h := bcT h hc50
            refine go ?_
            refine LW.u (Pur.ix Tryz.underlying58 sz152 rfl rfl hp42 hq43) rfl ?_
            refine go ?_
            refine LW.l (Ldr.old w0 ag3 rfl (hk48 1 _ rfl)) (hS6.same _ hb49.1 hb49.2) rfl ?_
            replace ⟨y51, hy51, h⟩ := obind h
            refine go ?_
            refine LW.c0 (W_s_l6Res hy51) hS6 fun w52 hS7 => ?_
            refine go ?_
            refine LW.fl [0, 3, 62, 70] fun e => ?_
            rcases bcases (!y51) with hc53 | hc53
            · replace h := bcT h hc53
              refine go ?_
              cases oi h
              exact ⟨⟨rfl, rfl, rfl, trivial⟩, hS7.pick [] rfl rfl⟩
            replace h := bcF h hc53
            refine go ?_
            refine LW.u (Pur.ix Tryz.underlying58 sz152 rfl rfl hp42 hq43) rfl ?_
            refine go ?_
            refine LW.l (Ldr.old w0 ag3 rfl (hk48 1 _ rfl)) (hS7.same _ hb49.1 hb49.2) rfl ?_
            refine go ?_
            rcases bcases (y41.parent == s16) with hc54 | hc54
            · replace h := bcT h hc54
              refine go ?_
              cases oi h
              exact ⟨⟨rfl, rfl, rfl, trivial⟩, hS7.pick [] rfl rfl⟩
            replace h := bcF h hc54
            refine go ?_
            refine LW.u (Pur.ix Tryz.underlying58 sz152 rfl rfl hp42 hq43) rfl ?_
            refine go ?_
            refine LW.l (Ldr.old w0 ag3 rfl (hk48 1 _ rfl)) (hS7.same _ hb49.1 hb49.2) rfl ?_
            replace ⟨y55, hy55, h⟩ := obind h
            obtain ⟨b58, o59, cs60, hae, hb63, hp56, hq57, hd61, hk62⟩ := hr0_0.idx hy55
            cases hae
            obtain rfl := hd61
            refine go ?_
            refine LW.u (Pur.ix Tryz.underlying58 sz152 rfl rfl hp56 hq57) rfl ?_
            refine go ?_
            refine LW.l (Ldr.old w0 ag4 rfl (hk62 0 _ rfl)) (hS7.same _ hb63.1 hb63.2) rfl ?_
            refine go ?_
            cases oi h
            exact ⟨⟨rfl, rfl, rfl, trivial⟩, hS7.pick [] rfl rfl⟩
          replace h := bcF h hc50
          refine go ?_
          cases oi h
          exact ⟨⟨rfl, rfl, rfl, trivial⟩, hS6.pick [] rfl rfl⟩
        replace h := bcF h hc40
        refine go ?_
        cases oi h
        exact ⟨⟨rfl, rfl, rfl, trivial⟩, hS6.pick [] rfl rfl⟩
      rintro e w64 ⟨hE, hS8⟩
      obtain ⟨e, rfl⟩ := hE.out
      have h := h39
      refine go ?_
      refine CW.cond rfl (fun hc65 => ?_) (fun hc65 => ?_)
      · replace h := bcT h hc65
        refine go ?_
        cases oi h
        exact ⟨trivial, rfl, _, rfl, ⟨_, Res.one (resOne.t rfl), rfl, hS8.pick [] rfl rfl⟩⟩
      replace h := bcF h hc65
      refine go ?_
      cases oi h
      exact ⟨rfl, ⟨⟨rfl, rfl, trivial⟩, hS8.pick [] rfl rfl⟩⟩
    replace h := bcF h hc18
    refine go ?_
    cases oi h
    exact ⟨trivial, rfl, ⟨⟨rfl, trivial⟩, hS3.pick [] rfl rfl⟩⟩
  intro x e w68 hM
  rcases o66 with o66 | r123
  · obtain ⟨rfl, hM⟩ := hM
    obtain ⟨hE, hS9⟩ := hM
    obtain ⟨e, rfl⟩ := hE.out
    have h := h67
    refine go ?_
    obtain ⟨o115, ho115, h116⟩ := obind h
    refine CW.mono (CW.iter (σ := Int) (ρ := Int ⊕ Bool) (fun s69 e wb => En e [(0, .slice a0_0 x0.length c0_0), (4, .int .i64 s69)] ∧ St w0 [] wb []) (fun o x e wb => match o with | .inl s69 => x = .exit 2 ∧ En e [(0, .slice a0_0 x0.length c0_0)] ∧ St w0 [] wb [] | .inr r => x = .ret ∧ ∃ u, u = r ∧ ∃ v, Res Tryz.prog Tryz.f128.results e wb v ∧ v = .bool u ∧ St w0 [] wb []) ?_ N 0 _ _ _ ⟨⟨rfl, rfl, trivial⟩, hS9.pick [] rfl rfl⟩ ho115) ?_
    · intro s69 e w70 o hM h
      obtain ⟨hE, hS10⟩ := hM
      obtain ⟨e, rfl⟩ := hE.out
      refine go ?_
      refine CW.cond rfl (fun hc71 => ?_) (fun hc71 => ?_)
      · replace h := bcT h hc71
        refine go ?_
        obtain ⟨o98, ho98, h99⟩ := obind h
        refine CW.mono (CW.iter (σ := Int × Int) (ρ := Int × Int) (fun s72 e wb => En e [(0, .slice a0_0 x0.length c0_0), (4, .int .i64 s69), (5, .int .i64 s72.1), (6, .int .i64 s72.2)] ∧ St w0 [] wb []) (fun s72 x e wb => x = .exit 4 ∧ En e [(0, .slice a0_0 x0.length c0_0), (4, .int .i64 s69), (5, .int .i64 s72.1)] ∧ St w0 [] wb []) ?_ N (s69, 0) _ _ _ ⟨⟨rfl, rfl, rfl, rfl, trivial⟩, hS10.pick [] rfl rfl⟩ ho98) ?_
        · intro s72 e w73 o hM h
          obtain ⟨hE, hS11⟩ := hM
          obtain ⟨e, rfl⟩ := hE.out
          refine gs ?_
          obtain ⟨j74, hj74, h75⟩ := obind h
          refine CW.cut (fun e wb => En e [(0, .slice a0_0 x0.length c0_0), (4, .int .i64 s69), (5, .int .i64 s72.1), (6, .int .i64 s72.2), (111, .bool j74)] ∧ St w0 [] wb []) ?_ ?_
          · have h := hj74
            refine go ?_
            rcases bcases (decide (s72.2 < 5)) with hc76 | hc76
            · replace h := bcT h hc76
              refine go ?_
              replace ⟨y77, hy77, h⟩ := obind h
              obtain ⟨b80, o81, cs82, hae, hb85, hp78, hq79, hd83, hk84⟩ := hr0_0.idx hy77
              subst hae
              obtain rfl := hd83
              refine go ?_
              refine LW.u (Pur.ix Tryz.underlying58 sz152 rfl rfl hp78 hq79) rfl ?_
              refine go ?_
              refine LW.l (Ldr.old w0 ag4 rfl (hk84 0 _ rfl)) (hS11.same _ hb85.1 hb85.2) rfl ?_
              refine go ?_
              rcases bcases y77.live with hc86 | hc86
              · replace h := bcT h hc86
                refine go ?_
                cases oi h
                exact ⟨⟨rfl, rfl, rfl, rfl, rfl, trivial⟩, hS11.pick [] rfl rfl⟩
              replace h := bcF h hc86
              refine go ?_
              cases oi h
              exact ⟨⟨rfl, rfl, rfl, rfl, rfl, trivial⟩, hS11.pick [] rfl rfl⟩
            replace h := bcF h hc76
            refine go ?_
            cases oi h
            exact ⟨⟨rfl, rfl, rfl, rfl, rfl, trivial⟩, hS11.pick [] rfl rfl⟩
          rintro e w87 ⟨hE, hS12⟩
          obtain ⟨e, rfl⟩ := hE.out
          have h := h75
          refine go ?_
          refine CW.cond rfl (fun hc88 => ?_) (fun hc88 => ?_)
          · replace h := bcT h hc88
            refine go ?_
            replace ⟨y89, hy89, h⟩ := obind h
            obtain ⟨b92, o93, cs94, hae, hb97, hp90, hq91, hd95, hk96⟩ := hr0_0.idx hy89
            subst hae
            obtain rfl := hd95
            refine LW.u (Pur.ix Tryz.underlying58 sz152 rfl rfl hp90 hq91) rfl ?_
            refine go ?_
            refine LW.l (Ldr.old w0 ag3 rfl (hk96 1 _ rfl)) (hS12.same _ hb97.1 hb97.2) rfl ?_
            refine go ?_
            cases oi h
            exact ⟨rfl, ⟨⟨rfl, rfl, rfl, rfl, trivial⟩, hS12.pick [] rfl rfl⟩⟩
          replace h := bcF h hc88
          refine go ?_
          cases oi h
          exact ⟨trivial, rfl, ⟨⟨rfl, rfl, rfl, trivial⟩, hS12.pick [] rfl rfl⟩⟩
        intro x e w100 hM
        obtain ⟨rfl, hM⟩ := hM
        obtain ⟨hE, hS13⟩ := hM
        obtain ⟨e, rfl⟩ := hE.out
        have h := h99
        refine gs ?_
        obtain ⟨j101, hj101, h102⟩ := obind h
        refine CW.cut (fun e wb => En e [(0, .slice a0_0 x0.length c0_0), (4, .int .i64 s69), (127, .bool j101)] ∧ St w0 [] wb []) ?_ ?_
        · have h := hj101
          refine go ?_
          replace ⟨y103, hy103, h⟩ := obind h
          obtain ⟨b106, o107, cs108, hae, hb111, hp104, hq105, hd109, hk110⟩ := hr0_0.idx hy103
          subst hae
          obtain rfl := hd109
          refine LW.u (Pur.ix Tryz.underlying58 sz152 rfl rfl hp104 hq105) rfl ?_
          refine go ?_
          refine LW.l (Ldr.old w0 ag4 rfl (hk110 0 _ rfl)) (hS13.same _ hb111.1 hb111.2) rfl ?_
          refine go ?_
          rcases bcases y103.live with hc112 | hc112
          · replace h := bcT h hc112
            refine go ?_
            cases oi h
            exact ⟨⟨rfl, rfl, rfl, trivial⟩, hS13.pick [] rfl rfl⟩
          replace h := bcF h hc112
          refine go ?_
          cases oi h
          exact ⟨⟨rfl, rfl, rfl, trivial⟩, hS13.pick [] rfl rfl⟩
        rintro e w113 ⟨hE, hS14⟩
        obtain ⟨e, rfl⟩ := hE.out
        have h := h102
        refine go ?_
        refine CW.cond rfl (fun hc114 => ?_) (fun hc114 => ?_)
        · replace h := bcT h hc114
          refine go ?_
          cases oi h
          exact ⟨trivial, rfl, _, rfl, ⟨_, Res.one (resOne.t rfl), rfl, hS14.pick [] rfl rfl⟩⟩
        replace h := bcF h hc114
        refine go ?_
        cases oi h
        exact ⟨rfl, ⟨⟨rfl, rfl, trivial⟩, hS14.pick [] rfl rfl⟩⟩
      replace h := bcF h hc71
      refine go ?_
      cases oi h
      exact ⟨trivial, rfl, ⟨⟨rfl, trivial⟩, hS10.pick [] rfl rfl⟩⟩
    intro x e w117 hM
    rcases o115 with o115 | r122
    · obtain ⟨rfl, hM⟩ := hM
      obtain ⟨hE, hS15⟩ := hM
      obtain ⟨e, rfl⟩ := hE.out
      have h := h116
      refine go ?_
      replace ⟨y118, hy118, h⟩ := obind h
      refine LW.c0 (W_s_l6Sum hy118 rfl (hS15.rB hr0_0)) hS15 fun w119 hS16 => ?_
      replace ⟨y120, hy120, h⟩ := obind h
      refine LW.c0 (W_s_AmtOk hy120) hS16 fun w121 hS17 => ?_
      refine go ?_
      cases h
      exact And.intro trivial ⟨_, Res.one (resOne.t rfl), rfl, hS17.pick [] rfl rfl⟩
    obtain ⟨rfl, u, rfl, hM⟩ := hM
    cases h116
    exact And.intro trivial hM
  obtain ⟨rfl, u, rfl, hM⟩ := hM
  cases h67
  exact And.intro trivial hM

theorem W_s_ArenaOk {w0 : World} {N : Nat} {x0 : List DObj} {r : Bool} (h : F_s_ArenaOk N x0 = some r) {a0_0 : Option Addr} {n0_0 c0_0 : Nat} (hn0_0 : n0_0 = x0.length) (hr0_0 : rdS (Bor w0 []) w0 a0_0 c0_0 x0) :
    Ret Tryz.prog 131 #[.slice a0_0 n0_0 c0_0] w0 (fun v w => v = .bool r ∧ St w0 [] w []) := by
  subst hn0_0
  unfold F_s_ArenaOk at h
  refine Ret.fn Tryz.func131 fun e => ?_
  have hS1 := St.start w0
  refine gs ?_
  refine CW.region ?_
  refine gs ?_
  obtain ⟨j1, hj1, h2⟩ := obind h
  refine CW.cut (fun e wb => En e [(0, .slice a0_0 x0.length c0_0), (29, .bool j1)] ∧ St w0 [] wb []) ?_ ?_
  · have h := hj1
    refine go ?_
    rcases bcases ((x0.length : Int) != 10) with hc3 | hc3
    · replace h := bcT h hc3
      refine go ?_
      cases oi h
      exact ⟨⟨rfl, rfl, trivial⟩, hS1.pick [] rfl rfl⟩
    replace h := bcF h hc3
    refine go ?_
    replace ⟨y4, hy4, h⟩ := obind h
    obtain ⟨b7, o8, cs9, hae, hb12, hp5, hq6, hd10, hk11⟩ := hr0_0.idx hy4
    subst hae
    obtain ⟨a13, c14, a16, c17, a19, c20, rfl, hr15, hr18, hr21⟩ := hd10
    refine go ?_
    refine LW.u (Pur.ix Tryz.underlying59 sz92 rfl rfl hp5 hq6) rfl ?_
    refine go ?_
    refine LW.l (Ldr.old w0 ag3 rfl (hk11 1 _ rfl)) (hS1.same _ hb12.1 hb12.2) rfl ?_
    refine go ?_
    rcases bcases (y4.kind != 1) with hc22 | hc22
    · replace h := bcT h hc22
      refine go ?_
      cases oi h
      exact ⟨⟨rfl, rfl, trivial⟩, hS1.pick [] rfl rfl⟩
    replace h := bcF h hc22
    refine go ?_
    refine LW.u (Pur.ix Tryz.underlying59 sz92 rfl rfl hp5 hq6) rfl ?_
    refine go ?_
    refine LW.l (Ldr.old w0 ag3 rfl (hk11 2 _ rfl)) (hS1.same _ hb12.1 hb12.2) rfl ?_
    refine go ?_
    rcases bcases (y4.box != (-1)) with hc23 | hc23
    · replace h := bcT h hc23
      refine go ?_
      cases oi h
      exact ⟨⟨rfl, rfl, trivial⟩, hS1.pick [] rfl rfl⟩
    replace h := bcF h hc23
    refine go ?_
    refine LW.u (Pur.ix Tryz.underlying59 sz92 rfl rfl hp5 hq6) rfl ?_
    refine go ?_
    refine LW.fl [0, 23, 26] fun e => ?_
    refine go ?_
    refine LW.l (Ldr.old w0 ag3 rfl (hk11 4 _ rfl)) (hS1.same _ hb12.1 hb12.2) rfl ?_
    refine go ?_
    cases oi h
    exact ⟨⟨rfl, rfl, trivial⟩, hS1.pick [] rfl rfl⟩
  rintro e w24 ⟨hE, hS2⟩
  obtain ⟨e, rfl⟩ := hE.out
  have h := h2
  refine go ?_
  refine CW.cond rfl (fun hc25 => ?_) (fun hc25 => ?_)
  · replace h := bcT h hc25
    refine go ?_
    cases h
    exact And.intro trivial ⟨_, Res.one (resOne.t rfl), rfl, hS2.pick [] rfl rfl⟩
  replace h := bcF h hc25
  refine go ?_
  obtain ⟨o132, ho132, h133⟩ := obind h
  refine CW.mono (CW.iter (σ := Int) (ρ := Int ⊕ Bool) (fun s26 e wb => En e [(0, .slice a0_0 x0.length c0_0), (3, .int .i64 s26)] ∧ St w0 [] wb []) (fun o x e wb => match o with | .inl s26 => x = .exit 0 ∧ En e [] ∧ St w0 [] wb [] | .inr r => x = .ret ∧ ∃ u, u = r ∧ ∃ v, Res Tryz.prog Tryz.f131.results e wb v ∧ v = .bool u ∧ St w0 [] wb []) ?_ N 0 _ _ _ ⟨⟨rfl, rfl, trivial⟩, hS2.pick [] rfl rfl⟩ ho132) ?_
  · intro s26 e w27 o hM h
    obtain ⟨hE, hS3⟩ := hM
    obtain ⟨e, rfl⟩ := hE.out
    refine go ?_
    refine CW.cond rfl (fun hc28 => ?_) (fun hc28 => ?_)
    · replace h := bcT h hc28
      refine gs ?_
      refine CW.block ?_
      refine gs ?_
      obtain ⟨j29, hj29, h30⟩ := obind h
      refine CW.cut (fun e wb => En e [(0, .slice a0_0 x0.length c0_0), (3, .int .i64 s26), (73, .bool j29)] ∧ St w0 [] wb []) ?_ ?_
      · have h := hj29
        refine go ?_
        replace ⟨y31, hy31, h⟩ := obind h
        obtain ⟨b34, o35, cs36, hae, hb39, hp32, hq33, hd37, hk38⟩ := hr0_0.idx hy31
        subst hae
        obtain ⟨a40, c41, a43, c44, a46, c47, rfl, hr42, hr45, hr48⟩ := hd37
        refine LW.u (Pur.ix Tryz.underlying59 sz92 rfl rfl hp32 hq33) rfl ?_
        refine LW.l (Ldr.oldN w0 ag92 rfl rfl (fun j u hu => hk38 j u hu)) (hS3.same _ hb39.1 hb39.2) rfl ?_
        replace ⟨y49, hy49, h⟩ := obind h
        refine LW.c0 (W_s_ObjOk hy49 rfl (hS3.rB hr42) rfl (hS3.rB hr45) rfl (hS3.rB hr48)) hS3 fun w50 hS4 => ?_
        refine go ?_
        rcases bcases (!y49) with hc51 | hc51
        · replace h := bcT h hc51
          refine go ?_
          cases oi h
          exact ⟨⟨rfl, rfl, rfl, trivial⟩, hS4.pick [] rfl rfl⟩
        replace h := bcF h hc51
        refine go ?_
        refine LW.u (Pur.ix Tryz.underlying59 sz92 rfl rfl hp32 hq33) rfl ?_
        refine go ?_
        refine LW.l (Ldr.old w0 ag3 rfl (hk38 1 _ rfl)) (hS4.same _ hb39.1 hb39.2) rfl ?_
        refine go ?_
        rcases bcases (y31.kind != 0) with hc52 | hc52
        · replace h := bcT h hc52
          refine go ?_
          refine LW.fl [0, 3, 42, 53] fun e => ?_
          rcases bcases (decide (s26 > 0)) with hc53 | hc53
          · replace h := bcT h hc53
            refine go ?_
            refine LW.u (Pur.ix Tryz.underlying59 sz92 rfl rfl hp32 hq33) rfl ?_
            refine go ?_
            refine LW.l (Ldr.old w0 ag3 rfl (hk38 2 _ rfl)) (hS4.same _ hb39.1 hb39.2) rfl ?_
            refine go ?_
            rcases bcases (decide (y31.box ≥ 0)) with hc54 | hc54
            · replace h := bcT h hc54
              refine go ?_
              refine LW.u (Pur.ix Tryz.underlying59 sz92 rfl rfl hp32 hq33) rfl ?_
              refine go ?_
              refine LW.l (Ldr.old w0 ag3 rfl (hk38 2 _ rfl)) (hS4.same _ hb39.1 hb39.2) rfl ?_
              replace ⟨y55, hy55, h⟩ := obind h
              obtain ⟨b58, o59, cs60, hae, hb63, hp56, hq57, hd61, hk62⟩ := hr0_0.idx hy55
              cases hae
              obtain ⟨a64, c65, a67, c68, a70, c71, rfl, hr66, hr69, hr72⟩ := hd61
              refine go ?_
              refine LW.u (Pur.ix Tryz.underlying59 sz92 rfl rfl hp56 hq57) rfl ?_
              refine go ?_
              refine LW.l (Ldr.old w0 ag3 rfl (hk62 1 _ rfl)) (hS4.same _ hb63.1 hb63.2) rfl ?_
              refine go ?_
              cases oi h
              exact ⟨⟨rfl, rfl, rfl, trivial⟩, hS4.pick [] rfl rfl⟩
            replace h := bcF h hc54
            refine go ?_
            cases oi h
            exact ⟨⟨rfl, rfl, rfl, trivial⟩, hS4.pick [] rfl rfl⟩
          replace h := bcF h hc53
          refine go ?_
          cases oi h
          exact ⟨⟨rfl, rfl, rfl, trivial⟩, hS4.pick [] rfl rfl⟩
        replace h := bcF h hc52
        refine go ?_
        cases oi h
        exact ⟨⟨rfl, rfl, rfl, trivial⟩, hS4.pick [] rfl rfl⟩
      rintro e w73 ⟨hE, hS5⟩
      obtain ⟨e, rfl⟩ := hE.out
      have h := h30
      refine go ?_
      refine CW.cond rfl (fun hc74 => ?_) (fun hc74 => ?_)
      · replace h := bcT h hc74
        refine go ?_
        cases oi h
        exact ⟨trivial, rfl, _, rfl, ⟨_, Res.one (resOne.t rfl), rfl, hS5.pick [] rfl rfl⟩⟩
      replace h := bcF h hc74
      refine go ?_
      obtain ⟨o128, ho128, h129⟩ := obind h
      refine CW.mono (CW.iter (σ := Int) (ρ := Int ⊕ Bool) (fun s75 e wb => En e [(0, .slice a0_0 x0.length c0_0), (3, .int .i64 s26), (4, .int .i64 s75)] ∧ St w0 [] wb []) (fun o x e wb => match o with | .inl s75 => x = .exit 2 ∧ En e [(0, .slice a0_0 x0.length c0_0), (3, .int .i64 s26)] ∧ St w0 [] wb [] | .inr r => x = .ret ∧ ∃ u, u = r ∧ ∃ v, Res Tryz.prog Tryz.f131.results e wb v ∧ v = .bool u ∧ St w0 [] wb []) ?_ N 0 _ _ _ ⟨⟨rfl, rfl, rfl, trivial⟩, hS5.pick [] rfl rfl⟩ ho128) ?_
      · intro s75 e w76 o hM h
        obtain ⟨hE, hS6⟩ := hM
        obtain ⟨e, rfl⟩ := hE.out
        refine go ?_
        replace ⟨y77, hy77, h⟩ := obind h
        obtain ⟨b80, o81, cs82, hae, hb85, hp78, hq79, hd83, hk84⟩ := hr0_0.idx hy77
        subst hae
        obtain ⟨a86, c87, a89, c90, a92, c93, rfl, hr88, hr91, hr94⟩ := hd83
        refine LW.u (Pur.ix Tryz.underlying59 sz92 rfl rfl hp78 hq79) rfl ?_
        refine go ?_
        refine LW.l (Ldr.old w0 ag28 rfl (hk84 10 _ rfl)) (hS6.same _ hb85.1 hb85.2) rfl ?_
        refine go ?_
        refine CW.fl [0, 3, 4, 81] fun e => ?_
        refine CW.cond rfl (fun hc95 => ?_) (fun hc95 => ?_)
        · replace h := bcT h hc95
          refine go ?_
          refine LW.u (Pur.ix Tryz.underlying59 sz92 rfl rfl hp78 hq79) rfl ?_
          refine go ?_
          refine LW.l (Ldr.old w0 ag28 rfl (hk84 10 _ rfl)) (hS6.same _ hb85.1 hb85.2) rfl ?_
          refine go ?_
          replace ⟨y96, hy96, h⟩ := obind h
          obtain ⟨b99, o100, cs101, hae, hb104, hp97, hq98, hd102, hk103⟩ := hr88.idx hy96
          subst hae
          obtain rfl := hd102
          refine LW.u (Pur.ix Tryz.underlying28 sz3 rfl rfl hp97 hq98) rfl ?_
          refine LW.l (Ldr.old w0 ag3 rfl (hk103 0 _ rfl)) (hS6.same _ hb104.1 hb104.2) rfl ?_
          refine gs ?_
          obtain ⟨j105, hj105, h106⟩ := obind h
          refine CW.cut (fun e wb => En e [(0, .slice (some ⟨b80, o81, none⟩) x0.length c0_0), (3, .int .i64 s26), (4, .int .i64 s75), (101, .bool j105)] ∧ St w0 [] wb []) ?_ ?_
          · have h := hj105
            refine go ?_
            rcases bcases (decide (y96 ≥ 0)) with hc107 | hc107
            · replace h := bcT h hc107
              refine go ?_
              replace ⟨y108, hy108, h⟩ := obind h
              obtain ⟨b111, o112, cs113, hae, hb116, hp109, hq110, hd114, hk115⟩ := hr0_0.idx hy108
              cases hae
              obtain ⟨a117, c118, a120, c121, a123, c124, rfl, hr119, hr122, hr125⟩ := hd114
              refine go ?_
              refine LW.u (Pur.ix Tryz.underlying59 sz92 rfl rfl hp109 hq110) rfl ?_
              refine go ?_
              refine LW.l (Ldr.old w0 ag3 rfl (hk115 1 _ rfl)) (hS6.same _ hb116.1 hb116.2) rfl ?_
              refine go ?_
              cases oi h
              exact ⟨⟨rfl, rfl, rfl, rfl, trivial⟩, hS6.pick [] rfl rfl⟩
            replace h := bcF h hc107
            refine go ?_
            cases oi h
            exact ⟨⟨rfl, rfl, rfl, rfl, trivial⟩, hS6.pick [] rfl rfl⟩
          rintro e w126 ⟨hE, hS7⟩
          obtain ⟨e, rfl⟩ := hE.out
          have h := h106
          refine go ?_
          refine CW.cond rfl (fun hc127 => ?_) (fun hc127 => ?_)
          · replace h := bcT h hc127
            refine go ?_
            cases oi h
            exact ⟨trivial, rfl, _, rfl, ⟨_, Res.one (resOne.t rfl), rfl, hS7.pick [] rfl rfl⟩⟩
          replace h := bcF h hc127
          refine go ?_
          cases oi h
          exact ⟨rfl, ⟨⟨rfl, rfl, rfl, trivial⟩, hS7.pick [] rfl rfl⟩⟩
        replace h := bcF h hc95
        refine go ?_
        cases oi h
        exact ⟨trivial, rfl, ⟨⟨rfl, rfl, trivial⟩, hS6.pick [] rfl rfl⟩⟩
      intro x e w130 hM
      rcases o128 with o128 | r131
      · obtain ⟨rfl, hM⟩ := hM
        obtain ⟨hE, hS8⟩ := hM
        obtain ⟨e, rfl⟩ := hE.out
        have h := h129
        refine go ?_
        cases oi h
        exact ⟨rfl, ⟨⟨rfl, rfl, trivial⟩, hS8.pick [] rfl rfl⟩⟩
      obtain ⟨rfl, u, rfl, hM⟩ := hM
      cases h129
      exact ⟨trivial, rfl, _, rfl, hM⟩
    replace h := bcF h hc28
    refine go ?_
    cases oi h
    exact ⟨trivial, rfl, ⟨trivial, hS3.pick [] rfl rfl⟩⟩
  intro x e w134 hM
  rcases o132 with o132 | r135
  · obtain ⟨rfl, hM⟩ := hM
    obtain ⟨hE, hS9⟩ := hM
    obtain ⟨e, rfl⟩ := hE.out; rw [show e = upds e [] from rfl]
    have h := h133
    refine go ?_
    cases h
    exact And.intro trivial ⟨_, Res.one (resOne.t rfl), rfl, hS9.pick [] rfl rfl⟩
  obtain ⟨rfl, u, rfl, hM⟩ := hM
  cases h133
  exact And.intro trivial hM

theorem W_i_leadsUp {w0 : World} {N : Nat} {x0 : List DRes} {x1 : Int} {r : Bool} (h : F_i_leadsUp N x0 x1 = some r) {a0_0 : Option Addr} {n0_0 c0_0 : Nat} (hn0_0 : n0_0 = x0.length) (hr0_0 : rdS (Bor w0 []) w0 a0_0 c0_0 x0) :
    Ret Tryz.prog 197 #[.slice a0_0 n0_0 c0_0, .int .i64 x1] w0 (fun v w => v = .bool r ∧ St w0 [] w []) := by
  subst hn0_0
  unfold F_i_leadsUp at h
  refine Ret.fn Tryz.func197 fun e => ?_
  have hS1 := St.start w0
  refine go ?_
  obtain ⟨o17, ho17, h18⟩ := obind h
  refine CW.mono (CW.iter (σ := Int × Int) (ρ := (Int × Int) ⊕ Bool) (fun s1 e wb => En e [(0, .slice a0_0 x0.length c0_0), (1, .int .i64 s1.1), (5, .int .i64 s1.2)] ∧ St w0 [] wb []) (fun o x e wb => match o with | .inl s1 => x = .exit 0 ∧ En e [] ∧ St w0 [] wb [] | .inr r => x = .ret ∧ ∃ u, u = r ∧ ∃ v, Res Tryz.prog Tryz.f197.results e wb v ∧ v = .bool u ∧ St w0 [] wb []) ?_ N (x1, 0) _ _ _ ⟨⟨rfl, rfl, rfl, trivial⟩, hS1.pick [] rfl rfl⟩ ho17) ?_
  · intro s1 e w2 o hM h
    obtain ⟨hE, hS2⟩ := hM
    obtain ⟨e, rfl⟩ := hE.out
    refine go ?_
    refine CW.cond rfl (fun hc3 => ?_) (fun hc3 => ?_)
    · replace h := bcT h hc3
      refine go ?_
      refine CW.cond rfl (fun hc4 => ?_) (fun hc4 => ?_)
      · replace h := bcT h hc4
        refine go ?_
        cases oi h
        exact ⟨trivial, rfl, _, rfl, ⟨_, Res.one (resOne.t rfl), rfl, hS2.pick [] rfl rfl⟩⟩
      replace h := bcF h hc4
      refine go ?_
      replace ⟨y5, hy5, h⟩ := obind h
      refine LW.c0 (W_i_isLive hy5 rfl (hS2.rB hr0_0)) hS2 fun w6 hS3 => ?_
      refine go ?_
      refine CW.cond rfl (fun hc7 => ?_) (fun hc7 => ?_)
      · replace h := bcT h hc7
        refine go ?_
        cases oi h
        exact ⟨trivial, rfl, _, rfl, ⟨_, Res.one (resOne.t rfl), rfl, hS3.pick [] rfl rfl⟩⟩
      replace h := bcF h hc7
      refine go ?_
      replace ⟨y8, hy8, h⟩ := obind h
      obtain ⟨b11, o12, cs13, hae, hb16, hp9, hq10, hd14, hk15⟩ := hr0_0.idx hy8
      subst hae
      obtain rfl := hd14
      refine LW.u (Pur.ix Tryz.underlying58 sz152 rfl rfl hp9 hq10) rfl ?_
      refine go ?_
      refine LW.l (Ldr.old w0 ag3 rfl (hk15 1 _ rfl)) (hS3.same _ hb16.1 hb16.2) rfl ?_
      refine go ?_
      cases oi h
      exact ⟨rfl, ⟨⟨rfl, rfl, rfl, trivial⟩, hS3.pick [] rfl rfl⟩⟩
    replace h := bcF h hc3
    refine go ?_
    cases oi h
    exact ⟨trivial, rfl, ⟨trivial, hS2.pick [] rfl rfl⟩⟩
  intro x e w19 hM
  rcases o17 with o17 | r20
  · obtain ⟨rfl, hM⟩ := hM
    obtain ⟨hE, hS4⟩ := hM
    obtain ⟨e, rfl⟩ := hE.out; rw [show e = upds e [] from rfl]
    have h := h18
    refine go ?_
    cases h
    exact And.intro trivial ⟨_, Res.one (resOne.t rfl), rfl, hS4.pick [] rfl rfl⟩
  obtain ⟨rfl, u, rfl, hM⟩ := hM
  cases h18
  exact And.intro trivial hM

theorem W_i_ObjOk {w0 : World} {N : Nat} {x0 : DObj} {r : Bool} (h : F_i_ObjOk N x0 = some r) {a0_10 : Option Addr} {n0_10 c0_10 : Nat} (hn0_10 : n0_10 = x0.links.length) (hr0_10 : rdS (Bor w0 []) w0 a0_10 c0_10 x0.links) {a0_11 : Option Addr} {n0_11 c0_11 : Nat} (hn0_11 : n0_11 = x0.data.length) (hr0_11 : rdS (Bor w0 []) w0 a0_11 c0_11 x0.data) {a0_12 : Option Addr} {n0_12 c0_12 : Nat} (hn0_12 : n0_12 = x0.queue.length) (hr0_12 : rdS (Bor w0 []) w0 a0_12 c0_12 x0.queue) :
    Ret Tryz.prog 210 #[.agg #[.int .i64 x0.gen, .int .i64 x0.kind, .int .i64 x0.box, .int .i64 x0.res, .int .i64 x0.til, .int .i64 x0.pages, .int .i64 x0.wait, .int .i64 x0.got, .int .i64 x0.ran, .bool x0.mark, .slice a0_10 n0_10 c0_10, .slice a0_11 n0_11 c0_11, .slice a0_12 n0_12 c0_12]] w0 (fun v w => v = .bool r ∧ St w0 [] w []) := by
  subst hn0_10 hn0_11 hn0_12
  unfold F_i_ObjOk at h
  refine Ret.fn Tryz.func210 fun e => ?_
  have hS1 := St.start w0
  refine go ?_
  refine LW.bo hS1 fun g1 w2 hS2 => ?_
  refine gs ?_
  obtain ⟨j3, hj3, h4⟩ := obind h
  refine CW.cut (fun e wb => En e [(1, .pointer (some ⟨g1, 0, none⟩)), (12, .bool j3)] ∧ St w0 [] wb [bx g1 92 [.int .i64 x0.gen, .int .i64 x0.kind, .int .i64 x0.box, .int .i64 x0.res, .int .i64 x0.til, .int .i64 x0.pages, .int .i64 x0.wait, .int .i64 x0.got, .int .i64 x0.ran, .bool x0.mark, .slice a0_10 x0.links.length c0_10, .slice a0_11 x0.data.length c0_11, .slice a0_12 x0.queue.length c0_12]]) ?_ ?_
  · have h := hj3
    refine go ?_
    replace ⟨y5, hy5, h⟩ := obind h
    refine LW.c0 (W_i_within hy5) hS2 fun w6 hS3 => ?_
    refine go ?_
    rcases bcases (!y5) with hc7 | hc7
    · replace h := bcT h hc7
      refine go ?_
      cases oi h
      exact ⟨⟨rfl, rfl, trivial⟩, hS3.pick [0] rfl rfl⟩
    replace h := bcF h hc7
    refine go ?_
    replace ⟨y8, hy8, h⟩ := obind h
    refine go ?_
    refine LW.c0 (W_i_within hy8) hS3 fun w9 hS4 => ?_
    refine go ?_
    cases oi h
    exact ⟨⟨rfl, rfl, trivial⟩, hS4.pick [0] rfl rfl⟩
  rintro e w10 ⟨hE, hS5⟩
  obtain ⟨e, rfl⟩ := hE.out
  have h := h4
  refine go ?_
  refine CW.cond rfl (fun hc11 => ?_) (fun hc11 => ?_)
  · replace h := bcT h hc11
    refine go ?_
    cases h
    exact And.intro trivial ⟨_, Res.one (resOne.t rfl), rfl, hS5.pick [] rfl rfl⟩
  replace h := bcF h hc11
  refine go ?_
  refine CW.cond rfl (fun hc12 => ?_) (fun hc12 => ?_)
  · replace h := bcT h hc12
    refine go ?_
    refine LW.u (Pur.build (vs := [(0, .int .i64 x0.gen)]) (cs := #[.int .i64 x0.gen, .int .i64 0, .int .i64 0, .int .i64 0, .int .i64 0, .int .i64 0, .int .i64 0, .int .i64 0, .int .i64 0, .bool false, .slice none 0 0, .slice none 0 0, .slice none 0 0]) rfl (by kernel_rfl)) rfl ?_
    replace ⟨y13, hy13, h⟩ := obind h
    refine LW.c0 (W_i_sameObj hy13 rfl (hS5.rB hr0_10) rfl (hS5.rB hr0_11) rfl (hS5.rB hr0_12) rfl (show rdS (α := Int) (Bor w10 []) w10 none 0 [] from rdS.nil _ _ _ _ (Nat.zero_le _)) rfl (show rdS (α := Int) (Bor w10 []) w10 none 0 [] from rdS.nil _ _ _ _ (Nat.zero_le _)) rfl (show rdS (α := DMsg) (Bor w10 []) w10 none 0 [] from rdS.nil _ _ _ _ (Nat.zero_le _))) hS5 fun w14 hS6 => ?_
    refine go ?_
    cases h
    exact And.intro trivial ⟨_, Res.one (resOne.t rfl), rfl, hS6.pick [] rfl rfl⟩
  replace h := bcF h hc12
  refine gs ?_
  obtain ⟨j15, hj15, h16⟩ := obind h
  refine CW.cut (fun e wb => En e [(1, .pointer (some ⟨g1, 0, none⟩)), (47, .bool j15)] ∧ St w0 [] wb [bx g1 92 [.int .i64 x0.gen, .int .i64 x0.kind, .int .i64 x0.box, .int .i64 x0.res, .int .i64 x0.til, .int .i64 x0.pages, .int .i64 x0.wait, .int .i64 x0.got, .int .i64 x0.ran, .bool x0.mark, .slice a0_10 x0.links.length c0_10, .slice a0_11 x0.data.length c0_11, .slice a0_12 x0.queue.length c0_12]]) ?_ ?_
  · have h := hj15
    refine go ?_
    replace ⟨y17, hy17, h⟩ := obind h
    refine LW.c0 (W_i_within hy17) hS5 fun w18 hS7 => ?_
    refine go ?_
    rcases bcases (!y17) with hc19 | hc19
    · replace h := bcT h hc19
      refine go ?_
      cases oi h
      exact ⟨⟨rfl, rfl, trivial⟩, hS7.pick [0] rfl rfl⟩
    replace h := bcF h hc19
    refine go ?_
    replace ⟨y20, hy20, h⟩ := obind h
    refine go ?_
    refine LW.c0 (W_i_isPlace hy20) hS7 fun w21 hS8 => ?_
    refine go ?_
    rcases bcases (!y20) with hc22 | hc22
    · replace h := bcT h hc22
      refine go ?_
      cases oi h
      exact ⟨⟨rfl, rfl, trivial⟩, hS8.pick [0] rfl rfl⟩
    replace h := bcF h hc22
    refine go ?_
    replace ⟨y23, hy23, h⟩ := obind h
    refine go ?_
    refine LW.c0 (W_i_isTime hy23) hS8 fun w24 hS9 => ?_
    refine go ?_
    rcases bcases (!y23) with hc25 | hc25
    · replace h := bcT h hc25
      refine go ?_
      cases oi h
      exact ⟨⟨rfl, rfl, trivial⟩, hS9.pick [0] rfl rfl⟩
    replace h := bcF h hc25
    refine go ?_
    refine LW.fl [1, 37, 39] fun e => ?_
    replace ⟨y26, hy26, h⟩ := obind h
    refine go ?_
    refine LW.c0 (W_i_within hy26) hS9 fun w27 hS10 => ?_
    refine go ?_
    rcases bcases (!y26) with hc28 | hc28
    · replace h := bcT h hc28
      refine go ?_
      cases oi h
      exact ⟨⟨rfl, rfl, trivial⟩, hS10.pick [0] rfl rfl⟩
    replace h := bcF h hc28
    refine go ?_
    replace ⟨y29, hy29, h⟩ := obind h
    refine go ?_
    refine LW.c0 (W_i_listsOk hy29 rfl (hS10.rB hr0_10) rfl (hS10.rB hr0_11) rfl (hS10.rB hr0_12)) hS10 fun w30 hS11 => ?_
    refine go ?_
    cases oi h
    exact ⟨⟨rfl, rfl, trivial⟩, hS11.pick [0] rfl rfl⟩
  rintro e w31 ⟨hE, hS12⟩
  obtain ⟨e, rfl⟩ := hE.out
  have h := h16
  refine go ?_
  refine CW.cond rfl (fun hc32 => ?_) (fun hc32 => ?_)
  · replace h := bcT h hc32
    refine go ?_
    cases h
    exact And.intro trivial ⟨_, Res.one (resOne.t rfl), rfl, hS12.pick [] rfl rfl⟩
  replace h := bcF h hc32
  refine go ?_
  refine CW.cond rfl (fun hc33 => ?_) (fun hc33 => ?_)
  · replace h := bcT h hc33
    refine gs ?_
    obtain ⟨j34, hj34, h35⟩ := obind h
    refine CW.cut (fun e wb => En e [(2, .bool j34)] ∧ St w0 [] wb []) ?_ ?_
    · have h := hj34
      refine go ?_
      rcases bcases (x0.wait == 0) with hc36 | hc36
      · replace h := bcT h hc36
        refine go ?_
        rcases bcases (x0.got == 0) with hc37 | hc37
        · replace h := bcT h hc37
          refine go ?_
          cases oi h
          exact ⟨⟨rfl, trivial⟩, hS12.pick [] rfl rfl⟩
        replace h := bcF h hc37
        refine go ?_
        cases oi h
        exact ⟨⟨rfl, trivial⟩, hS12.pick [] rfl rfl⟩
      replace h := bcF h hc36
      refine go ?_
      cases oi h
      exact ⟨⟨rfl, trivial⟩, hS12.pick [] rfl rfl⟩
    rintro e w38 ⟨hE, hS13⟩
    obtain ⟨e, rfl⟩ := hE.out
    have h := h35
    refine go ?_
    cases h
    exact And.intro trivial ⟨_, Res.one (resOne.t rfl), rfl, hS13.pick [] rfl rfl⟩
  replace h := bcF h hc33
  refine go ?_
  rcases bcases (x0.wait == 0) with hc39 | hc39
  · replace h := bcT h hc39
    refine go ?_
    replace ⟨y40, hy40, h⟩ := obind h
    refine go ?_
    refine LW.c0 (W_i_within hy40) hS12 fun w41 hS14 => ?_
    refine go ?_
    rcases bcases y40 with hc42 | hc42
    · replace h := bcT h hc42
      refine go ?_
      refine LW.fl [78, 80] fun e => ?_
      replace ⟨y43, hy43, h⟩ := obind h
      refine go ?_
      refine LW.c0 (W_i_isTime hy43) hS14 fun w44 hS15 => ?_
      refine go ?_
      cases h
      exact And.intro trivial ⟨_, Res.one (resOne.t rfl), rfl, hS15.pick [] rfl rfl⟩
    replace h := bcF h hc42
    refine go ?_
    cases h
    exact And.intro trivial ⟨_, Res.one (resOne.t rfl), rfl, hS14.pick [] rfl rfl⟩
  replace h := bcF h hc39
  refine go ?_
  replace ⟨y45, hy45, h⟩ := obind h
  refine go ?_
  refine LW.c0 (W_i_isHandle hy45) hS12 fun w46 hS16 => ?_
  refine go ?_
  rcases bcases y45 with hc47 | hc47
  · replace h := bcT h hc47
    refine go ?_
    replace ⟨y48, hy48, h⟩ := obind h
    refine go ?_
    refine LW.c0 (W_i_within hy48) hS16 fun w49 hS17 => ?_
    refine go ?_
    refine LW.fl [1, 78] fun e => ?_
    rcases bcases y48 with hc50 | hc50
    · replace h := bcT h hc50
      refine go ?_
      replace ⟨y51, hy51, h⟩ := obind h
      refine go ?_
      refine LW.c0 (W_i_isTime hy51) hS17 fun w52 hS18 => ?_
      refine go ?_
      cases h
      exact And.intro trivial ⟨_, Res.one (resOne.t rfl), rfl, hS18.pick [] rfl rfl⟩
    replace h := bcF h hc50
    refine go ?_
    cases h
    exact And.intro trivial ⟨_, Res.one (resOne.t rfl), rfl, hS17.pick [] rfl rfl⟩
  replace h := bcF h hc47
  refine go ?_
  cases h
  exact And.intro trivial ⟨_, Res.one (resOne.t rfl), rfl, hS16.pick [] rfl rfl⟩

theorem W_l_eqObjS {w0 : World} {N : Nat} {x0 : List DObj} {x1 : List DObj} {r : Bool} (h : F_l_eqObjS N x0 x1 = some r) {a0_0 : Option Addr} {n0_0 c0_0 : Nat} (hn0_0 : n0_0 = x0.length) (hr0_0 : rdS (Bor w0 []) w0 a0_0 c0_0 x0) {a1_0 : Option Addr} {n1_0 c1_0 : Nat} (hn1_0 : n1_0 = x1.length) (hr1_0 : rdS (Bor w0 []) w0 a1_0 c1_0 x1) :
    Ret Tryz.prog 152 #[.slice a0_0 n0_0 c0_0, .slice a1_0 n1_0 c1_0] w0 (fun v w => v = .bool r ∧ St w0 [] w []) := by
  subst hn0_0 hn1_0
  unfold F_l_eqObjS at h
  refine Ret.fn Tryz.func152 fun e => ?_
  have hS1 := St.start w0
  refine go ?_
  refine CW.cond rfl (fun hc1 => ?_) (fun hc1 => ?_)
  · replace h := bcT h hc1
    refine go ?_
    cases h
    exact And.intro trivial ⟨_, Res.one (resOne.t rfl), rfl, hS1.pick [] rfl rfl⟩
  replace h := bcF h hc1
  refine go ?_
  obtain ⟨o44, ho44, h45⟩ := obind h
  refine CW.mono (CW.iter (σ := Int) (ρ := Int ⊕ Bool) (fun s2 e wb => En e [(0, .slice a0_0 x0.length c0_0), (1, .slice a1_0 x1.length c1_0), (5, .int .i64 s2)] ∧ St w0 [] wb []) (fun o x e wb => match o with | .inl s2 => x = .exit 0 ∧ En e [] ∧ St w0 [] wb [] | .inr r => x = .ret ∧ ∃ u, u = r ∧ ∃ v, Res Tryz.prog Tryz.f152.results e wb v ∧ v = .bool u ∧ St w0 [] wb []) ?_ N 0 _ _ _ ⟨⟨rfl, rfl, rfl, trivial⟩, hS1.pick [] rfl rfl⟩ ho44) ?_
  · intro s2 e w3 o hM h
    obtain ⟨hE, hS2⟩ := hM
    obtain ⟨e, rfl⟩ := hE.out
    refine go ?_
    refine CW.cond rfl (fun hc4 => ?_) (fun hc4 => ?_)
    · replace h := bcT h hc4
      refine go ?_
      refine CW.draw (by kernel_rfl) ?_
      have hS3 := hS2.drew
      refine AW.u (i := 0) rfl (by kernel_rfl) rfl rfl (Pur.p rfl) ?_
      refine AW.u (i := 1) rfl (by kernel_rfl) rfl rfl (Pur.p rfl) ?_
      replace ⟨y5, hy5, h⟩ := obind h
      obtain ⟨b8, o9, cs10, hae, hb13, hp6, hq7, hd11, hk12⟩ := hr0_0.idx hy5
      subst hae
      obtain ⟨a14, c15, a17, c18, a20, c21, rfl, hr16, hr19, hr22⟩ := hd11
      refine AW.u (i := 2) rfl (by kernel_rfl) rfl rfl (Pur.ix Tryz.underlying59 sz92 rfl rfl hp6 hq7) ?_
      refine AW.take (i := 3) rfl (by kernel_rfl) rfl rfl (Ldr.oldN w0 ag92 rfl rfl (fun j u hu => hk12 j u hu)) (hS3.same _ hb13.1 hb13.2) ?_
      refine AW.u (i := 4) rfl (by kernel_rfl) rfl rfl (Pur.p rfl) ?_
      refine AW.u (i := 5) rfl (by kernel_rfl) rfl rfl (Pur.p rfl) ?_
      replace ⟨y23, hy23, h⟩ := obind h
      obtain ⟨b26, o27, cs28, hae, hb31, hp24, hq25, hd29, hk30⟩ := hr1_0.idx hy23
      subst hae
      obtain ⟨a32, c33, a35, c36, a38, c39, rfl, hr34, hr37, hr40⟩ := hd29
      refine AW.u (i := 6) rfl (by kernel_rfl) rfl rfl (Pur.ix Tryz.underlying59 sz92 rfl rfl hp24 hq25) ?_
      refine AW.take (i := 7) rfl (by kernel_rfl) rfl rfl (Ldr.oldN w0 ag92 rfl rfl (fun j u hu => hk30 j u hu)) (hS3.same _ hb31.1 hb31.2) ?_
      replace ⟨y41, hy41, h⟩ := obind h
      have q := W_l_eqObj (w0 := w3.drew) hy41 rfl (hS3.rB hr16) rfl (hS3.rB hr19) rfl (hS3.rB hr22) rfl (hS3.rB hr34) rfl (hS3.rB hr37) rfl (hS3.rB hr40)
      refine AW.one (i := 8) (by kernel_rfl) ?_
      refine ⟨_, rfl, ?_⟩
      refine LW.call pl198 rfl rfl ?_
      refine Ret.mono q ?_
      rintro _ w42 ⟨rfl, hs⟩
      have hS4 := hS3.add hs
      refine LW.nil ⟨rfl, (.w (by kernel_rfl) (.w (by kernel_rfl) Kept.n)), ?_⟩
      refine AW.u (i := 9) rfl (by kernel_rfl) rfl rfl (Pur.p rfl) ?_
      refine AW.done (by kernel_rfl) ?_
      refine go ?_
      refine CW.cond rfl (fun hc43 => ?_) (fun hc43 => ?_)
      · replace h := bcT h hc43
        refine go ?_
        cases oi h
        exact ⟨trivial, rfl, _, rfl, ⟨_, Res.one (resOne.t rfl), rfl, hS4.pick [] rfl rfl⟩⟩
      replace h := bcF h hc43
      refine go ?_
      cases oi h
      exact ⟨rfl, ⟨⟨rfl, rfl, rfl, trivial⟩, hS4.pick [] rfl rfl⟩⟩
    replace h := bcF h hc4
    refine go ?_
    cases oi h
    exact ⟨trivial, rfl, ⟨trivial, hS2.pick [] rfl rfl⟩⟩
  intro x e w46 hM
  rcases o44 with o44 | r47
  · obtain ⟨rfl, hM⟩ := hM
    obtain ⟨hE, hS5⟩ := hM
    obtain ⟨e, rfl⟩ := hE.out; rw [show e = upds e [] from rfl]
    have h := h45
    refine go ?_
    cases h
    exact And.intro trivial ⟨_, Res.one (resOne.t rfl), rfl, hS5.pick [] rfl rfl⟩
  obtain ⟨rfl, u, rfl, hM⟩ := hM
  cases h45
  exact And.intro trivial hM

theorem W_l_szPart {w0 : World} {N : Nat} {x0 : DPart} {x1 : Int} {r : Int} (h : F_l_szPart N x0 x1 = some r) {a0_0 : Option Addr} {n0_0 c0_0 : Nat} (hn0_0 : n0_0 = x0.label.levels.length) (hr0_0 : rdS (Bor w0 []) w0 a0_0 c0_0 x0.label.levels) {a0_1 : Option Addr} {n0_1 c0_1 : Nat} (hn0_1 : n0_1 = x0.own.length) (hr0_1 : rdS (Bor w0 []) w0 a0_1 c0_1 x0.own) {a0_2 : Option Addr} {n0_2 c0_2 : Nat} (hn0_2 : n0_2 = x0.tree.length) (hr0_2 : rdS (Bor w0 []) w0 a0_2 c0_2 x0.tree) {a0_3 : Option Addr} {n0_3 c0_3 : Nat} (hn0_3 : n0_3 = x0.heap.arena.length) (hr0_3 : rdS (Bor w0 []) w0 a0_3 c0_3 x0.heap.arena) {a0_7 : Option Addr} {n0_7 c0_7 : Nat} (hn0_7 : n0_7 = x0.heap.gc.grey.length) (hr0_7 : rdS (Bor w0 []) w0 a0_7 c0_7 x0.heap.gc.grey) {a0_8 : Option Addr} {n0_8 c0_8 : Nat} (hn0_8 : n0_8 = x0.taps.length) (hr0_8 : rdS (Bor w0 []) w0 a0_8 c0_8 x0.taps) :
    Ret Tryz.prog 22 #[.agg #[.slice a0_0 n0_0 c0_0, .slice a0_1 n0_1 c0_1, .slice a0_2 n0_2 c0_2, .slice a0_3 n0_3 c0_3, .int .i64 x0.heap.gc.phase, .int .i64 x0.heap.gc.pos, .int .i64 x0.heap.gc.round, .slice a0_7 n0_7 c0_7, .slice a0_8 n0_8 c0_8, .int .i64 x0.next, .int .i64 x0.want, .int .i64 x0.spent.pages, .int .i64 x0.spent.rent, .int .i64 x0.spent.cpu, .int .i64 x0.press, .int .i64 x0.lost], .int .i64 x1] w0 (fun v w => v = .int .i64 r ∧ St w0 [] w []) := by
  subst hn0_0 hn0_1 hn0_2 hn0_3 hn0_7 hn0_8
  unfold F_l_szPart at h
  refine Ret.fn Tryz.func22 fun e => ?_
  have hS1 := St.start w0
  refine go ?_
  refine LW.bo hS1 fun g1 w2 hS2 => ?_
  refine go ?_
  replace ⟨y3, hy3, h⟩ := obind h
  refine LW.c0 (W_l_szLabel hy3 rfl (hS2.rB hr0_0)) hS2 fun w4 hS3 => ?_
  refine go ?_
  refine CW.cond rfl (fun hc5 => ?_) (fun hc5 => ?_)
  · replace h := bcT h hc5
    refine go ?_
    cases h
    exact And.intro trivial ⟨_, Res.one (resOne.t rfl), rfl, hS3.pick [] rfl rfl⟩
  replace h := bcF h hc5
  refine go ?_
  replace ⟨y6, hy6, h⟩ := obind h
  refine LW.c0 (W_l_szIntS hy6 rfl (hS3.rB hr0_1)) hS3 fun w7 hS4 => ?_
  refine go ?_
  refine CW.fl [1, 2, 16] fun e => ?_
  refine CW.cond rfl (fun hc8 => ?_) (fun hc8 => ?_)
  · replace h := bcT h hc8
    refine go ?_
    cases h
    exact And.intro trivial ⟨_, Res.one (resOne.t rfl), rfl, hS4.pick [] rfl rfl⟩
  replace h := bcF h hc8
  refine go ?_
  replace ⟨y9, hy9, h⟩ := obind h
  refine LW.c0 (W_l_szResS hy9 rfl (hS4.rB hr0_2)) hS4 fun w10 hS5 => ?_
  refine go ?_
  refine CW.cond rfl (fun hc11 => ?_) (fun hc11 => ?_)
  · replace h := bcT h hc11
    refine go ?_
    cases h
    exact And.intro trivial ⟨_, Res.one (resOne.t rfl), rfl, hS5.pick [] rfl rfl⟩
  replace h := bcF h hc11
  refine go ?_
  replace ⟨y12, hy12, h⟩ := obind h
  refine LW.c0 (W_l_szHeap hy12 rfl (hS5.rB hr0_3) rfl (hS5.rB hr0_7)) hS5 fun w13 hS6 => ?_
  refine go ?_
  refine CW.fl [1, 2, 28] fun e => ?_
  refine CW.cond rfl (fun hc14 => ?_) (fun hc14 => ?_)
  · replace h := bcT h hc14
    refine go ?_
    cases h
    exact And.intro trivial ⟨_, Res.one (resOne.t rfl), rfl, hS6.pick [] rfl rfl⟩
  replace h := bcF h hc14
  refine go ?_
  replace ⟨y15, hy15, h⟩ := obind h
  refine LW.c0 (W_l_szTapS hy15 rfl (hS6.rB hr0_8)) hS6 fun w16 hS7 => ?_
  refine go ?_
  refine CW.cond rfl (fun hc17 => ?_) (fun hc17 => ?_)
  · replace h := bcT h hc17
    refine go ?_
    cases h
    exact And.intro trivial ⟨_, Res.one (resOne.t rfl), rfl, hS7.pick [] rfl rfl⟩
  replace h := bcF h hc17
  refine go ?_
  cases h
  exact And.intro trivial ⟨_, Res.one (resOne.t rfl), rfl, hS7.pick [] rfl rfl⟩

theorem W_l_toHeap {w0 : World} {N : Nat} {x0 : DHeap} {r : DHeap} (h : F_l_toHeap N x0 = some r) {a0_0 : Option Addr} {n0_0 c0_0 : Nat} (hn0_0 : n0_0 = x0.arena.length) (hr0_0 : rdS (Bor w0 []) w0 a0_0 c0_0 x0.arena) {a0_4 : Option Addr} {n0_4 c0_4 : Nat} (hn0_4 : n0_4 = x0.gc.grey.length) (hr0_4 : rdS (Bor w0 []) w0 a0_4 c0_4 x0.gc.grey) :
    Ret Tryz.prog 65 #[.agg #[.slice a0_0 n0_0 c0_0, .int .i64 x0.gc.phase, .int .i64 x0.gc.pos, .int .i64 x0.gc.round, .slice a0_4 n0_4 c0_4]] w0 (fun v w => ∃ ar0_0 cr0_0, ∃ ar0_4 cr0_4, v = .agg #[.slice ar0_0 r.arena.length cr0_0, .int .i64 r.gc.phase, .int .i64 r.gc.pos, .int .i64 r.gc.round, .slice ar0_4 r.gc.grey.length cr0_4] ∧ St w0 [] w [sl ar0_0 cr0_0 r.arena, sl ar0_4 cr0_4 r.gc.grey]) := by
  subst hn0_0 hn0_4
  unfold F_l_toHeap at h
  refine Ret.fn Tryz.func65 fun e => ?_
  have hS1 := St.start w0
  refine go ?_
  refine LW.bo hS1 fun g1 w2 hS2 => ?_
  refine LW.al hS2 fun g3 w4 hS3 => ?_
  refine go ?_
  refine LW.al hS3 fun g5 w6 hS4 => ?_
  refine go ?_
  replace ⟨y7, hy7, h⟩ := obind h
  refine LW.cl (W_l_toObjS hy7 rfl (hS4.rB hr0_0)) ?_
  rintro _ w10 ⟨a8, c9, rfl, hs⟩
  have hS5 := hS4.add hs
  refine go ?_
  refine LW.st hS5 1 fun w11 hS6 => ?_
  refine go ?_
  replace ⟨y12, hy12, h⟩ := obind h
  refine LW.cl (W_l_toGc hy12 rfl (hS6.rB hr0_4)) ?_
  rintro _ w15 ⟨a13, c14, rfl, hs⟩
  have hS7 := hS6.add hs
  refine go ?_
  refine LW.st hS7 2 fun w16 hS8 => ?_
  refine go ?_
  refine LW.st hS8 3 fun w17 hS9 => ?_
  refine go ?_
  cases h
  exact And.intro trivial ⟨_, Res.one (resOne.b hS9 3 rfl ag62 rfl rfl), a8, c9, a13, c14, rfl, hS9.pick [1, 0] rfl rfl⟩

end Go.Kx
