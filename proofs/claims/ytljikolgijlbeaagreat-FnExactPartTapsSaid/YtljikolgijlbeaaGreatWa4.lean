/- Each call returns what the plain function says. Printed by drive.py. -/
import Derived.Test.YtljikolgijlbeaaGreatFa
import Derived.Test.YtljikolgijlbeaaGreatPu
import Derived.Test.YtljikolgijlbeaaGreatWa0
import Derived.Test.YtljikolgijlbeaaGreatWa1
import Derived.Test.YtljikolgijlbeaaGreatWa2
import Derived.Test.YtljikolgijlbeaaGreatWa3
namespace Go.Kx
open Go Go.RowKit Go.Proofs
set_option maxRecDepth 10000
set_option maxHeartbeats 8000000
set_option linter.unusedVariables false
set_option linter.unusedSimpArgs false
theorem W_l_szHeap {w0 : World} {N : Nat} {x0 : DHeap} {x1 : Int} {r : Int} (h : F_l_szHeap N x0 x1 = some r) {a0_0 : Option Addr} {n0_0 c0_0 : Nat} (hn0_0 : n0_0 = x0.arena.length) (hr0_0 : rdS (Bor w0 []) w0 a0_0 c0_0 x0.arena) {a0_4 : Option Addr} {n0_4 c0_4 : Nat} (hn0_4 : n0_4 = x0.gc.grey.length) (hr0_4 : rdS (Bor w0 []) w0 a0_4 c0_4 x0.gc.grey) :
    Ret Tryz.prog 133 #[.agg #[.slice a0_0 n0_0 c0_0, .int .i64 x0.gc.phase, .int .i64 x0.gc.pos, .int .i64 x0.gc.round, .slice a0_4 n0_4 c0_4], .int .i64 x1] w0 (fun v w => v = .int .i64 r ∧ St w0 [] w []) := by
  subst hn0_0 hn0_4
  unfold F_l_szHeap at h
  refine Ret.fn Tryz.func133 fun e => ?_
  have hS1 := St.start w0
  refine go ?_
  refine LW.bo hS1 fun g1 w2 hS2 => ?_
  refine go ?_
  replace ⟨y3, hy3, h⟩ := obind h
  refine LW.c0 (W_l_szObjS hy3 rfl (hS2.rB hr0_0)) hS2 fun w4 hS3 => ?_
  refine go ?_
  refine cd (fun hc5 => ?_) fun hc5 => ?_
  · replace h := bcT h hc5
    refine go ?_
    cases h
    exact fi hS3
  replace h := bcF h hc5
  refine go ?_
  replace ⟨y6, hy6, h⟩ := obind h
  refine LW.c0 (W_l_szGc hy6 rfl (hS3.rB hr0_4)) hS3 fun w7 hS4 => ?_
  refine go ?_
  refine CW.fl [1, 16] fun e => ?_
  refine cd (fun hc8 => ?_) fun hc8 => ?_
  · replace h := bcT h hc8
    refine go ?_
    cases h
    exact fi hS4
  replace h := bcF h hc8
  refine go ?_
  cases h
  exact fi hS4

theorem W_l_toObjS {w0 : World} {N : Nat} {x0 : List DObj} {r : (List DObj)} (h : F_l_toObjS N x0 = some r) {a0_0 : Option Addr} {n0_0 c0_0 : Nat} (hn0_0 : n0_0 = x0.length) (hr0_0 : rdS (Bor w0 []) w0 a0_0 c0_0 x0) :
    Ret Tryz.prog 206 #[.slice a0_0 n0_0 c0_0] w0 (fun v w => ∃ ar0 cr0, v = .slice ar0 r.length cr0 ∧ St w0 [] w [sl ar0 cr0 r]) := by
  subst hn0_0
  unfold F_l_toObjS at h
  refine Ret.fn Tryz.func206 fun e => ?_
  have hS1 := St.start w0
  refine go ?_
  replace ⟨y1, hy1, h⟩ := obind h
  refine LW.mk sT60 rfl rfl hy1 hS1 rfl ?_
  intro a2 c3 w4 hS2 hf
  refine go ?_
  obtain ⟨o41, ho41, h42⟩ := obind h
  refine CW.mono (CW.iter (σ := (List DObj) × Int) (ρ := (List DObj) × Int) (fun s5 e wb => En e [(0, .slice a0_0 x0.length c0_0), (3, .slice a2 s5.1.length c3), (4, .int .i64 s5.2)] ∧ St w0 [] wb [sl a2 c3 s5.1]) (fun s5 x e wb => x = .exit 0 ∧ En e [(3, .slice a2 s5.1.length c3)] ∧ St w0 [] wb [sl a2 c3 s5.1]) ?_ N (y1, 0) _ _ _ ⟨⟨rfl, rfl, rfl, trivial⟩, hS2.pick [0] rfl rfl⟩ ho41) ?_
  · intro s5 e w6 o hM h
    obtain ⟨hE, hS3⟩ := hM
    obtain ⟨e, rfl⟩ := hE.out
    refine go ?_
    refine cd (fun hc7 => ?_) fun hc7 => ?_
    · replace h := bcT h hc7
      refine go ?_
      replace ⟨y8, hy8, h⟩ := obind h
      obtain ⟨b11, o12, cs13, hae, hb16, hp9, hq10, hd14, hk15⟩ := hr0_0.idx hy8
      subst hae
      obtain ⟨a17, c18, a20, c21, a23, c24, rfl, hr19, hr22, hr25⟩ := hd14
      refine LW.u (Pur.ix Tryz.underlying120 sz230 rfl rfl hp9 hq10) rfl ?_
      refine LW.l (Ldr.oldN w0 ag230 rfl rfl (fun j u hu => hk15 j u hu)) (hS3.same _ hb16.1 hb16.2) rfl ?_
      replace ⟨y26, hy26, h⟩ := obind h
      refine LW.cl (W_l_toObj hy26 rfl (hS3.rB hr19) rfl (hS3.rB hr22) rfl (hS3.rB hr25)) ?_
      rintro _ w33 ⟨a27, c28, a29, c30, a31, c32, rfl, hs⟩
      have hS4 := hS3.add hs
      replace ⟨y34, hy34, h⟩ := obind h
      obtain ⟨b37, o38, hae, hp35, hq36⟩ := hS4.ownIdx (α := DObj) (i := 3) rfl hy34
      subst hae
      refine LW.u (Pur.ix Tryz.underlying60 sz104 rfl rfl hp35 hq36) rfl ?_
      have hS5 := hS4.pick (M := [sl a27 c28 y26.links, sl a29 c30 y26.data, sl a31 c32 y26.queue] ++ [sl (some ⟨b37, o38, none⟩) c3 s5.1]) [0, 1, 2, 3] rfl rfl
      replace ⟨y39, hy39, h⟩ := obind h
      refine LW.stE (M := [sl a27 c28 y26.links, sl a29 c30 y26.data, sl a31 c32 y26.queue]) (L := [sl (some ⟨b37, o38, none⟩) c3 s5.1]) (z := y34) (z' := y26) (o := 0) hS5 (i := 0) rfl hy34 ag104 rfl (by show _ = o38 + (s5.2 : Int).toNat * 13 + 0; omega) rfl rfl rfl rfl (whole (fun w G hG => ⟨a27, c28, a29, c30, a31, c32, rfl, hG⟩)) ?_
      intro w40 hS6 hf
      rw [Option.some.inj hy39] at hS6
      refine go ?_
      replace h := Option.some.inj h
      subst h
      exact ⟨rfl, ⟨⟨rfl, (show (.slice (some ⟨b37, o38, none⟩) s5.1.length c3 : Value) = .slice (some ⟨b37, o38, none⟩) y39.length c3 by rw [show s5.1.length = y39.length from (len_set (Option.some.inj hy39))]), rfl, trivial⟩, hS6.pick [0] rfl rfl⟩⟩
    replace h := bcF h hc7
    refine go ?_
    cases oi h
    exact ⟨trivial, rfl, ⟨⟨rfl, trivial⟩, hS3.pick [0] rfl rfl⟩⟩
  intro x e w43 hM
  obtain ⟨rfl, hM⟩ := hM
  obtain ⟨hE, hS7⟩ := hM
  obtain ⟨e, rfl⟩ := hE.out
  have h := h42
  refine go ?_
  cases h
  exact And.intro trivial ⟨_, Res.one (resOne.t rfl), a2, c3, rfl, hS7.pick [0] rfl rfl⟩

theorem W_s_l13Copy {w0 : World} {N : Nat} {x0 : DPart} {r : DPart} (h : F_s_l13Copy N x0 = some r) {a0_0 : Option Addr} {n0_0 c0_0 : Nat} (hn0_0 : n0_0 = x0.label.levels.length) (hr0_0 : rdS (Bor w0 []) w0 a0_0 c0_0 x0.label.levels) {a0_1 : Option Addr} {n0_1 c0_1 : Nat} (hn0_1 : n0_1 = x0.own.length) (hr0_1 : rdS (Bor w0 []) w0 a0_1 c0_1 x0.own) {a0_2 : Option Addr} {n0_2 c0_2 : Nat} (hn0_2 : n0_2 = x0.tree.length) (hr0_2 : rdS (Bor w0 []) w0 a0_2 c0_2 x0.tree) {a0_3 : Option Addr} {n0_3 c0_3 : Nat} (hn0_3 : n0_3 = x0.heap.arena.length) (hr0_3 : rdS (Bor w0 []) w0 a0_3 c0_3 x0.heap.arena) {a0_7 : Option Addr} {n0_7 c0_7 : Nat} (hn0_7 : n0_7 = x0.heap.gc.grey.length) (hr0_7 : rdS (Bor w0 []) w0 a0_7 c0_7 x0.heap.gc.grey) {a0_8 : Option Addr} {n0_8 c0_8 : Nat} (hn0_8 : n0_8 = x0.taps.length) (hr0_8 : rdS (Bor w0 []) w0 a0_8 c0_8 x0.taps) :
    Ret Tryz.prog 69 #[.agg #[.slice a0_0 n0_0 c0_0, .slice a0_1 n0_1 c0_1, .slice a0_2 n0_2 c0_2, .slice a0_3 n0_3 c0_3, .int .i64 x0.heap.gc.phase, .int .i64 x0.heap.gc.pos, .int .i64 x0.heap.gc.round, .slice a0_7 n0_7 c0_7, .slice a0_8 n0_8 c0_8, .int .i64 x0.next, .int .i64 x0.want, .int .i64 x0.spent.pages, .int .i64 x0.spent.rent, .int .i64 x0.spent.cpu, .int .i64 x0.press, .int .i64 x0.lost]] w0 (fun v w => ∃ ar0_0 cr0_0, ∃ ar0_1 cr0_1, ∃ ar0_2 cr0_2, ∃ ar0_3 cr0_3, ∃ ar0_7 cr0_7, ∃ ar0_8 cr0_8, v = .agg #[.slice ar0_0 r.label.levels.length cr0_0, .slice ar0_1 r.own.length cr0_1, .slice ar0_2 r.tree.length cr0_2, .slice ar0_3 r.heap.arena.length cr0_3, .int .i64 r.heap.gc.phase, .int .i64 r.heap.gc.pos, .int .i64 r.heap.gc.round, .slice ar0_7 r.heap.gc.grey.length cr0_7, .slice ar0_8 r.taps.length cr0_8, .int .i64 r.next, .int .i64 r.want, .int .i64 r.spent.pages, .int .i64 r.spent.rent, .int .i64 r.spent.cpu, .int .i64 r.press, .int .i64 r.lost] ∧ St w0 [] w [sl ar0_0 cr0_0 r.label.levels, sl ar0_1 cr0_1 r.own, sl ar0_2 cr0_2 r.tree, sl ar0_3 cr0_3 r.heap.arena, sl ar0_7 cr0_7 r.heap.gc.grey, sl ar0_8 cr0_8 r.taps]) := by
  subst hn0_0 hn0_1 hn0_2 hn0_3 hn0_7 hn0_8
  unfold F_s_l13Copy at h
  refine Ret.fn Tryz.func69 fun e => ?_
  have hS1 := St.start w0
  refine go ?_
  refine LW.bo hS1 fun g1 w2 hS2 => ?_
  refine LW.al hS2 fun g3 w4 hS3 => ?_
  refine go ?_
  refine LW.bsl (α := Int) (vs := []) (cs := #[]) (l := ([] : List Int)) rfl (by kernel_rfl) rfl rfl rfl (fun w => rfl) hS3 rfl ?_
  intro a5 c6 w7 hS4 hf
  refine go ?_
  replace ⟨y8, hy8, h⟩ := obind h
  refine LW.appN (l := ([] : List Int)) (m := x0.label.levels) sT52 rfl rfl (hS4.rB hr0_0) hy8 hS4 (i := 0) rfl rfl ?_
  intro a9 c10 w11 hS5 hf
  refine LW.u (Pur.build (vs := [(0, .slice a9 y8.length c10)]) (cs := #[.slice a9 y8.length c10]) rfl (by kernel_rfl)) rfl ?_
  refine go ?_
  refine LW.st hS5 2 fun w12 hS6 => ?_
  refine go ?_
  refine LW.bsl (α := Int) (vs := []) (cs := #[]) (l := ([] : List Int)) rfl (by kernel_rfl) rfl rfl rfl (fun w => rfl) hS6 rfl ?_
  intro a13 c14 w15 hS7 hf
  refine go ?_
  replace ⟨y16, hy16, h⟩ := obind h
  refine LW.appN (l := ([] : List Int)) (m := x0.own) sT52 rfl rfl (hS7.rB hr0_1) hy16 hS7 (i := 0) rfl rfl ?_
  intro a17 c18 w19 hS8 hf
  refine go ?_
  refine LW.st hS8 3 fun w20 hS9 => ?_
  refine go ?_
  replace ⟨y21, hy21, h⟩ := obind h
  refine LW.cl (W_s_l6Copy hy21 rfl (hS9.rB hr0_2)) ?_
  rintro _ w24 ⟨a22, c23, rfl, hs⟩
  have hS10 := hS9.add hs
  refine go ?_
  refine LW.st hS10 4 fun w25 hS11 => ?_
  refine go ?_
  replace ⟨y26, hy26, h⟩ := obind h
  refine LW.cl (W_s_l10Copy hy26 rfl (hS11.rB hr0_3) rfl (hS11.rB hr0_7)) ?_
  rintro _ w31 ⟨a27, c28, a29, c30, rfl, hs⟩
  have hS12 := hS11.add hs
  refine go ?_
  refine LW.fl [1, 2, 21, 22] fun e => ?_
  refine LW.st hS12 6 fun w32 hS13 => ?_
  refine go ?_
  refine LW.bsl (α := DTap) (vs := []) (cs := #[]) (l := ([] : List DTap)) rfl (by kernel_rfl) rfl rfl rfl (fun w => rfl) hS13 rfl ?_
  intro a33 c34 w35 hS14 hf
  refine go ?_
  replace ⟨y36, hy36, h⟩ := obind h
  refine LW.appN (l := ([] : List DTap)) (m := x0.taps) sT65 rfl rfl (hS14.rB hr0_8) hy36 hS14 (i := 0) rfl rfl ?_
  intro a37 c38 w39 hS15 hf
  refine go ?_
  refine LW.st hS15 7 fun w40 hS16 => ?_
  refine go ?_
  refine LW.st hS16 6 fun w41 hS17 => ?_
  refine go ?_
  cases h
  exact And.intro trivial ⟨_, Res.one (resOne.b hS17 6 rfl ag67 rfl rfl), a9, c10, a17, c18, a22, c23, a27, c28, a29, c30, a37, c38, rfl, hS17.pick [5, 4, 3, 1, 2, 0] rfl rfl⟩

theorem W_s_TreeOk {w0 : World} {N : Nat} {x0 : List DRes} {r : Bool} (h : F_s_TreeOk N x0 = some r) {a0_0 : Option Addr} {n0_0 c0_0 : Nat} (hn0_0 : n0_0 = x0.length) (hr0_0 : rdS (Bor w0 []) w0 a0_0 c0_0 x0) :
    Ret Tryz.prog 138 #[.slice a0_0 n0_0 c0_0] w0 (fun v w => v = .bool r ∧ St w0 [] w []) := by
  subst hn0_0
  unfold F_s_TreeOk at h
  refine Ret.fn Tryz.func138 fun e => ?_
  have hS1 := St.start w0
  refine gs ?_
  refine CW.region ?_
  refine gs ?_
  obtain ⟨j1, hj1, h2⟩ := obind h
  refine CW.jn [0] [] [(23, .bool j1)] hS1 (h1 := ?_) (h2 := ?_)
  · have h := hj1
    refine go ?_
    rcases bcases ((x0.length : Int) != 5) with hc3 | hc3
    · replace h := bcT h hc3
      refine go ?_
      cases oi h
      exact ⟨⟨rfl, rfl, trivial⟩, hS1.pick [] rfl rfl⟩
    replace h := bcF h hc3
    refine go ?_
    replace ⟨y4, hy4, h⟩ := obind h
    obtain ⟨b7, o8, cs9, hae, hb12, hp5, hq6, hd10, hk11⟩ := hr0_0.idx hy4
    subst hae
    obtain rfl := hd10
    refine go ?_
    refine LW.u (Pur.ix Tryz.underlying59 sz138 rfl rfl hp5 hq6) rfl ?_
    refine go ?_
    refine LW.l (Ldr.old w0 ag4 rfl (hk11 0 _ rfl)) (hS1.same _ hb12.1 hb12.2) rfl ?_
    refine go ?_
    rcases bcases (!y4.live) with hc13 | hc13
    · replace h := bcT h hc13
      refine go ?_
      cases oi h
      exact ⟨⟨rfl, rfl, trivial⟩, hS1.pick [] rfl rfl⟩
    replace h := bcF h hc13
    refine go ?_
    refine LW.u (Pur.ix Tryz.underlying59 sz138 rfl rfl hp5 hq6) rfl ?_
    refine go ?_
    refine LW.l (Ldr.old w0 ag3 rfl (hk11 1 _ rfl)) (hS1.same _ hb12.1 hb12.2) rfl ?_
    refine go ?_
    cases oi h
    exact ⟨⟨rfl, rfl, trivial⟩, hS1.pick [] rfl rfl⟩
  intro e w14 hS2
  have h := h2
  refine go ?_
  refine cd (fun hc15 => ?_) fun hc15 => ?_
  · replace h := bcT h hc15
    refine go ?_
    cases h
    exact fi hS2
  replace h := bcF h hc15
  refine go ?_
  obtain ⟨o66, ho66, h67⟩ := obind h
  refine CW.mono (CW.lx [0] [] [0] 0 (fun s16 => [(3, .int .i64 s16)]) (RT Tryz.prog Tryz.f138.results (fun u => .bool u) w0 []) hS2 ho66 (hb := ?_)) ?_
  · intro s16 e w17 o hS3 h
    refine go ?_
    refine cd (fun hc18 => ?_) fun hc18 => ?_
    · replace h := bcT h hc18
      refine gs ?_
      refine CW.block ?_
      refine gs ?_
      obtain ⟨j19, hj19, h20⟩ := obind h
      refine CW.jn [0, 3] [] [(52, .bool j19)] hS3 (h1 := ?_) (h2 := ?_)
      · have h := hj19
        refine go ?_
        replace ⟨y21, hy21, h⟩ := obind h
        obtain ⟨b24, o25, cs26, hae, hb29, hp22, hq23, hd27, hk28⟩ := hr0_0.idx hy21
        subst hae
        obtain rfl := hd27
        refine LW.u (Pur.ix Tryz.underlying59 sz138 rfl rfl hp22 hq23) rfl ?_
        refine go ?_
        refine LW.l (Ldr.old w0 ag4 rfl (hk28 0 _ rfl)) (hS3.same _ hb29.1 hb29.2) rfl ?_
        refine go ?_
        rcases bcases (!y21.live) with hc30 | hc30
        · replace h := bcT h hc30
          refine go ?_
          refine LW.u (Pur.ix Tryz.underlying59 sz138 rfl rfl hp22 hq23) rfl ?_
          refine go ?_
          refine LW.l (Ldr.oldN w0 ag138 rfl rfl (fun j u hu => hk28 j u hu)) (hS3.same _ hb29.1 hb29.2) rfl ?_
          refine go ?_
          refine LW.u (Pur.build (vs := []) (cs := #[.bool false, .int .i64 0, .int .i64 0, .int .i64 0, .int .i64 0]) rfl (by kernel_rfl)) rfl ?_
          refine go ?_
          refine LW.u (Pur.ane eg138 rfl rfl (fun w => eq138 y21 (DRes.mk false 0 (DAmt.mk 0 0 0)) w)) rfl ?_
          refine go ?_
          rcases bcases (!decide (y21 = DRes.mk false 0 (DAmt.mk 0 0 0))) with hc31 | hc31
          · replace h := bcT h hc31
            refine go ?_
            cases oi h
            exact ⟨⟨rfl, rfl, rfl, trivial⟩, hS3.pick [] rfl rfl⟩
          replace h := bcF h hc31
          refine go ?_
          refine LW.fl [0, 3, 44, 45, 46] fun e => ?_
          refine go ?_
          refine LW.u (Pur.ix Tryz.underlying59 sz138 rfl rfl hp22 hq23) rfl ?_
          refine go ?_
          refine LW.l (Ldr.oldN w0 ag56 rfl rfl (fun j u hu => oldsub (m := 3) hk28 2 hu)) (hS3.same _ hb29.1 hb29.2) rfl ?_
          replace ⟨y32, hy32, h⟩ := obind h
          refine go ?_
          refine LW.c0 (W_s_AmtOk hy32) hS3 fun w33 hS4 => ?_
          refine go ?_
          cases oi h
          exact ⟨⟨rfl, rfl, rfl, trivial⟩, hS4.pick [] rfl rfl⟩
        replace h := bcF h hc30
        refine go ?_
        refine LW.fl [0, 3, 44, 45, 46] fun e => ?_
        refine go ?_
        refine LW.u (Pur.ix Tryz.underlying59 sz138 rfl rfl hp22 hq23) rfl ?_
        refine go ?_
        refine LW.l (Ldr.oldN w0 ag56 rfl rfl (fun j u hu => oldsub (m := 3) hk28 2 hu)) (hS3.same _ hb29.1 hb29.2) rfl ?_
        replace ⟨y34, hy34, h⟩ := obind h
        refine go ?_
        refine LW.c0 (W_s_AmtOk hy34) hS3 fun w35 hS5 => ?_
        refine go ?_
        cases oi h
        exact ⟨⟨rfl, rfl, rfl, trivial⟩, hS5.pick [] rfl rfl⟩
      intro e w36 hS6
      have h := h20
      refine go ?_
      refine cd (fun hc37 => ?_) fun hc37 => ?_
      · replace h := bcT h hc37
        refine go ?_
        cases oi h
        exact ⟨trivial, rfl, _, rfl, ⟨_, Res.one (resOne.t rfl), rfl, hS6.pick [] rfl rfl⟩⟩
      replace h := bcF h hc37
      refine gs ?_
      obtain ⟨j38, hj38, h39⟩ := obind h
      refine CW.jn [0, 3] [] [(91, .bool j38)] hS6 (h1 := ?_) (h2 := ?_)
      · have h := hj38
        refine go ?_
        rcases bcases (decide (s16 > 0)) with hc40 | hc40
        · replace h := bcT h hc40
          refine go ?_
          replace ⟨y41, hy41, h⟩ := obind h
          obtain ⟨b44, o45, cs46, hae, hb49, hp42, hq43, hd47, hk48⟩ := hr0_0.idx hy41
          subst hae
          obtain rfl := hd47
          refine go ?_
          refine LW.u (Pur.ix Tryz.underlying59 sz138 rfl rfl hp42 hq43) rfl ?_
          refine go ?_
          refine LW.l (Ldr.old w0 ag4 rfl (hk48 0 _ rfl)) (hS6.same _ hb49.1 hb49.2) rfl ?_
          refine go ?_
          rcases bcases y41.live with hc50 | hc50
          · replace h := bcT h hc50
            refine go ?_
            refine LW.u (Pur.ix Tryz.underlying59 sz138 rfl rfl hp42 hq43) rfl ?_
            refine go ?_
            refine LW.l (Ldr.old w0 ag3 rfl (hk48 1 _ rfl)) (hS6.same _ hb49.1 hb49.2) rfl ?_
            replace ⟨y51, hy51, h⟩ := obind h
            refine go ?_
            refine LW.c0 (W_s_l6Res hy51) hS6 fun w52 hS7 => ?_
            refine go ?_
            refine LW.fl [0, 3, 62, 70] fun e => ?_
            rcases bcases (!y51) with hc53 | hc53
            · replace h := bcT h hc53
              refine go ?_
              cases oi h
              exact ⟨⟨rfl, rfl, rfl, trivial⟩, hS7.pick [] rfl rfl⟩
            replace h := bcF h hc53
            refine go ?_
            refine LW.u (Pur.ix Tryz.underlying59 sz138 rfl rfl hp42 hq43) rfl ?_
            refine go ?_
            refine LW.l (Ldr.old w0 ag3 rfl (hk48 1 _ rfl)) (hS7.same _ hb49.1 hb49.2) rfl ?_
            refine go ?_
            rcases bcases (y41.parent == s16) with hc54 | hc54
            · replace h := bcT h hc54
              refine go ?_
              cases oi h
              exact ⟨⟨rfl, rfl, rfl, trivial⟩, hS7.pick [] rfl rfl⟩
            replace h := bcF h hc54
            refine go ?_
            refine LW.u (Pur.ix Tryz.underlying59 sz138 rfl rfl hp42 hq43) rfl ?_
            refine go ?_
            refine LW.l (Ldr.old w0 ag3 rfl (hk48 1 _ rfl)) (hS7.same _ hb49.1 hb49.2) rfl ?_
            replace ⟨y55, hy55, h⟩ := obind h
            obtain ⟨b58, o59, cs60, hae, hb63, hp56, hq57, hd61, hk62⟩ := hr0_0.idx hy55
            cases hae
            obtain rfl := hd61
            refine go ?_
            refine LW.u (Pur.ix Tryz.underlying59 sz138 rfl rfl hp56 hq57) rfl ?_
            refine go ?_
            refine LW.l (Ldr.old w0 ag4 rfl (hk62 0 _ rfl)) (hS7.same _ hb63.1 hb63.2) rfl ?_
            refine go ?_
            cases oi h
            exact ⟨⟨rfl, rfl, rfl, trivial⟩, hS7.pick [] rfl rfl⟩
          replace h := bcF h hc50
          refine go ?_
          cases oi h
          exact ⟨⟨rfl, rfl, rfl, trivial⟩, hS6.pick [] rfl rfl⟩
        replace h := bcF h hc40
        refine go ?_
        cases oi h
        exact ⟨⟨rfl, rfl, rfl, trivial⟩, hS6.pick [] rfl rfl⟩
      intro e w64 hS8
      have h := h39
      refine go ?_
      refine cd (fun hc65 => ?_) fun hc65 => ?_
      · replace h := bcT h hc65
        refine go ?_
        cases oi h
        exact ⟨trivial, rfl, _, rfl, ⟨_, Res.one (resOne.t rfl), rfl, hS8.pick [] rfl rfl⟩⟩
      replace h := bcF h hc65
      refine go ?_
      cases oi h
      exact ⟨rfl, ⟨⟨rfl, rfl, trivial⟩, hS8.pick [] rfl rfl⟩⟩
    replace h := bcF h hc18
    refine go ?_
    cases oi h
    exact ⟨trivial, rfl, ⟨⟨rfl, trivial⟩, hS3.pick [] rfl rfl⟩⟩
  intro x e w68 hM
  rcases o66 with o66 | r123
  · obtain ⟨rfl, hM⟩ := hM
    obtain ⟨hE, hS9⟩ := hM
    obtain ⟨e, rfl⟩ := hE.out
    have h := h67
    refine go ?_
    obtain ⟨o115, ho115, h116⟩ := obind h
    refine CW.mono (CW.lx [0] [] [0] 2 (fun s69 => [(4, .int .i64 s69)]) (RT Tryz.prog Tryz.f138.results (fun u => .bool u) w0 []) hS9 ho115 (hb := ?_)) ?_
    · intro s69 e w70 o hS10 h
      refine go ?_
      refine cd (fun hc71 => ?_) fun hc71 => ?_
      · replace h := bcT h hc71
        refine go ?_
        obtain ⟨o98, ho98, h99⟩ := obind h
        refine CW.mono (CW.lb [0, 4] [] [0, 4, 5] 4 (fun s72 => [(5, .int .i64 s72.1), (6, .int .i64 s72.2)]) hS10 ho98 (hb := ?_)) ?_
        · intro s72 e w73 o hS11 h
          refine gs ?_
          obtain ⟨j74, hj74, h75⟩ := obind h
          refine CW.jn [0, 4, 5, 6] [] [(111, .bool j74)] hS11 (h1 := ?_) (h2 := ?_)
          · have h := hj74
            refine go ?_
            rcases bcases (decide (s72.2 < 5)) with hc76 | hc76
            · replace h := bcT h hc76
              refine go ?_
              replace ⟨y77, hy77, h⟩ := obind h
              obtain ⟨b80, o81, cs82, hae, hb85, hp78, hq79, hd83, hk84⟩ := hr0_0.idx hy77
              subst hae
              obtain rfl := hd83
              refine go ?_
              refine LW.u (Pur.ix Tryz.underlying59 sz138 rfl rfl hp78 hq79) rfl ?_
              refine go ?_
              refine LW.l (Ldr.old w0 ag4 rfl (hk84 0 _ rfl)) (hS11.same _ hb85.1 hb85.2) rfl ?_
              refine go ?_
              rcases bcases y77.live with hc86 | hc86
              · replace h := bcT h hc86
                refine go ?_
                cases oi h
                exact ⟨⟨rfl, rfl, rfl, rfl, rfl, trivial⟩, hS11.pick [] rfl rfl⟩
              replace h := bcF h hc86
              refine go ?_
              cases oi h
              exact ⟨⟨rfl, rfl, rfl, rfl, rfl, trivial⟩, hS11.pick [] rfl rfl⟩
            replace h := bcF h hc76
            refine go ?_
            cases oi h
            exact ⟨⟨rfl, rfl, rfl, rfl, rfl, trivial⟩, hS11.pick [] rfl rfl⟩
          intro e w87 hS12
          have h := h75
          refine go ?_
          refine cd (fun hc88 => ?_) fun hc88 => ?_
          · replace h := bcT h hc88
            refine go ?_
            replace ⟨y89, hy89, h⟩ := obind h
            obtain ⟨b92, o93, cs94, hae, hb97, hp90, hq91, hd95, hk96⟩ := hr0_0.idx hy89
            subst hae
            obtain rfl := hd95
            refine LW.u (Pur.ix Tryz.underlying59 sz138 rfl rfl hp90 hq91) rfl ?_
            refine go ?_
            refine LW.l (Ldr.old w0 ag3 rfl (hk96 1 _ rfl)) (hS12.same _ hb97.1 hb97.2) rfl ?_
            refine go ?_
            cases oi h
            exact ⟨rfl, ⟨⟨rfl, rfl, rfl, rfl, trivial⟩, hS12.pick [] rfl rfl⟩⟩
          replace h := bcF h hc88
          refine go ?_
          cases oi h
          exact ⟨trivial, rfl, ⟨⟨rfl, rfl, rfl, trivial⟩, hS12.pick [] rfl rfl⟩⟩
        intro x e w100 hM
        obtain ⟨rfl, hM⟩ := hM
        obtain ⟨hE, hS13⟩ := hM
        obtain ⟨e, rfl⟩ := hE.out
        have h := h99
        refine gs ?_
        obtain ⟨j101, hj101, h102⟩ := obind h
        refine CW.jn [0, 4] [] [(127, .bool j101)] hS13 (h1 := ?_) (h2 := ?_)
        · have h := hj101
          refine go ?_
          replace ⟨y103, hy103, h⟩ := obind h
          obtain ⟨b106, o107, cs108, hae, hb111, hp104, hq105, hd109, hk110⟩ := hr0_0.idx hy103
          subst hae
          obtain rfl := hd109
          refine LW.u (Pur.ix Tryz.underlying59 sz138 rfl rfl hp104 hq105) rfl ?_
          refine go ?_
          refine LW.l (Ldr.old w0 ag4 rfl (hk110 0 _ rfl)) (hS13.same _ hb111.1 hb111.2) rfl ?_
          refine go ?_
          rcases bcases y103.live with hc112 | hc112
          · replace h := bcT h hc112
            refine go ?_
            cases oi h
            exact ⟨⟨rfl, rfl, rfl, trivial⟩, hS13.pick [] rfl rfl⟩
          replace h := bcF h hc112
          refine go ?_
          cases oi h
          exact ⟨⟨rfl, rfl, rfl, trivial⟩, hS13.pick [] rfl rfl⟩
        intro e w113 hS14
        have h := h102
        refine go ?_
        refine cd (fun hc114 => ?_) fun hc114 => ?_
        · replace h := bcT h hc114
          refine go ?_
          cases oi h
          exact ⟨trivial, rfl, _, rfl, ⟨_, Res.one (resOne.t rfl), rfl, hS14.pick [] rfl rfl⟩⟩
        replace h := bcF h hc114
        refine go ?_
        cases oi h
        exact ⟨rfl, ⟨⟨rfl, rfl, trivial⟩, hS14.pick [] rfl rfl⟩⟩
      replace h := bcF h hc71
      refine go ?_
      cases oi h
      exact ⟨trivial, rfl, ⟨⟨rfl, trivial⟩, hS10.pick [] rfl rfl⟩⟩
    intro x e w117 hM
    rcases o115 with o115 | r122
    · obtain ⟨rfl, hM⟩ := hM
      obtain ⟨hE, hS15⟩ := hM
      obtain ⟨e, rfl⟩ := hE.out
      have h := h116
      refine go ?_
      replace ⟨y118, hy118, h⟩ := obind h
      refine LW.c0 (W_s_l6Sum hy118 rfl (hS15.rB hr0_0)) hS15 fun w119 hS16 => ?_
      replace ⟨y120, hy120, h⟩ := obind h
      refine LW.c0 (W_s_AmtOk hy120) hS16 fun w121 hS17 => ?_
      refine go ?_
      cases h
      exact fi hS17
    obtain ⟨rfl, u, rfl, hM⟩ := hM
    cases h116
    exact And.intro trivial hM
  obtain ⟨rfl, u, rfl, hM⟩ := hM
  cases h67
  exact And.intro trivial hM

theorem W_s_ArenaOk {w0 : World} {N : Nat} {x0 : List DObj} {r : Bool} (h : F_s_ArenaOk N x0 = some r) {a0_0 : Option Addr} {n0_0 c0_0 : Nat} (hn0_0 : n0_0 = x0.length) (hr0_0 : rdS (Bor w0 []) w0 a0_0 c0_0 x0) :
    Ret Tryz.prog 170 #[.slice a0_0 n0_0 c0_0] w0 (fun v w => v = .bool r ∧ St w0 [] w []) := by
  subst hn0_0
  unfold F_s_ArenaOk at h
  refine Ret.fn Tryz.func170 fun e => ?_
  have hS1 := St.start w0
  refine gs ?_
  refine CW.region ?_
  refine gs ?_
  obtain ⟨j1, hj1, h2⟩ := obind h
  refine CW.jn [0] [] [(29, .bool j1)] hS1 (h1 := ?_) (h2 := ?_)
  · have h := hj1
    refine go ?_
    rcases bcases ((x0.length : Int) != 10) with hc3 | hc3
    · replace h := bcT h hc3
      refine go ?_
      cases oi h
      exact ⟨⟨rfl, rfl, trivial⟩, hS1.pick [] rfl rfl⟩
    replace h := bcF h hc3
    refine go ?_
    replace ⟨y4, hy4, h⟩ := obind h
    obtain ⟨b7, o8, cs9, hae, hb12, hp5, hq6, hd10, hk11⟩ := hr0_0.idx hy4
    subst hae
    obtain ⟨a13, c14, a16, c17, a19, c20, rfl, hr15, hr18, hr21⟩ := hd10
    refine go ?_
    refine LW.u (Pur.ix Tryz.underlying60 sz104 rfl rfl hp5 hq6) rfl ?_
    refine go ?_
    refine LW.l (Ldr.old w0 ag3 rfl (hk11 1 _ rfl)) (hS1.same _ hb12.1 hb12.2) rfl ?_
    refine go ?_
    rcases bcases (y4.kind != 1) with hc22 | hc22
    · replace h := bcT h hc22
      refine go ?_
      cases oi h
      exact ⟨⟨rfl, rfl, trivial⟩, hS1.pick [] rfl rfl⟩
    replace h := bcF h hc22
    refine go ?_
    refine LW.u (Pur.ix Tryz.underlying60 sz104 rfl rfl hp5 hq6) rfl ?_
    refine go ?_
    refine LW.l (Ldr.old w0 ag3 rfl (hk11 2 _ rfl)) (hS1.same _ hb12.1 hb12.2) rfl ?_
    refine go ?_
    rcases bcases (y4.box != (-1)) with hc23 | hc23
    · replace h := bcT h hc23
      refine go ?_
      cases oi h
      exact ⟨⟨rfl, rfl, trivial⟩, hS1.pick [] rfl rfl⟩
    replace h := bcF h hc23
    refine go ?_
    refine LW.u (Pur.ix Tryz.underlying60 sz104 rfl rfl hp5 hq6) rfl ?_
    refine go ?_
    refine LW.fl [0, 23, 26] fun e => ?_
    refine go ?_
    refine LW.l (Ldr.old w0 ag3 rfl (hk11 4 _ rfl)) (hS1.same _ hb12.1 hb12.2) rfl ?_
    refine go ?_
    cases oi h
    exact ⟨⟨rfl, rfl, trivial⟩, hS1.pick [] rfl rfl⟩
  intro e w24 hS2
  have h := h2
  refine go ?_
  refine cd (fun hc25 => ?_) fun hc25 => ?_
  · replace h := bcT h hc25
    refine go ?_
    cases h
    exact fi hS2
  replace h := bcF h hc25
  refine go ?_
  obtain ⟨o132, ho132, h133⟩ := obind h
  refine CW.mono (CW.lx [0] [] [] 0 (fun s26 => [(3, .int .i64 s26)]) (RT Tryz.prog Tryz.f170.results (fun u => .bool u) w0 []) hS2 ho132 (hb := ?_)) ?_
  · intro s26 e w27 o hS3 h
    refine go ?_
    refine cd (fun hc28 => ?_) fun hc28 => ?_
    · replace h := bcT h hc28
      refine gs ?_
      refine CW.block ?_
      refine gs ?_
      obtain ⟨j29, hj29, h30⟩ := obind h
      refine CW.jn [0, 3] [] [(73, .bool j29)] hS3 (h1 := ?_) (h2 := ?_)
      · have h := hj29
        refine go ?_
        replace ⟨y31, hy31, h⟩ := obind h
        obtain ⟨b34, o35, cs36, hae, hb39, hp32, hq33, hd37, hk38⟩ := hr0_0.idx hy31
        subst hae
        obtain ⟨a40, c41, a43, c44, a46, c47, rfl, hr42, hr45, hr48⟩ := hd37
        refine LW.u (Pur.ix Tryz.underlying60 sz104 rfl rfl hp32 hq33) rfl ?_
        refine LW.l (Ldr.oldN w0 ag104 rfl rfl (fun j u hu => hk38 j u hu)) (hS3.same _ hb39.1 hb39.2) rfl ?_
        replace ⟨y49, hy49, h⟩ := obind h
        refine LW.c0 (W_s_ObjOk hy49 rfl (hS3.rB hr42) rfl (hS3.rB hr45) rfl (hS3.rB hr48)) hS3 fun w50 hS4 => ?_
        refine go ?_
        rcases bcases (!y49) with hc51 | hc51
        · replace h := bcT h hc51
          refine go ?_
          cases oi h
          exact ⟨⟨rfl, rfl, rfl, trivial⟩, hS4.pick [] rfl rfl⟩
        replace h := bcF h hc51
        refine go ?_
        refine LW.u (Pur.ix Tryz.underlying60 sz104 rfl rfl hp32 hq33) rfl ?_
        refine go ?_
        refine LW.l (Ldr.old w0 ag3 rfl (hk38 1 _ rfl)) (hS4.same _ hb39.1 hb39.2) rfl ?_
        refine go ?_
        rcases bcases (y31.kind != 0) with hc52 | hc52
        · replace h := bcT h hc52
          refine go ?_
          refine LW.fl [0, 3, 42, 53] fun e => ?_
          rcases bcases (decide (s26 > 0)) with hc53 | hc53
          · replace h := bcT h hc53
            refine go ?_
            refine LW.u (Pur.ix Tryz.underlying60 sz104 rfl rfl hp32 hq33) rfl ?_
            refine go ?_
            refine LW.l (Ldr.old w0 ag3 rfl (hk38 2 _ rfl)) (hS4.same _ hb39.1 hb39.2) rfl ?_
            refine go ?_
            rcases bcases (decide (y31.box ≥ 0)) with hc54 | hc54
            · replace h := bcT h hc54
              refine go ?_
              refine LW.u (Pur.ix Tryz.underlying60 sz104 rfl rfl hp32 hq33) rfl ?_
              refine go ?_
              refine LW.l (Ldr.old w0 ag3 rfl (hk38 2 _ rfl)) (hS4.same _ hb39.1 hb39.2) rfl ?_
              replace ⟨y55, hy55, h⟩ := obind h
              obtain ⟨b58, o59, cs60, hae, hb63, hp56, hq57, hd61, hk62⟩ := hr0_0.idx hy55
              cases hae
              obtain ⟨a64, c65, a67, c68, a70, c71, rfl, hr66, hr69, hr72⟩ := hd61
              refine go ?_
              refine LW.u (Pur.ix Tryz.underlying60 sz104 rfl rfl hp56 hq57) rfl ?_
              refine go ?_
              refine LW.l (Ldr.old w0 ag3 rfl (hk62 1 _ rfl)) (hS4.same _ hb63.1 hb63.2) rfl ?_
              refine go ?_
              cases oi h
              exact ⟨⟨rfl, rfl, rfl, trivial⟩, hS4.pick [] rfl rfl⟩
            replace h := bcF h hc54
            refine go ?_
            cases oi h
            exact ⟨⟨rfl, rfl, rfl, trivial⟩, hS4.pick [] rfl rfl⟩
          replace h := bcF h hc53
          refine go ?_
          cases oi h
          exact ⟨⟨rfl, rfl, rfl, trivial⟩, hS4.pick [] rfl rfl⟩
        replace h := bcF h hc52
        refine go ?_
        cases oi h
        exact ⟨⟨rfl, rfl, rfl, trivial⟩, hS4.pick [] rfl rfl⟩
      intro e w73 hS5
      have h := h30
      refine go ?_
      refine cd (fun hc74 => ?_) fun hc74 => ?_
      · replace h := bcT h hc74
        refine go ?_
        cases oi h
        exact ⟨trivial, rfl, _, rfl, ⟨_, Res.one (resOne.t rfl), rfl, hS5.pick [] rfl rfl⟩⟩
      replace h := bcF h hc74
      refine go ?_
      obtain ⟨o128, ho128, h129⟩ := obind h
      refine CW.mono (CW.lx [0, 3] [] [0, 3] 2 (fun s75 => [(4, .int .i64 s75)]) (RT Tryz.prog Tryz.f170.results (fun u => .bool u) w0 []) hS5 ho128 (hb := ?_)) ?_
      · intro s75 e w76 o hS6 h
        refine go ?_
        replace ⟨y77, hy77, h⟩ := obind h
        obtain ⟨b80, o81, cs82, hae, hb85, hp78, hq79, hd83, hk84⟩ := hr0_0.idx hy77
        subst hae
        obtain ⟨a86, c87, a89, c90, a92, c93, rfl, hr88, hr91, hr94⟩ := hd83
        refine LW.u (Pur.ix Tryz.underlying60 sz104 rfl rfl hp78 hq79) rfl ?_
        refine go ?_
        refine LW.l (Ldr.old w0 ag52 rfl (hk84 10 _ rfl)) (hS6.same _ hb85.1 hb85.2) rfl ?_
        refine go ?_
        refine CW.fl [0, 3, 4, 81] fun e => ?_
        refine cd (fun hc95 => ?_) fun hc95 => ?_
        · replace h := bcT h hc95
          refine go ?_
          refine LW.u (Pur.ix Tryz.underlying60 sz104 rfl rfl hp78 hq79) rfl ?_
          refine go ?_
          refine LW.l (Ldr.old w0 ag52 rfl (hk84 10 _ rfl)) (hS6.same _ hb85.1 hb85.2) rfl ?_
          refine go ?_
          replace ⟨y96, hy96, h⟩ := obind h
          obtain ⟨b99, o100, cs101, hae, hb104, hp97, hq98, hd102, hk103⟩ := hr88.idx hy96
          subst hae
          obtain rfl := hd102
          refine LW.u (Pur.ix Tryz.underlying52 sz3 rfl rfl hp97 hq98) rfl ?_
          refine LW.l (Ldr.old w0 ag3 rfl (hk103 0 _ rfl)) (hS6.same _ hb104.1 hb104.2) rfl ?_
          refine gs ?_
          obtain ⟨j105, hj105, h106⟩ := obind h
          refine CW.jn [0, 3, 4] [] [(101, .bool j105)] hS6 (h1 := ?_) (h2 := ?_)
          · have h := hj105
            refine go ?_
            rcases bcases (decide (y96 ≥ 0)) with hc107 | hc107
            · replace h := bcT h hc107
              refine go ?_
              replace ⟨y108, hy108, h⟩ := obind h
              obtain ⟨b111, o112, cs113, hae, hb116, hp109, hq110, hd114, hk115⟩ := hr0_0.idx hy108
              cases hae
              obtain ⟨a117, c118, a120, c121, a123, c124, rfl, hr119, hr122, hr125⟩ := hd114
              refine go ?_
              refine LW.u (Pur.ix Tryz.underlying60 sz104 rfl rfl hp109 hq110) rfl ?_
              refine go ?_
              refine LW.l (Ldr.old w0 ag3 rfl (hk115 1 _ rfl)) (hS6.same _ hb116.1 hb116.2) rfl ?_
              refine go ?_
              cases oi h
              exact ⟨⟨rfl, rfl, rfl, rfl, trivial⟩, hS6.pick [] rfl rfl⟩
            replace h := bcF h hc107
            refine go ?_
            cases oi h
            exact ⟨⟨rfl, rfl, rfl, rfl, trivial⟩, hS6.pick [] rfl rfl⟩
          intro e w126 hS7
          have h := h106
          refine go ?_
          refine cd (fun hc127 => ?_) fun hc127 => ?_
          · replace h := bcT h hc127
            refine go ?_
            cases oi h
            exact ⟨trivial, rfl, _, rfl, ⟨_, Res.one (resOne.t rfl), rfl, hS7.pick [] rfl rfl⟩⟩
          replace h := bcF h hc127
          refine go ?_
          cases oi h
          exact ⟨rfl, ⟨⟨rfl, rfl, rfl, trivial⟩, hS7.pick [] rfl rfl⟩⟩
        replace h := bcF h hc95
        refine go ?_
        cases oi h
        exact ⟨trivial, rfl, ⟨⟨rfl, rfl, trivial⟩, hS6.pick [] rfl rfl⟩⟩
      intro x e w130 hM
      rcases o128 with o128 | r131
      · obtain ⟨rfl, hM⟩ := hM
        obtain ⟨hE, hS8⟩ := hM
        obtain ⟨e, rfl⟩ := hE.out
        have h := h129
        refine go ?_
        cases oi h
        exact ⟨rfl, ⟨⟨rfl, rfl, trivial⟩, hS8.pick [] rfl rfl⟩⟩
      obtain ⟨rfl, u, rfl, hM⟩ := hM
      cases h129
      exact ⟨trivial, rfl, _, rfl, hM⟩
    replace h := bcF h hc28
    refine go ?_
    cases oi h
    exact ⟨trivial, rfl, ⟨trivial, hS3.pick [] rfl rfl⟩⟩
  intro x e w134 hM
  rcases o132 with o132 | r135
  · obtain ⟨rfl, hM⟩ := hM
    obtain ⟨hE, hS9⟩ := hM
    obtain ⟨e, rfl⟩ := hE.out; rw [show e = upds e [] from rfl]
    have h := h133
    refine go ?_
    cases h
    exact fi hS9
  obtain ⟨rfl, u, rfl, hM⟩ := hM
  cases h133
  exact And.intro trivial hM

theorem W_s_Held {w0 : World} {N : Nat} {x0 : DPart} {r : Int} (h : F_s_Held N x0 = some r) {a0_0 : Option Addr} {n0_0 c0_0 : Nat} (hn0_0 : n0_0 = x0.label.levels.length) (hr0_0 : rdS (Bor w0 []) w0 a0_0 c0_0 x0.label.levels) {a0_1 : Option Addr} {n0_1 c0_1 : Nat} (hn0_1 : n0_1 = x0.own.length) (hr0_1 : rdS (Bor w0 []) w0 a0_1 c0_1 x0.own) {a0_2 : Option Addr} {n0_2 c0_2 : Nat} (hn0_2 : n0_2 = x0.tree.length) (hr0_2 : rdS (Bor w0 []) w0 a0_2 c0_2 x0.tree) {a0_3 : Option Addr} {n0_3 c0_3 : Nat} (hn0_3 : n0_3 = x0.heap.arena.length) (hr0_3 : rdS (Bor w0 []) w0 a0_3 c0_3 x0.heap.arena) {a0_7 : Option Addr} {n0_7 c0_7 : Nat} (hn0_7 : n0_7 = x0.heap.gc.grey.length) (hr0_7 : rdS (Bor w0 []) w0 a0_7 c0_7 x0.heap.gc.grey) {a0_8 : Option Addr} {n0_8 c0_8 : Nat} (hn0_8 : n0_8 = x0.taps.length) (hr0_8 : rdS (Bor w0 []) w0 a0_8 c0_8 x0.taps) :
    Ret Tryz.prog 203 #[.agg #[.slice a0_0 n0_0 c0_0, .slice a0_1 n0_1 c0_1, .slice a0_2 n0_2 c0_2, .slice a0_3 n0_3 c0_3, .int .i64 x0.heap.gc.phase, .int .i64 x0.heap.gc.pos, .int .i64 x0.heap.gc.round, .slice a0_7 n0_7 c0_7, .slice a0_8 n0_8 c0_8, .int .i64 x0.next, .int .i64 x0.want, .int .i64 x0.spent.pages, .int .i64 x0.spent.rent, .int .i64 x0.spent.cpu, .int .i64 x0.press, .int .i64 x0.lost]] w0 (fun v w => v = .int .i64 r ∧ St w0 [] w []) := by
  subst hn0_0 hn0_1 hn0_2 hn0_3 hn0_7 hn0_8
  unfold F_s_Held at h
  refine Ret.fn Tryz.func203 fun e => ?_
  have hS1 := St.start w0
  refine go ?_
  refine LW.bo hS1 fun g1 w2 hS2 => ?_
  refine go ?_
  obtain ⟨o31, ho31, h32⟩ := obind h
  refine CW.mono (CW.lb [1] [0] [3] 0 (fun s3 => [(3, .int .i64 s3.1), (4, .int .i64 s3.2)]) hS2 ho31 (hb := ?_)) ?_
  · intro s3 e w4 o hS3 h
    refine gs ?_
    obtain ⟨j5, hj5, h6⟩ := obind h
    refine CW.jn [1, 3, 4] [0] [(14, .bool j5)] hS3 (h1 := ?_) (h2 := ?_)
    · have h := hj5
      refine go ?_
      rcases bcases (decide (s3.2 < (x0.heap.arena.length : Int))) with hc7 | hc7
      · replace h := bcT h hc7
        refine go ?_
        cases oi h
        exact ⟨⟨rfl, rfl, rfl, rfl, trivial⟩, hS3.pick [0] rfl rfl⟩
      replace h := bcF h hc7
      refine go ?_
      cases oi h
      exact ⟨⟨rfl, rfl, rfl, rfl, trivial⟩, hS3.pick [0] rfl rfl⟩
    intro e w8 hS4
    have h := h6
    refine go ?_
    refine cd (fun hc9 => ?_) fun hc9 => ?_
    · replace h := bcT h hc9
      refine go ?_
      replace ⟨y10, hy10, h⟩ := obind h
      obtain ⟨b13, o14, cs15, hae, hb18, hp11, hq12, hd16, hk17⟩ := hr0_3.idx hy10
      subst hae
      obtain ⟨a19, c20, a22, c23, a25, c26, rfl, hr21, hr24, hr27⟩ := hd16
      refine LW.u (Pur.ix Tryz.underlying60 sz104 rfl rfl hp11 hq12) rfl ?_
      refine LW.l (Ldr.oldN w0 ag104 rfl rfl (fun j u hu => hk17 j u hu)) (hS4.same _ hb18.1 hb18.2) rfl ?_
      replace ⟨y28, hy28, h⟩ := obind h
      refine LW.c0 (W_s_ObjOk hy28 rfl (hS4.rB hr21) rfl (hS4.rB hr24) rfl (hS4.rB hr27)) hS4 fun w29 hS5 => ?_
      refine go ?_
      refine cd (fun hc30 => ?_) fun hc30 => ?_
      · replace h := bcT h hc30
        refine go ?_
        refine LW.u (Pur.ix Tryz.underlying60 sz104 rfl rfl hp11 hq12) rfl ?_
        refine go ?_
        refine LW.l (Ldr.old w0 ag3 rfl (hk17 5 _ rfl)) (hS5.same _ hb18.1 hb18.2) rfl ?_
        refine go ?_
        cases oi h
        exact ⟨rfl, ⟨⟨rfl, rfl, rfl, trivial⟩, hS5.pick [0] rfl rfl⟩⟩
      replace h := bcF h hc30
      refine go ?_
      cases oi h
      exact ⟨rfl, ⟨⟨rfl, rfl, rfl, trivial⟩, hS5.pick [0] rfl rfl⟩⟩
    replace h := bcF h hc9
    refine go ?_
    cases oi h
    exact ⟨trivial, rfl, ⟨⟨rfl, trivial⟩, hS4.pick [0] rfl rfl⟩⟩
  intro x e w33 hM
  obtain ⟨rfl, hM⟩ := hM
  obtain ⟨hE, hS6⟩ := hM
  obtain ⟨e, rfl⟩ := hE.out
  have h := h32
  refine go ?_
  cases h
  exact fi hS6

theorem W_s_TapFlow {w0 : World} {N : Nat} {x0 : DTap} {x1 : DAmt} {r : Int} (h : F_s_TapFlow N x0 x1 = some r) :
    Ret Tryz.prog 77 #[.agg #[.int .i64 x0.res, .int .i64 x0.toPart, .int .i64 x0.toRes, .int .i64 x0.which, .int .i64 x0.kind, .int .i64 x0.rate], .agg #[.int .i64 x1.pages, .int .i64 x1.rent, .int .i64 x1.cpu]] w0 (fun v w => v = .int .i64 r ∧ St w0 [] w []) := by
  unfold F_s_TapFlow at h
  refine Ret.fn Tryz.func77 fun e => ?_
  have hS1 := St.start w0
  refine go ?_
  refine LW.bo hS1 fun g1 w2 hS2 => ?_
  refine LW.bo hS2 fun g3 w4 hS3 => ?_
  refine gs ?_
  obtain ⟨j5, hj5, h6⟩ := obind h
  refine CW.jn [2, 3] [0, 1] [(13, .bool j5)] hS3 (h1 := ?_) (h2 := ?_)
  · have h := hj5
    refine go ?_
    replace ⟨y7, hy7, h⟩ := obind h
    refine LW.c0 (W_s_TapOk hy7) hS3 fun w8 hS4 => ?_
    refine go ?_
    rcases bcases (!y7) with hc9 | hc9
    · replace h := bcT h hc9
      refine go ?_
      cases oi h
      exact ⟨⟨rfl, rfl, rfl, trivial⟩, hS4.pick [0, 1] rfl rfl⟩
    replace h := bcF h hc9
    refine go ?_
    replace ⟨y10, hy10, h⟩ := obind h
    refine go ?_
    refine LW.c0 (W_s_AmtOk hy10) hS4 fun w11 hS5 => ?_
    refine go ?_
    cases oi h
    exact ⟨⟨rfl, rfl, rfl, trivial⟩, hS5.pick [0, 1] rfl rfl⟩
  intro e w12 hS6
  have h := h6
  refine go ?_
  refine cd (fun hc13 => ?_) fun hc13 => ?_
  · replace h := bcT h hc13
    refine go ?_
    cases h
    exact fi hS6
  replace h := bcF h hc13
  refine go ?_
  replace ⟨y14, hy14, h⟩ := obind h
  refine LW.c0 (W_s_AmtPart hy14) hS6 fun w15 hS7 => ?_
  refine go ?_
  refine cd (fun hc16 => ?_) fun hc16 => ?_
  · replace h := bcT h hc16
    refine go ?_
    refine LW.u (Pur.min rfl rfl) rfl ?_
    refine go ?_
    cases h
    exact fi hS7
  replace h := bcF h hc16
  refine go ?_
  refine LW.u (Pur.quo rfl rfl (by decide)) rfl ?_
  refine go ?_
  cases h
  exact fi hS7

theorem W_s_AmtFits {w0 : World} {N : Nat} {x0 : DAmt} {x1 : DAmt} {r : Bool} (h : F_s_AmtFits N x0 x1 = some r) :
    Ret Tryz.prog 204 #[.agg #[.int .i64 x0.pages, .int .i64 x0.rent, .int .i64 x0.cpu], .agg #[.int .i64 x1.pages, .int .i64 x1.rent, .int .i64 x1.cpu]] w0 (fun v w => v = .bool r ∧ St w0 [] w []) := by
  unfold F_s_AmtFits at h
  refine Ret.fn Tryz.func204 fun e => ?_
  have hS1 := St.start w0
  refine go ?_
  refine LW.bo hS1 fun g1 w2 hS2 => ?_
  refine LW.bo hS2 fun g3 w4 hS3 => ?_
  refine go ?_
  replace ⟨y5, hy5, h⟩ := obind h
  refine LW.c0 (W_s_AmtOk hy5) hS3 fun w6 hS4 => ?_
  refine go ?_
  rcases bcases y5 with hc7 | hc7
  · replace h := bcT h hc7
    refine go ?_
    replace ⟨y8, hy8, h⟩ := obind h
    refine go ?_
    refine LW.c0 (W_s_AmtOk hy8) hS4 fun w9 hS5 => ?_
    refine go ?_
    rcases bcases y8 with hc10 | hc10
    · replace h := bcT h hc10
      refine go ?_
      rcases bcases (decide (x0.pages ≤ x1.pages)) with hc11 | hc11
      · replace h := bcT h hc11
        refine go ?_
        refine LW.fl [2, 3, 25] fun e => ?_
        rcases bcases (decide (x0.rent ≤ x1.rent)) with hc12 | hc12
        · replace h := bcT h hc12
          refine go ?_
          cases h
          exact fi hS5
        replace h := bcF h hc12
        refine go ?_
        cases h
        exact fi hS5
      replace h := bcF h hc11
      refine go ?_
      cases h
      exact fi hS5
    replace h := bcF h hc10
    refine go ?_
    cases h
    exact fi hS5
  replace h := bcF h hc7
  refine go ?_
  cases h
  exact fi hS4

theorem W_s_AmtAdd {w0 : World} {N : Nat} {x0 : DAmt} {x1 : DAmt} {r : DAmt × Bool} (h : F_s_AmtAdd N x0 x1 = some r) :
    Ret Tryz.prog 145 #[.agg #[.int .i64 x0.pages, .int .i64 x0.rent, .int .i64 x0.cpu], .agg #[.int .i64 x1.pages, .int .i64 x1.rent, .int .i64 x1.cpu]] w0 (fun v w => v = .tuple #[.agg #[.int .i64 r.1.pages, .int .i64 r.1.rent, .int .i64 r.1.cpu], .bool r.2] ∧ St w0 [] w []) := by
  unfold F_s_AmtAdd at h
  refine Ret.fn Tryz.func145 fun e => ?_
  have hS1 := St.start w0
  refine go ?_
  refine LW.bo hS1 fun g1 w2 hS2 => ?_
  refine LW.bo hS2 fun g3 w4 hS3 => ?_
  refine LW.al hS3 fun g5 w6 hS4 => ?_
  refine gs ?_
  obtain ⟨j7, hj7, h8⟩ := obind h
  refine CW.jn [2, 3, 4] [0, 1, 2] [(14, .bool j7)] hS4 (h1 := ?_) (h2 := ?_)
  · have h := hj7
    refine go ?_
    replace ⟨y9, hy9, h⟩ := obind h
    refine LW.c0 (W_s_AmtOk hy9) hS4 fun w10 hS5 => ?_
    refine go ?_
    rcases bcases (!y9) with hc11 | hc11
    · replace h := bcT h hc11
      refine go ?_
      cases oi h
      exact ⟨⟨rfl, rfl, rfl, rfl, trivial⟩, hS5.pick [0, 1, 2] rfl rfl⟩
    replace h := bcF h hc11
    refine go ?_
    replace ⟨y12, hy12, h⟩ := obind h
    refine go ?_
    refine LW.c0 (W_s_AmtOk hy12) hS5 fun w13 hS6 => ?_
    refine go ?_
    cases oi h
    exact ⟨⟨rfl, rfl, rfl, rfl, trivial⟩, hS6.pick [0, 1, 2] rfl rfl⟩
  intro e w14 hS7
  have h := h8
  refine go ?_
  refine cd (fun hc15 => ?_) fun hc15 => ?_
  · replace h := bcT h hc15
    refine go ?_
    refine LW.st hS7 0 fun w16 hS8 => ?_
    refine go ?_
    cases h
    exact And.intro trivial ⟨_, Res.two (resOne.b hS8 0 rfl ag56 rfl rfl) (resOne.t rfl), rfl, hS8.pick [] rfl rfl⟩
  replace h := bcF h hc15
  refine go ?_
  refine LW.u (Pur.build (vs := [(0, .int .i64 (IntKind.i64.wrap (x0.pages + x1.pages))), (1, .int .i64 (IntKind.i64.wrap (x0.rent + x1.rent))), (2, .int .i64 (IntKind.i64.wrap (x0.cpu + x1.cpu)))]) (cs := #[.int .i64 (IntKind.i64.wrap (x0.pages + x1.pages)), .int .i64 (IntKind.i64.wrap (x0.rent + x1.rent)), .int .i64 (IntKind.i64.wrap (x0.cpu + x1.cpu))]) rfl (by kernel_rfl)) rfl ?_
  refine LW.al hS7 fun g17 w18 hS9 => ?_
  refine LW.st hS9 0 fun w19 hS10 => ?_
  refine go ?_
  replace ⟨y20, hy20, h⟩ := obind h
  refine LW.c0 (W_s_AmtOk hy20) hS10 fun w21 hS11 => ?_
  refine go ?_
  refine CW.fl [2, 4, 6, 34] fun e => ?_
  refine cd (fun hc22 => ?_) fun hc22 => ?_
  · replace h := bcT h hc22
    refine go ?_
    refine LW.st hS11 1 fun w23 hS12 => ?_
    refine go ?_
    cases h
    exact And.intro trivial ⟨_, Res.two (resOne.b hS12 1 rfl ag56 rfl rfl) (resOne.t rfl), rfl, hS12.pick [] rfl rfl⟩
  replace h := bcF h hc22
  refine go ?_
  refine LW.st hS11 1 fun w24 hS13 => ?_
  refine go ?_
  cases h
  exact And.intro trivial ⟨_, Res.two (resOne.b hS13 1 rfl ag56 rfl rfl) (resOne.t rfl), rfl, hS13.pick [] rfl rfl⟩

theorem W_l_eqObjS {w0 : World} {N : Nat} {x0 : List DObj} {x1 : List DObj} {r : Bool} (h : F_l_eqObjS N x0 x1 = some r) {a0_0 : Option Addr} {n0_0 c0_0 : Nat} (hn0_0 : n0_0 = x0.length) (hr0_0 : rdS (Bor w0 []) w0 a0_0 c0_0 x0) {a1_0 : Option Addr} {n1_0 c1_0 : Nat} (hn1_0 : n1_0 = x1.length) (hr1_0 : rdS (Bor w0 []) w0 a1_0 c1_0 x1) :
    Ret Tryz.prog 212 #[.slice a0_0 n0_0 c0_0, .slice a1_0 n1_0 c1_0] w0 (fun v w => v = .bool r ∧ St w0 [] w []) := by
  subst hn0_0 hn1_0
  unfold F_l_eqObjS at h
  refine Ret.fn Tryz.func212 fun e => ?_
  have hS1 := St.start w0
  refine go ?_
  refine cd (fun hc1 => ?_) fun hc1 => ?_
  · replace h := bcT h hc1
    refine go ?_
    cases h
    exact fi hS1
  replace h := bcF h hc1
  refine go ?_
  obtain ⟨o44, ho44, h45⟩ := obind h
  refine CW.mono (CW.lx [0, 1] [] [] 0 (fun s2 => [(5, .int .i64 s2)]) (RT Tryz.prog Tryz.f212.results (fun u => .bool u) w0 []) hS1 ho44 (hb := ?_)) ?_
  · intro s2 e w3 o hS2 h
    refine go ?_
    refine cd (fun hc4 => ?_) fun hc4 => ?_
    · replace h := bcT h hc4
      refine go ?_
      refine CW.draw (by kernel_rfl) ?_
      have hS3 := hS2.drew
      refine go ?_
      replace ⟨y5, hy5, h⟩ := obind h
      obtain ⟨b8, o9, cs10, hae, hb13, hp6, hq7, hd11, hk12⟩ := hr0_0.idx hy5
      subst hae
      obtain ⟨a14, c15, a17, c18, a20, c21, rfl, hr16, hr19, hr22⟩ := hd11
      refine AW.u (i := 2) rfl (by kernel_rfl) rfl rfl (Pur.ix Tryz.underlying60 sz104 rfl rfl hp6 hq7) ?_
      refine AW.take (i := 3) rfl (by kernel_rfl) rfl rfl (Ldr.oldN w0 ag104 rfl rfl (fun j u hu => hk12 j u hu)) (hS3.same _ hb13.1 hb13.2) ?_
      refine go ?_
      replace ⟨y23, hy23, h⟩ := obind h
      obtain ⟨b26, o27, cs28, hae, hb31, hp24, hq25, hd29, hk30⟩ := hr1_0.idx hy23
      subst hae
      obtain ⟨a32, c33, a35, c36, a38, c39, rfl, hr34, hr37, hr40⟩ := hd29
      refine AW.u (i := 6) rfl (by kernel_rfl) rfl rfl (Pur.ix Tryz.underlying60 sz104 rfl rfl hp24 hq25) ?_
      refine AW.take (i := 7) rfl (by kernel_rfl) rfl rfl (Ldr.oldN w0 ag104 rfl rfl (fun j u hu => hk30 j u hu)) (hS3.same _ hb31.1 hb31.2) ?_
      replace ⟨y41, hy41, h⟩ := obind h
      have q := W_l_eqObj (w0 := w3.drew) hy41 rfl (hS3.rB hr16) rfl (hS3.rB hr19) rfl (hS3.rB hr22) rfl (hS3.rB hr34) rfl (hS3.rB hr37) rfl (hS3.rB hr40)
      refine AW.one (i := 8) (by kernel_rfl) ?_
      refine ⟨_, rfl, ?_⟩
      refine LW.call pl231 rfl rfl ?_
      refine Ret.mono q ?_
      rintro _ w42 ⟨rfl, hs⟩
      have hS4 := hS3.add hs
      refine LW.nil ⟨rfl, (.w (by kernel_rfl) (.w (by kernel_rfl) Kept.n)), ?_⟩
      refine go ?_
      refine cd (fun hc43 => ?_) fun hc43 => ?_
      · replace h := bcT h hc43
        refine go ?_
        cases oi h
        exact ⟨trivial, rfl, _, rfl, ⟨_, Res.one (resOne.t rfl), rfl, hS4.pick [] rfl rfl⟩⟩
      replace h := bcF h hc43
      refine go ?_
      cases oi h
      exact ⟨rfl, ⟨⟨rfl, rfl, rfl, trivial⟩, hS4.pick [] rfl rfl⟩⟩
    replace h := bcF h hc4
    refine go ?_
    cases oi h
    exact ⟨trivial, rfl, ⟨trivial, hS2.pick [] rfl rfl⟩⟩
  intro x e w46 hM
  rcases o44 with o44 | r47
  · obtain ⟨rfl, hM⟩ := hM
    obtain ⟨hE, hS5⟩ := hM
    obtain ⟨e, rfl⟩ := hE.out; rw [show e = upds e [] from rfl]
    have h := h45
    refine go ?_
    cases h
    exact fi hS5
  obtain ⟨rfl, u, rfl, hM⟩ := hM
  cases h45
  exact And.intro trivial hM

theorem W_l_markWorld {w0 : World} {F : List Nat} {N : Nat} {x0 : DWorld} {x1 : Int} {r : Int × (List DPart)} (h : F_l_markWorld N x0 x1 = some r) {a0_1 : Option Addr} {n0_1 c0_1 : Nat} (hn0_1 : n0_1 = x0.parts.length) (hS : St w0 F w0 [sl a0_1 c0_1 x0.parts]) :
    Ret Tryz.prog 19 #[.agg #[.int .i64 x0.now, .slice a0_1 n0_1 c0_1], .int .i64 x1] w0 (fun v w => v = .int .i64 r.1 ∧ St w0 F w [sl a0_1 c0_1 r.2]) := by
  subst hn0_1
  unfold F_l_markWorld at h
  refine Ret.fn Tryz.func19 fun e => ?_
  refine go ?_
  refine LW.bo hS fun g1 w2 hS1 => ?_
  refine go ?_
  replace ⟨y3, hy3, h⟩ := obind h
  obtain ⟨q6, hy3', hq7⟩ := obind hy3
  obtain ⟨hl8, hq7⟩ := keepL_some hq7
  rw [Option.some.inj hq7] at hy3' hl8
  obtain ⟨F4, hL5⟩ := hS1.lendI [1] [0]
  refine LW.cl (W_l_markPartS hy3' rfl hL5.st) ?_
  rintro _ w9 ⟨rfl, hs⟩
  have hS2 := hL5.back _ _ hs
  refine go ?_
  replace h := Option.some.inj h
  subst h
  rw [show x0.parts.length = y3.2.length from hl8] at hS2
  exact And.intro trivial ⟨_, Res.one (resOne.t rfl), rfl, hS2.pick [0] rfl rfl⟩

theorem W_l_heldWorld {w0 : World} {N : Nat} {x0 : DWorld} {x1 : Int} {r : Int} (h : F_l_heldWorld N x0 x1 = some r) {a0_1 : Option Addr} {n0_1 c0_1 : Nat} (hn0_1 : n0_1 = x0.parts.length) (hr0_1 : rdS (Bor w0 []) w0 a0_1 c0_1 x0.parts) :
    Ret Tryz.prog 20 #[.agg #[.int .i64 x0.now, .slice a0_1 n0_1 c0_1], .int .i64 x1] w0 (fun v w => v = .int .i64 r ∧ St w0 [] w []) := by
  subst hn0_1
  unfold F_l_heldWorld at h
  refine Ret.fn Tryz.func20 fun e => ?_
  have hS1 := St.start w0
  refine go ?_
  refine LW.bo hS1 fun g1 w2 hS2 => ?_
  refine go ?_
  replace ⟨y3, hy3, h⟩ := obind h
  refine LW.c0 (W_l_heldPartS hy3 rfl (hS2.rB hr0_1)) hS2 fun w4 hS3 => ?_
  refine go ?_
  refine cd (fun hc5 => ?_) fun hc5 => ?_
  · replace h := bcT h hc5
    refine go ?_
    cases h
    exact fi hS3
  replace h := bcF h hc5
  refine go ?_
  cases h
  exact fi hS3

theorem W_l_szPart {w0 : World} {N : Nat} {x0 : DPart} {x1 : Int} {r : Int} (h : F_l_szPart N x0 x1 = some r) {a0_0 : Option Addr} {n0_0 c0_0 : Nat} (hn0_0 : n0_0 = x0.label.levels.length) (hr0_0 : rdS (Bor w0 []) w0 a0_0 c0_0 x0.label.levels) {a0_1 : Option Addr} {n0_1 c0_1 : Nat} (hn0_1 : n0_1 = x0.own.length) (hr0_1 : rdS (Bor w0 []) w0 a0_1 c0_1 x0.own) {a0_2 : Option Addr} {n0_2 c0_2 : Nat} (hn0_2 : n0_2 = x0.tree.length) (hr0_2 : rdS (Bor w0 []) w0 a0_2 c0_2 x0.tree) {a0_3 : Option Addr} {n0_3 c0_3 : Nat} (hn0_3 : n0_3 = x0.heap.arena.length) (hr0_3 : rdS (Bor w0 []) w0 a0_3 c0_3 x0.heap.arena) {a0_7 : Option Addr} {n0_7 c0_7 : Nat} (hn0_7 : n0_7 = x0.heap.gc.grey.length) (hr0_7 : rdS (Bor w0 []) w0 a0_7 c0_7 x0.heap.gc.grey) {a0_8 : Option Addr} {n0_8 c0_8 : Nat} (hn0_8 : n0_8 = x0.taps.length) (hr0_8 : rdS (Bor w0 []) w0 a0_8 c0_8 x0.taps) :
    Ret Tryz.prog 68 #[.agg #[.slice a0_0 n0_0 c0_0, .slice a0_1 n0_1 c0_1, .slice a0_2 n0_2 c0_2, .slice a0_3 n0_3 c0_3, .int .i64 x0.heap.gc.phase, .int .i64 x0.heap.gc.pos, .int .i64 x0.heap.gc.round, .slice a0_7 n0_7 c0_7, .slice a0_8 n0_8 c0_8, .int .i64 x0.next, .int .i64 x0.want, .int .i64 x0.spent.pages, .int .i64 x0.spent.rent, .int .i64 x0.spent.cpu, .int .i64 x0.press, .int .i64 x0.lost], .int .i64 x1] w0 (fun v w => v = .int .i64 r ∧ St w0 [] w []) := by
  subst hn0_0 hn0_1 hn0_2 hn0_3 hn0_7 hn0_8
  unfold F_l_szPart at h
  refine Ret.fn Tryz.func68 fun e => ?_
  have hS1 := St.start w0
  refine go ?_
  refine LW.bo hS1 fun g1 w2 hS2 => ?_
  refine go ?_
  replace ⟨y3, hy3, h⟩ := obind h
  refine LW.c0 (W_l_szLabel hy3 rfl (hS2.rB hr0_0)) hS2 fun w4 hS3 => ?_
  refine go ?_
  refine cd (fun hc5 => ?_) fun hc5 => ?_
  · replace h := bcT h hc5
    refine go ?_
    cases h
    exact fi hS3
  replace h := bcF h hc5
  refine go ?_
  replace ⟨y6, hy6, h⟩ := obind h
  refine LW.c0 (W_l_szIntS hy6 rfl (hS3.rB hr0_1)) hS3 fun w7 hS4 => ?_
  refine go ?_
  refine CW.fl [1, 2, 16] fun e => ?_
  refine cd (fun hc8 => ?_) fun hc8 => ?_
  · replace h := bcT h hc8
    refine go ?_
    cases h
    exact fi hS4
  replace h := bcF h hc8
  refine go ?_
  replace ⟨y9, hy9, h⟩ := obind h
  refine LW.c0 (W_l_szResS hy9 rfl (hS4.rB hr0_2)) hS4 fun w10 hS5 => ?_
  refine go ?_
  refine cd (fun hc11 => ?_) fun hc11 => ?_
  · replace h := bcT h hc11
    refine go ?_
    cases h
    exact fi hS5
  replace h := bcF h hc11
  refine go ?_
  replace ⟨y12, hy12, h⟩ := obind h
  refine LW.c0 (W_l_szHeap hy12 rfl (hS5.rB hr0_3) rfl (hS5.rB hr0_7)) hS5 fun w13 hS6 => ?_
  refine go ?_
  refine CW.fl [1, 2, 28] fun e => ?_
  refine cd (fun hc14 => ?_) fun hc14 => ?_
  · replace h := bcT h hc14
    refine go ?_
    cases h
    exact fi hS6
  replace h := bcF h hc14
  refine go ?_
  replace ⟨y15, hy15, h⟩ := obind h
  refine LW.c0 (W_l_szTapS hy15 rfl (hS6.rB hr0_8)) hS6 fun w16 hS7 => ?_
  refine go ?_
  refine cd (fun hc17 => ?_) fun hc17 => ?_
  · replace h := bcT h hc17
    refine go ?_
    cases h
    exact fi hS7
  replace h := bcF h hc17
  refine go ?_
  cases h
  exact fi hS7

theorem W_l_toHeap {w0 : World} {N : Nat} {x0 : DHeap} {r : DHeap} (h : F_l_toHeap N x0 = some r) {a0_0 : Option Addr} {n0_0 c0_0 : Nat} (hn0_0 : n0_0 = x0.arena.length) (hr0_0 : rdS (Bor w0 []) w0 a0_0 c0_0 x0.arena) {a0_4 : Option Addr} {n0_4 c0_4 : Nat} (hn0_4 : n0_4 = x0.gc.grey.length) (hr0_4 : rdS (Bor w0 []) w0 a0_4 c0_4 x0.gc.grey) :
    Ret Tryz.prog 150 #[.agg #[.slice a0_0 n0_0 c0_0, .int .i64 x0.gc.phase, .int .i64 x0.gc.pos, .int .i64 x0.gc.round, .slice a0_4 n0_4 c0_4]] w0 (fun v w => ∃ ar0_0 cr0_0, ∃ ar0_4 cr0_4, v = .agg #[.slice ar0_0 r.arena.length cr0_0, .int .i64 r.gc.phase, .int .i64 r.gc.pos, .int .i64 r.gc.round, .slice ar0_4 r.gc.grey.length cr0_4] ∧ St w0 [] w [sl ar0_0 cr0_0 r.arena, sl ar0_4 cr0_4 r.gc.grey]) := by
  subst hn0_0 hn0_4
  unfold F_l_toHeap at h
  refine Ret.fn Tryz.func150 fun e => ?_
  have hS1 := St.start w0
  refine go ?_
  refine LW.bo hS1 fun g1 w2 hS2 => ?_
  refine LW.al hS2 fun g3 w4 hS3 => ?_
  refine go ?_
  refine LW.al hS3 fun g5 w6 hS4 => ?_
  refine go ?_
  replace ⟨y7, hy7, h⟩ := obind h
  refine LW.cl (W_l_toObjS hy7 rfl (hS4.rB hr0_0)) ?_
  rintro _ w10 ⟨a8, c9, rfl, hs⟩
  have hS5 := hS4.add hs
  refine go ?_
  refine LW.st hS5 1 fun w11 hS6 => ?_
  refine go ?_
  replace ⟨y12, hy12, h⟩ := obind h
  refine LW.cl (W_l_toGc hy12 rfl (hS6.rB hr0_4)) ?_
  rintro _ w15 ⟨a13, c14, rfl, hs⟩
  have hS7 := hS6.add hs
  refine go ?_
  refine LW.st hS7 2 fun w16 hS8 => ?_
  refine go ?_
  refine LW.st hS8 3 fun w17 hS9 => ?_
  refine go ?_
  cases h
  exact And.intro trivial ⟨_, Res.one (resOne.b hS9 3 rfl ag64 rfl rfl), a8, c9, a13, c14, rfl, hS9.pick [1, 0] rfl rfl⟩

end Go.Kx
