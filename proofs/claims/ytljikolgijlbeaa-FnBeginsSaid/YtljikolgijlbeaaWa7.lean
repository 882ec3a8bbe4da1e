/- Each call returns what the plain function says. Printed by drive.py. -/
import Derived.Test.YtljikolgijlbeaaFa
import Derived.Test.YtljikolgijlbeaaPu
import Derived.Test.YtljikolgijlbeaaWa0
import Derived.Test.YtljikolgijlbeaaWa2
import Derived.Test.YtljikolgijlbeaaWa3
import Derived.Test.YtljikolgijlbeaaWa4
import Derived.Test.YtljikolgijlbeaaWa6
namespace Go.Kx
open Go Go.RowKit Go.Proofs
set_option maxRecDepth 10000
set_option maxHeartbeats 8000000
set_option linter.unusedVariables false
set_option linter.unusedSimpArgs false
theorem W_i_Runnable {w0 : World} {N : Nat} {x0 : DPart} {x1 : Int} {r : (List Int)} (h : F_i_Runnable N x0 x1 = some r) {a0_0 : Option Addr} {n0_0 c0_0 : Nat} (hn0_0 : n0_0 = x0.label.levels.length) (hr0_0 : rdS (Bor w0 []) w0 a0_0 c0_0 x0.label.levels) {a0_1 : Option Addr} {n0_1 c0_1 : Nat} (hn0_1 : n0_1 = x0.own.length) (hr0_1 : rdS (Bor w0 []) w0 a0_1 c0_1 x0.own) {a0_2 : Option Addr} {n0_2 c0_2 : Nat} (hn0_2 : n0_2 = x0.tree.length) (hr0_2 : rdS (Bor w0 []) w0 a0_2 c0_2 x0.tree) {a0_3 : Option Addr} {n0_3 c0_3 : Nat} (hn0_3 : n0_3 = x0.heap.arena.length) (hr0_3 : rdS (Bor w0 []) w0 a0_3 c0_3 x0.heap.arena) {a0_7 : Option Addr} {n0_7 c0_7 : Nat} (hn0_7 : n0_7 = x0.heap.gc.grey.length) (hr0_7 : rdS (Bor w0 []) w0 a0_7 c0_7 x0.heap.gc.grey) {a0_8 : Option Addr} {n0_8 c0_8 : Nat} (hn0_8 : n0_8 = x0.taps.length) (hr0_8 : rdS (Bor w0 []) w0 a0_8 c0_8 x0.taps) :
    Ret Try.prog 20 #[.agg #[.slice a0_0 n0_0 c0_0, .slice a0_1 n0_1 c0_1, .slice a0_2 n0_2 c0_2, .slice a0_3 n0_3 c0_3, .int .i64 x0.heap.gc.phase, .int .i64 x0.heap.gc.pos, .int .i64 x0.heap.gc.round, .slice a0_7 n0_7 c0_7, .slice a0_8 n0_8 c0_8, .int .i64 x0.next, .int .i64 x0.want, .int .i64 x0.spent.pages, .int .i64 x0.spent.rent, .int .i64 x0.spent.cpu, .int .i64 x0.press, .int .i64 x0.lost], .int .i64 x1] w0 (fun v w => ∃ ar0 cr0, v = .slice ar0 r.length cr0 ∧ St w0 [] w [sl ar0 cr0 r]) := by
  subst hn0_0 hn0_1 hn0_2 hn0_3 hn0_7 hn0_8
  unfold F_i_Runnable at h
  refine Ret.fn Try.func20 fun e => ?_
  have hS1 := St.start w0
  refine go ?_
  refine LW.bo hS1 fun g1 w2 hS2 => ?_
  refine go ?_
  refine LW.bsl (α := Int) (vs := []) (cs := #[]) (l := ([] : List Int)) rfl (by kernel_rfl) rfl rfl rfl (fun w => rfl) hS2 rfl ?_
  intro a3 c4 w5 hS3 hf
  refine go ?_
  replace ⟨y6, hy6, h⟩ := obind h
  refine LW.cl (W_i_Threads hy6 rfl (hS3.rB hr0_0) rfl (hS3.rB hr0_1) rfl (hS3.rB hr0_2) rfl (hS3.rB hr0_3) rfl (hS3.rB hr0_7) rfl (hS3.rB hr0_8)) ?_
  rintro _ w9 ⟨a7, c8, rfl, hs⟩
  have hS4 := hS3.add hs
  refine go ?_
  obtain ⟨o56, ho56, h57⟩ := obind h
  refine CW.mono (CW.iter (σ := (List Int) × Int) (ρ := (List Int) × Int) (fun s10 e wb => ∃ (s10a0 : Option Addr), ∃ (s10c0 : Nat), En e [(2, .pointer (some ⟨g1, 0, none⟩)), (5, .slice s10a0 s10.1.length s10c0), (11, .slice a7 y6.length c8), (12, .int .i64 (y6.length : Int)), (13, .int .i64 s10.2)] ∧ St w0 [] wb [sl a7 c8 y6, sl s10a0 s10c0 s10.1, bx g1 40 [.slice a0_0 x0.label.levels.length c0_0, .slice a0_1 x0.own.length c0_1, .slice a0_2 x0.tree.length c0_2, .slice a0_3 x0.heap.arena.length c0_3, .int .i64 x0.heap.gc.phase, .int .i64 x0.heap.gc.pos, .int .i64 x0.heap.gc.round, .slice a0_7 x0.heap.gc.grey.length c0_7, .slice a0_8 x0.taps.length c0_8, .int .i64 x0.next, .int .i64 x0.want, .int .i64 x0.spent.pages, .int .i64 x0.spent.rent, .int .i64 x0.spent.cpu, .int .i64 x0.press, .int .i64 x0.lost]]) (fun s10 x e wb => x = .exit 0 ∧ ∃ (s10a0 : Option Addr), ∃ (s10c0 : Nat), En e [(5, .slice s10a0 s10.1.length s10c0)] ∧ St w0 [] wb [sl a7 c8 y6, sl s10a0 s10c0 s10.1, bx g1 40 [.slice a0_0 x0.label.levels.length c0_0, .slice a0_1 x0.own.length c0_1, .slice a0_2 x0.tree.length c0_2, .slice a0_3 x0.heap.arena.length c0_3, .int .i64 x0.heap.gc.phase, .int .i64 x0.heap.gc.pos, .int .i64 x0.heap.gc.round, .slice a0_7 x0.heap.gc.grey.length c0_7, .slice a0_8 x0.taps.length c0_8, .int .i64 x0.next, .int .i64 x0.want, .int .i64 x0.spent.pages, .int .i64 x0.spent.rent, .int .i64 x0.spent.cpu, .int .i64 x0.press, .int .i64 x0.lost]]) ?_ N (([] : List Int), 0) _ _ _ ⟨a3, c4, ⟨rfl, rfl, rfl, rfl, rfl, trivial⟩, hS4.pick [0, 1, 2] rfl rfl⟩ ho56) ?_
  · intro s10 e w11 o hM h
    obtain ⟨s10a0, s10c0, hE, hS5⟩ := hM
    obtain ⟨e, rfl⟩ := hE.out
    refine go ?_
    refine cd (fun hc12 => ?_) fun hc12 => ?_
    · replace h := bcT h hc12
      refine go ?_
      replace ⟨y13, hy13, h⟩ := obind h
      obtain ⟨b16, o17, hae, hp14, hq15⟩ := hS5.ownIdx (α := Int) (i := 0) rfl hy13
      subst hae
      refine LW.u (Pur.ix Try.underlying24 sz3 rfl rfl hp14 hq15) rfl ?_
      obtain ⟨F18, ho19, hS6⟩ := hS5.freeze (α := Int) 0 rfl
      obtain ⟨b20, o21, cs22, hae, hb25, _, _, hd23, hk24⟩ := ho19.rdF.idx hy13
      cases hae
      obtain rfl := hd23
      refine LW.l (Ldr.old w11 ag3 rfl (hk24 0 _ rfl)) (hS6.zC 0 rfl hb25) rfl ?_
      refine gs ?_
      obtain ⟨j26, hj26, h27⟩ := obind h
      refine CW.jn [2, 5, 7, 11, 12, 13] [0, 1, 2] [(31, .bool j26)] hS6 (h1 := ?_) (h2 := ?_)
      · have h := hj26
        refine go ?_
        replace ⟨y28, hy28, h⟩ := obind h
        obtain ⟨b31, o32, cs33, hae, hb36, hp29, hq30, hd34, hk35⟩ := hr0_3.idx hy28
        subst hae
        obtain ⟨a37, c38, a40, c41, a43, c44, rfl, hr39, hr42, hr45⟩ := hd34
        refine LW.u (Pur.ix Try.underlying33 sz84 rfl rfl hp29 hq30) rfl ?_
        refine go ?_
        refine LW.l (Ldr.old w0 ag3 rfl (hk35 6 _ rfl)) (hS6.same _ hb36.1 hb36.2) rfl ?_
        refine go ?_
        refine LW.fl [2, 5, 7, 11, 12, 13, 25] fun e => ?_
        rcases bcases (y28.wait == 0) with hc46 | hc46
        · replace h := bcT h hc46
          refine go ?_
          replace ⟨y47, hy47, h⟩ := obind h
          refine go ?_
          refine LW.c0 (W_i_balOf hy47 rfl (hS6.rB hr0_0) rfl (hS6.rB hr0_1) rfl (hS6.rB hr0_2) rfl (hS6.rB hr0_3) rfl (hS6.rB hr0_7) rfl (hS6.rB hr0_8)) hS6 fun w48 hS7 => ?_
          refine go ?_
          refine LW.u (Pur.fd fo28_2 rfl rfl) rfl ?_
          refine go ?_
          cases oi h
          exact ⟨⟨rfl, rfl, rfl, rfl, rfl, rfl, rfl, trivial⟩, hS7.pick [0, 1, 2] rfl rfl⟩
        replace h := bcF h hc46
        refine go ?_
        cases oi h
        exact ⟨⟨rfl, rfl, rfl, rfl, rfl, rfl, rfl, trivial⟩, hS6.pick [0, 1, 2] rfl rfl⟩
      intro e w49 hS8
      have h := h27
      refine go ?_
      refine CW.fl [2, 5, 7, 11, 12, 13, 31] fun e => ?_
      refine cd (fun hc50 => ?_) fun hc50 => ?_
      · replace h := bcT h hc50
        refine go ?_
        replace ⟨y51, hy51, h⟩ := obind h
        refine LW.app1 (M := []) (L := [fz w11 F18, sl s10a0 s10c0 s10.1, bx g1 40 [.slice a0_0 x0.label.levels.length c0_0, .slice a0_1 x0.own.length c0_1, .slice a0_2 x0.tree.length c0_2, .slice a0_3 x0.heap.arena.length c0_3, .int .i64 x0.heap.gc.phase, .int .i64 x0.heap.gc.pos, .int .i64 x0.heap.gc.round, .slice a0_7 x0.heap.gc.grey.length c0_7, .slice a0_8 x0.taps.length c0_8, .int .i64 x0.next, .int .i64 x0.want, .int .i64 x0.spent.pages, .int .i64 x0.spent.rent, .int .i64 x0.spent.cpu, .int .i64 x0.press, .int .i64 x0.lost]]) (vs := #[.int .i64 y13]) (i := 1) sT24 rfl (by kernel_rfl) rfl rfl hy51 hS8 rfl (fun w G hG => by cases (show G = [] from hG); exact ⟨rfl, rfl⟩) rfl rfl ?_
        intro v54 a52 c53 w55 hS9 hf
        refine go ?_
        have hS10 := hS9.thaw (α := Int) 0 rfl ho19
        cases oi h
        exact ⟨rfl, ⟨a52, c53, ⟨rfl, rfl, rfl, rfl, rfl, trivial⟩, hS10.pick [0, 1, 2] rfl rfl⟩⟩
      replace h := bcF h hc50
      refine go ?_
      have hS11 := hS8.thaw (α := Int) 0 rfl ho19
      cases oi h
      exact ⟨rfl, ⟨s10a0, s10c0, ⟨rfl, rfl, rfl, rfl, rfl, trivial⟩, hS11.pick [0, 1, 2] rfl rfl⟩⟩
    replace h := bcF h hc12
    refine go ?_
    cases oi h
    exact ⟨trivial, rfl, ⟨s10a0, s10c0, ⟨rfl, trivial⟩, hS5.pick [0, 1, 2] rfl rfl⟩⟩
  intro x e w58 hM
  obtain ⟨rfl, hM⟩ := hM
  obtain ⟨s10a0, s10c0, hE, hS12⟩ := hM
  obtain ⟨e, rfl⟩ := hE.out
  have h := h57
  refine go ?_
  cases h
  exact And.intro trivial ⟨_, Res.one (resOne.t rfl), s10a0, s10c0, rfl, hS12.pick [1] rfl rfl⟩

theorem W_l_FnBegins {w0 : World} {N : Nat} {x0 : List U8} {r : Bool} (h : F_l_FnBegins N x0 = some r) {a0_0 : Option Addr} {n0_0 c0_0 : Nat} (hn0_0 : n0_0 = x0.length) (hr0_0 : rdS (Bor w0 []) w0 a0_0 c0_0 x0) :
    Ret Try.prog 3 #[.slice a0_0 n0_0 c0_0] w0 (fun v w => v = .bool r ∧ St w0 [] w []) := by
  subst hn0_0
  unfold F_l_FnBegins at h
  refine Ret.fn Try.func3 fun e => ?_
  have hS1 := St.start w0
  refine go ?_
  replace ⟨y1, hy1, h⟩ := obind h
  refine LW.c0 (W_l_big hy1 rfl (hS1.rB hr0_0)) hS1 fun w2 hS2 => ?_
  refine go ?_
  refine cd (fun hc3 => ?_) fun hc3 => ?_
  · replace h := bcT h hc3
    refine go ?_
    cases h
    exact fi hS2
  replace h := bcF h hc3
  refine go ?_
  replace ⟨y4, hy4, h⟩ := obind h
  refine LW.cl (W_s_DrawPartNew hy4 rfl (hS2.rB hr0_0)) ?_
  rintro _ w9 ⟨a5, c6, a7, c8, rfl, hs⟩
  have hS3 := hS2.add hs
  refine LW.al hS3 fun g10 w11 hS4 => ?_
  refine LW.st hS4 0 fun w12 hS5 => ?_
  refine go ?_
  replace ⟨y13, hy13, h⟩ := obind h
  refine LW.cl (W_i_PartNew hy13 rfl (hS5.rI 1 rfl) rfl (hS5.rI 2 rfl)) ?_
  rintro _ w26 ⟨a14, c15, a16, c17, a18, c19, a20, c21, a22, c23, a24, c25, rfl, hs⟩
  have hS6 := hS5.add hs
  refine go ?_
  refine LW.al hS6 fun g27 w28 hS7 => ?_
  refine LW.st hS7 0 fun w29 hS8 => ?_
  refine gs ?_
  obtain ⟨j30, hj30, h31⟩ := obind h
  refine CW.jn [3, 4, 5] [0, 1, 2, 3, 4, 5, 6, 7, 8, 9] [(29, .bool j30)] hS8 (h1 := ?_) (h2 := ?_)
  · have h := hj30
    refine go ?_
    replace ⟨y32, hy32, h⟩ := obind h
    refine LW.c0 (W_s_LabelOk hy32 rfl (hS8.rI 8 rfl)) hS8 fun w33 hS9 => ?_
    refine go ?_
    rcases bcases y32 with hc34 | hc34
    · replace h := bcT h hc34
      refine go ?_
      replace ⟨y35, hy35, h⟩ := obind h
      refine go ?_
      refine LW.c0 (W_s_OwnOk hy35 rfl (hS9.rI 9 rfl)) hS9 fun w36 hS10 => ?_
      refine go ?_
      refine LW.fl [3, 4, 5, 15, 24] fun e => ?_
      rcases bcases y35 with hc37 | hc37
      · replace h := bcT h hc37
        refine go ?_
        replace ⟨y38, hy38, h⟩ := obind h
        refine go ?_
        refine LW.c0 (W_s_AmtOk hy38) hS10 fun w39 hS11 => ?_
        refine go ?_
        refine LW.u (Pur.bne Try.underlying4 rfl rfl) rfl ?_
        refine go ?_
        cases oi h
        exact ⟨⟨rfl, rfl, rfl, rfl, trivial⟩, hS11.pick [0, 1, 2, 3, 4, 5, 6, 7, 8, 9] rfl rfl⟩
      replace h := bcF h hc37
      refine go ?_
      refine LW.u (Pur.bne Try.underlying4 rfl rfl) rfl ?_
      refine go ?_
      cases oi h
      exact ⟨⟨rfl, rfl, rfl, rfl, trivial⟩, hS10.pick [0, 1, 2, 3, 4, 5, 6, 7, 8, 9] rfl rfl⟩
    replace h := bcF h hc34
    refine go ?_
    refine LW.fl [3, 4, 5, 15, 28] fun e => ?_
    refine LW.u (Pur.bne Try.underlying4 rfl rfl) rfl ?_
    refine go ?_
    cases oi h
    exact ⟨⟨rfl, rfl, rfl, rfl, trivial⟩, hS9.pick [0, 1, 2, 3, 4, 5, 6, 7, 8, 9] rfl rfl⟩
  intro e w40 hS12
  have h := h31
  refine go ?_
  refine CW.fl [3, 4, 5, 29] fun e => ?_
  refine cd (fun hc41 => ?_) fun hc41 => ?_
  · replace h := bcT h hc41
    refine go ?_
    cases h
    exact fi hS12
  replace h := bcF h hc41
  refine go ?_
  refine cd (fun hc42 => ?_) fun hc42 => ?_
  · replace h := bcT h hc42
    refine go ?_
    cases h
    exact fi hS12
  replace h := bcF h hc42
  refine go ?_
  refine CW.draw (by kernel_rfl) ?_
  have hS13 := hS12.drew
  refine go ?_
  replace ⟨y43, hy43, h⟩ := obind h
  have q := W_s_PartOk (w0 := w40.drew) hy43 rfl (hS13.rI 1 rfl) rfl (hS13.rI 2 rfl) rfl (hS13.rI 3 rfl) rfl (hS13.rI 4 rfl) rfl (hS13.rI 5 rfl) rfl (hS13.rI 6 rfl)
  refine AW.one (i := 1) (by kernel_rfl) ?_
  refine ⟨_, rfl, ?_⟩
  refine LW.call pl11 rfl rfl ?_
  refine Ret.mono q ?_
  rintro _ w44 ⟨rfl, hs⟩
  have hS14 := hS13.add hs
  refine LW.nil ⟨rfl, (.w (by kernel_rfl) Kept.n), ?_⟩
  refine go ?_
  rcases bcases y43 with hc45 | hc45
  · replace h := bcT h hc45
    refine go ?_
    replace ⟨y46, hy46, h⟩ := obind h
    have q := W_i_PartOk (w0 := w44) hy46 rfl (hS14.rI 1 rfl) rfl (hS14.rI 2 rfl) rfl (hS14.rI 3 rfl) rfl (hS14.rI 4 rfl) rfl (hS14.rI 5 rfl) rfl (hS14.rI 6 rfl)
    refine AW.one (i := 4) (by kernel_rfl) ?_
    refine ⟨_, rfl, ?_⟩
    refine (LW.gY (want_of rfl rfl hc45) ?_)
    refine LW.call pl12 rfl rfl ?_
    refine Ret.mono q ?_
    rintro _ w47 ⟨rfl, hs⟩
    have hS15 := hS14.add hs
    refine LW.nil ⟨rfl, (.w (by kernel_rfl) (.c (St.cell (h := hS15) (i := 0) rfl) Kept.n)), ?_⟩
    refine go ?_
    rcases bcases y46 with hc48 | hc48
    · replace h := bcT h hc48
      refine go ?_
      replace ⟨y49, hy49, h⟩ := obind h
      have q := W_s_GcSafe (w0 := w47) hy49 rfl (hS15.rI 4 rfl) rfl (hS15.rI 5 rfl)
      refine AW.one (i := 9) (by kernel_rfl) ?_
      refine ⟨_, rfl, ?_⟩
      refine (LW.gY (want_of rfl rfl hc48) ?_)
      refine LW.call pl13 rfl rfl ?_
      refine Ret.mono q ?_
      rintro _ w50 ⟨rfl, hs⟩
      have hS16 := hS15.add hs
      refine LW.nil ⟨rfl, (.w (by kernel_rfl) (.c (St.cell (h := hS16) (i := 0) rfl) (.c (St.cell (h := hS16) (i := 0) rfl) Kept.n))), ?_⟩
      refine go ?_
      rcases bcases y49 with hc51 | hc51
      · replace h := bcT h hc51
        refine go ?_
        replace ⟨y52, hy52, h⟩ := obind h
        refine AW.all (rs := [13, 14]) (by kernel_rfl) (by simp) ⟨?_, ?_, trivial⟩
        · have q := W_i_Threads (w0 := w50) hy52 rfl (hS16.rI 1 rfl) rfl (hS16.rI 2 rfl) rfl (hS16.rI 3 rfl) rfl (hS16.rI 4 rfl) rfl (hS16.rI 5 rfl) rfl (hS16.rI 6 rfl)
          refine ⟨_, rfl, ?_⟩
          refine (LW.gY (want_of rfl rfl hc51) ?_)
          refine LW.call pl15 rfl rfl ?_
          refine Ret.mono q ?_
          rintro _ w64 ⟨a62, c63, rfl, hs⟩
          have hS17 := hS16.add hs
          refine LW.nil ⟨rfl, (.w (by kernel_rfl) (.c (St.cell (h := hS17) (i := 1) rfl) (.c (St.cell (h := hS17) (i := 1) rfl) (.c (St.cell (h := hS17) (i := 1) rfl) Kept.n)))), ?_⟩
          refine AW.one (i := 14) (by kernel_rfl) ?_
          refine ⟨_, rfl, ?_⟩
          refine (LW.gY (want_of rfl rfl hc51) ?_)
          refine LW.bsl (α := Int) (vs := [(0, .int .i64 1)]) (cs := #[.int .i64 1]) (l := ([1] : List Int)) rfl (by kernel_rfl) rfl rfl rfl (fun w => ⟨[.int .i64 1], [], [], [], rfl, rfl, ⟨rfl, rfl⟩, rfl⟩) hS17 rfl ?_
          intro a65 c66 w67 hS18 hf
          refine LW.nil ⟨rfl, (.c (St.cell (h := hS18) (i := 2) rfl) (.c (St.cell (h := hS18) (i := 2) rfl) (.c (St.cell (h := hS18) (i := 2) rfl) (.c (St.cell (h := hS18) (i := 2) rfl) Kept.n)))), ?_⟩
          replace ⟨y68, hy68, h⟩ := obind h
          have q := W_l_sameInts (w0 := w67) hy68 rfl (hS18.rI 1 rfl) rfl (hS18.rI 0 rfl)
          refine AW.one (i := 15) (by kernel_rfl) ?_
          refine ⟨_, rfl, ?_⟩
          refine (LW.gY (want_of rfl rfl hc51) ?_)
          refine LW.call pl14 rfl rfl ?_
          refine Ret.mono q ?_
          rintro _ w69 ⟨rfl, hs⟩
          have hS19 := hS18.add hs
          refine LW.nil ⟨rfl, (.c (St.cell (h := hS19) (i := 2) rfl) (.c (St.cell (h := hS19) (i := 2) rfl) (.c (St.cell (h := hS19) (i := 2) rfl) (.c (St.cell (h := hS19) (i := 2) rfl) Kept.n)))), ?_⟩
          refine go ?_
          rcases bcases y68 with hc70 | hc70
          · replace h := bcT h hc70
            refine go ?_
            replace ⟨y71, hy71, h⟩ := obind h
            have q := W_i_CanCall (w0 := w69) hy71 rfl (hS19.rI 3 rfl) rfl (hS19.rI 4 rfl) rfl (hS19.rI 5 rfl) rfl (hS19.rI 6 rfl) rfl (hS19.rI 7 rfl) rfl (hS19.rI 8 rfl)
            refine AW.one (i := 19) (by kernel_rfl) ?_
            refine ⟨_, rfl, ?_⟩
            refine (LW.gY (want_of rfl rfl hc70) ?_)
            refine LW.call pl16 rfl rfl ?_
            refine Ret.mono q ?_
            rintro _ w72 ⟨rfl, hs⟩
            have hS20 := hS19.add hs
            refine LW.nil ⟨rfl, (.w (by kernel_rfl) (.c (St.cell (h := hS20) (i := 2) rfl) (.c (St.cell (h := hS20) (i := 2) rfl) (.c (St.cell (h := hS20) (i := 2) rfl) (.c (St.cell (h := hS20) (i := 2) rfl) Kept.n))))), ?_⟩
            refine go ?_
            rcases bcases y71 with hc73 | hc73
            · replace h := bcT h hc73
              refine go ?_
              replace ⟨y74, hy74, h⟩ := obind h
              have q := W_i_CanCall (w0 := w72) hy74 rfl (hS20.rI 3 rfl) rfl (hS20.rI 4 rfl) rfl (hS20.rI 5 rfl) rfl (hS20.rI 6 rfl) rfl (hS20.rI 7 rfl) rfl (hS20.rI 8 rfl)
              refine AW.one (i := 23) (by kernel_rfl) ?_
              refine ⟨_, rfl, ?_⟩
              refine (LW.gY (want_of rfl rfl hc73) ?_)
              refine LW.call pl16 rfl rfl ?_
              refine Ret.mono q ?_
              rintro _ w75 ⟨rfl, hs⟩
              have hS21 := hS20.add hs
              refine LW.nil ⟨rfl, (.w (by kernel_rfl) (.c (St.cell (h := hS21) (i := 2) rfl) (.c (St.cell (h := hS21) (i := 2) rfl) (.c (St.cell (h := hS21) (i := 2) rfl) (.c (St.cell (h := hS21) (i := 2) rfl) (.c (St.cell (h := hS21) (i := 2) rfl) Kept.n)))))), ?_⟩
              refine go ?_
              rcases bcases (!y74) with hc76 | hc76
              · replace h := bcT h hc76
                refine go ?_
                replace ⟨y77, hy77, h⟩ := obind h
                have q := W_i_PartSum (w0 := w75) hy77 rfl (hS21.rI 3 rfl) rfl (hS21.rI 4 rfl) rfl (hS21.rI 5 rfl) rfl (hS21.rI 6 rfl) rfl (hS21.rI 7 rfl) rfl (hS21.rI 8 rfl)
                refine AW.one (i := 28) (by kernel_rfl) ?_
                refine ⟨_, rfl, ?_⟩
                refine (LW.gY (want_of rfl rfl hc76) ?_)
                refine LW.call pl17 rfl rfl ?_
                refine Ret.mono q ?_
                rintro _ w78 ⟨rfl, hs⟩
                have hS22 := hS21.add hs
                refine LW.nil ⟨rfl, (.c (St.cell (h := hS22) (i := 9) rfl) (.w (by kernel_rfl) (.c (St.cell (h := hS22) (i := 2) rfl) (.c (St.cell (h := hS22) (i := 2) rfl) (.c (St.cell (h := hS22) (i := 2) rfl) (.c (St.cell (h := hS22) (i := 2) rfl) (.c (St.cell (h := hS22) (i := 2) rfl) (.c (St.cell (h := hS22) (i := 2) rfl) Kept.n)))))))), ?_⟩
                refine AW.u (i := 31) rfl (by kernel_rfl) (want_of rfl rfl hc76) rfl (Pur.aeq eg28 rfl rfl (fun w => eq28 y77 y4.amt w)) ?_
                refine go ?_
                rcases bcases (decide (y77 = y4.amt)) with hc79 | hc79
                · replace h := bcT h hc79
                  refine go ?_
                  replace ⟨y80, hy80, h⟩ := obind h
                  have q := W_i_Held (w0 := w78) hy80 rfl (hS22.rI 3 rfl) rfl (hS22.rI 4 rfl) rfl (hS22.rI 5 rfl) rfl (hS22.rI 6 rfl) rfl (hS22.rI 7 rfl) rfl (hS22.rI 8 rfl)
                  refine AW.one (i := 35) (by kernel_rfl) ?_
                  refine ⟨_, rfl, ?_⟩
                  refine (LW.gY (want_of rfl rfl hc79) ?_)
                  refine LW.call pl18 rfl rfl ?_
                  refine Ret.mono q ?_
                  rintro _ w81 ⟨rfl, hs⟩
                  have hS23 := hS22.add hs
                  refine LW.nil ⟨rfl, (.w (by kernel_rfl) (.c (St.cell (h := hS23) (i := 9) rfl) (.c (St.cell (h := hS23) (i := 2) rfl) (.c (St.cell (h := hS23) (i := 2) rfl) (.c (St.cell (h := hS23) (i := 2) rfl) (.c (St.cell (h := hS23) (i := 2) rfl) (.c (St.cell (h := hS23) (i := 2) rfl) (.c (St.cell (h := hS23) (i := 2) rfl) (.c (St.cell (h := hS23) (i := 2) rfl) Kept.n))))))))), ?_⟩
                  refine go ?_
                  rcases bcases (y80 == 0) with hc82 | hc82
                  · replace h := bcT h hc82
                    refine go ?_
                    replace ⟨y83, hy83, h⟩ := obind h
                    have q := W_i_Garbage (w0 := w81) hy83 rfl (hS23.rI 6 rfl)
                    refine AW.one (i := 42) (by kernel_rfl) ?_
                    refine ⟨_, rfl, ?_⟩
                    refine (LW.gY (want_of rfl rfl hc82) ?_)
                    refine LW.call pl19 rfl rfl ?_
                    refine Ret.mono q ?_
                    rintro _ w86 ⟨a84, c85, rfl, hs⟩
                    have hS24 := hS23.add hs
                    refine LW.nil ⟨rfl, (.w (by kernel_rfl) (.c (St.cell (h := hS24) (i := 3) rfl) (.c (St.cell (h := hS24) (i := 10) rfl) (.c (St.cell (h := hS24) (i := 3) rfl) (.c (St.cell (h := hS24) (i := 3) rfl) (.c (St.cell (h := hS24) (i := 3) rfl) (.c (St.cell (h := hS24) (i := 3) rfl) (.c (St.cell (h := hS24) (i := 3) rfl) (.c (St.cell (h := hS24) (i := 3) rfl) (.c (St.cell (h := hS24) (i := 3) rfl) Kept.n)))))))))), ?_⟩
                    refine go ?_
                    rcases bcases ((y83.length : Int) == 0) with hc87 | hc87
                    · replace h := bcT h hc87
                      refine go ?_
                      refine AW.u (i := 51) rfl (by kernel_rfl) (want_of rfl rfl hc87) rfl (Pur.fa fo30_2 rfl) ?_
                      refine go ?_
                      replace ⟨y88, hy88, h⟩ := obind h
                      have q := W_i_Runnable (w0 := w86) hy88 rfl (hS24.rI 4 rfl) rfl (hS24.rI 5 rfl) rfl (hS24.rI 6 rfl) rfl (hS24.rI 7 rfl) rfl (hS24.rI 8 rfl) rfl (hS24.rI 9 rfl)
                      refine AW.one (i := 48) (by kernel_rfl) ?_
                      refine ⟨_, rfl, ?_⟩
                      refine (LW.gY (want_of rfl rfl hc87) ?_)
                      refine LW.call pl20 rfl rfl ?_
                      refine Ret.mono q ?_
                      rintro _ w91 ⟨a89, c90, rfl, hs⟩
                      have hS25 := hS24.add hs
                      refine LW.nil ⟨rfl, (.c (St.cell (h := hS25) (i := 11) rfl) (.w (by kernel_rfl) (.c (St.cell (h := hS25) (i := 4) rfl) (.c (St.cell (h := hS25) (i := 4) rfl) (.c (St.cell (h := hS25) (i := 11) rfl) (.c (St.cell (h := hS25) (i := 4) rfl) (.c (St.cell (h := hS25) (i := 4) rfl) (.c (St.cell (h := hS25) (i := 4) rfl) (.c (St.cell (h := hS25) (i := 4) rfl) (.c (St.cell (h := hS25) (i := 4) rfl) (.c (St.cell (h := hS25) (i := 4) rfl) (.c (St.cell (h := hS25) (i := 4) rfl) Kept.n)))))))))))), ?_⟩
                      refine go ?_
                      refine AW.u (i := 55) rfl (by kernel_rfl) (want_of rfl rfl hc87) rfl (Pur.beq Try.underlying4 rfl rfl) ?_
                      refine go ?_
                      cases h
                      exact fi hS25
                    replace h := bcF h hc87
                    refine go ?_
                    cases h
                    exact fi hS24
                  replace h := bcF h hc82
                  refine go ?_
                  cases h
                  exact fi hS23
                replace h := bcF h hc79
                refine go ?_
                cases h
                exact fi hS22
              replace h := bcF h hc76
              refine go ?_
              cases h
              exact fi hS21
            replace h := bcF h hc73
            refine go ?_
            cases h
            exact fi hS20
          replace h := bcF h hc70
          refine go ?_
          cases h
          exact fi hS19
        refine ⟨_, rfl, ?_⟩
        refine (LW.gY (want_of rfl rfl hc51) ?_)
        refine LW.bsl (α := Int) (vs := [(0, .int .i64 1)]) (cs := #[.int .i64 1]) (l := ([1] : List Int)) rfl (by kernel_rfl) rfl rfl rfl (fun w => ⟨[.int .i64 1], [], [], [], rfl, rfl, ⟨rfl, rfl⟩, rfl⟩) hS16 rfl ?_
        intro a92 c93 w94 hS26 hf
        refine LW.nil ⟨rfl, (.c (St.cell (h := hS26) (i := 1) rfl) (.c (St.cell (h := hS26) (i := 1) rfl) (.c (St.cell (h := hS26) (i := 1) rfl) (.c (St.cell (h := hS26) (i := 1) rfl) Kept.n)))), ?_⟩
        have q := W_i_Threads (w0 := w94) hy52 rfl (hS26.rI 2 rfl) rfl (hS26.rI 3 rfl) rfl (hS26.rI 4 rfl) rfl (hS26.rI 5 rfl) rfl (hS26.rI 6 rfl) rfl (hS26.rI 7 rfl)
        refine AW.one (i := 13) (by kernel_rfl) ?_
        refine ⟨_, rfl, ?_⟩
        refine (LW.gY (want_of rfl rfl hc51) ?_)
        refine LW.call pl15 rfl rfl ?_
        refine Ret.mono q ?_
        rintro _ w97 ⟨a95, c96, rfl, hs⟩
        have hS27 := hS26.add hs
        refine LW.nil ⟨rfl, (.w (by kernel_rfl) (.c (St.cell (h := hS27) (i := 2) rfl) (.c (St.cell (h := hS27) (i := 2) rfl) (.c (St.cell (h := hS27) (i := 2) rfl) Kept.n)))), ?_⟩
        replace ⟨y98, hy98, h⟩ := obind h
        have q := W_l_sameInts (w0 := w97) hy98 rfl (hS27.rI 0 rfl) rfl (hS27.rI 1 rfl)
        refine AW.one (i := 15) (by kernel_rfl) ?_
        refine ⟨_, rfl, ?_⟩
        refine (LW.gY (want_of rfl rfl hc51) ?_)
        refine LW.call pl14 rfl rfl ?_
        refine Ret.mono q ?_
        rintro _ w99 ⟨rfl, hs⟩
        have hS28 := hS27.add hs
        refine LW.nil ⟨rfl, (.c (St.cell (h := hS28) (i := 2) rfl) (.c (St.cell (h := hS28) (i := 2) rfl) (.c (St.cell (h := hS28) (i := 2) rfl) (.c (St.cell (h := hS28) (i := 2) rfl) Kept.n)))), ?_⟩
        refine go ?_
        rcases bcases y98 with hc100 | hc100
        · replace h := bcT h hc100
          refine go ?_
          replace ⟨y101, hy101, h⟩ := obind h
          have q := W_i_CanCall (w0 := w99) hy101 rfl (hS28.rI 3 rfl) rfl (hS28.rI 4 rfl) rfl (hS28.rI 5 rfl) rfl (hS28.rI 6 rfl) rfl (hS28.rI 7 rfl) rfl (hS28.rI 8 rfl)
          refine AW.one (i := 19) (by kernel_rfl) ?_
          refine ⟨_, rfl, ?_⟩
          refine (LW.gY (want_of rfl rfl hc100) ?_)
          refine LW.call pl16 rfl rfl ?_
          refine Ret.mono q ?_
          rintro _ w102 ⟨rfl, hs⟩
          have hS29 := hS28.add hs
          refine LW.nil ⟨rfl, (.w (by kernel_rfl) (.c (St.cell (h := hS29) (i := 2) rfl) (.c (St.cell (h := hS29) (i := 2) rfl) (.c (St.cell (h := hS29) (i := 2) rfl) (.c (St.cell (h := hS29) (i := 2) rfl) Kept.n))))), ?_⟩
          refine go ?_
          rcases bcases y101 with hc103 | hc103
          · replace h := bcT h hc103
            refine go ?_
            replace ⟨y104, hy104, h⟩ := obind h
            have q := W_i_CanCall (w0 := w102) hy104 rfl (hS29.rI 3 rfl) rfl (hS29.rI 4 rfl) rfl (hS29.rI 5 rfl) rfl (hS29.rI 6 rfl) rfl (hS29.rI 7 rfl) rfl (hS29.rI 8 rfl)
            refine AW.one (i := 23) (by kernel_rfl) ?_
            refine ⟨_, rfl, ?_⟩
            refine (LW.gY (want_of rfl rfl hc103) ?_)
            refine LW.call pl16 rfl rfl ?_
            refine Ret.mono q ?_
            rintro _ w105 ⟨rfl, hs⟩
            have hS30 := hS29.add hs
            refine LW.nil ⟨rfl, (.w (by kernel_rfl) (.c (St.cell (h := hS30) (i := 2) rfl) (.c (St.cell (h := hS30) (i := 2) rfl) (.c (St.cell (h := hS30) (i := 2) rfl) (.c (St.cell (h := hS30) (i := 2) rfl) (.c (St.cell (h := hS30) (i := 2) rfl) Kept.n)))))), ?_⟩
            refine go ?_
            rcases bcases (!y104) with hc106 | hc106
            · replace h := bcT h hc106
              refine go ?_
              replace ⟨y107, hy107, h⟩ := obind h
              have q := W_i_PartSum (w0 := w105) hy107 rfl (hS30.rI 3 rfl) rfl (hS30.rI 4 rfl) rfl (hS30.rI 5 rfl) rfl (hS30.rI 6 rfl) rfl (hS30.rI 7 rfl) rfl (hS30.rI 8 rfl)
              refine AW.one (i := 28) (by kernel_rfl) ?_
              refine ⟨_, rfl, ?_⟩
              refine (LW.gY (want_of rfl rfl hc106) ?_)
              refine LW.call pl17 rfl rfl ?_
              refine Ret.mono q ?_
              rintro _ w108 ⟨rfl, hs⟩
              have hS31 := hS30.add hs
              refine LW.nil ⟨rfl, (.c (St.cell (h := hS31) (i := 9) rfl) (.w (by kernel_rfl) (.c (St.cell (h := hS31) (i := 2) rfl) (.c (St.cell (h := hS31) (i := 2) rfl) (.c (St.cell (h := hS31) (i := 2) rfl) (.c (St.cell (h := hS31) (i := 2) rfl) (.c (St.cell (h := hS31) (i := 2) rfl) (.c (St.cell (h := hS31) (i := 2) rfl) Kept.n)))))))), ?_⟩
              refine AW.u (i := 31) rfl (by kernel_rfl) (want_of rfl rfl hc106) rfl (Pur.aeq eg28 rfl rfl (fun w => eq28 y107 y4.amt w)) ?_
              refine go ?_
              rcases bcases (decide (y107 = y4.amt)) with hc109 | hc109
              · replace h := bcT h hc109
                refine go ?_
                replace ⟨y110, hy110, h⟩ := obind h
                have q := W_i_Held (w0 := w108) hy110 rfl (hS31.rI 3 rfl) rfl (hS31.rI 4 rfl) rfl (hS31.rI 5 rfl) rfl (hS31.rI 6 rfl) rfl (hS31.rI 7 rfl) rfl (hS31.rI 8 rfl)
                refine AW.one (i := 35) (by kernel_rfl) ?_
                refine ⟨_, rfl, ?_⟩
                refine (LW.gY (want_of rfl rfl hc109) ?_)
                refine LW.call pl18 rfl rfl ?_
                refine Ret.mono q ?_
                rintro _ w111 ⟨rfl, hs⟩
                have hS32 := hS31.add hs
                refine LW.nil ⟨rfl, (.w (by kernel_rfl) (.c (St.cell (h := hS32) (i := 9) rfl) (.c (St.cell (h := hS32) (i := 2) rfl) (.c (St.cell (h := hS32) (i := 2) rfl) (.c (St.cell (h := hS32) (i := 2) rfl) (.c (St.cell (h := hS32) (i := 2) rfl) (.c (St.cell (h := hS32) (i := 2) rfl) (.c (St.cell (h := hS32) (i := 2) rfl) (.c (St.cell (h := hS32) (i := 2) rfl) Kept.n))))))))), ?_⟩
                refine go ?_
                rcases bcases (y110 == 0) with hc112 | hc112
                · replace h := bcT h hc112
                  refine go ?_
                  replace ⟨y113, hy113, h⟩ := obind h
                  have q := W_i_Garbage (w0 := w111) hy113 rfl (hS32.rI 6 rfl)
                  refine AW.one (i := 42) (by kernel_rfl) ?_
                  refine ⟨_, rfl, ?_⟩
                  refine (LW.gY (want_of rfl rfl hc112) ?_)
                  refine LW.call pl19 rfl rfl ?_
                  refine Ret.mono q ?_
                  rintro _ w116 ⟨a114, c115, rfl, hs⟩
                  have hS33 := hS32.add hs
                  refine LW.nil ⟨rfl, (.w (by kernel_rfl) (.c (St.cell (h := hS33) (i := 3) rfl) (.c (St.cell (h := hS33) (i := 10) rfl) (.c (St.cell (h := hS33) (i := 3) rfl) (.c (St.cell (h := hS33) (i := 3) rfl) (.c (St.cell (h := hS33) (i := 3) rfl) (.c (St.cell (h := hS33) (i := 3) rfl) (.c (St.cell (h := hS33) (i := 3) rfl) (.c (St.cell (h := hS33) (i := 3) rfl) (.c (St.cell (h := hS33) (i := 3) rfl) Kept.n)))))))))), ?_⟩
                  refine go ?_
                  rcases bcases ((y113.length : Int) == 0) with hc117 | hc117
                  · replace h := bcT h hc117
                    refine go ?_
                    refine AW.u (i := 51) rfl (by kernel_rfl) (want_of rfl rfl hc117) rfl (Pur.fa fo30_2 rfl) ?_
                    refine go ?_
                    replace ⟨y118, hy118, h⟩ := obind h
                    have q := W_i_Runnable (w0 := w116) hy118 rfl (hS33.rI 4 rfl) rfl (hS33.rI 5 rfl) rfl (hS33.rI 6 rfl) rfl (hS33.rI 7 rfl) rfl (hS33.rI 8 rfl) rfl (hS33.rI 9 rfl)
                    refine AW.one (i := 48) (by kernel_rfl) ?_
                    refine ⟨_, rfl, ?_⟩
                    refine (LW.gY (want_of rfl rfl hc117) ?_)
                    refine LW.call pl20 rfl rfl ?_
                    refine Ret.mono q ?_
                    rintro _ w121 ⟨a119, c120, rfl, hs⟩
                    have hS34 := hS33.add hs
                    refine LW.nil ⟨rfl, (.c (St.cell (h := hS34) (i := 11) rfl) (.w (by kernel_rfl) (.c (St.cell (h := hS34) (i := 4) rfl) (.c (St.cell (h := hS34) (i := 4) rfl) (.c (St.cell (h := hS34) (i := 11) rfl) (.c (St.cell (h := hS34) (i := 4) rfl) (.c (St.cell (h := hS34) (i := 4) rfl) (.c (St.cell (h := hS34) (i := 4) rfl) (.c (St.cell (h := hS34) (i := 4) rfl) (.c (St.cell (h := hS34) (i := 4) rfl) (.c (St.cell (h := hS34) (i := 4) rfl) (.c (St.cell (h := hS34) (i := 4) rfl) Kept.n)))))))))))), ?_⟩
                    refine go ?_
                    refine AW.u (i := 55) rfl (by kernel_rfl) (want_of rfl rfl hc117) rfl (Pur.beq Try.underlying4 rfl rfl) ?_
                    refine go ?_
                    cases h
                    exact fi hS34
                  replace h := bcF h hc117
                  refine go ?_
                  cases h
                  exact fi hS33
                replace h := bcF h hc112
                refine go ?_
                cases h
                exact fi hS32
              replace h := bcF h hc109
              refine go ?_
              cases h
              exact fi hS31
            replace h := bcF h hc106
            refine go ?_
            cases h
            exact fi hS30
          replace h := bcF h hc103
          refine go ?_
          cases h
          exact fi hS29
        replace h := bcF h hc100
        refine go ?_
        cases h
        exact fi hS28
      replace h := bcF h hc51
      refine go ?_
      cases h
      exact fi hS16
    replace h := bcF h hc48
    refine go ?_
    cases h
    exact fi hS15
  replace h := bcF h hc45
  refine go ?_
  cases h
  exact fi hS14

end Go.Kx
