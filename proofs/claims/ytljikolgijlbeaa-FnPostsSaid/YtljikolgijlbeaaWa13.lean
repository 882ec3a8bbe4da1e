/- Each call returns what the plain function says. Printed by drive.py. -/
import Derived.Test.YtljikolgijlbeaaFa
import Derived.Test.YtljikolgijlbeaaPu
import Derived.Test.YtljikolgijlbeaaWa0
import Derived.Test.YtljikolgijlbeaaWa2
import Derived.Test.YtljikolgijlbeaaWa3
import Derived.Test.YtljikolgijlbeaaWa8
import Derived.Test.YtljikolgijlbeaaWa9
import Derived.Test.YtljikolgijlbeaaWa10
import Derived.Test.YtljikolgijlbeaaWa11
import Derived.Test.YtljikolgijlbeaaWa12
namespace Go.Kx
open Go Go.RowKit Go.Proofs
set_option maxRecDepth 10000
set_option maxHeartbeats 8000000
set_option linter.unusedVariables false
set_option linter.unusedSimpArgs false
theorem W_i_caller_do {w0 : World} {F : List Nat} {N : Nat} {x0 : DCaller} {x1 : DCall} {r : Int × Int × DCaller} (h : F_i_caller_do N x0 x1 = some r) {g0 : Nat} {a0_0 : Option Addr} {c0_0 : Nat} (hr0_0 : rdS (Bor w0 F) w0 a0_0 c0_0 x0.part.label.levels) {a0_1 : Option Addr} {c0_1 : Nat} (hr0_1 : rdS (Bor w0 F) w0 a0_1 c0_1 x0.part.own) {a0_2 : Option Addr} {c0_2 : Nat} {a0_3 : Option Addr} {c0_3 : Nat} {a0_7 : Option Addr} {c0_7 : Nat} {a0_8 : Option Addr} {c0_8 : Nat} (hS : St w0 F w0 [bx g0 140 [.slice a0_0 x0.part.label.levels.length c0_0, .slice a0_1 x0.part.own.length c0_1, .slice a0_2 x0.part.tree.length c0_2, .slice a0_3 x0.part.heap.arena.length c0_3, .int .i64 x0.part.heap.gc.phase, .int .i64 x0.part.heap.gc.pos, .int .i64 x0.part.heap.gc.round, .slice a0_7 x0.part.heap.gc.grey.length c0_7, .slice a0_8 x0.part.taps.length c0_8, .int .i64 x0.part.next, .int .i64 x0.part.want, .int .i64 x0.part.spent.pages, .int .i64 x0.part.spent.rent, .int .i64 x0.part.spent.cpu, .int .i64 x0.part.press, .int .i64 x0.part.lost, .int .i64 x0.me, .int .i64 x0.now, .int .i64 x0.thread], sl a0_2 c0_2 x0.part.tree, sl a0_3 c0_3 x0.part.heap.arena, sl a0_7 c0_7 x0.part.heap.gc.grey, sl a0_8 c0_8 x0.part.taps]) :
    Ret Try.prog 107 #[.pointer (some ⟨g0, 0, none⟩), .agg #[.int .i64 x1.kind, .int .i64 x1.a, .int .i64 x1.b, .int .i64 x1.c, .int .i64 x1.d, .int .i64 x1.e]] w0 (fun v w => ∃ ab0_2 cb0_2, ∃ ab0_3 cb0_3, ∃ ab0_7 cb0_7, ∃ ab0_8 cb0_8, v = .tuple #[.int .i64 r.1, .int .i64 r.2.1] ∧ St w0 F w [bx g0 140 [.slice a0_0 x0.part.label.levels.length c0_0, .slice a0_1 x0.part.own.length c0_1, .slice ab0_2 r.2.2.part.tree.length cb0_2, .slice ab0_3 r.2.2.part.heap.arena.length cb0_3, .int .i64 r.2.2.part.heap.gc.phase, .int .i64 r.2.2.part.heap.gc.pos, .int .i64 r.2.2.part.heap.gc.round, .slice ab0_7 r.2.2.part.heap.gc.grey.length cb0_7, .slice ab0_8 r.2.2.part.taps.length cb0_8, .int .i64 r.2.2.part.next, .int .i64 r.2.2.part.want, .int .i64 r.2.2.part.spent.pages, .int .i64 r.2.2.part.spent.rent, .int .i64 r.2.2.part.spent.cpu, .int .i64 r.2.2.part.press, .int .i64 r.2.2.part.lost, .int .i64 r.2.2.me, .int .i64 r.2.2.now, .int .i64 r.2.2.thread], sl ab0_2 cb0_2 r.2.2.part.tree, sl ab0_3 cb0_3 r.2.2.part.heap.arena, sl ab0_7 cb0_7 r.2.2.part.heap.gc.grey, sl ab0_8 cb0_8 r.2.2.part.taps]) := by
  unfold F_i_caller_do at h
  refine Ret.fn Try.func107 fun e => ?_
  refine go ?_
  refine LW.bo hS fun g1 w2 hS1 => ?_
  refine go ?_
  refine cd (fun hc3 => ?_) fun hc3 => ?_
  · replace h := bcT h hc3
    refine go ?_
    replace ⟨y4, hy4, h⟩ := obind h
    obtain ⟨F5, hL6⟩ := hS1.lendI [1, 2, 3, 4] [0, 5]
    refine LW.cl (W_i_caller_make hy4 (hL6.rB hr0_0) (hL6.rB hr0_1) (hL6.rI 1 rfl) hL6.st) ?_
    rintro _ w13 ⟨a7, c8, a9, c10, a11, c12, rfl, hs⟩
    have hS2 := hL6.back _ _ hs
    refine go ?_
    replace h := Option.some.inj h
    subst h
    exact And.intro trivial ⟨_, Res.two (resOne.t rfl) (resOne.t rfl), a7, c8, a9, c10, a11, c12, a0_8, c0_8, rfl, hS2.pick [0, 1, 2, 3, 5] rfl rfl⟩
  replace h := bcF h hc3
  refine gs ?_
  refine CW.region ?_
  refine gs ?_
  obtain ⟨j14, hj14, h15⟩ := obind h
  refine CW.jn [0, 3, 7] [0, 1, 2, 3, 4, 5] [(15, .bool j14)] hS1 (h1 := ?_) (h2 := ?_)
  · have h := hj14
    refine cd (fun hc16 => ?_) fun hc16 => ?_
    · replace h := bcT h hc16
      refine go ?_
      cases oi h
      exact ⟨⟨rfl, rfl, rfl, rfl, trivial⟩, hS1.pick [0, 1, 2, 3, 4, 5] rfl rfl⟩
    replace h := bcF h hc16
    refine go ?_
    cases oi h
    exact ⟨⟨rfl, rfl, rfl, rfl, trivial⟩, hS1.pick [0, 1, 2, 3, 4, 5] rfl rfl⟩
  intro e w17 hS3
  have h := h15
  refine go ?_
  refine cd (fun hc18 => ?_) fun hc18 => ?_
  · replace h := bcT h hc18
    refine go ?_
    replace ⟨y19, hy19, h⟩ := obind h
    obtain ⟨F20, hL21⟩ := hS3.lendI [1, 3, 4] [0, 2, 5]
    refine LW.cl (W_i_caller_link hy19 (hL21.rB hr0_0) (hL21.rB hr0_1) (hL21.rI 1 rfl) (hL21.rI 2 rfl) hL21.st) ?_
    rintro _ w26 ⟨a22, c23, a24, c25, rfl, hs⟩
    have hS4 := hL21.back _ _ hs
    refine go ?_
    replace h := Option.some.inj h
    subst h
    exact And.intro trivial ⟨_, Res.two (resOne.t rfl) (resOne.t rfl), a0_2, c0_2, a22, c23, a24, c25, a0_8, c0_8, rfl, hS4.pick [0, 4, 1, 2, 5] rfl rfl⟩
  replace h := bcF h hc18
  refine gs ?_
  refine CW.region ?_
  refine gs ?_
  obtain ⟨j27, hj27, h28⟩ := obind h
  refine CW.jn [0, 3, 7] [0, 1, 2, 3, 4, 5] [(21, .bool j27)] hS3 (h1 := ?_) (h2 := ?_)
  · have h := hj27
    refine cd (fun hc29 => ?_) fun hc29 => ?_
    · replace h := bcT h hc29
      refine go ?_
      cases oi h
      exact ⟨⟨rfl, rfl, rfl, rfl, trivial⟩, hS3.pick [0, 1, 2, 3, 4, 5] rfl rfl⟩
    replace h := bcF h hc29
    refine go ?_
    cases oi h
    exact ⟨⟨rfl, rfl, rfl, rfl, trivial⟩, hS3.pick [0, 1, 2, 3, 4, 5] rfl rfl⟩
  intro e w30 hS5
  have h := h28
  refine go ?_
  refine cd (fun hc31 => ?_) fun hc31 => ?_
  · replace h := bcT h hc31
    refine go ?_
    replace ⟨y32, hy32, h⟩ := obind h
    obtain ⟨F33, hL34⟩ := hS5.lendI [1, 3, 4] [0, 2, 5]
    refine LW.cl (W_i_caller_move hy32 (hL34.rB hr0_0) (hL34.rB hr0_1) (hL34.rI 1 rfl) (hL34.rI 2 rfl) hL34.st) ?_
    rintro _ w39 ⟨a35, c36, a37, c38, rfl, hs⟩
    have hS6 := hL34.back _ _ hs
    refine go ?_
    replace h := Option.some.inj h
    subst h
    exact And.intro trivial ⟨_, Res.two (resOne.t rfl) (resOne.t rfl), a0_2, c0_2, a35, c36, a37, c38, a0_8, c0_8, rfl, hS6.pick [0, 4, 1, 2, 5] rfl rfl⟩
  replace h := bcF h hc31
  refine gs ?_
  refine CW.region ?_
  refine gs ?_
  obtain ⟨j40, hj40, h41⟩ := obind h
  refine CW.jn [0, 3, 7] [0, 1, 2, 3, 4, 5] [(27, .bool j40)] hS5 (h1 := ?_) (h2 := ?_)
  · have h := hj40
    refine CW.fl [0, 3, 7, 27] fun e => ?_
    refine cd (fun hc42 => ?_) fun hc42 => ?_
    · replace h := bcT h hc42
      refine go ?_
      cases oi h
      exact ⟨⟨rfl, rfl, rfl, rfl, trivial⟩, hS5.pick [0, 1, 2, 3, 4, 5] rfl rfl⟩
    replace h := bcF h hc42
    refine go ?_
    cases oi h
    exact ⟨⟨rfl, rfl, rfl, rfl, trivial⟩, hS5.pick [0, 1, 2, 3, 4, 5] rfl rfl⟩
  intro e w43 hS7
  have h := h41
  refine go ?_
  refine CW.fl [0, 3, 7, 27] fun e => ?_
  refine cd (fun hc44 => ?_) fun hc44 => ?_
  · replace h := bcT h hc44
    refine go ?_
    replace ⟨y45, hy45, h⟩ := obind h
    obtain ⟨F46, hL47⟩ := hS7.lendI [1, 3] [0, 2, 4, 5]
    refine LW.cl (W_i_caller_data hy45 (hL47.rB hr0_0) (hL47.rB hr0_1) (hL47.rI 1 rfl) (hL47.rI 2 rfl) (hL47.rI 3 rfl) hL47.st) ?_
    rintro _ w50 ⟨a48, c49, rfl, hs⟩
    have hS8 := hL47.back _ _ hs
    refine go ?_
    replace h := Option.some.inj h
    subst h
    exact And.intro trivial ⟨_, Res.two (resOne.t rfl) (resOne.t rfl), a0_2, c0_2, a48, c49, a0_7, c0_7, a0_8, c0_8, rfl, hS8.pick [0, 3, 1, 4, 5] rfl rfl⟩
  replace h := bcF h hc44
  refine go ?_
  refine cd (fun hc51 => ?_) fun hc51 => ?_
  · replace h := bcT h hc51
    refine go ?_
    replace ⟨y52, hy52, h⟩ := obind h
    obtain ⟨F53, hL54⟩ := hS7.lendI [1, 2, 3] [0, 4, 5]
    refine LW.cl (W_i_caller_renew hy52 (hL54.rB hr0_0) (hL54.rB hr0_1) (hL54.rI 1 rfl) (hL54.rI 2 rfl) hL54.st) ?_
    rintro _ w59 ⟨a55, c56, a57, c58, rfl, hs⟩
    have hS9 := hL54.back _ _ hs
    refine go ?_
    replace h := Option.some.inj h
    subst h
    exact And.intro trivial ⟨_, Res.two (resOne.t rfl) (resOne.t rfl), a55, c56, a57, c58, a0_7, c0_7, a0_8, c0_8, rfl, hS9.pick [0, 1, 2, 4, 5] rfl rfl⟩
  replace h := bcF h hc51
  refine gs ?_
  refine CW.region ?_
  refine gs ?_
  obtain ⟨j60, hj60, h61⟩ := obind h
  refine CW.jn [0, 3, 7] [0, 1, 2, 3, 4, 5] [(40, .bool j60)] hS7 (h1 := ?_) (h2 := ?_)
  · have h := hj60
    refine cd (fun hc62 => ?_) fun hc62 => ?_
    · replace h := bcT h hc62
      refine go ?_
      cases oi h
      exact ⟨⟨rfl, rfl, rfl, rfl, trivial⟩, hS7.pick [0, 1, 2, 3, 4, 5] rfl rfl⟩
    replace h := bcF h hc62
    refine go ?_
    refine cd (fun hc63 => ?_) fun hc63 => ?_
    · replace h := bcT h hc63
      refine go ?_
      cases oi h
      exact ⟨⟨rfl, rfl, rfl, rfl, trivial⟩, hS7.pick [0, 1, 2, 3, 4, 5] rfl rfl⟩
    replace h := bcF h hc63
    refine go ?_
    cases oi h
    exact ⟨⟨rfl, rfl, rfl, rfl, trivial⟩, hS7.pick [0, 1, 2, 3, 4, 5] rfl rfl⟩
  intro e w64 hS10
  have h := h61
  refine go ?_
  refine cd (fun hc65 => ?_) fun hc65 => ?_
  · replace h := bcT h hc65
    refine go ?_
    replace ⟨y66, hy66, h⟩ := obind h
    obtain ⟨F67, hL68⟩ := hS10.lendI [1, 2] [0, 3, 4, 5]
    refine LW.cl (W_i_caller_reserve hy66 (hL68.rB hr0_0) (hL68.rB hr0_1) (hL68.rI 1 rfl) (hL68.rI 2 rfl) (hL68.rI 3 rfl) hL68.st) ?_
    rintro _ w71 ⟨a69, c70, rfl, hs⟩
    have hS11 := hL68.back _ _ hs
    refine go ?_
    replace h := Option.some.inj h
    subst h
    exact And.intro trivial ⟨_, Res.two (resOne.t rfl) (resOne.t rfl), a69, c70, a0_3, c0_3, a0_7, c0_7, a0_8, c0_8, rfl, hS11.pick [0, 1, 3, 4, 5] rfl rfl⟩
  replace h := bcF h hc65
  refine gs ?_
  refine CW.region ?_
  refine gs ?_
  obtain ⟨j72, hj72, h73⟩ := obind h
  refine CW.jn [0, 3, 7] [0, 1, 2, 3, 4, 5] [(49, .bool j72)] hS10 (h1 := ?_) (h2 := ?_)
  · have h := hj72
    refine cd (fun hc74 => ?_) fun hc74 => ?_
    · replace h := bcT h hc74
      refine go ?_
      cases oi h
      exact ⟨⟨rfl, rfl, rfl, rfl, trivial⟩, hS10.pick [0, 1, 2, 3, 4, 5] rfl rfl⟩
    replace h := bcF h hc74
    refine go ?_
    cases oi h
    exact ⟨⟨rfl, rfl, rfl, rfl, trivial⟩, hS10.pick [0, 1, 2, 3, 4, 5] rfl rfl⟩
  intro e w75 hS12
  have h := h73
  refine go ?_
  refine cd (fun hc76 => ?_) fun hc76 => ?_
  · replace h := bcT h hc76
    refine go ?_
    replace ⟨y77, hy77, h⟩ := obind h
    obtain ⟨F78, hL79⟩ := hS12.lendI [1, 3] [0, 2, 4, 5]
    refine LW.cl (W_i_caller_gate hy77 (hL79.rB hr0_0) (hL79.rB hr0_1) (hL79.rI 1 rfl) (hL79.rI 2 rfl) (hL79.rI 3 rfl) hL79.st) ?_
    rintro _ w82 ⟨a80, c81, rfl, hs⟩
    have hS13 := hL79.back _ _ hs
    refine go ?_
    replace h := Option.some.inj h
    subst h
    exact And.intro trivial ⟨_, Res.two (resOne.t rfl) (resOne.t rfl), a0_2, c0_2, a80, c81, a0_7, c0_7, a0_8, c0_8, rfl, hS13.pick [0, 3, 1, 4, 5] rfl rfl⟩
  replace h := bcF h hc76
  refine go ?_
  refine cd (fun hc83 => ?_) fun hc83 => ?_
  · replace h := bcT h hc83
    refine go ?_
    replace ⟨y84, hy84, h⟩ := obind h
    obtain ⟨F85, hL86⟩ := hS12.lendI [1] [0, 2, 3, 4, 5]
    refine LW.cl (W_i_caller_self hy84 (hL86.rB hr0_0) (hL86.rB hr0_1) (hL86.rI 1 rfl) (hL86.rI 2 rfl) (hL86.rI 3 rfl) (hL86.rI 4 rfl) hL86.st) ?_
    rintro _ w87 ⟨rfl, hs⟩
    have hS14 := hL86.back _ _ hs
    refine go ?_
    replace h := Option.some.inj h
    subst h
    exact And.intro trivial ⟨_, Res.two (resOne.t rfl) (resOne.t rfl), a0_2, c0_2, a0_3, c0_3, a0_7, c0_7, a0_8, c0_8, rfl, hS14.pick [0, 2, 3, 4, 5] rfl rfl⟩
  replace h := bcF h hc83
  refine go ?_
  refine cd (fun hc88 => ?_) fun hc88 => ?_
  · replace h := bcT h hc88
    refine go ?_
    refine CW.draw (by kernel_rfl) ?_
    have hS15 := hS12.drew
    refine go ?_
    replace ⟨y89, hy89, h⟩ := obind h
    have q := W_i_within (w0 := w75.drew) hy89
    refine AW.one (i := 9) (by kernel_rfl) ?_
    refine ⟨_, rfl, ?_⟩
    refine LW.call pl52 rfl rfl ?_
    refine Ret.mono q ?_
    rintro _ w90 ⟨rfl, hs⟩
    have hS16 := hS15.add hs
    refine LW.nil ⟨rfl, (.c (St.cell (h := hS16) (i := 1) rfl) (.w (by kernel_rfl) Kept.n)), ?_⟩
    refine go ?_
    refine cd (fun hc91 => ?_) fun hc91 => ?_
    · replace h := bcT h hc91
      refine go ?_
      replace h := Option.some.inj h
      subst h
      exact And.intro trivial ⟨_, Res.two (resOne.t rfl) (resOne.t rfl), a0_2, c0_2, a0_3, c0_3, a0_7, c0_7, a0_8, c0_8, rfl, hS16.pick [1, 2, 3, 4, 5] rfl rfl⟩
    replace h := bcF h hc91
    refine go ?_
    refine CW.draw (by kernel_rfl) ?_
    have hS17 := hS16.drew
    refine go ?_
    replace ⟨y92, hy92, h⟩ := obind h
    obtain ⟨F93, hL94⟩ := hS17.lendI [5] [0, 1, 2, 3, 4]
    have q := W_z_Delete_Tap (w0 := w90.drew) hy92 rfl hL94.st
    refine AW.one (i := 11) (by kernel_rfl) ?_
    refine ⟨_, rfl, ?_⟩
    refine LW.call pl123 rfl rfl ?_
    refine Ret.mono q ?_
    rintro _ w97 ⟨a95, c96, rfl, hs⟩
    have hS18 := hL94.back _ _ hs
    refine LW.nil ⟨rfl, (.c (St.cell (h := hS18) (i := 1) rfl) (.w (by kernel_rfl) (.w (by kernel_rfl) Kept.n))), ?_⟩
    refine go ?_
    refine AW.one (i := 15) (by kernel_rfl) ?_
    refine ⟨_, rfl, ?_⟩
    refine LW.st hS18 2 fun w98 hS19 => ?_
    refine LW.nil ⟨rfl, (.w (by kernel_rfl) (.w (by kernel_rfl) (.w (by kernel_rfl) Kept.n))), ?_⟩
    refine go ?_
    replace h := Option.some.inj h
    subst h
    exact And.intro trivial ⟨_, Res.two (resOne.t rfl) (resOne.t rfl), a0_2, c0_2, a0_3, c0_3, a0_7, c0_7, a95, c96, rfl, hS19.pick [2, 3, 4, 5, 0] rfl rfl⟩
  replace h := bcF h hc88
  refine go ?_
  replace h := Option.some.inj h
  subst h
  exact And.intro trivial ⟨_, Res.two (resOne.t rfl) (resOne.t rfl), a0_2, c0_2, a0_3, c0_3, a0_7, c0_7, a0_8, c0_8, rfl, hS12.pick [1, 2, 3, 4, 5] rfl rfl⟩

theorem W_i_PartCall {w0 : World} {N : Nat} {x0 : DPart} {x1 : Int} {x2 : Int} {x3 : Int} {x4 : DCall} {r : DPart × DReply} (h : F_i_PartCall N x0 x1 x2 x3 x4 = some r) {a0_0 : Option Addr} {n0_0 c0_0 : Nat} (hn0_0 : n0_0 = x0.label.levels.length) (hr0_0 : rdS (Bor w0 []) w0 a0_0 c0_0 x0.label.levels) {a0_1 : Option Addr} {n0_1 c0_1 : Nat} (hn0_1 : n0_1 = x0.own.length) (hr0_1 : rdS (Bor w0 []) w0 a0_1 c0_1 x0.own) {a0_2 : Option Addr} {n0_2 c0_2 : Nat} (hn0_2 : n0_2 = x0.tree.length) (hr0_2 : rdS (Bor w0 []) w0 a0_2 c0_2 x0.tree) {a0_3 : Option Addr} {n0_3 c0_3 : Nat} (hn0_3 : n0_3 = x0.heap.arena.length) (hr0_3 : rdS (Bor w0 []) w0 a0_3 c0_3 x0.heap.arena) {a0_7 : Option Addr} {n0_7 c0_7 : Nat} (hn0_7 : n0_7 = x0.heap.gc.grey.length) (hr0_7 : rdS (Bor w0 []) w0 a0_7 c0_7 x0.heap.gc.grey) {a0_8 : Option Addr} {n0_8 c0_8 : Nat} (hn0_8 : n0_8 = x0.taps.length) (hr0_8 : rdS (Bor w0 []) w0 a0_8 c0_8 x0.taps) :
    Ret Try.prog 96 #[.agg #[.slice a0_0 n0_0 c0_0, .slice a0_1 n0_1 c0_1, .slice a0_2 n0_2 c0_2, .slice a0_3 n0_3 c0_3, .int .i64 x0.heap.gc.phase, .int .i64 x0.heap.gc.pos, .int .i64 x0.heap.gc.round, .slice a0_7 n0_7 c0_7, .slice a0_8 n0_8 c0_8, .int .i64 x0.next, .int .i64 x0.want, .int .i64 x0.spent.pages, .int .i64 x0.spent.rent, .int .i64 x0.spent.cpu, .int .i64 x0.press, .int .i64 x0.lost], .int .i64 x1, .int .i64 x2, .int .i64 x3, .agg #[.int .i64 x4.kind, .int .i64 x4.a, .int .i64 x4.b, .int .i64 x4.c, .int .i64 x4.d, .int .i64 x4.e]] w0 (fun v w => ∃ ar0_0 cr0_0, ∃ ar0_1 cr0_1, ∃ ar0_2 cr0_2, ∃ ar0_3 cr0_3, ∃ ar0_7 cr0_7, ∃ ar0_8 cr0_8, v = .tuple #[.agg #[.slice ar0_0 r.1.label.levels.length cr0_0, .slice ar0_1 r.1.own.length cr0_1, .slice ar0_2 r.1.tree.length cr0_2, .slice ar0_3 r.1.heap.arena.length cr0_3, .int .i64 r.1.heap.gc.phase, .int .i64 r.1.heap.gc.pos, .int .i64 r.1.heap.gc.round, .slice ar0_7 r.1.heap.gc.grey.length cr0_7, .slice ar0_8 r.1.taps.length cr0_8, .int .i64 r.1.next, .int .i64 r.1.want, .int .i64 r.1.spent.pages, .int .i64 r.1.spent.rent, .int .i64 r.1.spent.cpu, .int .i64 r.1.press, .int .i64 r.1.lost], .agg #[.int .i64 r.2.code, .int .i64 r.2.val]] ∧ St w0 [] w [sl ar0_0 cr0_0 r.1.label.levels, sl ar0_1 cr0_1 r.1.own, sl ar0_2 cr0_2 r.1.tree, sl ar0_3 cr0_3 r.1.heap.arena, sl ar0_7 cr0_7 r.1.heap.gc.grey, sl ar0_8 cr0_8 r.1.taps]) := by
  subst hn0_0 hn0_1 hn0_2 hn0_3 hn0_7 hn0_8
  unfold F_i_PartCall at h
  refine Ret.fn Try.func96 fun e => ?_
  have hS1 := St.start w0
  refine go ?_
  refine LW.bo hS1 fun g1 w2 hS2 => ?_
  refine LW.bo hS2 fun g3 w4 hS3 => ?_
  refine LW.al hS3 fun g5 w6 hS4 => ?_
  refine LW.al hS4 fun g7 w8 hS5 => ?_
  refine gs ?_
  obtain ⟨j9, hj9, h10⟩ := obind h
  refine CW.jn [1, 2, 3, 5, 9, 10, 11] [0, 1, 2, 3] [(28, .bool j9)] hS5 (h1 := ?_) (h2 := ?_)
  · have h := hj9
    refine go ?_
    replace ⟨y11, hy11, h⟩ := obind h
    refine LW.c0 (W_i_PartOk hy11 rfl (hS5.rB hr0_0) rfl (hS5.rB hr0_1) rfl (hS5.rB hr0_2) rfl (hS5.rB hr0_3) rfl (hS5.rB hr0_7) rfl (hS5.rB hr0_8)) hS5 fun w12 hS6 => ?_
    refine go ?_
    rcases bcases (!y11) with hc13 | hc13
    · replace h := bcT h hc13
      refine go ?_
      cases oi h
      exact ⟨⟨rfl, rfl, rfl, rfl, rfl, rfl, rfl, rfl, trivial⟩, hS6.pick [0, 1, 2, 3] rfl rfl⟩
    replace h := bcF h hc13
    refine go ?_
    replace ⟨y14, hy14, h⟩ := obind h
    refine go ?_
    refine LW.c0 (W_i_isPart hy14) hS6 fun w15 hS7 => ?_
    refine go ?_
    rcases bcases (!y14) with hc16 | hc16
    · replace h := bcT h hc16
      refine go ?_
      cases oi h
      exact ⟨⟨rfl, rfl, rfl, rfl, rfl, rfl, rfl, rfl, trivial⟩, hS7.pick [0, 1, 2, 3] rfl rfl⟩
    replace h := bcF h hc16
    refine go ?_
    replace ⟨y17, hy17, h⟩ := obind h
    refine go ?_
    refine LW.c0 (W_i_isTime hy17) hS7 fun w18 hS8 => ?_
    refine go ?_
    cases oi h
    exact ⟨⟨rfl, rfl, rfl, rfl, rfl, rfl, rfl, rfl, trivial⟩, hS8.pick [0, 1, 2, 3] rfl rfl⟩
  intro e w19 hS9
  have h := h10
  refine go ?_
  refine cd (fun hc20 => ?_) fun hc20 => ?_
  · replace h := bcT h hc20
    refine go ?_
    replace ⟨y21, hy21, h⟩ := obind h
    refine LW.cl (W_i_copyPart hy21 rfl (hS9.rB hr0_0) rfl (hS9.rB hr0_1) rfl (hS9.rB hr0_2) rfl (hS9.rB hr0_3) rfl (hS9.rB hr0_7) rfl (hS9.rB hr0_8)) ?_
    rintro _ w34 ⟨a22, c23, a24, c25, a26, c27, a28, c29, a30, c31, a32, c33, rfl, hs⟩
    have hS10 := hS9.add hs
    refine LW.u (Pur.build (vs := [(0, .int .i64 2)]) (cs := #[.int .i64 2, .int .i64 0]) rfl (by kernel_rfl)) rfl ?_
    refine LW.st hS10 7 fun w35 hS11 => ?_
    refine LW.st hS11 6 fun w36 hS12 => ?_
    refine go ?_
    cases h
    exact And.intro trivial ⟨_, Res.two (resOne.b hS12 7 rfl ag40 rfl rfl) (resOne.b hS12 6 rfl ag62 rfl rfl), a22, c23, a24, c25, a26, c27, a28, c29, a30, c31, a32, c33, rfl, hS12.pick [0, 1, 2, 3, 4, 5] rfl rfl⟩
  replace h := bcF h hc20
  refine go ?_
  replace ⟨y37, hy37, h⟩ := obind h
  refine LW.c0 (W_i_CanCall hy37 rfl (hS9.rB hr0_0) rfl (hS9.rB hr0_1) rfl (hS9.rB hr0_2) rfl (hS9.rB hr0_3) rfl (hS9.rB hr0_7) rfl (hS9.rB hr0_8)) hS9 fun w38 hS13 => ?_
  refine go ?_
  refine cd (fun hc39 => ?_) fun hc39 => ?_
  · replace h := bcT h hc39
    refine go ?_
    replace ⟨y40, hy40, h⟩ := obind h
    refine LW.cl (W_i_copyPart hy40 rfl (hS13.rB hr0_0) rfl (hS13.rB hr0_1) rfl (hS13.rB hr0_2) rfl (hS13.rB hr0_3) rfl (hS13.rB hr0_7) rfl (hS13.rB hr0_8)) ?_
    rintro _ w53 ⟨a41, c42, a43, c44, a45, c46, a47, c48, a49, c50, a51, c52, rfl, hs⟩
    have hS14 := hS13.add hs
    refine LW.u (Pur.build (vs := [(0, .int .i64 1)]) (cs := #[.int .i64 1, .int .i64 0]) rfl (by kernel_rfl)) rfl ?_
    refine LW.st hS14 7 fun w54 hS15 => ?_
    refine LW.st hS15 6 fun w55 hS16 => ?_
    refine go ?_
    cases h
    exact And.intro trivial ⟨_, Res.two (resOne.b hS16 7 rfl ag40 rfl rfl) (resOne.b hS16 6 rfl ag62 rfl rfl), a41, c42, a43, c44, a45, c46, a47, c48, a49, c50, a51, c52, rfl, hS16.pick [0, 1, 2, 3, 4, 5] rfl rfl⟩
  replace h := bcF h hc39
  refine go ?_
  replace ⟨y56, hy56, h⟩ := obind h
  refine LW.cl (W_i_copyPart hy56 rfl (hS13.rB hr0_0) rfl (hS13.rB hr0_1) rfl (hS13.rB hr0_2) rfl (hS13.rB hr0_3) rfl (hS13.rB hr0_7) rfl (hS13.rB hr0_8)) ?_
  rintro _ w69 ⟨a57, c58, a59, c60, a61, c62, a63, c64, a65, c66, a67, c68, rfl, hs⟩
  have hS17 := hS13.add hs
  refine go ?_
  refine LW.u (Pur.build (vs := [(0, .agg #[.slice a57 y56.label.levels.length c58, .slice a59 y56.own.length c60, .slice a61 y56.tree.length c62, .slice a63 y56.heap.arena.length c64, .int .i64 y56.heap.gc.phase, .int .i64 y56.heap.gc.pos, .int .i64 y56.heap.gc.round, .slice a65 y56.heap.gc.grey.length c66, .slice a67 y56.taps.length c68, .int .i64 y56.next, .int .i64 y56.want, .int .i64 y56.spent.pages, .int .i64 y56.spent.rent, .int .i64 y56.spent.cpu, .int .i64 y56.press, .int .i64 y56.lost]), (1, .int .i64 x1), (2, .int .i64 x2), (3, .int .i64 x3)]) (cs := #[.slice a57 y56.label.levels.length c58, .slice a59 y56.own.length c60, .slice a61 y56.tree.length c62, .slice a63 y56.heap.arena.length c64, .int .i64 y56.heap.gc.phase, .int .i64 y56.heap.gc.pos, .int .i64 y56.heap.gc.round, .slice a65 y56.heap.gc.grey.length c66, .slice a67 y56.taps.length c68, .int .i64 y56.next, .int .i64 y56.want, .int .i64 y56.spent.pages, .int .i64 y56.spent.rent, .int .i64 y56.spent.cpu, .int .i64 y56.press, .int .i64 y56.lost, .int .i64 x1, .int .i64 x2, .int .i64 x3]) rfl (by kernel_rfl)) rfl ?_
  refine LW.bo hS17 fun g70 w71 hS18 => ?_
  refine go ?_
  replace ⟨y72, hy72, h⟩ := obind h
  obtain ⟨F73, hL74⟩ := hS18.lendI [0, 3, 4, 5, 6] [1, 2, 7, 8, 9, 10]
  refine LW.cl (W_i_caller_do hy72 (hL74.rI 0 rfl) (hL74.rI 1 rfl) hL74.st) ?_
  rintro _ w83 ⟨a75, c76, a77, c78, a79, c80, a81, c82, rfl, hs⟩
  have hS19 := hL74.back _ _ hs
  refine go ?_
  refine CW.fl [5, 9, 10, 11, 12, 13, 14, 54] fun e => ?_
  refine cd (fun hc84 => ?_) fun hc84 => ?_
  · replace h := bcT h hc84
    refine go ?_
    refine LW.u (Pur.nc rfl) rfl ?_
    refine go ?_
    refine LW.u (Pur.build (vs := [(1, .int .i64 y72.2.1)]) (cs := #[.int .i64 0, .int .i64 y72.2.1]) rfl (by kernel_rfl)) rfl ?_
    refine LW.st hS19 8 fun w85 hS20 => ?_
    refine LW.st hS20 7 fun w86 hS21 => ?_
    refine go ?_
    cases h
    exact And.intro trivial ⟨_, Res.two (resOne.b hS21 8 rfl ag40 rfl rfl) (resOne.b hS21 7 rfl ag62 rfl rfl), a57, c58, a59, c60, a75, c76, a77, c78, a79, c80, a81, c82, rfl, hS21.pick [5, 6, 1, 2, 3, 4] rfl rfl⟩
  replace h := bcF h hc84
  refine go ?_
  replace ⟨y87, hy87, h⟩ := obind h
  refine LW.cl (W_i_copyPart hy87 rfl (hS19.rB hr0_0) rfl (hS19.rB hr0_1) rfl (hS19.rB hr0_2) rfl (hS19.rB hr0_3) rfl (hS19.rB hr0_7) rfl (hS19.rB hr0_8)) ?_
  rintro _ w100 ⟨a88, c89, a90, c91, a92, c93, a94, c95, a96, c97, a98, c99, rfl, hs⟩
  have hS22 := hS19.add hs
  refine LW.al hS22 fun g101 w102 hS23 => ?_
  refine LW.st hS23 0 fun w103 hS24 => ?_
  refine gs ?_
  obtain ⟨j104, hj104, h105⟩ := obind h
  refine CW.jn [10, 11, 13, 15] [0, 1, 2, 3, 4, 5, 6, 14, 15] [(73, .bool j104)] hS24 (h1 := ?_) (h2 := ?_)
  · have h := hj104
    refine go ?_
    rcases bcases (x4.kind == 1) with hc106 | hc106
    · replace h := bcT h hc106
      refine go ?_
      rcases bcases (y72.1 == 6) with hc107 | hc107
      · replace h := bcT h hc107
        refine go ?_
        cases oi h
        exact ⟨⟨rfl, rfl, rfl, rfl, rfl, trivial⟩, hS24.pick [0, 1, 2, 3, 4, 5, 6, 14, 15] rfl rfl⟩
      replace h := bcF h hc107
      refine go ?_
      cases oi h
      exact ⟨⟨rfl, rfl, rfl, rfl, rfl, trivial⟩, hS24.pick [0, 1, 2, 3, 4, 5, 6, 14, 15] rfl rfl⟩
    replace h := bcF h hc106
    refine go ?_
    cases oi h
    exact ⟨⟨rfl, rfl, rfl, rfl, rfl, trivial⟩, hS24.pick [0, 1, 2, 3, 4, 5, 6, 14, 15] rfl rfl⟩
  intro e w108 hS25
  have h := h105
  refine gs ?_
  obtain ⟨j109, hj109, h110⟩ := obind h
  refine CW.cut (fun e wb => En e [(10, .pointer (some ⟨g5, 0, none⟩)), (11, .pointer (some ⟨g7, 0, none⟩)), (13, .int .i64 y72.1), (15, .pointer (some ⟨g101, 0, none⟩))] ∧ St w0 [] wb [bx g101 40 [.slice a88 y87.label.levels.length c89, .slice a90 y87.own.length c91, .slice a92 y87.tree.length c93, .slice a94 y87.heap.arena.length c95, .int .i64 y87.heap.gc.phase, .int .i64 y87.heap.gc.pos, .int .i64 y87.heap.gc.round, .slice a96 y87.heap.gc.grey.length c97, .slice a98 y87.taps.length c99, .int .i64 y87.next, .int .i64 y87.want, .int .i64 y87.spent.pages, .int .i64 y87.spent.rent, .int .i64 y87.spent.cpu, .int .i64 j109, .int .i64 y87.lost], sl a88 c89 y87.label.levels, sl a90 c91 y87.own, sl a92 c93 y87.tree, sl a94 c95 y87.heap.arena, sl a96 c97 y87.heap.gc.grey, sl a98 c99 y87.taps, bx g7 62 [.int .i64 0, .int .i64 0], bx g5 40 [.slice none 0 0, .slice none 0 0, .slice none 0 0, .slice none 0 0, .int .i64 0, .int .i64 0, .int .i64 0, .slice none 0 0, .slice none 0 0, .int .i64 0, .int .i64 0, .int .i64 0, .int .i64 0, .int .i64 0, .int .i64 0, .int .i64 0]]) ?_ ?_
  · have h := hj109
    refine cd (fun hc111 => ?_) fun hc111 => ?_
    · replace h := bcT h hc111
      refine go ?_
      refine LW.u (Pur.min rfl rfl) rfl ?_
      refine go ?_
      refine LW.st hS25 0 fun w112 hS26 => ?_
      refine go ?_
      cases oi h
      exact ⟨⟨rfl, rfl, rfl, rfl, trivial⟩, hS26.pick [0, 1, 2, 3, 4, 5, 6, 7, 8] rfl rfl⟩
    replace h := bcF h hc111
    refine go ?_
    cases oi h
    exact ⟨⟨rfl, rfl, rfl, rfl, trivial⟩, hS25.pick [0, 1, 2, 3, 4, 5, 6, 7, 8] rfl rfl⟩
  rintro e w113 ⟨hE, hS27⟩
  obtain ⟨e, rfl⟩ := hE.out
  have h := h110
  refine go ?_
  refine LW.u (Pur.build (vs := [(0, .int .i64 y72.1)]) (cs := #[.int .i64 y72.1, .int .i64 0]) rfl (by kernel_rfl)) rfl ?_
  refine LW.st hS27 8 fun w114 hS28 => ?_
  refine LW.st hS28 7 fun w115 hS29 => ?_
  refine go ?_
  cases h
  exact And.intro trivial ⟨_, Res.two (resOne.b hS29 8 rfl ag40 rfl rfl) (resOne.b hS29 7 rfl ag62 rfl rfl), a88, c89, a90, c91, a92, c93, a94, c95, a96, c97, a98, c99, rfl, hS29.pick [1, 2, 3, 4, 5, 6] rfl rfl⟩

theorem W_i_WorldCall {w0 : World} {N : Nat} {x0 : DWorld} {x1 : Int} {x2 : Int} {x3 : DCall} {r : DWorld × DReply} (h : F_i_WorldCall N x0 x1 x2 x3 = some r) {a0_1 : Option Addr} {n0_1 c0_1 : Nat} (hn0_1 : n0_1 = x0.parts.length) (hr0_1 : rdS (Bor w0 []) w0 a0_1 c0_1 x0.parts) :
    Ret Try.prog 65 #[.agg #[.int .i64 x0.now, .slice a0_1 n0_1 c0_1], .int .i64 x1, .int .i64 x2, .agg #[.int .i64 x3.kind, .int .i64 x3.a, .int .i64 x3.b, .int .i64 x3.c, .int .i64 x3.d, .int .i64 x3.e]] w0 (fun v w => ∃ ar0_1 cr0_1, v = .tuple #[.agg #[.int .i64 r.1.now, .slice ar0_1 r.1.parts.length cr0_1], .agg #[.int .i64 r.2.code, .int .i64 r.2.val]] ∧ St w0 [] w [sl ar0_1 cr0_1 r.1.parts]) := by
  subst hn0_1
  unfold F_i_WorldCall at h
  refine Ret.fn Try.func65 fun e => ?_
  have hS1 := St.start w0
  refine go ?_
  refine LW.bo hS1 fun g1 w2 hS2 => ?_
  refine LW.bo hS2 fun g3 w4 hS3 => ?_
  refine LW.al hS3 fun g5 w6 hS4 => ?_
  refine LW.al hS4 fun g7 w8 hS5 => ?_
  refine go ?_
  replace ⟨y9, hy9, h⟩ := obind h
  refine LW.cl (W_i_copyWorld hy9 rfl (hS5.rB hr0_1)) ?_
  rintro _ w12 ⟨a10, c11, rfl, hs⟩
  have hS6 := hS5.add hs
  refine LW.al hS6 fun g13 w14 hS7 => ?_
  refine LW.st hS7 0 fun w15 hS8 => ?_
  refine gs ?_
  obtain ⟨j16, hj16, h17⟩ := obind h
  refine CW.jn [1, 2, 4, 7, 8, 9, 10] [0, 1, 2, 3, 4, 5] [(26, .bool j16)] hS8 (h1 := ?_) (h2 := ?_)
  · have h := hj16
    refine go ?_
    replace ⟨y18, hy18, h⟩ := obind h
    refine LW.c0 (W_i_WorldOk hy18 rfl (hS8.rB hr0_1)) hS8 fun w19 hS9 => ?_
    refine go ?_
    rcases bcases (!y18) with hc20 | hc20
    · replace h := bcT h hc20
      refine go ?_
      cases oi h
      exact ⟨⟨rfl, rfl, rfl, rfl, rfl, rfl, rfl, rfl, trivial⟩, hS9.pick [0, 1, 2, 3, 4, 5] rfl rfl⟩
    replace h := bcF h hc20
    refine go ?_
    replace ⟨y21, hy21, h⟩ := obind h
    refine go ?_
    refine LW.c0 (W_i_hasPart hy21 rfl (hS9.rB hr0_1)) hS9 fun w22 hS10 => ?_
    refine go ?_
    cases oi h
    exact ⟨⟨rfl, rfl, rfl, rfl, rfl, rfl, rfl, rfl, trivial⟩, hS10.pick [0, 1, 2, 3, 4, 5] rfl rfl⟩
  intro e w23 hS11
  have h := h17
  refine go ?_
  refine cd (fun hc24 => ?_) fun hc24 => ?_
  · replace h := bcT h hc24
    refine go ?_
    refine LW.u (Pur.build (vs := [(0, .int .i64 2)]) (cs := #[.int .i64 2, .int .i64 0]) rfl (by kernel_rfl)) rfl ?_
    refine LW.st hS11 3 fun w25 hS12 => ?_
    refine LW.st hS12 2 fun w26 hS13 => ?_
    refine go ?_
    cases h
    exact And.intro trivial ⟨_, Res.two (resOne.b hS13 3 rfl ag59 rfl rfl) (resOne.b hS13 2 rfl ag62 rfl rfl), a10, c11, rfl, hS13.pick [1] rfl rfl⟩
  replace h := bcF h hc24
  refine go ?_
  refine CW.draw (by kernel_rfl) ?_
  have hS14 := hS11.drew
  refine go ?_
  replace ⟨y27, hy27, h⟩ := obind h
  obtain ⟨b30, o31, cs32, hae, hb35, hp28, hq29, hd33, hk34⟩ := hr0_1.idx hy27
  subst hae
  obtain ⟨a36, c37, a39, c40, a42, c43, a45, c46, a48, c49, a51, c52, rfl, hr38, hr41, hr44, hr47, hr50, hr53⟩ := hd33
  refine AW.u (i := 3) rfl (by kernel_rfl) rfl rfl (Pur.ix Try.underlying57 sz40 rfl rfl hp28 hq29) ?_
  refine AW.take (i := 4) rfl (by kernel_rfl) rfl rfl (Ldr.oldN w0 ag40 rfl rfl (fun j u hu => hk34 j u hu)) (hS14.same _ hb35.1 hb35.2) ?_
  refine go ?_
  replace ⟨y54, hy54, h⟩ := obind h
  have q := W_i_CanCall (w0 := w23.drew) hy54 rfl (hS14.rB hr38) rfl (hS14.rB hr41) rfl (hS14.rB hr44) rfl (hS14.rB hr47) rfl (hS14.rB hr50) rfl (hS14.rB hr53)
  refine AW.one (i := 8) (by kernel_rfl) ?_
  refine ⟨_, rfl, ?_⟩
  refine LW.call pl16 rfl rfl ?_
  refine Ret.mono q ?_
  rintro _ w55 ⟨rfl, hs⟩
  have hS15 := hS14.add hs
  refine LW.nil ⟨rfl, (.w (by kernel_rfl) (.w (by kernel_rfl) (.c (St.cell (h := hS15) (i := 5) rfl) Kept.n))), ?_⟩
  refine go ?_
  refine cd (fun hc56 => ?_) fun hc56 => ?_
  · replace h := bcT h hc56
    refine go ?_
    refine LW.u (Pur.build (vs := [(0, .int .i64 1)]) (cs := #[.int .i64 1, .int .i64 0]) rfl (by kernel_rfl)) rfl ?_
    refine LW.st hS15 3 fun w57 hS16 => ?_
    refine LW.st hS16 2 fun w58 hS17 => ?_
    refine go ?_
    cases h
    exact And.intro trivial ⟨_, Res.two (resOne.b hS17 3 rfl ag59 rfl rfl) (resOne.b hS17 2 rfl ag62 rfl rfl), a10, c11, rfl, hS17.pick [1] rfl rfl⟩
  replace h := bcF h hc56
  refine go ?_
  replace ⟨y59, hy59, h⟩ := obind h
  refine LW.c0 (W_i_otherPart hy59 rfl (hS15.rB hr0_1)) hS15 fun w60 hS18 => ?_
  refine go ?_
  refine CW.fl [1, 2, 4, 7, 8, 9, 10, 11, 46] fun e => ?_
  refine cd (fun hc61 => ?_) fun hc61 => ?_
  · replace h := bcT h hc61
    refine go ?_
    refine LW.u (Pur.build (vs := [(0, .int .i64 2)]) (cs := #[.int .i64 2, .int .i64 0]) rfl (by kernel_rfl)) rfl ?_
    refine LW.st hS18 3 fun w62 hS19 => ?_
    refine LW.st hS19 2 fun w63 hS20 => ?_
    refine go ?_
    cases h
    exact And.intro trivial ⟨_, Res.two (resOne.b hS20 3 rfl ag59 rfl rfl) (resOne.b hS20 2 rfl ag62 rfl rfl), a10, c11, rfl, hS20.pick [1] rfl rfl⟩
  replace h := bcF h hc61
  refine gs ?_
  refine CW.region ?_
  refine gs ?_
  refine CW.region ?_
  refine gs ?_
  obtain ⟨o263, hj64, h65⟩ := obind h
  refine CW.cut (fun e wb => ∃ j64, o263 = .inl j64 ∧ ∃ (j64a0 : Option Addr), ∃ (j64c0 : Nat), En e [(8, .pointer (some ⟨g5, 0, none⟩)), (9, .pointer (some ⟨g7, 0, none⟩)), (10, .pointer (some ⟨g13, 0, none⟩)), (12, .int .i64 j64.1), (13, .int .i64 j64.2.1)] ∧ St w0 [] wb [bx g13 59 [.int .i64 j64.2.2.1, .slice j64a0 j64.2.2.2.length j64c0], bx g7 62 [.int .i64 0, .int .i64 0], bx g5 59 [.int .i64 0, .slice none 0 0], sl j64a0 j64c0 j64.2.2.2]) ?_ ?_
  · have h := hj64
    refine go ?_
    refine cd (fun hc66 => ?_) fun hc66 => ?_
    · replace h := bcT h hc66
      refine go ?_
      replace ⟨y67, hy67, h⟩ := obind h
      refine LW.c0 (W_i_readOther hy67 rfl (hS18.rB hr0_1)) hS18 fun w68 hS21 => ?_
      refine go ?_
      cases oi h
      exact ⟨_, rfl, ⟨a10, c11, ⟨rfl, rfl, rfl, rfl, rfl, trivial⟩, hS21.pick [0, 2, 3, 1] rfl rfl⟩⟩
    replace h := bcF h hc66
    refine go ?_
    refine cd (fun hc69 => ?_) fun hc69 => ?_
    · replace h := bcT h hc69
      refine go ?_
      replace ⟨y70, hy70, h⟩ := obind h
      obtain ⟨F71, hL72⟩ := hS18.lendI [0, 1] [2, 3, 4, 5]
      refine LW.cl (W_i_World_post hy70 hL72.st) ?_
      rintro _ w75 ⟨a73, c74, rfl, hs⟩
      have hS22 := hL72.back _ _ hs
      refine go ?_
      cases oi h
      exact ⟨_, rfl, ⟨a73, c74, ⟨rfl, rfl, rfl, rfl, rfl, trivial⟩, hS22.pick [0, 2, 3, 1] rfl rfl⟩⟩
    replace h := bcF h hc69
    refine go ?_
    refine cd (fun hc76 => ?_) fun hc76 => ?_
    · replace h := bcT h hc76
      refine go ?_
      replace ⟨y77, hy77, h⟩ := obind h
      obtain ⟨F78, hL79⟩ := hS18.lendI [0, 1] [2, 3, 4, 5]
      refine LW.cl (W_i_World_tap hy77 hL79.st) ?_
      rintro _ w82 ⟨a80, c81, rfl, hs⟩
      have hS23 := hL79.back _ _ hs
      refine go ?_
      cases oi h
      exact ⟨_, rfl, ⟨a80, c81, ⟨rfl, rfl, rfl, rfl, rfl, trivial⟩, hS23.pick [0, 2, 3, 1] rfl rfl⟩⟩
    replace h := bcF h hc76
    refine gs ?_
    obtain ⟨j83, hj83, h84⟩ := obind h
    refine CW.cut (fun e wb => ∃ (j83g14 : Nat), ∃ (j83g15 : Nat), ∃ (j83a2 : Option Addr), ∃ (j83c2 : Nat), ∃ (j83a4 : Option Addr), ∃ (j83c4 : Nat), ∃ (j83a6 : Option Addr), ∃ (j83c6 : Nat), ∃ (j83a8 : Option Addr), ∃ (j83c8 : Nat), ∃ (j83a10 : Option Addr), ∃ (j83c10 : Nat), ∃ (j83a12 : Option Addr), ∃ (j83c12 : Nat), En e [(1, .int .i64 x1), (8, .pointer (some ⟨g5, 0, none⟩)), (9, .pointer (some ⟨g7, 0, none⟩)), (10, .pointer (some ⟨g13, 0, none⟩)), (14, .pointer (some ⟨j83g14, 0, none⟩)), (15, .pointer (some ⟨j83g15, 0, none⟩))] ∧ St w0 [] wb [bx g13 59 [.int .i64 y9.now, .slice a10 y9.parts.length c11], sl a10 c11 y9.parts, bx g7 62 [.int .i64 0, .int .i64 0], bx g5 59 [.int .i64 0, .slice none 0 0], bx j83g14 40 [.slice j83a2 j83.1.length j83c2, .slice j83a4 j83.2.1.length j83c4, .slice j83a6 j83.2.2.1.length j83c6, .slice j83a8 j83.2.2.2.1.length j83c8, .int .i64 j83.2.2.2.2.1, .int .i64 j83.2.2.2.2.2.1, .int .i64 j83.2.2.2.2.2.2.1, .slice j83a10 j83.2.2.2.2.2.2.2.1.length j83c10, .slice j83a12 j83.2.2.2.2.2.2.2.2.1.length j83c12, .int .i64 j83.2.2.2.2.2.2.2.2.2.1, .int .i64 j83.2.2.2.2.2.2.2.2.2.2.1, .int .i64 j83.2.2.2.2.2.2.2.2.2.2.2.1, .int .i64 j83.2.2.2.2.2.2.2.2.2.2.2.2.1, .int .i64 j83.2.2.2.2.2.2.2.2.2.2.2.2.2.1, .int .i64 j83.2.2.2.2.2.2.2.2.2.2.2.2.2.2.1, .int .i64 j83.2.2.2.2.2.2.2.2.2.2.2.2.2.2.2.1], bx j83g15 62 [.int .i64 j83.2.2.2.2.2.2.2.2.2.2.2.2.2.2.2.2.1, .int .i64 j83.2.2.2.2.2.2.2.2.2.2.2.2.2.2.2.2.2], sl j83a2 j83c2 j83.1, sl j83a4 j83c4 j83.2.1, sl j83a6 j83c6 j83.2.2.1, sl j83a8 j83c8 j83.2.2.2.1, sl j83a10 j83c10 j83.2.2.2.2.2.2.2.1, sl j83a12 j83c12 j83.2.2.2.2.2.2.2.2.1]) ?_ ?_
    · have h := hj83
      refine CW.draw (by kernel_rfl) ?_
      have hS24 := hS18.drew
      refine go ?_
      refine AW.u (i := 3) rfl (by kernel_rfl) rfl rfl (Pur.ix Try.underlying57 sz40 rfl rfl hp28 hq29) ?_
      refine AW.take (i := 4) rfl (by kernel_rfl) rfl rfl (Ldr.oldN w0 ag40 rfl rfl (fun j u hu => hk34 j u hu)) (hS24.same _ hb35.1 hb35.2) ?_
      refine go ?_
      replace ⟨y85, hy85, h⟩ := obind h
      refine AW.all (rs := [10, 14, 15]) (by kernel_rfl) (by simp) ⟨?_, ?_, ?_, trivial⟩
      · have q := W_i_PartCall (w0 := w60.drew) hy85 rfl (hS24.rB hr38) rfl (hS24.rB hr41) rfl (hS24.rB hr44) rfl (hS24.rB hr47) rfl (hS24.rB hr50) rfl (hS24.rB hr53)
        refine ⟨_, rfl, ?_⟩
        refine LW.call pl96 rfl rfl ?_
        refine Ret.mono q ?_
        rintro _ w128 ⟨a116, c117, a118, c119, a120, c121, a122, c123, a124, c125, a126, c127, rfl, hs⟩
        have hS25 := hS24.add hs
        refine LW.nil ⟨rfl, (.w (by kernel_rfl) (.w (by kernel_rfl) (.w (by kernel_rfl) (.c (St.cell (h := hS25) (i := 11) rfl) Kept.n)))), ?_⟩
        refine AW.u (i := 11) rfl (by kernel_rfl) rfl rfl (Pur.p rfl) ?_
        refine go ?_
        refine AW.all (rs := [14, 15]) (by kernel_rfl) (by simp) ⟨?_, ?_, trivial⟩
        · refine ⟨_, rfl, ?_⟩
          refine LW.al hS25 fun g133 w134 hS26 => ?_
          refine LW.nil ⟨rfl, (.c (St.cell (h := hS26) (i := 11) rfl) (.c (St.cell (h := hS26) (i := 12) rfl) (.c (hS26.same _ hb35.1 hb35.2) (.c (St.cell (h := hS26) (i := 12) rfl) Kept.n)))), ?_⟩
          refine AW.one (i := 15) (by kernel_rfl) ?_
          refine ⟨_, rfl, ?_⟩
          refine LW.al hS26 fun g135 w136 hS27 => ?_
          refine LW.nil ⟨rfl, (.c (St.cell (h := hS27) (i := 12) rfl) (.c (St.cell (h := hS27) (i := 13) rfl) (.c (hS27.same _ hb35.1 hb35.2) (.c (St.cell (h := hS27) (i := 13) rfl) Kept.n)))), ?_⟩
          refine AW.one (i := 16) (by kernel_rfl) ?_
          refine ⟨_, rfl, ?_⟩
          refine LW.st hS27 1 fun w137 hS28 => ?_
          refine LW.nil ⟨rfl, (.w (by kernel_rfl) (.w (by kernel_rfl) (.w (by kernel_rfl) (.w (by kernel_rfl) Kept.n)))), ?_⟩
          refine AW.one (i := 17) (by kernel_rfl) ?_
          refine ⟨_, rfl, ?_⟩
          refine LW.st hS28 0 fun w138 hS29 => ?_
          refine LW.nil ⟨rfl, (.w (by kernel_rfl) (.w (by kernel_rfl) (.w (by kernel_rfl) (.w (by kernel_rfl) Kept.n)))), ?_⟩
          refine go ?_
          cases oi h
          exact ⟨g133, g135, a116, c117, a118, c119, a120, c121, a122, c123, a124, c125, a126, c127, ⟨rfl, rfl, rfl, rfl, rfl, rfl, trivial⟩, hS29.pick [8, 9, 10, 11, 1, 0, 2, 3, 4, 5, 6, 7] rfl rfl⟩
        refine ⟨_, rfl, ?_⟩
        refine LW.al hS25 fun g139 w140 hS30 => ?_
        refine LW.nil ⟨rfl, (.c (St.cell (h := hS30) (i := 11) rfl) (.c (St.cell (h := hS30) (i := 12) rfl) (.c (hS30.same _ hb35.1 hb35.2) (.c (St.cell (h := hS30) (i := 12) rfl) Kept.n)))), ?_⟩
        refine AW.one (i := 14) (by kernel_rfl) ?_
        refine ⟨_, rfl, ?_⟩
        refine LW.al hS30 fun g141 w142 hS31 => ?_
        refine LW.nil ⟨rfl, (.c (St.cell (h := hS31) (i := 12) rfl) (.c (St.cell (h := hS31) (i := 13) rfl) (.c (hS31.same _ hb35.1 hb35.2) (.c (St.cell (h := hS31) (i := 13) rfl) Kept.n)))), ?_⟩
        refine AW.one (i := 16) (by kernel_rfl) ?_
        refine ⟨_, rfl, ?_⟩
        refine LW.st hS31 0 fun w143 hS32 => ?_
        refine LW.nil ⟨rfl, (.w (by kernel_rfl) (.w (by kernel_rfl) (.w (by kernel_rfl) (.w (by kernel_rfl) Kept.n)))), ?_⟩
        refine AW.one (i := 17) (by kernel_rfl) ?_
        refine ⟨_, rfl, ?_⟩
        refine LW.st hS32 1 fun w144 hS33 => ?_
        refine LW.nil ⟨rfl, (.w (by kernel_rfl) (.w (by kernel_rfl) (.w (by kernel_rfl) (.w (by kernel_rfl) Kept.n)))), ?_⟩
        refine go ?_
        cases oi h
        exact ⟨g141, g139, a116, c117, a118, c119, a120, c121, a122, c123, a124, c125, a126, c127, ⟨rfl, rfl, rfl, rfl, rfl, rfl, trivial⟩, hS33.pick [8, 9, 10, 11, 0, 1, 2, 3, 4, 5, 6, 7] rfl rfl⟩
      · refine ⟨_, rfl, ?_⟩
        refine LW.al hS24 fun g145 w146 hS34 => ?_
        refine LW.nil ⟨rfl, (.c (St.cell (h := hS34) (i := 5) rfl) (.c (St.cell (h := hS34) (i := 6) rfl) (.c (hS34.same _ hb35.1 hb35.2) (.c (St.cell (h := hS34) (i := 6) rfl) Kept.n)))), ?_⟩
        refine AW.all (rs := [10, 15]) (by kernel_rfl) (by simp) ⟨?_, ?_, trivial⟩
        · have q := W_i_PartCall (w0 := w146) hy85 rfl (hS34.rB hr38) rfl (hS34.rB hr41) rfl (hS34.rB hr44) rfl (hS34.rB hr47) rfl (hS34.rB hr50) rfl (hS34.rB hr53)
          refine ⟨_, rfl, ?_⟩
          refine LW.call pl96 rfl rfl ?_
          refine Ret.mono q ?_
          rintro _ w174 ⟨a162, c163, a164, c165, a166, c167, a168, c169, a170, c171, a172, c173, rfl, hs⟩
          have hS35 := hS34.add hs
          refine LW.nil ⟨rfl, (.w (by kernel_rfl) (.w (by kernel_rfl) (.w (by kernel_rfl) (.c (St.cell (h := hS35) (i := 12) rfl) Kept.n)))), ?_⟩
          refine AW.u (i := 11) rfl (by kernel_rfl) rfl rfl (Pur.p rfl) ?_
          refine go ?_
          refine AW.one (i := 15) (by kernel_rfl) ?_
          refine ⟨_, rfl, ?_⟩
          refine LW.al hS35 fun g175 w176 hS36 => ?_
          refine LW.nil ⟨rfl, (.c (St.cell (h := hS36) (i := 12) rfl) (.c (St.cell (h := hS36) (i := 13) rfl) (.c (hS36.same _ hb35.1 hb35.2) (.c (St.cell (h := hS36) (i := 13) rfl) Kept.n)))), ?_⟩
          refine AW.one (i := 16) (by kernel_rfl) ?_
          refine ⟨_, rfl, ?_⟩
          refine LW.st hS36 7 fun w177 hS37 => ?_
          refine LW.nil ⟨rfl, (.w (by kernel_rfl) (.w (by kernel_rfl) (.w (by kernel_rfl) (.w (by kernel_rfl) Kept.n)))), ?_⟩
          refine AW.one (i := 17) (by kernel_rfl) ?_
          refine ⟨_, rfl, ?_⟩
          refine LW.st hS37 0 fun w178 hS38 => ?_
          refine LW.nil ⟨rfl, (.w (by kernel_rfl) (.w (by kernel_rfl) (.w (by kernel_rfl) (.w (by kernel_rfl) Kept.n)))), ?_⟩
          refine go ?_
          cases oi h
          exact ⟨g145, g175, a162, c163, a164, c165, a166, c167, a168, c169, a170, c171, a172, c173, ⟨rfl, rfl, rfl, rfl, rfl, rfl, trivial⟩, hS38.pick [8, 9, 10, 11, 7, 0, 1, 2, 3, 4, 5, 6] rfl rfl⟩
        refine ⟨_, rfl, ?_⟩
        refine LW.al hS34 fun g179 w180 hS39 => ?_
        refine LW.nil ⟨rfl, (.c (St.cell (h := hS39) (i := 6) rfl) (.c (St.cell (h := hS39) (i := 7) rfl) (.c (hS39.same _ hb35.1 hb35.2) (.c (St.cell (h := hS39) (i := 7) rfl) Kept.n)))), ?_⟩
        have q := W_i_PartCall (w0 := w180) hy85 rfl (hS39.rB hr38) rfl (hS39.rB hr41) rfl (hS39.rB hr44) rfl (hS39.rB hr47) rfl (hS39.rB hr50) rfl (hS39.rB hr53)
        refine AW.one (i := 10) (by kernel_rfl) ?_
        refine ⟨_, rfl, ?_⟩
        refine LW.call pl96 rfl rfl ?_
        refine Ret.mono q ?_
        rintro _ w193 ⟨a181, c182, a183, c184, a185, c186, a187, c188, a189, c190, a191, c192, rfl, hs⟩
        have hS40 := hS39.add hs
        refine LW.nil ⟨rfl, (.w (by kernel_rfl) (.w (by kernel_rfl) (.w (by kernel_rfl) (.c (St.cell (h := hS40) (i := 13) rfl) Kept.n)))), ?_⟩
        refine go ?_
        refine AW.one (i := 16) (by kernel_rfl) ?_
        refine ⟨_, rfl, ?_⟩
        refine LW.st hS40 7 fun w194 hS41 => ?_
        refine LW.nil ⟨rfl, (.w (by kernel_rfl) (.w (by kernel_rfl) (.w (by kernel_rfl) (.w (by kernel_rfl) Kept.n)))), ?_⟩
        refine AW.one (i := 17) (by kernel_rfl) ?_
        refine ⟨_, rfl, ?_⟩
        refine LW.st hS41 6 fun w195 hS42 => ?_
        refine LW.nil ⟨rfl, (.w (by kernel_rfl) (.w (by kernel_rfl) (.w (by kernel_rfl) (.w (by kernel_rfl) Kept.n)))), ?_⟩
        refine go ?_
        cases oi h
        exact ⟨g145, g179, a181, c182, a183, c184, a185, c186, a187, c188, a189, c190, a191, c192, ⟨rfl, rfl, rfl, rfl, rfl, rfl, trivial⟩, hS42.pick [8, 9, 10, 11, 7, 6, 0, 1, 2, 3, 4, 5] rfl rfl⟩
      refine ⟨_, rfl, ?_⟩
      refine LW.al hS24 fun g196 w197 hS43 => ?_
      refine LW.nil ⟨rfl, (.c (St.cell (h := hS43) (i := 5) rfl) (.c (St.cell (h := hS43) (i := 6) rfl) (.c (hS43.same _ hb35.1 hb35.2) (.c (St.cell (h := hS43) (i := 6) rfl) Kept.n)))), ?_⟩
      refine AW.all (rs := [10, 14]) (by kernel_rfl) (by simp) ⟨?_, ?_, trivial⟩
      · have q := W_i_PartCall (w0 := w197) hy85 rfl (hS43.rB hr38) rfl (hS43.rB hr41) rfl (hS43.rB hr44) rfl (hS43.rB hr47) rfl (hS43.rB hr50) rfl (hS43.rB hr53)
        refine ⟨_, rfl, ?_⟩
        refine LW.call pl96 rfl rfl ?_
        refine Ret.mono q ?_
        rintro _ w225 ⟨a213, c214, a215, c216, a217, c218, a219, c220, a221, c222, a223, c224, rfl, hs⟩
        have hS44 := hS43.add hs
        refine LW.nil ⟨rfl, (.w (by kernel_rfl) (.w (by kernel_rfl) (.w (by kernel_rfl) (.c (St.cell (h := hS44) (i := 12) rfl) Kept.n)))), ?_⟩
        refine AW.u (i := 11) rfl (by kernel_rfl) rfl rfl (Pur.p rfl) ?_
        refine go ?_
        refine AW.one (i := 14) (by kernel_rfl) ?_
        refine ⟨_, rfl, ?_⟩
        refine LW.al hS44 fun g226 w227 hS45 => ?_
        refine LW.nil ⟨rfl, (.c (St.cell (h := hS45) (i := 12) rfl) (.c (St.cell (h := hS45) (i := 13) rfl) (.c (hS45.same _ hb35.1 hb35.2) (.c (St.cell (h := hS45) (i := 13) rfl) Kept.n)))), ?_⟩
        refine AW.one (i := 16) (by kernel_rfl) ?_
        refine ⟨_, rfl, ?_⟩
        refine LW.st hS45 0 fun w228 hS46 => ?_
        refine LW.nil ⟨rfl, (.w (by kernel_rfl) (.w (by kernel_rfl) (.w (by kernel_rfl) (.w (by kernel_rfl) Kept.n)))), ?_⟩
        refine AW.one (i := 17) (by kernel_rfl) ?_
        refine ⟨_, rfl, ?_⟩
        refine LW.st hS46 7 fun w229 hS47 => ?_
        refine LW.nil ⟨rfl, (.w (by kernel_rfl) (.w (by kernel_rfl) (.w (by kernel_rfl) (.w (by kernel_rfl) Kept.n)))), ?_⟩
        refine go ?_
        cases oi h
        exact ⟨g226, g196, a213, c214, a215, c216, a217, c218, a219, c220, a221, c222, a223, c224, ⟨rfl, rfl, rfl, rfl, rfl, rfl, trivial⟩, hS47.pick [8, 9, 10, 11, 0, 7, 1, 2, 3, 4, 5, 6] rfl rfl⟩
      refine ⟨_, rfl, ?_⟩
      refine LW.al hS43 fun g230 w231 hS48 => ?_
      refine LW.nil ⟨rfl, (.c (St.cell (h := hS48) (i := 6) rfl) (.c (St.cell (h := hS48) (i := 7) rfl) (.c (hS48.same _ hb35.1 hb35.2) (.c (St.cell (h := hS48) (i := 7) rfl) Kept.n)))), ?_⟩
      have q := W_i_PartCall (w0 := w231) hy85 rfl (hS48.rB hr38) rfl (hS48.rB hr41) rfl (hS48.rB hr44) rfl (hS48.rB hr47) rfl (hS48.rB hr50) rfl (hS48.rB hr53)
      refine AW.one (i := 10) (by kernel_rfl) ?_
      refine ⟨_, rfl, ?_⟩
      refine LW.call pl96 rfl rfl ?_
      refine Ret.mono q ?_
      rintro _ w244 ⟨a232, c233, a234, c235, a236, c237, a238, c239, a240, c241, a242, c243, rfl, hs⟩
      have hS49 := hS48.add hs
      refine LW.nil ⟨rfl, (.w (by kernel_rfl) (.w (by kernel_rfl) (.w (by kernel_rfl) (.c (St.cell (h := hS49) (i := 13) rfl) Kept.n)))), ?_⟩
      refine go ?_
      refine AW.one (i := 16) (by kernel_rfl) ?_
      refine ⟨_, rfl, ?_⟩
      refine LW.st hS49 6 fun w245 hS50 => ?_
      refine LW.nil ⟨rfl, (.w (by kernel_rfl) (.w (by kernel_rfl) (.w (by kernel_rfl) (.w (by kernel_rfl) Kept.n)))), ?_⟩
      refine AW.one (i := 17) (by kernel_rfl) ?_
      refine ⟨_, rfl, ?_⟩
      refine LW.st hS50 7 fun w246 hS51 => ?_
      refine LW.nil ⟨rfl, (.w (by kernel_rfl) (.w (by kernel_rfl) (.w (by kernel_rfl) (.w (by kernel_rfl) Kept.n)))), ?_⟩
      refine go ?_
      cases oi h
      exact ⟨g230, g196, a232, c233, a234, c235, a236, c237, a238, c239, a240, c241, a242, c243, ⟨rfl, rfl, rfl, rfl, rfl, rfl, trivial⟩, hS51.pick [8, 9, 10, 11, 6, 7, 0, 1, 2, 3, 4, 5] rfl rfl⟩
    rintro e w247 ⟨j83g14, j83g15, j83a2, j83c2, j83a4, j83c4, j83a6, j83c6, j83a8, j83c8, j83a10, j83c10, j83a12, j83c12, hE, hS52⟩
    obtain ⟨e, rfl⟩ := hE.out
    have h := h84
    refine go ?_
    replace ⟨y248, hy248, h⟩ := obind h
    obtain ⟨b251, o252, hae, hp249, hq250⟩ := hS52.ownIdx (α := DPart) (i := 1) rfl hy248
    subst hae
    refine LW.u (Pur.ix Try.underlying57 sz40 rfl rfl hp249 hq250) rfl ?_
    have hS53 := hS52.pick (M := [sl j83a2 j83c2 j83.1, sl j83a4 j83c4 j83.2.1, sl j83a6 j83c6 j83.2.2.1, sl j83a8 j83c8 j83.2.2.2.1, sl j83a10 j83c10 j83.2.2.2.2.2.2.2.1, sl j83a12 j83c12 j83.2.2.2.2.2.2.2.2.1] ++ [bx g13 59 [.int .i64 y9.now, .slice (some ⟨b251, o252, none⟩) y9.parts.length c11], sl (some ⟨b251, o252, none⟩) c11 y9.parts, bx g7 62 [.int .i64 0, .int .i64 0], bx g5 59 [.int .i64 0, .slice none 0 0], bx j83g14 40 [.slice j83a2 j83.1.length j83c2, .slice j83a4 j83.2.1.length j83c4, .slice j83a6 j83.2.2.1.length j83c6, .slice j83a8 j83.2.2.2.1.length j83c8, .int .i64 j83.2.2.2.2.1, .int .i64 j83.2.2.2.2.2.1, .int .i64 j83.2.2.2.2.2.2.1, .slice j83a10 j83.2.2.2.2.2.2.2.1.length j83c10, .slice j83a12 j83.2.2.2.2.2.2.2.2.1.length j83c12, .int .i64 j83.2.2.2.2.2.2.2.2.2.1, .int .i64 j83.2.2.2.2.2.2.2.2.2.2.1, .int .i64 j83.2.2.2.2.2.2.2.2.2.2.2.1, .int .i64 j83.2.2.2.2.2.2.2.2.2.2.2.2.1, .int .i64 j83.2.2.2.2.2.2.2.2.2.2.2.2.2.1, .int .i64 j83.2.2.2.2.2.2.2.2.2.2.2.2.2.2.1, .int .i64 j83.2.2.2.2.2.2.2.2.2.2.2.2.2.2.2.1], bx j83g15 62 [.int .i64 j83.2.2.2.2.2.2.2.2.2.2.2.2.2.2.2.2.1, .int .i64 j83.2.2.2.2.2.2.2.2.2.2.2.2.2.2.2.2.2]]) [6, 7, 8, 9, 10, 11, 0, 1, 2, 3, 4, 5] rfl rfl
    replace ⟨y253, hy253, h⟩ := obind h
    refine LW.stE (M := [sl j83a2 j83c2 j83.1, sl j83a4 j83c4 j83.2.1, sl j83a6 j83c6 j83.2.2.1, sl j83a8 j83c8 j83.2.2.2.1, sl j83a10 j83c10 j83.2.2.2.2.2.2.2.1, sl j83a12 j83c12 j83.2.2.2.2.2.2.2.2.1]) (L := [bx g13 59 [.int .i64 y9.now, .slice (some ⟨b251, o252, none⟩) y9.parts.length c11], sl (some ⟨b251, o252, none⟩) c11 y9.parts, bx g7 62 [.int .i64 0, .int .i64 0], bx g5 59 [.int .i64 0, .slice none 0 0], bx j83g14 40 [.slice j83a2 j83.1.length j83c2, .slice j83a4 j83.2.1.length j83c4, .slice j83a6 j83.2.2.1.length j83c6, .slice j83a8 j83.2.2.2.1.length j83c8, .int .i64 j83.2.2.2.2.1, .int .i64 j83.2.2.2.2.2.1, .int .i64 j83.2.2.2.2.2.2.1, .slice j83a10 j83.2.2.2.2.2.2.2.1.length j83c10, .slice j83a12 j83.2.2.2.2.2.2.2.2.1.length j83c12, .int .i64 j83.2.2.2.2.2.2.2.2.2.1, .int .i64 j83.2.2.2.2.2.2.2.2.2.2.1, .int .i64 j83.2.2.2.2.2.2.2.2.2.2.2.1, .int .i64 j83.2.2.2.2.2.2.2.2.2.2.2.2.1, .int .i64 j83.2.2.2.2.2.2.2.2.2.2.2.2.2.1, .int .i64 j83.2.2.2.2.2.2.2.2.2.2.2.2.2.2.1, .int .i64 j83.2.2.2.2.2.2.2.2.2.2.2.2.2.2.2.1], bx j83g15 62 [.int .i64 j83.2.2.2.2.2.2.2.2.2.2.2.2.2.2.2.2.1, .int .i64 j83.2.2.2.2.2.2.2.2.2.2.2.2.2.2.2.2.2]]) (z := y248) (z' := (DPart.mk (DLabel.mk j83.1) j83.2.1 j83.2.2.1 (DHeap.mk j83.2.2.2.1 (DGc.mk j83.2.2.2.2.1 j83.2.2.2.2.2.1 j83.2.2.2.2.2.2.1 j83.2.2.2.2.2.2.2.1)) j83.2.2.2.2.2.2.2.2.1 j83.2.2.2.2.2.2.2.2.2.1 j83.2.2.2.2.2.2.2.2.2.2.1 (DAmt.mk j83.2.2.2.2.2.2.2.2.2.2.2.1 j83.2.2.2.2.2.2.2.2.2.2.2.2.1 j83.2.2.2.2.2.2.2.2.2.2.2.2.2.1) j83.2.2.2.2.2.2.2.2.2.2.2.2.2.2.1 j83.2.2.2.2.2.2.2.2.2.2.2.2.2.2.2.1)) (o := 0) hS53 (i := 1) rfl hy248 ag40 rfl (by show _ = o252 + (x1 : Int).toNat * 16 + 0; omega) rfl rfl rfl rfl (whole (fun w G hG => ⟨j83a2, j83c2, j83a4, j83c4, j83a6, j83c6, j83a8, j83c8, j83a10, j83c10, j83a12, j83c12, rfl, hG⟩)) ?_
    intro w254 hS54 hf
    rw [Option.some.inj hy253] at hS54
    refine go ?_
    refine CW.draw (by kernel_rfl) ?_
    have hS55 := hS54.drew
    refine go ?_
    refine AW.one (i := 2) (by kernel_rfl) ?_
    refine ⟨_, rfl, ?_⟩
    refine LW.st hS55 3 fun w255 hS56 => ?_
    refine LW.nil ⟨rfl, (.c (St.cell (h := hS56) (i := 5) rfl) (.w (by kernel_rfl) Kept.n)), ?_⟩
    refine AW.one (i := 3) (by kernel_rfl) ?_
    refine ⟨_, rfl, ?_⟩
    refine LW.st hS56 2 fun w256 hS57 => ?_
    refine LW.nil ⟨rfl, (.w (by kernel_rfl) (.w (by kernel_rfl) Kept.n)), ?_⟩
    refine go ?_
    cases h
    have h := h65
    cases h
    rw [show y9.parts.length = y253.length from (len_set (Option.some.inj hy253))] at hS57
    exact And.intro trivial ⟨_, Res.two (resOne.b hS57 3 rfl ag59 rfl rfl) (resOne.b hS57 2 rfl ag62 rfl rfl), (some ⟨b251, o252, none⟩), c11, rfl, hS57.pick [1] rfl rfl⟩
  rintro e w257 ⟨j64, rfl, hM⟩
  obtain ⟨j64a0, j64c0, hE, hS58⟩ := hM
  obtain ⟨e, rfl⟩ := hE.out
  have h := h65
  refine go ?_
  refine cd (fun hc258 => ?_) fun hc258 => ?_
  · replace h := bcT h hc258
    refine go ?_
    refine LW.u (Pur.build (vs := [(0, .int .i64 j64.1)]) (cs := #[.int .i64 j64.1, .int .i64 0]) rfl (by kernel_rfl)) rfl ?_
    refine LW.st hS58 2 fun w259 hS59 => ?_
    refine LW.st hS59 1 fun w260 hS60 => ?_
    refine go ?_
    cases h
    exact And.intro trivial ⟨_, Res.two (resOne.b hS60 2 rfl ag59 rfl rfl) (resOne.b hS60 1 rfl ag62 rfl rfl), j64a0, j64c0, rfl, hS60.pick [3] rfl rfl⟩
  replace h := bcF h hc258
  refine go ?_
  refine LW.u (Pur.build (vs := [(1, .int .i64 j64.2.1)]) (cs := #[.int .i64 0, .int .i64 j64.2.1]) rfl (by kernel_rfl)) rfl ?_
  refine LW.st hS58 2 fun w261 hS61 => ?_
  refine LW.st hS61 1 fun w262 hS62 => ?_
  refine go ?_
  cases h
  exact And.intro trivial ⟨_, Res.two (resOne.b hS62 2 rfl ag59 rfl rfl) (resOne.b hS62 1 rfl ag62 rfl rfl), j64a0, j64c0, rfl, hS62.pick [3] rfl rfl⟩

theorem W_l_do {w0 : World} {N : Nat} {x0 : DWorld} {x1 : Int} {x2 : Int} {x3 : List DCall} {r : DWorld × DReply} (h : F_l_do N x0 x1 x2 x3 = some r) {a0_1 : Option Addr} {n0_1 c0_1 : Nat} (hn0_1 : n0_1 = x0.parts.length) (hr0_1 : rdS (Bor w0 []) w0 a0_1 c0_1 x0.parts) {a3_0 : Option Addr} {n3_0 c3_0 : Nat} (hn3_0 : n3_0 = x3.length) (hr3_0 : rdS (Bor w0 []) w0 a3_0 c3_0 x3) :
    Ret Try.prog 24 #[.agg #[.int .i64 x0.now, .slice a0_1 n0_1 c0_1], .int .i64 x1, .int .i64 x2, .slice a3_0 n3_0 c3_0] w0 (fun v w => ∃ ar0_1 cr0_1, v = .tuple #[.agg #[.int .i64 r.1.now, .slice ar0_1 r.1.parts.length cr0_1], .agg #[.int .i64 r.2.code, .int .i64 r.2.val]] ∧ St w0 [] w [sl ar0_1 cr0_1 r.1.parts]) := by
  subst hn0_1 hn3_0
  unfold F_l_do at h
  refine Ret.fn Try.func24 fun e => ?_
  have hS1 := St.start w0
  refine go ?_
  refine LW.bo hS1 fun g1 w2 hS2 => ?_
  refine LW.al hS2 fun g3 w4 hS3 => ?_
  refine LW.al hS3 fun g5 w6 hS4 => ?_
  refine go ?_
  refine LW.u (Pur.build (vs := []) (cs := #[.int .i64 0, .int .i64 0]) rfl (by kernel_rfl)) rfl ?_
  refine LW.al hS4 fun g7 w8 hS5 => ?_
  refine LW.st hS5 0 fun w9 hS6 => ?_
  refine go ?_
  refine CW.peel (N := N) ?_
  refine go ?_
  refine cd (fun hc10 => ?_) fun hc10 => ?_
  · replace h := bcT h hc10
    refine go ?_
    refine CW.draw (by kernel_rfl) ?_
    have hS7 := hS6.drew
    refine go ?_
    replace ⟨y11, hy11, h⟩ := obind h
    obtain ⟨b14, o15, cs16, hae, hb19, hp12, hq13, hd17, hk18⟩ := hr3_0.idx hy11
    subst hae
    obtain rfl := hd17
    refine AW.u (i := 5) rfl (by kernel_rfl) rfl rfl (Pur.ix Try.underlying68 sz67 rfl rfl hp12 hq13) ?_
    refine AW.take (i := 6) rfl (by kernel_rfl) rfl rfl (Ldr.oldN w0 ag67 rfl rfl (fun j u hu => hk18 j u hu)) (hS7.same _ hb19.1 hb19.2) ?_
    replace ⟨y20, hy20, h⟩ := obind h
    have q := W_i_WorldCall (w0 := w9.drew) hy20 rfl (hS7.rB hr0_1)
    refine AW.one (i := 7) (by kernel_rfl) ?_
    refine ⟨_, rfl, ?_⟩
    refine LW.call pl65 rfl rfl ?_
    refine Ret.mono q ?_
    rintro _ w23 ⟨a21, c22, rfl, hs⟩
    have hS8 := hS7.add hs
    refine LW.nil ⟨rfl, (.w (by kernel_rfl) (.w (by kernel_rfl) Kept.n)), ?_⟩
    refine go ?_
    refine AW.one (i := 11) (by kernel_rfl) ?_
    refine ⟨_, rfl, ?_⟩
    refine LW.st hS8 4 fun w24 hS9 => ?_
    refine LW.nil ⟨rfl, (.w (by kernel_rfl) (.w (by kernel_rfl) Kept.n)), ?_⟩
    refine AW.one (i := 12) (by kernel_rfl) ?_
    refine ⟨_, rfl, ?_⟩
    refine LW.st hS9 1 fun w25 hS10 => ?_
    refine LW.nil ⟨rfl, (.w (by kernel_rfl) (.w (by kernel_rfl) Kept.n)), ?_⟩
    refine go ?_
    show CR _ _ _ _ _ _ _
    obtain ⟨o44, ho44, h45⟩ := obind h
    refine CR.mono (CR.iter (σ := Int × Int × (List DPart) × Int × Int) (ρ := Int × Int × (List DPart) × Int × Int) (fun s26 e wb => ∃ (s26a0 : Option Addr), ∃ (s26c0 : Nat), En e [(1, .int .i64 x1), (2, .int .i64 x2), (3, .slice (some ⟨b14, o15, none⟩) x3.length c3_0), (4, .pointer (some ⟨g1, 0, none⟩)), (8, .pointer (some ⟨g3, 0, none⟩)), (9, .pointer (some ⟨g5, 0, none⟩)), (10, .pointer (some ⟨g7, 0, none⟩)), (11, .int .i64 s26.1)] ∧ St w0 [] wb [bx g7 62 [.int .i64 s26.2.2.2.1, .int .i64 s26.2.2.2.2], bx g5 62 [.int .i64 0, .int .i64 0], bx g3 59 [.int .i64 0, .slice none 0 0], bx g1 59 [.int .i64 s26.2.1, .slice s26a0 s26.2.2.1.length s26c0], sl s26a0 s26c0 s26.2.2.1]) (fun s26 x e wb => x = .exit 0 ∧ ∃ (s26a0 : Option Addr), ∃ (s26c0 : Nat), En e [(4, .pointer (some ⟨g1, 0, none⟩)), (8, .pointer (some ⟨g3, 0, none⟩)), (9, .pointer (some ⟨g5, 0, none⟩)), (10, .pointer (some ⟨g7, 0, none⟩))] ∧ St w0 [] wb [bx g7 62 [.int .i64 s26.2.2.2.1, .int .i64 s26.2.2.2.2], bx g5 62 [.int .i64 0, .int .i64 0], bx g3 59 [.int .i64 0, .slice none 0 0], bx g1 59 [.int .i64 s26.2.1, .slice s26a0 s26.2.2.1.length s26c0], sl s26a0 s26c0 s26.2.2.1]) ?_ N (IntKind.i64.wrap (0 + 1), y20.1.now, y20.1.parts, y20.2.code, y20.2.val) _ _ _ ⟨a21, c22, ⟨rfl, rfl, rfl, rfl, rfl, rfl, rfl, rfl, trivial⟩, hS10.pick [1, 2, 3, 4, 0] rfl rfl⟩ ho44) ?_
    · intro s26 e w27 o hM h
      obtain ⟨s26a0, s26c0, hE, hS11⟩ := hM
      obtain ⟨e, rfl⟩ := hE.out
      refine go ?_
      refine CW.fl [1, 2, 3, 4, 8, 9, 10, 11, 16] fun e => ?_
      refine cd (fun hc28 => ?_) fun hc28 => ?_
      · replace h := bcT h hc28
        refine go ?_
        refine CW.draw (by kernel_rfl) ?_
        have hS12 := hS11.drew
        refine go ?_
        replace ⟨y29, hy29, h⟩ := obind h
        obtain ⟨b32, o33, cs34, hae, hb37, hp30, hq31, hd35, hk36⟩ := hr3_0.idx hy29
        cases hae
        obtain rfl := hd35
        refine AW.u (i := 5) rfl (by kernel_rfl) rfl rfl (Pur.ix Try.underlying68 sz67 rfl rfl hp30 hq31) ?_
        refine AW.take (i := 6) rfl (by kernel_rfl) rfl rfl (Ldr.oldN w0 ag67 rfl rfl (fun j u hu => hk36 j u hu)) (hS12.same _ hb37.1 hb37.2) ?_
        replace ⟨y38, hy38, h⟩ := obind h
        have q := W_i_WorldCall (w0 := w27.drew) hy38 rfl (hS12.rI 4 rfl)
        refine AW.one (i := 7) (by kernel_rfl) ?_
        refine ⟨_, rfl, ?_⟩
        refine LW.call pl65 rfl rfl ?_
        refine Ret.mono q ?_
        rintro _ w41 ⟨a39, c40, rfl, hs⟩
        have hS13 := hS12.add hs
        refine LW.nil ⟨rfl, (.w (by kernel_rfl) (.w (by kernel_rfl) Kept.n)), ?_⟩
        refine go ?_
        refine AW.one (i := 11) (by kernel_rfl) ?_
        refine ⟨_, rfl, ?_⟩
        refine LW.st hS13 4 fun w42 hS14 => ?_
        refine LW.nil ⟨rfl, (.w (by kernel_rfl) (.w (by kernel_rfl) Kept.n)), ?_⟩
        refine AW.one (i := 12) (by kernel_rfl) ?_
        refine ⟨_, rfl, ?_⟩
        refine LW.st hS14 1 fun w43 hS15 => ?_
        refine LW.nil ⟨rfl, (.w (by kernel_rfl) (.w (by kernel_rfl) Kept.n)), ?_⟩
        refine go ?_
        cases oi h
        exact ⟨rfl, ⟨a39, c40, ⟨rfl, rfl, rfl, rfl, rfl, rfl, rfl, rfl, trivial⟩, hS15.pick [1, 2, 3, 4, 0] rfl rfl⟩⟩
      replace h := bcF h hc28
      refine go ?_
      cases oi h
      exact ⟨trivial, rfl, ⟨s26a0, s26c0, ⟨rfl, rfl, rfl, rfl, trivial⟩, hS11.pick [0, 1, 2, 3, 4] rfl rfl⟩⟩
    intro x e w46 hM
    obtain ⟨rfl, hM⟩ := hM
    obtain ⟨s26a0, s26c0, hE, hS16⟩ := hM
    obtain ⟨e, rfl⟩ := hE.out
    have h := h45
    refine go ?_
    refine CW.draw (by kernel_rfl) ?_
    have hS17 := hS16.drew
    refine go ?_
    refine AW.one (i := 2) (by kernel_rfl) ?_
    refine ⟨_, rfl, ?_⟩
    refine LW.st hS17 2 fun w47 hS18 => ?_
    refine LW.nil ⟨rfl, (.c (St.cell (h := hS18) (i := 0) rfl) (.w (by kernel_rfl) Kept.n)), ?_⟩
    refine AW.one (i := 3) (by kernel_rfl) ?_
    refine ⟨_, rfl, ?_⟩
    refine LW.st hS18 1 fun w48 hS19 => ?_
    refine LW.nil ⟨rfl, (.w (by kernel_rfl) (.w (by kernel_rfl) Kept.n)), ?_⟩
    refine go ?_
    cases h
    exact And.intro trivial ⟨_, Res.two (resOne.b hS19 2 rfl ag59 rfl rfl) (resOne.b hS19 1 rfl ag62 rfl rfl), s26a0, s26c0, rfl, hS19.pick [4] rfl rfl⟩
  replace h := bcF h hc10
  refine go ?_
  cases h

end Go.Kx
