/- Each call returns what the plain function says. Printed by drive.py. -/
import Derived.Test.YtljikolgijlbeaaFa
import Derived.Test.YtljikolgijlbeaaPu
import Derived.Test.YtljikolgijlbeaaWa0
import Derived.Test.YtljikolgijlbeaaWa2
import Derived.Test.YtljikolgijlbeaaWa8
import Derived.Test.YtljikolgijlbeaaWa9
import Derived.Test.YtljikolgijlbeaaWa10
import Derived.Test.YtljikolgijlbeaaWa11
namespace Go.Kx
open Go Go.RowKit Go.Proofs
set_option maxRecDepth 10000
set_option maxHeartbeats 8000000
set_option linter.unusedVariables false
set_option linter.unusedSimpArgs false
theorem W_i_caller_renew {w0 : World} {F : List Nat} {N : Nat} {x0 : DCaller} {x1 : DCall} {r : Int × DCaller} (h : F_i_caller_renew N x0 x1 = some r) {g0 : Nat} {a0_0 : Option Addr} {c0_0 : Nat} (hr0_0 : rdS (Bor w0 F) w0 a0_0 c0_0 x0.part.label.levels) {a0_1 : Option Addr} {c0_1 : Nat} (hr0_1 : rdS (Bor w0 F) w0 a0_1 c0_1 x0.part.own) {a0_2 : Option Addr} {c0_2 : Nat} {a0_3 : Option Addr} {c0_3 : Nat} {a0_7 : Option Addr} {c0_7 : Nat} (hr0_7 : rdS (Bor w0 F) w0 a0_7 c0_7 x0.part.heap.gc.grey) {a0_8 : Option Addr} {c0_8 : Nat} (hr0_8 : rdS (Bor w0 F) w0 a0_8 c0_8 x0.part.taps) (hS : St w0 F w0 [bx g0 140 [.slice a0_0 x0.part.label.levels.length c0_0, .slice a0_1 x0.part.own.length c0_1, .slice a0_2 x0.part.tree.length c0_2, .slice a0_3 x0.part.heap.arena.length c0_3, .int .i64 x0.part.heap.gc.phase, .int .i64 x0.part.heap.gc.pos, .int .i64 x0.part.heap.gc.round, .slice a0_7 x0.part.heap.gc.grey.length c0_7, .slice a0_8 x0.part.taps.length c0_8, .int .i64 x0.part.next, .int .i64 x0.part.want, .int .i64 x0.part.spent.pages, .int .i64 x0.part.spent.rent, .int .i64 x0.part.spent.cpu, .int .i64 x0.part.press, .int .i64 x0.part.lost, .int .i64 x0.me, .int .i64 x0.now, .int .i64 x0.thread], sl a0_2 c0_2 x0.part.tree, sl a0_3 c0_3 x0.part.heap.arena]) :
    Ret Try.prog 119 #[.pointer (some ⟨g0, 0, none⟩), .agg #[.int .i64 x1.kind, .int .i64 x1.a, .int .i64 x1.b, .int .i64 x1.c, .int .i64 x1.d, .int .i64 x1.e]] w0 (fun v w => ∃ ab0_2 cb0_2, ∃ ab0_3 cb0_3, v = .int .i64 r.1 ∧ St w0 F w [bx g0 140 [.slice a0_0 x0.part.label.levels.length c0_0, .slice a0_1 x0.part.own.length c0_1, .slice ab0_2 r.2.part.tree.length cb0_2, .slice ab0_3 r.2.part.heap.arena.length cb0_3, .int .i64 r.2.part.heap.gc.phase, .int .i64 r.2.part.heap.gc.pos, .int .i64 r.2.part.heap.gc.round, .slice a0_7 x0.part.heap.gc.grey.length c0_7, .slice a0_8 x0.part.taps.length c0_8, .int .i64 r.2.part.next, .int .i64 r.2.part.want, .int .i64 r.2.part.spent.pages, .int .i64 r.2.part.spent.rent, .int .i64 r.2.part.spent.cpu, .int .i64 r.2.part.press, .int .i64 r.2.part.lost, .int .i64 r.2.me, .int .i64 r.2.now, .int .i64 r.2.thread], sl ab0_2 cb0_2 r.2.part.tree, sl ab0_3 cb0_3 r.2.part.heap.arena]) := by
  unfold F_i_caller_renew at h
  refine Ret.fn Try.func119 fun e => ?_
  refine go ?_
  refine LW.bo hS fun g1 w2 hS1 => ?_
  refine go ?_
  replace ⟨y3, hy3, h⟩ := obind h
  obtain ⟨F4, hL5⟩ := hS1.lendI [1] [0, 2, 3]
  refine LW.cl (W_i_caller_slot hy3 (hL5.rB hr0_0) (hL5.rB hr0_1) (hL5.rI 1 rfl) (hL5.rI 2 rfl) (hL5.rB hr0_7) (hL5.rB hr0_8) hL5.st) ?_
  rintro _ w6 ⟨rfl, hs⟩
  have hS2 := hL5.back _ _ hs
  refine go ?_
  refine CW.fl [0, 3, 5, 6, 16] fun e => ?_
  refine cd (fun hc7 => ?_) fun hc7 => ?_
  · replace h := bcT h hc7
    refine go ?_
    replace h := Option.some.inj h
    subst h
    exact And.intro trivial ⟨_, Res.one (resOne.t rfl), a0_2, c0_2, a0_3, c0_3, rfl, hS2.pick [0, 2, 3] rfl rfl⟩
  replace h := bcF h hc7
  refine go ?_
  refine LW.u (Pur.nc rfl) rfl ?_
  refine go ?_
  replace ⟨y8, hy8, h⟩ := obind h
  obtain ⟨b11, o12, hae, hp9, hq10⟩ := hS2.ownIdx (α := DObj) (i := 3) rfl hy8
  subst hae
  refine LW.u (Pur.ix Try.underlying33 sz84 rfl rfl hp9 hq10) rfl ?_
  refine gs ?_
  obtain ⟨j13, hj13, h14⟩ := obind h
  refine CW.jn [0, 3, 7] [0, 1, 2, 3] [(43, .bool j13)] hS2 (h1 := ?_) (h2 := ?_)
  · have h := hj13
    refine CW.draw (by kernel_rfl) ?_
    have hS3 := hS2.drew
    refine go ?_
    rcases bcases (y3.1 == 0) with hc15 | hc15
    · replace h := bcT h hc15
      refine go ?_
      cases oi h
      exact ⟨⟨rfl, rfl, rfl, rfl, trivial⟩, hS3.pick [0, 1, 2, 3] rfl rfl⟩
    replace h := bcF h hc15
    refine go ?_
    replace ⟨y16, hy16, h⟩ := obind h
    have q := W_i_within (w0 := w6.drew) hy16
    refine AW.one (i := 5) (by kernel_rfl) ?_
    refine ⟨_, rfl, ?_⟩
    refine (LW.gY (want_of rfl rfl hc15) ?_)
    refine LW.call pl52 rfl rfl ?_
    refine Ret.mono q ?_
    rintro _ w17 ⟨rfl, hs⟩
    have hS4 := hS3.add hs
    refine LW.nil ⟨rfl, (.w (by kernel_rfl) Kept.n), ?_⟩
    refine go ?_
    rcases bcases (!y16) with hc18 | hc18
    · replace h := bcT h hc18
      refine go ?_
      cases oi h
      exact ⟨⟨rfl, rfl, rfl, rfl, trivial⟩, hS4.pick [0, 1, 2, 3] rfl rfl⟩
    replace h := bcF h hc18
    refine go ?_
    obtain ⟨F19, ho20, hS5⟩ := hS4.freeze (α := DObj) 3 rfl
    obtain ⟨b21, o22, cs23, hae, hb26, _, _, hd24, hk25⟩ := ho20.rdF.idx hy8
    cases hae
    obtain ⟨a27, c28, a30, c31, a33, c34, rfl, hr29, hr32, hr35⟩ := hd24
    refine AW.take (i := 12) rfl (by kernel_rfl) (want_of rfl rfl hc18) rfl (Ldr.old w17 ag3 rfl (hk25 4 _ rfl)) (hS5.zC 3 rfl hb26) ?_
    refine go ?_
    have hS6 := hS5.thaw (α := DObj) 3 rfl ho20
    cases oi h
    exact ⟨⟨rfl, rfl, rfl, rfl, trivial⟩, hS6.pick [0, 1, 2, 3] rfl rfl⟩
  intro e w36 hS7
  have h := h14
  refine go ?_
  refine cd (fun hc37 => ?_) fun hc37 => ?_
  · replace h := bcT h hc37
    refine go ?_
    replace h := Option.some.inj h
    subst h
    exact And.intro trivial ⟨_, Res.one (resOne.t rfl), a0_2, c0_2, (some ⟨b11, o12, none⟩), c0_3, rfl, hS7.pick [0, 2, 3] rfl rfl⟩
  replace h := bcF h hc37
  refine go ?_
  refine CW.draw (by kernel_rfl) ?_
  have hS8 := hS7.drew
  refine AW.u  (i := 0) rfl (by kernel_rfl) rfl rfl (Pur.p rfl) ?_
  refine AW.u  (i := 1) rfl (by kernel_rfl) rfl rfl (Pur.p rfl) ?_
  refine AW.u  (i := 2) rfl (by kernel_rfl) rfl rfl (Pur.nc rfl) ?_
  refine AW.u  (i := 3) rfl (by kernel_rfl) rfl rfl (Pur.fa fo140_0 rfl) ?_
  refine AW.u  (i := 5) rfl (by kernel_rfl) rfl rfl (Pur.p rfl) ?_
  refine AW.u  (i := 6) rfl (by kernel_rfl) rfl rfl (Pur.nc rfl) ?_
  refine AW.u  (i := 7) rfl (by kernel_rfl) rfl rfl (Pur.fa fo84_3 rfl) ?_
  obtain ⟨F38, ho39, hS9⟩ := hS8.freeze (α := DObj) 3 rfl
  obtain ⟨b40, o41, cs42, hae, hb45, _, _, hd43, hk44⟩ := ho39.rdF.idx hy8
  cases hae
  obtain ⟨a46, c47, a49, c50, a52, c53, rfl, hr48, hr51, hr54⟩ := hd43
  refine AW.take  (i := 8) rfl (by kernel_rfl) rfl rfl (Ldr.old w36.drew ag3 rfl (hk44 3 _ rfl)) (hS9.zC 3 rfl hb45) ?_
  refine AW.u  (i := 10) rfl (by kernel_rfl) rfl rfl (Pur.p rfl) ?_
  refine AW.u  (i := 11) rfl (by kernel_rfl) rfl rfl (Pur.nc rfl) ?_
  refine AW.u  (i := 12) rfl (by kernel_rfl) rfl rfl (Pur.fa fo84_5 rfl) ?_
  refine AW.take  (i := 13) rfl (by kernel_rfl) rfl rfl (Ldr.old w36.drew ag3 rfl (hk44 5 _ rfl)) (hS9.zC 3 rfl hb45) ?_
  refine AW.u  (i := 14) rfl (by kernel_rfl) rfl rfl (Pur.fa fo67_2 rfl) ?_
  refine AW.take  (i := 15) rfl (by kernel_rfl) rfl rfl (Ldr.box (bt := 67) (fr := (0, 0)) (cs := [.int .i64 x1.kind, .int .i64 x1.a, .int .i64 x1.b, .int .i64 x1.c, .int .i64 x1.d, .int .i64 x1.e]) ag3 rfl rfl) (St.cell (h := hS9) (i := 1) rfl) ?_
  refine AW.u  (i := 16) rfl (by kernel_rfl) rfl rfl (Pur.p rfl) ?_
  refine AW.u  (i := 17) rfl (by kernel_rfl) rfl rfl (Pur.build (vs := [(1, .int .i64 (IntKind.i64.wrap (y8.pages * x1.b)))]) (cs := #[.int .i64 0, .int .i64 (IntKind.i64.wrap (y8.pages * x1.b)), .int .i64 0]) rfl (by kernel_rfl)) ?_
  refine AW.one (i := 4) (by kernel_rfl) ?_
  refine ⟨_, rfl, ?_⟩
  refine LW.l (Ldr.boxN (bt := 140) (fr := (0, 0)) (cs := [.slice a0_0 x0.part.label.levels.length c0_0, .slice a0_1 x0.part.own.length c0_1, .slice a0_2 x0.part.tree.length c0_2, .slice (some ⟨b11, o12, none⟩) x0.part.heap.arena.length c0_3, .int .i64 y3.2.2.part.heap.gc.phase, .int .i64 y3.2.2.part.heap.gc.pos, .int .i64 y3.2.2.part.heap.gc.round, .slice a0_7 x0.part.heap.gc.grey.length c0_7, .slice a0_8 x0.part.taps.length c0_8, .int .i64 y3.2.2.part.next, .int .i64 y3.2.2.part.want, .int .i64 y3.2.2.part.spent.pages, .int .i64 y3.2.2.part.spent.rent, .int .i64 y3.2.2.part.spent.cpu, .int .i64 y3.2.2.part.press, .int .i64 y3.2.2.part.lost, .int .i64 y3.2.2.me, .int .i64 y3.2.2.now, .int .i64 y3.2.2.thread]) ag40 rfl rfl) (St.cell (h := hS9) (i := 0) rfl) rfl ?_
  refine LW.nil ⟨rfl, (.c (St.cell (h := hS9) (i := 1) rfl) (.c (hS9.zC 3 rfl hb45) (.c (hS9.zC 3 rfl hb45) Kept.n))), ?_⟩
  replace ⟨y55, hy55, h⟩ := obind h
  have q := W_i_ResOf (w0 := w36.drew) hy55 rfl (hS9.rB hr0_0) rfl (hS9.rB hr0_1) rfl (hS9.rI 2 rfl) rfl (hS9.rZ 3 rfl ho39.rdF) rfl (hS9.rB hr0_7) rfl (hS9.rB hr0_8)
  refine AW.one (i := 9) (by kernel_rfl) ?_
  refine ⟨_, rfl, ?_⟩
  refine LW.call pl87 rfl rfl ?_
  refine Ret.mono q ?_
  rintro _ w56 ⟨rfl, hs⟩
  have hS10 := hS9.add hs
  refine LW.nil ⟨rfl, (.c (St.cell (h := hS10) (i := 1) rfl) (.c (hS10.zC 3 rfl hb45) (.w (by kernel_rfl) Kept.n))), ?_⟩
  replace ⟨y57, hy57, h⟩ := obind h
  obtain ⟨F58, hL59⟩ := hS10.lendI [0, 2] [1, 3]
  have q := W_i_caller_pay (w0 := w56) hy57 (hL59.rB hr0_0) (hL59.rB hr0_1) (hL59.rZ 1 rfl ho39.rdF) (hL59.rB hr0_7) (hL59.rB hr0_8) hL59.st
  refine AW.one (i := 18) (by kernel_rfl) ?_
  refine ⟨_, rfl, ?_⟩
  refine LW.call pl125 rfl rfl ?_
  refine Ret.mono q ?_
  rintro _ w62 ⟨a60, c61, rfl, hs⟩
  have hS11 := hL59.back _ _ hs
  refine LW.nil ⟨rfl, (.c (St.cell (h := hS11) (i := 2) rfl) (.c (hS11.zC 3 rfl hb45) (.c (hS11.zC 3 rfl hb45) Kept.n))), ?_⟩
  refine AW.u  (i := 19) rfl (by kernel_rfl) rfl rfl (Pur.p rfl) ?_
  refine go ?_
  refine cd (fun hc63 => ?_) fun hc63 => ?_
  · replace h := bcT h hc63
    refine go ?_
    replace h := Option.some.inj h
    subst h
    have hS12 := hS11.thaw (α := DObj) 3 rfl ho39
    exact And.intro trivial ⟨_, Res.one (resOne.t rfl), a60, c61, (some ⟨b11, o12, none⟩), c0_3, rfl, hS12.pick [0, 1, 3] rfl rfl⟩
  replace h := bcF h hc63
  refine go ?_
  refine CW.draw (by kernel_rfl) ?_
  have hS13 := hS11.drew
  refine go ?_
  refine AW.take (i := 3) rfl (by kernel_rfl) rfl rfl (Ldr.old w36.drew ag3 rfl (hk44 4 _ rfl)) (hS13.zC 3 rfl hb45) ?_
  refine go ?_
  have hS14 := hS13.thaw (α := DObj) 3 rfl ho39
  replace ⟨y64, hy64, h⟩ := obind h
  refine AW.one (i := 9) (by kernel_rfl) ?_
  refine ⟨_, rfl, ?_⟩
  refine LW.stE (M := []) (L := [bx g0 140 [.slice a0_0 x0.part.label.levels.length c0_0, .slice a0_1 x0.part.own.length c0_1, .slice a60 y57.2.part.tree.length c61, .slice (some ⟨b11, o12, none⟩) x0.part.heap.arena.length c0_3, .int .i64 y57.2.part.heap.gc.phase, .int .i64 y57.2.part.heap.gc.pos, .int .i64 y57.2.part.heap.gc.round, .slice a0_7 x0.part.heap.gc.grey.length c0_7, .slice a0_8 x0.part.taps.length c0_8, .int .i64 y57.2.part.next, .int .i64 y57.2.part.want, .int .i64 y57.2.part.spent.pages, .int .i64 y57.2.part.spent.rent, .int .i64 y57.2.part.spent.cpu, .int .i64 y57.2.part.press, .int .i64 y57.2.part.lost, .int .i64 y57.2.me, .int .i64 y57.2.now, .int .i64 y57.2.thread], sl a60 c61 y57.2.part.tree, bx g1 67 [.int .i64 x1.kind, .int .i64 x1.a, .int .i64 x1.b, .int .i64 x1.c, .int .i64 x1.d, .int .i64 x1.e], sl (some ⟨b11, o12, none⟩) c0_3 x0.part.heap.arena]) (z := y8) (z' := (DObj.mk y8.gen y8.kind y8.box y8.res (IntKind.i64.wrap (y8.til + x1.b)) y8.pages y8.wait y8.got y8.ran y8.mark y8.links y8.data y8.queue)) (o := 4) hS14 (i := 3) rfl hy8 ag3 rfl (by show _ = o12 + (y3.1 : Int).toNat * 13 + 4; omega) rfl rfl rfl rfl (leafF (fun w cs F hF => by obtain ⟨q0, r0, q1, r1, q2, r2, rfl, hH⟩ := hF; exact ⟨q0, r0, q1, r1, q2, r2, rfl, hH⟩)) ?_
  intro w65 hS15 hf
  rw [Option.some.inj hy64] at hS15
  refine LW.nil ⟨rfl, (.w (by kernel_rfl) (.w (by kernel_rfl) Kept.n)), ?_⟩
  refine go ?_
  replace h := Option.some.inj h
  subst h
  rw [show x0.part.heap.arena.length = y64.length from (len_set (Option.some.inj hy64))] at hS15
  exact And.intro trivial ⟨_, Res.one (resOne.t rfl), a60, c61, (some ⟨b11, o12, none⟩), c0_3, rfl, hS15.pick [0, 1, 3] rfl rfl⟩

theorem W_i_caller_reserve {w0 : World} {F : List Nat} {N : Nat} {x0 : DCaller} {x1 : DCall} {r : Int × Int × DCaller} (h : F_i_caller_reserve N x0 x1 = some r) {g0 : Nat} {a0_0 : Option Addr} {c0_0 : Nat} (hr0_0 : rdS (Bor w0 F) w0 a0_0 c0_0 x0.part.label.levels) {a0_1 : Option Addr} {c0_1 : Nat} (hr0_1 : rdS (Bor w0 F) w0 a0_1 c0_1 x0.part.own) {a0_2 : Option Addr} {c0_2 : Nat} {a0_3 : Option Addr} {c0_3 : Nat} (hr0_3 : rdS (Bor w0 F) w0 a0_3 c0_3 x0.part.heap.arena) {a0_7 : Option Addr} {c0_7 : Nat} (hr0_7 : rdS (Bor w0 F) w0 a0_7 c0_7 x0.part.heap.gc.grey) {a0_8 : Option Addr} {c0_8 : Nat} (hr0_8 : rdS (Bor w0 F) w0 a0_8 c0_8 x0.part.taps) (hS : St w0 F w0 [bx g0 140 [.slice a0_0 x0.part.label.levels.length c0_0, .slice a0_1 x0.part.own.length c0_1, .slice a0_2 x0.part.tree.length c0_2, .slice a0_3 x0.part.heap.arena.length c0_3, .int .i64 x0.part.heap.gc.phase, .int .i64 x0.part.heap.gc.pos, .int .i64 x0.part.heap.gc.round, .slice a0_7 x0.part.heap.gc.grey.length c0_7, .slice a0_8 x0.part.taps.length c0_8, .int .i64 x0.part.next, .int .i64 x0.part.want, .int .i64 x0.part.spent.pages, .int .i64 x0.part.spent.rent, .int .i64 x0.part.spent.cpu, .int .i64 x0.part.press, .int .i64 x0.part.lost, .int .i64 x0.me, .int .i64 x0.now, .int .i64 x0.thread], sl a0_2 c0_2 x0.part.tree]) :
    Ret Try.prog 120 #[.pointer (some ⟨g0, 0, none⟩), .agg #[.int .i64 x1.kind, .int .i64 x1.a, .int .i64 x1.b, .int .i64 x1.c, .int .i64 x1.d, .int .i64 x1.e]] w0 (fun v w => ∃ ab0_2 cb0_2, v = .tuple #[.int .i64 r.1, .int .i64 r.2.1] ∧ St w0 F w [bx g0 140 [.slice a0_0 x0.part.label.levels.length c0_0, .slice a0_1 x0.part.own.length c0_1, .slice ab0_2 r.2.2.part.tree.length cb0_2, .slice a0_3 x0.part.heap.arena.length c0_3, .int .i64 r.2.2.part.heap.gc.phase, .int .i64 r.2.2.part.heap.gc.pos, .int .i64 r.2.2.part.heap.gc.round, .slice a0_7 x0.part.heap.gc.grey.length c0_7, .slice a0_8 x0.part.taps.length c0_8, .int .i64 r.2.2.part.next, .int .i64 r.2.2.part.want, .int .i64 r.2.2.part.spent.pages, .int .i64 r.2.2.part.spent.rent, .int .i64 r.2.2.part.spent.cpu, .int .i64 r.2.2.part.press, .int .i64 r.2.2.part.lost, .int .i64 r.2.2.me, .int .i64 r.2.2.now, .int .i64 r.2.2.thread], sl ab0_2 cb0_2 r.2.2.part.tree]) := by
  unfold F_i_caller_reserve at h
  refine Ret.fn Try.func120 fun e => ?_
  refine go ?_
  refine LW.bo hS fun g1 w2 hS1 => ?_
  refine go ?_
  refine cd (fun hc3 => ?_) fun hc3 => ?_
  · replace h := bcT h hc3
    refine go ?_
    refine LW.u (Pur.build (vs := [(0, .int .i64 x1.b), (1, .int .i64 x1.c), (2, .int .i64 x1.d)]) (cs := #[.int .i64 x1.b, .int .i64 x1.c, .int .i64 x1.d]) rfl (by kernel_rfl)) rfl ?_
    refine LW.al hS1 fun g4 w5 hS2 => ?_
    refine LW.st hS2 0 fun w6 hS3 => ?_
    refine gs ?_
    obtain ⟨j7, hj7, h8⟩ := obind h
    refine CW.jn [0, 3, 6] [0, 1, 2, 3] [(33, .bool j7)] hS3 (h1 := ?_) (h2 := ?_)
    · have h := hj7
      refine go ?_
      replace ⟨y9, hy9, h⟩ := obind h
      refine LW.c0 (W_i_isPlace hy9) hS3 fun w10 hS4 => ?_
      refine go ?_
      rcases bcases (!y9) with hc11 | hc11
      · replace h := bcT h hc11
        refine go ?_
        cases oi h
        exact ⟨⟨rfl, rfl, rfl, rfl, trivial⟩, hS4.pick [0, 1, 2, 3] rfl rfl⟩
      replace h := bcF h hc11
      refine go ?_
      replace ⟨y12, hy12, h⟩ := obind h
      refine go ?_
      refine LW.c0 (W_i_AmtOk hy12) hS4 fun w13 hS5 => ?_
      refine go ?_
      cases oi h
      exact ⟨⟨rfl, rfl, rfl, rfl, trivial⟩, hS5.pick [0, 1, 2, 3] rfl rfl⟩
    intro e w14 hS6
    have h := h8
    refine go ?_
    refine CW.fl [0, 3, 6, 33] fun e => ?_
    refine cd (fun hc15 => ?_) fun hc15 => ?_
    · replace h := bcT h hc15
      refine go ?_
      replace h := Option.some.inj h
      subst h
      exact And.intro trivial ⟨_, Res.two (resOne.t rfl) (resOne.t rfl), a0_2, c0_2, rfl, hS6.pick [2, 3] rfl rfl⟩
    replace h := bcF h hc15
    refine go ?_
    refine CW.draw (by kernel_rfl) ?_
    have hS7 := hS6.drew
    refine go ?_
    replace ⟨y16, hy16, h⟩ := obind h
    have q := W_i_TreeSplit (w0 := w14.drew) hy16 rfl (hS7.rI 3 rfl)
    refine AW.one (i := 8) (by kernel_rfl) ?_
    refine ⟨_, rfl, ?_⟩
    refine LW.call pl128 rfl rfl ?_
    refine Ret.mono q ?_
    rintro _ w19 ⟨a17, c18, rfl, hs⟩
    have hS8 := hS7.add hs
    refine LW.nil ⟨rfl, (.w (by kernel_rfl) (.w (by kernel_rfl) (.w (by kernel_rfl) Kept.n))), ?_⟩
    refine go ?_
    refine cd (fun hc20 => ?_) fun hc20 => ?_
    · replace h := bcT h hc20
      refine go ?_
      replace h := Option.some.inj h
      subst h
      exact And.intro trivial ⟨_, Res.two (resOne.t rfl) (resOne.t rfl), a0_2, c0_2, rfl, hS8.pick [3, 4] rfl rfl⟩
    replace h := bcF h hc20
    refine go ?_
    refine LW.u (Pur.nc rfl) rfl ?_
    refine go ?_
    refine LW.st hS8 3 fun w21 hS9 => ?_
    refine go ?_
    replace h := Option.some.inj h
    subst h
    exact And.intro trivial ⟨_, Res.two (resOne.t rfl) (resOne.t rfl), a17, c18, rfl, hS9.pick [3, 0] rfl rfl⟩
  replace h := bcF h hc3
  refine go ?_
  refine cd (fun hc22 => ?_) fun hc22 => ?_
  · replace h := bcT h hc22
    refine gs ?_
    obtain ⟨j23, hj23, h24⟩ := obind h
    refine CW.jn [0, 3] [0, 1, 2] [(78, .bool j23)] hS1 (h1 := ?_) (h2 := ?_)
    · have h := hj23
      refine go ?_
      replace ⟨y25, hy25, h⟩ := obind h
      refine LW.c0 (W_i_isPlace hy25) hS1 fun w26 hS10 => ?_
      refine go ?_
      rcases bcases (!y25) with hc27 | hc27
      · replace h := bcT h hc27
        refine go ?_
        cases oi h
        exact ⟨⟨rfl, rfl, rfl, trivial⟩, hS10.pick [0, 1, 2] rfl rfl⟩
      replace h := bcF h hc27
      refine go ?_
      replace ⟨y28, hy28, h⟩ := obind h
      refine go ?_
      refine LW.c0 (W_i_isPlace hy28) hS10 fun w29 hS11 => ?_
      refine go ?_
      rcases bcases (!y28) with hc30 | hc30
      · replace h := bcT h hc30
        refine go ?_
        cases oi h
        exact ⟨⟨rfl, rfl, rfl, trivial⟩, hS11.pick [0, 1, 2] rfl rfl⟩
      replace h := bcF h hc30
      refine go ?_
      replace ⟨y31, hy31, h⟩ := obind h
      refine go ?_
      refine LW.c0 (W_i_within hy31) hS11 fun w32 hS12 => ?_
      refine go ?_
      refine LW.fl [0, 3, 73] fun e => ?_
      rcases bcases (!y31) with hc33 | hc33
      · replace h := bcT h hc33
        refine go ?_
        cases oi h
        exact ⟨⟨rfl, rfl, rfl, trivial⟩, hS12.pick [0, 1, 2] rfl rfl⟩
      replace h := bcF h hc33
      refine go ?_
      replace ⟨y34, hy34, h⟩ := obind h
      refine go ?_
      refine LW.c0 (W_i_isAmount hy34) hS12 fun w35 hS13 => ?_
      refine go ?_
      cases oi h
      exact ⟨⟨rfl, rfl, rfl, trivial⟩, hS13.pick [0, 1, 2] rfl rfl⟩
    intro e w36 hS14
    have h := h24
    refine go ?_
    refine cd (fun hc37 => ?_) fun hc37 => ?_
    · replace h := bcT h hc37
      refine go ?_
      replace h := Option.some.inj h
      subst h
      exact And.intro trivial ⟨_, Res.two (resOne.t rfl) (resOne.t rfl), a0_2, c0_2, rfl, hS14.pick [1, 2] rfl rfl⟩
    replace h := bcF h hc37
    refine go ?_
    refine CW.draw (by kernel_rfl) ?_
    have hS15 := hS14.drew
    refine go ?_
    replace ⟨y38, hy38, h⟩ := obind h
    have q := W_i_AmtOne (w0 := w36.drew) hy38
    refine AW.one (i := 13) (by kernel_rfl) ?_
    refine ⟨_, rfl, ?_⟩
    refine LW.call pl130 rfl rfl ?_
    refine Ret.mono q ?_
    rintro _ w39 ⟨rfl, hs⟩
    have hS16 := hS15.add hs
    refine LW.nil ⟨rfl, (.w (by kernel_rfl) (.w (by kernel_rfl) (.c (St.cell (h := hS16) (i := 0) rfl) (.c (St.cell (h := hS16) (i := 0) rfl) (.c (St.cell (h := hS16) (i := 1) rfl) Kept.n))))), ?_⟩
    replace ⟨y40, hy40, h⟩ := obind h
    have q := W_i_TreeGive (w0 := w39) hy40 rfl (hS16.rI 2 rfl)
    refine AW.one (i := 14) (by kernel_rfl) ?_
    refine ⟨_, rfl, ?_⟩
    refine LW.call pl129 rfl rfl ?_
    refine Ret.mono q ?_
    rintro _ w43 ⟨a41, c42, rfl, hs⟩
    have hS17 := hS16.add hs
    refine LW.nil ⟨rfl, (.c (St.cell (h := hS17) (i := 1) rfl) (.c (St.cell (h := hS17) (i := 1) rfl) (.w (by kernel_rfl) (.w (by kernel_rfl) (.w (by kernel_rfl) Kept.n))))), ?_⟩
    refine go ?_
    refine cd (fun hc44 => ?_) fun hc44 => ?_
    · replace h := bcT h hc44
      refine go ?_
      replace h := Option.some.inj h
      subst h
      exact And.intro trivial ⟨_, Res.two (resOne.t rfl) (resOne.t rfl), a0_2, c0_2, rfl, hS17.pick [2, 3] rfl rfl⟩
    replace h := bcF h hc44
    refine go ?_
    refine LW.u (Pur.nc rfl) rfl ?_
    refine go ?_
    refine LW.st hS17 2 fun w45 hS18 => ?_
    refine go ?_
    replace h := Option.some.inj h
    subst h
    exact And.intro trivial ⟨_, Res.two (resOne.t rfl) (resOne.t rfl), a41, c42, rfl, hS18.pick [2, 0] rfl rfl⟩
  replace h := bcF h hc22
  refine go ?_
  refine CW.draw (by kernel_rfl) ?_
  have hS19 := hS1.drew
  refine go ?_
  replace ⟨y46, hy46, h⟩ := obind h
  have q := W_i_TreeDrop (w0 := w2.drew) hy46 rfl (hS19.rI 2 rfl)
  refine AW.one (i := 7) (by kernel_rfl) ?_
  refine ⟨_, rfl, ?_⟩
  refine LW.call pl131 rfl rfl ?_
  refine Ret.mono q ?_
  rintro _ w49 ⟨a47, c48, rfl, hs⟩
  have hS20 := hS19.add hs
  refine LW.nil ⟨rfl, (.w (by kernel_rfl) (.w (by kernel_rfl) Kept.n)), ?_⟩
  refine go ?_
  refine cd (fun hc50 => ?_) fun hc50 => ?_
  · replace h := bcT h hc50
    refine go ?_
    replace h := Option.some.inj h
    subst h
    exact And.intro trivial ⟨_, Res.two (resOne.t rfl) (resOne.t rfl), a0_2, c0_2, rfl, hS20.pick [2, 3] rfl rfl⟩
  replace h := bcF h hc50
  refine go ?_
  refine LW.u (Pur.nc rfl) rfl ?_
  refine go ?_
  refine LW.st hS20 2 fun w51 hS21 => ?_
  refine go ?_
  replace h := Option.some.inj h
  subst h
  exact And.intro trivial ⟨_, Res.two (resOne.t rfl) (resOne.t rfl), a47, c48, rfl, hS21.pick [2, 0] rfl rfl⟩

theorem W_i_caller_gate {w0 : World} {F : List Nat} {N : Nat} {x0 : DCaller} {x1 : DCall} {r : Int × Int × DCaller} (h : F_i_caller_gate N x0 x1 = some r) {g0 : Nat} {a0_0 : Option Addr} {c0_0 : Nat} (hr0_0 : rdS (Bor w0 F) w0 a0_0 c0_0 x0.part.label.levels) {a0_1 : Option Addr} {c0_1 : Nat} (hr0_1 : rdS (Bor w0 F) w0 a0_1 c0_1 x0.part.own) {a0_2 : Option Addr} {c0_2 : Nat} (hr0_2 : rdS (Bor w0 F) w0 a0_2 c0_2 x0.part.tree) {a0_3 : Option Addr} {c0_3 : Nat} {a0_7 : Option Addr} {c0_7 : Nat} (hr0_7 : rdS (Bor w0 F) w0 a0_7 c0_7 x0.part.heap.gc.grey) {a0_8 : Option Addr} {c0_8 : Nat} (hr0_8 : rdS (Bor w0 F) w0 a0_8 c0_8 x0.part.taps) (hS : St w0 F w0 [bx g0 140 [.slice a0_0 x0.part.label.levels.length c0_0, .slice a0_1 x0.part.own.length c0_1, .slice a0_2 x0.part.tree.length c0_2, .slice a0_3 x0.part.heap.arena.length c0_3, .int .i64 x0.part.heap.gc.phase, .int .i64 x0.part.heap.gc.pos, .int .i64 x0.part.heap.gc.round, .slice a0_7 x0.part.heap.gc.grey.length c0_7, .slice a0_8 x0.part.taps.length c0_8, .int .i64 x0.part.next, .int .i64 x0.part.want, .int .i64 x0.part.spent.pages, .int .i64 x0.part.spent.rent, .int .i64 x0.part.spent.cpu, .int .i64 x0.part.press, .int .i64 x0.part.lost, .int .i64 x0.me, .int .i64 x0.now, .int .i64 x0.thread], sl a0_3 c0_3 x0.part.heap.arena]) :
    Ret Try.prog 121 #[.pointer (some ⟨g0, 0, none⟩), .agg #[.int .i64 x1.kind, .int .i64 x1.a, .int .i64 x1.b, .int .i64 x1.c, .int .i64 x1.d, .int .i64 x1.e]] w0 (fun v w => ∃ ab0_3 cb0_3, v = .tuple #[.int .i64 r.1, .int .i64 r.2.1] ∧ St w0 F w [bx g0 140 [.slice a0_0 x0.part.label.levels.length c0_0, .slice a0_1 x0.part.own.length c0_1, .slice a0_2 x0.part.tree.length c0_2, .slice ab0_3 r.2.2.part.heap.arena.length cb0_3, .int .i64 r.2.2.part.heap.gc.phase, .int .i64 r.2.2.part.heap.gc.pos, .int .i64 r.2.2.part.heap.gc.round, .slice a0_7 x0.part.heap.gc.grey.length c0_7, .slice a0_8 x0.part.taps.length c0_8, .int .i64 r.2.2.part.next, .int .i64 r.2.2.part.want, .int .i64 r.2.2.part.spent.pages, .int .i64 r.2.2.part.spent.rent, .int .i64 r.2.2.part.spent.cpu, .int .i64 r.2.2.part.press, .int .i64 r.2.2.part.lost, .int .i64 r.2.2.me, .int .i64 r.2.2.now, .int .i64 r.2.2.thread], sl ab0_3 cb0_3 r.2.2.part.heap.arena]) := by
  unfold F_i_caller_gate at h
  refine Ret.fn Try.func121 fun e => ?_
  refine go ?_
  refine LW.bo hS fun g1 w2 hS1 => ?_
  refine go ?_
  replace ⟨y3, hy3, h⟩ := obind h
  obtain ⟨F4, hL5⟩ := hS1.lendI [1] [0, 2]
  refine LW.cl (W_i_caller_slot hy3 (hL5.rB hr0_0) (hL5.rB hr0_1) (hL5.rB hr0_2) (hL5.rI 1 rfl) (hL5.rB hr0_7) (hL5.rB hr0_8) hL5.st) ?_
  rintro _ w6 ⟨rfl, hs⟩
  have hS2 := hL5.back _ _ hs
  refine go ?_
  refine CW.fl [0, 3, 6, 7, 21] fun e => ?_
  refine cd (fun hc7 => ?_) fun hc7 => ?_
  · replace h := bcT h hc7
    refine go ?_
    replace h := Option.some.inj h
    subst h
    exact And.intro trivial ⟨_, Res.two (resOne.t rfl) (resOne.t rfl), a0_3, c0_3, rfl, hS2.pick [0, 2] rfl rfl⟩
  replace h := bcF h hc7
  refine go ?_
  refine LW.u (Pur.nc rfl) rfl ?_
  refine go ?_
  replace ⟨y8, hy8, h⟩ := obind h
  obtain ⟨b11, o12, hae, hp9, hq10⟩ := hS2.ownIdx (α := DObj) (i := 2) rfl hy8
  subst hae
  refine LW.u (Pur.ix Try.underlying33 sz84 rfl rfl hp9 hq10) rfl ?_
  refine go ?_
  obtain ⟨F13, ho14, hS3⟩ := hS2.freeze (α := DObj) 2 rfl
  obtain ⟨b15, o16, cs17, hae, hb20, _, _, hd18, hk19⟩ := ho14.rdF.idx hy8
  cases hae
  obtain ⟨a21, c22, a24, c25, a27, c28, rfl, hr23, hr26, hr29⟩ := hd18
  refine LW.l (Ldr.old w6 ag82 rfl (hk19 12 _ rfl)) (hS3.zC 2 rfl hb20) rfl ?_
  refine go ?_
  replace ⟨y30, hy30, h⟩ := obind h
  refine LW.c0 (W_i_within hy30) hS3 fun w31 hS4 => ?_
  refine go ?_
  refine CW.fl [0, 3, 6, 8, 9, 38] fun e => ?_
  refine cd (fun hc32 => ?_) fun hc32 => ?_
  · replace h := bcT h hc32
    refine go ?_
    replace h := Option.some.inj h
    subst h
    have hS5 := hS4.thaw (α := DObj) 2 rfl ho14
    exact And.intro trivial ⟨_, Res.two (resOne.t rfl) (resOne.t rfl), (some ⟨b11, o12, none⟩), c0_3, rfl, hS5.pick [0, 2] rfl rfl⟩
  replace h := bcF h hc32
  refine gs ?_
  obtain ⟨j33, hj33, h34⟩ := obind h
  refine CW.jn [0, 3, 6, 8] [0, 1, 2] [(54, .bool j33)] hS4 (h1 := ?_) (h2 := ?_)
  · have h := hj33
    refine go ?_
    rcases bcases (x1.kind == 12) with hc35 | hc35
    · replace h := bcT h hc35
      refine go ?_
      rcases bcases (decide ((y8.queue.length : Int) ≥ 2)) with hc36 | hc36
      · replace h := bcT h hc36
        refine go ?_
        cases oi h
        exact ⟨⟨rfl, rfl, rfl, rfl, rfl, trivial⟩, hS4.pick [0, 1, 2] rfl rfl⟩
      replace h := bcF h hc36
      refine go ?_
      rcases bcases (x1.kind == 13) with hc37 | hc37
      · replace h := bcT h hc37
        refine go ?_
        cases oi h
        exact ⟨⟨rfl, rfl, rfl, rfl, rfl, trivial⟩, hS4.pick [0, 1, 2] rfl rfl⟩
      replace h := bcF h hc37
      refine go ?_
      cases oi h
      exact ⟨⟨rfl, rfl, rfl, rfl, rfl, trivial⟩, hS4.pick [0, 1, 2] rfl rfl⟩
    replace h := bcF h hc35
    refine go ?_
    rcases bcases (x1.kind == 13) with hc38 | hc38
    · replace h := bcT h hc38
      refine go ?_
      cases oi h
      exact ⟨⟨rfl, rfl, rfl, rfl, rfl, trivial⟩, hS4.pick [0, 1, 2] rfl rfl⟩
    replace h := bcF h hc38
    refine go ?_
    cases oi h
    exact ⟨⟨rfl, rfl, rfl, rfl, rfl, trivial⟩, hS4.pick [0, 1, 2] rfl rfl⟩
  intro e w39 hS6
  have h := h34
  refine go ?_
  refine cd (fun hc40 => ?_) fun hc40 => ?_
  · replace h := bcT h hc40
    refine go ?_
    replace h := Option.some.inj h
    subst h
    have hS7 := hS6.thaw (α := DObj) 2 rfl ho14
    exact And.intro trivial ⟨_, Res.two (resOne.t rfl) (resOne.t rfl), (some ⟨b11, o12, none⟩), c0_3, rfl, hS7.pick [0, 2] rfl rfl⟩
  replace h := bcF h hc40
  refine go ?_
  refine cd (fun hc41 => ?_) fun hc41 => ?_
  · replace h := bcT h hc41
    refine go ?_
    refine CW.draw (by kernel_rfl) ?_
    have hS8 := hS6.drew
    refine go ?_
    replace ⟨y42, hy42, h⟩ := obind h
    obtain ⟨b45, o46, hae, hp43, hq44⟩ := ho14.ownIdx hy42
    cases hae
    refine AW.u (i := 13) rfl (by kernel_rfl) rfl rfl (Pur.ix Try.underlying33 sz84 rfl rfl hp43 hq44) ?_
    refine go ?_
    obtain ⟨b47, o48, cs49, hae, hb52, _, _, hd50, hk51⟩ := ho14.rdF.idx hy42
    cases hae
    obtain ⟨a53, c54, a56, c57, a59, c60, rfl, hr55, hr58, hr61⟩ := hd50
    refine AW.take (i := 15) rfl (by kernel_rfl) rfl rfl (Ldr.old w6 ag3 rfl (hk51 0 _ rfl)) (hS8.zC 2 rfl hb52) ?_
    replace ⟨y62, hy62, h⟩ := obind h
    have q := W_i_HandleOf (w0 := w39.drew) hy62
    refine AW.one (i := 16) (by kernel_rfl) ?_
    refine ⟨_, rfl, ?_⟩
    refine LW.call pl126 rfl rfl ?_
    refine Ret.mono q ?_
    rintro _ w63 ⟨rfl, hs⟩
    have hS9 := hS8.add hs
    refine LW.nil ⟨rfl, (.w (by kernel_rfl) (.c (St.cell (h := hS9) (i := 0) rfl) (.w (by kernel_rfl) (.w (by kernel_rfl) Kept.n)))), ?_⟩
    refine go ?_
    refine CW.draw (by kernel_rfl) ?_
    have hS10 := hS9.drew
    refine go ?_
    refine AW.u (i := 4) rfl (by kernel_rfl) rfl rfl (Pur.ix Try.underlying33 sz84 rfl rfl hp9 hq10) ?_
    refine go ?_
    refine AW.take (i := 6) rfl (by kernel_rfl) rfl rfl (Ldr.old w6 ag82 rfl (hk19 12 _ rfl)) (hS10.zC 2 rfl hb20) ?_
    refine go ?_
    refine AW.u (i := 10) rfl (by kernel_rfl) rfl rfl (Pur.build (vs := [(0, .int .i64 y62), (1, .int .i64 x1.b)]) (cs := #[.int .i64 y62, .int .i64 x1.b]) rfl (by kernel_rfl)) ?_
    refine AW.one (i := 11) (by kernel_rfl) ?_
    refine ⟨_, rfl, ?_⟩
    refine LW.bsl (α := DMsg) (vs := [(0, .agg #[.int .i64 y62, .int .i64 x1.b])]) (cs := #[.int .i64 y62, .int .i64 x1.b]) (l := ([DMsg.mk y62 x1.b] : List DMsg)) rfl (by kernel_rfl) rfl rfl rfl (fun w => ⟨[.int .i64 y62, .int .i64 x1.b], [], [], [], rfl, rfl, ⟨rfl, rfl⟩, rfl⟩) hS10 rfl ?_
    intro a64 c65 w66 hS11 hf
    refine LW.nil ⟨rfl, (.c (St.cell (h := hS11) (i := 2) rfl) (.c (hS11.zC 3 rfl hb20) Kept.n)), ?_⟩
    have hn67 := fun (j : Nat) (u : Value) (hu : ([.int .i64 y8.gen, .int .i64 y8.kind, .int .i64 y8.box, .int .i64 y8.res, .int .i64 y8.til, .int .i64 y8.pages, .int .i64 y8.wait, .int .i64 y8.got, .int .i64 y8.ran, .bool y8.mark, .slice a21 y8.links.length c22, .slice a24 y8.data.length c25, .slice a27 y8.queue.length c28] : List Value)[j]? = some u) => (World.cell?_of_block (hS11.zC 3 rfl hb20)).trans (hk19 j u hu)
    have hS12 := hS11.thaw (α := DObj) 3 rfl ho14
    obtain ⟨Fx68, ho69, hf70⟩ := hS12.focus (α := DObj) (cs := [.int .i64 y8.gen, .int .i64 y8.kind, .int .i64 y8.box, .int .i64 y8.res, .int .i64 y8.til, .int .i64 y8.pages, .int .i64 y8.wait, .int .i64 y8.got, .int .i64 y8.ran, .bool y8.mark, .slice a21 y8.links.length c22, .slice a24 y8.data.length c25, .slice a27 y8.queue.length c28]) 3 rfl hy8 rfl hn67
    obtain ⟨a73, c74, a75, c76, a77, c78, hc71, hH72⟩ := ho69
    cases hc71
    have hS13 := hf70 [sl a21 c22 y8.links, sl a24 c25 y8.data, sl a27 c28 y8.queue] hH72
    replace ⟨y79, hy79, h⟩ := obind h
    refine AW.one (i := 12) (by kernel_rfl) ?_
    refine ⟨_, rfl, ?_⟩
    refine LW.appN (l := y8.queue) (m := ([DMsg.mk y62 x1.b] : List DMsg)) sT82 rfl rfl (hS13.rI 3 rfl) hy79 hS13 (i := 2) rfl rfl ?_
    intro a80 c81 w82 hS14 hf
    refine LW.nil ⟨rfl, (.c (St.cell (h := hS14) (i := 5) rfl) (.w (by kernel_rfl) Kept.n)), ?_⟩
    refine AW.u (i := 13) rfl (by kernel_rfl) rfl rfl (Pur.ix Try.underlying33 sz84 rfl rfl hp9 hq10) ?_
    refine go ?_
    refine AW.one (i := 15) (by kernel_rfl) ?_
    refine ⟨_, rfl, ?_⟩
    refine LW.sth (α := DObj) (vs := [.slice a80 y79.length c81]) hS14 6 rfl ag82 rfl (by show _ = o12 + (y3.1 : Int).toNat * 13 + 12; omega) rfl rfl rfl rfl ?_
    intro w83 hS15 hf
    refine LW.nil ⟨rfl, (.w (by kernel_rfl) (.w (by kernel_rfl) Kept.n)), ?_⟩
    refine go ?_
    have hS16 := hS15.pick (M := [sl a21 c22 y8.links, sl a24 c25 y8.data, sl a80 c81 y79] ++ [sl a64 c65 ([DMsg.mk y62 x1.b] : List DMsg), bx g0 140 [.slice a0_0 x0.part.label.levels.length c0_0, .slice a0_1 x0.part.own.length c0_1, .slice a0_2 x0.part.tree.length c0_2, .slice (some ⟨b11, o12, none⟩) x0.part.heap.arena.length c0_3, .int .i64 y3.2.2.part.heap.gc.phase, .int .i64 y3.2.2.part.heap.gc.pos, .int .i64 y3.2.2.part.heap.gc.round, .slice a0_7 x0.part.heap.gc.grey.length c0_7, .slice a0_8 x0.part.taps.length c0_8, .int .i64 y3.2.2.part.next, .int .i64 y3.2.2.part.want, .int .i64 y3.2.2.part.spent.pages, .int .i64 y3.2.2.part.spent.rent, .int .i64 y3.2.2.part.spent.cpu, .int .i64 y3.2.2.part.press, .int .i64 y3.2.2.part.lost, .int .i64 y3.2.2.me, .int .i64 y3.2.2.now, .int .i64 y3.2.2.thread], bx g1 67 [.int .i64 x1.kind, .int .i64 x1.a, .int .i64 x1.b, .int .i64 x1.c, .int .i64 x1.d, .int .i64 x1.e], hole DObj (some ⟨b11, o12, none⟩) c0_3 x0.part.heap.arena (y3.1 : Int).toNat [.int .i64 y8.gen, .int .i64 y8.kind, .int .i64 y8.box, .int .i64 y8.res, .int .i64 y8.til, .int .i64 y8.pages, .int .i64 y8.wait, .int .i64 y8.got, .int .i64 y8.ran, .bool y8.mark, .slice a21 y8.links.length c22, .slice a24 y8.data.length c25, .slice a80 y79.length c81]]) [0, 1, 2, 3, 4, 5, 6] rfl rfl
    have hS17 := hS16.unfocus (M := [sl a21 c22 y8.links, sl a24 c25 y8.data, sl a80 c81 y79]) (L := [sl a64 c65 ([DMsg.mk y62 x1.b] : List DMsg), bx g0 140 [.slice a0_0 x0.part.label.levels.length c0_0, .slice a0_1 x0.part.own.length c0_1, .slice a0_2 x0.part.tree.length c0_2, .slice (some ⟨b11, o12, none⟩) x0.part.heap.arena.length c0_3, .int .i64 y3.2.2.part.heap.gc.phase, .int .i64 y3.2.2.part.heap.gc.pos, .int .i64 y3.2.2.part.heap.gc.round, .slice a0_7 x0.part.heap.gc.grey.length c0_7, .slice a0_8 x0.part.taps.length c0_8, .int .i64 y3.2.2.part.next, .int .i64 y3.2.2.part.want, .int .i64 y3.2.2.part.spent.pages, .int .i64 y3.2.2.part.spent.rent, .int .i64 y3.2.2.part.spent.cpu, .int .i64 y3.2.2.part.press, .int .i64 y3.2.2.part.lost, .int .i64 y3.2.2.me, .int .i64 y3.2.2.now, .int .i64 y3.2.2.thread], bx g1 67 [.int .i64 x1.kind, .int .i64 x1.a, .int .i64 x1.b, .int .i64 x1.c, .int .i64 x1.d, .int .i64 x1.e], hole DObj (some ⟨b11, o12, none⟩) c0_3 x0.part.heap.arena (y3.1 : Int).toNat [.int .i64 y8.gen, .int .i64 y8.kind, .int .i64 y8.box, .int .i64 y8.res, .int .i64 y8.til, .int .i64 y8.pages, .int .i64 y8.wait, .int .i64 y8.got, .int .i64 y8.ran, .bool y8.mark, .slice a21 y8.links.length c22, .slice a24 y8.data.length c25, .slice a80 y79.length c81]]) (y := (DObj.mk y8.gen y8.kind y8.box y8.res y8.til y8.pages y8.wait y8.got y8.ran y8.mark y8.links y8.data y79)) 3 rfl (fun w G hG => ⟨a21, c22, a24, c25, a80, c81, rfl, hG⟩)
    refine CW.draw (by kernel_rfl) ?_
    have hS18 := hS17.drew
    refine go ?_
    replace ⟨y84, hy84, h⟩ := obind h
    obtain ⟨b87, o88, hae, hp85, hq86⟩ := hS18.ownIdx (α := DObj) (i := 3) rfl hy84
    cases hae
    refine AW.u (i := 8) rfl (by kernel_rfl) rfl rfl (Pur.ix Try.underlying33 sz84 rfl rfl hp85 (by rw [show x0.part.heap.arena.length = (x0.part.heap.arena.set (y3.1 : Int).toNat (DObj.mk y8.gen y8.kind y8.box y8.res y8.til y8.pages y8.wait y8.got y8.ran y8.mark y8.links y8.data y79)).length from (len_set rfl)]; exact hq86)) ?_
    refine go ?_
    replace ⟨y89, hy89, h⟩ := obind h
    refine AW.one (i := 10) (by kernel_rfl) ?_
    refine ⟨_, rfl, ?_⟩
    refine LW.stE (M := []) (L := [sl a64 c65 ([DMsg.mk y62 x1.b] : List DMsg), bx g0 140 [.slice a0_0 x0.part.label.levels.length c0_0, .slice a0_1 x0.part.own.length c0_1, .slice a0_2 x0.part.tree.length c0_2, .slice (some ⟨b11, o12, none⟩) x0.part.heap.arena.length c0_3, .int .i64 y3.2.2.part.heap.gc.phase, .int .i64 y3.2.2.part.heap.gc.pos, .int .i64 y3.2.2.part.heap.gc.round, .slice a0_7 x0.part.heap.gc.grey.length c0_7, .slice a0_8 x0.part.taps.length c0_8, .int .i64 y3.2.2.part.next, .int .i64 y3.2.2.part.want, .int .i64 y3.2.2.part.spent.pages, .int .i64 y3.2.2.part.spent.rent, .int .i64 y3.2.2.part.spent.cpu, .int .i64 y3.2.2.part.press, .int .i64 y3.2.2.part.lost, .int .i64 y3.2.2.me, .int .i64 y3.2.2.now, .int .i64 y3.2.2.thread], bx g1 67 [.int .i64 x1.kind, .int .i64 x1.a, .int .i64 x1.b, .int .i64 x1.c, .int .i64 x1.d, .int .i64 x1.e], sl (some ⟨b11, o12, none⟩) c0_3 (x0.part.heap.arena.set (y3.1 : Int).toNat (DObj.mk y8.gen y8.kind y8.box y8.res y8.til y8.pages y8.wait y8.got y8.ran y8.mark y8.links y8.data y79))]) (z := y84) (z' := (DObj.mk y84.gen y84.kind y84.box y84.res y84.til y84.pages (IntKind.i64.wrap (x1.a + 1)) y84.got y84.ran y84.mark y84.links y84.data y84.queue)) (o := 6) hS18 (i := 3) rfl hy84 ag3 rfl (by show _ = o12 + (y3.2.2.thread : Int).toNat * 13 + 6; omega) rfl rfl rfl rfl (leafF (fun w cs F hF => by obtain ⟨q0, r0, q1, r1, q2, r2, rfl, hH⟩ := hF; exact ⟨q0, r0, q1, r1, q2, r2, rfl, hH⟩)) ?_
    intro w90 hS19 hf
    rw [Option.some.inj hy89] at hS19
    refine LW.nil ⟨rfl, (.w (by kernel_rfl) (.w (by kernel_rfl) Kept.n)), ?_⟩
    refine go ?_
    replace h := Option.some.inj h
    subst h
    rw [show x0.part.heap.arena.length = y89.length from ((len_set rfl).trans (len_set (Option.some.inj hy89)))] at hS19
    exact And.intro trivial ⟨_, Res.two (resOne.t rfl) (resOne.t rfl), (some ⟨b11, o12, none⟩), c0_3, rfl, hS19.pick [1, 3] rfl rfl⟩
  replace h := bcF h hc41
  refine go ?_
  refine LW.u (Pur.ix Try.underlying33 sz84 rfl rfl hp9 hq10) rfl ?_
  refine go ?_
  refine LW.l (Ldr.old w6 ag82 rfl (hk19 12 _ rfl)) (hS6.zC 2 rfl hb20) rfl ?_
  replace ⟨y91, hy91, h⟩ := obind h
  obtain ⟨b94, o95, cs96, hae, hb99, hp92, hq93, hd97, hk98⟩ := hr29.idx hy91
  subst hae
  obtain rfl := hd97
  refine LW.u (Pur.ix Try.underlying82 sz146 rfl rfl hp92 hq93) rfl ?_
  refine LW.l (Ldr.oldN w6 ag146 rfl rfl (fun j u hu => hk98 j u hu)) (hS6.zC 2 rfl hb99) rfl ?_
  refine LW.al hS6 fun g100 w101 hS20 => ?_
  refine LW.st hS20 0 fun w102 hS21 => ?_
  refine go ?_
  refine LW.bsl (α := DMsg) (vs := []) (cs := #[]) (l := ([] : List DMsg)) rfl (by kernel_rfl) rfl rfl rfl (fun w => rfl) hS21 rfl ?_
  intro a103 c104 w105 hS22 hf
  refine go ?_
  refine LW.u (Pur.ix Try.underlying33 sz84 rfl rfl hp9 hq10) rfl ?_
  refine go ?_
  refine LW.l (Ldr.old w6 ag82 rfl (hk19 12 _ rfl)) (hS22.zC 4 rfl hb20) rfl ?_
  replace ⟨y106, hy106, h⟩ := obind h
  obtain ⟨a107, c108, he109, he110, hr111⟩ := rdS.sub' hr29 hy106
  have hle112 := (hr29).le
  refine LW.u (Pur.sub (α := DMsg) (l := y8.queue) Try.underlying82 sz146 rfl (bndS rfl) bndN hy106 hle112 he109 he110) rfl ?_
  replace ⟨y113, hy113, h⟩ := obind h
  refine LW.appN (l := ([] : List DMsg)) (m := y106) sT82 rfl rfl (hS22.rZ 4 rfl hr111) hy113 hS22 (i := 0) rfl rfl ?_
  intro a114 c115 w116 hS23 hf
  refine LW.u (Pur.ix Try.underlying33 sz84 rfl rfl hp9 hq10) rfl ?_
  refine go ?_
  refine LW.fl [0, 3, 8, 11, 116, 118] fun e => ?_
  have hn117 := fun (j : Nat) (u : Value) (hu : ([.int .i64 y8.gen, .int .i64 y8.kind, .int .i64 y8.box, .int .i64 y8.res, .int .i64 y8.til, .int .i64 y8.pages, .int .i64 y8.wait, .int .i64 y8.got, .int .i64 y8.ran, .bool y8.mark, .slice a21 y8.links.length c22, .slice a24 y8.data.length c25, .slice (some ⟨b94, o95, none⟩) y8.queue.length c28] : List Value)[j]? = some u) => (World.cell?_of_block (hS23.zC 4 rfl hb20)).trans (hk19 j u hu)
  have hS24 := hS23.thaw (α := DObj) 4 rfl ho14
  obtain ⟨Fx118, ho119, hf120⟩ := hS24.focus (α := DObj) (cs := [.int .i64 y8.gen, .int .i64 y8.kind, .int .i64 y8.box, .int .i64 y8.res, .int .i64 y8.til, .int .i64 y8.pages, .int .i64 y8.wait, .int .i64 y8.got, .int .i64 y8.ran, .bool y8.mark, .slice a21 y8.links.length c22, .slice a24 y8.data.length c25, .slice (some ⟨b94, o95, none⟩) y8.queue.length c28]) 4 rfl hy8 rfl hn117
  obtain ⟨a123, c124, a125, c126, a127, c128, hc121, hH122⟩ := ho119
  cases hc121
  have hS25 := hf120 [sl a21 c22 y8.links, sl a24 c25 y8.data, sl (some ⟨b94, o95, none⟩) c28 y8.queue] hH122
  refine LW.sth (α := DObj) (vs := [.slice a114 y113.length c115]) hS25 7 rfl ag82 rfl (by show _ = o12 + (y3.1 : Int).toNat * 13 + 12; omega) rfl rfl rfl rfl ?_
  intro w129 hS26 hf
  refine go ?_
  have hS27 := hS26.pick (M := [sl a21 c22 y8.links, sl a24 c25 y8.data, sl a114 c115 y113] ++ [sl (some ⟨b94, o95, none⟩) c28 y8.queue, bx g100 146 [.int .i64 y91.src, .int .i64 y91.n], bx g0 140 [.slice a0_0 x0.part.label.levels.length c0_0, .slice a0_1 x0.part.own.length c0_1, .slice a0_2 x0.part.tree.length c0_2, .slice (some ⟨b11, o12, none⟩) x0.part.heap.arena.length c0_3, .int .i64 y3.2.2.part.heap.gc.phase, .int .i64 y3.2.2.part.heap.gc.pos, .int .i64 y3.2.2.part.heap.gc.round, .slice a0_7 x0.part.heap.gc.grey.length c0_7, .slice a0_8 x0.part.taps.length c0_8, .int .i64 y3.2.2.part.next, .int .i64 y3.2.2.part.want, .int .i64 y3.2.2.part.spent.pages, .int .i64 y3.2.2.part.spent.rent, .int .i64 y3.2.2.part.spent.cpu, .int .i64 y3.2.2.part.press, .int .i64 y3.2.2.part.lost, .int .i64 y3.2.2.me, .int .i64 y3.2.2.now, .int .i64 y3.2.2.thread], bx g1 67 [.int .i64 x1.kind, .int .i64 x1.a, .int .i64 x1.b, .int .i64 x1.c, .int .i64 x1.d, .int .i64 x1.e], hole DObj (some ⟨b11, o12, none⟩) c0_3 x0.part.heap.arena (y3.1 : Int).toNat [.int .i64 y8.gen, .int .i64 y8.kind, .int .i64 y8.box, .int .i64 y8.res, .int .i64 y8.til, .int .i64 y8.pages, .int .i64 y8.wait, .int .i64 y8.got, .int .i64 y8.ran, .bool y8.mark, .slice a21 y8.links.length c22, .slice a24 y8.data.length c25, .slice a114 y113.length c115]]) [0, 1, 3, 2, 4, 5, 6, 7] rfl rfl
  have hS28 := hS27.unfocus (M := [sl a21 c22 y8.links, sl a24 c25 y8.data, sl a114 c115 y113]) (L := [sl (some ⟨b94, o95, none⟩) c28 y8.queue, bx g100 146 [.int .i64 y91.src, .int .i64 y91.n], bx g0 140 [.slice a0_0 x0.part.label.levels.length c0_0, .slice a0_1 x0.part.own.length c0_1, .slice a0_2 x0.part.tree.length c0_2, .slice (some ⟨b11, o12, none⟩) x0.part.heap.arena.length c0_3, .int .i64 y3.2.2.part.heap.gc.phase, .int .i64 y3.2.2.part.heap.gc.pos, .int .i64 y3.2.2.part.heap.gc.round, .slice a0_7 x0.part.heap.gc.grey.length c0_7, .slice a0_8 x0.part.taps.length c0_8, .int .i64 y3.2.2.part.next, .int .i64 y3.2.2.part.want, .int .i64 y3.2.2.part.spent.pages, .int .i64 y3.2.2.part.spent.rent, .int .i64 y3.2.2.part.spent.cpu, .int .i64 y3.2.2.part.press, .int .i64 y3.2.2.part.lost, .int .i64 y3.2.2.me, .int .i64 y3.2.2.now, .int .i64 y3.2.2.thread], bx g1 67 [.int .i64 x1.kind, .int .i64 x1.a, .int .i64 x1.b, .int .i64 x1.c, .int .i64 x1.d, .int .i64 x1.e], hole DObj (some ⟨b11, o12, none⟩) c0_3 x0.part.heap.arena (y3.1 : Int).toNat [.int .i64 y8.gen, .int .i64 y8.kind, .int .i64 y8.box, .int .i64 y8.res, .int .i64 y8.til, .int .i64 y8.pages, .int .i64 y8.wait, .int .i64 y8.got, .int .i64 y8.ran, .bool y8.mark, .slice a21 y8.links.length c22, .slice a24 y8.data.length c25, .slice a114 y113.length c115]]) (y := (DObj.mk y8.gen y8.kind y8.box y8.res y8.til y8.pages y8.wait y8.got y8.ran y8.mark y8.links y8.data y113)) 4 rfl (fun w G hG => ⟨a21, c22, a24, c25, a114, c115, rfl, hG⟩)
  refine CW.draw (by kernel_rfl) ?_
  have hS29 := hS28.drew
  refine go ?_
  replace ⟨y130, hy130, h⟩ := obind h
  have q := W_i_GoodSlot (w0 := w129.drew) hy130 (show x0.part.heap.arena.length = (x0.part.heap.arena.set (y3.1 : Int).toNat (DObj.mk y8.gen y8.kind y8.box y8.res y8.til y8.pages y8.wait y8.got y8.ran y8.mark y8.links y8.data y113)).length from (len_set rfl)) (hS29.rI 4 rfl)
  refine AW.one (i := 11) (by kernel_rfl) ?_
  refine ⟨_, rfl, ?_⟩
  refine LW.call pl106 rfl rfl ?_
  refine Ret.mono q ?_
  rintro _ w131 ⟨rfl, hs⟩
  have hS30 := hS29.add hs
  refine LW.nil ⟨rfl, (.w (by kernel_rfl) (.w (by kernel_rfl) (.w (by kernel_rfl) Kept.n))), ?_⟩
  refine gs ?_
  rw [show x0.part.heap.arena.length = (x0.part.heap.arena.set (y3.1 : Int).toNat (DObj.mk y8.gen y8.kind y8.box y8.res y8.til y8.pages y8.wait y8.got y8.ran y8.mark y8.links y8.data y113)).length from (len_set rfl)] at hS30
  obtain ⟨j132, hj132, h133⟩ := obind h
  refine CW.jn [0, 3, 8, 11, 12] [1, 2, 3, 4] [(143, .bool j132)] hS30 (h1 := ?_) (h2 := ?_)
  · have h := hj132
    refine CW.draw (by kernel_rfl) ?_
    have hS31 := hS30.drew
    refine go ?_
    rcases bcases (decide (y130 ≥ 0)) with hc134 | hc134
    · replace h := bcT h hc134
      refine go ?_
      replace ⟨y135, hy135, h⟩ := obind h
      obtain ⟨b138, o139, hae, hp136, hq137⟩ := hS31.ownIdx (α := DObj) (i := 4) rfl hy135
      cases hae
      refine AW.u (i := 5) rfl (by kernel_rfl) (want_of rfl rfl hc134) rfl (Pur.ix Try.underlying33 sz84 rfl rfl hp136 (by rw [show x0.part.heap.arena.length = (x0.part.heap.arena.set (y3.1 : Int).toNat (DObj.mk y8.gen y8.kind y8.box y8.res y8.til y8.pages y8.wait y8.got y8.ran y8.mark y8.links y8.data y113)).length from (len_set rfl)]; exact hq137)) ?_
      refine go ?_
      obtain ⟨F140, ho141, hS32⟩ := hS31.freeze (α := DObj) 4 rfl
      obtain ⟨b142, o143, cs144, hae, hb147, _, _, hd145, hk146⟩ := ho141.rdF.idx hy135
      cases hae
      obtain ⟨a148, c149, a151, c152, a154, c155, rfl, hr150, hr153, hr156⟩ := hd145
      refine AW.take (i := 7) rfl (by kernel_rfl) (want_of rfl rfl hc134) rfl (Ldr.old w131.drew ag3 rfl (hk146 6 _ rfl)) (hS32.zC 4 rfl hb147) ?_
      refine go ?_
      have hS33 := hS32.thaw (α := DObj) 4 rfl ho141
      cases oi h
      exact ⟨⟨rfl, rfl, rfl, rfl, rfl, rfl, trivial⟩, hS33.pick [1, 2, 3, 4] rfl rfl⟩
    replace h := bcF h hc134
    refine go ?_
    cases oi h
    exact ⟨⟨rfl, rfl, rfl, rfl, rfl, rfl, trivial⟩, hS31.pick [1, 2, 3, 4] rfl rfl⟩
  intro e w157 hS34
  have h := h133
  refine gs ?_
  obtain ⟨j158, hj158, h159⟩ := obind h
  refine CW.cut (fun e wb => En e [(0, .pointer (some ⟨g0, 0, none⟩)), (11, .pointer (some ⟨g100, 0, none⟩))] ∧ St w0 F wb [bx g100 146 [.int .i64 y91.src, .int .i64 y91.n], bx g0 140 [.slice a0_0 x0.part.label.levels.length c0_0, .slice a0_1 x0.part.own.length c0_1, .slice a0_2 x0.part.tree.length c0_2, .slice (some ⟨b11, o12, none⟩) j158.length c0_3, .int .i64 y3.2.2.part.heap.gc.phase, .int .i64 y3.2.2.part.heap.gc.pos, .int .i64 y3.2.2.part.heap.gc.round, .slice a0_7 x0.part.heap.gc.grey.length c0_7, .slice a0_8 x0.part.taps.length c0_8, .int .i64 y3.2.2.part.next, .int .i64 y3.2.2.part.want, .int .i64 y3.2.2.part.spent.pages, .int .i64 y3.2.2.part.spent.rent, .int .i64 y3.2.2.part.spent.cpu, .int .i64 y3.2.2.part.press, .int .i64 y3.2.2.part.lost, .int .i64 y3.2.2.me, .int .i64 y3.2.2.now, .int .i64 y3.2.2.thread], sl (some ⟨b11, o12, none⟩) c0_3 j158]) ?_ ?_
  · have h := hj158
    refine cd (fun hc160 => ?_) fun hc160 => ?_
    · replace h := bcT h hc160
      refine CW.draw (by kernel_rfl) ?_
      have hS35 := hS34.drew
      refine go ?_
      replace ⟨y161, hy161, h⟩ := obind h
      obtain ⟨b164, o165, hae, hp162, hq163⟩ := hS35.ownIdx (α := DObj) (i := 3) rfl hy161
      cases hae
      refine AW.u (i := 6) rfl (by kernel_rfl) rfl rfl (Pur.ix Try.underlying33 sz84 rfl rfl hp162 (by rw [show x0.part.heap.arena.length = (x0.part.heap.arena.set (y3.1 : Int).toNat (DObj.mk y8.gen y8.kind y8.box y8.res y8.til y8.pages y8.wait y8.got y8.ran y8.mark y8.links y8.data y113)).length from (len_set rfl)]; exact hq163)) ?_
      refine go ?_
      replace ⟨y166, hy166, h⟩ := obind h
      refine AW.one (i := 8) (by kernel_rfl) ?_
      refine ⟨_, rfl, ?_⟩
      refine LW.stE (M := []) (L := [bx g100 146 [.int .i64 y91.src, .int .i64 y91.n], bx g0 140 [.slice a0_0 x0.part.label.levels.length c0_0, .slice a0_1 x0.part.own.length c0_1, .slice a0_2 x0.part.tree.length c0_2, .slice (some ⟨b11, o12, none⟩) ((x0.part.heap.arena.set (y3.1 : Int).toNat (DObj.mk y8.gen y8.kind y8.box y8.res y8.til y8.pages y8.wait y8.got y8.ran y8.mark y8.links y8.data y113)).length) c0_3, .int .i64 y3.2.2.part.heap.gc.phase, .int .i64 y3.2.2.part.heap.gc.pos, .int .i64 y3.2.2.part.heap.gc.round, .slice a0_7 x0.part.heap.gc.grey.length c0_7, .slice a0_8 x0.part.taps.length c0_8, .int .i64 y3.2.2.part.next, .int .i64 y3.2.2.part.want, .int .i64 y3.2.2.part.spent.pages, .int .i64 y3.2.2.part.spent.rent, .int .i64 y3.2.2.part.spent.cpu, .int .i64 y3.2.2.part.press, .int .i64 y3.2.2.part.lost, .int .i64 y3.2.2.me, .int .i64 y3.2.2.now, .int .i64 y3.2.2.thread], bx g1 67 [.int .i64 x1.kind, .int .i64 x1.a, .int .i64 x1.b, .int .i64 x1.c, .int .i64 x1.d, .int .i64 x1.e], sl (some ⟨b11, o12, none⟩) c0_3 (x0.part.heap.arena.set (y3.1 : Int).toNat (DObj.mk y8.gen y8.kind y8.box y8.res y8.til y8.pages y8.wait y8.got y8.ran y8.mark y8.links y8.data y113))]) (z := y161) (z' := (DObj.mk y161.gen y161.kind y161.box y161.res y161.til y161.pages 0 y161.got y161.ran y161.mark y161.links y161.data y161.queue)) (o := 6) hS35 (i := 3) rfl hy161 ag3 rfl (by show _ = o12 + (y130 : Int).toNat * 13 + 6; omega) rfl rfl rfl rfl (leafF (fun w cs F hF => by obtain ⟨q0, r0, q1, r1, q2, r2, rfl, hH⟩ := hF; exact ⟨q0, r0, q1, r1, q2, r2, rfl, hH⟩)) ?_
      intro w167 hS36 hf
      rw [Option.some.inj hy166] at hS36
      refine LW.nil ⟨rfl, (.c (St.cell (h := hS36) (i := 2) rfl) Kept.n), ?_⟩
      replace ⟨y168, hy168, h⟩ := obind h
      obtain ⟨b171, o172, hae, hp169, hq170⟩ := hS36.ownIdx (α := DObj) (i := 3) rfl hy168
      cases hae
      refine AW.u (i := 9) rfl (by kernel_rfl) rfl rfl (Pur.ix Try.underlying33 sz84 rfl rfl hp169 (by rw [show x0.part.heap.arena.length = y166.length from ((len_set rfl).trans (len_set (Option.some.inj hy166)))]; exact hq170)) ?_
      refine go ?_
      replace ⟨y173, hy173, h⟩ := obind h
      refine AW.one (i := 11) (by kernel_rfl) ?_
      refine ⟨_, rfl, ?_⟩
      refine LW.stE (M := []) (L := [bx g100 146 [.int .i64 y91.src, .int .i64 y91.n], bx g0 140 [.slice a0_0 x0.part.label.levels.length c0_0, .slice a0_1 x0.part.own.length c0_1, .slice a0_2 x0.part.tree.length c0_2, .slice (some ⟨b11, o12, none⟩) ((x0.part.heap.arena.set (y3.1 : Int).toNat (DObj.mk y8.gen y8.kind y8.box y8.res y8.til y8.pages y8.wait y8.got y8.ran y8.mark y8.links y8.data y113)).length) c0_3, .int .i64 y3.2.2.part.heap.gc.phase, .int .i64 y3.2.2.part.heap.gc.pos, .int .i64 y3.2.2.part.heap.gc.round, .slice a0_7 x0.part.heap.gc.grey.length c0_7, .slice a0_8 x0.part.taps.length c0_8, .int .i64 y3.2.2.part.next, .int .i64 y3.2.2.part.want, .int .i64 y3.2.2.part.spent.pages, .int .i64 y3.2.2.part.spent.rent, .int .i64 y3.2.2.part.spent.cpu, .int .i64 y3.2.2.part.press, .int .i64 y3.2.2.part.lost, .int .i64 y3.2.2.me, .int .i64 y3.2.2.now, .int .i64 y3.2.2.thread], bx g1 67 [.int .i64 x1.kind, .int .i64 x1.a, .int .i64 x1.b, .int .i64 x1.c, .int .i64 x1.d, .int .i64 x1.e], sl (some ⟨b11, o12, none⟩) c0_3 y166]) (z := y168) (z' := (DObj.mk y168.gen y168.kind y168.box y168.res y168.til y168.pages y168.wait x1.b y168.ran y168.mark y168.links y168.data y168.queue)) (o := 7) hS36 (i := 3) rfl hy168 ag3 rfl (by show _ = o12 + (y130 : Int).toNat * 13 + 7; omega) rfl rfl rfl rfl (leafF (fun w cs F hF => by obtain ⟨q0, r0, q1, r1, q2, r2, rfl, hH⟩ := hF; exact ⟨q0, r0, q1, r1, q2, r2, rfl, hH⟩)) ?_
      intro w174 hS37 hf
      rw [Option.some.inj hy173] at hS37
      refine LW.nil ⟨rfl, (.w (by kernel_rfl) Kept.n), ?_⟩
      refine go ?_
      rw [show (x0.part.heap.arena.set (y3.1 : Int).toNat (DObj.mk y8.gen y8.kind y8.box y8.res y8.til y8.pages y8.wait y8.got y8.ran y8.mark y8.links y8.data y113)).length = y173.length from ((len_set (Option.some.inj hy166)).trans (len_set (Option.some.inj hy173)))] at hS37
      cases oi h
      exact ⟨⟨rfl, rfl, trivial⟩, hS37.pick [0, 1, 3] rfl rfl⟩
    replace h := bcF h hc160
    refine go ?_
    cases oi h
    exact ⟨⟨rfl, rfl, trivial⟩, hS34.pick [0, 1, 3] rfl rfl⟩
  rintro e w175 ⟨hE, hS38⟩
  obtain ⟨e, rfl⟩ := hE.out
  have h := h159
  refine go ?_
  refine CW.draw (by kernel_rfl) ?_
  have hS39 := hS38.drew
  refine go ?_
  replace h := Option.some.inj h
  subst h
  exact And.intro trivial ⟨_, Res.two (resOne.t rfl) (resOne.t rfl), (some ⟨b11, o12, none⟩), c0_3, rfl, hS39.pick [1, 2] rfl rfl⟩

theorem W_i_readOther {w0 : World} {N : Nat} {x0 : DWorld} {x1 : Int} {x2 : Int} {x3 : DCall} {r : Int × Int} (h : F_i_readOther N x0 x1 x2 x3 = some r) {a0_1 : Option Addr} {n0_1 c0_1 : Nat} (hn0_1 : n0_1 = x0.parts.length) (hr0_1 : rdS (Bor w0 []) w0 a0_1 c0_1 x0.parts) :
    Ret Try.prog 93 #[.agg #[.int .i64 x0.now, .slice a0_1 n0_1 c0_1], .int .i64 x1, .int .i64 x2, .agg #[.int .i64 x3.kind, .int .i64 x3.a, .int .i64 x3.b, .int .i64 x3.c, .int .i64 x3.d, .int .i64 x3.e]] w0 (fun v w => v = .tuple #[.int .i64 r.1, .int .i64 r.2] ∧ St w0 [] w []) := by
  subst hn0_1
  unfold F_i_readOther at h
  refine Ret.fn Try.func93 fun e => ?_
  have hS1 := St.start w0
  refine go ?_
  refine LW.bo hS1 fun g1 w2 hS2 => ?_
  refine LW.bo hS2 fun g3 w4 hS3 => ?_
  refine go ?_
  replace ⟨y5, hy5, h⟩ := obind h
  refine LW.c0 (W_i_mayFlow hy5 rfl (hS3.rB hr0_1)) hS3 fun w6 hS4 => ?_
  refine go ?_
  refine cd (fun hc7 => ?_) fun hc7 => ?_
  · replace h := bcT h hc7
    refine go ?_
    cases h
    exact And.intro trivial ⟨_, Res.two (resOne.t rfl) (resOne.t rfl), rfl, hS4.pick [] rfl rfl⟩
  replace h := bcF h hc7
  refine go ?_
  refine CW.draw (by kernel_rfl) ?_
  have hS5 := hS4.drew
  refine go ?_
  replace ⟨y8, hy8, h⟩ := obind h
  obtain ⟨b11, o12, cs13, hae, hb16, hp9, hq10, hd14, hk15⟩ := hr0_1.idx hy8
  subst hae
  obtain ⟨a17, c18, a20, c21, a23, c24, a26, c27, a29, c30, a32, c33, rfl, hr19, hr22, hr25, hr28, hr31, hr34⟩ := hd14
  refine AW.u (i := 3) rfl (by kernel_rfl) rfl rfl (Pur.ix Try.underlying57 sz40 rfl rfl hp9 hq10) ?_
  refine AW.take (i := 4) rfl (by kernel_rfl) rfl rfl (Ldr.oldN w0 ag40 rfl rfl (fun j u hu => hk15 j u hu)) (hS5.same _ hb16.1 hb16.2) ?_
  refine go ?_
  replace ⟨y35, hy35, h⟩ := obind h
  have q := W_i_copyPart (w0 := w6.drew) hy35 rfl (hS5.rB hr19) rfl (hS5.rB hr22) rfl (hS5.rB hr25) rfl (hS5.rB hr28) rfl (hS5.rB hr31) rfl (hS5.rB hr34)
  refine AW.one (i := 5) (by kernel_rfl) ?_
  refine ⟨_, rfl, ?_⟩
  refine LW.call pl102 rfl rfl ?_
  refine Ret.mono q ?_
  rintro _ w48 ⟨a36, c37, a38, c39, a40, c41, a42, c43, a44, c45, a46, c47, rfl, hs⟩
  have hS6 := hS5.add hs
  refine LW.nil ⟨rfl, (.c (St.cell (h := hS6) (i := 7) rfl) (.w (by kernel_rfl) (.c (St.cell (h := hS6) (i := 7) rfl) Kept.n))), ?_⟩
  refine AW.u (i := 9) rfl (by kernel_rfl) rfl rfl (Pur.build (vs := [(0, .agg #[.slice a36 y35.label.levels.length c37, .slice a38 y35.own.length c39, .slice a40 y35.tree.length c41, .slice a42 y35.heap.arena.length c43, .int .i64 y35.heap.gc.phase, .int .i64 y35.heap.gc.pos, .int .i64 y35.heap.gc.round, .slice a44 y35.heap.gc.grey.length c45, .slice a46 y35.taps.length c47, .int .i64 y35.next, .int .i64 y35.want, .int .i64 y35.spent.pages, .int .i64 y35.spent.rent, .int .i64 y35.spent.cpu, .int .i64 y35.press, .int .i64 y35.lost]), (1, .int .i64 x2), (2, .int .i64 x0.now)]) (cs := #[.slice a36 y35.label.levels.length c37, .slice a38 y35.own.length c39, .slice a40 y35.tree.length c41, .slice a42 y35.heap.arena.length c43, .int .i64 y35.heap.gc.phase, .int .i64 y35.heap.gc.pos, .int .i64 y35.heap.gc.round, .slice a44 y35.heap.gc.grey.length c45, .slice a46 y35.taps.length c47, .int .i64 y35.next, .int .i64 y35.want, .int .i64 y35.spent.pages, .int .i64 y35.spent.rent, .int .i64 y35.spent.cpu, .int .i64 y35.press, .int .i64 y35.lost, .int .i64 x2, .int .i64 x0.now, .int .i64 0]) rfl (by kernel_rfl)) ?_
  refine AW.one (i := 10) (by kernel_rfl) ?_
  refine ⟨_, rfl, ?_⟩
  refine LW.bo hS6 fun g49 w50 hS7 => ?_
  refine LW.nil ⟨rfl, (.c (St.cell (h := hS7) (i := 8) rfl) (.c (hS7.same _ hb16.1 hb16.2) (.c (St.cell (h := hS7) (i := 8) rfl) Kept.n))), ?_⟩
  refine go ?_
  replace ⟨y51, hy51, h⟩ := obind h
  obtain ⟨F52, hL53⟩ := hS7.lendI [0, 4] [1, 2, 3, 5, 6, 7, 8]
  refine LW.cl (W_i_caller_data hy51 (hL53.rI 0 rfl) (hL53.rI 1 rfl) (hL53.rI 2 rfl) (hL53.rI 3 rfl) (hL53.rI 4 rfl) hL53.st) ?_
  rintro _ w56 ⟨a54, c55, rfl, hs⟩
  have hS8 := hL53.back _ _ hs
  refine go ?_
  cases h
  exact And.intro trivial ⟨_, Res.two (resOne.t rfl) (resOne.t rfl), rfl, hS8.pick [] rfl rfl⟩

end Go.Kx
