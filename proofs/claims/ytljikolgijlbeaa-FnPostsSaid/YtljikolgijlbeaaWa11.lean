/- Each call returns what the plain function says. Printed by drive.py. -/
import Derived.Test.YtljikolgijlbeaaFa
import Derived.Test.YtljikolgijlbeaaPu
import Derived.Test.YtljikolgijlbeaaWa0
import Derived.Test.YtljikolgijlbeaaWa1
import Derived.Test.YtljikolgijlbeaaWa2
import Derived.Test.YtljikolgijlbeaaWa8
import Derived.Test.YtljikolgijlbeaaWa9
import Derived.Test.YtljikolgijlbeaaWa10
namespace Go.Kx
open Go Go.RowKit Go.Proofs
set_option maxRecDepth 10000
set_option maxHeartbeats 8000000
set_option linter.unusedVariables false
set_option linter.unusedSimpArgs false
theorem W_i_caller_data {w0 : World} {F : List Nat} {N : Nat} {x0 : DCaller} {x1 : DCall} {r : Int × Int × DCaller} (h : F_i_caller_data N x0 x1 = some r) {g0 : Nat} {a0_0 : Option Addr} {c0_0 : Nat} (hr0_0 : rdS (Bor w0 F) w0 a0_0 c0_0 x0.part.label.levels) {a0_1 : Option Addr} {c0_1 : Nat} (hr0_1 : rdS (Bor w0 F) w0 a0_1 c0_1 x0.part.own) {a0_2 : Option Addr} {c0_2 : Nat} (hr0_2 : rdS (Bor w0 F) w0 a0_2 c0_2 x0.part.tree) {a0_3 : Option Addr} {c0_3 : Nat} {a0_7 : Option Addr} {c0_7 : Nat} (hr0_7 : rdS (Bor w0 F) w0 a0_7 c0_7 x0.part.heap.gc.grey) {a0_8 : Option Addr} {c0_8 : Nat} (hr0_8 : rdS (Bor w0 F) w0 a0_8 c0_8 x0.part.taps) (hS : St w0 F w0 [bx g0 140 [.slice a0_0 x0.part.label.levels.length c0_0, .slice a0_1 x0.part.own.length c0_1, .slice a0_2 x0.part.tree.length c0_2, .slice a0_3 x0.part.heap.arena.length c0_3, .int .i64 x0.part.heap.gc.phase, .int .i64 x0.part.heap.gc.pos, .int .i64 x0.part.heap.gc.round, .slice a0_7 x0.part.heap.gc.grey.length c0_7, .slice a0_8 x0.part.taps.length c0_8, .int .i64 x0.part.next, .int .i64 x0.part.want, .int .i64 x0.part.spent.pages, .int .i64 x0.part.spent.rent, .int .i64 x0.part.spent.cpu, .int .i64 x0.part.press, .int .i64 x0.part.lost, .int .i64 x0.me, .int .i64 x0.now, .int .i64 x0.thread], sl a0_3 c0_3 x0.part.heap.arena]) :
    Ret Try.prog 105 #[.pointer (some ⟨g0, 0, none⟩), .agg #[.int .i64 x1.kind, .int .i64 x1.a, .int .i64 x1.b, .int .i64 x1.c, .int .i64 x1.d, .int .i64 x1.e]] w0 (fun v w => ∃ ab0_3 cb0_3, v = .tuple #[.int .i64 r.1, .int .i64 r.2.1] ∧ St w0 F w [bx g0 140 [.slice a0_0 x0.part.label.levels.length c0_0, .slice a0_1 x0.part.own.length c0_1, .slice a0_2 x0.part.tree.length c0_2, .slice ab0_3 r.2.2.part.heap.arena.length cb0_3, .int .i64 r.2.2.part.heap.gc.phase, .int .i64 r.2.2.part.heap.gc.pos, .int .i64 r.2.2.part.heap.gc.round, .slice a0_7 x0.part.heap.gc.grey.length c0_7, .slice a0_8 x0.part.taps.length c0_8, .int .i64 r.2.2.part.next, .int .i64 r.2.2.part.want, .int .i64 r.2.2.part.spent.pages, .int .i64 r.2.2.part.spent.rent, .int .i64 r.2.2.part.spent.cpu, .int .i64 r.2.2.part.press, .int .i64 r.2.2.part.lost, .int .i64 r.2.2.me, .int .i64 r.2.2.now, .int .i64 r.2.2.thread], sl ab0_3 cb0_3 r.2.2.part.heap.arena]) := by
  unfold F_i_caller_data at h
  refine Ret.fn Try.func105 fun e => ?_
  refine go ?_
  refine LW.bo hS fun g1 w2 hS1 => ?_
  refine go ?_
  replace ⟨y3, hy3, h⟩ := obind h
  obtain ⟨F4, hL5⟩ := hS1.lendI [1] [0, 2]
  refine LW.cl (W_i_caller_slot hy3 (hL5.rB hr0_0) (hL5.rB hr0_1) (hL5.rB hr0_2) (hL5.rI 1 rfl) (hL5.rB hr0_7) (hL5.rB hr0_8) hL5.st) ?_
  rintro _ w6 ⟨rfl, hs⟩
  have hS2 := hL5.back _ _ hs
  refine go ?_
  refine CW.fl [0, 3, 6, 7, 17] fun e => ?_
  refine cd (fun hc7 => ?_) fun hc7 => ?_
  · replace h := bcT h hc7
    refine go ?_
    replace h := Option.some.inj h
    subst h
    exact And.intro trivial ⟨_, Res.two (resOne.t rfl) (resOne.t rfl), a0_3, c0_3, rfl, hS2.pick [0, 2] rfl rfl⟩
  replace h := bcF h hc7
  refine go ?_
  refine LW.u (Pur.nc rfl) rfl ?_
  refine go ?_
  replace ⟨y8, hy8, h⟩ := obind h
  obtain ⟨b11, o12, hae, hp9, hq10⟩ := hS2.ownIdx (α := DObj) (i := 2) rfl hy8
  subst hae
  refine LW.u (Pur.ix Try.underlying33 sz84 rfl rfl hp9 hq10) rfl ?_
  refine go ?_
  obtain ⟨F13, ho14, hS3⟩ := hS2.freeze (α := DObj) 2 rfl
  obtain ⟨b15, o16, cs17, hae, hb20, _, _, hd18, hk19⟩ := ho14.rdF.idx hy8
  cases hae
  obtain ⟨a21, c22, a24, c25, a27, c28, rfl, hr23, hr26, hr29⟩ := hd18
  refine LW.l (Ldr.old w6 ag24 rfl (hk19 11 _ rfl)) (hS3.zC 2 rfl hb20) rfl ?_
  refine go ?_
  replace ⟨y30, hy30, h⟩ := obind h
  refine LW.c0 (W_i_within hy30) hS3 fun w31 hS4 => ?_
  refine go ?_
  refine CW.fl [0, 3, 8, 35] fun e => ?_
  refine cd (fun hc32 => ?_) fun hc32 => ?_
  · replace h := bcT h hc32
    refine go ?_
    replace h := Option.some.inj h
    subst h
    have hS5 := hS4.thaw (α := DObj) 2 rfl ho14
    exact And.intro trivial ⟨_, Res.two (resOne.t rfl) (resOne.t rfl), (some ⟨b11, o12, none⟩), c0_3, rfl, hS5.pick [0, 2] rfl rfl⟩
  replace h := bcF h hc32
  refine go ?_
  refine cd (fun hc33 => ?_) fun hc33 => ?_
  · replace h := bcT h hc33
    refine go ?_
    refine CW.draw (by kernel_rfl) ?_
    have hS6 := hS4.drew
    refine go ?_
    replace ⟨y34, hy34, h⟩ := obind h
    obtain ⟨b37, o38, cs39, hae, hb42, hp35, hq36, hd40, hk41⟩ := hr26.idx hy34
    subst hae
    obtain rfl := hd40
    refine AW.u (i := 3) rfl (by kernel_rfl) rfl rfl (Pur.ix Try.underlying24 sz3 rfl rfl hp35 hq36) ?_
    refine AW.take (i := 4) rfl (by kernel_rfl) rfl rfl (Ldr.old w6 ag3 rfl (hk41 0 _ rfl)) (hS6.zC 2 rfl hb42) ?_
    refine go ?_
    replace h := Option.some.inj h
    subst h
    have hS7 := hS6.thaw (α := DObj) 2 rfl ho14
    exact And.intro trivial ⟨_, Res.two (resOne.t rfl) (resOne.t rfl), (some ⟨b11, o12, none⟩), c0_3, rfl, hS7.pick [0, 2] rfl rfl⟩
  replace h := bcF h hc33
  refine go ?_
  replace ⟨y43, hy43, h⟩ := obind h
  refine LW.c0 (W_i_within hy43) hS4 fun w44 hS8 => ?_
  refine go ?_
  refine cd (fun hc45 => ?_) fun hc45 => ?_
  · replace h := bcT h hc45
    refine go ?_
    replace h := Option.some.inj h
    subst h
    have hS9 := hS8.thaw (α := DObj) 2 rfl ho14
    exact And.intro trivial ⟨_, Res.two (resOne.t rfl) (resOne.t rfl), (some ⟨b11, o12, none⟩), c0_3, rfl, hS9.pick [0, 2] rfl rfl⟩
  replace h := bcF h hc45
  refine go ?_
  replace ⟨y46, hy46, h⟩ := obind h
  obtain ⟨b49, o50, cs51, hae, hb54, hp47, hq48, hd52, hk53⟩ := hr26.idx hy46
  subst hae
  obtain rfl := hd52
  refine LW.u (Pur.ix Try.underlying24 sz3 rfl rfl hp47 hq48) rfl ?_
  have hn55 := fun (j : Nat) (u : Value) (hu : ([.int .i64 y8.gen, .int .i64 y8.kind, .int .i64 y8.box, .int .i64 y8.res, .int .i64 y8.til, .int .i64 y8.pages, .int .i64 y8.wait, .int .i64 y8.got, .int .i64 y8.ran, .bool y8.mark, .slice a21 y8.links.length c22, .slice (some ⟨b49, o50, none⟩) y8.data.length c25, .slice a27 y8.queue.length c28] : List Value)[j]? = some u) => (World.cell?_of_block (hS8.zC 2 rfl hb20)).trans (hk19 j u hu)
  have hS10 := hS8.thaw (α := DObj) 2 rfl ho14
  obtain ⟨Fx56, ho57, hf58⟩ := hS10.focus (α := DObj) (cs := [.int .i64 y8.gen, .int .i64 y8.kind, .int .i64 y8.box, .int .i64 y8.res, .int .i64 y8.til, .int .i64 y8.pages, .int .i64 y8.wait, .int .i64 y8.got, .int .i64 y8.ran, .bool y8.mark, .slice a21 y8.links.length c22, .slice (some ⟨b49, o50, none⟩) y8.data.length c25, .slice a27 y8.queue.length c28]) 2 rfl hy8 rfl hn55
  obtain ⟨a61, c62, a63, c64, a65, c66, hc59, hH60⟩ := ho57
  cases hc59
  have hS11 := hf58 [sl a21 c22 y8.links, sl (some ⟨b49, o50, none⟩) c25 y8.data, sl a27 c28 y8.queue] hH60
  replace ⟨y67, hy67, h⟩ := obind h
  refine LW.stE (M := []) (L := [sl a21 c22 y8.links, sl (some ⟨b49, o50, none⟩) c25 y8.data, sl a27 c28 y8.queue, bx g0 140 [.slice a0_0 x0.part.label.levels.length c0_0, .slice a0_1 x0.part.own.length c0_1, .slice a0_2 x0.part.tree.length c0_2, .slice (some ⟨b11, o12, none⟩) x0.part.heap.arena.length c0_3, .int .i64 y3.2.2.part.heap.gc.phase, .int .i64 y3.2.2.part.heap.gc.pos, .int .i64 y3.2.2.part.heap.gc.round, .slice a0_7 x0.part.heap.gc.grey.length c0_7, .slice a0_8 x0.part.taps.length c0_8, .int .i64 y3.2.2.part.next, .int .i64 y3.2.2.part.want, .int .i64 y3.2.2.part.spent.pages, .int .i64 y3.2.2.part.spent.rent, .int .i64 y3.2.2.part.spent.cpu, .int .i64 y3.2.2.part.press, .int .i64 y3.2.2.part.lost, .int .i64 y3.2.2.me, .int .i64 y3.2.2.now, .int .i64 y3.2.2.thread], bx g1 67 [.int .i64 x1.kind, .int .i64 x1.a, .int .i64 x1.b, .int .i64 x1.c, .int .i64 x1.d, .int .i64 x1.e], hole DObj (some ⟨b11, o12, none⟩) c0_3 x0.part.heap.arena (y3.1 : Int).toNat [.int .i64 y8.gen, .int .i64 y8.kind, .int .i64 y8.box, .int .i64 y8.res, .int .i64 y8.til, .int .i64 y8.pages, .int .i64 y8.wait, .int .i64 y8.got, .int .i64 y8.ran, .bool y8.mark, .slice a21 y8.links.length c22, .slice (some ⟨b49, o50, none⟩) y8.data.length c25, .slice a27 y8.queue.length c28]]) (z := y46) (z' := x1.c) (o := 0) hS11 (i := 1) rfl hy46 ag3 rfl (by show _ = o50 + (x1.b : Int).toNat * 1 + 0; omega) rfl rfl rfl rfl (whole (fun w G hG => by cases (show G = [] from hG); exact ⟨rfl, rfl⟩)) ?_
  intro w68 hS12 hf
  rw [Option.some.inj hy67] at hS12
  refine go ?_
  replace h := Option.some.inj h
  subst h
  rw [show y8.data.length = y67.length from (len_set (Option.some.inj hy67))] at hS12
  have hS13 := hS12.pick (M := [sl a21 c22 y8.links, sl (some ⟨b49, o50, none⟩) c25 y67, sl a27 c28 y8.queue] ++ [bx g0 140 [.slice a0_0 x0.part.label.levels.length c0_0, .slice a0_1 x0.part.own.length c0_1, .slice a0_2 x0.part.tree.length c0_2, .slice (some ⟨b11, o12, none⟩) x0.part.heap.arena.length c0_3, .int .i64 y3.2.2.part.heap.gc.phase, .int .i64 y3.2.2.part.heap.gc.pos, .int .i64 y3.2.2.part.heap.gc.round, .slice a0_7 x0.part.heap.gc.grey.length c0_7, .slice a0_8 x0.part.taps.length c0_8, .int .i64 y3.2.2.part.next, .int .i64 y3.2.2.part.want, .int .i64 y3.2.2.part.spent.pages, .int .i64 y3.2.2.part.spent.rent, .int .i64 y3.2.2.part.spent.cpu, .int .i64 y3.2.2.part.press, .int .i64 y3.2.2.part.lost, .int .i64 y3.2.2.me, .int .i64 y3.2.2.now, .int .i64 y3.2.2.thread], bx g1 67 [.int .i64 x1.kind, .int .i64 x1.a, .int .i64 x1.b, .int .i64 x1.c, .int .i64 x1.d, .int .i64 x1.e], hole DObj (some ⟨b11, o12, none⟩) c0_3 x0.part.heap.arena (y3.1 : Int).toNat [.int .i64 y8.gen, .int .i64 y8.kind, .int .i64 y8.box, .int .i64 y8.res, .int .i64 y8.til, .int .i64 y8.pages, .int .i64 y8.wait, .int .i64 y8.got, .int .i64 y8.ran, .bool y8.mark, .slice a21 y8.links.length c22, .slice (some ⟨b49, o50, none⟩) y67.length c25, .slice a27 y8.queue.length c28]]) [0, 1, 2, 3, 4, 5] rfl rfl
  have hS14 := hS13.unfocus (M := [sl a21 c22 y8.links, sl (some ⟨b49, o50, none⟩) c25 y67, sl a27 c28 y8.queue]) (L := [bx g0 140 [.slice a0_0 x0.part.label.levels.length c0_0, .slice a0_1 x0.part.own.length c0_1, .slice a0_2 x0.part.tree.length c0_2, .slice (some ⟨b11, o12, none⟩) x0.part.heap.arena.length c0_3, .int .i64 y3.2.2.part.heap.gc.phase, .int .i64 y3.2.2.part.heap.gc.pos, .int .i64 y3.2.2.part.heap.gc.round, .slice a0_7 x0.part.heap.gc.grey.length c0_7, .slice a0_8 x0.part.taps.length c0_8, .int .i64 y3.2.2.part.next, .int .i64 y3.2.2.part.want, .int .i64 y3.2.2.part.spent.pages, .int .i64 y3.2.2.part.spent.rent, .int .i64 y3.2.2.part.spent.cpu, .int .i64 y3.2.2.part.press, .int .i64 y3.2.2.part.lost, .int .i64 y3.2.2.me, .int .i64 y3.2.2.now, .int .i64 y3.2.2.thread], bx g1 67 [.int .i64 x1.kind, .int .i64 x1.a, .int .i64 x1.b, .int .i64 x1.c, .int .i64 x1.d, .int .i64 x1.e], hole DObj (some ⟨b11, o12, none⟩) c0_3 x0.part.heap.arena (y3.1 : Int).toNat [.int .i64 y8.gen, .int .i64 y8.kind, .int .i64 y8.box, .int .i64 y8.res, .int .i64 y8.til, .int .i64 y8.pages, .int .i64 y8.wait, .int .i64 y8.got, .int .i64 y8.ran, .bool y8.mark, .slice a21 y8.links.length c22, .slice (some ⟨b49, o50, none⟩) y67.length c25, .slice a27 y8.queue.length c28]]) (y := (DObj.mk y8.gen y8.kind y8.box y8.res y8.til y8.pages y8.wait y8.got y8.ran y8.mark y8.links y67 y8.queue)) 2 rfl (fun w G hG => ⟨a21, c22, (some ⟨b49, o50, none⟩), c25, a27, c28, rfl, hG⟩)
  rw [show x0.part.heap.arena.length = (x0.part.heap.arena.set (y3.1 : Int).toNat (DObj.mk y8.gen y8.kind y8.box y8.res y8.til y8.pages y8.wait y8.got y8.ran y8.mark y8.links y67 y8.queue)).length from (len_set rfl)] at hS14
  exact And.intro trivial ⟨_, Res.two (resOne.t rfl) (resOne.t rfl), (some ⟨b11, o12, none⟩), c0_3, rfl, hS14.pick [0, 2] rfl rfl⟩

theorem W_i_caller_make {w0 : World} {F : List Nat} {N : Nat} {x0 : DCaller} {x1 : DCall} {r : Int × Int × DCaller} (h : F_i_caller_make N x0 x1 = some r) {g0 : Nat} {a0_0 : Option Addr} {c0_0 : Nat} (hr0_0 : rdS (Bor w0 F) w0 a0_0 c0_0 x0.part.label.levels) {a0_1 : Option Addr} {c0_1 : Nat} (hr0_1 : rdS (Bor w0 F) w0 a0_1 c0_1 x0.part.own) {a0_2 : Option Addr} {c0_2 : Nat} {a0_3 : Option Addr} {c0_3 : Nat} {a0_7 : Option Addr} {c0_7 : Nat} {a0_8 : Option Addr} {c0_8 : Nat} (hr0_8 : rdS (Bor w0 F) w0 a0_8 c0_8 x0.part.taps) (hS : St w0 F w0 [bx g0 140 [.slice a0_0 x0.part.label.levels.length c0_0, .slice a0_1 x0.part.own.length c0_1, .slice a0_2 x0.part.tree.length c0_2, .slice a0_3 x0.part.heap.arena.length c0_3, .int .i64 x0.part.heap.gc.phase, .int .i64 x0.part.heap.gc.pos, .int .i64 x0.part.heap.gc.round, .slice a0_7 x0.part.heap.gc.grey.length c0_7, .slice a0_8 x0.part.taps.length c0_8, .int .i64 x0.part.next, .int .i64 x0.part.want, .int .i64 x0.part.spent.pages, .int .i64 x0.part.spent.rent, .int .i64 x0.part.spent.cpu, .int .i64 x0.part.press, .int .i64 x0.part.lost, .int .i64 x0.me, .int .i64 x0.now, .int .i64 x0.thread], sl a0_2 c0_2 x0.part.tree, sl a0_3 c0_3 x0.part.heap.arena, sl a0_7 c0_7 x0.part.heap.gc.grey]) :
    Ret Try.prog 116 #[.pointer (some ⟨g0, 0, none⟩), .agg #[.int .i64 x1.kind, .int .i64 x1.a, .int .i64 x1.b, .int .i64 x1.c, .int .i64 x1.d, .int .i64 x1.e]] w0 (fun v w => ∃ ab0_2 cb0_2, ∃ ab0_3 cb0_3, ∃ ab0_7 cb0_7, v = .tuple #[.int .i64 r.1, .int .i64 r.2.1] ∧ St w0 F w [bx g0 140 [.slice a0_0 x0.part.label.levels.length c0_0, .slice a0_1 x0.part.own.length c0_1, .slice ab0_2 r.2.2.part.tree.length cb0_2, .slice ab0_3 r.2.2.part.heap.arena.length cb0_3, .int .i64 r.2.2.part.heap.gc.phase, .int .i64 r.2.2.part.heap.gc.pos, .int .i64 r.2.2.part.heap.gc.round, .slice ab0_7 r.2.2.part.heap.gc.grey.length cb0_7, .slice a0_8 x0.part.taps.length c0_8, .int .i64 r.2.2.part.next, .int .i64 r.2.2.part.want, .int .i64 r.2.2.part.spent.pages, .int .i64 r.2.2.part.spent.rent, .int .i64 r.2.2.part.spent.cpu, .int .i64 r.2.2.part.press, .int .i64 r.2.2.part.lost, .int .i64 r.2.2.me, .int .i64 r.2.2.now, .int .i64 r.2.2.thread], sl ab0_2 cb0_2 r.2.2.part.tree, sl ab0_3 cb0_3 r.2.2.part.heap.arena, sl ab0_7 cb0_7 r.2.2.part.heap.gc.grey]) := by
  unfold F_i_caller_make at h
  refine Ret.fn Try.func116 fun e => ?_
  refine go ?_
  refine LW.bo hS fun g1 w2 hS1 => ?_
  refine gs ?_
  obtain ⟨j3, hj3, h4⟩ := obind h
  refine CW.jn [0, 3] [0, 1, 2, 3, 4] [(42, .bool j3)] hS1 (h1 := ?_) (h2 := ?_)
  · have h := hj3
    refine CW.draw (by kernel_rfl) ?_
    have hS2 := hS1.drew
    refine go ?_
    replace ⟨y5, hy5, h⟩ := obind h
    have q := W_i_within (w0 := w2.drew) hy5
    refine AW.one (i := 2) (by kernel_rfl) ?_
    refine ⟨_, rfl, ?_⟩
    refine LW.call pl52 rfl rfl ?_
    refine Ret.mono q ?_
    rintro _ w6 ⟨rfl, hs⟩
    have hS3 := hS2.add hs
    refine LW.nil ⟨rfl, (.w (by kernel_rfl) Kept.n), ?_⟩
    refine go ?_
    rcases bcases (!y5) with hc7 | hc7
    · replace h := bcT h hc7
      refine go ?_
      cases oi h
      exact ⟨⟨rfl, rfl, rfl, trivial⟩, hS3.pick [0, 1, 2, 3, 4] rfl rfl⟩
    replace h := bcF h hc7
    refine go ?_
    replace ⟨y8, hy8, h⟩ := obind h
    have q := W_i_within (w0 := w6) hy8
    refine AW.one (i := 7) (by kernel_rfl) ?_
    refine ⟨_, rfl, ?_⟩
    refine (LW.gY (want_of rfl rfl hc7) ?_)
    refine LW.call pl52 rfl rfl ?_
    refine Ret.mono q ?_
    rintro _ w9 ⟨rfl, hs⟩
    have hS4 := hS3.add hs
    refine LW.nil ⟨rfl, (.w (by kernel_rfl) (.c (St.cell (h := hS4) (i := 0) rfl) Kept.n)), ?_⟩
    refine go ?_
    rcases bcases (!y8) with hc10 | hc10
    · replace h := bcT h hc10
      refine go ?_
      cases oi h
      exact ⟨⟨rfl, rfl, rfl, trivial⟩, hS4.pick [0, 1, 2, 3, 4] rfl rfl⟩
    replace h := bcF h hc10
    refine go ?_
    replace ⟨y11, hy11, h⟩ := obind h
    have q := W_i_within (w0 := w9) hy11
    refine AW.one (i := 13) (by kernel_rfl) ?_
    refine ⟨_, rfl, ?_⟩
    refine (LW.gY (want_of rfl rfl hc10) ?_)
    refine LW.call pl52 rfl rfl ?_
    refine Ret.mono q ?_
    rintro _ w12 ⟨rfl, hs⟩
    have hS5 := hS4.add hs
    refine LW.nil ⟨rfl, (.w (by kernel_rfl) (.c (St.cell (h := hS5) (i := 0) rfl) (.c (St.cell (h := hS5) (i := 0) rfl) Kept.n))), ?_⟩
    refine go ?_
    rcases bcases (!y11) with hc13 | hc13
    · replace h := bcT h hc13
      refine go ?_
      cases oi h
      exact ⟨⟨rfl, rfl, rfl, trivial⟩, hS5.pick [0, 1, 2, 3, 4] rfl rfl⟩
    replace h := bcF h hc13
    refine go ?_
    rcases bcases (decide ((IntKind.i64.wrap (x0.now + x1.d)) > 1000000)) with hc14 | hc14
    · replace h := bcT h hc14
      refine go ?_
      cases oi h
      exact ⟨⟨rfl, rfl, rfl, trivial⟩, hS5.pick [0, 1, 2, 3, 4] rfl rfl⟩
    replace h := bcF h hc14
    refine go ?_
    replace ⟨y15, hy15, h⟩ := obind h
    have q := W_i_isPlace (w0 := w12) hy15
    refine AW.one (i := 29) (by kernel_rfl) ?_
    refine ⟨_, rfl, ?_⟩
    refine (LW.gY (want_of rfl rfl hc14) ?_)
    refine LW.call pl78 rfl rfl ?_
    refine Ret.mono q ?_
    rintro _ w16 ⟨rfl, hs⟩
    have hS6 := hS5.add hs
    refine LW.nil ⟨rfl, (.w (by kernel_rfl) (.c (St.cell (h := hS6) (i := 0) rfl) (.c (St.cell (h := hS6) (i := 1) rfl) (.c (St.cell (h := hS6) (i := 0) rfl) (.c (St.cell (h := hS6) (i := 0) rfl) (.c (St.cell (h := hS6) (i := 0) rfl) Kept.n)))))), ?_⟩
    refine go ?_
    cases oi h
    exact ⟨⟨rfl, rfl, rfl, trivial⟩, hS6.pick [0, 1, 2, 3, 4] rfl rfl⟩
  intro e w17 hS7
  have h := h4
  refine go ?_
  refine cd (fun hc18 => ?_) fun hc18 => ?_
  · replace h := bcT h hc18
    refine go ?_
    replace h := Option.some.inj h
    subst h
    exact And.intro trivial ⟨_, Res.two (resOne.t rfl) (resOne.t rfl), a0_2, c0_2, a0_3, c0_3, a0_7, c0_7, rfl, hS7.pick [1, 2, 3, 4] rfl rfl⟩
  replace h := bcF h hc18
  refine go ?_
  replace ⟨y19, hy19, h⟩ := obind h
  obtain ⟨F20, hL21⟩ := hS7.lendI [1] [0, 2, 3, 4]
  refine LW.cl (W_i_caller_slot hy19 (hL21.rB hr0_0) (hL21.rB hr0_1) (hL21.rI 1 rfl) (hL21.rI 2 rfl) (hL21.rI 3 rfl) (hL21.rB hr0_8) hL21.st) ?_
  rintro _ w22 ⟨rfl, hs⟩
  have hS8 := hL21.back _ _ hs
  refine go ?_
  refine CW.fl [0, 3, 6, 7, 51] fun e => ?_
  refine cd (fun hc23 => ?_) fun hc23 => ?_
  · replace h := bcT h hc23
    refine go ?_
    replace h := Option.some.inj h
    subst h
    exact And.intro trivial ⟨_, Res.two (resOne.t rfl) (resOne.t rfl), a0_2, c0_2, a0_3, c0_3, a0_7, c0_7, rfl, hS8.pick [0, 2, 3, 4] rfl rfl⟩
  replace h := bcF h hc23
  refine go ?_
  refine LW.u (Pur.build (vs := [(0, .int .i64 x1.c), (1, .int .i64 (IntKind.i64.wrap (x1.c * x1.d)))]) (cs := #[.int .i64 x1.c, .int .i64 (IntKind.i64.wrap (x1.c * x1.d)), .int .i64 0]) rfl (by kernel_rfl)) rfl ?_
  replace ⟨y24, hy24, h⟩ := obind h
  obtain ⟨F25, hL26⟩ := hS8.lendI [0, 2] [1, 3, 4]
  refine LW.cl (W_i_caller_pay hy24 (hL26.rB hr0_0) (hL26.rB hr0_1) (hL26.rI 1 rfl) (hL26.rI 2 rfl) (hL26.rB hr0_8) hL26.st) ?_
  rintro _ w29 ⟨a27, c28, rfl, hs⟩
  have hS9 := hL26.back _ _ hs
  refine go ?_
  refine CW.fl [0, 3, 6, 65] fun e => ?_
  refine cd (fun hc30 => ?_) fun hc30 => ?_
  · replace h := bcT h hc30
    refine go ?_
    replace h := Option.some.inj h
    subst h
    exact And.intro trivial ⟨_, Res.two (resOne.t rfl) (resOne.t rfl), a27, c28, a0_3, c0_3, a0_7, c0_7, rfl, hS9.pick [0, 1, 3, 4] rfl rfl⟩
  replace h := bcF h hc30
  refine gs ?_
  obtain ⟨j31, hj31, h32⟩ := obind h
  refine CW.cut (fun e wb => ∃ (j31g8 : Nat), ∃ (j31a1 : Option Addr), ∃ (j31c1 : Nat), ∃ (j31a3 : Option Addr), ∃ (j31c3 : Nat), ∃ (j31a5 : Option Addr), ∃ (j31c5 : Nat), En e [(0, .pointer (some ⟨g0, 0, none⟩)), (3, .pointer (some ⟨g1, 0, none⟩)), (8, .pointer (some ⟨j31g8, 0, none⟩))] ∧ St w0 F wb [bx g0 140 [.slice a0_0 x0.part.label.levels.length c0_0, .slice a0_1 x0.part.own.length c0_1, .slice a27 y24.2.part.tree.length c28, .slice a0_3 x0.part.heap.arena.length c0_3, .int .i64 y24.2.part.heap.gc.phase, .int .i64 y24.2.part.heap.gc.pos, .int .i64 y24.2.part.heap.gc.round, .slice a0_7 x0.part.heap.gc.grey.length c0_7, .slice a0_8 x0.part.taps.length c0_8, .int .i64 y24.2.part.next, .int .i64 y24.2.part.want, .int .i64 y24.2.part.spent.pages, .int .i64 y24.2.part.spent.rent, .int .i64 y24.2.part.spent.cpu, .int .i64 y24.2.part.press, .int .i64 y24.2.part.lost, .int .i64 y24.2.me, .int .i64 y24.2.now, .int .i64 y24.2.thread], sl a27 c28 y24.2.part.tree, bx g1 67 [.int .i64 x1.kind, .int .i64 x1.a, .int .i64 x1.b, .int .i64 x1.c, .int .i64 x1.d, .int .i64 x1.e], sl a0_3 c0_3 x0.part.heap.arena, sl a0_7 c0_7 x0.part.heap.gc.grey, bx j31g8 84 [.int .i64 0, .int .i64 x1.a, .int .i64 y19.1, .int .i64 x1.e, .int .i64 (IntKind.i64.wrap (y24.2.now + x1.d)), .int .i64 x1.c, .int .i64 0, .int .i64 0, .int .i64 0, .bool false, .slice j31a1 j31.1.length j31c1, .slice j31a3 j31.2.1.length j31c3, .slice j31a5 j31.2.2.length j31c5], sl j31a1 j31c1 j31.1, sl j31a3 j31c3 j31.2.1, sl j31a5 j31c5 j31.2.2]) ?_ ?_
  · have h := hj31
    refine CW.draw (by kernel_rfl) ?_
    have hS10 := hS9.drew
    refine go ?_
    refine AW.all (rs := [14, 16]) (by kernel_rfl) (by simp) ⟨?_, ?_, trivial⟩
    · refine ⟨_, rfl, ?_⟩
      refine LW.bsl (α := Int) (vs := [(0, .int .i64 (-1)), (1, .int .i64 (-1))]) (cs := #[.int .i64 (-1), .int .i64 (-1)]) (l := ([-1, -1] : List Int)) rfl (by kernel_rfl) rfl rfl rfl (fun w => ⟨[.int .i64 (-1)], [.int .i64 (-1)], [], [], rfl, rfl, ⟨rfl, rfl⟩, ⟨[.int .i64 (-1)], [], [], [], rfl, rfl, ⟨rfl, rfl⟩, rfl⟩⟩) hS10 rfl ?_
      intro a38 c39 w40 hS11 hf
      refine LW.nil ⟨rfl, (.c (St.cell (h := hS11) (i := 3) rfl) (.c (St.cell (h := hS11) (i := 3) rfl) (.c (St.cell (h := hS11) (i := 1) rfl) (.c (St.cell (h := hS11) (i := 3) rfl) (.c (St.cell (h := hS11) (i := 3) rfl) Kept.n))))), ?_⟩
      refine AW.u (i := 15) rfl (by kernel_rfl) rfl rfl (Pur.build (vs := [(1, .int .i64 x1.a), (2, .int .i64 y19.1), (3, .int .i64 x1.e), (4, .int .i64 (IntKind.i64.wrap (y24.2.now + x1.d))), (5, .int .i64 x1.c), (10, .slice a38 (([-1, -1] : List Int).length) c39)]) (cs := #[.int .i64 0, .int .i64 x1.a, .int .i64 y19.1, .int .i64 x1.e, .int .i64 (IntKind.i64.wrap (y24.2.now + x1.d)), .int .i64 x1.c, .int .i64 0, .int .i64 0, .int .i64 0, .bool false, .slice a38 (([-1, -1] : List Int).length) c39, .slice none 0 0, .slice none 0 0]) rfl (by kernel_rfl)) ?_
      refine AW.one (i := 16) (by kernel_rfl) ?_
      refine ⟨_, rfl, ?_⟩
      refine LW.al hS11 fun g41 w42 hS12 => ?_
      refine LW.nil ⟨rfl, (.c (St.cell (h := hS12) (i := 4) rfl) (.c (St.cell (h := hS12) (i := 4) rfl) (.c (St.cell (h := hS12) (i := 2) rfl) (.c (St.cell (h := hS12) (i := 4) rfl) (.c (St.cell (h := hS12) (i := 4) rfl) Kept.n))))), ?_⟩
      refine AW.one (i := 17) (by kernel_rfl) ?_
      refine ⟨_, rfl, ?_⟩
      refine LW.st hS12 0 fun w43 hS13 => ?_
      refine LW.nil ⟨rfl, (.w (by kernel_rfl) (.w (by kernel_rfl) (.w (by kernel_rfl) (.w (by kernel_rfl) (.w (by kernel_rfl) Kept.n))))), ?_⟩
      refine go ?_
      have hS14 := hS13.nil (α := Int)
      have hS15 := hS14.nil (α := DMsg)
      cases oi h
      exact ⟨g41, a38, c39, none, 0, none, 0, ⟨rfl, rfl, rfl, trivial⟩, hS15.pick [4, 5, 6, 7, 8, 2, 3, 1, 0] rfl rfl⟩
    refine ⟨_, rfl, ?_⟩
    refine LW.al hS10 fun g44 w45 hS16 => ?_
    refine LW.nil ⟨rfl, (.c (St.cell (h := hS16) (i := 3) rfl) (.c (St.cell (h := hS16) (i := 3) rfl) (.c (St.cell (h := hS16) (i := 1) rfl) (.c (St.cell (h := hS16) (i := 3) rfl) (.c (St.cell (h := hS16) (i := 3) rfl) Kept.n))))), ?_⟩
    refine AW.one (i := 14) (by kernel_rfl) ?_
    refine ⟨_, rfl, ?_⟩
    refine LW.bsl (α := Int) (vs := [(0, .int .i64 (-1)), (1, .int .i64 (-1))]) (cs := #[.int .i64 (-1), .int .i64 (-1)]) (l := ([-1, -1] : List Int)) rfl (by kernel_rfl) rfl rfl rfl (fun w => ⟨[.int .i64 (-1)], [.int .i64 (-1)], [], [], rfl, rfl, ⟨rfl, rfl⟩, ⟨[.int .i64 (-1)], [], [], [], rfl, rfl, ⟨rfl, rfl⟩, rfl⟩⟩) hS16 rfl ?_
    intro a46 c47 w48 hS17 hf
    refine LW.nil ⟨rfl, (.c (St.cell (h := hS17) (i := 4) rfl) (.c (St.cell (h := hS17) (i := 4) rfl) (.c (St.cell (h := hS17) (i := 2) rfl) (.c (St.cell (h := hS17) (i := 4) rfl) (.c (St.cell (h := hS17) (i := 4) rfl) Kept.n))))), ?_⟩
    refine AW.u (i := 15) rfl (by kernel_rfl) rfl rfl (Pur.build (vs := [(1, .int .i64 x1.a), (2, .int .i64 y19.1), (3, .int .i64 x1.e), (4, .int .i64 (IntKind.i64.wrap (y24.2.now + x1.d))), (5, .int .i64 x1.c), (10, .slice a46 (([-1, -1] : List Int).length) c47)]) (cs := #[.int .i64 0, .int .i64 x1.a, .int .i64 y19.1, .int .i64 x1.e, .int .i64 (IntKind.i64.wrap (y24.2.now + x1.d)), .int .i64 x1.c, .int .i64 0, .int .i64 0, .int .i64 0, .bool false, .slice a46 (([-1, -1] : List Int).length) c47, .slice none 0 0, .slice none 0 0]) rfl (by kernel_rfl)) ?_
    refine AW.one (i := 17) (by kernel_rfl) ?_
    refine ⟨_, rfl, ?_⟩
    refine LW.st hS17 1 fun w49 hS18 => ?_
    refine LW.nil ⟨rfl, (.w (by kernel_rfl) (.w (by kernel_rfl) (.w (by kernel_rfl) (.w (by kernel_rfl) (.w (by kernel_rfl) Kept.n))))), ?_⟩
    refine go ?_
    have hS19 := hS18.nil (α := Int)
    have hS20 := hS19.nil (α := DMsg)
    cases oi h
    exact ⟨g44, a46, c47, none, 0, none, 0, ⟨rfl, rfl, rfl, trivial⟩, hS20.pick [4, 5, 6, 7, 8, 3, 2, 1, 0] rfl rfl⟩
  rintro e w50 ⟨j31g8, j31a1, j31c1, j31a3, j31c3, j31a5, j31c5, hE, hS21⟩
  obtain ⟨e, rfl⟩ := hE.out
  have h := h32
  refine gs ?_
  refine CW.region ?_
  refine gs ?_
  obtain ⟨j51, hj51, h52⟩ := obind h
  refine CW.cut (fun e wb => ∃ (j51a0 : Option Addr), ∃ (j51c0 : Nat), En e [(0, .pointer (some ⟨g0, 0, none⟩)), (8, .pointer (some ⟨j31g8, 0, none⟩))] ∧ St w0 F wb [bx g0 140 [.slice a0_0 x0.part.label.levels.length c0_0, .slice a0_1 x0.part.own.length c0_1, .slice a27 y24.2.part.tree.length c28, .slice a0_3 x0.part.heap.arena.length c0_3, .int .i64 y24.2.part.heap.gc.phase, .int .i64 y24.2.part.heap.gc.pos, .int .i64 y24.2.part.heap.gc.round, .slice a0_7 x0.part.heap.gc.grey.length c0_7, .slice a0_8 x0.part.taps.length c0_8, .int .i64 y24.2.part.next, .int .i64 y24.2.part.want, .int .i64 y24.2.part.spent.pages, .int .i64 y24.2.part.spent.rent, .int .i64 y24.2.part.spent.cpu, .int .i64 y24.2.part.press, .int .i64 y24.2.part.lost, .int .i64 y24.2.me, .int .i64 y24.2.now, .int .i64 y24.2.thread], sl a27 c28 y24.2.part.tree, sl a0_3 c0_3 x0.part.heap.arena, sl a0_7 c0_7 x0.part.heap.gc.grey, bx j31g8 84 [.int .i64 0, .int .i64 x1.a, .int .i64 y19.1, .int .i64 x1.e, .int .i64 (IntKind.i64.wrap (y24.2.now + x1.d)), .int .i64 x1.c, .int .i64 0, .int .i64 0, .int .i64 0, .bool false, .slice j31a1 j31.1.length j31c1, .slice j51a0 j51.length j51c0, .slice j31a5 j31.2.2.length j31c5], sl j31a1 j31c1 j31.1, sl j31a5 j31c5 j31.2.2, sl j51a0 j51c0 j51]) ?_ ?_
  · have h := hj51
    refine cd (fun hc53 => ?_) fun hc53 => ?_
    · replace h := bcT h hc53
      refine go ?_
      replace ⟨y54, hy54, h⟩ := obind h
      refine LW.mk sT24 rfl rfl hy54 hS21 rfl ?_
      intro a55 c56 w57 hS22 hf
      refine go ?_
      refine LW.st hS22 6 fun w58 hS23 => ?_
      refine go ?_
      cases oi h
      exact ⟨a55, c56, ⟨rfl, rfl, trivial⟩, hS23.pick [1, 2, 4, 5, 6, 7, 9, 0] rfl rfl⟩
    replace h := bcF h hc53
    refine go ?_
    cases oi h
    exact ⟨j31a3, j31c3, ⟨rfl, rfl, trivial⟩, hS21.pick [0, 1, 3, 4, 5, 6, 8, 7] rfl rfl⟩
  rintro e w59 ⟨j51a0, j51c0, hE, hS24⟩
  obtain ⟨e, rfl⟩ := hE.out
  have h := h52
  refine go ?_
  refine CW.draw (by kernel_rfl) ?_
  have hS25 := hS24.drew
  refine go ?_
  replace ⟨y60, hy60, h⟩ := obind h
  have q := W_i_ArenaPut (w0 := w59.drew) hy60 rfl (hS25.rI 2 rfl) rfl (hS25.rI 5 rfl) rfl (hS25.rI 7 rfl) rfl (hS25.rI 6 rfl)
  refine AW.one (i := 7) (by kernel_rfl) ?_
  refine ⟨_, rfl, ?_⟩
  refine LW.call pl36 rfl rfl ?_
  refine Ret.mono q ?_
  rintro _ w63 ⟨a61, c62, rfl, hs⟩
  have hS26 := hS25.add hs
  refine LW.nil ⟨rfl, (.w (by kernel_rfl) (.w (by kernel_rfl) Kept.n)), ?_⟩
  refine go ?_
  refine cd (fun hc64 => ?_) fun hc64 => ?_
  · replace h := bcT h hc64
    refine go ?_
    replace h := Option.some.inj h
    subst h
    exact And.intro trivial ⟨_, Res.two (resOne.t rfl) (resOne.t rfl), a27, c28, a0_3, c0_3, a0_7, c0_7, rfl, hS26.pick [1, 2, 3, 4] rfl rfl⟩
  replace h := bcF h hc64
  refine go ?_
  refine LW.u (Pur.nc rfl) rfl ?_
  refine go ?_
  refine LW.st hS26 1 fun w65 hS27 => ?_
  refine go ?_
  refine LW.u (Pur.nc rfl) rfl ?_
  refine go ?_
  replace ⟨y66, hy66, h⟩ := obind h
  refine LW.cl (W_i_GcBorn hy66 rfl (hS27.rI 0 rfl) rfl (hS27.rI 4 rfl)) ?_
  rintro _ w71 ⟨a67, c68, a69, c70, rfl, hs⟩
  have hS28 := hS27.add hs
  refine LW.u (Pur.nc rfl) rfl ?_
  refine go ?_
  refine LW.st hS28 3 fun w72 hS29 => ?_
  refine go ?_
  refine CW.draw (by kernel_rfl) ?_
  have hS30 := hS29.drew
  refine go ?_
  replace ⟨y73, hy73, h⟩ := obind h
  obtain ⟨b76, o77, hae, hp74, hq75⟩ := hS30.ownIdx (α := DObj) (i := 2) rfl hy73
  subst hae
  refine AW.u (i := 7) rfl (by kernel_rfl) rfl rfl (Pur.ix Try.underlying33 sz84 rfl rfl hp74 hq75) ?_
  refine go ?_
  obtain ⟨F78, ho79, hS31⟩ := hS30.freeze (α := DObj) 2 rfl
  obtain ⟨b80, o81, cs82, hae, hb85, _, _, hd83, hk84⟩ := ho79.rdF.idx hy73
  cases hae
  obtain ⟨a86, c87, a89, c90, a92, c93, rfl, hr88, hr91, hr94⟩ := hd83
  refine AW.take (i := 9) rfl (by kernel_rfl) rfl rfl (Ldr.old w72.drew ag3 rfl (hk84 0 _ rfl)) (hS31.zC 2 rfl hb85) ?_
  replace ⟨y95, hy95, h⟩ := obind h
  have q := W_i_HandleOf (w0 := w72.drew) hy95
  refine AW.one (i := 10) (by kernel_rfl) ?_
  refine ⟨_, rfl, ?_⟩
  refine LW.call pl126 rfl rfl ?_
  refine Ret.mono q ?_
  rintro _ w96 ⟨rfl, hs⟩
  have hS32 := hS31.add hs
  refine LW.nil ⟨rfl, (.w (by kernel_rfl) (.w (by kernel_rfl) Kept.n)), ?_⟩
  refine go ?_
  replace h := Option.some.inj h
  subst h
  exact And.intro trivial ⟨_, Res.two (resOne.t rfl) (resOne.t rfl), a27, c28, a67, c68, a69, c70, rfl, hS32.pick [3, 4, 0, 1] rfl rfl⟩

theorem W_i_caller_link {w0 : World} {F : List Nat} {N : Nat} {x0 : DCaller} {x1 : DCall} {r : Int × DCaller} (h : F_i_caller_link N x0 x1 = some r) {g0 : Nat} {a0_0 : Option Addr} {c0_0 : Nat} (hr0_0 : rdS (Bor w0 F) w0 a0_0 c0_0 x0.part.label.levels) {a0_1 : Option Addr} {c0_1 : Nat} (hr0_1 : rdS (Bor w0 F) w0 a0_1 c0_1 x0.part.own) {a0_2 : Option Addr} {c0_2 : Nat} (hr0_2 : rdS (Bor w0 F) w0 a0_2 c0_2 x0.part.tree) {a0_3 : Option Addr} {c0_3 : Nat} {a0_7 : Option Addr} {c0_7 : Nat} {a0_8 : Option Addr} {c0_8 : Nat} (hr0_8 : rdS (Bor w0 F) w0 a0_8 c0_8 x0.part.taps) (hS : St w0 F w0 [bx g0 140 [.slice a0_0 x0.part.label.levels.length c0_0, .slice a0_1 x0.part.own.length c0_1, .slice a0_2 x0.part.tree.length c0_2, .slice a0_3 x0.part.heap.arena.length c0_3, .int .i64 x0.part.heap.gc.phase, .int .i64 x0.part.heap.gc.pos, .int .i64 x0.part.heap.gc.round, .slice a0_7 x0.part.heap.gc.grey.length c0_7, .slice a0_8 x0.part.taps.length c0_8, .int .i64 x0.part.next, .int .i64 x0.part.want, .int .i64 x0.part.spent.pages, .int .i64 x0.part.spent.rent, .int .i64 x0.part.spent.cpu, .int .i64 x0.part.press, .int .i64 x0.part.lost, .int .i64 x0.me, .int .i64 x0.now, .int .i64 x0.thread], sl a0_3 c0_3 x0.part.heap.arena, sl a0_7 c0_7 x0.part.heap.gc.grey]) :
    Ret Try.prog 117 #[.pointer (some ⟨g0, 0, none⟩), .agg #[.int .i64 x1.kind, .int .i64 x1.a, .int .i64 x1.b, .int .i64 x1.c, .int .i64 x1.d, .int .i64 x1.e]] w0 (fun v w => ∃ ab0_3 cb0_3, ∃ ab0_7 cb0_7, v = .int .i64 r.1 ∧ St w0 F w [bx g0 140 [.slice a0_0 x0.part.label.levels.length c0_0, .slice a0_1 x0.part.own.length c0_1, .slice a0_2 x0.part.tree.length c0_2, .slice ab0_3 r.2.part.heap.arena.length cb0_3, .int .i64 r.2.part.heap.gc.phase, .int .i64 r.2.part.heap.gc.pos, .int .i64 r.2.part.heap.gc.round, .slice ab0_7 r.2.part.heap.gc.grey.length cb0_7, .slice a0_8 x0.part.taps.length c0_8, .int .i64 r.2.part.next, .int .i64 r.2.part.want, .int .i64 r.2.part.spent.pages, .int .i64 r.2.part.spent.rent, .int .i64 r.2.part.spent.cpu, .int .i64 r.2.part.press, .int .i64 r.2.part.lost, .int .i64 r.2.me, .int .i64 r.2.now, .int .i64 r.2.thread], sl ab0_3 cb0_3 r.2.part.heap.arena, sl ab0_7 cb0_7 r.2.part.heap.gc.grey]) := by
  unfold F_i_caller_link at h
  refine Ret.fn Try.func117 fun e => ?_
  refine go ?_
  refine LW.bo hS fun g1 w2 hS1 => ?_
  refine go ?_
  replace ⟨y3, hy3, h⟩ := obind h
  refine LW.c0 (W_i_within hy3) hS1 fun w4 hS2 => ?_
  refine go ?_
  refine cd (fun hc5 => ?_) fun hc5 => ?_
  · replace h := bcT h hc5
    refine go ?_
    replace h := Option.some.inj h
    subst h
    exact And.intro trivial ⟨_, Res.one (resOne.t rfl), a0_3, c0_3, a0_7, c0_7, rfl, hS2.pick [1, 2, 3] rfl rfl⟩
  replace h := bcF h hc5
  refine go ?_
  replace ⟨y6, hy6, h⟩ := obind h
  obtain ⟨F7, hL8⟩ := hS2.lendI [1] [0, 2, 3]
  refine LW.cl (W_i_caller_slot hy6 (hL8.rB hr0_0) (hL8.rB hr0_1) (hL8.rB hr0_2) (hL8.rI 1 rfl) (hL8.rI 2 rfl) (hL8.rB hr0_8) hL8.st) ?_
  rintro _ w9 ⟨rfl, hs⟩
  have hS3 := hL8.back _ _ hs
  refine go ?_
  refine CW.fl [0, 3, 5, 6, 20] fun e => ?_
  refine cd (fun hc10 => ?_) fun hc10 => ?_
  · replace h := bcT h hc10
    refine go ?_
    replace h := Option.some.inj h
    subst h
    exact And.intro trivial ⟨_, Res.one (resOne.t rfl), a0_3, c0_3, a0_7, c0_7, rfl, hS3.pick [0, 2, 3] rfl rfl⟩
  replace h := bcF h hc10
  refine gs ?_
  refine CW.region ?_
  refine gs ?_
  refine CW.region ?_
  refine gs ?_
  obtain ⟨o73, hj11, h12⟩ := obind h
  refine CW.cut (fun e wb => ∃ j11, o73 = .inl j11 ∧ En e [(0, .pointer (some ⟨g0, 0, none⟩)), (3, .pointer (some ⟨g1, 0, none⟩)), (5, .int .i64 y6.1), (7, .int .i64 j11.1)] ∧ St w0 F wb [bx g0 140 [.slice a0_0 x0.part.label.levels.length c0_0, .slice a0_1 x0.part.own.length c0_1, .slice a0_2 x0.part.tree.length c0_2, .slice a0_3 x0.part.heap.arena.length c0_3, .int .i64 j11.2.1, .int .i64 j11.2.2.1, .int .i64 j11.2.2.2.1, .slice a0_7 x0.part.heap.gc.grey.length c0_7, .slice a0_8 x0.part.taps.length c0_8, .int .i64 j11.2.2.2.2.1, .int .i64 j11.2.2.2.2.2.1, .int .i64 j11.2.2.2.2.2.2.1, .int .i64 j11.2.2.2.2.2.2.2.1, .int .i64 j11.2.2.2.2.2.2.2.2.1, .int .i64 j11.2.2.2.2.2.2.2.2.2.1, .int .i64 j11.2.2.2.2.2.2.2.2.2.2.1, .int .i64 j11.2.2.2.2.2.2.2.2.2.2.2.1, .int .i64 j11.2.2.2.2.2.2.2.2.2.2.2.2.1, .int .i64 j11.2.2.2.2.2.2.2.2.2.2.2.2.2], bx g1 67 [.int .i64 x1.kind, .int .i64 x1.a, .int .i64 x1.b, .int .i64 x1.c, .int .i64 x1.d, .int .i64 x1.e], sl a0_3 c0_3 x0.part.heap.arena, sl a0_7 c0_7 x0.part.heap.gc.grey]) ?_ ?_
  · have h := hj11
    refine cd (fun hc13 => ?_) fun hc13 => ?_
    · replace h := bcT h hc13
      refine go ?_
      replace ⟨y14, hy14, h⟩ := obind h
      obtain ⟨F15, hL16⟩ := hS3.lendI [0] [1, 2, 3]
      refine LW.cl (W_i_caller_slot hy14 (hL16.rB hr0_0) (hL16.rB hr0_1) (hL16.rB hr0_2) (hL16.rI 1 rfl) (hL16.rI 2 rfl) (hL16.rB hr0_8) hL16.st) ?_
      rintro _ w17 ⟨rfl, hs⟩
      have hS4 := hL16.back _ _ hs
      refine go ?_
      refine CW.fl [0, 3, 5, 6, 7, 33] fun e => ?_
      refine cd (fun hc18 => ?_) fun hc18 => ?_
      · replace h := bcT h hc18
        refine go ?_
        cases h
        have h := h12
        replace h := Option.some.inj h
        subst h
        exact And.intro trivial ⟨_, Res.one (resOne.t rfl), a0_3, c0_3, a0_7, c0_7, rfl, hS4.pick [0, 2, 3] rfl rfl⟩
      replace h := bcF h hc18
      refine go ?_
      cases oi h
      exact ⟨_, rfl, ⟨⟨rfl, rfl, rfl, rfl, trivial⟩, hS4.pick [0, 1, 2, 3] rfl rfl⟩⟩
    replace h := bcF h hc13
    refine go ?_
    cases oi h
    exact ⟨_, rfl, ⟨⟨rfl, rfl, rfl, rfl, trivial⟩, hS3.pick [0, 1, 2, 3] rfl rfl⟩⟩
  rintro e w19 ⟨j11, rfl, hM⟩
  obtain ⟨hE, hS5⟩ := hM
  obtain ⟨e, rfl⟩ := hE.out
  have h := h12
  refine go ?_
  refine CW.draw (by kernel_rfl) ?_
  have hS6 := hS5.drew
  refine go ?_
  replace ⟨y20, hy20, h⟩ := obind h
  obtain ⟨b23, o24, hae, hp21, hq22⟩ := hS6.ownIdx (α := DObj) (i := 2) rfl hy20
  subst hae
  refine AW.u (i := 7) rfl (by kernel_rfl) rfl rfl (Pur.ix Try.underlying33 sz84 rfl rfl hp21 hq22) ?_
  refine go ?_
  obtain ⟨F25, ho26, hS7⟩ := hS6.freeze (α := DObj) 2 rfl
  obtain ⟨b27, o28, cs29, hae, hb32, _, _, hd30, hk31⟩ := ho26.rdF.idx hy20
  cases hae
  obtain ⟨a33, c34, a36, c37, a39, c40, rfl, hr35, hr38, hr41⟩ := hd30
  refine AW.take (i := 9) rfl (by kernel_rfl) rfl rfl (Ldr.old w19.drew ag24 rfl (hk31 10 _ rfl)) (hS7.zC 2 rfl hb32) ?_
  refine go ?_
  replace ⟨y42, hy42, h⟩ := obind h
  obtain ⟨b45, o46, cs47, hae, hb50, hp43, hq44, hd48, hk49⟩ := hr35.idx hy42
  subst hae
  obtain rfl := hd48
  refine AW.u (i := 13) rfl (by kernel_rfl) rfl rfl (Pur.ix Try.underlying24 sz3 rfl rfl hp43 hq44) ?_
  have hn51 := fun (j : Nat) (u : Value) (hu : ([.int .i64 y20.gen, .int .i64 y20.kind, .int .i64 y20.box, .int .i64 y20.res, .int .i64 y20.til, .int .i64 y20.pages, .int .i64 y20.wait, .int .i64 y20.got, .int .i64 y20.ran, .bool y20.mark, .slice (some ⟨b45, o46, none⟩) y20.links.length c34, .slice a36 y20.data.length c37, .slice a39 y20.queue.length c40] : List Value)[j]? = some u) => (World.cell?_of_block (hS7.zC 2 rfl hb32)).trans (hk31 j u hu)
  have hS8 := hS7.thaw (α := DObj) 2 rfl ho26
  obtain ⟨Fx52, ho53, hf54⟩ := hS8.focus (α := DObj) (cs := [.int .i64 y20.gen, .int .i64 y20.kind, .int .i64 y20.box, .int .i64 y20.res, .int .i64 y20.til, .int .i64 y20.pages, .int .i64 y20.wait, .int .i64 y20.got, .int .i64 y20.ran, .bool y20.mark, .slice (some ⟨b45, o46, none⟩) y20.links.length c34, .slice a36 y20.data.length c37, .slice a39 y20.queue.length c40]) 2 rfl hy20 rfl hn51
  obtain ⟨a57, c58, a59, c60, a61, c62, hc55, hH56⟩ := ho53
  cases hc55
  have hS9 := hf54 [sl (some ⟨b45, o46, none⟩) c34 y20.links, sl a36 c37 y20.data, sl a39 c40 y20.queue] hH56
  replace ⟨y63, hy63, h⟩ := obind h
  refine AW.one (i := 14) (by kernel_rfl) ?_
  refine ⟨_, rfl, ?_⟩
  refine LW.stE (M := []) (L := [sl (some ⟨b45, o46, none⟩) c34 y20.links, sl a36 c37 y20.data, sl a39 c40 y20.queue, bx g0 140 [.slice a0_0 x0.part.label.levels.length c0_0, .slice a0_1 x0.part.own.length c0_1, .slice a0_2 x0.part.tree.length c0_2, .slice (some ⟨b23, o24, none⟩) x0.part.heap.arena.length c0_3, .int .i64 j11.2.1, .int .i64 j11.2.2.1, .int .i64 j11.2.2.2.1, .slice a0_7 x0.part.heap.gc.grey.length c0_7, .slice a0_8 x0.part.taps.length c0_8, .int .i64 j11.2.2.2.2.1, .int .i64 j11.2.2.2.2.2.1, .int .i64 j11.2.2.2.2.2.2.1, .int .i64 j11.2.2.2.2.2.2.2.1, .int .i64 j11.2.2.2.2.2.2.2.2.1, .int .i64 j11.2.2.2.2.2.2.2.2.2.1, .int .i64 j11.2.2.2.2.2.2.2.2.2.2.1, .int .i64 j11.2.2.2.2.2.2.2.2.2.2.2.1, .int .i64 j11.2.2.2.2.2.2.2.2.2.2.2.2.1, .int .i64 j11.2.2.2.2.2.2.2.2.2.2.2.2.2], bx g1 67 [.int .i64 x1.kind, .int .i64 x1.a, .int .i64 x1.b, .int .i64 x1.c, .int .i64 x1.d, .int .i64 x1.e], hole DObj (some ⟨b23, o24, none⟩) c0_3 x0.part.heap.arena (y6.1 : Int).toNat [.int .i64 y20.gen, .int .i64 y20.kind, .int .i64 y20.box, .int .i64 y20.res, .int .i64 y20.til, .int .i64 y20.pages, .int .i64 y20.wait, .int .i64 y20.got, .int .i64 y20.ran, .bool y20.mark, .slice (some ⟨b45, o46, none⟩) y20.links.length c34, .slice a36 y20.data.length c37, .slice a39 y20.queue.length c40], sl a0_7 c0_7 x0.part.heap.gc.grey]) (z := y42) (z' := j11.1) (o := 0) hS9 (i := 0) rfl hy42 ag3 rfl (by show _ = o46 + (x1.b : Int).toNat * 1 + 0; omega) rfl rfl rfl rfl (whole (fun w G hG => by cases (show G = [] from hG); exact ⟨rfl, rfl⟩)) ?_
  intro w64 hS10 hf
  rw [Option.some.inj hy63] at hS10
  refine LW.nil ⟨rfl, (.w (by kernel_rfl) (.w (by kernel_rfl) (.w (by kernel_rfl) Kept.n))), ?_⟩
  refine go ?_
  refine cd (fun hc65 => ?_) fun hc65 => ?_
  · replace h := bcT h hc65
    refine go ?_
    refine LW.u (Pur.nc rfl) rfl ?_
    refine go ?_
    replace ⟨y66, hy66, h⟩ := obind h
    rw [show y20.links.length = y63.length from (len_set (Option.some.inj hy63))] at hS10
    have hS11 := hS10.pick (M := [sl (some ⟨b45, o46, none⟩) c34 y63, sl a36 c37 y20.data, sl a39 c40 y20.queue] ++ [bx g0 140 [.slice a0_0 x0.part.label.levels.length c0_0, .slice a0_1 x0.part.own.length c0_1, .slice a0_2 x0.part.tree.length c0_2, .slice (some ⟨b23, o24, none⟩) x0.part.heap.arena.length c0_3, .int .i64 j11.2.1, .int .i64 j11.2.2.1, .int .i64 j11.2.2.2.1, .slice a0_7 x0.part.heap.gc.grey.length c0_7, .slice a0_8 x0.part.taps.length c0_8, .int .i64 j11.2.2.2.2.1, .int .i64 j11.2.2.2.2.2.1, .int .i64 j11.2.2.2.2.2.2.1, .int .i64 j11.2.2.2.2.2.2.2.1, .int .i64 j11.2.2.2.2.2.2.2.2.1, .int .i64 j11.2.2.2.2.2.2.2.2.2.1, .int .i64 j11.2.2.2.2.2.2.2.2.2.2.1, .int .i64 j11.2.2.2.2.2.2.2.2.2.2.2.1, .int .i64 j11.2.2.2.2.2.2.2.2.2.2.2.2.1, .int .i64 j11.2.2.2.2.2.2.2.2.2.2.2.2.2], bx g1 67 [.int .i64 x1.kind, .int .i64 x1.a, .int .i64 x1.b, .int .i64 x1.c, .int .i64 x1.d, .int .i64 x1.e], hole DObj (some ⟨b23, o24, none⟩) c0_3 x0.part.heap.arena (y6.1 : Int).toNat [.int .i64 y20.gen, .int .i64 y20.kind, .int .i64 y20.box, .int .i64 y20.res, .int .i64 y20.til, .int .i64 y20.pages, .int .i64 y20.wait, .int .i64 y20.got, .int .i64 y20.ran, .bool y20.mark, .slice (some ⟨b45, o46, none⟩) y63.length c34, .slice a36 y20.data.length c37, .slice a39 y20.queue.length c40], sl a0_7 c0_7 x0.part.heap.gc.grey]) [0, 1, 2, 3, 4, 5, 6] rfl rfl
    have hS12 := hS11.unfocus (M := [sl (some ⟨b45, o46, none⟩) c34 y63, sl a36 c37 y20.data, sl a39 c40 y20.queue]) (L := [bx g0 140 [.slice a0_0 x0.part.label.levels.length c0_0, .slice a0_1 x0.part.own.length c0_1, .slice a0_2 x0.part.tree.length c0_2, .slice (some ⟨b23, o24, none⟩) x0.part.heap.arena.length c0_3, .int .i64 j11.2.1, .int .i64 j11.2.2.1, .int .i64 j11.2.2.2.1, .slice a0_7 x0.part.heap.gc.grey.length c0_7, .slice a0_8 x0.part.taps.length c0_8, .int .i64 j11.2.2.2.2.1, .int .i64 j11.2.2.2.2.2.1, .int .i64 j11.2.2.2.2.2.2.1, .int .i64 j11.2.2.2.2.2.2.2.1, .int .i64 j11.2.2.2.2.2.2.2.2.1, .int .i64 j11.2.2.2.2.2.2.2.2.2.1, .int .i64 j11.2.2.2.2.2.2.2.2.2.2.1, .int .i64 j11.2.2.2.2.2.2.2.2.2.2.2.1, .int .i64 j11.2.2.2.2.2.2.2.2.2.2.2.2.1, .int .i64 j11.2.2.2.2.2.2.2.2.2.2.2.2.2], bx g1 67 [.int .i64 x1.kind, .int .i64 x1.a, .int .i64 x1.b, .int .i64 x1.c, .int .i64 x1.d, .int .i64 x1.e], hole DObj (some ⟨b23, o24, none⟩) c0_3 x0.part.heap.arena (y6.1 : Int).toNat [.int .i64 y20.gen, .int .i64 y20.kind, .int .i64 y20.box, .int .i64 y20.res, .int .i64 y20.til, .int .i64 y20.pages, .int .i64 y20.wait, .int .i64 y20.got, .int .i64 y20.ran, .bool y20.mark, .slice (some ⟨b45, o46, none⟩) y63.length c34, .slice a36 y20.data.length c37, .slice a39 y20.queue.length c40], sl a0_7 c0_7 x0.part.heap.gc.grey]) (y := (DObj.mk y20.gen y20.kind y20.box y20.res y20.til y20.pages y20.wait y20.got y20.ran y20.mark y63 y20.data y20.queue)) 2 rfl (fun w G hG => ⟨(some ⟨b45, o46, none⟩), c34, a36, c37, a39, c40, rfl, hG⟩)
    refine LW.cl (W_i_GcShade hy66 (show x0.part.heap.arena.length = (x0.part.heap.arena.set (y6.1 : Int).toNat (DObj.mk y20.gen y20.kind y20.box y20.res y20.til y20.pages y20.wait y20.got y20.ran y20.mark y63 y20.data y20.queue)).length from (len_set rfl)) (hS12.rI 2 rfl) rfl (hS12.rI 3 rfl)) ?_
    rintro _ w71 ⟨a67, c68, a69, c70, rfl, hs⟩
    have hS13 := hS12.add hs
    refine LW.u (Pur.nc rfl) rfl ?_
    refine go ?_
    refine LW.st hS13 2 fun w72 hS14 => ?_
    refine go ?_
    replace h := Option.some.inj h
    subst h
    exact And.intro trivial ⟨_, Res.one (resOne.t rfl), a67, c68, a69, c70, rfl, hS14.pick [2, 0, 1] rfl rfl⟩
  replace h := bcF h hc65
  refine go ?_
  replace h := Option.some.inj h
  subst h
  rw [show y20.links.length = y63.length from (len_set (Option.some.inj hy63))] at hS10
  have hS15 := hS10.pick (M := [sl (some ⟨b45, o46, none⟩) c34 y63, sl a36 c37 y20.data, sl a39 c40 y20.queue] ++ [bx g0 140 [.slice a0_0 x0.part.label.levels.length c0_0, .slice a0_1 x0.part.own.length c0_1, .slice a0_2 x0.part.tree.length c0_2, .slice (some ⟨b23, o24, none⟩) x0.part.heap.arena.length c0_3, .int .i64 j11.2.1, .int .i64 j11.2.2.1, .int .i64 j11.2.2.2.1, .slice a0_7 x0.part.heap.gc.grey.length c0_7, .slice a0_8 x0.part.taps.length c0_8, .int .i64 j11.2.2.2.2.1, .int .i64 j11.2.2.2.2.2.1, .int .i64 j11.2.2.2.2.2.2.1, .int .i64 j11.2.2.2.2.2.2.2.1, .int .i64 j11.2.2.2.2.2.2.2.2.1, .int .i64 j11.2.2.2.2.2.2.2.2.2.1, .int .i64 j11.2.2.2.2.2.2.2.2.2.2.1, .int .i64 j11.2.2.2.2.2.2.2.2.2.2.2.1, .int .i64 j11.2.2.2.2.2.2.2.2.2.2.2.2.1, .int .i64 j11.2.2.2.2.2.2.2.2.2.2.2.2.2], bx g1 67 [.int .i64 x1.kind, .int .i64 x1.a, .int .i64 x1.b, .int .i64 x1.c, .int .i64 x1.d, .int .i64 x1.e], hole DObj (some ⟨b23, o24, none⟩) c0_3 x0.part.heap.arena (y6.1 : Int).toNat [.int .i64 y20.gen, .int .i64 y20.kind, .int .i64 y20.box, .int .i64 y20.res, .int .i64 y20.til, .int .i64 y20.pages, .int .i64 y20.wait, .int .i64 y20.got, .int .i64 y20.ran, .bool y20.mark, .slice (some ⟨b45, o46, none⟩) y63.length c34, .slice a36 y20.data.length c37, .slice a39 y20.queue.length c40], sl a0_7 c0_7 x0.part.heap.gc.grey]) [0, 1, 2, 3, 4, 5, 6] rfl rfl
  have hS16 := hS15.unfocus (M := [sl (some ⟨b45, o46, none⟩) c34 y63, sl a36 c37 y20.data, sl a39 c40 y20.queue]) (L := [bx g0 140 [.slice a0_0 x0.part.label.levels.length c0_0, .slice a0_1 x0.part.own.length c0_1, .slice a0_2 x0.part.tree.length c0_2, .slice (some ⟨b23, o24, none⟩) x0.part.heap.arena.length c0_3, .int .i64 j11.2.1, .int .i64 j11.2.2.1, .int .i64 j11.2.2.2.1, .slice a0_7 x0.part.heap.gc.grey.length c0_7, .slice a0_8 x0.part.taps.length c0_8, .int .i64 j11.2.2.2.2.1, .int .i64 j11.2.2.2.2.2.1, .int .i64 j11.2.2.2.2.2.2.1, .int .i64 j11.2.2.2.2.2.2.2.1, .int .i64 j11.2.2.2.2.2.2.2.2.1, .int .i64 j11.2.2.2.2.2.2.2.2.2.1, .int .i64 j11.2.2.2.2.2.2.2.2.2.2.1, .int .i64 j11.2.2.2.2.2.2.2.2.2.2.2.1, .int .i64 j11.2.2.2.2.2.2.2.2.2.2.2.2.1, .int .i64 j11.2.2.2.2.2.2.2.2.2.2.2.2.2], bx g1 67 [.int .i64 x1.kind, .int .i64 x1.a, .int .i64 x1.b, .int .i64 x1.c, .int .i64 x1.d, .int .i64 x1.e], hole DObj (some ⟨b23, o24, none⟩) c0_3 x0.part.heap.arena (y6.1 : Int).toNat [.int .i64 y20.gen, .int .i64 y20.kind, .int .i64 y20.box, .int .i64 y20.res, .int .i64 y20.til, .int .i64 y20.pages, .int .i64 y20.wait, .int .i64 y20.got, .int .i64 y20.ran, .bool y20.mark, .slice (some ⟨b45, o46, none⟩) y63.length c34, .slice a36 y20.data.length c37, .slice a39 y20.queue.length c40], sl a0_7 c0_7 x0.part.heap.gc.grey]) (y := (DObj.mk y20.gen y20.kind y20.box y20.res y20.til y20.pages y20.wait y20.got y20.ran y20.mark y63 y20.data y20.queue)) 2 rfl (fun w G hG => ⟨(some ⟨b45, o46, none⟩), c34, a36, c37, a39, c40, rfl, hG⟩)
  rw [show x0.part.heap.arena.length = (x0.part.heap.arena.set (y6.1 : Int).toNat (DObj.mk y20.gen y20.kind y20.box y20.res y20.til y20.pages y20.wait y20.got y20.ran y20.mark y63 y20.data y20.queue)).length from (len_set rfl)] at hS16
  exact And.intro trivial ⟨_, Res.one (resOne.t rfl), (some ⟨b23, o24, none⟩), c0_3, a0_7, c0_7, rfl, hS16.pick [0, 2, 3] rfl rfl⟩

theorem W_i_caller_move {w0 : World} {F : List Nat} {N : Nat} {x0 : DCaller} {x1 : DCall} {r : Int × DCaller} (h : F_i_caller_move N x0 x1 = some r) {g0 : Nat} {a0_0 : Option Addr} {c0_0 : Nat} (hr0_0 : rdS (Bor w0 F) w0 a0_0 c0_0 x0.part.label.levels) {a0_1 : Option Addr} {c0_1 : Nat} (hr0_1 : rdS (Bor w0 F) w0 a0_1 c0_1 x0.part.own) {a0_2 : Option Addr} {c0_2 : Nat} (hr0_2 : rdS (Bor w0 F) w0 a0_2 c0_2 x0.part.tree) {a0_3 : Option Addr} {c0_3 : Nat} {a0_7 : Option Addr} {c0_7 : Nat} {a0_8 : Option Addr} {c0_8 : Nat} (hr0_8 : rdS (Bor w0 F) w0 a0_8 c0_8 x0.part.taps) (hS : St w0 F w0 [bx g0 140 [.slice a0_0 x0.part.label.levels.length c0_0, .slice a0_1 x0.part.own.length c0_1, .slice a0_2 x0.part.tree.length c0_2, .slice a0_3 x0.part.heap.arena.length c0_3, .int .i64 x0.part.heap.gc.phase, .int .i64 x0.part.heap.gc.pos, .int .i64 x0.part.heap.gc.round, .slice a0_7 x0.part.heap.gc.grey.length c0_7, .slice a0_8 x0.part.taps.length c0_8, .int .i64 x0.part.next, .int .i64 x0.part.want, .int .i64 x0.part.spent.pages, .int .i64 x0.part.spent.rent, .int .i64 x0.part.spent.cpu, .int .i64 x0.part.press, .int .i64 x0.part.lost, .int .i64 x0.me, .int .i64 x0.now, .int .i64 x0.thread], sl a0_3 c0_3 x0.part.heap.arena, sl a0_7 c0_7 x0.part.heap.gc.grey]) :
    Ret Try.prog 118 #[.pointer (some ⟨g0, 0, none⟩), .agg #[.int .i64 x1.kind, .int .i64 x1.a, .int .i64 x1.b, .int .i64 x1.c, .int .i64 x1.d, .int .i64 x1.e]] w0 (fun v w => ∃ ab0_3 cb0_3, ∃ ab0_7 cb0_7, v = .int .i64 r.1 ∧ St w0 F w [bx g0 140 [.slice a0_0 x0.part.label.levels.length c0_0, .slice a0_1 x0.part.own.length c0_1, .slice a0_2 x0.part.tree.length c0_2, .slice ab0_3 r.2.part.heap.arena.length cb0_3, .int .i64 r.2.part.heap.gc.phase, .int .i64 r.2.part.heap.gc.pos, .int .i64 r.2.part.heap.gc.round, .slice ab0_7 r.2.part.heap.gc.grey.length cb0_7, .slice a0_8 x0.part.taps.length c0_8, .int .i64 r.2.part.next, .int .i64 r.2.part.want, .int .i64 r.2.part.spent.pages, .int .i64 r.2.part.spent.rent, .int .i64 r.2.part.spent.cpu, .int .i64 r.2.part.press, .int .i64 r.2.part.lost, .int .i64 r.2.me, .int .i64 r.2.now, .int .i64 r.2.thread], sl ab0_3 cb0_3 r.2.part.heap.arena, sl ab0_7 cb0_7 r.2.part.heap.gc.grey]) := by
  unfold F_i_caller_move at h
  refine Ret.fn Try.func118 fun e => ?_
  refine go ?_
  refine LW.bo hS fun g1 w2 hS1 => ?_
  refine go ?_
  replace ⟨y3, hy3, h⟩ := obind h
  obtain ⟨F4, hL5⟩ := hS1.lendI [1] [0, 2, 3]
  refine LW.cl (W_i_caller_slot hy3 (hL5.rB hr0_0) (hL5.rB hr0_1) (hL5.rB hr0_2) (hL5.rI 1 rfl) (hL5.rI 2 rfl) (hL5.rB hr0_8) hL5.st) ?_
  rintro _ w6 ⟨rfl, hs⟩
  have hS2 := hL5.back _ _ hs
  refine go ?_
  refine CW.fl [0, 3, 5, 6, 16] fun e => ?_
  refine cd (fun hc7 => ?_) fun hc7 => ?_
  · replace h := bcT h hc7
    refine go ?_
    replace h := Option.some.inj h
    subst h
    exact And.intro trivial ⟨_, Res.one (resOne.t rfl), a0_3, c0_3, a0_7, c0_7, rfl, hS2.pick [0, 2, 3] rfl rfl⟩
  replace h := bcF h hc7
  refine go ?_
  refine cd (fun hc8 => ?_) fun hc8 => ?_
  · replace h := bcT h hc8
    refine go ?_
    replace h := Option.some.inj h
    subst h
    exact And.intro trivial ⟨_, Res.one (resOne.t rfl), a0_3, c0_3, a0_7, c0_7, rfl, hS2.pick [0, 2, 3] rfl rfl⟩
  replace h := bcF h hc8
  refine gs ?_
  refine CW.region ?_
  refine gs ?_
  refine CW.region ?_
  refine gs ?_
  obtain ⟨o33, hj9, h10⟩ := obind h
  refine CW.cut (fun e wb => ∃ j9, o33 = .inl j9 ∧ En e [(0, .pointer (some ⟨g0, 0, none⟩)), (5, .int .i64 y3.1), (7, .int .i64 j9.1)] ∧ St w0 F wb [bx g0 140 [.slice a0_0 x0.part.label.levels.length c0_0, .slice a0_1 x0.part.own.length c0_1, .slice a0_2 x0.part.tree.length c0_2, .slice a0_3 x0.part.heap.arena.length c0_3, .int .i64 j9.2.1, .int .i64 j9.2.2.1, .int .i64 j9.2.2.2.1, .slice a0_7 x0.part.heap.gc.grey.length c0_7, .slice a0_8 x0.part.taps.length c0_8, .int .i64 j9.2.2.2.2.1, .int .i64 j9.2.2.2.2.2.1, .int .i64 j9.2.2.2.2.2.2.1, .int .i64 j9.2.2.2.2.2.2.2.1, .int .i64 j9.2.2.2.2.2.2.2.2.1, .int .i64 j9.2.2.2.2.2.2.2.2.2.1, .int .i64 j9.2.2.2.2.2.2.2.2.2.2.1, .int .i64 j9.2.2.2.2.2.2.2.2.2.2.2.1, .int .i64 j9.2.2.2.2.2.2.2.2.2.2.2.2.1, .int .i64 j9.2.2.2.2.2.2.2.2.2.2.2.2.2], sl a0_3 c0_3 x0.part.heap.arena, sl a0_7 c0_7 x0.part.heap.gc.grey]) ?_ ?_
  · have h := hj9
    refine cd (fun hc11 => ?_) fun hc11 => ?_
    · replace h := bcT h hc11
      refine go ?_
      replace ⟨y12, hy12, h⟩ := obind h
      obtain ⟨F13, hL14⟩ := hS2.lendI [0] [1, 2, 3]
      refine LW.cl (W_i_caller_slot hy12 (hL14.rB hr0_0) (hL14.rB hr0_1) (hL14.rB hr0_2) (hL14.rI 1 rfl) (hL14.rI 2 rfl) (hL14.rB hr0_8) hL14.st) ?_
      rintro _ w15 ⟨rfl, hs⟩
      have hS3 := hL14.back _ _ hs
      refine go ?_
      refine CW.fl [0, 5, 6, 7, 31] fun e => ?_
      refine cd (fun hc16 => ?_) fun hc16 => ?_
      · replace h := bcT h hc16
        refine go ?_
        cases h
        have h := h10
        replace h := Option.some.inj h
        subst h
        exact And.intro trivial ⟨_, Res.one (resOne.t rfl), a0_3, c0_3, a0_7, c0_7, rfl, hS3.pick [0, 2, 3] rfl rfl⟩
      replace h := bcF h hc16
      refine go ?_
      cases oi h
      exact ⟨_, rfl, ⟨⟨rfl, rfl, rfl, trivial⟩, hS3.pick [0, 2, 3] rfl rfl⟩⟩
    replace h := bcF h hc11
    refine go ?_
    cases oi h
    exact ⟨_, rfl, ⟨⟨rfl, rfl, rfl, trivial⟩, hS2.pick [0, 2, 3] rfl rfl⟩⟩
  rintro e w17 ⟨j9, rfl, hM⟩
  obtain ⟨hE, hS4⟩ := hM
  obtain ⟨e, rfl⟩ := hE.out
  have h := h10
  refine go ?_
  refine LW.u (Pur.nc rfl) rfl ?_
  refine go ?_
  replace ⟨y18, hy18, h⟩ := obind h
  obtain ⟨b21, o22, hae, hp19, hq20⟩ := hS4.ownIdx (α := DObj) (i := 1) rfl hy18
  subst hae
  refine LW.u (Pur.ix Try.underlying33 sz84 rfl rfl hp19 hq20) rfl ?_
  refine go ?_
  replace ⟨y23, hy23, h⟩ := obind h
  refine LW.stE (M := []) (L := [bx g0 140 [.slice a0_0 x0.part.label.levels.length c0_0, .slice a0_1 x0.part.own.length c0_1, .slice a0_2 x0.part.tree.length c0_2, .slice (some ⟨b21, o22, none⟩) x0.part.heap.arena.length c0_3, .int .i64 j9.2.1, .int .i64 j9.2.2.1, .int .i64 j9.2.2.2.1, .slice a0_7 x0.part.heap.gc.grey.length c0_7, .slice a0_8 x0.part.taps.length c0_8, .int .i64 j9.2.2.2.2.1, .int .i64 j9.2.2.2.2.2.1, .int .i64 j9.2.2.2.2.2.2.1, .int .i64 j9.2.2.2.2.2.2.2.1, .int .i64 j9.2.2.2.2.2.2.2.2.1, .int .i64 j9.2.2.2.2.2.2.2.2.2.1, .int .i64 j9.2.2.2.2.2.2.2.2.2.2.1, .int .i64 j9.2.2.2.2.2.2.2.2.2.2.2.1, .int .i64 j9.2.2.2.2.2.2.2.2.2.2.2.2.1, .int .i64 j9.2.2.2.2.2.2.2.2.2.2.2.2.2], sl (some ⟨b21, o22, none⟩) c0_3 x0.part.heap.arena, sl a0_7 c0_7 x0.part.heap.gc.grey]) (z := y18) (z' := (DObj.mk y18.gen y18.kind j9.1 y18.res y18.til y18.pages y18.wait y18.got y18.ran y18.mark y18.links y18.data y18.queue)) (o := 2) hS4 (i := 1) rfl hy18 ag3 rfl (by show _ = o22 + (y3.1 : Int).toNat * 13 + 2; omega) rfl rfl rfl rfl (leafF (fun w cs F hF => by obtain ⟨q0, r0, q1, r1, q2, r2, rfl, hH⟩ := hF; exact ⟨q0, r0, q1, r1, q2, r2, rfl, hH⟩)) ?_
  intro w24 hS5 hf
  rw [Option.some.inj hy23] at hS5
  refine go ?_
  refine CW.fl [0, 5, 44] fun e => ?_
  refine cd (fun hc25 => ?_) fun hc25 => ?_
  · replace h := bcT h hc25
    refine go ?_
    refine LW.u (Pur.nc rfl) rfl ?_
    refine go ?_
    replace ⟨y26, hy26, h⟩ := obind h
    refine LW.cl (W_i_GcShade hy26 (show x0.part.heap.arena.length = y23.length from (len_set (Option.some.inj hy23))) (hS5.rI 1 rfl) rfl (hS5.rI 2 rfl)) ?_
    rintro _ w31 ⟨a27, c28, a29, c30, rfl, hs⟩
    have hS6 := hS5.add hs
    refine LW.u (Pur.nc rfl) rfl ?_
    refine go ?_
    refine LW.st hS6 2 fun w32 hS7 => ?_
    refine go ?_
    replace h := Option.some.inj h
    subst h
    exact And.intro trivial ⟨_, Res.one (resOne.t rfl), a27, c28, a29, c30, rfl, hS7.pick [2, 0, 1] rfl rfl⟩
  replace h := bcF h hc25
  refine go ?_
  replace h := Option.some.inj h
  subst h
  rw [show x0.part.heap.arena.length = y23.length from (len_set (Option.some.inj hy23))] at hS5
  exact And.intro trivial ⟨_, Res.one (resOne.t rfl), (some ⟨b21, o22, none⟩), c0_3, a0_7, c0_7, rfl, hS5.pick [0, 1, 2] rfl rfl⟩

end Go.Kx
