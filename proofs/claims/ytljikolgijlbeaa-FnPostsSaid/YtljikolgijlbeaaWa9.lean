/- Each call returns what the plain function says. Printed by drive.py. -/
import Derived.Test.YtljikolgijlbeaaFa
import Derived.Test.YtljikolgijlbeaaPu
import Derived.Test.YtljikolgijlbeaaWa0
import Derived.Test.YtljikolgijlbeaaWa1
import Derived.Test.YtljikolgijlbeaaWa2
import Derived.Test.YtljikolgijlbeaaWa8
namespace Go.Kx
open Go Go.RowKit Go.Proofs
set_option maxRecDepth 10000
set_option maxHeartbeats 8000000
set_option linter.unusedVariables false
set_option linter.unusedSimpArgs false
theorem W_i_World_tap {w0 : World} {F : List Nat} {N : Nat} {x0 : DWorld} {x1 : Int} {x2 : Int} {x3 : DCall} {r : Int × Int × DWorld} (h : F_i_World_tap N x0 x1 x2 x3 = some r) {g0 : Nat} {a0_1 : Option Addr} {c0_1 : Nat} (hS : St w0 F w0 [bx g0 59 [.int .i64 x0.now, .slice a0_1 x0.parts.length c0_1], sl a0_1 c0_1 x0.parts]) :
    Ret Try.prog 95 #[.pointer (some ⟨g0, 0, none⟩), .int .i64 x1, .int .i64 x2, .agg #[.int .i64 x3.kind, .int .i64 x3.a, .int .i64 x3.b, .int .i64 x3.c, .int .i64 x3.d, .int .i64 x3.e]] w0 (fun v w => ∃ ab0_1 cb0_1, v = .tuple #[.int .i64 r.1, .int .i64 r.2.1] ∧ St w0 F w [bx g0 59 [.int .i64 r.2.2.now, .slice ab0_1 r.2.2.parts.length cb0_1], sl ab0_1 cb0_1 r.2.2.parts]) := by
  unfold F_i_World_tap at h
  refine Ret.fn Try.func95 fun e => ?_
  refine go ?_
  refine LW.bo hS fun g1 w2 hS1 => ?_
  refine go ?_
  refine LW.u (Pur.quo rfl rfl (by decide)) rfl ?_
  refine go ?_
  refine LW.u (Pur.rem rfl rfl (by decide)) rfl ?_
  refine go ?_
  refine LW.u (Pur.build (vs := [(0, .int .i64 x3.a), (1, .int .i64 x3.b), (2, .int .i64 x3.c), (3, .int .i64 (IntKind.i64.wrap (Int.tdiv x3.d 10))), (4, .int .i64 (Int.tmod x3.d 10)), (5, .int .i64 x3.e)]) (cs := #[.int .i64 x3.a, .int .i64 x3.b, .int .i64 x3.c, .int .i64 (IntKind.i64.wrap (Int.tdiv x3.d 10)), .int .i64 (Int.tmod x3.d 10), .int .i64 x3.e]) rfl (by kernel_rfl)) rfl ?_
  refine LW.al hS1 fun g3 w4 hS2 => ?_
  refine LW.st hS2 0 fun w5 hS3 => ?_
  refine go ?_
  refine LW.u (Pur.nc rfl) rfl ?_
  refine go ?_
  refine LW.fl [0, 1, 2, 7, 10, 30, 31] fun e => ?_
  replace ⟨y6, hy6, h⟩ := obind h
  obtain ⟨b9, o10, hae, hp7, hq8⟩ := hS3.ownIdx (α := DPart) (i := 3) rfl hy6
  subst hae
  refine LW.u (Pur.ix Try.underlying57 sz40 rfl rfl hp7 hq8) rfl ?_
  refine gs ?_
  refine CW.block ?_
  refine gs ?_
  obtain ⟨j11, hj11, h12⟩ := obind h
  refine CW.jn [0, 1, 2, 7, 10, 11] [0, 1, 2, 3] [(33, .bool j11)] hS3 (h1 := ?_) (h2 := ?_)
  · have h := hj11
    refine go ?_
    rcases bcases (decide (x3.d < 0)) with hc13 | hc13
    · replace h := bcT h hc13
      refine go ?_
      cases oi h
      exact ⟨⟨rfl, rfl, rfl, rfl, rfl, rfl, rfl, trivial⟩, hS3.pick [0, 1, 2, 3] rfl rfl⟩
    replace h := bcF h hc13
    refine go ?_
    replace ⟨y14, hy14, h⟩ := obind h
    refine go ?_
    refine LW.c0 (W_i_TapOk hy14) hS3 fun w15 hS4 => ?_
    refine go ?_
    cases oi h
    exact ⟨⟨rfl, rfl, rfl, rfl, rfl, rfl, rfl, trivial⟩, hS4.pick [0, 1, 2, 3] rfl rfl⟩
  intro e w16 hS5
  have h := h12
  refine go ?_
  refine cd (fun hc17 => ?_) fun hc17 => ?_
  · replace h := bcT h hc17
    refine go ?_
    replace h := Option.some.inj h
    subst h
    exact And.intro trivial ⟨_, Res.two (resOne.t rfl) (resOne.t rfl), (some ⟨b9, o10, none⟩), c0_1, rfl, hS5.pick [2, 3] rfl rfl⟩
  replace h := bcF h hc17
  refine go ?_
  refine LW.u (Pur.nc rfl) rfl ?_
  refine go ?_
  replace ⟨y18, hy18, h⟩ := obind h
  refine LW.c0 (W_i_mayFlow hy18 rfl (hS5.rI 3 rfl)) hS5 fun w19 hS6 => ?_
  refine go ?_
  refine cd (fun hc20 => ?_) fun hc20 => ?_
  · replace h := bcT h hc20
    refine go ?_
    replace h := Option.some.inj h
    subst h
    exact And.intro trivial ⟨_, Res.two (resOne.t rfl) (resOne.t rfl), (some ⟨b9, o10, none⟩), c0_1, rfl, hS6.pick [2, 3] rfl rfl⟩
  replace h := bcF h hc20
  refine go ?_
  refine CW.draw (by kernel_rfl) ?_
  have hS7 := hS6.drew
  refine go ?_
  obtain ⟨F21, ho22, hS8⟩ := hS7.freeze (α := DPart) 3 rfl
  obtain ⟨b23, o24, cs25, hae, hb28, _, _, hd26, hk27⟩ := ho22.rdF.idx hy6
  cases hae
  obtain ⟨a29, c30, a32, c33, a35, c36, a38, c39, a41, c42, a44, c45, rfl, hr31, hr34, hr37, hr40, hr43, hr46⟩ := hd26
  refine AW.take (i := 3) rfl (by kernel_rfl) rfl rfl (Ldr.old w19.drew ag32 rfl (hk27 2 _ rfl)) (hS8.zC 3 rfl hb28) ?_
  refine go ?_
  replace ⟨y47, hy47, h⟩ := obind h
  have q := W_i_isLive (w0 := w19.drew) hy47 rfl (hS8.rZ 3 rfl hr37)
  refine AW.one (i := 6) (by kernel_rfl) ?_
  refine ⟨_, rfl, ?_⟩
  refine LW.call pl98 rfl rfl ?_
  refine Ret.mono q ?_
  rintro _ w48 ⟨rfl, hs⟩
  have hS9 := hS8.add hs
  refine LW.nil ⟨rfl, (.w (by kernel_rfl) (.w (by kernel_rfl) Kept.n)), ?_⟩
  refine go ?_
  refine cd (fun hc49 => ?_) fun hc49 => ?_
  · replace h := bcT h hc49
    refine go ?_
    replace h := Option.some.inj h
    subst h
    have hS10 := hS9.thaw (α := DPart) 3 rfl ho22
    exact And.intro trivial ⟨_, Res.two (resOne.t rfl) (resOne.t rfl), (some ⟨b9, o10, none⟩), c0_1, rfl, hS10.pick [2, 3] rfl rfl⟩
  replace h := bcF h hc49
  refine go ?_
  refine LW.u (Pur.nc rfl) rfl ?_
  refine go ?_
  refine LW.l (Ldr.old w19.drew ag38 rfl (hk27 8 _ rfl)) (hS9.zC 3 rfl hb28) rfl ?_
  refine go ?_
  refine CW.fl [0, 10, 11, 60] fun e => ?_
  refine cd (fun hc50 => ?_) fun hc50 => ?_
  · replace h := bcT h hc50
    refine go ?_
    replace h := Option.some.inj h
    subst h
    have hS11 := hS9.thaw (α := DPart) 3 rfl ho22
    exact And.intro trivial ⟨_, Res.two (resOne.t rfl) (resOne.t rfl), (some ⟨b9, o10, none⟩), c0_1, rfl, hS11.pick [2, 3] rfl rfl⟩
  replace h := bcF h hc50
  refine go ?_
  refine CW.draw (by kernel_rfl) ?_
  have hS12 := hS9.drew
  refine go ?_
  refine AW.take (i := 4) rfl (by kernel_rfl) rfl rfl (Ldr.old w19.drew ag38 rfl (hk27 8 _ rfl)) (hS12.zC 3 rfl hb28) ?_
  refine go ?_
  refine AW.one (i := 6) (by kernel_rfl) ?_
  refine ⟨_, rfl, ?_⟩
  refine LW.bsl (α := DTap) (vs := [(0, .agg #[.int .i64 x3.a, .int .i64 x3.b, .int .i64 x3.c, .int .i64 (IntKind.i64.wrap (Int.tdiv x3.d 10)), .int .i64 (Int.tmod x3.d 10), .int .i64 x3.e])]) (cs := #[.int .i64 x3.a, .int .i64 x3.b, .int .i64 x3.c, .int .i64 (IntKind.i64.wrap (Int.tdiv x3.d 10)), .int .i64 (Int.tmod x3.d 10), .int .i64 x3.e]) (l := ([DTap.mk x3.a x3.b x3.c (IntKind.i64.wrap (Int.tdiv x3.d 10)) (Int.tmod x3.d 10) x3.e] : List DTap)) rfl (by kernel_rfl) rfl rfl rfl (fun w => ⟨[.int .i64 x3.a, .int .i64 x3.b, .int .i64 x3.c, .int .i64 (IntKind.i64.wrap (Int.tdiv x3.d 10)), .int .i64 (Int.tmod x3.d 10), .int .i64 x3.e], [], [], [], rfl, rfl, ⟨rfl, rfl⟩, rfl⟩) hS12 rfl ?_
  intro a51 c52 w53 hS13 hf
  refine LW.nil ⟨rfl, (.w (by kernel_rfl) (.c (hS13.zC 4 rfl hb28) Kept.n)), ?_⟩
  have hn54 := fun (j : Nat) (u : Value) (hu : ([.slice a29 y6.label.levels.length c30, .slice a32 y6.own.length c33, .slice a35 y6.tree.length c36, .slice a38 y6.heap.arena.length c39, .int .i64 y6.heap.gc.phase, .int .i64 y6.heap.gc.pos, .int .i64 y6.heap.gc.round, .slice a41 y6.heap.gc.grey.length c42, .slice a44 y6.taps.length c45, .int .i64 y6.next, .int .i64 y6.want, .int .i64 y6.spent.pages, .int .i64 y6.spent.rent, .int .i64 y6.spent.cpu, .int .i64 y6.press, .int .i64 y6.lost] : List Value)[j]? = some u) => (World.cell?_of_block (hS13.zC 4 rfl hb28)).trans (hk27 j u hu)
  have hS14 := hS13.thaw (α := DPart) 4 rfl ho22
  obtain ⟨Fx55, ho56, hf57⟩ := hS14.focus (α := DPart) (cs := [.slice a29 y6.label.levels.length c30, .slice a32 y6.own.length c33, .slice a35 y6.tree.length c36, .slice a38 y6.heap.arena.length c39, .int .i64 y6.heap.gc.phase, .int .i64 y6.heap.gc.pos, .int .i64 y6.heap.gc.round, .slice a41 y6.heap.gc.grey.length c42, .slice a44 y6.taps.length c45, .int .i64 y6.next, .int .i64 y6.want, .int .i64 y6.spent.pages, .int .i64 y6.spent.rent, .int .i64 y6.spent.cpu, .int .i64 y6.press, .int .i64 y6.lost]) 4 rfl hy6 rfl hn54
  obtain ⟨a60, c61, a62, c63, a64, c65, a66, c67, a68, c69, a70, c71, hc58, hH59⟩ := ho56
  cases hc58
  have hS15 := hf57 [sl a29 c30 y6.label.levels, sl a32 c33 y6.own, sl a35 c36 y6.tree, sl a38 c39 y6.heap.arena, sl a41 c42 y6.heap.gc.grey, sl a44 c45 y6.taps] hH59
  replace ⟨y72, hy72, h⟩ := obind h
  refine AW.one (i := 7) (by kernel_rfl) ?_
  refine ⟨_, rfl, ?_⟩
  refine LW.appN (l := y6.taps) (m := ([DTap.mk x3.a x3.b x3.c (IntKind.i64.wrap (Int.tdiv x3.d 10)) (Int.tmod x3.d 10) x3.e] : List DTap)) sT38 rfl rfl (hS15.rI 6 rfl) hy72 hS15 (i := 5) rfl rfl ?_
  intro a73 c74 w75 hS16 hf
  refine LW.nil ⟨rfl, (.c (St.cell (h := hS16) (i := 7) rfl) (.w (by kernel_rfl) Kept.n)), ?_⟩
  refine go ?_
  refine AW.one (i := 10) (by kernel_rfl) ?_
  refine ⟨_, rfl, ?_⟩
  refine LW.sth (α := DPart) (vs := [.slice a73 y72.length c74]) hS16 10 rfl ag38 rfl (by show _ = o10 + (x1 : Int).toNat * 16 + 8; omega) rfl rfl rfl rfl ?_
  intro w76 hS17 hf
  refine LW.nil ⟨rfl, (.w (by kernel_rfl) (.w (by kernel_rfl) Kept.n)), ?_⟩
  refine go ?_
  have hS18 := hS17.pick (M := [sl a29 c30 y6.label.levels, sl a32 c33 y6.own, sl a35 c36 y6.tree, sl a38 c39 y6.heap.arena, sl a41 c42 y6.heap.gc.grey, sl a73 c74 y72] ++ [sl a51 c52 ([DTap.mk x3.a x3.b x3.c (IntKind.i64.wrap (Int.tdiv x3.d 10)) (Int.tmod x3.d 10) x3.e] : List DTap), bx g3 95 [.int .i64 x3.a, .int .i64 x3.b, .int .i64 x3.c, .int .i64 (IntKind.i64.wrap (Int.tdiv x3.d 10)), .int .i64 (Int.tmod x3.d 10), .int .i64 x3.e], bx g1 67 [.int .i64 x3.kind, .int .i64 x3.a, .int .i64 x3.b, .int .i64 x3.c, .int .i64 x3.d, .int .i64 x3.e], bx g0 59 [.int .i64 x0.now, .slice (some ⟨b9, o10, none⟩) x0.parts.length c0_1], hole DPart (some ⟨b9, o10, none⟩) c0_1 x0.parts (x1 : Int).toNat [.slice a29 y6.label.levels.length c30, .slice a32 y6.own.length c33, .slice a35 y6.tree.length c36, .slice a38 y6.heap.arena.length c39, .int .i64 y6.heap.gc.phase, .int .i64 y6.heap.gc.pos, .int .i64 y6.heap.gc.round, .slice a41 y6.heap.gc.grey.length c42, .slice a73 y72.length c74, .int .i64 y6.next, .int .i64 y6.want, .int .i64 y6.spent.pages, .int .i64 y6.spent.rent, .int .i64 y6.spent.cpu, .int .i64 y6.press, .int .i64 y6.lost]]) [0, 1, 2, 3, 4, 5, 6, 7, 8, 9, 10] rfl rfl
  have hS19 := hS18.unfocus (M := [sl a29 c30 y6.label.levels, sl a32 c33 y6.own, sl a35 c36 y6.tree, sl a38 c39 y6.heap.arena, sl a41 c42 y6.heap.gc.grey, sl a73 c74 y72]) (L := [sl a51 c52 ([DTap.mk x3.a x3.b x3.c (IntKind.i64.wrap (Int.tdiv x3.d 10)) (Int.tmod x3.d 10) x3.e] : List DTap), bx g3 95 [.int .i64 x3.a, .int .i64 x3.b, .int .i64 x3.c, .int .i64 (IntKind.i64.wrap (Int.tdiv x3.d 10)), .int .i64 (Int.tmod x3.d 10), .int .i64 x3.e], bx g1 67 [.int .i64 x3.kind, .int .i64 x3.a, .int .i64 x3.b, .int .i64 x3.c, .int .i64 x3.d, .int .i64 x3.e], bx g0 59 [.int .i64 x0.now, .slice (some ⟨b9, o10, none⟩) x0.parts.length c0_1], hole DPart (some ⟨b9, o10, none⟩) c0_1 x0.parts (x1 : Int).toNat [.slice a29 y6.label.levels.length c30, .slice a32 y6.own.length c33, .slice a35 y6.tree.length c36, .slice a38 y6.heap.arena.length c39, .int .i64 y6.heap.gc.phase, .int .i64 y6.heap.gc.pos, .int .i64 y6.heap.gc.round, .slice a41 y6.heap.gc.grey.length c42, .slice a73 y72.length c74, .int .i64 y6.next, .int .i64 y6.want, .int .i64 y6.spent.pages, .int .i64 y6.spent.rent, .int .i64 y6.spent.cpu, .int .i64 y6.press, .int .i64 y6.lost]]) (y := (DPart.mk y6.label y6.own y6.tree y6.heap y72 y6.next y6.want y6.spent y6.press y6.lost)) 4 rfl (fun w G hG => ⟨a29, c30, a32, c33, a35, c36, a38, c39, a41, c42, a73, c74, rfl, hG⟩)
  refine CW.draw (by kernel_rfl) ?_
  have hS20 := hS19.drew
  refine go ?_
  replace ⟨y77, hy77, h⟩ := obind h
  obtain ⟨b80, o81, hae, hp78, hq79⟩ := hS20.ownIdx (α := DPart) (i := 4) rfl hy77
  cases hae
  obtain ⟨F82, ho83, hS21⟩ := hS20.freeze (α := DPart) 4 rfl
  obtain ⟨b84, o85, cs86, hae, hb89, _, _, hd87, hk88⟩ := ho83.rdF.idx hy77
  cases hae
  obtain ⟨a90, c91, a93, c94, a96, c97, a99, c100, a102, c103, a105, c106, rfl, hr92, hr95, hr98, hr101, hr104, hr107⟩ := hd87
  refine AW.take (i := 3) rfl (by kernel_rfl) rfl rfl (Ldr.old w76.drew ag38 rfl (hk88 8 _ rfl)) (hS21.zC 4 rfl hb89) ?_
  refine go ?_
  replace h := Option.some.inj h
  subst h
  have hS22 := hS21.thaw (α := DPart) 4 rfl ho83
  rw [show x0.parts.length = (x0.parts.set (x1 : Int).toNat (DPart.mk y6.label y6.own y6.tree y6.heap y72 y6.next y6.want y6.spent y6.press y6.lost)).length from (len_set rfl)] at hS22
  exact And.intro trivial ⟨_, Res.two (resOne.t rfl) (resOne.t rfl), (some ⟨b9, o10, none⟩), c0_1, rfl, hS22.pick [3, 4] rfl rfl⟩

theorem W_i_AmtSub {w0 : World} {N : Nat} {x0 : DAmt} {x1 : DAmt} {r : DAmt × Bool} (h : F_i_AmtSub N x0 x1 = some r) :
    Ret Try.prog 136 #[.agg #[.int .i64 x0.pages, .int .i64 x0.rent, .int .i64 x0.cpu], .agg #[.int .i64 x1.pages, .int .i64 x1.rent, .int .i64 x1.cpu]] w0 (fun v w => v = .tuple #[.agg #[.int .i64 r.1.pages, .int .i64 r.1.rent, .int .i64 r.1.cpu], .bool r.2] ∧ St w0 [] w []) := by
  unfold F_i_AmtSub at h
  refine Ret.fn Try.func136 fun e => ?_
  have hS1 := St.start w0
  refine go ?_
  refine LW.bo hS1 fun g1 w2 hS2 => ?_
  refine LW.bo hS2 fun g3 w4 hS3 => ?_
  refine LW.al hS3 fun g5 w6 hS4 => ?_
  refine go ?_
  replace ⟨y7, hy7, h⟩ := obind h
  refine LW.c0 (W_i_AmtFits hy7) hS4 fun w8 hS5 => ?_
  refine go ?_
  refine cd (fun hc9 => ?_) fun hc9 => ?_
  · replace h := bcT h hc9
    refine go ?_
    refine LW.st hS5 0 fun w10 hS6 => ?_
    refine go ?_
    cases h
    exact And.intro trivial ⟨_, Res.two (resOne.b hS6 0 rfl ag28 rfl rfl) (resOne.t rfl), rfl, hS6.pick [] rfl rfl⟩
  replace h := bcF h hc9
  refine go ?_
  refine LW.u (Pur.build (vs := [(0, .int .i64 (IntKind.i64.wrap (x0.pages - x1.pages))), (1, .int .i64 (IntKind.i64.wrap (x0.rent - x1.rent))), (2, .int .i64 (IntKind.i64.wrap (x0.cpu - x1.cpu)))]) (cs := #[.int .i64 (IntKind.i64.wrap (x0.pages - x1.pages)), .int .i64 (IntKind.i64.wrap (x0.rent - x1.rent)), .int .i64 (IntKind.i64.wrap (x0.cpu - x1.cpu))]) rfl (by kernel_rfl)) rfl ?_
  refine LW.st hS5 0 fun w11 hS7 => ?_
  refine go ?_
  cases h
  exact And.intro trivial ⟨_, Res.two (resOne.b hS7 0 rfl ag28 rfl rfl) (resOne.t rfl), rfl, hS7.pick [] rfl rfl⟩

theorem W_i_copyWorld {w0 : World} {N : Nat} {x0 : DWorld} {r : DWorld} (h : F_i_copyWorld N x0 = some r) {a0_1 : Option Addr} {n0_1 c0_1 : Nat} (hn0_1 : n0_1 = x0.parts.length) (hr0_1 : rdS (Bor w0 []) w0 a0_1 c0_1 x0.parts) :
    Ret Try.prog 89 #[.agg #[.int .i64 x0.now, .slice a0_1 n0_1 c0_1]] w0 (fun v w => ∃ ar0_1 cr0_1, v = .agg #[.int .i64 r.now, .slice ar0_1 r.parts.length cr0_1] ∧ St w0 [] w [sl ar0_1 cr0_1 r.parts]) := by
  subst hn0_1
  unfold F_i_copyWorld at h
  refine Ret.fn Try.func89 fun e => ?_
  have hS1 := St.start w0
  refine go ?_
  refine LW.bo hS1 fun g1 w2 hS2 => ?_
  refine LW.al hS2 fun g3 w4 hS3 => ?_
  refine go ?_
  refine LW.u (Pur.build (vs := [(0, .int .i64 x0.now)]) (cs := #[.int .i64 x0.now, .slice none 0 0]) rfl (by kernel_rfl)) rfl ?_
  refine LW.al hS3 fun g5 w6 hS4 => ?_
  refine LW.st hS4 0 fun w7 hS5 => ?_
  refine go ?_
  have hS6 := hS5.nil (α := DPart)
  obtain ⟨o62, ho62, h63⟩ := obind h
  refine CW.mono (CW.iter (σ := Int × (List DPart)) (ρ := Int × (List DPart)) (fun s8 e wb => ∃ (s8a0 : Option Addr), ∃ (s8c0 : Nat), En e [(2, .pointer (some ⟨g3, 0, none⟩)), (3, .pointer (some ⟨g5, 0, none⟩)), (10, .slice a0_1 x0.parts.length c0_1), (11, .int .i64 (x0.parts.length : Int)), (12, .int .i64 s8.1)] ∧ St w0 [] wb [bx g5 59 [.int .i64 x0.now, .slice s8a0 s8.2.length s8c0], bx g3 59 [.int .i64 0, .slice none 0 0], sl s8a0 s8c0 s8.2]) (fun s8 x e wb => x = .exit 0 ∧ ∃ (s8a0 : Option Addr), ∃ (s8c0 : Nat), En e [(2, .pointer (some ⟨g3, 0, none⟩)), (3, .pointer (some ⟨g5, 0, none⟩))] ∧ St w0 [] wb [bx g5 59 [.int .i64 x0.now, .slice s8a0 s8.2.length s8c0], bx g3 59 [.int .i64 0, .slice none 0 0], sl s8a0 s8c0 s8.2]) ?_ N (0, []) _ _ _ ⟨none, 0, ⟨rfl, rfl, rfl, rfl, rfl, trivial⟩, hS6.pick [1, 2, 0] rfl rfl⟩ ho62) ?_
  · intro s8 e w9 o hM h
    obtain ⟨s8a0, s8c0, hE, hS7⟩ := hM
    obtain ⟨e, rfl⟩ := hE.out
    refine go ?_
    refine cd (fun hc10 => ?_) fun hc10 => ?_
    · replace h := bcT h hc10
      refine go ?_
      replace ⟨y11, hy11, h⟩ := obind h
      obtain ⟨b14, o15, cs16, hae, hb19, hp12, hq13, hd17, hk18⟩ := hr0_1.idx hy11
      subst hae
      obtain ⟨a20, c21, a23, c24, a26, c27, a29, c30, a32, c33, a35, c36, rfl, hr22, hr25, hr28, hr31, hr34, hr37⟩ := hd17
      refine LW.u (Pur.ix Try.underlying57 sz40 rfl rfl hp12 hq13) rfl ?_
      refine LW.l (Ldr.oldN w0 ag40 rfl rfl (fun j u hu => hk18 j u hu)) (hS7.same _ hb19.1 hb19.2) rfl ?_
      refine LW.al hS7 fun g38 w39 hS8 => ?_
      refine LW.st hS8 0 fun w40 hS9 => ?_
      refine go ?_
      refine CW.draw (by kernel_rfl) ?_
      have hS10 := hS9.drew
      refine go ?_
      replace ⟨y41, hy41, h⟩ := obind h
      have q := W_i_copyPart (w0 := w40.drew) hy41 rfl (hS10.rB hr22) rfl (hS10.rB hr25) rfl (hS10.rB hr28) rfl (hS10.rB hr31) rfl (hS10.rB hr34) rfl (hS10.rB hr37)
      refine AW.one (i := 3) (by kernel_rfl) ?_
      refine ⟨_, rfl, ?_⟩
      refine LW.call pl102 rfl rfl ?_
      refine Ret.mono q ?_
      rintro _ w54 ⟨a42, c43, a44, c45, a46, c47, a48, c49, a50, c51, a52, c53, rfl, hs⟩
      have hS11 := hS10.add hs
      refine LW.nil ⟨rfl, (.w (by kernel_rfl) (.c (St.cell (h := hS11) (i := 7) rfl) Kept.n)), ?_⟩
      refine AW.one (i := 4) (by kernel_rfl) ?_
      refine ⟨_, rfl, ?_⟩
      refine LW.bsl1 (vs := #[.slice a42 y41.label.levels.length c43, .slice a44 y41.own.length c45, .slice a46 y41.tree.length c47, .slice a48 y41.heap.arena.length c49, .int .i64 y41.heap.gc.phase, .int .i64 y41.heap.gc.pos, .int .i64 y41.heap.gc.round, .slice a50 y41.heap.gc.grey.length c51, .slice a52 y41.taps.length c53, .int .i64 y41.next, .int .i64 y41.want, .int .i64 y41.spent.pages, .int .i64 y41.spent.rent, .int .i64 y41.spent.cpu, .int .i64 y41.press, .int .i64 y41.lost]) sT57 rfl (by kernel_rfl) hS11 rfl ?_
      intro g55 w56 hS12 hf
      refine LW.nil ⟨rfl, (.c (St.cell (h := hS12) (i := 7) rfl) (.c (St.cell (h := hS12) (i := 8) rfl) Kept.n)), ?_⟩
      have hS13 := hS12.pick (M := [sl a42 c43 y41.label.levels, sl a44 c45 y41.own, sl a46 c47 y41.tree, sl a48 c49 y41.heap.arena, sl a50 c51 y41.heap.gc.grey, sl a52 c53 y41.taps] ++ [bx g55 40 [.slice a42 y41.label.levels.length c43, .slice a44 y41.own.length c45, .slice a46 y41.tree.length c47, .slice a48 y41.heap.arena.length c49, .int .i64 y41.heap.gc.phase, .int .i64 y41.heap.gc.pos, .int .i64 y41.heap.gc.round, .slice a50 y41.heap.gc.grey.length c51, .slice a52 y41.taps.length c53, .int .i64 y41.next, .int .i64 y41.want, .int .i64 y41.spent.pages, .int .i64 y41.spent.rent, .int .i64 y41.spent.cpu, .int .i64 y41.press, .int .i64 y41.lost], bx g38 40 [.slice a20 y11.label.levels.length c21, .slice a23 y11.own.length c24, .slice a26 y11.tree.length c27, .slice a29 y11.heap.arena.length c30, .int .i64 y11.heap.gc.phase, .int .i64 y11.heap.gc.pos, .int .i64 y11.heap.gc.round, .slice a32 y11.heap.gc.grey.length c33, .slice a35 y11.taps.length c36, .int .i64 y11.next, .int .i64 y11.want, .int .i64 y11.spent.pages, .int .i64 y11.spent.rent, .int .i64 y11.spent.cpu, .int .i64 y11.press, .int .i64 y11.lost], bx g5 59 [.int .i64 x0.now, .slice s8a0 s8.2.length s8c0], bx g3 59 [.int .i64 0, .slice none 0 0], sl s8a0 s8c0 s8.2]) [1, 2, 3, 4, 5, 6, 0, 7, 8, 9, 10] rfl rfl
      replace ⟨y57, hy57, h⟩ := obind h
      refine AW.one (i := 5) (by kernel_rfl) ?_
      refine ⟨_, rfl, ?_⟩
      refine LW.appB (M := [sl a42 c43 y41.label.levels, sl a44 c45 y41.own, sl a46 c47 y41.tree, sl a48 c49 y41.heap.arena, sl a50 c51 y41.heap.gc.grey, sl a52 c53 y41.taps]) (L := [bx g55 40 [.slice a42 y41.label.levels.length c43, .slice a44 y41.own.length c45, .slice a46 y41.tree.length c47, .slice a48 y41.heap.arena.length c49, .int .i64 y41.heap.gc.phase, .int .i64 y41.heap.gc.pos, .int .i64 y41.heap.gc.round, .slice a50 y41.heap.gc.grey.length c51, .slice a52 y41.taps.length c53, .int .i64 y41.next, .int .i64 y41.want, .int .i64 y41.spent.pages, .int .i64 y41.spent.rent, .int .i64 y41.spent.cpu, .int .i64 y41.press, .int .i64 y41.lost], bx g38 40 [.slice a20 y11.label.levels.length c21, .slice a23 y11.own.length c24, .slice a26 y11.tree.length c27, .slice a29 y11.heap.arena.length c30, .int .i64 y11.heap.gc.phase, .int .i64 y11.heap.gc.pos, .int .i64 y11.heap.gc.round, .slice a32 y11.heap.gc.grey.length c33, .slice a35 y11.taps.length c36, .int .i64 y11.next, .int .i64 y11.want, .int .i64 y11.spent.pages, .int .i64 y11.spent.rent, .int .i64 y11.spent.cpu, .int .i64 y11.press, .int .i64 y11.lost], bx g5 59 [.int .i64 x0.now, .slice s8a0 s8.2.length s8c0], bx g3 59 [.int .i64 0, .slice none 0 0], sl s8a0 s8c0 s8.2]) (vs := [.slice a42 y41.label.levels.length c43, .slice a44 y41.own.length c45, .slice a46 y41.tree.length c47, .slice a48 y41.heap.arena.length c49, .int .i64 y41.heap.gc.phase, .int .i64 y41.heap.gc.pos, .int .i64 y41.heap.gc.round, .slice a50 y41.heap.gc.grey.length c51, .slice a52 y41.taps.length c53, .int .i64 y41.next, .int .i64 y41.want, .int .i64 y41.spent.pages, .int .i64 y41.spent.rent, .int .i64 y41.spent.cpu, .int .i64 y41.press, .int .i64 y41.lost]) (i := 4) (j := 0) sT57 rfl rfl hy57 hS13 rfl rfl (fun w G hG => ⟨a42, c43, a44, c45, a46, c47, a48, c49, a50, c51, a52, c53, rfl, hG⟩) rfl ?_
      intro a58 c59 w60 hS14 hf
      refine LW.nil ⟨rfl, (.c (St.cell (h := hS14) (i := 1) rfl) (.w (by kernel_rfl) Kept.n)), ?_⟩
      refine go ?_
      refine AW.one (i := 7) (by kernel_rfl) ?_
      refine ⟨_, rfl, ?_⟩
      refine LW.st hS14 2 fun w61 hS15 => ?_
      refine LW.nil ⟨rfl, (.w (by kernel_rfl) (.w (by kernel_rfl) Kept.n)), ?_⟩
      refine go ?_
      cases oi h
      exact ⟨rfl, ⟨a58, c59, ⟨rfl, rfl, rfl, rfl, rfl, trivial⟩, hS15.pick [2, 3, 4] rfl rfl⟩⟩
    replace h := bcF h hc10
    refine go ?_
    cases oi h
    exact ⟨trivial, rfl, ⟨s8a0, s8c0, ⟨rfl, rfl, trivial⟩, hS7.pick [0, 1, 2] rfl rfl⟩⟩
  intro x e w64 hM
  obtain ⟨rfl, hM⟩ := hM
  obtain ⟨s8a0, s8c0, hE, hS16⟩ := hM
  obtain ⟨e, rfl⟩ := hE.out
  have h := h63
  refine go ?_
  refine LW.st hS16 1 fun w65 hS17 => ?_
  refine go ?_
  cases h
  exact And.intro trivial ⟨_, Res.one (resOne.b hS17 1 rfl ag59 rfl rfl), s8a0, s8c0, rfl, hS17.pick [2] rfl rfl⟩

theorem W_i_TreePay {w0 : World} {N : Nat} {x0 : List DRes} {x1 : Int} {x2 : DAmt} {r : (List DRes) × Bool} (h : F_i_TreePay N x0 x1 x2 = some r) {a0_0 : Option Addr} {n0_0 c0_0 : Nat} (hn0_0 : n0_0 = x0.length) (hr0_0 : rdS (Bor w0 []) w0 a0_0 c0_0 x0) :
    Ret Try.prog 133 #[.slice a0_0 n0_0 c0_0, .int .i64 x1, .agg #[.int .i64 x2.pages, .int .i64 x2.rent, .int .i64 x2.cpu]] w0 (fun v w => ∃ ar0 cr0, v = .tuple #[.slice ar0 r.1.length cr0, .bool r.2] ∧ St w0 [] w [sl ar0 cr0 r.1]) := by
  subst hn0_0
  unfold F_i_TreePay at h
  refine Ret.fn Try.func133 fun e => ?_
  have hS1 := St.start w0
  refine go ?_
  refine LW.bo hS1 fun g1 w2 hS2 => ?_
  refine go ?_
  replace ⟨y3, hy3, h⟩ := obind h
  refine LW.cl (W_i_copyTree hy3 rfl (hS2.rB hr0_0)) ?_
  rintro _ w6 ⟨a4, c5, rfl, hs⟩
  have hS3 := hS2.add hs
  refine gs ?_
  obtain ⟨j7, hj7, h8⟩ := obind h
  refine CW.jn [0, 1, 5, 8] [0, 1] [(21, .bool j7)] hS3 (h1 := ?_) (h2 := ?_)
  · have h := hj7
    refine go ?_
    replace ⟨y9, hy9, h⟩ := obind h
    refine LW.c0 (W_i_TreeOk hy9 rfl (hS3.rB hr0_0)) hS3 fun w10 hS4 => ?_
    refine go ?_
    rcases bcases (!y9) with hc11 | hc11
    · replace h := bcT h hc11
      refine go ?_
      cases oi h
      exact ⟨⟨rfl, rfl, rfl, rfl, rfl, trivial⟩, hS4.pick [0, 1] rfl rfl⟩
    replace h := bcF h hc11
    refine go ?_
    replace ⟨y12, hy12, h⟩ := obind h
    refine go ?_
    refine LW.c0 (W_i_isLive hy12 rfl (hS4.rB hr0_0)) hS4 fun w13 hS5 => ?_
    refine go ?_
    cases oi h
    exact ⟨⟨rfl, rfl, rfl, rfl, rfl, trivial⟩, hS5.pick [0, 1] rfl rfl⟩
  intro e w14 hS6
  have h := h8
  refine go ?_
  refine cd (fun hc15 => ?_) fun hc15 => ?_
  · replace h := bcT h hc15
    refine go ?_
    cases h
    exact And.intro trivial ⟨_, Res.two (resOne.t rfl) (resOne.t rfl), a4, c5, rfl, hS6.pick [0] rfl rfl⟩
  replace h := bcF h hc15
  refine gs ?_
  obtain ⟨j16, hj16, h17⟩ := obind h
  refine CW.cut (fun e wb => ∃ (j16g9 : Nat), En e [(1, .int .i64 x1), (8, .slice a4 y3.length c5), (9, .pointer (some ⟨j16g9, 0, none⟩)), (10, .bool j16.2.2.2)] ∧ St w0 [] wb [sl a4 c5 y3, bx j16g9 28 [.int .i64 j16.1, .int .i64 j16.2.1, .int .i64 j16.2.2.1]]) ?_ ?_
  · have h := hj16
    refine CW.draw (by kernel_rfl) ?_
    have hS7 := hS6.drew
    refine go ?_
    replace ⟨y18, hy18, h⟩ := obind h
    obtain ⟨b21, o22, cs23, hae, hb26, hp19, hq20, hd24, hk25⟩ := hr0_0.idx hy18
    subst hae
    obtain rfl := hd24
    refine AW.u (i := 2) rfl (by kernel_rfl) rfl rfl (Pur.ix Try.underlying32 sz111 rfl rfl hp19 hq20) ?_
    refine go ?_
    refine AW.take (i := 4) rfl (by kernel_rfl) rfl rfl (Ldr.oldN w0 ag28 rfl rfl (fun j u hu => oldsub (m := 3) hk25 2 hu)) (hS7.same _ hb26.1 hb26.2) ?_
    refine go ?_
    replace ⟨y27, hy27, h⟩ := obind h
    refine AW.all (rs := [6, 10]) (by kernel_rfl) (by simp) ⟨?_, ?_, trivial⟩
    · have q := W_i_AmtSub (w0 := w14.drew) hy27
      refine ⟨_, rfl, ?_⟩
      refine LW.call pl136 rfl rfl ?_
      refine Ret.mono q ?_
      rintro _ w32 ⟨rfl, hs⟩
      have hS8 := hS7.add hs
      refine LW.nil ⟨rfl, (.w (by kernel_rfl) (.w (by kernel_rfl) Kept.n)), ?_⟩
      refine AW.u (i := 7) rfl (by kernel_rfl) rfl rfl (Pur.p rfl) ?_
      refine go ?_
      refine AW.one (i := 10) (by kernel_rfl) ?_
      refine ⟨_, rfl, ?_⟩
      refine LW.al hS8 fun g33 w34 hS9 => ?_
      refine LW.nil ⟨rfl, (.c (St.cell (h := hS9) (i := 2) rfl) (.c (hS9.same _ hb26.1 hb26.2) Kept.n)), ?_⟩
      refine AW.one (i := 11) (by kernel_rfl) ?_
      refine ⟨_, rfl, ?_⟩
      refine LW.st hS9 0 fun w35 hS10 => ?_
      refine LW.nil ⟨rfl, (.w (by kernel_rfl) (.w (by kernel_rfl) Kept.n)), ?_⟩
      refine go ?_
      cases oi h
      exact ⟨g33, ⟨rfl, rfl, rfl, rfl, trivial⟩, hS10.pick [1, 0] rfl rfl⟩
    refine ⟨_, rfl, ?_⟩
    refine LW.al hS7 fun g36 w37 hS11 => ?_
    refine LW.nil ⟨rfl, (.c (St.cell (h := hS11) (i := 2) rfl) (.c (hS11.same _ hb26.1 hb26.2) Kept.n)), ?_⟩
    have q := W_i_AmtSub (w0 := w37) hy27
    refine AW.one (i := 6) (by kernel_rfl) ?_
    refine ⟨_, rfl, ?_⟩
    refine LW.call pl136 rfl rfl ?_
    refine Ret.mono q ?_
    rintro _ w38 ⟨rfl, hs⟩
    have hS12 := hS11.add hs
    refine LW.nil ⟨rfl, (.w (by kernel_rfl) (.w (by kernel_rfl) Kept.n)), ?_⟩
    refine go ?_
    refine AW.one (i := 11) (by kernel_rfl) ?_
    refine ⟨_, rfl, ?_⟩
    refine LW.st hS12 0 fun w39 hS13 => ?_
    refine LW.nil ⟨rfl, (.w (by kernel_rfl) (.w (by kernel_rfl) Kept.n)), ?_⟩
    refine go ?_
    cases oi h
    exact ⟨g36, ⟨rfl, rfl, rfl, rfl, trivial⟩, hS13.pick [1, 0] rfl rfl⟩
  rintro e w40 ⟨j16g9, hE, hS14⟩
  obtain ⟨e, rfl⟩ := hE.out
  have h := h17
  refine go ?_
  replace ⟨y41, hy41, h⟩ := obind h
  obtain ⟨b44, o45, hae, hp42, hq43⟩ := hS14.ownIdx (α := DRes) (i := 0) rfl hy41
  subst hae
  refine LW.u (Pur.ix Try.underlying32 sz111 rfl rfl hp42 hq43) rfl ?_
  refine go ?_
  replace ⟨y46, hy46, h⟩ := obind h
  refine LW.stE (M := []) (L := [sl (some ⟨b44, o45, none⟩) c5 y3, bx j16g9 28 [.int .i64 j16.1, .int .i64 j16.2.1, .int .i64 j16.2.2.1]]) (z := y41) (z' := (DRes.mk y41.live y41.parent (DAmt.mk j16.1 j16.2.1 j16.2.2.1))) (o := 2) hS14 (i := 0) rfl hy41 ag28 rfl (by show _ = o45 + (x1 : Int).toNat * 5 + 2; omega) rfl rfl rfl rfl (leafF (fun w cs F hF => by obtain ⟨rfl, rfl⟩ := hF; exact ⟨rfl, rfl⟩)) ?_
  intro w47 hS15 hf
  rw [Option.some.inj hy46] at hS15
  refine go ?_
  replace h := Option.some.inj h
  subst h
  exact And.intro trivial ⟨_, Res.two (resOne.t rfl) (resOne.t rfl), (some ⟨b44, o45, none⟩), c5, (show (.tuple #[.slice (some ⟨b44, o45, none⟩) y3.length c5, .bool j16.2.2.2] : Value) = .tuple #[.slice (some ⟨b44, o45, none⟩) y46.length c5, .bool j16.2.2.2] by rw [show y3.length = y46.length from (len_set (Option.some.inj hy46))]), hS15.pick [0] rfl rfl⟩

theorem W_i_TreeDrop {w0 : World} {N : Nat} {x0 : List DRes} {x1 : Int} {r : (List DRes) × Bool} (h : F_i_TreeDrop N x0 x1 = some r) {a0_0 : Option Addr} {n0_0 c0_0 : Nat} (hn0_0 : n0_0 = x0.length) (hr0_0 : rdS (Bor w0 []) w0 a0_0 c0_0 x0) :
    Ret Try.prog 131 #[.slice a0_0 n0_0 c0_0, .int .i64 x1] w0 (fun v w => ∃ ar0 cr0, v = .tuple #[.slice ar0 r.1.length cr0, .bool r.2] ∧ St w0 [] w [sl ar0 cr0 r.1]) := by
  subst hn0_0
  unfold F_i_TreeDrop at h
  refine Ret.fn Try.func131 fun e => ?_
  have hS1 := St.start w0
  refine go ?_
  replace ⟨y1, hy1, h⟩ := obind h
  refine LW.cl (W_i_copyTree hy1 rfl (hS1.rB hr0_0)) ?_
  rintro _ w4 ⟨a2, c3, rfl, hs⟩
  have hS2 := hS1.add hs
  refine gs ?_
  obtain ⟨j5, hj5, h6⟩ := obind h
  refine CW.jn [0, 1, 6] [0] [(23, .bool j5)] hS2 (h1 := ?_) (h2 := ?_)
  · have h := hj5
    refine go ?_
    replace ⟨y7, hy7, h⟩ := obind h
    refine LW.c0 (W_i_TreeOk hy7 rfl (hS2.rB hr0_0)) hS2 fun w8 hS3 => ?_
    refine go ?_
    rcases bcases (!y7) with hc9 | hc9
    · replace h := bcT h hc9
      refine go ?_
      cases oi h
      exact ⟨⟨rfl, rfl, rfl, rfl, trivial⟩, hS3.pick [0] rfl rfl⟩
    replace h := bcF h hc9
    refine go ?_
    rcases bcases (x1 == 0) with hc10 | hc10
    · replace h := bcT h hc10
      refine go ?_
      cases oi h
      exact ⟨⟨rfl, rfl, rfl, rfl, trivial⟩, hS3.pick [0] rfl rfl⟩
    replace h := bcF h hc10
    refine go ?_
    replace ⟨y11, hy11, h⟩ := obind h
    refine go ?_
    refine LW.c0 (W_i_isLive hy11 rfl (hS3.rB hr0_0)) hS3 fun w12 hS4 => ?_
    refine go ?_
    cases oi h
    exact ⟨⟨rfl, rfl, rfl, rfl, trivial⟩, hS4.pick [0] rfl rfl⟩
  intro e w13 hS5
  have h := h6
  refine go ?_
  refine cd (fun hc14 => ?_) fun hc14 => ?_
  · replace h := bcT h hc14
    refine go ?_
    cases h
    exact And.intro trivial ⟨_, Res.two (resOne.t rfl) (resOne.t rfl), a2, c3, rfl, hS5.pick [0] rfl rfl⟩
  replace h := bcF h hc14
  refine go ?_
  replace ⟨y15, hy15, h⟩ := obind h
  obtain ⟨b18, o19, cs20, hae, hb23, hp16, hq17, hd21, hk22⟩ := hr0_0.idx hy15
  subst hae
  obtain rfl := hd21
  refine LW.u (Pur.ix Try.underlying32 sz111 rfl rfl hp16 hq17) rfl ?_
  refine go ?_
  refine LW.l (Ldr.old w0 ag3 rfl (hk22 1 _ rfl)) (hS5.same _ hb23.1 hb23.2) rfl ?_
  refine go ?_
  refine CW.draw (by kernel_rfl) ?_
  have hS6 := hS5.drew
  refine go ?_
  replace ⟨y24, hy24, h⟩ := obind h
  obtain ⟨b27, o28, hae, hp25, hq26⟩ := hS6.ownIdx (α := DRes) (i := 0) rfl hy24
  subst hae
  refine AW.u (i := 4) rfl (by kernel_rfl) rfl rfl (Pur.ix Try.underlying32 sz111 rfl rfl hp25 hq26) ?_
  refine go ?_
  obtain ⟨F29, ho30, hS7⟩ := hS6.freeze (α := DRes) 0 rfl
  obtain ⟨b31, o32, cs33, hae, hb36, _, _, hd34, hk35⟩ := ho30.rdF.idx hy24
  cases hae
  obtain rfl := hd34
  refine AW.take (i := 6) rfl (by kernel_rfl) rfl rfl (Ldr.oldN w13.drew ag28 rfl rfl (fun j u hu => oldsub (m := 3) hk35 2 hu)) (hS7.zC 0 rfl hb36) ?_
  refine go ?_
  refine AW.u (i := 9) rfl (by kernel_rfl) rfl rfl (Pur.ix Try.underlying32 sz111 rfl rfl hp16 hq17) ?_
  refine go ?_
  refine AW.take (i := 11) rfl (by kernel_rfl) rfl rfl (Ldr.oldN w0 ag28 rfl rfl (fun j u hu => oldsub (m := 3) hk22 2 hu)) (hS7.same _ hb23.1 hb23.2) ?_
  replace ⟨y37, hy37, h⟩ := obind h
  have q := W_i_sumOf (w0 := w13.drew) hy37
  refine AW.one (i := 12) (by kernel_rfl) ?_
  refine ⟨_, rfl, ?_⟩
  refine LW.call pl61 rfl rfl ?_
  refine Ret.mono q ?_
  rintro _ w38 ⟨rfl, hs⟩
  have hS8 := hS7.add hs
  refine LW.nil ⟨rfl, (.w (by kernel_rfl) (.w (by kernel_rfl) Kept.n)), ?_⟩
  refine AW.u (i := 13) rfl (by kernel_rfl) rfl rfl (Pur.ix Try.underlying32 sz111 rfl rfl hp25 hq26) ?_
  refine go ?_
  have hS9 := hS8.thaw (α := DRes) 0 rfl ho30
  replace ⟨y39, hy39, h⟩ := obind h
  refine AW.one (i := 15) (by kernel_rfl) ?_
  refine ⟨_, rfl, ?_⟩
  refine LW.stE (M := []) (L := [sl (some ⟨b27, o28, none⟩) c3 y1]) (z := y24) (z' := (DRes.mk y24.live y24.parent y37)) (o := 2) hS9 (i := 0) rfl hy24 ag28 rfl (by show _ = o28 + (y15.parent : Int).toNat * 5 + 2; omega) rfl rfl rfl rfl (leafF (fun w cs F hF => by obtain ⟨rfl, rfl⟩ := hF; exact ⟨rfl, rfl⟩)) ?_
  intro w40 hS10 hf
  rw [Option.some.inj hy39] at hS10
  refine LW.nil ⟨rfl, (.w (by kernel_rfl) (.w (by kernel_rfl) Kept.n)), ?_⟩
  refine go ?_
  refine LW.u (Pur.build (vs := []) (cs := #[.bool false, .int .i64 0, .int .i64 0, .int .i64 0, .int .i64 0]) rfl (by kernel_rfl)) rfl ?_
  replace ⟨y41, hy41, h⟩ := obind h
  obtain ⟨b44, o45, hae, hp42, hq43⟩ := hS10.ownIdx (α := DRes) (i := 0) rfl hy41
  cases hae
  refine LW.u (Pur.ix Try.underlying32 sz111 rfl rfl hp42 (by rw [show y1.length = y39.length from (len_set (Option.some.inj hy39))]; exact hq43)) rfl ?_
  replace ⟨y46, hy46, h⟩ := obind h
  refine LW.stE (M := []) (L := [sl (some ⟨b27, o28, none⟩) c3 y39]) (z := y41) (z' := (DRes.mk false 0 (DAmt.mk 0 0 0))) (o := 0) hS10 (i := 0) rfl hy41 ag111 rfl (by show _ = o28 + (x1 : Int).toNat * 5 + 0; omega) rfl rfl rfl rfl (whole (fun w G hG => by cases (show G = [] from hG); exact ⟨rfl, rfl⟩)) ?_
  intro w47 hS11 hf
  rw [Option.some.inj hy46] at hS11
  refine go ?_
  obtain ⟨o76, ho76, h77⟩ := obind h
  refine CW.mono (CW.iter (σ := (List DRes) × Int) (ρ := (List DRes) × Int) (fun s48 e wb => En e [(1, .int .i64 x1), (6, .slice (some ⟨b27, o28, none⟩) s48.1.length c3), (7, .int .i64 y15.parent), (50, .int .i64 (y1.length : Int)), (51, .int .i64 s48.2)] ∧ St w0 [] wb [sl (some ⟨b27, o28, none⟩) c3 s48.1]) (fun s48 x e wb => x = .exit 0 ∧ En e [(6, .slice (some ⟨b27, o28, none⟩) s48.1.length c3)] ∧ St w0 [] wb [sl (some ⟨b27, o28, none⟩) c3 s48.1]) ?_ N (y46, 0) _ _ _ ⟨⟨rfl, (show (.slice (some ⟨b27, o28, none⟩) y1.length c3 : Value) = .slice (some ⟨b27, o28, none⟩) y46.length c3 by rw [show y1.length = y46.length from ((len_set (Option.some.inj hy39)).trans (len_set (Option.some.inj hy46)))]), rfl, rfl, rfl, trivial⟩, hS11.pick [0] rfl rfl⟩ ho76) ?_
  · intro s48 e w49 o hM h
    obtain ⟨hE, hS12⟩ := hM
    obtain ⟨e, rfl⟩ := hE.out
    refine go ?_
    refine CW.fl [1, 6, 7, 50, 51, 52] fun e => ?_
    refine cd (fun hc50 => ?_) fun hc50 => ?_
    · replace h := bcT h hc50
      refine gs ?_
      refine CW.block ?_
      refine gs ?_
      refine CW.region ?_
      refine gs ?_
      obtain ⟨j51, hj51, h52⟩ := obind h
      refine CW.jn [1, 6, 7, 8, 50, 51] [0] [(67, .bool j51)] hS12 (h1 := ?_) (h2 := ?_)
      · have h := hj51
        refine go ?_
        replace ⟨y53, hy53, h⟩ := obind h
        obtain ⟨b56, o57, hae, hp54, hq55⟩ := hS12.ownIdx (α := DRes) (i := 0) rfl hy53
        cases hae
        refine LW.u (Pur.ix Try.underlying32 sz111 rfl rfl hp54 hq55) rfl ?_
        refine go ?_
        obtain ⟨F58, ho59, hS13⟩ := hS12.freeze (α := DRes) 0 rfl
        obtain ⟨b60, o61, cs62, hae, hb65, _, _, hd63, hk64⟩ := ho59.rdF.idx hy53
        cases hae
        obtain rfl := hd63
        refine LW.l (Ldr.old w49 ag4 rfl (hk64 0 _ rfl)) (hS13.zC 0 rfl hb65) rfl ?_
        refine go ?_
        rcases bcases y53.live with hc66 | hc66
        · replace h := bcT h hc66
          refine go ?_
          refine LW.u (Pur.ix Try.underlying32 sz111 rfl rfl hp54 hq55) rfl ?_
          refine go ?_
          refine LW.l (Ldr.old w49 ag3 rfl (hk64 1 _ rfl)) (hS13.zC 0 rfl hb65) rfl ?_
          refine go ?_
          have hS14 := hS13.thaw (α := DRes) 0 rfl ho59
          cases oi h
          exact ⟨⟨rfl, rfl, rfl, rfl, rfl, rfl, rfl, trivial⟩, hS14.pick [0] rfl rfl⟩
        replace h := bcF h hc66
        refine go ?_
        have hS15 := hS13.thaw (α := DRes) 0 rfl ho59
        cases oi h
        exact ⟨⟨rfl, rfl, rfl, rfl, rfl, rfl, rfl, trivial⟩, hS15.pick [0] rfl rfl⟩
      intro e w67 hS16
      have h := h52
      refine go ?_
      refine cd (fun hc68 => ?_) fun hc68 => ?_
      · replace h := bcT h hc68
        refine go ?_
        replace ⟨y69, hy69, h⟩ := obind h
        obtain ⟨b72, o73, hae, hp70, hq71⟩ := hS16.ownIdx (α := DRes) (i := 0) rfl hy69
        cases hae
        refine LW.u (Pur.ix Try.underlying32 sz111 rfl rfl hp70 hq71) rfl ?_
        refine go ?_
        replace ⟨y74, hy74, h⟩ := obind h
        refine LW.stE (M := []) (L := [sl (some ⟨b27, o28, none⟩) c3 s48.1]) (z := y69) (z' := (DRes.mk y69.live y15.parent y69.bal)) (o := 1) hS16 (i := 0) rfl hy69 ag3 rfl (by show _ = o28 + (s48.2 : Int).toNat * 5 + 1; omega) rfl rfl rfl rfl (leafF (fun w cs F hF => by obtain ⟨rfl, rfl⟩ := hF; exact ⟨rfl, rfl⟩)) ?_
        intro w75 hS17 hf
        rw [Option.some.inj hy74] at hS17
        refine go ?_
        replace h := Option.some.inj h
        subst h
        exact ⟨rfl, ⟨⟨rfl, (show (.slice (some ⟨b27, o28, none⟩) s48.1.length c3 : Value) = .slice (some ⟨b27, o28, none⟩) y74.length c3 by rw [show s48.1.length = y74.length from (len_set (Option.some.inj hy74))]), rfl, rfl, rfl, trivial⟩, hS17.pick [0] rfl rfl⟩⟩
      replace h := bcF h hc68
      refine go ?_
      cases oi h
      exact ⟨rfl, ⟨⟨rfl, rfl, rfl, rfl, rfl, trivial⟩, hS16.pick [0] rfl rfl⟩⟩
    replace h := bcF h hc50
    refine go ?_
    cases oi h
    exact ⟨trivial, rfl, ⟨⟨rfl, trivial⟩, hS12.pick [0] rfl rfl⟩⟩
  intro x e w78 hM
  obtain ⟨rfl, hM⟩ := hM
  obtain ⟨hE, hS18⟩ := hM
  obtain ⟨e, rfl⟩ := hE.out
  have h := h77
  refine go ?_
  cases h
  exact And.intro trivial ⟨_, Res.two (resOne.t rfl) (resOne.t rfl), (some ⟨b27, o28, none⟩), c3, rfl, hS18.pick [0] rfl rfl⟩

theorem W_i_GoodSlot {w0 : World} {N : Nat} {x0 : List DObj} {x1 : Int} {x2 : Int} {x3 : Int} {r : Int} (h : F_i_GoodSlot N x0 x1 x2 x3 = some r) {a0_0 : Option Addr} {n0_0 c0_0 : Nat} (hn0_0 : n0_0 = x0.length) (hr0_0 : rdS (Bor w0 []) w0 a0_0 c0_0 x0) :
    Ret Try.prog 106 #[.slice a0_0 n0_0 c0_0, .int .i64 x1, .int .i64 x2, .int .i64 x3] w0 (fun v w => v = .int .i64 r ∧ St w0 [] w []) := by
  subst hn0_0
  unfold F_i_GoodSlot at h
  refine Ret.fn Try.func106 fun e => ?_
  have hS1 := St.start w0
  refine go ?_
  replace ⟨y1, hy1, h⟩ := obind h
  refine LW.cl (W_i_Reach hy1 rfl (hS1.rB hr0_0)) ?_
  rintro _ w4 ⟨a2, c3, rfl, hs⟩
  have hS2 := hS1.add hs
  refine gs ?_
  obtain ⟨j5, hj5, h6⟩ := obind h
  refine CW.jn [0, 3, 9] [0] [(27, .bool j5)] hS2 (h1 := ?_) (h2 := ?_)
  · have h := hj5
    refine go ?_
    rcases bcases ((y1.length : Int) == 0) with hc7 | hc7
    · replace h := bcT h hc7
      refine go ?_
      cases oi h
      exact ⟨⟨rfl, rfl, rfl, rfl, trivial⟩, hS2.pick [0] rfl rfl⟩
    replace h := bcF h hc7
    refine go ?_
    replace ⟨y8, hy8, h⟩ := obind h
    refine go ?_
    refine LW.c0 (W_i_isHandle hy8) hS2 fun w9 hS3 => ?_
    refine go ?_
    rcases bcases (!y8) with hc10 | hc10
    · replace h := bcT h hc10
      refine go ?_
      cases oi h
      exact ⟨⟨rfl, rfl, rfl, rfl, trivial⟩, hS3.pick [0] rfl rfl⟩
    replace h := bcF h hc10
    refine go ?_
    replace ⟨y11, hy11, h⟩ := obind h
    refine go ?_
    refine LW.c0 (W_i_HandlePart hy11) hS3 fun w12 hS4 => ?_
    refine go ?_
    cases oi h
    exact ⟨⟨rfl, rfl, rfl, rfl, trivial⟩, hS4.pick [0] rfl rfl⟩
  intro e w13 hS5
  have h := h6
  refine go ?_
  refine cd (fun hc14 => ?_) fun hc14 => ?_
  · replace h := bcT h hc14
    refine go ?_
    cases h
    exact fi hS5
  replace h := bcF h hc14
  refine go ?_
  replace ⟨y15, hy15, h⟩ := obind h
  refine LW.c0 (W_i_HandleSlot hy15) hS5 fun w16 hS6 => ?_
  refine gs ?_
  obtain ⟨j17, hj17, h18⟩ := obind h
  refine CW.jn [10] [] [(52, .bool j17)] hS6 (h1 := ?_) (h2 := ?_)
  · have h := hj17
    refine CW.draw (by kernel_rfl) ?_
    have hS7 := hS6.drew
    refine go ?_
    replace ⟨y19, hy19, h⟩ := obind h
    obtain ⟨b22, o23, cs24, hae, hb27, hp20, hq21, hd25, hk26⟩ := hr0_0.idx hy19
    subst hae
    obtain ⟨a28, c29, a31, c32, a34, c35, rfl, hr30, hr33, hr36⟩ := hd25
    refine AW.u (i := 2) rfl (by kernel_rfl) rfl rfl (Pur.ix Try.underlying33 sz84 rfl rfl hp20 hq21) ?_
    refine go ?_
    refine AW.take (i := 4) rfl (by kernel_rfl) rfl rfl (Ldr.old w0 ag3 rfl (hk26 1 _ rfl)) (hS7.same _ hb27.1 hb27.2) ?_
    refine go ?_
    rcases bcases (y19.kind == 0) with hc37 | hc37
    · replace h := bcT h hc37
      refine go ?_
      cases oi h
      exact ⟨⟨rfl, rfl, trivial⟩, hS7.pick [] rfl rfl⟩
    replace h := bcF h hc37
    refine go ?_
    refine AW.u (i := 9) rfl (by kernel_rfl) (want_of rfl rfl hc37) rfl (Pur.ix Try.underlying33 sz84 rfl rfl hp20 hq21) ?_
    refine go ?_
    refine AW.take (i := 11) rfl (by kernel_rfl) (want_of rfl rfl hc37) rfl (Ldr.old w0 ag3 rfl (hk26 0 _ rfl)) (hS7.same _ hb27.1 hb27.2) ?_
    refine go ?_
    replace ⟨y38, hy38, h⟩ := obind h
    have q := W_i_HandleGen (w0 := w16.drew) hy38
    refine AW.one (i := 13) (by kernel_rfl) ?_
    refine ⟨_, rfl, ?_⟩
    refine (LW.gY (want_of rfl rfl hc37) ?_)
    refine LW.call pl115 rfl rfl ?_
    refine Ret.mono q ?_
    rintro _ w39 ⟨rfl, hs⟩
    have hS8 := hS7.add hs
    refine LW.nil ⟨rfl, (.c (hS8.same _ hb27.1 hb27.2) (.c (hS8.same _ hb27.1 hb27.2) Kept.n)), ?_⟩
    refine go ?_
    rcases bcases (y19.gen != y38) with hc40 | hc40
    · replace h := bcT h hc40
      refine go ?_
      cases oi h
      exact ⟨⟨rfl, rfl, trivial⟩, hS8.pick [] rfl rfl⟩
    replace h := bcF h hc40
    refine go ?_
    replace ⟨y41, hy41, h⟩ := obind h
    obtain ⟨b44, o45, hae, hp42, hq43⟩ := hS8.ownIdx (α := Bool) (i := 0) rfl hy41
    subst hae
    refine AW.u (i := 19) rfl (by kernel_rfl) (want_of rfl rfl hc40) rfl (Pur.ix Try.underlying96 sz4 rfl rfl hp42 hq43) ?_
    obtain ⟨F46, ho47, hS9⟩ := hS8.freeze (α := Bool) 0 rfl
    obtain ⟨b48, o49, cs50, hae, hb53, _, _, hd51, hk52⟩ := ho47.rdF.idx hy41
    cases hae
    obtain rfl := hd51
    refine AW.take (i := 20) rfl (by kernel_rfl) (want_of rfl rfl hc40) rfl (Ldr.old w39 ag4 rfl (hk52 0 _ rfl)) (hS9.zC 0 rfl hb53) ?_
    refine go ?_
    cases oi h
    exact ⟨⟨rfl, rfl, trivial⟩, hS9.pick [] rfl rfl⟩
  intro e w54 hS10
  have h := h18
  refine go ?_
  refine cd (fun hc55 => ?_) fun hc55 => ?_
  · replace h := bcT h hc55
    refine go ?_
    cases h
    exact fi hS10
  replace h := bcF h hc55
  refine go ?_
  cases h
  exact fi hS10

theorem W_i_caller_pay {w0 : World} {F : List Nat} {N : Nat} {x0 : DCaller} {x1 : Int} {x2 : DAmt} {r : Bool × DCaller} (h : F_i_caller_pay N x0 x1 x2 = some r) {g0 : Nat} {a0_0 : Option Addr} {c0_0 : Nat} (hr0_0 : rdS (Bor w0 F) w0 a0_0 c0_0 x0.part.label.levels) {a0_1 : Option Addr} {c0_1 : Nat} (hr0_1 : rdS (Bor w0 F) w0 a0_1 c0_1 x0.part.own) {a0_2 : Option Addr} {c0_2 : Nat} {a0_3 : Option Addr} {c0_3 : Nat} (hr0_3 : rdS (Bor w0 F) w0 a0_3 c0_3 x0.part.heap.arena) {a0_7 : Option Addr} {c0_7 : Nat} (hr0_7 : rdS (Bor w0 F) w0 a0_7 c0_7 x0.part.heap.gc.grey) {a0_8 : Option Addr} {c0_8 : Nat} (hr0_8 : rdS (Bor w0 F) w0 a0_8 c0_8 x0.part.taps) (hS : St w0 F w0 [bx g0 140 [.slice a0_0 x0.part.label.levels.length c0_0, .slice a0_1 x0.part.own.length c0_1, .slice a0_2 x0.part.tree.length c0_2, .slice a0_3 x0.part.heap.arena.length c0_3, .int .i64 x0.part.heap.gc.phase, .int .i64 x0.part.heap.gc.pos, .int .i64 x0.part.heap.gc.round, .slice a0_7 x0.part.heap.gc.grey.length c0_7, .slice a0_8 x0.part.taps.length c0_8, .int .i64 x0.part.next, .int .i64 x0.part.want, .int .i64 x0.part.spent.pages, .int .i64 x0.part.spent.rent, .int .i64 x0.part.spent.cpu, .int .i64 x0.part.press, .int .i64 x0.part.lost, .int .i64 x0.me, .int .i64 x0.now, .int .i64 x0.thread], sl a0_2 c0_2 x0.part.tree]) :
    Ret Try.prog 125 #[.pointer (some ⟨g0, 0, none⟩), .int .i64 x1, .agg #[.int .i64 x2.pages, .int .i64 x2.rent, .int .i64 x2.cpu]] w0 (fun v w => ∃ ab0_2 cb0_2, v = .bool r.1 ∧ St w0 F w [bx g0 140 [.slice a0_0 x0.part.label.levels.length c0_0, .slice a0_1 x0.part.own.length c0_1, .slice ab0_2 r.2.part.tree.length cb0_2, .slice a0_3 x0.part.heap.arena.length c0_3, .int .i64 r.2.part.heap.gc.phase, .int .i64 r.2.part.heap.gc.pos, .int .i64 r.2.part.heap.gc.round, .slice a0_7 x0.part.heap.gc.grey.length c0_7, .slice a0_8 x0.part.taps.length c0_8, .int .i64 r.2.part.next, .int .i64 r.2.part.want, .int .i64 r.2.part.spent.pages, .int .i64 r.2.part.spent.rent, .int .i64 r.2.part.spent.cpu, .int .i64 r.2.part.press, .int .i64 r.2.part.lost, .int .i64 r.2.me, .int .i64 r.2.now, .int .i64 r.2.thread], sl ab0_2 cb0_2 r.2.part.tree]) := by
  unfold F_i_caller_pay at h
  refine Ret.fn Try.func125 fun e => ?_
  refine go ?_
  refine LW.bo hS fun g1 w2 hS1 => ?_
  refine go ?_
  refine CW.draw (by kernel_rfl) ?_
  have hS2 := hS1.drew
  refine go ?_
  replace ⟨y3, hy3, h⟩ := obind h
  have q := W_i_TreePay (w0 := w2.drew) hy3 rfl (hS2.rI 2 rfl)
  refine AW.one (i := 7) (by kernel_rfl) ?_
  refine ⟨_, rfl, ?_⟩
  refine LW.call pl133 rfl rfl ?_
  refine Ret.mono q ?_
  rintro _ w6 ⟨a4, c5, rfl, hs⟩
  have hS3 := hS2.add hs
  refine LW.nil ⟨rfl, (.w (by kernel_rfl) (.w (by kernel_rfl) Kept.n)), ?_⟩
  refine gs ?_
  obtain ⟨j7, hj7, h8⟩ := obind h
  refine CW.cut (fun e wb => ∃ (j7g9 : Nat), En e [(0, .pointer (some ⟨g0, 0, none⟩)), (7, .slice a4 y3.1.length c5), (8, .bool y3.2), (9, .pointer (some ⟨j7g9, 0, none⟩)), (10, .bool j7.2.2.2)] ∧ St w0 F wb [sl a4 c5 y3.1, bx g0 140 [.slice a0_0 x0.part.label.levels.length c0_0, .slice a0_1 x0.part.own.length c0_1, .slice a0_2 x0.part.tree.length c0_2, .slice a0_3 x0.part.heap.arena.length c0_3, .int .i64 x0.part.heap.gc.phase, .int .i64 x0.part.heap.gc.pos, .int .i64 x0.part.heap.gc.round, .slice a0_7 x0.part.heap.gc.grey.length c0_7, .slice a0_8 x0.part.taps.length c0_8, .int .i64 x0.part.next, .int .i64 x0.part.want, .int .i64 x0.part.spent.pages, .int .i64 x0.part.spent.rent, .int .i64 x0.part.spent.cpu, .int .i64 x0.part.press, .int .i64 x0.part.lost, .int .i64 x0.me, .int .i64 x0.now, .int .i64 x0.thread], sl a0_2 c0_2 x0.part.tree, bx j7g9 28 [.int .i64 j7.1, .int .i64 j7.2.1, .int .i64 j7.2.2.1]]) ?_ ?_
  · have h := hj7
    refine CW.draw (by kernel_rfl) ?_
    have hS4 := hS3.drew
    refine go ?_
    refine AW.u (i := 7) rfl (by kernel_rfl) rfl rfl (Pur.build (vs := [(1, .int .i64 x2.rent)]) (cs := #[.int .i64 0, .int .i64 x2.rent, .int .i64 0]) rfl (by kernel_rfl)) ?_
    replace ⟨y9, hy9, h⟩ := obind h
    refine AW.all (rs := [8, 12]) (by kernel_rfl) (by simp) ⟨?_, ?_, trivial⟩
    · have q := W_i_AmtAdd (w0 := w6.drew) hy9
      refine ⟨_, rfl, ?_⟩
      refine LW.call pl88 rfl rfl ?_
      refine Ret.mono q ?_
      rintro _ w14 ⟨rfl, hs⟩
      have hS5 := hS4.add hs
      refine LW.nil ⟨rfl, (.c (St.cell (h := hS5) (i := 1) rfl) (.w (by kernel_rfl) Kept.n)), ?_⟩
      refine AW.u (i := 9) rfl (by kernel_rfl) rfl rfl (Pur.p rfl) ?_
      refine go ?_
      refine AW.one (i := 12) (by kernel_rfl) ?_
      refine ⟨_, rfl, ?_⟩
      refine LW.al hS5 fun g15 w16 hS6 => ?_
      refine LW.nil ⟨rfl, (.c (St.cell (h := hS6) (i := 2) rfl) (.c (St.cell (h := hS6) (i := 3) rfl) Kept.n)), ?_⟩
      refine AW.one (i := 13) (by kernel_rfl) ?_
      refine ⟨_, rfl, ?_⟩
      refine LW.st hS6 0 fun w17 hS7 => ?_
      refine LW.nil ⟨rfl, (.w (by kernel_rfl) (.w (by kernel_rfl) Kept.n)), ?_⟩
      refine go ?_
      cases oi h
      exact ⟨g15, ⟨rfl, rfl, rfl, rfl, rfl, trivial⟩, hS7.pick [1, 3, 4, 0] rfl rfl⟩
    refine ⟨_, rfl, ?_⟩
    refine LW.al hS4 fun g18 w19 hS8 => ?_
    refine LW.nil ⟨rfl, (.c (St.cell (h := hS8) (i := 2) rfl) (.c (St.cell (h := hS8) (i := 3) rfl) Kept.n)), ?_⟩
    have q := W_i_AmtAdd (w0 := w19) hy9
    refine AW.one (i := 8) (by kernel_rfl) ?_
    refine ⟨_, rfl, ?_⟩
    refine LW.call pl88 rfl rfl ?_
    refine Ret.mono q ?_
    rintro _ w20 ⟨rfl, hs⟩
    have hS9 := hS8.add hs
    refine LW.nil ⟨rfl, (.c (St.cell (h := hS9) (i := 2) rfl) (.w (by kernel_rfl) Kept.n)), ?_⟩
    refine go ?_
    refine AW.one (i := 13) (by kernel_rfl) ?_
    refine ⟨_, rfl, ?_⟩
    refine LW.st hS9 0 fun w21 hS10 => ?_
    refine LW.nil ⟨rfl, (.w (by kernel_rfl) (.w (by kernel_rfl) Kept.n)), ?_⟩
    refine go ?_
    cases oi h
    exact ⟨g18, ⟨rfl, rfl, rfl, rfl, rfl, trivial⟩, hS10.pick [1, 3, 4, 0] rfl rfl⟩
  rintro e w22 ⟨j7g9, hE, hS11⟩
  obtain ⟨e, rfl⟩ := hE.out
  have h := h8
  refine gs ?_
  obtain ⟨j23, hj23, h24⟩ := obind h
  refine CW.jn [0, 7, 9] [0, 1, 2, 3] [(39, .bool j23)] hS11 (h1 := ?_) (h2 := ?_)
  · have h := hj23
    refine go ?_
    rcases bcases (!y3.2) with hc25 | hc25
    · replace h := bcT h hc25
      refine go ?_
      cases oi h
      exact ⟨⟨rfl, rfl, rfl, rfl, trivial⟩, hS11.pick [0, 1, 2, 3] rfl rfl⟩
    replace h := bcF h hc25
    refine go ?_
    cases oi h
    exact ⟨⟨rfl, rfl, rfl, rfl, trivial⟩, hS11.pick [0, 1, 2, 3] rfl rfl⟩
  intro e w26 hS12
  have h := h24
  refine go ?_
  refine cd (fun hc27 => ?_) fun hc27 => ?_
  · replace h := bcT h hc27
    refine go ?_
    replace h := Option.some.inj h
    subst h
    exact And.intro trivial ⟨_, Res.one (resOne.t rfl), a0_2, c0_2, rfl, hS12.pick [1, 2] rfl rfl⟩
  replace h := bcF h hc27
  refine go ?_
  refine CW.draw (by kernel_rfl) ?_
  have hS13 := hS12.drew
  refine go ?_
  refine AW.one (i := 7) (by kernel_rfl) ?_
  refine ⟨_, rfl, ?_⟩
  refine LW.st hS13 1 fun w28 hS14 => ?_
  refine LW.nil ⟨rfl, (.c (St.cell (h := hS14) (i := 3) rfl) Kept.n), ?_⟩
  refine go ?_
  refine AW.one (i := 11) (by kernel_rfl) ?_
  refine ⟨_, rfl, ?_⟩
  refine LW.st hS14 1 fun w29 hS15 => ?_
  refine LW.nil ⟨rfl, (.w (by kernel_rfl) Kept.n), ?_⟩
  refine go ?_
  replace h := Option.some.inj h
  subst h
  exact And.intro trivial ⟨_, Res.one (resOne.t rfl), a4, c5, rfl, hS15.pick [1, 0] rfl rfl⟩

theorem W_i_GcShade {w0 : World} {N : Nat} {x0 : DHeap} {x1 : Int} {r : DHeap} (h : F_i_GcShade N x0 x1 = some r) {a0_0 : Option Addr} {n0_0 c0_0 : Nat} (hn0_0 : n0_0 = x0.arena.length) (hr0_0 : rdS (Bor w0 []) w0 a0_0 c0_0 x0.arena) {a0_4 : Option Addr} {n0_4 c0_4 : Nat} (hn0_4 : n0_4 = x0.gc.grey.length) (hr0_4 : rdS (Bor w0 []) w0 a0_4 c0_4 x0.gc.grey) :
    Ret Try.prog 127 #[.agg #[.slice a0_0 n0_0 c0_0, .int .i64 x0.gc.phase, .int .i64 x0.gc.pos, .int .i64 x0.gc.round, .slice a0_4 n0_4 c0_4], .int .i64 x1] w0 (fun v w => ∃ ar0_0 cr0_0, ∃ ar0_4 cr0_4, v = .agg #[.slice ar0_0 r.arena.length cr0_0, .int .i64 r.gc.phase, .int .i64 r.gc.pos, .int .i64 r.gc.round, .slice ar0_4 r.gc.grey.length cr0_4] ∧ St w0 [] w [sl ar0_0 cr0_0 r.arena, sl ar0_4 cr0_4 r.gc.grey]) := by
  subst hn0_0 hn0_4
  unfold F_i_GcShade at h
  refine Ret.fn Try.func127 fun e => ?_
  have hS1 := St.start w0
  refine go ?_
  refine LW.bo hS1 fun g1 w2 hS2 => ?_
  refine LW.al hS2 fun g3 w4 hS3 => ?_
  refine go ?_
  replace ⟨y5, hy5, h⟩ := obind h
  refine LW.cl (W_i_copyHeap hy5 rfl (hS3.rB hr0_0) rfl (hS3.rB hr0_4)) ?_
  rintro _ w10 ⟨a6, c7, a8, c9, rfl, hs⟩
  have hS4 := hS3.add hs
  refine LW.al hS4 fun g11 w12 hS5 => ?_
  refine LW.st hS5 0 fun w13 hS6 => ?_
  refine gs ?_
  obtain ⟨j14, hj14, h15⟩ := obind h
  refine CW.jn [1, 4, 5] [0, 1, 2, 3] [(13, .bool j14)] hS6 (h1 := ?_) (h2 := ?_)
  · have h := hj14
    refine go ?_
    replace ⟨y16, hy16, h⟩ := obind h
    refine LW.c0 (W_i_HeapOk hy16 rfl (hS6.rB hr0_0) rfl (hS6.rB hr0_4)) hS6 fun w17 hS7 => ?_
    refine go ?_
    rcases bcases y16 with hc18 | hc18
    · replace h := bcT h hc18
      refine go ?_
      replace ⟨y19, hy19, h⟩ := obind h
      refine go ?_
      refine LW.c0 (W_i_isSlot hy19) hS7 fun w20 hS8 => ?_
      refine go ?_
      cases oi h
      exact ⟨⟨rfl, rfl, rfl, rfl, trivial⟩, hS8.pick [0, 1, 2, 3] rfl rfl⟩
    replace h := bcF h hc18
    refine go ?_
    cases oi h
    exact ⟨⟨rfl, rfl, rfl, rfl, trivial⟩, hS7.pick [0, 1, 2, 3] rfl rfl⟩
  intro e w21 hS9
  have h := h15
  refine gs ?_
  obtain ⟨j22, hj22, h23⟩ := obind h
  refine CW.cut (fun e wb => ∃ (j22a0 : Option Addr), ∃ (j22c0 : Nat), ∃ (j22a2 : Option Addr), ∃ (j22c2 : Nat), En e [(4, .pointer (some ⟨g3, 0, none⟩)), (5, .pointer (some ⟨g11, 0, none⟩))] ∧ St w0 [] wb [bx g11 37 [.slice j22a0 j22.1.length j22c0, .int .i64 j22.2.1, .int .i64 j22.2.2.1, .int .i64 j22.2.2.2.1, .slice j22a2 j22.2.2.2.2.length j22c2], bx g3 37 [.slice none 0 0, .int .i64 0, .int .i64 0, .int .i64 0, .slice none 0 0], sl j22a0 j22c0 j22.1, sl j22a2 j22c2 j22.2.2.2.2]) ?_ ?_
  · have h := hj22
    refine cd (fun hc24 => ?_) fun hc24 => ?_
    · replace h := bcT h hc24
      refine go ?_
      replace ⟨y25, hy25, h⟩ := obind h
      obtain ⟨F26, hL27⟩ := hS9.lendI [0, 1, 2] [3]
      refine LW.cl (W_i_shade hy25 hL27.st) ?_
      rintro _ w32 ⟨a28, c29, a30, c31, rfl, hs⟩
      have hS10 := hL27.back _ _ hs
      refine go ?_
      cases oi h
      exact ⟨a28, c29, a30, c31, ⟨rfl, rfl, trivial⟩, hS10.pick [0, 3, 1, 2] rfl rfl⟩
    replace h := bcF h hc24
    refine go ?_
    cases oi h
    exact ⟨a6, c7, a8, c9, ⟨rfl, rfl, trivial⟩, hS9.pick [0, 3, 1, 2] rfl rfl⟩
  rintro e w33 ⟨j22a0, j22c0, j22a2, j22c2, hE, hS11⟩
  obtain ⟨e, rfl⟩ := hE.out
  have h := h23
  refine go ?_
  refine LW.st hS11 1 fun w34 hS12 => ?_
  refine go ?_
  cases h
  exact And.intro trivial ⟨_, Res.one (resOne.b hS12 1 rfl ag37 rfl rfl), j22a0, j22c0, j22a2, j22c2, rfl, hS12.pick [2, 3] rfl rfl⟩

theorem W_i_TreeSplit {w0 : World} {N : Nat} {x0 : List DRes} {x1 : Int} {x2 : DAmt} {r : (List DRes) × Int × Bool} (h : F_i_TreeSplit N x0 x1 x2 = some r) {a0_0 : Option Addr} {n0_0 c0_0 : Nat} (hn0_0 : n0_0 = x0.length) (hr0_0 : rdS (Bor w0 []) w0 a0_0 c0_0 x0) :
    Ret Try.prog 128 #[.slice a0_0 n0_0 c0_0, .int .i64 x1, .agg #[.int .i64 x2.pages, .int .i64 x2.rent, .int .i64 x2.cpu]] w0 (fun v w => ∃ ar0 cr0, v = .tuple #[.slice ar0 r.1.length cr0, .int .i64 r.2.1, .bool r.2.2] ∧ St w0 [] w [sl ar0 cr0 r.1]) := by
  subst hn0_0
  unfold F_i_TreeSplit at h
  refine Ret.fn Try.func128 fun e => ?_
  have hS1 := St.start w0
  refine go ?_
  refine LW.bo hS1 fun g1 w2 hS2 => ?_
  refine go ?_
  replace ⟨y3, hy3, h⟩ := obind h
  refine LW.cl (W_i_TreePay hy3 rfl (hS2.rB hr0_0)) ?_
  rintro _ w6 ⟨a4, c5, rfl, hs⟩
  have hS3 := hS2.add hs
  refine go ?_
  refine CW.fl [0, 1, 5, 9, 21] fun e => ?_
  refine cd (fun hc7 => ?_) fun hc7 => ?_
  · replace h := bcT h hc7
    refine go ?_
    cases h
    exact And.intro trivial ⟨_, Res.three (resOne.t rfl) (resOne.t rfl) (resOne.t rfl), a4, c5, rfl, hS3.pick [0] rfl rfl⟩
  replace h := bcF h hc7
  refine go ?_
  obtain ⟨o31, ho31, h32⟩ := obind h
  refine CW.mono (CW.lx [0, 1, 5, 9, 23, 24] [0, 1] [0] 0 (fun s8 => [(25, .int .i64 s8)]) (fun r x e wb => x = .ret ∧ ∃ u, u = r ∧ ∃ v, Res Try.prog Try.f128.results e wb v ∧ ∃ ar0 cr0, v = .tuple #[.slice ar0 u.1.length cr0, .int .i64 u.2.1, .bool u.2.2] ∧ St w0 [] wb [sl ar0 cr0 u.1]) hS3 ho31 (hb := ?_)) ?_
  · intro s8 e w9 o hS4 h
    refine go ?_
    refine cd (fun hc10 => ?_) fun hc10 => ?_
    · replace h := bcT h hc10
      refine go ?_
      replace ⟨y11, hy11, h⟩ := obind h
      obtain ⟨b14, o15, cs16, hae, hb19, hp12, hq13, hd17, hk18⟩ := hr0_0.idx hy11
      subst hae
      obtain rfl := hd17
      refine LW.u (Pur.ix Try.underlying32 sz111 rfl rfl hp12 hq13) rfl ?_
      refine LW.l (Ldr.oldN w0 ag111 rfl rfl (fun j u hu => hk18 j u hu)) (hS4.same _ hb19.1 hb19.2) rfl ?_
      refine LW.al hS4 fun g20 w21 hS5 => ?_
      refine go ?_
      refine LW.st hS5 0 fun w22 hS6 => ?_
      refine go ?_
      refine CW.fl [0, 1, 5, 9, 11, 23, 24, 25, 32] fun e => ?_
      refine cd (fun hc23 => ?_) fun hc23 => ?_
      · replace h := bcT h hc23
        refine go ?_
        refine LW.u (Pur.build (vs := [(0, .bool true), (1, .int .i64 x1), (2, .agg #[.int .i64 x2.pages, .int .i64 x2.rent, .int .i64 x2.cpu])]) (cs := #[.bool true, .int .i64 x1, .int .i64 x2.pages, .int .i64 x2.rent, .int .i64 x2.cpu]) rfl (by kernel_rfl)) rfl ?_
        replace ⟨y24, hy24, h⟩ := obind h
        obtain ⟨b27, o28, hae, hp25, hq26⟩ := hS6.ownIdx (α := DRes) (i := 1) rfl hy24
        subst hae
        refine LW.u (Pur.ix Try.underlying32 sz111 rfl rfl hp25 hq26) rfl ?_
        replace ⟨y29, hy29, h⟩ := obind h
        refine LW.stE (M := []) (L := [bx g20 111 [.bool y11.live, .int .i64 y11.parent, .int .i64 y11.bal.pages, .int .i64 y11.bal.rent, .int .i64 y11.bal.cpu], sl (some ⟨b27, o28, none⟩) c5 y3.1, bx g1 28 [.int .i64 x2.pages, .int .i64 x2.rent, .int .i64 x2.cpu]]) (z := y24) (z' := (DRes.mk true x1 x2)) (o := 0) hS6 (i := 1) rfl hy24 ag111 rfl (by show _ = o28 + (s8 : Int).toNat * 5 + 0; omega) rfl rfl rfl rfl (whole (fun w G hG => by cases (show G = [] from hG); exact ⟨rfl, rfl⟩)) ?_
        intro w30 hS7 hf
        rw [Option.some.inj hy29] at hS7
        refine go ?_
        replace h := Option.some.inj h
        subst h
        exact ⟨trivial, rfl, _, rfl, ⟨_, Res.three (resOne.t rfl) (resOne.t rfl) (resOne.t rfl), (some ⟨b27, o28, none⟩), c5, (show (.tuple #[.slice (some ⟨b27, o28, none⟩) y3.1.length c5, .int .i64 s8, .bool true] : Value) = .tuple #[.slice (some ⟨b27, o28, none⟩) y29.length c5, .int .i64 s8, .bool true] by rw [show y3.1.length = y29.length from (len_set (Option.some.inj hy29))]), hS7.pick [1] rfl rfl⟩⟩
      replace h := bcF h hc23
      refine go ?_
      cases oi h
      exact ⟨rfl, ⟨⟨rfl, rfl, rfl, rfl, rfl, rfl, rfl, trivial⟩, hS6.pick [1, 2] rfl rfl⟩⟩
    replace h := bcF h hc10
    refine go ?_
    cases oi h
    exact ⟨trivial, rfl, ⟨⟨rfl, trivial⟩, hS4.pick [0, 1] rfl rfl⟩⟩
  intro x e w33 hM
  rcases o31 with o31 | r38
  · obtain ⟨rfl, hM⟩ := hM
    obtain ⟨hE, hS8⟩ := hM
    obtain ⟨e, rfl⟩ := hE.out
    have h := h32
    refine go ?_
    replace ⟨y34, hy34, h⟩ := obind h
    refine LW.cl (W_i_copyTree hy34 rfl (hS8.rB hr0_0)) ?_
    rintro _ w37 ⟨a35, c36, rfl, hs⟩
    have hS9 := hS8.add hs
    refine go ?_
    cases h
    exact And.intro trivial ⟨_, Res.three (resOne.t rfl) (resOne.t rfl) (resOne.t rfl), a35, c36, rfl, hS9.pick [0] rfl rfl⟩
  obtain ⟨rfl, u, rfl, hM⟩ := hM
  cases h32
  exact And.intro trivial hM

end Go.Kx
