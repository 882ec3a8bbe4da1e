/- Each call returns what the plain function says. Printed by drive.py. -/
import Derived.Test.YtljikolgijlbeaaGreatFa
import Derived.Test.YtljikolgijlbeaaGreatPu
import Derived.Test.YtljikolgijlbeaaGreatWa0
import Derived.Test.YtljikolgijlbeaaGreatWa1
import Derived.Test.YtljikolgijlbeaaGreatWa2
import Derived.Test.YtljikolgijlbeaaGreatWa3
import Derived.Test.YtljikolgijlbeaaGreatWa4
import Derived.Test.YtljikolgijlbeaaGreatWa5
import Derived.Test.YtljikolgijlbeaaGreatWa7
namespace Go.Kx
open Go Go.RowKit Go.Proofs
set_option maxRecDepth 10000
set_option maxHeartbeats 8000000
set_option linter.unusedVariables false
set_option linter.unusedSimpArgs false
theorem W_l_eqPart {w0 : World} {N : Nat} {x0 : DPart} {x1 : DPart} {r : Bool} (h : F_l_eqPart N x0 x1 = some r) {a0_0 : Option Addr} {n0_0 c0_0 : Nat} (hn0_0 : n0_0 = x0.label.levels.length) (hr0_0 : rdS (Bor w0 []) w0 a0_0 c0_0 x0.label.levels) {a0_1 : Option Addr} {n0_1 c0_1 : Nat} (hn0_1 : n0_1 = x0.own.length) (hr0_1 : rdS (Bor w0 []) w0 a0_1 c0_1 x0.own) {a0_2 : Option Addr} {n0_2 c0_2 : Nat} (hn0_2 : n0_2 = x0.tree.length) (hr0_2 : rdS (Bor w0 []) w0 a0_2 c0_2 x0.tree) {a0_3 : Option Addr} {n0_3 c0_3 : Nat} (hn0_3 : n0_3 = x0.heap.arena.length) (hr0_3 : rdS (Bor w0 []) w0 a0_3 c0_3 x0.heap.arena) {a0_7 : Option Addr} {n0_7 c0_7 : Nat} (hn0_7 : n0_7 = x0.heap.gc.grey.length) (hr0_7 : rdS (Bor w0 []) w0 a0_7 c0_7 x0.heap.gc.grey) {a0_8 : Option Addr} {n0_8 c0_8 : Nat} (hn0_8 : n0_8 = x0.taps.length) (hr0_8 : rdS (Bor w0 []) w0 a0_8 c0_8 x0.taps) {a1_0 : Option Addr} {n1_0 c1_0 : Nat} (hn1_0 : n1_0 = x1.label.levels.length) (hr1_0 : rdS (Bor w0 []) w0 a1_0 c1_0 x1.label.levels) {a1_1 : Option Addr} {n1_1 c1_1 : Nat} (hn1_1 : n1_1 = x1.own.length) (hr1_1 : rdS (Bor w0 []) w0 a1_1 c1_1 x1.own) {a1_2 : Option Addr} {n1_2 c1_2 : Nat} (hn1_2 : n1_2 = x1.tree.length) (hr1_2 : rdS (Bor w0 []) w0 a1_2 c1_2 x1.tree) {a1_3 : Option Addr} {n1_3 c1_3 : Nat} (hn1_3 : n1_3 = x1.heap.arena.length) (hr1_3 : rdS (Bor w0 []) w0 a1_3 c1_3 x1.heap.arena) {a1_7 : Option Addr} {n1_7 c1_7 : Nat} (hn1_7 : n1_7 = x1.heap.gc.grey.length) (hr1_7 : rdS (Bor w0 []) w0 a1_7 c1_7 x1.heap.gc.grey) {a1_8 : Option Addr} {n1_8 c1_8 : Nat} (hn1_8 : n1_8 = x1.taps.length) (hr1_8 : rdS (Bor w0 []) w0 a1_8 c1_8 x1.taps) :
    Ret Tryz.prog 96 #[.agg #[.slice a0_0 n0_0 c0_0, .slice a0_1 n0_1 c0_1, .slice a0_2 n0_2 c0_2, .slice a0_3 n0_3 c0_3, .int .i64 x0.heap.gc.phase, .int .i64 x0.heap.gc.pos, .int .i64 x0.heap.gc.round, .slice a0_7 n0_7 c0_7, .slice a0_8 n0_8 c0_8, .int .i64 x0.next, .int .i64 x0.want, .int .i64 x0.spent.pages, .int .i64 x0.spent.rent, .int .i64 x0.spent.cpu, .int .i64 x0.press, .int .i64 x0.lost], .agg #[.slice a1_0 n1_0 c1_0, .slice a1_1 n1_1 c1_1, .slice a1_2 n1_2 c1_2, .slice a1_3 n1_3 c1_3, .int .i64 x1.heap.gc.phase, .int .i64 x1.heap.gc.pos, .int .i64 x1.heap.gc.round, .slice a1_7 n1_7 c1_7, .slice a1_8 n1_8 c1_8, .int .i64 x1.next, .int .i64 x1.want, .int .i64 x1.spent.pages, .int .i64 x1.spent.rent, .int .i64 x1.spent.cpu, .int .i64 x1.press, .int .i64 x1.lost]] w0 (fun v w => v = .bool r ∧ St w0 [] w []) := by
  subst hn0_0 hn0_1 hn0_2 hn0_3 hn0_7 hn0_8 hn1_0 hn1_1 hn1_2 hn1_3 hn1_7 hn1_8
  unfold F_l_eqPart at h
  refine Ret.fn Tryz.func96 fun e => ?_
  have hS1 := St.start w0
  refine go ?_
  refine LW.bo hS1 fun g1 w2 hS2 => ?_
  refine LW.bo hS2 fun g3 w4 hS3 => ?_
  refine go ?_
  replace ⟨y5, hy5, h⟩ := obind h
  refine LW.c0 (W_l_eqLabel hy5 rfl (hS3.rB hr0_0) rfl (hS3.rB hr1_0)) hS3 fun w6 hS4 => ?_
  refine go ?_
  refine cd (fun hc7 => ?_) fun hc7 => ?_
  · replace h := bcT h hc7
    refine go ?_
    cases h
    exact fi hS4
  replace h := bcF h hc7
  refine go ?_
  replace ⟨y8, hy8, h⟩ := obind h
  refine LW.c0 (W_l_eqIntS hy8 rfl (hS4.rB hr0_1) rfl (hS4.rB hr1_1)) hS4 fun w9 hS5 => ?_
  refine go ?_
  refine CW.fl [2, 3, 16] fun e => ?_
  refine cd (fun hc10 => ?_) fun hc10 => ?_
  · replace h := bcT h hc10
    refine go ?_
    cases h
    exact fi hS5
  replace h := bcF h hc10
  refine go ?_
  replace ⟨y11, hy11, h⟩ := obind h
  refine LW.c0 (W_l_eqResS hy11 rfl (hS5.rB hr0_2) rfl (hS5.rB hr1_2)) hS5 fun w12 hS6 => ?_
  refine go ?_
  refine cd (fun hc13 => ?_) fun hc13 => ?_
  · replace h := bcT h hc13
    refine go ?_
    cases h
    exact fi hS6
  replace h := bcF h hc13
  refine go ?_
  replace ⟨y14, hy14, h⟩ := obind h
  refine LW.c0 (W_l_eqHeap hy14 rfl (hS6.rB hr0_3) rfl (hS6.rB hr0_7) rfl (hS6.rB hr1_3) rfl (hS6.rB hr1_7)) hS6 fun w15 hS7 => ?_
  refine go ?_
  refine cd (fun hc16 => ?_) fun hc16 => ?_
  · replace h := bcT h hc16
    refine go ?_
    cases h
    exact fi hS7
  replace h := bcF h hc16
  refine go ?_
  replace ⟨y17, hy17, h⟩ := obind h
  refine LW.c0 (W_l_eqTapS hy17 rfl (hS7.rB hr0_8) rfl (hS7.rB hr1_8)) hS7 fun w18 hS8 => ?_
  refine go ?_
  refine CW.fl [2, 3, 34] fun e => ?_
  refine cd (fun hc19 => ?_) fun hc19 => ?_
  · replace h := bcT h hc19
    refine go ?_
    cases h
    exact fi hS8
  replace h := bcF h hc19
  refine go ?_
  refine cd (fun hc20 => ?_) fun hc20 => ?_
  · replace h := bcT h hc20
    refine go ?_
    cases h
    exact fi hS8
  replace h := bcF h hc20
  refine go ?_
  refine cd (fun hc21 => ?_) fun hc21 => ?_
  · replace h := bcT h hc21
    refine go ?_
    cases h
    exact fi hS8
  replace h := bcF h hc21
  refine go ?_
  replace ⟨y22, hy22, h⟩ := obind h
  refine LW.c0 (W_l_eqAmt hy22) hS8 fun w23 hS9 => ?_
  refine go ?_
  refine CW.fl [2, 3, 50] fun e => ?_
  refine cd (fun hc24 => ?_) fun hc24 => ?_
  · replace h := bcT h hc24
    refine go ?_
    cases h
    exact fi hS9
  replace h := bcF h hc24
  refine go ?_
  refine cd (fun hc25 => ?_) fun hc25 => ?_
  · replace h := bcT h hc25
    refine go ?_
    cases h
    exact fi hS9
  replace h := bcF h hc25
  refine go ?_
  refine cd (fun hc26 => ?_) fun hc26 => ?_
  · replace h := bcT h hc26
    refine go ?_
    cases h
    exact fi hS9
  replace h := bcF h hc26
  refine go ?_
  cases h
  exact fi hS9

theorem W_l_szWorld {w0 : World} {N : Nat} {x0 : DWorld} {x1 : Int} {r : Int} (h : F_l_szWorld N x0 x1 = some r) {a0_1 : Option Addr} {n0_1 c0_1 : Nat} (hn0_1 : n0_1 = x0.parts.length) (hr0_1 : rdS (Bor w0 []) w0 a0_1 c0_1 x0.parts) :
    Ret Tryz.prog 14 #[.agg #[.int .i64 x0.now, .slice a0_1 n0_1 c0_1], .int .i64 x1] w0 (fun v w => v = .int .i64 r ∧ St w0 [] w []) := by
  subst hn0_1
  unfold F_l_szWorld at h
  refine Ret.fn Tryz.func14 fun e => ?_
  have hS1 := St.start w0
  refine go ?_
  refine LW.bo hS1 fun g1 w2 hS2 => ?_
  refine go ?_
  replace ⟨y3, hy3, h⟩ := obind h
  refine LW.c0 (W_l_szPartS hy3 rfl (hS2.rB hr0_1)) hS2 fun w4 hS3 => ?_
  refine go ?_
  refine cd (fun hc5 => ?_) fun hc5 => ?_
  · replace h := bcT h hc5
    refine go ?_
    cases h
    exact fi hS3
  replace h := bcF h hc5
  refine go ?_
  cases h
  exact fi hS3

theorem W_l_toPartS {w0 : World} {N : Nat} {x0 : List DPart} {r : (List DPart)} (h : F_l_toPartS N x0 = some r) {a0_0 : Option Addr} {n0_0 c0_0 : Nat} (hn0_0 : n0_0 = x0.length) (hr0_0 : rdS (Bor w0 []) w0 a0_0 c0_0 x0) :
    Ret Tryz.prog 35 #[.slice a0_0 n0_0 c0_0] w0 (fun v w => ∃ ar0 cr0, v = .slice ar0 r.length cr0 ∧ St w0 [] w [sl ar0 cr0 r]) := by
  subst hn0_0
  unfold F_l_toPartS at h
  refine Ret.fn Tryz.func35 fun e => ?_
  have hS1 := St.start w0
  refine go ?_
  replace ⟨y1, hy1, h⟩ := obind h
  refine LW.mk sT25 rfl rfl hy1 hS1 rfl ?_
  intro a2 c3 w4 hS2 hf
  refine go ?_
  obtain ⟨o56, ho56, h57⟩ := obind h
  refine CW.mono (CW.iter (σ := (List DPart) × Int) (ρ := (List DPart) × Int) (fun s5 e wb => En e [(0, .slice a0_0 x0.length c0_0), (3, .slice a2 s5.1.length c3), (4, .int .i64 s5.2)] ∧ St w0 [] wb [sl a2 c3 s5.1]) (fun s5 x e wb => x = .exit 0 ∧ En e [(3, .slice a2 s5.1.length c3)] ∧ St w0 [] wb [sl a2 c3 s5.1]) ?_ N (y1, 0) _ _ _ ⟨⟨rfl, rfl, rfl, trivial⟩, hS2.pick [0] rfl rfl⟩ ho56) ?_
  · intro s5 e w6 o hM h
    obtain ⟨hE, hS3⟩ := hM
    obtain ⟨e, rfl⟩ := hE.out
    refine go ?_
    refine cd (fun hc7 => ?_) fun hc7 => ?_
    · replace h := bcT h hc7
      refine go ?_
      replace ⟨y8, hy8, h⟩ := obind h
      obtain ⟨b11, o12, cs13, hae, hb16, hp9, hq10, hd14, hk15⟩ := hr0_0.idx hy8
      subst hae
      obtain ⟨a17, c18, a20, c21, a23, c24, a26, c27, a29, c30, a32, c33, rfl, hr19, hr22, hr25, hr28, hr31, hr34⟩ := hd14
      refine LW.u (Pur.ix Tryz.underlying41 sz127 rfl rfl hp9 hq10) rfl ?_
      refine LW.l (Ldr.oldN w0 ag127 rfl rfl (fun j u hu => hk15 j u hu)) (hS3.same _ hb16.1 hb16.2) rfl ?_
      replace ⟨y35, hy35, h⟩ := obind h
      refine LW.cl (W_l_toPart hy35 rfl (hS3.rB hr19) rfl (hS3.rB hr22) rfl (hS3.rB hr25) rfl (hS3.rB hr28) rfl (hS3.rB hr31) rfl (hS3.rB hr34)) ?_
      rintro _ w48 ⟨a36, c37, a38, c39, a40, c41, a42, c43, a44, c45, a46, c47, rfl, hs⟩
      have hS4 := hS3.add hs
      replace ⟨y49, hy49, h⟩ := obind h
      obtain ⟨b52, o53, hae, hp50, hq51⟩ := hS4.ownIdx (α := DPart) (i := 6) rfl hy49
      subst hae
      refine LW.u (Pur.ix Tryz.underlying25 sz67 rfl rfl hp50 hq51) rfl ?_
      have hS5 := hS4.pick (M := [sl a36 c37 y35.label.levels, sl a38 c39 y35.own, sl a40 c41 y35.tree, sl a42 c43 y35.heap.arena, sl a44 c45 y35.heap.gc.grey, sl a46 c47 y35.taps] ++ [sl (some ⟨b52, o53, none⟩) c3 s5.1]) [0, 1, 2, 3, 4, 5, 6] rfl rfl
      replace ⟨y54, hy54, h⟩ := obind h
      refine LW.stE (M := [sl a36 c37 y35.label.levels, sl a38 c39 y35.own, sl a40 c41 y35.tree, sl a42 c43 y35.heap.arena, sl a44 c45 y35.heap.gc.grey, sl a46 c47 y35.taps]) (L := [sl (some ⟨b52, o53, none⟩) c3 s5.1]) (z := y49) (z' := y35) (o := 0) hS5 (i := 0) rfl hy49 ag67 rfl (by show _ = o53 + (s5.2 : Int).toNat * 16 + 0; omega) rfl rfl rfl rfl (whole (fun w G hG => ⟨a36, c37, a38, c39, a40, c41, a42, c43, a44, c45, a46, c47, rfl, hG⟩)) ?_
      intro w55 hS6 hf
      rw [Option.some.inj hy54] at hS6
      refine go ?_
      replace h := Option.some.inj h
      subst h
      exact ⟨rfl, ⟨⟨rfl, (show (.slice (some ⟨b52, o53, none⟩) s5.1.length c3 : Value) = .slice (some ⟨b52, o53, none⟩) y54.length c3 by rw [show s5.1.length = y54.length from (len_set (Option.some.inj hy54))]), rfl, trivial⟩, hS6.pick [0] rfl rfl⟩⟩
    replace h := bcF h hc7
    refine go ?_
    cases oi h
    exact ⟨trivial, rfl, ⟨⟨rfl, trivial⟩, hS3.pick [0] rfl rfl⟩⟩
  intro x e w58 hM
  obtain ⟨rfl, hM⟩ := hM
  obtain ⟨hE, hS7⟩ := hM
  obtain ⟨e, rfl⟩ := hE.out
  have h := h57
  refine go ?_
  cases h
  exact And.intro trivial ⟨_, Res.one (resOne.t rfl), a2, c3, rfl, hS7.pick [0] rfl rfl⟩

theorem W_s_l15Sum {w0 : World} {N : Nat} {x0 : List DPart} {r : DAmt} (h : F_s_l15Sum N x0 = some r) {a0_0 : Option Addr} {n0_0 c0_0 : Nat} (hn0_0 : n0_0 = x0.length) (hr0_0 : rdS (Bor w0 []) w0 a0_0 c0_0 x0) :
    Ret Tryz.prog 72 #[.slice a0_0 n0_0 c0_0] w0 (fun v w => v = .agg #[.int .i64 r.pages, .int .i64 r.rent, .int .i64 r.cpu] ∧ St w0 [] w []) := by
  subst hn0_0
  unfold F_s_l15Sum at h
  refine Ret.fn Tryz.func72 fun e => ?_
  have hS1 := St.start w0
  refine go ?_
  refine LW.al hS1 fun g1 w2 hS2 => ?_
  refine go ?_
  refine LW.u (Pur.build (vs := []) (cs := #[.int .i64 0, .int .i64 0, .int .i64 0]) rfl (by kernel_rfl)) rfl ?_
  refine LW.al hS2 fun g3 w4 hS3 => ?_
  refine LW.st hS3 0 fun w5 hS4 => ?_
  refine go ?_
  obtain ⟨o42, ho42, h43⟩ := obind h
  refine CW.mono (CW.iter (σ := Int × Int × Int × Int) (ρ := Int × Int × Int × Int) (fun s6 e wb => En e [(0, .slice a0_0 x0.length c0_0), (2, .pointer (some ⟨g1, 0, none⟩)), (3, .pointer (some ⟨g3, 0, none⟩)), (4, .int .i64 s6.1)] ∧ St w0 [] wb [bx g3 56 [.int .i64 s6.2.1, .int .i64 s6.2.2.1, .int .i64 s6.2.2.2], bx g1 56 [.int .i64 0, .int .i64 0, .int .i64 0]]) (fun s6 x e wb => x = .exit 0 ∧ En e [(2, .pointer (some ⟨g1, 0, none⟩)), (3, .pointer (some ⟨g3, 0, none⟩))] ∧ St w0 [] wb [bx g3 56 [.int .i64 s6.2.1, .int .i64 s6.2.2.1, .int .i64 s6.2.2.2], bx g1 56 [.int .i64 0, .int .i64 0, .int .i64 0]]) ?_ N (0, 0, 0, 0) _ _ _ ⟨⟨rfl, rfl, rfl, rfl, trivial⟩, hS4.pick [0, 1] rfl rfl⟩ ho42) ?_
  · intro s6 e w7 o hM h
    obtain ⟨hE, hS5⟩ := hM
    obtain ⟨e, rfl⟩ := hE.out
    refine go ?_
    refine cd (fun hc8 => ?_) fun hc8 => ?_
    · replace h := bcT h hc8
      refine go ?_
      replace ⟨y9, hy9, h⟩ := obind h
      obtain ⟨b12, o13, cs14, hae, hb17, hp10, hq11, hd15, hk16⟩ := hr0_0.idx hy9
      subst hae
      obtain ⟨a18, c19, a21, c22, a24, c25, a27, c28, a30, c31, a33, c34, rfl, hr20, hr23, hr26, hr29, hr32, hr35⟩ := hd15
      refine LW.u (Pur.ix Tryz.underlying25 sz67 rfl rfl hp10 hq11) rfl ?_
      refine LW.l (Ldr.oldN w0 ag67 rfl rfl (fun j u hu => hk16 j u hu)) (hS5.same _ hb17.1 hb17.2) rfl ?_
      replace ⟨y36, hy36, h⟩ := obind h
      refine LW.c0 (W_s_PartSum hy36 rfl (hS5.rB hr20) rfl (hS5.rB hr23) rfl (hS5.rB hr26) rfl (hS5.rB hr29) rfl (hS5.rB hr32) rfl (hS5.rB hr35)) hS5 fun w37 hS6 => ?_
      refine LW.al hS6 fun g38 w39 hS7 => ?_
      refine LW.st hS7 0 fun w40 hS8 => ?_
      refine go ?_
      refine LW.fl [0, 2, 3, 4, 22, 27, 32] fun e => ?_
      refine LW.u (Pur.build (vs := [(0, .int .i64 (IntKind.i64.wrap (s6.2.1 + y36.pages))), (1, .int .i64 (IntKind.i64.wrap (s6.2.2.1 + y36.rent))), (2, .int .i64 (IntKind.i64.wrap (s6.2.2.2 + y36.cpu)))]) (cs := #[.int .i64 (IntKind.i64.wrap (s6.2.1 + y36.pages)), .int .i64 (IntKind.i64.wrap (s6.2.2.1 + y36.rent)), .int .i64 (IntKind.i64.wrap (s6.2.2.2 + y36.cpu))]) rfl (by kernel_rfl)) rfl ?_
      refine LW.st hS8 1 fun w41 hS9 => ?_
      refine go ?_
      cases oi h
      exact ⟨rfl, ⟨⟨rfl, rfl, rfl, rfl, trivial⟩, hS9.pick [1, 2] rfl rfl⟩⟩
    replace h := bcF h hc8
    refine go ?_
    cases oi h
    exact ⟨trivial, rfl, ⟨⟨rfl, rfl, trivial⟩, hS5.pick [0, 1] rfl rfl⟩⟩
  intro x e w44 hM
  obtain ⟨rfl, hM⟩ := hM
  obtain ⟨hE, hS10⟩ := hM
  obtain ⟨e, rfl⟩ := hE.out
  have h := h43
  refine go ?_
  refine LW.st hS10 1 fun w45 hS11 => ?_
  refine go ?_
  cases h
  exact And.intro trivial ⟨_, Res.one (resOne.b hS11 1 rfl ag56 rfl rfl), rfl, hS11.pick [] rfl rfl⟩

theorem W_s_TapMove {w0 : World} {N : Nat} {x0 : List DTree} {x1 : Int} {x2 : DTap} {r : (List DTree) × Int} (h : F_s_TapMove N x0 x1 x2 = some r) {a0_0 : Option Addr} {n0_0 c0_0 : Nat} (hn0_0 : n0_0 = x0.length) (hr0_0 : rdS (Bor w0 []) w0 a0_0 c0_0 x0) :
    Ret Tryz.prog 33 #[.slice a0_0 n0_0 c0_0, .int .i64 x1, .agg #[.int .i64 x2.res, .int .i64 x2.toPart, .int .i64 x2.toRes, .int .i64 x2.which, .int .i64 x2.kind, .int .i64 x2.rate]] w0 (fun v w => ∃ ar0 cr0, v = .tuple #[.slice ar0 r.1.length cr0, .int .i64 r.2] ∧ St w0 [] w [sl ar0 cr0 r.1]) := by
  subst hn0_0
  unfold F_s_TapMove at h
  refine Ret.fn Tryz.func33 fun e => ?_
  have hS1 := St.start w0
  refine go ?_
  refine LW.bo hS1 fun g1 w2 hS2 => ?_
  refine go ?_
  replace ⟨y3, hy3, h⟩ := obind h
  refine LW.cl (W_s_l7Copy hy3 rfl (hS2.rB hr0_0)) ?_
  rintro _ w6 ⟨a4, c5, rfl, hs⟩
  have hS3 := hS2.add hs
  refine gs ?_
  obtain ⟨j7, hj7, h8⟩ := obind h
  refine CW.jn [0, 1, 5, 8] [0, 1] [(50, .bool j7)] hS3 (h1 := ?_) (h2 := ?_)
  · have h := hj7
    refine CW.draw (by kernel_rfl) ?_
    have hS4 := hS3.drew
    refine go ?_
    replace ⟨y9, hy9, h⟩ := obind h
    have q := W_s_l7Ok (w0 := w6.drew) hy9 rfl (hS4.rB hr0_0)
    refine AW.one (i := 1) (by kernel_rfl) ?_
    refine ⟨_, rfl, ?_⟩
    refine LW.call pl74 rfl rfl ?_
    refine Ret.mono q ?_
    rintro _ w10 ⟨rfl, hs⟩
    have hS5 := hS4.add hs
    refine LW.nil ⟨rfl, Kept.n, ?_⟩
    refine go ?_
    rcases bcases (!y9) with hc11 | hc11
    · replace h := bcT h hc11
      refine go ?_
      cases oi h
      exact ⟨⟨rfl, rfl, rfl, rfl, rfl, trivial⟩, hS5.pick [0, 1] rfl rfl⟩
    replace h := bcF h hc11
    refine go ?_
    replace ⟨y12, hy12, h⟩ := obind h
    have q := W_s_TapOk (w0 := w10) hy12
    refine AW.one (i := 5) (by kernel_rfl) ?_
    refine ⟨_, rfl, ?_⟩
    refine (LW.gY (want_of rfl rfl hc11) ?_)
    refine LW.call pl75 rfl rfl ?_
    refine Ret.mono q ?_
    rintro _ w13 ⟨rfl, hs⟩
    have hS6 := hS5.add hs
    refine LW.nil ⟨rfl, (.w (by kernel_rfl) Kept.n), ?_⟩
    refine go ?_
    rcases bcases (!y12) with hc14 | hc14
    · replace h := bcT h hc14
      refine go ?_
      cases oi h
      exact ⟨⟨rfl, rfl, rfl, rfl, rfl, trivial⟩, hS6.pick [0, 1] rfl rfl⟩
    replace h := bcF h hc14
    refine go ?_
    replace ⟨y15, hy15, h⟩ := obind h
    have q := W_s_l1In (w0 := w13) hy15
    refine AW.one (i := 13) (by kernel_rfl) ?_
    refine ⟨_, rfl, ?_⟩
    refine (LW.gY (want_of rfl rfl hc14) ?_)
    refine LW.call pl27 rfl rfl ?_
    refine Ret.mono q ?_
    rintro _ w16 ⟨rfl, hs⟩
    have hS7 := hS6.add hs
    refine LW.nil ⟨rfl, (.c (St.cell (h := hS7) (i := 1) rfl) Kept.n), ?_⟩
    refine go ?_
    rcases bcases (!y15) with hc17 | hc17
    · replace h := bcT h hc17
      refine go ?_
      cases oi h
      exact ⟨⟨rfl, rfl, rfl, rfl, rfl, trivial⟩, hS7.pick [0, 1] rfl rfl⟩
    replace h := bcF h hc17
    refine go ?_
    rcases bcases (decide (x2.toPart ≥ (x0.length : Int))) with hc18 | hc18
    · replace h := bcT h hc18
      refine go ?_
      cases oi h
      exact ⟨⟨rfl, rfl, rfl, rfl, rfl, trivial⟩, hS7.pick [0, 1] rfl rfl⟩
    replace h := bcF h hc18
    refine go ?_
    replace ⟨y19, hy19, h⟩ := obind h
    obtain ⟨b22, o23, cs24, hae, hb27, hp20, hq21, hd25, hk26⟩ := hr0_0.idx hy19
    subst hae
    obtain ⟨a28, c29, rfl, hr30⟩ := hd25
    refine AW.u (i := 26) rfl (by kernel_rfl) (want_of rfl rfl hc18) rfl (Pur.ix Tryz.underlying76 sz78 rfl rfl hp20 hq21) ?_
    refine go ?_
    refine AW.take (i := 28) rfl (by kernel_rfl) (want_of rfl rfl hc18) rfl (Ldr.old w0 ag59 rfl (hk26 0 _ rfl)) (hS7.same _ hb27.1 hb27.2) ?_
    refine go ?_
    replace ⟨y31, hy31, h⟩ := obind h
    have q := W_s_l6Live (w0 := w16) hy31 rfl (hS7.rB hr30)
    refine AW.one (i := 31) (by kernel_rfl) ?_
    refine ⟨_, rfl, ?_⟩
    refine (LW.gY (want_of rfl rfl hc18) ?_)
    refine LW.call pl76 rfl rfl ?_
    refine Ret.mono q ?_
    rintro _ w32 ⟨rfl, hs⟩
    have hS8 := hS7.add hs
    refine LW.nil ⟨rfl, (.w (by kernel_rfl) (.w (by kernel_rfl) (.c (St.cell (h := hS8) (i := 1) rfl) (.c (St.cell (h := hS8) (i := 1) rfl) Kept.n)))), ?_⟩
    refine go ?_
    cases oi h
    exact ⟨⟨rfl, rfl, rfl, rfl, rfl, trivial⟩, hS8.pick [0, 1] rfl rfl⟩
  intro e w33 hS9
  have h := h8
  refine go ?_
  refine cd (fun hc34 => ?_) fun hc34 => ?_
  · replace h := bcT h hc34
    refine go ?_
    cases h
    exact And.intro trivial ⟨_, Res.two (resOne.t rfl) (resOne.t rfl), a4, c5, rfl, hS9.pick [0] rfl rfl⟩
  replace h := bcF h hc34
  refine go ?_
  refine CW.draw (by kernel_rfl) ?_
  have hS10 := hS9.drew
  refine go ?_
  replace ⟨y35, hy35, h⟩ := obind h
  obtain ⟨b38, o39, cs40, hae, hb43, hp36, hq37, hd41, hk42⟩ := hr0_0.idx hy35
  subst hae
  obtain ⟨a44, c45, rfl, hr46⟩ := hd41
  refine AW.u (i := 3) rfl (by kernel_rfl) rfl rfl (Pur.ix Tryz.underlying76 sz78 rfl rfl hp36 hq37) ?_
  refine go ?_
  refine AW.take (i := 5) rfl (by kernel_rfl) rfl rfl (Ldr.old w0 ag59 rfl (hk42 0 _ rfl)) (hS10.same _ hb43.1 hb43.2) ?_
  refine go ?_
  replace ⟨y47, hy47, h⟩ := obind h
  obtain ⟨b50, o51, cs52, hae, hb55, hp48, hq49, hd53, hk54⟩ := hr46.idx hy47
  subst hae
  obtain rfl := hd53
  refine AW.u (i := 8) rfl (by kernel_rfl) rfl rfl (Pur.ix Tryz.underlying59 sz138 rfl rfl hp48 hq49) ?_
  refine go ?_
  refine AW.take (i := 10) rfl (by kernel_rfl) rfl rfl (Ldr.oldN w0 ag56 rfl rfl (fun j u hu => oldsub (m := 3) hk54 2 hu)) (hS10.same _ hb55.1 hb55.2) ?_
  replace ⟨y56, hy56, h⟩ := obind h
  have q := W_s_TapFlow (w0 := w33.drew) hy56
  refine AW.one (i := 11) (by kernel_rfl) ?_
  refine ⟨_, rfl, ?_⟩
  refine LW.call pl77 rfl rfl ?_
  refine Ret.mono q ?_
  rintro _ w57 ⟨rfl, hs⟩
  have hS11 := hS10.add hs
  refine LW.nil ⟨rfl, (.w (by kernel_rfl) (.c (St.cell (h := hS11) (i := 1) rfl) (.c (hS11.same _ hb43.1 hb43.2) (.w (by kernel_rfl) Kept.n)))), ?_⟩
  refine go ?_
  replace ⟨y58, hy58, h⟩ := obind h
  refine LW.c0 (W_s_AmtOne hy58) hS11 fun w59 hS12 => ?_
  refine LW.al hS12 fun g60 w61 hS13 => ?_
  refine LW.st hS13 0 fun w62 hS14 => ?_
  refine go ?_
  refine CW.draw (by kernel_rfl) ?_
  have hS15 := hS14.drew
  refine go ?_
  refine AW.u (i := 2) rfl (by kernel_rfl) rfl rfl (Pur.ix Tryz.underlying76 sz78 rfl rfl hp36 hq37) ?_
  refine go ?_
  refine AW.take (i := 4) rfl (by kernel_rfl) rfl rfl (Ldr.old w0 ag59 rfl (hk42 0 _ rfl)) (hS15.same _ hb43.1 hb43.2) ?_
  refine go ?_
  replace ⟨y63, hy63, h⟩ := obind h
  have q := W_s_TreePay (w0 := w62.drew) hy63 rfl (hS15.rB hr46)
  refine AW.one (i := 8) (by kernel_rfl) ?_
  refine ⟨_, rfl, ?_⟩
  refine LW.call pl79 rfl rfl ?_
  refine Ret.mono q ?_
  rintro _ w66 ⟨a64, c65, rfl, hs⟩
  have hS16 := hS15.add hs
  refine LW.nil ⟨rfl, (.w (by kernel_rfl) (.w (by kernel_rfl) (.w (by kernel_rfl) Kept.n))), ?_⟩
  refine go ?_
  replace ⟨y67, hy67, h⟩ := obind h
  obtain ⟨b70, o71, hae, hp68, hq69⟩ := hS16.ownIdx (α := DTree) (i := 2) rfl hy67
  subst hae
  refine LW.u (Pur.ix Tryz.underlying76 sz78 rfl rfl hp68 hq69) rfl ?_
  refine go ?_
  have hS17 := hS16.pick (M := [sl a64 c65 y63.1] ++ [bx g60 56 [.int .i64 y58.pages, .int .i64 y58.rent, .int .i64 y58.cpu], sl (some ⟨b70, o71, none⟩) c5 y3, bx g1 82 [.int .i64 x2.res, .int .i64 x2.toPart, .int .i64 x2.toRes, .int .i64 x2.which, .int .i64 x2.kind, .int .i64 x2.rate]]) [0, 1, 2, 3] rfl rfl
  replace ⟨y72, hy72, h⟩ := obind h
  refine LW.stE (M := [sl a64 c65 y63.1]) (L := [bx g60 56 [.int .i64 y58.pages, .int .i64 y58.rent, .int .i64 y58.cpu], sl (some ⟨b70, o71, none⟩) c5 y3, bx g1 82 [.int .i64 x2.res, .int .i64 x2.toPart, .int .i64 x2.toRes, .int .i64 x2.which, .int .i64 x2.kind, .int .i64 x2.rate]]) (z := y67) (z' := (DTree.mk y63.1)) (o := 0) hS17 (i := 1) rfl hy67 ag59 rfl (by show _ = o71 + (x1 : Int).toNat * 1 + 0; omega) rfl rfl rfl rfl (whole (fun w G hG => ⟨a64, c65, rfl, hG⟩)) ?_
  intro w73 hS18 hf
  rw [Option.some.inj hy72] at hS18
  refine go ?_
  refine CW.draw (by kernel_rfl) ?_
  have hS19 := hS18.drew
  refine go ?_
  replace ⟨y74, hy74, h⟩ := obind h
  obtain ⟨b77, o78, hae, hp75, hq76⟩ := hS19.ownIdx (α := DTree) (i := 1) rfl hy74
  cases hae
  refine AW.u (i := 3) rfl (by kernel_rfl) rfl rfl (Pur.ix Tryz.underlying76 sz78 rfl rfl hp75 (by rw [show y3.length = y72.length from (len_set (Option.some.inj hy72))]; exact hq76)) ?_
  refine go ?_
  obtain ⟨F79, ho80, hS20⟩ := hS19.freeze (α := DTree) 1 rfl
  obtain ⟨b81, o82, cs83, hae, hb86, _, _, hd84, hk85⟩ := ho80.rdF.idx hy74
  cases hae
  obtain ⟨a87, c88, rfl, hr89⟩ := hd84
  refine AW.take (i := 5) rfl (by kernel_rfl) rfl rfl (Ldr.old w73.drew ag59 rfl (hk85 0 _ rfl)) (hS20.zC 1 rfl hb86) ?_
  refine go ?_
  replace ⟨y90, hy90, h⟩ := obind h
  have q := W_s_TreeBack (w0 := w73.drew) hy90 rfl (hS20.rZ 1 rfl hr89)
  refine AW.one (i := 9) (by kernel_rfl) ?_
  refine ⟨_, rfl, ?_⟩
  refine LW.call pl80 rfl rfl ?_
  refine Ret.mono q ?_
  rintro _ w93 ⟨a91, c92, rfl, hs⟩
  have hS21 := hS20.add hs
  refine LW.nil ⟨rfl, (.w (by kernel_rfl) (.w (by kernel_rfl) (.w (by kernel_rfl) (.c (St.cell (h := hS21) (i := 3) rfl) Kept.n)))), ?_⟩
  refine go ?_
  refine CW.fl [0, 5, 8, 9, 13, 99] fun e => ?_
  refine cd (fun hc94 => ?_) fun hc94 => ?_
  · replace h := bcT h hc94
    refine go ?_
    replace ⟨y95, hy95, h⟩ := obind h
    refine LW.cl (W_s_l7Copy hy95 rfl (hS21.rB hr0_0)) ?_
    rintro _ w98 ⟨a96, c97, rfl, hs⟩
    have hS22 := hS21.add hs
    refine go ?_
    cases h
    exact And.intro trivial ⟨_, Res.two (resOne.t rfl) (resOne.t rfl), a96, c97, rfl, hS22.pick [0] rfl rfl⟩
  replace h := bcF h hc94
  refine go ?_
  refine LW.u (Pur.ix Tryz.underlying76 sz78 rfl rfl hp75 (by rw [show y3.length = y72.length from (len_set (Option.some.inj hy72))]; exact hq76)) rfl ?_
  refine go ?_
  have hS23 := hS21.thaw (α := DTree) 2 rfl ho80
  have hS24 := hS23.pick (M := [sl a91 c92 y90.1] ++ [bx g60 56 [.int .i64 y58.pages, .int .i64 y58.rent, .int .i64 y58.cpu], sl (some ⟨b70, o71, none⟩) c5 y72, bx g1 82 [.int .i64 x2.res, .int .i64 x2.toPart, .int .i64 x2.toRes, .int .i64 x2.which, .int .i64 x2.kind, .int .i64 x2.rate]]) [0, 1, 2, 3] rfl rfl
  replace ⟨y99, hy99, h⟩ := obind h
  refine LW.stE (M := [sl a91 c92 y90.1]) (L := [bx g60 56 [.int .i64 y58.pages, .int .i64 y58.rent, .int .i64 y58.cpu], sl (some ⟨b70, o71, none⟩) c5 y72, bx g1 82 [.int .i64 x2.res, .int .i64 x2.toPart, .int .i64 x2.toRes, .int .i64 x2.which, .int .i64 x2.kind, .int .i64 x2.rate]]) (z := y74) (z' := (DTree.mk y90.1)) (o := 0) hS24 (i := 1) rfl hy74 ag59 rfl (by show _ = o71 + (x2.toPart : Int).toNat * 1 + 0; omega) rfl rfl rfl rfl (whole (fun w G hG => ⟨a91, c92, rfl, hG⟩)) ?_
  intro w100 hS25 hf
  rw [Option.some.inj hy99] at hS25
  refine go ?_
  replace h := Option.some.inj h
  subst h
  exact And.intro trivial ⟨_, Res.two (resOne.t rfl) (resOne.t rfl), (some ⟨b70, o71, none⟩), c5, (show (.tuple #[.slice (some ⟨b70, o71, none⟩) y3.length c5, .int .i64 y56] : Value) = .tuple #[.slice (some ⟨b70, o71, none⟩) y99.length c5, .int .i64 y56] by rw [show y3.length = y99.length from ((len_set (Option.some.inj hy72)).trans (len_set (Option.some.inj hy99)))]), hS25.pick [1] rfl rfl⟩

theorem W_l_eqPartS {w0 : World} {N : Nat} {x0 : List DPart} {x1 : List DPart} {r : Bool} (h : F_l_eqPartS N x0 x1 = some r) {a0_0 : Option Addr} {n0_0 c0_0 : Nat} (hn0_0 : n0_0 = x0.length) (hr0_0 : rdS (Bor w0 []) w0 a0_0 c0_0 x0) {a1_0 : Option Addr} {n1_0 c1_0 : Nat} (hn1_0 : n1_0 = x1.length) (hr1_0 : rdS (Bor w0 []) w0 a1_0 c1_0 x1) :
    Ret Tryz.prog 40 #[.slice a0_0 n0_0 c0_0, .slice a1_0 n1_0 c1_0] w0 (fun v w => v = .bool r ∧ St w0 [] w []) := by
  subst hn0_0 hn1_0
  unfold F_l_eqPartS at h
  refine Ret.fn Tryz.func40 fun e => ?_
  have hS1 := St.start w0
  refine go ?_
  refine cd (fun hc1 => ?_) fun hc1 => ?_
  · replace h := bcT h hc1
    refine go ?_
    cases h
    exact fi hS1
  replace h := bcF h hc1
  refine go ?_
  obtain ⟨o62, ho62, h63⟩ := obind h
  refine CW.mono (CW.lx [0, 1] [] [] 0 (fun s2 => [(5, .int .i64 s2)]) (RT Tryz.prog Tryz.f40.results (fun u => .bool u) w0 []) hS1 ho62 (hb := ?_)) ?_
  · intro s2 e w3 o hS2 h
    refine go ?_
    refine cd (fun hc4 => ?_) fun hc4 => ?_
    · replace h := bcT h hc4
      refine go ?_
      refine CW.draw (by kernel_rfl) ?_
      have hS3 := hS2.drew
      refine go ?_
      replace ⟨y5, hy5, h⟩ := obind h
      obtain ⟨b8, o9, cs10, hae, hb13, hp6, hq7, hd11, hk12⟩ := hr0_0.idx hy5
      subst hae
      obtain ⟨a14, c15, a17, c18, a20, c21, a23, c24, a26, c27, a29, c30, rfl, hr16, hr19, hr22, hr25, hr28, hr31⟩ := hd11
      refine AW.u (i := 2) rfl (by kernel_rfl) rfl rfl (Pur.ix Tryz.underlying25 sz67 rfl rfl hp6 hq7) ?_
      refine AW.take (i := 3) rfl (by kernel_rfl) rfl rfl (Ldr.oldN w0 ag67 rfl rfl (fun j u hu => hk12 j u hu)) (hS3.same _ hb13.1 hb13.2) ?_
      refine go ?_
      replace ⟨y32, hy32, h⟩ := obind h
      obtain ⟨b35, o36, cs37, hae, hb40, hp33, hq34, hd38, hk39⟩ := hr1_0.idx hy32
      subst hae
      obtain ⟨a41, c42, a44, c45, a47, c48, a50, c51, a53, c54, a56, c57, rfl, hr43, hr46, hr49, hr52, hr55, hr58⟩ := hd38
      refine AW.u (i := 6) rfl (by kernel_rfl) rfl rfl (Pur.ix Tryz.underlying25 sz67 rfl rfl hp33 hq34) ?_
      refine AW.take (i := 7) rfl (by kernel_rfl) rfl rfl (Ldr.oldN w0 ag67 rfl rfl (fun j u hu => hk39 j u hu)) (hS3.same _ hb40.1 hb40.2) ?_
      replace ⟨y59, hy59, h⟩ := obind h
      have q := W_l_eqPart (w0 := w3.drew) hy59 rfl (hS3.rB hr16) rfl (hS3.rB hr19) rfl (hS3.rB hr22) rfl (hS3.rB hr25) rfl (hS3.rB hr28) rfl (hS3.rB hr31) rfl (hS3.rB hr43) rfl (hS3.rB hr46) rfl (hS3.rB hr49) rfl (hS3.rB hr52) rfl (hS3.rB hr55) rfl (hS3.rB hr58)
      refine AW.one (i := 8) (by kernel_rfl) ?_
      refine ⟨_, rfl, ?_⟩
      refine LW.call pl96 rfl rfl ?_
      refine Ret.mono q ?_
      rintro _ w60 ⟨rfl, hs⟩
      have hS4 := hS3.add hs
      refine LW.nil ⟨rfl, (.w (by kernel_rfl) (.w (by kernel_rfl) Kept.n)), ?_⟩
      refine go ?_
      refine cd (fun hc61 => ?_) fun hc61 => ?_
      · replace h := bcT h hc61
        refine go ?_
        cases oi h
        exact ⟨trivial, rfl, _, rfl, ⟨_, Res.one (resOne.t rfl), rfl, hS4.pick [] rfl rfl⟩⟩
      replace h := bcF h hc61
      refine go ?_
      cases oi h
      exact ⟨rfl, ⟨⟨rfl, rfl, rfl, trivial⟩, hS4.pick [] rfl rfl⟩⟩
    replace h := bcF h hc4
    refine go ?_
    cases oi h
    exact ⟨trivial, rfl, ⟨trivial, hS2.pick [] rfl rfl⟩⟩
  intro x e w64 hM
  rcases o62 with o62 | r65
  · obtain ⟨rfl, hM⟩ := hM
    obtain ⟨hE, hS5⟩ := hM
    obtain ⟨e, rfl⟩ := hE.out; rw [show e = upds e [] from rfl]
    have h := h63
    refine go ?_
    cases h
    exact fi hS5
  obtain ⟨rfl, u, rfl, hM⟩ := hM
  cases h63
  exact And.intro trivial hM

theorem W_l_toWorld {w0 : World} {N : Nat} {x0 : DWorld} {r : DWorld} (h : F_l_toWorld N x0 = some r) {a0_1 : Option Addr} {n0_1 c0_1 : Nat} (hn0_1 : n0_1 = x0.parts.length) (hr0_1 : rdS (Bor w0 []) w0 a0_1 c0_1 x0.parts) :
    Ret Tryz.prog 16 #[.agg #[.int .i64 x0.now, .slice a0_1 n0_1 c0_1]] w0 (fun v w => ∃ ar0_1 cr0_1, v = .agg #[.int .i64 r.now, .slice ar0_1 r.parts.length cr0_1] ∧ St w0 [] w [sl ar0_1 cr0_1 r.parts]) := by
  subst hn0_1
  unfold F_l_toWorld at h
  refine Ret.fn Tryz.func16 fun e => ?_
  have hS1 := St.start w0
  refine go ?_
  refine LW.bo hS1 fun g1 w2 hS2 => ?_
  refine LW.al hS2 fun g3 w4 hS3 => ?_
  refine go ?_
  refine LW.al hS3 fun g5 w6 hS4 => ?_
  refine go ?_
  refine LW.st hS4 0 fun w7 hS5 => ?_
  refine go ?_
  replace ⟨y8, hy8, h⟩ := obind h
  refine LW.cl (W_l_toPartS hy8 rfl (hS5.rB hr0_1)) ?_
  rintro _ w11 ⟨a9, c10, rfl, hs⟩
  have hS6 := hS5.add hs
  refine go ?_
  refine LW.st hS6 1 fun w12 hS7 => ?_
  refine go ?_
  refine LW.st hS7 2 fun w13 hS8 => ?_
  refine go ?_
  cases h
  exact And.intro trivial ⟨_, Res.one (resOne.b hS8 2 rfl ag27 rfl rfl), a9, c10, rfl, hS8.pick [0] rfl rfl⟩

theorem W_s_WorldOk {w0 : World} {N : Nat} {x0 : DWorld} {r : Bool} (h : F_s_WorldOk N x0 = some r) {a0_1 : Option Addr} {n0_1 c0_1 : Nat} (hn0_1 : n0_1 = x0.parts.length) (hr0_1 : rdS (Bor w0 []) w0 a0_1 c0_1 x0.parts) :
    Ret Tryz.prog 32 #[.agg #[.int .i64 x0.now, .slice a0_1 n0_1 c0_1]] w0 (fun v w => v = .bool r ∧ St w0 [] w []) := by
  subst hn0_1
  unfold F_s_WorldOk at h
  refine Ret.fn Tryz.func32 fun e => ?_
  have hS1 := St.start w0
  refine go ?_
  refine LW.bo hS1 fun g1 w2 hS2 => ?_
  refine gs ?_
  obtain ⟨j3, hj3, h4⟩ := obind h
  refine CW.jn [1] [0] [(14, .bool j3)] hS2 (h1 := ?_) (h2 := ?_)
  · have h := hj3
    refine go ?_
    replace ⟨y5, hy5, h⟩ := obind h
    refine LW.c0 (W_s_l1In hy5) hS2 fun w6 hS3 => ?_
    refine go ?_
    rcases bcases (!y5) with hc7 | hc7
    · replace h := bcT h hc7
      refine go ?_
      cases oi h
      exact ⟨⟨rfl, rfl, trivial⟩, hS3.pick [0] rfl rfl⟩
    replace h := bcF h hc7
    refine go ?_
    replace ⟨y8, hy8, h⟩ := obind h
    refine go ?_
    refine LW.c0 (W_s_l1In hy8) hS3 fun w9 hS4 => ?_
    refine go ?_
    cases oi h
    exact ⟨⟨rfl, rfl, trivial⟩, hS4.pick [0] rfl rfl⟩
  intro e w10 hS5
  have h := h4
  refine go ?_
  refine cd (fun hc11 => ?_) fun hc11 => ?_
  · replace h := bcT h hc11
    refine go ?_
    cases h
    exact fi hS5
  replace h := bcF h hc11
  refine go ?_
  obtain ⟨o45, ho45, h46⟩ := obind h
  refine CW.mono (CW.lx [1] [0] [1] 0 (fun s12 => [(3, .int .i64 s12)]) (RT Tryz.prog Tryz.f32.results (fun u => .bool u) w0 []) hS5 ho45 (hb := ?_)) ?_
  · intro s12 e w13 o hS6 h
    refine go ?_
    refine cd (fun hc14 => ?_) fun hc14 => ?_
    · replace h := bcT h hc14
      refine go ?_
      replace ⟨y15, hy15, h⟩ := obind h
      obtain ⟨b18, o19, cs20, hae, hb23, hp16, hq17, hd21, hk22⟩ := hr0_1.idx hy15
      subst hae
      obtain ⟨a24, c25, a27, c28, a30, c31, a33, c34, a36, c37, a39, c40, rfl, hr26, hr29, hr32, hr35, hr38, hr41⟩ := hd21
      refine LW.u (Pur.ix Tryz.underlying25 sz67 rfl rfl hp16 hq17) rfl ?_
      refine LW.l (Ldr.oldN w0 ag67 rfl rfl (fun j u hu => hk22 j u hu)) (hS6.same _ hb23.1 hb23.2) rfl ?_
      replace ⟨y42, hy42, h⟩ := obind h
      refine LW.c0 (W_s_PartOk hy42 rfl (hS6.rB hr26) rfl (hS6.rB hr29) rfl (hS6.rB hr32) rfl (hS6.rB hr35) rfl (hS6.rB hr38) rfl (hS6.rB hr41)) hS6 fun w43 hS7 => ?_
      refine go ?_
      refine CW.fl [1, 3, 28] fun e => ?_
      refine cd (fun hc44 => ?_) fun hc44 => ?_
      · replace h := bcT h hc44
        refine go ?_
        cases oi h
        exact ⟨trivial, rfl, _, rfl, ⟨_, Res.one (resOne.t rfl), rfl, hS7.pick [] rfl rfl⟩⟩
      replace h := bcF h hc44
      refine go ?_
      cases oi h
      exact ⟨rfl, ⟨⟨rfl, rfl, trivial⟩, hS7.pick [0] rfl rfl⟩⟩
    replace h := bcF h hc14
    refine go ?_
    cases oi h
    exact ⟨trivial, rfl, ⟨⟨rfl, trivial⟩, hS6.pick [0] rfl rfl⟩⟩
  intro x e w47 hM
  rcases o45 with o45 | r52
  · obtain ⟨rfl, hM⟩ := hM
    obtain ⟨hE, hS8⟩ := hM
    obtain ⟨e, rfl⟩ := hE.out
    have h := h46
    refine go ?_
    replace ⟨y48, hy48, h⟩ := obind h
    refine LW.c0 (W_s_l15Sum hy48 rfl (hS8.rB hr0_1)) hS8 fun w49 hS9 => ?_
    replace ⟨y50, hy50, h⟩ := obind h
    refine LW.c0 (W_s_AmtOk hy50) hS9 fun w51 hS10 => ?_
    refine go ?_
    cases h
    exact fi hS10
  obtain ⟨rfl, u, rfl, hM⟩ := hM
  cases h46
  exact And.intro trivial hM

theorem W_l_eqWorld {w0 : World} {N : Nat} {x0 : DWorld} {x1 : DWorld} {r : Bool} (h : F_l_eqWorld N x0 x1 = some r) {a0_1 : Option Addr} {n0_1 c0_1 : Nat} (hn0_1 : n0_1 = x0.parts.length) (hr0_1 : rdS (Bor w0 []) w0 a0_1 c0_1 x0.parts) {a1_1 : Option Addr} {n1_1 c1_1 : Nat} (hn1_1 : n1_1 = x1.parts.length) (hr1_1 : rdS (Bor w0 []) w0 a1_1 c1_1 x1.parts) :
    Ret Tryz.prog 18 #[.agg #[.int .i64 x0.now, .slice a0_1 n0_1 c0_1], .agg #[.int .i64 x1.now, .slice a1_1 n1_1 c1_1]] w0 (fun v w => v = .bool r ∧ St w0 [] w []) := by
  subst hn0_1 hn1_1
  unfold F_l_eqWorld at h
  refine Ret.fn Tryz.func18 fun e => ?_
  have hS1 := St.start w0
  refine go ?_
  refine LW.bo hS1 fun g1 w2 hS2 => ?_
  refine LW.bo hS2 fun g3 w4 hS3 => ?_
  refine go ?_
  refine cd (fun hc5 => ?_) fun hc5 => ?_
  · replace h := bcT h hc5
    refine go ?_
    cases h
    exact fi hS3
  replace h := bcF h hc5
  refine go ?_
  replace ⟨y6, hy6, h⟩ := obind h
  refine LW.c0 (W_l_eqPartS hy6 rfl (hS3.rB hr0_1) rfl (hS3.rB hr1_1)) hS3 fun w7 hS4 => ?_
  refine go ?_
  refine CW.fl [15] fun e => ?_
  refine cd (fun hc8 => ?_) fun hc8 => ?_
  · replace h := bcT h hc8
    refine go ?_
    cases h
    exact fi hS4
  replace h := bcF h hc8
  refine go ?_
  cases h
  exact fi hS4

theorem W_s_PartTaps {w0 : World} {N : Nat} {x0 : DWorld} {x1 : Int} {r : DWorld} (h : F_s_PartTaps N x0 x1 = some r) {a0_1 : Option Addr} {n0_1 c0_1 : Nat} (hn0_1 : n0_1 = x0.parts.length) (hr0_1 : rdS (Bor w0 []) w0 a0_1 c0_1 x0.parts) :
    Ret Tryz.prog 15 #[.agg #[.int .i64 x0.now, .slice a0_1 n0_1 c0_1], .int .i64 x1] w0 (fun v w => ∃ ar0_1 cr0_1, v = .agg #[.int .i64 r.now, .slice ar0_1 r.parts.length cr0_1] ∧ St w0 [] w [sl ar0_1 cr0_1 r.parts]) := by
  subst hn0_1
  unfold F_s_PartTaps at h
  refine Ret.fn Tryz.func15 fun e => ?_
  have hS1 := St.start w0
  refine go ?_
  refine LW.bo hS1 fun g1 w2 hS2 => ?_
  refine LW.al hS2 fun g3 w4 hS3 => ?_
  refine go ?_
  replace ⟨y5, hy5, h⟩ := obind h
  refine LW.cl (W_s_l15Copy hy5 rfl (hS3.rB hr0_1)) ?_
  rintro _ w8 ⟨a6, c7, rfl, hs⟩
  have hS4 := hS3.add hs
  refine LW.al hS4 fun g9 w10 hS5 => ?_
  refine LW.st hS5 0 fun w11 hS6 => ?_
  refine gs ?_
  obtain ⟨j12, hj12, h13⟩ := obind h
  refine CW.jn [1, 4, 5] [0, 1, 2] [(25, .bool j12)] hS6 (h1 := ?_) (h2 := ?_)
  · have h := hj12
    refine go ?_
    replace ⟨y14, hy14, h⟩ := obind h
    refine LW.c0 (W_s_WorldOk hy14 rfl (hS6.rB hr0_1)) hS6 fun w15 hS7 => ?_
    refine go ?_
    rcases bcases (!y14) with hc16 | hc16
    · replace h := bcT h hc16
      refine go ?_
      cases oi h
      exact ⟨⟨rfl, rfl, rfl, rfl, trivial⟩, hS7.pick [0, 1, 2] rfl rfl⟩
    replace h := bcF h hc16
    refine go ?_
    replace ⟨y17, hy17, h⟩ := obind h
    refine go ?_
    refine LW.c0 (W_s_l1In hy17) hS7 fun w18 hS8 => ?_
    refine go ?_
    cases oi h
    exact ⟨⟨rfl, rfl, rfl, rfl, trivial⟩, hS8.pick [0, 1, 2] rfl rfl⟩
  intro e w19 hS9
  have h := h13
  refine go ?_
  refine cd (fun hc20 => ?_) fun hc20 => ?_
  · replace h := bcT h hc20
    refine go ?_
    refine LW.st hS9 2 fun w21 hS10 => ?_
    refine go ?_
    cases h
    exact And.intro trivial ⟨_, Res.one (resOne.b hS10 2 rfl ag27 rfl rfl), a6, c7, rfl, hS10.pick [1] rfl rfl⟩
  replace h := bcF h hc20
  refine go ?_
  refine LW.bsl (α := DTreeV) (vs := []) (cs := #[]) (l := ([] : List DTreeV)) rfl (by kernel_rfl) rfl rfl rfl (fun w => rfl) hS9 rfl ?_
  intro a22 c23 w24 hS11 hf
  refine go ?_
  obtain ⟨hgd, h⟩ := gd_ok h
  simp only [Bool.and_eq_true, decide_eq_true_eq] at hgd
  have hS12 := hS11.pick (M := [sl a6 c7 y5.parts] ++ [sl a22 c23 ([] : List DTreeV), bx g9 27 [.int .i64 y5.now, .slice a6 y5.parts.length c7], bx g3 27 [.int .i64 0, .slice none 0 0]]) [2, 0, 1, 3] rfl rfl
  obtain ⟨hds, hl, hS13⟩ := hS12.splitP
  obtain ⟨pv, hpv⟩ : ∃ pv, pv = List.zipWith mkV y5.parts hds := ⟨_, rfl⟩
  rw [← hpv] at hS13
  have hhs : hds.length = y5.parts.length := by have := hl.len; rwa [List.length_map] at this
  have hpl : y5.parts.length = pv.length := by rw [hpv]; exact (zip_len hl).symm
  rw [hpl] at hS13
  obtain ⟨o61, ho61, hoeo61⟩ := viewLoop rfl (by rw [← hpl]; exact hgd.1) (by rw [← hpl]; exact hgd.2)
  refine CW.mono (CW.iter (σ := (List DTreeV) × Int) (ρ := (List DTreeV) × Int) (fun s25 e wb => ∃ (s25a0 : Option Addr), ∃ (s25c0 : Nat), En e [(1, .int .i64 x1), (4, .pointer (some ⟨g3, 0, none⟩)), (5, .pointer (some ⟨g9, 0, none⟩)), (6, .slice s25a0 s25.1.length s25c0), (7, .int .i64 s25.2)] ∧ St w0 [] wb [sl a6 c7 pv, tl hds (partTrees y5.parts), sl s25a0 s25c0 s25.1, bx g9 27 [.int .i64 y5.now, .slice a6 pv.length c7], bx g3 27 [.int .i64 0, .slice none 0 0]]) (fun s25 x e wb => x = .exit 0 ∧ ∃ (s25a0 : Option Addr), ∃ (s25c0 : Nat), En e [(1, .int .i64 x1), (4, .pointer (some ⟨g3, 0, none⟩)), (5, .pointer (some ⟨g9, 0, none⟩)), (6, .slice s25a0 s25.1.length s25c0)] ∧ St w0 [] wb [sl a6 c7 pv, tl hds (partTrees y5.parts), sl s25a0 s25c0 s25.1, bx g9 27 [.int .i64 y5.now, .slice a6 pv.length c7], bx g3 27 [.int .i64 0, .slice none 0 0]]) ?_ N (([] : List DTreeV), 0) _ _ _ ⟨a22, c23, ⟨rfl, rfl, rfl, rfl, rfl, trivial⟩, hS13.pick [0, 1, 2, 3, 4] rfl rfl⟩ ho61) ?_
  · intro s25 e w26 o hM h
    obtain ⟨s25a0, s25c0, hE, hS14⟩ := hM
    obtain ⟨e, rfl⟩ := hE.out
    refine go ?_
    refine CW.fl [1, 4, 5, 6, 7, 32] fun e => ?_
    refine cd (fun hc27 => ?_) fun hc27 => ?_
    · replace h := bcT h hc27
      refine go ?_
      replace ⟨y28, hy28, h⟩ := obind h
      obtain ⟨b31, o32, hae, hp29, hq30⟩ := hS14.ownIdx (α := DPartV) (i := 0) rfl hy28
      subst hae
      refine LW.u (Pur.ix Tryz.underlying25 sz67 rfl rfl hp29 hq30) rfl ?_
      refine go ?_
      obtain ⟨F33, ho34, hS15⟩ := hS14.freeze (α := DPartV) 0 rfl
      obtain ⟨b35, o36, cs37, hae, hb40, _, _, hd38, hk39⟩ := ho34.rdF.idx hy28
      cases hae
      obtain ⟨a41, c42, a44, c45, a47, c48, a50, c51, a53, c54, rfl, hr43, hr46, hr49, hr52, hr55⟩ := hd38
      refine LW.l (Ldr.old w26 ag59 rfl (hk39 2 _ rfl)) (hS15.zC 0 rfl hb40) rfl ?_
      refine LW.u (Pur.build (vs := [(0, .slice y28.tree.a y28.tree.n y28.tree.c)]) (cs := #[.slice y28.tree.a y28.tree.n y28.tree.c]) rfl (by kernel_rfl)) rfl ?_
      replace ⟨y56, hy56, h⟩ := obind h
      refine LW.app1 (M := []) (L := [fz w26 F33, tl hds (partTrees y5.parts), sl s25a0 s25c0 s25.1, bx g9 27 [.int .i64 y5.now, .slice (some ⟨b31, o32, none⟩) pv.length c7], bx g3 27 [.int .i64 0, .slice none 0 0]]) (vs := #[.slice y28.tree.a y28.tree.n y28.tree.c]) (i := 2) sTV76 rfl (by kernel_rfl) rfl rfl hy56 hS15 rfl (fun w G hG => by cases (show G = [] from hG); exact ⟨rfl, rfl⟩) rfl rfl ?_
      intro v59 a57 c58 w60 hS16 hf
      refine go ?_
      have hS17 := hS16.thaw (α := DPartV) 0 rfl ho34
      cases oi h
      exact ⟨rfl, ⟨a57, c58, ⟨rfl, rfl, rfl, rfl, rfl, trivial⟩, hS17.pick [0, 1, 2, 3, 4] rfl rfl⟩⟩
    replace h := bcF h hc27
    refine go ?_
    cases oi h
    exact ⟨trivial, rfl, ⟨s25a0, s25c0, ⟨rfl, rfl, rfl, rfl, trivial⟩, hS14.pick [0, 1, 2, 3, 4] rfl rfl⟩⟩
  intro x e w63 hM
  obtain ⟨rfl, hM⟩ := hM
  obtain ⟨s25a0, s25c0, hE, hS18⟩ := hM
  obtain ⟨e, rfl⟩ := hE.out
  rw [show o61.1 = hds.map DTreeV.mk from by rw [hoeo61, hpv]; exact view_hs hhs] at hS18
  have hS19 := hS18.pick (M := [sl s25a0 s25c0 (hds.map DTreeV.mk), tl hds (partTrees y5.parts)] ++ [sl a6 c7 pv, bx g9 27 [.int .i64 y5.now, .slice a6 pv.length c7], bx g3 27 [.int .i64 0, .slice none 0 0]]) [2, 1, 0, 3, 4] rfl rfl
  have hS20 := hS19.mergeT hl
  have htl : o61.1.length = (treesOf y5.parts).length := by rw [hoeo61]; simp [treesOf, partTrees, hpl]
  refine go ?_
  replace ⟨y64, hz65, h⟩ := obind h
  obtain ⟨hh66, hx67⟩ := idx_mkV hpv hhs hz65
  obtain ⟨b70, o71, hae, hp68, hq69⟩ := hS20.ownIdx (α := DPartV) (i := 1) rfl hx67
  subst hae
  obtain ⟨o111, ho111, h112⟩ := obind h
  refine CW.mono (CW.iter (σ := (List DTree) × Int) (ρ := (List DTree) × Int) (fun s72 e wb => ∃ (s72a0 : Option Addr), ∃ (s72c0 : Nat), En e [(1, .int .i64 x1), (4, .pointer (some ⟨g3, 0, none⟩)), (5, .pointer (some ⟨g9, 0, none⟩)), (6, .slice s72a0 s72.1.length s72c0), (8, .int .i64 s72.2)] ∧ St w0 [] wb [sl (some ⟨b70, o71, none⟩) c7 pv, bx g9 27 [.int .i64 y5.now, .slice (some ⟨b70, o71, none⟩) pv.length c7], bx g3 27 [.int .i64 0, .slice none 0 0], sl s72a0 s72c0 s72.1]) (fun s72 x e wb => x = .exit 2 ∧ ∃ (s72a0 : Option Addr), ∃ (s72c0 : Nat), En e [(4, .pointer (some ⟨g3, 0, none⟩)), (5, .pointer (some ⟨g9, 0, none⟩)), (6, .slice s72a0 s72.1.length s72c0)] ∧ St w0 [] wb [sl (some ⟨b70, o71, none⟩) c7 pv, bx g9 27 [.int .i64 y5.now, .slice (some ⟨b70, o71, none⟩) pv.length c7], bx g3 27 [.int .i64 0, .slice none 0 0], sl s72a0 s72c0 s72.1]) ?_ N ((treesOf y5.parts), 0) _ _ _ ⟨s25a0, s25c0, ⟨rfl, rfl, rfl, (show (.slice s25a0 o61.1.length s25c0 : Value) = .slice s25a0 ((treesOf y5.parts).length) s25c0 by rw [show o61.1.length = (treesOf y5.parts).length from htl]), rfl, trivial⟩, hS20.pick [1, 2, 3, 0] rfl rfl⟩ ho111) ?_
  · intro s72 e w73 o hM h
    obtain ⟨s72a0, s72c0, hE, hS21⟩ := hM
    obtain ⟨e, rfl⟩ := hE.out
    refine go ?_
    refine LW.u (Pur.ix Tryz.underlying25 sz67 rfl rfl hp68 hq69) rfl ?_
    refine go ?_
    obtain ⟨F74, ho75, hS22⟩ := hS21.freeze (α := DPartV) 0 rfl
    obtain ⟨b76, o77, cs78, hae, hb81, _, _, hd79, hk80⟩ := ho75.rdF.idx hx67
    cases hae
    obtain ⟨a82, c83, a85, c86, a88, c89, a91, c92, a94, c95, rfl, hr84, hr87, hr90, hr93, hr96⟩ := hd79
    refine LW.l (Ldr.old w73 ag65 rfl (hk80 8 _ rfl)) (hS22.zC 0 rfl hb81) rfl ?_
    refine go ?_
    refine CW.fl [1, 4, 5, 6, 8, 53] fun e => ?_
    refine cd (fun hc97 => ?_) fun hc97 => ?_
    · replace h := bcT h hc97
      refine go ?_
      refine LW.u (Pur.ix Tryz.underlying25 sz67 rfl rfl hp68 hq69) rfl ?_
      refine go ?_
      refine LW.l (Ldr.old w73 ag65 rfl (hk80 8 _ rfl)) (hS22.zC 0 rfl hb81) rfl ?_
      refine go ?_
      replace ⟨y98, hy98, h⟩ := obind h
      obtain ⟨b101, o102, cs103, hae, hb106, hp99, hq100, hd104, hk105⟩ := hr96.idx hy98
      subst hae
      obtain rfl := hd104
      refine LW.u (Pur.ix Tryz.underlying65 sz82 rfl rfl hp99 hq100) rfl ?_
      refine LW.l (Ldr.oldN w73 ag82 rfl rfl (fun j u hu => hk105 j u hu)) (hS22.zC 0 rfl hb106) rfl ?_
      replace ⟨y107, hy107, h⟩ := obind h
      refine LW.cl (W_s_TapMove hy107 rfl (hS22.rI 3 rfl)) ?_
      rintro _ w110 ⟨a108, c109, rfl, hs⟩
      have hS23 := hS22.add hs
      refine go ?_
      have hS24 := hS23.thaw (α := DPartV) 1 rfl ho75
      cases oi h
      exact ⟨rfl, ⟨a108, c109, ⟨rfl, rfl, rfl, rfl, rfl, trivial⟩, hS24.pick [1, 2, 3, 0] rfl rfl⟩⟩
    replace h := bcF h hc97
    refine go ?_
    have hS25 := hS22.thaw (α := DPartV) 0 rfl ho75
    cases oi h
    exact ⟨trivial, rfl, ⟨s72a0, s72c0, ⟨rfl, rfl, rfl, trivial⟩, hS25.pick [0, 1, 2, 3] rfl rfl⟩⟩
  intro x e w113 hM
  obtain ⟨rfl, hM⟩ := hM
  obtain ⟨s72a0, s72c0, hE, hS26⟩ := hM
  obtain ⟨e, rfl⟩ := hE.out
  have h := h112
  refine go ?_
  obtain ⟨hg2, h⟩ := gd_ok h
  have hg2 := of_decide_eq_true hg2
  rw [← hpl] at hS26
  have hS27 := hS26.noT
  obtain ⟨o144, ho144, h145⟩ := obind h
  refine CW.mono (CW.iter (σ := Int × (List (List DRes))) (ρ := Int × (List (List DRes))) (fun s114 e wb => ∃ (pv2 : List DPartV), ∃ (hs2 : List Hd), ∃ (hR : Rl y5.parts pv2 hs2 s114.2 s114.1), En e [(4, .pointer (some ⟨g3, 0, none⟩)), (5, .pointer (some ⟨g9, 0, none⟩)), (6, .slice s72a0 o111.1.length s72c0), (11, .int .i64 s114.1)] ∧ St w0 [] wb [tl hs2 s114.2, sl (some ⟨b70, o71, none⟩) c7 pv2, bx g9 27 [.int .i64 y5.now, .slice (some ⟨b70, o71, none⟩) y5.parts.length c7], bx g3 27 [.int .i64 0, .slice none 0 0], sl s72a0 s72c0 o111.1]) (fun s114 x e wb => x = .exit 4 ∧ ∃ (pv2 : List DPartV), ∃ (hs2 : List Hd), ∃ (hR : Rl y5.parts pv2 hs2 s114.2 s114.1 ∧ decide (s114.1 < (y5.parts.length : Int)) = false), En e [(4, .pointer (some ⟨g3, 0, none⟩)), (5, .pointer (some ⟨g9, 0, none⟩))] ∧ St w0 [] wb [tl hs2 s114.2, sl (some ⟨b70, o71, none⟩) c7 pv2, bx g9 27 [.int .i64 y5.now, .slice (some ⟨b70, o71, none⟩) y5.parts.length c7], bx g3 27 [.int .i64 0, .slice none 0 0], sl s72a0 s72c0 o111.1]) ?_ N (0, []) _ _ _ ⟨pv, [], ⟨⟨hds, hhs, hpv, rfl⟩, trivial, rfl⟩, ⟨rfl, rfl, rfl, rfl, trivial⟩, hS27.pick [0, 1, 2, 3, 4] rfl rfl⟩ ho144) ?_
  · intro s114 e w115 o hM h
    obtain ⟨pv2, hs2, hR, hE, hS28⟩ := hM
    obtain ⟨e, rfl⟩ := hE.out
    refine go ?_
    refine CW.fl [4, 5, 6, 11, 76] fun e => ?_
    refine cd (fun hc116 => ?_) fun hc116 => ?_
    · replace h := bcT h hc116
      refine go ?_
      refine CW.draw (by kernel_rfl) ?_
      have hS29 := hS28.drew
      refine go ?_
      replace ⟨y117, hy117, h⟩ := obind h
      obtain ⟨b120, o121, hae, hp118, hq119⟩ := hS29.ownIdx (α := DTree) (i := 4) rfl hy117
      subst hae
      refine AW.u (i := 5) rfl (by kernel_rfl) rfl rfl (Pur.ix Tryz.underlying76 sz78 rfl rfl hp118 hq119) ?_
      refine go ?_
      obtain ⟨F122, ho123, hS30⟩ := hS29.freeze (α := DTree) 4 rfl
      obtain ⟨b124, o125, cs126, hae, hb129, _, _, hd127, hk128⟩ := ho123.rdF.idx hy117
      cases hae
      obtain ⟨a130, c131, rfl, hr132⟩ := hd127
      refine AW.take (i := 7) rfl (by kernel_rfl) rfl rfl (Ldr.old w115.drew ag59 rfl (hk128 0 _ rfl)) (hS30.zC 4 rfl hb129) ?_
      replace ⟨y133, hy133, h⟩ := obind h
      have q := W_s_l6Copy (w0 := w115.drew) hy133 rfl (hS30.rZ 4 rfl hr132)
      refine AW.one (i := 8) (by kernel_rfl) ?_
      refine ⟨_, rfl, ?_⟩
      refine LW.call pl34 rfl rfl ?_
      refine Ret.mono q ?_
      rintro _ w136 ⟨a134, c135, rfl, hs⟩
      have hS31 := hS30.add hs
      refine LW.nil ⟨rfl, (.w (by kernel_rfl) (.c (St.cell (h := hS31) (i := 3) rfl) Kept.n)), ?_⟩
      obtain ⟨y137, hy137⟩ := hR.ix hc116
      obtain ⟨b140, o141, hae, hp138, hq139⟩ := hS31.ownIdx (α := DPartV) (i := 2) rfl hy137
      have hq139 := of_decide_eq_true hc116
      cases hae
      refine AW.u (i := 9) rfl (by kernel_rfl) rfl rfl (Pur.ix Tryz.underlying25 sz67 rfl rfl hp138 hq139) ?_
      refine go ?_
      have hS32 := hS31.pick (M := [sl a134 c135 y133, tl hs2 s114.2] ++ [sl (some ⟨b70, o71, none⟩) c7 pv2, bx g9 27 [.int .i64 y5.now, .slice (some ⟨b70, o71, none⟩) y5.parts.length c7], bx g3 27 [.int .i64 0, .slice none 0 0], fz w115.drew F122]) [0, 1, 2, 3, 4, 5] rfl rfl
      have hS33 := hS32.pushT (h := (⟨a134, y133.length, c135⟩ : Hd)) (hs := hs2) hR.2.1 rfl
      refine AW.one (i := 11) (by kernel_rfl) ?_
      refine ⟨_, rfl, ?_⟩
      refine LW.stE (M := []) (L := [tl (hs2 ++ [(⟨a134, y133.length, c135⟩ : Hd)]) (s114.2 ++ [y133]), sl (some ⟨b70, o71, none⟩) c7 pv2, bx g9 27 [.int .i64 y5.now, .slice (some ⟨b70, o71, none⟩) y5.parts.length c7], bx g3 27 [.int .i64 0, .slice none 0 0], fz w115.drew F122]) (z := y137) (z' := (DPartV.mk y137.label y137.own (⟨a134, y133.length, c135⟩ : Hd) y137.heap y137.taps y137.next y137.want y137.spent y137.press y137.lost)) (o := 2) hS33 (i := 1) rfl hy137 ag59 rfl (by show _ = o71 + (s114.1 : Int).toNat * 16 + 2; omega) rfl rfl rfl rfl (leafF (fun w cs F hF => by obtain ⟨q0, r0, q1, r1, q2, r2, q3, r3, q4, r4, rfl, hH⟩ := hF; exact ⟨q0, r0, q1, r1, q2, r2, q3, r3, q4, r4, rfl, hH⟩)) ?_
      intro w143 hS34 hf
      refine LW.nil ⟨rfl, (.w (by kernel_rfl) (.w (by kernel_rfl) Kept.n)), ?_⟩
      refine go ?_
      have hS35 := hS34.thaw (α := DTree) 4 rfl ho123
      cases oi h
      exact ⟨rfl, ⟨(pv2.set (s114.1 : Int).toNat (DPartV.mk y137.label y137.own (⟨a134, y133.length, c135⟩ : Hd) y137.heap y137.taps y137.next y137.want y137.spent y137.press y137.lost)), (hs2 ++ [(⟨a134, y133.length, c135⟩ : Hd)]), (hR.step hc116 hgd.2 hy137 rfl), ⟨rfl, rfl, rfl, rfl, trivial⟩, hS35.pick [0, 1, 2, 3, 4] rfl rfl⟩⟩
    replace h := bcF h hc116
    refine go ?_
    cases oi h
    exact ⟨trivial, rfl, ⟨pv2, hs2, ⟨hR, hc116⟩, ⟨rfl, rfl, trivial⟩, hS28.pick [0, 1, 2, 3, 4] rfl rfl⟩⟩
  intro x e w146 hM
  obtain ⟨rfl, hM⟩ := hM
  obtain ⟨pv2, hs2, ⟨hR, hc3⟩, hE, hS36⟩ := hM
  obtain ⟨e, rfl⟩ := hE.out
  have h := h145
  obtain ⟨r1, r2, r3⟩ := hR.fin hc3
  have hS37 := hS36.pick (M := [sl (some ⟨b70, o71, none⟩) c7 pv2, tl hs2 o144.2] ++ [bx g9 27 [.int .i64 y5.now, .slice (some ⟨b70, o71, none⟩) y5.parts.length c7], bx g3 27 [.int .i64 0, .slice none 0 0], sl s72a0 s72c0 o111.1]) [1, 0, 2, 3, 4] rfl rfl
  have hS38 := hS37.mergeP r1 hR.2.1
  rw [r2, show y5.parts.length = (putTrees y5.parts o144.2).length from (putTrees_len r3).symm] at hS38
  refine go ?_
  refine LW.st hS38 2 fun w147 hS39 => ?_
  refine go ?_
  cases h
  exact And.intro trivial ⟨_, Res.one (resOne.b hS39 2 rfl ag27 rfl rfl), (some ⟨b70, o71, none⟩), c7, rfl, hS39.pick [0] rfl rfl⟩

end Go.Kx
