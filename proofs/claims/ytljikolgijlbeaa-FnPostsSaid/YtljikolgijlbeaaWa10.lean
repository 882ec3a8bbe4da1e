/- Each call returns what the plain function says. Printed by drive.py. -/
import Derived.Test.YtljikolgijlbeaaFa
import Derived.Test.YtljikolgijlbeaaPu
import Derived.Test.YtljikolgijlbeaaWa0
import Derived.Test.YtljikolgijlbeaaWa1
import Derived.Test.YtljikolgijlbeaaWa2
import Derived.Test.YtljikolgijlbeaaWa3
import Derived.Test.YtljikolgijlbeaaWa8
import Derived.Test.YtljikolgijlbeaaWa9
namespace Go.Kx
open Go Go.RowKit Go.Proofs
set_option maxRecDepth 10000
set_option maxHeartbeats 8000000
set_option linter.unusedVariables false
set_option linter.unusedSimpArgs false
theorem W_i_TreeBack {w0 : World} {N : Nat} {x0 : List DRes} {x1 : Int} {x2 : DAmt} {r : (List DRes) × Bool} (h : F_i_TreeBack N x0 x1 x2 = some r) {a0_0 : Option Addr} {n0_0 c0_0 : Nat} (hn0_0 : n0_0 = x0.length) (hr0_0 : rdS (Bor w0 []) w0 a0_0 c0_0 x0) :
    Ret Try.prog 135 #[.slice a0_0 n0_0 c0_0, .int .i64 x1, .agg #[.int .i64 x2.pages, .int .i64 x2.rent, .int .i64 x2.cpu]] w0 (fun v w => ∃ ar0 cr0, v = .tuple #[.slice ar0 r.1.length cr0, .bool r.2] ∧ St w0 [] w [sl ar0 cr0 r.1]) := by
  subst hn0_0
  unfold F_i_TreeBack at h
  refine Ret.fn Try.func135 fun e => ?_
  have hS1 := St.start w0
  refine go ?_
  refine LW.bo hS1 fun g1 w2 hS2 => ?_
  refine go ?_
  replace ⟨y3, hy3, h⟩ := obind h
  refine LW.cl (W_i_copyTree hy3 rfl (hS2.rB hr0_0)) ?_
  rintro _ w6 ⟨a4, c5, rfl, hs⟩
  have hS3 := hS2.add hs
  refine gs ?_
  obtain ⟨j7, hj7, h8⟩ := obind h
  refine CW.jn [0, 1, 5, 8] [0, 1] [(26, .bool j7)] hS3 (h1 := ?_) (h2 := ?_)
  · have h := hj7
    refine CW.draw (by kernel_rfl) ?_
    have hS4 := hS3.drew
    refine go ?_
    replace ⟨y9, hy9, h⟩ := obind h
    have q := W_i_TreeOk (w0 := w6.drew) hy9 rfl (hS4.rB hr0_0)
    refine AW.one (i := 1) (by kernel_rfl) ?_
    refine ⟨_, rfl, ?_⟩
    refine LW.call pl49 rfl rfl ?_
    refine Ret.mono q ?_
    rintro _ w10 ⟨rfl, hs⟩
    have hS5 := hS4.add hs
    refine LW.nil ⟨rfl, Kept.n, ?_⟩
    refine go ?_
    rcases bcases (!y9) with hc11 | hc11
    · replace h := bcT h hc11
      refine go ?_
      cases oi h
      exact ⟨⟨rfl, rfl, rfl, rfl, rfl, trivial⟩, hS5.pick [0, 1] rfl rfl⟩
    replace h := bcF h hc11
    refine go ?_
    replace ⟨y12, hy12, h⟩ := obind h
    have q := W_i_AmtOk (w0 := w10) hy12
    refine AW.one (i := 5) (by kernel_rfl) ?_
    refine ⟨_, rfl, ?_⟩
    refine (LW.gY (want_of rfl rfl hc11) ?_)
    refine LW.call pl53 rfl rfl ?_
    refine Ret.mono q ?_
    rintro _ w13 ⟨rfl, hs⟩
    have hS6 := hS5.add hs
    refine LW.nil ⟨rfl, (.w (by kernel_rfl) Kept.n), ?_⟩
    refine go ?_
    rcases bcases (!y12) with hc14 | hc14
    · replace h := bcT h hc14
      refine go ?_
      cases oi h
      exact ⟨⟨rfl, rfl, rfl, rfl, rfl, trivial⟩, hS6.pick [0, 1] rfl rfl⟩
    replace h := bcF h hc14
    refine go ?_
    replace ⟨y15, hy15, h⟩ := obind h
    have q := W_i_TreeSum (w0 := w13) hy15 rfl (hS6.rB hr0_0)
    refine AW.one (i := 10) (by kernel_rfl) ?_
    refine ⟨_, rfl, ?_⟩
    refine (LW.gY (want_of rfl rfl hc14) ?_)
    refine LW.call pl60 rfl rfl ?_
    refine Ret.mono q ?_
    rintro _ w16 ⟨rfl, hs⟩
    have hS7 := hS6.add hs
    refine LW.nil ⟨rfl, (.c (St.cell (h := hS7) (i := 1) rfl) (.c (St.cell (h := hS7) (i := 1) rfl) Kept.n)), ?_⟩
    replace ⟨y17, hy17, h⟩ := obind h
    have q := W_i_sumOf (w0 := w16) hy17
    refine AW.one (i := 12) (by kernel_rfl) ?_
    refine ⟨_, rfl, ?_⟩
    refine (LW.gY (want_of rfl rfl hc14) ?_)
    refine LW.call pl61 rfl rfl ?_
    refine Ret.mono q ?_
    rintro _ w18 ⟨rfl, hs⟩
    have hS8 := hS7.add hs
    refine LW.nil ⟨rfl, (.w (by kernel_rfl) (.c (St.cell (h := hS8) (i := 1) rfl) Kept.n)), ?_⟩
    replace ⟨y19, hy19, h⟩ := obind h
    have q := W_i_AmtOk (w0 := w18) hy19
    refine AW.one (i := 13) (by kernel_rfl) ?_
    refine ⟨_, rfl, ?_⟩
    refine (LW.gY (want_of rfl rfl hc14) ?_)
    refine LW.call pl53 rfl rfl ?_
    refine Ret.mono q ?_
    rintro _ w20 ⟨rfl, hs⟩
    have hS9 := hS8.add hs
    refine LW.nil ⟨rfl, (.c (St.cell (h := hS9) (i := 1) rfl) (.c (St.cell (h := hS9) (i := 1) rfl) Kept.n)), ?_⟩
    refine go ?_
    cases oi h
    exact ⟨⟨rfl, rfl, rfl, rfl, rfl, trivial⟩, hS9.pick [0, 1] rfl rfl⟩
  intro e w21 hS10
  have h := h8
  refine go ?_
  refine cd (fun hc22 => ?_) fun hc22 => ?_
  · replace h := bcT h hc22
    refine go ?_
    cases h
    exact And.intro trivial ⟨_, Res.two (resOne.t rfl) (resOne.t rfl), a4, c5, rfl, hS10.pick [0] rfl rfl⟩
  replace h := bcF h hc22
  refine go ?_
  replace ⟨y23, hy23, h⟩ := obind h
  refine LW.c0 (W_i_isLive hy23 rfl (hS10.rB hr0_0)) hS10 fun w24 hS11 => ?_
  refine gs ?_
  obtain ⟨j25, hj25, h26⟩ := obind h
  refine CW.jn [5, 8] [0, 1] [(1, .int .i64 j25)] hS11 (h1 := ?_) (h2 := ?_)
  · have h := hj25
    refine cd (fun hc27 => ?_) fun hc27 => ?_
    · replace h := bcT h hc27
      refine go ?_
      cases oi h
      exact ⟨⟨rfl, rfl, rfl, trivial⟩, hS11.pick [0, 1] rfl rfl⟩
    replace h := bcF h hc27
    refine go ?_
    cases oi h
    exact ⟨⟨rfl, rfl, rfl, trivial⟩, hS11.pick [0, 1] rfl rfl⟩
  intro e w28 hS12
  have h := h26
  refine go ?_
  refine CW.draw (by kernel_rfl) ?_
  have hS13 := hS12.drew
  refine go ?_
  replace ⟨y29, hy29, h⟩ := obind h
  obtain ⟨b32, o33, hae, hp30, hq31⟩ := hS13.ownIdx (α := DRes) (i := 0) rfl hy29
  subst hae
  refine AW.u (i := 4) rfl (by kernel_rfl) rfl rfl (Pur.ix Try.underlying32 sz111 rfl rfl hp30 hq31) ?_
  refine go ?_
  obtain ⟨F34, ho35, hS14⟩ := hS13.freeze (α := DRes) 0 rfl
  obtain ⟨b36, o37, cs38, hae, hb41, _, _, hd39, hk40⟩ := ho35.rdF.idx hy29
  cases hae
  obtain rfl := hd39
  refine AW.take (i := 6) rfl (by kernel_rfl) rfl rfl (Ldr.oldN w28.drew ag28 rfl rfl (fun j u hu => oldsub (m := 3) hk40 2 hu)) (hS14.zC 0 rfl hb41) ?_
  refine go ?_
  replace ⟨y42, hy42, h⟩ := obind h
  have q := W_i_sumOf (w0 := w28.drew) hy42
  refine AW.one (i := 8) (by kernel_rfl) ?_
  refine ⟨_, rfl, ?_⟩
  refine LW.call pl61 rfl rfl ?_
  refine Ret.mono q ?_
  rintro _ w43 ⟨rfl, hs⟩
  have hS15 := hS14.add hs
  refine LW.nil ⟨rfl, (.w (by kernel_rfl) (.w (by kernel_rfl) Kept.n)), ?_⟩
  refine AW.u (i := 9) rfl (by kernel_rfl) rfl rfl (Pur.ix Try.underlying32 sz111 rfl rfl hp30 hq31) ?_
  refine go ?_
  have hS16 := hS15.thaw (α := DRes) 0 rfl ho35
  replace ⟨y44, hy44, h⟩ := obind h
  refine AW.one (i := 11) (by kernel_rfl) ?_
  refine ⟨_, rfl, ?_⟩
  refine LW.stE (M := []) (L := [sl (some ⟨b32, o33, none⟩) c5 y3, bx g1 28 [.int .i64 x2.pages, .int .i64 x2.rent, .int .i64 x2.cpu]]) (z := y29) (z' := (DRes.mk y29.live y29.parent y42)) (o := 2) hS16 (i := 0) rfl hy29 ag28 rfl (by show _ = o33 + (j25 : Int).toNat * 5 + 2; omega) rfl rfl rfl rfl (leafF (fun w cs F hF => by obtain ⟨rfl, rfl⟩ := hF; exact ⟨rfl, rfl⟩)) ?_
  intro w45 hS17 hf
  rw [Option.some.inj hy44] at hS17
  refine LW.nil ⟨rfl, (.w (by kernel_rfl) (.w (by kernel_rfl) Kept.n)), ?_⟩
  refine go ?_
  replace h := Option.some.inj h
  subst h
  exact And.intro trivial ⟨_, Res.two (resOne.t rfl) (resOne.t rfl), (some ⟨b32, o33, none⟩), c5, (show (.tuple #[.slice (some ⟨b32, o33, none⟩) y3.length c5, .bool true] : Value) = .tuple #[.slice (some ⟨b32, o33, none⟩) y44.length c5, .bool true] by rw [show y3.length = y44.length from (len_set (Option.some.inj hy44))]), hS17.pick [0] rfl rfl⟩

theorem W_i_WorldOk {w0 : World} {N : Nat} {x0 : DWorld} {r : Bool} (h : F_i_WorldOk N x0 = some r) {a0_1 : Option Addr} {n0_1 c0_1 : Nat} (hn0_1 : n0_1 = x0.parts.length) (hr0_1 : rdS (Bor w0 []) w0 a0_1 c0_1 x0.parts) :
    Ret Try.prog 90 #[.agg #[.int .i64 x0.now, .slice a0_1 n0_1 c0_1]] w0 (fun v w => v = .bool r ∧ St w0 [] w []) := by
  subst hn0_1
  unfold F_i_WorldOk at h
  refine Ret.fn Try.func90 fun e => ?_
  have hS1 := St.start w0
  refine go ?_
  refine LW.bo hS1 fun g1 w2 hS2 => ?_
  refine gs ?_
  obtain ⟨j3, hj3, h4⟩ := obind h
  refine CW.jn [1] [0] [(16, .bool j3)] hS2 (h1 := ?_) (h2 := ?_)
  · have h := hj3
    refine go ?_
    replace ⟨y5, hy5, h⟩ := obind h
    refine LW.c0 (W_i_isTime hy5) hS2 fun w6 hS3 => ?_
    refine go ?_
    rcases bcases (!y5) with hc7 | hc7
    · replace h := bcT h hc7
      refine go ?_
      cases oi h
      exact ⟨⟨rfl, rfl, trivial⟩, hS3.pick [0] rfl rfl⟩
    replace h := bcF h hc7
    refine go ?_
    replace ⟨y8, hy8, h⟩ := obind h
    refine go ?_
    refine LW.c0 (W_i_within hy8) hS3 fun w9 hS4 => ?_
    refine go ?_
    cases oi h
    exact ⟨⟨rfl, rfl, trivial⟩, hS4.pick [0] rfl rfl⟩
  intro e w10 hS5
  have h := h4
  refine go ?_
  refine cd (fun hc11 => ?_) fun hc11 => ?_
  · replace h := bcT h hc11
    refine go ?_
    cases h
    exact fi hS5
  replace h := bcF h hc11
  refine go ?_
  refine LW.u (Pur.build (vs := []) (cs := #[.int .i64 0, .int .i64 0, .int .i64 0]) rfl (by kernel_rfl)) rfl ?_
  refine LW.al hS5 fun g12 w13 hS6 => ?_
  refine LW.st hS6 0 fun w14 hS7 => ?_
  refine go ?_
  obtain ⟨o56, ho56, h57⟩ := obind h
  refine CW.mono (CW.iter (σ := Int × Int × Int × Int) (ρ := (Int × Int × Int × Int) ⊕ Bool) (fun s15 e wb => En e [(3, .pointer (some ⟨g12, 0, none⟩)), (19, .slice a0_1 x0.parts.length c0_1), (20, .int .i64 (x0.parts.length : Int)), (21, .int .i64 s15.1)] ∧ St w0 [] wb [bx g12 28 [.int .i64 s15.2.1, .int .i64 s15.2.2.1, .int .i64 s15.2.2.2]]) (fun o x e wb => match o with | .inl s15 => x = .exit 0 ∧ En e [(3, .pointer (some ⟨g12, 0, none⟩))] ∧ St w0 [] wb [bx g12 28 [.int .i64 s15.2.1, .int .i64 s15.2.2.1, .int .i64 s15.2.2.2]] | .inr r => x = .ret ∧ ∃ u, u = r ∧ ∃ v, Res Try.prog Try.f90.results e wb v ∧ v = .bool u ∧ St w0 [] wb []) ?_ N (0, 0, 0, 0) _ _ _ ⟨⟨rfl, rfl, rfl, rfl, trivial⟩, hS7.pick [0] rfl rfl⟩ ho56) ?_
  · intro s15 e w16 o hM h
    obtain ⟨hE, hS8⟩ := hM
    obtain ⟨e, rfl⟩ := hE.out
    refine go ?_
    refine cd (fun hc17 => ?_) fun hc17 => ?_
    · replace h := bcT h hc17
      refine go ?_
      replace ⟨y18, hy18, h⟩ := obind h
      obtain ⟨b21, o22, cs23, hae, hb26, hp19, hq20, hd24, hk25⟩ := hr0_1.idx hy18
      subst hae
      obtain ⟨a27, c28, a30, c31, a33, c34, a36, c37, a39, c40, a42, c43, rfl, hr29, hr32, hr35, hr38, hr41, hr44⟩ := hd24
      refine LW.u (Pur.ix Try.underlying57 sz40 rfl rfl hp19 hq20) rfl ?_
      refine LW.l (Ldr.oldN w0 ag40 rfl rfl (fun j u hu => hk25 j u hu)) (hS8.same _ hb26.1 hb26.2) rfl ?_
      refine LW.al hS8 fun g45 w46 hS9 => ?_
      refine LW.st hS9 0 fun w47 hS10 => ?_
      refine go ?_
      replace ⟨y48, hy48, h⟩ := obind h
      refine LW.c0 (W_i_PartOk hy48 rfl (hS10.rB hr29) rfl (hS10.rB hr32) rfl (hS10.rB hr35) rfl (hS10.rB hr38) rfl (hS10.rB hr41) rfl (hS10.rB hr44)) hS10 fun w49 hS11 => ?_
      refine go ?_
      refine CW.fl [3, 5, 19, 20, 21, 27] fun e => ?_
      refine cd (fun hc50 => ?_) fun hc50 => ?_
      · replace h := bcT h hc50
        refine go ?_
        cases oi h
        exact ⟨trivial, rfl, _, rfl, ⟨_, Res.one (resOne.t rfl), rfl, hS11.pick [] rfl rfl⟩⟩
      replace h := bcF h hc50
      refine go ?_
      refine CW.draw (by kernel_rfl) ?_
      have hS12 := hS11.drew
      refine go ?_
      replace ⟨y51, hy51, h⟩ := obind h
      have q := W_i_PartSum (w0 := w49.drew) hy51 rfl (hS12.rB hr29) rfl (hS12.rB hr32) rfl (hS12.rB hr35) rfl (hS12.rB hr38) rfl (hS12.rB hr41) rfl (hS12.rB hr44)
      refine AW.one (i := 2) (by kernel_rfl) ?_
      refine ⟨_, rfl, ?_⟩
      refine LW.call pl17 rfl rfl ?_
      refine Ret.mono q ?_
      rintro _ w52 ⟨rfl, hs⟩
      have hS13 := hS12.add hs
      refine LW.nil ⟨rfl, (.w (by kernel_rfl) (.c (St.cell (h := hS13) (i := 1) rfl) Kept.n)), ?_⟩
      replace ⟨y53, hy53, h⟩ := obind h
      have q := W_i_sumOf (w0 := w52) hy53
      refine AW.one (i := 3) (by kernel_rfl) ?_
      refine ⟨_, rfl, ?_⟩
      refine LW.call pl61 rfl rfl ?_
      refine Ret.mono q ?_
      rintro _ w54 ⟨rfl, hs⟩
      have hS14 := hS13.add hs
      refine LW.nil ⟨rfl, (.c (St.cell (h := hS14) (i := 0) rfl) (.w (by kernel_rfl) Kept.n)), ?_⟩
      refine AW.one (i := 4) (by kernel_rfl) ?_
      refine ⟨_, rfl, ?_⟩
      refine LW.st hS14 1 fun w55 hS15 => ?_
      refine LW.nil ⟨rfl, (.w (by kernel_rfl) (.w (by kernel_rfl) Kept.n)), ?_⟩
      refine go ?_
      cases oi h
      exact ⟨rfl, ⟨⟨rfl, rfl, rfl, rfl, trivial⟩, hS15.pick [1] rfl rfl⟩⟩
    replace h := bcF h hc17
    refine go ?_
    cases oi h
    exact ⟨trivial, rfl, ⟨⟨rfl, trivial⟩, hS8.pick [0] rfl rfl⟩⟩
  intro x e w58 hM
  rcases o56 with o56 | r61
  · obtain ⟨rfl, hM⟩ := hM
    obtain ⟨hE, hS16⟩ := hM
    obtain ⟨e, rfl⟩ := hE.out
    have h := h57
    refine go ?_
    replace ⟨y59, hy59, h⟩ := obind h
    refine LW.c0 (W_i_AmtOk hy59) hS16 fun w60 hS17 => ?_
    refine go ?_
    cases h
    exact fi hS17
  obtain ⟨rfl, u, rfl, hM⟩ := hM
  cases h57
  exact And.intro trivial hM

theorem W_i_caller_slot {w0 : World} {F : List Nat} {N : Nat} {x0 : DCaller} {x1 : Int} {x2 : Int} {r : Int × Int × DCaller} (h : F_i_caller_slot N x0 x1 x2 = some r) {g0 : Nat} {a0_0 : Option Addr} {c0_0 : Nat} (hr0_0 : rdS (Bor w0 F) w0 a0_0 c0_0 x0.part.label.levels) {a0_1 : Option Addr} {c0_1 : Nat} (hr0_1 : rdS (Bor w0 F) w0 a0_1 c0_1 x0.part.own) {a0_2 : Option Addr} {c0_2 : Nat} (hr0_2 : rdS (Bor w0 F) w0 a0_2 c0_2 x0.part.tree) {a0_3 : Option Addr} {c0_3 : Nat} (hr0_3 : rdS (Bor w0 F) w0 a0_3 c0_3 x0.part.heap.arena) {a0_7 : Option Addr} {c0_7 : Nat} (hr0_7 : rdS (Bor w0 F) w0 a0_7 c0_7 x0.part.heap.gc.grey) {a0_8 : Option Addr} {c0_8 : Nat} (hr0_8 : rdS (Bor w0 F) w0 a0_8 c0_8 x0.part.taps) (hS : St w0 F w0 [bx g0 140 [.slice a0_0 x0.part.label.levels.length c0_0, .slice a0_1 x0.part.own.length c0_1, .slice a0_2 x0.part.tree.length c0_2, .slice a0_3 x0.part.heap.arena.length c0_3, .int .i64 x0.part.heap.gc.phase, .int .i64 x0.part.heap.gc.pos, .int .i64 x0.part.heap.gc.round, .slice a0_7 x0.part.heap.gc.grey.length c0_7, .slice a0_8 x0.part.taps.length c0_8, .int .i64 x0.part.next, .int .i64 x0.part.want, .int .i64 x0.part.spent.pages, .int .i64 x0.part.spent.rent, .int .i64 x0.part.spent.cpu, .int .i64 x0.part.press, .int .i64 x0.part.lost, .int .i64 x0.me, .int .i64 x0.now, .int .i64 x0.thread]]) :
    Ret Try.prog 113 #[.pointer (some ⟨g0, 0, none⟩), .int .i64 x1, .int .i64 x2] w0 (fun v w => v = .tuple #[.int .i64 r.1, .int .i64 r.2.1] ∧ St w0 F w [bx g0 140 [.slice a0_0 x0.part.label.levels.length c0_0, .slice a0_1 x0.part.own.length c0_1, .slice a0_2 x0.part.tree.length c0_2, .slice a0_3 x0.part.heap.arena.length c0_3, .int .i64 r.2.2.part.heap.gc.phase, .int .i64 r.2.2.part.heap.gc.pos, .int .i64 r.2.2.part.heap.gc.round, .slice a0_7 x0.part.heap.gc.grey.length c0_7, .slice a0_8 x0.part.taps.length c0_8, .int .i64 r.2.2.part.next, .int .i64 r.2.2.part.want, .int .i64 r.2.2.part.spent.pages, .int .i64 r.2.2.part.spent.rent, .int .i64 r.2.2.part.spent.cpu, .int .i64 r.2.2.part.press, .int .i64 r.2.2.part.lost, .int .i64 r.2.2.me, .int .i64 r.2.2.now, .int .i64 r.2.2.thread]]) := by
  unfold F_i_caller_slot at h
  refine Ret.fn Try.func113 fun e => ?_
  refine go ?_
  replace ⟨y1, hy1, h⟩ := obind h
  refine LW.c0 (W_i_isHandle hy1) hS fun w2 hS1 => ?_
  refine go ?_
  refine cd (fun hc3 => ?_) fun hc3 => ?_
  · replace h := bcT h hc3
    refine go ?_
    replace h := Option.some.inj h
    subst h
    exact And.intro trivial ⟨_, Res.two (resOne.t rfl) (resOne.t rfl), rfl, hS1.pick [0] rfl rfl⟩
  replace h := bcF h hc3
  refine go ?_
  refine CW.draw (by kernel_rfl) ?_
  have hS2 := hS1.drew
  refine go ?_
  replace ⟨y4, hy4, h⟩ := obind h
  have q := W_i_HandlePart (w0 := w2.drew) hy4
  refine AW.one (i := 1) (by kernel_rfl) ?_
  refine ⟨_, rfl, ?_⟩
  refine LW.call pl103 rfl rfl ?_
  refine Ret.mono q ?_
  rintro _ w5 ⟨rfl, hs⟩
  have hS3 := hS2.add hs
  refine LW.nil ⟨rfl, (.c (St.cell (h := hS3) (i := 0) rfl) Kept.n), ?_⟩
  refine AW.u (i := 6) rfl (by kernel_rfl) rfl rfl (Pur.p rfl) ?_
  refine go ?_
  refine cd (fun hc6 => ?_) fun hc6 => ?_
  · replace h := bcT h hc6
    refine go ?_
    replace h := Option.some.inj h
    subst h
    exact And.intro trivial ⟨_, Res.two (resOne.t rfl) (resOne.t rfl), rfl, hS3.pick [0] rfl rfl⟩
  replace h := bcF h hc6
  refine go ?_
  refine CW.draw (by kernel_rfl) ?_
  have hS4 := hS3.drew
  refine go ?_
  replace ⟨y7, hy7, h⟩ := obind h
  have q := W_i_GoodSlot (w0 := w5.drew) hy7 rfl (hS4.rB hr0_3)
  refine AW.one (i := 15) (by kernel_rfl) ?_
  refine ⟨_, rfl, ?_⟩
  refine LW.call pl106 rfl rfl ?_
  refine Ret.mono q ?_
  rintro _ w8 ⟨rfl, hs⟩
  have hS5 := hS4.add hs
  refine LW.nil ⟨rfl, (.w (by kernel_rfl) (.w (by kernel_rfl) (.w (by kernel_rfl) Kept.n))), ?_⟩
  refine go ?_
  refine cd (fun hc9 => ?_) fun hc9 => ?_
  · replace h := bcT h hc9
    refine go ?_
    replace h := Option.some.inj h
    subst h
    exact And.intro trivial ⟨_, Res.two (resOne.t rfl) (resOne.t rfl), rfl, hS5.pick [0] rfl rfl⟩
  replace h := bcF h hc9
  refine gs ?_
  obtain ⟨j10, hj10, h11⟩ := obind h
  refine CW.jn [0, 8] [0] [(52, .bool j10)] hS5 (h1 := ?_) (h2 := ?_)
  · have h := hj10
    refine go ?_
    rcases bcases (x2 != 0) with hc12 | hc12
    · replace h := bcT h hc12
      refine go ?_
      refine LW.u (Pur.nc rfl) rfl ?_
      refine go ?_
      replace ⟨y13, hy13, h⟩ := obind h
      obtain ⟨b16, o17, cs18, hae, hb21, hp14, hq15, hd19, hk20⟩ := hr0_3.idx hy13
      subst hae
      obtain ⟨a22, c23, a25, c26, a28, c29, rfl, hr24, hr27, hr30⟩ := hd19
      refine go ?_
      refine LW.u (Pur.ix Try.underlying33 sz84 rfl rfl hp14 hq15) rfl ?_
      refine go ?_
      refine LW.l (Ldr.old w0 ag3 rfl (hk20 1 _ rfl)) (hS5.same _ hb21.1 hb21.2) rfl ?_
      refine go ?_
      cases oi h
      exact ⟨⟨rfl, rfl, rfl, trivial⟩, hS5.pick [0] rfl rfl⟩
    replace h := bcF h hc12
    refine go ?_
    cases oi h
    exact ⟨⟨rfl, rfl, rfl, trivial⟩, hS5.pick [0] rfl rfl⟩
  intro e w31 hS6
  have h := h11
  refine go ?_
  refine cd (fun hc32 => ?_) fun hc32 => ?_
  · replace h := bcT h hc32
    refine go ?_
    replace h := Option.some.inj h
    subst h
    exact And.intro trivial ⟨_, Res.two (resOne.t rfl) (resOne.t rfl), rfl, hS6.pick [0] rfl rfl⟩
  replace h := bcF h hc32
  refine go ?_
  replace h := Option.some.inj h
  subst h
  exact And.intro trivial ⟨_, Res.two (resOne.t rfl) (resOne.t rfl), rfl, hS6.pick [0] rfl rfl⟩

theorem W_i_World_post {w0 : World} {F : List Nat} {N : Nat} {x0 : DWorld} {x1 : Int} {x2 : Int} {x3 : DCall} {r : Int × DWorld} (h : F_i_World_post N x0 x1 x2 x3 = some r) {g0 : Nat} {a0_1 : Option Addr} {c0_1 : Nat} (hS : St w0 F w0 [bx g0 59 [.int .i64 x0.now, .slice a0_1 x0.parts.length c0_1], sl a0_1 c0_1 x0.parts]) :
    Ret Try.prog 94 #[.pointer (some ⟨g0, 0, none⟩), .int .i64 x1, .int .i64 x2, .agg #[.int .i64 x3.kind, .int .i64 x3.a, .int .i64 x3.b, .int .i64 x3.c, .int .i64 x3.d, .int .i64 x3.e]] w0 (fun v w => ∃ ab0_1 cb0_1, v = .int .i64 r.1 ∧ St w0 F w [bx g0 59 [.int .i64 r.2.now, .slice ab0_1 r.2.parts.length cb0_1], sl ab0_1 cb0_1 r.2.parts]) := by
  unfold F_i_World_post at h
  refine Ret.fn Try.func94 fun e => ?_
  refine go ?_
  refine LW.bo hS fun g1 w2 hS1 => ?_
  refine go ?_
  replace ⟨y3, hy3, h⟩ := obind h
  refine LW.c0 (W_i_within hy3) hS1 fun w4 hS2 => ?_
  refine go ?_
  refine cd (fun hc5 => ?_) fun hc5 => ?_
  · replace h := bcT h hc5
    refine go ?_
    replace h := Option.some.inj h
    subst h
    exact And.intro trivial ⟨_, Res.one (resOne.t rfl), a0_1, c0_1, rfl, hS2.pick [1, 2] rfl rfl⟩
  replace h := bcF h hc5
  refine go ?_
  refine LW.u (Pur.nc rfl) rfl ?_
  refine go ?_
  replace ⟨y6, hy6, h⟩ := obind h
  refine LW.c0 (W_i_mayFlow hy6 rfl (hS2.rI 2 rfl)) hS2 fun w7 hS3 => ?_
  refine go ?_
  refine CW.fl [0, 2, 7, 23] fun e => ?_
  refine cd (fun hc8 => ?_) fun hc8 => ?_
  · replace h := bcT h hc8
    refine go ?_
    replace h := Option.some.inj h
    subst h
    exact And.intro trivial ⟨_, Res.one (resOne.t rfl), a0_1, c0_1, rfl, hS3.pick [1, 2] rfl rfl⟩
  replace h := bcF h hc8
  refine go ?_
  refine LW.u (Pur.nc rfl) rfl ?_
  refine go ?_
  replace ⟨y9, hy9, h⟩ := obind h
  obtain ⟨b12, o13, hae, hp10, hq11⟩ := hS3.ownIdx (α := DPart) (i := 2) rfl hy9
  subst hae
  refine LW.u (Pur.ix Try.underlying57 sz40 rfl rfl hp10 hq11) rfl ?_
  refine go ?_
  refine LW.u (Pur.nc rfl) rfl ?_
  refine go ?_
  obtain ⟨F14, ho15, hS4⟩ := hS3.freeze (α := DPart) 2 rfl
  obtain ⟨b16, o17, cs18, hae, hb21, _, _, hd19, hk20⟩ := ho15.rdF.idx hy9
  cases hae
  obtain ⟨a22, c23, a25, c26, a28, c29, a31, c32, a34, c35, a37, c38, rfl, hr24, hr27, hr30, hr33, hr36, hr39⟩ := hd19
  refine LW.l (Ldr.old w7 ag33 rfl (hk20 3 _ rfl)) (hS4.zC 2 rfl hb21) rfl ?_
  refine go ?_
  refine CW.draw (by kernel_rfl) ?_
  have hS5 := hS4.drew
  refine go ?_
  replace ⟨y40, hy40, h⟩ := obind h
  have q := W_i_GoodSlot (w0 := w7.drew) hy40 rfl (hS5.rZ 2 rfl hr33)
  refine AW.one (i := 8) (by kernel_rfl) ?_
  refine ⟨_, rfl, ?_⟩
  refine LW.call pl106 rfl rfl ?_
  refine Ret.mono q ?_
  rintro _ w41 ⟨rfl, hs⟩
  have hS6 := hS5.add hs
  refine LW.nil ⟨rfl, (.w (by kernel_rfl) (.w (by kernel_rfl) Kept.n)), ?_⟩
  refine gs ?_
  obtain ⟨j42, hj42, h43⟩ := obind h
  refine CW.jn [0, 7, 9, 10, 11] [0, 1, 2] [(62, .bool j42)] hS6 (h1 := ?_) (h2 := ?_)
  · have h := hj42
    refine go ?_
    rcases bcases (decide (y40 ≥ 0)) with hc44 | hc44
    · replace h := bcT h hc44
      refine go ?_
      replace ⟨y45, hy45, h⟩ := obind h
      obtain ⟨b48, o49, cs50, hae, hb53, hp46, hq47, hd51, hk52⟩ := hr33.idx hy45
      subst hae
      obtain ⟨a54, c55, a57, c58, a60, c61, rfl, hr56, hr59, hr62⟩ := hd51
      refine go ?_
      refine LW.u (Pur.ix Try.underlying33 sz84 rfl rfl hp46 hq47) rfl ?_
      refine go ?_
      refine LW.fl [0, 7, 9, 10, 11, 46, 50] fun e => ?_
      refine go ?_
      refine LW.l (Ldr.old w7 ag3 rfl (hk52 1 _ rfl)) (hS6.zC 2 rfl hb53) rfl ?_
      refine go ?_
      rcases bcases (y45.kind == 3) with hc63 | hc63
      · replace h := bcT h hc63
        refine go ?_
        refine LW.u (Pur.ix Try.underlying33 sz84 rfl rfl hp46 hq47) rfl ?_
        refine go ?_
        refine LW.l (Ldr.old w7 ag82 rfl (hk52 12 _ rfl)) (hS6.zC 2 rfl hb53) rfl ?_
        refine go ?_
        cases oi h
        exact ⟨⟨rfl, rfl, rfl, rfl, rfl, rfl, trivial⟩, hS6.pick [0, 1, 2] rfl rfl⟩
      replace h := bcF h hc63
      refine go ?_
      cases oi h
      exact ⟨⟨rfl, rfl, rfl, rfl, rfl, rfl, trivial⟩, hS6.pick [0, 1, 2] rfl rfl⟩
    replace h := bcF h hc44
    refine go ?_
    cases oi h
    exact ⟨⟨rfl, rfl, rfl, rfl, rfl, rfl, trivial⟩, hS6.pick [0, 1, 2] rfl rfl⟩
  intro e w64 hS7
  have h := h43
  refine go ?_
  refine CW.fl [0, 7, 9, 10, 11, 62] fun e => ?_
  refine cd (fun hc65 => ?_) fun hc65 => ?_
  · replace h := bcT h hc65
    refine CW.draw (by kernel_rfl) ?_
    have hS8 := hS7.drew
    refine go ?_
    replace ⟨y66, hy66, h⟩ := obind h
    obtain ⟨b69, o70, cs71, hae, hb74, hp67, hq68, hd72, hk73⟩ := hr33.idx hy66
    subst hae
    obtain ⟨a75, c76, a78, c79, a81, c82, rfl, hr77, hr80, hr83⟩ := hd72
    refine AW.u (i := 4) rfl (by kernel_rfl) rfl rfl (Pur.ix Try.underlying33 sz84 rfl rfl hp67 hq68) ?_
    refine go ?_
    refine AW.take (i := 6) rfl (by kernel_rfl) rfl rfl (Ldr.old w7 ag82 rfl (hk73 12 _ rfl)) (hS8.zC 2 rfl hb74) ?_
    refine go ?_
    refine AW.u (i := 9) rfl (by kernel_rfl) rfl rfl (Pur.build (vs := [(0, .int .i64 (-1)), (1, .int .i64 x3.b)]) (cs := #[.int .i64 (-1), .int .i64 x3.b]) rfl (by kernel_rfl)) ?_
    refine AW.one (i := 10) (by kernel_rfl) ?_
    refine ⟨_, rfl, ?_⟩
    refine LW.bsl (α := DMsg) (vs := [(0, .agg #[.int .i64 (-1), .int .i64 x3.b])]) (cs := #[.int .i64 (-1), .int .i64 x3.b]) (l := ([DMsg.mk (-1) x3.b] : List DMsg)) rfl (by kernel_rfl) rfl rfl rfl (fun w => ⟨[.int .i64 (-1), .int .i64 x3.b], [], [], [], rfl, rfl, ⟨rfl, rfl⟩, rfl⟩) hS8 rfl ?_
    intro a84 c85 w86 hS9 hf
    refine LW.nil ⟨rfl, (.c (St.cell (h := hS9) (i := 1) rfl) (.c (hS9.zC 3 rfl hb74) Kept.n)), ?_⟩
    have hn87 := fun (j : Nat) (u : Value) (hu : ([.slice a22 y9.label.levels.length c23, .slice a25 y9.own.length c26, .slice a28 y9.tree.length c29, .slice (some ⟨b69, o70, none⟩) y9.heap.arena.length c32, .int .i64 y9.heap.gc.phase, .int .i64 y9.heap.gc.pos, .int .i64 y9.heap.gc.round, .slice a34 y9.heap.gc.grey.length c35, .slice a37 y9.taps.length c38, .int .i64 y9.next, .int .i64 y9.want, .int .i64 y9.spent.pages, .int .i64 y9.spent.rent, .int .i64 y9.spent.cpu, .int .i64 y9.press, .int .i64 y9.lost] : List Value)[j]? = some u) => (World.cell?_of_block (hS9.zC 3 rfl hb21)).trans (hk20 j u hu)
    have hn88 := fun (j : Nat) (u : Value) (hu : ([.int .i64 y66.gen, .int .i64 y66.kind, .int .i64 y66.box, .int .i64 y66.res, .int .i64 y66.til, .int .i64 y66.pages, .int .i64 y66.wait, .int .i64 y66.got, .int .i64 y66.ran, .bool y66.mark, .slice a75 y66.links.length c76, .slice a78 y66.data.length c79, .slice a81 y66.queue.length c82] : List Value)[j]? = some u) => (World.cell?_of_block (hS9.zC 3 rfl hb74)).trans (hk73 j u hu)
    have hS10 := hS9.thaw (α := DPart) 3 rfl ho15
    obtain ⟨Fx89, ho90, hf91⟩ := hS10.focus (α := DPart) (cs := [.slice a22 y9.label.levels.length c23, .slice a25 y9.own.length c26, .slice a28 y9.tree.length c29, .slice (some ⟨b69, o70, none⟩) y9.heap.arena.length c32, .int .i64 y9.heap.gc.phase, .int .i64 y9.heap.gc.pos, .int .i64 y9.heap.gc.round, .slice a34 y9.heap.gc.grey.length c35, .slice a37 y9.taps.length c38, .int .i64 y9.next, .int .i64 y9.want, .int .i64 y9.spent.pages, .int .i64 y9.spent.rent, .int .i64 y9.spent.cpu, .int .i64 y9.press, .int .i64 y9.lost]) 3 rfl hy9 rfl hn87
    obtain ⟨a94, c95, a96, c97, a98, c99, a100, c101, a102, c103, a104, c105, hc92, hH93⟩ := ho90
    cases hc92
    have hS11 := hf91 [sl a22 c23 y9.label.levels, sl a25 c26 y9.own, sl a28 c29 y9.tree, sl (some ⟨b69, o70, none⟩) c32 y9.heap.arena, sl a34 c35 y9.heap.gc.grey, sl a37 c38 y9.taps] hH93
    obtain ⟨Fx106, ho107, hf108⟩ := hS11.focus (α := DObj) (cs := [.int .i64 y66.gen, .int .i64 y66.kind, .int .i64 y66.box, .int .i64 y66.res, .int .i64 y66.til, .int .i64 y66.pages, .int .i64 y66.wait, .int .i64 y66.got, .int .i64 y66.ran, .bool y66.mark, .slice a75 y66.links.length c76, .slice a78 y66.data.length c79, .slice a81 y66.queue.length c82]) 3 rfl hy66 rfl hn88
    obtain ⟨a111, c112, a113, c114, a115, c116, hc109, hH110⟩ := ho107
    cases hc109
    have hS12 := hf108 [sl a75 c76 y66.links, sl a78 c79 y66.data, sl a81 c82 y66.queue] hH110
    replace ⟨y117, hy117, h⟩ := obind h
    refine AW.one (i := 11) (by kernel_rfl) ?_
    refine ⟨_, rfl, ?_⟩
    refine LW.appN (l := y66.queue) (m := ([DMsg.mk (-1) x3.b] : List DMsg)) sT82 rfl rfl (hS12.rI 9 rfl) hy117 hS12 (i := 2) rfl rfl ?_
    intro a118 c119 w120 hS13 hf
    refine LW.nil ⟨rfl, (.c (St.cell (h := hS13) (i := 10) rfl) (.w (by kernel_rfl) Kept.n)), ?_⟩
    refine AW.u (i := 12) rfl (by kernel_rfl) rfl rfl (Pur.ix Try.underlying33 sz84 rfl rfl hp67 hq68) ?_
    refine go ?_
    refine AW.one (i := 14) (by kernel_rfl) ?_
    refine ⟨_, rfl, ?_⟩
    refine LW.sth (α := DObj) (vs := [.slice a118 y117.length c119]) hS13 6 rfl ag82 rfl (by show _ = o70 + (y40 : Int).toNat * 13 + 12; omega) rfl rfl rfl rfl ?_
    intro w121 hS14 hf
    refine LW.nil ⟨rfl, (.w (by kernel_rfl) (.w (by kernel_rfl) Kept.n)), ?_⟩
    refine go ?_
    replace h := Option.some.inj h
    subst h
    have hS15 := hS14.pick (M := [sl a75 c76 y66.links, sl a78 c79 y66.data, sl a118 c119 y117] ++ [sl a22 c23 y9.label.levels, sl a25 c26 y9.own, sl a28 c29 y9.tree, hole DObj (some ⟨b69, o70, none⟩) c32 y9.heap.arena (y40 : Int).toNat [.int .i64 y66.gen, .int .i64 y66.kind, .int .i64 y66.box, .int .i64 y66.res, .int .i64 y66.til, .int .i64 y66.pages, .int .i64 y66.wait, .int .i64 y66.got, .int .i64 y66.ran, .bool y66.mark, .slice a75 y66.links.length c76, .slice a78 y66.data.length c79, .slice a118 y117.length c119], sl a34 c35 y9.heap.gc.grey, sl a37 c38 y9.taps, sl a84 c85 ([DMsg.mk (-1) x3.b] : List DMsg), bx g1 67 [.int .i64 x3.kind, .int .i64 x3.a, .int .i64 x3.b, .int .i64 x3.c, .int .i64 x3.d, .int .i64 x3.e], bx g0 59 [.int .i64 x0.now, .slice (some ⟨b12, o13, none⟩) x0.parts.length c0_1], hole DPart (some ⟨b12, o13, none⟩) c0_1 x0.parts (x2 : Int).toNat [.slice a22 y9.label.levels.length c23, .slice a25 y9.own.length c26, .slice a28 y9.tree.length c29, .slice (some ⟨b69, o70, none⟩) y9.heap.arena.length c32, .int .i64 y9.heap.gc.phase, .int .i64 y9.heap.gc.pos, .int .i64 y9.heap.gc.round, .slice a34 y9.heap.gc.grey.length c35, .slice a37 y9.taps.length c38, .int .i64 y9.next, .int .i64 y9.want, .int .i64 y9.spent.pages, .int .i64 y9.spent.rent, .int .i64 y9.spent.cpu, .int .i64 y9.press, .int .i64 y9.lost]]) [0, 1, 2, 3, 4, 5, 6, 7, 8, 9, 10, 11, 12] rfl rfl
    have hS16 := hS15.unfocus (M := [sl a75 c76 y66.links, sl a78 c79 y66.data, sl a118 c119 y117]) (L := [sl a22 c23 y9.label.levels, sl a25 c26 y9.own, sl a28 c29 y9.tree, hole DObj (some ⟨b69, o70, none⟩) c32 y9.heap.arena (y40 : Int).toNat [.int .i64 y66.gen, .int .i64 y66.kind, .int .i64 y66.box, .int .i64 y66.res, .int .i64 y66.til, .int .i64 y66.pages, .int .i64 y66.wait, .int .i64 y66.got, .int .i64 y66.ran, .bool y66.mark, .slice a75 y66.links.length c76, .slice a78 y66.data.length c79, .slice a118 y117.length c119], sl a34 c35 y9.heap.gc.grey, sl a37 c38 y9.taps, sl a84 c85 ([DMsg.mk (-1) x3.b] : List DMsg), bx g1 67 [.int .i64 x3.kind, .int .i64 x3.a, .int .i64 x3.b, .int .i64 x3.c, .int .i64 x3.d, .int .i64 x3.e], bx g0 59 [.int .i64 x0.now, .slice (some ⟨b12, o13, none⟩) x0.parts.length c0_1], hole DPart (some ⟨b12, o13, none⟩) c0_1 x0.parts (x2 : Int).toNat [.slice a22 y9.label.levels.length c23, .slice a25 y9.own.length c26, .slice a28 y9.tree.length c29, .slice (some ⟨b69, o70, none⟩) y9.heap.arena.length c32, .int .i64 y9.heap.gc.phase, .int .i64 y9.heap.gc.pos, .int .i64 y9.heap.gc.round, .slice a34 y9.heap.gc.grey.length c35, .slice a37 y9.taps.length c38, .int .i64 y9.next, .int .i64 y9.want, .int .i64 y9.spent.pages, .int .i64 y9.spent.rent, .int .i64 y9.spent.cpu, .int .i64 y9.press, .int .i64 y9.lost]]) (y := (DObj.mk y66.gen y66.kind y66.box y66.res y66.til y66.pages y66.wait y66.got y66.ran y66.mark y66.links y66.data y117)) 3 rfl (fun w G hG => ⟨a75, c76, a78, c79, a118, c119, rfl, hG⟩)
    rw [show y9.heap.arena.length = (y9.heap.arena.set (y40 : Int).toNat (DObj.mk y66.gen y66.kind y66.box y66.res y66.til y66.pages y66.wait y66.got y66.ran y66.mark y66.links y66.data y117)).length from (len_set rfl)] at hS16
    have hS17 := hS16.pick (M := [sl a22 c23 y9.label.levels, sl a25 c26 y9.own, sl a28 c29 y9.tree, sl (some ⟨b69, o70, none⟩) c32 (y9.heap.arena.set (y40 : Int).toNat (DObj.mk y66.gen y66.kind y66.box y66.res y66.til y66.pages y66.wait y66.got y66.ran y66.mark y66.links y66.data y117)), sl a34 c35 y9.heap.gc.grey, sl a37 c38 y9.taps] ++ [sl a84 c85 ([DMsg.mk (-1) x3.b] : List DMsg), bx g1 67 [.int .i64 x3.kind, .int .i64 x3.a, .int .i64 x3.b, .int .i64 x3.c, .int .i64 x3.d, .int .i64 x3.e], bx g0 59 [.int .i64 x0.now, .slice (some ⟨b12, o13, none⟩) x0.parts.length c0_1], hole DPart (some ⟨b12, o13, none⟩) c0_1 x0.parts (x2 : Int).toNat [.slice a22 y9.label.levels.length c23, .slice a25 y9.own.length c26, .slice a28 y9.tree.length c29, .slice (some ⟨b69, o70, none⟩) ((y9.heap.arena.set (y40 : Int).toNat (DObj.mk y66.gen y66.kind y66.box y66.res y66.til y66.pages y66.wait y66.got y66.ran y66.mark y66.links y66.data y117)).length) c32, .int .i64 y9.heap.gc.phase, .int .i64 y9.heap.gc.pos, .int .i64 y9.heap.gc.round, .slice a34 y9.heap.gc.grey.length c35, .slice a37 y9.taps.length c38, .int .i64 y9.next, .int .i64 y9.want, .int .i64 y9.spent.pages, .int .i64 y9.spent.rent, .int .i64 y9.spent.cpu, .int .i64 y9.press, .int .i64 y9.lost]]) [0, 1, 2, 3, 4, 5, 6, 7, 8, 9] rfl rfl
    have hS18 := hS17.unfocus (M := [sl a22 c23 y9.label.levels, sl a25 c26 y9.own, sl a28 c29 y9.tree, sl (some ⟨b69, o70, none⟩) c32 (y9.heap.arena.set (y40 : Int).toNat (DObj.mk y66.gen y66.kind y66.box y66.res y66.til y66.pages y66.wait y66.got y66.ran y66.mark y66.links y66.data y117)), sl a34 c35 y9.heap.gc.grey, sl a37 c38 y9.taps]) (L := [sl a84 c85 ([DMsg.mk (-1) x3.b] : List DMsg), bx g1 67 [.int .i64 x3.kind, .int .i64 x3.a, .int .i64 x3.b, .int .i64 x3.c, .int .i64 x3.d, .int .i64 x3.e], bx g0 59 [.int .i64 x0.now, .slice (some ⟨b12, o13, none⟩) x0.parts.length c0_1], hole DPart (some ⟨b12, o13, none⟩) c0_1 x0.parts (x2 : Int).toNat [.slice a22 y9.label.levels.length c23, .slice a25 y9.own.length c26, .slice a28 y9.tree.length c29, .slice (some ⟨b69, o70, none⟩) ((y9.heap.arena.set (y40 : Int).toNat (DObj.mk y66.gen y66.kind y66.box y66.res y66.til y66.pages y66.wait y66.got y66.ran y66.mark y66.links y66.data y117)).length) c32, .int .i64 y9.heap.gc.phase, .int .i64 y9.heap.gc.pos, .int .i64 y9.heap.gc.round, .slice a34 y9.heap.gc.grey.length c35, .slice a37 y9.taps.length c38, .int .i64 y9.next, .int .i64 y9.want, .int .i64 y9.spent.pages, .int .i64 y9.spent.rent, .int .i64 y9.spent.cpu, .int .i64 y9.press, .int .i64 y9.lost]]) (y := (DPart.mk y9.label y9.own y9.tree (DHeap.mk (y9.heap.arena.set (y40 : Int).toNat (DObj.mk y66.gen y66.kind y66.box y66.res y66.til y66.pages y66.wait y66.got y66.ran y66.mark y66.links y66.data y117)) y9.heap.gc) y9.taps y9.next y9.want y9.spent y9.press y9.lost)) 3 rfl (fun w G hG => ⟨a22, c23, a25, c26, a28, c29, (some ⟨b69, o70, none⟩), c32, a34, c35, a37, c38, rfl, hG⟩)
    rw [show x0.parts.length = (x0.parts.set (x2 : Int).toNat (DPart.mk y9.label y9.own y9.tree (DHeap.mk (y9.heap.arena.set (y40 : Int).toNat (DObj.mk y66.gen y66.kind y66.box y66.res y66.til y66.pages y66.wait y66.got y66.ran y66.mark y66.links y66.data y117)) y9.heap.gc) y9.taps y9.next y9.want y9.spent y9.press y9.lost)).length from (len_set rfl)] at hS18
    exact And.intro trivial ⟨_, Res.one (resOne.t rfl), (some ⟨b12, o13, none⟩), c0_1, rfl, hS18.pick [2, 3] rfl rfl⟩
  replace h := bcF h hc65
  refine go ?_
  refine LW.u (Pur.nc rfl) rfl ?_
  refine go ?_
  refine LW.l (Ldr.old w7 ag3 rfl (hk20 15 _ rfl)) (hS7.zC 2 rfl hb21) rfl ?_
  refine go ?_
  refine LW.u (Pur.min rfl rfl) rfl ?_
  refine LW.u (Pur.nc rfl) rfl ?_
  refine go ?_
  have hS19 := hS7.thaw (α := DPart) 2 rfl ho15
  replace ⟨y122, hy122, h⟩ := obind h
  refine LW.stE (M := []) (L := [bx g1 67 [.int .i64 x3.kind, .int .i64 x3.a, .int .i64 x3.b, .int .i64 x3.c, .int .i64 x3.d, .int .i64 x3.e], bx g0 59 [.int .i64 x0.now, .slice (some ⟨b12, o13, none⟩) x0.parts.length c0_1], sl (some ⟨b12, o13, none⟩) c0_1 x0.parts]) (z := y9) (z' := (DPart.mk y9.label y9.own y9.tree y9.heap y9.taps y9.next y9.want y9.spent y9.press (if 1000000 < IntKind.i64.wrap (y9.lost + 1) then 1000000 else IntKind.i64.wrap (y9.lost + 1)))) (o := 15) hS19 (i := 2) rfl hy9 ag3 rfl (by show _ = o13 + (x2 : Int).toNat * 16 + 15; omega) rfl rfl rfl rfl (leafF (fun w cs F hF => by obtain ⟨q0, r0, q1, r1, q2, r2, q3, r3, q4, r4, q5, r5, rfl, hH⟩ := hF; exact ⟨q0, r0, q1, r1, q2, r2, q3, r3, q4, r4, q5, r5, rfl, hH⟩)) ?_
  intro w123 hS20 hf
  rw [Option.some.inj hy122] at hS20
  refine go ?_
  replace h := Option.some.inj h
  subst h
  rw [show x0.parts.length = y122.length from (len_set (Option.some.inj hy122))] at hS20
  exact And.intro trivial ⟨_, Res.one (resOne.t rfl), (some ⟨b12, o13, none⟩), c0_1, rfl, hS20.pick [1, 2] rfl rfl⟩

theorem W_i_TreeGive {w0 : World} {N : Nat} {x0 : List DRes} {x1 : Int} {x2 : Int} {x3 : DAmt} {r : (List DRes) × Bool} (h : F_i_TreeGive N x0 x1 x2 x3 = some r) {a0_0 : Option Addr} {n0_0 c0_0 : Nat} (hn0_0 : n0_0 = x0.length) (hr0_0 : rdS (Bor w0 []) w0 a0_0 c0_0 x0) :
    Ret Try.prog 129 #[.slice a0_0 n0_0 c0_0, .int .i64 x1, .int .i64 x2, .agg #[.int .i64 x3.pages, .int .i64 x3.rent, .int .i64 x3.cpu]] w0 (fun v w => ∃ ar0 cr0, v = .tuple #[.slice ar0 r.1.length cr0, .bool r.2] ∧ St w0 [] w [sl ar0 cr0 r.1]) := by
  subst hn0_0
  unfold F_i_TreeGive at h
  refine Ret.fn Try.func129 fun e => ?_
  have hS1 := St.start w0
  refine go ?_
  refine LW.bo hS1 fun g1 w2 hS2 => ?_
  refine go ?_
  replace ⟨y3, hy3, h⟩ := obind h
  refine LW.cl (W_i_TreePay hy3 rfl (hS2.rB hr0_0)) ?_
  rintro _ w6 ⟨a4, c5, rfl, hs⟩
  have hS3 := hS2.add hs
  refine gs ?_
  obtain ⟨j7, hj7, h8⟩ := obind h
  refine CW.jn [0, 2, 7, 10] [0, 1] [(26, .bool j7)] hS3 (h1 := ?_) (h2 := ?_)
  · have h := hj7
    refine go ?_
    rcases bcases (!y3.2) with hc9 | hc9
    · replace h := bcT h hc9
      refine go ?_
      cases oi h
      exact ⟨⟨rfl, rfl, rfl, rfl, rfl, trivial⟩, hS3.pick [0, 1] rfl rfl⟩
    replace h := bcF h hc9
    refine go ?_
    replace ⟨y10, hy10, h⟩ := obind h
    refine go ?_
    refine LW.c0 (W_i_isLive hy10 rfl (hS3.rB hr0_0)) hS3 fun w11 hS4 => ?_
    refine go ?_
    cases oi h
    exact ⟨⟨rfl, rfl, rfl, rfl, rfl, trivial⟩, hS4.pick [0, 1] rfl rfl⟩
  intro e w12 hS5
  have h := h8
  refine go ?_
  refine cd (fun hc13 => ?_) fun hc13 => ?_
  · replace h := bcT h hc13
    refine go ?_
    replace ⟨y14, hy14, h⟩ := obind h
    refine LW.cl (W_i_copyTree hy14 rfl (hS5.rB hr0_0)) ?_
    rintro _ w17 ⟨a15, c16, rfl, hs⟩
    have hS6 := hS5.add hs
    refine go ?_
    cases h
    exact And.intro trivial ⟨_, Res.two (resOne.t rfl) (resOne.t rfl), a15, c16, rfl, hS6.pick [0] rfl rfl⟩
  replace h := bcF h hc13
  refine go ?_
  replace ⟨y18, hy18, h⟩ := obind h
  refine LW.cl (W_i_TreeBack hy18 rfl (hS5.rI 0 rfl)) ?_
  rintro _ w21 ⟨a19, c20, rfl, hs⟩
  have hS7 := hS5.add hs
  refine go ?_
  cases h
  exact And.intro trivial ⟨_, Res.two (resOne.t rfl) (resOne.t rfl), a19, c20, rfl, hS7.pick [0] rfl rfl⟩

theorem W_i_caller_self {w0 : World} {F : List Nat} {N : Nat} {x0 : DCaller} {x1 : Int} {r : Int × Int × DCaller} (h : F_i_caller_self N x0 x1 = some r) {g0 : Nat} {a0_0 : Option Addr} {c0_0 : Nat} (hr0_0 : rdS (Bor w0 F) w0 a0_0 c0_0 x0.part.label.levels) {a0_1 : Option Addr} {c0_1 : Nat} (hr0_1 : rdS (Bor w0 F) w0 a0_1 c0_1 x0.part.own) {a0_2 : Option Addr} {c0_2 : Nat} (hr0_2 : rdS (Bor w0 F) w0 a0_2 c0_2 x0.part.tree) {a0_3 : Option Addr} {c0_3 : Nat} (hr0_3 : rdS (Bor w0 F) w0 a0_3 c0_3 x0.part.heap.arena) {a0_7 : Option Addr} {c0_7 : Nat} (hr0_7 : rdS (Bor w0 F) w0 a0_7 c0_7 x0.part.heap.gc.grey) {a0_8 : Option Addr} {c0_8 : Nat} (hr0_8 : rdS (Bor w0 F) w0 a0_8 c0_8 x0.part.taps) (hS : St w0 F w0 [bx g0 140 [.slice a0_0 x0.part.label.levels.length c0_0, .slice a0_1 x0.part.own.length c0_1, .slice a0_2 x0.part.tree.length c0_2, .slice a0_3 x0.part.heap.arena.length c0_3, .int .i64 x0.part.heap.gc.phase, .int .i64 x0.part.heap.gc.pos, .int .i64 x0.part.heap.gc.round, .slice a0_7 x0.part.heap.gc.grey.length c0_7, .slice a0_8 x0.part.taps.length c0_8, .int .i64 x0.part.next, .int .i64 x0.part.want, .int .i64 x0.part.spent.pages, .int .i64 x0.part.spent.rent, .int .i64 x0.part.spent.cpu, .int .i64 x0.part.press, .int .i64 x0.part.lost, .int .i64 x0.me, .int .i64 x0.now, .int .i64 x0.thread]]) :
    Ret Try.prog 122 #[.pointer (some ⟨g0, 0, none⟩), .int .i64 x1] w0 (fun v w => v = .tuple #[.int .i64 r.1, .int .i64 r.2.1] ∧ St w0 F w [bx g0 140 [.slice a0_0 x0.part.label.levels.length c0_0, .slice a0_1 x0.part.own.length c0_1, .slice a0_2 x0.part.tree.length c0_2, .slice a0_3 x0.part.heap.arena.length c0_3, .int .i64 r.2.2.part.heap.gc.phase, .int .i64 r.2.2.part.heap.gc.pos, .int .i64 r.2.2.part.heap.gc.round, .slice a0_7 x0.part.heap.gc.grey.length c0_7, .slice a0_8 x0.part.taps.length c0_8, .int .i64 r.2.2.part.next, .int .i64 r.2.2.part.want, .int .i64 r.2.2.part.spent.pages, .int .i64 r.2.2.part.spent.rent, .int .i64 r.2.2.part.spent.cpu, .int .i64 r.2.2.part.press, .int .i64 r.2.2.part.lost, .int .i64 r.2.2.me, .int .i64 r.2.2.now, .int .i64 r.2.2.thread]]) := by
  unfold F_i_caller_self at h
  refine Ret.fn Try.func122 fun e => ?_
  refine go ?_
  refine CW.draw (by kernel_rfl) ?_
  have hS1 := hS.drew
  refine go ?_
  replace ⟨y1, hy1, h⟩ := obind h
  obtain ⟨b4, o5, cs6, hae, hb9, hp2, hq3, hd7, hk8⟩ := hr0_3.idx hy1
  subst hae
  obtain ⟨a10, c11, a13, c14, a16, c17, rfl, hr12, hr15, hr18⟩ := hd7
  refine AW.u (i := 10) rfl (by kernel_rfl) rfl rfl (Pur.ix Try.underlying33 sz84 rfl rfl hp2 hq3) ?_
  refine AW.take (i := 11) rfl (by kernel_rfl) rfl rfl (Ldr.oldN w0 ag84 rfl rfl (fun j u hu => hk8 j u hu)) (hS1.same _ hb9.1 hb9.2) ?_
  refine AW.one (i := 12) (by kernel_rfl) ?_
  refine ⟨_, rfl, ?_⟩
  refine LW.al hS1 fun g19 w20 hS2 => ?_
  refine LW.nil ⟨rfl, (.c (hS2.same _ hb9.1 hb9.2) (.c (St.cell (h := hS2) (i := 1) rfl) (.c (St.cell (h := hS2) (i := 1) rfl) Kept.n))), ?_⟩
  refine AW.one (i := 13) (by kernel_rfl) ?_
  refine ⟨_, rfl, ?_⟩
  refine LW.st hS2 0 fun w21 hS3 => ?_
  refine LW.nil ⟨rfl, (.w (by kernel_rfl) (.w (by kernel_rfl) (.w (by kernel_rfl) Kept.n))), ?_⟩
  refine go ?_
  refine cd (fun hc22 => ?_) fun hc22 => ?_
  · replace h := bcT h hc22
    refine go ?_
    refine CW.draw (by kernel_rfl) ?_
    have hS4 := hS3.drew
    refine go ?_
    replace h := Option.some.inj h
    subst h
    exact And.intro trivial ⟨_, Res.two (resOne.t rfl) (resOne.t rfl), rfl, hS4.pick [1] rfl rfl⟩
  replace h := bcF h hc22
  refine go ?_
  refine cd (fun hc23 => ?_) fun hc23 => ?_
  · replace h := bcT h hc23
    refine go ?_
    refine CW.draw (by kernel_rfl) ?_
    have hS5 := hS3.drew
    refine go ?_
    replace h := Option.some.inj h
    subst h
    exact And.intro trivial ⟨_, Res.two (resOne.t rfl) (resOne.t rfl), rfl, hS5.pick [1] rfl rfl⟩
  replace h := bcF h hc23
  refine gs ?_
  refine CW.region ?_
  refine gs ?_
  obtain ⟨j24, hj24, h25⟩ := obind h
  refine CW.jn [0, 1] [1] [(28, .bool j24)] hS3 (h1 := ?_) (h2 := ?_)
  · have h := hj24
    refine cd (fun hc26 => ?_) fun hc26 => ?_
    · replace h := bcT h hc26
      refine go ?_
      cases oi h
      exact ⟨⟨rfl, rfl, rfl, trivial⟩, hS3.pick [1] rfl rfl⟩
    replace h := bcF h hc26
    refine go ?_
    refine cd (fun hc27 => ?_) fun hc27 => ?_
    · replace h := bcT h hc27
      refine go ?_
      cases oi h
      exact ⟨⟨rfl, rfl, rfl, trivial⟩, hS3.pick [1] rfl rfl⟩
    replace h := bcF h hc27
    refine go ?_
    cases oi h
    exact ⟨⟨rfl, rfl, rfl, trivial⟩, hS3.pick [1] rfl rfl⟩
  intro e w28 hS6
  have h := h25
  refine go ?_
  refine cd (fun hc29 => ?_) fun hc29 => ?_
  · replace h := bcT h hc29
    refine go ?_
    refine CW.draw (by kernel_rfl) ?_
    have hS7 := hS6.drew
    refine go ?_
    replace ⟨y30, hy30, h⟩ := obind h
    have q := W_i_balOf (w0 := w28.drew) hy30 rfl (hS7.rB hr0_0) rfl (hS7.rB hr0_1) rfl (hS7.rB hr0_2) rfl (hS7.rB hr0_3) rfl (hS7.rB hr0_7) rfl (hS7.rB hr0_8)
    refine AW.one (i := 8) (by kernel_rfl) ?_
    refine ⟨_, rfl, ?_⟩
    refine LW.call pl63 rfl rfl ?_
    refine Ret.mono q ?_
    rintro _ w31 ⟨rfl, hs⟩
    have hS8 := hS7.add hs
    refine LW.nil ⟨rfl, (.w (by kernel_rfl) (.w (by kernel_rfl) Kept.n)), ?_⟩
    replace ⟨y32, hy32, h⟩ := obind h
    have q := W_i_AmtPart (w0 := w31) hy32
    refine AW.one (i := 11) (by kernel_rfl) ?_
    refine ⟨_, rfl, ?_⟩
    refine LW.call pl132 rfl rfl ?_
    refine Ret.mono q ?_
    rintro _ w33 ⟨rfl, hs⟩
    have hS9 := hS8.add hs
    refine LW.nil ⟨rfl, (.c (St.cell (h := hS9) (i := 0) rfl) (.c (St.cell (h := hS9) (i := 0) rfl) Kept.n)), ?_⟩
    refine go ?_
    replace h := Option.some.inj h
    subst h
    exact And.intro trivial ⟨_, Res.two (resOne.t rfl) (resOne.t rfl), rfl, hS9.pick [0] rfl rfl⟩
  replace h := bcF h hc29
  refine go ?_
  replace h := Option.some.inj h
  subst h
  exact And.intro trivial ⟨_, Res.two (resOne.t rfl) (resOne.t rfl), rfl, hS6.pick [0] rfl rfl⟩

theorem W_i_WorldNew {w0 : World} {N : Nat} {x0 : List DBoot} {r : DWorld} (h : F_i_WorldNew N x0 = some r) {a0_0 : Option Addr} {n0_0 c0_0 : Nat} (hn0_0 : n0_0 = x0.length) (hr0_0 : rdS (Bor w0 []) w0 a0_0 c0_0 x0) :
    Ret Try.prog 23 #[.slice a0_0 n0_0 c0_0] w0 (fun v w => ∃ ar0_1 cr0_1, v = .agg #[.int .i64 r.now, .slice ar0_1 r.parts.length cr0_1] ∧ St w0 [] w [sl ar0_1 cr0_1 r.parts]) := by
  subst hn0_0
  unfold F_i_WorldNew at h
  refine Ret.fn Try.func23 fun e => ?_
  have hS1 := St.start w0
  refine go ?_
  refine LW.al hS1 fun g1 w2 hS2 => ?_
  refine go ?_
  refine LW.u (Pur.build (vs := []) (cs := #[.int .i64 0, .slice none 0 0]) rfl (by kernel_rfl)) rfl ?_
  refine LW.al hS2 fun g3 w4 hS3 => ?_
  refine LW.st hS3 0 fun w5 hS4 => ?_
  refine go ?_
  replace ⟨y6, hy6, h⟩ := obind h
  refine LW.c0 (W_i_BootOk hy6 rfl (hS4.rB hr0_0)) hS4 fun w7 hS5 => ?_
  refine go ?_
  refine cd (fun hc8 => ?_) fun hc8 => ?_
  · replace h := bcT h hc8
    refine go ?_
    refine LW.st hS5 1 fun w9 hS6 => ?_
    refine go ?_
    cases h
    have hS7 := hS6.nil (α := DPart)
    exact And.intro trivial ⟨_, Res.one (resOne.b hS7 2 rfl ag59 rfl rfl), none, 0, rfl, hS7.pick [0] rfl rfl⟩
  replace h := bcF h hc8
  refine go ?_
  have hS8 := hS5.nil (α := DPart)
  obtain ⟨o54, ho54, h55⟩ := obind h
  refine CW.mono (CW.iter (σ := Int × (List DPart)) (ρ := Int × (List DPart)) (fun s10 e wb => ∃ (s10a0 : Option Addr), ∃ (s10c0 : Nat), En e [(2, .pointer (some ⟨g1, 0, none⟩)), (3, .pointer (some ⟨g3, 0, none⟩)), (13, .slice a0_0 x0.length c0_0), (14, .int .i64 (x0.length : Int)), (15, .int .i64 s10.1)] ∧ St w0 [] wb [bx g3 59 [.int .i64 0, .slice s10a0 s10.2.length s10c0], bx g1 59 [.int .i64 0, .slice none 0 0], sl s10a0 s10c0 s10.2]) (fun s10 x e wb => x = .exit 0 ∧ ∃ (s10a0 : Option Addr), ∃ (s10c0 : Nat), En e [(2, .pointer (some ⟨g1, 0, none⟩)), (3, .pointer (some ⟨g3, 0, none⟩))] ∧ St w0 [] wb [bx g3 59 [.int .i64 0, .slice s10a0 s10.2.length s10c0], bx g1 59 [.int .i64 0, .slice none 0 0], sl s10a0 s10c0 s10.2]) ?_ N (0, []) _ _ _ ⟨none, 0, ⟨rfl, rfl, rfl, rfl, rfl, trivial⟩, hS8.pick [1, 2, 0] rfl rfl⟩ ho54) ?_
  · intro s10 e w11 o hM h
    obtain ⟨s10a0, s10c0, hE, hS9⟩ := hM
    obtain ⟨e, rfl⟩ := hE.out
    refine go ?_
    refine cd (fun hc12 => ?_) fun hc12 => ?_
    · replace h := bcT h hc12
      refine go ?_
      replace ⟨y13, hy13, h⟩ := obind h
      obtain ⟨b16, o17, cs18, hae, hb21, hp14, hq15, hd19, hk20⟩ := hr0_0.idx hy13
      subst hae
      obtain ⟨a22, c23, a25, c26, rfl, hr24, hr27⟩ := hd19
      refine LW.u (Pur.ix Try.underlying54 sz30 rfl rfl hp14 hq15) rfl ?_
      refine LW.l (Ldr.oldN w0 ag30 rfl rfl (fun j u hu => hk20 j u hu)) (hS9.same _ hb21.1 hb21.2) rfl ?_
      refine LW.al hS9 fun g28 w29 hS10 => ?_
      refine LW.st hS10 0 fun w30 hS11 => ?_
      refine go ?_
      replace ⟨y31, hy31, h⟩ := obind h
      refine LW.cl (W_i_PartNew hy31 rfl (hS11.rB hr24) rfl (hS11.rB hr27)) ?_
      rintro _ w44 ⟨a32, c33, a34, c35, a36, c37, a38, c39, a40, c41, a42, c43, rfl, hs⟩
      have hS12 := hS11.add hs
      refine go ?_
      refine LW.al hS12 fun g45 w46 hS13 => ?_
      refine LW.st hS13 0 fun w47 hS14 => ?_
      refine go ?_
      refine LW.fl [2, 3, 13, 14, 15, 25, 26] fun e => ?_
      have hS15 := hS14.pick (M := [sl a32 c33 y31.1.label.levels, sl a34 c35 y31.1.own, sl a36 c37 y31.1.tree, sl a38 c39 y31.1.heap.arena, sl a40 c41 y31.1.heap.gc.grey, sl a42 c43 y31.1.taps] ++ [bx g45 40 [.slice a32 y31.1.label.levels.length c33, .slice a34 y31.1.own.length c35, .slice a36 y31.1.tree.length c37, .slice a38 y31.1.heap.arena.length c39, .int .i64 y31.1.heap.gc.phase, .int .i64 y31.1.heap.gc.pos, .int .i64 y31.1.heap.gc.round, .slice a40 y31.1.heap.gc.grey.length c41, .slice a42 y31.1.taps.length c43, .int .i64 y31.1.next, .int .i64 y31.1.want, .int .i64 y31.1.spent.pages, .int .i64 y31.1.spent.rent, .int .i64 y31.1.spent.cpu, .int .i64 y31.1.press, .int .i64 y31.1.lost], bx g28 30 [.slice a22 y13.label.levels.length c23, .slice a25 y13.own.length c26, .int .i64 y13.amt.pages, .int .i64 y13.amt.rent, .int .i64 y13.amt.cpu], bx g3 59 [.int .i64 0, .slice s10a0 s10.2.length s10c0], bx g1 59 [.int .i64 0, .slice none 0 0], sl s10a0 s10c0 s10.2]) [1, 2, 3, 4, 5, 6, 0, 7, 8, 9, 10] rfl rfl
      replace ⟨y48, hy48, h⟩ := obind h
      refine LW.app1 (M := [sl a32 c33 y31.1.label.levels, sl a34 c35 y31.1.own, sl a36 c37 y31.1.tree, sl a38 c39 y31.1.heap.arena, sl a40 c41 y31.1.heap.gc.grey, sl a42 c43 y31.1.taps]) (L := [bx g45 40 [.slice a32 y31.1.label.levels.length c33, .slice a34 y31.1.own.length c35, .slice a36 y31.1.tree.length c37, .slice a38 y31.1.heap.arena.length c39, .int .i64 y31.1.heap.gc.phase, .int .i64 y31.1.heap.gc.pos, .int .i64 y31.1.heap.gc.round, .slice a40 y31.1.heap.gc.grey.length c41, .slice a42 y31.1.taps.length c43, .int .i64 y31.1.next, .int .i64 y31.1.want, .int .i64 y31.1.spent.pages, .int .i64 y31.1.spent.rent, .int .i64 y31.1.spent.cpu, .int .i64 y31.1.press, .int .i64 y31.1.lost], bx g28 30 [.slice a22 y13.label.levels.length c23, .slice a25 y13.own.length c26, .int .i64 y13.amt.pages, .int .i64 y13.amt.rent, .int .i64 y13.amt.cpu], bx g3 59 [.int .i64 0, .slice s10a0 s10.2.length s10c0], bx g1 59 [.int .i64 0, .slice none 0 0], sl s10a0 s10c0 s10.2]) (vs := #[.slice a32 y31.1.label.levels.length c33, .slice a34 y31.1.own.length c35, .slice a36 y31.1.tree.length c37, .slice a38 y31.1.heap.arena.length c39, .int .i64 y31.1.heap.gc.phase, .int .i64 y31.1.heap.gc.pos, .int .i64 y31.1.heap.gc.round, .slice a40 y31.1.heap.gc.grey.length c41, .slice a42 y31.1.taps.length c43, .int .i64 y31.1.next, .int .i64 y31.1.want, .int .i64 y31.1.spent.pages, .int .i64 y31.1.spent.rent, .int .i64 y31.1.spent.cpu, .int .i64 y31.1.press, .int .i64 y31.1.lost]) (i := 4) sT57 rfl (by kernel_rfl) rfl rfl hy48 hS15 rfl (fun w G hG => ⟨a32, c33, a34, c35, a36, c37, a38, c39, a40, c41, a42, c43, rfl, hG⟩) rfl rfl ?_
      intro v51 a49 c50 w52 hS16 hf
      refine go ?_
      refine LW.st hS16 2 fun w53 hS17 => ?_
      refine go ?_
      cases oi h
      exact ⟨rfl, ⟨a49, c50, ⟨rfl, rfl, rfl, rfl, rfl, trivial⟩, hS17.pick [2, 3, 4] rfl rfl⟩⟩
    replace h := bcF h hc12
    refine go ?_
    cases oi h
    exact ⟨trivial, rfl, ⟨s10a0, s10c0, ⟨rfl, rfl, trivial⟩, hS9.pick [0, 1, 2] rfl rfl⟩⟩
  intro x e w56 hM
  obtain ⟨rfl, hM⟩ := hM
  obtain ⟨s10a0, s10c0, hE, hS18⟩ := hM
  obtain ⟨e, rfl⟩ := hE.out
  have h := h55
  refine go ?_
  refine LW.st hS18 1 fun w57 hS19 => ?_
  refine go ?_
  cases h
  exact And.intro trivial ⟨_, Res.one (resOne.b hS19 1 rfl ag59 rfl rfl), s10a0, s10c0, rfl, hS19.pick [2] rfl rfl⟩

end Go.Kx
