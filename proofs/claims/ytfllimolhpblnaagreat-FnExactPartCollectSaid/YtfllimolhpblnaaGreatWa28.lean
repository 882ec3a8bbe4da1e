/- Each call returns what the plain function says. Printed by drive.py. -/
import Derived.Test.YtfllimolhpblnaaGreatFa
import Derived.Test.YtfllimolhpblnaaGreatPu
import Derived.Test.YtfllimolhpblnaaGreatWa0
import Derived.Test.YtfllimolhpblnaaGreatWa1
import Derived.Test.YtfllimolhpblnaaGreatWa2
import Derived.Test.YtfllimolhpblnaaGreatWa4
import Derived.Test.YtfllimolhpblnaaGreatWa13
import Derived.Test.YtfllimolhpblnaaGreatWa16
import Derived.Test.YtfllimolhpblnaaGreatWa21
namespace Go.Kx
open Go Go.RowKit Go.Proofs
set_option maxRecDepth 10000
set_option maxHeartbeats 2000000
set_option linter.unusedVariables false
set_option linter.unusedSimpArgs false
theorem W_s_l10Shade {w0 : World} {F : List Nat} {N : Nat} {x0 : DHeap} {x1 : Int} {r : DHeap} (h : F_s_l10Shade N x0 x1 = some r) {a0_0 : Option Addr} {n0_0 c0_0 : Nat} (hn0_0 : n0_0 = x0.arena.length) {a0_4 : Option Addr} {n0_4 c0_4 : Nat} (hn0_4 : n0_4 = x0.gc.grey.length) (hS : St w0 F w0 [sl a0_0 c0_0 x0.arena, sl a0_4 c0_4 x0.gc.grey]) :
    Ret Tryz.prog 202 #[.agg #[.slice a0_0 n0_0 c0_0, .int .i64 x0.gc.phase, .int .i64 x0.gc.pos, .int .i64 x0.gc.round, .slice a0_4 n0_4 c0_4], .int .i64 x1] w0 (fun v w => ∃ ar0_0 cr0_0, ∃ ar0_4 cr0_4, v = .agg #[.slice ar0_0 r.arena.length cr0_0, .int .i64 r.gc.phase, .int .i64 r.gc.pos, .int .i64 r.gc.round, .slice ar0_4 r.gc.grey.length cr0_4] ∧ St w0 F w [sl ar0_0 cr0_0 r.arena, sl ar0_4 cr0_4 r.gc.grey]) := by
  subst hn0_0 hn0_4
  unfold F_s_l10Shade at h
  refine Ret.fn Tryz.func202 fun e => ?_
  refine go ?_
  refine LW.bo hS fun g1 w2 hS1 => ?_
  refine LW.al hS1 fun g3 w4 hS2 => ?_
  refine gs ?_
  obtain ⟨j5, hj5, h6⟩ := obind h
  refine CW.cut (fun e wb => En e [(1, .int .i64 x1), (2, .pointer (some ⟨g1, 0, none⟩)), (4, .pointer (some ⟨g3, 0, none⟩)), (26, .bool j5)] ∧ St w0 F wb [bx g3 62 [.slice none 0 0, .int .i64 0, .int .i64 0, .int .i64 0, .slice none 0 0], bx g1 62 [.slice a0_0 x0.arena.length c0_0, .int .i64 x0.gc.phase, .int .i64 x0.gc.pos, .int .i64 x0.gc.round, .slice a0_4 x0.gc.grey.length c0_4], sl a0_0 c0_0 x0.arena, sl a0_4 c0_4 x0.gc.grey]) ?_ ?_
  · have h := hj5
    refine go ?_
    rcases bcases (x0.gc.phase == 0) with hc7 | hc7
    · replace h := bcT h hc7
      refine go ?_
      replace ⟨y8, hy8, h⟩ := obind h
      obtain ⟨b11, o12, hae, hp9, hq10⟩ := hS2.ownIdx (α := DObj) (i := 2) rfl hy8
      subst hae
      refine go ?_
      refine LW.u (Pur.ix Tryz.underlying59 sz92 rfl rfl hp9 hq10) rfl ?_
      refine go ?_
      obtain ⟨F13, ho14, hS3⟩ := hS2.freeze (α := DObj) 2 rfl
      obtain ⟨b15, o16, cs17, hae, hb20, _, _, hd18, hk19⟩ := ho14.rdF.idx hy8
      cases hae
      obtain ⟨a21, c22, a24, c25, a27, c28, rfl, hr23, hr26, hr29⟩ := hd18
      refine go ?_
      refine LW.l (Ldr.old w4 ag3 rfl (hk19 1 _ rfl)) (hS3.zC 2 rfl hb20) rfl ?_
      refine go ?_
      rcases bcases (y8.kind != 0) with hc30 | hc30
      · replace h := bcT h hc30
        refine go ?_
        refine LW.u (Pur.ix Tryz.underlying59 sz92 rfl rfl hp9 hq10) rfl ?_
        refine go ?_
        refine LW.fl [1, 2, 4, 18, 23] fun e => ?_
        refine go ?_
        refine LW.l (Ldr.old w4 ag4 rfl (hk19 9 _ rfl)) (hS3.zC 2 rfl hb20) rfl ?_
        refine go ?_
        have hS4 := hS3.thaw (α := DObj) 2 rfl ho14
        cases oi h
        exact ⟨⟨rfl, rfl, rfl, rfl, trivial⟩, hS4.pick [0, 1, 2, 3] rfl rfl⟩
      replace h := bcF h hc30
      refine go ?_
      have hS5 := hS3.thaw (α := DObj) 2 rfl ho14
      cases oi h
      exact ⟨⟨rfl, rfl, rfl, rfl, trivial⟩, hS5.pick [0, 1, 2, 3] rfl rfl⟩
    replace h := bcF h hc7
    refine go ?_
    cases oi h
    exact ⟨⟨rfl, rfl, rfl, rfl, trivial⟩, hS2.pick [0, 1, 2, 3] rfl rfl⟩
  rintro e w31 ⟨hE, hS6⟩
  obtain ⟨e, rfl⟩ := hE.out
  have h := h6
  refine gs ?_
  obtain ⟨j32, hj32, h33⟩ := obind h
  refine CW.cut (fun e wb => ∃ (j32a0 : Option Addr), ∃ (j32c0 : Nat), En e [(2, .pointer (some ⟨g1, 0, none⟩)), (4, .pointer (some ⟨g3, 0, none⟩))] ∧ St w0 F wb [bx g3 62 [.slice none 0 0, .int .i64 0, .int .i64 0, .int .i64 0, .slice none 0 0], bx g1 62 [.slice a0_0 j32.1.length c0_0, .int .i64 x0.gc.phase, .int .i64 x0.gc.pos, .int .i64 x0.gc.round, .slice j32a0 j32.2.length j32c0], sl a0_0 c0_0 j32.1, sl j32a0 j32c0 j32.2]) ?_ ?_
  · have h := hj32
    refine CW.cond rfl (fun hc34 => ?_) (fun hc34 => ?_)
    · replace h := bcT h hc34
      refine go ?_
      replace ⟨y35, hy35, h⟩ := obind h
      obtain ⟨b38, o39, hae, hp36, hq37⟩ := hS6.ownIdx (α := DObj) (i := 2) rfl hy35
      subst hae
      refine LW.u (Pur.ix Tryz.underlying59 sz92 rfl rfl hp36 hq37) rfl ?_
      refine go ?_
      replace ⟨y40, hy40, h⟩ := obind h
      refine LW.stE (M := []) (L := [bx g3 62 [.slice none 0 0, .int .i64 0, .int .i64 0, .int .i64 0, .slice none 0 0], bx g1 62 [.slice (some ⟨b38, o39, none⟩) x0.arena.length c0_0, .int .i64 x0.gc.phase, .int .i64 x0.gc.pos, .int .i64 x0.gc.round, .slice a0_4 x0.gc.grey.length c0_4], sl (some ⟨b38, o39, none⟩) c0_0 x0.arena, sl a0_4 c0_4 x0.gc.grey]) (z := y35) (z' := (DObj.mk y35.gen y35.kind y35.box y35.res y35.til y35.pages y35.wait y35.got y35.ran true y35.links y35.data y35.queue)) (o := 9) hS6 (i := 2) rfl hy35 ag4 rfl (by show _ = o39 + (x1 : Int).toNat * 13 + 9; omega) rfl rfl rfl rfl (leafF (fun w cs F hF => by obtain ⟨q0, r0, q1, r1, q2, r2, rfl, hH⟩ := hF; exact ⟨q0, r0, q1, r1, q2, r2, rfl, hH⟩)) ?_
      intro w41 hS7 hf
      rw [Option.some.inj hy40] at hS7
      refine go ?_
      replace ⟨y42, hy42, h⟩ := obind h
      refine LW.c0 (W_s_l4Has hy42 rfl (hS7.rI 3 rfl)) hS7 fun w43 hS8 => ?_
      refine go ?_
      refine CW.fl [1, 2, 4, 37] fun e => ?_
      refine CW.cond rfl (fun hc44 => ?_) (fun hc44 => ?_)
      · replace h := bcT h hc44
        refine go ?_
        replace ⟨y45, hy45, h⟩ := obind h
        refine LW.app1 (M := []) (L := [bx g3 62 [.slice none 0 0, .int .i64 0, .int .i64 0, .int .i64 0, .slice none 0 0], bx g1 62 [.slice (some ⟨b38, o39, none⟩) x0.arena.length c0_0, .int .i64 x0.gc.phase, .int .i64 x0.gc.pos, .int .i64 x0.gc.round, .slice a0_4 x0.gc.grey.length c0_4], sl (some ⟨b38, o39, none⟩) c0_0 y40, sl a0_4 c0_4 x0.gc.grey]) (vs := #[.int .i64 x1]) (i := 3) sT28 rfl (by kernel_rfl) rfl rfl hy45 hS8 rfl (fun w G hG => by cases (show G = [] from hG); exact ⟨rfl, rfl⟩) rfl rfl ?_
        intro v48 a46 c47 w49 hS9 hf
        refine go ?_
        refine LW.st hS9 1 fun w50 hS10 => ?_
        refine go ?_
        rw [show x0.arena.length = y40.length from (len_set (Option.some.inj hy40))] at hS10
        cases oi h
        exact ⟨a46, c47, ⟨rfl, rfl, trivial⟩, hS10.pick [0, 1, 2, 3] rfl rfl⟩
      replace h := bcF h hc44
      refine go ?_
      rw [show x0.arena.length = y40.length from (len_set (Option.some.inj hy40))] at hS8
      cases oi h
      exact ⟨a0_4, c0_4, ⟨rfl, rfl, trivial⟩, hS8.pick [0, 1, 2, 3] rfl rfl⟩
    replace h := bcF h hc34
    refine go ?_
    cases oi h
    exact ⟨a0_4, c0_4, ⟨rfl, rfl, trivial⟩, hS6.pick [0, 1, 2, 3] rfl rfl⟩
  rintro e w51 ⟨j32a0, j32c0, hE, hS11⟩
  obtain ⟨e, rfl⟩ := hE.out
  have h := h33
  refine go ?_
  refine LW.st hS11 0 fun w52 hS12 => ?_
  refine go ?_
  cases h
  exact And.intro trivial ⟨_, Res.one (resOne.b hS12 0 rfl ag62 rfl rfl), a0_0, c0_0, j32a0, j32c0, rfl, hS12.pick [2, 3] rfl rfl⟩

theorem W_i_shade {w0 : World} {F : List Nat} {N : Nat} {x0 : DHeap} {x1 : Int} {r : DHeap} (h : F_i_shade N x0 x1 = some r) {g0 : Nat} {a0_0 : Option Addr} {c0_0 : Nat} {a0_4 : Option Addr} {c0_4 : Nat} (hS : St w0 F w0 [bx g0 62 [.slice a0_0 x0.arena.length c0_0, .int .i64 x0.gc.phase, .int .i64 x0.gc.pos, .int .i64 x0.gc.round, .slice a0_4 x0.gc.grey.length c0_4], sl a0_0 c0_0 x0.arena, sl a0_4 c0_4 x0.gc.grey]) :
    Ret Tryz.prog 173 #[.pointer (some ⟨g0, 0, none⟩), .int .i64 x1] w0 (fun v w => ∃ ab0_0 cb0_0, ∃ ab0_4 cb0_4, v = .tuple #[] ∧ St w0 F w [bx g0 62 [.slice ab0_0 r.arena.length cb0_0, .int .i64 r.gc.phase, .int .i64 r.gc.pos, .int .i64 r.gc.round, .slice ab0_4 r.gc.grey.length cb0_4], sl ab0_0 cb0_0 r.arena, sl ab0_4 cb0_4 r.gc.grey]) := by
  unfold F_i_shade at h
  refine Ret.fn Tryz.func173 fun e => ?_
  refine gs ?_
  obtain ⟨j1, hj1, h2⟩ := obind h
  refine CW.cut (fun e wb => En e [(0, .pointer (some ⟨g0, 0, none⟩)), (1, .int .i64 x1), (30, .bool j1)] ∧ St w0 F wb [bx g0 62 [.slice a0_0 x0.arena.length c0_0, .int .i64 x0.gc.phase, .int .i64 x0.gc.pos, .int .i64 x0.gc.round, .slice a0_4 x0.gc.grey.length c0_4], sl a0_0 c0_0 x0.arena, sl a0_4 c0_4 x0.gc.grey]) ?_ ?_
  · have h := hj1
    refine go ?_
    refine LW.u (Pur.nc rfl) rfl ?_
    refine go ?_
    rcases bcases (x0.gc.phase != 0) with hc3 | hc3
    · replace h := bcT h hc3
      refine go ?_
      cases oi h
      exact ⟨⟨rfl, rfl, rfl, trivial⟩, hS.pick [0, 1, 2] rfl rfl⟩
    replace h := bcF h hc3
    refine go ?_
    refine LW.u (Pur.nc rfl) rfl ?_
    refine go ?_
    replace ⟨y4, hy4, h⟩ := obind h
    obtain ⟨b7, o8, hae, hp5, hq6⟩ := hS.ownIdx (α := DObj) (i := 1) rfl hy4
    subst hae
    refine go ?_
    refine LW.u (Pur.ix Tryz.underlying59 sz92 rfl rfl hp5 hq6) rfl ?_
    refine go ?_
    obtain ⟨F9, ho10, hS1⟩ := hS.freeze (α := DObj) 1 rfl
    obtain ⟨b11, o12, cs13, hae, hb16, _, _, hd14, hk15⟩ := ho10.rdF.idx hy4
    cases hae
    obtain ⟨a17, c18, a20, c21, a23, c24, rfl, hr19, hr22, hr25⟩ := hd14
    refine go ?_
    refine LW.l (Ldr.old w0 ag3 rfl (hk15 1 _ rfl)) (hS1.zC 1 rfl hb16) rfl ?_
    refine go ?_
    rcases bcases (y4.kind == 0) with hc26 | hc26
    · replace h := bcT h hc26
      refine go ?_
      have hS2 := hS1.thaw (α := DObj) 1 rfl ho10
      cases oi h
      exact ⟨⟨rfl, rfl, rfl, trivial⟩, hS2.pick [0, 1, 2] rfl rfl⟩
    replace h := bcF h hc26
    refine go ?_
    refine LW.u (Pur.nc rfl) rfl ?_
    refine go ?_
    refine LW.fl [0, 1, 21, 25, 26] fun e => ?_
    refine go ?_
    refine LW.u (Pur.ix Tryz.underlying59 sz92 rfl rfl hp5 hq6) rfl ?_
    refine go ?_
    refine LW.l (Ldr.old w0 ag4 rfl (hk15 9 _ rfl)) (hS1.zC 1 rfl hb16) rfl ?_
    refine go ?_
    have hS3 := hS1.thaw (α := DObj) 1 rfl ho10
    cases oi h
    exact ⟨⟨rfl, rfl, rfl, trivial⟩, hS3.pick [0, 1, 2] rfl rfl⟩
  rintro e w27 ⟨hE, hS4⟩
  obtain ⟨e, rfl⟩ := hE.out
  have h := h2
  refine go ?_
  refine CW.cond rfl (fun hc28 => ?_) (fun hc28 => ?_)
  · replace h := bcT h hc28
    refine go ?_
    replace h := Option.some.inj h
    subst h
    exact And.intro trivial ⟨_, Res.zero , a0_0, c0_0, a0_4, c0_4, rfl, hS4.pick [0, 1, 2] rfl rfl⟩
  replace h := bcF h hc28
  refine go ?_
  refine LW.u (Pur.nc rfl) rfl ?_
  refine go ?_
  replace ⟨y29, hy29, h⟩ := obind h
  obtain ⟨b32, o33, hae, hp30, hq31⟩ := hS4.ownIdx (α := DObj) (i := 1) rfl hy29
  subst hae
  refine LW.u (Pur.ix Tryz.underlying59 sz92 rfl rfl hp30 hq31) rfl ?_
  refine go ?_
  replace ⟨y34, hy34, h⟩ := obind h
  refine LW.stE (M := []) (L := [bx g0 62 [.slice (some ⟨b32, o33, none⟩) x0.arena.length c0_0, .int .i64 x0.gc.phase, .int .i64 x0.gc.pos, .int .i64 x0.gc.round, .slice a0_4 x0.gc.grey.length c0_4], sl (some ⟨b32, o33, none⟩) c0_0 x0.arena, sl a0_4 c0_4 x0.gc.grey]) (z := y29) (z' := (DObj.mk y29.gen y29.kind y29.box y29.res y29.til y29.pages y29.wait y29.got y29.ran true y29.links y29.data y29.queue)) (o := 9) hS4 (i := 1) rfl hy29 ag4 rfl (by show _ = o33 + (x1 : Int).toNat * 13 + 9; omega) rfl rfl rfl rfl (leafF (fun w cs F hF => by obtain ⟨q0, r0, q1, r1, q2, r2, rfl, hH⟩ := hF; exact ⟨q0, r0, q1, r1, q2, r2, rfl, hH⟩)) ?_
  intro w35 hS5 hf
  rw [Option.some.inj hy34] at hS5
  refine go ?_
  refine LW.u (Pur.nc rfl) rfl ?_
  refine go ?_
  replace ⟨y36, hy36, h⟩ := obind h
  refine LW.c0 (W_z_Contains_int hy36 rfl (hS5.rI 2 rfl)) hS5 fun w37 hS6 => ?_
  refine go ?_
  refine CW.fl [0, 1, 45] fun e => ?_
  refine CW.cond rfl (fun hc38 => ?_) (fun hc38 => ?_)
  · replace h := bcT h hc38
    refine go ?_
    refine LW.u (Pur.nc rfl) rfl ?_
    refine go ?_
    replace ⟨y39, hy39, h⟩ := obind h
    refine LW.app1 (M := []) (L := [bx g0 62 [.slice (some ⟨b32, o33, none⟩) x0.arena.length c0_0, .int .i64 x0.gc.phase, .int .i64 x0.gc.pos, .int .i64 x0.gc.round, .slice a0_4 x0.gc.grey.length c0_4], sl (some ⟨b32, o33, none⟩) c0_0 y34, sl a0_4 c0_4 x0.gc.grey]) (vs := #[.int .i64 x1]) (i := 2) sT28 rfl (by kernel_rfl) rfl rfl hy39 hS6 rfl (fun w G hG => by cases (show G = [] from hG); exact ⟨rfl, rfl⟩) rfl rfl ?_
    intro v42 a40 c41 w43 hS7 hf
    refine LW.u (Pur.nc rfl) rfl ?_
    refine go ?_
    refine LW.st hS7 0 fun w44 hS8 => ?_
    refine go ?_
    replace h := Option.some.inj h
    subst h
    rw [show x0.arena.length = y34.length from (len_set (Option.some.inj hy34))] at hS8
    exact And.intro trivial ⟨_, Res.zero , (some ⟨b32, o33, none⟩), c0_0, a40, c41, rfl, hS8.pick [0, 1, 2] rfl rfl⟩
  replace h := bcF h hc38
  refine go ?_
  replace h := Option.some.inj h
  subst h
  rw [show x0.arena.length = y34.length from (len_set (Option.some.inj hy34))] at hS6
  exact And.intro trivial ⟨_, Res.zero , (some ⟨b32, o33, none⟩), c0_0, a0_4, c0_4, rfl, hS6.pick [0, 1, 2] rfl rfl⟩

theorem W_s_AmtAdd {w0 : World} {N : Nat} {x0 : DAmt} {x1 : DAmt} {r : DAmt × Bool} (h : F_s_AmtAdd N x0 x1 = some r) :
    Ret Tryz.prog 168 #[.agg #[.int .i64 x0.pages, .int .i64 x0.rent, .int .i64 x0.cpu], .agg #[.int .i64 x1.pages, .int .i64 x1.rent, .int .i64 x1.cpu]] w0 (fun v w => v = .tuple #[.agg #[.int .i64 r.1.pages, .int .i64 r.1.rent, .int .i64 r.1.cpu], .bool r.2] ∧ St w0 [] w []) := by
  unfold F_s_AmtAdd at h
  refine Ret.fn Tryz.func168 fun e => ?_
  have hS1 := St.start w0
  refine go ?_
  refine LW.bo hS1 fun g1 w2 hS2 => ?_
  refine LW.bo hS2 fun g3 w4 hS3 => ?_
  refine LW.al hS3 fun g5 w6 hS4 => ?_
  refine gs ?_
  obtain ⟨j7, hj7, h8⟩ := obind h
  refine CW.cut (fun e wb => En e [(2, .pointer (some ⟨g1, 0, none⟩)), (3, .pointer (some ⟨g3, 0, none⟩)), (4, .pointer (some ⟨g5, 0, none⟩)), (14, .bool j7)] ∧ St w0 [] wb [bx g5 64 [.int .i64 0, .int .i64 0, .int .i64 0], bx g3 64 [.int .i64 x1.pages, .int .i64 x1.rent, .int .i64 x1.cpu], bx g1 64 [.int .i64 x0.pages, .int .i64 x0.rent, .int .i64 x0.cpu]]) ?_ ?_
  · have h := hj7
    refine go ?_
    replace ⟨y9, hy9, h⟩ := obind h
    refine LW.c0 (W_s_AmtOk hy9) hS4 fun w10 hS5 => ?_
    refine go ?_
    rcases bcases (!y9) with hc11 | hc11
    · replace h := bcT h hc11
      refine go ?_
      cases oi h
      exact ⟨⟨rfl, rfl, rfl, rfl, trivial⟩, hS5.pick [0, 1, 2] rfl rfl⟩
    replace h := bcF h hc11
    refine go ?_
    replace ⟨y12, hy12, h⟩ := obind h
    refine go ?_
    refine LW.c0 (W_s_AmtOk hy12) hS5 fun w13 hS6 => ?_
    refine go ?_
    cases oi h
    exact ⟨⟨rfl, rfl, rfl, rfl, trivial⟩, hS6.pick [0, 1, 2] rfl rfl⟩
  rintro e w14 ⟨hE, hS7⟩
  obtain ⟨e, rfl⟩ := hE.out
  have h := h8
  refine go ?_
  refine CW.cond rfl (fun hc15 => ?_) (fun hc15 => ?_)
  · replace h := bcT h hc15
    refine go ?_
    refine LW.st hS7 0 fun w16 hS8 => ?_
    refine go ?_
    cases h
    exact And.intro trivial ⟨_, Res.two (resOne.b hS8 0 rfl ag64 rfl rfl) (resOne.t rfl), rfl, hS8.pick [] rfl rfl⟩
  replace h := bcF h hc15
  refine go ?_
  refine LW.u (Pur.build (vs := [(0, .int .i64 (IntKind.i64.wrap (x0.pages + x1.pages))), (1, .int .i64 (IntKind.i64.wrap (x0.rent + x1.rent))), (2, .int .i64 (IntKind.i64.wrap (x0.cpu + x1.cpu)))]) (cs := #[.int .i64 (IntKind.i64.wrap (x0.pages + x1.pages)), .int .i64 (IntKind.i64.wrap (x0.rent + x1.rent)), .int .i64 (IntKind.i64.wrap (x0.cpu + x1.cpu))]) rfl (by kernel_rfl)) rfl ?_
  refine LW.al hS7 fun g17 w18 hS9 => ?_
  refine LW.st hS9 0 fun w19 hS10 => ?_
  refine go ?_
  replace ⟨y20, hy20, h⟩ := obind h
  refine LW.c0 (W_s_AmtOk hy20) hS10 fun w21 hS11 => ?_
  refine go ?_
  refine CW.fl [2, 4, 6, 34] fun e => ?_
  refine CW.cond rfl (fun hc22 => ?_) (fun hc22 => ?_)
  · replace h := bcT h hc22
    refine go ?_
    refine LW.st hS11 1 fun w23 hS12 => ?_
    refine go ?_
    cases h
    exact And.intro trivial ⟨_, Res.two (resOne.b hS12 1 rfl ag64 rfl rfl) (resOne.t rfl), rfl, hS12.pick [] rfl rfl⟩
  replace h := bcF h hc22
  refine go ?_
  refine LW.st hS11 1 fun w24 hS13 => ?_
  refine go ?_
  cases h
  exact And.intro trivial ⟨_, Res.two (resOne.b hS13 1 rfl ag64 rfl rfl) (resOne.t rfl), rfl, hS13.pick [] rfl rfl⟩

theorem W_s_ArenaFree {w0 : World} {N : Nat} {x0 : List DObj} {x1 : Int} {r : (List DObj) × Bool} (h : F_s_ArenaFree N x0 x1 = some r) {a0_0 : Option Addr} {n0_0 c0_0 : Nat} (hn0_0 : n0_0 = x0.length) (hr0_0 : rdS (Bor w0 []) w0 a0_0 c0_0 x0) :
    Ret Tryz.prog 167 #[.slice a0_0 n0_0 c0_0, .int .i64 x1] w0 (fun v w => ∃ ar0 cr0, v = .tuple #[.slice ar0 r.1.length cr0, .bool r.2] ∧ St w0 [] w [sl ar0 cr0 r.1]) := by
  subst hn0_0
  unfold F_s_ArenaFree at h
  refine Ret.fn Tryz.func167 fun e => ?_
  have hS1 := St.start w0
  refine go ?_
  replace ⟨y1, hy1, h⟩ := obind h
  refine LW.cl (W_s_l8Copy hy1 rfl (hS1.rB hr0_0)) ?_
  rintro _ w4 ⟨a2, c3, rfl, hs⟩
  have hS2 := hS1.add hs
  refine gs ?_
  obtain ⟨j5, hj5, h6⟩ := obind h
  refine CW.cut (fun e wb => En e [(0, .slice a0_0 x0.length c0_0), (1, .int .i64 x1), (6, .slice a2 y1.length c3), (26, .bool j5)] ∧ St w0 [] wb [sl a2 c3 y1]) ?_ ?_
  · have h := hj5
    refine go ?_
    replace ⟨y7, hy7, h⟩ := obind h
    refine LW.c0 (W_s_ArenaOk hy7 rfl (hS2.rB hr0_0)) hS2 fun w8 hS3 => ?_
    refine go ?_
    rcases bcases (!y7) with hc9 | hc9
    · replace h := bcT h hc9
      refine go ?_
      cases oi h
      exact ⟨⟨rfl, rfl, rfl, rfl, trivial⟩, hS3.pick [0] rfl rfl⟩
    replace h := bcF h hc9
    refine go ?_
    replace ⟨y10, hy10, h⟩ := obind h
    refine go ?_
    refine LW.c0 (W_s_l1In hy10) hS3 fun w11 hS4 => ?_
    refine go ?_
    rcases bcases (!y10) with hc12 | hc12
    · replace h := bcT h hc12
      refine go ?_
      cases oi h
      exact ⟨⟨rfl, rfl, rfl, rfl, trivial⟩, hS4.pick [0] rfl rfl⟩
    replace h := bcF h hc12
    refine go ?_
    replace ⟨y13, hy13, h⟩ := obind h
    obtain ⟨b16, o17, cs18, hae, hb21, hp14, hq15, hd19, hk20⟩ := hr0_0.idx hy13
    subst hae
    obtain ⟨a22, c23, a25, c26, a28, c29, rfl, hr24, hr27, hr30⟩ := hd19
    refine go ?_
    refine LW.u (Pur.ix Tryz.underlying59 sz92 rfl rfl hp14 hq15) rfl ?_
    refine go ?_
    refine LW.l (Ldr.old w0 ag3 rfl (hk20 1 _ rfl)) (hS4.same _ hb21.1 hb21.2) rfl ?_
    refine go ?_
    cases oi h
    exact ⟨⟨rfl, rfl, rfl, rfl, trivial⟩, hS4.pick [0] rfl rfl⟩
  rintro e w31 ⟨hE, hS5⟩
  obtain ⟨e, rfl⟩ := hE.out
  have h := h6
  refine go ?_
  refine CW.cond rfl (fun hc32 => ?_) (fun hc32 => ?_)
  · replace h := bcT h hc32
    refine go ?_
    cases h
    exact And.intro trivial ⟨_, Res.two (resOne.t rfl) (resOne.t rfl), a2, c3, rfl, hS5.pick [0] rfl rfl⟩
  replace h := bcF h hc32
  refine go ?_
  replace ⟨y33, hy33, h⟩ := obind h
  obtain ⟨b36, o37, cs38, hae, hb41, hp34, hq35, hd39, hk40⟩ := hr0_0.idx hy33
  subst hae
  obtain ⟨a42, c43, a45, c46, a48, c49, rfl, hr44, hr47, hr50⟩ := hd39
  refine LW.u (Pur.ix Tryz.underlying59 sz92 rfl rfl hp34 hq35) rfl ?_
  refine go ?_
  refine LW.l (Ldr.old w0 ag3 rfl (hk40 0 _ rfl)) (hS5.same _ hb41.1 hb41.2) rfl ?_
  refine LW.u (Pur.build (vs := [(0, .int .i64 y33.gen)]) (cs := #[.int .i64 y33.gen, .int .i64 0, .int .i64 0, .int .i64 0, .int .i64 0, .int .i64 0, .int .i64 0, .int .i64 0, .int .i64 0, .bool false, .slice none 0 0, .slice none 0 0, .slice none 0 0]) rfl (by kernel_rfl)) rfl ?_
  replace ⟨y51, hy51, h⟩ := obind h
  obtain ⟨b54, o55, hae, hp52, hq53⟩ := hS5.ownIdx (α := DObj) (i := 0) rfl hy51
  subst hae
  refine LW.u (Pur.ix Tryz.underlying59 sz92 rfl rfl hp52 hq53) rfl ?_
  have hS6 := hS5.nil (α := Int)
  have hS7 := hS6.nil (α := Int)
  have hS8 := hS7.nil (α := DMsg)
  have hS9 := hS8.pick (M := [sl none 0 [], sl none 0 [], sl none 0 []] ++ [sl (some ⟨b54, o55, none⟩) c3 y1]) [2, 1, 0, 3] rfl rfl
  replace ⟨y56, hy56, h⟩ := obind h
  refine LW.stE (M := [sl none 0 [], sl none 0 [], sl none 0 []]) (L := [sl (some ⟨b54, o55, none⟩) c3 y1]) (z := y51) (z' := (DObj.mk y33.gen 0 0 0 0 0 0 0 0 false [] [] [])) (o := 0) hS9 (i := 0) rfl hy51 ag92 rfl (by show _ = o55 + (x1 : Int).toNat * 13 + 0; omega) rfl rfl rfl rfl (whole (fun w G hG => ⟨none, 0, none, 0, none, 0, rfl, hG⟩)) ?_
  intro w57 hS10 hf
  rw [Option.some.inj hy56] at hS10
  refine go ?_
  obtain ⟨o142, ho142, h143⟩ := obind h
  refine CW.mono (CW.iter (σ := (List DObj) × Int) (ρ := (List DObj) × Int) (fun s58 e wb => En e [(1, .int .i64 x1), (6, .slice (some ⟨b54, o55, none⟩) s58.1.length c3), (7, .int .i64 s58.2)] ∧ St w0 [] wb [sl (some ⟨b54, o55, none⟩) c3 s58.1]) (fun s58 x e wb => x = .exit 0 ∧ En e [(6, .slice (some ⟨b54, o55, none⟩) s58.1.length c3)] ∧ St w0 [] wb [sl (some ⟨b54, o55, none⟩) c3 s58.1]) ?_ N (y56, 0) _ _ _ ⟨⟨rfl, (show (.slice (some ⟨b54, o55, none⟩) y1.length c3 : Value) = .slice (some ⟨b54, o55, none⟩) y56.length c3 by rw [show y1.length = y56.length from (len_set (Option.some.inj hy56))]), rfl, trivial⟩, hS10.pick [0] rfl rfl⟩ ho142) ?_
  · intro s58 e w59 o hM h
    obtain ⟨hE, hS11⟩ := hM
    obtain ⟨e, rfl⟩ := hE.out
    refine go ?_
    refine CW.fl [1, 6, 7, 40] fun e => ?_
    refine CW.cond rfl (fun hc60 => ?_) (fun hc60 => ?_)
    · replace h := bcT h hc60
      refine go ?_
      replace ⟨y61, hy61, h⟩ := obind h
      obtain ⟨b64, o65, hae, hp62, hq63⟩ := hS11.ownIdx (α := DObj) (i := 0) rfl hy61
      cases hae
      refine LW.u (Pur.ix Tryz.underlying59 sz92 rfl rfl hp62 hq63) rfl ?_
      refine go ?_
      obtain ⟨F66, ho67, hS12⟩ := hS11.freeze (α := DObj) 0 rfl
      obtain ⟨b68, o69, cs70, hae, hb73, _, _, hd71, hk72⟩ := ho67.rdF.idx hy61
      cases hae
      obtain ⟨a74, c75, a77, c78, a80, c81, rfl, hr76, hr79, hr82⟩ := hd71
      refine LW.l (Ldr.old w59 ag3 rfl (hk72 1 _ rfl)) (hS12.zC 0 rfl hb73) rfl ?_
      refine go ?_
      refine CW.cond rfl (fun hc83 => ?_) (fun hc83 => ?_)
      · replace h := bcT h hc83
        refine go ?_
        have hS13 := hS12.thaw (α := DObj) 0 rfl ho67
        cases oi h
        exact ⟨rfl, ⟨⟨rfl, rfl, rfl, trivial⟩, hS13.pick [0] rfl rfl⟩⟩
      replace h := bcF h hc83
      refine go ?_
      refine LW.u (Pur.ix Tryz.underlying59 sz92 rfl rfl hp62 hq63) rfl ?_
      refine go ?_
      refine LW.l (Ldr.old w59 ag3 rfl (hk72 2 _ rfl)) (hS12.zC 0 rfl hb73) rfl ?_
      refine gs ?_
      obtain ⟨j84, hj84, h85⟩ := obind h
      refine CW.cut (fun e wb => En e [(1, .int .i64 x1), (6, .slice (some ⟨b54, o55, none⟩) j84.length c3), (7, .int .i64 s58.2)] ∧ St w0 [] wb [sl (some ⟨b54, o55, none⟩) c3 j84]) ?_ ?_
      · have h := hj84
        refine CW.fl [1, 6, 7, 55] fun e => ?_
        refine CW.cond rfl (fun hc86 => ?_) (fun hc86 => ?_)
        · replace h := bcT h hc86
          refine go ?_
          refine LW.u (Pur.ix Tryz.underlying59 sz92 rfl rfl hp62 hq63) rfl ?_
          refine go ?_
          have hS14 := hS12.thaw (α := DObj) 0 rfl ho67
          replace ⟨y87, hy87, h⟩ := obind h
          refine LW.stE (M := []) (L := [sl (some ⟨b54, o55, none⟩) c3 s58.1]) (z := y61) (z' := (DObj.mk y61.gen y61.kind (-1) y61.res y61.til y61.pages y61.wait y61.got y61.ran y61.mark y61.links y61.data y61.queue)) (o := 2) hS14 (i := 0) rfl hy61 ag3 rfl (by show _ = o55 + (s58.2 : Int).toNat * 13 + 2; omega) rfl rfl rfl rfl (leafF (fun w cs F hF => by obtain ⟨q0, r0, q1, r1, q2, r2, rfl, hH⟩ := hF; exact ⟨q0, r0, q1, r1, q2, r2, rfl, hH⟩)) ?_
          intro w88 hS15 hf
          rw [Option.some.inj hy87] at hS15
          refine go ?_
          replace h := Option.some.inj h
          subst h
          exact ⟨⟨rfl, (show (.slice (some ⟨b54, o55, none⟩) s58.1.length c3 : Value) = .slice (some ⟨b54, o55, none⟩) y87.length c3 by rw [show s58.1.length = y87.length from (len_set (Option.some.inj hy87))]), rfl, trivial⟩, hS15.pick [0] rfl rfl⟩
        replace h := bcF h hc86
        refine go ?_
        have hS16 := hS12.thaw (α := DObj) 0 rfl ho67
        cases oi h
        exact ⟨⟨rfl, rfl, rfl, trivial⟩, hS16.pick [0] rfl rfl⟩
      rintro e w89 ⟨hE, hS17⟩
      obtain ⟨e, rfl⟩ := hE.out
      have h := h85
      refine go ?_
      obtain ⟨o139, ho139, h140⟩ := obind h
      refine CW.mono (CW.iter (σ := (List DObj) × Int) (ρ := (List DObj) × Int) (fun s90 e wb => En e [(1, .int .i64 x1), (6, .slice (some ⟨b54, o55, none⟩) s90.1.length c3), (7, .int .i64 s58.2), (8, .int .i64 s90.2)] ∧ St w0 [] wb [sl (some ⟨b54, o55, none⟩) c3 s90.1]) (fun s90 x e wb => x = .exit 2 ∧ En e [(1, .int .i64 x1), (6, .slice (some ⟨b54, o55, none⟩) s90.1.length c3), (7, .int .i64 s58.2)] ∧ St w0 [] wb [sl (some ⟨b54, o55, none⟩) c3 s90.1]) ?_ N (j84, 0) _ _ _ ⟨⟨rfl, rfl, rfl, rfl, trivial⟩, hS17.pick [0] rfl rfl⟩ ho139) ?_
      · intro s90 e w91 o hM h
        obtain ⟨hE, hS18⟩ := hM
        obtain ⟨e, rfl⟩ := hE.out
        refine go ?_
        refine CW.fl [1, 6, 7, 8, 61] fun e => ?_
        refine CW.cond rfl (fun hc92 => ?_) (fun hc92 => ?_)
        · replace h := bcT h hc92
          refine go ?_
          replace ⟨y93, hy93, h⟩ := obind h
          obtain ⟨b96, o97, hae, hp94, hq95⟩ := hS18.ownIdx (α := DObj) (i := 0) rfl hy93
          cases hae
          refine LW.u (Pur.ix Tryz.underlying59 sz92 rfl rfl hp94 hq95) rfl ?_
          refine go ?_
          obtain ⟨F98, ho99, hS19⟩ := hS18.freeze (α := DObj) 0 rfl
          obtain ⟨b100, o101, cs102, hae, hb105, _, _, hd103, hk104⟩ := ho99.rdF.idx hy93
          cases hae
          obtain ⟨a106, c107, a109, c110, a112, c113, rfl, hr108, hr111, hr114⟩ := hd103
          refine LW.l (Ldr.old w91 ag28 rfl (hk104 10 _ rfl)) (hS19.zC 0 rfl hb105) rfl ?_
          refine go ?_
          replace ⟨y115, hy115, h⟩ := obind h
          obtain ⟨b118, o119, cs120, hae, hb123, hp116, hq117, hd121, hk122⟩ := hr108.idx hy115
          subst hae
          obtain rfl := hd121
          refine LW.u (Pur.ix Tryz.underlying28 sz3 rfl rfl hp116 hq117) rfl ?_
          refine LW.l (Ldr.old w91 ag3 rfl (hk122 0 _ rfl)) (hS19.zC 0 rfl hb123) rfl ?_
          refine go ?_
          refine CW.fl [1, 6, 7, 8, 73] fun e => ?_
          refine CW.cond rfl (fun hc124 => ?_) (fun hc124 => ?_)
          · replace h := bcT h hc124
            refine go ?_
            refine LW.u (Pur.ix Tryz.underlying59 sz92 rfl rfl hp94 hq95) rfl ?_
            refine go ?_
            refine LW.l (Ldr.old w91 ag28 rfl (hk104 10 _ rfl)) (hS19.zC 0 rfl hb105) rfl ?_
            refine go ?_
            refine LW.u (Pur.ix Tryz.underlying28 sz3 rfl rfl hp116 hq117) rfl ?_
            have hn125 := fun (j : Nat) (u : Value) (hu : ([.int .i64 y93.gen, .int .i64 y93.kind, .int .i64 y93.box, .int .i64 y93.res, .int .i64 y93.til, .int .i64 y93.pages, .int .i64 y93.wait, .int .i64 y93.got, .int .i64 y93.ran, .bool y93.mark, .slice (some ⟨b118, o119, none⟩) y93.links.length c107, .slice a109 y93.data.length c110, .slice a112 y93.queue.length c113] : List Value)[j]? = some u) => (World.cell?_of_block (hS19.zC 0 rfl hb105)).trans (hk104 j u hu)
            have hS20 := hS19.thaw (α := DObj) 0 rfl ho99
            obtain ⟨Fx126, ho127, hf128⟩ := hS20.focus (α := DObj) (cs := [.int .i64 y93.gen, .int .i64 y93.kind, .int .i64 y93.box, .int .i64 y93.res, .int .i64 y93.til, .int .i64 y93.pages, .int .i64 y93.wait, .int .i64 y93.got, .int .i64 y93.ran, .bool y93.mark, .slice (some ⟨b118, o119, none⟩) y93.links.length c107, .slice a109 y93.data.length c110, .slice a112 y93.queue.length c113]) 0 rfl hy93 rfl hn125
            obtain ⟨a131, c132, a133, c134, a135, c136, hc129, hH130⟩ := ho127
            cases hc129
            have hS21 := hf128 [sl (some ⟨b118, o119, none⟩) c107 y93.links, sl a109 c110 y93.data, sl a112 c113 y93.queue] hH130
            replace ⟨y137, hy137, h⟩ := obind h
            refine LW.stE (M := []) (L := [sl (some ⟨b118, o119, none⟩) c107 y93.links, sl a109 c110 y93.data, sl a112 c113 y93.queue, hole DObj (some ⟨b54, o55, none⟩) c3 s90.1 (s58.2 : Int).toNat [.int .i64 y93.gen, .int .i64 y93.kind, .int .i64 y93.box, .int .i64 y93.res, .int .i64 y93.til, .int .i64 y93.pages, .int .i64 y93.wait, .int .i64 y93.got, .int .i64 y93.ran, .bool y93.mark, .slice (some ⟨b118, o119, none⟩) y93.links.length c107, .slice a109 y93.data.length c110, .slice a112 y93.queue.length c113]]) (z := y115) (z' := (-1)) (o := 0) hS21 (i := 0) rfl hy115 ag3 rfl (by show _ = o119 + (s90.2 : Int).toNat * 1 + 0; omega) rfl rfl rfl rfl (whole (fun w G hG => by cases (show G = [] from hG); exact ⟨rfl, rfl⟩)) ?_
            intro w138 hS22 hf
            rw [Option.some.inj hy137] at hS22
            refine go ?_
            replace h := Option.some.inj h
            subst h
            rw [show y93.links.length = y137.length from (len_set (Option.some.inj hy137))] at hS22
            have hS23 := hS22.pick (M := [sl (some ⟨b118, o119, none⟩) c107 y137, sl a109 c110 y93.data, sl a112 c113 y93.queue] ++ [hole DObj (some ⟨b54, o55, none⟩) c3 s90.1 (s58.2 : Int).toNat [.int .i64 y93.gen, .int .i64 y93.kind, .int .i64 y93.box, .int .i64 y93.res, .int .i64 y93.til, .int .i64 y93.pages, .int .i64 y93.wait, .int .i64 y93.got, .int .i64 y93.ran, .bool y93.mark, .slice (some ⟨b118, o119, none⟩) y137.length c107, .slice a109 y93.data.length c110, .slice a112 y93.queue.length c113]]) [0, 1, 2, 3] rfl rfl
            have hS24 := hS23.unfocus (M := [sl (some ⟨b118, o119, none⟩) c107 y137, sl a109 c110 y93.data, sl a112 c113 y93.queue]) (L := [hole DObj (some ⟨b54, o55, none⟩) c3 s90.1 (s58.2 : Int).toNat [.int .i64 y93.gen, .int .i64 y93.kind, .int .i64 y93.box, .int .i64 y93.res, .int .i64 y93.til, .int .i64 y93.pages, .int .i64 y93.wait, .int .i64 y93.got, .int .i64 y93.ran, .bool y93.mark, .slice (some ⟨b118, o119, none⟩) y137.length c107, .slice a109 y93.data.length c110, .slice a112 y93.queue.length c113]]) (y := (DObj.mk y93.gen y93.kind y93.box y93.res y93.til y93.pages y93.wait y93.got y93.ran y93.mark y137 y93.data y93.queue)) 0 rfl (fun w G hG => ⟨(some ⟨b118, o119, none⟩), c107, a109, c110, a112, c113, rfl, hG⟩)
            exact ⟨rfl, ⟨⟨rfl, (show (.slice (some ⟨b54, o55, none⟩) s90.1.length c3 : Value) = .slice (some ⟨b54, o55, none⟩) ((s90.1.set (s58.2 : Int).toNat (DObj.mk y93.gen y93.kind y93.box y93.res y93.til y93.pages y93.wait y93.got y93.ran y93.mark y137 y93.data y93.queue)).length) c3 by rw [show s90.1.length = (s90.1.set (s58.2 : Int).toNat (DObj.mk y93.gen y93.kind y93.box y93.res y93.til y93.pages y93.wait y93.got y93.ran y93.mark y137 y93.data y93.queue)).length from (len_set rfl)]), rfl, rfl, trivial⟩, hS24.pick [0] rfl rfl⟩⟩
          replace h := bcF h hc124
          refine go ?_
          have hS25 := hS19.thaw (α := DObj) 0 rfl ho99
          cases oi h
          exact ⟨rfl, ⟨⟨rfl, rfl, rfl, rfl, trivial⟩, hS25.pick [0] rfl rfl⟩⟩
        replace h := bcF h hc92
        refine go ?_
        cases oi h
        exact ⟨trivial, rfl, ⟨⟨rfl, rfl, rfl, trivial⟩, hS18.pick [0] rfl rfl⟩⟩
      intro x e w141 hM
      obtain ⟨rfl, hM⟩ := hM
      obtain ⟨hE, hS26⟩ := hM
      obtain ⟨e, rfl⟩ := hE.out
      have h := h140
      refine go ?_
      cases oi h
      exact ⟨rfl, ⟨⟨rfl, rfl, rfl, trivial⟩, hS26.pick [0] rfl rfl⟩⟩
    replace h := bcF h hc60
    refine go ?_
    cases oi h
    exact ⟨trivial, rfl, ⟨⟨rfl, trivial⟩, hS11.pick [0] rfl rfl⟩⟩
  intro x e w144 hM
  obtain ⟨rfl, hM⟩ := hM
  obtain ⟨hE, hS27⟩ := hM
  obtain ⟨e, rfl⟩ := hE.out
  have h := h143
  refine go ?_
  cases h
  exact And.intro trivial ⟨_, Res.two (resOne.t rfl) (resOne.t rfl), (some ⟨b54, o55, none⟩), c3, rfl, hS27.pick [0] rfl rfl⟩

theorem W_s_l10Mark {w0 : World} {F : List Nat} {N : Nat} {x0 : DHeap} {x1 : Int} {r : DHeap} (h : F_s_l10Mark N x0 x1 = some r) {a0_0 : Option Addr} {n0_0 c0_0 : Nat} (hn0_0 : n0_0 = x0.arena.length) {a0_4 : Option Addr} {n0_4 c0_4 : Nat} (hn0_4 : n0_4 = x0.gc.grey.length) (hS : St w0 F w0 [sl a0_0 c0_0 x0.arena, sl a0_4 c0_4 x0.gc.grey]) :
    Ret Tryz.prog 165 #[.agg #[.slice a0_0 n0_0 c0_0, .int .i64 x0.gc.phase, .int .i64 x0.gc.pos, .int .i64 x0.gc.round, .slice a0_4 n0_4 c0_4], .int .i64 x1] w0 (fun v w => ∃ ar0_0 cr0_0, ∃ ar0_4 cr0_4, v = .agg #[.slice ar0_0 r.arena.length cr0_0, .int .i64 r.gc.phase, .int .i64 r.gc.pos, .int .i64 r.gc.round, .slice ar0_4 r.gc.grey.length cr0_4] ∧ St w0 F w [sl ar0_0 cr0_0 r.arena, sl ar0_4 cr0_4 r.gc.grey]) := by
  subst hn0_0 hn0_4
  unfold F_s_l10Mark at h
  refine Ret.fn Tryz.func165 fun e => ?_
  refine go ?_
  refine LW.bo hS fun g1 w2 hS1 => ?_
  refine LW.al hS1 fun g3 w4 hS2 => ?_
  refine go ?_
  refine CW.cond rfl (fun hc5 => ?_) (fun hc5 => ?_)
  · replace h := bcT h hc5
    refine go ?_
    refine LW.st hS2 1 fun w6 hS3 => ?_
    refine go ?_
    refine LW.st hS3 1 fun w7 hS4 => ?_
    refine go ?_
    refine LW.st hS4 0 fun w8 hS5 => ?_
    refine go ?_
    cases h
    exact And.intro trivial ⟨_, Res.one (resOne.b hS5 0 rfl ag62 rfl rfl), a0_0, c0_0, a0_4, c0_4, rfl, hS5.pick [2, 3] rfl rfl⟩
  replace h := bcF h hc5
  refine go ?_
  replace ⟨y9, hy9, h⟩ := obind h
  obtain ⟨b12, o13, hae, hp10, hq11⟩ := hS2.ownIdx (α := Int) (i := 3) rfl hy9
  subst hae
  refine LW.u (Pur.ix Tryz.underlying28 sz3 rfl rfl hp10 hq11) rfl ?_
  obtain ⟨F14, ho15, hS6⟩ := hS2.freeze (α := Int) 3 rfl
  obtain ⟨b16, o17, cs18, hae, hb21, _, _, hd19, hk20⟩ := ho15.rdF.idx hy9
  cases hae
  obtain rfl := hd19
  refine LW.l (Ldr.old w4 ag3 rfl (hk20 0 _ rfl)) (hS6.zC 3 rfl hb21) rfl ?_
  refine go ?_
  have hS7 := hS6.thaw (α := Int) 3 rfl ho15
  refine LW.fl [1, 2, 4, 6, 29, 30] fun e => ?_
  replace ⟨y22, hy22, h⟩ := obind h
  obtain ⟨hle28, a23, c24, he25, he26, hS8⟩ := hS7.sub' (α := Int) 3 rfl hy22
  refine LW.u (Pur.sub (α := Int) (l := x0.gc.grey) Tryz.underlying28 sz3 rfl bndN (bndS rfl) hy22 hle28 he25 he26) rfl ?_
  refine go ?_
  refine LW.st hS8 1 fun w29 hS9 => ?_
  refine gs ?_
  obtain ⟨j30, hj30, h31⟩ := obind h
  refine CW.cut (fun e wb => En e [(1, .int .i64 x1), (2, .pointer (some ⟨g1, 0, none⟩)), (4, .pointer (some ⟨g3, 0, none⟩)), (6, .int .i64 y9), (44, .bool j30)] ∧ St w0 F wb [bx g3 62 [.slice none 0 0, .int .i64 0, .int .i64 0, .int .i64 0, .slice none 0 0], bx g1 62 [.slice a0_0 x0.arena.length c0_0, .int .i64 x0.gc.phase, .int .i64 x0.gc.pos, .int .i64 x0.gc.round, .slice a23 y22.length c24], sl a0_0 c0_0 x0.arena, sl a23 c24 y22]) ?_ ?_
  · have h := hj30
    refine go ?_
    rcases bcases (decide (y9 > 0)) with hc32 | hc32
    · replace h := bcT h hc32
      refine go ?_
      replace ⟨y33, hy33, h⟩ := obind h
      obtain ⟨b36, o37, hae, hp34, hq35⟩ := hS9.ownIdx (α := DObj) (i := 2) rfl hy33
      subst hae
      refine go ?_
      refine LW.u (Pur.ix Tryz.underlying59 sz92 rfl rfl hp34 hq35) rfl ?_
      obtain ⟨F38, ho39, hS10⟩ := hS9.freeze (α := DObj) 2 rfl
      obtain ⟨b40, o41, cs42, hae, hb45, _, _, hd43, hk44⟩ := ho39.rdF.idx hy33
      cases hae
      obtain ⟨a46, c47, a49, c50, a52, c53, rfl, hr48, hr51, hr54⟩ := hd43
      refine go ?_
      refine LW.l (Ldr.oldN w29 ag92 rfl rfl (fun j u hu => hk44 j u hu)) (hS10.zC 2 rfl hb45) rfl ?_
      refine go ?_
      replace ⟨y55, hy55, h⟩ := obind h
      refine go ?_
      refine LW.c0 (W_s_Expired hy55 rfl (hS10.rZ 2 rfl hr48) rfl (hS10.rZ 2 rfl hr51) rfl (hS10.rZ 2 rfl hr54)) hS10 fun w56 hS11 => ?_
      refine go ?_
      have hS12 := hS11.thaw (α := DObj) 2 rfl ho39
      cases oi h
      exact ⟨⟨rfl, rfl, rfl, rfl, rfl, trivial⟩, hS12.pick [0, 1, 2, 3] rfl rfl⟩
    replace h := bcF h hc32
    refine go ?_
    cases oi h
    exact ⟨⟨rfl, rfl, rfl, rfl, rfl, trivial⟩, hS9.pick [0, 1, 2, 3] rfl rfl⟩
  rintro e w57 ⟨hE, hS13⟩
  obtain ⟨e, rfl⟩ := hE.out
  have h := h31
  refine go ?_
  refine CW.cond rfl (fun hc58 => ?_) (fun hc58 => ?_)
  · replace h := bcT h hc58
    refine go ?_
    refine LW.st hS13 0 fun w59 hS14 => ?_
    refine go ?_
    cases h
    exact And.intro trivial ⟨_, Res.one (resOne.b hS14 0 rfl ag62 rfl rfl), a0_0, c0_0, a23, c24, rfl, hS14.pick [2, 3] rfl rfl⟩
  replace h := bcF h hc58
  refine go ?_
  replace ⟨y60, hy60, h⟩ := obind h
  refine LW.cl (W_s_Edges hy60 rfl (hS13.rI 2 rfl)) ?_
  rintro _ w63 ⟨a61, c62, rfl, hs⟩
  have hS15 := hS13.add hs
  refine go ?_
  replace ⟨y64, hy64, h⟩ := obind h
  obtain ⟨b67, o68, hae, hp65, hq66⟩ := hS15.ownIdx (α := DObj) (i := 3) rfl hy64
  subst hae
  refine LW.u (Pur.ix Tryz.underlying59 sz92 rfl rfl hp65 hq66) rfl ?_
  refine go ?_
  replace ⟨y69, hy69, h⟩ := obind h
  refine LW.stE (M := []) (L := [sl a61 c62 y60, bx g3 62 [.slice none 0 0, .int .i64 0, .int .i64 0, .int .i64 0, .slice none 0 0], bx g1 62 [.slice (some ⟨b67, o68, none⟩) x0.arena.length c0_0, .int .i64 x0.gc.phase, .int .i64 x0.gc.pos, .int .i64 x0.gc.round, .slice a23 y22.length c24], sl (some ⟨b67, o68, none⟩) c0_0 x0.arena, sl a23 c24 y22]) (z := y64) (z' := (DObj.mk y64.gen y64.kind y64.box y64.res y64.til y64.pages y64.wait y64.got y64.ran true y64.links y64.data y64.queue)) (o := 9) hS15 (i := 3) rfl hy64 ag4 rfl (by show _ = o68 + (y9 : Int).toNat * 13 + 9; omega) rfl rfl rfl rfl (leafF (fun w cs F hF => by obtain ⟨q0, r0, q1, r1, q2, r2, rfl, hH⟩ := hF; exact ⟨q0, r0, q1, r1, q2, r2, rfl, hH⟩)) ?_
  intro w70 hS16 hf
  rw [Option.some.inj hy69] at hS16
  refine go ?_
  rw [show x0.arena.length = y69.length from (len_set (Option.some.inj hy69))] at hS16
  obtain ⟨o121, ho121, h122⟩ := obind h
  refine CW.mono (CW.iter (σ := Int × (List DObj) × Int × Int × Int × (List Int)) (ρ := Int × (List DObj) × Int × Int × Int × (List Int)) (fun s71 e wb => ∃ (s71a0 : Option Addr), ∃ (s71c0 : Nat), ∃ (s71a2 : Option Addr), ∃ (s71c2 : Nat), En e [(1, .int .i64 x1), (2, .pointer (some ⟨g1, 0, none⟩)), (4, .pointer (some ⟨g3, 0, none⟩)), (7, .slice a61 y60.length c62), (8, .int .i64 s71.1)] ∧ St w0 F wb [sl a61 c62 y60, bx g3 62 [.slice none 0 0, .int .i64 0, .int .i64 0, .int .i64 0, .slice none 0 0], bx g1 62 [.slice s71a0 s71.2.1.length s71c0, .int .i64 s71.2.2.1, .int .i64 s71.2.2.2.1, .int .i64 s71.2.2.2.2.1, .slice s71a2 s71.2.2.2.2.2.length s71c2], sl s71a0 s71c0 s71.2.1, sl s71a2 s71c2 s71.2.2.2.2.2]) (fun s71 x e wb => x = .exit 0 ∧ ∃ (s71a0 : Option Addr), ∃ (s71c0 : Nat), ∃ (s71a2 : Option Addr), ∃ (s71c2 : Nat), En e [(2, .pointer (some ⟨g1, 0, none⟩)), (4, .pointer (some ⟨g3, 0, none⟩))] ∧ St w0 F wb [sl a61 c62 y60, bx g3 62 [.slice none 0 0, .int .i64 0, .int .i64 0, .int .i64 0, .slice none 0 0], bx g1 62 [.slice s71a0 s71.2.1.length s71c0, .int .i64 s71.2.2.1, .int .i64 s71.2.2.2.1, .int .i64 s71.2.2.2.2.1, .slice s71a2 s71.2.2.2.2.2.length s71c2], sl s71a0 s71c0 s71.2.1, sl s71a2 s71c2 s71.2.2.2.2.2]) ?_ N (0, y69, x0.gc.phase, x0.gc.pos, x0.gc.round, y22) _ _ _ ⟨(some ⟨b67, o68, none⟩), c0_0, a23, c24, ⟨rfl, rfl, rfl, rfl, rfl, trivial⟩, hS16.pick [0, 1, 2, 3, 4] rfl rfl⟩ ho121) ?_
  · intro s71 e w72 o hM h
    obtain ⟨s71a0, s71c0, s71a2, s71c2, hE, hS17⟩ := hM
    obtain ⟨e, rfl⟩ := hE.out
    refine go ?_
    refine CW.fl [1, 2, 4, 7, 8, 58] fun e => ?_
    refine CW.cond rfl (fun hc73 => ?_) (fun hc73 => ?_)
    · replace h := bcT h hc73
      refine go ?_
      refine CW.draw (by kernel_rfl) ?_
      have hS18 := hS17.drew
      refine AW.u (i := 0) rfl (by kernel_rfl) rfl rfl (Pur.fa fo62_0 rfl) ?_
      refine AW.take (i := 1) rfl (by kernel_rfl) rfl rfl (Ldr.box (bt := 62) (fr := (0, 0)) (cs := [.slice s71a0 s71.2.1.length s71c0, .int .i64 s71.2.2.1, .int .i64 s71.2.2.2.1, .int .i64 s71.2.2.2.2.1, .slice s71a2 s71.2.2.2.2.2.length s71c2]) ag59 rfl rfl) (St.cell (h := hS18) (i := 2) rfl) ?_
      refine AW.u (i := 2) rfl (by kernel_rfl) rfl rfl (Pur.p rfl) ?_
      refine AW.u (i := 3) rfl (by kernel_rfl) rfl rfl (Pur.p rfl) ?_
      replace ⟨y74, hy74, h⟩ := obind h
      obtain ⟨b77, o78, hae, hp75, hq76⟩ := hS18.ownIdx (α := Int) (i := 0) rfl hy74
      subst hae
      refine AW.u (i := 4) rfl (by kernel_rfl) rfl rfl (Pur.ix Tryz.underlying28 sz3 rfl rfl hp75 hq76) ?_
      obtain ⟨F79, ho80, hS19⟩ := hS18.freeze (α := Int) 0 rfl
      obtain ⟨b81, o82, cs83, hae, hb86, _, _, hd84, hk85⟩ := ho80.rdF.idx hy74
      cases hae
      obtain rfl := hd84
      refine AW.take (i := 5) rfl (by kernel_rfl) rfl rfl (Ldr.old w72.drew ag3 rfl (hk85 0 _ rfl)) (hS19.zC 0 rfl hb86) ?_
      replace ⟨y87, hy87, h⟩ := obind h
      obtain ⟨b90, o91, hae, hp88, hq89⟩ := hS19.ownIdx (α := DObj) (i := 3) rfl hy87
      subst hae
      refine AW.u (i := 6) rfl (by kernel_rfl) rfl rfl (Pur.ix Tryz.underlying59 sz92 rfl rfl hp88 hq89) ?_
      obtain ⟨F92, ho93, hS20⟩ := hS19.freeze (α := DObj) 3 rfl
      obtain ⟨b94, o95, cs96, hae, hb99, _, _, hd97, hk98⟩ := ho93.rdF.idx hy87
      cases hae
      obtain ⟨a100, c101, a103, c104, a106, c107, rfl, hr102, hr105, hr108⟩ := hd97
      refine AW.take (i := 7) rfl (by kernel_rfl) rfl rfl (Ldr.oldN w72.drew ag92 rfl rfl (fun j u hu => hk98 j u hu)) (hS20.zC 3 rfl hb99) ?_
      refine AW.u (i := 8) rfl (by kernel_rfl) rfl rfl (Pur.p rfl) ?_
      replace ⟨y109, hy109, h⟩ := obind h
      have q := W_s_Expired (w0 := w72.drew) hy109 rfl (hS20.rZ 3 rfl hr102) rfl (hS20.rZ 3 rfl hr105) rfl (hS20.rZ 3 rfl hr108)
      refine AW.one (i := 9) (by kernel_rfl) ?_
      refine ⟨_, rfl, ?_⟩
      refine LW.call pl166 rfl rfl ?_
      refine Ret.mono q ?_
      rintro _ w110 ⟨rfl, hs⟩
      have hS21 := hS20.add hs
      refine LW.nil ⟨rfl, (.w (by kernel_rfl) (.c (hS21.zC 0 rfl hb86) (.c (St.cell (h := hS21) (i := 2) rfl) Kept.n))), ?_⟩
      refine AW.u (i := 10) rfl (by kernel_rfl) rfl rfl (Pur.p rfl) ?_
      refine AW.done (by kernel_rfl) ?_
      refine go ?_
      refine CW.cond rfl (fun hc111 => ?_) (fun hc111 => ?_)
      · replace h := bcT h hc111
        refine CW.draw (by kernel_rfl) ?_
        have hS22 := hS21.drew
        refine AW.take (i := 0) rfl (by kernel_rfl) rfl rfl (Ldr.boxN (bt := 62) (fr := (0, 0)) (cs := [.slice (some ⟨b90, o91, none⟩) s71.2.1.length s71c0, .int .i64 s71.2.2.1, .int .i64 s71.2.2.2.1, .int .i64 s71.2.2.2.2.1, .slice s71a2 s71.2.2.2.2.2.length s71c2]) ag62 rfl rfl) (St.cell (h := hS22) (i := 2) rfl) ?_
        refine AW.u (i := 1) rfl (by kernel_rfl) rfl rfl (Pur.p rfl) ?_
        refine AW.u (i := 2) rfl (by kernel_rfl) rfl rfl (Pur.p rfl) ?_
        refine AW.u (i := 3) rfl (by kernel_rfl) rfl rfl (Pur.ix Tryz.underlying28 sz3 rfl rfl hp75 hq76) ?_
        refine AW.take (i := 4) rfl (by kernel_rfl) rfl rfl (Ldr.old w72.drew ag3 rfl (hk85 0 _ rfl)) (hS22.zC 0 rfl hb86) ?_
        replace ⟨y112, hy112, h⟩ := obind h
        have hS23 := hS22.thaw (α := DObj) 3 rfl ho93
        have hS24 := hS23.pick (M := [sl (some ⟨b90, o91, none⟩) s71c0 s71.2.1, sl s71a2 s71c2 s71.2.2.2.2.2] ++ [fz w72.drew F79, bx g3 62 [.slice none 0 0, .int .i64 0, .int .i64 0, .int .i64 0, .slice none 0 0], bx g1 62 [.slice (some ⟨b90, o91, none⟩) s71.2.1.length s71c0, .int .i64 s71.2.2.1, .int .i64 s71.2.2.2.1, .int .i64 s71.2.2.2.2.1, .slice s71a2 s71.2.2.2.2.2.length s71c2]]) [3, 4, 0, 1, 2] rfl rfl
        obtain ⟨F113, hL114⟩ := St.lend (L := [sl (some ⟨b90, o91, none⟩) s71c0 s71.2.1, sl s71a2 s71c2 s71.2.2.2.2.2]) (M := [fz w72.drew F79, bx g3 62 [.slice none 0 0, .int .i64 0, .int .i64 0, .int .i64 0, .slice none 0 0], bx g1 62 [.slice (some ⟨b90, o91, none⟩) s71.2.1.length s71c0, .int .i64 s71.2.2.1, .int .i64 s71.2.2.2.1, .int .i64 s71.2.2.2.2.1, .slice s71a2 s71.2.2.2.2.2.length s71c2]]) hS24
        have q := W_s_l10Shade (w0 := w110.drew) hy112 rfl rfl hL114.st
        refine AW.one (i := 5) (by kernel_rfl) ?_
        refine ⟨_, rfl, ?_⟩
        refine LW.call pl202 rfl rfl ?_
        refine Ret.mono q ?_
        rintro _ w119 ⟨a115, c116, a117, c118, rfl, hs⟩
        have hS25 := hL114.back _ _ hs
        refine LW.nil ⟨rfl, (.w (by kernel_rfl) (.w (by kernel_rfl) Kept.n)), ?_⟩
        refine AW.one (i := 6) (by kernel_rfl) ?_
        refine ⟨_, rfl, ?_⟩
        refine LW.st hS25 4 fun w120 hS26 => ?_
        refine LW.nil ⟨rfl, (.w (by kernel_rfl) (.w (by kernel_rfl) Kept.n)), ?_⟩
        refine AW.done (by kernel_rfl) ?_
        refine go ?_
        have hS27 := hS26.thaw (α := Int) 2 rfl ho80
        cases oi h
        exact ⟨rfl, ⟨a115, c116, a117, c118, ⟨rfl, rfl, rfl, rfl, rfl, trivial⟩, hS27.pick [2, 3, 4, 0, 1] rfl rfl⟩⟩
      replace h := bcF h hc111
      refine go ?_
      have hS28 := hS21.thaw (α := DObj) 3 rfl ho93
      have hS29 := hS28.thaw (α := Int) 0 rfl ho80
      cases oi h
      exact ⟨rfl, ⟨(some ⟨b90, o91, none⟩), s71c0, s71a2, s71c2, ⟨rfl, rfl, rfl, rfl, rfl, trivial⟩, hS29.pick [0, 1, 2, 3, 4] rfl rfl⟩⟩
    replace h := bcF h hc73
    refine go ?_
    cases oi h
    exact ⟨trivial, rfl, ⟨s71a0, s71c0, s71a2, s71c2, ⟨rfl, rfl, trivial⟩, hS17.pick [0, 1, 2, 3, 4] rfl rfl⟩⟩
  intro x e w123 hM
  obtain ⟨rfl, hM⟩ := hM
  obtain ⟨s71a0, s71c0, s71a2, s71c2, hE, hS30⟩ := hM
  obtain ⟨e, rfl⟩ := hE.out
  have h := h122
  refine go ?_
  refine LW.st hS30 1 fun w124 hS31 => ?_
  refine go ?_
  cases h
  exact And.intro trivial ⟨_, Res.one (resOne.b hS31 1 rfl ag62 rfl rfl), s71a0, s71c0, s71a2, s71c2, rfl, hS31.pick [3, 4] rfl rfl⟩

theorem W_s_TreeBack {w0 : World} {N : Nat} {x0 : List DRes} {x1 : Int} {x2 : DAmt} {r : (List DRes) × Bool} (h : F_s_TreeBack N x0 x1 x2 = some r) {a0_0 : Option Addr} {n0_0 c0_0 : Nat} (hn0_0 : n0_0 = x0.length) (hr0_0 : rdS (Bor w0 []) w0 a0_0 c0_0 x0) :
    Ret Tryz.prog 99 #[.slice a0_0 n0_0 c0_0, .int .i64 x1, .agg #[.int .i64 x2.pages, .int .i64 x2.rent, .int .i64 x2.cpu]] w0 (fun v w => ∃ ar0 cr0, v = .tuple #[.slice ar0 r.1.length cr0, .bool r.2] ∧ St w0 [] w [sl ar0 cr0 r.1]) := by
  subst hn0_0
  unfold F_s_TreeBack at h
  refine Ret.fn Tryz.func99 fun e => ?_
  have hS1 := St.start w0
  refine go ?_
  refine LW.bo hS1 fun g1 w2 hS2 => ?_
  refine go ?_
  replace ⟨y3, hy3, h⟩ := obind h
  refine LW.cl (W_s_l6Copy hy3 rfl (hS2.rB hr0_0)) ?_
  rintro _ w6 ⟨a4, c5, rfl, hs⟩
  have hS3 := hS2.add hs
  refine go ?_
  replace ⟨y7, hy7, h⟩ := obind h
  refine LW.c0 (W_s_TreeOk hy7 rfl (hS3.rB hr0_0)) hS3 fun w8 hS4 => ?_
  refine go ?_
  refine CW.cond rfl (fun hc9 => ?_) (fun hc9 => ?_)
  · replace h := bcT h hc9
    refine go ?_
    cases h
    exact And.intro trivial ⟨_, Res.two (resOne.t rfl) (resOne.t rfl), a4, c5, rfl, hS4.pick [0] rfl rfl⟩
  replace h := bcF h hc9
  refine gs ?_
  obtain ⟨j10, hj10, h11⟩ := obind h
  refine CW.cut (fun e wb => En e [(0, .slice a0_0 x0.length c0_0), (1, .int .i64 x1), (5, .pointer (some ⟨g1, 0, none⟩)), (8, .slice a4 y3.length c5), (10, .bool j10)] ∧ St w0 [] wb [sl a4 c5 y3, bx g1 64 [.int .i64 x2.pages, .int .i64 x2.rent, .int .i64 x2.cpu]]) ?_ ?_
  · have h := hj10
    refine CW.draw (by kernel_rfl) ?_
    have hS5 := hS4.drew
    refine AW.u (i := 0) rfl (by kernel_rfl) rfl rfl (Pur.p rfl) ?_
    refine AW.take (i := 2) rfl (by kernel_rfl) rfl rfl (Ldr.boxN (bt := 64) (fr := (0, 0)) (cs := [.int .i64 x2.pages, .int .i64 x2.rent, .int .i64 x2.cpu]) ag64 rfl rfl) (St.cell (h := hS5) (i := 1) rfl) ?_
    replace ⟨y12, hy12, h⟩ := obind h
    refine AW.all (rs := [1, 7]) (by kernel_rfl) (by simp) ⟨?_, ?_, trivial⟩
    · have q := W_s_l6Sum (w0 := w8.drew) hy12 rfl (hS5.rB hr0_0)
      refine ⟨_, rfl, ?_⟩
      refine LW.call pl169 rfl rfl ?_
      refine Ret.mono q ?_
      rintro _ w17 ⟨rfl, hs⟩
      have hS6 := hS5.add hs
      refine LW.nil ⟨rfl, (.c (St.cell (h := hS6) (i := 1) rfl) Kept.n), ?_⟩
      replace ⟨y18, hy18, h⟩ := obind h
      refine AW.all (rs := [3, 7]) (by kernel_rfl) (by simp) ⟨?_, ?_, trivial⟩
      · have q := W_s_AmtAdd (w0 := w17) hy18
        refine ⟨_, rfl, ?_⟩
        refine LW.call pl168 rfl rfl ?_
        refine Ret.mono q ?_
        rintro _ w23 ⟨rfl, hs⟩
        have hS7 := hS6.add hs
        refine LW.nil ⟨rfl, (.w (by kernel_rfl) Kept.n), ?_⟩
        refine AW.u (i := 4) rfl (by kernel_rfl) rfl rfl (Pur.p rfl) ?_
        refine AW.u (i := 5) rfl (by kernel_rfl) rfl rfl (Pur.p rfl) ?_
        refine AW.u (i := 6) rfl (by kernel_rfl) rfl rfl (Pur.p rfl) ?_
        refine AW.one (i := 7) (by kernel_rfl) ?_
        refine ⟨_, rfl, ?_⟩
        refine LW.al hS7 fun g24 w25 hS8 => ?_
        refine LW.nil ⟨rfl, (.c (St.cell (h := hS8) (i := 2) rfl) Kept.n), ?_⟩
        refine AW.one (i := 8) (by kernel_rfl) ?_
        refine ⟨_, rfl, ?_⟩
        refine LW.st hS8 0 fun w26 hS9 => ?_
        refine LW.nil ⟨rfl, (.w (by kernel_rfl) Kept.n), ?_⟩
        refine AW.u (i := 9) rfl (by kernel_rfl) rfl rfl (Pur.p rfl) ?_
        refine AW.done (by kernel_rfl) ?_
        cases oi h
        exact ⟨⟨rfl, rfl, rfl, rfl, rfl, trivial⟩, hS9.pick [1, 2] rfl rfl⟩
      refine ⟨_, rfl, ?_⟩
      refine LW.al hS6 fun g27 w28 hS10 => ?_
      refine LW.nil ⟨rfl, (.c (St.cell (h := hS10) (i := 2) rfl) Kept.n), ?_⟩
      have q := W_s_AmtAdd (w0 := w28) hy18
      refine AW.one (i := 3) (by kernel_rfl) ?_
      refine ⟨_, rfl, ?_⟩
      refine LW.call pl168 rfl rfl ?_
      refine Ret.mono q ?_
      rintro _ w29 ⟨rfl, hs⟩
      have hS11 := hS10.add hs
      refine LW.nil ⟨rfl, (.w (by kernel_rfl) Kept.n), ?_⟩
      refine AW.u (i := 4) rfl (by kernel_rfl) rfl rfl (Pur.p rfl) ?_
      refine AW.u (i := 5) rfl (by kernel_rfl) rfl rfl (Pur.p rfl) ?_
      refine AW.u (i := 6) rfl (by kernel_rfl) rfl rfl (Pur.p rfl) ?_
      refine AW.one (i := 8) (by kernel_rfl) ?_
      refine ⟨_, rfl, ?_⟩
      refine LW.st hS11 0 fun w30 hS12 => ?_
      refine LW.nil ⟨rfl, (.w (by kernel_rfl) Kept.n), ?_⟩
      refine AW.u (i := 9) rfl (by kernel_rfl) rfl rfl (Pur.p rfl) ?_
      refine AW.done (by kernel_rfl) ?_
      cases oi h
      exact ⟨⟨rfl, rfl, rfl, rfl, rfl, trivial⟩, hS12.pick [1, 2] rfl rfl⟩
    refine ⟨_, rfl, ?_⟩
    refine LW.al hS5 fun g31 w32 hS13 => ?_
    refine LW.nil ⟨rfl, (.c (St.cell (h := hS13) (i := 2) rfl) Kept.n), ?_⟩
    have q := W_s_l6Sum (w0 := w32) hy12 rfl (hS13.rB hr0_0)
    refine AW.one (i := 1) (by kernel_rfl) ?_
    refine ⟨_, rfl, ?_⟩
    refine LW.call pl169 rfl rfl ?_
    refine Ret.mono q ?_
    rintro _ w33 ⟨rfl, hs⟩
    have hS14 := hS13.add hs
    refine LW.nil ⟨rfl, (.c (St.cell (h := hS14) (i := 2) rfl) Kept.n), ?_⟩
    replace ⟨y34, hy34, h⟩ := obind h
    have q := W_s_AmtAdd (w0 := w33) hy34
    refine AW.one (i := 3) (by kernel_rfl) ?_
    refine ⟨_, rfl, ?_⟩
    refine LW.call pl168 rfl rfl ?_
    refine Ret.mono q ?_
    rintro _ w35 ⟨rfl, hs⟩
    have hS15 := hS14.add hs
    refine LW.nil ⟨rfl, (.w (by kernel_rfl) Kept.n), ?_⟩
    refine AW.u (i := 4) rfl (by kernel_rfl) rfl rfl (Pur.p rfl) ?_
    refine AW.u (i := 5) rfl (by kernel_rfl) rfl rfl (Pur.p rfl) ?_
    refine AW.u (i := 6) rfl (by kernel_rfl) rfl rfl (Pur.p rfl) ?_
    refine AW.one (i := 8) (by kernel_rfl) ?_
    refine ⟨_, rfl, ?_⟩
    refine LW.st hS15 0 fun w36 hS16 => ?_
    refine LW.nil ⟨rfl, (.w (by kernel_rfl) Kept.n), ?_⟩
    refine AW.u (i := 9) rfl (by kernel_rfl) rfl rfl (Pur.p rfl) ?_
    refine AW.done (by kernel_rfl) ?_
    cases oi h
    exact ⟨⟨rfl, rfl, rfl, rfl, rfl, trivial⟩, hS16.pick [1, 2] rfl rfl⟩
  rintro e w37 ⟨hE, hS17⟩
  obtain ⟨e, rfl⟩ := hE.out
  have h := h11
  refine go ?_
  refine CW.cond rfl (fun hc38 => ?_) (fun hc38 => ?_)
  · replace h := bcT h hc38
    refine go ?_
    cases h
    exact And.intro trivial ⟨_, Res.two (resOne.t rfl) (resOne.t rfl), a4, c5, rfl, hS17.pick [0] rfl rfl⟩
  replace h := bcF h hc38
  refine go ?_
  replace ⟨y39, hy39, h⟩ := obind h
  refine LW.c0 (W_s_l6Live hy39 rfl (hS17.rB hr0_0)) hS17 fun w40 hS18 => ?_
  refine gs ?_
  obtain ⟨j41, hj41, h42⟩ := obind h
  refine CW.cut (fun e wb => En e [(0, .slice a0_0 x0.length c0_0), (1, .int .i64 j41), (5, .pointer (some ⟨g1, 0, none⟩)), (8, .slice a4 y3.length c5)] ∧ St w0 [] wb [sl a4 c5 y3, bx g1 64 [.int .i64 x2.pages, .int .i64 x2.rent, .int .i64 x2.cpu]]) ?_ ?_
  · have h := hj41
    refine CW.fl [0, 1, 5, 8, 32] fun e => ?_
    refine CW.cond rfl (fun hc43 => ?_) (fun hc43 => ?_)
    · replace h := bcT h hc43
      refine go ?_
      cases oi h
      exact ⟨⟨rfl, rfl, rfl, rfl, trivial⟩, hS18.pick [0, 1] rfl rfl⟩
    replace h := bcF h hc43
    refine go ?_
    cases oi h
    exact ⟨⟨rfl, rfl, rfl, rfl, trivial⟩, hS18.pick [0, 1] rfl rfl⟩
  rintro e w44 ⟨hE, hS19⟩
  obtain ⟨e, rfl⟩ := hE.out
  have h := h42
  refine gs ?_
  obtain ⟨j45, hj45, h46⟩ := obind h
  refine CW.cut (fun e wb => ∃ (j45g11 : Nat), En e [(1, .int .i64 j41), (8, .slice a4 y3.length c5), (11, .pointer (some ⟨j45g11, 0, none⟩))] ∧ St w0 [] wb [sl a4 c5 y3, bx j45g11 64 [.int .i64 j45.1, .int .i64 j45.2.1, .int .i64 j45.2.2]]) ?_ ?_
  · have h := hj45
    refine CW.draw (by kernel_rfl) ?_
    have hS20 := hS19.drew
    refine AW.u (i := 0) rfl (by kernel_rfl) rfl rfl (Pur.p rfl) ?_
    refine AW.u (i := 1) rfl (by kernel_rfl) rfl rfl (Pur.p rfl) ?_
    replace ⟨y47, hy47, h⟩ := obind h
    obtain ⟨b50, o51, cs52, hae, hb55, hp48, hq49, hd53, hk54⟩ := hr0_0.idx hy47
    subst hae
    obtain rfl := hd53
    refine AW.u (i := 2) rfl (by kernel_rfl) rfl rfl (Pur.ix Tryz.underlying58 sz152 rfl rfl hp48 hq49) ?_
    refine AW.u (i := 3) rfl (by kernel_rfl) rfl rfl (Pur.fa fo152_2 rfl) ?_
    refine AW.take (i := 4) rfl (by kernel_rfl) rfl rfl (Ldr.oldN w0 ag64 rfl rfl (fun j u hu => oldsub (m := 3) hk54 2 hu)) (hS20.same _ hb55.1 hb55.2) ?_
    refine AW.take (i := 5) rfl (by kernel_rfl) rfl rfl (Ldr.boxN (bt := 64) (fr := (0, 0)) (cs := [.int .i64 x2.pages, .int .i64 x2.rent, .int .i64 x2.cpu]) ag64 rfl rfl) (St.cell (h := hS20) (i := 1) rfl) ?_
    replace ⟨y56, hy56, h⟩ := obind h
    refine AW.all (rs := [6, 10]) (by kernel_rfl) (by simp) ⟨?_, ?_, trivial⟩
    · have q := W_s_AmtAdd (w0 := w44.drew) hy56
      refine ⟨_, rfl, ?_⟩
      refine LW.call pl168 rfl rfl ?_
      refine Ret.mono q ?_
      rintro _ w61 ⟨rfl, hs⟩
      have hS21 := hS20.add hs
      refine LW.nil ⟨rfl, (.w (by kernel_rfl) (.w (by kernel_rfl) Kept.n)), ?_⟩
      refine AW.u (i := 7) rfl (by kernel_rfl) rfl rfl (Pur.p rfl) ?_
      refine AW.u (i := 8) rfl (by kernel_rfl) rfl rfl (Pur.p rfl) ?_
      refine AW.u (i := 9) rfl (by kernel_rfl) rfl rfl (Pur.p rfl) ?_
      refine AW.one (i := 10) (by kernel_rfl) ?_
      refine ⟨_, rfl, ?_⟩
      refine LW.al hS21 fun g62 w63 hS22 => ?_
      refine LW.nil ⟨rfl, (.c (St.cell (h := hS22) (i := 2) rfl) (.c (hS22.same _ hb55.1 hb55.2) Kept.n)), ?_⟩
      refine AW.one (i := 11) (by kernel_rfl) ?_
      refine ⟨_, rfl, ?_⟩
      refine LW.st hS22 0 fun w64 hS23 => ?_
      refine LW.nil ⟨rfl, (.w (by kernel_rfl) (.w (by kernel_rfl) Kept.n)), ?_⟩
      refine AW.u (i := 12) rfl (by kernel_rfl) rfl rfl (Pur.p rfl) ?_
      refine AW.done (by kernel_rfl) ?_
      cases oi h
      exact ⟨g62, ⟨rfl, rfl, rfl, trivial⟩, hS23.pick [1, 0] rfl rfl⟩
    refine ⟨_, rfl, ?_⟩
    refine LW.al hS20 fun g65 w66 hS24 => ?_
    refine LW.nil ⟨rfl, (.c (St.cell (h := hS24) (i := 2) rfl) (.c (hS24.same _ hb55.1 hb55.2) Kept.n)), ?_⟩
    have q := W_s_AmtAdd (w0 := w66) hy56
    refine AW.one (i := 6) (by kernel_rfl) ?_
    refine ⟨_, rfl, ?_⟩
    refine LW.call pl168 rfl rfl ?_
    refine Ret.mono q ?_
    rintro _ w67 ⟨rfl, hs⟩
    have hS25 := hS24.add hs
    refine LW.nil ⟨rfl, (.w (by kernel_rfl) (.w (by kernel_rfl) Kept.n)), ?_⟩
    refine AW.u (i := 7) rfl (by kernel_rfl) rfl rfl (Pur.p rfl) ?_
    refine AW.u (i := 8) rfl (by kernel_rfl) rfl rfl (Pur.p rfl) ?_
    refine AW.u (i := 9) rfl (by kernel_rfl) rfl rfl (Pur.p rfl) ?_
    refine AW.one (i := 11) (by kernel_rfl) ?_
    refine ⟨_, rfl, ?_⟩
    refine LW.st hS25 0 fun w68 hS26 => ?_
    refine LW.nil ⟨rfl, (.w (by kernel_rfl) (.w (by kernel_rfl) Kept.n)), ?_⟩
    refine AW.u (i := 12) rfl (by kernel_rfl) rfl rfl (Pur.p rfl) ?_
    refine AW.done (by kernel_rfl) ?_
    cases oi h
    exact ⟨g65, ⟨rfl, rfl, rfl, trivial⟩, hS26.pick [1, 0] rfl rfl⟩
  rintro e w69 ⟨j45g11, hE, hS27⟩
  obtain ⟨e, rfl⟩ := hE.out
  have h := h46
  refine go ?_
  replace ⟨y70, hy70, h⟩ := obind h
  obtain ⟨b73, o74, hae, hp71, hq72⟩ := hS27.ownIdx (α := DRes) (i := 0) rfl hy70
  subst hae
  refine LW.u (Pur.ix Tryz.underlying58 sz152 rfl rfl hp71 hq72) rfl ?_
  refine go ?_
  replace ⟨y75, hy75, h⟩ := obind h
  refine LW.stE (M := []) (L := [sl (some ⟨b73, o74, none⟩) c5 y3, bx j45g11 64 [.int .i64 j45.1, .int .i64 j45.2.1, .int .i64 j45.2.2]]) (z := y70) (z' := (DRes.mk y70.live y70.parent (DAmt.mk j45.1 j45.2.1 j45.2.2))) (o := 2) hS27 (i := 0) rfl hy70 ag64 rfl (by show _ = o74 + (j41 : Int).toNat * 5 + 2; omega) rfl rfl rfl rfl (leafF (fun w cs F hF => by obtain ⟨rfl, rfl⟩ := hF; exact ⟨rfl, rfl⟩)) ?_
  intro w76 hS28 hf
  rw [Option.some.inj hy75] at hS28
  refine go ?_
  replace h := Option.some.inj h
  subst h
  exact And.intro trivial ⟨_, Res.two (resOne.t rfl) (resOne.t rfl), (some ⟨b73, o74, none⟩), c5, (show (.tuple #[.slice (some ⟨b73, o74, none⟩) y3.length c5, .bool true] : Value) = .tuple #[.slice (some ⟨b73, o74, none⟩) y75.length c5, .bool true] by rw [show y3.length = y75.length from (len_set (Option.some.inj hy75))]), hS28.pick [0] rfl rfl⟩

end Go.Kx
