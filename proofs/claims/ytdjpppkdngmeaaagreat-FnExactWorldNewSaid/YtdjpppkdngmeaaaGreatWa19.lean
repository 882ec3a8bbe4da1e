/- Each call returns what the plain function says. Printed by drive.py. -/
import Derived.Test.YtdjpppkdngmeaaaGreatFa
import Derived.Test.YtdjpppkdngmeaaaGreatPu
import Derived.Test.YtdjpppkdngmeaaaGreatWa9
import Derived.Test.YtdjpppkdngmeaaaGreatWa12
import Derived.Test.YtdjpppkdngmeaaaGreatWa13
import Derived.Test.YtdjpppkdngmeaaaGreatWa16
import Derived.Test.YtdjpppkdngmeaaaGreatWa17
import Derived.Test.YtdjpppkdngmeaaaGreatWa18
namespace Go.Kx
open Go Go.RowKit Go.Proofs
set_option maxRecDepth 10000
set_option maxHeartbeats 2000000
set_option linter.unusedVariables false
set_option linter.unusedSimpArgs false
theorem W_i_WorldNew {w0 : World} {N : Nat} {x0 : List DBoot} {r : DWorld} (h : F_i_WorldNew N x0 = some r) {a0_0 : Option Addr} {n0_0 c0_0 : Nat} (hn0_0 : n0_0 = x0.length) (hr0_0 : rdS (Bor w0 []) w0 a0_0 c0_0 x0) :
    Ret Tryz.prog 32 #[.slice a0_0 n0_0 c0_0] w0 (fun v w => ∃ ar0_1 cr0_1, v = .agg #[.int .i64 r.now, .slice ar0_1 r.parts.length cr0_1] ∧ St w0 [] w [sl ar0_1 cr0_1 r.parts]) := by
  subst hn0_0
  unfold F_i_WorldNew at h
  refine Ret.fn Tryz.func32 fun e => ?_
  have hS1 := St.start w0
  refine go ?_
  refine LW.al hS1 fun g1 w2 hS2 => ?_
  refine go ?_
  refine LW.u (Pur.build (vs := []) (cs := #[.int .i64 0, .slice none 0 0]) rfl (by kernel_rfl)) rfl ?_
  refine LW.al hS2 fun g3 w4 hS3 => ?_
  refine LW.st hS3 0 fun w5 hS4 => ?_
  refine go ?_
  replace ⟨y6, hy6, h⟩ := obind h
  refine LW.c0 (W_i_BootOk hy6 rfl (hS4.rB hr0_0)) hS4 fun w7 hS5 => ?_
  refine go ?_
  refine CW.cond rfl (fun hc8 => ?_) (fun hc8 => ?_)
  · replace h := bcT h hc8
    refine go ?_
    refine LW.st hS5 1 fun w9 hS6 => ?_
    refine go ?_
    cases h
    have hS7 := hS6.nil (α := DPart)
    exact And.intro trivial ⟨_, Res.one (resOne.b hS7 2 rfl ag61 rfl rfl), none, 0, rfl, hS7.pick [0] rfl rfl⟩
  replace h := bcF h hc8
  refine go ?_
  have hS8 := hS5.nil (α := DPart)
  obtain ⟨o54, ho54, h55⟩ := obind h
  refine CW.mono (CW.iter (σ := Int × (List DPart)) (ρ := Int × (List DPart)) (fun s10 e wb => ∃ (s10a0 : Option Addr), ∃ (s10c0 : Nat), En e [(2, .pointer (some ⟨g1, 0, none⟩)), (3, .pointer (some ⟨g3, 0, none⟩)), (13, .slice a0_0 x0.length c0_0), (14, .int .i64 (x0.length : Int)), (15, .int .i64 s10.1)] ∧ St w0 [] wb [bx g3 61 [.int .i64 0, .slice s10a0 s10.2.length s10c0], bx g1 61 [.int .i64 0, .slice none 0 0], sl s10a0 s10c0 s10.2]) (fun s10 x e wb => x = .exit 0 ∧ ∃ (s10a0 : Option Addr), ∃ (s10c0 : Nat), En e [(2, .pointer (some ⟨g1, 0, none⟩)), (3, .pointer (some ⟨g3, 0, none⟩))] ∧ St w0 [] wb [bx g3 61 [.int .i64 0, .slice s10a0 s10.2.length s10c0], bx g1 61 [.int .i64 0, .slice none 0 0], sl s10a0 s10c0 s10.2]) ?_ N (0, []) _ _ _ ⟨none, 0, ⟨rfl, rfl, rfl, rfl, rfl, trivial⟩, hS8.pick [1, 2, 0] rfl rfl⟩ ho54) ?_
  · intro s10 e w11 o hM h
    obtain ⟨s10a0, s10c0, hE, hS9⟩ := hM
    obtain ⟨e, rfl⟩ := hE.out
    refine go ?_
    refine CW.cond rfl (fun hc12 => ?_) (fun hc12 => ?_)
    · replace h := bcT h hc12
      refine go ?_
      replace ⟨y13, hy13, h⟩ := obind h
      obtain ⟨b16, o17, cs18, hae, hb21, hp14, hq15, hd19, hk20⟩ := hr0_0.idx hy13
      subst hae
      obtain ⟨a22, c23, a25, c26, rfl, hr24, hr27⟩ := hd19
      refine LW.u (Pur.ix Tryz.underlying68 sz114 rfl rfl hp14 hq15) rfl ?_
      refine LW.l (Ldr.oldN w0 ag114 rfl rfl (fun j u hu => hk20 j u hu)) (hS9.same _ hb21.1 hb21.2) rfl ?_
      refine LW.al hS9 fun g28 w29 hS10 => ?_
      refine LW.st hS10 0 fun w30 hS11 => ?_
      refine go ?_
      replace ⟨y31, hy31, h⟩ := obind h
      refine LW.cl (W_i_PartNew hy31 rfl (hS11.rB hr24) rfl (hS11.rB hr27)) ?_
      rintro _ w44 ⟨a32, c33, a34, c35, a36, c37, a38, c39, a40, c41, a42, c43, rfl, hs⟩
      have hS12 := hS11.add hs
      refine go ?_
      refine LW.al hS12 fun g45 w46 hS13 => ?_
      refine LW.st hS13 0 fun w47 hS14 => ?_
      refine go ?_
      refine LW.fl [2, 3, 13, 14, 15, 25, 26] fun e => ?_
      have hS15 := hS14.pick (M := [sl a32 c33 y31.1.label.levels, sl a34 c35 y31.1.own, sl a36 c37 y31.1.tree, sl a38 c39 y31.1.heap.arena, sl a40 c41 y31.1.heap.gc.grey, sl a42 c43 y31.1.taps] ++ [bx g45 47 [.slice a32 y31.1.label.levels.length c33, .slice a34 y31.1.own.length c35, .slice a36 y31.1.tree.length c37, .slice a38 y31.1.heap.arena.length c39, .int .i64 y31.1.heap.gc.phase, .int .i64 y31.1.heap.gc.pos, .int .i64 y31.1.heap.gc.round, .slice a40 y31.1.heap.gc.grey.length c41, .slice a42 y31.1.taps.length c43, .int .i64 y31.1.next, .int .i64 y31.1.want, .int .i64 y31.1.spent.pages, .int .i64 y31.1.spent.rent, .int .i64 y31.1.spent.cpu, .int .i64 y31.1.press, .int .i64 y31.1.lost], bx g28 114 [.slice a22 y13.label.levels.length c23, .slice a25 y13.own.length c26, .int .i64 y13.amt.pages, .int .i64 y13.amt.rent, .int .i64 y13.amt.cpu], bx g3 61 [.int .i64 0, .slice s10a0 s10.2.length s10c0], bx g1 61 [.int .i64 0, .slice none 0 0], sl s10a0 s10c0 s10.2]) [1, 2, 3, 4, 5, 6, 0, 7, 8, 9, 10] rfl rfl
      replace ⟨y48, hy48, h⟩ := obind h
      refine LW.app1 (M := [sl a32 c33 y31.1.label.levels, sl a34 c35 y31.1.own, sl a36 c37 y31.1.tree, sl a38 c39 y31.1.heap.arena, sl a40 c41 y31.1.heap.gc.grey, sl a42 c43 y31.1.taps]) (L := [bx g45 47 [.slice a32 y31.1.label.levels.length c33, .slice a34 y31.1.own.length c35, .slice a36 y31.1.tree.length c37, .slice a38 y31.1.heap.arena.length c39, .int .i64 y31.1.heap.gc.phase, .int .i64 y31.1.heap.gc.pos, .int .i64 y31.1.heap.gc.round, .slice a40 y31.1.heap.gc.grey.length c41, .slice a42 y31.1.taps.length c43, .int .i64 y31.1.next, .int .i64 y31.1.want, .int .i64 y31.1.spent.pages, .int .i64 y31.1.spent.rent, .int .i64 y31.1.spent.cpu, .int .i64 y31.1.press, .int .i64 y31.1.lost], bx g28 114 [.slice a22 y13.label.levels.length c23, .slice a25 y13.own.length c26, .int .i64 y13.amt.pages, .int .i64 y13.amt.rent, .int .i64 y13.amt.cpu], bx g3 61 [.int .i64 0, .slice s10a0 s10.2.length s10c0], bx g1 61 [.int .i64 0, .slice none 0 0], sl s10a0 s10c0 s10.2]) (vs := #[.slice a32 y31.1.label.levels.length c33, .slice a34 y31.1.own.length c35, .slice a36 y31.1.tree.length c37, .slice a38 y31.1.heap.arena.length c39, .int .i64 y31.1.heap.gc.phase, .int .i64 y31.1.heap.gc.pos, .int .i64 y31.1.heap.gc.round, .slice a40 y31.1.heap.gc.grey.length c41, .slice a42 y31.1.taps.length c43, .int .i64 y31.1.next, .int .i64 y31.1.want, .int .i64 y31.1.spent.pages, .int .i64 y31.1.spent.rent, .int .i64 y31.1.spent.cpu, .int .i64 y31.1.press, .int .i64 y31.1.lost]) (i := 4) sT59 rfl (by kernel_rfl) rfl rfl hy48 hS15 rfl (fun w G hG => ⟨a32, c33, a34, c35, a36, c37, a38, c39, a40, c41, a42, c43, rfl, hG⟩) rfl rfl ?_
      intro v51 a49 c50 w52 hS16 hf
      refine go ?_
      refine LW.st hS16 2 fun w53 hS17 => ?_
      refine go ?_
      cases oi h
      exact ⟨rfl, ⟨a49, c50, ⟨rfl, rfl, rfl, rfl, rfl, trivial⟩, hS17.pick [2, 3, 4] rfl rfl⟩⟩
    replace h := bcF h hc12
    refine go ?_
    cases oi h
    exact ⟨trivial, rfl, ⟨s10a0, s10c0, ⟨rfl, rfl, trivial⟩, hS9.pick [0, 1, 2] rfl rfl⟩⟩
  intro x e w56 hM
  obtain ⟨rfl, hM⟩ := hM
  obtain ⟨s10a0, s10c0, hE, hS18⟩ := hM
  obtain ⟨e, rfl⟩ := hE.out
  have h := h55
  refine go ?_
  refine LW.st hS18 1 fun w57 hS19 => ?_
  refine go ?_
  cases h
  exact And.intro trivial ⟨_, Res.one (resOne.b hS19 1 rfl ag61 rfl rfl), s10a0, s10c0, rfl, hS19.pick [2] rfl rfl⟩

theorem W_l_markPartBootS {w0 : World} {F : List Nat} {N : Nat} {x0 : List DBoot} {x1 : Int} {r : Int × (List DBoot)} (h : F_l_markPartBootS N x0 x1 = some r) {a0_0 : Option Addr} {n0_0 c0_0 : Nat} (hn0_0 : n0_0 = x0.length) (hS : St w0 F w0 [sl a0_0 c0_0 x0]) :
    Ret Tryz.prog 33 #[.slice a0_0 n0_0 c0_0, .int .i64 x1] w0 (fun v w => v = .int .i64 r.1 ∧ St w0 F w [sl a0_0 c0_0 r.2]) := by
  subst hn0_0
  unfold F_l_markPartBootS at h
  refine Ret.fn Tryz.func33 fun e => ?_
  refine go ?_
  obtain ⟨o50, ho50, h51⟩ := obind h
  refine CW.mono (CW.iter (σ := (List DBoot) × Int × Int) (ρ := (List DBoot) × Int × Int) (fun s1 e wb => En e [(0, .slice a0_0 s1.1.length c0_0), (1, .int .i64 s1.2.1), (5, .int .i64 s1.2.2)] ∧ St w0 F wb [sl a0_0 c0_0 s1.1]) (fun s1 x e wb => x = .exit 0 ∧ En e [(1, .int .i64 s1.2.1)] ∧ St w0 F wb [sl a0_0 c0_0 s1.1]) ?_ N (x0, x1, 0) _ _ _ ⟨⟨rfl, rfl, rfl, trivial⟩, hS.pick [0] rfl rfl⟩ ho50) ?_
  · intro s1 e w2 o hM h
    obtain ⟨hE, hS1⟩ := hM
    obtain ⟨e, rfl⟩ := hE.out
    refine go ?_
    refine CW.cond rfl (fun hc3 => ?_) (fun hc3 => ?_)
    · replace h := bcT h hc3
      refine go ?_
      replace ⟨y4, hy4, h⟩ := obind h
      obtain ⟨b7, o8, hae, hp5, hq6⟩ := hS1.ownIdx (α := DBoot) (i := 0) rfl hy4
      subst hae
      refine LW.u (Pur.ix Tryz.underlying68 sz114 rfl rfl hp5 hq6) rfl ?_
      refine go ?_
      obtain ⟨F9, ho10, hS2⟩ := hS1.freeze (α := DBoot) 0 rfl
      obtain ⟨b11, o12, cs13, hae, hb16, _, _, hd14, hk15⟩ := ho10.rdF.idx hy4
      cases hae
      obtain ⟨a17, c18, a20, c21, rfl, hr19, hr22⟩ := hd14
      refine LW.l (Ldr.old w2 ag22 rfl (hk15 0 _ rfl)) (hS2.zC 0 rfl hb16) rfl ?_
      refine go ?_
      replace ⟨y23, hy23, h⟩ := obind h
      obtain ⟨q36, hy23', hq37⟩ := obind hy23
      obtain ⟨hl38, hq37⟩ := keepL_some hq37
      rw [Option.some.inj hq37] at hy23' hl38
      have hn24 := fun (j : Nat) (u : Value) (hu : ([.slice a17 y4.label.levels.length c18, .slice a20 y4.own.length c21, .int .i64 y4.amt.pages, .int .i64 y4.amt.rent, .int .i64 y4.amt.cpu] : List Value)[j]? = some u) => (World.cell?_of_block (hS2.zC 0 rfl hb16)).trans (hk15 j u hu)
      have hS3 := hS2.thaw (α := DBoot) 0 rfl ho10
      obtain ⟨Fx25, ho26, hf27⟩ := hS3.focus (α := DBoot) (cs := [.slice a17 y4.label.levels.length c18, .slice a20 y4.own.length c21, .int .i64 y4.amt.pages, .int .i64 y4.amt.rent, .int .i64 y4.amt.cpu]) 0 rfl hy4 rfl hn24
      obtain ⟨a30, c31, a32, c33, hc28, hH29⟩ := ho26
      cases hc28
      have hS4 := hf27 [sl a17 c18 y4.label.levels, sl a20 c21 y4.own] hH29
      have hS5 := hS4.pick (M := [sl a17 c18 y4.label.levels] ++ [sl a20 c21 y4.own, hole DBoot (some ⟨b7, o8, none⟩) c0_0 s1.1 (s1.2.2 : Int).toNat [.slice a17 y4.label.levels.length c18, .slice a20 y4.own.length c21, .int .i64 y4.amt.pages, .int .i64 y4.amt.rent, .int .i64 y4.amt.cpu]]) [0, 1, 2] rfl rfl
      obtain ⟨F34, hL35⟩ := St.lend (L := [sl a17 c18 y4.label.levels]) (M := [sl a20 c21 y4.own, hole DBoot (some ⟨b7, o8, none⟩) c0_0 s1.1 (s1.2.2 : Int).toNat [.slice a17 y4.label.levels.length c18, .slice a20 y4.own.length c21, .int .i64 y4.amt.pages, .int .i64 y4.amt.rent, .int .i64 y4.amt.cpu]]) hS5
      refine LW.cl (W_l_markIntS hy23' rfl hL35.st) ?_
      rintro _ w39 ⟨rfl, hs⟩
      have hS6 := hL35.back _ _ hs
      refine go ?_
      refine LW.u (Pur.ix Tryz.underlying68 sz114 rfl rfl hp5 hq6) rfl ?_
      refine go ?_
      refine LW.l (Ldr.old w39 ag22 rfl (hS6.holeC 2 rfl (j := 1) rfl)) rfl rfl ?_
      refine go ?_
      replace ⟨y40, hy40, h⟩ := obind h
      obtain ⟨q43, hy40', hq44⟩ := obind hy40
      obtain ⟨hl45, hq44⟩ := keepL_some hq44
      rw [Option.some.inj hq44] at hy40' hl45
      rw [show y4.label.levels.length = y23.2.length from hl38] at hS6
      have hS7 := hS6.pick (M := [sl a20 c21 y4.own] ++ [sl a17 c18 y23.2, hole DBoot (some ⟨b7, o8, none⟩) c0_0 s1.1 (s1.2.2 : Int).toNat [.slice a17 y23.2.length c18, .slice a20 y4.own.length c21, .int .i64 y4.amt.pages, .int .i64 y4.amt.rent, .int .i64 y4.amt.cpu]]) [1, 0, 2] rfl rfl
      obtain ⟨F41, hL42⟩ := St.lend (L := [sl a20 c21 y4.own]) (M := [sl a17 c18 y23.2, hole DBoot (some ⟨b7, o8, none⟩) c0_0 s1.1 (s1.2.2 : Int).toNat [.slice a17 y23.2.length c18, .slice a20 y4.own.length c21, .int .i64 y4.amt.pages, .int .i64 y4.amt.rent, .int .i64 y4.amt.cpu]]) hS7
      refine LW.cl (W_l_markIntS hy40' rfl hL42.st) ?_
      rintro _ w46 ⟨rfl, hs⟩
      have hS8 := hL42.back _ _ hs
      refine go ?_
      refine LW.fl [0, 1, 5, 27, 28, 29] fun e => ?_
      refine LW.u (Pur.ix Tryz.underlying68 sz114 rfl rfl hp5 hq6) rfl ?_
      refine go ?_
      refine LW.sth (α := DBoot) (vs := [.int .i64 y40.1]) hS8 2 rfl ag3 rfl (by show _ = o8 + (s1.2.2 : Int).toNat * 5 + 2; omega) rfl rfl rfl rfl ?_
      intro w47 hS9 hf
      refine go ?_
      refine LW.u (Pur.ix Tryz.underlying68 sz114 rfl rfl hp5 hq6) rfl ?_
      refine go ?_
      refine LW.sth (α := DBoot) (vs := [.int .i64 (IntKind.i64.wrap (y40.1 + 1))]) hS9 2 rfl ag3 rfl (by show _ = o8 + (s1.2.2 : Int).toNat * 5 + 3; omega) rfl rfl rfl rfl ?_
      intro w48 hS10 hf
      refine go ?_
      refine LW.u (Pur.ix Tryz.underlying68 sz114 rfl rfl hp5 hq6) rfl ?_
      refine go ?_
      refine LW.sth (α := DBoot) (vs := [.int .i64 (IntKind.i64.wrap ((IntKind.i64.wrap (y40.1 + 1)) + 1))]) hS10 2 rfl ag3 rfl (by show _ = o8 + (s1.2.2 : Int).toNat * 5 + 4; omega) rfl rfl rfl rfl ?_
      intro w49 hS11 hf
      refine go ?_
      rw [show y4.own.length = y40.2.length from hl45] at hS11
      have hS12 := hS11.pick (M := [sl a17 c18 y23.2, sl a20 c21 y40.2] ++ [hole DBoot (some ⟨b7, o8, none⟩) c0_0 s1.1 (s1.2.2 : Int).toNat [.slice a17 y23.2.length c18, .slice a20 y40.2.length c21, .int .i64 y40.1, .int .i64 (IntKind.i64.wrap (y40.1 + 1)), .int .i64 (IntKind.i64.wrap ((IntKind.i64.wrap (y40.1 + 1)) + 1))]]) [1, 0, 2] rfl rfl
      have hS13 := hS12.unfocus (M := [sl a17 c18 y23.2, sl a20 c21 y40.2]) (L := [hole DBoot (some ⟨b7, o8, none⟩) c0_0 s1.1 (s1.2.2 : Int).toNat [.slice a17 y23.2.length c18, .slice a20 y40.2.length c21, .int .i64 y40.1, .int .i64 (IntKind.i64.wrap (y40.1 + 1)), .int .i64 (IntKind.i64.wrap ((IntKind.i64.wrap (y40.1 + 1)) + 1))]]) (y := (DBoot.mk (DLabel.mk y23.2) y40.2 (DAmt.mk y40.1 (IntKind.i64.wrap (y40.1 + 1)) (IntKind.i64.wrap ((IntKind.i64.wrap (y40.1 + 1)) + 1))))) 0 rfl (fun w G hG => ⟨a17, c18, a20, c21, rfl, hG⟩)
      cases oi h
      exact ⟨rfl, ⟨⟨(show (.slice (some ⟨b7, o8, none⟩) s1.1.length c0_0 : Value) = .slice (some ⟨b7, o8, none⟩) ((s1.1.set (s1.2.2 : Int).toNat (DBoot.mk (DLabel.mk y23.2) y40.2 (DAmt.mk y40.1 (IntKind.i64.wrap (y40.1 + 1)) (IntKind.i64.wrap ((IntKind.i64.wrap (y40.1 + 1)) + 1))))).length) c0_0 by rw [show s1.1.length = (s1.1.set (s1.2.2 : Int).toNat (DBoot.mk (DLabel.mk y23.2) y40.2 (DAmt.mk y40.1 (IntKind.i64.wrap (y40.1 + 1)) (IntKind.i64.wrap ((IntKind.i64.wrap (y40.1 + 1)) + 1))))).length from (len_set rfl)]), rfl, rfl, trivial⟩, hS13.pick [0] rfl rfl⟩⟩
    replace h := bcF h hc3
    refine go ?_
    cases oi h
    exact ⟨trivial, rfl, ⟨⟨rfl, trivial⟩, hS1.pick [0] rfl rfl⟩⟩
  intro x e w52 hM
  obtain ⟨rfl, hM⟩ := hM
  obtain ⟨hE, hS14⟩ := hM
  obtain ⟨e, rfl⟩ := hE.out
  have h := h51
  refine go ?_
  replace h := Option.some.inj h
  subst h
  exact And.intro trivial ⟨_, Res.one (resOne.t rfl), rfl, hS14.pick [0] rfl rfl⟩

theorem W_l_heldResS {w0 : World} {N : Nat} {x0 : List DRes} {x1 : Int} {r : Int} (h : F_l_heldResS N x0 x1 = some r) {a0_0 : Option Addr} {n0_0 c0_0 : Nat} (hn0_0 : n0_0 = x0.length) (hr0_0 : rdS (Bor w0 []) w0 a0_0 c0_0 x0) :
    Ret Tryz.prog 138 #[.slice a0_0 n0_0 c0_0, .int .i64 x1] w0 (fun v w => v = .int .i64 r ∧ St w0 [] w []) := by
  subst hn0_0
  unfold F_l_heldResS at h
  refine Ret.fn Tryz.func138 fun e => ?_
  have hS1 := St.start w0
  refine go ?_
  obtain ⟨o18, ho18, h19⟩ := obind h
  refine CW.mono (CW.iter (σ := Int × Int) (ρ := (Int × Int) ⊕ Int) (fun s1 e wb => En e [(0, .slice a0_0 x0.length c0_0), (1, .int .i64 s1.1), (5, .int .i64 s1.2)] ∧ St w0 [] wb []) (fun o x e wb => match o with | .inl s1 => x = .exit 0 ∧ En e [(1, .int .i64 s1.1)] ∧ St w0 [] wb [] | .inr r => x = .ret ∧ ∃ u, u = r ∧ ∃ v, Res Tryz.prog Tryz.f138.results e wb v ∧ v = .int .i64 u ∧ St w0 [] wb []) ?_ N (x1, 0) _ _ _ ⟨⟨rfl, rfl, rfl, trivial⟩, hS1.pick [] rfl rfl⟩ ho18) ?_
  · intro s1 e w2 o hM h
    obtain ⟨hE, hS2⟩ := hM
    obtain ⟨e, rfl⟩ := hE.out
    refine go ?_
    refine CW.cond rfl (fun hc3 => ?_) (fun hc3 => ?_)
    · replace h := bcT h hc3
      refine go ?_
      replace ⟨y4, hy4, h⟩ := obind h
      obtain ⟨b7, o8, cs9, hae, hb12, hp5, hq6, hd10, hk11⟩ := hr0_0.idx hy4
      subst hae
      obtain rfl := hd10
      refine LW.u (Pur.ix Tryz.underlying39 sz87 rfl rfl hp5 hq6) rfl ?_
      refine go ?_
      refine LW.l (Ldr.old w0 ag4 rfl (hk11 0 _ rfl)) (hS2.same _ hb12.1 hb12.2) rfl ?_
      refine go ?_
      refine LW.u (Pur.rem rfl rfl (by decide)) rfl ?_
      refine go ?_
      refine LW.u (Pur.bne Tryz.underlying4 rfl rfl) rfl ?_
      refine go ?_
      refine CW.fl [0, 1, 5, 20] fun e => ?_
      refine CW.cond rfl (fun hc13 => ?_) (fun hc13 => ?_)
      · replace h := bcT h hc13
        refine go ?_
        cases oi h
        exact ⟨trivial, rfl, _, rfl, ⟨_, Res.one (resOne.t rfl), rfl, hS2.pick [] rfl rfl⟩⟩
      replace h := bcF h hc13
      refine go ?_
      refine LW.u (Pur.ix Tryz.underlying39 sz87 rfl rfl hp5 hq6) rfl ?_
      refine go ?_
      refine LW.l (Ldr.old w0 ag3 rfl (hk11 1 _ rfl)) (hS2.same _ hb12.1 hb12.2) rfl ?_
      refine go ?_
      refine CW.cond rfl (fun hc14 => ?_) (fun hc14 => ?_)
      · replace h := bcT h hc14
        refine go ?_
        cases oi h
        exact ⟨trivial, rfl, _, rfl, ⟨_, Res.one (resOne.t rfl), rfl, hS2.pick [] rfl rfl⟩⟩
      replace h := bcF h hc14
      refine go ?_
      refine LW.u (Pur.ix Tryz.underlying39 sz87 rfl rfl hp5 hq6) rfl ?_
      refine go ?_
      refine LW.l (Ldr.old w0 ag3 rfl (hk11 2 _ rfl)) (hS2.same _ hb12.1 hb12.2) rfl ?_
      refine go ?_
      refine CW.fl [0, 1, 5, 39] fun e => ?_
      refine CW.cond rfl (fun hc15 => ?_) (fun hc15 => ?_)
      · replace h := bcT h hc15
        refine go ?_
        cases oi h
        exact ⟨trivial, rfl, _, rfl, ⟨_, Res.one (resOne.t rfl), rfl, hS2.pick [] rfl rfl⟩⟩
      replace h := bcF h hc15
      refine go ?_
      refine LW.u (Pur.ix Tryz.underlying39 sz87 rfl rfl hp5 hq6) rfl ?_
      refine go ?_
      refine LW.l (Ldr.old w0 ag3 rfl (hk11 3 _ rfl)) (hS2.same _ hb12.1 hb12.2) rfl ?_
      refine go ?_
      refine CW.cond rfl (fun hc16 => ?_) (fun hc16 => ?_)
      · replace h := bcT h hc16
        refine go ?_
        cases oi h
        exact ⟨trivial, rfl, _, rfl, ⟨_, Res.one (resOne.t rfl), rfl, hS2.pick [] rfl rfl⟩⟩
      replace h := bcF h hc16
      refine go ?_
      refine LW.u (Pur.ix Tryz.underlying39 sz87 rfl rfl hp5 hq6) rfl ?_
      refine go ?_
      refine LW.l (Ldr.old w0 ag3 rfl (hk11 4 _ rfl)) (hS2.same _ hb12.1 hb12.2) rfl ?_
      refine go ?_
      refine CW.fl [0, 1, 5, 59] fun e => ?_
      refine CW.cond rfl (fun hc17 => ?_) (fun hc17 => ?_)
      · replace h := bcT h hc17
        refine go ?_
        cases oi h
        exact ⟨trivial, rfl, _, rfl, ⟨_, Res.one (resOne.t rfl), rfl, hS2.pick [] rfl rfl⟩⟩
      replace h := bcF h hc17
      refine go ?_
      cases oi h
      exact ⟨rfl, ⟨⟨rfl, rfl, rfl, trivial⟩, hS2.pick [] rfl rfl⟩⟩
    replace h := bcF h hc3
    refine go ?_
    cases oi h
    exact ⟨trivial, rfl, ⟨⟨rfl, trivial⟩, hS2.pick [] rfl rfl⟩⟩
  intro x e w20 hM
  rcases o18 with o18 | r21
  · obtain ⟨rfl, hM⟩ := hM
    obtain ⟨hE, hS3⟩ := hM
    obtain ⟨e, rfl⟩ := hE.out
    have h := h19
    refine go ?_
    cases h
    exact And.intro trivial ⟨_, Res.one (resOne.t rfl), rfl, hS3.pick [] rfl rfl⟩
  obtain ⟨rfl, u, rfl, hM⟩ := hM
  cases h19
  exact And.intro trivial hM

theorem W_l_heldMsgS {w0 : World} {N : Nat} {x0 : List DMsg} {x1 : Int} {r : Int} (h : F_l_heldMsgS N x0 x1 = some r) {a0_0 : Option Addr} {n0_0 c0_0 : Nat} (hn0_0 : n0_0 = x0.length) (hr0_0 : rdS (Bor w0 []) w0 a0_0 c0_0 x0) :
    Ret Tryz.prog 170 #[.slice a0_0 n0_0 c0_0, .int .i64 x1] w0 (fun v w => v = .int .i64 r ∧ St w0 [] w []) := by
  subst hn0_0
  unfold F_l_heldMsgS at h
  refine Ret.fn Tryz.func170 fun e => ?_
  have hS1 := St.start w0
  refine go ?_
  obtain ⟨o15, ho15, h16⟩ := obind h
  refine CW.mono (CW.iter (σ := Int × Int) (ρ := (Int × Int) ⊕ Int) (fun s1 e wb => En e [(0, .slice a0_0 x0.length c0_0), (1, .int .i64 s1.1), (5, .int .i64 s1.2)] ∧ St w0 [] wb []) (fun o x e wb => match o with | .inl s1 => x = .exit 0 ∧ En e [(1, .int .i64 s1.1)] ∧ St w0 [] wb [] | .inr r => x = .ret ∧ ∃ u, u = r ∧ ∃ v, Res Tryz.prog Tryz.f170.results e wb v ∧ v = .int .i64 u ∧ St w0 [] wb []) ?_ N (x1, 0) _ _ _ ⟨⟨rfl, rfl, rfl, trivial⟩, hS1.pick [] rfl rfl⟩ ho15) ?_
  · intro s1 e w2 o hM h
    obtain ⟨hE, hS2⟩ := hM
    obtain ⟨e, rfl⟩ := hE.out
    refine go ?_
    refine CW.cond rfl (fun hc3 => ?_) (fun hc3 => ?_)
    · replace h := bcT h hc3
      refine go ?_
      replace ⟨y4, hy4, h⟩ := obind h
      obtain ⟨b7, o8, cs9, hae, hb12, hp5, hq6, hd10, hk11⟩ := hr0_0.idx hy4
      subst hae
      obtain rfl := hd10
      refine LW.u (Pur.ix Tryz.underlying83 sz187 rfl rfl hp5 hq6) rfl ?_
      refine go ?_
      refine LW.l (Ldr.old w0 ag3 rfl (hk11 0 _ rfl)) (hS2.same _ hb12.1 hb12.2) rfl ?_
      refine go ?_
      refine CW.fl [0, 1, 5, 18] fun e => ?_
      refine CW.cond rfl (fun hc13 => ?_) (fun hc13 => ?_)
      · replace h := bcT h hc13
        refine go ?_
        cases oi h
        exact ⟨trivial, rfl, _, rfl, ⟨_, Res.one (resOne.t rfl), rfl, hS2.pick [] rfl rfl⟩⟩
      replace h := bcF h hc13
      refine go ?_
      refine LW.u (Pur.ix Tryz.underlying83 sz187 rfl rfl hp5 hq6) rfl ?_
      refine go ?_
      refine LW.l (Ldr.old w0 ag3 rfl (hk11 1 _ rfl)) (hS2.same _ hb12.1 hb12.2) rfl ?_
      refine go ?_
      refine CW.cond rfl (fun hc14 => ?_) (fun hc14 => ?_)
      · replace h := bcT h hc14
        refine go ?_
        cases oi h
        exact ⟨trivial, rfl, _, rfl, ⟨_, Res.one (resOne.t rfl), rfl, hS2.pick [] rfl rfl⟩⟩
      replace h := bcF h hc14
      refine go ?_
      cases oi h
      exact ⟨rfl, ⟨⟨rfl, rfl, rfl, trivial⟩, hS2.pick [] rfl rfl⟩⟩
    replace h := bcF h hc3
    refine go ?_
    cases oi h
    exact ⟨trivial, rfl, ⟨⟨rfl, trivial⟩, hS2.pick [] rfl rfl⟩⟩
  intro x e w17 hM
  rcases o15 with o15 | r18
  · obtain ⟨rfl, hM⟩ := hM
    obtain ⟨hE, hS3⟩ := hM
    obtain ⟨e, rfl⟩ := hE.out
    have h := h16
    refine go ?_
    cases h
    exact And.intro trivial ⟨_, Res.one (resOne.t rfl), rfl, hS3.pick [] rfl rfl⟩
  obtain ⟨rfl, u, rfl, hM⟩ := hM
  cases h16
  exact And.intro trivial hM

theorem W_l_heldObjS {w0 : World} {N : Nat} {x0 : List DObj} {x1 : Int} {r : Int} (h : F_l_heldObjS N x0 x1 = some r) {a0_0 : Option Addr} {n0_0 c0_0 : Nat} (hn0_0 : n0_0 = x0.length) (hr0_0 : rdS (Bor w0 []) w0 a0_0 c0_0 x0) :
    Ret Tryz.prog 139 #[.slice a0_0 n0_0 c0_0, .int .i64 x1] w0 (fun v w => v = .int .i64 r ∧ St w0 [] w []) := by
  subst hn0_0
  unfold F_l_heldObjS at h
  refine Ret.fn Tryz.func139 fun e => ?_
  have hS1 := St.start w0
  refine go ?_
  obtain ⟨o41, ho41, h42⟩ := obind h
  refine CW.mono (CW.iter (σ := Int × Int) (ρ := (Int × Int) ⊕ Int) (fun s1 e wb => En e [(0, .slice a0_0 x0.length c0_0), (1, .int .i64 s1.1), (5, .int .i64 s1.2)] ∧ St w0 [] wb []) (fun o x e wb => match o with | .inl s1 => x = .exit 0 ∧ En e [(1, .int .i64 s1.1)] ∧ St w0 [] wb [] | .inr r => x = .ret ∧ ∃ u, u = r ∧ ∃ v, Res Tryz.prog Tryz.f139.results e wb v ∧ v = .int .i64 u ∧ St w0 [] wb []) ?_ N (x1, 0) _ _ _ ⟨⟨rfl, rfl, rfl, trivial⟩, hS1.pick [] rfl rfl⟩ ho41) ?_
  · intro s1 e w2 o hM h
    obtain ⟨hE, hS2⟩ := hM
    obtain ⟨e, rfl⟩ := hE.out
    refine go ?_
    refine CW.cond rfl (fun hc3 => ?_) (fun hc3 => ?_)
    · replace h := bcT h hc3
      refine go ?_
      replace ⟨y4, hy4, h⟩ := obind h
      obtain ⟨b7, o8, cs9, hae, hb12, hp5, hq6, hd10, hk11⟩ := hr0_0.idx hy4
      subst hae
      obtain ⟨a13, c14, a16, c17, a19, c20, rfl, hr15, hr18, hr21⟩ := hd10
      refine LW.u (Pur.ix Tryz.underlying40 sz85 rfl rfl hp5 hq6) rfl ?_
      refine go ?_
      refine LW.l (Ldr.old w0 ag3 rfl (hk11 0 _ rfl)) (hS2.same _ hb12.1 hb12.2) rfl ?_
      refine go ?_
      refine CW.fl [0, 1, 5, 18] fun e => ?_
      refine CW.cond rfl (fun hc22 => ?_) (fun hc22 => ?_)
      · replace h := bcT h hc22
        refine go ?_
        cases oi h
        exact ⟨trivial, rfl, _, rfl, ⟨_, Res.one (resOne.t rfl), rfl, hS2.pick [] rfl rfl⟩⟩
      replace h := bcF h hc22
      refine go ?_
      refine LW.u (Pur.ix Tryz.underlying40 sz85 rfl rfl hp5 hq6) rfl ?_
      refine go ?_
      refine LW.l (Ldr.old w0 ag3 rfl (hk11 1 _ rfl)) (hS2.same _ hb12.1 hb12.2) rfl ?_
      refine go ?_
      refine CW.cond rfl (fun hc23 => ?_) (fun hc23 => ?_)
      · replace h := bcT h hc23
        refine go ?_
        cases oi h
        exact ⟨trivial, rfl, _, rfl, ⟨_, Res.one (resOne.t rfl), rfl, hS2.pick [] rfl rfl⟩⟩
      replace h := bcF h hc23
      refine go ?_
      refine LW.u (Pur.ix Tryz.underlying40 sz85 rfl rfl hp5 hq6) rfl ?_
      refine go ?_
      refine LW.l (Ldr.old w0 ag3 rfl (hk11 2 _ rfl)) (hS2.same _ hb12.1 hb12.2) rfl ?_
      refine go ?_
      refine CW.fl [0, 1, 5, 36] fun e => ?_
      refine CW.cond rfl (fun hc24 => ?_) (fun hc24 => ?_)
      · replace h := bcT h hc24
        refine go ?_
        cases oi h
        exact ⟨trivial, rfl, _, rfl, ⟨_, Res.one (resOne.t rfl), rfl, hS2.pick [] rfl rfl⟩⟩
      replace h := bcF h hc24
      refine go ?_
      refine LW.u (Pur.ix Tryz.underlying40 sz85 rfl rfl hp5 hq6) rfl ?_
      refine go ?_
      refine LW.l (Ldr.old w0 ag3 rfl (hk11 3 _ rfl)) (hS2.same _ hb12.1 hb12.2) rfl ?_
      refine go ?_
      refine CW.cond rfl (fun hc25 => ?_) (fun hc25 => ?_)
      · replace h := bcT h hc25
        refine go ?_
        cases oi h
        exact ⟨trivial, rfl, _, rfl, ⟨_, Res.one (resOne.t rfl), rfl, hS2.pick [] rfl rfl⟩⟩
      replace h := bcF h hc25
      refine go ?_
      refine LW.u (Pur.ix Tryz.underlying40 sz85 rfl rfl hp5 hq6) rfl ?_
      refine go ?_
      refine LW.l (Ldr.old w0 ag3 rfl (hk11 4 _ rfl)) (hS2.same _ hb12.1 hb12.2) rfl ?_
      refine go ?_
      refine CW.fl [0, 1, 5, 54] fun e => ?_
      refine CW.cond rfl (fun hc26 => ?_) (fun hc26 => ?_)
      · replace h := bcT h hc26
        refine go ?_
        cases oi h
        exact ⟨trivial, rfl, _, rfl, ⟨_, Res.one (resOne.t rfl), rfl, hS2.pick [] rfl rfl⟩⟩
      replace h := bcF h hc26
      refine go ?_
      refine LW.u (Pur.ix Tryz.underlying40 sz85 rfl rfl hp5 hq6) rfl ?_
      refine go ?_
      refine LW.l (Ldr.old w0 ag3 rfl (hk11 5 _ rfl)) (hS2.same _ hb12.1 hb12.2) rfl ?_
      refine go ?_
      refine CW.cond rfl (fun hc27 => ?_) (fun hc27 => ?_)
      · replace h := bcT h hc27
        refine go ?_
        cases oi h
        exact ⟨trivial, rfl, _, rfl, ⟨_, Res.one (resOne.t rfl), rfl, hS2.pick [] rfl rfl⟩⟩
      replace h := bcF h hc27
      refine go ?_
      refine LW.u (Pur.ix Tryz.underlying40 sz85 rfl rfl hp5 hq6) rfl ?_
      refine go ?_
      refine LW.l (Ldr.old w0 ag3 rfl (hk11 6 _ rfl)) (hS2.same _ hb12.1 hb12.2) rfl ?_
      refine go ?_
      refine CW.fl [0, 1, 5, 72] fun e => ?_
      refine CW.cond rfl (fun hc28 => ?_) (fun hc28 => ?_)
      · replace h := bcT h hc28
        refine go ?_
        cases oi h
        exact ⟨trivial, rfl, _, rfl, ⟨_, Res.one (resOne.t rfl), rfl, hS2.pick [] rfl rfl⟩⟩
      replace h := bcF h hc28
      refine go ?_
      refine LW.u (Pur.ix Tryz.underlying40 sz85 rfl rfl hp5 hq6) rfl ?_
      refine go ?_
      refine LW.l (Ldr.old w0 ag3 rfl (hk11 7 _ rfl)) (hS2.same _ hb12.1 hb12.2) rfl ?_
      refine go ?_
      refine CW.cond rfl (fun hc29 => ?_) (fun hc29 => ?_)
      · replace h := bcT h hc29
        refine go ?_
        cases oi h
        exact ⟨trivial, rfl, _, rfl, ⟨_, Res.one (resOne.t rfl), rfl, hS2.pick [] rfl rfl⟩⟩
      replace h := bcF h hc29
      refine go ?_
      refine LW.u (Pur.ix Tryz.underlying40 sz85 rfl rfl hp5 hq6) rfl ?_
      refine go ?_
      refine LW.l (Ldr.old w0 ag3 rfl (hk11 8 _ rfl)) (hS2.same _ hb12.1 hb12.2) rfl ?_
      refine go ?_
      refine CW.fl [0, 1, 5, 90] fun e => ?_
      refine CW.cond rfl (fun hc30 => ?_) (fun hc30 => ?_)
      · replace h := bcT h hc30
        refine go ?_
        cases oi h
        exact ⟨trivial, rfl, _, rfl, ⟨_, Res.one (resOne.t rfl), rfl, hS2.pick [] rfl rfl⟩⟩
      replace h := bcF h hc30
      refine go ?_
      refine LW.u (Pur.ix Tryz.underlying40 sz85 rfl rfl hp5 hq6) rfl ?_
      refine go ?_
      refine LW.l (Ldr.old w0 ag4 rfl (hk11 9 _ rfl)) (hS2.same _ hb12.1 hb12.2) rfl ?_
      refine go ?_
      refine LW.u (Pur.rem rfl rfl (by decide)) rfl ?_
      refine go ?_
      refine LW.u (Pur.bne Tryz.underlying4 rfl rfl) rfl ?_
      refine go ?_
      refine CW.cond rfl (fun hc31 => ?_) (fun hc31 => ?_)
      · replace h := bcT h hc31
        refine go ?_
        cases oi h
        exact ⟨trivial, rfl, _, rfl, ⟨_, Res.one (resOne.t rfl), rfl, hS2.pick [] rfl rfl⟩⟩
      replace h := bcF h hc31
      refine go ?_
      refine LW.u (Pur.ix Tryz.underlying40 sz85 rfl rfl hp5 hq6) rfl ?_
      refine go ?_
      refine LW.l (Ldr.old w0 ag22 rfl (hk11 10 _ rfl)) (hS2.same _ hb12.1 hb12.2) rfl ?_
      refine go ?_
      replace ⟨y32, hy32, h⟩ := obind h
      refine LW.c0 (W_l_heldIntS hy32 rfl (hS2.rB hr15)) hS2 fun w33 hS3 => ?_
      refine go ?_
      refine CW.fl [0, 1, 5, 112] fun e => ?_
      refine CW.cond rfl (fun hc34 => ?_) (fun hc34 => ?_)
      · replace h := bcT h hc34
        refine go ?_
        cases oi h
        exact ⟨trivial, rfl, _, rfl, ⟨_, Res.one (resOne.t rfl), rfl, hS3.pick [] rfl rfl⟩⟩
      replace h := bcF h hc34
      refine go ?_
      refine LW.u (Pur.ix Tryz.underlying40 sz85 rfl rfl hp5 hq6) rfl ?_
      refine go ?_
      refine LW.l (Ldr.old w0 ag22 rfl (hk11 11 _ rfl)) (hS3.same _ hb12.1 hb12.2) rfl ?_
      refine go ?_
      replace ⟨y35, hy35, h⟩ := obind h
      refine LW.c0 (W_l_heldIntS hy35 rfl (hS3.rB hr18)) hS3 fun w36 hS4 => ?_
      refine go ?_
      refine CW.cond rfl (fun hc37 => ?_) (fun hc37 => ?_)
      · replace h := bcT h hc37
        refine go ?_
        cases oi h
        exact ⟨trivial, rfl, _, rfl, ⟨_, Res.one (resOne.t rfl), rfl, hS4.pick [] rfl rfl⟩⟩
      replace h := bcF h hc37
      refine go ?_
      refine LW.u (Pur.ix Tryz.underlying40 sz85 rfl rfl hp5 hq6) rfl ?_
      refine go ?_
      refine LW.l (Ldr.old w0 ag83 rfl (hk11 12 _ rfl)) (hS4.same _ hb12.1 hb12.2) rfl ?_
      refine go ?_
      replace ⟨y38, hy38, h⟩ := obind h
      refine LW.c0 (W_l_heldMsgS hy38 rfl (hS4.rB hr21)) hS4 fun w39 hS5 => ?_
      refine go ?_
      refine CW.fl [0, 1, 5, 130] fun e => ?_
      refine CW.cond rfl (fun hc40 => ?_) (fun hc40 => ?_)
      · replace h := bcT h hc40
        refine go ?_
        cases oi h
        exact ⟨trivial, rfl, _, rfl, ⟨_, Res.one (resOne.t rfl), rfl, hS5.pick [] rfl rfl⟩⟩
      replace h := bcF h hc40
      refine go ?_
      cases oi h
      exact ⟨rfl, ⟨⟨rfl, rfl, rfl, trivial⟩, hS5.pick [] rfl rfl⟩⟩
    replace h := bcF h hc3
    refine go ?_
    cases oi h
    exact ⟨trivial, rfl, ⟨⟨rfl, trivial⟩, hS2.pick [] rfl rfl⟩⟩
  intro x e w43 hM
  rcases o41 with o41 | r44
  · obtain ⟨rfl, hM⟩ := hM
    obtain ⟨hE, hS6⟩ := hM
    obtain ⟨e, rfl⟩ := hE.out
    have h := h42
    refine go ?_
    cases h
    exact And.intro trivial ⟨_, Res.one (resOne.t rfl), rfl, hS6.pick [] rfl rfl⟩
  obtain ⟨rfl, u, rfl, hM⟩ := hM
  cases h42
  exact And.intro trivial hM

theorem W_l_heldTapS {w0 : World} {N : Nat} {x0 : List DTap} {x1 : Int} {r : Int} (h : F_l_heldTapS N x0 x1 = some r) {a0_0 : Option Addr} {n0_0 c0_0 : Nat} (hn0_0 : n0_0 = x0.length) (hr0_0 : rdS (Bor w0 []) w0 a0_0 c0_0 x0) :
    Ret Tryz.prog 140 #[.slice a0_0 n0_0 c0_0, .int .i64 x1] w0 (fun v w => v = .int .i64 r ∧ St w0 [] w []) := by
  subst hn0_0
  unfold F_l_heldTapS at h
  refine Ret.fn Tryz.func140 fun e => ?_
  have hS1 := St.start w0
  refine go ?_
  obtain ⟨o19, ho19, h20⟩ := obind h
  refine CW.mono (CW.iter (σ := Int × Int) (ρ := (Int × Int) ⊕ Int) (fun s1 e wb => En e [(0, .slice a0_0 x0.length c0_0), (1, .int .i64 s1.1), (5, .int .i64 s1.2)] ∧ St w0 [] wb []) (fun o x e wb => match o with | .inl s1 => x = .exit 0 ∧ En e [(1, .int .i64 s1.1)] ∧ St w0 [] wb [] | .inr r => x = .ret ∧ ∃ u, u = r ∧ ∃ v, Res Tryz.prog Tryz.f140.results e wb v ∧ v = .int .i64 u ∧ St w0 [] wb []) ?_ N (x1, 0) _ _ _ ⟨⟨rfl, rfl, rfl, trivial⟩, hS1.pick [] rfl rfl⟩ ho19) ?_
  · intro s1 e w2 o hM h
    obtain ⟨hE, hS2⟩ := hM
    obtain ⟨e, rfl⟩ := hE.out
    refine go ?_
    refine CW.cond rfl (fun hc3 => ?_) (fun hc3 => ?_)
    · replace h := bcT h hc3
      refine go ?_
      replace ⟨y4, hy4, h⟩ := obind h
      obtain ⟨b7, o8, cs9, hae, hb12, hp5, hq6, hd10, hk11⟩ := hr0_0.idx hy4
      subst hae
      obtain rfl := hd10
      refine LW.u (Pur.ix Tryz.underlying44 sz135 rfl rfl hp5 hq6) rfl ?_
      refine go ?_
      refine LW.l (Ldr.old w0 ag3 rfl (hk11 0 _ rfl)) (hS2.same _ hb12.1 hb12.2) rfl ?_
      refine go ?_
      refine CW.fl [0, 1, 5, 18] fun e => ?_
      refine CW.cond rfl (fun hc13 => ?_) (fun hc13 => ?_)
      · replace h := bcT h hc13
        refine go ?_
        cases oi h
        exact ⟨trivial, rfl, _, rfl, ⟨_, Res.one (resOne.t rfl), rfl, hS2.pick [] rfl rfl⟩⟩
      replace h := bcF h hc13
      refine go ?_
      refine LW.u (Pur.ix Tryz.underlying44 sz135 rfl rfl hp5 hq6) rfl ?_
      refine go ?_
      refine LW.l (Ldr.old w0 ag3 rfl (hk11 1 _ rfl)) (hS2.same _ hb12.1 hb12.2) rfl ?_
      refine go ?_
      refine CW.cond rfl (fun hc14 => ?_) (fun hc14 => ?_)
      · replace h := bcT h hc14
        refine go ?_
        cases oi h
        exact ⟨trivial, rfl, _, rfl, ⟨_, Res.one (resOne.t rfl), rfl, hS2.pick [] rfl rfl⟩⟩
      replace h := bcF h hc14
      refine go ?_
      refine LW.u (Pur.ix Tryz.underlying44 sz135 rfl rfl hp5 hq6) rfl ?_
      refine go ?_
      refine LW.l (Ldr.old w0 ag3 rfl (hk11 2 _ rfl)) (hS2.same _ hb12.1 hb12.2) rfl ?_
      refine go ?_
      refine CW.fl [0, 1, 5, 36] fun e => ?_
      refine CW.cond rfl (fun hc15 => ?_) (fun hc15 => ?_)
      · replace h := bcT h hc15
        refine go ?_
        cases oi h
        exact ⟨trivial, rfl, _, rfl, ⟨_, Res.one (resOne.t rfl), rfl, hS2.pick [] rfl rfl⟩⟩
      replace h := bcF h hc15
      refine go ?_
      refine LW.u (Pur.ix Tryz.underlying44 sz135 rfl rfl hp5 hq6) rfl ?_
      refine go ?_
      refine LW.l (Ldr.old w0 ag3 rfl (hk11 3 _ rfl)) (hS2.same _ hb12.1 hb12.2) rfl ?_
      refine go ?_
      refine CW.cond rfl (fun hc16 => ?_) (fun hc16 => ?_)
      · replace h := bcT h hc16
        refine go ?_
        cases oi h
        exact ⟨trivial, rfl, _, rfl, ⟨_, Res.one (resOne.t rfl), rfl, hS2.pick [] rfl rfl⟩⟩
      replace h := bcF h hc16
      refine go ?_
      refine LW.u (Pur.ix Tryz.underlying44 sz135 rfl rfl hp5 hq6) rfl ?_
      refine go ?_
      refine LW.l (Ldr.old w0 ag3 rfl (hk11 4 _ rfl)) (hS2.same _ hb12.1 hb12.2) rfl ?_
      refine go ?_
      refine CW.fl [0, 1, 5, 54] fun e => ?_
      refine CW.cond rfl (fun hc17 => ?_) (fun hc17 => ?_)
      · replace h := bcT h hc17
        refine go ?_
        cases oi h
        exact ⟨trivial, rfl, _, rfl, ⟨_, Res.one (resOne.t rfl), rfl, hS2.pick [] rfl rfl⟩⟩
      replace h := bcF h hc17
      refine go ?_
      refine LW.u (Pur.ix Tryz.underlying44 sz135 rfl rfl hp5 hq6) rfl ?_
      refine go ?_
      refine LW.l (Ldr.old w0 ag3 rfl (hk11 5 _ rfl)) (hS2.same _ hb12.1 hb12.2) rfl ?_
      refine go ?_
      refine CW.cond rfl (fun hc18 => ?_) (fun hc18 => ?_)
      · replace h := bcT h hc18
        refine go ?_
        cases oi h
        exact ⟨trivial, rfl, _, rfl, ⟨_, Res.one (resOne.t rfl), rfl, hS2.pick [] rfl rfl⟩⟩
      replace h := bcF h hc18
      refine go ?_
      cases oi h
      exact ⟨rfl, ⟨⟨rfl, rfl, rfl, trivial⟩, hS2.pick [] rfl rfl⟩⟩
    replace h := bcF h hc3
    refine go ?_
    cases oi h
    exact ⟨trivial, rfl, ⟨⟨rfl, trivial⟩, hS2.pick [] rfl rfl⟩⟩
  intro x e w21 hM
  rcases o19 with o19 | r22
  · obtain ⟨rfl, hM⟩ := hM
    obtain ⟨hE, hS3⟩ := hM
    obtain ⟨e, rfl⟩ := hE.out
    have h := h20
    refine go ?_
    cases h
    exact And.intro trivial ⟨_, Res.one (resOne.t rfl), rfl, hS3.pick [] rfl rfl⟩
  obtain ⟨rfl, u, rfl, hM⟩ := hM
  cases h20
  exact And.intro trivial hM

theorem W_l_heldPartS {w0 : World} {N : Nat} {x0 : List DPart} {x1 : Int} {r : Int} (h : F_l_heldPartS N x0 x1 = some r) {a0_0 : Option Addr} {n0_0 c0_0 : Nat} (hn0_0 : n0_0 = x0.length) (hr0_0 : rdS (Bor w0 []) w0 a0_0 c0_0 x0) :
    Ret Tryz.prog 85 #[.slice a0_0 n0_0 c0_0, .int .i64 x1] w0 (fun v w => v = .int .i64 r ∧ St w0 [] w []) := by
  subst hn0_0
  unfold F_l_heldPartS at h
  refine Ret.fn Tryz.func85 fun e => ?_
  have hS1 := St.start w0
  refine go ?_
  obtain ⟨o59, ho59, h60⟩ := obind h
  refine CW.mono (CW.iter (σ := Int × Int) (ρ := (Int × Int) ⊕ Int) (fun s1 e wb => En e [(0, .slice a0_0 x0.length c0_0), (1, .int .i64 s1.1), (5, .int .i64 s1.2)] ∧ St w0 [] wb []) (fun o x e wb => match o with | .inl s1 => x = .exit 0 ∧ En e [(1, .int .i64 s1.1)] ∧ St w0 [] wb [] | .inr r => x = .ret ∧ ∃ u, u = r ∧ ∃ v, Res Tryz.prog Tryz.f85.results e wb v ∧ v = .int .i64 u ∧ St w0 [] wb []) ?_ N (x1, 0) _ _ _ ⟨⟨rfl, rfl, rfl, trivial⟩, hS1.pick [] rfl rfl⟩ ho59) ?_
  · intro s1 e w2 o hM h
    obtain ⟨hE, hS2⟩ := hM
    obtain ⟨e, rfl⟩ := hE.out
    refine go ?_
    refine CW.cond rfl (fun hc3 => ?_) (fun hc3 => ?_)
    · replace h := bcT h hc3
      refine go ?_
      replace ⟨y4, hy4, h⟩ := obind h
      obtain ⟨b7, o8, cs9, hae, hb12, hp5, hq6, hd10, hk11⟩ := hr0_0.idx hy4
      subst hae
      obtain ⟨a13, c14, a16, c17, a19, c20, a22, c23, a25, c26, a28, c29, rfl, hr15, hr18, hr21, hr24, hr27, hr30⟩ := hd10
      refine LW.u (Pur.ix Tryz.underlying59 sz47 rfl rfl hp5 hq6) rfl ?_
      refine go ?_
      refine LW.l (Ldr.old w0 ag22 rfl (hk11 0 _ rfl)) (hS2.same _ hb12.1 hb12.2) rfl ?_
      refine go ?_
      replace ⟨y31, hy31, h⟩ := obind h
      refine LW.c0 (W_l_heldIntS hy31 rfl (hS2.rB hr15)) hS2 fun w32 hS3 => ?_
      refine go ?_
      refine CW.fl [0, 1, 5, 21] fun e => ?_
      refine CW.cond rfl (fun hc33 => ?_) (fun hc33 => ?_)
      · replace h := bcT h hc33
        refine go ?_
        cases oi h
        exact ⟨trivial, rfl, _, rfl, ⟨_, Res.one (resOne.t rfl), rfl, hS3.pick [] rfl rfl⟩⟩
      replace h := bcF h hc33
      refine go ?_
      refine LW.u (Pur.ix Tryz.underlying59 sz47 rfl rfl hp5 hq6) rfl ?_
      refine go ?_
      refine LW.l (Ldr.old w0 ag22 rfl (hk11 1 _ rfl)) (hS3.same _ hb12.1 hb12.2) rfl ?_
      refine go ?_
      replace ⟨y34, hy34, h⟩ := obind h
      refine LW.c0 (W_l_heldIntS hy34 rfl (hS3.rB hr18)) hS3 fun w35 hS4 => ?_
      refine go ?_
      refine CW.cond rfl (fun hc36 => ?_) (fun hc36 => ?_)
      · replace h := bcT h hc36
        refine go ?_
        cases oi h
        exact ⟨trivial, rfl, _, rfl, ⟨_, Res.one (resOne.t rfl), rfl, hS4.pick [] rfl rfl⟩⟩
      replace h := bcF h hc36
      refine go ?_
      refine LW.u (Pur.ix Tryz.underlying59 sz47 rfl rfl hp5 hq6) rfl ?_
      refine go ?_
      refine LW.l (Ldr.old w0 ag39 rfl (hk11 2 _ rfl)) (hS4.same _ hb12.1 hb12.2) rfl ?_
      refine go ?_
      replace ⟨y37, hy37, h⟩ := obind h
      refine LW.c0 (W_l_heldResS hy37 rfl (hS4.rB hr21)) hS4 fun w38 hS5 => ?_
      refine go ?_
      refine CW.fl [0, 1, 5, 39] fun e => ?_
      refine CW.cond rfl (fun hc39 => ?_) (fun hc39 => ?_)
      · replace h := bcT h hc39
        refine go ?_
        cases oi h
        exact ⟨trivial, rfl, _, rfl, ⟨_, Res.one (resOne.t rfl), rfl, hS5.pick [] rfl rfl⟩⟩
      replace h := bcF h hc39
      refine go ?_
      refine LW.u (Pur.ix Tryz.underlying59 sz47 rfl rfl hp5 hq6) rfl ?_
      refine go ?_
      refine LW.l (Ldr.old w0 ag40 rfl (hk11 3 _ rfl)) (hS5.same _ hb12.1 hb12.2) rfl ?_
      refine go ?_
      replace ⟨y40, hy40, h⟩ := obind h
      refine LW.c0 (W_l_heldObjS hy40 rfl (hS5.rB hr24)) hS5 fun w41 hS6 => ?_
      refine go ?_
      refine CW.cond rfl (fun hc42 => ?_) (fun hc42 => ?_)
      · replace h := bcT h hc42
        refine go ?_
        cases oi h
        exact ⟨trivial, rfl, _, rfl, ⟨_, Res.one (resOne.t rfl), rfl, hS6.pick [] rfl rfl⟩⟩
      replace h := bcF h hc42
      refine go ?_
      refine LW.u (Pur.ix Tryz.underlying59 sz47 rfl rfl hp5 hq6) rfl ?_
      refine go ?_
      refine LW.l (Ldr.old w0 ag3 rfl (hk11 4 _ rfl)) (hS6.same _ hb12.1 hb12.2) rfl ?_
      refine go ?_
      refine CW.fl [0, 1, 5, 58] fun e => ?_
      refine CW.cond rfl (fun hc43 => ?_) (fun hc43 => ?_)
      · replace h := bcT h hc43
        refine go ?_
        cases oi h
        exact ⟨trivial, rfl, _, rfl, ⟨_, Res.one (resOne.t rfl), rfl, hS6.pick [] rfl rfl⟩⟩
      replace h := bcF h hc43
      refine go ?_
      refine LW.u (Pur.ix Tryz.underlying59 sz47 rfl rfl hp5 hq6) rfl ?_
      refine go ?_
      refine LW.l (Ldr.old w0 ag3 rfl (hk11 5 _ rfl)) (hS6.same _ hb12.1 hb12.2) rfl ?_
      refine go ?_
      refine CW.cond rfl (fun hc44 => ?_) (fun hc44 => ?_)
      · replace h := bcT h hc44
        refine go ?_
        cases oi h
        exact ⟨trivial, rfl, _, rfl, ⟨_, Res.one (resOne.t rfl), rfl, hS6.pick [] rfl rfl⟩⟩
      replace h := bcF h hc44
      refine go ?_
      refine LW.u (Pur.ix Tryz.underlying59 sz47 rfl rfl hp5 hq6) rfl ?_
      refine go ?_
      refine LW.l (Ldr.old w0 ag3 rfl (hk11 6 _ rfl)) (hS6.same _ hb12.1 hb12.2) rfl ?_
      refine go ?_
      refine CW.fl [0, 1, 5, 80] fun e => ?_
      refine CW.cond rfl (fun hc45 => ?_) (fun hc45 => ?_)
      · replace h := bcT h hc45
        refine go ?_
        cases oi h
        exact ⟨trivial, rfl, _, rfl, ⟨_, Res.one (resOne.t rfl), rfl, hS6.pick [] rfl rfl⟩⟩
      replace h := bcF h hc45
      refine go ?_
      refine LW.u (Pur.ix Tryz.underlying59 sz47 rfl rfl hp5 hq6) rfl ?_
      refine go ?_
      refine LW.l (Ldr.old w0 ag22 rfl (hk11 7 _ rfl)) (hS6.same _ hb12.1 hb12.2) rfl ?_
      refine go ?_
      replace ⟨y46, hy46, h⟩ := obind h
      refine LW.c0 (W_l_heldIntS hy46 rfl (hS6.rB hr27)) hS6 fun w47 hS7 => ?_
      refine go ?_
      refine CW.fl [0, 1, 5, 93] fun e => ?_
      refine CW.cond rfl (fun hc48 => ?_) (fun hc48 => ?_)
      · replace h := bcT h hc48
        refine go ?_
        cases oi h
        exact ⟨trivial, rfl, _, rfl, ⟨_, Res.one (resOne.t rfl), rfl, hS7.pick [] rfl rfl⟩⟩
      replace h := bcF h hc48
      refine go ?_
      refine LW.u (Pur.ix Tryz.underlying59 sz47 rfl rfl hp5 hq6) rfl ?_
      refine go ?_
      refine LW.l (Ldr.old w0 ag44 rfl (hk11 8 _ rfl)) (hS7.same _ hb12.1 hb12.2) rfl ?_
      refine go ?_
      replace ⟨y49, hy49, h⟩ := obind h
      refine LW.c0 (W_l_heldTapS hy49 rfl (hS7.rB hr30)) hS7 fun w50 hS8 => ?_
      refine go ?_
      refine CW.cond rfl (fun hc51 => ?_) (fun hc51 => ?_)
      · replace h := bcT h hc51
        refine go ?_
        cases oi h
        exact ⟨trivial, rfl, _, rfl, ⟨_, Res.one (resOne.t rfl), rfl, hS8.pick [] rfl rfl⟩⟩
      replace h := bcF h hc51
      refine go ?_
      refine LW.u (Pur.ix Tryz.underlying59 sz47 rfl rfl hp5 hq6) rfl ?_
      refine go ?_
      refine LW.l (Ldr.old w0 ag3 rfl (hk11 9 _ rfl)) (hS8.same _ hb12.1 hb12.2) rfl ?_
      refine go ?_
      refine CW.fl [0, 1, 5, 109] fun e => ?_
      refine CW.cond rfl (fun hc52 => ?_) (fun hc52 => ?_)
      · replace h := bcT h hc52
        refine go ?_
        cases oi h
        exact ⟨trivial, rfl, _, rfl, ⟨_, Res.one (resOne.t rfl), rfl, hS8.pick [] rfl rfl⟩⟩
      replace h := bcF h hc52
      refine go ?_
      refine LW.u (Pur.ix Tryz.underlying59 sz47 rfl rfl hp5 hq6) rfl ?_
      refine go ?_
      refine LW.l (Ldr.old w0 ag3 rfl (hk11 10 _ rfl)) (hS8.same _ hb12.1 hb12.2) rfl ?_
      refine go ?_
      refine CW.cond rfl (fun hc53 => ?_) (fun hc53 => ?_)
      · replace h := bcT h hc53
        refine go ?_
        cases oi h
        exact ⟨trivial, rfl, _, rfl, ⟨_, Res.one (resOne.t rfl), rfl, hS8.pick [] rfl rfl⟩⟩
      replace h := bcF h hc53
      refine go ?_
      refine LW.u (Pur.ix Tryz.underlying59 sz47 rfl rfl hp5 hq6) rfl ?_
      refine go ?_
      refine LW.l (Ldr.old w0 ag3 rfl (hk11 11 _ rfl)) (hS8.same _ hb12.1 hb12.2) rfl ?_
      refine go ?_
      refine CW.fl [0, 1, 5, 128] fun e => ?_
      refine CW.cond rfl (fun hc54 => ?_) (fun hc54 => ?_)
      · replace h := bcT h hc54
        refine go ?_
        cases oi h
        exact ⟨trivial, rfl, _, rfl, ⟨_, Res.one (resOne.t rfl), rfl, hS8.pick [] rfl rfl⟩⟩
      replace h := bcF h hc54
      refine go ?_
      refine LW.u (Pur.ix Tryz.underlying59 sz47 rfl rfl hp5 hq6) rfl ?_
      refine go ?_
      refine LW.l (Ldr.old w0 ag3 rfl (hk11 12 _ rfl)) (hS8.same _ hb12.1 hb12.2) rfl ?_
      refine go ?_
      refine CW.cond rfl (fun hc55 => ?_) (fun hc55 => ?_)
      · replace h := bcT h hc55
        refine go ?_
        cases oi h
        exact ⟨trivial, rfl, _, rfl, ⟨_, Res.one (resOne.t rfl), rfl, hS8.pick [] rfl rfl⟩⟩
      replace h := bcF h hc55
      refine go ?_
      refine LW.u (Pur.ix Tryz.underlying59 sz47 rfl rfl hp5 hq6) rfl ?_
      refine go ?_
      refine LW.l (Ldr.old w0 ag3 rfl (hk11 13 _ rfl)) (hS8.same _ hb12.1 hb12.2) rfl ?_
      refine go ?_
      refine CW.fl [0, 1, 5, 148] fun e => ?_
      refine CW.cond rfl (fun hc56 => ?_) (fun hc56 => ?_)
      · replace h := bcT h hc56
        refine go ?_
        cases oi h
        exact ⟨trivial, rfl, _, rfl, ⟨_, Res.one (resOne.t rfl), rfl, hS8.pick [] rfl rfl⟩⟩
      replace h := bcF h hc56
      refine go ?_
      refine LW.u (Pur.ix Tryz.underlying59 sz47 rfl rfl hp5 hq6) rfl ?_
      refine go ?_
      refine LW.l (Ldr.old w0 ag3 rfl (hk11 14 _ rfl)) (hS8.same _ hb12.1 hb12.2) rfl ?_
      refine go ?_
      refine CW.cond rfl (fun hc57 => ?_) (fun hc57 => ?_)
      · replace h := bcT h hc57
        refine go ?_
        cases oi h
        exact ⟨trivial, rfl, _, rfl, ⟨_, Res.one (resOne.t rfl), rfl, hS8.pick [] rfl rfl⟩⟩
      replace h := bcF h hc57
      refine go ?_
      refine LW.u (Pur.ix Tryz.underlying59 sz47 rfl rfl hp5 hq6) rfl ?_
      refine go ?_
      refine LW.l (Ldr.old w0 ag3 rfl (hk11 15 _ rfl)) (hS8.same _ hb12.1 hb12.2) rfl ?_
      refine go ?_
      refine CW.fl [0, 1, 5, 166] fun e => ?_
      refine CW.cond rfl (fun hc58 => ?_) (fun hc58 => ?_)
      · replace h := bcT h hc58
        refine go ?_
        cases oi h
        exact ⟨trivial, rfl, _, rfl, ⟨_, Res.one (resOne.t rfl), rfl, hS8.pick [] rfl rfl⟩⟩
      replace h := bcF h hc58
      refine go ?_
      cases oi h
      exact ⟨rfl, ⟨⟨rfl, rfl, rfl, trivial⟩, hS8.pick [] rfl rfl⟩⟩
    replace h := bcF h hc3
    refine go ?_
    cases oi h
    exact ⟨trivial, rfl, ⟨⟨rfl, trivial⟩, hS2.pick [] rfl rfl⟩⟩
  intro x e w61 hM
  rcases o59 with o59 | r62
  · obtain ⟨rfl, hM⟩ := hM
    obtain ⟨hE, hS9⟩ := hM
    obtain ⟨e, rfl⟩ := hE.out
    have h := h60
    refine go ?_
    cases h
    exact And.intro trivial ⟨_, Res.one (resOne.t rfl), rfl, hS9.pick [] rfl rfl⟩
  obtain ⟨rfl, u, rfl, hM⟩ := hM
  cases h60
  exact And.intro trivial hM

theorem W_l_heldWorld {w0 : World} {N : Nat} {x0 : DWorld} {x1 : Int} {r : Int} (h : F_l_heldWorld N x0 x1 = some r) {a0_1 : Option Addr} {n0_1 c0_1 : Nat} (hn0_1 : n0_1 = x0.parts.length) (hr0_1 : rdS (Bor w0 []) w0 a0_1 c0_1 x0.parts) :
    Ret Tryz.prog 34 #[.agg #[.int .i64 x0.now, .slice a0_1 n0_1 c0_1], .int .i64 x1] w0 (fun v w => v = .int .i64 r ∧ St w0 [] w []) := by
  subst hn0_1
  unfold F_l_heldWorld at h
  refine Ret.fn Tryz.func34 fun e => ?_
  have hS1 := St.start w0
  refine go ?_
  refine LW.bo hS1 fun g1 w2 hS2 => ?_
  refine go ?_
  replace ⟨y3, hy3, h⟩ := obind h
  refine LW.c0 (W_l_heldPartS hy3 rfl (hS2.rB hr0_1)) hS2 fun w4 hS3 => ?_
  refine go ?_
  refine CW.cond rfl (fun hc5 => ?_) (fun hc5 => ?_)
  · replace h := bcT h hc5
    refine go ?_
    cases h
    exact And.intro trivial ⟨_, Res.one (resOne.t rfl), rfl, hS3.pick [] rfl rfl⟩
  replace h := bcF h hc5
  refine go ?_
  cases h
  exact And.intro trivial ⟨_, Res.one (resOne.t rfl), rfl, hS3.pick [] rfl rfl⟩

theorem W_l_FnExactWorldNew {w0 : World} {N : Nat} {x0 : List DBoot} {r : Bool} (h : F_l_FnExactWorldNew N x0 = some r) {a0_0 : Option Addr} {n0_0 c0_0 : Nat} (hn0_0 : n0_0 = x0.length) (hr0_0 : rdS (Bor w0 []) w0 a0_0 c0_0 x0) :
    Ret Tryz.prog 7 #[.slice a0_0 n0_0 c0_0] w0 (fun v w => v = .bool r ∧ St w0 [] w []) := by
  subst hn0_0
  unfold F_l_FnExactWorldNew at h
  refine Ret.fn Tryz.func7 fun e => ?_
  have hS1 := St.start w0
  refine go ?_
  replace ⟨y1, hy1, h⟩ := obind h
  refine LW.c0 (W_l_szPartBootS hy1 rfl (hS1.rB hr0_0)) hS1 fun w2 hS2 => ?_
  refine go ?_
  refine CW.cond rfl (fun hc3 => ?_) (fun hc3 => ?_)
  · replace h := bcT h hc3
    refine go ?_
    cases h
    exact And.intro trivial ⟨_, Res.one (resOne.t rfl), rfl, hS2.pick [] rfl rfl⟩
  replace h := bcF h hc3
  refine go ?_
  replace ⟨y4, hy4, h⟩ := obind h
  refine LW.cl (W_l_toPartBootS hy4 rfl (hS2.rB hr0_0)) ?_
  rintro _ w7 ⟨a5, c6, rfl, hs⟩
  have hS3 := hS2.add hs
  replace ⟨y8, hy8, h⟩ := obind h
  refine LW.cl (W_s_WorldNew hy8 rfl (hS3.rI 0 rfl)) ?_
  rintro _ w11 ⟨a9, c10, rfl, hs⟩
  have hS4 := hS3.add hs
  refine LW.al hS4 fun g12 w13 hS5 => ?_
  refine LW.st hS5 0 fun w14 hS6 => ?_
  refine go ?_
  replace ⟨y15, hy15, h⟩ := obind h
  refine LW.cl (W_l_toPartBootS hy15 rfl (hS6.rB hr0_0)) ?_
  rintro _ w18 ⟨a16, c17, rfl, hs⟩
  have hS7 := hS6.add hs
  refine go ?_
  replace ⟨y19, hy19, h⟩ := obind h
  refine LW.cl (W_i_WorldNew hy19 rfl (hS7.rI 0 rfl)) ?_
  rintro _ w22 ⟨a20, c21, rfl, hs⟩
  have hS8 := hS7.add hs
  refine LW.al hS8 fun g23 w24 hS9 => ?_
  refine LW.st hS9 0 fun w25 hS10 => ?_
  refine go ?_
  replace ⟨y26, hy26, h⟩ := obind h
  refine LW.c0 (W_l_eqWorld hy26 rfl (hS10.rI 1 rfl) rfl (hS10.rI 4 rfl)) hS10 fun w27 hS11 => ?_
  refine go ?_
  refine CW.fl [0, 4, 5, 6, 26] fun e => ?_
  refine CW.cond rfl (fun hc28 => ?_) (fun hc28 => ?_)
  · replace h := bcT h hc28
    refine go ?_
    cases h
    exact And.intro trivial ⟨_, Res.one (resOne.t rfl), rfl, hS11.pick [] rfl rfl⟩
  replace h := bcF h hc28
  refine go ?_
  replace ⟨y29, hy29, h⟩ := obind h
  refine LW.cl (W_l_toPartBootS hy29 rfl (hS11.rB hr0_0)) ?_
  rintro _ w32 ⟨a30, c31, rfl, hs⟩
  have hS12 := hS11.add hs
  replace ⟨y33, hy33, h⟩ := obind h
  refine LW.c0 (W_l_eqPartBootS hy33 rfl (hS12.rI 3 rfl) rfl (hS12.rI 0 rfl)) hS12 fun w34 hS13 => ?_
  refine go ?_
  refine CW.cond rfl (fun hc35 => ?_) (fun hc35 => ?_)
  · replace h := bcT h hc35
    refine go ?_
    cases h
    exact And.intro trivial ⟨_, Res.one (resOne.t rfl), rfl, hS13.pick [] rfl rfl⟩
  replace h := bcF h hc35
  refine go ?_
  replace ⟨y36, hy36, h⟩ := obind h
  obtain ⟨q39, hy36', hq40⟩ := obind hy36
  obtain ⟨hl41, hq40⟩ := keepL_some hq40
  rw [Option.some.inj hq40] at hy36' hl41
  have hS14 := hS13.pick (M := [sl a16 c17 y15] ++ [sl a30 c31 y29, bx g23 61 [.int .i64 y19.now, .slice a20 y19.parts.length c21], sl a20 c21 y19.parts, bx g12 61 [.int .i64 y8.now, .slice a9 y8.parts.length c10], sl a9 c10 y8.parts, sl a5 c6 y4]) [3, 0, 1, 2, 4, 5, 6] rfl rfl
  obtain ⟨F37, hL38⟩ := St.lend (L := [sl a16 c17 y15]) (M := [sl a30 c31 y29, bx g23 61 [.int .i64 y19.now, .slice a20 y19.parts.length c21], sl a20 c21 y19.parts, bx g12 61 [.int .i64 y8.now, .slice a9 y8.parts.length c10], sl a9 c10 y8.parts, sl a5 c6 y4]) hS14
  refine LW.cl (W_l_markPartBootS hy36' rfl hL38.st) ?_
  rintro _ w42 ⟨rfl, hs⟩
  have hS15 := hL38.back _ _ hs
  refine gs ?_
  obtain ⟨j43, hj43, h44⟩ := obind h
  refine CW.cut (fun e wb => En e [(0, .slice a0_0 x0.length c0_0), (4, .pointer (some ⟨g12, 0, none⟩)), (6, .pointer (some ⟨g23, 0, none⟩)), (42, .bool j43)] ∧ St w0 [] wb [bx g23 61 [.int .i64 y19.now, .slice a20 y19.parts.length c21], sl a20 c21 y19.parts, bx g12 61 [.int .i64 y8.now, .slice a9 y8.parts.length c10], sl a9 c10 y8.parts]) ?_ ?_
  · have h := hj43
    refine go ?_
    rcases bcases (decide (y36.1 < 0)) with hc45 | hc45
    · replace h := bcT h hc45
      refine go ?_
      cases oi h
      exact ⟨⟨rfl, rfl, rfl, rfl, trivial⟩, hS15.pick [2, 3, 4, 5] rfl rfl⟩
    replace h := bcF h hc45
    refine go ?_
    replace ⟨y46, hy46, h⟩ := obind h
    refine go ?_
    refine LW.c0 (W_l_eqWorld hy46 rfl (hS15.rI 3 rfl) rfl (hS15.rI 5 rfl)) hS15 fun w47 hS16 => ?_
    refine go ?_
    cases oi h
    exact ⟨⟨rfl, rfl, rfl, rfl, trivial⟩, hS16.pick [2, 3, 4, 5] rfl rfl⟩
  rintro e w48 ⟨hE, hS17⟩
  obtain ⟨e, rfl⟩ := hE.out
  have h := h44
  refine go ?_
  refine CW.cond rfl (fun hc49 => ?_) (fun hc49 => ?_)
  · replace h := bcT h hc49
    refine go ?_
    cases h
    exact And.intro trivial ⟨_, Res.one (resOne.t rfl), rfl, hS17.pick [] rfl rfl⟩
  replace h := bcF h hc49
  refine go ?_
  replace ⟨y50, hy50, h⟩ := obind h
  obtain ⟨q53, hy50', hq54⟩ := obind hy50
  obtain ⟨hl55, hq54⟩ := keepL_some hq54
  rw [Option.some.inj hq54] at hy50' hl55
  have hS18 := hS17.pick (M := [sl a20 c21 y19.parts] ++ [bx g23 61 [.int .i64 y19.now, .slice a20 y19.parts.length c21], bx g12 61 [.int .i64 y8.now, .slice a9 y8.parts.length c10], sl a9 c10 y8.parts]) [1, 0, 2, 3] rfl rfl
  obtain ⟨F51, hL52⟩ := St.lend (L := [sl a20 c21 y19.parts]) (M := [bx g23 61 [.int .i64 y19.now, .slice a20 y19.parts.length c21], bx g12 61 [.int .i64 y8.now, .slice a9 y8.parts.length c10], sl a9 c10 y8.parts]) hS18
  refine LW.cl (W_l_markWorld hy50' rfl hL52.st) ?_
  rintro _ w56 ⟨rfl, hs⟩
  have hS19 := hL52.back _ _ hs
  refine go ?_
  replace ⟨y57, hy57, h⟩ := obind h
  refine LW.c0 (W_l_heldWorld hy57 (show y19.parts.length = y50.2.length from hl55) (hS19.rI 0 rfl)) hS19 fun w58 hS20 => ?_
  refine go ?_
  refine CW.fl [0, 4, 6, 8, 9, 50] fun e => ?_
  refine CW.cond rfl (fun hc59 => ?_) (fun hc59 => ?_)
  · replace h := bcT h hc59
    refine go ?_
    cases h
    rw [show y19.parts.length = y50.2.length from hl55] at hS20
    exact And.intro trivial ⟨_, Res.one (resOne.t rfl), rfl, hS20.pick [] rfl rfl⟩
  replace h := bcF h hc59
  refine go ?_
  refine CW.cond rfl (fun hc60 => ?_) (fun hc60 => ?_)
  · replace h := bcT h hc60
    refine go ?_
    cases h
    rw [show y19.parts.length = y50.2.length from hl55] at hS20
    exact And.intro trivial ⟨_, Res.one (resOne.t rfl), rfl, hS20.pick [] rfl rfl⟩
  replace h := bcF h hc60
  refine go ?_
  replace ⟨y61, hy61, h⟩ := obind h
  refine LW.cl (W_l_toPartBootS hy61 rfl (hS20.rB hr0_0)) ?_
  rintro _ w64 ⟨a62, c63, rfl, hs⟩
  have hS21 := hS20.add hs
  replace ⟨y65, hy65, h⟩ := obind h
  refine LW.cl (W_i_WorldNew hy65 rfl (hS21.rI 0 rfl)) ?_
  rintro _ w68 ⟨a66, c67, rfl, hs⟩
  have hS22 := hS21.add hs
  refine LW.al hS22 fun g69 w70 hS23 => ?_
  refine LW.st hS23 0 fun w71 hS24 => ?_
  refine go ?_
  replace ⟨y72, hy72, h⟩ := obind h
  refine LW.c0 (W_l_eqWorld hy72 rfl (hS24.rI 1 rfl) rfl (hS24.rI 6 rfl)) hS24 fun w73 hS25 => ?_
  refine go ?_
  refine CW.cond rfl (fun hc74 => ?_) (fun hc74 => ?_)
  · replace h := bcT h hc74
    refine go ?_
    cases h
    rw [show y19.parts.length = y50.2.length from hl55] at hS25
    exact And.intro trivial ⟨_, Res.one (resOne.t rfl), rfl, hS25.pick [] rfl rfl⟩
  replace h := bcF h hc74
  refine go ?_
  replace ⟨y75, hy75, h⟩ := obind h
  refine LW.c0 (W_l_heldWorld hy75 (show y19.parts.length = y50.2.length from hl55) (hS25.rI 3 rfl)) hS25 fun w76 hS26 => ?_
  refine go ?_
  refine CW.fl [8, 9, 65] fun e => ?_
  refine CW.cond rfl (fun hc77 => ?_) (fun hc77 => ?_)
  · replace h := bcT h hc77
    refine go ?_
    cases h
    rw [show y19.parts.length = y50.2.length from hl55] at hS26
    exact And.intro trivial ⟨_, Res.one (resOne.t rfl), rfl, hS26.pick [] rfl rfl⟩
  replace h := bcF h hc77
  refine go ?_
  refine CW.cond rfl (fun hc78 => ?_) (fun hc78 => ?_)
  · replace h := bcT h hc78
    refine go ?_
    cases h
    rw [show y19.parts.length = y50.2.length from hl55] at hS26
    exact And.intro trivial ⟨_, Res.one (resOne.t rfl), rfl, hS26.pick [] rfl rfl⟩
  replace h := bcF h hc78
  refine go ?_
  cases h
  rw [show y19.parts.length = y50.2.length from hl55] at hS26
  exact And.intro trivial ⟨_, Res.one (resOne.t rfl), rfl, hS26.pick [] rfl rfl⟩

end Go.Kx
