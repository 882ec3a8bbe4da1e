/- Each call returns what the plain function says. Printed by drive.py. -/
import Derived.Test.YtfllimolhpblnaaGreatFa
import Derived.Test.YtfllimolhpblnaaGreatPu
import Derived.Test.YtfllimolhpblnaaGreatWa0
import Derived.Test.YtfllimolhpblnaaGreatWa2
import Derived.Test.YtfllimolhpblnaaGreatWa3
import Derived.Test.YtfllimolhpblnaaGreatWa4
import Derived.Test.YtfllimolhpblnaaGreatWa5
namespace Go.Kx
open Go Go.RowKit Go.Proofs
set_option maxRecDepth 10000
set_option maxHeartbeats 2000000
set_option linter.unusedVariables false
set_option linter.unusedSimpArgs false
theorem W_l_markPartS {w0 : World} {F : List Nat} {N : Nat} {x0 : List DPart} {x1 : Int} {r : Int × (List DPart)} (h : F_l_markPartS N x0 x1 = some r) {a0_0 : Option Addr} {n0_0 c0_0 : Nat} (hn0_0 : n0_0 = x0.length) (hS : St w0 F w0 [sl a0_0 c0_0 x0]) :
    Ret Tryz.prog 49 #[.slice a0_0 n0_0 c0_0, .int .i64 x1] w0 (fun v w => v = .int .i64 r.1 ∧ St w0 F w [sl a0_0 c0_0 r.2]) := by
  subst hn0_0
  unfold F_l_markPartS at h
  refine Ret.fn Tryz.func49 fun e => ?_
  refine go ?_
  obtain ⟨o105, ho105, h106⟩ := obind h
  refine CW.mono (CW.iter (σ := (List DPart) × Int × Int) (ρ := (List DPart) × Int × Int) (fun s1 e wb => En e [(0, .slice a0_0 s1.1.length c0_0), (1, .int .i64 s1.2.1), (5, .int .i64 s1.2.2)] ∧ St w0 F wb [sl a0_0 c0_0 s1.1]) (fun s1 x e wb => x = .exit 0 ∧ En e [(1, .int .i64 s1.2.1)] ∧ St w0 F wb [sl a0_0 c0_0 s1.1]) ?_ N (x0, x1, 0) _ _ _ ⟨⟨rfl, rfl, rfl, trivial⟩, hS.pick [0] rfl rfl⟩ ho105) ?_
  · intro s1 e w2 o hM h
    obtain ⟨hE, hS1⟩ := hM
    obtain ⟨e, rfl⟩ := hE.out
    refine go ?_
    refine CW.cond rfl (fun hc3 => ?_) (fun hc3 => ?_)
    · replace h := bcT h hc3
      refine go ?_
      replace ⟨y4, hy4, h⟩ := obind h
      obtain ⟨b7, o8, hae, hp5, hq6⟩ := hS1.ownIdx (α := DPart) (i := 0) rfl hy4
      subst hae
      refine LW.u (Pur.ix Tryz.underlying30 sz66 rfl rfl hp5 hq6) rfl ?_
      refine go ?_
      obtain ⟨F9, ho10, hS2⟩ := hS1.freeze (α := DPart) 0 rfl
      obtain ⟨b11, o12, cs13, hae, hb16, _, _, hd14, hk15⟩ := ho10.rdF.idx hy4
      cases hae
      obtain ⟨a17, c18, a20, c21, a23, c24, a26, c27, a29, c30, a32, c33, rfl, hr19, hr22, hr25, hr28, hr31, hr34⟩ := hd14
      refine LW.l (Ldr.old w2 ag28 rfl (hk15 0 _ rfl)) (hS2.zC 0 rfl hb16) rfl ?_
      refine go ?_
      replace ⟨y35, hy35, h⟩ := obind h
      obtain ⟨q56, hy35', hq57⟩ := obind hy35
      obtain ⟨hl58, hq57⟩ := keepL_some hq57
      rw [Option.some.inj hq57] at hy35' hl58
      have hn36 := fun (j : Nat) (u : Value) (hu : ([.slice a17 y4.label.levels.length c18, .slice a20 y4.own.length c21, .slice a23 y4.tree.length c24, .slice a26 y4.heap.arena.length c27, .int .i64 y4.heap.gc.phase, .int .i64 y4.heap.gc.pos, .int .i64 y4.heap.gc.round, .slice a29 y4.heap.gc.grey.length c30, .slice a32 y4.taps.length c33, .int .i64 y4.next, .int .i64 y4.want, .int .i64 y4.spent.pages, .int .i64 y4.spent.rent, .int .i64 y4.spent.cpu, .int .i64 y4.press, .int .i64 y4.lost] : List Value)[j]? = some u) => (World.cell?_of_block (hS2.zC 0 rfl hb16)).trans (hk15 j u hu)
      have hS3 := hS2.thaw (α := DPart) 0 rfl ho10
      obtain ⟨Fx37, ho38, hf39⟩ := hS3.focus (α := DPart) (cs := [.slice a17 y4.label.levels.length c18, .slice a20 y4.own.length c21, .slice a23 y4.tree.length c24, .slice a26 y4.heap.arena.length c27, .int .i64 y4.heap.gc.phase, .int .i64 y4.heap.gc.pos, .int .i64 y4.heap.gc.round, .slice a29 y4.heap.gc.grey.length c30, .slice a32 y4.taps.length c33, .int .i64 y4.next, .int .i64 y4.want, .int .i64 y4.spent.pages, .int .i64 y4.spent.rent, .int .i64 y4.spent.cpu, .int .i64 y4.press, .int .i64 y4.lost]) 0 rfl hy4 rfl hn36
      obtain ⟨a42, c43, a44, c45, a46, c47, a48, c49, a50, c51, a52, c53, hc40, hH41⟩ := ho38
      cases hc40
      have hS4 := hf39 [sl a17 c18 y4.label.levels, sl a20 c21 y4.own, sl a23 c24 y4.tree, sl a26 c27 y4.heap.arena, sl a29 c30 y4.heap.gc.grey, sl a32 c33 y4.taps] hH41
      have hS5 := hS4.pick (M := [sl a17 c18 y4.label.levels] ++ [sl a20 c21 y4.own, sl a23 c24 y4.tree, sl a26 c27 y4.heap.arena, sl a29 c30 y4.heap.gc.grey, sl a32 c33 y4.taps, hole DPart (some ⟨b7, o8, none⟩) c0_0 s1.1 (s1.2.2 : Int).toNat [.slice a17 y4.label.levels.length c18, .slice a20 y4.own.length c21, .slice a23 y4.tree.length c24, .slice a26 y4.heap.arena.length c27, .int .i64 y4.heap.gc.phase, .int .i64 y4.heap.gc.pos, .int .i64 y4.heap.gc.round, .slice a29 y4.heap.gc.grey.length c30, .slice a32 y4.taps.length c33, .int .i64 y4.next, .int .i64 y4.want, .int .i64 y4.spent.pages, .int .i64 y4.spent.rent, .int .i64 y4.spent.cpu, .int .i64 y4.press, .int .i64 y4.lost]]) [0, 1, 2, 3, 4, 5, 6] rfl rfl
      obtain ⟨F54, hL55⟩ := St.lend (L := [sl a17 c18 y4.label.levels]) (M := [sl a20 c21 y4.own, sl a23 c24 y4.tree, sl a26 c27 y4.heap.arena, sl a29 c30 y4.heap.gc.grey, sl a32 c33 y4.taps, hole DPart (some ⟨b7, o8, none⟩) c0_0 s1.1 (s1.2.2 : Int).toNat [.slice a17 y4.label.levels.length c18, .slice a20 y4.own.length c21, .slice a23 y4.tree.length c24, .slice a26 y4.heap.arena.length c27, .int .i64 y4.heap.gc.phase, .int .i64 y4.heap.gc.pos, .int .i64 y4.heap.gc.round, .slice a29 y4.heap.gc.grey.length c30, .slice a32 y4.taps.length c33, .int .i64 y4.next, .int .i64 y4.want, .int .i64 y4.spent.pages, .int .i64 y4.spent.rent, .int .i64 y4.spent.cpu, .int .i64 y4.press, .int .i64 y4.lost]]) hS5
      refine LW.cl (W_l_markIntS hy35' rfl hL55.st) ?_
      rintro _ w59 ⟨rfl, hs⟩
      have hS6 := hL55.back _ _ hs
      refine go ?_
      refine LW.u (Pur.ix Tryz.underlying30 sz66 rfl rfl hp5 hq6) rfl ?_
      refine go ?_
      refine LW.l (Ldr.old w59 ag28 rfl (hS6.holeC 6 rfl (j := 1) rfl)) rfl rfl ?_
      refine go ?_
      replace ⟨y60, hy60, h⟩ := obind h
      obtain ⟨q63, hy60', hq64⟩ := obind hy60
      obtain ⟨hl65, hq64⟩ := keepL_some hq64
      rw [Option.some.inj hq64] at hy60' hl65
      rw [show y4.label.levels.length = y35.2.length from hl58] at hS6
      have hS7 := hS6.pick (M := [sl a20 c21 y4.own] ++ [sl a17 c18 y35.2, sl a23 c24 y4.tree, sl a26 c27 y4.heap.arena, sl a29 c30 y4.heap.gc.grey, sl a32 c33 y4.taps, hole DPart (some ⟨b7, o8, none⟩) c0_0 s1.1 (s1.2.2 : Int).toNat [.slice a17 y35.2.length c18, .slice a20 y4.own.length c21, .slice a23 y4.tree.length c24, .slice a26 y4.heap.arena.length c27, .int .i64 y4.heap.gc.phase, .int .i64 y4.heap.gc.pos, .int .i64 y4.heap.gc.round, .slice a29 y4.heap.gc.grey.length c30, .slice a32 y4.taps.length c33, .int .i64 y4.next, .int .i64 y4.want, .int .i64 y4.spent.pages, .int .i64 y4.spent.rent, .int .i64 y4.spent.cpu, .int .i64 y4.press, .int .i64 y4.lost]]) [1, 0, 2, 3, 4, 5, 6] rfl rfl
      obtain ⟨F61, hL62⟩ := St.lend (L := [sl a20 c21 y4.own]) (M := [sl a17 c18 y35.2, sl a23 c24 y4.tree, sl a26 c27 y4.heap.arena, sl a29 c30 y4.heap.gc.grey, sl a32 c33 y4.taps, hole DPart (some ⟨b7, o8, none⟩) c0_0 s1.1 (s1.2.2 : Int).toNat [.slice a17 y35.2.length c18, .slice a20 y4.own.length c21, .slice a23 y4.tree.length c24, .slice a26 y4.heap.arena.length c27, .int .i64 y4.heap.gc.phase, .int .i64 y4.heap.gc.pos, .int .i64 y4.heap.gc.round, .slice a29 y4.heap.gc.grey.length c30, .slice a32 y4.taps.length c33, .int .i64 y4.next, .int .i64 y4.want, .int .i64 y4.spent.pages, .int .i64 y4.spent.rent, .int .i64 y4.spent.cpu, .int .i64 y4.press, .int .i64 y4.lost]]) hS7
      refine LW.cl (W_l_markIntS hy60' rfl hL62.st) ?_
      rintro _ w66 ⟨rfl, hs⟩
      have hS8 := hL62.back _ _ hs
      refine go ?_
      refine LW.fl [0, 1, 5, 27, 28] fun e => ?_
      refine LW.u (Pur.ix Tryz.underlying30 sz66 rfl rfl hp5 hq6) rfl ?_
      refine go ?_
      refine LW.l (Ldr.old w66 ag58 rfl (hS8.holeC 6 rfl (j := 2) rfl)) rfl rfl ?_
      refine go ?_
      replace ⟨y67, hy67, h⟩ := obind h
      obtain ⟨q70, hy67', hq71⟩ := obind hy67
      obtain ⟨hl72, hq71⟩ := keepL_some hq71
      rw [Option.some.inj hq71] at hy67' hl72
      rw [show y4.own.length = y60.2.length from hl65] at hS8
      have hS9 := hS8.pick (M := [sl a23 c24 y4.tree] ++ [sl a20 c21 y60.2, sl a17 c18 y35.2, sl a26 c27 y4.heap.arena, sl a29 c30 y4.heap.gc.grey, sl a32 c33 y4.taps, hole DPart (some ⟨b7, o8, none⟩) c0_0 s1.1 (s1.2.2 : Int).toNat [.slice a17 y35.2.length c18, .slice a20 y60.2.length c21, .slice a23 y4.tree.length c24, .slice a26 y4.heap.arena.length c27, .int .i64 y4.heap.gc.phase, .int .i64 y4.heap.gc.pos, .int .i64 y4.heap.gc.round, .slice a29 y4.heap.gc.grey.length c30, .slice a32 y4.taps.length c33, .int .i64 y4.next, .int .i64 y4.want, .int .i64 y4.spent.pages, .int .i64 y4.spent.rent, .int .i64 y4.spent.cpu, .int .i64 y4.press, .int .i64 y4.lost]]) [2, 0, 1, 3, 4, 5, 6] rfl rfl
      obtain ⟨F68, hL69⟩ := St.lend (L := [sl a23 c24 y4.tree]) (M := [sl a20 c21 y60.2, sl a17 c18 y35.2, sl a26 c27 y4.heap.arena, sl a29 c30 y4.heap.gc.grey, sl a32 c33 y4.taps, hole DPart (some ⟨b7, o8, none⟩) c0_0 s1.1 (s1.2.2 : Int).toNat [.slice a17 y35.2.length c18, .slice a20 y60.2.length c21, .slice a23 y4.tree.length c24, .slice a26 y4.heap.arena.length c27, .int .i64 y4.heap.gc.phase, .int .i64 y4.heap.gc.pos, .int .i64 y4.heap.gc.round, .slice a29 y4.heap.gc.grey.length c30, .slice a32 y4.taps.length c33, .int .i64 y4.next, .int .i64 y4.want, .int .i64 y4.spent.pages, .int .i64 y4.spent.rent, .int .i64 y4.spent.cpu, .int .i64 y4.press, .int .i64 y4.lost]]) hS9
      refine LW.cl (W_l_markResS hy67' rfl hL69.st) ?_
      rintro _ w73 ⟨rfl, hs⟩
      have hS10 := hL69.back _ _ hs
      refine go ?_
      refine LW.u (Pur.ix Tryz.underlying30 sz66 rfl rfl hp5 hq6) rfl ?_
      refine go ?_
      refine LW.l (Ldr.old w73 ag59 rfl (hS10.holeC 6 rfl (j := 3) rfl)) rfl rfl ?_
      refine go ?_
      replace ⟨y74, hy74, h⟩ := obind h
      obtain ⟨q77, hy74', hq78⟩ := obind hy74
      obtain ⟨hl79, hq78⟩ := keepL_some hq78
      rw [Option.some.inj hq78] at hy74' hl79
      rw [show y4.tree.length = y67.2.length from hl72] at hS10
      have hS11 := hS10.pick (M := [sl a26 c27 y4.heap.arena] ++ [sl a23 c24 y67.2, sl a20 c21 y60.2, sl a17 c18 y35.2, sl a29 c30 y4.heap.gc.grey, sl a32 c33 y4.taps, hole DPart (some ⟨b7, o8, none⟩) c0_0 s1.1 (s1.2.2 : Int).toNat [.slice a17 y35.2.length c18, .slice a20 y60.2.length c21, .slice a23 y67.2.length c24, .slice a26 y4.heap.arena.length c27, .int .i64 y4.heap.gc.phase, .int .i64 y4.heap.gc.pos, .int .i64 y4.heap.gc.round, .slice a29 y4.heap.gc.grey.length c30, .slice a32 y4.taps.length c33, .int .i64 y4.next, .int .i64 y4.want, .int .i64 y4.spent.pages, .int .i64 y4.spent.rent, .int .i64 y4.spent.cpu, .int .i64 y4.press, .int .i64 y4.lost]]) [3, 0, 1, 2, 4, 5, 6] rfl rfl
      obtain ⟨F75, hL76⟩ := St.lend (L := [sl a26 c27 y4.heap.arena]) (M := [sl a23 c24 y67.2, sl a20 c21 y60.2, sl a17 c18 y35.2, sl a29 c30 y4.heap.gc.grey, sl a32 c33 y4.taps, hole DPart (some ⟨b7, o8, none⟩) c0_0 s1.1 (s1.2.2 : Int).toNat [.slice a17 y35.2.length c18, .slice a20 y60.2.length c21, .slice a23 y67.2.length c24, .slice a26 y4.heap.arena.length c27, .int .i64 y4.heap.gc.phase, .int .i64 y4.heap.gc.pos, .int .i64 y4.heap.gc.round, .slice a29 y4.heap.gc.grey.length c30, .slice a32 y4.taps.length c33, .int .i64 y4.next, .int .i64 y4.want, .int .i64 y4.spent.pages, .int .i64 y4.spent.rent, .int .i64 y4.spent.cpu, .int .i64 y4.press, .int .i64 y4.lost]]) hS11
      refine LW.cl (W_l_markObjS hy74' rfl hL76.st) ?_
      rintro _ w80 ⟨rfl, hs⟩
      have hS12 := hL76.back _ _ hs
      refine go ?_
      refine LW.u (Pur.ix Tryz.underlying30 sz66 rfl rfl hp5 hq6) rfl ?_
      refine go ?_
      refine LW.sth (α := DPart) (vs := [.int .i64 y74.1]) hS12 6 rfl ag3 rfl (by show _ = o8 + (s1.2.2 : Int).toNat * 16 + 4; omega) rfl rfl rfl rfl ?_
      intro w81 hS13 hf
      refine go ?_
      refine LW.fl [0, 1, 5, 51, 52, 53] fun e => ?_
      refine LW.u (Pur.ix Tryz.underlying30 sz66 rfl rfl hp5 hq6) rfl ?_
      refine go ?_
      refine LW.sth (α := DPart) (vs := [.int .i64 (IntKind.i64.wrap (y74.1 + 1))]) hS13 6 rfl ag3 rfl (by show _ = o8 + (s1.2.2 : Int).toNat * 16 + 5; omega) rfl rfl rfl rfl ?_
      intro w82 hS14 hf
      refine go ?_
      refine LW.u (Pur.ix Tryz.underlying30 sz66 rfl rfl hp5 hq6) rfl ?_
      refine go ?_
      refine LW.sth (α := DPart) (vs := [.int .i64 (IntKind.i64.wrap ((IntKind.i64.wrap (y74.1 + 1)) + 1))]) hS14 6 rfl ag3 rfl (by show _ = o8 + (s1.2.2 : Int).toNat * 16 + 6; omega) rfl rfl rfl rfl ?_
      intro w83 hS15 hf
      refine go ?_
      refine LW.u (Pur.ix Tryz.underlying30 sz66 rfl rfl hp5 hq6) rfl ?_
      refine go ?_
      refine LW.fl [0, 1, 5, 74] fun e => ?_
      refine LW.l (Ldr.old w83 ag28 rfl (hS15.holeC 6 rfl (j := 7) rfl)) rfl rfl ?_
      refine go ?_
      replace ⟨y84, hy84, h⟩ := obind h
      obtain ⟨q87, hy84', hq88⟩ := obind hy84
      obtain ⟨hl89, hq88⟩ := keepL_some hq88
      rw [Option.some.inj hq88] at hy84' hl89
      rw [show y4.heap.arena.length = y74.2.length from hl79] at hS15
      have hS16 := hS15.pick (M := [sl a29 c30 y4.heap.gc.grey] ++ [sl a26 c27 y74.2, sl a23 c24 y67.2, sl a20 c21 y60.2, sl a17 c18 y35.2, sl a32 c33 y4.taps, hole DPart (some ⟨b7, o8, none⟩) c0_0 s1.1 (s1.2.2 : Int).toNat [.slice a17 y35.2.length c18, .slice a20 y60.2.length c21, .slice a23 y67.2.length c24, .slice a26 y74.2.length c27, .int .i64 y74.1, .int .i64 (IntKind.i64.wrap (y74.1 + 1)), .int .i64 (IntKind.i64.wrap ((IntKind.i64.wrap (y74.1 + 1)) + 1)), .slice a29 y4.heap.gc.grey.length c30, .slice a32 y4.taps.length c33, .int .i64 y4.next, .int .i64 y4.want, .int .i64 y4.spent.pages, .int .i64 y4.spent.rent, .int .i64 y4.spent.cpu, .int .i64 y4.press, .int .i64 y4.lost]]) [4, 0, 1, 2, 3, 5, 6] rfl rfl
      obtain ⟨F85, hL86⟩ := St.lend (L := [sl a29 c30 y4.heap.gc.grey]) (M := [sl a26 c27 y74.2, sl a23 c24 y67.2, sl a20 c21 y60.2, sl a17 c18 y35.2, sl a32 c33 y4.taps, hole DPart (some ⟨b7, o8, none⟩) c0_0 s1.1 (s1.2.2 : Int).toNat [.slice a17 y35.2.length c18, .slice a20 y60.2.length c21, .slice a23 y67.2.length c24, .slice a26 y74.2.length c27, .int .i64 y74.1, .int .i64 (IntKind.i64.wrap (y74.1 + 1)), .int .i64 (IntKind.i64.wrap ((IntKind.i64.wrap (y74.1 + 1)) + 1)), .slice a29 y4.heap.gc.grey.length c30, .slice a32 y4.taps.length c33, .int .i64 y4.next, .int .i64 y4.want, .int .i64 y4.spent.pages, .int .i64 y4.spent.rent, .int .i64 y4.spent.cpu, .int .i64 y4.press, .int .i64 y4.lost]]) hS16
      refine LW.cl (W_l_markIntS hy84' rfl hL86.st) ?_
      rintro _ w90 ⟨rfl, hs⟩
      have hS17 := hL86.back _ _ hs
      refine go ?_
      refine LW.u (Pur.ix Tryz.underlying30 sz66 rfl rfl hp5 hq6) rfl ?_
      refine go ?_
      refine LW.l (Ldr.old w90 ag63 rfl (hS17.holeC 6 rfl (j := 8) rfl)) rfl rfl ?_
      refine go ?_
      replace ⟨y91, hy91, h⟩ := obind h
      obtain ⟨q94, hy91', hq95⟩ := obind hy91
      obtain ⟨hl96, hq95⟩ := keepL_some hq95
      rw [Option.some.inj hq95] at hy91' hl96
      rw [show y4.heap.gc.grey.length = y84.2.length from hl89] at hS17
      have hS18 := hS17.pick (M := [sl a32 c33 y4.taps] ++ [sl a29 c30 y84.2, sl a26 c27 y74.2, sl a23 c24 y67.2, sl a20 c21 y60.2, sl a17 c18 y35.2, hole DPart (some ⟨b7, o8, none⟩) c0_0 s1.1 (s1.2.2 : Int).toNat [.slice a17 y35.2.length c18, .slice a20 y60.2.length c21, .slice a23 y67.2.length c24, .slice a26 y74.2.length c27, .int .i64 y74.1, .int .i64 (IntKind.i64.wrap (y74.1 + 1)), .int .i64 (IntKind.i64.wrap ((IntKind.i64.wrap (y74.1 + 1)) + 1)), .slice a29 y84.2.length c30, .slice a32 y4.taps.length c33, .int .i64 y4.next, .int .i64 y4.want, .int .i64 y4.spent.pages, .int .i64 y4.spent.rent, .int .i64 y4.spent.cpu, .int .i64 y4.press, .int .i64 y4.lost]]) [5, 0, 1, 2, 3, 4, 6] rfl rfl
      obtain ⟨F92, hL93⟩ := St.lend (L := [sl a32 c33 y4.taps]) (M := [sl a29 c30 y84.2, sl a26 c27 y74.2, sl a23 c24 y67.2, sl a20 c21 y60.2, sl a17 c18 y35.2, hole DPart (some ⟨b7, o8, none⟩) c0_0 s1.1 (s1.2.2 : Int).toNat [.slice a17 y35.2.length c18, .slice a20 y60.2.length c21, .slice a23 y67.2.length c24, .slice a26 y74.2.length c27, .int .i64 y74.1, .int .i64 (IntKind.i64.wrap (y74.1 + 1)), .int .i64 (IntKind.i64.wrap ((IntKind.i64.wrap (y74.1 + 1)) + 1)), .slice a29 y84.2.length c30, .slice a32 y4.taps.length c33, .int .i64 y4.next, .int .i64 y4.want, .int .i64 y4.spent.pages, .int .i64 y4.spent.rent, .int .i64 y4.spent.cpu, .int .i64 y4.press, .int .i64 y4.lost]]) hS18
      refine LW.cl (W_l_markTapS hy91' rfl hL93.st) ?_
      rintro _ w97 ⟨rfl, hs⟩
      have hS19 := hL93.back _ _ hs
      refine go ?_
      refine LW.u (Pur.ix Tryz.underlying30 sz66 rfl rfl hp5 hq6) rfl ?_
      refine go ?_
      refine LW.sth (α := DPart) (vs := [.int .i64 y91.1]) hS19 6 rfl ag3 rfl (by show _ = o8 + (s1.2.2 : Int).toNat * 16 + 9; omega) rfl rfl rfl rfl ?_
      intro w98 hS20 hf
      refine go ?_
      refine LW.u (Pur.ix Tryz.underlying30 sz66 rfl rfl hp5 hq6) rfl ?_
      refine go ?_
      refine LW.fl [0, 1, 5, 94, 96] fun e => ?_
      refine LW.sth (α := DPart) (vs := [.int .i64 (IntKind.i64.wrap (y91.1 + 1))]) hS20 6 rfl ag3 rfl (by show _ = o8 + (s1.2.2 : Int).toNat * 16 + 10; omega) rfl rfl rfl rfl ?_
      intro w99 hS21 hf
      refine go ?_
      refine LW.u (Pur.ix Tryz.underlying30 sz66 rfl rfl hp5 hq6) rfl ?_
      refine go ?_
      refine LW.sth (α := DPart) (vs := [.int .i64 (IntKind.i64.wrap ((IntKind.i64.wrap (y91.1 + 1)) + 1))]) hS21 6 rfl ag3 rfl (by show _ = o8 + (s1.2.2 : Int).toNat * 16 + 11; omega) rfl rfl rfl rfl ?_
      intro w100 hS22 hf
      refine go ?_
      refine LW.u (Pur.ix Tryz.underlying30 sz66 rfl rfl hp5 hq6) rfl ?_
      refine go ?_
      refine LW.sth (α := DPart) (vs := [.int .i64 (IntKind.i64.wrap ((IntKind.i64.wrap ((IntKind.i64.wrap (y91.1 + 1)) + 1)) + 1))]) hS22 6 rfl ag3 rfl (by show _ = o8 + (s1.2.2 : Int).toNat * 16 + 12; omega) rfl rfl rfl rfl ?_
      intro w101 hS23 hf
      refine go ?_
      refine LW.fl [0, 1, 5, 115, 116, 117] fun e => ?_
      refine LW.u (Pur.ix Tryz.underlying30 sz66 rfl rfl hp5 hq6) rfl ?_
      refine go ?_
      refine LW.sth (α := DPart) (vs := [.int .i64 (IntKind.i64.wrap ((IntKind.i64.wrap ((IntKind.i64.wrap ((IntKind.i64.wrap (y91.1 + 1)) + 1)) + 1)) + 1))]) hS23 6 rfl ag3 rfl (by show _ = o8 + (s1.2.2 : Int).toNat * 16 + 13; omega) rfl rfl rfl rfl ?_
      intro w102 hS24 hf
      refine go ?_
      refine LW.u (Pur.ix Tryz.underlying30 sz66 rfl rfl hp5 hq6) rfl ?_
      refine go ?_
      refine LW.sth (α := DPart) (vs := [.int .i64 (IntKind.i64.wrap ((IntKind.i64.wrap ((IntKind.i64.wrap ((IntKind.i64.wrap ((IntKind.i64.wrap (y91.1 + 1)) + 1)) + 1)) + 1)) + 1))]) hS24 6 rfl ag3 rfl (by show _ = o8 + (s1.2.2 : Int).toNat * 16 + 14; omega) rfl rfl rfl rfl ?_
      intro w103 hS25 hf
      refine go ?_
      refine LW.u (Pur.ix Tryz.underlying30 sz66 rfl rfl hp5 hq6) rfl ?_
      refine go ?_
      refine LW.sth (α := DPart) (vs := [.int .i64 (IntKind.i64.wrap ((IntKind.i64.wrap ((IntKind.i64.wrap ((IntKind.i64.wrap ((IntKind.i64.wrap ((IntKind.i64.wrap (y91.1 + 1)) + 1)) + 1)) + 1)) + 1)) + 1))]) hS25 6 rfl ag3 rfl (by show _ = o8 + (s1.2.2 : Int).toNat * 16 + 15; omega) rfl rfl rfl rfl ?_
      intro w104 hS26 hf
      refine go ?_
      replace h := Option.some.inj h
      subst h
      rw [show y4.taps.length = y91.2.length from hl96] at hS26
      have hS27 := hS26.pick (M := [sl a17 c18 y35.2, sl a20 c21 y60.2, sl a23 c24 y67.2, sl a26 c27 y74.2, sl a29 c30 y84.2, sl a32 c33 y91.2] ++ [hole DPart (some ⟨b7, o8, none⟩) c0_0 s1.1 (s1.2.2 : Int).toNat [.slice a17 y35.2.length c18, .slice a20 y60.2.length c21, .slice a23 y67.2.length c24, .slice a26 y74.2.length c27, .int .i64 y74.1, .int .i64 (IntKind.i64.wrap (y74.1 + 1)), .int .i64 (IntKind.i64.wrap ((IntKind.i64.wrap (y74.1 + 1)) + 1)), .slice a29 y84.2.length c30, .slice a32 y91.2.length c33, .int .i64 y91.1, .int .i64 (IntKind.i64.wrap (y91.1 + 1)), .int .i64 (IntKind.i64.wrap ((IntKind.i64.wrap (y91.1 + 1)) + 1)), .int .i64 (IntKind.i64.wrap ((IntKind.i64.wrap ((IntKind.i64.wrap (y91.1 + 1)) + 1)) + 1)), .int .i64 (IntKind.i64.wrap ((IntKind.i64.wrap ((IntKind.i64.wrap ((IntKind.i64.wrap (y91.1 + 1)) + 1)) + 1)) + 1)), .int .i64 (IntKind.i64.wrap ((IntKind.i64.wrap ((IntKind.i64.wrap ((IntKind.i64.wrap ((IntKind.i64.wrap (y91.1 + 1)) + 1)) + 1)) + 1)) + 1)), .int .i64 (IntKind.i64.wrap ((IntKind.i64.wrap ((IntKind.i64.wrap ((IntKind.i64.wrap ((IntKind.i64.wrap ((IntKind.i64.wrap (y91.1 + 1)) + 1)) + 1)) + 1)) + 1)) + 1))]]) [5, 4, 3, 2, 1, 0, 6] rfl rfl
      have hS28 := hS27.unfocus (M := [sl a17 c18 y35.2, sl a20 c21 y60.2, sl a23 c24 y67.2, sl a26 c27 y74.2, sl a29 c30 y84.2, sl a32 c33 y91.2]) (L := [hole DPart (some ⟨b7, o8, none⟩) c0_0 s1.1 (s1.2.2 : Int).toNat [.slice a17 y35.2.length c18, .slice a20 y60.2.length c21, .slice a23 y67.2.length c24, .slice a26 y74.2.length c27, .int .i64 y74.1, .int .i64 (IntKind.i64.wrap (y74.1 + 1)), .int .i64 (IntKind.i64.wrap ((IntKind.i64.wrap (y74.1 + 1)) + 1)), .slice a29 y84.2.length c30, .slice a32 y91.2.length c33, .int .i64 y91.1, .int .i64 (IntKind.i64.wrap (y91.1 + 1)), .int .i64 (IntKind.i64.wrap ((IntKind.i64.wrap (y91.1 + 1)) + 1)), .int .i64 (IntKind.i64.wrap ((IntKind.i64.wrap ((IntKind.i64.wrap (y91.1 + 1)) + 1)) + 1)), .int .i64 (IntKind.i64.wrap ((IntKind.i64.wrap ((IntKind.i64.wrap ((IntKind.i64.wrap (y91.1 + 1)) + 1)) + 1)) + 1)), .int .i64 (IntKind.i64.wrap ((IntKind.i64.wrap ((IntKind.i64.wrap ((IntKind.i64.wrap ((IntKind.i64.wrap (y91.1 + 1)) + 1)) + 1)) + 1)) + 1)), .int .i64 (IntKind.i64.wrap ((IntKind.i64.wrap ((IntKind.i64.wrap ((IntKind.i64.wrap ((IntKind.i64.wrap ((IntKind.i64.wrap (y91.1 + 1)) + 1)) + 1)) + 1)) + 1)) + 1))]]) (y := (DPart.mk (DLabel.mk y35.2) y60.2 y67.2 (DHeap.mk y74.2 (DGc.mk y74.1 (IntKind.i64.wrap (y74.1 + 1)) (IntKind.i64.wrap ((IntKind.i64.wrap (y74.1 + 1)) + 1)) y84.2)) y91.2 y91.1 (IntKind.i64.wrap (y91.1 + 1)) (DAmt.mk (IntKind.i64.wrap ((IntKind.i64.wrap (y91.1 + 1)) + 1)) (IntKind.i64.wrap ((IntKind.i64.wrap ((IntKind.i64.wrap (y91.1 + 1)) + 1)) + 1)) (IntKind.i64.wrap ((IntKind.i64.wrap ((IntKind.i64.wrap ((IntKind.i64.wrap (y91.1 + 1)) + 1)) + 1)) + 1))) (IntKind.i64.wrap ((IntKind.i64.wrap ((IntKind.i64.wrap ((IntKind.i64.wrap ((IntKind.i64.wrap (y91.1 + 1)) + 1)) + 1)) + 1)) + 1)) (IntKind.i64.wrap ((IntKind.i64.wrap ((IntKind.i64.wrap ((IntKind.i64.wrap ((IntKind.i64.wrap ((IntKind.i64.wrap (y91.1 + 1)) + 1)) + 1)) + 1)) + 1)) + 1)))) 0 rfl (fun w G hG => ⟨a17, c18, a20, c21, a23, c24, a26, c27, a29, c30, a32, c33, rfl, hG⟩)
      exact ⟨rfl, ⟨⟨(show (.slice (some ⟨b7, o8, none⟩) s1.1.length c0_0 : Value) = .slice (some ⟨b7, o8, none⟩) ((s1.1.set (s1.2.2 : Int).toNat (DPart.mk (DLabel.mk y35.2) y60.2 y67.2 (DHeap.mk y74.2 (DGc.mk y74.1 (IntKind.i64.wrap (y74.1 + 1)) (IntKind.i64.wrap ((IntKind.i64.wrap (y74.1 + 1)) + 1)) y84.2)) y91.2 y91.1 (IntKind.i64.wrap (y91.1 + 1)) (DAmt.mk (IntKind.i64.wrap ((IntKind.i64.wrap (y91.1 + 1)) + 1)) (IntKind.i64.wrap ((IntKind.i64.wrap ((IntKind.i64.wrap (y91.1 + 1)) + 1)) + 1)) (IntKind.i64.wrap ((IntKind.i64.wrap ((IntKind.i64.wrap ((IntKind.i64.wrap (y91.1 + 1)) + 1)) + 1)) + 1))) (IntKind.i64.wrap ((IntKind.i64.wrap ((IntKind.i64.wrap ((IntKind.i64.wrap ((IntKind.i64.wrap (y91.1 + 1)) + 1)) + 1)) + 1)) + 1)) (IntKind.i64.wrap ((IntKind.i64.wrap ((IntKind.i64.wrap ((IntKind.i64.wrap ((IntKind.i64.wrap ((IntKind.i64.wrap (y91.1 + 1)) + 1)) + 1)) + 1)) + 1)) + 1)))).length) c0_0 by rw [show s1.1.length = (s1.1.set (s1.2.2 : Int).toNat (DPart.mk (DLabel.mk y35.2) y60.2 y67.2 (DHeap.mk y74.2 (DGc.mk y74.1 (IntKind.i64.wrap (y74.1 + 1)) (IntKind.i64.wrap ((IntKind.i64.wrap (y74.1 + 1)) + 1)) y84.2)) y91.2 y91.1 (IntKind.i64.wrap (y91.1 + 1)) (DAmt.mk (IntKind.i64.wrap ((IntKind.i64.wrap (y91.1 + 1)) + 1)) (IntKind.i64.wrap ((IntKind.i64.wrap ((IntKind.i64.wrap (y91.1 + 1)) + 1)) + 1)) (IntKind.i64.wrap ((IntKind.i64.wrap ((IntKind.i64.wrap ((IntKind.i64.wrap (y91.1 + 1)) + 1)) + 1)) + 1))) (IntKind.i64.wrap ((IntKind.i64.wrap ((IntKind.i64.wrap ((IntKind.i64.wrap ((IntKind.i64.wrap (y91.1 + 1)) + 1)) + 1)) + 1)) + 1)) (IntKind.i64.wrap ((IntKind.i64.wrap ((IntKind.i64.wrap ((IntKind.i64.wrap ((IntKind.i64.wrap ((IntKind.i64.wrap (y91.1 + 1)) + 1)) + 1)) + 1)) + 1)) + 1)))).length from (len_set rfl)]), rfl, rfl, trivial⟩, hS28.pick [0] rfl rfl⟩⟩
    replace h := bcF h hc3
    refine go ?_
    cases oi h
    exact ⟨trivial, rfl, ⟨⟨rfl, trivial⟩, hS1.pick [0] rfl rfl⟩⟩
  intro x e w107 hM
  obtain ⟨rfl, hM⟩ := hM
  obtain ⟨hE, hS29⟩ := hM
  obtain ⟨e, rfl⟩ := hE.out
  have h := h106
  refine go ?_
  replace h := Option.some.inj h
  subst h
  exact And.intro trivial ⟨_, Res.one (resOne.t rfl), rfl, hS29.pick [0] rfl rfl⟩

theorem W_s_Held {w0 : World} {N : Nat} {x0 : DPart} {r : Int} (h : F_s_Held N x0 = some r) {a0_0 : Option Addr} {n0_0 c0_0 : Nat} (hn0_0 : n0_0 = x0.label.levels.length) (hr0_0 : rdS (Bor w0 []) w0 a0_0 c0_0 x0.label.levels) {a0_1 : Option Addr} {n0_1 c0_1 : Nat} (hn0_1 : n0_1 = x0.own.length) (hr0_1 : rdS (Bor w0 []) w0 a0_1 c0_1 x0.own) {a0_2 : Option Addr} {n0_2 c0_2 : Nat} (hn0_2 : n0_2 = x0.tree.length) (hr0_2 : rdS (Bor w0 []) w0 a0_2 c0_2 x0.tree) {a0_3 : Option Addr} {n0_3 c0_3 : Nat} (hn0_3 : n0_3 = x0.heap.arena.length) (hr0_3 : rdS (Bor w0 []) w0 a0_3 c0_3 x0.heap.arena) {a0_7 : Option Addr} {n0_7 c0_7 : Nat} (hn0_7 : n0_7 = x0.heap.gc.grey.length) (hr0_7 : rdS (Bor w0 []) w0 a0_7 c0_7 x0.heap.gc.grey) {a0_8 : Option Addr} {n0_8 c0_8 : Nat} (hn0_8 : n0_8 = x0.taps.length) (hr0_8 : rdS (Bor w0 []) w0 a0_8 c0_8 x0.taps) :
    Ret Tryz.prog 207 #[.agg #[.slice a0_0 n0_0 c0_0, .slice a0_1 n0_1 c0_1, .slice a0_2 n0_2 c0_2, .slice a0_3 n0_3 c0_3, .int .i64 x0.heap.gc.phase, .int .i64 x0.heap.gc.pos, .int .i64 x0.heap.gc.round, .slice a0_7 n0_7 c0_7, .slice a0_8 n0_8 c0_8, .int .i64 x0.next, .int .i64 x0.want, .int .i64 x0.spent.pages, .int .i64 x0.spent.rent, .int .i64 x0.spent.cpu, .int .i64 x0.press, .int .i64 x0.lost]] w0 (fun v w => v = .int .i64 r ∧ St w0 [] w []) := by
  subst hn0_0 hn0_1 hn0_2 hn0_3 hn0_7 hn0_8
  unfold F_s_Held at h
  refine Ret.fn Tryz.func207 fun e => ?_
  have hS1 := St.start w0
  refine go ?_
  refine LW.bo hS1 fun g1 w2 hS2 => ?_
  refine go ?_
  obtain ⟨o31, ho31, h32⟩ := obind h
  refine CW.mono (CW.iter (σ := Int × Int) (ρ := Int × Int) (fun s3 e wb => En e [(1, .pointer (some ⟨g1, 0, none⟩)), (3, .int .i64 s3.1), (4, .int .i64 s3.2)] ∧ St w0 [] wb [bx g1 66 [.slice a0_0 x0.label.levels.length c0_0, .slice a0_1 x0.own.length c0_1, .slice a0_2 x0.tree.length c0_2, .slice a0_3 x0.heap.arena.length c0_3, .int .i64 x0.heap.gc.phase, .int .i64 x0.heap.gc.pos, .int .i64 x0.heap.gc.round, .slice a0_7 x0.heap.gc.grey.length c0_7, .slice a0_8 x0.taps.length c0_8, .int .i64 x0.next, .int .i64 x0.want, .int .i64 x0.spent.pages, .int .i64 x0.spent.rent, .int .i64 x0.spent.cpu, .int .i64 x0.press, .int .i64 x0.lost]]) (fun s3 x e wb => x = .exit 0 ∧ En e [(3, .int .i64 s3.1)] ∧ St w0 [] wb [bx g1 66 [.slice a0_0 x0.label.levels.length c0_0, .slice a0_1 x0.own.length c0_1, .slice a0_2 x0.tree.length c0_2, .slice a0_3 x0.heap.arena.length c0_3, .int .i64 x0.heap.gc.phase, .int .i64 x0.heap.gc.pos, .int .i64 x0.heap.gc.round, .slice a0_7 x0.heap.gc.grey.length c0_7, .slice a0_8 x0.taps.length c0_8, .int .i64 x0.next, .int .i64 x0.want, .int .i64 x0.spent.pages, .int .i64 x0.spent.rent, .int .i64 x0.spent.cpu, .int .i64 x0.press, .int .i64 x0.lost]]) ?_ N (0, 0) _ _ _ ⟨⟨rfl, rfl, rfl, trivial⟩, hS2.pick [0] rfl rfl⟩ ho31) ?_
  · intro s3 e w4 o hM h
    obtain ⟨hE, hS3⟩ := hM
    obtain ⟨e, rfl⟩ := hE.out
    refine gs ?_
    obtain ⟨j5, hj5, h6⟩ := obind h
    refine CW.cut (fun e wb => En e [(1, .pointer (some ⟨g1, 0, none⟩)), (3, .int .i64 s3.1), (4, .int .i64 s3.2), (14, .bool j5)] ∧ St w0 [] wb [bx g1 66 [.slice a0_0 x0.label.levels.length c0_0, .slice a0_1 x0.own.length c0_1, .slice a0_2 x0.tree.length c0_2, .slice a0_3 x0.heap.arena.length c0_3, .int .i64 x0.heap.gc.phase, .int .i64 x0.heap.gc.pos, .int .i64 x0.heap.gc.round, .slice a0_7 x0.heap.gc.grey.length c0_7, .slice a0_8 x0.taps.length c0_8, .int .i64 x0.next, .int .i64 x0.want, .int .i64 x0.spent.pages, .int .i64 x0.spent.rent, .int .i64 x0.spent.cpu, .int .i64 x0.press, .int .i64 x0.lost]]) ?_ ?_
    · have h := hj5
      refine go ?_
      rcases bcases (decide (s3.2 < (x0.heap.arena.length : Int))) with hc7 | hc7
      · replace h := bcT h hc7
        refine go ?_
        cases oi h
        exact ⟨⟨rfl, rfl, rfl, rfl, trivial⟩, hS3.pick [0] rfl rfl⟩
      replace h := bcF h hc7
      refine go ?_
      cases oi h
      exact ⟨⟨rfl, rfl, rfl, rfl, trivial⟩, hS3.pick [0] rfl rfl⟩
    rintro e w8 ⟨hE, hS4⟩
    obtain ⟨e, rfl⟩ := hE.out
    have h := h6
    refine go ?_
    refine CW.cond rfl (fun hc9 => ?_) (fun hc9 => ?_)
    · replace h := bcT h hc9
      refine go ?_
      replace ⟨y10, hy10, h⟩ := obind h
      obtain ⟨b13, o14, cs15, hae, hb18, hp11, hq12, hd16, hk17⟩ := hr0_3.idx hy10
      subst hae
      obtain ⟨a19, c20, a22, c23, a25, c26, rfl, hr21, hr24, hr27⟩ := hd16
      refine LW.u (Pur.ix Tryz.underlying59 sz92 rfl rfl hp11 hq12) rfl ?_
      refine LW.l (Ldr.oldN w0 ag92 rfl rfl (fun j u hu => hk17 j u hu)) (hS4.same _ hb18.1 hb18.2) rfl ?_
      replace ⟨y28, hy28, h⟩ := obind h
      refine LW.c0 (W_s_ObjOk hy28 rfl (hS4.rB hr21) rfl (hS4.rB hr24) rfl (hS4.rB hr27)) hS4 fun w29 hS5 => ?_
      refine go ?_
      refine CW.cond rfl (fun hc30 => ?_) (fun hc30 => ?_)
      · replace h := bcT h hc30
        refine go ?_
        refine LW.u (Pur.ix Tryz.underlying59 sz92 rfl rfl hp11 hq12) rfl ?_
        refine go ?_
        refine LW.l (Ldr.old w0 ag3 rfl (hk17 5 _ rfl)) (hS5.same _ hb18.1 hb18.2) rfl ?_
        refine go ?_
        cases oi h
        exact ⟨rfl, ⟨⟨rfl, rfl, rfl, trivial⟩, hS5.pick [0] rfl rfl⟩⟩
      replace h := bcF h hc30
      refine go ?_
      cases oi h
      exact ⟨rfl, ⟨⟨rfl, rfl, rfl, trivial⟩, hS5.pick [0] rfl rfl⟩⟩
    replace h := bcF h hc9
    refine go ?_
    cases oi h
    exact ⟨trivial, rfl, ⟨⟨rfl, trivial⟩, hS4.pick [0] rfl rfl⟩⟩
  intro x e w33 hM
  obtain ⟨rfl, hM⟩ := hM
  obtain ⟨hE, hS6⟩ := hM
  obtain ⟨e, rfl⟩ := hE.out
  have h := h32
  refine go ?_
  cases h
  exact And.intro trivial ⟨_, Res.one (resOne.t rfl), rfl, hS6.pick [] rfl rfl⟩

theorem W_l_markWorld {w0 : World} {F : List Nat} {N : Nat} {x0 : DWorld} {x1 : Int} {r : Int × (List DPart)} (h : F_l_markWorld N x0 x1 = some r) {a0_1 : Option Addr} {n0_1 c0_1 : Nat} (hn0_1 : n0_1 = x0.parts.length) (hS : St w0 F w0 [sl a0_1 c0_1 x0.parts]) :
    Ret Tryz.prog 17 #[.agg #[.int .i64 x0.now, .slice a0_1 n0_1 c0_1], .int .i64 x1] w0 (fun v w => v = .int .i64 r.1 ∧ St w0 F w [sl a0_1 c0_1 r.2]) := by
  subst hn0_1
  unfold F_l_markWorld at h
  refine Ret.fn Tryz.func17 fun e => ?_
  refine go ?_
  refine LW.bo hS fun g1 w2 hS1 => ?_
  refine go ?_
  replace ⟨y3, hy3, h⟩ := obind h
  obtain ⟨q6, hy3', hq7⟩ := obind hy3
  obtain ⟨hl8, hq7⟩ := keepL_some hq7
  rw [Option.some.inj hq7] at hy3' hl8
  have hS2 := hS1.pick (M := [sl a0_1 c0_1 x0.parts] ++ [bx g1 32 [.int .i64 x0.now, .slice a0_1 x0.parts.length c0_1]]) [1, 0] rfl rfl
  obtain ⟨F4, hL5⟩ := St.lend (L := [sl a0_1 c0_1 x0.parts]) (M := [bx g1 32 [.int .i64 x0.now, .slice a0_1 x0.parts.length c0_1]]) hS2
  refine LW.cl (W_l_markPartS hy3' rfl hL5.st) ?_
  rintro _ w9 ⟨rfl, hs⟩
  have hS3 := hL5.back _ _ hs
  refine go ?_
  replace h := Option.some.inj h
  subst h
  rw [show x0.parts.length = y3.2.length from hl8] at hS3
  exact And.intro trivial ⟨_, Res.one (resOne.t rfl), rfl, hS3.pick [0] rfl rfl⟩

theorem W_s_TreeSum {w0 : World} {N : Nat} {x0 : List DRes} {r : DAmt} (h : F_s_TreeSum N x0 = some r) {a0_0 : Option Addr} {n0_0 c0_0 : Nat} (hn0_0 : n0_0 = x0.length) (hr0_0 : rdS (Bor w0 []) w0 a0_0 c0_0 x0) :
    Ret Tryz.prog 206 #[.slice a0_0 n0_0 c0_0] w0 (fun v w => v = .agg #[.int .i64 r.pages, .int .i64 r.rent, .int .i64 r.cpu] ∧ St w0 [] w []) := by
  subst hn0_0
  unfold F_s_TreeSum at h
  refine Ret.fn Tryz.func206 fun e => ?_
  have hS1 := St.start w0
  refine go ?_
  refine LW.al hS1 fun g1 w2 hS2 => ?_
  refine go ?_
  replace ⟨y3, hy3, h⟩ := obind h
  refine LW.c0 (W_s_TreeOk hy3 rfl (hS2.rB hr0_0)) hS2 fun w4 hS3 => ?_
  refine go ?_
  refine CW.cond rfl (fun hc5 => ?_) (fun hc5 => ?_)
  · replace h := bcT h hc5
    refine go ?_
    refine LW.u (Pur.build (vs := []) (cs := #[.int .i64 0, .int .i64 0, .int .i64 0]) rfl (by kernel_rfl)) rfl ?_
    refine LW.st hS3 0 fun w6 hS4 => ?_
    refine go ?_
    cases h
    exact And.intro trivial ⟨_, Res.one (resOne.b hS4 0 rfl ag64 rfl rfl), rfl, hS4.pick [] rfl rfl⟩
  replace h := bcF h hc5
  refine go ?_
  replace ⟨y7, hy7, h⟩ := obind h
  refine LW.c0 (W_s_l6Sum hy7 rfl (hS3.rB hr0_0)) hS3 fun w8 hS5 => ?_
  refine LW.st hS5 0 fun w9 hS6 => ?_
  refine go ?_
  cases h
  exact And.intro trivial ⟨_, Res.one (resOne.b hS6 0 rfl ag64 rfl rfl), rfl, hS6.pick [] rfl rfl⟩

theorem W_i_firstThings {w0 : World} {N : Nat} {x0 : DPart} {r : (List DObjP)} (h : F_i_firstThings N x0 = some r) {a0_0 : Option Addr} {n0_0 c0_0 : Nat} (hn0_0 : n0_0 = x0.label.levels.length) (hr0_0 : rdS (Bor w0 []) w0 a0_0 c0_0 x0.label.levels) {a0_1 : Option Addr} {n0_1 c0_1 : Nat} (hn0_1 : n0_1 = x0.own.length) (hr0_1 : rdS (Bor w0 []) w0 a0_1 c0_1 x0.own) {a0_2 : Option Addr} {n0_2 c0_2 : Nat} (hn0_2 : n0_2 = x0.tree.length) (hr0_2 : rdS (Bor w0 []) w0 a0_2 c0_2 x0.tree) {a0_3 : Option Addr} {n0_3 c0_3 : Nat} (hn0_3 : n0_3 = x0.heap.arena.length) (hr0_3 : rdS (Bor w0 []) w0 a0_3 c0_3 x0.heap.arena) {a0_7 : Option Addr} {n0_7 c0_7 : Nat} (hn0_7 : n0_7 = x0.heap.gc.grey.length) (hr0_7 : rdS (Bor w0 []) w0 a0_7 c0_7 x0.heap.gc.grey) {a0_8 : Option Addr} {n0_8 c0_8 : Nat} (hn0_8 : n0_8 = x0.taps.length) (hr0_8 : rdS (Bor w0 []) w0 a0_8 c0_8 x0.taps) :
    Ret Tryz.prog 208 #[.agg #[.slice a0_0 n0_0 c0_0, .slice a0_1 n0_1 c0_1, .slice a0_2 n0_2 c0_2, .slice a0_3 n0_3 c0_3, .int .i64 x0.heap.gc.phase, .int .i64 x0.heap.gc.pos, .int .i64 x0.heap.gc.round, .slice a0_7 n0_7 c0_7, .slice a0_8 n0_8 c0_8, .int .i64 x0.next, .int .i64 x0.want, .int .i64 x0.spent.pages, .int .i64 x0.spent.rent, .int .i64 x0.spent.cpu, .int .i64 x0.press, .int .i64 x0.lost]] w0 (fun v w => ∃ ar0 cr0, v = .slice ar0 r.length cr0 ∧ St w0 [] w [sl ar0 cr0 r]) := by
  subst hn0_0 hn0_1 hn0_2 hn0_3 hn0_7 hn0_8
  unfold F_i_firstThings at h
  refine Ret.fn Tryz.func208 fun e => ?_
  have hS1 := St.start w0
  refine go ?_
  refine LW.bo hS1 fun g1 w2 hS2 => ?_
  refine go ?_
  refine LW.bsl (α := DObjP) (vs := []) (cs := #[]) (l := ([] : List DObjP)) rfl (by kernel_rfl) rfl rfl rfl (fun w => rfl) hS2 rfl ?_
  intro a3 c4 w5 hS3 hf
  refine go ?_
  refine LW.u (Pur.min rfl rfl) rfl ?_
  replace ⟨y6, hy6, h⟩ := obind h
  obtain ⟨a7, c8, he9, he10, hr11⟩ := rdS.sub' hr0_3 hy6
  have hle12 := (hr0_3).le
  refine LW.u (Pur.sub (α := DObj) (l := x0.heap.arena) Tryz.underlying59 sz92 rfl bndN (bndS rfl) hy6 hle12 he9 he10) rfl ?_
  refine go ?_
  obtain ⟨o45, ho45, h46⟩ := obind h
  refine CW.mono (CW.iter (σ := (List DObjP) × Int) (ρ := (List DObjP) × Int) (fun s13 e wb => ∃ (s13a0 : Option Addr), ∃ (s13c0 : Nat), En e [(3, .slice s13a0 s13.1.length s13c0), (15, .slice a7 y6.length c8), (16, .int .i64 (y6.length : Int)), (17, .int .i64 s13.2)] ∧ St w0 [] wb [sl s13a0 s13c0 s13.1]) (fun s13 x e wb => x = .exit 0 ∧ ∃ (s13a0 : Option Addr), ∃ (s13c0 : Nat), En e [(3, .slice s13a0 s13.1.length s13c0)] ∧ St w0 [] wb [sl s13a0 s13c0 s13.1]) ?_ N (([] : List DObjP), 0) _ _ _ ⟨a3, c4, ⟨rfl, rfl, rfl, rfl, trivial⟩, hS3.pick [0] rfl rfl⟩ ho45) ?_
  · intro s13 e w14 o hM h
    obtain ⟨s13a0, s13c0, hE, hS4⟩ := hM
    obtain ⟨e, rfl⟩ := hE.out
    refine go ?_
    refine CW.fl [3, 15, 16, 17, 18] fun e => ?_
    refine CW.cond rfl (fun hc15 => ?_) (fun hc15 => ?_)
    · replace h := bcT h hc15
      refine go ?_
      replace ⟨y16, hy16, h⟩ := obind h
      obtain ⟨b19, o20, cs21, hae, hb24, hp17, hq18, hd22, hk23⟩ := hr11.idx hy16
      subst hae
      obtain ⟨a25, c26, a28, c29, a31, c32, rfl, hr27, hr30, hr33⟩ := hd22
      refine LW.u (Pur.ix Tryz.underlying59 sz92 rfl rfl hp17 hq18) rfl ?_
      refine LW.l (Ldr.oldN w0 ag92 rfl rfl (fun j u hu => hk23 j u hu)) (hS4.same _ hb24.1 hb24.2) rfl ?_
      refine LW.al hS4 fun g34 w35 hS5 => ?_
      refine LW.st hS5 0 fun w36 hS6 => ?_
      refine go ?_
      replace ⟨y37, hy37, h⟩ := obind h
      refine LW.c0 (W_i_ObjOk hy37 rfl (hS6.rB hr27) rfl (hS6.rB hr30) rfl (hS6.rB hr33)) hS6 fun w38 hS7 => ?_
      refine go ?_
      refine CW.cond rfl (fun hc39 => ?_) (fun hc39 => ?_)
      · replace h := bcT h hc39
        refine go ?_
        replace ⟨y40, hy40, h⟩ := obind h
        refine LW.app1 (M := []) (L := [bx g34 92 [.int .i64 y16.gen, .int .i64 y16.kind, .int .i64 y16.box, .int .i64 y16.res, .int .i64 y16.til, .int .i64 y16.pages, .int .i64 y16.wait, .int .i64 y16.got, .int .i64 y16.ran, .bool y16.mark, .slice a25 y16.links.length c26, .slice a28 y16.data.length c29, .slice a31 y16.queue.length c32], sl s13a0 s13c0 s13.1]) (vs := #[.int .i64 y16.gen, .int .i64 y16.kind, .int .i64 y16.box, .int .i64 y16.res, .int .i64 y16.til, .int .i64 y16.pages, .int .i64 y16.wait, .int .i64 y16.got, .int .i64 y16.ran, .bool y16.mark, .slice a25 y16.links.length c26, .slice a28 y16.data.length c29, .slice a31 y16.queue.length c32]) (i := 1) sTP59 rfl (by kernel_rfl) rfl rfl hy40 hS7 rfl (fun w G hG => by cases (show G = [] from hG); exact ⟨⟨_, _, _, _, _, _, _, _, _, rfl⟩, rfl⟩) rfl rfl ?_
        intro v43 a41 c42 w44 hS8 hf
        refine go ?_
        cases oi h
        exact ⟨rfl, ⟨a41, c42, ⟨rfl, rfl, rfl, rfl, trivial⟩, hS8.pick [1] rfl rfl⟩⟩
      replace h := bcF h hc39
      refine go ?_
      cases oi h
      exact ⟨rfl, ⟨s13a0, s13c0, ⟨rfl, rfl, rfl, rfl, trivial⟩, hS7.pick [1] rfl rfl⟩⟩
    replace h := bcF h hc15
    refine go ?_
    cases oi h
    exact ⟨trivial, rfl, ⟨s13a0, s13c0, ⟨rfl, trivial⟩, hS4.pick [0] rfl rfl⟩⟩
  intro x e w47 hM
  obtain ⟨rfl, hM⟩ := hM
  obtain ⟨s13a0, s13c0, hE, hS9⟩ := hM
  obtain ⟨e, rfl⟩ := hE.out
  have h := h46
  refine go ?_
  cases h
  exact And.intro trivial ⟨_, Res.one (resOne.t rfl), s13a0, s13c0, rfl, hS9.pick [0] rfl rfl⟩

theorem W_l_szPartS {w0 : World} {N : Nat} {x0 : List DPart} {x1 : Int} {r : Int} (h : F_l_szPartS N x0 x1 = some r) {a0_0 : Option Addr} {n0_0 c0_0 : Nat} (hn0_0 : n0_0 = x0.length) (hr0_0 : rdS (Bor w0 []) w0 a0_0 c0_0 x0) :
    Ret Tryz.prog 38 #[.slice a0_0 n0_0 c0_0, .int .i64 x1] w0 (fun v w => v = .int .i64 r ∧ St w0 [] w []) := by
  subst hn0_0
  unfold F_l_szPartS at h
  refine Ret.fn Tryz.func38 fun e => ?_
  have hS1 := St.start w0
  refine go ?_
  refine CW.cond rfl (fun hc1 => ?_) (fun hc1 => ?_)
  · replace h := bcT h hc1
    refine go ?_
    cases h
    exact And.intro trivial ⟨_, Res.one (resOne.t rfl), rfl, hS1.pick [] rfl rfl⟩
  replace h := bcF h hc1
  refine go ?_
  obtain ⟨o35, ho35, h36⟩ := obind h
  refine CW.mono (CW.iter (σ := Int × Int) (ρ := (Int × Int) ⊕ Int) (fun s2 e wb => En e [(0, .slice a0_0 x0.length c0_0), (1, .int .i64 s2.1), (5, .int .i64 s2.2)] ∧ St w0 [] wb []) (fun o x e wb => match o with | .inl s2 => x = .exit 0 ∧ En e [(1, .int .i64 s2.1)] ∧ St w0 [] wb [] | .inr r => x = .ret ∧ ∃ u, u = r ∧ ∃ v, Res Tryz.prog Tryz.f38.results e wb v ∧ v = .int .i64 u ∧ St w0 [] wb []) ?_ N (IntKind.i64.wrap (x1 - (x0.length : Int)), 0) _ _ _ ⟨⟨rfl, rfl, rfl, trivial⟩, hS1.pick [] rfl rfl⟩ ho35) ?_
  · intro s2 e w3 o hM h
    obtain ⟨hE, hS2⟩ := hM
    obtain ⟨e, rfl⟩ := hE.out
    refine go ?_
    refine CW.fl [0, 1, 5, 15] fun e => ?_
    refine CW.cond rfl (fun hc4 => ?_) (fun hc4 => ?_)
    · replace h := bcT h hc4
      refine go ?_
      replace ⟨y5, hy5, h⟩ := obind h
      obtain ⟨b8, o9, cs10, hae, hb13, hp6, hq7, hd11, hk12⟩ := hr0_0.idx hy5
      subst hae
      obtain ⟨a14, c15, a17, c18, a20, c21, a23, c24, a26, c27, a29, c30, rfl, hr16, hr19, hr22, hr25, hr28, hr31⟩ := hd11
      refine LW.u (Pur.ix Tryz.underlying22 sz55 rfl rfl hp6 hq7) rfl ?_
      refine LW.l (Ldr.oldN w0 ag55 rfl rfl (fun j u hu => hk12 j u hu)) (hS2.same _ hb13.1 hb13.2) rfl ?_
      refine go ?_
      replace ⟨y32, hy32, h⟩ := obind h
      refine LW.c0 (W_l_szPart hy32 rfl (hS2.rB hr16) rfl (hS2.rB hr19) rfl (hS2.rB hr22) rfl (hS2.rB hr25) rfl (hS2.rB hr28) rfl (hS2.rB hr31)) hS2 fun w33 hS3 => ?_
      refine go ?_
      refine CW.cond rfl (fun hc34 => ?_) (fun hc34 => ?_)
      · replace h := bcT h hc34
        refine go ?_
        cases oi h
        exact ⟨trivial, rfl, _, rfl, ⟨_, Res.one (resOne.t rfl), rfl, hS3.pick [] rfl rfl⟩⟩
      replace h := bcF h hc34
      refine go ?_
      cases oi h
      exact ⟨rfl, ⟨⟨rfl, rfl, rfl, trivial⟩, hS3.pick [] rfl rfl⟩⟩
    replace h := bcF h hc4
    refine go ?_
    cases oi h
    exact ⟨trivial, rfl, ⟨⟨rfl, trivial⟩, hS2.pick [] rfl rfl⟩⟩
  intro x e w37 hM
  rcases o35 with o35 | r38
  · obtain ⟨rfl, hM⟩ := hM
    obtain ⟨hE, hS4⟩ := hM
    obtain ⟨e, rfl⟩ := hE.out
    have h := h36
    refine go ?_
    cases h
    exact And.intro trivial ⟨_, Res.one (resOne.t rfl), rfl, hS4.pick [] rfl rfl⟩
  obtain ⟨rfl, u, rfl, hM⟩ := hM
  cases h36
  exact And.intro trivial hM

theorem W_s_PartSum {w0 : World} {N : Nat} {x0 : DPart} {r : DAmt} (h : F_s_PartSum N x0 = some r) {a0_0 : Option Addr} {n0_0 c0_0 : Nat} (hn0_0 : n0_0 = x0.label.levels.length) (hr0_0 : rdS (Bor w0 []) w0 a0_0 c0_0 x0.label.levels) {a0_1 : Option Addr} {n0_1 c0_1 : Nat} (hn0_1 : n0_1 = x0.own.length) (hr0_1 : rdS (Bor w0 []) w0 a0_1 c0_1 x0.own) {a0_2 : Option Addr} {n0_2 c0_2 : Nat} (hn0_2 : n0_2 = x0.tree.length) (hr0_2 : rdS (Bor w0 []) w0 a0_2 c0_2 x0.tree) {a0_3 : Option Addr} {n0_3 c0_3 : Nat} (hn0_3 : n0_3 = x0.heap.arena.length) (hr0_3 : rdS (Bor w0 []) w0 a0_3 c0_3 x0.heap.arena) {a0_7 : Option Addr} {n0_7 c0_7 : Nat} (hn0_7 : n0_7 = x0.heap.gc.grey.length) (hr0_7 : rdS (Bor w0 []) w0 a0_7 c0_7 x0.heap.gc.grey) {a0_8 : Option Addr} {n0_8 c0_8 : Nat} (hn0_8 : n0_8 = x0.taps.length) (hr0_8 : rdS (Bor w0 []) w0 a0_8 c0_8 x0.taps) :
    Ret Tryz.prog 182 #[.agg #[.slice a0_0 n0_0 c0_0, .slice a0_1 n0_1 c0_1, .slice a0_2 n0_2 c0_2, .slice a0_3 n0_3 c0_3, .int .i64 x0.heap.gc.phase, .int .i64 x0.heap.gc.pos, .int .i64 x0.heap.gc.round, .slice a0_7 n0_7 c0_7, .slice a0_8 n0_8 c0_8, .int .i64 x0.next, .int .i64 x0.want, .int .i64 x0.spent.pages, .int .i64 x0.spent.rent, .int .i64 x0.spent.cpu, .int .i64 x0.press, .int .i64 x0.lost]] w0 (fun v w => v = .agg #[.int .i64 r.pages, .int .i64 r.rent, .int .i64 r.cpu] ∧ St w0 [] w []) := by
  subst hn0_0 hn0_1 hn0_2 hn0_3 hn0_7 hn0_8
  unfold F_s_PartSum at h
  refine Ret.fn Tryz.func182 fun e => ?_
  have hS1 := St.start w0
  refine go ?_
  refine LW.bo hS1 fun g1 w2 hS2 => ?_
  refine LW.al hS2 fun g3 w4 hS3 => ?_
  refine go ?_
  replace ⟨y5, hy5, h⟩ := obind h
  refine LW.c0 (W_s_TreeSum hy5 rfl (hS3.rB hr0_2)) hS3 fun w6 hS4 => ?_
  refine LW.al hS4 fun g7 w8 hS5 => ?_
  refine LW.st hS5 0 fun w9 hS6 => ?_
  refine go ?_
  replace ⟨y10, hy10, h⟩ := obind h
  refine LW.c0 (W_s_AmtOk hy10) hS6 fun w11 hS7 => ?_
  refine go ?_
  refine CW.cond rfl (fun hc12 => ?_) (fun hc12 => ?_)
  · replace h := bcT h hc12
    refine go ?_
    refine LW.st hS7 1 fun w13 hS8 => ?_
    refine go ?_
    cases h
    exact And.intro trivial ⟨_, Res.one (resOne.b hS8 1 rfl ag64 rfl rfl), rfl, hS8.pick [] rfl rfl⟩
  replace h := bcF h hc12
  refine go ?_
  refine CW.draw (by kernel_rfl) ?_
  have hS9 := hS7.drew
  refine AW.u (i := 0) rfl (by kernel_rfl) rfl rfl (Pur.fa fo64_0 rfl) ?_
  refine AW.take (i := 1) rfl (by kernel_rfl) rfl rfl (Ldr.box (bt := 64) (fr := (0, 0)) (cs := [.int .i64 y5.pages, .int .i64 y5.rent, .int .i64 y5.cpu]) ag3 rfl rfl) (St.cell (h := hS9) (i := 0) rfl) ?_
  refine AW.take (i := 2) rfl (by kernel_rfl) rfl rfl (Ldr.boxN (bt := 66) (fr := (0, 0)) (cs := [.slice a0_0 x0.label.levels.length c0_0, .slice a0_1 x0.own.length c0_1, .slice a0_2 x0.tree.length c0_2, .slice a0_3 x0.heap.arena.length c0_3, .int .i64 x0.heap.gc.phase, .int .i64 x0.heap.gc.pos, .int .i64 x0.heap.gc.round, .slice a0_7 x0.heap.gc.grey.length c0_7, .slice a0_8 x0.taps.length c0_8, .int .i64 x0.next, .int .i64 x0.want, .int .i64 x0.spent.pages, .int .i64 x0.spent.rent, .int .i64 x0.spent.cpu, .int .i64 x0.press, .int .i64 x0.lost]) ag66 rfl rfl) (St.cell (h := hS9) (i := 2) rfl) ?_
  refine AW.u (i := 5) rfl (by kernel_rfl) rfl rfl (Pur.fa fo66_7 rfl) ?_
  refine AW.u (i := 6) rfl (by kernel_rfl) rfl rfl (Pur.fa fo64_0 rfl) ?_
  refine AW.take (i := 7) rfl (by kernel_rfl) rfl rfl (Ldr.box (bt := 66) (fr := (0, 0)) (cs := [.slice a0_0 x0.label.levels.length c0_0, .slice a0_1 x0.own.length c0_1, .slice a0_2 x0.tree.length c0_2, .slice a0_3 x0.heap.arena.length c0_3, .int .i64 x0.heap.gc.phase, .int .i64 x0.heap.gc.pos, .int .i64 x0.heap.gc.round, .slice a0_7 x0.heap.gc.grey.length c0_7, .slice a0_8 x0.taps.length c0_8, .int .i64 x0.next, .int .i64 x0.want, .int .i64 x0.spent.pages, .int .i64 x0.spent.rent, .int .i64 x0.spent.cpu, .int .i64 x0.press, .int .i64 x0.lost]) ag3 rfl rfl) (St.cell (h := hS9) (i := 2) rfl) ?_
  refine AW.u (i := 9) rfl (by kernel_rfl) rfl rfl (Pur.fa fo64_1 rfl) ?_
  refine AW.take (i := 10) rfl (by kernel_rfl) rfl rfl (Ldr.box (bt := 64) (fr := (0, 0)) (cs := [.int .i64 y5.pages, .int .i64 y5.rent, .int .i64 y5.cpu]) ag3 rfl rfl) (St.cell (h := hS9) (i := 0) rfl) ?_
  refine AW.u (i := 11) rfl (by kernel_rfl) rfl rfl (Pur.fa fo66_7 rfl) ?_
  refine AW.u (i := 12) rfl (by kernel_rfl) rfl rfl (Pur.fa fo64_1 rfl) ?_
  refine AW.take (i := 13) rfl (by kernel_rfl) rfl rfl (Ldr.box (bt := 66) (fr := (0, 0)) (cs := [.slice a0_0 x0.label.levels.length c0_0, .slice a0_1 x0.own.length c0_1, .slice a0_2 x0.tree.length c0_2, .slice a0_3 x0.heap.arena.length c0_3, .int .i64 x0.heap.gc.phase, .int .i64 x0.heap.gc.pos, .int .i64 x0.heap.gc.round, .slice a0_7 x0.heap.gc.grey.length c0_7, .slice a0_8 x0.taps.length c0_8, .int .i64 x0.next, .int .i64 x0.want, .int .i64 x0.spent.pages, .int .i64 x0.spent.rent, .int .i64 x0.spent.cpu, .int .i64 x0.press, .int .i64 x0.lost]) ag3 rfl rfl) (St.cell (h := hS9) (i := 2) rfl) ?_
  refine AW.u (i := 14) rfl (by kernel_rfl) rfl rfl (Pur.p rfl) ?_
  refine AW.u (i := 15) rfl (by kernel_rfl) rfl rfl (Pur.fa fo64_2 rfl) ?_
  refine AW.take (i := 16) rfl (by kernel_rfl) rfl rfl (Ldr.box (bt := 64) (fr := (0, 0)) (cs := [.int .i64 y5.pages, .int .i64 y5.rent, .int .i64 y5.cpu]) ag3 rfl rfl) (St.cell (h := hS9) (i := 0) rfl) ?_
  refine AW.u (i := 17) rfl (by kernel_rfl) rfl rfl (Pur.fa fo66_7 rfl) ?_
  refine AW.u (i := 18) rfl (by kernel_rfl) rfl rfl (Pur.fa fo64_2 rfl) ?_
  refine AW.take (i := 19) rfl (by kernel_rfl) rfl rfl (Ldr.box (bt := 66) (fr := (0, 0)) (cs := [.slice a0_0 x0.label.levels.length c0_0, .slice a0_1 x0.own.length c0_1, .slice a0_2 x0.tree.length c0_2, .slice a0_3 x0.heap.arena.length c0_3, .int .i64 x0.heap.gc.phase, .int .i64 x0.heap.gc.pos, .int .i64 x0.heap.gc.round, .slice a0_7 x0.heap.gc.grey.length c0_7, .slice a0_8 x0.taps.length c0_8, .int .i64 x0.next, .int .i64 x0.want, .int .i64 x0.spent.pages, .int .i64 x0.spent.rent, .int .i64 x0.spent.cpu, .int .i64 x0.press, .int .i64 x0.lost]) ag3 rfl rfl) (St.cell (h := hS9) (i := 2) rfl) ?_
  refine AW.u (i := 20) rfl (by kernel_rfl) rfl rfl (Pur.p rfl) ?_
  replace ⟨y14, hy14, h⟩ := obind h
  have q := W_s_Held (w0 := w11.drew) hy14 rfl (hS9.rB hr0_0) rfl (hS9.rB hr0_1) rfl (hS9.rB hr0_2) rfl (hS9.rB hr0_3) rfl (hS9.rB hr0_7) rfl (hS9.rB hr0_8)
  refine AW.one (i := 3) (by kernel_rfl) ?_
  refine ⟨_, rfl, ?_⟩
  refine LW.call pl207 rfl rfl ?_
  refine Ret.mono q ?_
  rintro _ w15 ⟨rfl, hs⟩
  have hS10 := hS9.add hs
  refine LW.nil ⟨rfl, (.c (St.cell (h := hS10) (i := 2) rfl) (.c (St.cell (h := hS10) (i := 0) rfl) (.c (St.cell (h := hS10) (i := 2) rfl) (.c (St.cell (h := hS10) (i := 0) rfl) (.c (St.cell (h := hS10) (i := 2) rfl) (.w (by kernel_rfl) (.c (St.cell (h := hS10) (i := 0) rfl) Kept.n))))))), ?_⟩
  refine AW.u (i := 4) rfl (by kernel_rfl) rfl rfl (Pur.p rfl) ?_
  refine AW.u (i := 8) rfl (by kernel_rfl) rfl rfl (Pur.p rfl) ?_
  refine AW.u (i := 21) rfl (by kernel_rfl) rfl rfl (Pur.build (vs := [(0, .int .i64 (IntKind.i64.wrap ((IntKind.i64.wrap (y5.pages + y14)) + x0.spent.pages))), (1, .int .i64 (IntKind.i64.wrap (y5.rent + x0.spent.rent))), (2, .int .i64 (IntKind.i64.wrap (y5.cpu + x0.spent.cpu)))]) (cs := #[.int .i64 (IntKind.i64.wrap ((IntKind.i64.wrap (y5.pages + y14)) + x0.spent.pages)), .int .i64 (IntKind.i64.wrap (y5.rent + x0.spent.rent)), .int .i64 (IntKind.i64.wrap (y5.cpu + x0.spent.cpu))]) rfl (by kernel_rfl)) ?_
  refine AW.one (i := 22) (by kernel_rfl) ?_
  refine ⟨_, rfl, ?_⟩
  refine LW.st hS10 1 fun w16 hS11 => ?_
  refine LW.nil ⟨rfl, (.w (by kernel_rfl) (.w (by kernel_rfl) (.w (by kernel_rfl) (.w (by kernel_rfl) (.w (by kernel_rfl) (.w (by kernel_rfl) (.w (by kernel_rfl) Kept.n))))))), ?_⟩
  refine AW.done (by kernel_rfl) ?_
  refine go ?_
  cases h
  exact And.intro trivial ⟨_, Res.one (resOne.b hS11 1 rfl ag64 rfl rfl), rfl, hS11.pick [] rfl rfl⟩

theorem W_i_Held {w0 : World} {N : Nat} {x0 : DPart} {r : Int} (h : F_i_Held N x0 = some r) {a0_0 : Option Addr} {n0_0 c0_0 : Nat} (hn0_0 : n0_0 = x0.label.levels.length) (hr0_0 : rdS (Bor w0 []) w0 a0_0 c0_0 x0.label.levels) {a0_1 : Option Addr} {n0_1 c0_1 : Nat} (hn0_1 : n0_1 = x0.own.length) (hr0_1 : rdS (Bor w0 []) w0 a0_1 c0_1 x0.own) {a0_2 : Option Addr} {n0_2 c0_2 : Nat} (hn0_2 : n0_2 = x0.tree.length) (hr0_2 : rdS (Bor w0 []) w0 a0_2 c0_2 x0.tree) {a0_3 : Option Addr} {n0_3 c0_3 : Nat} (hn0_3 : n0_3 = x0.heap.arena.length) (hr0_3 : rdS (Bor w0 []) w0 a0_3 c0_3 x0.heap.arena) {a0_7 : Option Addr} {n0_7 c0_7 : Nat} (hn0_7 : n0_7 = x0.heap.gc.grey.length) (hr0_7 : rdS (Bor w0 []) w0 a0_7 c0_7 x0.heap.gc.grey) {a0_8 : Option Addr} {n0_8 c0_8 : Nat} (hn0_8 : n0_8 = x0.taps.length) (hr0_8 : rdS (Bor w0 []) w0 a0_8 c0_8 x0.taps) :
    Ret Tryz.prog 184 #[.agg #[.slice a0_0 n0_0 c0_0, .slice a0_1 n0_1 c0_1, .slice a0_2 n0_2 c0_2, .slice a0_3 n0_3 c0_3, .int .i64 x0.heap.gc.phase, .int .i64 x0.heap.gc.pos, .int .i64 x0.heap.gc.round, .slice a0_7 n0_7 c0_7, .slice a0_8 n0_8 c0_8, .int .i64 x0.next, .int .i64 x0.want, .int .i64 x0.spent.pages, .int .i64 x0.spent.rent, .int .i64 x0.spent.cpu, .int .i64 x0.press, .int .i64 x0.lost]] w0 (fun v w => v = .int .i64 r ∧ St w0 [] w []) := by
  subst hn0_0 hn0_1 hn0_2 hn0_3 hn0_7 hn0_8
  unfold F_i_Held at h
  refine Ret.fn Tryz.func184 fun e => ?_
  have hS1 := St.start w0
  refine go ?_
  refine LW.bo hS1 fun g1 w2 hS2 => ?_
  refine go ?_
  replace ⟨y3, hy3, h⟩ := obind h
  refine LW.cl (W_i_firstThings hy3 rfl (hS2.rB hr0_0) rfl (hS2.rB hr0_1) rfl (hS2.rB hr0_2) rfl (hS2.rB hr0_3) rfl (hS2.rB hr0_7) rfl (hS2.rB hr0_8)) ?_
  rintro _ w6 ⟨a4, c5, rfl, hs⟩
  have hS3 := hS2.add hs
  refine go ?_
  obtain ⟨o35, ho35, h36⟩ := obind h
  refine CW.mono (CW.iter (σ := Int × Int) (ρ := Int × Int) (fun s7 e wb => En e [(3, .int .i64 s7.1), (7, .slice a4 y3.length c5), (8, .int .i64 (y3.length : Int)), (9, .int .i64 s7.2)] ∧ St w0 [] wb [sl a4 c5 y3]) (fun s7 x e wb => x = .exit 0 ∧ En e [(3, .int .i64 s7.1)] ∧ St w0 [] wb [sl a4 c5 y3]) ?_ N (0, 0) _ _ _ ⟨⟨rfl, rfl, rfl, rfl, trivial⟩, hS3.pick [0] rfl rfl⟩ ho35) ?_
  · intro s7 e w8 o hM h
    obtain ⟨hE, hS4⟩ := hM
    obtain ⟨e, rfl⟩ := hE.out
    refine go ?_
    refine CW.cond rfl (fun hc9 => ?_) (fun hc9 => ?_)
    · replace h := bcT h hc9
      refine go ?_
      replace ⟨y10, hy10, h⟩ := obind h
      obtain ⟨b13, o14, hae, hp11, hq12⟩ := hS4.ownIdx (α := DObjP) (i := 0) rfl hy10
      subst hae
      refine LW.u (Pur.ix Tryz.underlying59 sz92 rfl rfl hp11 hq12) rfl ?_
      obtain ⟨F15, ho16, hS5⟩ := hS4.freeze (α := DObjP) 0 rfl
      obtain ⟨b17, o18, cs19, hae, hb22, _, _, hd20, hk21⟩ := ho16.rdF.idx hy10
      cases hae
      obtain ⟨a23, n24, c25, a26, n27, c28, a29, n30, c31, rfl⟩ := hd20
      refine LW.l (Ldr.oldN w8 ag92 rfl rfl (fun j u hu => hk21 j u hu)) (hS5.zC 0 rfl hb22) rfl ?_
      refine LW.al hS5 fun g32 w33 hS6 => ?_
      refine LW.st hS6 0 fun w34 hS7 => ?_
      refine go ?_
      have hS8 := hS7.thaw (α := DObjP) 1 rfl ho16
      cases oi h
      exact ⟨rfl, ⟨⟨rfl, rfl, rfl, rfl, trivial⟩, hS8.pick [1] rfl rfl⟩⟩
    replace h := bcF h hc9
    refine go ?_
    cases oi h
    exact ⟨trivial, rfl, ⟨⟨rfl, trivial⟩, hS4.pick [0] rfl rfl⟩⟩
  intro x e w37 hM
  obtain ⟨rfl, hM⟩ := hM
  obtain ⟨hE, hS9⟩ := hM
  obtain ⟨e, rfl⟩ := hE.out
  have h := h36
  refine go ?_
  cases h
  exact And.intro trivial ⟨_, Res.one (resOne.t rfl), rfl, hS9.pick [] rfl rfl⟩

theorem W_l_szWorld {w0 : World} {N : Nat} {x0 : DWorld} {x1 : Int} {r : Int} (h : F_l_szWorld N x0 x1 = some r) {a0_1 : Option Addr} {n0_1 c0_1 : Nat} (hn0_1 : n0_1 = x0.parts.length) (hr0_1 : rdS (Bor w0 []) w0 a0_1 c0_1 x0.parts) :
    Ret Tryz.prog 10 #[.agg #[.int .i64 x0.now, .slice a0_1 n0_1 c0_1], .int .i64 x1] w0 (fun v w => v = .int .i64 r ∧ St w0 [] w []) := by
  subst hn0_1
  unfold F_l_szWorld at h
  refine Ret.fn Tryz.func10 fun e => ?_
  have hS1 := St.start w0
  refine go ?_
  refine LW.bo hS1 fun g1 w2 hS2 => ?_
  refine go ?_
  replace ⟨y3, hy3, h⟩ := obind h
  refine LW.c0 (W_l_szPartS hy3 rfl (hS2.rB hr0_1)) hS2 fun w4 hS3 => ?_
  refine go ?_
  refine CW.cond rfl (fun hc5 => ?_) (fun hc5 => ?_)
  · replace h := bcT h hc5
    refine go ?_
    cases h
    exact And.intro trivial ⟨_, Res.one (resOne.t rfl), rfl, hS3.pick [] rfl rfl⟩
  replace h := bcF h hc5
  refine go ?_
  cases h
  exact And.intro trivial ⟨_, Res.one (resOne.t rfl), rfl, hS3.pick [] rfl rfl⟩

theorem W_l_toPartS {w0 : World} {N : Nat} {x0 : List DPart} {r : (List DPart)} (h : F_l_toPartS N x0 = some r) {a0_0 : Option Addr} {n0_0 c0_0 : Nat} (hn0_0 : n0_0 = x0.length) (hr0_0 : rdS (Bor w0 []) w0 a0_0 c0_0 x0) :
    Ret Tryz.prog 43 #[.slice a0_0 n0_0 c0_0] w0 (fun v w => ∃ ar0 cr0, v = .slice ar0 r.length cr0 ∧ St w0 [] w [sl ar0 cr0 r]) := by
  subst hn0_0
  unfold F_l_toPartS at h
  refine Ret.fn Tryz.func43 fun e => ?_
  have hS1 := St.start w0
  refine go ?_
  replace ⟨y1, hy1, h⟩ := obind h
  refine LW.mk sT30 rfl rfl hy1 hS1 rfl ?_
  intro a2 c3 w4 hS2 hf
  refine go ?_
  obtain ⟨o56, ho56, h57⟩ := obind h
  refine CW.mono (CW.iter (σ := (List DPart) × Int) (ρ := (List DPart) × Int) (fun s5 e wb => En e [(0, .slice a0_0 x0.length c0_0), (3, .slice a2 s5.1.length c3), (4, .int .i64 s5.2)] ∧ St w0 [] wb [sl a2 c3 s5.1]) (fun s5 x e wb => x = .exit 0 ∧ En e [(3, .slice a2 s5.1.length c3)] ∧ St w0 [] wb [sl a2 c3 s5.1]) ?_ N (y1, 0) _ _ _ ⟨⟨rfl, rfl, rfl, trivial⟩, hS2.pick [0] rfl rfl⟩ ho56) ?_
  · intro s5 e w6 o hM h
    obtain ⟨hE, hS3⟩ := hM
    obtain ⟨e, rfl⟩ := hE.out
    refine go ?_
    refine CW.cond rfl (fun hc7 => ?_) (fun hc7 => ?_)
    · replace h := bcT h hc7
      refine go ?_
      replace ⟨y8, hy8, h⟩ := obind h
      obtain ⟨b11, o12, cs13, hae, hb16, hp9, hq10, hd14, hk15⟩ := hr0_0.idx hy8
      subst hae
      obtain ⟨a17, c18, a20, c21, a23, c24, a26, c27, a29, c30, a32, c33, rfl, hr19, hr22, hr25, hr28, hr31, hr34⟩ := hd14
      refine LW.u (Pur.ix Tryz.underlying22 sz55 rfl rfl hp9 hq10) rfl ?_
      refine LW.l (Ldr.oldN w0 ag55 rfl rfl (fun j u hu => hk15 j u hu)) (hS3.same _ hb16.1 hb16.2) rfl ?_
      replace ⟨y35, hy35, h⟩ := obind h
      refine LW.cl (W_l_toPart hy35 rfl (hS3.rB hr19) rfl (hS3.rB hr22) rfl (hS3.rB hr25) rfl (hS3.rB hr28) rfl (hS3.rB hr31) rfl (hS3.rB hr34)) ?_
      rintro _ w48 ⟨a36, c37, a38, c39, a40, c41, a42, c43, a44, c45, a46, c47, rfl, hs⟩
      have hS4 := hS3.add hs
      replace ⟨y49, hy49, h⟩ := obind h
      obtain ⟨b52, o53, hae, hp50, hq51⟩ := hS4.ownIdx (α := DPart) (i := 6) rfl hy49
      subst hae
      refine LW.u (Pur.ix Tryz.underlying30 sz66 rfl rfl hp50 hq51) rfl ?_
      have hS5 := hS4.pick (M := [sl a36 c37 y35.label.levels, sl a38 c39 y35.own, sl a40 c41 y35.tree, sl a42 c43 y35.heap.arena, sl a44 c45 y35.heap.gc.grey, sl a46 c47 y35.taps] ++ [sl (some ⟨b52, o53, none⟩) c3 s5.1]) [0, 1, 2, 3, 4, 5, 6] rfl rfl
      replace ⟨y54, hy54, h⟩ := obind h
      refine LW.stE (M := [sl a36 c37 y35.label.levels, sl a38 c39 y35.own, sl a40 c41 y35.tree, sl a42 c43 y35.heap.arena, sl a44 c45 y35.heap.gc.grey, sl a46 c47 y35.taps]) (L := [sl (some ⟨b52, o53, none⟩) c3 s5.1]) (z := y49) (z' := y35) (o := 0) hS5 (i := 0) rfl hy49 ag66 rfl (by show _ = o53 + (s5.2 : Int).toNat * 16 + 0; omega) rfl rfl rfl rfl (whole (fun w G hG => ⟨a36, c37, a38, c39, a40, c41, a42, c43, a44, c45, a46, c47, rfl, hG⟩)) ?_
      intro w55 hS6 hf
      rw [Option.some.inj hy54] at hS6
      refine go ?_
      replace h := Option.some.inj h
      subst h
      exact ⟨rfl, ⟨⟨rfl, (show (.slice (some ⟨b52, o53, none⟩) s5.1.length c3 : Value) = .slice (some ⟨b52, o53, none⟩) y54.length c3 by rw [show s5.1.length = y54.length from (len_set (Option.some.inj hy54))]), rfl, trivial⟩, hS6.pick [0] rfl rfl⟩⟩
    replace h := bcF h hc7
    refine go ?_
    cases oi h
    exact ⟨trivial, rfl, ⟨⟨rfl, trivial⟩, hS3.pick [0] rfl rfl⟩⟩
  intro x e w58 hM
  obtain ⟨rfl, hM⟩ := hM
  obtain ⟨hE, hS7⟩ := hM
  obtain ⟨e, rfl⟩ := hE.out
  have h := h57
  refine go ?_
  cases h
  exact And.intro trivial ⟨_, Res.one (resOne.t rfl), a2, c3, rfl, hS7.pick [0] rfl rfl⟩

end Go.Kx
