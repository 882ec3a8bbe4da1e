/- Each call returns what the plain function says. Printed by drive.py. -/
import Derived.Test.YtdjpppkdngmeaaaGreatFa
import Derived.Test.YtdjpppkdngmeaaaGreatPu
import Derived.Test.YtdjpppkdngmeaaaGreatWa9
namespace Go.Kx
open Go Go.RowKit Go.Proofs
set_option maxRecDepth 10000
set_option maxHeartbeats 2000000
set_option linter.unusedVariables false
set_option linter.unusedSimpArgs false
theorem W_l_markPartS {w0 : World} {F : List Nat} {N : Nat} {x0 : List DPart} {x1 : Int} {r : Int × (List DPart)} (h : F_l_markPartS N x0 x1 = some r) {a0_0 : Option Addr} {n0_0 c0_0 : Nat} (hn0_0 : n0_0 = x0.length) (hS : St w0 F w0 [sl a0_0 c0_0 x0]) :
    Ret Tryz.prog 82 #[.slice a0_0 n0_0 c0_0, .int .i64 x1] w0 (fun v w => v = .int .i64 r.1 ∧ St w0 F w [sl a0_0 c0_0 r.2]) := by
  subst hn0_0
  unfold F_l_markPartS at h
  refine Ret.fn Tryz.func82 fun e => ?_
  refine go ?_
  obtain ⟨o105, ho105, h106⟩ := obind h
  refine CW.mono (CW.iter (σ := (List DPart) × Int × Int) (ρ := (List DPart) × Int × Int) (fun s1 e wb => En e [(0, .slice a0_0 s1.1.length c0_0), (1, .int .i64 s1.2.1), (5, .int .i64 s1.2.2)] ∧ St w0 F wb [sl a0_0 c0_0 s1.1]) (fun s1 x e wb => x = .exit 0 ∧ En e [(1, .int .i64 s1.2.1)] ∧ St w0 F wb [sl a0_0 c0_0 s1.1]) ?_ N (x0, x1, 0) _ _ _ ⟨⟨rfl, rfl, rfl, trivial⟩, hS.pick [0] rfl rfl⟩ ho105) ?_
  · intro s1 e w2 o hM h
    obtain ⟨hE, hS1⟩ := hM
    obtain ⟨e, rfl⟩ := hE.out
    refine go ?_
    refine CW.cond rfl (fun hc3 => ?_) (fun hc3 => ?_)
    · replace h := bcT h hc3
      refine go ?_
      replace ⟨y4, hy4, h⟩ := obind h
      obtain ⟨b7, o8, hae, hp5, hq6⟩ := hS1.ownIdx (α := DPart) (i := 0) rfl hy4
      subst hae
      refine LW.u (Pur.ix Tryz.underlying59 sz47 rfl rfl hp5 hq6) rfl ?_
      refine go ?_
      obtain ⟨F9, ho10, hS2⟩ := hS1.freeze (α := DPart) 0 rfl
      obtain ⟨b11, o12, cs13, hae, hb16, _, _, hd14, hk15⟩ := ho10.rdF.idx hy4
      cases hae
      obtain ⟨a17, c18, a20, c21, a23, c24, a26, c27, a29, c30, a32, c33, rfl, hr19, hr22, hr25, hr28, hr31, hr34⟩ := hd14
      refine LW.l (Ldr.old w2 ag22 rfl (hk15 0 _ rfl)) (hS2.zC 0 rfl hb16) rfl ?_
      refine go ?_
      replace ⟨y35, hy35, h⟩ := obind h
      obtain ⟨q56, hy35', hq57⟩ := obind hy35
      obtain ⟨hl58, hq57⟩ := keepL_some hq57
      rw [Option.some.inj hq57] at hy35' hl58
      have hn36 := fun (j : Nat) (u : Value) (hu : ([.slice a17 y4.label.levels.length c18, .slice a20 y4.own.length c21, .slice a23 y4.tree.length c24, .slice a26 y4.heap.arena.length c27, .int .i64 y4.heap.gc.phase, .int .i64 y4.heap.gc.pos, .int .i64 y4.heap.gc.round, .slice a29 y4.heap.gc.grey.length c30, .slice a32 y4.taps.length c33, .int .i64 y4.next, .int .i64 y4.want, .int .i64 y4.spent.pages, .int .i64 y4.spent.rent, .int .i64 y4.spent.cpu, .int .i64 y4.press, .int .i64 y4.lost] : List Value)[j]? = some u) => (World.cell?_of_block (hS2.zC 0 rfl hb16)).trans (hk15 j u hu)
      have hS3 := hS2.thaw (α := DPart) 0 rfl ho10
      obtain ⟨Fx37, ho38, hf39⟩ := hS3.focus (α := DPart) (cs := [.slice a17 y4.label.levels.length c18, .slice a20 y4.own.length c21, .slice a23 y4.tree.length c24, .slice a26 y4.heap.arena.length c27, .int .i64 y4.heap.gc.phase, .int .i64 y4.heap.gc.pos, .int .i64 y4.heap.gc.round, .slice a29 y4.heap.gc.grey.length c30, .slice a32 y4.taps.length c33, .int .i64 y4.next, .int .i64 y4.want, .int .i64 y4.spent.pages, .int .i64 y4.spent.rent, .int .i64 y4.spent.cpu, .int .i64 y4.press, .int .i64 y4.lost]) 0 rfl hy4 rfl hn36
      obtain ⟨a42, c43, a44, c45, a46, c47, a48, c49, a50, c51, a52, c53, hc40, hH41⟩ := ho38
      cases hc40
      have hS4 := hf39 [sl a17 c18 y4.label.levels, sl a20 c21 y4.own, sl a23 c24 y4.tree, sl a26 c27 y4.heap.arena, sl a29 c30 y4.heap.gc.grey, sl a32 c33 y4.taps] hH41
      have hS5 := hS4.pick (M := [sl a17 c18 y4.label.levels] ++ [sl a20 c21 y4.own, sl a23 c24 y4.tree, sl a26 c27 y4.heap.arena, sl a29 c30 y4.heap.gc.grey, sl a32 c33 y4.taps, hole DPart (some ⟨b7, o8, none⟩) c0_0 s1.1 (s1.2.2 : Int).toNat [.slice a17 y4.label.levels.length c18, .slice a20 y4.own.length c21, .slice a23 y4.tree.length c24, .slice a26 y4.heap.arena.length c27, .int .i64 y4.heap.gc.phase, .int .i64 y4.heap.gc.pos, .int .i64 y4.heap.gc.round, .slice a29 y4.heap.gc.grey.length c30, .slice a32 y4.taps.length c33, .int .i64 y4.next, .int .i64 y4.want, .int .i64 y4.spent.pages, .int .i64 y4.spent.rent, .int .i64 y4.spent.cpu, .int .i64 y4.press, .int .i64 y4.lost]]) [0, 1, 2, 3, 4, 5, 6] rfl rfl
      obtain ⟨F54, hL55⟩ := St.lend (L := [sl a17 c18 y4.label.levels]) (M := [sl a20 c21 y4.own, sl a23 c24 y4.tree, sl a26 c27 y4.heap.arena, sl a29 c30 y4.heap.gc.grey, sl a32 c33 y4.taps, hole DPart (some ⟨b7, o8, none⟩) c0_0 s1.1 (s1.2.2 : Int).toNat [.slice a17 y4.label.levels.length c18, .slice a20 y4.own.length c21, .slice a23 y4.tree.length c24, .slice a26 y4.heap.arena.length c27, .int .i64 y4.heap.gc.phase, .int .i64 y4.heap.gc.pos, .int .i64 y4.heap.gc.round, .slice a29 y4.heap.gc.grey.length c30, .slice a32 y4.taps.length c33, .int .i64 y4.next, .int .i64 y4.want, .int .i64 y4.spent.pages, .int .i64 y4.spent.rent, .int .i64 y4.spent.cpu, .int .i64 y4.press, .int .i64 y4.lost]]) hS5
      refine LW.cl (W_l_markIntS hy35' rfl hL55.st) ?_
      rintro _ w59 ⟨rfl, hs⟩
      have hS6 := hL55.back _ _ hs
      refine go ?_
      refine LW.u (Pur.ix Tryz.underlying59 sz47 rfl rfl hp5 hq6) rfl ?_
      refine go ?_
      refine LW.l (Ldr.old w59 ag22 rfl (hS6.holeC 6 rfl (j := 1) rfl)) rfl rfl ?_
      refine go ?_
      replace ⟨y60, hy60, h⟩ := obind h
      obtain ⟨q63, hy60', hq64⟩ := obind hy60
      obtain ⟨hl65, hq64⟩ := keepL_some hq64
      rw [Option.some.inj hq64] at hy60' hl65
      rw [show y4.label.levels.length = y35.2.length from hl58] at hS6
      have hS7 := hS6.pick (M := [sl a20 c21 y4.own] ++ [sl a17 c18 y35.2, sl a23 c24 y4.tree, sl a26 c27 y4.heap.arena, sl a29 c30 y4.heap.gc.grey, sl a32 c33 y4.taps, hole DPart (some ⟨b7, o8, none⟩) c0_0 s1.1 (s1.2.2 : Int).toNat [.slice a17 y35.2.length c18, .slice a20 y4.own.length c21, .slice a23 y4.tree.length c24, .slice a26 y4.heap.arena.length c27, .int .i64 y4.heap.gc.phase, .int .i64 y4.heap.gc.pos, .int .i64 y4.heap.gc.round, .slice a29 y4.heap.gc.grey.length c30, .slice a32 y4.taps.length c33, .int .i64 y4.next, .int .i64 y4.want, .int .i64 y4.spent.pages, .int .i64 y4.spent.rent, .int .i64 y4.spent.cpu, .int .i64 y4.press, .int .i64 y4.lost]]) [1, 0, 2, 3, 4, 5, 6] rfl rfl
      obtain ⟨F61, hL62⟩ := St.lend (L := [sl a20 c21 y4.own]) (M := [sl a17 c18 y35.2, sl a23 c24 y4.tree, sl a26 c27 y4.heap.arena, sl a29 c30 y4.heap.gc.grey, sl a32 c33 y4.taps, hole DPart (some ⟨b7, o8, none⟩) c0_0 s1.1 (s1.2.2 : Int).toNat [.slice a17 y35.2.length c18, .slice a20 y4.own.length c21, .slice a23 y4.tree.length c24, .slice a26 y4.heap.arena.length c27, .int .i64 y4.heap.gc.phase, .int .i64 y4.heap.gc.pos, .int .i64 y4.heap.gc.round, .slice a29 y4.heap.gc.grey.length c30, .slice a32 y4.taps.length c33, .int .i64 y4.next, .int .i64 y4.want, .int .i64 y4.spent.pages, .int .i64 y4.spent.rent, .int .i64 y4.spent.cpu, .int .i64 y4.press, .int .i64 y4.lost]]) hS7
      refine LW.cl (W_l_markIntS hy60' rfl hL62.st) ?_
      rintro _ w66 ⟨rfl, hs⟩
      have hS8 := hL62.back _ _ hs
      refine go ?_
      refine LW.fl [0, 1, 5, 27, 28] fun e => ?_
      refine LW.u (Pur.ix Tryz.underlying59 sz47 rfl rfl hp5 hq6) rfl ?_
      refine go ?_
      refine LW.l (Ldr.old w66 ag39 rfl (hS8.holeC 6 rfl (j := 2) rfl)) rfl rfl ?_
      refine go ?_
      replace ⟨y67, hy67, h⟩ := obind h
      obtain ⟨q70, hy67', hq71⟩ := obind hy67
      obtain ⟨hl72, hq71⟩ := keepL_some hq71
      rw [Option.some.inj hq71] at hy67' hl72
      rw [show y4.own.length = y60.2.length from hl65] at hS8
      have hS9 := hS8.pick (M := [sl a23 c24 y4.tree] ++ [sl a20 c21 y60.2, sl a17 c18 y35.2, sl a26 c27 y4.heap.arena, sl a29 c30 y4.heap.gc.grey, sl a32 c33 y4.taps, hole DPart (some ⟨b7, o8, none⟩) c0_0 s1.1 (s1.2.2 : Int).toNat [.slice a17 y35.2.length c18, .slice a20 y60.2.length c21, .slice a23 y4.tree.length c24, .slice a26 y4.heap.arena.length c27, .int .i64 y4.heap.gc.phase, .int .i64 y4.heap.gc.pos, .int .i64 y4.heap.gc.round, .slice a29 y4.heap.gc.grey.length c30, .slice a32 y4.taps.length c33, .int .i64 y4.next, .int .i64 y4.want, .int .i64 y4.spent.pages, .int .i64 y4.spent.rent, .int .i64 y4.spent.cpu, .int .i64 y4.press, .int .i64 y4.lost]]) [2, 0, 1, 3, 4, 5, 6] rfl rfl
      obtain ⟨F68, hL69⟩ := St.lend (L := [sl a23 c24 y4.tree]) (M := [sl a20 c21 y60.2, sl a17 c18 y35.2, sl a26 c27 y4.heap.arena, sl a29 c30 y4.heap.gc.grey, sl a32 c33 y4.taps, hole DPart (some ⟨b7, o8, none⟩) c0_0 s1.1 (s1.2.2 : Int).toNat [.slice a17 y35.2.length c18, .slice a20 y60.2.length c21, .slice a23 y4.tree.length c24, .slice a26 y4.heap.arena.length c27, .int .i64 y4.heap.gc.phase, .int .i64 y4.heap.gc.pos, .int .i64 y4.heap.gc.round, .slice a29 y4.heap.gc.grey.length c30, .slice a32 y4.taps.length c33, .int .i64 y4.next, .int .i64 y4.want, .int .i64 y4.spent.pages, .int .i64 y4.spent.rent, .int .i64 y4.spent.cpu, .int .i64 y4.press, .int .i64 y4.lost]]) hS9
      refine LW.cl (W_l_markResS hy67' rfl hL69.st) ?_
      rintro _ w73 ⟨rfl, hs⟩
      have hS10 := hL69.back _ _ hs
      refine go ?_
      refine LW.u (Pur.ix Tryz.underlying59 sz47 rfl rfl hp5 hq6) rfl ?_
      refine go ?_
      refine LW.l (Ldr.old w73 ag40 rfl (hS10.holeC 6 rfl (j := 3) rfl)) rfl rfl ?_
      refine go ?_
      replace ⟨y74, hy74, h⟩ := obind h
      obtain ⟨q77, hy74', hq78⟩ := obind hy74
      obtain ⟨hl79, hq78⟩ := keepL_some hq78
      rw [Option.some.inj hq78] at hy74' hl79
      rw [show y4.tree.length = y67.2.length from hl72] at hS10
      have hS11 := hS10.pick (M := [sl a26 c27 y4.heap.arena] ++ [sl a23 c24 y67.2, sl a20 c21 y60.2, sl a17 c18 y35.2, sl a29 c30 y4.heap.gc.grey, sl a32 c33 y4.taps, hole DPart (some ⟨b7, o8, none⟩) c0_0 s1.1 (s1.2.2 : Int).toNat [.slice a17 y35.2.length c18, .slice a20 y60.2.length c21, .slice a23 y67.2.length c24, .slice a26 y4.heap.arena.length c27, .int .i64 y4.heap.gc.phase, .int .i64 y4.heap.gc.pos, .int .i64 y4.heap.gc.round, .slice a29 y4.heap.gc.grey.length c30, .slice a32 y4.taps.length c33, .int .i64 y4.next, .int .i64 y4.want, .int .i64 y4.spent.pages, .int .i64 y4.spent.rent, .int .i64 y4.spent.cpu, .int .i64 y4.press, .int .i64 y4.lost]]) [3, 0, 1, 2, 4, 5, 6] rfl rfl
      obtain ⟨F75, hL76⟩ := St.lend (L := [sl a26 c27 y4.heap.arena]) (M := [sl a23 c24 y67.2, sl a20 c21 y60.2, sl a17 c18 y35.2, sl a29 c30 y4.heap.gc.grey, sl a32 c33 y4.taps, hole DPart (some ⟨b7, o8, none⟩) c0_0 s1.1 (s1.2.2 : Int).toNat [.slice a17 y35.2.length c18, .slice a20 y60.2.length c21, .slice a23 y67.2.length c24, .slice a26 y4.heap.arena.length c27, .int .i64 y4.heap.gc.phase, .int .i64 y4.heap.gc.pos, .int .i64 y4.heap.gc.round, .slice a29 y4.heap.gc.grey.length c30, .slice a32 y4.taps.length c33, .int .i64 y4.next, .int .i64 y4.want, .int .i64 y4.spent.pages, .int .i64 y4.spent.rent, .int .i64 y4.spent.cpu, .int .i64 y4.press, .int .i64 y4.lost]]) hS11
      refine LW.cl (W_l_markObjS hy74' rfl hL76.st) ?_
      rintro _ w80 ⟨rfl, hs⟩
      have hS12 := hL76.back _ _ hs
      refine go ?_
      refine LW.u (Pur.ix Tryz.underlying59 sz47 rfl rfl hp5 hq6) rfl ?_
      refine go ?_
      refine LW.sth (α := DPart) (vs := [.int .i64 y74.1]) hS12 6 rfl ag3 rfl (by show _ = o8 + (s1.2.2 : Int).toNat * 16 + 4; omega) rfl rfl rfl rfl ?_
      intro w81 hS13 hf
      refine go ?_
      refine LW.fl [0, 1, 5, 51, 52, 53] fun e => ?_
      refine LW.u (Pur.ix Tryz.underlying59 sz47 rfl rfl hp5 hq6) rfl ?_
      refine go ?_
      refine LW.sth (α := DPart) (vs := [.int .i64 (IntKind.i64.wrap (y74.1 + 1))]) hS13 6 rfl ag3 rfl (by show _ = o8 + (s1.2.2 : Int).toNat * 16 + 5; omega) rfl rfl rfl rfl ?_
      intro w82 hS14 hf
      refine go ?_
      refine LW.u (Pur.ix Tryz.underlying59 sz47 rfl rfl hp5 hq6) rfl ?_
      refine go ?_
      refine LW.sth (α := DPart) (vs := [.int .i64 (IntKind.i64.wrap ((IntKind.i64.wrap (y74.1 + 1)) + 1))]) hS14 6 rfl ag3 rfl (by show _ = o8 + (s1.2.2 : Int).toNat * 16 + 6; omega) rfl rfl rfl rfl ?_
      intro w83 hS15 hf
      refine go ?_
      refine LW.u (Pur.ix Tryz.underlying59 sz47 rfl rfl hp5 hq6) rfl ?_
      refine go ?_
      refine LW.fl [0, 1, 5, 74] fun e => ?_
      refine LW.l (Ldr.old w83 ag22 rfl (hS15.holeC 6 rfl (j := 7) rfl)) rfl rfl ?_
      refine go ?_
      replace ⟨y84, hy84, h⟩ := obind h
      obtain ⟨q87, hy84', hq88⟩ := obind hy84
      obtain ⟨hl89, hq88⟩ := keepL_some hq88
      rw [Option.some.inj hq88] at hy84' hl89
      rw [show y4.heap.arena.length = y74.2.length from hl79] at hS15
      have hS16 := hS15.pick (M := [sl a29 c30 y4.heap.gc.grey] ++ [sl a26 c27 y74.2, sl a23 c24 y67.2, sl a20 c21 y60.2, sl a17 c18 y35.2, sl a32 c33 y4.taps, hole DPart (some ⟨b7, o8, none⟩) c0_0 s1.1 (s1.2.2 : Int).toNat [.slice a17 y35.2.length c18, .slice a20 y60.2.length c21, .slice a23 y67.2.length c24, .slice a26 y74.2.length c27, .int .i64 y74.1, .int .i64 (IntKind.i64.wrap (y74.1 + 1)), .int .i64 (IntKind.i64.wrap ((IntKind.i64.wrap (y74.1 + 1)) + 1)), .slice a29 y4.heap.gc.grey.length c30, .slice a32 y4.taps.length c33, .int .i64 y4.next, .int .i64 y4.want, .int .i64 y4.spent.pages, .int .i64 y4.spent.rent, .int .i64 y4.spent.cpu, .int .i64 y4.press, .int .i64 y4.lost]]) [4, 0, 1, 2, 3, 5, 6] rfl rfl
      obtain ⟨F85, hL86⟩ := St.lend (L := [sl a29 c30 y4.heap.gc.grey]) (M := [sl a26 c27 y74.2, sl a23 c24 y67.2, sl a20 c21 y60.2, sl a17 c18 y35.2, sl a32 c33 y4.taps, hole DPart (some ⟨b7, o8, none⟩) c0_0 s1.1 (s1.2.2 : Int).toNat [.slice a17 y35.2.length c18, .slice a20 y60.2.length c21, .slice a23 y67.2.length c24, .slice a26 y74.2.length c27, .int .i64 y74.1, .int .i64 (IntKind.i64.wrap (y74.1 + 1)), .int .i64 (IntKind.i64.wrap ((IntKind.i64.wrap (y74.1 + 1)) + 1)), .slice a29 y4.heap.gc.grey.length c30, .slice a32 y4.taps.length c33, .int .i64 y4.next, .int .i64 y4.want, .int .i64 y4.spent.pages, .int .i64 y4.spent.rent, .int .i64 y4.spent.cpu, .int .i64 y4.press, .int .i64 y4.lost]]) hS16
      refine LW.cl (W_l_markIntS hy84' rfl hL86.st) ?_
      rintro _ w90 ⟨rfl, hs⟩
      have hS17 := hL86.back _ _ hs
      refine go ?_
      refine LW.u (Pur.ix Tryz.underlying59 sz47 rfl rfl hp5 hq6) rfl ?_
      refine go ?_
      refine LW.l (Ldr.old w90 ag44 rfl (hS17.holeC 6 rfl (j := 8) rfl)) rfl rfl ?_
      refine go ?_
      replace ⟨y91, hy91, h⟩ := obind h
      obtain ⟨q94, hy91', hq95⟩ := obind hy91
      obtain ⟨hl96, hq95⟩ := keepL_some hq95
      rw [Option.some.inj hq95] at hy91' hl96
      rw [show y4.heap.gc.grey.length = y84.2.length from hl89] at hS17
      have hS18 := hS17.pick (M := [sl a32 c33 y4.taps] ++ [sl a29 c30 y84.2, sl a26 c27 y74.2, sl a23 c24 y67.2, sl a20 c21 y60.2, sl a17 c18 y35.2, hole DPart (some ⟨b7, o8, none⟩) c0_0 s1.1 (s1.2.2 : Int).toNat [.slice a17 y35.2.length c18, .slice a20 y60.2.length c21, .slice a23 y67.2.length c24, .slice a26 y74.2.length c27, .int .i64 y74.1, .int .i64 (IntKind.i64.wrap (y74.1 + 1)), .int .i64 (IntKind.i64.wrap ((IntKind.i64.wrap (y74.1 + 1)) + 1)), .slice a29 y84.2.length c30, .slice a32 y4.taps.length c33, .int .i64 y4.next, .int .i64 y4.want, .int .i64 y4.spent.pages, .int .i64 y4.spent.rent, .int .i64 y4.spent.cpu, .int .i64 y4.press, .int .i64 y4.lost]]) [5, 0, 1, 2, 3, 4, 6] rfl rfl
      obtain ⟨F92, hL93⟩ := St.lend (L := [sl a32 c33 y4.taps]) (M := [sl a29 c30 y84.2, sl a26 c27 y74.2, sl a23 c24 y67.2, sl a20 c21 y60.2, sl a17 c18 y35.2, hole DPart (some ⟨b7, o8, none⟩) c0_0 s1.1 (s1.2.2 : Int).toNat [.slice a17 y35.2.length c18, .slice a20 y60.2.length c21, .slice a23 y67.2.length c24, .slice a26 y74.2.length c27, .int .i64 y74.1, .int .i64 (IntKind.i64.wrap (y74.1 + 1)), .int .i64 (IntKind.i64.wrap ((IntKind.i64.wrap (y74.1 + 1)) + 1)), .slice a29 y84.2.length c30, .slice a32 y4.taps.length c33, .int .i64 y4.next, .int .i64 y4.want, .int .i64 y4.spent.pages, .int .i64 y4.spent.rent, .int .i64 y4.spent.cpu, .int .i64 y4.press, .int .i64 y4.lost]]) hS18
      refine LW.cl (W_l_markTapS hy91' rfl hL93.st) ?_
      rintro _ w97 ⟨rfl, hs⟩
      have hS19 := hL93.back _ _ hs
      refine go ?_
      refine LW.u (Pur.ix Tryz.underlying59 sz47 rfl rfl hp5 hq6) rfl ?_
      refine go ?_
      refine LW.sth (α := DPart) (vs := [.int .i64 y91.1]) hS19 6 rfl ag3 rfl (by show _ = o8 + (s1.2.2 : Int).toNat * 16 + 9; omega) rfl rfl rfl rfl ?_
      intro w98 hS20 hf
      refine go ?_
      refine LW.u (Pur.ix Tryz.underlying59 sz47 rfl rfl hp5 hq6) rfl ?_
      refine go ?_
      refine LW.fl [0, 1, 5, 94, 96] fun e => ?_
      refine LW.sth (α := DPart) (vs := [.int .i64 (IntKind.i64.wrap (y91.1 + 1))]) hS20 6 rfl ag3 rfl (by show _ = o8 + (s1.2.2 : Int).toNat * 16 + 10; omega) rfl rfl rfl rfl ?_
      intro w99 hS21 hf
      refine go ?_
      refine LW.u (Pur.ix Tryz.underlying59 sz47 rfl rfl hp5 hq6) rfl ?_
      refine go ?_
      refine LW.sth (α := DPart) (vs := [.int .i64 (IntKind.i64.wrap ((IntKind.i64.wrap (y91.1 + 1)) + 1))]) hS21 6 rfl ag3 rfl (by show _ = o8 + (s1.2.2 : Int).toNat * 16 + 11; omega) rfl rfl rfl rfl ?_
      intro w100 hS22 hf
      refine go ?_
      refine LW.u (Pur.ix Tryz.underlying59 sz47 rfl rfl hp5 hq6) rfl ?_
      refine go ?_
      refine LW.sth (α := DPart) (vs := [.int .i64 (IntKind.i64.wrap ((IntKind.i64.wrap ((IntKind.i64.wrap (y91.1 + 1)) + 1)) + 1))]) hS22 6 rfl ag3 rfl (by show _ = o8 + (s1.2.2 : Int).toNat * 16 + 12; omega) rfl rfl rfl rfl ?_
      intro w101 hS23 hf
      refine go ?_
      refine LW.fl [0, 1, 5, 115, 116, 117] fun e => ?_
      refine LW.u (Pur.ix Tryz.underlying59 sz47 rfl rfl hp5 hq6) rfl ?_
      refine go ?_
      refine LW.sth (α := DPart) (vs := [.int .i64 (IntKind.i64.wrap ((IntKind.i64.wrap ((IntKind.i64.wrap ((IntKind.i64.wrap (y91.1 + 1)) + 1)) + 1)) + 1))]) hS23 6 rfl ag3 rfl (by show _ = o8 + (s1.2.2 : Int).toNat * 16 + 13; omega) rfl rfl rfl rfl ?_
      intro w102 hS24 hf
      refine go ?_
      refine LW.u (Pur.ix Tryz.underlying59 sz47 rfl rfl hp5 hq6) rfl ?_
      refine go ?_
      refine LW.sth (α := DPart) (vs := [.int .i64 (IntKind.i64.wrap ((IntKind.i64.wrap ((IntKind.i64.wrap ((IntKind.i64.wrap ((IntKind.i64.wrap (y91.1 + 1)) + 1)) + 1)) + 1)) + 1))]) hS24 6 rfl ag3 rfl (by show _ = o8 + (s1.2.2 : Int).toNat * 16 + 14; omega) rfl rfl rfl rfl ?_
      intro w103 hS25 hf
      refine go ?_
      refine LW.u (Pur.ix Tryz.underlying59 sz47 rfl rfl hp5 hq6) rfl ?_
      refine go ?_
      refine LW.sth (α := DPart) (vs := [.int .i64 (IntKind.i64.wrap ((IntKind.i64.wrap ((IntKind.i64.wrap ((IntKind.i64.wrap ((IntKind.i64.wrap ((IntKind.i64.wrap (y91.1 + 1)) + 1)) + 1)) + 1)) + 1)) + 1))]) hS25 6 rfl ag3 rfl (by show _ = o8 + (s1.2.2 : Int).toNat * 16 + 15; omega) rfl rfl rfl rfl ?_
      intro w104 hS26 hf
      refine go ?_
      rw [show y4.taps.length = y91.2.length from hl96] at hS26
      have hS27 := hS26.pick (M := [sl a17 c18 y35.2, sl a20 c21 y60.2, sl a23 c24 y67.2, sl a26 c27 y74.2, sl a29 c30 y84.2, sl a32 c33 y91.2] ++ [hole DPart (some ⟨b7, o8, none⟩) c0_0 s1.1 (s1.2.2 : Int).toNat [.slice a17 y35.2.length c18, .slice a20 y60.2.length c21, .slice a23 y67.2.length c24, .slice a26 y74.2.length c27, .int .i64 y74.1, .int .i64 (IntKind.i64.wrap (y74.1 + 1)), .int .i64 (IntKind.i64.wrap ((IntKind.i64.wrap (y74.1 + 1)) + 1)), .slice a29 y84.2.length c30, .slice a32 y91.2.length c33, .int .i64 y91.1, .int .i64 (IntKind.i64.wrap (y91.1 + 1)), .int .i64 (IntKind.i64.wrap ((IntKind.i64.wrap (y91.1 + 1)) + 1)), .int .i64 (IntKind.i64.wrap ((IntKind.i64.wrap ((IntKind.i64.wrap (y91.1 + 1)) + 1)) + 1)), .int .i64 (IntKind.i64.wrap ((IntKind.i64.wrap ((IntKind.i64.wrap ((IntKind.i64.wrap (y91.1 + 1)) + 1)) + 1)) + 1)), .int .i64 (IntKind.i64.wrap ((IntKind.i64.wrap ((IntKind.i64.wrap ((IntKind.i64.wrap ((IntKind.i64.wrap (y91.1 + 1)) + 1)) + 1)) + 1)) + 1)), .int .i64 (IntKind.i64.wrap ((IntKind.i64.wrap ((IntKind.i64.wrap ((IntKind.i64.wrap ((IntKind.i64.wrap ((IntKind.i64.wrap (y91.1 + 1)) + 1)) + 1)) + 1)) + 1)) + 1))]]) [5, 4, 3, 2, 1, 0, 6] rfl rfl
      have hS28 := hS27.unfocus (M := [sl a17 c18 y35.2, sl a20 c21 y60.2, sl a23 c24 y67.2, sl a26 c27 y74.2, sl a29 c30 y84.2, sl a32 c33 y91.2]) (L := [hole DPart (some ⟨b7, o8, none⟩) c0_0 s1.1 (s1.2.2 : Int).toNat [.slice a17 y35.2.length c18, .slice a20 y60.2.length c21, .slice a23 y67.2.length c24, .slice a26 y74.2.length c27, .int .i64 y74.1, .int .i64 (IntKind.i64.wrap (y74.1 + 1)), .int .i64 (IntKind.i64.wrap ((IntKind.i64.wrap (y74.1 + 1)) + 1)), .slice a29 y84.2.length c30, .slice a32 y91.2.length c33, .int .i64 y91.1, .int .i64 (IntKind.i64.wrap (y91.1 + 1)), .int .i64 (IntKind.i64.wrap ((IntKind.i64.wrap (y91.1 + 1)) + 1)), .int .i64 (IntKind.i64.wrap ((IntKind.i64.wrap ((IntKind.i64.wrap (y91.1 + 1)) + 1)) + 1)), .int .i64 (IntKind.i64.wrap ((IntKind.i64.wrap ((IntKind.i64.wrap ((IntKind.i64.wrap (y91.1 + 1)) + 1)) + 1)) + 1)), .int .i64 (IntKind.i64.wrap ((IntKind.i64.wrap ((IntKind.i64.wrap ((IntKind.i64.wrap ((IntKind.i64.wrap (y91.1 + 1)) + 1)) + 1)) + 1)) + 1)), .int .i64 (IntKind.i64.wrap ((IntKind.i64.wrap ((IntKind.i64.wrap ((IntKind.i64.wrap ((IntKind.i64.wrap ((IntKind.i64.wrap (y91.1 + 1)) + 1)) + 1)) + 1)) + 1)) + 1))]]) (y := (DPart.mk (DLabel.mk y35.2) y60.2 y67.2 (DHeap.mk y74.2 (DGc.mk y74.1 (IntKind.i64.wrap (y74.1 + 1)) (IntKind.i64.wrap ((IntKind.i64.wrap (y74.1 + 1)) + 1)) y84.2)) y91.2 y91.1 (IntKind.i64.wrap (y91.1 + 1)) (DAmt.mk (IntKind.i64.wrap ((IntKind.i64.wrap (y91.1 + 1)) + 1)) (IntKind.i64.wrap ((IntKind.i64.wrap ((IntKind.i64.wrap (y91.1 + 1)) + 1)) + 1)) (IntKind.i64.wrap ((IntKind.i64.wrap ((IntKind.i64.wrap ((IntKind.i64.wrap (y91.1 + 1)) + 1)) + 1)) + 1))) (IntKind.i64.wrap ((IntKind.i64.wrap ((IntKind.i64.wrap ((IntKind.i64.wrap ((IntKind.i64.wrap (y91.1 + 1)) + 1)) + 1)) + 1)) + 1)) (IntKind.i64.wrap ((IntKind.i64.wrap ((IntKind.i64.wrap ((IntKind.i64.wrap ((IntKind.i64.wrap ((IntKind.i64.wrap (y91.1 + 1)) + 1)) + 1)) + 1)) + 1)) + 1)))) 0 rfl (fun w G hG => ⟨a17, c18, a20, c21, a23, c24, a26, c27, a29, c30, a32, c33, rfl, hG⟩)
      cases oi h
      exact ⟨rfl, ⟨⟨(show (.slice (some ⟨b7, o8, none⟩) s1.1.length c0_0 : Value) = .slice (some ⟨b7, o8, none⟩) ((s1.1.set (s1.2.2 : Int).toNat (DPart.mk (DLabel.mk y35.2) y60.2 y67.2 (DHeap.mk y74.2 (DGc.mk y74.1 (IntKind.i64.wrap (y74.1 + 1)) (IntKind.i64.wrap ((IntKind.i64.wrap (y74.1 + 1)) + 1)) y84.2)) y91.2 y91.1 (IntKind.i64.wrap (y91.1 + 1)) (DAmt.mk (IntKind.i64.wrap ((IntKind.i64.wrap (y91.1 + 1)) + 1)) (IntKind.i64.wrap ((IntKind.i64.wrap ((IntKind.i64.wrap (y91.1 + 1)) + 1)) + 1)) (IntKind.i64.wrap ((IntKind.i64.wrap ((IntKind.i64.wrap ((IntKind.i64.wrap (y91.1 + 1)) + 1)) + 1)) + 1))) (IntKind.i64.wrap ((IntKind.i64.wrap ((IntKind.i64.wrap ((IntKind.i64.wrap ((IntKind.i64.wrap (y91.1 + 1)) + 1)) + 1)) + 1)) + 1)) (IntKind.i64.wrap ((IntKind.i64.wrap ((IntKind.i64.wrap ((IntKind.i64.wrap ((IntKind.i64.wrap ((IntKind.i64.wrap (y91.1 + 1)) + 1)) + 1)) + 1)) + 1)) + 1)))).length) c0_0 by rw [show s1.1.length = (s1.1.set (s1.2.2 : Int).toNat (DPart.mk (DLabel.mk y35.2) y60.2 y67.2 (DHeap.mk y74.2 (DGc.mk y74.1 (IntKind.i64.wrap (y74.1 + 1)) (IntKind.i64.wrap ((IntKind.i64.wrap (y74.1 + 1)) + 1)) y84.2)) y91.2 y91.1 (IntKind.i64.wrap (y91.1 + 1)) (DAmt.mk (IntKind.i64.wrap ((IntKind.i64.wrap (y91.1 + 1)) + 1)) (IntKind.i64.wrap ((IntKind.i64.wrap ((IntKind.i64.wrap (y91.1 + 1)) + 1)) + 1)) (IntKind.i64.wrap ((IntKind.i64.wrap ((IntKind.i64.wrap ((IntKind.i64.wrap (y91.1 + 1)) + 1)) + 1)) + 1))) (IntKind.i64.wrap ((IntKind.i64.wrap ((IntKind.i64.wrap ((IntKind.i64.wrap ((IntKind.i64.wrap (y91.1 + 1)) + 1)) + 1)) + 1)) + 1)) (IntKind.i64.wrap ((IntKind.i64.wrap ((IntKind.i64.wrap ((IntKind.i64.wrap ((IntKind.i64.wrap ((IntKind.i64.wrap (y91.1 + 1)) + 1)) + 1)) + 1)) + 1)) + 1)))).length from (len_set rfl)]), rfl, rfl, trivial⟩, hS28.pick [0] rfl rfl⟩⟩
    replace h := bcF h hc3
    refine go ?_
    cases oi h
    exact ⟨trivial, rfl, ⟨⟨rfl, trivial⟩, hS1.pick [0] rfl rfl⟩⟩
  intro x e w107 hM
  obtain ⟨rfl, hM⟩ := hM
  obtain ⟨hE, hS29⟩ := hM
  obtain ⟨e, rfl⟩ := hE.out
  have h := h106
  refine go ?_
  replace h := Option.some.inj h
  subst h
  exact And.intro trivial ⟨_, Res.one (resOne.t rfl), rfl, hS29.pick [0] rfl rfl⟩

theorem W_l_markWorld {w0 : World} {F : List Nat} {N : Nat} {x0 : DWorld} {x1 : Int} {r : Int × (List DPart)} (h : F_l_markWorld N x0 x1 = some r) {a0_1 : Option Addr} {n0_1 c0_1 : Nat} (hn0_1 : n0_1 = x0.parts.length) (hS : St w0 F w0 [sl a0_1 c0_1 x0.parts]) :
    Ret Tryz.prog 30 #[.agg #[.int .i64 x0.now, .slice a0_1 n0_1 c0_1], .int .i64 x1] w0 (fun v w => v = .int .i64 r.1 ∧ St w0 F w [sl a0_1 c0_1 r.2]) := by
  subst hn0_1
  unfold F_l_markWorld at h
  refine Ret.fn Tryz.func30 fun e => ?_
  refine go ?_
  refine LW.bo hS fun g1 w2 hS1 => ?_
  refine go ?_
  replace ⟨y3, hy3, h⟩ := obind h
  obtain ⟨q6, hy3', hq7⟩ := obind hy3
  obtain ⟨hl8, hq7⟩ := keepL_some hq7
  rw [Option.some.inj hq7] at hy3' hl8
  have hS2 := hS1.pick (M := [sl a0_1 c0_1 x0.parts] ++ [bx g1 61 [.int .i64 x0.now, .slice a0_1 x0.parts.length c0_1]]) [1, 0] rfl rfl
  obtain ⟨F4, hL5⟩ := St.lend (L := [sl a0_1 c0_1 x0.parts]) (M := [bx g1 61 [.int .i64 x0.now, .slice a0_1 x0.parts.length c0_1]]) hS2
  refine LW.cl (W_l_markPartS hy3' rfl hL5.st) ?_
  rintro _ w9 ⟨rfl, hs⟩
  have hS3 := hL5.back _ _ hs
  refine go ?_
  replace h := Option.some.inj h
  subst h
  rw [show x0.parts.length = y3.2.length from hl8] at hS3
  exact And.intro trivial ⟨_, Res.one (resOne.t rfl), rfl, hS3.pick [0] rfl rfl⟩

end Go.Kx
