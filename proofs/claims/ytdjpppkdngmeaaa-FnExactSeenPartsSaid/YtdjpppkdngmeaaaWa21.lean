/- Each call returns what the plain function says. Printed by drive.py. -/
import Derived.Test.YtdjpppkdngmeaaaFa
import Derived.Test.YtdjpppkdngmeaaaPu
import Derived.Test.YtdjpppkdngmeaaaWa0
import Derived.Test.YtdjpppkdngmeaaaWa4
import Derived.Test.YtdjpppkdngmeaaaWa5
import Derived.Test.YtdjpppkdngmeaaaWa7
import Derived.Test.YtdjpppkdngmeaaaWa19
import Derived.Test.YtdjpppkdngmeaaaWa20
namespace Go.Kx
open Go Go.RowKit Go.Proofs
set_option maxRecDepth 10000
set_option maxHeartbeats 2000000
set_option linter.unusedVariables false
set_option linter.unusedSimpArgs false
theorem W_s_SeenParts {w0 : World} {N : Nat} {x0 : DWorld} {x1 : DLabel} {r : (List DPart)} (h : F_s_SeenParts N x0 x1 = some r) {a0_1 : Option Addr} {n0_1 c0_1 : Nat} (hn0_1 : n0_1 = x0.parts.length) (hr0_1 : rdS (Bor w0 []) w0 a0_1 c0_1 x0.parts) {a1_0 : Option Addr} {n1_0 c1_0 : Nat} (hn1_0 : n1_0 = x1.levels.length) (hr1_0 : rdS (Bor w0 []) w0 a1_0 c1_0 x1.levels) :
    Ret Try.prog 40 #[.agg #[.int .i64 x0.now, .slice a0_1 n0_1 c0_1], .agg #[.slice a1_0 n1_0 c1_0]] w0 (fun v w => ∃ ar0 cr0, v = .slice ar0 r.length cr0 ∧ St w0 [] w [sl ar0 cr0 r]) := by
  subst hn0_1
  subst hn1_0
  unfold F_s_SeenParts at h
  refine Ret.of Try.func40 rfl rfl rfl ?_
  have hS1 := St.start w0
  refine CW.seq ?_
  refine CW.region ?_
  refine LW.box (cs := [.int .i64 x0.now, .slice a0_1 x0.parts.length c0_1]) rfl hS1 rfl ?_
  intro g1 w2 hS2 hf
  refine LW.box (cs := [.slice a1_0 x1.levels.length c1_0]) rfl hS2 rfl ?_
  intro g3 w4 hS3 hf
  refine LW.p rfl rfl ?_
  refine LW.nil ?_
  show CW _ _ _ _ _ _
  refine CW.seq ?_
  refine CW.region ?_
  refine LW.bsl (α := DPart) (vs := []) (cs := #[]) (l := ([] : List DPart)) rfl (by kernel_rfl) rfl rfl rfl (fun w => rfl) hS3 rfl ?_
  intro a5 c6 w7 hS4 hf
  refine LW.p rfl rfl ?_
  refine LW.nil ?_
  show CW _ _ _ _ _ _
  refine CW.seq ?_
  refine CW.seq ?_
  refine CW.region ?_
  refine LW.p rfl rfl ?_
  refine LW.nil ?_
  show CW _ _ _ _ _ _
  refine CW.block ?_
  obtain ⟨o64, ho64, h65⟩ := obind h
  refine CW.mono (CW.iter (σ := (List DPart) × Int) (ρ := (List DPart) × Int) (fun s8 e wb => ∃ (s8a0 : Option Addr), ∃ (s8c0 : Nat), En e [(2, .pointer (some ⟨g1, 0, none⟩)), (3, .pointer (some ⟨g3, 0, none⟩)), (5, .slice s8a0 s8.1.length s8c0), (6, .int .i64 s8.2)] ∧ St w0 [] wb [sl s8a0 s8c0 s8.1, bx g3 35 [.slice a1_0 x1.levels.length c1_0], bx g1 51 [.int .i64 x0.now, .slice a0_1 x0.parts.length c0_1]]) (fun s8 x e wb => x = .exit 0 ∧ ∃ (s8a0 : Option Addr), ∃ (s8c0 : Nat), En e [(5, .slice s8a0 s8.1.length s8c0)] ∧ St w0 [] wb [sl s8a0 s8c0 s8.1, bx g3 35 [.slice a1_0 x1.levels.length c1_0], bx g1 51 [.int .i64 x0.now, .slice a0_1 x0.parts.length c0_1]]) ?_ N (([] : List DPart), 0) _ _ _ ⟨a5, c6, ⟨rfl, rfl, rfl, rfl, trivial⟩, hS4.pick [0, 1, 2] rfl rfl⟩ ho64) ?_
  · intro s8 e w9 o hM h
    obtain ⟨s8a0, s8c0, hE, hS5⟩ := hM
    obtain ⟨e, rfl⟩ := hE.out
    refine CW.seq ?_
    refine CW.seq ?_
    obtain ⟨j10, hj10, h11⟩ := obind h
    refine CW.cut (fun e wb => En e [(2, .pointer (some ⟨g1, 0, none⟩)), (3, .pointer (some ⟨g3, 0, none⟩)), (5, .slice s8a0 s8.1.length s8c0), (6, .int .i64 s8.2), (16, .bool j10)] ∧ St w0 [] wb [sl s8a0 s8c0 s8.1, bx g3 35 [.slice a1_0 x1.levels.length c1_0], bx g1 51 [.int .i64 x0.now, .slice a0_1 x0.parts.length c0_1]]) ?_ ?_
    · have h := hj10
      refine CW.region ?_
      refine LW.p rfl rfl ?_
      refine LW.u (Pur.fa fo51_1 rfl) rfl ?_
      refine LW.ldb hS5 2 rfl ag49 rfl rfl rfl ?_
      refine LW.u (Pur.len Try.underlying49 rfl) rfl ?_
      iterate 2 refine LW.p rfl rfl ?_
      rcases bcases (decide (s8.2 < (x0.parts.length : Int))) with hc12 | hc12
      · replace h := bcT h hc12
        refine LW.gY (want_of rfl rfl hc12) ?_
        refine LW.p rfl rfl ?_
        refine LW.gY (want_of rfl rfl hc12) ?_
        refine LW.p rfl rfl ?_
        refine LW.u (Pur.pickT rfl hc12) rfl ?_
        refine LW.nil ?_
        replace h := Option.some.inj h
        subst h
        exact ⟨⟨rfl, rfl, rfl, rfl, rfl, trivial⟩, hS5.pick [0, 1, 2] rfl rfl⟩
      replace h := bcF h hc12
      refine LW.gN (want_not rfl rfl hc12) rfl ?_
      refine LW.gN (want_not rfl rfl hc12) rfl ?_
      refine LW.u (Pur.pickF rfl hc12) rfl ?_
      refine LW.nil ?_
      replace h := Option.some.inj h
      subst h
      exact ⟨⟨rfl, rfl, rfl, rfl, rfl, trivial⟩, hS5.pick [0, 1, 2] rfl rfl⟩
    intro e w13 hM
    obtain ⟨hE, hS6⟩ := hM
    obtain ⟨e, rfl⟩ := hE.out
    have h := h11
    show CW _ _ _ _ _ _
    refine CW.cond rfl (fun hc14 => ?_) (fun hc14 => ?_)
    · replace h := bcT h hc14
      refine CW.skip ?_
      show CW _ _ _ _ _ _
      refine CW.seq ?_
      refine CW.block ?_
      refine CW.seq ?_
      refine CW.draw (by kernel_rfl) ?_
      have hS7 := hS6.drew
      refine AW.u (i := 0) rfl (by kernel_rfl) rfl rfl (Pur.fa fo51_1 rfl) ?_
      refine AW.take (i := 1) rfl (by kernel_rfl) rfl rfl (Ldr.box (bt := 51) (fr := (0, 0)) (cs := [.int .i64 x0.now, .slice a0_1 x0.parts.length c0_1]) ag49 rfl rfl) (St.cell (h := hS7) (i := 2) rfl) ?_
      refine AW.u (i := 2) rfl (by kernel_rfl) rfl rfl (Pur.p rfl) ?_
      replace h := obind h
      obtain ⟨y15, hy15, h⟩ := h
      obtain ⟨b18, o19, cs20, hae, hb23, hp16, hq17, hd21, hk22⟩ := hr0_1.idx hy15
      subst hae
      obtain ⟨a24, c25, a27, c28, a30, c31, a33, c34, a36, c37, a39, c40, rfl, hr26, hr29, hr32, hr35, hr38, hr41⟩ := hd21
      refine AW.u (i := 3) rfl (by kernel_rfl) rfl rfl (Pur.ix Try.underlying49 sz75 rfl rfl hp16 hq17) ?_
      refine AW.u (i := 4) rfl (by kernel_rfl) rfl rfl (Pur.fa fo75_0 rfl) ?_
      refine AW.take (i := 5) rfl (by kernel_rfl) rfl rfl (Ldr.oldN w0 ag35 rfl rfl (fun j u hu => oldsub (m := 1) hk22 0 hu)) (hS7.same _ hb23.1 hb23.2) ?_
      refine AW.take (i := 6) rfl (by kernel_rfl) rfl rfl (Ldr.boxN (bt := 35) (fr := (0, 0)) (cs := [.slice a1_0 x1.levels.length c1_0]) ag35 rfl rfl) (St.cell (h := hS7) (i := 1) rfl) ?_
      replace h := obind h
      obtain ⟨y42, hy42, h⟩ := h
      have q := W_s_Flows (w0 := w13.drew) hy42 rfl (hS7.rB hr26) rfl (hS7.rB hr1_0)
      refine AW.one (i := 7) (by kernel_rfl) ?_
      refine ⟨_, rfl, ?_⟩
      refine LW.call pl91 rfl rfl ?_
      refine Ret.mono q ?_
      rintro _ w43 ⟨rfl, hs⟩
      have hS8 := hS7.add hs
      refine LW.nil ⟨rfl, (.w (by kernel_rfl) (.w (by kernel_rfl) (.c (St.cell (h := hS8) (i := 2) rfl) Kept.n))), ?_⟩
      refine AW.done (by kernel_rfl) ?_
      show CW _ _ _ _ _ _
      refine CW.cond rfl (fun hc44 => ?_) (fun hc44 => ?_)
      · replace h := bcT h hc44
        refine CW.region ?_
        refine LW.p rfl rfl ?_
        refine LW.u (Pur.fa fo51_1 rfl) rfl ?_
        refine LW.ldb hS8 2 rfl ag49 rfl rfl rfl ?_
        refine LW.p rfl rfl ?_
        refine LW.u (Pur.ix Try.underlying49 sz75 rfl rfl hp16 hq17) rfl ?_
        refine LW.l (Ldr.oldN w0 ag75 rfl rfl (fun j u hu => hk22 j u hu)) (hS8.same _ hb23.1 hb23.2) rfl ?_
        replace h := obind h
        obtain ⟨y45, hy45, h⟩ := h
        have q := W_s_l13Copy (w0 := w43) hy45 rfl (hS8.rB hr26) rfl (hS8.rB hr29) rfl (hS8.rB hr32) rfl (hS8.rB hr35) rfl (hS8.rB hr38) rfl (hS8.rB hr41)
        refine LW.call pl92 rfl rfl ?_
        refine Ret.mono q ?_
        rintro _ w58 ⟨a46, c47, a48, c49, a50, c51, a52, c53, a54, c55, a56, c57, rfl, hs⟩
        have hS9 := hS8.add hs
        have hS10 := hS9.pick (M := [sl a46 c47 y45.label.levels, sl a48 c49 y45.own, sl a50 c51 y45.tree, sl a52 c53 y45.heap.arena, sl a54 c55 y45.heap.gc.grey, sl a56 c57 y45.taps] ++ [sl s8a0 s8c0 s8.1, bx g3 35 [.slice a1_0 x1.levels.length c1_0], bx g1 51 [.int .i64 x0.now, .slice (some ⟨b18, o19, none⟩) x0.parts.length c0_1]]) [0, 1, 2, 3, 4, 5, 6, 7, 8] rfl rfl
        replace h := obind h
        obtain ⟨y59, hy59, h⟩ := h
        refine LW.app1 (M := [sl a46 c47 y45.label.levels, sl a48 c49 y45.own, sl a50 c51 y45.tree, sl a52 c53 y45.heap.arena, sl a54 c55 y45.heap.gc.grey, sl a56 c57 y45.taps]) (L := [sl s8a0 s8c0 s8.1, bx g3 35 [.slice a1_0 x1.levels.length c1_0], bx g1 51 [.int .i64 x0.now, .slice (some ⟨b18, o19, none⟩) x0.parts.length c0_1]]) (vs := #[.slice a46 y45.label.levels.length c47, .slice a48 y45.own.length c49, .slice a50 y45.tree.length c51, .slice a52 y45.heap.arena.length c53, .int .i64 y45.heap.gc.phase, .int .i64 y45.heap.gc.pos, .int .i64 y45.heap.gc.round, .slice a54 y45.heap.gc.grey.length c55, .slice a56 y45.taps.length c57, .int .i64 y45.next, .int .i64 y45.want, .int .i64 y45.spent.pages, .int .i64 y45.spent.rent, .int .i64 y45.spent.cpu, .int .i64 y45.press, .int .i64 y45.lost]) (i := 0) sT49 rfl (by kernel_rfl) rfl rfl hy59 hS10 rfl (fun w G hG => ⟨a46, c47, a48, c49, a50, c51, a52, c53, a54, c55, a56, c57, rfl, hG⟩) rfl rfl ?_
        intro v62 a60 c61 w63 hS11 hf
        refine LW.p rfl rfl ?_
        refine LW.nil ?_
        show CW _ _ _ _ _ _
        refine CW.fresh (l := [(2, .pointer (some ⟨g1, 0, none⟩)), (3, .pointer (some ⟨g3, 0, none⟩)), (5, .slice a60 y59.length c61), (6, .int .i64 s8.2)]) ⟨rfl, rfl, rfl, rfl, trivial⟩ (fun e => ?_)
        refine CW.region ?_
        iterate 3 refine LW.p rfl rfl ?_
        refine LW.nil ?_
        replace h := Option.some.inj h
        subst h
        exact ⟨rfl, ⟨a60, c61, ⟨rfl, rfl, rfl, rfl, trivial⟩, hS11.pick [0, 1, 2] rfl rfl⟩⟩
      replace h := bcF h hc44
      refine CW.skip ?_
      show CW _ _ _ _ _ _
      refine CW.region ?_
      iterate 3 refine LW.p rfl rfl ?_
      refine LW.nil ?_
      replace h := Option.some.inj h
      subst h
      exact ⟨rfl, ⟨s8a0, s8c0, ⟨rfl, rfl, rfl, rfl, trivial⟩, hS8.pick [0, 1, 2] rfl rfl⟩⟩
    replace h := bcF h hc14
    refine CW.exit ?_
    replace h := Option.some.inj h
    subst h
    exact ⟨trivial, rfl, ⟨s8a0, s8c0, ⟨rfl, trivial⟩, hS6.pick [0, 1, 2] rfl rfl⟩⟩
  intro x e w66 hM
  obtain ⟨rfl, hM⟩ := hM
  obtain ⟨s8a0, s8c0, hE, hS12⟩ := hM
  obtain ⟨e, rfl⟩ := hE.out
  have h := h65
  show CW _ _ _ _ _ _
  refine CW.seq ?_
  refine CW.region ?_
  iterate 2 refine LW.p rfl rfl ?_
  refine LW.nil ?_
  show CW _ _ _ _ _ _
  refine CW.ret ?_
  cases h
  exact And.intro trivial ⟨_, Res.one (resOne.t rfl), s8a0, s8c0, rfl, hS12.pick [0] rfl rfl⟩

theorem W_i_copyTree {w0 : World} {N : Nat} {x0 : List DRes} {r : (List DRes)} (h : F_i_copyTree N x0 = some r) {a0_0 : Option Addr} {n0_0 c0_0 : Nat} (hn0_0 : n0_0 = x0.length) (hr0_0 : rdS (Bor w0 []) w0 a0_0 c0_0 x0) :
    Ret Try.prog 160 #[.slice a0_0 n0_0 c0_0] w0 (fun v w => ∃ ar0 cr0, v = .slice ar0 r.length cr0 ∧ St w0 [] w [sl ar0 cr0 r]) := by
  subst hn0_0
  unfold F_i_copyTree at h
  refine Ret.of Try.func160 rfl rfl rfl ?_
  have hS1 := St.start w0
  refine CW.seq ?_
  refine CW.region ?_
  refine LW.p rfl rfl ?_
  refine LW.nil ?_
  show CW _ _ _ _ _ _
  refine CW.seq ?_
  refine CW.region ?_
  refine LW.bsl (α := DRes) (vs := []) (cs := #[]) (l := ([] : List DRes)) rfl (by kernel_rfl) rfl rfl rfl (fun w => rfl) hS1 rfl ?_
  intro a1 c2 w3 hS2 hf
  refine LW.p rfl rfl ?_
  replace h := obind h
  obtain ⟨y4, hy4, h⟩ := h
  refine LW.appN (l := ([] : List DRes)) (m := x0) sT67 rfl rfl (hS2.rB hr0_0) hy4 hS2 (i := 0) rfl rfl ?_
  intro a5 c6 w7 hS3 hf
  refine LW.p rfl rfl ?_
  refine LW.nil ?_
  show CW _ _ _ _ _ _
  refine CW.ret ?_
  cases h
  exact And.intro trivial ⟨_, Res.one (resOne.t rfl), a5, c6, rfl, hS3.pick [0] rfl rfl⟩

theorem W_i_copyPart {w0 : World} {N : Nat} {x0 : DPart} {r : DPart} (h : F_i_copyPart N x0 = some r) {a0_0 : Option Addr} {n0_0 c0_0 : Nat} (hn0_0 : n0_0 = x0.label.levels.length) (hr0_0 : rdS (Bor w0 []) w0 a0_0 c0_0 x0.label.levels) {a0_1 : Option Addr} {n0_1 c0_1 : Nat} (hn0_1 : n0_1 = x0.own.length) (hr0_1 : rdS (Bor w0 []) w0 a0_1 c0_1 x0.own) {a0_2 : Option Addr} {n0_2 c0_2 : Nat} (hn0_2 : n0_2 = x0.tree.length) (hr0_2 : rdS (Bor w0 []) w0 a0_2 c0_2 x0.tree) {a0_3 : Option Addr} {n0_3 c0_3 : Nat} (hn0_3 : n0_3 = x0.heap.arena.length) (hr0_3 : rdS (Bor w0 []) w0 a0_3 c0_3 x0.heap.arena) {a0_7 : Option Addr} {n0_7 c0_7 : Nat} (hn0_7 : n0_7 = x0.heap.gc.grey.length) (hr0_7 : rdS (Bor w0 []) w0 a0_7 c0_7 x0.heap.gc.grey) {a0_8 : Option Addr} {n0_8 c0_8 : Nat} (hn0_8 : n0_8 = x0.taps.length) (hr0_8 : rdS (Bor w0 []) w0 a0_8 c0_8 x0.taps) :
    Ret Try.prog 94 #[.agg #[.slice a0_0 n0_0 c0_0, .slice a0_1 n0_1 c0_1, .slice a0_2 n0_2 c0_2, .slice a0_3 n0_3 c0_3, .int .i64 x0.heap.gc.phase, .int .i64 x0.heap.gc.pos, .int .i64 x0.heap.gc.round, .slice a0_7 n0_7 c0_7, .slice a0_8 n0_8 c0_8, .int .i64 x0.next, .int .i64 x0.want, .int .i64 x0.spent.pages, .int .i64 x0.spent.rent, .int .i64 x0.spent.cpu, .int .i64 x0.press, .int .i64 x0.lost]] w0 (fun v w => ∃ ar0_0 cr0_0, ∃ ar0_1 cr0_1, ∃ ar0_2 cr0_2, ∃ ar0_3 cr0_3, ∃ ar0_7 cr0_7, ∃ ar0_8 cr0_8, v = .agg #[.slice ar0_0 r.label.levels.length cr0_0, .slice ar0_1 r.own.length cr0_1, .slice ar0_2 r.tree.length cr0_2, .slice ar0_3 r.heap.arena.length cr0_3, .int .i64 r.heap.gc.phase, .int .i64 r.heap.gc.pos, .int .i64 r.heap.gc.round, .slice ar0_7 r.heap.gc.grey.length cr0_7, .slice ar0_8 r.taps.length cr0_8, .int .i64 r.next, .int .i64 r.want, .int .i64 r.spent.pages, .int .i64 r.spent.rent, .int .i64 r.spent.cpu, .int .i64 r.press, .int .i64 r.lost] ∧ St w0 [] w [sl ar0_0 cr0_0 r.label.levels, sl ar0_1 cr0_1 r.own, sl ar0_2 cr0_2 r.tree, sl ar0_3 cr0_3 r.heap.arena, sl ar0_7 cr0_7 r.heap.gc.grey, sl ar0_8 cr0_8 r.taps]) := by
  subst hn0_0
  subst hn0_1
  subst hn0_2
  subst hn0_3
  subst hn0_7
  subst hn0_8
  unfold F_i_copyPart at h
  refine Ret.of Try.func94 rfl rfl rfl ?_
  have hS1 := St.start w0
  refine CW.seq ?_
  refine CW.region ?_
  refine LW.box (cs := [.slice a0_0 x0.label.levels.length c0_0, .slice a0_1 x0.own.length c0_1, .slice a0_2 x0.tree.length c0_2, .slice a0_3 x0.heap.arena.length c0_3, .int .i64 x0.heap.gc.phase, .int .i64 x0.heap.gc.pos, .int .i64 x0.heap.gc.round, .slice a0_7 x0.heap.gc.grey.length c0_7, .slice a0_8 x0.taps.length c0_8, .int .i64 x0.next, .int .i64 x0.want, .int .i64 x0.spent.pages, .int .i64 x0.spent.rent, .int .i64 x0.spent.cpu, .int .i64 x0.press, .int .i64 x0.lost]) rfl hS1 rfl ?_
  intro g1 w2 hS2 hf
  refine LW.alloc zv75 hS2 rfl ?_
  intro g3 w4 hS3 hf
  refine LW.nil ?_
  show CW _ _ _ _ _ _
  refine CW.seq ?_
  refine CW.draw (by kernel_rfl) ?_
  have hS4 := hS3.drew
  refine AW.u (i := 0) rfl (by kernel_rfl) rfl rfl (Pur.fa fo75_0 rfl) ?_
  refine AW.take (i := 1) rfl (by kernel_rfl) rfl rfl (Ldr.boxN (bt := 75) (fr := (0, 0)) (cs := [.slice a0_0 x0.label.levels.length c0_0, .slice a0_1 x0.own.length c0_1, .slice a0_2 x0.tree.length c0_2, .slice a0_3 x0.heap.arena.length c0_3, .int .i64 x0.heap.gc.phase, .int .i64 x0.heap.gc.pos, .int .i64 x0.heap.gc.round, .slice a0_7 x0.heap.gc.grey.length c0_7, .slice a0_8 x0.taps.length c0_8, .int .i64 x0.next, .int .i64 x0.want, .int .i64 x0.spent.pages, .int .i64 x0.spent.rent, .int .i64 x0.spent.cpu, .int .i64 x0.press, .int .i64 x0.lost]) ag35 rfl rfl) (St.cell (h := hS4) (i := 1) rfl) ?_
  refine AW.u (i := 3) rfl (by kernel_rfl) rfl rfl (Pur.fa fo75_1 rfl) ?_
  refine AW.take (i := 4) rfl (by kernel_rfl) rfl rfl (Ldr.box (bt := 75) (fr := (0, 0)) (cs := [.slice a0_0 x0.label.levels.length c0_0, .slice a0_1 x0.own.length c0_1, .slice a0_2 x0.tree.length c0_2, .slice a0_3 x0.heap.arena.length c0_3, .int .i64 x0.heap.gc.phase, .int .i64 x0.heap.gc.pos, .int .i64 x0.heap.gc.round, .slice a0_7 x0.heap.gc.grey.length c0_7, .slice a0_8 x0.taps.length c0_8, .int .i64 x0.next, .int .i64 x0.want, .int .i64 x0.spent.pages, .int .i64 x0.spent.rent, .int .i64 x0.spent.cpu, .int .i64 x0.press, .int .i64 x0.lost]) ag24 rfl rfl) (St.cell (h := hS4) (i := 1) rfl) ?_
  refine AW.u (i := 6) rfl (by kernel_rfl) rfl rfl (Pur.fa fo75_2 rfl) ?_
  refine AW.take (i := 7) rfl (by kernel_rfl) rfl rfl (Ldr.box (bt := 75) (fr := (0, 0)) (cs := [.slice a0_0 x0.label.levels.length c0_0, .slice a0_1 x0.own.length c0_1, .slice a0_2 x0.tree.length c0_2, .slice a0_3 x0.heap.arena.length c0_3, .int .i64 x0.heap.gc.phase, .int .i64 x0.heap.gc.pos, .int .i64 x0.heap.gc.round, .slice a0_7 x0.heap.gc.grey.length c0_7, .slice a0_8 x0.taps.length c0_8, .int .i64 x0.next, .int .i64 x0.want, .int .i64 x0.spent.pages, .int .i64 x0.spent.rent, .int .i64 x0.spent.cpu, .int .i64 x0.press, .int .i64 x0.lost]) ag67 rfl rfl) (St.cell (h := hS4) (i := 1) rfl) ?_
  refine AW.u (i := 9) rfl (by kernel_rfl) rfl rfl (Pur.fa fo75_3 rfl) ?_
  refine AW.take (i := 10) rfl (by kernel_rfl) rfl rfl (Ldr.boxN (bt := 75) (fr := (0, 0)) (cs := [.slice a0_0 x0.label.levels.length c0_0, .slice a0_1 x0.own.length c0_1, .slice a0_2 x0.tree.length c0_2, .slice a0_3 x0.heap.arena.length c0_3, .int .i64 x0.heap.gc.phase, .int .i64 x0.heap.gc.pos, .int .i64 x0.heap.gc.round, .slice a0_7 x0.heap.gc.grey.length c0_7, .slice a0_8 x0.taps.length c0_8, .int .i64 x0.next, .int .i64 x0.want, .int .i64 x0.spent.pages, .int .i64 x0.spent.rent, .int .i64 x0.spent.cpu, .int .i64 x0.press, .int .i64 x0.lost]) ag71 rfl rfl) (St.cell (h := hS4) (i := 1) rfl) ?_
  replace h := obind h
  obtain ⟨y5, hy5, h⟩ := h
  have q := W_i_copyLabel (w0 := w4.drew) hy5 rfl (hS4.rB hr0_0)
  refine AW.one (i := 2) (by kernel_rfl) ?_
  refine ⟨_, rfl, ?_⟩
  refine LW.call pl114 rfl rfl ?_
  refine Ret.mono q ?_
  rintro _ w8 ⟨a6, c7, rfl, hs⟩
  have hS5 := hS4.add hs
  refine LW.nil ⟨rfl, (.c (St.cell (h := hS5) (i := 2) rfl) (.c (St.cell (h := hS5) (i := 2) rfl) (.c (St.cell (h := hS5) (i := 2) rfl) (.w (by kernel_rfl) Kept.n)))), ?_⟩
  refine AW.u (i := 12) rfl (by kernel_rfl) rfl rfl (Pur.fa fo75_0 rfl) ?_
  replace h := obind h
  obtain ⟨y9, hy9, h⟩ := h
  have q := W_i_copyInts (w0 := w8) hy9 rfl (hS5.rB hr0_1)
  refine AW.one (i := 5) (by kernel_rfl) ?_
  refine ⟨_, rfl, ?_⟩
  refine LW.call pl115 rfl rfl ?_
  refine Ret.mono q ?_
  rintro _ w12 ⟨a10, c11, rfl, hs⟩
  have hS6 := hS5.add hs
  refine LW.nil ⟨rfl, (.c (St.cell (h := hS6) (i := 3) rfl) (.c (St.cell (h := hS6) (i := 3) rfl) (.w (by kernel_rfl) (.c (St.cell (h := hS6) (i := 3) rfl) Kept.n)))), ?_⟩
  replace h := obind h
  obtain ⟨y13, hy13, h⟩ := h
  have q := W_i_copyTree (w0 := w12) hy13 rfl (hS6.rB hr0_2)
  refine AW.one (i := 8) (by kernel_rfl) ?_
  refine ⟨_, rfl, ?_⟩
  refine LW.call pl160 rfl rfl ?_
  refine Ret.mono q ?_
  rintro _ w16 ⟨a14, c15, rfl, hs⟩
  have hS7 := hS6.add hs
  refine LW.nil ⟨rfl, (.c (St.cell (h := hS7) (i := 4) rfl) (.w (by kernel_rfl) (.c (St.cell (h := hS7) (i := 4) rfl) (.c (St.cell (h := hS7) (i := 4) rfl) Kept.n)))), ?_⟩
  replace h := obind h
  obtain ⟨y17, hy17, h⟩ := h
  have q := W_i_copyHeap (w0 := w16) hy17 rfl (hS7.rB hr0_3) rfl (hS7.rB hr0_7)
  refine AW.one (i := 11) (by kernel_rfl) ?_
  refine ⟨_, rfl, ?_⟩
  refine LW.call pl161 rfl rfl ?_
  refine Ret.mono q ?_
  rintro _ w22 ⟨a18, c19, a20, c21, rfl, hs⟩
  have hS8 := hS7.add hs
  refine LW.nil ⟨rfl, (.w (by kernel_rfl) (.c (St.cell (h := hS8) (i := 6) rfl) (.c (St.cell (h := hS8) (i := 6) rfl) (.c (St.cell (h := hS8) (i := 6) rfl) Kept.n)))), ?_⟩
  refine AW.one (i := 13) (by kernel_rfl) ?_
  refine ⟨_, rfl, ?_⟩
  refine LW.stb hS8 6 rfl ag35 rfl rfl rfl rfl rfl ?_
  intro w23 hS9 hf
  refine LW.nil ⟨rfl, (.w (by kernel_rfl) (.w (by kernel_rfl) (.w (by kernel_rfl) (.w (by kernel_rfl) Kept.n)))), ?_⟩
  refine AW.u (i := 14) rfl (by kernel_rfl) rfl rfl (Pur.fa fo75_1 rfl) ?_
  refine AW.one (i := 15) (by kernel_rfl) ?_
  refine ⟨_, rfl, ?_⟩
  refine LW.stb hS9 6 rfl ag24 rfl rfl rfl rfl rfl ?_
  intro w24 hS10 hf
  refine LW.nil ⟨rfl, (.w (by kernel_rfl) (.w (by kernel_rfl) (.w (by kernel_rfl) (.w (by kernel_rfl) Kept.n)))), ?_⟩
  refine AW.u (i := 16) rfl (by kernel_rfl) rfl rfl (Pur.fa fo75_2 rfl) ?_
  refine AW.one (i := 17) (by kernel_rfl) ?_
  refine ⟨_, rfl, ?_⟩
  refine LW.stb hS10 6 rfl ag67 rfl rfl rfl rfl rfl ?_
  intro w25 hS11 hf
  refine LW.nil ⟨rfl, (.w (by kernel_rfl) (.w (by kernel_rfl) (.w (by kernel_rfl) (.w (by kernel_rfl) Kept.n)))), ?_⟩
  refine AW.u (i := 18) rfl (by kernel_rfl) rfl rfl (Pur.fa fo75_3 rfl) ?_
  refine AW.one (i := 19) (by kernel_rfl) ?_
  refine ⟨_, rfl, ?_⟩
  refine LW.stb hS11 6 rfl ag71 rfl rfl rfl rfl rfl ?_
  intro w26 hS12 hf
  refine LW.nil ⟨rfl, (.w (by kernel_rfl) (.w (by kernel_rfl) (.w (by kernel_rfl) (.w (by kernel_rfl) Kept.n)))), ?_⟩
  refine AW.done (by kernel_rfl) ?_
  show CW _ _ _ _ _ _
  refine CW.seq ?_
  refine CW.region ?_
  refine LW.bsl (α := DTap) (vs := []) (cs := #[]) (l := ([] : List DTap)) rfl (by kernel_rfl) rfl rfl rfl (fun w => rfl) hS12 rfl ?_
  intro a27 c28 w29 hS13 hf
  refine LW.u (Pur.fa fo75_4 rfl) rfl ?_
  refine LW.ldb hS13 7 rfl ag72 rfl rfl rfl ?_
  replace h := obind h
  obtain ⟨y30, hy30, h⟩ := h
  refine LW.appN (l := ([] : List DTap)) (m := x0.taps) sT72 rfl rfl (hS13.rB hr0_8) hy30 hS13 (i := 0) rfl rfl ?_
  intro a31 c32 w33 hS14 hf
  refine LW.u (Pur.fa fo75_4 rfl) rfl ?_
  refine LW.stb hS14 7 rfl ag72 rfl rfl rfl rfl rfl ?_
  intro w34 hS15 hf
  refine LW.nil ?_
  show CW _ _ _ _ _ _
  refine CW.seq ?_
  refine CW.region ?_
  refine LW.ldbN hS15 7 rfl ag75 rfl rfl rfl ?_
  refine LW.stb hS15 6 rfl ag75 rfl rfl rfl rfl rfl ?_
  intro w35 hS16 hf
  refine LW.nil ?_
  show CW _ _ _ _ _ _
  refine CW.ret ?_
  cases h
  exact And.intro trivial ⟨_, Res.one (resOne.b hS16 6 rfl ag75 rfl rfl), a6, c7, a10, c11, a14, c15, a18, c19, a20, c21, a31, c32, rfl, hS16.pick [5, 4, 3, 1, 2, 0] rfl rfl⟩

theorem W_i_SeenParts {w0 : World} {N : Nat} {x0 : DWorld} {x1 : DLabel} {r : (List DPart)} (h : F_i_SeenParts N x0 x1 = some r) {a0_1 : Option Addr} {n0_1 c0_1 : Nat} (hn0_1 : n0_1 = x0.parts.length) (hr0_1 : rdS (Bor w0 []) w0 a0_1 c0_1 x0.parts) {a1_0 : Option Addr} {n1_0 c1_0 : Nat} (hn1_0 : n1_0 = x1.levels.length) (hr1_0 : rdS (Bor w0 []) w0 a1_0 c1_0 x1.levels) :
    Ret Try.prog 41 #[.agg #[.int .i64 x0.now, .slice a0_1 n0_1 c0_1], .agg #[.slice a1_0 n1_0 c1_0]] w0 (fun v w => ∃ ar0 cr0, v = .slice ar0 r.length cr0 ∧ St w0 [] w [sl ar0 cr0 r]) := by
  subst hn0_1
  subst hn1_0
  unfold F_i_SeenParts at h
  refine Ret.of Try.func41 rfl rfl rfl ?_
  have hS1 := St.start w0
  refine CW.seq ?_
  refine CW.region ?_
  refine LW.box (cs := [.int .i64 x0.now, .slice a0_1 x0.parts.length c0_1]) rfl hS1 rfl ?_
  intro g1 w2 hS2 hf
  refine LW.box (cs := [.slice a1_0 x1.levels.length c1_0]) rfl hS2 rfl ?_
  intro g3 w4 hS3 hf
  refine LW.p rfl rfl ?_
  refine LW.nil ?_
  show CW _ _ _ _ _ _
  refine CW.seq ?_
  refine CW.region ?_
  refine LW.bsl (α := DPart) (vs := []) (cs := #[]) (l := ([] : List DPart)) rfl (by kernel_rfl) rfl rfl rfl (fun w => rfl) hS3 rfl ?_
  intro a5 c6 w7 hS4 hf
  refine LW.p rfl rfl ?_
  refine LW.nil ?_
  show CW _ _ _ _ _ _
  refine CW.seq ?_
  refine CW.seq ?_
  refine CW.region ?_
  refine LW.u (Pur.fa fo51_1 rfl) rfl ?_
  refine LW.ldb hS4 2 rfl ag49 rfl rfl rfl ?_
  refine LW.u (Pur.fa fo51_1 rfl) rfl ?_
  refine LW.ldb hS4 2 rfl ag49 rfl rfl rfl ?_
  refine LW.u (Pur.len Try.underlying49 rfl) rfl ?_
  refine LW.u (Pur.min rfl rfl) rfl ?_
  replace h := obind h
  obtain ⟨y8, hy8, h⟩ := h
  obtain ⟨a9, c10, he11, he12, hr13⟩ := rdS.sub' hr0_1 hy8
  have hle14 := (hr0_1).le
  refine LW.u (Pur.sub (α := DPart) (l := x0.parts) Try.underlying49 sz75 rfl bndN (bndS rfl) hy8 hle14 he11 he12) rfl ?_
  refine LW.u (Pur.len Try.underlying49 rfl) rfl ?_
  refine LW.p rfl rfl ?_
  refine LW.nil ?_
  show CW _ _ _ _ _ _
  refine CW.fresh (l := [(3, .pointer (some ⟨g3, 0, none⟩)), (5, .slice a5 (([] : List DPart).length) c6), (15, .slice a9 y8.length c10), (16, .int .i64 (y8.length : Int)), (17, .int .i64 0)]) ⟨rfl, rfl, rfl, rfl, rfl, trivial⟩ (fun e => ?_)
  refine CW.block ?_
  obtain ⟨o70, ho70, h71⟩ := obind h
  refine CW.mono (CW.iter (σ := (List DPart) × Int) (ρ := (List DPart) × Int) (fun s15 e wb => ∃ (s15a0 : Option Addr), ∃ (s15c0 : Nat), En e [(3, .pointer (some ⟨g3, 0, none⟩)), (5, .slice s15a0 s15.1.length s15c0), (15, .slice a9 y8.length c10), (16, .int .i64 (y8.length : Int)), (17, .int .i64 s15.2)] ∧ St w0 [] wb [sl s15a0 s15c0 s15.1, bx g3 35 [.slice a1_0 x1.levels.length c1_0]]) (fun s15 x e wb => x = .exit 0 ∧ ∃ (s15a0 : Option Addr), ∃ (s15c0 : Nat), En e [(5, .slice s15a0 s15.1.length s15c0)] ∧ St w0 [] wb [sl s15a0 s15c0 s15.1, bx g3 35 [.slice a1_0 x1.levels.length c1_0]]) ?_ N (([] : List DPart), 0) _ _ _ ⟨a5, c6, ⟨rfl, rfl, rfl, rfl, rfl, trivial⟩, hS4.pick [0, 1] rfl rfl⟩ ho70) ?_
  · intro s15 e w16 o hM h
    obtain ⟨s15a0, s15c0, hE, hS5⟩ := hM
    obtain ⟨e, rfl⟩ := hE.out
    refine CW.seq ?_
    refine CW.region ?_
    refine LW.p rfl rfl ?_
    refine LW.nil ?_
    show CW _ _ _ _ _ _
    refine CW.seq ?_
    refine CW.cond rfl (fun hc17 => ?_) (fun hc17 => ?_)
    · replace h := bcT h hc17
      refine CW.skip ?_
      show CW _ _ _ _ _ _
      refine CW.seq ?_
      refine CW.block ?_
      refine CW.seq ?_
      refine CW.region ?_
      replace h := obind h
      obtain ⟨y18, hy18, h⟩ := h
      obtain ⟨b21, o22, cs23, hae, hb26, hp19, hq20, hd24, hk25⟩ := hr13.idx hy18
      subst hae
      obtain ⟨a27, c28, a30, c31, a33, c34, a36, c37, a39, c40, a42, c43, rfl, hr29, hr32, hr35, hr38, hr41, hr44⟩ := hd24
      refine LW.u (Pur.ix Try.underlying49 sz75 rfl rfl hp19 hq20) rfl ?_
      refine LW.l (Ldr.oldN w0 ag75 rfl rfl (fun j u hu => hk25 j u hu)) (hS5.same _ hb26.1 hb26.2) rfl ?_
      refine LW.alloc zv75 hS5 rfl ?_
      intro g45 w46 hS6 hf
      refine LW.stb hS6 0 rfl ag75 rfl rfl rfl rfl rfl ?_
      intro w47 hS7 hf
      refine LW.nil ?_
      show CW _ _ _ _ _ _
      refine CW.seq ?_
      refine CW.region ?_
      refine LW.u (Pur.fa fo75_0 rfl) rfl ?_
      refine LW.ldbN hS7 0 rfl ag35 rfl rfl rfl ?_
      refine LW.ldbN hS7 2 rfl ag35 rfl rfl rfl ?_
      replace h := obind h
      obtain ⟨y48, hy48, h⟩ := h
      have q := W_i_Flows (w0 := w47) hy48 rfl (hS7.rB hr29) rfl (hS7.rB hr1_0)
      refine LW.call pl93 rfl rfl ?_
      refine Ret.mono q ?_
      rintro _ w49 ⟨rfl, hs⟩
      have hS8 := hS7.add hs
      refine LW.nil ?_
      show CW _ _ _ _ _ _
      refine CW.cond rfl (fun hc50 => ?_) (fun hc50 => ?_)
      · replace h := bcT h hc50
        refine CW.region ?_
        refine LW.p rfl rfl ?_
        refine LW.ldbN hS8 0 rfl ag75 rfl rfl rfl ?_
        replace h := obind h
        obtain ⟨y51, hy51, h⟩ := h
        have q := W_i_copyPart (w0 := w49) hy51 rfl (hS8.rB hr29) rfl (hS8.rB hr32) rfl (hS8.rB hr35) rfl (hS8.rB hr38) rfl (hS8.rB hr41) rfl (hS8.rB hr44)
        refine LW.call pl94 rfl rfl ?_
        refine Ret.mono q ?_
        rintro _ w64 ⟨a52, c53, a54, c55, a56, c57, a58, c59, a60, c61, a62, c63, rfl, hs⟩
        have hS9 := hS8.add hs
        have hS10 := hS9.pick (M := [sl a52 c53 y51.label.levels, sl a54 c55 y51.own, sl a56 c57 y51.tree, sl a58 c59 y51.heap.arena, sl a60 c61 y51.heap.gc.grey, sl a62 c63 y51.taps] ++ [bx g45 75 [.slice a27 y18.label.levels.length c28, .slice a30 y18.own.length c31, .slice a33 y18.tree.length c34, .slice a36 y18.heap.arena.length c37, .int .i64 y18.heap.gc.phase, .int .i64 y18.heap.gc.pos, .int .i64 y18.heap.gc.round, .slice a39 y18.heap.gc.grey.length c40, .slice a42 y18.taps.length c43, .int .i64 y18.next, .int .i64 y18.want, .int .i64 y18.spent.pages, .int .i64 y18.spent.rent, .int .i64 y18.spent.cpu, .int .i64 y18.press, .int .i64 y18.lost], sl s15a0 s15c0 s15.1, bx g3 35 [.slice a1_0 x1.levels.length c1_0]]) [0, 1, 2, 3, 4, 5, 6, 7, 8] rfl rfl
        replace h := obind h
        obtain ⟨y65, hy65, h⟩ := h
        refine LW.app1 (M := [sl a52 c53 y51.label.levels, sl a54 c55 y51.own, sl a56 c57 y51.tree, sl a58 c59 y51.heap.arena, sl a60 c61 y51.heap.gc.grey, sl a62 c63 y51.taps]) (L := [bx g45 75 [.slice a27 y18.label.levels.length c28, .slice a30 y18.own.length c31, .slice a33 y18.tree.length c34, .slice a36 y18.heap.arena.length c37, .int .i64 y18.heap.gc.phase, .int .i64 y18.heap.gc.pos, .int .i64 y18.heap.gc.round, .slice a39 y18.heap.gc.grey.length c40, .slice a42 y18.taps.length c43, .int .i64 y18.next, .int .i64 y18.want, .int .i64 y18.spent.pages, .int .i64 y18.spent.rent, .int .i64 y18.spent.cpu, .int .i64 y18.press, .int .i64 y18.lost], sl s15a0 s15c0 s15.1, bx g3 35 [.slice a1_0 x1.levels.length c1_0]]) (vs := #[.slice a52 y51.label.levels.length c53, .slice a54 y51.own.length c55, .slice a56 y51.tree.length c57, .slice a58 y51.heap.arena.length c59, .int .i64 y51.heap.gc.phase, .int .i64 y51.heap.gc.pos, .int .i64 y51.heap.gc.round, .slice a60 y51.heap.gc.grey.length c61, .slice a62 y51.taps.length c63, .int .i64 y51.next, .int .i64 y51.want, .int .i64 y51.spent.pages, .int .i64 y51.spent.rent, .int .i64 y51.spent.cpu, .int .i64 y51.press, .int .i64 y51.lost]) (i := 1) sT49 rfl (by kernel_rfl) rfl rfl hy65 hS10 rfl (fun w G hG => ⟨a52, c53, a54, c55, a56, c57, a58, c59, a60, c61, a62, c63, rfl, hG⟩) rfl rfl ?_
        intro v68 a66 c67 w69 hS11 hf
        refine LW.p rfl rfl ?_
        refine LW.nil ?_
        show CW _ _ _ _ _ _
        refine CW.fresh (l := [(3, .pointer (some ⟨g3, 0, none⟩)), (5, .slice a66 y65.length c67), (15, .slice (some ⟨b21, o22, none⟩) y8.length c10), (16, .int .i64 (y8.length : Int)), (17, .int .i64 s15.2)]) ⟨rfl, rfl, rfl, rfl, rfl, trivial⟩ (fun e => ?_)
        refine CW.region ?_
        iterate 2 refine LW.p rfl rfl ?_
        refine LW.nil ?_
        replace h := Option.some.inj h
        subst h
        exact ⟨rfl, ⟨a66, c67, ⟨rfl, rfl, rfl, rfl, rfl, trivial⟩, hS11.pick [1, 2] rfl rfl⟩⟩
      replace h := bcF h hc50
      refine CW.skip ?_
      show CW _ _ _ _ _ _
      refine CW.region ?_
      iterate 2 refine LW.p rfl rfl ?_
      refine LW.nil ?_
      replace h := Option.some.inj h
      subst h
      exact ⟨rfl, ⟨s15a0, s15c0, ⟨rfl, rfl, rfl, rfl, rfl, trivial⟩, hS8.pick [1, 2] rfl rfl⟩⟩
    replace h := bcF h hc17
    refine CW.exit ?_
    replace h := Option.some.inj h
    subst h
    exact ⟨trivial, rfl, ⟨s15a0, s15c0, ⟨rfl, trivial⟩, hS5.pick [0, 1] rfl rfl⟩⟩
  intro x e w72 hM
  obtain ⟨rfl, hM⟩ := hM
  obtain ⟨s15a0, s15c0, hE, hS12⟩ := hM
  obtain ⟨e, rfl⟩ := hE.out
  have h := h71
  show CW _ _ _ _ _ _
  refine CW.seq ?_
  refine CW.region ?_
  iterate 2 refine LW.p rfl rfl ?_
  refine LW.nil ?_
  show CW _ _ _ _ _ _
  refine CW.ret ?_
  cases h
  exact And.intro trivial ⟨_, Res.one (resOne.t rfl), s15a0, s15c0, rfl, hS12.pick [0] rfl rfl⟩

theorem W_l_markPartS {w0 : World} {F : List Nat} {N : Nat} {x0 : List DPart} {x1 : Int} {r : Int × (List DPart)} (h : F_l_markPartS N x0 x1 = some r) {a0_0 : Option Addr} {n0_0 c0_0 : Nat} (hn0_0 : n0_0 = x0.length) (hS : St w0 F w0 [sl a0_0 c0_0 x0]) :
    Ret Try.prog 44 #[.slice a0_0 n0_0 c0_0, .int .i64 x1] w0 (fun v w => v = .int .i64 r.1 ∧ St w0 F w [sl a0_0 c0_0 r.2]) := by
  subst hn0_0
  unfold F_l_markPartS at h
  refine Ret.of Try.func44 rfl rfl rfl ?_
  refine CW.seq ?_
  refine CW.region ?_
  refine LW.p rfl rfl ?_
  refine LW.nil ?_
  show CW _ _ _ _ _ _
  refine CW.seq ?_
  refine CW.seq ?_
  refine CW.region ?_
  refine LW.p rfl rfl ?_
  refine LW.nil ?_
  show CW _ _ _ _ _ _
  refine CW.block ?_
  obtain ⟨o105, ho105, h106⟩ := obind h
  refine CW.mono (CW.iter (σ := (List DPart) × Int × Int) (ρ := (List DPart) × Int × Int) (fun s1 e wb => En e [(0, .slice a0_0 s1.1.length c0_0), (1, .int .i64 s1.2.1), (5, .int .i64 s1.2.2)] ∧ St w0 F wb [sl a0_0 c0_0 s1.1]) (fun s1 x e wb => x = .exit 0 ∧ En e [(1, .int .i64 s1.2.1)] ∧ St w0 F wb [sl a0_0 c0_0 s1.1]) ?_ N (x0, x1, 0) _ _ _ ⟨⟨rfl, rfl, rfl, trivial⟩, hS.pick [0] rfl rfl⟩ ho105) ?_
  · intro s1 e w2 o hM h
    obtain ⟨hE, hS1⟩ := hM
    obtain ⟨e, rfl⟩ := hE.out
    refine CW.seq ?_
    refine CW.seq ?_
    refine CW.region ?_
    iterate 2 refine LW.p rfl rfl ?_
    refine LW.u (Pur.len Try.underlying49 rfl) rfl ?_
    refine LW.p rfl rfl ?_
    refine LW.nil ?_
    show CW _ _ _ _ _ _
    refine CW.cond rfl (fun hc3 => ?_) (fun hc3 => ?_)
    · replace h := bcT h hc3
      refine CW.skip ?_
      show CW _ _ _ _ _ _
      refine CW.seq ?_
      refine CW.block ?_
      refine CW.seq ?_
      refine CW.region ?_
      iterate 2 refine LW.p rfl rfl ?_
      replace h := obind h
      obtain ⟨y4, hy4, h⟩ := h
      obtain ⟨b7, o8, hae, hp5, hq6⟩ := hS1.ownIdx (α := DPart) (i := 0) rfl hy4
      subst hae
      refine LW.u (Pur.ix Try.underlying49 sz75 rfl rfl hp5 hq6) rfl ?_
      refine LW.u (Pur.fa fo75_0 rfl) rfl ?_
      refine LW.u (Pur.fa fo35_0 rfl) rfl ?_
      obtain ⟨F9, ho10, hS2⟩ := hS1.freeze (α := DPart) 0 rfl
      obtain ⟨b11, o12, cs13, hae, hb16, _, _, hd14, hk15⟩ := ho10.rdF.idx hy4
      cases hae
      obtain ⟨a17, c18, a20, c21, a23, c24, a26, c27, a29, c30, a32, c33, rfl, hr19, hr22, hr25, hr28, hr31, hr34⟩ := hd14
      refine LW.l (Ldr.old w2 ag24 rfl (hk15 0 _ rfl)) (hS2.zC 0 rfl hb16) rfl ?_
      refine LW.p rfl rfl ?_
      replace h := obind h
      obtain ⟨y35, hy35, h⟩ := h
      obtain ⟨q56, hy35', hq57⟩ := obind hy35
      obtain ⟨hl58, hq57⟩ := keepL_some hq57
      rw [Option.some.inj hq57] at hy35' hl58
      have hn36 := fun (j : Nat) (u : Value) (hu : ([.slice a17 y4.label.levels.length c18, .slice a20 y4.own.length c21, .slice a23 y4.tree.length c24, .slice a26 y4.heap.arena.length c27, .int .i64 y4.heap.gc.phase, .int .i64 y4.heap.gc.pos, .int .i64 y4.heap.gc.round, .slice a29 y4.heap.gc.grey.length c30, .slice a32 y4.taps.length c33, .int .i64 y4.next, .int .i64 y4.want, .int .i64 y4.spent.pages, .int .i64 y4.spent.rent, .int .i64 y4.spent.cpu, .int .i64 y4.press, .int .i64 y4.lost] : List Value)[j]? = some u) => (World.cell?_of_block (hS2.zC 0 rfl hb16)).trans (hk15 j u hu)
      have hS3 := hS2.thaw (α := DPart) 0 rfl ho10
      obtain ⟨Fx37, ho38, hf39⟩ := hS3.focus (α := DPart) (cs := [.slice a17 y4.label.levels.length c18, .slice a20 y4.own.length c21, .slice a23 y4.tree.length c24, .slice a26 y4.heap.arena.length c27, .int .i64 y4.heap.gc.phase, .int .i64 y4.heap.gc.pos, .int .i64 y4.heap.gc.round, .slice a29 y4.heap.gc.grey.length c30, .slice a32 y4.taps.length c33, .int .i64 y4.next, .int .i64 y4.want, .int .i64 y4.spent.pages, .int .i64 y4.spent.rent, .int .i64 y4.spent.cpu, .int .i64 y4.press, .int .i64 y4.lost]) 0 rfl hy4 rfl hn36
      obtain ⟨a42, c43, a44, c45, a46, c47, a48, c49, a50, c51, a52, c53, hc40, hH41⟩ := ho38
      cases hc40
      have hS4 := hf39 [sl a17 c18 y4.label.levels, sl a20 c21 y4.own, sl a23 c24 y4.tree, sl a26 c27 y4.heap.arena, sl a29 c30 y4.heap.gc.grey, sl a32 c33 y4.taps] hH41
      have hS5 := hS4.pick (M := [sl a17 c18 y4.label.levels] ++ [sl a20 c21 y4.own, sl a23 c24 y4.tree, sl a26 c27 y4.heap.arena, sl a29 c30 y4.heap.gc.grey, sl a32 c33 y4.taps, hole DPart (some ⟨b7, o8, none⟩) c0_0 s1.1 (s1.2.2 : Int).toNat [.slice a17 y4.label.levels.length c18, .slice a20 y4.own.length c21, .slice a23 y4.tree.length c24, .slice a26 y4.heap.arena.length c27, .int .i64 y4.heap.gc.phase, .int .i64 y4.heap.gc.pos, .int .i64 y4.heap.gc.round, .slice a29 y4.heap.gc.grey.length c30, .slice a32 y4.taps.length c33, .int .i64 y4.next, .int .i64 y4.want, .int .i64 y4.spent.pages, .int .i64 y4.spent.rent, .int .i64 y4.spent.cpu, .int .i64 y4.press, .int .i64 y4.lost]]) [0, 1, 2, 3, 4, 5, 6] rfl rfl
      obtain ⟨F54, hL55⟩ := St.lend (L := [sl a17 c18 y4.label.levels]) (M := [sl a20 c21 y4.own, sl a23 c24 y4.tree, sl a26 c27 y4.heap.arena, sl a29 c30 y4.heap.gc.grey, sl a32 c33 y4.taps, hole DPart (some ⟨b7, o8, none⟩) c0_0 s1.1 (s1.2.2 : Int).toNat [.slice a17 y4.label.levels.length c18, .slice a20 y4.own.length c21, .slice a23 y4.tree.length c24, .slice a26 y4.heap.arena.length c27, .int .i64 y4.heap.gc.phase, .int .i64 y4.heap.gc.pos, .int .i64 y4.heap.gc.round, .slice a29 y4.heap.gc.grey.length c30, .slice a32 y4.taps.length c33, .int .i64 y4.next, .int .i64 y4.want, .int .i64 y4.spent.pages, .int .i64 y4.spent.rent, .int .i64 y4.spent.cpu, .int .i64 y4.press, .int .i64 y4.lost]]) hS5
      have q := W_l_markIntS (w0 := w2) hy35' rfl hL55.st
      refine LW.call pl61 rfl rfl ?_
      refine Ret.mono q ?_
      rintro _ w59 ⟨rfl, hs⟩
      have hS6 := hL55.back _ _ hs
      refine LW.p rfl rfl ?_
      refine LW.nil ?_
      show CW _ _ _ _ _ _
      refine CW.fresh (l := [(0, .slice (some ⟨b7, o8, none⟩) s1.1.length c0_0), (1, .int .i64 y35.1), (5, .int .i64 s1.2.2)]) ⟨rfl, rfl, rfl, trivial⟩ (fun e => ?_)
      refine CW.seq ?_
      refine CW.region ?_
      iterate 2 refine LW.p rfl rfl ?_
      refine LW.u (Pur.ix Try.underlying49 sz75 rfl rfl hp5 hq6) rfl ?_
      refine LW.u (Pur.fa fo75_1 rfl) rfl ?_
      refine LW.l (Ldr.old w59 ag24 rfl (hS6.holeC 6 rfl (j := 1) rfl)) rfl rfl ?_
      refine LW.p rfl rfl ?_
      replace h := obind h
      obtain ⟨y60, hy60, h⟩ := h
      obtain ⟨q63, hy60', hq64⟩ := obind hy60
      obtain ⟨hl65, hq64⟩ := keepL_some hq64
      rw [Option.some.inj hq64] at hy60' hl65
      rw [show y4.label.levels.length = y35.2.length from hl58] at hS6
      have hS7 := hS6.pick (M := [sl a20 c21 y4.own] ++ [sl a17 c18 y35.2, sl a23 c24 y4.tree, sl a26 c27 y4.heap.arena, sl a29 c30 y4.heap.gc.grey, sl a32 c33 y4.taps, hole DPart (some ⟨b7, o8, none⟩) c0_0 s1.1 (s1.2.2 : Int).toNat [.slice a17 y35.2.length c18, .slice a20 y4.own.length c21, .slice a23 y4.tree.length c24, .slice a26 y4.heap.arena.length c27, .int .i64 y4.heap.gc.phase, .int .i64 y4.heap.gc.pos, .int .i64 y4.heap.gc.round, .slice a29 y4.heap.gc.grey.length c30, .slice a32 y4.taps.length c33, .int .i64 y4.next, .int .i64 y4.want, .int .i64 y4.spent.pages, .int .i64 y4.spent.rent, .int .i64 y4.spent.cpu, .int .i64 y4.press, .int .i64 y4.lost]]) [1, 0, 2, 3, 4, 5, 6] rfl rfl
      obtain ⟨F61, hL62⟩ := St.lend (L := [sl a20 c21 y4.own]) (M := [sl a17 c18 y35.2, sl a23 c24 y4.tree, sl a26 c27 y4.heap.arena, sl a29 c30 y4.heap.gc.grey, sl a32 c33 y4.taps, hole DPart (some ⟨b7, o8, none⟩) c0_0 s1.1 (s1.2.2 : Int).toNat [.slice a17 y35.2.length c18, .slice a20 y4.own.length c21, .slice a23 y4.tree.length c24, .slice a26 y4.heap.arena.length c27, .int .i64 y4.heap.gc.phase, .int .i64 y4.heap.gc.pos, .int .i64 y4.heap.gc.round, .slice a29 y4.heap.gc.grey.length c30, .slice a32 y4.taps.length c33, .int .i64 y4.next, .int .i64 y4.want, .int .i64 y4.spent.pages, .int .i64 y4.spent.rent, .int .i64 y4.spent.cpu, .int .i64 y4.press, .int .i64 y4.lost]]) hS7
      have q := W_l_markIntS (w0 := w59) hy60' rfl hL62.st
      refine LW.call pl61 rfl rfl ?_
      refine Ret.mono q ?_
      rintro _ w66 ⟨rfl, hs⟩
      have hS8 := hL62.back _ _ hs
      refine LW.p rfl rfl ?_
      refine LW.nil ?_
      show CW _ _ _ _ _ _
      refine CW.seq ?_
      refine CW.region ?_
      iterate 2 refine LW.p rfl rfl ?_
      refine LW.u (Pur.ix Try.underlying49 sz75 rfl rfl hp5 hq6) rfl ?_
      refine LW.u (Pur.fa fo75_2 rfl) rfl ?_
      refine LW.l (Ldr.old w66 ag67 rfl (hS8.holeC 6 rfl (j := 2) rfl)) rfl rfl ?_
      refine LW.p rfl rfl ?_
      replace h := obind h
      obtain ⟨y67, hy67, h⟩ := h
      obtain ⟨q70, hy67', hq71⟩ := obind hy67
      obtain ⟨hl72, hq71⟩ := keepL_some hq71
      rw [Option.some.inj hq71] at hy67' hl72
      rw [show y4.own.length = y60.2.length from hl65] at hS8
      have hS9 := hS8.pick (M := [sl a23 c24 y4.tree] ++ [sl a20 c21 y60.2, sl a17 c18 y35.2, sl a26 c27 y4.heap.arena, sl a29 c30 y4.heap.gc.grey, sl a32 c33 y4.taps, hole DPart (some ⟨b7, o8, none⟩) c0_0 s1.1 (s1.2.2 : Int).toNat [.slice a17 y35.2.length c18, .slice a20 y60.2.length c21, .slice a23 y4.tree.length c24, .slice a26 y4.heap.arena.length c27, .int .i64 y4.heap.gc.phase, .int .i64 y4.heap.gc.pos, .int .i64 y4.heap.gc.round, .slice a29 y4.heap.gc.grey.length c30, .slice a32 y4.taps.length c33, .int .i64 y4.next, .int .i64 y4.want, .int .i64 y4.spent.pages, .int .i64 y4.spent.rent, .int .i64 y4.spent.cpu, .int .i64 y4.press, .int .i64 y4.lost]]) [2, 0, 1, 3, 4, 5, 6] rfl rfl
      obtain ⟨F68, hL69⟩ := St.lend (L := [sl a23 c24 y4.tree]) (M := [sl a20 c21 y60.2, sl a17 c18 y35.2, sl a26 c27 y4.heap.arena, sl a29 c30 y4.heap.gc.grey, sl a32 c33 y4.taps, hole DPart (some ⟨b7, o8, none⟩) c0_0 s1.1 (s1.2.2 : Int).toNat [.slice a17 y35.2.length c18, .slice a20 y60.2.length c21, .slice a23 y4.tree.length c24, .slice a26 y4.heap.arena.length c27, .int .i64 y4.heap.gc.phase, .int .i64 y4.heap.gc.pos, .int .i64 y4.heap.gc.round, .slice a29 y4.heap.gc.grey.length c30, .slice a32 y4.taps.length c33, .int .i64 y4.next, .int .i64 y4.want, .int .i64 y4.spent.pages, .int .i64 y4.spent.rent, .int .i64 y4.spent.cpu, .int .i64 y4.press, .int .i64 y4.lost]]) hS9
      have q := W_l_markResS (w0 := w66) hy67' rfl hL69.st
      refine LW.call pl95 rfl rfl ?_
      refine Ret.mono q ?_
      rintro _ w73 ⟨rfl, hs⟩
      have hS10 := hL69.back _ _ hs
      refine LW.p rfl rfl ?_
      refine LW.nil ?_
      show CW _ _ _ _ _ _
      refine CW.fresh (l := [(0, .slice (some ⟨b7, o8, none⟩) s1.1.length c0_0), (1, .int .i64 y67.1), (5, .int .i64 s1.2.2)]) ⟨rfl, rfl, rfl, trivial⟩ (fun e => ?_)
      refine CW.seq ?_
      refine CW.region ?_
      iterate 2 refine LW.p rfl rfl ?_
      refine LW.u (Pur.ix Try.underlying49 sz75 rfl rfl hp5 hq6) rfl ?_
      refine LW.u (Pur.fa fo75_3 rfl) rfl ?_
      refine LW.u (Pur.fa fo71_0 rfl) rfl ?_
      refine LW.l (Ldr.old w73 ag68 rfl (hS10.holeC 6 rfl (j := 3) rfl)) rfl rfl ?_
      refine LW.p rfl rfl ?_
      replace h := obind h
      obtain ⟨y74, hy74, h⟩ := h
      obtain ⟨q77, hy74', hq78⟩ := obind hy74
      obtain ⟨hl79, hq78⟩ := keepL_some hq78
      rw [Option.some.inj hq78] at hy74' hl79
      rw [show y4.tree.length = y67.2.length from hl72] at hS10
      have hS11 := hS10.pick (M := [sl a26 c27 y4.heap.arena] ++ [sl a23 c24 y67.2, sl a20 c21 y60.2, sl a17 c18 y35.2, sl a29 c30 y4.heap.gc.grey, sl a32 c33 y4.taps, hole DPart (some ⟨b7, o8, none⟩) c0_0 s1.1 (s1.2.2 : Int).toNat [.slice a17 y35.2.length c18, .slice a20 y60.2.length c21, .slice a23 y67.2.length c24, .slice a26 y4.heap.arena.length c27, .int .i64 y4.heap.gc.phase, .int .i64 y4.heap.gc.pos, .int .i64 y4.heap.gc.round, .slice a29 y4.heap.gc.grey.length c30, .slice a32 y4.taps.length c33, .int .i64 y4.next, .int .i64 y4.want, .int .i64 y4.spent.pages, .int .i64 y4.spent.rent, .int .i64 y4.spent.cpu, .int .i64 y4.press, .int .i64 y4.lost]]) [3, 0, 1, 2, 4, 5, 6] rfl rfl
      obtain ⟨F75, hL76⟩ := St.lend (L := [sl a26 c27 y4.heap.arena]) (M := [sl a23 c24 y67.2, sl a20 c21 y60.2, sl a17 c18 y35.2, sl a29 c30 y4.heap.gc.grey, sl a32 c33 y4.taps, hole DPart (some ⟨b7, o8, none⟩) c0_0 s1.1 (s1.2.2 : Int).toNat [.slice a17 y35.2.length c18, .slice a20 y60.2.length c21, .slice a23 y67.2.length c24, .slice a26 y4.heap.arena.length c27, .int .i64 y4.heap.gc.phase, .int .i64 y4.heap.gc.pos, .int .i64 y4.heap.gc.round, .slice a29 y4.heap.gc.grey.length c30, .slice a32 y4.taps.length c33, .int .i64 y4.next, .int .i64 y4.want, .int .i64 y4.spent.pages, .int .i64 y4.spent.rent, .int .i64 y4.spent.cpu, .int .i64 y4.press, .int .i64 y4.lost]]) hS11
      have q := W_l_markObjS (w0 := w73) hy74' rfl hL76.st
      refine LW.call pl96 rfl rfl ?_
      refine Ret.mono q ?_
      rintro _ w80 ⟨rfl, hs⟩
      have hS12 := hL76.back _ _ hs
      refine LW.p rfl rfl ?_
      refine LW.nil ?_
      show CW _ _ _ _ _ _
      refine CW.seq ?_
      refine CW.region ?_
      iterate 3 refine LW.p rfl rfl ?_
      refine LW.u (Pur.ix Try.underlying49 sz75 rfl rfl hp5 hq6) rfl ?_
      refine LW.u (Pur.fa fo75_3 rfl) rfl ?_
      refine LW.u (Pur.fa fo71_1 rfl) rfl ?_
      refine LW.u (Pur.fa fo69_0 rfl) rfl ?_
      refine LW.sth (α := DPart) (vs := [.int .i64 y74.1]) hS12 6 rfl ag3 rfl (by show _ = o8 + (s1.2.2 : Int).toNat * 16 + 4; omega) rfl rfl rfl rfl ?_
      intro w81 hS13 hf
      refine LW.nil ?_
      show CW _ _ _ _ _ _
      refine CW.fresh (l := [(0, .slice (some ⟨b7, o8, none⟩) s1.1.length c0_0), (1, .int .i64 y74.1), (5, .int .i64 s1.2.2)]) ⟨rfl, rfl, rfl, trivial⟩ (fun e => ?_)
      refine CW.seq ?_
      refine CW.region ?_
      iterate 3 refine LW.p rfl rfl ?_
      refine LW.nil ?_
      show CW _ _ _ _ _ _
      refine CW.seq ?_
      refine CW.region ?_
      iterate 3 refine LW.p rfl rfl ?_
      refine LW.u (Pur.ix Try.underlying49 sz75 rfl rfl hp5 hq6) rfl ?_
      refine LW.u (Pur.fa fo75_3 rfl) rfl ?_
      refine LW.u (Pur.fa fo71_1 rfl) rfl ?_
      refine LW.u (Pur.fa fo69_1 rfl) rfl ?_
      refine LW.sth (α := DPart) (vs := [.int .i64 (IntKind.i64.wrap (y74.1 + 1))]) hS13 6 rfl ag3 rfl (by show _ = o8 + (s1.2.2 : Int).toNat * 16 + 5; omega) rfl rfl rfl rfl ?_
      intro w82 hS14 hf
      refine LW.nil ?_
      show CW _ _ _ _ _ _
      refine CW.seq ?_
      refine CW.region ?_
      iterate 3 refine LW.p rfl rfl ?_
      refine LW.nil ?_
      show CW _ _ _ _ _ _
      refine CW.fresh (l := [(0, .slice (some ⟨b7, o8, none⟩) s1.1.length c0_0), (1, .int .i64 (IntKind.i64.wrap ((IntKind.i64.wrap (y74.1 + 1)) + 1))), (5, .int .i64 s1.2.2)]) ⟨rfl, rfl, rfl, trivial⟩ (fun e => ?_)
      refine CW.seq ?_
      refine CW.region ?_
      iterate 3 refine LW.p rfl rfl ?_
      refine LW.u (Pur.ix Try.underlying49 sz75 rfl rfl hp5 hq6) rfl ?_
      refine LW.u (Pur.fa fo75_3 rfl) rfl ?_
      refine LW.u (Pur.fa fo71_1 rfl) rfl ?_
      refine LW.u (Pur.fa fo69_2 rfl) rfl ?_
      refine LW.sth (α := DPart) (vs := [.int .i64 (IntKind.i64.wrap ((IntKind.i64.wrap (y74.1 + 1)) + 1))]) hS14 6 rfl ag3 rfl (by show _ = o8 + (s1.2.2 : Int).toNat * 16 + 6; omega) rfl rfl rfl rfl ?_
      intro w83 hS15 hf
      refine LW.nil ?_
      show CW _ _ _ _ _ _
      refine CW.seq ?_
      refine CW.region ?_
      iterate 3 refine LW.p rfl rfl ?_
      refine LW.nil ?_
      show CW _ _ _ _ _ _
      refine CW.seq ?_
      refine CW.region ?_
      iterate 2 refine LW.p rfl rfl ?_
      refine LW.u (Pur.ix Try.underlying49 sz75 rfl rfl hp5 hq6) rfl ?_
      refine LW.u (Pur.fa fo75_3 rfl) rfl ?_
      refine LW.u (Pur.fa fo71_1 rfl) rfl ?_
      refine LW.u (Pur.fa fo69_3 rfl) rfl ?_
      refine LW.l (Ldr.old w83 ag24 rfl (hS15.holeC 6 rfl (j := 7) rfl)) rfl rfl ?_
      refine LW.p rfl rfl ?_
      replace h := obind h
      obtain ⟨y84, hy84, h⟩ := h
      obtain ⟨q87, hy84', hq88⟩ := obind hy84
      obtain ⟨hl89, hq88⟩ := keepL_some hq88
      rw [Option.some.inj hq88] at hy84' hl89
      rw [show y4.heap.arena.length = y74.2.length from hl79] at hS15
      have hS16 := hS15.pick (M := [sl a29 c30 y4.heap.gc.grey] ++ [sl a26 c27 y74.2, sl a23 c24 y67.2, sl a20 c21 y60.2, sl a17 c18 y35.2, sl a32 c33 y4.taps, hole DPart (some ⟨b7, o8, none⟩) c0_0 s1.1 (s1.2.2 : Int).toNat [.slice a17 y35.2.length c18, .slice a20 y60.2.length c21, .slice a23 y67.2.length c24, .slice a26 y74.2.length c27, .int .i64 y74.1, .int .i64 (IntKind.i64.wrap (y74.1 + 1)), .int .i64 (IntKind.i64.wrap ((IntKind.i64.wrap (y74.1 + 1)) + 1)), .slice a29 y4.heap.gc.grey.length c30, .slice a32 y4.taps.length c33, .int .i64 y4.next, .int .i64 y4.want, .int .i64 y4.spent.pages, .int .i64 y4.spent.rent, .int .i64 y4.spent.cpu, .int .i64 y4.press, .int .i64 y4.lost]]) [4, 0, 1, 2, 3, 5, 6] rfl rfl
      obtain ⟨F85, hL86⟩ := St.lend (L := [sl a29 c30 y4.heap.gc.grey]) (M := [sl a26 c27 y74.2, sl a23 c24 y67.2, sl a20 c21 y60.2, sl a17 c18 y35.2, sl a32 c33 y4.taps, hole DPart (some ⟨b7, o8, none⟩) c0_0 s1.1 (s1.2.2 : Int).toNat [.slice a17 y35.2.length c18, .slice a20 y60.2.length c21, .slice a23 y67.2.length c24, .slice a26 y74.2.length c27, .int .i64 y74.1, .int .i64 (IntKind.i64.wrap (y74.1 + 1)), .int .i64 (IntKind.i64.wrap ((IntKind.i64.wrap (y74.1 + 1)) + 1)), .slice a29 y4.heap.gc.grey.length c30, .slice a32 y4.taps.length c33, .int .i64 y4.next, .int .i64 y4.want, .int .i64 y4.spent.pages, .int .i64 y4.spent.rent, .int .i64 y4.spent.cpu, .int .i64 y4.press, .int .i64 y4.lost]]) hS16
      have q := W_l_markIntS (w0 := w83) hy84' rfl hL86.st
      refine LW.call pl61 rfl rfl ?_
      refine Ret.mono q ?_
      rintro _ w90 ⟨rfl, hs⟩
      have hS17 := hL86.back _ _ hs
      refine LW.p rfl rfl ?_
      refine LW.nil ?_
      show CW _ _ _ _ _ _
      refine CW.fresh (l := [(0, .slice (some ⟨b7, o8, none⟩) s1.1.length c0_0), (1, .int .i64 y84.1), (5, .int .i64 s1.2.2)]) ⟨rfl, rfl, rfl, trivial⟩ (fun e => ?_)
      refine CW.seq ?_
      refine CW.region ?_
      iterate 2 refine LW.p rfl rfl ?_
      refine LW.u (Pur.ix Try.underlying49 sz75 rfl rfl hp5 hq6) rfl ?_
      refine LW.u (Pur.fa fo75_4 rfl) rfl ?_
      refine LW.l (Ldr.old w90 ag72 rfl (hS17.holeC 6 rfl (j := 8) rfl)) rfl rfl ?_
      refine LW.p rfl rfl ?_
      replace h := obind h
      obtain ⟨y91, hy91, h⟩ := h
      obtain ⟨q94, hy91', hq95⟩ := obind hy91
      obtain ⟨hl96, hq95⟩ := keepL_some hq95
      rw [Option.some.inj hq95] at hy91' hl96
      rw [show y4.heap.gc.grey.length = y84.2.length from hl89] at hS17
      have hS18 := hS17.pick (M := [sl a32 c33 y4.taps] ++ [sl a29 c30 y84.2, sl a26 c27 y74.2, sl a23 c24 y67.2, sl a20 c21 y60.2, sl a17 c18 y35.2, hole DPart (some ⟨b7, o8, none⟩) c0_0 s1.1 (s1.2.2 : Int).toNat [.slice a17 y35.2.length c18, .slice a20 y60.2.length c21, .slice a23 y67.2.length c24, .slice a26 y74.2.length c27, .int .i64 y74.1, .int .i64 (IntKind.i64.wrap (y74.1 + 1)), .int .i64 (IntKind.i64.wrap ((IntKind.i64.wrap (y74.1 + 1)) + 1)), .slice a29 y84.2.length c30, .slice a32 y4.taps.length c33, .int .i64 y4.next, .int .i64 y4.want, .int .i64 y4.spent.pages, .int .i64 y4.spent.rent, .int .i64 y4.spent.cpu, .int .i64 y4.press, .int .i64 y4.lost]]) [5, 0, 1, 2, 3, 4, 6] rfl rfl
      obtain ⟨F92, hL93⟩ := St.lend (L := [sl a32 c33 y4.taps]) (M := [sl a29 c30 y84.2, sl a26 c27 y74.2, sl a23 c24 y67.2, sl a20 c21 y60.2, sl a17 c18 y35.2, hole DPart (some ⟨b7, o8, none⟩) c0_0 s1.1 (s1.2.2 : Int).toNat [.slice a17 y35.2.length c18, .slice a20 y60.2.length c21, .slice a23 y67.2.length c24, .slice a26 y74.2.length c27, .int .i64 y74.1, .int .i64 (IntKind.i64.wrap (y74.1 + 1)), .int .i64 (IntKind.i64.wrap ((IntKind.i64.wrap (y74.1 + 1)) + 1)), .slice a29 y84.2.length c30, .slice a32 y4.taps.length c33, .int .i64 y4.next, .int .i64 y4.want, .int .i64 y4.spent.pages, .int .i64 y4.spent.rent, .int .i64 y4.spent.cpu, .int .i64 y4.press, .int .i64 y4.lost]]) hS18
      have q := W_l_markTapS (w0 := w90) hy91' rfl hL93.st
      refine LW.call pl97 rfl rfl ?_
      refine Ret.mono q ?_
      rintro _ w97 ⟨rfl, hs⟩
      have hS19 := hL93.back _ _ hs
      refine LW.p rfl rfl ?_
      refine LW.nil ?_
      show CW _ _ _ _ _ _
      refine CW.seq ?_
      refine CW.region ?_
      iterate 3 refine LW.p rfl rfl ?_
      refine LW.u (Pur.ix Try.underlying49 sz75 rfl rfl hp5 hq6) rfl ?_
      refine LW.u (Pur.fa fo75_5 rfl) rfl ?_
      refine LW.sth (α := DPart) (vs := [.int .i64 y91.1]) hS19 6 rfl ag3 rfl (by show _ = o8 + (s1.2.2 : Int).toNat * 16 + 9; omega) rfl rfl rfl rfl ?_
      intro w98 hS20 hf
      refine LW.nil ?_
      show CW _ _ _ _ _ _
      refine CW.fresh (l := [(0, .slice (some ⟨b7, o8, none⟩) s1.1.length c0_0), (1, .int .i64 y91.1), (5, .int .i64 s1.2.2)]) ⟨rfl, rfl, rfl, trivial⟩ (fun e => ?_)
      refine CW.seq ?_
      refine CW.region ?_
      iterate 3 refine LW.p rfl rfl ?_
      refine LW.nil ?_
      show CW _ _ _ _ _ _
      refine CW.seq ?_
      refine CW.region ?_
      iterate 3 refine LW.p rfl rfl ?_
      refine LW.u (Pur.ix Try.underlying49 sz75 rfl rfl hp5 hq6) rfl ?_
      refine LW.u (Pur.fa fo75_6 rfl) rfl ?_
      refine LW.sth (α := DPart) (vs := [.int .i64 (IntKind.i64.wrap (y91.1 + 1))]) hS20 6 rfl ag3 rfl (by show _ = o8 + (s1.2.2 : Int).toNat * 16 + 10; omega) rfl rfl rfl rfl ?_
      intro w99 hS21 hf
      refine LW.nil ?_
      show CW _ _ _ _ _ _
      refine CW.seq ?_
      refine CW.region ?_
      iterate 3 refine LW.p rfl rfl ?_
      refine LW.nil ?_
      show CW _ _ _ _ _ _
      refine CW.seq ?_
      refine CW.region ?_
      iterate 3 refine LW.p rfl rfl ?_
      refine LW.u (Pur.ix Try.underlying49 sz75 rfl rfl hp5 hq6) rfl ?_
      refine LW.u (Pur.fa fo75_7 rfl) rfl ?_
      refine LW.u (Pur.fa fo73_0 rfl) rfl ?_
      refine LW.sth (α := DPart) (vs := [.int .i64 (IntKind.i64.wrap ((IntKind.i64.wrap (y91.1 + 1)) + 1))]) hS21 6 rfl ag3 rfl (by show _ = o8 + (s1.2.2 : Int).toNat * 16 + 11; omega) rfl rfl rfl rfl ?_
      intro w100 hS22 hf
      refine LW.nil ?_
      show CW _ _ _ _ _ _
      refine CW.fresh (l := [(0, .slice (some ⟨b7, o8, none⟩) s1.1.length c0_0), (1, .int .i64 (IntKind.i64.wrap ((IntKind.i64.wrap (y91.1 + 1)) + 1))), (5, .int .i64 s1.2.2)]) ⟨rfl, rfl, rfl, trivial⟩ (fun e => ?_)
      refine CW.seq ?_
      refine CW.region ?_
      iterate 3 refine LW.p rfl rfl ?_
      refine LW.nil ?_
      show CW _ _ _ _ _ _
      refine CW.seq ?_
      refine CW.region ?_
      iterate 3 refine LW.p rfl rfl ?_
      refine LW.u (Pur.ix Try.underlying49 sz75 rfl rfl hp5 hq6) rfl ?_
      refine LW.u (Pur.fa fo75_7 rfl) rfl ?_
      refine LW.u (Pur.fa fo73_1 rfl) rfl ?_
      refine LW.sth (α := DPart) (vs := [.int .i64 (IntKind.i64.wrap ((IntKind.i64.wrap ((IntKind.i64.wrap (y91.1 + 1)) + 1)) + 1))]) hS22 6 rfl ag3 rfl (by show _ = o8 + (s1.2.2 : Int).toNat * 16 + 12; omega) rfl rfl rfl rfl ?_
      intro w101 hS23 hf
      refine LW.nil ?_
      show CW _ _ _ _ _ _
      refine CW.seq ?_
      refine CW.region ?_
      iterate 3 refine LW.p rfl rfl ?_
      refine LW.nil ?_
      show CW _ _ _ _ _ _
      refine CW.fresh (l := [(0, .slice (some ⟨b7, o8, none⟩) s1.1.length c0_0), (1, .int .i64 (IntKind.i64.wrap ((IntKind.i64.wrap ((IntKind.i64.wrap ((IntKind.i64.wrap (y91.1 + 1)) + 1)) + 1)) + 1))), (5, .int .i64 s1.2.2)]) ⟨rfl, rfl, rfl, trivial⟩ (fun e => ?_)
      refine CW.seq ?_
      refine CW.region ?_
      iterate 3 refine LW.p rfl rfl ?_
      refine LW.u (Pur.ix Try.underlying49 sz75 rfl rfl hp5 hq6) rfl ?_
      refine LW.u (Pur.fa fo75_7 rfl) rfl ?_
      refine LW.u (Pur.fa fo73_2 rfl) rfl ?_
      refine LW.sth (α := DPart) (vs := [.int .i64 (IntKind.i64.wrap ((IntKind.i64.wrap ((IntKind.i64.wrap ((IntKind.i64.wrap (y91.1 + 1)) + 1)) + 1)) + 1))]) hS23 6 rfl ag3 rfl (by show _ = o8 + (s1.2.2 : Int).toNat * 16 + 13; omega) rfl rfl rfl rfl ?_
      intro w102 hS24 hf
      refine LW.nil ?_
      show CW _ _ _ _ _ _
      refine CW.seq ?_
      refine CW.region ?_
      iterate 3 refine LW.p rfl rfl ?_
      refine LW.nil ?_
      show CW _ _ _ _ _ _
      refine CW.seq ?_
      refine CW.region ?_
      iterate 3 refine LW.p rfl rfl ?_
      refine LW.u (Pur.ix Try.underlying49 sz75 rfl rfl hp5 hq6) rfl ?_
      refine LW.u (Pur.fa fo75_8 rfl) rfl ?_
      refine LW.sth (α := DPart) (vs := [.int .i64 (IntKind.i64.wrap ((IntKind.i64.wrap ((IntKind.i64.wrap ((IntKind.i64.wrap ((IntKind.i64.wrap (y91.1 + 1)) + 1)) + 1)) + 1)) + 1))]) hS24 6 rfl ag3 rfl (by show _ = o8 + (s1.2.2 : Int).toNat * 16 + 14; omega) rfl rfl rfl rfl ?_
      intro w103 hS25 hf
      refine LW.nil ?_
      show CW _ _ _ _ _ _
      refine CW.fresh (l := [(0, .slice (some ⟨b7, o8, none⟩) s1.1.length c0_0), (1, .int .i64 (IntKind.i64.wrap ((IntKind.i64.wrap ((IntKind.i64.wrap ((IntKind.i64.wrap ((IntKind.i64.wrap (y91.1 + 1)) + 1)) + 1)) + 1)) + 1))), (5, .int .i64 s1.2.2)]) ⟨rfl, rfl, rfl, trivial⟩ (fun e => ?_)
      refine CW.seq ?_
      refine CW.region ?_
      iterate 3 refine LW.p rfl rfl ?_
      refine LW.nil ?_
      show CW _ _ _ _ _ _
      refine CW.seq ?_
      refine CW.region ?_
      iterate 3 refine LW.p rfl rfl ?_
      refine LW.u (Pur.ix Try.underlying49 sz75 rfl rfl hp5 hq6) rfl ?_
      refine LW.u (Pur.fa fo75_9 rfl) rfl ?_
      refine LW.sth (α := DPart) (vs := [.int .i64 (IntKind.i64.wrap ((IntKind.i64.wrap ((IntKind.i64.wrap ((IntKind.i64.wrap ((IntKind.i64.wrap ((IntKind.i64.wrap (y91.1 + 1)) + 1)) + 1)) + 1)) + 1)) + 1))]) hS25 6 rfl ag3 rfl (by show _ = o8 + (s1.2.2 : Int).toNat * 16 + 15; omega) rfl rfl rfl rfl ?_
      intro w104 hS26 hf
      refine LW.nil ?_
      show CW _ _ _ _ _ _
      refine CW.region ?_
      iterate 3 refine LW.p rfl rfl ?_
      refine LW.nil ?_
      show CW _ _ _ _ _ _
      refine CW.region ?_
      iterate 3 refine LW.p rfl rfl ?_
      refine LW.nil ?_
      replace h := Option.some.inj h
      subst h
      rw [show y4.taps.length = y91.2.length from hl96] at hS26
      have hS27 := hS26.pick (M := [sl a17 c18 y35.2, sl a20 c21 y60.2, sl a23 c24 y67.2, sl a26 c27 y74.2, sl a29 c30 y84.2, sl a32 c33 y91.2] ++ [hole DPart (some ⟨b7, o8, none⟩) c0_0 s1.1 (s1.2.2 : Int).toNat [.slice a17 y35.2.length c18, .slice a20 y60.2.length c21, .slice a23 y67.2.length c24, .slice a26 y74.2.length c27, .int .i64 y74.1, .int .i64 (IntKind.i64.wrap (y74.1 + 1)), .int .i64 (IntKind.i64.wrap ((IntKind.i64.wrap (y74.1 + 1)) + 1)), .slice a29 y84.2.length c30, .slice a32 y91.2.length c33, .int .i64 y91.1, .int .i64 (IntKind.i64.wrap (y91.1 + 1)), .int .i64 (IntKind.i64.wrap ((IntKind.i64.wrap (y91.1 + 1)) + 1)), .int .i64 (IntKind.i64.wrap ((IntKind.i64.wrap ((IntKind.i64.wrap (y91.1 + 1)) + 1)) + 1)), .int .i64 (IntKind.i64.wrap ((IntKind.i64.wrap ((IntKind.i64.wrap ((IntKind.i64.wrap (y91.1 + 1)) + 1)) + 1)) + 1)), .int .i64 (IntKind.i64.wrap ((IntKind.i64.wrap ((IntKind.i64.wrap ((IntKind.i64.wrap ((IntKind.i64.wrap (y91.1 + 1)) + 1)) + 1)) + 1)) + 1)), .int .i64 (IntKind.i64.wrap ((IntKind.i64.wrap ((IntKind.i64.wrap ((IntKind.i64.wrap ((IntKind.i64.wrap ((IntKind.i64.wrap (y91.1 + 1)) + 1)) + 1)) + 1)) + 1)) + 1))]]) [5, 4, 3, 2, 1, 0, 6] rfl rfl
      have hS28 := hS27.unfocus (M := [sl a17 c18 y35.2, sl a20 c21 y60.2, sl a23 c24 y67.2, sl a26 c27 y74.2, sl a29 c30 y84.2, sl a32 c33 y91.2]) (L := [hole DPart (some ⟨b7, o8, none⟩) c0_0 s1.1 (s1.2.2 : Int).toNat [.slice a17 y35.2.length c18, .slice a20 y60.2.length c21, .slice a23 y67.2.length c24, .slice a26 y74.2.length c27, .int .i64 y74.1, .int .i64 (IntKind.i64.wrap (y74.1 + 1)), .int .i64 (IntKind.i64.wrap ((IntKind.i64.wrap (y74.1 + 1)) + 1)), .slice a29 y84.2.length c30, .slice a32 y91.2.length c33, .int .i64 y91.1, .int .i64 (IntKind.i64.wrap (y91.1 + 1)), .int .i64 (IntKind.i64.wrap ((IntKind.i64.wrap (y91.1 + 1)) + 1)), .int .i64 (IntKind.i64.wrap ((IntKind.i64.wrap ((IntKind.i64.wrap (y91.1 + 1)) + 1)) + 1)), .int .i64 (IntKind.i64.wrap ((IntKind.i64.wrap ((IntKind.i64.wrap ((IntKind.i64.wrap (y91.1 + 1)) + 1)) + 1)) + 1)), .int .i64 (IntKind.i64.wrap ((IntKind.i64.wrap ((IntKind.i64.wrap ((IntKind.i64.wrap ((IntKind.i64.wrap (y91.1 + 1)) + 1)) + 1)) + 1)) + 1)), .int .i64 (IntKind.i64.wrap ((IntKind.i64.wrap ((IntKind.i64.wrap ((IntKind.i64.wrap ((IntKind.i64.wrap ((IntKind.i64.wrap (y91.1 + 1)) + 1)) + 1)) + 1)) + 1)) + 1))]]) (y := (DPart.mk (DLabel.mk y35.2) y60.2 y67.2 (DHeap.mk y74.2 (DGc.mk y74.1 (IntKind.i64.wrap (y74.1 + 1)) (IntKind.i64.wrap ((IntKind.i64.wrap (y74.1 + 1)) + 1)) y84.2)) y91.2 y91.1 (IntKind.i64.wrap (y91.1 + 1)) (DAmt.mk (IntKind.i64.wrap ((IntKind.i64.wrap (y91.1 + 1)) + 1)) (IntKind.i64.wrap ((IntKind.i64.wrap ((IntKind.i64.wrap (y91.1 + 1)) + 1)) + 1)) (IntKind.i64.wrap ((IntKind.i64.wrap ((IntKind.i64.wrap ((IntKind.i64.wrap (y91.1 + 1)) + 1)) + 1)) + 1))) (IntKind.i64.wrap ((IntKind.i64.wrap ((IntKind.i64.wrap ((IntKind.i64.wrap ((IntKind.i64.wrap (y91.1 + 1)) + 1)) + 1)) + 1)) + 1)) (IntKind.i64.wrap ((IntKind.i64.wrap ((IntKind.i64.wrap ((IntKind.i64.wrap ((IntKind.i64.wrap ((IntKind.i64.wrap (y91.1 + 1)) + 1)) + 1)) + 1)) + 1)) + 1)))) 0 rfl (fun w G hG => ⟨a17, c18, a20, c21, a23, c24, a26, c27, a29, c30, a32, c33, rfl, hG⟩)
      exact ⟨rfl, ⟨⟨(show (.slice (some ⟨b7, o8, none⟩) s1.1.length c0_0 : Value) = .slice (some ⟨b7, o8, none⟩) ((s1.1.set (s1.2.2 : Int).toNat (DPart.mk (DLabel.mk y35.2) y60.2 y67.2 (DHeap.mk y74.2 (DGc.mk y74.1 (IntKind.i64.wrap (y74.1 + 1)) (IntKind.i64.wrap ((IntKind.i64.wrap (y74.1 + 1)) + 1)) y84.2)) y91.2 y91.1 (IntKind.i64.wrap (y91.1 + 1)) (DAmt.mk (IntKind.i64.wrap ((IntKind.i64.wrap (y91.1 + 1)) + 1)) (IntKind.i64.wrap ((IntKind.i64.wrap ((IntKind.i64.wrap (y91.1 + 1)) + 1)) + 1)) (IntKind.i64.wrap ((IntKind.i64.wrap ((IntKind.i64.wrap ((IntKind.i64.wrap (y91.1 + 1)) + 1)) + 1)) + 1))) (IntKind.i64.wrap ((IntKind.i64.wrap ((IntKind.i64.wrap ((IntKind.i64.wrap ((IntKind.i64.wrap (y91.1 + 1)) + 1)) + 1)) + 1)) + 1)) (IntKind.i64.wrap ((IntKind.i64.wrap ((IntKind.i64.wrap ((IntKind.i64.wrap ((IntKind.i64.wrap ((IntKind.i64.wrap (y91.1 + 1)) + 1)) + 1)) + 1)) + 1)) + 1)))).length) c0_0 by rw [show s1.1.length = (s1.1.set (s1.2.2 : Int).toNat (DPart.mk (DLabel.mk y35.2) y60.2 y67.2 (DHeap.mk y74.2 (DGc.mk y74.1 (IntKind.i64.wrap (y74.1 + 1)) (IntKind.i64.wrap ((IntKind.i64.wrap (y74.1 + 1)) + 1)) y84.2)) y91.2 y91.1 (IntKind.i64.wrap (y91.1 + 1)) (DAmt.mk (IntKind.i64.wrap ((IntKind.i64.wrap (y91.1 + 1)) + 1)) (IntKind.i64.wrap ((IntKind.i64.wrap ((IntKind.i64.wrap (y91.1 + 1)) + 1)) + 1)) (IntKind.i64.wrap ((IntKind.i64.wrap ((IntKind.i64.wrap ((IntKind.i64.wrap (y91.1 + 1)) + 1)) + 1)) + 1))) (IntKind.i64.wrap ((IntKind.i64.wrap ((IntKind.i64.wrap ((IntKind.i64.wrap ((IntKind.i64.wrap (y91.1 + 1)) + 1)) + 1)) + 1)) + 1)) (IntKind.i64.wrap ((IntKind.i64.wrap ((IntKind.i64.wrap ((IntKind.i64.wrap ((IntKind.i64.wrap ((IntKind.i64.wrap (y91.1 + 1)) + 1)) + 1)) + 1)) + 1)) + 1)))).length from (len_set rfl)]), rfl, rfl, trivial⟩, hS28.pick [0] rfl rfl⟩⟩
    replace h := bcF h hc3
    refine CW.exit ?_
    replace h := Option.some.inj h
    subst h
    exact ⟨trivial, rfl, ⟨⟨rfl, trivial⟩, hS1.pick [0] rfl rfl⟩⟩
  intro x e w107 hM
  obtain ⟨rfl, hM⟩ := hM
  obtain ⟨hE, hS29⟩ := hM
  obtain ⟨e, rfl⟩ := hE.out
  have h := h106
  show CW _ _ _ _ _ _
  refine CW.seq ?_
  refine CW.region ?_
  iterate 2 refine LW.p rfl rfl ?_
  refine LW.nil ?_
  show CW _ _ _ _ _ _
  refine CW.ret ?_
  replace h := Option.some.inj h
  subst h
  exact And.intro trivial ⟨_, Res.one (resOne.t rfl), rfl, hS29.pick [0] rfl rfl⟩

theorem W_l_markWorld {w0 : World} {F : List Nat} {N : Nat} {x0 : DWorld} {x1 : Int} {r : Int × (List DPart)} (h : F_l_markWorld N x0 x1 = some r) {a0_1 : Option Addr} {n0_1 c0_1 : Nat} (hn0_1 : n0_1 = x0.parts.length) (hS : St w0 F w0 [sl a0_1 c0_1 x0.parts]) :
    Ret Try.prog 43 #[.agg #[.int .i64 x0.now, .slice a0_1 n0_1 c0_1], .int .i64 x1] w0 (fun v w => v = .int .i64 r.1 ∧ St w0 F w [sl a0_1 c0_1 r.2]) := by
  subst hn0_1
  unfold F_l_markWorld at h
  refine Ret.of Try.func43 rfl rfl rfl ?_
  refine CW.seq ?_
  refine CW.region ?_
  refine LW.box (cs := [.int .i64 x0.now, .slice a0_1 x0.parts.length c0_1]) rfl hS rfl ?_
  intro g1 w2 hS1 hf
  refine LW.p rfl rfl ?_
  refine LW.nil ?_
  show CW _ _ _ _ _ _
  refine CW.seq ?_
  refine CW.region ?_
  refine LW.u (Pur.fa fo51_1 rfl) rfl ?_
  refine LW.ldb hS1 0 rfl ag49 rfl rfl rfl ?_
  refine LW.p rfl rfl ?_
  replace h := obind h
  obtain ⟨y3, hy3, h⟩ := h
  obtain ⟨q6, hy3', hq7⟩ := obind hy3
  obtain ⟨hl8, hq7⟩ := keepL_some hq7
  rw [Option.some.inj hq7] at hy3' hl8
  have hS2 := hS1.pick (M := [sl a0_1 c0_1 x0.parts] ++ [bx g1 51 [.int .i64 x0.now, .slice a0_1 x0.parts.length c0_1]]) [1, 0] rfl rfl
  obtain ⟨F4, hL5⟩ := St.lend (L := [sl a0_1 c0_1 x0.parts]) (M := [bx g1 51 [.int .i64 x0.now, .slice a0_1 x0.parts.length c0_1]]) hS2
  have q := W_l_markPartS (w0 := w2) hy3' rfl hL5.st
  refine LW.call pl44 rfl rfl ?_
  refine Ret.mono q ?_
  rintro _ w9 ⟨rfl, hs⟩
  have hS3 := hL5.back _ _ hs
  refine LW.p rfl rfl ?_
  refine LW.nil ?_
  show CW _ _ _ _ _ _
  refine CW.seq ?_
  refine CW.region ?_
  iterate 2 refine LW.p rfl rfl ?_
  refine LW.nil ?_
  show CW _ _ _ _ _ _
  refine CW.ret ?_
  replace h := Option.some.inj h
  subst h
  rw [show x0.parts.length = y3.2.length from hl8] at hS3
  exact And.intro trivial ⟨_, Res.one (resOne.t rfl), rfl, hS3.pick [0] rfl rfl⟩

theorem W_l_heldPartS {w0 : World} {N : Nat} {x0 : List DPart} {x1 : Int} {r : Int} (h : F_l_heldPartS N x0 x1 = some r) {a0_0 : Option Addr} {n0_0 c0_0 : Nat} (hn0_0 : n0_0 = x0.length) (hr0_0 : rdS (Bor w0 []) w0 a0_0 c0_0 x0) :
    Ret Try.prog 45 #[.slice a0_0 n0_0 c0_0, .int .i64 x1] w0 (fun v w => v = .int .i64 r ∧ St w0 [] w []) := by
  subst hn0_0
  unfold F_l_heldPartS at h
  refine Ret.of Try.func45 rfl rfl rfl ?_
  have hS1 := St.start w0
  refine CW.seq ?_
  refine CW.region ?_
  refine LW.p rfl rfl ?_
  refine LW.nil ?_
  show CW _ _ _ _ _ _
  refine CW.seq ?_
  refine CW.seq ?_
  refine CW.region ?_
  refine LW.p rfl rfl ?_
  refine LW.nil ?_
  show CW _ _ _ _ _ _
  refine CW.block ?_
  obtain ⟨o59, ho59, h60⟩ := obind h
  refine CW.mono (CW.iter (σ := Int × Int) (ρ := (Int × Int) ⊕ Int) (fun s1 e wb => En e [(0, .slice a0_0 x0.length c0_0), (1, .int .i64 s1.1), (5, .int .i64 s1.2)] ∧ St w0 [] wb []) (fun o x e wb => match o with | .inl s1 => x = .exit 0 ∧ En e [(1, .int .i64 s1.1)] ∧ St w0 [] wb [] | .inr r => x = .ret ∧ ∃ u, u = r ∧ ∃ v, Res Try.prog Try.f45.results e wb v ∧ v = .int .i64 u ∧ St w0 [] wb []) ?_ N (x1, 0) _ _ _ ⟨⟨rfl, rfl, rfl, trivial⟩, hS1.pick [] rfl rfl⟩ ho59) ?_
  · intro s1 e w2 o hM h
    obtain ⟨hE, hS2⟩ := hM
    obtain ⟨e, rfl⟩ := hE.out
    refine CW.seq ?_
    refine CW.seq ?_
    refine CW.region ?_
    iterate 2 refine LW.p rfl rfl ?_
    refine LW.u (Pur.len Try.underlying49 rfl) rfl ?_
    refine LW.p rfl rfl ?_
    refine LW.nil ?_
    show CW _ _ _ _ _ _
    refine CW.cond rfl (fun hc3 => ?_) (fun hc3 => ?_)
    · replace h := bcT h hc3
      refine CW.skip ?_
      show CW _ _ _ _ _ _
      refine CW.seq ?_
      refine CW.block ?_
      refine CW.seq ?_
      refine CW.region ?_
      iterate 2 refine LW.p rfl rfl ?_
      replace h := obind h
      obtain ⟨y4, hy4, h⟩ := h
      obtain ⟨b7, o8, cs9, hae, hb12, hp5, hq6, hd10, hk11⟩ := hr0_0.idx hy4
      subst hae
      obtain ⟨a13, c14, a16, c17, a19, c20, a22, c23, a25, c26, a28, c29, rfl, hr15, hr18, hr21, hr24, hr27, hr30⟩ := hd10
      refine LW.u (Pur.ix Try.underlying49 sz75 rfl rfl hp5 hq6) rfl ?_
      refine LW.u (Pur.fa fo75_0 rfl) rfl ?_
      refine LW.u (Pur.fa fo35_0 rfl) rfl ?_
      refine LW.l (Ldr.old w0 ag24 rfl (hk11 0 _ rfl)) (hS2.same _ hb12.1 hb12.2) rfl ?_
      refine LW.p rfl rfl ?_
      replace h := obind h
      obtain ⟨y31, hy31, h⟩ := h
      have q := W_l_heldIntS (w0 := w2) hy31 rfl (hS2.rB hr15)
      refine LW.call pl98 rfl rfl ?_
      refine Ret.mono q ?_
      rintro _ w32 ⟨rfl, hs⟩
      have hS3 := hS2.add hs
      refine LW.p rfl rfl ?_
      refine LW.nil ?_
      show CW _ _ _ _ _ _
      refine CW.fresh (l := [(0, .slice (some ⟨b7, o8, none⟩) x0.length c0_0), (1, .int .i64 y31), (5, .int .i64 s1.2)]) ⟨rfl, rfl, rfl, trivial⟩ (fun e => ?_)
      refine CW.seq ?_
      refine CW.seq ?_
      refine CW.region ?_
      iterate 2 refine LW.p rfl rfl ?_
      refine LW.nil ?_
      show CW _ _ _ _ _ _
      refine CW.cond rfl (fun hc33 => ?_) (fun hc33 => ?_)
      · replace h := bcT h hc33
        refine CW.seq ?_
        refine CW.region ?_
        refine LW.p rfl rfl ?_
        refine LW.nil ?_
        show CW _ _ _ _ _ _
        refine CW.ret ?_
        replace h := Option.some.inj h
        subst h
        exact ⟨trivial, rfl, _, rfl, ⟨_, Res.one (resOne.t rfl), rfl, hS3.pick [] rfl rfl⟩⟩
      replace h := bcF h hc33
      refine CW.skip ?_
      show CW _ _ _ _ _ _
      refine CW.seq ?_
      refine CW.region ?_
      iterate 2 refine LW.p rfl rfl ?_
      refine LW.u (Pur.ix Try.underlying49 sz75 rfl rfl hp5 hq6) rfl ?_
      refine LW.u (Pur.fa fo75_1 rfl) rfl ?_
      refine LW.l (Ldr.old w0 ag24 rfl (hk11 1 _ rfl)) (hS3.same _ hb12.1 hb12.2) rfl ?_
      refine LW.p rfl rfl ?_
      replace h := obind h
      obtain ⟨y34, hy34, h⟩ := h
      have q := W_l_heldIntS (w0 := w32) hy34 rfl (hS3.rB hr18)
      refine LW.call pl98 rfl rfl ?_
      refine Ret.mono q ?_
      rintro _ w35 ⟨rfl, hs⟩
      have hS4 := hS3.add hs
      refine LW.p rfl rfl ?_
      refine LW.nil ?_
      show CW _ _ _ _ _ _
      refine CW.seq ?_
      refine CW.seq ?_
      refine CW.region ?_
      iterate 2 refine LW.p rfl rfl ?_
      refine LW.nil ?_
      show CW _ _ _ _ _ _
      refine CW.cond rfl (fun hc36 => ?_) (fun hc36 => ?_)
      · replace h := bcT h hc36
        refine CW.seq ?_
        refine CW.region ?_
        refine LW.p rfl rfl ?_
        refine LW.nil ?_
        show CW _ _ _ _ _ _
        refine CW.fresh (l := [(4, .int .i64 (-1))]) ⟨rfl, trivial⟩ (fun e => ?_)
        refine CW.ret ?_
        replace h := Option.some.inj h
        subst h
        exact ⟨trivial, rfl, _, rfl, ⟨_, Res.one (resOne.t rfl), rfl, hS4.pick [] rfl rfl⟩⟩
      replace h := bcF h hc36
      refine CW.skip ?_
      show CW _ _ _ _ _ _
      refine CW.seq ?_
      refine CW.region ?_
      iterate 2 refine LW.p rfl rfl ?_
      refine LW.u (Pur.ix Try.underlying49 sz75 rfl rfl hp5 hq6) rfl ?_
      refine LW.u (Pur.fa fo75_2 rfl) rfl ?_
      refine LW.l (Ldr.old w0 ag67 rfl (hk11 2 _ rfl)) (hS4.same _ hb12.1 hb12.2) rfl ?_
      refine LW.p rfl rfl ?_
      replace h := obind h
      obtain ⟨y37, hy37, h⟩ := h
      have q := W_l_heldResS (w0 := w35) hy37 rfl (hS4.rB hr21)
      refine LW.call pl99 rfl rfl ?_
      refine Ret.mono q ?_
      rintro _ w38 ⟨rfl, hs⟩
      have hS5 := hS4.add hs
      refine LW.p rfl rfl ?_
      refine LW.nil ?_
      show CW _ _ _ _ _ _
      refine CW.fresh (l := [(0, .slice (some ⟨b7, o8, none⟩) x0.length c0_0), (1, .int .i64 y37), (5, .int .i64 s1.2)]) ⟨rfl, rfl, rfl, trivial⟩ (fun e => ?_)
      refine CW.seq ?_
      refine CW.seq ?_
      refine CW.region ?_
      iterate 2 refine LW.p rfl rfl ?_
      refine LW.nil ?_
      show CW _ _ _ _ _ _
      refine CW.cond rfl (fun hc39 => ?_) (fun hc39 => ?_)
      · replace h := bcT h hc39
        refine CW.seq ?_
        refine CW.region ?_
        refine LW.p rfl rfl ?_
        refine LW.nil ?_
        show CW _ _ _ _ _ _
        refine CW.ret ?_
        replace h := Option.some.inj h
        subst h
        exact ⟨trivial, rfl, _, rfl, ⟨_, Res.one (resOne.t rfl), rfl, hS5.pick [] rfl rfl⟩⟩
      replace h := bcF h hc39
      refine CW.skip ?_
      show CW _ _ _ _ _ _
      refine CW.seq ?_
      refine CW.region ?_
      iterate 2 refine LW.p rfl rfl ?_
      refine LW.u (Pur.ix Try.underlying49 sz75 rfl rfl hp5 hq6) rfl ?_
      refine LW.u (Pur.fa fo75_3 rfl) rfl ?_
      refine LW.u (Pur.fa fo71_0 rfl) rfl ?_
      refine LW.l (Ldr.old w0 ag68 rfl (hk11 3 _ rfl)) (hS5.same _ hb12.1 hb12.2) rfl ?_
      refine LW.p rfl rfl ?_
      replace h := obind h
      obtain ⟨y40, hy40, h⟩ := h
      have q := W_l_heldObjS (w0 := w38) hy40 rfl (hS5.rB hr24)
      refine LW.call pl100 rfl rfl ?_
      refine Ret.mono q ?_
      rintro _ w41 ⟨rfl, hs⟩
      have hS6 := hS5.add hs
      refine LW.p rfl rfl ?_
      refine LW.nil ?_
      show CW _ _ _ _ _ _
      refine CW.seq ?_
      refine CW.seq ?_
      refine CW.region ?_
      iterate 2 refine LW.p rfl rfl ?_
      refine LW.nil ?_
      show CW _ _ _ _ _ _
      refine CW.fresh (l := [(0, .slice (some ⟨b7, o8, none⟩) x0.length c0_0), (1, .int .i64 y40), (5, .int .i64 s1.2), (49, .bool (decide (y40 < 0)))]) ⟨rfl, rfl, rfl, rfl, trivial⟩ (fun e => ?_)
      refine CW.cond rfl (fun hc42 => ?_) (fun hc42 => ?_)
      · replace h := bcT h hc42
        refine CW.seq ?_
        refine CW.region ?_
        refine LW.p rfl rfl ?_
        refine LW.nil ?_
        show CW _ _ _ _ _ _
        refine CW.ret ?_
        replace h := Option.some.inj h
        subst h
        exact ⟨trivial, rfl, _, rfl, ⟨_, Res.one (resOne.t rfl), rfl, hS6.pick [] rfl rfl⟩⟩
      replace h := bcF h hc42
      refine CW.skip ?_
      show CW _ _ _ _ _ _
      refine CW.seq ?_
      refine CW.seq ?_
      refine CW.region ?_
      iterate 2 refine LW.p rfl rfl ?_
      refine LW.u (Pur.ix Try.underlying49 sz75 rfl rfl hp5 hq6) rfl ?_
      refine LW.u (Pur.fa fo75_3 rfl) rfl ?_
      refine LW.u (Pur.fa fo71_1 rfl) rfl ?_
      refine LW.u (Pur.fa fo69_0 rfl) rfl ?_
      refine LW.l (Ldr.old w0 ag3 rfl (hk11 4 _ rfl)) (hS6.same _ hb12.1 hb12.2) rfl ?_
      iterate 2 refine LW.p rfl rfl ?_
      refine LW.nil ?_
      show CW _ _ _ _ _ _
      refine CW.cond rfl (fun hc43 => ?_) (fun hc43 => ?_)
      · replace h := bcT h hc43
        refine CW.seq ?_
        refine CW.region ?_
        refine LW.p rfl rfl ?_
        refine LW.nil ?_
        show CW _ _ _ _ _ _
        refine CW.ret ?_
        replace h := Option.some.inj h
        subst h
        exact ⟨trivial, rfl, _, rfl, ⟨_, Res.one (resOne.t rfl), rfl, hS6.pick [] rfl rfl⟩⟩
      replace h := bcF h hc43
      refine CW.skip ?_
      show CW _ _ _ _ _ _
      refine CW.seq ?_
      refine CW.region ?_
      iterate 3 refine LW.p rfl rfl ?_
      refine LW.nil ?_
      show CW _ _ _ _ _ _
      refine CW.seq ?_
      refine CW.seq ?_
      refine CW.region ?_
      iterate 2 refine LW.p rfl rfl ?_
      refine LW.u (Pur.ix Try.underlying49 sz75 rfl rfl hp5 hq6) rfl ?_
      refine LW.u (Pur.fa fo75_3 rfl) rfl ?_
      refine LW.u (Pur.fa fo71_1 rfl) rfl ?_
      refine LW.u (Pur.fa fo69_1 rfl) rfl ?_
      refine LW.l (Ldr.old w0 ag3 rfl (hk11 5 _ rfl)) (hS6.same _ hb12.1 hb12.2) rfl ?_
      iterate 2 refine LW.p rfl rfl ?_
      refine LW.nil ?_
      show CW _ _ _ _ _ _
      refine CW.fresh (l := [(0, .slice (some ⟨b7, o8, none⟩) x0.length c0_0), (1, .int .i64 (IntKind.i64.wrap (y40 + 1))), (5, .int .i64 s1.2), (69, .bool (y4.heap.gc.pos != (IntKind.i64.wrap (y40 + 1))))]) ⟨rfl, rfl, rfl, rfl, trivial⟩ (fun e => ?_)
      refine CW.cond rfl (fun hc44 => ?_) (fun hc44 => ?_)
      · replace h := bcT h hc44
        refine CW.seq ?_
        refine CW.region ?_
        refine LW.p rfl rfl ?_
        refine LW.nil ?_
        show CW _ _ _ _ _ _
        refine CW.ret ?_
        replace h := Option.some.inj h
        subst h
        exact ⟨trivial, rfl, _, rfl, ⟨_, Res.one (resOne.t rfl), rfl, hS6.pick [] rfl rfl⟩⟩
      replace h := bcF h hc44
      refine CW.skip ?_
      show CW _ _ _ _ _ _
      refine CW.seq ?_
      refine CW.region ?_
      iterate 3 refine LW.p rfl rfl ?_
      refine LW.nil ?_
      show CW _ _ _ _ _ _
      refine CW.seq ?_
      refine CW.seq ?_
      refine CW.region ?_
      iterate 2 refine LW.p rfl rfl ?_
      refine LW.u (Pur.ix Try.underlying49 sz75 rfl rfl hp5 hq6) rfl ?_
      refine LW.u (Pur.fa fo75_3 rfl) rfl ?_
      refine LW.u (Pur.fa fo71_1 rfl) rfl ?_
      refine LW.u (Pur.fa fo69_2 rfl) rfl ?_
      refine LW.l (Ldr.old w0 ag3 rfl (hk11 6 _ rfl)) (hS6.same _ hb12.1 hb12.2) rfl ?_
      iterate 2 refine LW.p rfl rfl ?_
      refine LW.nil ?_
      show CW _ _ _ _ _ _
      refine CW.cond rfl (fun hc45 => ?_) (fun hc45 => ?_)
      · replace h := bcT h hc45
        refine CW.seq ?_
        refine CW.region ?_
        refine LW.p rfl rfl ?_
        refine LW.nil ?_
        show CW _ _ _ _ _ _
        refine CW.fresh (l := [(4, .int .i64 (-1))]) ⟨rfl, trivial⟩ (fun e => ?_)
        refine CW.ret ?_
        replace h := Option.some.inj h
        subst h
        exact ⟨trivial, rfl, _, rfl, ⟨_, Res.one (resOne.t rfl), rfl, hS6.pick [] rfl rfl⟩⟩
      replace h := bcF h hc45
      refine CW.skip ?_
      show CW _ _ _ _ _ _
      refine CW.seq ?_
      refine CW.region ?_
      iterate 3 refine LW.p rfl rfl ?_
      refine LW.nil ?_
      show CW _ _ _ _ _ _
      refine CW.fresh (l := [(0, .slice (some ⟨b7, o8, none⟩) x0.length c0_0), (1, .int .i64 (IntKind.i64.wrap ((IntKind.i64.wrap ((IntKind.i64.wrap (y40 + 1)) + 1)) + 1))), (5, .int .i64 s1.2)]) ⟨rfl, rfl, rfl, trivial⟩ (fun e => ?_)
      refine CW.seq ?_
      refine CW.region ?_
      iterate 2 refine LW.p rfl rfl ?_
      refine LW.u (Pur.ix Try.underlying49 sz75 rfl rfl hp5 hq6) rfl ?_
      refine LW.u (Pur.fa fo75_3 rfl) rfl ?_
      refine LW.u (Pur.fa fo71_1 rfl) rfl ?_
      refine LW.u (Pur.fa fo69_3 rfl) rfl ?_
      refine LW.l (Ldr.old w0 ag24 rfl (hk11 7 _ rfl)) (hS6.same _ hb12.1 hb12.2) rfl ?_
      refine LW.p rfl rfl ?_
      replace h := obind h
      obtain ⟨y46, hy46, h⟩ := h
      have q := W_l_heldIntS (w0 := w41) hy46 rfl (hS6.rB hr27)
      refine LW.call pl98 rfl rfl ?_
      refine Ret.mono q ?_
      rintro _ w47 ⟨rfl, hs⟩
      have hS7 := hS6.add hs
      refine LW.p rfl rfl ?_
      refine LW.nil ?_
      show CW _ _ _ _ _ _
      refine CW.seq ?_
      refine CW.seq ?_
      refine CW.region ?_
      iterate 2 refine LW.p rfl rfl ?_
      refine LW.nil ?_
      show CW _ _ _ _ _ _
      refine CW.cond rfl (fun hc48 => ?_) (fun hc48 => ?_)
      · replace h := bcT h hc48
        refine CW.seq ?_
        refine CW.region ?_
        refine LW.p rfl rfl ?_
        refine LW.nil ?_
        show CW _ _ _ _ _ _
        refine CW.fresh (l := [(4, .int .i64 (-1))]) ⟨rfl, trivial⟩ (fun e => ?_)
        refine CW.ret ?_
        replace h := Option.some.inj h
        subst h
        exact ⟨trivial, rfl, _, rfl, ⟨_, Res.one (resOne.t rfl), rfl, hS7.pick [] rfl rfl⟩⟩
      replace h := bcF h hc48
      refine CW.skip ?_
      show CW _ _ _ _ _ _
      refine CW.seq ?_
      refine CW.region ?_
      iterate 2 refine LW.p rfl rfl ?_
      refine LW.u (Pur.ix Try.underlying49 sz75 rfl rfl hp5 hq6) rfl ?_
      refine LW.u (Pur.fa fo75_4 rfl) rfl ?_
      refine LW.l (Ldr.old w0 ag72 rfl (hk11 8 _ rfl)) (hS7.same _ hb12.1 hb12.2) rfl ?_
      refine LW.p rfl rfl ?_
      replace h := obind h
      obtain ⟨y49, hy49, h⟩ := h
      have q := W_l_heldTapS (w0 := w47) hy49 rfl (hS7.rB hr30)
      refine LW.call pl101 rfl rfl ?_
      refine Ret.mono q ?_
      rintro _ w50 ⟨rfl, hs⟩
      have hS8 := hS7.add hs
      refine LW.p rfl rfl ?_
      refine LW.nil ?_
      show CW _ _ _ _ _ _
      refine CW.fresh (l := [(0, .slice (some ⟨b7, o8, none⟩) x0.length c0_0), (1, .int .i64 y49), (5, .int .i64 s1.2)]) ⟨rfl, rfl, rfl, trivial⟩ (fun e => ?_)
      refine CW.seq ?_
      refine CW.seq ?_
      refine CW.region ?_
      iterate 2 refine LW.p rfl rfl ?_
      refine LW.nil ?_
      show CW _ _ _ _ _ _
      refine CW.cond rfl (fun hc51 => ?_) (fun hc51 => ?_)
      · replace h := bcT h hc51
        refine CW.seq ?_
        refine CW.region ?_
        refine LW.p rfl rfl ?_
        refine LW.nil ?_
        show CW _ _ _ _ _ _
        refine CW.ret ?_
        replace h := Option.some.inj h
        subst h
        exact ⟨trivial, rfl, _, rfl, ⟨_, Res.one (resOne.t rfl), rfl, hS8.pick [] rfl rfl⟩⟩
      replace h := bcF h hc51
      refine CW.skip ?_
      show CW _ _ _ _ _ _
      refine CW.seq ?_
      refine CW.seq ?_
      refine CW.region ?_
      iterate 2 refine LW.p rfl rfl ?_
      refine LW.u (Pur.ix Try.underlying49 sz75 rfl rfl hp5 hq6) rfl ?_
      refine LW.u (Pur.fa fo75_5 rfl) rfl ?_
      refine LW.l (Ldr.old w0 ag3 rfl (hk11 9 _ rfl)) (hS8.same _ hb12.1 hb12.2) rfl ?_
      iterate 2 refine LW.p rfl rfl ?_
      refine LW.nil ?_
      show CW _ _ _ _ _ _
      refine CW.cond rfl (fun hc52 => ?_) (fun hc52 => ?_)
      · replace h := bcT h hc52
        refine CW.seq ?_
        refine CW.region ?_
        refine LW.p rfl rfl ?_
        refine LW.nil ?_
        show CW _ _ _ _ _ _
        refine CW.ret ?_
        replace h := Option.some.inj h
        subst h
        exact ⟨trivial, rfl, _, rfl, ⟨_, Res.one (resOne.t rfl), rfl, hS8.pick [] rfl rfl⟩⟩
      replace h := bcF h hc52
      refine CW.skip ?_
      show CW _ _ _ _ _ _
      refine CW.seq ?_
      refine CW.region ?_
      iterate 3 refine LW.p rfl rfl ?_
      refine LW.nil ?_
      show CW _ _ _ _ _ _
      refine CW.seq ?_
      refine CW.seq ?_
      refine CW.region ?_
      iterate 2 refine LW.p rfl rfl ?_
      refine LW.u (Pur.ix Try.underlying49 sz75 rfl rfl hp5 hq6) rfl ?_
      refine LW.u (Pur.fa fo75_6 rfl) rfl ?_
      refine LW.l (Ldr.old w0 ag3 rfl (hk11 10 _ rfl)) (hS8.same _ hb12.1 hb12.2) rfl ?_
      iterate 2 refine LW.p rfl rfl ?_
      refine LW.nil ?_
      show CW _ _ _ _ _ _
      refine CW.fresh (l := [(0, .slice (some ⟨b7, o8, none⟩) x0.length c0_0), (1, .int .i64 (IntKind.i64.wrap (y49 + 1))), (5, .int .i64 s1.2), (118, .bool (y4.want != (IntKind.i64.wrap (y49 + 1))))]) ⟨rfl, rfl, rfl, rfl, trivial⟩ (fun e => ?_)
      refine CW.cond rfl (fun hc53 => ?_) (fun hc53 => ?_)
      · replace h := bcT h hc53
        refine CW.seq ?_
        refine CW.region ?_
        refine LW.p rfl rfl ?_
        refine LW.nil ?_
        show CW _ _ _ _ _ _
        refine CW.ret ?_
        replace h := Option.some.inj h
        subst h
        exact ⟨trivial, rfl, _, rfl, ⟨_, Res.one (resOne.t rfl), rfl, hS8.pick [] rfl rfl⟩⟩
      replace h := bcF h hc53
      refine CW.skip ?_
      show CW _ _ _ _ _ _
      refine CW.seq ?_
      refine CW.region ?_
      iterate 3 refine LW.p rfl rfl ?_
      refine LW.nil ?_
      show CW _ _ _ _ _ _
      refine CW.seq ?_
      refine CW.seq ?_
      refine CW.region ?_
      iterate 2 refine LW.p rfl rfl ?_
      refine LW.u (Pur.ix Try.underlying49 sz75 rfl rfl hp5 hq6) rfl ?_
      refine LW.u (Pur.fa fo75_7 rfl) rfl ?_
      refine LW.u (Pur.fa fo73_0 rfl) rfl ?_
      refine LW.l (Ldr.old w0 ag3 rfl (hk11 11 _ rfl)) (hS8.same _ hb12.1 hb12.2) rfl ?_
      iterate 2 refine LW.p rfl rfl ?_
      refine LW.nil ?_
      show CW _ _ _ _ _ _
      refine CW.cond rfl (fun hc54 => ?_) (fun hc54 => ?_)
      · replace h := bcT h hc54
        refine CW.seq ?_
        refine CW.region ?_
        refine LW.p rfl rfl ?_
        refine LW.nil ?_
        show CW _ _ _ _ _ _
        refine CW.ret ?_
        replace h := Option.some.inj h
        subst h
        exact ⟨trivial, rfl, _, rfl, ⟨_, Res.one (resOne.t rfl), rfl, hS8.pick [] rfl rfl⟩⟩
      replace h := bcF h hc54
      refine CW.skip ?_
      show CW _ _ _ _ _ _
      refine CW.seq ?_
      refine CW.region ?_
      iterate 3 refine LW.p rfl rfl ?_
      refine LW.nil ?_
      show CW _ _ _ _ _ _
      refine CW.fresh (l := [(0, .slice (some ⟨b7, o8, none⟩) x0.length c0_0), (1, .int .i64 (IntKind.i64.wrap ((IntKind.i64.wrap ((IntKind.i64.wrap (y49 + 1)) + 1)) + 1))), (5, .int .i64 s1.2)]) ⟨rfl, rfl, rfl, trivial⟩ (fun e => ?_)
      refine CW.seq ?_
      refine CW.seq ?_
      refine CW.region ?_
      iterate 2 refine LW.p rfl rfl ?_
      refine LW.u (Pur.ix Try.underlying49 sz75 rfl rfl hp5 hq6) rfl ?_
      refine LW.u (Pur.fa fo75_7 rfl) rfl ?_
      refine LW.u (Pur.fa fo73_1 rfl) rfl ?_
      refine LW.l (Ldr.old w0 ag3 rfl (hk11 12 _ rfl)) (hS8.same _ hb12.1 hb12.2) rfl ?_
      iterate 2 refine LW.p rfl rfl ?_
      refine LW.nil ?_
      show CW _ _ _ _ _ _
      refine CW.cond rfl (fun hc55 => ?_) (fun hc55 => ?_)
      · replace h := bcT h hc55
        refine CW.seq ?_
        refine CW.region ?_
        refine LW.p rfl rfl ?_
        refine LW.nil ?_
        show CW _ _ _ _ _ _
        refine CW.ret ?_
        replace h := Option.some.inj h
        subst h
        exact ⟨trivial, rfl, _, rfl, ⟨_, Res.one (resOne.t rfl), rfl, hS8.pick [] rfl rfl⟩⟩
      replace h := bcF h hc55
      refine CW.skip ?_
      show CW _ _ _ _ _ _
      refine CW.seq ?_
      refine CW.region ?_
      iterate 3 refine LW.p rfl rfl ?_
      refine LW.nil ?_
      show CW _ _ _ _ _ _
      refine CW.seq ?_
      refine CW.seq ?_
      refine CW.region ?_
      iterate 2 refine LW.p rfl rfl ?_
      refine LW.u (Pur.ix Try.underlying49 sz75 rfl rfl hp5 hq6) rfl ?_
      refine LW.u (Pur.fa fo75_7 rfl) rfl ?_
      refine LW.u (Pur.fa fo73_2 rfl) rfl ?_
      refine LW.l (Ldr.old w0 ag3 rfl (hk11 13 _ rfl)) (hS8.same _ hb12.1 hb12.2) rfl ?_
      iterate 2 refine LW.p rfl rfl ?_
      refine LW.nil ?_
      show CW _ _ _ _ _ _
      refine CW.fresh (l := [(0, .slice (some ⟨b7, o8, none⟩) x0.length c0_0), (1, .int .i64 (IntKind.i64.wrap ((IntKind.i64.wrap ((IntKind.i64.wrap ((IntKind.i64.wrap (y49 + 1)) + 1)) + 1)) + 1))), (5, .int .i64 s1.2), (148, .bool (y4.spent.cpu != (IntKind.i64.wrap ((IntKind.i64.wrap ((IntKind.i64.wrap ((IntKind.i64.wrap (y49 + 1)) + 1)) + 1)) + 1))))]) ⟨rfl, rfl, rfl, rfl, trivial⟩ (fun e => ?_)
      refine CW.cond rfl (fun hc56 => ?_) (fun hc56 => ?_)
      · replace h := bcT h hc56
        refine CW.seq ?_
        refine CW.region ?_
        refine LW.p rfl rfl ?_
        refine LW.nil ?_
        show CW _ _ _ _ _ _
        refine CW.ret ?_
        replace h := Option.some.inj h
        subst h
        exact ⟨trivial, rfl, _, rfl, ⟨_, Res.one (resOne.t rfl), rfl, hS8.pick [] rfl rfl⟩⟩
      replace h := bcF h hc56
      refine CW.skip ?_
      show CW _ _ _ _ _ _
      refine CW.seq ?_
      refine CW.region ?_
      iterate 3 refine LW.p rfl rfl ?_
      refine LW.nil ?_
      show CW _ _ _ _ _ _
      refine CW.seq ?_
      refine CW.seq ?_
      refine CW.region ?_
      iterate 2 refine LW.p rfl rfl ?_
      refine LW.u (Pur.ix Try.underlying49 sz75 rfl rfl hp5 hq6) rfl ?_
      refine LW.u (Pur.fa fo75_8 rfl) rfl ?_
      refine LW.l (Ldr.old w0 ag3 rfl (hk11 14 _ rfl)) (hS8.same _ hb12.1 hb12.2) rfl ?_
      iterate 2 refine LW.p rfl rfl ?_
      refine LW.nil ?_
      show CW _ _ _ _ _ _
      refine CW.cond rfl (fun hc57 => ?_) (fun hc57 => ?_)
      · replace h := bcT h hc57
        refine CW.seq ?_
        refine CW.region ?_
        refine LW.p rfl rfl ?_
        refine LW.nil ?_
        show CW _ _ _ _ _ _
        refine CW.ret ?_
        replace h := Option.some.inj h
        subst h
        exact ⟨trivial, rfl, _, rfl, ⟨_, Res.one (resOne.t rfl), rfl, hS8.pick [] rfl rfl⟩⟩
      replace h := bcF h hc57
      refine CW.skip ?_
      show CW _ _ _ _ _ _
      refine CW.seq ?_
      refine CW.region ?_
      iterate 3 refine LW.p rfl rfl ?_
      refine LW.nil ?_
      show CW _ _ _ _ _ _
      refine CW.fresh (l := [(0, .slice (some ⟨b7, o8, none⟩) x0.length c0_0), (1, .int .i64 (IntKind.i64.wrap ((IntKind.i64.wrap ((IntKind.i64.wrap ((IntKind.i64.wrap ((IntKind.i64.wrap ((IntKind.i64.wrap (y49 + 1)) + 1)) + 1)) + 1)) + 1)) + 1))), (5, .int .i64 s1.2)]) ⟨rfl, rfl, rfl, trivial⟩ (fun e => ?_)
      refine CW.seq ?_
      refine CW.seq ?_
      refine CW.region ?_
      iterate 2 refine LW.p rfl rfl ?_
      refine LW.u (Pur.ix Try.underlying49 sz75 rfl rfl hp5 hq6) rfl ?_
      refine LW.u (Pur.fa fo75_9 rfl) rfl ?_
      refine LW.l (Ldr.old w0 ag3 rfl (hk11 15 _ rfl)) (hS8.same _ hb12.1 hb12.2) rfl ?_
      iterate 2 refine LW.p rfl rfl ?_
      refine LW.nil ?_
      show CW _ _ _ _ _ _
      refine CW.cond rfl (fun hc58 => ?_) (fun hc58 => ?_)
      · replace h := bcT h hc58
        refine CW.seq ?_
        refine CW.region ?_
        refine LW.p rfl rfl ?_
        refine LW.nil ?_
        show CW _ _ _ _ _ _
        refine CW.ret ?_
        replace h := Option.some.inj h
        subst h
        exact ⟨trivial, rfl, _, rfl, ⟨_, Res.one (resOne.t rfl), rfl, hS8.pick [] rfl rfl⟩⟩
      replace h := bcF h hc58
      refine CW.skip ?_
      show CW _ _ _ _ _ _
      refine CW.region ?_
      iterate 3 refine LW.p rfl rfl ?_
      refine LW.nil ?_
      show CW _ _ _ _ _ _
      refine CW.region ?_
      iterate 3 refine LW.p rfl rfl ?_
      refine LW.nil ?_
      replace h := Option.some.inj h
      subst h
      exact ⟨rfl, ⟨⟨rfl, rfl, rfl, trivial⟩, hS8.pick [] rfl rfl⟩⟩
    replace h := bcF h hc3
    refine CW.exit ?_
    replace h := Option.some.inj h
    subst h
    exact ⟨trivial, rfl, ⟨⟨rfl, trivial⟩, hS2.pick [] rfl rfl⟩⟩
  intro x e w61 hM
  rcases o59 with o59 | r62
  · obtain ⟨rfl, hM⟩ := hM
    obtain ⟨hE, hS9⟩ := hM
    obtain ⟨e, rfl⟩ := hE.out
    have h := h60
    show CW _ _ _ _ _ _
    refine CW.seq ?_
    refine CW.region ?_
    iterate 2 refine LW.p rfl rfl ?_
    refine LW.nil ?_
    show CW _ _ _ _ _ _
    refine CW.ret ?_
    cases h
    exact And.intro trivial ⟨_, Res.one (resOne.t rfl), rfl, hS9.pick [] rfl rfl⟩
  obtain ⟨rfl, u, rfl, hM⟩ := hM
  cases h60
  exact And.intro trivial hM

theorem W_l_FnExactSeenParts {w0 : World} {N : Nat} {x0 : DWorld} {x1 : DLabel} {r : Bool} (h : F_l_FnExactSeenParts N x0 x1 = some r) {a0_1 : Option Addr} {n0_1 c0_1 : Nat} (hn0_1 : n0_1 = x0.parts.length) (hr0_1 : rdS (Bor w0 []) w0 a0_1 c0_1 x0.parts) {a1_0 : Option Addr} {n1_0 c1_0 : Nat} (hn1_0 : n1_0 = x1.levels.length) (hr1_0 : rdS (Bor w0 []) w0 a1_0 c1_0 x1.levels) :
    Ret Try.prog 8 #[.agg #[.int .i64 x0.now, .slice a0_1 n0_1 c0_1], .agg #[.slice a1_0 n1_0 c1_0]] w0 (fun v w => v = .bool r ∧ St w0 [] w []) := by
  subst hn0_1
  subst hn1_0
  unfold F_l_FnExactSeenParts at h
  refine Ret.of Try.func8 rfl rfl rfl ?_
  have hS1 := St.start w0
  refine CW.seq ?_
  refine CW.region ?_
  refine LW.box (cs := [.int .i64 x0.now, .slice a0_1 x0.parts.length c0_1]) rfl hS1 rfl ?_
  intro g1 w2 hS2 hf
  refine LW.box (cs := [.slice a1_0 x1.levels.length c1_0]) rfl hS2 rfl ?_
  intro g3 w4 hS3 hf
  refine LW.p rfl rfl ?_
  refine LW.nil ?_
  show CW _ _ _ _ _ _
  refine CW.seq ?_
  refine CW.region ?_
  refine LW.p rfl rfl ?_
  refine LW.nil ?_
  show CW _ _ _ _ _ _
  refine CW.seq ?_
  refine CW.region ?_
  refine LW.ldbN hS3 1 rfl ag46 rfl rfl rfl ?_
  refine LW.p rfl rfl ?_
  replace h := obind h
  obtain ⟨y5, hy5, h⟩ := h
  have q := W_l_szWorld (w0 := w4) hy5 rfl (hS3.rB hr0_1)
  refine LW.call pl25 rfl rfl ?_
  refine Ret.mono q ?_
  rintro _ w6 ⟨rfl, hs⟩
  have hS4 := hS3.add hs
  refine LW.p rfl rfl ?_
  refine LW.nil ?_
  show CW _ _ _ _ _ _
  refine CW.seq ?_
  refine CW.seq ?_
  refine CW.region ?_
  iterate 2 refine LW.p rfl rfl ?_
  refine LW.nil ?_
  show CW _ _ _ _ _ _
  refine CW.cond rfl (fun hc7 => ?_) (fun hc7 => ?_)
  · replace h := bcT h hc7
    refine CW.seq ?_
    refine CW.region ?_
    refine LW.p rfl rfl ?_
    refine LW.nil ?_
    show CW _ _ _ _ _ _
    refine CW.ret ?_
    cases h
    exact And.intro trivial ⟨_, Res.one (resOne.t rfl), rfl, hS4.pick [] rfl rfl⟩
  replace h := bcF h hc7
  refine CW.skip ?_
  show CW _ _ _ _ _ _
  refine CW.seq ?_
  refine CW.region ?_
  refine LW.ldbN hS4 0 rfl ag26 rfl rfl rfl ?_
  refine LW.p rfl rfl ?_
  replace h := obind h
  obtain ⟨y8, hy8, h⟩ := h
  have q := W_l_szLabel (w0 := w6) hy8 rfl (hS4.rB hr1_0)
  refine LW.call pl12 rfl rfl ?_
  refine Ret.mono q ?_
  rintro _ w9 ⟨rfl, hs⟩
  have hS5 := hS4.add hs
  refine LW.p rfl rfl ?_
  refine LW.nil ?_
  show CW _ _ _ _ _ _
  refine CW.fresh (l := [(2, .pointer (some ⟨g1, 0, none⟩)), (3, .pointer (some ⟨g3, 0, none⟩)), (5, .int .i64 y8)]) ⟨rfl, rfl, rfl, trivial⟩ (fun e => ?_)
  refine CW.seq ?_
  refine CW.seq ?_
  refine CW.region ?_
  iterate 2 refine LW.p rfl rfl ?_
  refine LW.nil ?_
  show CW _ _ _ _ _ _
  refine CW.cond rfl (fun hc10 => ?_) (fun hc10 => ?_)
  · replace h := bcT h hc10
    refine CW.seq ?_
    refine CW.region ?_
    refine LW.p rfl rfl ?_
    refine LW.nil ?_
    show CW _ _ _ _ _ _
    refine CW.ret ?_
    cases h
    exact And.intro trivial ⟨_, Res.one (resOne.t rfl), rfl, hS5.pick [] rfl rfl⟩
  replace h := bcF h hc10
  refine CW.skip ?_
  show CW _ _ _ _ _ _
  refine CW.seq ?_
  refine CW.draw (by kernel_rfl) ?_
  have hS6 := hS5.drew
  refine AW.take (i := 0) rfl (by kernel_rfl) rfl rfl (Ldr.boxN (bt := 46) (fr := (0, 0)) (cs := [.int .i64 x0.now, .slice a0_1 x0.parts.length c0_1]) ag46 rfl rfl) (St.cell (h := hS6) (i := 1) rfl) ?_
  refine AW.take (i := 2) rfl (by kernel_rfl) rfl rfl (Ldr.boxN (bt := 26) (fr := (0, 0)) (cs := [.slice a1_0 x1.levels.length c1_0]) ag26 rfl rfl) (St.cell (h := hS6) (i := 0) rfl) ?_
  replace h := obind h
  obtain ⟨y11, hy11, h⟩ := h
  have q := W_l_toWorld (w0 := w9.drew) hy11 rfl (hS6.rB hr0_1)
  refine AW.one (i := 1) (by kernel_rfl) ?_
  refine ⟨_, rfl, ?_⟩
  refine LW.call pl27 rfl rfl ?_
  refine Ret.mono q ?_
  rintro _ w14 ⟨a12, c13, rfl, hs⟩
  have hS7 := hS6.add hs
  refine LW.nil ⟨rfl, (.c (St.cell (h := hS7) (i := 1) rfl) (.w (by kernel_rfl) Kept.n)), ?_⟩
  replace h := obind h
  obtain ⟨y15, hy15, h⟩ := h
  have q := W_l_toLabel (w0 := w14) hy15 rfl (hS7.rB hr1_0)
  refine AW.one (i := 3) (by kernel_rfl) ?_
  refine ⟨_, rfl, ?_⟩
  refine LW.call pl16 rfl rfl ?_
  refine Ret.mono q ?_
  rintro _ w18 ⟨a16, c17, rfl, hs⟩
  have hS8 := hS7.add hs
  refine LW.nil ⟨rfl, (.w (by kernel_rfl) (.c (St.cell (h := hS8) (i := 3) rfl) Kept.n)), ?_⟩
  replace h := obind h
  obtain ⟨y19, hy19, h⟩ := h
  have q := W_s_SeenParts (w0 := w18) hy19 rfl (hS8.rI 1 rfl) rfl (hS8.rI 0 rfl)
  refine AW.one (i := 4) (by kernel_rfl) ?_
  refine ⟨_, rfl, ?_⟩
  refine LW.call pl40 rfl rfl ?_
  refine Ret.mono q ?_
  rintro _ w22 ⟨a20, c21, rfl, hs⟩
  have hS9 := hS8.add hs
  refine LW.nil ⟨rfl, (.c (St.cell (h := hS9) (i := 3) rfl) (.c (St.cell (h := hS9) (i := 4) rfl) Kept.n)), ?_⟩
  refine AW.u (i := 5) rfl (by kernel_rfl) rfl rfl (Pur.p rfl) ?_
  refine AW.done (by kernel_rfl) ?_
  show CW _ _ _ _ _ _
  refine CW.seq ?_
  refine CW.region ?_
  refine LW.ldbN hS9 4 rfl ag46 rfl rfl rfl ?_
  replace h := obind h
  obtain ⟨y23, hy23, h⟩ := h
  have q := W_l_toWorld (w0 := w22) hy23 rfl (hS9.rB hr0_1)
  refine LW.call pl27 rfl rfl ?_
  refine Ret.mono q ?_
  rintro _ w26 ⟨a24, c25, rfl, hs⟩
  have hS10 := hS9.add hs
  refine LW.alloc zv51 hS10 rfl ?_
  intro g27 w28 hS11 hf
  refine LW.stb hS11 0 rfl ag51 rfl rfl rfl rfl rfl ?_
  intro w29 hS12 hf
  refine LW.nil ?_
  show CW _ _ _ _ _ _
  refine CW.seq ?_
  refine CW.region ?_
  refine LW.ldbN hS12 5 rfl ag26 rfl rfl rfl ?_
  replace h := obind h
  obtain ⟨y30, hy30, h⟩ := h
  have q := W_l_toLabel (w0 := w29) hy30 rfl (hS12.rB hr1_0)
  refine LW.call pl16 rfl rfl ?_
  refine Ret.mono q ?_
  rintro _ w33 ⟨a31, c32, rfl, hs⟩
  have hS13 := hS12.add hs
  refine LW.alloc zv35 hS13 rfl ?_
  intro g34 w35 hS14 hf
  refine LW.stb hS14 0 rfl ag35 rfl rfl rfl rfl rfl ?_
  intro w36 hS15 hf
  refine LW.nil ?_
  show CW _ _ _ _ _ _
  refine CW.seq ?_
  refine CW.region ?_
  refine LW.ldbN hS15 2 rfl ag51 rfl rfl rfl ?_
  refine LW.ldbN hS15 0 rfl ag35 rfl rfl rfl ?_
  replace h := obind h
  obtain ⟨y37, hy37, h⟩ := h
  have q := W_i_SeenParts (w0 := w36) hy37 rfl (hS15.rI 3 rfl) rfl (hS15.rI 1 rfl)
  refine LW.call pl41 rfl rfl ?_
  refine Ret.mono q ?_
  rintro _ w40 ⟨a38, c39, rfl, hs⟩
  have hS16 := hS15.add hs
  refine LW.p rfl rfl ?_
  refine LW.nil ?_
  show CW _ _ _ _ _ _
  refine CW.fresh (l := [(2, .pointer (some ⟨g1, 0, none⟩)), (3, .pointer (some ⟨g3, 0, none⟩)), (6, .slice a20 y19.length c21), (7, .pointer (some ⟨g27, 0, none⟩)), (8, .pointer (some ⟨g34, 0, none⟩)), (9, .slice a38 y37.length c39)]) ⟨rfl, rfl, rfl, rfl, rfl, rfl, trivial⟩ (fun e => ?_)
  refine CW.seq ?_
  refine CW.seq ?_
  refine CW.region ?_
  iterate 2 refine LW.p rfl rfl ?_
  replace h := obind h
  obtain ⟨y41, hy41, h⟩ := h
  have q := W_l_eqPartS (w0 := w40) hy41 rfl (hS16.rI 0 rfl) rfl (hS16.rI 5 rfl)
  refine LW.call pl42 rfl rfl ?_
  refine Ret.mono q ?_
  rintro _ w42 ⟨rfl, hs⟩
  have hS17 := hS16.add hs
  refine LW.p rfl rfl ?_
  refine LW.nil ?_
  show CW _ _ _ _ _ _
  refine CW.cond rfl (fun hc43 => ?_) (fun hc43 => ?_)
  · replace h := bcT h hc43
    refine CW.seq ?_
    refine CW.region ?_
    refine LW.p rfl rfl ?_
    refine LW.nil ?_
    show CW _ _ _ _ _ _
    refine CW.ret ?_
    cases h
    exact And.intro trivial ⟨_, Res.one (resOne.t rfl), rfl, hS17.pick [] rfl rfl⟩
  replace h := bcF h hc43
  refine CW.skip ?_
  show CW _ _ _ _ _ _
  refine CW.seq ?_
  refine CW.seq ?_
  refine CW.draw (by kernel_rfl) ?_
  have hS18 := hS17.drew
  refine AW.take (i := 0) rfl (by kernel_rfl) rfl rfl (Ldr.boxN (bt := 51) (fr := (0, 0)) (cs := [.int .i64 y23.now, .slice a24 y23.parts.length c25]) ag51 rfl rfl) (St.cell (h := hS18) (i := 3) rfl) ?_
  refine AW.take (i := 1) rfl (by kernel_rfl) rfl rfl (Ldr.boxN (bt := 46) (fr := (0, 0)) (cs := [.int .i64 x0.now, .slice a0_1 x0.parts.length c0_1]) ag46 rfl rfl) (St.cell (h := hS18) (i := 9) rfl) ?_
  replace h := obind h
  obtain ⟨y44, hy44, h⟩ := h
  have q := W_l_toWorld (w0 := w42.drew) hy44 rfl (hS18.rB hr0_1)
  refine AW.one (i := 2) (by kernel_rfl) ?_
  refine ⟨_, rfl, ?_⟩
  refine LW.call pl27 rfl rfl ?_
  refine Ret.mono q ?_
  rintro _ w47 ⟨a45, c46, rfl, hs⟩
  have hS19 := hS18.add hs
  refine LW.nil ⟨rfl, (.w (by kernel_rfl) (.c (St.cell (h := hS19) (i := 4) rfl) Kept.n)), ?_⟩
  replace h := obind h
  obtain ⟨y48, hy48, h⟩ := h
  have q := W_l_eqWorld (w0 := w47) hy48 rfl (hS19.rI 5 rfl) rfl (hS19.rI 0 rfl)
  refine AW.one (i := 3) (by kernel_rfl) ?_
  refine ⟨_, rfl, ?_⟩
  refine LW.call pl29 rfl rfl ?_
  refine Ret.mono q ?_
  rintro _ w49 ⟨rfl, hs⟩
  have hS20 := hS19.add hs
  refine LW.nil ⟨rfl, (.c (St.cell (h := hS20) (i := 10) rfl) (.w (by kernel_rfl) Kept.n)), ?_⟩
  refine AW.u (i := 4) rfl (by kernel_rfl) rfl rfl (Pur.p rfl) ?_
  refine AW.done (by kernel_rfl) ?_
  show CW _ _ _ _ _ _
  refine CW.cond rfl (fun hc50 => ?_) (fun hc50 => ?_)
  · replace h := bcT h hc50
    refine CW.seq ?_
    refine CW.region ?_
    refine LW.p rfl rfl ?_
    refine LW.nil ?_
    show CW _ _ _ _ _ _
    refine CW.ret ?_
    cases h
    exact And.intro trivial ⟨_, Res.one (resOne.t rfl), rfl, hS20.pick [] rfl rfl⟩
  replace h := bcF h hc50
  refine CW.skip ?_
  show CW _ _ _ _ _ _
  refine CW.seq ?_
  refine CW.seq ?_
  refine CW.draw (by kernel_rfl) ?_
  have hS21 := hS20.drew
  refine AW.take (i := 0) rfl (by kernel_rfl) rfl rfl (Ldr.boxN (bt := 35) (fr := (0, 0)) (cs := [.slice a31 y30.levels.length c32]) ag35 rfl rfl) (St.cell (h := hS21) (i := 2) rfl) ?_
  refine AW.take (i := 1) rfl (by kernel_rfl) rfl rfl (Ldr.boxN (bt := 26) (fr := (0, 0)) (cs := [.slice a1_0 x1.levels.length c1_0]) ag26 rfl rfl) (St.cell (h := hS21) (i := 9) rfl) ?_
  replace h := obind h
  obtain ⟨y51, hy51, h⟩ := h
  have q := W_l_toLabel (w0 := w49.drew) hy51 rfl (hS21.rB hr1_0)
  refine AW.one (i := 2) (by kernel_rfl) ?_
  refine ⟨_, rfl, ?_⟩
  refine LW.call pl16 rfl rfl ?_
  refine Ret.mono q ?_
  rintro _ w54 ⟨a52, c53, rfl, hs⟩
  have hS22 := hS21.add hs
  refine LW.nil ⟨rfl, (.w (by kernel_rfl) (.c (St.cell (h := hS22) (i := 3) rfl) Kept.n)), ?_⟩
  replace h := obind h
  obtain ⟨y55, hy55, h⟩ := h
  have q := W_l_eqLabel (w0 := w54) hy55 rfl (hS22.rI 4 rfl) rfl (hS22.rI 0 rfl)
  refine AW.one (i := 3) (by kernel_rfl) ?_
  refine ⟨_, rfl, ?_⟩
  refine LW.call pl20 rfl rfl ?_
  refine Ret.mono q ?_
  rintro _ w56 ⟨rfl, hs⟩
  have hS23 := hS22.add hs
  refine LW.nil ⟨rfl, (.c (St.cell (h := hS23) (i := 10) rfl) (.w (by kernel_rfl) Kept.n)), ?_⟩
  refine AW.u (i := 4) rfl (by kernel_rfl) rfl rfl (Pur.p rfl) ?_
  refine AW.done (by kernel_rfl) ?_
  show CW _ _ _ _ _ _
  refine CW.cond rfl (fun hc57 => ?_) (fun hc57 => ?_)
  · replace h := bcT h hc57
    refine CW.seq ?_
    refine CW.region ?_
    refine LW.p rfl rfl ?_
    refine LW.nil ?_
    show CW _ _ _ _ _ _
    refine CW.ret ?_
    cases h
    exact And.intro trivial ⟨_, Res.one (resOne.t rfl), rfl, hS23.pick [] rfl rfl⟩
  replace h := bcF h hc57
  refine CW.skip ?_
  show CW _ _ _ _ _ _
  refine CW.seq ?_
  refine CW.region ?_
  refine LW.p rfl rfl ?_
  refine LW.nil ?_
  show CW _ _ _ _ _ _
  refine CW.seq ?_
  refine CW.region ?_
  refine LW.ldbN hS23 5 rfl ag51 rfl rfl rfl ?_
  refine LW.p rfl rfl ?_
  replace h := obind h
  obtain ⟨y58, hy58, h⟩ := h
  obtain ⟨q61, hy58', hq62⟩ := obind hy58
  obtain ⟨hl63, hq62⟩ := keepL_some hq62
  rw [Option.some.inj hq62] at hy58' hl63
  have hS24 := hS23.pick (M := [sl a24 c25 y23.parts] ++ [sl a52 c53 y51.levels, sl a45 c46 y44.parts, sl a38 c39 y37, bx g34 35 [.slice a31 y30.levels.length c32], sl a31 c32 y30.levels, bx g27 51 [.int .i64 y23.now, .slice a24 y23.parts.length c25], sl a20 c21 y19, sl a16 c17 y15.levels, sl a12 c13 y11.parts, bx g3 26 [.slice a1_0 x1.levels.length c1_0], bx g1 46 [.int .i64 x0.now, .slice a0_1 x0.parts.length c0_1]]) [6, 0, 1, 2, 3, 4, 5, 7, 8, 9, 10, 11] rfl rfl
  obtain ⟨F59, hL60⟩ := St.lend (L := [sl a24 c25 y23.parts]) (M := [sl a52 c53 y51.levels, sl a45 c46 y44.parts, sl a38 c39 y37, bx g34 35 [.slice a31 y30.levels.length c32], sl a31 c32 y30.levels, bx g27 51 [.int .i64 y23.now, .slice a24 y23.parts.length c25], sl a20 c21 y19, sl a16 c17 y15.levels, sl a12 c13 y11.parts, bx g3 26 [.slice a1_0 x1.levels.length c1_0], bx g1 46 [.int .i64 x0.now, .slice a0_1 x0.parts.length c0_1]]) hS24
  have q := W_l_markWorld (w0 := w56) hy58' rfl hL60.st
  refine LW.call pl43 rfl rfl ?_
  refine Ret.mono q ?_
  rintro _ w64 ⟨rfl, hs⟩
  have hS25 := hL60.back _ _ hs
  refine LW.p rfl rfl ?_
  refine LW.nil ?_
  show CW _ _ _ _ _ _
  refine CW.seq ?_
  refine CW.region ?_
  refine LW.ldbN hS25 4 rfl ag35 rfl rfl rfl ?_
  refine LW.p rfl rfl ?_
  replace h := obind h
  obtain ⟨y65, hy65, h⟩ := h
  obtain ⟨q68, hy65', hq69⟩ := obind hy65
  obtain ⟨hl70, hq69⟩ := keepL_some hq69
  rw [Option.some.inj hq69] at hy65' hl70
  rw [show y23.parts.length = y58.2.length from hl63] at hS25
  have hS26 := hS25.pick (M := [sl a31 c32 y30.levels] ++ [sl a24 c25 y58.2, sl a52 c53 y51.levels, sl a45 c46 y44.parts, sl a38 c39 y37, bx g34 35 [.slice a31 y30.levels.length c32], bx g27 51 [.int .i64 y23.now, .slice a24 y58.2.length c25], sl a20 c21 y19, sl a16 c17 y15.levels, sl a12 c13 y11.parts, bx g3 26 [.slice a1_0 x1.levels.length c1_0], bx g1 46 [.int .i64 x0.now, .slice a0_1 x0.parts.length c0_1]]) [5, 0, 1, 2, 3, 4, 6, 7, 8, 9, 10, 11] rfl rfl
  obtain ⟨F66, hL67⟩ := St.lend (L := [sl a31 c32 y30.levels]) (M := [sl a24 c25 y58.2, sl a52 c53 y51.levels, sl a45 c46 y44.parts, sl a38 c39 y37, bx g34 35 [.slice a31 y30.levels.length c32], bx g27 51 [.int .i64 y23.now, .slice a24 y58.2.length c25], sl a20 c21 y19, sl a16 c17 y15.levels, sl a12 c13 y11.parts, bx g3 26 [.slice a1_0 x1.levels.length c1_0], bx g1 46 [.int .i64 x0.now, .slice a0_1 x0.parts.length c0_1]]) hS26
  have q := W_l_markLabel (w0 := w64) hy65' rfl hL67.st
  refine LW.call pl23 rfl rfl ?_
  refine Ret.mono q ?_
  rintro _ w71 ⟨rfl, hs⟩
  have hS27 := hL67.back _ _ hs
  refine LW.p rfl rfl ?_
  refine LW.nil ?_
  show CW _ _ _ _ _ _
  refine CW.fresh (l := [(2, .pointer (some ⟨g1, 0, none⟩)), (3, .pointer (some ⟨g3, 0, none⟩)), (6, .slice a20 y19.length c21), (9, .slice a38 y37.length c39), (10, .int .i64 y65.1)]) ⟨rfl, rfl, rfl, rfl, rfl, trivial⟩ (fun e => ?_)
  refine CW.seq ?_
  refine CW.seq ?_
  rw [show y30.levels.length = y65.2.length from hl70] at hS27
  obtain ⟨j72, hj72, h73⟩ := obind h
  refine CW.cut (fun e wb => En e [(2, .pointer (some ⟨g1, 0, none⟩)), (3, .pointer (some ⟨g3, 0, none⟩)), (6, .slice a20 y19.length c21), (9, .slice a38 y37.length c39), (63, .bool j72)] ∧ St w0 [] wb [sl a38 c39 y37, sl a20 c21 y19, bx g3 26 [.slice a1_0 x1.levels.length c1_0], bx g1 46 [.int .i64 x0.now, .slice a0_1 x0.parts.length c0_1]]) ?_ ?_
  · have h := hj72
    refine CW.region ?_
    iterate 3 refine LW.p rfl rfl ?_
    rcases bcases (decide (y65.1 < 0)) with hc74 | hc74
    · replace h := bcT h hc74
      refine LW.gN (want_not rfl rfl hc74) rfl ?_
      refine LW.gN (want_not rfl rfl hc74) rfl ?_
      refine LW.gN (want_not rfl rfl hc74) rfl ?_
      refine LW.gN (want_not rfl rfl hc74) rfl ?_
      refine LW.u (Pur.pickT rfl hc74) rfl ?_
      refine LW.nil ?_
      replace h := Option.some.inj h
      subst h
      exact ⟨⟨rfl, rfl, rfl, rfl, rfl, trivial⟩, hS27.pick [4, 7, 10, 11] rfl rfl⟩
    replace h := bcF h hc74
    refine LW.gY (want_of rfl rfl hc74) ?_
    refine LW.p rfl rfl ?_
    refine LW.gY (want_of rfl rfl hc74) ?_
    refine LW.p rfl rfl ?_
    replace h := obind h
    obtain ⟨y75, hy75, h⟩ := h
    have q := W_l_eqPartS (w0 := w71) hy75 rfl (hS27.rI 4 rfl) rfl (hS27.rI 7 rfl)
    refine LW.gY (want_of rfl rfl hc74) ?_
    refine LW.call pl42 rfl rfl ?_
    refine Ret.mono q ?_
    rintro _ w76 ⟨rfl, hs⟩
    have hS28 := hS27.add hs
    refine LW.gY (want_of rfl rfl hc74) ?_
    refine LW.p rfl rfl ?_
    refine LW.u (Pur.pickF rfl hc74) rfl ?_
    refine LW.nil ?_
    replace h := Option.some.inj h
    subst h
    exact ⟨⟨rfl, rfl, rfl, rfl, rfl, trivial⟩, hS28.pick [4, 7, 10, 11] rfl rfl⟩
  intro e w77 hM
  obtain ⟨hE, hS29⟩ := hM
  obtain ⟨e, rfl⟩ := hE.out
  have h := h73
  show CW _ _ _ _ _ _
  refine CW.cond rfl (fun hc78 => ?_) (fun hc78 => ?_)
  · replace h := bcT h hc78
    refine CW.seq ?_
    refine CW.region ?_
    refine LW.p rfl rfl ?_
    refine LW.nil ?_
    show CW _ _ _ _ _ _
    refine CW.ret ?_
    cases h
    exact And.intro trivial ⟨_, Res.one (resOne.t rfl), rfl, hS29.pick [] rfl rfl⟩
  replace h := bcF h hc78
  refine CW.skip ?_
  show CW _ _ _ _ _ _
  refine CW.seq ?_
  refine CW.region ?_
  refine LW.p rfl rfl ?_
  refine LW.nil ?_
  show CW _ _ _ _ _ _
  refine CW.seq ?_
  refine CW.region ?_
  iterate 2 refine LW.p rfl rfl ?_
  replace h := obind h
  obtain ⟨y79, hy79, h⟩ := h
  obtain ⟨q82, hy79', hq83⟩ := obind hy79
  obtain ⟨hl84, hq83⟩ := keepL_some hq83
  rw [Option.some.inj hq83] at hy79' hl84
  have hS30 := hS29.pick (M := [sl a38 c39 y37] ++ [sl a20 c21 y19, bx g3 26 [.slice a1_0 x1.levels.length c1_0], bx g1 46 [.int .i64 x0.now, .slice a0_1 x0.parts.length c0_1]]) [0, 1, 2, 3] rfl rfl
  obtain ⟨F80, hL81⟩ := St.lend (L := [sl a38 c39 y37]) (M := [sl a20 c21 y19, bx g3 26 [.slice a1_0 x1.levels.length c1_0], bx g1 46 [.int .i64 x0.now, .slice a0_1 x0.parts.length c0_1]]) hS30
  have q := W_l_markPartS (w0 := w77) hy79' rfl hL81.st
  refine LW.call pl44 rfl rfl ?_
  refine Ret.mono q ?_
  rintro _ w85 ⟨rfl, hs⟩
  have hS31 := hL81.back _ _ hs
  refine LW.p rfl rfl ?_
  refine LW.nil ?_
  show CW _ _ _ _ _ _
  refine CW.seq ?_
  refine CW.region ?_
  refine LW.p rfl rfl ?_
  refine LW.nil ?_
  show CW _ _ _ _ _ _
  refine CW.seq ?_
  refine CW.region ?_
  iterate 2 refine LW.p rfl rfl ?_
  replace h := obind h
  obtain ⟨y86, hy86, h⟩ := h
  have q := W_l_heldPartS (w0 := w85) hy86 (show y37.length = y79.2.length from hl84) (hS31.rI 0 rfl)
  refine LW.call pl45 rfl rfl ?_
  refine Ret.mono q ?_
  rintro _ w87 ⟨rfl, hs⟩
  have hS32 := hS31.add hs
  refine LW.p rfl rfl ?_
  refine LW.nil ?_
  show CW _ _ _ _ _ _
  refine CW.seq ?_
  refine CW.seq ?_
  refine CW.region ?_
  iterate 2 refine LW.p rfl rfl ?_
  refine LW.nil ?_
  show CW _ _ _ _ _ _
  refine CW.cond rfl (fun hc88 => ?_) (fun hc88 => ?_)
  · replace h := bcT h hc88
    refine CW.seq ?_
    refine CW.region ?_
    refine LW.p rfl rfl ?_
    refine LW.nil ?_
    show CW _ _ _ _ _ _
    refine CW.fresh (l := [(4, .bool false)]) ⟨rfl, trivial⟩ (fun e => ?_)
    refine CW.ret ?_
    cases h
    exact And.intro trivial ⟨_, Res.one (resOne.t rfl), rfl, hS32.pick [] rfl rfl⟩
  replace h := bcF h hc88
  refine CW.skip ?_
  show CW _ _ _ _ _ _
  refine CW.seq ?_
  refine CW.seq ?_
  refine CW.region ?_
  iterate 3 refine LW.p rfl rfl ?_
  refine LW.nil ?_
  show CW _ _ _ _ _ _
  refine CW.fresh (l := [(2, .pointer (some ⟨g1, 0, none⟩)), (3, .pointer (some ⟨g3, 0, none⟩)), (6, .slice a20 y19.length c21), (9, .slice a38 y37.length c39), (11, .int .i64 y79.1), (74, .bool (y86 != y79.1))]) ⟨rfl, rfl, rfl, rfl, rfl, rfl, trivial⟩ (fun e => ?_)
  refine CW.cond rfl (fun hc89 => ?_) (fun hc89 => ?_)
  · replace h := bcT h hc89
    refine CW.seq ?_
    refine CW.region ?_
    refine LW.p rfl rfl ?_
    refine LW.nil ?_
    show CW _ _ _ _ _ _
    refine CW.ret ?_
    cases h
    exact And.intro trivial ⟨_, Res.one (resOne.t rfl), rfl, hS32.pick [] rfl rfl⟩
  replace h := bcF h hc89
  refine CW.skip ?_
  show CW _ _ _ _ _ _
  refine CW.seq ?_
  refine CW.draw (by kernel_rfl) ?_
  have hS33 := hS32.drew
  refine AW.take (i := 0) rfl (by kernel_rfl) rfl rfl (Ldr.boxN (bt := 46) (fr := (0, 0)) (cs := [.int .i64 x0.now, .slice a0_1 x0.parts.length c0_1]) ag46 rfl rfl) (St.cell (h := hS33) (i := 3) rfl) ?_
  refine AW.take (i := 2) rfl (by kernel_rfl) rfl rfl (Ldr.boxN (bt := 26) (fr := (0, 0)) (cs := [.slice a1_0 x1.levels.length c1_0]) ag26 rfl rfl) (St.cell (h := hS33) (i := 2) rfl) ?_
  replace h := obind h
  obtain ⟨y90, hy90, h⟩ := h
  have q := W_l_toWorld (w0 := w87.drew) hy90 rfl (hS33.rB hr0_1)
  refine AW.one (i := 1) (by kernel_rfl) ?_
  refine ⟨_, rfl, ?_⟩
  refine LW.call pl27 rfl rfl ?_
  refine Ret.mono q ?_
  rintro _ w93 ⟨a91, c92, rfl, hs⟩
  have hS34 := hS33.add hs
  refine LW.nil ⟨rfl, (.c (St.cell (h := hS34) (i := 3) rfl) (.w (by kernel_rfl) Kept.n)), ?_⟩
  replace h := obind h
  obtain ⟨y94, hy94, h⟩ := h
  have q := W_l_toLabel (w0 := w93) hy94 rfl (hS34.rB hr1_0)
  refine AW.one (i := 3) (by kernel_rfl) ?_
  refine ⟨_, rfl, ?_⟩
  refine LW.call pl16 rfl rfl ?_
  refine Ret.mono q ?_
  rintro _ w97 ⟨a95, c96, rfl, hs⟩
  have hS35 := hS34.add hs
  refine LW.nil ⟨rfl, (.w (by kernel_rfl) (.c (St.cell (h := hS35) (i := 5) rfl) Kept.n)), ?_⟩
  replace h := obind h
  obtain ⟨y98, hy98, h⟩ := h
  have q := W_i_SeenParts (w0 := w97) hy98 rfl (hS35.rI 1 rfl) rfl (hS35.rI 0 rfl)
  refine AW.one (i := 4) (by kernel_rfl) ?_
  refine ⟨_, rfl, ?_⟩
  refine LW.call pl41 rfl rfl ?_
  refine Ret.mono q ?_
  rintro _ w101 ⟨a99, c100, rfl, hs⟩
  have hS36 := hS35.add hs
  refine LW.nil ⟨rfl, (.c (St.cell (h := hS36) (i := 5) rfl) (.c (St.cell (h := hS36) (i := 6) rfl) Kept.n)), ?_⟩
  refine AW.u (i := 5) rfl (by kernel_rfl) rfl rfl (Pur.p rfl) ?_
  refine AW.done (by kernel_rfl) ?_
  show CW _ _ _ _ _ _
  refine CW.seq ?_
  refine CW.seq ?_
  refine CW.region ?_
  iterate 2 refine LW.p rfl rfl ?_
  replace h := obind h
  obtain ⟨y102, hy102, h⟩ := h
  have q := W_l_eqPartS (w0 := w101) hy102 rfl (hS36.rI 0 rfl) rfl (hS36.rI 4 rfl)
  refine LW.call pl42 rfl rfl ?_
  refine Ret.mono q ?_
  rintro _ w103 ⟨rfl, hs⟩
  have hS37 := hS36.add hs
  refine LW.p rfl rfl ?_
  refine LW.nil ?_
  show CW _ _ _ _ _ _
  refine CW.cond rfl (fun hc104 => ?_) (fun hc104 => ?_)
  · replace h := bcT h hc104
    refine CW.seq ?_
    refine CW.region ?_
    refine LW.p rfl rfl ?_
    refine LW.nil ?_
    show CW _ _ _ _ _ _
    refine CW.ret ?_
    cases h
    exact And.intro trivial ⟨_, Res.one (resOne.t rfl), rfl, hS37.pick [] rfl rfl⟩
  replace h := bcF h hc104
  refine CW.skip ?_
  show CW _ _ _ _ _ _
  refine CW.seq ?_
  refine CW.region ?_
  refine LW.p rfl rfl ?_
  refine LW.nil ?_
  show CW _ _ _ _ _ _
  refine CW.seq ?_
  refine CW.region ?_
  iterate 2 refine LW.p rfl rfl ?_
  replace h := obind h
  obtain ⟨y105, hy105, h⟩ := h
  have q := W_l_heldPartS (w0 := w103) hy105 (show y37.length = y79.2.length from hl84) (hS37.rI 3 rfl)
  refine LW.call pl45 rfl rfl ?_
  refine Ret.mono q ?_
  rintro _ w106 ⟨rfl, hs⟩
  have hS38 := hS37.add hs
  refine LW.p rfl rfl ?_
  refine LW.nil ?_
  show CW _ _ _ _ _ _
  refine CW.seq ?_
  refine CW.seq ?_
  refine CW.region ?_
  iterate 2 refine LW.p rfl rfl ?_
  refine LW.nil ?_
  show CW _ _ _ _ _ _
  refine CW.cond rfl (fun hc107 => ?_) (fun hc107 => ?_)
  · replace h := bcT h hc107
    refine CW.seq ?_
    refine CW.region ?_
    refine LW.p rfl rfl ?_
    refine LW.nil ?_
    show CW _ _ _ _ _ _
    refine CW.ret ?_
    cases h
    exact And.intro trivial ⟨_, Res.one (resOne.t rfl), rfl, hS38.pick [] rfl rfl⟩
  replace h := bcF h hc107
  refine CW.skip ?_
  show CW _ _ _ _ _ _
  refine CW.seq ?_
  refine CW.seq ?_
  refine CW.region ?_
  iterate 3 refine LW.p rfl rfl ?_
  refine LW.nil ?_
  show CW _ _ _ _ _ _
  refine CW.fresh (l := [(91, .bool (y105 != y79.1))]) ⟨rfl, trivial⟩ (fun e => ?_)
  refine CW.cond rfl (fun hc108 => ?_) (fun hc108 => ?_)
  · replace h := bcT h hc108
    refine CW.seq ?_
    refine CW.region ?_
    refine LW.p rfl rfl ?_
    refine LW.nil ?_
    show CW _ _ _ _ _ _
    refine CW.ret ?_
    cases h
    exact And.intro trivial ⟨_, Res.one (resOne.t rfl), rfl, hS38.pick [] rfl rfl⟩
  replace h := bcF h hc108
  refine CW.skip ?_
  show CW _ _ _ _ _ _
  refine CW.seq ?_
  refine CW.region ?_
  refine LW.p rfl rfl ?_
  refine LW.nil ?_
  show CW _ _ _ _ _ _
  refine CW.ret ?_
  cases h
  exact And.intro trivial ⟨_, Res.one (resOne.t rfl), rfl, hS38.pick [] rfl rfl⟩

end Go.Kx
