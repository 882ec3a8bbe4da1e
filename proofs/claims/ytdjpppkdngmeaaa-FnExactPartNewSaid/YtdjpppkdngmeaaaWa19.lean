/- Each call returns what the plain function says. Printed by drive.py. -/
import Derived.Test.YtdjpppkdngmeaaaFa
import Derived.Test.YtdjpppkdngmeaaaPu
import Derived.Test.YtdjpppkdngmeaaaWa5
namespace Go.Kx
open Go Go.RowKit Go.Proofs
set_option maxRecDepth 10000
set_option maxHeartbeats 2000000
set_option linter.unusedVariables false
set_option linter.unusedSimpArgs false
theorem W_s_l6Copy {w0 : World} {N : Nat} {x0 : List DRes} {r : (List DRes)} (h : F_s_l6Copy N x0 = some r) {a0_0 : Option Addr} {n0_0 c0_0 : Nat} (hn0_0 : n0_0 = x0.length) (hr0_0 : rdS (Bor w0 []) w0 a0_0 c0_0 x0) :
    Ret Try.prog 157 #[.slice a0_0 n0_0 c0_0] w0 (fun v w => ∃ ar0 cr0, v = .slice ar0 r.length cr0 ∧ St w0 [] w [sl ar0 cr0 r]) := by
  subst hn0_0
  unfold F_s_l6Copy at h
  refine Ret.of Try.func157 rfl rfl rfl ?_
  have hS1 := St.start w0
  refine CW.seq ?_
  refine CW.region ?_
  refine LW.p rfl rfl ?_
  refine LW.nil ?_
  show CW _ _ _ _ _ _
  refine CW.seq ?_
  refine CW.region ?_
  refine LW.bsl (α := DRes) (vs := []) (cs := #[]) (l := ([] : List DRes)) rfl (by kernel_rfl) rfl rfl rfl (fun w => rfl) hS1 rfl ?_
  intro a1 c2 w3 hS2 hf
  refine LW.p rfl rfl ?_
  replace h := obind h
  obtain ⟨y4, hy4, h⟩ := h
  refine LW.appN (l := ([] : List DRes)) (m := x0) sT67 rfl rfl (hS2.rB hr0_0) hy4 hS2 (i := 0) rfl rfl ?_
  intro a5 c6 w7 hS3 hf
  refine LW.p rfl rfl ?_
  refine LW.nil ?_
  show CW _ _ _ _ _ _
  refine CW.ret ?_
  cases h
  exact And.intro trivial ⟨_, Res.one (resOne.t rfl), a5, c6, rfl, hS3.pick [0] rfl rfl⟩

theorem W_s_l8Obj {w0 : World} {N : Nat} {x0 : DObj} {r : DObj} (h : F_s_l8Obj N x0 = some r) {a0_10 : Option Addr} {n0_10 c0_10 : Nat} (hn0_10 : n0_10 = x0.links.length) (hr0_10 : rdS (Bor w0 []) w0 a0_10 c0_10 x0.links) {a0_11 : Option Addr} {n0_11 c0_11 : Nat} (hn0_11 : n0_11 = x0.data.length) (hr0_11 : rdS (Bor w0 []) w0 a0_11 c0_11 x0.data) {a0_12 : Option Addr} {n0_12 c0_12 : Nat} (hn0_12 : n0_12 = x0.queue.length) (hr0_12 : rdS (Bor w0 []) w0 a0_12 c0_12 x0.queue) :
    Ret Try.prog 166 #[.agg #[.int .i64 x0.gen, .int .i64 x0.kind, .int .i64 x0.box, .int .i64 x0.res, .int .i64 x0.til, .int .i64 x0.pages, .int .i64 x0.wait, .int .i64 x0.got, .int .i64 x0.ran, .bool x0.mark, .slice a0_10 n0_10 c0_10, .slice a0_11 n0_11 c0_11, .slice a0_12 n0_12 c0_12]] w0 (fun v w => ∃ ar0_10 cr0_10, ∃ ar0_11 cr0_11, ∃ ar0_12 cr0_12, v = .agg #[.int .i64 r.gen, .int .i64 r.kind, .int .i64 r.box, .int .i64 r.res, .int .i64 r.til, .int .i64 r.pages, .int .i64 r.wait, .int .i64 r.got, .int .i64 r.ran, .bool r.mark, .slice ar0_10 r.links.length cr0_10, .slice ar0_11 r.data.length cr0_11, .slice ar0_12 r.queue.length cr0_12] ∧ St w0 [] w [sl ar0_10 cr0_10 r.links, sl ar0_11 cr0_11 r.data, sl ar0_12 cr0_12 r.queue]) := by
  subst hn0_10
  subst hn0_11
  subst hn0_12
  unfold F_s_l8Obj at h
  refine Ret.of Try.func166 rfl rfl rfl ?_
  have hS1 := St.start w0
  refine CW.seq ?_
  refine CW.region ?_
  refine LW.box (cs := [.int .i64 x0.gen, .int .i64 x0.kind, .int .i64 x0.box, .int .i64 x0.res, .int .i64 x0.til, .int .i64 x0.pages, .int .i64 x0.wait, .int .i64 x0.got, .int .i64 x0.ran, .bool x0.mark, .slice a0_10 x0.links.length c0_10, .slice a0_11 x0.data.length c0_11, .slice a0_12 x0.queue.length c0_12]) rfl hS1 rfl ?_
  intro g1 w2 hS2 hf
  refine LW.alloc zv123 hS2 rfl ?_
  intro g3 w4 hS3 hf
  refine LW.nil ?_
  show CW _ _ _ _ _ _
  refine CW.seq ?_
  refine CW.region ?_
  refine LW.bsl (α := Int) (vs := []) (cs := #[]) (l := ([] : List Int)) rfl (by kernel_rfl) rfl rfl rfl (fun w => rfl) hS3 rfl ?_
  intro a5 c6 w7 hS4 hf
  refine LW.u (Pur.fa fo123_10 rfl) rfl ?_
  refine LW.ldb hS4 2 rfl ag24 rfl rfl rfl ?_
  replace h := obind h
  obtain ⟨y8, hy8, h⟩ := h
  refine LW.appN (l := ([] : List Int)) (m := x0.links) sT24 rfl rfl (hS4.rB hr0_10) hy8 hS4 (i := 0) rfl rfl ?_
  intro a9 c10 w11 hS5 hf
  refine LW.u (Pur.fa fo123_10 rfl) rfl ?_
  refine LW.stb hS5 2 rfl ag24 rfl rfl rfl rfl rfl ?_
  intro w12 hS6 hf
  refine LW.nil ?_
  show CW _ _ _ _ _ _
  refine CW.seq ?_
  refine CW.region ?_
  refine LW.bsl (α := Int) (vs := []) (cs := #[]) (l := ([] : List Int)) rfl (by kernel_rfl) rfl rfl rfl (fun w => rfl) hS6 rfl ?_
  intro a13 c14 w15 hS7 hf
  refine LW.u (Pur.fa fo123_11 rfl) rfl ?_
  refine LW.ldb hS7 3 rfl ag24 rfl rfl rfl ?_
  replace h := obind h
  obtain ⟨y16, hy16, h⟩ := h
  refine LW.appN (l := ([] : List Int)) (m := x0.data) sT24 rfl rfl (hS7.rB hr0_11) hy16 hS7 (i := 0) rfl rfl ?_
  intro a17 c18 w19 hS8 hf
  refine LW.u (Pur.fa fo123_11 rfl) rfl ?_
  refine LW.stb hS8 3 rfl ag24 rfl rfl rfl rfl rfl ?_
  intro w20 hS9 hf
  refine LW.nil ?_
  show CW _ _ _ _ _ _
  refine CW.fresh (l := [(1, .pointer (some ⟨g1, 0, none⟩)), (2, .pointer (some ⟨g3, 0, none⟩))]) ⟨rfl, rfl, trivial⟩ (fun e => ?_)
  refine CW.seq ?_
  refine CW.region ?_
  refine LW.bsl (α := DMsg) (vs := []) (cs := #[]) (l := ([] : List DMsg)) rfl (by kernel_rfl) rfl rfl rfl (fun w => rfl) hS9 rfl ?_
  intro a21 c22 w23 hS10 hf
  refine LW.u (Pur.fa fo123_12 rfl) rfl ?_
  refine LW.ldb hS10 4 rfl ag121 rfl rfl rfl ?_
  replace h := obind h
  obtain ⟨y24, hy24, h⟩ := h
  refine LW.appN (l := ([] : List DMsg)) (m := x0.queue) sT121 rfl rfl (hS10.rB hr0_12) hy24 hS10 (i := 0) rfl rfl ?_
  intro a25 c26 w27 hS11 hf
  refine LW.u (Pur.fa fo123_12 rfl) rfl ?_
  refine LW.stb hS11 4 rfl ag121 rfl rfl rfl rfl rfl ?_
  intro w28 hS12 hf
  refine LW.nil ?_
  show CW _ _ _ _ _ _
  refine CW.seq ?_
  refine CW.region ?_
  refine LW.ldbN hS12 4 rfl ag123 rfl rfl rfl ?_
  refine LW.stb hS12 3 rfl ag123 rfl rfl rfl rfl rfl ?_
  intro w29 hS13 hf
  refine LW.nil ?_
  show CW _ _ _ _ _ _
  refine CW.ret ?_
  cases h
  exact And.intro trivial ⟨_, Res.one (resOne.b hS13 3 rfl ag123 rfl rfl), a9, c10, a17, c18, a25, c26, rfl, hS13.pick [2, 1, 0] rfl rfl⟩

theorem W_s_l8Copy {w0 : World} {N : Nat} {x0 : List DObj} {r : (List DObj)} (h : F_s_l8Copy N x0 = some r) {a0_0 : Option Addr} {n0_0 c0_0 : Nat} (hn0_0 : n0_0 = x0.length) (hr0_0 : rdS (Bor w0 []) w0 a0_0 c0_0 x0) :
    Ret Try.prog 164 #[.slice a0_0 n0_0 c0_0] w0 (fun v w => ∃ ar0 cr0, v = .slice ar0 r.length cr0 ∧ St w0 [] w [sl ar0 cr0 r]) := by
  subst hn0_0
  unfold F_s_l8Copy at h
  refine Ret.of Try.func164 rfl rfl rfl ?_
  have hS1 := St.start w0
  refine CW.seq ?_
  refine CW.region ?_
  refine LW.p rfl rfl ?_
  refine LW.nil ?_
  show CW _ _ _ _ _ _
  refine CW.seq ?_
  refine CW.region ?_
  refine LW.bsl (α := DObj) (vs := []) (cs := #[]) (l := ([] : List DObj)) rfl (by kernel_rfl) rfl rfl rfl (fun w => rfl) hS1 rfl ?_
  intro a1 c2 w3 hS2 hf
  refine LW.p rfl rfl ?_
  refine LW.nil ?_
  show CW _ _ _ _ _ _
  refine CW.seq ?_
  refine CW.seq ?_
  refine CW.region ?_
  refine LW.p rfl rfl ?_
  refine LW.nil ?_
  show CW _ _ _ _ _ _
  refine CW.block ?_
  obtain ⟨o38, ho38, h39⟩ := obind h
  refine CW.mono (CW.iter (σ := (List DObj) × Int) (ρ := (List DObj) × Int) (fun s4 e wb => ∃ (s4a0 : Option Addr), ∃ (s4c0 : Nat), En e [(0, .slice a0_0 x0.length c0_0), (3, .slice s4a0 s4.1.length s4c0), (4, .int .i64 s4.2)] ∧ St w0 [] wb [sl s4a0 s4c0 s4.1]) (fun s4 x e wb => x = .exit 0 ∧ ∃ (s4a0 : Option Addr), ∃ (s4c0 : Nat), En e [(3, .slice s4a0 s4.1.length s4c0)] ∧ St w0 [] wb [sl s4a0 s4c0 s4.1]) ?_ N (([] : List DObj), 0) _ _ _ ⟨a1, c2, ⟨rfl, rfl, rfl, trivial⟩, hS2.pick [0] rfl rfl⟩ ho38) ?_
  · intro s4 e w5 o hM h
    obtain ⟨s4a0, s4c0, hE, hS3⟩ := hM
    obtain ⟨e, rfl⟩ := hE.out
    refine CW.seq ?_
    refine CW.seq ?_
    refine CW.region ?_
    iterate 2 refine LW.p rfl rfl ?_
    refine LW.u (Pur.len Try.underlying68 rfl) rfl ?_
    refine LW.p rfl rfl ?_
    refine LW.nil ?_
    show CW _ _ _ _ _ _
    refine CW.cond rfl (fun hc6 => ?_) (fun hc6 => ?_)
    · replace h := bcT h hc6
      refine CW.skip ?_
      show CW _ _ _ _ _ _
      refine CW.seq ?_
      refine CW.block ?_
      refine CW.region ?_
      iterate 3 refine LW.p rfl rfl ?_
      replace h := obind h
      obtain ⟨y7, hy7, h⟩ := h
      obtain ⟨b10, o11, cs12, hae, hb15, hp8, hq9, hd13, hk14⟩ := hr0_0.idx hy7
      subst hae
      obtain ⟨a16, c17, a19, c20, a22, c23, rfl, hr18, hr21, hr24⟩ := hd13
      refine LW.u (Pur.ix Try.underlying68 sz123 rfl rfl hp8 hq9) rfl ?_
      refine LW.l (Ldr.oldN w0 ag123 rfl rfl (fun j u hu => hk14 j u hu)) (hS3.same _ hb15.1 hb15.2) rfl ?_
      replace h := obind h
      obtain ⟨y25, hy25, h⟩ := h
      have q := W_s_l8Obj (w0 := w5) hy25 rfl (hS3.rB hr18) rfl (hS3.rB hr21) rfl (hS3.rB hr24)
      refine LW.call pl166 rfl rfl ?_
      refine Ret.mono q ?_
      rintro _ w32 ⟨a26, c27, a28, c29, a30, c31, rfl, hs⟩
      have hS4 := hS3.add hs
      have hS5 := hS4.pick (M := [sl a26 c27 y25.links, sl a28 c29 y25.data, sl a30 c31 y25.queue] ++ [sl s4a0 s4c0 s4.1]) [0, 1, 2, 3] rfl rfl
      replace h := obind h
      obtain ⟨y33, hy33, h⟩ := h
      refine LW.app1 (M := [sl a26 c27 y25.links, sl a28 c29 y25.data, sl a30 c31 y25.queue]) (L := [sl s4a0 s4c0 s4.1]) (vs := #[.int .i64 y25.gen, .int .i64 y25.kind, .int .i64 y25.box, .int .i64 y25.res, .int .i64 y25.til, .int .i64 y25.pages, .int .i64 y25.wait, .int .i64 y25.got, .int .i64 y25.ran, .bool y25.mark, .slice a26 y25.links.length c27, .slice a28 y25.data.length c29, .slice a30 y25.queue.length c31]) (i := 0) sT68 rfl (by kernel_rfl) rfl rfl hy33 hS5 rfl (fun w G hG => ⟨a26, c27, a28, c29, a30, c31, rfl, hG⟩) rfl rfl ?_
      intro v36 a34 c35 w37 hS6 hf
      refine LW.p rfl rfl ?_
      refine LW.nil ?_
      show CW _ _ _ _ _ _
      refine CW.fresh (l := [(0, .slice (some ⟨b10, o11, none⟩) x0.length c0_0), (3, .slice a34 y33.length c35), (4, .int .i64 s4.2)]) ⟨rfl, rfl, rfl, trivial⟩ (fun e => ?_)
      refine CW.region ?_
      iterate 3 refine LW.p rfl rfl ?_
      refine LW.nil ?_
      replace h := Option.some.inj h
      subst h
      exact ⟨rfl, ⟨a34, c35, ⟨rfl, rfl, rfl, trivial⟩, hS6.pick [0] rfl rfl⟩⟩
    replace h := bcF h hc6
    refine CW.exit ?_
    replace h := Option.some.inj h
    subst h
    exact ⟨trivial, rfl, ⟨s4a0, s4c0, ⟨rfl, trivial⟩, hS3.pick [0] rfl rfl⟩⟩
  intro x e w40 hM
  obtain ⟨rfl, hM⟩ := hM
  obtain ⟨s4a0, s4c0, hE, hS7⟩ := hM
  obtain ⟨e, rfl⟩ := hE.out
  have h := h39
  show CW _ _ _ _ _ _
  refine CW.seq ?_
  refine CW.region ?_
  iterate 2 refine LW.p rfl rfl ?_
  refine LW.nil ?_
  show CW _ _ _ _ _ _
  refine CW.ret ?_
  cases h
  exact And.intro trivial ⟨_, Res.one (resOne.t rfl), s4a0, s4c0, rfl, hS7.pick [0] rfl rfl⟩

theorem W_s_l10Copy {w0 : World} {N : Nat} {x0 : DHeap} {r : DHeap} (h : F_s_l10Copy N x0 = some r) {a0_0 : Option Addr} {n0_0 c0_0 : Nat} (hn0_0 : n0_0 = x0.arena.length) (hr0_0 : rdS (Bor w0 []) w0 a0_0 c0_0 x0.arena) {a0_4 : Option Addr} {n0_4 c0_4 : Nat} (hn0_4 : n0_4 = x0.gc.grey.length) (hr0_4 : rdS (Bor w0 []) w0 a0_4 c0_4 x0.gc.grey) :
    Ret Try.prog 158 #[.agg #[.slice a0_0 n0_0 c0_0, .int .i64 x0.gc.phase, .int .i64 x0.gc.pos, .int .i64 x0.gc.round, .slice a0_4 n0_4 c0_4]] w0 (fun v w => ∃ ar0_0 cr0_0, ∃ ar0_4 cr0_4, v = .agg #[.slice ar0_0 r.arena.length cr0_0, .int .i64 r.gc.phase, .int .i64 r.gc.pos, .int .i64 r.gc.round, .slice ar0_4 r.gc.grey.length cr0_4] ∧ St w0 [] w [sl ar0_0 cr0_0 r.arena, sl ar0_4 cr0_4 r.gc.grey]) := by
  subst hn0_0
  subst hn0_4
  unfold F_s_l10Copy at h
  refine Ret.of Try.func158 rfl rfl rfl ?_
  have hS1 := St.start w0
  refine CW.seq ?_
  refine CW.region ?_
  refine LW.box (cs := [.slice a0_0 x0.arena.length c0_0, .int .i64 x0.gc.phase, .int .i64 x0.gc.pos, .int .i64 x0.gc.round, .slice a0_4 x0.gc.grey.length c0_4]) rfl hS1 rfl ?_
  intro g1 w2 hS2 hf
  refine LW.alloc zv71 hS2 rfl ?_
  intro g3 w4 hS3 hf
  refine LW.nil ?_
  show CW _ _ _ _ _ _
  refine CW.seq ?_
  refine CW.region ?_
  refine LW.u (Pur.fa fo71_1 rfl) rfl ?_
  refine LW.ldbN hS3 1 rfl ag69 rfl rfl rfl ?_
  refine LW.alloc zv69 hS3 rfl ?_
  intro g5 w6 hS4 hf
  refine LW.stb hS4 0 rfl ag69 rfl rfl rfl rfl rfl ?_
  intro w7 hS5 hf
  refine LW.nil ?_
  show CW _ _ _ _ _ _
  refine CW.seq ?_
  refine CW.region ?_
  refine LW.bsl (α := Int) (vs := []) (cs := #[]) (l := ([] : List Int)) rfl (by kernel_rfl) rfl rfl rfl (fun w => rfl) hS5 rfl ?_
  intro a8 c9 w10 hS6 hf
  refine LW.u (Pur.fa fo69_3 rfl) rfl ?_
  refine LW.ldb hS6 1 rfl ag24 rfl rfl rfl ?_
  replace h := obind h
  obtain ⟨y11, hy11, h⟩ := h
  refine LW.appN (l := ([] : List Int)) (m := x0.gc.grey) sT24 rfl rfl (hS6.rB hr0_4) hy11 hS6 (i := 0) rfl rfl ?_
  intro a12 c13 w14 hS7 hf
  refine LW.u (Pur.fa fo69_3 rfl) rfl ?_
  refine LW.stb hS7 1 rfl ag24 rfl rfl rfl rfl rfl ?_
  intro w15 hS8 hf
  refine LW.nil ?_
  show CW _ _ _ _ _ _
  refine CW.seq ?_
  refine CW.draw (by kernel_rfl) ?_
  have hS9 := hS8.drew
  refine AW.u (i := 0) rfl (by kernel_rfl) rfl rfl (Pur.fa fo71_0 rfl) ?_
  refine AW.take (i := 1) rfl (by kernel_rfl) rfl rfl (Ldr.box (bt := 71) (fr := (0, 0)) (cs := [.slice a0_0 x0.arena.length c0_0, .int .i64 x0.gc.phase, .int .i64 x0.gc.pos, .int .i64 x0.gc.round, .slice a0_4 x0.gc.grey.length c0_4]) ag68 rfl rfl) (St.cell (h := hS9) (i := 3) rfl) ?_
  refine AW.take (i := 3) rfl (by kernel_rfl) rfl rfl (Ldr.boxN (bt := 69) (fr := (0, 0)) (cs := [.int .i64 x0.gc.phase, .int .i64 x0.gc.pos, .int .i64 x0.gc.round, .slice a12 y11.length c13]) ag69 rfl rfl) (St.cell (h := hS9) (i := 1) rfl) ?_
  replace h := obind h
  obtain ⟨y16, hy16, h⟩ := h
  have q := W_s_l8Copy (w0 := w15.drew) hy16 rfl (hS9.rB hr0_0)
  refine AW.one (i := 2) (by kernel_rfl) ?_
  refine ⟨_, rfl, ?_⟩
  refine LW.call pl164 rfl rfl ?_
  refine Ret.mono q ?_
  rintro _ w19 ⟨a17, c18, rfl, hs⟩
  have hS10 := hS9.add hs
  refine LW.nil ⟨rfl, (.c (St.cell (h := hS10) (i := 2) rfl) (.w (by kernel_rfl) Kept.n)), ?_⟩
  refine AW.u (i := 4) rfl (by kernel_rfl) rfl rfl (Pur.build (vs := [(0, .slice a17 y16.length c18), (1, .agg #[.int .i64 x0.gc.phase, .int .i64 x0.gc.pos, .int .i64 x0.gc.round, .slice a12 y11.length c13])]) (cs := #[.slice a17 y16.length c18, .int .i64 x0.gc.phase, .int .i64 x0.gc.pos, .int .i64 x0.gc.round, .slice a12 y11.length c13]) rfl (by kernel_rfl)) ?_
  refine AW.one (i := 5) (by kernel_rfl) ?_
  refine ⟨_, rfl, ?_⟩
  refine LW.stb hS10 3 rfl ag71 rfl rfl rfl rfl rfl ?_
  intro w20 hS11 hf
  refine LW.nil ⟨rfl, (.w (by kernel_rfl) (.w (by kernel_rfl) Kept.n)), ?_⟩
  refine AW.done (by kernel_rfl) ?_
  show CW _ _ _ _ _ _
  refine CW.ret ?_
  cases h
  exact And.intro trivial ⟨_, Res.one (resOne.b hS11 3 rfl ag71 rfl rfl), a17, c18, a12, c13, rfl, hS11.pick [0, 1] rfl rfl⟩

theorem W_s_l13Copy {w0 : World} {N : Nat} {x0 : DPart} {r : DPart} (h : F_s_l13Copy N x0 = some r) {a0_0 : Option Addr} {n0_0 c0_0 : Nat} (hn0_0 : n0_0 = x0.label.levels.length) (hr0_0 : rdS (Bor w0 []) w0 a0_0 c0_0 x0.label.levels) {a0_1 : Option Addr} {n0_1 c0_1 : Nat} (hn0_1 : n0_1 = x0.own.length) (hr0_1 : rdS (Bor w0 []) w0 a0_1 c0_1 x0.own) {a0_2 : Option Addr} {n0_2 c0_2 : Nat} (hn0_2 : n0_2 = x0.tree.length) (hr0_2 : rdS (Bor w0 []) w0 a0_2 c0_2 x0.tree) {a0_3 : Option Addr} {n0_3 c0_3 : Nat} (hn0_3 : n0_3 = x0.heap.arena.length) (hr0_3 : rdS (Bor w0 []) w0 a0_3 c0_3 x0.heap.arena) {a0_7 : Option Addr} {n0_7 c0_7 : Nat} (hn0_7 : n0_7 = x0.heap.gc.grey.length) (hr0_7 : rdS (Bor w0 []) w0 a0_7 c0_7 x0.heap.gc.grey) {a0_8 : Option Addr} {n0_8 c0_8 : Nat} (hn0_8 : n0_8 = x0.taps.length) (hr0_8 : rdS (Bor w0 []) w0 a0_8 c0_8 x0.taps) :
    Ret Try.prog 92 #[.agg #[.slice a0_0 n0_0 c0_0, .slice a0_1 n0_1 c0_1, .slice a0_2 n0_2 c0_2, .slice a0_3 n0_3 c0_3, .int .i64 x0.heap.gc.phase, .int .i64 x0.heap.gc.pos, .int .i64 x0.heap.gc.round, .slice a0_7 n0_7 c0_7, .slice a0_8 n0_8 c0_8, .int .i64 x0.next, .int .i64 x0.want, .int .i64 x0.spent.pages, .int .i64 x0.spent.rent, .int .i64 x0.spent.cpu, .int .i64 x0.press, .int .i64 x0.lost]] w0 (fun v w => ∃ ar0_0 cr0_0, ∃ ar0_1 cr0_1, ∃ ar0_2 cr0_2, ∃ ar0_3 cr0_3, ∃ ar0_7 cr0_7, ∃ ar0_8 cr0_8, v = .agg #[.slice ar0_0 r.label.levels.length cr0_0, .slice ar0_1 r.own.length cr0_1, .slice ar0_2 r.tree.length cr0_2, .slice ar0_3 r.heap.arena.length cr0_3, .int .i64 r.heap.gc.phase, .int .i64 r.heap.gc.pos, .int .i64 r.heap.gc.round, .slice ar0_7 r.heap.gc.grey.length cr0_7, .slice ar0_8 r.taps.length cr0_8, .int .i64 r.next, .int .i64 r.want, .int .i64 r.spent.pages, .int .i64 r.spent.rent, .int .i64 r.spent.cpu, .int .i64 r.press, .int .i64 r.lost] ∧ St w0 [] w [sl ar0_0 cr0_0 r.label.levels, sl ar0_1 cr0_1 r.own, sl ar0_2 cr0_2 r.tree, sl ar0_3 cr0_3 r.heap.arena, sl ar0_7 cr0_7 r.heap.gc.grey, sl ar0_8 cr0_8 r.taps]) := by
  subst hn0_0
  subst hn0_1
  subst hn0_2
  subst hn0_3
  subst hn0_7
  subst hn0_8
  unfold F_s_l13Copy at h
  refine Ret.of Try.func92 rfl rfl rfl ?_
  have hS1 := St.start w0
  refine CW.seq ?_
  refine CW.region ?_
  refine LW.box (cs := [.slice a0_0 x0.label.levels.length c0_0, .slice a0_1 x0.own.length c0_1, .slice a0_2 x0.tree.length c0_2, .slice a0_3 x0.heap.arena.length c0_3, .int .i64 x0.heap.gc.phase, .int .i64 x0.heap.gc.pos, .int .i64 x0.heap.gc.round, .slice a0_7 x0.heap.gc.grey.length c0_7, .slice a0_8 x0.taps.length c0_8, .int .i64 x0.next, .int .i64 x0.want, .int .i64 x0.spent.pages, .int .i64 x0.spent.rent, .int .i64 x0.spent.cpu, .int .i64 x0.press, .int .i64 x0.lost]) rfl hS1 rfl ?_
  intro g1 w2 hS2 hf
  refine LW.alloc zv75 hS2 rfl ?_
  intro g3 w4 hS3 hf
  refine LW.nil ?_
  show CW _ _ _ _ _ _
  refine CW.seq ?_
  refine CW.region ?_
  refine LW.bsl (α := Int) (vs := []) (cs := #[]) (l := ([] : List Int)) rfl (by kernel_rfl) rfl rfl rfl (fun w => rfl) hS3 rfl ?_
  intro a5 c6 w7 hS4 hf
  refine LW.u (Pur.fa fo75_0 rfl) rfl ?_
  refine LW.u (Pur.fa fo35_0 rfl) rfl ?_
  refine LW.ldb hS4 2 rfl ag24 rfl rfl rfl ?_
  replace h := obind h
  obtain ⟨y8, hy8, h⟩ := h
  refine LW.appN (l := ([] : List Int)) (m := x0.label.levels) sT24 rfl rfl (hS4.rB hr0_0) hy8 hS4 (i := 0) rfl rfl ?_
  intro a9 c10 w11 hS5 hf
  refine LW.u (Pur.build (vs := [(0, .slice a9 y8.length c10)]) (cs := #[.slice a9 y8.length c10]) rfl (by kernel_rfl)) rfl ?_
  refine LW.u (Pur.fa fo75_0 rfl) rfl ?_
  refine LW.stb hS5 2 rfl ag35 rfl rfl rfl rfl rfl ?_
  intro w12 hS6 hf
  refine LW.nil ?_
  show CW _ _ _ _ _ _
  refine CW.seq ?_
  refine CW.region ?_
  refine LW.bsl (α := Int) (vs := []) (cs := #[]) (l := ([] : List Int)) rfl (by kernel_rfl) rfl rfl rfl (fun w => rfl) hS6 rfl ?_
  intro a13 c14 w15 hS7 hf
  refine LW.u (Pur.fa fo75_1 rfl) rfl ?_
  refine LW.ldb hS7 3 rfl ag24 rfl rfl rfl ?_
  replace h := obind h
  obtain ⟨y16, hy16, h⟩ := h
  refine LW.appN (l := ([] : List Int)) (m := x0.own) sT24 rfl rfl (hS7.rB hr0_1) hy16 hS7 (i := 0) rfl rfl ?_
  intro a17 c18 w19 hS8 hf
  refine LW.u (Pur.fa fo75_1 rfl) rfl ?_
  refine LW.stb hS8 3 rfl ag24 rfl rfl rfl rfl rfl ?_
  intro w20 hS9 hf
  refine LW.nil ?_
  show CW _ _ _ _ _ _
  refine CW.fresh (l := [(1, .pointer (some ⟨g1, 0, none⟩)), (2, .pointer (some ⟨g3, 0, none⟩))]) ⟨rfl, rfl, trivial⟩ (fun e => ?_)
  refine CW.seq ?_
  refine CW.region ?_
  refine LW.u (Pur.fa fo75_2 rfl) rfl ?_
  refine LW.ldb hS9 3 rfl ag67 rfl rfl rfl ?_
  replace h := obind h
  obtain ⟨y21, hy21, h⟩ := h
  have q := W_s_l6Copy (w0 := w20) hy21 rfl (hS9.rB hr0_2)
  refine LW.call pl157 rfl rfl ?_
  refine Ret.mono q ?_
  rintro _ w24 ⟨a22, c23, rfl, hs⟩
  have hS10 := hS9.add hs
  refine LW.u (Pur.fa fo75_2 rfl) rfl ?_
  refine LW.stb hS10 4 rfl ag67 rfl rfl rfl rfl rfl ?_
  intro w25 hS11 hf
  refine LW.nil ?_
  show CW _ _ _ _ _ _
  refine CW.seq ?_
  refine CW.region ?_
  refine LW.u (Pur.fa fo75_3 rfl) rfl ?_
  refine LW.ldbN hS11 4 rfl ag71 rfl rfl rfl ?_
  replace h := obind h
  obtain ⟨y26, hy26, h⟩ := h
  have q := W_s_l10Copy (w0 := w25) hy26 rfl (hS11.rB hr0_3) rfl (hS11.rB hr0_7)
  refine LW.call pl158 rfl rfl ?_
  refine Ret.mono q ?_
  rintro _ w31 ⟨a27, c28, a29, c30, rfl, hs⟩
  have hS12 := hS11.add hs
  refine LW.u (Pur.fa fo75_3 rfl) rfl ?_
  refine LW.stb hS12 6 rfl ag71 rfl rfl rfl rfl rfl ?_
  intro w32 hS13 hf
  refine LW.nil ?_
  show CW _ _ _ _ _ _
  refine CW.seq ?_
  refine CW.region ?_
  refine LW.bsl (α := DTap) (vs := []) (cs := #[]) (l := ([] : List DTap)) rfl (by kernel_rfl) rfl rfl rfl (fun w => rfl) hS13 rfl ?_
  intro a33 c34 w35 hS14 hf
  refine LW.u (Pur.fa fo75_4 rfl) rfl ?_
  refine LW.ldb hS14 7 rfl ag72 rfl rfl rfl ?_
  replace h := obind h
  obtain ⟨y36, hy36, h⟩ := h
  refine LW.appN (l := ([] : List DTap)) (m := x0.taps) sT72 rfl rfl (hS14.rB hr0_8) hy36 hS14 (i := 0) rfl rfl ?_
  intro a37 c38 w39 hS15 hf
  refine LW.u (Pur.fa fo75_4 rfl) rfl ?_
  refine LW.stb hS15 7 rfl ag72 rfl rfl rfl rfl rfl ?_
  intro w40 hS16 hf
  refine LW.nil ?_
  show CW _ _ _ _ _ _
  refine CW.fresh (l := [(1, .pointer (some ⟨g1, 0, none⟩)), (2, .pointer (some ⟨g3, 0, none⟩))]) ⟨rfl, rfl, trivial⟩ (fun e => ?_)
  refine CW.seq ?_
  refine CW.region ?_
  refine LW.ldbN hS16 7 rfl ag75 rfl rfl rfl ?_
  refine LW.stb hS16 6 rfl ag75 rfl rfl rfl rfl rfl ?_
  intro w41 hS17 hf
  refine LW.nil ?_
  show CW _ _ _ _ _ _
  refine CW.ret ?_
  cases h
  exact And.intro trivial ⟨_, Res.one (resOne.b hS17 6 rfl ag75 rfl rfl), a9, c10, a17, c18, a22, c23, a27, c28, a29, c30, a37, c38, rfl, hS17.pick [5, 4, 3, 1, 2, 0] rfl rfl⟩

theorem W_i_copyInts {w0 : World} {N : Nat} {x0 : List Int} {r : (List Int)} (h : F_i_copyInts N x0 = some r) {a0_0 : Option Addr} {n0_0 c0_0 : Nat} (hn0_0 : n0_0 = x0.length) (hr0_0 : rdS (Bor w0 []) w0 a0_0 c0_0 x0) :
    Ret Try.prog 115 #[.slice a0_0 n0_0 c0_0] w0 (fun v w => ∃ ar0 cr0, v = .slice ar0 r.length cr0 ∧ St w0 [] w [sl ar0 cr0 r]) := by
  subst hn0_0
  unfold F_i_copyInts at h
  refine Ret.of Try.func115 rfl rfl rfl ?_
  have hS1 := St.start w0
  refine CW.seq ?_
  refine CW.region ?_
  refine LW.p rfl rfl ?_
  refine LW.nil ?_
  show CW _ _ _ _ _ _
  refine CW.seq ?_
  refine CW.region ?_
  refine LW.bsl (α := Int) (vs := []) (cs := #[]) (l := ([] : List Int)) rfl (by kernel_rfl) rfl rfl rfl (fun w => rfl) hS1 rfl ?_
  intro a1 c2 w3 hS2 hf
  refine LW.p rfl rfl ?_
  replace h := obind h
  obtain ⟨y4, hy4, h⟩ := h
  refine LW.appN (l := ([] : List Int)) (m := x0) sT24 rfl rfl (hS2.rB hr0_0) hy4 hS2 (i := 0) rfl rfl ?_
  intro a5 c6 w7 hS3 hf
  refine LW.p rfl rfl ?_
  refine LW.nil ?_
  show CW _ _ _ _ _ _
  refine CW.ret ?_
  cases h
  exact And.intro trivial ⟨_, Res.one (resOne.t rfl), a5, c6, rfl, hS3.pick [0] rfl rfl⟩

theorem W_i_copyLabel {w0 : World} {N : Nat} {x0 : DLabel} {r : DLabel} (h : F_i_copyLabel N x0 = some r) {a0_0 : Option Addr} {n0_0 c0_0 : Nat} (hn0_0 : n0_0 = x0.levels.length) (hr0_0 : rdS (Bor w0 []) w0 a0_0 c0_0 x0.levels) :
    Ret Try.prog 114 #[.agg #[.slice a0_0 n0_0 c0_0]] w0 (fun v w => ∃ ar0_0 cr0_0, v = .agg #[.slice ar0_0 r.levels.length cr0_0] ∧ St w0 [] w [sl ar0_0 cr0_0 r.levels]) := by
  subst hn0_0
  unfold F_i_copyLabel at h
  refine Ret.of Try.func114 rfl rfl rfl ?_
  have hS1 := St.start w0
  refine CW.seq ?_
  refine CW.region ?_
  refine LW.box (cs := [.slice a0_0 x0.levels.length c0_0]) rfl hS1 rfl ?_
  intro g1 w2 hS2 hf
  refine LW.alloc zv35 hS2 rfl ?_
  intro g3 w4 hS3 hf
  refine LW.nil ?_
  show CW _ _ _ _ _ _
  refine CW.seq ?_
  refine CW.region ?_
  refine LW.u (Pur.fa fo35_0 rfl) rfl ?_
  refine LW.ldb hS3 1 rfl ag24 rfl rfl rfl ?_
  replace h := obind h
  obtain ⟨y5, hy5, h⟩ := h
  have q := W_i_copyInts (w0 := w4) hy5 rfl (hS3.rB hr0_0)
  refine LW.call pl115 rfl rfl ?_
  refine Ret.mono q ?_
  rintro _ w8 ⟨a6, c7, rfl, hs⟩
  have hS4 := hS3.add hs
  refine LW.u (Pur.build (vs := [(0, .slice a6 y5.length c7)]) (cs := #[.slice a6 y5.length c7]) rfl (by kernel_rfl)) rfl ?_
  refine LW.stb hS4 1 rfl ag35 rfl rfl rfl rfl rfl ?_
  intro w9 hS5 hf
  refine LW.nil ?_
  show CW _ _ _ _ _ _
  refine CW.ret ?_
  cases h
  exact And.intro trivial ⟨_, Res.one (resOne.b hS5 1 rfl ag35 rfl rfl), a6, c7, rfl, hS5.pick [0] rfl rfl⟩

theorem W_i_copyObj {w0 : World} {N : Nat} {x0 : DObj} {r : DObj} (h : F_i_copyObj N x0 = some r) {a0_10 : Option Addr} {n0_10 c0_10 : Nat} (hn0_10 : n0_10 = x0.links.length) (hr0_10 : rdS (Bor w0 []) w0 a0_10 c0_10 x0.links) {a0_11 : Option Addr} {n0_11 c0_11 : Nat} (hn0_11 : n0_11 = x0.data.length) (hr0_11 : rdS (Bor w0 []) w0 a0_11 c0_11 x0.data) {a0_12 : Option Addr} {n0_12 c0_12 : Nat} (hn0_12 : n0_12 = x0.queue.length) (hr0_12 : rdS (Bor w0 []) w0 a0_12 c0_12 x0.queue) :
    Ret Try.prog 169 #[.agg #[.int .i64 x0.gen, .int .i64 x0.kind, .int .i64 x0.box, .int .i64 x0.res, .int .i64 x0.til, .int .i64 x0.pages, .int .i64 x0.wait, .int .i64 x0.got, .int .i64 x0.ran, .bool x0.mark, .slice a0_10 n0_10 c0_10, .slice a0_11 n0_11 c0_11, .slice a0_12 n0_12 c0_12]] w0 (fun v w => ∃ ar0_10 cr0_10, ∃ ar0_11 cr0_11, ∃ ar0_12 cr0_12, v = .agg #[.int .i64 r.gen, .int .i64 r.kind, .int .i64 r.box, .int .i64 r.res, .int .i64 r.til, .int .i64 r.pages, .int .i64 r.wait, .int .i64 r.got, .int .i64 r.ran, .bool r.mark, .slice ar0_10 r.links.length cr0_10, .slice ar0_11 r.data.length cr0_11, .slice ar0_12 r.queue.length cr0_12] ∧ St w0 [] w [sl ar0_10 cr0_10 r.links, sl ar0_11 cr0_11 r.data, sl ar0_12 cr0_12 r.queue]) := by
  subst hn0_10
  subst hn0_11
  subst hn0_12
  unfold F_i_copyObj at h
  refine Ret.of Try.func169 rfl rfl rfl ?_
  have hS1 := St.start w0
  refine CW.seq ?_
  refine CW.region ?_
  refine LW.box (cs := [.int .i64 x0.gen, .int .i64 x0.kind, .int .i64 x0.box, .int .i64 x0.res, .int .i64 x0.til, .int .i64 x0.pages, .int .i64 x0.wait, .int .i64 x0.got, .int .i64 x0.ran, .bool x0.mark, .slice a0_10 x0.links.length c0_10, .slice a0_11 x0.data.length c0_11, .slice a0_12 x0.queue.length c0_12]) rfl hS1 rfl ?_
  intro g1 w2 hS2 hf
  refine LW.alloc zv123 hS2 rfl ?_
  intro g3 w4 hS3 hf
  refine LW.nil ?_
  show CW _ _ _ _ _ _
  refine CW.seq ?_
  obtain ⟨j5, hj5, h6⟩ := obind h
  refine CW.cut (fun e wb => ∃ (j5a0 : Option Addr), ∃ (j5c0 : Nat), ∃ (j5a2 : Option Addr), ∃ (j5c2 : Nat), ∃ (j5a4 : Option Addr), ∃ (j5c4 : Nat), En e [(1, .pointer (some ⟨g1, 0, none⟩)), (2, .pointer (some ⟨g3, 0, none⟩))] ∧ St w0 [] wb [bx g3 123 [.int .i64 0, .int .i64 0, .int .i64 0, .int .i64 0, .int .i64 0, .int .i64 0, .int .i64 0, .int .i64 0, .int .i64 0, .bool false, .slice none 0 0, .slice none 0 0, .slice none 0 0], bx g1 123 [.int .i64 x0.gen, .int .i64 x0.kind, .int .i64 x0.box, .int .i64 x0.res, .int .i64 x0.til, .int .i64 x0.pages, .int .i64 x0.wait, .int .i64 x0.got, .int .i64 x0.ran, .bool x0.mark, .slice j5a0 j5.1.length j5c0, .slice j5a2 j5.2.1.length j5c2, .slice j5a4 j5.2.2.length j5c4], sl j5a0 j5c0 j5.1, sl j5a2 j5c2 j5.2.1, sl j5a4 j5c4 j5.2.2]) ?_ ?_
  · have h := hj5
    refine CW.draw (by kernel_rfl) ?_
    have hS4 := hS3.drew
    refine AW.u (i := 0) rfl (by kernel_rfl) rfl rfl (Pur.fa fo123_10 rfl) ?_
    refine AW.take (i := 1) rfl (by kernel_rfl) rfl rfl (Ldr.box (bt := 123) (fr := (0, 0)) (cs := [.int .i64 x0.gen, .int .i64 x0.kind, .int .i64 x0.box, .int .i64 x0.res, .int .i64 x0.til, .int .i64 x0.pages, .int .i64 x0.wait, .int .i64 x0.got, .int .i64 x0.ran, .bool x0.mark, .slice a0_10 x0.links.length c0_10, .slice a0_11 x0.data.length c0_11, .slice a0_12 x0.queue.length c0_12]) ag24 rfl rfl) (St.cell (h := hS4) (i := 1) rfl) ?_
    refine AW.u (i := 3) rfl (by kernel_rfl) rfl rfl (Pur.fa fo123_11 rfl) ?_
    refine AW.take (i := 4) rfl (by kernel_rfl) rfl rfl (Ldr.box (bt := 123) (fr := (0, 0)) (cs := [.int .i64 x0.gen, .int .i64 x0.kind, .int .i64 x0.box, .int .i64 x0.res, .int .i64 x0.til, .int .i64 x0.pages, .int .i64 x0.wait, .int .i64 x0.got, .int .i64 x0.ran, .bool x0.mark, .slice a0_10 x0.links.length c0_10, .slice a0_11 x0.data.length c0_11, .slice a0_12 x0.queue.length c0_12]) ag24 rfl rfl) (St.cell (h := hS4) (i := 1) rfl) ?_
    refine AW.u (i := 7) rfl (by kernel_rfl) rfl rfl (Pur.fa fo123_12 rfl) ?_
    refine AW.take (i := 8) rfl (by kernel_rfl) rfl rfl (Ldr.box (bt := 123) (fr := (0, 0)) (cs := [.int .i64 x0.gen, .int .i64 x0.kind, .int .i64 x0.box, .int .i64 x0.res, .int .i64 x0.til, .int .i64 x0.pages, .int .i64 x0.wait, .int .i64 x0.got, .int .i64 x0.ran, .bool x0.mark, .slice a0_10 x0.links.length c0_10, .slice a0_11 x0.data.length c0_11, .slice a0_12 x0.queue.length c0_12]) ag121 rfl rfl) (St.cell (h := hS4) (i := 1) rfl) ?_
    replace h := obind h
    obtain ⟨y7, hy7, h⟩ := h
    refine AW.all (rs := [2, 6]) (by kernel_rfl) (by simp) ⟨?_, ?_, trivial⟩
    · have q := W_i_copyInts (w0 := w4.drew) hy7 rfl (hS4.rB hr0_10)
      refine ⟨_, rfl, ?_⟩
      refine LW.call pl115 rfl rfl ?_
      refine Ret.mono q ?_
      rintro _ w19 ⟨a17, c18, rfl, hs⟩
      have hS5 := hS4.add hs
      refine LW.nil ⟨rfl, (.c (St.cell (h := hS5) (i := 2) rfl) (.c (St.cell (h := hS5) (i := 2) rfl) (.w (by kernel_rfl) Kept.n))), ?_⟩
      refine AW.u (i := 10) rfl (by kernel_rfl) rfl rfl (Pur.fa fo123_10 rfl) ?_
      replace h := obind h
      obtain ⟨y20, hy20, h⟩ := h
      refine AW.all (rs := [5, 6]) (by kernel_rfl) (by simp) ⟨?_, ?_, trivial⟩
      · have q := W_i_copyInts (w0 := w19) hy20 rfl (hS5.rB hr0_11)
        refine ⟨_, rfl, ?_⟩
        refine LW.call pl115 rfl rfl ?_
        refine Ret.mono q ?_
        rintro _ w32 ⟨a30, c31, rfl, hs⟩
        have hS6 := hS5.add hs
        refine LW.nil ⟨rfl, (.c (St.cell (h := hS6) (i := 3) rfl) (.w (by kernel_rfl) (.c (St.cell (h := hS6) (i := 3) rfl) Kept.n))), ?_⟩
        refine AW.one (i := 6) (by kernel_rfl) ?_
        refine ⟨_, rfl, ?_⟩
        refine LW.bsl (α := DMsg) (vs := []) (cs := #[]) (l := ([] : List DMsg)) rfl (by kernel_rfl) rfl rfl rfl (fun w => rfl) hS6 rfl ?_
        intro a33 c34 w35 hS7 hf
        refine LW.nil ⟨rfl, (.c (St.cell (h := hS7) (i := 4) rfl) (.c (St.cell (h := hS7) (i := 4) rfl) (.c (St.cell (h := hS7) (i := 4) rfl) Kept.n))), ?_⟩
        replace h := obind h
        obtain ⟨y36, hy36, h⟩ := h
        refine AW.one (i := 9) (by kernel_rfl) ?_
        refine ⟨_, rfl, ?_⟩
        refine LW.appN (l := ([] : List DMsg)) (m := x0.queue) sT121 rfl rfl (hS7.rB hr0_12) hy36 hS7 (i := 0) rfl rfl ?_
        intro a37 c38 w39 hS8 hf
        refine LW.nil ⟨rfl, (.w (by kernel_rfl) (.c (St.cell (h := hS8) (i := 4) rfl) (.c (St.cell (h := hS8) (i := 4) rfl) Kept.n))), ?_⟩
        refine AW.one (i := 11) (by kernel_rfl) ?_
        refine ⟨_, rfl, ?_⟩
        refine LW.stb hS8 4 rfl ag24 rfl rfl rfl rfl rfl ?_
        intro w40 hS9 hf
        refine LW.nil ⟨rfl, (.w (by kernel_rfl) (.w (by kernel_rfl) (.w (by kernel_rfl) Kept.n))), ?_⟩
        refine AW.u (i := 12) rfl (by kernel_rfl) rfl rfl (Pur.fa fo123_11 rfl) ?_
        refine AW.one (i := 13) (by kernel_rfl) ?_
        refine ⟨_, rfl, ?_⟩
        refine LW.stb hS9 4 rfl ag24 rfl rfl rfl rfl rfl ?_
        intro w41 hS10 hf
        refine LW.nil ⟨rfl, (.w (by kernel_rfl) (.w (by kernel_rfl) (.w (by kernel_rfl) Kept.n))), ?_⟩
        refine AW.u (i := 14) rfl (by kernel_rfl) rfl rfl (Pur.fa fo123_12 rfl) ?_
        refine AW.one (i := 15) (by kernel_rfl) ?_
        refine ⟨_, rfl, ?_⟩
        refine LW.stb hS10 4 rfl ag121 rfl rfl rfl rfl rfl ?_
        intro w42 hS11 hf
        refine LW.nil ⟨rfl, (.w (by kernel_rfl) (.w (by kernel_rfl) (.w (by kernel_rfl) Kept.n))), ?_⟩
        refine AW.done (by kernel_rfl) ?_
        replace h := Option.some.inj h
        subst h
        exact ⟨a17, c18, a30, c31, a37, c38, ⟨rfl, rfl, trivial⟩, hS11.pick [3, 4, 2, 1, 0] rfl rfl⟩
      refine ⟨_, rfl, ?_⟩
      refine LW.bsl (α := DMsg) (vs := []) (cs := #[]) (l := ([] : List DMsg)) rfl (by kernel_rfl) rfl rfl rfl (fun w => rfl) hS5 rfl ?_
      intro a43 c44 w45 hS12 hf
      refine LW.nil ⟨rfl, (.c (St.cell (h := hS12) (i := 3) rfl) (.c (St.cell (h := hS12) (i := 3) rfl) (.c (St.cell (h := hS12) (i := 3) rfl) Kept.n))), ?_⟩
      have q := W_i_copyInts (w0 := w45) hy20 rfl (hS12.rB hr0_11)
      refine AW.one (i := 5) (by kernel_rfl) ?_
      refine ⟨_, rfl, ?_⟩
      refine LW.call pl115 rfl rfl ?_
      refine Ret.mono q ?_
      rintro _ w48 ⟨a46, c47, rfl, hs⟩
      have hS13 := hS12.add hs
      refine LW.nil ⟨rfl, (.c (St.cell (h := hS13) (i := 4) rfl) (.w (by kernel_rfl) (.c (St.cell (h := hS13) (i := 4) rfl) Kept.n))), ?_⟩
      replace h := obind h
      obtain ⟨y49, hy49, h⟩ := h
      refine AW.one (i := 9) (by kernel_rfl) ?_
      refine ⟨_, rfl, ?_⟩
      refine LW.appN (l := ([] : List DMsg)) (m := x0.queue) sT121 rfl rfl (hS13.rB hr0_12) hy49 hS13 (i := 1) rfl rfl ?_
      intro a50 c51 w52 hS14 hf
      refine LW.nil ⟨rfl, (.w (by kernel_rfl) (.c (St.cell (h := hS14) (i := 4) rfl) (.c (St.cell (h := hS14) (i := 4) rfl) Kept.n))), ?_⟩
      refine AW.one (i := 11) (by kernel_rfl) ?_
      refine ⟨_, rfl, ?_⟩
      refine LW.stb hS14 4 rfl ag24 rfl rfl rfl rfl rfl ?_
      intro w53 hS15 hf
      refine LW.nil ⟨rfl, (.w (by kernel_rfl) (.w (by kernel_rfl) (.w (by kernel_rfl) Kept.n))), ?_⟩
      refine AW.u (i := 12) rfl (by kernel_rfl) rfl rfl (Pur.fa fo123_11 rfl) ?_
      refine AW.one (i := 13) (by kernel_rfl) ?_
      refine ⟨_, rfl, ?_⟩
      refine LW.stb hS15 4 rfl ag24 rfl rfl rfl rfl rfl ?_
      intro w54 hS16 hf
      refine LW.nil ⟨rfl, (.w (by kernel_rfl) (.w (by kernel_rfl) (.w (by kernel_rfl) Kept.n))), ?_⟩
      refine AW.u (i := 14) rfl (by kernel_rfl) rfl rfl (Pur.fa fo123_12 rfl) ?_
      refine AW.one (i := 15) (by kernel_rfl) ?_
      refine ⟨_, rfl, ?_⟩
      refine LW.stb hS16 4 rfl ag121 rfl rfl rfl rfl rfl ?_
      intro w55 hS17 hf
      refine LW.nil ⟨rfl, (.w (by kernel_rfl) (.w (by kernel_rfl) (.w (by kernel_rfl) Kept.n))), ?_⟩
      refine AW.done (by kernel_rfl) ?_
      replace h := Option.some.inj h
      subst h
      exact ⟨a17, c18, a46, c47, a50, c51, ⟨rfl, rfl, trivial⟩, hS17.pick [3, 4, 2, 0, 1] rfl rfl⟩
    refine ⟨_, rfl, ?_⟩
    refine LW.bsl (α := DMsg) (vs := []) (cs := #[]) (l := ([] : List DMsg)) rfl (by kernel_rfl) rfl rfl rfl (fun w => rfl) hS4 rfl ?_
    intro a56 c57 w58 hS18 hf
    refine LW.nil ⟨rfl, (.c (St.cell (h := hS18) (i := 2) rfl) (.c (St.cell (h := hS18) (i := 2) rfl) (.c (St.cell (h := hS18) (i := 2) rfl) Kept.n))), ?_⟩
    have q := W_i_copyInts (w0 := w58) hy7 rfl (hS18.rB hr0_10)
    refine AW.one (i := 2) (by kernel_rfl) ?_
    refine ⟨_, rfl, ?_⟩
    refine LW.call pl115 rfl rfl ?_
    refine Ret.mono q ?_
    rintro _ w61 ⟨a59, c60, rfl, hs⟩
    have hS19 := hS18.add hs
    refine LW.nil ⟨rfl, (.c (St.cell (h := hS19) (i := 3) rfl) (.c (St.cell (h := hS19) (i := 3) rfl) (.w (by kernel_rfl) Kept.n))), ?_⟩
    refine AW.u (i := 10) rfl (by kernel_rfl) rfl rfl (Pur.fa fo123_10 rfl) ?_
    replace h := obind h
    obtain ⟨y62, hy62, h⟩ := h
    have q := W_i_copyInts (w0 := w61) hy62 rfl (hS19.rB hr0_11)
    refine AW.one (i := 5) (by kernel_rfl) ?_
    refine ⟨_, rfl, ?_⟩
    refine LW.call pl115 rfl rfl ?_
    refine Ret.mono q ?_
    rintro _ w65 ⟨a63, c64, rfl, hs⟩
    have hS20 := hS19.add hs
    refine LW.nil ⟨rfl, (.c (St.cell (h := hS20) (i := 4) rfl) (.w (by kernel_rfl) (.c (St.cell (h := hS20) (i := 4) rfl) Kept.n))), ?_⟩
    replace h := obind h
    obtain ⟨y66, hy66, h⟩ := h
    refine AW.one (i := 9) (by kernel_rfl) ?_
    refine ⟨_, rfl, ?_⟩
    refine LW.appN (l := ([] : List DMsg)) (m := x0.queue) sT121 rfl rfl (hS20.rB hr0_12) hy66 hS20 (i := 2) rfl rfl ?_
    intro a67 c68 w69 hS21 hf
    refine LW.nil ⟨rfl, (.w (by kernel_rfl) (.c (St.cell (h := hS21) (i := 4) rfl) (.c (St.cell (h := hS21) (i := 4) rfl) Kept.n))), ?_⟩
    refine AW.one (i := 11) (by kernel_rfl) ?_
    refine ⟨_, rfl, ?_⟩
    refine LW.stb hS21 4 rfl ag24 rfl rfl rfl rfl rfl ?_
    intro w70 hS22 hf
    refine LW.nil ⟨rfl, (.w (by kernel_rfl) (.w (by kernel_rfl) (.w (by kernel_rfl) Kept.n))), ?_⟩
    refine AW.u (i := 12) rfl (by kernel_rfl) rfl rfl (Pur.fa fo123_11 rfl) ?_
    refine AW.one (i := 13) (by kernel_rfl) ?_
    refine ⟨_, rfl, ?_⟩
    refine LW.stb hS22 4 rfl ag24 rfl rfl rfl rfl rfl ?_
    intro w71 hS23 hf
    refine LW.nil ⟨rfl, (.w (by kernel_rfl) (.w (by kernel_rfl) (.w (by kernel_rfl) Kept.n))), ?_⟩
    refine AW.u (i := 14) rfl (by kernel_rfl) rfl rfl (Pur.fa fo123_12 rfl) ?_
    refine AW.one (i := 15) (by kernel_rfl) ?_
    refine ⟨_, rfl, ?_⟩
    refine LW.stb hS23 4 rfl ag121 rfl rfl rfl rfl rfl ?_
    intro w72 hS24 hf
    refine LW.nil ⟨rfl, (.w (by kernel_rfl) (.w (by kernel_rfl) (.w (by kernel_rfl) Kept.n))), ?_⟩
    refine AW.done (by kernel_rfl) ?_
    replace h := Option.some.inj h
    subst h
    exact ⟨a59, c60, a63, c64, a67, c68, ⟨rfl, rfl, trivial⟩, hS24.pick [3, 4, 1, 0, 2] rfl rfl⟩
  intro e w73 hM
  obtain ⟨j5a0, j5c0, j5a2, j5c2, j5a4, j5c4, hE, hS25⟩ := hM
  obtain ⟨e, rfl⟩ := hE.out
  have h := h6
  show CW _ _ _ _ _ _
  refine CW.seq ?_
  refine CW.region ?_
  refine LW.ldbN hS25 1 rfl ag123 rfl rfl rfl ?_
  refine LW.stb hS25 0 rfl ag123 rfl rfl rfl rfl rfl ?_
  intro w74 hS26 hf
  refine LW.nil ?_
  show CW _ _ _ _ _ _
  refine CW.ret ?_
  cases h
  exact And.intro trivial ⟨_, Res.one (resOne.b hS26 0 rfl ag123 rfl rfl), j5a0, j5c0, j5a2, j5c2, j5a4, j5c4, rfl, hS26.pick [2, 3, 4] rfl rfl⟩

theorem W_i_copyArena {w0 : World} {N : Nat} {x0 : List DObj} {r : (List DObj)} (h : F_i_copyArena N x0 = some r) {a0_0 : Option Addr} {n0_0 c0_0 : Nat} (hn0_0 : n0_0 = x0.length) (hr0_0 : rdS (Bor w0 []) w0 a0_0 c0_0 x0) :
    Ret Try.prog 167 #[.slice a0_0 n0_0 c0_0] w0 (fun v w => ∃ ar0 cr0, v = .slice ar0 r.length cr0 ∧ St w0 [] w [sl ar0 cr0 r]) := by
  subst hn0_0
  unfold F_i_copyArena at h
  refine Ret.of Try.func167 rfl rfl rfl ?_
  have hS1 := St.start w0
  refine CW.seq ?_
  refine CW.region ?_
  refine LW.p rfl rfl ?_
  refine LW.nil ?_
  show CW _ _ _ _ _ _
  refine CW.seq ?_
  refine CW.region ?_
  refine LW.bsl (α := DObj) (vs := []) (cs := #[]) (l := ([] : List DObj)) rfl (by kernel_rfl) rfl rfl rfl (fun w => rfl) hS1 rfl ?_
  intro a1 c2 w3 hS2 hf
  refine LW.p rfl rfl ?_
  refine LW.nil ?_
  show CW _ _ _ _ _ _
  refine CW.seq ?_
  refine CW.seq ?_
  refine CW.region ?_
  refine LW.p rfl rfl ?_
  refine LW.u (Pur.len Try.underlying68 rfl) rfl ?_
  refine LW.p rfl rfl ?_
  refine LW.nil ?_
  show CW _ _ _ _ _ _
  refine CW.block ?_
  obtain ⟨o41, ho41, h42⟩ := obind h
  refine CW.mono (CW.iter (σ := (List DObj) × Int) (ρ := (List DObj) × Int) (fun s4 e wb => ∃ (s4a0 : Option Addr), ∃ (s4c0 : Nat), En e [(3, .slice s4a0 s4.1.length s4c0), (7, .slice a0_0 x0.length c0_0), (8, .int .i64 (x0.length : Int)), (9, .int .i64 s4.2)] ∧ St w0 [] wb [sl s4a0 s4c0 s4.1]) (fun s4 x e wb => x = .exit 0 ∧ ∃ (s4a0 : Option Addr), ∃ (s4c0 : Nat), En e [(3, .slice s4a0 s4.1.length s4c0)] ∧ St w0 [] wb [sl s4a0 s4c0 s4.1]) ?_ N (([] : List DObj), 0) _ _ _ ⟨a1, c2, ⟨rfl, rfl, rfl, rfl, trivial⟩, hS2.pick [0] rfl rfl⟩ ho41) ?_
  · intro s4 e w5 o hM h
    obtain ⟨s4a0, s4c0, hE, hS3⟩ := hM
    obtain ⟨e, rfl⟩ := hE.out
    refine CW.seq ?_
    refine CW.region ?_
    refine LW.p rfl rfl ?_
    refine LW.nil ?_
    show CW _ _ _ _ _ _
    refine CW.seq ?_
    refine CW.cond rfl (fun hc6 => ?_) (fun hc6 => ?_)
    · replace h := bcT h hc6
      refine CW.skip ?_
      show CW _ _ _ _ _ _
      refine CW.seq ?_
      refine CW.block ?_
      refine CW.seq ?_
      refine CW.region ?_
      replace h := obind h
      obtain ⟨y7, hy7, h⟩ := h
      obtain ⟨b10, o11, cs12, hae, hb15, hp8, hq9, hd13, hk14⟩ := hr0_0.idx hy7
      subst hae
      obtain ⟨a16, c17, a19, c20, a22, c23, rfl, hr18, hr21, hr24⟩ := hd13
      refine LW.u (Pur.ix Try.underlying68 sz123 rfl rfl hp8 hq9) rfl ?_
      refine LW.l (Ldr.oldN w0 ag123 rfl rfl (fun j u hu => hk14 j u hu)) (hS3.same _ hb15.1 hb15.2) rfl ?_
      refine LW.alloc zv123 hS3 rfl ?_
      intro g25 w26 hS4 hf
      refine LW.stb hS4 0 rfl ag123 rfl rfl rfl rfl rfl ?_
      intro w27 hS5 hf
      refine LW.nil ?_
      show CW _ _ _ _ _ _
      refine CW.region ?_
      refine LW.p rfl rfl ?_
      refine LW.ldbN hS5 0 rfl ag123 rfl rfl rfl ?_
      replace h := obind h
      obtain ⟨y28, hy28, h⟩ := h
      have q := W_i_copyObj (w0 := w27) hy28 rfl (hS5.rB hr18) rfl (hS5.rB hr21) rfl (hS5.rB hr24)
      refine LW.call pl169 rfl rfl ?_
      refine Ret.mono q ?_
      rintro _ w35 ⟨a29, c30, a31, c32, a33, c34, rfl, hs⟩
      have hS6 := hS5.add hs
      have hS7 := hS6.pick (M := [sl a29 c30 y28.links, sl a31 c32 y28.data, sl a33 c34 y28.queue] ++ [bx g25 123 [.int .i64 y7.gen, .int .i64 y7.kind, .int .i64 y7.box, .int .i64 y7.res, .int .i64 y7.til, .int .i64 y7.pages, .int .i64 y7.wait, .int .i64 y7.got, .int .i64 y7.ran, .bool y7.mark, .slice a16 y7.links.length c17, .slice a19 y7.data.length c20, .slice a22 y7.queue.length c23], sl s4a0 s4c0 s4.1]) [0, 1, 2, 3, 4] rfl rfl
      replace h := obind h
      obtain ⟨y36, hy36, h⟩ := h
      refine LW.app1 (M := [sl a29 c30 y28.links, sl a31 c32 y28.data, sl a33 c34 y28.queue]) (L := [bx g25 123 [.int .i64 y7.gen, .int .i64 y7.kind, .int .i64 y7.box, .int .i64 y7.res, .int .i64 y7.til, .int .i64 y7.pages, .int .i64 y7.wait, .int .i64 y7.got, .int .i64 y7.ran, .bool y7.mark, .slice a16 y7.links.length c17, .slice a19 y7.data.length c20, .slice a22 y7.queue.length c23], sl s4a0 s4c0 s4.1]) (vs := #[.int .i64 y28.gen, .int .i64 y28.kind, .int .i64 y28.box, .int .i64 y28.res, .int .i64 y28.til, .int .i64 y28.pages, .int .i64 y28.wait, .int .i64 y28.got, .int .i64 y28.ran, .bool y28.mark, .slice a29 y28.links.length c30, .slice a31 y28.data.length c32, .slice a33 y28.queue.length c34]) (i := 1) sT68 rfl (by kernel_rfl) rfl rfl hy36 hS7 rfl (fun w G hG => ⟨a29, c30, a31, c32, a33, c34, rfl, hG⟩) rfl rfl ?_
      intro v39 a37 c38 w40 hS8 hf
      refine LW.p rfl rfl ?_
      refine LW.nil ?_
      show CW _ _ _ _ _ _
      refine CW.fresh (l := [(3, .slice a37 y36.length c38), (7, .slice (some ⟨b10, o11, none⟩) x0.length c0_0), (8, .int .i64 (x0.length : Int)), (9, .int .i64 s4.2)]) ⟨rfl, rfl, rfl, rfl, trivial⟩ (fun e => ?_)
      refine CW.region ?_
      iterate 2 refine LW.p rfl rfl ?_
      refine LW.nil ?_
      replace h := Option.some.inj h
      subst h
      exact ⟨rfl, ⟨a37, c38, ⟨rfl, rfl, rfl, rfl, trivial⟩, hS8.pick [1] rfl rfl⟩⟩
    replace h := bcF h hc6
    refine CW.exit ?_
    replace h := Option.some.inj h
    subst h
    exact ⟨trivial, rfl, ⟨s4a0, s4c0, ⟨rfl, trivial⟩, hS3.pick [0] rfl rfl⟩⟩
  intro x e w43 hM
  obtain ⟨rfl, hM⟩ := hM
  obtain ⟨s4a0, s4c0, hE, hS9⟩ := hM
  obtain ⟨e, rfl⟩ := hE.out
  have h := h42
  show CW _ _ _ _ _ _
  refine CW.seq ?_
  refine CW.region ?_
  iterate 2 refine LW.p rfl rfl ?_
  refine LW.nil ?_
  show CW _ _ _ _ _ _
  refine CW.ret ?_
  cases h
  exact And.intro trivial ⟨_, Res.one (resOne.t rfl), s4a0, s4c0, rfl, hS9.pick [0] rfl rfl⟩

theorem W_i_copyHeap {w0 : World} {N : Nat} {x0 : DHeap} {r : DHeap} (h : F_i_copyHeap N x0 = some r) {a0_0 : Option Addr} {n0_0 c0_0 : Nat} (hn0_0 : n0_0 = x0.arena.length) (hr0_0 : rdS (Bor w0 []) w0 a0_0 c0_0 x0.arena) {a0_4 : Option Addr} {n0_4 c0_4 : Nat} (hn0_4 : n0_4 = x0.gc.grey.length) (hr0_4 : rdS (Bor w0 []) w0 a0_4 c0_4 x0.gc.grey) :
    Ret Try.prog 161 #[.agg #[.slice a0_0 n0_0 c0_0, .int .i64 x0.gc.phase, .int .i64 x0.gc.pos, .int .i64 x0.gc.round, .slice a0_4 n0_4 c0_4]] w0 (fun v w => ∃ ar0_0 cr0_0, ∃ ar0_4 cr0_4, v = .agg #[.slice ar0_0 r.arena.length cr0_0, .int .i64 r.gc.phase, .int .i64 r.gc.pos, .int .i64 r.gc.round, .slice ar0_4 r.gc.grey.length cr0_4] ∧ St w0 [] w [sl ar0_0 cr0_0 r.arena, sl ar0_4 cr0_4 r.gc.grey]) := by
  subst hn0_0
  subst hn0_4
  unfold F_i_copyHeap at h
  refine Ret.of Try.func161 rfl rfl rfl ?_
  have hS1 := St.start w0
  refine CW.seq ?_
  refine CW.region ?_
  refine LW.box (cs := [.slice a0_0 x0.arena.length c0_0, .int .i64 x0.gc.phase, .int .i64 x0.gc.pos, .int .i64 x0.gc.round, .slice a0_4 x0.gc.grey.length c0_4]) rfl hS1 rfl ?_
  intro g1 w2 hS2 hf
  refine LW.alloc zv71 hS2 rfl ?_
  intro g3 w4 hS3 hf
  refine LW.nil ?_
  show CW _ _ _ _ _ _
  refine CW.seq ?_
  obtain ⟨j5, hj5, h6⟩ := obind h
  refine CW.cut (fun e wb => ∃ (j5g3 : Nat), ∃ (j5a1 : Option Addr), ∃ (j5c1 : Nat), En e [(1, .pointer (some ⟨g1, 0, none⟩)), (2, .pointer (some ⟨g3, 0, none⟩)), (3, .pointer (some ⟨j5g3, 0, none⟩))] ∧ St w0 [] wb [bx g3 71 [.slice none 0 0, .int .i64 0, .int .i64 0, .int .i64 0, .slice none 0 0], bx g1 71 [.slice a0_0 x0.arena.length c0_0, .int .i64 x0.gc.phase, .int .i64 x0.gc.pos, .int .i64 x0.gc.round, .slice a0_4 x0.gc.grey.length c0_4], bx j5g3 71 [.slice j5a1 j5.length j5c1, .int .i64 x0.gc.phase, .int .i64 x0.gc.pos, .int .i64 x0.gc.round, .slice a0_4 x0.gc.grey.length c0_4], sl j5a1 j5c1 j5]) ?_ ?_
  · have h := hj5
    refine CW.draw (by kernel_rfl) ?_
    have hS4 := hS3.drew
    refine AW.u (i := 0) rfl (by kernel_rfl) rfl rfl (Pur.fa fo71_0 rfl) ?_
    refine AW.take (i := 1) rfl (by kernel_rfl) rfl rfl (Ldr.box (bt := 71) (fr := (0, 0)) (cs := [.slice a0_0 x0.arena.length c0_0, .int .i64 x0.gc.phase, .int .i64 x0.gc.pos, .int .i64 x0.gc.round, .slice a0_4 x0.gc.grey.length c0_4]) ag68 rfl rfl) (St.cell (h := hS4) (i := 1) rfl) ?_
    refine AW.u (i := 3) rfl (by kernel_rfl) rfl rfl (Pur.fa fo71_1 rfl) ?_
    refine AW.take (i := 4) rfl (by kernel_rfl) rfl rfl (Ldr.boxN (bt := 71) (fr := (0, 0)) (cs := [.slice a0_0 x0.arena.length c0_0, .int .i64 x0.gc.phase, .int .i64 x0.gc.pos, .int .i64 x0.gc.round, .slice a0_4 x0.gc.grey.length c0_4]) ag69 rfl rfl) (St.cell (h := hS4) (i := 1) rfl) ?_
    replace h := obind h
    obtain ⟨y7, hy7, h⟩ := h
    refine AW.all (rs := [2, 6]) (by kernel_rfl) (by simp) ⟨?_, ?_, trivial⟩
    · have q := W_i_copyArena (w0 := w4.drew) hy7 rfl (hS4.rB hr0_0)
      refine ⟨_, rfl, ?_⟩
      refine LW.call pl167 rfl rfl ?_
      refine Ret.mono q ?_
      rintro _ w18 ⟨a16, c17, rfl, hs⟩
      have hS5 := hS4.add hs
      refine LW.nil ⟨rfl, (.c (St.cell (h := hS5) (i := 2) rfl) (.w (by kernel_rfl) Kept.n)), ?_⟩
      refine AW.u (i := 5) rfl (by kernel_rfl) rfl rfl (Pur.build (vs := [(0, .slice a16 y7.length c17), (1, .agg #[.int .i64 x0.gc.phase, .int .i64 x0.gc.pos, .int .i64 x0.gc.round, .slice a0_4 x0.gc.grey.length c0_4])]) (cs := #[.slice a16 y7.length c17, .int .i64 x0.gc.phase, .int .i64 x0.gc.pos, .int .i64 x0.gc.round, .slice a0_4 x0.gc.grey.length c0_4]) rfl (by kernel_rfl)) ?_
      refine AW.one (i := 6) (by kernel_rfl) ?_
      refine ⟨_, rfl, ?_⟩
      refine LW.alloc zv71 hS5 rfl ?_
      intro g19 w20 hS6 hf
      refine LW.nil ⟨rfl, (.c (St.cell (h := hS6) (i := 3) rfl) (.c (St.cell (h := hS6) (i := 3) rfl) Kept.n)), ?_⟩
      refine AW.one (i := 7) (by kernel_rfl) ?_
      refine ⟨_, rfl, ?_⟩
      refine LW.stb hS6 0 rfl ag71 rfl rfl rfl rfl rfl ?_
      intro w21 hS7 hf
      refine LW.nil ⟨rfl, (.w (by kernel_rfl) (.w (by kernel_rfl) Kept.n)), ?_⟩
      refine AW.done (by kernel_rfl) ?_
      replace h := Option.some.inj h
      subst h
      exact ⟨g19, a16, c17, ⟨rfl, rfl, rfl, trivial⟩, hS7.pick [2, 3, 0, 1] rfl rfl⟩
    refine ⟨_, rfl, ?_⟩
    refine LW.alloc zv71 hS4 rfl ?_
    intro g22 w23 hS8 hf
    refine LW.nil ⟨rfl, (.c (St.cell (h := hS8) (i := 2) rfl) (.c (St.cell (h := hS8) (i := 2) rfl) Kept.n)), ?_⟩
    have q := W_i_copyArena (w0 := w23) hy7 rfl (hS8.rB hr0_0)
    refine AW.one (i := 2) (by kernel_rfl) ?_
    refine ⟨_, rfl, ?_⟩
    refine LW.call pl167 rfl rfl ?_
    refine Ret.mono q ?_
    rintro _ w26 ⟨a24, c25, rfl, hs⟩
    have hS9 := hS8.add hs
    refine LW.nil ⟨rfl, (.c (St.cell (h := hS9) (i := 3) rfl) (.w (by kernel_rfl) Kept.n)), ?_⟩
    refine AW.u (i := 5) rfl (by kernel_rfl) rfl rfl (Pur.build (vs := [(0, .slice a24 y7.length c25), (1, .agg #[.int .i64 x0.gc.phase, .int .i64 x0.gc.pos, .int .i64 x0.gc.round, .slice a0_4 x0.gc.grey.length c0_4])]) (cs := #[.slice a24 y7.length c25, .int .i64 x0.gc.phase, .int .i64 x0.gc.pos, .int .i64 x0.gc.round, .slice a0_4 x0.gc.grey.length c0_4]) rfl (by kernel_rfl)) ?_
    refine AW.one (i := 7) (by kernel_rfl) ?_
    refine ⟨_, rfl, ?_⟩
    refine LW.stb hS9 1 rfl ag71 rfl rfl rfl rfl rfl ?_
    intro w27 hS10 hf
    refine LW.nil ⟨rfl, (.w (by kernel_rfl) (.w (by kernel_rfl) Kept.n)), ?_⟩
    refine AW.done (by kernel_rfl) ?_
    replace h := Option.some.inj h
    subst h
    exact ⟨g22, a24, c25, ⟨rfl, rfl, rfl, trivial⟩, hS10.pick [2, 3, 1, 0] rfl rfl⟩
  intro e w28 hM
  obtain ⟨j5g3, j5a1, j5c1, hE, hS11⟩ := hM
  obtain ⟨e, rfl⟩ := hE.out
  have h := h6
  show CW _ _ _ _ _ _
  refine CW.seq ?_
  refine CW.region ?_
  refine LW.u (Pur.fa fo71_1 rfl) rfl ?_
  refine LW.u (Pur.fa fo69_3 rfl) rfl ?_
  refine LW.ldb hS11 1 rfl ag24 rfl rfl rfl ?_
  replace h := obind h
  obtain ⟨y29, hy29, h⟩ := h
  have q := W_i_copyInts (w0 := w28) hy29 rfl (hS11.rB hr0_4)
  refine LW.call pl115 rfl rfl ?_
  refine Ret.mono q ?_
  rintro _ w32 ⟨a30, c31, rfl, hs⟩
  have hS12 := hS11.add hs
  refine LW.u (Pur.fa fo71_1 rfl) rfl ?_
  refine LW.u (Pur.fa fo69_3 rfl) rfl ?_
  refine LW.stb hS12 3 rfl ag24 rfl rfl rfl rfl rfl ?_
  intro w33 hS13 hf
  refine LW.nil ?_
  show CW _ _ _ _ _ _
  refine CW.seq ?_
  refine CW.region ?_
  refine LW.ldbN hS13 3 rfl ag71 rfl rfl rfl ?_
  refine LW.stb hS13 1 rfl ag71 rfl rfl rfl rfl rfl ?_
  intro w34 hS14 hf
  refine LW.nil ?_
  show CW _ _ _ _ _ _
  refine CW.ret ?_
  cases h
  exact And.intro trivial ⟨_, Res.one (resOne.b hS14 1 rfl ag71 rfl rfl), j5a1, j5c1, a30, c31, rfl, hS14.pick [4, 0] rfl rfl⟩

theorem W_l_markResS {w0 : World} {F : List Nat} {N : Nat} {x0 : List DRes} {x1 : Int} {r : Int × (List DRes)} (h : F_l_markResS N x0 x1 = some r) {a0_0 : Option Addr} {n0_0 c0_0 : Nat} (hn0_0 : n0_0 = x0.length) (hS : St w0 F w0 [sl a0_0 c0_0 x0]) :
    Ret Try.prog 95 #[.slice a0_0 n0_0 c0_0, .int .i64 x1] w0 (fun v w => v = .int .i64 r.1 ∧ St w0 F w [sl a0_0 c0_0 r.2]) := by
  subst hn0_0
  unfold F_l_markResS at h
  refine Ret.of Try.func95 rfl rfl rfl ?_
  refine CW.seq ?_
  refine CW.region ?_
  refine LW.p rfl rfl ?_
  refine LW.nil ?_
  show CW _ _ _ _ _ _
  refine CW.seq ?_
  refine CW.seq ?_
  refine CW.region ?_
  refine LW.p rfl rfl ?_
  refine LW.nil ?_
  show CW _ _ _ _ _ _
  refine CW.block ?_
  obtain ⟨o39, ho39, h40⟩ := obind h
  refine CW.mono (CW.iter (σ := (List DRes) × Int × Int) (ρ := (List DRes) × Int × Int) (fun s1 e wb => En e [(0, .slice a0_0 s1.1.length c0_0), (1, .int .i64 s1.2.1), (5, .int .i64 s1.2.2)] ∧ St w0 F wb [sl a0_0 c0_0 s1.1]) (fun s1 x e wb => x = .exit 0 ∧ En e [(1, .int .i64 s1.2.1)] ∧ St w0 F wb [sl a0_0 c0_0 s1.1]) ?_ N (x0, x1, 0) _ _ _ ⟨⟨rfl, rfl, rfl, trivial⟩, hS.pick [0] rfl rfl⟩ ho39) ?_
  · intro s1 e w2 o hM h
    obtain ⟨hE, hS1⟩ := hM
    obtain ⟨e, rfl⟩ := hE.out
    refine CW.seq ?_
    refine CW.seq ?_
    refine CW.region ?_
    iterate 2 refine LW.p rfl rfl ?_
    refine LW.u (Pur.len Try.underlying67 rfl) rfl ?_
    refine LW.p rfl rfl ?_
    refine LW.nil ?_
    show CW _ _ _ _ _ _
    refine CW.cond rfl (fun hc3 => ?_) (fun hc3 => ?_)
    · replace h := bcT h hc3
      refine CW.skip ?_
      show CW _ _ _ _ _ _
      refine CW.seq ?_
      refine CW.block ?_
      refine CW.seq ?_
      refine CW.region ?_
      iterate 3 refine LW.p rfl rfl ?_
      refine LW.u (Pur.rem rfl rfl (by decide)) rfl ?_
      refine LW.p rfl rfl ?_
      replace h := obind h
      obtain ⟨y4, hy4, h⟩ := h
      obtain ⟨b7, o8, hae, hp5, hq6⟩ := hS1.ownIdx (α := DRes) (i := 0) rfl hy4
      subst hae
      refine LW.u (Pur.ix Try.underlying67 sz156 rfl rfl hp5 hq6) rfl ?_
      refine LW.u (Pur.fa fo156_0 rfl) rfl ?_
      replace h := obind h
      obtain ⟨y9, hy9, h⟩ := h
      refine LW.stE (M := []) (L := [sl (some ⟨b7, o8, none⟩) c0_0 s1.1]) (z := y4) (z' := (DRes.mk ((Int.tmod s1.2.1 3) == 0) y4.parent y4.bal)) (o := 0) hS1 (i := 0) rfl hy4 ag4 rfl (by show _ = o8 + (s1.2.2 : Int).toNat * 5 + 0; omega) rfl rfl rfl rfl (leafF (fun w cs F hF => by obtain ⟨rfl, rfl⟩ := hF; exact ⟨rfl, rfl⟩)) ?_
      intro w10 hS2 hf
      rw [Option.some.inj hy9] at hS2
      refine LW.nil ?_
      show CW _ _ _ _ _ _
      refine CW.fresh (l := [(0, .slice (some ⟨b7, o8, none⟩) s1.1.length c0_0), (1, .int .i64 s1.2.1), (5, .int .i64 s1.2.2)]) ⟨rfl, rfl, rfl, trivial⟩ (fun e => ?_)
      refine CW.seq ?_
      refine CW.region ?_
      iterate 3 refine LW.p rfl rfl ?_
      refine LW.nil ?_
      show CW _ _ _ _ _ _
      refine CW.seq ?_
      refine CW.region ?_
      iterate 3 refine LW.p rfl rfl ?_
      replace h := obind h
      obtain ⟨y11, hy11, h⟩ := h
      obtain ⟨b14, o15, hae, hp12, hq13⟩ := hS2.ownIdx (α := DRes) (i := 0) rfl hy11
      cases hae
      refine LW.u (Pur.ix Try.underlying67 sz156 rfl rfl hp12 (by rw [show s1.1.length = y9.length from (len_set (Option.some.inj hy9))]; exact hq13)) rfl ?_
      refine LW.u (Pur.fa fo156_1 rfl) rfl ?_
      replace h := obind h
      obtain ⟨y16, hy16, h⟩ := h
      refine LW.stE (M := []) (L := [sl (some ⟨b7, o8, none⟩) c0_0 y9]) (z := y11) (z' := (DRes.mk y11.live (IntKind.i64.wrap (s1.2.1 + 1)) y11.bal)) (o := 1) hS2 (i := 0) rfl hy11 ag3 rfl (by show _ = o8 + (s1.2.2 : Int).toNat * 5 + 1; omega) rfl rfl rfl rfl (leafF (fun w cs F hF => by obtain ⟨rfl, rfl⟩ := hF; exact ⟨rfl, rfl⟩)) ?_
      intro w17 hS3 hf
      rw [Option.some.inj hy16] at hS3
      refine LW.nil ?_
      show CW _ _ _ _ _ _
      refine CW.seq ?_
      refine CW.region ?_
      iterate 3 refine LW.p rfl rfl ?_
      refine LW.nil ?_
      show CW _ _ _ _ _ _
      refine CW.fresh (l := [(0, .slice (some ⟨b7, o8, none⟩) s1.1.length c0_0), (1, .int .i64 (IntKind.i64.wrap ((IntKind.i64.wrap (s1.2.1 + 1)) + 1))), (5, .int .i64 s1.2.2)]) ⟨rfl, rfl, rfl, trivial⟩ (fun e => ?_)
      refine CW.seq ?_
      refine CW.region ?_
      iterate 3 refine LW.p rfl rfl ?_
      replace h := obind h
      obtain ⟨y18, hy18, h⟩ := h
      obtain ⟨b21, o22, hae, hp19, hq20⟩ := hS3.ownIdx (α := DRes) (i := 0) rfl hy18
      cases hae
      refine LW.u (Pur.ix Try.underlying67 sz156 rfl rfl hp19 (by rw [show s1.1.length = y16.length from ((len_set (Option.some.inj hy9)).trans (len_set (Option.some.inj hy16)))]; exact hq20)) rfl ?_
      refine LW.u (Pur.fa fo156_2 rfl) rfl ?_
      refine LW.u (Pur.fa fo73_0 rfl) rfl ?_
      replace h := obind h
      obtain ⟨y23, hy23, h⟩ := h
      refine LW.stE (M := []) (L := [sl (some ⟨b7, o8, none⟩) c0_0 y16]) (z := y18) (z' := (DRes.mk y18.live y18.parent (DAmt.mk (IntKind.i64.wrap ((IntKind.i64.wrap (s1.2.1 + 1)) + 1)) y18.bal.rent y18.bal.cpu))) (o := 2) hS3 (i := 0) rfl hy18 ag3 rfl (by show _ = o8 + (s1.2.2 : Int).toNat * 5 + 2; omega) rfl rfl rfl rfl (leafF (fun w cs F hF => by obtain ⟨rfl, rfl⟩ := hF; exact ⟨rfl, rfl⟩)) ?_
      intro w24 hS4 hf
      rw [Option.some.inj hy23] at hS4
      refine LW.nil ?_
      show CW _ _ _ _ _ _
      refine CW.seq ?_
      refine CW.region ?_
      iterate 3 refine LW.p rfl rfl ?_
      refine LW.nil ?_
      show CW _ _ _ _ _ _
      refine CW.seq ?_
      refine CW.region ?_
      iterate 3 refine LW.p rfl rfl ?_
      replace h := obind h
      obtain ⟨y25, hy25, h⟩ := h
      obtain ⟨b28, o29, hae, hp26, hq27⟩ := hS4.ownIdx (α := DRes) (i := 0) rfl hy25
      cases hae
      refine LW.u (Pur.ix Try.underlying67 sz156 rfl rfl hp26 (by rw [show s1.1.length = y23.length from (((len_set (Option.some.inj hy9)).trans (len_set (Option.some.inj hy16))).trans (len_set (Option.some.inj hy23)))]; exact hq27)) rfl ?_
      refine LW.u (Pur.fa fo156_2 rfl) rfl ?_
      refine LW.u (Pur.fa fo73_1 rfl) rfl ?_
      replace h := obind h
      obtain ⟨y30, hy30, h⟩ := h
      refine LW.stE (M := []) (L := [sl (some ⟨b7, o8, none⟩) c0_0 y23]) (z := y25) (z' := (DRes.mk y25.live y25.parent (DAmt.mk y25.bal.pages (IntKind.i64.wrap ((IntKind.i64.wrap ((IntKind.i64.wrap (s1.2.1 + 1)) + 1)) + 1)) y25.bal.cpu))) (o := 3) hS4 (i := 0) rfl hy25 ag3 rfl (by show _ = o8 + (s1.2.2 : Int).toNat * 5 + 3; omega) rfl rfl rfl rfl (leafF (fun w cs F hF => by obtain ⟨rfl, rfl⟩ := hF; exact ⟨rfl, rfl⟩)) ?_
      intro w31 hS5 hf
      rw [Option.some.inj hy30] at hS5
      refine LW.nil ?_
      show CW _ _ _ _ _ _
      refine CW.fresh (l := [(0, .slice (some ⟨b7, o8, none⟩) s1.1.length c0_0), (1, .int .i64 (IntKind.i64.wrap ((IntKind.i64.wrap ((IntKind.i64.wrap (s1.2.1 + 1)) + 1)) + 1))), (5, .int .i64 s1.2.2)]) ⟨rfl, rfl, rfl, trivial⟩ (fun e => ?_)
      refine CW.seq ?_
      refine CW.region ?_
      iterate 3 refine LW.p rfl rfl ?_
      refine LW.nil ?_
      show CW _ _ _ _ _ _
      refine CW.seq ?_
      refine CW.region ?_
      iterate 3 refine LW.p rfl rfl ?_
      replace h := obind h
      obtain ⟨y32, hy32, h⟩ := h
      obtain ⟨b35, o36, hae, hp33, hq34⟩ := hS5.ownIdx (α := DRes) (i := 0) rfl hy32
      cases hae
      refine LW.u (Pur.ix Try.underlying67 sz156 rfl rfl hp33 (by rw [show s1.1.length = y30.length from ((((len_set (Option.some.inj hy9)).trans (len_set (Option.some.inj hy16))).trans (len_set (Option.some.inj hy23))).trans (len_set (Option.some.inj hy30)))]; exact hq34)) rfl ?_
      refine LW.u (Pur.fa fo156_2 rfl) rfl ?_
      refine LW.u (Pur.fa fo73_2 rfl) rfl ?_
      replace h := obind h
      obtain ⟨y37, hy37, h⟩ := h
      refine LW.stE (M := []) (L := [sl (some ⟨b7, o8, none⟩) c0_0 y30]) (z := y32) (z' := (DRes.mk y32.live y32.parent (DAmt.mk y32.bal.pages y32.bal.rent (IntKind.i64.wrap ((IntKind.i64.wrap ((IntKind.i64.wrap ((IntKind.i64.wrap (s1.2.1 + 1)) + 1)) + 1)) + 1))))) (o := 4) hS5 (i := 0) rfl hy32 ag3 rfl (by show _ = o8 + (s1.2.2 : Int).toNat * 5 + 4; omega) rfl rfl rfl rfl (leafF (fun w cs F hF => by obtain ⟨rfl, rfl⟩ := hF; exact ⟨rfl, rfl⟩)) ?_
      intro w38 hS6 hf
      rw [Option.some.inj hy37] at hS6
      refine LW.nil ?_
      show CW _ _ _ _ _ _
      refine CW.region ?_
      iterate 3 refine LW.p rfl rfl ?_
      refine LW.nil ?_
      show CW _ _ _ _ _ _
      refine CW.fresh (l := [(0, .slice (some ⟨b7, o8, none⟩) s1.1.length c0_0), (1, .int .i64 (IntKind.i64.wrap ((IntKind.i64.wrap ((IntKind.i64.wrap ((IntKind.i64.wrap ((IntKind.i64.wrap (s1.2.1 + 1)) + 1)) + 1)) + 1)) + 1))), (5, .int .i64 s1.2.2)]) ⟨rfl, rfl, rfl, trivial⟩ (fun e => ?_)
      refine CW.region ?_
      iterate 3 refine LW.p rfl rfl ?_
      refine LW.nil ?_
      replace h := Option.some.inj h
      subst h
      exact ⟨rfl, ⟨⟨(show (.slice (some ⟨b7, o8, none⟩) s1.1.length c0_0 : Value) = .slice (some ⟨b7, o8, none⟩) y37.length c0_0 by rw [show s1.1.length = y37.length from (((((len_set (Option.some.inj hy9)).trans (len_set (Option.some.inj hy16))).trans (len_set (Option.some.inj hy23))).trans (len_set (Option.some.inj hy30))).trans (len_set (Option.some.inj hy37)))]), rfl, rfl, trivial⟩, hS6.pick [0] rfl rfl⟩⟩
    replace h := bcF h hc3
    refine CW.exit ?_
    replace h := Option.some.inj h
    subst h
    exact ⟨trivial, rfl, ⟨⟨rfl, trivial⟩, hS1.pick [0] rfl rfl⟩⟩
  intro x e w41 hM
  obtain ⟨rfl, hM⟩ := hM
  obtain ⟨hE, hS7⟩ := hM
  obtain ⟨e, rfl⟩ := hE.out
  have h := h40
  show CW _ _ _ _ _ _
  refine CW.seq ?_
  refine CW.region ?_
  iterate 2 refine LW.p rfl rfl ?_
  refine LW.nil ?_
  show CW _ _ _ _ _ _
  refine CW.ret ?_
  replace h := Option.some.inj h
  subst h
  exact And.intro trivial ⟨_, Res.one (resOne.t rfl), rfl, hS7.pick [0] rfl rfl⟩

theorem W_l_markMsgS {w0 : World} {F : List Nat} {N : Nat} {x0 : List DMsg} {x1 : Int} {r : Int × (List DMsg)} (h : F_l_markMsgS N x0 x1 = some r) {a0_0 : Option Addr} {n0_0 c0_0 : Nat} (hn0_0 : n0_0 = x0.length) (hS : St w0 F w0 [sl a0_0 c0_0 x0]) :
    Ret Try.prog 162 #[.slice a0_0 n0_0 c0_0, .int .i64 x1] w0 (fun v w => v = .int .i64 r.1 ∧ St w0 F w [sl a0_0 c0_0 r.2]) := by
  subst hn0_0
  unfold F_l_markMsgS at h
  refine Ret.of Try.func162 rfl rfl rfl ?_
  refine CW.seq ?_
  refine CW.region ?_
  refine LW.p rfl rfl ?_
  refine LW.nil ?_
  show CW _ _ _ _ _ _
  refine CW.seq ?_
  refine CW.seq ?_
  refine CW.region ?_
  refine LW.p rfl rfl ?_
  refine LW.nil ?_
  show CW _ _ _ _ _ _
  refine CW.block ?_
  obtain ⟨o18, ho18, h19⟩ := obind h
  refine CW.mono (CW.iter (σ := (List DMsg) × Int × Int) (ρ := (List DMsg) × Int × Int) (fun s1 e wb => En e [(0, .slice a0_0 s1.1.length c0_0), (1, .int .i64 s1.2.1), (5, .int .i64 s1.2.2)] ∧ St w0 F wb [sl a0_0 c0_0 s1.1]) (fun s1 x e wb => x = .exit 0 ∧ En e [(1, .int .i64 s1.2.1)] ∧ St w0 F wb [sl a0_0 c0_0 s1.1]) ?_ N (x0, x1, 0) _ _ _ ⟨⟨rfl, rfl, rfl, trivial⟩, hS.pick [0] rfl rfl⟩ ho18) ?_
  · intro s1 e w2 o hM h
    obtain ⟨hE, hS1⟩ := hM
    obtain ⟨e, rfl⟩ := hE.out
    refine CW.seq ?_
    refine CW.seq ?_
    refine CW.region ?_
    iterate 2 refine LW.p rfl rfl ?_
    refine LW.u (Pur.len Try.underlying121 rfl) rfl ?_
    refine LW.p rfl rfl ?_
    refine LW.nil ?_
    show CW _ _ _ _ _ _
    refine CW.cond rfl (fun hc3 => ?_) (fun hc3 => ?_)
    · replace h := bcT h hc3
      refine CW.skip ?_
      show CW _ _ _ _ _ _
      refine CW.seq ?_
      refine CW.block ?_
      refine CW.seq ?_
      refine CW.region ?_
      iterate 3 refine LW.p rfl rfl ?_
      replace h := obind h
      obtain ⟨y4, hy4, h⟩ := h
      obtain ⟨b7, o8, hae, hp5, hq6⟩ := hS1.ownIdx (α := DMsg) (i := 0) rfl hy4
      subst hae
      refine LW.u (Pur.ix Try.underlying121 sz199 rfl rfl hp5 hq6) rfl ?_
      refine LW.u (Pur.fa fo199_0 rfl) rfl ?_
      replace h := obind h
      obtain ⟨y9, hy9, h⟩ := h
      refine LW.stE (M := []) (L := [sl (some ⟨b7, o8, none⟩) c0_0 s1.1]) (z := y4) (z' := (DMsg.mk s1.2.1 y4.n)) (o := 0) hS1 (i := 0) rfl hy4 ag3 rfl (by show _ = o8 + (s1.2.2 : Int).toNat * 2 + 0; omega) rfl rfl rfl rfl (leafF (fun w cs F hF => by obtain ⟨rfl, rfl⟩ := hF; exact ⟨rfl, rfl⟩)) ?_
      intro w10 hS2 hf
      rw [Option.some.inj hy9] at hS2
      refine LW.nil ?_
      show CW _ _ _ _ _ _
      refine CW.fresh (l := [(0, .slice (some ⟨b7, o8, none⟩) s1.1.length c0_0), (1, .int .i64 s1.2.1), (5, .int .i64 s1.2.2)]) ⟨rfl, rfl, rfl, trivial⟩ (fun e => ?_)
      refine CW.seq ?_
      refine CW.region ?_
      iterate 3 refine LW.p rfl rfl ?_
      refine LW.nil ?_
      show CW _ _ _ _ _ _
      refine CW.seq ?_
      refine CW.region ?_
      iterate 3 refine LW.p rfl rfl ?_
      replace h := obind h
      obtain ⟨y11, hy11, h⟩ := h
      obtain ⟨b14, o15, hae, hp12, hq13⟩ := hS2.ownIdx (α := DMsg) (i := 0) rfl hy11
      cases hae
      refine LW.u (Pur.ix Try.underlying121 sz199 rfl rfl hp12 (by rw [show s1.1.length = y9.length from (len_set (Option.some.inj hy9))]; exact hq13)) rfl ?_
      refine LW.u (Pur.fa fo199_1 rfl) rfl ?_
      replace h := obind h
      obtain ⟨y16, hy16, h⟩ := h
      refine LW.stE (M := []) (L := [sl (some ⟨b7, o8, none⟩) c0_0 y9]) (z := y11) (z' := (DMsg.mk y11.src (IntKind.i64.wrap (s1.2.1 + 1)))) (o := 1) hS2 (i := 0) rfl hy11 ag3 rfl (by show _ = o8 + (s1.2.2 : Int).toNat * 2 + 1; omega) rfl rfl rfl rfl (leafF (fun w cs F hF => by obtain ⟨rfl, rfl⟩ := hF; exact ⟨rfl, rfl⟩)) ?_
      intro w17 hS3 hf
      rw [Option.some.inj hy16] at hS3
      refine LW.nil ?_
      show CW _ _ _ _ _ _
      refine CW.region ?_
      iterate 3 refine LW.p rfl rfl ?_
      refine LW.nil ?_
      show CW _ _ _ _ _ _
      refine CW.fresh (l := [(0, .slice (some ⟨b7, o8, none⟩) s1.1.length c0_0), (1, .int .i64 (IntKind.i64.wrap ((IntKind.i64.wrap (s1.2.1 + 1)) + 1))), (5, .int .i64 s1.2.2)]) ⟨rfl, rfl, rfl, trivial⟩ (fun e => ?_)
      refine CW.region ?_
      iterate 3 refine LW.p rfl rfl ?_
      refine LW.nil ?_
      replace h := Option.some.inj h
      subst h
      exact ⟨rfl, ⟨⟨(show (.slice (some ⟨b7, o8, none⟩) s1.1.length c0_0 : Value) = .slice (some ⟨b7, o8, none⟩) y16.length c0_0 by rw [show s1.1.length = y16.length from ((len_set (Option.some.inj hy9)).trans (len_set (Option.some.inj hy16)))]), rfl, rfl, trivial⟩, hS3.pick [0] rfl rfl⟩⟩
    replace h := bcF h hc3
    refine CW.exit ?_
    replace h := Option.some.inj h
    subst h
    exact ⟨trivial, rfl, ⟨⟨rfl, trivial⟩, hS1.pick [0] rfl rfl⟩⟩
  intro x e w20 hM
  obtain ⟨rfl, hM⟩ := hM
  obtain ⟨hE, hS4⟩ := hM
  obtain ⟨e, rfl⟩ := hE.out
  have h := h19
  show CW _ _ _ _ _ _
  refine CW.seq ?_
  refine CW.region ?_
  iterate 2 refine LW.p rfl rfl ?_
  refine LW.nil ?_
  show CW _ _ _ _ _ _
  refine CW.ret ?_
  replace h := Option.some.inj h
  subst h
  exact And.intro trivial ⟨_, Res.one (resOne.t rfl), rfl, hS4.pick [0] rfl rfl⟩

theorem W_l_markObjS {w0 : World} {F : List Nat} {N : Nat} {x0 : List DObj} {x1 : Int} {r : Int × (List DObj)} (h : F_l_markObjS N x0 x1 = some r) {a0_0 : Option Addr} {n0_0 c0_0 : Nat} (hn0_0 : n0_0 = x0.length) (hS : St w0 F w0 [sl a0_0 c0_0 x0]) :
    Ret Try.prog 96 #[.slice a0_0 n0_0 c0_0, .int .i64 x1] w0 (fun v w => v = .int .i64 r.1 ∧ St w0 F w [sl a0_0 c0_0 r.2]) := by
  subst hn0_0
  unfold F_l_markObjS at h
  refine Ret.of Try.func96 rfl rfl rfl ?_
  refine CW.seq ?_
  refine CW.region ?_
  refine LW.p rfl rfl ?_
  refine LW.nil ?_
  show CW _ _ _ _ _ _
  refine CW.seq ?_
  refine CW.seq ?_
  refine CW.region ?_
  refine LW.p rfl rfl ?_
  refine LW.nil ?_
  show CW _ _ _ _ _ _
  refine CW.block ?_
  obtain ⟨o129, ho129, h130⟩ := obind h
  refine CW.mono (CW.iter (σ := (List DObj) × Int × Int) (ρ := (List DObj) × Int × Int) (fun s1 e wb => En e [(0, .slice a0_0 s1.1.length c0_0), (1, .int .i64 s1.2.1), (5, .int .i64 s1.2.2)] ∧ St w0 F wb [sl a0_0 c0_0 s1.1]) (fun s1 x e wb => x = .exit 0 ∧ En e [(1, .int .i64 s1.2.1)] ∧ St w0 F wb [sl a0_0 c0_0 s1.1]) ?_ N (x0, x1, 0) _ _ _ ⟨⟨rfl, rfl, rfl, trivial⟩, hS.pick [0] rfl rfl⟩ ho129) ?_
  · intro s1 e w2 o hM h
    obtain ⟨hE, hS1⟩ := hM
    obtain ⟨e, rfl⟩ := hE.out
    refine CW.seq ?_
    refine CW.seq ?_
    refine CW.region ?_
    iterate 2 refine LW.p rfl rfl ?_
    refine LW.u (Pur.len Try.underlying68 rfl) rfl ?_
    refine LW.p rfl rfl ?_
    refine LW.nil ?_
    show CW _ _ _ _ _ _
    refine CW.cond rfl (fun hc3 => ?_) (fun hc3 => ?_)
    · replace h := bcT h hc3
      refine CW.skip ?_
      show CW _ _ _ _ _ _
      refine CW.seq ?_
      refine CW.block ?_
      refine CW.seq ?_
      refine CW.region ?_
      iterate 3 refine LW.p rfl rfl ?_
      replace h := obind h
      obtain ⟨y4, hy4, h⟩ := h
      obtain ⟨b7, o8, hae, hp5, hq6⟩ := hS1.ownIdx (α := DObj) (i := 0) rfl hy4
      subst hae
      refine LW.u (Pur.ix Try.underlying68 sz123 rfl rfl hp5 hq6) rfl ?_
      refine LW.u (Pur.fa fo123_0 rfl) rfl ?_
      replace h := obind h
      obtain ⟨y9, hy9, h⟩ := h
      refine LW.stE (M := []) (L := [sl (some ⟨b7, o8, none⟩) c0_0 s1.1]) (z := y4) (z' := (DObj.mk s1.2.1 y4.kind y4.box y4.res y4.til y4.pages y4.wait y4.got y4.ran y4.mark y4.links y4.data y4.queue)) (o := 0) hS1 (i := 0) rfl hy4 ag3 rfl (by show _ = o8 + (s1.2.2 : Int).toNat * 13 + 0; omega) rfl rfl rfl rfl (leafF (fun w cs F hF => by obtain ⟨q0, r0, q1, r1, q2, r2, rfl, hH⟩ := hF; exact ⟨q0, r0, q1, r1, q2, r2, rfl, hH⟩)) ?_
      intro w10 hS2 hf
      rw [Option.some.inj hy9] at hS2
      refine LW.nil ?_
      show CW _ _ _ _ _ _
      refine CW.fresh (l := [(0, .slice (some ⟨b7, o8, none⟩) s1.1.length c0_0), (1, .int .i64 s1.2.1), (5, .int .i64 s1.2.2)]) ⟨rfl, rfl, rfl, trivial⟩ (fun e => ?_)
      refine CW.seq ?_
      refine CW.region ?_
      iterate 3 refine LW.p rfl rfl ?_
      refine LW.nil ?_
      show CW _ _ _ _ _ _
      refine CW.seq ?_
      refine CW.region ?_
      iterate 3 refine LW.p rfl rfl ?_
      replace h := obind h
      obtain ⟨y11, hy11, h⟩ := h
      obtain ⟨b14, o15, hae, hp12, hq13⟩ := hS2.ownIdx (α := DObj) (i := 0) rfl hy11
      cases hae
      refine LW.u (Pur.ix Try.underlying68 sz123 rfl rfl hp12 (by rw [show s1.1.length = y9.length from (len_set (Option.some.inj hy9))]; exact hq13)) rfl ?_
      refine LW.u (Pur.fa fo123_1 rfl) rfl ?_
      replace h := obind h
      obtain ⟨y16, hy16, h⟩ := h
      refine LW.stE (M := []) (L := [sl (some ⟨b7, o8, none⟩) c0_0 y9]) (z := y11) (z' := (DObj.mk y11.gen (IntKind.i64.wrap (s1.2.1 + 1)) y11.box y11.res y11.til y11.pages y11.wait y11.got y11.ran y11.mark y11.links y11.data y11.queue)) (o := 1) hS2 (i := 0) rfl hy11 ag3 rfl (by show _ = o8 + (s1.2.2 : Int).toNat * 13 + 1; omega) rfl rfl rfl rfl (leafF (fun w cs F hF => by obtain ⟨q0, r0, q1, r1, q2, r2, rfl, hH⟩ := hF; exact ⟨q0, r0, q1, r1, q2, r2, rfl, hH⟩)) ?_
      intro w17 hS3 hf
      rw [Option.some.inj hy16] at hS3
      refine LW.nil ?_
      show CW _ _ _ _ _ _
      refine CW.seq ?_
      refine CW.region ?_
      iterate 3 refine LW.p rfl rfl ?_
      refine LW.nil ?_
      show CW _ _ _ _ _ _
      refine CW.fresh (l := [(0, .slice (some ⟨b7, o8, none⟩) s1.1.length c0_0), (1, .int .i64 (IntKind.i64.wrap ((IntKind.i64.wrap (s1.2.1 + 1)) + 1))), (5, .int .i64 s1.2.2)]) ⟨rfl, rfl, rfl, trivial⟩ (fun e => ?_)
      refine CW.seq ?_
      refine CW.region ?_
      iterate 3 refine LW.p rfl rfl ?_
      replace h := obind h
      obtain ⟨y18, hy18, h⟩ := h
      obtain ⟨b21, o22, hae, hp19, hq20⟩ := hS3.ownIdx (α := DObj) (i := 0) rfl hy18
      cases hae
      refine LW.u (Pur.ix Try.underlying68 sz123 rfl rfl hp19 (by rw [show s1.1.length = y16.length from ((len_set (Option.some.inj hy9)).trans (len_set (Option.some.inj hy16)))]; exact hq20)) rfl ?_
      refine LW.u (Pur.fa fo123_2 rfl) rfl ?_
      replace h := obind h
      obtain ⟨y23, hy23, h⟩ := h
      refine LW.stE (M := []) (L := [sl (some ⟨b7, o8, none⟩) c0_0 y16]) (z := y18) (z' := (DObj.mk y18.gen y18.kind (IntKind.i64.wrap ((IntKind.i64.wrap (s1.2.1 + 1)) + 1)) y18.res y18.til y18.pages y18.wait y18.got y18.ran y18.mark y18.links y18.data y18.queue)) (o := 2) hS3 (i := 0) rfl hy18 ag3 rfl (by show _ = o8 + (s1.2.2 : Int).toNat * 13 + 2; omega) rfl rfl rfl rfl (leafF (fun w cs F hF => by obtain ⟨q0, r0, q1, r1, q2, r2, rfl, hH⟩ := hF; exact ⟨q0, r0, q1, r1, q2, r2, rfl, hH⟩)) ?_
      intro w24 hS4 hf
      rw [Option.some.inj hy23] at hS4
      refine LW.nil ?_
      show CW _ _ _ _ _ _
      refine CW.seq ?_
      refine CW.region ?_
      iterate 3 refine LW.p rfl rfl ?_
      refine LW.nil ?_
      show CW _ _ _ _ _ _
      refine CW.seq ?_
      refine CW.region ?_
      iterate 3 refine LW.p rfl rfl ?_
      replace h := obind h
      obtain ⟨y25, hy25, h⟩ := h
      obtain ⟨b28, o29, hae, hp26, hq27⟩ := hS4.ownIdx (α := DObj) (i := 0) rfl hy25
      cases hae
      refine LW.u (Pur.ix Try.underlying68 sz123 rfl rfl hp26 (by rw [show s1.1.length = y23.length from (((len_set (Option.some.inj hy9)).trans (len_set (Option.some.inj hy16))).trans (len_set (Option.some.inj hy23)))]; exact hq27)) rfl ?_
      refine LW.u (Pur.fa fo123_3 rfl) rfl ?_
      replace h := obind h
      obtain ⟨y30, hy30, h⟩ := h
      refine LW.stE (M := []) (L := [sl (some ⟨b7, o8, none⟩) c0_0 y23]) (z := y25) (z' := (DObj.mk y25.gen y25.kind y25.box (IntKind.i64.wrap ((IntKind.i64.wrap ((IntKind.i64.wrap (s1.2.1 + 1)) + 1)) + 1)) y25.til y25.pages y25.wait y25.got y25.ran y25.mark y25.links y25.data y25.queue)) (o := 3) hS4 (i := 0) rfl hy25 ag3 rfl (by show _ = o8 + (s1.2.2 : Int).toNat * 13 + 3; omega) rfl rfl rfl rfl (leafF (fun w cs F hF => by obtain ⟨q0, r0, q1, r1, q2, r2, rfl, hH⟩ := hF; exact ⟨q0, r0, q1, r1, q2, r2, rfl, hH⟩)) ?_
      intro w31 hS5 hf
      rw [Option.some.inj hy30] at hS5
      refine LW.nil ?_
      show CW _ _ _ _ _ _
      refine CW.fresh (l := [(0, .slice (some ⟨b7, o8, none⟩) s1.1.length c0_0), (1, .int .i64 (IntKind.i64.wrap ((IntKind.i64.wrap ((IntKind.i64.wrap (s1.2.1 + 1)) + 1)) + 1))), (5, .int .i64 s1.2.2)]) ⟨rfl, rfl, rfl, trivial⟩ (fun e => ?_)
      refine CW.seq ?_
      refine CW.region ?_
      iterate 3 refine LW.p rfl rfl ?_
      refine LW.nil ?_
      show CW _ _ _ _ _ _
      refine CW.seq ?_
      refine CW.region ?_
      iterate 3 refine LW.p rfl rfl ?_
      replace h := obind h
      obtain ⟨y32, hy32, h⟩ := h
      obtain ⟨b35, o36, hae, hp33, hq34⟩ := hS5.ownIdx (α := DObj) (i := 0) rfl hy32
      cases hae
      refine LW.u (Pur.ix Try.underlying68 sz123 rfl rfl hp33 (by rw [show s1.1.length = y30.length from ((((len_set (Option.some.inj hy9)).trans (len_set (Option.some.inj hy16))).trans (len_set (Option.some.inj hy23))).trans (len_set (Option.some.inj hy30)))]; exact hq34)) rfl ?_
      refine LW.u (Pur.fa fo123_4 rfl) rfl ?_
      replace h := obind h
      obtain ⟨y37, hy37, h⟩ := h
      refine LW.stE (M := []) (L := [sl (some ⟨b7, o8, none⟩) c0_0 y30]) (z := y32) (z' := (DObj.mk y32.gen y32.kind y32.box y32.res (IntKind.i64.wrap ((IntKind.i64.wrap ((IntKind.i64.wrap ((IntKind.i64.wrap (s1.2.1 + 1)) + 1)) + 1)) + 1)) y32.pages y32.wait y32.got y32.ran y32.mark y32.links y32.data y32.queue)) (o := 4) hS5 (i := 0) rfl hy32 ag3 rfl (by show _ = o8 + (s1.2.2 : Int).toNat * 13 + 4; omega) rfl rfl rfl rfl (leafF (fun w cs F hF => by obtain ⟨q0, r0, q1, r1, q2, r2, rfl, hH⟩ := hF; exact ⟨q0, r0, q1, r1, q2, r2, rfl, hH⟩)) ?_
      intro w38 hS6 hf
      rw [Option.some.inj hy37] at hS6
      refine LW.nil ?_
      show CW _ _ _ _ _ _
      refine CW.seq ?_
      refine CW.region ?_
      iterate 3 refine LW.p rfl rfl ?_
      refine LW.nil ?_
      show CW _ _ _ _ _ _
      refine CW.fresh (l := [(0, .slice (some ⟨b7, o8, none⟩) s1.1.length c0_0), (1, .int .i64 (IntKind.i64.wrap ((IntKind.i64.wrap ((IntKind.i64.wrap ((IntKind.i64.wrap ((IntKind.i64.wrap (s1.2.1 + 1)) + 1)) + 1)) + 1)) + 1))), (5, .int .i64 s1.2.2)]) ⟨rfl, rfl, rfl, trivial⟩ (fun e => ?_)
      refine CW.seq ?_
      refine CW.region ?_
      iterate 3 refine LW.p rfl rfl ?_
      replace h := obind h
      obtain ⟨y39, hy39, h⟩ := h
      obtain ⟨b42, o43, hae, hp40, hq41⟩ := hS6.ownIdx (α := DObj) (i := 0) rfl hy39
      cases hae
      refine LW.u (Pur.ix Try.underlying68 sz123 rfl rfl hp40 (by rw [show s1.1.length = y37.length from (((((len_set (Option.some.inj hy9)).trans (len_set (Option.some.inj hy16))).trans (len_set (Option.some.inj hy23))).trans (len_set (Option.some.inj hy30))).trans (len_set (Option.some.inj hy37)))]; exact hq41)) rfl ?_
      refine LW.u (Pur.fa fo123_5 rfl) rfl ?_
      replace h := obind h
      obtain ⟨y44, hy44, h⟩ := h
      refine LW.stE (M := []) (L := [sl (some ⟨b7, o8, none⟩) c0_0 y37]) (z := y39) (z' := (DObj.mk y39.gen y39.kind y39.box y39.res y39.til (IntKind.i64.wrap ((IntKind.i64.wrap ((IntKind.i64.wrap ((IntKind.i64.wrap ((IntKind.i64.wrap (s1.2.1 + 1)) + 1)) + 1)) + 1)) + 1)) y39.wait y39.got y39.ran y39.mark y39.links y39.data y39.queue)) (o := 5) hS6 (i := 0) rfl hy39 ag3 rfl (by show _ = o8 + (s1.2.2 : Int).toNat * 13 + 5; omega) rfl rfl rfl rfl (leafF (fun w cs F hF => by obtain ⟨q0, r0, q1, r1, q2, r2, rfl, hH⟩ := hF; exact ⟨q0, r0, q1, r1, q2, r2, rfl, hH⟩)) ?_
      intro w45 hS7 hf
      rw [Option.some.inj hy44] at hS7
      refine LW.nil ?_
      show CW _ _ _ _ _ _
      refine CW.seq ?_
      refine CW.region ?_
      iterate 3 refine LW.p rfl rfl ?_
      refine LW.nil ?_
      show CW _ _ _ _ _ _
      refine CW.seq ?_
      refine CW.region ?_
      iterate 3 refine LW.p rfl rfl ?_
      replace h := obind h
      obtain ⟨y46, hy46, h⟩ := h
      obtain ⟨b49, o50, hae, hp47, hq48⟩ := hS7.ownIdx (α := DObj) (i := 0) rfl hy46
      cases hae
      refine LW.u (Pur.ix Try.underlying68 sz123 rfl rfl hp47 (by rw [show s1.1.length = y44.length from ((((((len_set (Option.some.inj hy9)).trans (len_set (Option.some.inj hy16))).trans (len_set (Option.some.inj hy23))).trans (len_set (Option.some.inj hy30))).trans (len_set (Option.some.inj hy37))).trans (len_set (Option.some.inj hy44)))]; exact hq48)) rfl ?_
      refine LW.u (Pur.fa fo123_6 rfl) rfl ?_
      replace h := obind h
      obtain ⟨y51, hy51, h⟩ := h
      refine LW.stE (M := []) (L := [sl (some ⟨b7, o8, none⟩) c0_0 y44]) (z := y46) (z' := (DObj.mk y46.gen y46.kind y46.box y46.res y46.til y46.pages (IntKind.i64.wrap ((IntKind.i64.wrap ((IntKind.i64.wrap ((IntKind.i64.wrap ((IntKind.i64.wrap ((IntKind.i64.wrap (s1.2.1 + 1)) + 1)) + 1)) + 1)) + 1)) + 1)) y46.got y46.ran y46.mark y46.links y46.data y46.queue)) (o := 6) hS7 (i := 0) rfl hy46 ag3 rfl (by show _ = o8 + (s1.2.2 : Int).toNat * 13 + 6; omega) rfl rfl rfl rfl (leafF (fun w cs F hF => by obtain ⟨q0, r0, q1, r1, q2, r2, rfl, hH⟩ := hF; exact ⟨q0, r0, q1, r1, q2, r2, rfl, hH⟩)) ?_
      intro w52 hS8 hf
      rw [Option.some.inj hy51] at hS8
      refine LW.nil ?_
      show CW _ _ _ _ _ _
      refine CW.fresh (l := [(0, .slice (some ⟨b7, o8, none⟩) s1.1.length c0_0), (1, .int .i64 (IntKind.i64.wrap ((IntKind.i64.wrap ((IntKind.i64.wrap ((IntKind.i64.wrap ((IntKind.i64.wrap ((IntKind.i64.wrap (s1.2.1 + 1)) + 1)) + 1)) + 1)) + 1)) + 1))), (5, .int .i64 s1.2.2)]) ⟨rfl, rfl, rfl, trivial⟩ (fun e => ?_)
      refine CW.seq ?_
      refine CW.region ?_
      iterate 3 refine LW.p rfl rfl ?_
      refine LW.nil ?_
      show CW _ _ _ _ _ _
      refine CW.seq ?_
      refine CW.region ?_
      iterate 3 refine LW.p rfl rfl ?_
      replace h := obind h
      obtain ⟨y53, hy53, h⟩ := h
      obtain ⟨b56, o57, hae, hp54, hq55⟩ := hS8.ownIdx (α := DObj) (i := 0) rfl hy53
      cases hae
      refine LW.u (Pur.ix Try.underlying68 sz123 rfl rfl hp54 (by rw [show s1.1.length = y51.length from (((((((len_set (Option.some.inj hy9)).trans (len_set (Option.some.inj hy16))).trans (len_set (Option.some.inj hy23))).trans (len_set (Option.some.inj hy30))).trans (len_set (Option.some.inj hy37))).trans (len_set (Option.some.inj hy44))).trans (len_set (Option.some.inj hy51)))]; exact hq55)) rfl ?_
      refine LW.u (Pur.fa fo123_7 rfl) rfl ?_
      replace h := obind h
      obtain ⟨y58, hy58, h⟩ := h
      refine LW.stE (M := []) (L := [sl (some ⟨b7, o8, none⟩) c0_0 y51]) (z := y53) (z' := (DObj.mk y53.gen y53.kind y53.box y53.res y53.til y53.pages y53.wait (IntKind.i64.wrap ((IntKind.i64.wrap ((IntKind.i64.wrap ((IntKind.i64.wrap ((IntKind.i64.wrap ((IntKind.i64.wrap ((IntKind.i64.wrap (s1.2.1 + 1)) + 1)) + 1)) + 1)) + 1)) + 1)) + 1)) y53.ran y53.mark y53.links y53.data y53.queue)) (o := 7) hS8 (i := 0) rfl hy53 ag3 rfl (by show _ = o8 + (s1.2.2 : Int).toNat * 13 + 7; omega) rfl rfl rfl rfl (leafF (fun w cs F hF => by obtain ⟨q0, r0, q1, r1, q2, r2, rfl, hH⟩ := hF; exact ⟨q0, r0, q1, r1, q2, r2, rfl, hH⟩)) ?_
      intro w59 hS9 hf
      rw [Option.some.inj hy58] at hS9
      refine LW.nil ?_
      show CW _ _ _ _ _ _
      refine CW.seq ?_
      refine CW.region ?_
      iterate 3 refine LW.p rfl rfl ?_
      refine LW.nil ?_
      show CW _ _ _ _ _ _
      refine CW.fresh (l := [(0, .slice (some ⟨b7, o8, none⟩) s1.1.length c0_0), (1, .int .i64 (IntKind.i64.wrap ((IntKind.i64.wrap ((IntKind.i64.wrap ((IntKind.i64.wrap ((IntKind.i64.wrap ((IntKind.i64.wrap ((IntKind.i64.wrap ((IntKind.i64.wrap (s1.2.1 + 1)) + 1)) + 1)) + 1)) + 1)) + 1)) + 1)) + 1))), (5, .int .i64 s1.2.2)]) ⟨rfl, rfl, rfl, trivial⟩ (fun e => ?_)
      refine CW.seq ?_
      refine CW.region ?_
      iterate 3 refine LW.p rfl rfl ?_
      replace h := obind h
      obtain ⟨y60, hy60, h⟩ := h
      obtain ⟨b63, o64, hae, hp61, hq62⟩ := hS9.ownIdx (α := DObj) (i := 0) rfl hy60
      cases hae
      refine LW.u (Pur.ix Try.underlying68 sz123 rfl rfl hp61 (by rw [show s1.1.length = y58.length from ((((((((len_set (Option.some.inj hy9)).trans (len_set (Option.some.inj hy16))).trans (len_set (Option.some.inj hy23))).trans (len_set (Option.some.inj hy30))).trans (len_set (Option.some.inj hy37))).trans (len_set (Option.some.inj hy44))).trans (len_set (Option.some.inj hy51))).trans (len_set (Option.some.inj hy58)))]; exact hq62)) rfl ?_
      refine LW.u (Pur.fa fo123_8 rfl) rfl ?_
      replace h := obind h
      obtain ⟨y65, hy65, h⟩ := h
      refine LW.stE (M := []) (L := [sl (some ⟨b7, o8, none⟩) c0_0 y58]) (z := y60) (z' := (DObj.mk y60.gen y60.kind y60.box y60.res y60.til y60.pages y60.wait y60.got (IntKind.i64.wrap ((IntKind.i64.wrap ((IntKind.i64.wrap ((IntKind.i64.wrap ((IntKind.i64.wrap ((IntKind.i64.wrap ((IntKind.i64.wrap ((IntKind.i64.wrap (s1.2.1 + 1)) + 1)) + 1)) + 1)) + 1)) + 1)) + 1)) + 1)) y60.mark y60.links y60.data y60.queue)) (o := 8) hS9 (i := 0) rfl hy60 ag3 rfl (by show _ = o8 + (s1.2.2 : Int).toNat * 13 + 8; omega) rfl rfl rfl rfl (leafF (fun w cs F hF => by obtain ⟨q0, r0, q1, r1, q2, r2, rfl, hH⟩ := hF; exact ⟨q0, r0, q1, r1, q2, r2, rfl, hH⟩)) ?_
      intro w66 hS10 hf
      rw [Option.some.inj hy65] at hS10
      refine LW.nil ?_
      show CW _ _ _ _ _ _
      refine CW.seq ?_
      refine CW.region ?_
      iterate 3 refine LW.p rfl rfl ?_
      refine LW.nil ?_
      show CW _ _ _ _ _ _
      refine CW.seq ?_
      refine CW.region ?_
      iterate 3 refine LW.p rfl rfl ?_
      refine LW.u (Pur.rem rfl rfl (by decide)) rfl ?_
      refine LW.p rfl rfl ?_
      replace h := obind h
      obtain ⟨y67, hy67, h⟩ := h
      obtain ⟨b70, o71, hae, hp68, hq69⟩ := hS10.ownIdx (α := DObj) (i := 0) rfl hy67
      cases hae
      refine LW.u (Pur.ix Try.underlying68 sz123 rfl rfl hp68 (by rw [show s1.1.length = y65.length from (((((((((len_set (Option.some.inj hy9)).trans (len_set (Option.some.inj hy16))).trans (len_set (Option.some.inj hy23))).trans (len_set (Option.some.inj hy30))).trans (len_set (Option.some.inj hy37))).trans (len_set (Option.some.inj hy44))).trans (len_set (Option.some.inj hy51))).trans (len_set (Option.some.inj hy58))).trans (len_set (Option.some.inj hy65)))]; exact hq69)) rfl ?_
      refine LW.u (Pur.fa fo123_9 rfl) rfl ?_
      replace h := obind h
      obtain ⟨y72, hy72, h⟩ := h
      refine LW.stE (M := []) (L := [sl (some ⟨b7, o8, none⟩) c0_0 y65]) (z := y67) (z' := (DObj.mk y67.gen y67.kind y67.box y67.res y67.til y67.pages y67.wait y67.got y67.ran ((Int.tmod (IntKind.i64.wrap ((IntKind.i64.wrap ((IntKind.i64.wrap ((IntKind.i64.wrap ((IntKind.i64.wrap ((IntKind.i64.wrap ((IntKind.i64.wrap ((IntKind.i64.wrap ((IntKind.i64.wrap (s1.2.1 + 1)) + 1)) + 1)) + 1)) + 1)) + 1)) + 1)) + 1)) + 1)) 3) == 0) y67.links y67.data y67.queue)) (o := 9) hS10 (i := 0) rfl hy67 ag4 rfl (by show _ = o8 + (s1.2.2 : Int).toNat * 13 + 9; omega) rfl rfl rfl rfl (leafF (fun w cs F hF => by obtain ⟨q0, r0, q1, r1, q2, r2, rfl, hH⟩ := hF; exact ⟨q0, r0, q1, r1, q2, r2, rfl, hH⟩)) ?_
      intro w73 hS11 hf
      rw [Option.some.inj hy72] at hS11
      refine LW.nil ?_
      show CW _ _ _ _ _ _
      refine CW.fresh (l := [(0, .slice (some ⟨b7, o8, none⟩) s1.1.length c0_0), (1, .int .i64 (IntKind.i64.wrap ((IntKind.i64.wrap ((IntKind.i64.wrap ((IntKind.i64.wrap ((IntKind.i64.wrap ((IntKind.i64.wrap ((IntKind.i64.wrap ((IntKind.i64.wrap ((IntKind.i64.wrap (s1.2.1 + 1)) + 1)) + 1)) + 1)) + 1)) + 1)) + 1)) + 1)) + 1))), (5, .int .i64 s1.2.2)]) ⟨rfl, rfl, rfl, trivial⟩ (fun e => ?_)
      refine CW.seq ?_
      refine CW.region ?_
      iterate 3 refine LW.p rfl rfl ?_
      refine LW.nil ?_
      show CW _ _ _ _ _ _
      refine CW.seq ?_
      refine CW.region ?_
      iterate 2 refine LW.p rfl rfl ?_
      replace h := obind h
      obtain ⟨y74, hy74, h⟩ := h
      obtain ⟨b77, o78, hae, hp75, hq76⟩ := hS11.ownIdx (α := DObj) (i := 0) rfl hy74
      cases hae
      refine LW.u (Pur.ix Try.underlying68 sz123 rfl rfl hp75 (by rw [show s1.1.length = y72.length from ((((((((((len_set (Option.some.inj hy9)).trans (len_set (Option.some.inj hy16))).trans (len_set (Option.some.inj hy23))).trans (len_set (Option.some.inj hy30))).trans (len_set (Option.some.inj hy37))).trans (len_set (Option.some.inj hy44))).trans (len_set (Option.some.inj hy51))).trans (len_set (Option.some.inj hy58))).trans (len_set (Option.some.inj hy65))).trans (len_set (Option.some.inj hy72)))]; exact hq76)) rfl ?_
      refine LW.u (Pur.fa fo123_10 rfl) rfl ?_
      obtain ⟨F79, ho80, hS12⟩ := hS11.freeze (α := DObj) 0 rfl
      obtain ⟨b81, o82, cs83, hae, hb86, _, _, hd84, hk85⟩ := ho80.rdF.idx hy74
      cases hae
      obtain ⟨a87, c88, a90, c91, a93, c94, rfl, hr89, hr92, hr95⟩ := hd84
      refine LW.l (Ldr.old w73 ag24 rfl (hk85 10 _ rfl)) (hS12.zC 0 rfl hb86) rfl ?_
      refine LW.p rfl rfl ?_
      replace h := obind h
      obtain ⟨y96, hy96, h⟩ := h
      obtain ⟨q111, hy96', hq112⟩ := obind hy96
      obtain ⟨hl113, hq112⟩ := keepL_some hq112
      rw [Option.some.inj hq112] at hy96' hl113
      have hn97 := fun (j : Nat) (u : Value) (hu : ([.int .i64 y74.gen, .int .i64 y74.kind, .int .i64 y74.box, .int .i64 y74.res, .int .i64 y74.til, .int .i64 y74.pages, .int .i64 y74.wait, .int .i64 y74.got, .int .i64 y74.ran, .bool y74.mark, .slice a87 y74.links.length c88, .slice a90 y74.data.length c91, .slice a93 y74.queue.length c94] : List Value)[j]? = some u) => (World.cell?_of_block (hS12.zC 0 rfl hb86)).trans (hk85 j u hu)
      have hS13 := hS12.thaw (α := DObj) 0 rfl ho80
      obtain ⟨Fx98, ho99, hf100⟩ := hS13.focus (α := DObj) (cs := [.int .i64 y74.gen, .int .i64 y74.kind, .int .i64 y74.box, .int .i64 y74.res, .int .i64 y74.til, .int .i64 y74.pages, .int .i64 y74.wait, .int .i64 y74.got, .int .i64 y74.ran, .bool y74.mark, .slice a87 y74.links.length c88, .slice a90 y74.data.length c91, .slice a93 y74.queue.length c94]) 0 rfl hy74 rfl hn97
      obtain ⟨a103, c104, a105, c106, a107, c108, hc101, hH102⟩ := ho99
      cases hc101
      have hS14 := hf100 [sl a87 c88 y74.links, sl a90 c91 y74.data, sl a93 c94 y74.queue] hH102
      have hS15 := hS14.pick (M := [sl a87 c88 y74.links] ++ [sl a90 c91 y74.data, sl a93 c94 y74.queue, hole DObj (some ⟨b7, o8, none⟩) c0_0 y72 (s1.2.2 : Int).toNat [.int .i64 y74.gen, .int .i64 y74.kind, .int .i64 y74.box, .int .i64 y74.res, .int .i64 y74.til, .int .i64 y74.pages, .int .i64 y74.wait, .int .i64 y74.got, .int .i64 y74.ran, .bool y74.mark, .slice a87 y74.links.length c88, .slice a90 y74.data.length c91, .slice a93 y74.queue.length c94]]) [0, 1, 2, 3] rfl rfl
      obtain ⟨F109, hL110⟩ := St.lend (L := [sl a87 c88 y74.links]) (M := [sl a90 c91 y74.data, sl a93 c94 y74.queue, hole DObj (some ⟨b7, o8, none⟩) c0_0 y72 (s1.2.2 : Int).toNat [.int .i64 y74.gen, .int .i64 y74.kind, .int .i64 y74.box, .int .i64 y74.res, .int .i64 y74.til, .int .i64 y74.pages, .int .i64 y74.wait, .int .i64 y74.got, .int .i64 y74.ran, .bool y74.mark, .slice a87 y74.links.length c88, .slice a90 y74.data.length c91, .slice a93 y74.queue.length c94]]) hS15
      have q := W_l_markIntS (w0 := w73) hy96' rfl hL110.st
      refine LW.call pl61 rfl rfl ?_
      refine Ret.mono q ?_
      rintro _ w114 ⟨rfl, hs⟩
      have hS16 := hL110.back _ _ hs
      refine LW.p rfl rfl ?_
      refine LW.nil ?_
      show CW _ _ _ _ _ _
      refine CW.fresh (l := [(0, .slice (some ⟨b7, o8, none⟩) s1.1.length c0_0), (1, .int .i64 y96.1), (5, .int .i64 s1.2.2)]) ⟨rfl, rfl, rfl, trivial⟩ (fun e => ?_)
      refine CW.seq ?_
      refine CW.region ?_
      iterate 2 refine LW.p rfl rfl ?_
      refine LW.u (Pur.ix Try.underlying68 sz123 rfl rfl hp75 (by rw [show s1.1.length = y72.length from ((((((((((len_set (Option.some.inj hy9)).trans (len_set (Option.some.inj hy16))).trans (len_set (Option.some.inj hy23))).trans (len_set (Option.some.inj hy30))).trans (len_set (Option.some.inj hy37))).trans (len_set (Option.some.inj hy44))).trans (len_set (Option.some.inj hy51))).trans (len_set (Option.some.inj hy58))).trans (len_set (Option.some.inj hy65))).trans (len_set (Option.some.inj hy72)))]; exact hq76)) rfl ?_
      refine LW.u (Pur.fa fo123_11 rfl) rfl ?_
      refine LW.l (Ldr.old w114 ag24 rfl (hS16.holeC 3 rfl (j := 11) rfl)) rfl rfl ?_
      refine LW.p rfl rfl ?_
      replace h := obind h
      obtain ⟨y115, hy115, h⟩ := h
      obtain ⟨q118, hy115', hq119⟩ := obind hy115
      obtain ⟨hl120, hq119⟩ := keepL_some hq119
      rw [Option.some.inj hq119] at hy115' hl120
      rw [show y74.links.length = y96.2.length from hl113] at hS16
      have hS17 := hS16.pick (M := [sl a90 c91 y74.data] ++ [sl a87 c88 y96.2, sl a93 c94 y74.queue, hole DObj (some ⟨b7, o8, none⟩) c0_0 y72 (s1.2.2 : Int).toNat [.int .i64 y74.gen, .int .i64 y74.kind, .int .i64 y74.box, .int .i64 y74.res, .int .i64 y74.til, .int .i64 y74.pages, .int .i64 y74.wait, .int .i64 y74.got, .int .i64 y74.ran, .bool y74.mark, .slice a87 y96.2.length c88, .slice a90 y74.data.length c91, .slice a93 y74.queue.length c94]]) [1, 0, 2, 3] rfl rfl
      obtain ⟨F116, hL117⟩ := St.lend (L := [sl a90 c91 y74.data]) (M := [sl a87 c88 y96.2, sl a93 c94 y74.queue, hole DObj (some ⟨b7, o8, none⟩) c0_0 y72 (s1.2.2 : Int).toNat [.int .i64 y74.gen, .int .i64 y74.kind, .int .i64 y74.box, .int .i64 y74.res, .int .i64 y74.til, .int .i64 y74.pages, .int .i64 y74.wait, .int .i64 y74.got, .int .i64 y74.ran, .bool y74.mark, .slice a87 y96.2.length c88, .slice a90 y74.data.length c91, .slice a93 y74.queue.length c94]]) hS17
      have q := W_l_markIntS (w0 := w114) hy115' rfl hL117.st
      refine LW.call pl61 rfl rfl ?_
      refine Ret.mono q ?_
      rintro _ w121 ⟨rfl, hs⟩
      have hS18 := hL117.back _ _ hs
      refine LW.p rfl rfl ?_
      refine LW.nil ?_
      show CW _ _ _ _ _ _
      refine CW.region ?_
      iterate 2 refine LW.p rfl rfl ?_
      refine LW.u (Pur.ix Try.underlying68 sz123 rfl rfl hp75 (by rw [show s1.1.length = y72.length from ((((((((((len_set (Option.some.inj hy9)).trans (len_set (Option.some.inj hy16))).trans (len_set (Option.some.inj hy23))).trans (len_set (Option.some.inj hy30))).trans (len_set (Option.some.inj hy37))).trans (len_set (Option.some.inj hy44))).trans (len_set (Option.some.inj hy51))).trans (len_set (Option.some.inj hy58))).trans (len_set (Option.some.inj hy65))).trans (len_set (Option.some.inj hy72)))]; exact hq76)) rfl ?_
      refine LW.u (Pur.fa fo123_12 rfl) rfl ?_
      refine LW.l (Ldr.old w121 ag121 rfl (hS18.holeC 3 rfl (j := 12) rfl)) rfl rfl ?_
      refine LW.p rfl rfl ?_
      replace h := obind h
      obtain ⟨y122, hy122, h⟩ := h
      obtain ⟨q125, hy122', hq126⟩ := obind hy122
      obtain ⟨hl127, hq126⟩ := keepL_some hq126
      rw [Option.some.inj hq126] at hy122' hl127
      rw [show y74.data.length = y115.2.length from hl120] at hS18
      have hS19 := hS18.pick (M := [sl a93 c94 y74.queue] ++ [sl a90 c91 y115.2, sl a87 c88 y96.2, hole DObj (some ⟨b7, o8, none⟩) c0_0 y72 (s1.2.2 : Int).toNat [.int .i64 y74.gen, .int .i64 y74.kind, .int .i64 y74.box, .int .i64 y74.res, .int .i64 y74.til, .int .i64 y74.pages, .int .i64 y74.wait, .int .i64 y74.got, .int .i64 y74.ran, .bool y74.mark, .slice a87 y96.2.length c88, .slice a90 y115.2.length c91, .slice a93 y74.queue.length c94]]) [2, 0, 1, 3] rfl rfl
      obtain ⟨F123, hL124⟩ := St.lend (L := [sl a93 c94 y74.queue]) (M := [sl a90 c91 y115.2, sl a87 c88 y96.2, hole DObj (some ⟨b7, o8, none⟩) c0_0 y72 (s1.2.2 : Int).toNat [.int .i64 y74.gen, .int .i64 y74.kind, .int .i64 y74.box, .int .i64 y74.res, .int .i64 y74.til, .int .i64 y74.pages, .int .i64 y74.wait, .int .i64 y74.got, .int .i64 y74.ran, .bool y74.mark, .slice a87 y96.2.length c88, .slice a90 y115.2.length c91, .slice a93 y74.queue.length c94]]) hS19
      have q := W_l_markMsgS (w0 := w121) hy122' rfl hL124.st
      refine LW.call pl162 rfl rfl ?_
      refine Ret.mono q ?_
      rintro _ w128 ⟨rfl, hs⟩
      have hS20 := hL124.back _ _ hs
      refine LW.p rfl rfl ?_
      refine LW.nil ?_
      show CW _ _ _ _ _ _
      refine CW.fresh (l := [(0, .slice (some ⟨b7, o8, none⟩) s1.1.length c0_0), (1, .int .i64 y122.1), (5, .int .i64 s1.2.2)]) ⟨rfl, rfl, rfl, trivial⟩ (fun e => ?_)
      refine CW.region ?_
      iterate 3 refine LW.p rfl rfl ?_
      refine LW.nil ?_
      replace h := Option.some.inj h
      subst h
      rw [show y74.queue.length = y122.2.length from hl127] at hS20
      have hS21 := hS20.pick (M := [sl a87 c88 y96.2, sl a90 c91 y115.2, sl a93 c94 y122.2] ++ [hole DObj (some ⟨b7, o8, none⟩) c0_0 y72 (s1.2.2 : Int).toNat [.int .i64 y74.gen, .int .i64 y74.kind, .int .i64 y74.box, .int .i64 y74.res, .int .i64 y74.til, .int .i64 y74.pages, .int .i64 y74.wait, .int .i64 y74.got, .int .i64 y74.ran, .bool y74.mark, .slice a87 y96.2.length c88, .slice a90 y115.2.length c91, .slice a93 y122.2.length c94]]) [2, 1, 0, 3] rfl rfl
      have hS22 := hS21.unfocus (M := [sl a87 c88 y96.2, sl a90 c91 y115.2, sl a93 c94 y122.2]) (L := [hole DObj (some ⟨b7, o8, none⟩) c0_0 y72 (s1.2.2 : Int).toNat [.int .i64 y74.gen, .int .i64 y74.kind, .int .i64 y74.box, .int .i64 y74.res, .int .i64 y74.til, .int .i64 y74.pages, .int .i64 y74.wait, .int .i64 y74.got, .int .i64 y74.ran, .bool y74.mark, .slice a87 y96.2.length c88, .slice a90 y115.2.length c91, .slice a93 y122.2.length c94]]) (y := (DObj.mk y74.gen y74.kind y74.box y74.res y74.til y74.pages y74.wait y74.got y74.ran y74.mark y96.2 y115.2 y122.2)) 0 rfl (fun w G hG => ⟨a87, c88, a90, c91, a93, c94, rfl, hG⟩)
      exact ⟨rfl, ⟨⟨(show (.slice (some ⟨b7, o8, none⟩) s1.1.length c0_0 : Value) = .slice (some ⟨b7, o8, none⟩) ((y72.set (s1.2.2 : Int).toNat (DObj.mk y74.gen y74.kind y74.box y74.res y74.til y74.pages y74.wait y74.got y74.ran y74.mark y96.2 y115.2 y122.2)).length) c0_0 by rw [show s1.1.length = (y72.set (s1.2.2 : Int).toNat (DObj.mk y74.gen y74.kind y74.box y74.res y74.til y74.pages y74.wait y74.got y74.ran y74.mark y96.2 y115.2 y122.2)).length from (((((((((((len_set (Option.some.inj hy9)).trans (len_set (Option.some.inj hy16))).trans (len_set (Option.some.inj hy23))).trans (len_set (Option.some.inj hy30))).trans (len_set (Option.some.inj hy37))).trans (len_set (Option.some.inj hy44))).trans (len_set (Option.some.inj hy51))).trans (len_set (Option.some.inj hy58))).trans (len_set (Option.some.inj hy65))).trans (len_set (Option.some.inj hy72))).trans (len_set rfl))]), rfl, rfl, trivial⟩, hS22.pick [0] rfl rfl⟩⟩
    replace h := bcF h hc3
    refine CW.exit ?_
    replace h := Option.some.inj h
    subst h
    exact ⟨trivial, rfl, ⟨⟨rfl, trivial⟩, hS1.pick [0] rfl rfl⟩⟩
  intro x e w131 hM
  obtain ⟨rfl, hM⟩ := hM
  obtain ⟨hE, hS23⟩ := hM
  obtain ⟨e, rfl⟩ := hE.out
  have h := h130
  show CW _ _ _ _ _ _
  refine CW.seq ?_
  refine CW.region ?_
  iterate 2 refine LW.p rfl rfl ?_
  refine LW.nil ?_
  show CW _ _ _ _ _ _
  refine CW.ret ?_
  replace h := Option.some.inj h
  subst h
  exact And.intro trivial ⟨_, Res.one (resOne.t rfl), rfl, hS23.pick [0] rfl rfl⟩

theorem W_l_markTapS {w0 : World} {F : List Nat} {N : Nat} {x0 : List DTap} {x1 : Int} {r : Int × (List DTap)} (h : F_l_markTapS N x0 x1 = some r) {a0_0 : Option Addr} {n0_0 c0_0 : Nat} (hn0_0 : n0_0 = x0.length) (hS : St w0 F w0 [sl a0_0 c0_0 x0]) :
    Ret Try.prog 97 #[.slice a0_0 n0_0 c0_0, .int .i64 x1] w0 (fun v w => v = .int .i64 r.1 ∧ St w0 F w [sl a0_0 c0_0 r.2]) := by
  subst hn0_0
  unfold F_l_markTapS at h
  refine Ret.of Try.func97 rfl rfl rfl ?_
  refine CW.seq ?_
  refine CW.region ?_
  refine LW.p rfl rfl ?_
  refine LW.nil ?_
  show CW _ _ _ _ _ _
  refine CW.seq ?_
  refine CW.seq ?_
  refine CW.region ?_
  refine LW.p rfl rfl ?_
  refine LW.nil ?_
  show CW _ _ _ _ _ _
  refine CW.block ?_
  obtain ⟨o46, ho46, h47⟩ := obind h
  refine CW.mono (CW.iter (σ := (List DTap) × Int × Int) (ρ := (List DTap) × Int × Int) (fun s1 e wb => En e [(0, .slice a0_0 s1.1.length c0_0), (1, .int .i64 s1.2.1), (5, .int .i64 s1.2.2)] ∧ St w0 F wb [sl a0_0 c0_0 s1.1]) (fun s1 x e wb => x = .exit 0 ∧ En e [(1, .int .i64 s1.2.1)] ∧ St w0 F wb [sl a0_0 c0_0 s1.1]) ?_ N (x0, x1, 0) _ _ _ ⟨⟨rfl, rfl, rfl, trivial⟩, hS.pick [0] rfl rfl⟩ ho46) ?_
  · intro s1 e w2 o hM h
    obtain ⟨hE, hS1⟩ := hM
    obtain ⟨e, rfl⟩ := hE.out
    refine CW.seq ?_
    refine CW.seq ?_
    refine CW.region ?_
    iterate 2 refine LW.p rfl rfl ?_
    refine LW.u (Pur.len Try.underlying72 rfl) rfl ?_
    refine LW.p rfl rfl ?_
    refine LW.nil ?_
    show CW _ _ _ _ _ _
    refine CW.cond rfl (fun hc3 => ?_) (fun hc3 => ?_)
    · replace h := bcT h hc3
      refine CW.skip ?_
      show CW _ _ _ _ _ _
      refine CW.seq ?_
      refine CW.block ?_
      refine CW.seq ?_
      refine CW.region ?_
      iterate 3 refine LW.p rfl rfl ?_
      replace h := obind h
      obtain ⟨y4, hy4, h⟩ := h
      obtain ⟨b7, o8, hae, hp5, hq6⟩ := hS1.ownIdx (α := DTap) (i := 0) rfl hy4
      subst hae
      refine LW.u (Pur.ix Try.underlying72 sz158 rfl rfl hp5 hq6) rfl ?_
      refine LW.u (Pur.fa fo158_0 rfl) rfl ?_
      replace h := obind h
      obtain ⟨y9, hy9, h⟩ := h
      refine LW.stE (M := []) (L := [sl (some ⟨b7, o8, none⟩) c0_0 s1.1]) (z := y4) (z' := (DTap.mk s1.2.1 y4.toPart y4.toRes y4.which y4.kind y4.rate)) (o := 0) hS1 (i := 0) rfl hy4 ag3 rfl (by show _ = o8 + (s1.2.2 : Int).toNat * 6 + 0; omega) rfl rfl rfl rfl (leafF (fun w cs F hF => by obtain ⟨rfl, rfl⟩ := hF; exact ⟨rfl, rfl⟩)) ?_
      intro w10 hS2 hf
      rw [Option.some.inj hy9] at hS2
      refine LW.nil ?_
      show CW _ _ _ _ _ _
      refine CW.fresh (l := [(0, .slice (some ⟨b7, o8, none⟩) s1.1.length c0_0), (1, .int .i64 s1.2.1), (5, .int .i64 s1.2.2)]) ⟨rfl, rfl, rfl, trivial⟩ (fun e => ?_)
      refine CW.seq ?_
      refine CW.region ?_
      iterate 3 refine LW.p rfl rfl ?_
      refine LW.nil ?_
      show CW _ _ _ _ _ _
      refine CW.seq ?_
      refine CW.region ?_
      iterate 3 refine LW.p rfl rfl ?_
      replace h := obind h
      obtain ⟨y11, hy11, h⟩ := h
      obtain ⟨b14, o15, hae, hp12, hq13⟩ := hS2.ownIdx (α := DTap) (i := 0) rfl hy11
      cases hae
      refine LW.u (Pur.ix Try.underlying72 sz158 rfl rfl hp12 (by rw [show s1.1.length = y9.length from (len_set (Option.some.inj hy9))]; exact hq13)) rfl ?_
      refine LW.u (Pur.fa fo158_1 rfl) rfl ?_
      replace h := obind h
      obtain ⟨y16, hy16, h⟩ := h
      refine LW.stE (M := []) (L := [sl (some ⟨b7, o8, none⟩) c0_0 y9]) (z := y11) (z' := (DTap.mk y11.res (IntKind.i64.wrap (s1.2.1 + 1)) y11.toRes y11.which y11.kind y11.rate)) (o := 1) hS2 (i := 0) rfl hy11 ag3 rfl (by show _ = o8 + (s1.2.2 : Int).toNat * 6 + 1; omega) rfl rfl rfl rfl (leafF (fun w cs F hF => by obtain ⟨rfl, rfl⟩ := hF; exact ⟨rfl, rfl⟩)) ?_
      intro w17 hS3 hf
      rw [Option.some.inj hy16] at hS3
      refine LW.nil ?_
      show CW _ _ _ _ _ _
      refine CW.seq ?_
      refine CW.region ?_
      iterate 3 refine LW.p rfl rfl ?_
      refine LW.nil ?_
      show CW _ _ _ _ _ _
      refine CW.fresh (l := [(0, .slice (some ⟨b7, o8, none⟩) s1.1.length c0_0), (1, .int .i64 (IntKind.i64.wrap ((IntKind.i64.wrap (s1.2.1 + 1)) + 1))), (5, .int .i64 s1.2.2)]) ⟨rfl, rfl, rfl, trivial⟩ (fun e => ?_)
      refine CW.seq ?_
      refine CW.region ?_
      iterate 3 refine LW.p rfl rfl ?_
      replace h := obind h
      obtain ⟨y18, hy18, h⟩ := h
      obtain ⟨b21, o22, hae, hp19, hq20⟩ := hS3.ownIdx (α := DTap) (i := 0) rfl hy18
      cases hae
      refine LW.u (Pur.ix Try.underlying72 sz158 rfl rfl hp19 (by rw [show s1.1.length = y16.length from ((len_set (Option.some.inj hy9)).trans (len_set (Option.some.inj hy16)))]; exact hq20)) rfl ?_
      refine LW.u (Pur.fa fo158_2 rfl) rfl ?_
      replace h := obind h
      obtain ⟨y23, hy23, h⟩ := h
      refine LW.stE (M := []) (L := [sl (some ⟨b7, o8, none⟩) c0_0 y16]) (z := y18) (z' := (DTap.mk y18.res y18.toPart (IntKind.i64.wrap ((IntKind.i64.wrap (s1.2.1 + 1)) + 1)) y18.which y18.kind y18.rate)) (o := 2) hS3 (i := 0) rfl hy18 ag3 rfl (by show _ = o8 + (s1.2.2 : Int).toNat * 6 + 2; omega) rfl rfl rfl rfl (leafF (fun w cs F hF => by obtain ⟨rfl, rfl⟩ := hF; exact ⟨rfl, rfl⟩)) ?_
      intro w24 hS4 hf
      rw [Option.some.inj hy23] at hS4
      refine LW.nil ?_
      show CW _ _ _ _ _ _
      refine CW.seq ?_
      refine CW.region ?_
      iterate 3 refine LW.p rfl rfl ?_
      refine LW.nil ?_
      show CW _ _ _ _ _ _
      refine CW.seq ?_
      refine CW.region ?_
      iterate 3 refine LW.p rfl rfl ?_
      replace h := obind h
      obtain ⟨y25, hy25, h⟩ := h
      obtain ⟨b28, o29, hae, hp26, hq27⟩ := hS4.ownIdx (α := DTap) (i := 0) rfl hy25
      cases hae
      refine LW.u (Pur.ix Try.underlying72 sz158 rfl rfl hp26 (by rw [show s1.1.length = y23.length from (((len_set (Option.some.inj hy9)).trans (len_set (Option.some.inj hy16))).trans (len_set (Option.some.inj hy23)))]; exact hq27)) rfl ?_
      refine LW.u (Pur.fa fo158_3 rfl) rfl ?_
      replace h := obind h
      obtain ⟨y30, hy30, h⟩ := h
      refine LW.stE (M := []) (L := [sl (some ⟨b7, o8, none⟩) c0_0 y23]) (z := y25) (z' := (DTap.mk y25.res y25.toPart y25.toRes (IntKind.i64.wrap ((IntKind.i64.wrap ((IntKind.i64.wrap (s1.2.1 + 1)) + 1)) + 1)) y25.kind y25.rate)) (o := 3) hS4 (i := 0) rfl hy25 ag3 rfl (by show _ = o8 + (s1.2.2 : Int).toNat * 6 + 3; omega) rfl rfl rfl rfl (leafF (fun w cs F hF => by obtain ⟨rfl, rfl⟩ := hF; exact ⟨rfl, rfl⟩)) ?_
      intro w31 hS5 hf
      rw [Option.some.inj hy30] at hS5
      refine LW.nil ?_
      show CW _ _ _ _ _ _
      refine CW.fresh (l := [(0, .slice (some ⟨b7, o8, none⟩) s1.1.length c0_0), (1, .int .i64 (IntKind.i64.wrap ((IntKind.i64.wrap ((IntKind.i64.wrap (s1.2.1 + 1)) + 1)) + 1))), (5, .int .i64 s1.2.2)]) ⟨rfl, rfl, rfl, trivial⟩ (fun e => ?_)
      refine CW.seq ?_
      refine CW.region ?_
      iterate 3 refine LW.p rfl rfl ?_
      refine LW.nil ?_
      show CW _ _ _ _ _ _
      refine CW.seq ?_
      refine CW.region ?_
      iterate 3 refine LW.p rfl rfl ?_
      replace h := obind h
      obtain ⟨y32, hy32, h⟩ := h
      obtain ⟨b35, o36, hae, hp33, hq34⟩ := hS5.ownIdx (α := DTap) (i := 0) rfl hy32
      cases hae
      refine LW.u (Pur.ix Try.underlying72 sz158 rfl rfl hp33 (by rw [show s1.1.length = y30.length from ((((len_set (Option.some.inj hy9)).trans (len_set (Option.some.inj hy16))).trans (len_set (Option.some.inj hy23))).trans (len_set (Option.some.inj hy30)))]; exact hq34)) rfl ?_
      refine LW.u (Pur.fa fo158_4 rfl) rfl ?_
      replace h := obind h
      obtain ⟨y37, hy37, h⟩ := h
      refine LW.stE (M := []) (L := [sl (some ⟨b7, o8, none⟩) c0_0 y30]) (z := y32) (z' := (DTap.mk y32.res y32.toPart y32.toRes y32.which (IntKind.i64.wrap ((IntKind.i64.wrap ((IntKind.i64.wrap ((IntKind.i64.wrap (s1.2.1 + 1)) + 1)) + 1)) + 1)) y32.rate)) (o := 4) hS5 (i := 0) rfl hy32 ag3 rfl (by show _ = o8 + (s1.2.2 : Int).toNat * 6 + 4; omega) rfl rfl rfl rfl (leafF (fun w cs F hF => by obtain ⟨rfl, rfl⟩ := hF; exact ⟨rfl, rfl⟩)) ?_
      intro w38 hS6 hf
      rw [Option.some.inj hy37] at hS6
      refine LW.nil ?_
      show CW _ _ _ _ _ _
      refine CW.seq ?_
      refine CW.region ?_
      iterate 3 refine LW.p rfl rfl ?_
      refine LW.nil ?_
      show CW _ _ _ _ _ _
      refine CW.fresh (l := [(0, .slice (some ⟨b7, o8, none⟩) s1.1.length c0_0), (1, .int .i64 (IntKind.i64.wrap ((IntKind.i64.wrap ((IntKind.i64.wrap ((IntKind.i64.wrap ((IntKind.i64.wrap (s1.2.1 + 1)) + 1)) + 1)) + 1)) + 1))), (5, .int .i64 s1.2.2)]) ⟨rfl, rfl, rfl, trivial⟩ (fun e => ?_)
      refine CW.seq ?_
      refine CW.region ?_
      iterate 3 refine LW.p rfl rfl ?_
      replace h := obind h
      obtain ⟨y39, hy39, h⟩ := h
      obtain ⟨b42, o43, hae, hp40, hq41⟩ := hS6.ownIdx (α := DTap) (i := 0) rfl hy39
      cases hae
      refine LW.u (Pur.ix Try.underlying72 sz158 rfl rfl hp40 (by rw [show s1.1.length = y37.length from (((((len_set (Option.some.inj hy9)).trans (len_set (Option.some.inj hy16))).trans (len_set (Option.some.inj hy23))).trans (len_set (Option.some.inj hy30))).trans (len_set (Option.some.inj hy37)))]; exact hq41)) rfl ?_
      refine LW.u (Pur.fa fo158_5 rfl) rfl ?_
      replace h := obind h
      obtain ⟨y44, hy44, h⟩ := h
      refine LW.stE (M := []) (L := [sl (some ⟨b7, o8, none⟩) c0_0 y37]) (z := y39) (z' := (DTap.mk y39.res y39.toPart y39.toRes y39.which y39.kind (IntKind.i64.wrap ((IntKind.i64.wrap ((IntKind.i64.wrap ((IntKind.i64.wrap ((IntKind.i64.wrap (s1.2.1 + 1)) + 1)) + 1)) + 1)) + 1)))) (o := 5) hS6 (i := 0) rfl hy39 ag3 rfl (by show _ = o8 + (s1.2.2 : Int).toNat * 6 + 5; omega) rfl rfl rfl rfl (leafF (fun w cs F hF => by obtain ⟨rfl, rfl⟩ := hF; exact ⟨rfl, rfl⟩)) ?_
      intro w45 hS7 hf
      rw [Option.some.inj hy44] at hS7
      refine LW.nil ?_
      show CW _ _ _ _ _ _
      refine CW.region ?_
      iterate 3 refine LW.p rfl rfl ?_
      refine LW.nil ?_
      show CW _ _ _ _ _ _
      refine CW.region ?_
      iterate 3 refine LW.p rfl rfl ?_
      refine LW.nil ?_
      replace h := Option.some.inj h
      subst h
      exact ⟨rfl, ⟨⟨(show (.slice (some ⟨b7, o8, none⟩) s1.1.length c0_0 : Value) = .slice (some ⟨b7, o8, none⟩) y44.length c0_0 by rw [show s1.1.length = y44.length from ((((((len_set (Option.some.inj hy9)).trans (len_set (Option.some.inj hy16))).trans (len_set (Option.some.inj hy23))).trans (len_set (Option.some.inj hy30))).trans (len_set (Option.some.inj hy37))).trans (len_set (Option.some.inj hy44)))]), rfl, rfl, trivial⟩, hS7.pick [0] rfl rfl⟩⟩
    replace h := bcF h hc3
    refine CW.exit ?_
    replace h := Option.some.inj h
    subst h
    exact ⟨trivial, rfl, ⟨⟨rfl, trivial⟩, hS1.pick [0] rfl rfl⟩⟩
  intro x e w48 hM
  obtain ⟨rfl, hM⟩ := hM
  obtain ⟨hE, hS8⟩ := hM
  obtain ⟨e, rfl⟩ := hE.out
  have h := h47
  show CW _ _ _ _ _ _
  refine CW.seq ?_
  refine CW.region ?_
  iterate 2 refine LW.p rfl rfl ?_
  refine LW.nil ?_
  show CW _ _ _ _ _ _
  refine CW.ret ?_
  replace h := Option.some.inj h
  subst h
  exact And.intro trivial ⟨_, Res.one (resOne.t rfl), rfl, hS8.pick [0] rfl rfl⟩

theorem W_l_heldIntS {w0 : World} {N : Nat} {x0 : List Int} {x1 : Int} {r : Int} (h : F_l_heldIntS N x0 x1 = some r) {a0_0 : Option Addr} {n0_0 c0_0 : Nat} (hn0_0 : n0_0 = x0.length) (hr0_0 : rdS (Bor w0 []) w0 a0_0 c0_0 x0) :
    Ret Try.prog 98 #[.slice a0_0 n0_0 c0_0, .int .i64 x1] w0 (fun v w => v = .int .i64 r ∧ St w0 [] w []) := by
  subst hn0_0
  unfold F_l_heldIntS at h
  refine Ret.of Try.func98 rfl rfl rfl ?_
  have hS1 := St.start w0
  refine CW.seq ?_
  refine CW.region ?_
  refine LW.p rfl rfl ?_
  refine LW.nil ?_
  show CW _ _ _ _ _ _
  refine CW.seq ?_
  refine CW.seq ?_
  refine CW.region ?_
  refine LW.p rfl rfl ?_
  refine LW.nil ?_
  show CW _ _ _ _ _ _
  refine CW.block ?_
  obtain ⟨o14, ho14, h15⟩ := obind h
  refine CW.mono (CW.iter (σ := Int × Int) (ρ := (Int × Int) ⊕ Int) (fun s1 e wb => En e [(0, .slice a0_0 x0.length c0_0), (1, .int .i64 s1.1), (5, .int .i64 s1.2)] ∧ St w0 [] wb []) (fun o x e wb => match o with | .inl s1 => x = .exit 0 ∧ En e [(1, .int .i64 s1.1)] ∧ St w0 [] wb [] | .inr r => x = .ret ∧ ∃ u, u = r ∧ ∃ v, Res Try.prog Try.f98.results e wb v ∧ v = .int .i64 u ∧ St w0 [] wb []) ?_ N (x1, 0) _ _ _ ⟨⟨rfl, rfl, rfl, trivial⟩, hS1.pick [] rfl rfl⟩ ho14) ?_
  · intro s1 e w2 o hM h
    obtain ⟨hE, hS2⟩ := hM
    obtain ⟨e, rfl⟩ := hE.out
    refine CW.seq ?_
    refine CW.seq ?_
    refine CW.region ?_
    iterate 2 refine LW.p rfl rfl ?_
    refine LW.u (Pur.len Try.underlying24 rfl) rfl ?_
    refine LW.p rfl rfl ?_
    refine LW.nil ?_
    show CW _ _ _ _ _ _
    refine CW.cond rfl (fun hc3 => ?_) (fun hc3 => ?_)
    · replace h := bcT h hc3
      refine CW.skip ?_
      show CW _ _ _ _ _ _
      refine CW.seq ?_
      refine CW.block ?_
      refine CW.seq ?_
      refine CW.seq ?_
      refine CW.region ?_
      iterate 2 refine LW.p rfl rfl ?_
      replace h := obind h
      obtain ⟨y4, hy4, h⟩ := h
      obtain ⟨b7, o8, cs9, hae, hb12, hp5, hq6, hd10, hk11⟩ := hr0_0.idx hy4
      subst hae
      obtain rfl := hd10
      refine LW.u (Pur.ix Try.underlying24 sz3 rfl rfl hp5 hq6) rfl ?_
      refine LW.l (Ldr.old w0 ag3 rfl (hk11 0 _ rfl)) (hS2.same _ hb12.1 hb12.2) rfl ?_
      iterate 2 refine LW.p rfl rfl ?_
      refine LW.nil ?_
      show CW _ _ _ _ _ _
      refine CW.fresh (l := [(0, .slice (some ⟨b7, o8, none⟩) x0.length c0_0), (1, .int .i64 s1.1), (5, .int .i64 s1.2), (17, .bool (y4 != s1.1))]) ⟨rfl, rfl, rfl, rfl, trivial⟩ (fun e => ?_)
      refine CW.cond rfl (fun hc13 => ?_) (fun hc13 => ?_)
      · replace h := bcT h hc13
        refine CW.seq ?_
        refine CW.region ?_
        refine LW.p rfl rfl ?_
        refine LW.nil ?_
        show CW _ _ _ _ _ _
        refine CW.ret ?_
        replace h := Option.some.inj h
        subst h
        exact ⟨trivial, rfl, _, rfl, ⟨_, Res.one (resOne.t rfl), rfl, hS2.pick [] rfl rfl⟩⟩
      replace h := bcF h hc13
      refine CW.skip ?_
      show CW _ _ _ _ _ _
      refine CW.region ?_
      iterate 3 refine LW.p rfl rfl ?_
      refine LW.nil ?_
      show CW _ _ _ _ _ _
      refine CW.region ?_
      iterate 3 refine LW.p rfl rfl ?_
      refine LW.nil ?_
      replace h := Option.some.inj h
      subst h
      exact ⟨rfl, ⟨⟨rfl, rfl, rfl, trivial⟩, hS2.pick [] rfl rfl⟩⟩
    replace h := bcF h hc3
    refine CW.exit ?_
    replace h := Option.some.inj h
    subst h
    exact ⟨trivial, rfl, ⟨⟨rfl, trivial⟩, hS2.pick [] rfl rfl⟩⟩
  intro x e w16 hM
  rcases o14 with o14 | r17
  · obtain ⟨rfl, hM⟩ := hM
    obtain ⟨hE, hS3⟩ := hM
    obtain ⟨e, rfl⟩ := hE.out
    have h := h15
    show CW _ _ _ _ _ _
    refine CW.seq ?_
    refine CW.region ?_
    iterate 2 refine LW.p rfl rfl ?_
    refine LW.nil ?_
    show CW _ _ _ _ _ _
    refine CW.ret ?_
    cases h
    exact And.intro trivial ⟨_, Res.one (resOne.t rfl), rfl, hS3.pick [] rfl rfl⟩
  obtain ⟨rfl, u, rfl, hM⟩ := hM
  cases h15
  exact And.intro trivial hM

theorem W_l_heldResS {w0 : World} {N : Nat} {x0 : List DRes} {x1 : Int} {r : Int} (h : F_l_heldResS N x0 x1 = some r) {a0_0 : Option Addr} {n0_0 c0_0 : Nat} (hn0_0 : n0_0 = x0.length) (hr0_0 : rdS (Bor w0 []) w0 a0_0 c0_0 x0) :
    Ret Try.prog 99 #[.slice a0_0 n0_0 c0_0, .int .i64 x1] w0 (fun v w => v = .int .i64 r ∧ St w0 [] w []) := by
  subst hn0_0
  unfold F_l_heldResS at h
  refine Ret.of Try.func99 rfl rfl rfl ?_
  have hS1 := St.start w0
  refine CW.seq ?_
  refine CW.region ?_
  refine LW.p rfl rfl ?_
  refine LW.nil ?_
  show CW _ _ _ _ _ _
  refine CW.seq ?_
  refine CW.seq ?_
  refine CW.region ?_
  refine LW.p rfl rfl ?_
  refine LW.nil ?_
  show CW _ _ _ _ _ _
  refine CW.block ?_
  obtain ⟨o18, ho18, h19⟩ := obind h
  refine CW.mono (CW.iter (σ := Int × Int) (ρ := (Int × Int) ⊕ Int) (fun s1 e wb => En e [(0, .slice a0_0 x0.length c0_0), (1, .int .i64 s1.1), (5, .int .i64 s1.2)] ∧ St w0 [] wb []) (fun o x e wb => match o with | .inl s1 => x = .exit 0 ∧ En e [(1, .int .i64 s1.1)] ∧ St w0 [] wb [] | .inr r => x = .ret ∧ ∃ u, u = r ∧ ∃ v, Res Try.prog Try.f99.results e wb v ∧ v = .int .i64 u ∧ St w0 [] wb []) ?_ N (x1, 0) _ _ _ ⟨⟨rfl, rfl, rfl, trivial⟩, hS1.pick [] rfl rfl⟩ ho18) ?_
  · intro s1 e w2 o hM h
    obtain ⟨hE, hS2⟩ := hM
    obtain ⟨e, rfl⟩ := hE.out
    refine CW.seq ?_
    refine CW.seq ?_
    refine CW.region ?_
    iterate 2 refine LW.p rfl rfl ?_
    refine LW.u (Pur.len Try.underlying67 rfl) rfl ?_
    refine LW.p rfl rfl ?_
    refine LW.nil ?_
    show CW _ _ _ _ _ _
    refine CW.cond rfl (fun hc3 => ?_) (fun hc3 => ?_)
    · replace h := bcT h hc3
      refine CW.skip ?_
      show CW _ _ _ _ _ _
      refine CW.seq ?_
      refine CW.block ?_
      refine CW.seq ?_
      refine CW.seq ?_
      refine CW.region ?_
      iterate 2 refine LW.p rfl rfl ?_
      replace h := obind h
      obtain ⟨y4, hy4, h⟩ := h
      obtain ⟨b7, o8, cs9, hae, hb12, hp5, hq6, hd10, hk11⟩ := hr0_0.idx hy4
      subst hae
      obtain rfl := hd10
      refine LW.u (Pur.ix Try.underlying67 sz156 rfl rfl hp5 hq6) rfl ?_
      refine LW.u (Pur.fa fo156_0 rfl) rfl ?_
      refine LW.l (Ldr.old w0 ag4 rfl (hk11 0 _ rfl)) (hS2.same _ hb12.1 hb12.2) rfl ?_
      refine LW.p rfl rfl ?_
      refine LW.u (Pur.rem rfl rfl (by decide)) rfl ?_
      refine LW.p rfl rfl ?_
      refine LW.u (Pur.bne Try.underlying4 rfl rfl) rfl ?_
      refine LW.nil ?_
      show CW _ _ _ _ _ _
      refine CW.fresh (l := [(0, .slice (some ⟨b7, o8, none⟩) x0.length c0_0), (1, .int .i64 s1.1), (5, .int .i64 s1.2), (20, .bool (!(y4.live == ((Int.tmod s1.1 3) == 0))))]) ⟨rfl, rfl, rfl, rfl, trivial⟩ (fun e => ?_)
      refine CW.cond rfl (fun hc13 => ?_) (fun hc13 => ?_)
      · replace h := bcT h hc13
        refine CW.seq ?_
        refine CW.region ?_
        refine LW.p rfl rfl ?_
        refine LW.nil ?_
        show CW _ _ _ _ _ _
        refine CW.ret ?_
        replace h := Option.some.inj h
        subst h
        exact ⟨trivial, rfl, _, rfl, ⟨_, Res.one (resOne.t rfl), rfl, hS2.pick [] rfl rfl⟩⟩
      replace h := bcF h hc13
      refine CW.skip ?_
      show CW _ _ _ _ _ _
      refine CW.seq ?_
      refine CW.region ?_
      iterate 3 refine LW.p rfl rfl ?_
      refine LW.nil ?_
      show CW _ _ _ _ _ _
      refine CW.seq ?_
      refine CW.seq ?_
      refine CW.region ?_
      iterate 2 refine LW.p rfl rfl ?_
      refine LW.u (Pur.ix Try.underlying67 sz156 rfl rfl hp5 hq6) rfl ?_
      refine LW.u (Pur.fa fo156_1 rfl) rfl ?_
      refine LW.l (Ldr.old w0 ag3 rfl (hk11 1 _ rfl)) (hS2.same _ hb12.1 hb12.2) rfl ?_
      iterate 2 refine LW.p rfl rfl ?_
      refine LW.nil ?_
      show CW _ _ _ _ _ _
      refine CW.cond rfl (fun hc14 => ?_) (fun hc14 => ?_)
      · replace h := bcT h hc14
        refine CW.seq ?_
        refine CW.region ?_
        refine LW.p rfl rfl ?_
        refine LW.nil ?_
        show CW _ _ _ _ _ _
        refine CW.ret ?_
        replace h := Option.some.inj h
        subst h
        exact ⟨trivial, rfl, _, rfl, ⟨_, Res.one (resOne.t rfl), rfl, hS2.pick [] rfl rfl⟩⟩
      replace h := bcF h hc14
      refine CW.skip ?_
      show CW _ _ _ _ _ _
      refine CW.seq ?_
      refine CW.region ?_
      iterate 3 refine LW.p rfl rfl ?_
      refine LW.nil ?_
      show CW _ _ _ _ _ _
      refine CW.fresh (l := [(0, .slice (some ⟨b7, o8, none⟩) x0.length c0_0), (1, .int .i64 (IntKind.i64.wrap ((IntKind.i64.wrap (s1.1 + 1)) + 1))), (5, .int .i64 s1.2)]) ⟨rfl, rfl, rfl, trivial⟩ (fun e => ?_)
      refine CW.seq ?_
      refine CW.seq ?_
      refine CW.region ?_
      iterate 2 refine LW.p rfl rfl ?_
      refine LW.u (Pur.ix Try.underlying67 sz156 rfl rfl hp5 hq6) rfl ?_
      refine LW.u (Pur.fa fo156_2 rfl) rfl ?_
      refine LW.u (Pur.fa fo73_0 rfl) rfl ?_
      refine LW.l (Ldr.old w0 ag3 rfl (hk11 2 _ rfl)) (hS2.same _ hb12.1 hb12.2) rfl ?_
      iterate 2 refine LW.p rfl rfl ?_
      refine LW.nil ?_
      show CW _ _ _ _ _ _
      refine CW.cond rfl (fun hc15 => ?_) (fun hc15 => ?_)
      · replace h := bcT h hc15
        refine CW.seq ?_
        refine CW.region ?_
        refine LW.p rfl rfl ?_
        refine LW.nil ?_
        show CW _ _ _ _ _ _
        refine CW.ret ?_
        replace h := Option.some.inj h
        subst h
        exact ⟨trivial, rfl, _, rfl, ⟨_, Res.one (resOne.t rfl), rfl, hS2.pick [] rfl rfl⟩⟩
      replace h := bcF h hc15
      refine CW.skip ?_
      show CW _ _ _ _ _ _
      refine CW.seq ?_
      refine CW.region ?_
      iterate 3 refine LW.p rfl rfl ?_
      refine LW.nil ?_
      show CW _ _ _ _ _ _
      refine CW.seq ?_
      refine CW.seq ?_
      refine CW.region ?_
      iterate 2 refine LW.p rfl rfl ?_
      refine LW.u (Pur.ix Try.underlying67 sz156 rfl rfl hp5 hq6) rfl ?_
      refine LW.u (Pur.fa fo156_2 rfl) rfl ?_
      refine LW.u (Pur.fa fo73_1 rfl) rfl ?_
      refine LW.l (Ldr.old w0 ag3 rfl (hk11 3 _ rfl)) (hS2.same _ hb12.1 hb12.2) rfl ?_
      iterate 2 refine LW.p rfl rfl ?_
      refine LW.nil ?_
      show CW _ _ _ _ _ _
      refine CW.fresh (l := [(0, .slice (some ⟨b7, o8, none⟩) x0.length c0_0), (1, .int .i64 (IntKind.i64.wrap ((IntKind.i64.wrap ((IntKind.i64.wrap (s1.1 + 1)) + 1)) + 1))), (5, .int .i64 s1.2), (49, .bool (y4.bal.rent != (IntKind.i64.wrap ((IntKind.i64.wrap ((IntKind.i64.wrap (s1.1 + 1)) + 1)) + 1))))]) ⟨rfl, rfl, rfl, rfl, trivial⟩ (fun e => ?_)
      refine CW.cond rfl (fun hc16 => ?_) (fun hc16 => ?_)
      · replace h := bcT h hc16
        refine CW.seq ?_
        refine CW.region ?_
        refine LW.p rfl rfl ?_
        refine LW.nil ?_
        show CW _ _ _ _ _ _
        refine CW.ret ?_
        replace h := Option.some.inj h
        subst h
        exact ⟨trivial, rfl, _, rfl, ⟨_, Res.one (resOne.t rfl), rfl, hS2.pick [] rfl rfl⟩⟩
      replace h := bcF h hc16
      refine CW.skip ?_
      show CW _ _ _ _ _ _
      refine CW.seq ?_
      refine CW.region ?_
      iterate 3 refine LW.p rfl rfl ?_
      refine LW.nil ?_
      show CW _ _ _ _ _ _
      refine CW.seq ?_
      refine CW.seq ?_
      refine CW.region ?_
      iterate 2 refine LW.p rfl rfl ?_
      refine LW.u (Pur.ix Try.underlying67 sz156 rfl rfl hp5 hq6) rfl ?_
      refine LW.u (Pur.fa fo156_2 rfl) rfl ?_
      refine LW.u (Pur.fa fo73_2 rfl) rfl ?_
      refine LW.l (Ldr.old w0 ag3 rfl (hk11 4 _ rfl)) (hS2.same _ hb12.1 hb12.2) rfl ?_
      iterate 2 refine LW.p rfl rfl ?_
      refine LW.nil ?_
      show CW _ _ _ _ _ _
      refine CW.cond rfl (fun hc17 => ?_) (fun hc17 => ?_)
      · replace h := bcT h hc17
        refine CW.seq ?_
        refine CW.region ?_
        refine LW.p rfl rfl ?_
        refine LW.nil ?_
        show CW _ _ _ _ _ _
        refine CW.ret ?_
        replace h := Option.some.inj h
        subst h
        exact ⟨trivial, rfl, _, rfl, ⟨_, Res.one (resOne.t rfl), rfl, hS2.pick [] rfl rfl⟩⟩
      replace h := bcF h hc17
      refine CW.skip ?_
      show CW _ _ _ _ _ _
      refine CW.region ?_
      iterate 3 refine LW.p rfl rfl ?_
      refine LW.nil ?_
      show CW _ _ _ _ _ _
      refine CW.fresh (l := [(0, .slice (some ⟨b7, o8, none⟩) x0.length c0_0), (1, .int .i64 (IntKind.i64.wrap ((IntKind.i64.wrap ((IntKind.i64.wrap ((IntKind.i64.wrap ((IntKind.i64.wrap (s1.1 + 1)) + 1)) + 1)) + 1)) + 1))), (5, .int .i64 s1.2)]) ⟨rfl, rfl, rfl, trivial⟩ (fun e => ?_)
      refine CW.region ?_
      iterate 3 refine LW.p rfl rfl ?_
      refine LW.nil ?_
      replace h := Option.some.inj h
      subst h
      exact ⟨rfl, ⟨⟨rfl, rfl, rfl, trivial⟩, hS2.pick [] rfl rfl⟩⟩
    replace h := bcF h hc3
    refine CW.exit ?_
    replace h := Option.some.inj h
    subst h
    exact ⟨trivial, rfl, ⟨⟨rfl, trivial⟩, hS2.pick [] rfl rfl⟩⟩
  intro x e w20 hM
  rcases o18 with o18 | r21
  · obtain ⟨rfl, hM⟩ := hM
    obtain ⟨hE, hS3⟩ := hM
    obtain ⟨e, rfl⟩ := hE.out
    have h := h19
    show CW _ _ _ _ _ _
    refine CW.seq ?_
    refine CW.region ?_
    iterate 2 refine LW.p rfl rfl ?_
    refine LW.nil ?_
    show CW _ _ _ _ _ _
    refine CW.ret ?_
    cases h
    exact And.intro trivial ⟨_, Res.one (resOne.t rfl), rfl, hS3.pick [] rfl rfl⟩
  obtain ⟨rfl, u, rfl, hM⟩ := hM
  cases h19
  exact And.intro trivial hM

theorem W_l_heldMsgS {w0 : World} {N : Nat} {x0 : List DMsg} {x1 : Int} {r : Int} (h : F_l_heldMsgS N x0 x1 = some r) {a0_0 : Option Addr} {n0_0 c0_0 : Nat} (hn0_0 : n0_0 = x0.length) (hr0_0 : rdS (Bor w0 []) w0 a0_0 c0_0 x0) :
    Ret Try.prog 163 #[.slice a0_0 n0_0 c0_0, .int .i64 x1] w0 (fun v w => v = .int .i64 r ∧ St w0 [] w []) := by
  subst hn0_0
  unfold F_l_heldMsgS at h
  refine Ret.of Try.func163 rfl rfl rfl ?_
  have hS1 := St.start w0
  refine CW.seq ?_
  refine CW.region ?_
  refine LW.p rfl rfl ?_
  refine LW.nil ?_
  show CW _ _ _ _ _ _
  refine CW.seq ?_
  refine CW.seq ?_
  refine CW.region ?_
  refine LW.p rfl rfl ?_
  refine LW.nil ?_
  show CW _ _ _ _ _ _
  refine CW.block ?_
  obtain ⟨o15, ho15, h16⟩ := obind h
  refine CW.mono (CW.iter (σ := Int × Int) (ρ := (Int × Int) ⊕ Int) (fun s1 e wb => En e [(0, .slice a0_0 x0.length c0_0), (1, .int .i64 s1.1), (5, .int .i64 s1.2)] ∧ St w0 [] wb []) (fun o x e wb => match o with | .inl s1 => x = .exit 0 ∧ En e [(1, .int .i64 s1.1)] ∧ St w0 [] wb [] | .inr r => x = .ret ∧ ∃ u, u = r ∧ ∃ v, Res Try.prog Try.f163.results e wb v ∧ v = .int .i64 u ∧ St w0 [] wb []) ?_ N (x1, 0) _ _ _ ⟨⟨rfl, rfl, rfl, trivial⟩, hS1.pick [] rfl rfl⟩ ho15) ?_
  · intro s1 e w2 o hM h
    obtain ⟨hE, hS2⟩ := hM
    obtain ⟨e, rfl⟩ := hE.out
    refine CW.seq ?_
    refine CW.seq ?_
    refine CW.region ?_
    iterate 2 refine LW.p rfl rfl ?_
    refine LW.u (Pur.len Try.underlying121 rfl) rfl ?_
    refine LW.p rfl rfl ?_
    refine LW.nil ?_
    show CW _ _ _ _ _ _
    refine CW.cond rfl (fun hc3 => ?_) (fun hc3 => ?_)
    · replace h := bcT h hc3
      refine CW.skip ?_
      show CW _ _ _ _ _ _
      refine CW.seq ?_
      refine CW.block ?_
      refine CW.seq ?_
      refine CW.seq ?_
      refine CW.region ?_
      iterate 2 refine LW.p rfl rfl ?_
      replace h := obind h
      obtain ⟨y4, hy4, h⟩ := h
      obtain ⟨b7, o8, cs9, hae, hb12, hp5, hq6, hd10, hk11⟩ := hr0_0.idx hy4
      subst hae
      obtain rfl := hd10
      refine LW.u (Pur.ix Try.underlying121 sz199 rfl rfl hp5 hq6) rfl ?_
      refine LW.u (Pur.fa fo199_0 rfl) rfl ?_
      refine LW.l (Ldr.old w0 ag3 rfl (hk11 0 _ rfl)) (hS2.same _ hb12.1 hb12.2) rfl ?_
      iterate 2 refine LW.p rfl rfl ?_
      refine LW.nil ?_
      show CW _ _ _ _ _ _
      refine CW.fresh (l := [(0, .slice (some ⟨b7, o8, none⟩) x0.length c0_0), (1, .int .i64 s1.1), (5, .int .i64 s1.2), (18, .bool (y4.src != s1.1))]) ⟨rfl, rfl, rfl, rfl, trivial⟩ (fun e => ?_)
      refine CW.cond rfl (fun hc13 => ?_) (fun hc13 => ?_)
      · replace h := bcT h hc13
        refine CW.seq ?_
        refine CW.region ?_
        refine LW.p rfl rfl ?_
        refine LW.nil ?_
        show CW _ _ _ _ _ _
        refine CW.ret ?_
        replace h := Option.some.inj h
        subst h
        exact ⟨trivial, rfl, _, rfl, ⟨_, Res.one (resOne.t rfl), rfl, hS2.pick [] rfl rfl⟩⟩
      replace h := bcF h hc13
      refine CW.skip ?_
      show CW _ _ _ _ _ _
      refine CW.seq ?_
      refine CW.region ?_
      iterate 3 refine LW.p rfl rfl ?_
      refine LW.nil ?_
      show CW _ _ _ _ _ _
      refine CW.seq ?_
      refine CW.seq ?_
      refine CW.region ?_
      iterate 2 refine LW.p rfl rfl ?_
      refine LW.u (Pur.ix Try.underlying121 sz199 rfl rfl hp5 hq6) rfl ?_
      refine LW.u (Pur.fa fo199_1 rfl) rfl ?_
      refine LW.l (Ldr.old w0 ag3 rfl (hk11 1 _ rfl)) (hS2.same _ hb12.1 hb12.2) rfl ?_
      iterate 2 refine LW.p rfl rfl ?_
      refine LW.nil ?_
      show CW _ _ _ _ _ _
      refine CW.cond rfl (fun hc14 => ?_) (fun hc14 => ?_)
      · replace h := bcT h hc14
        refine CW.seq ?_
        refine CW.region ?_
        refine LW.p rfl rfl ?_
        refine LW.nil ?_
        show CW _ _ _ _ _ _
        refine CW.ret ?_
        replace h := Option.some.inj h
        subst h
        exact ⟨trivial, rfl, _, rfl, ⟨_, Res.one (resOne.t rfl), rfl, hS2.pick [] rfl rfl⟩⟩
      replace h := bcF h hc14
      refine CW.skip ?_
      show CW _ _ _ _ _ _
      refine CW.region ?_
      iterate 3 refine LW.p rfl rfl ?_
      refine LW.nil ?_
      show CW _ _ _ _ _ _
      refine CW.fresh (l := [(0, .slice (some ⟨b7, o8, none⟩) x0.length c0_0), (1, .int .i64 (IntKind.i64.wrap ((IntKind.i64.wrap (s1.1 + 1)) + 1))), (5, .int .i64 s1.2)]) ⟨rfl, rfl, rfl, trivial⟩ (fun e => ?_)
      refine CW.region ?_
      iterate 3 refine LW.p rfl rfl ?_
      refine LW.nil ?_
      replace h := Option.some.inj h
      subst h
      exact ⟨rfl, ⟨⟨rfl, rfl, rfl, trivial⟩, hS2.pick [] rfl rfl⟩⟩
    replace h := bcF h hc3
    refine CW.exit ?_
    replace h := Option.some.inj h
    subst h
    exact ⟨trivial, rfl, ⟨⟨rfl, trivial⟩, hS2.pick [] rfl rfl⟩⟩
  intro x e w17 hM
  rcases o15 with o15 | r18
  · obtain ⟨rfl, hM⟩ := hM
    obtain ⟨hE, hS3⟩ := hM
    obtain ⟨e, rfl⟩ := hE.out
    have h := h16
    show CW _ _ _ _ _ _
    refine CW.seq ?_
    refine CW.region ?_
    iterate 2 refine LW.p rfl rfl ?_
    refine LW.nil ?_
    show CW _ _ _ _ _ _
    refine CW.ret ?_
    cases h
    exact And.intro trivial ⟨_, Res.one (resOne.t rfl), rfl, hS3.pick [] rfl rfl⟩
  obtain ⟨rfl, u, rfl, hM⟩ := hM
  cases h16
  exact And.intro trivial hM

theorem W_l_heldObjS {w0 : World} {N : Nat} {x0 : List DObj} {x1 : Int} {r : Int} (h : F_l_heldObjS N x0 x1 = some r) {a0_0 : Option Addr} {n0_0 c0_0 : Nat} (hn0_0 : n0_0 = x0.length) (hr0_0 : rdS (Bor w0 []) w0 a0_0 c0_0 x0) :
    Ret Try.prog 100 #[.slice a0_0 n0_0 c0_0, .int .i64 x1] w0 (fun v w => v = .int .i64 r ∧ St w0 [] w []) := by
  subst hn0_0
  unfold F_l_heldObjS at h
  refine Ret.of Try.func100 rfl rfl rfl ?_
  have hS1 := St.start w0
  refine CW.seq ?_
  refine CW.region ?_
  refine LW.p rfl rfl ?_
  refine LW.nil ?_
  show CW _ _ _ _ _ _
  refine CW.seq ?_
  refine CW.seq ?_
  refine CW.region ?_
  refine LW.p rfl rfl ?_
  refine LW.nil ?_
  show CW _ _ _ _ _ _
  refine CW.block ?_
  obtain ⟨o41, ho41, h42⟩ := obind h
  refine CW.mono (CW.iter (σ := Int × Int) (ρ := (Int × Int) ⊕ Int) (fun s1 e wb => En e [(0, .slice a0_0 x0.length c0_0), (1, .int .i64 s1.1), (5, .int .i64 s1.2)] ∧ St w0 [] wb []) (fun o x e wb => match o with | .inl s1 => x = .exit 0 ∧ En e [(1, .int .i64 s1.1)] ∧ St w0 [] wb [] | .inr r => x = .ret ∧ ∃ u, u = r ∧ ∃ v, Res Try.prog Try.f100.results e wb v ∧ v = .int .i64 u ∧ St w0 [] wb []) ?_ N (x1, 0) _ _ _ ⟨⟨rfl, rfl, rfl, trivial⟩, hS1.pick [] rfl rfl⟩ ho41) ?_
  · intro s1 e w2 o hM h
    obtain ⟨hE, hS2⟩ := hM
    obtain ⟨e, rfl⟩ := hE.out
    refine CW.seq ?_
    refine CW.seq ?_
    refine CW.region ?_
    iterate 2 refine LW.p rfl rfl ?_
    refine LW.u (Pur.len Try.underlying68 rfl) rfl ?_
    refine LW.p rfl rfl ?_
    refine LW.nil ?_
    show CW _ _ _ _ _ _
    refine CW.cond rfl (fun hc3 => ?_) (fun hc3 => ?_)
    · replace h := bcT h hc3
      refine CW.skip ?_
      show CW _ _ _ _ _ _
      refine CW.seq ?_
      refine CW.block ?_
      refine CW.seq ?_
      refine CW.seq ?_
      refine CW.region ?_
      iterate 2 refine LW.p rfl rfl ?_
      replace h := obind h
      obtain ⟨y4, hy4, h⟩ := h
      obtain ⟨b7, o8, cs9, hae, hb12, hp5, hq6, hd10, hk11⟩ := hr0_0.idx hy4
      subst hae
      obtain ⟨a13, c14, a16, c17, a19, c20, rfl, hr15, hr18, hr21⟩ := hd10
      refine LW.u (Pur.ix Try.underlying68 sz123 rfl rfl hp5 hq6) rfl ?_
      refine LW.u (Pur.fa fo123_0 rfl) rfl ?_
      refine LW.l (Ldr.old w0 ag3 rfl (hk11 0 _ rfl)) (hS2.same _ hb12.1 hb12.2) rfl ?_
      iterate 2 refine LW.p rfl rfl ?_
      refine LW.nil ?_
      show CW _ _ _ _ _ _
      refine CW.fresh (l := [(0, .slice (some ⟨b7, o8, none⟩) x0.length c0_0), (1, .int .i64 s1.1), (5, .int .i64 s1.2), (18, .bool (y4.gen != s1.1))]) ⟨rfl, rfl, rfl, rfl, trivial⟩ (fun e => ?_)
      refine CW.cond rfl (fun hc22 => ?_) (fun hc22 => ?_)
      · replace h := bcT h hc22
        refine CW.seq ?_
        refine CW.region ?_
        refine LW.p rfl rfl ?_
        refine LW.nil ?_
        show CW _ _ _ _ _ _
        refine CW.ret ?_
        replace h := Option.some.inj h
        subst h
        exact ⟨trivial, rfl, _, rfl, ⟨_, Res.one (resOne.t rfl), rfl, hS2.pick [] rfl rfl⟩⟩
      replace h := bcF h hc22
      refine CW.skip ?_
      show CW _ _ _ _ _ _
      refine CW.seq ?_
      refine CW.region ?_
      iterate 3 refine LW.p rfl rfl ?_
      refine LW.nil ?_
      show CW _ _ _ _ _ _
      refine CW.seq ?_
      refine CW.seq ?_
      refine CW.region ?_
      iterate 2 refine LW.p rfl rfl ?_
      refine LW.u (Pur.ix Try.underlying68 sz123 rfl rfl hp5 hq6) rfl ?_
      refine LW.u (Pur.fa fo123_1 rfl) rfl ?_
      refine LW.l (Ldr.old w0 ag3 rfl (hk11 1 _ rfl)) (hS2.same _ hb12.1 hb12.2) rfl ?_
      iterate 2 refine LW.p rfl rfl ?_
      refine LW.nil ?_
      show CW _ _ _ _ _ _
      refine CW.cond rfl (fun hc23 => ?_) (fun hc23 => ?_)
      · replace h := bcT h hc23
        refine CW.seq ?_
        refine CW.region ?_
        refine LW.p rfl rfl ?_
        refine LW.nil ?_
        show CW _ _ _ _ _ _
        refine CW.ret ?_
        replace h := Option.some.inj h
        subst h
        exact ⟨trivial, rfl, _, rfl, ⟨_, Res.one (resOne.t rfl), rfl, hS2.pick [] rfl rfl⟩⟩
      replace h := bcF h hc23
      refine CW.skip ?_
      show CW _ _ _ _ _ _
      refine CW.seq ?_
      refine CW.region ?_
      iterate 3 refine LW.p rfl rfl ?_
      refine LW.nil ?_
      show CW _ _ _ _ _ _
      refine CW.fresh (l := [(0, .slice (some ⟨b7, o8, none⟩) x0.length c0_0), (1, .int .i64 (IntKind.i64.wrap ((IntKind.i64.wrap (s1.1 + 1)) + 1))), (5, .int .i64 s1.2)]) ⟨rfl, rfl, rfl, trivial⟩ (fun e => ?_)
      refine CW.seq ?_
      refine CW.seq ?_
      refine CW.region ?_
      iterate 2 refine LW.p rfl rfl ?_
      refine LW.u (Pur.ix Try.underlying68 sz123 rfl rfl hp5 hq6) rfl ?_
      refine LW.u (Pur.fa fo123_2 rfl) rfl ?_
      refine LW.l (Ldr.old w0 ag3 rfl (hk11 2 _ rfl)) (hS2.same _ hb12.1 hb12.2) rfl ?_
      iterate 2 refine LW.p rfl rfl ?_
      refine LW.nil ?_
      show CW _ _ _ _ _ _
      refine CW.cond rfl (fun hc24 => ?_) (fun hc24 => ?_)
      · replace h := bcT h hc24
        refine CW.seq ?_
        refine CW.region ?_
        refine LW.p rfl rfl ?_
        refine LW.nil ?_
        show CW _ _ _ _ _ _
        refine CW.ret ?_
        replace h := Option.some.inj h
        subst h
        exact ⟨trivial, rfl, _, rfl, ⟨_, Res.one (resOne.t rfl), rfl, hS2.pick [] rfl rfl⟩⟩
      replace h := bcF h hc24
      refine CW.skip ?_
      show CW _ _ _ _ _ _
      refine CW.seq ?_
      refine CW.region ?_
      iterate 3 refine LW.p rfl rfl ?_
      refine LW.nil ?_
      show CW _ _ _ _ _ _
      refine CW.seq ?_
      refine CW.seq ?_
      refine CW.region ?_
      iterate 2 refine LW.p rfl rfl ?_
      refine LW.u (Pur.ix Try.underlying68 sz123 rfl rfl hp5 hq6) rfl ?_
      refine LW.u (Pur.fa fo123_3 rfl) rfl ?_
      refine LW.l (Ldr.old w0 ag3 rfl (hk11 3 _ rfl)) (hS2.same _ hb12.1 hb12.2) rfl ?_
      iterate 2 refine LW.p rfl rfl ?_
      refine LW.nil ?_
      show CW _ _ _ _ _ _
      refine CW.fresh (l := [(0, .slice (some ⟨b7, o8, none⟩) x0.length c0_0), (1, .int .i64 (IntKind.i64.wrap ((IntKind.i64.wrap ((IntKind.i64.wrap (s1.1 + 1)) + 1)) + 1))), (5, .int .i64 s1.2), (45, .bool (y4.res != (IntKind.i64.wrap ((IntKind.i64.wrap ((IntKind.i64.wrap (s1.1 + 1)) + 1)) + 1))))]) ⟨rfl, rfl, rfl, rfl, trivial⟩ (fun e => ?_)
      refine CW.cond rfl (fun hc25 => ?_) (fun hc25 => ?_)
      · replace h := bcT h hc25
        refine CW.seq ?_
        refine CW.region ?_
        refine LW.p rfl rfl ?_
        refine LW.nil ?_
        show CW _ _ _ _ _ _
        refine CW.ret ?_
        replace h := Option.some.inj h
        subst h
        exact ⟨trivial, rfl, _, rfl, ⟨_, Res.one (resOne.t rfl), rfl, hS2.pick [] rfl rfl⟩⟩
      replace h := bcF h hc25
      refine CW.skip ?_
      show CW _ _ _ _ _ _
      refine CW.seq ?_
      refine CW.region ?_
      iterate 3 refine LW.p rfl rfl ?_
      refine LW.nil ?_
      show CW _ _ _ _ _ _
      refine CW.seq ?_
      refine CW.seq ?_
      refine CW.region ?_
      iterate 2 refine LW.p rfl rfl ?_
      refine LW.u (Pur.ix Try.underlying68 sz123 rfl rfl hp5 hq6) rfl ?_
      refine LW.u (Pur.fa fo123_4 rfl) rfl ?_
      refine LW.l (Ldr.old w0 ag3 rfl (hk11 4 _ rfl)) (hS2.same _ hb12.1 hb12.2) rfl ?_
      iterate 2 refine LW.p rfl rfl ?_
      refine LW.nil ?_
      show CW _ _ _ _ _ _
      refine CW.cond rfl (fun hc26 => ?_) (fun hc26 => ?_)
      · replace h := bcT h hc26
        refine CW.seq ?_
        refine CW.region ?_
        refine LW.p rfl rfl ?_
        refine LW.nil ?_
        show CW _ _ _ _ _ _
        refine CW.ret ?_
        replace h := Option.some.inj h
        subst h
        exact ⟨trivial, rfl, _, rfl, ⟨_, Res.one (resOne.t rfl), rfl, hS2.pick [] rfl rfl⟩⟩
      replace h := bcF h hc26
      refine CW.skip ?_
      show CW _ _ _ _ _ _
      refine CW.seq ?_
      refine CW.region ?_
      iterate 3 refine LW.p rfl rfl ?_
      refine LW.nil ?_
      show CW _ _ _ _ _ _
      refine CW.fresh (l := [(0, .slice (some ⟨b7, o8, none⟩) x0.length c0_0), (1, .int .i64 (IntKind.i64.wrap ((IntKind.i64.wrap ((IntKind.i64.wrap ((IntKind.i64.wrap ((IntKind.i64.wrap (s1.1 + 1)) + 1)) + 1)) + 1)) + 1))), (5, .int .i64 s1.2)]) ⟨rfl, rfl, rfl, trivial⟩ (fun e => ?_)
      refine CW.seq ?_
      refine CW.seq ?_
      refine CW.region ?_
      iterate 2 refine LW.p rfl rfl ?_
      refine LW.u (Pur.ix Try.underlying68 sz123 rfl rfl hp5 hq6) rfl ?_
      refine LW.u (Pur.fa fo123_5 rfl) rfl ?_
      refine LW.l (Ldr.old w0 ag3 rfl (hk11 5 _ rfl)) (hS2.same _ hb12.1 hb12.2) rfl ?_
      iterate 2 refine LW.p rfl rfl ?_
      refine LW.nil ?_
      show CW _ _ _ _ _ _
      refine CW.cond rfl (fun hc27 => ?_) (fun hc27 => ?_)
      · replace h := bcT h hc27
        refine CW.seq ?_
        refine CW.region ?_
        refine LW.p rfl rfl ?_
        refine LW.nil ?_
        show CW _ _ _ _ _ _
        refine CW.ret ?_
        replace h := Option.some.inj h
        subst h
        exact ⟨trivial, rfl, _, rfl, ⟨_, Res.one (resOne.t rfl), rfl, hS2.pick [] rfl rfl⟩⟩
      replace h := bcF h hc27
      refine CW.skip ?_
      show CW _ _ _ _ _ _
      refine CW.seq ?_
      refine CW.region ?_
      iterate 3 refine LW.p rfl rfl ?_
      refine LW.nil ?_
      show CW _ _ _ _ _ _
      refine CW.seq ?_
      refine CW.seq ?_
      refine CW.region ?_
      iterate 2 refine LW.p rfl rfl ?_
      refine LW.u (Pur.ix Try.underlying68 sz123 rfl rfl hp5 hq6) rfl ?_
      refine LW.u (Pur.fa fo123_6 rfl) rfl ?_
      refine LW.l (Ldr.old w0 ag3 rfl (hk11 6 _ rfl)) (hS2.same _ hb12.1 hb12.2) rfl ?_
      iterate 2 refine LW.p rfl rfl ?_
      refine LW.nil ?_
      show CW _ _ _ _ _ _
      refine CW.fresh (l := [(0, .slice (some ⟨b7, o8, none⟩) x0.length c0_0), (1, .int .i64 (IntKind.i64.wrap ((IntKind.i64.wrap ((IntKind.i64.wrap ((IntKind.i64.wrap ((IntKind.i64.wrap ((IntKind.i64.wrap (s1.1 + 1)) + 1)) + 1)) + 1)) + 1)) + 1))), (5, .int .i64 s1.2), (72, .bool (y4.wait != (IntKind.i64.wrap ((IntKind.i64.wrap ((IntKind.i64.wrap ((IntKind.i64.wrap ((IntKind.i64.wrap ((IntKind.i64.wrap (s1.1 + 1)) + 1)) + 1)) + 1)) + 1)) + 1))))]) ⟨rfl, rfl, rfl, rfl, trivial⟩ (fun e => ?_)
      refine CW.cond rfl (fun hc28 => ?_) (fun hc28 => ?_)
      · replace h := bcT h hc28
        refine CW.seq ?_
        refine CW.region ?_
        refine LW.p rfl rfl ?_
        refine LW.nil ?_
        show CW _ _ _ _ _ _
        refine CW.ret ?_
        replace h := Option.some.inj h
        subst h
        exact ⟨trivial, rfl, _, rfl, ⟨_, Res.one (resOne.t rfl), rfl, hS2.pick [] rfl rfl⟩⟩
      replace h := bcF h hc28
      refine CW.skip ?_
      show CW _ _ _ _ _ _
      refine CW.seq ?_
      refine CW.region ?_
      iterate 3 refine LW.p rfl rfl ?_
      refine LW.nil ?_
      show CW _ _ _ _ _ _
      refine CW.seq ?_
      refine CW.seq ?_
      refine CW.region ?_
      iterate 2 refine LW.p rfl rfl ?_
      refine LW.u (Pur.ix Try.underlying68 sz123 rfl rfl hp5 hq6) rfl ?_
      refine LW.u (Pur.fa fo123_7 rfl) rfl ?_
      refine LW.l (Ldr.old w0 ag3 rfl (hk11 7 _ rfl)) (hS2.same _ hb12.1 hb12.2) rfl ?_
      iterate 2 refine LW.p rfl rfl ?_
      refine LW.nil ?_
      show CW _ _ _ _ _ _
      refine CW.cond rfl (fun hc29 => ?_) (fun hc29 => ?_)
      · replace h := bcT h hc29
        refine CW.seq ?_
        refine CW.region ?_
        refine LW.p rfl rfl ?_
        refine LW.nil ?_
        show CW _ _ _ _ _ _
        refine CW.ret ?_
        replace h := Option.some.inj h
        subst h
        exact ⟨trivial, rfl, _, rfl, ⟨_, Res.one (resOne.t rfl), rfl, hS2.pick [] rfl rfl⟩⟩
      replace h := bcF h hc29
      refine CW.skip ?_
      show CW _ _ _ _ _ _
      refine CW.seq ?_
      refine CW.region ?_
      iterate 3 refine LW.p rfl rfl ?_
      refine LW.nil ?_
      show CW _ _ _ _ _ _
      refine CW.fresh (l := [(0, .slice (some ⟨b7, o8, none⟩) x0.length c0_0), (1, .int .i64 (IntKind.i64.wrap ((IntKind.i64.wrap ((IntKind.i64.wrap ((IntKind.i64.wrap ((IntKind.i64.wrap ((IntKind.i64.wrap ((IntKind.i64.wrap ((IntKind.i64.wrap (s1.1 + 1)) + 1)) + 1)) + 1)) + 1)) + 1)) + 1)) + 1))), (5, .int .i64 s1.2)]) ⟨rfl, rfl, rfl, trivial⟩ (fun e => ?_)
      refine CW.seq ?_
      refine CW.seq ?_
      refine CW.region ?_
      iterate 2 refine LW.p rfl rfl ?_
      refine LW.u (Pur.ix Try.underlying68 sz123 rfl rfl hp5 hq6) rfl ?_
      refine LW.u (Pur.fa fo123_8 rfl) rfl ?_
      refine LW.l (Ldr.old w0 ag3 rfl (hk11 8 _ rfl)) (hS2.same _ hb12.1 hb12.2) rfl ?_
      iterate 2 refine LW.p rfl rfl ?_
      refine LW.nil ?_
      show CW _ _ _ _ _ _
      refine CW.cond rfl (fun hc30 => ?_) (fun hc30 => ?_)
      · replace h := bcT h hc30
        refine CW.seq ?_
        refine CW.region ?_
        refine LW.p rfl rfl ?_
        refine LW.nil ?_
        show CW _ _ _ _ _ _
        refine CW.ret ?_
        replace h := Option.some.inj h
        subst h
        exact ⟨trivial, rfl, _, rfl, ⟨_, Res.one (resOne.t rfl), rfl, hS2.pick [] rfl rfl⟩⟩
      replace h := bcF h hc30
      refine CW.skip ?_
      show CW _ _ _ _ _ _
      refine CW.seq ?_
      refine CW.region ?_
      iterate 3 refine LW.p rfl rfl ?_
      refine LW.nil ?_
      show CW _ _ _ _ _ _
      refine CW.seq ?_
      refine CW.seq ?_
      refine CW.region ?_
      iterate 2 refine LW.p rfl rfl ?_
      refine LW.u (Pur.ix Try.underlying68 sz123 rfl rfl hp5 hq6) rfl ?_
      refine LW.u (Pur.fa fo123_9 rfl) rfl ?_
      refine LW.l (Ldr.old w0 ag4 rfl (hk11 9 _ rfl)) (hS2.same _ hb12.1 hb12.2) rfl ?_
      refine LW.p rfl rfl ?_
      refine LW.u (Pur.rem rfl rfl (by decide)) rfl ?_
      refine LW.p rfl rfl ?_
      refine LW.u (Pur.bne Try.underlying4 rfl rfl) rfl ?_
      refine LW.nil ?_
      show CW _ _ _ _ _ _
      refine CW.fresh (l := [(0, .slice (some ⟨b7, o8, none⟩) x0.length c0_0), (1, .int .i64 (IntKind.i64.wrap ((IntKind.i64.wrap ((IntKind.i64.wrap ((IntKind.i64.wrap ((IntKind.i64.wrap ((IntKind.i64.wrap ((IntKind.i64.wrap ((IntKind.i64.wrap ((IntKind.i64.wrap (s1.1 + 1)) + 1)) + 1)) + 1)) + 1)) + 1)) + 1)) + 1)) + 1))), (5, .int .i64 s1.2), (101, .bool (!(y4.mark == ((Int.tmod (IntKind.i64.wrap ((IntKind.i64.wrap ((IntKind.i64.wrap ((IntKind.i64.wrap ((IntKind.i64.wrap ((IntKind.i64.wrap ((IntKind.i64.wrap ((IntKind.i64.wrap ((IntKind.i64.wrap (s1.1 + 1)) + 1)) + 1)) + 1)) + 1)) + 1)) + 1)) + 1)) + 1)) 3) == 0))))]) ⟨rfl, rfl, rfl, rfl, trivial⟩ (fun e => ?_)
      refine CW.cond rfl (fun hc31 => ?_) (fun hc31 => ?_)
      · replace h := bcT h hc31
        refine CW.seq ?_
        refine CW.region ?_
        refine LW.p rfl rfl ?_
        refine LW.nil ?_
        show CW _ _ _ _ _ _
        refine CW.ret ?_
        replace h := Option.some.inj h
        subst h
        exact ⟨trivial, rfl, _, rfl, ⟨_, Res.one (resOne.t rfl), rfl, hS2.pick [] rfl rfl⟩⟩
      replace h := bcF h hc31
      refine CW.skip ?_
      show CW _ _ _ _ _ _
      refine CW.seq ?_
      refine CW.region ?_
      iterate 3 refine LW.p rfl rfl ?_
      refine LW.nil ?_
      show CW _ _ _ _ _ _
      refine CW.seq ?_
      refine CW.region ?_
      iterate 2 refine LW.p rfl rfl ?_
      refine LW.u (Pur.ix Try.underlying68 sz123 rfl rfl hp5 hq6) rfl ?_
      refine LW.u (Pur.fa fo123_10 rfl) rfl ?_
      refine LW.l (Ldr.old w0 ag24 rfl (hk11 10 _ rfl)) (hS2.same _ hb12.1 hb12.2) rfl ?_
      refine LW.p rfl rfl ?_
      replace h := obind h
      obtain ⟨y32, hy32, h⟩ := h
      have q := W_l_heldIntS (w0 := w2) hy32 rfl (hS2.rB hr15)
      refine LW.call pl98 rfl rfl ?_
      refine Ret.mono q ?_
      rintro _ w33 ⟨rfl, hs⟩
      have hS3 := hS2.add hs
      refine LW.p rfl rfl ?_
      refine LW.nil ?_
      show CW _ _ _ _ _ _
      refine CW.seq ?_
      refine CW.seq ?_
      refine CW.region ?_
      iterate 2 refine LW.p rfl rfl ?_
      refine LW.nil ?_
      show CW _ _ _ _ _ _
      refine CW.fresh (l := [(0, .slice (some ⟨b7, o8, none⟩) x0.length c0_0), (1, .int .i64 y32), (5, .int .i64 s1.2), (112, .bool (decide (y32 < 0)))]) ⟨rfl, rfl, rfl, rfl, trivial⟩ (fun e => ?_)
      refine CW.cond rfl (fun hc34 => ?_) (fun hc34 => ?_)
      · replace h := bcT h hc34
        refine CW.seq ?_
        refine CW.region ?_
        refine LW.p rfl rfl ?_
        refine LW.nil ?_
        show CW _ _ _ _ _ _
        refine CW.ret ?_
        replace h := Option.some.inj h
        subst h
        exact ⟨trivial, rfl, _, rfl, ⟨_, Res.one (resOne.t rfl), rfl, hS3.pick [] rfl rfl⟩⟩
      replace h := bcF h hc34
      refine CW.skip ?_
      show CW _ _ _ _ _ _
      refine CW.seq ?_
      refine CW.region ?_
      iterate 2 refine LW.p rfl rfl ?_
      refine LW.u (Pur.ix Try.underlying68 sz123 rfl rfl hp5 hq6) rfl ?_
      refine LW.u (Pur.fa fo123_11 rfl) rfl ?_
      refine LW.l (Ldr.old w0 ag24 rfl (hk11 11 _ rfl)) (hS3.same _ hb12.1 hb12.2) rfl ?_
      refine LW.p rfl rfl ?_
      replace h := obind h
      obtain ⟨y35, hy35, h⟩ := h
      have q := W_l_heldIntS (w0 := w33) hy35 rfl (hS3.rB hr18)
      refine LW.call pl98 rfl rfl ?_
      refine Ret.mono q ?_
      rintro _ w36 ⟨rfl, hs⟩
      have hS4 := hS3.add hs
      refine LW.p rfl rfl ?_
      refine LW.nil ?_
      show CW _ _ _ _ _ _
      refine CW.seq ?_
      refine CW.seq ?_
      refine CW.region ?_
      iterate 2 refine LW.p rfl rfl ?_
      refine LW.nil ?_
      show CW _ _ _ _ _ _
      refine CW.cond rfl (fun hc37 => ?_) (fun hc37 => ?_)
      · replace h := bcT h hc37
        refine CW.seq ?_
        refine CW.region ?_
        refine LW.p rfl rfl ?_
        refine LW.nil ?_
        show CW _ _ _ _ _ _
        refine CW.ret ?_
        replace h := Option.some.inj h
        subst h
        exact ⟨trivial, rfl, _, rfl, ⟨_, Res.one (resOne.t rfl), rfl, hS4.pick [] rfl rfl⟩⟩
      replace h := bcF h hc37
      refine CW.skip ?_
      show CW _ _ _ _ _ _
      refine CW.seq ?_
      refine CW.region ?_
      iterate 2 refine LW.p rfl rfl ?_
      refine LW.u (Pur.ix Try.underlying68 sz123 rfl rfl hp5 hq6) rfl ?_
      refine LW.u (Pur.fa fo123_12 rfl) rfl ?_
      refine LW.l (Ldr.old w0 ag121 rfl (hk11 12 _ rfl)) (hS4.same _ hb12.1 hb12.2) rfl ?_
      refine LW.p rfl rfl ?_
      replace h := obind h
      obtain ⟨y38, hy38, h⟩ := h
      have q := W_l_heldMsgS (w0 := w36) hy38 rfl (hS4.rB hr21)
      refine LW.call pl163 rfl rfl ?_
      refine Ret.mono q ?_
      rintro _ w39 ⟨rfl, hs⟩
      have hS5 := hS4.add hs
      refine LW.p rfl rfl ?_
      refine LW.nil ?_
      show CW _ _ _ _ _ _
      refine CW.fresh (l := [(0, .slice (some ⟨b7, o8, none⟩) x0.length c0_0), (1, .int .i64 y38), (5, .int .i64 s1.2)]) ⟨rfl, rfl, rfl, trivial⟩ (fun e => ?_)
      refine CW.seq ?_
      refine CW.region ?_
      iterate 2 refine LW.p rfl rfl ?_
      refine LW.nil ?_
      show CW _ _ _ _ _ _
      refine CW.cond rfl (fun hc40 => ?_) (fun hc40 => ?_)
      · replace h := bcT h hc40
        refine CW.seq ?_
        refine CW.region ?_
        refine LW.p rfl rfl ?_
        refine LW.nil ?_
        show CW _ _ _ _ _ _
        refine CW.ret ?_
        replace h := Option.some.inj h
        subst h
        exact ⟨trivial, rfl, _, rfl, ⟨_, Res.one (resOne.t rfl), rfl, hS5.pick [] rfl rfl⟩⟩
      replace h := bcF h hc40
      refine CW.skip ?_
      show CW _ _ _ _ _ _
      refine CW.region ?_
      iterate 3 refine LW.p rfl rfl ?_
      refine LW.nil ?_
      replace h := Option.some.inj h
      subst h
      exact ⟨rfl, ⟨⟨rfl, rfl, rfl, trivial⟩, hS5.pick [] rfl rfl⟩⟩
    replace h := bcF h hc3
    refine CW.exit ?_
    replace h := Option.some.inj h
    subst h
    exact ⟨trivial, rfl, ⟨⟨rfl, trivial⟩, hS2.pick [] rfl rfl⟩⟩
  intro x e w43 hM
  rcases o41 with o41 | r44
  · obtain ⟨rfl, hM⟩ := hM
    obtain ⟨hE, hS6⟩ := hM
    obtain ⟨e, rfl⟩ := hE.out
    have h := h42
    show CW _ _ _ _ _ _
    refine CW.seq ?_
    refine CW.region ?_
    iterate 2 refine LW.p rfl rfl ?_
    refine LW.nil ?_
    show CW _ _ _ _ _ _
    refine CW.ret ?_
    cases h
    exact And.intro trivial ⟨_, Res.one (resOne.t rfl), rfl, hS6.pick [] rfl rfl⟩
  obtain ⟨rfl, u, rfl, hM⟩ := hM
  cases h42
  exact And.intro trivial hM

end Go.Kx
