/- Each call returns what the plain function says. Printed by drive.py. -/
import Derived.Test.YtdjpppkdngmeaaaGreatFa
import Derived.Test.YtdjpppkdngmeaaaGreatPu
import Derived.Test.YtdjpppkdngmeaaaGreatWa1
import Derived.Test.YtdjpppkdngmeaaaGreatWa2
import Derived.Test.YtdjpppkdngmeaaaGreatWa17
namespace Go.Kx
open Go Go.RowKit Go.Proofs
set_option maxRecDepth 10000
set_option maxHeartbeats 2000000
set_option linter.unusedVariables false
set_option linter.unusedSimpArgs false
theorem W_i_copyObj {w0 : World} {N : Nat} {x0 : DObj} {r : DObj} (h : F_i_copyObj N x0 = some r) {a0_10 : Option Addr} {n0_10 c0_10 : Nat} (hn0_10 : n0_10 = x0.links.length) (hr0_10 : rdS (Bor w0 []) w0 a0_10 c0_10 x0.links) {a0_11 : Option Addr} {n0_11 c0_11 : Nat} (hn0_11 : n0_11 = x0.data.length) (hr0_11 : rdS (Bor w0 []) w0 a0_11 c0_11 x0.data) {a0_12 : Option Addr} {n0_12 c0_12 : Nat} (hn0_12 : n0_12 = x0.queue.length) (hr0_12 : rdS (Bor w0 []) w0 a0_12 c0_12 x0.queue) :
    Ret Tryz.prog 168 #[.agg #[.int .i64 x0.gen, .int .i64 x0.kind, .int .i64 x0.box, .int .i64 x0.res, .int .i64 x0.til, .int .i64 x0.pages, .int .i64 x0.wait, .int .i64 x0.got, .int .i64 x0.ran, .bool x0.mark, .slice a0_10 n0_10 c0_10, .slice a0_11 n0_11 c0_11, .slice a0_12 n0_12 c0_12]] w0 (fun v w => ∃ ar0_10 cr0_10, ∃ ar0_11 cr0_11, ∃ ar0_12 cr0_12, v = .agg #[.int .i64 r.gen, .int .i64 r.kind, .int .i64 r.box, .int .i64 r.res, .int .i64 r.til, .int .i64 r.pages, .int .i64 r.wait, .int .i64 r.got, .int .i64 r.ran, .bool r.mark, .slice ar0_10 r.links.length cr0_10, .slice ar0_11 r.data.length cr0_11, .slice ar0_12 r.queue.length cr0_12] ∧ St w0 [] w [sl ar0_10 cr0_10 r.links, sl ar0_11 cr0_11 r.data, sl ar0_12 cr0_12 r.queue]) := by
  subst hn0_10 hn0_11 hn0_12
  unfold F_i_copyObj at h
  refine Ret.fn Tryz.func168 fun e => ?_
  have hS1 := St.start w0
  refine go ?_
  refine LW.bo hS1 fun g1 w2 hS2 => ?_
  refine LW.al hS2 fun g3 w4 hS3 => ?_
  refine gs ?_
  obtain ⟨j5, hj5, h6⟩ := obind h
  refine CW.cut (fun e wb => ∃ (j5a0 : Option Addr), ∃ (j5c0 : Nat), ∃ (j5a2 : Option Addr), ∃ (j5c2 : Nat), ∃ (j5a4 : Option Addr), ∃ (j5c4 : Nat), En e [(1, .pointer (some ⟨g1, 0, none⟩)), (2, .pointer (some ⟨g3, 0, none⟩))] ∧ St w0 [] wb [bx g3 85 [.int .i64 0, .int .i64 0, .int .i64 0, .int .i64 0, .int .i64 0, .int .i64 0, .int .i64 0, .int .i64 0, .int .i64 0, .bool false, .slice none 0 0, .slice none 0 0, .slice none 0 0], bx g1 85 [.int .i64 x0.gen, .int .i64 x0.kind, .int .i64 x0.box, .int .i64 x0.res, .int .i64 x0.til, .int .i64 x0.pages, .int .i64 x0.wait, .int .i64 x0.got, .int .i64 x0.ran, .bool x0.mark, .slice j5a0 j5.1.length j5c0, .slice j5a2 j5.2.1.length j5c2, .slice j5a4 j5.2.2.length j5c4], sl j5a0 j5c0 j5.1, sl j5a2 j5c2 j5.2.1, sl j5a4 j5c4 j5.2.2]) ?_ ?_
  · have h := hj5
    refine CW.draw (by kernel_rfl) ?_
    have hS4 := hS3.drew
    refine AW.u (i := 0) rfl (by kernel_rfl) rfl rfl (Pur.fa fo85_10 rfl) ?_
    refine AW.take (i := 1) rfl (by kernel_rfl) rfl rfl (Ldr.box (bt := 85) (fr := (0, 0)) (cs := [.int .i64 x0.gen, .int .i64 x0.kind, .int .i64 x0.box, .int .i64 x0.res, .int .i64 x0.til, .int .i64 x0.pages, .int .i64 x0.wait, .int .i64 x0.got, .int .i64 x0.ran, .bool x0.mark, .slice a0_10 x0.links.length c0_10, .slice a0_11 x0.data.length c0_11, .slice a0_12 x0.queue.length c0_12]) ag22 rfl rfl) (St.cell (h := hS4) (i := 1) rfl) ?_
    refine AW.u (i := 3) rfl (by kernel_rfl) rfl rfl (Pur.fa fo85_11 rfl) ?_
    refine AW.take (i := 4) rfl (by kernel_rfl) rfl rfl (Ldr.box (bt := 85) (fr := (0, 0)) (cs := [.int .i64 x0.gen, .int .i64 x0.kind, .int .i64 x0.box, .int .i64 x0.res, .int .i64 x0.til, .int .i64 x0.pages, .int .i64 x0.wait, .int .i64 x0.got, .int .i64 x0.ran, .bool x0.mark, .slice a0_10 x0.links.length c0_10, .slice a0_11 x0.data.length c0_11, .slice a0_12 x0.queue.length c0_12]) ag22 rfl rfl) (St.cell (h := hS4) (i := 1) rfl) ?_
    refine AW.u (i := 7) rfl (by kernel_rfl) rfl rfl (Pur.fa fo85_12 rfl) ?_
    refine AW.take (i := 8) rfl (by kernel_rfl) rfl rfl (Ldr.box (bt := 85) (fr := (0, 0)) (cs := [.int .i64 x0.gen, .int .i64 x0.kind, .int .i64 x0.box, .int .i64 x0.res, .int .i64 x0.til, .int .i64 x0.pages, .int .i64 x0.wait, .int .i64 x0.got, .int .i64 x0.ran, .bool x0.mark, .slice a0_10 x0.links.length c0_10, .slice a0_11 x0.data.length c0_11, .slice a0_12 x0.queue.length c0_12]) ag83 rfl rfl) (St.cell (h := hS4) (i := 1) rfl) ?_
    replace ⟨y7, hy7, h⟩ := obind h
    refine AW.all (rs := [2, 6]) (by kernel_rfl) (by simp) ⟨?_, ?_, trivial⟩
    · have q := W_i_copyInts (w0 := w4.drew) hy7 rfl (hS4.rB hr0_10)
      refine ⟨_, rfl, ?_⟩
      refine LW.call pl135 rfl rfl ?_
      refine Ret.mono q ?_
      rintro _ w19 ⟨a17, c18, rfl, hs⟩
      have hS5 := hS4.add hs
      refine LW.nil ⟨rfl, (.c (St.cell (h := hS5) (i := 2) rfl) (.c (St.cell (h := hS5) (i := 2) rfl) (.w (by kernel_rfl) Kept.n))), ?_⟩
      refine AW.u (i := 10) rfl (by kernel_rfl) rfl rfl (Pur.fa fo85_10 rfl) ?_
      replace ⟨y20, hy20, h⟩ := obind h
      refine AW.all (rs := [5, 6]) (by kernel_rfl) (by simp) ⟨?_, ?_, trivial⟩
      · have q := W_i_copyInts (w0 := w19) hy20 rfl (hS5.rB hr0_11)
        refine ⟨_, rfl, ?_⟩
        refine LW.call pl135 rfl rfl ?_
        refine Ret.mono q ?_
        rintro _ w32 ⟨a30, c31, rfl, hs⟩
        have hS6 := hS5.add hs
        refine LW.nil ⟨rfl, (.c (St.cell (h := hS6) (i := 3) rfl) (.w (by kernel_rfl) (.c (St.cell (h := hS6) (i := 3) rfl) Kept.n))), ?_⟩
        refine AW.one (i := 6) (by kernel_rfl) ?_
        refine ⟨_, rfl, ?_⟩
        refine LW.bsl (α := DMsg) (vs := []) (cs := #[]) (l := ([] : List DMsg)) rfl (by kernel_rfl) rfl rfl rfl (fun w => rfl) hS6 rfl ?_
        intro a33 c34 w35 hS7 hf
        refine LW.nil ⟨rfl, (.c (St.cell (h := hS7) (i := 4) rfl) (.c (St.cell (h := hS7) (i := 4) rfl) (.c (St.cell (h := hS7) (i := 4) rfl) Kept.n))), ?_⟩
        replace ⟨y36, hy36, h⟩ := obind h
        refine AW.one (i := 9) (by kernel_rfl) ?_
        refine ⟨_, rfl, ?_⟩
        refine LW.appN (l := ([] : List DMsg)) (m := x0.queue) sT83 rfl rfl (hS7.rB hr0_12) hy36 hS7 (i := 0) rfl rfl ?_
        intro a37 c38 w39 hS8 hf
        refine LW.nil ⟨rfl, (.w (by kernel_rfl) (.c (St.cell (h := hS8) (i := 4) rfl) (.c (St.cell (h := hS8) (i := 4) rfl) Kept.n))), ?_⟩
        refine AW.one (i := 11) (by kernel_rfl) ?_
        refine ⟨_, rfl, ?_⟩
        refine LW.st hS8 4 fun w40 hS9 => ?_
        refine LW.nil ⟨rfl, (.w (by kernel_rfl) (.w (by kernel_rfl) (.w (by kernel_rfl) Kept.n))), ?_⟩
        refine AW.u (i := 12) rfl (by kernel_rfl) rfl rfl (Pur.fa fo85_11 rfl) ?_
        refine AW.one (i := 13) (by kernel_rfl) ?_
        refine ⟨_, rfl, ?_⟩
        refine LW.st hS9 4 fun w41 hS10 => ?_
        refine LW.nil ⟨rfl, (.w (by kernel_rfl) (.w (by kernel_rfl) (.w (by kernel_rfl) Kept.n))), ?_⟩
        refine AW.u (i := 14) rfl (by kernel_rfl) rfl rfl (Pur.fa fo85_12 rfl) ?_
        refine AW.one (i := 15) (by kernel_rfl) ?_
        refine ⟨_, rfl, ?_⟩
        refine LW.st hS10 4 fun w42 hS11 => ?_
        refine LW.nil ⟨rfl, (.w (by kernel_rfl) (.w (by kernel_rfl) (.w (by kernel_rfl) Kept.n))), ?_⟩
        refine AW.done (by kernel_rfl) ?_
        cases oi h
        exact ⟨a17, c18, a30, c31, a37, c38, ⟨rfl, rfl, trivial⟩, hS11.pick [3, 4, 2, 1, 0] rfl rfl⟩
      refine ⟨_, rfl, ?_⟩
      refine LW.bsl (α := DMsg) (vs := []) (cs := #[]) (l := ([] : List DMsg)) rfl (by kernel_rfl) rfl rfl rfl (fun w => rfl) hS5 rfl ?_
      intro a43 c44 w45 hS12 hf
      refine LW.nil ⟨rfl, (.c (St.cell (h := hS12) (i := 3) rfl) (.c (St.cell (h := hS12) (i := 3) rfl) (.c (St.cell (h := hS12) (i := 3) rfl) Kept.n))), ?_⟩
      have q := W_i_copyInts (w0 := w45) hy20 rfl (hS12.rB hr0_11)
      refine AW.one (i := 5) (by kernel_rfl) ?_
      refine ⟨_, rfl, ?_⟩
      refine LW.call pl135 rfl rfl ?_
      refine Ret.mono q ?_
      rintro _ w48 ⟨a46, c47, rfl, hs⟩
      have hS13 := hS12.add hs
      refine LW.nil ⟨rfl, (.c (St.cell (h := hS13) (i := 4) rfl) (.w (by kernel_rfl) (.c (St.cell (h := hS13) (i := 4) rfl) Kept.n))), ?_⟩
      replace ⟨y49, hy49, h⟩ := obind h
      refine AW.one (i := 9) (by kernel_rfl) ?_
      refine ⟨_, rfl, ?_⟩
      refine LW.appN (l := ([] : List DMsg)) (m := x0.queue) sT83 rfl rfl (hS13.rB hr0_12) hy49 hS13 (i := 1) rfl rfl ?_
      intro a50 c51 w52 hS14 hf
      refine LW.nil ⟨rfl, (.w (by kernel_rfl) (.c (St.cell (h := hS14) (i := 4) rfl) (.c (St.cell (h := hS14) (i := 4) rfl) Kept.n))), ?_⟩
      refine AW.one (i := 11) (by kernel_rfl) ?_
      refine ⟨_, rfl, ?_⟩
      refine LW.st hS14 4 fun w53 hS15 => ?_
      refine LW.nil ⟨rfl, (.w (by kernel_rfl) (.w (by kernel_rfl) (.w (by kernel_rfl) Kept.n))), ?_⟩
      refine AW.u (i := 12) rfl (by kernel_rfl) rfl rfl (Pur.fa fo85_11 rfl) ?_
      refine AW.one (i := 13) (by kernel_rfl) ?_
      refine ⟨_, rfl, ?_⟩
      refine LW.st hS15 4 fun w54 hS16 => ?_
      refine LW.nil ⟨rfl, (.w (by kernel_rfl) (.w (by kernel_rfl) (.w (by kernel_rfl) Kept.n))), ?_⟩
      refine AW.u (i := 14) rfl (by kernel_rfl) rfl rfl (Pur.fa fo85_12 rfl) ?_
      refine AW.one (i := 15) (by kernel_rfl) ?_
      refine ⟨_, rfl, ?_⟩
      refine LW.st hS16 4 fun w55 hS17 => ?_
      refine LW.nil ⟨rfl, (.w (by kernel_rfl) (.w (by kernel_rfl) (.w (by kernel_rfl) Kept.n))), ?_⟩
      refine AW.done (by kernel_rfl) ?_
      cases oi h
      exact ⟨a17, c18, a46, c47, a50, c51, ⟨rfl, rfl, trivial⟩, hS17.pick [3, 4, 2, 0, 1] rfl rfl⟩
    refine ⟨_, rfl, ?_⟩
    refine LW.bsl (α := DMsg) (vs := []) (cs := #[]) (l := ([] : List DMsg)) rfl (by kernel_rfl) rfl rfl rfl (fun w => rfl) hS4 rfl ?_
    intro a56 c57 w58 hS18 hf
    refine LW.nil ⟨rfl, (.c (St.cell (h := hS18) (i := 2) rfl) (.c (St.cell (h := hS18) (i := 2) rfl) (.c (St.cell (h := hS18) (i := 2) rfl) Kept.n))), ?_⟩
    have q := W_i_copyInts (w0 := w58) hy7 rfl (hS18.rB hr0_10)
    refine AW.one (i := 2) (by kernel_rfl) ?_
    refine ⟨_, rfl, ?_⟩
    refine LW.call pl135 rfl rfl ?_
    refine Ret.mono q ?_
    rintro _ w61 ⟨a59, c60, rfl, hs⟩
    have hS19 := hS18.add hs
    refine LW.nil ⟨rfl, (.c (St.cell (h := hS19) (i := 3) rfl) (.c (St.cell (h := hS19) (i := 3) rfl) (.w (by kernel_rfl) Kept.n))), ?_⟩
    refine AW.u (i := 10) rfl (by kernel_rfl) rfl rfl (Pur.fa fo85_10 rfl) ?_
    replace ⟨y62, hy62, h⟩ := obind h
    have q := W_i_copyInts (w0 := w61) hy62 rfl (hS19.rB hr0_11)
    refine AW.one (i := 5) (by kernel_rfl) ?_
    refine ⟨_, rfl, ?_⟩
    refine LW.call pl135 rfl rfl ?_
    refine Ret.mono q ?_
    rintro _ w65 ⟨a63, c64, rfl, hs⟩
    have hS20 := hS19.add hs
    refine LW.nil ⟨rfl, (.c (St.cell (h := hS20) (i := 4) rfl) (.w (by kernel_rfl) (.c (St.cell (h := hS20) (i := 4) rfl) Kept.n))), ?_⟩
    replace ⟨y66, hy66, h⟩ := obind h
    refine AW.one (i := 9) (by kernel_rfl) ?_
    refine ⟨_, rfl, ?_⟩
    refine LW.appN (l := ([] : List DMsg)) (m := x0.queue) sT83 rfl rfl (hS20.rB hr0_12) hy66 hS20 (i := 2) rfl rfl ?_
    intro a67 c68 w69 hS21 hf
    refine LW.nil ⟨rfl, (.w (by kernel_rfl) (.c (St.cell (h := hS21) (i := 4) rfl) (.c (St.cell (h := hS21) (i := 4) rfl) Kept.n))), ?_⟩
    refine AW.one (i := 11) (by kernel_rfl) ?_
    refine ⟨_, rfl, ?_⟩
    refine LW.st hS21 4 fun w70 hS22 => ?_
    refine LW.nil ⟨rfl, (.w (by kernel_rfl) (.w (by kernel_rfl) (.w (by kernel_rfl) Kept.n))), ?_⟩
    refine AW.u (i := 12) rfl (by kernel_rfl) rfl rfl (Pur.fa fo85_11 rfl) ?_
    refine AW.one (i := 13) (by kernel_rfl) ?_
    refine ⟨_, rfl, ?_⟩
    refine LW.st hS22 4 fun w71 hS23 => ?_
    refine LW.nil ⟨rfl, (.w (by kernel_rfl) (.w (by kernel_rfl) (.w (by kernel_rfl) Kept.n))), ?_⟩
    refine AW.u (i := 14) rfl (by kernel_rfl) rfl rfl (Pur.fa fo85_12 rfl) ?_
    refine AW.one (i := 15) (by kernel_rfl) ?_
    refine ⟨_, rfl, ?_⟩
    refine LW.st hS23 4 fun w72 hS24 => ?_
    refine LW.nil ⟨rfl, (.w (by kernel_rfl) (.w (by kernel_rfl) (.w (by kernel_rfl) Kept.n))), ?_⟩
    refine AW.done (by kernel_rfl) ?_
    cases oi h
    exact ⟨a59, c60, a63, c64, a67, c68, ⟨rfl, rfl, trivial⟩, hS24.pick [3, 4, 1, 0, 2] rfl rfl⟩
  rintro e w73 ⟨j5a0, j5c0, j5a2, j5c2, j5a4, j5c4, hE, hS25⟩
  obtain ⟨e, rfl⟩ := hE.out
  have h := h6
  refine go ?_
  refine LW.st hS25 0 fun w74 hS26 => ?_
  refine go ?_
  cases h
  exact And.intro trivial ⟨_, Res.one (resOne.b hS26 0 rfl ag85 rfl rfl), j5a0, j5c0, j5a2, j5c2, j5a4, j5c4, rfl, hS26.pick [2, 3, 4] rfl rfl⟩

theorem W_i_copyArena {w0 : World} {N : Nat} {x0 : List DObj} {r : (List DObj)} (h : F_i_copyArena N x0 = some r) {a0_0 : Option Addr} {n0_0 c0_0 : Nat} (hn0_0 : n0_0 = x0.length) (hr0_0 : rdS (Bor w0 []) w0 a0_0 c0_0 x0) :
    Ret Tryz.prog 167 #[.slice a0_0 n0_0 c0_0] w0 (fun v w => ∃ ar0 cr0, v = .slice ar0 r.length cr0 ∧ St w0 [] w [sl ar0 cr0 r]) := by
  subst hn0_0
  unfold F_i_copyArena at h
  refine Ret.fn Tryz.func167 fun e => ?_
  have hS1 := St.start w0
  refine go ?_
  refine LW.bsl (α := DObj) (vs := []) (cs := #[]) (l := ([] : List DObj)) rfl (by kernel_rfl) rfl rfl rfl (fun w => rfl) hS1 rfl ?_
  intro a1 c2 w3 hS2 hf
  refine go ?_
  obtain ⟨o41, ho41, h42⟩ := obind h
  refine CW.mono (CW.iter (σ := (List DObj) × Int) (ρ := (List DObj) × Int) (fun s4 e wb => ∃ (s4a0 : Option Addr), ∃ (s4c0 : Nat), En e [(3, .slice s4a0 s4.1.length s4c0), (7, .slice a0_0 x0.length c0_0), (8, .int .i64 (x0.length : Int)), (9, .int .i64 s4.2)] ∧ St w0 [] wb [sl s4a0 s4c0 s4.1]) (fun s4 x e wb => x = .exit 0 ∧ ∃ (s4a0 : Option Addr), ∃ (s4c0 : Nat), En e [(3, .slice s4a0 s4.1.length s4c0)] ∧ St w0 [] wb [sl s4a0 s4c0 s4.1]) ?_ N (([] : List DObj), 0) _ _ _ ⟨a1, c2, ⟨rfl, rfl, rfl, rfl, trivial⟩, hS2.pick [0] rfl rfl⟩ ho41) ?_
  · intro s4 e w5 o hM h
    obtain ⟨s4a0, s4c0, hE, hS3⟩ := hM
    obtain ⟨e, rfl⟩ := hE.out
    refine go ?_
    refine CW.cond rfl (fun hc6 => ?_) (fun hc6 => ?_)
    · replace h := bcT h hc6
      refine go ?_
      replace ⟨y7, hy7, h⟩ := obind h
      obtain ⟨b10, o11, cs12, hae, hb15, hp8, hq9, hd13, hk14⟩ := hr0_0.idx hy7
      subst hae
      obtain ⟨a16, c17, a19, c20, a22, c23, rfl, hr18, hr21, hr24⟩ := hd13
      refine LW.u (Pur.ix Tryz.underlying40 sz85 rfl rfl hp8 hq9) rfl ?_
      refine LW.l (Ldr.oldN w0 ag85 rfl rfl (fun j u hu => hk14 j u hu)) (hS3.same _ hb15.1 hb15.2) rfl ?_
      refine LW.al hS3 fun g25 w26 hS4 => ?_
      refine LW.st hS4 0 fun w27 hS5 => ?_
      refine go ?_
      replace ⟨y28, hy28, h⟩ := obind h
      refine LW.cl (W_i_copyObj hy28 rfl (hS5.rB hr18) rfl (hS5.rB hr21) rfl (hS5.rB hr24)) ?_
      rintro _ w35 ⟨a29, c30, a31, c32, a33, c34, rfl, hs⟩
      have hS6 := hS5.add hs
      have hS7 := hS6.pick (M := [sl a29 c30 y28.links, sl a31 c32 y28.data, sl a33 c34 y28.queue] ++ [bx g25 85 [.int .i64 y7.gen, .int .i64 y7.kind, .int .i64 y7.box, .int .i64 y7.res, .int .i64 y7.til, .int .i64 y7.pages, .int .i64 y7.wait, .int .i64 y7.got, .int .i64 y7.ran, .bool y7.mark, .slice a16 y7.links.length c17, .slice a19 y7.data.length c20, .slice a22 y7.queue.length c23], sl s4a0 s4c0 s4.1]) [0, 1, 2, 3, 4] rfl rfl
      replace ⟨y36, hy36, h⟩ := obind h
      refine LW.app1 (M := [sl a29 c30 y28.links, sl a31 c32 y28.data, sl a33 c34 y28.queue]) (L := [bx g25 85 [.int .i64 y7.gen, .int .i64 y7.kind, .int .i64 y7.box, .int .i64 y7.res, .int .i64 y7.til, .int .i64 y7.pages, .int .i64 y7.wait, .int .i64 y7.got, .int .i64 y7.ran, .bool y7.mark, .slice a16 y7.links.length c17, .slice a19 y7.data.length c20, .slice a22 y7.queue.length c23], sl s4a0 s4c0 s4.1]) (vs := #[.int .i64 y28.gen, .int .i64 y28.kind, .int .i64 y28.box, .int .i64 y28.res, .int .i64 y28.til, .int .i64 y28.pages, .int .i64 y28.wait, .int .i64 y28.got, .int .i64 y28.ran, .bool y28.mark, .slice a29 y28.links.length c30, .slice a31 y28.data.length c32, .slice a33 y28.queue.length c34]) (i := 1) sT40 rfl (by kernel_rfl) rfl rfl hy36 hS7 rfl (fun w G hG => ⟨a29, c30, a31, c32, a33, c34, rfl, hG⟩) rfl rfl ?_
      intro v39 a37 c38 w40 hS8 hf
      refine go ?_
      cases oi h
      exact ⟨rfl, ⟨a37, c38, ⟨rfl, rfl, rfl, rfl, trivial⟩, hS8.pick [1] rfl rfl⟩⟩
    replace h := bcF h hc6
    refine go ?_
    cases oi h
    exact ⟨trivial, rfl, ⟨s4a0, s4c0, ⟨rfl, trivial⟩, hS3.pick [0] rfl rfl⟩⟩
  intro x e w43 hM
  obtain ⟨rfl, hM⟩ := hM
  obtain ⟨s4a0, s4c0, hE, hS9⟩ := hM
  obtain ⟨e, rfl⟩ := hE.out
  have h := h42
  refine go ?_
  cases h
  exact And.intro trivial ⟨_, Res.one (resOne.t rfl), s4a0, s4c0, rfl, hS9.pick [0] rfl rfl⟩

theorem W_i_ArenaPut {w0 : World} {N : Nat} {x0 : List DObj} {x1 : DObj} {r : (List DObj) × Int} (h : F_i_ArenaPut N x0 x1 = some r) {a0_0 : Option Addr} {n0_0 c0_0 : Nat} (hn0_0 : n0_0 = x0.length) (hr0_0 : rdS (Bor w0 []) w0 a0_0 c0_0 x0) {a1_10 : Option Addr} {n1_10 c1_10 : Nat} (hn1_10 : n1_10 = x1.links.length) (hr1_10 : rdS (Bor w0 []) w0 a1_10 c1_10 x1.links) {a1_11 : Option Addr} {n1_11 c1_11 : Nat} (hn1_11 : n1_11 = x1.data.length) (hr1_11 : rdS (Bor w0 []) w0 a1_11 c1_11 x1.data) {a1_12 : Option Addr} {n1_12 c1_12 : Nat} (hn1_12 : n1_12 = x1.queue.length) (hr1_12 : rdS (Bor w0 []) w0 a1_12 c1_12 x1.queue) :
    Ret Tryz.prog 132 #[.slice a0_0 n0_0 c0_0, .agg #[.int .i64 x1.gen, .int .i64 x1.kind, .int .i64 x1.box, .int .i64 x1.res, .int .i64 x1.til, .int .i64 x1.pages, .int .i64 x1.wait, .int .i64 x1.got, .int .i64 x1.ran, .bool x1.mark, .slice a1_10 n1_10 c1_10, .slice a1_11 n1_11 c1_11, .slice a1_12 n1_12 c1_12]] w0 (fun v w => ∃ ar0 cr0, v = .tuple #[.slice ar0 r.1.length cr0, .int .i64 r.2] ∧ St w0 [] w [sl ar0 cr0 r.1]) := by
  subst hn0_0 hn1_10 hn1_11 hn1_12
  unfold F_i_ArenaPut at h
  refine Ret.fn Tryz.func132 fun e => ?_
  have hS1 := St.start w0
  refine go ?_
  refine LW.bo hS1 fun g1 w2 hS2 => ?_
  refine go ?_
  replace ⟨y3, hy3, h⟩ := obind h
  refine LW.cl (W_i_copyArena hy3 rfl (hS2.rB hr0_0)) ?_
  rintro _ w6 ⟨a4, c5, rfl, hs⟩
  have hS3 := hS2.add hs
  refine gs ?_
  obtain ⟨j7, hj7, h8⟩ := obind h
  refine CW.cut (fun e wb => En e [(0, .slice a0_0 x0.length c0_0), (3, .pointer (some ⟨g1, 0, none⟩)), (6, .slice a4 y3.length c5), (19, .bool j7)] ∧ St w0 [] wb [sl a4 c5 y3, bx g1 85 [.int .i64 x1.gen, .int .i64 x1.kind, .int .i64 x1.box, .int .i64 x1.res, .int .i64 x1.til, .int .i64 x1.pages, .int .i64 x1.wait, .int .i64 x1.got, .int .i64 x1.ran, .bool x1.mark, .slice a1_10 x1.links.length c1_10, .slice a1_11 x1.data.length c1_11, .slice a1_12 x1.queue.length c1_12]]) ?_ ?_
  · have h := hj7
    refine go ?_
    replace ⟨y9, hy9, h⟩ := obind h
    refine LW.c0 (W_i_ArenaOk hy9 rfl (hS3.rB hr0_0)) hS3 fun w10 hS4 => ?_
    refine go ?_
    rcases bcases (!y9) with hc11 | hc11
    · replace h := bcT h hc11
      refine go ?_
      cases oi h
      exact ⟨⟨rfl, rfl, rfl, rfl, trivial⟩, hS4.pick [0, 1] rfl rfl⟩
    replace h := bcF h hc11
    refine go ?_
    cases oi h
    exact ⟨⟨rfl, rfl, rfl, rfl, trivial⟩, hS4.pick [0, 1] rfl rfl⟩
  rintro e w12 ⟨hE, hS5⟩
  obtain ⟨e, rfl⟩ := hE.out
  have h := h8
  refine go ?_
  refine CW.cond rfl (fun hc13 => ?_) (fun hc13 => ?_)
  · replace h := bcT h hc13
    refine go ?_
    cases h
    exact And.intro trivial ⟨_, Res.two (resOne.t rfl) (resOne.t rfl), a4, c5, rfl, hS5.pick [0] rfl rfl⟩
  replace h := bcF h hc13
  refine go ?_
  obtain ⟨o73, ho73, h74⟩ := obind h
  refine CW.mono (CW.iter (σ := Int) (ρ := Int ⊕ ((List DObj) × Int)) (fun s14 e wb => En e [(0, .slice a0_0 x0.length c0_0), (3, .pointer (some ⟨g1, 0, none⟩)), (6, .slice a4 y3.length c5), (21, .slice a0_0 x0.length c0_0), (22, .int .i64 (x0.length : Int)), (23, .int .i64 s14)] ∧ St w0 [] wb [sl a4 c5 y3, bx g1 85 [.int .i64 x1.gen, .int .i64 x1.kind, .int .i64 x1.box, .int .i64 x1.res, .int .i64 x1.til, .int .i64 x1.pages, .int .i64 x1.wait, .int .i64 x1.got, .int .i64 x1.ran, .bool x1.mark, .slice a1_10 x1.links.length c1_10, .slice a1_11 x1.data.length c1_11, .slice a1_12 x1.queue.length c1_12]]) (fun o x e wb => match o with | .inl s14 => x = .exit 0 ∧ En e [(6, .slice a4 y3.length c5)] ∧ St w0 [] wb [sl a4 c5 y3, bx g1 85 [.int .i64 x1.gen, .int .i64 x1.kind, .int .i64 x1.box, .int .i64 x1.res, .int .i64 x1.til, .int .i64 x1.pages, .int .i64 x1.wait, .int .i64 x1.got, .int .i64 x1.ran, .bool x1.mark, .slice a1_10 x1.links.length c1_10, .slice a1_11 x1.data.length c1_11, .slice a1_12 x1.queue.length c1_12]] | .inr r => x = .ret ∧ ∃ u, u = r ∧ ∃ v, Res Tryz.prog Tryz.f132.results e wb v ∧ ∃ ar0 cr0, v = .tuple #[.slice ar0 u.1.length cr0, .int .i64 u.2] ∧ St w0 [] wb [sl ar0 cr0 u.1]) ?_ N 0 _ _ _ ⟨⟨rfl, rfl, rfl, rfl, rfl, rfl, trivial⟩, hS5.pick [0, 1] rfl rfl⟩ ho73) ?_
  · intro s14 e w15 o hM h
    obtain ⟨hE, hS6⟩ := hM
    obtain ⟨e, rfl⟩ := hE.out
    refine go ?_
    refine CW.cond rfl (fun hc16 => ?_) (fun hc16 => ?_)
    · replace h := bcT h hc16
      refine go ?_
      replace ⟨y17, hy17, h⟩ := obind h
      obtain ⟨b20, o21, cs22, hae, hb25, hp18, hq19, hd23, hk24⟩ := hr0_0.idx hy17
      subst hae
      obtain ⟨a26, c27, a29, c30, a32, c33, rfl, hr28, hr31, hr34⟩ := hd23
      refine LW.u (Pur.ix Tryz.underlying40 sz85 rfl rfl hp18 hq19) rfl ?_
      refine LW.l (Ldr.oldN w0 ag85 rfl rfl (fun j u hu => hk24 j u hu)) (hS6.same _ hb25.1 hb25.2) rfl ?_
      refine LW.al hS6 fun g35 w36 hS7 => ?_
      refine go ?_
      refine LW.st hS7 0 fun w37 hS8 => ?_
      refine gs ?_
      obtain ⟨j38, hj38, h39⟩ := obind h
      refine CW.cut (fun e wb => En e [(0, .slice (some ⟨b20, o21, none⟩) x0.length c0_0), (3, .pointer (some ⟨g1, 0, none⟩)), (6, .slice a4 y3.length c5), (7, .int .i64 s14), (8, .pointer (some ⟨g35, 0, none⟩)), (21, .slice (some ⟨b20, o21, none⟩) x0.length c0_0), (22, .int .i64 (x0.length : Int)), (23, .int .i64 s14), (39, .bool j38)] ∧ St w0 [] wb [bx g35 85 [.int .i64 y17.gen, .int .i64 y17.kind, .int .i64 y17.box, .int .i64 y17.res, .int .i64 y17.til, .int .i64 y17.pages, .int .i64 y17.wait, .int .i64 y17.got, .int .i64 y17.ran, .bool y17.mark, .slice a26 y17.links.length c27, .slice a29 y17.data.length c30, .slice a32 y17.queue.length c33], sl a4 c5 y3, bx g1 85 [.int .i64 x1.gen, .int .i64 x1.kind, .int .i64 x1.box, .int .i64 x1.res, .int .i64 x1.til, .int .i64 x1.pages, .int .i64 x1.wait, .int .i64 x1.got, .int .i64 x1.ran, .bool x1.mark, .slice a1_10 x1.links.length c1_10, .slice a1_11 x1.data.length c1_11, .slice a1_12 x1.queue.length c1_12]]) ?_ ?_
      · have h := hj38
        refine go ?_
        rcases bcases (s14 == 0) with hc40 | hc40
        · replace h := bcT h hc40
          refine go ?_
          cases oi h
          exact ⟨⟨rfl, rfl, rfl, rfl, rfl, rfl, rfl, rfl, rfl, trivial⟩, hS8.pick [0, 1, 2] rfl rfl⟩
        replace h := bcF h hc40
        refine go ?_
        refine LW.fl [0, 3, 6, 7, 8, 21, 22, 23, 35] fun e => ?_
        rcases bcases (y17.kind != 0) with hc41 | hc41
        · replace h := bcT h hc41
          refine go ?_
          cases oi h
          exact ⟨⟨rfl, rfl, rfl, rfl, rfl, rfl, rfl, rfl, rfl, trivial⟩, hS8.pick [0, 1, 2] rfl rfl⟩
        replace h := bcF h hc41
        refine go ?_
        cases oi h
        exact ⟨⟨rfl, rfl, rfl, rfl, rfl, rfl, rfl, rfl, rfl, trivial⟩, hS8.pick [0, 1, 2] rfl rfl⟩
      rintro e w42 ⟨hE, hS9⟩
      obtain ⟨e, rfl⟩ := hE.out
      have h := h39
      refine go ?_
      refine CW.fl [0, 3, 6, 7, 8, 21, 22, 23, 39] fun e => ?_
      refine CW.cond rfl (fun hc43 => ?_) (fun hc43 => ?_)
      · replace h := bcT h hc43
        refine go ?_
        cases oi h
        exact ⟨rfl, ⟨⟨rfl, rfl, rfl, rfl, rfl, rfl, trivial⟩, hS9.pick [1, 2] rfl rfl⟩⟩
      replace h := bcF h hc43
      refine go ?_
      replace ⟨y44, hy44, h⟩ := obind h
      refine LW.cl (W_i_copyArena hy44 rfl (hS9.rB hr0_0)) ?_
      rintro _ w47 ⟨a45, c46, rfl, hs⟩
      have hS10 := hS9.add hs
      refine go ?_
      replace ⟨y48, hy48, h⟩ := obind h
      refine LW.cl (W_i_copyObj hy48 rfl (hS10.rB hr1_10) rfl (hS10.rB hr1_11) rfl (hS10.rB hr1_12)) ?_
      rintro _ w55 ⟨a49, c50, a51, c52, a53, c54, rfl, hs⟩
      have hS11 := hS10.add hs
      replace ⟨y56, hy56, h⟩ := obind h
      obtain ⟨b59, o60, hae, hp57, hq58⟩ := hS11.ownIdx (α := DObj) (i := 3) rfl hy56
      subst hae
      refine LW.u (Pur.ix Tryz.underlying40 sz85 rfl rfl hp57 hq58) rfl ?_
      have hS12 := hS11.pick (M := [sl a49 c50 y48.links, sl a51 c52 y48.data, sl a53 c54 y48.queue] ++ [sl (some ⟨b59, o60, none⟩) c46 y44, bx g35 85 [.int .i64 y17.gen, .int .i64 y17.kind, .int .i64 y17.box, .int .i64 y17.res, .int .i64 y17.til, .int .i64 y17.pages, .int .i64 y17.wait, .int .i64 y17.got, .int .i64 y17.ran, .bool y17.mark, .slice a26 y17.links.length c27, .slice a29 y17.data.length c30, .slice a32 y17.queue.length c33], sl a4 c5 y3, bx g1 85 [.int .i64 x1.gen, .int .i64 x1.kind, .int .i64 x1.box, .int .i64 x1.res, .int .i64 x1.til, .int .i64 x1.pages, .int .i64 x1.wait, .int .i64 x1.got, .int .i64 x1.ran, .bool x1.mark, .slice a1_10 x1.links.length c1_10, .slice a1_11 x1.data.length c1_11, .slice a1_12 x1.queue.length c1_12]]) [0, 1, 2, 3, 4, 5, 6] rfl rfl
      replace ⟨y61, hy61, h⟩ := obind h
      refine LW.stE (M := [sl a49 c50 y48.links, sl a51 c52 y48.data, sl a53 c54 y48.queue]) (L := [sl (some ⟨b59, o60, none⟩) c46 y44, bx g35 85 [.int .i64 y17.gen, .int .i64 y17.kind, .int .i64 y17.box, .int .i64 y17.res, .int .i64 y17.til, .int .i64 y17.pages, .int .i64 y17.wait, .int .i64 y17.got, .int .i64 y17.ran, .bool y17.mark, .slice a26 y17.links.length c27, .slice a29 y17.data.length c30, .slice a32 y17.queue.length c33], sl a4 c5 y3, bx g1 85 [.int .i64 x1.gen, .int .i64 x1.kind, .int .i64 x1.box, .int .i64 x1.res, .int .i64 x1.til, .int .i64 x1.pages, .int .i64 x1.wait, .int .i64 x1.got, .int .i64 x1.ran, .bool x1.mark, .slice a1_10 x1.links.length c1_10, .slice a1_11 x1.data.length c1_11, .slice a1_12 x1.queue.length c1_12]]) (z := y56) (z' := y48) (o := 0) hS12 (i := 0) rfl hy56 ag85 rfl (by show _ = o60 + (s14 : Int).toNat * 13 + 0; omega) rfl rfl rfl rfl (whole (fun w G hG => ⟨a49, c50, a51, c52, a53, c54, rfl, hG⟩)) ?_
      intro w62 hS13 hf
      rw [Option.some.inj hy61] at hS13
      refine go ?_
      replace ⟨y63, hy63, h⟩ := obind h
      obtain ⟨b66, o67, hae, hp64, hq65⟩ := hS13.ownIdx (α := DObj) (i := 0) rfl hy63
      cases hae
      refine LW.u (Pur.ix Tryz.underlying40 sz85 rfl rfl hp64 (by rw [show y44.length = y61.length from (len_set (Option.some.inj hy61))]; exact hq65)) rfl ?_
      refine go ?_
      replace ⟨y68, hy68, h⟩ := obind h
      refine LW.stE (M := []) (L := [sl (some ⟨b59, o60, none⟩) c46 y61, bx g35 85 [.int .i64 y17.gen, .int .i64 y17.kind, .int .i64 y17.box, .int .i64 y17.res, .int .i64 y17.til, .int .i64 y17.pages, .int .i64 y17.wait, .int .i64 y17.got, .int .i64 y17.ran, .bool y17.mark, .slice a26 y17.links.length c27, .slice a29 y17.data.length c30, .slice a32 y17.queue.length c33], sl a4 c5 y3, bx g1 85 [.int .i64 x1.gen, .int .i64 x1.kind, .int .i64 x1.box, .int .i64 x1.res, .int .i64 x1.til, .int .i64 x1.pages, .int .i64 x1.wait, .int .i64 x1.got, .int .i64 x1.ran, .bool x1.mark, .slice a1_10 x1.links.length c1_10, .slice a1_11 x1.data.length c1_11, .slice a1_12 x1.queue.length c1_12]]) (z := y63) (z' := (DObj.mk (IntKind.i64.wrap (y17.gen + 1)) y63.kind y63.box y63.res y63.til y63.pages y63.wait y63.got y63.ran y63.mark y63.links y63.data y63.queue)) (o := 0) hS13 (i := 0) rfl hy63 ag3 rfl (by show _ = o60 + (s14 : Int).toNat * 13 + 0; omega) rfl rfl rfl rfl (leafF (fun w cs F hF => by obtain ⟨q0, r0, q1, r1, q2, r2, rfl, hH⟩ := hF; exact ⟨q0, r0, q1, r1, q2, r2, rfl, hH⟩)) ?_
      intro w69 hS14 hf
      rw [Option.some.inj hy68] at hS14
      refine go ?_
      replace ⟨y70, hy70, h⟩ := obind h
      refine LW.c0 (W_i_ArenaOk hy70 (show y44.length = y68.length from ((len_set (Option.some.inj hy61)).trans (len_set (Option.some.inj hy68)))) (hS14.rI 0 rfl)) hS14 fun w71 hS15 => ?_
      refine go ?_
      refine CW.fl [6, 7, 9, 56] fun e => ?_
      refine CW.cond rfl (fun hc72 => ?_) (fun hc72 => ?_)
      · replace h := bcT h hc72
        refine go ?_
        cases oi h
        exact ⟨trivial, rfl, _, rfl, ⟨_, Res.two (resOne.t rfl) (resOne.t rfl), a4, c5, rfl, hS15.pick [2] rfl rfl⟩⟩
      replace h := bcF h hc72
      refine go ?_
      cases oi h
      exact ⟨trivial, rfl, _, rfl, ⟨_, Res.two (resOne.t rfl) (resOne.t rfl), (some ⟨b59, o60, none⟩), c46, (show (.tuple #[.slice (some ⟨b59, o60, none⟩) y44.length c46, .int .i64 s14] : Value) = .tuple #[.slice (some ⟨b59, o60, none⟩) y68.length c46, .int .i64 s14] by rw [show y44.length = y68.length from ((len_set (Option.some.inj hy61)).trans (len_set (Option.some.inj hy68)))]), hS15.pick [0] rfl rfl⟩⟩
    replace h := bcF h hc16
    refine go ?_
    cases oi h
    exact ⟨trivial, rfl, ⟨⟨rfl, trivial⟩, hS6.pick [0, 1] rfl rfl⟩⟩
  intro x e w75 hM
  rcases o73 with o73 | r76
  · obtain ⟨rfl, hM⟩ := hM
    obtain ⟨hE, hS16⟩ := hM
    obtain ⟨e, rfl⟩ := hE.out
    have h := h74
    refine go ?_
    cases h
    exact And.intro trivial ⟨_, Res.two (resOne.t rfl) (resOne.t rfl), a4, c5, rfl, hS16.pick [0] rfl rfl⟩
  obtain ⟨rfl, u, rfl, hM⟩ := hM
  cases h74
  exact And.intro trivial hM

theorem W_i_copyLabel {w0 : World} {N : Nat} {x0 : DLabel} {r : DLabel} (h : F_i_copyLabel N x0 = some r) {a0_0 : Option Addr} {n0_0 c0_0 : Nat} (hn0_0 : n0_0 = x0.levels.length) (hr0_0 : rdS (Bor w0 []) w0 a0_0 c0_0 x0.levels) :
    Ret Tryz.prog 134 #[.agg #[.slice a0_0 n0_0 c0_0]] w0 (fun v w => ∃ ar0_0 cr0_0, v = .agg #[.slice ar0_0 r.levels.length cr0_0] ∧ St w0 [] w [sl ar0_0 cr0_0 r.levels]) := by
  subst hn0_0
  unfold F_i_copyLabel at h
  refine Ret.fn Tryz.func134 fun e => ?_
  have hS1 := St.start w0
  refine go ?_
  refine LW.bo hS1 fun g1 w2 hS2 => ?_
  refine LW.al hS2 fun g3 w4 hS3 => ?_
  refine go ?_
  replace ⟨y5, hy5, h⟩ := obind h
  refine LW.cl (W_i_copyInts hy5 rfl (hS3.rB hr0_0)) ?_
  rintro _ w8 ⟨a6, c7, rfl, hs⟩
  have hS4 := hS3.add hs
  refine LW.u (Pur.build (vs := [(0, .slice a6 y5.length c7)]) (cs := #[.slice a6 y5.length c7]) rfl (by kernel_rfl)) rfl ?_
  refine LW.st hS4 1 fun w9 hS5 => ?_
  refine go ?_
  cases h
  exact And.intro trivial ⟨_, Res.one (resOne.b hS5 1 rfl ag38 rfl rfl), a6, c7, rfl, hS5.pick [0] rfl rfl⟩

theorem W_i_GcNew {w0 : World} {N : Nat} {r : DGc} (h : F_i_GcNew N = some r) :
    Ret Tryz.prog 137 #[] w0 (fun v w => ∃ ar0_3 cr0_3, v = .agg #[.int .i64 r.phase, .int .i64 r.pos, .int .i64 r.round, .slice ar0_3 r.grey.length cr0_3] ∧ St w0 [] w [sl ar0_3 cr0_3 r.grey]) := by
  unfold F_i_GcNew at h
  refine Ret.fn Tryz.func137 fun e => ?_
  have hS1 := St.start w0
  refine go ?_
  refine LW.al hS1 fun g1 w2 hS2 => ?_
  refine go ?_
  refine LW.bsl (α := Int) (vs := [(0, .int .i64 0)]) (cs := #[.int .i64 0]) (l := ([0] : List Int)) rfl (by kernel_rfl) rfl rfl rfl (fun w => ⟨[.int .i64 0], [], [], [], rfl, rfl, ⟨rfl, rfl⟩, rfl⟩) hS2 rfl ?_
  intro a3 c4 w5 hS3 hf
  refine LW.u (Pur.build (vs := [(3, .slice a3 (([0] : List Int).length) c4)]) (cs := #[.int .i64 0, .int .i64 0, .int .i64 0, .slice a3 (([0] : List Int).length) c4]) rfl (by kernel_rfl)) rfl ?_
  refine LW.st hS3 1 fun w6 hS4 => ?_
  refine go ?_
  cases h
  exact And.intro trivial ⟨_, Res.one (resOne.b hS4 1 rfl ag41 rfl rfl), a3, c4, rfl, hS4.pick [0] rfl rfl⟩

theorem W_i_copyHeap {w0 : World} {N : Nat} {x0 : DHeap} {r : DHeap} (h : F_i_copyHeap N x0 = some r) {a0_0 : Option Addr} {n0_0 c0_0 : Nat} (hn0_0 : n0_0 = x0.arena.length) (hr0_0 : rdS (Bor w0 []) w0 a0_0 c0_0 x0.arena) {a0_4 : Option Addr} {n0_4 c0_4 : Nat} (hn0_4 : n0_4 = x0.gc.grey.length) (hr0_4 : rdS (Bor w0 []) w0 a0_4 c0_4 x0.gc.grey) :
    Ret Tryz.prog 169 #[.agg #[.slice a0_0 n0_0 c0_0, .int .i64 x0.gc.phase, .int .i64 x0.gc.pos, .int .i64 x0.gc.round, .slice a0_4 n0_4 c0_4]] w0 (fun v w => ∃ ar0_0 cr0_0, ∃ ar0_4 cr0_4, v = .agg #[.slice ar0_0 r.arena.length cr0_0, .int .i64 r.gc.phase, .int .i64 r.gc.pos, .int .i64 r.gc.round, .slice ar0_4 r.gc.grey.length cr0_4] ∧ St w0 [] w [sl ar0_0 cr0_0 r.arena, sl ar0_4 cr0_4 r.gc.grey]) := by
  subst hn0_0 hn0_4
  unfold F_i_copyHeap at h
  refine Ret.fn Tryz.func169 fun e => ?_
  have hS1 := St.start w0
  refine go ?_
  refine LW.bo hS1 fun g1 w2 hS2 => ?_
  refine LW.al hS2 fun g3 w4 hS3 => ?_
  refine gs ?_
  obtain ⟨j5, hj5, h6⟩ := obind h
  refine CW.cut (fun e wb => ∃ (j5g3 : Nat), ∃ (j5a1 : Option Addr), ∃ (j5c1 : Nat), En e [(1, .pointer (some ⟨g1, 0, none⟩)), (2, .pointer (some ⟨g3, 0, none⟩)), (3, .pointer (some ⟨j5g3, 0, none⟩))] ∧ St w0 [] wb [bx g3 43 [.slice none 0 0, .int .i64 0, .int .i64 0, .int .i64 0, .slice none 0 0], bx g1 43 [.slice a0_0 x0.arena.length c0_0, .int .i64 x0.gc.phase, .int .i64 x0.gc.pos, .int .i64 x0.gc.round, .slice a0_4 x0.gc.grey.length c0_4], bx j5g3 43 [.slice j5a1 j5.length j5c1, .int .i64 x0.gc.phase, .int .i64 x0.gc.pos, .int .i64 x0.gc.round, .slice a0_4 x0.gc.grey.length c0_4], sl j5a1 j5c1 j5]) ?_ ?_
  · have h := hj5
    refine CW.draw (by kernel_rfl) ?_
    have hS4 := hS3.drew
    refine AW.u (i := 0) rfl (by kernel_rfl) rfl rfl (Pur.fa fo43_0 rfl) ?_
    refine AW.take (i := 1) rfl (by kernel_rfl) rfl rfl (Ldr.box (bt := 43) (fr := (0, 0)) (cs := [.slice a0_0 x0.arena.length c0_0, .int .i64 x0.gc.phase, .int .i64 x0.gc.pos, .int .i64 x0.gc.round, .slice a0_4 x0.gc.grey.length c0_4]) ag40 rfl rfl) (St.cell (h := hS4) (i := 1) rfl) ?_
    refine AW.u (i := 3) rfl (by kernel_rfl) rfl rfl (Pur.fa fo43_1 rfl) ?_
    refine AW.take (i := 4) rfl (by kernel_rfl) rfl rfl (Ldr.boxN (bt := 43) (fr := (0, 0)) (cs := [.slice a0_0 x0.arena.length c0_0, .int .i64 x0.gc.phase, .int .i64 x0.gc.pos, .int .i64 x0.gc.round, .slice a0_4 x0.gc.grey.length c0_4]) ag41 rfl rfl) (St.cell (h := hS4) (i := 1) rfl) ?_
    replace ⟨y7, hy7, h⟩ := obind h
    refine AW.all (rs := [2, 6]) (by kernel_rfl) (by simp) ⟨?_, ?_, trivial⟩
    · have q := W_i_copyArena (w0 := w4.drew) hy7 rfl (hS4.rB hr0_0)
      refine ⟨_, rfl, ?_⟩
      refine LW.call pl167 rfl rfl ?_
      refine Ret.mono q ?_
      rintro _ w18 ⟨a16, c17, rfl, hs⟩
      have hS5 := hS4.add hs
      refine LW.nil ⟨rfl, (.c (St.cell (h := hS5) (i := 2) rfl) (.w (by kernel_rfl) Kept.n)), ?_⟩
      refine AW.u (i := 5) rfl (by kernel_rfl) rfl rfl (Pur.build (vs := [(0, .slice a16 y7.length c17), (1, .agg #[.int .i64 x0.gc.phase, .int .i64 x0.gc.pos, .int .i64 x0.gc.round, .slice a0_4 x0.gc.grey.length c0_4])]) (cs := #[.slice a16 y7.length c17, .int .i64 x0.gc.phase, .int .i64 x0.gc.pos, .int .i64 x0.gc.round, .slice a0_4 x0.gc.grey.length c0_4]) rfl (by kernel_rfl)) ?_
      refine AW.one (i := 6) (by kernel_rfl) ?_
      refine ⟨_, rfl, ?_⟩
      refine LW.al hS5 fun g19 w20 hS6 => ?_
      refine LW.nil ⟨rfl, (.c (St.cell (h := hS6) (i := 3) rfl) (.c (St.cell (h := hS6) (i := 3) rfl) Kept.n)), ?_⟩
      refine AW.one (i := 7) (by kernel_rfl) ?_
      refine ⟨_, rfl, ?_⟩
      refine LW.st hS6 0 fun w21 hS7 => ?_
      refine LW.nil ⟨rfl, (.w (by kernel_rfl) (.w (by kernel_rfl) Kept.n)), ?_⟩
      refine AW.done (by kernel_rfl) ?_
      cases oi h
      exact ⟨g19, a16, c17, ⟨rfl, rfl, rfl, trivial⟩, hS7.pick [2, 3, 0, 1] rfl rfl⟩
    refine ⟨_, rfl, ?_⟩
    refine LW.al hS4 fun g22 w23 hS8 => ?_
    refine LW.nil ⟨rfl, (.c (St.cell (h := hS8) (i := 2) rfl) (.c (St.cell (h := hS8) (i := 2) rfl) Kept.n)), ?_⟩
    have q := W_i_copyArena (w0 := w23) hy7 rfl (hS8.rB hr0_0)
    refine AW.one (i := 2) (by kernel_rfl) ?_
    refine ⟨_, rfl, ?_⟩
    refine LW.call pl167 rfl rfl ?_
    refine Ret.mono q ?_
    rintro _ w26 ⟨a24, c25, rfl, hs⟩
    have hS9 := hS8.add hs
    refine LW.nil ⟨rfl, (.c (St.cell (h := hS9) (i := 3) rfl) (.w (by kernel_rfl) Kept.n)), ?_⟩
    refine AW.u (i := 5) rfl (by kernel_rfl) rfl rfl (Pur.build (vs := [(0, .slice a24 y7.length c25), (1, .agg #[.int .i64 x0.gc.phase, .int .i64 x0.gc.pos, .int .i64 x0.gc.round, .slice a0_4 x0.gc.grey.length c0_4])]) (cs := #[.slice a24 y7.length c25, .int .i64 x0.gc.phase, .int .i64 x0.gc.pos, .int .i64 x0.gc.round, .slice a0_4 x0.gc.grey.length c0_4]) rfl (by kernel_rfl)) ?_
    refine AW.one (i := 7) (by kernel_rfl) ?_
    refine ⟨_, rfl, ?_⟩
    refine LW.st hS9 1 fun w27 hS10 => ?_
    refine LW.nil ⟨rfl, (.w (by kernel_rfl) (.w (by kernel_rfl) Kept.n)), ?_⟩
    refine AW.done (by kernel_rfl) ?_
    cases oi h
    exact ⟨g22, a24, c25, ⟨rfl, rfl, rfl, trivial⟩, hS10.pick [2, 3, 1, 0] rfl rfl⟩
  rintro e w28 ⟨j5g3, j5a1, j5c1, hE, hS11⟩
  obtain ⟨e, rfl⟩ := hE.out
  have h := h6
  refine go ?_
  replace ⟨y29, hy29, h⟩ := obind h
  refine LW.cl (W_i_copyInts hy29 rfl (hS11.rB hr0_4)) ?_
  rintro _ w32 ⟨a30, c31, rfl, hs⟩
  have hS12 := hS11.add hs
  refine go ?_
  refine LW.st hS12 3 fun w33 hS13 => ?_
  refine go ?_
  refine LW.st hS13 1 fun w34 hS14 => ?_
  refine go ?_
  cases h
  exact And.intro trivial ⟨_, Res.one (resOne.b hS14 1 rfl ag43 rfl rfl), j5a1, j5c1, a30, c31, rfl, hS14.pick [4, 0] rfl rfl⟩

theorem W_i_GcBorn {w0 : World} {N : Nat} {x0 : DHeap} {x1 : Int} {r : DHeap} (h : F_i_GcBorn N x0 x1 = some r) {a0_0 : Option Addr} {n0_0 c0_0 : Nat} (hn0_0 : n0_0 = x0.arena.length) (hr0_0 : rdS (Bor w0 []) w0 a0_0 c0_0 x0.arena) {a0_4 : Option Addr} {n0_4 c0_4 : Nat} (hn0_4 : n0_4 = x0.gc.grey.length) (hr0_4 : rdS (Bor w0 []) w0 a0_4 c0_4 x0.gc.grey) :
    Ret Tryz.prog 136 #[.agg #[.slice a0_0 n0_0 c0_0, .int .i64 x0.gc.phase, .int .i64 x0.gc.pos, .int .i64 x0.gc.round, .slice a0_4 n0_4 c0_4], .int .i64 x1] w0 (fun v w => ∃ ar0_0 cr0_0, ∃ ar0_4 cr0_4, v = .agg #[.slice ar0_0 r.arena.length cr0_0, .int .i64 r.gc.phase, .int .i64 r.gc.pos, .int .i64 r.gc.round, .slice ar0_4 r.gc.grey.length cr0_4] ∧ St w0 [] w [sl ar0_0 cr0_0 r.arena, sl ar0_4 cr0_4 r.gc.grey]) := by
  subst hn0_0 hn0_4
  unfold F_i_GcBorn at h
  refine Ret.fn Tryz.func136 fun e => ?_
  have hS1 := St.start w0
  refine go ?_
  refine LW.bo hS1 fun g1 w2 hS2 => ?_
  refine LW.al hS2 fun g3 w4 hS3 => ?_
  refine go ?_
  replace ⟨y5, hy5, h⟩ := obind h
  refine LW.cl (W_i_copyHeap hy5 rfl (hS3.rB hr0_0) rfl (hS3.rB hr0_4)) ?_
  rintro _ w10 ⟨a6, c7, a8, c9, rfl, hs⟩
  have hS4 := hS3.add hs
  refine LW.al hS4 fun g11 w12 hS5 => ?_
  refine LW.st hS5 0 fun w13 hS6 => ?_
  refine gs ?_
  obtain ⟨j14, hj14, h15⟩ := obind h
  refine CW.cut (fun e wb => En e [(1, .int .i64 x1), (2, .pointer (some ⟨g1, 0, none⟩)), (4, .pointer (some ⟨g3, 0, none⟩)), (5, .pointer (some ⟨g11, 0, none⟩)), (22, .bool j14)] ∧ St w0 [] wb [bx g11 43 [.slice a6 y5.arena.length c7, .int .i64 y5.gc.phase, .int .i64 y5.gc.pos, .int .i64 y5.gc.round, .slice a8 y5.gc.grey.length c9], sl a6 c7 y5.arena, sl a8 c9 y5.gc.grey, bx g3 43 [.slice none 0 0, .int .i64 0, .int .i64 0, .int .i64 0, .slice none 0 0], bx g1 43 [.slice a0_0 x0.arena.length c0_0, .int .i64 x0.gc.phase, .int .i64 x0.gc.pos, .int .i64 x0.gc.round, .slice a0_4 x0.gc.grey.length c0_4]]) ?_ ?_
  · have h := hj14
    refine go ?_
    replace ⟨y16, hy16, h⟩ := obind h
    refine LW.c0 (W_i_HeapOk hy16 rfl (hS6.rB hr0_0) rfl (hS6.rB hr0_4)) hS6 fun w17 hS7 => ?_
    refine go ?_
    rcases bcases y16 with hc18 | hc18
    · replace h := bcT h hc18
      refine go ?_
      replace ⟨y19, hy19, h⟩ := obind h
      refine go ?_
      refine LW.c0 (W_i_isSlot hy19) hS7 fun w20 hS8 => ?_
      refine go ?_
      rcases bcases y19 with hc21 | hc21
      · replace h := bcT h hc21
        refine go ?_
        replace ⟨y22, hy22, h⟩ := obind h
        obtain ⟨b25, o26, cs27, hae, hb30, hp23, hq24, hd28, hk29⟩ := hr0_0.idx hy22
        subst hae
        obtain ⟨a31, c32, a34, c35, a37, c38, rfl, hr33, hr36, hr39⟩ := hd28
        refine go ?_
        refine LW.u (Pur.ix Tryz.underlying40 sz85 rfl rfl hp23 hq24) rfl ?_
        refine go ?_
        refine LW.l (Ldr.old w0 ag3 rfl (hk29 1 _ rfl)) (hS8.same _ hb30.1 hb30.2) rfl ?_
        refine go ?_
        cases oi h
        exact ⟨⟨rfl, rfl, rfl, rfl, rfl, trivial⟩, hS8.pick [0, 1, 2, 3, 4] rfl rfl⟩
      replace h := bcF h hc21
      refine go ?_
      cases oi h
      exact ⟨⟨rfl, rfl, rfl, rfl, rfl, trivial⟩, hS8.pick [0, 1, 2, 3, 4] rfl rfl⟩
    replace h := bcF h hc18
    refine go ?_
    cases oi h
    exact ⟨⟨rfl, rfl, rfl, rfl, rfl, trivial⟩, hS7.pick [0, 1, 2, 3, 4] rfl rfl⟩
  rintro e w40 ⟨hE, hS9⟩
  obtain ⟨e, rfl⟩ := hE.out
  have h := h15
  refine gs ?_
  obtain ⟨j41, hj41, h42⟩ := obind h
  refine CW.cut (fun e wb => En e [(4, .pointer (some ⟨g3, 0, none⟩)), (5, .pointer (some ⟨g11, 0, none⟩))] ∧ St w0 [] wb [bx g11 43 [.slice a6 j41.length c7, .int .i64 y5.gc.phase, .int .i64 y5.gc.pos, .int .i64 y5.gc.round, .slice a8 y5.gc.grey.length c9], sl a6 c7 j41, sl a8 c9 y5.gc.grey, bx g3 43 [.slice none 0 0, .int .i64 0, .int .i64 0, .int .i64 0, .slice none 0 0]]) ?_ ?_
  · have h := hj41
    refine CW.cond rfl (fun hc43 => ?_) (fun hc43 => ?_)
    · replace h := bcT h hc43
      refine go ?_
      rcases bcases (x0.gc.phase == 0) with hc44 | hc44
      · replace h := bcT h hc44
        refine go ?_
        replace ⟨y45, hy45, h⟩ := obind h
        obtain ⟨b48, o49, hae, hp46, hq47⟩ := hS9.ownIdx (α := DObj) (i := 1) rfl hy45
        subst hae
        refine LW.u (Pur.ix Tryz.underlying40 sz85 rfl rfl hp46 hq47) rfl ?_
        refine go ?_
        replace ⟨y50, hy50, h⟩ := obind h
        refine LW.stE (M := []) (L := [bx g11 43 [.slice (some ⟨b48, o49, none⟩) y5.arena.length c7, .int .i64 y5.gc.phase, .int .i64 y5.gc.pos, .int .i64 y5.gc.round, .slice a8 y5.gc.grey.length c9], sl (some ⟨b48, o49, none⟩) c7 y5.arena, sl a8 c9 y5.gc.grey, bx g3 43 [.slice none 0 0, .int .i64 0, .int .i64 0, .int .i64 0, .slice none 0 0], bx g1 43 [.slice a0_0 x0.arena.length c0_0, .int .i64 x0.gc.phase, .int .i64 x0.gc.pos, .int .i64 x0.gc.round, .slice a0_4 x0.gc.grey.length c0_4]]) (z := y45) (z' := (DObj.mk y45.gen y45.kind y45.box y45.res y45.til y45.pages y45.wait y45.got y45.ran true y45.links y45.data y45.queue)) (o := 9) hS9 (i := 1) rfl hy45 ag4 rfl (by show _ = o49 + (x1 : Int).toNat * 13 + 9; omega) rfl rfl rfl rfl (leafF (fun w cs F hF => by obtain ⟨q0, r0, q1, r1, q2, r2, rfl, hH⟩ := hF; exact ⟨q0, r0, q1, r1, q2, r2, rfl, hH⟩)) ?_
        intro w51 hS10 hf
        rw [Option.some.inj hy50] at hS10
        refine go ?_
        rw [show y5.arena.length = y50.length from (len_set (Option.some.inj hy50))] at hS10
        cases oi h
        exact ⟨⟨rfl, rfl, trivial⟩, hS10.pick [0, 1, 2, 3] rfl rfl⟩
      replace h := bcF h hc44
      refine go ?_
      replace ⟨y52, hy52, h⟩ := obind h
      obtain ⟨b55, o56, hae, hp53, hq54⟩ := hS9.ownIdx (α := DObj) (i := 1) rfl hy52
      subst hae
      refine LW.u (Pur.ix Tryz.underlying40 sz85 rfl rfl hp53 hq54) rfl ?_
      refine go ?_
      replace ⟨y57, hy57, h⟩ := obind h
      refine LW.stE (M := []) (L := [bx g11 43 [.slice (some ⟨b55, o56, none⟩) y5.arena.length c7, .int .i64 y5.gc.phase, .int .i64 y5.gc.pos, .int .i64 y5.gc.round, .slice a8 y5.gc.grey.length c9], sl (some ⟨b55, o56, none⟩) c7 y5.arena, sl a8 c9 y5.gc.grey, bx g3 43 [.slice none 0 0, .int .i64 0, .int .i64 0, .int .i64 0, .slice none 0 0], bx g1 43 [.slice a0_0 x0.arena.length c0_0, .int .i64 x0.gc.phase, .int .i64 x0.gc.pos, .int .i64 x0.gc.round, .slice a0_4 x0.gc.grey.length c0_4]]) (z := y52) (z' := (DObj.mk y52.gen y52.kind y52.box y52.res y52.til y52.pages y52.wait y52.got y52.ran (decide (x1 ≥ x0.gc.pos)) y52.links y52.data y52.queue)) (o := 9) hS9 (i := 1) rfl hy52 ag4 rfl (by show _ = o56 + (x1 : Int).toNat * 13 + 9; omega) rfl rfl rfl rfl (leafF (fun w cs F hF => by obtain ⟨q0, r0, q1, r1, q2, r2, rfl, hH⟩ := hF; exact ⟨q0, r0, q1, r1, q2, r2, rfl, hH⟩)) ?_
      intro w58 hS11 hf
      rw [Option.some.inj hy57] at hS11
      refine go ?_
      rw [show y5.arena.length = y57.length from (len_set (Option.some.inj hy57))] at hS11
      cases oi h
      exact ⟨⟨rfl, rfl, trivial⟩, hS11.pick [0, 1, 2, 3] rfl rfl⟩
    replace h := bcF h hc43
    refine go ?_
    cases oi h
    exact ⟨⟨rfl, rfl, trivial⟩, hS9.pick [0, 1, 2, 3] rfl rfl⟩
  rintro e w59 ⟨hE, hS12⟩
  obtain ⟨e, rfl⟩ := hE.out
  have h := h42
  refine go ?_
  refine LW.st hS12 3 fun w60 hS13 => ?_
  refine go ?_
  cases h
  exact And.intro trivial ⟨_, Res.one (resOne.b hS13 3 rfl ag43 rfl rfl), a6, c7, a8, c9, rfl, hS13.pick [1, 2] rfl rfl⟩

theorem W_i_PartNew {w0 : World} {N : Nat} {x0 : DBoot} {r : DPart × Bool} (h : F_i_PartNew N x0 = some r) {a0_0 : Option Addr} {n0_0 c0_0 : Nat} (hn0_0 : n0_0 = x0.label.levels.length) (hr0_0 : rdS (Bor w0 []) w0 a0_0 c0_0 x0.label.levels) {a0_1 : Option Addr} {n0_1 c0_1 : Nat} (hn0_1 : n0_1 = x0.own.length) (hr0_1 : rdS (Bor w0 []) w0 a0_1 c0_1 x0.own) :
    Ret Tryz.prog 84 #[.agg #[.slice a0_0 n0_0 c0_0, .slice a0_1 n0_1 c0_1, .int .i64 x0.amt.pages, .int .i64 x0.amt.rent, .int .i64 x0.amt.cpu]] w0 (fun v w => ∃ ar0_0 cr0_0, ∃ ar0_1 cr0_1, ∃ ar0_2 cr0_2, ∃ ar0_3 cr0_3, ∃ ar0_7 cr0_7, ∃ ar0_8 cr0_8, v = .tuple #[.agg #[.slice ar0_0 r.1.label.levels.length cr0_0, .slice ar0_1 r.1.own.length cr0_1, .slice ar0_2 r.1.tree.length cr0_2, .slice ar0_3 r.1.heap.arena.length cr0_3, .int .i64 r.1.heap.gc.phase, .int .i64 r.1.heap.gc.pos, .int .i64 r.1.heap.gc.round, .slice ar0_7 r.1.heap.gc.grey.length cr0_7, .slice ar0_8 r.1.taps.length cr0_8, .int .i64 r.1.next, .int .i64 r.1.want, .int .i64 r.1.spent.pages, .int .i64 r.1.spent.rent, .int .i64 r.1.spent.cpu, .int .i64 r.1.press, .int .i64 r.1.lost], .bool r.2] ∧ St w0 [] w [sl ar0_0 cr0_0 r.1.label.levels, sl ar0_1 cr0_1 r.1.own, sl ar0_2 cr0_2 r.1.tree, sl ar0_3 cr0_3 r.1.heap.arena, sl ar0_7 cr0_7 r.1.heap.gc.grey, sl ar0_8 cr0_8 r.1.taps]) := by
  subst hn0_0 hn0_1
  unfold F_i_PartNew at h
  refine Ret.fn Tryz.func84 fun e => ?_
  have hS1 := St.start w0
  refine go ?_
  refine LW.bo hS1 fun g1 w2 hS2 => ?_
  refine LW.al hS2 fun g3 w4 hS3 => ?_
  refine go ?_
  replace ⟨y5, hy5, h⟩ := obind h
  refine LW.cl (W_i_TreeNew hy5) ?_
  rintro _ w8 ⟨a6, c7, rfl, hs⟩
  have hS4 := hS3.add hs
  refine gs ?_
  obtain ⟨j9, hj9, h10⟩ := obind h
  refine CW.cut (fun e wb => En e [(1, .pointer (some ⟨g1, 0, none⟩)), (2, .pointer (some ⟨g3, 0, none⟩)), (4, .slice a6 y5.1.length c7), (28, .bool j9)] ∧ St w0 [] wb [sl a6 c7 y5.1, bx g3 47 [.slice none 0 0, .slice none 0 0, .slice none 0 0, .slice none 0 0, .int .i64 0, .int .i64 0, .int .i64 0, .slice none 0 0, .slice none 0 0, .int .i64 0, .int .i64 0, .int .i64 0, .int .i64 0, .int .i64 0, .int .i64 0, .int .i64 0], bx g1 114 [.slice a0_0 x0.label.levels.length c0_0, .slice a0_1 x0.own.length c0_1, .int .i64 x0.amt.pages, .int .i64 x0.amt.rent, .int .i64 x0.amt.cpu]]) ?_ ?_
  · have h := hj9
    refine go ?_
    rcases bcases (!y5.2) with hc11 | hc11
    · replace h := bcT h hc11
      refine go ?_
      cases oi h
      exact ⟨⟨rfl, rfl, rfl, rfl, trivial⟩, hS4.pick [0, 1, 2] rfl rfl⟩
    replace h := bcF h hc11
    refine go ?_
    replace ⟨y12, hy12, h⟩ := obind h
    refine go ?_
    refine LW.c0 (W_i_LabelOk hy12 rfl (hS4.rB hr0_0)) hS4 fun w13 hS5 => ?_
    refine go ?_
    rcases bcases (!y12) with hc14 | hc14
    · replace h := bcT h hc14
      refine go ?_
      cases oi h
      exact ⟨⟨rfl, rfl, rfl, rfl, trivial⟩, hS5.pick [0, 1, 2] rfl rfl⟩
    replace h := bcF h hc14
    refine go ?_
    replace ⟨y15, hy15, h⟩ := obind h
    refine go ?_
    refine LW.c0 (W_i_OwnOk hy15 rfl (hS5.rB hr0_1)) hS5 fun w16 hS6 => ?_
    refine go ?_
    cases oi h
    exact ⟨⟨rfl, rfl, rfl, rfl, trivial⟩, hS6.pick [0, 1, 2] rfl rfl⟩
  rintro e w17 ⟨hE, hS7⟩
  obtain ⟨e, rfl⟩ := hE.out
  have h := h10
  refine go ?_
  refine CW.cond rfl (fun hc18 => ?_) (fun hc18 => ?_)
  · replace h := bcT h hc18
    refine go ?_
    refine LW.u (Pur.build (vs := []) (cs := #[.slice none 0 0, .slice none 0 0, .slice none 0 0, .slice none 0 0, .int .i64 0, .int .i64 0, .int .i64 0, .slice none 0 0, .slice none 0 0, .int .i64 0, .int .i64 0, .int .i64 0, .int .i64 0, .int .i64 0, .int .i64 0, .int .i64 0]) rfl (by kernel_rfl)) rfl ?_
    refine LW.st hS7 1 fun w19 hS8 => ?_
    refine go ?_
    cases h
    have hS9 := hS8.nil (α := Int)
    have hS10 := hS9.nil (α := Int)
    have hS11 := hS10.nil (α := DRes)
    have hS12 := hS11.nil (α := DObj)
    have hS13 := hS12.nil (α := Int)
    have hS14 := hS13.nil (α := DTap)
    exact And.intro trivial ⟨_, Res.two (resOne.b hS14 7 rfl ag47 rfl rfl) (resOne.t rfl), none, 0, none, 0, none, 0, none, 0, none, 0, none, 0, rfl, hS14.pick [5, 4, 3, 2, 1, 0] rfl rfl⟩
  replace h := bcF h hc18
  refine go ?_
  replace ⟨y20, hy20, h⟩ := obind h
  refine LW.cl (W_i_ArenaNew hy20) ?_
  rintro _ w23 ⟨a21, c22, rfl, hs⟩
  have hS15 := hS7.add hs
  refine LW.bsl (α := Int) (vs := [(0, .int .i64 (-1)), (1, .int .i64 (-1))]) (cs := #[.int .i64 (-1), .int .i64 (-1)]) (l := ([-1, -1] : List Int)) rfl (by kernel_rfl) rfl rfl rfl (fun w => ⟨[.int .i64 (-1)], [.int .i64 (-1)], [], [], rfl, rfl, ⟨rfl, rfl⟩, ⟨[.int .i64 (-1)], [], [], [], rfl, rfl, ⟨rfl, rfl⟩, rfl⟩⟩) hS15 rfl ?_
  intro a24 c25 w26 hS16 hf
  refine LW.u (Pur.build (vs := [(1, .int .i64 4), (4, .int .i64 1000000), (10, .slice a24 (([-1, -1] : List Int).length) c25)]) (cs := #[.int .i64 0, .int .i64 4, .int .i64 0, .int .i64 0, .int .i64 1000000, .int .i64 0, .int .i64 0, .int .i64 0, .int .i64 0, .bool false, .slice a24 (([-1, -1] : List Int).length) c25, .slice none 0 0, .slice none 0 0]) rfl (by kernel_rfl)) rfl ?_
  replace ⟨y27, hy27, h⟩ := obind h
  refine LW.cl (W_i_ArenaPut hy27 rfl (hS16.rI 1 rfl) rfl (hS16.rI 0 rfl) rfl (show rdS (α := Int) (Bor w26 []) w26 none 0 [] from rdS.nil _ _ _ _ (Nat.zero_le _)) rfl (show rdS (α := DMsg) (Bor w26 []) w26 none 0 [] from rdS.nil _ _ _ _ (Nat.zero_le _))) ?_
  rintro _ w30 ⟨a28, c29, rfl, hs⟩
  have hS17 := hS16.add hs
  refine gs ?_
  obtain ⟨j31, hj31, h32⟩ := obind h
  refine CW.cut (fun e wb => ∃ (j31g8 : Nat), ∃ (j31a1 : Option Addr), ∃ (j31c1 : Nat), ∃ (j31a3 : Option Addr), ∃ (j31c3 : Nat), ∃ (j31a5 : Option Addr), ∃ (j31c5 : Nat), ∃ (j31a7 : Option Addr), ∃ (j31c7 : Nat), ∃ (j31a9 : Option Addr), ∃ (j31c9 : Nat), ∃ (j31a11 : Option Addr), ∃ (j31c11 : Nat), En e [(2, .pointer (some ⟨g3, 0, none⟩)), (6, .slice a28 y27.1.length c29), (7, .int .i64 y27.2), (8, .pointer (some ⟨j31g8, 0, none⟩))] ∧ St w0 [] wb [sl a28 c29 y27.1, bx g3 47 [.slice none 0 0, .slice none 0 0, .slice none 0 0, .slice none 0 0, .int .i64 0, .int .i64 0, .int .i64 0, .slice none 0 0, .slice none 0 0, .int .i64 0, .int .i64 0, .int .i64 0, .int .i64 0, .int .i64 0, .int .i64 0, .int .i64 0], bx j31g8 47 [.slice j31a1 j31.1.length j31c1, .slice j31a3 j31.2.1.length j31c3, .slice j31a5 j31.2.2.1.length j31c5, .slice j31a7 j31.2.2.2.1.length j31c7, .int .i64 0, .int .i64 0, .int .i64 0, .slice j31a9 j31.2.2.2.2.1.length j31c9, .slice j31a11 j31.2.2.2.2.2.length j31c11, .int .i64 0, .int .i64 0, .int .i64 0, .int .i64 0, .int .i64 0, .int .i64 0, .int .i64 0], sl j31a1 j31c1 j31.1, sl j31a3 j31c3 j31.2.1, sl j31a5 j31c5 j31.2.2.1, sl j31a7 j31c7 j31.2.2.2.1, sl j31a9 j31c9 j31.2.2.2.2.1, sl j31a11 j31c11 j31.2.2.2.2.2]) ?_ ?_
  · have h := hj31
    refine CW.draw (by kernel_rfl) ?_
    have hS18 := hS17.drew
    refine AW.u (i := 0) rfl (by kernel_rfl) rfl rfl (Pur.fa fo114_0 rfl) ?_
    refine AW.take (i := 1) rfl (by kernel_rfl) rfl rfl (Ldr.boxN (bt := 114) (fr := (0, 0)) (cs := [.slice a0_0 x0.label.levels.length c0_0, .slice a0_1 x0.own.length c0_1, .int .i64 x0.amt.pages, .int .i64 x0.amt.rent, .int .i64 x0.amt.cpu]) ag38 rfl rfl) (St.cell (h := hS18) (i := 5) rfl) ?_
    refine AW.u (i := 3) rfl (by kernel_rfl) rfl rfl (Pur.fa fo114_1 rfl) ?_
    refine AW.take (i := 4) rfl (by kernel_rfl) rfl rfl (Ldr.box (bt := 114) (fr := (0, 0)) (cs := [.slice a0_0 x0.label.levels.length c0_0, .slice a0_1 x0.own.length c0_1, .int .i64 x0.amt.pages, .int .i64 x0.amt.rent, .int .i64 x0.amt.cpu]) ag22 rfl rfl) (St.cell (h := hS18) (i := 5) rfl) ?_
    refine AW.u (i := 6) rfl (by kernel_rfl) rfl rfl (Pur.p rfl) ?_
    replace ⟨y33, hy33, h⟩ := obind h
    refine AW.all (rs := [2, 8]) (by kernel_rfl) (by simp) ⟨?_, ?_, trivial⟩
    · have q := W_i_copyLabel (w0 := w30.drew) hy33 rfl (hS18.rB hr0_0)
      refine ⟨_, rfl, ?_⟩
      refine LW.call pl134 rfl rfl ?_
      refine Ret.mono q ?_
      rintro _ w44 ⟨a42, c43, rfl, hs⟩
      have hS19 := hS18.add hs
      refine LW.nil ⟨rfl, (.c (St.cell (h := hS19) (i := 6) rfl) (.w (by kernel_rfl) Kept.n)), ?_⟩
      replace ⟨y45, hy45, h⟩ := obind h
      refine AW.all (rs := [5, 8]) (by kernel_rfl) (by simp) ⟨?_, ?_, trivial⟩
      · have q := W_i_copyInts (w0 := w44) hy45 rfl (hS19.rB hr0_1)
        refine ⟨_, rfl, ?_⟩
        refine LW.call pl135 rfl rfl ?_
        refine Ret.mono q ?_
        rintro _ w56 ⟨a54, c55, rfl, hs⟩
        have hS20 := hS19.add hs
        refine LW.nil ⟨rfl, (.w (by kernel_rfl) (.c (St.cell (h := hS20) (i := 7) rfl) Kept.n)), ?_⟩
        refine AW.u (i := 7) rfl (by kernel_rfl) rfl rfl (Pur.build (vs := [(0, .agg #[.slice a42 y33.levels.length c43]), (1, .slice a54 y45.length c55), (2, .slice a6 y5.1.length c7)]) (cs := #[.slice a42 y33.levels.length c43, .slice a54 y45.length c55, .slice a6 y5.1.length c7, .slice none 0 0, .int .i64 0, .int .i64 0, .int .i64 0, .slice none 0 0, .slice none 0 0, .int .i64 0, .int .i64 0, .int .i64 0, .int .i64 0, .int .i64 0, .int .i64 0, .int .i64 0]) rfl (by kernel_rfl)) ?_
        refine AW.one (i := 8) (by kernel_rfl) ?_
        refine ⟨_, rfl, ?_⟩
        refine LW.al hS20 fun g57 w58 hS21 => ?_
        refine LW.nil ⟨rfl, (.c (St.cell (h := hS21) (i := 8) rfl) (.c (St.cell (h := hS21) (i := 8) rfl) Kept.n)), ?_⟩
        refine AW.one (i := 9) (by kernel_rfl) ?_
        refine ⟨_, rfl, ?_⟩
        refine LW.st hS21 0 fun w59 hS22 => ?_
        refine LW.nil ⟨rfl, (.w (by kernel_rfl) (.w (by kernel_rfl) Kept.n)), ?_⟩
        refine AW.done (by kernel_rfl) ?_
        have hS23 := hS22.nil (α := DObj)
        have hS24 := hS23.nil (α := Int)
        have hS25 := hS24.nil (α := DTap)
        cases oi h
        exact ⟨g57, a42, c43, a54, c55, a6, c7, none, 0, none, 0, none, 0, ⟨rfl, rfl, rfl, rfl, trivial⟩, hS25.pick [6, 10, 3, 5, 4, 9, 2, 1, 0] rfl rfl⟩
      refine ⟨_, rfl, ?_⟩
      refine LW.al hS19 fun g60 w61 hS26 => ?_
      refine LW.nil ⟨rfl, (.c (St.cell (h := hS26) (i := 7) rfl) (.c (St.cell (h := hS26) (i := 7) rfl) Kept.n)), ?_⟩
      have q := W_i_copyInts (w0 := w61) hy45 rfl (hS26.rB hr0_1)
      refine AW.one (i := 5) (by kernel_rfl) ?_
      refine ⟨_, rfl, ?_⟩
      refine LW.call pl135 rfl rfl ?_
      refine Ret.mono q ?_
      rintro _ w64 ⟨a62, c63, rfl, hs⟩
      have hS27 := hS26.add hs
      refine LW.nil ⟨rfl, (.w (by kernel_rfl) (.c (St.cell (h := hS27) (i := 8) rfl) Kept.n)), ?_⟩
      refine AW.u (i := 7) rfl (by kernel_rfl) rfl rfl (Pur.build (vs := [(0, .agg #[.slice a42 y33.levels.length c43]), (1, .slice a62 y45.length c63), (2, .slice a6 y5.1.length c7)]) (cs := #[.slice a42 y33.levels.length c43, .slice a62 y45.length c63, .slice a6 y5.1.length c7, .slice none 0 0, .int .i64 0, .int .i64 0, .int .i64 0, .slice none 0 0, .slice none 0 0, .int .i64 0, .int .i64 0, .int .i64 0, .int .i64 0, .int .i64 0, .int .i64 0, .int .i64 0]) rfl (by kernel_rfl)) ?_
      refine AW.one (i := 9) (by kernel_rfl) ?_
      refine ⟨_, rfl, ?_⟩
      refine LW.st hS27 1 fun w65 hS28 => ?_
      refine LW.nil ⟨rfl, (.w (by kernel_rfl) (.w (by kernel_rfl) Kept.n)), ?_⟩
      refine AW.done (by kernel_rfl) ?_
      have hS29 := hS28.nil (α := DObj)
      have hS30 := hS29.nil (α := Int)
      have hS31 := hS30.nil (α := DTap)
      cases oi h
      exact ⟨g60, a42, c43, a62, c63, a6, c7, none, 0, none, 0, none, 0, ⟨rfl, rfl, rfl, rfl, trivial⟩, hS31.pick [6, 10, 4, 5, 3, 9, 2, 1, 0] rfl rfl⟩
    refine ⟨_, rfl, ?_⟩
    refine LW.al hS18 fun g66 w67 hS32 => ?_
    refine LW.nil ⟨rfl, (.c (St.cell (h := hS32) (i := 6) rfl) (.c (St.cell (h := hS32) (i := 6) rfl) Kept.n)), ?_⟩
    have q := W_i_copyLabel (w0 := w67) hy33 rfl (hS32.rB hr0_0)
    refine AW.one (i := 2) (by kernel_rfl) ?_
    refine ⟨_, rfl, ?_⟩
    refine LW.call pl134 rfl rfl ?_
    refine Ret.mono q ?_
    rintro _ w70 ⟨a68, c69, rfl, hs⟩
    have hS33 := hS32.add hs
    refine LW.nil ⟨rfl, (.c (St.cell (h := hS33) (i := 7) rfl) (.w (by kernel_rfl) Kept.n)), ?_⟩
    replace ⟨y71, hy71, h⟩ := obind h
    have q := W_i_copyInts (w0 := w70) hy71 rfl (hS33.rB hr0_1)
    refine AW.one (i := 5) (by kernel_rfl) ?_
    refine ⟨_, rfl, ?_⟩
    refine LW.call pl135 rfl rfl ?_
    refine Ret.mono q ?_
    rintro _ w74 ⟨a72, c73, rfl, hs⟩
    have hS34 := hS33.add hs
    refine LW.nil ⟨rfl, (.w (by kernel_rfl) (.c (St.cell (h := hS34) (i := 8) rfl) Kept.n)), ?_⟩
    refine AW.u (i := 7) rfl (by kernel_rfl) rfl rfl (Pur.build (vs := [(0, .agg #[.slice a68 y33.levels.length c69]), (1, .slice a72 y71.length c73), (2, .slice a6 y5.1.length c7)]) (cs := #[.slice a68 y33.levels.length c69, .slice a72 y71.length c73, .slice a6 y5.1.length c7, .slice none 0 0, .int .i64 0, .int .i64 0, .int .i64 0, .slice none 0 0, .slice none 0 0, .int .i64 0, .int .i64 0, .int .i64 0, .int .i64 0, .int .i64 0, .int .i64 0, .int .i64 0]) rfl (by kernel_rfl)) ?_
    refine AW.one (i := 9) (by kernel_rfl) ?_
    refine ⟨_, rfl, ?_⟩
    refine LW.st hS34 2 fun w75 hS35 => ?_
    refine LW.nil ⟨rfl, (.w (by kernel_rfl) (.w (by kernel_rfl) Kept.n)), ?_⟩
    refine AW.done (by kernel_rfl) ?_
    have hS36 := hS35.nil (α := DObj)
    have hS37 := hS36.nil (α := Int)
    have hS38 := hS37.nil (α := DTap)
    cases oi h
    exact ⟨g66, a68, c69, a72, c73, a6, c7, none, 0, none, 0, none, 0, ⟨rfl, rfl, rfl, rfl, trivial⟩, hS38.pick [6, 10, 5, 4, 3, 9, 2, 1, 0] rfl rfl⟩
  rintro e w76 ⟨j31g8, j31a1, j31c1, j31a3, j31c3, j31a5, j31c5, j31a7, j31c7, j31a9, j31c9, j31a11, j31c11, hE, hS39⟩
  obtain ⟨e, rfl⟩ := hE.out
  have h := h32
  refine go ?_
  replace ⟨y77, hy77, h⟩ := obind h
  refine LW.cl (W_i_GcNew hy77) ?_
  rintro _ w80 ⟨a78, c79, rfl, hs⟩
  have hS40 := hS39.add hs
  refine LW.u (Pur.build (vs := [(0, .slice a28 y27.1.length c29), (1, .agg #[.int .i64 y77.phase, .int .i64 y77.pos, .int .i64 y77.round, .slice a78 y77.grey.length c79])]) (cs := #[.slice a28 y27.1.length c29, .int .i64 y77.phase, .int .i64 y77.pos, .int .i64 y77.round, .slice a78 y77.grey.length c79]) rfl (by kernel_rfl)) rfl ?_
  refine go ?_
  replace ⟨y81, hy81, h⟩ := obind h
  refine LW.cl (W_i_GcBorn hy81 rfl (hS40.rI 1 rfl) rfl (hS40.rI 0 rfl)) ?_
  rintro _ w86 ⟨a82, c83, a84, c85, rfl, hs⟩
  have hS41 := hS40.add hs
  refine go ?_
  refine LW.fl [2, 8, 49, 50] fun e => ?_
  refine LW.st hS41 5 fun w87 hS42 => ?_
  refine go ?_
  refine LW.st hS42 4 fun w88 hS43 => ?_
  refine go ?_
  cases h
  exact And.intro trivial ⟨_, Res.two (resOne.b hS43 4 rfl ag47 rfl rfl) (resOne.t rfl), j31a1, j31c1, j31a3, j31c3, j31a5, j31c5, a82, c83, a84, c85, j31a11, j31c11, rfl, hS43.pick [6, 7, 8, 0, 1, 11] rfl rfl⟩

end Go.Kx
