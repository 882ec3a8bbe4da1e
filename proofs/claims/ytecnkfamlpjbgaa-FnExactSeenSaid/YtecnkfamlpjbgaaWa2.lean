/- Each call returns what the plain function says. Printed by drive.py. -/
import Derived.Test.YtecnkfamlpjbgaaFa
import Derived.Test.YtecnkfamlpjbgaaPu
import Derived.Test.YtecnkfamlpjbgaaWa1
namespace Go.Kx
open Go Go.RowKit Go.Proofs
set_option maxRecDepth 10000
set_option maxHeartbeats 2000000
set_option linter.unusedVariables false
set_option linter.unusedSimpArgs false
theorem W_l_szEntryS {w0 : World} {N : Nat} {x0 : List DEntry} {x1 : Int} {r : Int} (h : F_l_szEntryS N x0 x1 = some r) {a0_0 : Option Addr} {n0_0 c0_0 : Nat} (hn0_0 : n0_0 = x0.length) (hr0_0 : rdS (Bor w0 []) w0 a0_0 c0_0 x0) :
    Ret Try.prog 16 #[.slice a0_0 n0_0 c0_0, .int .i64 x1] w0 (fun v w => v = .int .i64 r ∧ St w0 [] w []) := by
  subst hn0_0
  unfold F_l_szEntryS at h
  refine Ret.of Try.func16 rfl rfl rfl ?_
  have hS1 := St.start w0
  refine CW.seq ?_
  refine CW.region ?_
  refine LW.p rfl rfl ?_
  refine LW.nil ?_
  show CW _ _ _ _ _ _
  refine CW.seq ?_
  refine CW.region ?_
  iterate 2 refine LW.p rfl rfl ?_
  refine LW.u (Pur.len Try.underlying29 rfl) rfl ?_
  iterate 2 refine LW.p rfl rfl ?_
  refine LW.nil ?_
  show CW _ _ _ _ _ _
  refine CW.seq ?_
  refine CW.seq ?_
  refine CW.region ?_
  iterate 2 refine LW.p rfl rfl ?_
  refine LW.nil ?_
  show CW _ _ _ _ _ _
  refine CW.cond rfl (fun hc1 => ?_) (fun hc1 => ?_)
  · replace h := bcT h hc1
    refine CW.seq ?_
    refine CW.region ?_
    refine LW.p rfl rfl ?_
    refine LW.nil ?_
    show CW _ _ _ _ _ _
    refine CW.ret ?_
    cases h
    exact And.intro trivial ⟨_, Res.one (resOne.t rfl), rfl, hS1.pick [] rfl rfl⟩
  replace h := bcF h hc1
  refine CW.skip ?_
  show CW _ _ _ _ _ _
  refine CW.seq ?_
  refine CW.region ?_
  iterate 2 refine LW.p rfl rfl ?_
  refine LW.nil ?_
  show CW _ _ _ _ _ _
  refine CW.ret ?_
  cases h
  exact And.intro trivial ⟨_, Res.one (resOne.t rfl), rfl, hS1.pick [] rfl rfl⟩

theorem W_l_toCall {w0 : World} {N : Nat} {x0 : DCall} {r : DCall} (h : F_l_toCall N x0 = some r) :
    Ret Try.prog 52 #[.agg #[.int .i64 x0.kind, .int .i64 x0.a, .int .i64 x0.b, .int .i64 x0.c, .int .i64 x0.d, .int .i64 x0.e]] w0 (fun v w => v = .agg #[.int .i64 r.kind, .int .i64 r.a, .int .i64 r.b, .int .i64 r.c, .int .i64 r.d, .int .i64 r.e] ∧ St w0 [] w []) := by
  unfold F_l_toCall at h
  refine Ret.of Try.func52 rfl rfl rfl ?_
  have hS1 := St.start w0
  refine CW.seq ?_
  refine CW.region ?_
  refine LW.box (cs := [.int .i64 x0.kind, .int .i64 x0.a, .int .i64 x0.b, .int .i64 x0.c, .int .i64 x0.d, .int .i64 x0.e]) rfl hS1 rfl ?_
  intro g1 w2 hS2 hf
  refine LW.alloc zv52 hS2 rfl ?_
  intro g3 w4 hS3 hf
  refine LW.nil ?_
  show CW _ _ _ _ _ _
  refine CW.seq ?_
  refine CW.region ?_
  refine LW.alloc zv52 hS3 rfl ?_
  intro g5 w6 hS4 hf
  refine LW.nil ?_
  show CW _ _ _ _ _ _
  refine CW.seq ?_
  refine CW.region ?_
  refine LW.u (Pur.fa fo44_0 rfl) rfl ?_
  refine LW.ldb hS4 2 rfl ag3 rfl rfl rfl ?_
  refine LW.u (Pur.fa fo52_0 rfl) rfl ?_
  refine LW.stb hS4 0 rfl ag3 rfl rfl rfl rfl rfl ?_
  intro w7 hS5 hf
  refine LW.nil ?_
  show CW _ _ _ _ _ _
  refine CW.seq ?_
  refine CW.region ?_
  refine LW.u (Pur.fa fo44_1 rfl) rfl ?_
  refine LW.ldb hS5 2 rfl ag3 rfl rfl rfl ?_
  refine LW.u (Pur.fa fo52_1 rfl) rfl ?_
  refine LW.stb hS5 0 rfl ag3 rfl rfl rfl rfl rfl ?_
  intro w8 hS6 hf
  refine LW.nil ?_
  show CW _ _ _ _ _ _
  refine CW.seq ?_
  refine CW.region ?_
  refine LW.u (Pur.fa fo44_2 rfl) rfl ?_
  refine LW.ldb hS6 2 rfl ag3 rfl rfl rfl ?_
  refine LW.u (Pur.fa fo52_2 rfl) rfl ?_
  refine LW.stb hS6 0 rfl ag3 rfl rfl rfl rfl rfl ?_
  intro w9 hS7 hf
  refine LW.nil ?_
  show CW _ _ _ _ _ _
  refine CW.fresh (l := [(1, .pointer (some ⟨g1, 0, none⟩)), (2, .pointer (some ⟨g3, 0, none⟩)), (3, .pointer (some ⟨g5, 0, none⟩))]) ⟨rfl, rfl, rfl, trivial⟩ (fun e => ?_)
  refine CW.seq ?_
  refine CW.region ?_
  refine LW.u (Pur.fa fo44_3 rfl) rfl ?_
  refine LW.ldb hS7 2 rfl ag3 rfl rfl rfl ?_
  refine LW.u (Pur.fa fo52_3 rfl) rfl ?_
  refine LW.stb hS7 0 rfl ag3 rfl rfl rfl rfl rfl ?_
  intro w10 hS8 hf
  refine LW.nil ?_
  show CW _ _ _ _ _ _
  refine CW.seq ?_
  refine CW.region ?_
  refine LW.u (Pur.fa fo44_4 rfl) rfl ?_
  refine LW.ldb hS8 2 rfl ag3 rfl rfl rfl ?_
  refine LW.u (Pur.fa fo52_4 rfl) rfl ?_
  refine LW.stb hS8 0 rfl ag3 rfl rfl rfl rfl rfl ?_
  intro w11 hS9 hf
  refine LW.nil ?_
  show CW _ _ _ _ _ _
  refine CW.seq ?_
  refine CW.region ?_
  refine LW.u (Pur.fa fo44_5 rfl) rfl ?_
  refine LW.ldb hS9 2 rfl ag3 rfl rfl rfl ?_
  refine LW.u (Pur.fa fo52_5 rfl) rfl ?_
  refine LW.stb hS9 0 rfl ag3 rfl rfl rfl rfl rfl ?_
  intro w12 hS10 hf
  refine LW.nil ?_
  show CW _ _ _ _ _ _
  refine CW.seq ?_
  refine CW.region ?_
  refine LW.ldbN hS10 0 rfl ag52 rfl rfl rfl ?_
  refine LW.stb hS10 1 rfl ag52 rfl rfl rfl rfl rfl ?_
  intro w13 hS11 hf
  refine LW.nil ?_
  show CW _ _ _ _ _ _
  refine CW.fresh (l := [(2, .pointer (some ⟨g3, 0, none⟩))]) ⟨rfl, trivial⟩ (fun e => ?_)
  refine CW.ret ?_
  cases h
  exact And.intro trivial ⟨_, Res.one (resOne.b hS11 1 rfl ag52 rfl rfl), rfl, hS11.pick [] rfl rfl⟩

theorem W_l_toEntry {w0 : World} {N : Nat} {x0 : DEntry} {r : DEntry} (h : F_l_toEntry N x0 = some r) :
    Ret Try.prog 28 #[.agg #[.int .i64 x0.kind, .int .i64 x0.part, .int .i64 x0.thread, .int .i64 x0.call.kind, .int .i64 x0.call.a, .int .i64 x0.call.b, .int .i64 x0.call.c, .int .i64 x0.call.d, .int .i64 x0.call.e]] w0 (fun v w => v = .agg #[.int .i64 r.kind, .int .i64 r.part, .int .i64 r.thread, .int .i64 r.call.kind, .int .i64 r.call.a, .int .i64 r.call.b, .int .i64 r.call.c, .int .i64 r.call.d, .int .i64 r.call.e] ∧ St w0 [] w []) := by
  unfold F_l_toEntry at h
  refine Ret.of Try.func28 rfl rfl rfl ?_
  have hS1 := St.start w0
  refine CW.seq ?_
  refine CW.region ?_
  refine LW.box (cs := [.int .i64 x0.kind, .int .i64 x0.part, .int .i64 x0.thread, .int .i64 x0.call.kind, .int .i64 x0.call.a, .int .i64 x0.call.b, .int .i64 x0.call.c, .int .i64 x0.call.d, .int .i64 x0.call.e]) rfl hS1 rfl ?_
  intro g1 w2 hS2 hf
  refine LW.alloc zv54 hS2 rfl ?_
  intro g3 w4 hS3 hf
  refine LW.nil ?_
  show CW _ _ _ _ _ _
  refine CW.seq ?_
  refine CW.region ?_
  refine LW.alloc zv54 hS3 rfl ?_
  intro g5 w6 hS4 hf
  refine LW.nil ?_
  show CW _ _ _ _ _ _
  refine CW.seq ?_
  refine CW.region ?_
  refine LW.u (Pur.fa fo46_0 rfl) rfl ?_
  refine LW.ldb hS4 2 rfl ag3 rfl rfl rfl ?_
  refine LW.u (Pur.fa fo54_0 rfl) rfl ?_
  refine LW.stb hS4 0 rfl ag3 rfl rfl rfl rfl rfl ?_
  intro w7 hS5 hf
  refine LW.nil ?_
  show CW _ _ _ _ _ _
  refine CW.seq ?_
  refine CW.region ?_
  refine LW.u (Pur.fa fo46_1 rfl) rfl ?_
  refine LW.ldb hS5 2 rfl ag3 rfl rfl rfl ?_
  refine LW.u (Pur.fa fo54_1 rfl) rfl ?_
  refine LW.stb hS5 0 rfl ag3 rfl rfl rfl rfl rfl ?_
  intro w8 hS6 hf
  refine LW.nil ?_
  show CW _ _ _ _ _ _
  refine CW.seq ?_
  refine CW.region ?_
  refine LW.u (Pur.fa fo46_2 rfl) rfl ?_
  refine LW.ldb hS6 2 rfl ag3 rfl rfl rfl ?_
  refine LW.u (Pur.fa fo54_2 rfl) rfl ?_
  refine LW.stb hS6 0 rfl ag3 rfl rfl rfl rfl rfl ?_
  intro w9 hS7 hf
  refine LW.nil ?_
  show CW _ _ _ _ _ _
  refine CW.fresh (l := [(1, .pointer (some ⟨g1, 0, none⟩)), (2, .pointer (some ⟨g3, 0, none⟩)), (3, .pointer (some ⟨g5, 0, none⟩))]) ⟨rfl, rfl, rfl, trivial⟩ (fun e => ?_)
  refine CW.seq ?_
  refine CW.region ?_
  refine LW.u (Pur.fa fo46_3 rfl) rfl ?_
  refine LW.ldbN hS7 2 rfl ag44 rfl rfl rfl ?_
  replace h := obind h
  obtain ⟨y10, hy10, h⟩ := h
  have q := W_l_toCall (w0 := w9) hy10
  refine LW.call pl52 rfl rfl ?_
  refine Ret.mono q ?_
  rintro _ w11 ⟨rfl, hs⟩
  have hS8 := hS7.add hs
  refine LW.u (Pur.fa fo54_3 rfl) rfl ?_
  refine LW.stb hS8 0 rfl ag52 rfl rfl rfl rfl rfl ?_
  intro w12 hS9 hf
  refine LW.nil ?_
  show CW _ _ _ _ _ _
  refine CW.seq ?_
  refine CW.region ?_
  refine LW.ldbN hS9 0 rfl ag54 rfl rfl rfl ?_
  refine LW.stb hS9 1 rfl ag54 rfl rfl rfl rfl rfl ?_
  intro w13 hS10 hf
  refine LW.nil ?_
  show CW _ _ _ _ _ _
  refine CW.ret ?_
  cases h
  exact And.intro trivial ⟨_, Res.one (resOne.b hS10 1 rfl ag54 rfl rfl), rfl, hS10.pick [] rfl rfl⟩

theorem W_l_toEntryS {w0 : World} {N : Nat} {x0 : List DEntry} {r : (List DEntry)} (h : F_l_toEntryS N x0 = some r) {a0_0 : Option Addr} {n0_0 c0_0 : Nat} (hn0_0 : n0_0 = x0.length) (hr0_0 : rdS (Bor w0 []) w0 a0_0 c0_0 x0) :
    Ret Try.prog 18 #[.slice a0_0 n0_0 c0_0] w0 (fun v w => ∃ ar0 cr0, v = .slice ar0 r.length cr0 ∧ St w0 [] w [sl ar0 cr0 r]) := by
  subst hn0_0
  unfold F_l_toEntryS at h
  refine Ret.of Try.func18 rfl rfl rfl ?_
  have hS1 := St.start w0
  refine CW.seq ?_
  refine CW.region ?_
  refine LW.p rfl rfl ?_
  refine LW.nil ?_
  show CW _ _ _ _ _ _
  refine CW.seq ?_
  refine CW.region ?_
  refine LW.p rfl rfl ?_
  refine LW.u (Pur.len Try.underlying29 rfl) rfl ?_
  replace h := obind h
  obtain ⟨y1, hy1, h⟩ := h
  refine LW.mk sT32 rfl rfl hy1 hS1 rfl ?_
  intro a2 c3 w4 hS2 hf
  refine LW.p rfl rfl ?_
  refine LW.nil ?_
  show CW _ _ _ _ _ _
  refine CW.seq ?_
  refine CW.seq ?_
  refine CW.region ?_
  refine LW.p rfl rfl ?_
  refine LW.nil ?_
  show CW _ _ _ _ _ _
  refine CW.block ?_
  obtain ⟨o25, ho25, h26⟩ := obind h
  refine CW.mono (CW.iter (σ := (List DEntry) × Int) (ρ := (List DEntry) × Int) (fun s5 e w => En e [(0, .slice a0_0 x0.length c0_0), (3, .slice a2 s5.1.length c3), (4, .int .i64 s5.2)] ∧ St w0 [] w [sl a2 c3 s5.1]) (fun s5 x e w => x = .exit 0 ∧ En e [(3, .slice a2 s5.1.length c3)] ∧ St w0 [] w [sl a2 c3 s5.1]) ?_ N (y1, 0) _ _ _ ⟨⟨rfl, rfl, rfl, trivial⟩, hS2.pick [0] rfl rfl⟩ ho25) ?_
  · intro s5 e w o hM h
    obtain ⟨hE, hS3⟩ := hM
    obtain ⟨e, rfl⟩ := hE.out
    refine CW.seq ?_
    refine CW.seq ?_
    refine CW.region ?_
    iterate 2 refine LW.p rfl rfl ?_
    refine LW.u (Pur.len Try.underlying29 rfl) rfl ?_
    refine LW.p rfl rfl ?_
    refine LW.nil ?_
    show CW _ _ _ _ _ _
    refine CW.cond rfl (fun hc6 => ?_) (fun hc6 => ?_)
    · replace h := bcT h hc6
      refine CW.skip ?_
      show CW _ _ _ _ _ _
      refine CW.seq ?_
      refine CW.block ?_
      refine CW.region ?_
      iterate 4 refine LW.p rfl rfl ?_
      replace h := obind h
      obtain ⟨y7, hy7, h⟩ := h
      obtain ⟨b10, o11, cs12, hae, hb15, hp8, hq9, hd13, hk14⟩ := hr0_0.idx hy7
      subst hae
      obtain rfl := hd13
      refine LW.u (Pur.ix Try.underlying29 sz46 rfl rfl hp8 hq9) rfl ?_
      refine LW.l (Ldr.oldN w0 ag46 rfl rfl (fun j u hu => hk14 j u hu)) (hS3.same _ hb15.1 hb15.2) rfl ?_
      replace h := obind h
      obtain ⟨y16, hy16, h⟩ := h
      have q := W_l_toEntry (w0 := w) hy16
      refine LW.call pl28 rfl rfl ?_
      refine Ret.mono q ?_
      rintro _ w17 ⟨rfl, hs⟩
      have hS4 := hS3.add hs
      replace h := obind h
      obtain ⟨y18, hy18, h⟩ := h
      obtain ⟨b21, o22, hae, hp19, hq20⟩ := hS4.ownIdx (α := DEntry) (i := 0) rfl hy18
      subst hae
      refine LW.u (Pur.ix Try.underlying32 sz54 rfl rfl hp19 hq20) rfl ?_
      replace h := obind h
      obtain ⟨y23, hy23, h⟩ := h
      refine LW.stE (M := []) (L := [sl (some ⟨b21, o22, none⟩) c3 s5.1]) (z := y18) (z' := y16) (o := 0) hS4 (i := 0) rfl hy18 ag54 rfl (by show _ = o22 + (s5.2 : Int).toNat * 9 + 0; omega) rfl rfl rfl rfl (whole (fun w G hG => by cases (show G = [] from hG); exact ⟨rfl, rfl⟩)) ?_
      intro w24 hS5 hf
      rw [Option.some.inj hy23] at hS5
      refine LW.nil ?_
      show CW _ _ _ _ _ _
      refine CW.fresh (l := [(0, .slice (some ⟨b10, o11, none⟩) x0.length c0_0), (3, .slice (some ⟨b21, o22, none⟩) s5.1.length c3), (4, .int .i64 s5.2)]) ⟨rfl, rfl, rfl, trivial⟩ (fun e => ?_)
      refine CW.region ?_
      iterate 3 refine LW.p rfl rfl ?_
      refine LW.nil ?_
      replace h := Option.some.inj h
      subst h
      exact ⟨rfl, ⟨⟨rfl, (show (.slice (some ⟨b21, o22, none⟩) s5.1.length c3 : Value) = .slice (some ⟨b21, o22, none⟩) y23.length c3 by rw [show s5.1.length = y23.length from (len_set (Option.some.inj hy23))]), rfl, trivial⟩, hS5.pick [0] rfl rfl⟩⟩
    replace h := bcF h hc6
    refine CW.exit ?_
    replace h := Option.some.inj h
    subst h
    exact ⟨trivial, rfl, ⟨⟨rfl, trivial⟩, hS3.pick [0] rfl rfl⟩⟩
  intro x e w27 hM
  obtain ⟨rfl, hM⟩ := hM
  obtain ⟨hE, hS6⟩ := hM
  obtain ⟨e, rfl⟩ := hE.out
  have h := h26
  show CW _ _ _ _ _ _
  refine CW.seq ?_
  refine CW.region ?_
  iterate 2 refine LW.p rfl rfl ?_
  refine LW.nil ?_
  show CW _ _ _ _ _ _
  refine CW.ret ?_
  cases h
  exact And.intro trivial ⟨_, Res.one (resOne.t rfl), a2, c3, rfl, hS6.pick [0] rfl rfl⟩

theorem W_s_Ticks {w0 : World} {N : Nat} {x0 : List DEntry} {r : Int} (h : F_s_Ticks N x0 = some r) {a0_0 : Option Addr} {n0_0 c0_0 : Nat} (hn0_0 : n0_0 = x0.length) (hr0_0 : rdS (Bor w0 []) w0 a0_0 c0_0 x0) :
    Ret Try.prog 17 #[.slice a0_0 n0_0 c0_0] w0 (fun v w => v = .int .i64 r ∧ St w0 [] w []) := by
  subst hn0_0
  unfold F_s_Ticks at h
  refine Ret.of Try.func17 rfl rfl rfl ?_
  have hS1 := St.start w0
  refine CW.seq ?_
  refine CW.region ?_
  refine LW.p rfl rfl ?_
  refine LW.nil ?_
  show CW _ _ _ _ _ _
  refine CW.seq ?_
  refine CW.region ?_
  refine LW.p rfl rfl ?_
  refine LW.nil ?_
  show CW _ _ _ _ _ _
  refine CW.seq ?_
  refine CW.seq ?_
  refine CW.region ?_
  refine LW.p rfl rfl ?_
  refine LW.nil ?_
  show CW _ _ _ _ _ _
  refine CW.block ?_
  obtain ⟨o13, ho13, h14⟩ := obind h
  refine CW.mono (CW.iter (σ := Int × Int) (ρ := Int × Int) (fun s1 e w => En e [(0, .slice a0_0 x0.length c0_0), (3, .int .i64 s1.1), (4, .int .i64 s1.2)] ∧ St w0 [] w []) (fun s1 x e w => x = .exit 0 ∧ En e [(3, .int .i64 s1.1)] ∧ St w0 [] w []) ?_ N (0, 0) _ _ _ ⟨⟨rfl, rfl, rfl, trivial⟩, hS1.pick [] rfl rfl⟩ ho13) ?_
  · intro s1 e w o hM h
    obtain ⟨hE, hS2⟩ := hM
    obtain ⟨e, rfl⟩ := hE.out
    refine CW.seq ?_
    refine CW.seq ?_
    refine CW.region ?_
    iterate 2 refine LW.p rfl rfl ?_
    refine LW.u (Pur.len Try.underlying32 rfl) rfl ?_
    refine LW.p rfl rfl ?_
    refine LW.nil ?_
    show CW _ _ _ _ _ _
    refine CW.cond rfl (fun hc2 => ?_) (fun hc2 => ?_)
    · replace h := bcT h hc2
      refine CW.skip ?_
      show CW _ _ _ _ _ _
      refine CW.seq ?_
      refine CW.block ?_
      refine CW.seq ?_
      refine CW.region ?_
      iterate 2 refine LW.p rfl rfl ?_
      replace h := obind h
      obtain ⟨y3, hy3, h⟩ := h
      obtain ⟨b6, o7, cs8, hae, hb11, hp4, hq5, hd9, hk10⟩ := hr0_0.idx hy3
      subst hae
      obtain rfl := hd9
      refine LW.u (Pur.ix Try.underlying32 sz54 rfl rfl hp4 hq5) rfl ?_
      refine LW.u (Pur.fa fo54_0 rfl) rfl ?_
      refine LW.l (Ldr.old w0 ag3 rfl (hk10 0 _ rfl)) (hS2.same _ hb11.1 hb11.2) rfl ?_
      refine LW.p rfl rfl ?_
      refine LW.nil ?_
      show CW _ _ _ _ _ _
      refine CW.fresh (l := [(0, .slice (some ⟨b6, o7, none⟩) x0.length c0_0), (3, .int .i64 s1.1), (4, .int .i64 s1.2), (16, .bool (y3.kind == 1))]) ⟨rfl, rfl, rfl, rfl, trivial⟩ (fun e => ?_)
      refine CW.cond rfl (fun hc12 => ?_) (fun hc12 => ?_)
      · replace h := bcT h hc12
        refine CW.region ?_
        iterate 3 refine LW.p rfl rfl ?_
        refine LW.nil ?_
        show CW _ _ _ _ _ _
        refine CW.region ?_
        iterate 3 refine LW.p rfl rfl ?_
        refine LW.nil ?_
        replace h := Option.some.inj h
        subst h
        exact ⟨rfl, ⟨⟨rfl, rfl, rfl, trivial⟩, hS2.pick [] rfl rfl⟩⟩
      replace h := bcF h hc12
      refine CW.skip ?_
      show CW _ _ _ _ _ _
      refine CW.region ?_
      iterate 3 refine LW.p rfl rfl ?_
      refine LW.nil ?_
      replace h := Option.some.inj h
      subst h
      exact ⟨rfl, ⟨⟨rfl, rfl, rfl, trivial⟩, hS2.pick [] rfl rfl⟩⟩
    replace h := bcF h hc2
    refine CW.exit ?_
    replace h := Option.some.inj h
    subst h
    exact ⟨trivial, rfl, ⟨⟨rfl, trivial⟩, hS2.pick [] rfl rfl⟩⟩
  intro x e w15 hM
  obtain ⟨rfl, hM⟩ := hM
  obtain ⟨hE, hS3⟩ := hM
  obtain ⟨e, rfl⟩ := hE.out
  have h := h14
  show CW _ _ _ _ _ _
  refine CW.seq ?_
  refine CW.region ?_
  iterate 2 refine LW.p rfl rfl ?_
  refine LW.nil ?_
  show CW _ _ _ _ _ _
  refine CW.ret ?_
  cases h
  exact And.intro trivial ⟨_, Res.one (resOne.t rfl), rfl, hS3.pick [] rfl rfl⟩

theorem W_i_Ticks {w0 : World} {N : Nat} {x0 : List DEntry} {r : Int} (h : F_i_Ticks N x0 = some r) {a0_0 : Option Addr} {n0_0 c0_0 : Nat} (hn0_0 : n0_0 = x0.length) (hr0_0 : rdS (Bor w0 []) w0 a0_0 c0_0 x0) :
    Ret Try.prog 19 #[.slice a0_0 n0_0 c0_0] w0 (fun v w => v = .int .i64 r ∧ St w0 [] w []) := by
  subst hn0_0
  unfold F_i_Ticks at h
  refine Ret.of Try.func19 rfl rfl rfl ?_
  have hS1 := St.start w0
  refine CW.seq ?_
  refine CW.region ?_
  refine LW.p rfl rfl ?_
  refine LW.nil ?_
  show CW _ _ _ _ _ _
  refine CW.seq ?_
  refine CW.region ?_
  refine LW.p rfl rfl ?_
  refine LW.nil ?_
  show CW _ _ _ _ _ _
  refine CW.seq ?_
  refine CW.seq ?_
  refine CW.region ?_
  refine LW.p rfl rfl ?_
  refine LW.u (Pur.len Try.underlying32 rfl) rfl ?_
  refine LW.p rfl rfl ?_
  refine LW.nil ?_
  show CW _ _ _ _ _ _
  refine CW.block ?_
  obtain ⟨o16, ho16, h17⟩ := obind h
  refine CW.mono (CW.iter (σ := Int × Int) (ρ := Int × Int) (fun s1 e w => En e [(3, .int .i64 s1.1), (6, .slice a0_0 x0.length c0_0), (7, .int .i64 (x0.length : Int)), (8, .int .i64 s1.2)] ∧ St w0 [] w []) (fun s1 x e w => x = .exit 0 ∧ En e [(3, .int .i64 s1.1)] ∧ St w0 [] w []) ?_ N (0, 0) _ _ _ ⟨⟨rfl, rfl, rfl, rfl, trivial⟩, hS1.pick [] rfl rfl⟩ ho16) ?_
  · intro s1 e w o hM h
    obtain ⟨hE, hS2⟩ := hM
    obtain ⟨e, rfl⟩ := hE.out
    refine CW.seq ?_
    refine CW.region ?_
    refine LW.p rfl rfl ?_
    refine LW.nil ?_
    show CW _ _ _ _ _ _
    refine CW.seq ?_
    refine CW.cond rfl (fun hc2 => ?_) (fun hc2 => ?_)
    · replace h := bcT h hc2
      refine CW.skip ?_
      show CW _ _ _ _ _ _
      refine CW.seq ?_
      refine CW.block ?_
      refine CW.seq ?_
      refine CW.region ?_
      replace h := obind h
      obtain ⟨y3, hy3, h⟩ := h
      obtain ⟨b6, o7, cs8, hae, hb11, hp4, hq5, hd9, hk10⟩ := hr0_0.idx hy3
      subst hae
      obtain rfl := hd9
      refine LW.u (Pur.ix Try.underlying32 sz54 rfl rfl hp4 hq5) rfl ?_
      refine LW.l (Ldr.oldN w0 ag54 rfl rfl (fun j u hu => hk10 j u hu)) (hS2.same _ hb11.1 hb11.2) rfl ?_
      refine LW.alloc zv54 hS2 rfl ?_
      intro g12 w13 hS3 hf
      refine LW.stb hS3 0 rfl ag54 rfl rfl rfl rfl rfl ?_
      intro w14 hS4 hf
      refine LW.nil ?_
      show CW _ _ _ _ _ _
      refine CW.seq ?_
      refine CW.region ?_
      refine LW.u (Pur.fa fo54_0 rfl) rfl ?_
      refine LW.ldb hS4 0 rfl ag3 rfl rfl rfl ?_
      refine LW.p rfl rfl ?_
      refine LW.nil ?_
      show CW _ _ _ _ _ _
      refine CW.fresh (l := [(3, .int .i64 s1.1), (6, .slice (some ⟨b6, o7, none⟩) x0.length c0_0), (7, .int .i64 (x0.length : Int)), (8, .int .i64 s1.2), (14, .bool (y3.kind == 1))]) ⟨rfl, rfl, rfl, rfl, rfl, trivial⟩ (fun e => ?_)
      refine CW.cond rfl (fun hc15 => ?_) (fun hc15 => ?_)
      · replace h := bcT h hc15
        refine CW.region ?_
        iterate 3 refine LW.p rfl rfl ?_
        refine LW.nil ?_
        show CW _ _ _ _ _ _
        refine CW.region ?_
        iterate 2 refine LW.p rfl rfl ?_
        refine LW.nil ?_
        replace h := Option.some.inj h
        subst h
        exact ⟨rfl, ⟨⟨rfl, rfl, rfl, rfl, trivial⟩, hS4.pick [] rfl rfl⟩⟩
      replace h := bcF h hc15
      refine CW.skip ?_
      show CW _ _ _ _ _ _
      refine CW.region ?_
      iterate 2 refine LW.p rfl rfl ?_
      refine LW.nil ?_
      replace h := Option.some.inj h
      subst h
      exact ⟨rfl, ⟨⟨rfl, rfl, rfl, rfl, trivial⟩, hS4.pick [] rfl rfl⟩⟩
    replace h := bcF h hc2
    refine CW.exit ?_
    replace h := Option.some.inj h
    subst h
    exact ⟨trivial, rfl, ⟨⟨rfl, trivial⟩, hS2.pick [] rfl rfl⟩⟩
  intro x e w18 hM
  obtain ⟨rfl, hM⟩ := hM
  obtain ⟨hE, hS5⟩ := hM
  obtain ⟨e, rfl⟩ := hE.out
  have h := h17
  show CW _ _ _ _ _ _
  refine CW.seq ?_
  refine CW.region ?_
  iterate 2 refine LW.p rfl rfl ?_
  refine LW.nil ?_
  show CW _ _ _ _ _ _
  refine CW.ret ?_
  cases h
  exact And.intro trivial ⟨_, Res.one (resOne.t rfl), rfl, hS5.pick [] rfl rfl⟩

theorem W_l_eqCall {w0 : World} {N : Nat} {x0 : DCall} {x1 : DCall} {r : Bool} (h : F_l_eqCall N x0 x1 = some r) :
    Ret Try.prog 57 #[.agg #[.int .i64 x0.kind, .int .i64 x0.a, .int .i64 x0.b, .int .i64 x0.c, .int .i64 x0.d, .int .i64 x0.e], .agg #[.int .i64 x1.kind, .int .i64 x1.a, .int .i64 x1.b, .int .i64 x1.c, .int .i64 x1.d, .int .i64 x1.e]] w0 (fun v w => v = .bool r ∧ St w0 [] w []) := by
  unfold F_l_eqCall at h
  refine Ret.of Try.func57 rfl rfl rfl ?_
  have hS1 := St.start w0
  refine CW.seq ?_
  refine CW.region ?_
  refine LW.box (cs := [.int .i64 x0.kind, .int .i64 x0.a, .int .i64 x0.b, .int .i64 x0.c, .int .i64 x0.d, .int .i64 x0.e]) rfl hS1 rfl ?_
  intro g1 w2 hS2 hf
  refine LW.box (cs := [.int .i64 x1.kind, .int .i64 x1.a, .int .i64 x1.b, .int .i64 x1.c, .int .i64 x1.d, .int .i64 x1.e]) rfl hS2 rfl ?_
  intro g3 w4 hS3 hf
  refine LW.p rfl rfl ?_
  refine LW.nil ?_
  show CW _ _ _ _ _ _
  refine CW.seq ?_
  refine CW.seq ?_
  refine CW.region ?_
  refine LW.u (Pur.fa fo52_0 rfl) rfl ?_
  refine LW.ldb hS3 1 rfl ag3 rfl rfl rfl ?_
  refine LW.u (Pur.fa fo52_0 rfl) rfl ?_
  refine LW.ldb hS3 0 rfl ag3 rfl rfl rfl ?_
  refine LW.p rfl rfl ?_
  refine LW.nil ?_
  show CW _ _ _ _ _ _
  refine CW.cond rfl (fun hc5 => ?_) (fun hc5 => ?_)
  · replace h := bcT h hc5
    refine CW.seq ?_
    refine CW.region ?_
    refine LW.p rfl rfl ?_
    refine LW.nil ?_
    show CW _ _ _ _ _ _
    refine CW.ret ?_
    cases h
    exact And.intro trivial ⟨_, Res.one (resOne.t rfl), rfl, hS3.pick [] rfl rfl⟩
  replace h := bcF h hc5
  refine CW.skip ?_
  show CW _ _ _ _ _ _
  refine CW.seq ?_
  refine CW.seq ?_
  refine CW.region ?_
  refine LW.u (Pur.fa fo52_1 rfl) rfl ?_
  refine LW.ldb hS3 1 rfl ag3 rfl rfl rfl ?_
  refine LW.u (Pur.fa fo52_1 rfl) rfl ?_
  refine LW.ldb hS3 0 rfl ag3 rfl rfl rfl ?_
  refine LW.p rfl rfl ?_
  refine LW.nil ?_
  show CW _ _ _ _ _ _
  refine CW.fresh (l := [(2, .pointer (some ⟨g1, 0, none⟩)), (3, .pointer (some ⟨g3, 0, none⟩)), (14, .bool (x0.a != x1.a))]) ⟨rfl, rfl, rfl, trivial⟩ (fun e => ?_)
  refine CW.cond rfl (fun hc6 => ?_) (fun hc6 => ?_)
  · replace h := bcT h hc6
    refine CW.seq ?_
    refine CW.region ?_
    refine LW.p rfl rfl ?_
    refine LW.nil ?_
    show CW _ _ _ _ _ _
    refine CW.ret ?_
    cases h
    exact And.intro trivial ⟨_, Res.one (resOne.t rfl), rfl, hS3.pick [] rfl rfl⟩
  replace h := bcF h hc6
  refine CW.skip ?_
  show CW _ _ _ _ _ _
  refine CW.seq ?_
  refine CW.seq ?_
  refine CW.region ?_
  refine LW.u (Pur.fa fo52_2 rfl) rfl ?_
  refine LW.ldb hS3 1 rfl ag3 rfl rfl rfl ?_
  refine LW.u (Pur.fa fo52_2 rfl) rfl ?_
  refine LW.ldb hS3 0 rfl ag3 rfl rfl rfl ?_
  refine LW.p rfl rfl ?_
  refine LW.nil ?_
  show CW _ _ _ _ _ _
  refine CW.cond rfl (fun hc7 => ?_) (fun hc7 => ?_)
  · replace h := bcT h hc7
    refine CW.seq ?_
    refine CW.region ?_
    refine LW.p rfl rfl ?_
    refine LW.nil ?_
    show CW _ _ _ _ _ _
    refine CW.ret ?_
    cases h
    exact And.intro trivial ⟨_, Res.one (resOne.t rfl), rfl, hS3.pick [] rfl rfl⟩
  replace h := bcF h hc7
  refine CW.skip ?_
  show CW _ _ _ _ _ _
  refine CW.seq ?_
  refine CW.seq ?_
  refine CW.region ?_
  refine LW.u (Pur.fa fo52_3 rfl) rfl ?_
  refine LW.ldb hS3 1 rfl ag3 rfl rfl rfl ?_
  refine LW.u (Pur.fa fo52_3 rfl) rfl ?_
  refine LW.ldb hS3 0 rfl ag3 rfl rfl rfl ?_
  refine LW.p rfl rfl ?_
  refine LW.nil ?_
  show CW _ _ _ _ _ _
  refine CW.cond rfl (fun hc8 => ?_) (fun hc8 => ?_)
  · replace h := bcT h hc8
    refine CW.seq ?_
    refine CW.region ?_
    refine LW.p rfl rfl ?_
    refine LW.nil ?_
    show CW _ _ _ _ _ _
    refine CW.ret ?_
    cases h
    exact And.intro trivial ⟨_, Res.one (resOne.t rfl), rfl, hS3.pick [] rfl rfl⟩
  replace h := bcF h hc8
  refine CW.skip ?_
  show CW _ _ _ _ _ _
  refine CW.seq ?_
  refine CW.seq ?_
  refine CW.region ?_
  refine LW.u (Pur.fa fo52_4 rfl) rfl ?_
  refine LW.ldb hS3 1 rfl ag3 rfl rfl rfl ?_
  refine LW.u (Pur.fa fo52_4 rfl) rfl ?_
  refine LW.ldb hS3 0 rfl ag3 rfl rfl rfl ?_
  refine LW.p rfl rfl ?_
  refine LW.nil ?_
  show CW _ _ _ _ _ _
  refine CW.fresh (l := [(2, .pointer (some ⟨g1, 0, none⟩)), (3, .pointer (some ⟨g3, 0, none⟩)), (29, .bool (x0.d != x1.d))]) ⟨rfl, rfl, rfl, trivial⟩ (fun e => ?_)
  refine CW.cond rfl (fun hc9 => ?_) (fun hc9 => ?_)
  · replace h := bcT h hc9
    refine CW.seq ?_
    refine CW.region ?_
    refine LW.p rfl rfl ?_
    refine LW.nil ?_
    show CW _ _ _ _ _ _
    refine CW.ret ?_
    cases h
    exact And.intro trivial ⟨_, Res.one (resOne.t rfl), rfl, hS3.pick [] rfl rfl⟩
  replace h := bcF h hc9
  refine CW.skip ?_
  show CW _ _ _ _ _ _
  refine CW.seq ?_
  refine CW.seq ?_
  refine CW.region ?_
  refine LW.u (Pur.fa fo52_5 rfl) rfl ?_
  refine LW.ldb hS3 1 rfl ag3 rfl rfl rfl ?_
  refine LW.u (Pur.fa fo52_5 rfl) rfl ?_
  refine LW.ldb hS3 0 rfl ag3 rfl rfl rfl ?_
  refine LW.p rfl rfl ?_
  refine LW.nil ?_
  show CW _ _ _ _ _ _
  refine CW.cond rfl (fun hc10 => ?_) (fun hc10 => ?_)
  · replace h := bcT h hc10
    refine CW.seq ?_
    refine CW.region ?_
    refine LW.p rfl rfl ?_
    refine LW.nil ?_
    show CW _ _ _ _ _ _
    refine CW.ret ?_
    cases h
    exact And.intro trivial ⟨_, Res.one (resOne.t rfl), rfl, hS3.pick [] rfl rfl⟩
  replace h := bcF h hc10
  refine CW.skip ?_
  show CW _ _ _ _ _ _
  refine CW.seq ?_
  refine CW.region ?_
  refine LW.p rfl rfl ?_
  refine LW.nil ?_
  show CW _ _ _ _ _ _
  refine CW.ret ?_
  cases h
  exact And.intro trivial ⟨_, Res.one (resOne.t rfl), rfl, hS3.pick [] rfl rfl⟩

theorem W_l_eqEntry {w0 : World} {N : Nat} {x0 : DEntry} {x1 : DEntry} {r : Bool} (h : F_l_eqEntry N x0 x1 = some r) :
    Ret Try.prog 40 #[.agg #[.int .i64 x0.kind, .int .i64 x0.part, .int .i64 x0.thread, .int .i64 x0.call.kind, .int .i64 x0.call.a, .int .i64 x0.call.b, .int .i64 x0.call.c, .int .i64 x0.call.d, .int .i64 x0.call.e], .agg #[.int .i64 x1.kind, .int .i64 x1.part, .int .i64 x1.thread, .int .i64 x1.call.kind, .int .i64 x1.call.a, .int .i64 x1.call.b, .int .i64 x1.call.c, .int .i64 x1.call.d, .int .i64 x1.call.e]] w0 (fun v w => v = .bool r ∧ St w0 [] w []) := by
  unfold F_l_eqEntry at h
  refine Ret.of Try.func40 rfl rfl rfl ?_
  have hS1 := St.start w0
  refine CW.seq ?_
  refine CW.region ?_
  refine LW.box (cs := [.int .i64 x0.kind, .int .i64 x0.part, .int .i64 x0.thread, .int .i64 x0.call.kind, .int .i64 x0.call.a, .int .i64 x0.call.b, .int .i64 x0.call.c, .int .i64 x0.call.d, .int .i64 x0.call.e]) rfl hS1 rfl ?_
  intro g1 w2 hS2 hf
  refine LW.box (cs := [.int .i64 x1.kind, .int .i64 x1.part, .int .i64 x1.thread, .int .i64 x1.call.kind, .int .i64 x1.call.a, .int .i64 x1.call.b, .int .i64 x1.call.c, .int .i64 x1.call.d, .int .i64 x1.call.e]) rfl hS2 rfl ?_
  intro g3 w4 hS3 hf
  refine LW.p rfl rfl ?_
  refine LW.nil ?_
  show CW _ _ _ _ _ _
  refine CW.seq ?_
  refine CW.seq ?_
  refine CW.region ?_
  refine LW.u (Pur.fa fo54_0 rfl) rfl ?_
  refine LW.ldb hS3 1 rfl ag3 rfl rfl rfl ?_
  refine LW.u (Pur.fa fo54_0 rfl) rfl ?_
  refine LW.ldb hS3 0 rfl ag3 rfl rfl rfl ?_
  refine LW.p rfl rfl ?_
  refine LW.nil ?_
  show CW _ _ _ _ _ _
  refine CW.cond rfl (fun hc5 => ?_) (fun hc5 => ?_)
  · replace h := bcT h hc5
    refine CW.seq ?_
    refine CW.region ?_
    refine LW.p rfl rfl ?_
    refine LW.nil ?_
    show CW _ _ _ _ _ _
    refine CW.ret ?_
    cases h
    exact And.intro trivial ⟨_, Res.one (resOne.t rfl), rfl, hS3.pick [] rfl rfl⟩
  replace h := bcF h hc5
  refine CW.skip ?_
  show CW _ _ _ _ _ _
  refine CW.seq ?_
  refine CW.seq ?_
  refine CW.region ?_
  refine LW.u (Pur.fa fo54_1 rfl) rfl ?_
  refine LW.ldb hS3 1 rfl ag3 rfl rfl rfl ?_
  refine LW.u (Pur.fa fo54_1 rfl) rfl ?_
  refine LW.ldb hS3 0 rfl ag3 rfl rfl rfl ?_
  refine LW.p rfl rfl ?_
  refine LW.nil ?_
  show CW _ _ _ _ _ _
  refine CW.fresh (l := [(2, .pointer (some ⟨g1, 0, none⟩)), (3, .pointer (some ⟨g3, 0, none⟩)), (14, .bool (x0.part != x1.part))]) ⟨rfl, rfl, rfl, trivial⟩ (fun e => ?_)
  refine CW.cond rfl (fun hc6 => ?_) (fun hc6 => ?_)
  · replace h := bcT h hc6
    refine CW.seq ?_
    refine CW.region ?_
    refine LW.p rfl rfl ?_
    refine LW.nil ?_
    show CW _ _ _ _ _ _
    refine CW.ret ?_
    cases h
    exact And.intro trivial ⟨_, Res.one (resOne.t rfl), rfl, hS3.pick [] rfl rfl⟩
  replace h := bcF h hc6
  refine CW.skip ?_
  show CW _ _ _ _ _ _
  refine CW.seq ?_
  refine CW.seq ?_
  refine CW.region ?_
  refine LW.u (Pur.fa fo54_2 rfl) rfl ?_
  refine LW.ldb hS3 1 rfl ag3 rfl rfl rfl ?_
  refine LW.u (Pur.fa fo54_2 rfl) rfl ?_
  refine LW.ldb hS3 0 rfl ag3 rfl rfl rfl ?_
  refine LW.p rfl rfl ?_
  refine LW.nil ?_
  show CW _ _ _ _ _ _
  refine CW.cond rfl (fun hc7 => ?_) (fun hc7 => ?_)
  · replace h := bcT h hc7
    refine CW.seq ?_
    refine CW.region ?_
    refine LW.p rfl rfl ?_
    refine LW.nil ?_
    show CW _ _ _ _ _ _
    refine CW.ret ?_
    cases h
    exact And.intro trivial ⟨_, Res.one (resOne.t rfl), rfl, hS3.pick [] rfl rfl⟩
  replace h := bcF h hc7
  refine CW.skip ?_
  show CW _ _ _ _ _ _
  refine CW.seq ?_
  refine CW.seq ?_
  refine CW.region ?_
  refine LW.u (Pur.fa fo54_3 rfl) rfl ?_
  refine LW.ldbN hS3 1 rfl ag52 rfl rfl rfl ?_
  refine LW.u (Pur.fa fo54_3 rfl) rfl ?_
  refine LW.ldbN hS3 0 rfl ag52 rfl rfl rfl ?_
  replace h := obind h
  obtain ⟨y8, hy8, h⟩ := h
  have q := W_l_eqCall (w0 := w4) hy8
  refine LW.call pl57 rfl rfl ?_
  refine Ret.mono q ?_
  rintro _ w9 ⟨rfl, hs⟩
  have hS4 := hS3.add hs
  refine LW.p rfl rfl ?_
  refine LW.nil ?_
  show CW _ _ _ _ _ _
  refine CW.cond rfl (fun hc10 => ?_) (fun hc10 => ?_)
  · replace h := bcT h hc10
    refine CW.seq ?_
    refine CW.region ?_
    refine LW.p rfl rfl ?_
    refine LW.nil ?_
    show CW _ _ _ _ _ _
    refine CW.ret ?_
    cases h
    exact And.intro trivial ⟨_, Res.one (resOne.t rfl), rfl, hS4.pick [] rfl rfl⟩
  replace h := bcF h hc10
  refine CW.skip ?_
  show CW _ _ _ _ _ _
  refine CW.seq ?_
  refine CW.region ?_
  refine LW.p rfl rfl ?_
  refine LW.nil ?_
  show CW _ _ _ _ _ _
  refine CW.ret ?_
  cases h
  exact And.intro trivial ⟨_, Res.one (resOne.t rfl), rfl, hS4.pick [] rfl rfl⟩

theorem W_l_eqEntryS {w0 : World} {N : Nat} {x0 : List DEntry} {x1 : List DEntry} {r : Bool} (h : F_l_eqEntryS N x0 x1 = some r) {a0_0 : Option Addr} {n0_0 c0_0 : Nat} (hn0_0 : n0_0 = x0.length) (hr0_0 : rdS (Bor w0 []) w0 a0_0 c0_0 x0) {a1_0 : Option Addr} {n1_0 c1_0 : Nat} (hn1_0 : n1_0 = x1.length) (hr1_0 : rdS (Bor w0 []) w0 a1_0 c1_0 x1) :
    Ret Try.prog 20 #[.slice a0_0 n0_0 c0_0, .slice a1_0 n1_0 c1_0] w0 (fun v w => v = .bool r ∧ St w0 [] w []) := by
  subst hn0_0
  subst hn1_0
  unfold F_l_eqEntryS at h
  refine Ret.of Try.func20 rfl rfl rfl ?_
  have hS1 := St.start w0
  refine CW.seq ?_
  refine CW.region ?_
  refine LW.p rfl rfl ?_
  refine LW.nil ?_
  show CW _ _ _ _ _ _
  refine CW.seq ?_
  refine CW.seq ?_
  refine CW.region ?_
  refine LW.p rfl rfl ?_
  refine LW.u (Pur.len Try.underlying32 rfl) rfl ?_
  refine LW.p rfl rfl ?_
  refine LW.u (Pur.len Try.underlying32 rfl) rfl ?_
  refine LW.p rfl rfl ?_
  refine LW.nil ?_
  show CW _ _ _ _ _ _
  refine CW.cond rfl (fun hc1 => ?_) (fun hc1 => ?_)
  · replace h := bcT h hc1
    refine CW.seq ?_
    refine CW.region ?_
    refine LW.p rfl rfl ?_
    refine LW.nil ?_
    show CW _ _ _ _ _ _
    refine CW.ret ?_
    cases h
    exact And.intro trivial ⟨_, Res.one (resOne.t rfl), rfl, hS1.pick [] rfl rfl⟩
  replace h := bcF h hc1
  refine CW.skip ?_
  show CW _ _ _ _ _ _
  refine CW.seq ?_
  refine CW.seq ?_
  refine CW.region ?_
  refine LW.p rfl rfl ?_
  refine LW.nil ?_
  show CW _ _ _ _ _ _
  refine CW.block ?_
  obtain ⟨o25, ho25, h26⟩ := obind h
  refine CW.mono (CW.iter (σ := Int) (ρ := Int ⊕ Bool) (fun s2 e w => En e [(0, .slice a0_0 x0.length c0_0), (1, .slice a1_0 x1.length c1_0), (5, .int .i64 s2)] ∧ St w0 [] w []) (fun o x e w => match o with | .inl s2 => x = .exit 0 ∧ En e [] ∧ St w0 [] w [] | .inr r => x = .ret ∧ ∃ u, u = r ∧ ∃ v, Res Try.prog Try.f20.results e w v ∧ v = .bool u ∧ St w0 [] w []) ?_ N 0 _ _ _ ⟨⟨rfl, rfl, rfl, trivial⟩, hS1.pick [] rfl rfl⟩ ho25) ?_
  · intro s2 e w o hM h
    obtain ⟨hE, hS2⟩ := hM
    obtain ⟨e, rfl⟩ := hE.out
    refine CW.seq ?_
    refine CW.seq ?_
    refine CW.region ?_
    iterate 2 refine LW.p rfl rfl ?_
    refine LW.u (Pur.len Try.underlying32 rfl) rfl ?_
    refine LW.p rfl rfl ?_
    refine LW.nil ?_
    show CW _ _ _ _ _ _
    refine CW.cond rfl (fun hc3 => ?_) (fun hc3 => ?_)
    · replace h := bcT h hc3
      refine CW.skip ?_
      show CW _ _ _ _ _ _
      refine CW.seq ?_
      refine CW.block ?_
      refine CW.seq ?_
      refine CW.draw (by kernel_rfl) ?_
      have hS3 := hS2.drew
      refine AW.u (i := 0) rfl (by kernel_rfl) rfl rfl (Pur.p rfl) ?_
      refine AW.u (i := 1) rfl (by kernel_rfl) rfl rfl (Pur.p rfl) ?_
      replace h := obind h
      obtain ⟨y4, hy4, h⟩ := h
      obtain ⟨b7, o8, cs9, hae, hb12, hp5, hq6, hd10, hk11⟩ := hr0_0.idx hy4
      subst hae
      obtain rfl := hd10
      refine AW.u (i := 2) rfl (by kernel_rfl) rfl rfl (Pur.ix Try.underlying32 sz54 rfl rfl hp5 hq6) ?_
      refine AW.take (i := 3) rfl (by kernel_rfl) rfl rfl (Ldr.oldN w0 ag54 rfl rfl (fun j u hu => hk11 j u hu)) (hS3.same _ hb12.1 hb12.2) ?_
      refine AW.u (i := 4) rfl (by kernel_rfl) rfl rfl (Pur.p rfl) ?_
      refine AW.u (i := 5) rfl (by kernel_rfl) rfl rfl (Pur.p rfl) ?_
      replace h := obind h
      obtain ⟨y13, hy13, h⟩ := h
      obtain ⟨b16, o17, cs18, hae, hb21, hp14, hq15, hd19, hk20⟩ := hr1_0.idx hy13
      subst hae
      obtain rfl := hd19
      refine AW.u (i := 6) rfl (by kernel_rfl) rfl rfl (Pur.ix Try.underlying32 sz54 rfl rfl hp14 hq15) ?_
      refine AW.take (i := 7) rfl (by kernel_rfl) rfl rfl (Ldr.oldN w0 ag54 rfl rfl (fun j u hu => hk20 j u hu)) (hS3.same _ hb21.1 hb21.2) ?_
      replace h := obind h
      obtain ⟨y22, hy22, h⟩ := h
      have q := W_l_eqEntry (w0 := w.drew) hy22
      refine AW.one (i := 8) (by kernel_rfl) ?_
      refine ⟨_, rfl, ?_⟩
      refine LW.call pl40 rfl rfl ?_
      refine Ret.mono q ?_
      rintro _ w23 ⟨rfl, hs⟩
      have hS4 := hS3.add hs
      refine LW.nil ⟨rfl, (.w (by kernel_rfl) (.w (by kernel_rfl) Kept.n)), ?_⟩
      refine AW.u (i := 9) rfl (by kernel_rfl) rfl rfl (Pur.p rfl) ?_
      refine AW.done (by kernel_rfl) ?_
      show CW _ _ _ _ _ _
      refine CW.cond rfl (fun hc24 => ?_) (fun hc24 => ?_)
      · replace h := bcT h hc24
        refine CW.seq ?_
        refine CW.region ?_
        refine LW.p rfl rfl ?_
        refine LW.nil ?_
        show CW _ _ _ _ _ _
        refine CW.ret ?_
        replace h := Option.some.inj h
        subst h
        exact ⟨trivial, rfl, _, rfl, ⟨_, Res.one (resOne.t rfl), rfl, hS4.pick [] rfl rfl⟩⟩
      replace h := bcF h hc24
      refine CW.skip ?_
      show CW _ _ _ _ _ _
      refine CW.region ?_
      iterate 3 refine LW.p rfl rfl ?_
      refine LW.nil ?_
      replace h := Option.some.inj h
      subst h
      exact ⟨rfl, ⟨⟨rfl, rfl, rfl, trivial⟩, hS4.pick [] rfl rfl⟩⟩
    replace h := bcF h hc3
    refine CW.exit ?_
    replace h := Option.some.inj h
    subst h
    exact ⟨trivial, rfl, ⟨trivial, hS2.pick [] rfl rfl⟩⟩
  intro x e w27 hM
  rcases o25 with o25 | r28
  · obtain ⟨rfl, hM⟩ := hM
    obtain ⟨hE, hS5⟩ := hM
    obtain ⟨e, rfl⟩ := hE.out
    have h := h26
    show CW _ _ _ _ _ _
    refine CW.seq ?_
    refine CW.region ?_
    refine LW.p rfl rfl ?_
    refine LW.nil ?_
    show CW _ _ _ _ _ _
    refine CW.ret ?_
    cases h
    exact And.intro trivial ⟨_, Res.one (resOne.t rfl), rfl, hS5.pick [] rfl rfl⟩
  obtain ⟨rfl, u, rfl, hM⟩ := hM
  cases h26
  exact And.intro trivial hM

theorem W_l_FnExactTicks {w0 : World} {N : Nat} {x0 : List DEntry} {r : Bool} (h : F_l_FnExactTicks N x0 = some r) {a0_0 : Option Addr} {n0_0 c0_0 : Nat} (hn0_0 : n0_0 = x0.length) (hr0_0 : rdS (Bor w0 []) w0 a0_0 c0_0 x0) :
    Ret Try.prog 5 #[.slice a0_0 n0_0 c0_0] w0 (fun v w => v = .bool r ∧ St w0 [] w []) := by
  subst hn0_0
  unfold F_l_FnExactTicks at h
  refine Ret.of Try.func5 rfl rfl rfl ?_
  have hS1 := St.start w0
  refine CW.seq ?_
  refine CW.region ?_
  refine LW.p rfl rfl ?_
  refine LW.nil ?_
  show CW _ _ _ _ _ _
  refine CW.seq ?_
  refine CW.region ?_
  refine LW.p rfl rfl ?_
  refine LW.nil ?_
  show CW _ _ _ _ _ _
  refine CW.seq ?_
  refine CW.region ?_
  iterate 2 refine LW.p rfl rfl ?_
  replace h := obind h
  obtain ⟨y1, hy1, h⟩ := h
  have q := W_l_szEntryS (w0 := w0) hy1 rfl (hS1.rB hr0_0)
  refine LW.call pl16 rfl rfl ?_
  refine Ret.mono q ?_
  rintro _ w2 ⟨rfl, hs⟩
  have hS2 := hS1.add hs
  refine LW.p rfl rfl ?_
  refine LW.nil ?_
  show CW _ _ _ _ _ _
  refine CW.seq ?_
  refine CW.seq ?_
  refine CW.region ?_
  iterate 2 refine LW.p rfl rfl ?_
  refine LW.nil ?_
  show CW _ _ _ _ _ _
  refine CW.cond rfl (fun hc3 => ?_) (fun hc3 => ?_)
  · replace h := bcT h hc3
    refine CW.seq ?_
    refine CW.region ?_
    refine LW.p rfl rfl ?_
    refine LW.nil ?_
    show CW _ _ _ _ _ _
    refine CW.ret ?_
    cases h
    exact And.intro trivial ⟨_, Res.one (resOne.t rfl), rfl, hS2.pick [] rfl rfl⟩
  replace h := bcF h hc3
  refine CW.skip ?_
  show CW _ _ _ _ _ _
  refine CW.seq ?_
  refine CW.region ?_
  refine LW.p rfl rfl ?_
  replace h := obind h
  obtain ⟨y4, hy4, h⟩ := h
  have q := W_l_toEntryS (w0 := w2) hy4 rfl (hS2.rB hr0_0)
  refine LW.call pl18 rfl rfl ?_
  refine Ret.mono q ?_
  rintro _ w7 ⟨a5, c6, rfl, hs⟩
  have hS3 := hS2.add hs
  replace h := obind h
  obtain ⟨y8, hy8, h⟩ := h
  have q := W_s_Ticks (w0 := w7) hy8 rfl (hS3.rI 0 rfl)
  refine LW.call pl17 rfl rfl ?_
  refine Ret.mono q ?_
  rintro _ w9 ⟨rfl, hs⟩
  have hS4 := hS3.add hs
  refine LW.p rfl rfl ?_
  refine LW.nil ?_
  show CW _ _ _ _ _ _
  refine CW.seq ?_
  refine CW.region ?_
  refine LW.p rfl rfl ?_
  replace h := obind h
  obtain ⟨y10, hy10, h⟩ := h
  have q := W_l_toEntryS (w0 := w9) hy10 rfl (hS4.rB hr0_0)
  refine LW.call pl18 rfl rfl ?_
  refine Ret.mono q ?_
  rintro _ w13 ⟨a11, c12, rfl, hs⟩
  have hS5 := hS4.add hs
  refine LW.p rfl rfl ?_
  refine LW.nil ?_
  show CW _ _ _ _ _ _
  refine CW.fresh (l := [(0, .slice a0_0 x0.length c0_0), (4, .int .i64 y8), (5, .slice a11 y10.length c12)]) ⟨rfl, rfl, rfl, trivial⟩ (fun e => ?_)
  refine CW.seq ?_
  refine CW.region ?_
  refine LW.p rfl rfl ?_
  replace h := obind h
  obtain ⟨y14, hy14, h⟩ := h
  have q := W_i_Ticks (w0 := w13) hy14 rfl (hS5.rI 0 rfl)
  refine LW.call pl19 rfl rfl ?_
  refine Ret.mono q ?_
  rintro _ w15 ⟨rfl, hs⟩
  have hS6 := hS5.add hs
  refine LW.p rfl rfl ?_
  refine LW.nil ?_
  show CW _ _ _ _ _ _
  refine CW.seq ?_
  refine CW.seq ?_
  refine CW.region ?_
  iterate 3 refine LW.p rfl rfl ?_
  refine LW.nil ?_
  show CW _ _ _ _ _ _
  refine CW.cond rfl (fun hc16 => ?_) (fun hc16 => ?_)
  · replace h := bcT h hc16
    refine CW.seq ?_
    refine CW.region ?_
    refine LW.p rfl rfl ?_
    refine LW.nil ?_
    show CW _ _ _ _ _ _
    refine CW.ret ?_
    cases h
    exact And.intro trivial ⟨_, Res.one (resOne.t rfl), rfl, hS6.pick [] rfl rfl⟩
  replace h := bcF h hc16
  refine CW.skip ?_
  show CW _ _ _ _ _ _
  refine CW.seq ?_
  refine CW.seq ?_
  refine CW.region ?_
  iterate 2 refine LW.p rfl rfl ?_
  replace h := obind h
  obtain ⟨y17, hy17, h⟩ := h
  have q := W_l_toEntryS (w0 := w15) hy17 rfl (hS6.rB hr0_0)
  refine LW.call pl18 rfl rfl ?_
  refine Ret.mono q ?_
  rintro _ w20 ⟨a18, c19, rfl, hs⟩
  have hS7 := hS6.add hs
  replace h := obind h
  obtain ⟨y21, hy21, h⟩ := h
  have q := W_l_eqEntryS (w0 := w20) hy21 rfl (hS7.rI 1 rfl) rfl (hS7.rI 0 rfl)
  refine LW.call pl20 rfl rfl ?_
  refine Ret.mono q ?_
  rintro _ w22 ⟨rfl, hs⟩
  have hS8 := hS7.add hs
  refine LW.p rfl rfl ?_
  refine LW.nil ?_
  show CW _ _ _ _ _ _
  refine CW.cond rfl (fun hc23 => ?_) (fun hc23 => ?_)
  · replace h := bcT h hc23
    refine CW.seq ?_
    refine CW.region ?_
    refine LW.p rfl rfl ?_
    refine LW.nil ?_
    show CW _ _ _ _ _ _
    refine CW.ret ?_
    cases h
    exact And.intro trivial ⟨_, Res.one (resOne.t rfl), rfl, hS8.pick [] rfl rfl⟩
  replace h := bcF h hc23
  refine CW.skip ?_
  show CW _ _ _ _ _ _
  refine CW.seq ?_
  refine CW.region ?_
  refine LW.p rfl rfl ?_
  refine LW.nil ?_
  show CW _ _ _ _ _ _
  refine CW.ret ?_
  cases h
  exact And.intro trivial ⟨_, Res.one (resOne.t rfl), rfl, hS8.pick [] rfl rfl⟩

end Go.Kx
