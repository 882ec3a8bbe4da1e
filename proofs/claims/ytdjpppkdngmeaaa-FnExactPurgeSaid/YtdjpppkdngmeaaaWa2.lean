/- Each call returns what the plain function says. Printed by drive.py. -/
import Derived.Test.YtdjpppkdngmeaaaFa
import Derived.Test.YtdjpppkdngmeaaaPu
import Derived.Test.YtdjpppkdngmeaaaWa0
import Derived.Test.YtdjpppkdngmeaaaWa1
import Derived.Test.YtdjpppkdngmeaaaWa3
import Derived.Test.YtdjpppkdngmeaaaWa4
import Derived.Test.YtdjpppkdngmeaaaWa5
namespace Go.Kx
open Go Go.RowKit Go.Proofs
set_option maxRecDepth 10000
set_option maxHeartbeats 2000000
set_option linter.unusedVariables false
set_option linter.unusedSimpArgs false
theorem W_l_szPartBootS {w0 : World} {N : Nat} {x0 : List DBoot} {x1 : Int} {r : Int} (h : F_l_szPartBootS N x0 x1 = some r) {a0_0 : Option Addr} {n0_0 c0_0 : Nat} (hn0_0 : n0_0 = x0.length) (hr0_0 : rdS (Bor w0 []) w0 a0_0 c0_0 x0) :
    Ret Try.prog 10 #[.slice a0_0 n0_0 c0_0, .int .i64 x1] w0 (fun v w => v = .int .i64 r ∧ St w0 [] w []) := by
  subst hn0_0
  unfold F_l_szPartBootS at h
  refine Ret.of Try.func10 rfl rfl rfl ?_
  have hS1 := St.start w0
  refine CW.seq ?_
  refine CW.region ?_
  refine LW.p rfl rfl ?_
  refine LW.nil ?_
  show CW _ _ _ _ _ _
  refine CW.seq ?_
  refine CW.region ?_
  iterate 2 refine LW.p rfl rfl ?_
  refine LW.u (Pur.len Try.underlying22 rfl) rfl ?_
  iterate 2 refine LW.p rfl rfl ?_
  refine LW.nil ?_
  show CW _ _ _ _ _ _
  refine CW.seq ?_
  refine CW.seq ?_
  refine CW.region ?_
  iterate 2 refine LW.p rfl rfl ?_
  refine LW.nil ?_
  show CW _ _ _ _ _ _
  refine CW.cond rfl (fun hc1 => ?_) (fun hc1 => ?_)
  · replace h := bcT h hc1
    refine CW.seq ?_
    refine CW.region ?_
    refine LW.p rfl rfl ?_
    refine LW.nil ?_
    show CW _ _ _ _ _ _
    refine CW.ret ?_
    cases h
    exact And.intro trivial ⟨_, Res.one (resOne.t rfl), rfl, hS1.pick [] rfl rfl⟩
  replace h := bcF h hc1
  refine CW.skip ?_
  show CW _ _ _ _ _ _
  refine CW.seq ?_
  refine CW.seq ?_
  refine CW.region ?_
  refine LW.p rfl rfl ?_
  refine LW.nil ?_
  show CW _ _ _ _ _ _
  refine CW.block ?_
  obtain ⟨o23, ho23, h24⟩ := obind h
  refine CW.mono (CW.iter (σ := Int × Int) (ρ := (Int × Int) ⊕ Int) (fun s2 e wb => En e [(0, .slice a0_0 x0.length c0_0), (1, .int .i64 s2.1), (5, .int .i64 s2.2)] ∧ St w0 [] wb []) (fun o x e wb => match o with | .inl s2 => x = .exit 0 ∧ En e [(1, .int .i64 s2.1)] ∧ St w0 [] wb [] | .inr r => x = .ret ∧ ∃ u, u = r ∧ ∃ v, Res Try.prog Try.f10.results e wb v ∧ v = .int .i64 u ∧ St w0 [] wb []) ?_ N (IntKind.i64.wrap (x1 - (x0.length : Int)), 0) _ _ _ ⟨⟨rfl, rfl, rfl, trivial⟩, hS1.pick [] rfl rfl⟩ ho23) ?_
  · intro s2 e w3 o hM h
    obtain ⟨hE, hS2⟩ := hM
    obtain ⟨e, rfl⟩ := hE.out
    refine CW.seq ?_
    refine CW.seq ?_
    refine CW.region ?_
    iterate 2 refine LW.p rfl rfl ?_
    refine LW.u (Pur.len Try.underlying22 rfl) rfl ?_
    refine LW.p rfl rfl ?_
    refine LW.nil ?_
    show CW _ _ _ _ _ _
    refine CW.fresh (l := [(0, .slice a0_0 x0.length c0_0), (1, .int .i64 s2.1), (5, .int .i64 s2.2), (15, .bool (decide (s2.2 < (x0.length : Int))))]) ⟨rfl, rfl, rfl, rfl, trivial⟩ (fun e => ?_)
    refine CW.cond rfl (fun hc4 => ?_) (fun hc4 => ?_)
    · replace h := bcT h hc4
      refine CW.skip ?_
      show CW _ _ _ _ _ _
      refine CW.seq ?_
      refine CW.block ?_
      refine CW.seq ?_
      refine CW.region ?_
      iterate 2 refine LW.p rfl rfl ?_
      replace h := obind h
      obtain ⟨y5, hy5, h⟩ := h
      obtain ⟨b8, o9, cs10, hae, hb13, hp6, hq7, hd11, hk12⟩ := hr0_0.idx hy5
      subst hae
      obtain ⟨a14, c15, a17, c18, rfl, hr16, hr19⟩ := hd11
      refine LW.u (Pur.ix Try.underlying22 sz89 rfl rfl hp6 hq7) rfl ?_
      refine LW.l (Ldr.oldN w0 ag89 rfl rfl (fun j u hu => hk12 j u hu)) (hS2.same _ hb13.1 hb13.2) rfl ?_
      refine LW.p rfl rfl ?_
      replace h := obind h
      obtain ⟨y20, hy20, h⟩ := h
      have q := W_l_szPartBoot (w0 := w3) hy20 rfl (hS2.rB hr16) rfl (hS2.rB hr19)
      refine LW.call pl46 rfl rfl ?_
      refine Ret.mono q ?_
      rintro _ w21 ⟨rfl, hs⟩
      have hS3 := hS2.add hs
      refine LW.p rfl rfl ?_
      refine LW.nil ?_
      show CW _ _ _ _ _ _
      refine CW.seq ?_
      refine CW.region ?_
      iterate 2 refine LW.p rfl rfl ?_
      refine LW.nil ?_
      show CW _ _ _ _ _ _
      refine CW.cond rfl (fun hc22 => ?_) (fun hc22 => ?_)
      · replace h := bcT h hc22
        refine CW.seq ?_
        refine CW.region ?_
        refine LW.p rfl rfl ?_
        refine LW.nil ?_
        show CW _ _ _ _ _ _
        refine CW.ret ?_
        replace h := Option.some.inj h
        subst h
        exact ⟨trivial, rfl, _, rfl, ⟨_, Res.one (resOne.t rfl), rfl, hS3.pick [] rfl rfl⟩⟩
      replace h := bcF h hc22
      refine CW.skip ?_
      show CW _ _ _ _ _ _
      refine CW.region ?_
      iterate 3 refine LW.p rfl rfl ?_
      refine LW.nil ?_
      replace h := Option.some.inj h
      subst h
      exact ⟨rfl, ⟨⟨rfl, rfl, rfl, trivial⟩, hS3.pick [] rfl rfl⟩⟩
    replace h := bcF h hc4
    refine CW.exit ?_
    replace h := Option.some.inj h
    subst h
    exact ⟨trivial, rfl, ⟨⟨rfl, trivial⟩, hS2.pick [] rfl rfl⟩⟩
  intro x e w25 hM
  rcases o23 with o23 | r26
  · obtain ⟨rfl, hM⟩ := hM
    obtain ⟨hE, hS4⟩ := hM
    obtain ⟨e, rfl⟩ := hE.out
    have h := h24
    show CW _ _ _ _ _ _
    refine CW.seq ?_
    refine CW.region ?_
    iterate 2 refine LW.p rfl rfl ?_
    refine LW.nil ?_
    show CW _ _ _ _ _ _
    refine CW.ret ?_
    cases h
    exact And.intro trivial ⟨_, Res.one (resOne.t rfl), rfl, hS4.pick [] rfl rfl⟩
  obtain ⟨rfl, u, rfl, hM⟩ := hM
  cases h24
  exact And.intro trivial hM

theorem W_l_szEntryS {w0 : World} {N : Nat} {x0 : List DEntry} {x1 : Int} {r : Int} (h : F_l_szEntryS N x0 x1 = some r) {a0_0 : Option Addr} {n0_0 c0_0 : Nat} (hn0_0 : n0_0 = x0.length) (hr0_0 : rdS (Bor w0 []) w0 a0_0 c0_0 x0) :
    Ret Try.prog 11 #[.slice a0_0 n0_0 c0_0, .int .i64 x1] w0 (fun v w => v = .int .i64 r ∧ St w0 [] w []) := by
  subst hn0_0
  unfold F_l_szEntryS at h
  refine Ret.of Try.func11 rfl rfl rfl ?_
  have hS1 := St.start w0
  refine CW.seq ?_
  refine CW.region ?_
  refine LW.p rfl rfl ?_
  refine LW.nil ?_
  show CW _ _ _ _ _ _
  refine CW.seq ?_
  refine CW.region ?_
  iterate 2 refine LW.p rfl rfl ?_
  refine LW.u (Pur.len Try.underlying23 rfl) rfl ?_
  iterate 2 refine LW.p rfl rfl ?_
  refine LW.nil ?_
  show CW _ _ _ _ _ _
  refine CW.seq ?_
  refine CW.seq ?_
  refine CW.region ?_
  iterate 2 refine LW.p rfl rfl ?_
  refine LW.nil ?_
  show CW _ _ _ _ _ _
  refine CW.cond rfl (fun hc1 => ?_) (fun hc1 => ?_)
  · replace h := bcT h hc1
    refine CW.seq ?_
    refine CW.region ?_
    refine LW.p rfl rfl ?_
    refine LW.nil ?_
    show CW _ _ _ _ _ _
    refine CW.ret ?_
    cases h
    exact And.intro trivial ⟨_, Res.one (resOne.t rfl), rfl, hS1.pick [] rfl rfl⟩
  replace h := bcF h hc1
  refine CW.skip ?_
  show CW _ _ _ _ _ _
  refine CW.seq ?_
  refine CW.region ?_
  iterate 2 refine LW.p rfl rfl ?_
  refine LW.nil ?_
  show CW _ _ _ _ _ _
  refine CW.ret ?_
  cases h
  exact And.intro trivial ⟨_, Res.one (resOne.t rfl), rfl, hS1.pick [] rfl rfl⟩

theorem W_l_toPartBootS {w0 : World} {N : Nat} {x0 : List DBoot} {r : (List DBoot)} (h : F_l_toPartBootS N x0 = some r) {a0_0 : Option Addr} {n0_0 c0_0 : Nat} (hn0_0 : n0_0 = x0.length) (hr0_0 : rdS (Bor w0 []) w0 a0_0 c0_0 x0) :
    Ret Try.prog 14 #[.slice a0_0 n0_0 c0_0] w0 (fun v w => ∃ ar0 cr0, v = .slice ar0 r.length cr0 ∧ St w0 [] w [sl ar0 cr0 r]) := by
  subst hn0_0
  unfold F_l_toPartBootS at h
  refine Ret.of Try.func14 rfl rfl rfl ?_
  have hS1 := St.start w0
  refine CW.seq ?_
  refine CW.region ?_
  refine LW.p rfl rfl ?_
  refine LW.nil ?_
  show CW _ _ _ _ _ _
  refine CW.seq ?_
  refine CW.region ?_
  refine LW.p rfl rfl ?_
  refine LW.u (Pur.len Try.underlying22 rfl) rfl ?_
  replace h := obind h
  obtain ⟨y1, hy1, h⟩ := h
  refine LW.mk sT32 rfl rfl hy1 hS1 rfl ?_
  intro a2 c3 w4 hS2 hf
  refine LW.p rfl rfl ?_
  refine LW.nil ?_
  show CW _ _ _ _ _ _
  refine CW.seq ?_
  refine CW.seq ?_
  refine CW.region ?_
  refine LW.p rfl rfl ?_
  refine LW.nil ?_
  show CW _ _ _ _ _ _
  refine CW.block ?_
  obtain ⟨o36, ho36, h37⟩ := obind h
  refine CW.mono (CW.iter (σ := (List DBoot) × Int) (ρ := (List DBoot) × Int) (fun s5 e wb => En e [(0, .slice a0_0 x0.length c0_0), (3, .slice a2 s5.1.length c3), (4, .int .i64 s5.2)] ∧ St w0 [] wb [sl a2 c3 s5.1]) (fun s5 x e wb => x = .exit 0 ∧ En e [(3, .slice a2 s5.1.length c3)] ∧ St w0 [] wb [sl a2 c3 s5.1]) ?_ N (y1, 0) _ _ _ ⟨⟨rfl, rfl, rfl, trivial⟩, hS2.pick [0] rfl rfl⟩ ho36) ?_
  · intro s5 e w6 o hM h
    obtain ⟨hE, hS3⟩ := hM
    obtain ⟨e, rfl⟩ := hE.out
    refine CW.seq ?_
    refine CW.seq ?_
    refine CW.region ?_
    iterate 2 refine LW.p rfl rfl ?_
    refine LW.u (Pur.len Try.underlying22 rfl) rfl ?_
    refine LW.p rfl rfl ?_
    refine LW.nil ?_
    show CW _ _ _ _ _ _
    refine CW.cond rfl (fun hc7 => ?_) (fun hc7 => ?_)
    · replace h := bcT h hc7
      refine CW.skip ?_
      show CW _ _ _ _ _ _
      refine CW.seq ?_
      refine CW.block ?_
      refine CW.region ?_
      iterate 4 refine LW.p rfl rfl ?_
      replace h := obind h
      obtain ⟨y8, hy8, h⟩ := h
      obtain ⟨b11, o12, cs13, hae, hb16, hp9, hq10, hd14, hk15⟩ := hr0_0.idx hy8
      subst hae
      obtain ⟨a17, c18, a20, c21, rfl, hr19, hr22⟩ := hd14
      refine LW.u (Pur.ix Try.underlying22 sz89 rfl rfl hp9 hq10) rfl ?_
      refine LW.l (Ldr.oldN w0 ag89 rfl rfl (fun j u hu => hk15 j u hu)) (hS3.same _ hb16.1 hb16.2) rfl ?_
      replace h := obind h
      obtain ⟨y23, hy23, h⟩ := h
      have q := W_l_toPartBoot (w0 := w6) hy23 rfl (hS3.rB hr19) rfl (hS3.rB hr22)
      refine LW.call pl48 rfl rfl ?_
      refine Ret.mono q ?_
      rintro _ w28 ⟨a24, c25, a26, c27, rfl, hs⟩
      have hS4 := hS3.add hs
      replace h := obind h
      obtain ⟨y29, hy29, h⟩ := h
      obtain ⟨b32, o33, hae, hp30, hq31⟩ := hS4.ownIdx (α := DBoot) (i := 2) rfl hy29
      subst hae
      refine LW.u (Pur.ix Try.underlying32 sz94 rfl rfl hp30 hq31) rfl ?_
      have hS5 := hS4.pick (M := [sl a24 c25 y23.label.levels, sl a26 c27 y23.own] ++ [sl (some ⟨b32, o33, none⟩) c3 s5.1]) [0, 1, 2] rfl rfl
      replace h := obind h
      obtain ⟨y34, hy34, h⟩ := h
      refine LW.stE (M := [sl a24 c25 y23.label.levels, sl a26 c27 y23.own]) (L := [sl (some ⟨b32, o33, none⟩) c3 s5.1]) (z := y29) (z' := y23) (o := 0) hS5 (i := 0) rfl hy29 ag94 rfl (by show _ = o33 + (s5.2 : Int).toNat * 5 + 0; omega) rfl rfl rfl rfl (whole (fun w G hG => ⟨a24, c25, a26, c27, rfl, hG⟩)) ?_
      intro w35 hS6 hf
      rw [Option.some.inj hy34] at hS6
      refine LW.nil ?_
      show CW _ _ _ _ _ _
      refine CW.fresh (l := [(0, .slice (some ⟨b11, o12, none⟩) x0.length c0_0), (3, .slice (some ⟨b32, o33, none⟩) s5.1.length c3), (4, .int .i64 s5.2)]) ⟨rfl, rfl, rfl, trivial⟩ (fun e => ?_)
      refine CW.region ?_
      iterate 3 refine LW.p rfl rfl ?_
      refine LW.nil ?_
      replace h := Option.some.inj h
      subst h
      exact ⟨rfl, ⟨⟨rfl, (show (.slice (some ⟨b32, o33, none⟩) s5.1.length c3 : Value) = .slice (some ⟨b32, o33, none⟩) y34.length c3 by rw [show s5.1.length = y34.length from (len_set (Option.some.inj hy34))]), rfl, trivial⟩, hS6.pick [0] rfl rfl⟩⟩
    replace h := bcF h hc7
    refine CW.exit ?_
    replace h := Option.some.inj h
    subst h
    exact ⟨trivial, rfl, ⟨⟨rfl, trivial⟩, hS3.pick [0] rfl rfl⟩⟩
  intro x e w38 hM
  obtain ⟨rfl, hM⟩ := hM
  obtain ⟨hE, hS7⟩ := hM
  obtain ⟨e, rfl⟩ := hE.out
  have h := h37
  show CW _ _ _ _ _ _
  refine CW.seq ?_
  refine CW.region ?_
  iterate 2 refine LW.p rfl rfl ?_
  refine LW.nil ?_
  show CW _ _ _ _ _ _
  refine CW.ret ?_
  cases h
  exact And.intro trivial ⟨_, Res.one (resOne.t rfl), a2, c3, rfl, hS7.pick [0] rfl rfl⟩

theorem W_l_toCall {w0 : World} {N : Nat} {x0 : DCall} {r : DCall} (h : F_l_toCall N x0 = some r) :
    Ret Try.prog 121 #[.agg #[.int .i64 x0.kind, .int .i64 x0.a, .int .i64 x0.b, .int .i64 x0.c, .int .i64 x0.d, .int .i64 x0.e]] w0 (fun v w => v = .agg #[.int .i64 r.kind, .int .i64 r.a, .int .i64 r.b, .int .i64 r.c, .int .i64 r.d, .int .i64 r.e] ∧ St w0 [] w []) := by
  unfold F_l_toCall at h
  refine Ret.of Try.func121 rfl rfl rfl ?_
  have hS1 := St.start w0
  refine CW.seq ?_
  refine CW.region ?_
  refine LW.box (cs := [.int .i64 x0.kind, .int .i64 x0.a, .int .i64 x0.b, .int .i64 x0.c, .int .i64 x0.d, .int .i64 x0.e]) rfl hS1 rfl ?_
  intro g1 w2 hS2 hf
  refine LW.alloc zv103 hS2 rfl ?_
  intro g3 w4 hS3 hf
  refine LW.nil ?_
  show CW _ _ _ _ _ _
  refine CW.seq ?_
  refine CW.region ?_
  refine LW.alloc zv103 hS3 rfl ?_
  intro g5 w6 hS4 hf
  refine LW.nil ?_
  show CW _ _ _ _ _ _
  refine CW.seq ?_
  refine CW.region ?_
  refine LW.u (Pur.fa fo107_0 rfl) rfl ?_
  refine LW.ldb hS4 2 rfl ag3 rfl rfl rfl ?_
  refine LW.u (Pur.fa fo103_0 rfl) rfl ?_
  refine LW.stb hS4 0 rfl ag3 rfl rfl rfl rfl rfl ?_
  intro w7 hS5 hf
  refine LW.nil ?_
  show CW _ _ _ _ _ _
  refine CW.seq ?_
  refine CW.region ?_
  refine LW.u (Pur.fa fo107_1 rfl) rfl ?_
  refine LW.ldb hS5 2 rfl ag3 rfl rfl rfl ?_
  refine LW.u (Pur.fa fo103_1 rfl) rfl ?_
  refine LW.stb hS5 0 rfl ag3 rfl rfl rfl rfl rfl ?_
  intro w8 hS6 hf
  refine LW.nil ?_
  show CW _ _ _ _ _ _
  refine CW.seq ?_
  refine CW.region ?_
  refine LW.u (Pur.fa fo107_2 rfl) rfl ?_
  refine LW.ldb hS6 2 rfl ag3 rfl rfl rfl ?_
  refine LW.u (Pur.fa fo103_2 rfl) rfl ?_
  refine LW.stb hS6 0 rfl ag3 rfl rfl rfl rfl rfl ?_
  intro w9 hS7 hf
  refine LW.nil ?_
  show CW _ _ _ _ _ _
  refine CW.fresh (l := [(1, .pointer (some ⟨g1, 0, none⟩)), (2, .pointer (some ⟨g3, 0, none⟩)), (3, .pointer (some ⟨g5, 0, none⟩))]) ⟨rfl, rfl, rfl, trivial⟩ (fun e => ?_)
  refine CW.seq ?_
  refine CW.region ?_
  refine LW.u (Pur.fa fo107_3 rfl) rfl ?_
  refine LW.ldb hS7 2 rfl ag3 rfl rfl rfl ?_
  refine LW.u (Pur.fa fo103_3 rfl) rfl ?_
  refine LW.stb hS7 0 rfl ag3 rfl rfl rfl rfl rfl ?_
  intro w10 hS8 hf
  refine LW.nil ?_
  show CW _ _ _ _ _ _
  refine CW.seq ?_
  refine CW.region ?_
  refine LW.u (Pur.fa fo107_4 rfl) rfl ?_
  refine LW.ldb hS8 2 rfl ag3 rfl rfl rfl ?_
  refine LW.u (Pur.fa fo103_4 rfl) rfl ?_
  refine LW.stb hS8 0 rfl ag3 rfl rfl rfl rfl rfl ?_
  intro w11 hS9 hf
  refine LW.nil ?_
  show CW _ _ _ _ _ _
  refine CW.seq ?_
  refine CW.region ?_
  refine LW.u (Pur.fa fo107_5 rfl) rfl ?_
  refine LW.ldb hS9 2 rfl ag3 rfl rfl rfl ?_
  refine LW.u (Pur.fa fo103_5 rfl) rfl ?_
  refine LW.stb hS9 0 rfl ag3 rfl rfl rfl rfl rfl ?_
  intro w12 hS10 hf
  refine LW.nil ?_
  show CW _ _ _ _ _ _
  refine CW.seq ?_
  refine CW.region ?_
  refine LW.ldbN hS10 0 rfl ag103 rfl rfl rfl ?_
  refine LW.stb hS10 1 rfl ag103 rfl rfl rfl rfl rfl ?_
  intro w13 hS11 hf
  refine LW.nil ?_
  show CW _ _ _ _ _ _
  refine CW.fresh (l := [(2, .pointer (some ⟨g3, 0, none⟩))]) ⟨rfl, trivial⟩ (fun e => ?_)
  refine CW.ret ?_
  cases h
  exact And.intro trivial ⟨_, Res.one (resOne.b hS11 1 rfl ag103 rfl rfl), rfl, hS11.pick [] rfl rfl⟩

theorem W_l_toEntry {w0 : World} {N : Nat} {x0 : DEntry} {r : DEntry} (h : F_l_toEntry N x0 = some r) :
    Ret Try.prog 56 #[.agg #[.int .i64 x0.kind, .int .i64 x0.part, .int .i64 x0.thread, .int .i64 x0.call.kind, .int .i64 x0.call.a, .int .i64 x0.call.b, .int .i64 x0.call.c, .int .i64 x0.call.d, .int .i64 x0.call.e]] w0 (fun v w => v = .agg #[.int .i64 r.kind, .int .i64 r.part, .int .i64 r.thread, .int .i64 r.call.kind, .int .i64 r.call.a, .int .i64 r.call.b, .int .i64 r.call.c, .int .i64 r.call.d, .int .i64 r.call.e] ∧ St w0 [] w []) := by
  unfold F_l_toEntry at h
  refine Ret.of Try.func56 rfl rfl rfl ?_
  have hS1 := St.start w0
  refine CW.seq ?_
  refine CW.region ?_
  refine LW.box (cs := [.int .i64 x0.kind, .int .i64 x0.part, .int .i64 x0.thread, .int .i64 x0.call.kind, .int .i64 x0.call.a, .int .i64 x0.call.b, .int .i64 x0.call.c, .int .i64 x0.call.d, .int .i64 x0.call.e]) rfl hS1 rfl ?_
  intro g1 w2 hS2 hf
  refine LW.alloc zv105 hS2 rfl ?_
  intro g3 w4 hS3 hf
  refine LW.nil ?_
  show CW _ _ _ _ _ _
  refine CW.seq ?_
  refine CW.region ?_
  refine LW.alloc zv105 hS3 rfl ?_
  intro g5 w6 hS4 hf
  refine LW.nil ?_
  show CW _ _ _ _ _ _
  refine CW.seq ?_
  refine CW.region ?_
  refine LW.u (Pur.fa fo109_0 rfl) rfl ?_
  refine LW.ldb hS4 2 rfl ag3 rfl rfl rfl ?_
  refine LW.u (Pur.fa fo105_0 rfl) rfl ?_
  refine LW.stb hS4 0 rfl ag3 rfl rfl rfl rfl rfl ?_
  intro w7 hS5 hf
  refine LW.nil ?_
  show CW _ _ _ _ _ _
  refine CW.seq ?_
  refine CW.region ?_
  refine LW.u (Pur.fa fo109_1 rfl) rfl ?_
  refine LW.ldb hS5 2 rfl ag3 rfl rfl rfl ?_
  refine LW.u (Pur.fa fo105_1 rfl) rfl ?_
  refine LW.stb hS5 0 rfl ag3 rfl rfl rfl rfl rfl ?_
  intro w8 hS6 hf
  refine LW.nil ?_
  show CW _ _ _ _ _ _
  refine CW.seq ?_
  refine CW.region ?_
  refine LW.u (Pur.fa fo109_2 rfl) rfl ?_
  refine LW.ldb hS6 2 rfl ag3 rfl rfl rfl ?_
  refine LW.u (Pur.fa fo105_2 rfl) rfl ?_
  refine LW.stb hS6 0 rfl ag3 rfl rfl rfl rfl rfl ?_
  intro w9 hS7 hf
  refine LW.nil ?_
  show CW _ _ _ _ _ _
  refine CW.fresh (l := [(1, .pointer (some ⟨g1, 0, none⟩)), (2, .pointer (some ⟨g3, 0, none⟩)), (3, .pointer (some ⟨g5, 0, none⟩))]) ⟨rfl, rfl, rfl, trivial⟩ (fun e => ?_)
  refine CW.seq ?_
  refine CW.region ?_
  refine LW.u (Pur.fa fo109_3 rfl) rfl ?_
  refine LW.ldbN hS7 2 rfl ag107 rfl rfl rfl ?_
  replace h := obind h
  obtain ⟨y10, hy10, h⟩ := h
  have q := W_l_toCall (w0 := w9) hy10
  refine LW.call pl121 rfl rfl ?_
  refine Ret.mono q ?_
  rintro _ w11 ⟨rfl, hs⟩
  have hS8 := hS7.add hs
  refine LW.u (Pur.fa fo105_3 rfl) rfl ?_
  refine LW.stb hS8 0 rfl ag103 rfl rfl rfl rfl rfl ?_
  intro w12 hS9 hf
  refine LW.nil ?_
  show CW _ _ _ _ _ _
  refine CW.seq ?_
  refine CW.region ?_
  refine LW.ldbN hS9 0 rfl ag105 rfl rfl rfl ?_
  refine LW.stb hS9 1 rfl ag105 rfl rfl rfl rfl rfl ?_
  intro w13 hS10 hf
  refine LW.nil ?_
  show CW _ _ _ _ _ _
  refine CW.ret ?_
  cases h
  exact And.intro trivial ⟨_, Res.one (resOne.b hS10 1 rfl ag105 rfl rfl), rfl, hS10.pick [] rfl rfl⟩

theorem W_l_toEntryS {w0 : World} {N : Nat} {x0 : List DEntry} {r : (List DEntry)} (h : F_l_toEntryS N x0 = some r) {a0_0 : Option Addr} {n0_0 c0_0 : Nat} (hn0_0 : n0_0 = x0.length) (hr0_0 : rdS (Bor w0 []) w0 a0_0 c0_0 x0) :
    Ret Try.prog 15 #[.slice a0_0 n0_0 c0_0] w0 (fun v w => ∃ ar0 cr0, v = .slice ar0 r.length cr0 ∧ St w0 [] w [sl ar0 cr0 r]) := by
  subst hn0_0
  unfold F_l_toEntryS at h
  refine Ret.of Try.func15 rfl rfl rfl ?_
  have hS1 := St.start w0
  refine CW.seq ?_
  refine CW.region ?_
  refine LW.p rfl rfl ?_
  refine LW.nil ?_
  show CW _ _ _ _ _ _
  refine CW.seq ?_
  refine CW.region ?_
  refine LW.p rfl rfl ?_
  refine LW.u (Pur.len Try.underlying23 rfl) rfl ?_
  replace h := obind h
  obtain ⟨y1, hy1, h⟩ := h
  refine LW.mk sT30 rfl rfl hy1 hS1 rfl ?_
  intro a2 c3 w4 hS2 hf
  refine LW.p rfl rfl ?_
  refine LW.nil ?_
  show CW _ _ _ _ _ _
  refine CW.seq ?_
  refine CW.seq ?_
  refine CW.region ?_
  refine LW.p rfl rfl ?_
  refine LW.nil ?_
  show CW _ _ _ _ _ _
  refine CW.block ?_
  obtain ⟨o26, ho26, h27⟩ := obind h
  refine CW.mono (CW.iter (σ := (List DEntry) × Int) (ρ := (List DEntry) × Int) (fun s5 e wb => En e [(0, .slice a0_0 x0.length c0_0), (3, .slice a2 s5.1.length c3), (4, .int .i64 s5.2)] ∧ St w0 [] wb [sl a2 c3 s5.1]) (fun s5 x e wb => x = .exit 0 ∧ En e [(3, .slice a2 s5.1.length c3)] ∧ St w0 [] wb [sl a2 c3 s5.1]) ?_ N (y1, 0) _ _ _ ⟨⟨rfl, rfl, rfl, trivial⟩, hS2.pick [0] rfl rfl⟩ ho26) ?_
  · intro s5 e w6 o hM h
    obtain ⟨hE, hS3⟩ := hM
    obtain ⟨e, rfl⟩ := hE.out
    refine CW.seq ?_
    refine CW.seq ?_
    refine CW.region ?_
    iterate 2 refine LW.p rfl rfl ?_
    refine LW.u (Pur.len Try.underlying23 rfl) rfl ?_
    refine LW.p rfl rfl ?_
    refine LW.nil ?_
    show CW _ _ _ _ _ _
    refine CW.cond rfl (fun hc7 => ?_) (fun hc7 => ?_)
    · replace h := bcT h hc7
      refine CW.skip ?_
      show CW _ _ _ _ _ _
      refine CW.seq ?_
      refine CW.block ?_
      refine CW.region ?_
      iterate 4 refine LW.p rfl rfl ?_
      replace h := obind h
      obtain ⟨y8, hy8, h⟩ := h
      obtain ⟨b11, o12, cs13, hae, hb16, hp9, hq10, hd14, hk15⟩ := hr0_0.idx hy8
      subst hae
      obtain rfl := hd14
      refine LW.u (Pur.ix Try.underlying23 sz109 rfl rfl hp9 hq10) rfl ?_
      refine LW.l (Ldr.oldN w0 ag109 rfl rfl (fun j u hu => hk15 j u hu)) (hS3.same _ hb16.1 hb16.2) rfl ?_
      replace h := obind h
      obtain ⟨y17, hy17, h⟩ := h
      have q := W_l_toEntry (w0 := w6) hy17
      refine LW.call pl56 rfl rfl ?_
      refine Ret.mono q ?_
      rintro _ w18 ⟨rfl, hs⟩
      have hS4 := hS3.add hs
      replace h := obind h
      obtain ⟨y19, hy19, h⟩ := h
      obtain ⟨b22, o23, hae, hp20, hq21⟩ := hS4.ownIdx (α := DEntry) (i := 0) rfl hy19
      subst hae
      refine LW.u (Pur.ix Try.underlying30 sz105 rfl rfl hp20 hq21) rfl ?_
      replace h := obind h
      obtain ⟨y24, hy24, h⟩ := h
      refine LW.stE (M := []) (L := [sl (some ⟨b22, o23, none⟩) c3 s5.1]) (z := y19) (z' := y17) (o := 0) hS4 (i := 0) rfl hy19 ag105 rfl (by show _ = o23 + (s5.2 : Int).toNat * 9 + 0; omega) rfl rfl rfl rfl (whole (fun w G hG => by cases (show G = [] from hG); exact ⟨rfl, rfl⟩)) ?_
      intro w25 hS5 hf
      rw [Option.some.inj hy24] at hS5
      refine LW.nil ?_
      show CW _ _ _ _ _ _
      refine CW.fresh (l := [(0, .slice (some ⟨b11, o12, none⟩) x0.length c0_0), (3, .slice (some ⟨b22, o23, none⟩) s5.1.length c3), (4, .int .i64 s5.2)]) ⟨rfl, rfl, rfl, trivial⟩ (fun e => ?_)
      refine CW.region ?_
      iterate 3 refine LW.p rfl rfl ?_
      refine LW.nil ?_
      replace h := Option.some.inj h
      subst h
      exact ⟨rfl, ⟨⟨rfl, (show (.slice (some ⟨b22, o23, none⟩) s5.1.length c3 : Value) = .slice (some ⟨b22, o23, none⟩) y24.length c3 by rw [show s5.1.length = y24.length from (len_set (Option.some.inj hy24))]), rfl, trivial⟩, hS5.pick [0] rfl rfl⟩⟩
    replace h := bcF h hc7
    refine CW.exit ?_
    replace h := Option.some.inj h
    subst h
    exact ⟨trivial, rfl, ⟨⟨rfl, trivial⟩, hS3.pick [0] rfl rfl⟩⟩
  intro x e w28 hM
  obtain ⟨rfl, hM⟩ := hM
  obtain ⟨hE, hS6⟩ := hM
  obtain ⟨e, rfl⟩ := hE.out
  have h := h27
  show CW _ _ _ _ _ _
  refine CW.seq ?_
  refine CW.region ?_
  iterate 2 refine LW.p rfl rfl ?_
  refine LW.nil ?_
  show CW _ _ _ _ _ _
  refine CW.ret ?_
  cases h
  exact And.intro trivial ⟨_, Res.one (resOne.t rfl), a2, c3, rfl, hS6.pick [0] rfl rfl⟩

theorem W_s_Seen {w0 : World} {N : Nat} {x0 : List DBoot} {x1 : DEntry} {x2 : DLabel} {r : Bool} (h : F_s_Seen N x0 x1 x2 = some r) {a0_0 : Option Addr} {n0_0 c0_0 : Nat} (hn0_0 : n0_0 = x0.length) (hr0_0 : rdS (Bor w0 []) w0 a0_0 c0_0 x0) {a2_0 : Option Addr} {n2_0 c2_0 : Nat} (hn2_0 : n2_0 = x2.levels.length) (hr2_0 : rdS (Bor w0 []) w0 a2_0 c2_0 x2.levels) :
    Ret Try.prog 55 #[.slice a0_0 n0_0 c0_0, .agg #[.int .i64 x1.kind, .int .i64 x1.part, .int .i64 x1.thread, .int .i64 x1.call.kind, .int .i64 x1.call.a, .int .i64 x1.call.b, .int .i64 x1.call.c, .int .i64 x1.call.d, .int .i64 x1.call.e], .agg #[.slice a2_0 n2_0 c2_0]] w0 (fun v w => v = .bool r ∧ St w0 [] w []) := by
  subst hn0_0
  subst hn2_0
  unfold F_s_Seen at h
  refine Ret.of Try.func55 rfl rfl rfl ?_
  have hS1 := St.start w0
  refine CW.seq ?_
  refine CW.region ?_
  refine LW.box (cs := [.int .i64 x1.kind, .int .i64 x1.part, .int .i64 x1.thread, .int .i64 x1.call.kind, .int .i64 x1.call.a, .int .i64 x1.call.b, .int .i64 x1.call.c, .int .i64 x1.call.d, .int .i64 x1.call.e]) rfl hS1 rfl ?_
  intro g1 w2 hS2 hf
  refine LW.box (cs := [.slice a2_0 x2.levels.length c2_0]) rfl hS2 rfl ?_
  intro g3 w4 hS3 hf
  refine LW.p rfl rfl ?_
  refine LW.nil ?_
  show CW _ _ _ _ _ _
  refine CW.seq ?_
  refine CW.seq ?_
  refine CW.region ?_
  refine LW.u (Pur.fa fo105_0 rfl) rfl ?_
  refine LW.ldb hS3 1 rfl ag3 rfl rfl rfl ?_
  refine LW.p rfl rfl ?_
  refine LW.nil ?_
  show CW _ _ _ _ _ _
  refine CW.cond rfl (fun hc5 => ?_) (fun hc5 => ?_)
  · replace h := bcT h hc5
    refine CW.seq ?_
    refine CW.region ?_
    refine LW.p rfl rfl ?_
    refine LW.nil ?_
    show CW _ _ _ _ _ _
    refine CW.ret ?_
    cases h
    exact And.intro trivial ⟨_, Res.one (resOne.t rfl), rfl, hS3.pick [] rfl rfl⟩
  replace h := bcF h hc5
  refine CW.skip ?_
  show CW _ _ _ _ _ _
  refine CW.seq ?_
  refine CW.draw (by kernel_rfl) ?_
  have hS4 := hS3.drew
  refine AW.u (i := 0) rfl (by kernel_rfl) rfl rfl (Pur.fa fo105_1 rfl) ?_
  refine AW.take (i := 1) rfl (by kernel_rfl) rfl rfl (Ldr.box (bt := 105) (fr := (0, 0)) (cs := [.int .i64 x1.kind, .int .i64 x1.part, .int .i64 x1.thread, .int .i64 x1.call.kind, .int .i64 x1.call.a, .int .i64 x1.call.b, .int .i64 x1.call.c, .int .i64 x1.call.d, .int .i64 x1.call.e]) ag3 rfl rfl) (St.cell (h := hS4) (i := 1) rfl) ?_
  refine AW.u (i := 2) rfl (by kernel_rfl) rfl rfl (Pur.p rfl) ?_
  refine AW.u (i := 3) rfl (by kernel_rfl) rfl rfl (Pur.len Try.underlying32 rfl) ?_
  refine AW.u (i := 4) rfl (by kernel_rfl) rfl rfl (Pur.p rfl) ?_
  replace h := obind h
  obtain ⟨y6, hy6, h⟩ := h
  have q := W_s_l1In (w0 := w4.drew) hy6
  refine AW.one (i := 5) (by kernel_rfl) ?_
  refine ⟨_, rfl, ?_⟩
  refine LW.call pl81 rfl rfl ?_
  refine Ret.mono q ?_
  rintro _ w7 ⟨rfl, hs⟩
  have hS5 := hS4.add hs
  refine LW.nil ⟨rfl, (.w (by kernel_rfl) Kept.n), ?_⟩
  refine AW.u (i := 6) rfl (by kernel_rfl) rfl rfl (Pur.p rfl) ?_
  rcases bcases y6 with hc8 | hc8
  · replace h := bcT h hc8
    refine AW.u (i := 7) rfl (by kernel_rfl) (want_of rfl rfl hc8) rfl (Pur.p rfl) ?_
    refine AW.u (i := 8) rfl (by kernel_rfl) (want_of rfl rfl hc8) rfl (Pur.fa fo105_1 rfl) ?_
    refine AW.take (i := 9) rfl (by kernel_rfl) (want_of rfl rfl hc8) rfl (Ldr.box (bt := 105) (fr := (0, 0)) (cs := [.int .i64 x1.kind, .int .i64 x1.part, .int .i64 x1.thread, .int .i64 x1.call.kind, .int .i64 x1.call.a, .int .i64 x1.call.b, .int .i64 x1.call.c, .int .i64 x1.call.d, .int .i64 x1.call.e]) ag3 rfl rfl) (St.cell (h := hS5) (i := 1) rfl) ?_
    replace h := obind h
    obtain ⟨y9, hy9, h⟩ := h
    obtain ⟨b12, o13, cs14, hae, hb17, hp10, hq11, hd15, hk16⟩ := hr0_0.idx hy9
    subst hae
    obtain ⟨a18, c19, a21, c22, rfl, hr20, hr23⟩ := hd15
    refine AW.u (i := 10) rfl (by kernel_rfl) (want_of rfl rfl hc8) rfl (Pur.ix Try.underlying32 sz94 rfl rfl hp10 hq11) ?_
    refine AW.u (i := 11) rfl (by kernel_rfl) (want_of rfl rfl hc8) rfl (Pur.fa fo94_0 rfl) ?_
    refine AW.take (i := 12) rfl (by kernel_rfl) (want_of rfl rfl hc8) rfl (Ldr.oldN w0 ag35 rfl rfl (fun j u hu => oldsub (m := 1) hk16 0 hu)) (hS5.same _ hb17.1 hb17.2) ?_
    refine AW.take (i := 13) rfl (by kernel_rfl) (want_of rfl rfl hc8) rfl (Ldr.boxN (bt := 35) (fr := (0, 0)) (cs := [.slice a2_0 x2.levels.length c2_0]) ag35 rfl rfl) (St.cell (h := hS5) (i := 0) rfl) ?_
    replace h := obind h
    obtain ⟨y24, hy24, h⟩ := h
    have q := W_s_Flows (w0 := w7) hy24 rfl (hS5.rB hr20) rfl (hS5.rB hr2_0)
    refine AW.one (i := 14) (by kernel_rfl) ?_
    refine ⟨_, rfl, ?_⟩
    refine LW.gY (want_of rfl rfl hc8) ?_
    refine LW.call pl91 rfl rfl ?_
    refine Ret.mono q ?_
    rintro _ w25 ⟨rfl, hs⟩
    have hS6 := hS5.add hs
    refine LW.nil ⟨rfl, (.w (by kernel_rfl) (.w (by kernel_rfl) (.c (St.cell (h := hS6) (i := 1) rfl) (.c (St.cell (h := hS6) (i := 1) rfl) Kept.n)))), ?_⟩
    refine AW.u (i := 15) rfl (by kernel_rfl) rfl rfl (Pur.pickT rfl hc8) ?_
    refine AW.u (i := 16) rfl (by kernel_rfl) rfl rfl (Pur.p rfl) ?_
    refine AW.done (by kernel_rfl) ?_
    show CW _ _ _ _ _ _
    refine CW.ret ?_
    cases h
    exact And.intro trivial ⟨_, Res.one (resOne.t rfl), rfl, hS6.pick [] rfl rfl⟩
  replace h := bcF h hc8
  refine AW.no (i := 7) rfl (by kernel_rfl) (want_not rfl rfl hc8) rfl ?_
  refine AW.no (i := 8) rfl (by kernel_rfl) (want_not rfl rfl hc8) rfl ?_
  refine AW.no (i := 9) rfl (by kernel_rfl) (want_not rfl rfl hc8) rfl ?_
  refine AW.no (i := 10) rfl (by kernel_rfl) (want_not rfl rfl hc8) rfl ?_
  refine AW.no (i := 11) rfl (by kernel_rfl) (want_not rfl rfl hc8) rfl ?_
  refine AW.no (i := 12) rfl (by kernel_rfl) (want_not rfl rfl hc8) rfl ?_
  refine AW.no (i := 13) rfl (by kernel_rfl) (want_not rfl rfl hc8) rfl ?_
  refine AW.no (i := 14) rfl (by kernel_rfl) (want_not rfl rfl hc8) rfl ?_
  refine AW.u (i := 15) rfl (by kernel_rfl) rfl rfl (Pur.pickF rfl hc8) ?_
  refine AW.u (i := 16) rfl (by kernel_rfl) rfl rfl (Pur.p rfl) ?_
  refine AW.done (by kernel_rfl) ?_
  show CW _ _ _ _ _ _
  refine CW.ret ?_
  cases h
  exact And.intro trivial ⟨_, Res.one (resOne.t rfl), rfl, hS5.pick [] rfl rfl⟩

theorem W_s_Purge {w0 : World} {N : Nat} {x0 : List DBoot} {x1 : List DEntry} {x2 : DLabel} {r : (List DEntry)} (h : F_s_Purge N x0 x1 x2 = some r) {a0_0 : Option Addr} {n0_0 c0_0 : Nat} (hn0_0 : n0_0 = x0.length) (hr0_0 : rdS (Bor w0 []) w0 a0_0 c0_0 x0) {a1_0 : Option Addr} {n1_0 c1_0 : Nat} (hn1_0 : n1_0 = x1.length) (hr1_0 : rdS (Bor w0 []) w0 a1_0 c1_0 x1) {a2_0 : Option Addr} {n2_0 c2_0 : Nat} (hn2_0 : n2_0 = x2.levels.length) (hr2_0 : rdS (Bor w0 []) w0 a2_0 c2_0 x2.levels) :
    Ret Try.prog 13 #[.slice a0_0 n0_0 c0_0, .slice a1_0 n1_0 c1_0, .agg #[.slice a2_0 n2_0 c2_0]] w0 (fun v w => ∃ ar0 cr0, v = .slice ar0 r.length cr0 ∧ St w0 [] w [sl ar0 cr0 r]) := by
  subst hn0_0
  subst hn1_0
  subst hn2_0
  unfold F_s_Purge at h
  refine Ret.of Try.func13 rfl rfl rfl ?_
  have hS1 := St.start w0
  refine CW.seq ?_
  refine CW.region ?_
  refine LW.box (cs := [.slice a2_0 x2.levels.length c2_0]) rfl hS1 rfl ?_
  intro g1 w2 hS2 hf
  refine LW.p rfl rfl ?_
  refine LW.nil ?_
  show CW _ _ _ _ _ _
  refine CW.seq ?_
  refine CW.region ?_
  refine LW.bsl (α := DEntry) (vs := []) (cs := #[]) (l := ([] : List DEntry)) rfl (by kernel_rfl) rfl rfl rfl (fun w => rfl) hS2 rfl ?_
  intro a3 c4 w5 hS3 hf
  refine LW.p rfl rfl ?_
  refine LW.nil ?_
  show CW _ _ _ _ _ _
  refine CW.seq ?_
  refine CW.seq ?_
  refine CW.region ?_
  refine LW.p rfl rfl ?_
  refine LW.nil ?_
  show CW _ _ _ _ _ _
  refine CW.block ?_
  obtain ⟨o26, ho26, h27⟩ := obind h
  refine CW.mono (CW.iter (σ := (List DEntry) × Int) (ρ := (List DEntry) × Int) (fun s6 e wb => ∃ (s6a0 : Option Addr), ∃ (s6c0 : Nat), En e [(0, .slice a0_0 x0.length c0_0), (1, .slice a1_0 x1.length c1_0), (5, .pointer (some ⟨g1, 0, none⟩)), (7, .slice s6a0 s6.1.length s6c0), (8, .int .i64 s6.2)] ∧ St w0 [] wb [sl s6a0 s6c0 s6.1, bx g1 35 [.slice a2_0 x2.levels.length c2_0]]) (fun s6 x e wb => x = .exit 0 ∧ ∃ (s6a0 : Option Addr), ∃ (s6c0 : Nat), En e [(7, .slice s6a0 s6.1.length s6c0)] ∧ St w0 [] wb [sl s6a0 s6c0 s6.1, bx g1 35 [.slice a2_0 x2.levels.length c2_0]]) ?_ N (([] : List DEntry), 0) _ _ _ ⟨a3, c4, ⟨rfl, rfl, rfl, rfl, rfl, trivial⟩, hS3.pick [0, 1] rfl rfl⟩ ho26) ?_
  · intro s6 e w7 o hM h
    obtain ⟨s6a0, s6c0, hE, hS4⟩ := hM
    obtain ⟨e, rfl⟩ := hE.out
    refine CW.seq ?_
    refine CW.seq ?_
    refine CW.region ?_
    iterate 2 refine LW.p rfl rfl ?_
    refine LW.u (Pur.len Try.underlying30 rfl) rfl ?_
    refine LW.p rfl rfl ?_
    refine LW.nil ?_
    show CW _ _ _ _ _ _
    refine CW.cond rfl (fun hc8 => ?_) (fun hc8 => ?_)
    · replace h := bcT h hc8
      refine CW.skip ?_
      show CW _ _ _ _ _ _
      refine CW.seq ?_
      refine CW.block ?_
      refine CW.seq ?_
      refine CW.draw (by kernel_rfl) ?_
      have hS5 := hS4.drew
      refine AW.u (i := 0) rfl (by kernel_rfl) rfl rfl (Pur.p rfl) ?_
      refine AW.u (i := 1) rfl (by kernel_rfl) rfl rfl (Pur.p rfl) ?_
      refine AW.u (i := 2) rfl (by kernel_rfl) rfl rfl (Pur.p rfl) ?_
      replace h := obind h
      obtain ⟨y9, hy9, h⟩ := h
      obtain ⟨b12, o13, cs14, hae, hb17, hp10, hq11, hd15, hk16⟩ := hr1_0.idx hy9
      subst hae
      obtain rfl := hd15
      refine AW.u (i := 3) rfl (by kernel_rfl) rfl rfl (Pur.ix Try.underlying30 sz105 rfl rfl hp10 hq11) ?_
      refine AW.take (i := 4) rfl (by kernel_rfl) rfl rfl (Ldr.oldN w0 ag105 rfl rfl (fun j u hu => hk16 j u hu)) (hS5.same _ hb17.1 hb17.2) ?_
      refine AW.take (i := 5) rfl (by kernel_rfl) rfl rfl (Ldr.boxN (bt := 35) (fr := (0, 0)) (cs := [.slice a2_0 x2.levels.length c2_0]) ag35 rfl rfl) (St.cell (h := hS5) (i := 1) rfl) ?_
      replace h := obind h
      obtain ⟨y18, hy18, h⟩ := h
      have q := W_s_Seen (w0 := w7.drew) hy18 rfl (hS5.rB hr0_0) rfl (hS5.rB hr2_0)
      refine AW.one (i := 6) (by kernel_rfl) ?_
      refine ⟨_, rfl, ?_⟩
      refine LW.call pl55 rfl rfl ?_
      refine Ret.mono q ?_
      rintro _ w19 ⟨rfl, hs⟩
      have hS6 := hS5.add hs
      refine LW.nil ⟨rfl, (.w (by kernel_rfl) (.w (by kernel_rfl) Kept.n)), ?_⟩
      refine AW.done (by kernel_rfl) ?_
      show CW _ _ _ _ _ _
      refine CW.cond rfl (fun hc20 => ?_) (fun hc20 => ?_)
      · replace h := bcT h hc20
        refine CW.region ?_
        iterate 3 refine LW.p rfl rfl ?_
        refine LW.u (Pur.ix Try.underlying30 sz105 rfl rfl hp10 hq11) rfl ?_
        refine LW.l (Ldr.oldN w0 ag105 rfl rfl (fun j u hu => hk16 j u hu)) (hS6.same _ hb17.1 hb17.2) rfl ?_
        replace h := obind h
        obtain ⟨y21, hy21, h⟩ := h
        refine LW.app1 (M := []) (L := [sl s6a0 s6c0 s6.1, bx g1 35 [.slice a2_0 x2.levels.length c2_0]]) (vs := #[.int .i64 y9.kind, .int .i64 y9.part, .int .i64 y9.thread, .int .i64 y9.call.kind, .int .i64 y9.call.a, .int .i64 y9.call.b, .int .i64 y9.call.c, .int .i64 y9.call.d, .int .i64 y9.call.e]) (i := 0) sT30 rfl (by kernel_rfl) rfl rfl hy21 hS6 rfl (fun w G hG => by cases (show G = [] from hG); exact ⟨rfl, rfl⟩) rfl rfl ?_
        intro v24 a22 c23 w25 hS7 hf
        refine LW.p rfl rfl ?_
        refine LW.nil ?_
        show CW _ _ _ _ _ _
        refine CW.fresh (l := [(0, .slice a0_0 x0.length c0_0), (1, .slice (some ⟨b12, o13, none⟩) x1.length c1_0), (5, .pointer (some ⟨g1, 0, none⟩)), (7, .slice a22 y21.length c23), (8, .int .i64 s6.2)]) ⟨rfl, rfl, rfl, rfl, rfl, trivial⟩ (fun e => ?_)
        refine CW.region ?_
        iterate 3 refine LW.p rfl rfl ?_
        refine LW.nil ?_
        replace h := Option.some.inj h
        subst h
        exact ⟨rfl, ⟨a22, c23, ⟨rfl, rfl, rfl, rfl, rfl, trivial⟩, hS7.pick [0, 1] rfl rfl⟩⟩
      replace h := bcF h hc20
      refine CW.skip ?_
      show CW _ _ _ _ _ _
      refine CW.region ?_
      iterate 3 refine LW.p rfl rfl ?_
      refine LW.nil ?_
      replace h := Option.some.inj h
      subst h
      exact ⟨rfl, ⟨s6a0, s6c0, ⟨rfl, rfl, rfl, rfl, rfl, trivial⟩, hS6.pick [0, 1] rfl rfl⟩⟩
    replace h := bcF h hc8
    refine CW.exit ?_
    replace h := Option.some.inj h
    subst h
    exact ⟨trivial, rfl, ⟨s6a0, s6c0, ⟨rfl, trivial⟩, hS4.pick [0, 1] rfl rfl⟩⟩
  intro x e w28 hM
  obtain ⟨rfl, hM⟩ := hM
  obtain ⟨s6a0, s6c0, hE, hS8⟩ := hM
  obtain ⟨e, rfl⟩ := hE.out
  have h := h27
  show CW _ _ _ _ _ _
  refine CW.seq ?_
  refine CW.region ?_
  iterate 2 refine LW.p rfl rfl ?_
  refine LW.nil ?_
  show CW _ _ _ _ _ _
  refine CW.ret ?_
  cases h
  exact And.intro trivial ⟨_, Res.one (resOne.t rfl), s6a0, s6c0, rfl, hS8.pick [0] rfl rfl⟩

theorem W_i_Seen {w0 : World} {N : Nat} {x0 : List DBoot} {x1 : DEntry} {x2 : DLabel} {r : Bool} (h : F_i_Seen N x0 x1 x2 = some r) {a0_0 : Option Addr} {n0_0 c0_0 : Nat} (hn0_0 : n0_0 = x0.length) (hr0_0 : rdS (Bor w0 []) w0 a0_0 c0_0 x0) {a2_0 : Option Addr} {n2_0 c2_0 : Nat} (hn2_0 : n2_0 = x2.levels.length) (hr2_0 : rdS (Bor w0 []) w0 a2_0 c2_0 x2.levels) :
    Ret Try.prog 58 #[.slice a0_0 n0_0 c0_0, .agg #[.int .i64 x1.kind, .int .i64 x1.part, .int .i64 x1.thread, .int .i64 x1.call.kind, .int .i64 x1.call.a, .int .i64 x1.call.b, .int .i64 x1.call.c, .int .i64 x1.call.d, .int .i64 x1.call.e], .agg #[.slice a2_0 n2_0 c2_0]] w0 (fun v w => v = .bool r ∧ St w0 [] w []) := by
  subst hn0_0
  subst hn2_0
  unfold F_i_Seen at h
  refine Ret.of Try.func58 rfl rfl rfl ?_
  have hS1 := St.start w0
  refine CW.seq ?_
  refine CW.region ?_
  refine LW.box (cs := [.int .i64 x1.kind, .int .i64 x1.part, .int .i64 x1.thread, .int .i64 x1.call.kind, .int .i64 x1.call.a, .int .i64 x1.call.b, .int .i64 x1.call.c, .int .i64 x1.call.d, .int .i64 x1.call.e]) rfl hS1 rfl ?_
  intro g1 w2 hS2 hf
  refine LW.box (cs := [.slice a2_0 x2.levels.length c2_0]) rfl hS2 rfl ?_
  intro g3 w4 hS3 hf
  refine LW.p rfl rfl ?_
  refine LW.nil ?_
  show CW _ _ _ _ _ _
  refine CW.seq ?_
  refine CW.draw (by kernel_rfl) ?_
  have hS4 := hS3.drew
  refine AW.u (i := 0) rfl (by kernel_rfl) rfl rfl (Pur.fa fo105_0 rfl) ?_
  refine AW.take (i := 1) rfl (by kernel_rfl) rfl rfl (Ldr.box (bt := 105) (fr := (0, 0)) (cs := [.int .i64 x1.kind, .int .i64 x1.part, .int .i64 x1.thread, .int .i64 x1.call.kind, .int .i64 x1.call.a, .int .i64 x1.call.b, .int .i64 x1.call.c, .int .i64 x1.call.d, .int .i64 x1.call.e]) ag3 rfl rfl) (St.cell (h := hS4) (i := 1) rfl) ?_
  refine AW.u (i := 2) rfl (by kernel_rfl) rfl rfl (Pur.p rfl) ?_
  refine AW.u (i := 3) rfl (by kernel_rfl) rfl rfl (Pur.p rfl) ?_
  rcases bcases (x1.kind == 1) with hc5 | hc5
  · replace h := bcT h hc5
    refine AW.no (i := 4) rfl (by kernel_rfl) (want_not rfl rfl hc5) rfl ?_
    refine AW.no (i := 5) rfl (by kernel_rfl) (want_not rfl rfl hc5) rfl ?_
    refine AW.no (i := 6) rfl (by kernel_rfl) (want_not rfl rfl hc5) rfl ?_
    refine AW.no (i := 7) rfl (by kernel_rfl) (want_not rfl rfl hc5) rfl ?_
    refine AW.no (i := 8) rfl (by kernel_rfl) (want_not rfl rfl hc5) rfl ?_
    refine AW.no (i := 9) rfl (by kernel_rfl) (want_not rfl rfl hc5) rfl ?_
    refine AW.no (i := 10) rfl (by kernel_rfl) (want_not rfl rfl hc5) rfl ?_
    refine AW.no (i := 11) rfl (by kernel_rfl) (want_undef rfl rfl) rfl ?_
    refine AW.no (i := 12) rfl (by kernel_rfl) (want_undef rfl rfl) rfl ?_
    refine AW.no (i := 13) rfl (by kernel_rfl) (want_undef rfl rfl) rfl ?_
    refine AW.no (i := 14) rfl (by kernel_rfl) (want_undef rfl rfl) rfl ?_
    refine AW.no (i := 15) rfl (by kernel_rfl) (want_undef rfl rfl) rfl ?_
    refine AW.no (i := 16) rfl (by kernel_rfl) (want_undef rfl rfl) rfl ?_
    refine AW.no (i := 17) rfl (by kernel_rfl) (want_undef rfl rfl) rfl ?_
    refine AW.no (i := 18) rfl (by kernel_rfl) (want_undef rfl rfl) rfl ?_
    refine AW.no (i := 19) rfl (by kernel_rfl) (want_not rfl rfl hc5) rfl ?_
    refine AW.u (i := 20) rfl (by kernel_rfl) rfl rfl (Pur.pickT rfl hc5) ?_
    refine AW.u (i := 21) rfl (by kernel_rfl) rfl rfl (Pur.p rfl) ?_
    refine AW.done (by kernel_rfl) ?_
    show CW _ _ _ _ _ _
    refine CW.ret ?_
    cases h
    exact And.intro trivial ⟨_, Res.one (resOne.t rfl), rfl, hS4.pick [] rfl rfl⟩
  replace h := bcF h hc5
  refine AW.u (i := 4) rfl (by kernel_rfl) (want_of rfl rfl hc5) rfl (Pur.fa fo105_1 rfl) ?_
  refine AW.take (i := 5) rfl (by kernel_rfl) (want_of rfl rfl hc5) rfl (Ldr.box (bt := 105) (fr := (0, 0)) (cs := [.int .i64 x1.kind, .int .i64 x1.part, .int .i64 x1.thread, .int .i64 x1.call.kind, .int .i64 x1.call.a, .int .i64 x1.call.b, .int .i64 x1.call.c, .int .i64 x1.call.d, .int .i64 x1.call.e]) ag3 rfl rfl) (St.cell (h := hS4) (i := 1) rfl) ?_
  refine AW.u (i := 6) rfl (by kernel_rfl) (want_of rfl rfl hc5) rfl (Pur.p rfl) ?_
  refine AW.u (i := 7) rfl (by kernel_rfl) (want_of rfl rfl hc5) rfl (Pur.len Try.underlying32 rfl) ?_
  refine AW.u (i := 8) rfl (by kernel_rfl) (want_of rfl rfl hc5) rfl (Pur.p rfl) ?_
  replace h := obind h
  obtain ⟨y6, hy6, h⟩ := h
  have q := W_i_within (w0 := w4.drew) hy6
  refine AW.one (i := 9) (by kernel_rfl) ?_
  refine ⟨_, rfl, ?_⟩
  refine LW.gY (want_of rfl rfl hc5) ?_
  refine LW.call pl86 rfl rfl ?_
  refine Ret.mono q ?_
  rintro _ w7 ⟨rfl, hs⟩
  have hS5 := hS4.add hs
  refine LW.nil ⟨rfl, (.w (by kernel_rfl) (.c (St.cell (h := hS5) (i := 1) rfl) Kept.n)), ?_⟩
  refine AW.u (i := 10) rfl (by kernel_rfl) (want_of rfl rfl hc5) rfl (Pur.p rfl) ?_
  rcases bcases y6 with hc8 | hc8
  · replace h := bcT h hc8
    refine AW.u (i := 11) rfl (by kernel_rfl) (want_of rfl rfl hc8) rfl (Pur.p rfl) ?_
    refine AW.u (i := 12) rfl (by kernel_rfl) (want_of rfl rfl hc8) rfl (Pur.fa fo105_1 rfl) ?_
    refine AW.take (i := 13) rfl (by kernel_rfl) (want_of rfl rfl hc8) rfl (Ldr.box (bt := 105) (fr := (0, 0)) (cs := [.int .i64 x1.kind, .int .i64 x1.part, .int .i64 x1.thread, .int .i64 x1.call.kind, .int .i64 x1.call.a, .int .i64 x1.call.b, .int .i64 x1.call.c, .int .i64 x1.call.d, .int .i64 x1.call.e]) ag3 rfl rfl) (St.cell (h := hS5) (i := 1) rfl) ?_
    replace h := obind h
    obtain ⟨y9, hy9, h⟩ := h
    obtain ⟨b12, o13, cs14, hae, hb17, hp10, hq11, hd15, hk16⟩ := hr0_0.idx hy9
    subst hae
    obtain ⟨a18, c19, a21, c22, rfl, hr20, hr23⟩ := hd15
    refine AW.u (i := 14) rfl (by kernel_rfl) (want_of rfl rfl hc8) rfl (Pur.ix Try.underlying32 sz94 rfl rfl hp10 hq11) ?_
    refine AW.u (i := 15) rfl (by kernel_rfl) (want_of rfl rfl hc8) rfl (Pur.fa fo94_0 rfl) ?_
    refine AW.take (i := 16) rfl (by kernel_rfl) (want_of rfl rfl hc8) rfl (Ldr.oldN w0 ag35 rfl rfl (fun j u hu => oldsub (m := 1) hk16 0 hu)) (hS5.same _ hb17.1 hb17.2) ?_
    refine AW.take (i := 17) rfl (by kernel_rfl) (want_of rfl rfl hc8) rfl (Ldr.boxN (bt := 35) (fr := (0, 0)) (cs := [.slice a2_0 x2.levels.length c2_0]) ag35 rfl rfl) (St.cell (h := hS5) (i := 0) rfl) ?_
    replace h := obind h
    obtain ⟨y24, hy24, h⟩ := h
    have q := W_i_Flows (w0 := w7) hy24 rfl (hS5.rB hr20) rfl (hS5.rB hr2_0)
    refine AW.one (i := 18) (by kernel_rfl) ?_
    refine ⟨_, rfl, ?_⟩
    refine LW.gY (want_of rfl rfl hc8) ?_
    refine LW.call pl93 rfl rfl ?_
    refine Ret.mono q ?_
    rintro _ w25 ⟨rfl, hs⟩
    have hS6 := hS5.add hs
    refine LW.nil ⟨rfl, (.w (by kernel_rfl) (.w (by kernel_rfl) (.c (St.cell (h := hS6) (i := 1) rfl) (.c (St.cell (h := hS6) (i := 1) rfl) (.c (St.cell (h := hS6) (i := 1) rfl) Kept.n))))), ?_⟩
    refine AW.u (i := 19) rfl (by kernel_rfl) (want_of rfl rfl hc5) rfl (Pur.pickT rfl hc8) ?_
    refine AW.u (i := 20) rfl (by kernel_rfl) rfl rfl (Pur.pickF rfl hc5) ?_
    refine AW.u (i := 21) rfl (by kernel_rfl) rfl rfl (Pur.p rfl) ?_
    refine AW.done (by kernel_rfl) ?_
    show CW _ _ _ _ _ _
    refine CW.ret ?_
    cases h
    exact And.intro trivial ⟨_, Res.one (resOne.t rfl), rfl, hS6.pick [] rfl rfl⟩
  replace h := bcF h hc8
  refine AW.no (i := 11) rfl (by kernel_rfl) (want_not rfl rfl hc8) rfl ?_
  refine AW.no (i := 12) rfl (by kernel_rfl) (want_not rfl rfl hc8) rfl ?_
  refine AW.no (i := 13) rfl (by kernel_rfl) (want_not rfl rfl hc8) rfl ?_
  refine AW.no (i := 14) rfl (by kernel_rfl) (want_not rfl rfl hc8) rfl ?_
  refine AW.no (i := 15) rfl (by kernel_rfl) (want_not rfl rfl hc8) rfl ?_
  refine AW.no (i := 16) rfl (by kernel_rfl) (want_not rfl rfl hc8) rfl ?_
  refine AW.no (i := 17) rfl (by kernel_rfl) (want_not rfl rfl hc8) rfl ?_
  refine AW.no (i := 18) rfl (by kernel_rfl) (want_not rfl rfl hc8) rfl ?_
  refine AW.u (i := 19) rfl (by kernel_rfl) (want_of rfl rfl hc5) rfl (Pur.pickF rfl hc8) ?_
  refine AW.u (i := 20) rfl (by kernel_rfl) rfl rfl (Pur.pickF rfl hc5) ?_
  refine AW.u (i := 21) rfl (by kernel_rfl) rfl rfl (Pur.p rfl) ?_
  refine AW.done (by kernel_rfl) ?_
  show CW _ _ _ _ _ _
  refine CW.ret ?_
  cases h
  exact And.intro trivial ⟨_, Res.one (resOne.t rfl), rfl, hS5.pick [] rfl rfl⟩

theorem W_i_Purge {w0 : World} {N : Nat} {x0 : List DBoot} {x1 : List DEntry} {x2 : DLabel} {r : (List DEntry)} (h : F_i_Purge N x0 x1 x2 = some r) {a0_0 : Option Addr} {n0_0 c0_0 : Nat} (hn0_0 : n0_0 = x0.length) (hr0_0 : rdS (Bor w0 []) w0 a0_0 c0_0 x0) {a1_0 : Option Addr} {n1_0 c1_0 : Nat} (hn1_0 : n1_0 = x1.length) (hr1_0 : rdS (Bor w0 []) w0 a1_0 c1_0 x1) {a2_0 : Option Addr} {n2_0 c2_0 : Nat} (hn2_0 : n2_0 = x2.levels.length) (hr2_0 : rdS (Bor w0 []) w0 a2_0 c2_0 x2.levels) :
    Ret Try.prog 17 #[.slice a0_0 n0_0 c0_0, .slice a1_0 n1_0 c1_0, .agg #[.slice a2_0 n2_0 c2_0]] w0 (fun v w => ∃ ar0 cr0, v = .slice ar0 r.length cr0 ∧ St w0 [] w [sl ar0 cr0 r]) := by
  subst hn0_0
  subst hn1_0
  subst hn2_0
  unfold F_i_Purge at h
  refine Ret.of Try.func17 rfl rfl rfl ?_
  have hS1 := St.start w0
  refine CW.seq ?_
  refine CW.region ?_
  refine LW.box (cs := [.slice a2_0 x2.levels.length c2_0]) rfl hS1 rfl ?_
  intro g1 w2 hS2 hf
  refine LW.p rfl rfl ?_
  refine LW.nil ?_
  show CW _ _ _ _ _ _
  refine CW.seq ?_
  refine CW.region ?_
  refine LW.bsl (α := DEntry) (vs := []) (cs := #[]) (l := ([] : List DEntry)) rfl (by kernel_rfl) rfl rfl rfl (fun w => rfl) hS2 rfl ?_
  intro a3 c4 w5 hS3 hf
  refine LW.p rfl rfl ?_
  refine LW.nil ?_
  show CW _ _ _ _ _ _
  refine CW.seq ?_
  refine CW.seq ?_
  refine CW.region ?_
  refine LW.p rfl rfl ?_
  refine LW.u (Pur.len Try.underlying30 rfl) rfl ?_
  refine LW.p rfl rfl ?_
  refine LW.nil ?_
  show CW _ _ _ _ _ _
  refine CW.block ?_
  obtain ⟨o29, ho29, h30⟩ := obind h
  refine CW.mono (CW.iter (σ := (List DEntry) × Int) (ρ := (List DEntry) × Int) (fun s6 e wb => ∃ (s6a0 : Option Addr), ∃ (s6c0 : Nat), En e [(0, .slice a0_0 x0.length c0_0), (5, .pointer (some ⟨g1, 0, none⟩)), (7, .slice s6a0 s6.1.length s6c0), (11, .slice a1_0 x1.length c1_0), (12, .int .i64 (x1.length : Int)), (13, .int .i64 s6.2)] ∧ St w0 [] wb [sl s6a0 s6c0 s6.1, bx g1 35 [.slice a2_0 x2.levels.length c2_0]]) (fun s6 x e wb => x = .exit 0 ∧ ∃ (s6a0 : Option Addr), ∃ (s6c0 : Nat), En e [(7, .slice s6a0 s6.1.length s6c0)] ∧ St w0 [] wb [sl s6a0 s6c0 s6.1, bx g1 35 [.slice a2_0 x2.levels.length c2_0]]) ?_ N (([] : List DEntry), 0) _ _ _ ⟨a3, c4, ⟨rfl, rfl, rfl, rfl, rfl, rfl, trivial⟩, hS3.pick [0, 1] rfl rfl⟩ ho29) ?_
  · intro s6 e w7 o hM h
    obtain ⟨s6a0, s6c0, hE, hS4⟩ := hM
    obtain ⟨e, rfl⟩ := hE.out
    refine CW.seq ?_
    refine CW.region ?_
    refine LW.p rfl rfl ?_
    refine LW.nil ?_
    show CW _ _ _ _ _ _
    refine CW.seq ?_
    refine CW.cond rfl (fun hc8 => ?_) (fun hc8 => ?_)
    · replace h := bcT h hc8
      refine CW.skip ?_
      show CW _ _ _ _ _ _
      refine CW.seq ?_
      refine CW.block ?_
      refine CW.seq ?_
      refine CW.region ?_
      replace h := obind h
      obtain ⟨y9, hy9, h⟩ := h
      obtain ⟨b12, o13, cs14, hae, hb17, hp10, hq11, hd15, hk16⟩ := hr1_0.idx hy9
      subst hae
      obtain rfl := hd15
      refine LW.u (Pur.ix Try.underlying30 sz105 rfl rfl hp10 hq11) rfl ?_
      refine LW.l (Ldr.oldN w0 ag105 rfl rfl (fun j u hu => hk16 j u hu)) (hS4.same _ hb17.1 hb17.2) rfl ?_
      refine LW.alloc zv105 hS4 rfl ?_
      intro g18 w19 hS5 hf
      refine LW.stb hS5 0 rfl ag105 rfl rfl rfl rfl rfl ?_
      intro w20 hS6 hf
      refine LW.nil ?_
      show CW _ _ _ _ _ _
      refine CW.fresh (l := [(0, .slice a0_0 x0.length c0_0), (5, .pointer (some ⟨g1, 0, none⟩)), (7, .slice s6a0 s6.1.length s6c0), (9, .pointer (some ⟨g18, 0, none⟩)), (11, .slice (some ⟨b12, o13, none⟩) x1.length c1_0), (12, .int .i64 (x1.length : Int)), (13, .int .i64 s6.2)]) ⟨rfl, rfl, rfl, rfl, rfl, rfl, rfl, trivial⟩ (fun e => ?_)
      refine CW.seq ?_
      refine CW.region ?_
      refine LW.p rfl rfl ?_
      refine LW.ldbN hS6 0 rfl ag105 rfl rfl rfl ?_
      refine LW.ldbN hS6 2 rfl ag35 rfl rfl rfl ?_
      replace h := obind h
      obtain ⟨y21, hy21, h⟩ := h
      have q := W_i_Seen (w0 := w20) hy21 rfl (hS6.rB hr0_0) rfl (hS6.rB hr2_0)
      refine LW.call pl58 rfl rfl ?_
      refine Ret.mono q ?_
      rintro _ w22 ⟨rfl, hs⟩
      have hS7 := hS6.add hs
      refine LW.nil ?_
      show CW _ _ _ _ _ _
      refine CW.cond rfl (fun hc23 => ?_) (fun hc23 => ?_)
      · replace h := bcT h hc23
        refine CW.region ?_
        refine LW.p rfl rfl ?_
        refine LW.ldbN hS7 0 rfl ag105 rfl rfl rfl ?_
        replace h := obind h
        obtain ⟨y24, hy24, h⟩ := h
        refine LW.app1 (M := []) (L := [bx g18 105 [.int .i64 y9.kind, .int .i64 y9.part, .int .i64 y9.thread, .int .i64 y9.call.kind, .int .i64 y9.call.a, .int .i64 y9.call.b, .int .i64 y9.call.c, .int .i64 y9.call.d, .int .i64 y9.call.e], sl s6a0 s6c0 s6.1, bx g1 35 [.slice a2_0 x2.levels.length c2_0]]) (vs := #[.int .i64 y9.kind, .int .i64 y9.part, .int .i64 y9.thread, .int .i64 y9.call.kind, .int .i64 y9.call.a, .int .i64 y9.call.b, .int .i64 y9.call.c, .int .i64 y9.call.d, .int .i64 y9.call.e]) (i := 1) sT30 rfl (by kernel_rfl) rfl rfl hy24 hS7 rfl (fun w G hG => by cases (show G = [] from hG); exact ⟨rfl, rfl⟩) rfl rfl ?_
        intro v27 a25 c26 w28 hS8 hf
        refine LW.p rfl rfl ?_
        refine LW.nil ?_
        show CW _ _ _ _ _ _
        refine CW.region ?_
        iterate 2 refine LW.p rfl rfl ?_
        refine LW.nil ?_
        replace h := Option.some.inj h
        subst h
        exact ⟨rfl, ⟨a25, c26, ⟨rfl, rfl, rfl, rfl, rfl, rfl, trivial⟩, hS8.pick [1, 2] rfl rfl⟩⟩
      replace h := bcF h hc23
      refine CW.skip ?_
      show CW _ _ _ _ _ _
      refine CW.region ?_
      iterate 2 refine LW.p rfl rfl ?_
      refine LW.nil ?_
      replace h := Option.some.inj h
      subst h
      exact ⟨rfl, ⟨s6a0, s6c0, ⟨rfl, rfl, rfl, rfl, rfl, rfl, trivial⟩, hS7.pick [1, 2] rfl rfl⟩⟩
    replace h := bcF h hc8
    refine CW.exit ?_
    replace h := Option.some.inj h
    subst h
    exact ⟨trivial, rfl, ⟨s6a0, s6c0, ⟨rfl, trivial⟩, hS4.pick [0, 1] rfl rfl⟩⟩
  intro x e w31 hM
  obtain ⟨rfl, hM⟩ := hM
  obtain ⟨s6a0, s6c0, hE, hS9⟩ := hM
  obtain ⟨e, rfl⟩ := hE.out
  have h := h30
  show CW _ _ _ _ _ _
  refine CW.seq ?_
  refine CW.region ?_
  iterate 2 refine LW.p rfl rfl ?_
  refine LW.nil ?_
  show CW _ _ _ _ _ _
  refine CW.ret ?_
  cases h
  exact And.intro trivial ⟨_, Res.one (resOne.t rfl), s6a0, s6c0, rfl, hS9.pick [0] rfl rfl⟩

theorem W_l_eqCall {w0 : World} {N : Nat} {x0 : DCall} {x1 : DCall} {r : Bool} (h : F_l_eqCall N x0 x1 = some r) :
    Ret Try.prog 122 #[.agg #[.int .i64 x0.kind, .int .i64 x0.a, .int .i64 x0.b, .int .i64 x0.c, .int .i64 x0.d, .int .i64 x0.e], .agg #[.int .i64 x1.kind, .int .i64 x1.a, .int .i64 x1.b, .int .i64 x1.c, .int .i64 x1.d, .int .i64 x1.e]] w0 (fun v w => v = .bool r ∧ St w0 [] w []) := by
  unfold F_l_eqCall at h
  refine Ret.of Try.func122 rfl rfl rfl ?_
  have hS1 := St.start w0
  refine CW.seq ?_
  refine CW.region ?_
  refine LW.box (cs := [.int .i64 x0.kind, .int .i64 x0.a, .int .i64 x0.b, .int .i64 x0.c, .int .i64 x0.d, .int .i64 x0.e]) rfl hS1 rfl ?_
  intro g1 w2 hS2 hf
  refine LW.box (cs := [.int .i64 x1.kind, .int .i64 x1.a, .int .i64 x1.b, .int .i64 x1.c, .int .i64 x1.d, .int .i64 x1.e]) rfl hS2 rfl ?_
  intro g3 w4 hS3 hf
  refine LW.p rfl rfl ?_
  refine LW.nil ?_
  show CW _ _ _ _ _ _
  refine CW.seq ?_
  refine CW.seq ?_
  refine CW.region ?_
  refine LW.u (Pur.fa fo103_0 rfl) rfl ?_
  refine LW.ldb hS3 1 rfl ag3 rfl rfl rfl ?_
  refine LW.u (Pur.fa fo103_0 rfl) rfl ?_
  refine LW.ldb hS3 0 rfl ag3 rfl rfl rfl ?_
  refine LW.p rfl rfl ?_
  refine LW.nil ?_
  show CW _ _ _ _ _ _
  refine CW.cond rfl (fun hc5 => ?_) (fun hc5 => ?_)
  · replace h := bcT h hc5
    refine CW.seq ?_
    refine CW.region ?_
    refine LW.p rfl rfl ?_
    refine LW.nil ?_
    show CW _ _ _ _ _ _
    refine CW.ret ?_
    cases h
    exact And.intro trivial ⟨_, Res.one (resOne.t rfl), rfl, hS3.pick [] rfl rfl⟩
  replace h := bcF h hc5
  refine CW.skip ?_
  show CW _ _ _ _ _ _
  refine CW.seq ?_
  refine CW.seq ?_
  refine CW.region ?_
  refine LW.u (Pur.fa fo103_1 rfl) rfl ?_
  refine LW.ldb hS3 1 rfl ag3 rfl rfl rfl ?_
  refine LW.u (Pur.fa fo103_1 rfl) rfl ?_
  refine LW.ldb hS3 0 rfl ag3 rfl rfl rfl ?_
  refine LW.p rfl rfl ?_
  refine LW.nil ?_
  show CW _ _ _ _ _ _
  refine CW.fresh (l := [(2, .pointer (some ⟨g1, 0, none⟩)), (3, .pointer (some ⟨g3, 0, none⟩)), (14, .bool (x0.a != x1.a))]) ⟨rfl, rfl, rfl, trivial⟩ (fun e => ?_)
  refine CW.cond rfl (fun hc6 => ?_) (fun hc6 => ?_)
  · replace h := bcT h hc6
    refine CW.seq ?_
    refine CW.region ?_
    refine LW.p rfl rfl ?_
    refine LW.nil ?_
    show CW _ _ _ _ _ _
    refine CW.ret ?_
    cases h
    exact And.intro trivial ⟨_, Res.one (resOne.t rfl), rfl, hS3.pick [] rfl rfl⟩
  replace h := bcF h hc6
  refine CW.skip ?_
  show CW _ _ _ _ _ _
  refine CW.seq ?_
  refine CW.seq ?_
  refine CW.region ?_
  refine LW.u (Pur.fa fo103_2 rfl) rfl ?_
  refine LW.ldb hS3 1 rfl ag3 rfl rfl rfl ?_
  refine LW.u (Pur.fa fo103_2 rfl) rfl ?_
  refine LW.ldb hS3 0 rfl ag3 rfl rfl rfl ?_
  refine LW.p rfl rfl ?_
  refine LW.nil ?_
  show CW _ _ _ _ _ _
  refine CW.cond rfl (fun hc7 => ?_) (fun hc7 => ?_)
  · replace h := bcT h hc7
    refine CW.seq ?_
    refine CW.region ?_
    refine LW.p rfl rfl ?_
    refine LW.nil ?_
    show CW _ _ _ _ _ _
    refine CW.ret ?_
    cases h
    exact And.intro trivial ⟨_, Res.one (resOne.t rfl), rfl, hS3.pick [] rfl rfl⟩
  replace h := bcF h hc7
  refine CW.skip ?_
  show CW _ _ _ _ _ _
  refine CW.seq ?_
  refine CW.seq ?_
  refine CW.region ?_
  refine LW.u (Pur.fa fo103_3 rfl) rfl ?_
  refine LW.ldb hS3 1 rfl ag3 rfl rfl rfl ?_
  refine LW.u (Pur.fa fo103_3 rfl) rfl ?_
  refine LW.ldb hS3 0 rfl ag3 rfl rfl rfl ?_
  refine LW.p rfl rfl ?_
  refine LW.nil ?_
  show CW _ _ _ _ _ _
  refine CW.cond rfl (fun hc8 => ?_) (fun hc8 => ?_)
  · replace h := bcT h hc8
    refine CW.seq ?_
    refine CW.region ?_
    refine LW.p rfl rfl ?_
    refine LW.nil ?_
    show CW _ _ _ _ _ _
    refine CW.ret ?_
    cases h
    exact And.intro trivial ⟨_, Res.one (resOne.t rfl), rfl, hS3.pick [] rfl rfl⟩
  replace h := bcF h hc8
  refine CW.skip ?_
  show CW _ _ _ _ _ _
  refine CW.seq ?_
  refine CW.seq ?_
  refine CW.region ?_
  refine LW.u (Pur.fa fo103_4 rfl) rfl ?_
  refine LW.ldb hS3 1 rfl ag3 rfl rfl rfl ?_
  refine LW.u (Pur.fa fo103_4 rfl) rfl ?_
  refine LW.ldb hS3 0 rfl ag3 rfl rfl rfl ?_
  refine LW.p rfl rfl ?_
  refine LW.nil ?_
  show CW _ _ _ _ _ _
  refine CW.fresh (l := [(2, .pointer (some ⟨g1, 0, none⟩)), (3, .pointer (some ⟨g3, 0, none⟩)), (29, .bool (x0.d != x1.d))]) ⟨rfl, rfl, rfl, trivial⟩ (fun e => ?_)
  refine CW.cond rfl (fun hc9 => ?_) (fun hc9 => ?_)
  · replace h := bcT h hc9
    refine CW.seq ?_
    refine CW.region ?_
    refine LW.p rfl rfl ?_
    refine LW.nil ?_
    show CW _ _ _ _ _ _
    refine CW.ret ?_
    cases h
    exact And.intro trivial ⟨_, Res.one (resOne.t rfl), rfl, hS3.pick [] rfl rfl⟩
  replace h := bcF h hc9
  refine CW.skip ?_
  show CW _ _ _ _ _ _
  refine CW.seq ?_
  refine CW.seq ?_
  refine CW.region ?_
  refine LW.u (Pur.fa fo103_5 rfl) rfl ?_
  refine LW.ldb hS3 1 rfl ag3 rfl rfl rfl ?_
  refine LW.u (Pur.fa fo103_5 rfl) rfl ?_
  refine LW.ldb hS3 0 rfl ag3 rfl rfl rfl ?_
  refine LW.p rfl rfl ?_
  refine LW.nil ?_
  show CW _ _ _ _ _ _
  refine CW.cond rfl (fun hc10 => ?_) (fun hc10 => ?_)
  · replace h := bcT h hc10
    refine CW.seq ?_
    refine CW.region ?_
    refine LW.p rfl rfl ?_
    refine LW.nil ?_
    show CW _ _ _ _ _ _
    refine CW.ret ?_
    cases h
    exact And.intro trivial ⟨_, Res.one (resOne.t rfl), rfl, hS3.pick [] rfl rfl⟩
  replace h := bcF h hc10
  refine CW.skip ?_
  show CW _ _ _ _ _ _
  refine CW.seq ?_
  refine CW.region ?_
  refine LW.p rfl rfl ?_
  refine LW.nil ?_
  show CW _ _ _ _ _ _
  refine CW.ret ?_
  cases h
  exact And.intro trivial ⟨_, Res.one (resOne.t rfl), rfl, hS3.pick [] rfl rfl⟩

theorem W_l_eqEntry {w0 : World} {N : Nat} {x0 : DEntry} {x1 : DEntry} {r : Bool} (h : F_l_eqEntry N x0 x1 = some r) :
    Ret Try.prog 59 #[.agg #[.int .i64 x0.kind, .int .i64 x0.part, .int .i64 x0.thread, .int .i64 x0.call.kind, .int .i64 x0.call.a, .int .i64 x0.call.b, .int .i64 x0.call.c, .int .i64 x0.call.d, .int .i64 x0.call.e], .agg #[.int .i64 x1.kind, .int .i64 x1.part, .int .i64 x1.thread, .int .i64 x1.call.kind, .int .i64 x1.call.a, .int .i64 x1.call.b, .int .i64 x1.call.c, .int .i64 x1.call.d, .int .i64 x1.call.e]] w0 (fun v w => v = .bool r ∧ St w0 [] w []) := by
  unfold F_l_eqEntry at h
  refine Ret.of Try.func59 rfl rfl rfl ?_
  have hS1 := St.start w0
  refine CW.seq ?_
  refine CW.region ?_
  refine LW.box (cs := [.int .i64 x0.kind, .int .i64 x0.part, .int .i64 x0.thread, .int .i64 x0.call.kind, .int .i64 x0.call.a, .int .i64 x0.call.b, .int .i64 x0.call.c, .int .i64 x0.call.d, .int .i64 x0.call.e]) rfl hS1 rfl ?_
  intro g1 w2 hS2 hf
  refine LW.box (cs := [.int .i64 x1.kind, .int .i64 x1.part, .int .i64 x1.thread, .int .i64 x1.call.kind, .int .i64 x1.call.a, .int .i64 x1.call.b, .int .i64 x1.call.c, .int .i64 x1.call.d, .int .i64 x1.call.e]) rfl hS2 rfl ?_
  intro g3 w4 hS3 hf
  refine LW.p rfl rfl ?_
  refine LW.nil ?_
  show CW _ _ _ _ _ _
  refine CW.seq ?_
  refine CW.seq ?_
  refine CW.region ?_
  refine LW.u (Pur.fa fo105_0 rfl) rfl ?_
  refine LW.ldb hS3 1 rfl ag3 rfl rfl rfl ?_
  refine LW.u (Pur.fa fo105_0 rfl) rfl ?_
  refine LW.ldb hS3 0 rfl ag3 rfl rfl rfl ?_
  refine LW.p rfl rfl ?_
  refine LW.nil ?_
  show CW _ _ _ _ _ _
  refine CW.cond rfl (fun hc5 => ?_) (fun hc5 => ?_)
  · replace h := bcT h hc5
    refine CW.seq ?_
    refine CW.region ?_
    refine LW.p rfl rfl ?_
    refine LW.nil ?_
    show CW _ _ _ _ _ _
    refine CW.ret ?_
    cases h
    exact And.intro trivial ⟨_, Res.one (resOne.t rfl), rfl, hS3.pick [] rfl rfl⟩
  replace h := bcF h hc5
  refine CW.skip ?_
  show CW _ _ _ _ _ _
  refine CW.seq ?_
  refine CW.seq ?_
  refine CW.region ?_
  refine LW.u (Pur.fa fo105_1 rfl) rfl ?_
  refine LW.ldb hS3 1 rfl ag3 rfl rfl rfl ?_
  refine LW.u (Pur.fa fo105_1 rfl) rfl ?_
  refine LW.ldb hS3 0 rfl ag3 rfl rfl rfl ?_
  refine LW.p rfl rfl ?_
  refine LW.nil ?_
  show CW _ _ _ _ _ _
  refine CW.fresh (l := [(2, .pointer (some ⟨g1, 0, none⟩)), (3, .pointer (some ⟨g3, 0, none⟩)), (14, .bool (x0.part != x1.part))]) ⟨rfl, rfl, rfl, trivial⟩ (fun e => ?_)
  refine CW.cond rfl (fun hc6 => ?_) (fun hc6 => ?_)
  · replace h := bcT h hc6
    refine CW.seq ?_
    refine CW.region ?_
    refine LW.p rfl rfl ?_
    refine LW.nil ?_
    show CW _ _ _ _ _ _
    refine CW.ret ?_
    cases h
    exact And.intro trivial ⟨_, Res.one (resOne.t rfl), rfl, hS3.pick [] rfl rfl⟩
  replace h := bcF h hc6
  refine CW.skip ?_
  show CW _ _ _ _ _ _
  refine CW.seq ?_
  refine CW.seq ?_
  refine CW.region ?_
  refine LW.u (Pur.fa fo105_2 rfl) rfl ?_
  refine LW.ldb hS3 1 rfl ag3 rfl rfl rfl ?_
  refine LW.u (Pur.fa fo105_2 rfl) rfl ?_
  refine LW.ldb hS3 0 rfl ag3 rfl rfl rfl ?_
  refine LW.p rfl rfl ?_
  refine LW.nil ?_
  show CW _ _ _ _ _ _
  refine CW.cond rfl (fun hc7 => ?_) (fun hc7 => ?_)
  · replace h := bcT h hc7
    refine CW.seq ?_
    refine CW.region ?_
    refine LW.p rfl rfl ?_
    refine LW.nil ?_
    show CW _ _ _ _ _ _
    refine CW.ret ?_
    cases h
    exact And.intro trivial ⟨_, Res.one (resOne.t rfl), rfl, hS3.pick [] rfl rfl⟩
  replace h := bcF h hc7
  refine CW.skip ?_
  show CW _ _ _ _ _ _
  refine CW.seq ?_
  refine CW.seq ?_
  refine CW.region ?_
  refine LW.u (Pur.fa fo105_3 rfl) rfl ?_
  refine LW.ldbN hS3 1 rfl ag103 rfl rfl rfl ?_
  refine LW.u (Pur.fa fo105_3 rfl) rfl ?_
  refine LW.ldbN hS3 0 rfl ag103 rfl rfl rfl ?_
  replace h := obind h
  obtain ⟨y8, hy8, h⟩ := h
  have q := W_l_eqCall (w0 := w4) hy8
  refine LW.call pl122 rfl rfl ?_
  refine Ret.mono q ?_
  rintro _ w9 ⟨rfl, hs⟩
  have hS4 := hS3.add hs
  refine LW.p rfl rfl ?_
  refine LW.nil ?_
  show CW _ _ _ _ _ _
  refine CW.cond rfl (fun hc10 => ?_) (fun hc10 => ?_)
  · replace h := bcT h hc10
    refine CW.seq ?_
    refine CW.region ?_
    refine LW.p rfl rfl ?_
    refine LW.nil ?_
    show CW _ _ _ _ _ _
    refine CW.ret ?_
    cases h
    exact And.intro trivial ⟨_, Res.one (resOne.t rfl), rfl, hS4.pick [] rfl rfl⟩
  replace h := bcF h hc10
  refine CW.skip ?_
  show CW _ _ _ _ _ _
  refine CW.seq ?_
  refine CW.region ?_
  refine LW.p rfl rfl ?_
  refine LW.nil ?_
  show CW _ _ _ _ _ _
  refine CW.ret ?_
  cases h
  exact And.intro trivial ⟨_, Res.one (resOne.t rfl), rfl, hS4.pick [] rfl rfl⟩

theorem W_l_eqEntryS {w0 : World} {N : Nat} {x0 : List DEntry} {x1 : List DEntry} {r : Bool} (h : F_l_eqEntryS N x0 x1 = some r) {a0_0 : Option Addr} {n0_0 c0_0 : Nat} (hn0_0 : n0_0 = x0.length) (hr0_0 : rdS (Bor w0 []) w0 a0_0 c0_0 x0) {a1_0 : Option Addr} {n1_0 c1_0 : Nat} (hn1_0 : n1_0 = x1.length) (hr1_0 : rdS (Bor w0 []) w0 a1_0 c1_0 x1) :
    Ret Try.prog 18 #[.slice a0_0 n0_0 c0_0, .slice a1_0 n1_0 c1_0] w0 (fun v w => v = .bool r ∧ St w0 [] w []) := by
  subst hn0_0
  subst hn1_0
  unfold F_l_eqEntryS at h
  refine Ret.of Try.func18 rfl rfl rfl ?_
  have hS1 := St.start w0
  refine CW.seq ?_
  refine CW.region ?_
  refine LW.p rfl rfl ?_
  refine LW.nil ?_
  show CW _ _ _ _ _ _
  refine CW.seq ?_
  refine CW.seq ?_
  refine CW.region ?_
  refine LW.p rfl rfl ?_
  refine LW.u (Pur.len Try.underlying30 rfl) rfl ?_
  refine LW.p rfl rfl ?_
  refine LW.u (Pur.len Try.underlying30 rfl) rfl ?_
  refine LW.p rfl rfl ?_
  refine LW.nil ?_
  show CW _ _ _ _ _ _
  refine CW.cond rfl (fun hc1 => ?_) (fun hc1 => ?_)
  · replace h := bcT h hc1
    refine CW.seq ?_
    refine CW.region ?_
    refine LW.p rfl rfl ?_
    refine LW.nil ?_
    show CW _ _ _ _ _ _
    refine CW.ret ?_
    cases h
    exact And.intro trivial ⟨_, Res.one (resOne.t rfl), rfl, hS1.pick [] rfl rfl⟩
  replace h := bcF h hc1
  refine CW.skip ?_
  show CW _ _ _ _ _ _
  refine CW.seq ?_
  refine CW.seq ?_
  refine CW.region ?_
  refine LW.p rfl rfl ?_
  refine LW.nil ?_
  show CW _ _ _ _ _ _
  refine CW.block ?_
  obtain ⟨o26, ho26, h27⟩ := obind h
  refine CW.mono (CW.iter (σ := Int) (ρ := Int ⊕ Bool) (fun s2 e wb => En e [(0, .slice a0_0 x0.length c0_0), (1, .slice a1_0 x1.length c1_0), (5, .int .i64 s2)] ∧ St w0 [] wb []) (fun o x e wb => match o with | .inl s2 => x = .exit 0 ∧ En e [] ∧ St w0 [] wb [] | .inr r => x = .ret ∧ ∃ u, u = r ∧ ∃ v, Res Try.prog Try.f18.results e wb v ∧ v = .bool u ∧ St w0 [] wb []) ?_ N 0 _ _ _ ⟨⟨rfl, rfl, rfl, trivial⟩, hS1.pick [] rfl rfl⟩ ho26) ?_
  · intro s2 e w3 o hM h
    obtain ⟨hE, hS2⟩ := hM
    obtain ⟨e, rfl⟩ := hE.out
    refine CW.seq ?_
    refine CW.seq ?_
    refine CW.region ?_
    iterate 2 refine LW.p rfl rfl ?_
    refine LW.u (Pur.len Try.underlying30 rfl) rfl ?_
    refine LW.p rfl rfl ?_
    refine LW.nil ?_
    show CW _ _ _ _ _ _
    refine CW.cond rfl (fun hc4 => ?_) (fun hc4 => ?_)
    · replace h := bcT h hc4
      refine CW.skip ?_
      show CW _ _ _ _ _ _
      refine CW.seq ?_
      refine CW.block ?_
      refine CW.seq ?_
      refine CW.draw (by kernel_rfl) ?_
      have hS3 := hS2.drew
      refine AW.u (i := 0) rfl (by kernel_rfl) rfl rfl (Pur.p rfl) ?_
      refine AW.u (i := 1) rfl (by kernel_rfl) rfl rfl (Pur.p rfl) ?_
      replace h := obind h
      obtain ⟨y5, hy5, h⟩ := h
      obtain ⟨b8, o9, cs10, hae, hb13, hp6, hq7, hd11, hk12⟩ := hr0_0.idx hy5
      subst hae
      obtain rfl := hd11
      refine AW.u (i := 2) rfl (by kernel_rfl) rfl rfl (Pur.ix Try.underlying30 sz105 rfl rfl hp6 hq7) ?_
      refine AW.take (i := 3) rfl (by kernel_rfl) rfl rfl (Ldr.oldN w0 ag105 rfl rfl (fun j u hu => hk12 j u hu)) (hS3.same _ hb13.1 hb13.2) ?_
      refine AW.u (i := 4) rfl (by kernel_rfl) rfl rfl (Pur.p rfl) ?_
      refine AW.u (i := 5) rfl (by kernel_rfl) rfl rfl (Pur.p rfl) ?_
      replace h := obind h
      obtain ⟨y14, hy14, h⟩ := h
      obtain ⟨b17, o18, cs19, hae, hb22, hp15, hq16, hd20, hk21⟩ := hr1_0.idx hy14
      subst hae
      obtain rfl := hd20
      refine AW.u (i := 6) rfl (by kernel_rfl) rfl rfl (Pur.ix Try.underlying30 sz105 rfl rfl hp15 hq16) ?_
      refine AW.take (i := 7) rfl (by kernel_rfl) rfl rfl (Ldr.oldN w0 ag105 rfl rfl (fun j u hu => hk21 j u hu)) (hS3.same _ hb22.1 hb22.2) ?_
      replace h := obind h
      obtain ⟨y23, hy23, h⟩ := h
      have q := W_l_eqEntry (w0 := w3.drew) hy23
      refine AW.one (i := 8) (by kernel_rfl) ?_
      refine ⟨_, rfl, ?_⟩
      refine LW.call pl59 rfl rfl ?_
      refine Ret.mono q ?_
      rintro _ w24 ⟨rfl, hs⟩
      have hS4 := hS3.add hs
      refine LW.nil ⟨rfl, (.w (by kernel_rfl) (.w (by kernel_rfl) Kept.n)), ?_⟩
      refine AW.u (i := 9) rfl (by kernel_rfl) rfl rfl (Pur.p rfl) ?_
      refine AW.done (by kernel_rfl) ?_
      show CW _ _ _ _ _ _
      refine CW.cond rfl (fun hc25 => ?_) (fun hc25 => ?_)
      · replace h := bcT h hc25
        refine CW.seq ?_
        refine CW.region ?_
        refine LW.p rfl rfl ?_
        refine LW.nil ?_
        show CW _ _ _ _ _ _
        refine CW.ret ?_
        replace h := Option.some.inj h
        subst h
        exact ⟨trivial, rfl, _, rfl, ⟨_, Res.one (resOne.t rfl), rfl, hS4.pick [] rfl rfl⟩⟩
      replace h := bcF h hc25
      refine CW.skip ?_
      show CW _ _ _ _ _ _
      refine CW.region ?_
      iterate 3 refine LW.p rfl rfl ?_
      refine LW.nil ?_
      replace h := Option.some.inj h
      subst h
      exact ⟨rfl, ⟨⟨rfl, rfl, rfl, trivial⟩, hS4.pick [] rfl rfl⟩⟩
    replace h := bcF h hc4
    refine CW.exit ?_
    replace h := Option.some.inj h
    subst h
    exact ⟨trivial, rfl, ⟨trivial, hS2.pick [] rfl rfl⟩⟩
  intro x e w28 hM
  rcases o26 with o26 | r29
  · obtain ⟨rfl, hM⟩ := hM
    obtain ⟨hE, hS5⟩ := hM
    obtain ⟨e, rfl⟩ := hE.out
    have h := h27
    show CW _ _ _ _ _ _
    refine CW.seq ?_
    refine CW.region ?_
    refine LW.p rfl rfl ?_
    refine LW.nil ?_
    show CW _ _ _ _ _ _
    refine CW.ret ?_
    cases h
    exact And.intro trivial ⟨_, Res.one (resOne.t rfl), rfl, hS5.pick [] rfl rfl⟩
  obtain ⟨rfl, u, rfl, hM⟩ := hM
  cases h27
  exact And.intro trivial hM

theorem W_l_eqPartBootS {w0 : World} {N : Nat} {x0 : List DBoot} {x1 : List DBoot} {r : Bool} (h : F_l_eqPartBootS N x0 x1 = some r) {a0_0 : Option Addr} {n0_0 c0_0 : Nat} (hn0_0 : n0_0 = x0.length) (hr0_0 : rdS (Bor w0 []) w0 a0_0 c0_0 x0) {a1_0 : Option Addr} {n1_0 c1_0 : Nat} (hn1_0 : n1_0 = x1.length) (hr1_0 : rdS (Bor w0 []) w0 a1_0 c1_0 x1) :
    Ret Try.prog 19 #[.slice a0_0 n0_0 c0_0, .slice a1_0 n1_0 c1_0] w0 (fun v w => v = .bool r ∧ St w0 [] w []) := by
  subst hn0_0
  subst hn1_0
  unfold F_l_eqPartBootS at h
  refine Ret.of Try.func19 rfl rfl rfl ?_
  have hS1 := St.start w0
  refine CW.seq ?_
  refine CW.region ?_
  refine LW.p rfl rfl ?_
  refine LW.nil ?_
  show CW _ _ _ _ _ _
  refine CW.seq ?_
  refine CW.seq ?_
  refine CW.region ?_
  refine LW.p rfl rfl ?_
  refine LW.u (Pur.len Try.underlying32 rfl) rfl ?_
  refine LW.p rfl rfl ?_
  refine LW.u (Pur.len Try.underlying32 rfl) rfl ?_
  refine LW.p rfl rfl ?_
  refine LW.nil ?_
  show CW _ _ _ _ _ _
  refine CW.cond rfl (fun hc1 => ?_) (fun hc1 => ?_)
  · replace h := bcT h hc1
    refine CW.seq ?_
    refine CW.region ?_
    refine LW.p rfl rfl ?_
    refine LW.nil ?_
    show CW _ _ _ _ _ _
    refine CW.ret ?_
    cases h
    exact And.intro trivial ⟨_, Res.one (resOne.t rfl), rfl, hS1.pick [] rfl rfl⟩
  replace h := bcF h hc1
  refine CW.skip ?_
  show CW _ _ _ _ _ _
  refine CW.seq ?_
  refine CW.seq ?_
  refine CW.region ?_
  refine LW.p rfl rfl ?_
  refine LW.nil ?_
  show CW _ _ _ _ _ _
  refine CW.block ?_
  obtain ⟨o38, ho38, h39⟩ := obind h
  refine CW.mono (CW.iter (σ := Int) (ρ := Int ⊕ Bool) (fun s2 e wb => En e [(0, .slice a0_0 x0.length c0_0), (1, .slice a1_0 x1.length c1_0), (5, .int .i64 s2)] ∧ St w0 [] wb []) (fun o x e wb => match o with | .inl s2 => x = .exit 0 ∧ En e [] ∧ St w0 [] wb [] | .inr r => x = .ret ∧ ∃ u, u = r ∧ ∃ v, Res Try.prog Try.f19.results e wb v ∧ v = .bool u ∧ St w0 [] wb []) ?_ N 0 _ _ _ ⟨⟨rfl, rfl, rfl, trivial⟩, hS1.pick [] rfl rfl⟩ ho38) ?_
  · intro s2 e w3 o hM h
    obtain ⟨hE, hS2⟩ := hM
    obtain ⟨e, rfl⟩ := hE.out
    refine CW.seq ?_
    refine CW.seq ?_
    refine CW.region ?_
    iterate 2 refine LW.p rfl rfl ?_
    refine LW.u (Pur.len Try.underlying32 rfl) rfl ?_
    refine LW.p rfl rfl ?_
    refine LW.nil ?_
    show CW _ _ _ _ _ _
    refine CW.cond rfl (fun hc4 => ?_) (fun hc4 => ?_)
    · replace h := bcT h hc4
      refine CW.skip ?_
      show CW _ _ _ _ _ _
      refine CW.seq ?_
      refine CW.block ?_
      refine CW.seq ?_
      refine CW.draw (by kernel_rfl) ?_
      have hS3 := hS2.drew
      refine AW.u (i := 0) rfl (by kernel_rfl) rfl rfl (Pur.p rfl) ?_
      refine AW.u (i := 1) rfl (by kernel_rfl) rfl rfl (Pur.p rfl) ?_
      replace h := obind h
      obtain ⟨y5, hy5, h⟩ := h
      obtain ⟨b8, o9, cs10, hae, hb13, hp6, hq7, hd11, hk12⟩ := hr0_0.idx hy5
      subst hae
      obtain ⟨a14, c15, a17, c18, rfl, hr16, hr19⟩ := hd11
      refine AW.u (i := 2) rfl (by kernel_rfl) rfl rfl (Pur.ix Try.underlying32 sz94 rfl rfl hp6 hq7) ?_
      refine AW.take (i := 3) rfl (by kernel_rfl) rfl rfl (Ldr.oldN w0 ag94 rfl rfl (fun j u hu => hk12 j u hu)) (hS3.same _ hb13.1 hb13.2) ?_
      refine AW.u (i := 4) rfl (by kernel_rfl) rfl rfl (Pur.p rfl) ?_
      refine AW.u (i := 5) rfl (by kernel_rfl) rfl rfl (Pur.p rfl) ?_
      replace h := obind h
      obtain ⟨y20, hy20, h⟩ := h
      obtain ⟨b23, o24, cs25, hae, hb28, hp21, hq22, hd26, hk27⟩ := hr1_0.idx hy20
      subst hae
      obtain ⟨a29, c30, a32, c33, rfl, hr31, hr34⟩ := hd26
      refine AW.u (i := 6) rfl (by kernel_rfl) rfl rfl (Pur.ix Try.underlying32 sz94 rfl rfl hp21 hq22) ?_
      refine AW.take (i := 7) rfl (by kernel_rfl) rfl rfl (Ldr.oldN w0 ag94 rfl rfl (fun j u hu => hk27 j u hu)) (hS3.same _ hb28.1 hb28.2) ?_
      replace h := obind h
      obtain ⟨y35, hy35, h⟩ := h
      have q := W_l_eqPartBoot (w0 := w3.drew) hy35 rfl (hS3.rB hr16) rfl (hS3.rB hr19) rfl (hS3.rB hr31) rfl (hS3.rB hr34)
      refine AW.one (i := 8) (by kernel_rfl) ?_
      refine ⟨_, rfl, ?_⟩
      refine LW.call pl50 rfl rfl ?_
      refine Ret.mono q ?_
      rintro _ w36 ⟨rfl, hs⟩
      have hS4 := hS3.add hs
      refine LW.nil ⟨rfl, (.w (by kernel_rfl) (.w (by kernel_rfl) Kept.n)), ?_⟩
      refine AW.u (i := 9) rfl (by kernel_rfl) rfl rfl (Pur.p rfl) ?_
      refine AW.done (by kernel_rfl) ?_
      show CW _ _ _ _ _ _
      refine CW.cond rfl (fun hc37 => ?_) (fun hc37 => ?_)
      · replace h := bcT h hc37
        refine CW.seq ?_
        refine CW.region ?_
        refine LW.p rfl rfl ?_
        refine LW.nil ?_
        show CW _ _ _ _ _ _
        refine CW.ret ?_
        replace h := Option.some.inj h
        subst h
        exact ⟨trivial, rfl, _, rfl, ⟨_, Res.one (resOne.t rfl), rfl, hS4.pick [] rfl rfl⟩⟩
      replace h := bcF h hc37
      refine CW.skip ?_
      show CW _ _ _ _ _ _
      refine CW.region ?_
      iterate 3 refine LW.p rfl rfl ?_
      refine LW.nil ?_
      replace h := Option.some.inj h
      subst h
      exact ⟨rfl, ⟨⟨rfl, rfl, rfl, trivial⟩, hS4.pick [] rfl rfl⟩⟩
    replace h := bcF h hc4
    refine CW.exit ?_
    replace h := Option.some.inj h
    subst h
    exact ⟨trivial, rfl, ⟨trivial, hS2.pick [] rfl rfl⟩⟩
  intro x e w40 hM
  rcases o38 with o38 | r41
  · obtain ⟨rfl, hM⟩ := hM
    obtain ⟨hE, hS5⟩ := hM
    obtain ⟨e, rfl⟩ := hE.out
    have h := h39
    show CW _ _ _ _ _ _
    refine CW.seq ?_
    refine CW.region ?_
    refine LW.p rfl rfl ?_
    refine LW.nil ?_
    show CW _ _ _ _ _ _
    refine CW.ret ?_
    cases h
    exact And.intro trivial ⟨_, Res.one (resOne.t rfl), rfl, hS5.pick [] rfl rfl⟩
  obtain ⟨rfl, u, rfl, hM⟩ := hM
  cases h39
  exact And.intro trivial hM

theorem W_l_markPartBootS {w0 : World} {F : List Nat} {N : Nat} {x0 : List DBoot} {x1 : Int} {r : Int × (List DBoot)} (h : F_l_markPartBootS N x0 x1 = some r) {a0_0 : Option Addr} {n0_0 c0_0 : Nat} (hn0_0 : n0_0 = x0.length) (hS : St w0 F w0 [sl a0_0 c0_0 x0]) :
    Ret Try.prog 21 #[.slice a0_0 n0_0 c0_0, .int .i64 x1] w0 (fun v w => v = .int .i64 r.1 ∧ St w0 F w [sl a0_0 c0_0 r.2]) := by
  subst hn0_0
  unfold F_l_markPartBootS at h
  refine Ret.of Try.func21 rfl rfl rfl ?_
  refine CW.seq ?_
  refine CW.region ?_
  refine LW.p rfl rfl ?_
  refine LW.nil ?_
  show CW _ _ _ _ _ _
  refine CW.seq ?_
  refine CW.seq ?_
  refine CW.region ?_
  refine LW.p rfl rfl ?_
  refine LW.nil ?_
  show CW _ _ _ _ _ _
  refine CW.block ?_
  obtain ⟨o50, ho50, h51⟩ := obind h
  refine CW.mono (CW.iter (σ := (List DBoot) × Int × Int) (ρ := (List DBoot) × Int × Int) (fun s1 e wb => En e [(0, .slice a0_0 s1.1.length c0_0), (1, .int .i64 s1.2.1), (5, .int .i64 s1.2.2)] ∧ St w0 F wb [sl a0_0 c0_0 s1.1]) (fun s1 x e wb => x = .exit 0 ∧ En e [(1, .int .i64 s1.2.1)] ∧ St w0 F wb [sl a0_0 c0_0 s1.1]) ?_ N (x0, x1, 0) _ _ _ ⟨⟨rfl, rfl, rfl, trivial⟩, hS.pick [0] rfl rfl⟩ ho50) ?_
  · intro s1 e w2 o hM h
    obtain ⟨hE, hS1⟩ := hM
    obtain ⟨e, rfl⟩ := hE.out
    refine CW.seq ?_
    refine CW.seq ?_
    refine CW.region ?_
    iterate 2 refine LW.p rfl rfl ?_
    refine LW.u (Pur.len Try.underlying32 rfl) rfl ?_
    refine LW.p rfl rfl ?_
    refine LW.nil ?_
    show CW _ _ _ _ _ _
    refine CW.cond rfl (fun hc3 => ?_) (fun hc3 => ?_)
    · replace h := bcT h hc3
      refine CW.skip ?_
      show CW _ _ _ _ _ _
      refine CW.seq ?_
      refine CW.block ?_
      refine CW.seq ?_
      refine CW.region ?_
      iterate 2 refine LW.p rfl rfl ?_
      replace h := obind h
      obtain ⟨y4, hy4, h⟩ := h
      obtain ⟨b7, o8, hae, hp5, hq6⟩ := hS1.ownIdx (α := DBoot) (i := 0) rfl hy4
      subst hae
      refine LW.u (Pur.ix Try.underlying32 sz94 rfl rfl hp5 hq6) rfl ?_
      refine LW.u (Pur.fa fo94_0 rfl) rfl ?_
      refine LW.u (Pur.fa fo35_0 rfl) rfl ?_
      obtain ⟨F9, ho10, hS2⟩ := hS1.freeze (α := DBoot) 0 rfl
      obtain ⟨b11, o12, cs13, hae, hb16, _, _, hd14, hk15⟩ := ho10.rdF.idx hy4
      cases hae
      obtain ⟨a17, c18, a20, c21, rfl, hr19, hr22⟩ := hd14
      refine LW.l (Ldr.old w2 ag24 rfl (hk15 0 _ rfl)) (hS2.zC 0 rfl hb16) rfl ?_
      refine LW.p rfl rfl ?_
      replace h := obind h
      obtain ⟨y23, hy23, h⟩ := h
      obtain ⟨q36, hy23', hq37⟩ := obind hy23
      obtain ⟨hl38, hq37⟩ := keepL_some hq37
      rw [Option.some.inj hq37] at hy23' hl38
      have hn24 := fun (j : Nat) (u : Value) (hu : ([.slice a17 y4.label.levels.length c18, .slice a20 y4.own.length c21, .int .i64 y4.amt.pages, .int .i64 y4.amt.rent, .int .i64 y4.amt.cpu] : List Value)[j]? = some u) => (World.cell?_of_block (hS2.zC 0 rfl hb16)).trans (hk15 j u hu)
      have hS3 := hS2.thaw (α := DBoot) 0 rfl ho10
      obtain ⟨Fx25, ho26, hf27⟩ := hS3.focus (α := DBoot) (cs := [.slice a17 y4.label.levels.length c18, .slice a20 y4.own.length c21, .int .i64 y4.amt.pages, .int .i64 y4.amt.rent, .int .i64 y4.amt.cpu]) 0 rfl hy4 rfl hn24
      obtain ⟨a30, c31, a32, c33, hc28, hH29⟩ := ho26
      cases hc28
      have hS4 := hf27 [sl a17 c18 y4.label.levels, sl a20 c21 y4.own] hH29
      have hS5 := hS4.pick (M := [sl a17 c18 y4.label.levels] ++ [sl a20 c21 y4.own, hole DBoot (some ⟨b7, o8, none⟩) c0_0 s1.1 (s1.2.2 : Int).toNat [.slice a17 y4.label.levels.length c18, .slice a20 y4.own.length c21, .int .i64 y4.amt.pages, .int .i64 y4.amt.rent, .int .i64 y4.amt.cpu]]) [0, 1, 2] rfl rfl
      obtain ⟨F34, hL35⟩ := St.lend (L := [sl a17 c18 y4.label.levels]) (M := [sl a20 c21 y4.own, hole DBoot (some ⟨b7, o8, none⟩) c0_0 s1.1 (s1.2.2 : Int).toNat [.slice a17 y4.label.levels.length c18, .slice a20 y4.own.length c21, .int .i64 y4.amt.pages, .int .i64 y4.amt.rent, .int .i64 y4.amt.cpu]]) hS5
      have q := W_l_markIntS (w0 := w2) hy23' rfl hL35.st
      refine LW.call pl61 rfl rfl ?_
      refine Ret.mono q ?_
      rintro _ w39 ⟨rfl, hs⟩
      have hS6 := hL35.back _ _ hs
      refine LW.p rfl rfl ?_
      refine LW.nil ?_
      show CW _ _ _ _ _ _
      refine CW.fresh (l := [(0, .slice (some ⟨b7, o8, none⟩) s1.1.length c0_0), (1, .int .i64 y23.1), (5, .int .i64 s1.2.2)]) ⟨rfl, rfl, rfl, trivial⟩ (fun e => ?_)
      refine CW.seq ?_
      refine CW.region ?_
      iterate 2 refine LW.p rfl rfl ?_
      refine LW.u (Pur.ix Try.underlying32 sz94 rfl rfl hp5 hq6) rfl ?_
      refine LW.u (Pur.fa fo94_1 rfl) rfl ?_
      refine LW.l (Ldr.old w39 ag24 rfl (hS6.holeC 2 rfl (j := 1) rfl)) rfl rfl ?_
      refine LW.p rfl rfl ?_
      replace h := obind h
      obtain ⟨y40, hy40, h⟩ := h
      obtain ⟨q43, hy40', hq44⟩ := obind hy40
      obtain ⟨hl45, hq44⟩ := keepL_some hq44
      rw [Option.some.inj hq44] at hy40' hl45
      rw [show y4.label.levels.length = y23.2.length from hl38] at hS6
      have hS7 := hS6.pick (M := [sl a20 c21 y4.own] ++ [sl a17 c18 y23.2, hole DBoot (some ⟨b7, o8, none⟩) c0_0 s1.1 (s1.2.2 : Int).toNat [.slice a17 y23.2.length c18, .slice a20 y4.own.length c21, .int .i64 y4.amt.pages, .int .i64 y4.amt.rent, .int .i64 y4.amt.cpu]]) [1, 0, 2] rfl rfl
      obtain ⟨F41, hL42⟩ := St.lend (L := [sl a20 c21 y4.own]) (M := [sl a17 c18 y23.2, hole DBoot (some ⟨b7, o8, none⟩) c0_0 s1.1 (s1.2.2 : Int).toNat [.slice a17 y23.2.length c18, .slice a20 y4.own.length c21, .int .i64 y4.amt.pages, .int .i64 y4.amt.rent, .int .i64 y4.amt.cpu]]) hS7
      have q := W_l_markIntS (w0 := w39) hy40' rfl hL42.st
      refine LW.call pl61 rfl rfl ?_
      refine Ret.mono q ?_
      rintro _ w46 ⟨rfl, hs⟩
      have hS8 := hL42.back _ _ hs
      refine LW.p rfl rfl ?_
      refine LW.nil ?_
      show CW _ _ _ _ _ _
      refine CW.seq ?_
      refine CW.region ?_
      iterate 3 refine LW.p rfl rfl ?_
      refine LW.u (Pur.ix Try.underlying32 sz94 rfl rfl hp5 hq6) rfl ?_
      refine LW.u (Pur.fa fo94_2 rfl) rfl ?_
      refine LW.u (Pur.fa fo73_0 rfl) rfl ?_
      refine LW.sth (α := DBoot) (vs := [.int .i64 y40.1]) hS8 2 rfl ag3 rfl (by show _ = o8 + (s1.2.2 : Int).toNat * 5 + 2; omega) rfl rfl rfl rfl ?_
      intro w47 hS9 hf
      refine LW.nil ?_
      show CW _ _ _ _ _ _
      refine CW.fresh (l := [(0, .slice (some ⟨b7, o8, none⟩) s1.1.length c0_0), (1, .int .i64 y40.1), (5, .int .i64 s1.2.2)]) ⟨rfl, rfl, rfl, trivial⟩ (fun e => ?_)
      refine CW.seq ?_
      refine CW.region ?_
      iterate 3 refine LW.p rfl rfl ?_
      refine LW.nil ?_
      show CW _ _ _ _ _ _
      refine CW.seq ?_
      refine CW.region ?_
      iterate 3 refine LW.p rfl rfl ?_
      refine LW.u (Pur.ix Try.underlying32 sz94 rfl rfl hp5 hq6) rfl ?_
      refine LW.u (Pur.fa fo94_2 rfl) rfl ?_
      refine LW.u (Pur.fa fo73_1 rfl) rfl ?_
      refine LW.sth (α := DBoot) (vs := [.int .i64 (IntKind.i64.wrap (y40.1 + 1))]) hS9 2 rfl ag3 rfl (by show _ = o8 + (s1.2.2 : Int).toNat * 5 + 3; omega) rfl rfl rfl rfl ?_
      intro w48 hS10 hf
      refine LW.nil ?_
      show CW _ _ _ _ _ _
      refine CW.seq ?_
      refine CW.region ?_
      iterate 3 refine LW.p rfl rfl ?_
      refine LW.nil ?_
      show CW _ _ _ _ _ _
      refine CW.fresh (l := [(0, .slice (some ⟨b7, o8, none⟩) s1.1.length c0_0), (1, .int .i64 (IntKind.i64.wrap ((IntKind.i64.wrap (y40.1 + 1)) + 1))), (5, .int .i64 s1.2.2)]) ⟨rfl, rfl, rfl, trivial⟩ (fun e => ?_)
      refine CW.seq ?_
      refine CW.region ?_
      iterate 3 refine LW.p rfl rfl ?_
      refine LW.u (Pur.ix Try.underlying32 sz94 rfl rfl hp5 hq6) rfl ?_
      refine LW.u (Pur.fa fo94_2 rfl) rfl ?_
      refine LW.u (Pur.fa fo73_2 rfl) rfl ?_
      refine LW.sth (α := DBoot) (vs := [.int .i64 (IntKind.i64.wrap ((IntKind.i64.wrap (y40.1 + 1)) + 1))]) hS10 2 rfl ag3 rfl (by show _ = o8 + (s1.2.2 : Int).toNat * 5 + 4; omega) rfl rfl rfl rfl ?_
      intro w49 hS11 hf
      refine LW.nil ?_
      show CW _ _ _ _ _ _
      refine CW.region ?_
      iterate 3 refine LW.p rfl rfl ?_
      refine LW.nil ?_
      show CW _ _ _ _ _ _
      refine CW.region ?_
      iterate 3 refine LW.p rfl rfl ?_
      refine LW.nil ?_
      replace h := Option.some.inj h
      subst h
      rw [show y4.own.length = y40.2.length from hl45] at hS11
      have hS12 := hS11.pick (M := [sl a17 c18 y23.2, sl a20 c21 y40.2] ++ [hole DBoot (some ⟨b7, o8, none⟩) c0_0 s1.1 (s1.2.2 : Int).toNat [.slice a17 y23.2.length c18, .slice a20 y40.2.length c21, .int .i64 y40.1, .int .i64 (IntKind.i64.wrap (y40.1 + 1)), .int .i64 (IntKind.i64.wrap ((IntKind.i64.wrap (y40.1 + 1)) + 1))]]) [1, 0, 2] rfl rfl
      have hS13 := hS12.unfocus (M := [sl a17 c18 y23.2, sl a20 c21 y40.2]) (L := [hole DBoot (some ⟨b7, o8, none⟩) c0_0 s1.1 (s1.2.2 : Int).toNat [.slice a17 y23.2.length c18, .slice a20 y40.2.length c21, .int .i64 y40.1, .int .i64 (IntKind.i64.wrap (y40.1 + 1)), .int .i64 (IntKind.i64.wrap ((IntKind.i64.wrap (y40.1 + 1)) + 1))]]) (y := (DBoot.mk (DLabel.mk y23.2) y40.2 (DAmt.mk y40.1 (IntKind.i64.wrap (y40.1 + 1)) (IntKind.i64.wrap ((IntKind.i64.wrap (y40.1 + 1)) + 1))))) 0 rfl (fun w G hG => ⟨a17, c18, a20, c21, rfl, hG⟩)
      exact ⟨rfl, ⟨⟨(show (.slice (some ⟨b7, o8, none⟩) s1.1.length c0_0 : Value) = .slice (some ⟨b7, o8, none⟩) ((s1.1.set (s1.2.2 : Int).toNat (DBoot.mk (DLabel.mk y23.2) y40.2 (DAmt.mk y40.1 (IntKind.i64.wrap (y40.1 + 1)) (IntKind.i64.wrap ((IntKind.i64.wrap (y40.1 + 1)) + 1))))).length) c0_0 by rw [show s1.1.length = (s1.1.set (s1.2.2 : Int).toNat (DBoot.mk (DLabel.mk y23.2) y40.2 (DAmt.mk y40.1 (IntKind.i64.wrap (y40.1 + 1)) (IntKind.i64.wrap ((IntKind.i64.wrap (y40.1 + 1)) + 1))))).length from (len_set rfl)]), rfl, rfl, trivial⟩, hS13.pick [0] rfl rfl⟩⟩
    replace h := bcF h hc3
    refine CW.exit ?_
    replace h := Option.some.inj h
    subst h
    exact ⟨trivial, rfl, ⟨⟨rfl, trivial⟩, hS1.pick [0] rfl rfl⟩⟩
  intro x e w52 hM
  obtain ⟨rfl, hM⟩ := hM
  obtain ⟨hE, hS14⟩ := hM
  obtain ⟨e, rfl⟩ := hE.out
  have h := h51
  show CW _ _ _ _ _ _
  refine CW.seq ?_
  refine CW.region ?_
  iterate 2 refine LW.p rfl rfl ?_
  refine LW.nil ?_
  show CW _ _ _ _ _ _
  refine CW.ret ?_
  replace h := Option.some.inj h
  subst h
  exact And.intro trivial ⟨_, Res.one (resOne.t rfl), rfl, hS14.pick [0] rfl rfl⟩

theorem W_l_markEntryS {w0 : World} {F : List Nat} {N : Nat} {x0 : List DEntry} {x1 : Int} {r : Int × (List DEntry)} (h : F_l_markEntryS N x0 x1 = some r) {a0_0 : Option Addr} {n0_0 c0_0 : Nat} (hn0_0 : n0_0 = x0.length) (hS : St w0 F w0 [sl a0_0 c0_0 x0]) :
    Ret Try.prog 22 #[.slice a0_0 n0_0 c0_0, .int .i64 x1] w0 (fun v w => v = .int .i64 r.1 ∧ St w0 F w [sl a0_0 c0_0 r.2]) := by
  subst hn0_0
  unfold F_l_markEntryS at h
  refine Ret.of Try.func22 rfl rfl rfl ?_
  refine CW.seq ?_
  refine CW.region ?_
  refine LW.p rfl rfl ?_
  refine LW.nil ?_
  show CW _ _ _ _ _ _
  refine CW.seq ?_
  refine CW.seq ?_
  refine CW.region ?_
  refine LW.p rfl rfl ?_
  refine LW.nil ?_
  show CW _ _ _ _ _ _
  refine CW.block ?_
  obtain ⟨o67, ho67, h68⟩ := obind h
  refine CW.mono (CW.iter (σ := (List DEntry) × Int × Int) (ρ := (List DEntry) × Int × Int) (fun s1 e wb => En e [(0, .slice a0_0 s1.1.length c0_0), (1, .int .i64 s1.2.1), (5, .int .i64 s1.2.2)] ∧ St w0 F wb [sl a0_0 c0_0 s1.1]) (fun s1 x e wb => x = .exit 0 ∧ En e [(1, .int .i64 s1.2.1)] ∧ St w0 F wb [sl a0_0 c0_0 s1.1]) ?_ N (x0, x1, 0) _ _ _ ⟨⟨rfl, rfl, rfl, trivial⟩, hS.pick [0] rfl rfl⟩ ho67) ?_
  · intro s1 e w2 o hM h
    obtain ⟨hE, hS1⟩ := hM
    obtain ⟨e, rfl⟩ := hE.out
    refine CW.seq ?_
    refine CW.seq ?_
    refine CW.region ?_
    iterate 2 refine LW.p rfl rfl ?_
    refine LW.u (Pur.len Try.underlying30 rfl) rfl ?_
    refine LW.p rfl rfl ?_
    refine LW.nil ?_
    show CW _ _ _ _ _ _
    refine CW.cond rfl (fun hc3 => ?_) (fun hc3 => ?_)
    · replace h := bcT h hc3
      refine CW.skip ?_
      show CW _ _ _ _ _ _
      refine CW.seq ?_
      refine CW.block ?_
      refine CW.seq ?_
      refine CW.region ?_
      iterate 3 refine LW.p rfl rfl ?_
      replace h := obind h
      obtain ⟨y4, hy4, h⟩ := h
      obtain ⟨b7, o8, hae, hp5, hq6⟩ := hS1.ownIdx (α := DEntry) (i := 0) rfl hy4
      subst hae
      refine LW.u (Pur.ix Try.underlying30 sz105 rfl rfl hp5 hq6) rfl ?_
      refine LW.u (Pur.fa fo105_0 rfl) rfl ?_
      replace h := obind h
      obtain ⟨y9, hy9, h⟩ := h
      refine LW.stE (M := []) (L := [sl (some ⟨b7, o8, none⟩) c0_0 s1.1]) (z := y4) (z' := (DEntry.mk s1.2.1 y4.part y4.thread y4.call)) (o := 0) hS1 (i := 0) rfl hy4 ag3 rfl (by show _ = o8 + (s1.2.2 : Int).toNat * 9 + 0; omega) rfl rfl rfl rfl (leafF (fun w cs F hF => by obtain ⟨rfl, rfl⟩ := hF; exact ⟨rfl, rfl⟩)) ?_
      intro w10 hS2 hf
      rw [Option.some.inj hy9] at hS2
      refine LW.nil ?_
      show CW _ _ _ _ _ _
      refine CW.fresh (l := [(0, .slice (some ⟨b7, o8, none⟩) s1.1.length c0_0), (1, .int .i64 s1.2.1), (5, .int .i64 s1.2.2)]) ⟨rfl, rfl, rfl, trivial⟩ (fun e => ?_)
      refine CW.seq ?_
      refine CW.region ?_
      iterate 3 refine LW.p rfl rfl ?_
      refine LW.nil ?_
      show CW _ _ _ _ _ _
      refine CW.seq ?_
      refine CW.region ?_
      iterate 3 refine LW.p rfl rfl ?_
      replace h := obind h
      obtain ⟨y11, hy11, h⟩ := h
      obtain ⟨b14, o15, hae, hp12, hq13⟩ := hS2.ownIdx (α := DEntry) (i := 0) rfl hy11
      cases hae
      refine LW.u (Pur.ix Try.underlying30 sz105 rfl rfl hp12 (by rw [show s1.1.length = y9.length from (len_set (Option.some.inj hy9))]; exact hq13)) rfl ?_
      refine LW.u (Pur.fa fo105_1 rfl) rfl ?_
      replace h := obind h
      obtain ⟨y16, hy16, h⟩ := h
      refine LW.stE (M := []) (L := [sl (some ⟨b7, o8, none⟩) c0_0 y9]) (z := y11) (z' := (DEntry.mk y11.kind (IntKind.i64.wrap (s1.2.1 + 1)) y11.thread y11.call)) (o := 1) hS2 (i := 0) rfl hy11 ag3 rfl (by show _ = o8 + (s1.2.2 : Int).toNat * 9 + 1; omega) rfl rfl rfl rfl (leafF (fun w cs F hF => by obtain ⟨rfl, rfl⟩ := hF; exact ⟨rfl, rfl⟩)) ?_
      intro w17 hS3 hf
      rw [Option.some.inj hy16] at hS3
      refine LW.nil ?_
      show CW _ _ _ _ _ _
      refine CW.seq ?_
      refine CW.region ?_
      iterate 3 refine LW.p rfl rfl ?_
      refine LW.nil ?_
      show CW _ _ _ _ _ _
      refine CW.fresh (l := [(0, .slice (some ⟨b7, o8, none⟩) s1.1.length c0_0), (1, .int .i64 (IntKind.i64.wrap ((IntKind.i64.wrap (s1.2.1 + 1)) + 1))), (5, .int .i64 s1.2.2)]) ⟨rfl, rfl, rfl, trivial⟩ (fun e => ?_)
      refine CW.seq ?_
      refine CW.region ?_
      iterate 3 refine LW.p rfl rfl ?_
      replace h := obind h
      obtain ⟨y18, hy18, h⟩ := h
      obtain ⟨b21, o22, hae, hp19, hq20⟩ := hS3.ownIdx (α := DEntry) (i := 0) rfl hy18
      cases hae
      refine LW.u (Pur.ix Try.underlying30 sz105 rfl rfl hp19 (by rw [show s1.1.length = y16.length from ((len_set (Option.some.inj hy9)).trans (len_set (Option.some.inj hy16)))]; exact hq20)) rfl ?_
      refine LW.u (Pur.fa fo105_2 rfl) rfl ?_
      replace h := obind h
      obtain ⟨y23, hy23, h⟩ := h
      refine LW.stE (M := []) (L := [sl (some ⟨b7, o8, none⟩) c0_0 y16]) (z := y18) (z' := (DEntry.mk y18.kind y18.part (IntKind.i64.wrap ((IntKind.i64.wrap (s1.2.1 + 1)) + 1)) y18.call)) (o := 2) hS3 (i := 0) rfl hy18 ag3 rfl (by show _ = o8 + (s1.2.2 : Int).toNat * 9 + 2; omega) rfl rfl rfl rfl (leafF (fun w cs F hF => by obtain ⟨rfl, rfl⟩ := hF; exact ⟨rfl, rfl⟩)) ?_
      intro w24 hS4 hf
      rw [Option.some.inj hy23] at hS4
      refine LW.nil ?_
      show CW _ _ _ _ _ _
      refine CW.seq ?_
      refine CW.region ?_
      iterate 3 refine LW.p rfl rfl ?_
      refine LW.nil ?_
      show CW _ _ _ _ _ _
      refine CW.seq ?_
      refine CW.region ?_
      iterate 3 refine LW.p rfl rfl ?_
      replace h := obind h
      obtain ⟨y25, hy25, h⟩ := h
      obtain ⟨b28, o29, hae, hp26, hq27⟩ := hS4.ownIdx (α := DEntry) (i := 0) rfl hy25
      cases hae
      refine LW.u (Pur.ix Try.underlying30 sz105 rfl rfl hp26 (by rw [show s1.1.length = y23.length from (((len_set (Option.some.inj hy9)).trans (len_set (Option.some.inj hy16))).trans (len_set (Option.some.inj hy23)))]; exact hq27)) rfl ?_
      refine LW.u (Pur.fa fo105_3 rfl) rfl ?_
      refine LW.u (Pur.fa fo103_0 rfl) rfl ?_
      replace h := obind h
      obtain ⟨y30, hy30, h⟩ := h
      refine LW.stE (M := []) (L := [sl (some ⟨b7, o8, none⟩) c0_0 y23]) (z := y25) (z' := (DEntry.mk y25.kind y25.part y25.thread (DCall.mk (IntKind.i64.wrap ((IntKind.i64.wrap ((IntKind.i64.wrap (s1.2.1 + 1)) + 1)) + 1)) y25.call.a y25.call.b y25.call.c y25.call.d y25.call.e))) (o := 3) hS4 (i := 0) rfl hy25 ag3 rfl (by show _ = o8 + (s1.2.2 : Int).toNat * 9 + 3; omega) rfl rfl rfl rfl (leafF (fun w cs F hF => by obtain ⟨rfl, rfl⟩ := hF; exact ⟨rfl, rfl⟩)) ?_
      intro w31 hS5 hf
      rw [Option.some.inj hy30] at hS5
      refine LW.nil ?_
      show CW _ _ _ _ _ _
      refine CW.fresh (l := [(0, .slice (some ⟨b7, o8, none⟩) s1.1.length c0_0), (1, .int .i64 (IntKind.i64.wrap ((IntKind.i64.wrap ((IntKind.i64.wrap (s1.2.1 + 1)) + 1)) + 1))), (5, .int .i64 s1.2.2)]) ⟨rfl, rfl, rfl, trivial⟩ (fun e => ?_)
      refine CW.seq ?_
      refine CW.region ?_
      iterate 3 refine LW.p rfl rfl ?_
      refine LW.nil ?_
      show CW _ _ _ _ _ _
      refine CW.seq ?_
      refine CW.region ?_
      iterate 3 refine LW.p rfl rfl ?_
      replace h := obind h
      obtain ⟨y32, hy32, h⟩ := h
      obtain ⟨b35, o36, hae, hp33, hq34⟩ := hS5.ownIdx (α := DEntry) (i := 0) rfl hy32
      cases hae
      refine LW.u (Pur.ix Try.underlying30 sz105 rfl rfl hp33 (by rw [show s1.1.length = y30.length from ((((len_set (Option.some.inj hy9)).trans (len_set (Option.some.inj hy16))).trans (len_set (Option.some.inj hy23))).trans (len_set (Option.some.inj hy30)))]; exact hq34)) rfl ?_
      refine LW.u (Pur.fa fo105_3 rfl) rfl ?_
      refine LW.u (Pur.fa fo103_1 rfl) rfl ?_
      replace h := obind h
      obtain ⟨y37, hy37, h⟩ := h
      refine LW.stE (M := []) (L := [sl (some ⟨b7, o8, none⟩) c0_0 y30]) (z := y32) (z' := (DEntry.mk y32.kind y32.part y32.thread (DCall.mk y32.call.kind (IntKind.i64.wrap ((IntKind.i64.wrap ((IntKind.i64.wrap ((IntKind.i64.wrap (s1.2.1 + 1)) + 1)) + 1)) + 1)) y32.call.b y32.call.c y32.call.d y32.call.e))) (o := 4) hS5 (i := 0) rfl hy32 ag3 rfl (by show _ = o8 + (s1.2.2 : Int).toNat * 9 + 4; omega) rfl rfl rfl rfl (leafF (fun w cs F hF => by obtain ⟨rfl, rfl⟩ := hF; exact ⟨rfl, rfl⟩)) ?_
      intro w38 hS6 hf
      rw [Option.some.inj hy37] at hS6
      refine LW.nil ?_
      show CW _ _ _ _ _ _
      refine CW.seq ?_
      refine CW.region ?_
      iterate 3 refine LW.p rfl rfl ?_
      refine LW.nil ?_
      show CW _ _ _ _ _ _
      refine CW.fresh (l := [(0, .slice (some ⟨b7, o8, none⟩) s1.1.length c0_0), (1, .int .i64 (IntKind.i64.wrap ((IntKind.i64.wrap ((IntKind.i64.wrap ((IntKind.i64.wrap ((IntKind.i64.wrap (s1.2.1 + 1)) + 1)) + 1)) + 1)) + 1))), (5, .int .i64 s1.2.2)]) ⟨rfl, rfl, rfl, trivial⟩ (fun e => ?_)
      refine CW.seq ?_
      refine CW.region ?_
      iterate 3 refine LW.p rfl rfl ?_
      replace h := obind h
      obtain ⟨y39, hy39, h⟩ := h
      obtain ⟨b42, o43, hae, hp40, hq41⟩ := hS6.ownIdx (α := DEntry) (i := 0) rfl hy39
      cases hae
      refine LW.u (Pur.ix Try.underlying30 sz105 rfl rfl hp40 (by rw [show s1.1.length = y37.length from (((((len_set (Option.some.inj hy9)).trans (len_set (Option.some.inj hy16))).trans (len_set (Option.some.inj hy23))).trans (len_set (Option.some.inj hy30))).trans (len_set (Option.some.inj hy37)))]; exact hq41)) rfl ?_
      refine LW.u (Pur.fa fo105_3 rfl) rfl ?_
      refine LW.u (Pur.fa fo103_2 rfl) rfl ?_
      replace h := obind h
      obtain ⟨y44, hy44, h⟩ := h
      refine LW.stE (M := []) (L := [sl (some ⟨b7, o8, none⟩) c0_0 y37]) (z := y39) (z' := (DEntry.mk y39.kind y39.part y39.thread (DCall.mk y39.call.kind y39.call.a (IntKind.i64.wrap ((IntKind.i64.wrap ((IntKind.i64.wrap ((IntKind.i64.wrap ((IntKind.i64.wrap (s1.2.1 + 1)) + 1)) + 1)) + 1)) + 1)) y39.call.c y39.call.d y39.call.e))) (o := 5) hS6 (i := 0) rfl hy39 ag3 rfl (by show _ = o8 + (s1.2.2 : Int).toNat * 9 + 5; omega) rfl rfl rfl rfl (leafF (fun w cs F hF => by obtain ⟨rfl, rfl⟩ := hF; exact ⟨rfl, rfl⟩)) ?_
      intro w45 hS7 hf
      rw [Option.some.inj hy44] at hS7
      refine LW.nil ?_
      show CW _ _ _ _ _ _
      refine CW.seq ?_
      refine CW.region ?_
      iterate 3 refine LW.p rfl rfl ?_
      refine LW.nil ?_
      show CW _ _ _ _ _ _
      refine CW.seq ?_
      refine CW.region ?_
      iterate 3 refine LW.p rfl rfl ?_
      replace h := obind h
      obtain ⟨y46, hy46, h⟩ := h
      obtain ⟨b49, o50, hae, hp47, hq48⟩ := hS7.ownIdx (α := DEntry) (i := 0) rfl hy46
      cases hae
      refine LW.u (Pur.ix Try.underlying30 sz105 rfl rfl hp47 (by rw [show s1.1.length = y44.length from ((((((len_set (Option.some.inj hy9)).trans (len_set (Option.some.inj hy16))).trans (len_set (Option.some.inj hy23))).trans (len_set (Option.some.inj hy30))).trans (len_set (Option.some.inj hy37))).trans (len_set (Option.some.inj hy44)))]; exact hq48)) rfl ?_
      refine LW.u (Pur.fa fo105_3 rfl) rfl ?_
      refine LW.u (Pur.fa fo103_3 rfl) rfl ?_
      replace h := obind h
      obtain ⟨y51, hy51, h⟩ := h
      refine LW.stE (M := []) (L := [sl (some ⟨b7, o8, none⟩) c0_0 y44]) (z := y46) (z' := (DEntry.mk y46.kind y46.part y46.thread (DCall.mk y46.call.kind y46.call.a y46.call.b (IntKind.i64.wrap ((IntKind.i64.wrap ((IntKind.i64.wrap ((IntKind.i64.wrap ((IntKind.i64.wrap ((IntKind.i64.wrap (s1.2.1 + 1)) + 1)) + 1)) + 1)) + 1)) + 1)) y46.call.d y46.call.e))) (o := 6) hS7 (i := 0) rfl hy46 ag3 rfl (by show _ = o8 + (s1.2.2 : Int).toNat * 9 + 6; omega) rfl rfl rfl rfl (leafF (fun w cs F hF => by obtain ⟨rfl, rfl⟩ := hF; exact ⟨rfl, rfl⟩)) ?_
      intro w52 hS8 hf
      rw [Option.some.inj hy51] at hS8
      refine LW.nil ?_
      show CW _ _ _ _ _ _
      refine CW.fresh (l := [(0, .slice (some ⟨b7, o8, none⟩) s1.1.length c0_0), (1, .int .i64 (IntKind.i64.wrap ((IntKind.i64.wrap ((IntKind.i64.wrap ((IntKind.i64.wrap ((IntKind.i64.wrap ((IntKind.i64.wrap (s1.2.1 + 1)) + 1)) + 1)) + 1)) + 1)) + 1))), (5, .int .i64 s1.2.2)]) ⟨rfl, rfl, rfl, trivial⟩ (fun e => ?_)
      refine CW.seq ?_
      refine CW.region ?_
      iterate 3 refine LW.p rfl rfl ?_
      refine LW.nil ?_
      show CW _ _ _ _ _ _
      refine CW.seq ?_
      refine CW.region ?_
      iterate 3 refine LW.p rfl rfl ?_
      replace h := obind h
      obtain ⟨y53, hy53, h⟩ := h
      obtain ⟨b56, o57, hae, hp54, hq55⟩ := hS8.ownIdx (α := DEntry) (i := 0) rfl hy53
      cases hae
      refine LW.u (Pur.ix Try.underlying30 sz105 rfl rfl hp54 (by rw [show s1.1.length = y51.length from (((((((len_set (Option.some.inj hy9)).trans (len_set (Option.some.inj hy16))).trans (len_set (Option.some.inj hy23))).trans (len_set (Option.some.inj hy30))).trans (len_set (Option.some.inj hy37))).trans (len_set (Option.some.inj hy44))).trans (len_set (Option.some.inj hy51)))]; exact hq55)) rfl ?_
      refine LW.u (Pur.fa fo105_3 rfl) rfl ?_
      refine LW.u (Pur.fa fo103_4 rfl) rfl ?_
      replace h := obind h
      obtain ⟨y58, hy58, h⟩ := h
      refine LW.stE (M := []) (L := [sl (some ⟨b7, o8, none⟩) c0_0 y51]) (z := y53) (z' := (DEntry.mk y53.kind y53.part y53.thread (DCall.mk y53.call.kind y53.call.a y53.call.b y53.call.c (IntKind.i64.wrap ((IntKind.i64.wrap ((IntKind.i64.wrap ((IntKind.i64.wrap ((IntKind.i64.wrap ((IntKind.i64.wrap ((IntKind.i64.wrap (s1.2.1 + 1)) + 1)) + 1)) + 1)) + 1)) + 1)) + 1)) y53.call.e))) (o := 7) hS8 (i := 0) rfl hy53 ag3 rfl (by show _ = o8 + (s1.2.2 : Int).toNat * 9 + 7; omega) rfl rfl rfl rfl (leafF (fun w cs F hF => by obtain ⟨rfl, rfl⟩ := hF; exact ⟨rfl, rfl⟩)) ?_
      intro w59 hS9 hf
      rw [Option.some.inj hy58] at hS9
      refine LW.nil ?_
      show CW _ _ _ _ _ _
      refine CW.seq ?_
      refine CW.region ?_
      iterate 3 refine LW.p rfl rfl ?_
      refine LW.nil ?_
      show CW _ _ _ _ _ _
      refine CW.fresh (l := [(0, .slice (some ⟨b7, o8, none⟩) s1.1.length c0_0), (1, .int .i64 (IntKind.i64.wrap ((IntKind.i64.wrap ((IntKind.i64.wrap ((IntKind.i64.wrap ((IntKind.i64.wrap ((IntKind.i64.wrap ((IntKind.i64.wrap ((IntKind.i64.wrap (s1.2.1 + 1)) + 1)) + 1)) + 1)) + 1)) + 1)) + 1)) + 1))), (5, .int .i64 s1.2.2)]) ⟨rfl, rfl, rfl, trivial⟩ (fun e => ?_)
      refine CW.seq ?_
      refine CW.region ?_
      iterate 3 refine LW.p rfl rfl ?_
      replace h := obind h
      obtain ⟨y60, hy60, h⟩ := h
      obtain ⟨b63, o64, hae, hp61, hq62⟩ := hS9.ownIdx (α := DEntry) (i := 0) rfl hy60
      cases hae
      refine LW.u (Pur.ix Try.underlying30 sz105 rfl rfl hp61 (by rw [show s1.1.length = y58.length from ((((((((len_set (Option.some.inj hy9)).trans (len_set (Option.some.inj hy16))).trans (len_set (Option.some.inj hy23))).trans (len_set (Option.some.inj hy30))).trans (len_set (Option.some.inj hy37))).trans (len_set (Option.some.inj hy44))).trans (len_set (Option.some.inj hy51))).trans (len_set (Option.some.inj hy58)))]; exact hq62)) rfl ?_
      refine LW.u (Pur.fa fo105_3 rfl) rfl ?_
      refine LW.u (Pur.fa fo103_5 rfl) rfl ?_
      replace h := obind h
      obtain ⟨y65, hy65, h⟩ := h
      refine LW.stE (M := []) (L := [sl (some ⟨b7, o8, none⟩) c0_0 y58]) (z := y60) (z' := (DEntry.mk y60.kind y60.part y60.thread (DCall.mk y60.call.kind y60.call.a y60.call.b y60.call.c y60.call.d (IntKind.i64.wrap ((IntKind.i64.wrap ((IntKind.i64.wrap ((IntKind.i64.wrap ((IntKind.i64.wrap ((IntKind.i64.wrap ((IntKind.i64.wrap ((IntKind.i64.wrap (s1.2.1 + 1)) + 1)) + 1)) + 1)) + 1)) + 1)) + 1)) + 1))))) (o := 8) hS9 (i := 0) rfl hy60 ag3 rfl (by show _ = o8 + (s1.2.2 : Int).toNat * 9 + 8; omega) rfl rfl rfl rfl (leafF (fun w cs F hF => by obtain ⟨rfl, rfl⟩ := hF; exact ⟨rfl, rfl⟩)) ?_
      intro w66 hS10 hf
      rw [Option.some.inj hy65] at hS10
      refine LW.nil ?_
      show CW _ _ _ _ _ _
      refine CW.region ?_
      iterate 3 refine LW.p rfl rfl ?_
      refine LW.nil ?_
      show CW _ _ _ _ _ _
      refine CW.region ?_
      iterate 3 refine LW.p rfl rfl ?_
      refine LW.nil ?_
      replace h := Option.some.inj h
      subst h
      exact ⟨rfl, ⟨⟨(show (.slice (some ⟨b7, o8, none⟩) s1.1.length c0_0 : Value) = .slice (some ⟨b7, o8, none⟩) y65.length c0_0 by rw [show s1.1.length = y65.length from (((((((((len_set (Option.some.inj hy9)).trans (len_set (Option.some.inj hy16))).trans (len_set (Option.some.inj hy23))).trans (len_set (Option.some.inj hy30))).trans (len_set (Option.some.inj hy37))).trans (len_set (Option.some.inj hy44))).trans (len_set (Option.some.inj hy51))).trans (len_set (Option.some.inj hy58))).trans (len_set (Option.some.inj hy65)))]), rfl, rfl, trivial⟩, hS10.pick [0] rfl rfl⟩⟩
    replace h := bcF h hc3
    refine CW.exit ?_
    replace h := Option.some.inj h
    subst h
    exact ⟨trivial, rfl, ⟨⟨rfl, trivial⟩, hS1.pick [0] rfl rfl⟩⟩
  intro x e w69 hM
  obtain ⟨rfl, hM⟩ := hM
  obtain ⟨hE, hS11⟩ := hM
  obtain ⟨e, rfl⟩ := hE.out
  have h := h68
  show CW _ _ _ _ _ _
  refine CW.seq ?_
  refine CW.region ?_
  iterate 2 refine LW.p rfl rfl ?_
  refine LW.nil ?_
  show CW _ _ _ _ _ _
  refine CW.ret ?_
  replace h := Option.some.inj h
  subst h
  exact And.intro trivial ⟨_, Res.one (resOne.t rfl), rfl, hS11.pick [0] rfl rfl⟩

theorem W_l_heldEntryS {w0 : World} {N : Nat} {x0 : List DEntry} {x1 : Int} {r : Int} (h : F_l_heldEntryS N x0 x1 = some r) {a0_0 : Option Addr} {n0_0 c0_0 : Nat} (hn0_0 : n0_0 = x0.length) (hr0_0 : rdS (Bor w0 []) w0 a0_0 c0_0 x0) :
    Ret Try.prog 24 #[.slice a0_0 n0_0 c0_0, .int .i64 x1] w0 (fun v w => v = .int .i64 r ∧ St w0 [] w []) := by
  subst hn0_0
  unfold F_l_heldEntryS at h
  refine Ret.of Try.func24 rfl rfl rfl ?_
  have hS1 := St.start w0
  refine CW.seq ?_
  refine CW.region ?_
  refine LW.p rfl rfl ?_
  refine LW.nil ?_
  show CW _ _ _ _ _ _
  refine CW.seq ?_
  refine CW.seq ?_
  refine CW.region ?_
  refine LW.p rfl rfl ?_
  refine LW.nil ?_
  show CW _ _ _ _ _ _
  refine CW.block ?_
  obtain ⟨o22, ho22, h23⟩ := obind h
  refine CW.mono (CW.iter (σ := Int × Int) (ρ := (Int × Int) ⊕ Int) (fun s1 e wb => En e [(0, .slice a0_0 x0.length c0_0), (1, .int .i64 s1.1), (5, .int .i64 s1.2)] ∧ St w0 [] wb []) (fun o x e wb => match o with | .inl s1 => x = .exit 0 ∧ En e [(1, .int .i64 s1.1)] ∧ St w0 [] wb [] | .inr r => x = .ret ∧ ∃ u, u = r ∧ ∃ v, Res Try.prog Try.f24.results e wb v ∧ v = .int .i64 u ∧ St w0 [] wb []) ?_ N (x1, 0) _ _ _ ⟨⟨rfl, rfl, rfl, trivial⟩, hS1.pick [] rfl rfl⟩ ho22) ?_
  · intro s1 e w2 o hM h
    obtain ⟨hE, hS2⟩ := hM
    obtain ⟨e, rfl⟩ := hE.out
    refine CW.seq ?_
    refine CW.seq ?_
    refine CW.region ?_
    iterate 2 refine LW.p rfl rfl ?_
    refine LW.u (Pur.len Try.underlying30 rfl) rfl ?_
    refine LW.p rfl rfl ?_
    refine LW.nil ?_
    show CW _ _ _ _ _ _
    refine CW.cond rfl (fun hc3 => ?_) (fun hc3 => ?_)
    · replace h := bcT h hc3
      refine CW.skip ?_
      show CW _ _ _ _ _ _
      refine CW.seq ?_
      refine CW.block ?_
      refine CW.seq ?_
      refine CW.seq ?_
      refine CW.region ?_
      iterate 2 refine LW.p rfl rfl ?_
      replace h := obind h
      obtain ⟨y4, hy4, h⟩ := h
      obtain ⟨b7, o8, cs9, hae, hb12, hp5, hq6, hd10, hk11⟩ := hr0_0.idx hy4
      subst hae
      obtain rfl := hd10
      refine LW.u (Pur.ix Try.underlying30 sz105 rfl rfl hp5 hq6) rfl ?_
      refine LW.u (Pur.fa fo105_0 rfl) rfl ?_
      refine LW.l (Ldr.old w0 ag3 rfl (hk11 0 _ rfl)) (hS2.same _ hb12.1 hb12.2) rfl ?_
      iterate 2 refine LW.p rfl rfl ?_
      refine LW.nil ?_
      show CW _ _ _ _ _ _
      refine CW.fresh (l := [(0, .slice (some ⟨b7, o8, none⟩) x0.length c0_0), (1, .int .i64 s1.1), (5, .int .i64 s1.2), (18, .bool (y4.kind != s1.1))]) ⟨rfl, rfl, rfl, rfl, trivial⟩ (fun e => ?_)
      refine CW.cond rfl (fun hc13 => ?_) (fun hc13 => ?_)
      · replace h := bcT h hc13
        refine CW.seq ?_
        refine CW.region ?_
        refine LW.p rfl rfl ?_
        refine LW.nil ?_
        show CW _ _ _ _ _ _
        refine CW.ret ?_
        replace h := Option.some.inj h
        subst h
        exact ⟨trivial, rfl, _, rfl, ⟨_, Res.one (resOne.t rfl), rfl, hS2.pick [] rfl rfl⟩⟩
      replace h := bcF h hc13
      refine CW.skip ?_
      show CW _ _ _ _ _ _
      refine CW.seq ?_
      refine CW.region ?_
      iterate 3 refine LW.p rfl rfl ?_
      refine LW.nil ?_
      show CW _ _ _ _ _ _
      refine CW.seq ?_
      refine CW.seq ?_
      refine CW.region ?_
      iterate 2 refine LW.p rfl rfl ?_
      refine LW.u (Pur.ix Try.underlying30 sz105 rfl rfl hp5 hq6) rfl ?_
      refine LW.u (Pur.fa fo105_1 rfl) rfl ?_
      refine LW.l (Ldr.old w0 ag3 rfl (hk11 1 _ rfl)) (hS2.same _ hb12.1 hb12.2) rfl ?_
      iterate 2 refine LW.p rfl rfl ?_
      refine LW.nil ?_
      show CW _ _ _ _ _ _
      refine CW.cond rfl (fun hc14 => ?_) (fun hc14 => ?_)
      · replace h := bcT h hc14
        refine CW.seq ?_
        refine CW.region ?_
        refine LW.p rfl rfl ?_
        refine LW.nil ?_
        show CW _ _ _ _ _ _
        refine CW.ret ?_
        replace h := Option.some.inj h
        subst h
        exact ⟨trivial, rfl, _, rfl, ⟨_, Res.one (resOne.t rfl), rfl, hS2.pick [] rfl rfl⟩⟩
      replace h := bcF h hc14
      refine CW.skip ?_
      show CW _ _ _ _ _ _
      refine CW.seq ?_
      refine CW.region ?_
      iterate 3 refine LW.p rfl rfl ?_
      refine LW.nil ?_
      show CW _ _ _ _ _ _
      refine CW.fresh (l := [(0, .slice (some ⟨b7, o8, none⟩) x0.length c0_0), (1, .int .i64 (IntKind.i64.wrap ((IntKind.i64.wrap (s1.1 + 1)) + 1))), (5, .int .i64 s1.2)]) ⟨rfl, rfl, rfl, trivial⟩ (fun e => ?_)
      refine CW.seq ?_
      refine CW.seq ?_
      refine CW.region ?_
      iterate 2 refine LW.p rfl rfl ?_
      refine LW.u (Pur.ix Try.underlying30 sz105 rfl rfl hp5 hq6) rfl ?_
      refine LW.u (Pur.fa fo105_2 rfl) rfl ?_
      refine LW.l (Ldr.old w0 ag3 rfl (hk11 2 _ rfl)) (hS2.same _ hb12.1 hb12.2) rfl ?_
      iterate 2 refine LW.p rfl rfl ?_
      refine LW.nil ?_
      show CW _ _ _ _ _ _
      refine CW.cond rfl (fun hc15 => ?_) (fun hc15 => ?_)
      · replace h := bcT h hc15
        refine CW.seq ?_
        refine CW.region ?_
        refine LW.p rfl rfl ?_
        refine LW.nil ?_
        show CW _ _ _ _ _ _
        refine CW.ret ?_
        replace h := Option.some.inj h
        subst h
        exact ⟨trivial, rfl, _, rfl, ⟨_, Res.one (resOne.t rfl), rfl, hS2.pick [] rfl rfl⟩⟩
      replace h := bcF h hc15
      refine CW.skip ?_
      show CW _ _ _ _ _ _
      refine CW.seq ?_
      refine CW.region ?_
      iterate 3 refine LW.p rfl rfl ?_
      refine LW.nil ?_
      show CW _ _ _ _ _ _
      refine CW.seq ?_
      refine CW.seq ?_
      refine CW.region ?_
      iterate 2 refine LW.p rfl rfl ?_
      refine LW.u (Pur.ix Try.underlying30 sz105 rfl rfl hp5 hq6) rfl ?_
      refine LW.u (Pur.fa fo105_3 rfl) rfl ?_
      refine LW.u (Pur.fa fo103_0 rfl) rfl ?_
      refine LW.l (Ldr.old w0 ag3 rfl (hk11 3 _ rfl)) (hS2.same _ hb12.1 hb12.2) rfl ?_
      iterate 2 refine LW.p rfl rfl ?_
      refine LW.nil ?_
      show CW _ _ _ _ _ _
      refine CW.fresh (l := [(0, .slice (some ⟨b7, o8, none⟩) x0.length c0_0), (1, .int .i64 (IntKind.i64.wrap ((IntKind.i64.wrap ((IntKind.i64.wrap (s1.1 + 1)) + 1)) + 1))), (5, .int .i64 s1.2), (46, .bool (y4.call.kind != (IntKind.i64.wrap ((IntKind.i64.wrap ((IntKind.i64.wrap (s1.1 + 1)) + 1)) + 1))))]) ⟨rfl, rfl, rfl, rfl, trivial⟩ (fun e => ?_)
      refine CW.cond rfl (fun hc16 => ?_) (fun hc16 => ?_)
      · replace h := bcT h hc16
        refine CW.seq ?_
        refine CW.region ?_
        refine LW.p rfl rfl ?_
        refine LW.nil ?_
        show CW _ _ _ _ _ _
        refine CW.ret ?_
        replace h := Option.some.inj h
        subst h
        exact ⟨trivial, rfl, _, rfl, ⟨_, Res.one (resOne.t rfl), rfl, hS2.pick [] rfl rfl⟩⟩
      replace h := bcF h hc16
      refine CW.skip ?_
      show CW _ _ _ _ _ _
      refine CW.seq ?_
      refine CW.region ?_
      iterate 3 refine LW.p rfl rfl ?_
      refine LW.nil ?_
      show CW _ _ _ _ _ _
      refine CW.seq ?_
      refine CW.seq ?_
      refine CW.region ?_
      iterate 2 refine LW.p rfl rfl ?_
      refine LW.u (Pur.ix Try.underlying30 sz105 rfl rfl hp5 hq6) rfl ?_
      refine LW.u (Pur.fa fo105_3 rfl) rfl ?_
      refine LW.u (Pur.fa fo103_1 rfl) rfl ?_
      refine LW.l (Ldr.old w0 ag3 rfl (hk11 4 _ rfl)) (hS2.same _ hb12.1 hb12.2) rfl ?_
      iterate 2 refine LW.p rfl rfl ?_
      refine LW.nil ?_
      show CW _ _ _ _ _ _
      refine CW.cond rfl (fun hc17 => ?_) (fun hc17 => ?_)
      · replace h := bcT h hc17
        refine CW.seq ?_
        refine CW.region ?_
        refine LW.p rfl rfl ?_
        refine LW.nil ?_
        show CW _ _ _ _ _ _
        refine CW.ret ?_
        replace h := Option.some.inj h
        subst h
        exact ⟨trivial, rfl, _, rfl, ⟨_, Res.one (resOne.t rfl), rfl, hS2.pick [] rfl rfl⟩⟩
      replace h := bcF h hc17
      refine CW.skip ?_
      show CW _ _ _ _ _ _
      refine CW.seq ?_
      refine CW.region ?_
      iterate 3 refine LW.p rfl rfl ?_
      refine LW.nil ?_
      show CW _ _ _ _ _ _
      refine CW.fresh (l := [(0, .slice (some ⟨b7, o8, none⟩) x0.length c0_0), (1, .int .i64 (IntKind.i64.wrap ((IntKind.i64.wrap ((IntKind.i64.wrap ((IntKind.i64.wrap ((IntKind.i64.wrap (s1.1 + 1)) + 1)) + 1)) + 1)) + 1))), (5, .int .i64 s1.2)]) ⟨rfl, rfl, rfl, trivial⟩ (fun e => ?_)
      refine CW.seq ?_
      refine CW.seq ?_
      refine CW.region ?_
      iterate 2 refine LW.p rfl rfl ?_
      refine LW.u (Pur.ix Try.underlying30 sz105 rfl rfl hp5 hq6) rfl ?_
      refine LW.u (Pur.fa fo105_3 rfl) rfl ?_
      refine LW.u (Pur.fa fo103_2 rfl) rfl ?_
      refine LW.l (Ldr.old w0 ag3 rfl (hk11 5 _ rfl)) (hS2.same _ hb12.1 hb12.2) rfl ?_
      iterate 2 refine LW.p rfl rfl ?_
      refine LW.nil ?_
      show CW _ _ _ _ _ _
      refine CW.cond rfl (fun hc18 => ?_) (fun hc18 => ?_)
      · replace h := bcT h hc18
        refine CW.seq ?_
        refine CW.region ?_
        refine LW.p rfl rfl ?_
        refine LW.nil ?_
        show CW _ _ _ _ _ _
        refine CW.ret ?_
        replace h := Option.some.inj h
        subst h
        exact ⟨trivial, rfl, _, rfl, ⟨_, Res.one (resOne.t rfl), rfl, hS2.pick [] rfl rfl⟩⟩
      replace h := bcF h hc18
      refine CW.skip ?_
      show CW _ _ _ _ _ _
      refine CW.seq ?_
      refine CW.region ?_
      iterate 3 refine LW.p rfl rfl ?_
      refine LW.nil ?_
      show CW _ _ _ _ _ _
      refine CW.seq ?_
      refine CW.seq ?_
      refine CW.region ?_
      iterate 2 refine LW.p rfl rfl ?_
      refine LW.u (Pur.ix Try.underlying30 sz105 rfl rfl hp5 hq6) rfl ?_
      refine LW.u (Pur.fa fo105_3 rfl) rfl ?_
      refine LW.u (Pur.fa fo103_3 rfl) rfl ?_
      refine LW.l (Ldr.old w0 ag3 rfl (hk11 6 _ rfl)) (hS2.same _ hb12.1 hb12.2) rfl ?_
      iterate 2 refine LW.p rfl rfl ?_
      refine LW.nil ?_
      show CW _ _ _ _ _ _
      refine CW.fresh (l := [(0, .slice (some ⟨b7, o8, none⟩) x0.length c0_0), (1, .int .i64 (IntKind.i64.wrap ((IntKind.i64.wrap ((IntKind.i64.wrap ((IntKind.i64.wrap ((IntKind.i64.wrap ((IntKind.i64.wrap (s1.1 + 1)) + 1)) + 1)) + 1)) + 1)) + 1))), (5, .int .i64 s1.2), (76, .bool (y4.call.c != (IntKind.i64.wrap ((IntKind.i64.wrap ((IntKind.i64.wrap ((IntKind.i64.wrap ((IntKind.i64.wrap ((IntKind.i64.wrap (s1.1 + 1)) + 1)) + 1)) + 1)) + 1)) + 1))))]) ⟨rfl, rfl, rfl, rfl, trivial⟩ (fun e => ?_)
      refine CW.cond rfl (fun hc19 => ?_) (fun hc19 => ?_)
      · replace h := bcT h hc19
        refine CW.seq ?_
        refine CW.region ?_
        refine LW.p rfl rfl ?_
        refine LW.nil ?_
        show CW _ _ _ _ _ _
        refine CW.ret ?_
        replace h := Option.some.inj h
        subst h
        exact ⟨trivial, rfl, _, rfl, ⟨_, Res.one (resOne.t rfl), rfl, hS2.pick [] rfl rfl⟩⟩
      replace h := bcF h hc19
      refine CW.skip ?_
      show CW _ _ _ _ _ _
      refine CW.seq ?_
      refine CW.region ?_
      iterate 3 refine LW.p rfl rfl ?_
      refine LW.nil ?_
      show CW _ _ _ _ _ _
      refine CW.seq ?_
      refine CW.seq ?_
      refine CW.region ?_
      iterate 2 refine LW.p rfl rfl ?_
      refine LW.u (Pur.ix Try.underlying30 sz105 rfl rfl hp5 hq6) rfl ?_
      refine LW.u (Pur.fa fo105_3 rfl) rfl ?_
      refine LW.u (Pur.fa fo103_4 rfl) rfl ?_
      refine LW.l (Ldr.old w0 ag3 rfl (hk11 7 _ rfl)) (hS2.same _ hb12.1 hb12.2) rfl ?_
      iterate 2 refine LW.p rfl rfl ?_
      refine LW.nil ?_
      show CW _ _ _ _ _ _
      refine CW.cond rfl (fun hc20 => ?_) (fun hc20 => ?_)
      · replace h := bcT h hc20
        refine CW.seq ?_
        refine CW.region ?_
        refine LW.p rfl rfl ?_
        refine LW.nil ?_
        show CW _ _ _ _ _ _
        refine CW.ret ?_
        replace h := Option.some.inj h
        subst h
        exact ⟨trivial, rfl, _, rfl, ⟨_, Res.one (resOne.t rfl), rfl, hS2.pick [] rfl rfl⟩⟩
      replace h := bcF h hc20
      refine CW.skip ?_
      show CW _ _ _ _ _ _
      refine CW.seq ?_
      refine CW.region ?_
      iterate 3 refine LW.p rfl rfl ?_
      refine LW.nil ?_
      show CW _ _ _ _ _ _
      refine CW.fresh (l := [(0, .slice (some ⟨b7, o8, none⟩) x0.length c0_0), (1, .int .i64 (IntKind.i64.wrap ((IntKind.i64.wrap ((IntKind.i64.wrap ((IntKind.i64.wrap ((IntKind.i64.wrap ((IntKind.i64.wrap ((IntKind.i64.wrap ((IntKind.i64.wrap (s1.1 + 1)) + 1)) + 1)) + 1)) + 1)) + 1)) + 1)) + 1))), (5, .int .i64 s1.2)]) ⟨rfl, rfl, rfl, trivial⟩ (fun e => ?_)
      refine CW.seq ?_
      refine CW.seq ?_
      refine CW.region ?_
      iterate 2 refine LW.p rfl rfl ?_
      refine LW.u (Pur.ix Try.underlying30 sz105 rfl rfl hp5 hq6) rfl ?_
      refine LW.u (Pur.fa fo105_3 rfl) rfl ?_
      refine LW.u (Pur.fa fo103_5 rfl) rfl ?_
      refine LW.l (Ldr.old w0 ag3 rfl (hk11 8 _ rfl)) (hS2.same _ hb12.1 hb12.2) rfl ?_
      iterate 2 refine LW.p rfl rfl ?_
      refine LW.nil ?_
      show CW _ _ _ _ _ _
      refine CW.cond rfl (fun hc21 => ?_) (fun hc21 => ?_)
      · replace h := bcT h hc21
        refine CW.seq ?_
        refine CW.region ?_
        refine LW.p rfl rfl ?_
        refine LW.nil ?_
        show CW _ _ _ _ _ _
        refine CW.ret ?_
        replace h := Option.some.inj h
        subst h
        exact ⟨trivial, rfl, _, rfl, ⟨_, Res.one (resOne.t rfl), rfl, hS2.pick [] rfl rfl⟩⟩
      replace h := bcF h hc21
      refine CW.skip ?_
      show CW _ _ _ _ _ _
      refine CW.region ?_
      iterate 3 refine LW.p rfl rfl ?_
      refine LW.nil ?_
      show CW _ _ _ _ _ _
      refine CW.region ?_
      iterate 3 refine LW.p rfl rfl ?_
      refine LW.nil ?_
      replace h := Option.some.inj h
      subst h
      exact ⟨rfl, ⟨⟨rfl, rfl, rfl, trivial⟩, hS2.pick [] rfl rfl⟩⟩
    replace h := bcF h hc3
    refine CW.exit ?_
    replace h := Option.some.inj h
    subst h
    exact ⟨trivial, rfl, ⟨⟨rfl, trivial⟩, hS2.pick [] rfl rfl⟩⟩
  intro x e w24 hM
  rcases o22 with o22 | r25
  · obtain ⟨rfl, hM⟩ := hM
    obtain ⟨hE, hS3⟩ := hM
    obtain ⟨e, rfl⟩ := hE.out
    have h := h23
    show CW _ _ _ _ _ _
    refine CW.seq ?_
    refine CW.region ?_
    iterate 2 refine LW.p rfl rfl ?_
    refine LW.nil ?_
    show CW _ _ _ _ _ _
    refine CW.ret ?_
    cases h
    exact And.intro trivial ⟨_, Res.one (resOne.t rfl), rfl, hS3.pick [] rfl rfl⟩
  obtain ⟨rfl, u, rfl, hM⟩ := hM
  cases h23
  exact And.intro trivial hM

theorem W_l_FnExactPurge {w0 : World} {N : Nat} {x0 : List DBoot} {x1 : List DEntry} {x2 : DLabel} {r : Bool} (h : F_l_FnExactPurge N x0 x1 x2 = some r) {a0_0 : Option Addr} {n0_0 c0_0 : Nat} (hn0_0 : n0_0 = x0.length) (hr0_0 : rdS (Bor w0 []) w0 a0_0 c0_0 x0) {a1_0 : Option Addr} {n1_0 c1_0 : Nat} (hn1_0 : n1_0 = x1.length) (hr1_0 : rdS (Bor w0 []) w0 a1_0 c1_0 x1) {a2_0 : Option Addr} {n2_0 c2_0 : Nat} (hn2_0 : n2_0 = x2.levels.length) (hr2_0 : rdS (Bor w0 []) w0 a2_0 c2_0 x2.levels) :
    Ret Try.prog 3 #[.slice a0_0 n0_0 c0_0, .slice a1_0 n1_0 c1_0, .agg #[.slice a2_0 n2_0 c2_0]] w0 (fun v w => v = .bool r ∧ St w0 [] w []) := by
  subst hn0_0
  subst hn1_0
  subst hn2_0
  unfold F_l_FnExactPurge at h
  refine Ret.of Try.func3 rfl rfl rfl ?_
  have hS1 := St.start w0
  refine CW.seq ?_
  refine CW.region ?_
  refine LW.box (cs := [.slice a2_0 x2.levels.length c2_0]) rfl hS1 rfl ?_
  intro g1 w2 hS2 hf
  refine LW.p rfl rfl ?_
  refine LW.nil ?_
  show CW _ _ _ _ _ _
  refine CW.seq ?_
  refine CW.region ?_
  refine LW.p rfl rfl ?_
  refine LW.nil ?_
  show CW _ _ _ _ _ _
  refine CW.seq ?_
  refine CW.region ?_
  iterate 2 refine LW.p rfl rfl ?_
  replace h := obind h
  obtain ⟨y3, hy3, h⟩ := h
  have q := W_l_szPartBootS (w0 := w2) hy3 rfl (hS2.rB hr0_0)
  refine LW.call pl10 rfl rfl ?_
  refine Ret.mono q ?_
  rintro _ w4 ⟨rfl, hs⟩
  have hS3 := hS2.add hs
  refine LW.p rfl rfl ?_
  refine LW.nil ?_
  show CW _ _ _ _ _ _
  refine CW.seq ?_
  refine CW.seq ?_
  refine CW.region ?_
  iterate 2 refine LW.p rfl rfl ?_
  refine LW.nil ?_
  show CW _ _ _ _ _ _
  refine CW.cond rfl (fun hc5 => ?_) (fun hc5 => ?_)
  · replace h := bcT h hc5
    refine CW.seq ?_
    refine CW.region ?_
    refine LW.p rfl rfl ?_
    refine LW.nil ?_
    show CW _ _ _ _ _ _
    refine CW.ret ?_
    cases h
    exact And.intro trivial ⟨_, Res.one (resOne.t rfl), rfl, hS3.pick [] rfl rfl⟩
  replace h := bcF h hc5
  refine CW.skip ?_
  show CW _ _ _ _ _ _
  refine CW.seq ?_
  refine CW.region ?_
  iterate 2 refine LW.p rfl rfl ?_
  replace h := obind h
  obtain ⟨y6, hy6, h⟩ := h
  have q := W_l_szEntryS (w0 := w4) hy6 rfl (hS3.rB hr1_0)
  refine LW.call pl11 rfl rfl ?_
  refine Ret.mono q ?_
  rintro _ w7 ⟨rfl, hs⟩
  have hS4 := hS3.add hs
  refine LW.p rfl rfl ?_
  refine LW.nil ?_
  show CW _ _ _ _ _ _
  refine CW.fresh (l := [(0, .slice a0_0 x0.length c0_0), (1, .slice a1_0 x1.length c1_0), (5, .pointer (some ⟨g1, 0, none⟩)), (7, .int .i64 y6)]) ⟨rfl, rfl, rfl, rfl, trivial⟩ (fun e => ?_)
  refine CW.seq ?_
  refine CW.seq ?_
  refine CW.region ?_
  iterate 2 refine LW.p rfl rfl ?_
  refine LW.nil ?_
  show CW _ _ _ _ _ _
  refine CW.cond rfl (fun hc8 => ?_) (fun hc8 => ?_)
  · replace h := bcT h hc8
    refine CW.seq ?_
    refine CW.region ?_
    refine LW.p rfl rfl ?_
    refine LW.nil ?_
    show CW _ _ _ _ _ _
    refine CW.ret ?_
    cases h
    exact And.intro trivial ⟨_, Res.one (resOne.t rfl), rfl, hS4.pick [] rfl rfl⟩
  replace h := bcF h hc8
  refine CW.skip ?_
  show CW _ _ _ _ _ _
  refine CW.seq ?_
  refine CW.region ?_
  refine LW.ldbN hS4 0 rfl ag26 rfl rfl rfl ?_
  refine LW.p rfl rfl ?_
  replace h := obind h
  obtain ⟨y9, hy9, h⟩ := h
  have q := W_l_szLabel (w0 := w7) hy9 rfl (hS4.rB hr2_0)
  refine LW.call pl12 rfl rfl ?_
  refine Ret.mono q ?_
  rintro _ w10 ⟨rfl, hs⟩
  have hS5 := hS4.add hs
  refine LW.p rfl rfl ?_
  refine LW.nil ?_
  show CW _ _ _ _ _ _
  refine CW.seq ?_
  refine CW.seq ?_
  refine CW.region ?_
  iterate 2 refine LW.p rfl rfl ?_
  refine LW.nil ?_
  show CW _ _ _ _ _ _
  refine CW.cond rfl (fun hc11 => ?_) (fun hc11 => ?_)
  · replace h := bcT h hc11
    refine CW.seq ?_
    refine CW.region ?_
    refine LW.p rfl rfl ?_
    refine LW.nil ?_
    show CW _ _ _ _ _ _
    refine CW.ret ?_
    cases h
    exact And.intro trivial ⟨_, Res.one (resOne.t rfl), rfl, hS5.pick [] rfl rfl⟩
  replace h := bcF h hc11
  refine CW.skip ?_
  show CW _ _ _ _ _ _
  refine CW.seq ?_
  refine CW.draw (by kernel_rfl) ?_
  have hS6 := hS5.drew
  refine AW.u (i := 0) rfl (by kernel_rfl) rfl rfl (Pur.p rfl) ?_
  refine AW.u (i := 2) rfl (by kernel_rfl) rfl rfl (Pur.p rfl) ?_
  refine AW.take (i := 4) rfl (by kernel_rfl) rfl rfl (Ldr.boxN (bt := 26) (fr := (0, 0)) (cs := [.slice a2_0 x2.levels.length c2_0]) ag26 rfl rfl) (St.cell (h := hS6) (i := 0) rfl) ?_
  replace h := obind h
  obtain ⟨y12, hy12, h⟩ := h
  have q := W_l_toPartBootS (w0 := w10.drew) hy12 rfl (hS6.rB hr0_0)
  refine AW.one (i := 1) (by kernel_rfl) ?_
  refine ⟨_, rfl, ?_⟩
  refine LW.call pl14 rfl rfl ?_
  refine Ret.mono q ?_
  rintro _ w15 ⟨a13, c14, rfl, hs⟩
  have hS7 := hS6.add hs
  refine LW.nil ⟨rfl, (.c (St.cell (h := hS7) (i := 1) rfl) Kept.n), ?_⟩
  replace h := obind h
  obtain ⟨y16, hy16, h⟩ := h
  have q := W_l_toEntryS (w0 := w15) hy16 rfl (hS7.rB hr1_0)
  refine AW.one (i := 3) (by kernel_rfl) ?_
  refine ⟨_, rfl, ?_⟩
  refine LW.call pl15 rfl rfl ?_
  refine Ret.mono q ?_
  rintro _ w19 ⟨a17, c18, rfl, hs⟩
  have hS8 := hS7.add hs
  refine LW.nil ⟨rfl, (.c (St.cell (h := hS8) (i := 2) rfl) Kept.n), ?_⟩
  replace h := obind h
  obtain ⟨y20, hy20, h⟩ := h
  have q := W_l_toLabel (w0 := w19) hy20 rfl (hS8.rB hr2_0)
  refine AW.one (i := 5) (by kernel_rfl) ?_
  refine ⟨_, rfl, ?_⟩
  refine LW.call pl16 rfl rfl ?_
  refine Ret.mono q ?_
  rintro _ w23 ⟨a21, c22, rfl, hs⟩
  have hS9 := hS8.add hs
  refine LW.nil ⟨rfl, (.w (by kernel_rfl) Kept.n), ?_⟩
  replace h := obind h
  obtain ⟨y24, hy24, h⟩ := h
  have q := W_s_Purge (w0 := w23) hy24 rfl (hS9.rI 2 rfl) rfl (hS9.rI 1 rfl) rfl (hS9.rI 0 rfl)
  refine AW.one (i := 6) (by kernel_rfl) ?_
  refine ⟨_, rfl, ?_⟩
  refine LW.call pl13 rfl rfl ?_
  refine Ret.mono q ?_
  rintro _ w27 ⟨a25, c26, rfl, hs⟩
  have hS10 := hS9.add hs
  refine LW.nil ⟨rfl, (.c (St.cell (h := hS10) (i := 4) rfl) Kept.n), ?_⟩
  refine AW.u (i := 7) rfl (by kernel_rfl) rfl rfl (Pur.p rfl) ?_
  refine AW.done (by kernel_rfl) ?_
  show CW _ _ _ _ _ _
  refine CW.seq ?_
  refine CW.region ?_
  refine LW.p rfl rfl ?_
  replace h := obind h
  obtain ⟨y28, hy28, h⟩ := h
  have q := W_l_toPartBootS (w0 := w27) hy28 rfl (hS10.rB hr0_0)
  refine LW.call pl14 rfl rfl ?_
  refine Ret.mono q ?_
  rintro _ w31 ⟨a29, c30, rfl, hs⟩
  have hS11 := hS10.add hs
  refine LW.p rfl rfl ?_
  refine LW.nil ?_
  show CW _ _ _ _ _ _
  refine CW.seq ?_
  refine CW.region ?_
  refine LW.p rfl rfl ?_
  replace h := obind h
  obtain ⟨y32, hy32, h⟩ := h
  have q := W_l_toEntryS (w0 := w31) hy32 rfl (hS11.rB hr1_0)
  refine LW.call pl15 rfl rfl ?_
  refine Ret.mono q ?_
  rintro _ w35 ⟨a33, c34, rfl, hs⟩
  have hS12 := hS11.add hs
  refine LW.p rfl rfl ?_
  refine LW.nil ?_
  show CW _ _ _ _ _ _
  refine CW.fresh (l := [(0, .slice a0_0 x0.length c0_0), (1, .slice a1_0 x1.length c1_0), (5, .pointer (some ⟨g1, 0, none⟩)), (8, .slice a25 y24.length c26), (9, .slice a29 y28.length c30), (10, .slice a33 y32.length c34)]) ⟨rfl, rfl, rfl, rfl, rfl, rfl, trivial⟩ (fun e => ?_)
  refine CW.seq ?_
  refine CW.region ?_
  refine LW.ldbN hS12 6 rfl ag26 rfl rfl rfl ?_
  replace h := obind h
  obtain ⟨y36, hy36, h⟩ := h
  have q := W_l_toLabel (w0 := w35) hy36 rfl (hS12.rB hr2_0)
  refine LW.call pl16 rfl rfl ?_
  refine Ret.mono q ?_
  rintro _ w39 ⟨a37, c38, rfl, hs⟩
  have hS13 := hS12.add hs
  refine LW.alloc zv35 hS13 rfl ?_
  intro g40 w41 hS14 hf
  refine LW.stb hS14 0 rfl ag35 rfl rfl rfl rfl rfl ?_
  intro w42 hS15 hf
  refine LW.nil ?_
  show CW _ _ _ _ _ _
  refine CW.seq ?_
  refine CW.region ?_
  iterate 2 refine LW.p rfl rfl ?_
  refine LW.ldbN hS15 0 rfl ag35 rfl rfl rfl ?_
  replace h := obind h
  obtain ⟨y43, hy43, h⟩ := h
  have q := W_i_Purge (w0 := w42) hy43 rfl (hS15.rI 3 rfl) rfl (hS15.rI 2 rfl) rfl (hS15.rI 1 rfl)
  refine LW.call pl17 rfl rfl ?_
  refine Ret.mono q ?_
  rintro _ w46 ⟨a44, c45, rfl, hs⟩
  have hS16 := hS15.add hs
  refine LW.p rfl rfl ?_
  refine LW.nil ?_
  show CW _ _ _ _ _ _
  refine CW.seq ?_
  refine CW.seq ?_
  refine CW.region ?_
  iterate 2 refine LW.p rfl rfl ?_
  replace h := obind h
  obtain ⟨y47, hy47, h⟩ := h
  have q := W_l_eqEntryS (w0 := w46) hy47 rfl (hS16.rI 0 rfl) rfl (hS16.rI 5 rfl)
  refine LW.call pl18 rfl rfl ?_
  refine Ret.mono q ?_
  rintro _ w48 ⟨rfl, hs⟩
  have hS17 := hS16.add hs
  refine LW.p rfl rfl ?_
  refine LW.nil ?_
  show CW _ _ _ _ _ _
  refine CW.fresh (l := [(0, .slice a0_0 x0.length c0_0), (1, .slice a1_0 x1.length c1_0), (5, .pointer (some ⟨g1, 0, none⟩)), (8, .slice a25 y24.length c26), (9, .slice a29 y28.length c30), (10, .slice a33 y32.length c34), (11, .pointer (some ⟨g40, 0, none⟩)), (12, .slice a44 y43.length c45), (52, .bool (!y47))]) ⟨rfl, rfl, rfl, rfl, rfl, rfl, rfl, rfl, rfl, trivial⟩ (fun e => ?_)
  refine CW.cond rfl (fun hc49 => ?_) (fun hc49 => ?_)
  · replace h := bcT h hc49
    refine CW.seq ?_
    refine CW.region ?_
    refine LW.p rfl rfl ?_
    refine LW.nil ?_
    show CW _ _ _ _ _ _
    refine CW.ret ?_
    cases h
    exact And.intro trivial ⟨_, Res.one (resOne.t rfl), rfl, hS17.pick [] rfl rfl⟩
  replace h := bcF h hc49
  refine CW.skip ?_
  show CW _ _ _ _ _ _
  refine CW.seq ?_
  refine CW.seq ?_
  refine CW.region ?_
  iterate 2 refine LW.p rfl rfl ?_
  replace h := obind h
  obtain ⟨y50, hy50, h⟩ := h
  have q := W_l_toPartBootS (w0 := w48) hy50 rfl (hS17.rB hr0_0)
  refine LW.call pl14 rfl rfl ?_
  refine Ret.mono q ?_
  rintro _ w53 ⟨a51, c52, rfl, hs⟩
  have hS18 := hS17.add hs
  replace h := obind h
  obtain ⟨y54, hy54, h⟩ := h
  have q := W_l_eqPartBootS (w0 := w53) hy54 rfl (hS18.rI 5 rfl) rfl (hS18.rI 0 rfl)
  refine LW.call pl19 rfl rfl ?_
  refine Ret.mono q ?_
  rintro _ w55 ⟨rfl, hs⟩
  have hS19 := hS18.add hs
  refine LW.p rfl rfl ?_
  refine LW.nil ?_
  show CW _ _ _ _ _ _
  refine CW.cond rfl (fun hc56 => ?_) (fun hc56 => ?_)
  · replace h := bcT h hc56
    refine CW.seq ?_
    refine CW.region ?_
    refine LW.p rfl rfl ?_
    refine LW.nil ?_
    show CW _ _ _ _ _ _
    refine CW.ret ?_
    cases h
    exact And.intro trivial ⟨_, Res.one (resOne.t rfl), rfl, hS19.pick [] rfl rfl⟩
  replace h := bcF h hc56
  refine CW.skip ?_
  show CW _ _ _ _ _ _
  refine CW.seq ?_
  refine CW.seq ?_
  refine CW.region ?_
  iterate 2 refine LW.p rfl rfl ?_
  replace h := obind h
  obtain ⟨y57, hy57, h⟩ := h
  have q := W_l_toEntryS (w0 := w55) hy57 rfl (hS19.rB hr1_0)
  refine LW.call pl15 rfl rfl ?_
  refine Ret.mono q ?_
  rintro _ w60 ⟨a58, c59, rfl, hs⟩
  have hS20 := hS19.add hs
  replace h := obind h
  obtain ⟨y61, hy61, h⟩ := h
  have q := W_l_eqEntryS (w0 := w60) hy61 rfl (hS20.rI 5 rfl) rfl (hS20.rI 0 rfl)
  refine LW.call pl18 rfl rfl ?_
  refine Ret.mono q ?_
  rintro _ w62 ⟨rfl, hs⟩
  have hS21 := hS20.add hs
  refine LW.p rfl rfl ?_
  refine LW.nil ?_
  show CW _ _ _ _ _ _
  refine CW.cond rfl (fun hc63 => ?_) (fun hc63 => ?_)
  · replace h := bcT h hc63
    refine CW.seq ?_
    refine CW.region ?_
    refine LW.p rfl rfl ?_
    refine LW.nil ?_
    show CW _ _ _ _ _ _
    refine CW.ret ?_
    cases h
    exact And.intro trivial ⟨_, Res.one (resOne.t rfl), rfl, hS21.pick [] rfl rfl⟩
  replace h := bcF h hc63
  refine CW.skip ?_
  show CW _ _ _ _ _ _
  refine CW.seq ?_
  refine CW.seq ?_
  refine CW.draw (by kernel_rfl) ?_
  have hS22 := hS21.drew
  refine AW.take (i := 0) rfl (by kernel_rfl) rfl rfl (Ldr.boxN (bt := 35) (fr := (0, 0)) (cs := [.slice a37 y36.levels.length c38]) ag35 rfl rfl) (St.cell (h := hS22) (i := 3) rfl) ?_
  refine AW.take (i := 1) rfl (by kernel_rfl) rfl rfl (Ldr.boxN (bt := 26) (fr := (0, 0)) (cs := [.slice a2_0 x2.levels.length c2_0]) ag26 rfl rfl) (St.cell (h := hS22) (i := 11) rfl) ?_
  replace h := obind h
  obtain ⟨y64, hy64, h⟩ := h
  have q := W_l_toLabel (w0 := w62.drew) hy64 rfl (hS22.rB hr2_0)
  refine AW.one (i := 2) (by kernel_rfl) ?_
  refine ⟨_, rfl, ?_⟩
  refine LW.call pl16 rfl rfl ?_
  refine Ret.mono q ?_
  rintro _ w67 ⟨a65, c66, rfl, hs⟩
  have hS23 := hS22.add hs
  refine LW.nil ⟨rfl, (.w (by kernel_rfl) (.c (St.cell (h := hS23) (i := 4) rfl) Kept.n)), ?_⟩
  replace h := obind h
  obtain ⟨y68, hy68, h⟩ := h
  have q := W_l_eqLabel (w0 := w67) hy68 rfl (hS23.rI 5 rfl) rfl (hS23.rI 0 rfl)
  refine AW.one (i := 3) (by kernel_rfl) ?_
  refine ⟨_, rfl, ?_⟩
  refine LW.call pl20 rfl rfl ?_
  refine Ret.mono q ?_
  rintro _ w69 ⟨rfl, hs⟩
  have hS24 := hS23.add hs
  refine LW.nil ⟨rfl, (.c (St.cell (h := hS24) (i := 12) rfl) (.w (by kernel_rfl) Kept.n)), ?_⟩
  refine AW.u (i := 4) rfl (by kernel_rfl) rfl rfl (Pur.p rfl) ?_
  refine AW.done (by kernel_rfl) ?_
  show CW _ _ _ _ _ _
  refine CW.cond rfl (fun hc70 => ?_) (fun hc70 => ?_)
  · replace h := bcT h hc70
    refine CW.seq ?_
    refine CW.region ?_
    refine LW.p rfl rfl ?_
    refine LW.nil ?_
    show CW _ _ _ _ _ _
    refine CW.ret ?_
    cases h
    exact And.intro trivial ⟨_, Res.one (resOne.t rfl), rfl, hS24.pick [] rfl rfl⟩
  replace h := bcF h hc70
  refine CW.skip ?_
  show CW _ _ _ _ _ _
  refine CW.seq ?_
  refine CW.region ?_
  refine LW.p rfl rfl ?_
  refine LW.nil ?_
  show CW _ _ _ _ _ _
  refine CW.seq ?_
  refine CW.region ?_
  iterate 2 refine LW.p rfl rfl ?_
  replace h := obind h
  obtain ⟨y71, hy71, h⟩ := h
  obtain ⟨q74, hy71', hq75⟩ := obind hy71
  obtain ⟨hl76, hq75⟩ := keepL_some hq75
  rw [Option.some.inj hq75] at hy71' hl76
  have hS25 := hS24.pick (M := [sl a29 c30 y28] ++ [sl a65 c66 y64.levels, sl a58 c59 y57, sl a51 c52 y50, sl a44 c45 y43, bx g40 35 [.slice a37 y36.levels.length c38], sl a37 c38 y36.levels, sl a33 c34 y32, sl a25 c26 y24, sl a21 c22 y20.levels, sl a17 c18 y16, sl a13 c14 y12, bx g1 26 [.slice a2_0 x2.levels.length c2_0]]) [7, 0, 1, 2, 3, 4, 5, 6, 8, 9, 10, 11, 12] rfl rfl
  obtain ⟨F72, hL73⟩ := St.lend (L := [sl a29 c30 y28]) (M := [sl a65 c66 y64.levels, sl a58 c59 y57, sl a51 c52 y50, sl a44 c45 y43, bx g40 35 [.slice a37 y36.levels.length c38], sl a37 c38 y36.levels, sl a33 c34 y32, sl a25 c26 y24, sl a21 c22 y20.levels, sl a17 c18 y16, sl a13 c14 y12, bx g1 26 [.slice a2_0 x2.levels.length c2_0]]) hS25
  have q := W_l_markPartBootS (w0 := w69) hy71' rfl hL73.st
  refine LW.call pl21 rfl rfl ?_
  refine Ret.mono q ?_
  rintro _ w77 ⟨rfl, hs⟩
  have hS26 := hL73.back _ _ hs
  refine LW.p rfl rfl ?_
  refine LW.nil ?_
  show CW _ _ _ _ _ _
  refine CW.fresh (l := [(0, .slice a0_0 x0.length c0_0), (1, .slice a1_0 x1.length c1_0), (5, .pointer (some ⟨g1, 0, none⟩)), (8, .slice a25 y24.length c26), (10, .slice a33 y32.length c34), (11, .pointer (some ⟨g40, 0, none⟩)), (12, .slice a44 y43.length c45), (13, .int .i64 y71.1)]) ⟨rfl, rfl, rfl, rfl, rfl, rfl, rfl, rfl, trivial⟩ (fun e => ?_)
  refine CW.seq ?_
  refine CW.region ?_
  iterate 2 refine LW.p rfl rfl ?_
  replace h := obind h
  obtain ⟨y78, hy78, h⟩ := h
  obtain ⟨q81, hy78', hq82⟩ := obind hy78
  obtain ⟨hl83, hq82⟩ := keepL_some hq82
  rw [Option.some.inj hq82] at hy78' hl83
  have hS27 := hS26.pick (M := [sl a33 c34 y32] ++ [sl a29 c30 y71.2, sl a65 c66 y64.levels, sl a58 c59 y57, sl a51 c52 y50, sl a44 c45 y43, bx g40 35 [.slice a37 y36.levels.length c38], sl a37 c38 y36.levels, sl a25 c26 y24, sl a21 c22 y20.levels, sl a17 c18 y16, sl a13 c14 y12, bx g1 26 [.slice a2_0 x2.levels.length c2_0]]) [7, 0, 1, 2, 3, 4, 5, 6, 8, 9, 10, 11, 12] rfl rfl
  obtain ⟨F79, hL80⟩ := St.lend (L := [sl a33 c34 y32]) (M := [sl a29 c30 y71.2, sl a65 c66 y64.levels, sl a58 c59 y57, sl a51 c52 y50, sl a44 c45 y43, bx g40 35 [.slice a37 y36.levels.length c38], sl a37 c38 y36.levels, sl a25 c26 y24, sl a21 c22 y20.levels, sl a17 c18 y16, sl a13 c14 y12, bx g1 26 [.slice a2_0 x2.levels.length c2_0]]) hS27
  have q := W_l_markEntryS (w0 := w77) hy78' rfl hL80.st
  refine LW.call pl22 rfl rfl ?_
  refine Ret.mono q ?_
  rintro _ w84 ⟨rfl, hs⟩
  have hS28 := hL80.back _ _ hs
  refine LW.p rfl rfl ?_
  refine LW.nil ?_
  show CW _ _ _ _ _ _
  refine CW.seq ?_
  refine CW.region ?_
  refine LW.ldbN hS28 6 rfl ag35 rfl rfl rfl ?_
  refine LW.p rfl rfl ?_
  replace h := obind h
  obtain ⟨y85, hy85, h⟩ := h
  obtain ⟨q88, hy85', hq89⟩ := obind hy85
  obtain ⟨hl90, hq89⟩ := keepL_some hq89
  rw [Option.some.inj hq89] at hy85' hl90
  have hS29 := hS28.pick (M := [sl a37 c38 y36.levels] ++ [sl a33 c34 y78.2, sl a29 c30 y71.2, sl a65 c66 y64.levels, sl a58 c59 y57, sl a51 c52 y50, sl a44 c45 y43, bx g40 35 [.slice a37 y36.levels.length c38], sl a25 c26 y24, sl a21 c22 y20.levels, sl a17 c18 y16, sl a13 c14 y12, bx g1 26 [.slice a2_0 x2.levels.length c2_0]]) [7, 0, 1, 2, 3, 4, 5, 6, 8, 9, 10, 11, 12] rfl rfl
  obtain ⟨F86, hL87⟩ := St.lend (L := [sl a37 c38 y36.levels]) (M := [sl a33 c34 y78.2, sl a29 c30 y71.2, sl a65 c66 y64.levels, sl a58 c59 y57, sl a51 c52 y50, sl a44 c45 y43, bx g40 35 [.slice a37 y36.levels.length c38], sl a25 c26 y24, sl a21 c22 y20.levels, sl a17 c18 y16, sl a13 c14 y12, bx g1 26 [.slice a2_0 x2.levels.length c2_0]]) hS29
  have q := W_l_markLabel (w0 := w84) hy85' rfl hL87.st
  refine LW.call pl23 rfl rfl ?_
  refine Ret.mono q ?_
  rintro _ w91 ⟨rfl, hs⟩
  have hS30 := hL87.back _ _ hs
  refine LW.p rfl rfl ?_
  refine LW.nil ?_
  show CW _ _ _ _ _ _
  refine CW.seq ?_
  refine CW.seq ?_
  rw [show y36.levels.length = y85.2.length from hl90] at hS30
  obtain ⟨j92, hj92, h93⟩ := obind h
  refine CW.cut (fun e wb => En e [(0, .slice a0_0 x0.length c0_0), (1, .slice a1_0 x1.length c1_0), (5, .pointer (some ⟨g1, 0, none⟩)), (8, .slice a25 y24.length c26), (12, .slice a44 y43.length c45), (84, .bool j92)] ∧ St w0 [] wb [sl a44 c45 y43, sl a25 c26 y24, bx g1 26 [.slice a2_0 x2.levels.length c2_0]]) ?_ ?_
  · have h := hj92
    refine CW.region ?_
    iterate 3 refine LW.p rfl rfl ?_
    rcases bcases (decide (y85.1 < 0)) with hc94 | hc94
    · replace h := bcT h hc94
      refine LW.gN (want_not rfl rfl hc94) rfl ?_
      refine LW.gN (want_not rfl rfl hc94) rfl ?_
      refine LW.gN (want_not rfl rfl hc94) rfl ?_
      refine LW.gN (want_not rfl rfl hc94) rfl ?_
      refine LW.u (Pur.pickT rfl hc94) rfl ?_
      refine LW.nil ?_
      replace h := Option.some.inj h
      subst h
      exact ⟨⟨rfl, rfl, rfl, rfl, rfl, rfl, trivial⟩, hS30.pick [6, 8, 12] rfl rfl⟩
    replace h := bcF h hc94
    refine LW.gY (want_of rfl rfl hc94) ?_
    refine LW.p rfl rfl ?_
    refine LW.gY (want_of rfl rfl hc94) ?_
    refine LW.p rfl rfl ?_
    replace h := obind h
    obtain ⟨y95, hy95, h⟩ := h
    have q := W_l_eqEntryS (w0 := w91) hy95 rfl (hS30.rI 6 rfl) rfl (hS30.rI 8 rfl)
    refine LW.gY (want_of rfl rfl hc94) ?_
    refine LW.call pl18 rfl rfl ?_
    refine Ret.mono q ?_
    rintro _ w96 ⟨rfl, hs⟩
    have hS31 := hS30.add hs
    refine LW.gY (want_of rfl rfl hc94) ?_
    refine LW.p rfl rfl ?_
    refine LW.u (Pur.pickF rfl hc94) rfl ?_
    refine LW.nil ?_
    replace h := Option.some.inj h
    subst h
    exact ⟨⟨rfl, rfl, rfl, rfl, rfl, rfl, trivial⟩, hS31.pick [6, 8, 12] rfl rfl⟩
  intro e w97 hM
  obtain ⟨hE, hS32⟩ := hM
  obtain ⟨e, rfl⟩ := hE.out
  have h := h93
  show CW _ _ _ _ _ _
  refine CW.cond rfl (fun hc98 => ?_) (fun hc98 => ?_)
  · replace h := bcT h hc98
    refine CW.seq ?_
    refine CW.region ?_
    refine LW.p rfl rfl ?_
    refine LW.nil ?_
    show CW _ _ _ _ _ _
    refine CW.ret ?_
    cases h
    exact And.intro trivial ⟨_, Res.one (resOne.t rfl), rfl, hS32.pick [] rfl rfl⟩
  replace h := bcF h hc98
  refine CW.skip ?_
  show CW _ _ _ _ _ _
  refine CW.seq ?_
  refine CW.region ?_
  refine LW.p rfl rfl ?_
  refine LW.nil ?_
  show CW _ _ _ _ _ _
  refine CW.seq ?_
  refine CW.region ?_
  iterate 2 refine LW.p rfl rfl ?_
  replace h := obind h
  obtain ⟨y99, hy99, h⟩ := h
  obtain ⟨q102, hy99', hq103⟩ := obind hy99
  obtain ⟨hl104, hq103⟩ := keepL_some hq103
  rw [Option.some.inj hq103] at hy99' hl104
  have hS33 := hS32.pick (M := [sl a44 c45 y43] ++ [sl a25 c26 y24, bx g1 26 [.slice a2_0 x2.levels.length c2_0]]) [0, 1, 2] rfl rfl
  obtain ⟨F100, hL101⟩ := St.lend (L := [sl a44 c45 y43]) (M := [sl a25 c26 y24, bx g1 26 [.slice a2_0 x2.levels.length c2_0]]) hS33
  have q := W_l_markEntryS (w0 := w97) hy99' rfl hL101.st
  refine LW.call pl22 rfl rfl ?_
  refine Ret.mono q ?_
  rintro _ w105 ⟨rfl, hs⟩
  have hS34 := hL101.back _ _ hs
  refine LW.p rfl rfl ?_
  refine LW.nil ?_
  show CW _ _ _ _ _ _
  refine CW.fresh (l := [(0, .slice a0_0 x0.length c0_0), (1, .slice a1_0 x1.length c1_0), (5, .pointer (some ⟨g1, 0, none⟩)), (8, .slice a25 y24.length c26), (12, .slice a44 y43.length c45), (14, .int .i64 y99.1)]) ⟨rfl, rfl, rfl, rfl, rfl, rfl, trivial⟩ (fun e => ?_)
  refine CW.seq ?_
  refine CW.region ?_
  refine LW.p rfl rfl ?_
  refine LW.nil ?_
  show CW _ _ _ _ _ _
  refine CW.seq ?_
  refine CW.region ?_
  iterate 2 refine LW.p rfl rfl ?_
  replace h := obind h
  obtain ⟨y106, hy106, h⟩ := h
  have q := W_l_heldEntryS (w0 := w105) hy106 (show y43.length = y99.2.length from hl104) (hS34.rI 0 rfl)
  refine LW.call pl24 rfl rfl ?_
  refine Ret.mono q ?_
  rintro _ w107 ⟨rfl, hs⟩
  have hS35 := hS34.add hs
  refine LW.p rfl rfl ?_
  refine LW.nil ?_
  show CW _ _ _ _ _ _
  refine CW.seq ?_
  refine CW.seq ?_
  refine CW.region ?_
  iterate 2 refine LW.p rfl rfl ?_
  refine LW.nil ?_
  show CW _ _ _ _ _ _
  refine CW.cond rfl (fun hc108 => ?_) (fun hc108 => ?_)
  · replace h := bcT h hc108
    refine CW.seq ?_
    refine CW.region ?_
    refine LW.p rfl rfl ?_
    refine LW.nil ?_
    show CW _ _ _ _ _ _
    refine CW.ret ?_
    cases h
    exact And.intro trivial ⟨_, Res.one (resOne.t rfl), rfl, hS35.pick [] rfl rfl⟩
  replace h := bcF h hc108
  refine CW.skip ?_
  show CW _ _ _ _ _ _
  refine CW.seq ?_
  refine CW.seq ?_
  refine CW.region ?_
  iterate 3 refine LW.p rfl rfl ?_
  refine LW.nil ?_
  show CW _ _ _ _ _ _
  refine CW.cond rfl (fun hc109 => ?_) (fun hc109 => ?_)
  · replace h := bcT h hc109
    refine CW.seq ?_
    refine CW.region ?_
    refine LW.p rfl rfl ?_
    refine LW.nil ?_
    show CW _ _ _ _ _ _
    refine CW.ret ?_
    cases h
    exact And.intro trivial ⟨_, Res.one (resOne.t rfl), rfl, hS35.pick [] rfl rfl⟩
  replace h := bcF h hc109
  refine CW.skip ?_
  show CW _ _ _ _ _ _
  refine CW.seq ?_
  refine CW.draw (by kernel_rfl) ?_
  have hS36 := hS35.drew
  refine AW.u (i := 0) rfl (by kernel_rfl) rfl rfl (Pur.p rfl) ?_
  refine AW.u (i := 2) rfl (by kernel_rfl) rfl rfl (Pur.p rfl) ?_
  refine AW.take (i := 4) rfl (by kernel_rfl) rfl rfl (Ldr.boxN (bt := 26) (fr := (0, 0)) (cs := [.slice a2_0 x2.levels.length c2_0]) ag26 rfl rfl) (St.cell (h := hS36) (i := 2) rfl) ?_
  replace h := obind h
  obtain ⟨y110, hy110, h⟩ := h
  have q := W_l_toPartBootS (w0 := w107.drew) hy110 rfl (hS36.rB hr0_0)
  refine AW.one (i := 1) (by kernel_rfl) ?_
  refine ⟨_, rfl, ?_⟩
  refine LW.call pl14 rfl rfl ?_
  refine Ret.mono q ?_
  rintro _ w113 ⟨a111, c112, rfl, hs⟩
  have hS37 := hS36.add hs
  refine LW.nil ⟨rfl, (.c (St.cell (h := hS37) (i := 3) rfl) Kept.n), ?_⟩
  replace h := obind h
  obtain ⟨y114, hy114, h⟩ := h
  have q := W_l_toEntryS (w0 := w113) hy114 rfl (hS37.rB hr1_0)
  refine AW.one (i := 3) (by kernel_rfl) ?_
  refine ⟨_, rfl, ?_⟩
  refine LW.call pl15 rfl rfl ?_
  refine Ret.mono q ?_
  rintro _ w117 ⟨a115, c116, rfl, hs⟩
  have hS38 := hS37.add hs
  refine LW.nil ⟨rfl, (.c (St.cell (h := hS38) (i := 4) rfl) Kept.n), ?_⟩
  replace h := obind h
  obtain ⟨y118, hy118, h⟩ := h
  have q := W_l_toLabel (w0 := w117) hy118 rfl (hS38.rB hr2_0)
  refine AW.one (i := 5) (by kernel_rfl) ?_
  refine ⟨_, rfl, ?_⟩
  refine LW.call pl16 rfl rfl ?_
  refine Ret.mono q ?_
  rintro _ w121 ⟨a119, c120, rfl, hs⟩
  have hS39 := hS38.add hs
  refine LW.nil ⟨rfl, (.w (by kernel_rfl) Kept.n), ?_⟩
  replace h := obind h
  obtain ⟨y122, hy122, h⟩ := h
  have q := W_i_Purge (w0 := w121) hy122 rfl (hS39.rI 2 rfl) rfl (hS39.rI 1 rfl) rfl (hS39.rI 0 rfl)
  refine AW.one (i := 6) (by kernel_rfl) ?_
  refine ⟨_, rfl, ?_⟩
  refine LW.call pl17 rfl rfl ?_
  refine Ret.mono q ?_
  rintro _ w125 ⟨a123, c124, rfl, hs⟩
  have hS40 := hS39.add hs
  refine LW.nil ⟨rfl, (.c (St.cell (h := hS40) (i := 6) rfl) Kept.n), ?_⟩
  refine AW.u (i := 7) rfl (by kernel_rfl) rfl rfl (Pur.p rfl) ?_
  refine AW.done (by kernel_rfl) ?_
  show CW _ _ _ _ _ _
  refine CW.seq ?_
  refine CW.seq ?_
  refine CW.region ?_
  iterate 2 refine LW.p rfl rfl ?_
  replace h := obind h
  obtain ⟨y126, hy126, h⟩ := h
  have q := W_l_eqEntryS (w0 := w125) hy126 rfl (hS40.rI 0 rfl) rfl (hS40.rI 5 rfl)
  refine LW.call pl18 rfl rfl ?_
  refine Ret.mono q ?_
  rintro _ w127 ⟨rfl, hs⟩
  have hS41 := hS40.add hs
  refine LW.p rfl rfl ?_
  refine LW.nil ?_
  show CW _ _ _ _ _ _
  refine CW.fresh (l := [(12, .slice a44 y43.length c45), (14, .int .i64 y99.1), (106, .bool (!y126))]) ⟨rfl, rfl, rfl, trivial⟩ (fun e => ?_)
  refine CW.cond rfl (fun hc128 => ?_) (fun hc128 => ?_)
  · replace h := bcT h hc128
    refine CW.seq ?_
    refine CW.region ?_
    refine LW.p rfl rfl ?_
    refine LW.nil ?_
    show CW _ _ _ _ _ _
    refine CW.ret ?_
    cases h
    exact And.intro trivial ⟨_, Res.one (resOne.t rfl), rfl, hS41.pick [] rfl rfl⟩
  replace h := bcF h hc128
  refine CW.skip ?_
  show CW _ _ _ _ _ _
  refine CW.seq ?_
  refine CW.region ?_
  refine LW.p rfl rfl ?_
  refine LW.nil ?_
  show CW _ _ _ _ _ _
  refine CW.seq ?_
  refine CW.region ?_
  iterate 2 refine LW.p rfl rfl ?_
  replace h := obind h
  obtain ⟨y129, hy129, h⟩ := h
  have q := W_l_heldEntryS (w0 := w127) hy129 (show y43.length = y99.2.length from hl104) (hS41.rI 4 rfl)
  refine LW.call pl24 rfl rfl ?_
  refine Ret.mono q ?_
  rintro _ w130 ⟨rfl, hs⟩
  have hS42 := hS41.add hs
  refine LW.p rfl rfl ?_
  refine LW.nil ?_
  show CW _ _ _ _ _ _
  refine CW.seq ?_
  refine CW.seq ?_
  refine CW.region ?_
  iterate 2 refine LW.p rfl rfl ?_
  refine LW.nil ?_
  show CW _ _ _ _ _ _
  refine CW.cond rfl (fun hc131 => ?_) (fun hc131 => ?_)
  · replace h := bcT h hc131
    refine CW.seq ?_
    refine CW.region ?_
    refine LW.p rfl rfl ?_
    refine LW.nil ?_
    show CW _ _ _ _ _ _
    refine CW.ret ?_
    cases h
    exact And.intro trivial ⟨_, Res.one (resOne.t rfl), rfl, hS42.pick [] rfl rfl⟩
  replace h := bcF h hc131
  refine CW.skip ?_
  show CW _ _ _ _ _ _
  refine CW.seq ?_
  refine CW.seq ?_
  refine CW.region ?_
  iterate 3 refine LW.p rfl rfl ?_
  refine LW.nil ?_
  show CW _ _ _ _ _ _
  refine CW.cond rfl (fun hc132 => ?_) (fun hc132 => ?_)
  · replace h := bcT h hc132
    refine CW.seq ?_
    refine CW.region ?_
    refine LW.p rfl rfl ?_
    refine LW.nil ?_
    show CW _ _ _ _ _ _
    refine CW.ret ?_
    cases h
    exact And.intro trivial ⟨_, Res.one (resOne.t rfl), rfl, hS42.pick [] rfl rfl⟩
  replace h := bcF h hc132
  refine CW.skip ?_
  show CW _ _ _ _ _ _
  refine CW.seq ?_
  refine CW.region ?_
  refine LW.p rfl rfl ?_
  refine LW.nil ?_
  show CW _ _ _ _ _ _
  refine CW.ret ?_
  cases h
  exact And.intro trivial ⟨_, Res.one (resOne.t rfl), rfl, hS42.pick [] rfl rfl⟩

end Go.Kx
