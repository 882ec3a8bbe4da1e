/- Each call returns what the plain function says. Printed by drive.py. -/
import Derived.Test.YtdjpppkdngmeaaaFa
import Derived.Test.YtdjpppkdngmeaaaPu
import Derived.Test.YtdjpppkdngmeaaaWa7
import Derived.Test.YtdjpppkdngmeaaaWa8
import Derived.Test.YtdjpppkdngmeaaaWa10
namespace Go.Kx
open Go Go.RowKit Go.Proofs
set_option maxRecDepth 10000
set_option maxHeartbeats 2000000
set_option linter.unusedVariables false
set_option linter.unusedSimpArgs false
theorem W_z_Equal_Res {w0 : World} {N : Nat} {x0 : List DRes} {x1 : List DRes} {r : Bool} (h : F_z_Equal_Res N x0 x1 = some r) {a0_0 : Option Addr} {n0_0 c0_0 : Nat} (hn0_0 : n0_0 = x0.length) (hr0_0 : rdS (Bor w0 []) w0 a0_0 c0_0 x0) {a1_0 : Option Addr} {n1_0 c1_0 : Nat} (hn1_0 : n1_0 = x1.length) (hr1_0 : rdS (Bor w0 []) w0 a1_0 c1_0 x1) :
    Ret Try.prog 128 #[.slice a0_0 n0_0 c0_0, .slice a1_0 n1_0 c1_0] w0 (fun v w => v = .bool r ∧ St w0 [] w []) := by
  subst hn0_0
  subst hn1_0
  unfold F_z_Equal_Res at h
  refine Ret.of Try.func128 rfl rfl rfl ?_
  have hS1 := St.start w0
  refine CW.seq ?_
  refine CW.region ?_
  refine LW.p rfl rfl ?_
  refine LW.nil ?_
  show CW _ _ _ _ _ _
  refine CW.seq ?_
  refine CW.seq ?_
  refine CW.region ?_
  refine LW.p rfl rfl ?_
  refine LW.u (Pur.len Try.underlying67 rfl) rfl ?_
  refine LW.p rfl rfl ?_
  refine LW.u (Pur.len Try.underlying67 rfl) rfl ?_
  refine LW.p rfl rfl ?_
  refine LW.nil ?_
  show CW _ _ _ _ _ _
  refine CW.cond rfl (fun hc1 => ?_) (fun hc1 => ?_)
  · replace h := bcT h hc1
    refine CW.seq ?_
    refine CW.region ?_
    refine LW.p rfl rfl ?_
    refine LW.nil ?_
    show CW _ _ _ _ _ _
    refine CW.ret ?_
    cases h
    exact And.intro trivial ⟨_, Res.one (resOne.t rfl), rfl, hS1.pick [] rfl rfl⟩
  replace h := bcF h hc1
  refine CW.skip ?_
  show CW _ _ _ _ _ _
  refine CW.seq ?_
  refine CW.seq ?_
  refine CW.region ?_
  refine LW.p rfl rfl ?_
  refine LW.u (Pur.len Try.underlying67 rfl) rfl ?_
  refine LW.p rfl rfl ?_
  refine LW.nil ?_
  show CW _ _ _ _ _ _
  refine CW.block ?_
  obtain ⟨o24, ho24, h25⟩ := obind h
  refine CW.mono (CW.iter (σ := Int) (ρ := Int ⊕ Bool) (fun s2 e wb => En e [(0, .slice a0_0 x0.length c0_0), (1, .slice a1_0 x1.length c1_0), (12, .int .i64 (x0.length : Int)), (13, .int .i64 s2)] ∧ St w0 [] wb []) (fun o x e wb => match o with | .inl s2 => x = .exit 0 ∧ En e [] ∧ St w0 [] wb [] | .inr r => x = .ret ∧ ∃ u, u = r ∧ ∃ v, Res Try.prog Try.f128.results e wb v ∧ v = .bool u ∧ St w0 [] wb []) ?_ N 0 _ _ _ ⟨⟨rfl, rfl, rfl, rfl, trivial⟩, hS1.pick [] rfl rfl⟩ ho24) ?_
  · intro s2 e w3 o hM h
    obtain ⟨hE, hS2⟩ := hM
    obtain ⟨e, rfl⟩ := hE.out
    refine CW.seq ?_
    refine CW.region ?_
    refine LW.p rfl rfl ?_
    refine LW.nil ?_
    show CW _ _ _ _ _ _
    refine CW.seq ?_
    refine CW.cond rfl (fun hc4 => ?_) (fun hc4 => ?_)
    · replace h := bcT h hc4
      refine CW.skip ?_
      show CW _ _ _ _ _ _
      refine CW.seq ?_
      refine CW.block ?_
      refine CW.seq ?_
      refine CW.region ?_
      iterate 2 refine LW.p rfl rfl ?_
      refine LW.nil ?_
      show CW _ _ _ _ _ _
      refine CW.seq ?_
      refine CW.draw (by kernel_rfl) ?_
      have hS3 := hS2.drew
      refine AW.u (i := 0) rfl (by kernel_rfl) rfl rfl (Pur.p rfl) ?_
      refine AW.u (i := 1) rfl (by kernel_rfl) rfl rfl (Pur.p rfl) ?_
      replace h := obind h
      obtain ⟨y5, hy5, h⟩ := h
      obtain ⟨b8, o9, cs10, hae, hb13, hp6, hq7, hd11, hk12⟩ := hr0_0.idx hy5
      subst hae
      obtain rfl := hd11
      refine AW.u (i := 2) rfl (by kernel_rfl) rfl rfl (Pur.ix Try.underlying67 sz156 rfl rfl hp6 hq7) ?_
      refine AW.take (i := 3) rfl (by kernel_rfl) rfl rfl (Ldr.oldN w0 ag156 rfl rfl (fun j u hu => hk12 j u hu)) (hS3.same _ hb13.1 hb13.2) ?_
      refine AW.u (i := 4) rfl (by kernel_rfl) rfl rfl (Pur.p rfl) ?_
      refine AW.u (i := 5) rfl (by kernel_rfl) rfl rfl (Pur.p rfl) ?_
      replace h := obind h
      obtain ⟨y14, hy14, h⟩ := h
      obtain ⟨b17, o18, cs19, hae, hb22, hp15, hq16, hd20, hk21⟩ := hr1_0.idx hy14
      subst hae
      obtain rfl := hd20
      refine AW.u (i := 6) rfl (by kernel_rfl) rfl rfl (Pur.ix Try.underlying67 sz156 rfl rfl hp15 hq16) ?_
      refine AW.take (i := 7) rfl (by kernel_rfl) rfl rfl (Ldr.oldN w0 ag156 rfl rfl (fun j u hu => hk21 j u hu)) (hS3.same _ hb22.1 hb22.2) ?_
      refine AW.u (i := 8) rfl (by kernel_rfl) rfl rfl (Pur.ane eg156 rfl rfl (fun w => eq156 y5 y14 w)) ?_
      refine AW.done (by kernel_rfl) ?_
      show CW _ _ _ _ _ _
      refine CW.cond rfl (fun hc23 => ?_) (fun hc23 => ?_)
      · replace h := bcT h hc23
        refine CW.seq ?_
        refine CW.region ?_
        refine LW.p rfl rfl ?_
        refine LW.nil ?_
        show CW _ _ _ _ _ _
        refine CW.fresh (l := [(4, .bool false)]) ⟨rfl, trivial⟩ (fun e => ?_)
        refine CW.ret ?_
        replace h := Option.some.inj h
        subst h
        exact ⟨trivial, rfl, _, rfl, ⟨_, Res.one (resOne.t rfl), rfl, hS3.pick [] rfl rfl⟩⟩
      replace h := bcF h hc23
      refine CW.skip ?_
      show CW _ _ _ _ _ _
      refine CW.region ?_
      iterate 2 refine LW.p rfl rfl ?_
      refine LW.nil ?_
      replace h := Option.some.inj h
      subst h
      exact ⟨rfl, ⟨⟨rfl, rfl, rfl, rfl, trivial⟩, hS3.pick [] rfl rfl⟩⟩
    replace h := bcF h hc4
    refine CW.exit ?_
    replace h := Option.some.inj h
    subst h
    exact ⟨trivial, rfl, ⟨trivial, hS2.pick [] rfl rfl⟩⟩
  intro x e w26 hM
  rcases o24 with o24 | r27
  · obtain ⟨rfl, hM⟩ := hM
    obtain ⟨hE, hS4⟩ := hM
    obtain ⟨e, rfl⟩ := hE.out
    have h := h25
    show CW _ _ _ _ _ _
    refine CW.seq ?_
    refine CW.region ?_
    refine LW.p rfl rfl ?_
    refine LW.nil ?_
    show CW _ _ _ _ _ _
    refine CW.ret ?_
    cases h
    exact And.intro trivial ⟨_, Res.one (resOne.t rfl), rfl, hS4.pick [] rfl rfl⟩
  obtain ⟨rfl, u, rfl, hM⟩ := hM
  cases h25
  exact And.intro trivial hM

theorem W_z_EqualFunc_Obj_i_sameObj {w0 : World} {N : Nat} {x0 : List DObj} {x1 : List DObj} {r : Bool} (h : F_z_EqualFunc_Obj_i_sameObj N x0 x1 = some r) {a0_0 : Option Addr} {n0_0 c0_0 : Nat} (hn0_0 : n0_0 = x0.length) (hr0_0 : rdS (Bor w0 []) w0 a0_0 c0_0 x0) {a1_0 : Option Addr} {n1_0 c1_0 : Nat} (hn1_0 : n1_0 = x1.length) (hr1_0 : rdS (Bor w0 []) w0 a1_0 c1_0 x1) :
    Ret Try.prog 192 #[.slice a0_0 n0_0 c0_0, .slice a1_0 n1_0 c1_0, .func (.func 193) #[] #[]] w0 (fun v w => v = .bool r ∧ St w0 [] w []) := by
  subst hn0_0
  subst hn1_0
  unfold F_z_EqualFunc_Obj_i_sameObj at h
  refine Ret.of Try.func192 rfl rfl rfl ?_
  have hS1 := St.start w0
  refine CW.seq ?_
  refine CW.region ?_
  refine LW.p rfl rfl ?_
  refine LW.nil ?_
  show CW _ _ _ _ _ _
  refine CW.seq ?_
  refine CW.seq ?_
  refine CW.region ?_
  refine LW.p rfl rfl ?_
  refine LW.u (Pur.len Try.underlying68 rfl) rfl ?_
  refine LW.p rfl rfl ?_
  refine LW.u (Pur.len Try.underlying68 rfl) rfl ?_
  refine LW.p rfl rfl ?_
  refine LW.nil ?_
  show CW _ _ _ _ _ _
  refine CW.cond rfl (fun hc1 => ?_) (fun hc1 => ?_)
  · replace h := bcT h hc1
    refine CW.seq ?_
    refine CW.region ?_
    refine LW.p rfl rfl ?_
    refine LW.nil ?_
    show CW _ _ _ _ _ _
    refine CW.ret ?_
    cases h
    exact And.intro trivial ⟨_, Res.one (resOne.t rfl), rfl, hS1.pick [] rfl rfl⟩
  replace h := bcF h hc1
  refine CW.skip ?_
  show CW _ _ _ _ _ _
  refine CW.seq ?_
  refine CW.seq ?_
  refine CW.region ?_
  refine LW.p rfl rfl ?_
  refine LW.u (Pur.len Try.underlying68 rfl) rfl ?_
  refine LW.p rfl rfl ?_
  refine LW.nil ?_
  show CW _ _ _ _ _ _
  refine CW.block ?_
  obtain ⟨o50, ho50, h51⟩ := obind h
  refine CW.mono (CW.iter (σ := Int) (ρ := Int ⊕ Bool) (fun s2 e wb => En e [(1, .slice a1_0 x1.length c1_0), (2, .func (.func 193) #[] #[]), (15, .slice a0_0 x0.length c0_0), (16, .int .i64 (x0.length : Int)), (17, .int .i64 s2)] ∧ St w0 [] wb []) (fun o x e wb => match o with | .inl s2 => x = .exit 0 ∧ En e [] ∧ St w0 [] wb [] | .inr r => x = .ret ∧ ∃ u, u = r ∧ ∃ v, Res Try.prog Try.f192.results e wb v ∧ v = .bool u ∧ St w0 [] wb []) ?_ N 0 _ _ _ ⟨⟨rfl, rfl, rfl, rfl, rfl, trivial⟩, hS1.pick [] rfl rfl⟩ ho50) ?_
  · intro s2 e w3 o hM h
    obtain ⟨hE, hS2⟩ := hM
    obtain ⟨e, rfl⟩ := hE.out
    refine CW.seq ?_
    refine CW.region ?_
    refine LW.p rfl rfl ?_
    refine LW.nil ?_
    show CW _ _ _ _ _ _
    refine CW.seq ?_
    refine CW.cond rfl (fun hc4 => ?_) (fun hc4 => ?_)
    · replace h := bcT h hc4
      refine CW.skip ?_
      show CW _ _ _ _ _ _
      refine CW.seq ?_
      refine CW.block ?_
      refine CW.seq ?_
      refine CW.region ?_
      refine LW.p rfl rfl ?_
      replace h := obind h
      obtain ⟨y5, hy5, h⟩ := h
      obtain ⟨b8, o9, cs10, hae, hb13, hp6, hq7, hd11, hk12⟩ := hr0_0.idx hy5
      subst hae
      obtain ⟨a14, c15, a17, c18, a20, c21, rfl, hr16, hr19, hr22⟩ := hd11
      refine LW.u (Pur.ix Try.underlying68 sz123 rfl rfl hp6 hq7) rfl ?_
      refine LW.l (Ldr.oldN w0 ag123 rfl rfl (fun j u hu => hk12 j u hu)) (hS2.same _ hb13.1 hb13.2) rfl ?_
      refine LW.alloc zv123 hS2 rfl ?_
      intro g23 w24 hS3 hf
      refine LW.p rfl rfl ?_
      refine LW.stb hS3 0 rfl ag123 rfl rfl rfl rfl rfl ?_
      intro w25 hS4 hf
      refine LW.nil ?_
      show CW _ _ _ _ _ _
      refine CW.fresh (l := [(1, .slice a1_0 x1.length c1_0), (2, .func (.func 193) #[] #[]), (7, .int .i64 s2), (8, .pointer (some ⟨g23, 0, none⟩)), (15, .slice (some ⟨b8, o9, none⟩) x0.length c0_0), (16, .int .i64 (x0.length : Int)), (17, .int .i64 s2)]) ⟨rfl, rfl, rfl, rfl, rfl, rfl, rfl, trivial⟩ (fun e => ?_)
      refine CW.seq ?_
      refine CW.region ?_
      iterate 2 refine LW.p rfl rfl ?_
      replace h := obind h
      obtain ⟨y26, hy26, h⟩ := h
      obtain ⟨b29, o30, cs31, hae, hb34, hp27, hq28, hd32, hk33⟩ := hr1_0.idx hy26
      subst hae
      obtain ⟨a35, c36, a38, c39, a41, c42, rfl, hr37, hr40, hr43⟩ := hd32
      refine LW.u (Pur.ix Try.underlying68 sz123 rfl rfl hp27 hq28) rfl ?_
      refine LW.l (Ldr.oldN w0 ag123 rfl rfl (fun j u hu => hk33 j u hu)) (hS4.same _ hb34.1 hb34.2) rfl ?_
      refine LW.alloc zv123 hS4 rfl ?_
      intro g44 w45 hS5 hf
      refine LW.stb hS5 0 rfl ag123 rfl rfl rfl rfl rfl ?_
      intro w46 hS6 hf
      refine LW.nil ?_
      show CW _ _ _ _ _ _
      refine CW.seq ?_
      refine CW.region ?_
      refine LW.p rfl rfl ?_
      refine LW.ldbN hS6 1 rfl ag123 rfl rfl rfl ?_
      refine LW.ldbN hS6 0 rfl ag123 rfl rfl rfl ?_
      replace h := obind h
      obtain ⟨y47, hy47, h⟩ := h
      have q := W_i_sameObj (w0 := w46) hy47 rfl (hS6.rB hr16) rfl (hS6.rB hr19) rfl (hS6.rB hr22) rfl (hS6.rB hr37) rfl (hS6.rB hr40) rfl (hS6.rB hr43)
      refine LW.callv rfl pl193 rfl rfl ?_
      refine Ret.mono q ?_
      rintro _ w48 ⟨rfl, hs⟩
      have hS7 := hS6.add hs
      refine LW.p rfl rfl ?_
      refine LW.nil ?_
      show CW _ _ _ _ _ _
      refine CW.cond rfl (fun hc49 => ?_) (fun hc49 => ?_)
      · replace h := bcT h hc49
        refine CW.seq ?_
        refine CW.region ?_
        refine LW.p rfl rfl ?_
        refine LW.nil ?_
        show CW _ _ _ _ _ _
        refine CW.fresh (l := [(6, .bool false)]) ⟨rfl, trivial⟩ (fun e => ?_)
        refine CW.ret ?_
        replace h := Option.some.inj h
        subst h
        exact ⟨trivial, rfl, _, rfl, ⟨_, Res.one (resOne.t rfl), rfl, hS7.pick [] rfl rfl⟩⟩
      replace h := bcF h hc49
      refine CW.skip ?_
      show CW _ _ _ _ _ _
      refine CW.region ?_
      iterate 2 refine LW.p rfl rfl ?_
      refine LW.nil ?_
      replace h := Option.some.inj h
      subst h
      exact ⟨rfl, ⟨⟨rfl, rfl, rfl, rfl, rfl, trivial⟩, hS7.pick [] rfl rfl⟩⟩
    replace h := bcF h hc4
    refine CW.exit ?_
    replace h := Option.some.inj h
    subst h
    exact ⟨trivial, rfl, ⟨trivial, hS2.pick [] rfl rfl⟩⟩
  intro x e w52 hM
  rcases o50 with o50 | r53
  · obtain ⟨rfl, hM⟩ := hM
    obtain ⟨hE, hS8⟩ := hM
    obtain ⟨e, rfl⟩ := hE.out
    have h := h51
    show CW _ _ _ _ _ _
    refine CW.seq ?_
    refine CW.region ?_
    refine LW.p rfl rfl ?_
    refine LW.nil ?_
    show CW _ _ _ _ _ _
    refine CW.ret ?_
    cases h
    exact And.intro trivial ⟨_, Res.one (resOne.t rfl), rfl, hS8.pick [] rfl rfl⟩
  obtain ⟨rfl, u, rfl, hM⟩ := hM
  cases h51
  exact And.intro trivial hM

theorem W_i_SameArena {w0 : World} {N : Nat} {x0 : List DObj} {x1 : List DObj} {r : Bool} (h : F_i_SameArena N x0 x1 = some r) {a0_0 : Option Addr} {n0_0 c0_0 : Nat} (hn0_0 : n0_0 = x0.length) (hr0_0 : rdS (Bor w0 []) w0 a0_0 c0_0 x0) {a1_0 : Option Addr} {n1_0 c1_0 : Nat} (hn1_0 : n1_0 = x1.length) (hr1_0 : rdS (Bor w0 []) w0 a1_0 c1_0 x1) :
    Ret Try.prog 173 #[.slice a0_0 n0_0 c0_0, .slice a1_0 n1_0 c1_0] w0 (fun v w => v = .bool r ∧ St w0 [] w []) := by
  subst hn0_0
  subst hn1_0
  unfold F_i_SameArena at h
  refine Ret.of Try.func173 rfl rfl rfl ?_
  have hS1 := St.start w0
  refine CW.seq ?_
  refine CW.region ?_
  refine LW.p rfl rfl ?_
  refine LW.nil ?_
  show CW _ _ _ _ _ _
  refine CW.seq ?_
  refine CW.region ?_
  iterate 2 refine LW.p rfl rfl ?_
  replace h := obind h
  obtain ⟨y1, hy1, h⟩ := h
  have q := W_z_EqualFunc_Obj_i_sameObj (w0 := w0) hy1 rfl (hS1.rB hr0_0) rfl (hS1.rB hr1_0)
  refine LW.call pl192 rfl rfl ?_
  refine Ret.mono q ?_
  rintro _ w2 ⟨rfl, hs⟩
  have hS2 := hS1.add hs
  refine LW.p rfl rfl ?_
  refine LW.nil ?_
  show CW _ _ _ _ _ _
  refine CW.ret ?_
  cases h
  exact And.intro trivial ⟨_, Res.one (resOne.t rfl), rfl, hS2.pick [] rfl rfl⟩

theorem W_i_sameHeap {w0 : World} {N : Nat} {x0 : DHeap} {x1 : DHeap} {r : Bool} (h : F_i_sameHeap N x0 x1 = some r) {a0_0 : Option Addr} {n0_0 c0_0 : Nat} (hn0_0 : n0_0 = x0.arena.length) (hr0_0 : rdS (Bor w0 []) w0 a0_0 c0_0 x0.arena) {a0_4 : Option Addr} {n0_4 c0_4 : Nat} (hn0_4 : n0_4 = x0.gc.grey.length) (hr0_4 : rdS (Bor w0 []) w0 a0_4 c0_4 x0.gc.grey) {a1_0 : Option Addr} {n1_0 c1_0 : Nat} (hn1_0 : n1_0 = x1.arena.length) (hr1_0 : rdS (Bor w0 []) w0 a1_0 c1_0 x1.arena) {a1_4 : Option Addr} {n1_4 c1_4 : Nat} (hn1_4 : n1_4 = x1.gc.grey.length) (hr1_4 : rdS (Bor w0 []) w0 a1_4 c1_4 x1.gc.grey) :
    Ret Try.prog 129 #[.agg #[.slice a0_0 n0_0 c0_0, .int .i64 x0.gc.phase, .int .i64 x0.gc.pos, .int .i64 x0.gc.round, .slice a0_4 n0_4 c0_4], .agg #[.slice a1_0 n1_0 c1_0, .int .i64 x1.gc.phase, .int .i64 x1.gc.pos, .int .i64 x1.gc.round, .slice a1_4 n1_4 c1_4]] w0 (fun v w => v = .bool r ∧ St w0 [] w []) := by
  subst hn0_0
  subst hn0_4
  subst hn1_0
  subst hn1_4
  unfold F_i_sameHeap at h
  refine Ret.of Try.func129 rfl rfl rfl ?_
  have hS1 := St.start w0
  refine CW.seq ?_
  refine CW.region ?_
  refine LW.box (cs := [.slice a0_0 x0.arena.length c0_0, .int .i64 x0.gc.phase, .int .i64 x0.gc.pos, .int .i64 x0.gc.round, .slice a0_4 x0.gc.grey.length c0_4]) rfl hS1 rfl ?_
  intro g1 w2 hS2 hf
  refine LW.box (cs := [.slice a1_0 x1.arena.length c1_0, .int .i64 x1.gc.phase, .int .i64 x1.gc.pos, .int .i64 x1.gc.round, .slice a1_4 x1.gc.grey.length c1_4]) rfl hS2 rfl ?_
  intro g3 w4 hS3 hf
  refine LW.p rfl rfl ?_
  refine LW.nil ?_
  show CW _ _ _ _ _ _
  refine CW.seq ?_
  refine CW.region ?_
  refine LW.u (Pur.fa fo71_0 rfl) rfl ?_
  refine LW.ldb hS3 1 rfl ag68 rfl rfl rfl ?_
  refine LW.u (Pur.fa fo71_0 rfl) rfl ?_
  refine LW.ldb hS3 0 rfl ag68 rfl rfl rfl ?_
  replace h := obind h
  obtain ⟨y5, hy5, h⟩ := h
  have q := W_i_SameArena (w0 := w4) hy5 rfl (hS3.rB hr0_0) rfl (hS3.rB hr1_0)
  refine LW.call pl173 rfl rfl ?_
  refine Ret.mono q ?_
  rintro _ w6 ⟨rfl, hs⟩
  have hS4 := hS3.add hs
  refine LW.p rfl rfl ?_
  rcases bcases y5 with hc7 | hc7
  · replace h := bcT h hc7
    refine LW.gY (want_of rfl rfl hc7) ?_
    refine LW.u (Pur.fa fo71_1 rfl) rfl ?_
    refine LW.gY (want_of rfl rfl hc7) ?_
    refine LW.u (Pur.fa fo69_0 rfl) rfl ?_
    refine LW.gY (want_of rfl rfl hc7) ?_
    refine LW.ldb hS4 1 rfl ag3 rfl rfl rfl ?_
    refine LW.gY (want_of rfl rfl hc7) ?_
    refine LW.u (Pur.fa fo71_1 rfl) rfl ?_
    refine LW.gY (want_of rfl rfl hc7) ?_
    refine LW.u (Pur.fa fo69_0 rfl) rfl ?_
    refine LW.gY (want_of rfl rfl hc7) ?_
    refine LW.ldb hS4 0 rfl ag3 rfl rfl rfl ?_
    refine LW.gY (want_of rfl rfl hc7) ?_
    refine LW.p rfl rfl ?_
    refine LW.u (Pur.pickT rfl hc7) rfl ?_
    refine LW.p rfl rfl ?_
    rcases bcases (x0.gc.phase == x1.gc.phase) with hc8 | hc8
    · replace h := bcT h hc8
      refine LW.gY (want_of rfl rfl hc8) ?_
      refine LW.u (Pur.fa fo71_1 rfl) rfl ?_
      refine LW.gY (want_of rfl rfl hc8) ?_
      refine LW.u (Pur.fa fo69_1 rfl) rfl ?_
      refine LW.gY (want_of rfl rfl hc8) ?_
      refine LW.ldb hS4 1 rfl ag3 rfl rfl rfl ?_
      refine LW.gY (want_of rfl rfl hc8) ?_
      refine LW.u (Pur.fa fo71_1 rfl) rfl ?_
      refine LW.gY (want_of rfl rfl hc8) ?_
      refine LW.u (Pur.fa fo69_1 rfl) rfl ?_
      refine LW.fresh (l := [(2, .pointer (some ⟨g1, 0, none⟩)), (3, .pointer (some ⟨g3, 0, none⟩)), (19, .bool (x0.gc.phase == x1.gc.phase)), (22, .int .i64 x0.gc.pos), (24, .pointer (some ⟨g3, 0 + 1 + 1, none⟩))]) ⟨rfl, rfl, rfl, rfl, rfl, trivial⟩ (fun e => ?_)
      refine LW.gY (want_of rfl rfl hc8) ?_
      refine LW.ldb hS4 0 rfl ag3 rfl rfl rfl ?_
      refine LW.gY (want_of rfl rfl hc8) ?_
      refine LW.p rfl rfl ?_
      refine LW.u (Pur.pickT rfl hc8) rfl ?_
      refine LW.p rfl rfl ?_
      rcases bcases (x0.gc.pos == x1.gc.pos) with hc9 | hc9
      · replace h := bcT h hc9
        refine LW.gY (want_of rfl rfl hc9) ?_
        refine LW.u (Pur.fa fo71_1 rfl) rfl ?_
        refine LW.gY (want_of rfl rfl hc9) ?_
        refine LW.u (Pur.fa fo69_2 rfl) rfl ?_
        refine LW.gY (want_of rfl rfl hc9) ?_
        refine LW.ldb hS4 1 rfl ag3 rfl rfl rfl ?_
        refine LW.gY (want_of rfl rfl hc9) ?_
        refine LW.u (Pur.fa fo71_1 rfl) rfl ?_
        refine LW.gY (want_of rfl rfl hc9) ?_
        refine LW.u (Pur.fa fo69_2 rfl) rfl ?_
        refine LW.gY (want_of rfl rfl hc9) ?_
        refine LW.ldb hS4 0 rfl ag3 rfl rfl rfl ?_
        refine LW.gY (want_of rfl rfl hc9) ?_
        refine LW.p rfl rfl ?_
        refine LW.u (Pur.pickT rfl hc9) rfl ?_
        refine LW.p rfl rfl ?_
        rcases bcases (x0.gc.round == x1.gc.round) with hc10 | hc10
        · replace h := bcT h hc10
          refine LW.gY (want_of rfl rfl hc10) ?_
          refine LW.u (Pur.fa fo71_1 rfl) rfl ?_
          refine LW.gY (want_of rfl rfl hc10) ?_
          refine LW.u (Pur.fa fo69_3 rfl) rfl ?_
          refine LW.gY (want_of rfl rfl hc10) ?_
          refine LW.ldb hS4 1 rfl ag24 rfl rfl rfl ?_
          refine LW.gY (want_of rfl rfl hc10) ?_
          refine LW.u (Pur.fa fo71_1 rfl) rfl ?_
          refine LW.gY (want_of rfl rfl hc10) ?_
          refine LW.u (Pur.fa fo69_3 rfl) rfl ?_
          refine LW.gY (want_of rfl rfl hc10) ?_
          refine LW.ldb hS4 0 rfl ag24 rfl rfl rfl ?_
          replace h := obind h
          obtain ⟨y11, hy11, h⟩ := h
          have q := W_z_Equal_int (w0 := w6) hy11 rfl (hS4.rB hr0_4) rfl (hS4.rB hr1_4)
          refine LW.gY (want_of rfl rfl hc10) ?_
          refine LW.call pl127 rfl rfl ?_
          refine Ret.mono q ?_
          rintro _ w12 ⟨rfl, hs⟩
          have hS5 := hS4.add hs
          refine LW.u (Pur.pickT rfl hc10) rfl ?_
          refine LW.p rfl rfl ?_
          refine LW.nil ?_
          show CW _ _ _ _ _ _
          refine CW.fresh (l := [(4, .bool y11)]) ⟨rfl, trivial⟩ (fun e => ?_)
          refine CW.ret ?_
          cases h
          exact And.intro trivial ⟨_, Res.one (resOne.t rfl), rfl, hS5.pick [] rfl rfl⟩
        replace h := bcF h hc10
        refine LW.gN (want_not rfl rfl hc10) rfl ?_
        refine LW.gN (want_not rfl rfl hc10) rfl ?_
        refine LW.gN (want_not rfl rfl hc10) rfl ?_
        refine LW.gN (want_not rfl rfl hc10) rfl ?_
        refine LW.gN (want_not rfl rfl hc10) rfl ?_
        refine LW.gN (want_not rfl rfl hc10) rfl ?_
        refine LW.gN (want_not rfl rfl hc10) rfl ?_
        refine LW.u (Pur.pickF rfl hc10) rfl ?_
        refine LW.p rfl rfl ?_
        refine LW.nil ?_
        show CW _ _ _ _ _ _
        refine CW.fresh (l := [(4, .bool false)]) ⟨rfl, trivial⟩ (fun e => ?_)
        refine CW.ret ?_
        cases h
        exact And.intro trivial ⟨_, Res.one (resOne.t rfl), rfl, hS4.pick [] rfl rfl⟩
      replace h := bcF h hc9
      refine LW.gN (want_not rfl rfl hc9) rfl ?_
      refine LW.gN (want_not rfl rfl hc9) rfl ?_
      refine LW.gN (want_not rfl rfl hc9) rfl ?_
      refine LW.gN (want_not rfl rfl hc9) rfl ?_
      refine LW.gN (want_not rfl rfl hc9) rfl ?_
      refine LW.gN (want_not rfl rfl hc9) rfl ?_
      refine LW.gN (want_not rfl rfl hc9) rfl ?_
      refine LW.u (Pur.pickF rfl hc9) rfl ?_
      refine LW.p rfl rfl ?_
      refine LW.gN (want_not rfl rfl rfl) rfl ?_
      refine LW.gN (want_not rfl rfl rfl) rfl ?_
      refine LW.gN (want_not rfl rfl rfl) rfl ?_
      refine LW.gN (want_not rfl rfl rfl) rfl ?_
      refine LW.gN (want_not rfl rfl rfl) rfl ?_
      refine LW.gN (want_not rfl rfl rfl) rfl ?_
      refine LW.gN (want_not rfl rfl rfl) rfl ?_
      refine LW.u (Pur.pickF rfl rfl) rfl ?_
      refine LW.p rfl rfl ?_
      refine LW.nil ?_
      show CW _ _ _ _ _ _
      refine CW.fresh (l := [(4, .bool false)]) ⟨rfl, trivial⟩ (fun e => ?_)
      refine CW.ret ?_
      cases h
      exact And.intro trivial ⟨_, Res.one (resOne.t rfl), rfl, hS4.pick [] rfl rfl⟩
    replace h := bcF h hc8
    refine LW.gN (want_not rfl rfl hc8) rfl ?_
    refine LW.gN (want_not rfl rfl hc8) rfl ?_
    refine LW.gN (want_not rfl rfl hc8) rfl ?_
    refine LW.gN (want_not rfl rfl hc8) rfl ?_
    refine LW.gN (want_not rfl rfl hc8) rfl ?_
    refine LW.fresh (l := [(2, .pointer (some ⟨g1, 0, none⟩)), (3, .pointer (some ⟨g3, 0, none⟩)), (19, .bool (x0.gc.phase == x1.gc.phase)), (22, undef), (24, undef)]) ⟨rfl, rfl, rfl, rfl, rfl, trivial⟩ (fun e => ?_)
    refine LW.gN (want_not rfl rfl hc8) rfl ?_
    refine LW.gN (want_not rfl rfl hc8) rfl ?_
    refine LW.u (Pur.pickF rfl hc8) rfl ?_
    refine LW.p rfl rfl ?_
    refine LW.gN (want_not rfl rfl rfl) rfl ?_
    refine LW.gN (want_not rfl rfl rfl) rfl ?_
    refine LW.gN (want_not rfl rfl rfl) rfl ?_
    refine LW.gN (want_not rfl rfl rfl) rfl ?_
    refine LW.gN (want_not rfl rfl rfl) rfl ?_
    refine LW.gN (want_not rfl rfl rfl) rfl ?_
    refine LW.gN (want_not rfl rfl rfl) rfl ?_
    refine LW.u (Pur.pickF rfl rfl) rfl ?_
    refine LW.p rfl rfl ?_
    refine LW.gN (want_not rfl rfl rfl) rfl ?_
    refine LW.gN (want_not rfl rfl rfl) rfl ?_
    refine LW.gN (want_not rfl rfl rfl) rfl ?_
    refine LW.gN (want_not rfl rfl rfl) rfl ?_
    refine LW.gN (want_not rfl rfl rfl) rfl ?_
    refine LW.gN (want_not rfl rfl rfl) rfl ?_
    refine LW.gN (want_not rfl rfl rfl) rfl ?_
    refine LW.u (Pur.pickF rfl rfl) rfl ?_
    refine LW.p rfl rfl ?_
    refine LW.nil ?_
    show CW _ _ _ _ _ _
    refine CW.fresh (l := [(4, .bool false)]) ⟨rfl, trivial⟩ (fun e => ?_)
    refine CW.ret ?_
    cases h
    exact And.intro trivial ⟨_, Res.one (resOne.t rfl), rfl, hS4.pick [] rfl rfl⟩
  replace h := bcF h hc7
  refine LW.gN (want_not rfl rfl hc7) rfl ?_
  refine LW.gN (want_not rfl rfl hc7) rfl ?_
  refine LW.gN (want_not rfl rfl hc7) rfl ?_
  refine LW.gN (want_not rfl rfl hc7) rfl ?_
  refine LW.gN (want_not rfl rfl hc7) rfl ?_
  refine LW.gN (want_not rfl rfl hc7) rfl ?_
  refine LW.gN (want_not rfl rfl hc7) rfl ?_
  refine LW.u (Pur.pickF rfl hc7) rfl ?_
  refine LW.p rfl rfl ?_
  refine LW.gN (want_not rfl rfl rfl) rfl ?_
  refine LW.gN (want_not rfl rfl rfl) rfl ?_
  refine LW.gN (want_not rfl rfl rfl) rfl ?_
  refine LW.gN (want_not rfl rfl rfl) rfl ?_
  refine LW.gN (want_not rfl rfl rfl) rfl ?_
  refine LW.gN (want_not rfl rfl rfl) rfl ?_
  refine LW.fresh (l := [(2, .pointer (some ⟨g1, 0, none⟩)), (3, .pointer (some ⟨g3, 0, none⟩)), (19, .bool false), (22, undef), (25, undef)]) ⟨rfl, rfl, rfl, rfl, rfl, trivial⟩ (fun e => ?_)
  refine LW.gN (want_not rfl rfl rfl) rfl ?_
  refine LW.u (Pur.pickF rfl rfl) rfl ?_
  refine LW.p rfl rfl ?_
  refine LW.gN (want_not rfl rfl rfl) rfl ?_
  refine LW.gN (want_not rfl rfl rfl) rfl ?_
  refine LW.gN (want_not rfl rfl rfl) rfl ?_
  refine LW.gN (want_not rfl rfl rfl) rfl ?_
  refine LW.gN (want_not rfl rfl rfl) rfl ?_
  refine LW.gN (want_not rfl rfl rfl) rfl ?_
  refine LW.gN (want_not rfl rfl rfl) rfl ?_
  refine LW.u (Pur.pickF rfl rfl) rfl ?_
  refine LW.p rfl rfl ?_
  refine LW.gN (want_not rfl rfl rfl) rfl ?_
  refine LW.gN (want_not rfl rfl rfl) rfl ?_
  refine LW.gN (want_not rfl rfl rfl) rfl ?_
  refine LW.gN (want_not rfl rfl rfl) rfl ?_
  refine LW.gN (want_not rfl rfl rfl) rfl ?_
  refine LW.gN (want_not rfl rfl rfl) rfl ?_
  refine LW.gN (want_not rfl rfl rfl) rfl ?_
  refine LW.u (Pur.pickF rfl rfl) rfl ?_
  refine LW.p rfl rfl ?_
  refine LW.nil ?_
  show CW _ _ _ _ _ _
  refine CW.fresh (l := [(4, .bool false)]) ⟨rfl, trivial⟩ (fun e => ?_)
  refine CW.ret ?_
  cases h
  exact And.intro trivial ⟨_, Res.one (resOne.t rfl), rfl, hS4.pick [] rfl rfl⟩

theorem W_z_Equal_Tap {w0 : World} {N : Nat} {x0 : List DTap} {x1 : List DTap} {r : Bool} (h : F_z_Equal_Tap N x0 x1 = some r) {a0_0 : Option Addr} {n0_0 c0_0 : Nat} (hn0_0 : n0_0 = x0.length) (hr0_0 : rdS (Bor w0 []) w0 a0_0 c0_0 x0) {a1_0 : Option Addr} {n1_0 c1_0 : Nat} (hn1_0 : n1_0 = x1.length) (hr1_0 : rdS (Bor w0 []) w0 a1_0 c1_0 x1) :
    Ret Try.prog 130 #[.slice a0_0 n0_0 c0_0, .slice a1_0 n1_0 c1_0] w0 (fun v w => v = .bool r ∧ St w0 [] w []) := by
  subst hn0_0
  subst hn1_0
  unfold F_z_Equal_Tap at h
  refine Ret.of Try.func130 rfl rfl rfl ?_
  have hS1 := St.start w0
  refine CW.seq ?_
  refine CW.region ?_
  refine LW.p rfl rfl ?_
  refine LW.nil ?_
  show CW _ _ _ _ _ _
  refine CW.seq ?_
  refine CW.seq ?_
  refine CW.region ?_
  refine LW.p rfl rfl ?_
  refine LW.u (Pur.len Try.underlying72 rfl) rfl ?_
  refine LW.p rfl rfl ?_
  refine LW.u (Pur.len Try.underlying72 rfl) rfl ?_
  refine LW.p rfl rfl ?_
  refine LW.nil ?_
  show CW _ _ _ _ _ _
  refine CW.cond rfl (fun hc1 => ?_) (fun hc1 => ?_)
  · replace h := bcT h hc1
    refine CW.seq ?_
    refine CW.region ?_
    refine LW.p rfl rfl ?_
    refine LW.nil ?_
    show CW _ _ _ _ _ _
    refine CW.ret ?_
    cases h
    exact And.intro trivial ⟨_, Res.one (resOne.t rfl), rfl, hS1.pick [] rfl rfl⟩
  replace h := bcF h hc1
  refine CW.skip ?_
  show CW _ _ _ _ _ _
  refine CW.seq ?_
  refine CW.seq ?_
  refine CW.region ?_
  refine LW.p rfl rfl ?_
  refine LW.u (Pur.len Try.underlying72 rfl) rfl ?_
  refine LW.p rfl rfl ?_
  refine LW.nil ?_
  show CW _ _ _ _ _ _
  refine CW.block ?_
  obtain ⟨o24, ho24, h25⟩ := obind h
  refine CW.mono (CW.iter (σ := Int) (ρ := Int ⊕ Bool) (fun s2 e wb => En e [(0, .slice a0_0 x0.length c0_0), (1, .slice a1_0 x1.length c1_0), (12, .int .i64 (x0.length : Int)), (13, .int .i64 s2)] ∧ St w0 [] wb []) (fun o x e wb => match o with | .inl s2 => x = .exit 0 ∧ En e [] ∧ St w0 [] wb [] | .inr r => x = .ret ∧ ∃ u, u = r ∧ ∃ v, Res Try.prog Try.f130.results e wb v ∧ v = .bool u ∧ St w0 [] wb []) ?_ N 0 _ _ _ ⟨⟨rfl, rfl, rfl, rfl, trivial⟩, hS1.pick [] rfl rfl⟩ ho24) ?_
  · intro s2 e w3 o hM h
    obtain ⟨hE, hS2⟩ := hM
    obtain ⟨e, rfl⟩ := hE.out
    refine CW.seq ?_
    refine CW.region ?_
    refine LW.p rfl rfl ?_
    refine LW.nil ?_
    show CW _ _ _ _ _ _
    refine CW.seq ?_
    refine CW.cond rfl (fun hc4 => ?_) (fun hc4 => ?_)
    · replace h := bcT h hc4
      refine CW.skip ?_
      show CW _ _ _ _ _ _
      refine CW.seq ?_
      refine CW.block ?_
      refine CW.seq ?_
      refine CW.region ?_
      iterate 2 refine LW.p rfl rfl ?_
      refine LW.nil ?_
      show CW _ _ _ _ _ _
      refine CW.seq ?_
      refine CW.draw (by kernel_rfl) ?_
      have hS3 := hS2.drew
      refine AW.u (i := 0) rfl (by kernel_rfl) rfl rfl (Pur.p rfl) ?_
      refine AW.u (i := 1) rfl (by kernel_rfl) rfl rfl (Pur.p rfl) ?_
      replace h := obind h
      obtain ⟨y5, hy5, h⟩ := h
      obtain ⟨b8, o9, cs10, hae, hb13, hp6, hq7, hd11, hk12⟩ := hr0_0.idx hy5
      subst hae
      obtain rfl := hd11
      refine AW.u (i := 2) rfl (by kernel_rfl) rfl rfl (Pur.ix Try.underlying72 sz158 rfl rfl hp6 hq7) ?_
      refine AW.take (i := 3) rfl (by kernel_rfl) rfl rfl (Ldr.oldN w0 ag158 rfl rfl (fun j u hu => hk12 j u hu)) (hS3.same _ hb13.1 hb13.2) ?_
      refine AW.u (i := 4) rfl (by kernel_rfl) rfl rfl (Pur.p rfl) ?_
      refine AW.u (i := 5) rfl (by kernel_rfl) rfl rfl (Pur.p rfl) ?_
      replace h := obind h
      obtain ⟨y14, hy14, h⟩ := h
      obtain ⟨b17, o18, cs19, hae, hb22, hp15, hq16, hd20, hk21⟩ := hr1_0.idx hy14
      subst hae
      obtain rfl := hd20
      refine AW.u (i := 6) rfl (by kernel_rfl) rfl rfl (Pur.ix Try.underlying72 sz158 rfl rfl hp15 hq16) ?_
      refine AW.take (i := 7) rfl (by kernel_rfl) rfl rfl (Ldr.oldN w0 ag158 rfl rfl (fun j u hu => hk21 j u hu)) (hS3.same _ hb22.1 hb22.2) ?_
      refine AW.u (i := 8) rfl (by kernel_rfl) rfl rfl (Pur.ane eg158 rfl rfl (fun w => eq158 y5 y14 w)) ?_
      refine AW.done (by kernel_rfl) ?_
      show CW _ _ _ _ _ _
      refine CW.cond rfl (fun hc23 => ?_) (fun hc23 => ?_)
      · replace h := bcT h hc23
        refine CW.seq ?_
        refine CW.region ?_
        refine LW.p rfl rfl ?_
        refine LW.nil ?_
        show CW _ _ _ _ _ _
        refine CW.fresh (l := [(4, .bool false)]) ⟨rfl, trivial⟩ (fun e => ?_)
        refine CW.ret ?_
        replace h := Option.some.inj h
        subst h
        exact ⟨trivial, rfl, _, rfl, ⟨_, Res.one (resOne.t rfl), rfl, hS3.pick [] rfl rfl⟩⟩
      replace h := bcF h hc23
      refine CW.skip ?_
      show CW _ _ _ _ _ _
      refine CW.region ?_
      iterate 2 refine LW.p rfl rfl ?_
      refine LW.nil ?_
      replace h := Option.some.inj h
      subst h
      exact ⟨rfl, ⟨⟨rfl, rfl, rfl, rfl, trivial⟩, hS3.pick [] rfl rfl⟩⟩
    replace h := bcF h hc4
    refine CW.exit ?_
    replace h := Option.some.inj h
    subst h
    exact ⟨trivial, rfl, ⟨trivial, hS2.pick [] rfl rfl⟩⟩
  intro x e w26 hM
  rcases o24 with o24 | r27
  · obtain ⟨rfl, hM⟩ := hM
    obtain ⟨hE, hS4⟩ := hM
    obtain ⟨e, rfl⟩ := hE.out
    have h := h25
    show CW _ _ _ _ _ _
    refine CW.seq ?_
    refine CW.region ?_
    refine LW.p rfl rfl ?_
    refine LW.nil ?_
    show CW _ _ _ _ _ _
    refine CW.ret ?_
    cases h
    exact And.intro trivial ⟨_, Res.one (resOne.t rfl), rfl, hS4.pick [] rfl rfl⟩
  obtain ⟨rfl, u, rfl, hM⟩ := hM
  cases h25
  exact And.intro trivial hM

theorem W_i_SamePart {w0 : World} {N : Nat} {x0 : DPart} {x1 : DPart} {r : Bool} (h : F_i_SamePart N x0 x1 = some r) {a0_0 : Option Addr} {n0_0 c0_0 : Nat} (hn0_0 : n0_0 = x0.label.levels.length) (hr0_0 : rdS (Bor w0 []) w0 a0_0 c0_0 x0.label.levels) {a0_1 : Option Addr} {n0_1 c0_1 : Nat} (hn0_1 : n0_1 = x0.own.length) (hr0_1 : rdS (Bor w0 []) w0 a0_1 c0_1 x0.own) {a0_2 : Option Addr} {n0_2 c0_2 : Nat} (hn0_2 : n0_2 = x0.tree.length) (hr0_2 : rdS (Bor w0 []) w0 a0_2 c0_2 x0.tree) {a0_3 : Option Addr} {n0_3 c0_3 : Nat} (hn0_3 : n0_3 = x0.heap.arena.length) (hr0_3 : rdS (Bor w0 []) w0 a0_3 c0_3 x0.heap.arena) {a0_7 : Option Addr} {n0_7 c0_7 : Nat} (hn0_7 : n0_7 = x0.heap.gc.grey.length) (hr0_7 : rdS (Bor w0 []) w0 a0_7 c0_7 x0.heap.gc.grey) {a0_8 : Option Addr} {n0_8 c0_8 : Nat} (hn0_8 : n0_8 = x0.taps.length) (hr0_8 : rdS (Bor w0 []) w0 a0_8 c0_8 x0.taps) {a1_0 : Option Addr} {n1_0 c1_0 : Nat} (hn1_0 : n1_0 = x1.label.levels.length) (hr1_0 : rdS (Bor w0 []) w0 a1_0 c1_0 x1.label.levels) {a1_1 : Option Addr} {n1_1 c1_1 : Nat} (hn1_1 : n1_1 = x1.own.length) (hr1_1 : rdS (Bor w0 []) w0 a1_1 c1_1 x1.own) {a1_2 : Option Addr} {n1_2 c1_2 : Nat} (hn1_2 : n1_2 = x1.tree.length) (hr1_2 : rdS (Bor w0 []) w0 a1_2 c1_2 x1.tree) {a1_3 : Option Addr} {n1_3 c1_3 : Nat} (hn1_3 : n1_3 = x1.heap.arena.length) (hr1_3 : rdS (Bor w0 []) w0 a1_3 c1_3 x1.heap.arena) {a1_7 : Option Addr} {n1_7 c1_7 : Nat} (hn1_7 : n1_7 = x1.heap.gc.grey.length) (hr1_7 : rdS (Bor w0 []) w0 a1_7 c1_7 x1.heap.gc.grey) {a1_8 : Option Addr} {n1_8 c1_8 : Nat} (hn1_8 : n1_8 = x1.taps.length) (hr1_8 : rdS (Bor w0 []) w0 a1_8 c1_8 x1.taps) :
    Ret Try.prog 66 #[.agg #[.slice a0_0 n0_0 c0_0, .slice a0_1 n0_1 c0_1, .slice a0_2 n0_2 c0_2, .slice a0_3 n0_3 c0_3, .int .i64 x0.heap.gc.phase, .int .i64 x0.heap.gc.pos, .int .i64 x0.heap.gc.round, .slice a0_7 n0_7 c0_7, .slice a0_8 n0_8 c0_8, .int .i64 x0.next, .int .i64 x0.want, .int .i64 x0.spent.pages, .int .i64 x0.spent.rent, .int .i64 x0.spent.cpu, .int .i64 x0.press, .int .i64 x0.lost], .agg #[.slice a1_0 n1_0 c1_0, .slice a1_1 n1_1 c1_1, .slice a1_2 n1_2 c1_2, .slice a1_3 n1_3 c1_3, .int .i64 x1.heap.gc.phase, .int .i64 x1.heap.gc.pos, .int .i64 x1.heap.gc.round, .slice a1_7 n1_7 c1_7, .slice a1_8 n1_8 c1_8, .int .i64 x1.next, .int .i64 x1.want, .int .i64 x1.spent.pages, .int .i64 x1.spent.rent, .int .i64 x1.spent.cpu, .int .i64 x1.press, .int .i64 x1.lost]] w0 (fun v w => v = .bool r ∧ St w0 [] w []) := by
  subst hn0_0
  subst hn0_1
  subst hn0_2
  subst hn0_3
  subst hn0_7
  subst hn0_8
  subst hn1_0
  subst hn1_1
  subst hn1_2
  subst hn1_3
  subst hn1_7
  subst hn1_8
  unfold F_i_SamePart at h
  refine Ret.of Try.func66 rfl rfl rfl ?_
  have hS1 := St.start w0
  refine CW.seq ?_
  refine CW.region ?_
  refine LW.box (cs := [.slice a0_0 x0.label.levels.length c0_0, .slice a0_1 x0.own.length c0_1, .slice a0_2 x0.tree.length c0_2, .slice a0_3 x0.heap.arena.length c0_3, .int .i64 x0.heap.gc.phase, .int .i64 x0.heap.gc.pos, .int .i64 x0.heap.gc.round, .slice a0_7 x0.heap.gc.grey.length c0_7, .slice a0_8 x0.taps.length c0_8, .int .i64 x0.next, .int .i64 x0.want, .int .i64 x0.spent.pages, .int .i64 x0.spent.rent, .int .i64 x0.spent.cpu, .int .i64 x0.press, .int .i64 x0.lost]) rfl hS1 rfl ?_
  intro g1 w2 hS2 hf
  refine LW.box (cs := [.slice a1_0 x1.label.levels.length c1_0, .slice a1_1 x1.own.length c1_1, .slice a1_2 x1.tree.length c1_2, .slice a1_3 x1.heap.arena.length c1_3, .int .i64 x1.heap.gc.phase, .int .i64 x1.heap.gc.pos, .int .i64 x1.heap.gc.round, .slice a1_7 x1.heap.gc.grey.length c1_7, .slice a1_8 x1.taps.length c1_8, .int .i64 x1.next, .int .i64 x1.want, .int .i64 x1.spent.pages, .int .i64 x1.spent.rent, .int .i64 x1.spent.cpu, .int .i64 x1.press, .int .i64 x1.lost]) rfl hS2 rfl ?_
  intro g3 w4 hS3 hf
  refine LW.p rfl rfl ?_
  refine LW.nil ?_
  show CW _ _ _ _ _ _
  refine CW.seq ?_
  refine CW.region ?_
  refine LW.u (Pur.fa fo75_0 rfl) rfl ?_
  refine LW.ldbN hS3 1 rfl ag35 rfl rfl rfl ?_
  refine LW.u (Pur.fa fo75_0 rfl) rfl ?_
  refine LW.ldbN hS3 0 rfl ag35 rfl rfl rfl ?_
  replace h := obind h
  obtain ⟨y5, hy5, h⟩ := h
  have q := W_i_SameLabel (w0 := w4) hy5 rfl (hS3.rB hr0_0) rfl (hS3.rB hr1_0)
  refine LW.call pl126 rfl rfl ?_
  refine Ret.mono q ?_
  rintro _ w6 ⟨rfl, hs⟩
  have hS4 := hS3.add hs
  refine LW.p rfl rfl ?_
  rcases bcases y5 with hc7 | hc7
  · replace h := bcT h hc7
    refine LW.gY (want_of rfl rfl hc7) ?_
    refine LW.u (Pur.fa fo75_1 rfl) rfl ?_
    refine LW.gY (want_of rfl rfl hc7) ?_
    refine LW.ldb hS4 1 rfl ag24 rfl rfl rfl ?_
    refine LW.gY (want_of rfl rfl hc7) ?_
    refine LW.u (Pur.fa fo75_1 rfl) rfl ?_
    refine LW.gY (want_of rfl rfl hc7) ?_
    refine LW.ldb hS4 0 rfl ag24 rfl rfl rfl ?_
    replace h := obind h
    obtain ⟨y8, hy8, h⟩ := h
    have q := W_z_Equal_int (w0 := w6) hy8 rfl (hS4.rB hr0_1) rfl (hS4.rB hr1_1)
    refine LW.gY (want_of rfl rfl hc7) ?_
    refine LW.call pl127 rfl rfl ?_
    refine Ret.mono q ?_
    rintro _ w9 ⟨rfl, hs⟩
    have hS5 := hS4.add hs
    refine LW.u (Pur.pickT rfl hc7) rfl ?_
    refine LW.p rfl rfl ?_
    rcases bcases y8 with hc10 | hc10
    · replace h := bcT h hc10
      refine LW.gY (want_of rfl rfl hc10) ?_
      refine LW.u (Pur.fa fo75_2 rfl) rfl ?_
      refine LW.gY (want_of rfl rfl hc10) ?_
      refine LW.ldb hS5 1 rfl ag67 rfl rfl rfl ?_
      refine LW.gY (want_of rfl rfl hc10) ?_
      refine LW.u (Pur.fa fo75_2 rfl) rfl ?_
      refine LW.gY (want_of rfl rfl hc10) ?_
      refine LW.ldb hS5 0 rfl ag67 rfl rfl rfl ?_
      replace h := obind h
      obtain ⟨y11, hy11, h⟩ := h
      have q := W_z_Equal_Res (w0 := w9) hy11 rfl (hS5.rB hr0_2) rfl (hS5.rB hr1_2)
      refine LW.gY (want_of rfl rfl hc10) ?_
      refine LW.call pl128 rfl rfl ?_
      refine Ret.mono q ?_
      rintro _ w12 ⟨rfl, hs⟩
      have hS6 := hS5.add hs
      refine LW.u (Pur.pickT rfl hc10) rfl ?_
      refine LW.p rfl rfl ?_
      refine LW.fresh (l := [(2, .pointer (some ⟨g1, 0, none⟩)), (3, .pointer (some ⟨g3, 0, none⟩)), (24, .bool y11)]) ⟨rfl, rfl, rfl, trivial⟩ (fun e => ?_)
      rcases bcases y11 with hc13 | hc13
      · replace h := bcT h hc13
        refine LW.gY (want_of rfl rfl hc13) ?_
        refine LW.u (Pur.fa fo75_3 rfl) rfl ?_
        refine LW.gY (want_of rfl rfl hc13) ?_
        refine LW.ldbN hS6 1 rfl ag71 rfl rfl rfl ?_
        refine LW.gY (want_of rfl rfl hc13) ?_
        refine LW.u (Pur.fa fo75_3 rfl) rfl ?_
        refine LW.gY (want_of rfl rfl hc13) ?_
        refine LW.ldbN hS6 0 rfl ag71 rfl rfl rfl ?_
        replace h := obind h
        obtain ⟨y14, hy14, h⟩ := h
        have q := W_i_sameHeap (w0 := w12) hy14 rfl (hS6.rB hr0_3) rfl (hS6.rB hr0_7) rfl (hS6.rB hr1_3) rfl (hS6.rB hr1_7)
        refine LW.gY (want_of rfl rfl hc13) ?_
        refine LW.call pl129 rfl rfl ?_
        refine Ret.mono q ?_
        rintro _ w15 ⟨rfl, hs⟩
        have hS7 := hS6.add hs
        refine LW.u (Pur.pickT rfl hc13) rfl ?_
        refine LW.p rfl rfl ?_
        rcases bcases y14 with hc16 | hc16
        · replace h := bcT h hc16
          refine LW.gY (want_of rfl rfl hc16) ?_
          refine LW.u (Pur.fa fo75_4 rfl) rfl ?_
          refine LW.gY (want_of rfl rfl hc16) ?_
          refine LW.ldb hS7 1 rfl ag72 rfl rfl rfl ?_
          refine LW.gY (want_of rfl rfl hc16) ?_
          refine LW.u (Pur.fa fo75_4 rfl) rfl ?_
          refine LW.gY (want_of rfl rfl hc16) ?_
          refine LW.ldb hS7 0 rfl ag72 rfl rfl rfl ?_
          replace h := obind h
          obtain ⟨y17, hy17, h⟩ := h
          have q := W_z_Equal_Tap (w0 := w15) hy17 rfl (hS7.rB hr0_8) rfl (hS7.rB hr1_8)
          refine LW.gY (want_of rfl rfl hc16) ?_
          refine LW.call pl130 rfl rfl ?_
          refine Ret.mono q ?_
          rintro _ w18 ⟨rfl, hs⟩
          have hS8 := hS7.add hs
          refine LW.u (Pur.pickT rfl hc16) rfl ?_
          refine LW.p rfl rfl ?_
          rcases bcases y17 with hc19 | hc19
          · replace h := bcT h hc19
            refine LW.gY (want_of rfl rfl hc19) ?_
            refine LW.u (Pur.fa fo75_5 rfl) rfl ?_
            refine LW.gY (want_of rfl rfl hc19) ?_
            refine LW.ldb hS8 1 rfl ag3 rfl rfl rfl ?_
            refine LW.gY (want_of rfl rfl hc19) ?_
            refine LW.u (Pur.fa fo75_5 rfl) rfl ?_
            refine LW.gY (want_of rfl rfl hc19) ?_
            refine LW.ldb hS8 0 rfl ag3 rfl rfl rfl ?_
            refine LW.gY (want_of rfl rfl hc19) ?_
            refine LW.p rfl rfl ?_
            refine LW.u (Pur.pickT rfl hc19) rfl ?_
            refine LW.p rfl rfl ?_
            rcases bcases (x0.next == x1.next) with hc20 | hc20
            · replace h := bcT h hc20
              refine LW.fresh (l := [(2, .pointer (some ⟨g1, 0, none⟩)), (3, .pointer (some ⟨g3, 0, none⟩)), (45, .bool (x0.next == x1.next))]) ⟨rfl, rfl, rfl, trivial⟩ (fun e => ?_)
              refine LW.gY (want_of rfl rfl hc20) ?_
              refine LW.u (Pur.fa fo75_6 rfl) rfl ?_
              refine LW.gY (want_of rfl rfl hc20) ?_
              refine LW.ldb hS8 1 rfl ag3 rfl rfl rfl ?_
              refine LW.gY (want_of rfl rfl hc20) ?_
              refine LW.u (Pur.fa fo75_6 rfl) rfl ?_
              refine LW.gY (want_of rfl rfl hc20) ?_
              refine LW.ldb hS8 0 rfl ag3 rfl rfl rfl ?_
              refine LW.gY (want_of rfl rfl hc20) ?_
              refine LW.p rfl rfl ?_
              refine LW.u (Pur.pickT rfl hc20) rfl ?_
              refine LW.p rfl rfl ?_
              rcases bcases (x0.want == x1.want) with hc21 | hc21
              · replace h := bcT h hc21
                refine LW.gY (want_of rfl rfl hc21) ?_
                refine LW.u (Pur.fa fo75_7 rfl) rfl ?_
                refine LW.gY (want_of rfl rfl hc21) ?_
                refine LW.ldbN hS8 1 rfl ag73 rfl rfl rfl ?_
                refine LW.gY (want_of rfl rfl hc21) ?_
                refine LW.u (Pur.fa fo75_7 rfl) rfl ?_
                refine LW.gY (want_of rfl rfl hc21) ?_
                refine LW.ldbN hS8 0 rfl ag73 rfl rfl rfl ?_
                refine LW.gY (want_of rfl rfl hc21) ?_
                refine LW.u (Pur.aeq eg73 rfl rfl (fun w => eq73 x0.spent x1.spent w)) rfl ?_
                refine LW.u (Pur.pickT rfl hc21) rfl ?_
                refine LW.p rfl rfl ?_
                rcases bcases (decide (x0.spent = x1.spent)) with hc22 | hc22
                · replace h := bcT h hc22
                  refine LW.gY (want_of rfl rfl hc22) ?_
                  refine LW.u (Pur.fa fo75_8 rfl) rfl ?_
                  refine LW.gY (want_of rfl rfl hc22) ?_
                  refine LW.ldb hS8 1 rfl ag3 rfl rfl rfl ?_
                  refine LW.gY (want_of rfl rfl hc22) ?_
                  refine LW.u (Pur.fa fo75_8 rfl) rfl ?_
                  refine LW.gY (want_of rfl rfl hc22) ?_
                  refine LW.ldb hS8 0 rfl ag3 rfl rfl rfl ?_
                  refine LW.gY (want_of rfl rfl hc22) ?_
                  refine LW.p rfl rfl ?_
                  refine LW.u (Pur.pickT rfl hc22) rfl ?_
                  refine LW.p rfl rfl ?_
                  rcases bcases (x0.press == x1.press) with hc23 | hc23
                  · replace h := bcT h hc23
                    refine LW.gY (want_of rfl rfl hc23) ?_
                    refine LW.u (Pur.fa fo75_9 rfl) rfl ?_
                    refine LW.fresh (l := [(3, .pointer (some ⟨g3, 0, none⟩)), (66, .bool (x0.press == x1.press)), (67, .pointer (some ⟨g1, 0 + 15, none⟩))]) ⟨rfl, rfl, rfl, trivial⟩ (fun e => ?_)
                    refine LW.gY (want_of rfl rfl hc23) ?_
                    refine LW.ldb hS8 1 rfl ag3 rfl rfl rfl ?_
                    refine LW.gY (want_of rfl rfl hc23) ?_
                    refine LW.u (Pur.fa fo75_9 rfl) rfl ?_
                    refine LW.gY (want_of rfl rfl hc23) ?_
                    refine LW.ldb hS8 0 rfl ag3 rfl rfl rfl ?_
                    refine LW.gY (want_of rfl rfl hc23) ?_
                    refine LW.p rfl rfl ?_
                    refine LW.u (Pur.pickT rfl hc23) rfl ?_
                    refine LW.p rfl rfl ?_
                    refine LW.nil ?_
                    show CW _ _ _ _ _ _
                    refine CW.ret ?_
                    cases h
                    exact And.intro trivial ⟨_, Res.one (resOne.t rfl), rfl, hS8.pick [] rfl rfl⟩
                  replace h := bcF h hc23
                  refine LW.gN (want_not rfl rfl hc23) rfl ?_
                  refine LW.fresh (l := [(3, .pointer (some ⟨g3, 0, none⟩)), (66, .bool (x0.press == x1.press)), (67, undef)]) ⟨rfl, rfl, rfl, trivial⟩ (fun e => ?_)
                  refine LW.gN (want_not rfl rfl hc23) rfl ?_
                  refine LW.gN (want_not rfl rfl hc23) rfl ?_
                  refine LW.gN (want_not rfl rfl hc23) rfl ?_
                  refine LW.gN (want_not rfl rfl hc23) rfl ?_
                  refine LW.u (Pur.pickF rfl hc23) rfl ?_
                  refine LW.p rfl rfl ?_
                  refine LW.nil ?_
                  show CW _ _ _ _ _ _
                  refine CW.ret ?_
                  cases h
                  exact And.intro trivial ⟨_, Res.one (resOne.t rfl), rfl, hS8.pick [] rfl rfl⟩
                replace h := bcF h hc22
                refine LW.gN (want_not rfl rfl hc22) rfl ?_
                refine LW.gN (want_not rfl rfl hc22) rfl ?_
                refine LW.gN (want_not rfl rfl hc22) rfl ?_
                refine LW.gN (want_not rfl rfl hc22) rfl ?_
                refine LW.gN (want_not rfl rfl hc22) rfl ?_
                refine LW.u (Pur.pickF rfl hc22) rfl ?_
                refine LW.p rfl rfl ?_
                refine LW.gN (want_not rfl rfl rfl) rfl ?_
                refine LW.gN (want_not rfl rfl rfl) rfl ?_
                refine LW.fresh (l := [(3, .pointer (some ⟨g3, 0, none⟩)), (66, .bool false), (68, undef)]) ⟨rfl, rfl, rfl, trivial⟩ (fun e => ?_)
                refine LW.gN (want_not rfl rfl rfl) rfl ?_
                refine LW.gN (want_not rfl rfl rfl) rfl ?_
                refine LW.gN (want_not rfl rfl rfl) rfl ?_
                refine LW.u (Pur.pickF rfl rfl) rfl ?_
                refine LW.p rfl rfl ?_
                refine LW.nil ?_
                show CW _ _ _ _ _ _
                refine CW.ret ?_
                cases h
                exact And.intro trivial ⟨_, Res.one (resOne.t rfl), rfl, hS8.pick [] rfl rfl⟩
              replace h := bcF h hc21
              refine LW.gN (want_not rfl rfl hc21) rfl ?_
              refine LW.gN (want_not rfl rfl hc21) rfl ?_
              refine LW.gN (want_not rfl rfl hc21) rfl ?_
              refine LW.gN (want_not rfl rfl hc21) rfl ?_
              refine LW.gN (want_not rfl rfl hc21) rfl ?_
              refine LW.u (Pur.pickF rfl hc21) rfl ?_
              refine LW.p rfl rfl ?_
              refine LW.gN (want_not rfl rfl rfl) rfl ?_
              refine LW.gN (want_not rfl rfl rfl) rfl ?_
              refine LW.gN (want_not rfl rfl rfl) rfl ?_
              refine LW.gN (want_not rfl rfl rfl) rfl ?_
              refine LW.gN (want_not rfl rfl rfl) rfl ?_
              refine LW.u (Pur.pickF rfl rfl) rfl ?_
              refine LW.p rfl rfl ?_
              refine LW.gN (want_not rfl rfl rfl) rfl ?_
              refine LW.gN (want_not rfl rfl rfl) rfl ?_
              refine LW.gN (want_not rfl rfl rfl) rfl ?_
              refine LW.fresh (l := [(66, .bool false), (68, undef), (69, undef)]) ⟨rfl, rfl, rfl, trivial⟩ (fun e => ?_)
              refine LW.gN (want_not rfl rfl rfl) rfl ?_
              refine LW.gN (want_not rfl rfl rfl) rfl ?_
              refine LW.u (Pur.pickF rfl rfl) rfl ?_
              refine LW.p rfl rfl ?_
              refine LW.nil ?_
              show CW _ _ _ _ _ _
              refine CW.ret ?_
              cases h
              exact And.intro trivial ⟨_, Res.one (resOne.t rfl), rfl, hS8.pick [] rfl rfl⟩
            replace h := bcF h hc20
            refine LW.fresh (l := [(2, .pointer (some ⟨g1, 0, none⟩)), (3, .pointer (some ⟨g3, 0, none⟩)), (45, .bool (x0.next == x1.next))]) ⟨rfl, rfl, rfl, trivial⟩ (fun e => ?_)
            refine LW.gN (want_not rfl rfl hc20) rfl ?_
            refine LW.gN (want_not rfl rfl hc20) rfl ?_
            refine LW.gN (want_not rfl rfl hc20) rfl ?_
            refine LW.gN (want_not rfl rfl hc20) rfl ?_
            refine LW.gN (want_not rfl rfl hc20) rfl ?_
            refine LW.u (Pur.pickF rfl hc20) rfl ?_
            refine LW.p rfl rfl ?_
            refine LW.gN (want_not rfl rfl rfl) rfl ?_
            refine LW.gN (want_not rfl rfl rfl) rfl ?_
            refine LW.gN (want_not rfl rfl rfl) rfl ?_
            refine LW.gN (want_not rfl rfl rfl) rfl ?_
            refine LW.gN (want_not rfl rfl rfl) rfl ?_
            refine LW.u (Pur.pickF rfl rfl) rfl ?_
            refine LW.p rfl rfl ?_
            refine LW.gN (want_not rfl rfl rfl) rfl ?_
            refine LW.gN (want_not rfl rfl rfl) rfl ?_
            refine LW.gN (want_not rfl rfl rfl) rfl ?_
            refine LW.gN (want_not rfl rfl rfl) rfl ?_
            refine LW.gN (want_not rfl rfl rfl) rfl ?_
            refine LW.u (Pur.pickF rfl rfl) rfl ?_
            refine LW.p rfl rfl ?_
            refine LW.gN (want_not rfl rfl rfl) rfl ?_
            refine LW.gN (want_not rfl rfl rfl) rfl ?_
            refine LW.gN (want_not rfl rfl rfl) rfl ?_
            refine LW.gN (want_not rfl rfl rfl) rfl ?_
            refine LW.fresh (l := [(66, .bool false), (68, undef), (70, undef)]) ⟨rfl, rfl, rfl, trivial⟩ (fun e => ?_)
            refine LW.gN (want_not rfl rfl rfl) rfl ?_
            refine LW.u (Pur.pickF rfl rfl) rfl ?_
            refine LW.p rfl rfl ?_
            refine LW.nil ?_
            show CW _ _ _ _ _ _
            refine CW.ret ?_
            cases h
            exact And.intro trivial ⟨_, Res.one (resOne.t rfl), rfl, hS8.pick [] rfl rfl⟩
          replace h := bcF h hc19
          refine LW.gN (want_not rfl rfl hc19) rfl ?_
          refine LW.gN (want_not rfl rfl hc19) rfl ?_
          refine LW.gN (want_not rfl rfl hc19) rfl ?_
          refine LW.gN (want_not rfl rfl hc19) rfl ?_
          refine LW.gN (want_not rfl rfl hc19) rfl ?_
          refine LW.u (Pur.pickF rfl hc19) rfl ?_
          refine LW.p rfl rfl ?_
          refine LW.gN (want_not rfl rfl rfl) rfl ?_
          refine LW.fresh (l := [(2, .pointer (some ⟨g1, 0, none⟩)), (3, .pointer (some ⟨g3, 0, none⟩)), (45, .bool false), (46, undef)]) ⟨rfl, rfl, rfl, rfl, trivial⟩ (fun e => ?_)
          refine LW.gN (want_not rfl rfl rfl) rfl ?_
          refine LW.gN (want_not rfl rfl rfl) rfl ?_
          refine LW.gN (want_not rfl rfl rfl) rfl ?_
          refine LW.gN (want_not rfl rfl rfl) rfl ?_
          refine LW.u (Pur.pickF rfl rfl) rfl ?_
          refine LW.p rfl rfl ?_
          refine LW.gN (want_not rfl rfl rfl) rfl ?_
          refine LW.gN (want_not rfl rfl rfl) rfl ?_
          refine LW.gN (want_not rfl rfl rfl) rfl ?_
          refine LW.gN (want_not rfl rfl rfl) rfl ?_
          refine LW.gN (want_not rfl rfl rfl) rfl ?_
          refine LW.u (Pur.pickF rfl rfl) rfl ?_
          refine LW.p rfl rfl ?_
          refine LW.gN (want_not rfl rfl rfl) rfl ?_
          refine LW.gN (want_not rfl rfl rfl) rfl ?_
          refine LW.gN (want_not rfl rfl rfl) rfl ?_
          refine LW.gN (want_not rfl rfl rfl) rfl ?_
          refine LW.gN (want_not rfl rfl rfl) rfl ?_
          refine LW.u (Pur.pickF rfl rfl) rfl ?_
          refine LW.p rfl rfl ?_
          refine LW.gN (want_not rfl rfl rfl) rfl ?_
          refine LW.gN (want_not rfl rfl rfl) rfl ?_
          refine LW.gN (want_not rfl rfl rfl) rfl ?_
          refine LW.gN (want_not rfl rfl rfl) rfl ?_
          refine LW.gN (want_not rfl rfl rfl) rfl ?_
          refine LW.fresh (l := [(66, .bool false), (71, undef)]) ⟨rfl, rfl, trivial⟩ (fun e => ?_)
          refine LW.u (Pur.pickF rfl rfl) rfl ?_
          refine LW.p rfl rfl ?_
          refine LW.nil ?_
          show CW _ _ _ _ _ _
          refine CW.ret ?_
          cases h
          exact And.intro trivial ⟨_, Res.one (resOne.t rfl), rfl, hS8.pick [] rfl rfl⟩
        replace h := bcF h hc16
        refine LW.gN (want_not rfl rfl hc16) rfl ?_
        refine LW.gN (want_not rfl rfl hc16) rfl ?_
        refine LW.gN (want_not rfl rfl hc16) rfl ?_
        refine LW.gN (want_not rfl rfl hc16) rfl ?_
        refine LW.gN (want_not rfl rfl hc16) rfl ?_
        refine LW.u (Pur.pickF rfl hc16) rfl ?_
        refine LW.p rfl rfl ?_
        refine LW.gN (want_not rfl rfl rfl) rfl ?_
        refine LW.gN (want_not rfl rfl rfl) rfl ?_
        refine LW.gN (want_not rfl rfl rfl) rfl ?_
        refine LW.gN (want_not rfl rfl rfl) rfl ?_
        refine LW.gN (want_not rfl rfl rfl) rfl ?_
        refine LW.u (Pur.pickF rfl rfl) rfl ?_
        refine LW.p rfl rfl ?_
        refine LW.gN (want_not rfl rfl rfl) rfl ?_
        refine LW.gN (want_not rfl rfl rfl) rfl ?_
        refine LW.fresh (l := [(2, .pointer (some ⟨g1, 0, none⟩)), (3, .pointer (some ⟨g3, 0, none⟩)), (45, .bool false), (47, undef)]) ⟨rfl, rfl, rfl, rfl, trivial⟩ (fun e => ?_)
        refine LW.gN (want_not rfl rfl rfl) rfl ?_
        refine LW.gN (want_not rfl rfl rfl) rfl ?_
        refine LW.gN (want_not rfl rfl rfl) rfl ?_
        refine LW.u (Pur.pickF rfl rfl) rfl ?_
        refine LW.p rfl rfl ?_
        refine LW.gN (want_not rfl rfl rfl) rfl ?_
        refine LW.gN (want_not rfl rfl rfl) rfl ?_
        refine LW.gN (want_not rfl rfl rfl) rfl ?_
        refine LW.gN (want_not rfl rfl rfl) rfl ?_
        refine LW.gN (want_not rfl rfl rfl) rfl ?_
        refine LW.u (Pur.pickF rfl rfl) rfl ?_
        refine LW.p rfl rfl ?_
        refine LW.gN (want_not rfl rfl rfl) rfl ?_
        refine LW.gN (want_not rfl rfl rfl) rfl ?_
        refine LW.gN (want_not rfl rfl rfl) rfl ?_
        refine LW.gN (want_not rfl rfl rfl) rfl ?_
        refine LW.gN (want_not rfl rfl rfl) rfl ?_
        refine LW.u (Pur.pickF rfl rfl) rfl ?_
        refine LW.p rfl rfl ?_
        refine LW.gN (want_not rfl rfl rfl) rfl ?_
        refine LW.gN (want_not rfl rfl rfl) rfl ?_
        refine LW.gN (want_not rfl rfl rfl) rfl ?_
        refine LW.gN (want_not rfl rfl rfl) rfl ?_
        refine LW.gN (want_not rfl rfl rfl) rfl ?_
        refine LW.u (Pur.pickF rfl rfl) rfl ?_
        refine LW.fresh (l := [(72, .bool false)]) ⟨rfl, trivial⟩ (fun e => ?_)
        refine LW.p rfl rfl ?_
        refine LW.nil ?_
        show CW _ _ _ _ _ _
        refine CW.ret ?_
        cases h
        exact And.intro trivial ⟨_, Res.one (resOne.t rfl), rfl, hS7.pick [] rfl rfl⟩
      replace h := bcF h hc13
      refine LW.gN (want_not rfl rfl hc13) rfl ?_
      refine LW.gN (want_not rfl rfl hc13) rfl ?_
      refine LW.gN (want_not rfl rfl hc13) rfl ?_
      refine LW.gN (want_not rfl rfl hc13) rfl ?_
      refine LW.gN (want_not rfl rfl hc13) rfl ?_
      refine LW.u (Pur.pickF rfl hc13) rfl ?_
      refine LW.p rfl rfl ?_
      refine LW.gN (want_not rfl rfl rfl) rfl ?_
      refine LW.gN (want_not rfl rfl rfl) rfl ?_
      refine LW.gN (want_not rfl rfl rfl) rfl ?_
      refine LW.gN (want_not rfl rfl rfl) rfl ?_
      refine LW.gN (want_not rfl rfl rfl) rfl ?_
      refine LW.u (Pur.pickF rfl rfl) rfl ?_
      refine LW.p rfl rfl ?_
      refine LW.gN (want_not rfl rfl rfl) rfl ?_
      refine LW.gN (want_not rfl rfl rfl) rfl ?_
      refine LW.gN (want_not rfl rfl rfl) rfl ?_
      refine LW.gN (want_not rfl rfl rfl) rfl ?_
      refine LW.gN (want_not rfl rfl rfl) rfl ?_
      refine LW.u (Pur.pickF rfl rfl) rfl ?_
      refine LW.p rfl rfl ?_
      refine LW.gN (want_not rfl rfl rfl) rfl ?_
      refine LW.gN (want_not rfl rfl rfl) rfl ?_
      refine LW.gN (want_not rfl rfl rfl) rfl ?_
      refine LW.fresh (l := [(2, .pointer (some ⟨g1, 0, none⟩)), (3, .pointer (some ⟨g3, 0, none⟩)), (45, .bool false), (47, undef), (48, undef)]) ⟨rfl, rfl, rfl, rfl, rfl, trivial⟩ (fun e => ?_)
      refine LW.gN (want_not rfl rfl rfl) rfl ?_
      refine LW.gN (want_not rfl rfl rfl) rfl ?_
      refine LW.u (Pur.pickF rfl rfl) rfl ?_
      refine LW.p rfl rfl ?_
      refine LW.gN (want_not rfl rfl rfl) rfl ?_
      refine LW.gN (want_not rfl rfl rfl) rfl ?_
      refine LW.gN (want_not rfl rfl rfl) rfl ?_
      refine LW.gN (want_not rfl rfl rfl) rfl ?_
      refine LW.gN (want_not rfl rfl rfl) rfl ?_
      refine LW.u (Pur.pickF rfl rfl) rfl ?_
      refine LW.p rfl rfl ?_
      refine LW.gN (want_not rfl rfl rfl) rfl ?_
      refine LW.gN (want_not rfl rfl rfl) rfl ?_
      refine LW.gN (want_not rfl rfl rfl) rfl ?_
      refine LW.gN (want_not rfl rfl rfl) rfl ?_
      refine LW.gN (want_not rfl rfl rfl) rfl ?_
      refine LW.u (Pur.pickF rfl rfl) rfl ?_
      refine LW.p rfl rfl ?_
      refine LW.gN (want_not rfl rfl rfl) rfl ?_
      refine LW.gN (want_not rfl rfl rfl) rfl ?_
      refine LW.gN (want_not rfl rfl rfl) rfl ?_
      refine LW.gN (want_not rfl rfl rfl) rfl ?_
      refine LW.gN (want_not rfl rfl rfl) rfl ?_
      refine LW.u (Pur.pickF rfl rfl) rfl ?_
      refine LW.p rfl rfl ?_
      refine LW.nil ?_
      show CW _ _ _ _ _ _
      refine CW.fresh (l := [(4, .bool false)]) ⟨rfl, trivial⟩ (fun e => ?_)
      refine CW.ret ?_
      cases h
      exact And.intro trivial ⟨_, Res.one (resOne.t rfl), rfl, hS6.pick [] rfl rfl⟩
    replace h := bcF h hc10
    refine LW.gN (want_not rfl rfl hc10) rfl ?_
    refine LW.gN (want_not rfl rfl hc10) rfl ?_
    refine LW.gN (want_not rfl rfl hc10) rfl ?_
    refine LW.gN (want_not rfl rfl hc10) rfl ?_
    refine LW.gN (want_not rfl rfl hc10) rfl ?_
    refine LW.u (Pur.pickF rfl hc10) rfl ?_
    refine LW.p rfl rfl ?_
    refine LW.fresh (l := [(2, .pointer (some ⟨g1, 0, none⟩)), (3, .pointer (some ⟨g3, 0, none⟩)), (24, .bool false)]) ⟨rfl, rfl, rfl, trivial⟩ (fun e => ?_)
    refine LW.gN (want_not rfl rfl rfl) rfl ?_
    refine LW.gN (want_not rfl rfl rfl) rfl ?_
    refine LW.gN (want_not rfl rfl rfl) rfl ?_
    refine LW.gN (want_not rfl rfl rfl) rfl ?_
    refine LW.gN (want_not rfl rfl rfl) rfl ?_
    refine LW.u (Pur.pickF rfl rfl) rfl ?_
    refine LW.p rfl rfl ?_
    refine LW.gN (want_not rfl rfl rfl) rfl ?_
    refine LW.gN (want_not rfl rfl rfl) rfl ?_
    refine LW.gN (want_not rfl rfl rfl) rfl ?_
    refine LW.gN (want_not rfl rfl rfl) rfl ?_
    refine LW.gN (want_not rfl rfl rfl) rfl ?_
    refine LW.u (Pur.pickF rfl rfl) rfl ?_
    refine LW.p rfl rfl ?_
    refine LW.gN (want_not rfl rfl rfl) rfl ?_
    refine LW.gN (want_not rfl rfl rfl) rfl ?_
    refine LW.gN (want_not rfl rfl rfl) rfl ?_
    refine LW.gN (want_not rfl rfl rfl) rfl ?_
    refine LW.gN (want_not rfl rfl rfl) rfl ?_
    refine LW.u (Pur.pickF rfl rfl) rfl ?_
    refine LW.p rfl rfl ?_
    refine LW.gN (want_not rfl rfl rfl) rfl ?_
    refine LW.gN (want_not rfl rfl rfl) rfl ?_
    refine LW.gN (want_not rfl rfl rfl) rfl ?_
    refine LW.gN (want_not rfl rfl rfl) rfl ?_
    refine LW.fresh (l := [(2, .pointer (some ⟨g1, 0, none⟩)), (3, .pointer (some ⟨g3, 0, none⟩)), (45, .bool false), (47, undef), (49, undef)]) ⟨rfl, rfl, rfl, rfl, rfl, trivial⟩ (fun e => ?_)
    refine LW.gN (want_not rfl rfl rfl) rfl ?_
    refine LW.u (Pur.pickF rfl rfl) rfl ?_
    refine LW.p rfl rfl ?_
    refine LW.gN (want_not rfl rfl rfl) rfl ?_
    refine LW.gN (want_not rfl rfl rfl) rfl ?_
    refine LW.gN (want_not rfl rfl rfl) rfl ?_
    refine LW.gN (want_not rfl rfl rfl) rfl ?_
    refine LW.gN (want_not rfl rfl rfl) rfl ?_
    refine LW.u (Pur.pickF rfl rfl) rfl ?_
    refine LW.p rfl rfl ?_
    refine LW.gN (want_not rfl rfl rfl) rfl ?_
    refine LW.gN (want_not rfl rfl rfl) rfl ?_
    refine LW.gN (want_not rfl rfl rfl) rfl ?_
    refine LW.gN (want_not rfl rfl rfl) rfl ?_
    refine LW.gN (want_not rfl rfl rfl) rfl ?_
    refine LW.u (Pur.pickF rfl rfl) rfl ?_
    refine LW.p rfl rfl ?_
    refine LW.gN (want_not rfl rfl rfl) rfl ?_
    refine LW.gN (want_not rfl rfl rfl) rfl ?_
    refine LW.gN (want_not rfl rfl rfl) rfl ?_
    refine LW.gN (want_not rfl rfl rfl) rfl ?_
    refine LW.gN (want_not rfl rfl rfl) rfl ?_
    refine LW.u (Pur.pickF rfl rfl) rfl ?_
    refine LW.p rfl rfl ?_
    refine LW.nil ?_
    show CW _ _ _ _ _ _
    refine CW.fresh (l := [(4, .bool false)]) ⟨rfl, trivial⟩ (fun e => ?_)
    refine CW.ret ?_
    cases h
    exact And.intro trivial ⟨_, Res.one (resOne.t rfl), rfl, hS5.pick [] rfl rfl⟩
  replace h := bcF h hc7
  refine LW.gN (want_not rfl rfl hc7) rfl ?_
  refine LW.gN (want_not rfl rfl hc7) rfl ?_
  refine LW.gN (want_not rfl rfl hc7) rfl ?_
  refine LW.gN (want_not rfl rfl hc7) rfl ?_
  refine LW.gN (want_not rfl rfl hc7) rfl ?_
  refine LW.u (Pur.pickF rfl hc7) rfl ?_
  refine LW.p rfl rfl ?_
  refine LW.gN (want_not rfl rfl rfl) rfl ?_
  refine LW.gN (want_not rfl rfl rfl) rfl ?_
  refine LW.gN (want_not rfl rfl rfl) rfl ?_
  refine LW.gN (want_not rfl rfl rfl) rfl ?_
  refine LW.gN (want_not rfl rfl rfl) rfl ?_
  refine LW.u (Pur.pickF rfl rfl) rfl ?_
  refine LW.p rfl rfl ?_
  refine LW.gN (want_not rfl rfl rfl) rfl ?_
  refine LW.fresh (l := [(2, .pointer (some ⟨g1, 0, none⟩)), (3, .pointer (some ⟨g3, 0, none⟩)), (24, .bool false), (25, undef)]) ⟨rfl, rfl, rfl, rfl, trivial⟩ (fun e => ?_)
  refine LW.gN (want_not rfl rfl rfl) rfl ?_
  refine LW.gN (want_not rfl rfl rfl) rfl ?_
  refine LW.gN (want_not rfl rfl rfl) rfl ?_
  refine LW.gN (want_not rfl rfl rfl) rfl ?_
  refine LW.u (Pur.pickF rfl rfl) rfl ?_
  refine LW.p rfl rfl ?_
  refine LW.gN (want_not rfl rfl rfl) rfl ?_
  refine LW.gN (want_not rfl rfl rfl) rfl ?_
  refine LW.gN (want_not rfl rfl rfl) rfl ?_
  refine LW.gN (want_not rfl rfl rfl) rfl ?_
  refine LW.gN (want_not rfl rfl rfl) rfl ?_
  refine LW.u (Pur.pickF rfl rfl) rfl ?_
  refine LW.p rfl rfl ?_
  refine LW.gN (want_not rfl rfl rfl) rfl ?_
  refine LW.gN (want_not rfl rfl rfl) rfl ?_
  refine LW.gN (want_not rfl rfl rfl) rfl ?_
  refine LW.gN (want_not rfl rfl rfl) rfl ?_
  refine LW.gN (want_not rfl rfl rfl) rfl ?_
  refine LW.u (Pur.pickF rfl rfl) rfl ?_
  refine LW.p rfl rfl ?_
  refine LW.gN (want_not rfl rfl rfl) rfl ?_
  refine LW.gN (want_not rfl rfl rfl) rfl ?_
  refine LW.gN (want_not rfl rfl rfl) rfl ?_
  refine LW.gN (want_not rfl rfl rfl) rfl ?_
  refine LW.gN (want_not rfl rfl rfl) rfl ?_
  refine LW.fresh (l := [(2, .pointer (some ⟨g1, 0, none⟩)), (3, .pointer (some ⟨g3, 0, none⟩)), (45, .bool false), (50, undef)]) ⟨rfl, rfl, rfl, rfl, trivial⟩ (fun e => ?_)
  refine LW.u (Pur.pickF rfl rfl) rfl ?_
  refine LW.p rfl rfl ?_
  refine LW.gN (want_not rfl rfl rfl) rfl ?_
  refine LW.gN (want_not rfl rfl rfl) rfl ?_
  refine LW.gN (want_not rfl rfl rfl) rfl ?_
  refine LW.gN (want_not rfl rfl rfl) rfl ?_
  refine LW.gN (want_not rfl rfl rfl) rfl ?_
  refine LW.u (Pur.pickF rfl rfl) rfl ?_
  refine LW.p rfl rfl ?_
  refine LW.gN (want_not rfl rfl rfl) rfl ?_
  refine LW.gN (want_not rfl rfl rfl) rfl ?_
  refine LW.gN (want_not rfl rfl rfl) rfl ?_
  refine LW.gN (want_not rfl rfl rfl) rfl ?_
  refine LW.gN (want_not rfl rfl rfl) rfl ?_
  refine LW.u (Pur.pickF rfl rfl) rfl ?_
  refine LW.p rfl rfl ?_
  refine LW.gN (want_not rfl rfl rfl) rfl ?_
  refine LW.gN (want_not rfl rfl rfl) rfl ?_
  refine LW.gN (want_not rfl rfl rfl) rfl ?_
  refine LW.gN (want_not rfl rfl rfl) rfl ?_
  refine LW.gN (want_not rfl rfl rfl) rfl ?_
  refine LW.u (Pur.pickF rfl rfl) rfl ?_
  refine LW.p rfl rfl ?_
  refine LW.nil ?_
  show CW _ _ _ _ _ _
  refine CW.fresh (l := [(4, .bool false)]) ⟨rfl, trivial⟩ (fun e => ?_)
  refine CW.ret ?_
  cases h
  exact And.intro trivial ⟨_, Res.one (resOne.t rfl), rfl, hS4.pick [] rfl rfl⟩

theorem W_z_EqualFunc_Part_i_SamePart {w0 : World} {N : Nat} {x0 : List DPart} {x1 : List DPart} {r : Bool} (h : F_z_EqualFunc_Part_i_SamePart N x0 x1 = some r) {a0_0 : Option Addr} {n0_0 c0_0 : Nat} (hn0_0 : n0_0 = x0.length) (hr0_0 : rdS (Bor w0 []) w0 a0_0 c0_0 x0) {a1_0 : Option Addr} {n1_0 c1_0 : Nat} (hn1_0 : n1_0 = x1.length) (hr1_0 : rdS (Bor w0 []) w0 a1_0 c1_0 x1) :
    Ret Try.prog 65 #[.slice a0_0 n0_0 c0_0, .slice a1_0 n1_0 c1_0, .func (.func 66) #[] #[]] w0 (fun v w => v = .bool r ∧ St w0 [] w []) := by
  subst hn0_0
  subst hn1_0
  unfold F_z_EqualFunc_Part_i_SamePart at h
  refine Ret.of Try.func65 rfl rfl rfl ?_
  have hS1 := St.start w0
  refine CW.seq ?_
  refine CW.region ?_
  refine LW.p rfl rfl ?_
  refine LW.nil ?_
  show CW _ _ _ _ _ _
  refine CW.seq ?_
  refine CW.seq ?_
  refine CW.region ?_
  refine LW.p rfl rfl ?_
  refine LW.u (Pur.len Try.underlying49 rfl) rfl ?_
  refine LW.p rfl rfl ?_
  refine LW.u (Pur.len Try.underlying49 rfl) rfl ?_
  refine LW.p rfl rfl ?_
  refine LW.nil ?_
  show CW _ _ _ _ _ _
  refine CW.cond rfl (fun hc1 => ?_) (fun hc1 => ?_)
  · replace h := bcT h hc1
    refine CW.seq ?_
    refine CW.region ?_
    refine LW.p rfl rfl ?_
    refine LW.nil ?_
    show CW _ _ _ _ _ _
    refine CW.ret ?_
    cases h
    exact And.intro trivial ⟨_, Res.one (resOne.t rfl), rfl, hS1.pick [] rfl rfl⟩
  replace h := bcF h hc1
  refine CW.skip ?_
  show CW _ _ _ _ _ _
  refine CW.seq ?_
  refine CW.seq ?_
  refine CW.region ?_
  refine LW.p rfl rfl ?_
  refine LW.u (Pur.len Try.underlying49 rfl) rfl ?_
  refine LW.p rfl rfl ?_
  refine LW.nil ?_
  show CW _ _ _ _ _ _
  refine CW.block ?_
  obtain ⟨o68, ho68, h69⟩ := obind h
  refine CW.mono (CW.iter (σ := Int) (ρ := Int ⊕ Bool) (fun s2 e wb => En e [(1, .slice a1_0 x1.length c1_0), (2, .func (.func 66) #[] #[]), (15, .slice a0_0 x0.length c0_0), (16, .int .i64 (x0.length : Int)), (17, .int .i64 s2)] ∧ St w0 [] wb []) (fun o x e wb => match o with | .inl s2 => x = .exit 0 ∧ En e [] ∧ St w0 [] wb [] | .inr r => x = .ret ∧ ∃ u, u = r ∧ ∃ v, Res Try.prog Try.f65.results e wb v ∧ v = .bool u ∧ St w0 [] wb []) ?_ N 0 _ _ _ ⟨⟨rfl, rfl, rfl, rfl, rfl, trivial⟩, hS1.pick [] rfl rfl⟩ ho68) ?_
  · intro s2 e w3 o hM h
    obtain ⟨hE, hS2⟩ := hM
    obtain ⟨e, rfl⟩ := hE.out
    refine CW.seq ?_
    refine CW.region ?_
    refine LW.p rfl rfl ?_
    refine LW.nil ?_
    show CW _ _ _ _ _ _
    refine CW.seq ?_
    refine CW.cond rfl (fun hc4 => ?_) (fun hc4 => ?_)
    · replace h := bcT h hc4
      refine CW.skip ?_
      show CW _ _ _ _ _ _
      refine CW.seq ?_
      refine CW.block ?_
      refine CW.seq ?_
      refine CW.region ?_
      refine LW.p rfl rfl ?_
      replace h := obind h
      obtain ⟨y5, hy5, h⟩ := h
      obtain ⟨b8, o9, cs10, hae, hb13, hp6, hq7, hd11, hk12⟩ := hr0_0.idx hy5
      subst hae
      obtain ⟨a14, c15, a17, c18, a20, c21, a23, c24, a26, c27, a29, c30, rfl, hr16, hr19, hr22, hr25, hr28, hr31⟩ := hd11
      refine LW.u (Pur.ix Try.underlying49 sz75 rfl rfl hp6 hq7) rfl ?_
      refine LW.l (Ldr.oldN w0 ag75 rfl rfl (fun j u hu => hk12 j u hu)) (hS2.same _ hb13.1 hb13.2) rfl ?_
      refine LW.alloc zv75 hS2 rfl ?_
      intro g32 w33 hS3 hf
      refine LW.p rfl rfl ?_
      refine LW.stb hS3 0 rfl ag75 rfl rfl rfl rfl rfl ?_
      intro w34 hS4 hf
      refine LW.nil ?_
      show CW _ _ _ _ _ _
      refine CW.fresh (l := [(1, .slice a1_0 x1.length c1_0), (2, .func (.func 66) #[] #[]), (7, .int .i64 s2), (8, .pointer (some ⟨g32, 0, none⟩)), (15, .slice (some ⟨b8, o9, none⟩) x0.length c0_0), (16, .int .i64 (x0.length : Int)), (17, .int .i64 s2)]) ⟨rfl, rfl, rfl, rfl, rfl, rfl, rfl, trivial⟩ (fun e => ?_)
      refine CW.seq ?_
      refine CW.region ?_
      iterate 2 refine LW.p rfl rfl ?_
      replace h := obind h
      obtain ⟨y35, hy35, h⟩ := h
      obtain ⟨b38, o39, cs40, hae, hb43, hp36, hq37, hd41, hk42⟩ := hr1_0.idx hy35
      subst hae
      obtain ⟨a44, c45, a47, c48, a50, c51, a53, c54, a56, c57, a59, c60, rfl, hr46, hr49, hr52, hr55, hr58, hr61⟩ := hd41
      refine LW.u (Pur.ix Try.underlying49 sz75 rfl rfl hp36 hq37) rfl ?_
      refine LW.l (Ldr.oldN w0 ag75 rfl rfl (fun j u hu => hk42 j u hu)) (hS4.same _ hb43.1 hb43.2) rfl ?_
      refine LW.alloc zv75 hS4 rfl ?_
      intro g62 w63 hS5 hf
      refine LW.stb hS5 0 rfl ag75 rfl rfl rfl rfl rfl ?_
      intro w64 hS6 hf
      refine LW.nil ?_
      show CW _ _ _ _ _ _
      refine CW.seq ?_
      refine CW.region ?_
      refine LW.p rfl rfl ?_
      refine LW.ldbN hS6 1 rfl ag75 rfl rfl rfl ?_
      refine LW.ldbN hS6 0 rfl ag75 rfl rfl rfl ?_
      replace h := obind h
      obtain ⟨y65, hy65, h⟩ := h
      have q := W_i_SamePart (w0 := w64) hy65 rfl (hS6.rB hr16) rfl (hS6.rB hr19) rfl (hS6.rB hr22) rfl (hS6.rB hr25) rfl (hS6.rB hr28) rfl (hS6.rB hr31) rfl (hS6.rB hr46) rfl (hS6.rB hr49) rfl (hS6.rB hr52) rfl (hS6.rB hr55) rfl (hS6.rB hr58) rfl (hS6.rB hr61)
      refine LW.callv rfl pl66 rfl rfl ?_
      refine Ret.mono q ?_
      rintro _ w66 ⟨rfl, hs⟩
      have hS7 := hS6.add hs
      refine LW.p rfl rfl ?_
      refine LW.nil ?_
      show CW _ _ _ _ _ _
      refine CW.cond rfl (fun hc67 => ?_) (fun hc67 => ?_)
      · replace h := bcT h hc67
        refine CW.seq ?_
        refine CW.region ?_
        refine LW.p rfl rfl ?_
        refine LW.nil ?_
        show CW _ _ _ _ _ _
        refine CW.fresh (l := [(6, .bool false)]) ⟨rfl, trivial⟩ (fun e => ?_)
        refine CW.ret ?_
        replace h := Option.some.inj h
        subst h
        exact ⟨trivial, rfl, _, rfl, ⟨_, Res.one (resOne.t rfl), rfl, hS7.pick [] rfl rfl⟩⟩
      replace h := bcF h hc67
      refine CW.skip ?_
      show CW _ _ _ _ _ _
      refine CW.region ?_
      iterate 2 refine LW.p rfl rfl ?_
      refine LW.nil ?_
      replace h := Option.some.inj h
      subst h
      exact ⟨rfl, ⟨⟨rfl, rfl, rfl, rfl, rfl, trivial⟩, hS7.pick [] rfl rfl⟩⟩
    replace h := bcF h hc4
    refine CW.exit ?_
    replace h := Option.some.inj h
    subst h
    exact ⟨trivial, rfl, ⟨trivial, hS2.pick [] rfl rfl⟩⟩
  intro x e w70 hM
  rcases o68 with o68 | r71
  · obtain ⟨rfl, hM⟩ := hM
    obtain ⟨hE, hS8⟩ := hM
    obtain ⟨e, rfl⟩ := hE.out
    have h := h69
    show CW _ _ _ _ _ _
    refine CW.seq ?_
    refine CW.region ?_
    refine LW.p rfl rfl ?_
    refine LW.nil ?_
    show CW _ _ _ _ _ _
    refine CW.ret ?_
    cases h
    exact And.intro trivial ⟨_, Res.one (resOne.t rfl), rfl, hS8.pick [] rfl rfl⟩
  obtain ⟨rfl, u, rfl, hM⟩ := hM
  cases h69
  exact And.intro trivial hM

theorem W_i_SameWorld {w0 : World} {N : Nat} {x0 : DWorld} {x1 : DWorld} {r : Bool} (h : F_i_SameWorld N x0 x1 = some r) {a0_1 : Option Addr} {n0_1 c0_1 : Nat} (hn0_1 : n0_1 = x0.parts.length) (hr0_1 : rdS (Bor w0 []) w0 a0_1 c0_1 x0.parts) {a1_1 : Option Addr} {n1_1 c1_1 : Nat} (hn1_1 : n1_1 = x1.parts.length) (hr1_1 : rdS (Bor w0 []) w0 a1_1 c1_1 x1.parts) :
    Ret Try.prog 28 #[.agg #[.int .i64 x0.now, .slice a0_1 n0_1 c0_1], .agg #[.int .i64 x1.now, .slice a1_1 n1_1 c1_1]] w0 (fun v w => v = .bool r ∧ St w0 [] w []) := by
  subst hn0_1
  subst hn1_1
  unfold F_i_SameWorld at h
  refine Ret.of Try.func28 rfl rfl rfl ?_
  have hS1 := St.start w0
  refine CW.seq ?_
  refine CW.region ?_
  refine LW.box (cs := [.int .i64 x0.now, .slice a0_1 x0.parts.length c0_1]) rfl hS1 rfl ?_
  intro g1 w2 hS2 hf
  refine LW.box (cs := [.int .i64 x1.now, .slice a1_1 x1.parts.length c1_1]) rfl hS2 rfl ?_
  intro g3 w4 hS3 hf
  refine LW.p rfl rfl ?_
  refine LW.nil ?_
  show CW _ _ _ _ _ _
  refine CW.seq ?_
  refine CW.region ?_
  refine LW.u (Pur.fa fo51_0 rfl) rfl ?_
  refine LW.ldb hS3 1 rfl ag3 rfl rfl rfl ?_
  refine LW.u (Pur.fa fo51_0 rfl) rfl ?_
  refine LW.ldb hS3 0 rfl ag3 rfl rfl rfl ?_
  iterate 2 refine LW.p rfl rfl ?_
  rcases bcases (x0.now == x1.now) with hc5 | hc5
  · replace h := bcT h hc5
    refine LW.gY (want_of rfl rfl hc5) ?_
    refine LW.u (Pur.fa fo51_1 rfl) rfl ?_
    refine LW.gY (want_of rfl rfl hc5) ?_
    refine LW.ldb hS3 1 rfl ag49 rfl rfl rfl ?_
    refine LW.gY (want_of rfl rfl hc5) ?_
    refine LW.u (Pur.fa fo51_1 rfl) rfl ?_
    refine LW.gY (want_of rfl rfl hc5) ?_
    refine LW.ldb hS3 0 rfl ag49 rfl rfl rfl ?_
    replace h := obind h
    obtain ⟨y6, hy6, h⟩ := h
    have q := W_z_EqualFunc_Part_i_SamePart (w0 := w4) hy6 rfl (hS3.rB hr0_1) rfl (hS3.rB hr1_1)
    refine LW.gY (want_of rfl rfl hc5) ?_
    refine LW.call pl65 rfl rfl ?_
    refine Ret.mono q ?_
    rintro _ w7 ⟨rfl, hs⟩
    have hS4 := hS3.add hs
    refine LW.u (Pur.pickT rfl hc5) rfl ?_
    refine LW.p rfl rfl ?_
    refine LW.nil ?_
    show CW _ _ _ _ _ _
    refine CW.fresh (l := [(4, .bool y6)]) ⟨rfl, trivial⟩ (fun e => ?_)
    refine CW.ret ?_
    cases h
    exact And.intro trivial ⟨_, Res.one (resOne.t rfl), rfl, hS4.pick [] rfl rfl⟩
  replace h := bcF h hc5
  refine LW.gN (want_not rfl rfl hc5) rfl ?_
  refine LW.gN (want_not rfl rfl hc5) rfl ?_
  refine LW.gN (want_not rfl rfl hc5) rfl ?_
  refine LW.gN (want_not rfl rfl hc5) rfl ?_
  refine LW.gN (want_not rfl rfl hc5) rfl ?_
  refine LW.u (Pur.pickF rfl hc5) rfl ?_
  refine LW.p rfl rfl ?_
  refine LW.nil ?_
  show CW _ _ _ _ _ _
  refine CW.fresh (l := [(4, .bool false)]) ⟨rfl, trivial⟩ (fun e => ?_)
  refine CW.ret ?_
  cases h
  exact And.intro trivial ⟨_, Res.one (resOne.t rfl), rfl, hS3.pick [] rfl rfl⟩

theorem W_l_FnExactSameWorld {w0 : World} {N : Nat} {x0 : DWorld} {x1 : DWorld} {r : Bool} (h : F_l_FnExactSameWorld N x0 x1 = some r) {a0_1 : Option Addr} {n0_1 c0_1 : Nat} (hn0_1 : n0_1 = x0.parts.length) (hr0_1 : rdS (Bor w0 []) w0 a0_1 c0_1 x0.parts) {a1_1 : Option Addr} {n1_1 c1_1 : Nat} (hn1_1 : n1_1 = x1.parts.length) (hr1_1 : rdS (Bor w0 []) w0 a1_1 c1_1 x1.parts) :
    Ret Try.prog 4 #[.agg #[.int .i64 x0.now, .slice a0_1 n0_1 c0_1], .agg #[.int .i64 x1.now, .slice a1_1 n1_1 c1_1]] w0 (fun v w => v = .bool r ∧ St w0 [] w []) := by
  subst hn0_1
  subst hn1_1
  unfold F_l_FnExactSameWorld at h
  refine Ret.of Try.func4 rfl rfl rfl ?_
  have hS1 := St.start w0
  refine CW.seq ?_
  refine CW.region ?_
  refine LW.box (cs := [.int .i64 x0.now, .slice a0_1 x0.parts.length c0_1]) rfl hS1 rfl ?_
  intro g1 w2 hS2 hf
  refine LW.box (cs := [.int .i64 x1.now, .slice a1_1 x1.parts.length c1_1]) rfl hS2 rfl ?_
  intro g3 w4 hS3 hf
  refine LW.p rfl rfl ?_
  refine LW.nil ?_
  show CW _ _ _ _ _ _
  refine CW.seq ?_
  refine CW.region ?_
  refine LW.p rfl rfl ?_
  refine LW.nil ?_
  show CW _ _ _ _ _ _
  refine CW.seq ?_
  refine CW.region ?_
  refine LW.ldbN hS3 1 rfl ag46 rfl rfl rfl ?_
  refine LW.p rfl rfl ?_
  replace h := obind h
  obtain ⟨y5, hy5, h⟩ := h
  have q := W_l_szWorld (w0 := w4) hy5 rfl (hS3.rB hr0_1)
  refine LW.call pl25 rfl rfl ?_
  refine Ret.mono q ?_
  rintro _ w6 ⟨rfl, hs⟩
  have hS4 := hS3.add hs
  refine LW.p rfl rfl ?_
  refine LW.nil ?_
  show CW _ _ _ _ _ _
  refine CW.seq ?_
  refine CW.seq ?_
  refine CW.region ?_
  iterate 2 refine LW.p rfl rfl ?_
  refine LW.nil ?_
  show CW _ _ _ _ _ _
  refine CW.cond rfl (fun hc7 => ?_) (fun hc7 => ?_)
  · replace h := bcT h hc7
    refine CW.seq ?_
    refine CW.region ?_
    refine LW.p rfl rfl ?_
    refine LW.nil ?_
    show CW _ _ _ _ _ _
    refine CW.ret ?_
    cases h
    exact And.intro trivial ⟨_, Res.one (resOne.t rfl), rfl, hS4.pick [] rfl rfl⟩
  replace h := bcF h hc7
  refine CW.skip ?_
  show CW _ _ _ _ _ _
  refine CW.seq ?_
  refine CW.region ?_
  refine LW.ldbN hS4 0 rfl ag46 rfl rfl rfl ?_
  refine LW.p rfl rfl ?_
  replace h := obind h
  obtain ⟨y8, hy8, h⟩ := h
  have q := W_l_szWorld (w0 := w6) hy8 rfl (hS4.rB hr1_1)
  refine LW.call pl25 rfl rfl ?_
  refine Ret.mono q ?_
  rintro _ w9 ⟨rfl, hs⟩
  have hS5 := hS4.add hs
  refine LW.p rfl rfl ?_
  refine LW.nil ?_
  show CW _ _ _ _ _ _
  refine CW.fresh (l := [(2, .pointer (some ⟨g1, 0, none⟩)), (3, .pointer (some ⟨g3, 0, none⟩)), (5, .int .i64 y8)]) ⟨rfl, rfl, rfl, trivial⟩ (fun e => ?_)
  refine CW.seq ?_
  refine CW.seq ?_
  refine CW.region ?_
  iterate 2 refine LW.p rfl rfl ?_
  refine LW.nil ?_
  show CW _ _ _ _ _ _
  refine CW.cond rfl (fun hc10 => ?_) (fun hc10 => ?_)
  · replace h := bcT h hc10
    refine CW.seq ?_
    refine CW.region ?_
    refine LW.p rfl rfl ?_
    refine LW.nil ?_
    show CW _ _ _ _ _ _
    refine CW.ret ?_
    cases h
    exact And.intro trivial ⟨_, Res.one (resOne.t rfl), rfl, hS5.pick [] rfl rfl⟩
  replace h := bcF h hc10
  refine CW.skip ?_
  show CW _ _ _ _ _ _
  refine CW.seq ?_
  refine CW.draw (by kernel_rfl) ?_
  have hS6 := hS5.drew
  refine AW.take (i := 0) rfl (by kernel_rfl) rfl rfl (Ldr.boxN (bt := 46) (fr := (0, 0)) (cs := [.int .i64 x0.now, .slice a0_1 x0.parts.length c0_1]) ag46 rfl rfl) (St.cell (h := hS6) (i := 1) rfl) ?_
  refine AW.take (i := 2) rfl (by kernel_rfl) rfl rfl (Ldr.boxN (bt := 46) (fr := (0, 0)) (cs := [.int .i64 x1.now, .slice a1_1 x1.parts.length c1_1]) ag46 rfl rfl) (St.cell (h := hS6) (i := 0) rfl) ?_
  replace h := obind h
  obtain ⟨y11, hy11, h⟩ := h
  have q := W_l_toWorld (w0 := w9.drew) hy11 rfl (hS6.rB hr0_1)
  refine AW.one (i := 1) (by kernel_rfl) ?_
  refine ⟨_, rfl, ?_⟩
  refine LW.call pl27 rfl rfl ?_
  refine Ret.mono q ?_
  rintro _ w14 ⟨a12, c13, rfl, hs⟩
  have hS7 := hS6.add hs
  refine LW.nil ⟨rfl, (.c (St.cell (h := hS7) (i := 1) rfl) (.w (by kernel_rfl) Kept.n)), ?_⟩
  replace h := obind h
  obtain ⟨y15, hy15, h⟩ := h
  have q := W_l_toWorld (w0 := w14) hy15 rfl (hS7.rB hr1_1)
  refine AW.one (i := 3) (by kernel_rfl) ?_
  refine ⟨_, rfl, ?_⟩
  refine LW.call pl27 rfl rfl ?_
  refine Ret.mono q ?_
  rintro _ w18 ⟨a16, c17, rfl, hs⟩
  have hS8 := hS7.add hs
  refine LW.nil ⟨rfl, (.w (by kernel_rfl) (.c (St.cell (h := hS8) (i := 3) rfl) Kept.n)), ?_⟩
  replace h := obind h
  obtain ⟨y19, hy19, h⟩ := h
  have q := W_s_SameWorld (w0 := w18) hy19 rfl (hS8.rI 1 rfl) rfl (hS8.rI 0 rfl)
  refine AW.one (i := 4) (by kernel_rfl) ?_
  refine ⟨_, rfl, ?_⟩
  refine LW.call pl26 rfl rfl ?_
  refine Ret.mono q ?_
  rintro _ w20 ⟨rfl, hs⟩
  have hS9 := hS8.add hs
  refine LW.nil ⟨rfl, (.c (St.cell (h := hS9) (i := 2) rfl) (.c (St.cell (h := hS9) (i := 3) rfl) Kept.n)), ?_⟩
  refine AW.u (i := 5) rfl (by kernel_rfl) rfl rfl (Pur.p rfl) ?_
  refine AW.done (by kernel_rfl) ?_
  show CW _ _ _ _ _ _
  refine CW.seq ?_
  refine CW.region ?_
  refine LW.ldbN hS9 3 rfl ag46 rfl rfl rfl ?_
  replace h := obind h
  obtain ⟨y21, hy21, h⟩ := h
  have q := W_l_toWorld (w0 := w20) hy21 rfl (hS9.rB hr0_1)
  refine LW.call pl27 rfl rfl ?_
  refine Ret.mono q ?_
  rintro _ w24 ⟨a22, c23, rfl, hs⟩
  have hS10 := hS9.add hs
  refine LW.alloc zv51 hS10 rfl ?_
  intro g25 w26 hS11 hf
  refine LW.stb hS11 0 rfl ag51 rfl rfl rfl rfl rfl ?_
  intro w27 hS12 hf
  refine LW.nil ?_
  show CW _ _ _ _ _ _
  refine CW.seq ?_
  refine CW.region ?_
  refine LW.ldbN hS12 4 rfl ag46 rfl rfl rfl ?_
  replace h := obind h
  obtain ⟨y28, hy28, h⟩ := h
  have q := W_l_toWorld (w0 := w27) hy28 rfl (hS12.rB hr1_1)
  refine LW.call pl27 rfl rfl ?_
  refine Ret.mono q ?_
  rintro _ w31 ⟨a29, c30, rfl, hs⟩
  have hS13 := hS12.add hs
  refine LW.alloc zv51 hS13 rfl ?_
  intro g32 w33 hS14 hf
  refine LW.stb hS14 0 rfl ag51 rfl rfl rfl rfl rfl ?_
  intro w34 hS15 hf
  refine LW.nil ?_
  show CW _ _ _ _ _ _
  refine CW.seq ?_
  refine CW.region ?_
  refine LW.ldbN hS15 2 rfl ag51 rfl rfl rfl ?_
  refine LW.ldbN hS15 0 rfl ag51 rfl rfl rfl ?_
  replace h := obind h
  obtain ⟨y35, hy35, h⟩ := h
  have q := W_i_SameWorld (w0 := w34) hy35 rfl (hS15.rI 3 rfl) rfl (hS15.rI 1 rfl)
  refine LW.call pl28 rfl rfl ?_
  refine Ret.mono q ?_
  rintro _ w36 ⟨rfl, hs⟩
  have hS16 := hS15.add hs
  refine LW.p rfl rfl ?_
  refine LW.nil ?_
  show CW _ _ _ _ _ _
  refine CW.fresh (l := [(2, .pointer (some ⟨g1, 0, none⟩)), (3, .pointer (some ⟨g3, 0, none⟩)), (6, .bool y19), (7, .pointer (some ⟨g25, 0, none⟩)), (8, .pointer (some ⟨g32, 0, none⟩)), (9, .bool y35)]) ⟨rfl, rfl, rfl, rfl, rfl, rfl, trivial⟩ (fun e => ?_)
  refine CW.seq ?_
  refine CW.seq ?_
  refine CW.region ?_
  iterate 2 refine LW.p rfl rfl ?_
  refine LW.u (Pur.bne Try.underlying4 rfl rfl) rfl ?_
  refine LW.nil ?_
  show CW _ _ _ _ _ _
  refine CW.cond rfl (fun hc37 => ?_) (fun hc37 => ?_)
  · replace h := bcT h hc37
    refine CW.seq ?_
    refine CW.region ?_
    refine LW.p rfl rfl ?_
    refine LW.nil ?_
    show CW _ _ _ _ _ _
    refine CW.ret ?_
    cases h
    exact And.intro trivial ⟨_, Res.one (resOne.t rfl), rfl, hS16.pick [] rfl rfl⟩
  replace h := bcF h hc37
  refine CW.skip ?_
  show CW _ _ _ _ _ _
  refine CW.seq ?_
  refine CW.seq ?_
  refine CW.draw (by kernel_rfl) ?_
  have hS17 := hS16.drew
  refine AW.take (i := 0) rfl (by kernel_rfl) rfl rfl (Ldr.boxN (bt := 51) (fr := (0, 0)) (cs := [.int .i64 y21.now, .slice a22 y21.parts.length c23]) ag51 rfl rfl) (St.cell (h := hS17) (i := 2) rfl) ?_
  refine AW.take (i := 1) rfl (by kernel_rfl) rfl rfl (Ldr.boxN (bt := 46) (fr := (0, 0)) (cs := [.int .i64 x0.now, .slice a0_1 x0.parts.length c0_1]) ag46 rfl rfl) (St.cell (h := hS17) (i := 7) rfl) ?_
  replace h := obind h
  obtain ⟨y38, hy38, h⟩ := h
  have q := W_l_toWorld (w0 := w36.drew) hy38 rfl (hS17.rB hr0_1)
  refine AW.one (i := 2) (by kernel_rfl) ?_
  refine ⟨_, rfl, ?_⟩
  refine LW.call pl27 rfl rfl ?_
  refine Ret.mono q ?_
  rintro _ w41 ⟨a39, c40, rfl, hs⟩
  have hS18 := hS17.add hs
  refine LW.nil ⟨rfl, (.w (by kernel_rfl) (.c (St.cell (h := hS18) (i := 3) rfl) Kept.n)), ?_⟩
  replace h := obind h
  obtain ⟨y42, hy42, h⟩ := h
  have q := W_l_eqWorld (w0 := w41) hy42 rfl (hS18.rI 4 rfl) rfl (hS18.rI 0 rfl)
  refine AW.one (i := 3) (by kernel_rfl) ?_
  refine ⟨_, rfl, ?_⟩
  refine LW.call pl29 rfl rfl ?_
  refine Ret.mono q ?_
  rintro _ w43 ⟨rfl, hs⟩
  have hS19 := hS18.add hs
  refine LW.nil ⟨rfl, (.c (St.cell (h := hS19) (i := 8) rfl) (.w (by kernel_rfl) Kept.n)), ?_⟩
  refine AW.u (i := 4) rfl (by kernel_rfl) rfl rfl (Pur.p rfl) ?_
  refine AW.done (by kernel_rfl) ?_
  show CW _ _ _ _ _ _
  refine CW.cond rfl (fun hc44 => ?_) (fun hc44 => ?_)
  · replace h := bcT h hc44
    refine CW.seq ?_
    refine CW.region ?_
    refine LW.p rfl rfl ?_
    refine LW.nil ?_
    show CW _ _ _ _ _ _
    refine CW.ret ?_
    cases h
    exact And.intro trivial ⟨_, Res.one (resOne.t rfl), rfl, hS19.pick [] rfl rfl⟩
  replace h := bcF h hc44
  refine CW.skip ?_
  show CW _ _ _ _ _ _
  refine CW.seq ?_
  refine CW.seq ?_
  refine CW.draw (by kernel_rfl) ?_
  have hS20 := hS19.drew
  refine AW.take (i := 0) rfl (by kernel_rfl) rfl rfl (Ldr.boxN (bt := 51) (fr := (0, 0)) (cs := [.int .i64 y28.now, .slice a29 y28.parts.length c30]) ag51 rfl rfl) (St.cell (h := hS20) (i := 1) rfl) ?_
  refine AW.take (i := 1) rfl (by kernel_rfl) rfl rfl (Ldr.boxN (bt := 46) (fr := (0, 0)) (cs := [.int .i64 x1.now, .slice a1_1 x1.parts.length c1_1]) ag46 rfl rfl) (St.cell (h := hS20) (i := 7) rfl) ?_
  replace h := obind h
  obtain ⟨y45, hy45, h⟩ := h
  have q := W_l_toWorld (w0 := w43.drew) hy45 rfl (hS20.rB hr1_1)
  refine AW.one (i := 2) (by kernel_rfl) ?_
  refine ⟨_, rfl, ?_⟩
  refine LW.call pl27 rfl rfl ?_
  refine Ret.mono q ?_
  rintro _ w48 ⟨a46, c47, rfl, hs⟩
  have hS21 := hS20.add hs
  refine LW.nil ⟨rfl, (.w (by kernel_rfl) (.c (St.cell (h := hS21) (i := 2) rfl) Kept.n)), ?_⟩
  replace h := obind h
  obtain ⟨y49, hy49, h⟩ := h
  have q := W_l_eqWorld (w0 := w48) hy49 rfl (hS21.rI 3 rfl) rfl (hS21.rI 0 rfl)
  refine AW.one (i := 3) (by kernel_rfl) ?_
  refine ⟨_, rfl, ?_⟩
  refine LW.call pl29 rfl rfl ?_
  refine Ret.mono q ?_
  rintro _ w50 ⟨rfl, hs⟩
  have hS22 := hS21.add hs
  refine LW.nil ⟨rfl, (.c (St.cell (h := hS22) (i := 8) rfl) (.w (by kernel_rfl) Kept.n)), ?_⟩
  refine AW.u (i := 4) rfl (by kernel_rfl) rfl rfl (Pur.p rfl) ?_
  refine AW.done (by kernel_rfl) ?_
  show CW _ _ _ _ _ _
  refine CW.cond rfl (fun hc51 => ?_) (fun hc51 => ?_)
  · replace h := bcT h hc51
    refine CW.seq ?_
    refine CW.region ?_
    refine LW.p rfl rfl ?_
    refine LW.nil ?_
    show CW _ _ _ _ _ _
    refine CW.ret ?_
    cases h
    exact And.intro trivial ⟨_, Res.one (resOne.t rfl), rfl, hS22.pick [] rfl rfl⟩
  replace h := bcF h hc51
  refine CW.skip ?_
  show CW _ _ _ _ _ _
  refine CW.seq ?_
  refine CW.region ?_
  refine LW.p rfl rfl ?_
  refine LW.nil ?_
  show CW _ _ _ _ _ _
  refine CW.ret ?_
  cases h
  exact And.intro trivial ⟨_, Res.one (resOne.t rfl), rfl, hS22.pick [] rfl rfl⟩

end Go.Kx
