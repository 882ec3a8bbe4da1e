/- Each call returns what the plain function says. Printed by drive.py. -/
import Derived.Test.YtdjpppkdngmeaaaFa
import Derived.Test.YtdjpppkdngmeaaaPu
import Derived.Test.YtdjpppkdngmeaaaWa3
namespace Go.Kx
open Go Go.RowKit Go.Proofs
set_option maxRecDepth 10000
set_option maxHeartbeats 2000000
set_option linter.unusedVariables false
set_option linter.unusedSimpArgs false
theorem W_s_Flows {w0 : World} {N : Nat} {x0 : DLabel} {x1 : DLabel} {r : Bool} (h : F_s_Flows N x0 x1 = some r) {a0_0 : Option Addr} {n0_0 c0_0 : Nat} (hn0_0 : n0_0 = x0.levels.length) (hr0_0 : rdS (Bor w0 []) w0 a0_0 c0_0 x0.levels) {a1_0 : Option Addr} {n1_0 c1_0 : Nat} (hn1_0 : n1_0 = x1.levels.length) (hr1_0 : rdS (Bor w0 []) w0 a1_0 c1_0 x1.levels) :
    Ret Try.prog 91 #[.agg #[.slice a0_0 n0_0 c0_0], .agg #[.slice a1_0 n1_0 c1_0]] w0 (fun v w => v = .bool r ∧ St w0 [] w []) := by
  subst hn0_0
  subst hn1_0
  unfold F_s_Flows at h
  refine Ret.of Try.func91 rfl rfl rfl ?_
  have hS1 := St.start w0
  refine CW.seq ?_
  refine CW.region ?_
  refine LW.box (cs := [.slice a0_0 x0.levels.length c0_0]) rfl hS1 rfl ?_
  intro g1 w2 hS2 hf
  refine LW.box (cs := [.slice a1_0 x1.levels.length c1_0]) rfl hS2 rfl ?_
  intro g3 w4 hS3 hf
  refine LW.p rfl rfl ?_
  refine LW.nil ?_
  show CW _ _ _ _ _ _
  refine CW.seq ?_
  refine CW.seq ?_
  obtain ⟨j5, hj5, h6⟩ := obind h
  refine CW.cut (fun e wb => En e [(2, .pointer (some ⟨g1, 0, none⟩)), (3, .pointer (some ⟨g3, 0, none⟩)), (13, .bool j5)] ∧ St w0 [] wb [bx g3 35 [.slice a1_0 x1.levels.length c1_0], bx g1 35 [.slice a0_0 x0.levels.length c0_0]]) ?_ ?_
  · have h := hj5
    refine CW.region ?_
    refine LW.ldbN hS3 1 rfl ag35 rfl rfl rfl ?_
    replace h := obind h
    obtain ⟨y7, hy7, h⟩ := h
    have q := W_s_LabelOk (w0 := w4) hy7 rfl (hS3.rB hr0_0)
    refine LW.call pl103 rfl rfl ?_
    refine Ret.mono q ?_
    rintro _ w8 ⟨rfl, hs⟩
    have hS4 := hS3.add hs
    iterate 2 refine LW.p rfl rfl ?_
    rcases bcases (!y7) with hc9 | hc9
    · replace h := bcT h hc9
      refine LW.gN (want_not rfl rfl hc9) rfl ?_
      refine LW.gN (want_not rfl rfl hc9) rfl ?_
      refine LW.gN (want_not rfl rfl hc9) rfl ?_
      refine LW.u (Pur.pickT rfl hc9) rfl ?_
      refine LW.nil ?_
      replace h := Option.some.inj h
      subst h
      exact ⟨⟨rfl, rfl, rfl, trivial⟩, hS4.pick [0, 1] rfl rfl⟩
    replace h := bcF h hc9
    refine LW.gY (want_of rfl rfl hc9) ?_
    refine LW.ldbN hS4 0 rfl ag35 rfl rfl rfl ?_
    replace h := obind h
    obtain ⟨y10, hy10, h⟩ := h
    have q := W_s_LabelOk (w0 := w8) hy10 rfl (hS4.rB hr1_0)
    refine LW.gY (want_of rfl rfl hc9) ?_
    refine LW.call pl103 rfl rfl ?_
    refine Ret.mono q ?_
    rintro _ w11 ⟨rfl, hs⟩
    have hS5 := hS4.add hs
    refine LW.gY (want_of rfl rfl hc9) ?_
    refine LW.p rfl rfl ?_
    refine LW.u (Pur.pickF rfl hc9) rfl ?_
    refine LW.nil ?_
    replace h := Option.some.inj h
    subst h
    exact ⟨⟨rfl, rfl, rfl, trivial⟩, hS5.pick [0, 1] rfl rfl⟩
  intro e w12 hM
  obtain ⟨hE, hS6⟩ := hM
  obtain ⟨e, rfl⟩ := hE.out
  have h := h6
  show CW _ _ _ _ _ _
  refine CW.cond rfl (fun hc13 => ?_) (fun hc13 => ?_)
  · replace h := bcT h hc13
    refine CW.seq ?_
    refine CW.region ?_
    refine LW.p rfl rfl ?_
    refine LW.nil ?_
    show CW _ _ _ _ _ _
    refine CW.ret ?_
    cases h
    exact And.intro trivial ⟨_, Res.one (resOne.t rfl), rfl, hS6.pick [] rfl rfl⟩
  replace h := bcF h hc13
  refine CW.skip ?_
  show CW _ _ _ _ _ _
  refine CW.seq ?_
  refine CW.seq ?_
  refine CW.region ?_
  refine LW.p rfl rfl ?_
  refine LW.nil ?_
  show CW _ _ _ _ _ _
  refine CW.block ?_
  obtain ⟨o36, ho36, h37⟩ := obind h
  refine CW.mono (CW.iter (σ := Int) (ρ := Int ⊕ Bool) (fun s14 e wb => En e [(2, .pointer (some ⟨g1, 0, none⟩)), (3, .pointer (some ⟨g3, 0, none⟩)), (5, .int .i64 s14)] ∧ St w0 [] wb [bx g3 35 [.slice a1_0 x1.levels.length c1_0], bx g1 35 [.slice a0_0 x0.levels.length c0_0]]) (fun o x e wb => match o with | .inl s14 => x = .exit 0 ∧ En e [] ∧ St w0 [] wb [bx g3 35 [.slice a1_0 x1.levels.length c1_0], bx g1 35 [.slice a0_0 x0.levels.length c0_0]] | .inr r => x = .ret ∧ ∃ u, u = r ∧ ∃ v, Res Try.prog Try.f91.results e wb v ∧ v = .bool u ∧ St w0 [] wb []) ?_ N 0 _ _ _ ⟨⟨rfl, rfl, rfl, trivial⟩, hS6.pick [0, 1] rfl rfl⟩ ho36) ?_
  · intro s14 e w15 o hM h
    obtain ⟨hE, hS7⟩ := hM
    obtain ⟨e, rfl⟩ := hE.out
    refine CW.seq ?_
    refine CW.seq ?_
    refine CW.region ?_
    iterate 2 refine LW.p rfl rfl ?_
    refine LW.nil ?_
    show CW _ _ _ _ _ _
    refine CW.cond rfl (fun hc16 => ?_) (fun hc16 => ?_)
    · replace h := bcT h hc16
      refine CW.skip ?_
      show CW _ _ _ _ _ _
      refine CW.seq ?_
      refine CW.block ?_
      refine CW.seq ?_
      refine CW.draw (by kernel_rfl) ?_
      have hS8 := hS7.drew
      refine AW.u (i := 0) rfl (by kernel_rfl) rfl rfl (Pur.fa fo35_0 rfl) ?_
      refine AW.take (i := 1) rfl (by kernel_rfl) rfl rfl (Ldr.box (bt := 35) (fr := (0, 0)) (cs := [.slice a0_0 x0.levels.length c0_0]) ag24 rfl rfl) (St.cell (h := hS8) (i := 1) rfl) ?_
      refine AW.u (i := 2) rfl (by kernel_rfl) rfl rfl (Pur.p rfl) ?_
      replace h := obind h
      obtain ⟨y17, hy17, h⟩ := h
      obtain ⟨b20, o21, cs22, hae, hb25, hp18, hq19, hd23, hk24⟩ := hr0_0.idx hy17
      subst hae
      obtain rfl := hd23
      refine AW.u (i := 3) rfl (by kernel_rfl) rfl rfl (Pur.ix Try.underlying24 sz3 rfl rfl hp18 hq19) ?_
      refine AW.take (i := 4) rfl (by kernel_rfl) rfl rfl (Ldr.old w0 ag3 rfl (hk24 0 _ rfl)) (hS8.same _ hb25.1 hb25.2) ?_
      refine AW.u (i := 5) rfl (by kernel_rfl) rfl rfl (Pur.fa fo35_0 rfl) ?_
      refine AW.take (i := 6) rfl (by kernel_rfl) rfl rfl (Ldr.box (bt := 35) (fr := (0, 0)) (cs := [.slice a1_0 x1.levels.length c1_0]) ag24 rfl rfl) (St.cell (h := hS8) (i := 0) rfl) ?_
      refine AW.u (i := 7) rfl (by kernel_rfl) rfl rfl (Pur.p rfl) ?_
      replace h := obind h
      obtain ⟨y26, hy26, h⟩ := h
      obtain ⟨b29, o30, cs31, hae, hb34, hp27, hq28, hd32, hk33⟩ := hr1_0.idx hy26
      subst hae
      obtain rfl := hd32
      refine AW.u (i := 8) rfl (by kernel_rfl) rfl rfl (Pur.ix Try.underlying24 sz3 rfl rfl hp27 hq28) ?_
      refine AW.take (i := 9) rfl (by kernel_rfl) rfl rfl (Ldr.old w0 ag3 rfl (hk33 0 _ rfl)) (hS8.same _ hb34.1 hb34.2) ?_
      refine AW.u (i := 10) rfl (by kernel_rfl) rfl rfl (Pur.p rfl) ?_
      refine AW.done (by kernel_rfl) ?_
      show CW _ _ _ _ _ _
      refine CW.cond rfl (fun hc35 => ?_) (fun hc35 => ?_)
      · replace h := bcT h hc35
        refine CW.seq ?_
        refine CW.region ?_
        refine LW.p rfl rfl ?_
        refine LW.nil ?_
        show CW _ _ _ _ _ _
        refine CW.ret ?_
        replace h := Option.some.inj h
        subst h
        exact ⟨trivial, rfl, _, rfl, ⟨_, Res.one (resOne.t rfl), rfl, hS8.pick [] rfl rfl⟩⟩
      replace h := bcF h hc35
      refine CW.skip ?_
      show CW _ _ _ _ _ _
      refine CW.region ?_
      iterate 3 refine LW.p rfl rfl ?_
      refine LW.nil ?_
      replace h := Option.some.inj h
      subst h
      exact ⟨rfl, ⟨⟨rfl, rfl, rfl, trivial⟩, hS8.pick [0, 1] rfl rfl⟩⟩
    replace h := bcF h hc16
    refine CW.exit ?_
    replace h := Option.some.inj h
    subst h
    exact ⟨trivial, rfl, ⟨trivial, hS7.pick [0, 1] rfl rfl⟩⟩
  intro x e w38 hM
  rcases o36 with o36 | r39
  · obtain ⟨rfl, hM⟩ := hM
    obtain ⟨hE, hS9⟩ := hM
    obtain ⟨e, rfl⟩ := hE.out
    have h := h37
    show CW _ _ _ _ _ _
    refine CW.seq ?_
    refine CW.region ?_
    refine LW.p rfl rfl ?_
    refine LW.nil ?_
    show CW _ _ _ _ _ _
    refine CW.ret ?_
    cases h
    exact And.intro trivial ⟨_, Res.one (resOne.t rfl), rfl, hS9.pick [] rfl rfl⟩
  obtain ⟨rfl, u, rfl, hM⟩ := hM
  cases h37
  exact And.intro trivial hM

theorem W_i_above {w0 : World} {N : Nat} {x0 : DLabel} {x1 : DLabel} {r : (List Int)} (h : F_i_above N x0 x1 = some r) {a0_0 : Option Addr} {n0_0 c0_0 : Nat} (hn0_0 : n0_0 = x0.levels.length) (hr0_0 : rdS (Bor w0 []) w0 a0_0 c0_0 x0.levels) {a1_0 : Option Addr} {n1_0 c1_0 : Nat} (hn1_0 : n1_0 = x1.levels.length) (hr1_0 : rdS (Bor w0 []) w0 a1_0 c1_0 x1.levels) :
    Ret Try.prog 189 #[.agg #[.slice a0_0 n0_0 c0_0], .agg #[.slice a1_0 n1_0 c1_0]] w0 (fun v w => ∃ ar0 cr0, v = .slice ar0 r.length cr0 ∧ St w0 [] w [sl ar0 cr0 r]) := by
  subst hn0_0
  subst hn1_0
  unfold F_i_above at h
  refine Ret.of Try.func189 rfl rfl rfl ?_
  have hS1 := St.start w0
  refine CW.seq ?_
  refine CW.region ?_
  refine LW.box (cs := [.slice a0_0 x0.levels.length c0_0]) rfl hS1 rfl ?_
  intro g1 w2 hS2 hf
  refine LW.box (cs := [.slice a1_0 x1.levels.length c1_0]) rfl hS2 rfl ?_
  intro g3 w4 hS3 hf
  refine LW.p rfl rfl ?_
  refine LW.nil ?_
  show CW _ _ _ _ _ _
  refine CW.seq ?_
  refine CW.region ?_
  refine LW.bsl (α := Int) (vs := []) (cs := #[]) (l := ([] : List Int)) rfl (by kernel_rfl) rfl rfl rfl (fun w => rfl) hS3 rfl ?_
  intro a5 c6 w7 hS4 hf
  refine LW.p rfl rfl ?_
  refine LW.nil ?_
  show CW _ _ _ _ _ _
  refine CW.seq ?_
  refine CW.seq ?_
  refine CW.region ?_
  refine LW.u (Pur.fa fo35_0 rfl) rfl ?_
  refine LW.ldb hS4 2 rfl ag24 rfl rfl rfl ?_
  refine LW.u (Pur.len Try.underlying24 rfl) rfl ?_
  refine LW.p rfl rfl ?_
  refine LW.nil ?_
  show CW _ _ _ _ _ _
  refine CW.block ?_
  obtain ⟨o35, ho35, h36⟩ := obind h
  refine CW.mono (CW.iter (σ := (List Int) × Int) (ρ := (List Int) × Int) (fun s8 e wb => ∃ (s8a0 : Option Addr), ∃ (s8c0 : Nat), En e [(3, .pointer (some ⟨g3, 0, none⟩)), (5, .slice s8a0 s8.1.length s8c0), (10, .slice a0_0 x0.levels.length c0_0), (11, .int .i64 (x0.levels.length : Int)), (12, .int .i64 s8.2)] ∧ St w0 [] wb [sl s8a0 s8c0 s8.1, bx g3 35 [.slice a1_0 x1.levels.length c1_0]]) (fun s8 x e wb => x = .exit 0 ∧ ∃ (s8a0 : Option Addr), ∃ (s8c0 : Nat), En e [(5, .slice s8a0 s8.1.length s8c0)] ∧ St w0 [] wb [sl s8a0 s8c0 s8.1, bx g3 35 [.slice a1_0 x1.levels.length c1_0]]) ?_ N (([] : List Int), 0) _ _ _ ⟨a5, c6, ⟨rfl, rfl, rfl, rfl, rfl, trivial⟩, hS4.pick [0, 1] rfl rfl⟩ ho35) ?_
  · intro s8 e w9 o hM h
    obtain ⟨s8a0, s8c0, hE, hS5⟩ := hM
    obtain ⟨e, rfl⟩ := hE.out
    refine CW.seq ?_
    refine CW.region ?_
    refine LW.p rfl rfl ?_
    refine LW.nil ?_
    show CW _ _ _ _ _ _
    refine CW.seq ?_
    refine CW.cond rfl (fun hc10 => ?_) (fun hc10 => ?_)
    · replace h := bcT h hc10
      refine CW.skip ?_
      show CW _ _ _ _ _ _
      refine CW.seq ?_
      refine CW.block ?_
      refine CW.seq ?_
      refine CW.region ?_
      refine LW.p rfl rfl ?_
      replace h := obind h
      obtain ⟨y11, hy11, h⟩ := h
      obtain ⟨b14, o15, cs16, hae, hb19, hp12, hq13, hd17, hk18⟩ := hr0_0.idx hy11
      subst hae
      obtain rfl := hd17
      refine LW.u (Pur.ix Try.underlying24 sz3 rfl rfl hp12 hq13) rfl ?_
      refine LW.l (Ldr.old w0 ag3 rfl (hk18 0 _ rfl)) (hS5.same _ hb19.1 hb19.2) rfl ?_
      iterate 2 refine LW.p rfl rfl ?_
      refine LW.nil ?_
      show CW _ _ _ _ _ _
      refine CW.fresh (l := [(3, .pointer (some ⟨g3, 0, none⟩)), (5, .slice s8a0 s8.1.length s8c0), (6, .int .i64 s8.2), (7, .int .i64 y11), (10, .slice (some ⟨b14, o15, none⟩) x0.levels.length c0_0), (11, .int .i64 (x0.levels.length : Int)), (12, .int .i64 s8.2)]) ⟨rfl, rfl, rfl, rfl, rfl, rfl, rfl, trivial⟩ (fun e => ?_)
      refine CW.seq ?_
      refine CW.region ?_
      refine LW.p rfl rfl ?_
      refine LW.u (Pur.fa fo35_0 rfl) rfl ?_
      refine LW.ldb hS5 1 rfl ag24 rfl rfl rfl ?_
      refine LW.p rfl rfl ?_
      replace h := obind h
      obtain ⟨y20, hy20, h⟩ := h
      obtain ⟨b23, o24, cs25, hae, hb28, hp21, hq22, hd26, hk27⟩ := hr1_0.idx hy20
      subst hae
      obtain rfl := hd26
      refine LW.u (Pur.ix Try.underlying24 sz3 rfl rfl hp21 hq22) rfl ?_
      refine LW.l (Ldr.old w0 ag3 rfl (hk27 0 _ rfl)) (hS5.same _ hb28.1 hb28.2) rfl ?_
      refine LW.p rfl rfl ?_
      refine LW.nil ?_
      show CW _ _ _ _ _ _
      refine CW.cond rfl (fun hc29 => ?_) (fun hc29 => ?_)
      · replace h := bcT h hc29
        refine CW.region ?_
        iterate 2 refine LW.p rfl rfl ?_
        replace h := obind h
        obtain ⟨y30, hy30, h⟩ := h
        refine LW.app1 (M := []) (L := [sl s8a0 s8c0 s8.1, bx g3 35 [.slice (some ⟨b23, o24, none⟩) x1.levels.length c1_0]]) (vs := #[.int .i64 s8.2]) (i := 0) sT24 rfl (by kernel_rfl) rfl rfl hy30 hS5 rfl (fun w G hG => by cases (show G = [] from hG); exact ⟨rfl, rfl⟩) rfl rfl ?_
        intro v33 a31 c32 w34 hS6 hf
        refine LW.p rfl rfl ?_
        refine LW.nil ?_
        show CW _ _ _ _ _ _
        refine CW.region ?_
        iterate 2 refine LW.p rfl rfl ?_
        refine LW.nil ?_
        replace h := Option.some.inj h
        subst h
        exact ⟨rfl, ⟨a31, c32, ⟨rfl, rfl, rfl, rfl, rfl, trivial⟩, hS6.pick [0, 1] rfl rfl⟩⟩
      replace h := bcF h hc29
      refine CW.skip ?_
      show CW _ _ _ _ _ _
      refine CW.region ?_
      iterate 2 refine LW.p rfl rfl ?_
      refine LW.nil ?_
      replace h := Option.some.inj h
      subst h
      exact ⟨rfl, ⟨s8a0, s8c0, ⟨rfl, rfl, rfl, rfl, rfl, trivial⟩, hS5.pick [0, 1] rfl rfl⟩⟩
    replace h := bcF h hc10
    refine CW.exit ?_
    replace h := Option.some.inj h
    subst h
    exact ⟨trivial, rfl, ⟨s8a0, s8c0, ⟨rfl, trivial⟩, hS5.pick [0, 1] rfl rfl⟩⟩
  intro x e w37 hM
  obtain ⟨rfl, hM⟩ := hM
  obtain ⟨s8a0, s8c0, hE, hS7⟩ := hM
  obtain ⟨e, rfl⟩ := hE.out
  have h := h36
  show CW _ _ _ _ _ _
  refine CW.seq ?_
  refine CW.region ?_
  iterate 2 refine LW.p rfl rfl ?_
  refine LW.nil ?_
  show CW _ _ _ _ _ _
  refine CW.ret ?_
  cases h
  exact And.intro trivial ⟨_, Res.one (resOne.t rfl), s8a0, s8c0, rfl, hS7.pick [0] rfl rfl⟩

theorem W_i_FlowsFor {w0 : World} {N : Nat} {x0 : List Int} {x1 : DLabel} {x2 : DLabel} {r : Bool} (h : F_i_FlowsFor N x0 x1 x2 = some r) {a0_0 : Option Addr} {n0_0 c0_0 : Nat} (hn0_0 : n0_0 = x0.length) (hr0_0 : rdS (Bor w0 []) w0 a0_0 c0_0 x0) {a1_0 : Option Addr} {n1_0 c1_0 : Nat} (hn1_0 : n1_0 = x1.levels.length) (hr1_0 : rdS (Bor w0 []) w0 a1_0 c1_0 x1.levels) {a2_0 : Option Addr} {n2_0 c2_0 : Nat} (hn2_0 : n2_0 = x2.levels.length) (hr2_0 : rdS (Bor w0 []) w0 a2_0 c2_0 x2.levels) :
    Ret Try.prog 159 #[.slice a0_0 n0_0 c0_0, .agg #[.slice a1_0 n1_0 c1_0], .agg #[.slice a2_0 n2_0 c2_0]] w0 (fun v w => v = .bool r ∧ St w0 [] w []) := by
  subst hn0_0
  subst hn1_0
  subst hn2_0
  unfold F_i_FlowsFor at h
  refine Ret.of Try.func159 rfl rfl rfl ?_
  have hS1 := St.start w0
  refine CW.seq ?_
  refine CW.region ?_
  refine LW.box (cs := [.slice a1_0 x1.levels.length c1_0]) rfl hS1 rfl ?_
  intro g1 w2 hS2 hf
  refine LW.box (cs := [.slice a2_0 x2.levels.length c2_0]) rfl hS2 rfl ?_
  intro g3 w4 hS3 hf
  refine LW.p rfl rfl ?_
  refine LW.nil ?_
  show CW _ _ _ _ _ _
  refine CW.seq ?_
  refine CW.seq ?_
  obtain ⟨j5, hj5, h6⟩ := obind h
  refine CW.cut (fun e wb => En e [(0, .slice a0_0 x0.length c0_0), (4, .pointer (some ⟨g1, 0, none⟩)), (5, .pointer (some ⟨g3, 0, none⟩)), (21, .bool j5)] ∧ St w0 [] wb [bx g3 35 [.slice a2_0 x2.levels.length c2_0], bx g1 35 [.slice a1_0 x1.levels.length c1_0]]) ?_ ?_
  · have h := hj5
    refine CW.region ?_
    refine LW.p rfl rfl ?_
    replace h := obind h
    obtain ⟨y7, hy7, h⟩ := h
    have q := W_i_OwnOk (w0 := w4) hy7 rfl (hS3.rB hr0_0)
    refine LW.call pl111 rfl rfl ?_
    refine Ret.mono q ?_
    rintro _ w8 ⟨rfl, hs⟩
    have hS4 := hS3.add hs
    iterate 2 refine LW.p rfl rfl ?_
    rcases bcases (!y7) with hc9 | hc9
    · replace h := bcT h hc9
      refine LW.gN (want_not rfl rfl hc9) rfl ?_
      refine LW.gN (want_not rfl rfl hc9) rfl ?_
      refine LW.gN (want_not rfl rfl hc9) rfl ?_
      refine LW.u (Pur.pickT rfl hc9) rfl ?_
      refine LW.p rfl rfl ?_
      refine LW.gN (want_not rfl rfl rfl) rfl ?_
      refine LW.gN (want_not rfl rfl rfl) rfl ?_
      refine LW.gN (want_not rfl rfl rfl) rfl ?_
      refine LW.u (Pur.pickT rfl rfl) rfl ?_
      refine LW.nil ?_
      replace h := Option.some.inj h
      subst h
      exact ⟨⟨rfl, rfl, rfl, rfl, trivial⟩, hS4.pick [0, 1] rfl rfl⟩
    replace h := bcF h hc9
    refine LW.gY (want_of rfl rfl hc9) ?_
    refine LW.ldbN hS4 1 rfl ag35 rfl rfl rfl ?_
    replace h := obind h
    obtain ⟨y10, hy10, h⟩ := h
    have q := W_i_LabelOk (w0 := w8) hy10 rfl (hS4.rB hr1_0)
    refine LW.gY (want_of rfl rfl hc9) ?_
    refine LW.call pl110 rfl rfl ?_
    refine Ret.mono q ?_
    rintro _ w11 ⟨rfl, hs⟩
    have hS5 := hS4.add hs
    refine LW.gY (want_of rfl rfl hc9) ?_
    refine LW.p rfl rfl ?_
    refine LW.u (Pur.pickF rfl hc9) rfl ?_
    refine LW.p rfl rfl ?_
    rcases bcases (!y10) with hc12 | hc12
    · replace h := bcT h hc12
      refine LW.gN (want_not rfl rfl hc12) rfl ?_
      refine LW.gN (want_not rfl rfl hc12) rfl ?_
      refine LW.gN (want_not rfl rfl hc12) rfl ?_
      refine LW.u (Pur.pickT rfl hc12) rfl ?_
      refine LW.nil ?_
      replace h := Option.some.inj h
      subst h
      exact ⟨⟨rfl, rfl, rfl, rfl, trivial⟩, hS5.pick [0, 1] rfl rfl⟩
    replace h := bcF h hc12
    refine LW.gY (want_of rfl rfl hc12) ?_
    refine LW.ldbN hS5 0 rfl ag35 rfl rfl rfl ?_
    replace h := obind h
    obtain ⟨y13, hy13, h⟩ := h
    have q := W_i_LabelOk (w0 := w11) hy13 rfl (hS5.rB hr2_0)
    refine LW.gY (want_of rfl rfl hc12) ?_
    refine LW.call pl110 rfl rfl ?_
    refine Ret.mono q ?_
    rintro _ w14 ⟨rfl, hs⟩
    have hS6 := hS5.add hs
    refine LW.gY (want_of rfl rfl hc12) ?_
    refine LW.p rfl rfl ?_
    refine LW.u (Pur.pickF rfl hc12) rfl ?_
    refine LW.nil ?_
    replace h := Option.some.inj h
    subst h
    exact ⟨⟨rfl, rfl, rfl, rfl, trivial⟩, hS6.pick [0, 1] rfl rfl⟩
  intro e w15 hM
  obtain ⟨hE, hS7⟩ := hM
  obtain ⟨e, rfl⟩ := hE.out
  have h := h6
  show CW _ _ _ _ _ _
  refine CW.cond rfl (fun hc16 => ?_) (fun hc16 => ?_)
  · replace h := bcT h hc16
    refine CW.seq ?_
    refine CW.region ?_
    refine LW.p rfl rfl ?_
    refine LW.nil ?_
    show CW _ _ _ _ _ _
    refine CW.ret ?_
    cases h
    exact And.intro trivial ⟨_, Res.one (resOne.t rfl), rfl, hS7.pick [] rfl rfl⟩
  replace h := bcF h hc16
  refine CW.skip ?_
  show CW _ _ _ _ _ _
  refine CW.seq ?_
  refine CW.seq ?_
  refine CW.region ?_
  refine LW.ldbN hS7 1 rfl ag35 rfl rfl rfl ?_
  refine LW.ldbN hS7 0 rfl ag35 rfl rfl rfl ?_
  replace h := obind h
  obtain ⟨y17, hy17, h⟩ := h
  have q := W_i_above (w0 := w15) hy17 rfl (hS7.rB hr1_0) rfl (hS7.rB hr2_0)
  refine LW.call pl189 rfl rfl ?_
  refine Ret.mono q ?_
  rintro _ w20 ⟨a18, c19, rfl, hs⟩
  have hS8 := hS7.add hs
  refine LW.u (Pur.len Try.underlying24 rfl) rfl ?_
  refine LW.p rfl rfl ?_
  refine LW.nil ?_
  show CW _ _ _ _ _ _
  refine CW.block ?_
  obtain ⟨o40, ho40, h41⟩ := obind h
  refine CW.mono (CW.iter (σ := Int) (ρ := Int ⊕ Bool) (fun s21 e wb => En e [(0, .slice a0_0 x0.length c0_0), (24, .slice a18 y17.length c19), (25, .int .i64 (y17.length : Int)), (26, .int .i64 s21)] ∧ St w0 [] wb [sl a18 c19 y17]) (fun o x e wb => match o with | .inl s21 => x = .exit 0 ∧ En e [] ∧ St w0 [] wb [sl a18 c19 y17] | .inr r => x = .ret ∧ ∃ u, u = r ∧ ∃ v, Res Try.prog Try.f159.results e wb v ∧ v = .bool u ∧ St w0 [] wb []) ?_ N 0 _ _ _ ⟨⟨rfl, rfl, rfl, rfl, trivial⟩, hS8.pick [0] rfl rfl⟩ ho40) ?_
  · intro s21 e w22 o hM h
    obtain ⟨hE, hS9⟩ := hM
    obtain ⟨e, rfl⟩ := hE.out
    refine CW.seq ?_
    refine CW.region ?_
    refine LW.p rfl rfl ?_
    refine LW.nil ?_
    show CW _ _ _ _ _ _
    refine CW.seq ?_
    refine CW.cond rfl (fun hc23 => ?_) (fun hc23 => ?_)
    · replace h := bcT h hc23
      refine CW.skip ?_
      show CW _ _ _ _ _ _
      refine CW.seq ?_
      refine CW.block ?_
      refine CW.seq ?_
      refine CW.region ?_
      replace h := obind h
      obtain ⟨y24, hy24, h⟩ := h
      obtain ⟨b27, o28, hae, hp25, hq26⟩ := hS9.ownIdx (α := Int) (i := 0) rfl hy24
      subst hae
      refine LW.u (Pur.ix Try.underlying24 sz3 rfl rfl hp25 hq26) rfl ?_
      obtain ⟨F29, ho30, hS10⟩ := hS9.freeze (α := Int) 0 rfl
      obtain ⟨b31, o32, cs33, hae, hb36, _, _, hd34, hk35⟩ := ho30.rdF.idx hy24
      cases hae
      obtain rfl := hd34
      refine LW.l (Ldr.old w22 ag3 rfl (hk35 0 _ rfl)) (hS10.zC 0 rfl hb36) rfl ?_
      refine LW.p rfl rfl ?_
      refine LW.nil ?_
      show CW _ _ _ _ _ _
      refine CW.fresh (l := [(0, .slice a0_0 x0.length c0_0), (8, .int .i64 y24), (24, .slice (some ⟨b27, o28, none⟩) y17.length c19), (25, .int .i64 (y17.length : Int)), (26, .int .i64 s21)]) ⟨rfl, rfl, rfl, rfl, rfl, trivial⟩ (fun e => ?_)
      refine CW.seq ?_
      refine CW.region ?_
      iterate 2 refine LW.p rfl rfl ?_
      replace h := obind h
      obtain ⟨y37, hy37, h⟩ := h
      have q := W_z_Contains_int (w0 := w22) hy37 rfl (hS10.rB hr0_0)
      refine LW.call pl76 rfl rfl ?_
      refine Ret.mono q ?_
      rintro _ w38 ⟨rfl, hs⟩
      have hS11 := hS10.add hs
      refine LW.p rfl rfl ?_
      refine LW.nil ?_
      show CW _ _ _ _ _ _
      refine CW.cond rfl (fun hc39 => ?_) (fun hc39 => ?_)
      · replace h := bcT h hc39
        refine CW.seq ?_
        refine CW.region ?_
        refine LW.p rfl rfl ?_
        refine LW.nil ?_
        show CW _ _ _ _ _ _
        refine CW.ret ?_
        replace h := Option.some.inj h
        subst h
        exact ⟨trivial, rfl, _, rfl, ⟨_, Res.one (resOne.t rfl), rfl, hS11.pick [] rfl rfl⟩⟩
      replace h := bcF h hc39
      refine CW.skip ?_
      show CW _ _ _ _ _ _
      refine CW.region ?_
      iterate 2 refine LW.p rfl rfl ?_
      refine LW.nil ?_
      replace h := Option.some.inj h
      subst h
      have hS12 := hS11.thaw (α := Int) 0 rfl ho30
      exact ⟨rfl, ⟨⟨rfl, rfl, rfl, rfl, trivial⟩, hS12.pick [0] rfl rfl⟩⟩
    replace h := bcF h hc23
    refine CW.exit ?_
    replace h := Option.some.inj h
    subst h
    exact ⟨trivial, rfl, ⟨trivial, hS9.pick [0] rfl rfl⟩⟩
  intro x e w42 hM
  rcases o40 with o40 | r43
  · obtain ⟨rfl, hM⟩ := hM
    obtain ⟨hE, hS13⟩ := hM
    obtain ⟨e, rfl⟩ := hE.out
    have h := h41
    show CW _ _ _ _ _ _
    refine CW.seq ?_
    refine CW.region ?_
    refine LW.p rfl rfl ?_
    refine LW.nil ?_
    show CW _ _ _ _ _ _
    refine CW.ret ?_
    cases h
    exact And.intro trivial ⟨_, Res.one (resOne.t rfl), rfl, hS13.pick [] rfl rfl⟩
  obtain ⟨rfl, u, rfl, hM⟩ := hM
  cases h41
  exact And.intro trivial hM

theorem W_i_Flows {w0 : World} {N : Nat} {x0 : DLabel} {x1 : DLabel} {r : Bool} (h : F_i_Flows N x0 x1 = some r) {a0_0 : Option Addr} {n0_0 c0_0 : Nat} (hn0_0 : n0_0 = x0.levels.length) (hr0_0 : rdS (Bor w0 []) w0 a0_0 c0_0 x0.levels) {a1_0 : Option Addr} {n1_0 c1_0 : Nat} (hn1_0 : n1_0 = x1.levels.length) (hr1_0 : rdS (Bor w0 []) w0 a1_0 c1_0 x1.levels) :
    Ret Try.prog 93 #[.agg #[.slice a0_0 n0_0 c0_0], .agg #[.slice a1_0 n1_0 c1_0]] w0 (fun v w => v = .bool r ∧ St w0 [] w []) := by
  subst hn0_0
  subst hn1_0
  unfold F_i_Flows at h
  refine Ret.of Try.func93 rfl rfl rfl ?_
  have hS1 := St.start w0
  refine CW.seq ?_
  refine CW.region ?_
  refine LW.box (cs := [.slice a0_0 x0.levels.length c0_0]) rfl hS1 rfl ?_
  intro g1 w2 hS2 hf
  refine LW.box (cs := [.slice a1_0 x1.levels.length c1_0]) rfl hS2 rfl ?_
  intro g3 w4 hS3 hf
  refine LW.p rfl rfl ?_
  refine LW.nil ?_
  show CW _ _ _ _ _ _
  refine CW.seq ?_
  refine CW.region ?_
  refine LW.ldbN hS3 1 rfl ag35 rfl rfl rfl ?_
  refine LW.ldbN hS3 0 rfl ag35 rfl rfl rfl ?_
  replace h := obind h
  obtain ⟨y5, hy5, h⟩ := h
  have q := W_i_FlowsFor (w0 := w4) hy5 rfl (show rdS (α := Int) (Bor w4 []) w4 none 0 [] from rdS.nil _ _ _ _ (Nat.zero_le _)) rfl (hS3.rB hr0_0) rfl (hS3.rB hr1_0)
  refine LW.call pl159 rfl rfl ?_
  refine Ret.mono q ?_
  rintro _ w6 ⟨rfl, hs⟩
  have hS4 := hS3.add hs
  refine LW.p rfl rfl ?_
  refine LW.nil ?_
  show CW _ _ _ _ _ _
  refine CW.ret ?_
  cases h
  exact And.intro trivial ⟨_, Res.one (resOne.t rfl), rfl, hS4.pick [] rfl rfl⟩

end Go.Kx
