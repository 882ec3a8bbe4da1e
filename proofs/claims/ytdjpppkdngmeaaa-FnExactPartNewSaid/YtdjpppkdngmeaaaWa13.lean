/- Each call returns what the plain function says. Printed by drive.py. -/
import Derived.Test.YtdjpppkdngmeaaaFa
import Derived.Test.YtdjpppkdngmeaaaPu
import Derived.Test.YtdjpppkdngmeaaaWa3
import Derived.Test.YtdjpppkdngmeaaaWa10
import Derived.Test.YtdjpppkdngmeaaaWa12
namespace Go.Kx
open Go Go.RowKit Go.Proofs
set_option maxRecDepth 10000
set_option maxHeartbeats 2000000
set_option linter.unusedVariables false
set_option linter.unusedSimpArgs false
theorem W_s_l4Has {w0 : World} {N : Nat} {x0 : List Int} {x1 : Int} {r : Bool} (h : F_s_l4Has N x0 x1 = some r) {a0_0 : Option Addr} {n0_0 c0_0 : Nat} (hn0_0 : n0_0 = x0.length) (hr0_0 : rdS (Bor w0 []) w0 a0_0 c0_0 x0) :
    Ret Try.prog 70 #[.slice a0_0 n0_0 c0_0, .int .i64 x1] w0 (fun v w => v = .bool r ∧ St w0 [] w []) := by
  subst hn0_0
  unfold F_s_l4Has at h
  refine Ret.of Try.func70 rfl rfl rfl ?_
  have hS1 := St.start w0
  refine CW.seq ?_
  refine CW.region ?_
  refine LW.p rfl rfl ?_
  refine LW.nil ?_
  show CW _ _ _ _ _ _
  refine CW.seq ?_
  refine CW.seq ?_
  refine CW.region ?_
  refine LW.p rfl rfl ?_
  refine LW.nil ?_
  show CW _ _ _ _ _ _
  refine CW.block ?_
  obtain ⟨o14, ho14, h15⟩ := obind h
  refine CW.mono (CW.iter (σ := Int) (ρ := Int ⊕ Bool) (fun s1 e wb => En e [(0, .slice a0_0 x0.length c0_0), (1, .int .i64 x1), (5, .int .i64 s1)] ∧ St w0 [] wb []) (fun o x e wb => match o with | .inl s1 => x = .exit 0 ∧ En e [] ∧ St w0 [] wb [] | .inr r => x = .ret ∧ ∃ u, u = r ∧ ∃ v, Res Try.prog Try.f70.results e wb v ∧ v = .bool u ∧ St w0 [] wb []) ?_ N 0 _ _ _ ⟨⟨rfl, rfl, rfl, trivial⟩, hS1.pick [] rfl rfl⟩ ho14) ?_
  · intro s1 e w2 o hM h
    obtain ⟨hE, hS2⟩ := hM
    obtain ⟨e, rfl⟩ := hE.out
    refine CW.seq ?_
    refine CW.seq ?_
    refine CW.region ?_
    iterate 2 refine LW.p rfl rfl ?_
    refine LW.u (Pur.len Try.underlying24 rfl) rfl ?_
    refine LW.p rfl rfl ?_
    refine LW.nil ?_
    show CW _ _ _ _ _ _
    refine CW.cond rfl (fun hc3 => ?_) (fun hc3 => ?_)
    · replace h := bcT h hc3
      refine CW.skip ?_
      show CW _ _ _ _ _ _
      refine CW.seq ?_
      refine CW.block ?_
      refine CW.seq ?_
      refine CW.region ?_
      iterate 2 refine LW.p rfl rfl ?_
      replace h := obind h
      obtain ⟨y4, hy4, h⟩ := h
      obtain ⟨b7, o8, cs9, hae, hb12, hp5, hq6, hd10, hk11⟩ := hr0_0.idx hy4
      subst hae
      obtain rfl := hd10
      refine LW.u (Pur.ix Try.underlying24 sz3 rfl rfl hp5 hq6) rfl ?_
      refine LW.l (Ldr.old w0 ag3 rfl (hk11 0 _ rfl)) (hS2.same _ hb12.1 hb12.2) rfl ?_
      iterate 2 refine LW.p rfl rfl ?_
      refine LW.nil ?_
      show CW _ _ _ _ _ _
      refine CW.fresh (l := [(0, .slice (some ⟨b7, o8, none⟩) x0.length c0_0), (1, .int .i64 x1), (5, .int .i64 s1), (17, .bool (y4 == x1))]) ⟨rfl, rfl, rfl, rfl, trivial⟩ (fun e => ?_)
      refine CW.cond rfl (fun hc13 => ?_) (fun hc13 => ?_)
      · replace h := bcT h hc13
        refine CW.seq ?_
        refine CW.region ?_
        refine LW.p rfl rfl ?_
        refine LW.nil ?_
        show CW _ _ _ _ _ _
        refine CW.ret ?_
        replace h := Option.some.inj h
        subst h
        exact ⟨trivial, rfl, _, rfl, ⟨_, Res.one (resOne.t rfl), rfl, hS2.pick [] rfl rfl⟩⟩
      replace h := bcF h hc13
      refine CW.skip ?_
      show CW _ _ _ _ _ _
      refine CW.region ?_
      iterate 3 refine LW.p rfl rfl ?_
      refine LW.nil ?_
      replace h := Option.some.inj h
      subst h
      exact ⟨rfl, ⟨⟨rfl, rfl, rfl, trivial⟩, hS2.pick [] rfl rfl⟩⟩
    replace h := bcF h hc3
    refine CW.exit ?_
    replace h := Option.some.inj h
    subst h
    exact ⟨trivial, rfl, ⟨trivial, hS2.pick [] rfl rfl⟩⟩
  intro x e w16 hM
  rcases o14 with o14 | r17
  · obtain ⟨rfl, hM⟩ := hM
    obtain ⟨hE, hS3⟩ := hM
    obtain ⟨e, rfl⟩ := hE.out
    have h := h15
    show CW _ _ _ _ _ _
    refine CW.seq ?_
    refine CW.region ?_
    refine LW.p rfl rfl ?_
    refine LW.nil ?_
    show CW _ _ _ _ _ _
    refine CW.ret ?_
    cases h
    exact And.intro trivial ⟨_, Res.one (resOne.t rfl), rfl, hS3.pick [] rfl rfl⟩
  obtain ⟨rfl, u, rfl, hM⟩ := hM
  cases h15
  exact And.intro trivial hM

theorem W_s_HeapOk {w0 : World} {N : Nat} {x0 : DHeap} {r : Bool} (h : F_s_HeapOk N x0 = some r) {a0_0 : Option Addr} {n0_0 c0_0 : Nat} (hn0_0 : n0_0 = x0.arena.length) (hr0_0 : rdS (Bor w0 []) w0 a0_0 c0_0 x0.arena) {a0_4 : Option Addr} {n0_4 c0_4 : Nat} (hn0_4 : n0_4 = x0.gc.grey.length) (hr0_4 : rdS (Bor w0 []) w0 a0_4 c0_4 x0.gc.grey) :
    Ret Try.prog 145 #[.agg #[.slice a0_0 n0_0 c0_0, .int .i64 x0.gc.phase, .int .i64 x0.gc.pos, .int .i64 x0.gc.round, .slice a0_4 n0_4 c0_4]] w0 (fun v w => v = .bool r ∧ St w0 [] w []) := by
  subst hn0_0
  subst hn0_4
  unfold F_s_HeapOk at h
  refine Ret.of Try.func145 rfl rfl rfl ?_
  have hS1 := St.start w0
  refine CW.seq ?_
  refine CW.region ?_
  refine LW.box (cs := [.slice a0_0 x0.arena.length c0_0, .int .i64 x0.gc.phase, .int .i64 x0.gc.pos, .int .i64 x0.gc.round, .slice a0_4 x0.gc.grey.length c0_4]) rfl hS1 rfl ?_
  intro g1 w2 hS2 hf
  refine LW.p rfl rfl ?_
  refine LW.nil ?_
  show CW _ _ _ _ _ _
  refine CW.seq ?_
  refine CW.region ?_
  refine LW.u (Pur.fa fo71_1 rfl) rfl ?_
  refine LW.ldbN hS2 0 rfl ag69 rfl rfl rfl ?_
  refine LW.alloc zv69 hS2 rfl ?_
  intro g3 w4 hS3 hf
  refine LW.stb hS3 0 rfl ag69 rfl rfl rfl rfl rfl ?_
  intro w5 hS4 hf
  refine LW.nil ?_
  show CW _ _ _ _ _ _
  refine CW.seq ?_
  refine CW.seq ?_
  obtain ⟨j6, hj6, h7⟩ := obind h
  refine CW.cut (fun e wb => En e [(3, .pointer (some ⟨g3, 0, none⟩)), (22, .bool j6)] ∧ St w0 [] wb [bx g3 69 [.int .i64 x0.gc.phase, .int .i64 x0.gc.pos, .int .i64 x0.gc.round, .slice a0_4 x0.gc.grey.length c0_4]]) ?_ ?_
  · have h := hj6
    refine CW.region ?_
    refine LW.u (Pur.fa fo71_0 rfl) rfl ?_
    refine LW.ldb hS4 1 rfl ag68 rfl rfl rfl ?_
    replace h := obind h
    obtain ⟨y8, hy8, h⟩ := h
    have q := W_s_ArenaOk (w0 := w5) hy8 rfl (hS4.rB hr0_0)
    refine LW.call pl165 rfl rfl ?_
    refine Ret.mono q ?_
    rintro _ w9 ⟨rfl, hs⟩
    have hS5 := hS4.add hs
    iterate 2 refine LW.p rfl rfl ?_
    rcases bcases (!y8) with hc10 | hc10
    · replace h := bcT h hc10
      refine LW.gN (want_not rfl rfl hc10) rfl ?_
      refine LW.gN (want_not rfl rfl hc10) rfl ?_
      refine LW.gN (want_not rfl rfl hc10) rfl ?_
      refine LW.gN (want_not rfl rfl hc10) rfl ?_
      refine LW.u (Pur.pickT rfl hc10) rfl ?_
      refine LW.p rfl rfl ?_
      refine LW.gN (want_not rfl rfl rfl) rfl ?_
      refine LW.gN (want_not rfl rfl rfl) rfl ?_
      refine LW.gN (want_not rfl rfl rfl) rfl ?_
      refine LW.gN (want_not rfl rfl rfl) rfl ?_
      refine LW.u (Pur.pickT rfl rfl) rfl ?_
      refine LW.nil ?_
      replace h := Option.some.inj h
      subst h
      exact ⟨⟨rfl, rfl, trivial⟩, hS5.pick [0] rfl rfl⟩
    replace h := bcF h hc10
    refine LW.gY (want_of rfl rfl hc10) ?_
    refine LW.u (Pur.fa fo69_0 rfl) rfl ?_
    refine LW.gY (want_of rfl rfl hc10) ?_
    refine LW.ldb hS5 0 rfl ag3 rfl rfl rfl ?_
    replace h := obind h
    obtain ⟨y11, hy11, h⟩ := h
    have q := W_s_l1In (w0 := w9) hy11
    refine LW.gY (want_of rfl rfl hc10) ?_
    refine LW.call pl81 rfl rfl ?_
    refine Ret.mono q ?_
    rintro _ w12 ⟨rfl, hs⟩
    have hS6 := hS5.add hs
    refine LW.gY (want_of rfl rfl hc10) ?_
    refine LW.p rfl rfl ?_
    refine LW.u (Pur.pickF rfl hc10) rfl ?_
    refine LW.p rfl rfl ?_
    rcases bcases (!y11) with hc13 | hc13
    · replace h := bcT h hc13
      refine LW.gN (want_not rfl rfl hc13) rfl ?_
      refine LW.gN (want_not rfl rfl hc13) rfl ?_
      refine LW.gN (want_not rfl rfl hc13) rfl ?_
      refine LW.gN (want_not rfl rfl hc13) rfl ?_
      refine LW.u (Pur.pickT rfl hc13) rfl ?_
      refine LW.nil ?_
      replace h := Option.some.inj h
      subst h
      exact ⟨⟨rfl, rfl, trivial⟩, hS6.pick [0] rfl rfl⟩
    replace h := bcF h hc13
    refine LW.gY (want_of rfl rfl hc13) ?_
    refine LW.u (Pur.fa fo69_2 rfl) rfl ?_
    refine LW.gY (want_of rfl rfl hc13) ?_
    refine LW.ldb hS6 0 rfl ag3 rfl rfl rfl ?_
    replace h := obind h
    obtain ⟨y14, hy14, h⟩ := h
    have q := W_s_l1In (w0 := w12) hy14
    refine LW.gY (want_of rfl rfl hc13) ?_
    refine LW.call pl81 rfl rfl ?_
    refine Ret.mono q ?_
    rintro _ w15 ⟨rfl, hs⟩
    have hS7 := hS6.add hs
    refine LW.gY (want_of rfl rfl hc13) ?_
    refine LW.p rfl rfl ?_
    refine LW.u (Pur.pickF rfl hc13) rfl ?_
    refine LW.nil ?_
    replace h := Option.some.inj h
    subst h
    exact ⟨⟨rfl, rfl, trivial⟩, hS7.pick [0] rfl rfl⟩
  intro e w16 hM
  obtain ⟨hE, hS8⟩ := hM
  obtain ⟨e, rfl⟩ := hE.out
  have h := h7
  show CW _ _ _ _ _ _
  refine CW.cond rfl (fun hc17 => ?_) (fun hc17 => ?_)
  · replace h := bcT h hc17
    refine CW.seq ?_
    refine CW.region ?_
    refine LW.p rfl rfl ?_
    refine LW.nil ?_
    show CW _ _ _ _ _ _
    refine CW.ret ?_
    cases h
    exact And.intro trivial ⟨_, Res.one (resOne.t rfl), rfl, hS8.pick [] rfl rfl⟩
  replace h := bcF h hc17
  refine CW.skip ?_
  show CW _ _ _ _ _ _
  refine CW.seq ?_
  refine CW.seq ?_
  obtain ⟨j18, hj18, h19⟩ := obind h
  refine CW.cut (fun e wb => En e [(3, .pointer (some ⟨g3, 0, none⟩)), (47, .bool j18)] ∧ St w0 [] wb [bx g3 69 [.int .i64 x0.gc.phase, .int .i64 x0.gc.pos, .int .i64 x0.gc.round, .slice a0_4 x0.gc.grey.length c0_4]]) ?_ ?_
  · have h := hj18
    refine CW.region ?_
    refine LW.u (Pur.fa fo69_0 rfl) rfl ?_
    refine LW.ldb hS8 0 rfl ag3 rfl rfl rfl ?_
    iterate 2 refine LW.p rfl rfl ?_
    rcases bcases (x0.gc.phase == 0) with hc20 | hc20
    · replace h := bcT h hc20
      refine LW.gY (want_of rfl rfl hc20) ?_
      refine LW.u (Pur.fa fo69_1 rfl) rfl ?_
      refine LW.gY (want_of rfl rfl hc20) ?_
      refine LW.ldb hS8 0 rfl ag3 rfl rfl rfl ?_
      refine LW.gY (want_of rfl rfl hc20) ?_
      refine LW.p rfl rfl ?_
      refine LW.u (Pur.pickT rfl hc20) rfl ?_
      refine LW.p rfl rfl ?_
      rcases bcases (x0.gc.pos != 0) with hc21 | hc21
      · replace h := bcT h hc21
        refine LW.gN (want_not rfl rfl hc21) rfl ?_
        refine LW.gN (want_not rfl rfl hc21) rfl ?_
        refine LW.gN (want_not rfl rfl hc21) rfl ?_
        refine LW.gN (want_not rfl rfl hc21) rfl ?_
        refine LW.gN (want_undef rfl rfl) rfl ?_
        refine LW.gN (want_undef rfl rfl) rfl ?_
        refine LW.gN (want_undef rfl rfl) rfl ?_
        refine LW.gN (want_undef rfl rfl) rfl ?_
        refine LW.fresh (l := [(3, .pointer (some ⟨g3, 0, none⟩)), (31, .bool (x0.gc.pos != 0)), (35, undef), (39, undef)]) ⟨rfl, rfl, rfl, rfl, trivial⟩ (fun e => ?_)
        refine LW.gN (want_undef rfl rfl) rfl ?_
        refine LW.gN (want_undef rfl rfl) rfl ?_
        refine LW.gN (want_undef rfl rfl) rfl ?_
        refine LW.gN (want_undef rfl rfl) rfl ?_
        refine LW.gN (want_undef rfl rfl) rfl ?_
        refine LW.gN (want_undef rfl rfl) rfl ?_
        refine LW.gN (want_not rfl rfl hc21) rfl ?_
        refine LW.u (Pur.pickT rfl hc21) rfl ?_
        refine LW.nil ?_
        replace h := Option.some.inj h
        subst h
        exact ⟨⟨rfl, rfl, trivial⟩, hS8.pick [0] rfl rfl⟩
      replace h := bcF h hc21
      refine LW.gY (want_of rfl rfl hc21) ?_
      refine LW.u (Pur.fa fo69_0 rfl) rfl ?_
      refine LW.gY (want_of rfl rfl hc21) ?_
      refine LW.ldb hS8 0 rfl ag3 rfl rfl rfl ?_
      refine LW.gY (want_of rfl rfl hc21) ?_
      refine LW.p rfl rfl ?_
      refine LW.gY (want_of rfl rfl hc21) ?_
      refine LW.p rfl rfl ?_
      rcases bcases (x0.gc.phase == 1) with hc22 | hc22
      · replace h := bcT h hc22
        refine LW.gY (want_of rfl rfl hc22) ?_
        refine LW.u (Pur.fa fo69_1 rfl) rfl ?_
        refine LW.gY (want_of rfl rfl hc22) ?_
        refine LW.ldb hS8 0 rfl ag3 rfl rfl rfl ?_
        replace h := obind h
        obtain ⟨y23, hy23, h⟩ := h
        have q := W_s_l8Slot (w0 := w16) hy23
        refine LW.gY (want_of rfl rfl hc22) ?_
        refine LW.call pl146 rfl rfl ?_
        refine Ret.mono q ?_
        rintro _ w24 ⟨rfl, hs⟩
        have hS9 := hS8.add hs
        refine LW.fresh (l := [(3, .pointer (some ⟨g3, 0, none⟩)), (31, .bool (x0.gc.pos != 0)), (35, .bool (x0.gc.phase == 1)), (38, .bool y23)]) ⟨rfl, rfl, rfl, rfl, trivial⟩ (fun e => ?_)
        refine LW.gY (want_of rfl rfl hc22) ?_
        refine LW.p rfl rfl ?_
        refine LW.gY (want_of rfl rfl hc22) ?_
        refine LW.p rfl rfl ?_
        rcases bcases (!y23) with hc25 | hc25
        · replace h := bcT h hc25
          refine LW.gN (want_not rfl rfl hc25) rfl ?_
          refine LW.gN (want_not rfl rfl hc25) rfl ?_
          refine LW.gN (want_not rfl rfl hc25) rfl ?_
          refine LW.gN (want_not rfl rfl hc25) rfl ?_
          refine LW.gY (want_of rfl rfl hc22) ?_
          refine LW.u (Pur.pickT rfl hc25) rfl ?_
          refine LW.gY (want_of rfl rfl hc21) ?_
          refine LW.u (Pur.pickT rfl hc22) rfl ?_
          refine LW.u (Pur.pickF rfl hc21) rfl ?_
          refine LW.nil ?_
          replace h := Option.some.inj h
          subst h
          exact ⟨⟨rfl, rfl, trivial⟩, hS9.pick [0] rfl rfl⟩
        replace h := bcF h hc25
        refine LW.gY (want_of rfl rfl hc25) ?_
        refine LW.u (Pur.fa fo69_3 rfl) rfl ?_
        refine LW.gY (want_of rfl rfl hc25) ?_
        refine LW.ldb hS9 0 rfl ag24 rfl rfl rfl ?_
        refine LW.gY (want_of rfl rfl hc25) ?_
        refine LW.u (Pur.len Try.underlying24 rfl) rfl ?_
        refine LW.gY (want_of rfl rfl hc25) ?_
        refine LW.p rfl rfl ?_
        refine LW.gY (want_of rfl rfl hc22) ?_
        refine LW.u (Pur.pickF rfl hc25) rfl ?_
        refine LW.gY (want_of rfl rfl hc21) ?_
        refine LW.u (Pur.pickT rfl hc22) rfl ?_
        refine LW.u (Pur.pickF rfl hc21) rfl ?_
        refine LW.nil ?_
        replace h := Option.some.inj h
        subst h
        exact ⟨⟨rfl, rfl, trivial⟩, hS9.pick [0] rfl rfl⟩
      replace h := bcF h hc22
      refine LW.gN (want_not rfl rfl hc22) rfl ?_
      refine LW.gN (want_not rfl rfl hc22) rfl ?_
      refine LW.gN (want_not rfl rfl hc22) rfl ?_
      refine LW.fresh (l := [(3, .pointer (some ⟨g3, 0, none⟩)), (31, .bool (x0.gc.pos != 0)), (35, .bool (x0.gc.phase == 1)), (38, undef)]) ⟨rfl, rfl, rfl, rfl, trivial⟩ (fun e => ?_)
      refine LW.gN (want_not rfl rfl hc22) rfl ?_
      refine LW.gN (want_not rfl rfl hc22) rfl ?_
      refine LW.gN (want_undef rfl rfl) rfl ?_
      refine LW.gN (want_undef rfl rfl) rfl ?_
      refine LW.gN (want_undef rfl rfl) rfl ?_
      refine LW.gN (want_undef rfl rfl) rfl ?_
      refine LW.gN (want_not rfl rfl hc22) rfl ?_
      refine LW.gY (want_of rfl rfl hc21) ?_
      refine LW.u (Pur.pickF rfl hc22) rfl ?_
      refine LW.u (Pur.pickF rfl hc21) rfl ?_
      refine LW.nil ?_
      replace h := Option.some.inj h
      subst h
      exact ⟨⟨rfl, rfl, trivial⟩, hS8.pick [0] rfl rfl⟩
    replace h := bcF h hc20
    refine LW.gN (want_not rfl rfl hc20) rfl ?_
    refine LW.gN (want_not rfl rfl hc20) rfl ?_
    refine LW.gN (want_not rfl rfl hc20) rfl ?_
    refine LW.u (Pur.pickF rfl hc20) rfl ?_
    refine LW.p rfl rfl ?_
    refine LW.gY (want_of rfl rfl rfl) ?_
    refine LW.u (Pur.fa fo69_0 rfl) rfl ?_
    refine LW.gY (want_of rfl rfl rfl) ?_
    refine LW.ldb hS8 0 rfl ag3 rfl rfl rfl ?_
    refine LW.gY (want_of rfl rfl rfl) ?_
    refine LW.p rfl rfl ?_
    refine LW.gY (want_of rfl rfl rfl) ?_
    refine LW.p rfl rfl ?_
    rcases bcases (x0.gc.phase == 1) with hc26 | hc26
    · replace h := bcT h hc26
      refine LW.gY (want_of rfl rfl hc26) ?_
      refine LW.u (Pur.fa fo69_1 rfl) rfl ?_
      refine LW.gY (want_of rfl rfl hc26) ?_
      refine LW.ldb hS8 0 rfl ag3 rfl rfl rfl ?_
      replace h := obind h
      obtain ⟨y27, hy27, h⟩ := h
      have q := W_s_l8Slot (w0 := w16) hy27
      refine LW.gY (want_of rfl rfl hc26) ?_
      refine LW.call pl146 rfl rfl ?_
      refine Ret.mono q ?_
      rintro _ w28 ⟨rfl, hs⟩
      have hS10 := hS8.add hs
      refine LW.gY (want_of rfl rfl hc26) ?_
      refine LW.p rfl rfl ?_
      refine LW.fresh (l := [(3, .pointer (some ⟨g3, 0, none⟩)), (31, .bool false), (35, .bool (x0.gc.phase == 1)), (39, .bool (!y27))]) ⟨rfl, rfl, rfl, rfl, trivial⟩ (fun e => ?_)
      refine LW.gY (want_of rfl rfl hc26) ?_
      refine LW.p rfl rfl ?_
      rcases bcases (!y27) with hc29 | hc29
      · replace h := bcT h hc29
        refine LW.gN (want_not rfl rfl hc29) rfl ?_
        refine LW.gN (want_not rfl rfl hc29) rfl ?_
        refine LW.gN (want_not rfl rfl hc29) rfl ?_
        refine LW.gN (want_not rfl rfl hc29) rfl ?_
        refine LW.gY (want_of rfl rfl hc26) ?_
        refine LW.u (Pur.pickT rfl hc29) rfl ?_
        refine LW.gY (want_of rfl rfl rfl) ?_
        refine LW.u (Pur.pickT rfl hc26) rfl ?_
        refine LW.u (Pur.pickF rfl rfl) rfl ?_
        refine LW.nil ?_
        replace h := Option.some.inj h
        subst h
        exact ⟨⟨rfl, rfl, trivial⟩, hS10.pick [0] rfl rfl⟩
      replace h := bcF h hc29
      refine LW.gY (want_of rfl rfl hc29) ?_
      refine LW.u (Pur.fa fo69_3 rfl) rfl ?_
      refine LW.gY (want_of rfl rfl hc29) ?_
      refine LW.ldb hS10 0 rfl ag24 rfl rfl rfl ?_
      refine LW.gY (want_of rfl rfl hc29) ?_
      refine LW.u (Pur.len Try.underlying24 rfl) rfl ?_
      refine LW.gY (want_of rfl rfl hc29) ?_
      refine LW.p rfl rfl ?_
      refine LW.gY (want_of rfl rfl hc26) ?_
      refine LW.u (Pur.pickF rfl hc29) rfl ?_
      refine LW.gY (want_of rfl rfl rfl) ?_
      refine LW.u (Pur.pickT rfl hc26) rfl ?_
      refine LW.u (Pur.pickF rfl rfl) rfl ?_
      refine LW.nil ?_
      replace h := Option.some.inj h
      subst h
      exact ⟨⟨rfl, rfl, trivial⟩, hS10.pick [0] rfl rfl⟩
    replace h := bcF h hc26
    refine LW.gN (want_not rfl rfl hc26) rfl ?_
    refine LW.gN (want_not rfl rfl hc26) rfl ?_
    refine LW.gN (want_not rfl rfl hc26) rfl ?_
    refine LW.gN (want_not rfl rfl hc26) rfl ?_
    refine LW.fresh (l := [(3, .pointer (some ⟨g3, 0, none⟩)), (31, .bool false), (35, .bool (x0.gc.phase == 1)), (39, undef)]) ⟨rfl, rfl, rfl, rfl, trivial⟩ (fun e => ?_)
    refine LW.gN (want_not rfl rfl hc26) rfl ?_
    refine LW.gN (want_undef rfl rfl) rfl ?_
    refine LW.gN (want_undef rfl rfl) rfl ?_
    refine LW.gN (want_undef rfl rfl) rfl ?_
    refine LW.gN (want_undef rfl rfl) rfl ?_
    refine LW.gN (want_not rfl rfl hc26) rfl ?_
    refine LW.gY (want_of rfl rfl rfl) ?_
    refine LW.u (Pur.pickF rfl hc26) rfl ?_
    refine LW.u (Pur.pickF rfl rfl) rfl ?_
    refine LW.nil ?_
    replace h := Option.some.inj h
    subst h
    exact ⟨⟨rfl, rfl, trivial⟩, hS8.pick [0] rfl rfl⟩
  intro e w30 hM
  obtain ⟨hE, hS11⟩ := hM
  obtain ⟨e, rfl⟩ := hE.out
  have h := h19
  show CW _ _ _ _ _ _
  refine CW.cond rfl (fun hc31 => ?_) (fun hc31 => ?_)
  · replace h := bcT h hc31
    refine CW.seq ?_
    refine CW.region ?_
    refine LW.p rfl rfl ?_
    refine LW.nil ?_
    show CW _ _ _ _ _ _
    refine CW.ret ?_
    cases h
    exact And.intro trivial ⟨_, Res.one (resOne.t rfl), rfl, hS11.pick [] rfl rfl⟩
  replace h := bcF h hc31
  refine CW.skip ?_
  show CW _ _ _ _ _ _
  refine CW.seq ?_
  refine CW.seq ?_
  refine CW.region ?_
  refine LW.p rfl rfl ?_
  refine LW.nil ?_
  show CW _ _ _ _ _ _
  refine CW.block ?_
  obtain ⟨o60, ho60, h61⟩ := obind h
  refine CW.mono (CW.iter (σ := Int) (ρ := Int ⊕ Bool) (fun s32 e wb => En e [(3, .pointer (some ⟨g3, 0, none⟩)), (4, .int .i64 s32)] ∧ St w0 [] wb [bx g3 69 [.int .i64 x0.gc.phase, .int .i64 x0.gc.pos, .int .i64 x0.gc.round, .slice a0_4 x0.gc.grey.length c0_4]]) (fun o x e wb => match o with | .inl s32 => x = .exit 0 ∧ En e [] ∧ St w0 [] wb [bx g3 69 [.int .i64 x0.gc.phase, .int .i64 x0.gc.pos, .int .i64 x0.gc.round, .slice a0_4 x0.gc.grey.length c0_4]] | .inr r => x = .ret ∧ ∃ u, u = r ∧ ∃ v, Res Try.prog Try.f145.results e wb v ∧ v = .bool u ∧ St w0 [] wb []) ?_ N 0 _ _ _ ⟨⟨rfl, rfl, trivial⟩, hS11.pick [0] rfl rfl⟩ ho60) ?_
  · intro s32 e w33 o hM h
    obtain ⟨hE, hS12⟩ := hM
    obtain ⟨e, rfl⟩ := hE.out
    refine CW.seq ?_
    refine CW.seq ?_
    refine CW.region ?_
    refine LW.p rfl rfl ?_
    refine LW.u (Pur.fa fo69_3 rfl) rfl ?_
    refine LW.ldb hS12 0 rfl ag24 rfl rfl rfl ?_
    refine LW.u (Pur.len Try.underlying24 rfl) rfl ?_
    refine LW.p rfl rfl ?_
    refine LW.nil ?_
    show CW _ _ _ _ _ _
    refine CW.cond rfl (fun hc34 => ?_) (fun hc34 => ?_)
    · replace h := bcT h hc34
      refine CW.skip ?_
      show CW _ _ _ _ _ _
      refine CW.seq ?_
      refine CW.block ?_
      refine CW.seq ?_
      obtain ⟨j35, hj35, h36⟩ := obind h
      refine CW.cut (fun e wb => En e [(3, .pointer (some ⟨g3, 0, none⟩)), (4, .int .i64 s32), (73, .bool j35)] ∧ St w0 [] wb [bx g3 69 [.int .i64 x0.gc.phase, .int .i64 x0.gc.pos, .int .i64 x0.gc.round, .slice a0_4 x0.gc.grey.length c0_4]]) ?_ ?_
      · have h := hj35
        refine CW.draw (by kernel_rfl) ?_
        have hS13 := hS12.drew
        refine AW.u (i := 0) rfl (by kernel_rfl) rfl rfl (Pur.fa fo69_3 rfl) ?_
        refine AW.take (i := 1) rfl (by kernel_rfl) rfl rfl (Ldr.box (bt := 69) (fr := (0, 0)) (cs := [.int .i64 x0.gc.phase, .int .i64 x0.gc.pos, .int .i64 x0.gc.round, .slice a0_4 x0.gc.grey.length c0_4]) ag24 rfl rfl) (St.cell (h := hS13) (i := 0) rfl) ?_
        refine AW.u (i := 2) rfl (by kernel_rfl) rfl rfl (Pur.p rfl) ?_
        replace h := obind h
        obtain ⟨y37, hy37, h⟩ := h
        obtain ⟨b40, o41, cs42, hae, hb45, hp38, hq39, hd43, hk44⟩ := hr0_4.idx hy37
        subst hae
        obtain rfl := hd43
        refine AW.u (i := 3) rfl (by kernel_rfl) rfl rfl (Pur.ix Try.underlying24 sz3 rfl rfl hp38 hq39) ?_
        refine AW.take (i := 4) rfl (by kernel_rfl) rfl rfl (Ldr.old w0 ag3 rfl (hk44 0 _ rfl)) (hS13.same _ hb45.1 hb45.2) ?_
        replace h := obind h
        obtain ⟨y46, hy46, h⟩ := h
        have q := W_s_l8Slot (w0 := w33.drew) hy46
        refine AW.one (i := 5) (by kernel_rfl) ?_
        refine ⟨_, rfl, ?_⟩
        refine LW.call pl146 rfl rfl ?_
        refine Ret.mono q ?_
        rintro _ w47 ⟨rfl, hs⟩
        have hS14 := hS13.add hs
        refine LW.nil ⟨rfl, (.w (by kernel_rfl) (.c (St.cell (h := hS14) (i := 0) rfl) Kept.n)), ?_⟩
        refine AW.u (i := 6) rfl (by kernel_rfl) rfl rfl (Pur.p rfl) ?_
        refine AW.u (i := 7) rfl (by kernel_rfl) rfl rfl (Pur.p rfl) ?_
        rcases bcases (!y46) with hc48 | hc48
        · replace h := bcT h hc48
          refine AW.no (i := 8) rfl (by kernel_rfl) (want_not rfl rfl hc48) rfl ?_
          refine AW.no (i := 9) rfl (by kernel_rfl) (want_not rfl rfl hc48) rfl ?_
          refine AW.no (i := 10) rfl (by kernel_rfl) (want_not rfl rfl hc48) rfl ?_
          refine AW.no (i := 11) rfl (by kernel_rfl) (want_not rfl rfl hc48) rfl ?_
          refine AW.no (i := 12) rfl (by kernel_rfl) (want_not rfl rfl hc48) rfl ?_
          refine AW.no (i := 13) rfl (by kernel_rfl) (want_not rfl rfl hc48) rfl ?_
          refine AW.no (i := 14) rfl (by kernel_rfl) (want_not rfl rfl hc48) rfl ?_
          refine AW.no (i := 15) rfl (by kernel_rfl) (want_not rfl rfl hc48) rfl ?_
          refine AW.no (i := 16) rfl (by kernel_rfl) (want_not rfl rfl hc48) rfl ?_
          refine AW.no (i := 17) rfl (by kernel_rfl) (want_not rfl rfl hc48) rfl ?_
          refine AW.u (i := 18) rfl (by kernel_rfl) rfl rfl (Pur.pickT rfl hc48) ?_
          refine AW.done (by kernel_rfl) ?_
          replace h := Option.some.inj h
          subst h
          exact ⟨⟨rfl, rfl, rfl, trivial⟩, hS14.pick [0] rfl rfl⟩
        replace h := bcF h hc48
        refine AW.u (i := 8) rfl (by kernel_rfl) (want_of rfl rfl hc48) rfl (Pur.fa fo69_3 rfl) ?_
        refine AW.take (i := 9) rfl (by kernel_rfl) (want_of rfl rfl hc48) rfl (Ldr.box (bt := 69) (fr := (0, 0)) (cs := [.int .i64 x0.gc.phase, .int .i64 x0.gc.pos, .int .i64 x0.gc.round, .slice (some ⟨b40, o41, none⟩) x0.gc.grey.length c0_4]) ag24 rfl rfl) (St.cell (h := hS14) (i := 0) rfl) ?_
        refine AW.u (i := 10) rfl (by kernel_rfl) (want_of rfl rfl hc48) rfl (Pur.p rfl) ?_
        replace h := obind h
        obtain ⟨y49, hy49, h⟩ := h
        obtain ⟨a50, c51, he52, he53, hr54⟩ := rdS.sub' hr0_4 hy49
        have hle55 := (hr0_4).le
        refine AW.u (i := 11) rfl (by kernel_rfl) (want_of rfl rfl hc48) rfl (Pur.sub (α := Int) (l := x0.gc.grey) Try.underlying24 sz3 rfl bndN (bndS rfl) hy49 hle55 he52 he53) ?_
        refine AW.u (i := 12) rfl (by kernel_rfl) (want_of rfl rfl hc48) rfl (Pur.fa fo69_3 rfl) ?_
        refine AW.take (i := 13) rfl (by kernel_rfl) (want_of rfl rfl hc48) rfl (Ldr.box (bt := 69) (fr := (0, 0)) (cs := [.int .i64 x0.gc.phase, .int .i64 x0.gc.pos, .int .i64 x0.gc.round, .slice (some ⟨b40, o41, none⟩) x0.gc.grey.length c0_4]) ag24 rfl rfl) (St.cell (h := hS14) (i := 0) rfl) ?_
        refine AW.u (i := 14) rfl (by kernel_rfl) (want_of rfl rfl hc48) rfl (Pur.p rfl) ?_
        refine AW.u (i := 15) rfl (by kernel_rfl) (want_of rfl rfl hc48) rfl (Pur.ix Try.underlying24 sz3 rfl rfl hp38 hq39) ?_
        refine AW.take (i := 16) rfl (by kernel_rfl) (want_of rfl rfl hc48) rfl (Ldr.old w0 ag3 rfl (hk44 0 _ rfl)) (hS14.same _ hb45.1 hb45.2) ?_
        replace h := obind h
        obtain ⟨y56, hy56, h⟩ := h
        have q := W_s_l4Has (w0 := w47) hy56 rfl (hS14.rB hr54)
        refine AW.one (i := 17) (by kernel_rfl) ?_
        refine ⟨_, rfl, ?_⟩
        refine LW.gY (want_of rfl rfl hc48) ?_
        refine LW.call pl70 rfl rfl ?_
        refine Ret.mono q ?_
        rintro _ w57 ⟨rfl, hs⟩
        have hS15 := hS14.add hs
        refine LW.nil ⟨rfl, (.w (by kernel_rfl) (.c (St.cell (h := hS15) (i := 0) rfl) (.c (St.cell (h := hS15) (i := 0) rfl) (.c (hS15.same _ hb45.1 hb45.2) (.c (St.cell (h := hS15) (i := 0) rfl) Kept.n))))), ?_⟩
        refine AW.u (i := 18) rfl (by kernel_rfl) rfl rfl (Pur.pickF rfl hc48) ?_
        refine AW.done (by kernel_rfl) ?_
        replace h := Option.some.inj h
        subst h
        exact ⟨⟨rfl, rfl, rfl, trivial⟩, hS15.pick [0] rfl rfl⟩
      intro e w58 hM
      obtain ⟨hE, hS16⟩ := hM
      obtain ⟨e, rfl⟩ := hE.out
      have h := h36
      show CW _ _ _ _ _ _
      refine CW.cond rfl (fun hc59 => ?_) (fun hc59 => ?_)
      · replace h := bcT h hc59
        refine CW.seq ?_
        refine CW.region ?_
        refine LW.p rfl rfl ?_
        refine LW.nil ?_
        show CW _ _ _ _ _ _
        refine CW.fresh (l := [(2, .bool false)]) ⟨rfl, trivial⟩ (fun e => ?_)
        refine CW.ret ?_
        replace h := Option.some.inj h
        subst h
        exact ⟨trivial, rfl, _, rfl, ⟨_, Res.one (resOne.t rfl), rfl, hS16.pick [] rfl rfl⟩⟩
      replace h := bcF h hc59
      refine CW.skip ?_
      show CW _ _ _ _ _ _
      refine CW.region ?_
      iterate 3 refine LW.p rfl rfl ?_
      refine LW.nil ?_
      replace h := Option.some.inj h
      subst h
      exact ⟨rfl, ⟨⟨rfl, rfl, trivial⟩, hS16.pick [0] rfl rfl⟩⟩
    replace h := bcF h hc34
    refine CW.exit ?_
    replace h := Option.some.inj h
    subst h
    exact ⟨trivial, rfl, ⟨trivial, hS12.pick [0] rfl rfl⟩⟩
  intro x e w62 hM
  rcases o60 with o60 | r63
  · obtain ⟨rfl, hM⟩ := hM
    obtain ⟨hE, hS17⟩ := hM
    obtain ⟨e, rfl⟩ := hE.out
    have h := h61
    show CW _ _ _ _ _ _
    refine CW.seq ?_
    refine CW.region ?_
    refine LW.p rfl rfl ?_
    refine LW.nil ?_
    show CW _ _ _ _ _ _
    refine CW.ret ?_
    cases h
    exact And.intro trivial ⟨_, Res.one (resOne.t rfl), rfl, hS17.pick [] rfl rfl⟩
  obtain ⟨rfl, u, rfl, hM⟩ := hM
  cases h61
  exact And.intro trivial hM

theorem W_i_isPlace {w0 : World} {N : Nat} {x0 : Int} {r : Bool} (h : F_i_isPlace N x0 = some r) :
    Ret Try.prog 185 #[.int .i64 x0] w0 (fun v w => v = .bool r ∧ St w0 [] w []) := by
  unfold F_i_isPlace at h
  refine Ret.of Try.func185 rfl rfl rfl ?_
  have hS1 := St.start w0
  refine CW.seq ?_
  refine CW.region ?_
  refine LW.p rfl rfl ?_
  refine LW.nil ?_
  show CW _ _ _ _ _ _
  refine CW.seq ?_
  refine CW.region ?_
  refine LW.p rfl rfl ?_
  replace h := obind h
  obtain ⟨y1, hy1, h⟩ := h
  have q := W_i_within (w0 := w0) hy1
  refine LW.call pl86 rfl rfl ?_
  refine Ret.mono q ?_
  rintro _ w2 ⟨rfl, hs⟩
  have hS2 := hS1.add hs
  refine LW.p rfl rfl ?_
  refine LW.nil ?_
  show CW _ _ _ _ _ _
  refine CW.ret ?_
  cases h
  exact And.intro trivial ⟨_, Res.one (resOne.t rfl), rfl, hS2.pick [] rfl rfl⟩

theorem W_i_isAmount {w0 : World} {N : Nat} {x0 : Int} {r : Bool} (h : F_i_isAmount N x0 = some r) :
    Ret Try.prog 156 #[.int .i64 x0] w0 (fun v w => v = .bool r ∧ St w0 [] w []) := by
  unfold F_i_isAmount at h
  refine Ret.of Try.func156 rfl rfl rfl ?_
  have hS1 := St.start w0
  refine CW.seq ?_
  refine CW.region ?_
  refine LW.p rfl rfl ?_
  refine LW.nil ?_
  show CW _ _ _ _ _ _
  refine CW.seq ?_
  refine CW.region ?_
  refine LW.p rfl rfl ?_
  replace h := obind h
  obtain ⟨y1, hy1, h⟩ := h
  have q := W_i_within (w0 := w0) hy1
  refine LW.call pl86 rfl rfl ?_
  refine Ret.mono q ?_
  rintro _ w2 ⟨rfl, hs⟩
  have hS2 := hS1.add hs
  refine LW.p rfl rfl ?_
  refine LW.nil ?_
  show CW _ _ _ _ _ _
  refine CW.ret ?_
  cases h
  exact And.intro trivial ⟨_, Res.one (resOne.t rfl), rfl, hS2.pick [] rfl rfl⟩

theorem W_i_AmtOk {w0 : World} {N : Nat} {x0 : DAmt} {r : Bool} (h : F_i_AmtOk N x0 = some r) :
    Ret Try.prog 90 #[.agg #[.int .i64 x0.pages, .int .i64 x0.rent, .int .i64 x0.cpu]] w0 (fun v w => v = .bool r ∧ St w0 [] w []) := by
  unfold F_i_AmtOk at h
  refine Ret.of Try.func90 rfl rfl rfl ?_
  have hS1 := St.start w0
  refine CW.seq ?_
  refine CW.region ?_
  refine LW.box (cs := [.int .i64 x0.pages, .int .i64 x0.rent, .int .i64 x0.cpu]) rfl hS1 rfl ?_
  intro g1 w2 hS2 hf
  refine LW.p rfl rfl ?_
  refine LW.nil ?_
  show CW _ _ _ _ _ _
  refine CW.seq ?_
  refine CW.region ?_
  refine LW.u (Pur.fa fo73_0 rfl) rfl ?_
  refine LW.ldb hS2 0 rfl ag3 rfl rfl rfl ?_
  replace h := obind h
  obtain ⟨y3, hy3, h⟩ := h
  have q := W_i_isAmount (w0 := w2) hy3
  refine LW.call pl156 rfl rfl ?_
  refine Ret.mono q ?_
  rintro _ w4 ⟨rfl, hs⟩
  have hS3 := hS2.add hs
  refine LW.p rfl rfl ?_
  rcases bcases y3 with hc5 | hc5
  · replace h := bcT h hc5
    refine LW.gY (want_of rfl rfl hc5) ?_
    refine LW.u (Pur.fa fo73_1 rfl) rfl ?_
    refine LW.gY (want_of rfl rfl hc5) ?_
    refine LW.ldb hS3 0 rfl ag3 rfl rfl rfl ?_
    replace h := obind h
    obtain ⟨y6, hy6, h⟩ := h
    have q := W_i_isAmount (w0 := w4) hy6
    refine LW.gY (want_of rfl rfl hc5) ?_
    refine LW.call pl156 rfl rfl ?_
    refine Ret.mono q ?_
    rintro _ w7 ⟨rfl, hs⟩
    have hS4 := hS3.add hs
    refine LW.u (Pur.pickT rfl hc5) rfl ?_
    refine LW.p rfl rfl ?_
    rcases bcases y6 with hc8 | hc8
    · replace h := bcT h hc8
      refine LW.gY (want_of rfl rfl hc8) ?_
      refine LW.u (Pur.fa fo73_2 rfl) rfl ?_
      refine LW.gY (want_of rfl rfl hc8) ?_
      refine LW.ldb hS4 0 rfl ag3 rfl rfl rfl ?_
      replace h := obind h
      obtain ⟨y9, hy9, h⟩ := h
      have q := W_i_isAmount (w0 := w7) hy9
      refine LW.gY (want_of rfl rfl hc8) ?_
      refine LW.call pl156 rfl rfl ?_
      refine Ret.mono q ?_
      rintro _ w10 ⟨rfl, hs⟩
      have hS5 := hS4.add hs
      refine LW.u (Pur.pickT rfl hc8) rfl ?_
      refine LW.p rfl rfl ?_
      refine LW.nil ?_
      show CW _ _ _ _ _ _
      refine CW.fresh (l := [(2, .bool y9)]) ⟨rfl, trivial⟩ (fun e => ?_)
      refine CW.ret ?_
      cases h
      exact And.intro trivial ⟨_, Res.one (resOne.t rfl), rfl, hS5.pick [] rfl rfl⟩
    replace h := bcF h hc8
    refine LW.gN (want_not rfl rfl hc8) rfl ?_
    refine LW.gN (want_not rfl rfl hc8) rfl ?_
    refine LW.gN (want_not rfl rfl hc8) rfl ?_
    refine LW.u (Pur.pickF rfl hc8) rfl ?_
    refine LW.p rfl rfl ?_
    refine LW.nil ?_
    show CW _ _ _ _ _ _
    refine CW.fresh (l := [(2, .bool false)]) ⟨rfl, trivial⟩ (fun e => ?_)
    refine CW.ret ?_
    cases h
    exact And.intro trivial ⟨_, Res.one (resOne.t rfl), rfl, hS4.pick [] rfl rfl⟩
  replace h := bcF h hc5
  refine LW.gN (want_not rfl rfl hc5) rfl ?_
  refine LW.gN (want_not rfl rfl hc5) rfl ?_
  refine LW.gN (want_not rfl rfl hc5) rfl ?_
  refine LW.u (Pur.pickF rfl hc5) rfl ?_
  refine LW.p rfl rfl ?_
  refine LW.gN (want_not rfl rfl rfl) rfl ?_
  refine LW.gN (want_not rfl rfl rfl) rfl ?_
  refine LW.gN (want_not rfl rfl rfl) rfl ?_
  refine LW.u (Pur.pickF rfl rfl) rfl ?_
  refine LW.p rfl rfl ?_
  refine LW.nil ?_
  show CW _ _ _ _ _ _
  refine CW.fresh (l := [(2, .bool false)]) ⟨rfl, trivial⟩ (fun e => ?_)
  refine CW.ret ?_
  cases h
  exact And.intro trivial ⟨_, Res.one (resOne.t rfl), rfl, hS3.pick [] rfl rfl⟩

theorem W_i_isLive {w0 : World} {N : Nat} {x0 : List DRes} {x1 : Int} {r : Bool} (h : F_i_isLive N x0 x1 = some r) {a0_0 : Option Addr} {n0_0 c0_0 : Nat} (hn0_0 : n0_0 = x0.length) (hr0_0 : rdS (Bor w0 []) w0 a0_0 c0_0 x0) :
    Ret Try.prog 197 #[.slice a0_0 n0_0 c0_0, .int .i64 x1] w0 (fun v w => v = .bool r ∧ St w0 [] w []) := by
  subst hn0_0
  unfold F_i_isLive at h
  refine Ret.of Try.func197 rfl rfl rfl ?_
  have hS1 := St.start w0
  refine CW.seq ?_
  refine CW.region ?_
  refine LW.p rfl rfl ?_
  refine LW.nil ?_
  show CW _ _ _ _ _ _
  refine CW.seq ?_
  refine CW.region ?_
  refine LW.p rfl rfl ?_
  replace h := obind h
  obtain ⟨y1, hy1, h⟩ := h
  have q := W_i_isPlace (w0 := w0) hy1
  refine LW.call pl185 rfl rfl ?_
  refine Ret.mono q ?_
  rintro _ w2 ⟨rfl, hs⟩
  have hS2 := hS1.add hs
  refine LW.p rfl rfl ?_
  rcases bcases y1 with hc3 | hc3
  · replace h := bcT h hc3
    refine LW.gY (want_of rfl rfl hc3) ?_
    refine LW.p rfl rfl ?_
    refine LW.gY (want_of rfl rfl hc3) ?_
    refine LW.p rfl rfl ?_
    replace h := obind h
    obtain ⟨y4, hy4, h⟩ := h
    obtain ⟨b7, o8, cs9, hae, hb12, hp5, hq6, hd10, hk11⟩ := hr0_0.idx hy4
    subst hae
    obtain rfl := hd10
    refine LW.gY (want_of rfl rfl hc3) ?_
    refine LW.u (Pur.ix Try.underlying67 sz156 rfl rfl hp5 hq6) rfl ?_
    refine LW.gY (want_of rfl rfl hc3) ?_
    refine LW.u (Pur.fa fo156_0 rfl) rfl ?_
    refine LW.gY (want_of rfl rfl hc3) ?_
    refine LW.l (Ldr.old w0 ag4 rfl (hk11 0 _ rfl)) (hS2.same _ hb12.1 hb12.2) rfl ?_
    refine LW.u (Pur.pickT rfl hc3) rfl ?_
    refine LW.p rfl rfl ?_
    refine LW.nil ?_
    show CW _ _ _ _ _ _
    refine CW.fresh (l := [(4, .bool y4.live)]) ⟨rfl, trivial⟩ (fun e => ?_)
    refine CW.ret ?_
    cases h
    exact And.intro trivial ⟨_, Res.one (resOne.t rfl), rfl, hS2.pick [] rfl rfl⟩
  replace h := bcF h hc3
  refine LW.gN (want_not rfl rfl hc3) rfl ?_
  refine LW.gN (want_not rfl rfl hc3) rfl ?_
  refine LW.gN (want_not rfl rfl hc3) rfl ?_
  refine LW.gN (want_not rfl rfl hc3) rfl ?_
  refine LW.gN (want_not rfl rfl hc3) rfl ?_
  refine LW.u (Pur.pickF rfl hc3) rfl ?_
  refine LW.p rfl rfl ?_
  refine LW.nil ?_
  show CW _ _ _ _ _ _
  refine CW.ret ?_
  cases h
  exact And.intro trivial ⟨_, Res.one (resOne.t rfl), rfl, hS2.pick [] rfl rfl⟩

theorem W_i_leadsUp {w0 : World} {N : Nat} {x0 : List DRes} {x1 : Int} {r : Bool} (h : F_i_leadsUp N x0 x1 = some r) {a0_0 : Option Addr} {n0_0 c0_0 : Nat} (hn0_0 : n0_0 = x0.length) (hr0_0 : rdS (Bor w0 []) w0 a0_0 c0_0 x0) :
    Ret Try.prog 187 #[.slice a0_0 n0_0 c0_0, .int .i64 x1] w0 (fun v w => v = .bool r ∧ St w0 [] w []) := by
  subst hn0_0
  unfold F_i_leadsUp at h
  refine Ret.of Try.func187 rfl rfl rfl ?_
  have hS1 := St.start w0
  refine CW.seq ?_
  refine CW.region ?_
  refine LW.p rfl rfl ?_
  refine LW.nil ?_
  show CW _ _ _ _ _ _
  refine CW.seq ?_
  refine CW.seq ?_
  refine CW.region ?_
  refine LW.p rfl rfl ?_
  refine LW.nil ?_
  show CW _ _ _ _ _ _
  refine CW.block ?_
  obtain ⟨o17, ho17, h18⟩ := obind h
  refine CW.mono (CW.iter (σ := Int × Int) (ρ := (Int × Int) ⊕ Bool) (fun s1 e wb => En e [(0, .slice a0_0 x0.length c0_0), (1, .int .i64 s1.1), (5, .int .i64 s1.2)] ∧ St w0 [] wb []) (fun o x e wb => match o with | .inl s1 => x = .exit 0 ∧ En e [] ∧ St w0 [] wb [] | .inr r => x = .ret ∧ ∃ u, u = r ∧ ∃ v, Res Try.prog Try.f187.results e wb v ∧ v = .bool u ∧ St w0 [] wb []) ?_ N (x1, 0) _ _ _ ⟨⟨rfl, rfl, rfl, trivial⟩, hS1.pick [] rfl rfl⟩ ho17) ?_
  · intro s1 e w2 o hM h
    obtain ⟨hE, hS2⟩ := hM
    obtain ⟨e, rfl⟩ := hE.out
    refine CW.seq ?_
    refine CW.region ?_
    refine LW.p rfl rfl ?_
    refine LW.nil ?_
    show CW _ _ _ _ _ _
    refine CW.seq ?_
    refine CW.cond rfl (fun hc3 => ?_) (fun hc3 => ?_)
    · replace h := bcT h hc3
      refine CW.skip ?_
      show CW _ _ _ _ _ _
      refine CW.seq ?_
      refine CW.block ?_
      refine CW.seq ?_
      refine CW.seq ?_
      refine CW.region ?_
      iterate 2 refine LW.p rfl rfl ?_
      refine LW.nil ?_
      show CW _ _ _ _ _ _
      refine CW.cond rfl (fun hc4 => ?_) (fun hc4 => ?_)
      · replace h := bcT h hc4
        refine CW.seq ?_
        refine CW.region ?_
        refine LW.p rfl rfl ?_
        refine LW.nil ?_
        show CW _ _ _ _ _ _
        refine CW.ret ?_
        replace h := Option.some.inj h
        subst h
        exact ⟨trivial, rfl, _, rfl, ⟨_, Res.one (resOne.t rfl), rfl, hS2.pick [] rfl rfl⟩⟩
      replace h := bcF h hc4
      refine CW.skip ?_
      show CW _ _ _ _ _ _
      refine CW.seq ?_
      refine CW.seq ?_
      refine CW.region ?_
      iterate 2 refine LW.p rfl rfl ?_
      replace h := obind h
      obtain ⟨y5, hy5, h⟩ := h
      have q := W_i_isLive (w0 := w2) hy5 rfl (hS2.rB hr0_0)
      refine LW.call pl197 rfl rfl ?_
      refine Ret.mono q ?_
      rintro _ w6 ⟨rfl, hs⟩
      have hS3 := hS2.add hs
      refine LW.p rfl rfl ?_
      refine LW.nil ?_
      show CW _ _ _ _ _ _
      refine CW.cond rfl (fun hc7 => ?_) (fun hc7 => ?_)
      · replace h := bcT h hc7
        refine CW.seq ?_
        refine CW.region ?_
        refine LW.p rfl rfl ?_
        refine LW.nil ?_
        show CW _ _ _ _ _ _
        refine CW.ret ?_
        replace h := Option.some.inj h
        subst h
        exact ⟨trivial, rfl, _, rfl, ⟨_, Res.one (resOne.t rfl), rfl, hS3.pick [] rfl rfl⟩⟩
      replace h := bcF h hc7
      refine CW.skip ?_
      show CW _ _ _ _ _ _
      refine CW.region ?_
      iterate 2 refine LW.p rfl rfl ?_
      replace h := obind h
      obtain ⟨y8, hy8, h⟩ := h
      obtain ⟨b11, o12, cs13, hae, hb16, hp9, hq10, hd14, hk15⟩ := hr0_0.idx hy8
      subst hae
      obtain rfl := hd14
      refine LW.u (Pur.ix Try.underlying67 sz156 rfl rfl hp9 hq10) rfl ?_
      refine LW.u (Pur.fa fo156_1 rfl) rfl ?_
      refine LW.l (Ldr.old w0 ag3 rfl (hk15 1 _ rfl)) (hS3.same _ hb16.1 hb16.2) rfl ?_
      refine LW.p rfl rfl ?_
      refine LW.nil ?_
      show CW _ _ _ _ _ _
      refine CW.fresh (l := [(0, .slice (some ⟨b11, o12, none⟩) x0.length c0_0), (1, .int .i64 y8.parent), (5, .int .i64 s1.2)]) ⟨rfl, rfl, rfl, trivial⟩ (fun e => ?_)
      refine CW.region ?_
      iterate 2 refine LW.p rfl rfl ?_
      refine LW.nil ?_
      replace h := Option.some.inj h
      subst h
      exact ⟨rfl, ⟨⟨rfl, rfl, rfl, trivial⟩, hS3.pick [] rfl rfl⟩⟩
    replace h := bcF h hc3
    refine CW.exit ?_
    replace h := Option.some.inj h
    subst h
    exact ⟨trivial, rfl, ⟨trivial, hS2.pick [] rfl rfl⟩⟩
  intro x e w19 hM
  rcases o17 with o17 | r20
  · obtain ⟨rfl, hM⟩ := hM
    obtain ⟨hE, hS4⟩ := hM
    obtain ⟨e, rfl⟩ := hE.out
    have h := h18
    show CW _ _ _ _ _ _
    refine CW.seq ?_
    refine CW.region ?_
    refine LW.p rfl rfl ?_
    refine LW.nil ?_
    show CW _ _ _ _ _ _
    refine CW.ret ?_
    cases h
    exact And.intro trivial ⟨_, Res.one (resOne.t rfl), rfl, hS4.pick [] rfl rfl⟩
  obtain ⟨rfl, u, rfl, hM⟩ := hM
  cases h18
  exact And.intro trivial hM

theorem W_i_sumOf {w0 : World} {N : Nat} {x0 : DAmt} {x1 : DAmt} {r : DAmt} (h : F_i_sumOf N x0 x1 = some r) :
    Ret Try.prog 88 #[.agg #[.int .i64 x0.pages, .int .i64 x0.rent, .int .i64 x0.cpu], .agg #[.int .i64 x1.pages, .int .i64 x1.rent, .int .i64 x1.cpu]] w0 (fun v w => v = .agg #[.int .i64 r.pages, .int .i64 r.rent, .int .i64 r.cpu] ∧ St w0 [] w []) := by
  unfold F_i_sumOf at h
  refine Ret.of Try.func88 rfl rfl rfl ?_
  have hS1 := St.start w0
  refine CW.seq ?_
  refine CW.region ?_
  refine LW.box (cs := [.int .i64 x0.pages, .int .i64 x0.rent, .int .i64 x0.cpu]) rfl hS1 rfl ?_
  intro g1 w2 hS2 hf
  refine LW.box (cs := [.int .i64 x1.pages, .int .i64 x1.rent, .int .i64 x1.cpu]) rfl hS2 rfl ?_
  intro g3 w4 hS3 hf
  refine LW.alloc zv73 hS3 rfl ?_
  intro g5 w6 hS4 hf
  refine LW.nil ?_
  show CW _ _ _ _ _ _
  refine CW.seq ?_
  refine CW.region ?_
  refine LW.u (Pur.fa fo73_0 rfl) rfl ?_
  refine LW.ldb hS4 2 rfl ag3 rfl rfl rfl ?_
  refine LW.u (Pur.fa fo73_0 rfl) rfl ?_
  refine LW.ldb hS4 1 rfl ag3 rfl rfl rfl ?_
  refine LW.p rfl rfl ?_
  refine LW.u (Pur.fa fo73_1 rfl) rfl ?_
  refine LW.ldb hS4 2 rfl ag3 rfl rfl rfl ?_
  refine LW.u (Pur.fa fo73_1 rfl) rfl ?_
  refine LW.ldb hS4 1 rfl ag3 rfl rfl rfl ?_
  refine LW.p rfl rfl ?_
  refine LW.u (Pur.fa fo73_2 rfl) rfl ?_
  refine LW.ldb hS4 2 rfl ag3 rfl rfl rfl ?_
  refine LW.u (Pur.fa fo73_2 rfl) rfl ?_
  refine LW.ldb hS4 1 rfl ag3 rfl rfl rfl ?_
  refine LW.p rfl rfl ?_
  refine LW.u (Pur.build (vs := [(0, .int .i64 (IntKind.i64.wrap (x0.pages + x1.pages))), (1, .int .i64 (IntKind.i64.wrap (x0.rent + x1.rent))), (2, .int .i64 (IntKind.i64.wrap (x0.cpu + x1.cpu)))]) (cs := #[.int .i64 (IntKind.i64.wrap (x0.pages + x1.pages)), .int .i64 (IntKind.i64.wrap (x0.rent + x1.rent)), .int .i64 (IntKind.i64.wrap (x0.cpu + x1.cpu))]) rfl (by kernel_rfl)) rfl ?_
  refine LW.stb hS4 0 rfl ag73 rfl rfl rfl rfl rfl ?_
  intro w7 hS5 hf
  refine LW.nil ?_
  show CW _ _ _ _ _ _
  refine CW.fresh (l := [(4, .pointer (some ⟨g5, 0, none⟩))]) ⟨rfl, trivial⟩ (fun e => ?_)
  refine CW.ret ?_
  cases h
  exact And.intro trivial ⟨_, Res.one (resOne.b hS5 0 rfl ag73 rfl rfl), rfl, hS5.pick [] rfl rfl⟩

theorem W_i_TreeOk {w0 : World} {N : Nat} {x0 : List DRes} {r : Bool} (h : F_i_TreeOk N x0 = some r) {a0_0 : Option Addr} {n0_0 c0_0 : Nat} (hn0_0 : n0_0 = x0.length) (hr0_0 : rdS (Bor w0 []) w0 a0_0 c0_0 x0) :
    Ret Try.prog 151 #[.slice a0_0 n0_0 c0_0] w0 (fun v w => v = .bool r ∧ St w0 [] w []) := by
  subst hn0_0
  unfold F_i_TreeOk at h
  refine Ret.of Try.func151 rfl rfl rfl ?_
  have hS1 := St.start w0
  refine CW.seq ?_
  refine CW.region ?_
  refine LW.p rfl rfl ?_
  refine LW.nil ?_
  show CW _ _ _ _ _ _
  refine CW.seq ?_
  refine CW.seq ?_
  obtain ⟨j1, hj1, h2⟩ := obind h
  refine CW.cut (fun e wb => En e [(0, .slice a0_0 x0.length c0_0), (22, .bool j1)] ∧ St w0 [] wb []) ?_ ?_
  · have h := hj1
    refine CW.region ?_
    refine LW.p rfl rfl ?_
    refine LW.u (Pur.len Try.underlying67 rfl) rfl ?_
    iterate 2 refine LW.p rfl rfl ?_
    rcases bcases ((x0.length : Int) != 5) with hc3 | hc3
    · replace h := bcT h hc3
      refine LW.gN (want_not rfl rfl hc3) rfl ?_
      refine LW.gN (want_not rfl rfl hc3) rfl ?_
      refine LW.gN (want_not rfl rfl hc3) rfl ?_
      refine LW.gN (want_not rfl rfl hc3) rfl ?_
      refine LW.gN (want_not rfl rfl hc3) rfl ?_
      refine LW.u (Pur.pickT rfl hc3) rfl ?_
      refine LW.p rfl rfl ?_
      refine LW.gN (want_not rfl rfl rfl) rfl ?_
      refine LW.gN (want_not rfl rfl rfl) rfl ?_
      refine LW.gN (want_not rfl rfl rfl) rfl ?_
      refine LW.gN (want_not rfl rfl rfl) rfl ?_
      refine LW.gN (want_not rfl rfl rfl) rfl ?_
      refine LW.u (Pur.pickT rfl rfl) rfl ?_
      refine LW.nil ?_
      replace h := Option.some.inj h
      subst h
      exact ⟨⟨rfl, rfl, trivial⟩, hS1.pick [] rfl rfl⟩
    replace h := bcF h hc3
    refine LW.gY (want_of rfl rfl hc3) ?_
    refine LW.p rfl rfl ?_
    replace h := obind h
    obtain ⟨y4, hy4, h⟩ := h
    obtain ⟨b7, o8, cs9, hae, hb12, hp5, hq6, hd10, hk11⟩ := hr0_0.idx hy4
    subst hae
    obtain rfl := hd10
    refine LW.gY (want_of rfl rfl hc3) ?_
    refine LW.u (Pur.ix Try.underlying67 sz156 rfl rfl hp5 hq6) rfl ?_
    refine LW.gY (want_of rfl rfl hc3) ?_
    refine LW.u (Pur.fa fo156_0 rfl) rfl ?_
    refine LW.gY (want_of rfl rfl hc3) ?_
    refine LW.l (Ldr.old w0 ag4 rfl (hk11 0 _ rfl)) (hS1.same _ hb12.1 hb12.2) rfl ?_
    refine LW.gY (want_of rfl rfl hc3) ?_
    refine LW.p rfl rfl ?_
    refine LW.u (Pur.pickF rfl hc3) rfl ?_
    refine LW.p rfl rfl ?_
    rcases bcases (!y4.live) with hc13 | hc13
    · replace h := bcT h hc13
      refine LW.gN (want_not rfl rfl hc13) rfl ?_
      refine LW.gN (want_not rfl rfl hc13) rfl ?_
      refine LW.gN (want_not rfl rfl hc13) rfl ?_
      refine LW.gN (want_not rfl rfl hc13) rfl ?_
      refine LW.gN (want_not rfl rfl hc13) rfl ?_
      refine LW.u (Pur.pickT rfl hc13) rfl ?_
      refine LW.nil ?_
      replace h := Option.some.inj h
      subst h
      exact ⟨⟨rfl, rfl, trivial⟩, hS1.pick [] rfl rfl⟩
    replace h := bcF h hc13
    refine LW.gY (want_of rfl rfl hc13) ?_
    refine LW.p rfl rfl ?_
    refine LW.gY (want_of rfl rfl hc13) ?_
    refine LW.u (Pur.ix Try.underlying67 sz156 rfl rfl hp5 hq6) rfl ?_
    refine LW.gY (want_of rfl rfl hc13) ?_
    refine LW.u (Pur.fa fo156_1 rfl) rfl ?_
    refine LW.gY (want_of rfl rfl hc13) ?_
    refine LW.l (Ldr.old w0 ag3 rfl (hk11 1 _ rfl)) (hS1.same _ hb12.1 hb12.2) rfl ?_
    refine LW.gY (want_of rfl rfl hc13) ?_
    refine LW.p rfl rfl ?_
    refine LW.u (Pur.pickF rfl hc13) rfl ?_
    refine LW.nil ?_
    replace h := Option.some.inj h
    subst h
    exact ⟨⟨rfl, rfl, trivial⟩, hS1.pick [] rfl rfl⟩
  intro e w14 hM
  obtain ⟨hE, hS2⟩ := hM
  obtain ⟨e, rfl⟩ := hE.out
  have h := h2
  show CW _ _ _ _ _ _
  refine CW.cond rfl (fun hc15 => ?_) (fun hc15 => ?_)
  · replace h := bcT h hc15
    refine CW.seq ?_
    refine CW.region ?_
    refine LW.p rfl rfl ?_
    refine LW.nil ?_
    show CW _ _ _ _ _ _
    refine CW.ret ?_
    cases h
    exact And.intro trivial ⟨_, Res.one (resOne.t rfl), rfl, hS2.pick [] rfl rfl⟩
  replace h := bcF h hc15
  refine CW.skip ?_
  show CW _ _ _ _ _ _
  refine CW.seq ?_
  refine CW.region ?_
  refine LW.u (Pur.build (vs := []) (cs := #[.int .i64 0, .int .i64 0, .int .i64 0]) rfl (by kernel_rfl)) rfl ?_
  refine LW.alloc zv73 hS2 rfl ?_
  intro g16 w17 hS3 hf
  refine LW.stb hS3 0 rfl ag73 rfl rfl rfl rfl rfl ?_
  intro w18 hS4 hf
  refine LW.nil ?_
  show CW _ _ _ _ _ _
  refine CW.seq ?_
  refine CW.seq ?_
  refine CW.region ?_
  refine LW.p rfl rfl ?_
  refine LW.u (Pur.len Try.underlying67 rfl) rfl ?_
  refine LW.p rfl rfl ?_
  refine LW.nil ?_
  show CW _ _ _ _ _ _
  refine CW.block ?_
  obtain ⟨o48, ho48, h49⟩ := obind h
  refine CW.mono (CW.iter (σ := Int × Int × Int × Int) (ρ := (Int × Int × Int × Int) ⊕ Bool) (fun s19 e wb => En e [(0, .slice a0_0 x0.length c0_0), (3, .pointer (some ⟨g16, 0, none⟩)), (24, .slice a0_0 x0.length c0_0), (25, .int .i64 (x0.length : Int)), (26, .int .i64 s19.1)] ∧ St w0 [] wb [bx g16 73 [.int .i64 s19.2.1, .int .i64 s19.2.2.1, .int .i64 s19.2.2.2]]) (fun o x e wb => match o with | .inl s19 => x = .exit 0 ∧ En e [(3, .pointer (some ⟨g16, 0, none⟩))] ∧ St w0 [] wb [bx g16 73 [.int .i64 s19.2.1, .int .i64 s19.2.2.1, .int .i64 s19.2.2.2]] | .inr r => x = .ret ∧ ∃ u, u = r ∧ ∃ v, Res Try.prog Try.f151.results e wb v ∧ v = .bool u ∧ St w0 [] wb []) ?_ N (0, 0, 0, 0) _ _ _ ⟨⟨rfl, rfl, rfl, rfl, rfl, trivial⟩, hS4.pick [0] rfl rfl⟩ ho48) ?_
  · intro s19 e w20 o hM h
    obtain ⟨hE, hS5⟩ := hM
    obtain ⟨e, rfl⟩ := hE.out
    refine CW.seq ?_
    refine CW.region ?_
    refine LW.p rfl rfl ?_
    refine LW.nil ?_
    show CW _ _ _ _ _ _
    refine CW.seq ?_
    refine CW.cond rfl (fun hc21 => ?_) (fun hc21 => ?_)
    · replace h := bcT h hc21
      refine CW.skip ?_
      show CW _ _ _ _ _ _
      refine CW.seq ?_
      refine CW.block ?_
      refine CW.seq ?_
      refine CW.region ?_
      refine LW.p rfl rfl ?_
      replace h := obind h
      obtain ⟨y22, hy22, h⟩ := h
      obtain ⟨b25, o26, cs27, hae, hb30, hp23, hq24, hd28, hk29⟩ := hr0_0.idx hy22
      subst hae
      obtain rfl := hd28
      refine LW.u (Pur.ix Try.underlying67 sz156 rfl rfl hp23 hq24) rfl ?_
      refine LW.l (Ldr.oldN w0 ag156 rfl rfl (fun j u hu => hk29 j u hu)) (hS5.same _ hb30.1 hb30.2) rfl ?_
      refine LW.alloc zv156 hS5 rfl ?_
      intro g31 w32 hS6 hf
      refine LW.p rfl rfl ?_
      refine LW.stb hS6 0 rfl ag156 rfl rfl rfl rfl rfl ?_
      intro w33 hS7 hf
      refine LW.nil ?_
      show CW _ _ _ _ _ _
      refine CW.fresh (l := [(0, .slice (some ⟨b25, o26, none⟩) x0.length c0_0), (3, .pointer (some ⟨g16, 0, none⟩)), (4, .int .i64 s19.1), (5, .pointer (some ⟨g31, 0, none⟩)), (24, .slice (some ⟨b25, o26, none⟩) x0.length c0_0), (25, .int .i64 (x0.length : Int)), (26, .int .i64 s19.1)]) ⟨rfl, rfl, rfl, rfl, rfl, rfl, rfl, trivial⟩ (fun e => ?_)
      refine CW.seq ?_
      refine CW.seq ?_
      refine CW.region ?_
      refine LW.u (Pur.fa fo156_0 rfl) rfl ?_
      refine LW.ldb hS7 0 rfl ag4 rfl rfl rfl ?_
      refine LW.p rfl rfl ?_
      refine LW.nil ?_
      show CW _ _ _ _ _ _
      refine CW.cond rfl (fun hc34 => ?_) (fun hc34 => ?_)
      · replace h := bcT h hc34
        refine CW.seq ?_
        refine CW.seq ?_
        refine CW.region ?_
        refine LW.ldbN hS7 0 rfl ag156 rfl rfl rfl ?_
        refine LW.u (Pur.build (vs := []) (cs := #[.bool false, .int .i64 0, .int .i64 0, .int .i64 0, .int .i64 0]) rfl (by kernel_rfl)) rfl ?_
        refine LW.u (Pur.ane eg156 rfl rfl (fun w => eq156 y22 (DRes.mk false 0 (DAmt.mk 0 0 0)) w)) rfl ?_
        refine LW.nil ?_
        show CW _ _ _ _ _ _
        refine CW.cond rfl (fun hc35 => ?_) (fun hc35 => ?_)
        · replace h := bcT h hc35
          refine CW.seq ?_
          refine CW.region ?_
          refine LW.p rfl rfl ?_
          refine LW.nil ?_
          show CW _ _ _ _ _ _
          refine CW.ret ?_
          replace h := Option.some.inj h
          subst h
          exact ⟨trivial, rfl, _, rfl, ⟨_, Res.one (resOne.t rfl), rfl, hS7.pick [] rfl rfl⟩⟩
        replace h := bcF h hc35
        refine CW.skip ?_
        show CW _ _ _ _ _ _
        refine CW.exit ?_
        show CW _ _ _ _ _ _
        refine CW.region ?_
        iterate 2 refine LW.p rfl rfl ?_
        refine LW.nil ?_
        replace h := Option.some.inj h
        subst h
        exact ⟨rfl, ⟨⟨rfl, rfl, rfl, rfl, rfl, trivial⟩, hS7.pick [1] rfl rfl⟩⟩
      replace h := bcF h hc34
      refine CW.skip ?_
      show CW _ _ _ _ _ _
      refine CW.seq ?_
      refine CW.seq ?_
      obtain ⟨j36, hj36, h37⟩ := obind h
      refine CW.cut (fun e wb => En e [(0, .slice (some ⟨b25, o26, none⟩) x0.length c0_0), (3, .pointer (some ⟨g16, 0, none⟩)), (5, .pointer (some ⟨g31, 0, none⟩)), (24, .slice (some ⟨b25, o26, none⟩) x0.length c0_0), (25, .int .i64 (x0.length : Int)), (26, .int .i64 s19.1), (46, .bool j36)] ∧ St w0 [] wb [bx g31 156 [.bool y22.live, .int .i64 y22.parent, .int .i64 y22.bal.pages, .int .i64 y22.bal.rent, .int .i64 y22.bal.cpu], bx g16 73 [.int .i64 s19.2.1, .int .i64 s19.2.2.1, .int .i64 s19.2.2.2]]) ?_ ?_
      · have h := hj36
        refine CW.region ?_
        refine LW.u (Pur.fa fo156_2 rfl) rfl ?_
        refine LW.ldbN hS7 0 rfl ag73 rfl rfl rfl ?_
        replace h := obind h
        obtain ⟨y38, hy38, h⟩ := h
        have q := W_i_AmtOk (w0 := w33) hy38
        refine LW.call pl90 rfl rfl ?_
        refine Ret.mono q ?_
        rintro _ w39 ⟨rfl, hs⟩
        have hS8 := hS7.add hs
        iterate 2 refine LW.p rfl rfl ?_
        rcases bcases (!y38) with hc40 | hc40
        · replace h := bcT h hc40
          refine LW.gN (want_not rfl rfl hc40) rfl ?_
          refine LW.gN (want_not rfl rfl hc40) rfl ?_
          refine LW.gN (want_not rfl rfl hc40) rfl ?_
          refine LW.gN (want_not rfl rfl hc40) rfl ?_
          refine LW.u (Pur.pickT rfl hc40) rfl ?_
          refine LW.nil ?_
          replace h := Option.some.inj h
          subst h
          exact ⟨⟨rfl, rfl, rfl, rfl, rfl, rfl, rfl, trivial⟩, hS8.pick [0, 1] rfl rfl⟩
        replace h := bcF h hc40
        refine LW.gY (want_of rfl rfl hc40) ?_
        refine LW.p rfl rfl ?_
        refine LW.gY (want_of rfl rfl hc40) ?_
        refine LW.p rfl rfl ?_
        replace h := obind h
        obtain ⟨y41, hy41, h⟩ := h
        have q := W_i_leadsUp (w0 := w39) hy41 rfl (hS8.rB hr0_0)
        refine LW.gY (want_of rfl rfl hc40) ?_
        refine LW.call pl187 rfl rfl ?_
        refine Ret.mono q ?_
        rintro _ w42 ⟨rfl, hs⟩
        have hS9 := hS8.add hs
        refine LW.gY (want_of rfl rfl hc40) ?_
        refine LW.p rfl rfl ?_
        refine LW.u (Pur.pickF rfl hc40) rfl ?_
        refine LW.nil ?_
        replace h := Option.some.inj h
        subst h
        exact ⟨⟨rfl, rfl, rfl, rfl, rfl, rfl, rfl, trivial⟩, hS9.pick [0, 1] rfl rfl⟩
      intro e w43 hM
      obtain ⟨hE, hS10⟩ := hM
      obtain ⟨e, rfl⟩ := hE.out
      have h := h37
      show CW _ _ _ _ _ _
      refine CW.cond rfl (fun hc44 => ?_) (fun hc44 => ?_)
      · replace h := bcT h hc44
        refine CW.seq ?_
        refine CW.region ?_
        refine LW.p rfl rfl ?_
        refine LW.nil ?_
        show CW _ _ _ _ _ _
        refine CW.ret ?_
        replace h := Option.some.inj h
        subst h
        exact ⟨trivial, rfl, _, rfl, ⟨_, Res.one (resOne.t rfl), rfl, hS10.pick [] rfl rfl⟩⟩
      replace h := bcF h hc44
      refine CW.skip ?_
      show CW _ _ _ _ _ _
      refine CW.region ?_
      refine LW.ldbN hS10 1 rfl ag73 rfl rfl rfl ?_
      refine LW.u (Pur.fa fo156_2 rfl) rfl ?_
      refine LW.ldbN hS10 0 rfl ag73 rfl rfl rfl ?_
      replace h := obind h
      obtain ⟨y45, hy45, h⟩ := h
      have q := W_i_sumOf (w0 := w43) hy45
      refine LW.call pl88 rfl rfl ?_
      refine Ret.mono q ?_
      rintro _ w46 ⟨rfl, hs⟩
      have hS11 := hS10.add hs
      refine LW.stb hS11 1 rfl ag73 rfl rfl rfl rfl rfl ?_
      intro w47 hS12 hf
      refine LW.nil ?_
      show CW _ _ _ _ _ _
      refine CW.region ?_
      iterate 2 refine LW.p rfl rfl ?_
      refine LW.nil ?_
      replace h := Option.some.inj h
      subst h
      exact ⟨rfl, ⟨⟨rfl, rfl, rfl, rfl, rfl, trivial⟩, hS12.pick [1] rfl rfl⟩⟩
    replace h := bcF h hc21
    refine CW.exit ?_
    replace h := Option.some.inj h
    subst h
    exact ⟨trivial, rfl, ⟨⟨rfl, trivial⟩, hS5.pick [0] rfl rfl⟩⟩
  intro x e w50 hM
  rcases o48 with o48 | r53
  · obtain ⟨rfl, hM⟩ := hM
    obtain ⟨hE, hS13⟩ := hM
    obtain ⟨e, rfl⟩ := hE.out
    have h := h49
    show CW _ _ _ _ _ _
    refine CW.seq ?_
    refine CW.region ?_
    refine LW.ldbN hS13 0 rfl ag73 rfl rfl rfl ?_
    replace h := obind h
    obtain ⟨y51, hy51, h⟩ := h
    have q := W_i_AmtOk (w0 := w50) hy51
    refine LW.call pl90 rfl rfl ?_
    refine Ret.mono q ?_
    rintro _ w52 ⟨rfl, hs⟩
    have hS14 := hS13.add hs
    refine LW.p rfl rfl ?_
    refine LW.nil ?_
    show CW _ _ _ _ _ _
    refine CW.ret ?_
    cases h
    exact And.intro trivial ⟨_, Res.one (resOne.t rfl), rfl, hS14.pick [] rfl rfl⟩
  obtain ⟨rfl, u, rfl, hM⟩ := hM
  cases h49
  exact And.intro trivial hM

theorem W_i_isSlot {w0 : World} {N : Nat} {x0 : Int} {r : Bool} (h : F_i_isSlot N x0 = some r) :
    Ret Try.prog 153 #[.int .i64 x0] w0 (fun v w => v = .bool r ∧ St w0 [] w []) := by
  unfold F_i_isSlot at h
  refine Ret.of Try.func153 rfl rfl rfl ?_
  have hS1 := St.start w0
  refine CW.seq ?_
  refine CW.region ?_
  refine LW.p rfl rfl ?_
  refine LW.nil ?_
  show CW _ _ _ _ _ _
  refine CW.seq ?_
  refine CW.region ?_
  refine LW.p rfl rfl ?_
  replace h := obind h
  obtain ⟨y1, hy1, h⟩ := h
  have q := W_i_within (w0 := w0) hy1
  refine LW.call pl86 rfl rfl ?_
  refine Ret.mono q ?_
  rintro _ w2 ⟨rfl, hs⟩
  have hS2 := hS1.add hs
  refine LW.p rfl rfl ?_
  refine LW.nil ?_
  show CW _ _ _ _ _ _
  refine CW.ret ?_
  cases h
  exact And.intro trivial ⟨_, Res.one (resOne.t rfl), rfl, hS2.pick [] rfl rfl⟩

theorem W_i_isTime {w0 : World} {N : Nat} {x0 : Int} {r : Bool} (h : F_i_isTime N x0 = some r) :
    Ret Try.prog 85 #[.int .i64 x0] w0 (fun v w => v = .bool r ∧ St w0 [] w []) := by
  unfold F_i_isTime at h
  refine Ret.of Try.func85 rfl rfl rfl ?_
  have hS1 := St.start w0
  refine CW.seq ?_
  refine CW.region ?_
  refine LW.p rfl rfl ?_
  refine LW.nil ?_
  show CW _ _ _ _ _ _
  refine CW.seq ?_
  refine CW.region ?_
  refine LW.p rfl rfl ?_
  replace h := obind h
  obtain ⟨y1, hy1, h⟩ := h
  have q := W_i_within (w0 := w0) hy1
  refine LW.call pl86 rfl rfl ?_
  refine Ret.mono q ?_
  rintro _ w2 ⟨rfl, hs⟩
  have hS2 := hS1.add hs
  refine LW.p rfl rfl ?_
  refine LW.nil ?_
  show CW _ _ _ _ _ _
  refine CW.ret ?_
  cases h
  exact And.intro trivial ⟨_, Res.one (resOne.t rfl), rfl, hS2.pick [] rfl rfl⟩

theorem W_i_isHandle {w0 : World} {N : Nat} {x0 : Int} {r : Bool} (h : F_i_isHandle N x0 = some r) :
    Ret Try.prog 200 #[.int .i64 x0] w0 (fun v w => v = .bool r ∧ St w0 [] w []) := by
  unfold F_i_isHandle at h
  refine Ret.of Try.func200 rfl rfl rfl ?_
  have hS1 := St.start w0
  refine CW.seq ?_
  refine CW.region ?_
  refine LW.p rfl rfl ?_
  refine LW.nil ?_
  show CW _ _ _ _ _ _
  refine CW.seq ?_
  refine CW.region ?_
  refine LW.p rfl rfl ?_
  replace h := obind h
  obtain ⟨y1, hy1, h⟩ := h
  have q := W_i_within (w0 := w0) hy1
  refine LW.call pl86 rfl rfl ?_
  refine Ret.mono q ?_
  rintro _ w2 ⟨rfl, hs⟩
  have hS2 := hS1.add hs
  refine LW.p rfl rfl ?_
  refine LW.nil ?_
  show CW _ _ _ _ _ _
  refine CW.ret ?_
  cases h
  exact And.intro trivial ⟨_, Res.one (resOne.t rfl), rfl, hS2.pick [] rfl rfl⟩

theorem W_i_listsOk {w0 : World} {N : Nat} {x0 : DObj} {r : Bool} (h : F_i_listsOk N x0 = some r) {a0_10 : Option Addr} {n0_10 c0_10 : Nat} (hn0_10 : n0_10 = x0.links.length) (hr0_10 : rdS (Bor w0 []) w0 a0_10 c0_10 x0.links) {a0_11 : Option Addr} {n0_11 c0_11 : Nat} (hn0_11 : n0_11 = x0.data.length) (hr0_11 : rdS (Bor w0 []) w0 a0_11 c0_11 x0.data) {a0_12 : Option Addr} {n0_12 c0_12 : Nat} (hn0_12 : n0_12 = x0.queue.length) (hr0_12 : rdS (Bor w0 []) w0 a0_12 c0_12 x0.queue) :
    Ret Try.prog 199 #[.agg #[.int .i64 x0.gen, .int .i64 x0.kind, .int .i64 x0.box, .int .i64 x0.res, .int .i64 x0.til, .int .i64 x0.pages, .int .i64 x0.wait, .int .i64 x0.got, .int .i64 x0.ran, .bool x0.mark, .slice a0_10 n0_10 c0_10, .slice a0_11 n0_11 c0_11, .slice a0_12 n0_12 c0_12]] w0 (fun v w => v = .bool r ∧ St w0 [] w []) := by
  subst hn0_10
  subst hn0_11
  subst hn0_12
  unfold F_i_listsOk at h
  refine Ret.of Try.func199 rfl rfl rfl ?_
  have hS1 := St.start w0
  refine CW.seq ?_
  refine CW.region ?_
  refine LW.box (cs := [.int .i64 x0.gen, .int .i64 x0.kind, .int .i64 x0.box, .int .i64 x0.res, .int .i64 x0.til, .int .i64 x0.pages, .int .i64 x0.wait, .int .i64 x0.got, .int .i64 x0.ran, .bool x0.mark, .slice a0_10 x0.links.length c0_10, .slice a0_11 x0.data.length c0_11, .slice a0_12 x0.queue.length c0_12]) rfl hS1 rfl ?_
  intro g1 w2 hS2 hf
  refine LW.p rfl rfl ?_
  refine LW.nil ?_
  show CW _ _ _ _ _ _
  refine CW.seq ?_
  refine CW.seq ?_
  refine CW.region ?_
  refine LW.u (Pur.fa fo123_10 rfl) rfl ?_
  refine LW.ldb hS2 0 rfl ag24 rfl rfl rfl ?_
  refine LW.u (Pur.len Try.underlying24 rfl) rfl ?_
  refine LW.p rfl rfl ?_
  refine LW.nil ?_
  show CW _ _ _ _ _ _
  refine CW.block ?_
  obtain ⟨o18, ho18, h19⟩ := obind h
  refine CW.mono (CW.iter (σ := Int) (ρ := Int ⊕ Bool) (fun s3 e wb => En e [(1, .pointer (some ⟨g1, 0, none⟩)), (12, .slice a0_10 x0.links.length c0_10), (13, .int .i64 (x0.links.length : Int)), (14, .int .i64 s3)] ∧ St w0 [] wb [bx g1 123 [.int .i64 x0.gen, .int .i64 x0.kind, .int .i64 x0.box, .int .i64 x0.res, .int .i64 x0.til, .int .i64 x0.pages, .int .i64 x0.wait, .int .i64 x0.got, .int .i64 x0.ran, .bool x0.mark, .slice a0_10 x0.links.length c0_10, .slice a0_11 x0.data.length c0_11, .slice a0_12 x0.queue.length c0_12]]) (fun o x e wb => match o with | .inl s3 => x = .exit 0 ∧ En e [(1, .pointer (some ⟨g1, 0, none⟩))] ∧ St w0 [] wb [bx g1 123 [.int .i64 x0.gen, .int .i64 x0.kind, .int .i64 x0.box, .int .i64 x0.res, .int .i64 x0.til, .int .i64 x0.pages, .int .i64 x0.wait, .int .i64 x0.got, .int .i64 x0.ran, .bool x0.mark, .slice a0_10 x0.links.length c0_10, .slice a0_11 x0.data.length c0_11, .slice a0_12 x0.queue.length c0_12]] | .inr r => x = .ret ∧ ∃ u, u = r ∧ ∃ v, Res Try.prog Try.f199.results e wb v ∧ v = .bool u ∧ St w0 [] wb []) ?_ N 0 _ _ _ ⟨⟨rfl, rfl, rfl, rfl, trivial⟩, hS2.pick [0] rfl rfl⟩ ho18) ?_
  · intro s3 e w4 o hM h
    obtain ⟨hE, hS3⟩ := hM
    obtain ⟨e, rfl⟩ := hE.out
    refine CW.seq ?_
    refine CW.region ?_
    refine LW.p rfl rfl ?_
    refine LW.nil ?_
    show CW _ _ _ _ _ _
    refine CW.seq ?_
    refine CW.cond rfl (fun hc5 => ?_) (fun hc5 => ?_)
    · replace h := bcT h hc5
      refine CW.skip ?_
      show CW _ _ _ _ _ _
      refine CW.seq ?_
      refine CW.block ?_
      refine CW.seq ?_
      refine CW.region ?_
      replace h := obind h
      obtain ⟨y6, hy6, h⟩ := h
      obtain ⟨b9, o10, cs11, hae, hb14, hp7, hq8, hd12, hk13⟩ := hr0_10.idx hy6
      subst hae
      obtain rfl := hd12
      refine LW.u (Pur.ix Try.underlying24 sz3 rfl rfl hp7 hq8) rfl ?_
      refine LW.l (Ldr.old w0 ag3 rfl (hk13 0 _ rfl)) (hS3.same _ hb14.1 hb14.2) rfl ?_
      refine LW.p rfl rfl ?_
      refine LW.nil ?_
      show CW _ _ _ _ _ _
      refine CW.seq ?_
      refine CW.region ?_
      refine LW.p rfl rfl ?_
      replace h := obind h
      obtain ⟨y15, hy15, h⟩ := h
      have q := W_i_within (w0 := w4) hy15
      refine LW.call pl86 rfl rfl ?_
      refine Ret.mono q ?_
      rintro _ w16 ⟨rfl, hs⟩
      have hS4 := hS3.add hs
      refine LW.p rfl rfl ?_
      refine LW.nil ?_
      show CW _ _ _ _ _ _
      refine CW.fresh (l := [(1, .pointer (some ⟨g1, 0, none⟩)), (12, .slice (some ⟨b9, o10, none⟩) x0.links.length c0_10), (13, .int .i64 (x0.links.length : Int)), (14, .int .i64 s3), (20, .bool (!y15))]) ⟨rfl, rfl, rfl, rfl, rfl, trivial⟩ (fun e => ?_)
      refine CW.cond rfl (fun hc17 => ?_) (fun hc17 => ?_)
      · replace h := bcT h hc17
        refine CW.seq ?_
        refine CW.region ?_
        refine LW.p rfl rfl ?_
        refine LW.nil ?_
        show CW _ _ _ _ _ _
        refine CW.ret ?_
        replace h := Option.some.inj h
        subst h
        exact ⟨trivial, rfl, _, rfl, ⟨_, Res.one (resOne.t rfl), rfl, hS4.pick [] rfl rfl⟩⟩
      replace h := bcF h hc17
      refine CW.skip ?_
      show CW _ _ _ _ _ _
      refine CW.region ?_
      iterate 2 refine LW.p rfl rfl ?_
      refine LW.nil ?_
      replace h := Option.some.inj h
      subst h
      exact ⟨rfl, ⟨⟨rfl, rfl, rfl, rfl, trivial⟩, hS4.pick [0] rfl rfl⟩⟩
    replace h := bcF h hc5
    refine CW.exit ?_
    replace h := Option.some.inj h
    subst h
    exact ⟨trivial, rfl, ⟨⟨rfl, trivial⟩, hS3.pick [0] rfl rfl⟩⟩
  intro x e w20 hM
  rcases o18 with o18 | r81
  · obtain ⟨rfl, hM⟩ := hM
    obtain ⟨hE, hS5⟩ := hM
    obtain ⟨e, rfl⟩ := hE.out
    have h := h19
    show CW _ _ _ _ _ _
    refine CW.seq ?_
    refine CW.seq ?_
    refine CW.region ?_
    refine LW.u (Pur.fa fo123_11 rfl) rfl ?_
    refine LW.ldb hS5 0 rfl ag24 rfl rfl rfl ?_
    refine LW.u (Pur.len Try.underlying24 rfl) rfl ?_
    refine LW.p rfl rfl ?_
    refine LW.nil ?_
    show CW _ _ _ _ _ _
    refine CW.block ?_
    obtain ⟨o36, ho36, h37⟩ := obind h
    refine CW.mono (CW.iter (σ := Int) (ρ := Int ⊕ Bool) (fun s21 e wb => En e [(1, .pointer (some ⟨g1, 0, none⟩)), (23, .slice a0_11 x0.data.length c0_11), (24, .int .i64 (x0.data.length : Int)), (25, .int .i64 s21)] ∧ St w0 [] wb [bx g1 123 [.int .i64 x0.gen, .int .i64 x0.kind, .int .i64 x0.box, .int .i64 x0.res, .int .i64 x0.til, .int .i64 x0.pages, .int .i64 x0.wait, .int .i64 x0.got, .int .i64 x0.ran, .bool x0.mark, .slice a0_10 x0.links.length c0_10, .slice a0_11 x0.data.length c0_11, .slice a0_12 x0.queue.length c0_12]]) (fun o x e wb => match o with | .inl s21 => x = .exit 2 ∧ En e [(1, .pointer (some ⟨g1, 0, none⟩))] ∧ St w0 [] wb [bx g1 123 [.int .i64 x0.gen, .int .i64 x0.kind, .int .i64 x0.box, .int .i64 x0.res, .int .i64 x0.til, .int .i64 x0.pages, .int .i64 x0.wait, .int .i64 x0.got, .int .i64 x0.ran, .bool x0.mark, .slice a0_10 x0.links.length c0_10, .slice a0_11 x0.data.length c0_11, .slice a0_12 x0.queue.length c0_12]] | .inr r => x = .ret ∧ ∃ u, u = r ∧ ∃ v, Res Try.prog Try.f199.results e wb v ∧ v = .bool u ∧ St w0 [] wb []) ?_ N 0 _ _ _ ⟨⟨rfl, rfl, rfl, rfl, trivial⟩, hS5.pick [0] rfl rfl⟩ ho36) ?_
    · intro s21 e w22 o hM h
      obtain ⟨hE, hS6⟩ := hM
      obtain ⟨e, rfl⟩ := hE.out
      refine CW.seq ?_
      refine CW.region ?_
      refine LW.p rfl rfl ?_
      refine LW.nil ?_
      show CW _ _ _ _ _ _
      refine CW.seq ?_
      refine CW.cond rfl (fun hc23 => ?_) (fun hc23 => ?_)
      · replace h := bcT h hc23
        refine CW.skip ?_
        show CW _ _ _ _ _ _
        refine CW.seq ?_
        refine CW.block ?_
        refine CW.seq ?_
        refine CW.region ?_
        replace h := obind h
        obtain ⟨y24, hy24, h⟩ := h
        obtain ⟨b27, o28, cs29, hae, hb32, hp25, hq26, hd30, hk31⟩ := hr0_11.idx hy24
        subst hae
        obtain rfl := hd30
        refine LW.u (Pur.ix Try.underlying24 sz3 rfl rfl hp25 hq26) rfl ?_
        refine LW.l (Ldr.old w0 ag3 rfl (hk31 0 _ rfl)) (hS6.same _ hb32.1 hb32.2) rfl ?_
        refine LW.p rfl rfl ?_
        refine LW.nil ?_
        show CW _ _ _ _ _ _
        refine CW.fresh (l := [(1, .pointer (some ⟨g1, 0, none⟩)), (6, .int .i64 y24), (23, .slice (some ⟨b27, o28, none⟩) x0.data.length c0_11), (24, .int .i64 (x0.data.length : Int)), (25, .int .i64 s21)]) ⟨rfl, rfl, rfl, rfl, rfl, trivial⟩ (fun e => ?_)
        refine CW.seq ?_
        refine CW.region ?_
        refine LW.p rfl rfl ?_
        replace h := obind h
        obtain ⟨y33, hy33, h⟩ := h
        have q := W_i_within (w0 := w22) hy33
        refine LW.call pl86 rfl rfl ?_
        refine Ret.mono q ?_
        rintro _ w34 ⟨rfl, hs⟩
        have hS7 := hS6.add hs
        refine LW.p rfl rfl ?_
        refine LW.nil ?_
        show CW _ _ _ _ _ _
        refine CW.cond rfl (fun hc35 => ?_) (fun hc35 => ?_)
        · replace h := bcT h hc35
          refine CW.seq ?_
          refine CW.region ?_
          refine LW.p rfl rfl ?_
          refine LW.nil ?_
          show CW _ _ _ _ _ _
          refine CW.ret ?_
          replace h := Option.some.inj h
          subst h
          exact ⟨trivial, rfl, _, rfl, ⟨_, Res.one (resOne.t rfl), rfl, hS7.pick [] rfl rfl⟩⟩
        replace h := bcF h hc35
        refine CW.skip ?_
        show CW _ _ _ _ _ _
        refine CW.region ?_
        iterate 2 refine LW.p rfl rfl ?_
        refine LW.nil ?_
        replace h := Option.some.inj h
        subst h
        exact ⟨rfl, ⟨⟨rfl, rfl, rfl, rfl, trivial⟩, hS7.pick [0] rfl rfl⟩⟩
      replace h := bcF h hc23
      refine CW.exit ?_
      replace h := Option.some.inj h
      subst h
      exact ⟨trivial, rfl, ⟨⟨rfl, trivial⟩, hS6.pick [0] rfl rfl⟩⟩
    intro x e w38 hM
    rcases o36 with o36 | r80
    · obtain ⟨rfl, hM⟩ := hM
      obtain ⟨hE, hS8⟩ := hM
      obtain ⟨e, rfl⟩ := hE.out
      have h := h37
      show CW _ _ _ _ _ _
      refine CW.seq ?_
      refine CW.seq ?_
      refine CW.region ?_
      refine LW.u (Pur.fa fo123_12 rfl) rfl ?_
      refine LW.ldb hS8 0 rfl ag121 rfl rfl rfl ?_
      refine LW.u (Pur.len Try.underlying121 rfl) rfl ?_
      refine LW.p rfl rfl ?_
      refine LW.nil ?_
      show CW _ _ _ _ _ _
      refine CW.fresh (l := [(1, .pointer (some ⟨g1, 0, none⟩)), (34, .slice a0_12 x0.queue.length c0_12), (35, .int .i64 (x0.queue.length : Int)), (36, .int .i64 0)]) ⟨rfl, rfl, rfl, rfl, trivial⟩ (fun e => ?_)
      refine CW.block ?_
      obtain ⟨o66, ho66, h67⟩ := obind h
      refine CW.mono (CW.iter (σ := Int) (ρ := Int ⊕ Bool) (fun s39 e wb => En e [(1, .pointer (some ⟨g1, 0, none⟩)), (34, .slice a0_12 x0.queue.length c0_12), (35, .int .i64 (x0.queue.length : Int)), (36, .int .i64 s39)] ∧ St w0 [] wb [bx g1 123 [.int .i64 x0.gen, .int .i64 x0.kind, .int .i64 x0.box, .int .i64 x0.res, .int .i64 x0.til, .int .i64 x0.pages, .int .i64 x0.wait, .int .i64 x0.got, .int .i64 x0.ran, .bool x0.mark, .slice a0_10 x0.links.length c0_10, .slice a0_11 x0.data.length c0_11, .slice a0_12 x0.queue.length c0_12]]) (fun o x e wb => match o with | .inl s39 => x = .exit 4 ∧ En e [(1, .pointer (some ⟨g1, 0, none⟩))] ∧ St w0 [] wb [bx g1 123 [.int .i64 x0.gen, .int .i64 x0.kind, .int .i64 x0.box, .int .i64 x0.res, .int .i64 x0.til, .int .i64 x0.pages, .int .i64 x0.wait, .int .i64 x0.got, .int .i64 x0.ran, .bool x0.mark, .slice a0_10 x0.links.length c0_10, .slice a0_11 x0.data.length c0_11, .slice a0_12 x0.queue.length c0_12]] | .inr r => x = .ret ∧ ∃ u, u = r ∧ ∃ v, Res Try.prog Try.f199.results e wb v ∧ v = .bool u ∧ St w0 [] wb []) ?_ N 0 _ _ _ ⟨⟨rfl, rfl, rfl, rfl, trivial⟩, hS8.pick [0] rfl rfl⟩ ho66) ?_
      · intro s39 e w40 o hM h
        obtain ⟨hE, hS9⟩ := hM
        obtain ⟨e, rfl⟩ := hE.out
        refine CW.seq ?_
        refine CW.region ?_
        refine LW.p rfl rfl ?_
        refine LW.nil ?_
        show CW _ _ _ _ _ _
        refine CW.seq ?_
        refine CW.cond rfl (fun hc41 => ?_) (fun hc41 => ?_)
        · replace h := bcT h hc41
          refine CW.skip ?_
          show CW _ _ _ _ _ _
          refine CW.seq ?_
          refine CW.block ?_
          refine CW.seq ?_
          refine CW.region ?_
          replace h := obind h
          obtain ⟨y42, hy42, h⟩ := h
          obtain ⟨b45, o46, cs47, hae, hb50, hp43, hq44, hd48, hk49⟩ := hr0_12.idx hy42
          subst hae
          obtain rfl := hd48
          refine LW.u (Pur.ix Try.underlying121 sz199 rfl rfl hp43 hq44) rfl ?_
          refine LW.l (Ldr.oldN w0 ag199 rfl rfl (fun j u hu => hk49 j u hu)) (hS9.same _ hb50.1 hb50.2) rfl ?_
          refine LW.alloc zv199 hS9 rfl ?_
          intro g51 w52 hS10 hf
          refine LW.stb hS10 0 rfl ag199 rfl rfl rfl rfl rfl ?_
          intro w53 hS11 hf
          refine LW.nil ?_
          show CW _ _ _ _ _ _
          refine CW.seq ?_
          obtain ⟨j54, hj54, h55⟩ := obind h
          refine CW.cut (fun e wb => En e [(1, .pointer (some ⟨g1, 0, none⟩)), (34, .slice (some ⟨b45, o46, none⟩) x0.queue.length c0_12), (35, .int .i64 (x0.queue.length : Int)), (36, .int .i64 s39), (54, .bool j54)] ∧ St w0 [] wb [bx g1 123 [.int .i64 x0.gen, .int .i64 x0.kind, .int .i64 x0.box, .int .i64 x0.res, .int .i64 x0.til, .int .i64 x0.pages, .int .i64 x0.wait, .int .i64 x0.got, .int .i64 x0.ran, .bool x0.mark, .slice a0_10 x0.links.length c0_10, .slice a0_11 x0.data.length c0_11, .slice (some ⟨b45, o46, none⟩) x0.queue.length c0_12]]) ?_ ?_
          · have h := hj54
            refine CW.region ?_
            refine LW.u (Pur.fa fo199_0 rfl) rfl ?_
            refine LW.ldb hS11 0 rfl ag3 rfl rfl rfl ?_
            iterate 2 refine LW.p rfl rfl ?_
            rcases bcases (y42.src != (-1)) with hc56 | hc56
            · replace h := bcT h hc56
              refine LW.gY (want_of rfl rfl hc56) ?_
              refine LW.u (Pur.fa fo199_0 rfl) rfl ?_
              refine LW.gY (want_of rfl rfl hc56) ?_
              refine LW.ldb hS11 0 rfl ag3 rfl rfl rfl ?_
              replace h := obind h
              obtain ⟨y57, hy57, h⟩ := h
              have q := W_i_isHandle (w0 := w53) hy57
              refine LW.gY (want_of rfl rfl hc56) ?_
              refine LW.call pl200 rfl rfl ?_
              refine Ret.mono q ?_
              rintro _ w58 ⟨rfl, hs⟩
              have hS12 := hS11.add hs
              refine LW.gY (want_of rfl rfl hc56) ?_
              refine LW.p rfl rfl ?_
              refine LW.u (Pur.pickT rfl hc56) rfl ?_
              refine LW.p rfl rfl ?_
              rcases bcases (!y57) with hc59 | hc59
              · replace h := bcT h hc59
                refine LW.gN (want_not rfl rfl hc59) rfl ?_
                refine LW.gN (want_not rfl rfl hc59) rfl ?_
                refine LW.gN (want_not rfl rfl hc59) rfl ?_
                refine LW.gN (want_not rfl rfl hc59) rfl ?_
                refine LW.u (Pur.pickT rfl hc59) rfl ?_
                refine LW.nil ?_
                replace h := Option.some.inj h
                subst h
                exact ⟨⟨rfl, rfl, rfl, rfl, rfl, trivial⟩, hS12.pick [1] rfl rfl⟩
              replace h := bcF h hc59
              refine LW.gY (want_of rfl rfl hc59) ?_
              refine LW.u (Pur.fa fo199_1 rfl) rfl ?_
              refine LW.gY (want_of rfl rfl hc59) ?_
              refine LW.ldb hS12 0 rfl ag3 rfl rfl rfl ?_
              replace h := obind h
              obtain ⟨y60, hy60, h⟩ := h
              have q := W_i_within (w0 := w58) hy60
              refine LW.gY (want_of rfl rfl hc59) ?_
              refine LW.call pl86 rfl rfl ?_
              refine Ret.mono q ?_
              rintro _ w61 ⟨rfl, hs⟩
              have hS13 := hS12.add hs
              refine LW.gY (want_of rfl rfl hc59) ?_
              refine LW.p rfl rfl ?_
              refine LW.u (Pur.pickF rfl hc59) rfl ?_
              refine LW.nil ?_
              replace h := Option.some.inj h
              subst h
              exact ⟨⟨rfl, rfl, rfl, rfl, rfl, trivial⟩, hS13.pick [1] rfl rfl⟩
            replace h := bcF h hc56
            refine LW.gN (want_not rfl rfl hc56) rfl ?_
            refine LW.gN (want_not rfl rfl hc56) rfl ?_
            refine LW.gN (want_not rfl rfl hc56) rfl ?_
            refine LW.gN (want_not rfl rfl hc56) rfl ?_
            refine LW.u (Pur.pickF rfl hc56) rfl ?_
            refine LW.p rfl rfl ?_
            refine LW.gY (want_of rfl rfl rfl) ?_
            refine LW.u (Pur.fa fo199_1 rfl) rfl ?_
            refine LW.gY (want_of rfl rfl rfl) ?_
            refine LW.ldb hS11 0 rfl ag3 rfl rfl rfl ?_
            replace h := obind h
            obtain ⟨y62, hy62, h⟩ := h
            have q := W_i_within (w0 := w53) hy62
            refine LW.gY (want_of rfl rfl rfl) ?_
            refine LW.call pl86 rfl rfl ?_
            refine Ret.mono q ?_
            rintro _ w63 ⟨rfl, hs⟩
            have hS14 := hS11.add hs
            refine LW.gY (want_of rfl rfl rfl) ?_
            refine LW.p rfl rfl ?_
            refine LW.u (Pur.pickF rfl rfl) rfl ?_
            refine LW.nil ?_
            replace h := Option.some.inj h
            subst h
            exact ⟨⟨rfl, rfl, rfl, rfl, rfl, trivial⟩, hS14.pick [1] rfl rfl⟩
          intro e w64 hM
          obtain ⟨hE, hS15⟩ := hM
          obtain ⟨e, rfl⟩ := hE.out
          have h := h55
          show CW _ _ _ _ _ _
          refine CW.cond rfl (fun hc65 => ?_) (fun hc65 => ?_)
          · replace h := bcT h hc65
            refine CW.seq ?_
            refine CW.region ?_
            refine LW.p rfl rfl ?_
            refine LW.nil ?_
            show CW _ _ _ _ _ _
            refine CW.ret ?_
            replace h := Option.some.inj h
            subst h
            exact ⟨trivial, rfl, _, rfl, ⟨_, Res.one (resOne.t rfl), rfl, hS15.pick [] rfl rfl⟩⟩
          replace h := bcF h hc65
          refine CW.skip ?_
          show CW _ _ _ _ _ _
          refine CW.region ?_
          iterate 2 refine LW.p rfl rfl ?_
          refine LW.nil ?_
          replace h := Option.some.inj h
          subst h
          exact ⟨rfl, ⟨⟨rfl, rfl, rfl, rfl, trivial⟩, hS15.pick [0] rfl rfl⟩⟩
        replace h := bcF h hc41
        refine CW.exit ?_
        replace h := Option.some.inj h
        subst h
        exact ⟨trivial, rfl, ⟨⟨rfl, trivial⟩, hS9.pick [0] rfl rfl⟩⟩
      intro x e w68 hM
      rcases o66 with o66 | r79
      · obtain ⟨rfl, hM⟩ := hM
        obtain ⟨hE, hS16⟩ := hM
        obtain ⟨e, rfl⟩ := hE.out
        have h := h67
        show CW _ _ _ _ _ _
        refine CW.seq ?_
        refine CW.region ?_
        iterate 2 refine LW.p rfl rfl ?_
        refine LW.nil ?_
        show CW _ _ _ _ _ _
        refine CW.seq ?_
        refine CW.seq ?_
        refine CW.region ?_
        refine LW.u (Pur.fa fo123_1 rfl) rfl ?_
        refine LW.ldb hS16 0 rfl ag3 rfl rfl rfl ?_
        refine LW.p rfl rfl ?_
        refine LW.nil ?_
        show CW _ _ _ _ _ _
        obtain ⟨j69, hj69, h70⟩ := obind h
        refine CW.cut (fun e wb => En e [(1, .pointer (some ⟨g1, 0, none⟩)), (9, .int .i64 j69), (10, .int .i64 0)] ∧ St w0 [] wb [bx g1 123 [.int .i64 x0.gen, .int .i64 x0.kind, .int .i64 x0.box, .int .i64 x0.res, .int .i64 x0.til, .int .i64 x0.pages, .int .i64 x0.wait, .int .i64 x0.got, .int .i64 x0.ran, .bool x0.mark, .slice a0_10 x0.links.length c0_10, .slice a0_11 x0.data.length c0_11, .slice a0_12 x0.queue.length c0_12]]) ?_ ?_
        · have h := hj69
          refine CW.cond rfl (fun hc71 => ?_) (fun hc71 => ?_)
          · replace h := bcT h hc71
            refine CW.region ?_
            refine LW.u (Pur.fa fo123_5 rfl) rfl ?_
            refine LW.ldb hS16 0 rfl ag3 rfl rfl rfl ?_
            refine LW.p rfl rfl ?_
            refine LW.nil ?_
            replace h := Option.some.inj h
            subst h
            exact ⟨⟨rfl, rfl, rfl, trivial⟩, hS16.pick [0] rfl rfl⟩
          replace h := bcF h hc71
          refine CW.skip ?_
          replace h := Option.some.inj h
          subst h
          exact ⟨⟨rfl, rfl, rfl, trivial⟩, hS16.pick [0] rfl rfl⟩
        intro e w72 hM
        obtain ⟨hE, hS17⟩ := hM
        obtain ⟨e, rfl⟩ := hE.out
        have h := h70
        show CW _ _ _ _ _ _
        refine CW.seq ?_
        refine CW.seq ?_
        refine CW.region ?_
        refine LW.u (Pur.fa fo123_1 rfl) rfl ?_
        refine LW.ldb hS17 0 rfl ag3 rfl rfl rfl ?_
        refine LW.p rfl rfl ?_
        refine LW.nil ?_
        show CW _ _ _ _ _ _
        obtain ⟨j73, hj73, h74⟩ := obind h
        refine CW.cut (fun e wb => En e [(1, .pointer (some ⟨g1, 0, none⟩)), (9, .int .i64 j69), (10, .int .i64 j73)] ∧ St w0 [] wb [bx g1 123 [.int .i64 x0.gen, .int .i64 x0.kind, .int .i64 x0.box, .int .i64 x0.res, .int .i64 x0.til, .int .i64 x0.pages, .int .i64 x0.wait, .int .i64 x0.got, .int .i64 x0.ran, .bool x0.mark, .slice a0_10 x0.links.length c0_10, .slice a0_11 x0.data.length c0_11, .slice a0_12 x0.queue.length c0_12]]) ?_ ?_
        · have h := hj73
          refine CW.cond rfl (fun hc75 => ?_) (fun hc75 => ?_)
          · replace h := bcT h hc75
            refine CW.region ?_
            refine LW.p rfl rfl ?_
            refine LW.nil ?_
            replace h := Option.some.inj h
            subst h
            exact ⟨⟨rfl, rfl, rfl, trivial⟩, hS17.pick [0] rfl rfl⟩
          replace h := bcF h hc75
          refine CW.skip ?_
          replace h := Option.some.inj h
          subst h
          exact ⟨⟨rfl, rfl, rfl, trivial⟩, hS17.pick [0] rfl rfl⟩
        intro e w76 hM
        obtain ⟨hE, hS18⟩ := hM
        obtain ⟨e, rfl⟩ := hE.out
        have h := h74
        show CW _ _ _ _ _ _
        refine CW.seq ?_
        refine CW.region ?_
        refine LW.u (Pur.fa fo123_10 rfl) rfl ?_
        refine LW.ldb hS18 0 rfl ag24 rfl rfl rfl ?_
        refine LW.u (Pur.len Try.underlying24 rfl) rfl ?_
        iterate 2 refine LW.p rfl rfl ?_
        rcases bcases ((x0.links.length : Int) == 2) with hc77 | hc77
        · replace h := bcT h hc77
          refine LW.gY (want_of rfl rfl hc77) ?_
          refine LW.u (Pur.fa fo123_11 rfl) rfl ?_
          refine LW.gY (want_of rfl rfl hc77) ?_
          refine LW.ldb hS18 0 rfl ag24 rfl rfl rfl ?_
          refine LW.gY (want_of rfl rfl hc77) ?_
          refine LW.u (Pur.len Try.underlying24 rfl) rfl ?_
          refine LW.gY (want_of rfl rfl hc77) ?_
          refine LW.p rfl rfl ?_
          refine LW.gY (want_of rfl rfl hc77) ?_
          refine LW.p rfl rfl ?_
          refine LW.u (Pur.pickT rfl hc77) rfl ?_
          refine LW.p rfl rfl ?_
          rcases bcases ((x0.data.length : Int) == j69) with hc78 | hc78
          · replace h := bcT h hc78
            refine LW.gY (want_of rfl rfl hc78) ?_
            refine LW.u (Pur.fa fo123_12 rfl) rfl ?_
            refine LW.gY (want_of rfl rfl hc78) ?_
            refine LW.ldb hS18 0 rfl ag121 rfl rfl rfl ?_
            refine LW.gY (want_of rfl rfl hc78) ?_
            refine LW.u (Pur.len Try.underlying121 rfl) rfl ?_
            refine LW.fresh (l := [(10, .int .i64 j73), (75, .bool ((x0.data.length : Int) == j69)), (78, .int .i64 (x0.queue.length : Int))]) ⟨rfl, rfl, rfl, trivial⟩ (fun e => ?_)
            refine LW.gY (want_of rfl rfl hc78) ?_
            refine LW.p rfl rfl ?_
            refine LW.gY (want_of rfl rfl hc78) ?_
            refine LW.p rfl rfl ?_
            refine LW.u (Pur.pickT rfl hc78) rfl ?_
            refine LW.p rfl rfl ?_
            refine LW.nil ?_
            show CW _ _ _ _ _ _
            refine CW.ret ?_
            cases h
            exact And.intro trivial ⟨_, Res.one (resOne.t rfl), rfl, hS18.pick [] rfl rfl⟩
          replace h := bcF h hc78
          refine LW.gN (want_not rfl rfl hc78) rfl ?_
          refine LW.gN (want_not rfl rfl hc78) rfl ?_
          refine LW.gN (want_not rfl rfl hc78) rfl ?_
          refine LW.fresh (l := [(10, .int .i64 j73), (75, .bool ((x0.data.length : Int) == j69)), (78, undef)]) ⟨rfl, rfl, rfl, trivial⟩ (fun e => ?_)
          refine LW.gN (want_not rfl rfl hc78) rfl ?_
          refine LW.gN (want_not rfl rfl hc78) rfl ?_
          refine LW.u (Pur.pickF rfl hc78) rfl ?_
          refine LW.p rfl rfl ?_
          refine LW.nil ?_
          show CW _ _ _ _ _ _
          refine CW.ret ?_
          cases h
          exact And.intro trivial ⟨_, Res.one (resOne.t rfl), rfl, hS18.pick [] rfl rfl⟩
        replace h := bcF h hc77
        refine LW.gN (want_not rfl rfl hc77) rfl ?_
        refine LW.gN (want_not rfl rfl hc77) rfl ?_
        refine LW.gN (want_not rfl rfl hc77) rfl ?_
        refine LW.gN (want_not rfl rfl hc77) rfl ?_
        refine LW.gN (want_not rfl rfl hc77) rfl ?_
        refine LW.u (Pur.pickF rfl hc77) rfl ?_
        refine LW.p rfl rfl ?_
        refine LW.gN (want_not rfl rfl rfl) rfl ?_
        refine LW.gN (want_not rfl rfl rfl) rfl ?_
        refine LW.gN (want_not rfl rfl rfl) rfl ?_
        refine LW.gN (want_not rfl rfl rfl) rfl ?_
        refine LW.fresh (l := [(75, .bool false), (78, undef), (79, undef)]) ⟨rfl, rfl, rfl, trivial⟩ (fun e => ?_)
        refine LW.gN (want_not rfl rfl rfl) rfl ?_
        refine LW.u (Pur.pickF rfl rfl) rfl ?_
        refine LW.p rfl rfl ?_
        refine LW.nil ?_
        show CW _ _ _ _ _ _
        refine CW.ret ?_
        cases h
        exact And.intro trivial ⟨_, Res.one (resOne.t rfl), rfl, hS18.pick [] rfl rfl⟩
      obtain ⟨rfl, u, rfl, hM⟩ := hM
      cases h67
      exact And.intro trivial hM
    obtain ⟨rfl, u, rfl, hM⟩ := hM
    cases h37
    exact And.intro trivial hM
  obtain ⟨rfl, u, rfl, hM⟩ := hM
  cases h19
  exact And.intro trivial hM

theorem W_i_ObjOk {w0 : World} {N : Nat} {x0 : DObj} {r : Bool} (h : F_i_ObjOk N x0 = some r) {a0_10 : Option Addr} {n0_10 c0_10 : Nat} (hn0_10 : n0_10 = x0.links.length) (hr0_10 : rdS (Bor w0 []) w0 a0_10 c0_10 x0.links) {a0_11 : Option Addr} {n0_11 c0_11 : Nat} (hn0_11 : n0_11 = x0.data.length) (hr0_11 : rdS (Bor w0 []) w0 a0_11 c0_11 x0.data) {a0_12 : Option Addr} {n0_12 c0_12 : Nat} (hn0_12 : n0_12 = x0.queue.length) (hr0_12 : rdS (Bor w0 []) w0 a0_12 c0_12 x0.queue) :
    Ret Try.prog 191 #[.agg #[.int .i64 x0.gen, .int .i64 x0.kind, .int .i64 x0.box, .int .i64 x0.res, .int .i64 x0.til, .int .i64 x0.pages, .int .i64 x0.wait, .int .i64 x0.got, .int .i64 x0.ran, .bool x0.mark, .slice a0_10 n0_10 c0_10, .slice a0_11 n0_11 c0_11, .slice a0_12 n0_12 c0_12]] w0 (fun v w => v = .bool r ∧ St w0 [] w []) := by
  subst hn0_10
  subst hn0_11
  subst hn0_12
  unfold F_i_ObjOk at h
  refine Ret.of Try.func191 rfl rfl rfl ?_
  have hS1 := St.start w0
  refine CW.seq ?_
  refine CW.region ?_
  refine LW.box (cs := [.int .i64 x0.gen, .int .i64 x0.kind, .int .i64 x0.box, .int .i64 x0.res, .int .i64 x0.til, .int .i64 x0.pages, .int .i64 x0.wait, .int .i64 x0.got, .int .i64 x0.ran, .bool x0.mark, .slice a0_10 x0.links.length c0_10, .slice a0_11 x0.data.length c0_11, .slice a0_12 x0.queue.length c0_12]) rfl hS1 rfl ?_
  intro g1 w2 hS2 hf
  refine LW.p rfl rfl ?_
  refine LW.nil ?_
  show CW _ _ _ _ _ _
  refine CW.seq ?_
  refine CW.seq ?_
  obtain ⟨j3, hj3, h4⟩ := obind h
  refine CW.cut (fun e wb => En e [(1, .pointer (some ⟨g1, 0, none⟩)), (12, .bool j3)] ∧ St w0 [] wb [bx g1 123 [.int .i64 x0.gen, .int .i64 x0.kind, .int .i64 x0.box, .int .i64 x0.res, .int .i64 x0.til, .int .i64 x0.pages, .int .i64 x0.wait, .int .i64 x0.got, .int .i64 x0.ran, .bool x0.mark, .slice a0_10 x0.links.length c0_10, .slice a0_11 x0.data.length c0_11, .slice a0_12 x0.queue.length c0_12]]) ?_ ?_
  · have h := hj3
    refine CW.region ?_
    refine LW.u (Pur.fa fo123_0 rfl) rfl ?_
    refine LW.ldb hS2 0 rfl ag3 rfl rfl rfl ?_
    replace h := obind h
    obtain ⟨y5, hy5, h⟩ := h
    have q := W_i_within (w0 := w2) hy5
    refine LW.call pl86 rfl rfl ?_
    refine Ret.mono q ?_
    rintro _ w6 ⟨rfl, hs⟩
    have hS3 := hS2.add hs
    iterate 2 refine LW.p rfl rfl ?_
    rcases bcases (!y5) with hc7 | hc7
    · replace h := bcT h hc7
      refine LW.gN (want_not rfl rfl hc7) rfl ?_
      refine LW.gN (want_not rfl rfl hc7) rfl ?_
      refine LW.gN (want_not rfl rfl hc7) rfl ?_
      refine LW.gN (want_not rfl rfl hc7) rfl ?_
      refine LW.u (Pur.pickT rfl hc7) rfl ?_
      refine LW.nil ?_
      replace h := Option.some.inj h
      subst h
      exact ⟨⟨rfl, rfl, trivial⟩, hS3.pick [0] rfl rfl⟩
    replace h := bcF h hc7
    refine LW.gY (want_of rfl rfl hc7) ?_
    refine LW.u (Pur.fa fo123_1 rfl) rfl ?_
    refine LW.gY (want_of rfl rfl hc7) ?_
    refine LW.ldb hS3 0 rfl ag3 rfl rfl rfl ?_
    replace h := obind h
    obtain ⟨y8, hy8, h⟩ := h
    have q := W_i_within (w0 := w6) hy8
    refine LW.gY (want_of rfl rfl hc7) ?_
    refine LW.call pl86 rfl rfl ?_
    refine Ret.mono q ?_
    rintro _ w9 ⟨rfl, hs⟩
    have hS4 := hS3.add hs
    refine LW.gY (want_of rfl rfl hc7) ?_
    refine LW.p rfl rfl ?_
    refine LW.u (Pur.pickF rfl hc7) rfl ?_
    refine LW.nil ?_
    replace h := Option.some.inj h
    subst h
    exact ⟨⟨rfl, rfl, trivial⟩, hS4.pick [0] rfl rfl⟩
  intro e w10 hM
  obtain ⟨hE, hS5⟩ := hM
  obtain ⟨e, rfl⟩ := hE.out
  have h := h4
  show CW _ _ _ _ _ _
  refine CW.cond rfl (fun hc11 => ?_) (fun hc11 => ?_)
  · replace h := bcT h hc11
    refine CW.seq ?_
    refine CW.region ?_
    refine LW.p rfl rfl ?_
    refine LW.nil ?_
    show CW _ _ _ _ _ _
    refine CW.ret ?_
    cases h
    exact And.intro trivial ⟨_, Res.one (resOne.t rfl), rfl, hS5.pick [] rfl rfl⟩
  replace h := bcF h hc11
  refine CW.skip ?_
  show CW _ _ _ _ _ _
  refine CW.seq ?_
  refine CW.seq ?_
  refine CW.region ?_
  refine LW.u (Pur.fa fo123_1 rfl) rfl ?_
  refine LW.ldb hS5 0 rfl ag3 rfl rfl rfl ?_
  refine LW.p rfl rfl ?_
  refine LW.nil ?_
  show CW _ _ _ _ _ _
  refine CW.cond rfl (fun hc12 => ?_) (fun hc12 => ?_)
  · replace h := bcT h hc12
    refine CW.seq ?_
    refine CW.region ?_
    refine LW.ldbN hS5 0 rfl ag123 rfl rfl rfl ?_
    refine LW.u (Pur.fa fo123_0 rfl) rfl ?_
    refine LW.ldb hS5 0 rfl ag3 rfl rfl rfl ?_
    refine LW.u (Pur.build (vs := [(0, .int .i64 x0.gen)]) (cs := #[.int .i64 x0.gen, .int .i64 0, .int .i64 0, .int .i64 0, .int .i64 0, .int .i64 0, .int .i64 0, .int .i64 0, .int .i64 0, .bool false, .slice none 0 0, .slice none 0 0, .slice none 0 0]) rfl (by kernel_rfl)) rfl ?_
    replace h := obind h
    obtain ⟨y13, hy13, h⟩ := h
    have q := W_i_sameObj (w0 := w10) hy13 rfl (hS5.rB hr0_10) rfl (hS5.rB hr0_11) rfl (hS5.rB hr0_12) rfl (show rdS (α := Int) (Bor w10 []) w10 none 0 [] from rdS.nil _ _ _ _ (Nat.zero_le _)) rfl (show rdS (α := Int) (Bor w10 []) w10 none 0 [] from rdS.nil _ _ _ _ (Nat.zero_le _)) rfl (show rdS (α := DMsg) (Bor w10 []) w10 none 0 [] from rdS.nil _ _ _ _ (Nat.zero_le _))
    refine LW.call pl193 rfl rfl ?_
    refine Ret.mono q ?_
    rintro _ w14 ⟨rfl, hs⟩
    have hS6 := hS5.add hs
    refine LW.p rfl rfl ?_
    refine LW.nil ?_
    show CW _ _ _ _ _ _
    refine CW.ret ?_
    cases h
    exact And.intro trivial ⟨_, Res.one (resOne.t rfl), rfl, hS6.pick [] rfl rfl⟩
  replace h := bcF h hc12
  refine CW.skip ?_
  show CW _ _ _ _ _ _
  refine CW.seq ?_
  refine CW.seq ?_
  obtain ⟨j15, hj15, h16⟩ := obind h
  refine CW.cut (fun e wb => En e [(1, .pointer (some ⟨g1, 0, none⟩)), (47, .bool j15)] ∧ St w0 [] wb [bx g1 123 [.int .i64 x0.gen, .int .i64 x0.kind, .int .i64 x0.box, .int .i64 x0.res, .int .i64 x0.til, .int .i64 x0.pages, .int .i64 x0.wait, .int .i64 x0.got, .int .i64 x0.ran, .bool x0.mark, .slice a0_10 x0.links.length c0_10, .slice a0_11 x0.data.length c0_11, .slice a0_12 x0.queue.length c0_12]]) ?_ ?_
  · have h := hj15
    refine CW.region ?_
    refine LW.u (Pur.fa fo123_2 rfl) rfl ?_
    refine LW.ldb hS5 0 rfl ag3 rfl rfl rfl ?_
    replace h := obind h
    obtain ⟨y17, hy17, h⟩ := h
    have q := W_i_within (w0 := w10) hy17
    refine LW.call pl86 rfl rfl ?_
    refine Ret.mono q ?_
    rintro _ w18 ⟨rfl, hs⟩
    have hS7 := hS5.add hs
    iterate 2 refine LW.p rfl rfl ?_
    rcases bcases (!y17) with hc19 | hc19
    · replace h := bcT h hc19
      refine LW.gN (want_not rfl rfl hc19) rfl ?_
      refine LW.gN (want_not rfl rfl hc19) rfl ?_
      refine LW.gN (want_not rfl rfl hc19) rfl ?_
      refine LW.gN (want_not rfl rfl hc19) rfl ?_
      refine LW.u (Pur.pickT rfl hc19) rfl ?_
      refine LW.p rfl rfl ?_
      refine LW.gN (want_not rfl rfl rfl) rfl ?_
      refine LW.gN (want_not rfl rfl rfl) rfl ?_
      refine LW.gN (want_not rfl rfl rfl) rfl ?_
      refine LW.gN (want_not rfl rfl rfl) rfl ?_
      refine LW.u (Pur.pickT rfl rfl) rfl ?_
      refine LW.p rfl rfl ?_
      refine LW.gN (want_not rfl rfl rfl) rfl ?_
      refine LW.gN (want_not rfl rfl rfl) rfl ?_
      refine LW.fresh (l := [(1, .pointer (some ⟨g1, 0, none⟩)), (37, .bool true), (39, undef)]) ⟨rfl, rfl, rfl, trivial⟩ (fun e => ?_)
      refine LW.gN (want_not rfl rfl rfl) rfl ?_
      refine LW.gN (want_not rfl rfl rfl) rfl ?_
      refine LW.u (Pur.pickT rfl rfl) rfl ?_
      refine LW.p rfl rfl ?_
      refine LW.gN (want_not rfl rfl rfl) rfl ?_
      refine LW.gN (want_not rfl rfl rfl) rfl ?_
      refine LW.gN (want_not rfl rfl rfl) rfl ?_
      refine LW.u (Pur.pickT rfl rfl) rfl ?_
      refine LW.nil ?_
      replace h := Option.some.inj h
      subst h
      exact ⟨⟨rfl, rfl, trivial⟩, hS7.pick [0] rfl rfl⟩
    replace h := bcF h hc19
    refine LW.gY (want_of rfl rfl hc19) ?_
    refine LW.u (Pur.fa fo123_3 rfl) rfl ?_
    refine LW.gY (want_of rfl rfl hc19) ?_
    refine LW.ldb hS7 0 rfl ag3 rfl rfl rfl ?_
    replace h := obind h
    obtain ⟨y20, hy20, h⟩ := h
    have q := W_i_isPlace (w0 := w18) hy20
    refine LW.gY (want_of rfl rfl hc19) ?_
    refine LW.call pl185 rfl rfl ?_
    refine Ret.mono q ?_
    rintro _ w21 ⟨rfl, hs⟩
    have hS8 := hS7.add hs
    refine LW.gY (want_of rfl rfl hc19) ?_
    refine LW.p rfl rfl ?_
    refine LW.u (Pur.pickF rfl hc19) rfl ?_
    refine LW.p rfl rfl ?_
    rcases bcases (!y20) with hc22 | hc22
    · replace h := bcT h hc22
      refine LW.gN (want_not rfl rfl hc22) rfl ?_
      refine LW.gN (want_not rfl rfl hc22) rfl ?_
      refine LW.gN (want_not rfl rfl hc22) rfl ?_
      refine LW.gN (want_not rfl rfl hc22) rfl ?_
      refine LW.u (Pur.pickT rfl hc22) rfl ?_
      refine LW.p rfl rfl ?_
      refine LW.gN (want_not rfl rfl rfl) rfl ?_
      refine LW.fresh (l := [(1, .pointer (some ⟨g1, 0, none⟩)), (37, .bool true), (38, undef)]) ⟨rfl, rfl, rfl, trivial⟩ (fun e => ?_)
      refine LW.gN (want_not rfl rfl rfl) rfl ?_
      refine LW.gN (want_not rfl rfl rfl) rfl ?_
      refine LW.gN (want_not rfl rfl rfl) rfl ?_
      refine LW.u (Pur.pickT rfl rfl) rfl ?_
      refine LW.p rfl rfl ?_
      refine LW.gN (want_not rfl rfl rfl) rfl ?_
      refine LW.gN (want_not rfl rfl rfl) rfl ?_
      refine LW.gN (want_not rfl rfl rfl) rfl ?_
      refine LW.u (Pur.pickT rfl rfl) rfl ?_
      refine LW.nil ?_
      replace h := Option.some.inj h
      subst h
      exact ⟨⟨rfl, rfl, trivial⟩, hS8.pick [0] rfl rfl⟩
    replace h := bcF h hc22
    refine LW.gY (want_of rfl rfl hc22) ?_
    refine LW.u (Pur.fa fo123_4 rfl) rfl ?_
    refine LW.gY (want_of rfl rfl hc22) ?_
    refine LW.ldb hS8 0 rfl ag3 rfl rfl rfl ?_
    replace h := obind h
    obtain ⟨y23, hy23, h⟩ := h
    have q := W_i_isTime (w0 := w21) hy23
    refine LW.gY (want_of rfl rfl hc22) ?_
    refine LW.call pl85 rfl rfl ?_
    refine Ret.mono q ?_
    rintro _ w24 ⟨rfl, hs⟩
    have hS9 := hS8.add hs
    refine LW.gY (want_of rfl rfl hc22) ?_
    refine LW.p rfl rfl ?_
    refine LW.u (Pur.pickF rfl hc22) rfl ?_
    refine LW.p rfl rfl ?_
    rcases bcases (!y23) with hc25 | hc25
    · replace h := bcT h hc25
      refine LW.fresh (l := [(1, .pointer (some ⟨g1, 0, none⟩)), (37, .bool (!y23))]) ⟨rfl, rfl, trivial⟩ (fun e => ?_)
      refine LW.gN (want_not rfl rfl hc25) rfl ?_
      refine LW.gN (want_not rfl rfl hc25) rfl ?_
      refine LW.gN (want_not rfl rfl hc25) rfl ?_
      refine LW.gN (want_not rfl rfl hc25) rfl ?_
      refine LW.u (Pur.pickT rfl hc25) rfl ?_
      refine LW.p rfl rfl ?_
      refine LW.gN (want_not rfl rfl rfl) rfl ?_
      refine LW.gN (want_not rfl rfl rfl) rfl ?_
      refine LW.gN (want_not rfl rfl rfl) rfl ?_
      refine LW.u (Pur.pickT rfl rfl) rfl ?_
      refine LW.nil ?_
      replace h := Option.some.inj h
      subst h
      exact ⟨⟨rfl, rfl, trivial⟩, hS9.pick [0] rfl rfl⟩
    replace h := bcF h hc25
    refine LW.fresh (l := [(1, .pointer (some ⟨g1, 0, none⟩)), (37, .bool (!y23))]) ⟨rfl, rfl, trivial⟩ (fun e => ?_)
    refine LW.gY (want_of rfl rfl hc25) ?_
    refine LW.u (Pur.fa fo123_5 rfl) rfl ?_
    refine LW.gY (want_of rfl rfl hc25) ?_
    refine LW.ldb hS9 0 rfl ag3 rfl rfl rfl ?_
    replace h := obind h
    obtain ⟨y26, hy26, h⟩ := h
    have q := W_i_within (w0 := w24) hy26
    refine LW.gY (want_of rfl rfl hc25) ?_
    refine LW.call pl86 rfl rfl ?_
    refine Ret.mono q ?_
    rintro _ w27 ⟨rfl, hs⟩
    have hS10 := hS9.add hs
    refine LW.gY (want_of rfl rfl hc25) ?_
    refine LW.p rfl rfl ?_
    refine LW.u (Pur.pickF rfl hc25) rfl ?_
    refine LW.p rfl rfl ?_
    rcases bcases (!y26) with hc28 | hc28
    · replace h := bcT h hc28
      refine LW.gN (want_not rfl rfl hc28) rfl ?_
      refine LW.gN (want_not rfl rfl hc28) rfl ?_
      refine LW.gN (want_not rfl rfl hc28) rfl ?_
      refine LW.u (Pur.pickT rfl hc28) rfl ?_
      refine LW.nil ?_
      replace h := Option.some.inj h
      subst h
      exact ⟨⟨rfl, rfl, trivial⟩, hS10.pick [0] rfl rfl⟩
    replace h := bcF h hc28
    refine LW.gY (want_of rfl rfl hc28) ?_
    refine LW.ldbN hS10 0 rfl ag123 rfl rfl rfl ?_
    replace h := obind h
    obtain ⟨y29, hy29, h⟩ := h
    have q := W_i_listsOk (w0 := w27) hy29 rfl (hS10.rB hr0_10) rfl (hS10.rB hr0_11) rfl (hS10.rB hr0_12)
    refine LW.gY (want_of rfl rfl hc28) ?_
    refine LW.call pl199 rfl rfl ?_
    refine Ret.mono q ?_
    rintro _ w30 ⟨rfl, hs⟩
    have hS11 := hS10.add hs
    refine LW.gY (want_of rfl rfl hc28) ?_
    refine LW.p rfl rfl ?_
    refine LW.u (Pur.pickF rfl hc28) rfl ?_
    refine LW.nil ?_
    replace h := Option.some.inj h
    subst h
    exact ⟨⟨rfl, rfl, trivial⟩, hS11.pick [0] rfl rfl⟩
  intro e w31 hM
  obtain ⟨hE, hS12⟩ := hM
  obtain ⟨e, rfl⟩ := hE.out
  have h := h16
  show CW _ _ _ _ _ _
  refine CW.cond rfl (fun hc32 => ?_) (fun hc32 => ?_)
  · replace h := bcT h hc32
    refine CW.seq ?_
    refine CW.region ?_
    refine LW.p rfl rfl ?_
    refine LW.nil ?_
    show CW _ _ _ _ _ _
    refine CW.ret ?_
    cases h
    exact And.intro trivial ⟨_, Res.one (resOne.t rfl), rfl, hS12.pick [] rfl rfl⟩
  replace h := bcF h hc32
  refine CW.skip ?_
  show CW _ _ _ _ _ _
  refine CW.seq ?_
  refine CW.seq ?_
  refine CW.region ?_
  refine LW.u (Pur.fa fo123_1 rfl) rfl ?_
  refine LW.ldb hS12 0 rfl ag3 rfl rfl rfl ?_
  refine LW.p rfl rfl ?_
  refine LW.nil ?_
  show CW _ _ _ _ _ _
  refine CW.cond rfl (fun hc33 => ?_) (fun hc33 => ?_)
  · replace h := bcT h hc33
    refine CW.seq ?_
    obtain ⟨j34, hj34, h35⟩ := obind h
    refine CW.cut (fun e wb => En e [(2, .bool j34)] ∧ St w0 [] wb []) ?_ ?_
    · have h := hj34
      refine CW.region ?_
      refine LW.u (Pur.fa fo123_6 rfl) rfl ?_
      refine LW.ldb hS12 0 rfl ag3 rfl rfl rfl ?_
      iterate 2 refine LW.p rfl rfl ?_
      rcases bcases (x0.wait == 0) with hc36 | hc36
      · replace h := bcT h hc36
        refine LW.gY (want_of rfl rfl hc36) ?_
        refine LW.u (Pur.fa fo123_7 rfl) rfl ?_
        refine LW.gY (want_of rfl rfl hc36) ?_
        refine LW.ldb hS12 0 rfl ag3 rfl rfl rfl ?_
        refine LW.gY (want_of rfl rfl hc36) ?_
        refine LW.p rfl rfl ?_
        refine LW.u (Pur.pickT rfl hc36) rfl ?_
        refine LW.p rfl rfl ?_
        rcases bcases (x0.got == 0) with hc37 | hc37
        · replace h := bcT h hc37
          refine LW.gY (want_of rfl rfl hc37) ?_
          refine LW.u (Pur.fa fo123_8 rfl) rfl ?_
          refine LW.gY (want_of rfl rfl hc37) ?_
          refine LW.ldb hS12 0 rfl ag3 rfl rfl rfl ?_
          refine LW.gY (want_of rfl rfl hc37) ?_
          refine LW.p rfl rfl ?_
          refine LW.u (Pur.pickT rfl hc37) rfl ?_
          refine LW.p rfl rfl ?_
          refine LW.nil ?_
          replace h := Option.some.inj h
          subst h
          exact ⟨⟨rfl, trivial⟩, hS12.pick [] rfl rfl⟩
        replace h := bcF h hc37
        refine LW.gN (want_not rfl rfl hc37) rfl ?_
        refine LW.gN (want_not rfl rfl hc37) rfl ?_
        refine LW.gN (want_not rfl rfl hc37) rfl ?_
        refine LW.u (Pur.pickF rfl hc37) rfl ?_
        refine LW.p rfl rfl ?_
        refine LW.nil ?_
        replace h := Option.some.inj h
        subst h
        exact ⟨⟨rfl, trivial⟩, hS12.pick [] rfl rfl⟩
      replace h := bcF h hc36
      refine LW.gN (want_not rfl rfl hc36) rfl ?_
      refine LW.gN (want_not rfl rfl hc36) rfl ?_
      refine LW.gN (want_not rfl rfl hc36) rfl ?_
      refine LW.u (Pur.pickF rfl hc36) rfl ?_
      refine LW.p rfl rfl ?_
      refine LW.gN (want_not rfl rfl rfl) rfl ?_
      refine LW.gN (want_not rfl rfl rfl) rfl ?_
      refine LW.gN (want_not rfl rfl rfl) rfl ?_
      refine LW.u (Pur.pickF rfl rfl) rfl ?_
      refine LW.p rfl rfl ?_
      refine LW.nil ?_
      replace h := Option.some.inj h
      subst h
      exact ⟨⟨rfl, trivial⟩, hS12.pick [] rfl rfl⟩
    intro e w38 hM
    obtain ⟨hE, hS13⟩ := hM
    obtain ⟨e, rfl⟩ := hE.out
    have h := h35
    show CW _ _ _ _ _ _
    refine CW.ret ?_
    cases h
    exact And.intro trivial ⟨_, Res.one (resOne.t rfl), rfl, hS13.pick [] rfl rfl⟩
  replace h := bcF h hc33
  refine CW.skip ?_
  show CW _ _ _ _ _ _
  refine CW.seq ?_
  refine CW.region ?_
  refine LW.u (Pur.fa fo123_6 rfl) rfl ?_
  refine LW.ldb hS12 0 rfl ag3 rfl rfl rfl ?_
  iterate 2 refine LW.p rfl rfl ?_
  rcases bcases (x0.wait == 0) with hc39 | hc39
  · replace h := bcT h hc39
    refine LW.gN (want_not rfl rfl hc39) rfl ?_
    refine LW.gN (want_not rfl rfl hc39) rfl ?_
    refine LW.gN (want_not rfl rfl hc39) rfl ?_
    refine LW.gN (want_not rfl rfl hc39) rfl ?_
    refine LW.u (Pur.pickT rfl hc39) rfl ?_
    refine LW.p rfl rfl ?_
    refine LW.gY (want_of rfl rfl rfl) ?_
    refine LW.u (Pur.fa fo123_7 rfl) rfl ?_
    refine LW.gY (want_of rfl rfl rfl) ?_
    refine LW.ldb hS12 0 rfl ag3 rfl rfl rfl ?_
    replace h := obind h
    obtain ⟨y40, hy40, h⟩ := h
    have q := W_i_within (w0 := w31) hy40
    refine LW.gY (want_of rfl rfl rfl) ?_
    refine LW.call pl86 rfl rfl ?_
    refine Ret.mono q ?_
    rintro _ w41 ⟨rfl, hs⟩
    have hS14 := hS12.add hs
    refine LW.u (Pur.pickT rfl rfl) rfl ?_
    refine LW.p rfl rfl ?_
    rcases bcases y40 with hc42 | hc42
    · replace h := bcT h hc42
      refine LW.fresh (l := [(1, .pointer (some ⟨g1, 0, none⟩)), (78, .bool y40)]) ⟨rfl, rfl, trivial⟩ (fun e => ?_)
      refine LW.gY (want_of rfl rfl hc42) ?_
      refine LW.u (Pur.fa fo123_8 rfl) rfl ?_
      refine LW.gY (want_of rfl rfl hc42) ?_
      refine LW.ldb hS14 0 rfl ag3 rfl rfl rfl ?_
      replace h := obind h
      obtain ⟨y43, hy43, h⟩ := h
      have q := W_i_isTime (w0 := w41) hy43
      refine LW.gY (want_of rfl rfl hc42) ?_
      refine LW.call pl85 rfl rfl ?_
      refine Ret.mono q ?_
      rintro _ w44 ⟨rfl, hs⟩
      have hS15 := hS14.add hs
      refine LW.u (Pur.pickT rfl hc42) rfl ?_
      refine LW.p rfl rfl ?_
      refine LW.nil ?_
      show CW _ _ _ _ _ _
      refine CW.ret ?_
      cases h
      exact And.intro trivial ⟨_, Res.one (resOne.t rfl), rfl, hS15.pick [] rfl rfl⟩
    replace h := bcF h hc42
    refine LW.fresh (l := [(1, .pointer (some ⟨g1, 0, none⟩)), (78, .bool y40)]) ⟨rfl, rfl, trivial⟩ (fun e => ?_)
    refine LW.gN (want_not rfl rfl hc42) rfl ?_
    refine LW.gN (want_not rfl rfl hc42) rfl ?_
    refine LW.gN (want_not rfl rfl hc42) rfl ?_
    refine LW.u (Pur.pickF rfl hc42) rfl ?_
    refine LW.p rfl rfl ?_
    refine LW.nil ?_
    show CW _ _ _ _ _ _
    refine CW.ret ?_
    cases h
    exact And.intro trivial ⟨_, Res.one (resOne.t rfl), rfl, hS14.pick [] rfl rfl⟩
  replace h := bcF h hc39
  refine LW.gY (want_of rfl rfl hc39) ?_
  refine LW.u (Pur.fa fo123_6 rfl) rfl ?_
  refine LW.gY (want_of rfl rfl hc39) ?_
  refine LW.ldb hS12 0 rfl ag3 rfl rfl rfl ?_
  refine LW.gY (want_of rfl rfl hc39) ?_
  refine LW.p rfl rfl ?_
  replace h := obind h
  obtain ⟨y45, hy45, h⟩ := h
  have q := W_i_isHandle (w0 := w31) hy45
  refine LW.gY (want_of rfl rfl hc39) ?_
  refine LW.call pl200 rfl rfl ?_
  refine Ret.mono q ?_
  rintro _ w46 ⟨rfl, hs⟩
  have hS16 := hS12.add hs
  refine LW.u (Pur.pickF rfl hc39) rfl ?_
  refine LW.p rfl rfl ?_
  rcases bcases y45 with hc47 | hc47
  · replace h := bcT h hc47
    refine LW.gY (want_of rfl rfl hc47) ?_
    refine LW.u (Pur.fa fo123_7 rfl) rfl ?_
    refine LW.gY (want_of rfl rfl hc47) ?_
    refine LW.ldb hS16 0 rfl ag3 rfl rfl rfl ?_
    replace h := obind h
    obtain ⟨y48, hy48, h⟩ := h
    have q := W_i_within (w0 := w46) hy48
    refine LW.gY (want_of rfl rfl hc47) ?_
    refine LW.call pl86 rfl rfl ?_
    refine Ret.mono q ?_
    rintro _ w49 ⟨rfl, hs⟩
    have hS17 := hS16.add hs
    refine LW.u (Pur.pickT rfl hc47) rfl ?_
    refine LW.p rfl rfl ?_
    refine LW.fresh (l := [(1, .pointer (some ⟨g1, 0, none⟩)), (78, .bool y48)]) ⟨rfl, rfl, trivial⟩ (fun e => ?_)
    rcases bcases y48 with hc50 | hc50
    · replace h := bcT h hc50
      refine LW.gY (want_of rfl rfl hc50) ?_
      refine LW.u (Pur.fa fo123_8 rfl) rfl ?_
      refine LW.gY (want_of rfl rfl hc50) ?_
      refine LW.ldb hS17 0 rfl ag3 rfl rfl rfl ?_
      replace h := obind h
      obtain ⟨y51, hy51, h⟩ := h
      have q := W_i_isTime (w0 := w49) hy51
      refine LW.gY (want_of rfl rfl hc50) ?_
      refine LW.call pl85 rfl rfl ?_
      refine Ret.mono q ?_
      rintro _ w52 ⟨rfl, hs⟩
      have hS18 := hS17.add hs
      refine LW.u (Pur.pickT rfl hc50) rfl ?_
      refine LW.p rfl rfl ?_
      refine LW.nil ?_
      show CW _ _ _ _ _ _
      refine CW.ret ?_
      cases h
      exact And.intro trivial ⟨_, Res.one (resOne.t rfl), rfl, hS18.pick [] rfl rfl⟩
    replace h := bcF h hc50
    refine LW.gN (want_not rfl rfl hc50) rfl ?_
    refine LW.gN (want_not rfl rfl hc50) rfl ?_
    refine LW.gN (want_not rfl rfl hc50) rfl ?_
    refine LW.u (Pur.pickF rfl hc50) rfl ?_
    refine LW.p rfl rfl ?_
    refine LW.nil ?_
    show CW _ _ _ _ _ _
    refine CW.ret ?_
    cases h
    exact And.intro trivial ⟨_, Res.one (resOne.t rfl), rfl, hS17.pick [] rfl rfl⟩
  replace h := bcF h hc47
  refine LW.gN (want_not rfl rfl hc47) rfl ?_
  refine LW.gN (want_not rfl rfl hc47) rfl ?_
  refine LW.gN (want_not rfl rfl hc47) rfl ?_
  refine LW.u (Pur.pickF rfl hc47) rfl ?_
  refine LW.p rfl rfl ?_
  refine LW.fresh (l := [(1, .pointer (some ⟨g1, 0, none⟩)), (78, .bool false)]) ⟨rfl, rfl, trivial⟩ (fun e => ?_)
  refine LW.gN (want_not rfl rfl rfl) rfl ?_
  refine LW.gN (want_not rfl rfl rfl) rfl ?_
  refine LW.gN (want_not rfl rfl rfl) rfl ?_
  refine LW.u (Pur.pickF rfl rfl) rfl ?_
  refine LW.p rfl rfl ?_
  refine LW.nil ?_
  show CW _ _ _ _ _ _
  refine CW.ret ?_
  cases h
  exact And.intro trivial ⟨_, Res.one (resOne.t rfl), rfl, hS16.pick [] rfl rfl⟩

theorem W_i_ArenaOk {w0 : World} {N : Nat} {x0 : List DObj} {r : Bool} (h : F_i_ArenaOk N x0 = some r) {a0_0 : Option Addr} {n0_0 c0_0 : Nat} (hn0_0 : n0_0 = x0.length) (hr0_0 : rdS (Bor w0 []) w0 a0_0 c0_0 x0) :
    Ret Try.prog 168 #[.slice a0_0 n0_0 c0_0] w0 (fun v w => v = .bool r ∧ St w0 [] w []) := by
  subst hn0_0
  unfold F_i_ArenaOk at h
  refine Ret.of Try.func168 rfl rfl rfl ?_
  have hS1 := St.start w0
  refine CW.seq ?_
  refine CW.region ?_
  refine LW.p rfl rfl ?_
  refine LW.nil ?_
  show CW _ _ _ _ _ _
  refine CW.seq ?_
  refine CW.seq ?_
  obtain ⟨j1, hj1, h2⟩ := obind h
  refine CW.cut (fun e wb => En e [(0, .slice a0_0 x0.length c0_0), (30, .bool j1)] ∧ St w0 [] wb []) ?_ ?_
  · have h := hj1
    refine CW.region ?_
    refine LW.p rfl rfl ?_
    refine LW.u (Pur.len Try.underlying68 rfl) rfl ?_
    iterate 2 refine LW.p rfl rfl ?_
    rcases bcases ((x0.length : Int) != 10) with hc3 | hc3
    · replace h := bcT h hc3
      refine LW.gN (want_not rfl rfl hc3) rfl ?_
      refine LW.gN (want_not rfl rfl hc3) rfl ?_
      refine LW.gN (want_not rfl rfl hc3) rfl ?_
      refine LW.gN (want_not rfl rfl hc3) rfl ?_
      refine LW.gN (want_not rfl rfl hc3) rfl ?_
      refine LW.u (Pur.pickT rfl hc3) rfl ?_
      refine LW.p rfl rfl ?_
      refine LW.gN (want_not rfl rfl rfl) rfl ?_
      refine LW.gN (want_not rfl rfl rfl) rfl ?_
      refine LW.gN (want_not rfl rfl rfl) rfl ?_
      refine LW.gN (want_not rfl rfl rfl) rfl ?_
      refine LW.gN (want_not rfl rfl rfl) rfl ?_
      refine LW.u (Pur.pickT rfl rfl) rfl ?_
      refine LW.p rfl rfl ?_
      refine LW.gN (want_not rfl rfl rfl) rfl ?_
      refine LW.gN (want_not rfl rfl rfl) rfl ?_
      refine LW.gN (want_not rfl rfl rfl) rfl ?_
      refine LW.gN (want_not rfl rfl rfl) rfl ?_
      refine LW.gN (want_not rfl rfl rfl) rfl ?_
      refine LW.fresh (l := [(0, .slice a0_0 x0.length c0_0), (24, .bool true), (29, undef)]) ⟨rfl, rfl, rfl, trivial⟩ (fun e => ?_)
      refine LW.u (Pur.pickT rfl rfl) rfl ?_
      refine LW.nil ?_
      replace h := Option.some.inj h
      subst h
      exact ⟨⟨rfl, rfl, trivial⟩, hS1.pick [] rfl rfl⟩
    replace h := bcF h hc3
    refine LW.gY (want_of rfl rfl hc3) ?_
    refine LW.p rfl rfl ?_
    replace h := obind h
    obtain ⟨y4, hy4, h⟩ := h
    obtain ⟨b7, o8, cs9, hae, hb12, hp5, hq6, hd10, hk11⟩ := hr0_0.idx hy4
    subst hae
    obtain ⟨a13, c14, a16, c17, a19, c20, rfl, hr15, hr18, hr21⟩ := hd10
    refine LW.gY (want_of rfl rfl hc3) ?_
    refine LW.u (Pur.ix Try.underlying68 sz123 rfl rfl hp5 hq6) rfl ?_
    refine LW.gY (want_of rfl rfl hc3) ?_
    refine LW.u (Pur.fa fo123_1 rfl) rfl ?_
    refine LW.gY (want_of rfl rfl hc3) ?_
    refine LW.l (Ldr.old w0 ag3 rfl (hk11 1 _ rfl)) (hS1.same _ hb12.1 hb12.2) rfl ?_
    refine LW.gY (want_of rfl rfl hc3) ?_
    refine LW.p rfl rfl ?_
    refine LW.u (Pur.pickF rfl hc3) rfl ?_
    refine LW.p rfl rfl ?_
    rcases bcases (y4.kind != 1) with hc22 | hc22
    · replace h := bcT h hc22
      refine LW.gN (want_not rfl rfl hc22) rfl ?_
      refine LW.gN (want_not rfl rfl hc22) rfl ?_
      refine LW.gN (want_not rfl rfl hc22) rfl ?_
      refine LW.gN (want_not rfl rfl hc22) rfl ?_
      refine LW.gN (want_not rfl rfl hc22) rfl ?_
      refine LW.u (Pur.pickT rfl hc22) rfl ?_
      refine LW.p rfl rfl ?_
      refine LW.gN (want_not rfl rfl rfl) rfl ?_
      refine LW.gN (want_not rfl rfl rfl) rfl ?_
      refine LW.gN (want_not rfl rfl rfl) rfl ?_
      refine LW.fresh (l := [(0, .slice (some ⟨b7, o8, none⟩) x0.length c0_0), (24, .bool true), (27, undef)]) ⟨rfl, rfl, rfl, trivial⟩ (fun e => ?_)
      refine LW.gN (want_not rfl rfl rfl) rfl ?_
      refine LW.gN (want_not rfl rfl rfl) rfl ?_
      refine LW.u (Pur.pickT rfl rfl) rfl ?_
      refine LW.nil ?_
      replace h := Option.some.inj h
      subst h
      exact ⟨⟨rfl, rfl, trivial⟩, hS1.pick [] rfl rfl⟩
    replace h := bcF h hc22
    refine LW.gY (want_of rfl rfl hc22) ?_
    refine LW.p rfl rfl ?_
    refine LW.gY (want_of rfl rfl hc22) ?_
    refine LW.u (Pur.ix Try.underlying68 sz123 rfl rfl hp5 hq6) rfl ?_
    refine LW.gY (want_of rfl rfl hc22) ?_
    refine LW.u (Pur.fa fo123_2 rfl) rfl ?_
    refine LW.gY (want_of rfl rfl hc22) ?_
    refine LW.l (Ldr.old w0 ag3 rfl (hk11 2 _ rfl)) (hS1.same _ hb12.1 hb12.2) rfl ?_
    refine LW.gY (want_of rfl rfl hc22) ?_
    refine LW.p rfl rfl ?_
    refine LW.u (Pur.pickF rfl hc22) rfl ?_
    refine LW.p rfl rfl ?_
    rcases bcases (y4.box != (-1)) with hc23 | hc23
    · replace h := bcT h hc23
      refine LW.gN (want_not rfl rfl hc23) rfl ?_
      refine LW.gN (want_not rfl rfl hc23) rfl ?_
      refine LW.fresh (l := [(0, .slice (some ⟨b7, o8, none⟩) x0.length c0_0), (24, .bool (y4.box != (-1))), (26, undef)]) ⟨rfl, rfl, rfl, trivial⟩ (fun e => ?_)
      refine LW.gN (want_not rfl rfl hc23) rfl ?_
      refine LW.gN (want_not rfl rfl hc23) rfl ?_
      refine LW.gN (want_not rfl rfl hc23) rfl ?_
      refine LW.u (Pur.pickT rfl hc23) rfl ?_
      refine LW.nil ?_
      replace h := Option.some.inj h
      subst h
      exact ⟨⟨rfl, rfl, trivial⟩, hS1.pick [] rfl rfl⟩
    replace h := bcF h hc23
    refine LW.gY (want_of rfl rfl hc23) ?_
    refine LW.p rfl rfl ?_
    refine LW.gY (want_of rfl rfl hc23) ?_
    refine LW.u (Pur.ix Try.underlying68 sz123 rfl rfl hp5 hq6) rfl ?_
    refine LW.fresh (l := [(0, .slice (some ⟨b7, o8, none⟩) x0.length c0_0), (24, .bool (y4.box != (-1))), (26, .pointer (some ⟨b7, o8 + (0 : Int).toNat * 13, none⟩))]) ⟨rfl, rfl, rfl, trivial⟩ (fun e => ?_)
    refine LW.gY (want_of rfl rfl hc23) ?_
    refine LW.u (Pur.fa fo123_4 rfl) rfl ?_
    refine LW.gY (want_of rfl rfl hc23) ?_
    refine LW.l (Ldr.old w0 ag3 rfl (hk11 4 _ rfl)) (hS1.same _ hb12.1 hb12.2) rfl ?_
    refine LW.gY (want_of rfl rfl hc23) ?_
    refine LW.p rfl rfl ?_
    refine LW.u (Pur.pickF rfl hc23) rfl ?_
    refine LW.nil ?_
    replace h := Option.some.inj h
    subst h
    exact ⟨⟨rfl, rfl, trivial⟩, hS1.pick [] rfl rfl⟩
  intro e w24 hM
  obtain ⟨hE, hS2⟩ := hM
  obtain ⟨e, rfl⟩ := hE.out
  have h := h2
  show CW _ _ _ _ _ _
  refine CW.cond rfl (fun hc25 => ?_) (fun hc25 => ?_)
  · replace h := bcT h hc25
    refine CW.seq ?_
    refine CW.region ?_
    refine LW.p rfl rfl ?_
    refine LW.nil ?_
    show CW _ _ _ _ _ _
    refine CW.ret ?_
    cases h
    exact And.intro trivial ⟨_, Res.one (resOne.t rfl), rfl, hS2.pick [] rfl rfl⟩
  replace h := bcF h hc25
  refine CW.skip ?_
  show CW _ _ _ _ _ _
  refine CW.seq ?_
  refine CW.seq ?_
  refine CW.region ?_
  refine LW.p rfl rfl ?_
  refine LW.u (Pur.len Try.underlying68 rfl) rfl ?_
  refine LW.p rfl rfl ?_
  refine LW.nil ?_
  show CW _ _ _ _ _ _
  refine CW.block ?_
  obtain ⟨o117, ho117, h118⟩ := obind h
  refine CW.mono (CW.iter (σ := Int) (ρ := Int ⊕ Bool) (fun s26 e wb => En e [(0, .slice a0_0 x0.length c0_0), (31, .slice a0_0 x0.length c0_0), (32, .int .i64 (x0.length : Int)), (33, .int .i64 s26)] ∧ St w0 [] wb []) (fun o x e wb => match o with | .inl s26 => x = .exit 0 ∧ En e [] ∧ St w0 [] wb [] | .inr r => x = .ret ∧ ∃ u, u = r ∧ ∃ v, Res Try.prog Try.f168.results e wb v ∧ v = .bool u ∧ St w0 [] wb []) ?_ N 0 _ _ _ ⟨⟨rfl, rfl, rfl, rfl, trivial⟩, hS2.pick [] rfl rfl⟩ ho117) ?_
  · intro s26 e w27 o hM h
    obtain ⟨hE, hS3⟩ := hM
    obtain ⟨e, rfl⟩ := hE.out
    refine CW.seq ?_
    refine CW.region ?_
    refine LW.p rfl rfl ?_
    refine LW.nil ?_
    show CW _ _ _ _ _ _
    refine CW.seq ?_
    refine CW.cond rfl (fun hc28 => ?_) (fun hc28 => ?_)
    · replace h := bcT h hc28
      refine CW.skip ?_
      show CW _ _ _ _ _ _
      refine CW.seq ?_
      refine CW.block ?_
      refine CW.seq ?_
      refine CW.region ?_
      refine LW.p rfl rfl ?_
      replace h := obind h
      obtain ⟨y29, hy29, h⟩ := h
      obtain ⟨b32, o33, cs34, hae, hb37, hp30, hq31, hd35, hk36⟩ := hr0_0.idx hy29
      subst hae
      obtain ⟨a38, c39, a41, c42, a44, c45, rfl, hr40, hr43, hr46⟩ := hd35
      refine LW.u (Pur.ix Try.underlying68 sz123 rfl rfl hp30 hq31) rfl ?_
      refine LW.l (Ldr.oldN w0 ag123 rfl rfl (fun j u hu => hk36 j u hu)) (hS3.same _ hb37.1 hb37.2) rfl ?_
      refine LW.alloc zv123 hS3 rfl ?_
      intro g47 w48 hS4 hf
      refine LW.p rfl rfl ?_
      refine LW.stb hS4 0 rfl ag123 rfl rfl rfl rfl rfl ?_
      intro w49 hS5 hf
      refine LW.nil ?_
      show CW _ _ _ _ _ _
      refine CW.seq ?_
      refine CW.seq ?_
      obtain ⟨j50, hj50, h51⟩ := obind h
      refine CW.cut (fun e wb => En e [(0, .slice (some ⟨b32, o33, none⟩) x0.length c0_0), (4, .pointer (some ⟨g47, 0, none⟩)), (31, .slice (some ⟨b32, o33, none⟩) x0.length c0_0), (32, .int .i64 (x0.length : Int)), (33, .int .i64 s26), (63, .bool j50)] ∧ St w0 [] wb [bx g47 123 [.int .i64 y29.gen, .int .i64 y29.kind, .int .i64 y29.box, .int .i64 y29.res, .int .i64 y29.til, .int .i64 y29.pages, .int .i64 y29.wait, .int .i64 y29.got, .int .i64 y29.ran, .bool y29.mark, .slice a38 y29.links.length c39, .slice a41 y29.data.length c42, .slice a44 y29.queue.length c45]]) ?_ ?_
      · have h := hj50
        refine CW.region ?_
        refine LW.ldbN hS5 0 rfl ag123 rfl rfl rfl ?_
        replace h := obind h
        obtain ⟨y52, hy52, h⟩ := h
        have q := W_i_ObjOk (w0 := w49) hy52 rfl (hS5.rB hr40) rfl (hS5.rB hr43) rfl (hS5.rB hr46)
        refine LW.call pl191 rfl rfl ?_
        refine Ret.mono q ?_
        rintro _ w53 ⟨rfl, hs⟩
        have hS6 := hS5.add hs
        iterate 2 refine LW.p rfl rfl ?_
        rcases bcases (!y52) with hc54 | hc54
        · replace h := bcT h hc54
          refine LW.gN (want_not rfl rfl hc54) rfl ?_
          refine LW.gN (want_not rfl rfl hc54) rfl ?_
          refine LW.gN (want_not rfl rfl hc54) rfl ?_
          refine LW.gN (want_undef rfl rfl) rfl ?_
          refine LW.gN (want_undef rfl rfl) rfl ?_
          refine LW.gN (want_undef rfl rfl) rfl ?_
          refine LW.gN (want_not rfl rfl hc54) rfl ?_
          refine LW.gN (want_not rfl rfl hc54) rfl ?_
          refine LW.fresh (l := [(0, .slice (some ⟨b32, o33, none⟩) x0.length c0_0), (4, .pointer (some ⟨g47, 0, none⟩)), (31, .slice (some ⟨b32, o33, none⟩) x0.length c0_0), (32, .int .i64 (x0.length : Int)), (33, .int .i64 s26), (41, .bool (!y52)), (49, undef)]) ⟨rfl, rfl, rfl, rfl, rfl, rfl, rfl, trivial⟩ (fun e => ?_)
          refine LW.gN (want_undef rfl rfl) rfl ?_
          refine LW.gN (want_undef rfl rfl) rfl ?_
          refine LW.gN (want_undef rfl rfl) rfl ?_
          refine LW.gN (want_not rfl rfl hc54) rfl ?_
          refine LW.gN (want_not rfl rfl hc54) rfl ?_
          refine LW.gN (want_undef rfl rfl) rfl ?_
          refine LW.gN (want_undef rfl rfl) rfl ?_
          refine LW.gN (want_undef rfl rfl) rfl ?_
          refine LW.gN (want_undef rfl rfl) rfl ?_
          refine LW.gN (want_undef rfl rfl) rfl ?_
          refine LW.gN (want_undef rfl rfl) rfl ?_
          refine LW.gN (want_undef rfl rfl) rfl ?_
          refine LW.gN (want_not rfl rfl hc54) rfl ?_
          refine LW.u (Pur.pickT rfl hc54) rfl ?_
          refine LW.nil ?_
          replace h := Option.some.inj h
          subst h
          exact ⟨⟨rfl, rfl, rfl, rfl, rfl, rfl, trivial⟩, hS6.pick [0] rfl rfl⟩
        replace h := bcF h hc54
        refine LW.gY (want_of rfl rfl hc54) ?_
        refine LW.p rfl rfl ?_
        refine LW.gY (want_of rfl rfl hc54) ?_
        refine LW.p rfl rfl ?_
        refine LW.gY (want_of rfl rfl hc54) ?_
        refine LW.p rfl rfl ?_
        rcases bcases (decide (s26 > 0)) with hc55 | hc55
        · replace h := bcT h hc55
          refine LW.gY (want_of rfl rfl hc55) ?_
          refine LW.u (Pur.fa fo123_1 rfl) rfl ?_
          refine LW.gY (want_of rfl rfl hc55) ?_
          refine LW.ldb hS6 0 rfl ag3 rfl rfl rfl ?_
          refine LW.gY (want_of rfl rfl hc55) ?_
          refine LW.p rfl rfl ?_
          refine LW.gY (want_of rfl rfl hc54) ?_
          refine LW.u (Pur.pickT rfl hc55) rfl ?_
          refine LW.fresh (l := [(0, .slice (some ⟨b32, o33, none⟩) x0.length c0_0), (4, .pointer (some ⟨g47, 0, none⟩)), (31, .slice (some ⟨b32, o33, none⟩) x0.length c0_0), (32, .int .i64 (x0.length : Int)), (33, .int .i64 s26), (41, .bool (!y52)), (48, .bool (y29.kind != 0))]) ⟨rfl, rfl, rfl, rfl, rfl, rfl, rfl, trivial⟩ (fun e => ?_)
          refine LW.gY (want_of rfl rfl hc54) ?_
          refine LW.p rfl rfl ?_
          rcases bcases (y29.kind != 0) with hc56 | hc56
          · replace h := bcT h hc56
            refine LW.gY (want_of rfl rfl hc56) ?_
            refine LW.u (Pur.fa fo123_2 rfl) rfl ?_
            refine LW.gY (want_of rfl rfl hc56) ?_
            refine LW.ldb hS6 0 rfl ag3 rfl rfl rfl ?_
            refine LW.gY (want_of rfl rfl hc56) ?_
            refine LW.p rfl rfl ?_
            refine LW.gY (want_of rfl rfl hc54) ?_
            refine LW.u (Pur.pickT rfl hc56) rfl ?_
            refine LW.gY (want_of rfl rfl hc54) ?_
            refine LW.p rfl rfl ?_
            rcases bcases (decide (y29.box ≥ 0)) with hc57 | hc57
            · replace h := bcT h hc57
              refine LW.gY (want_of rfl rfl hc57) ?_
              refine LW.p rfl rfl ?_
              refine LW.gY (want_of rfl rfl hc57) ?_
              refine LW.u (Pur.fa fo123_2 rfl) rfl ?_
              refine LW.gY (want_of rfl rfl hc57) ?_
              refine LW.ldb hS6 0 rfl ag3 rfl rfl rfl ?_
              replace h := obind h
              obtain ⟨y58, hy58, h⟩ := h
              obtain ⟨b61, o62, cs63, hae, hb66, hp59, hq60, hd64, hk65⟩ := hr0_0.idx hy58
              cases hae
              obtain ⟨a67, c68, a70, c71, a73, c74, rfl, hr69, hr72, hr75⟩ := hd64
              refine LW.gY (want_of rfl rfl hc57) ?_
              refine LW.u (Pur.ix Try.underlying68 sz123 rfl rfl hp59 hq60) rfl ?_
              refine LW.gY (want_of rfl rfl hc57) ?_
              refine LW.u (Pur.fa fo123_1 rfl) rfl ?_
              refine LW.gY (want_of rfl rfl hc57) ?_
              refine LW.l (Ldr.old w0 ag3 rfl (hk65 1 _ rfl)) (hS6.same _ hb66.1 hb66.2) rfl ?_
              refine LW.gY (want_of rfl rfl hc57) ?_
              refine LW.p rfl rfl ?_
              refine LW.gY (want_of rfl rfl hc54) ?_
              refine LW.u (Pur.pickT rfl hc57) rfl ?_
              refine LW.u (Pur.pickF rfl hc54) rfl ?_
              refine LW.nil ?_
              replace h := Option.some.inj h
              subst h
              exact ⟨⟨rfl, rfl, rfl, rfl, rfl, rfl, trivial⟩, hS6.pick [0] rfl rfl⟩
            replace h := bcF h hc57
            refine LW.gN (want_not rfl rfl hc57) rfl ?_
            refine LW.gN (want_not rfl rfl hc57) rfl ?_
            refine LW.gN (want_not rfl rfl hc57) rfl ?_
            refine LW.gN (want_not rfl rfl hc57) rfl ?_
            refine LW.gN (want_not rfl rfl hc57) rfl ?_
            refine LW.gN (want_not rfl rfl hc57) rfl ?_
            refine LW.gN (want_not rfl rfl hc57) rfl ?_
            refine LW.gY (want_of rfl rfl hc54) ?_
            refine LW.u (Pur.pickF rfl hc57) rfl ?_
            refine LW.u (Pur.pickF rfl hc54) rfl ?_
            refine LW.nil ?_
            replace h := Option.some.inj h
            subst h
            exact ⟨⟨rfl, rfl, rfl, rfl, rfl, rfl, trivial⟩, hS6.pick [0] rfl rfl⟩
          replace h := bcF h hc56
          refine LW.gN (want_not rfl rfl hc56) rfl ?_
          refine LW.gN (want_not rfl rfl hc56) rfl ?_
          refine LW.gN (want_not rfl rfl hc56) rfl ?_
          refine LW.gY (want_of rfl rfl hc54) ?_
          refine LW.u (Pur.pickF rfl hc56) rfl ?_
          refine LW.gY (want_of rfl rfl hc54) ?_
          refine LW.p rfl rfl ?_
          refine LW.gN (want_not rfl rfl rfl) rfl ?_
          refine LW.gN (want_not rfl rfl rfl) rfl ?_
          refine LW.gN (want_not rfl rfl rfl) rfl ?_
          refine LW.gN (want_not rfl rfl rfl) rfl ?_
          refine LW.gN (want_not rfl rfl rfl) rfl ?_
          refine LW.gN (want_not rfl rfl rfl) rfl ?_
          refine LW.gN (want_not rfl rfl rfl) rfl ?_
          refine LW.gY (want_of rfl rfl hc54) ?_
          refine LW.u (Pur.pickF rfl rfl) rfl ?_
          refine LW.u (Pur.pickF rfl hc54) rfl ?_
          refine LW.nil ?_
          replace h := Option.some.inj h
          subst h
          exact ⟨⟨rfl, rfl, rfl, rfl, rfl, rfl, trivial⟩, hS6.pick [0] rfl rfl⟩
        replace h := bcF h hc55
        refine LW.gN (want_not rfl rfl hc55) rfl ?_
        refine LW.gN (want_not rfl rfl hc55) rfl ?_
        refine LW.gN (want_not rfl rfl hc55) rfl ?_
        refine LW.gY (want_of rfl rfl hc54) ?_
        refine LW.u (Pur.pickF rfl hc55) rfl ?_
        refine LW.fresh (l := [(0, .slice (some ⟨b32, o33, none⟩) x0.length c0_0), (4, .pointer (some ⟨g47, 0, none⟩)), (31, .slice (some ⟨b32, o33, none⟩) x0.length c0_0), (32, .int .i64 (x0.length : Int)), (33, .int .i64 s26), (41, .bool (!y52)), (48, .bool false)]) ⟨rfl, rfl, rfl, rfl, rfl, rfl, rfl, trivial⟩ (fun e => ?_)
        refine LW.gY (want_of rfl rfl hc54) ?_
        refine LW.p rfl rfl ?_
        refine LW.gN (want_not rfl rfl rfl) rfl ?_
        refine LW.gN (want_not rfl rfl rfl) rfl ?_
        refine LW.gN (want_not rfl rfl rfl) rfl ?_
        refine LW.gY (want_of rfl rfl hc54) ?_
        refine LW.u (Pur.pickF rfl rfl) rfl ?_
        refine LW.gY (want_of rfl rfl hc54) ?_
        refine LW.p rfl rfl ?_
        refine LW.gN (want_not rfl rfl rfl) rfl ?_
        refine LW.gN (want_not rfl rfl rfl) rfl ?_
        refine LW.gN (want_not rfl rfl rfl) rfl ?_
        refine LW.gN (want_not rfl rfl rfl) rfl ?_
        refine LW.gN (want_not rfl rfl rfl) rfl ?_
        refine LW.gN (want_not rfl rfl rfl) rfl ?_
        refine LW.gN (want_not rfl rfl rfl) rfl ?_
        refine LW.gY (want_of rfl rfl hc54) ?_
        refine LW.u (Pur.pickF rfl rfl) rfl ?_
        refine LW.u (Pur.pickF rfl hc54) rfl ?_
        refine LW.nil ?_
        replace h := Option.some.inj h
        subst h
        exact ⟨⟨rfl, rfl, rfl, rfl, rfl, rfl, trivial⟩, hS6.pick [0] rfl rfl⟩
      intro e w76 hM
      obtain ⟨hE, hS7⟩ := hM
      obtain ⟨e, rfl⟩ := hE.out
      have h := h51
      show CW _ _ _ _ _ _
      refine CW.cond rfl (fun hc77 => ?_) (fun hc77 => ?_)
      · replace h := bcT h hc77
        refine CW.seq ?_
        refine CW.region ?_
        refine LW.p rfl rfl ?_
        refine LW.nil ?_
        show CW _ _ _ _ _ _
        refine CW.fresh (l := [(2, .bool false)]) ⟨rfl, trivial⟩ (fun e => ?_)
        refine CW.ret ?_
        replace h := Option.some.inj h
        subst h
        exact ⟨trivial, rfl, _, rfl, ⟨_, Res.one (resOne.t rfl), rfl, hS7.pick [] rfl rfl⟩⟩
      replace h := bcF h hc77
      refine CW.skip ?_
      show CW _ _ _ _ _ _
      refine CW.seq ?_
      refine CW.region ?_
      refine LW.u (Pur.fa fo123_10 rfl) rfl ?_
      refine LW.ldb hS7 0 rfl ag24 rfl rfl rfl ?_
      refine LW.u (Pur.len Try.underlying24 rfl) rfl ?_
      refine LW.p rfl rfl ?_
      refine LW.nil ?_
      show CW _ _ _ _ _ _
      refine CW.fresh (l := [(0, .slice (some ⟨b32, o33, none⟩) x0.length c0_0), (31, .slice (some ⟨b32, o33, none⟩) x0.length c0_0), (32, .int .i64 (x0.length : Int)), (33, .int .i64 s26), (65, .slice a38 y29.links.length c39), (66, .int .i64 (y29.links.length : Int)), (67, .int .i64 0)]) ⟨rfl, rfl, rfl, rfl, rfl, rfl, rfl, trivial⟩ (fun e => ?_)
      refine CW.block ?_
      obtain ⟨o113, ho113, h114⟩ := obind h
      refine CW.mono (CW.iter (σ := Int) (ρ := Int ⊕ Bool) (fun s78 e wb => En e [(0, .slice (some ⟨b32, o33, none⟩) x0.length c0_0), (31, .slice (some ⟨b32, o33, none⟩) x0.length c0_0), (32, .int .i64 (x0.length : Int)), (33, .int .i64 s26), (65, .slice a38 y29.links.length c39), (66, .int .i64 (y29.links.length : Int)), (67, .int .i64 s78)] ∧ St w0 [] wb []) (fun o x e wb => match o with | .inl s78 => x = .exit 2 ∧ En e [(0, .slice (some ⟨b32, o33, none⟩) x0.length c0_0), (31, .slice (some ⟨b32, o33, none⟩) x0.length c0_0), (32, .int .i64 (x0.length : Int)), (33, .int .i64 s26)] ∧ St w0 [] wb [] | .inr r => x = .ret ∧ ∃ u, u = r ∧ ∃ v, Res Try.prog Try.f168.results e wb v ∧ v = .bool u ∧ St w0 [] wb []) ?_ N 0 _ _ _ ⟨⟨rfl, rfl, rfl, rfl, rfl, rfl, rfl, trivial⟩, hS7.pick [] rfl rfl⟩ ho113) ?_
      · intro s78 e w79 o hM h
        obtain ⟨hE, hS8⟩ := hM
        obtain ⟨e, rfl⟩ := hE.out
        refine CW.seq ?_
        refine CW.region ?_
        refine LW.p rfl rfl ?_
        refine LW.nil ?_
        show CW _ _ _ _ _ _
        refine CW.seq ?_
        refine CW.cond rfl (fun hc80 => ?_) (fun hc80 => ?_)
        · replace h := bcT h hc80
          refine CW.skip ?_
          show CW _ _ _ _ _ _
          refine CW.seq ?_
          refine CW.block ?_
          refine CW.seq ?_
          refine CW.region ?_
          replace h := obind h
          obtain ⟨y81, hy81, h⟩ := h
          obtain ⟨b84, o85, cs86, hae, hb89, hp82, hq83, hd87, hk88⟩ := hr40.idx hy81
          subst hae
          obtain rfl := hd87
          refine LW.u (Pur.ix Try.underlying24 sz3 rfl rfl hp82 hq83) rfl ?_
          refine LW.l (Ldr.old w0 ag3 rfl (hk88 0 _ rfl)) (hS8.same _ hb89.1 hb89.2) rfl ?_
          refine LW.p rfl rfl ?_
          refine LW.nil ?_
          show CW _ _ _ _ _ _
          refine CW.seq ?_
          obtain ⟨j90, hj90, h91⟩ := obind h
          refine CW.cut (fun e wb => En e [(0, .slice (some ⟨b32, o33, none⟩) x0.length c0_0), (31, .slice (some ⟨b32, o33, none⟩) x0.length c0_0), (32, .int .i64 (x0.length : Int)), (33, .int .i64 s26), (65, .slice (some ⟨b84, o85, none⟩) y29.links.length c39), (66, .int .i64 (y29.links.length : Int)), (67, .int .i64 s78), (80, .bool j90)] ∧ St w0 [] wb []) ?_ ?_
          · have h := hj90
            refine CW.region ?_
            iterate 3 refine LW.p rfl rfl ?_
            rcases bcases (decide (y81 ≥ 0)) with hc92 | hc92
            · replace h := bcT h hc92
              refine LW.gY (want_of rfl rfl hc92) ?_
              refine LW.p rfl rfl ?_
              refine LW.gY (want_of rfl rfl hc92) ?_
              refine LW.p rfl rfl ?_
              replace h := obind h
              obtain ⟨y93, hy93, h⟩ := h
              obtain ⟨b96, o97, cs98, hae, hb101, hp94, hq95, hd99, hk100⟩ := hr0_0.idx hy93
              cases hae
              obtain ⟨a102, c103, a105, c106, a108, c109, rfl, hr104, hr107, hr110⟩ := hd99
              refine LW.gY (want_of rfl rfl hc92) ?_
              refine LW.u (Pur.ix Try.underlying68 sz123 rfl rfl hp94 hq95) rfl ?_
              refine LW.gY (want_of rfl rfl hc92) ?_
              refine LW.u (Pur.fa fo123_1 rfl) rfl ?_
              refine LW.gY (want_of rfl rfl hc92) ?_
              refine LW.l (Ldr.old w0 ag3 rfl (hk100 1 _ rfl)) (hS8.same _ hb101.1 hb101.2) rfl ?_
              refine LW.gY (want_of rfl rfl hc92) ?_
              refine LW.p rfl rfl ?_
              refine LW.u (Pur.pickT rfl hc92) rfl ?_
              refine LW.nil ?_
              replace h := Option.some.inj h
              subst h
              exact ⟨⟨rfl, rfl, rfl, rfl, rfl, rfl, rfl, rfl, trivial⟩, hS8.pick [] rfl rfl⟩
            replace h := bcF h hc92
            refine LW.gN (want_not rfl rfl hc92) rfl ?_
            refine LW.gN (want_not rfl rfl hc92) rfl ?_
            refine LW.gN (want_not rfl rfl hc92) rfl ?_
            refine LW.gN (want_not rfl rfl hc92) rfl ?_
            refine LW.gN (want_not rfl rfl hc92) rfl ?_
            refine LW.gN (want_not rfl rfl hc92) rfl ?_
            refine LW.u (Pur.pickF rfl hc92) rfl ?_
            refine LW.nil ?_
            replace h := Option.some.inj h
            subst h
            exact ⟨⟨rfl, rfl, rfl, rfl, rfl, rfl, rfl, rfl, trivial⟩, hS8.pick [] rfl rfl⟩
          intro e w111 hM
          obtain ⟨hE, hS9⟩ := hM
          obtain ⟨e, rfl⟩ := hE.out
          have h := h91
          show CW _ _ _ _ _ _
          refine CW.cond rfl (fun hc112 => ?_) (fun hc112 => ?_)
          · replace h := bcT h hc112
            refine CW.seq ?_
            refine CW.region ?_
            refine LW.p rfl rfl ?_
            refine LW.nil ?_
            show CW _ _ _ _ _ _
            refine CW.ret ?_
            replace h := Option.some.inj h
            subst h
            exact ⟨trivial, rfl, _, rfl, ⟨_, Res.one (resOne.t rfl), rfl, hS9.pick [] rfl rfl⟩⟩
          replace h := bcF h hc112
          refine CW.skip ?_
          show CW _ _ _ _ _ _
          refine CW.region ?_
          iterate 2 refine LW.p rfl rfl ?_
          refine LW.nil ?_
          replace h := Option.some.inj h
          subst h
          exact ⟨rfl, ⟨⟨rfl, rfl, rfl, rfl, rfl, rfl, rfl, trivial⟩, hS9.pick [] rfl rfl⟩⟩
        replace h := bcF h hc80
        refine CW.exit ?_
        replace h := Option.some.inj h
        subst h
        exact ⟨trivial, rfl, ⟨⟨rfl, rfl, rfl, rfl, trivial⟩, hS8.pick [] rfl rfl⟩⟩
      intro x e w115 hM
      rcases o113 with o113 | r116
      · obtain ⟨rfl, hM⟩ := hM
        obtain ⟨hE, hS10⟩ := hM
        obtain ⟨e, rfl⟩ := hE.out
        have h := h114
        show CW _ _ _ _ _ _
        refine CW.region ?_
        iterate 2 refine LW.p rfl rfl ?_
        refine LW.nil ?_
        replace h := Option.some.inj h
        subst h
        exact ⟨rfl, ⟨⟨rfl, rfl, rfl, rfl, trivial⟩, hS10.pick [] rfl rfl⟩⟩
      obtain ⟨rfl, u, rfl, hM⟩ := hM
      cases h114
      exact ⟨trivial, rfl, _, rfl, hM⟩
    replace h := bcF h hc28
    refine CW.exit ?_
    replace h := Option.some.inj h
    subst h
    exact ⟨trivial, rfl, ⟨trivial, hS3.pick [] rfl rfl⟩⟩
  intro x e w119 hM
  rcases o117 with o117 | r120
  · obtain ⟨rfl, hM⟩ := hM
    obtain ⟨hE, hS11⟩ := hM
    obtain ⟨e, rfl⟩ := hE.out
    have h := h118
    show CW _ _ _ _ _ _
    refine CW.seq ?_
    refine CW.region ?_
    refine LW.p rfl rfl ?_
    refine LW.nil ?_
    show CW _ _ _ _ _ _
    refine CW.ret ?_
    cases h
    exact And.intro trivial ⟨_, Res.one (resOne.t rfl), rfl, hS11.pick [] rfl rfl⟩
  obtain ⟨rfl, u, rfl, hM⟩ := hM
  cases h118
  exact And.intro trivial hM

theorem W_i_HeapOk {w0 : World} {N : Nat} {x0 : DHeap} {r : Bool} (h : F_i_HeapOk N x0 = some r) {a0_0 : Option Addr} {n0_0 c0_0 : Nat} (hn0_0 : n0_0 = x0.arena.length) (hr0_0 : rdS (Bor w0 []) w0 a0_0 c0_0 x0.arena) {a0_4 : Option Addr} {n0_4 c0_4 : Nat} (hn0_4 : n0_4 = x0.gc.grey.length) (hr0_4 : rdS (Bor w0 []) w0 a0_4 c0_4 x0.gc.grey) :
    Ret Try.prog 152 #[.agg #[.slice a0_0 n0_0 c0_0, .int .i64 x0.gc.phase, .int .i64 x0.gc.pos, .int .i64 x0.gc.round, .slice a0_4 n0_4 c0_4]] w0 (fun v w => v = .bool r ∧ St w0 [] w []) := by
  subst hn0_0
  subst hn0_4
  unfold F_i_HeapOk at h
  refine Ret.of Try.func152 rfl rfl rfl ?_
  have hS1 := St.start w0
  refine CW.seq ?_
  refine CW.region ?_
  refine LW.box (cs := [.slice a0_0 x0.arena.length c0_0, .int .i64 x0.gc.phase, .int .i64 x0.gc.pos, .int .i64 x0.gc.round, .slice a0_4 x0.gc.grey.length c0_4]) rfl hS1 rfl ?_
  intro g1 w2 hS2 hf
  refine LW.p rfl rfl ?_
  refine LW.nil ?_
  show CW _ _ _ _ _ _
  refine CW.seq ?_
  refine CW.seq ?_
  refine CW.region ?_
  refine LW.u (Pur.fa fo71_1 rfl) rfl ?_
  refine LW.u (Pur.fa fo69_3 rfl) rfl ?_
  refine LW.ldb hS2 0 rfl ag24 rfl rfl rfl ?_
  refine LW.u (Pur.len Try.underlying24 rfl) rfl ?_
  refine LW.p rfl rfl ?_
  refine LW.nil ?_
  show CW _ _ _ _ _ _
  refine CW.block ?_
  obtain ⟨o31, ho31, h32⟩ := obind h
  refine CW.mono (CW.iter (σ := Int) (ρ := Int ⊕ Bool) (fun s3 e wb => En e [(1, .pointer (some ⟨g1, 0, none⟩)), (9, .slice a0_4 x0.gc.grey.length c0_4), (10, .int .i64 (x0.gc.grey.length : Int)), (11, .int .i64 s3)] ∧ St w0 [] wb [bx g1 71 [.slice a0_0 x0.arena.length c0_0, .int .i64 x0.gc.phase, .int .i64 x0.gc.pos, .int .i64 x0.gc.round, .slice a0_4 x0.gc.grey.length c0_4]]) (fun o x e wb => match o with | .inl s3 => x = .exit 0 ∧ En e [(1, .pointer (some ⟨g1, 0, none⟩))] ∧ St w0 [] wb [bx g1 71 [.slice a0_0 x0.arena.length c0_0, .int .i64 x0.gc.phase, .int .i64 x0.gc.pos, .int .i64 x0.gc.round, .slice a0_4 x0.gc.grey.length c0_4]] | .inr r => x = .ret ∧ ∃ u, u = r ∧ ∃ v, Res Try.prog Try.f152.results e wb v ∧ v = .bool u ∧ St w0 [] wb []) ?_ N 0 _ _ _ ⟨⟨rfl, rfl, rfl, rfl, trivial⟩, hS2.pick [0] rfl rfl⟩ ho31) ?_
  · intro s3 e w4 o hM h
    obtain ⟨hE, hS3⟩ := hM
    obtain ⟨e, rfl⟩ := hE.out
    refine CW.seq ?_
    refine CW.region ?_
    refine LW.p rfl rfl ?_
    refine LW.nil ?_
    show CW _ _ _ _ _ _
    refine CW.seq ?_
    refine CW.cond rfl (fun hc5 => ?_) (fun hc5 => ?_)
    · replace h := bcT h hc5
      refine CW.skip ?_
      show CW _ _ _ _ _ _
      refine CW.seq ?_
      refine CW.block ?_
      refine CW.seq ?_
      refine CW.region ?_
      refine LW.p rfl rfl ?_
      replace h := obind h
      obtain ⟨y6, hy6, h⟩ := h
      obtain ⟨b9, o10, cs11, hae, hb14, hp7, hq8, hd12, hk13⟩ := hr0_4.idx hy6
      subst hae
      obtain rfl := hd12
      refine LW.u (Pur.ix Try.underlying24 sz3 rfl rfl hp7 hq8) rfl ?_
      refine LW.l (Ldr.old w0 ag3 rfl (hk13 0 _ rfl)) (hS3.same _ hb14.1 hb14.2) rfl ?_
      iterate 2 refine LW.p rfl rfl ?_
      refine LW.nil ?_
      show CW _ _ _ _ _ _
      refine CW.fresh (l := [(1, .pointer (some ⟨g1, 0, none⟩)), (3, .int .i64 s3), (4, .int .i64 y6), (9, .slice (some ⟨b9, o10, none⟩) x0.gc.grey.length c0_4), (10, .int .i64 (x0.gc.grey.length : Int)), (11, .int .i64 s3)]) ⟨rfl, rfl, rfl, rfl, rfl, rfl, trivial⟩ (fun e => ?_)
      refine CW.seq ?_
      obtain ⟨j15, hj15, h16⟩ := obind h
      refine CW.cut (fun e wb => En e [(1, .pointer (some ⟨g1, 0, none⟩)), (9, .slice (some ⟨b9, o10, none⟩) x0.gc.grey.length c0_4), (10, .int .i64 (x0.gc.grey.length : Int)), (11, .int .i64 s3), (27, .bool j15)] ∧ St w0 [] wb [bx g1 71 [.slice a0_0 x0.arena.length c0_0, .int .i64 x0.gc.phase, .int .i64 x0.gc.pos, .int .i64 x0.gc.round, .slice (some ⟨b9, o10, none⟩) x0.gc.grey.length c0_4]]) ?_ ?_
      · have h := hj15
        refine CW.region ?_
        refine LW.p rfl rfl ?_
        replace h := obind h
        obtain ⟨y17, hy17, h⟩ := h
        have q := W_i_isSlot (w0 := w4) hy17
        refine LW.call pl153 rfl rfl ?_
        refine Ret.mono q ?_
        rintro _ w18 ⟨rfl, hs⟩
        have hS4 := hS3.add hs
        iterate 2 refine LW.p rfl rfl ?_
        rcases bcases (!y17) with hc19 | hc19
        · replace h := bcT h hc19
          refine LW.gN (want_not rfl rfl hc19) rfl ?_
          refine LW.gN (want_not rfl rfl hc19) rfl ?_
          refine LW.gN (want_not rfl rfl hc19) rfl ?_
          refine LW.gN (want_not rfl rfl hc19) rfl ?_
          refine LW.gN (want_not rfl rfl hc19) rfl ?_
          refine LW.gN (want_not rfl rfl hc19) rfl ?_
          refine LW.gN (want_not rfl rfl hc19) rfl ?_
          refine LW.u (Pur.pickT rfl hc19) rfl ?_
          refine LW.nil ?_
          replace h := Option.some.inj h
          subst h
          exact ⟨⟨rfl, rfl, rfl, rfl, rfl, trivial⟩, hS4.pick [0] rfl rfl⟩
        replace h := bcF h hc19
        refine LW.gY (want_of rfl rfl hc19) ?_
        refine LW.u (Pur.fa fo71_1 rfl) rfl ?_
        refine LW.gY (want_of rfl rfl hc19) ?_
        refine LW.u (Pur.fa fo69_3 rfl) rfl ?_
        refine LW.gY (want_of rfl rfl hc19) ?_
        refine LW.ldb hS4 0 rfl ag24 rfl rfl rfl ?_
        refine LW.gY (want_of rfl rfl hc19) ?_
        refine LW.p rfl rfl ?_
        replace h := obind h
        obtain ⟨y20, hy20, h⟩ := h
        obtain ⟨a21, c22, he23, he24, hr25⟩ := rdS.sub' hr0_4 hy20
        have hle26 := (hr0_4).le
        refine LW.gY (want_of rfl rfl hc19) ?_
        refine LW.u (Pur.sub (α := Int) (l := x0.gc.grey) Try.underlying24 sz3 rfl bndN (bndS rfl) hy20 hle26 he23 he24) rfl ?_
        refine LW.gY (want_of rfl rfl hc19) ?_
        refine LW.p rfl rfl ?_
        replace h := obind h
        obtain ⟨y27, hy27, h⟩ := h
        have q := W_z_Contains_int (w0 := w18) hy27 rfl (hS4.rB hr25)
        refine LW.gY (want_of rfl rfl hc19) ?_
        refine LW.call pl76 rfl rfl ?_
        refine Ret.mono q ?_
        rintro _ w28 ⟨rfl, hs⟩
        have hS5 := hS4.add hs
        refine LW.u (Pur.pickF rfl hc19) rfl ?_
        refine LW.nil ?_
        replace h := Option.some.inj h
        subst h
        exact ⟨⟨rfl, rfl, rfl, rfl, rfl, trivial⟩, hS5.pick [0] rfl rfl⟩
      intro e w29 hM
      obtain ⟨hE, hS6⟩ := hM
      obtain ⟨e, rfl⟩ := hE.out
      have h := h16
      show CW _ _ _ _ _ _
      refine CW.cond rfl (fun hc30 => ?_) (fun hc30 => ?_)
      · replace h := bcT h hc30
        refine CW.seq ?_
        refine CW.region ?_
        refine LW.p rfl rfl ?_
        refine LW.nil ?_
        show CW _ _ _ _ _ _
        refine CW.ret ?_
        replace h := Option.some.inj h
        subst h
        exact ⟨trivial, rfl, _, rfl, ⟨_, Res.one (resOne.t rfl), rfl, hS6.pick [] rfl rfl⟩⟩
      replace h := bcF h hc30
      refine CW.skip ?_
      show CW _ _ _ _ _ _
      refine CW.region ?_
      iterate 2 refine LW.p rfl rfl ?_
      refine LW.nil ?_
      replace h := Option.some.inj h
      subst h
      exact ⟨rfl, ⟨⟨rfl, rfl, rfl, rfl, trivial⟩, hS6.pick [0] rfl rfl⟩⟩
    replace h := bcF h hc5
    refine CW.exit ?_
    replace h := Option.some.inj h
    subst h
    exact ⟨trivial, rfl, ⟨⟨rfl, trivial⟩, hS3.pick [0] rfl rfl⟩⟩
  intro x e w33 hM
  rcases o31 with o31 | r54
  · obtain ⟨rfl, hM⟩ := hM
    obtain ⟨hE, hS7⟩ := hM
    obtain ⟨e, rfl⟩ := hE.out
    have h := h32
    show CW _ _ _ _ _ _
    refine CW.seq ?_
    obtain ⟨j34, hj34, h35⟩ := obind h
    refine CW.cut (fun e wb => En e [(1, .pointer (some ⟨g1, 0, none⟩)), (5, .bool j34)] ∧ St w0 [] wb [bx g1 71 [.slice a0_0 x0.arena.length c0_0, .int .i64 x0.gc.phase, .int .i64 x0.gc.pos, .int .i64 x0.gc.round, .slice a0_4 x0.gc.grey.length c0_4]]) ?_ ?_
    · have h := hj34
      refine CW.region ?_
      refine LW.u (Pur.fa fo71_1 rfl) rfl ?_
      refine LW.u (Pur.fa fo69_0 rfl) rfl ?_
      refine LW.ldb hS7 0 rfl ag3 rfl rfl rfl ?_
      iterate 2 refine LW.p rfl rfl ?_
      rcases bcases (x0.gc.phase == 0) with hc36 | hc36
      · replace h := bcT h hc36
        refine LW.gY (want_of rfl rfl hc36) ?_
        refine LW.u (Pur.fa fo71_1 rfl) rfl ?_
        refine LW.gY (want_of rfl rfl hc36) ?_
        refine LW.u (Pur.fa fo69_1 rfl) rfl ?_
        refine LW.gY (want_of rfl rfl hc36) ?_
        refine LW.ldb hS7 0 rfl ag3 rfl rfl rfl ?_
        refine LW.gY (want_of rfl rfl hc36) ?_
        refine LW.p rfl rfl ?_
        refine LW.u (Pur.pickT rfl hc36) rfl ?_
        refine LW.p rfl rfl ?_
        refine LW.nil ?_
        replace h := Option.some.inj h
        subst h
        exact ⟨⟨rfl, rfl, trivial⟩, hS7.pick [0] rfl rfl⟩
      replace h := bcF h hc36
      refine LW.gN (want_not rfl rfl hc36) rfl ?_
      refine LW.gN (want_not rfl rfl hc36) rfl ?_
      refine LW.gN (want_not rfl rfl hc36) rfl ?_
      refine LW.gN (want_not rfl rfl hc36) rfl ?_
      refine LW.u (Pur.pickF rfl hc36) rfl ?_
      refine LW.p rfl rfl ?_
      refine LW.nil ?_
      replace h := Option.some.inj h
      subst h
      exact ⟨⟨rfl, rfl, trivial⟩, hS7.pick [0] rfl rfl⟩
    intro e w37 hM
    obtain ⟨hE, hS8⟩ := hM
    obtain ⟨e, rfl⟩ := hE.out
    have h := h35
    show CW _ _ _ _ _ _
    refine CW.seq ?_
    obtain ⟨j38, hj38, h39⟩ := obind h
    refine CW.cut (fun e wb => En e [(1, .pointer (some ⟨g1, 0, none⟩)), (5, .bool j34), (6, .bool j38)] ∧ St w0 [] wb [bx g1 71 [.slice a0_0 x0.arena.length c0_0, .int .i64 x0.gc.phase, .int .i64 x0.gc.pos, .int .i64 x0.gc.round, .slice a0_4 x0.gc.grey.length c0_4]]) ?_ ?_
    · have h := hj38
      refine CW.region ?_
      refine LW.u (Pur.fa fo71_1 rfl) rfl ?_
      refine LW.u (Pur.fa fo69_0 rfl) rfl ?_
      refine LW.ldb hS8 0 rfl ag3 rfl rfl rfl ?_
      iterate 2 refine LW.p rfl rfl ?_
      rcases bcases (x0.gc.phase == 1) with hc40 | hc40
      · replace h := bcT h hc40
        refine LW.gY (want_of rfl rfl hc40) ?_
        refine LW.u (Pur.fa fo71_1 rfl) rfl ?_
        refine LW.gY (want_of rfl rfl hc40) ?_
        refine LW.u (Pur.fa fo69_1 rfl) rfl ?_
        refine LW.gY (want_of rfl rfl hc40) ?_
        refine LW.ldb hS8 0 rfl ag3 rfl rfl rfl ?_
        replace h := obind h
        obtain ⟨y41, hy41, h⟩ := h
        have q := W_i_isSlot (w0 := w37) hy41
        refine LW.gY (want_of rfl rfl hc40) ?_
        refine LW.call pl153 rfl rfl ?_
        refine Ret.mono q ?_
        rintro _ w42 ⟨rfl, hs⟩
        have hS9 := hS8.add hs
        refine LW.u (Pur.pickT rfl hc40) rfl ?_
        refine LW.p rfl rfl ?_
        rcases bcases y41 with hc43 | hc43
        · replace h := bcT h hc43
          refine LW.gY (want_of rfl rfl hc43) ?_
          refine LW.u (Pur.fa fo71_1 rfl) rfl ?_
          refine LW.gY (want_of rfl rfl hc43) ?_
          refine LW.u (Pur.fa fo69_3 rfl) rfl ?_
          refine LW.gY (want_of rfl rfl hc43) ?_
          refine LW.ldb hS9 0 rfl ag24 rfl rfl rfl ?_
          refine LW.gY (want_of rfl rfl hc43) ?_
          refine LW.u (Pur.len Try.underlying24 rfl) rfl ?_
          refine LW.gY (want_of rfl rfl hc43) ?_
          refine LW.p rfl rfl ?_
          refine LW.fresh (l := [(1, .pointer (some ⟨g1, 0, none⟩)), (5, .bool j34), (49, .bool y41), (54, .bool ((x0.gc.grey.length : Int) == 0))]) ⟨rfl, rfl, rfl, rfl, trivial⟩ (fun e => ?_)
          refine LW.u (Pur.pickT rfl hc43) rfl ?_
          refine LW.p rfl rfl ?_
          refine LW.nil ?_
          replace h := Option.some.inj h
          subst h
          exact ⟨⟨rfl, rfl, rfl, trivial⟩, hS9.pick [0] rfl rfl⟩
        replace h := bcF h hc43
        refine LW.gN (want_not rfl rfl hc43) rfl ?_
        refine LW.gN (want_not rfl rfl hc43) rfl ?_
        refine LW.gN (want_not rfl rfl hc43) rfl ?_
        refine LW.gN (want_not rfl rfl hc43) rfl ?_
        refine LW.gN (want_not rfl rfl hc43) rfl ?_
        refine LW.fresh (l := [(1, .pointer (some ⟨g1, 0, none⟩)), (5, .bool j34), (49, .bool y41), (54, undef)]) ⟨rfl, rfl, rfl, rfl, trivial⟩ (fun e => ?_)
        refine LW.u (Pur.pickF rfl hc43) rfl ?_
        refine LW.p rfl rfl ?_
        refine LW.nil ?_
        replace h := Option.some.inj h
        subst h
        exact ⟨⟨rfl, rfl, rfl, trivial⟩, hS9.pick [0] rfl rfl⟩
      replace h := bcF h hc40
      refine LW.gN (want_not rfl rfl hc40) rfl ?_
      refine LW.gN (want_not rfl rfl hc40) rfl ?_
      refine LW.gN (want_not rfl rfl hc40) rfl ?_
      refine LW.gN (want_not rfl rfl hc40) rfl ?_
      refine LW.u (Pur.pickF rfl hc40) rfl ?_
      refine LW.p rfl rfl ?_
      refine LW.gN (want_not rfl rfl rfl) rfl ?_
      refine LW.gN (want_not rfl rfl rfl) rfl ?_
      refine LW.gN (want_not rfl rfl rfl) rfl ?_
      refine LW.gN (want_not rfl rfl rfl) rfl ?_
      refine LW.gN (want_not rfl rfl rfl) rfl ?_
      refine LW.u (Pur.pickF rfl rfl) rfl ?_
      refine LW.fresh (l := [(1, .pointer (some ⟨g1, 0, none⟩)), (5, .bool j34), (55, .bool false)]) ⟨rfl, rfl, rfl, trivial⟩ (fun e => ?_)
      refine LW.p rfl rfl ?_
      refine LW.nil ?_
      replace h := Option.some.inj h
      subst h
      exact ⟨⟨rfl, rfl, rfl, trivial⟩, hS8.pick [0] rfl rfl⟩
    intro e w44 hM
    obtain ⟨hE, hS10⟩ := hM
    obtain ⟨e, rfl⟩ := hE.out
    have h := h39
    show CW _ _ _ _ _ _
    refine CW.seq ?_
    refine CW.region ?_
    refine LW.u (Pur.fa fo71_0 rfl) rfl ?_
    refine LW.ldb hS10 0 rfl ag68 rfl rfl rfl ?_
    replace h := obind h
    obtain ⟨y45, hy45, h⟩ := h
    have q := W_i_ArenaOk (w0 := w44) hy45 rfl (hS10.rB hr0_0)
    refine LW.call pl168 rfl rfl ?_
    refine Ret.mono q ?_
    rintro _ w46 ⟨rfl, hs⟩
    have hS11 := hS10.add hs
    refine LW.p rfl rfl ?_
    rcases bcases y45 with hc47 | hc47
    · replace h := bcT h hc47
      refine LW.gY (want_of rfl rfl hc47) ?_
      refine LW.p rfl rfl ?_
      refine LW.gY (want_of rfl rfl hc47) ?_
      refine LW.p rfl rfl ?_
      rcases bcases j34 with hc48 | hc48
      · replace h := bcT h hc48
        refine LW.gN (want_not rfl rfl hc48) rfl ?_
        refine LW.gY (want_of rfl rfl hc47) ?_
        refine LW.u (Pur.pickT rfl hc48) rfl ?_
        refine LW.u (Pur.pickT rfl hc47) rfl ?_
        refine LW.p rfl rfl ?_
        refine LW.gY (want_of rfl rfl rfl) ?_
        refine LW.u (Pur.fa fo71_1 rfl) rfl ?_
        refine LW.gY (want_of rfl rfl rfl) ?_
        refine LW.u (Pur.fa fo69_2 rfl) rfl ?_
        refine LW.gY (want_of rfl rfl rfl) ?_
        refine LW.ldb hS11 0 rfl ag3 rfl rfl rfl ?_
        replace h := obind h
        obtain ⟨y49, hy49, h⟩ := h
        have q := W_i_isTime (w0 := w46) hy49
        refine LW.gY (want_of rfl rfl rfl) ?_
        refine LW.call pl85 rfl rfl ?_
        refine Ret.mono q ?_
        rintro _ w50 ⟨rfl, hs⟩
        have hS12 := hS11.add hs
        refine LW.u (Pur.pickT rfl rfl) rfl ?_
        refine LW.p rfl rfl ?_
        refine LW.nil ?_
        show CW _ _ _ _ _ _
        refine CW.fresh (l := [(2, .bool y49)]) ⟨rfl, trivial⟩ (fun e => ?_)
        refine CW.ret ?_
        cases h
        exact And.intro trivial ⟨_, Res.one (resOne.t rfl), rfl, hS12.pick [] rfl rfl⟩
      replace h := bcF h hc48
      refine LW.gY (want_of rfl rfl hc48) ?_
      refine LW.p rfl rfl ?_
      refine LW.gY (want_of rfl rfl hc47) ?_
      refine LW.u (Pur.pickF rfl hc48) rfl ?_
      refine LW.u (Pur.pickT rfl hc47) rfl ?_
      refine LW.p rfl rfl ?_
      rcases bcases j38 with hc51 | hc51
      · replace h := bcT h hc51
        refine LW.gY (want_of rfl rfl hc51) ?_
        refine LW.u (Pur.fa fo71_1 rfl) rfl ?_
        refine LW.gY (want_of rfl rfl hc51) ?_
        refine LW.u (Pur.fa fo69_2 rfl) rfl ?_
        refine LW.gY (want_of rfl rfl hc51) ?_
        refine LW.ldb hS11 0 rfl ag3 rfl rfl rfl ?_
        replace h := obind h
        obtain ⟨y52, hy52, h⟩ := h
        have q := W_i_isTime (w0 := w46) hy52
        refine LW.gY (want_of rfl rfl hc51) ?_
        refine LW.call pl85 rfl rfl ?_
        refine Ret.mono q ?_
        rintro _ w53 ⟨rfl, hs⟩
        have hS13 := hS11.add hs
        refine LW.u (Pur.pickT rfl hc51) rfl ?_
        refine LW.fresh (l := [(70, .bool y52)]) ⟨rfl, trivial⟩ (fun e => ?_)
        refine LW.p rfl rfl ?_
        refine LW.nil ?_
        show CW _ _ _ _ _ _
        refine CW.ret ?_
        cases h
        exact And.intro trivial ⟨_, Res.one (resOne.t rfl), rfl, hS13.pick [] rfl rfl⟩
      replace h := bcF h hc51
      refine LW.gN (want_not rfl rfl hc51) rfl ?_
      refine LW.gN (want_not rfl rfl hc51) rfl ?_
      refine LW.gN (want_not rfl rfl hc51) rfl ?_
      refine LW.gN (want_not rfl rfl hc51) rfl ?_
      refine LW.u (Pur.pickF rfl hc51) rfl ?_
      refine LW.fresh (l := [(70, .bool false)]) ⟨rfl, trivial⟩ (fun e => ?_)
      refine LW.p rfl rfl ?_
      refine LW.nil ?_
      show CW _ _ _ _ _ _
      refine CW.ret ?_
      cases h
      exact And.intro trivial ⟨_, Res.one (resOne.t rfl), rfl, hS11.pick [] rfl rfl⟩
    replace h := bcF h hc47
    refine LW.gN (want_not rfl rfl hc47) rfl ?_
    refine LW.gN (want_not rfl rfl hc47) rfl ?_
    refine LW.gN (want_undef rfl rfl) rfl ?_
    refine LW.gN (want_not rfl rfl hc47) rfl ?_
    refine LW.u (Pur.pickF rfl hc47) rfl ?_
    refine LW.p rfl rfl ?_
    refine LW.gN (want_not rfl rfl rfl) rfl ?_
    refine LW.gN (want_not rfl rfl rfl) rfl ?_
    refine LW.gN (want_not rfl rfl rfl) rfl ?_
    refine LW.gN (want_not rfl rfl rfl) rfl ?_
    refine LW.u (Pur.pickF rfl rfl) rfl ?_
    refine LW.p rfl rfl ?_
    refine LW.nil ?_
    show CW _ _ _ _ _ _
    refine CW.fresh (l := [(2, .bool false)]) ⟨rfl, trivial⟩ (fun e => ?_)
    refine CW.ret ?_
    cases h
    exact And.intro trivial ⟨_, Res.one (resOne.t rfl), rfl, hS11.pick [] rfl rfl⟩
  obtain ⟨rfl, u, rfl, hM⟩ := hM
  cases h32
  exact And.intro trivial hM

end Go.Kx
