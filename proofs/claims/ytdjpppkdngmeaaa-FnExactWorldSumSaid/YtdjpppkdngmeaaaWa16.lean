/- Each call returns what the plain function says. Printed by drive.py. -/
import Derived.Test.YtdjpppkdngmeaaaFa
import Derived.Test.YtdjpppkdngmeaaaPu
import Derived.Test.YtdjpppkdngmeaaaWa3
import Derived.Test.YtdjpppkdngmeaaaWa12
import Derived.Test.YtdjpppkdngmeaaaWa13
import Derived.Test.YtdjpppkdngmeaaaWa14
namespace Go.Kx
open Go Go.RowKit Go.Proofs
set_option maxRecDepth 10000
set_option maxHeartbeats 2000000
set_option linter.unusedVariables false
set_option linter.unusedSimpArgs false
theorem W_s_TreeSum {w0 : World} {N : Nat} {x0 : List DRes} {r : DAmt} (h : F_s_TreeSum N x0 = some r) {a0_0 : Option Addr} {n0_0 c0_0 : Nat} (hn0_0 : n0_0 = x0.length) (hr0_0 : rdS (Bor w0 []) w0 a0_0 c0_0 x0) :
    Ret Try.prog 183 #[.slice a0_0 n0_0 c0_0] w0 (fun v w => v = .agg #[.int .i64 r.pages, .int .i64 r.rent, .int .i64 r.cpu] ∧ St w0 [] w []) := by
  subst hn0_0
  unfold F_s_TreeSum at h
  refine Ret.of Try.func183 rfl rfl rfl ?_
  have hS1 := St.start w0
  refine CW.seq ?_
  refine CW.region ?_
  refine LW.alloc zv73 hS1 rfl ?_
  intro g1 w2 hS2 hf
  refine LW.nil ?_
  show CW _ _ _ _ _ _
  refine CW.seq ?_
  refine CW.seq ?_
  refine CW.region ?_
  refine LW.p rfl rfl ?_
  replace h := obind h
  obtain ⟨y3, hy3, h⟩ := h
  have q := W_s_TreeOk (w0 := w2) hy3 rfl (hS2.rB hr0_0)
  refine LW.call pl144 rfl rfl ?_
  refine Ret.mono q ?_
  rintro _ w4 ⟨rfl, hs⟩
  have hS3 := hS2.add hs
  refine LW.p rfl rfl ?_
  refine LW.nil ?_
  show CW _ _ _ _ _ _
  refine CW.cond rfl (fun hc5 => ?_) (fun hc5 => ?_)
  · replace h := bcT h hc5
    refine CW.seq ?_
    refine CW.region ?_
    refine LW.u (Pur.build (vs := []) (cs := #[.int .i64 0, .int .i64 0, .int .i64 0]) rfl (by kernel_rfl)) rfl ?_
    refine LW.stb hS3 0 rfl ag73 rfl rfl rfl rfl rfl ?_
    intro w6 hS4 hf
    refine LW.nil ?_
    show CW _ _ _ _ _ _
    refine CW.ret ?_
    cases h
    exact And.intro trivial ⟨_, Res.one (resOne.b hS4 0 rfl ag73 rfl rfl), rfl, hS4.pick [] rfl rfl⟩
  replace h := bcF h hc5
  refine CW.skip ?_
  show CW _ _ _ _ _ _
  refine CW.seq ?_
  refine CW.region ?_
  refine LW.p rfl rfl ?_
  replace h := obind h
  obtain ⟨y7, hy7, h⟩ := h
  have q := W_s_l6Sum (w0 := w4) hy7 rfl (hS3.rB hr0_0)
  refine LW.call pl182 rfl rfl ?_
  refine Ret.mono q ?_
  rintro _ w8 ⟨rfl, hs⟩
  have hS5 := hS3.add hs
  refine LW.stb hS5 0 rfl ag73 rfl rfl rfl rfl rfl ?_
  intro w9 hS6 hf
  refine LW.nil ?_
  show CW _ _ _ _ _ _
  refine CW.ret ?_
  cases h
  exact And.intro trivial ⟨_, Res.one (resOne.b hS6 0 rfl ag73 rfl rfl), rfl, hS6.pick [] rfl rfl⟩

theorem W_s_Held {w0 : World} {N : Nat} {x0 : DPart} {r : Int} (h : F_s_Held N x0 = some r) {a0_0 : Option Addr} {n0_0 c0_0 : Nat} (hn0_0 : n0_0 = x0.label.levels.length) (hr0_0 : rdS (Bor w0 []) w0 a0_0 c0_0 x0.label.levels) {a0_1 : Option Addr} {n0_1 c0_1 : Nat} (hn0_1 : n0_1 = x0.own.length) (hr0_1 : rdS (Bor w0 []) w0 a0_1 c0_1 x0.own) {a0_2 : Option Addr} {n0_2 c0_2 : Nat} (hn0_2 : n0_2 = x0.tree.length) (hr0_2 : rdS (Bor w0 []) w0 a0_2 c0_2 x0.tree) {a0_3 : Option Addr} {n0_3 c0_3 : Nat} (hn0_3 : n0_3 = x0.heap.arena.length) (hr0_3 : rdS (Bor w0 []) w0 a0_3 c0_3 x0.heap.arena) {a0_7 : Option Addr} {n0_7 c0_7 : Nat} (hn0_7 : n0_7 = x0.heap.gc.grey.length) (hr0_7 : rdS (Bor w0 []) w0 a0_7 c0_7 x0.heap.gc.grey) {a0_8 : Option Addr} {n0_8 c0_8 : Nat} (hn0_8 : n0_8 = x0.taps.length) (hr0_8 : rdS (Bor w0 []) w0 a0_8 c0_8 x0.taps) :
    Ret Try.prog 184 #[.agg #[.slice a0_0 n0_0 c0_0, .slice a0_1 n0_1 c0_1, .slice a0_2 n0_2 c0_2, .slice a0_3 n0_3 c0_3, .int .i64 x0.heap.gc.phase, .int .i64 x0.heap.gc.pos, .int .i64 x0.heap.gc.round, .slice a0_7 n0_7 c0_7, .slice a0_8 n0_8 c0_8, .int .i64 x0.next, .int .i64 x0.want, .int .i64 x0.spent.pages, .int .i64 x0.spent.rent, .int .i64 x0.spent.cpu, .int .i64 x0.press, .int .i64 x0.lost]] w0 (fun v w => v = .int .i64 r ∧ St w0 [] w []) := by
  subst hn0_0
  subst hn0_1
  subst hn0_2
  subst hn0_3
  subst hn0_7
  subst hn0_8
  unfold F_s_Held at h
  refine Ret.of Try.func184 rfl rfl rfl ?_
  have hS1 := St.start w0
  refine CW.seq ?_
  refine CW.region ?_
  refine LW.box (cs := [.slice a0_0 x0.label.levels.length c0_0, .slice a0_1 x0.own.length c0_1, .slice a0_2 x0.tree.length c0_2, .slice a0_3 x0.heap.arena.length c0_3, .int .i64 x0.heap.gc.phase, .int .i64 x0.heap.gc.pos, .int .i64 x0.heap.gc.round, .slice a0_7 x0.heap.gc.grey.length c0_7, .slice a0_8 x0.taps.length c0_8, .int .i64 x0.next, .int .i64 x0.want, .int .i64 x0.spent.pages, .int .i64 x0.spent.rent, .int .i64 x0.spent.cpu, .int .i64 x0.press, .int .i64 x0.lost]) rfl hS1 rfl ?_
  intro g1 w2 hS2 hf
  refine LW.p rfl rfl ?_
  refine LW.nil ?_
  show CW _ _ _ _ _ _
  refine CW.seq ?_
  refine CW.region ?_
  refine LW.p rfl rfl ?_
  refine LW.nil ?_
  show CW _ _ _ _ _ _
  refine CW.seq ?_
  refine CW.seq ?_
  refine CW.region ?_
  refine LW.p rfl rfl ?_
  refine LW.nil ?_
  show CW _ _ _ _ _ _
  refine CW.block ?_
  obtain ⟨o31, ho31, h32⟩ := obind h
  refine CW.mono (CW.iter (σ := Int × Int) (ρ := Int × Int) (fun s3 e wb => En e [(1, .pointer (some ⟨g1, 0, none⟩)), (3, .int .i64 s3.1), (4, .int .i64 s3.2)] ∧ St w0 [] wb [bx g1 75 [.slice a0_0 x0.label.levels.length c0_0, .slice a0_1 x0.own.length c0_1, .slice a0_2 x0.tree.length c0_2, .slice a0_3 x0.heap.arena.length c0_3, .int .i64 x0.heap.gc.phase, .int .i64 x0.heap.gc.pos, .int .i64 x0.heap.gc.round, .slice a0_7 x0.heap.gc.grey.length c0_7, .slice a0_8 x0.taps.length c0_8, .int .i64 x0.next, .int .i64 x0.want, .int .i64 x0.spent.pages, .int .i64 x0.spent.rent, .int .i64 x0.spent.cpu, .int .i64 x0.press, .int .i64 x0.lost]]) (fun s3 x e wb => x = .exit 0 ∧ En e [(3, .int .i64 s3.1)] ∧ St w0 [] wb [bx g1 75 [.slice a0_0 x0.label.levels.length c0_0, .slice a0_1 x0.own.length c0_1, .slice a0_2 x0.tree.length c0_2, .slice a0_3 x0.heap.arena.length c0_3, .int .i64 x0.heap.gc.phase, .int .i64 x0.heap.gc.pos, .int .i64 x0.heap.gc.round, .slice a0_7 x0.heap.gc.grey.length c0_7, .slice a0_8 x0.taps.length c0_8, .int .i64 x0.next, .int .i64 x0.want, .int .i64 x0.spent.pages, .int .i64 x0.spent.rent, .int .i64 x0.spent.cpu, .int .i64 x0.press, .int .i64 x0.lost]]) ?_ N (0, 0) _ _ _ ⟨⟨rfl, rfl, rfl, trivial⟩, hS2.pick [0] rfl rfl⟩ ho31) ?_
  · intro s3 e w4 o hM h
    obtain ⟨hE, hS3⟩ := hM
    obtain ⟨e, rfl⟩ := hE.out
    refine CW.seq ?_
    refine CW.seq ?_
    obtain ⟨j5, hj5, h6⟩ := obind h
    refine CW.cut (fun e wb => En e [(1, .pointer (some ⟨g1, 0, none⟩)), (3, .int .i64 s3.1), (4, .int .i64 s3.2), (14, .bool j5)] ∧ St w0 [] wb [bx g1 75 [.slice a0_0 x0.label.levels.length c0_0, .slice a0_1 x0.own.length c0_1, .slice a0_2 x0.tree.length c0_2, .slice a0_3 x0.heap.arena.length c0_3, .int .i64 x0.heap.gc.phase, .int .i64 x0.heap.gc.pos, .int .i64 x0.heap.gc.round, .slice a0_7 x0.heap.gc.grey.length c0_7, .slice a0_8 x0.taps.length c0_8, .int .i64 x0.next, .int .i64 x0.want, .int .i64 x0.spent.pages, .int .i64 x0.spent.rent, .int .i64 x0.spent.cpu, .int .i64 x0.press, .int .i64 x0.lost]]) ?_ ?_
    · have h := hj5
      refine CW.region ?_
      refine LW.p rfl rfl ?_
      refine LW.u (Pur.fa fo75_3 rfl) rfl ?_
      refine LW.u (Pur.fa fo71_0 rfl) rfl ?_
      refine LW.ldb hS3 0 rfl ag68 rfl rfl rfl ?_
      refine LW.u (Pur.len Try.underlying68 rfl) rfl ?_
      iterate 2 refine LW.p rfl rfl ?_
      rcases bcases (decide (s3.2 < (x0.heap.arena.length : Int))) with hc7 | hc7
      · replace h := bcT h hc7
        refine LW.gY (want_of rfl rfl hc7) ?_
        refine LW.p rfl rfl ?_
        refine LW.gY (want_of rfl rfl hc7) ?_
        refine LW.p rfl rfl ?_
        refine LW.u (Pur.pickT rfl hc7) rfl ?_
        refine LW.nil ?_
        replace h := Option.some.inj h
        subst h
        exact ⟨⟨rfl, rfl, rfl, rfl, trivial⟩, hS3.pick [0] rfl rfl⟩
      replace h := bcF h hc7
      refine LW.gN (want_not rfl rfl hc7) rfl ?_
      refine LW.gN (want_not rfl rfl hc7) rfl ?_
      refine LW.u (Pur.pickF rfl hc7) rfl ?_
      refine LW.nil ?_
      replace h := Option.some.inj h
      subst h
      exact ⟨⟨rfl, rfl, rfl, rfl, trivial⟩, hS3.pick [0] rfl rfl⟩
    intro e w8 hM
    obtain ⟨hE, hS4⟩ := hM
    obtain ⟨e, rfl⟩ := hE.out
    have h := h6
    show CW _ _ _ _ _ _
    refine CW.cond rfl (fun hc9 => ?_) (fun hc9 => ?_)
    · replace h := bcT h hc9
      refine CW.skip ?_
      show CW _ _ _ _ _ _
      refine CW.seq ?_
      refine CW.block ?_
      refine CW.seq ?_
      refine CW.region ?_
      refine LW.u (Pur.fa fo75_3 rfl) rfl ?_
      refine LW.u (Pur.fa fo71_0 rfl) rfl ?_
      refine LW.ldb hS4 0 rfl ag68 rfl rfl rfl ?_
      refine LW.p rfl rfl ?_
      replace h := obind h
      obtain ⟨y10, hy10, h⟩ := h
      obtain ⟨b13, o14, cs15, hae, hb18, hp11, hq12, hd16, hk17⟩ := hr0_3.idx hy10
      subst hae
      obtain ⟨a19, c20, a22, c23, a25, c26, rfl, hr21, hr24, hr27⟩ := hd16
      refine LW.u (Pur.ix Try.underlying68 sz123 rfl rfl hp11 hq12) rfl ?_
      refine LW.l (Ldr.oldN w0 ag123 rfl rfl (fun j u hu => hk17 j u hu)) (hS4.same _ hb18.1 hb18.2) rfl ?_
      replace h := obind h
      obtain ⟨y28, hy28, h⟩ := h
      have q := W_s_ObjOk (w0 := w8) hy28 rfl (hS4.rB hr21) rfl (hS4.rB hr24) rfl (hS4.rB hr27)
      refine LW.call pl190 rfl rfl ?_
      refine Ret.mono q ?_
      rintro _ w29 ⟨rfl, hs⟩
      have hS5 := hS4.add hs
      refine LW.nil ?_
      show CW _ _ _ _ _ _
      refine CW.cond rfl (fun hc30 => ?_) (fun hc30 => ?_)
      · replace h := bcT h hc30
        refine CW.region ?_
        refine LW.p rfl rfl ?_
        refine LW.u (Pur.fa fo75_3 rfl) rfl ?_
        refine LW.u (Pur.fa fo71_0 rfl) rfl ?_
        refine LW.ldb hS5 0 rfl ag68 rfl rfl rfl ?_
        refine LW.p rfl rfl ?_
        refine LW.u (Pur.ix Try.underlying68 sz123 rfl rfl hp11 hq12) rfl ?_
        refine LW.u (Pur.fa fo123_5 rfl) rfl ?_
        refine LW.l (Ldr.old w0 ag3 rfl (hk17 5 _ rfl)) (hS5.same _ hb18.1 hb18.2) rfl ?_
        iterate 2 refine LW.p rfl rfl ?_
        refine LW.nil ?_
        show CW _ _ _ _ _ _
        refine CW.fresh (l := [(1, .pointer (some ⟨g1, 0, none⟩)), (3, .int .i64 (IntKind.i64.wrap (s3.1 + y10.pages))), (4, .int .i64 s3.2)]) ⟨rfl, rfl, rfl, trivial⟩ (fun e => ?_)
        refine CW.region ?_
        iterate 3 refine LW.p rfl rfl ?_
        refine LW.nil ?_
        replace h := Option.some.inj h
        subst h
        exact ⟨rfl, ⟨⟨rfl, rfl, rfl, trivial⟩, hS5.pick [0] rfl rfl⟩⟩
      replace h := bcF h hc30
      refine CW.skip ?_
      show CW _ _ _ _ _ _
      refine CW.region ?_
      iterate 3 refine LW.p rfl rfl ?_
      refine LW.nil ?_
      replace h := Option.some.inj h
      subst h
      exact ⟨rfl, ⟨⟨rfl, rfl, rfl, trivial⟩, hS5.pick [0] rfl rfl⟩⟩
    replace h := bcF h hc9
    refine CW.exit ?_
    replace h := Option.some.inj h
    subst h
    exact ⟨trivial, rfl, ⟨⟨rfl, trivial⟩, hS4.pick [0] rfl rfl⟩⟩
  intro x e w33 hM
  obtain ⟨rfl, hM⟩ := hM
  obtain ⟨hE, hS6⟩ := hM
  obtain ⟨e, rfl⟩ := hE.out
  have h := h32
  show CW _ _ _ _ _ _
  refine CW.seq ?_
  refine CW.region ?_
  iterate 2 refine LW.p rfl rfl ?_
  refine LW.nil ?_
  show CW _ _ _ _ _ _
  refine CW.ret ?_
  cases h
  exact And.intro trivial ⟨_, Res.one (resOne.t rfl), rfl, hS6.pick [] rfl rfl⟩

theorem W_s_PartSum {w0 : World} {N : Nat} {x0 : DPart} {r : DAmt} (h : F_s_PartSum N x0 = some r) {a0_0 : Option Addr} {n0_0 c0_0 : Nat} (hn0_0 : n0_0 = x0.label.levels.length) (hr0_0 : rdS (Bor w0 []) w0 a0_0 c0_0 x0.label.levels) {a0_1 : Option Addr} {n0_1 c0_1 : Nat} (hn0_1 : n0_1 = x0.own.length) (hr0_1 : rdS (Bor w0 []) w0 a0_1 c0_1 x0.own) {a0_2 : Option Addr} {n0_2 c0_2 : Nat} (hn0_2 : n0_2 = x0.tree.length) (hr0_2 : rdS (Bor w0 []) w0 a0_2 c0_2 x0.tree) {a0_3 : Option Addr} {n0_3 c0_3 : Nat} (hn0_3 : n0_3 = x0.heap.arena.length) (hr0_3 : rdS (Bor w0 []) w0 a0_3 c0_3 x0.heap.arena) {a0_7 : Option Addr} {n0_7 c0_7 : Nat} (hn0_7 : n0_7 = x0.heap.gc.grey.length) (hr0_7 : rdS (Bor w0 []) w0 a0_7 c0_7 x0.heap.gc.grey) {a0_8 : Option Addr} {n0_8 c0_8 : Nat} (hn0_8 : n0_8 = x0.taps.length) (hr0_8 : rdS (Bor w0 []) w0 a0_8 c0_8 x0.taps) :
    Ret Try.prog 149 #[.agg #[.slice a0_0 n0_0 c0_0, .slice a0_1 n0_1 c0_1, .slice a0_2 n0_2 c0_2, .slice a0_3 n0_3 c0_3, .int .i64 x0.heap.gc.phase, .int .i64 x0.heap.gc.pos, .int .i64 x0.heap.gc.round, .slice a0_7 n0_7 c0_7, .slice a0_8 n0_8 c0_8, .int .i64 x0.next, .int .i64 x0.want, .int .i64 x0.spent.pages, .int .i64 x0.spent.rent, .int .i64 x0.spent.cpu, .int .i64 x0.press, .int .i64 x0.lost]] w0 (fun v w => v = .agg #[.int .i64 r.pages, .int .i64 r.rent, .int .i64 r.cpu] ∧ St w0 [] w []) := by
  subst hn0_0
  subst hn0_1
  subst hn0_2
  subst hn0_3
  subst hn0_7
  subst hn0_8
  unfold F_s_PartSum at h
  refine Ret.of Try.func149 rfl rfl rfl ?_
  have hS1 := St.start w0
  refine CW.seq ?_
  refine CW.region ?_
  refine LW.box (cs := [.slice a0_0 x0.label.levels.length c0_0, .slice a0_1 x0.own.length c0_1, .slice a0_2 x0.tree.length c0_2, .slice a0_3 x0.heap.arena.length c0_3, .int .i64 x0.heap.gc.phase, .int .i64 x0.heap.gc.pos, .int .i64 x0.heap.gc.round, .slice a0_7 x0.heap.gc.grey.length c0_7, .slice a0_8 x0.taps.length c0_8, .int .i64 x0.next, .int .i64 x0.want, .int .i64 x0.spent.pages, .int .i64 x0.spent.rent, .int .i64 x0.spent.cpu, .int .i64 x0.press, .int .i64 x0.lost]) rfl hS1 rfl ?_
  intro g1 w2 hS2 hf
  refine LW.alloc zv73 hS2 rfl ?_
  intro g3 w4 hS3 hf
  refine LW.nil ?_
  show CW _ _ _ _ _ _
  refine CW.seq ?_
  refine CW.region ?_
  refine LW.u (Pur.fa fo75_2 rfl) rfl ?_
  refine LW.ldb hS3 1 rfl ag67 rfl rfl rfl ?_
  replace h := obind h
  obtain ⟨y5, hy5, h⟩ := h
  have q := W_s_TreeSum (w0 := w4) hy5 rfl (hS3.rB hr0_2)
  refine LW.call pl183 rfl rfl ?_
  refine Ret.mono q ?_
  rintro _ w6 ⟨rfl, hs⟩
  have hS4 := hS3.add hs
  refine LW.alloc zv73 hS4 rfl ?_
  intro g7 w8 hS5 hf
  refine LW.stb hS5 0 rfl ag73 rfl rfl rfl rfl rfl ?_
  intro w9 hS6 hf
  refine LW.nil ?_
  show CW _ _ _ _ _ _
  refine CW.seq ?_
  refine CW.seq ?_
  refine CW.region ?_
  refine LW.u (Pur.fa fo75_7 rfl) rfl ?_
  refine LW.ldbN hS6 2 rfl ag73 rfl rfl rfl ?_
  replace h := obind h
  obtain ⟨y10, hy10, h⟩ := h
  have q := W_s_AmtOk (w0 := w9) hy10
  refine LW.call pl83 rfl rfl ?_
  refine Ret.mono q ?_
  rintro _ w11 ⟨rfl, hs⟩
  have hS7 := hS6.add hs
  refine LW.p rfl rfl ?_
  refine LW.nil ?_
  show CW _ _ _ _ _ _
  refine CW.cond rfl (fun hc12 => ?_) (fun hc12 => ?_)
  · replace h := bcT h hc12
    refine CW.seq ?_
    refine CW.region ?_
    refine LW.ldbN hS7 0 rfl ag73 rfl rfl rfl ?_
    refine LW.stb hS7 1 rfl ag73 rfl rfl rfl rfl rfl ?_
    intro w13 hS8 hf
    refine LW.nil ?_
    show CW _ _ _ _ _ _
    refine CW.fresh (l := [(2, .pointer (some ⟨g3, 0, none⟩))]) ⟨rfl, trivial⟩ (fun e => ?_)
    refine CW.ret ?_
    cases h
    exact And.intro trivial ⟨_, Res.one (resOne.b hS8 1 rfl ag73 rfl rfl), rfl, hS8.pick [] rfl rfl⟩
  replace h := bcF h hc12
  refine CW.skip ?_
  show CW _ _ _ _ _ _
  refine CW.seq ?_
  refine CW.draw (by kernel_rfl) ?_
  have hS9 := hS7.drew
  refine AW.u (i := 0) rfl (by kernel_rfl) rfl rfl (Pur.fa fo73_0 rfl) ?_
  refine AW.take (i := 1) rfl (by kernel_rfl) rfl rfl (Ldr.box (bt := 73) (fr := (0, 0)) (cs := [.int .i64 y5.pages, .int .i64 y5.rent, .int .i64 y5.cpu]) ag3 rfl rfl) (St.cell (h := hS9) (i := 0) rfl) ?_
  refine AW.take (i := 2) rfl (by kernel_rfl) rfl rfl (Ldr.boxN (bt := 75) (fr := (0, 0)) (cs := [.slice a0_0 x0.label.levels.length c0_0, .slice a0_1 x0.own.length c0_1, .slice a0_2 x0.tree.length c0_2, .slice a0_3 x0.heap.arena.length c0_3, .int .i64 x0.heap.gc.phase, .int .i64 x0.heap.gc.pos, .int .i64 x0.heap.gc.round, .slice a0_7 x0.heap.gc.grey.length c0_7, .slice a0_8 x0.taps.length c0_8, .int .i64 x0.next, .int .i64 x0.want, .int .i64 x0.spent.pages, .int .i64 x0.spent.rent, .int .i64 x0.spent.cpu, .int .i64 x0.press, .int .i64 x0.lost]) ag75 rfl rfl) (St.cell (h := hS9) (i := 2) rfl) ?_
  refine AW.u (i := 5) rfl (by kernel_rfl) rfl rfl (Pur.fa fo75_7 rfl) ?_
  refine AW.u (i := 6) rfl (by kernel_rfl) rfl rfl (Pur.fa fo73_0 rfl) ?_
  refine AW.take (i := 7) rfl (by kernel_rfl) rfl rfl (Ldr.box (bt := 75) (fr := (0, 0)) (cs := [.slice a0_0 x0.label.levels.length c0_0, .slice a0_1 x0.own.length c0_1, .slice a0_2 x0.tree.length c0_2, .slice a0_3 x0.heap.arena.length c0_3, .int .i64 x0.heap.gc.phase, .int .i64 x0.heap.gc.pos, .int .i64 x0.heap.gc.round, .slice a0_7 x0.heap.gc.grey.length c0_7, .slice a0_8 x0.taps.length c0_8, .int .i64 x0.next, .int .i64 x0.want, .int .i64 x0.spent.pages, .int .i64 x0.spent.rent, .int .i64 x0.spent.cpu, .int .i64 x0.press, .int .i64 x0.lost]) ag3 rfl rfl) (St.cell (h := hS9) (i := 2) rfl) ?_
  refine AW.u (i := 9) rfl (by kernel_rfl) rfl rfl (Pur.fa fo73_1 rfl) ?_
  refine AW.take (i := 10) rfl (by kernel_rfl) rfl rfl (Ldr.box (bt := 73) (fr := (0, 0)) (cs := [.int .i64 y5.pages, .int .i64 y5.rent, .int .i64 y5.cpu]) ag3 rfl rfl) (St.cell (h := hS9) (i := 0) rfl) ?_
  refine AW.u (i := 11) rfl (by kernel_rfl) rfl rfl (Pur.fa fo75_7 rfl) ?_
  refine AW.u (i := 12) rfl (by kernel_rfl) rfl rfl (Pur.fa fo73_1 rfl) ?_
  refine AW.take (i := 13) rfl (by kernel_rfl) rfl rfl (Ldr.box (bt := 75) (fr := (0, 0)) (cs := [.slice a0_0 x0.label.levels.length c0_0, .slice a0_1 x0.own.length c0_1, .slice a0_2 x0.tree.length c0_2, .slice a0_3 x0.heap.arena.length c0_3, .int .i64 x0.heap.gc.phase, .int .i64 x0.heap.gc.pos, .int .i64 x0.heap.gc.round, .slice a0_7 x0.heap.gc.grey.length c0_7, .slice a0_8 x0.taps.length c0_8, .int .i64 x0.next, .int .i64 x0.want, .int .i64 x0.spent.pages, .int .i64 x0.spent.rent, .int .i64 x0.spent.cpu, .int .i64 x0.press, .int .i64 x0.lost]) ag3 rfl rfl) (St.cell (h := hS9) (i := 2) rfl) ?_
  refine AW.u (i := 14) rfl (by kernel_rfl) rfl rfl (Pur.p rfl) ?_
  refine AW.u (i := 15) rfl (by kernel_rfl) rfl rfl (Pur.fa fo73_2 rfl) ?_
  refine AW.take (i := 16) rfl (by kernel_rfl) rfl rfl (Ldr.box (bt := 73) (fr := (0, 0)) (cs := [.int .i64 y5.pages, .int .i64 y5.rent, .int .i64 y5.cpu]) ag3 rfl rfl) (St.cell (h := hS9) (i := 0) rfl) ?_
  refine AW.u (i := 17) rfl (by kernel_rfl) rfl rfl (Pur.fa fo75_7 rfl) ?_
  refine AW.u (i := 18) rfl (by kernel_rfl) rfl rfl (Pur.fa fo73_2 rfl) ?_
  refine AW.take (i := 19) rfl (by kernel_rfl) rfl rfl (Ldr.box (bt := 75) (fr := (0, 0)) (cs := [.slice a0_0 x0.label.levels.length c0_0, .slice a0_1 x0.own.length c0_1, .slice a0_2 x0.tree.length c0_2, .slice a0_3 x0.heap.arena.length c0_3, .int .i64 x0.heap.gc.phase, .int .i64 x0.heap.gc.pos, .int .i64 x0.heap.gc.round, .slice a0_7 x0.heap.gc.grey.length c0_7, .slice a0_8 x0.taps.length c0_8, .int .i64 x0.next, .int .i64 x0.want, .int .i64 x0.spent.pages, .int .i64 x0.spent.rent, .int .i64 x0.spent.cpu, .int .i64 x0.press, .int .i64 x0.lost]) ag3 rfl rfl) (St.cell (h := hS9) (i := 2) rfl) ?_
  refine AW.u (i := 20) rfl (by kernel_rfl) rfl rfl (Pur.p rfl) ?_
  replace h := obind h
  obtain ⟨y14, hy14, h⟩ := h
  have q := W_s_Held (w0 := w11.drew) hy14 rfl (hS9.rB hr0_0) rfl (hS9.rB hr0_1) rfl (hS9.rB hr0_2) rfl (hS9.rB hr0_3) rfl (hS9.rB hr0_7) rfl (hS9.rB hr0_8)
  refine AW.one (i := 3) (by kernel_rfl) ?_
  refine ⟨_, rfl, ?_⟩
  refine LW.call pl184 rfl rfl ?_
  refine Ret.mono q ?_
  rintro _ w15 ⟨rfl, hs⟩
  have hS10 := hS9.add hs
  refine LW.nil ⟨rfl, (.c (St.cell (h := hS10) (i := 2) rfl) (.c (St.cell (h := hS10) (i := 0) rfl) (.c (St.cell (h := hS10) (i := 2) rfl) (.c (St.cell (h := hS10) (i := 0) rfl) (.c (St.cell (h := hS10) (i := 2) rfl) (.w (by kernel_rfl) (.c (St.cell (h := hS10) (i := 0) rfl) Kept.n))))))), ?_⟩
  refine AW.u (i := 4) rfl (by kernel_rfl) rfl rfl (Pur.p rfl) ?_
  refine AW.u (i := 8) rfl (by kernel_rfl) rfl rfl (Pur.p rfl) ?_
  refine AW.u (i := 21) rfl (by kernel_rfl) rfl rfl (Pur.build (vs := [(0, .int .i64 (IntKind.i64.wrap ((IntKind.i64.wrap (y5.pages + y14)) + x0.spent.pages))), (1, .int .i64 (IntKind.i64.wrap (y5.rent + x0.spent.rent))), (2, .int .i64 (IntKind.i64.wrap (y5.cpu + x0.spent.cpu)))]) (cs := #[.int .i64 (IntKind.i64.wrap ((IntKind.i64.wrap (y5.pages + y14)) + x0.spent.pages)), .int .i64 (IntKind.i64.wrap (y5.rent + x0.spent.rent)), .int .i64 (IntKind.i64.wrap (y5.cpu + x0.spent.cpu))]) rfl (by kernel_rfl)) ?_
  refine AW.one (i := 22) (by kernel_rfl) ?_
  refine ⟨_, rfl, ?_⟩
  refine LW.stb hS10 1 rfl ag73 rfl rfl rfl rfl rfl ?_
  intro w16 hS11 hf
  refine LW.nil ⟨rfl, (.w (by kernel_rfl) (.w (by kernel_rfl) (.w (by kernel_rfl) (.w (by kernel_rfl) (.w (by kernel_rfl) (.w (by kernel_rfl) (.w (by kernel_rfl) Kept.n))))))), ?_⟩
  refine AW.done (by kernel_rfl) ?_
  show CW _ _ _ _ _ _
  refine CW.ret ?_
  cases h
  exact And.intro trivial ⟨_, Res.one (resOne.b hS11 1 rfl ag73 rfl rfl), rfl, hS11.pick [] rfl rfl⟩

theorem W_s_l15Sum {w0 : World} {N : Nat} {x0 : List DPart} {r : DAmt} (h : F_s_l15Sum N x0 = some r) {a0_0 : Option Addr} {n0_0 c0_0 : Nat} (hn0_0 : n0_0 = x0.length) (hr0_0 : rdS (Bor w0 []) w0 a0_0 c0_0 x0) :
    Ret Try.prog 84 #[.slice a0_0 n0_0 c0_0] w0 (fun v w => v = .agg #[.int .i64 r.pages, .int .i64 r.rent, .int .i64 r.cpu] ∧ St w0 [] w []) := by
  subst hn0_0
  unfold F_s_l15Sum at h
  refine Ret.of Try.func84 rfl rfl rfl ?_
  have hS1 := St.start w0
  refine CW.seq ?_
  refine CW.region ?_
  refine LW.alloc zv73 hS1 rfl ?_
  intro g1 w2 hS2 hf
  refine LW.nil ?_
  show CW _ _ _ _ _ _
  refine CW.seq ?_
  refine CW.region ?_
  refine LW.u (Pur.build (vs := []) (cs := #[.int .i64 0, .int .i64 0, .int .i64 0]) rfl (by kernel_rfl)) rfl ?_
  refine LW.alloc zv73 hS2 rfl ?_
  intro g3 w4 hS3 hf
  refine LW.stb hS3 0 rfl ag73 rfl rfl rfl rfl rfl ?_
  intro w5 hS4 hf
  refine LW.nil ?_
  show CW _ _ _ _ _ _
  refine CW.seq ?_
  refine CW.seq ?_
  refine CW.region ?_
  refine LW.p rfl rfl ?_
  refine LW.nil ?_
  show CW _ _ _ _ _ _
  refine CW.block ?_
  obtain ⟨o42, ho42, h43⟩ := obind h
  refine CW.mono (CW.iter (σ := Int × Int × Int × Int) (ρ := Int × Int × Int × Int) (fun s6 e wb => En e [(0, .slice a0_0 x0.length c0_0), (2, .pointer (some ⟨g1, 0, none⟩)), (3, .pointer (some ⟨g3, 0, none⟩)), (4, .int .i64 s6.1)] ∧ St w0 [] wb [bx g3 73 [.int .i64 s6.2.1, .int .i64 s6.2.2.1, .int .i64 s6.2.2.2], bx g1 73 [.int .i64 0, .int .i64 0, .int .i64 0]]) (fun s6 x e wb => x = .exit 0 ∧ En e [(2, .pointer (some ⟨g1, 0, none⟩)), (3, .pointer (some ⟨g3, 0, none⟩))] ∧ St w0 [] wb [bx g3 73 [.int .i64 s6.2.1, .int .i64 s6.2.2.1, .int .i64 s6.2.2.2], bx g1 73 [.int .i64 0, .int .i64 0, .int .i64 0]]) ?_ N (0, 0, 0, 0) _ _ _ ⟨⟨rfl, rfl, rfl, rfl, trivial⟩, hS4.pick [0, 1] rfl rfl⟩ ho42) ?_
  · intro s6 e w7 o hM h
    obtain ⟨hE, hS5⟩ := hM
    obtain ⟨e, rfl⟩ := hE.out
    refine CW.seq ?_
    refine CW.seq ?_
    refine CW.region ?_
    iterate 2 refine LW.p rfl rfl ?_
    refine LW.u (Pur.len Try.underlying49 rfl) rfl ?_
    refine LW.p rfl rfl ?_
    refine LW.nil ?_
    show CW _ _ _ _ _ _
    refine CW.cond rfl (fun hc8 => ?_) (fun hc8 => ?_)
    · replace h := bcT h hc8
      refine CW.skip ?_
      show CW _ _ _ _ _ _
      refine CW.seq ?_
      refine CW.block ?_
      refine CW.seq ?_
      refine CW.region ?_
      iterate 2 refine LW.p rfl rfl ?_
      replace h := obind h
      obtain ⟨y9, hy9, h⟩ := h
      obtain ⟨b12, o13, cs14, hae, hb17, hp10, hq11, hd15, hk16⟩ := hr0_0.idx hy9
      subst hae
      obtain ⟨a18, c19, a21, c22, a24, c25, a27, c28, a30, c31, a33, c34, rfl, hr20, hr23, hr26, hr29, hr32, hr35⟩ := hd15
      refine LW.u (Pur.ix Try.underlying49 sz75 rfl rfl hp10 hq11) rfl ?_
      refine LW.l (Ldr.oldN w0 ag75 rfl rfl (fun j u hu => hk16 j u hu)) (hS5.same _ hb17.1 hb17.2) rfl ?_
      replace h := obind h
      obtain ⟨y36, hy36, h⟩ := h
      have q := W_s_PartSum (w0 := w7) hy36 rfl (hS5.rB hr20) rfl (hS5.rB hr23) rfl (hS5.rB hr26) rfl (hS5.rB hr29) rfl (hS5.rB hr32) rfl (hS5.rB hr35)
      refine LW.call pl149 rfl rfl ?_
      refine Ret.mono q ?_
      rintro _ w37 ⟨rfl, hs⟩
      have hS6 := hS5.add hs
      refine LW.alloc zv73 hS6 rfl ?_
      intro g38 w39 hS7 hf
      refine LW.stb hS7 0 rfl ag73 rfl rfl rfl rfl rfl ?_
      intro w40 hS8 hf
      refine LW.nil ?_
      show CW _ _ _ _ _ _
      refine CW.fresh (l := [(0, .slice (some ⟨b12, o13, none⟩) x0.length c0_0), (2, .pointer (some ⟨g1, 0, none⟩)), (3, .pointer (some ⟨g3, 0, none⟩)), (4, .int .i64 s6.1), (5, .pointer (some ⟨g38, 0, none⟩))]) ⟨rfl, rfl, rfl, rfl, rfl, trivial⟩ (fun e => ?_)
      refine CW.region ?_
      refine LW.u (Pur.fa fo73_0 rfl) rfl ?_
      refine LW.ldb hS8 1 rfl ag3 rfl rfl rfl ?_
      refine LW.u (Pur.fa fo73_0 rfl) rfl ?_
      refine LW.ldb hS8 0 rfl ag3 rfl rfl rfl ?_
      refine LW.p rfl rfl ?_
      refine LW.u (Pur.fa fo73_1 rfl) rfl ?_
      refine LW.ldb hS8 1 rfl ag3 rfl rfl rfl ?_
      refine LW.u (Pur.fa fo73_1 rfl) rfl ?_
      refine LW.ldb hS8 0 rfl ag3 rfl rfl rfl ?_
      refine LW.p rfl rfl ?_
      refine LW.u (Pur.fa fo73_2 rfl) rfl ?_
      refine LW.ldb hS8 1 rfl ag3 rfl rfl rfl ?_
      refine LW.u (Pur.fa fo73_2 rfl) rfl ?_
      refine LW.ldb hS8 0 rfl ag3 rfl rfl rfl ?_
      refine LW.p rfl rfl ?_
      refine LW.u (Pur.build (vs := [(0, .int .i64 (IntKind.i64.wrap (s6.2.1 + y36.pages))), (1, .int .i64 (IntKind.i64.wrap (s6.2.2.1 + y36.rent))), (2, .int .i64 (IntKind.i64.wrap (s6.2.2.2 + y36.cpu)))]) (cs := #[.int .i64 (IntKind.i64.wrap (s6.2.1 + y36.pages)), .int .i64 (IntKind.i64.wrap (s6.2.2.1 + y36.rent)), .int .i64 (IntKind.i64.wrap (s6.2.2.2 + y36.cpu))]) rfl (by kernel_rfl)) rfl ?_
      refine LW.stb hS8 1 rfl ag73 rfl rfl rfl rfl rfl ?_
      intro w41 hS9 hf
      refine LW.nil ?_
      show CW _ _ _ _ _ _
      refine CW.fresh (l := [(0, .slice (some ⟨b12, o13, none⟩) x0.length c0_0), (2, .pointer (some ⟨g1, 0, none⟩)), (3, .pointer (some ⟨g3, 0, none⟩)), (4, .int .i64 s6.1)]) ⟨rfl, rfl, rfl, rfl, trivial⟩ (fun e => ?_)
      refine CW.region ?_
      iterate 3 refine LW.p rfl rfl ?_
      refine LW.nil ?_
      replace h := Option.some.inj h
      subst h
      exact ⟨rfl, ⟨⟨rfl, rfl, rfl, rfl, trivial⟩, hS9.pick [1, 2] rfl rfl⟩⟩
    replace h := bcF h hc8
    refine CW.exit ?_
    replace h := Option.some.inj h
    subst h
    exact ⟨trivial, rfl, ⟨⟨rfl, rfl, trivial⟩, hS5.pick [0, 1] rfl rfl⟩⟩
  intro x e w44 hM
  obtain ⟨rfl, hM⟩ := hM
  obtain ⟨hE, hS10⟩ := hM
  obtain ⟨e, rfl⟩ := hE.out
  have h := h43
  show CW _ _ _ _ _ _
  refine CW.seq ?_
  refine CW.region ?_
  refine LW.ldbN hS10 0 rfl ag73 rfl rfl rfl ?_
  refine LW.stb hS10 1 rfl ag73 rfl rfl rfl rfl rfl ?_
  intro w45 hS11 hf
  refine LW.nil ?_
  show CW _ _ _ _ _ _
  refine CW.ret ?_
  cases h
  exact And.intro trivial ⟨_, Res.one (resOne.b hS11 1 rfl ag73 rfl rfl), rfl, hS11.pick [] rfl rfl⟩

theorem W_s_WorldOk {w0 : World} {N : Nat} {x0 : DWorld} {r : Bool} (h : F_s_WorldOk N x0 = some r) {a0_1 : Option Addr} {n0_1 c0_1 : Nat} (hn0_1 : n0_1 = x0.parts.length) (hr0_1 : rdS (Bor w0 []) w0 a0_1 c0_1 x0.parts) :
    Ret Try.prog 35 #[.agg #[.int .i64 x0.now, .slice a0_1 n0_1 c0_1]] w0 (fun v w => v = .bool r ∧ St w0 [] w []) := by
  subst hn0_1
  unfold F_s_WorldOk at h
  refine Ret.of Try.func35 rfl rfl rfl ?_
  have hS1 := St.start w0
  refine CW.seq ?_
  refine CW.region ?_
  refine LW.box (cs := [.int .i64 x0.now, .slice a0_1 x0.parts.length c0_1]) rfl hS1 rfl ?_
  intro g1 w2 hS2 hf
  refine LW.p rfl rfl ?_
  refine LW.nil ?_
  show CW _ _ _ _ _ _
  refine CW.seq ?_
  refine CW.seq ?_
  obtain ⟨j3, hj3, h4⟩ := obind h
  refine CW.cut (fun e wb => En e [(1, .pointer (some ⟨g1, 0, none⟩)), (14, .bool j3)] ∧ St w0 [] wb [bx g1 51 [.int .i64 x0.now, .slice a0_1 x0.parts.length c0_1]]) ?_ ?_
  · have h := hj3
    refine CW.region ?_
    refine LW.u (Pur.fa fo51_0 rfl) rfl ?_
    refine LW.ldb hS2 0 rfl ag3 rfl rfl rfl ?_
    replace h := obind h
    obtain ⟨y5, hy5, h⟩ := h
    have q := W_s_l1In (w0 := w2) hy5
    refine LW.call pl81 rfl rfl ?_
    refine Ret.mono q ?_
    rintro _ w6 ⟨rfl, hs⟩
    have hS3 := hS2.add hs
    iterate 2 refine LW.p rfl rfl ?_
    rcases bcases (!y5) with hc7 | hc7
    · replace h := bcT h hc7
      refine LW.gN (want_not rfl rfl hc7) rfl ?_
      refine LW.gN (want_not rfl rfl hc7) rfl ?_
      refine LW.gN (want_not rfl rfl hc7) rfl ?_
      refine LW.gN (want_not rfl rfl hc7) rfl ?_
      refine LW.gN (want_not rfl rfl hc7) rfl ?_
      refine LW.u (Pur.pickT rfl hc7) rfl ?_
      refine LW.nil ?_
      replace h := Option.some.inj h
      subst h
      exact ⟨⟨rfl, rfl, trivial⟩, hS3.pick [0] rfl rfl⟩
    replace h := bcF h hc7
    refine LW.gY (want_of rfl rfl hc7) ?_
    refine LW.u (Pur.fa fo51_1 rfl) rfl ?_
    refine LW.gY (want_of rfl rfl hc7) ?_
    refine LW.ldb hS3 0 rfl ag49 rfl rfl rfl ?_
    refine LW.gY (want_of rfl rfl hc7) ?_
    refine LW.u (Pur.len Try.underlying49 rfl) rfl ?_
    replace h := obind h
    obtain ⟨y8, hy8, h⟩ := h
    have q := W_s_l1In (w0 := w6) hy8
    refine LW.gY (want_of rfl rfl hc7) ?_
    refine LW.call pl81 rfl rfl ?_
    refine Ret.mono q ?_
    rintro _ w9 ⟨rfl, hs⟩
    have hS4 := hS3.add hs
    refine LW.gY (want_of rfl rfl hc7) ?_
    refine LW.p rfl rfl ?_
    refine LW.u (Pur.pickF rfl hc7) rfl ?_
    refine LW.nil ?_
    replace h := Option.some.inj h
    subst h
    exact ⟨⟨rfl, rfl, trivial⟩, hS4.pick [0] rfl rfl⟩
  intro e w10 hM
  obtain ⟨hE, hS5⟩ := hM
  obtain ⟨e, rfl⟩ := hE.out
  have h := h4
  show CW _ _ _ _ _ _
  refine CW.cond rfl (fun hc11 => ?_) (fun hc11 => ?_)
  · replace h := bcT h hc11
    refine CW.seq ?_
    refine CW.region ?_
    refine LW.p rfl rfl ?_
    refine LW.nil ?_
    show CW _ _ _ _ _ _
    refine CW.ret ?_
    cases h
    exact And.intro trivial ⟨_, Res.one (resOne.t rfl), rfl, hS5.pick [] rfl rfl⟩
  replace h := bcF h hc11
  refine CW.skip ?_
  show CW _ _ _ _ _ _
  refine CW.seq ?_
  refine CW.seq ?_
  refine CW.region ?_
  refine LW.p rfl rfl ?_
  refine LW.nil ?_
  show CW _ _ _ _ _ _
  refine CW.block ?_
  obtain ⟨o45, ho45, h46⟩ := obind h
  refine CW.mono (CW.iter (σ := Int) (ρ := Int ⊕ Bool) (fun s12 e wb => En e [(1, .pointer (some ⟨g1, 0, none⟩)), (3, .int .i64 s12)] ∧ St w0 [] wb [bx g1 51 [.int .i64 x0.now, .slice a0_1 x0.parts.length c0_1]]) (fun o x e wb => match o with | .inl s12 => x = .exit 0 ∧ En e [(1, .pointer (some ⟨g1, 0, none⟩))] ∧ St w0 [] wb [bx g1 51 [.int .i64 x0.now, .slice a0_1 x0.parts.length c0_1]] | .inr r => x = .ret ∧ ∃ u, u = r ∧ ∃ v, Res Try.prog Try.f35.results e wb v ∧ v = .bool u ∧ St w0 [] wb []) ?_ N 0 _ _ _ ⟨⟨rfl, rfl, trivial⟩, hS5.pick [0] rfl rfl⟩ ho45) ?_
  · intro s12 e w13 o hM h
    obtain ⟨hE, hS6⟩ := hM
    obtain ⟨e, rfl⟩ := hE.out
    refine CW.seq ?_
    refine CW.seq ?_
    refine CW.region ?_
    refine LW.p rfl rfl ?_
    refine LW.u (Pur.fa fo51_1 rfl) rfl ?_
    refine LW.ldb hS6 0 rfl ag49 rfl rfl rfl ?_
    refine LW.u (Pur.len Try.underlying49 rfl) rfl ?_
    refine LW.p rfl rfl ?_
    refine LW.nil ?_
    show CW _ _ _ _ _ _
    refine CW.cond rfl (fun hc14 => ?_) (fun hc14 => ?_)
    · replace h := bcT h hc14
      refine CW.skip ?_
      show CW _ _ _ _ _ _
      refine CW.seq ?_
      refine CW.block ?_
      refine CW.seq ?_
      refine CW.region ?_
      refine LW.u (Pur.fa fo51_1 rfl) rfl ?_
      refine LW.ldb hS6 0 rfl ag49 rfl rfl rfl ?_
      refine LW.p rfl rfl ?_
      replace h := obind h
      obtain ⟨y15, hy15, h⟩ := h
      obtain ⟨b18, o19, cs20, hae, hb23, hp16, hq17, hd21, hk22⟩ := hr0_1.idx hy15
      subst hae
      obtain ⟨a24, c25, a27, c28, a30, c31, a33, c34, a36, c37, a39, c40, rfl, hr26, hr29, hr32, hr35, hr38, hr41⟩ := hd21
      refine LW.u (Pur.ix Try.underlying49 sz75 rfl rfl hp16 hq17) rfl ?_
      refine LW.l (Ldr.oldN w0 ag75 rfl rfl (fun j u hu => hk22 j u hu)) (hS6.same _ hb23.1 hb23.2) rfl ?_
      replace h := obind h
      obtain ⟨y42, hy42, h⟩ := h
      have q := W_s_PartOk (w0 := w13) hy42 rfl (hS6.rB hr26) rfl (hS6.rB hr29) rfl (hS6.rB hr32) rfl (hS6.rB hr35) rfl (hS6.rB hr38) rfl (hS6.rB hr41)
      refine LW.call pl82 rfl rfl ?_
      refine Ret.mono q ?_
      rintro _ w43 ⟨rfl, hs⟩
      have hS7 := hS6.add hs
      refine LW.p rfl rfl ?_
      refine LW.nil ?_
      show CW _ _ _ _ _ _
      refine CW.fresh (l := [(1, .pointer (some ⟨g1, 0, none⟩)), (3, .int .i64 s12), (28, .bool (!y42))]) ⟨rfl, rfl, rfl, trivial⟩ (fun e => ?_)
      refine CW.cond rfl (fun hc44 => ?_) (fun hc44 => ?_)
      · replace h := bcT h hc44
        refine CW.seq ?_
        refine CW.region ?_
        refine LW.p rfl rfl ?_
        refine LW.nil ?_
        show CW _ _ _ _ _ _
        refine CW.ret ?_
        replace h := Option.some.inj h
        subst h
        exact ⟨trivial, rfl, _, rfl, ⟨_, Res.one (resOne.t rfl), rfl, hS7.pick [] rfl rfl⟩⟩
      replace h := bcF h hc44
      refine CW.skip ?_
      show CW _ _ _ _ _ _
      refine CW.region ?_
      iterate 3 refine LW.p rfl rfl ?_
      refine LW.nil ?_
      replace h := Option.some.inj h
      subst h
      exact ⟨rfl, ⟨⟨rfl, rfl, trivial⟩, hS7.pick [0] rfl rfl⟩⟩
    replace h := bcF h hc14
    refine CW.exit ?_
    replace h := Option.some.inj h
    subst h
    exact ⟨trivial, rfl, ⟨⟨rfl, trivial⟩, hS6.pick [0] rfl rfl⟩⟩
  intro x e w47 hM
  rcases o45 with o45 | r52
  · obtain ⟨rfl, hM⟩ := hM
    obtain ⟨hE, hS8⟩ := hM
    obtain ⟨e, rfl⟩ := hE.out
    have h := h46
    show CW _ _ _ _ _ _
    refine CW.seq ?_
    refine CW.region ?_
    refine LW.u (Pur.fa fo51_1 rfl) rfl ?_
    refine LW.ldb hS8 0 rfl ag49 rfl rfl rfl ?_
    replace h := obind h
    obtain ⟨y48, hy48, h⟩ := h
    have q := W_s_l15Sum (w0 := w47) hy48 rfl (hS8.rB hr0_1)
    refine LW.call pl84 rfl rfl ?_
    refine Ret.mono q ?_
    rintro _ w49 ⟨rfl, hs⟩
    have hS9 := hS8.add hs
    replace h := obind h
    obtain ⟨y50, hy50, h⟩ := h
    have q := W_s_AmtOk (w0 := w49) hy50
    refine LW.call pl83 rfl rfl ?_
    refine Ret.mono q ?_
    rintro _ w51 ⟨rfl, hs⟩
    have hS10 := hS9.add hs
    refine LW.p rfl rfl ?_
    refine LW.nil ?_
    show CW _ _ _ _ _ _
    refine CW.ret ?_
    cases h
    exact And.intro trivial ⟨_, Res.one (resOne.t rfl), rfl, hS10.pick [] rfl rfl⟩
  obtain ⟨rfl, u, rfl, hM⟩ := hM
  cases h46
  exact And.intro trivial hM

theorem W_i_TreeSum {w0 : World} {N : Nat} {x0 : List DRes} {r : DAmt} (h : F_i_TreeSum N x0 = some r) {a0_0 : Option Addr} {n0_0 c0_0 : Nat} (hn0_0 : n0_0 = x0.length) (hr0_0 : rdS (Bor w0 []) w0 a0_0 c0_0 x0) :
    Ret Try.prog 154 #[.slice a0_0 n0_0 c0_0] w0 (fun v w => v = .agg #[.int .i64 r.pages, .int .i64 r.rent, .int .i64 r.cpu] ∧ St w0 [] w []) := by
  subst hn0_0
  unfold F_i_TreeSum at h
  refine Ret.of Try.func154 rfl rfl rfl ?_
  have hS1 := St.start w0
  refine CW.seq ?_
  refine CW.region ?_
  refine LW.alloc zv73 hS1 rfl ?_
  intro g1 w2 hS2 hf
  refine LW.nil ?_
  show CW _ _ _ _ _ _
  refine CW.seq ?_
  refine CW.region ?_
  refine LW.u (Pur.build (vs := []) (cs := #[.int .i64 0, .int .i64 0, .int .i64 0]) rfl (by kernel_rfl)) rfl ?_
  refine LW.alloc zv73 hS2 rfl ?_
  intro g3 w4 hS3 hf
  refine LW.stb hS3 0 rfl ag73 rfl rfl rfl rfl rfl ?_
  intro w5 hS4 hf
  refine LW.nil ?_
  show CW _ _ _ _ _ _
  refine CW.seq ?_
  refine CW.seq ?_
  refine CW.region ?_
  refine LW.p rfl rfl ?_
  replace h := obind h
  obtain ⟨y6, hy6, h⟩ := h
  have q := W_i_TreeOk (w0 := w5) hy6 rfl (hS4.rB hr0_0)
  refine LW.call pl151 rfl rfl ?_
  refine Ret.mono q ?_
  rintro _ w7 ⟨rfl, hs⟩
  have hS5 := hS4.add hs
  refine LW.p rfl rfl ?_
  refine LW.nil ?_
  show CW _ _ _ _ _ _
  refine CW.cond rfl (fun hc8 => ?_) (fun hc8 => ?_)
  · replace h := bcT h hc8
    refine CW.seq ?_
    refine CW.region ?_
    refine LW.ldbN hS5 0 rfl ag73 rfl rfl rfl ?_
    refine LW.stb hS5 1 rfl ag73 rfl rfl rfl rfl rfl ?_
    intro w9 hS6 hf
    refine LW.nil ?_
    show CW _ _ _ _ _ _
    refine CW.ret ?_
    cases h
    exact And.intro trivial ⟨_, Res.one (resOne.b hS6 1 rfl ag73 rfl rfl), rfl, hS6.pick [] rfl rfl⟩
  replace h := bcF h hc8
  refine CW.skip ?_
  show CW _ _ _ _ _ _
  refine CW.seq ?_
  refine CW.seq ?_
  refine CW.region ?_
  refine LW.p rfl rfl ?_
  refine LW.u (Pur.len Try.underlying67 rfl) rfl ?_
  refine LW.p rfl rfl ?_
  refine LW.nil ?_
  show CW _ _ _ _ _ _
  refine CW.block ?_
  obtain ⟨o28, ho28, h29⟩ := obind h
  refine CW.mono (CW.iter (σ := Int × Int × Int × Int) (ρ := Int × Int × Int × Int) (fun s10 e wb => En e [(2, .pointer (some ⟨g1, 0, none⟩)), (3, .pointer (some ⟨g3, 0, none⟩)), (11, .slice a0_0 x0.length c0_0), (12, .int .i64 (x0.length : Int)), (13, .int .i64 s10.1)] ∧ St w0 [] wb [bx g3 73 [.int .i64 s10.2.1, .int .i64 s10.2.2.1, .int .i64 s10.2.2.2], bx g1 73 [.int .i64 0, .int .i64 0, .int .i64 0]]) (fun s10 x e wb => x = .exit 0 ∧ En e [(2, .pointer (some ⟨g1, 0, none⟩)), (3, .pointer (some ⟨g3, 0, none⟩))] ∧ St w0 [] wb [bx g3 73 [.int .i64 s10.2.1, .int .i64 s10.2.2.1, .int .i64 s10.2.2.2], bx g1 73 [.int .i64 0, .int .i64 0, .int .i64 0]]) ?_ N (0, 0, 0, 0) _ _ _ ⟨⟨rfl, rfl, rfl, rfl, rfl, trivial⟩, hS5.pick [0, 1] rfl rfl⟩ ho28) ?_
  · intro s10 e w11 o hM h
    obtain ⟨hE, hS7⟩ := hM
    obtain ⟨e, rfl⟩ := hE.out
    refine CW.seq ?_
    refine CW.region ?_
    refine LW.p rfl rfl ?_
    refine LW.nil ?_
    show CW _ _ _ _ _ _
    refine CW.seq ?_
    refine CW.cond rfl (fun hc12 => ?_) (fun hc12 => ?_)
    · replace h := bcT h hc12
      refine CW.skip ?_
      show CW _ _ _ _ _ _
      refine CW.seq ?_
      refine CW.block ?_
      refine CW.seq ?_
      refine CW.region ?_
      replace h := obind h
      obtain ⟨y13, hy13, h⟩ := h
      obtain ⟨b16, o17, cs18, hae, hb21, hp14, hq15, hd19, hk20⟩ := hr0_0.idx hy13
      subst hae
      obtain rfl := hd19
      refine LW.u (Pur.ix Try.underlying67 sz156 rfl rfl hp14 hq15) rfl ?_
      refine LW.l (Ldr.oldN w0 ag156 rfl rfl (fun j u hu => hk20 j u hu)) (hS7.same _ hb21.1 hb21.2) rfl ?_
      refine LW.alloc zv156 hS7 rfl ?_
      intro g22 w23 hS8 hf
      refine LW.stb hS8 0 rfl ag156 rfl rfl rfl rfl rfl ?_
      intro w24 hS9 hf
      refine LW.nil ?_
      show CW _ _ _ _ _ _
      refine CW.fresh (l := [(2, .pointer (some ⟨g1, 0, none⟩)), (3, .pointer (some ⟨g3, 0, none⟩)), (5, .pointer (some ⟨g22, 0, none⟩)), (11, .slice (some ⟨b16, o17, none⟩) x0.length c0_0), (12, .int .i64 (x0.length : Int)), (13, .int .i64 s10.1)]) ⟨rfl, rfl, rfl, rfl, rfl, rfl, trivial⟩ (fun e => ?_)
      refine CW.region ?_
      refine LW.ldbN hS9 1 rfl ag73 rfl rfl rfl ?_
      refine LW.u (Pur.fa fo156_2 rfl) rfl ?_
      refine LW.ldbN hS9 0 rfl ag73 rfl rfl rfl ?_
      replace h := obind h
      obtain ⟨y25, hy25, h⟩ := h
      have q := W_i_sumOf (w0 := w24) hy25
      refine LW.call pl88 rfl rfl ?_
      refine Ret.mono q ?_
      rintro _ w26 ⟨rfl, hs⟩
      have hS10 := hS9.add hs
      refine LW.stb hS10 1 rfl ag73 rfl rfl rfl rfl rfl ?_
      intro w27 hS11 hf
      refine LW.nil ?_
      show CW _ _ _ _ _ _
      refine CW.region ?_
      iterate 2 refine LW.p rfl rfl ?_
      refine LW.nil ?_
      replace h := Option.some.inj h
      subst h
      exact ⟨rfl, ⟨⟨rfl, rfl, rfl, rfl, rfl, trivial⟩, hS11.pick [1, 2] rfl rfl⟩⟩
    replace h := bcF h hc12
    refine CW.exit ?_
    replace h := Option.some.inj h
    subst h
    exact ⟨trivial, rfl, ⟨⟨rfl, rfl, trivial⟩, hS7.pick [0, 1] rfl rfl⟩⟩
  intro x e w30 hM
  obtain ⟨rfl, hM⟩ := hM
  obtain ⟨hE, hS12⟩ := hM
  obtain ⟨e, rfl⟩ := hE.out
  have h := h29
  show CW _ _ _ _ _ _
  refine CW.seq ?_
  refine CW.region ?_
  refine LW.ldbN hS12 0 rfl ag73 rfl rfl rfl ?_
  refine LW.stb hS12 1 rfl ag73 rfl rfl rfl rfl rfl ?_
  intro w31 hS13 hf
  refine LW.nil ?_
  show CW _ _ _ _ _ _
  refine CW.ret ?_
  cases h
  exact And.intro trivial ⟨_, Res.one (resOne.b hS13 1 rfl ag73 rfl rfl), rfl, hS13.pick [] rfl rfl⟩

theorem W_i_firstThings {w0 : World} {N : Nat} {x0 : DPart} {r : (List DObjP)} (h : F_i_firstThings N x0 = some r) {a0_0 : Option Addr} {n0_0 c0_0 : Nat} (hn0_0 : n0_0 = x0.label.levels.length) (hr0_0 : rdS (Bor w0 []) w0 a0_0 c0_0 x0.label.levels) {a0_1 : Option Addr} {n0_1 c0_1 : Nat} (hn0_1 : n0_1 = x0.own.length) (hr0_1 : rdS (Bor w0 []) w0 a0_1 c0_1 x0.own) {a0_2 : Option Addr} {n0_2 c0_2 : Nat} (hn0_2 : n0_2 = x0.tree.length) (hr0_2 : rdS (Bor w0 []) w0 a0_2 c0_2 x0.tree) {a0_3 : Option Addr} {n0_3 c0_3 : Nat} (hn0_3 : n0_3 = x0.heap.arena.length) (hr0_3 : rdS (Bor w0 []) w0 a0_3 c0_3 x0.heap.arena) {a0_7 : Option Addr} {n0_7 c0_7 : Nat} (hn0_7 : n0_7 = x0.heap.gc.grey.length) (hr0_7 : rdS (Bor w0 []) w0 a0_7 c0_7 x0.heap.gc.grey) {a0_8 : Option Addr} {n0_8 c0_8 : Nat} (hn0_8 : n0_8 = x0.taps.length) (hr0_8 : rdS (Bor w0 []) w0 a0_8 c0_8 x0.taps) :
    Ret Try.prog 188 #[.agg #[.slice a0_0 n0_0 c0_0, .slice a0_1 n0_1 c0_1, .slice a0_2 n0_2 c0_2, .slice a0_3 n0_3 c0_3, .int .i64 x0.heap.gc.phase, .int .i64 x0.heap.gc.pos, .int .i64 x0.heap.gc.round, .slice a0_7 n0_7 c0_7, .slice a0_8 n0_8 c0_8, .int .i64 x0.next, .int .i64 x0.want, .int .i64 x0.spent.pages, .int .i64 x0.spent.rent, .int .i64 x0.spent.cpu, .int .i64 x0.press, .int .i64 x0.lost]] w0 (fun v w => ∃ ar0 cr0, v = .slice ar0 r.length cr0 ∧ St w0 [] w [sl ar0 cr0 r]) := by
  subst hn0_0
  subst hn0_1
  subst hn0_2
  subst hn0_3
  subst hn0_7
  subst hn0_8
  unfold F_i_firstThings at h
  refine Ret.of Try.func188 rfl rfl rfl ?_
  have hS1 := St.start w0
  refine CW.seq ?_
  refine CW.region ?_
  refine LW.box (cs := [.slice a0_0 x0.label.levels.length c0_0, .slice a0_1 x0.own.length c0_1, .slice a0_2 x0.tree.length c0_2, .slice a0_3 x0.heap.arena.length c0_3, .int .i64 x0.heap.gc.phase, .int .i64 x0.heap.gc.pos, .int .i64 x0.heap.gc.round, .slice a0_7 x0.heap.gc.grey.length c0_7, .slice a0_8 x0.taps.length c0_8, .int .i64 x0.next, .int .i64 x0.want, .int .i64 x0.spent.pages, .int .i64 x0.spent.rent, .int .i64 x0.spent.cpu, .int .i64 x0.press, .int .i64 x0.lost]) rfl hS1 rfl ?_
  intro g1 w2 hS2 hf
  refine LW.p rfl rfl ?_
  refine LW.nil ?_
  show CW _ _ _ _ _ _
  refine CW.seq ?_
  refine CW.region ?_
  refine LW.bsl (α := DObjP) (vs := []) (cs := #[]) (l := ([] : List DObjP)) rfl (by kernel_rfl) rfl rfl rfl (fun w => rfl) hS2 rfl ?_
  intro a3 c4 w5 hS3 hf
  refine LW.p rfl rfl ?_
  refine LW.nil ?_
  show CW _ _ _ _ _ _
  refine CW.seq ?_
  refine CW.seq ?_
  refine CW.region ?_
  refine LW.u (Pur.fa fo75_3 rfl) rfl ?_
  refine LW.u (Pur.fa fo71_0 rfl) rfl ?_
  refine LW.ldb hS3 1 rfl ag68 rfl rfl rfl ?_
  refine LW.u (Pur.fa fo75_3 rfl) rfl ?_
  refine LW.u (Pur.fa fo71_0 rfl) rfl ?_
  refine LW.ldb hS3 1 rfl ag68 rfl rfl rfl ?_
  refine LW.u (Pur.len Try.underlying68 rfl) rfl ?_
  refine LW.u (Pur.min rfl rfl) rfl ?_
  replace h := obind h
  obtain ⟨y6, hy6, h⟩ := h
  obtain ⟨a7, c8, he9, he10, hr11⟩ := rdS.sub' hr0_3 hy6
  have hle12 := (hr0_3).le
  refine LW.u (Pur.sub (α := DObj) (l := x0.heap.arena) Try.underlying68 sz123 rfl bndN (bndS rfl) hy6 hle12 he9 he10) rfl ?_
  refine LW.u (Pur.len Try.underlying68 rfl) rfl ?_
  refine LW.p rfl rfl ?_
  refine LW.nil ?_
  show CW _ _ _ _ _ _
  refine CW.fresh (l := [(3, .slice a3 (([] : List DObjP).length) c4), (15, .slice a7 y6.length c8), (16, .int .i64 (y6.length : Int)), (17, .int .i64 0)]) ⟨rfl, rfl, rfl, rfl, trivial⟩ (fun e => ?_)
  refine CW.block ?_
  obtain ⟨o45, ho45, h46⟩ := obind h
  refine CW.mono (CW.iter (σ := (List DObjP) × Int) (ρ := (List DObjP) × Int) (fun s13 e wb => ∃ (s13a0 : Option Addr), ∃ (s13c0 : Nat), En e [(3, .slice s13a0 s13.1.length s13c0), (15, .slice a7 y6.length c8), (16, .int .i64 (y6.length : Int)), (17, .int .i64 s13.2)] ∧ St w0 [] wb [sl s13a0 s13c0 s13.1]) (fun s13 x e wb => x = .exit 0 ∧ ∃ (s13a0 : Option Addr), ∃ (s13c0 : Nat), En e [(3, .slice s13a0 s13.1.length s13c0)] ∧ St w0 [] wb [sl s13a0 s13c0 s13.1]) ?_ N (([] : List DObjP), 0) _ _ _ ⟨a3, c4, ⟨rfl, rfl, rfl, rfl, trivial⟩, hS3.pick [0] rfl rfl⟩ ho45) ?_
  · intro s13 e w14 o hM h
    obtain ⟨s13a0, s13c0, hE, hS4⟩ := hM
    obtain ⟨e, rfl⟩ := hE.out
    refine CW.seq ?_
    refine CW.region ?_
    refine LW.p rfl rfl ?_
    refine LW.nil ?_
    show CW _ _ _ _ _ _
    refine CW.seq ?_
    refine CW.cond rfl (fun hc15 => ?_) (fun hc15 => ?_)
    · replace h := bcT h hc15
      refine CW.skip ?_
      show CW _ _ _ _ _ _
      refine CW.seq ?_
      refine CW.block ?_
      refine CW.seq ?_
      refine CW.region ?_
      replace h := obind h
      obtain ⟨y16, hy16, h⟩ := h
      obtain ⟨b19, o20, cs21, hae, hb24, hp17, hq18, hd22, hk23⟩ := hr11.idx hy16
      subst hae
      obtain ⟨a25, c26, a28, c29, a31, c32, rfl, hr27, hr30, hr33⟩ := hd22
      refine LW.u (Pur.ix Try.underlying68 sz123 rfl rfl hp17 hq18) rfl ?_
      refine LW.l (Ldr.oldN w0 ag123 rfl rfl (fun j u hu => hk23 j u hu)) (hS4.same _ hb24.1 hb24.2) rfl ?_
      refine LW.alloc zv123 hS4 rfl ?_
      intro g34 w35 hS5 hf
      refine LW.stb hS5 0 rfl ag123 rfl rfl rfl rfl rfl ?_
      intro w36 hS6 hf
      refine LW.nil ?_
      show CW _ _ _ _ _ _
      refine CW.seq ?_
      refine CW.region ?_
      refine LW.ldbN hS6 0 rfl ag123 rfl rfl rfl ?_
      replace h := obind h
      obtain ⟨y37, hy37, h⟩ := h
      have q := W_i_ObjOk (w0 := w36) hy37 rfl (hS6.rB hr27) rfl (hS6.rB hr30) rfl (hS6.rB hr33)
      refine LW.call pl191 rfl rfl ?_
      refine Ret.mono q ?_
      rintro _ w38 ⟨rfl, hs⟩
      have hS7 := hS6.add hs
      refine LW.nil ?_
      show CW _ _ _ _ _ _
      refine CW.cond rfl (fun hc39 => ?_) (fun hc39 => ?_)
      · replace h := bcT h hc39
        refine CW.region ?_
        refine LW.p rfl rfl ?_
        refine LW.ldbN hS7 0 rfl ag123 rfl rfl rfl ?_
        replace h := obind h
        obtain ⟨y40, hy40, h⟩ := h
        refine LW.app1 (M := []) (L := [bx g34 123 [.int .i64 y16.gen, .int .i64 y16.kind, .int .i64 y16.box, .int .i64 y16.res, .int .i64 y16.til, .int .i64 y16.pages, .int .i64 y16.wait, .int .i64 y16.got, .int .i64 y16.ran, .bool y16.mark, .slice a25 y16.links.length c26, .slice a28 y16.data.length c29, .slice a31 y16.queue.length c32], sl s13a0 s13c0 s13.1]) (vs := #[.int .i64 y16.gen, .int .i64 y16.kind, .int .i64 y16.box, .int .i64 y16.res, .int .i64 y16.til, .int .i64 y16.pages, .int .i64 y16.wait, .int .i64 y16.got, .int .i64 y16.ran, .bool y16.mark, .slice a25 y16.links.length c26, .slice a28 y16.data.length c29, .slice a31 y16.queue.length c32]) (i := 1) sTP68 rfl (by kernel_rfl) rfl rfl hy40 hS7 rfl (fun w G hG => by cases (show G = [] from hG); exact ⟨⟨_, _, _, _, _, _, _, _, _, rfl⟩, rfl⟩) rfl rfl ?_
        intro v43 a41 c42 w44 hS8 hf
        refine LW.p rfl rfl ?_
        refine LW.nil ?_
        show CW _ _ _ _ _ _
        refine CW.region ?_
        iterate 2 refine LW.p rfl rfl ?_
        refine LW.nil ?_
        replace h := Option.some.inj h
        subst h
        exact ⟨rfl, ⟨a41, c42, ⟨rfl, rfl, rfl, rfl, trivial⟩, hS8.pick [1] rfl rfl⟩⟩
      replace h := bcF h hc39
      refine CW.skip ?_
      show CW _ _ _ _ _ _
      refine CW.region ?_
      iterate 2 refine LW.p rfl rfl ?_
      refine LW.nil ?_
      replace h := Option.some.inj h
      subst h
      exact ⟨rfl, ⟨s13a0, s13c0, ⟨rfl, rfl, rfl, rfl, trivial⟩, hS7.pick [1] rfl rfl⟩⟩
    replace h := bcF h hc15
    refine CW.exit ?_
    replace h := Option.some.inj h
    subst h
    exact ⟨trivial, rfl, ⟨s13a0, s13c0, ⟨rfl, trivial⟩, hS4.pick [0] rfl rfl⟩⟩
  intro x e w47 hM
  obtain ⟨rfl, hM⟩ := hM
  obtain ⟨s13a0, s13c0, hE, hS9⟩ := hM
  obtain ⟨e, rfl⟩ := hE.out
  have h := h46
  show CW _ _ _ _ _ _
  refine CW.seq ?_
  refine CW.region ?_
  iterate 2 refine LW.p rfl rfl ?_
  refine LW.nil ?_
  show CW _ _ _ _ _ _
  refine CW.ret ?_
  cases h
  exact And.intro trivial ⟨_, Res.one (resOne.t rfl), s13a0, s13c0, rfl, hS9.pick [0] rfl rfl⟩

theorem W_i_Held {w0 : World} {N : Nat} {x0 : DPart} {r : Int} (h : F_i_Held N x0 = some r) {a0_0 : Option Addr} {n0_0 c0_0 : Nat} (hn0_0 : n0_0 = x0.label.levels.length) (hr0_0 : rdS (Bor w0 []) w0 a0_0 c0_0 x0.label.levels) {a0_1 : Option Addr} {n0_1 c0_1 : Nat} (hn0_1 : n0_1 = x0.own.length) (hr0_1 : rdS (Bor w0 []) w0 a0_1 c0_1 x0.own) {a0_2 : Option Addr} {n0_2 c0_2 : Nat} (hn0_2 : n0_2 = x0.tree.length) (hr0_2 : rdS (Bor w0 []) w0 a0_2 c0_2 x0.tree) {a0_3 : Option Addr} {n0_3 c0_3 : Nat} (hn0_3 : n0_3 = x0.heap.arena.length) (hr0_3 : rdS (Bor w0 []) w0 a0_3 c0_3 x0.heap.arena) {a0_7 : Option Addr} {n0_7 c0_7 : Nat} (hn0_7 : n0_7 = x0.heap.gc.grey.length) (hr0_7 : rdS (Bor w0 []) w0 a0_7 c0_7 x0.heap.gc.grey) {a0_8 : Option Addr} {n0_8 c0_8 : Nat} (hn0_8 : n0_8 = x0.taps.length) (hr0_8 : rdS (Bor w0 []) w0 a0_8 c0_8 x0.taps) :
    Ret Try.prog 155 #[.agg #[.slice a0_0 n0_0 c0_0, .slice a0_1 n0_1 c0_1, .slice a0_2 n0_2 c0_2, .slice a0_3 n0_3 c0_3, .int .i64 x0.heap.gc.phase, .int .i64 x0.heap.gc.pos, .int .i64 x0.heap.gc.round, .slice a0_7 n0_7 c0_7, .slice a0_8 n0_8 c0_8, .int .i64 x0.next, .int .i64 x0.want, .int .i64 x0.spent.pages, .int .i64 x0.spent.rent, .int .i64 x0.spent.cpu, .int .i64 x0.press, .int .i64 x0.lost]] w0 (fun v w => v = .int .i64 r ∧ St w0 [] w []) := by
  subst hn0_0
  subst hn0_1
  subst hn0_2
  subst hn0_3
  subst hn0_7
  subst hn0_8
  unfold F_i_Held at h
  refine Ret.of Try.func155 rfl rfl rfl ?_
  have hS1 := St.start w0
  refine CW.seq ?_
  refine CW.region ?_
  refine LW.box (cs := [.slice a0_0 x0.label.levels.length c0_0, .slice a0_1 x0.own.length c0_1, .slice a0_2 x0.tree.length c0_2, .slice a0_3 x0.heap.arena.length c0_3, .int .i64 x0.heap.gc.phase, .int .i64 x0.heap.gc.pos, .int .i64 x0.heap.gc.round, .slice a0_7 x0.heap.gc.grey.length c0_7, .slice a0_8 x0.taps.length c0_8, .int .i64 x0.next, .int .i64 x0.want, .int .i64 x0.spent.pages, .int .i64 x0.spent.rent, .int .i64 x0.spent.cpu, .int .i64 x0.press, .int .i64 x0.lost]) rfl hS1 rfl ?_
  intro g1 w2 hS2 hf
  refine LW.p rfl rfl ?_
  refine LW.nil ?_
  show CW _ _ _ _ _ _
  refine CW.seq ?_
  refine CW.region ?_
  refine LW.p rfl rfl ?_
  refine LW.nil ?_
  show CW _ _ _ _ _ _
  refine CW.seq ?_
  refine CW.seq ?_
  refine CW.region ?_
  refine LW.ldbN hS2 0 rfl ag75 rfl rfl rfl ?_
  replace h := obind h
  obtain ⟨y3, hy3, h⟩ := h
  have q := W_i_firstThings (w0 := w2) hy3 rfl (hS2.rB hr0_0) rfl (hS2.rB hr0_1) rfl (hS2.rB hr0_2) rfl (hS2.rB hr0_3) rfl (hS2.rB hr0_7) rfl (hS2.rB hr0_8)
  refine LW.call pl188 rfl rfl ?_
  refine Ret.mono q ?_
  rintro _ w6 ⟨a4, c5, rfl, hs⟩
  have hS3 := hS2.add hs
  refine LW.u (Pur.len Try.underlying68 rfl) rfl ?_
  refine LW.p rfl rfl ?_
  refine LW.nil ?_
  show CW _ _ _ _ _ _
  refine CW.block ?_
  obtain ⟨o35, ho35, h36⟩ := obind h
  refine CW.mono (CW.iter (σ := Int × Int) (ρ := Int × Int) (fun s7 e wb => En e [(3, .int .i64 s7.1), (7, .slice a4 y3.length c5), (8, .int .i64 (y3.length : Int)), (9, .int .i64 s7.2)] ∧ St w0 [] wb [sl a4 c5 y3]) (fun s7 x e wb => x = .exit 0 ∧ En e [(3, .int .i64 s7.1)] ∧ St w0 [] wb [sl a4 c5 y3]) ?_ N (0, 0) _ _ _ ⟨⟨rfl, rfl, rfl, rfl, trivial⟩, hS3.pick [0] rfl rfl⟩ ho35) ?_
  · intro s7 e w8 o hM h
    obtain ⟨hE, hS4⟩ := hM
    obtain ⟨e, rfl⟩ := hE.out
    refine CW.seq ?_
    refine CW.region ?_
    refine LW.p rfl rfl ?_
    refine LW.nil ?_
    show CW _ _ _ _ _ _
    refine CW.seq ?_
    refine CW.cond rfl (fun hc9 => ?_) (fun hc9 => ?_)
    · replace h := bcT h hc9
      refine CW.skip ?_
      show CW _ _ _ _ _ _
      refine CW.seq ?_
      refine CW.block ?_
      refine CW.seq ?_
      refine CW.region ?_
      replace h := obind h
      obtain ⟨y10, hy10, h⟩ := h
      obtain ⟨b13, o14, hae, hp11, hq12⟩ := hS4.ownIdx (α := DObjP) (i := 0) rfl hy10
      subst hae
      refine LW.u (Pur.ix Try.underlying68 sz123 rfl rfl hp11 hq12) rfl ?_
      obtain ⟨F15, ho16, hS5⟩ := hS4.freeze (α := DObjP) 0 rfl
      obtain ⟨b17, o18, cs19, hae, hb22, _, _, hd20, hk21⟩ := ho16.rdF.idx hy10
      cases hae
      obtain ⟨a23, n24, c25, a26, n27, c28, a29, n30, c31, rfl⟩ := hd20
      refine LW.l (Ldr.oldN w8 ag123 rfl rfl (fun j u hu => hk21 j u hu)) (hS5.zC 0 rfl hb22) rfl ?_
      refine LW.alloc zv123 hS5 rfl ?_
      intro g32 w33 hS6 hf
      refine LW.stb hS6 0 rfl ag123 rfl rfl rfl rfl rfl ?_
      intro w34 hS7 hf
      refine LW.nil ?_
      show CW _ _ _ _ _ _
      refine CW.fresh (l := [(3, .int .i64 s7.1), (5, .pointer (some ⟨g32, 0, none⟩)), (7, .slice (some ⟨b13, o14, none⟩) y3.length c5), (8, .int .i64 (y3.length : Int)), (9, .int .i64 s7.2)]) ⟨rfl, rfl, rfl, rfl, rfl, trivial⟩ (fun e => ?_)
      refine CW.region ?_
      refine LW.p rfl rfl ?_
      refine LW.u (Pur.fa fo123_5 rfl) rfl ?_
      refine LW.ldb hS7 0 rfl ag3 rfl rfl rfl ?_
      iterate 2 refine LW.p rfl rfl ?_
      refine LW.nil ?_
      show CW _ _ _ _ _ _
      refine CW.region ?_
      iterate 2 refine LW.p rfl rfl ?_
      refine LW.nil ?_
      replace h := Option.some.inj h
      subst h
      have hS8 := hS7.thaw (α := DObjP) 1 rfl ho16
      exact ⟨rfl, ⟨⟨rfl, rfl, rfl, rfl, trivial⟩, hS8.pick [1] rfl rfl⟩⟩
    replace h := bcF h hc9
    refine CW.exit ?_
    replace h := Option.some.inj h
    subst h
    exact ⟨trivial, rfl, ⟨⟨rfl, trivial⟩, hS4.pick [0] rfl rfl⟩⟩
  intro x e w37 hM
  obtain ⟨rfl, hM⟩ := hM
  obtain ⟨hE, hS9⟩ := hM
  obtain ⟨e, rfl⟩ := hE.out
  have h := h36
  show CW _ _ _ _ _ _
  refine CW.seq ?_
  refine CW.region ?_
  iterate 2 refine LW.p rfl rfl ?_
  refine LW.nil ?_
  show CW _ _ _ _ _ _
  refine CW.ret ?_
  cases h
  exact And.intro trivial ⟨_, Res.one (resOne.t rfl), rfl, hS9.pick [] rfl rfl⟩

theorem W_i_PartSum {w0 : World} {N : Nat} {x0 : DPart} {r : DAmt} (h : F_i_PartSum N x0 = some r) {a0_0 : Option Addr} {n0_0 c0_0 : Nat} (hn0_0 : n0_0 = x0.label.levels.length) (hr0_0 : rdS (Bor w0 []) w0 a0_0 c0_0 x0.label.levels) {a0_1 : Option Addr} {n0_1 c0_1 : Nat} (hn0_1 : n0_1 = x0.own.length) (hr0_1 : rdS (Bor w0 []) w0 a0_1 c0_1 x0.own) {a0_2 : Option Addr} {n0_2 c0_2 : Nat} (hn0_2 : n0_2 = x0.tree.length) (hr0_2 : rdS (Bor w0 []) w0 a0_2 c0_2 x0.tree) {a0_3 : Option Addr} {n0_3 c0_3 : Nat} (hn0_3 : n0_3 = x0.heap.arena.length) (hr0_3 : rdS (Bor w0 []) w0 a0_3 c0_3 x0.heap.arena) {a0_7 : Option Addr} {n0_7 c0_7 : Nat} (hn0_7 : n0_7 = x0.heap.gc.grey.length) (hr0_7 : rdS (Bor w0 []) w0 a0_7 c0_7 x0.heap.gc.grey) {a0_8 : Option Addr} {n0_8 c0_8 : Nat} (hn0_8 : n0_8 = x0.taps.length) (hr0_8 : rdS (Bor w0 []) w0 a0_8 c0_8 x0.taps) :
    Ret Try.prog 89 #[.agg #[.slice a0_0 n0_0 c0_0, .slice a0_1 n0_1 c0_1, .slice a0_2 n0_2 c0_2, .slice a0_3 n0_3 c0_3, .int .i64 x0.heap.gc.phase, .int .i64 x0.heap.gc.pos, .int .i64 x0.heap.gc.round, .slice a0_7 n0_7 c0_7, .slice a0_8 n0_8 c0_8, .int .i64 x0.next, .int .i64 x0.want, .int .i64 x0.spent.pages, .int .i64 x0.spent.rent, .int .i64 x0.spent.cpu, .int .i64 x0.press, .int .i64 x0.lost]] w0 (fun v w => v = .agg #[.int .i64 r.pages, .int .i64 r.rent, .int .i64 r.cpu] ∧ St w0 [] w []) := by
  subst hn0_0
  subst hn0_1
  subst hn0_2
  subst hn0_3
  subst hn0_7
  subst hn0_8
  unfold F_i_PartSum at h
  refine Ret.of Try.func89 rfl rfl rfl ?_
  have hS1 := St.start w0
  refine CW.seq ?_
  refine CW.region ?_
  refine LW.box (cs := [.slice a0_0 x0.label.levels.length c0_0, .slice a0_1 x0.own.length c0_1, .slice a0_2 x0.tree.length c0_2, .slice a0_3 x0.heap.arena.length c0_3, .int .i64 x0.heap.gc.phase, .int .i64 x0.heap.gc.pos, .int .i64 x0.heap.gc.round, .slice a0_7 x0.heap.gc.grey.length c0_7, .slice a0_8 x0.taps.length c0_8, .int .i64 x0.next, .int .i64 x0.want, .int .i64 x0.spent.pages, .int .i64 x0.spent.rent, .int .i64 x0.spent.cpu, .int .i64 x0.press, .int .i64 x0.lost]) rfl hS1 rfl ?_
  intro g1 w2 hS2 hf
  refine LW.alloc zv73 hS2 rfl ?_
  intro g3 w4 hS3 hf
  refine LW.nil ?_
  show CW _ _ _ _ _ _
  refine CW.seq ?_
  refine CW.region ?_
  refine LW.u (Pur.fa fo75_2 rfl) rfl ?_
  refine LW.ldb hS3 1 rfl ag67 rfl rfl rfl ?_
  replace h := obind h
  obtain ⟨y5, hy5, h⟩ := h
  have q := W_i_TreeSum (w0 := w4) hy5 rfl (hS3.rB hr0_2)
  refine LW.call pl154 rfl rfl ?_
  refine Ret.mono q ?_
  rintro _ w6 ⟨rfl, hs⟩
  have hS4 := hS3.add hs
  refine LW.alloc zv73 hS4 rfl ?_
  intro g7 w8 hS5 hf
  refine LW.stb hS5 0 rfl ag73 rfl rfl rfl rfl rfl ?_
  intro w9 hS6 hf
  refine LW.nil ?_
  show CW _ _ _ _ _ _
  refine CW.seq ?_
  refine CW.seq ?_
  refine CW.region ?_
  refine LW.u (Pur.fa fo75_7 rfl) rfl ?_
  refine LW.ldbN hS6 2 rfl ag73 rfl rfl rfl ?_
  replace h := obind h
  obtain ⟨y10, hy10, h⟩ := h
  have q := W_i_AmtOk (w0 := w9) hy10
  refine LW.call pl90 rfl rfl ?_
  refine Ret.mono q ?_
  rintro _ w11 ⟨rfl, hs⟩
  have hS7 := hS6.add hs
  refine LW.p rfl rfl ?_
  refine LW.nil ?_
  show CW _ _ _ _ _ _
  refine CW.cond rfl (fun hc12 => ?_) (fun hc12 => ?_)
  · replace h := bcT h hc12
    refine CW.seq ?_
    refine CW.region ?_
    refine LW.ldbN hS7 0 rfl ag73 rfl rfl rfl ?_
    refine LW.stb hS7 1 rfl ag73 rfl rfl rfl rfl rfl ?_
    intro w13 hS8 hf
    refine LW.nil ?_
    show CW _ _ _ _ _ _
    refine CW.fresh (l := [(2, .pointer (some ⟨g3, 0, none⟩))]) ⟨rfl, trivial⟩ (fun e => ?_)
    refine CW.ret ?_
    cases h
    exact And.intro trivial ⟨_, Res.one (resOne.b hS8 1 rfl ag73 rfl rfl), rfl, hS8.pick [] rfl rfl⟩
  replace h := bcF h hc12
  refine CW.skip ?_
  show CW _ _ _ _ _ _
  refine CW.seq ?_
  refine CW.draw (by kernel_rfl) ?_
  have hS9 := hS7.drew
  refine AW.u (i := 0) rfl (by kernel_rfl) rfl rfl (Pur.fa fo73_0 rfl) ?_
  refine AW.take (i := 1) rfl (by kernel_rfl) rfl rfl (Ldr.box (bt := 73) (fr := (0, 0)) (cs := [.int .i64 y5.pages, .int .i64 y5.rent, .int .i64 y5.cpu]) ag3 rfl rfl) (St.cell (h := hS9) (i := 0) rfl) ?_
  refine AW.take (i := 2) rfl (by kernel_rfl) rfl rfl (Ldr.boxN (bt := 75) (fr := (0, 0)) (cs := [.slice a0_0 x0.label.levels.length c0_0, .slice a0_1 x0.own.length c0_1, .slice a0_2 x0.tree.length c0_2, .slice a0_3 x0.heap.arena.length c0_3, .int .i64 x0.heap.gc.phase, .int .i64 x0.heap.gc.pos, .int .i64 x0.heap.gc.round, .slice a0_7 x0.heap.gc.grey.length c0_7, .slice a0_8 x0.taps.length c0_8, .int .i64 x0.next, .int .i64 x0.want, .int .i64 x0.spent.pages, .int .i64 x0.spent.rent, .int .i64 x0.spent.cpu, .int .i64 x0.press, .int .i64 x0.lost]) ag75 rfl rfl) (St.cell (h := hS9) (i := 2) rfl) ?_
  replace h := obind h
  obtain ⟨y14, hy14, h⟩ := h
  have q := W_i_Held (w0 := w11.drew) hy14 rfl (hS9.rB hr0_0) rfl (hS9.rB hr0_1) rfl (hS9.rB hr0_2) rfl (hS9.rB hr0_3) rfl (hS9.rB hr0_7) rfl (hS9.rB hr0_8)
  refine AW.one (i := 3) (by kernel_rfl) ?_
  refine ⟨_, rfl, ?_⟩
  refine LW.call pl155 rfl rfl ?_
  refine Ret.mono q ?_
  rintro _ w15 ⟨rfl, hs⟩
  have hS10 := hS9.add hs
  refine LW.nil ⟨rfl, (.w (by kernel_rfl) (.c (St.cell (h := hS10) (i := 0) rfl) Kept.n)), ?_⟩
  refine AW.u (i := 4) rfl (by kernel_rfl) rfl rfl (Pur.p rfl) ?_
  refine AW.u (i := 5) rfl (by kernel_rfl) rfl rfl (Pur.fa fo73_0 rfl) ?_
  refine AW.one (i := 6) (by kernel_rfl) ?_
  refine ⟨_, rfl, ?_⟩
  refine LW.stb hS10 0 rfl ag3 rfl rfl rfl rfl rfl ?_
  intro w16 hS11 hf
  refine LW.nil ⟨rfl, (.w (by kernel_rfl) (.w (by kernel_rfl) Kept.n)), ?_⟩
  refine AW.done (by kernel_rfl) ?_
  show CW _ _ _ _ _ _
  refine CW.seq ?_
  refine CW.region ?_
  refine LW.ldbN hS11 0 rfl ag73 rfl rfl rfl ?_
  refine LW.u (Pur.fa fo75_7 rfl) rfl ?_
  refine LW.ldbN hS11 2 rfl ag73 rfl rfl rfl ?_
  replace h := obind h
  obtain ⟨y17, hy17, h⟩ := h
  have q := W_i_sumOf (w0 := w16) hy17
  refine LW.call pl88 rfl rfl ?_
  refine Ret.mono q ?_
  rintro _ w18 ⟨rfl, hs⟩
  have hS12 := hS11.add hs
  refine LW.stb hS12 1 rfl ag73 rfl rfl rfl rfl rfl ?_
  intro w19 hS13 hf
  refine LW.nil ?_
  show CW _ _ _ _ _ _
  refine CW.fresh (l := [(2, .pointer (some ⟨g3, 0, none⟩))]) ⟨rfl, trivial⟩ (fun e => ?_)
  refine CW.ret ?_
  cases h
  exact And.intro trivial ⟨_, Res.one (resOne.b hS13 1 rfl ag73 rfl rfl), rfl, hS13.pick [] rfl rfl⟩

theorem W_i_WorldOk {w0 : World} {N : Nat} {x0 : DWorld} {r : Bool} (h : F_i_WorldOk N x0 = some r) {a0_1 : Option Addr} {n0_1 c0_1 : Nat} (hn0_1 : n0_1 = x0.parts.length) (hr0_1 : rdS (Bor w0 []) w0 a0_1 c0_1 x0.parts) :
    Ret Try.prog 36 #[.agg #[.int .i64 x0.now, .slice a0_1 n0_1 c0_1]] w0 (fun v w => v = .bool r ∧ St w0 [] w []) := by
  subst hn0_1
  unfold F_i_WorldOk at h
  refine Ret.of Try.func36 rfl rfl rfl ?_
  have hS1 := St.start w0
  refine CW.seq ?_
  refine CW.region ?_
  refine LW.box (cs := [.int .i64 x0.now, .slice a0_1 x0.parts.length c0_1]) rfl hS1 rfl ?_
  intro g1 w2 hS2 hf
  refine LW.p rfl rfl ?_
  refine LW.nil ?_
  show CW _ _ _ _ _ _
  refine CW.seq ?_
  refine CW.seq ?_
  obtain ⟨j3, hj3, h4⟩ := obind h
  refine CW.cut (fun e wb => En e [(1, .pointer (some ⟨g1, 0, none⟩)), (16, .bool j3)] ∧ St w0 [] wb [bx g1 51 [.int .i64 x0.now, .slice a0_1 x0.parts.length c0_1]]) ?_ ?_
  · have h := hj3
    refine CW.region ?_
    refine LW.u (Pur.fa fo51_0 rfl) rfl ?_
    refine LW.ldb hS2 0 rfl ag3 rfl rfl rfl ?_
    replace h := obind h
    obtain ⟨y5, hy5, h⟩ := h
    have q := W_i_isTime (w0 := w2) hy5
    refine LW.call pl85 rfl rfl ?_
    refine Ret.mono q ?_
    rintro _ w6 ⟨rfl, hs⟩
    have hS3 := hS2.add hs
    iterate 2 refine LW.p rfl rfl ?_
    rcases bcases (!y5) with hc7 | hc7
    · replace h := bcT h hc7
      refine LW.gN (want_not rfl rfl hc7) rfl ?_
      refine LW.gN (want_not rfl rfl hc7) rfl ?_
      refine LW.gN (want_not rfl rfl hc7) rfl ?_
      refine LW.gN (want_not rfl rfl hc7) rfl ?_
      refine LW.gN (want_not rfl rfl hc7) rfl ?_
      refine LW.u (Pur.pickT rfl hc7) rfl ?_
      refine LW.nil ?_
      replace h := Option.some.inj h
      subst h
      exact ⟨⟨rfl, rfl, trivial⟩, hS3.pick [0] rfl rfl⟩
    replace h := bcF h hc7
    refine LW.gY (want_of rfl rfl hc7) ?_
    refine LW.u (Pur.fa fo51_1 rfl) rfl ?_
    refine LW.gY (want_of rfl rfl hc7) ?_
    refine LW.ldb hS3 0 rfl ag49 rfl rfl rfl ?_
    refine LW.gY (want_of rfl rfl hc7) ?_
    refine LW.u (Pur.len Try.underlying49 rfl) rfl ?_
    replace h := obind h
    obtain ⟨y8, hy8, h⟩ := h
    have q := W_i_within (w0 := w6) hy8
    refine LW.gY (want_of rfl rfl hc7) ?_
    refine LW.call pl86 rfl rfl ?_
    refine Ret.mono q ?_
    rintro _ w9 ⟨rfl, hs⟩
    have hS4 := hS3.add hs
    refine LW.gY (want_of rfl rfl hc7) ?_
    refine LW.p rfl rfl ?_
    refine LW.u (Pur.pickF rfl hc7) rfl ?_
    refine LW.nil ?_
    replace h := Option.some.inj h
    subst h
    exact ⟨⟨rfl, rfl, trivial⟩, hS4.pick [0] rfl rfl⟩
  intro e w10 hM
  obtain ⟨hE, hS5⟩ := hM
  obtain ⟨e, rfl⟩ := hE.out
  have h := h4
  show CW _ _ _ _ _ _
  refine CW.cond rfl (fun hc11 => ?_) (fun hc11 => ?_)
  · replace h := bcT h hc11
    refine CW.seq ?_
    refine CW.region ?_
    refine LW.p rfl rfl ?_
    refine LW.nil ?_
    show CW _ _ _ _ _ _
    refine CW.ret ?_
    cases h
    exact And.intro trivial ⟨_, Res.one (resOne.t rfl), rfl, hS5.pick [] rfl rfl⟩
  replace h := bcF h hc11
  refine CW.skip ?_
  show CW _ _ _ _ _ _
  refine CW.seq ?_
  refine CW.region ?_
  refine LW.u (Pur.build (vs := []) (cs := #[.int .i64 0, .int .i64 0, .int .i64 0]) rfl (by kernel_rfl)) rfl ?_
  refine LW.alloc zv73 hS5 rfl ?_
  intro g12 w13 hS6 hf
  refine LW.stb hS6 0 rfl ag73 rfl rfl rfl rfl rfl ?_
  intro w14 hS7 hf
  refine LW.nil ?_
  show CW _ _ _ _ _ _
  refine CW.seq ?_
  refine CW.seq ?_
  refine CW.region ?_
  refine LW.u (Pur.fa fo51_1 rfl) rfl ?_
  refine LW.ldb hS7 1 rfl ag49 rfl rfl rfl ?_
  refine LW.u (Pur.len Try.underlying49 rfl) rfl ?_
  refine LW.p rfl rfl ?_
  refine LW.nil ?_
  show CW _ _ _ _ _ _
  refine CW.block ?_
  obtain ⟨o56, ho56, h57⟩ := obind h
  refine CW.mono (CW.iter (σ := Int × Int × Int × Int) (ρ := (Int × Int × Int × Int) ⊕ Bool) (fun s15 e wb => En e [(3, .pointer (some ⟨g12, 0, none⟩)), (19, .slice a0_1 x0.parts.length c0_1), (20, .int .i64 (x0.parts.length : Int)), (21, .int .i64 s15.1)] ∧ St w0 [] wb [bx g12 73 [.int .i64 s15.2.1, .int .i64 s15.2.2.1, .int .i64 s15.2.2.2]]) (fun o x e wb => match o with | .inl s15 => x = .exit 0 ∧ En e [(3, .pointer (some ⟨g12, 0, none⟩))] ∧ St w0 [] wb [bx g12 73 [.int .i64 s15.2.1, .int .i64 s15.2.2.1, .int .i64 s15.2.2.2]] | .inr r => x = .ret ∧ ∃ u, u = r ∧ ∃ v, Res Try.prog Try.f36.results e wb v ∧ v = .bool u ∧ St w0 [] wb []) ?_ N (0, 0, 0, 0) _ _ _ ⟨⟨rfl, rfl, rfl, rfl, trivial⟩, hS7.pick [0] rfl rfl⟩ ho56) ?_
  · intro s15 e w16 o hM h
    obtain ⟨hE, hS8⟩ := hM
    obtain ⟨e, rfl⟩ := hE.out
    refine CW.seq ?_
    refine CW.region ?_
    refine LW.p rfl rfl ?_
    refine LW.nil ?_
    show CW _ _ _ _ _ _
    refine CW.seq ?_
    refine CW.cond rfl (fun hc17 => ?_) (fun hc17 => ?_)
    · replace h := bcT h hc17
      refine CW.skip ?_
      show CW _ _ _ _ _ _
      refine CW.seq ?_
      refine CW.block ?_
      refine CW.seq ?_
      refine CW.region ?_
      replace h := obind h
      obtain ⟨y18, hy18, h⟩ := h
      obtain ⟨b21, o22, cs23, hae, hb26, hp19, hq20, hd24, hk25⟩ := hr0_1.idx hy18
      subst hae
      obtain ⟨a27, c28, a30, c31, a33, c34, a36, c37, a39, c40, a42, c43, rfl, hr29, hr32, hr35, hr38, hr41, hr44⟩ := hd24
      refine LW.u (Pur.ix Try.underlying49 sz75 rfl rfl hp19 hq20) rfl ?_
      refine LW.l (Ldr.oldN w0 ag75 rfl rfl (fun j u hu => hk25 j u hu)) (hS8.same _ hb26.1 hb26.2) rfl ?_
      refine LW.alloc zv75 hS8 rfl ?_
      intro g45 w46 hS9 hf
      refine LW.stb hS9 0 rfl ag75 rfl rfl rfl rfl rfl ?_
      intro w47 hS10 hf
      refine LW.nil ?_
      show CW _ _ _ _ _ _
      refine CW.fresh (l := [(3, .pointer (some ⟨g12, 0, none⟩)), (5, .pointer (some ⟨g45, 0, none⟩)), (19, .slice (some ⟨b21, o22, none⟩) x0.parts.length c0_1), (20, .int .i64 (x0.parts.length : Int)), (21, .int .i64 s15.1)]) ⟨rfl, rfl, rfl, rfl, rfl, trivial⟩ (fun e => ?_)
      refine CW.seq ?_
      refine CW.seq ?_
      refine CW.region ?_
      refine LW.ldbN hS10 0 rfl ag75 rfl rfl rfl ?_
      replace h := obind h
      obtain ⟨y48, hy48, h⟩ := h
      have q := W_i_PartOk (w0 := w47) hy48 rfl (hS10.rB hr29) rfl (hS10.rB hr32) rfl (hS10.rB hr35) rfl (hS10.rB hr38) rfl (hS10.rB hr41) rfl (hS10.rB hr44)
      refine LW.call pl87 rfl rfl ?_
      refine Ret.mono q ?_
      rintro _ w49 ⟨rfl, hs⟩
      have hS11 := hS10.add hs
      refine LW.p rfl rfl ?_
      refine LW.nil ?_
      show CW _ _ _ _ _ _
      refine CW.cond rfl (fun hc50 => ?_) (fun hc50 => ?_)
      · replace h := bcT h hc50
        refine CW.seq ?_
        refine CW.region ?_
        refine LW.p rfl rfl ?_
        refine LW.nil ?_
        show CW _ _ _ _ _ _
        refine CW.ret ?_
        replace h := Option.some.inj h
        subst h
        exact ⟨trivial, rfl, _, rfl, ⟨_, Res.one (resOne.t rfl), rfl, hS11.pick [] rfl rfl⟩⟩
      replace h := bcF h hc50
      refine CW.skip ?_
      show CW _ _ _ _ _ _
      refine CW.draw (by kernel_rfl) ?_
      have hS12 := hS11.drew
      refine AW.take (i := 0) rfl (by kernel_rfl) rfl rfl (Ldr.boxN (bt := 73) (fr := (0, 0)) (cs := [.int .i64 s15.2.1, .int .i64 s15.2.2.1, .int .i64 s15.2.2.2]) ag73 rfl rfl) (St.cell (h := hS12) (i := 1) rfl) ?_
      refine AW.take (i := 1) rfl (by kernel_rfl) rfl rfl (Ldr.boxN (bt := 75) (fr := (0, 0)) (cs := [.slice a27 y18.label.levels.length c28, .slice a30 y18.own.length c31, .slice a33 y18.tree.length c34, .slice a36 y18.heap.arena.length c37, .int .i64 y18.heap.gc.phase, .int .i64 y18.heap.gc.pos, .int .i64 y18.heap.gc.round, .slice a39 y18.heap.gc.grey.length c40, .slice a42 y18.taps.length c43, .int .i64 y18.next, .int .i64 y18.want, .int .i64 y18.spent.pages, .int .i64 y18.spent.rent, .int .i64 y18.spent.cpu, .int .i64 y18.press, .int .i64 y18.lost]) ag75 rfl rfl) (St.cell (h := hS12) (i := 0) rfl) ?_
      replace h := obind h
      obtain ⟨y51, hy51, h⟩ := h
      have q := W_i_PartSum (w0 := w49.drew) hy51 rfl (hS12.rB hr29) rfl (hS12.rB hr32) rfl (hS12.rB hr35) rfl (hS12.rB hr38) rfl (hS12.rB hr41) rfl (hS12.rB hr44)
      refine AW.one (i := 2) (by kernel_rfl) ?_
      refine ⟨_, rfl, ?_⟩
      refine LW.call pl89 rfl rfl ?_
      refine Ret.mono q ?_
      rintro _ w52 ⟨rfl, hs⟩
      have hS13 := hS12.add hs
      refine LW.nil ⟨rfl, (.w (by kernel_rfl) (.c (St.cell (h := hS13) (i := 1) rfl) Kept.n)), ?_⟩
      replace h := obind h
      obtain ⟨y53, hy53, h⟩ := h
      have q := W_i_sumOf (w0 := w52) hy53
      refine AW.one (i := 3) (by kernel_rfl) ?_
      refine ⟨_, rfl, ?_⟩
      refine LW.call pl88 rfl rfl ?_
      refine Ret.mono q ?_
      rintro _ w54 ⟨rfl, hs⟩
      have hS14 := hS13.add hs
      refine LW.nil ⟨rfl, (.c (St.cell (h := hS14) (i := 0) rfl) (.w (by kernel_rfl) Kept.n)), ?_⟩
      refine AW.one (i := 4) (by kernel_rfl) ?_
      refine ⟨_, rfl, ?_⟩
      refine LW.stb hS14 1 rfl ag73 rfl rfl rfl rfl rfl ?_
      intro w55 hS15 hf
      refine LW.nil ⟨rfl, (.w (by kernel_rfl) (.w (by kernel_rfl) Kept.n)), ?_⟩
      refine AW.done (by kernel_rfl) ?_
      show CW _ _ _ _ _ _
      refine CW.region ?_
      iterate 2 refine LW.p rfl rfl ?_
      refine LW.nil ?_
      replace h := Option.some.inj h
      subst h
      exact ⟨rfl, ⟨⟨rfl, rfl, rfl, rfl, trivial⟩, hS15.pick [1] rfl rfl⟩⟩
    replace h := bcF h hc17
    refine CW.exit ?_
    replace h := Option.some.inj h
    subst h
    exact ⟨trivial, rfl, ⟨⟨rfl, trivial⟩, hS8.pick [0] rfl rfl⟩⟩
  intro x e w58 hM
  rcases o56 with o56 | r61
  · obtain ⟨rfl, hM⟩ := hM
    obtain ⟨hE, hS16⟩ := hM
    obtain ⟨e, rfl⟩ := hE.out
    have h := h57
    show CW _ _ _ _ _ _
    refine CW.seq ?_
    refine CW.region ?_
    refine LW.ldbN hS16 0 rfl ag73 rfl rfl rfl ?_
    replace h := obind h
    obtain ⟨y59, hy59, h⟩ := h
    have q := W_i_AmtOk (w0 := w58) hy59
    refine LW.call pl90 rfl rfl ?_
    refine Ret.mono q ?_
    rintro _ w60 ⟨rfl, hs⟩
    have hS17 := hS16.add hs
    refine LW.p rfl rfl ?_
    refine LW.nil ?_
    show CW _ _ _ _ _ _
    refine CW.ret ?_
    cases h
    exact And.intro trivial ⟨_, Res.one (resOne.t rfl), rfl, hS17.pick [] rfl rfl⟩
  obtain ⟨rfl, u, rfl, hM⟩ := hM
  cases h57
  exact And.intro trivial hM

end Go.Kx
