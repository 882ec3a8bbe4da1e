/- Each call returns what the plain function says. Printed by drive.py. -/
import Derived.Test.YtdjpppkdngmeaaaFa
import Derived.Test.YtdjpppkdngmeaaaPu
import Derived.Test.YtdjpppkdngmeaaaWa3
import Derived.Test.YtdjpppkdngmeaaaWa12
import Derived.Test.YtdjpppkdngmeaaaWa13
namespace Go.Kx
open Go Go.RowKit Go.Proofs
set_option maxRecDepth 10000
set_option maxHeartbeats 2000000
set_option linter.unusedVariables false
set_option linter.unusedSimpArgs false
theorem W_s_l6Sum {w0 : World} {N : Nat} {x0 : List DRes} {r : DAmt} (h : F_s_l6Sum N x0 = some r) {a0_0 : Option Addr} {n0_0 c0_0 : Nat} (hn0_0 : n0_0 = x0.length) (hr0_0 : rdS (Bor w0 []) w0 a0_0 c0_0 x0) :
    Ret Try.prog 182 #[.slice a0_0 n0_0 c0_0] w0 (fun v w => v = .agg #[.int .i64 r.pages, .int .i64 r.rent, .int .i64 r.cpu] ∧ St w0 [] w []) := by
  subst hn0_0
  unfold F_s_l6Sum at h
  refine Ret.of Try.func182 rfl rfl rfl ?_
  have hS1 := St.start w0
  refine CW.seq ?_
  refine CW.region ?_
  refine LW.alloc zv73 hS1 rfl ?_
  intro g1 w2 hS2 hf
  refine LW.nil ?_
  show CW _ _ _ _ _ _
  refine CW.seq ?_
  refine CW.region ?_
  refine LW.u (Pur.build (vs := []) (cs := #[.int .i64 0, .int .i64 0, .int .i64 0]) rfl (by kernel_rfl)) rfl ?_
  refine LW.alloc zv73 hS2 rfl ?_
  intro g3 w4 hS3 hf
  refine LW.stb hS3 0 rfl ag73 rfl rfl rfl rfl rfl ?_
  intro w5 hS4 hf
  refine LW.nil ?_
  show CW _ _ _ _ _ _
  refine CW.seq ?_
  refine CW.seq ?_
  refine CW.region ?_
  refine LW.p rfl rfl ?_
  refine LW.nil ?_
  show CW _ _ _ _ _ _
  refine CW.block ?_
  obtain ⟨o22, ho22, h23⟩ := obind h
  refine CW.mono (CW.iter (σ := Int × Int × Int × Int) (ρ := Int × Int × Int × Int) (fun s6 e wb => En e [(0, .slice a0_0 x0.length c0_0), (2, .pointer (some ⟨g1, 0, none⟩)), (3, .pointer (some ⟨g3, 0, none⟩)), (4, .int .i64 s6.1)] ∧ St w0 [] wb [bx g3 73 [.int .i64 s6.2.1, .int .i64 s6.2.2.1, .int .i64 s6.2.2.2], bx g1 73 [.int .i64 0, .int .i64 0, .int .i64 0]]) (fun s6 x e wb => x = .exit 0 ∧ En e [(2, .pointer (some ⟨g1, 0, none⟩)), (3, .pointer (some ⟨g3, 0, none⟩))] ∧ St w0 [] wb [bx g3 73 [.int .i64 s6.2.1, .int .i64 s6.2.2.1, .int .i64 s6.2.2.2], bx g1 73 [.int .i64 0, .int .i64 0, .int .i64 0]]) ?_ N (0, 0, 0, 0) _ _ _ ⟨⟨rfl, rfl, rfl, rfl, trivial⟩, hS4.pick [0, 1] rfl rfl⟩ ho22) ?_
  · intro s6 e w7 o hM h
    obtain ⟨hE, hS5⟩ := hM
    obtain ⟨e, rfl⟩ := hE.out
    refine CW.seq ?_
    refine CW.seq ?_
    refine CW.region ?_
    iterate 2 refine LW.p rfl rfl ?_
    refine LW.u (Pur.len Try.underlying67 rfl) rfl ?_
    refine LW.p rfl rfl ?_
    refine LW.nil ?_
    show CW _ _ _ _ _ _
    refine CW.cond rfl (fun hc8 => ?_) (fun hc8 => ?_)
    · replace h := bcT h hc8
      refine CW.skip ?_
      show CW _ _ _ _ _ _
      refine CW.seq ?_
      refine CW.block ?_
      refine CW.seq ?_
      refine CW.region ?_
      iterate 2 refine LW.p rfl rfl ?_
      replace h := obind h
      obtain ⟨y9, hy9, h⟩ := h
      obtain ⟨b12, o13, cs14, hae, hb17, hp10, hq11, hd15, hk16⟩ := hr0_0.idx hy9
      subst hae
      obtain rfl := hd15
      refine LW.u (Pur.ix Try.underlying67 sz156 rfl rfl hp10 hq11) rfl ?_
      refine LW.u (Pur.fa fo156_0 rfl) rfl ?_
      refine LW.l (Ldr.old w0 ag4 rfl (hk16 0 _ rfl)) (hS5.same _ hb17.1 hb17.2) rfl ?_
      refine LW.nil ?_
      show CW _ _ _ _ _ _
      refine CW.fresh (l := [(0, .slice (some ⟨b12, o13, none⟩) x0.length c0_0), (2, .pointer (some ⟨g1, 0, none⟩)), (3, .pointer (some ⟨g3, 0, none⟩)), (4, .int .i64 s6.1), (16, .bool y9.live)]) ⟨rfl, rfl, rfl, rfl, rfl, trivial⟩ (fun e => ?_)
      refine CW.cond rfl (fun hc18 => ?_) (fun hc18 => ?_)
      · replace h := bcT h hc18
        refine CW.seq ?_
        refine CW.draw (by kernel_rfl) ?_
        have hS6 := hS5.drew
        refine AW.u (i := 0) rfl (by kernel_rfl) rfl rfl (Pur.fa fo73_0 rfl) ?_
        refine AW.take (i := 1) rfl (by kernel_rfl) rfl rfl (Ldr.box (bt := 73) (fr := (0, 0)) (cs := [.int .i64 s6.2.1, .int .i64 s6.2.2.1, .int .i64 s6.2.2.2]) ag3 rfl rfl) (St.cell (h := hS6) (i := 0) rfl) ?_
        refine AW.u (i := 2) rfl (by kernel_rfl) rfl rfl (Pur.p rfl) ?_
        refine AW.u (i := 3) rfl (by kernel_rfl) rfl rfl (Pur.p rfl) ?_
        refine AW.u (i := 4) rfl (by kernel_rfl) rfl rfl (Pur.ix Try.underlying67 sz156 rfl rfl hp10 hq11) ?_
        refine AW.u (i := 5) rfl (by kernel_rfl) rfl rfl (Pur.fa fo156_2 rfl) ?_
        refine AW.u (i := 6) rfl (by kernel_rfl) rfl rfl (Pur.fa fo73_0 rfl) ?_
        refine AW.take (i := 7) rfl (by kernel_rfl) rfl rfl (Ldr.old w0 ag3 rfl (hk16 2 _ rfl)) (hS6.same _ hb17.1 hb17.2) ?_
        refine AW.u (i := 8) rfl (by kernel_rfl) rfl rfl (Pur.p rfl) ?_
        refine AW.u (i := 9) rfl (by kernel_rfl) rfl rfl (Pur.fa fo73_0 rfl) ?_
        refine AW.one (i := 10) (by kernel_rfl) ?_
        refine ⟨_, rfl, ?_⟩
        refine LW.stb hS6 0 rfl ag3 rfl rfl rfl rfl rfl ?_
        intro w19 hS7 hf
        refine LW.nil ⟨rfl, (.w (by kernel_rfl) (.w (by kernel_rfl) Kept.n)), ?_⟩
        refine AW.done (by kernel_rfl) ?_
        show CW _ _ _ _ _ _
        refine CW.seq ?_
        refine CW.draw (by kernel_rfl) ?_
        have hS8 := hS7.drew
        refine AW.u (i := 0) rfl (by kernel_rfl) rfl rfl (Pur.fa fo73_1 rfl) ?_
        refine AW.take (i := 1) rfl (by kernel_rfl) rfl rfl (Ldr.box (bt := 73) (fr := (0, 0)) (cs := [.int .i64 (IntKind.i64.wrap (s6.2.1 + y9.bal.pages)), .int .i64 s6.2.2.1, .int .i64 s6.2.2.2]) ag3 rfl rfl) (St.cell (h := hS8) (i := 0) rfl) ?_
        refine AW.u (i := 2) rfl (by kernel_rfl) rfl rfl (Pur.p rfl) ?_
        refine AW.u (i := 3) rfl (by kernel_rfl) rfl rfl (Pur.p rfl) ?_
        refine AW.u (i := 4) rfl (by kernel_rfl) rfl rfl (Pur.ix Try.underlying67 sz156 rfl rfl hp10 hq11) ?_
        refine AW.u (i := 5) rfl (by kernel_rfl) rfl rfl (Pur.fa fo156_2 rfl) ?_
        refine AW.u (i := 6) rfl (by kernel_rfl) rfl rfl (Pur.fa fo73_1 rfl) ?_
        refine AW.take (i := 7) rfl (by kernel_rfl) rfl rfl (Ldr.old w0 ag3 rfl (hk16 3 _ rfl)) (hS8.same _ hb17.1 hb17.2) ?_
        refine AW.u (i := 8) rfl (by kernel_rfl) rfl rfl (Pur.p rfl) ?_
        refine AW.u (i := 9) rfl (by kernel_rfl) rfl rfl (Pur.fa fo73_1 rfl) ?_
        refine AW.one (i := 10) (by kernel_rfl) ?_
        refine ⟨_, rfl, ?_⟩
        refine LW.stb hS8 0 rfl ag3 rfl rfl rfl rfl rfl ?_
        intro w20 hS9 hf
        refine LW.nil ⟨rfl, (.w (by kernel_rfl) (.w (by kernel_rfl) Kept.n)), ?_⟩
        refine AW.done (by kernel_rfl) ?_
        show CW _ _ _ _ _ _
        refine CW.draw (by kernel_rfl) ?_
        have hS10 := hS9.drew
        refine AW.u (i := 0) rfl (by kernel_rfl) rfl rfl (Pur.fa fo73_2 rfl) ?_
        refine AW.take (i := 1) rfl (by kernel_rfl) rfl rfl (Ldr.box (bt := 73) (fr := (0, 0)) (cs := [.int .i64 (IntKind.i64.wrap (s6.2.1 + y9.bal.pages)), .int .i64 (IntKind.i64.wrap (s6.2.2.1 + y9.bal.rent)), .int .i64 s6.2.2.2]) ag3 rfl rfl) (St.cell (h := hS10) (i := 0) rfl) ?_
        refine AW.u (i := 2) rfl (by kernel_rfl) rfl rfl (Pur.p rfl) ?_
        refine AW.u (i := 3) rfl (by kernel_rfl) rfl rfl (Pur.p rfl) ?_
        refine AW.u (i := 4) rfl (by kernel_rfl) rfl rfl (Pur.ix Try.underlying67 sz156 rfl rfl hp10 hq11) ?_
        refine AW.u (i := 5) rfl (by kernel_rfl) rfl rfl (Pur.fa fo156_2 rfl) ?_
        refine AW.u (i := 6) rfl (by kernel_rfl) rfl rfl (Pur.fa fo73_2 rfl) ?_
        refine AW.take (i := 7) rfl (by kernel_rfl) rfl rfl (Ldr.old w0 ag3 rfl (hk16 4 _ rfl)) (hS10.same _ hb17.1 hb17.2) ?_
        refine AW.u (i := 8) rfl (by kernel_rfl) rfl rfl (Pur.p rfl) ?_
        refine AW.u (i := 9) rfl (by kernel_rfl) rfl rfl (Pur.fa fo73_2 rfl) ?_
        refine AW.one (i := 10) (by kernel_rfl) ?_
        refine ⟨_, rfl, ?_⟩
        refine LW.stb hS10 0 rfl ag3 rfl rfl rfl rfl rfl ?_
        intro w21 hS11 hf
        refine LW.nil ⟨rfl, (.w (by kernel_rfl) (.w (by kernel_rfl) Kept.n)), ?_⟩
        refine AW.done (by kernel_rfl) ?_
        show CW _ _ _ _ _ _
        refine CW.region ?_
        iterate 3 refine LW.p rfl rfl ?_
        refine LW.nil ?_
        replace h := Option.some.inj h
        subst h
        exact ⟨rfl, ⟨⟨rfl, rfl, rfl, rfl, trivial⟩, hS11.pick [0, 1] rfl rfl⟩⟩
      replace h := bcF h hc18
      refine CW.skip ?_
      show CW _ _ _ _ _ _
      refine CW.region ?_
      iterate 3 refine LW.p rfl rfl ?_
      refine LW.nil ?_
      replace h := Option.some.inj h
      subst h
      exact ⟨rfl, ⟨⟨rfl, rfl, rfl, rfl, trivial⟩, hS5.pick [0, 1] rfl rfl⟩⟩
    replace h := bcF h hc8
    refine CW.exit ?_
    replace h := Option.some.inj h
    subst h
    exact ⟨trivial, rfl, ⟨⟨rfl, rfl, trivial⟩, hS5.pick [0, 1] rfl rfl⟩⟩
  intro x e w24 hM
  obtain ⟨rfl, hM⟩ := hM
  obtain ⟨hE, hS12⟩ := hM
  obtain ⟨e, rfl⟩ := hE.out
  have h := h23
  show CW _ _ _ _ _ _
  refine CW.seq ?_
  refine CW.region ?_
  refine LW.ldbN hS12 0 rfl ag73 rfl rfl rfl ?_
  refine LW.stb hS12 1 rfl ag73 rfl rfl rfl rfl rfl ?_
  intro w25 hS13 hf
  refine LW.nil ?_
  show CW _ _ _ _ _ _
  refine CW.ret ?_
  cases h
  exact And.intro trivial ⟨_, Res.one (resOne.b hS13 1 rfl ag73 rfl rfl), rfl, hS13.pick [] rfl rfl⟩

theorem W_s_TreeOk {w0 : World} {N : Nat} {x0 : List DRes} {r : Bool} (h : F_s_TreeOk N x0 = some r) {a0_0 : Option Addr} {n0_0 c0_0 : Nat} (hn0_0 : n0_0 = x0.length) (hr0_0 : rdS (Bor w0 []) w0 a0_0 c0_0 x0) :
    Ret Try.prog 144 #[.slice a0_0 n0_0 c0_0] w0 (fun v w => v = .bool r ∧ St w0 [] w []) := by
  subst hn0_0
  unfold F_s_TreeOk at h
  refine Ret.of Try.func144 rfl rfl rfl ?_
  have hS1 := St.start w0
  refine CW.seq ?_
  refine CW.region ?_
  refine LW.p rfl rfl ?_
  refine LW.nil ?_
  show CW _ _ _ _ _ _
  refine CW.seq ?_
  refine CW.seq ?_
  obtain ⟨j1, hj1, h2⟩ := obind h
  refine CW.cut (fun e wb => En e [(0, .slice a0_0 x0.length c0_0), (23, .bool j1)] ∧ St w0 [] wb []) ?_ ?_
  · have h := hj1
    refine CW.region ?_
    refine LW.p rfl rfl ?_
    refine LW.u (Pur.len Try.underlying67 rfl) rfl ?_
    iterate 2 refine LW.p rfl rfl ?_
    rcases bcases ((x0.length : Int) != 5) with hc3 | hc3
    · replace h := bcT h hc3
      refine LW.gN (want_not rfl rfl hc3) rfl ?_
      refine LW.gN (want_not rfl rfl hc3) rfl ?_
      refine LW.gN (want_not rfl rfl hc3) rfl ?_
      refine LW.gN (want_not rfl rfl hc3) rfl ?_
      refine LW.gN (want_not rfl rfl hc3) rfl ?_
      refine LW.u (Pur.pickT rfl hc3) rfl ?_
      refine LW.p rfl rfl ?_
      refine LW.gN (want_not rfl rfl rfl) rfl ?_
      refine LW.gN (want_not rfl rfl rfl) rfl ?_
      refine LW.gN (want_not rfl rfl rfl) rfl ?_
      refine LW.gN (want_not rfl rfl rfl) rfl ?_
      refine LW.gN (want_not rfl rfl rfl) rfl ?_
      refine LW.u (Pur.pickT rfl rfl) rfl ?_
      refine LW.nil ?_
      replace h := Option.some.inj h
      subst h
      exact ⟨⟨rfl, rfl, trivial⟩, hS1.pick [] rfl rfl⟩
    replace h := bcF h hc3
    refine LW.gY (want_of rfl rfl hc3) ?_
    refine LW.p rfl rfl ?_
    replace h := obind h
    obtain ⟨y4, hy4, h⟩ := h
    obtain ⟨b7, o8, cs9, hae, hb12, hp5, hq6, hd10, hk11⟩ := hr0_0.idx hy4
    subst hae
    obtain rfl := hd10
    refine LW.gY (want_of rfl rfl hc3) ?_
    refine LW.u (Pur.ix Try.underlying67 sz156 rfl rfl hp5 hq6) rfl ?_
    refine LW.gY (want_of rfl rfl hc3) ?_
    refine LW.u (Pur.fa fo156_0 rfl) rfl ?_
    refine LW.gY (want_of rfl rfl hc3) ?_
    refine LW.l (Ldr.old w0 ag4 rfl (hk11 0 _ rfl)) (hS1.same _ hb12.1 hb12.2) rfl ?_
    refine LW.gY (want_of rfl rfl hc3) ?_
    refine LW.p rfl rfl ?_
    refine LW.u (Pur.pickF rfl hc3) rfl ?_
    refine LW.p rfl rfl ?_
    rcases bcases (!y4.live) with hc13 | hc13
    · replace h := bcT h hc13
      refine LW.gN (want_not rfl rfl hc13) rfl ?_
      refine LW.gN (want_not rfl rfl hc13) rfl ?_
      refine LW.gN (want_not rfl rfl hc13) rfl ?_
      refine LW.gN (want_not rfl rfl hc13) rfl ?_
      refine LW.gN (want_not rfl rfl hc13) rfl ?_
      refine LW.u (Pur.pickT rfl hc13) rfl ?_
      refine LW.nil ?_
      replace h := Option.some.inj h
      subst h
      exact ⟨⟨rfl, rfl, trivial⟩, hS1.pick [] rfl rfl⟩
    replace h := bcF h hc13
    refine LW.gY (want_of rfl rfl hc13) ?_
    refine LW.p rfl rfl ?_
    refine LW.gY (want_of rfl rfl hc13) ?_
    refine LW.u (Pur.ix Try.underlying67 sz156 rfl rfl hp5 hq6) rfl ?_
    refine LW.gY (want_of rfl rfl hc13) ?_
    refine LW.u (Pur.fa fo156_1 rfl) rfl ?_
    refine LW.gY (want_of rfl rfl hc13) ?_
    refine LW.l (Ldr.old w0 ag3 rfl (hk11 1 _ rfl)) (hS1.same _ hb12.1 hb12.2) rfl ?_
    refine LW.gY (want_of rfl rfl hc13) ?_
    refine LW.p rfl rfl ?_
    refine LW.u (Pur.pickF rfl hc13) rfl ?_
    refine LW.nil ?_
    replace h := Option.some.inj h
    subst h
    exact ⟨⟨rfl, rfl, trivial⟩, hS1.pick [] rfl rfl⟩
  intro e w14 hM
  obtain ⟨hE, hS2⟩ := hM
  obtain ⟨e, rfl⟩ := hE.out
  have h := h2
  show CW _ _ _ _ _ _
  refine CW.cond rfl (fun hc15 => ?_) (fun hc15 => ?_)
  · replace h := bcT h hc15
    refine CW.seq ?_
    refine CW.region ?_
    refine LW.p rfl rfl ?_
    refine LW.nil ?_
    show CW _ _ _ _ _ _
    refine CW.ret ?_
    cases h
    exact And.intro trivial ⟨_, Res.one (resOne.t rfl), rfl, hS2.pick [] rfl rfl⟩
  replace h := bcF h hc15
  refine CW.skip ?_
  show CW _ _ _ _ _ _
  refine CW.seq ?_
  refine CW.seq ?_
  refine CW.region ?_
  refine LW.p rfl rfl ?_
  refine LW.nil ?_
  show CW _ _ _ _ _ _
  refine CW.block ?_
  obtain ⟨o66, ho66, h67⟩ := obind h
  refine CW.mono (CW.iter (σ := Int) (ρ := Int ⊕ Bool) (fun s16 e wb => En e [(0, .slice a0_0 x0.length c0_0), (3, .int .i64 s16)] ∧ St w0 [] wb []) (fun o x e wb => match o with | .inl s16 => x = .exit 0 ∧ En e [(0, .slice a0_0 x0.length c0_0)] ∧ St w0 [] wb [] | .inr r => x = .ret ∧ ∃ u, u = r ∧ ∃ v, Res Try.prog Try.f144.results e wb v ∧ v = .bool u ∧ St w0 [] wb []) ?_ N 0 _ _ _ ⟨⟨rfl, rfl, trivial⟩, hS2.pick [] rfl rfl⟩ ho66) ?_
  · intro s16 e w17 o hM h
    obtain ⟨hE, hS3⟩ := hM
    obtain ⟨e, rfl⟩ := hE.out
    refine CW.seq ?_
    refine CW.seq ?_
    refine CW.region ?_
    iterate 2 refine LW.p rfl rfl ?_
    refine LW.u (Pur.len Try.underlying67 rfl) rfl ?_
    refine LW.p rfl rfl ?_
    refine LW.nil ?_
    show CW _ _ _ _ _ _
    refine CW.cond rfl (fun hc18 => ?_) (fun hc18 => ?_)
    · replace h := bcT h hc18
      refine CW.skip ?_
      show CW _ _ _ _ _ _
      refine CW.seq ?_
      refine CW.block ?_
      refine CW.seq ?_
      refine CW.seq ?_
      obtain ⟨j19, hj19, h20⟩ := obind h
      refine CW.cut (fun e wb => En e [(0, .slice a0_0 x0.length c0_0), (3, .int .i64 s16), (52, .bool j19)] ∧ St w0 [] wb []) ?_ ?_
      · have h := hj19
        refine CW.region ?_
        iterate 2 refine LW.p rfl rfl ?_
        replace h := obind h
        obtain ⟨y21, hy21, h⟩ := h
        obtain ⟨b24, o25, cs26, hae, hb29, hp22, hq23, hd27, hk28⟩ := hr0_0.idx hy21
        subst hae
        obtain rfl := hd27
        refine LW.u (Pur.ix Try.underlying67 sz156 rfl rfl hp22 hq23) rfl ?_
        refine LW.u (Pur.fa fo156_0 rfl) rfl ?_
        refine LW.l (Ldr.old w0 ag4 rfl (hk28 0 _ rfl)) (hS3.same _ hb29.1 hb29.2) rfl ?_
        iterate 2 refine LW.p rfl rfl ?_
        rcases bcases (!y21.live) with hc30 | hc30
        · replace h := bcT h hc30
          refine LW.gY (want_of rfl rfl hc30) ?_
          refine LW.p rfl rfl ?_
          refine LW.gY (want_of rfl rfl hc30) ?_
          refine LW.p rfl rfl ?_
          refine LW.gY (want_of rfl rfl hc30) ?_
          refine LW.u (Pur.ix Try.underlying67 sz156 rfl rfl hp22 hq23) rfl ?_
          refine LW.gY (want_of rfl rfl hc30) ?_
          refine LW.l (Ldr.oldN w0 ag156 rfl rfl (fun j u hu => hk28 j u hu)) (hS3.same _ hb29.1 hb29.2) rfl ?_
          refine LW.gY (want_of rfl rfl hc30) ?_
          refine LW.u (Pur.build (vs := []) (cs := #[.bool false, .int .i64 0, .int .i64 0, .int .i64 0, .int .i64 0]) rfl (by kernel_rfl)) rfl ?_
          refine LW.gY (want_of rfl rfl hc30) ?_
          refine LW.u (Pur.ane eg156 rfl rfl (fun w => eq156 y21 (DRes.mk false 0 (DAmt.mk 0 0 0)) w)) rfl ?_
          refine LW.u (Pur.pickT rfl hc30) rfl ?_
          refine LW.p rfl rfl ?_
          rcases bcases (!decide (y21 = DRes.mk false 0 (DAmt.mk 0 0 0))) with hc31 | hc31
          · replace h := bcT h hc31
            refine LW.gN (want_not rfl rfl hc31) rfl ?_
            refine LW.fresh (l := [(0, .slice (some ⟨b24, o25, none⟩) x0.length c0_0), (3, .int .i64 s16), (44, .bool (!decide (y21 = DRes.mk false 0 (DAmt.mk 0 0 0)))), (45, undef)]) ⟨rfl, rfl, rfl, rfl, trivial⟩ (fun e => ?_)
            refine LW.gN (want_not rfl rfl hc31) rfl ?_
            refine LW.gN (want_not rfl rfl hc31) rfl ?_
            refine LW.gN (want_not rfl rfl hc31) rfl ?_
            refine LW.gN (want_not rfl rfl hc31) rfl ?_
            refine LW.gN (want_not rfl rfl hc31) rfl ?_
            refine LW.gN (want_not rfl rfl hc31) rfl ?_
            refine LW.u (Pur.pickT rfl hc31) rfl ?_
            refine LW.nil ?_
            replace h := Option.some.inj h
            subst h
            exact ⟨⟨rfl, rfl, rfl, trivial⟩, hS3.pick [] rfl rfl⟩
          replace h := bcF h hc31
          refine LW.gY (want_of rfl rfl hc31) ?_
          refine LW.p rfl rfl ?_
          refine LW.fresh (l := [(0, .slice (some ⟨b24, o25, none⟩) x0.length c0_0), (3, .int .i64 s16), (44, .bool (!decide (y21 = DRes.mk false 0 (DAmt.mk 0 0 0)))), (45, .slice (some ⟨b24, o25, none⟩) x0.length c0_0)]) ⟨rfl, rfl, rfl, rfl, trivial⟩ (fun e => ?_)
          refine LW.gY (want_of rfl rfl hc31) ?_
          refine LW.p rfl rfl ?_
          refine LW.gY (want_of rfl rfl hc31) ?_
          refine LW.u (Pur.ix Try.underlying67 sz156 rfl rfl hp22 hq23) rfl ?_
          refine LW.gY (want_of rfl rfl hc31) ?_
          refine LW.u (Pur.fa fo156_2 rfl) rfl ?_
          refine LW.gY (want_of rfl rfl hc31) ?_
          refine LW.l (Ldr.oldN w0 ag73 rfl rfl (fun j u hu => oldsub (m := 3) hk28 2 hu)) (hS3.same _ hb29.1 hb29.2) rfl ?_
          replace h := obind h
          obtain ⟨y32, hy32, h⟩ := h
          have q := W_s_AmtOk (w0 := w17) hy32
          refine LW.gY (want_of rfl rfl hc31) ?_
          refine LW.call pl83 rfl rfl ?_
          refine Ret.mono q ?_
          rintro _ w33 ⟨rfl, hs⟩
          have hS4 := hS3.add hs
          refine LW.gY (want_of rfl rfl hc31) ?_
          refine LW.p rfl rfl ?_
          refine LW.u (Pur.pickF rfl hc31) rfl ?_
          refine LW.nil ?_
          replace h := Option.some.inj h
          subst h
          exact ⟨⟨rfl, rfl, rfl, trivial⟩, hS4.pick [] rfl rfl⟩
        replace h := bcF h hc30
        refine LW.gN (want_not rfl rfl hc30) rfl ?_
        refine LW.gN (want_not rfl rfl hc30) rfl ?_
        refine LW.gN (want_not rfl rfl hc30) rfl ?_
        refine LW.gN (want_not rfl rfl hc30) rfl ?_
        refine LW.gN (want_not rfl rfl hc30) rfl ?_
        refine LW.gN (want_not rfl rfl hc30) rfl ?_
        refine LW.u (Pur.pickF rfl hc30) rfl ?_
        refine LW.p rfl rfl ?_
        refine LW.gY (want_of rfl rfl rfl) ?_
        refine LW.p rfl rfl ?_
        refine LW.gY (want_of rfl rfl rfl) ?_
        refine LW.p rfl rfl ?_
        refine LW.fresh (l := [(0, .slice (some ⟨b24, o25, none⟩) x0.length c0_0), (3, .int .i64 s16), (44, .bool false), (45, .slice (some ⟨b24, o25, none⟩) x0.length c0_0), (46, .int .i64 s16)]) ⟨rfl, rfl, rfl, rfl, rfl, trivial⟩ (fun e => ?_)
        refine LW.gY (want_of rfl rfl rfl) ?_
        refine LW.u (Pur.ix Try.underlying67 sz156 rfl rfl hp22 hq23) rfl ?_
        refine LW.gY (want_of rfl rfl rfl) ?_
        refine LW.u (Pur.fa fo156_2 rfl) rfl ?_
        refine LW.gY (want_of rfl rfl rfl) ?_
        refine LW.l (Ldr.oldN w0 ag73 rfl rfl (fun j u hu => oldsub (m := 3) hk28 2 hu)) (hS3.same _ hb29.1 hb29.2) rfl ?_
        replace h := obind h
        obtain ⟨y34, hy34, h⟩ := h
        have q := W_s_AmtOk (w0 := w17) hy34
        refine LW.gY (want_of rfl rfl rfl) ?_
        refine LW.call pl83 rfl rfl ?_
        refine Ret.mono q ?_
        rintro _ w35 ⟨rfl, hs⟩
        have hS5 := hS3.add hs
        refine LW.gY (want_of rfl rfl rfl) ?_
        refine LW.p rfl rfl ?_
        refine LW.u (Pur.pickF rfl rfl) rfl ?_
        refine LW.nil ?_
        replace h := Option.some.inj h
        subst h
        exact ⟨⟨rfl, rfl, rfl, trivial⟩, hS5.pick [] rfl rfl⟩
      intro e w36 hM
      obtain ⟨hE, hS6⟩ := hM
      obtain ⟨e, rfl⟩ := hE.out
      have h := h20
      show CW _ _ _ _ _ _
      refine CW.cond rfl (fun hc37 => ?_) (fun hc37 => ?_)
      · replace h := bcT h hc37
        refine CW.seq ?_
        refine CW.region ?_
        refine LW.p rfl rfl ?_
        refine LW.nil ?_
        show CW _ _ _ _ _ _
        refine CW.ret ?_
        replace h := Option.some.inj h
        subst h
        exact ⟨trivial, rfl, _, rfl, ⟨_, Res.one (resOne.t rfl), rfl, hS6.pick [] rfl rfl⟩⟩
      replace h := bcF h hc37
      refine CW.skip ?_
      show CW _ _ _ _ _ _
      refine CW.seq ?_
      obtain ⟨j38, hj38, h39⟩ := obind h
      refine CW.cut (fun e wb => En e [(0, .slice a0_0 x0.length c0_0), (3, .int .i64 s16), (91, .bool j38)] ∧ St w0 [] wb []) ?_ ?_
      · have h := hj38
        refine CW.region ?_
        iterate 3 refine LW.p rfl rfl ?_
        rcases bcases (decide (s16 > 0)) with hc40 | hc40
        · replace h := bcT h hc40
          refine LW.gY (want_of rfl rfl hc40) ?_
          refine LW.p rfl rfl ?_
          refine LW.gY (want_of rfl rfl hc40) ?_
          refine LW.p rfl rfl ?_
          replace h := obind h
          obtain ⟨y41, hy41, h⟩ := h
          obtain ⟨b44, o45, cs46, hae, hb49, hp42, hq43, hd47, hk48⟩ := hr0_0.idx hy41
          subst hae
          obtain rfl := hd47
          refine LW.gY (want_of rfl rfl hc40) ?_
          refine LW.u (Pur.ix Try.underlying67 sz156 rfl rfl hp42 hq43) rfl ?_
          refine LW.gY (want_of rfl rfl hc40) ?_
          refine LW.u (Pur.fa fo156_0 rfl) rfl ?_
          refine LW.gY (want_of rfl rfl hc40) ?_
          refine LW.l (Ldr.old w0 ag4 rfl (hk48 0 _ rfl)) (hS6.same _ hb49.1 hb49.2) rfl ?_
          refine LW.u (Pur.pickT rfl hc40) rfl ?_
          refine LW.p rfl rfl ?_
          rcases bcases y41.live with hc50 | hc50
          · replace h := bcT h hc50
            refine LW.gY (want_of rfl rfl hc50) ?_
            refine LW.p rfl rfl ?_
            refine LW.gY (want_of rfl rfl hc50) ?_
            refine LW.p rfl rfl ?_
            refine LW.gY (want_of rfl rfl hc50) ?_
            refine LW.u (Pur.ix Try.underlying67 sz156 rfl rfl hp42 hq43) rfl ?_
            refine LW.gY (want_of rfl rfl hc50) ?_
            refine LW.u (Pur.fa fo156_1 rfl) rfl ?_
            refine LW.gY (want_of rfl rfl hc50) ?_
            refine LW.l (Ldr.old w0 ag3 rfl (hk48 1 _ rfl)) (hS6.same _ hb49.1 hb49.2) rfl ?_
            replace h := obind h
            obtain ⟨y51, hy51, h⟩ := h
            have q := W_s_l6Res (w0 := w36) hy51
            refine LW.gY (want_of rfl rfl hc50) ?_
            refine LW.call pl181 rfl rfl ?_
            refine Ret.mono q ?_
            rintro _ w52 ⟨rfl, hs⟩
            have hS7 := hS6.add hs
            refine LW.fresh (l := [(0, .slice (some ⟨b44, o45, none⟩) x0.length c0_0), (3, .int .i64 s16), (62, .bool y41.live), (68, .bool y51)]) ⟨rfl, rfl, rfl, rfl, trivial⟩ (fun e => ?_)
            refine LW.gY (want_of rfl rfl hc50) ?_
            refine LW.p rfl rfl ?_
            refine LW.gY (want_of rfl rfl hc50) ?_
            refine LW.p rfl rfl ?_
            rcases bcases (!y51) with hc53 | hc53
            · replace h := bcT h hc53
              refine LW.gN (want_not rfl rfl hc53) rfl ?_
              refine LW.gN (want_not rfl rfl hc53) rfl ?_
              refine LW.gN (want_not rfl rfl hc53) rfl ?_
              refine LW.gN (want_not rfl rfl hc53) rfl ?_
              refine LW.gN (want_not rfl rfl hc53) rfl ?_
              refine LW.gN (want_not rfl rfl hc53) rfl ?_
              refine LW.gN (want_not rfl rfl hc53) rfl ?_
              refine LW.gY (want_of rfl rfl hc50) ?_
              refine LW.u (Pur.pickT rfl hc53) rfl ?_
              refine LW.gY (want_of rfl rfl hc50) ?_
              refine LW.p rfl rfl ?_
              refine LW.gN (want_not rfl rfl rfl) rfl ?_
              refine LW.gN (want_not rfl rfl rfl) rfl ?_
              refine LW.gN (want_not rfl rfl rfl) rfl ?_
              refine LW.gN (want_not rfl rfl rfl) rfl ?_
              refine LW.gN (want_not rfl rfl rfl) rfl ?_
              refine LW.gN (want_not rfl rfl rfl) rfl ?_
              refine LW.gN (want_not rfl rfl rfl) rfl ?_
              refine LW.gN (want_not rfl rfl rfl) rfl ?_
              refine LW.gN (want_not rfl rfl rfl) rfl ?_
              refine LW.gN (want_not rfl rfl rfl) rfl ?_
              refine LW.gY (want_of rfl rfl hc50) ?_
              refine LW.u (Pur.pickT rfl rfl) rfl ?_
              refine LW.u (Pur.pickT rfl hc50) rfl ?_
              refine LW.nil ?_
              replace h := Option.some.inj h
              subst h
              exact ⟨⟨rfl, rfl, rfl, trivial⟩, hS7.pick [] rfl rfl⟩
            replace h := bcF h hc53
            refine LW.gY (want_of rfl rfl hc53) ?_
            refine LW.p rfl rfl ?_
            refine LW.gY (want_of rfl rfl hc53) ?_
            refine LW.p rfl rfl ?_
            refine LW.gY (want_of rfl rfl hc53) ?_
            refine LW.u (Pur.ix Try.underlying67 sz156 rfl rfl hp42 hq43) rfl ?_
            refine LW.gY (want_of rfl rfl hc53) ?_
            refine LW.u (Pur.fa fo156_1 rfl) rfl ?_
            refine LW.gY (want_of rfl rfl hc53) ?_
            refine LW.l (Ldr.old w0 ag3 rfl (hk48 1 _ rfl)) (hS7.same _ hb49.1 hb49.2) rfl ?_
            refine LW.gY (want_of rfl rfl hc53) ?_
            refine LW.p rfl rfl ?_
            refine LW.gY (want_of rfl rfl hc53) ?_
            refine LW.p rfl rfl ?_
            refine LW.gY (want_of rfl rfl hc50) ?_
            refine LW.u (Pur.pickF rfl hc53) rfl ?_
            refine LW.gY (want_of rfl rfl hc50) ?_
            refine LW.p rfl rfl ?_
            rcases bcases (y41.parent == s16) with hc54 | hc54
            · replace h := bcT h hc54
              refine LW.gN (want_not rfl rfl hc54) rfl ?_
              refine LW.gN (want_not rfl rfl hc54) rfl ?_
              refine LW.gN (want_not rfl rfl hc54) rfl ?_
              refine LW.gN (want_not rfl rfl hc54) rfl ?_
              refine LW.gN (want_not rfl rfl hc54) rfl ?_
              refine LW.gN (want_not rfl rfl hc54) rfl ?_
              refine LW.gN (want_not rfl rfl hc54) rfl ?_
              refine LW.gN (want_not rfl rfl hc54) rfl ?_
              refine LW.gN (want_not rfl rfl hc54) rfl ?_
              refine LW.gN (want_not rfl rfl hc54) rfl ?_
              refine LW.gY (want_of rfl rfl hc50) ?_
              refine LW.u (Pur.pickT rfl hc54) rfl ?_
              refine LW.u (Pur.pickT rfl hc50) rfl ?_
              refine LW.nil ?_
              replace h := Option.some.inj h
              subst h
              exact ⟨⟨rfl, rfl, rfl, trivial⟩, hS7.pick [] rfl rfl⟩
            replace h := bcF h hc54
            refine LW.gY (want_of rfl rfl hc54) ?_
            refine LW.p rfl rfl ?_
            refine LW.gY (want_of rfl rfl hc54) ?_
            refine LW.p rfl rfl ?_
            refine LW.gY (want_of rfl rfl hc54) ?_
            refine LW.p rfl rfl ?_
            refine LW.gY (want_of rfl rfl hc54) ?_
            refine LW.u (Pur.ix Try.underlying67 sz156 rfl rfl hp42 hq43) rfl ?_
            refine LW.gY (want_of rfl rfl hc54) ?_
            refine LW.u (Pur.fa fo156_1 rfl) rfl ?_
            refine LW.gY (want_of rfl rfl hc54) ?_
            refine LW.l (Ldr.old w0 ag3 rfl (hk48 1 _ rfl)) (hS7.same _ hb49.1 hb49.2) rfl ?_
            replace h := obind h
            obtain ⟨y55, hy55, h⟩ := h
            obtain ⟨b58, o59, cs60, hae, hb63, hp56, hq57, hd61, hk62⟩ := hr0_0.idx hy55
            cases hae
            obtain rfl := hd61
            refine LW.gY (want_of rfl rfl hc54) ?_
            refine LW.u (Pur.ix Try.underlying67 sz156 rfl rfl hp56 hq57) rfl ?_
            refine LW.gY (want_of rfl rfl hc54) ?_
            refine LW.u (Pur.fa fo156_0 rfl) rfl ?_
            refine LW.gY (want_of rfl rfl hc54) ?_
            refine LW.l (Ldr.old w0 ag4 rfl (hk62 0 _ rfl)) (hS7.same _ hb63.1 hb63.2) rfl ?_
            refine LW.gY (want_of rfl rfl hc54) ?_
            refine LW.p rfl rfl ?_
            refine LW.gY (want_of rfl rfl hc50) ?_
            refine LW.u (Pur.pickF rfl hc54) rfl ?_
            refine LW.fresh (l := [(0, .slice (some ⟨b44, o45, none⟩) x0.length c0_0), (3, .int .i64 s16), (62, .bool y41.live), (90, .bool (!y55.live))]) ⟨rfl, rfl, rfl, rfl, trivial⟩ (fun e => ?_)
            refine LW.u (Pur.pickT rfl hc50) rfl ?_
            refine LW.nil ?_
            replace h := Option.some.inj h
            subst h
            exact ⟨⟨rfl, rfl, rfl, trivial⟩, hS7.pick [] rfl rfl⟩
          replace h := bcF h hc50
          refine LW.gN (want_not rfl rfl hc50) rfl ?_
          refine LW.gN (want_not rfl rfl hc50) rfl ?_
          refine LW.gN (want_not rfl rfl hc50) rfl ?_
          refine LW.gN (want_not rfl rfl hc50) rfl ?_
          refine LW.gN (want_not rfl rfl hc50) rfl ?_
          refine LW.gN (want_not rfl rfl hc50) rfl ?_
          refine LW.fresh (l := [(0, .slice (some ⟨b44, o45, none⟩) x0.length c0_0), (3, .int .i64 s16), (62, .bool y41.live), (68, undef)]) ⟨rfl, rfl, rfl, rfl, trivial⟩ (fun e => ?_)
          refine LW.gN (want_not rfl rfl hc50) rfl ?_
          refine LW.gN (want_not rfl rfl hc50) rfl ?_
          refine LW.gN (want_undef rfl rfl) rfl ?_
          refine LW.gN (want_undef rfl rfl) rfl ?_
          refine LW.gN (want_undef rfl rfl) rfl ?_
          refine LW.gN (want_undef rfl rfl) rfl ?_
          refine LW.gN (want_undef rfl rfl) rfl ?_
          refine LW.gN (want_undef rfl rfl) rfl ?_
          refine LW.gN (want_undef rfl rfl) rfl ?_
          refine LW.gN (want_not rfl rfl hc50) rfl ?_
          refine LW.gN (want_not rfl rfl hc50) rfl ?_
          refine LW.gN (want_undef rfl rfl) rfl ?_
          refine LW.gN (want_undef rfl rfl) rfl ?_
          refine LW.gN (want_undef rfl rfl) rfl ?_
          refine LW.gN (want_undef rfl rfl) rfl ?_
          refine LW.gN (want_undef rfl rfl) rfl ?_
          refine LW.gN (want_undef rfl rfl) rfl ?_
          refine LW.gN (want_undef rfl rfl) rfl ?_
          refine LW.gN (want_undef rfl rfl) rfl ?_
          refine LW.gN (want_undef rfl rfl) rfl ?_
          refine LW.gN (want_undef rfl rfl) rfl ?_
          refine LW.gN (want_not rfl rfl hc50) rfl ?_
          refine LW.u (Pur.pickF rfl hc50) rfl ?_
          refine LW.nil ?_
          replace h := Option.some.inj h
          subst h
          exact ⟨⟨rfl, rfl, rfl, trivial⟩, hS6.pick [] rfl rfl⟩
        replace h := bcF h hc40
        refine LW.gN (want_not rfl rfl hc40) rfl ?_
        refine LW.gN (want_not rfl rfl hc40) rfl ?_
        refine LW.gN (want_not rfl rfl hc40) rfl ?_
        refine LW.gN (want_not rfl rfl hc40) rfl ?_
        refine LW.gN (want_not rfl rfl hc40) rfl ?_
        refine LW.u (Pur.pickF rfl hc40) rfl ?_
        refine LW.p rfl rfl ?_
        refine LW.gN (want_not rfl rfl rfl) rfl ?_
        refine LW.gN (want_not rfl rfl rfl) rfl ?_
        refine LW.gN (want_not rfl rfl rfl) rfl ?_
        refine LW.gN (want_not rfl rfl rfl) rfl ?_
        refine LW.gN (want_not rfl rfl rfl) rfl ?_
        refine LW.gN (want_not rfl rfl rfl) rfl ?_
        refine LW.gN (want_not rfl rfl rfl) rfl ?_
        refine LW.gN (want_not rfl rfl rfl) rfl ?_
        refine LW.fresh (l := [(0, .slice a0_0 x0.length c0_0), (3, .int .i64 s16), (62, .bool false), (70, undef)]) ⟨rfl, rfl, rfl, rfl, trivial⟩ (fun e => ?_)
        refine LW.gN (want_undef rfl rfl) rfl ?_
        refine LW.gN (want_undef rfl rfl) rfl ?_
        refine LW.gN (want_undef rfl rfl) rfl ?_
        refine LW.gN (want_undef rfl rfl) rfl ?_
        refine LW.gN (want_undef rfl rfl) rfl ?_
        refine LW.gN (want_undef rfl rfl) rfl ?_
        refine LW.gN (want_undef rfl rfl) rfl ?_
        refine LW.gN (want_not rfl rfl rfl) rfl ?_
        refine LW.gN (want_not rfl rfl rfl) rfl ?_
        refine LW.gN (want_undef rfl rfl) rfl ?_
        refine LW.gN (want_undef rfl rfl) rfl ?_
        refine LW.gN (want_undef rfl rfl) rfl ?_
        refine LW.gN (want_undef rfl rfl) rfl ?_
        refine LW.gN (want_undef rfl rfl) rfl ?_
        refine LW.gN (want_undef rfl rfl) rfl ?_
        refine LW.gN (want_undef rfl rfl) rfl ?_
        refine LW.gN (want_undef rfl rfl) rfl ?_
        refine LW.gN (want_undef rfl rfl) rfl ?_
        refine LW.gN (want_undef rfl rfl) rfl ?_
        refine LW.gN (want_not rfl rfl rfl) rfl ?_
        refine LW.u (Pur.pickF rfl rfl) rfl ?_
        refine LW.nil ?_
        replace h := Option.some.inj h
        subst h
        exact ⟨⟨rfl, rfl, rfl, trivial⟩, hS6.pick [] rfl rfl⟩
      intro e w64 hM
      obtain ⟨hE, hS8⟩ := hM
      obtain ⟨e, rfl⟩ := hE.out
      have h := h39
      show CW _ _ _ _ _ _
      refine CW.cond rfl (fun hc65 => ?_) (fun hc65 => ?_)
      · replace h := bcT h hc65
        refine CW.seq ?_
        refine CW.region ?_
        refine LW.p rfl rfl ?_
        refine LW.nil ?_
        show CW _ _ _ _ _ _
        refine CW.ret ?_
        replace h := Option.some.inj h
        subst h
        exact ⟨trivial, rfl, _, rfl, ⟨_, Res.one (resOne.t rfl), rfl, hS8.pick [] rfl rfl⟩⟩
      replace h := bcF h hc65
      refine CW.skip ?_
      show CW _ _ _ _ _ _
      refine CW.region ?_
      iterate 3 refine LW.p rfl rfl ?_
      refine LW.nil ?_
      replace h := Option.some.inj h
      subst h
      exact ⟨rfl, ⟨⟨rfl, rfl, trivial⟩, hS8.pick [] rfl rfl⟩⟩
    replace h := bcF h hc18
    refine CW.exit ?_
    replace h := Option.some.inj h
    subst h
    exact ⟨trivial, rfl, ⟨⟨rfl, trivial⟩, hS3.pick [] rfl rfl⟩⟩
  intro x e w68 hM
  rcases o66 with o66 | r123
  · obtain ⟨rfl, hM⟩ := hM
    obtain ⟨hE, hS9⟩ := hM
    obtain ⟨e, rfl⟩ := hE.out
    have h := h67
    show CW _ _ _ _ _ _
    refine CW.seq ?_
    refine CW.seq ?_
    refine CW.region ?_
    refine LW.p rfl rfl ?_
    refine LW.nil ?_
    show CW _ _ _ _ _ _
    refine CW.block ?_
    obtain ⟨o115, ho115, h116⟩ := obind h
    refine CW.mono (CW.iter (σ := Int) (ρ := Int ⊕ Bool) (fun s69 e wb => En e [(0, .slice a0_0 x0.length c0_0), (4, .int .i64 s69)] ∧ St w0 [] wb []) (fun o x e wb => match o with | .inl s69 => x = .exit 2 ∧ En e [(0, .slice a0_0 x0.length c0_0)] ∧ St w0 [] wb [] | .inr r => x = .ret ∧ ∃ u, u = r ∧ ∃ v, Res Try.prog Try.f144.results e wb v ∧ v = .bool u ∧ St w0 [] wb []) ?_ N 0 _ _ _ ⟨⟨rfl, rfl, trivial⟩, hS9.pick [] rfl rfl⟩ ho115) ?_
    · intro s69 e w70 o hM h
      obtain ⟨hE, hS10⟩ := hM
      obtain ⟨e, rfl⟩ := hE.out
      refine CW.seq ?_
      refine CW.seq ?_
      refine CW.region ?_
      iterate 2 refine LW.p rfl rfl ?_
      refine LW.u (Pur.len Try.underlying67 rfl) rfl ?_
      refine LW.p rfl rfl ?_
      refine LW.nil ?_
      show CW _ _ _ _ _ _
      refine CW.cond rfl (fun hc71 => ?_) (fun hc71 => ?_)
      · replace h := bcT h hc71
        refine CW.skip ?_
        show CW _ _ _ _ _ _
        refine CW.seq ?_
        refine CW.block ?_
        refine CW.seq ?_
        refine CW.region ?_
        iterate 2 refine LW.p rfl rfl ?_
        refine LW.nil ?_
        show CW _ _ _ _ _ _
        refine CW.seq ?_
        refine CW.seq ?_
        refine CW.region ?_
        refine LW.p rfl rfl ?_
        refine LW.nil ?_
        show CW _ _ _ _ _ _
        refine CW.block ?_
        obtain ⟨o98, ho98, h99⟩ := obind h
        refine CW.mono (CW.iter (σ := Int × Int) (ρ := Int × Int) (fun s72 e wb => En e [(0, .slice a0_0 x0.length c0_0), (4, .int .i64 s69), (5, .int .i64 s72.1), (6, .int .i64 s72.2)] ∧ St w0 [] wb []) (fun s72 x e wb => x = .exit 4 ∧ En e [(0, .slice a0_0 x0.length c0_0), (4, .int .i64 s69), (5, .int .i64 s72.1)] ∧ St w0 [] wb []) ?_ N (s69, 0) _ _ _ ⟨⟨rfl, rfl, rfl, rfl, trivial⟩, hS10.pick [] rfl rfl⟩ ho98) ?_
        · intro s72 e w73 o hM h
          obtain ⟨hE, hS11⟩ := hM
          obtain ⟨e, rfl⟩ := hE.out
          refine CW.seq ?_
          refine CW.seq ?_
          obtain ⟨j74, hj74, h75⟩ := obind h
          refine CW.cut (fun e wb => En e [(0, .slice a0_0 x0.length c0_0), (4, .int .i64 s69), (5, .int .i64 s72.1), (6, .int .i64 s72.2), (111, .bool j74)] ∧ St w0 [] wb []) ?_ ?_
          · have h := hj74
            refine CW.region ?_
            iterate 3 refine LW.p rfl rfl ?_
            rcases bcases (decide (s72.2 < 5)) with hc76 | hc76
            · replace h := bcT h hc76
              refine LW.gY (want_of rfl rfl hc76) ?_
              refine LW.p rfl rfl ?_
              refine LW.gY (want_of rfl rfl hc76) ?_
              refine LW.p rfl rfl ?_
              replace h := obind h
              obtain ⟨y77, hy77, h⟩ := h
              obtain ⟨b80, o81, cs82, hae, hb85, hp78, hq79, hd83, hk84⟩ := hr0_0.idx hy77
              subst hae
              obtain rfl := hd83
              refine LW.gY (want_of rfl rfl hc76) ?_
              refine LW.u (Pur.ix Try.underlying67 sz156 rfl rfl hp78 hq79) rfl ?_
              refine LW.gY (want_of rfl rfl hc76) ?_
              refine LW.u (Pur.fa fo156_0 rfl) rfl ?_
              refine LW.gY (want_of rfl rfl hc76) ?_
              refine LW.l (Ldr.old w0 ag4 rfl (hk84 0 _ rfl)) (hS11.same _ hb85.1 hb85.2) rfl ?_
              refine LW.u (Pur.pickT rfl hc76) rfl ?_
              refine LW.p rfl rfl ?_
              rcases bcases y77.live with hc86 | hc86
              · replace h := bcT h hc86
                refine LW.gY (want_of rfl rfl hc86) ?_
                refine LW.p rfl rfl ?_
                refine LW.gY (want_of rfl rfl hc86) ?_
                refine LW.p rfl rfl ?_
                refine LW.fresh (l := [(0, .slice (some ⟨b80, o81, none⟩) x0.length c0_0), (4, .int .i64 s69), (5, .int .i64 s72.1), (6, .int .i64 s72.2), (108, .bool y77.live), (110, .bool (decide (s72.1 > 0)))]) ⟨rfl, rfl, rfl, rfl, rfl, rfl, trivial⟩ (fun e => ?_)
                refine LW.u (Pur.pickT rfl hc86) rfl ?_
                refine LW.nil ?_
                replace h := Option.some.inj h
                subst h
                exact ⟨⟨rfl, rfl, rfl, rfl, rfl, trivial⟩, hS11.pick [] rfl rfl⟩
              replace h := bcF h hc86
              refine LW.gN (want_not rfl rfl hc86) rfl ?_
              refine LW.gN (want_not rfl rfl hc86) rfl ?_
              refine LW.fresh (l := [(0, .slice (some ⟨b80, o81, none⟩) x0.length c0_0), (4, .int .i64 s69), (5, .int .i64 s72.1), (6, .int .i64 s72.2), (108, .bool y77.live), (110, undef)]) ⟨rfl, rfl, rfl, rfl, rfl, rfl, trivial⟩ (fun e => ?_)
              refine LW.u (Pur.pickF rfl hc86) rfl ?_
              refine LW.nil ?_
              replace h := Option.some.inj h
              subst h
              exact ⟨⟨rfl, rfl, rfl, rfl, rfl, trivial⟩, hS11.pick [] rfl rfl⟩
            replace h := bcF h hc76
            refine LW.gN (want_not rfl rfl hc76) rfl ?_
            refine LW.gN (want_not rfl rfl hc76) rfl ?_
            refine LW.gN (want_not rfl rfl hc76) rfl ?_
            refine LW.gN (want_not rfl rfl hc76) rfl ?_
            refine LW.gN (want_not rfl rfl hc76) rfl ?_
            refine LW.u (Pur.pickF rfl hc76) rfl ?_
            refine LW.p rfl rfl ?_
            refine LW.gN (want_not rfl rfl rfl) rfl ?_
            refine LW.gN (want_not rfl rfl rfl) rfl ?_
            refine LW.u (Pur.pickF rfl rfl) rfl ?_
            refine LW.nil ?_
            replace h := Option.some.inj h
            subst h
            exact ⟨⟨rfl, rfl, rfl, rfl, rfl, trivial⟩, hS11.pick [] rfl rfl⟩
          intro e w87 hM
          obtain ⟨hE, hS12⟩ := hM
          obtain ⟨e, rfl⟩ := hE.out
          have h := h75
          show CW _ _ _ _ _ _
          refine CW.cond rfl (fun hc88 => ?_) (fun hc88 => ?_)
          · replace h := bcT h hc88
            refine CW.skip ?_
            show CW _ _ _ _ _ _
            refine CW.seq ?_
            refine CW.block ?_
            refine CW.region ?_
            iterate 2 refine LW.p rfl rfl ?_
            replace h := obind h
            obtain ⟨y89, hy89, h⟩ := h
            obtain ⟨b92, o93, cs94, hae, hb97, hp90, hq91, hd95, hk96⟩ := hr0_0.idx hy89
            subst hae
            obtain rfl := hd95
            refine LW.u (Pur.ix Try.underlying67 sz156 rfl rfl hp90 hq91) rfl ?_
            refine LW.u (Pur.fa fo156_1 rfl) rfl ?_
            refine LW.l (Ldr.old w0 ag3 rfl (hk96 1 _ rfl)) (hS12.same _ hb97.1 hb97.2) rfl ?_
            refine LW.p rfl rfl ?_
            refine LW.nil ?_
            show CW _ _ _ _ _ _
            refine CW.fresh (l := [(0, .slice (some ⟨b92, o93, none⟩) x0.length c0_0), (4, .int .i64 s69), (5, .int .i64 y89.parent), (6, .int .i64 s72.2)]) ⟨rfl, rfl, rfl, rfl, trivial⟩ (fun e => ?_)
            refine CW.region ?_
            iterate 3 refine LW.p rfl rfl ?_
            refine LW.nil ?_
            replace h := Option.some.inj h
            subst h
            exact ⟨rfl, ⟨⟨rfl, rfl, rfl, rfl, trivial⟩, hS12.pick [] rfl rfl⟩⟩
          replace h := bcF h hc88
          refine CW.exit ?_
          replace h := Option.some.inj h
          subst h
          exact ⟨trivial, rfl, ⟨⟨rfl, rfl, rfl, trivial⟩, hS12.pick [] rfl rfl⟩⟩
        intro x e w100 hM
        obtain ⟨rfl, hM⟩ := hM
        obtain ⟨hE, hS13⟩ := hM
        obtain ⟨e, rfl⟩ := hE.out
        have h := h99
        show CW _ _ _ _ _ _
        refine CW.seq ?_
        obtain ⟨j101, hj101, h102⟩ := obind h
        refine CW.cut (fun e wb => En e [(0, .slice a0_0 x0.length c0_0), (4, .int .i64 s69), (127, .bool j101)] ∧ St w0 [] wb []) ?_ ?_
        · have h := hj101
          refine CW.region ?_
          iterate 2 refine LW.p rfl rfl ?_
          replace h := obind h
          obtain ⟨y103, hy103, h⟩ := h
          obtain ⟨b106, o107, cs108, hae, hb111, hp104, hq105, hd109, hk110⟩ := hr0_0.idx hy103
          subst hae
          obtain rfl := hd109
          refine LW.u (Pur.ix Try.underlying67 sz156 rfl rfl hp104 hq105) rfl ?_
          refine LW.u (Pur.fa fo156_0 rfl) rfl ?_
          refine LW.l (Ldr.old w0 ag4 rfl (hk110 0 _ rfl)) (hS13.same _ hb111.1 hb111.2) rfl ?_
          refine LW.p rfl rfl ?_
          rcases bcases y103.live with hc112 | hc112
          · replace h := bcT h hc112
            refine LW.gY (want_of rfl rfl hc112) ?_
            refine LW.p rfl rfl ?_
            refine LW.gY (want_of rfl rfl hc112) ?_
            refine LW.p rfl rfl ?_
            refine LW.u (Pur.pickT rfl hc112) rfl ?_
            refine LW.nil ?_
            replace h := Option.some.inj h
            subst h
            exact ⟨⟨rfl, rfl, rfl, trivial⟩, hS13.pick [] rfl rfl⟩
          replace h := bcF h hc112
          refine LW.gN (want_not rfl rfl hc112) rfl ?_
          refine LW.gN (want_not rfl rfl hc112) rfl ?_
          refine LW.u (Pur.pickF rfl hc112) rfl ?_
          refine LW.nil ?_
          replace h := Option.some.inj h
          subst h
          exact ⟨⟨rfl, rfl, rfl, trivial⟩, hS13.pick [] rfl rfl⟩
        intro e w113 hM
        obtain ⟨hE, hS14⟩ := hM
        obtain ⟨e, rfl⟩ := hE.out
        have h := h102
        show CW _ _ _ _ _ _
        refine CW.cond rfl (fun hc114 => ?_) (fun hc114 => ?_)
        · replace h := bcT h hc114
          refine CW.seq ?_
          refine CW.region ?_
          refine LW.p rfl rfl ?_
          refine LW.nil ?_
          show CW _ _ _ _ _ _
          refine CW.ret ?_
          replace h := Option.some.inj h
          subst h
          exact ⟨trivial, rfl, _, rfl, ⟨_, Res.one (resOne.t rfl), rfl, hS14.pick [] rfl rfl⟩⟩
        replace h := bcF h hc114
        refine CW.skip ?_
        show CW _ _ _ _ _ _
        refine CW.region ?_
        iterate 3 refine LW.p rfl rfl ?_
        refine LW.nil ?_
        replace h := Option.some.inj h
        subst h
        exact ⟨rfl, ⟨⟨rfl, rfl, trivial⟩, hS14.pick [] rfl rfl⟩⟩
      replace h := bcF h hc71
      refine CW.exit ?_
      replace h := Option.some.inj h
      subst h
      exact ⟨trivial, rfl, ⟨⟨rfl, trivial⟩, hS10.pick [] rfl rfl⟩⟩
    intro x e w117 hM
    rcases o115 with o115 | r122
    · obtain ⟨rfl, hM⟩ := hM
      obtain ⟨hE, hS15⟩ := hM
      obtain ⟨e, rfl⟩ := hE.out
      have h := h116
      show CW _ _ _ _ _ _
      refine CW.seq ?_
      refine CW.region ?_
      refine LW.p rfl rfl ?_
      replace h := obind h
      obtain ⟨y118, hy118, h⟩ := h
      have q := W_s_l6Sum (w0 := w117) hy118 rfl (hS15.rB hr0_0)
      refine LW.call pl182 rfl rfl ?_
      refine Ret.mono q ?_
      rintro _ w119 ⟨rfl, hs⟩
      have hS16 := hS15.add hs
      replace h := obind h
      obtain ⟨y120, hy120, h⟩ := h
      have q := W_s_AmtOk (w0 := w119) hy120
      refine LW.call pl83 rfl rfl ?_
      refine Ret.mono q ?_
      rintro _ w121 ⟨rfl, hs⟩
      have hS17 := hS16.add hs
      refine LW.p rfl rfl ?_
      refine LW.nil ?_
      show CW _ _ _ _ _ _
      refine CW.ret ?_
      cases h
      exact And.intro trivial ⟨_, Res.one (resOne.t rfl), rfl, hS17.pick [] rfl rfl⟩
    obtain ⟨rfl, u, rfl, hM⟩ := hM
    cases h116
    exact And.intro trivial hM
  obtain ⟨rfl, u, rfl, hM⟩ := hM
  cases h67
  exact And.intro trivial hM

theorem W_s_TapOk {w0 : World} {N : Nat} {x0 : DTap} {r : Bool} (h : F_s_TapOk N x0 = some r) :
    Ret Try.prog 147 #[.agg #[.int .i64 x0.res, .int .i64 x0.toPart, .int .i64 x0.toRes, .int .i64 x0.which, .int .i64 x0.kind, .int .i64 x0.rate]] w0 (fun v w => v = .bool r ∧ St w0 [] w []) := by
  unfold F_s_TapOk at h
  refine Ret.of Try.func147 rfl rfl rfl ?_
  have hS1 := St.start w0
  refine CW.seq ?_
  refine CW.region ?_
  refine LW.box (cs := [.int .i64 x0.res, .int .i64 x0.toPart, .int .i64 x0.toRes, .int .i64 x0.which, .int .i64 x0.kind, .int .i64 x0.rate]) rfl hS1 rfl ?_
  intro g1 w2 hS2 hf
  refine LW.p rfl rfl ?_
  refine LW.nil ?_
  show CW _ _ _ _ _ _
  refine CW.seq ?_
  refine CW.seq ?_
  obtain ⟨j3, hj3, h4⟩ := obind h
  refine CW.cut (fun e wb => En e [(1, .pointer (some ⟨g1, 0, none⟩)), (24, .bool j3)] ∧ St w0 [] wb [bx g1 158 [.int .i64 x0.res, .int .i64 x0.toPart, .int .i64 x0.toRes, .int .i64 x0.which, .int .i64 x0.kind, .int .i64 x0.rate]]) ?_ ?_
  · have h := hj3
    refine CW.region ?_
    refine LW.u (Pur.fa fo158_0 rfl) rfl ?_
    refine LW.ldb hS2 0 rfl ag3 rfl rfl rfl ?_
    replace h := obind h
    obtain ⟨y5, hy5, h⟩ := h
    have q := W_s_l6Res (w0 := w2) hy5
    refine LW.call pl181 rfl rfl ?_
    refine Ret.mono q ?_
    rintro _ w6 ⟨rfl, hs⟩
    have hS3 := hS2.add hs
    iterate 2 refine LW.p rfl rfl ?_
    rcases bcases (!y5) with hc7 | hc7
    · replace h := bcT h hc7
      refine LW.gN (want_not rfl rfl hc7) rfl ?_
      refine LW.gN (want_not rfl rfl hc7) rfl ?_
      refine LW.gN (want_not rfl rfl hc7) rfl ?_
      refine LW.gN (want_not rfl rfl hc7) rfl ?_
      refine LW.u (Pur.pickT rfl hc7) rfl ?_
      refine LW.p rfl rfl ?_
      refine LW.gN (want_not rfl rfl rfl) rfl ?_
      refine LW.gN (want_not rfl rfl rfl) rfl ?_
      refine LW.gN (want_not rfl rfl rfl) rfl ?_
      refine LW.gN (want_not rfl rfl rfl) rfl ?_
      refine LW.u (Pur.pickT rfl rfl) rfl ?_
      refine LW.p rfl rfl ?_
      refine LW.gN (want_not rfl rfl rfl) rfl ?_
      refine LW.gN (want_not rfl rfl rfl) rfl ?_
      refine LW.gN (want_not rfl rfl rfl) rfl ?_
      refine LW.gN (want_not rfl rfl rfl) rfl ?_
      refine LW.u (Pur.pickT rfl rfl) rfl ?_
      refine LW.nil ?_
      replace h := Option.some.inj h
      subst h
      exact ⟨⟨rfl, rfl, trivial⟩, hS3.pick [0] rfl rfl⟩
    replace h := bcF h hc7
    refine LW.gY (want_of rfl rfl hc7) ?_
    refine LW.u (Pur.fa fo158_1 rfl) rfl ?_
    refine LW.gY (want_of rfl rfl hc7) ?_
    refine LW.ldb hS3 0 rfl ag3 rfl rfl rfl ?_
    replace h := obind h
    obtain ⟨y8, hy8, h⟩ := h
    have q := W_s_l1In (w0 := w6) hy8
    refine LW.gY (want_of rfl rfl hc7) ?_
    refine LW.call pl81 rfl rfl ?_
    refine Ret.mono q ?_
    rintro _ w9 ⟨rfl, hs⟩
    have hS4 := hS3.add hs
    refine LW.gY (want_of rfl rfl hc7) ?_
    refine LW.p rfl rfl ?_
    refine LW.u (Pur.pickF rfl hc7) rfl ?_
    refine LW.p rfl rfl ?_
    rcases bcases (!y8) with hc10 | hc10
    · replace h := bcT h hc10
      refine LW.gN (want_not rfl rfl hc10) rfl ?_
      refine LW.gN (want_not rfl rfl hc10) rfl ?_
      refine LW.gN (want_not rfl rfl hc10) rfl ?_
      refine LW.gN (want_not rfl rfl hc10) rfl ?_
      refine LW.u (Pur.pickT rfl hc10) rfl ?_
      refine LW.p rfl rfl ?_
      refine LW.gN (want_not rfl rfl rfl) rfl ?_
      refine LW.gN (want_not rfl rfl rfl) rfl ?_
      refine LW.gN (want_not rfl rfl rfl) rfl ?_
      refine LW.gN (want_not rfl rfl rfl) rfl ?_
      refine LW.fresh (l := [(1, .pointer (some ⟨g1, 0, none⟩)), (19, .bool true), (23, undef)]) ⟨rfl, rfl, rfl, trivial⟩ (fun e => ?_)
      refine LW.u (Pur.pickT rfl rfl) rfl ?_
      refine LW.nil ?_
      replace h := Option.some.inj h
      subst h
      exact ⟨⟨rfl, rfl, trivial⟩, hS4.pick [0] rfl rfl⟩
    replace h := bcF h hc10
    refine LW.gY (want_of rfl rfl hc10) ?_
    refine LW.u (Pur.fa fo158_2 rfl) rfl ?_
    refine LW.gY (want_of rfl rfl hc10) ?_
    refine LW.ldb hS4 0 rfl ag3 rfl rfl rfl ?_
    replace h := obind h
    obtain ⟨y11, hy11, h⟩ := h
    have q := W_s_l6Res (w0 := w9) hy11
    refine LW.gY (want_of rfl rfl hc10) ?_
    refine LW.call pl181 rfl rfl ?_
    refine Ret.mono q ?_
    rintro _ w12 ⟨rfl, hs⟩
    have hS5 := hS4.add hs
    refine LW.gY (want_of rfl rfl hc10) ?_
    refine LW.p rfl rfl ?_
    refine LW.u (Pur.pickF rfl hc10) rfl ?_
    refine LW.p rfl rfl ?_
    rcases bcases (!y11) with hc13 | hc13
    · replace h := bcT h hc13
      refine LW.gN (want_not rfl rfl hc13) rfl ?_
      refine LW.gN (want_not rfl rfl hc13) rfl ?_
      refine LW.gN (want_not rfl rfl hc13) rfl ?_
      refine LW.fresh (l := [(1, .pointer (some ⟨g1, 0, none⟩)), (19, .bool (!y11)), (22, undef)]) ⟨rfl, rfl, rfl, trivial⟩ (fun e => ?_)
      refine LW.gN (want_not rfl rfl hc13) rfl ?_
      refine LW.u (Pur.pickT rfl hc13) rfl ?_
      refine LW.nil ?_
      replace h := Option.some.inj h
      subst h
      exact ⟨⟨rfl, rfl, trivial⟩, hS5.pick [0] rfl rfl⟩
    replace h := bcF h hc13
    refine LW.gY (want_of rfl rfl hc13) ?_
    refine LW.u (Pur.fa fo158_3 rfl) rfl ?_
    refine LW.gY (want_of rfl rfl hc13) ?_
    refine LW.ldb hS5 0 rfl ag3 rfl rfl rfl ?_
    replace h := obind h
    obtain ⟨y14, hy14, h⟩ := h
    have q := W_s_l1In (w0 := w12) hy14
    refine LW.gY (want_of rfl rfl hc13) ?_
    refine LW.call pl81 rfl rfl ?_
    refine Ret.mono q ?_
    rintro _ w15 ⟨rfl, hs⟩
    have hS6 := hS5.add hs
    refine LW.fresh (l := [(1, .pointer (some ⟨g1, 0, none⟩)), (19, .bool (!y11)), (22, .bool y14)]) ⟨rfl, rfl, rfl, trivial⟩ (fun e => ?_)
    refine LW.gY (want_of rfl rfl hc13) ?_
    refine LW.p rfl rfl ?_
    refine LW.u (Pur.pickF rfl hc13) rfl ?_
    refine LW.nil ?_
    replace h := Option.some.inj h
    subst h
    exact ⟨⟨rfl, rfl, trivial⟩, hS6.pick [0] rfl rfl⟩
  intro e w16 hM
  obtain ⟨hE, hS7⟩ := hM
  obtain ⟨e, rfl⟩ := hE.out
  have h := h4
  show CW _ _ _ _ _ _
  refine CW.cond rfl (fun hc17 => ?_) (fun hc17 => ?_)
  · replace h := bcT h hc17
    refine CW.seq ?_
    refine CW.region ?_
    refine LW.p rfl rfl ?_
    refine LW.nil ?_
    show CW _ _ _ _ _ _
    refine CW.ret ?_
    cases h
    exact And.intro trivial ⟨_, Res.one (resOne.t rfl), rfl, hS7.pick [] rfl rfl⟩
  replace h := bcF h hc17
  refine CW.skip ?_
  show CW _ _ _ _ _ _
  refine CW.seq ?_
  refine CW.seq ?_
  refine CW.region ?_
  refine LW.u (Pur.fa fo158_4 rfl) rfl ?_
  refine LW.ldb hS7 0 rfl ag3 rfl rfl rfl ?_
  refine LW.nil ?_
  show CW _ _ _ _ _ _
  refine CW.block ?_
  refine CW.seq ?_
  refine CW.region ?_
  iterate 2 refine LW.p rfl rfl ?_
  refine LW.nil ?_
  show CW _ _ _ _ _ _
  refine CW.cond rfl (fun hc18 => ?_) (fun hc18 => ?_)
  · replace h := bcT h hc18
    refine CW.seq ?_
    refine CW.region ?_
    refine LW.u (Pur.fa fo158_5 rfl) rfl ?_
    refine LW.ldb hS7 0 rfl ag3 rfl rfl rfl ?_
    replace h := obind h
    obtain ⟨y19, hy19, h⟩ := h
    have q := W_s_l1In (w0 := w16) hy19
    refine LW.call pl81 rfl rfl ?_
    refine Ret.mono q ?_
    rintro _ w20 ⟨rfl, hs⟩
    have hS8 := hS7.add hs
    refine LW.p rfl rfl ?_
    refine LW.nil ?_
    show CW _ _ _ _ _ _
    refine CW.ret ?_
    cases h
    exact And.intro trivial ⟨_, Res.one (resOne.t rfl), rfl, hS8.pick [] rfl rfl⟩
  replace h := bcF h hc18
  refine CW.seq ?_
  refine CW.region ?_
  iterate 2 refine LW.p rfl rfl ?_
  refine LW.nil ?_
  show CW _ _ _ _ _ _
  refine CW.cond rfl (fun hc21 => ?_) (fun hc21 => ?_)
  · replace h := bcT h hc21
    refine CW.seq ?_
    refine CW.region ?_
    refine LW.u (Pur.fa fo158_5 rfl) rfl ?_
    refine LW.ldb hS7 0 rfl ag3 rfl rfl rfl ?_
    replace h := obind h
    obtain ⟨y22, hy22, h⟩ := h
    have q := W_s_l1In (w0 := w16) hy22
    refine LW.call pl81 rfl rfl ?_
    refine Ret.mono q ?_
    rintro _ w23 ⟨rfl, hs⟩
    have hS9 := hS7.add hs
    refine LW.p rfl rfl ?_
    refine LW.nil ?_
    show CW _ _ _ _ _ _
    refine CW.ret ?_
    cases h
    exact And.intro trivial ⟨_, Res.one (resOne.t rfl), rfl, hS9.pick [] rfl rfl⟩
  replace h := bcF h hc21
  refine CW.skip ?_
  show CW _ _ _ _ _ _
  refine CW.seq ?_
  refine CW.region ?_
  refine LW.p rfl rfl ?_
  refine LW.nil ?_
  show CW _ _ _ _ _ _
  refine CW.ret ?_
  cases h
  exact And.intro trivial ⟨_, Res.one (resOne.t rfl), rfl, hS7.pick [] rfl rfl⟩

theorem W_s_PartOk {w0 : World} {N : Nat} {x0 : DPart} {r : Bool} (h : F_s_PartOk N x0 = some r) {a0_0 : Option Addr} {n0_0 c0_0 : Nat} (hn0_0 : n0_0 = x0.label.levels.length) (hr0_0 : rdS (Bor w0 []) w0 a0_0 c0_0 x0.label.levels) {a0_1 : Option Addr} {n0_1 c0_1 : Nat} (hn0_1 : n0_1 = x0.own.length) (hr0_1 : rdS (Bor w0 []) w0 a0_1 c0_1 x0.own) {a0_2 : Option Addr} {n0_2 c0_2 : Nat} (hn0_2 : n0_2 = x0.tree.length) (hr0_2 : rdS (Bor w0 []) w0 a0_2 c0_2 x0.tree) {a0_3 : Option Addr} {n0_3 c0_3 : Nat} (hn0_3 : n0_3 = x0.heap.arena.length) (hr0_3 : rdS (Bor w0 []) w0 a0_3 c0_3 x0.heap.arena) {a0_7 : Option Addr} {n0_7 c0_7 : Nat} (hn0_7 : n0_7 = x0.heap.gc.grey.length) (hr0_7 : rdS (Bor w0 []) w0 a0_7 c0_7 x0.heap.gc.grey) {a0_8 : Option Addr} {n0_8 c0_8 : Nat} (hn0_8 : n0_8 = x0.taps.length) (hr0_8 : rdS (Bor w0 []) w0 a0_8 c0_8 x0.taps) :
    Ret Try.prog 82 #[.agg #[.slice a0_0 n0_0 c0_0, .slice a0_1 n0_1 c0_1, .slice a0_2 n0_2 c0_2, .slice a0_3 n0_3 c0_3, .int .i64 x0.heap.gc.phase, .int .i64 x0.heap.gc.pos, .int .i64 x0.heap.gc.round, .slice a0_7 n0_7 c0_7, .slice a0_8 n0_8 c0_8, .int .i64 x0.next, .int .i64 x0.want, .int .i64 x0.spent.pages, .int .i64 x0.spent.rent, .int .i64 x0.spent.cpu, .int .i64 x0.press, .int .i64 x0.lost]] w0 (fun v w => v = .bool r ∧ St w0 [] w []) := by
  subst hn0_0
  subst hn0_1
  subst hn0_2
  subst hn0_3
  subst hn0_7
  subst hn0_8
  unfold F_s_PartOk at h
  refine Ret.of Try.func82 rfl rfl rfl ?_
  have hS1 := St.start w0
  refine CW.seq ?_
  refine CW.region ?_
  refine LW.box (cs := [.slice a0_0 x0.label.levels.length c0_0, .slice a0_1 x0.own.length c0_1, .slice a0_2 x0.tree.length c0_2, .slice a0_3 x0.heap.arena.length c0_3, .int .i64 x0.heap.gc.phase, .int .i64 x0.heap.gc.pos, .int .i64 x0.heap.gc.round, .slice a0_7 x0.heap.gc.grey.length c0_7, .slice a0_8 x0.taps.length c0_8, .int .i64 x0.next, .int .i64 x0.want, .int .i64 x0.spent.pages, .int .i64 x0.spent.rent, .int .i64 x0.spent.cpu, .int .i64 x0.press, .int .i64 x0.lost]) rfl hS1 rfl ?_
  intro g1 w2 hS2 hf
  refine LW.p rfl rfl ?_
  refine LW.nil ?_
  show CW _ _ _ _ _ _
  refine CW.seq ?_
  refine CW.seq ?_
  obtain ⟨j3, hj3, h4⟩ := obind h
  refine CW.cut (fun e wb => En e [(1, .pointer (some ⟨g1, 0, none⟩)), (61, .bool j3)] ∧ St w0 [] wb [bx g1 75 [.slice a0_0 x0.label.levels.length c0_0, .slice a0_1 x0.own.length c0_1, .slice a0_2 x0.tree.length c0_2, .slice a0_3 x0.heap.arena.length c0_3, .int .i64 x0.heap.gc.phase, .int .i64 x0.heap.gc.pos, .int .i64 x0.heap.gc.round, .slice a0_7 x0.heap.gc.grey.length c0_7, .slice a0_8 x0.taps.length c0_8, .int .i64 x0.next, .int .i64 x0.want, .int .i64 x0.spent.pages, .int .i64 x0.spent.rent, .int .i64 x0.spent.cpu, .int .i64 x0.press, .int .i64 x0.lost]]) ?_ ?_
  · have h := hj3
    refine CW.region ?_
    refine LW.u (Pur.fa fo75_0 rfl) rfl ?_
    refine LW.ldbN hS2 0 rfl ag35 rfl rfl rfl ?_
    replace h := obind h
    obtain ⟨y5, hy5, h⟩ := h
    have q := W_s_LabelOk (w0 := w2) hy5 rfl (hS2.rB hr0_0)
    refine LW.call pl103 rfl rfl ?_
    refine Ret.mono q ?_
    rintro _ w6 ⟨rfl, hs⟩
    have hS3 := hS2.add hs
    iterate 2 refine LW.p rfl rfl ?_
    rcases bcases (!y5) with hc7 | hc7
    · replace h := bcT h hc7
      refine LW.gN (want_not rfl rfl hc7) rfl ?_
      refine LW.gN (want_not rfl rfl hc7) rfl ?_
      refine LW.gN (want_not rfl rfl hc7) rfl ?_
      refine LW.gN (want_not rfl rfl hc7) rfl ?_
      refine LW.u (Pur.pickT rfl hc7) rfl ?_
      refine LW.p rfl rfl ?_
      refine LW.gN (want_not rfl rfl rfl) rfl ?_
      refine LW.gN (want_not rfl rfl rfl) rfl ?_
      refine LW.gN (want_not rfl rfl rfl) rfl ?_
      refine LW.gN (want_not rfl rfl rfl) rfl ?_
      refine LW.u (Pur.pickT rfl rfl) rfl ?_
      refine LW.p rfl rfl ?_
      refine LW.gN (want_not rfl rfl rfl) rfl ?_
      refine LW.gN (want_not rfl rfl rfl) rfl ?_
      refine LW.gN (want_not rfl rfl rfl) rfl ?_
      refine LW.gN (want_not rfl rfl rfl) rfl ?_
      refine LW.u (Pur.pickT rfl rfl) rfl ?_
      refine LW.fresh (l := [(1, .pointer (some ⟨g1, 0, none⟩)), (25, .bool true)]) ⟨rfl, rfl, trivial⟩ (fun e => ?_)
      refine LW.p rfl rfl ?_
      refine LW.gN (want_not rfl rfl rfl) rfl ?_
      refine LW.gN (want_not rfl rfl rfl) rfl ?_
      refine LW.gN (want_not rfl rfl rfl) rfl ?_
      refine LW.gN (want_not rfl rfl rfl) rfl ?_
      refine LW.u (Pur.pickT rfl rfl) rfl ?_
      refine LW.p rfl rfl ?_
      refine LW.gN (want_not rfl rfl rfl) rfl ?_
      refine LW.gN (want_not rfl rfl rfl) rfl ?_
      refine LW.gN (want_not rfl rfl rfl) rfl ?_
      refine LW.gN (want_not rfl rfl rfl) rfl ?_
      refine LW.u (Pur.pickT rfl rfl) rfl ?_
      refine LW.p rfl rfl ?_
      refine LW.gN (want_not rfl rfl rfl) rfl ?_
      refine LW.gN (want_not rfl rfl rfl) rfl ?_
      refine LW.gN (want_not rfl rfl rfl) rfl ?_
      refine LW.gN (want_not rfl rfl rfl) rfl ?_
      refine LW.u (Pur.pickT rfl rfl) rfl ?_
      refine LW.p rfl rfl ?_
      refine LW.gN (want_not rfl rfl rfl) rfl ?_
      refine LW.gN (want_not rfl rfl rfl) rfl ?_
      refine LW.gN (want_not rfl rfl rfl) rfl ?_
      refine LW.gN (want_not rfl rfl rfl) rfl ?_
      refine LW.u (Pur.pickT rfl rfl) rfl ?_
      refine LW.p rfl rfl ?_
      refine LW.fresh (l := [(1, .pointer (some ⟨g1, 0, none⟩)), (50, .bool true)]) ⟨rfl, rfl, trivial⟩ (fun e => ?_)
      refine LW.gN (want_not rfl rfl rfl) rfl ?_
      refine LW.gN (want_not rfl rfl rfl) rfl ?_
      refine LW.gN (want_not rfl rfl rfl) rfl ?_
      refine LW.gN (want_not rfl rfl rfl) rfl ?_
      refine LW.u (Pur.pickT rfl rfl) rfl ?_
      refine LW.p rfl rfl ?_
      refine LW.gN (want_not rfl rfl rfl) rfl ?_
      refine LW.gN (want_not rfl rfl rfl) rfl ?_
      refine LW.gN (want_not rfl rfl rfl) rfl ?_
      refine LW.gN (want_not rfl rfl rfl) rfl ?_
      refine LW.u (Pur.pickT rfl rfl) rfl ?_
      refine LW.nil ?_
      replace h := Option.some.inj h
      subst h
      exact ⟨⟨rfl, rfl, trivial⟩, hS3.pick [0] rfl rfl⟩
    replace h := bcF h hc7
    refine LW.gY (want_of rfl rfl hc7) ?_
    refine LW.u (Pur.fa fo75_1 rfl) rfl ?_
    refine LW.gY (want_of rfl rfl hc7) ?_
    refine LW.ldb hS3 0 rfl ag24 rfl rfl rfl ?_
    replace h := obind h
    obtain ⟨y8, hy8, h⟩ := h
    have q := W_s_OwnOk (w0 := w6) hy8 rfl (hS3.rB hr0_1)
    refine LW.gY (want_of rfl rfl hc7) ?_
    refine LW.call pl104 rfl rfl ?_
    refine Ret.mono q ?_
    rintro _ w9 ⟨rfl, hs⟩
    have hS4 := hS3.add hs
    refine LW.gY (want_of rfl rfl hc7) ?_
    refine LW.p rfl rfl ?_
    refine LW.u (Pur.pickF rfl hc7) rfl ?_
    refine LW.p rfl rfl ?_
    rcases bcases (!y8) with hc10 | hc10
    · replace h := bcT h hc10
      refine LW.gN (want_not rfl rfl hc10) rfl ?_
      refine LW.gN (want_not rfl rfl hc10) rfl ?_
      refine LW.gN (want_not rfl rfl hc10) rfl ?_
      refine LW.gN (want_not rfl rfl hc10) rfl ?_
      refine LW.u (Pur.pickT rfl hc10) rfl ?_
      refine LW.p rfl rfl ?_
      refine LW.gN (want_not rfl rfl rfl) rfl ?_
      refine LW.gN (want_not rfl rfl rfl) rfl ?_
      refine LW.gN (want_not rfl rfl rfl) rfl ?_
      refine LW.gN (want_not rfl rfl rfl) rfl ?_
      refine LW.fresh (l := [(1, .pointer (some ⟨g1, 0, none⟩)), (20, .bool true), (24, undef)]) ⟨rfl, rfl, rfl, trivial⟩ (fun e => ?_)
      refine LW.u (Pur.pickT rfl rfl) rfl ?_
      refine LW.p rfl rfl ?_
      refine LW.gN (want_not rfl rfl rfl) rfl ?_
      refine LW.gN (want_not rfl rfl rfl) rfl ?_
      refine LW.gN (want_not rfl rfl rfl) rfl ?_
      refine LW.gN (want_not rfl rfl rfl) rfl ?_
      refine LW.u (Pur.pickT rfl rfl) rfl ?_
      refine LW.p rfl rfl ?_
      refine LW.gN (want_not rfl rfl rfl) rfl ?_
      refine LW.gN (want_not rfl rfl rfl) rfl ?_
      refine LW.gN (want_not rfl rfl rfl) rfl ?_
      refine LW.gN (want_not rfl rfl rfl) rfl ?_
      refine LW.u (Pur.pickT rfl rfl) rfl ?_
      refine LW.p rfl rfl ?_
      refine LW.gN (want_not rfl rfl rfl) rfl ?_
      refine LW.gN (want_not rfl rfl rfl) rfl ?_
      refine LW.gN (want_not rfl rfl rfl) rfl ?_
      refine LW.gN (want_not rfl rfl rfl) rfl ?_
      refine LW.u (Pur.pickT rfl rfl) rfl ?_
      refine LW.p rfl rfl ?_
      refine LW.gN (want_not rfl rfl rfl) rfl ?_
      refine LW.gN (want_not rfl rfl rfl) rfl ?_
      refine LW.gN (want_not rfl rfl rfl) rfl ?_
      refine LW.gN (want_not rfl rfl rfl) rfl ?_
      refine LW.u (Pur.pickT rfl rfl) rfl ?_
      refine LW.fresh (l := [(1, .pointer (some ⟨g1, 0, none⟩)), (49, .bool true)]) ⟨rfl, rfl, trivial⟩ (fun e => ?_)
      refine LW.p rfl rfl ?_
      refine LW.gN (want_not rfl rfl rfl) rfl ?_
      refine LW.gN (want_not rfl rfl rfl) rfl ?_
      refine LW.gN (want_not rfl rfl rfl) rfl ?_
      refine LW.gN (want_not rfl rfl rfl) rfl ?_
      refine LW.u (Pur.pickT rfl rfl) rfl ?_
      refine LW.p rfl rfl ?_
      refine LW.gN (want_not rfl rfl rfl) rfl ?_
      refine LW.gN (want_not rfl rfl rfl) rfl ?_
      refine LW.gN (want_not rfl rfl rfl) rfl ?_
      refine LW.gN (want_not rfl rfl rfl) rfl ?_
      refine LW.u (Pur.pickT rfl rfl) rfl ?_
      refine LW.nil ?_
      replace h := Option.some.inj h
      subst h
      exact ⟨⟨rfl, rfl, trivial⟩, hS4.pick [0] rfl rfl⟩
    replace h := bcF h hc10
    refine LW.gY (want_of rfl rfl hc10) ?_
    refine LW.u (Pur.fa fo75_2 rfl) rfl ?_
    refine LW.gY (want_of rfl rfl hc10) ?_
    refine LW.ldb hS4 0 rfl ag67 rfl rfl rfl ?_
    replace h := obind h
    obtain ⟨y11, hy11, h⟩ := h
    have q := W_s_TreeOk (w0 := w9) hy11 rfl (hS4.rB hr0_2)
    refine LW.gY (want_of rfl rfl hc10) ?_
    refine LW.call pl144 rfl rfl ?_
    refine Ret.mono q ?_
    rintro _ w12 ⟨rfl, hs⟩
    have hS5 := hS4.add hs
    refine LW.gY (want_of rfl rfl hc10) ?_
    refine LW.p rfl rfl ?_
    refine LW.u (Pur.pickF rfl hc10) rfl ?_
    refine LW.p rfl rfl ?_
    rcases bcases (!y11) with hc13 | hc13
    · replace h := bcT h hc13
      refine LW.gN (want_not rfl rfl hc13) rfl ?_
      refine LW.gN (want_not rfl rfl hc13) rfl ?_
      refine LW.gN (want_not rfl rfl hc13) rfl ?_
      refine LW.fresh (l := [(1, .pointer (some ⟨g1, 0, none⟩)), (20, .bool (!y11)), (23, undef)]) ⟨rfl, rfl, rfl, trivial⟩ (fun e => ?_)
      refine LW.gN (want_not rfl rfl hc13) rfl ?_
      refine LW.u (Pur.pickT rfl hc13) rfl ?_
      refine LW.p rfl rfl ?_
      refine LW.gN (want_not rfl rfl rfl) rfl ?_
      refine LW.gN (want_not rfl rfl rfl) rfl ?_
      refine LW.gN (want_not rfl rfl rfl) rfl ?_
      refine LW.gN (want_not rfl rfl rfl) rfl ?_
      refine LW.u (Pur.pickT rfl rfl) rfl ?_
      refine LW.p rfl rfl ?_
      refine LW.gN (want_not rfl rfl rfl) rfl ?_
      refine LW.gN (want_not rfl rfl rfl) rfl ?_
      refine LW.gN (want_not rfl rfl rfl) rfl ?_
      refine LW.gN (want_not rfl rfl rfl) rfl ?_
      refine LW.u (Pur.pickT rfl rfl) rfl ?_
      refine LW.p rfl rfl ?_
      refine LW.gN (want_not rfl rfl rfl) rfl ?_
      refine LW.gN (want_not rfl rfl rfl) rfl ?_
      refine LW.gN (want_not rfl rfl rfl) rfl ?_
      refine LW.gN (want_not rfl rfl rfl) rfl ?_
      refine LW.u (Pur.pickT rfl rfl) rfl ?_
      refine LW.p rfl rfl ?_
      refine LW.gN (want_not rfl rfl rfl) rfl ?_
      refine LW.gN (want_not rfl rfl rfl) rfl ?_
      refine LW.gN (want_not rfl rfl rfl) rfl ?_
      refine LW.gN (want_not rfl rfl rfl) rfl ?_
      refine LW.fresh (l := [(1, .pointer (some ⟨g1, 0, none⟩)), (44, .bool true), (48, undef)]) ⟨rfl, rfl, rfl, trivial⟩ (fun e => ?_)
      refine LW.u (Pur.pickT rfl rfl) rfl ?_
      refine LW.p rfl rfl ?_
      refine LW.gN (want_not rfl rfl rfl) rfl ?_
      refine LW.gN (want_not rfl rfl rfl) rfl ?_
      refine LW.gN (want_not rfl rfl rfl) rfl ?_
      refine LW.gN (want_not rfl rfl rfl) rfl ?_
      refine LW.u (Pur.pickT rfl rfl) rfl ?_
      refine LW.p rfl rfl ?_
      refine LW.gN (want_not rfl rfl rfl) rfl ?_
      refine LW.gN (want_not rfl rfl rfl) rfl ?_
      refine LW.gN (want_not rfl rfl rfl) rfl ?_
      refine LW.gN (want_not rfl rfl rfl) rfl ?_
      refine LW.u (Pur.pickT rfl rfl) rfl ?_
      refine LW.nil ?_
      replace h := Option.some.inj h
      subst h
      exact ⟨⟨rfl, rfl, trivial⟩, hS5.pick [0] rfl rfl⟩
    replace h := bcF h hc13
    refine LW.gY (want_of rfl rfl hc13) ?_
    refine LW.u (Pur.fa fo75_3 rfl) rfl ?_
    refine LW.gY (want_of rfl rfl hc13) ?_
    refine LW.ldbN hS5 0 rfl ag71 rfl rfl rfl ?_
    replace h := obind h
    obtain ⟨y14, hy14, h⟩ := h
    have q := W_s_HeapOk (w0 := w12) hy14 rfl (hS5.rB hr0_3) rfl (hS5.rB hr0_7)
    refine LW.gY (want_of rfl rfl hc13) ?_
    refine LW.call pl145 rfl rfl ?_
    refine Ret.mono q ?_
    rintro _ w15 ⟨rfl, hs⟩
    have hS6 := hS5.add hs
    refine LW.fresh (l := [(1, .pointer (some ⟨g1, 0, none⟩)), (20, .bool (!y11)), (23, .bool y14)]) ⟨rfl, rfl, rfl, trivial⟩ (fun e => ?_)
    refine LW.gY (want_of rfl rfl hc13) ?_
    refine LW.p rfl rfl ?_
    refine LW.u (Pur.pickF rfl hc13) rfl ?_
    refine LW.p rfl rfl ?_
    rcases bcases (!y14) with hc16 | hc16
    · replace h := bcT h hc16
      refine LW.gN (want_not rfl rfl hc16) rfl ?_
      refine LW.gN (want_not rfl rfl hc16) rfl ?_
      refine LW.gN (want_not rfl rfl hc16) rfl ?_
      refine LW.gN (want_not rfl rfl hc16) rfl ?_
      refine LW.u (Pur.pickT rfl hc16) rfl ?_
      refine LW.p rfl rfl ?_
      refine LW.gN (want_not rfl rfl rfl) rfl ?_
      refine LW.gN (want_not rfl rfl rfl) rfl ?_
      refine LW.gN (want_not rfl rfl rfl) rfl ?_
      refine LW.gN (want_not rfl rfl rfl) rfl ?_
      refine LW.u (Pur.pickT rfl rfl) rfl ?_
      refine LW.p rfl rfl ?_
      refine LW.gN (want_not rfl rfl rfl) rfl ?_
      refine LW.gN (want_not rfl rfl rfl) rfl ?_
      refine LW.gN (want_not rfl rfl rfl) rfl ?_
      refine LW.gN (want_not rfl rfl rfl) rfl ?_
      refine LW.u (Pur.pickT rfl rfl) rfl ?_
      refine LW.p rfl rfl ?_
      refine LW.gN (want_not rfl rfl rfl) rfl ?_
      refine LW.gN (want_not rfl rfl rfl) rfl ?_
      refine LW.gN (want_not rfl rfl rfl) rfl ?_
      refine LW.fresh (l := [(1, .pointer (some ⟨g1, 0, none⟩)), (44, .bool true), (47, undef)]) ⟨rfl, rfl, rfl, trivial⟩ (fun e => ?_)
      refine LW.gN (want_not rfl rfl rfl) rfl ?_
      refine LW.u (Pur.pickT rfl rfl) rfl ?_
      refine LW.p rfl rfl ?_
      refine LW.gN (want_not rfl rfl rfl) rfl ?_
      refine LW.gN (want_not rfl rfl rfl) rfl ?_
      refine LW.gN (want_not rfl rfl rfl) rfl ?_
      refine LW.gN (want_not rfl rfl rfl) rfl ?_
      refine LW.u (Pur.pickT rfl rfl) rfl ?_
      refine LW.p rfl rfl ?_
      refine LW.gN (want_not rfl rfl rfl) rfl ?_
      refine LW.gN (want_not rfl rfl rfl) rfl ?_
      refine LW.gN (want_not rfl rfl rfl) rfl ?_
      refine LW.gN (want_not rfl rfl rfl) rfl ?_
      refine LW.u (Pur.pickT rfl rfl) rfl ?_
      refine LW.nil ?_
      replace h := Option.some.inj h
      subst h
      exact ⟨⟨rfl, rfl, trivial⟩, hS6.pick [0] rfl rfl⟩
    replace h := bcF h hc16
    refine LW.gY (want_of rfl rfl hc16) ?_
    refine LW.u (Pur.fa fo75_4 rfl) rfl ?_
    refine LW.gY (want_of rfl rfl hc16) ?_
    refine LW.ldb hS6 0 rfl ag72 rfl rfl rfl ?_
    refine LW.gY (want_of rfl rfl hc16) ?_
    refine LW.u (Pur.len Try.underlying72 rfl) rfl ?_
    refine LW.gY (want_of rfl rfl hc16) ?_
    refine LW.p rfl rfl ?_
    refine LW.u (Pur.pickF rfl hc16) rfl ?_
    refine LW.p rfl rfl ?_
    rcases bcases (decide ((x0.taps.length : Int) > 3)) with hc17 | hc17
    · replace h := bcT h hc17
      refine LW.gN (want_not rfl rfl hc17) rfl ?_
      refine LW.gN (want_not rfl rfl hc17) rfl ?_
      refine LW.gN (want_not rfl rfl hc17) rfl ?_
      refine LW.gN (want_not rfl rfl hc17) rfl ?_
      refine LW.u (Pur.pickT rfl hc17) rfl ?_
      refine LW.p rfl rfl ?_
      refine LW.gN (want_not rfl rfl rfl) rfl ?_
      refine LW.gN (want_not rfl rfl rfl) rfl ?_
      refine LW.gN (want_not rfl rfl rfl) rfl ?_
      refine LW.gN (want_not rfl rfl rfl) rfl ?_
      refine LW.u (Pur.pickT rfl rfl) rfl ?_
      refine LW.p rfl rfl ?_
      refine LW.gN (want_not rfl rfl rfl) rfl ?_
      refine LW.gN (want_not rfl rfl rfl) rfl ?_
      refine LW.fresh (l := [(1, .pointer (some ⟨g1, 0, none⟩)), (44, .bool true), (46, undef)]) ⟨rfl, rfl, rfl, trivial⟩ (fun e => ?_)
      refine LW.gN (want_not rfl rfl rfl) rfl ?_
      refine LW.gN (want_not rfl rfl rfl) rfl ?_
      refine LW.u (Pur.pickT rfl rfl) rfl ?_
      refine LW.p rfl rfl ?_
      refine LW.gN (want_not rfl rfl rfl) rfl ?_
      refine LW.gN (want_not rfl rfl rfl) rfl ?_
      refine LW.gN (want_not rfl rfl rfl) rfl ?_
      refine LW.gN (want_not rfl rfl rfl) rfl ?_
      refine LW.u (Pur.pickT rfl rfl) rfl ?_
      refine LW.p rfl rfl ?_
      refine LW.gN (want_not rfl rfl rfl) rfl ?_
      refine LW.gN (want_not rfl rfl rfl) rfl ?_
      refine LW.gN (want_not rfl rfl rfl) rfl ?_
      refine LW.gN (want_not rfl rfl rfl) rfl ?_
      refine LW.u (Pur.pickT rfl rfl) rfl ?_
      refine LW.nil ?_
      replace h := Option.some.inj h
      subst h
      exact ⟨⟨rfl, rfl, trivial⟩, hS6.pick [0] rfl rfl⟩
    replace h := bcF h hc17
    refine LW.gY (want_of rfl rfl hc17) ?_
    refine LW.u (Pur.fa fo75_5 rfl) rfl ?_
    refine LW.gY (want_of rfl rfl hc17) ?_
    refine LW.ldb hS6 0 rfl ag3 rfl rfl rfl ?_
    replace h := obind h
    obtain ⟨y18, hy18, h⟩ := h
    have q := W_s_l8Slot (w0 := w15) hy18
    refine LW.gY (want_of rfl rfl hc17) ?_
    refine LW.call pl146 rfl rfl ?_
    refine Ret.mono q ?_
    rintro _ w19 ⟨rfl, hs⟩
    have hS7 := hS6.add hs
    refine LW.gY (want_of rfl rfl hc17) ?_
    refine LW.p rfl rfl ?_
    refine LW.u (Pur.pickF rfl hc17) rfl ?_
    refine LW.p rfl rfl ?_
    rcases bcases (!y18) with hc20 | hc20
    · replace h := bcT h hc20
      refine LW.gN (want_not rfl rfl hc20) rfl ?_
      refine LW.gN (want_not rfl rfl hc20) rfl ?_
      refine LW.gN (want_not rfl rfl hc20) rfl ?_
      refine LW.gN (want_not rfl rfl hc20) rfl ?_
      refine LW.u (Pur.pickT rfl hc20) rfl ?_
      refine LW.p rfl rfl ?_
      refine LW.gN (want_not rfl rfl rfl) rfl ?_
      refine LW.fresh (l := [(1, .pointer (some ⟨g1, 0, none⟩)), (44, .bool true), (45, undef)]) ⟨rfl, rfl, rfl, trivial⟩ (fun e => ?_)
      refine LW.gN (want_not rfl rfl rfl) rfl ?_
      refine LW.gN (want_not rfl rfl rfl) rfl ?_
      refine LW.gN (want_not rfl rfl rfl) rfl ?_
      refine LW.u (Pur.pickT rfl rfl) rfl ?_
      refine LW.p rfl rfl ?_
      refine LW.gN (want_not rfl rfl rfl) rfl ?_
      refine LW.gN (want_not rfl rfl rfl) rfl ?_
      refine LW.gN (want_not rfl rfl rfl) rfl ?_
      refine LW.gN (want_not rfl rfl rfl) rfl ?_
      refine LW.u (Pur.pickT rfl rfl) rfl ?_
      refine LW.p rfl rfl ?_
      refine LW.gN (want_not rfl rfl rfl) rfl ?_
      refine LW.gN (want_not rfl rfl rfl) rfl ?_
      refine LW.gN (want_not rfl rfl rfl) rfl ?_
      refine LW.gN (want_not rfl rfl rfl) rfl ?_
      refine LW.u (Pur.pickT rfl rfl) rfl ?_
      refine LW.nil ?_
      replace h := Option.some.inj h
      subst h
      exact ⟨⟨rfl, rfl, trivial⟩, hS7.pick [0] rfl rfl⟩
    replace h := bcF h hc20
    refine LW.gY (want_of rfl rfl hc20) ?_
    refine LW.u (Pur.fa fo75_6 rfl) rfl ?_
    refine LW.gY (want_of rfl rfl hc20) ?_
    refine LW.ldb hS7 0 rfl ag3 rfl rfl rfl ?_
    replace h := obind h
    obtain ⟨y21, hy21, h⟩ := h
    have q := W_s_l1In (w0 := w19) hy21
    refine LW.gY (want_of rfl rfl hc20) ?_
    refine LW.call pl81 rfl rfl ?_
    refine Ret.mono q ?_
    rintro _ w22 ⟨rfl, hs⟩
    have hS8 := hS7.add hs
    refine LW.gY (want_of rfl rfl hc20) ?_
    refine LW.p rfl rfl ?_
    refine LW.u (Pur.pickF rfl hc20) rfl ?_
    refine LW.p rfl rfl ?_
    rcases bcases (!y21) with hc23 | hc23
    · replace h := bcT h hc23
      refine LW.fresh (l := [(1, .pointer (some ⟨g1, 0, none⟩)), (44, .bool (!y21))]) ⟨rfl, rfl, trivial⟩ (fun e => ?_)
      refine LW.gN (want_not rfl rfl hc23) rfl ?_
      refine LW.gN (want_not rfl rfl hc23) rfl ?_
      refine LW.gN (want_not rfl rfl hc23) rfl ?_
      refine LW.gN (want_not rfl rfl hc23) rfl ?_
      refine LW.u (Pur.pickT rfl hc23) rfl ?_
      refine LW.p rfl rfl ?_
      refine LW.gN (want_not rfl rfl rfl) rfl ?_
      refine LW.gN (want_not rfl rfl rfl) rfl ?_
      refine LW.gN (want_not rfl rfl rfl) rfl ?_
      refine LW.gN (want_not rfl rfl rfl) rfl ?_
      refine LW.u (Pur.pickT rfl rfl) rfl ?_
      refine LW.p rfl rfl ?_
      refine LW.gN (want_not rfl rfl rfl) rfl ?_
      refine LW.gN (want_not rfl rfl rfl) rfl ?_
      refine LW.gN (want_not rfl rfl rfl) rfl ?_
      refine LW.gN (want_not rfl rfl rfl) rfl ?_
      refine LW.u (Pur.pickT rfl rfl) rfl ?_
      refine LW.nil ?_
      replace h := Option.some.inj h
      subst h
      exact ⟨⟨rfl, rfl, trivial⟩, hS8.pick [0] rfl rfl⟩
    replace h := bcF h hc23
    refine LW.fresh (l := [(1, .pointer (some ⟨g1, 0, none⟩)), (44, .bool (!y21))]) ⟨rfl, rfl, trivial⟩ (fun e => ?_)
    refine LW.gY (want_of rfl rfl hc23) ?_
    refine LW.u (Pur.fa fo75_7 rfl) rfl ?_
    refine LW.gY (want_of rfl rfl hc23) ?_
    refine LW.ldbN hS8 0 rfl ag73 rfl rfl rfl ?_
    replace h := obind h
    obtain ⟨y24, hy24, h⟩ := h
    have q := W_s_AmtOk (w0 := w22) hy24
    refine LW.gY (want_of rfl rfl hc23) ?_
    refine LW.call pl83 rfl rfl ?_
    refine Ret.mono q ?_
    rintro _ w25 ⟨rfl, hs⟩
    have hS9 := hS8.add hs
    refine LW.gY (want_of rfl rfl hc23) ?_
    refine LW.p rfl rfl ?_
    refine LW.u (Pur.pickF rfl hc23) rfl ?_
    refine LW.p rfl rfl ?_
    rcases bcases (!y24) with hc26 | hc26
    · replace h := bcT h hc26
      refine LW.gN (want_not rfl rfl hc26) rfl ?_
      refine LW.gN (want_not rfl rfl hc26) rfl ?_
      refine LW.gN (want_not rfl rfl hc26) rfl ?_
      refine LW.gN (want_not rfl rfl hc26) rfl ?_
      refine LW.u (Pur.pickT rfl hc26) rfl ?_
      refine LW.p rfl rfl ?_
      refine LW.gN (want_not rfl rfl rfl) rfl ?_
      refine LW.gN (want_not rfl rfl rfl) rfl ?_
      refine LW.gN (want_not rfl rfl rfl) rfl ?_
      refine LW.gN (want_not rfl rfl rfl) rfl ?_
      refine LW.u (Pur.pickT rfl rfl) rfl ?_
      refine LW.nil ?_
      replace h := Option.some.inj h
      subst h
      exact ⟨⟨rfl, rfl, trivial⟩, hS9.pick [0] rfl rfl⟩
    replace h := bcF h hc26
    refine LW.gY (want_of rfl rfl hc26) ?_
    refine LW.u (Pur.fa fo75_8 rfl) rfl ?_
    refine LW.gY (want_of rfl rfl hc26) ?_
    refine LW.ldb hS9 0 rfl ag3 rfl rfl rfl ?_
    replace h := obind h
    obtain ⟨y27, hy27, h⟩ := h
    have q := W_s_l1In (w0 := w25) hy27
    refine LW.gY (want_of rfl rfl hc26) ?_
    refine LW.call pl81 rfl rfl ?_
    refine Ret.mono q ?_
    rintro _ w28 ⟨rfl, hs⟩
    have hS10 := hS9.add hs
    refine LW.gY (want_of rfl rfl hc26) ?_
    refine LW.p rfl rfl ?_
    refine LW.u (Pur.pickF rfl hc26) rfl ?_
    refine LW.p rfl rfl ?_
    rcases bcases (!y27) with hc29 | hc29
    · replace h := bcT h hc29
      refine LW.gN (want_not rfl rfl hc29) rfl ?_
      refine LW.gN (want_not rfl rfl hc29) rfl ?_
      refine LW.gN (want_not rfl rfl hc29) rfl ?_
      refine LW.gN (want_not rfl rfl hc29) rfl ?_
      refine LW.u (Pur.pickT rfl hc29) rfl ?_
      refine LW.nil ?_
      replace h := Option.some.inj h
      subst h
      exact ⟨⟨rfl, rfl, trivial⟩, hS10.pick [0] rfl rfl⟩
    replace h := bcF h hc29
    refine LW.gY (want_of rfl rfl hc29) ?_
    refine LW.u (Pur.fa fo75_9 rfl) rfl ?_
    refine LW.gY (want_of rfl rfl hc29) ?_
    refine LW.ldb hS10 0 rfl ag3 rfl rfl rfl ?_
    replace h := obind h
    obtain ⟨y30, hy30, h⟩ := h
    have q := W_s_l1In (w0 := w28) hy30
    refine LW.gY (want_of rfl rfl hc29) ?_
    refine LW.call pl81 rfl rfl ?_
    refine Ret.mono q ?_
    rintro _ w31 ⟨rfl, hs⟩
    have hS11 := hS10.add hs
    refine LW.gY (want_of rfl rfl hc29) ?_
    refine LW.p rfl rfl ?_
    refine LW.u (Pur.pickF rfl hc29) rfl ?_
    refine LW.nil ?_
    replace h := Option.some.inj h
    subst h
    exact ⟨⟨rfl, rfl, trivial⟩, hS11.pick [0] rfl rfl⟩
  intro e w32 hM
  obtain ⟨hE, hS12⟩ := hM
  obtain ⟨e, rfl⟩ := hE.out
  have h := h4
  show CW _ _ _ _ _ _
  refine CW.cond rfl (fun hc33 => ?_) (fun hc33 => ?_)
  · replace h := bcT h hc33
    refine CW.seq ?_
    refine CW.region ?_
    refine LW.p rfl rfl ?_
    refine LW.nil ?_
    show CW _ _ _ _ _ _
    refine CW.ret ?_
    cases h
    exact And.intro trivial ⟨_, Res.one (resOne.t rfl), rfl, hS12.pick [] rfl rfl⟩
  replace h := bcF h hc33
  refine CW.skip ?_
  show CW _ _ _ _ _ _
  refine CW.seq ?_
  refine CW.seq ?_
  refine CW.region ?_
  refine LW.p rfl rfl ?_
  refine LW.nil ?_
  show CW _ _ _ _ _ _
  refine CW.block ?_
  obtain ⟨o49, ho49, h50⟩ := obind h
  refine CW.mono (CW.iter (σ := Int) (ρ := Int ⊕ Bool) (fun s34 e wb => En e [(1, .pointer (some ⟨g1, 0, none⟩)), (3, .int .i64 s34)] ∧ St w0 [] wb [bx g1 75 [.slice a0_0 x0.label.levels.length c0_0, .slice a0_1 x0.own.length c0_1, .slice a0_2 x0.tree.length c0_2, .slice a0_3 x0.heap.arena.length c0_3, .int .i64 x0.heap.gc.phase, .int .i64 x0.heap.gc.pos, .int .i64 x0.heap.gc.round, .slice a0_7 x0.heap.gc.grey.length c0_7, .slice a0_8 x0.taps.length c0_8, .int .i64 x0.next, .int .i64 x0.want, .int .i64 x0.spent.pages, .int .i64 x0.spent.rent, .int .i64 x0.spent.cpu, .int .i64 x0.press, .int .i64 x0.lost]]) (fun o x e wb => match o with | .inl s34 => x = .exit 0 ∧ En e [] ∧ St w0 [] wb [bx g1 75 [.slice a0_0 x0.label.levels.length c0_0, .slice a0_1 x0.own.length c0_1, .slice a0_2 x0.tree.length c0_2, .slice a0_3 x0.heap.arena.length c0_3, .int .i64 x0.heap.gc.phase, .int .i64 x0.heap.gc.pos, .int .i64 x0.heap.gc.round, .slice a0_7 x0.heap.gc.grey.length c0_7, .slice a0_8 x0.taps.length c0_8, .int .i64 x0.next, .int .i64 x0.want, .int .i64 x0.spent.pages, .int .i64 x0.spent.rent, .int .i64 x0.spent.cpu, .int .i64 x0.press, .int .i64 x0.lost]] | .inr r => x = .ret ∧ ∃ u, u = r ∧ ∃ v, Res Try.prog Try.f82.results e wb v ∧ v = .bool u ∧ St w0 [] wb []) ?_ N 0 _ _ _ ⟨⟨rfl, rfl, trivial⟩, hS12.pick [0] rfl rfl⟩ ho49) ?_
  · intro s34 e w35 o hM h
    obtain ⟨hE, hS13⟩ := hM
    obtain ⟨e, rfl⟩ := hE.out
    refine CW.seq ?_
    refine CW.seq ?_
    refine CW.region ?_
    refine LW.p rfl rfl ?_
    refine LW.u (Pur.fa fo75_4 rfl) rfl ?_
    refine LW.ldb hS13 0 rfl ag72 rfl rfl rfl ?_
    refine LW.u (Pur.len Try.underlying72 rfl) rfl ?_
    refine LW.p rfl rfl ?_
    refine LW.nil ?_
    show CW _ _ _ _ _ _
    refine CW.cond rfl (fun hc36 => ?_) (fun hc36 => ?_)
    · replace h := bcT h hc36
      refine CW.skip ?_
      show CW _ _ _ _ _ _
      refine CW.seq ?_
      refine CW.block ?_
      refine CW.seq ?_
      refine CW.region ?_
      refine LW.u (Pur.fa fo75_4 rfl) rfl ?_
      refine LW.ldb hS13 0 rfl ag72 rfl rfl rfl ?_
      refine LW.p rfl rfl ?_
      replace h := obind h
      obtain ⟨y37, hy37, h⟩ := h
      obtain ⟨b40, o41, cs42, hae, hb45, hp38, hq39, hd43, hk44⟩ := hr0_8.idx hy37
      subst hae
      obtain rfl := hd43
      refine LW.u (Pur.ix Try.underlying72 sz158 rfl rfl hp38 hq39) rfl ?_
      refine LW.l (Ldr.oldN w0 ag158 rfl rfl (fun j u hu => hk44 j u hu)) (hS13.same _ hb45.1 hb45.2) rfl ?_
      replace h := obind h
      obtain ⟨y46, hy46, h⟩ := h
      have q := W_s_TapOk (w0 := w35) hy46
      refine LW.call pl147 rfl rfl ?_
      refine Ret.mono q ?_
      rintro _ w47 ⟨rfl, hs⟩
      have hS14 := hS13.add hs
      refine LW.p rfl rfl ?_
      refine LW.nil ?_
      show CW _ _ _ _ _ _
      refine CW.fresh (l := [(1, .pointer (some ⟨g1, 0, none⟩)), (3, .int .i64 s34), (75, .bool (!y46))]) ⟨rfl, rfl, rfl, trivial⟩ (fun e => ?_)
      refine CW.cond rfl (fun hc48 => ?_) (fun hc48 => ?_)
      · replace h := bcT h hc48
        refine CW.seq ?_
        refine CW.region ?_
        refine LW.p rfl rfl ?_
        refine LW.nil ?_
        show CW _ _ _ _ _ _
        refine CW.ret ?_
        replace h := Option.some.inj h
        subst h
        exact ⟨trivial, rfl, _, rfl, ⟨_, Res.one (resOne.t rfl), rfl, hS14.pick [] rfl rfl⟩⟩
      replace h := bcF h hc48
      refine CW.skip ?_
      show CW _ _ _ _ _ _
      refine CW.region ?_
      iterate 3 refine LW.p rfl rfl ?_
      refine LW.nil ?_
      replace h := Option.some.inj h
      subst h
      exact ⟨rfl, ⟨⟨rfl, rfl, trivial⟩, hS14.pick [0] rfl rfl⟩⟩
    replace h := bcF h hc36
    refine CW.exit ?_
    replace h := Option.some.inj h
    subst h
    exact ⟨trivial, rfl, ⟨trivial, hS13.pick [0] rfl rfl⟩⟩
  intro x e w51 hM
  rcases o49 with o49 | r52
  · obtain ⟨rfl, hM⟩ := hM
    obtain ⟨hE, hS15⟩ := hM
    obtain ⟨e, rfl⟩ := hE.out
    have h := h50
    show CW _ _ _ _ _ _
    refine CW.seq ?_
    refine CW.region ?_
    refine LW.p rfl rfl ?_
    refine LW.nil ?_
    show CW _ _ _ _ _ _
    refine CW.ret ?_
    cases h
    exact And.intro trivial ⟨_, Res.one (resOne.t rfl), rfl, hS15.pick [] rfl rfl⟩
  obtain ⟨rfl, u, rfl, hM⟩ := hM
  cases h50
  exact And.intro trivial hM

theorem W_i_isPart {w0 : World} {N : Nat} {x0 : Int} {r : Bool} (h : F_i_isPart N x0 = some r) :
    Ret Try.prog 186 #[.int .i64 x0] w0 (fun v w => v = .bool r ∧ St w0 [] w []) := by
  unfold F_i_isPart at h
  refine Ret.of Try.func186 rfl rfl rfl ?_
  have hS1 := St.start w0
  refine CW.seq ?_
  refine CW.region ?_
  refine LW.p rfl rfl ?_
  refine LW.nil ?_
  show CW _ _ _ _ _ _
  refine CW.seq ?_
  refine CW.region ?_
  refine LW.p rfl rfl ?_
  replace h := obind h
  obtain ⟨y1, hy1, h⟩ := h
  have q := W_i_within (w0 := w0) hy1
  refine LW.call pl86 rfl rfl ?_
  refine Ret.mono q ?_
  rintro _ w2 ⟨rfl, hs⟩
  have hS2 := hS1.add hs
  refine LW.p rfl rfl ?_
  refine LW.nil ?_
  show CW _ _ _ _ _ _
  refine CW.ret ?_
  cases h
  exact And.intro trivial ⟨_, Res.one (resOne.t rfl), rfl, hS2.pick [] rfl rfl⟩

theorem W_i_TapOk {w0 : World} {N : Nat} {x0 : DTap} {r : Bool} (h : F_i_TapOk N x0 = some r) :
    Ret Try.prog 150 #[.agg #[.int .i64 x0.res, .int .i64 x0.toPart, .int .i64 x0.toRes, .int .i64 x0.which, .int .i64 x0.kind, .int .i64 x0.rate]] w0 (fun v w => v = .bool r ∧ St w0 [] w []) := by
  unfold F_i_TapOk at h
  refine Ret.of Try.func150 rfl rfl rfl ?_
  have hS1 := St.start w0
  refine CW.seq ?_
  refine CW.region ?_
  refine LW.box (cs := [.int .i64 x0.res, .int .i64 x0.toPart, .int .i64 x0.toRes, .int .i64 x0.which, .int .i64 x0.kind, .int .i64 x0.rate]) rfl hS1 rfl ?_
  intro g1 w2 hS2 hf
  refine LW.p rfl rfl ?_
  refine LW.nil ?_
  show CW _ _ _ _ _ _
  refine CW.seq ?_
  refine CW.seq ?_
  obtain ⟨j3, hj3, h4⟩ := obind h
  refine CW.cut (fun e wb => En e [(1, .pointer (some ⟨g1, 0, none⟩)), (24, .bool j3)] ∧ St w0 [] wb [bx g1 158 [.int .i64 x0.res, .int .i64 x0.toPart, .int .i64 x0.toRes, .int .i64 x0.which, .int .i64 x0.kind, .int .i64 x0.rate]]) ?_ ?_
  · have h := hj3
    refine CW.region ?_
    refine LW.u (Pur.fa fo158_0 rfl) rfl ?_
    refine LW.ldb hS2 0 rfl ag3 rfl rfl rfl ?_
    replace h := obind h
    obtain ⟨y5, hy5, h⟩ := h
    have q := W_i_isPlace (w0 := w2) hy5
    refine LW.call pl185 rfl rfl ?_
    refine Ret.mono q ?_
    rintro _ w6 ⟨rfl, hs⟩
    have hS3 := hS2.add hs
    iterate 2 refine LW.p rfl rfl ?_
    rcases bcases (!y5) with hc7 | hc7
    · replace h := bcT h hc7
      refine LW.gN (want_not rfl rfl hc7) rfl ?_
      refine LW.gN (want_not rfl rfl hc7) rfl ?_
      refine LW.gN (want_not rfl rfl hc7) rfl ?_
      refine LW.gN (want_not rfl rfl hc7) rfl ?_
      refine LW.u (Pur.pickT rfl hc7) rfl ?_
      refine LW.p rfl rfl ?_
      refine LW.gN (want_not rfl rfl rfl) rfl ?_
      refine LW.gN (want_not rfl rfl rfl) rfl ?_
      refine LW.gN (want_not rfl rfl rfl) rfl ?_
      refine LW.gN (want_not rfl rfl rfl) rfl ?_
      refine LW.u (Pur.pickT rfl rfl) rfl ?_
      refine LW.p rfl rfl ?_
      refine LW.gN (want_not rfl rfl rfl) rfl ?_
      refine LW.gN (want_not rfl rfl rfl) rfl ?_
      refine LW.gN (want_not rfl rfl rfl) rfl ?_
      refine LW.gN (want_not rfl rfl rfl) rfl ?_
      refine LW.u (Pur.pickT rfl rfl) rfl ?_
      refine LW.nil ?_
      replace h := Option.some.inj h
      subst h
      exact ⟨⟨rfl, rfl, trivial⟩, hS3.pick [0] rfl rfl⟩
    replace h := bcF h hc7
    refine LW.gY (want_of rfl rfl hc7) ?_
    refine LW.u (Pur.fa fo158_2 rfl) rfl ?_
    refine LW.gY (want_of rfl rfl hc7) ?_
    refine LW.ldb hS3 0 rfl ag3 rfl rfl rfl ?_
    replace h := obind h
    obtain ⟨y8, hy8, h⟩ := h
    have q := W_i_isPlace (w0 := w6) hy8
    refine LW.gY (want_of rfl rfl hc7) ?_
    refine LW.call pl185 rfl rfl ?_
    refine Ret.mono q ?_
    rintro _ w9 ⟨rfl, hs⟩
    have hS4 := hS3.add hs
    refine LW.gY (want_of rfl rfl hc7) ?_
    refine LW.p rfl rfl ?_
    refine LW.u (Pur.pickF rfl hc7) rfl ?_
    refine LW.p rfl rfl ?_
    rcases bcases (!y8) with hc10 | hc10
    · replace h := bcT h hc10
      refine LW.gN (want_not rfl rfl hc10) rfl ?_
      refine LW.gN (want_not rfl rfl hc10) rfl ?_
      refine LW.gN (want_not rfl rfl hc10) rfl ?_
      refine LW.gN (want_not rfl rfl hc10) rfl ?_
      refine LW.u (Pur.pickT rfl hc10) rfl ?_
      refine LW.p rfl rfl ?_
      refine LW.gN (want_not rfl rfl rfl) rfl ?_
      refine LW.gN (want_not rfl rfl rfl) rfl ?_
      refine LW.gN (want_not rfl rfl rfl) rfl ?_
      refine LW.gN (want_not rfl rfl rfl) rfl ?_
      refine LW.fresh (l := [(1, .pointer (some ⟨g1, 0, none⟩)), (19, .bool true), (23, undef)]) ⟨rfl, rfl, rfl, trivial⟩ (fun e => ?_)
      refine LW.u (Pur.pickT rfl rfl) rfl ?_
      refine LW.nil ?_
      replace h := Option.some.inj h
      subst h
      exact ⟨⟨rfl, rfl, trivial⟩, hS4.pick [0] rfl rfl⟩
    replace h := bcF h hc10
    refine LW.gY (want_of rfl rfl hc10) ?_
    refine LW.u (Pur.fa fo158_1 rfl) rfl ?_
    refine LW.gY (want_of rfl rfl hc10) ?_
    refine LW.ldb hS4 0 rfl ag3 rfl rfl rfl ?_
    replace h := obind h
    obtain ⟨y11, hy11, h⟩ := h
    have q := W_i_isPart (w0 := w9) hy11
    refine LW.gY (want_of rfl rfl hc10) ?_
    refine LW.call pl186 rfl rfl ?_
    refine Ret.mono q ?_
    rintro _ w12 ⟨rfl, hs⟩
    have hS5 := hS4.add hs
    refine LW.gY (want_of rfl rfl hc10) ?_
    refine LW.p rfl rfl ?_
    refine LW.u (Pur.pickF rfl hc10) rfl ?_
    refine LW.p rfl rfl ?_
    rcases bcases (!y11) with hc13 | hc13
    · replace h := bcT h hc13
      refine LW.gN (want_not rfl rfl hc13) rfl ?_
      refine LW.gN (want_not rfl rfl hc13) rfl ?_
      refine LW.gN (want_not rfl rfl hc13) rfl ?_
      refine LW.fresh (l := [(1, .pointer (some ⟨g1, 0, none⟩)), (19, .bool (!y11)), (22, undef)]) ⟨rfl, rfl, rfl, trivial⟩ (fun e => ?_)
      refine LW.gN (want_not rfl rfl hc13) rfl ?_
      refine LW.u (Pur.pickT rfl hc13) rfl ?_
      refine LW.nil ?_
      replace h := Option.some.inj h
      subst h
      exact ⟨⟨rfl, rfl, trivial⟩, hS5.pick [0] rfl rfl⟩
    replace h := bcF h hc13
    refine LW.gY (want_of rfl rfl hc13) ?_
    refine LW.u (Pur.fa fo158_3 rfl) rfl ?_
    refine LW.gY (want_of rfl rfl hc13) ?_
    refine LW.ldb hS5 0 rfl ag3 rfl rfl rfl ?_
    replace h := obind h
    obtain ⟨y14, hy14, h⟩ := h
    have q := W_i_within (w0 := w12) hy14
    refine LW.gY (want_of rfl rfl hc13) ?_
    refine LW.call pl86 rfl rfl ?_
    refine Ret.mono q ?_
    rintro _ w15 ⟨rfl, hs⟩
    have hS6 := hS5.add hs
    refine LW.fresh (l := [(1, .pointer (some ⟨g1, 0, none⟩)), (19, .bool (!y11)), (22, .bool y14)]) ⟨rfl, rfl, rfl, trivial⟩ (fun e => ?_)
    refine LW.gY (want_of rfl rfl hc13) ?_
    refine LW.p rfl rfl ?_
    refine LW.u (Pur.pickF rfl hc13) rfl ?_
    refine LW.nil ?_
    replace h := Option.some.inj h
    subst h
    exact ⟨⟨rfl, rfl, trivial⟩, hS6.pick [0] rfl rfl⟩
  intro e w16 hM
  obtain ⟨hE, hS7⟩ := hM
  obtain ⟨e, rfl⟩ := hE.out
  have h := h4
  show CW _ _ _ _ _ _
  refine CW.cond rfl (fun hc17 => ?_) (fun hc17 => ?_)
  · replace h := bcT h hc17
    refine CW.seq ?_
    refine CW.region ?_
    refine LW.p rfl rfl ?_
    refine LW.nil ?_
    show CW _ _ _ _ _ _
    refine CW.ret ?_
    cases h
    exact And.intro trivial ⟨_, Res.one (resOne.t rfl), rfl, hS7.pick [] rfl rfl⟩
  replace h := bcF h hc17
  refine CW.skip ?_
  show CW _ _ _ _ _ _
  refine CW.seq ?_
  refine CW.region ?_
  refine LW.u (Pur.fa fo158_4 rfl) rfl ?_
  refine LW.ldb hS7 0 rfl ag3 rfl rfl rfl ?_
  iterate 2 refine LW.p rfl rfl ?_
  rcases bcases (x0.kind == 1) with hc18 | hc18
  · replace h := bcT h hc18
    refine LW.gY (want_of rfl rfl hc18) ?_
    refine LW.u (Pur.fa fo158_5 rfl) rfl ?_
    refine LW.gY (want_of rfl rfl hc18) ?_
    refine LW.ldb hS7 0 rfl ag3 rfl rfl rfl ?_
    replace h := obind h
    obtain ⟨y19, hy19, h⟩ := h
    have q := W_i_within (w0 := w16) hy19
    refine LW.gY (want_of rfl rfl hc18) ?_
    refine LW.call pl86 rfl rfl ?_
    refine Ret.mono q ?_
    rintro _ w20 ⟨rfl, hs⟩
    have hS8 := hS7.add hs
    refine LW.u (Pur.pickT rfl hc18) rfl ?_
    refine LW.p rfl rfl ?_
    rcases bcases y19 with hc21 | hc21
    · replace h := bcT h hc21
      refine LW.gN (want_not rfl rfl hc21) rfl ?_
      refine LW.gN (want_not rfl rfl hc21) rfl ?_
      refine LW.gN (want_not rfl rfl hc21) rfl ?_
      refine LW.gN (want_not rfl rfl hc21) rfl ?_
      refine LW.gN (want_undef rfl rfl) rfl ?_
      refine LW.gN (want_undef rfl rfl) rfl ?_
      refine LW.gN (want_undef rfl rfl) rfl ?_
      refine LW.gN (want_not rfl rfl hc21) rfl ?_
      refine LW.u (Pur.pickT rfl hc21) rfl ?_
      refine LW.p rfl rfl ?_
      refine LW.nil ?_
      show CW _ _ _ _ _ _
      refine CW.fresh (l := [(2, .bool true)]) ⟨rfl, trivial⟩ (fun e => ?_)
      refine CW.ret ?_
      cases h
      exact And.intro trivial ⟨_, Res.one (resOne.t rfl), rfl, hS8.pick [] rfl rfl⟩
    replace h := bcF h hc21
    refine LW.gY (want_of rfl rfl hc21) ?_
    refine LW.u (Pur.fa fo158_4 rfl) rfl ?_
    refine LW.gY (want_of rfl rfl hc21) ?_
    refine LW.ldb hS8 0 rfl ag3 rfl rfl rfl ?_
    refine LW.gY (want_of rfl rfl hc21) ?_
    refine LW.p rfl rfl ?_
    refine LW.gY (want_of rfl rfl hc21) ?_
    refine LW.p rfl rfl ?_
    rcases bcases (x0.kind == 2) with hc22 | hc22
    · replace h := bcT h hc22
      refine LW.gY (want_of rfl rfl hc22) ?_
      refine LW.u (Pur.fa fo158_5 rfl) rfl ?_
      refine LW.gY (want_of rfl rfl hc22) ?_
      refine LW.ldb hS8 0 rfl ag3 rfl rfl rfl ?_
      replace h := obind h
      obtain ⟨y23, hy23, h⟩ := h
      have q := W_i_within (w0 := w20) hy23
      refine LW.gY (want_of rfl rfl hc22) ?_
      refine LW.call pl86 rfl rfl ?_
      refine Ret.mono q ?_
      rintro _ w24 ⟨rfl, hs⟩
      have hS9 := hS8.add hs
      refine LW.gY (want_of rfl rfl hc21) ?_
      refine LW.u (Pur.pickT rfl hc22) rfl ?_
      refine LW.u (Pur.pickF rfl hc21) rfl ?_
      refine LW.p rfl rfl ?_
      refine LW.nil ?_
      show CW _ _ _ _ _ _
      refine CW.fresh (l := [(2, .bool y23)]) ⟨rfl, trivial⟩ (fun e => ?_)
      refine CW.ret ?_
      cases h
      exact And.intro trivial ⟨_, Res.one (resOne.t rfl), rfl, hS9.pick [] rfl rfl⟩
    replace h := bcF h hc22
    refine LW.gN (want_not rfl rfl hc22) rfl ?_
    refine LW.gN (want_not rfl rfl hc22) rfl ?_
    refine LW.gN (want_not rfl rfl hc22) rfl ?_
    refine LW.gY (want_of rfl rfl hc21) ?_
    refine LW.u (Pur.pickF rfl hc22) rfl ?_
    refine LW.u (Pur.pickF rfl hc21) rfl ?_
    refine LW.p rfl rfl ?_
    refine LW.nil ?_
    show CW _ _ _ _ _ _
    refine CW.fresh (l := [(2, .bool false)]) ⟨rfl, trivial⟩ (fun e => ?_)
    refine CW.ret ?_
    cases h
    exact And.intro trivial ⟨_, Res.one (resOne.t rfl), rfl, hS8.pick [] rfl rfl⟩
  replace h := bcF h hc18
  refine LW.gN (want_not rfl rfl hc18) rfl ?_
  refine LW.gN (want_not rfl rfl hc18) rfl ?_
  refine LW.gN (want_not rfl rfl hc18) rfl ?_
  refine LW.u (Pur.pickF rfl hc18) rfl ?_
  refine LW.p rfl rfl ?_
  refine LW.gY (want_of rfl rfl rfl) ?_
  refine LW.u (Pur.fa fo158_4 rfl) rfl ?_
  refine LW.gY (want_of rfl rfl rfl) ?_
  refine LW.ldb hS7 0 rfl ag3 rfl rfl rfl ?_
  refine LW.gY (want_of rfl rfl rfl) ?_
  refine LW.p rfl rfl ?_
  refine LW.gY (want_of rfl rfl rfl) ?_
  refine LW.p rfl rfl ?_
  rcases bcases (x0.kind == 2) with hc25 | hc25
  · replace h := bcT h hc25
    refine LW.gY (want_of rfl rfl hc25) ?_
    refine LW.u (Pur.fa fo158_5 rfl) rfl ?_
    refine LW.gY (want_of rfl rfl hc25) ?_
    refine LW.ldb hS7 0 rfl ag3 rfl rfl rfl ?_
    replace h := obind h
    obtain ⟨y26, hy26, h⟩ := h
    have q := W_i_within (w0 := w16) hy26
    refine LW.gY (want_of rfl rfl hc25) ?_
    refine LW.call pl86 rfl rfl ?_
    refine Ret.mono q ?_
    rintro _ w27 ⟨rfl, hs⟩
    have hS10 := hS7.add hs
    refine LW.gY (want_of rfl rfl rfl) ?_
    refine LW.u (Pur.pickT rfl hc25) rfl ?_
    refine LW.u (Pur.pickF rfl rfl) rfl ?_
    refine LW.p rfl rfl ?_
    refine LW.nil ?_
    show CW _ _ _ _ _ _
    refine CW.fresh (l := [(2, .bool y26)]) ⟨rfl, trivial⟩ (fun e => ?_)
    refine CW.ret ?_
    cases h
    exact And.intro trivial ⟨_, Res.one (resOne.t rfl), rfl, hS10.pick [] rfl rfl⟩
  replace h := bcF h hc25
  refine LW.gN (want_not rfl rfl hc25) rfl ?_
  refine LW.gN (want_not rfl rfl hc25) rfl ?_
  refine LW.gN (want_not rfl rfl hc25) rfl ?_
  refine LW.gY (want_of rfl rfl rfl) ?_
  refine LW.u (Pur.pickF rfl hc25) rfl ?_
  refine LW.u (Pur.pickF rfl rfl) rfl ?_
  refine LW.p rfl rfl ?_
  refine LW.nil ?_
  show CW _ _ _ _ _ _
  refine CW.fresh (l := [(2, .bool false)]) ⟨rfl, trivial⟩ (fun e => ?_)
  refine CW.ret ?_
  cases h
  exact And.intro trivial ⟨_, Res.one (resOne.t rfl), rfl, hS7.pick [] rfl rfl⟩

theorem W_i_PartOk {w0 : World} {N : Nat} {x0 : DPart} {r : Bool} (h : F_i_PartOk N x0 = some r) {a0_0 : Option Addr} {n0_0 c0_0 : Nat} (hn0_0 : n0_0 = x0.label.levels.length) (hr0_0 : rdS (Bor w0 []) w0 a0_0 c0_0 x0.label.levels) {a0_1 : Option Addr} {n0_1 c0_1 : Nat} (hn0_1 : n0_1 = x0.own.length) (hr0_1 : rdS (Bor w0 []) w0 a0_1 c0_1 x0.own) {a0_2 : Option Addr} {n0_2 c0_2 : Nat} (hn0_2 : n0_2 = x0.tree.length) (hr0_2 : rdS (Bor w0 []) w0 a0_2 c0_2 x0.tree) {a0_3 : Option Addr} {n0_3 c0_3 : Nat} (hn0_3 : n0_3 = x0.heap.arena.length) (hr0_3 : rdS (Bor w0 []) w0 a0_3 c0_3 x0.heap.arena) {a0_7 : Option Addr} {n0_7 c0_7 : Nat} (hn0_7 : n0_7 = x0.heap.gc.grey.length) (hr0_7 : rdS (Bor w0 []) w0 a0_7 c0_7 x0.heap.gc.grey) {a0_8 : Option Addr} {n0_8 c0_8 : Nat} (hn0_8 : n0_8 = x0.taps.length) (hr0_8 : rdS (Bor w0 []) w0 a0_8 c0_8 x0.taps) :
    Ret Try.prog 87 #[.agg #[.slice a0_0 n0_0 c0_0, .slice a0_1 n0_1 c0_1, .slice a0_2 n0_2 c0_2, .slice a0_3 n0_3 c0_3, .int .i64 x0.heap.gc.phase, .int .i64 x0.heap.gc.pos, .int .i64 x0.heap.gc.round, .slice a0_7 n0_7 c0_7, .slice a0_8 n0_8 c0_8, .int .i64 x0.next, .int .i64 x0.want, .int .i64 x0.spent.pages, .int .i64 x0.spent.rent, .int .i64 x0.spent.cpu, .int .i64 x0.press, .int .i64 x0.lost]] w0 (fun v w => v = .bool r ∧ St w0 [] w []) := by
  subst hn0_0
  subst hn0_1
  subst hn0_2
  subst hn0_3
  subst hn0_7
  subst hn0_8
  unfold F_i_PartOk at h
  refine Ret.of Try.func87 rfl rfl rfl ?_
  have hS1 := St.start w0
  refine CW.seq ?_
  refine CW.region ?_
  refine LW.box (cs := [.slice a0_0 x0.label.levels.length c0_0, .slice a0_1 x0.own.length c0_1, .slice a0_2 x0.tree.length c0_2, .slice a0_3 x0.heap.arena.length c0_3, .int .i64 x0.heap.gc.phase, .int .i64 x0.heap.gc.pos, .int .i64 x0.heap.gc.round, .slice a0_7 x0.heap.gc.grey.length c0_7, .slice a0_8 x0.taps.length c0_8, .int .i64 x0.next, .int .i64 x0.want, .int .i64 x0.spent.pages, .int .i64 x0.spent.rent, .int .i64 x0.spent.cpu, .int .i64 x0.press, .int .i64 x0.lost]) rfl hS1 rfl ?_
  intro g1 w2 hS2 hf
  refine LW.p rfl rfl ?_
  refine LW.nil ?_
  show CW _ _ _ _ _ _
  refine CW.seq ?_
  refine CW.seq ?_
  refine CW.region ?_
  refine LW.u (Pur.fa fo75_4 rfl) rfl ?_
  refine LW.ldb hS2 0 rfl ag72 rfl rfl rfl ?_
  refine LW.u (Pur.len Try.underlying72 rfl) rfl ?_
  refine LW.p rfl rfl ?_
  refine LW.nil ?_
  show CW _ _ _ _ _ _
  refine CW.block ?_
  obtain ⟨o21, ho21, h22⟩ := obind h
  refine CW.mono (CW.iter (σ := Int) (ρ := Int ⊕ Bool) (fun s3 e wb => En e [(1, .pointer (some ⟨g1, 0, none⟩)), (6, .slice a0_8 x0.taps.length c0_8), (7, .int .i64 (x0.taps.length : Int)), (8, .int .i64 s3)] ∧ St w0 [] wb [bx g1 75 [.slice a0_0 x0.label.levels.length c0_0, .slice a0_1 x0.own.length c0_1, .slice a0_2 x0.tree.length c0_2, .slice a0_3 x0.heap.arena.length c0_3, .int .i64 x0.heap.gc.phase, .int .i64 x0.heap.gc.pos, .int .i64 x0.heap.gc.round, .slice a0_7 x0.heap.gc.grey.length c0_7, .slice a0_8 x0.taps.length c0_8, .int .i64 x0.next, .int .i64 x0.want, .int .i64 x0.spent.pages, .int .i64 x0.spent.rent, .int .i64 x0.spent.cpu, .int .i64 x0.press, .int .i64 x0.lost]]) (fun o x e wb => match o with | .inl s3 => x = .exit 0 ∧ En e [(1, .pointer (some ⟨g1, 0, none⟩))] ∧ St w0 [] wb [bx g1 75 [.slice a0_0 x0.label.levels.length c0_0, .slice a0_1 x0.own.length c0_1, .slice a0_2 x0.tree.length c0_2, .slice a0_3 x0.heap.arena.length c0_3, .int .i64 x0.heap.gc.phase, .int .i64 x0.heap.gc.pos, .int .i64 x0.heap.gc.round, .slice a0_7 x0.heap.gc.grey.length c0_7, .slice a0_8 x0.taps.length c0_8, .int .i64 x0.next, .int .i64 x0.want, .int .i64 x0.spent.pages, .int .i64 x0.spent.rent, .int .i64 x0.spent.cpu, .int .i64 x0.press, .int .i64 x0.lost]] | .inr r => x = .ret ∧ ∃ u, u = r ∧ ∃ v, Res Try.prog Try.f87.results e wb v ∧ v = .bool u ∧ St w0 [] wb []) ?_ N 0 _ _ _ ⟨⟨rfl, rfl, rfl, rfl, trivial⟩, hS2.pick [0] rfl rfl⟩ ho21) ?_
  · intro s3 e w4 o hM h
    obtain ⟨hE, hS3⟩ := hM
    obtain ⟨e, rfl⟩ := hE.out
    refine CW.seq ?_
    refine CW.region ?_
    refine LW.p rfl rfl ?_
    refine LW.nil ?_
    show CW _ _ _ _ _ _
    refine CW.seq ?_
    refine CW.cond rfl (fun hc5 => ?_) (fun hc5 => ?_)
    · replace h := bcT h hc5
      refine CW.skip ?_
      show CW _ _ _ _ _ _
      refine CW.seq ?_
      refine CW.block ?_
      refine CW.seq ?_
      refine CW.region ?_
      replace h := obind h
      obtain ⟨y6, hy6, h⟩ := h
      obtain ⟨b9, o10, cs11, hae, hb14, hp7, hq8, hd12, hk13⟩ := hr0_8.idx hy6
      subst hae
      obtain rfl := hd12
      refine LW.u (Pur.ix Try.underlying72 sz158 rfl rfl hp7 hq8) rfl ?_
      refine LW.l (Ldr.oldN w0 ag158 rfl rfl (fun j u hu => hk13 j u hu)) (hS3.same _ hb14.1 hb14.2) rfl ?_
      refine LW.alloc zv158 hS3 rfl ?_
      intro g15 w16 hS4 hf
      refine LW.stb hS4 0 rfl ag158 rfl rfl rfl rfl rfl ?_
      intro w17 hS5 hf
      refine LW.nil ?_
      show CW _ _ _ _ _ _
      refine CW.seq ?_
      refine CW.region ?_
      refine LW.ldbN hS5 0 rfl ag158 rfl rfl rfl ?_
      replace h := obind h
      obtain ⟨y18, hy18, h⟩ := h
      have q := W_i_TapOk (w0 := w17) hy18
      refine LW.call pl150 rfl rfl ?_
      refine Ret.mono q ?_
      rintro _ w19 ⟨rfl, hs⟩
      have hS6 := hS5.add hs
      refine LW.p rfl rfl ?_
      refine LW.nil ?_
      show CW _ _ _ _ _ _
      refine CW.fresh (l := [(1, .pointer (some ⟨g1, 0, none⟩)), (6, .slice (some ⟨b9, o10, none⟩) x0.taps.length c0_8), (7, .int .i64 (x0.taps.length : Int)), (8, .int .i64 s3), (14, .bool (!y18))]) ⟨rfl, rfl, rfl, rfl, rfl, trivial⟩ (fun e => ?_)
      refine CW.cond rfl (fun hc20 => ?_) (fun hc20 => ?_)
      · replace h := bcT h hc20
        refine CW.seq ?_
        refine CW.region ?_
        refine LW.p rfl rfl ?_
        refine LW.nil ?_
        show CW _ _ _ _ _ _
        refine CW.ret ?_
        replace h := Option.some.inj h
        subst h
        exact ⟨trivial, rfl, _, rfl, ⟨_, Res.one (resOne.t rfl), rfl, hS6.pick [] rfl rfl⟩⟩
      replace h := bcF h hc20
      refine CW.skip ?_
      show CW _ _ _ _ _ _
      refine CW.region ?_
      iterate 2 refine LW.p rfl rfl ?_
      refine LW.nil ?_
      replace h := Option.some.inj h
      subst h
      exact ⟨rfl, ⟨⟨rfl, rfl, rfl, rfl, trivial⟩, hS6.pick [1] rfl rfl⟩⟩
    replace h := bcF h hc5
    refine CW.exit ?_
    replace h := Option.some.inj h
    subst h
    exact ⟨trivial, rfl, ⟨⟨rfl, trivial⟩, hS3.pick [0] rfl rfl⟩⟩
  intro x e w23 hM
  rcases o21 with o21 | r54
  · obtain ⟨rfl, hM⟩ := hM
    obtain ⟨hE, hS7⟩ := hM
    obtain ⟨e, rfl⟩ := hE.out
    have h := h22
    show CW _ _ _ _ _ _
    refine CW.seq ?_
    refine CW.seq ?_
    obtain ⟨j24, hj24, h25⟩ := obind h
    refine CW.cut (fun e wb => En e [(1, .pointer (some ⟨g1, 0, none⟩)), (43, .bool j24)] ∧ St w0 [] wb [bx g1 75 [.slice a0_0 x0.label.levels.length c0_0, .slice a0_1 x0.own.length c0_1, .slice a0_2 x0.tree.length c0_2, .slice a0_3 x0.heap.arena.length c0_3, .int .i64 x0.heap.gc.phase, .int .i64 x0.heap.gc.pos, .int .i64 x0.heap.gc.round, .slice a0_7 x0.heap.gc.grey.length c0_7, .slice a0_8 x0.taps.length c0_8, .int .i64 x0.next, .int .i64 x0.want, .int .i64 x0.spent.pages, .int .i64 x0.spent.rent, .int .i64 x0.spent.cpu, .int .i64 x0.press, .int .i64 x0.lost]]) ?_ ?_
    · have h := hj24
      refine CW.region ?_
      refine LW.u (Pur.fa fo75_0 rfl) rfl ?_
      refine LW.ldbN hS7 0 rfl ag35 rfl rfl rfl ?_
      replace h := obind h
      obtain ⟨y26, hy26, h⟩ := h
      have q := W_i_LabelOk (w0 := w23) hy26 rfl (hS7.rB hr0_0)
      refine LW.call pl110 rfl rfl ?_
      refine Ret.mono q ?_
      rintro _ w27 ⟨rfl, hs⟩
      have hS8 := hS7.add hs
      iterate 2 refine LW.p rfl rfl ?_
      rcases bcases (!y26) with hc28 | hc28
      · replace h := bcT h hc28
        refine LW.gN (want_not rfl rfl hc28) rfl ?_
        refine LW.gN (want_not rfl rfl hc28) rfl ?_
        refine LW.gN (want_not rfl rfl hc28) rfl ?_
        refine LW.gN (want_not rfl rfl hc28) rfl ?_
        refine LW.u (Pur.pickT rfl hc28) rfl ?_
        refine LW.p rfl rfl ?_
        refine LW.gN (want_not rfl rfl rfl) rfl ?_
        refine LW.gN (want_not rfl rfl rfl) rfl ?_
        refine LW.gN (want_not rfl rfl rfl) rfl ?_
        refine LW.gN (want_not rfl rfl rfl) rfl ?_
        refine LW.u (Pur.pickT rfl rfl) rfl ?_
        refine LW.p rfl rfl ?_
        refine LW.gN (want_not rfl rfl rfl) rfl ?_
        refine LW.fresh (l := [(1, .pointer (some ⟨g1, 0, none⟩)), (32, .bool true), (33, undef)]) ⟨rfl, rfl, rfl, trivial⟩ (fun e => ?_)
        refine LW.gN (want_not rfl rfl rfl) rfl ?_
        refine LW.gN (want_not rfl rfl rfl) rfl ?_
        refine LW.gN (want_not rfl rfl rfl) rfl ?_
        refine LW.u (Pur.pickT rfl rfl) rfl ?_
        refine LW.p rfl rfl ?_
        refine LW.gN (want_not rfl rfl rfl) rfl ?_
        refine LW.gN (want_not rfl rfl rfl) rfl ?_
        refine LW.gN (want_not rfl rfl rfl) rfl ?_
        refine LW.gN (want_not rfl rfl rfl) rfl ?_
        refine LW.u (Pur.pickT rfl rfl) rfl ?_
        refine LW.nil ?_
        replace h := Option.some.inj h
        subst h
        exact ⟨⟨rfl, rfl, trivial⟩, hS8.pick [0] rfl rfl⟩
      replace h := bcF h hc28
      refine LW.gY (want_of rfl rfl hc28) ?_
      refine LW.u (Pur.fa fo75_1 rfl) rfl ?_
      refine LW.gY (want_of rfl rfl hc28) ?_
      refine LW.ldb hS8 0 rfl ag24 rfl rfl rfl ?_
      replace h := obind h
      obtain ⟨y29, hy29, h⟩ := h
      have q := W_i_OwnOk (w0 := w27) hy29 rfl (hS8.rB hr0_1)
      refine LW.gY (want_of rfl rfl hc28) ?_
      refine LW.call pl111 rfl rfl ?_
      refine Ret.mono q ?_
      rintro _ w30 ⟨rfl, hs⟩
      have hS9 := hS8.add hs
      refine LW.gY (want_of rfl rfl hc28) ?_
      refine LW.p rfl rfl ?_
      refine LW.u (Pur.pickF rfl hc28) rfl ?_
      refine LW.p rfl rfl ?_
      rcases bcases (!y29) with hc31 | hc31
      · replace h := bcT h hc31
        refine LW.gN (want_not rfl rfl hc31) rfl ?_
        refine LW.gN (want_not rfl rfl hc31) rfl ?_
        refine LW.gN (want_not rfl rfl hc31) rfl ?_
        refine LW.gN (want_not rfl rfl hc31) rfl ?_
        refine LW.u (Pur.pickT rfl hc31) rfl ?_
        refine LW.p rfl rfl ?_
        refine LW.fresh (l := [(1, .pointer (some ⟨g1, 0, none⟩)), (32, .bool true)]) ⟨rfl, rfl, trivial⟩ (fun e => ?_)
        refine LW.gN (want_not rfl rfl rfl) rfl ?_
        refine LW.gN (want_not rfl rfl rfl) rfl ?_
        refine LW.gN (want_not rfl rfl rfl) rfl ?_
        refine LW.gN (want_not rfl rfl rfl) rfl ?_
        refine LW.u (Pur.pickT rfl rfl) rfl ?_
        refine LW.p rfl rfl ?_
        refine LW.gN (want_not rfl rfl rfl) rfl ?_
        refine LW.gN (want_not rfl rfl rfl) rfl ?_
        refine LW.gN (want_not rfl rfl rfl) rfl ?_
        refine LW.gN (want_not rfl rfl rfl) rfl ?_
        refine LW.u (Pur.pickT rfl rfl) rfl ?_
        refine LW.nil ?_
        replace h := Option.some.inj h
        subst h
        exact ⟨⟨rfl, rfl, trivial⟩, hS9.pick [0] rfl rfl⟩
      replace h := bcF h hc31
      refine LW.gY (want_of rfl rfl hc31) ?_
      refine LW.u (Pur.fa fo75_2 rfl) rfl ?_
      refine LW.gY (want_of rfl rfl hc31) ?_
      refine LW.ldb hS9 0 rfl ag67 rfl rfl rfl ?_
      replace h := obind h
      obtain ⟨y32, hy32, h⟩ := h
      have q := W_i_TreeOk (w0 := w30) hy32 rfl (hS9.rB hr0_2)
      refine LW.gY (want_of rfl rfl hc31) ?_
      refine LW.call pl151 rfl rfl ?_
      refine Ret.mono q ?_
      rintro _ w33 ⟨rfl, hs⟩
      have hS10 := hS9.add hs
      refine LW.gY (want_of rfl rfl hc31) ?_
      refine LW.p rfl rfl ?_
      refine LW.u (Pur.pickF rfl hc31) rfl ?_
      refine LW.p rfl rfl ?_
      refine LW.fresh (l := [(1, .pointer (some ⟨g1, 0, none⟩)), (32, .bool (!y32))]) ⟨rfl, rfl, trivial⟩ (fun e => ?_)
      rcases bcases (!y32) with hc34 | hc34
      · replace h := bcT h hc34
        refine LW.gN (want_not rfl rfl hc34) rfl ?_
        refine LW.gN (want_not rfl rfl hc34) rfl ?_
        refine LW.gN (want_not rfl rfl hc34) rfl ?_
        refine LW.gN (want_not rfl rfl hc34) rfl ?_
        refine LW.u (Pur.pickT rfl hc34) rfl ?_
        refine LW.p rfl rfl ?_
        refine LW.gN (want_not rfl rfl rfl) rfl ?_
        refine LW.gN (want_not rfl rfl rfl) rfl ?_
        refine LW.gN (want_not rfl rfl rfl) rfl ?_
        refine LW.gN (want_not rfl rfl rfl) rfl ?_
        refine LW.u (Pur.pickT rfl rfl) rfl ?_
        refine LW.nil ?_
        replace h := Option.some.inj h
        subst h
        exact ⟨⟨rfl, rfl, trivial⟩, hS10.pick [0] rfl rfl⟩
      replace h := bcF h hc34
      refine LW.gY (want_of rfl rfl hc34) ?_
      refine LW.u (Pur.fa fo75_3 rfl) rfl ?_
      refine LW.gY (want_of rfl rfl hc34) ?_
      refine LW.ldbN hS10 0 rfl ag71 rfl rfl rfl ?_
      replace h := obind h
      obtain ⟨y35, hy35, h⟩ := h
      have q := W_i_HeapOk (w0 := w33) hy35 rfl (hS10.rB hr0_3) rfl (hS10.rB hr0_7)
      refine LW.gY (want_of rfl rfl hc34) ?_
      refine LW.call pl152 rfl rfl ?_
      refine Ret.mono q ?_
      rintro _ w36 ⟨rfl, hs⟩
      have hS11 := hS10.add hs
      refine LW.gY (want_of rfl rfl hc34) ?_
      refine LW.p rfl rfl ?_
      refine LW.u (Pur.pickF rfl hc34) rfl ?_
      refine LW.p rfl rfl ?_
      rcases bcases (!y35) with hc37 | hc37
      · replace h := bcT h hc37
        refine LW.gN (want_not rfl rfl hc37) rfl ?_
        refine LW.gN (want_not rfl rfl hc37) rfl ?_
        refine LW.gN (want_not rfl rfl hc37) rfl ?_
        refine LW.gN (want_not rfl rfl hc37) rfl ?_
        refine LW.u (Pur.pickT rfl hc37) rfl ?_
        refine LW.nil ?_
        replace h := Option.some.inj h
        subst h
        exact ⟨⟨rfl, rfl, trivial⟩, hS11.pick [0] rfl rfl⟩
      replace h := bcF h hc37
      refine LW.gY (want_of rfl rfl hc37) ?_
      refine LW.u (Pur.fa fo75_4 rfl) rfl ?_
      refine LW.gY (want_of rfl rfl hc37) ?_
      refine LW.ldb hS11 0 rfl ag72 rfl rfl rfl ?_
      refine LW.gY (want_of rfl rfl hc37) ?_
      refine LW.u (Pur.len Try.underlying72 rfl) rfl ?_
      refine LW.gY (want_of rfl rfl hc37) ?_
      refine LW.p rfl rfl ?_
      refine LW.u (Pur.pickF rfl hc37) rfl ?_
      refine LW.nil ?_
      replace h := Option.some.inj h
      subst h
      exact ⟨⟨rfl, rfl, trivial⟩, hS11.pick [0] rfl rfl⟩
    intro e w38 hM
    obtain ⟨hE, hS12⟩ := hM
    obtain ⟨e, rfl⟩ := hE.out
    have h := h25
    show CW _ _ _ _ _ _
    refine CW.cond rfl (fun hc39 => ?_) (fun hc39 => ?_)
    · replace h := bcT h hc39
      refine CW.seq ?_
      refine CW.region ?_
      refine LW.p rfl rfl ?_
      refine LW.nil ?_
      show CW _ _ _ _ _ _
      refine CW.ret ?_
      cases h
      exact And.intro trivial ⟨_, Res.one (resOne.t rfl), rfl, hS12.pick [] rfl rfl⟩
    replace h := bcF h hc39
    refine CW.skip ?_
    show CW _ _ _ _ _ _
    refine CW.seq ?_
    refine CW.region ?_
    refine LW.u (Pur.fa fo75_5 rfl) rfl ?_
    refine LW.ldb hS12 0 rfl ag3 rfl rfl rfl ?_
    replace h := obind h
    obtain ⟨y40, hy40, h⟩ := h
    have q := W_i_isSlot (w0 := w38) hy40
    refine LW.call pl153 rfl rfl ?_
    refine Ret.mono q ?_
    rintro _ w41 ⟨rfl, hs⟩
    have hS13 := hS12.add hs
    refine LW.p rfl rfl ?_
    rcases bcases y40 with hc42 | hc42
    · replace h := bcT h hc42
      refine LW.gY (want_of rfl rfl hc42) ?_
      refine LW.u (Pur.fa fo75_6 rfl) rfl ?_
      refine LW.gY (want_of rfl rfl hc42) ?_
      refine LW.ldb hS13 0 rfl ag3 rfl rfl rfl ?_
      replace h := obind h
      obtain ⟨y43, hy43, h⟩ := h
      have q := W_i_within (w0 := w41) hy43
      refine LW.gY (want_of rfl rfl hc42) ?_
      refine LW.call pl86 rfl rfl ?_
      refine Ret.mono q ?_
      rintro _ w44 ⟨rfl, hs⟩
      have hS14 := hS13.add hs
      refine LW.u (Pur.pickT rfl hc42) rfl ?_
      refine LW.p rfl rfl ?_
      rcases bcases y43 with hc45 | hc45
      · replace h := bcT h hc45
        refine LW.gY (want_of rfl rfl hc45) ?_
        refine LW.u (Pur.fa fo75_7 rfl) rfl ?_
        refine LW.gY (want_of rfl rfl hc45) ?_
        refine LW.ldbN hS14 0 rfl ag73 rfl rfl rfl ?_
        replace h := obind h
        obtain ⟨y46, hy46, h⟩ := h
        have q := W_i_AmtOk (w0 := w44) hy46
        refine LW.gY (want_of rfl rfl hc45) ?_
        refine LW.call pl90 rfl rfl ?_
        refine Ret.mono q ?_
        rintro _ w47 ⟨rfl, hs⟩
        have hS15 := hS14.add hs
        refine LW.u (Pur.pickT rfl hc45) rfl ?_
        refine LW.p rfl rfl ?_
        rcases bcases y46 with hc48 | hc48
        · replace h := bcT h hc48
          refine LW.gY (want_of rfl rfl hc48) ?_
          refine LW.u (Pur.fa fo75_8 rfl) rfl ?_
          refine LW.gY (want_of rfl rfl hc48) ?_
          refine LW.ldb hS15 0 rfl ag3 rfl rfl rfl ?_
          refine LW.fresh (l := [(1, .pointer (some ⟨g1, 0, none⟩)), (57, .bool y46), (59, .int .i64 x0.press)]) ⟨rfl, rfl, rfl, trivial⟩ (fun e => ?_)
          replace h := obind h
          obtain ⟨y49, hy49, h⟩ := h
          have q := W_i_isTime (w0 := w47) hy49
          refine LW.gY (want_of rfl rfl hc48) ?_
          refine LW.call pl85 rfl rfl ?_
          refine Ret.mono q ?_
          rintro _ w50 ⟨rfl, hs⟩
          have hS16 := hS15.add hs
          refine LW.u (Pur.pickT rfl hc48) rfl ?_
          refine LW.p rfl rfl ?_
          rcases bcases y49 with hc51 | hc51
          · replace h := bcT h hc51
            refine LW.gY (want_of rfl rfl hc51) ?_
            refine LW.u (Pur.fa fo75_9 rfl) rfl ?_
            refine LW.gY (want_of rfl rfl hc51) ?_
            refine LW.ldb hS16 0 rfl ag3 rfl rfl rfl ?_
            replace h := obind h
            obtain ⟨y52, hy52, h⟩ := h
            have q := W_i_isTime (w0 := w50) hy52
            refine LW.gY (want_of rfl rfl hc51) ?_
            refine LW.call pl85 rfl rfl ?_
            refine Ret.mono q ?_
            rintro _ w53 ⟨rfl, hs⟩
            have hS17 := hS16.add hs
            refine LW.u (Pur.pickT rfl hc51) rfl ?_
            refine LW.p rfl rfl ?_
            refine LW.nil ?_
            show CW _ _ _ _ _ _
            refine CW.ret ?_
            cases h
            exact And.intro trivial ⟨_, Res.one (resOne.t rfl), rfl, hS17.pick [] rfl rfl⟩
          replace h := bcF h hc51
          refine LW.gN (want_not rfl rfl hc51) rfl ?_
          refine LW.gN (want_not rfl rfl hc51) rfl ?_
          refine LW.gN (want_not rfl rfl hc51) rfl ?_
          refine LW.u (Pur.pickF rfl hc51) rfl ?_
          refine LW.p rfl rfl ?_
          refine LW.nil ?_
          show CW _ _ _ _ _ _
          refine CW.ret ?_
          cases h
          exact And.intro trivial ⟨_, Res.one (resOne.t rfl), rfl, hS16.pick [] rfl rfl⟩
        replace h := bcF h hc48
        refine LW.gN (want_not rfl rfl hc48) rfl ?_
        refine LW.gN (want_not rfl rfl hc48) rfl ?_
        refine LW.fresh (l := [(1, .pointer (some ⟨g1, 0, none⟩)), (57, .bool y46), (59, undef)]) ⟨rfl, rfl, rfl, trivial⟩ (fun e => ?_)
        refine LW.gN (want_not rfl rfl hc48) rfl ?_
        refine LW.u (Pur.pickF rfl hc48) rfl ?_
        refine LW.p rfl rfl ?_
        refine LW.gN (want_not rfl rfl rfl) rfl ?_
        refine LW.gN (want_not rfl rfl rfl) rfl ?_
        refine LW.gN (want_not rfl rfl rfl) rfl ?_
        refine LW.u (Pur.pickF rfl rfl) rfl ?_
        refine LW.p rfl rfl ?_
        refine LW.nil ?_
        show CW _ _ _ _ _ _
        refine CW.ret ?_
        cases h
        exact And.intro trivial ⟨_, Res.one (resOne.t rfl), rfl, hS15.pick [] rfl rfl⟩
      replace h := bcF h hc45
      refine LW.gN (want_not rfl rfl hc45) rfl ?_
      refine LW.gN (want_not rfl rfl hc45) rfl ?_
      refine LW.gN (want_not rfl rfl hc45) rfl ?_
      refine LW.u (Pur.pickF rfl hc45) rfl ?_
      refine LW.p rfl rfl ?_
      refine LW.gN (want_not rfl rfl rfl) rfl ?_
      refine LW.gN (want_not rfl rfl rfl) rfl ?_
      refine LW.gN (want_not rfl rfl rfl) rfl ?_
      refine LW.fresh (l := [(1, .pointer (some ⟨g1, 0, none⟩)), (57, .bool false), (60, undef)]) ⟨rfl, rfl, rfl, trivial⟩ (fun e => ?_)
      refine LW.u (Pur.pickF rfl rfl) rfl ?_
      refine LW.p rfl rfl ?_
      refine LW.gN (want_not rfl rfl rfl) rfl ?_
      refine LW.gN (want_not rfl rfl rfl) rfl ?_
      refine LW.gN (want_not rfl rfl rfl) rfl ?_
      refine LW.u (Pur.pickF rfl rfl) rfl ?_
      refine LW.p rfl rfl ?_
      refine LW.nil ?_
      show CW _ _ _ _ _ _
      refine CW.ret ?_
      cases h
      exact And.intro trivial ⟨_, Res.one (resOne.t rfl), rfl, hS14.pick [] rfl rfl⟩
    replace h := bcF h hc42
    refine LW.gN (want_not rfl rfl hc42) rfl ?_
    refine LW.gN (want_not rfl rfl hc42) rfl ?_
    refine LW.gN (want_not rfl rfl hc42) rfl ?_
    refine LW.u (Pur.pickF rfl hc42) rfl ?_
    refine LW.p rfl rfl ?_
    refine LW.gN (want_not rfl rfl rfl) rfl ?_
    refine LW.gN (want_not rfl rfl rfl) rfl ?_
    refine LW.gN (want_not rfl rfl rfl) rfl ?_
    refine LW.u (Pur.pickF rfl rfl) rfl ?_
    refine LW.p rfl rfl ?_
    refine LW.gN (want_not rfl rfl rfl) rfl ?_
    refine LW.gN (want_not rfl rfl rfl) rfl ?_
    refine LW.gN (want_not rfl rfl rfl) rfl ?_
    refine LW.u (Pur.pickF rfl rfl) rfl ?_
    refine LW.fresh (l := [(1, .pointer (some ⟨g1, 0, none⟩)), (61, .bool false)]) ⟨rfl, rfl, trivial⟩ (fun e => ?_)
    refine LW.p rfl rfl ?_
    refine LW.gN (want_not rfl rfl rfl) rfl ?_
    refine LW.gN (want_not rfl rfl rfl) rfl ?_
    refine LW.gN (want_not rfl rfl rfl) rfl ?_
    refine LW.u (Pur.pickF rfl rfl) rfl ?_
    refine LW.p rfl rfl ?_
    refine LW.nil ?_
    show CW _ _ _ _ _ _
    refine CW.ret ?_
    cases h
    exact And.intro trivial ⟨_, Res.one (resOne.t rfl), rfl, hS13.pick [] rfl rfl⟩
  obtain ⟨rfl, u, rfl, hM⟩ := hM
  cases h22
  exact And.intro trivial hM

end Go.Kx
