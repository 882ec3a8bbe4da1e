/- Each call returns what the plain function says. Printed by drive.py. -/
import Derived.Test.YtfllimolhpblnaaGreatFa
import Derived.Test.YtfllimolhpblnaaGreatPu
import Derived.Test.YtfllimolhpblnaaGreatWa0
import Derived.Test.YtfllimolhpblnaaGreatWa1
import Derived.Test.YtfllimolhpblnaaGreatWa2
import Derived.Test.YtfllimolhpblnaaGreatWa3
import Derived.Test.YtfllimolhpblnaaGreatWa4
namespace Go.Kx
open Go Go.RowKit Go.Proofs
set_option maxRecDepth 10000
set_option maxHeartbeats 2000000
set_option linter.unusedVariables false
set_option linter.unusedSimpArgs false
theorem W_s_HeapOk {w0 : World} {N : Nat} {x0 : DHeap} {r : Bool} (h : F_s_HeapOk N x0 = some r) {a0_0 : Option Addr} {n0_0 c0_0 : Nat} (hn0_0 : n0_0 = x0.arena.length) (hr0_0 : rdS (Bor w0 []) w0 a0_0 c0_0 x0.arena) {a0_4 : Option Addr} {n0_4 c0_4 : Nat} (hn0_4 : n0_4 = x0.gc.grey.length) (hr0_4 : rdS (Bor w0 []) w0 a0_4 c0_4 x0.gc.grey) :
    Ret Tryz.prog 129 #[.agg #[.slice a0_0 n0_0 c0_0, .int .i64 x0.gc.phase, .int .i64 x0.gc.pos, .int .i64 x0.gc.round, .slice a0_4 n0_4 c0_4]] w0 (fun v w => v = .bool r ∧ St w0 [] w []) := by
  subst hn0_0 hn0_4
  unfold F_s_HeapOk at h
  refine Ret.fn Tryz.func129 fun e => ?_
  have hS1 := St.start w0
  refine go ?_
  refine LW.bo hS1 fun g1 w2 hS2 => ?_
  refine go ?_
  refine LW.al hS2 fun g3 w4 hS3 => ?_
  refine LW.st hS3 0 fun w5 hS4 => ?_
  refine gs ?_
  obtain ⟨j6, hj6, h7⟩ := obind h
  refine CW.cut (fun e wb => En e [(3, .pointer (some ⟨g3, 0, none⟩)), (22, .bool j6)] ∧ St w0 [] wb [bx g3 60 [.int .i64 x0.gc.phase, .int .i64 x0.gc.pos, .int .i64 x0.gc.round, .slice a0_4 x0.gc.grey.length c0_4]]) ?_ ?_
  · have h := hj6
    refine go ?_
    replace ⟨y8, hy8, h⟩ := obind h
    refine LW.c0 (W_s_ArenaOk hy8 rfl (hS4.rB hr0_0)) hS4 fun w9 hS5 => ?_
    refine go ?_
    rcases bcases (!y8) with hc10 | hc10
    · replace h := bcT h hc10
      refine go ?_
      cases oi h
      exact ⟨⟨rfl, rfl, trivial⟩, hS5.pick [0] rfl rfl⟩
    replace h := bcF h hc10
    refine go ?_
    replace ⟨y11, hy11, h⟩ := obind h
    refine go ?_
    refine LW.c0 (W_s_l1In hy11) hS5 fun w12 hS6 => ?_
    refine go ?_
    rcases bcases (!y11) with hc13 | hc13
    · replace h := bcT h hc13
      refine go ?_
      cases oi h
      exact ⟨⟨rfl, rfl, trivial⟩, hS6.pick [0] rfl rfl⟩
    replace h := bcF h hc13
    refine go ?_
    replace ⟨y14, hy14, h⟩ := obind h
    refine go ?_
    refine LW.c0 (W_s_l1In hy14) hS6 fun w15 hS7 => ?_
    refine go ?_
    cases oi h
    exact ⟨⟨rfl, rfl, trivial⟩, hS7.pick [0] rfl rfl⟩
  rintro e w16 ⟨hE, hS8⟩
  obtain ⟨e, rfl⟩ := hE.out
  have h := h7
  refine go ?_
  refine CW.cond rfl (fun hc17 => ?_) (fun hc17 => ?_)
  · replace h := bcT h hc17
    refine go ?_
    cases h
    exact And.intro trivial ⟨_, Res.one (resOne.t rfl), rfl, hS8.pick [] rfl rfl⟩
  replace h := bcF h hc17
  refine gs ?_
  obtain ⟨j18, hj18, h19⟩ := obind h
  refine CW.cut (fun e wb => En e [(3, .pointer (some ⟨g3, 0, none⟩)), (47, .bool j18)] ∧ St w0 [] wb [bx g3 60 [.int .i64 x0.gc.phase, .int .i64 x0.gc.pos, .int .i64 x0.gc.round, .slice a0_4 x0.gc.grey.length c0_4]]) ?_ ?_
  · have h := hj18
    refine go ?_
    rcases bcases (x0.gc.phase == 0) with hc20 | hc20
    · replace h := bcT h hc20
      refine go ?_
      rcases bcases (x0.gc.pos != 0) with hc21 | hc21
      · replace h := bcT h hc21
        refine go ?_
        cases oi h
        exact ⟨⟨rfl, rfl, trivial⟩, hS8.pick [0] rfl rfl⟩
      replace h := bcF h hc21
      refine go ?_
      rcases bcases (x0.gc.phase == 1) with hc22 | hc22
      · replace h := bcT h hc22
        refine go ?_
        replace ⟨y23, hy23, h⟩ := obind h
        refine go ?_
        refine LW.c0 (W_s_l8Slot hy23) hS8 fun w24 hS9 => ?_
        refine go ?_
        refine LW.fl [3, 31, 35, 40] fun e => ?_
        rcases bcases (!y23) with hc25 | hc25
        · replace h := bcT h hc25
          refine go ?_
          cases oi h
          exact ⟨⟨rfl, rfl, trivial⟩, hS9.pick [0] rfl rfl⟩
        replace h := bcF h hc25
        refine go ?_
        cases oi h
        exact ⟨⟨rfl, rfl, trivial⟩, hS9.pick [0] rfl rfl⟩
      replace h := bcF h hc22
      refine go ?_
      cases oi h
      exact ⟨⟨rfl, rfl, trivial⟩, hS8.pick [0] rfl rfl⟩
    replace h := bcF h hc20
    refine go ?_
    rcases bcases (x0.gc.phase == 1) with hc26 | hc26
    · replace h := bcT h hc26
      refine go ?_
      replace ⟨y27, hy27, h⟩ := obind h
      refine go ?_
      refine LW.c0 (W_s_l8Slot hy27) hS8 fun w28 hS10 => ?_
      refine go ?_
      refine LW.fl [3, 31, 35, 40] fun e => ?_
      rcases bcases (!y27) with hc29 | hc29
      · replace h := bcT h hc29
        refine go ?_
        cases oi h
        exact ⟨⟨rfl, rfl, trivial⟩, hS10.pick [0] rfl rfl⟩
      replace h := bcF h hc29
      refine go ?_
      cases oi h
      exact ⟨⟨rfl, rfl, trivial⟩, hS10.pick [0] rfl rfl⟩
    replace h := bcF h hc26
    refine go ?_
    cases oi h
    exact ⟨⟨rfl, rfl, trivial⟩, hS8.pick [0] rfl rfl⟩
  rintro e w30 ⟨hE, hS11⟩
  obtain ⟨e, rfl⟩ := hE.out
  have h := h19
  refine go ?_
  refine CW.cond rfl (fun hc31 => ?_) (fun hc31 => ?_)
  · replace h := bcT h hc31
    refine go ?_
    cases h
    exact And.intro trivial ⟨_, Res.one (resOne.t rfl), rfl, hS11.pick [] rfl rfl⟩
  replace h := bcF h hc31
  refine go ?_
  obtain ⟨o60, ho60, h61⟩ := obind h
  refine CW.mono (CW.iter (σ := Int) (ρ := Int ⊕ Bool) (fun s32 e wb => En e [(3, .pointer (some ⟨g3, 0, none⟩)), (4, .int .i64 s32)] ∧ St w0 [] wb [bx g3 60 [.int .i64 x0.gc.phase, .int .i64 x0.gc.pos, .int .i64 x0.gc.round, .slice a0_4 x0.gc.grey.length c0_4]]) (fun o x e wb => match o with | .inl s32 => x = .exit 0 ∧ En e [] ∧ St w0 [] wb [bx g3 60 [.int .i64 x0.gc.phase, .int .i64 x0.gc.pos, .int .i64 x0.gc.round, .slice a0_4 x0.gc.grey.length c0_4]] | .inr r => x = .ret ∧ ∃ u, u = r ∧ ∃ v, Res Tryz.prog Tryz.f129.results e wb v ∧ v = .bool u ∧ St w0 [] wb []) ?_ N 0 _ _ _ ⟨⟨rfl, rfl, trivial⟩, hS11.pick [0] rfl rfl⟩ ho60) ?_
  · intro s32 e w33 o hM h
    obtain ⟨hE, hS12⟩ := hM
    obtain ⟨e, rfl⟩ := hE.out
    refine go ?_
    refine CW.cond rfl (fun hc34 => ?_) (fun hc34 => ?_)
    · replace h := bcT h hc34
      refine gs ?_
      refine CW.block ?_
      refine gs ?_
      obtain ⟨j35, hj35, h36⟩ := obind h
      refine CW.cut (fun e wb => En e [(3, .pointer (some ⟨g3, 0, none⟩)), (4, .int .i64 s32), (73, .bool j35)] ∧ St w0 [] wb [bx g3 60 [.int .i64 x0.gc.phase, .int .i64 x0.gc.pos, .int .i64 x0.gc.round, .slice a0_4 x0.gc.grey.length c0_4]]) ?_ ?_
      · have h := hj35
        refine CW.draw (by kernel_rfl) ?_
        have hS13 := hS12.drew
        refine AW.u (i := 0) rfl (by kernel_rfl) rfl rfl (Pur.fa fo60_3 rfl) ?_
        refine AW.take (i := 1) rfl (by kernel_rfl) rfl rfl (Ldr.box (bt := 60) (fr := (0, 0)) (cs := [.int .i64 x0.gc.phase, .int .i64 x0.gc.pos, .int .i64 x0.gc.round, .slice a0_4 x0.gc.grey.length c0_4]) ag28 rfl rfl) (St.cell (h := hS13) (i := 0) rfl) ?_
        refine AW.u (i := 2) rfl (by kernel_rfl) rfl rfl (Pur.p rfl) ?_
        replace ⟨y37, hy37, h⟩ := obind h
        obtain ⟨b40, o41, cs42, hae, hb45, hp38, hq39, hd43, hk44⟩ := hr0_4.idx hy37
        subst hae
        obtain rfl := hd43
        refine AW.u (i := 3) rfl (by kernel_rfl) rfl rfl (Pur.ix Tryz.underlying28 sz3 rfl rfl hp38 hq39) ?_
        refine AW.take (i := 4) rfl (by kernel_rfl) rfl rfl (Ldr.old w0 ag3 rfl (hk44 0 _ rfl)) (hS13.same _ hb45.1 hb45.2) ?_
        replace ⟨y46, hy46, h⟩ := obind h
        have q := W_s_l8Slot (w0 := w33.drew) hy46
        refine AW.one (i := 5) (by kernel_rfl) ?_
        refine ⟨_, rfl, ?_⟩
        refine LW.call pl120 rfl rfl ?_
        refine Ret.mono q ?_
        rintro _ w47 ⟨rfl, hs⟩
        have hS14 := hS13.add hs
        refine LW.nil ⟨rfl, (.w (by kernel_rfl) (.c (St.cell (h := hS14) (i := 0) rfl) Kept.n)), ?_⟩
        refine AW.u (i := 6) rfl (by kernel_rfl) rfl rfl (Pur.p rfl) ?_
        refine AW.u (i := 7) rfl (by kernel_rfl) rfl rfl (Pur.p rfl) ?_
        rcases bcases (!y46) with hc48 | hc48
        · replace h := bcT h hc48
          refine AW.no (i := 8) rfl (by kernel_rfl) (want_not rfl rfl hc48) rfl ?_
          refine AW.no (i := 9) rfl (by kernel_rfl) (want_not rfl rfl hc48) rfl ?_
          refine AW.no (i := 10) rfl (by kernel_rfl) (want_not rfl rfl hc48) rfl ?_
          refine AW.no (i := 11) rfl (by kernel_rfl) (want_not rfl rfl hc48) rfl ?_
          refine AW.no (i := 12) rfl (by kernel_rfl) (want_not rfl rfl hc48) rfl ?_
          refine AW.no (i := 13) rfl (by kernel_rfl) (want_not rfl rfl hc48) rfl ?_
          refine AW.no (i := 14) rfl (by kernel_rfl) (want_not rfl rfl hc48) rfl ?_
          refine AW.no (i := 15) rfl (by kernel_rfl) (want_not rfl rfl hc48) rfl ?_
          refine AW.no (i := 16) rfl (by kernel_rfl) (want_not rfl rfl hc48) rfl ?_
          refine AW.no (i := 17) rfl (by kernel_rfl) (want_not rfl rfl hc48) rfl ?_
          refine AW.u (i := 18) rfl (by kernel_rfl) rfl rfl (Pur.pickT rfl hc48) ?_
          refine AW.done (by kernel_rfl) ?_
          cases oi h
          exact ⟨⟨rfl, rfl, rfl, trivial⟩, hS14.pick [0] rfl rfl⟩
        replace h := bcF h hc48
        refine AW.u (i := 8) rfl (by kernel_rfl) (want_of rfl rfl hc48) rfl (Pur.fa fo60_3 rfl) ?_
        refine AW.take (i := 9) rfl (by kernel_rfl) (want_of rfl rfl hc48) rfl (Ldr.box (bt := 60) (fr := (0, 0)) (cs := [.int .i64 x0.gc.phase, .int .i64 x0.gc.pos, .int .i64 x0.gc.round, .slice (some ⟨b40, o41, none⟩) x0.gc.grey.length c0_4]) ag28 rfl rfl) (St.cell (h := hS14) (i := 0) rfl) ?_
        refine AW.u (i := 10) rfl (by kernel_rfl) (want_of rfl rfl hc48) rfl (Pur.p rfl) ?_
        replace ⟨y49, hy49, h⟩ := obind h
        obtain ⟨a50, c51, he52, he53, hr54⟩ := rdS.sub' hr0_4 hy49
        have hle55 := (hr0_4).le
        refine AW.u (i := 11) rfl (by kernel_rfl) (want_of rfl rfl hc48) rfl (Pur.sub (α := Int) (l := x0.gc.grey) Tryz.underlying28 sz3 rfl bndN (bndS rfl) hy49 hle55 he52 he53) ?_
        refine AW.u (i := 12) rfl (by kernel_rfl) (want_of rfl rfl hc48) rfl (Pur.fa fo60_3 rfl) ?_
        refine AW.take (i := 13) rfl (by kernel_rfl) (want_of rfl rfl hc48) rfl (Ldr.box (bt := 60) (fr := (0, 0)) (cs := [.int .i64 x0.gc.phase, .int .i64 x0.gc.pos, .int .i64 x0.gc.round, .slice (some ⟨b40, o41, none⟩) x0.gc.grey.length c0_4]) ag28 rfl rfl) (St.cell (h := hS14) (i := 0) rfl) ?_
        refine AW.u (i := 14) rfl (by kernel_rfl) (want_of rfl rfl hc48) rfl (Pur.p rfl) ?_
        refine AW.u (i := 15) rfl (by kernel_rfl) (want_of rfl rfl hc48) rfl (Pur.ix Tryz.underlying28 sz3 rfl rfl hp38 hq39) ?_
        refine AW.take (i := 16) rfl (by kernel_rfl) (want_of rfl rfl hc48) rfl (Ldr.old w0 ag3 rfl (hk44 0 _ rfl)) (hS14.same _ hb45.1 hb45.2) ?_
        replace ⟨y56, hy56, h⟩ := obind h
        have q := W_s_l4Has (w0 := w47) hy56 rfl (hS14.rB hr54)
        refine AW.one (i := 17) (by kernel_rfl) ?_
        refine ⟨_, rfl, ?_⟩
        refine (LW.gY (want_of rfl rfl hc48) ?_)
        refine LW.call pl183 rfl rfl ?_
        refine Ret.mono q ?_
        rintro _ w57 ⟨rfl, hs⟩
        have hS15 := hS14.add hs
        refine LW.nil ⟨rfl, (.w (by kernel_rfl) (.c (St.cell (h := hS15) (i := 0) rfl) (.c (St.cell (h := hS15) (i := 0) rfl) (.c (hS15.same _ hb45.1 hb45.2) (.c (St.cell (h := hS15) (i := 0) rfl) Kept.n))))), ?_⟩
        refine AW.u (i := 18) rfl (by kernel_rfl) rfl rfl (Pur.pickF rfl hc48) ?_
        refine AW.done (by kernel_rfl) ?_
        cases oi h
        exact ⟨⟨rfl, rfl, rfl, trivial⟩, hS15.pick [0] rfl rfl⟩
      rintro e w58 ⟨hE, hS16⟩
      obtain ⟨e, rfl⟩ := hE.out
      have h := h36
      refine go ?_
      refine CW.cond rfl (fun hc59 => ?_) (fun hc59 => ?_)
      · replace h := bcT h hc59
        refine go ?_
        cases oi h
        exact ⟨trivial, rfl, _, rfl, ⟨_, Res.one (resOne.t rfl), rfl, hS16.pick [] rfl rfl⟩⟩
      replace h := bcF h hc59
      refine go ?_
      cases oi h
      exact ⟨rfl, ⟨⟨rfl, rfl, trivial⟩, hS16.pick [0] rfl rfl⟩⟩
    replace h := bcF h hc34
    refine go ?_
    cases oi h
    exact ⟨trivial, rfl, ⟨trivial, hS12.pick [0] rfl rfl⟩⟩
  intro x e w62 hM
  rcases o60 with o60 | r63
  · obtain ⟨rfl, hM⟩ := hM
    obtain ⟨hE, hS17⟩ := hM
    obtain ⟨e, rfl⟩ := hE.out; rw [show e = upds e [] from rfl]
    have h := h61
    refine go ?_
    cases h
    exact And.intro trivial ⟨_, Res.one (resOne.t rfl), rfl, hS17.pick [] rfl rfl⟩
  obtain ⟨rfl, u, rfl, hM⟩ := hM
  cases h61
  exact And.intro trivial hM

theorem W_i_TreeOk {w0 : World} {N : Nat} {x0 : List DRes} {r : Bool} (h : F_i_TreeOk N x0 = some r) {a0_0 : Option Addr} {n0_0 c0_0 : Nat} (hn0_0 : n0_0 = x0.length) (hr0_0 : rdS (Bor w0 []) w0 a0_0 c0_0 x0) :
    Ret Tryz.prog 146 #[.slice a0_0 n0_0 c0_0] w0 (fun v w => v = .bool r ∧ St w0 [] w []) := by
  subst hn0_0
  unfold F_i_TreeOk at h
  refine Ret.fn Tryz.func146 fun e => ?_
  have hS1 := St.start w0
  refine gs ?_
  refine CW.region ?_
  refine gs ?_
  obtain ⟨j1, hj1, h2⟩ := obind h
  refine CW.cut (fun e wb => En e [(0, .slice a0_0 x0.length c0_0), (22, .bool j1)] ∧ St w0 [] wb []) ?_ ?_
  · have h := hj1
    refine go ?_
    rcases bcases ((x0.length : Int) != 5) with hc3 | hc3
    · replace h := bcT h hc3
      refine go ?_
      cases oi h
      exact ⟨⟨rfl, rfl, trivial⟩, hS1.pick [] rfl rfl⟩
    replace h := bcF h hc3
    refine go ?_
    replace ⟨y4, hy4, h⟩ := obind h
    obtain ⟨b7, o8, cs9, hae, hb12, hp5, hq6, hd10, hk11⟩ := hr0_0.idx hy4
    subst hae
    obtain rfl := hd10
    refine go ?_
    refine LW.u (Pur.ix Tryz.underlying58 sz152 rfl rfl hp5 hq6) rfl ?_
    refine go ?_
    refine LW.l (Ldr.old w0 ag4 rfl (hk11 0 _ rfl)) (hS1.same _ hb12.1 hb12.2) rfl ?_
    refine go ?_
    rcases bcases (!y4.live) with hc13 | hc13
    · replace h := bcT h hc13
      refine go ?_
      cases oi h
      exact ⟨⟨rfl, rfl, trivial⟩, hS1.pick [] rfl rfl⟩
    replace h := bcF h hc13
    refine go ?_
    refine LW.u (Pur.ix Tryz.underlying58 sz152 rfl rfl hp5 hq6) rfl ?_
    refine go ?_
    refine LW.l (Ldr.old w0 ag3 rfl (hk11 1 _ rfl)) (hS1.same _ hb12.1 hb12.2) rfl ?_
    refine go ?_
    cases oi h
    exact ⟨⟨rfl, rfl, trivial⟩, hS1.pick [] rfl rfl⟩
  rintro e w14 ⟨hE, hS2⟩
  obtain ⟨e, rfl⟩ := hE.out
  have h := h2
  refine go ?_
  refine CW.cond rfl (fun hc15 => ?_) (fun hc15 => ?_)
  · replace h := bcT h hc15
    refine go ?_
    cases h
    exact And.intro trivial ⟨_, Res.one (resOne.t rfl), rfl, hS2.pick [] rfl rfl⟩
  replace h := bcF h hc15
  refine go ?_
  refine LW.u (Pur.build (vs := []) (cs := #[.int .i64 0, .int .i64 0, .int .i64 0]) rfl (by kernel_rfl)) rfl ?_
  refine LW.al hS2 fun g16 w17 hS3 => ?_
  refine LW.st hS3 0 fun w18 hS4 => ?_
  refine go ?_
  obtain ⟨o48, ho48, h49⟩ := obind h
  refine CW.mono (CW.iter (σ := Int × Int × Int × Int) (ρ := (Int × Int × Int × Int) ⊕ Bool) (fun s19 e wb => En e [(0, .slice a0_0 x0.length c0_0), (3, .pointer (some ⟨g16, 0, none⟩)), (24, .slice a0_0 x0.length c0_0), (25, .int .i64 (x0.length : Int)), (26, .int .i64 s19.1)] ∧ St w0 [] wb [bx g16 64 [.int .i64 s19.2.1, .int .i64 s19.2.2.1, .int .i64 s19.2.2.2]]) (fun o x e wb => match o with | .inl s19 => x = .exit 0 ∧ En e [(3, .pointer (some ⟨g16, 0, none⟩))] ∧ St w0 [] wb [bx g16 64 [.int .i64 s19.2.1, .int .i64 s19.2.2.1, .int .i64 s19.2.2.2]] | .inr r => x = .ret ∧ ∃ u, u = r ∧ ∃ v, Res Tryz.prog Tryz.f146.results e wb v ∧ v = .bool u ∧ St w0 [] wb []) ?_ N (0, 0, 0, 0) _ _ _ ⟨⟨rfl, rfl, rfl, rfl, rfl, trivial⟩, hS4.pick [0] rfl rfl⟩ ho48) ?_
  · intro s19 e w20 o hM h
    obtain ⟨hE, hS5⟩ := hM
    obtain ⟨e, rfl⟩ := hE.out
    refine go ?_
    refine CW.cond rfl (fun hc21 => ?_) (fun hc21 => ?_)
    · replace h := bcT h hc21
      refine go ?_
      replace ⟨y22, hy22, h⟩ := obind h
      obtain ⟨b25, o26, cs27, hae, hb30, hp23, hq24, hd28, hk29⟩ := hr0_0.idx hy22
      subst hae
      obtain rfl := hd28
      refine LW.u (Pur.ix Tryz.underlying58 sz152 rfl rfl hp23 hq24) rfl ?_
      refine LW.l (Ldr.oldN w0 ag152 rfl rfl (fun j u hu => hk29 j u hu)) (hS5.same _ hb30.1 hb30.2) rfl ?_
      refine LW.al hS5 fun g31 w32 hS6 => ?_
      refine go ?_
      refine LW.st hS6 0 fun w33 hS7 => ?_
      refine go ?_
      refine CW.fl [0, 3, 4, 5, 24, 25, 26, 33] fun e => ?_
      refine CW.cond rfl (fun hc34 => ?_) (fun hc34 => ?_)
      · replace h := bcT h hc34
        refine go ?_
        refine LW.u (Pur.build (vs := []) (cs := #[.bool false, .int .i64 0, .int .i64 0, .int .i64 0, .int .i64 0]) rfl (by kernel_rfl)) rfl ?_
        refine LW.u (Pur.ane eg152 rfl rfl (fun w => eq152 y22 (DRes.mk false 0 (DAmt.mk 0 0 0)) w)) rfl ?_
        refine go ?_
        refine CW.cond rfl (fun hc35 => ?_) (fun hc35 => ?_)
        · replace h := bcT h hc35
          refine go ?_
          cases oi h
          exact ⟨trivial, rfl, _, rfl, ⟨_, Res.one (resOne.t rfl), rfl, hS7.pick [] rfl rfl⟩⟩
        replace h := bcF h hc35
        refine go ?_
        cases oi h
        exact ⟨rfl, ⟨⟨rfl, rfl, rfl, rfl, rfl, trivial⟩, hS7.pick [1] rfl rfl⟩⟩
      replace h := bcF h hc34
      refine gs ?_
      obtain ⟨j36, hj36, h37⟩ := obind h
      refine CW.cut (fun e wb => En e [(0, .slice (some ⟨b25, o26, none⟩) x0.length c0_0), (3, .pointer (some ⟨g16, 0, none⟩)), (5, .pointer (some ⟨g31, 0, none⟩)), (24, .slice (some ⟨b25, o26, none⟩) x0.length c0_0), (25, .int .i64 (x0.length : Int)), (26, .int .i64 s19.1), (46, .bool j36)] ∧ St w0 [] wb [bx g31 152 [.bool y22.live, .int .i64 y22.parent, .int .i64 y22.bal.pages, .int .i64 y22.bal.rent, .int .i64 y22.bal.cpu], bx g16 64 [.int .i64 s19.2.1, .int .i64 s19.2.2.1, .int .i64 s19.2.2.2]]) ?_ ?_
      · have h := hj36
        refine go ?_
        replace ⟨y38, hy38, h⟩ := obind h
        refine LW.c0 (W_i_AmtOk hy38) hS7 fun w39 hS8 => ?_
        refine go ?_
        rcases bcases (!y38) with hc40 | hc40
        · replace h := bcT h hc40
          refine go ?_
          cases oi h
          exact ⟨⟨rfl, rfl, rfl, rfl, rfl, rfl, rfl, trivial⟩, hS8.pick [0, 1] rfl rfl⟩
        replace h := bcF h hc40
        refine go ?_
        replace ⟨y41, hy41, h⟩ := obind h
        refine go ?_
        refine LW.c0 (W_i_leadsUp hy41 rfl (hS8.rB hr0_0)) hS8 fun w42 hS9 => ?_
        refine go ?_
        cases oi h
        exact ⟨⟨rfl, rfl, rfl, rfl, rfl, rfl, rfl, trivial⟩, hS9.pick [0, 1] rfl rfl⟩
      rintro e w43 ⟨hE, hS10⟩
      obtain ⟨e, rfl⟩ := hE.out
      have h := h37
      refine go ?_
      refine CW.cond rfl (fun hc44 => ?_) (fun hc44 => ?_)
      · replace h := bcT h hc44
        refine go ?_
        cases oi h
        exact ⟨trivial, rfl, _, rfl, ⟨_, Res.one (resOne.t rfl), rfl, hS10.pick [] rfl rfl⟩⟩
      replace h := bcF h hc44
      refine go ?_
      replace ⟨y45, hy45, h⟩ := obind h
      refine LW.c0 (W_i_sumOf hy45) hS10 fun w46 hS11 => ?_
      refine LW.st hS11 1 fun w47 hS12 => ?_
      refine go ?_
      cases oi h
      exact ⟨rfl, ⟨⟨rfl, rfl, rfl, rfl, rfl, trivial⟩, hS12.pick [1] rfl rfl⟩⟩
    replace h := bcF h hc21
    refine go ?_
    cases oi h
    exact ⟨trivial, rfl, ⟨⟨rfl, trivial⟩, hS5.pick [0] rfl rfl⟩⟩
  intro x e w50 hM
  rcases o48 with o48 | r53
  · obtain ⟨rfl, hM⟩ := hM
    obtain ⟨hE, hS13⟩ := hM
    obtain ⟨e, rfl⟩ := hE.out
    have h := h49
    refine go ?_
    replace ⟨y51, hy51, h⟩ := obind h
    refine LW.c0 (W_i_AmtOk hy51) hS13 fun w52 hS14 => ?_
    refine go ?_
    cases h
    exact And.intro trivial ⟨_, Res.one (resOne.t rfl), rfl, hS14.pick [] rfl rfl⟩
  obtain ⟨rfl, u, rfl, hM⟩ := hM
  cases h49
  exact And.intro trivial hM

theorem W_i_ArenaOk {w0 : World} {N : Nat} {x0 : List DObj} {r : Bool} (h : F_i_ArenaOk N x0 = some r) {a0_0 : Option Addr} {n0_0 c0_0 : Nat} (hn0_0 : n0_0 = x0.length) (hr0_0 : rdS (Bor w0 []) w0 a0_0 c0_0 x0) :
    Ret Tryz.prog 189 #[.slice a0_0 n0_0 c0_0] w0 (fun v w => v = .bool r ∧ St w0 [] w []) := by
  subst hn0_0
  unfold F_i_ArenaOk at h
  refine Ret.fn Tryz.func189 fun e => ?_
  have hS1 := St.start w0
  refine gs ?_
  refine CW.region ?_
  refine gs ?_
  obtain ⟨j1, hj1, h2⟩ := obind h
  refine CW.cut (fun e wb => En e [(0, .slice a0_0 x0.length c0_0), (30, .bool j1)] ∧ St w0 [] wb []) ?_ ?_
  · have h := hj1
    refine go ?_
    rcases bcases ((x0.length : Int) != 10) with hc3 | hc3
    · replace h := bcT h hc3
      refine go ?_
      cases oi h
      exact ⟨⟨rfl, rfl, trivial⟩, hS1.pick [] rfl rfl⟩
    replace h := bcF h hc3
    refine go ?_
    replace ⟨y4, hy4, h⟩ := obind h
    obtain ⟨b7, o8, cs9, hae, hb12, hp5, hq6, hd10, hk11⟩ := hr0_0.idx hy4
    subst hae
    obtain ⟨a13, c14, a16, c17, a19, c20, rfl, hr15, hr18, hr21⟩ := hd10
    refine go ?_
    refine LW.u (Pur.ix Tryz.underlying59 sz92 rfl rfl hp5 hq6) rfl ?_
    refine go ?_
    refine LW.l (Ldr.old w0 ag3 rfl (hk11 1 _ rfl)) (hS1.same _ hb12.1 hb12.2) rfl ?_
    refine go ?_
    rcases bcases (y4.kind != 1) with hc22 | hc22
    · replace h := bcT h hc22
      refine go ?_
      cases oi h
      exact ⟨⟨rfl, rfl, trivial⟩, hS1.pick [] rfl rfl⟩
    replace h := bcF h hc22
    refine go ?_
    refine LW.u (Pur.ix Tryz.underlying59 sz92 rfl rfl hp5 hq6) rfl ?_
    refine go ?_
    refine LW.l (Ldr.old w0 ag3 rfl (hk11 2 _ rfl)) (hS1.same _ hb12.1 hb12.2) rfl ?_
    refine go ?_
    rcases bcases (y4.box != (-1)) with hc23 | hc23
    · replace h := bcT h hc23
      refine go ?_
      cases oi h
      exact ⟨⟨rfl, rfl, trivial⟩, hS1.pick [] rfl rfl⟩
    replace h := bcF h hc23
    refine go ?_
    refine LW.u (Pur.ix Tryz.underlying59 sz92 rfl rfl hp5 hq6) rfl ?_
    refine go ?_
    refine LW.fl [0, 24, 27] fun e => ?_
    refine go ?_
    refine LW.l (Ldr.old w0 ag3 rfl (hk11 4 _ rfl)) (hS1.same _ hb12.1 hb12.2) rfl ?_
    refine go ?_
    cases oi h
    exact ⟨⟨rfl, rfl, trivial⟩, hS1.pick [] rfl rfl⟩
  rintro e w24 ⟨hE, hS2⟩
  obtain ⟨e, rfl⟩ := hE.out
  have h := h2
  refine go ?_
  refine CW.cond rfl (fun hc25 => ?_) (fun hc25 => ?_)
  · replace h := bcT h hc25
    refine go ?_
    cases h
    exact And.intro trivial ⟨_, Res.one (resOne.t rfl), rfl, hS2.pick [] rfl rfl⟩
  replace h := bcF h hc25
  refine go ?_
  obtain ⟨o117, ho117, h118⟩ := obind h
  refine CW.mono (CW.iter (σ := Int) (ρ := Int ⊕ Bool) (fun s26 e wb => En e [(0, .slice a0_0 x0.length c0_0), (31, .slice a0_0 x0.length c0_0), (32, .int .i64 (x0.length : Int)), (33, .int .i64 s26)] ∧ St w0 [] wb []) (fun o x e wb => match o with | .inl s26 => x = .exit 0 ∧ En e [] ∧ St w0 [] wb [] | .inr r => x = .ret ∧ ∃ u, u = r ∧ ∃ v, Res Tryz.prog Tryz.f189.results e wb v ∧ v = .bool u ∧ St w0 [] wb []) ?_ N 0 _ _ _ ⟨⟨rfl, rfl, rfl, rfl, trivial⟩, hS2.pick [] rfl rfl⟩ ho117) ?_
  · intro s26 e w27 o hM h
    obtain ⟨hE, hS3⟩ := hM
    obtain ⟨e, rfl⟩ := hE.out
    refine go ?_
    refine CW.cond rfl (fun hc28 => ?_) (fun hc28 => ?_)
    · replace h := bcT h hc28
      refine go ?_
      replace ⟨y29, hy29, h⟩ := obind h
      obtain ⟨b32, o33, cs34, hae, hb37, hp30, hq31, hd35, hk36⟩ := hr0_0.idx hy29
      subst hae
      obtain ⟨a38, c39, a41, c42, a44, c45, rfl, hr40, hr43, hr46⟩ := hd35
      refine LW.u (Pur.ix Tryz.underlying59 sz92 rfl rfl hp30 hq31) rfl ?_
      refine LW.l (Ldr.oldN w0 ag92 rfl rfl (fun j u hu => hk36 j u hu)) (hS3.same _ hb37.1 hb37.2) rfl ?_
      refine LW.al hS3 fun g47 w48 hS4 => ?_
      refine go ?_
      refine LW.st hS4 0 fun w49 hS5 => ?_
      refine gs ?_
      obtain ⟨j50, hj50, h51⟩ := obind h
      refine CW.cut (fun e wb => En e [(0, .slice (some ⟨b32, o33, none⟩) x0.length c0_0), (4, .pointer (some ⟨g47, 0, none⟩)), (31, .slice (some ⟨b32, o33, none⟩) x0.length c0_0), (32, .int .i64 (x0.length : Int)), (33, .int .i64 s26), (63, .bool j50)] ∧ St w0 [] wb [bx g47 92 [.int .i64 y29.gen, .int .i64 y29.kind, .int .i64 y29.box, .int .i64 y29.res, .int .i64 y29.til, .int .i64 y29.pages, .int .i64 y29.wait, .int .i64 y29.got, .int .i64 y29.ran, .bool y29.mark, .slice a38 y29.links.length c39, .slice a41 y29.data.length c42, .slice a44 y29.queue.length c45]]) ?_ ?_
      · have h := hj50
        refine go ?_
        replace ⟨y52, hy52, h⟩ := obind h
        refine LW.c0 (W_i_ObjOk hy52 rfl (hS5.rB hr40) rfl (hS5.rB hr43) rfl (hS5.rB hr46)) hS5 fun w53 hS6 => ?_
        refine go ?_
        rcases bcases (!y52) with hc54 | hc54
        · replace h := bcT h hc54
          refine go ?_
          cases oi h
          exact ⟨⟨rfl, rfl, rfl, rfl, rfl, rfl, trivial⟩, hS6.pick [0] rfl rfl⟩
        replace h := bcF h hc54
        refine go ?_
        rcases bcases (decide (s26 > 0)) with hc55 | hc55
        · replace h := bcT h hc55
          refine go ?_
          refine LW.fl [0, 4, 31, 32, 33, 41, 49] fun e => ?_
          rcases bcases (y29.kind != 0) with hc56 | hc56
          · replace h := bcT h hc56
            refine go ?_
            rcases bcases (decide (y29.box ≥ 0)) with hc57 | hc57
            · replace h := bcT h hc57
              refine go ?_
              replace ⟨y58, hy58, h⟩ := obind h
              obtain ⟨b61, o62, cs63, hae, hb66, hp59, hq60, hd64, hk65⟩ := hr0_0.idx hy58
              cases hae
              obtain ⟨a67, c68, a70, c71, a73, c74, rfl, hr69, hr72, hr75⟩ := hd64
              refine go ?_
              refine LW.u (Pur.ix Tryz.underlying59 sz92 rfl rfl hp59 hq60) rfl ?_
              refine go ?_
              refine LW.l (Ldr.old w0 ag3 rfl (hk65 1 _ rfl)) (hS6.same _ hb66.1 hb66.2) rfl ?_
              refine go ?_
              cases oi h
              exact ⟨⟨rfl, rfl, rfl, rfl, rfl, rfl, trivial⟩, hS6.pick [0] rfl rfl⟩
            replace h := bcF h hc57
            refine go ?_
            cases oi h
            exact ⟨⟨rfl, rfl, rfl, rfl, rfl, rfl, trivial⟩, hS6.pick [0] rfl rfl⟩
          replace h := bcF h hc56
          refine go ?_
          cases oi h
          exact ⟨⟨rfl, rfl, rfl, rfl, rfl, rfl, trivial⟩, hS6.pick [0] rfl rfl⟩
        replace h := bcF h hc55
        refine go ?_
        cases oi h
        exact ⟨⟨rfl, rfl, rfl, rfl, rfl, rfl, trivial⟩, hS6.pick [0] rfl rfl⟩
      rintro e w76 ⟨hE, hS7⟩
      obtain ⟨e, rfl⟩ := hE.out
      have h := h51
      refine go ?_
      refine CW.cond rfl (fun hc77 => ?_) (fun hc77 => ?_)
      · replace h := bcT h hc77
        refine go ?_
        cases oi h
        exact ⟨trivial, rfl, _, rfl, ⟨_, Res.one (resOne.t rfl), rfl, hS7.pick [] rfl rfl⟩⟩
      replace h := bcF h hc77
      refine go ?_
      obtain ⟨o113, ho113, h114⟩ := obind h
      refine CW.mono (CW.iter (σ := Int) (ρ := Int ⊕ Bool) (fun s78 e wb => En e [(0, .slice (some ⟨b32, o33, none⟩) x0.length c0_0), (31, .slice (some ⟨b32, o33, none⟩) x0.length c0_0), (32, .int .i64 (x0.length : Int)), (33, .int .i64 s26), (65, .slice a38 y29.links.length c39), (66, .int .i64 (y29.links.length : Int)), (67, .int .i64 s78)] ∧ St w0 [] wb []) (fun o x e wb => match o with | .inl s78 => x = .exit 2 ∧ En e [(0, .slice (some ⟨b32, o33, none⟩) x0.length c0_0), (31, .slice (some ⟨b32, o33, none⟩) x0.length c0_0), (32, .int .i64 (x0.length : Int)), (33, .int .i64 s26)] ∧ St w0 [] wb [] | .inr r => x = .ret ∧ ∃ u, u = r ∧ ∃ v, Res Tryz.prog Tryz.f189.results e wb v ∧ v = .bool u ∧ St w0 [] wb []) ?_ N 0 _ _ _ ⟨⟨rfl, rfl, rfl, rfl, rfl, rfl, rfl, trivial⟩, hS7.pick [] rfl rfl⟩ ho113) ?_
      · intro s78 e w79 o hM h
        obtain ⟨hE, hS8⟩ := hM
        obtain ⟨e, rfl⟩ := hE.out
        refine go ?_
        refine CW.fl [0, 31, 32, 33, 65, 66, 67, 68] fun e => ?_
        refine CW.cond rfl (fun hc80 => ?_) (fun hc80 => ?_)
        · replace h := bcT h hc80
          refine go ?_
          replace ⟨y81, hy81, h⟩ := obind h
          obtain ⟨b84, o85, cs86, hae, hb89, hp82, hq83, hd87, hk88⟩ := hr40.idx hy81
          subst hae
          obtain rfl := hd87
          refine LW.u (Pur.ix Tryz.underlying28 sz3 rfl rfl hp82 hq83) rfl ?_
          refine LW.l (Ldr.old w0 ag3 rfl (hk88 0 _ rfl)) (hS8.same _ hb89.1 hb89.2) rfl ?_
          refine gs ?_
          obtain ⟨j90, hj90, h91⟩ := obind h
          refine CW.cut (fun e wb => En e [(0, .slice (some ⟨b32, o33, none⟩) x0.length c0_0), (31, .slice (some ⟨b32, o33, none⟩) x0.length c0_0), (32, .int .i64 (x0.length : Int)), (33, .int .i64 s26), (65, .slice (some ⟨b84, o85, none⟩) y29.links.length c39), (66, .int .i64 (y29.links.length : Int)), (67, .int .i64 s78), (80, .bool j90)] ∧ St w0 [] wb []) ?_ ?_
          · have h := hj90
            refine go ?_
            rcases bcases (decide (y81 ≥ 0)) with hc92 | hc92
            · replace h := bcT h hc92
              refine go ?_
              replace ⟨y93, hy93, h⟩ := obind h
              obtain ⟨b96, o97, cs98, hae, hb101, hp94, hq95, hd99, hk100⟩ := hr0_0.idx hy93
              cases hae
              obtain ⟨a102, c103, a105, c106, a108, c109, rfl, hr104, hr107, hr110⟩ := hd99
              refine go ?_
              refine LW.u (Pur.ix Tryz.underlying59 sz92 rfl rfl hp94 hq95) rfl ?_
              refine go ?_
              refine LW.l (Ldr.old w0 ag3 rfl (hk100 1 _ rfl)) (hS8.same _ hb101.1 hb101.2) rfl ?_
              refine go ?_
              cases oi h
              exact ⟨⟨rfl, rfl, rfl, rfl, rfl, rfl, rfl, rfl, trivial⟩, hS8.pick [] rfl rfl⟩
            replace h := bcF h hc92
            refine go ?_
            cases oi h
            exact ⟨⟨rfl, rfl, rfl, rfl, rfl, rfl, rfl, rfl, trivial⟩, hS8.pick [] rfl rfl⟩
          rintro e w111 ⟨hE, hS9⟩
          obtain ⟨e, rfl⟩ := hE.out
          have h := h91
          refine go ?_
          refine CW.cond rfl (fun hc112 => ?_) (fun hc112 => ?_)
          · replace h := bcT h hc112
            refine go ?_
            cases oi h
            exact ⟨trivial, rfl, _, rfl, ⟨_, Res.one (resOne.t rfl), rfl, hS9.pick [] rfl rfl⟩⟩
          replace h := bcF h hc112
          refine go ?_
          cases oi h
          exact ⟨rfl, ⟨⟨rfl, rfl, rfl, rfl, rfl, rfl, rfl, trivial⟩, hS9.pick [] rfl rfl⟩⟩
        replace h := bcF h hc80
        refine go ?_
        cases oi h
        exact ⟨trivial, rfl, ⟨⟨rfl, rfl, rfl, rfl, trivial⟩, hS8.pick [] rfl rfl⟩⟩
      intro x e w115 hM
      rcases o113 with o113 | r116
      · obtain ⟨rfl, hM⟩ := hM
        obtain ⟨hE, hS10⟩ := hM
        obtain ⟨e, rfl⟩ := hE.out
        have h := h114
        refine go ?_
        cases oi h
        exact ⟨rfl, ⟨⟨rfl, rfl, rfl, rfl, trivial⟩, hS10.pick [] rfl rfl⟩⟩
      obtain ⟨rfl, u, rfl, hM⟩ := hM
      cases h114
      exact ⟨trivial, rfl, _, rfl, hM⟩
    replace h := bcF h hc28
    refine go ?_
    cases oi h
    exact ⟨trivial, rfl, ⟨trivial, hS3.pick [] rfl rfl⟩⟩
  intro x e w119 hM
  rcases o117 with o117 | r120
  · obtain ⟨rfl, hM⟩ := hM
    obtain ⟨hE, hS11⟩ := hM
    obtain ⟨e, rfl⟩ := hE.out; rw [show e = upds e [] from rfl]
    have h := h118
    refine go ?_
    cases h
    exact And.intro trivial ⟨_, Res.one (resOne.t rfl), rfl, hS11.pick [] rfl rfl⟩
  obtain ⟨rfl, u, rfl, hM⟩ := hM
  cases h118
  exact And.intro trivial hM

theorem W_l_eqHeap {w0 : World} {N : Nat} {x0 : DHeap} {x1 : DHeap} {r : Bool} (h : F_l_eqHeap N x0 x1 = some r) {a0_0 : Option Addr} {n0_0 c0_0 : Nat} (hn0_0 : n0_0 = x0.arena.length) (hr0_0 : rdS (Bor w0 []) w0 a0_0 c0_0 x0.arena) {a0_4 : Option Addr} {n0_4 c0_4 : Nat} (hn0_4 : n0_4 = x0.gc.grey.length) (hr0_4 : rdS (Bor w0 []) w0 a0_4 c0_4 x0.gc.grey) {a1_0 : Option Addr} {n1_0 c1_0 : Nat} (hn1_0 : n1_0 = x1.arena.length) (hr1_0 : rdS (Bor w0 []) w0 a1_0 c1_0 x1.arena) {a1_4 : Option Addr} {n1_4 c1_4 : Nat} (hn1_4 : n1_4 = x1.gc.grey.length) (hr1_4 : rdS (Bor w0 []) w0 a1_4 c1_4 x1.gc.grey) :
    Ret Tryz.prog 74 #[.agg #[.slice a0_0 n0_0 c0_0, .int .i64 x0.gc.phase, .int .i64 x0.gc.pos, .int .i64 x0.gc.round, .slice a0_4 n0_4 c0_4], .agg #[.slice a1_0 n1_0 c1_0, .int .i64 x1.gc.phase, .int .i64 x1.gc.pos, .int .i64 x1.gc.round, .slice a1_4 n1_4 c1_4]] w0 (fun v w => v = .bool r ∧ St w0 [] w []) := by
  subst hn0_0 hn0_4 hn1_0 hn1_4
  unfold F_l_eqHeap at h
  refine Ret.fn Tryz.func74 fun e => ?_
  have hS1 := St.start w0
  refine go ?_
  refine LW.bo hS1 fun g1 w2 hS2 => ?_
  refine LW.bo hS2 fun g3 w4 hS3 => ?_
  refine go ?_
  replace ⟨y5, hy5, h⟩ := obind h
  refine LW.c0 (W_l_eqObjS hy5 rfl (hS3.rB hr0_0) rfl (hS3.rB hr1_0)) hS3 fun w6 hS4 => ?_
  refine go ?_
  refine CW.cond rfl (fun hc7 => ?_) (fun hc7 => ?_)
  · replace h := bcT h hc7
    refine go ?_
    cases h
    exact And.intro trivial ⟨_, Res.one (resOne.t rfl), rfl, hS4.pick [] rfl rfl⟩
  replace h := bcF h hc7
  refine go ?_
  replace ⟨y8, hy8, h⟩ := obind h
  refine LW.c0 (W_l_eqGc hy8 rfl (hS4.rB hr0_4) rfl (hS4.rB hr1_4)) hS4 fun w9 hS5 => ?_
  refine go ?_
  refine CW.fl [16] fun e => ?_
  refine CW.cond rfl (fun hc10 => ?_) (fun hc10 => ?_)
  · replace h := bcT h hc10
    refine go ?_
    cases h
    exact And.intro trivial ⟨_, Res.one (resOne.t rfl), rfl, hS5.pick [] rfl rfl⟩
  replace h := bcF h hc10
  refine go ?_
  cases h
  exact And.intro trivial ⟨_, Res.one (resOne.t rfl), rfl, hS5.pick [] rfl rfl⟩

theorem W_l_toPart {w0 : World} {N : Nat} {x0 : DPart} {r : DPart} (h : F_l_toPart N x0 = some r) {a0_0 : Option Addr} {n0_0 c0_0 : Nat} (hn0_0 : n0_0 = x0.label.levels.length) (hr0_0 : rdS (Bor w0 []) w0 a0_0 c0_0 x0.label.levels) {a0_1 : Option Addr} {n0_1 c0_1 : Nat} (hn0_1 : n0_1 = x0.own.length) (hr0_1 : rdS (Bor w0 []) w0 a0_1 c0_1 x0.own) {a0_2 : Option Addr} {n0_2 c0_2 : Nat} (hn0_2 : n0_2 = x0.tree.length) (hr0_2 : rdS (Bor w0 []) w0 a0_2 c0_2 x0.tree) {a0_3 : Option Addr} {n0_3 c0_3 : Nat} (hn0_3 : n0_3 = x0.heap.arena.length) (hr0_3 : rdS (Bor w0 []) w0 a0_3 c0_3 x0.heap.arena) {a0_7 : Option Addr} {n0_7 c0_7 : Nat} (hn0_7 : n0_7 = x0.heap.gc.grey.length) (hr0_7 : rdS (Bor w0 []) w0 a0_7 c0_7 x0.heap.gc.grey) {a0_8 : Option Addr} {n0_8 c0_8 : Nat} (hn0_8 : n0_8 = x0.taps.length) (hr0_8 : rdS (Bor w0 []) w0 a0_8 c0_8 x0.taps) :
    Ret Tryz.prog 24 #[.agg #[.slice a0_0 n0_0 c0_0, .slice a0_1 n0_1 c0_1, .slice a0_2 n0_2 c0_2, .slice a0_3 n0_3 c0_3, .int .i64 x0.heap.gc.phase, .int .i64 x0.heap.gc.pos, .int .i64 x0.heap.gc.round, .slice a0_7 n0_7 c0_7, .slice a0_8 n0_8 c0_8, .int .i64 x0.next, .int .i64 x0.want, .int .i64 x0.spent.pages, .int .i64 x0.spent.rent, .int .i64 x0.spent.cpu, .int .i64 x0.press, .int .i64 x0.lost]] w0 (fun v w => ∃ ar0_0 cr0_0, ∃ ar0_1 cr0_1, ∃ ar0_2 cr0_2, ∃ ar0_3 cr0_3, ∃ ar0_7 cr0_7, ∃ ar0_8 cr0_8, v = .agg #[.slice ar0_0 r.label.levels.length cr0_0, .slice ar0_1 r.own.length cr0_1, .slice ar0_2 r.tree.length cr0_2, .slice ar0_3 r.heap.arena.length cr0_3, .int .i64 r.heap.gc.phase, .int .i64 r.heap.gc.pos, .int .i64 r.heap.gc.round, .slice ar0_7 r.heap.gc.grey.length cr0_7, .slice ar0_8 r.taps.length cr0_8, .int .i64 r.next, .int .i64 r.want, .int .i64 r.spent.pages, .int .i64 r.spent.rent, .int .i64 r.spent.cpu, .int .i64 r.press, .int .i64 r.lost] ∧ St w0 [] w [sl ar0_0 cr0_0 r.label.levels, sl ar0_1 cr0_1 r.own, sl ar0_2 cr0_2 r.tree, sl ar0_3 cr0_3 r.heap.arena, sl ar0_7 cr0_7 r.heap.gc.grey, sl ar0_8 cr0_8 r.taps]) := by
  subst hn0_0 hn0_1 hn0_2 hn0_3 hn0_7 hn0_8
  unfold F_l_toPart at h
  refine Ret.fn Tryz.func24 fun e => ?_
  have hS1 := St.start w0
  refine go ?_
  refine LW.bo hS1 fun g1 w2 hS2 => ?_
  refine LW.al hS2 fun g3 w4 hS3 => ?_
  refine go ?_
  refine LW.al hS3 fun g5 w6 hS4 => ?_
  refine go ?_
  replace ⟨y7, hy7, h⟩ := obind h
  refine LW.cl (W_l_toLabel hy7 rfl (hS4.rB hr0_0)) ?_
  rintro _ w10 ⟨a8, c9, rfl, hs⟩
  have hS5 := hS4.add hs
  refine go ?_
  refine LW.st hS5 1 fun w11 hS6 => ?_
  refine go ?_
  replace ⟨y12, hy12, h⟩ := obind h
  refine LW.cl (W_l_toIntS hy12 rfl (hS6.rB hr0_1)) ?_
  rintro _ w15 ⟨a13, c14, rfl, hs⟩
  have hS7 := hS6.add hs
  refine go ?_
  refine LW.st hS7 2 fun w16 hS8 => ?_
  refine go ?_
  replace ⟨y17, hy17, h⟩ := obind h
  refine LW.cl (W_l_toResS hy17 rfl (hS8.rB hr0_2)) ?_
  rintro _ w20 ⟨a18, c19, rfl, hs⟩
  have hS9 := hS8.add hs
  refine go ?_
  refine LW.st hS9 3 fun w21 hS10 => ?_
  refine go ?_
  replace ⟨y22, hy22, h⟩ := obind h
  refine LW.cl (W_l_toHeap hy22 rfl (hS10.rB hr0_3) rfl (hS10.rB hr0_7)) ?_
  rintro _ w27 ⟨a23, c24, a25, c26, rfl, hs⟩
  have hS11 := hS10.add hs
  refine go ?_
  refine LW.st hS11 5 fun w28 hS12 => ?_
  refine go ?_
  refine LW.fl [1, 2, 3, 21] fun e => ?_
  replace ⟨y29, hy29, h⟩ := obind h
  refine LW.cl (W_l_toTapS hy29 rfl (hS12.rB hr0_8)) ?_
  rintro _ w32 ⟨a30, c31, rfl, hs⟩
  have hS13 := hS12.add hs
  refine go ?_
  refine LW.st hS13 6 fun w33 hS14 => ?_
  refine go ?_
  refine LW.st hS14 6 fun w34 hS15 => ?_
  refine go ?_
  refine LW.st hS15 6 fun w35 hS16 => ?_
  refine go ?_
  replace ⟨y36, hy36, h⟩ := obind h
  refine LW.c0 (W_l_toAmt hy36) hS16 fun w37 hS17 => ?_
  refine go ?_
  refine LW.st hS17 6 fun w38 hS18 => ?_
  refine go ?_
  refine LW.st hS18 6 fun w39 hS19 => ?_
  refine go ?_
  refine LW.st hS19 6 fun w40 hS20 => ?_
  refine go ?_
  refine LW.fl [2, 40] fun e => ?_
  refine LW.st hS20 7 fun w41 hS21 => ?_
  refine go ?_
  cases h
  exact And.intro trivial ⟨_, Res.one (resOne.b hS21 7 rfl ag66 rfl rfl), a8, c9, a13, c14, a18, c19, a23, c24, a25, c26, a30, c31, rfl, hS21.pick [5, 4, 3, 1, 2, 0] rfl rfl⟩

theorem W_s_PartOk {w0 : World} {N : Nat} {x0 : DPart} {r : Bool} (h : F_s_PartOk N x0 = some r) {a0_0 : Option Addr} {n0_0 c0_0 : Nat} (hn0_0 : n0_0 = x0.label.levels.length) (hr0_0 : rdS (Bor w0 []) w0 a0_0 c0_0 x0.label.levels) {a0_1 : Option Addr} {n0_1 c0_1 : Nat} (hn0_1 : n0_1 = x0.own.length) (hr0_1 : rdS (Bor w0 []) w0 a0_1 c0_1 x0.own) {a0_2 : Option Addr} {n0_2 c0_2 : Nat} (hn0_2 : n0_2 = x0.tree.length) (hr0_2 : rdS (Bor w0 []) w0 a0_2 c0_2 x0.tree) {a0_3 : Option Addr} {n0_3 c0_3 : Nat} (hn0_3 : n0_3 = x0.heap.arena.length) (hr0_3 : rdS (Bor w0 []) w0 a0_3 c0_3 x0.heap.arena) {a0_7 : Option Addr} {n0_7 c0_7 : Nat} (hn0_7 : n0_7 = x0.heap.gc.grey.length) (hr0_7 : rdS (Bor w0 []) w0 a0_7 c0_7 x0.heap.gc.grey) {a0_8 : Option Addr} {n0_8 c0_8 : Nat} (hn0_8 : n0_8 = x0.taps.length) (hr0_8 : rdS (Bor w0 []) w0 a0_8 c0_8 x0.taps) :
    Ret Tryz.prog 60 #[.agg #[.slice a0_0 n0_0 c0_0, .slice a0_1 n0_1 c0_1, .slice a0_2 n0_2 c0_2, .slice a0_3 n0_3 c0_3, .int .i64 x0.heap.gc.phase, .int .i64 x0.heap.gc.pos, .int .i64 x0.heap.gc.round, .slice a0_7 n0_7 c0_7, .slice a0_8 n0_8 c0_8, .int .i64 x0.next, .int .i64 x0.want, .int .i64 x0.spent.pages, .int .i64 x0.spent.rent, .int .i64 x0.spent.cpu, .int .i64 x0.press, .int .i64 x0.lost]] w0 (fun v w => v = .bool r ∧ St w0 [] w []) := by
  subst hn0_0 hn0_1 hn0_2 hn0_3 hn0_7 hn0_8
  unfold F_s_PartOk at h
  refine Ret.fn Tryz.func60 fun e => ?_
  have hS1 := St.start w0
  refine go ?_
  refine LW.bo hS1 fun g1 w2 hS2 => ?_
  refine gs ?_
  obtain ⟨j3, hj3, h4⟩ := obind h
  refine CW.cut (fun e wb => En e [(1, .pointer (some ⟨g1, 0, none⟩)), (61, .bool j3)] ∧ St w0 [] wb [bx g1 66 [.slice a0_0 x0.label.levels.length c0_0, .slice a0_1 x0.own.length c0_1, .slice a0_2 x0.tree.length c0_2, .slice a0_3 x0.heap.arena.length c0_3, .int .i64 x0.heap.gc.phase, .int .i64 x0.heap.gc.pos, .int .i64 x0.heap.gc.round, .slice a0_7 x0.heap.gc.grey.length c0_7, .slice a0_8 x0.taps.length c0_8, .int .i64 x0.next, .int .i64 x0.want, .int .i64 x0.spent.pages, .int .i64 x0.spent.rent, .int .i64 x0.spent.cpu, .int .i64 x0.press, .int .i64 x0.lost]]) ?_ ?_
  · have h := hj3
    refine go ?_
    replace ⟨y5, hy5, h⟩ := obind h
    refine LW.c0 (W_s_LabelOk hy5 rfl (hS2.rB hr0_0)) hS2 fun w6 hS3 => ?_
    refine go ?_
    rcases bcases (!y5) with hc7 | hc7
    · replace h := bcT h hc7
      refine go ?_
      cases oi h
      exact ⟨⟨rfl, rfl, trivial⟩, hS3.pick [0] rfl rfl⟩
    replace h := bcF h hc7
    refine go ?_
    replace ⟨y8, hy8, h⟩ := obind h
    refine go ?_
    refine LW.c0 (W_s_OwnOk hy8 rfl (hS3.rB hr0_1)) hS3 fun w9 hS4 => ?_
    refine go ?_
    rcases bcases (!y8) with hc10 | hc10
    · replace h := bcT h hc10
      refine go ?_
      cases oi h
      exact ⟨⟨rfl, rfl, trivial⟩, hS4.pick [0] rfl rfl⟩
    replace h := bcF h hc10
    refine go ?_
    replace ⟨y11, hy11, h⟩ := obind h
    refine go ?_
    refine LW.c0 (W_s_TreeOk hy11 rfl (hS4.rB hr0_2)) hS4 fun w12 hS5 => ?_
    refine go ?_
    rcases bcases (!y11) with hc13 | hc13
    · replace h := bcT h hc13
      refine go ?_
      cases oi h
      exact ⟨⟨rfl, rfl, trivial⟩, hS5.pick [0] rfl rfl⟩
    replace h := bcF h hc13
    refine go ?_
    replace ⟨y14, hy14, h⟩ := obind h
    refine go ?_
    refine LW.c0 (W_s_HeapOk hy14 rfl (hS5.rB hr0_3) rfl (hS5.rB hr0_7)) hS5 fun w15 hS6 => ?_
    refine go ?_
    refine LW.fl [1, 26] fun e => ?_
    rcases bcases (!y14) with hc16 | hc16
    · replace h := bcT h hc16
      refine go ?_
      cases oi h
      exact ⟨⟨rfl, rfl, trivial⟩, hS6.pick [0] rfl rfl⟩
    replace h := bcF h hc16
    refine go ?_
    rcases bcases (decide ((x0.taps.length : Int) > 3)) with hc17 | hc17
    · replace h := bcT h hc17
      refine go ?_
      cases oi h
      exact ⟨⟨rfl, rfl, trivial⟩, hS6.pick [0] rfl rfl⟩
    replace h := bcF h hc17
    refine go ?_
    replace ⟨y18, hy18, h⟩ := obind h
    refine go ?_
    refine LW.c0 (W_s_l8Slot hy18) hS6 fun w19 hS7 => ?_
    refine go ?_
    rcases bcases (!y18) with hc20 | hc20
    · replace h := bcT h hc20
      refine go ?_
      cases oi h
      exact ⟨⟨rfl, rfl, trivial⟩, hS7.pick [0] rfl rfl⟩
    replace h := bcF h hc20
    refine go ?_
    replace ⟨y21, hy21, h⟩ := obind h
    refine go ?_
    refine LW.c0 (W_s_l1In hy21) hS7 fun w22 hS8 => ?_
    refine go ?_
    rcases bcases (!y21) with hc23 | hc23
    · replace h := bcT h hc23
      refine go ?_
      cases oi h
      exact ⟨⟨rfl, rfl, trivial⟩, hS8.pick [0] rfl rfl⟩
    replace h := bcF h hc23
    refine go ?_
    replace ⟨y24, hy24, h⟩ := obind h
    refine go ?_
    refine LW.c0 (W_s_AmtOk hy24) hS8 fun w25 hS9 => ?_
    refine go ?_
    refine LW.fl [1, 50] fun e => ?_
    rcases bcases (!y24) with hc26 | hc26
    · replace h := bcT h hc26
      refine go ?_
      cases oi h
      exact ⟨⟨rfl, rfl, trivial⟩, hS9.pick [0] rfl rfl⟩
    replace h := bcF h hc26
    refine go ?_
    replace ⟨y27, hy27, h⟩ := obind h
    refine go ?_
    refine LW.c0 (W_s_l1In hy27) hS9 fun w28 hS10 => ?_
    refine go ?_
    rcases bcases (!y27) with hc29 | hc29
    · replace h := bcT h hc29
      refine go ?_
      cases oi h
      exact ⟨⟨rfl, rfl, trivial⟩, hS10.pick [0] rfl rfl⟩
    replace h := bcF h hc29
    refine go ?_
    replace ⟨y30, hy30, h⟩ := obind h
    refine go ?_
    refine LW.c0 (W_s_l1In hy30) hS10 fun w31 hS11 => ?_
    refine go ?_
    cases oi h
    exact ⟨⟨rfl, rfl, trivial⟩, hS11.pick [0] rfl rfl⟩
  rintro e w32 ⟨hE, hS12⟩
  obtain ⟨e, rfl⟩ := hE.out
  have h := h4
  refine go ?_
  refine CW.cond rfl (fun hc33 => ?_) (fun hc33 => ?_)
  · replace h := bcT h hc33
    refine go ?_
    cases h
    exact And.intro trivial ⟨_, Res.one (resOne.t rfl), rfl, hS12.pick [] rfl rfl⟩
  replace h := bcF h hc33
  refine go ?_
  obtain ⟨o49, ho49, h50⟩ := obind h
  refine CW.mono (CW.iter (σ := Int) (ρ := Int ⊕ Bool) (fun s34 e wb => En e [(1, .pointer (some ⟨g1, 0, none⟩)), (3, .int .i64 s34)] ∧ St w0 [] wb [bx g1 66 [.slice a0_0 x0.label.levels.length c0_0, .slice a0_1 x0.own.length c0_1, .slice a0_2 x0.tree.length c0_2, .slice a0_3 x0.heap.arena.length c0_3, .int .i64 x0.heap.gc.phase, .int .i64 x0.heap.gc.pos, .int .i64 x0.heap.gc.round, .slice a0_7 x0.heap.gc.grey.length c0_7, .slice a0_8 x0.taps.length c0_8, .int .i64 x0.next, .int .i64 x0.want, .int .i64 x0.spent.pages, .int .i64 x0.spent.rent, .int .i64 x0.spent.cpu, .int .i64 x0.press, .int .i64 x0.lost]]) (fun o x e wb => match o with | .inl s34 => x = .exit 0 ∧ En e [] ∧ St w0 [] wb [bx g1 66 [.slice a0_0 x0.label.levels.length c0_0, .slice a0_1 x0.own.length c0_1, .slice a0_2 x0.tree.length c0_2, .slice a0_3 x0.heap.arena.length c0_3, .int .i64 x0.heap.gc.phase, .int .i64 x0.heap.gc.pos, .int .i64 x0.heap.gc.round, .slice a0_7 x0.heap.gc.grey.length c0_7, .slice a0_8 x0.taps.length c0_8, .int .i64 x0.next, .int .i64 x0.want, .int .i64 x0.spent.pages, .int .i64 x0.spent.rent, .int .i64 x0.spent.cpu, .int .i64 x0.press, .int .i64 x0.lost]] | .inr r => x = .ret ∧ ∃ u, u = r ∧ ∃ v, Res Tryz.prog Tryz.f60.results e wb v ∧ v = .bool u ∧ St w0 [] wb []) ?_ N 0 _ _ _ ⟨⟨rfl, rfl, trivial⟩, hS12.pick [0] rfl rfl⟩ ho49) ?_
  · intro s34 e w35 o hM h
    obtain ⟨hE, hS13⟩ := hM
    obtain ⟨e, rfl⟩ := hE.out
    refine go ?_
    refine CW.cond rfl (fun hc36 => ?_) (fun hc36 => ?_)
    · replace h := bcT h hc36
      refine go ?_
      replace ⟨y37, hy37, h⟩ := obind h
      obtain ⟨b40, o41, cs42, hae, hb45, hp38, hq39, hd43, hk44⟩ := hr0_8.idx hy37
      subst hae
      obtain rfl := hd43
      refine LW.u (Pur.ix Tryz.underlying63 sz131 rfl rfl hp38 hq39) rfl ?_
      refine LW.l (Ldr.oldN w0 ag131 rfl rfl (fun j u hu => hk44 j u hu)) (hS13.same _ hb45.1 hb45.2) rfl ?_
      replace ⟨y46, hy46, h⟩ := obind h
      refine LW.c0 (W_s_TapOk hy46) hS13 fun w47 hS14 => ?_
      refine go ?_
      refine CW.fl [1, 3, 75] fun e => ?_
      refine CW.cond rfl (fun hc48 => ?_) (fun hc48 => ?_)
      · replace h := bcT h hc48
        refine go ?_
        cases oi h
        exact ⟨trivial, rfl, _, rfl, ⟨_, Res.one (resOne.t rfl), rfl, hS14.pick [] rfl rfl⟩⟩
      replace h := bcF h hc48
      refine go ?_
      cases oi h
      exact ⟨rfl, ⟨⟨rfl, rfl, trivial⟩, hS14.pick [0] rfl rfl⟩⟩
    replace h := bcF h hc36
    refine go ?_
    cases oi h
    exact ⟨trivial, rfl, ⟨trivial, hS13.pick [0] rfl rfl⟩⟩
  intro x e w51 hM
  rcases o49 with o49 | r52
  · obtain ⟨rfl, hM⟩ := hM
    obtain ⟨hE, hS15⟩ := hM
    obtain ⟨e, rfl⟩ := hE.out; rw [show e = upds e [] from rfl]
    have h := h50
    refine go ?_
    cases h
    exact And.intro trivial ⟨_, Res.one (resOne.t rfl), rfl, hS15.pick [] rfl rfl⟩
  obtain ⟨rfl, u, rfl, hM⟩ := hM
  cases h50
  exact And.intro trivial hM

theorem W_i_HeapOk {w0 : World} {N : Nat} {x0 : DHeap} {r : Bool} (h : F_i_HeapOk N x0 = some r) {a0_0 : Option Addr} {n0_0 c0_0 : Nat} (hn0_0 : n0_0 = x0.arena.length) (hr0_0 : rdS (Bor w0 []) w0 a0_0 c0_0 x0.arena) {a0_4 : Option Addr} {n0_4 c0_4 : Nat} (hn0_4 : n0_4 = x0.gc.grey.length) (hr0_4 : rdS (Bor w0 []) w0 a0_4 c0_4 x0.gc.grey) :
    Ret Tryz.prog 147 #[.agg #[.slice a0_0 n0_0 c0_0, .int .i64 x0.gc.phase, .int .i64 x0.gc.pos, .int .i64 x0.gc.round, .slice a0_4 n0_4 c0_4]] w0 (fun v w => v = .bool r ∧ St w0 [] w []) := by
  subst hn0_0 hn0_4
  unfold F_i_HeapOk at h
  refine Ret.fn Tryz.func147 fun e => ?_
  have hS1 := St.start w0
  refine go ?_
  refine LW.bo hS1 fun g1 w2 hS2 => ?_
  refine go ?_
  obtain ⟨o31, ho31, h32⟩ := obind h
  refine CW.mono (CW.iter (σ := Int) (ρ := Int ⊕ Bool) (fun s3 e wb => En e [(1, .pointer (some ⟨g1, 0, none⟩)), (9, .slice a0_4 x0.gc.grey.length c0_4), (10, .int .i64 (x0.gc.grey.length : Int)), (11, .int .i64 s3)] ∧ St w0 [] wb [bx g1 62 [.slice a0_0 x0.arena.length c0_0, .int .i64 x0.gc.phase, .int .i64 x0.gc.pos, .int .i64 x0.gc.round, .slice a0_4 x0.gc.grey.length c0_4]]) (fun o x e wb => match o with | .inl s3 => x = .exit 0 ∧ En e [(1, .pointer (some ⟨g1, 0, none⟩))] ∧ St w0 [] wb [bx g1 62 [.slice a0_0 x0.arena.length c0_0, .int .i64 x0.gc.phase, .int .i64 x0.gc.pos, .int .i64 x0.gc.round, .slice a0_4 x0.gc.grey.length c0_4]] | .inr r => x = .ret ∧ ∃ u, u = r ∧ ∃ v, Res Tryz.prog Tryz.f147.results e wb v ∧ v = .bool u ∧ St w0 [] wb []) ?_ N 0 _ _ _ ⟨⟨rfl, rfl, rfl, rfl, trivial⟩, hS2.pick [0] rfl rfl⟩ ho31) ?_
  · intro s3 e w4 o hM h
    obtain ⟨hE, hS3⟩ := hM
    obtain ⟨e, rfl⟩ := hE.out
    refine go ?_
    refine CW.cond rfl (fun hc5 => ?_) (fun hc5 => ?_)
    · replace h := bcT h hc5
      refine go ?_
      replace ⟨y6, hy6, h⟩ := obind h
      obtain ⟨b9, o10, cs11, hae, hb14, hp7, hq8, hd12, hk13⟩ := hr0_4.idx hy6
      subst hae
      obtain rfl := hd12
      refine LW.u (Pur.ix Tryz.underlying28 sz3 rfl rfl hp7 hq8) rfl ?_
      refine LW.l (Ldr.old w0 ag3 rfl (hk13 0 _ rfl)) (hS3.same _ hb14.1 hb14.2) rfl ?_
      refine gs ?_
      obtain ⟨j15, hj15, h16⟩ := obind h
      refine CW.cut (fun e wb => En e [(1, .pointer (some ⟨g1, 0, none⟩)), (9, .slice (some ⟨b9, o10, none⟩) x0.gc.grey.length c0_4), (10, .int .i64 (x0.gc.grey.length : Int)), (11, .int .i64 s3), (27, .bool j15)] ∧ St w0 [] wb [bx g1 62 [.slice a0_0 x0.arena.length c0_0, .int .i64 x0.gc.phase, .int .i64 x0.gc.pos, .int .i64 x0.gc.round, .slice (some ⟨b9, o10, none⟩) x0.gc.grey.length c0_4]]) ?_ ?_
      · have h := hj15
        refine go ?_
        replace ⟨y17, hy17, h⟩ := obind h
        refine LW.c0 (W_i_isSlot hy17) hS3 fun w18 hS4 => ?_
        refine go ?_
        rcases bcases (!y17) with hc19 | hc19
        · replace h := bcT h hc19
          refine go ?_
          cases oi h
          exact ⟨⟨rfl, rfl, rfl, rfl, rfl, trivial⟩, hS4.pick [0] rfl rfl⟩
        replace h := bcF h hc19
        refine go ?_
        replace ⟨y20, hy20, h⟩ := obind h
        obtain ⟨a21, c22, he23, he24, hr25⟩ := rdS.sub' hr0_4 hy20
        have hle26 := (hr0_4).le
        refine go ?_
        refine LW.u (Pur.sub (α := Int) (l := x0.gc.grey) Tryz.underlying28 sz3 rfl bndN (bndS rfl) hy20 hle26 he23 he24) rfl ?_
        refine go ?_
        refine LW.fl [1, 9, 10, 11, 19, 24, 25] fun e => ?_
        replace ⟨y27, hy27, h⟩ := obind h
        refine go ?_
        refine LW.c0 (W_z_Contains_int hy27 rfl (hS4.rB hr25)) hS4 fun w28 hS5 => ?_
        refine go ?_
        cases oi h
        exact ⟨⟨rfl, rfl, rfl, rfl, rfl, trivial⟩, hS5.pick [0] rfl rfl⟩
      rintro e w29 ⟨hE, hS6⟩
      obtain ⟨e, rfl⟩ := hE.out
      have h := h16
      refine go ?_
      refine CW.fl [1, 9, 10, 11, 27] fun e => ?_
      refine CW.cond rfl (fun hc30 => ?_) (fun hc30 => ?_)
      · replace h := bcT h hc30
        refine go ?_
        cases oi h
        exact ⟨trivial, rfl, _, rfl, ⟨_, Res.one (resOne.t rfl), rfl, hS6.pick [] rfl rfl⟩⟩
      replace h := bcF h hc30
      refine go ?_
      cases oi h
      exact ⟨rfl, ⟨⟨rfl, rfl, rfl, rfl, trivial⟩, hS6.pick [0] rfl rfl⟩⟩
    replace h := bcF h hc5
    refine go ?_
    cases oi h
    exact ⟨trivial, rfl, ⟨⟨rfl, trivial⟩, hS3.pick [0] rfl rfl⟩⟩
  intro x e w33 hM
  rcases o31 with o31 | r54
  · obtain ⟨rfl, hM⟩ := hM
    obtain ⟨hE, hS7⟩ := hM
    obtain ⟨e, rfl⟩ := hE.out
    have h := h32
    refine gs ?_
    obtain ⟨j34, hj34, h35⟩ := obind h
    refine CW.cut (fun e wb => En e [(1, .pointer (some ⟨g1, 0, none⟩)), (5, .bool j34)] ∧ St w0 [] wb [bx g1 62 [.slice a0_0 x0.arena.length c0_0, .int .i64 x0.gc.phase, .int .i64 x0.gc.pos, .int .i64 x0.gc.round, .slice a0_4 x0.gc.grey.length c0_4]]) ?_ ?_
    · have h := hj34
      refine go ?_
      rcases bcases (x0.gc.phase == 0) with hc36 | hc36
      · replace h := bcT h hc36
        refine go ?_
        cases oi h
        exact ⟨⟨rfl, rfl, trivial⟩, hS7.pick [0] rfl rfl⟩
      replace h := bcF h hc36
      refine go ?_
      cases oi h
      exact ⟨⟨rfl, rfl, trivial⟩, hS7.pick [0] rfl rfl⟩
    rintro e w37 ⟨hE, hS8⟩
    obtain ⟨e, rfl⟩ := hE.out
    have h := h35
    refine gs ?_
    obtain ⟨j38, hj38, h39⟩ := obind h
    refine CW.cut (fun e wb => En e [(1, .pointer (some ⟨g1, 0, none⟩)), (5, .bool j34), (6, .bool j38)] ∧ St w0 [] wb [bx g1 62 [.slice a0_0 x0.arena.length c0_0, .int .i64 x0.gc.phase, .int .i64 x0.gc.pos, .int .i64 x0.gc.round, .slice a0_4 x0.gc.grey.length c0_4]]) ?_ ?_
    · have h := hj38
      refine go ?_
      rcases bcases (x0.gc.phase == 1) with hc40 | hc40
      · replace h := bcT h hc40
        refine go ?_
        replace ⟨y41, hy41, h⟩ := obind h
        refine go ?_
        refine LW.c0 (W_i_isSlot hy41) hS8 fun w42 hS9 => ?_
        refine go ?_
        rcases bcases y41 with hc43 | hc43
        · replace h := bcT h hc43
          refine go ?_
          cases oi h
          exact ⟨⟨rfl, rfl, rfl, trivial⟩, hS9.pick [0] rfl rfl⟩
        replace h := bcF h hc43
        refine go ?_
        cases oi h
        exact ⟨⟨rfl, rfl, rfl, trivial⟩, hS9.pick [0] rfl rfl⟩
      replace h := bcF h hc40
      refine go ?_
      cases oi h
      exact ⟨⟨rfl, rfl, rfl, trivial⟩, hS8.pick [0] rfl rfl⟩
    rintro e w44 ⟨hE, hS10⟩
    obtain ⟨e, rfl⟩ := hE.out
    have h := h39
    refine go ?_
    replace ⟨y45, hy45, h⟩ := obind h
    refine LW.c0 (W_i_ArenaOk hy45 rfl (hS10.rB hr0_0)) hS10 fun w46 hS11 => ?_
    refine go ?_
    rcases bcases y45 with hc47 | hc47
    · replace h := bcT h hc47
      refine go ?_
      rcases bcases j34 with hc48 | hc48
      · replace h := bcT h hc48
        refine go ?_
        replace ⟨y49, hy49, h⟩ := obind h
        refine go ?_
        refine LW.c0 (W_i_isTime hy49) hS11 fun w50 hS12 => ?_
        refine go ?_
        cases h
        exact And.intro trivial ⟨_, Res.one (resOne.t rfl), rfl, hS12.pick [] rfl rfl⟩
      replace h := bcF h hc48
      refine go ?_
      rcases bcases j38 with hc51 | hc51
      · replace h := bcT h hc51
        refine go ?_
        replace ⟨y52, hy52, h⟩ := obind h
        refine go ?_
        refine LW.c0 (W_i_isTime hy52) hS11 fun w53 hS13 => ?_
        refine go ?_
        cases h
        exact And.intro trivial ⟨_, Res.one (resOne.t rfl), rfl, hS13.pick [] rfl rfl⟩
      replace h := bcF h hc51
      refine go ?_
      cases h
      exact And.intro trivial ⟨_, Res.one (resOne.t rfl), rfl, hS11.pick [] rfl rfl⟩
    replace h := bcF h hc47
    refine go ?_
    cases h
    exact And.intro trivial ⟨_, Res.one (resOne.t rfl), rfl, hS11.pick [] rfl rfl⟩
  obtain ⟨rfl, u, rfl, hM⟩ := hM
  cases h32
  exact And.intro trivial hM

end Go.Kx
