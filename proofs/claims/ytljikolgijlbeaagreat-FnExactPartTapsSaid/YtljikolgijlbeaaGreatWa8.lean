/- Each call returns what the plain function says. Printed by drive.py. -/
import Derived.Test.YtljikolgijlbeaaGreatFa
import Derived.Test.YtljikolgijlbeaaGreatPu
import Derived.Test.YtljikolgijlbeaaGreatWa7
namespace Go.Kx
open Go Go.RowKit Go.Proofs
set_option maxRecDepth 10000
set_option maxHeartbeats 8000000
set_option linter.unusedVariables false
set_option linter.unusedSimpArgs false
theorem W_i_listsOk {w0 : World} {N : Nat} {x0 : DObj} {r : Bool} (h : F_i_listsOk N x0 = some r) {a0_10 : Option Addr} {n0_10 c0_10 : Nat} (hn0_10 : n0_10 = x0.links.length) (hr0_10 : rdS (Bor w0 []) w0 a0_10 c0_10 x0.links) {a0_11 : Option Addr} {n0_11 c0_11 : Nat} (hn0_11 : n0_11 = x0.data.length) (hr0_11 : rdS (Bor w0 []) w0 a0_11 c0_11 x0.data) {a0_12 : Option Addr} {n0_12 c0_12 : Nat} (hn0_12 : n0_12 = x0.queue.length) (hr0_12 : rdS (Bor w0 []) w0 a0_12 c0_12 x0.queue) :
    Ret Tryz.prog 220 #[.agg #[.int .i64 x0.gen, .int .i64 x0.kind, .int .i64 x0.box, .int .i64 x0.res, .int .i64 x0.til, .int .i64 x0.pages, .int .i64 x0.wait, .int .i64 x0.got, .int .i64 x0.ran, .bool x0.mark, .slice a0_10 n0_10 c0_10, .slice a0_11 n0_11 c0_11, .slice a0_12 n0_12 c0_12]] w0 (fun v w => v = .bool r ∧ St w0 [] w []) := by
  subst hn0_10 hn0_11 hn0_12
  unfold F_i_listsOk at h
  refine Ret.fn Tryz.func220 fun e => ?_
  have hS1 := St.start w0
  refine go ?_
  refine LW.bo hS1 fun g1 w2 hS2 => ?_
  refine go ?_
  obtain ⟨o18, ho18, h19⟩ := obind h
  refine CW.mono (CW.lx [1, 12, 13] [0] [1] 0 (fun s3 => [(14, .int .i64 s3)]) (RT Tryz.prog Tryz.f220.results (fun u => .bool u) w0 []) hS2 ho18 (hb := ?_)) ?_
  · intro s3 e w4 o hS3 h
    refine go ?_
    refine cd (fun hc5 => ?_) fun hc5 => ?_
    · replace h := bcT h hc5
      refine go ?_
      replace ⟨y6, hy6, h⟩ := obind h
      obtain ⟨b9, o10, cs11, hae, hb14, hp7, hq8, hd12, hk13⟩ := hr0_10.idx hy6
      subst hae
      obtain rfl := hd12
      refine LW.u (Pur.ix Tryz.underlying52 sz3 rfl rfl hp7 hq8) rfl ?_
      refine LW.l (Ldr.old w0 ag3 rfl (hk13 0 _ rfl)) (hS3.same _ hb14.1 hb14.2) rfl ?_
      refine go ?_
      replace ⟨y15, hy15, h⟩ := obind h
      refine LW.c0 (W_i_within hy15) hS3 fun w16 hS4 => ?_
      refine go ?_
      refine CW.fl [1, 12, 13, 14, 20] fun e => ?_
      refine cd (fun hc17 => ?_) fun hc17 => ?_
      · replace h := bcT h hc17
        refine go ?_
        cases oi h
        exact ⟨trivial, rfl, _, rfl, ⟨_, Res.one (resOne.t rfl), rfl, hS4.pick [] rfl rfl⟩⟩
      replace h := bcF h hc17
      refine go ?_
      cases oi h
      exact ⟨rfl, ⟨⟨rfl, rfl, rfl, rfl, trivial⟩, hS4.pick [0] rfl rfl⟩⟩
    replace h := bcF h hc5
    refine go ?_
    cases oi h
    exact ⟨trivial, rfl, ⟨⟨rfl, trivial⟩, hS3.pick [0] rfl rfl⟩⟩
  intro x e w20 hM
  rcases o18 with o18 | r81
  · obtain ⟨rfl, hM⟩ := hM
    obtain ⟨hE, hS5⟩ := hM
    obtain ⟨e, rfl⟩ := hE.out
    have h := h19
    refine go ?_
    obtain ⟨o36, ho36, h37⟩ := obind h
    refine CW.mono (CW.lx [1, 23, 24] [0] [1] 2 (fun s21 => [(25, .int .i64 s21)]) (RT Tryz.prog Tryz.f220.results (fun u => .bool u) w0 []) hS5 ho36 (hb := ?_)) ?_
    · intro s21 e w22 o hS6 h
      refine go ?_
      refine cd (fun hc23 => ?_) fun hc23 => ?_
      · replace h := bcT h hc23
        refine go ?_
        replace ⟨y24, hy24, h⟩ := obind h
        obtain ⟨b27, o28, cs29, hae, hb32, hp25, hq26, hd30, hk31⟩ := hr0_11.idx hy24
        subst hae
        obtain rfl := hd30
        refine LW.u (Pur.ix Tryz.underlying52 sz3 rfl rfl hp25 hq26) rfl ?_
        refine LW.l (Ldr.old w0 ag3 rfl (hk31 0 _ rfl)) (hS6.same _ hb32.1 hb32.2) rfl ?_
        refine go ?_
        replace ⟨y33, hy33, h⟩ := obind h
        refine LW.c0 (W_i_within hy33) hS6 fun w34 hS7 => ?_
        refine go ?_
        refine CW.fl [1, 23, 24, 25, 31] fun e => ?_
        refine cd (fun hc35 => ?_) fun hc35 => ?_
        · replace h := bcT h hc35
          refine go ?_
          cases oi h
          exact ⟨trivial, rfl, _, rfl, ⟨_, Res.one (resOne.t rfl), rfl, hS7.pick [] rfl rfl⟩⟩
        replace h := bcF h hc35
        refine go ?_
        cases oi h
        exact ⟨rfl, ⟨⟨rfl, rfl, rfl, rfl, trivial⟩, hS7.pick [0] rfl rfl⟩⟩
      replace h := bcF h hc23
      refine go ?_
      cases oi h
      exact ⟨trivial, rfl, ⟨⟨rfl, trivial⟩, hS6.pick [0] rfl rfl⟩⟩
    intro x e w38 hM
    rcases o36 with o36 | r80
    · obtain ⟨rfl, hM⟩ := hM
      obtain ⟨hE, hS8⟩ := hM
      obtain ⟨e, rfl⟩ := hE.out
      have h := h37
      refine go ?_
      obtain ⟨o66, ho66, h67⟩ := obind h
      refine CW.mono (CW.lx [1, 34, 35] [0] [1] 4 (fun s39 => [(36, .int .i64 s39)]) (RT Tryz.prog Tryz.f220.results (fun u => .bool u) w0 []) hS8 ho66 (hb := ?_)) ?_
      · intro s39 e w40 o hS9 h
        refine go ?_
        refine CW.fl [1, 34, 35, 36, 37] fun e => ?_
        refine cd (fun hc41 => ?_) fun hc41 => ?_
        · replace h := bcT h hc41
          refine go ?_
          replace ⟨y42, hy42, h⟩ := obind h
          obtain ⟨b45, o46, cs47, hae, hb50, hp43, hq44, hd48, hk49⟩ := hr0_12.idx hy42
          subst hae
          obtain rfl := hd48
          refine LW.u (Pur.ix Tryz.underlying102 sz170 rfl rfl hp43 hq44) rfl ?_
          refine LW.l (Ldr.oldN w0 ag170 rfl rfl (fun j u hu => hk49 j u hu)) (hS9.same _ hb50.1 hb50.2) rfl ?_
          refine LW.al hS9 fun g51 w52 hS10 => ?_
          refine LW.st hS10 0 fun w53 hS11 => ?_
          refine gs ?_
          obtain ⟨j54, hj54, h55⟩ := obind h
          refine CW.jn [1, 34, 35, 36] [1] [(54, .bool j54)] hS11 (h1 := ?_) (h2 := ?_)
          · have h := hj54
            refine go ?_
            rcases bcases (y42.src != (-1)) with hc56 | hc56
            · replace h := bcT h hc56
              refine go ?_
              replace ⟨y57, hy57, h⟩ := obind h
              refine go ?_
              refine LW.c0 (W_i_isHandle hy57) hS11 fun w58 hS12 => ?_
              refine go ?_
              rcases bcases (!y57) with hc59 | hc59
              · replace h := bcT h hc59
                refine go ?_
                cases oi h
                exact ⟨⟨rfl, rfl, rfl, rfl, rfl, trivial⟩, hS12.pick [1] rfl rfl⟩
              replace h := bcF h hc59
              refine go ?_
              replace ⟨y60, hy60, h⟩ := obind h
              refine go ?_
              refine LW.c0 (W_i_within hy60) hS12 fun w61 hS13 => ?_
              refine go ?_
              cases oi h
              exact ⟨⟨rfl, rfl, rfl, rfl, rfl, trivial⟩, hS13.pick [1] rfl rfl⟩
            replace h := bcF h hc56
            refine go ?_
            replace ⟨y62, hy62, h⟩ := obind h
            refine go ?_
            refine LW.c0 (W_i_within hy62) hS11 fun w63 hS14 => ?_
            refine go ?_
            cases oi h
            exact ⟨⟨rfl, rfl, rfl, rfl, rfl, trivial⟩, hS14.pick [1] rfl rfl⟩
          intro e w64 hS15
          have h := h55
          refine go ?_
          refine cd (fun hc65 => ?_) fun hc65 => ?_
          · replace h := bcT h hc65
            refine go ?_
            cases oi h
            exact ⟨trivial, rfl, _, rfl, ⟨_, Res.one (resOne.t rfl), rfl, hS15.pick [] rfl rfl⟩⟩
          replace h := bcF h hc65
          refine go ?_
          cases oi h
          exact ⟨rfl, ⟨⟨rfl, rfl, rfl, rfl, trivial⟩, hS15.pick [0] rfl rfl⟩⟩
        replace h := bcF h hc41
        refine go ?_
        cases oi h
        exact ⟨trivial, rfl, ⟨⟨rfl, trivial⟩, hS9.pick [0] rfl rfl⟩⟩
      intro x e w68 hM
      rcases o66 with o66 | r79
      · obtain ⟨rfl, hM⟩ := hM
        obtain ⟨hE, hS16⟩ := hM
        obtain ⟨e, rfl⟩ := hE.out
        have h := h67
        refine gs ?_
        refine CW.region ?_
        refine gs ?_
        refine CW.region ?_
        refine gs ?_
        obtain ⟨j69, hj69, h70⟩ := obind h
        refine CW.jn [1, 10] [0] [(9, .int .i64 j69)] hS16 (h1 := ?_) (h2 := ?_)
        · have h := hj69
          refine CW.fl [1, 9, 10, 58] fun e => ?_
          refine cd (fun hc71 => ?_) fun hc71 => ?_
          · replace h := bcT h hc71
            refine go ?_
            cases oi h
            exact ⟨⟨rfl, rfl, rfl, trivial⟩, hS16.pick [0] rfl rfl⟩
          replace h := bcF h hc71
          refine go ?_
          cases oi h
          exact ⟨⟨rfl, rfl, rfl, trivial⟩, hS16.pick [0] rfl rfl⟩
        intro e w72 hS17
        have h := h70
        refine gs ?_
        refine CW.region ?_
        refine gs ?_
        obtain ⟨j73, hj73, h74⟩ := obind h
        refine CW.jn [1, 9] [0] [(10, .int .i64 j73)] hS17 (h1 := ?_) (h2 := ?_)
        · have h := hj73
          refine CW.fl [1, 9, 10, 63] fun e => ?_
          refine cd (fun hc75 => ?_) fun hc75 => ?_
          · replace h := bcT h hc75
            refine go ?_
            cases oi h
            exact ⟨⟨rfl, rfl, rfl, trivial⟩, hS17.pick [0] rfl rfl⟩
          replace h := bcF h hc75
          refine go ?_
          cases oi h
          exact ⟨⟨rfl, rfl, rfl, trivial⟩, hS17.pick [0] rfl rfl⟩
        intro e w76 hS18
        have h := h74
        refine go ?_
        refine LW.fl [1, 9, 10, 68] fun e => ?_
        rcases bcases ((x0.links.length : Int) == 2) with hc77 | hc77
        · replace h := bcT h hc77
          refine go ?_
          rcases bcases ((x0.data.length : Int) == j69) with hc78 | hc78
          · replace h := bcT h hc78
            refine go ?_
            cases h
            exact fi hS18
          replace h := bcF h hc78
          refine go ?_
          cases h
          exact fi hS18
        replace h := bcF h hc77
        refine go ?_
        cases h
        exact fi hS18
      obtain ⟨rfl, u, rfl, hM⟩ := hM
      cases h67
      exact And.intro trivial hM
    obtain ⟨rfl, u, rfl, hM⟩ := hM
    cases h37
    exact And.intro trivial hM
  obtain ⟨rfl, u, rfl, hM⟩ := hM
  cases h19
  exact And.intro trivial hM

theorem W_i_copyHeap {w0 : World} {N : Nat} {x0 : DHeap} {r : DHeap} (h : F_i_copyHeap N x0 = some r) {a0_0 : Option Addr} {n0_0 c0_0 : Nat} (hn0_0 : n0_0 = x0.arena.length) (hr0_0 : rdS (Bor w0 []) w0 a0_0 c0_0 x0.arena) {a0_4 : Option Addr} {n0_4 c0_4 : Nat} (hn0_4 : n0_4 = x0.gc.grey.length) (hr0_4 : rdS (Bor w0 []) w0 a0_4 c0_4 x0.gc.grey) :
    Ret Tryz.prog 121 #[.agg #[.slice a0_0 n0_0 c0_0, .int .i64 x0.gc.phase, .int .i64 x0.gc.pos, .int .i64 x0.gc.round, .slice a0_4 n0_4 c0_4]] w0 (fun v w => ∃ ar0_0 cr0_0, ∃ ar0_4 cr0_4, v = .agg #[.slice ar0_0 r.arena.length cr0_0, .int .i64 r.gc.phase, .int .i64 r.gc.pos, .int .i64 r.gc.round, .slice ar0_4 r.gc.grey.length cr0_4] ∧ St w0 [] w [sl ar0_0 cr0_0 r.arena, sl ar0_4 cr0_4 r.gc.grey]) := by
  subst hn0_0 hn0_4
  unfold F_i_copyHeap at h
  refine Ret.fn Tryz.func121 fun e => ?_
  have hS1 := St.start w0
  refine go ?_
  refine LW.bo hS1 fun g1 w2 hS2 => ?_
  refine LW.al hS2 fun g3 w4 hS3 => ?_
  refine gs ?_
  obtain ⟨j5, hj5, h6⟩ := obind h
  refine CW.cut (fun e wb => ∃ (j5g3 : Nat), ∃ (j5a1 : Option Addr), ∃ (j5c1 : Nat), En e [(1, .pointer (some ⟨g1, 0, none⟩)), (2, .pointer (some ⟨g3, 0, none⟩)), (3, .pointer (some ⟨j5g3, 0, none⟩))] ∧ St w0 [] wb [bx g3 64 [.slice none 0 0, .int .i64 0, .int .i64 0, .int .i64 0, .slice none 0 0], bx g1 64 [.slice a0_0 x0.arena.length c0_0, .int .i64 x0.gc.phase, .int .i64 x0.gc.pos, .int .i64 x0.gc.round, .slice a0_4 x0.gc.grey.length c0_4], bx j5g3 64 [.slice j5a1 j5.length j5c1, .int .i64 x0.gc.phase, .int .i64 x0.gc.pos, .int .i64 x0.gc.round, .slice a0_4 x0.gc.grey.length c0_4], sl j5a1 j5c1 j5]) ?_ ?_
  · have h := hj5
    refine CW.draw (by kernel_rfl) ?_
    have hS4 := hS3.drew
    refine go ?_
    replace ⟨y7, hy7, h⟩ := obind h
    refine AW.all (rs := [2, 6]) (by kernel_rfl) (by simp) ⟨?_, ?_, trivial⟩
    · have q := W_i_copyArena (w0 := w4.drew) hy7 rfl (hS4.rB hr0_0)
      refine ⟨_, rfl, ?_⟩
      refine LW.call pl118 rfl rfl ?_
      refine Ret.mono q ?_
      rintro _ w18 ⟨a16, c17, rfl, hs⟩
      have hS5 := hS4.add hs
      refine LW.nil ⟨rfl, (.c (St.cell (h := hS5) (i := 2) rfl) (.w (by kernel_rfl) Kept.n)), ?_⟩
      refine AW.u (i := 5) rfl (by kernel_rfl) rfl rfl (Pur.build (vs := [(0, .slice a16 y7.length c17), (1, .agg #[.int .i64 x0.gc.phase, .int .i64 x0.gc.pos, .int .i64 x0.gc.round, .slice a0_4 x0.gc.grey.length c0_4])]) (cs := #[.slice a16 y7.length c17, .int .i64 x0.gc.phase, .int .i64 x0.gc.pos, .int .i64 x0.gc.round, .slice a0_4 x0.gc.grey.length c0_4]) rfl (by kernel_rfl)) ?_
      refine AW.one (i := 6) (by kernel_rfl) ?_
      refine ⟨_, rfl, ?_⟩
      refine LW.al hS5 fun g19 w20 hS6 => ?_
      refine LW.nil ⟨rfl, (.c (St.cell (h := hS6) (i := 3) rfl) (.c (St.cell (h := hS6) (i := 3) rfl) Kept.n)), ?_⟩
      refine AW.one (i := 7) (by kernel_rfl) ?_
      refine ⟨_, rfl, ?_⟩
      refine LW.st hS6 0 fun w21 hS7 => ?_
      refine LW.nil ⟨rfl, (.w (by kernel_rfl) (.w (by kernel_rfl) Kept.n)), ?_⟩
      refine go ?_
      cases oi h
      exact ⟨g19, a16, c17, ⟨rfl, rfl, rfl, trivial⟩, hS7.pick [2, 3, 0, 1] rfl rfl⟩
    refine ⟨_, rfl, ?_⟩
    refine LW.al hS4 fun g22 w23 hS8 => ?_
    refine LW.nil ⟨rfl, (.c (St.cell (h := hS8) (i := 2) rfl) (.c (St.cell (h := hS8) (i := 2) rfl) Kept.n)), ?_⟩
    have q := W_i_copyArena (w0 := w23) hy7 rfl (hS8.rB hr0_0)
    refine AW.one (i := 2) (by kernel_rfl) ?_
    refine ⟨_, rfl, ?_⟩
    refine LW.call pl118 rfl rfl ?_
    refine Ret.mono q ?_
    rintro _ w26 ⟨a24, c25, rfl, hs⟩
    have hS9 := hS8.add hs
    refine LW.nil ⟨rfl, (.c (St.cell (h := hS9) (i := 3) rfl) (.w (by kernel_rfl) Kept.n)), ?_⟩
    refine AW.u (i := 5) rfl (by kernel_rfl) rfl rfl (Pur.build (vs := [(0, .slice a24 y7.length c25), (1, .agg #[.int .i64 x0.gc.phase, .int .i64 x0.gc.pos, .int .i64 x0.gc.round, .slice a0_4 x0.gc.grey.length c0_4])]) (cs := #[.slice a24 y7.length c25, .int .i64 x0.gc.phase, .int .i64 x0.gc.pos, .int .i64 x0.gc.round, .slice a0_4 x0.gc.grey.length c0_4]) rfl (by kernel_rfl)) ?_
    refine AW.one (i := 7) (by kernel_rfl) ?_
    refine ⟨_, rfl, ?_⟩
    refine LW.st hS9 1 fun w27 hS10 => ?_
    refine LW.nil ⟨rfl, (.w (by kernel_rfl) (.w (by kernel_rfl) Kept.n)), ?_⟩
    refine go ?_
    cases oi h
    exact ⟨g22, a24, c25, ⟨rfl, rfl, rfl, trivial⟩, hS10.pick [2, 3, 1, 0] rfl rfl⟩
  rintro e w28 ⟨j5g3, j5a1, j5c1, hE, hS11⟩
  obtain ⟨e, rfl⟩ := hE.out
  have h := h6
  refine go ?_
  replace ⟨y29, hy29, h⟩ := obind h
  refine LW.cl (W_i_copyInts hy29 rfl (hS11.rB hr0_4)) ?_
  rintro _ w32 ⟨a30, c31, rfl, hs⟩
  have hS12 := hS11.add hs
  refine go ?_
  refine LW.st hS12 3 fun w33 hS13 => ?_
  refine go ?_
  refine LW.st hS13 1 fun w34 hS14 => ?_
  refine go ?_
  cases h
  exact And.intro trivial ⟨_, Res.one (resOne.b hS14 1 rfl ag64 rfl rfl), j5a1, j5c1, a30, c31, rfl, hS14.pick [4, 0] rfl rfl⟩

theorem W_i_leadsUp {w0 : World} {N : Nat} {x0 : List DRes} {x1 : Int} {r : Bool} (h : F_i_leadsUp N x0 x1 = some r) {a0_0 : Option Addr} {n0_0 c0_0 : Nat} (hn0_0 : n0_0 = x0.length) (hr0_0 : rdS (Bor w0 []) w0 a0_0 c0_0 x0) :
    Ret Tryz.prog 157 #[.slice a0_0 n0_0 c0_0, .int .i64 x1] w0 (fun v w => v = .bool r ∧ St w0 [] w []) := by
  subst hn0_0
  unfold F_i_leadsUp at h
  refine Ret.fn Tryz.func157 fun e => ?_
  have hS1 := St.start w0
  refine go ?_
  obtain ⟨o17, ho17, h18⟩ := obind h
  refine CW.mono (CW.lx [0] [] [] 0 (fun s1 => [(1, .int .i64 s1.1), (5, .int .i64 s1.2)]) (RT Tryz.prog Tryz.f157.results (fun u => .bool u) w0 []) hS1 ho17 (hb := ?_)) ?_
  · intro s1 e w2 o hS2 h
    refine go ?_
    refine cd (fun hc3 => ?_) fun hc3 => ?_
    · replace h := bcT h hc3
      refine go ?_
      refine cd (fun hc4 => ?_) fun hc4 => ?_
      · replace h := bcT h hc4
        refine go ?_
        cases oi h
        exact ⟨trivial, rfl, _, rfl, ⟨_, Res.one (resOne.t rfl), rfl, hS2.pick [] rfl rfl⟩⟩
      replace h := bcF h hc4
      refine go ?_
      replace ⟨y5, hy5, h⟩ := obind h
      refine LW.c0 (W_i_isLive hy5 rfl (hS2.rB hr0_0)) hS2 fun w6 hS3 => ?_
      refine go ?_
      refine cd (fun hc7 => ?_) fun hc7 => ?_
      · replace h := bcT h hc7
        refine go ?_
        cases oi h
        exact ⟨trivial, rfl, _, rfl, ⟨_, Res.one (resOne.t rfl), rfl, hS3.pick [] rfl rfl⟩⟩
      replace h := bcF h hc7
      refine go ?_
      replace ⟨y8, hy8, h⟩ := obind h
      obtain ⟨b11, o12, cs13, hae, hb16, hp9, hq10, hd14, hk15⟩ := hr0_0.idx hy8
      subst hae
      obtain rfl := hd14
      refine LW.u (Pur.ix Tryz.underlying59 sz138 rfl rfl hp9 hq10) rfl ?_
      refine go ?_
      refine LW.l (Ldr.old w0 ag3 rfl (hk15 1 _ rfl)) (hS3.same _ hb16.1 hb16.2) rfl ?_
      refine go ?_
      cases oi h
      exact ⟨rfl, ⟨⟨rfl, rfl, rfl, trivial⟩, hS3.pick [] rfl rfl⟩⟩
    replace h := bcF h hc3
    refine go ?_
    cases oi h
    exact ⟨trivial, rfl, ⟨trivial, hS2.pick [] rfl rfl⟩⟩
  intro x e w19 hM
  rcases o17 with o17 | r20
  · obtain ⟨rfl, hM⟩ := hM
    obtain ⟨hE, hS4⟩ := hM
    obtain ⟨e, rfl⟩ := hE.out; rw [show e = upds e [] from rfl]
    have h := h18
    refine go ?_
    cases h
    exact fi hS4
  obtain ⟨rfl, u, rfl, hM⟩ := hM
  cases h18
  exact And.intro trivial hM

theorem W_i_ObjOk {w0 : World} {N : Nat} {x0 : DObj} {r : Bool} (h : F_i_ObjOk N x0 = some r) {a0_10 : Option Addr} {n0_10 c0_10 : Nat} (hn0_10 : n0_10 = x0.links.length) (hr0_10 : rdS (Bor w0 []) w0 a0_10 c0_10 x0.links) {a0_11 : Option Addr} {n0_11 c0_11 : Nat} (hn0_11 : n0_11 = x0.data.length) (hr0_11 : rdS (Bor w0 []) w0 a0_11 c0_11 x0.data) {a0_12 : Option Addr} {n0_12 c0_12 : Nat} (hn0_12 : n0_12 = x0.queue.length) (hr0_12 : rdS (Bor w0 []) w0 a0_12 c0_12 x0.queue) :
    Ret Tryz.prog 186 #[.agg #[.int .i64 x0.gen, .int .i64 x0.kind, .int .i64 x0.box, .int .i64 x0.res, .int .i64 x0.til, .int .i64 x0.pages, .int .i64 x0.wait, .int .i64 x0.got, .int .i64 x0.ran, .bool x0.mark, .slice a0_10 n0_10 c0_10, .slice a0_11 n0_11 c0_11, .slice a0_12 n0_12 c0_12]] w0 (fun v w => v = .bool r ∧ St w0 [] w []) := by
  subst hn0_10 hn0_11 hn0_12
  unfold F_i_ObjOk at h
  refine Ret.fn Tryz.func186 fun e => ?_
  have hS1 := St.start w0
  refine go ?_
  refine LW.bo hS1 fun g1 w2 hS2 => ?_
  refine gs ?_
  obtain ⟨j3, hj3, h4⟩ := obind h
  refine CW.jn [1] [0] [(12, .bool j3)] hS2 (h1 := ?_) (h2 := ?_)
  · have h := hj3
    refine go ?_
    replace ⟨y5, hy5, h⟩ := obind h
    refine LW.c0 (W_i_within hy5) hS2 fun w6 hS3 => ?_
    refine go ?_
    rcases bcases (!y5) with hc7 | hc7
    · replace h := bcT h hc7
      refine go ?_
      cases oi h
      exact ⟨⟨rfl, rfl, trivial⟩, hS3.pick [0] rfl rfl⟩
    replace h := bcF h hc7
    refine go ?_
    replace ⟨y8, hy8, h⟩ := obind h
    refine go ?_
    refine LW.c0 (W_i_within hy8) hS3 fun w9 hS4 => ?_
    refine go ?_
    cases oi h
    exact ⟨⟨rfl, rfl, trivial⟩, hS4.pick [0] rfl rfl⟩
  intro e w10 hS5
  have h := h4
  refine go ?_
  refine cd (fun hc11 => ?_) fun hc11 => ?_
  · replace h := bcT h hc11
    refine go ?_
    cases h
    exact fi hS5
  replace h := bcF h hc11
  refine go ?_
  refine cd (fun hc12 => ?_) fun hc12 => ?_
  · replace h := bcT h hc12
    refine go ?_
    refine LW.u (Pur.build (vs := [(0, .int .i64 x0.gen)]) (cs := #[.int .i64 x0.gen, .int .i64 0, .int .i64 0, .int .i64 0, .int .i64 0, .int .i64 0, .int .i64 0, .int .i64 0, .int .i64 0, .bool false, .slice none 0 0, .slice none 0 0, .slice none 0 0]) rfl (by kernel_rfl)) rfl ?_
    replace ⟨y13, hy13, h⟩ := obind h
    refine LW.c0 (W_i_sameObj hy13 rfl (hS5.rB hr0_10) rfl (hS5.rB hr0_11) rfl (hS5.rB hr0_12) rfl (show rdS (α := Int) (Bor w10 []) w10 none 0 [] from rdS.nil _ _ _ _ (Nat.zero_le _)) rfl (show rdS (α := Int) (Bor w10 []) w10 none 0 [] from rdS.nil _ _ _ _ (Nat.zero_le _)) rfl (show rdS (α := DMsg) (Bor w10 []) w10 none 0 [] from rdS.nil _ _ _ _ (Nat.zero_le _))) hS5 fun w14 hS6 => ?_
    refine go ?_
    cases h
    exact fi hS6
  replace h := bcF h hc12
  refine gs ?_
  obtain ⟨j15, hj15, h16⟩ := obind h
  refine CW.jn [1] [0] [(47, .bool j15)] hS5 (h1 := ?_) (h2 := ?_)
  · have h := hj15
    refine go ?_
    replace ⟨y17, hy17, h⟩ := obind h
    refine LW.c0 (W_i_within hy17) hS5 fun w18 hS7 => ?_
    refine go ?_
    rcases bcases (!y17) with hc19 | hc19
    · replace h := bcT h hc19
      refine go ?_
      cases oi h
      exact ⟨⟨rfl, rfl, trivial⟩, hS7.pick [0] rfl rfl⟩
    replace h := bcF h hc19
    refine go ?_
    replace ⟨y20, hy20, h⟩ := obind h
    refine go ?_
    refine LW.c0 (W_i_isPlace hy20) hS7 fun w21 hS8 => ?_
    refine go ?_
    rcases bcases (!y20) with hc22 | hc22
    · replace h := bcT h hc22
      refine go ?_
      cases oi h
      exact ⟨⟨rfl, rfl, trivial⟩, hS8.pick [0] rfl rfl⟩
    replace h := bcF h hc22
    refine go ?_
    replace ⟨y23, hy23, h⟩ := obind h
    refine go ?_
    refine LW.c0 (W_i_isTime hy23) hS8 fun w24 hS9 => ?_
    refine go ?_
    rcases bcases (!y23) with hc25 | hc25
    · replace h := bcT h hc25
      refine go ?_
      cases oi h
      exact ⟨⟨rfl, rfl, trivial⟩, hS9.pick [0] rfl rfl⟩
    replace h := bcF h hc25
    refine go ?_
    refine LW.fl [1, 37, 39] fun e => ?_
    replace ⟨y26, hy26, h⟩ := obind h
    refine go ?_
    refine LW.c0 (W_i_within hy26) hS9 fun w27 hS10 => ?_
    refine go ?_
    rcases bcases (!y26) with hc28 | hc28
    · replace h := bcT h hc28
      refine go ?_
      cases oi h
      exact ⟨⟨rfl, rfl, trivial⟩, hS10.pick [0] rfl rfl⟩
    replace h := bcF h hc28
    refine go ?_
    replace ⟨y29, hy29, h⟩ := obind h
    refine go ?_
    refine LW.c0 (W_i_listsOk hy29 rfl (hS10.rB hr0_10) rfl (hS10.rB hr0_11) rfl (hS10.rB hr0_12)) hS10 fun w30 hS11 => ?_
    refine go ?_
    cases oi h
    exact ⟨⟨rfl, rfl, trivial⟩, hS11.pick [0] rfl rfl⟩
  intro e w31 hS12
  have h := h16
  refine go ?_
  refine cd (fun hc32 => ?_) fun hc32 => ?_
  · replace h := bcT h hc32
    refine go ?_
    cases h
    exact fi hS12
  replace h := bcF h hc32
  refine go ?_
  refine cd (fun hc33 => ?_) fun hc33 => ?_
  · replace h := bcT h hc33
    refine gs ?_
    obtain ⟨j34, hj34, h35⟩ := obind h
    refine CW.jn [] [] [(2, .bool j34)] hS12 (h1 := ?_) (h2 := ?_)
    · have h := hj34
      refine go ?_
      rcases bcases (x0.wait == 0) with hc36 | hc36
      · replace h := bcT h hc36
        refine go ?_
        rcases bcases (x0.got == 0) with hc37 | hc37
        · replace h := bcT h hc37
          refine go ?_
          cases oi h
          exact ⟨⟨rfl, trivial⟩, hS12.pick [] rfl rfl⟩
        replace h := bcF h hc37
        refine go ?_
        cases oi h
        exact ⟨⟨rfl, trivial⟩, hS12.pick [] rfl rfl⟩
      replace h := bcF h hc36
      refine go ?_
      cases oi h
      exact ⟨⟨rfl, trivial⟩, hS12.pick [] rfl rfl⟩
    intro e w38 hS13
    have h := h35
    refine go ?_
    cases h
    exact fi hS13
  replace h := bcF h hc33
  refine go ?_
  rcases bcases (x0.wait == 0) with hc39 | hc39
  · replace h := bcT h hc39
    refine go ?_
    replace ⟨y40, hy40, h⟩ := obind h
    refine go ?_
    refine LW.c0 (W_i_within hy40) hS12 fun w41 hS14 => ?_
    refine go ?_
    rcases bcases y40 with hc42 | hc42
    · replace h := bcT h hc42
      refine go ?_
      refine LW.fl [78, 80] fun e => ?_
      replace ⟨y43, hy43, h⟩ := obind h
      refine go ?_
      refine LW.c0 (W_i_isTime hy43) hS14 fun w44 hS15 => ?_
      refine go ?_
      cases h
      exact fi hS15
    replace h := bcF h hc42
    refine go ?_
    cases h
    exact fi hS14
  replace h := bcF h hc39
  refine go ?_
  replace ⟨y45, hy45, h⟩ := obind h
  refine go ?_
  refine LW.c0 (W_i_isHandle hy45) hS12 fun w46 hS16 => ?_
  refine go ?_
  rcases bcases y45 with hc47 | hc47
  · replace h := bcT h hc47
    refine go ?_
    replace ⟨y48, hy48, h⟩ := obind h
    refine go ?_
    refine LW.c0 (W_i_within hy48) hS16 fun w49 hS17 => ?_
    refine go ?_
    refine LW.fl [1, 78] fun e => ?_
    rcases bcases y48 with hc50 | hc50
    · replace h := bcT h hc50
      refine go ?_
      replace ⟨y51, hy51, h⟩ := obind h
      refine go ?_
      refine LW.c0 (W_i_isTime hy51) hS17 fun w52 hS18 => ?_
      refine go ?_
      cases h
      exact fi hS18
    replace h := bcF h hc50
    refine go ?_
    cases h
    exact fi hS17
  replace h := bcF h hc47
  refine go ?_
  cases h
  exact fi hS16

theorem W_i_TapFlow {w0 : World} {N : Nat} {x0 : DTap} {x1 : DAmt} {r : Int} (h : F_i_TapFlow N x0 x1 = some r) :
    Ret Tryz.prog 92 #[.agg #[.int .i64 x0.res, .int .i64 x0.toPart, .int .i64 x0.toRes, .int .i64 x0.which, .int .i64 x0.kind, .int .i64 x0.rate], .agg #[.int .i64 x1.pages, .int .i64 x1.rent, .int .i64 x1.cpu]] w0 (fun v w => v = .int .i64 r ∧ St w0 [] w []) := by
  unfold F_i_TapFlow at h
  refine Ret.fn Tryz.func92 fun e => ?_
  have hS1 := St.start w0
  refine go ?_
  refine LW.bo hS1 fun g1 w2 hS2 => ?_
  refine LW.bo hS2 fun g3 w4 hS3 => ?_
  refine gs ?_
  obtain ⟨j5, hj5, h6⟩ := obind h
  refine CW.jn [2, 3] [0, 1] [(13, .bool j5)] hS3 (h1 := ?_) (h2 := ?_)
  · have h := hj5
    refine go ?_
    replace ⟨y7, hy7, h⟩ := obind h
    refine LW.c0 (W_i_TapOk hy7) hS3 fun w8 hS4 => ?_
    refine go ?_
    rcases bcases (!y7) with hc9 | hc9
    · replace h := bcT h hc9
      refine go ?_
      cases oi h
      exact ⟨⟨rfl, rfl, rfl, trivial⟩, hS4.pick [0, 1] rfl rfl⟩
    replace h := bcF h hc9
    refine go ?_
    replace ⟨y10, hy10, h⟩ := obind h
    refine go ?_
    refine LW.c0 (W_i_AmtOk hy10) hS4 fun w11 hS5 => ?_
    refine go ?_
    cases oi h
    exact ⟨⟨rfl, rfl, rfl, trivial⟩, hS5.pick [0, 1] rfl rfl⟩
  intro e w12 hS6
  have h := h6
  refine go ?_
  refine cd (fun hc13 => ?_) fun hc13 => ?_
  · replace h := bcT h hc13
    refine go ?_
    cases h
    exact fi hS6
  replace h := bcF h hc13
  refine go ?_
  replace ⟨y14, hy14, h⟩ := obind h
  refine LW.c0 (W_i_AmtPart hy14) hS6 fun w15 hS7 => ?_
  refine go ?_
  refine cd (fun hc16 => ?_) fun hc16 => ?_
  · replace h := bcT h hc16
    refine go ?_
    refine LW.u (Pur.min rfl rfl) rfl ?_
    refine go ?_
    cases h
    exact fi hS7
  replace h := bcF h hc16
  refine go ?_
  refine LW.u (Pur.quo rfl rfl (by decide)) rfl ?_
  refine go ?_
  cases h
  exact fi hS7

theorem W_i_AmtFits {w0 : World} {N : Nat} {x0 : DAmt} {x1 : DAmt} {r : Bool} (h : F_i_AmtFits N x0 x1 = some r) :
    Ret Tryz.prog 210 #[.agg #[.int .i64 x0.pages, .int .i64 x0.rent, .int .i64 x0.cpu], .agg #[.int .i64 x1.pages, .int .i64 x1.rent, .int .i64 x1.cpu]] w0 (fun v w => v = .bool r ∧ St w0 [] w []) := by
  unfold F_i_AmtFits at h
  refine Ret.fn Tryz.func210 fun e => ?_
  have hS1 := St.start w0
  refine go ?_
  refine LW.bo hS1 fun g1 w2 hS2 => ?_
  refine LW.bo hS2 fun g3 w4 hS3 => ?_
  refine go ?_
  replace ⟨y5, hy5, h⟩ := obind h
  refine LW.c0 (W_i_AmtOk hy5) hS3 fun w6 hS4 => ?_
  refine go ?_
  rcases bcases y5 with hc7 | hc7
  · replace h := bcT h hc7
    refine go ?_
    replace ⟨y8, hy8, h⟩ := obind h
    refine go ?_
    refine LW.c0 (W_i_AmtOk hy8) hS4 fun w9 hS5 => ?_
    refine go ?_
    rcases bcases y8 with hc10 | hc10
    · replace h := bcT h hc10
      refine go ?_
      rcases bcases (decide (x0.pages ≤ x1.pages)) with hc11 | hc11
      · replace h := bcT h hc11
        refine go ?_
        refine LW.fl [2, 3, 25] fun e => ?_
        rcases bcases (decide (x0.rent ≤ x1.rent)) with hc12 | hc12
        · replace h := bcT h hc12
          refine go ?_
          cases h
          exact fi hS5
        replace h := bcF h hc12
        refine go ?_
        cases h
        exact fi hS5
      replace h := bcF h hc11
      refine go ?_
      cases h
      exact fi hS5
    replace h := bcF h hc10
    refine go ?_
    cases h
    exact fi hS5
  replace h := bcF h hc7
  refine go ?_
  cases h
  exact fi hS4

theorem W_i_copyPart {w0 : World} {N : Nat} {x0 : DPart} {r : DPart} (h : F_i_copyPart N x0 = some r) {a0_0 : Option Addr} {n0_0 c0_0 : Nat} (hn0_0 : n0_0 = x0.label.levels.length) (hr0_0 : rdS (Bor w0 []) w0 a0_0 c0_0 x0.label.levels) {a0_1 : Option Addr} {n0_1 c0_1 : Nat} (hn0_1 : n0_1 = x0.own.length) (hr0_1 : rdS (Bor w0 []) w0 a0_1 c0_1 x0.own) {a0_2 : Option Addr} {n0_2 c0_2 : Nat} (hn0_2 : n0_2 = x0.tree.length) (hr0_2 : rdS (Bor w0 []) w0 a0_2 c0_2 x0.tree) {a0_3 : Option Addr} {n0_3 c0_3 : Nat} (hn0_3 : n0_3 = x0.heap.arena.length) (hr0_3 : rdS (Bor w0 []) w0 a0_3 c0_3 x0.heap.arena) {a0_7 : Option Addr} {n0_7 c0_7 : Nat} (hn0_7 : n0_7 = x0.heap.gc.grey.length) (hr0_7 : rdS (Bor w0 []) w0 a0_7 c0_7 x0.heap.gc.grey) {a0_8 : Option Addr} {n0_8 c0_8 : Nat} (hn0_8 : n0_8 = x0.taps.length) (hr0_8 : rdS (Bor w0 []) w0 a0_8 c0_8 x0.taps) :
    Ret Tryz.prog 82 #[.agg #[.slice a0_0 n0_0 c0_0, .slice a0_1 n0_1 c0_1, .slice a0_2 n0_2 c0_2, .slice a0_3 n0_3 c0_3, .int .i64 x0.heap.gc.phase, .int .i64 x0.heap.gc.pos, .int .i64 x0.heap.gc.round, .slice a0_7 n0_7 c0_7, .slice a0_8 n0_8 c0_8, .int .i64 x0.next, .int .i64 x0.want, .int .i64 x0.spent.pages, .int .i64 x0.spent.rent, .int .i64 x0.spent.cpu, .int .i64 x0.press, .int .i64 x0.lost]] w0 (fun v w => ∃ ar0_0 cr0_0, ∃ ar0_1 cr0_1, ∃ ar0_2 cr0_2, ∃ ar0_3 cr0_3, ∃ ar0_7 cr0_7, ∃ ar0_8 cr0_8, v = .agg #[.slice ar0_0 r.label.levels.length cr0_0, .slice ar0_1 r.own.length cr0_1, .slice ar0_2 r.tree.length cr0_2, .slice ar0_3 r.heap.arena.length cr0_3, .int .i64 r.heap.gc.phase, .int .i64 r.heap.gc.pos, .int .i64 r.heap.gc.round, .slice ar0_7 r.heap.gc.grey.length cr0_7, .slice ar0_8 r.taps.length cr0_8, .int .i64 r.next, .int .i64 r.want, .int .i64 r.spent.pages, .int .i64 r.spent.rent, .int .i64 r.spent.cpu, .int .i64 r.press, .int .i64 r.lost] ∧ St w0 [] w [sl ar0_0 cr0_0 r.label.levels, sl ar0_1 cr0_1 r.own, sl ar0_2 cr0_2 r.tree, sl ar0_3 cr0_3 r.heap.arena, sl ar0_7 cr0_7 r.heap.gc.grey, sl ar0_8 cr0_8 r.taps]) := by
  subst hn0_0 hn0_1 hn0_2 hn0_3 hn0_7 hn0_8
  unfold F_i_copyPart at h
  refine Ret.fn Tryz.func82 fun e => ?_
  have hS1 := St.start w0
  refine go ?_
  refine LW.bo hS1 fun g1 w2 hS2 => ?_
  refine LW.al hS2 fun g3 w4 hS3 => ?_
  refine go ?_
  refine CW.draw (by kernel_rfl) ?_
  have hS4 := hS3.drew
  refine go ?_
  replace ⟨y5, hy5, h⟩ := obind h
  have q := W_i_copyLabel (w0 := w4.drew) hy5 rfl (hS4.rB hr0_0)
  refine AW.one (i := 2) (by kernel_rfl) ?_
  refine ⟨_, rfl, ?_⟩
  refine LW.call pl58 rfl rfl ?_
  refine Ret.mono q ?_
  rintro _ w8 ⟨a6, c7, rfl, hs⟩
  have hS5 := hS4.add hs
  refine LW.nil ⟨rfl, (.c (St.cell (h := hS5) (i := 2) rfl) (.c (St.cell (h := hS5) (i := 2) rfl) (.c (St.cell (h := hS5) (i := 2) rfl) (.w (by kernel_rfl) Kept.n)))), ?_⟩
  refine AW.u (i := 12) rfl (by kernel_rfl) rfl rfl (Pur.fa fo67_0 rfl) ?_
  replace ⟨y9, hy9, h⟩ := obind h
  have q := W_i_copyInts (w0 := w8) hy9 rfl (hS5.rB hr0_1)
  refine AW.one (i := 5) (by kernel_rfl) ?_
  refine ⟨_, rfl, ?_⟩
  refine LW.call pl59 rfl rfl ?_
  refine Ret.mono q ?_
  rintro _ w12 ⟨a10, c11, rfl, hs⟩
  have hS6 := hS5.add hs
  refine LW.nil ⟨rfl, (.c (St.cell (h := hS6) (i := 3) rfl) (.c (St.cell (h := hS6) (i := 3) rfl) (.w (by kernel_rfl) (.c (St.cell (h := hS6) (i := 3) rfl) Kept.n)))), ?_⟩
  replace ⟨y13, hy13, h⟩ := obind h
  have q := W_i_copyTree (w0 := w12) hy13 rfl (hS6.rB hr0_2)
  refine AW.one (i := 8) (by kernel_rfl) ?_
  refine ⟨_, rfl, ?_⟩
  refine LW.call pl153 rfl rfl ?_
  refine Ret.mono q ?_
  rintro _ w16 ⟨a14, c15, rfl, hs⟩
  have hS7 := hS6.add hs
  refine LW.nil ⟨rfl, (.c (St.cell (h := hS7) (i := 4) rfl) (.w (by kernel_rfl) (.c (St.cell (h := hS7) (i := 4) rfl) (.c (St.cell (h := hS7) (i := 4) rfl) Kept.n)))), ?_⟩
  replace ⟨y17, hy17, h⟩ := obind h
  have q := W_i_copyHeap (w0 := w16) hy17 rfl (hS7.rB hr0_3) rfl (hS7.rB hr0_7)
  refine AW.one (i := 11) (by kernel_rfl) ?_
  refine ⟨_, rfl, ?_⟩
  refine LW.call pl121 rfl rfl ?_
  refine Ret.mono q ?_
  rintro _ w22 ⟨a18, c19, a20, c21, rfl, hs⟩
  have hS8 := hS7.add hs
  refine LW.nil ⟨rfl, (.w (by kernel_rfl) (.c (St.cell (h := hS8) (i := 6) rfl) (.c (St.cell (h := hS8) (i := 6) rfl) (.c (St.cell (h := hS8) (i := 6) rfl) Kept.n)))), ?_⟩
  refine AW.one (i := 13) (by kernel_rfl) ?_
  refine ⟨_, rfl, ?_⟩
  refine LW.st hS8 6 fun w23 hS9 => ?_
  refine LW.nil ⟨rfl, (.w (by kernel_rfl) (.w (by kernel_rfl) (.w (by kernel_rfl) (.w (by kernel_rfl) Kept.n)))), ?_⟩
  refine go ?_
  refine AW.one (i := 15) (by kernel_rfl) ?_
  refine ⟨_, rfl, ?_⟩
  refine LW.st hS9 6 fun w24 hS10 => ?_
  refine LW.nil ⟨rfl, (.w (by kernel_rfl) (.w (by kernel_rfl) (.w (by kernel_rfl) (.w (by kernel_rfl) Kept.n)))), ?_⟩
  refine go ?_
  refine AW.one (i := 17) (by kernel_rfl) ?_
  refine ⟨_, rfl, ?_⟩
  refine LW.st hS10 6 fun w25 hS11 => ?_
  refine LW.nil ⟨rfl, (.w (by kernel_rfl) (.w (by kernel_rfl) (.w (by kernel_rfl) (.w (by kernel_rfl) Kept.n)))), ?_⟩
  refine go ?_
  refine AW.one (i := 19) (by kernel_rfl) ?_
  refine ⟨_, rfl, ?_⟩
  refine LW.st hS11 6 fun w26 hS12 => ?_
  refine LW.nil ⟨rfl, (.w (by kernel_rfl) (.w (by kernel_rfl) (.w (by kernel_rfl) (.w (by kernel_rfl) Kept.n)))), ?_⟩
  refine go ?_
  refine LW.bsl (α := DTap) (vs := []) (cs := #[]) (l := ([] : List DTap)) rfl (by kernel_rfl) rfl rfl rfl (fun w => rfl) hS12 rfl ?_
  intro a27 c28 w29 hS13 hf
  refine go ?_
  replace ⟨y30, hy30, h⟩ := obind h
  refine LW.appN (l := ([] : List DTap)) (m := x0.taps) sT65 rfl rfl (hS13.rB hr0_8) hy30 hS13 (i := 0) rfl rfl ?_
  intro a31 c32 w33 hS14 hf
  refine go ?_
  refine LW.st hS14 7 fun w34 hS15 => ?_
  refine go ?_
  refine LW.st hS15 6 fun w35 hS16 => ?_
  refine go ?_
  cases h
  exact And.intro trivial ⟨_, Res.one (resOne.b hS16 6 rfl ag67 rfl rfl), a6, c7, a10, c11, a14, c15, a18, c19, a20, c21, a31, c32, rfl, hS16.pick [5, 4, 3, 1, 2, 0] rfl rfl⟩

theorem W_i_TreeOk {w0 : World} {N : Nat} {x0 : List DRes} {r : Bool} (h : F_i_TreeOk N x0 = some r) {a0_0 : Option Addr} {n0_0 c0_0 : Nat} (hn0_0 : n0_0 = x0.length) (hr0_0 : rdS (Bor w0 []) w0 a0_0 c0_0 x0) :
    Ret Tryz.prog 89 #[.slice a0_0 n0_0 c0_0] w0 (fun v w => v = .bool r ∧ St w0 [] w []) := by
  subst hn0_0
  unfold F_i_TreeOk at h
  refine Ret.fn Tryz.func89 fun e => ?_
  have hS1 := St.start w0
  refine gs ?_
  refine CW.region ?_
  refine gs ?_
  obtain ⟨j1, hj1, h2⟩ := obind h
  refine CW.jn [0] [] [(22, .bool j1)] hS1 (h1 := ?_) (h2 := ?_)
  · have h := hj1
    refine go ?_
    rcases bcases ((x0.length : Int) != 5) with hc3 | hc3
    · replace h := bcT h hc3
      refine go ?_
      cases oi h
      exact ⟨⟨rfl, rfl, trivial⟩, hS1.pick [] rfl rfl⟩
    replace h := bcF h hc3
    refine go ?_
    replace ⟨y4, hy4, h⟩ := obind h
    obtain ⟨b7, o8, cs9, hae, hb12, hp5, hq6, hd10, hk11⟩ := hr0_0.idx hy4
    subst hae
    obtain rfl := hd10
    refine go ?_
    refine LW.u (Pur.ix Tryz.underlying59 sz138 rfl rfl hp5 hq6) rfl ?_
    refine go ?_
    refine LW.l (Ldr.old w0 ag4 rfl (hk11 0 _ rfl)) (hS1.same _ hb12.1 hb12.2) rfl ?_
    refine go ?_
    rcases bcases (!y4.live) with hc13 | hc13
    · replace h := bcT h hc13
      refine go ?_
      cases oi h
      exact ⟨⟨rfl, rfl, trivial⟩, hS1.pick [] rfl rfl⟩
    replace h := bcF h hc13
    refine go ?_
    refine LW.u (Pur.ix Tryz.underlying59 sz138 rfl rfl hp5 hq6) rfl ?_
    refine go ?_
    refine LW.l (Ldr.old w0 ag3 rfl (hk11 1 _ rfl)) (hS1.same _ hb12.1 hb12.2) rfl ?_
    refine go ?_
    cases oi h
    exact ⟨⟨rfl, rfl, trivial⟩, hS1.pick [] rfl rfl⟩
  intro e w14 hS2
  have h := h2
  refine go ?_
  refine cd (fun hc15 => ?_) fun hc15 => ?_
  · replace h := bcT h hc15
    refine go ?_
    cases h
    exact fi hS2
  replace h := bcF h hc15
  refine go ?_
  refine LW.u (Pur.build (vs := []) (cs := #[.int .i64 0, .int .i64 0, .int .i64 0]) rfl (by kernel_rfl)) rfl ?_
  refine LW.al hS2 fun g16 w17 hS3 => ?_
  refine LW.st hS3 0 fun w18 hS4 => ?_
  refine go ?_
  obtain ⟨o48, ho48, h49⟩ := obind h
  refine CW.mono (CW.iter (σ := Int × Int × Int × Int) (ρ := (Int × Int × Int × Int) ⊕ Bool) (fun s19 e wb => En e [(0, .slice a0_0 x0.length c0_0), (3, .pointer (some ⟨g16, 0, none⟩)), (24, .slice a0_0 x0.length c0_0), (25, .int .i64 (x0.length : Int)), (26, .int .i64 s19.1)] ∧ St w0 [] wb [bx g16 56 [.int .i64 s19.2.1, .int .i64 s19.2.2.1, .int .i64 s19.2.2.2]]) (fun o x e wb => match o with | .inl s19 => x = .exit 0 ∧ En e [(3, .pointer (some ⟨g16, 0, none⟩))] ∧ St w0 [] wb [bx g16 56 [.int .i64 s19.2.1, .int .i64 s19.2.2.1, .int .i64 s19.2.2.2]] | .inr r => x = .ret ∧ ∃ u, u = r ∧ ∃ v, Res Tryz.prog Tryz.f89.results e wb v ∧ v = .bool u ∧ St w0 [] wb []) ?_ N (0, 0, 0, 0) _ _ _ ⟨⟨rfl, rfl, rfl, rfl, rfl, trivial⟩, hS4.pick [0] rfl rfl⟩ ho48) ?_
  · intro s19 e w20 o hM h
    obtain ⟨hE, hS5⟩ := hM
    obtain ⟨e, rfl⟩ := hE.out
    refine go ?_
    refine cd (fun hc21 => ?_) fun hc21 => ?_
    · replace h := bcT h hc21
      refine go ?_
      replace ⟨y22, hy22, h⟩ := obind h
      obtain ⟨b25, o26, cs27, hae, hb30, hp23, hq24, hd28, hk29⟩ := hr0_0.idx hy22
      subst hae
      obtain rfl := hd28
      refine LW.u (Pur.ix Tryz.underlying59 sz138 rfl rfl hp23 hq24) rfl ?_
      refine LW.l (Ldr.oldN w0 ag138 rfl rfl (fun j u hu => hk29 j u hu)) (hS5.same _ hb30.1 hb30.2) rfl ?_
      refine LW.al hS5 fun g31 w32 hS6 => ?_
      refine go ?_
      refine LW.st hS6 0 fun w33 hS7 => ?_
      refine go ?_
      refine CW.fl [0, 3, 4, 5, 24, 25, 26, 33] fun e => ?_
      refine cd (fun hc34 => ?_) fun hc34 => ?_
      · replace h := bcT h hc34
        refine go ?_
        refine LW.u (Pur.build (vs := []) (cs := #[.bool false, .int .i64 0, .int .i64 0, .int .i64 0, .int .i64 0]) rfl (by kernel_rfl)) rfl ?_
        refine LW.u (Pur.ane eg138 rfl rfl (fun w => eq138 y22 (DRes.mk false 0 (DAmt.mk 0 0 0)) w)) rfl ?_
        refine go ?_
        refine cd (fun hc35 => ?_) fun hc35 => ?_
        · replace h := bcT h hc35
          refine go ?_
          cases oi h
          exact ⟨trivial, rfl, _, rfl, ⟨_, Res.one (resOne.t rfl), rfl, hS7.pick [] rfl rfl⟩⟩
        replace h := bcF h hc35
        refine go ?_
        cases oi h
        exact ⟨rfl, ⟨⟨rfl, rfl, rfl, rfl, rfl, trivial⟩, hS7.pick [1] rfl rfl⟩⟩
      replace h := bcF h hc34
      refine gs ?_
      obtain ⟨j36, hj36, h37⟩ := obind h
      refine CW.jn [0, 3, 5, 24, 25, 26] [0, 1] [(46, .bool j36)] hS7 (h1 := ?_) (h2 := ?_)
      · have h := hj36
        refine go ?_
        replace ⟨y38, hy38, h⟩ := obind h
        refine LW.c0 (W_i_AmtOk hy38) hS7 fun w39 hS8 => ?_
        refine go ?_
        rcases bcases (!y38) with hc40 | hc40
        · replace h := bcT h hc40
          refine go ?_
          cases oi h
          exact ⟨⟨rfl, rfl, rfl, rfl, rfl, rfl, rfl, trivial⟩, hS8.pick [0, 1] rfl rfl⟩
        replace h := bcF h hc40
        refine go ?_
        replace ⟨y41, hy41, h⟩ := obind h
        refine go ?_
        refine LW.c0 (W_i_leadsUp hy41 rfl (hS8.rB hr0_0)) hS8 fun w42 hS9 => ?_
        refine go ?_
        cases oi h
        exact ⟨⟨rfl, rfl, rfl, rfl, rfl, rfl, rfl, trivial⟩, hS9.pick [0, 1] rfl rfl⟩
      intro e w43 hS10
      have h := h37
      refine go ?_
      refine cd (fun hc44 => ?_) fun hc44 => ?_
      · replace h := bcT h hc44
        refine go ?_
        cases oi h
        exact ⟨trivial, rfl, _, rfl, ⟨_, Res.one (resOne.t rfl), rfl, hS10.pick [] rfl rfl⟩⟩
      replace h := bcF h hc44
      refine go ?_
      replace ⟨y45, hy45, h⟩ := obind h
      refine LW.c0 (W_i_sumOf hy45) hS10 fun w46 hS11 => ?_
      refine LW.st hS11 1 fun w47 hS12 => ?_
      refine go ?_
      cases oi h
      exact ⟨rfl, ⟨⟨rfl, rfl, rfl, rfl, rfl, trivial⟩, hS12.pick [1] rfl rfl⟩⟩
    replace h := bcF h hc21
    refine go ?_
    cases oi h
    exact ⟨trivial, rfl, ⟨⟨rfl, trivial⟩, hS5.pick [0] rfl rfl⟩⟩
  intro x e w50 hM
  rcases o48 with o48 | r53
  · obtain ⟨rfl, hM⟩ := hM
    obtain ⟨hE, hS13⟩ := hM
    obtain ⟨e, rfl⟩ := hE.out
    have h := h49
    refine go ?_
    replace ⟨y51, hy51, h⟩ := obind h
    refine LW.c0 (W_i_AmtOk hy51) hS13 fun w52 hS14 => ?_
    refine go ?_
    cases h
    exact fi hS14
  obtain ⟨rfl, u, rfl, hM⟩ := hM
  cases h49
  exact And.intro trivial hM

theorem W_i_ArenaOk {w0 : World} {N : Nat} {x0 : List DObj} {r : Bool} (h : F_i_ArenaOk N x0 = some r) {a0_0 : Option Addr} {n0_0 c0_0 : Nat} (hn0_0 : n0_0 = x0.length) (hr0_0 : rdS (Bor w0 []) w0 a0_0 c0_0 x0) :
    Ret Tryz.prog 119 #[.slice a0_0 n0_0 c0_0] w0 (fun v w => v = .bool r ∧ St w0 [] w []) := by
  subst hn0_0
  unfold F_i_ArenaOk at h
  refine Ret.fn Tryz.func119 fun e => ?_
  have hS1 := St.start w0
  refine gs ?_
  refine CW.region ?_
  refine gs ?_
  obtain ⟨j1, hj1, h2⟩ := obind h
  refine CW.jn [0] [] [(30, .bool j1)] hS1 (h1 := ?_) (h2 := ?_)
  · have h := hj1
    refine go ?_
    rcases bcases ((x0.length : Int) != 10) with hc3 | hc3
    · replace h := bcT h hc3
      refine go ?_
      cases oi h
      exact ⟨⟨rfl, rfl, trivial⟩, hS1.pick [] rfl rfl⟩
    replace h := bcF h hc3
    refine go ?_
    replace ⟨y4, hy4, h⟩ := obind h
    obtain ⟨b7, o8, cs9, hae, hb12, hp5, hq6, hd10, hk11⟩ := hr0_0.idx hy4
    subst hae
    obtain ⟨a13, c14, a16, c17, a19, c20, rfl, hr15, hr18, hr21⟩ := hd10
    refine go ?_
    refine LW.u (Pur.ix Tryz.underlying60 sz104 rfl rfl hp5 hq6) rfl ?_
    refine go ?_
    refine LW.l (Ldr.old w0 ag3 rfl (hk11 1 _ rfl)) (hS1.same _ hb12.1 hb12.2) rfl ?_
    refine go ?_
    rcases bcases (y4.kind != 1) with hc22 | hc22
    · replace h := bcT h hc22
      refine go ?_
      cases oi h
      exact ⟨⟨rfl, rfl, trivial⟩, hS1.pick [] rfl rfl⟩
    replace h := bcF h hc22
    refine go ?_
    refine LW.u (Pur.ix Tryz.underlying60 sz104 rfl rfl hp5 hq6) rfl ?_
    refine go ?_
    refine LW.l (Ldr.old w0 ag3 rfl (hk11 2 _ rfl)) (hS1.same _ hb12.1 hb12.2) rfl ?_
    refine go ?_
    rcases bcases (y4.box != (-1)) with hc23 | hc23
    · replace h := bcT h hc23
      refine go ?_
      cases oi h
      exact ⟨⟨rfl, rfl, trivial⟩, hS1.pick [] rfl rfl⟩
    replace h := bcF h hc23
    refine go ?_
    refine LW.u (Pur.ix Tryz.underlying60 sz104 rfl rfl hp5 hq6) rfl ?_
    refine go ?_
    refine LW.fl [0, 24, 27] fun e => ?_
    refine go ?_
    refine LW.l (Ldr.old w0 ag3 rfl (hk11 4 _ rfl)) (hS1.same _ hb12.1 hb12.2) rfl ?_
    refine go ?_
    cases oi h
    exact ⟨⟨rfl, rfl, trivial⟩, hS1.pick [] rfl rfl⟩
  intro e w24 hS2
  have h := h2
  refine go ?_
  refine cd (fun hc25 => ?_) fun hc25 => ?_
  · replace h := bcT h hc25
    refine go ?_
    cases h
    exact fi hS2
  replace h := bcF h hc25
  refine go ?_
  obtain ⟨o117, ho117, h118⟩ := obind h
  refine CW.mono (CW.lx [0, 31, 32] [] [] 0 (fun s26 => [(33, .int .i64 s26)]) (RT Tryz.prog Tryz.f119.results (fun u => .bool u) w0 []) hS2 ho117 (hb := ?_)) ?_
  · intro s26 e w27 o hS3 h
    refine go ?_
    refine cd (fun hc28 => ?_) fun hc28 => ?_
    · replace h := bcT h hc28
      refine go ?_
      replace ⟨y29, hy29, h⟩ := obind h
      obtain ⟨b32, o33, cs34, hae, hb37, hp30, hq31, hd35, hk36⟩ := hr0_0.idx hy29
      subst hae
      obtain ⟨a38, c39, a41, c42, a44, c45, rfl, hr40, hr43, hr46⟩ := hd35
      refine LW.u (Pur.ix Tryz.underlying60 sz104 rfl rfl hp30 hq31) rfl ?_
      refine LW.l (Ldr.oldN w0 ag104 rfl rfl (fun j u hu => hk36 j u hu)) (hS3.same _ hb37.1 hb37.2) rfl ?_
      refine LW.al hS3 fun g47 w48 hS4 => ?_
      refine go ?_
      refine LW.st hS4 0 fun w49 hS5 => ?_
      refine gs ?_
      obtain ⟨j50, hj50, h51⟩ := obind h
      refine CW.jn [0, 4, 31, 32, 33] [0] [(63, .bool j50)] hS5 (h1 := ?_) (h2 := ?_)
      · have h := hj50
        refine go ?_
        replace ⟨y52, hy52, h⟩ := obind h
        refine LW.c0 (W_i_ObjOk hy52 rfl (hS5.rB hr40) rfl (hS5.rB hr43) rfl (hS5.rB hr46)) hS5 fun w53 hS6 => ?_
        refine go ?_
        rcases bcases (!y52) with hc54 | hc54
        · replace h := bcT h hc54
          refine go ?_
          cases oi h
          exact ⟨⟨rfl, rfl, rfl, rfl, rfl, rfl, trivial⟩, hS6.pick [0] rfl rfl⟩
        replace h := bcF h hc54
        refine go ?_
        rcases bcases (decide (s26 > 0)) with hc55 | hc55
        · replace h := bcT h hc55
          refine go ?_
          refine LW.fl [0, 4, 31, 32, 33, 41, 49] fun e => ?_
          rcases bcases (y29.kind != 0) with hc56 | hc56
          · replace h := bcT h hc56
            refine go ?_
            rcases bcases (decide (y29.box ≥ 0)) with hc57 | hc57
            · replace h := bcT h hc57
              refine go ?_
              replace ⟨y58, hy58, h⟩ := obind h
              obtain ⟨b61, o62, cs63, hae, hb66, hp59, hq60, hd64, hk65⟩ := hr0_0.idx hy58
              cases hae
              obtain ⟨a67, c68, a70, c71, a73, c74, rfl, hr69, hr72, hr75⟩ := hd64
              refine go ?_
              refine LW.u (Pur.ix Tryz.underlying60 sz104 rfl rfl hp59 hq60) rfl ?_
              refine go ?_
              refine LW.l (Ldr.old w0 ag3 rfl (hk65 1 _ rfl)) (hS6.same _ hb66.1 hb66.2) rfl ?_
              refine go ?_
              cases oi h
              exact ⟨⟨rfl, rfl, rfl, rfl, rfl, rfl, trivial⟩, hS6.pick [0] rfl rfl⟩
            replace h := bcF h hc57
            refine go ?_
            cases oi h
            exact ⟨⟨rfl, rfl, rfl, rfl, rfl, rfl, trivial⟩, hS6.pick [0] rfl rfl⟩
          replace h := bcF h hc56
          refine go ?_
          cases oi h
          exact ⟨⟨rfl, rfl, rfl, rfl, rfl, rfl, trivial⟩, hS6.pick [0] rfl rfl⟩
        replace h := bcF h hc55
        refine go ?_
        cases oi h
        exact ⟨⟨rfl, rfl, rfl, rfl, rfl, rfl, trivial⟩, hS6.pick [0] rfl rfl⟩
      intro e w76 hS7
      have h := h51
      refine go ?_
      refine cd (fun hc77 => ?_) fun hc77 => ?_
      · replace h := bcT h hc77
        refine go ?_
        cases oi h
        exact ⟨trivial, rfl, _, rfl, ⟨_, Res.one (resOne.t rfl), rfl, hS7.pick [] rfl rfl⟩⟩
      replace h := bcF h hc77
      refine go ?_
      obtain ⟨o113, ho113, h114⟩ := obind h
      refine CW.mono (CW.lx [0, 31, 32, 33, 65, 66] [] [0, 31, 32, 33] 2 (fun s78 => [(67, .int .i64 s78)]) (RT Tryz.prog Tryz.f119.results (fun u => .bool u) w0 []) hS7 ho113 (hb := ?_)) ?_
      · intro s78 e w79 o hS8 h
        refine go ?_
        refine CW.fl [0, 31, 32, 33, 65, 66, 67, 68] fun e => ?_
        refine cd (fun hc80 => ?_) fun hc80 => ?_
        · replace h := bcT h hc80
          refine go ?_
          replace ⟨y81, hy81, h⟩ := obind h
          obtain ⟨b84, o85, cs86, hae, hb89, hp82, hq83, hd87, hk88⟩ := hr40.idx hy81
          subst hae
          obtain rfl := hd87
          refine LW.u (Pur.ix Tryz.underlying52 sz3 rfl rfl hp82 hq83) rfl ?_
          refine LW.l (Ldr.old w0 ag3 rfl (hk88 0 _ rfl)) (hS8.same _ hb89.1 hb89.2) rfl ?_
          refine gs ?_
          obtain ⟨j90, hj90, h91⟩ := obind h
          refine CW.jn [0, 31, 32, 33, 65, 66, 67] [] [(80, .bool j90)] hS8 (h1 := ?_) (h2 := ?_)
          · have h := hj90
            refine go ?_
            rcases bcases (decide (y81 ≥ 0)) with hc92 | hc92
            · replace h := bcT h hc92
              refine go ?_
              replace ⟨y93, hy93, h⟩ := obind h
              obtain ⟨b96, o97, cs98, hae, hb101, hp94, hq95, hd99, hk100⟩ := hr0_0.idx hy93
              cases hae
              obtain ⟨a102, c103, a105, c106, a108, c109, rfl, hr104, hr107, hr110⟩ := hd99
              refine go ?_
              refine LW.u (Pur.ix Tryz.underlying60 sz104 rfl rfl hp94 hq95) rfl ?_
              refine go ?_
              refine LW.l (Ldr.old w0 ag3 rfl (hk100 1 _ rfl)) (hS8.same _ hb101.1 hb101.2) rfl ?_
              refine go ?_
              cases oi h
              exact ⟨⟨rfl, rfl, rfl, rfl, rfl, rfl, rfl, rfl, trivial⟩, hS8.pick [] rfl rfl⟩
            replace h := bcF h hc92
            refine go ?_
            cases oi h
            exact ⟨⟨rfl, rfl, rfl, rfl, rfl, rfl, rfl, rfl, trivial⟩, hS8.pick [] rfl rfl⟩
          intro e w111 hS9
          have h := h91
          refine go ?_
          refine cd (fun hc112 => ?_) fun hc112 => ?_
          · replace h := bcT h hc112
            refine go ?_
            cases oi h
            exact ⟨trivial, rfl, _, rfl, ⟨_, Res.one (resOne.t rfl), rfl, hS9.pick [] rfl rfl⟩⟩
          replace h := bcF h hc112
          refine go ?_
          cases oi h
          exact ⟨rfl, ⟨⟨rfl, rfl, rfl, rfl, rfl, rfl, rfl, trivial⟩, hS9.pick [] rfl rfl⟩⟩
        replace h := bcF h hc80
        refine go ?_
        cases oi h
        exact ⟨trivial, rfl, ⟨⟨rfl, rfl, rfl, rfl, trivial⟩, hS8.pick [] rfl rfl⟩⟩
      intro x e w115 hM
      rcases o113 with o113 | r116
      · obtain ⟨rfl, hM⟩ := hM
        obtain ⟨hE, hS10⟩ := hM
        obtain ⟨e, rfl⟩ := hE.out
        have h := h114
        refine go ?_
        cases oi h
        exact ⟨rfl, ⟨⟨rfl, rfl, rfl, rfl, trivial⟩, hS10.pick [] rfl rfl⟩⟩
      obtain ⟨rfl, u, rfl, hM⟩ := hM
      cases h114
      exact ⟨trivial, rfl, _, rfl, hM⟩
    replace h := bcF h hc28
    refine go ?_
    cases oi h
    exact ⟨trivial, rfl, ⟨trivial, hS3.pick [] rfl rfl⟩⟩
  intro x e w119 hM
  rcases o117 with o117 | r120
  · obtain ⟨rfl, hM⟩ := hM
    obtain ⟨hE, hS11⟩ := hM
    obtain ⟨e, rfl⟩ := hE.out; rw [show e = upds e [] from rfl]
    have h := h118
    refine go ?_
    cases h
    exact fi hS11
  obtain ⟨rfl, u, rfl, hM⟩ := hM
  cases h118
  exact And.intro trivial hM

theorem W_i_firstThings {w0 : World} {N : Nat} {x0 : DPart} {r : (List DObjP)} (h : F_i_firstThings N x0 = some r) {a0_0 : Option Addr} {n0_0 c0_0 : Nat} (hn0_0 : n0_0 = x0.label.levels.length) (hr0_0 : rdS (Bor w0 []) w0 a0_0 c0_0 x0.label.levels) {a0_1 : Option Addr} {n0_1 c0_1 : Nat} (hn0_1 : n0_1 = x0.own.length) (hr0_1 : rdS (Bor w0 []) w0 a0_1 c0_1 x0.own) {a0_2 : Option Addr} {n0_2 c0_2 : Nat} (hn0_2 : n0_2 = x0.tree.length) (hr0_2 : rdS (Bor w0 []) w0 a0_2 c0_2 x0.tree) {a0_3 : Option Addr} {n0_3 c0_3 : Nat} (hn0_3 : n0_3 = x0.heap.arena.length) (hr0_3 : rdS (Bor w0 []) w0 a0_3 c0_3 x0.heap.arena) {a0_7 : Option Addr} {n0_7 c0_7 : Nat} (hn0_7 : n0_7 = x0.heap.gc.grey.length) (hr0_7 : rdS (Bor w0 []) w0 a0_7 c0_7 x0.heap.gc.grey) {a0_8 : Option Addr} {n0_8 c0_8 : Nat} (hn0_8 : n0_8 = x0.taps.length) (hr0_8 : rdS (Bor w0 []) w0 a0_8 c0_8 x0.taps) :
    Ret Tryz.prog 209 #[.agg #[.slice a0_0 n0_0 c0_0, .slice a0_1 n0_1 c0_1, .slice a0_2 n0_2 c0_2, .slice a0_3 n0_3 c0_3, .int .i64 x0.heap.gc.phase, .int .i64 x0.heap.gc.pos, .int .i64 x0.heap.gc.round, .slice a0_7 n0_7 c0_7, .slice a0_8 n0_8 c0_8, .int .i64 x0.next, .int .i64 x0.want, .int .i64 x0.spent.pages, .int .i64 x0.spent.rent, .int .i64 x0.spent.cpu, .int .i64 x0.press, .int .i64 x0.lost]] w0 (fun v w => ∃ ar0 cr0, v = .slice ar0 r.length cr0 ∧ St w0 [] w [sl ar0 cr0 r]) := by
  subst hn0_0 hn0_1 hn0_2 hn0_3 hn0_7 hn0_8
  unfold F_i_firstThings at h
  refine Ret.fn Tryz.func209 fun e => ?_
  have hS1 := St.start w0
  refine go ?_
  refine LW.bo hS1 fun g1 w2 hS2 => ?_
  refine go ?_
  refine LW.bsl (α := DObjP) (vs := []) (cs := #[]) (l := ([] : List DObjP)) rfl (by kernel_rfl) rfl rfl rfl (fun w => rfl) hS2 rfl ?_
  intro a3 c4 w5 hS3 hf
  refine go ?_
  refine LW.u (Pur.min rfl rfl) rfl ?_
  replace ⟨y6, hy6, h⟩ := obind h
  obtain ⟨a7, c8, he9, he10, hr11⟩ := rdS.sub' hr0_3 hy6
  have hle12 := (hr0_3).le
  refine LW.u (Pur.sub (α := DObj) (l := x0.heap.arena) Tryz.underlying60 sz104 rfl bndN (bndS rfl) hy6 hle12 he9 he10) rfl ?_
  refine go ?_
  obtain ⟨o45, ho45, h46⟩ := obind h
  refine CW.mono (CW.iter (σ := (List DObjP) × Int) (ρ := (List DObjP) × Int) (fun s13 e wb => ∃ (s13a0 : Option Addr), ∃ (s13c0 : Nat), En e [(3, .slice s13a0 s13.1.length s13c0), (15, .slice a7 y6.length c8), (16, .int .i64 (y6.length : Int)), (17, .int .i64 s13.2)] ∧ St w0 [] wb [sl s13a0 s13c0 s13.1]) (fun s13 x e wb => x = .exit 0 ∧ ∃ (s13a0 : Option Addr), ∃ (s13c0 : Nat), En e [(3, .slice s13a0 s13.1.length s13c0)] ∧ St w0 [] wb [sl s13a0 s13c0 s13.1]) ?_ N (([] : List DObjP), 0) _ _ _ ⟨a3, c4, ⟨rfl, rfl, rfl, rfl, trivial⟩, hS3.pick [0] rfl rfl⟩ ho45) ?_
  · intro s13 e w14 o hM h
    obtain ⟨s13a0, s13c0, hE, hS4⟩ := hM
    obtain ⟨e, rfl⟩ := hE.out
    refine go ?_
    refine CW.fl [3, 15, 16, 17, 18] fun e => ?_
    refine cd (fun hc15 => ?_) fun hc15 => ?_
    · replace h := bcT h hc15
      refine go ?_
      replace ⟨y16, hy16, h⟩ := obind h
      obtain ⟨b19, o20, cs21, hae, hb24, hp17, hq18, hd22, hk23⟩ := hr11.idx hy16
      subst hae
      obtain ⟨a25, c26, a28, c29, a31, c32, rfl, hr27, hr30, hr33⟩ := hd22
      refine LW.u (Pur.ix Tryz.underlying60 sz104 rfl rfl hp17 hq18) rfl ?_
      refine LW.l (Ldr.oldN w0 ag104 rfl rfl (fun j u hu => hk23 j u hu)) (hS4.same _ hb24.1 hb24.2) rfl ?_
      refine LW.al hS4 fun g34 w35 hS5 => ?_
      refine LW.st hS5 0 fun w36 hS6 => ?_
      refine go ?_
      replace ⟨y37, hy37, h⟩ := obind h
      refine LW.c0 (W_i_ObjOk hy37 rfl (hS6.rB hr27) rfl (hS6.rB hr30) rfl (hS6.rB hr33)) hS6 fun w38 hS7 => ?_
      refine go ?_
      refine cd (fun hc39 => ?_) fun hc39 => ?_
      · replace h := bcT h hc39
        refine go ?_
        replace ⟨y40, hy40, h⟩ := obind h
        refine LW.app1 (M := []) (L := [bx g34 104 [.int .i64 y16.gen, .int .i64 y16.kind, .int .i64 y16.box, .int .i64 y16.res, .int .i64 y16.til, .int .i64 y16.pages, .int .i64 y16.wait, .int .i64 y16.got, .int .i64 y16.ran, .bool y16.mark, .slice a25 y16.links.length c26, .slice a28 y16.data.length c29, .slice a31 y16.queue.length c32], sl s13a0 s13c0 s13.1]) (vs := #[.int .i64 y16.gen, .int .i64 y16.kind, .int .i64 y16.box, .int .i64 y16.res, .int .i64 y16.til, .int .i64 y16.pages, .int .i64 y16.wait, .int .i64 y16.got, .int .i64 y16.ran, .bool y16.mark, .slice a25 y16.links.length c26, .slice a28 y16.data.length c29, .slice a31 y16.queue.length c32]) (i := 1) sTP60 rfl (by kernel_rfl) rfl rfl hy40 hS7 rfl (fun w G hG => by cases (show G = [] from hG); exact ⟨⟨_, _, _, _, _, _, _, _, _, rfl⟩, rfl⟩) rfl rfl ?_
        intro v43 a41 c42 w44 hS8 hf
        refine go ?_
        cases oi h
        exact ⟨rfl, ⟨a41, c42, ⟨rfl, rfl, rfl, rfl, trivial⟩, hS8.pick [1] rfl rfl⟩⟩
      replace h := bcF h hc39
      refine go ?_
      cases oi h
      exact ⟨rfl, ⟨s13a0, s13c0, ⟨rfl, rfl, rfl, rfl, trivial⟩, hS7.pick [1] rfl rfl⟩⟩
    replace h := bcF h hc15
    refine go ?_
    cases oi h
    exact ⟨trivial, rfl, ⟨s13a0, s13c0, ⟨rfl, trivial⟩, hS4.pick [0] rfl rfl⟩⟩
  intro x e w47 hM
  obtain ⟨rfl, hM⟩ := hM
  obtain ⟨s13a0, s13c0, hE, hS9⟩ := hM
  obtain ⟨e, rfl⟩ := hE.out
  have h := h46
  refine go ?_
  cases h
  exact And.intro trivial ⟨_, Res.one (resOne.t rfl), s13a0, s13c0, rfl, hS9.pick [0] rfl rfl⟩

theorem W_i_AmtSub {w0 : World} {N : Nat} {x0 : DAmt} {x1 : DAmt} {r : DAmt × Bool} (h : F_i_AmtSub N x0 x1 = some r) :
    Ret Tryz.prog 160 #[.agg #[.int .i64 x0.pages, .int .i64 x0.rent, .int .i64 x0.cpu], .agg #[.int .i64 x1.pages, .int .i64 x1.rent, .int .i64 x1.cpu]] w0 (fun v w => v = .tuple #[.agg #[.int .i64 r.1.pages, .int .i64 r.1.rent, .int .i64 r.1.cpu], .bool r.2] ∧ St w0 [] w []) := by
  unfold F_i_AmtSub at h
  refine Ret.fn Tryz.func160 fun e => ?_
  have hS1 := St.start w0
  refine go ?_
  refine LW.bo hS1 fun g1 w2 hS2 => ?_
  refine LW.bo hS2 fun g3 w4 hS3 => ?_
  refine LW.al hS3 fun g5 w6 hS4 => ?_
  refine go ?_
  replace ⟨y7, hy7, h⟩ := obind h
  refine LW.c0 (W_i_AmtFits hy7) hS4 fun w8 hS5 => ?_
  refine go ?_
  refine cd (fun hc9 => ?_) fun hc9 => ?_
  · replace h := bcT h hc9
    refine go ?_
    refine LW.st hS5 0 fun w10 hS6 => ?_
    refine go ?_
    cases h
    exact And.intro trivial ⟨_, Res.two (resOne.b hS6 0 rfl ag56 rfl rfl) (resOne.t rfl), rfl, hS6.pick [] rfl rfl⟩
  replace h := bcF h hc9
  refine go ?_
  refine LW.u (Pur.build (vs := [(0, .int .i64 (IntKind.i64.wrap (x0.pages - x1.pages))), (1, .int .i64 (IntKind.i64.wrap (x0.rent - x1.rent))), (2, .int .i64 (IntKind.i64.wrap (x0.cpu - x1.cpu)))]) (cs := #[.int .i64 (IntKind.i64.wrap (x0.pages - x1.pages)), .int .i64 (IntKind.i64.wrap (x0.rent - x1.rent)), .int .i64 (IntKind.i64.wrap (x0.cpu - x1.cpu))]) rfl (by kernel_rfl)) rfl ?_
  refine LW.st hS5 0 fun w11 hS7 => ?_
  refine go ?_
  cases h
  exact And.intro trivial ⟨_, Res.two (resOne.b hS7 0 rfl ag56 rfl rfl) (resOne.t rfl), rfl, hS7.pick [] rfl rfl⟩

end Go.Kx
