/- Each call returns what the plain function says. Printed by drive.py. -/
import Derived.Test.YtdjpppkdngmeaaaGreatFa
import Derived.Test.YtdjpppkdngmeaaaGreatPu
import Derived.Test.YtdjpppkdngmeaaaGreatWa0
namespace Go.Kx
open Go Go.RowKit Go.Proofs
set_option maxRecDepth 10000
set_option maxHeartbeats 2000000
set_option linter.unusedVariables false
set_option linter.unusedSimpArgs false
theorem W_s_ArenaOk {w0 : World} {N : Nat} {x0 : List DObj} {r : Bool} (h : F_s_ArenaOk N x0 = some r) {a0_0 : Option Addr} {n0_0 c0_0 : Nat} (hn0_0 : n0_0 = x0.length) (hr0_0 : rdS (Bor w0 []) w0 a0_0 c0_0 x0) :
    Ret Tryz.prog 145 #[.slice a0_0 n0_0 c0_0] w0 (fun v w => v = .bool r ∧ St w0 [] w []) := by
  subst hn0_0
  unfold F_s_ArenaOk at h
  refine Ret.fn Tryz.func145 fun e => ?_
  have hS1 := St.start w0
  refine gs ?_
  refine CW.region ?_
  refine gs ?_
  obtain ⟨j1, hj1, h2⟩ := obind h
  refine CW.cut (fun e wb => En e [(0, .slice a0_0 x0.length c0_0), (29, .bool j1)] ∧ St w0 [] wb []) ?_ ?_
  · have h := hj1
    refine go ?_
    rcases bcases ((x0.length : Int) != 10) with hc3 | hc3
    · replace h := bcT h hc3
      refine go ?_
      cases oi h
      exact ⟨⟨rfl, rfl, trivial⟩, hS1.pick [] rfl rfl⟩
    replace h := bcF h hc3
    refine go ?_
    replace ⟨y4, hy4, h⟩ := obind h
    obtain ⟨b7, o8, cs9, hae, hb12, hp5, hq6, hd10, hk11⟩ := hr0_0.idx hy4
    subst hae
    obtain ⟨a13, c14, a16, c17, a19, c20, rfl, hr15, hr18, hr21⟩ := hd10
    refine go ?_
    refine LW.u (Pur.ix Tryz.underlying40 sz85 rfl rfl hp5 hq6) rfl ?_
    refine go ?_
    refine LW.l (Ldr.old w0 ag3 rfl (hk11 1 _ rfl)) (hS1.same _ hb12.1 hb12.2) rfl ?_
    refine go ?_
    rcases bcases (y4.kind != 1) with hc22 | hc22
    · replace h := bcT h hc22
      refine go ?_
      cases oi h
      exact ⟨⟨rfl, rfl, trivial⟩, hS1.pick [] rfl rfl⟩
    replace h := bcF h hc22
    refine go ?_
    refine LW.u (Pur.ix Tryz.underlying40 sz85 rfl rfl hp5 hq6) rfl ?_
    refine go ?_
    refine LW.l (Ldr.old w0 ag3 rfl (hk11 2 _ rfl)) (hS1.same _ hb12.1 hb12.2) rfl ?_
    refine go ?_
    rcases bcases (y4.box != (-1)) with hc23 | hc23
    · replace h := bcT h hc23
      refine go ?_
      cases oi h
      exact ⟨⟨rfl, rfl, trivial⟩, hS1.pick [] rfl rfl⟩
    replace h := bcF h hc23
    refine go ?_
    refine LW.u (Pur.ix Tryz.underlying40 sz85 rfl rfl hp5 hq6) rfl ?_
    refine go ?_
    refine LW.fl [0, 23, 26] fun e => ?_
    refine go ?_
    refine LW.l (Ldr.old w0 ag3 rfl (hk11 4 _ rfl)) (hS1.same _ hb12.1 hb12.2) rfl ?_
    refine go ?_
    cases oi h
    exact ⟨⟨rfl, rfl, trivial⟩, hS1.pick [] rfl rfl⟩
  rintro e w24 ⟨hE, hS2⟩
  obtain ⟨e, rfl⟩ := hE.out
  have h := h2
  refine go ?_
  refine CW.cond rfl (fun hc25 => ?_) (fun hc25 => ?_)
  · replace h := bcT h hc25
    refine go ?_
    cases h
    exact And.intro trivial ⟨_, Res.one (resOne.t rfl), rfl, hS2.pick [] rfl rfl⟩
  replace h := bcF h hc25
  refine go ?_
  obtain ⟨o132, ho132, h133⟩ := obind h
  refine CW.mono (CW.iter (σ := Int) (ρ := Int ⊕ Bool) (fun s26 e wb => En e [(0, .slice a0_0 x0.length c0_0), (3, .int .i64 s26)] ∧ St w0 [] wb []) (fun o x e wb => match o with | .inl s26 => x = .exit 0 ∧ En e [] ∧ St w0 [] wb [] | .inr r => x = .ret ∧ ∃ u, u = r ∧ ∃ v, Res Tryz.prog Tryz.f145.results e wb v ∧ v = .bool u ∧ St w0 [] wb []) ?_ N 0 _ _ _ ⟨⟨rfl, rfl, trivial⟩, hS2.pick [] rfl rfl⟩ ho132) ?_
  · intro s26 e w27 o hM h
    obtain ⟨hE, hS3⟩ := hM
    obtain ⟨e, rfl⟩ := hE.out
    refine go ?_
    refine CW.cond rfl (fun hc28 => ?_) (fun hc28 => ?_)
    · replace h := bcT h hc28
      refine gs ?_
      refine CW.block ?_
      refine gs ?_
      obtain ⟨j29, hj29, h30⟩ := obind h
      refine CW.cut (fun e wb => En e [(0, .slice a0_0 x0.length c0_0), (3, .int .i64 s26), (73, .bool j29)] ∧ St w0 [] wb []) ?_ ?_
      · have h := hj29
        refine go ?_
        replace ⟨y31, hy31, h⟩ := obind h
        obtain ⟨b34, o35, cs36, hae, hb39, hp32, hq33, hd37, hk38⟩ := hr0_0.idx hy31
        subst hae
        obtain ⟨a40, c41, a43, c44, a46, c47, rfl, hr42, hr45, hr48⟩ := hd37
        refine LW.u (Pur.ix Tryz.underlying40 sz85 rfl rfl hp32 hq33) rfl ?_
        refine LW.l (Ldr.oldN w0 ag85 rfl rfl (fun j u hu => hk38 j u hu)) (hS3.same _ hb39.1 hb39.2) rfl ?_
        replace ⟨y49, hy49, h⟩ := obind h
        refine LW.c0 (W_s_ObjOk hy49 rfl (hS3.rB hr42) rfl (hS3.rB hr45) rfl (hS3.rB hr48)) hS3 fun w50 hS4 => ?_
        refine go ?_
        rcases bcases (!y49) with hc51 | hc51
        · replace h := bcT h hc51
          refine go ?_
          cases oi h
          exact ⟨⟨rfl, rfl, rfl, trivial⟩, hS4.pick [] rfl rfl⟩
        replace h := bcF h hc51
        refine go ?_
        refine LW.u (Pur.ix Tryz.underlying40 sz85 rfl rfl hp32 hq33) rfl ?_
        refine go ?_
        refine LW.l (Ldr.old w0 ag3 rfl (hk38 1 _ rfl)) (hS4.same _ hb39.1 hb39.2) rfl ?_
        refine go ?_
        rcases bcases (y31.kind != 0) with hc52 | hc52
        · replace h := bcT h hc52
          refine go ?_
          refine LW.fl [0, 3, 42, 53] fun e => ?_
          rcases bcases (decide (s26 > 0)) with hc53 | hc53
          · replace h := bcT h hc53
            refine go ?_
            refine LW.u (Pur.ix Tryz.underlying40 sz85 rfl rfl hp32 hq33) rfl ?_
            refine go ?_
            refine LW.l (Ldr.old w0 ag3 rfl (hk38 2 _ rfl)) (hS4.same _ hb39.1 hb39.2) rfl ?_
            refine go ?_
            rcases bcases (decide (y31.box ≥ 0)) with hc54 | hc54
            · replace h := bcT h hc54
              refine go ?_
              refine LW.u (Pur.ix Tryz.underlying40 sz85 rfl rfl hp32 hq33) rfl ?_
              refine go ?_
              refine LW.l (Ldr.old w0 ag3 rfl (hk38 2 _ rfl)) (hS4.same _ hb39.1 hb39.2) rfl ?_
              replace ⟨y55, hy55, h⟩ := obind h
              obtain ⟨b58, o59, cs60, hae, hb63, hp56, hq57, hd61, hk62⟩ := hr0_0.idx hy55
              cases hae
              obtain ⟨a64, c65, a67, c68, a70, c71, rfl, hr66, hr69, hr72⟩ := hd61
              refine go ?_
              refine LW.u (Pur.ix Tryz.underlying40 sz85 rfl rfl hp56 hq57) rfl ?_
              refine go ?_
              refine LW.l (Ldr.old w0 ag3 rfl (hk62 1 _ rfl)) (hS4.same _ hb63.1 hb63.2) rfl ?_
              refine go ?_
              cases oi h
              exact ⟨⟨rfl, rfl, rfl, trivial⟩, hS4.pick [] rfl rfl⟩
            replace h := bcF h hc54
            refine go ?_
            cases oi h
            exact ⟨⟨rfl, rfl, rfl, trivial⟩, hS4.pick [] rfl rfl⟩
          replace h := bcF h hc53
          refine go ?_
          cases oi h
          exact ⟨⟨rfl, rfl, rfl, trivial⟩, hS4.pick [] rfl rfl⟩
        replace h := bcF h hc52
        refine go ?_
        cases oi h
        exact ⟨⟨rfl, rfl, rfl, trivial⟩, hS4.pick [] rfl rfl⟩
      rintro e w73 ⟨hE, hS5⟩
      obtain ⟨e, rfl⟩ := hE.out
      have h := h30
      refine go ?_
      refine CW.cond rfl (fun hc74 => ?_) (fun hc74 => ?_)
      · replace h := bcT h hc74
        refine go ?_
        cases oi h
        exact ⟨trivial, rfl, _, rfl, ⟨_, Res.one (resOne.t rfl), rfl, hS5.pick [] rfl rfl⟩⟩
      replace h := bcF h hc74
      refine go ?_
      obtain ⟨o128, ho128, h129⟩ := obind h
      refine CW.mono (CW.iter (σ := Int) (ρ := Int ⊕ Bool) (fun s75 e wb => En e [(0, .slice a0_0 x0.length c0_0), (3, .int .i64 s26), (4, .int .i64 s75)] ∧ St w0 [] wb []) (fun o x e wb => match o with | .inl s75 => x = .exit 2 ∧ En e [(0, .slice a0_0 x0.length c0_0), (3, .int .i64 s26)] ∧ St w0 [] wb [] | .inr r => x = .ret ∧ ∃ u, u = r ∧ ∃ v, Res Tryz.prog Tryz.f145.results e wb v ∧ v = .bool u ∧ St w0 [] wb []) ?_ N 0 _ _ _ ⟨⟨rfl, rfl, rfl, trivial⟩, hS5.pick [] rfl rfl⟩ ho128) ?_
      · intro s75 e w76 o hM h
        obtain ⟨hE, hS6⟩ := hM
        obtain ⟨e, rfl⟩ := hE.out
        refine go ?_
        replace ⟨y77, hy77, h⟩ := obind h
        obtain ⟨b80, o81, cs82, hae, hb85, hp78, hq79, hd83, hk84⟩ := hr0_0.idx hy77
        subst hae
        obtain ⟨a86, c87, a89, c90, a92, c93, rfl, hr88, hr91, hr94⟩ := hd83
        refine LW.u (Pur.ix Tryz.underlying40 sz85 rfl rfl hp78 hq79) rfl ?_
        refine go ?_
        refine LW.l (Ldr.old w0 ag22 rfl (hk84 10 _ rfl)) (hS6.same _ hb85.1 hb85.2) rfl ?_
        refine go ?_
        refine CW.fl [0, 3, 4, 81] fun e => ?_
        refine CW.cond rfl (fun hc95 => ?_) (fun hc95 => ?_)
        · replace h := bcT h hc95
          refine go ?_
          refine LW.u (Pur.ix Tryz.underlying40 sz85 rfl rfl hp78 hq79) rfl ?_
          refine go ?_
          refine LW.l (Ldr.old w0 ag22 rfl (hk84 10 _ rfl)) (hS6.same _ hb85.1 hb85.2) rfl ?_
          refine go ?_
          replace ⟨y96, hy96, h⟩ := obind h
          obtain ⟨b99, o100, cs101, hae, hb104, hp97, hq98, hd102, hk103⟩ := hr88.idx hy96
          subst hae
          obtain rfl := hd102
          refine LW.u (Pur.ix Tryz.underlying22 sz3 rfl rfl hp97 hq98) rfl ?_
          refine LW.l (Ldr.old w0 ag3 rfl (hk103 0 _ rfl)) (hS6.same _ hb104.1 hb104.2) rfl ?_
          refine gs ?_
          obtain ⟨j105, hj105, h106⟩ := obind h
          refine CW.cut (fun e wb => En e [(0, .slice (some ⟨b80, o81, none⟩) x0.length c0_0), (3, .int .i64 s26), (4, .int .i64 s75), (101, .bool j105)] ∧ St w0 [] wb []) ?_ ?_
          · have h := hj105
            refine go ?_
            rcases bcases (decide (y96 ≥ 0)) with hc107 | hc107
            · replace h := bcT h hc107
              refine go ?_
              replace ⟨y108, hy108, h⟩ := obind h
              obtain ⟨b111, o112, cs113, hae, hb116, hp109, hq110, hd114, hk115⟩ := hr0_0.idx hy108
              cases hae
              obtain ⟨a117, c118, a120, c121, a123, c124, rfl, hr119, hr122, hr125⟩ := hd114
              refine go ?_
              refine LW.u (Pur.ix Tryz.underlying40 sz85 rfl rfl hp109 hq110) rfl ?_
              refine go ?_
              refine LW.l (Ldr.old w0 ag3 rfl (hk115 1 _ rfl)) (hS6.same _ hb116.1 hb116.2) rfl ?_
              refine go ?_
              cases oi h
              exact ⟨⟨rfl, rfl, rfl, rfl, trivial⟩, hS6.pick [] rfl rfl⟩
            replace h := bcF h hc107
            refine go ?_
            cases oi h
            exact ⟨⟨rfl, rfl, rfl, rfl, trivial⟩, hS6.pick [] rfl rfl⟩
          rintro e w126 ⟨hE, hS7⟩
          obtain ⟨e, rfl⟩ := hE.out
          have h := h106
          refine go ?_
          refine CW.cond rfl (fun hc127 => ?_) (fun hc127 => ?_)
          · replace h := bcT h hc127
            refine go ?_
            cases oi h
            exact ⟨trivial, rfl, _, rfl, ⟨_, Res.one (resOne.t rfl), rfl, hS7.pick [] rfl rfl⟩⟩
          replace h := bcF h hc127
          refine go ?_
          cases oi h
          exact ⟨rfl, ⟨⟨rfl, rfl, rfl, trivial⟩, hS7.pick [] rfl rfl⟩⟩
        replace h := bcF h hc95
        refine go ?_
        cases oi h
        exact ⟨trivial, rfl, ⟨⟨rfl, rfl, trivial⟩, hS6.pick [] rfl rfl⟩⟩
      intro x e w130 hM
      rcases o128 with o128 | r131
      · obtain ⟨rfl, hM⟩ := hM
        obtain ⟨hE, hS8⟩ := hM
        obtain ⟨e, rfl⟩ := hE.out
        have h := h129
        refine go ?_
        cases oi h
        exact ⟨rfl, ⟨⟨rfl, rfl, trivial⟩, hS8.pick [] rfl rfl⟩⟩
      obtain ⟨rfl, u, rfl, hM⟩ := hM
      cases h129
      exact ⟨trivial, rfl, _, rfl, hM⟩
    replace h := bcF h hc28
    refine go ?_
    cases oi h
    exact ⟨trivial, rfl, ⟨trivial, hS3.pick [] rfl rfl⟩⟩
  intro x e w134 hM
  rcases o132 with o132 | r135
  · obtain ⟨rfl, hM⟩ := hM
    obtain ⟨hE, hS9⟩ := hM
    obtain ⟨e, rfl⟩ := hE.out; rw [show e = upds e [] from rfl]
    have h := h133
    refine go ?_
    cases h
    exact And.intro trivial ⟨_, Res.one (resOne.t rfl), rfl, hS9.pick [] rfl rfl⟩
  obtain ⟨rfl, u, rfl, hM⟩ := hM
  cases h133
  exact And.intro trivial hM

theorem W_s_l8Slot {w0 : World} {N : Nat} {x0 : Int} {r : Bool} (h : F_s_l8Slot N x0 = some r) :
    Ret Tryz.prog 143 #[.int .i64 x0] w0 (fun v w => v = .bool r ∧ St w0 [] w []) := by
  unfold F_s_l8Slot at h
  refine Ret.fn Tryz.func143 fun e => ?_
  have hS1 := St.start w0
  refine go ?_
  replace ⟨y1, hy1, h⟩ := obind h
  refine LW.c0 (W_s_l1In hy1) hS1 fun w2 hS2 => ?_
  refine go ?_
  cases h
  exact And.intro trivial ⟨_, Res.one (resOne.t rfl), rfl, hS2.pick [] rfl rfl⟩

theorem W_s_l4Has {w0 : World} {N : Nat} {x0 : List Int} {x1 : Int} {r : Bool} (h : F_s_l4Has N x0 x1 = some r) {a0_0 : Option Addr} {n0_0 c0_0 : Nat} (hn0_0 : n0_0 = x0.length) (hr0_0 : rdS (Bor w0 []) w0 a0_0 c0_0 x0) :
    Ret Tryz.prog 107 #[.slice a0_0 n0_0 c0_0, .int .i64 x1] w0 (fun v w => v = .bool r ∧ St w0 [] w []) := by
  subst hn0_0
  unfold F_s_l4Has at h
  refine Ret.fn Tryz.func107 fun e => ?_
  have hS1 := St.start w0
  refine go ?_
  obtain ⟨o14, ho14, h15⟩ := obind h
  refine CW.mono (CW.iter (σ := Int) (ρ := Int ⊕ Bool) (fun s1 e wb => En e [(0, .slice a0_0 x0.length c0_0), (1, .int .i64 x1), (5, .int .i64 s1)] ∧ St w0 [] wb []) (fun o x e wb => match o with | .inl s1 => x = .exit 0 ∧ En e [] ∧ St w0 [] wb [] | .inr r => x = .ret ∧ ∃ u, u = r ∧ ∃ v, Res Tryz.prog Tryz.f107.results e wb v ∧ v = .bool u ∧ St w0 [] wb []) ?_ N 0 _ _ _ ⟨⟨rfl, rfl, rfl, trivial⟩, hS1.pick [] rfl rfl⟩ ho14) ?_
  · intro s1 e w2 o hM h
    obtain ⟨hE, hS2⟩ := hM
    obtain ⟨e, rfl⟩ := hE.out
    refine go ?_
    refine CW.cond rfl (fun hc3 => ?_) (fun hc3 => ?_)
    · replace h := bcT h hc3
      refine go ?_
      replace ⟨y4, hy4, h⟩ := obind h
      obtain ⟨b7, o8, cs9, hae, hb12, hp5, hq6, hd10, hk11⟩ := hr0_0.idx hy4
      subst hae
      obtain rfl := hd10
      refine LW.u (Pur.ix Tryz.underlying22 sz3 rfl rfl hp5 hq6) rfl ?_
      refine LW.l (Ldr.old w0 ag3 rfl (hk11 0 _ rfl)) (hS2.same _ hb12.1 hb12.2) rfl ?_
      refine go ?_
      refine CW.fl [0, 1, 5, 17] fun e => ?_
      refine CW.cond rfl (fun hc13 => ?_) (fun hc13 => ?_)
      · replace h := bcT h hc13
        refine go ?_
        cases oi h
        exact ⟨trivial, rfl, _, rfl, ⟨_, Res.one (resOne.t rfl), rfl, hS2.pick [] rfl rfl⟩⟩
      replace h := bcF h hc13
      refine go ?_
      cases oi h
      exact ⟨rfl, ⟨⟨rfl, rfl, rfl, trivial⟩, hS2.pick [] rfl rfl⟩⟩
    replace h := bcF h hc3
    refine go ?_
    cases oi h
    exact ⟨trivial, rfl, ⟨trivial, hS2.pick [] rfl rfl⟩⟩
  intro x e w16 hM
  rcases o14 with o14 | r17
  · obtain ⟨rfl, hM⟩ := hM
    obtain ⟨hE, hS3⟩ := hM
    obtain ⟨e, rfl⟩ := hE.out; rw [show e = upds e [] from rfl]
    have h := h15
    refine go ?_
    cases h
    exact And.intro trivial ⟨_, Res.one (resOne.t rfl), rfl, hS3.pick [] rfl rfl⟩
  obtain ⟨rfl, u, rfl, hM⟩ := hM
  cases h15
  exact And.intro trivial hM

theorem W_s_HeapOk {w0 : World} {N : Nat} {x0 : DHeap} {r : Bool} (h : F_s_HeapOk N x0 = some r) {a0_0 : Option Addr} {n0_0 c0_0 : Nat} (hn0_0 : n0_0 = x0.arena.length) (hr0_0 : rdS (Bor w0 []) w0 a0_0 c0_0 x0.arena) {a0_4 : Option Addr} {n0_4 c0_4 : Nat} (hn0_4 : n0_4 = x0.gc.grey.length) (hr0_4 : rdS (Bor w0 []) w0 a0_4 c0_4 x0.gc.grey) :
    Ret Tryz.prog 106 #[.agg #[.slice a0_0 n0_0 c0_0, .int .i64 x0.gc.phase, .int .i64 x0.gc.pos, .int .i64 x0.gc.round, .slice a0_4 n0_4 c0_4]] w0 (fun v w => v = .bool r ∧ St w0 [] w []) := by
  subst hn0_0 hn0_4
  unfold F_s_HeapOk at h
  refine Ret.fn Tryz.func106 fun e => ?_
  have hS1 := St.start w0
  refine go ?_
  refine LW.bo hS1 fun g1 w2 hS2 => ?_
  refine go ?_
  refine LW.al hS2 fun g3 w4 hS3 => ?_
  refine LW.st hS3 0 fun w5 hS4 => ?_
  refine gs ?_
  obtain ⟨j6, hj6, h7⟩ := obind h
  refine CW.cut (fun e wb => En e [(3, .pointer (some ⟨g3, 0, none⟩)), (22, .bool j6)] ∧ St w0 [] wb [bx g3 41 [.int .i64 x0.gc.phase, .int .i64 x0.gc.pos, .int .i64 x0.gc.round, .slice a0_4 x0.gc.grey.length c0_4]]) ?_ ?_
  · have h := hj6
    refine go ?_
    replace ⟨y8, hy8, h⟩ := obind h
    refine LW.c0 (W_s_ArenaOk hy8 rfl (hS4.rB hr0_0)) hS4 fun w9 hS5 => ?_
    refine go ?_
    rcases bcases (!y8) with hc10 | hc10
    · replace h := bcT h hc10
      refine go ?_
      cases oi h
      exact ⟨⟨rfl, rfl, trivial⟩, hS5.pick [0] rfl rfl⟩
    replace h := bcF h hc10
    refine go ?_
    replace ⟨y11, hy11, h⟩ := obind h
    refine go ?_
    refine LW.c0 (W_s_l1In hy11) hS5 fun w12 hS6 => ?_
    refine go ?_
    rcases bcases (!y11) with hc13 | hc13
    · replace h := bcT h hc13
      refine go ?_
      cases oi h
      exact ⟨⟨rfl, rfl, trivial⟩, hS6.pick [0] rfl rfl⟩
    replace h := bcF h hc13
    refine go ?_
    replace ⟨y14, hy14, h⟩ := obind h
    refine go ?_
    refine LW.c0 (W_s_l1In hy14) hS6 fun w15 hS7 => ?_
    refine go ?_
    cases oi h
    exact ⟨⟨rfl, rfl, trivial⟩, hS7.pick [0] rfl rfl⟩
  rintro e w16 ⟨hE, hS8⟩
  obtain ⟨e, rfl⟩ := hE.out
  have h := h7
  refine go ?_
  refine CW.cond rfl (fun hc17 => ?_) (fun hc17 => ?_)
  · replace h := bcT h hc17
    refine go ?_
    cases h
    exact And.intro trivial ⟨_, Res.one (resOne.t rfl), rfl, hS8.pick [] rfl rfl⟩
  replace h := bcF h hc17
  refine gs ?_
  obtain ⟨j18, hj18, h19⟩ := obind h
  refine CW.cut (fun e wb => En e [(3, .pointer (some ⟨g3, 0, none⟩)), (47, .bool j18)] ∧ St w0 [] wb [bx g3 41 [.int .i64 x0.gc.phase, .int .i64 x0.gc.pos, .int .i64 x0.gc.round, .slice a0_4 x0.gc.grey.length c0_4]]) ?_ ?_
  · have h := hj18
    refine go ?_
    rcases bcases (x0.gc.phase == 0) with hc20 | hc20
    · replace h := bcT h hc20
      refine go ?_
      rcases bcases (x0.gc.pos != 0) with hc21 | hc21
      · replace h := bcT h hc21
        refine go ?_
        cases oi h
        exact ⟨⟨rfl, rfl, trivial⟩, hS8.pick [0] rfl rfl⟩
      replace h := bcF h hc21
      refine go ?_
      rcases bcases (x0.gc.phase == 1) with hc22 | hc22
      · replace h := bcT h hc22
        refine go ?_
        replace ⟨y23, hy23, h⟩ := obind h
        refine go ?_
        refine LW.c0 (W_s_l8Slot hy23) hS8 fun w24 hS9 => ?_
        refine go ?_
        refine LW.fl [3, 31, 35, 40] fun e => ?_
        rcases bcases (!y23) with hc25 | hc25
        · replace h := bcT h hc25
          refine go ?_
          cases oi h
          exact ⟨⟨rfl, rfl, trivial⟩, hS9.pick [0] rfl rfl⟩
        replace h := bcF h hc25
        refine go ?_
        cases oi h
        exact ⟨⟨rfl, rfl, trivial⟩, hS9.pick [0] rfl rfl⟩
      replace h := bcF h hc22
      refine go ?_
      cases oi h
      exact ⟨⟨rfl, rfl, trivial⟩, hS8.pick [0] rfl rfl⟩
    replace h := bcF h hc20
    refine go ?_
    rcases bcases (x0.gc.phase == 1) with hc26 | hc26
    · replace h := bcT h hc26
      refine go ?_
      replace ⟨y27, hy27, h⟩ := obind h
      refine go ?_
      refine LW.c0 (W_s_l8Slot hy27) hS8 fun w28 hS10 => ?_
      refine go ?_
      refine LW.fl [3, 31, 35, 40] fun e => ?_
      rcases bcases (!y27) with hc29 | hc29
      · replace h := bcT h hc29
        refine go ?_
        cases oi h
        exact ⟨⟨rfl, rfl, trivial⟩, hS10.pick [0] rfl rfl⟩
      replace h := bcF h hc29
      refine go ?_
      cases oi h
      exact ⟨⟨rfl, rfl, trivial⟩, hS10.pick [0] rfl rfl⟩
    replace h := bcF h hc26
    refine go ?_
    cases oi h
    exact ⟨⟨rfl, rfl, trivial⟩, hS8.pick [0] rfl rfl⟩
  rintro e w30 ⟨hE, hS11⟩
  obtain ⟨e, rfl⟩ := hE.out
  have h := h19
  refine go ?_
  refine CW.cond rfl (fun hc31 => ?_) (fun hc31 => ?_)
  · replace h := bcT h hc31
    refine go ?_
    cases h
    exact And.intro trivial ⟨_, Res.one (resOne.t rfl), rfl, hS11.pick [] rfl rfl⟩
  replace h := bcF h hc31
  refine go ?_
  obtain ⟨o60, ho60, h61⟩ := obind h
  refine CW.mono (CW.iter (σ := Int) (ρ := Int ⊕ Bool) (fun s32 e wb => En e [(3, .pointer (some ⟨g3, 0, none⟩)), (4, .int .i64 s32)] ∧ St w0 [] wb [bx g3 41 [.int .i64 x0.gc.phase, .int .i64 x0.gc.pos, .int .i64 x0.gc.round, .slice a0_4 x0.gc.grey.length c0_4]]) (fun o x e wb => match o with | .inl s32 => x = .exit 0 ∧ En e [] ∧ St w0 [] wb [bx g3 41 [.int .i64 x0.gc.phase, .int .i64 x0.gc.pos, .int .i64 x0.gc.round, .slice a0_4 x0.gc.grey.length c0_4]] | .inr r => x = .ret ∧ ∃ u, u = r ∧ ∃ v, Res Tryz.prog Tryz.f106.results e wb v ∧ v = .bool u ∧ St w0 [] wb []) ?_ N 0 _ _ _ ⟨⟨rfl, rfl, trivial⟩, hS11.pick [0] rfl rfl⟩ ho60) ?_
  · intro s32 e w33 o hM h
    obtain ⟨hE, hS12⟩ := hM
    obtain ⟨e, rfl⟩ := hE.out
    refine go ?_
    refine CW.cond rfl (fun hc34 => ?_) (fun hc34 => ?_)
    · replace h := bcT h hc34
      refine gs ?_
      refine CW.block ?_
      refine gs ?_
      obtain ⟨j35, hj35, h36⟩ := obind h
      refine CW.cut (fun e wb => En e [(3, .pointer (some ⟨g3, 0, none⟩)), (4, .int .i64 s32), (73, .bool j35)] ∧ St w0 [] wb [bx g3 41 [.int .i64 x0.gc.phase, .int .i64 x0.gc.pos, .int .i64 x0.gc.round, .slice a0_4 x0.gc.grey.length c0_4]]) ?_ ?_
      · have h := hj35
        refine CW.draw (by kernel_rfl) ?_
        have hS13 := hS12.drew
        refine AW.u (i := 0) rfl (by kernel_rfl) rfl rfl (Pur.fa fo41_3 rfl) ?_
        refine AW.take (i := 1) rfl (by kernel_rfl) rfl rfl (Ldr.box (bt := 41) (fr := (0, 0)) (cs := [.int .i64 x0.gc.phase, .int .i64 x0.gc.pos, .int .i64 x0.gc.round, .slice a0_4 x0.gc.grey.length c0_4]) ag22 rfl rfl) (St.cell (h := hS13) (i := 0) rfl) ?_
        refine AW.u (i := 2) rfl (by kernel_rfl) rfl rfl (Pur.p rfl) ?_
        replace ⟨y37, hy37, h⟩ := obind h
        obtain ⟨b40, o41, cs42, hae, hb45, hp38, hq39, hd43, hk44⟩ := hr0_4.idx hy37
        subst hae
        obtain rfl := hd43
        refine AW.u (i := 3) rfl (by kernel_rfl) rfl rfl (Pur.ix Tryz.underlying22 sz3 rfl rfl hp38 hq39) ?_
        refine AW.take (i := 4) rfl (by kernel_rfl) rfl rfl (Ldr.old w0 ag3 rfl (hk44 0 _ rfl)) (hS13.same _ hb45.1 hb45.2) ?_
        replace ⟨y46, hy46, h⟩ := obind h
        have q := W_s_l8Slot (w0 := w33.drew) hy46
        refine AW.one (i := 5) (by kernel_rfl) ?_
        refine ⟨_, rfl, ?_⟩
        refine LW.call pl143 rfl rfl ?_
        refine Ret.mono q ?_
        rintro _ w47 ⟨rfl, hs⟩
        have hS14 := hS13.add hs
        refine LW.nil ⟨rfl, (.w (by kernel_rfl) (.c (St.cell (h := hS14) (i := 0) rfl) Kept.n)), ?_⟩
        refine AW.u (i := 6) rfl (by kernel_rfl) rfl rfl (Pur.p rfl) ?_
        refine AW.u (i := 7) rfl (by kernel_rfl) rfl rfl (Pur.p rfl) ?_
        rcases bcases (!y46) with hc48 | hc48
        · replace h := bcT h hc48
          refine AW.no (i := 8) rfl (by kernel_rfl) (want_not rfl rfl hc48) rfl ?_
          refine AW.no (i := 9) rfl (by kernel_rfl) (want_not rfl rfl hc48) rfl ?_
          refine AW.no (i := 10) rfl (by kernel_rfl) (want_not rfl rfl hc48) rfl ?_
          refine AW.no (i := 11) rfl (by kernel_rfl) (want_not rfl rfl hc48) rfl ?_
          refine AW.no (i := 12) rfl (by kernel_rfl) (want_not rfl rfl hc48) rfl ?_
          refine AW.no (i := 13) rfl (by kernel_rfl) (want_not rfl rfl hc48) rfl ?_
          refine AW.no (i := 14) rfl (by kernel_rfl) (want_not rfl rfl hc48) rfl ?_
          refine AW.no (i := 15) rfl (by kernel_rfl) (want_not rfl rfl hc48) rfl ?_
          refine AW.no (i := 16) rfl (by kernel_rfl) (want_not rfl rfl hc48) rfl ?_
          refine AW.no (i := 17) rfl (by kernel_rfl) (want_not rfl rfl hc48) rfl ?_
          refine AW.u (i := 18) rfl (by kernel_rfl) rfl rfl (Pur.pickT rfl hc48) ?_
          refine AW.done (by kernel_rfl) ?_
          cases oi h
          exact ⟨⟨rfl, rfl, rfl, trivial⟩, hS14.pick [0] rfl rfl⟩
        replace h := bcF h hc48
        refine AW.u (i := 8) rfl (by kernel_rfl) (want_of rfl rfl hc48) rfl (Pur.fa fo41_3 rfl) ?_
        refine AW.take (i := 9) rfl (by kernel_rfl) (want_of rfl rfl hc48) rfl (Ldr.box (bt := 41) (fr := (0, 0)) (cs := [.int .i64 x0.gc.phase, .int .i64 x0.gc.pos, .int .i64 x0.gc.round, .slice (some ⟨b40, o41, none⟩) x0.gc.grey.length c0_4]) ag22 rfl rfl) (St.cell (h := hS14) (i := 0) rfl) ?_
        refine AW.u (i := 10) rfl (by kernel_rfl) (want_of rfl rfl hc48) rfl (Pur.p rfl) ?_
        replace ⟨y49, hy49, h⟩ := obind h
        obtain ⟨a50, c51, he52, he53, hr54⟩ := rdS.sub' hr0_4 hy49
        have hle55 := (hr0_4).le
        refine AW.u (i := 11) rfl (by kernel_rfl) (want_of rfl rfl hc48) rfl (Pur.sub (α := Int) (l := x0.gc.grey) Tryz.underlying22 sz3 rfl bndN (bndS rfl) hy49 hle55 he52 he53) ?_
        refine AW.u (i := 12) rfl (by kernel_rfl) (want_of rfl rfl hc48) rfl (Pur.fa fo41_3 rfl) ?_
        refine AW.take (i := 13) rfl (by kernel_rfl) (want_of rfl rfl hc48) rfl (Ldr.box (bt := 41) (fr := (0, 0)) (cs := [.int .i64 x0.gc.phase, .int .i64 x0.gc.pos, .int .i64 x0.gc.round, .slice (some ⟨b40, o41, none⟩) x0.gc.grey.length c0_4]) ag22 rfl rfl) (St.cell (h := hS14) (i := 0) rfl) ?_
        refine AW.u (i := 14) rfl (by kernel_rfl) (want_of rfl rfl hc48) rfl (Pur.p rfl) ?_
        refine AW.u (i := 15) rfl (by kernel_rfl) (want_of rfl rfl hc48) rfl (Pur.ix Tryz.underlying22 sz3 rfl rfl hp38 hq39) ?_
        refine AW.take (i := 16) rfl (by kernel_rfl) (want_of rfl rfl hc48) rfl (Ldr.old w0 ag3 rfl (hk44 0 _ rfl)) (hS14.same _ hb45.1 hb45.2) ?_
        replace ⟨y56, hy56, h⟩ := obind h
        have q := W_s_l4Has (w0 := w47) hy56 rfl (hS14.rB hr54)
        refine AW.one (i := 17) (by kernel_rfl) ?_
        refine ⟨_, rfl, ?_⟩
        refine (LW.gY (want_of rfl rfl hc48) ?_)
        refine LW.call pl107 rfl rfl ?_
        refine Ret.mono q ?_
        rintro _ w57 ⟨rfl, hs⟩
        have hS15 := hS14.add hs
        refine LW.nil ⟨rfl, (.w (by kernel_rfl) (.c (St.cell (h := hS15) (i := 0) rfl) (.c (St.cell (h := hS15) (i := 0) rfl) (.c (hS15.same _ hb45.1 hb45.2) (.c (St.cell (h := hS15) (i := 0) rfl) Kept.n))))), ?_⟩
        refine AW.u (i := 18) rfl (by kernel_rfl) rfl rfl (Pur.pickF rfl hc48) ?_
        refine AW.done (by kernel_rfl) ?_
        cases oi h
        exact ⟨⟨rfl, rfl, rfl, trivial⟩, hS15.pick [0] rfl rfl⟩
      rintro e w58 ⟨hE, hS16⟩
      obtain ⟨e, rfl⟩ := hE.out
      have h := h36
      refine go ?_
      refine CW.cond rfl (fun hc59 => ?_) (fun hc59 => ?_)
      · replace h := bcT h hc59
        refine go ?_
        cases oi h
        exact ⟨trivial, rfl, _, rfl, ⟨_, Res.one (resOne.t rfl), rfl, hS16.pick [] rfl rfl⟩⟩
      replace h := bcF h hc59
      refine go ?_
      cases oi h
      exact ⟨rfl, ⟨⟨rfl, rfl, trivial⟩, hS16.pick [0] rfl rfl⟩⟩
    replace h := bcF h hc34
    refine go ?_
    cases oi h
    exact ⟨trivial, rfl, ⟨trivial, hS12.pick [0] rfl rfl⟩⟩
  intro x e w62 hM
  rcases o60 with o60 | r63
  · obtain ⟨rfl, hM⟩ := hM
    obtain ⟨hE, hS17⟩ := hM
    obtain ⟨e, rfl⟩ := hE.out; rw [show e = upds e [] from rfl]
    have h := h61
    refine go ?_
    cases h
    exact And.intro trivial ⟨_, Res.one (resOne.t rfl), rfl, hS17.pick [] rfl rfl⟩
  obtain ⟨rfl, u, rfl, hM⟩ := hM
  cases h61
  exact And.intro trivial hM

theorem W_i_within {w0 : World} {N : Nat} {x0 : Int} {x1 : Int} {x2 : Int} {r : Bool} (h : F_i_within N x0 x1 x2 = some r) :
    Ret Tryz.prog 113 #[.int .i64 x0, .int .i64 x1, .int .i64 x2] w0 (fun v w => v = .bool r ∧ St w0 [] w []) := by
  unfold F_i_within at h
  refine Ret.fn Tryz.func113 fun e => ?_
  have hS1 := St.start w0
  refine go ?_
  rcases bcases (decide (x0 ≥ x1)) with hc1 | hc1
  · replace h := bcT h hc1
    refine go ?_
    cases h
    exact And.intro trivial ⟨_, Res.one (resOne.t rfl), rfl, hS1.pick [] rfl rfl⟩
  replace h := bcF h hc1
  refine go ?_
  cases h
  exact And.intro trivial ⟨_, Res.one (resOne.t rfl), rfl, hS1.pick [] rfl rfl⟩

theorem W_i_isPlace {w0 : World} {N : Nat} {x0 : Int} {r : Bool} (h : F_i_isPlace N x0 = some r) :
    Ret Tryz.prog 175 #[.int .i64 x0] w0 (fun v w => v = .bool r ∧ St w0 [] w []) := by
  unfold F_i_isPlace at h
  refine Ret.fn Tryz.func175 fun e => ?_
  have hS1 := St.start w0
  refine go ?_
  replace ⟨y1, hy1, h⟩ := obind h
  refine LW.c0 (W_i_within hy1) hS1 fun w2 hS2 => ?_
  refine go ?_
  cases h
  exact And.intro trivial ⟨_, Res.one (resOne.t rfl), rfl, hS2.pick [] rfl rfl⟩

theorem W_i_LabelOk {w0 : World} {N : Nat} {x0 : DLabel} {r : Bool} (h : F_i_LabelOk N x0 = some r) {a0_0 : Option Addr} {n0_0 c0_0 : Nat} (hn0_0 : n0_0 = x0.levels.length) (hr0_0 : rdS (Bor w0 []) w0 a0_0 c0_0 x0.levels) :
    Ret Tryz.prog 121 #[.agg #[.slice a0_0 n0_0 c0_0]] w0 (fun v w => v = .bool r ∧ St w0 [] w []) := by
  subst hn0_0
  unfold F_i_LabelOk at h
  refine Ret.fn Tryz.func121 fun e => ?_
  have hS1 := St.start w0
  refine go ?_
  refine LW.bo hS1 fun g1 w2 hS2 => ?_
  refine go ?_
  obtain ⟨o18, ho18, h19⟩ := obind h
  refine CW.mono (CW.iter (σ := Int) (ρ := Int ⊕ Bool) (fun s3 e wb => En e [(1, .pointer (some ⟨g1, 0, none⟩)), (6, .slice a0_0 x0.levels.length c0_0), (7, .int .i64 (x0.levels.length : Int)), (8, .int .i64 s3)] ∧ St w0 [] wb [bx g1 38 [.slice a0_0 x0.levels.length c0_0]]) (fun o x e wb => match o with | .inl s3 => x = .exit 0 ∧ En e [(1, .pointer (some ⟨g1, 0, none⟩))] ∧ St w0 [] wb [bx g1 38 [.slice a0_0 x0.levels.length c0_0]] | .inr r => x = .ret ∧ ∃ u, u = r ∧ ∃ v, Res Tryz.prog Tryz.f121.results e wb v ∧ v = .bool u ∧ St w0 [] wb []) ?_ N 0 _ _ _ ⟨⟨rfl, rfl, rfl, rfl, trivial⟩, hS2.pick [0] rfl rfl⟩ ho18) ?_
  · intro s3 e w4 o hM h
    obtain ⟨hE, hS3⟩ := hM
    obtain ⟨e, rfl⟩ := hE.out
    refine go ?_
    refine CW.cond rfl (fun hc5 => ?_) (fun hc5 => ?_)
    · replace h := bcT h hc5
      refine go ?_
      replace ⟨y6, hy6, h⟩ := obind h
      obtain ⟨b9, o10, cs11, hae, hb14, hp7, hq8, hd12, hk13⟩ := hr0_0.idx hy6
      subst hae
      obtain rfl := hd12
      refine LW.u (Pur.ix Tryz.underlying22 sz3 rfl rfl hp7 hq8) rfl ?_
      refine LW.l (Ldr.old w0 ag3 rfl (hk13 0 _ rfl)) (hS3.same _ hb14.1 hb14.2) rfl ?_
      refine go ?_
      replace ⟨y15, hy15, h⟩ := obind h
      refine LW.c0 (W_i_within hy15) hS3 fun w16 hS4 => ?_
      refine go ?_
      refine CW.fl [1, 6, 7, 8, 14] fun e => ?_
      refine CW.cond rfl (fun hc17 => ?_) (fun hc17 => ?_)
      · replace h := bcT h hc17
        refine go ?_
        cases oi h
        exact ⟨trivial, rfl, _, rfl, ⟨_, Res.one (resOne.t rfl), rfl, hS4.pick [] rfl rfl⟩⟩
      replace h := bcF h hc17
      refine go ?_
      cases oi h
      exact ⟨rfl, ⟨⟨rfl, rfl, rfl, rfl, trivial⟩, hS4.pick [0] rfl rfl⟩⟩
    replace h := bcF h hc5
    refine go ?_
    cases oi h
    exact ⟨trivial, rfl, ⟨⟨rfl, trivial⟩, hS3.pick [0] rfl rfl⟩⟩
  intro x e w20 hM
  rcases o18 with o18 | r21
  · obtain ⟨rfl, hM⟩ := hM
    obtain ⟨hE, hS5⟩ := hM
    obtain ⟨e, rfl⟩ := hE.out
    have h := h19
    refine go ?_
    cases h
    exact And.intro trivial ⟨_, Res.one (resOne.t rfl), rfl, hS5.pick [] rfl rfl⟩
  obtain ⟨rfl, u, rfl, hM⟩ := hM
  cases h19
  exact And.intro trivial hM

theorem W_i_OwnOk {w0 : World} {N : Nat} {x0 : List Int} {r : Bool} (h : F_i_OwnOk N x0 = some r) {a0_0 : Option Addr} {n0_0 c0_0 : Nat} (hn0_0 : n0_0 = x0.length) (hr0_0 : rdS (Bor w0 []) w0 a0_0 c0_0 x0) :
    Ret Tryz.prog 122 #[.slice a0_0 n0_0 c0_0] w0 (fun v w => v = .bool r ∧ St w0 [] w []) := by
  subst hn0_0
  unfold F_i_OwnOk at h
  refine Ret.fn Tryz.func122 fun e => ?_
  have hS1 := St.start w0
  refine go ?_
  obtain ⟨o30, ho30, h31⟩ := obind h
  refine CW.mono (CW.iter (σ := Int) (ρ := Int ⊕ Bool) (fun s1 e wb => En e [(0, .slice a0_0 x0.length c0_0), (5, .slice a0_0 x0.length c0_0), (6, .int .i64 (x0.length : Int)), (7, .int .i64 s1)] ∧ St w0 [] wb []) (fun o x e wb => match o with | .inl s1 => x = .exit 0 ∧ En e [] ∧ St w0 [] wb [] | .inr r => x = .ret ∧ ∃ u, u = r ∧ ∃ v, Res Tryz.prog Tryz.f122.results e wb v ∧ v = .bool u ∧ St w0 [] wb []) ?_ N 0 _ _ _ ⟨⟨rfl, rfl, rfl, rfl, trivial⟩, hS1.pick [] rfl rfl⟩ ho30) ?_
  · intro s1 e w2 o hM h
    obtain ⟨hE, hS2⟩ := hM
    obtain ⟨e, rfl⟩ := hE.out
    refine go ?_
    refine CW.cond rfl (fun hc3 => ?_) (fun hc3 => ?_)
    · replace h := bcT h hc3
      refine go ?_
      replace ⟨y4, hy4, h⟩ := obind h
      obtain ⟨b7, o8, cs9, hae, hb12, hp5, hq6, hd10, hk11⟩ := hr0_0.idx hy4
      subst hae
      obtain rfl := hd10
      refine LW.u (Pur.ix Tryz.underlying22 sz3 rfl rfl hp5 hq6) rfl ?_
      refine LW.l (Ldr.old w0 ag3 rfl (hk11 0 _ rfl)) (hS2.same _ hb12.1 hb12.2) rfl ?_
      refine gs ?_
      obtain ⟨j13, hj13, h14⟩ := obind h
      refine CW.cut (fun e wb => En e [(0, .slice (some ⟨b7, o8, none⟩) x0.length c0_0), (5, .slice (some ⟨b7, o8, none⟩) x0.length c0_0), (6, .int .i64 (x0.length : Int)), (7, .int .i64 s1), (27, .bool j13)] ∧ St w0 [] wb []) ?_ ?_
      · have h := hj13
        refine go ?_
        replace ⟨y15, hy15, h⟩ := obind h
        refine LW.c0 (W_i_within hy15) hS2 fun w16 hS3 => ?_
        refine go ?_
        rcases bcases (!y15) with hc17 | hc17
        · replace h := bcT h hc17
          refine go ?_
          cases oi h
          exact ⟨⟨rfl, rfl, rfl, rfl, rfl, trivial⟩, hS3.pick [] rfl rfl⟩
        replace h := bcF h hc17
        refine go ?_
        rcases bcases (decide (s1 > 0)) with hc18 | hc18
        · replace h := bcT h hc18
          refine go ?_
          replace ⟨y19, hy19, h⟩ := obind h
          obtain ⟨b22, o23, cs24, hae, hb27, hp20, hq21, hd25, hk26⟩ := hr0_0.idx hy19
          cases hae
          obtain rfl := hd25
          refine go ?_
          refine LW.u (Pur.ix Tryz.underlying22 sz3 rfl rfl hp20 hq21) rfl ?_
          refine LW.fl [0, 4, 5, 6, 7, 15, 18, 22] fun e => ?_
          refine go ?_
          refine LW.l (Ldr.old w0 ag3 rfl (hk26 0 _ rfl)) (hS3.same _ hb27.1 hb27.2) rfl ?_
          refine go ?_
          cases oi h
          exact ⟨⟨rfl, rfl, rfl, rfl, rfl, trivial⟩, hS3.pick [] rfl rfl⟩
        replace h := bcF h hc18
        refine go ?_
        cases oi h
        exact ⟨⟨rfl, rfl, rfl, rfl, rfl, trivial⟩, hS3.pick [] rfl rfl⟩
      rintro e w28 ⟨hE, hS4⟩
      obtain ⟨e, rfl⟩ := hE.out
      have h := h14
      refine go ?_
      refine CW.cond rfl (fun hc29 => ?_) (fun hc29 => ?_)
      · replace h := bcT h hc29
        refine go ?_
        cases oi h
        exact ⟨trivial, rfl, _, rfl, ⟨_, Res.one (resOne.t rfl), rfl, hS4.pick [] rfl rfl⟩⟩
      replace h := bcF h hc29
      refine go ?_
      cases oi h
      exact ⟨rfl, ⟨⟨rfl, rfl, rfl, rfl, trivial⟩, hS4.pick [] rfl rfl⟩⟩
    replace h := bcF h hc3
    refine go ?_
    cases oi h
    exact ⟨trivial, rfl, ⟨trivial, hS2.pick [] rfl rfl⟩⟩
  intro x e w32 hM
  rcases o30 with o30 | r33
  · obtain ⟨rfl, hM⟩ := hM
    obtain ⟨hE, hS5⟩ := hM
    obtain ⟨e, rfl⟩ := hE.out; rw [show e = upds e [] from rfl]
    have h := h31
    refine go ?_
    cases h
    exact And.intro trivial ⟨_, Res.one (resOne.t rfl), rfl, hS5.pick [] rfl rfl⟩
  obtain ⟨rfl, u, rfl, hM⟩ := hM
  cases h31
  exact And.intro trivial hM

theorem W_i_isAmount {w0 : World} {N : Nat} {x0 : Int} {r : Bool} (h : F_i_isAmount N x0 = some r) :
    Ret Tryz.prog 162 #[.int .i64 x0] w0 (fun v w => v = .bool r ∧ St w0 [] w []) := by
  unfold F_i_isAmount at h
  refine Ret.fn Tryz.func162 fun e => ?_
  have hS1 := St.start w0
  refine go ?_
  replace ⟨y1, hy1, h⟩ := obind h
  refine LW.c0 (W_i_within hy1) hS1 fun w2 hS2 => ?_
  refine go ?_
  cases h
  exact And.intro trivial ⟨_, Res.one (resOne.t rfl), rfl, hS2.pick [] rfl rfl⟩

theorem W_i_AmtOk {w0 : World} {N : Nat} {x0 : DAmt} {r : Bool} (h : F_i_AmtOk N x0 = some r) :
    Ret Tryz.prog 116 #[.agg #[.int .i64 x0.pages, .int .i64 x0.rent, .int .i64 x0.cpu]] w0 (fun v w => v = .bool r ∧ St w0 [] w []) := by
  unfold F_i_AmtOk at h
  refine Ret.fn Tryz.func116 fun e => ?_
  have hS1 := St.start w0
  refine go ?_
  refine LW.bo hS1 fun g1 w2 hS2 => ?_
  refine go ?_
  replace ⟨y3, hy3, h⟩ := obind h
  refine LW.c0 (W_i_isAmount hy3) hS2 fun w4 hS3 => ?_
  refine go ?_
  rcases bcases y3 with hc5 | hc5
  · replace h := bcT h hc5
    refine go ?_
    replace ⟨y6, hy6, h⟩ := obind h
    refine go ?_
    refine LW.c0 (W_i_isAmount hy6) hS3 fun w7 hS4 => ?_
    refine go ?_
    rcases bcases y6 with hc8 | hc8
    · replace h := bcT h hc8
      refine go ?_
      replace ⟨y9, hy9, h⟩ := obind h
      refine go ?_
      refine LW.c0 (W_i_isAmount hy9) hS4 fun w10 hS5 => ?_
      refine go ?_
      cases h
      exact And.intro trivial ⟨_, Res.one (resOne.t rfl), rfl, hS5.pick [] rfl rfl⟩
    replace h := bcF h hc8
    refine go ?_
    cases h
    exact And.intro trivial ⟨_, Res.one (resOne.t rfl), rfl, hS4.pick [] rfl rfl⟩
  replace h := bcF h hc5
  refine go ?_
  cases h
  exact And.intro trivial ⟨_, Res.one (resOne.t rfl), rfl, hS3.pick [] rfl rfl⟩

theorem W_i_isLive {w0 : World} {N : Nat} {x0 : List DRes} {x1 : Int} {r : Bool} (h : F_i_isLive N x0 x1 = some r) {a0_0 : Option Addr} {n0_0 c0_0 : Nat} (hn0_0 : n0_0 = x0.length) (hr0_0 : rdS (Bor w0 []) w0 a0_0 c0_0 x0) :
    Ret Tryz.prog 154 #[.slice a0_0 n0_0 c0_0, .int .i64 x1] w0 (fun v w => v = .bool r ∧ St w0 [] w []) := by
  subst hn0_0
  unfold F_i_isLive at h
  refine Ret.fn Tryz.func154 fun e => ?_
  have hS1 := St.start w0
  refine go ?_
  replace ⟨y1, hy1, h⟩ := obind h
  refine LW.c0 (W_i_isPlace hy1) hS1 fun w2 hS2 => ?_
  refine go ?_
  rcases bcases y1 with hc3 | hc3
  · replace h := bcT h hc3
    refine go ?_
    replace ⟨y4, hy4, h⟩ := obind h
    obtain ⟨b7, o8, cs9, hae, hb12, hp5, hq6, hd10, hk11⟩ := hr0_0.idx hy4
    subst hae
    obtain rfl := hd10
    refine go ?_
    refine LW.u (Pur.ix Tryz.underlying39 sz87 rfl rfl hp5 hq6) rfl ?_
    refine go ?_
    refine LW.l (Ldr.old w0 ag4 rfl (hk11 0 _ rfl)) (hS2.same _ hb12.1 hb12.2) rfl ?_
    refine go ?_
    cases h
    exact And.intro trivial ⟨_, Res.one (resOne.t rfl), rfl, hS2.pick [] rfl rfl⟩
  replace h := bcF h hc3
  refine go ?_
  cases h
  exact And.intro trivial ⟨_, Res.one (resOne.t rfl), rfl, hS2.pick [] rfl rfl⟩

theorem W_i_leadsUp {w0 : World} {N : Nat} {x0 : List DRes} {x1 : Int} {r : Bool} (h : F_i_leadsUp N x0 x1 = some r) {a0_0 : Option Addr} {n0_0 c0_0 : Nat} (hn0_0 : n0_0 = x0.length) (hr0_0 : rdS (Bor w0 []) w0 a0_0 c0_0 x0) :
    Ret Tryz.prog 177 #[.slice a0_0 n0_0 c0_0, .int .i64 x1] w0 (fun v w => v = .bool r ∧ St w0 [] w []) := by
  subst hn0_0
  unfold F_i_leadsUp at h
  refine Ret.fn Tryz.func177 fun e => ?_
  have hS1 := St.start w0
  refine go ?_
  obtain ⟨o17, ho17, h18⟩ := obind h
  refine CW.mono (CW.iter (σ := Int × Int) (ρ := (Int × Int) ⊕ Bool) (fun s1 e wb => En e [(0, .slice a0_0 x0.length c0_0), (1, .int .i64 s1.1), (5, .int .i64 s1.2)] ∧ St w0 [] wb []) (fun o x e wb => match o with | .inl s1 => x = .exit 0 ∧ En e [] ∧ St w0 [] wb [] | .inr r => x = .ret ∧ ∃ u, u = r ∧ ∃ v, Res Tryz.prog Tryz.f177.results e wb v ∧ v = .bool u ∧ St w0 [] wb []) ?_ N (x1, 0) _ _ _ ⟨⟨rfl, rfl, rfl, trivial⟩, hS1.pick [] rfl rfl⟩ ho17) ?_
  · intro s1 e w2 o hM h
    obtain ⟨hE, hS2⟩ := hM
    obtain ⟨e, rfl⟩ := hE.out
    refine go ?_
    refine CW.cond rfl (fun hc3 => ?_) (fun hc3 => ?_)
    · replace h := bcT h hc3
      refine go ?_
      refine CW.cond rfl (fun hc4 => ?_) (fun hc4 => ?_)
      · replace h := bcT h hc4
        refine go ?_
        cases oi h
        exact ⟨trivial, rfl, _, rfl, ⟨_, Res.one (resOne.t rfl), rfl, hS2.pick [] rfl rfl⟩⟩
      replace h := bcF h hc4
      refine go ?_
      replace ⟨y5, hy5, h⟩ := obind h
      refine LW.c0 (W_i_isLive hy5 rfl (hS2.rB hr0_0)) hS2 fun w6 hS3 => ?_
      refine go ?_
      refine CW.cond rfl (fun hc7 => ?_) (fun hc7 => ?_)
      · replace h := bcT h hc7
        refine go ?_
        cases oi h
        exact ⟨trivial, rfl, _, rfl, ⟨_, Res.one (resOne.t rfl), rfl, hS3.pick [] rfl rfl⟩⟩
      replace h := bcF h hc7
      refine go ?_
      replace ⟨y8, hy8, h⟩ := obind h
      obtain ⟨b11, o12, cs13, hae, hb16, hp9, hq10, hd14, hk15⟩ := hr0_0.idx hy8
      subst hae
      obtain rfl := hd14
      refine LW.u (Pur.ix Tryz.underlying39 sz87 rfl rfl hp9 hq10) rfl ?_
      refine go ?_
      refine LW.l (Ldr.old w0 ag3 rfl (hk15 1 _ rfl)) (hS3.same _ hb16.1 hb16.2) rfl ?_
      refine go ?_
      cases oi h
      exact ⟨rfl, ⟨⟨rfl, rfl, rfl, trivial⟩, hS3.pick [] rfl rfl⟩⟩
    replace h := bcF h hc3
    refine go ?_
    cases oi h
    exact ⟨trivial, rfl, ⟨trivial, hS2.pick [] rfl rfl⟩⟩
  intro x e w19 hM
  rcases o17 with o17 | r20
  · obtain ⟨rfl, hM⟩ := hM
    obtain ⟨hE, hS4⟩ := hM
    obtain ⟨e, rfl⟩ := hE.out; rw [show e = upds e [] from rfl]
    have h := h18
    refine go ?_
    cases h
    exact And.intro trivial ⟨_, Res.one (resOne.t rfl), rfl, hS4.pick [] rfl rfl⟩
  obtain ⟨rfl, u, rfl, hM⟩ := hM
  cases h18
  exact And.intro trivial hM

theorem W_i_sumOf {w0 : World} {N : Nat} {x0 : DAmt} {x1 : DAmt} {r : DAmt} (h : F_i_sumOf N x0 x1 = some r) :
    Ret Tryz.prog 114 #[.agg #[.int .i64 x0.pages, .int .i64 x0.rent, .int .i64 x0.cpu], .agg #[.int .i64 x1.pages, .int .i64 x1.rent, .int .i64 x1.cpu]] w0 (fun v w => v = .agg #[.int .i64 r.pages, .int .i64 r.rent, .int .i64 r.cpu] ∧ St w0 [] w []) := by
  unfold F_i_sumOf at h
  refine Ret.fn Tryz.func114 fun e => ?_
  have hS1 := St.start w0
  refine go ?_
  refine LW.bo hS1 fun g1 w2 hS2 => ?_
  refine LW.bo hS2 fun g3 w4 hS3 => ?_
  refine LW.al hS3 fun g5 w6 hS4 => ?_
  refine go ?_
  refine LW.u (Pur.build (vs := [(0, .int .i64 (IntKind.i64.wrap (x0.pages + x1.pages))), (1, .int .i64 (IntKind.i64.wrap (x0.rent + x1.rent))), (2, .int .i64 (IntKind.i64.wrap (x0.cpu + x1.cpu)))]) (cs := #[.int .i64 (IntKind.i64.wrap (x0.pages + x1.pages)), .int .i64 (IntKind.i64.wrap (x0.rent + x1.rent)), .int .i64 (IntKind.i64.wrap (x0.cpu + x1.cpu))]) rfl (by kernel_rfl)) rfl ?_
  refine LW.st hS4 0 fun w7 hS5 => ?_
  refine go ?_
  cases h
  exact And.intro trivial ⟨_, Res.one (resOne.b hS5 0 rfl ag45 rfl rfl), rfl, hS5.pick [] rfl rfl⟩

theorem W_i_TreeOk {w0 : World} {N : Nat} {x0 : List DRes} {r : Bool} (h : F_i_TreeOk N x0 = some r) {a0_0 : Option Addr} {n0_0 c0_0 : Nat} (hn0_0 : n0_0 = x0.length) (hr0_0 : rdS (Bor w0 []) w0 a0_0 c0_0 x0) :
    Ret Tryz.prog 150 #[.slice a0_0 n0_0 c0_0] w0 (fun v w => v = .bool r ∧ St w0 [] w []) := by
  subst hn0_0
  unfold F_i_TreeOk at h
  refine Ret.fn Tryz.func150 fun e => ?_
  have hS1 := St.start w0
  refine gs ?_
  refine CW.region ?_
  refine gs ?_
  obtain ⟨j1, hj1, h2⟩ := obind h
  refine CW.cut (fun e wb => En e [(0, .slice a0_0 x0.length c0_0), (22, .bool j1)] ∧ St w0 [] wb []) ?_ ?_
  · have h := hj1
    refine go ?_
    rcases bcases ((x0.length : Int) != 5) with hc3 | hc3
    · replace h := bcT h hc3
      refine go ?_
      cases oi h
      exact ⟨⟨rfl, rfl, trivial⟩, hS1.pick [] rfl rfl⟩
    replace h := bcF h hc3
    refine go ?_
    replace ⟨y4, hy4, h⟩ := obind h
    obtain ⟨b7, o8, cs9, hae, hb12, hp5, hq6, hd10, hk11⟩ := hr0_0.idx hy4
    subst hae
    obtain rfl := hd10
    refine go ?_
    refine LW.u (Pur.ix Tryz.underlying39 sz87 rfl rfl hp5 hq6) rfl ?_
    refine go ?_
    refine LW.l (Ldr.old w0 ag4 rfl (hk11 0 _ rfl)) (hS1.same _ hb12.1 hb12.2) rfl ?_
    refine go ?_
    rcases bcases (!y4.live) with hc13 | hc13
    · replace h := bcT h hc13
      refine go ?_
      cases oi h
      exact ⟨⟨rfl, rfl, trivial⟩, hS1.pick [] rfl rfl⟩
    replace h := bcF h hc13
    refine go ?_
    refine LW.u (Pur.ix Tryz.underlying39 sz87 rfl rfl hp5 hq6) rfl ?_
    refine go ?_
    refine LW.l (Ldr.old w0 ag3 rfl (hk11 1 _ rfl)) (hS1.same _ hb12.1 hb12.2) rfl ?_
    refine go ?_
    cases oi h
    exact ⟨⟨rfl, rfl, trivial⟩, hS1.pick [] rfl rfl⟩
  rintro e w14 ⟨hE, hS2⟩
  obtain ⟨e, rfl⟩ := hE.out
  have h := h2
  refine go ?_
  refine CW.cond rfl (fun hc15 => ?_) (fun hc15 => ?_)
  · replace h := bcT h hc15
    refine go ?_
    cases h
    exact And.intro trivial ⟨_, Res.one (resOne.t rfl), rfl, hS2.pick [] rfl rfl⟩
  replace h := bcF h hc15
  refine go ?_
  refine LW.u (Pur.build (vs := []) (cs := #[.int .i64 0, .int .i64 0, .int .i64 0]) rfl (by kernel_rfl)) rfl ?_
  refine LW.al hS2 fun g16 w17 hS3 => ?_
  refine LW.st hS3 0 fun w18 hS4 => ?_
  refine go ?_
  obtain ⟨o48, ho48, h49⟩ := obind h
  refine CW.mono (CW.iter (σ := Int × Int × Int × Int) (ρ := (Int × Int × Int × Int) ⊕ Bool) (fun s19 e wb => En e [(0, .slice a0_0 x0.length c0_0), (3, .pointer (some ⟨g16, 0, none⟩)), (24, .slice a0_0 x0.length c0_0), (25, .int .i64 (x0.length : Int)), (26, .int .i64 s19.1)] ∧ St w0 [] wb [bx g16 45 [.int .i64 s19.2.1, .int .i64 s19.2.2.1, .int .i64 s19.2.2.2]]) (fun o x e wb => match o with | .inl s19 => x = .exit 0 ∧ En e [(3, .pointer (some ⟨g16, 0, none⟩))] ∧ St w0 [] wb [bx g16 45 [.int .i64 s19.2.1, .int .i64 s19.2.2.1, .int .i64 s19.2.2.2]] | .inr r => x = .ret ∧ ∃ u, u = r ∧ ∃ v, Res Tryz.prog Tryz.f150.results e wb v ∧ v = .bool u ∧ St w0 [] wb []) ?_ N (0, 0, 0, 0) _ _ _ ⟨⟨rfl, rfl, rfl, rfl, rfl, trivial⟩, hS4.pick [0] rfl rfl⟩ ho48) ?_
  · intro s19 e w20 o hM h
    obtain ⟨hE, hS5⟩ := hM
    obtain ⟨e, rfl⟩ := hE.out
    refine go ?_
    refine CW.cond rfl (fun hc21 => ?_) (fun hc21 => ?_)
    · replace h := bcT h hc21
      refine go ?_
      replace ⟨y22, hy22, h⟩ := obind h
      obtain ⟨b25, o26, cs27, hae, hb30, hp23, hq24, hd28, hk29⟩ := hr0_0.idx hy22
      subst hae
      obtain rfl := hd28
      refine LW.u (Pur.ix Tryz.underlying39 sz87 rfl rfl hp23 hq24) rfl ?_
      refine LW.l (Ldr.oldN w0 ag87 rfl rfl (fun j u hu => hk29 j u hu)) (hS5.same _ hb30.1 hb30.2) rfl ?_
      refine LW.al hS5 fun g31 w32 hS6 => ?_
      refine go ?_
      refine LW.st hS6 0 fun w33 hS7 => ?_
      refine go ?_
      refine CW.fl [0, 3, 4, 5, 24, 25, 26, 33] fun e => ?_
      refine CW.cond rfl (fun hc34 => ?_) (fun hc34 => ?_)
      · replace h := bcT h hc34
        refine go ?_
        refine LW.u (Pur.build (vs := []) (cs := #[.bool false, .int .i64 0, .int .i64 0, .int .i64 0, .int .i64 0]) rfl (by kernel_rfl)) rfl ?_
        refine LW.u (Pur.ane eg87 rfl rfl (fun w => eq87 y22 (DRes.mk false 0 (DAmt.mk 0 0 0)) w)) rfl ?_
        refine go ?_
        refine CW.cond rfl (fun hc35 => ?_) (fun hc35 => ?_)
        · replace h := bcT h hc35
          refine go ?_
          cases oi h
          exact ⟨trivial, rfl, _, rfl, ⟨_, Res.one (resOne.t rfl), rfl, hS7.pick [] rfl rfl⟩⟩
        replace h := bcF h hc35
        refine go ?_
        cases oi h
        exact ⟨rfl, ⟨⟨rfl, rfl, rfl, rfl, rfl, trivial⟩, hS7.pick [1] rfl rfl⟩⟩
      replace h := bcF h hc34
      refine gs ?_
      obtain ⟨j36, hj36, h37⟩ := obind h
      refine CW.cut (fun e wb => En e [(0, .slice (some ⟨b25, o26, none⟩) x0.length c0_0), (3, .pointer (some ⟨g16, 0, none⟩)), (5, .pointer (some ⟨g31, 0, none⟩)), (24, .slice (some ⟨b25, o26, none⟩) x0.length c0_0), (25, .int .i64 (x0.length : Int)), (26, .int .i64 s19.1), (46, .bool j36)] ∧ St w0 [] wb [bx g31 87 [.bool y22.live, .int .i64 y22.parent, .int .i64 y22.bal.pages, .int .i64 y22.bal.rent, .int .i64 y22.bal.cpu], bx g16 45 [.int .i64 s19.2.1, .int .i64 s19.2.2.1, .int .i64 s19.2.2.2]]) ?_ ?_
      · have h := hj36
        refine go ?_
        replace ⟨y38, hy38, h⟩ := obind h
        refine LW.c0 (W_i_AmtOk hy38) hS7 fun w39 hS8 => ?_
        refine go ?_
        rcases bcases (!y38) with hc40 | hc40
        · replace h := bcT h hc40
          refine go ?_
          cases oi h
          exact ⟨⟨rfl, rfl, rfl, rfl, rfl, rfl, rfl, trivial⟩, hS8.pick [0, 1] rfl rfl⟩
        replace h := bcF h hc40
        refine go ?_
        replace ⟨y41, hy41, h⟩ := obind h
        refine go ?_
        refine LW.c0 (W_i_leadsUp hy41 rfl (hS8.rB hr0_0)) hS8 fun w42 hS9 => ?_
        refine go ?_
        cases oi h
        exact ⟨⟨rfl, rfl, rfl, rfl, rfl, rfl, rfl, trivial⟩, hS9.pick [0, 1] rfl rfl⟩
      rintro e w43 ⟨hE, hS10⟩
      obtain ⟨e, rfl⟩ := hE.out
      have h := h37
      refine go ?_
      refine CW.cond rfl (fun hc44 => ?_) (fun hc44 => ?_)
      · replace h := bcT h hc44
        refine go ?_
        cases oi h
        exact ⟨trivial, rfl, _, rfl, ⟨_, Res.one (resOne.t rfl), rfl, hS10.pick [] rfl rfl⟩⟩
      replace h := bcF h hc44
      refine go ?_
      replace ⟨y45, hy45, h⟩ := obind h
      refine LW.c0 (W_i_sumOf hy45) hS10 fun w46 hS11 => ?_
      refine LW.st hS11 1 fun w47 hS12 => ?_
      refine go ?_
      cases oi h
      exact ⟨rfl, ⟨⟨rfl, rfl, rfl, rfl, rfl, trivial⟩, hS12.pick [1] rfl rfl⟩⟩
    replace h := bcF h hc21
    refine go ?_
    cases oi h
    exact ⟨trivial, rfl, ⟨⟨rfl, trivial⟩, hS5.pick [0] rfl rfl⟩⟩
  intro x e w50 hM
  rcases o48 with o48 | r53
  · obtain ⟨rfl, hM⟩ := hM
    obtain ⟨hE, hS13⟩ := hM
    obtain ⟨e, rfl⟩ := hE.out
    have h := h49
    refine go ?_
    replace ⟨y51, hy51, h⟩ := obind h
    refine LW.c0 (W_i_AmtOk hy51) hS13 fun w52 hS14 => ?_
    refine go ?_
    cases h
    exact And.intro trivial ⟨_, Res.one (resOne.t rfl), rfl, hS14.pick [] rfl rfl⟩
  obtain ⟨rfl, u, rfl, hM⟩ := hM
  cases h49
  exact And.intro trivial hM

theorem W_i_isSlot {w0 : World} {N : Nat} {x0 : Int} {r : Bool} (h : F_i_isSlot N x0 = some r) :
    Ret Tryz.prog 151 #[.int .i64 x0] w0 (fun v w => v = .bool r ∧ St w0 [] w []) := by
  unfold F_i_isSlot at h
  refine Ret.fn Tryz.func151 fun e => ?_
  have hS1 := St.start w0
  refine go ?_
  replace ⟨y1, hy1, h⟩ := obind h
  refine LW.c0 (W_i_within hy1) hS1 fun w2 hS2 => ?_
  refine go ?_
  cases h
  exact And.intro trivial ⟨_, Res.one (resOne.t rfl), rfl, hS2.pick [] rfl rfl⟩

theorem W_z_Index_int {w0 : World} {N : Nat} {x0 : List Int} {x1 : Int} {r : Int} (h : F_z_Index_int N x0 x1 = some r) {a0_0 : Option Addr} {n0_0 c0_0 : Nat} (hn0_0 : n0_0 = x0.length) (hr0_0 : rdS (Bor w0 []) w0 a0_0 c0_0 x0) :
    Ret Tryz.prog 159 #[.slice a0_0 n0_0 c0_0, .int .i64 x1] w0 (fun v w => v = .int .i64 r ∧ St w0 [] w []) := by
  subst hn0_0
  unfold F_z_Index_int at h
  refine Ret.fn Tryz.func159 fun e => ?_
  have hS1 := St.start w0
  refine go ?_
  obtain ⟨o14, ho14, h15⟩ := obind h
  refine CW.mono (CW.iter (σ := Int) (ρ := Int ⊕ Int) (fun s1 e wb => En e [(0, .slice a0_0 x0.length c0_0), (1, .int .i64 x1), (7, .int .i64 (x0.length : Int)), (8, .int .i64 s1)] ∧ St w0 [] wb []) (fun o x e wb => match o with | .inl s1 => x = .exit 0 ∧ En e [] ∧ St w0 [] wb [] | .inr r => x = .ret ∧ ∃ u, u = r ∧ ∃ v, Res Tryz.prog Tryz.f159.results e wb v ∧ v = .int .i64 u ∧ St w0 [] wb []) ?_ N 0 _ _ _ ⟨⟨rfl, rfl, rfl, rfl, trivial⟩, hS1.pick [] rfl rfl⟩ ho14) ?_
  · intro s1 e w2 o hM h
    obtain ⟨hE, hS2⟩ := hM
    obtain ⟨e, rfl⟩ := hE.out
    refine go ?_
    refine CW.cond rfl (fun hc3 => ?_) (fun hc3 => ?_)
    · replace h := bcT h hc3
      refine go ?_
      replace ⟨y4, hy4, h⟩ := obind h
      obtain ⟨b7, o8, cs9, hae, hb12, hp5, hq6, hd10, hk11⟩ := hr0_0.idx hy4
      subst hae
      obtain rfl := hd10
      refine LW.u (Pur.ix Tryz.underlying22 sz3 rfl rfl hp5 hq6) rfl ?_
      refine LW.l (Ldr.old w0 ag3 rfl (hk11 0 _ rfl)) (hS2.same _ hb12.1 hb12.2) rfl ?_
      refine go ?_
      refine CW.fl [0, 1, 5, 7, 8, 16] fun e => ?_
      refine CW.cond rfl (fun hc13 => ?_) (fun hc13 => ?_)
      · replace h := bcT h hc13
        refine go ?_
        cases oi h
        exact ⟨trivial, rfl, _, rfl, ⟨_, Res.one (resOne.t rfl), rfl, hS2.pick [] rfl rfl⟩⟩
      replace h := bcF h hc13
      refine go ?_
      cases oi h
      exact ⟨rfl, ⟨⟨rfl, rfl, rfl, rfl, trivial⟩, hS2.pick [] rfl rfl⟩⟩
    replace h := bcF h hc3
    refine go ?_
    cases oi h
    exact ⟨trivial, rfl, ⟨trivial, hS2.pick [] rfl rfl⟩⟩
  intro x e w16 hM
  rcases o14 with o14 | r17
  · obtain ⟨rfl, hM⟩ := hM
    obtain ⟨hE, hS3⟩ := hM
    obtain ⟨e, rfl⟩ := hE.out; rw [show e = upds e [] from rfl]
    have h := h15
    refine go ?_
    cases h
    exact And.intro trivial ⟨_, Res.one (resOne.t rfl), rfl, hS3.pick [] rfl rfl⟩
  obtain ⟨rfl, u, rfl, hM⟩ := hM
  cases h15
  exact And.intro trivial hM

theorem W_z_Contains_int {w0 : World} {N : Nat} {x0 : List Int} {x1 : Int} {r : Bool} (h : F_z_Contains_int N x0 x1 = some r) {a0_0 : Option Addr} {n0_0 c0_0 : Nat} (hn0_0 : n0_0 = x0.length) (hr0_0 : rdS (Bor w0 []) w0 a0_0 c0_0 x0) :
    Ret Tryz.prog 110 #[.slice a0_0 n0_0 c0_0, .int .i64 x1] w0 (fun v w => v = .bool r ∧ St w0 [] w []) := by
  subst hn0_0
  unfold F_z_Contains_int at h
  refine Ret.fn Tryz.func110 fun e => ?_
  have hS1 := St.start w0
  refine go ?_
  replace ⟨y1, hy1, h⟩ := obind h
  refine LW.c0 (W_z_Index_int hy1 rfl (hS1.rB hr0_0)) hS1 fun w2 hS2 => ?_
  refine go ?_
  cases h
  exact And.intro trivial ⟨_, Res.one (resOne.t rfl), rfl, hS2.pick [] rfl rfl⟩

theorem W_z_Equal_int {w0 : World} {N : Nat} {x0 : List Int} {x1 : List Int} {r : Bool} (h : F_z_Equal_int N x0 x1 = some r) {a0_0 : Option Addr} {n0_0 c0_0 : Nat} (hn0_0 : n0_0 = x0.length) (hr0_0 : rdS (Bor w0 []) w0 a0_0 c0_0 x0) {a1_0 : Option Addr} {n1_0 c1_0 : Nat} (hn1_0 : n1_0 = x1.length) (hr1_0 : rdS (Bor w0 []) w0 a1_0 c1_0 x1) :
    Ret Tryz.prog 187 #[.slice a0_0 n0_0 c0_0, .slice a1_0 n1_0 c1_0] w0 (fun v w => v = .bool r ∧ St w0 [] w []) := by
  subst hn0_0 hn1_0
  unfold F_z_Equal_int at h
  refine Ret.fn Tryz.func187 fun e => ?_
  have hS1 := St.start w0
  refine go ?_
  refine CW.cond rfl (fun hc1 => ?_) (fun hc1 => ?_)
  · replace h := bcT h hc1
    refine go ?_
    cases h
    exact And.intro trivial ⟨_, Res.one (resOne.t rfl), rfl, hS1.pick [] rfl rfl⟩
  replace h := bcF h hc1
  refine go ?_
  obtain ⟨o24, ho24, h25⟩ := obind h
  refine CW.mono (CW.iter (σ := Int) (ρ := Int ⊕ Bool) (fun s2 e wb => En e [(0, .slice a0_0 x0.length c0_0), (1, .slice a1_0 x1.length c1_0), (12, .int .i64 (x0.length : Int)), (13, .int .i64 s2)] ∧ St w0 [] wb []) (fun o x e wb => match o with | .inl s2 => x = .exit 0 ∧ En e [] ∧ St w0 [] wb [] | .inr r => x = .ret ∧ ∃ u, u = r ∧ ∃ v, Res Tryz.prog Tryz.f187.results e wb v ∧ v = .bool u ∧ St w0 [] wb []) ?_ N 0 _ _ _ ⟨⟨rfl, rfl, rfl, rfl, trivial⟩, hS1.pick [] rfl rfl⟩ ho24) ?_
  · intro s2 e w3 o hM h
    obtain ⟨hE, hS2⟩ := hM
    obtain ⟨e, rfl⟩ := hE.out
    refine go ?_
    refine CW.cond rfl (fun hc4 => ?_) (fun hc4 => ?_)
    · replace h := bcT h hc4
      refine go ?_
      refine CW.draw (by kernel_rfl) ?_
      have hS3 := hS2.drew
      refine AW.u (i := 0) rfl (by kernel_rfl) rfl rfl (Pur.p rfl) ?_
      refine AW.u (i := 1) rfl (by kernel_rfl) rfl rfl (Pur.p rfl) ?_
      replace ⟨y5, hy5, h⟩ := obind h
      obtain ⟨b8, o9, cs10, hae, hb13, hp6, hq7, hd11, hk12⟩ := hr0_0.idx hy5
      subst hae
      obtain rfl := hd11
      refine AW.u (i := 2) rfl (by kernel_rfl) rfl rfl (Pur.ix Tryz.underlying22 sz3 rfl rfl hp6 hq7) ?_
      refine AW.take (i := 3) rfl (by kernel_rfl) rfl rfl (Ldr.old w0 ag3 rfl (hk12 0 _ rfl)) (hS3.same _ hb13.1 hb13.2) ?_
      refine AW.u (i := 4) rfl (by kernel_rfl) rfl rfl (Pur.p rfl) ?_
      refine AW.u (i := 5) rfl (by kernel_rfl) rfl rfl (Pur.p rfl) ?_
      replace ⟨y14, hy14, h⟩ := obind h
      obtain ⟨b17, o18, cs19, hae, hb22, hp15, hq16, hd20, hk21⟩ := hr1_0.idx hy14
      subst hae
      obtain rfl := hd20
      refine AW.u (i := 6) rfl (by kernel_rfl) rfl rfl (Pur.ix Tryz.underlying22 sz3 rfl rfl hp15 hq16) ?_
      refine AW.take (i := 7) rfl (by kernel_rfl) rfl rfl (Ldr.old w0 ag3 rfl (hk21 0 _ rfl)) (hS3.same _ hb22.1 hb22.2) ?_
      refine AW.u (i := 8) rfl (by kernel_rfl) rfl rfl (Pur.p rfl) ?_
      refine AW.done (by kernel_rfl) ?_
      refine go ?_
      refine CW.cond rfl (fun hc23 => ?_) (fun hc23 => ?_)
      · replace h := bcT h hc23
        refine go ?_
        cases oi h
        exact ⟨trivial, rfl, _, rfl, ⟨_, Res.one (resOne.t rfl), rfl, hS3.pick [] rfl rfl⟩⟩
      replace h := bcF h hc23
      refine go ?_
      cases oi h
      exact ⟨rfl, ⟨⟨rfl, rfl, rfl, rfl, trivial⟩, hS3.pick [] rfl rfl⟩⟩
    replace h := bcF h hc4
    refine go ?_
    cases oi h
    exact ⟨trivial, rfl, ⟨trivial, hS2.pick [] rfl rfl⟩⟩
  intro x e w26 hM
  rcases o24 with o24 | r27
  · obtain ⟨rfl, hM⟩ := hM
    obtain ⟨hE, hS4⟩ := hM
    obtain ⟨e, rfl⟩ := hE.out; rw [show e = upds e [] from rfl]
    have h := h25
    refine go ?_
    cases h
    exact And.intro trivial ⟨_, Res.one (resOne.t rfl), rfl, hS4.pick [] rfl rfl⟩
  obtain ⟨rfl, u, rfl, hM⟩ := hM
  cases h25
  exact And.intro trivial hM

end Go.Kx
