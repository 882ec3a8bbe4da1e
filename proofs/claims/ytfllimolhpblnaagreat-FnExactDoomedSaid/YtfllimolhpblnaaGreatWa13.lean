/- Each call returns what the plain function says. Printed by drive.py. -/
import Derived.Test.YtfllimolhpblnaaGreatFa
import Derived.Test.YtfllimolhpblnaaGreatPu
import Derived.Test.YtfllimolhpblnaaGreatWa0
import Derived.Test.YtfllimolhpblnaaGreatWa1
import Derived.Test.YtfllimolhpblnaaGreatWa4
namespace Go.Kx
open Go Go.RowKit Go.Proofs
set_option maxRecDepth 10000
set_option maxHeartbeats 2000000
set_option linter.unusedVariables false
set_option linter.unusedSimpArgs false
theorem W_s_Expired {w0 : World} {N : Nat} {x0 : DObj} {x1 : Int} {r : Bool} (h : F_s_Expired N x0 x1 = some r) {a0_10 : Option Addr} {n0_10 c0_10 : Nat} (hn0_10 : n0_10 = x0.links.length) (hr0_10 : rdS (Bor w0 []) w0 a0_10 c0_10 x0.links) {a0_11 : Option Addr} {n0_11 c0_11 : Nat} (hn0_11 : n0_11 = x0.data.length) (hr0_11 : rdS (Bor w0 []) w0 a0_11 c0_11 x0.data) {a0_12 : Option Addr} {n0_12 c0_12 : Nat} (hn0_12 : n0_12 = x0.queue.length) (hr0_12 : rdS (Bor w0 []) w0 a0_12 c0_12 x0.queue) :
    Ret Tryz.prog 166 #[.agg #[.int .i64 x0.gen, .int .i64 x0.kind, .int .i64 x0.box, .int .i64 x0.res, .int .i64 x0.til, .int .i64 x0.pages, .int .i64 x0.wait, .int .i64 x0.got, .int .i64 x0.ran, .bool x0.mark, .slice a0_10 n0_10 c0_10, .slice a0_11 n0_11 c0_11, .slice a0_12 n0_12 c0_12], .int .i64 x1] w0 (fun v w => v = .bool r ∧ St w0 [] w []) := by
  subst hn0_10 hn0_11 hn0_12
  unfold F_s_Expired at h
  refine Ret.fn Tryz.func166 fun e => ?_
  have hS1 := St.start w0
  refine go ?_
  refine LW.bo hS1 fun g1 w2 hS2 => ?_
  refine go ?_
  rcases bcases (x0.kind == 0) with hc3 | hc3
  · replace h := bcT h hc3
    refine go ?_
    cases h
    exact And.intro trivial ⟨_, Res.one (resOne.t rfl), rfl, hS2.pick [] rfl rfl⟩
  replace h := bcF h hc3
  refine go ?_
  cases h
  exact And.intro trivial ⟨_, Res.one (resOne.t rfl), rfl, hS2.pick [] rfl rfl⟩

theorem W_i_Expired {w0 : World} {N : Nat} {x0 : DObj} {x1 : Int} {r : Bool} (h : F_i_Expired N x0 x1 = some r) {a0_10 : Option Addr} {n0_10 c0_10 : Nat} (hn0_10 : n0_10 = x0.links.length) (hr0_10 : rdS (Bor w0 []) w0 a0_10 c0_10 x0.links) {a0_11 : Option Addr} {n0_11 c0_11 : Nat} (hn0_11 : n0_11 = x0.data.length) (hr0_11 : rdS (Bor w0 []) w0 a0_11 c0_11 x0.data) {a0_12 : Option Addr} {n0_12 c0_12 : Nat} (hn0_12 : n0_12 = x0.queue.length) (hr0_12 : rdS (Bor w0 []) w0 a0_12 c0_12 x0.queue) :
    Ret Tryz.prog 171 #[.agg #[.int .i64 x0.gen, .int .i64 x0.kind, .int .i64 x0.box, .int .i64 x0.res, .int .i64 x0.til, .int .i64 x0.pages, .int .i64 x0.wait, .int .i64 x0.got, .int .i64 x0.ran, .bool x0.mark, .slice a0_10 n0_10 c0_10, .slice a0_11 n0_11 c0_11, .slice a0_12 n0_12 c0_12], .int .i64 x1] w0 (fun v w => v = .bool r ∧ St w0 [] w []) := by
  subst hn0_10 hn0_11 hn0_12
  unfold F_i_Expired at h
  refine Ret.fn Tryz.func171 fun e => ?_
  have hS1 := St.start w0
  refine go ?_
  refine LW.bo hS1 fun g1 w2 hS2 => ?_
  refine go ?_
  rcases bcases (x0.kind == 0) with hc3 | hc3
  · replace h := bcT h hc3
    refine go ?_
    cases h
    exact And.intro trivial ⟨_, Res.one (resOne.t rfl), rfl, hS2.pick [] rfl rfl⟩
  replace h := bcF h hc3
  refine go ?_
  cases h
  exact And.intro trivial ⟨_, Res.one (resOne.t rfl), rfl, hS2.pick [] rfl rfl⟩

theorem W_i_edgesOf {w0 : World} {N : Nat} {x0 : List DObj} {x1 : Int} {r : (List Int)} (h : F_i_edgesOf N x0 x1 = some r) {a0_0 : Option Addr} {n0_0 c0_0 : Nat} (hn0_0 : n0_0 = x0.length) (hr0_0 : rdS (Bor w0 []) w0 a0_0 c0_0 x0) :
    Ret Tryz.prog 172 #[.slice a0_0 n0_0 c0_0, .int .i64 x1] w0 (fun v w => ∃ ar0 cr0, v = .slice ar0 r.length cr0 ∧ St w0 [] w [sl ar0 cr0 r]) := by
  subst hn0_0
  unfold F_i_edgesOf at h
  refine Ret.fn Tryz.func172 fun e => ?_
  have hS1 := St.start w0
  refine go ?_
  refine LW.bsl (α := Int) (vs := []) (cs := #[]) (l := ([] : List Int)) rfl (by kernel_rfl) rfl rfl rfl (fun w => rfl) hS1 rfl ?_
  intro a1 c2 w3 hS2 hf
  refine go ?_
  obtain ⟨o82, ho82, h83⟩ := obind h
  refine CW.mono (CW.iter (σ := (List Int) × Int) (ρ := (List Int) × Int) (fun s4 e wb => ∃ (s4a0 : Option Addr), ∃ (s4c0 : Nat), En e [(0, .slice a0_0 x0.length c0_0), (1, .int .i64 x1), (5, .slice s4a0 s4.1.length s4c0), (10, .slice a0_0 x0.length c0_0), (11, .int .i64 (x0.length : Int)), (12, .int .i64 s4.2)] ∧ St w0 [] wb [sl s4a0 s4c0 s4.1]) (fun s4 x e wb => x = .exit 0 ∧ ∃ (s4a0 : Option Addr), ∃ (s4c0 : Nat), En e [(5, .slice s4a0 s4.1.length s4c0)] ∧ St w0 [] wb [sl s4a0 s4c0 s4.1]) ?_ N (([] : List Int), 0) _ _ _ ⟨a1, c2, ⟨rfl, rfl, rfl, rfl, rfl, rfl, trivial⟩, hS2.pick [0] rfl rfl⟩ ho82) ?_
  · intro s4 e w5 o hM h
    obtain ⟨s4a0, s4c0, hE, hS3⟩ := hM
    obtain ⟨e, rfl⟩ := hE.out
    refine go ?_
    refine CW.cond rfl (fun hc6 => ?_) (fun hc6 => ?_)
    · replace h := bcT h hc6
      refine go ?_
      replace ⟨y7, hy7, h⟩ := obind h
      obtain ⟨b10, o11, cs12, hae, hb15, hp8, hq9, hd13, hk14⟩ := hr0_0.idx hy7
      subst hae
      obtain ⟨a16, c17, a19, c20, a22, c23, rfl, hr18, hr21, hr24⟩ := hd13
      refine LW.u (Pur.ix Tryz.underlying59 sz92 rfl rfl hp8 hq9) rfl ?_
      refine LW.l (Ldr.oldN w0 ag92 rfl rfl (fun j u hu => hk14 j u hu)) (hS3.same _ hb15.1 hb15.2) rfl ?_
      refine LW.al hS3 fun g25 w26 hS4 => ?_
      refine go ?_
      refine LW.st hS4 0 fun w27 hS5 => ?_
      refine gs ?_
      obtain ⟨j28, hj28, h29⟩ := obind h
      refine CW.cut (fun e wb => En e [(0, .slice (some ⟨b10, o11, none⟩) x0.length c0_0), (1, .int .i64 x1), (5, .slice s4a0 s4.1.length s4c0), (6, .int .i64 s4.2), (8, .bool j28), (10, .slice (some ⟨b10, o11, none⟩) x0.length c0_0), (11, .int .i64 (x0.length : Int)), (12, .int .i64 s4.2)] ∧ St w0 [] wb [sl s4a0 s4c0 s4.1]) ?_ ?_
      · have h := hj28
        refine go ?_
        rcases bcases (decide (s4.2 > 0)) with hc30 | hc30
        · replace h := bcT h hc30
          refine go ?_
          rcases bcases (y7.kind != 0) with hc31 | hc31
          · replace h := bcT h hc31
            refine go ?_
            refine LW.fl [0, 1, 5, 6, 10, 11, 12, 30] fun e => ?_
            rcases bcases (y7.box == x1) with hc32 | hc32
            · replace h := bcT h hc32
              refine go ?_
              replace ⟨y33, hy33, h⟩ := obind h
              obtain ⟨b36, o37, cs38, hae, hb41, hp34, hq35, hd39, hk40⟩ := hr0_0.idx hy33
              cases hae
              obtain ⟨a42, c43, a45, c46, a48, c49, rfl, hr44, hr47, hr50⟩ := hd39
              refine go ?_
              refine LW.u (Pur.ix Tryz.underlying59 sz92 rfl rfl hp34 hq35) rfl ?_
              refine go ?_
              refine LW.l (Ldr.old w0 ag3 rfl (hk40 1 _ rfl)) (hS5.same _ hb41.1 hb41.2) rfl ?_
              refine go ?_
              cases oi h
              exact ⟨⟨rfl, rfl, rfl, rfl, rfl, rfl, rfl, rfl, trivial⟩, hS5.pick [1] rfl rfl⟩
            replace h := bcF h hc32
            refine go ?_
            cases oi h
            exact ⟨⟨rfl, rfl, rfl, rfl, rfl, rfl, rfl, rfl, trivial⟩, hS5.pick [1] rfl rfl⟩
          replace h := bcF h hc31
          refine go ?_
          cases oi h
          exact ⟨⟨rfl, rfl, rfl, rfl, rfl, rfl, rfl, rfl, trivial⟩, hS5.pick [1] rfl rfl⟩
        replace h := bcF h hc30
        refine go ?_
        cases oi h
        exact ⟨⟨rfl, rfl, rfl, rfl, rfl, rfl, rfl, rfl, trivial⟩, hS5.pick [1] rfl rfl⟩
      rintro e w51 ⟨hE, hS6⟩
      obtain ⟨e, rfl⟩ := hE.out
      have h := h29
      refine gs ?_
      obtain ⟨j52, hj52, h53⟩ := obind h
      refine CW.cut (fun e wb => En e [(0, .slice (some ⟨b10, o11, none⟩) x0.length c0_0), (1, .int .i64 x1), (5, .slice s4a0 s4.1.length s4c0), (6, .int .i64 s4.2), (10, .slice (some ⟨b10, o11, none⟩) x0.length c0_0), (11, .int .i64 (x0.length : Int)), (12, .int .i64 s4.2), (47, .bool j52)] ∧ St w0 [] wb [sl s4a0 s4c0 s4.1]) ?_ ?_
      · have h := hj52
        refine go ?_
        rcases bcases j28 with hc54 | hc54
        · replace h := bcT h hc54
          refine go ?_
          cases oi h
          exact ⟨⟨rfl, rfl, rfl, rfl, rfl, rfl, rfl, rfl, trivial⟩, hS6.pick [0] rfl rfl⟩
        replace h := bcF h hc54
        refine go ?_
        replace ⟨y55, hy55, h⟩ := obind h
        obtain ⟨b58, o59, cs60, hae, hb63, hp56, hq57, hd61, hk62⟩ := hr0_0.idx hy55
        cases hae
        obtain ⟨a64, c65, a67, c68, a70, c71, rfl, hr66, hr69, hr72⟩ := hd61
        refine go ?_
        refine LW.u (Pur.ix Tryz.underlying59 sz92 rfl rfl hp56 hq57) rfl ?_
        refine go ?_
        refine LW.l (Ldr.old w0 ag28 rfl (hk62 10 _ rfl)) (hS6.same _ hb63.1 hb63.2) rfl ?_
        refine go ?_
        replace ⟨y73, hy73, h⟩ := obind h
        refine go ?_
        refine LW.c0 (W_z_Contains_int hy73 rfl (hS6.rB hr66)) hS6 fun w74 hS7 => ?_
        refine go ?_
        cases oi h
        exact ⟨⟨rfl, rfl, rfl, rfl, rfl, rfl, rfl, rfl, trivial⟩, hS7.pick [0] rfl rfl⟩
      rintro e w75 ⟨hE, hS8⟩
      obtain ⟨e, rfl⟩ := hE.out
      have h := h53
      refine go ?_
      refine CW.fl [0, 1, 5, 6, 10, 11, 12, 47] fun e => ?_
      refine CW.cond rfl (fun hc76 => ?_) (fun hc76 => ?_)
      · replace h := bcT h hc76
        refine go ?_
        replace ⟨y77, hy77, h⟩ := obind h
        refine LW.app1 (M := []) (L := [sl s4a0 s4c0 s4.1]) (vs := #[.int .i64 s4.2]) (i := 0) sT28 rfl (by kernel_rfl) rfl rfl hy77 hS8 rfl (fun w G hG => by cases (show G = [] from hG); exact ⟨rfl, rfl⟩) rfl rfl ?_
        intro v80 a78 c79 w81 hS9 hf
        refine go ?_
        cases oi h
        exact ⟨rfl, ⟨a78, c79, ⟨rfl, rfl, rfl, rfl, rfl, rfl, trivial⟩, hS9.pick [0] rfl rfl⟩⟩
      replace h := bcF h hc76
      refine go ?_
      cases oi h
      exact ⟨rfl, ⟨s4a0, s4c0, ⟨rfl, rfl, rfl, rfl, rfl, rfl, trivial⟩, hS8.pick [0] rfl rfl⟩⟩
    replace h := bcF h hc6
    refine go ?_
    cases oi h
    exact ⟨trivial, rfl, ⟨s4a0, s4c0, ⟨rfl, trivial⟩, hS3.pick [0] rfl rfl⟩⟩
  intro x e w84 hM
  obtain ⟨rfl, hM⟩ := hM
  obtain ⟨s4a0, s4c0, hE, hS10⟩ := hM
  obtain ⟨e, rfl⟩ := hE.out
  have h := h83
  refine go ?_
  cases h
  exact And.intro trivial ⟨_, Res.one (resOne.t rfl), s4a0, s4c0, rfl, hS10.pick [0] rfl rfl⟩

theorem W_s_Edges {w0 : World} {N : Nat} {x0 : List DObj} {x1 : Int} {r : (List Int)} (h : F_s_Edges N x0 x1 = some r) {a0_0 : Option Addr} {n0_0 c0_0 : Nat} (hn0_0 : n0_0 = x0.length) (hr0_0 : rdS (Bor w0 []) w0 a0_0 c0_0 x0) :
    Ret Tryz.prog 188 #[.slice a0_0 n0_0 c0_0, .int .i64 x1] w0 (fun v w => ∃ ar0 cr0, v = .slice ar0 r.length cr0 ∧ St w0 [] w [sl ar0 cr0 r]) := by
  subst hn0_0
  unfold F_s_Edges at h
  refine Ret.fn Tryz.func188 fun e => ?_
  have hS1 := St.start w0
  refine go ?_
  refine LW.bsl (α := Int) (vs := []) (cs := #[]) (l := ([] : List Int)) rfl (by kernel_rfl) rfl rfl rfl (fun w => rfl) hS1 rfl ?_
  intro a1 c2 w3 hS2 hf
  refine gs ?_
  obtain ⟨j4, hj4, h5⟩ := obind h
  refine CW.cut (fun e wb => En e [(0, .slice a0_0 x0.length c0_0), (1, .int .i64 x1), (5, .slice a1 (([] : List Int).length) c2), (23, .bool j4)] ∧ St w0 [] wb [sl a1 c2 ([] : List Int)]) ?_ ?_
  · have h := hj4
    refine go ?_
    replace ⟨y6, hy6, h⟩ := obind h
    refine LW.c0 (W_s_ArenaOk hy6 rfl (hS2.rB hr0_0)) hS2 fun w7 hS3 => ?_
    refine go ?_
    rcases bcases (!y6) with hc8 | hc8
    · replace h := bcT h hc8
      refine go ?_
      cases oi h
      exact ⟨⟨rfl, rfl, rfl, rfl, trivial⟩, hS3.pick [0] rfl rfl⟩
    replace h := bcF h hc8
    refine go ?_
    replace ⟨y9, hy9, h⟩ := obind h
    refine go ?_
    refine LW.c0 (W_s_l8Slot hy9) hS3 fun w10 hS4 => ?_
    refine go ?_
    rcases bcases (!y9) with hc11 | hc11
    · replace h := bcT h hc11
      refine go ?_
      cases oi h
      exact ⟨⟨rfl, rfl, rfl, rfl, trivial⟩, hS4.pick [0] rfl rfl⟩
    replace h := bcF h hc11
    refine go ?_
    replace ⟨y12, hy12, h⟩ := obind h
    obtain ⟨b15, o16, cs17, hae, hb20, hp13, hq14, hd18, hk19⟩ := hr0_0.idx hy12
    subst hae
    obtain ⟨a21, c22, a24, c25, a27, c28, rfl, hr23, hr26, hr29⟩ := hd18
    refine go ?_
    refine LW.u (Pur.ix Tryz.underlying59 sz92 rfl rfl hp13 hq14) rfl ?_
    refine go ?_
    refine LW.l (Ldr.old w0 ag3 rfl (hk19 1 _ rfl)) (hS4.same _ hb20.1 hb20.2) rfl ?_
    refine go ?_
    cases oi h
    exact ⟨⟨rfl, rfl, rfl, rfl, trivial⟩, hS4.pick [0] rfl rfl⟩
  rintro e w30 ⟨hE, hS5⟩
  obtain ⟨e, rfl⟩ := hE.out
  have h := h5
  refine go ?_
  refine CW.cond rfl (fun hc31 => ?_) (fun hc31 => ?_)
  · replace h := bcT h hc31
    refine go ?_
    cases h
    exact And.intro trivial ⟨_, Res.one (resOne.t rfl), a1, c2, rfl, hS5.pick [0] rfl rfl⟩
  replace h := bcF h hc31
  refine go ?_
  obtain ⟨o146, ho146, h147⟩ := obind h
  refine CW.mono (CW.iter (σ := (List Int) × Int) (ρ := (List Int) × Int) (fun s32 e wb => ∃ (s32a0 : Option Addr), ∃ (s32c0 : Nat), En e [(0, .slice a0_0 x0.length c0_0), (1, .int .i64 x1), (5, .slice s32a0 s32.1.length s32c0), (6, .int .i64 s32.2)] ∧ St w0 [] wb [sl s32a0 s32c0 s32.1]) (fun s32 x e wb => x = .exit 0 ∧ ∃ (s32a0 : Option Addr), ∃ (s32c0 : Nat), En e [(5, .slice s32a0 s32.1.length s32c0)] ∧ St w0 [] wb [sl s32a0 s32c0 s32.1]) ?_ N (([] : List Int), 0) _ _ _ ⟨a1, c2, ⟨rfl, rfl, rfl, rfl, trivial⟩, hS5.pick [0] rfl rfl⟩ ho146) ?_
  · intro s32 e w33 o hM h
    obtain ⟨s32a0, s32c0, hE, hS6⟩ := hM
    obtain ⟨e, rfl⟩ := hE.out
    refine go ?_
    refine CW.cond rfl (fun hc34 => ?_) (fun hc34 => ?_)
    · replace h := bcT h hc34
      refine gs ?_
      refine CW.block ?_
      refine gs ?_
      obtain ⟨j35, hj35, h36⟩ := obind h
      refine CW.cut (fun e wb => En e [(0, .slice a0_0 x0.length c0_0), (1, .int .i64 x1), (5, .slice s32a0 s32.1.length s32c0), (6, .int .i64 s32.2), (66, .bool j35)] ∧ St w0 [] wb [sl s32a0 s32c0 s32.1]) ?_ ?_
      · have h := hj35
        refine go ?_
        rcases bcases (decide (s32.2 > 0)) with hc37 | hc37
        · replace h := bcT h hc37
          refine go ?_
          replace ⟨y38, hy38, h⟩ := obind h
          obtain ⟨b41, o42, cs43, hae, hb46, hp39, hq40, hd44, hk45⟩ := hr0_0.idx hy38
          subst hae
          obtain ⟨a47, c48, a50, c51, a53, c54, rfl, hr49, hr52, hr55⟩ := hd44
          refine go ?_
          refine LW.u (Pur.ix Tryz.underlying59 sz92 rfl rfl hp39 hq40) rfl ?_
          refine go ?_
          refine LW.l (Ldr.old w0 ag3 rfl (hk45 1 _ rfl)) (hS6.same _ hb46.1 hb46.2) rfl ?_
          refine go ?_
          rcases bcases (y38.kind != 0) with hc56 | hc56
          · replace h := bcT h hc56
            refine go ?_
            refine LW.u (Pur.ix Tryz.underlying59 sz92 rfl rfl hp39 hq40) rfl ?_
            refine go ?_
            refine LW.fl [0, 1, 5, 6, 41, 45] fun e => ?_
            refine go ?_
            refine LW.l (Ldr.old w0 ag3 rfl (hk45 2 _ rfl)) (hS6.same _ hb46.1 hb46.2) rfl ?_
            refine go ?_
            rcases bcases (y38.box == x1) with hc57 | hc57
            · replace h := bcT h hc57
              refine go ?_
              replace ⟨y58, hy58, h⟩ := obind h
              obtain ⟨b61, o62, cs63, hae, hb66, hp59, hq60, hd64, hk65⟩ := hr0_0.idx hy58
              cases hae
              obtain ⟨a67, c68, a70, c71, a73, c74, rfl, hr69, hr72, hr75⟩ := hd64
              refine go ?_
              refine LW.u (Pur.ix Tryz.underlying59 sz92 rfl rfl hp59 hq60) rfl ?_
              refine go ?_
              refine LW.l (Ldr.old w0 ag3 rfl (hk65 1 _ rfl)) (hS6.same _ hb66.1 hb66.2) rfl ?_
              refine go ?_
              rcases bcases (y58.kind == 1) with hc76 | hc76
              · replace h := bcT h hc76
                refine go ?_
                cases oi h
                exact ⟨⟨rfl, rfl, rfl, rfl, rfl, trivial⟩, hS6.pick [0] rfl rfl⟩
              replace h := bcF h hc76
              refine go ?_
              refine LW.u (Pur.ix Tryz.underlying59 sz92 rfl rfl hp59 hq60) rfl ?_
              refine go ?_
              refine LW.l (Ldr.old w0 ag28 rfl (hk65 10 _ rfl)) (hS6.same _ hb66.1 hb66.2) rfl ?_
              refine go ?_
              replace ⟨y77, hy77, h⟩ := obind h
              refine go ?_
              refine LW.c0 (W_s_l4Has hy77 rfl (hS6.rB hr69)) hS6 fun w78 hS7 => ?_
              refine go ?_
              cases oi h
              exact ⟨⟨rfl, rfl, rfl, rfl, rfl, trivial⟩, hS7.pick [0] rfl rfl⟩
            replace h := bcF h hc57
            refine go ?_
            replace ⟨y79, hy79, h⟩ := obind h
            obtain ⟨b82, o83, cs84, hae, hb87, hp80, hq81, hd85, hk86⟩ := hr0_0.idx hy79
            cases hae
            obtain ⟨a88, c89, a91, c92, a94, c95, rfl, hr90, hr93, hr96⟩ := hd85
            refine go ?_
            refine LW.u (Pur.ix Tryz.underlying59 sz92 rfl rfl hp80 hq81) rfl ?_
            refine go ?_
            refine LW.l (Ldr.old w0 ag28 rfl (hk86 10 _ rfl)) (hS6.same _ hb87.1 hb87.2) rfl ?_
            refine go ?_
            replace ⟨y97, hy97, h⟩ := obind h
            refine go ?_
            refine LW.c0 (W_s_l4Has hy97 rfl (hS6.rB hr90)) hS6 fun w98 hS8 => ?_
            refine go ?_
            cases oi h
            exact ⟨⟨rfl, rfl, rfl, rfl, rfl, trivial⟩, hS8.pick [0] rfl rfl⟩
          replace h := bcF h hc56
          refine go ?_
          refine LW.fl [0, 1, 5, 6, 58, 59, 60] fun e => ?_
          replace ⟨y99, hy99, h⟩ := obind h
          obtain ⟨b102, o103, cs104, hae, hb107, hp100, hq101, hd105, hk106⟩ := hr0_0.idx hy99
          cases hae
          obtain ⟨a108, c109, a111, c112, a114, c115, rfl, hr110, hr113, hr116⟩ := hd105
          refine go ?_
          refine LW.u (Pur.ix Tryz.underlying59 sz92 rfl rfl hp100 hq101) rfl ?_
          refine go ?_
          refine LW.l (Ldr.old w0 ag28 rfl (hk106 10 _ rfl)) (hS6.same _ hb107.1 hb107.2) rfl ?_
          refine go ?_
          replace ⟨y117, hy117, h⟩ := obind h
          refine go ?_
          refine LW.c0 (W_s_l4Has hy117 rfl (hS6.rB hr110)) hS6 fun w118 hS9 => ?_
          refine go ?_
          cases oi h
          exact ⟨⟨rfl, rfl, rfl, rfl, rfl, trivial⟩, hS9.pick [0] rfl rfl⟩
        replace h := bcF h hc37
        refine go ?_
        refine LW.fl [0, 1, 5, 6, 58, 59, 60] fun e => ?_
        replace ⟨y119, hy119, h⟩ := obind h
        obtain ⟨b122, o123, cs124, hae, hb127, hp120, hq121, hd125, hk126⟩ := hr0_0.idx hy119
        subst hae
        obtain ⟨a128, c129, a131, c132, a134, c135, rfl, hr130, hr133, hr136⟩ := hd125
        refine go ?_
        refine LW.u (Pur.ix Tryz.underlying59 sz92 rfl rfl hp120 hq121) rfl ?_
        refine go ?_
        refine LW.l (Ldr.old w0 ag28 rfl (hk126 10 _ rfl)) (hS6.same _ hb127.1 hb127.2) rfl ?_
        refine go ?_
        replace ⟨y137, hy137, h⟩ := obind h
        refine go ?_
        refine LW.c0 (W_s_l4Has hy137 rfl (hS6.rB hr130)) hS6 fun w138 hS10 => ?_
        refine go ?_
        cases oi h
        exact ⟨⟨rfl, rfl, rfl, rfl, rfl, trivial⟩, hS10.pick [0] rfl rfl⟩
      rintro e w139 ⟨hE, hS11⟩
      obtain ⟨e, rfl⟩ := hE.out
      have h := h36
      refine go ?_
      refine CW.cond rfl (fun hc140 => ?_) (fun hc140 => ?_)
      · replace h := bcT h hc140
        refine go ?_
        replace ⟨y141, hy141, h⟩ := obind h
        refine LW.app1 (M := []) (L := [sl s32a0 s32c0 s32.1]) (vs := #[.int .i64 s32.2]) (i := 0) sT28 rfl (by kernel_rfl) rfl rfl hy141 hS11 rfl (fun w G hG => by cases (show G = [] from hG); exact ⟨rfl, rfl⟩) rfl rfl ?_
        intro v144 a142 c143 w145 hS12 hf
        refine go ?_
        cases oi h
        exact ⟨rfl, ⟨a142, c143, ⟨rfl, rfl, rfl, rfl, trivial⟩, hS12.pick [0] rfl rfl⟩⟩
      replace h := bcF h hc140
      refine go ?_
      cases oi h
      exact ⟨rfl, ⟨s32a0, s32c0, ⟨rfl, rfl, rfl, rfl, trivial⟩, hS11.pick [0] rfl rfl⟩⟩
    replace h := bcF h hc34
    refine go ?_
    cases oi h
    exact ⟨trivial, rfl, ⟨s32a0, s32c0, ⟨rfl, trivial⟩, hS6.pick [0] rfl rfl⟩⟩
  intro x e w148 hM
  obtain ⟨rfl, hM⟩ := hM
  obtain ⟨s32a0, s32c0, hE, hS13⟩ := hM
  obtain ⟨e, rfl⟩ := hE.out
  have h := h147
  refine go ?_
  cases h
  exact And.intro trivial ⟨_, Res.one (resOne.t rfl), s32a0, s32c0, rfl, hS13.pick [0] rfl rfl⟩

end Go.Kx
