/- Each call returns what the plain function says. Printed by drive.py. -/
import Derived.Test.YtljikolgijlbeaaFa
import Derived.Test.YtljikolgijlbeaaPu
import Derived.Test.YtljikolgijlbeaaWa0
import Derived.Test.YtljikolgijlbeaaWa2
import Derived.Test.YtljikolgijlbeaaWa4
import Derived.Test.YtljikolgijlbeaaWa5
namespace Go.Kx
open Go Go.RowKit Go.Proofs
set_option maxRecDepth 10000
set_option maxHeartbeats 8000000
set_option linter.unusedVariables false
set_option linter.unusedSimpArgs false
theorem W_s_Edges {w0 : World} {N : Nat} {x0 : List DObj} {x1 : Int} {r : (List Int)} (h : F_s_Edges N x0 x1 = some r) {a0_0 : Option Addr} {n0_0 c0_0 : Nat} (hn0_0 : n0_0 = x0.length) (hr0_0 : rdS (Bor w0 []) w0 a0_0 c0_0 x0) :
    Ret Try.prog 57 #[.slice a0_0 n0_0 c0_0, .int .i64 x1] w0 (fun v w => ∃ ar0 cr0, v = .slice ar0 r.length cr0 ∧ St w0 [] w [sl ar0 cr0 r]) := by
  subst hn0_0
  unfold F_s_Edges at h
  refine Ret.fn Try.func57 fun e => ?_
  have hS1 := St.start w0
  refine go ?_
  refine LW.bsl (α := Int) (vs := []) (cs := #[]) (l := ([] : List Int)) rfl (by kernel_rfl) rfl rfl rfl (fun w => rfl) hS1 rfl ?_
  intro a1 c2 w3 hS2 hf
  refine gs ?_
  obtain ⟨j4, hj4, h5⟩ := obind h
  refine CW.jn [0, 1, 5] [0] [(23, .bool j4)] hS2 (h1 := ?_) (h2 := ?_)
  · have h := hj4
    refine go ?_
    replace ⟨y6, hy6, h⟩ := obind h
    refine LW.c0 (W_s_ArenaOk hy6 rfl (hS2.rB hr0_0)) hS2 fun w7 hS3 => ?_
    refine go ?_
    rcases bcases (!y6) with hc8 | hc8
    · replace h := bcT h hc8
      refine go ?_
      cases oi h
      exact ⟨⟨rfl, rfl, rfl, rfl, trivial⟩, hS3.pick [0] rfl rfl⟩
    replace h := bcF h hc8
    refine go ?_
    replace ⟨y9, hy9, h⟩ := obind h
    refine go ?_
    refine LW.c0 (W_s_l8Slot hy9) hS3 fun w10 hS4 => ?_
    refine go ?_
    rcases bcases (!y9) with hc11 | hc11
    · replace h := bcT h hc11
      refine go ?_
      cases oi h
      exact ⟨⟨rfl, rfl, rfl, rfl, trivial⟩, hS4.pick [0] rfl rfl⟩
    replace h := bcF h hc11
    refine go ?_
    replace ⟨y12, hy12, h⟩ := obind h
    obtain ⟨b15, o16, cs17, hae, hb20, hp13, hq14, hd18, hk19⟩ := hr0_0.idx hy12
    subst hae
    obtain ⟨a21, c22, a24, c25, a27, c28, rfl, hr23, hr26, hr29⟩ := hd18
    refine go ?_
    refine LW.u (Pur.ix Try.underlying33 sz84 rfl rfl hp13 hq14) rfl ?_
    refine go ?_
    refine LW.l (Ldr.old w0 ag3 rfl (hk19 1 _ rfl)) (hS4.same _ hb20.1 hb20.2) rfl ?_
    refine go ?_
    cases oi h
    exact ⟨⟨rfl, rfl, rfl, rfl, trivial⟩, hS4.pick [0] rfl rfl⟩
  intro e w30 hS5
  have h := h5
  refine go ?_
  refine cd (fun hc31 => ?_) fun hc31 => ?_
  · replace h := bcT h hc31
    refine go ?_
    cases h
    exact And.intro trivial ⟨_, Res.one (resOne.t rfl), a1, c2, rfl, hS5.pick [0] rfl rfl⟩
  replace h := bcF h hc31
  refine go ?_
  obtain ⟨o146, ho146, h147⟩ := obind h
  refine CW.mono (CW.iter (σ := (List Int) × Int) (ρ := (List Int) × Int) (fun s32 e wb => ∃ (s32a0 : Option Addr), ∃ (s32c0 : Nat), En e [(0, .slice a0_0 x0.length c0_0), (1, .int .i64 x1), (5, .slice s32a0 s32.1.length s32c0), (6, .int .i64 s32.2)] ∧ St w0 [] wb [sl s32a0 s32c0 s32.1]) (fun s32 x e wb => x = .exit 0 ∧ ∃ (s32a0 : Option Addr), ∃ (s32c0 : Nat), En e [(5, .slice s32a0 s32.1.length s32c0)] ∧ St w0 [] wb [sl s32a0 s32c0 s32.1]) ?_ N (([] : List Int), 0) _ _ _ ⟨a1, c2, ⟨rfl, rfl, rfl, rfl, trivial⟩, hS5.pick [0] rfl rfl⟩ ho146) ?_
  · intro s32 e w33 o hM h
    obtain ⟨s32a0, s32c0, hE, hS6⟩ := hM
    obtain ⟨e, rfl⟩ := hE.out
    refine go ?_
    refine cd (fun hc34 => ?_) fun hc34 => ?_
    · replace h := bcT h hc34
      refine gs ?_
      refine CW.block ?_
      refine gs ?_
      obtain ⟨j35, hj35, h36⟩ := obind h
      refine CW.jn [0, 1, 5, 6] [0] [(66, .bool j35)] hS6 (h1 := ?_) (h2 := ?_)
      · have h := hj35
        refine go ?_
        rcases bcases (decide (s32.2 > 0)) with hc37 | hc37
        · replace h := bcT h hc37
          refine go ?_
          replace ⟨y38, hy38, h⟩ := obind h
          obtain ⟨b41, o42, cs43, hae, hb46, hp39, hq40, hd44, hk45⟩ := hr0_0.idx hy38
          subst hae
          obtain ⟨a47, c48, a50, c51, a53, c54, rfl, hr49, hr52, hr55⟩ := hd44
          refine go ?_
          refine LW.u (Pur.ix Try.underlying33 sz84 rfl rfl hp39 hq40) rfl ?_
          refine go ?_
          refine LW.l (Ldr.old w0 ag3 rfl (hk45 1 _ rfl)) (hS6.same _ hb46.1 hb46.2) rfl ?_
          refine go ?_
          rcases bcases (y38.kind != 0) with hc56 | hc56
          · replace h := bcT h hc56
            refine go ?_
            refine LW.u (Pur.ix Try.underlying33 sz84 rfl rfl hp39 hq40) rfl ?_
            refine go ?_
            refine LW.fl [0, 1, 5, 6, 41, 45] fun e => ?_
            refine go ?_
            refine LW.l (Ldr.old w0 ag3 rfl (hk45 2 _ rfl)) (hS6.same _ hb46.1 hb46.2) rfl ?_
            refine go ?_
            rcases bcases (y38.box == x1) with hc57 | hc57
            · replace h := bcT h hc57
              refine go ?_
              replace ⟨y58, hy58, h⟩ := obind h
              obtain ⟨b61, o62, cs63, hae, hb66, hp59, hq60, hd64, hk65⟩ := hr0_0.idx hy58
              cases hae
              obtain ⟨a67, c68, a70, c71, a73, c74, rfl, hr69, hr72, hr75⟩ := hd64
              refine go ?_
              refine LW.u (Pur.ix Try.underlying33 sz84 rfl rfl hp59 hq60) rfl ?_
              refine go ?_
              refine LW.l (Ldr.old w0 ag3 rfl (hk65 1 _ rfl)) (hS6.same _ hb66.1 hb66.2) rfl ?_
              refine go ?_
              rcases bcases (y58.kind == 1) with hc76 | hc76
              · replace h := bcT h hc76
                refine go ?_
                cases oi h
                exact ⟨⟨rfl, rfl, rfl, rfl, rfl, trivial⟩, hS6.pick [0] rfl rfl⟩
              replace h := bcF h hc76
              refine go ?_
              refine LW.u (Pur.ix Try.underlying33 sz84 rfl rfl hp59 hq60) rfl ?_
              refine go ?_
              refine LW.l (Ldr.old w0 ag24 rfl (hk65 10 _ rfl)) (hS6.same _ hb66.1 hb66.2) rfl ?_
              refine go ?_
              replace ⟨y77, hy77, h⟩ := obind h
              refine go ?_
              refine LW.c0 (W_s_l4Has hy77 rfl (hS6.rB hr69)) hS6 fun w78 hS7 => ?_
              refine go ?_
              cases oi h
              exact ⟨⟨rfl, rfl, rfl, rfl, rfl, trivial⟩, hS7.pick [0] rfl rfl⟩
            replace h := bcF h hc57
            refine go ?_
            replace ⟨y79, hy79, h⟩ := obind h
            obtain ⟨b82, o83, cs84, hae, hb87, hp80, hq81, hd85, hk86⟩ := hr0_0.idx hy79
            cases hae
            obtain ⟨a88, c89, a91, c92, a94, c95, rfl, hr90, hr93, hr96⟩ := hd85
            refine go ?_
            refine LW.u (Pur.ix Try.underlying33 sz84 rfl rfl hp80 hq81) rfl ?_
            refine go ?_
            refine LW.l (Ldr.old w0 ag24 rfl (hk86 10 _ rfl)) (hS6.same _ hb87.1 hb87.2) rfl ?_
            refine go ?_
            replace ⟨y97, hy97, h⟩ := obind h
            refine go ?_
            refine LW.c0 (W_s_l4Has hy97 rfl (hS6.rB hr90)) hS6 fun w98 hS8 => ?_
            refine go ?_
            cases oi h
            exact ⟨⟨rfl, rfl, rfl, rfl, rfl, trivial⟩, hS8.pick [0] rfl rfl⟩
          replace h := bcF h hc56
          refine go ?_
          refine LW.fl [0, 1, 5, 6, 58, 59, 60] fun e => ?_
          replace ⟨y99, hy99, h⟩ := obind h
          obtain ⟨b102, o103, cs104, hae, hb107, hp100, hq101, hd105, hk106⟩ := hr0_0.idx hy99
          cases hae
          obtain ⟨a108, c109, a111, c112, a114, c115, rfl, hr110, hr113, hr116⟩ := hd105
          refine go ?_
          refine LW.u (Pur.ix Try.underlying33 sz84 rfl rfl hp100 hq101) rfl ?_
          refine go ?_
          refine LW.l (Ldr.old w0 ag24 rfl (hk106 10 _ rfl)) (hS6.same _ hb107.1 hb107.2) rfl ?_
          refine go ?_
          replace ⟨y117, hy117, h⟩ := obind h
          refine go ?_
          refine LW.c0 (W_s_l4Has hy117 rfl (hS6.rB hr110)) hS6 fun w118 hS9 => ?_
          refine go ?_
          cases oi h
          exact ⟨⟨rfl, rfl, rfl, rfl, rfl, trivial⟩, hS9.pick [0] rfl rfl⟩
        replace h := bcF h hc37
        refine go ?_
        refine LW.fl [0, 1, 5, 6, 58, 59, 60] fun e => ?_
        replace ⟨y119, hy119, h⟩ := obind h
        obtain ⟨b122, o123, cs124, hae, hb127, hp120, hq121, hd125, hk126⟩ := hr0_0.idx hy119
        subst hae
        obtain ⟨a128, c129, a131, c132, a134, c135, rfl, hr130, hr133, hr136⟩ := hd125
        refine go ?_
        refine LW.u (Pur.ix Try.underlying33 sz84 rfl rfl hp120 hq121) rfl ?_
        refine go ?_
        refine LW.l (Ldr.old w0 ag24 rfl (hk126 10 _ rfl)) (hS6.same _ hb127.1 hb127.2) rfl ?_
        refine go ?_
        replace ⟨y137, hy137, h⟩ := obind h
        refine go ?_
        refine LW.c0 (W_s_l4Has hy137 rfl (hS6.rB hr130)) hS6 fun w138 hS10 => ?_
        refine go ?_
        cases oi h
        exact ⟨⟨rfl, rfl, rfl, rfl, rfl, trivial⟩, hS10.pick [0] rfl rfl⟩
      intro e w139 hS11
      have h := h36
      refine go ?_
      refine cd (fun hc140 => ?_) fun hc140 => ?_
      · replace h := bcT h hc140
        refine go ?_
        replace ⟨y141, hy141, h⟩ := obind h
        refine LW.app1 (M := []) (L := [sl s32a0 s32c0 s32.1]) (vs := #[.int .i64 s32.2]) (i := 0) sT24 rfl (by kernel_rfl) rfl rfl hy141 hS11 rfl (fun w G hG => by cases (show G = [] from hG); exact ⟨rfl, rfl⟩) rfl rfl ?_
        intro v144 a142 c143 w145 hS12 hf
        refine go ?_
        cases oi h
        exact ⟨rfl, ⟨a142, c143, ⟨rfl, rfl, rfl, rfl, trivial⟩, hS12.pick [0] rfl rfl⟩⟩
      replace h := bcF h hc140
      refine go ?_
      cases oi h
      exact ⟨rfl, ⟨s32a0, s32c0, ⟨rfl, rfl, rfl, rfl, trivial⟩, hS11.pick [0] rfl rfl⟩⟩
    replace h := bcF h hc34
    refine go ?_
    cases oi h
    exact ⟨trivial, rfl, ⟨s32a0, s32c0, ⟨rfl, trivial⟩, hS6.pick [0] rfl rfl⟩⟩
  intro x e w148 hM
  obtain ⟨rfl, hM⟩ := hM
  obtain ⟨s32a0, s32c0, hE, hS13⟩ := hM
  obtain ⟨e, rfl⟩ := hE.out
  have h := h147
  refine go ?_
  cases h
  exact And.intro trivial ⟨_, Res.one (resOne.t rfl), s32a0, s32c0, rfl, hS13.pick [0] rfl rfl⟩

theorem W_s_DrawPartNew {w0 : World} {N : Nat} {x0 : List U8} {r : DBoot} (h : F_s_DrawPartNew N x0 = some r) {a0_0 : Option Addr} {n0_0 c0_0 : Nat} (hn0_0 : n0_0 = x0.length) (hr0_0 : rdS (Bor w0 []) w0 a0_0 c0_0 x0) :
    Ret Try.prog 6 #[.slice a0_0 n0_0 c0_0] w0 (fun v w => ∃ ar0_0 cr0_0, ∃ ar0_1 cr0_1, v = .agg #[.slice ar0_0 r.label.levels.length cr0_0, .slice ar0_1 r.own.length cr0_1, .int .i64 r.amt.pages, .int .i64 r.amt.rent, .int .i64 r.amt.cpu] ∧ St w0 [] w [sl ar0_0 cr0_0 r.label.levels, sl ar0_1 cr0_1 r.own]) := by
  subst hn0_0
  unfold F_s_DrawPartNew at h
  refine Ret.fn Try.func6 fun e => ?_
  have hS1 := St.start w0
  refine go ?_
  refine LW.al hS1 fun g1 w2 hS2 => ?_
  refine go ?_
  replace ⟨y3, hy3, h⟩ := obind h
  refine LW.cl (W_s_l1New hy3 rfl (hS2.rB hr0_0)) ?_
  rintro _ w5 ⟨g4, rfl, hs⟩
  have hS3 := hS2.add hs
  refine go ?_
  replace ⟨y6, hy6, h⟩ := obind h
  obtain ⟨F7, hL8⟩ := hS3.lendI [0] [1]
  refine LW.cl (W_s_l13Boot hy6 (hL8.rB hr0_0) hL8.st) ?_
  rintro _ w13 ⟨a9, c10, a11, c12, rfl, hs⟩
  have hS4 := hL8.back _ _ hs
  refine LW.al hS4 fun g14 w15 hS5 => ?_
  refine LW.st hS5 0 fun w16 hS6 => ?_
  refine go ?_
  replace ⟨y17, hy17, h⟩ := obind h
  obtain ⟨F18, hL19⟩ := hS6.lendI [3] [0, 1, 2, 4]
  refine LW.cl (W_s_l1Below hy17 (hL19.rB hr0_0) hL19.st) ?_
  rintro _ w20 ⟨rfl, hs⟩
  have hS7 := hL19.back _ _ hs
  refine gs ?_
  obtain ⟨j21, hj21, h22⟩ := obind h
  refine CW.cut (fun e wb => ∃ (j21a0 : Option Addr), ∃ (j21c0 : Nat), ∃ (j21a2 : Option Addr), ∃ (j21c2 : Nat), En e [(2, .pointer (some ⟨g1, 0, none⟩)), (4, .pointer (some ⟨g14, 0, none⟩))] ∧ St w0 [] wb [bx g14 30 [.slice j21a0 j21.1.length j21c0, .slice j21a2 j21.2.1.length j21c2, .int .i64 j21.2.2.1, .int .i64 j21.2.2.2.1, .int .i64 j21.2.2.2.2], bx g1 30 [.slice none 0 0, .slice none 0 0, .int .i64 0, .int .i64 0, .int .i64 0], sl j21a0 j21c0 j21.1, sl j21a2 j21c2 j21.2.1]) ?_ ?_
  · have h := hj21
    refine go ?_
    refine cd (fun hc23 => ?_) fun hc23 => ?_
    · replace h := bcT h hc23
      refine go ?_
      replace ⟨y24, hy24, h⟩ := obind h
      obtain ⟨F25, hL26⟩ := hS7.lendI [0] [1, 2, 3, 4]
      refine LW.cl (W_s_l3Any hy24 (hL26.rB hr0_0) hL26.st) ?_
      rintro _ w29 ⟨a27, c28, rfl, hs⟩
      have hS8 := hL26.back _ _ hs
      refine go ?_
      refine LW.st hS8 2 fun w30 hS9 => ?_
      refine go ?_
      cases oi h
      exact ⟨a27, c28, a11, c12, ⟨rfl, rfl, trivial⟩, hS9.pick [2, 5, 0, 4] rfl rfl⟩
    replace h := bcF h hc23
    refine go ?_
    refine CW.fl [2, 3, 4, 10, 16] fun e => ?_
    refine cd (fun hc31 => ?_) fun hc31 => ?_
    · replace h := bcT h hc31
      refine go ?_
      replace ⟨y32, hy32, h⟩ := obind h
      obtain ⟨F33, hL34⟩ := hS7.lendI [0] [1, 2, 3, 4]
      refine LW.cl (W_s_l4Own hy32 (hL34.rB hr0_0) hL34.st) ?_
      rintro _ w37 ⟨a35, c36, rfl, hs⟩
      have hS10 := hL34.back _ _ hs
      refine go ?_
      refine LW.st hS10 2 fun w38 hS11 => ?_
      refine go ?_
      cases oi h
      exact ⟨a9, c10, a35, c36, ⟨rfl, rfl, trivial⟩, hS11.pick [2, 5, 3, 0] rfl rfl⟩
    replace h := bcF h hc31
    refine go ?_
    refine cd (fun hc39 => ?_) fun hc39 => ?_
    · replace h := bcT h hc39
      refine go ?_
      replace ⟨y40, hy40, h⟩ := obind h
      obtain ⟨F41, hL42⟩ := hS7.lendI [0] [1, 2, 3, 4]
      refine LW.cl (W_s_l5Any hy40 (hL42.rB hr0_0) hL42.st) ?_
      rintro _ w43 ⟨rfl, hs⟩
      have hS12 := hL42.back _ _ hs
      refine go ?_
      refine LW.st hS12 1 fun w44 hS13 => ?_
      refine go ?_
      cases oi h
      exact ⟨a9, c10, a11, c12, ⟨rfl, rfl, trivial⟩, hS13.pick [1, 4, 2, 3] rfl rfl⟩
    replace h := bcF h hc39
    refine go ?_
    cases oi h
    exact ⟨a9, c10, a11, c12, ⟨rfl, rfl, trivial⟩, hS7.pick [1, 4, 2, 3] rfl rfl⟩
  rintro e w45 ⟨j21a0, j21c0, j21a2, j21c2, hE, hS14⟩
  obtain ⟨e, rfl⟩ := hE.out
  have h := h22
  refine go ?_
  refine LW.st hS14 1 fun w46 hS15 => ?_
  refine go ?_
  cases h
  exact And.intro trivial ⟨_, Res.one (resOne.b hS15 1 rfl ag30 rfl rfl), j21a0, j21c0, j21a2, j21c2, rfl, hS15.pick [2, 3] rfl rfl⟩

theorem W_s_PartOk {w0 : World} {N : Nat} {x0 : DPart} {r : Bool} (h : F_s_PartOk N x0 = some r) {a0_0 : Option Addr} {n0_0 c0_0 : Nat} (hn0_0 : n0_0 = x0.label.levels.length) (hr0_0 : rdS (Bor w0 []) w0 a0_0 c0_0 x0.label.levels) {a0_1 : Option Addr} {n0_1 c0_1 : Nat} (hn0_1 : n0_1 = x0.own.length) (hr0_1 : rdS (Bor w0 []) w0 a0_1 c0_1 x0.own) {a0_2 : Option Addr} {n0_2 c0_2 : Nat} (hn0_2 : n0_2 = x0.tree.length) (hr0_2 : rdS (Bor w0 []) w0 a0_2 c0_2 x0.tree) {a0_3 : Option Addr} {n0_3 c0_3 : Nat} (hn0_3 : n0_3 = x0.heap.arena.length) (hr0_3 : rdS (Bor w0 []) w0 a0_3 c0_3 x0.heap.arena) {a0_7 : Option Addr} {n0_7 c0_7 : Nat} (hn0_7 : n0_7 = x0.heap.gc.grey.length) (hr0_7 : rdS (Bor w0 []) w0 a0_7 c0_7 x0.heap.gc.grey) {a0_8 : Option Addr} {n0_8 c0_8 : Nat} (hn0_8 : n0_8 = x0.taps.length) (hr0_8 : rdS (Bor w0 []) w0 a0_8 c0_8 x0.taps) :
    Ret Try.prog 11 #[.agg #[.slice a0_0 n0_0 c0_0, .slice a0_1 n0_1 c0_1, .slice a0_2 n0_2 c0_2, .slice a0_3 n0_3 c0_3, .int .i64 x0.heap.gc.phase, .int .i64 x0.heap.gc.pos, .int .i64 x0.heap.gc.round, .slice a0_7 n0_7 c0_7, .slice a0_8 n0_8 c0_8, .int .i64 x0.next, .int .i64 x0.want, .int .i64 x0.spent.pages, .int .i64 x0.spent.rent, .int .i64 x0.spent.cpu, .int .i64 x0.press, .int .i64 x0.lost]] w0 (fun v w => v = .bool r ∧ St w0 [] w []) := by
  subst hn0_0 hn0_1 hn0_2 hn0_3 hn0_7 hn0_8
  unfold F_s_PartOk at h
  refine Ret.fn Try.func11 fun e => ?_
  have hS1 := St.start w0
  refine go ?_
  refine LW.bo hS1 fun g1 w2 hS2 => ?_
  refine gs ?_
  obtain ⟨j3, hj3, h4⟩ := obind h
  refine CW.jn [1] [0] [(61, .bool j3)] hS2 (h1 := ?_) (h2 := ?_)
  · have h := hj3
    refine go ?_
    replace ⟨y5, hy5, h⟩ := obind h
    refine LW.c0 (W_s_LabelOk hy5 rfl (hS2.rB hr0_0)) hS2 fun w6 hS3 => ?_
    refine go ?_
    rcases bcases (!y5) with hc7 | hc7
    · replace h := bcT h hc7
      refine go ?_
      cases oi h
      exact ⟨⟨rfl, rfl, trivial⟩, hS3.pick [0] rfl rfl⟩
    replace h := bcF h hc7
    refine go ?_
    replace ⟨y8, hy8, h⟩ := obind h
    refine go ?_
    refine LW.c0 (W_s_OwnOk hy8 rfl (hS3.rB hr0_1)) hS3 fun w9 hS4 => ?_
    refine go ?_
    rcases bcases (!y8) with hc10 | hc10
    · replace h := bcT h hc10
      refine go ?_
      cases oi h
      exact ⟨⟨rfl, rfl, trivial⟩, hS4.pick [0] rfl rfl⟩
    replace h := bcF h hc10
    refine go ?_
    replace ⟨y11, hy11, h⟩ := obind h
    refine go ?_
    refine LW.c0 (W_s_TreeOk hy11 rfl (hS4.rB hr0_2)) hS4 fun w12 hS5 => ?_
    refine go ?_
    rcases bcases (!y11) with hc13 | hc13
    · replace h := bcT h hc13
      refine go ?_
      cases oi h
      exact ⟨⟨rfl, rfl, trivial⟩, hS5.pick [0] rfl rfl⟩
    replace h := bcF h hc13
    refine go ?_
    replace ⟨y14, hy14, h⟩ := obind h
    refine go ?_
    refine LW.c0 (W_s_HeapOk hy14 rfl (hS5.rB hr0_3) rfl (hS5.rB hr0_7)) hS5 fun w15 hS6 => ?_
    refine go ?_
    refine LW.fl [1, 26] fun e => ?_
    rcases bcases (!y14) with hc16 | hc16
    · replace h := bcT h hc16
      refine go ?_
      cases oi h
      exact ⟨⟨rfl, rfl, trivial⟩, hS6.pick [0] rfl rfl⟩
    replace h := bcF h hc16
    refine go ?_
    rcases bcases (decide ((x0.taps.length : Int) > 3)) with hc17 | hc17
    · replace h := bcT h hc17
      refine go ?_
      cases oi h
      exact ⟨⟨rfl, rfl, trivial⟩, hS6.pick [0] rfl rfl⟩
    replace h := bcF h hc17
    refine go ?_
    replace ⟨y18, hy18, h⟩ := obind h
    refine go ?_
    refine LW.c0 (W_s_l8Slot hy18) hS6 fun w19 hS7 => ?_
    refine go ?_
    rcases bcases (!y18) with hc20 | hc20
    · replace h := bcT h hc20
      refine go ?_
      cases oi h
      exact ⟨⟨rfl, rfl, trivial⟩, hS7.pick [0] rfl rfl⟩
    replace h := bcF h hc20
    refine go ?_
    replace ⟨y21, hy21, h⟩ := obind h
    refine go ?_
    refine LW.c0 (W_s_l1In hy21) hS7 fun w22 hS8 => ?_
    refine go ?_
    rcases bcases (!y21) with hc23 | hc23
    · replace h := bcT h hc23
      refine go ?_
      cases oi h
      exact ⟨⟨rfl, rfl, trivial⟩, hS8.pick [0] rfl rfl⟩
    replace h := bcF h hc23
    refine go ?_
    replace ⟨y24, hy24, h⟩ := obind h
    refine go ?_
    refine LW.c0 (W_s_AmtOk hy24) hS8 fun w25 hS9 => ?_
    refine go ?_
    refine LW.fl [1, 50] fun e => ?_
    rcases bcases (!y24) with hc26 | hc26
    · replace h := bcT h hc26
      refine go ?_
      cases oi h
      exact ⟨⟨rfl, rfl, trivial⟩, hS9.pick [0] rfl rfl⟩
    replace h := bcF h hc26
    refine go ?_
    replace ⟨y27, hy27, h⟩ := obind h
    refine go ?_
    refine LW.c0 (W_s_l1In hy27) hS9 fun w28 hS10 => ?_
    refine go ?_
    rcases bcases (!y27) with hc29 | hc29
    · replace h := bcT h hc29
      refine go ?_
      cases oi h
      exact ⟨⟨rfl, rfl, trivial⟩, hS10.pick [0] rfl rfl⟩
    replace h := bcF h hc29
    refine go ?_
    replace ⟨y30, hy30, h⟩ := obind h
    refine go ?_
    refine LW.c0 (W_s_l1In hy30) hS10 fun w31 hS11 => ?_
    refine go ?_
    cases oi h
    exact ⟨⟨rfl, rfl, trivial⟩, hS11.pick [0] rfl rfl⟩
  intro e w32 hS12
  have h := h4
  refine go ?_
  refine cd (fun hc33 => ?_) fun hc33 => ?_
  · replace h := bcT h hc33
    refine go ?_
    cases h
    exact fi hS12
  replace h := bcF h hc33
  refine go ?_
  obtain ⟨o49, ho49, h50⟩ := obind h
  refine CW.mono (CW.lx [1] [0] [] 0 (fun s34 => [(3, .int .i64 s34)]) (RT Try.prog Try.f11.results (fun u => .bool u) w0 []) hS12 ho49 (hb := ?_)) ?_
  · intro s34 e w35 o hS13 h
    refine go ?_
    refine cd (fun hc36 => ?_) fun hc36 => ?_
    · replace h := bcT h hc36
      refine go ?_
      replace ⟨y37, hy37, h⟩ := obind h
      obtain ⟨b40, o41, cs42, hae, hb45, hp38, hq39, hd43, hk44⟩ := hr0_8.idx hy37
      subst hae
      obtain rfl := hd43
      refine LW.u (Pur.ix Try.underlying38 sz95 rfl rfl hp38 hq39) rfl ?_
      refine LW.l (Ldr.oldN w0 ag95 rfl rfl (fun j u hu => hk44 j u hu)) (hS13.same _ hb45.1 hb45.2) rfl ?_
      replace ⟨y46, hy46, h⟩ := obind h
      refine LW.c0 (W_s_TapOk hy46) hS13 fun w47 hS14 => ?_
      refine go ?_
      refine CW.fl [1, 3, 75] fun e => ?_
      refine cd (fun hc48 => ?_) fun hc48 => ?_
      · replace h := bcT h hc48
        refine go ?_
        cases oi h
        exact ⟨trivial, rfl, _, rfl, ⟨_, Res.one (resOne.t rfl), rfl, hS14.pick [] rfl rfl⟩⟩
      replace h := bcF h hc48
      refine go ?_
      cases oi h
      exact ⟨rfl, ⟨⟨rfl, rfl, trivial⟩, hS14.pick [0] rfl rfl⟩⟩
    replace h := bcF h hc36
    refine go ?_
    cases oi h
    exact ⟨trivial, rfl, ⟨trivial, hS13.pick [0] rfl rfl⟩⟩
  intro x e w51 hM
  rcases o49 with o49 | r52
  · obtain ⟨rfl, hM⟩ := hM
    obtain ⟨hE, hS15⟩ := hM
    obtain ⟨e, rfl⟩ := hE.out; rw [show e = upds e [] from rfl]
    have h := h50
    refine go ?_
    cases h
    exact fi hS15
  obtain ⟨rfl, u, rfl, hM⟩ := hM
  cases h50
  exact And.intro trivial hM

theorem W_s_Reach {w0 : World} {N : Nat} {x0 : List DObj} {x1 : Int} {r : (List Bool)} (h : F_s_Reach N x0 x1 = some r) {a0_0 : Option Addr} {n0_0 c0_0 : Nat} (hn0_0 : n0_0 = x0.length) (hr0_0 : rdS (Bor w0 []) w0 a0_0 c0_0 x0) :
    Ret Try.prog 55 #[.slice a0_0 n0_0 c0_0, .int .i64 x1] w0 (fun v w => ∃ ar0 cr0, v = .slice ar0 r.length cr0 ∧ St w0 [] w [sl ar0 cr0 r]) := by
  subst hn0_0
  unfold F_s_Reach at h
  refine Ret.fn Try.func55 fun e => ?_
  have hS1 := St.start w0
  refine go ?_
  refine LW.bsl (α := Bool) (vs := []) (cs := #[]) (l := ([] : List Bool)) rfl (by kernel_rfl) rfl rfl rfl (fun w => rfl) hS1 rfl ?_
  intro a1 c2 w3 hS2 hf
  refine go ?_
  replace ⟨y4, hy4, h⟩ := obind h
  refine LW.c0 (W_s_ArenaOk hy4 rfl (hS2.rB hr0_0)) hS2 fun w5 hS3 => ?_
  refine go ?_
  refine cd (fun hc6 => ?_) fun hc6 => ?_
  · replace h := bcT h hc6
    refine go ?_
    cases h
    exact And.intro trivial ⟨_, Res.one (resOne.t rfl), a1, c2, rfl, hS3.pick [0] rfl rfl⟩
  replace h := bcF h hc6
  refine go ?_
  replace ⟨y7, hy7, h⟩ := obind h
  refine LW.mk sT96 rfl rfl hy7 hS3 rfl ?_
  intro a8 c9 w10 hS4 hf
  refine go ?_
  replace ⟨y11, hy11, h⟩ := obind h
  obtain ⟨b14, o15, hae, hp12, hq13⟩ := hS4.ownIdx (α := Bool) (i := 0) rfl hy11
  subst hae
  refine LW.u (Pur.ix Try.underlying96 sz4 rfl rfl hp12 hq13) rfl ?_
  replace ⟨y16, hy16, h⟩ := obind h
  refine LW.stE (M := []) (L := [sl (some ⟨b14, o15, none⟩) c9 y7, sl a1 c2 ([] : List Bool)]) (z := y11) (z' := true) (o := 0) hS4 (i := 0) rfl hy11 ag4 rfl (by show _ = o15 + (0 : Int).toNat * 1 + 0; omega) rfl rfl rfl rfl (whole (fun w G hG => by cases (show G = [] from hG); exact ⟨rfl, rfl⟩)) ?_
  intro w17 hS5 hf
  rw [Option.some.inj hy16] at hS5
  refine go ?_
  obtain ⟨o117, ho117, h118⟩ := obind h
  refine CW.mono (CW.iter (σ := (List Bool) × Int) (ρ := (List Bool) × Int) (fun s18 e wb => En e [(0, .slice a0_0 x0.length c0_0), (1, .int .i64 x1), (5, .slice (some ⟨b14, o15, none⟩) s18.1.length c9), (6, .int .i64 s18.2)] ∧ St w0 [] wb [sl (some ⟨b14, o15, none⟩) c9 s18.1]) (fun s18 x e wb => x = .exit 0 ∧ En e [(5, .slice (some ⟨b14, o15, none⟩) s18.1.length c9)] ∧ St w0 [] wb [sl (some ⟨b14, o15, none⟩) c9 s18.1]) ?_ N (y16, 0) _ _ _ ⟨⟨rfl, rfl, (show (.slice (some ⟨b14, o15, none⟩) y7.length c9 : Value) = .slice (some ⟨b14, o15, none⟩) y16.length c9 by rw [show y7.length = y16.length from (len_set (Option.some.inj hy16))]), rfl, trivial⟩, hS5.pick [0] rfl rfl⟩ ho117) ?_
  · intro s18 e w19 o hM h
    obtain ⟨hE, hS6⟩ := hM
    obtain ⟨e, rfl⟩ := hE.out
    refine go ?_
    refine CW.fl [0, 1, 5, 6, 19] fun e => ?_
    refine cd (fun hc20 => ?_) fun hc20 => ?_
    · replace h := bcT h hc20
      refine go ?_
      obtain ⟨o114, ho114, h115⟩ := obind h
      refine CW.mono (CW.iter (σ := (List Bool) × Int) (ρ := (List Bool) × Int) (fun s21 e wb => En e [(0, .slice a0_0 x0.length c0_0), (1, .int .i64 x1), (5, .slice (some ⟨b14, o15, none⟩) s21.1.length c9), (6, .int .i64 s18.2), (7, .int .i64 s21.2)] ∧ St w0 [] wb [sl (some ⟨b14, o15, none⟩) c9 s21.1]) (fun s21 x e wb => x = .exit 2 ∧ En e [(0, .slice a0_0 x0.length c0_0), (1, .int .i64 x1), (5, .slice (some ⟨b14, o15, none⟩) s21.1.length c9), (6, .int .i64 s18.2)] ∧ St w0 [] wb [sl (some ⟨b14, o15, none⟩) c9 s21.1]) ?_ N (s18.1, 0) _ _ _ ⟨⟨rfl, rfl, rfl, rfl, rfl, trivial⟩, hS6.pick [0] rfl rfl⟩ ho114) ?_
      · intro s21 e w22 o hM h
        obtain ⟨hE, hS7⟩ := hM
        obtain ⟨e, rfl⟩ := hE.out
        refine go ?_
        refine cd (fun hc23 => ?_) fun hc23 => ?_
        · replace h := bcT h hc23
          refine gs ?_
          refine CW.block ?_
          refine gs ?_
          obtain ⟨j24, hj24, h25⟩ := obind h
          refine CW.jn [0, 1, 5, 6, 7] [0] [(44, .bool j24)] hS7 (h1 := ?_) (h2 := ?_)
          · have h := hj24
            refine go ?_
            replace ⟨y26, hy26, h⟩ := obind h
            obtain ⟨b29, o30, hae, hp27, hq28⟩ := hS7.ownIdx (α := Bool) (i := 0) rfl hy26
            cases hae
            refine LW.u (Pur.ix Try.underlying96 sz4 rfl rfl hp27 hq28) rfl ?_
            obtain ⟨F31, ho32, hS8⟩ := hS7.freeze (α := Bool) 0 rfl
            obtain ⟨b33, o34, cs35, hae, hb38, _, _, hd36, hk37⟩ := ho32.rdF.idx hy26
            cases hae
            obtain rfl := hd36
            refine LW.l (Ldr.old w22 ag4 rfl (hk37 0 _ rfl)) (hS8.zC 0 rfl hb38) rfl ?_
            refine go ?_
            rcases bcases (!y26) with hc39 | hc39
            · replace h := bcT h hc39
              refine go ?_
              have hS9 := hS8.thaw (α := Bool) 0 rfl ho32
              cases oi h
              exact ⟨⟨rfl, rfl, rfl, rfl, rfl, rfl, trivial⟩, hS9.pick [0] rfl rfl⟩
            replace h := bcF h hc39
            refine go ?_
            replace ⟨y40, hy40, h⟩ := obind h
            obtain ⟨b43, o44, cs45, hae, hb48, hp41, hq42, hd46, hk47⟩ := hr0_0.idx hy40
            subst hae
            obtain ⟨a49, c50, a52, c53, a55, c56, rfl, hr51, hr54, hr57⟩ := hd46
            refine go ?_
            refine LW.u (Pur.ix Try.underlying33 sz84 rfl rfl hp41 hq42) rfl ?_
            refine go ?_
            refine LW.l (Ldr.oldN w0 ag84 rfl rfl (fun j u hu => hk47 j u hu)) (hS8.same _ hb48.1 hb48.2) rfl ?_
            refine go ?_
            replace ⟨y58, hy58, h⟩ := obind h
            refine go ?_
            refine LW.c0 (W_s_Expired hy58 rfl (hS8.rB hr51) rfl (hS8.rB hr54) rfl (hS8.rB hr57)) hS8 fun w59 hS10 => ?_
            refine go ?_
            rcases bcases y58 with hc60 | hc60
            · replace h := bcT h hc60
              refine go ?_
              have hS11 := hS10.thaw (α := Bool) 0 rfl ho32
              cases oi h
              exact ⟨⟨rfl, rfl, rfl, rfl, rfl, rfl, trivial⟩, hS11.pick [0] rfl rfl⟩
            replace h := bcF h hc60
            refine go ?_
            have hS12 := hS10.thaw (α := Bool) 0 rfl ho32
            cases oi h
            exact ⟨⟨rfl, rfl, rfl, rfl, rfl, rfl, trivial⟩, hS12.pick [0] rfl rfl⟩
          intro e w61 hS13
          have h := h25
          refine go ?_
          refine cd (fun hc62 => ?_) fun hc62 => ?_
          · replace h := bcT h hc62
            refine go ?_
            cases oi h
            exact ⟨rfl, ⟨⟨rfl, rfl, rfl, rfl, rfl, trivial⟩, hS13.pick [0] rfl rfl⟩⟩
          replace h := bcF h hc62
          refine go ?_
          replace ⟨y63, hy63, h⟩ := obind h
          refine LW.cl (W_s_Edges hy63 rfl (hS13.rB hr0_0)) ?_
          rintro _ w66 ⟨a64, c65, rfl, hs⟩
          have hS14 := hS13.add hs
          refine go ?_
          obtain ⟨o111, ho111, h112⟩ := obind h
          refine CW.mono (CW.iter (σ := (List Bool) × Int) (ρ := (List Bool) × Int) (fun s67 e wb => En e [(0, .slice a0_0 x0.length c0_0), (1, .int .i64 x1), (5, .slice (some ⟨b14, o15, none⟩) s67.1.length c9), (6, .int .i64 s18.2), (7, .int .i64 s21.2), (8, .slice a64 y63.length c65), (9, .int .i64 s67.2)] ∧ St w0 [] wb [sl a64 c65 y63, sl (some ⟨b14, o15, none⟩) c9 s67.1]) (fun s67 x e wb => x = .exit 4 ∧ En e [(0, .slice a0_0 x0.length c0_0), (1, .int .i64 x1), (5, .slice (some ⟨b14, o15, none⟩) s67.1.length c9), (6, .int .i64 s18.2), (7, .int .i64 s21.2)] ∧ St w0 [] wb [sl a64 c65 y63, sl (some ⟨b14, o15, none⟩) c9 s67.1]) ?_ N (s21.1, 0) _ _ _ ⟨⟨rfl, rfl, rfl, rfl, rfl, rfl, rfl, trivial⟩, hS14.pick [0, 1] rfl rfl⟩ ho111) ?_
          · intro s67 e w68 o hM h
            obtain ⟨hE, hS15⟩ := hM
            obtain ⟨e, rfl⟩ := hE.out
            refine go ?_
            refine CW.fl [0, 1, 5, 6, 7, 8, 9, 51] fun e => ?_
            refine cd (fun hc69 => ?_) fun hc69 => ?_
            · replace h := bcT h hc69
              refine go ?_
              replace ⟨y70, hy70, h⟩ := obind h
              obtain ⟨b73, o74, hae, hp71, hq72⟩ := hS15.ownIdx (α := Int) (i := 0) rfl hy70
              subst hae
              refine LW.u (Pur.ix Try.underlying24 sz3 rfl rfl hp71 hq72) rfl ?_
              obtain ⟨F75, ho76, hS16⟩ := hS15.freeze (α := Int) 0 rfl
              obtain ⟨b77, o78, cs79, hae, hb82, _, _, hd80, hk81⟩ := ho76.rdF.idx hy70
              cases hae
              obtain rfl := hd80
              refine LW.l (Ldr.old w68 ag3 rfl (hk81 0 _ rfl)) (hS16.zC 0 rfl hb82) rfl ?_
              replace ⟨y83, hy83, h⟩ := obind h
              obtain ⟨b86, o87, cs88, hae, hb91, hp84, hq85, hd89, hk90⟩ := hr0_0.idx hy83
              subst hae
              obtain ⟨a92, c93, a95, c96, a98, c99, rfl, hr94, hr97, hr100⟩ := hd89
              refine LW.u (Pur.ix Try.underlying33 sz84 rfl rfl hp84 hq85) rfl ?_
              refine LW.l (Ldr.oldN w0 ag84 rfl rfl (fun j u hu => hk90 j u hu)) (hS16.same _ hb91.1 hb91.2) rfl ?_
              refine go ?_
              replace ⟨y101, hy101, h⟩ := obind h
              refine LW.c0 (W_s_Expired hy101 rfl (hS16.rB hr94) rfl (hS16.rB hr97) rfl (hS16.rB hr100)) hS16 fun w102 hS17 => ?_
              refine go ?_
              refine CW.fl [0, 1, 5, 6, 7, 8, 9, 63] fun e => ?_
              refine cd (fun hc103 => ?_) fun hc103 => ?_
              · replace h := bcT h hc103
                refine go ?_
                refine LW.u (Pur.ix Try.underlying24 sz3 rfl rfl hp71 hq72) rfl ?_
                refine LW.l (Ldr.old w68 ag3 rfl (hk81 0 _ rfl)) (hS17.zC 0 rfl hb82) rfl ?_
                replace ⟨y104, hy104, h⟩ := obind h
                obtain ⟨b107, o108, hae, hp105, hq106⟩ := hS17.ownIdx (α := Bool) (i := 1) rfl hy104
                cases hae
                refine LW.u (Pur.ix Try.underlying96 sz4 rfl rfl hp105 hq106) rfl ?_
                replace ⟨y109, hy109, h⟩ := obind h
                refine LW.stE (M := []) (L := [fz w68 F75, sl (some ⟨b14, o15, none⟩) c9 s67.1]) (z := y104) (z' := true) (o := 0) hS17 (i := 1) rfl hy104 ag4 rfl (by show _ = o15 + (y70 : Int).toNat * 1 + 0; omega) rfl rfl rfl rfl (whole (fun w G hG => by cases (show G = [] from hG); exact ⟨rfl, rfl⟩)) ?_
                intro w110 hS18 hf
                rw [Option.some.inj hy109] at hS18
                refine go ?_
                replace h := Option.some.inj h
                subst h
                have hS19 := hS18.thaw (α := Int) 0 rfl ho76
                exact ⟨rfl, ⟨⟨rfl, rfl, (show (.slice (some ⟨b14, o15, none⟩) s67.1.length c9 : Value) = .slice (some ⟨b14, o15, none⟩) y109.length c9 by rw [show s67.1.length = y109.length from (len_set (Option.some.inj hy109))]), rfl, rfl, rfl, rfl, trivial⟩, hS19.pick [0, 1] rfl rfl⟩⟩
              replace h := bcF h hc103
              refine go ?_
              have hS20 := hS17.thaw (α := Int) 0 rfl ho76
              cases oi h
              exact ⟨rfl, ⟨⟨rfl, rfl, rfl, rfl, rfl, rfl, rfl, trivial⟩, hS20.pick [0, 1] rfl rfl⟩⟩
            replace h := bcF h hc69
            refine go ?_
            cases oi h
            exact ⟨trivial, rfl, ⟨⟨rfl, rfl, rfl, rfl, rfl, trivial⟩, hS15.pick [0, 1] rfl rfl⟩⟩
          intro x e w113 hM
          obtain ⟨rfl, hM⟩ := hM
          obtain ⟨hE, hS21⟩ := hM
          obtain ⟨e, rfl⟩ := hE.out
          have h := h112
          refine go ?_
          cases oi h
          exact ⟨rfl, ⟨⟨rfl, rfl, rfl, rfl, rfl, trivial⟩, hS21.pick [1] rfl rfl⟩⟩
        replace h := bcF h hc23
        refine go ?_
        cases oi h
        exact ⟨trivial, rfl, ⟨⟨rfl, rfl, rfl, rfl, trivial⟩, hS7.pick [0] rfl rfl⟩⟩
      intro x e w116 hM
      obtain ⟨rfl, hM⟩ := hM
      obtain ⟨hE, hS22⟩ := hM
      obtain ⟨e, rfl⟩ := hE.out
      have h := h115
      refine go ?_
      cases oi h
      exact ⟨rfl, ⟨⟨rfl, rfl, rfl, rfl, trivial⟩, hS22.pick [0] rfl rfl⟩⟩
    replace h := bcF h hc20
    refine go ?_
    cases oi h
    exact ⟨trivial, rfl, ⟨⟨rfl, trivial⟩, hS6.pick [0] rfl rfl⟩⟩
  intro x e w119 hM
  obtain ⟨rfl, hM⟩ := hM
  obtain ⟨hE, hS23⟩ := hM
  obtain ⟨e, rfl⟩ := hE.out
  have h := h118
  refine go ?_
  cases h
  exact And.intro trivial ⟨_, Res.one (resOne.t rfl), (some ⟨b14, o15, none⟩), c9, rfl, hS23.pick [0] rfl rfl⟩

theorem W_s_GcSafe {w0 : World} {N : Nat} {x0 : DHeap} {x1 : Int} {r : Bool} (h : F_s_GcSafe N x0 x1 = some r) {a0_0 : Option Addr} {n0_0 c0_0 : Nat} (hn0_0 : n0_0 = x0.arena.length) (hr0_0 : rdS (Bor w0 []) w0 a0_0 c0_0 x0.arena) {a0_4 : Option Addr} {n0_4 c0_4 : Nat} (hn0_4 : n0_4 = x0.gc.grey.length) (hr0_4 : rdS (Bor w0 []) w0 a0_4 c0_4 x0.gc.grey) :
    Ret Try.prog 13 #[.agg #[.slice a0_0 n0_0 c0_0, .int .i64 x0.gc.phase, .int .i64 x0.gc.pos, .int .i64 x0.gc.round, .slice a0_4 n0_4 c0_4], .int .i64 x1] w0 (fun v w => v = .bool r ∧ St w0 [] w []) := by
  subst hn0_0 hn0_4
  unfold F_s_GcSafe at h
  refine Ret.fn Try.func13 fun e => ?_
  have hS1 := St.start w0
  refine go ?_
  refine LW.bo hS1 fun g1 w2 hS2 => ?_
  refine go ?_
  replace ⟨y3, hy3, h⟩ := obind h
  refine LW.c0 (W_s_HeapOk hy3 rfl (hS2.rB hr0_0) rfl (hS2.rB hr0_4)) hS2 fun w4 hS3 => ?_
  refine go ?_
  refine cd (fun hc5 => ?_) fun hc5 => ?_
  · replace h := bcT h hc5
    refine go ?_
    cases h
    exact fi hS3
  replace h := bcF h hc5
  refine go ?_
  replace ⟨y6, hy6, h⟩ := obind h
  refine LW.cl (W_s_Reach hy6 rfl (hS3.rB hr0_0)) ?_
  rintro _ w9 ⟨a7, c8, rfl, hs⟩
  have hS4 := hS3.add hs
  refine go ?_
  refine CW.fl [2, 5, 20] fun e => ?_
  refine cd (fun hc10 => ?_) fun hc10 => ?_
  · replace h := bcT h hc10
    refine go ?_
    obtain ⟨o88, ho88, h89⟩ := obind h
    refine CW.mono (CW.lx [2, 5] [0, 1] [] 0 (fun s11 => [(6, .int .i64 s11)]) (RT Try.prog Try.f13.results (fun u => .bool u) w0 []) hS4 ho88 (hb := ?_)) ?_
    · intro s11 e w12 o hS5 h
      refine go ?_
      refine cd (fun hc13 => ?_) fun hc13 => ?_
      · replace h := bcT h hc13
        refine gs ?_
        refine CW.block ?_
        refine gs ?_
        obtain ⟨j14, hj14, h15⟩ := obind h
        refine CW.jn [2, 5, 6] [0, 1] [(63, .bool j14)] hS5 (h1 := ?_) (h2 := ?_)
        · have h := hj14
          refine go ?_
          rcases bcases (decide (s11 < x0.gc.pos)) with hc16 | hc16
          · replace h := bcT h hc16
            refine go ?_
            replace ⟨y17, hy17, h⟩ := obind h
            obtain ⟨b20, o21, cs22, hae, hb25, hp18, hq19, hd23, hk24⟩ := hr0_0.idx hy17
            subst hae
            obtain ⟨a26, c27, a29, c30, a32, c33, rfl, hr28, hr31, hr34⟩ := hd23
            refine go ?_
            refine LW.u (Pur.ix Try.underlying33 sz84 rfl rfl hp18 hq19) rfl ?_
            refine go ?_
            refine LW.l (Ldr.old w0 ag4 rfl (hk24 9 _ rfl)) (hS5.same _ hb25.1 hb25.2) rfl ?_
            refine go ?_
            rcases bcases y17.mark with hc35 | hc35
            · replace h := bcT h hc35
              refine go ?_
              cases oi h
              exact ⟨⟨rfl, rfl, rfl, rfl, trivial⟩, hS5.pick [0, 1] rfl rfl⟩
            replace h := bcF h hc35
            refine go ?_
            refine LW.fl [2, 5, 6, 38, 44] fun e => ?_
            rcases bcases (decide (s11 ≥ x0.gc.pos)) with hc36 | hc36
            · replace h := bcT h hc36
              refine go ?_
              rcases bcases (decide (s11 > 0)) with hc37 | hc37
              · replace h := bcT h hc37
                refine go ?_
                replace ⟨y38, hy38, h⟩ := obind h
                obtain ⟨b41, o42, hae, hp39, hq40⟩ := hS5.ownIdx (α := Bool) (i := 0) rfl hy38
                subst hae
                refine go ?_
                refine LW.u (Pur.ix Try.underlying96 sz4 rfl rfl hp39 hq40) rfl ?_
                obtain ⟨F43, ho44, hS6⟩ := hS5.freeze (α := Bool) 0 rfl
                obtain ⟨b45, o46, cs47, hae, hb50, _, _, hd48, hk49⟩ := ho44.rdF.idx hy38
                cases hae
                obtain rfl := hd48
                refine go ?_
                refine LW.l (Ldr.old w12 ag4 rfl (hk49 0 _ rfl)) (hS6.zC 0 rfl hb50) rfl ?_
                refine go ?_
                rcases bcases y38 with hc51 | hc51
                · replace h := bcT h hc51
                  refine go ?_
                  refine LW.u (Pur.ix Try.underlying33 sz84 rfl rfl hp18 hq19) rfl ?_
                  refine go ?_
                  refine LW.l (Ldr.old w0 ag4 rfl (hk24 9 _ rfl)) (hS6.same _ hb25.1 hb25.2) rfl ?_
                  refine go ?_
                  have hS7 := hS6.thaw (α := Bool) 0 rfl ho44
                  cases oi h
                  exact ⟨⟨rfl, rfl, rfl, rfl, trivial⟩, hS7.pick [0, 1] rfl rfl⟩
                replace h := bcF h hc51
                refine go ?_
                have hS8 := hS6.thaw (α := Bool) 0 rfl ho44
                cases oi h
                exact ⟨⟨rfl, rfl, rfl, rfl, trivial⟩, hS8.pick [0, 1] rfl rfl⟩
              replace h := bcF h hc37
              refine go ?_
              cases oi h
              exact ⟨⟨rfl, rfl, rfl, rfl, trivial⟩, hS5.pick [0, 1] rfl rfl⟩
            replace h := bcF h hc36
            refine go ?_
            cases oi h
            exact ⟨⟨rfl, rfl, rfl, rfl, trivial⟩, hS5.pick [0, 1] rfl rfl⟩
          replace h := bcF h hc16
          refine go ?_
          rcases bcases (decide (s11 ≥ x0.gc.pos)) with hc52 | hc52
          · replace h := bcT h hc52
            refine go ?_
            refine LW.fl [2, 5, 6, 38, 48] fun e => ?_
            rcases bcases (decide (s11 > 0)) with hc53 | hc53
            · replace h := bcT h hc53
              refine go ?_
              replace ⟨y54, hy54, h⟩ := obind h
              obtain ⟨b57, o58, hae, hp55, hq56⟩ := hS5.ownIdx (α := Bool) (i := 0) rfl hy54
              subst hae
              refine go ?_
              refine LW.u (Pur.ix Try.underlying96 sz4 rfl rfl hp55 hq56) rfl ?_
              obtain ⟨F59, ho60, hS9⟩ := hS5.freeze (α := Bool) 0 rfl
              obtain ⟨b61, o62, cs63, hae, hb66, _, _, hd64, hk65⟩ := ho60.rdF.idx hy54
              cases hae
              obtain rfl := hd64
              refine go ?_
              refine LW.l (Ldr.old w12 ag4 rfl (hk65 0 _ rfl)) (hS9.zC 0 rfl hb66) rfl ?_
              refine go ?_
              rcases bcases y54 with hc67 | hc67
              · replace h := bcT h hc67
                refine go ?_
                replace ⟨y68, hy68, h⟩ := obind h
                obtain ⟨b71, o72, cs73, hae, hb76, hp69, hq70, hd74, hk75⟩ := hr0_0.idx hy68
                subst hae
                obtain ⟨a77, c78, a80, c81, a83, c84, rfl, hr79, hr82, hr85⟩ := hd74
                refine go ?_
                refine LW.u (Pur.ix Try.underlying33 sz84 rfl rfl hp69 hq70) rfl ?_
                refine go ?_
                refine LW.l (Ldr.old w0 ag4 rfl (hk75 9 _ rfl)) (hS9.same _ hb76.1 hb76.2) rfl ?_
                refine go ?_
                have hS10 := hS9.thaw (α := Bool) 0 rfl ho60
                cases oi h
                exact ⟨⟨rfl, rfl, rfl, rfl, trivial⟩, hS10.pick [0, 1] rfl rfl⟩
              replace h := bcF h hc67
              refine go ?_
              have hS11 := hS9.thaw (α := Bool) 0 rfl ho60
              cases oi h
              exact ⟨⟨rfl, rfl, rfl, rfl, trivial⟩, hS11.pick [0, 1] rfl rfl⟩
            replace h := bcF h hc53
            refine go ?_
            cases oi h
            exact ⟨⟨rfl, rfl, rfl, rfl, trivial⟩, hS5.pick [0, 1] rfl rfl⟩
          replace h := bcF h hc52
          refine go ?_
          cases oi h
          exact ⟨⟨rfl, rfl, rfl, rfl, trivial⟩, hS5.pick [0, 1] rfl rfl⟩
        intro e w86 hS12
        have h := h15
        refine go ?_
        refine cd (fun hc87 => ?_) fun hc87 => ?_
        · replace h := bcT h hc87
          refine go ?_
          cases oi h
          exact ⟨trivial, rfl, _, rfl, ⟨_, Res.one (resOne.t rfl), rfl, hS12.pick [] rfl rfl⟩⟩
        replace h := bcF h hc87
        refine go ?_
        cases oi h
        exact ⟨rfl, ⟨⟨rfl, rfl, rfl, trivial⟩, hS12.pick [0, 1] rfl rfl⟩⟩
      replace h := bcF h hc13
      refine go ?_
      cases oi h
      exact ⟨trivial, rfl, ⟨trivial, hS5.pick [0, 1] rfl rfl⟩⟩
    intro x e w90 hM
    rcases o88 with o88 | r91
    · obtain ⟨rfl, hM⟩ := hM
      obtain ⟨hE, hS13⟩ := hM
      obtain ⟨e, rfl⟩ := hE.out; rw [show e = upds e [] from rfl]
      have h := h89
      refine go ?_
      cases h
      exact fi hS13
    obtain ⟨rfl, u, rfl, hM⟩ := hM
    cases h89
    exact And.intro trivial hM
  replace h := bcF h hc10
  refine go ?_
  obtain ⟨o196, ho196, h197⟩ := obind h
  refine CW.mono (CW.lx [2, 5] [0, 1] [] 2 (fun s92 => [(7, .int .i64 s92)]) (RT Try.prog Try.f13.results (fun u => .bool u) w0 []) hS4 ho196 (hb := ?_)) ?_
  · intro s92 e w93 o hS14 h
    refine go ?_
    refine cd (fun hc94 => ?_) fun hc94 => ?_
    · replace h := bcT h hc94
      refine gs ?_
      refine CW.block ?_
      refine gs ?_
      obtain ⟨j95, hj95, h96⟩ := obind h
      refine CW.jn [2, 5, 7] [0, 1] [(92, .bool j95)] hS14 (h1 := ?_) (h2 := ?_)
      · have h := hj95
        refine go ?_
        replace ⟨y97, hy97, h⟩ := obind h
        obtain ⟨b100, o101, hae, hp98, hq99⟩ := hS14.ownIdx (α := Bool) (i := 0) rfl hy97
        subst hae
        refine LW.u (Pur.ix Try.underlying96 sz4 rfl rfl hp98 hq99) rfl ?_
        obtain ⟨F102, ho103, hS15⟩ := hS14.freeze (α := Bool) 0 rfl
        obtain ⟨b104, o105, cs106, hae, hb109, _, _, hd107, hk108⟩ := ho103.rdF.idx hy97
        cases hae
        obtain rfl := hd107
        refine LW.l (Ldr.old w93 ag4 rfl (hk108 0 _ rfl)) (hS15.zC 0 rfl hb109) rfl ?_
        refine go ?_
        rcases bcases (!y97) with hc110 | hc110
        · replace h := bcT h hc110
          refine go ?_
          have hS16 := hS15.thaw (α := Bool) 0 rfl ho103
          cases oi h
          exact ⟨⟨rfl, rfl, rfl, rfl, trivial⟩, hS16.pick [0, 1] rfl rfl⟩
        replace h := bcF h hc110
        refine go ?_
        replace ⟨y111, hy111, h⟩ := obind h
        refine go ?_
        refine LW.c0 (W_s_l4Has hy111 rfl (hS15.rB hr0_4)) hS15 fun w112 hS17 => ?_
        refine go ?_
        rcases bcases y111 with hc113 | hc113
        · replace h := bcT h hc113
          refine go ?_
          have hS18 := hS17.thaw (α := Bool) 0 rfl ho103
          cases oi h
          exact ⟨⟨rfl, rfl, rfl, rfl, trivial⟩, hS18.pick [0, 1] rfl rfl⟩
        replace h := bcF h hc113
        refine go ?_
        rcases bcases (decide (s92 > 0)) with hc114 | hc114
        · replace h := bcT h hc114
          refine go ?_
          refine LW.fl [2, 5, 7, 80, 83, 85, 86] fun e => ?_
          replace ⟨y115, hy115, h⟩ := obind h
          obtain ⟨b118, o119, cs120, hae, hb123, hp116, hq117, hd121, hk122⟩ := hr0_0.idx hy115
          subst hae
          obtain ⟨a124, c125, a127, c128, a130, c131, rfl, hr126, hr129, hr132⟩ := hd121
          refine go ?_
          refine LW.u (Pur.ix Try.underlying33 sz84 rfl rfl hp116 hq117) rfl ?_
          refine go ?_
          refine LW.l (Ldr.old w0 ag4 rfl (hk122 9 _ rfl)) (hS17.same _ hb123.1 hb123.2) rfl ?_
          refine go ?_
          have hS19 := hS17.thaw (α := Bool) 0 rfl ho103
          cases oi h
          exact ⟨⟨rfl, rfl, rfl, rfl, trivial⟩, hS19.pick [0, 1] rfl rfl⟩
        replace h := bcF h hc114
        refine go ?_
        have hS20 := hS17.thaw (α := Bool) 0 rfl ho103
        cases oi h
        exact ⟨⟨rfl, rfl, rfl, rfl, trivial⟩, hS20.pick [0, 1] rfl rfl⟩
      intro e w133 hS21
      have h := h96
      refine go ?_
      refine cd (fun hc134 => ?_) fun hc134 => ?_
      · replace h := bcT h hc134
        refine go ?_
        cases oi h
        exact ⟨rfl, ⟨⟨rfl, rfl, rfl, trivial⟩, hS21.pick [0, 1] rfl rfl⟩⟩
      replace h := bcF h hc134
      refine go ?_
      replace ⟨y135, hy135, h⟩ := obind h
      refine LW.cl (W_s_Edges hy135 rfl (hS21.rB hr0_0)) ?_
      rintro _ w138 ⟨a136, c137, rfl, hs⟩
      have hS22 := hS21.add hs
      refine go ?_
      obtain ⟨o192, ho192, h193⟩ := obind h
      refine CW.mono (CW.lx [2, 5, 7, 8] [0, 1, 2] [2, 5, 7] 4 (fun s139 => [(9, .int .i64 s139)]) (RT Try.prog Try.f13.results (fun u => .bool u) w0 []) hS22 ho192 (hb := ?_)) ?_
      · intro s139 e w140 o hS23 h
        refine go ?_
        refine CW.fl [2, 5, 7, 8, 9, 100] fun e => ?_
        refine cd (fun hc141 => ?_) fun hc141 => ?_
        · replace h := bcT h hc141
          refine gs ?_
          refine CW.block ?_
          refine gs ?_
          obtain ⟨j142, hj142, h143⟩ := obind h
          refine CW.jn [2, 5, 7, 8, 9] [0, 1, 2] [(128, .bool j142)] hS23 (h1 := ?_) (h2 := ?_)
          · have h := hj142
            refine CW.draw (by kernel_rfl) ?_
            have hS24 := hS23.drew
            refine go ?_
            replace ⟨y144, hy144, h⟩ := obind h
            obtain ⟨b147, o148, hae, hp145, hq146⟩ := hS24.ownIdx (α := Int) (i := 0) rfl hy144
            subst hae
            refine AW.u (i := 2) rfl (by kernel_rfl) rfl rfl (Pur.ix Try.underlying24 sz3 rfl rfl hp145 hq146) ?_
            obtain ⟨F149, ho150, hS25⟩ := hS24.freeze (α := Int) 0 rfl
            obtain ⟨b151, o152, cs153, hae, hb156, _, _, hd154, hk155⟩ := ho150.rdF.idx hy144
            cases hae
            obtain rfl := hd154
            refine AW.take (i := 3) rfl (by kernel_rfl) rfl rfl (Ldr.old w140.drew ag3 rfl (hk155 0 _ rfl)) (hS25.zC 0 rfl hb156) ?_
            refine go ?_
            rcases bcases (decide (y144 > 0)) with hc157 | hc157
            · replace h := bcT h hc157
              refine go ?_
              refine AW.u (i := 9) rfl (by kernel_rfl) (want_of rfl rfl hc157) rfl (Pur.ix Try.underlying24 sz3 rfl rfl hp145 hq146) ?_
              refine AW.take (i := 10) rfl (by kernel_rfl) (want_of rfl rfl hc157) rfl (Ldr.old w140.drew ag3 rfl (hk155 0 _ rfl)) (hS25.zC 0 rfl hb156) ?_
              replace ⟨y158, hy158, h⟩ := obind h
              obtain ⟨b161, o162, hae, hp159, hq160⟩ := hS25.ownIdx (α := Bool) (i := 1) rfl hy158
              subst hae
              refine AW.u (i := 11) rfl (by kernel_rfl) (want_of rfl rfl hc157) rfl (Pur.ix Try.underlying96 sz4 rfl rfl hp159 hq160) ?_
              obtain ⟨F163, ho164, hS26⟩ := hS25.freeze (α := Bool) 1 rfl
              obtain ⟨b165, o166, cs167, hae, hb170, _, _, hd168, hk169⟩ := ho164.rdF.idx hy158
              cases hae
              obtain rfl := hd168
              refine AW.take (i := 12) rfl (by kernel_rfl) (want_of rfl rfl hc157) rfl (Ldr.old w140.drew ag4 rfl (hk169 0 _ rfl)) (hS26.zC 1 rfl hb170) ?_
              refine go ?_
              rcases bcases y158 with hc171 | hc171
              · replace h := bcT h hc171
                refine go ?_
                refine AW.u (i := 19) rfl (by kernel_rfl) (want_of rfl rfl hc171) rfl (Pur.ix Try.underlying24 sz3 rfl rfl hp145 hq146) ?_
                refine AW.take (i := 20) rfl (by kernel_rfl) (want_of rfl rfl hc171) rfl (Ldr.old w140.drew ag3 rfl (hk155 0 _ rfl)) (hS26.zC 0 rfl hb156) ?_
                replace ⟨y172, hy172, h⟩ := obind h
                obtain ⟨b175, o176, cs177, hae, hb180, hp173, hq174, hd178, hk179⟩ := hr0_0.idx hy172
                subst hae
                obtain ⟨a181, c182, a184, c185, a187, c188, rfl, hr183, hr186, hr189⟩ := hd178
                refine AW.u (i := 21) rfl (by kernel_rfl) (want_of rfl rfl hc171) rfl (Pur.ix Try.underlying33 sz84 rfl rfl hp173 hq174) ?_
                refine go ?_
                refine AW.take (i := 23) rfl (by kernel_rfl) (want_of rfl rfl hc171) rfl (Ldr.old w0 ag4 rfl (hk179 9 _ rfl)) (hS26.same _ hb180.1 hb180.2) ?_
                refine go ?_
                have hS27 := hS26.thaw (α := Int) 0 rfl ho150
                have hS28 := hS27.thaw (α := Bool) 1 rfl ho164
                cases oi h
                exact ⟨⟨rfl, rfl, rfl, rfl, rfl, rfl, trivial⟩, hS28.pick [0, 1, 2] rfl rfl⟩
              replace h := bcF h hc171
              refine go ?_
              have hS29 := hS26.thaw (α := Int) 0 rfl ho150
              have hS30 := hS29.thaw (α := Bool) 1 rfl ho164
              cases oi h
              exact ⟨⟨rfl, rfl, rfl, rfl, rfl, rfl, trivial⟩, hS30.pick [0, 1, 2] rfl rfl⟩
            replace h := bcF h hc157
            refine go ?_
            have hS31 := hS25.thaw (α := Int) 0 rfl ho150
            cases oi h
            exact ⟨⟨rfl, rfl, rfl, rfl, rfl, rfl, trivial⟩, hS31.pick [0, 1, 2] rfl rfl⟩
          intro e w190 hS32
          have h := h143
          refine go ?_
          refine cd (fun hc191 => ?_) fun hc191 => ?_
          · replace h := bcT h hc191
            refine go ?_
            cases oi h
            exact ⟨trivial, rfl, _, rfl, ⟨_, Res.one (resOne.t rfl), rfl, hS32.pick [] rfl rfl⟩⟩
          replace h := bcF h hc191
          refine go ?_
          cases oi h
          exact ⟨rfl, ⟨⟨rfl, rfl, rfl, rfl, rfl, trivial⟩, hS32.pick [0, 1, 2] rfl rfl⟩⟩
        replace h := bcF h hc141
        refine go ?_
        cases oi h
        exact ⟨trivial, rfl, ⟨⟨rfl, rfl, rfl, trivial⟩, hS23.pick [0, 1, 2] rfl rfl⟩⟩
      intro x e w194 hM
      rcases o192 with o192 | r195
      · obtain ⟨rfl, hM⟩ := hM
        obtain ⟨hE, hS33⟩ := hM
        obtain ⟨e, rfl⟩ := hE.out
        have h := h193
        refine go ?_
        cases oi h
        exact ⟨rfl, ⟨⟨rfl, rfl, rfl, trivial⟩, hS33.pick [1, 2] rfl rfl⟩⟩
      obtain ⟨rfl, u, rfl, hM⟩ := hM
      cases h193
      exact ⟨trivial, rfl, _, rfl, hM⟩
    replace h := bcF h hc94
    refine go ?_
    cases oi h
    exact ⟨trivial, rfl, ⟨trivial, hS14.pick [0, 1] rfl rfl⟩⟩
  intro x e w198 hM
  rcases o196 with o196 | r199
  · obtain ⟨rfl, hM⟩ := hM
    obtain ⟨hE, hS34⟩ := hM
    obtain ⟨e, rfl⟩ := hE.out; rw [show e = upds e [] from rfl]
    have h := h197
    refine go ?_
    cases h
    exact fi hS34
  obtain ⟨rfl, u, rfl, hM⟩ := hM
  cases h197
  exact And.intro trivial hM

theorem W_i_Garbage {w0 : World} {N : Nat} {x0 : List DObj} {x1 : Int} {r : (List Int)} (h : F_i_Garbage N x0 x1 = some r) {a0_0 : Option Addr} {n0_0 c0_0 : Nat} (hn0_0 : n0_0 = x0.length) (hr0_0 : rdS (Bor w0 []) w0 a0_0 c0_0 x0) :
    Ret Try.prog 19 #[.slice a0_0 n0_0 c0_0, .int .i64 x1] w0 (fun v w => ∃ ar0 cr0, v = .slice ar0 r.length cr0 ∧ St w0 [] w [sl ar0 cr0 r]) := by
  subst hn0_0
  unfold F_i_Garbage at h
  refine Ret.fn Try.func19 fun e => ?_
  have hS1 := St.start w0
  refine go ?_
  refine LW.bsl (α := Int) (vs := []) (cs := #[]) (l := ([] : List Int)) rfl (by kernel_rfl) rfl rfl rfl (fun w => rfl) hS1 rfl ?_
  intro a1 c2 w3 hS2 hf
  refine go ?_
  replace ⟨y4, hy4, h⟩ := obind h
  refine LW.cl (W_i_Reach hy4 rfl (hS2.rB hr0_0)) ?_
  rintro _ w7 ⟨a5, c6, rfl, hs⟩
  have hS3 := hS2.add hs
  refine go ?_
  obtain ⟨o52, ho52, h53⟩ := obind h
  refine CW.mono (CW.iter (σ := (List Int) × Int) (ρ := (List Int) × Int) (fun s8 e wb => ∃ (s8a0 : Option Addr), ∃ (s8c0 : Nat), En e [(0, .slice a0_0 x0.length c0_0), (5, .slice s8a0 s8.1.length s8c0), (11, .slice a5 y4.length c6), (12, .int .i64 (y4.length : Int)), (13, .int .i64 s8.2)] ∧ St w0 [] wb [sl a5 c6 y4, sl s8a0 s8c0 s8.1]) (fun s8 x e wb => x = .exit 0 ∧ ∃ (s8a0 : Option Addr), ∃ (s8c0 : Nat), En e [(5, .slice s8a0 s8.1.length s8c0)] ∧ St w0 [] wb [sl a5 c6 y4, sl s8a0 s8c0 s8.1]) ?_ N (([] : List Int), 0) _ _ _ ⟨a1, c2, ⟨rfl, rfl, rfl, rfl, rfl, trivial⟩, hS3.pick [0, 1] rfl rfl⟩ ho52) ?_
  · intro s8 e w9 o hM h
    obtain ⟨s8a0, s8c0, hE, hS4⟩ := hM
    obtain ⟨e, rfl⟩ := hE.out
    refine go ?_
    refine cd (fun hc10 => ?_) fun hc10 => ?_
    · replace h := bcT h hc10
      refine go ?_
      replace ⟨y11, hy11, h⟩ := obind h
      obtain ⟨b14, o15, hae, hp12, hq13⟩ := hS4.ownIdx (α := Bool) (i := 0) rfl hy11
      subst hae
      refine LW.u (Pur.ix Try.underlying96 sz4 rfl rfl hp12 hq13) rfl ?_
      obtain ⟨F16, ho17, hS5⟩ := hS4.freeze (α := Bool) 0 rfl
      obtain ⟨b18, o19, cs20, hae, hb23, _, _, hd21, hk22⟩ := ho17.rdF.idx hy11
      cases hae
      obtain rfl := hd21
      refine LW.l (Ldr.old w9 ag4 rfl (hk22 0 _ rfl)) (hS5.zC 0 rfl hb23) rfl ?_
      refine gs ?_
      obtain ⟨j24, hj24, h25⟩ := obind h
      refine CW.jn [0, 5, 6, 11, 12, 13] [0, 1] [(27, .bool j24)] hS5 (h1 := ?_) (h2 := ?_)
      · have h := hj24
        refine go ?_
        rcases bcases (!y11) with hc26 | hc26
        · replace h := bcT h hc26
          refine go ?_
          replace ⟨y27, hy27, h⟩ := obind h
          obtain ⟨b30, o31, cs32, hae, hb35, hp28, hq29, hd33, hk34⟩ := hr0_0.idx hy27
          subst hae
          obtain ⟨a36, c37, a39, c40, a42, c43, rfl, hr38, hr41, hr44⟩ := hd33
          refine go ?_
          refine LW.u (Pur.ix Try.underlying33 sz84 rfl rfl hp28 hq29) rfl ?_
          refine go ?_
          refine LW.fl [0, 5, 6, 11, 12, 13, 20, 24] fun e => ?_
          refine go ?_
          refine LW.l (Ldr.old w0 ag3 rfl (hk34 1 _ rfl)) (hS5.same _ hb35.1 hb35.2) rfl ?_
          refine go ?_
          cases oi h
          exact ⟨⟨rfl, rfl, rfl, rfl, rfl, rfl, rfl, trivial⟩, hS5.pick [0, 1] rfl rfl⟩
        replace h := bcF h hc26
        refine go ?_
        cases oi h
        exact ⟨⟨rfl, rfl, rfl, rfl, rfl, rfl, rfl, trivial⟩, hS5.pick [0, 1] rfl rfl⟩
      intro e w45 hS6
      have h := h25
      refine go ?_
      refine CW.fl [0, 5, 6, 11, 12, 13, 27] fun e => ?_
      refine cd (fun hc46 => ?_) fun hc46 => ?_
      · replace h := bcT h hc46
        refine go ?_
        replace ⟨y47, hy47, h⟩ := obind h
        refine LW.app1 (M := []) (L := [fz w9 F16, sl s8a0 s8c0 s8.1]) (vs := #[.int .i64 s8.2]) (i := 1) sT24 rfl (by kernel_rfl) rfl rfl hy47 hS6 rfl (fun w G hG => by cases (show G = [] from hG); exact ⟨rfl, rfl⟩) rfl rfl ?_
        intro v50 a48 c49 w51 hS7 hf
        refine go ?_
        have hS8 := hS7.thaw (α := Bool) 0 rfl ho17
        cases oi h
        exact ⟨rfl, ⟨a48, c49, ⟨rfl, rfl, rfl, rfl, rfl, trivial⟩, hS8.pick [0, 1] rfl rfl⟩⟩
      replace h := bcF h hc46
      refine go ?_
      have hS9 := hS6.thaw (α := Bool) 0 rfl ho17
      cases oi h
      exact ⟨rfl, ⟨s8a0, s8c0, ⟨rfl, rfl, rfl, rfl, rfl, trivial⟩, hS9.pick [0, 1] rfl rfl⟩⟩
    replace h := bcF h hc10
    refine go ?_
    cases oi h
    exact ⟨trivial, rfl, ⟨s8a0, s8c0, ⟨rfl, trivial⟩, hS4.pick [0, 1] rfl rfl⟩⟩
  intro x e w54 hM
  obtain ⟨rfl, hM⟩ := hM
  obtain ⟨s8a0, s8c0, hE, hS10⟩ := hM
  obtain ⟨e, rfl⟩ := hE.out
  have h := h53
  refine go ?_
  cases h
  exact And.intro trivial ⟨_, Res.one (resOne.t rfl), s8a0, s8c0, rfl, hS10.pick [1] rfl rfl⟩

end Go.Kx
