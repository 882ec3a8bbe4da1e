/- Each call returns what the plain function says. Printed by drive.py. -/
import Derived.Test.YtljikolgijlbeaaFa
import Derived.Test.YtljikolgijlbeaaPu
import Derived.Test.YtljikolgijlbeaaWa0
namespace Go.Kx
open Go Go.RowKit Go.Proofs
set_option maxRecDepth 10000
set_option maxHeartbeats 8000000
set_option linter.unusedVariables false
set_option linter.unusedSimpArgs false
theorem W_i_TapOk {w0 : World} {N : Nat} {x0 : DTap} {r : Bool} (h : F_i_TapOk N x0 = some r) :
    Ret Try.prog 48 #[.agg #[.int .i64 x0.res, .int .i64 x0.toPart, .int .i64 x0.toRes, .int .i64 x0.which, .int .i64 x0.kind, .int .i64 x0.rate]] w0 (fun v w => v = .bool r ∧ St w0 [] w []) := by
  unfold F_i_TapOk at h
  refine Ret.fn Try.func48 fun e => ?_
  have hS1 := St.start w0
  refine go ?_
  refine LW.bo hS1 fun g1 w2 hS2 => ?_
  refine gs ?_
  obtain ⟨j3, hj3, h4⟩ := obind h
  refine CW.jn [1] [0] [(24, .bool j3)] hS2 (h1 := ?_) (h2 := ?_)
  · have h := hj3
    refine go ?_
    replace ⟨y5, hy5, h⟩ := obind h
    refine LW.c0 (W_i_isPlace hy5) hS2 fun w6 hS3 => ?_
    refine go ?_
    rcases bcases (!y5) with hc7 | hc7
    · replace h := bcT h hc7
      refine go ?_
      cases oi h
      exact ⟨⟨rfl, rfl, trivial⟩, hS3.pick [0] rfl rfl⟩
    replace h := bcF h hc7
    refine go ?_
    replace ⟨y8, hy8, h⟩ := obind h
    refine go ?_
    refine LW.c0 (W_i_isPlace hy8) hS3 fun w9 hS4 => ?_
    refine go ?_
    rcases bcases (!y8) with hc10 | hc10
    · replace h := bcT h hc10
      refine go ?_
      cases oi h
      exact ⟨⟨rfl, rfl, trivial⟩, hS4.pick [0] rfl rfl⟩
    replace h := bcF h hc10
    refine go ?_
    replace ⟨y11, hy11, h⟩ := obind h
    refine go ?_
    refine LW.c0 (W_i_isPart hy11) hS4 fun w12 hS5 => ?_
    refine go ?_
    rcases bcases (!y11) with hc13 | hc13
    · replace h := bcT h hc13
      refine go ?_
      cases oi h
      exact ⟨⟨rfl, rfl, trivial⟩, hS5.pick [0] rfl rfl⟩
    replace h := bcF h hc13
    refine go ?_
    replace ⟨y14, hy14, h⟩ := obind h
    refine go ?_
    refine LW.c0 (W_i_within hy14) hS5 fun w15 hS6 => ?_
    refine go ?_
    cases oi h
    exact ⟨⟨rfl, rfl, trivial⟩, hS6.pick [0] rfl rfl⟩
  intro e w16 hS7
  have h := h4
  refine go ?_
  refine cd (fun hc17 => ?_) fun hc17 => ?_
  · replace h := bcT h hc17
    refine go ?_
    cases h
    exact fi hS7
  replace h := bcF h hc17
  refine go ?_
  rcases bcases (x0.kind == 1) with hc18 | hc18
  · replace h := bcT h hc18
    refine go ?_
    replace ⟨y19, hy19, h⟩ := obind h
    refine go ?_
    refine LW.c0 (W_i_within hy19) hS7 fun w20 hS8 => ?_
    refine go ?_
    rcases bcases y19 with hc21 | hc21
    · replace h := bcT h hc21
      refine go ?_
      cases h
      exact fi hS8
    replace h := bcF h hc21
    refine go ?_
    rcases bcases (x0.kind == 2) with hc22 | hc22
    · replace h := bcT h hc22
      refine go ?_
      replace ⟨y23, hy23, h⟩ := obind h
      refine go ?_
      refine LW.c0 (W_i_within hy23) hS8 fun w24 hS9 => ?_
      refine go ?_
      cases h
      exact fi hS9
    replace h := bcF h hc22
    refine go ?_
    cases h
    exact fi hS8
  replace h := bcF h hc18
  refine go ?_
  rcases bcases (x0.kind == 2) with hc25 | hc25
  · replace h := bcT h hc25
    refine go ?_
    replace ⟨y26, hy26, h⟩ := obind h
    refine go ?_
    refine LW.c0 (W_i_within hy26) hS7 fun w27 hS10 => ?_
    refine go ?_
    cases h
    exact fi hS10
  replace h := bcF h hc25
  refine go ?_
  cases h
  exact fi hS7

theorem W_i_edgesOf {w0 : World} {N : Nat} {x0 : List DObj} {x1 : Int} {r : (List Int)} (h : F_i_edgesOf N x0 x1 = some r) {a0_0 : Option Addr} {n0_0 c0_0 : Nat} (hn0_0 : n0_0 = x0.length) (hr0_0 : rdS (Bor w0 []) w0 a0_0 c0_0 x0) :
    Ret Try.prog 83 #[.slice a0_0 n0_0 c0_0, .int .i64 x1] w0 (fun v w => ∃ ar0 cr0, v = .slice ar0 r.length cr0 ∧ St w0 [] w [sl ar0 cr0 r]) := by
  subst hn0_0
  unfold F_i_edgesOf at h
  refine Ret.fn Try.func83 fun e => ?_
  have hS1 := St.start w0
  refine go ?_
  refine LW.bsl (α := Int) (vs := []) (cs := #[]) (l := ([] : List Int)) rfl (by kernel_rfl) rfl rfl rfl (fun w => rfl) hS1 rfl ?_
  intro a1 c2 w3 hS2 hf
  refine go ?_
  obtain ⟨o82, ho82, h83⟩ := obind h
  refine CW.mono (CW.iter (σ := (List Int) × Int) (ρ := (List Int) × Int) (fun s4 e wb => ∃ (s4a0 : Option Addr), ∃ (s4c0 : Nat), En e [(0, .slice a0_0 x0.length c0_0), (1, .int .i64 x1), (5, .slice s4a0 s4.1.length s4c0), (10, .slice a0_0 x0.length c0_0), (11, .int .i64 (x0.length : Int)), (12, .int .i64 s4.2)] ∧ St w0 [] wb [sl s4a0 s4c0 s4.1]) (fun s4 x e wb => x = .exit 0 ∧ ∃ (s4a0 : Option Addr), ∃ (s4c0 : Nat), En e [(5, .slice s4a0 s4.1.length s4c0)] ∧ St w0 [] wb [sl s4a0 s4c0 s4.1]) ?_ N (([] : List Int), 0) _ _ _ ⟨a1, c2, ⟨rfl, rfl, rfl, rfl, rfl, rfl, trivial⟩, hS2.pick [0] rfl rfl⟩ ho82) ?_
  · intro s4 e w5 o hM h
    obtain ⟨s4a0, s4c0, hE, hS3⟩ := hM
    obtain ⟨e, rfl⟩ := hE.out
    refine go ?_
    refine cd (fun hc6 => ?_) fun hc6 => ?_
    · replace h := bcT h hc6
      refine go ?_
      replace ⟨y7, hy7, h⟩ := obind h
      obtain ⟨b10, o11, cs12, hae, hb15, hp8, hq9, hd13, hk14⟩ := hr0_0.idx hy7
      subst hae
      obtain ⟨a16, c17, a19, c20, a22, c23, rfl, hr18, hr21, hr24⟩ := hd13
      refine LW.u (Pur.ix Try.underlying33 sz84 rfl rfl hp8 hq9) rfl ?_
      refine LW.l (Ldr.oldN w0 ag84 rfl rfl (fun j u hu => hk14 j u hu)) (hS3.same _ hb15.1 hb15.2) rfl ?_
      refine LW.al hS3 fun g25 w26 hS4 => ?_
      refine go ?_
      refine LW.st hS4 0 fun w27 hS5 => ?_
      refine gs ?_
      obtain ⟨j28, hj28, h29⟩ := obind h
      refine CW.jn [0, 1, 5, 6, 10, 11, 12] [1] [(8, .bool j28)] hS5 (h1 := ?_) (h2 := ?_)
      · have h := hj28
        refine go ?_
        rcases bcases (decide (s4.2 > 0)) with hc30 | hc30
        · replace h := bcT h hc30
          refine go ?_
          rcases bcases (y7.kind != 0) with hc31 | hc31
          · replace h := bcT h hc31
            refine go ?_
            refine LW.fl [0, 1, 5, 6, 10, 11, 12, 30] fun e => ?_
            rcases bcases (y7.box == x1) with hc32 | hc32
            · replace h := bcT h hc32
              refine go ?_
              replace ⟨y33, hy33, h⟩ := obind h
              obtain ⟨b36, o37, cs38, hae, hb41, hp34, hq35, hd39, hk40⟩ := hr0_0.idx hy33
              cases hae
              obtain ⟨a42, c43, a45, c46, a48, c49, rfl, hr44, hr47, hr50⟩ := hd39
              refine go ?_
              refine LW.u (Pur.ix Try.underlying33 sz84 rfl rfl hp34 hq35) rfl ?_
              refine go ?_
              refine LW.l (Ldr.old w0 ag3 rfl (hk40 1 _ rfl)) (hS5.same _ hb41.1 hb41.2) rfl ?_
              refine go ?_
              cases oi h
              exact ⟨⟨rfl, rfl, rfl, rfl, rfl, rfl, rfl, rfl, trivial⟩, hS5.pick [1] rfl rfl⟩
            replace h := bcF h hc32
            refine go ?_
            cases oi h
            exact ⟨⟨rfl, rfl, rfl, rfl, rfl, rfl, rfl, rfl, trivial⟩, hS5.pick [1] rfl rfl⟩
          replace h := bcF h hc31
          refine go ?_
          cases oi h
          exact ⟨⟨rfl, rfl, rfl, rfl, rfl, rfl, rfl, rfl, trivial⟩, hS5.pick [1] rfl rfl⟩
        replace h := bcF h hc30
        refine go ?_
        cases oi h
        exact ⟨⟨rfl, rfl, rfl, rfl, rfl, rfl, rfl, rfl, trivial⟩, hS5.pick [1] rfl rfl⟩
      intro e w51 hS6
      have h := h29
      refine gs ?_
      obtain ⟨j52, hj52, h53⟩ := obind h
      refine CW.jn [0, 1, 5, 6, 10, 11, 12] [0] [(47, .bool j52)] hS6 (h1 := ?_) (h2 := ?_)
      · have h := hj52
        refine go ?_
        rcases bcases j28 with hc54 | hc54
        · replace h := bcT h hc54
          refine go ?_
          cases oi h
          exact ⟨⟨rfl, rfl, rfl, rfl, rfl, rfl, rfl, rfl, trivial⟩, hS6.pick [0] rfl rfl⟩
        replace h := bcF h hc54
        refine go ?_
        replace ⟨y55, hy55, h⟩ := obind h
        obtain ⟨b58, o59, cs60, hae, hb63, hp56, hq57, hd61, hk62⟩ := hr0_0.idx hy55
        cases hae
        obtain ⟨a64, c65, a67, c68, a70, c71, rfl, hr66, hr69, hr72⟩ := hd61
        refine go ?_
        refine LW.u (Pur.ix Try.underlying33 sz84 rfl rfl hp56 hq57) rfl ?_
        refine go ?_
        refine LW.l (Ldr.old w0 ag24 rfl (hk62 10 _ rfl)) (hS6.same _ hb63.1 hb63.2) rfl ?_
        refine go ?_
        replace ⟨y73, hy73, h⟩ := obind h
        refine go ?_
        refine LW.c0 (W_z_Contains_int hy73 rfl (hS6.rB hr66)) hS6 fun w74 hS7 => ?_
        refine go ?_
        cases oi h
        exact ⟨⟨rfl, rfl, rfl, rfl, rfl, rfl, rfl, rfl, trivial⟩, hS7.pick [0] rfl rfl⟩
      intro e w75 hS8
      have h := h53
      refine go ?_
      refine CW.fl [0, 1, 5, 6, 10, 11, 12, 47] fun e => ?_
      refine cd (fun hc76 => ?_) fun hc76 => ?_
      · replace h := bcT h hc76
        refine go ?_
        replace ⟨y77, hy77, h⟩ := obind h
        refine LW.app1 (M := []) (L := [sl s4a0 s4c0 s4.1]) (vs := #[.int .i64 s4.2]) (i := 0) sT24 rfl (by kernel_rfl) rfl rfl hy77 hS8 rfl (fun w G hG => by cases (show G = [] from hG); exact ⟨rfl, rfl⟩) rfl rfl ?_
        intro v80 a78 c79 w81 hS9 hf
        refine go ?_
        cases oi h
        exact ⟨rfl, ⟨a78, c79, ⟨rfl, rfl, rfl, rfl, rfl, rfl, trivial⟩, hS9.pick [0] rfl rfl⟩⟩
      replace h := bcF h hc76
      refine go ?_
      cases oi h
      exact ⟨rfl, ⟨s4a0, s4c0, ⟨rfl, rfl, rfl, rfl, rfl, rfl, trivial⟩, hS8.pick [0] rfl rfl⟩⟩
    replace h := bcF h hc6
    refine go ?_
    cases oi h
    exact ⟨trivial, rfl, ⟨s4a0, s4c0, ⟨rfl, trivial⟩, hS3.pick [0] rfl rfl⟩⟩
  intro x e w84 hM
  obtain ⟨rfl, hM⟩ := hM
  obtain ⟨s4a0, s4c0, hE, hS10⟩ := hM
  obtain ⟨e, rfl⟩ := hE.out
  have h := h83
  refine go ?_
  cases h
  exact And.intro trivial ⟨_, Res.one (resOne.t rfl), s4a0, s4c0, rfl, hS10.pick [0] rfl rfl⟩

theorem W_i_leadsUp {w0 : World} {N : Nat} {x0 : List DRes} {x1 : Int} {r : Bool} (h : F_i_leadsUp N x0 x1 = some r) {a0_0 : Option Addr} {n0_0 c0_0 : Nat} (hn0_0 : n0_0 = x0.length) (hr0_0 : rdS (Bor w0 []) w0 a0_0 c0_0 x0) :
    Ret Try.prog 80 #[.slice a0_0 n0_0 c0_0, .int .i64 x1] w0 (fun v w => v = .bool r ∧ St w0 [] w []) := by
  subst hn0_0
  unfold F_i_leadsUp at h
  refine Ret.fn Try.func80 fun e => ?_
  have hS1 := St.start w0
  refine go ?_
  obtain ⟨o17, ho17, h18⟩ := obind h
  refine CW.mono (CW.lx [0] [] [] 0 (fun s1 => [(1, .int .i64 s1.1), (5, .int .i64 s1.2)]) (RT Try.prog Try.f80.results (fun u => .bool u) w0 []) hS1 ho17 (hb := ?_)) ?_
  · intro s1 e w2 o hS2 h
    refine go ?_
    refine cd (fun hc3 => ?_) fun hc3 => ?_
    · replace h := bcT h hc3
      refine go ?_
      refine cd (fun hc4 => ?_) fun hc4 => ?_
      · replace h := bcT h hc4
        refine go ?_
        cases oi h
        exact ⟨trivial, rfl, _, rfl, ⟨_, Res.one (resOne.t rfl), rfl, hS2.pick [] rfl rfl⟩⟩
      replace h := bcF h hc4
      refine go ?_
      replace ⟨y5, hy5, h⟩ := obind h
      refine LW.c0 (W_i_isLive hy5 rfl (hS2.rB hr0_0)) hS2 fun w6 hS3 => ?_
      refine go ?_
      refine cd (fun hc7 => ?_) fun hc7 => ?_
      · replace h := bcT h hc7
        refine go ?_
        cases oi h
        exact ⟨trivial, rfl, _, rfl, ⟨_, Res.one (resOne.t rfl), rfl, hS3.pick [] rfl rfl⟩⟩
      replace h := bcF h hc7
      refine go ?_
      replace ⟨y8, hy8, h⟩ := obind h
      obtain ⟨b11, o12, cs13, hae, hb16, hp9, hq10, hd14, hk15⟩ := hr0_0.idx hy8
      subst hae
      obtain rfl := hd14
      refine LW.u (Pur.ix Try.underlying32 sz111 rfl rfl hp9 hq10) rfl ?_
      refine go ?_
      refine LW.l (Ldr.old w0 ag3 rfl (hk15 1 _ rfl)) (hS3.same _ hb16.1 hb16.2) rfl ?_
      refine go ?_
      cases oi h
      exact ⟨rfl, ⟨⟨rfl, rfl, rfl, trivial⟩, hS3.pick [] rfl rfl⟩⟩
    replace h := bcF h hc3
    refine go ?_
    cases oi h
    exact ⟨trivial, rfl, ⟨trivial, hS2.pick [] rfl rfl⟩⟩
  intro x e w19 hM
  rcases o17 with o17 | r20
  · obtain ⟨rfl, hM⟩ := hM
    obtain ⟨hE, hS4⟩ := hM
    obtain ⟨e, rfl⟩ := hE.out; rw [show e = upds e [] from rfl]
    have h := h18
    refine go ?_
    cases h
    exact fi hS4
  obtain ⟨rfl, u, rfl, hM⟩ := hM
  cases h18
  exact And.intro trivial hM

theorem W_i_ObjOk {w0 : World} {N : Nat} {x0 : DObj} {r : Bool} (h : F_i_ObjOk N x0 = some r) {a0_10 : Option Addr} {n0_10 c0_10 : Nat} (hn0_10 : n0_10 = x0.links.length) (hr0_10 : rdS (Bor w0 []) w0 a0_10 c0_10 x0.links) {a0_11 : Option Addr} {n0_11 c0_11 : Nat} (hn0_11 : n0_11 = x0.data.length) (hr0_11 : rdS (Bor w0 []) w0 a0_11 c0_11 x0.data) {a0_12 : Option Addr} {n0_12 c0_12 : Nat} (hn0_12 : n0_12 = x0.queue.length) (hr0_12 : rdS (Bor w0 []) w0 a0_12 c0_12 x0.queue) :
    Ret Try.prog 86 #[.agg #[.int .i64 x0.gen, .int .i64 x0.kind, .int .i64 x0.box, .int .i64 x0.res, .int .i64 x0.til, .int .i64 x0.pages, .int .i64 x0.wait, .int .i64 x0.got, .int .i64 x0.ran, .bool x0.mark, .slice a0_10 n0_10 c0_10, .slice a0_11 n0_11 c0_11, .slice a0_12 n0_12 c0_12]] w0 (fun v w => v = .bool r ∧ St w0 [] w []) := by
  subst hn0_10 hn0_11 hn0_12
  unfold F_i_ObjOk at h
  refine Ret.fn Try.func86 fun e => ?_
  have hS1 := St.start w0
  refine go ?_
  refine LW.bo hS1 fun g1 w2 hS2 => ?_
  refine gs ?_
  obtain ⟨j3, hj3, h4⟩ := obind h
  refine CW.jn [1] [0] [(12, .bool j3)] hS2 (h1 := ?_) (h2 := ?_)
  · have h := hj3
    refine go ?_
    replace ⟨y5, hy5, h⟩ := obind h
    refine LW.c0 (W_i_within hy5) hS2 fun w6 hS3 => ?_
    refine go ?_
    rcases bcases (!y5) with hc7 | hc7
    · replace h := bcT h hc7
      refine go ?_
      cases oi h
      exact ⟨⟨rfl, rfl, trivial⟩, hS3.pick [0] rfl rfl⟩
    replace h := bcF h hc7
    refine go ?_
    replace ⟨y8, hy8, h⟩ := obind h
    refine go ?_
    refine LW.c0 (W_i_within hy8) hS3 fun w9 hS4 => ?_
    refine go ?_
    cases oi h
    exact ⟨⟨rfl, rfl, trivial⟩, hS4.pick [0] rfl rfl⟩
  intro e w10 hS5
  have h := h4
  refine go ?_
  refine cd (fun hc11 => ?_) fun hc11 => ?_
  · replace h := bcT h hc11
    refine go ?_
    cases h
    exact fi hS5
  replace h := bcF h hc11
  refine go ?_
  refine cd (fun hc12 => ?_) fun hc12 => ?_
  · replace h := bcT h hc12
    refine go ?_
    refine LW.u (Pur.build (vs := [(0, .int .i64 x0.gen)]) (cs := #[.int .i64 x0.gen, .int .i64 0, .int .i64 0, .int .i64 0, .int .i64 0, .int .i64 0, .int .i64 0, .int .i64 0, .int .i64 0, .bool false, .slice none 0 0, .slice none 0 0, .slice none 0 0]) rfl (by kernel_rfl)) rfl ?_
    replace ⟨y13, hy13, h⟩ := obind h
    refine LW.c0 (W_i_sameObj hy13 rfl (hS5.rB hr0_10) rfl (hS5.rB hr0_11) rfl (hS5.rB hr0_12) rfl (show rdS (α := Int) (Bor w10 []) w10 none 0 [] from rdS.nil _ _ _ _ (Nat.zero_le _)) rfl (show rdS (α := Int) (Bor w10 []) w10 none 0 [] from rdS.nil _ _ _ _ (Nat.zero_le _)) rfl (show rdS (α := DMsg) (Bor w10 []) w10 none 0 [] from rdS.nil _ _ _ _ (Nat.zero_le _))) hS5 fun w14 hS6 => ?_
    refine go ?_
    cases h
    exact fi hS6
  replace h := bcF h hc12
  refine gs ?_
  obtain ⟨j15, hj15, h16⟩ := obind h
  refine CW.jn [1] [0] [(47, .bool j15)] hS5 (h1 := ?_) (h2 := ?_)
  · have h := hj15
    refine go ?_
    replace ⟨y17, hy17, h⟩ := obind h
    refine LW.c0 (W_i_within hy17) hS5 fun w18 hS7 => ?_
    refine go ?_
    rcases bcases (!y17) with hc19 | hc19
    · replace h := bcT h hc19
      refine go ?_
      cases oi h
      exact ⟨⟨rfl, rfl, trivial⟩, hS7.pick [0] rfl rfl⟩
    replace h := bcF h hc19
    refine go ?_
    replace ⟨y20, hy20, h⟩ := obind h
    refine go ?_
    refine LW.c0 (W_i_isPlace hy20) hS7 fun w21 hS8 => ?_
    refine go ?_
    rcases bcases (!y20) with hc22 | hc22
    · replace h := bcT h hc22
      refine go ?_
      cases oi h
      exact ⟨⟨rfl, rfl, trivial⟩, hS8.pick [0] rfl rfl⟩
    replace h := bcF h hc22
    refine go ?_
    replace ⟨y23, hy23, h⟩ := obind h
    refine go ?_
    refine LW.c0 (W_i_isTime hy23) hS8 fun w24 hS9 => ?_
    refine go ?_
    rcases bcases (!y23) with hc25 | hc25
    · replace h := bcT h hc25
      refine go ?_
      cases oi h
      exact ⟨⟨rfl, rfl, trivial⟩, hS9.pick [0] rfl rfl⟩
    replace h := bcF h hc25
    refine go ?_
    refine LW.fl [1, 37, 39] fun e => ?_
    replace ⟨y26, hy26, h⟩ := obind h
    refine go ?_
    refine LW.c0 (W_i_within hy26) hS9 fun w27 hS10 => ?_
    refine go ?_
    rcases bcases (!y26) with hc28 | hc28
    · replace h := bcT h hc28
      refine go ?_
      cases oi h
      exact ⟨⟨rfl, rfl, trivial⟩, hS10.pick [0] rfl rfl⟩
    replace h := bcF h hc28
    refine go ?_
    replace ⟨y29, hy29, h⟩ := obind h
    refine go ?_
    refine LW.c0 (W_i_listsOk hy29 rfl (hS10.rB hr0_10) rfl (hS10.rB hr0_11) rfl (hS10.rB hr0_12)) hS10 fun w30 hS11 => ?_
    refine go ?_
    cases oi h
    exact ⟨⟨rfl, rfl, trivial⟩, hS11.pick [0] rfl rfl⟩
  intro e w31 hS12
  have h := h16
  refine go ?_
  refine cd (fun hc32 => ?_) fun hc32 => ?_
  · replace h := bcT h hc32
    refine go ?_
    cases h
    exact fi hS12
  replace h := bcF h hc32
  refine go ?_
  refine cd (fun hc33 => ?_) fun hc33 => ?_
  · replace h := bcT h hc33
    refine gs ?_
    obtain ⟨j34, hj34, h35⟩ := obind h
    refine CW.jn [] [] [(2, .bool j34)] hS12 (h1 := ?_) (h2 := ?_)
    · have h := hj34
      refine go ?_
      rcases bcases (x0.wait == 0) with hc36 | hc36
      · replace h := bcT h hc36
        refine go ?_
        rcases bcases (x0.got == 0) with hc37 | hc37
        · replace h := bcT h hc37
          refine go ?_
          cases oi h
          exact ⟨⟨rfl, trivial⟩, hS12.pick [] rfl rfl⟩
        replace h := bcF h hc37
        refine go ?_
        cases oi h
        exact ⟨⟨rfl, trivial⟩, hS12.pick [] rfl rfl⟩
      replace h := bcF h hc36
      refine go ?_
      cases oi h
      exact ⟨⟨rfl, trivial⟩, hS12.pick [] rfl rfl⟩
    intro e w38 hS13
    have h := h35
    refine go ?_
    cases h
    exact fi hS13
  replace h := bcF h hc33
  refine go ?_
  rcases bcases (x0.wait == 0) with hc39 | hc39
  · replace h := bcT h hc39
    refine go ?_
    replace ⟨y40, hy40, h⟩ := obind h
    refine go ?_
    refine LW.c0 (W_i_within hy40) hS12 fun w41 hS14 => ?_
    refine go ?_
    rcases bcases y40 with hc42 | hc42
    · replace h := bcT h hc42
      refine go ?_
      refine LW.fl [78, 80] fun e => ?_
      replace ⟨y43, hy43, h⟩ := obind h
      refine go ?_
      refine LW.c0 (W_i_isTime hy43) hS14 fun w44 hS15 => ?_
      refine go ?_
      cases h
      exact fi hS15
    replace h := bcF h hc42
    refine go ?_
    cases h
    exact fi hS14
  replace h := bcF h hc39
  refine go ?_
  replace ⟨y45, hy45, h⟩ := obind h
  refine go ?_
  refine LW.c0 (W_i_isHandle hy45) hS12 fun w46 hS16 => ?_
  refine go ?_
  rcases bcases y45 with hc47 | hc47
  · replace h := bcT h hc47
    refine go ?_
    replace ⟨y48, hy48, h⟩ := obind h
    refine go ?_
    refine LW.c0 (W_i_within hy48) hS16 fun w49 hS17 => ?_
    refine go ?_
    refine LW.fl [1, 78] fun e => ?_
    rcases bcases y48 with hc50 | hc50
    · replace h := bcT h hc50
      refine go ?_
      replace ⟨y51, hy51, h⟩ := obind h
      refine go ?_
      refine LW.c0 (W_i_isTime hy51) hS17 fun w52 hS18 => ?_
      refine go ?_
      cases h
      exact fi hS18
    replace h := bcF h hc50
    refine go ?_
    cases h
    exact fi hS17
  replace h := bcF h hc47
  refine go ?_
  cases h
  exact fi hS16

theorem W_i_copyHeap {w0 : World} {N : Nat} {x0 : DHeap} {r : DHeap} (h : F_i_copyHeap N x0 = some r) {a0_0 : Option Addr} {n0_0 c0_0 : Nat} (hn0_0 : n0_0 = x0.arena.length) (hr0_0 : rdS (Bor w0 []) w0 a0_0 c0_0 x0.arena) {a0_4 : Option Addr} {n0_4 c0_4 : Nat} (hn0_4 : n0_4 = x0.gc.grey.length) (hr0_4 : rdS (Bor w0 []) w0 a0_4 c0_4 x0.gc.grey) :
    Ret Try.prog 74 #[.agg #[.slice a0_0 n0_0 c0_0, .int .i64 x0.gc.phase, .int .i64 x0.gc.pos, .int .i64 x0.gc.round, .slice a0_4 n0_4 c0_4]] w0 (fun v w => ∃ ar0_0 cr0_0, ∃ ar0_4 cr0_4, v = .agg #[.slice ar0_0 r.arena.length cr0_0, .int .i64 r.gc.phase, .int .i64 r.gc.pos, .int .i64 r.gc.round, .slice ar0_4 r.gc.grey.length cr0_4] ∧ St w0 [] w [sl ar0_0 cr0_0 r.arena, sl ar0_4 cr0_4 r.gc.grey]) := by
  subst hn0_0 hn0_4
  unfold F_i_copyHeap at h
  refine Ret.fn Try.func74 fun e => ?_
  have hS1 := St.start w0
  refine go ?_
  refine LW.bo hS1 fun g1 w2 hS2 => ?_
  refine LW.al hS2 fun g3 w4 hS3 => ?_
  refine gs ?_
  obtain ⟨j5, hj5, h6⟩ := obind h
  refine CW.cut (fun e wb => ∃ (j5g3 : Nat), ∃ (j5a1 : Option Addr), ∃ (j5c1 : Nat), En e [(1, .pointer (some ⟨g1, 0, none⟩)), (2, .pointer (some ⟨g3, 0, none⟩)), (3, .pointer (some ⟨j5g3, 0, none⟩))] ∧ St w0 [] wb [bx g3 37 [.slice none 0 0, .int .i64 0, .int .i64 0, .int .i64 0, .slice none 0 0], bx g1 37 [.slice a0_0 x0.arena.length c0_0, .int .i64 x0.gc.phase, .int .i64 x0.gc.pos, .int .i64 x0.gc.round, .slice a0_4 x0.gc.grey.length c0_4], bx j5g3 37 [.slice j5a1 j5.length j5c1, .int .i64 x0.gc.phase, .int .i64 x0.gc.pos, .int .i64 x0.gc.round, .slice a0_4 x0.gc.grey.length c0_4], sl j5a1 j5c1 j5]) ?_ ?_
  · have h := hj5
    refine CW.draw (by kernel_rfl) ?_
    have hS4 := hS3.drew
    refine go ?_
    replace ⟨y7, hy7, h⟩ := obind h
    refine AW.all (rs := [2, 6]) (by kernel_rfl) (by simp) ⟨?_, ?_, trivial⟩
    · have q := W_i_copyArena (w0 := w4.drew) hy7 rfl (hS4.rB hr0_0)
      refine ⟨_, rfl, ?_⟩
      refine LW.call pl71 rfl rfl ?_
      refine Ret.mono q ?_
      rintro _ w18 ⟨a16, c17, rfl, hs⟩
      have hS5 := hS4.add hs
      refine LW.nil ⟨rfl, (.c (St.cell (h := hS5) (i := 2) rfl) (.w (by kernel_rfl) Kept.n)), ?_⟩
      refine AW.u (i := 5) rfl (by kernel_rfl) rfl rfl (Pur.build (vs := [(0, .slice a16 y7.length c17), (1, .agg #[.int .i64 x0.gc.phase, .int .i64 x0.gc.pos, .int .i64 x0.gc.round, .slice a0_4 x0.gc.grey.length c0_4])]) (cs := #[.slice a16 y7.length c17, .int .i64 x0.gc.phase, .int .i64 x0.gc.pos, .int .i64 x0.gc.round, .slice a0_4 x0.gc.grey.length c0_4]) rfl (by kernel_rfl)) ?_
      refine AW.one (i := 6) (by kernel_rfl) ?_
      refine ⟨_, rfl, ?_⟩
      refine LW.al hS5 fun g19 w20 hS6 => ?_
      refine LW.nil ⟨rfl, (.c (St.cell (h := hS6) (i := 3) rfl) (.c (St.cell (h := hS6) (i := 3) rfl) Kept.n)), ?_⟩
      refine AW.one (i := 7) (by kernel_rfl) ?_
      refine ⟨_, rfl, ?_⟩
      refine LW.st hS6 0 fun w21 hS7 => ?_
      refine LW.nil ⟨rfl, (.w (by kernel_rfl) (.w (by kernel_rfl) Kept.n)), ?_⟩
      refine go ?_
      cases oi h
      exact ⟨g19, a16, c17, ⟨rfl, rfl, rfl, trivial⟩, hS7.pick [2, 3, 0, 1] rfl rfl⟩
    refine ⟨_, rfl, ?_⟩
    refine LW.al hS4 fun g22 w23 hS8 => ?_
    refine LW.nil ⟨rfl, (.c (St.cell (h := hS8) (i := 2) rfl) (.c (St.cell (h := hS8) (i := 2) rfl) Kept.n)), ?_⟩
    have q := W_i_copyArena (w0 := w23) hy7 rfl (hS8.rB hr0_0)
    refine AW.one (i := 2) (by kernel_rfl) ?_
    refine ⟨_, rfl, ?_⟩
    refine LW.call pl71 rfl rfl ?_
    refine Ret.mono q ?_
    rintro _ w26 ⟨a24, c25, rfl, hs⟩
    have hS9 := hS8.add hs
    refine LW.nil ⟨rfl, (.c (St.cell (h := hS9) (i := 3) rfl) (.w (by kernel_rfl) Kept.n)), ?_⟩
    refine AW.u (i := 5) rfl (by kernel_rfl) rfl rfl (Pur.build (vs := [(0, .slice a24 y7.length c25), (1, .agg #[.int .i64 x0.gc.phase, .int .i64 x0.gc.pos, .int .i64 x0.gc.round, .slice a0_4 x0.gc.grey.length c0_4])]) (cs := #[.slice a24 y7.length c25, .int .i64 x0.gc.phase, .int .i64 x0.gc.pos, .int .i64 x0.gc.round, .slice a0_4 x0.gc.grey.length c0_4]) rfl (by kernel_rfl)) ?_
    refine AW.one (i := 7) (by kernel_rfl) ?_
    refine ⟨_, rfl, ?_⟩
    refine LW.st hS9 1 fun w27 hS10 => ?_
    refine LW.nil ⟨rfl, (.w (by kernel_rfl) (.w (by kernel_rfl) Kept.n)), ?_⟩
    refine go ?_
    cases oi h
    exact ⟨g22, a24, c25, ⟨rfl, rfl, rfl, trivial⟩, hS10.pick [2, 3, 1, 0] rfl rfl⟩
  rintro e w28 ⟨j5g3, j5a1, j5c1, hE, hS11⟩
  obtain ⟨e, rfl⟩ := hE.out
  have h := h6
  refine go ?_
  replace ⟨y29, hy29, h⟩ := obind h
  refine LW.cl (W_i_copyInts hy29 rfl (hS11.rB hr0_4)) ?_
  rintro _ w32 ⟨a30, c31, rfl, hs⟩
  have hS12 := hS11.add hs
  refine go ?_
  refine LW.st hS12 3 fun w33 hS13 => ?_
  refine go ?_
  refine LW.st hS13 1 fun w34 hS14 => ?_
  refine go ?_
  cases h
  exact And.intro trivial ⟨_, Res.one (resOne.b hS14 1 rfl ag37 rfl rfl), j5a1, j5c1, a30, c31, rfl, hS14.pick [4, 0] rfl rfl⟩

theorem W_i_TreeOk {w0 : World} {N : Nat} {x0 : List DRes} {r : Bool} (h : F_i_TreeOk N x0 = some r) {a0_0 : Option Addr} {n0_0 c0_0 : Nat} (hn0_0 : n0_0 = x0.length) (hr0_0 : rdS (Bor w0 []) w0 a0_0 c0_0 x0) :
    Ret Try.prog 49 #[.slice a0_0 n0_0 c0_0] w0 (fun v w => v = .bool r ∧ St w0 [] w []) := by
  subst hn0_0
  unfold F_i_TreeOk at h
  refine Ret.fn Try.func49 fun e => ?_
  have hS1 := St.start w0
  refine gs ?_
  refine CW.region ?_
  refine gs ?_
  obtain ⟨j1, hj1, h2⟩ := obind h
  refine CW.jn [0] [] [(22, .bool j1)] hS1 (h1 := ?_) (h2 := ?_)
  · have h := hj1
    refine go ?_
    rcases bcases ((x0.length : Int) != 5) with hc3 | hc3
    · replace h := bcT h hc3
      refine go ?_
      cases oi h
      exact ⟨⟨rfl, rfl, trivial⟩, hS1.pick [] rfl rfl⟩
    replace h := bcF h hc3
    refine go ?_
    replace ⟨y4, hy4, h⟩ := obind h
    obtain ⟨b7, o8, cs9, hae, hb12, hp5, hq6, hd10, hk11⟩ := hr0_0.idx hy4
    subst hae
    obtain rfl := hd10
    refine go ?_
    refine LW.u (Pur.ix Try.underlying32 sz111 rfl rfl hp5 hq6) rfl ?_
    refine go ?_
    refine LW.l (Ldr.old w0 ag4 rfl (hk11 0 _ rfl)) (hS1.same _ hb12.1 hb12.2) rfl ?_
    refine go ?_
    rcases bcases (!y4.live) with hc13 | hc13
    · replace h := bcT h hc13
      refine go ?_
      cases oi h
      exact ⟨⟨rfl, rfl, trivial⟩, hS1.pick [] rfl rfl⟩
    replace h := bcF h hc13
    refine go ?_
    refine LW.u (Pur.ix Try.underlying32 sz111 rfl rfl hp5 hq6) rfl ?_
    refine go ?_
    refine LW.l (Ldr.old w0 ag3 rfl (hk11 1 _ rfl)) (hS1.same _ hb12.1 hb12.2) rfl ?_
    refine go ?_
    cases oi h
    exact ⟨⟨rfl, rfl, trivial⟩, hS1.pick [] rfl rfl⟩
  intro e w14 hS2
  have h := h2
  refine go ?_
  refine cd (fun hc15 => ?_) fun hc15 => ?_
  · replace h := bcT h hc15
    refine go ?_
    cases h
    exact fi hS2
  replace h := bcF h hc15
  refine go ?_
  refine LW.u (Pur.build (vs := []) (cs := #[.int .i64 0, .int .i64 0, .int .i64 0]) rfl (by kernel_rfl)) rfl ?_
  refine LW.al hS2 fun g16 w17 hS3 => ?_
  refine LW.st hS3 0 fun w18 hS4 => ?_
  refine go ?_
  obtain ⟨o48, ho48, h49⟩ := obind h
  refine CW.mono (CW.iter (σ := Int × Int × Int × Int) (ρ := (Int × Int × Int × Int) ⊕ Bool) (fun s19 e wb => En e [(0, .slice a0_0 x0.length c0_0), (3, .pointer (some ⟨g16, 0, none⟩)), (24, .slice a0_0 x0.length c0_0), (25, .int .i64 (x0.length : Int)), (26, .int .i64 s19.1)] ∧ St w0 [] wb [bx g16 28 [.int .i64 s19.2.1, .int .i64 s19.2.2.1, .int .i64 s19.2.2.2]]) (fun o x e wb => match o with | .inl s19 => x = .exit 0 ∧ En e [(3, .pointer (some ⟨g16, 0, none⟩))] ∧ St w0 [] wb [bx g16 28 [.int .i64 s19.2.1, .int .i64 s19.2.2.1, .int .i64 s19.2.2.2]] | .inr r => x = .ret ∧ ∃ u, u = r ∧ ∃ v, Res Try.prog Try.f49.results e wb v ∧ v = .bool u ∧ St w0 [] wb []) ?_ N (0, 0, 0, 0) _ _ _ ⟨⟨rfl, rfl, rfl, rfl, rfl, trivial⟩, hS4.pick [0] rfl rfl⟩ ho48) ?_
  · intro s19 e w20 o hM h
    obtain ⟨hE, hS5⟩ := hM
    obtain ⟨e, rfl⟩ := hE.out
    refine go ?_
    refine cd (fun hc21 => ?_) fun hc21 => ?_
    · replace h := bcT h hc21
      refine go ?_
      replace ⟨y22, hy22, h⟩ := obind h
      obtain ⟨b25, o26, cs27, hae, hb30, hp23, hq24, hd28, hk29⟩ := hr0_0.idx hy22
      subst hae
      obtain rfl := hd28
      refine LW.u (Pur.ix Try.underlying32 sz111 rfl rfl hp23 hq24) rfl ?_
      refine LW.l (Ldr.oldN w0 ag111 rfl rfl (fun j u hu => hk29 j u hu)) (hS5.same _ hb30.1 hb30.2) rfl ?_
      refine LW.al hS5 fun g31 w32 hS6 => ?_
      refine go ?_
      refine LW.st hS6 0 fun w33 hS7 => ?_
      refine go ?_
      refine CW.fl [0, 3, 4, 5, 24, 25, 26, 33] fun e => ?_
      refine cd (fun hc34 => ?_) fun hc34 => ?_
      · replace h := bcT h hc34
        refine go ?_
        refine LW.u (Pur.build (vs := []) (cs := #[.bool false, .int .i64 0, .int .i64 0, .int .i64 0, .int .i64 0]) rfl (by kernel_rfl)) rfl ?_
        refine LW.u (Pur.ane eg111 rfl rfl (fun w => eq111 y22 (DRes.mk false 0 (DAmt.mk 0 0 0)) w)) rfl ?_
        refine go ?_
        refine cd (fun hc35 => ?_) fun hc35 => ?_
        · replace h := bcT h hc35
          refine go ?_
          cases oi h
          exact ⟨trivial, rfl, _, rfl, ⟨_, Res.one (resOne.t rfl), rfl, hS7.pick [] rfl rfl⟩⟩
        replace h := bcF h hc35
        refine go ?_
        cases oi h
        exact ⟨rfl, ⟨⟨rfl, rfl, rfl, rfl, rfl, trivial⟩, hS7.pick [1] rfl rfl⟩⟩
      replace h := bcF h hc34
      refine gs ?_
      obtain ⟨j36, hj36, h37⟩ := obind h
      refine CW.jn [0, 3, 5, 24, 25, 26] [0, 1] [(46, .bool j36)] hS7 (h1 := ?_) (h2 := ?_)
      · have h := hj36
        refine go ?_
        replace ⟨y38, hy38, h⟩ := obind h
        refine LW.c0 (W_i_AmtOk hy38) hS7 fun w39 hS8 => ?_
        refine go ?_
        rcases bcases (!y38) with hc40 | hc40
        · replace h := bcT h hc40
          refine go ?_
          cases oi h
          exact ⟨⟨rfl, rfl, rfl, rfl, rfl, rfl, rfl, trivial⟩, hS8.pick [0, 1] rfl rfl⟩
        replace h := bcF h hc40
        refine go ?_
        replace ⟨y41, hy41, h⟩ := obind h
        refine go ?_
        refine LW.c0 (W_i_leadsUp hy41 rfl (hS8.rB hr0_0)) hS8 fun w42 hS9 => ?_
        refine go ?_
        cases oi h
        exact ⟨⟨rfl, rfl, rfl, rfl, rfl, rfl, rfl, trivial⟩, hS9.pick [0, 1] rfl rfl⟩
      intro e w43 hS10
      have h := h37
      refine go ?_
      refine cd (fun hc44 => ?_) fun hc44 => ?_
      · replace h := bcT h hc44
        refine go ?_
        cases oi h
        exact ⟨trivial, rfl, _, rfl, ⟨_, Res.one (resOne.t rfl), rfl, hS10.pick [] rfl rfl⟩⟩
      replace h := bcF h hc44
      refine go ?_
      replace ⟨y45, hy45, h⟩ := obind h
      refine LW.c0 (W_i_sumOf hy45) hS10 fun w46 hS11 => ?_
      refine LW.st hS11 1 fun w47 hS12 => ?_
      refine go ?_
      cases oi h
      exact ⟨rfl, ⟨⟨rfl, rfl, rfl, rfl, rfl, trivial⟩, hS12.pick [1] rfl rfl⟩⟩
    replace h := bcF h hc21
    refine go ?_
    cases oi h
    exact ⟨trivial, rfl, ⟨⟨rfl, trivial⟩, hS5.pick [0] rfl rfl⟩⟩
  intro x e w50 hM
  rcases o48 with o48 | r53
  · obtain ⟨rfl, hM⟩ := hM
    obtain ⟨hE, hS13⟩ := hM
    obtain ⟨e, rfl⟩ := hE.out
    have h := h49
    refine go ?_
    replace ⟨y51, hy51, h⟩ := obind h
    refine LW.c0 (W_i_AmtOk hy51) hS13 fun w52 hS14 => ?_
    refine go ?_
    cases h
    exact fi hS14
  obtain ⟨rfl, u, rfl, hM⟩ := hM
  cases h49
  exact And.intro trivial hM

theorem W_i_ArenaOk {w0 : World} {N : Nat} {x0 : List DObj} {r : Bool} (h : F_i_ArenaOk N x0 = some r) {a0_0 : Option Addr} {n0_0 c0_0 : Nat} (hn0_0 : n0_0 = x0.length) (hr0_0 : rdS (Bor w0 []) w0 a0_0 c0_0 x0) :
    Ret Try.prog 72 #[.slice a0_0 n0_0 c0_0] w0 (fun v w => v = .bool r ∧ St w0 [] w []) := by
  subst hn0_0
  unfold F_i_ArenaOk at h
  refine Ret.fn Try.func72 fun e => ?_
  have hS1 := St.start w0
  refine gs ?_
  refine CW.region ?_
  refine gs ?_
  obtain ⟨j1, hj1, h2⟩ := obind h
  refine CW.jn [0] [] [(30, .bool j1)] hS1 (h1 := ?_) (h2 := ?_)
  · have h := hj1
    refine go ?_
    rcases bcases ((x0.length : Int) != 10) with hc3 | hc3
    · replace h := bcT h hc3
      refine go ?_
      cases oi h
      exact ⟨⟨rfl, rfl, trivial⟩, hS1.pick [] rfl rfl⟩
    replace h := bcF h hc3
    refine go ?_
    replace ⟨y4, hy4, h⟩ := obind h
    obtain ⟨b7, o8, cs9, hae, hb12, hp5, hq6, hd10, hk11⟩ := hr0_0.idx hy4
    subst hae
    obtain ⟨a13, c14, a16, c17, a19, c20, rfl, hr15, hr18, hr21⟩ := hd10
    refine go ?_
    refine LW.u (Pur.ix Try.underlying33 sz84 rfl rfl hp5 hq6) rfl ?_
    refine go ?_
    refine LW.l (Ldr.old w0 ag3 rfl (hk11 1 _ rfl)) (hS1.same _ hb12.1 hb12.2) rfl ?_
    refine go ?_
    rcases bcases (y4.kind != 1) with hc22 | hc22
    · replace h := bcT h hc22
      refine go ?_
      cases oi h
      exact ⟨⟨rfl, rfl, trivial⟩, hS1.pick [] rfl rfl⟩
    replace h := bcF h hc22
    refine go ?_
    refine LW.u (Pur.ix Try.underlying33 sz84 rfl rfl hp5 hq6) rfl ?_
    refine go ?_
    refine LW.l (Ldr.old w0 ag3 rfl (hk11 2 _ rfl)) (hS1.same _ hb12.1 hb12.2) rfl ?_
    refine go ?_
    rcases bcases (y4.box != (-1)) with hc23 | hc23
    · replace h := bcT h hc23
      refine go ?_
      cases oi h
      exact ⟨⟨rfl, rfl, trivial⟩, hS1.pick [] rfl rfl⟩
    replace h := bcF h hc23
    refine go ?_
    refine LW.u (Pur.ix Try.underlying33 sz84 rfl rfl hp5 hq6) rfl ?_
    refine go ?_
    refine LW.fl [0, 24, 27] fun e => ?_
    refine go ?_
    refine LW.l (Ldr.old w0 ag3 rfl (hk11 4 _ rfl)) (hS1.same _ hb12.1 hb12.2) rfl ?_
    refine go ?_
    cases oi h
    exact ⟨⟨rfl, rfl, trivial⟩, hS1.pick [] rfl rfl⟩
  intro e w24 hS2
  have h := h2
  refine go ?_
  refine cd (fun hc25 => ?_) fun hc25 => ?_
  · replace h := bcT h hc25
    refine go ?_
    cases h
    exact fi hS2
  replace h := bcF h hc25
  refine go ?_
  obtain ⟨o117, ho117, h118⟩ := obind h
  refine CW.mono (CW.lx [0, 31, 32] [] [] 0 (fun s26 => [(33, .int .i64 s26)]) (RT Try.prog Try.f72.results (fun u => .bool u) w0 []) hS2 ho117 (hb := ?_)) ?_
  · intro s26 e w27 o hS3 h
    refine go ?_
    refine cd (fun hc28 => ?_) fun hc28 => ?_
    · replace h := bcT h hc28
      refine go ?_
      replace ⟨y29, hy29, h⟩ := obind h
      obtain ⟨b32, o33, cs34, hae, hb37, hp30, hq31, hd35, hk36⟩ := hr0_0.idx hy29
      subst hae
      obtain ⟨a38, c39, a41, c42, a44, c45, rfl, hr40, hr43, hr46⟩ := hd35
      refine LW.u (Pur.ix Try.underlying33 sz84 rfl rfl hp30 hq31) rfl ?_
      refine LW.l (Ldr.oldN w0 ag84 rfl rfl (fun j u hu => hk36 j u hu)) (hS3.same _ hb37.1 hb37.2) rfl ?_
      refine LW.al hS3 fun g47 w48 hS4 => ?_
      refine go ?_
      refine LW.st hS4 0 fun w49 hS5 => ?_
      refine gs ?_
      obtain ⟨j50, hj50, h51⟩ := obind h
      refine CW.jn [0, 4, 31, 32, 33] [0] [(63, .bool j50)] hS5 (h1 := ?_) (h2 := ?_)
      · have h := hj50
        refine go ?_
        replace ⟨y52, hy52, h⟩ := obind h
        refine LW.c0 (W_i_ObjOk hy52 rfl (hS5.rB hr40) rfl (hS5.rB hr43) rfl (hS5.rB hr46)) hS5 fun w53 hS6 => ?_
        refine go ?_
        rcases bcases (!y52) with hc54 | hc54
        · replace h := bcT h hc54
          refine go ?_
          cases oi h
          exact ⟨⟨rfl, rfl, rfl, rfl, rfl, rfl, trivial⟩, hS6.pick [0] rfl rfl⟩
        replace h := bcF h hc54
        refine go ?_
        rcases bcases (decide (s26 > 0)) with hc55 | hc55
        · replace h := bcT h hc55
          refine go ?_
          refine LW.fl [0, 4, 31, 32, 33, 41, 49] fun e => ?_
          rcases bcases (y29.kind != 0) with hc56 | hc56
          · replace h := bcT h hc56
            refine go ?_
            rcases bcases (decide (y29.box ≥ 0)) with hc57 | hc57
            · replace h := bcT h hc57
              refine go ?_
              replace ⟨y58, hy58, h⟩ := obind h
              obtain ⟨b61, o62, cs63, hae, hb66, hp59, hq60, hd64, hk65⟩ := hr0_0.idx hy58
              cases hae
              obtain ⟨a67, c68, a70, c71, a73, c74, rfl, hr69, hr72, hr75⟩ := hd64
              refine go ?_
              refine LW.u (Pur.ix Try.underlying33 sz84 rfl rfl hp59 hq60) rfl ?_
              refine go ?_
              refine LW.l (Ldr.old w0 ag3 rfl (hk65 1 _ rfl)) (hS6.same _ hb66.1 hb66.2) rfl ?_
              refine go ?_
              cases oi h
              exact ⟨⟨rfl, rfl, rfl, rfl, rfl, rfl, trivial⟩, hS6.pick [0] rfl rfl⟩
            replace h := bcF h hc57
            refine go ?_
            cases oi h
            exact ⟨⟨rfl, rfl, rfl, rfl, rfl, rfl, trivial⟩, hS6.pick [0] rfl rfl⟩
          replace h := bcF h hc56
          refine go ?_
          cases oi h
          exact ⟨⟨rfl, rfl, rfl, rfl, rfl, rfl, trivial⟩, hS6.pick [0] rfl rfl⟩
        replace h := bcF h hc55
        refine go ?_
        cases oi h
        exact ⟨⟨rfl, rfl, rfl, rfl, rfl, rfl, trivial⟩, hS6.pick [0] rfl rfl⟩
      intro e w76 hS7
      have h := h51
      refine go ?_
      refine cd (fun hc77 => ?_) fun hc77 => ?_
      · replace h := bcT h hc77
        refine go ?_
        cases oi h
        exact ⟨trivial, rfl, _, rfl, ⟨_, Res.one (resOne.t rfl), rfl, hS7.pick [] rfl rfl⟩⟩
      replace h := bcF h hc77
      refine go ?_
      obtain ⟨o113, ho113, h114⟩ := obind h
      refine CW.mono (CW.lx [0, 31, 32, 33, 65, 66] [] [0, 31, 32, 33] 2 (fun s78 => [(67, .int .i64 s78)]) (RT Try.prog Try.f72.results (fun u => .bool u) w0 []) hS7 ho113 (hb := ?_)) ?_
      · intro s78 e w79 o hS8 h
        refine go ?_
        refine CW.fl [0, 31, 32, 33, 65, 66, 67, 68] fun e => ?_
        refine cd (fun hc80 => ?_) fun hc80 => ?_
        · replace h := bcT h hc80
          refine go ?_
          replace ⟨y81, hy81, h⟩ := obind h
          obtain ⟨b84, o85, cs86, hae, hb89, hp82, hq83, hd87, hk88⟩ := hr40.idx hy81
          subst hae
          obtain rfl := hd87
          refine LW.u (Pur.ix Try.underlying24 sz3 rfl rfl hp82 hq83) rfl ?_
          refine LW.l (Ldr.old w0 ag3 rfl (hk88 0 _ rfl)) (hS8.same _ hb89.1 hb89.2) rfl ?_
          refine gs ?_
          obtain ⟨j90, hj90, h91⟩ := obind h
          refine CW.jn [0, 31, 32, 33, 65, 66, 67] [] [(80, .bool j90)] hS8 (h1 := ?_) (h2 := ?_)
          · have h := hj90
            refine go ?_
            rcases bcases (decide (y81 ≥ 0)) with hc92 | hc92
            · replace h := bcT h hc92
              refine go ?_
              replace ⟨y93, hy93, h⟩ := obind h
              obtain ⟨b96, o97, cs98, hae, hb101, hp94, hq95, hd99, hk100⟩ := hr0_0.idx hy93
              cases hae
              obtain ⟨a102, c103, a105, c106, a108, c109, rfl, hr104, hr107, hr110⟩ := hd99
              refine go ?_
              refine LW.u (Pur.ix Try.underlying33 sz84 rfl rfl hp94 hq95) rfl ?_
              refine go ?_
              refine LW.l (Ldr.old w0 ag3 rfl (hk100 1 _ rfl)) (hS8.same _ hb101.1 hb101.2) rfl ?_
              refine go ?_
              cases oi h
              exact ⟨⟨rfl, rfl, rfl, rfl, rfl, rfl, rfl, rfl, trivial⟩, hS8.pick [] rfl rfl⟩
            replace h := bcF h hc92
            refine go ?_
            cases oi h
            exact ⟨⟨rfl, rfl, rfl, rfl, rfl, rfl, rfl, rfl, trivial⟩, hS8.pick [] rfl rfl⟩
          intro e w111 hS9
          have h := h91
          refine go ?_
          refine cd (fun hc112 => ?_) fun hc112 => ?_
          · replace h := bcT h hc112
            refine go ?_
            cases oi h
            exact ⟨trivial, rfl, _, rfl, ⟨_, Res.one (resOne.t rfl), rfl, hS9.pick [] rfl rfl⟩⟩
          replace h := bcF h hc112
          refine go ?_
          cases oi h
          exact ⟨rfl, ⟨⟨rfl, rfl, rfl, rfl, rfl, rfl, rfl, trivial⟩, hS9.pick [] rfl rfl⟩⟩
        replace h := bcF h hc80
        refine go ?_
        cases oi h
        exact ⟨trivial, rfl, ⟨⟨rfl, rfl, rfl, rfl, trivial⟩, hS8.pick [] rfl rfl⟩⟩
      intro x e w115 hM
      rcases o113 with o113 | r116
      · obtain ⟨rfl, hM⟩ := hM
        obtain ⟨hE, hS10⟩ := hM
        obtain ⟨e, rfl⟩ := hE.out
        have h := h114
        refine go ?_
        cases oi h
        exact ⟨rfl, ⟨⟨rfl, rfl, rfl, rfl, trivial⟩, hS10.pick [] rfl rfl⟩⟩
      obtain ⟨rfl, u, rfl, hM⟩ := hM
      cases h114
      exact ⟨trivial, rfl, _, rfl, hM⟩
    replace h := bcF h hc28
    refine go ?_
    cases oi h
    exact ⟨trivial, rfl, ⟨trivial, hS3.pick [] rfl rfl⟩⟩
  intro x e w119 hM
  rcases o117 with o117 | r120
  · obtain ⟨rfl, hM⟩ := hM
    obtain ⟨hE, hS11⟩ := hM
    obtain ⟨e, rfl⟩ := hE.out; rw [show e = upds e [] from rfl]
    have h := h118
    refine go ?_
    cases h
    exact fi hS11
  obtain ⟨rfl, u, rfl, hM⟩ := hM
  cases h118
  exact And.intro trivial hM

theorem W_i_firstThings {w0 : World} {N : Nat} {x0 : DPart} {r : (List DObjP)} (h : F_i_firstThings N x0 = some r) {a0_0 : Option Addr} {n0_0 c0_0 : Nat} (hn0_0 : n0_0 = x0.label.levels.length) (hr0_0 : rdS (Bor w0 []) w0 a0_0 c0_0 x0.label.levels) {a0_1 : Option Addr} {n0_1 c0_1 : Nat} (hn0_1 : n0_1 = x0.own.length) (hr0_1 : rdS (Bor w0 []) w0 a0_1 c0_1 x0.own) {a0_2 : Option Addr} {n0_2 c0_2 : Nat} (hn0_2 : n0_2 = x0.tree.length) (hr0_2 : rdS (Bor w0 []) w0 a0_2 c0_2 x0.tree) {a0_3 : Option Addr} {n0_3 c0_3 : Nat} (hn0_3 : n0_3 = x0.heap.arena.length) (hr0_3 : rdS (Bor w0 []) w0 a0_3 c0_3 x0.heap.arena) {a0_7 : Option Addr} {n0_7 c0_7 : Nat} (hn0_7 : n0_7 = x0.heap.gc.grey.length) (hr0_7 : rdS (Bor w0 []) w0 a0_7 c0_7 x0.heap.gc.grey) {a0_8 : Option Addr} {n0_8 c0_8 : Nat} (hn0_8 : n0_8 = x0.taps.length) (hr0_8 : rdS (Bor w0 []) w0 a0_8 c0_8 x0.taps) :
    Ret Try.prog 62 #[.agg #[.slice a0_0 n0_0 c0_0, .slice a0_1 n0_1 c0_1, .slice a0_2 n0_2 c0_2, .slice a0_3 n0_3 c0_3, .int .i64 x0.heap.gc.phase, .int .i64 x0.heap.gc.pos, .int .i64 x0.heap.gc.round, .slice a0_7 n0_7 c0_7, .slice a0_8 n0_8 c0_8, .int .i64 x0.next, .int .i64 x0.want, .int .i64 x0.spent.pages, .int .i64 x0.spent.rent, .int .i64 x0.spent.cpu, .int .i64 x0.press, .int .i64 x0.lost]] w0 (fun v w => ∃ ar0 cr0, v = .slice ar0 r.length cr0 ∧ St w0 [] w [sl ar0 cr0 r]) := by
  subst hn0_0 hn0_1 hn0_2 hn0_3 hn0_7 hn0_8
  unfold F_i_firstThings at h
  refine Ret.fn Try.func62 fun e => ?_
  have hS1 := St.start w0
  refine go ?_
  refine LW.bo hS1 fun g1 w2 hS2 => ?_
  refine go ?_
  refine LW.bsl (α := DObjP) (vs := []) (cs := #[]) (l := ([] : List DObjP)) rfl (by kernel_rfl) rfl rfl rfl (fun w => rfl) hS2 rfl ?_
  intro a3 c4 w5 hS3 hf
  refine go ?_
  refine LW.u (Pur.min rfl rfl) rfl ?_
  replace ⟨y6, hy6, h⟩ := obind h
  obtain ⟨a7, c8, he9, he10, hr11⟩ := rdS.sub' hr0_3 hy6
  have hle12 := (hr0_3).le
  refine LW.u (Pur.sub (α := DObj) (l := x0.heap.arena) Try.underlying33 sz84 rfl bndN (bndS rfl) hy6 hle12 he9 he10) rfl ?_
  refine go ?_
  obtain ⟨o45, ho45, h46⟩ := obind h
  refine CW.mono (CW.iter (σ := (List DObjP) × Int) (ρ := (List DObjP) × Int) (fun s13 e wb => ∃ (s13a0 : Option Addr), ∃ (s13c0 : Nat), En e [(3, .slice s13a0 s13.1.length s13c0), (15, .slice a7 y6.length c8), (16, .int .i64 (y6.length : Int)), (17, .int .i64 s13.2)] ∧ St w0 [] wb [sl s13a0 s13c0 s13.1]) (fun s13 x e wb => x = .exit 0 ∧ ∃ (s13a0 : Option Addr), ∃ (s13c0 : Nat), En e [(3, .slice s13a0 s13.1.length s13c0)] ∧ St w0 [] wb [sl s13a0 s13c0 s13.1]) ?_ N (([] : List DObjP), 0) _ _ _ ⟨a3, c4, ⟨rfl, rfl, rfl, rfl, trivial⟩, hS3.pick [0] rfl rfl⟩ ho45) ?_
  · intro s13 e w14 o hM h
    obtain ⟨s13a0, s13c0, hE, hS4⟩ := hM
    obtain ⟨e, rfl⟩ := hE.out
    refine go ?_
    refine CW.fl [3, 15, 16, 17, 18] fun e => ?_
    refine cd (fun hc15 => ?_) fun hc15 => ?_
    · replace h := bcT h hc15
      refine go ?_
      replace ⟨y16, hy16, h⟩ := obind h
      obtain ⟨b19, o20, cs21, hae, hb24, hp17, hq18, hd22, hk23⟩ := hr11.idx hy16
      subst hae
      obtain ⟨a25, c26, a28, c29, a31, c32, rfl, hr27, hr30, hr33⟩ := hd22
      refine LW.u (Pur.ix Try.underlying33 sz84 rfl rfl hp17 hq18) rfl ?_
      refine LW.l (Ldr.oldN w0 ag84 rfl rfl (fun j u hu => hk23 j u hu)) (hS4.same _ hb24.1 hb24.2) rfl ?_
      refine LW.al hS4 fun g34 w35 hS5 => ?_
      refine LW.st hS5 0 fun w36 hS6 => ?_
      refine go ?_
      replace ⟨y37, hy37, h⟩ := obind h
      refine LW.c0 (W_i_ObjOk hy37 rfl (hS6.rB hr27) rfl (hS6.rB hr30) rfl (hS6.rB hr33)) hS6 fun w38 hS7 => ?_
      refine go ?_
      refine cd (fun hc39 => ?_) fun hc39 => ?_
      · replace h := bcT h hc39
        refine go ?_
        replace ⟨y40, hy40, h⟩ := obind h
        refine LW.app1 (M := []) (L := [bx g34 84 [.int .i64 y16.gen, .int .i64 y16.kind, .int .i64 y16.box, .int .i64 y16.res, .int .i64 y16.til, .int .i64 y16.pages, .int .i64 y16.wait, .int .i64 y16.got, .int .i64 y16.ran, .bool y16.mark, .slice a25 y16.links.length c26, .slice a28 y16.data.length c29, .slice a31 y16.queue.length c32], sl s13a0 s13c0 s13.1]) (vs := #[.int .i64 y16.gen, .int .i64 y16.kind, .int .i64 y16.box, .int .i64 y16.res, .int .i64 y16.til, .int .i64 y16.pages, .int .i64 y16.wait, .int .i64 y16.got, .int .i64 y16.ran, .bool y16.mark, .slice a25 y16.links.length c26, .slice a28 y16.data.length c29, .slice a31 y16.queue.length c32]) (i := 1) sTP33 rfl (by kernel_rfl) rfl rfl hy40 hS7 rfl (fun w G hG => by cases (show G = [] from hG); exact ⟨⟨_, _, _, _, _, _, _, _, _, rfl⟩, rfl⟩) rfl rfl ?_
        intro v43 a41 c42 w44 hS8 hf
        refine go ?_
        cases oi h
        exact ⟨rfl, ⟨a41, c42, ⟨rfl, rfl, rfl, rfl, trivial⟩, hS8.pick [1] rfl rfl⟩⟩
      replace h := bcF h hc39
      refine go ?_
      cases oi h
      exact ⟨rfl, ⟨s13a0, s13c0, ⟨rfl, rfl, rfl, rfl, trivial⟩, hS7.pick [1] rfl rfl⟩⟩
    replace h := bcF h hc15
    refine go ?_
    cases oi h
    exact ⟨trivial, rfl, ⟨s13a0, s13c0, ⟨rfl, trivial⟩, hS4.pick [0] rfl rfl⟩⟩
  intro x e w47 hM
  obtain ⟨rfl, hM⟩ := hM
  obtain ⟨s13a0, s13c0, hE, hS9⟩ := hM
  obtain ⟨e, rfl⟩ := hE.out
  have h := h46
  refine go ?_
  cases h
  exact And.intro trivial ⟨_, Res.one (resOne.t rfl), s13a0, s13c0, rfl, hS9.pick [0] rfl rfl⟩

theorem W_i_TreeNew {w0 : World} {N : Nat} {x0 : DAmt} {r : (List DRes) × Bool} (h : F_i_TreeNew N x0 = some r) :
    Ret Try.prog 33 #[.agg #[.int .i64 x0.pages, .int .i64 x0.rent, .int .i64 x0.cpu]] w0 (fun v w => ∃ ar0 cr0, v = .tuple #[.slice ar0 r.1.length cr0, .bool r.2] ∧ St w0 [] w [sl ar0 cr0 r.1]) := by
  unfold F_i_TreeNew at h
  refine Ret.fn Try.func33 fun e => ?_
  have hS1 := St.start w0
  refine go ?_
  refine LW.bo hS1 fun g1 w2 hS2 => ?_
  refine go ?_
  replace ⟨y3, hy3, h⟩ := obind h
  refine LW.mk sT32 rfl rfl hy3 hS2 rfl ?_
  intro a4 c5 w6 hS3 hf
  refine go ?_
  refine LW.u (Pur.build (vs := [(0, .bool true), (1, .int .i64 (-1)), (2, .agg #[.int .i64 x0.pages, .int .i64 x0.rent, .int .i64 x0.cpu])]) (cs := #[.bool true, .int .i64 (-1), .int .i64 x0.pages, .int .i64 x0.rent, .int .i64 x0.cpu]) rfl (by kernel_rfl)) rfl ?_
  replace ⟨y7, hy7, h⟩ := obind h
  obtain ⟨b10, o11, hae, hp8, hq9⟩ := hS3.ownIdx (α := DRes) (i := 0) rfl hy7
  subst hae
  refine LW.u (Pur.ix Try.underlying32 sz111 rfl rfl hp8 hq9) rfl ?_
  replace ⟨y12, hy12, h⟩ := obind h
  refine LW.stE (M := []) (L := [sl (some ⟨b10, o11, none⟩) c5 y3, bx g1 28 [.int .i64 x0.pages, .int .i64 x0.rent, .int .i64 x0.cpu]]) (z := y7) (z' := (DRes.mk true (-1) x0)) (o := 0) hS3 (i := 0) rfl hy7 ag111 rfl (by show _ = o11 + (0 : Int).toNat * 5 + 0; omega) rfl rfl rfl rfl (whole (fun w G hG => by cases (show G = [] from hG); exact ⟨rfl, rfl⟩)) ?_
  intro w13 hS4 hf
  rw [Option.some.inj hy12] at hS4
  refine go ?_
  replace ⟨y14, hy14, h⟩ := obind h
  refine LW.c0 (W_i_TreeOk hy14 (show y3.length = y12.length from (len_set (Option.some.inj hy12))) (hS4.rI 0 rfl)) hS4 fun w15 hS5 => ?_
  refine go ?_
  refine CW.fl [4, 12] fun e => ?_
  refine cd (fun hc16 => ?_) fun hc16 => ?_
  · replace h := bcT h hc16
    refine go ?_
    cases h
    have hS6 := hS5.nil (α := DRes)
    exact And.intro trivial ⟨_, Res.two (resOne.t rfl) (resOne.t rfl), none, 0, rfl, hS6.pick [0] rfl rfl⟩
  replace h := bcF h hc16
  refine go ?_
  replace h := Option.some.inj h
  subst h
  exact And.intro trivial ⟨_, Res.two (resOne.t rfl) (resOne.t rfl), (some ⟨b10, o11, none⟩), c5, (show (.tuple #[.slice (some ⟨b10, o11, none⟩) y3.length c5, .bool true] : Value) = .tuple #[.slice (some ⟨b10, o11, none⟩) y12.length c5, .bool true] by rw [show y3.length = y12.length from (len_set (Option.some.inj hy12))]), hS5.pick [0] rfl rfl⟩

theorem W_i_ArenaPut {w0 : World} {N : Nat} {x0 : List DObj} {x1 : DObj} {r : (List DObj) × Int} (h : F_i_ArenaPut N x0 x1 = some r) {a0_0 : Option Addr} {n0_0 c0_0 : Nat} (hn0_0 : n0_0 = x0.length) (hr0_0 : rdS (Bor w0 []) w0 a0_0 c0_0 x0) {a1_10 : Option Addr} {n1_10 c1_10 : Nat} (hn1_10 : n1_10 = x1.links.length) (hr1_10 : rdS (Bor w0 []) w0 a1_10 c1_10 x1.links) {a1_11 : Option Addr} {n1_11 c1_11 : Nat} (hn1_11 : n1_11 = x1.data.length) (hr1_11 : rdS (Bor w0 []) w0 a1_11 c1_11 x1.data) {a1_12 : Option Addr} {n1_12 c1_12 : Nat} (hn1_12 : n1_12 = x1.queue.length) (hr1_12 : rdS (Bor w0 []) w0 a1_12 c1_12 x1.queue) :
    Ret Try.prog 36 #[.slice a0_0 n0_0 c0_0, .agg #[.int .i64 x1.gen, .int .i64 x1.kind, .int .i64 x1.box, .int .i64 x1.res, .int .i64 x1.til, .int .i64 x1.pages, .int .i64 x1.wait, .int .i64 x1.got, .int .i64 x1.ran, .bool x1.mark, .slice a1_10 n1_10 c1_10, .slice a1_11 n1_11 c1_11, .slice a1_12 n1_12 c1_12]] w0 (fun v w => ∃ ar0 cr0, v = .tuple #[.slice ar0 r.1.length cr0, .int .i64 r.2] ∧ St w0 [] w [sl ar0 cr0 r.1]) := by
  subst hn0_0 hn1_10 hn1_11 hn1_12
  unfold F_i_ArenaPut at h
  refine Ret.fn Try.func36 fun e => ?_
  have hS1 := St.start w0
  refine go ?_
  refine LW.bo hS1 fun g1 w2 hS2 => ?_
  refine go ?_
  replace ⟨y3, hy3, h⟩ := obind h
  refine LW.cl (W_i_copyArena hy3 rfl (hS2.rB hr0_0)) ?_
  rintro _ w6 ⟨a4, c5, rfl, hs⟩
  have hS3 := hS2.add hs
  refine gs ?_
  obtain ⟨j7, hj7, h8⟩ := obind h
  refine CW.jn [0, 3, 6] [0, 1] [(19, .bool j7)] hS3 (h1 := ?_) (h2 := ?_)
  · have h := hj7
    refine go ?_
    replace ⟨y9, hy9, h⟩ := obind h
    refine LW.c0 (W_i_ArenaOk hy9 rfl (hS3.rB hr0_0)) hS3 fun w10 hS4 => ?_
    refine go ?_
    rcases bcases (!y9) with hc11 | hc11
    · replace h := bcT h hc11
      refine go ?_
      cases oi h
      exact ⟨⟨rfl, rfl, rfl, rfl, trivial⟩, hS4.pick [0, 1] rfl rfl⟩
    replace h := bcF h hc11
    refine go ?_
    cases oi h
    exact ⟨⟨rfl, rfl, rfl, rfl, trivial⟩, hS4.pick [0, 1] rfl rfl⟩
  intro e w12 hS5
  have h := h8
  refine go ?_
  refine cd (fun hc13 => ?_) fun hc13 => ?_
  · replace h := bcT h hc13
    refine go ?_
    cases h
    exact And.intro trivial ⟨_, Res.two (resOne.t rfl) (resOne.t rfl), a4, c5, rfl, hS5.pick [0] rfl rfl⟩
  replace h := bcF h hc13
  refine go ?_
  obtain ⟨o73, ho73, h74⟩ := obind h
  refine CW.mono (CW.lx [0, 3, 6, 21, 22] [0, 1] [6] 0 (fun s14 => [(23, .int .i64 s14)]) (fun r x e wb => x = .ret ∧ ∃ u, u = r ∧ ∃ v, Res Try.prog Try.f36.results e wb v ∧ ∃ ar0 cr0, v = .tuple #[.slice ar0 u.1.length cr0, .int .i64 u.2] ∧ St w0 [] wb [sl ar0 cr0 u.1]) hS5 ho73 (hb := ?_)) ?_
  · intro s14 e w15 o hS6 h
    refine go ?_
    refine cd (fun hc16 => ?_) fun hc16 => ?_
    · replace h := bcT h hc16
      refine go ?_
      replace ⟨y17, hy17, h⟩ := obind h
      obtain ⟨b20, o21, cs22, hae, hb25, hp18, hq19, hd23, hk24⟩ := hr0_0.idx hy17
      subst hae
      obtain ⟨a26, c27, a29, c30, a32, c33, rfl, hr28, hr31, hr34⟩ := hd23
      refine LW.u (Pur.ix Try.underlying33 sz84 rfl rfl hp18 hq19) rfl ?_
      refine LW.l (Ldr.oldN w0 ag84 rfl rfl (fun j u hu => hk24 j u hu)) (hS6.same _ hb25.1 hb25.2) rfl ?_
      refine LW.al hS6 fun g35 w36 hS7 => ?_
      refine go ?_
      refine LW.st hS7 0 fun w37 hS8 => ?_
      refine gs ?_
      obtain ⟨j38, hj38, h39⟩ := obind h
      refine CW.jn [0, 3, 6, 7, 8, 21, 22, 23] [0, 1, 2] [(39, .bool j38)] hS8 (h1 := ?_) (h2 := ?_)
      · have h := hj38
        refine go ?_
        rcases bcases (s14 == 0) with hc40 | hc40
        · replace h := bcT h hc40
          refine go ?_
          cases oi h
          exact ⟨⟨rfl, rfl, rfl, rfl, rfl, rfl, rfl, rfl, rfl, trivial⟩, hS8.pick [0, 1, 2] rfl rfl⟩
        replace h := bcF h hc40
        refine go ?_
        refine LW.fl [0, 3, 6, 7, 8, 21, 22, 23, 35] fun e => ?_
        rcases bcases (y17.kind != 0) with hc41 | hc41
        · replace h := bcT h hc41
          refine go ?_
          cases oi h
          exact ⟨⟨rfl, rfl, rfl, rfl, rfl, rfl, rfl, rfl, rfl, trivial⟩, hS8.pick [0, 1, 2] rfl rfl⟩
        replace h := bcF h hc41
        refine go ?_
        cases oi h
        exact ⟨⟨rfl, rfl, rfl, rfl, rfl, rfl, rfl, rfl, rfl, trivial⟩, hS8.pick [0, 1, 2] rfl rfl⟩
      intro e w42 hS9
      have h := h39
      refine go ?_
      refine CW.fl [0, 3, 6, 7, 8, 21, 22, 23, 39] fun e => ?_
      refine cd (fun hc43 => ?_) fun hc43 => ?_
      · replace h := bcT h hc43
        refine go ?_
        cases oi h
        exact ⟨rfl, ⟨⟨rfl, rfl, rfl, rfl, rfl, rfl, trivial⟩, hS9.pick [1, 2] rfl rfl⟩⟩
      replace h := bcF h hc43
      refine go ?_
      replace ⟨y44, hy44, h⟩ := obind h
      refine LW.cl (W_i_copyArena hy44 rfl (hS9.rB hr0_0)) ?_
      rintro _ w47 ⟨a45, c46, rfl, hs⟩
      have hS10 := hS9.add hs
      refine go ?_
      replace ⟨y48, hy48, h⟩ := obind h
      refine LW.cl (W_i_copyObj hy48 rfl (hS10.rB hr1_10) rfl (hS10.rB hr1_11) rfl (hS10.rB hr1_12)) ?_
      rintro _ w55 ⟨a49, c50, a51, c52, a53, c54, rfl, hs⟩
      have hS11 := hS10.add hs
      replace ⟨y56, hy56, h⟩ := obind h
      obtain ⟨b59, o60, hae, hp57, hq58⟩ := hS11.ownIdx (α := DObj) (i := 3) rfl hy56
      subst hae
      refine LW.u (Pur.ix Try.underlying33 sz84 rfl rfl hp57 hq58) rfl ?_
      have hS12 := hS11.pick (M := [sl a49 c50 y48.links, sl a51 c52 y48.data, sl a53 c54 y48.queue] ++ [sl (some ⟨b59, o60, none⟩) c46 y44, bx g35 84 [.int .i64 y17.gen, .int .i64 y17.kind, .int .i64 y17.box, .int .i64 y17.res, .int .i64 y17.til, .int .i64 y17.pages, .int .i64 y17.wait, .int .i64 y17.got, .int .i64 y17.ran, .bool y17.mark, .slice a26 y17.links.length c27, .slice a29 y17.data.length c30, .slice a32 y17.queue.length c33], sl a4 c5 y3, bx g1 84 [.int .i64 x1.gen, .int .i64 x1.kind, .int .i64 x1.box, .int .i64 x1.res, .int .i64 x1.til, .int .i64 x1.pages, .int .i64 x1.wait, .int .i64 x1.got, .int .i64 x1.ran, .bool x1.mark, .slice a1_10 x1.links.length c1_10, .slice a1_11 x1.data.length c1_11, .slice a1_12 x1.queue.length c1_12]]) [0, 1, 2, 3, 4, 5, 6] rfl rfl
      replace ⟨y61, hy61, h⟩ := obind h
      refine LW.stE (M := [sl a49 c50 y48.links, sl a51 c52 y48.data, sl a53 c54 y48.queue]) (L := [sl (some ⟨b59, o60, none⟩) c46 y44, bx g35 84 [.int .i64 y17.gen, .int .i64 y17.kind, .int .i64 y17.box, .int .i64 y17.res, .int .i64 y17.til, .int .i64 y17.pages, .int .i64 y17.wait, .int .i64 y17.got, .int .i64 y17.ran, .bool y17.mark, .slice a26 y17.links.length c27, .slice a29 y17.data.length c30, .slice a32 y17.queue.length c33], sl a4 c5 y3, bx g1 84 [.int .i64 x1.gen, .int .i64 x1.kind, .int .i64 x1.box, .int .i64 x1.res, .int .i64 x1.til, .int .i64 x1.pages, .int .i64 x1.wait, .int .i64 x1.got, .int .i64 x1.ran, .bool x1.mark, .slice a1_10 x1.links.length c1_10, .slice a1_11 x1.data.length c1_11, .slice a1_12 x1.queue.length c1_12]]) (z := y56) (z' := y48) (o := 0) hS12 (i := 0) rfl hy56 ag84 rfl (by show _ = o60 + (s14 : Int).toNat * 13 + 0; omega) rfl rfl rfl rfl (whole (fun w G hG => ⟨a49, c50, a51, c52, a53, c54, rfl, hG⟩)) ?_
      intro w62 hS13 hf
      rw [Option.some.inj hy61] at hS13
      refine go ?_
      replace ⟨y63, hy63, h⟩ := obind h
      obtain ⟨b66, o67, hae, hp64, hq65⟩ := hS13.ownIdx (α := DObj) (i := 0) rfl hy63
      cases hae
      refine LW.u (Pur.ix Try.underlying33 sz84 rfl rfl hp64 (by rw [show y44.length = y61.length from (len_set (Option.some.inj hy61))]; exact hq65)) rfl ?_
      refine go ?_
      replace ⟨y68, hy68, h⟩ := obind h
      refine LW.stE (M := []) (L := [sl (some ⟨b59, o60, none⟩) c46 y61, bx g35 84 [.int .i64 y17.gen, .int .i64 y17.kind, .int .i64 y17.box, .int .i64 y17.res, .int .i64 y17.til, .int .i64 y17.pages, .int .i64 y17.wait, .int .i64 y17.got, .int .i64 y17.ran, .bool y17.mark, .slice a26 y17.links.length c27, .slice a29 y17.data.length c30, .slice a32 y17.queue.length c33], sl a4 c5 y3, bx g1 84 [.int .i64 x1.gen, .int .i64 x1.kind, .int .i64 x1.box, .int .i64 x1.res, .int .i64 x1.til, .int .i64 x1.pages, .int .i64 x1.wait, .int .i64 x1.got, .int .i64 x1.ran, .bool x1.mark, .slice a1_10 x1.links.length c1_10, .slice a1_11 x1.data.length c1_11, .slice a1_12 x1.queue.length c1_12]]) (z := y63) (z' := (DObj.mk (IntKind.i64.wrap (y17.gen + 1)) y63.kind y63.box y63.res y63.til y63.pages y63.wait y63.got y63.ran y63.mark y63.links y63.data y63.queue)) (o := 0) hS13 (i := 0) rfl hy63 ag3 rfl (by show _ = o60 + (s14 : Int).toNat * 13 + 0; omega) rfl rfl rfl rfl (leafF (fun w cs F hF => by obtain ⟨q0, r0, q1, r1, q2, r2, rfl, hH⟩ := hF; exact ⟨q0, r0, q1, r1, q2, r2, rfl, hH⟩)) ?_
      intro w69 hS14 hf
      rw [Option.some.inj hy68] at hS14
      refine go ?_
      replace ⟨y70, hy70, h⟩ := obind h
      refine LW.c0 (W_i_ArenaOk hy70 (show y44.length = y68.length from ((len_set (Option.some.inj hy61)).trans (len_set (Option.some.inj hy68)))) (hS14.rI 0 rfl)) hS14 fun w71 hS15 => ?_
      refine go ?_
      refine CW.fl [6, 7, 9, 56] fun e => ?_
      refine cd (fun hc72 => ?_) fun hc72 => ?_
      · replace h := bcT h hc72
        refine go ?_
        cases oi h
        exact ⟨trivial, rfl, _, rfl, ⟨_, Res.two (resOne.t rfl) (resOne.t rfl), a4, c5, rfl, hS15.pick [2] rfl rfl⟩⟩
      replace h := bcF h hc72
      refine go ?_
      replace h := Option.some.inj h
      subst h
      exact ⟨trivial, rfl, _, rfl, ⟨_, Res.two (resOne.t rfl) (resOne.t rfl), (some ⟨b59, o60, none⟩), c46, (show (.tuple #[.slice (some ⟨b59, o60, none⟩) y44.length c46, .int .i64 s14] : Value) = .tuple #[.slice (some ⟨b59, o60, none⟩) y68.length c46, .int .i64 s14] by rw [show y44.length = y68.length from ((len_set (Option.some.inj hy61)).trans (len_set (Option.some.inj hy68)))]), hS15.pick [0] rfl rfl⟩⟩
    replace h := bcF h hc16
    refine go ?_
    cases oi h
    exact ⟨trivial, rfl, ⟨⟨rfl, trivial⟩, hS6.pick [0, 1] rfl rfl⟩⟩
  intro x e w75 hM
  rcases o73 with o73 | r76
  · obtain ⟨rfl, hM⟩ := hM
    obtain ⟨hE, hS16⟩ := hM
    obtain ⟨e, rfl⟩ := hE.out
    have h := h74
    refine go ?_
    cases h
    exact And.intro trivial ⟨_, Res.two (resOne.t rfl) (resOne.t rfl), a4, c5, rfl, hS16.pick [0] rfl rfl⟩
  obtain ⟨rfl, u, rfl, hM⟩ := hM
  cases h74
  exact And.intro trivial hM

end Go.Kx
