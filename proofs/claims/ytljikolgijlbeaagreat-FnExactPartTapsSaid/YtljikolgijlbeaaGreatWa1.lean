/- Each call returns what the plain function says. Printed by drive.py. -/
import Derived.Test.YtljikolgijlbeaaGreatFa
import Derived.Test.YtljikolgijlbeaaGreatPu
import Derived.Test.YtljikolgijlbeaaGreatWa0
import Derived.Test.YtljikolgijlbeaaGreatWa7
namespace Go.Kx
open Go Go.RowKit Go.Proofs
set_option maxRecDepth 10000
set_option maxHeartbeats 8000000
set_option linter.unusedVariables false
set_option linter.unusedSimpArgs false
theorem W_l_heldTapS {w0 : World} {N : Nat} {x0 : List DTap} {x1 : Int} {r : Int} (h : F_l_heldTapS N x0 x1 = some r) {a0_0 : Option Addr} {n0_0 c0_0 : Nat} (hn0_0 : n0_0 = x0.length) (hr0_0 : rdS (Bor w0 []) w0 a0_0 c0_0 x0) :
    Ret Tryz.prog 104 #[.slice a0_0 n0_0 c0_0, .int .i64 x1] w0 (fun v w => v = .int .i64 r ∧ St w0 [] w []) := by
  subst hn0_0
  unfold F_l_heldTapS at h
  refine Ret.fn Tryz.func104 fun e => ?_
  have hS1 := St.start w0
  refine go ?_
  obtain ⟨o19, ho19, h20⟩ := obind h
  refine CW.mono (CW.lx [0] [] [1] 0 (fun s1 => [(1, .int .i64 s1.1), (5, .int .i64 s1.2)]) (RT Tryz.prog Tryz.f104.results (fun u => .int .i64 u) w0 []) hS1 ho19 (hb := ?_)) ?_
  · intro s1 e w2 o hS2 h
    refine go ?_
    refine cd (fun hc3 => ?_) fun hc3 => ?_
    · replace h := bcT h hc3
      refine go ?_
      replace ⟨y4, hy4, h⟩ := obind h
      obtain ⟨b7, o8, cs9, hae, hb12, hp5, hq6, hd10, hk11⟩ := hr0_0.idx hy4
      subst hae
      obtain rfl := hd10
      refine LW.u (Pur.ix Tryz.underlying65 sz82 rfl rfl hp5 hq6) rfl ?_
      refine go ?_
      refine LW.l (Ldr.old w0 ag3 rfl (hk11 0 _ rfl)) (hS2.same _ hb12.1 hb12.2) rfl ?_
      refine go ?_
      refine CW.fl [0, 1, 5, 18] fun e => ?_
      refine cd (fun hc13 => ?_) fun hc13 => ?_
      · replace h := bcT h hc13
        refine go ?_
        cases oi h
        exact ⟨trivial, rfl, _, rfl, ⟨_, Res.one (resOne.t rfl), rfl, hS2.pick [] rfl rfl⟩⟩
      replace h := bcF h hc13
      refine go ?_
      refine LW.u (Pur.ix Tryz.underlying65 sz82 rfl rfl hp5 hq6) rfl ?_
      refine go ?_
      refine LW.l (Ldr.old w0 ag3 rfl (hk11 1 _ rfl)) (hS2.same _ hb12.1 hb12.2) rfl ?_
      refine go ?_
      refine cd (fun hc14 => ?_) fun hc14 => ?_
      · replace h := bcT h hc14
        refine go ?_
        cases oi h
        exact ⟨trivial, rfl, _, rfl, ⟨_, Res.one (resOne.t rfl), rfl, hS2.pick [] rfl rfl⟩⟩
      replace h := bcF h hc14
      refine go ?_
      refine LW.u (Pur.ix Tryz.underlying65 sz82 rfl rfl hp5 hq6) rfl ?_
      refine go ?_
      refine LW.l (Ldr.old w0 ag3 rfl (hk11 2 _ rfl)) (hS2.same _ hb12.1 hb12.2) rfl ?_
      refine go ?_
      refine CW.fl [0, 1, 5, 36] fun e => ?_
      refine cd (fun hc15 => ?_) fun hc15 => ?_
      · replace h := bcT h hc15
        refine go ?_
        cases oi h
        exact ⟨trivial, rfl, _, rfl, ⟨_, Res.one (resOne.t rfl), rfl, hS2.pick [] rfl rfl⟩⟩
      replace h := bcF h hc15
      refine go ?_
      refine LW.u (Pur.ix Tryz.underlying65 sz82 rfl rfl hp5 hq6) rfl ?_
      refine go ?_
      refine LW.l (Ldr.old w0 ag3 rfl (hk11 3 _ rfl)) (hS2.same _ hb12.1 hb12.2) rfl ?_
      refine go ?_
      refine cd (fun hc16 => ?_) fun hc16 => ?_
      · replace h := bcT h hc16
        refine go ?_
        cases oi h
        exact ⟨trivial, rfl, _, rfl, ⟨_, Res.one (resOne.t rfl), rfl, hS2.pick [] rfl rfl⟩⟩
      replace h := bcF h hc16
      refine go ?_
      refine LW.u (Pur.ix Tryz.underlying65 sz82 rfl rfl hp5 hq6) rfl ?_
      refine go ?_
      refine LW.l (Ldr.old w0 ag3 rfl (hk11 4 _ rfl)) (hS2.same _ hb12.1 hb12.2) rfl ?_
      refine go ?_
      refine CW.fl [0, 1, 5, 54] fun e => ?_
      refine cd (fun hc17 => ?_) fun hc17 => ?_
      · replace h := bcT h hc17
        refine go ?_
        cases oi h
        exact ⟨trivial, rfl, _, rfl, ⟨_, Res.one (resOne.t rfl), rfl, hS2.pick [] rfl rfl⟩⟩
      replace h := bcF h hc17
      refine go ?_
      refine LW.u (Pur.ix Tryz.underlying65 sz82 rfl rfl hp5 hq6) rfl ?_
      refine go ?_
      refine LW.l (Ldr.old w0 ag3 rfl (hk11 5 _ rfl)) (hS2.same _ hb12.1 hb12.2) rfl ?_
      refine go ?_
      refine cd (fun hc18 => ?_) fun hc18 => ?_
      · replace h := bcT h hc18
        refine go ?_
        cases oi h
        exact ⟨trivial, rfl, _, rfl, ⟨_, Res.one (resOne.t rfl), rfl, hS2.pick [] rfl rfl⟩⟩
      replace h := bcF h hc18
      refine go ?_
      cases oi h
      exact ⟨rfl, ⟨⟨rfl, rfl, rfl, trivial⟩, hS2.pick [] rfl rfl⟩⟩
    replace h := bcF h hc3
    refine go ?_
    cases oi h
    exact ⟨trivial, rfl, ⟨⟨rfl, trivial⟩, hS2.pick [] rfl rfl⟩⟩
  intro x e w21 hM
  rcases o19 with o19 | r22
  · obtain ⟨rfl, hM⟩ := hM
    obtain ⟨hE, hS3⟩ := hM
    obtain ⟨e, rfl⟩ := hE.out
    have h := h20
    refine go ?_
    cases h
    exact fi hS3
  obtain ⟨rfl, u, rfl, hM⟩ := hM
  cases h20
  exact And.intro trivial hM

theorem W_l_szLabel {w0 : World} {N : Nat} {x0 : DLabel} {x1 : Int} {r : Int} (h : F_l_szLabel N x0 x1 = some r) {a0_0 : Option Addr} {n0_0 c0_0 : Nat} (hn0_0 : n0_0 = x0.levels.length) (hr0_0 : rdS (Bor w0 []) w0 a0_0 c0_0 x0.levels) :
    Ret Tryz.prog 130 #[.agg #[.slice a0_0 n0_0 c0_0], .int .i64 x1] w0 (fun v w => v = .int .i64 r ∧ St w0 [] w []) := by
  subst hn0_0
  unfold F_l_szLabel at h
  refine Ret.fn Tryz.func130 fun e => ?_
  have hS1 := St.start w0
  refine go ?_
  refine LW.bo hS1 fun g1 w2 hS2 => ?_
  refine go ?_
  replace ⟨y3, hy3, h⟩ := obind h
  refine LW.c0 (W_l_szIntS hy3 rfl (hS2.rB hr0_0)) hS2 fun w4 hS3 => ?_
  refine go ?_
  refine cd (fun hc5 => ?_) fun hc5 => ?_
  · replace h := bcT h hc5
    refine go ?_
    cases h
    exact fi hS3
  replace h := bcF h hc5
  refine go ?_
  cases h
  exact fi hS3

theorem W_l_szObj {w0 : World} {N : Nat} {x0 : DObj} {x1 : Int} {r : Int} (h : F_l_szObj N x0 x1 = some r) {a0_10 : Option Addr} {n0_10 c0_10 : Nat} (hn0_10 : n0_10 = x0.links.length) (hr0_10 : rdS (Bor w0 []) w0 a0_10 c0_10 x0.links) {a0_11 : Option Addr} {n0_11 c0_11 : Nat} (hn0_11 : n0_11 = x0.data.length) (hr0_11 : rdS (Bor w0 []) w0 a0_11 c0_11 x0.data) {a0_12 : Option Addr} {n0_12 c0_12 : Nat} (hn0_12 : n0_12 = x0.queue.length) (hr0_12 : rdS (Bor w0 []) w0 a0_12 c0_12 x0.queue) :
    Ret Tryz.prog 228 #[.agg #[.int .i64 x0.gen, .int .i64 x0.kind, .int .i64 x0.box, .int .i64 x0.res, .int .i64 x0.til, .int .i64 x0.pages, .int .i64 x0.wait, .int .i64 x0.got, .int .i64 x0.ran, .bool x0.mark, .slice a0_10 n0_10 c0_10, .slice a0_11 n0_11 c0_11, .slice a0_12 n0_12 c0_12], .int .i64 x1] w0 (fun v w => v = .int .i64 r ∧ St w0 [] w []) := by
  subst hn0_10 hn0_11 hn0_12
  unfold F_l_szObj at h
  refine Ret.fn Tryz.func228 fun e => ?_
  have hS1 := St.start w0
  refine go ?_
  refine LW.bo hS1 fun g1 w2 hS2 => ?_
  refine go ?_
  replace ⟨y3, hy3, h⟩ := obind h
  refine LW.c0 (W_l_szIntS hy3 rfl (hS2.rB hr0_10)) hS2 fun w4 hS3 => ?_
  refine go ?_
  refine cd (fun hc5 => ?_) fun hc5 => ?_
  · replace h := bcT h hc5
    refine go ?_
    cases h
    exact fi hS3
  replace h := bcF h hc5
  refine go ?_
  replace ⟨y6, hy6, h⟩ := obind h
  refine LW.c0 (W_l_szIntS hy6 rfl (hS3.rB hr0_11)) hS3 fun w7 hS4 => ?_
  refine go ?_
  refine CW.fl [1, 2, 16] fun e => ?_
  refine cd (fun hc8 => ?_) fun hc8 => ?_
  · replace h := bcT h hc8
    refine go ?_
    cases h
    exact fi hS4
  replace h := bcF h hc8
  refine go ?_
  replace ⟨y9, hy9, h⟩ := obind h
  refine LW.c0 (W_l_szMsgS hy9 rfl (hS4.rB hr0_12)) hS4 fun w10 hS5 => ?_
  refine go ?_
  refine cd (fun hc11 => ?_) fun hc11 => ?_
  · replace h := bcT h hc11
    refine go ?_
    cases h
    exact fi hS5
  replace h := bcF h hc11
  refine go ?_
  cases h
  exact fi hS5

theorem W_l_szGc {w0 : World} {N : Nat} {x0 : DGc} {x1 : Int} {r : Int} (h : F_l_szGc N x0 x1 = some r) {a0_3 : Option Addr} {n0_3 c0_3 : Nat} (hn0_3 : n0_3 = x0.grey.length) (hr0_3 : rdS (Bor w0 []) w0 a0_3 c0_3 x0.grey) :
    Ret Tryz.prog 199 #[.agg #[.int .i64 x0.phase, .int .i64 x0.pos, .int .i64 x0.round, .slice a0_3 n0_3 c0_3], .int .i64 x1] w0 (fun v w => v = .int .i64 r ∧ St w0 [] w []) := by
  subst hn0_3
  unfold F_l_szGc at h
  refine Ret.fn Tryz.func199 fun e => ?_
  have hS1 := St.start w0
  refine go ?_
  refine LW.bo hS1 fun g1 w2 hS2 => ?_
  refine go ?_
  replace ⟨y3, hy3, h⟩ := obind h
  refine LW.c0 (W_l_szIntS hy3 rfl (hS2.rB hr0_3)) hS2 fun w4 hS3 => ?_
  refine go ?_
  refine cd (fun hc5 => ?_) fun hc5 => ?_
  · replace h := bcT h hc5
    refine go ?_
    cases h
    exact fi hS3
  replace h := bcF h hc5
  refine go ?_
  cases h
  exact fi hS3

theorem W_l_toLabel {w0 : World} {N : Nat} {x0 : DLabel} {r : DLabel} (h : F_l_toLabel N x0 = some r) {a0_0 : Option Addr} {n0_0 c0_0 : Nat} (hn0_0 : n0_0 = x0.levels.length) (hr0_0 : rdS (Bor w0 []) w0 a0_0 c0_0 x0.levels) :
    Ret Tryz.prog 147 #[.agg #[.slice a0_0 n0_0 c0_0]] w0 (fun v w => ∃ ar0_0 cr0_0, v = .agg #[.slice ar0_0 r.levels.length cr0_0] ∧ St w0 [] w [sl ar0_0 cr0_0 r.levels]) := by
  subst hn0_0
  unfold F_l_toLabel at h
  refine Ret.fn Tryz.func147 fun e => ?_
  have hS1 := St.start w0
  refine go ?_
  refine LW.bo hS1 fun g1 w2 hS2 => ?_
  refine LW.al hS2 fun g3 w4 hS3 => ?_
  refine go ?_
  refine LW.al hS3 fun g5 w6 hS4 => ?_
  refine go ?_
  replace ⟨y7, hy7, h⟩ := obind h
  refine LW.cl (W_l_toIntS hy7 rfl (hS4.rB hr0_0)) ?_
  rintro _ w10 ⟨a8, c9, rfl, hs⟩
  have hS5 := hS4.add hs
  refine go ?_
  refine LW.st hS5 1 fun w11 hS6 => ?_
  refine go ?_
  refine LW.st hS6 2 fun w12 hS7 => ?_
  refine go ?_
  cases h
  exact And.intro trivial ⟨_, Res.one (resOne.b hS7 2 rfl ag54 rfl rfl), a8, c9, rfl, hS7.pick [0] rfl rfl⟩

theorem W_l_toRes {w0 : World} {N : Nat} {x0 : DRes} {r : DRes} (h : F_l_toRes N x0 = some r) :
    Ret Tryz.prog 205 #[.agg #[.bool x0.live, .int .i64 x0.parent, .int .i64 x0.bal.pages, .int .i64 x0.bal.rent, .int .i64 x0.bal.cpu]] w0 (fun v w => v = .agg #[.bool r.live, .int .i64 r.parent, .int .i64 r.bal.pages, .int .i64 r.bal.rent, .int .i64 r.bal.cpu] ∧ St w0 [] w []) := by
  unfold F_l_toRes at h
  refine Ret.fn Tryz.func205 fun e => ?_
  have hS1 := St.start w0
  refine go ?_
  refine LW.bo hS1 fun g1 w2 hS2 => ?_
  refine LW.al hS2 fun g3 w4 hS3 => ?_
  refine go ?_
  refine LW.al hS3 fun g5 w6 hS4 => ?_
  refine go ?_
  refine LW.st hS4 0 fun w7 hS5 => ?_
  refine go ?_
  refine LW.st hS5 0 fun w8 hS6 => ?_
  refine go ?_
  replace ⟨y9, hy9, h⟩ := obind h
  refine LW.c0 (W_l_toAmt hy9) hS6 fun w10 hS7 => ?_
  refine go ?_
  refine LW.st hS7 0 fun w11 hS8 => ?_
  refine go ?_
  refine LW.st hS8 1 fun w12 hS9 => ?_
  refine go ?_
  cases h
  exact And.intro trivial ⟨_, Res.one (resOne.b hS9 1 rfl ag138 rfl rfl), rfl, hS9.pick [] rfl rfl⟩

theorem W_l_toMsgS {w0 : World} {N : Nat} {x0 : List DMsg} {r : (List DMsg)} (h : F_l_toMsgS N x0 = some r) {a0_0 : Option Addr} {n0_0 c0_0 : Nat} (hn0_0 : n0_0 = x0.length) (hr0_0 : rdS (Bor w0 []) w0 a0_0 c0_0 x0) :
    Ret Tryz.prog 235 #[.slice a0_0 n0_0 c0_0] w0 (fun v w => ∃ ar0 cr0, v = .slice ar0 r.length cr0 ∧ St w0 [] w [sl ar0 cr0 r]) := by
  subst hn0_0
  unfold F_l_toMsgS at h
  refine Ret.fn Tryz.func235 fun e => ?_
  have hS1 := St.start w0
  refine go ?_
  replace ⟨y1, hy1, h⟩ := obind h
  refine LW.mk sT102 rfl rfl hy1 hS1 rfl ?_
  intro a2 c3 w4 hS2 hf
  refine go ?_
  obtain ⟨o26, ho26, h27⟩ := obind h
  refine CW.mono (CW.iter (σ := (List DMsg) × Int) (ρ := (List DMsg) × Int) (fun s5 e wb => En e [(0, .slice a0_0 x0.length c0_0), (3, .slice a2 s5.1.length c3), (4, .int .i64 s5.2)] ∧ St w0 [] wb [sl a2 c3 s5.1]) (fun s5 x e wb => x = .exit 0 ∧ En e [(3, .slice a2 s5.1.length c3)] ∧ St w0 [] wb [sl a2 c3 s5.1]) ?_ N (y1, 0) _ _ _ ⟨⟨rfl, rfl, rfl, trivial⟩, hS2.pick [0] rfl rfl⟩ ho26) ?_
  · intro s5 e w6 o hM h
    obtain ⟨hE, hS3⟩ := hM
    obtain ⟨e, rfl⟩ := hE.out
    refine go ?_
    refine cd (fun hc7 => ?_) fun hc7 => ?_
    · replace h := bcT h hc7
      refine go ?_
      replace ⟨y8, hy8, h⟩ := obind h
      obtain ⟨b11, o12, cs13, hae, hb16, hp9, hq10, hd14, hk15⟩ := hr0_0.idx hy8
      subst hae
      obtain rfl := hd14
      refine LW.u (Pur.ix Tryz.underlying228 sz236 rfl rfl hp9 hq10) rfl ?_
      refine LW.l (Ldr.oldN w0 ag236 rfl rfl (fun j u hu => hk15 j u hu)) (hS3.same _ hb16.1 hb16.2) rfl ?_
      replace ⟨y17, hy17, h⟩ := obind h
      refine LW.c0 (W_l_toMsg hy17) hS3 fun w18 hS4 => ?_
      replace ⟨y19, hy19, h⟩ := obind h
      obtain ⟨b22, o23, hae, hp20, hq21⟩ := hS4.ownIdx (α := DMsg) (i := 0) rfl hy19
      subst hae
      refine LW.u (Pur.ix Tryz.underlying102 sz170 rfl rfl hp20 hq21) rfl ?_
      replace ⟨y24, hy24, h⟩ := obind h
      refine LW.stE (M := []) (L := [sl (some ⟨b22, o23, none⟩) c3 s5.1]) (z := y19) (z' := y17) (o := 0) hS4 (i := 0) rfl hy19 ag170 rfl (by show _ = o23 + (s5.2 : Int).toNat * 2 + 0; omega) rfl rfl rfl rfl (whole (fun w G hG => by cases (show G = [] from hG); exact ⟨rfl, rfl⟩)) ?_
      intro w25 hS5 hf
      rw [Option.some.inj hy24] at hS5
      refine go ?_
      replace h := Option.some.inj h
      subst h
      exact ⟨rfl, ⟨⟨rfl, (show (.slice (some ⟨b22, o23, none⟩) s5.1.length c3 : Value) = .slice (some ⟨b22, o23, none⟩) y24.length c3 by rw [show s5.1.length = y24.length from (len_set (Option.some.inj hy24))]), rfl, trivial⟩, hS5.pick [0] rfl rfl⟩⟩
    replace h := bcF h hc7
    refine go ?_
    cases oi h
    exact ⟨trivial, rfl, ⟨⟨rfl, trivial⟩, hS3.pick [0] rfl rfl⟩⟩
  intro x e w28 hM
  obtain ⟨rfl, hM⟩ := hM
  obtain ⟨hE, hS6⟩ := hM
  obtain ⟨e, rfl⟩ := hE.out
  have h := h27
  refine go ?_
  cases h
  exact And.intro trivial ⟨_, Res.one (resOne.t rfl), a2, c3, rfl, hS6.pick [0] rfl rfl⟩

theorem W_l_toGc {w0 : World} {N : Nat} {x0 : DGc} {r : DGc} (h : F_l_toGc N x0 = some r) {a0_3 : Option Addr} {n0_3 c0_3 : Nat} (hn0_3 : n0_3 = x0.grey.length) (hr0_3 : rdS (Bor w0 []) w0 a0_3 c0_3 x0.grey) :
    Ret Tryz.prog 207 #[.agg #[.int .i64 x0.phase, .int .i64 x0.pos, .int .i64 x0.round, .slice a0_3 n0_3 c0_3]] w0 (fun v w => ∃ ar0_3 cr0_3, v = .agg #[.int .i64 r.phase, .int .i64 r.pos, .int .i64 r.round, .slice ar0_3 r.grey.length cr0_3] ∧ St w0 [] w [sl ar0_3 cr0_3 r.grey]) := by
  subst hn0_3
  unfold F_l_toGc at h
  refine Ret.fn Tryz.func207 fun e => ?_
  have hS1 := St.start w0
  refine go ?_
  refine LW.bo hS1 fun g1 w2 hS2 => ?_
  refine LW.al hS2 fun g3 w4 hS3 => ?_
  refine go ?_
  refine LW.al hS3 fun g5 w6 hS4 => ?_
  refine go ?_
  refine LW.st hS4 0 fun w7 hS5 => ?_
  refine go ?_
  refine LW.st hS5 0 fun w8 hS6 => ?_
  refine go ?_
  refine LW.st hS6 0 fun w9 hS7 => ?_
  refine go ?_
  replace ⟨y10, hy10, h⟩ := obind h
  refine LW.cl (W_l_toIntS hy10 rfl (hS7.rB hr0_3)) ?_
  rintro _ w13 ⟨a11, c12, rfl, hs⟩
  have hS8 := hS7.add hs
  refine go ?_
  refine LW.st hS8 1 fun w14 hS9 => ?_
  refine go ?_
  refine LW.st hS9 2 fun w15 hS10 => ?_
  refine go ?_
  cases h
  exact And.intro trivial ⟨_, Res.one (resOne.b hS10 2 rfl ag62 rfl rfl), a11, c12, rfl, hS10.pick [0] rfl rfl⟩

theorem W_l_toTapS {w0 : World} {N : Nat} {x0 : List DTap} {r : (List DTap)} (h : F_l_toTapS N x0 = some r) {a0_0 : Option Addr} {n0_0 c0_0 : Nat} (hn0_0 : n0_0 = x0.length) (hr0_0 : rdS (Bor w0 []) w0 a0_0 c0_0 x0) :
    Ret Tryz.prog 151 #[.slice a0_0 n0_0 c0_0] w0 (fun v w => ∃ ar0 cr0, v = .slice ar0 r.length cr0 ∧ St w0 [] w [sl ar0 cr0 r]) := by
  subst hn0_0
  unfold F_l_toTapS at h
  refine Ret.fn Tryz.func151 fun e => ?_
  have hS1 := St.start w0
  refine go ?_
  replace ⟨y1, hy1, h⟩ := obind h
  refine LW.mk sT65 rfl rfl hy1 hS1 rfl ?_
  intro a2 c3 w4 hS2 hf
  refine go ?_
  obtain ⟨o26, ho26, h27⟩ := obind h
  refine CW.mono (CW.iter (σ := (List DTap) × Int) (ρ := (List DTap) × Int) (fun s5 e wb => En e [(0, .slice a0_0 x0.length c0_0), (3, .slice a2 s5.1.length c3), (4, .int .i64 s5.2)] ∧ St w0 [] wb [sl a2 c3 s5.1]) (fun s5 x e wb => x = .exit 0 ∧ En e [(3, .slice a2 s5.1.length c3)] ∧ St w0 [] wb [sl a2 c3 s5.1]) ?_ N (y1, 0) _ _ _ ⟨⟨rfl, rfl, rfl, trivial⟩, hS2.pick [0] rfl rfl⟩ ho26) ?_
  · intro s5 e w6 o hM h
    obtain ⟨hE, hS3⟩ := hM
    obtain ⟨e, rfl⟩ := hE.out
    refine go ?_
    refine cd (fun hc7 => ?_) fun hc7 => ?_
    · replace h := bcT h hc7
      refine go ?_
      replace ⟨y8, hy8, h⟩ := obind h
      obtain ⟨b11, o12, cs13, hae, hb16, hp9, hq10, hd14, hk15⟩ := hr0_0.idx hy8
      subst hae
      obtain rfl := hd14
      refine LW.u (Pur.ix Tryz.underlying124 sz213 rfl rfl hp9 hq10) rfl ?_
      refine LW.l (Ldr.oldN w0 ag213 rfl rfl (fun j u hu => hk15 j u hu)) (hS3.same _ hb16.1 hb16.2) rfl ?_
      replace ⟨y17, hy17, h⟩ := obind h
      refine LW.c0 (W_l_toTap hy17) hS3 fun w18 hS4 => ?_
      replace ⟨y19, hy19, h⟩ := obind h
      obtain ⟨b22, o23, hae, hp20, hq21⟩ := hS4.ownIdx (α := DTap) (i := 0) rfl hy19
      subst hae
      refine LW.u (Pur.ix Tryz.underlying65 sz82 rfl rfl hp20 hq21) rfl ?_
      replace ⟨y24, hy24, h⟩ := obind h
      refine LW.stE (M := []) (L := [sl (some ⟨b22, o23, none⟩) c3 s5.1]) (z := y19) (z' := y17) (o := 0) hS4 (i := 0) rfl hy19 ag82 rfl (by show _ = o23 + (s5.2 : Int).toNat * 6 + 0; omega) rfl rfl rfl rfl (whole (fun w G hG => by cases (show G = [] from hG); exact ⟨rfl, rfl⟩)) ?_
      intro w25 hS5 hf
      rw [Option.some.inj hy24] at hS5
      refine go ?_
      replace h := Option.some.inj h
      subst h
      exact ⟨rfl, ⟨⟨rfl, (show (.slice (some ⟨b22, o23, none⟩) s5.1.length c3 : Value) = .slice (some ⟨b22, o23, none⟩) y24.length c3 by rw [show s5.1.length = y24.length from (len_set (Option.some.inj hy24))]), rfl, trivial⟩, hS5.pick [0] rfl rfl⟩⟩
    replace h := bcF h hc7
    refine go ?_
    cases oi h
    exact ⟨trivial, rfl, ⟨⟨rfl, trivial⟩, hS3.pick [0] rfl rfl⟩⟩
  intro x e w28 hM
  obtain ⟨rfl, hM⟩ := hM
  obtain ⟨hE, hS6⟩ := hM
  obtain ⟨e, rfl⟩ := hE.out
  have h := h27
  refine go ?_
  cases h
  exact And.intro trivial ⟨_, Res.one (resOne.t rfl), a2, c3, rfl, hS6.pick [0] rfl rfl⟩

theorem W_s_l8Copy {w0 : World} {N : Nat} {x0 : List DObj} {r : (List DObj)} (h : F_s_l8Copy N x0 = some r) {a0_0 : Option Addr} {n0_0 c0_0 : Nat} (hn0_0 : n0_0 = x0.length) (hr0_0 : rdS (Bor w0 []) w0 a0_0 c0_0 x0) :
    Ret Tryz.prog 200 #[.slice a0_0 n0_0 c0_0] w0 (fun v w => ∃ ar0 cr0, v = .slice ar0 r.length cr0 ∧ St w0 [] w [sl ar0 cr0 r]) := by
  subst hn0_0
  unfold F_s_l8Copy at h
  refine Ret.fn Tryz.func200 fun e => ?_
  have hS1 := St.start w0
  refine go ?_
  refine LW.bsl (α := DObj) (vs := []) (cs := #[]) (l := ([] : List DObj)) rfl (by kernel_rfl) rfl rfl rfl (fun w => rfl) hS1 rfl ?_
  intro a1 c2 w3 hS2 hf
  refine go ?_
  obtain ⟨o38, ho38, h39⟩ := obind h
  refine CW.mono (CW.iter (σ := (List DObj) × Int) (ρ := (List DObj) × Int) (fun s4 e wb => ∃ (s4a0 : Option Addr), ∃ (s4c0 : Nat), En e [(0, .slice a0_0 x0.length c0_0), (3, .slice s4a0 s4.1.length s4c0), (4, .int .i64 s4.2)] ∧ St w0 [] wb [sl s4a0 s4c0 s4.1]) (fun s4 x e wb => x = .exit 0 ∧ ∃ (s4a0 : Option Addr), ∃ (s4c0 : Nat), En e [(3, .slice s4a0 s4.1.length s4c0)] ∧ St w0 [] wb [sl s4a0 s4c0 s4.1]) ?_ N (([] : List DObj), 0) _ _ _ ⟨a1, c2, ⟨rfl, rfl, rfl, trivial⟩, hS2.pick [0] rfl rfl⟩ ho38) ?_
  · intro s4 e w5 o hM h
    obtain ⟨s4a0, s4c0, hE, hS3⟩ := hM
    obtain ⟨e, rfl⟩ := hE.out
    refine go ?_
    refine cd (fun hc6 => ?_) fun hc6 => ?_
    · replace h := bcT h hc6
      refine go ?_
      replace ⟨y7, hy7, h⟩ := obind h
      obtain ⟨b10, o11, cs12, hae, hb15, hp8, hq9, hd13, hk14⟩ := hr0_0.idx hy7
      subst hae
      obtain ⟨a16, c17, a19, c20, a22, c23, rfl, hr18, hr21, hr24⟩ := hd13
      refine LW.u (Pur.ix Tryz.underlying60 sz104 rfl rfl hp8 hq9) rfl ?_
      refine LW.l (Ldr.oldN w0 ag104 rfl rfl (fun j u hu => hk14 j u hu)) (hS3.same _ hb15.1 hb15.2) rfl ?_
      replace ⟨y25, hy25, h⟩ := obind h
      refine LW.cl (W_s_l8Obj hy25 rfl (hS3.rB hr18) rfl (hS3.rB hr21) rfl (hS3.rB hr24)) ?_
      rintro _ w32 ⟨a26, c27, a28, c29, a30, c31, rfl, hs⟩
      have hS4 := hS3.add hs
      have hS5 := hS4.pick (M := [sl a26 c27 y25.links, sl a28 c29 y25.data, sl a30 c31 y25.queue] ++ [sl s4a0 s4c0 s4.1]) [0, 1, 2, 3] rfl rfl
      replace ⟨y33, hy33, h⟩ := obind h
      refine LW.app1 (M := [sl a26 c27 y25.links, sl a28 c29 y25.data, sl a30 c31 y25.queue]) (L := [sl s4a0 s4c0 s4.1]) (vs := #[.int .i64 y25.gen, .int .i64 y25.kind, .int .i64 y25.box, .int .i64 y25.res, .int .i64 y25.til, .int .i64 y25.pages, .int .i64 y25.wait, .int .i64 y25.got, .int .i64 y25.ran, .bool y25.mark, .slice a26 y25.links.length c27, .slice a28 y25.data.length c29, .slice a30 y25.queue.length c31]) (i := 0) sT60 rfl (by kernel_rfl) rfl rfl hy33 hS5 rfl (fun w G hG => ⟨a26, c27, a28, c29, a30, c31, rfl, hG⟩) rfl rfl ?_
      intro v36 a34 c35 w37 hS6 hf
      refine go ?_
      cases oi h
      exact ⟨rfl, ⟨a34, c35, ⟨rfl, rfl, rfl, trivial⟩, hS6.pick [0] rfl rfl⟩⟩
    replace h := bcF h hc6
    refine go ?_
    cases oi h
    exact ⟨trivial, rfl, ⟨s4a0, s4c0, ⟨rfl, trivial⟩, hS3.pick [0] rfl rfl⟩⟩
  intro x e w40 hM
  obtain ⟨rfl, hM⟩ := hM
  obtain ⟨s4a0, s4c0, hE, hS7⟩ := hM
  obtain ⟨e, rfl⟩ := hE.out
  have h := h39
  refine go ?_
  cases h
  exact And.intro trivial ⟨_, Res.one (resOne.t rfl), s4a0, s4c0, rfl, hS7.pick [0] rfl rfl⟩

theorem W_s_LabelOk {w0 : World} {N : Nat} {x0 : DLabel} {r : Bool} (h : F_s_LabelOk N x0 = some r) {a0_0 : Option Addr} {n0_0 c0_0 : Nat} (hn0_0 : n0_0 = x0.levels.length) (hr0_0 : rdS (Bor w0 []) w0 a0_0 c0_0 x0.levels) :
    Ret Tryz.prog 136 #[.agg #[.slice a0_0 n0_0 c0_0]] w0 (fun v w => v = .bool r ∧ St w0 [] w []) := by
  subst hn0_0
  unfold F_s_LabelOk at h
  refine Ret.fn Tryz.func136 fun e => ?_
  have hS1 := St.start w0
  refine go ?_
  refine LW.bo hS1 fun g1 w2 hS2 => ?_
  refine go ?_
  refine cd (fun hc3 => ?_) fun hc3 => ?_
  · replace h := bcT h hc3
    refine go ?_
    cases h
    exact fi hS2
  replace h := bcF h hc3
  refine go ?_
  obtain ⟨o19, ho19, h20⟩ := obind h
  refine CW.mono (CW.lx [1] [0] [] 0 (fun s4 => [(3, .int .i64 s4)]) (RT Tryz.prog Tryz.f136.results (fun u => .bool u) w0 []) hS2 ho19 (hb := ?_)) ?_
  · intro s4 e w5 o hS3 h
    refine go ?_
    refine cd (fun hc6 => ?_) fun hc6 => ?_
    · replace h := bcT h hc6
      refine go ?_
      replace ⟨y7, hy7, h⟩ := obind h
      obtain ⟨b10, o11, cs12, hae, hb15, hp8, hq9, hd13, hk14⟩ := hr0_0.idx hy7
      subst hae
      obtain rfl := hd13
      refine LW.u (Pur.ix Tryz.underlying52 sz3 rfl rfl hp8 hq9) rfl ?_
      refine LW.l (Ldr.old w0 ag3 rfl (hk14 0 _ rfl)) (hS3.same _ hb15.1 hb15.2) rfl ?_
      replace ⟨y16, hy16, h⟩ := obind h
      refine LW.c0 (W_s_l1In hy16) hS3 fun w17 hS4 => ?_
      refine go ?_
      refine CW.fl [1, 3, 21] fun e => ?_
      refine cd (fun hc18 => ?_) fun hc18 => ?_
      · replace h := bcT h hc18
        refine go ?_
        cases oi h
        exact ⟨trivial, rfl, _, rfl, ⟨_, Res.one (resOne.t rfl), rfl, hS4.pick [] rfl rfl⟩⟩
      replace h := bcF h hc18
      refine go ?_
      cases oi h
      exact ⟨rfl, ⟨⟨rfl, rfl, trivial⟩, hS4.pick [0] rfl rfl⟩⟩
    replace h := bcF h hc6
    refine go ?_
    cases oi h
    exact ⟨trivial, rfl, ⟨trivial, hS3.pick [0] rfl rfl⟩⟩
  intro x e w21 hM
  rcases o19 with o19 | r22
  · obtain ⟨rfl, hM⟩ := hM
    obtain ⟨hE, hS5⟩ := hM
    obtain ⟨e, rfl⟩ := hE.out; rw [show e = upds e [] from rfl]
    have h := h20
    refine go ?_
    cases h
    exact fi hS5
  obtain ⟨rfl, u, rfl, hM⟩ := hM
  cases h20
  exact And.intro trivial hM

theorem W_s_OwnOk {w0 : World} {N : Nat} {x0 : List Int} {r : Bool} (h : F_s_OwnOk N x0 = some r) {a0_0 : Option Addr} {n0_0 c0_0 : Nat} (hn0_0 : n0_0 = x0.length) (hr0_0 : rdS (Bor w0 []) w0 a0_0 c0_0 x0) :
    Ret Tryz.prog 137 #[.slice a0_0 n0_0 c0_0] w0 (fun v w => v = .bool r ∧ St w0 [] w []) := by
  subst hn0_0
  unfold F_s_OwnOk at h
  refine Ret.fn Tryz.func137 fun e => ?_
  have hS1 := St.start w0
  refine go ?_
  obtain ⟨o30, ho30, h31⟩ := obind h
  refine CW.mono (CW.lx [0] [] [] 0 (fun s1 => [(3, .int .i64 s1)]) (RT Tryz.prog Tryz.f137.results (fun u => .bool u) w0 []) hS1 ho30 (hb := ?_)) ?_
  · intro s1 e w2 o hS2 h
    refine go ?_
    refine cd (fun hc3 => ?_) fun hc3 => ?_
    · replace h := bcT h hc3
      refine gs ?_
      refine CW.block ?_
      refine gs ?_
      obtain ⟨j4, hj4, h5⟩ := obind h
      refine CW.jn [0, 3] [] [(31, .bool j4)] hS2 (h1 := ?_) (h2 := ?_)
      · have h := hj4
        refine CW.draw (by kernel_rfl) ?_
        have hS3 := hS2.drew
        refine go ?_
        replace ⟨y6, hy6, h⟩ := obind h
        obtain ⟨b9, o10, cs11, hae, hb14, hp7, hq8, hd12, hk13⟩ := hr0_0.idx hy6
        subst hae
        obtain rfl := hd12
        refine AW.u (i := 2) rfl (by kernel_rfl) rfl rfl (Pur.ix Tryz.underlying52 sz3 rfl rfl hp7 hq8) ?_
        refine AW.take (i := 3) rfl (by kernel_rfl) rfl rfl (Ldr.old w0 ag3 rfl (hk13 0 _ rfl)) (hS3.same _ hb14.1 hb14.2) ?_
        replace ⟨y15, hy15, h⟩ := obind h
        have q := W_s_l1In (w0 := w2.drew) hy15
        refine AW.one (i := 4) (by kernel_rfl) ?_
        refine ⟨_, rfl, ?_⟩
        refine LW.call pl27 rfl rfl ?_
        refine Ret.mono q ?_
        rintro _ w16 ⟨rfl, hs⟩
        have hS4 := hS3.add hs
        refine LW.nil ⟨rfl, (.w (by kernel_rfl) Kept.n), ?_⟩
        refine go ?_
        rcases bcases (!y15) with hc17 | hc17
        · replace h := bcT h hc17
          refine go ?_
          cases oi h
          exact ⟨⟨rfl, rfl, rfl, trivial⟩, hS4.pick [] rfl rfl⟩
        replace h := bcF h hc17
        refine go ?_
        rcases bcases (decide (s1 > 0)) with hc18 | hc18
        · replace h := bcT h hc18
          refine go ?_
          refine AW.u (i := 12) rfl (by kernel_rfl) (want_of rfl rfl hc18) rfl (Pur.ix Tryz.underlying52 sz3 rfl rfl hp7 hq8) ?_
          refine AW.take (i := 13) rfl (by kernel_rfl) (want_of rfl rfl hc18) rfl (Ldr.old w0 ag3 rfl (hk13 0 _ rfl)) (hS4.same _ hb14.1 hb14.2) ?_
          refine go ?_
          replace ⟨y19, hy19, h⟩ := obind h
          obtain ⟨b22, o23, cs24, hae, hb27, hp20, hq21, hd25, hk26⟩ := hr0_0.idx hy19
          cases hae
          obtain rfl := hd25
          refine AW.u (i := 17) rfl (by kernel_rfl) (want_of rfl rfl hc18) rfl (Pur.ix Tryz.underlying52 sz3 rfl rfl hp20 hq21) ?_
          refine AW.take (i := 18) rfl (by kernel_rfl) (want_of rfl rfl hc18) rfl (Ldr.old w0 ag3 rfl (hk26 0 _ rfl)) (hS4.same _ hb27.1 hb27.2) ?_
          refine go ?_
          cases oi h
          exact ⟨⟨rfl, rfl, rfl, trivial⟩, hS4.pick [] rfl rfl⟩
        replace h := bcF h hc18
        refine go ?_
        cases oi h
        exact ⟨⟨rfl, rfl, rfl, trivial⟩, hS4.pick [] rfl rfl⟩
      intro e w28 hS5
      have h := h5
      refine go ?_
      refine cd (fun hc29 => ?_) fun hc29 => ?_
      · replace h := bcT h hc29
        refine go ?_
        cases oi h
        exact ⟨trivial, rfl, _, rfl, ⟨_, Res.one (resOne.t rfl), rfl, hS5.pick [] rfl rfl⟩⟩
      replace h := bcF h hc29
      refine go ?_
      cases oi h
      exact ⟨rfl, ⟨⟨rfl, rfl, trivial⟩, hS5.pick [] rfl rfl⟩⟩
    replace h := bcF h hc3
    refine go ?_
    cases oi h
    exact ⟨trivial, rfl, ⟨trivial, hS2.pick [] rfl rfl⟩⟩
  intro x e w32 hM
  rcases o30 with o30 | r33
  · obtain ⟨rfl, hM⟩ := hM
    obtain ⟨hE, hS6⟩ := hM
    obtain ⟨e, rfl⟩ := hE.out; rw [show e = upds e [] from rfl]
    have h := h31
    refine go ?_
    cases h
    exact fi hS6
  obtain ⟨rfl, u, rfl, hM⟩ := hM
  cases h31
  exact And.intro trivial hM

theorem W_s_l5In {w0 : World} {N : Nat} {x0 : Int} {r : Bool} (h : F_s_l5In N x0 = some r) :
    Ret Tryz.prog 140 #[.int .i64 x0] w0 (fun v w => v = .bool r ∧ St w0 [] w []) := by
  unfold F_s_l5In at h
  refine Ret.fn Tryz.func140 fun e => ?_
  have hS1 := St.start w0
  refine go ?_
  replace ⟨y1, hy1, h⟩ := obind h
  refine LW.c0 (W_s_l1In hy1) hS1 fun w2 hS2 => ?_
  refine go ?_
  cases h
  exact fi hS2

theorem W_s_l6Res {w0 : World} {N : Nat} {x0 : Int} {r : Bool} (h : F_s_l6Res N x0 = some r) :
    Ret Tryz.prog 142 #[.int .i64 x0] w0 (fun v w => v = .bool r ∧ St w0 [] w []) := by
  unfold F_s_l6Res at h
  refine Ret.fn Tryz.func142 fun e => ?_
  have hS1 := St.start w0
  refine go ?_
  replace ⟨y1, hy1, h⟩ := obind h
  refine LW.c0 (W_s_l1In hy1) hS1 fun w2 hS2 => ?_
  refine go ?_
  cases h
  exact fi hS2

theorem W_s_l7Copy {w0 : World} {N : Nat} {x0 : List DTree} {r : (List DTree)} (h : F_s_l7Copy N x0 = some r) {a0_0 : Option Addr} {n0_0 c0_0 : Nat} (hn0_0 : n0_0 = x0.length) (hr0_0 : rdS (Bor w0 []) w0 a0_0 c0_0 x0) :
    Ret Tryz.prog 73 #[.slice a0_0 n0_0 c0_0] w0 (fun v w => ∃ ar0 cr0, v = .slice ar0 r.length cr0 ∧ St w0 [] w [sl ar0 cr0 r]) := by
  subst hn0_0
  unfold F_s_l7Copy at h
  refine Ret.fn Tryz.func73 fun e => ?_
  have hS1 := St.start w0
  refine go ?_
  refine LW.bsl (α := DTree) (vs := []) (cs := #[]) (l := ([] : List DTree)) rfl (by kernel_rfl) rfl rfl rfl (fun w => rfl) hS1 rfl ?_
  intro a1 c2 w3 hS2 hf
  refine go ?_
  obtain ⟨o28, ho28, h29⟩ := obind h
  refine CW.mono (CW.iter (σ := (List DTree) × Int) (ρ := (List DTree) × Int) (fun s4 e wb => ∃ (s4a0 : Option Addr), ∃ (s4c0 : Nat), En e [(0, .slice a0_0 x0.length c0_0), (3, .slice s4a0 s4.1.length s4c0), (4, .int .i64 s4.2)] ∧ St w0 [] wb [sl s4a0 s4c0 s4.1]) (fun s4 x e wb => x = .exit 0 ∧ ∃ (s4a0 : Option Addr), ∃ (s4c0 : Nat), En e [(3, .slice s4a0 s4.1.length s4c0)] ∧ St w0 [] wb [sl s4a0 s4c0 s4.1]) ?_ N (([] : List DTree), 0) _ _ _ ⟨a1, c2, ⟨rfl, rfl, rfl, trivial⟩, hS2.pick [0] rfl rfl⟩ ho28) ?_
  · intro s4 e w5 o hM h
    obtain ⟨s4a0, s4c0, hE, hS3⟩ := hM
    obtain ⟨e, rfl⟩ := hE.out
    refine go ?_
    refine cd (fun hc6 => ?_) fun hc6 => ?_
    · replace h := bcT h hc6
      refine go ?_
      replace ⟨y7, hy7, h⟩ := obind h
      obtain ⟨b10, o11, cs12, hae, hb15, hp8, hq9, hd13, hk14⟩ := hr0_0.idx hy7
      subst hae
      obtain ⟨a16, c17, rfl, hr18⟩ := hd13
      refine LW.u (Pur.ix Tryz.underlying76 sz78 rfl rfl hp8 hq9) rfl ?_
      refine go ?_
      refine LW.l (Ldr.old w0 ag59 rfl (hk14 0 _ rfl)) (hS3.same _ hb15.1 hb15.2) rfl ?_
      replace ⟨y19, hy19, h⟩ := obind h
      refine LW.cl (W_s_l6Copy hy19 rfl (hS3.rB hr18)) ?_
      rintro _ w22 ⟨a20, c21, rfl, hs⟩
      have hS4 := hS3.add hs
      refine LW.u (Pur.build (vs := [(0, .slice a20 y19.length c21)]) (cs := #[.slice a20 y19.length c21]) rfl (by kernel_rfl)) rfl ?_
      have hS5 := hS4.pick (M := [sl a20 c21 y19] ++ [sl s4a0 s4c0 s4.1]) [0, 1] rfl rfl
      replace ⟨y23, hy23, h⟩ := obind h
      refine LW.app1 (M := [sl a20 c21 y19]) (L := [sl s4a0 s4c0 s4.1]) (vs := #[.slice a20 y19.length c21]) (i := 0) sT76 rfl (by kernel_rfl) rfl rfl hy23 hS5 rfl (fun w G hG => ⟨a20, c21, rfl, hG⟩) rfl rfl ?_
      intro v26 a24 c25 w27 hS6 hf
      refine go ?_
      cases oi h
      exact ⟨rfl, ⟨a24, c25, ⟨rfl, rfl, rfl, trivial⟩, hS6.pick [0] rfl rfl⟩⟩
    replace h := bcF h hc6
    refine go ?_
    cases oi h
    exact ⟨trivial, rfl, ⟨s4a0, s4c0, ⟨rfl, trivial⟩, hS3.pick [0] rfl rfl⟩⟩
  intro x e w30 hM
  obtain ⟨rfl, hM⟩ := hM
  obtain ⟨s4a0, s4c0, hE, hS7⟩ := hM
  obtain ⟨e, rfl⟩ := hE.out
  have h := h29
  refine go ?_
  cases h
  exact And.intro trivial ⟨_, Res.one (resOne.t rfl), s4a0, s4c0, rfl, hS7.pick [0] rfl rfl⟩

theorem W_l_eqLabel {w0 : World} {N : Nat} {x0 : DLabel} {x1 : DLabel} {r : Bool} (h : F_l_eqLabel N x0 x1 = some r) {a0_0 : Option Addr} {n0_0 c0_0 : Nat} (hn0_0 : n0_0 = x0.levels.length) (hr0_0 : rdS (Bor w0 []) w0 a0_0 c0_0 x0.levels) {a1_0 : Option Addr} {n1_0 c1_0 : Nat} (hn1_0 : n1_0 = x1.levels.length) (hr1_0 : rdS (Bor w0 []) w0 a1_0 c1_0 x1.levels) :
    Ret Tryz.prog 161 #[.agg #[.slice a0_0 n0_0 c0_0], .agg #[.slice a1_0 n1_0 c1_0]] w0 (fun v w => v = .bool r ∧ St w0 [] w []) := by
  subst hn0_0 hn1_0
  unfold F_l_eqLabel at h
  refine Ret.fn Tryz.func161 fun e => ?_
  have hS1 := St.start w0
  refine go ?_
  refine LW.bo hS1 fun g1 w2 hS2 => ?_
  refine LW.bo hS2 fun g3 w4 hS3 => ?_
  refine go ?_
  replace ⟨y5, hy5, h⟩ := obind h
  refine LW.c0 (W_l_eqIntS hy5 rfl (hS3.rB hr0_0) rfl (hS3.rB hr1_0)) hS3 fun w6 hS4 => ?_
  refine go ?_
  refine cd (fun hc7 => ?_) fun hc7 => ?_
  · replace h := bcT h hc7
    refine go ?_
    cases h
    exact fi hS4
  replace h := bcF h hc7
  refine go ?_
  cases h
  exact fi hS4

theorem W_l_eqRes {w0 : World} {N : Nat} {x0 : DRes} {x1 : DRes} {r : Bool} (h : F_l_eqRes N x0 x1 = some r) :
    Ret Tryz.prog 211 #[.agg #[.bool x0.live, .int .i64 x0.parent, .int .i64 x0.bal.pages, .int .i64 x0.bal.rent, .int .i64 x0.bal.cpu], .agg #[.bool x1.live, .int .i64 x1.parent, .int .i64 x1.bal.pages, .int .i64 x1.bal.rent, .int .i64 x1.bal.cpu]] w0 (fun v w => v = .bool r ∧ St w0 [] w []) := by
  unfold F_l_eqRes at h
  refine Ret.fn Tryz.func211 fun e => ?_
  have hS1 := St.start w0
  refine go ?_
  refine LW.bo hS1 fun g1 w2 hS2 => ?_
  refine LW.bo hS2 fun g3 w4 hS3 => ?_
  refine go ?_
  refine LW.u (Pur.bne Tryz.underlying4 rfl rfl) rfl ?_
  refine go ?_
  refine cd (fun hc5 => ?_) fun hc5 => ?_
  · replace h := bcT h hc5
    refine go ?_
    cases h
    exact fi hS3
  replace h := bcF h hc5
  refine go ?_
  refine CW.fl [2, 3, 14] fun e => ?_
  refine cd (fun hc6 => ?_) fun hc6 => ?_
  · replace h := bcT h hc6
    refine go ?_
    cases h
    exact fi hS3
  replace h := bcF h hc6
  refine go ?_
  replace ⟨y7, hy7, h⟩ := obind h
  refine LW.c0 (W_l_eqAmt hy7) hS3 fun w8 hS4 => ?_
  refine go ?_
  refine cd (fun hc9 => ?_) fun hc9 => ?_
  · replace h := bcT h hc9
    refine go ?_
    cases h
    exact fi hS4
  replace h := bcF h hc9
  refine go ?_
  cases h
  exact fi hS4

theorem W_l_eqMsgS {w0 : World} {N : Nat} {x0 : List DMsg} {x1 : List DMsg} {r : Bool} (h : F_l_eqMsgS N x0 x1 = some r) {a0_0 : Option Addr} {n0_0 c0_0 : Nat} (hn0_0 : n0_0 = x0.length) (hr0_0 : rdS (Bor w0 []) w0 a0_0 c0_0 x0) {a1_0 : Option Addr} {n1_0 c1_0 : Nat} (hn1_0 : n1_0 = x1.length) (hr1_0 : rdS (Bor w0 []) w0 a1_0 c1_0 x1) :
    Ret Tryz.prog 236 #[.slice a0_0 n0_0 c0_0, .slice a1_0 n1_0 c1_0] w0 (fun v w => v = .bool r ∧ St w0 [] w []) := by
  subst hn0_0 hn1_0
  unfold F_l_eqMsgS at h
  refine Ret.fn Tryz.func236 fun e => ?_
  have hS1 := St.start w0
  refine go ?_
  refine cd (fun hc1 => ?_) fun hc1 => ?_
  · replace h := bcT h hc1
    refine go ?_
    cases h
    exact fi hS1
  replace h := bcF h hc1
  refine go ?_
  obtain ⟨o26, ho26, h27⟩ := obind h
  refine CW.mono (CW.lx [0, 1] [] [] 0 (fun s2 => [(5, .int .i64 s2)]) (RT Tryz.prog Tryz.f236.results (fun u => .bool u) w0 []) hS1 ho26 (hb := ?_)) ?_
  · intro s2 e w3 o hS2 h
    refine go ?_
    refine cd (fun hc4 => ?_) fun hc4 => ?_
    · replace h := bcT h hc4
      refine go ?_
      refine CW.draw (by kernel_rfl) ?_
      have hS3 := hS2.drew
      refine go ?_
      replace ⟨y5, hy5, h⟩ := obind h
      obtain ⟨b8, o9, cs10, hae, hb13, hp6, hq7, hd11, hk12⟩ := hr0_0.idx hy5
      subst hae
      obtain rfl := hd11
      refine AW.u (i := 2) rfl (by kernel_rfl) rfl rfl (Pur.ix Tryz.underlying102 sz170 rfl rfl hp6 hq7) ?_
      refine AW.take (i := 3) rfl (by kernel_rfl) rfl rfl (Ldr.oldN w0 ag170 rfl rfl (fun j u hu => hk12 j u hu)) (hS3.same _ hb13.1 hb13.2) ?_
      refine go ?_
      replace ⟨y14, hy14, h⟩ := obind h
      obtain ⟨b17, o18, cs19, hae, hb22, hp15, hq16, hd20, hk21⟩ := hr1_0.idx hy14
      subst hae
      obtain rfl := hd20
      refine AW.u (i := 6) rfl (by kernel_rfl) rfl rfl (Pur.ix Tryz.underlying102 sz170 rfl rfl hp15 hq16) ?_
      refine AW.take (i := 7) rfl (by kernel_rfl) rfl rfl (Ldr.oldN w0 ag170 rfl rfl (fun j u hu => hk21 j u hu)) (hS3.same _ hb22.1 hb22.2) ?_
      replace ⟨y23, hy23, h⟩ := obind h
      have q := W_l_eqMsg (w0 := w3.drew) hy23
      refine AW.one (i := 8) (by kernel_rfl) ?_
      refine ⟨_, rfl, ?_⟩
      refine LW.call pl238 rfl rfl ?_
      refine Ret.mono q ?_
      rintro _ w24 ⟨rfl, hs⟩
      have hS4 := hS3.add hs
      refine LW.nil ⟨rfl, (.w (by kernel_rfl) (.w (by kernel_rfl) Kept.n)), ?_⟩
      refine go ?_
      refine cd (fun hc25 => ?_) fun hc25 => ?_
      · replace h := bcT h hc25
        refine go ?_
        cases oi h
        exact ⟨trivial, rfl, _, rfl, ⟨_, Res.one (resOne.t rfl), rfl, hS4.pick [] rfl rfl⟩⟩
      replace h := bcF h hc25
      refine go ?_
      cases oi h
      exact ⟨rfl, ⟨⟨rfl, rfl, rfl, trivial⟩, hS4.pick [] rfl rfl⟩⟩
    replace h := bcF h hc4
    refine go ?_
    cases oi h
    exact ⟨trivial, rfl, ⟨trivial, hS2.pick [] rfl rfl⟩⟩
  intro x e w28 hM
  rcases o26 with o26 | r29
  · obtain ⟨rfl, hM⟩ := hM
    obtain ⟨hE, hS5⟩ := hM
    obtain ⟨e, rfl⟩ := hE.out; rw [show e = upds e [] from rfl]
    have h := h27
    refine go ?_
    cases h
    exact fi hS5
  obtain ⟨rfl, u, rfl, hM⟩ := hM
  cases h27
  exact And.intro trivial hM

theorem W_l_eqGc {w0 : World} {N : Nat} {x0 : DGc} {x1 : DGc} {r : Bool} (h : F_l_eqGc N x0 x1 = some r) {a0_3 : Option Addr} {n0_3 c0_3 : Nat} (hn0_3 : n0_3 = x0.grey.length) (hr0_3 : rdS (Bor w0 []) w0 a0_3 c0_3 x0.grey) {a1_3 : Option Addr} {n1_3 c1_3 : Nat} (hn1_3 : n1_3 = x1.grey.length) (hr1_3 : rdS (Bor w0 []) w0 a1_3 c1_3 x1.grey) :
    Ret Tryz.prog 213 #[.agg #[.int .i64 x0.phase, .int .i64 x0.pos, .int .i64 x0.round, .slice a0_3 n0_3 c0_3], .agg #[.int .i64 x1.phase, .int .i64 x1.pos, .int .i64 x1.round, .slice a1_3 n1_3 c1_3]] w0 (fun v w => v = .bool r ∧ St w0 [] w []) := by
  subst hn0_3 hn1_3
  unfold F_l_eqGc at h
  refine Ret.fn Tryz.func213 fun e => ?_
  have hS1 := St.start w0
  refine go ?_
  refine LW.bo hS1 fun g1 w2 hS2 => ?_
  refine LW.bo hS2 fun g3 w4 hS3 => ?_
  refine go ?_
  refine cd (fun hc5 => ?_) fun hc5 => ?_
  · replace h := bcT h hc5
    refine go ?_
    cases h
    exact fi hS3
  replace h := bcF h hc5
  refine go ?_
  refine CW.fl [2, 3, 14] fun e => ?_
  refine cd (fun hc6 => ?_) fun hc6 => ?_
  · replace h := bcT h hc6
    refine go ?_
    cases h
    exact fi hS3
  replace h := bcF h hc6
  refine go ?_
  refine cd (fun hc7 => ?_) fun hc7 => ?_
  · replace h := bcT h hc7
    refine go ?_
    cases h
    exact fi hS3
  replace h := bcF h hc7
  refine go ?_
  replace ⟨y8, hy8, h⟩ := obind h
  refine LW.c0 (W_l_eqIntS hy8 rfl (hS3.rB hr0_3) rfl (hS3.rB hr1_3)) hS3 fun w9 hS4 => ?_
  refine go ?_
  refine cd (fun hc10 => ?_) fun hc10 => ?_
  · replace h := bcT h hc10
    refine go ?_
    cases h
    exact fi hS4
  replace h := bcF h hc10
  refine go ?_
  cases h
  exact fi hS4

theorem W_l_eqTapS {w0 : World} {N : Nat} {x0 : List DTap} {x1 : List DTap} {r : Bool} (h : F_l_eqTapS N x0 x1 = some r) {a0_0 : Option Addr} {n0_0 c0_0 : Nat} (hn0_0 : n0_0 = x0.length) (hr0_0 : rdS (Bor w0 []) w0 a0_0 c0_0 x0) {a1_0 : Option Addr} {n1_0 c1_0 : Nat} (hn1_0 : n1_0 = x1.length) (hr1_0 : rdS (Bor w0 []) w0 a1_0 c1_0 x1) :
    Ret Tryz.prog 165 #[.slice a0_0 n0_0 c0_0, .slice a1_0 n1_0 c1_0] w0 (fun v w => v = .bool r ∧ St w0 [] w []) := by
  subst hn0_0 hn1_0
  unfold F_l_eqTapS at h
  refine Ret.fn Tryz.func165 fun e => ?_
  have hS1 := St.start w0
  refine go ?_
  refine cd (fun hc1 => ?_) fun hc1 => ?_
  · replace h := bcT h hc1
    refine go ?_
    cases h
    exact fi hS1
  replace h := bcF h hc1
  refine go ?_
  obtain ⟨o26, ho26, h27⟩ := obind h
  refine CW.mono (CW.lx [0, 1] [] [] 0 (fun s2 => [(5, .int .i64 s2)]) (RT Tryz.prog Tryz.f165.results (fun u => .bool u) w0 []) hS1 ho26 (hb := ?_)) ?_
  · intro s2 e w3 o hS2 h
    refine go ?_
    refine cd (fun hc4 => ?_) fun hc4 => ?_
    · replace h := bcT h hc4
      refine go ?_
      refine CW.draw (by kernel_rfl) ?_
      have hS3 := hS2.drew
      refine go ?_
      replace ⟨y5, hy5, h⟩ := obind h
      obtain ⟨b8, o9, cs10, hae, hb13, hp6, hq7, hd11, hk12⟩ := hr0_0.idx hy5
      subst hae
      obtain rfl := hd11
      refine AW.u (i := 2) rfl (by kernel_rfl) rfl rfl (Pur.ix Tryz.underlying65 sz82 rfl rfl hp6 hq7) ?_
      refine AW.take (i := 3) rfl (by kernel_rfl) rfl rfl (Ldr.oldN w0 ag82 rfl rfl (fun j u hu => hk12 j u hu)) (hS3.same _ hb13.1 hb13.2) ?_
      refine go ?_
      replace ⟨y14, hy14, h⟩ := obind h
      obtain ⟨b17, o18, cs19, hae, hb22, hp15, hq16, hd20, hk21⟩ := hr1_0.idx hy14
      subst hae
      obtain rfl := hd20
      refine AW.u (i := 6) rfl (by kernel_rfl) rfl rfl (Pur.ix Tryz.underlying65 sz82 rfl rfl hp15 hq16) ?_
      refine AW.take (i := 7) rfl (by kernel_rfl) rfl rfl (Ldr.oldN w0 ag82 rfl rfl (fun j u hu => hk21 j u hu)) (hS3.same _ hb22.1 hb22.2) ?_
      replace ⟨y23, hy23, h⟩ := obind h
      have q := W_l_eqTap (w0 := w3.drew) hy23
      refine AW.one (i := 8) (by kernel_rfl) ?_
      refine ⟨_, rfl, ?_⟩
      refine LW.call pl214 rfl rfl ?_
      refine Ret.mono q ?_
      rintro _ w24 ⟨rfl, hs⟩
      have hS4 := hS3.add hs
      refine LW.nil ⟨rfl, (.w (by kernel_rfl) (.w (by kernel_rfl) Kept.n)), ?_⟩
      refine go ?_
      refine cd (fun hc25 => ?_) fun hc25 => ?_
      · replace h := bcT h hc25
        refine go ?_
        cases oi h
        exact ⟨trivial, rfl, _, rfl, ⟨_, Res.one (resOne.t rfl), rfl, hS4.pick [] rfl rfl⟩⟩
      replace h := bcF h hc25
      refine go ?_
      cases oi h
      exact ⟨rfl, ⟨⟨rfl, rfl, rfl, trivial⟩, hS4.pick [] rfl rfl⟩⟩
    replace h := bcF h hc4
    refine go ?_
    cases oi h
    exact ⟨trivial, rfl, ⟨trivial, hS2.pick [] rfl rfl⟩⟩
  intro x e w28 hM
  rcases o26 with o26 | r29
  · obtain ⟨rfl, hM⟩ := hM
    obtain ⟨hE, hS5⟩ := hM
    obtain ⟨e, rfl⟩ := hE.out; rw [show e = upds e [] from rfl]
    have h := h27
    refine go ?_
    cases h
    exact fi hS5
  obtain ⟨rfl, u, rfl, hM⟩ := hM
  cases h27
  exact And.intro trivial hM

end Go.Kx
