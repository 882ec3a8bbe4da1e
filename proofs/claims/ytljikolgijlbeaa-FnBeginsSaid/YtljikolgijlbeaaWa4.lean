/- Each call returns what the plain function says. Printed by drive.py. -/
import Derived.Test.YtljikolgijlbeaaFa
import Derived.Test.YtljikolgijlbeaaPu
import Derived.Test.YtljikolgijlbeaaWa0
namespace Go.Kx
open Go Go.RowKit Go.Proofs
set_option maxRecDepth 10000
set_option maxHeartbeats 8000000
set_option linter.unusedVariables false
set_option linter.unusedSimpArgs false
theorem W_s_l1New {w0 : World} {N : Nat} {x0 : List U8} {r : DCur} (h : F_s_l1New N x0 = some r) {a0_0 : Option Addr} {n0_0 c0_0 : Nat} (hn0_0 : n0_0 = x0.length) (hr0_0 : rdS (Bor w0 []) w0 a0_0 c0_0 x0) :
    Ret Try.prog 27 #[.slice a0_0 n0_0 c0_0] w0 (fun v w => ∃ gr0, v = .pointer (some ⟨gr0, 0, none⟩) ∧ St w0 [] w [bx gr0 106 [.slice a0_0 x0.length c0_0, .int .i64 r.i, .int .i64 r.h]]) := by
  subst hn0_0
  unfold F_s_l1New at h
  refine Ret.fn Try.func27 fun e => ?_
  have hS1 := St.start w0
  refine go ?_
  obtain ⟨o17, ho17, h18⟩ := obind h
  refine CW.mono (CW.lb [0] [] [0, 3] 0 (fun s1 => [(3, .int .i64 s1.1), (4, .int .i64 s1.2)]) hS1 ho17 (hb := ?_)) ?_
  · intro s1 e w2 o hS2 h
    refine gs ?_
    obtain ⟨j3, hj3, h4⟩ := obind h
    refine CW.jn [0, 3, 4] [] [(15, .bool j3)] hS2 (h1 := ?_) (h2 := ?_)
    · have h := hj3
      refine go ?_
      rcases bcases (decide (s1.2 < (x0.length : Int))) with hc5 | hc5
      · replace h := bcT h hc5
        refine go ?_
        cases oi h
        exact ⟨⟨rfl, rfl, rfl, rfl, trivial⟩, hS2.pick [] rfl rfl⟩
      replace h := bcF h hc5
      refine go ?_
      cases oi h
      exact ⟨⟨rfl, rfl, rfl, rfl, trivial⟩, hS2.pick [] rfl rfl⟩
    intro e w6 hS3
    have h := h4
    refine go ?_
    refine cd (fun hc7 => ?_) fun hc7 => ?_
    · replace h := bcT h hc7
      refine go ?_
      replace ⟨y8, hy8, h⟩ := obind h
      obtain ⟨b11, o12, cs13, hae, hb16, hp9, hq10, hd14, hk15⟩ := hr0_0.idx hy8
      subst hae
      obtain rfl := hd14
      refine LW.u (Pur.ix Try.underlying22 sz5 rfl rfl hp9 hq10) rfl ?_
      refine LW.l (Ldr.old w0 ag5 rfl (hk15 0 _ rfl)) (hS3.same _ hb16.1 hb16.2) rfl ?_
      refine LW.u (Pur.conv Try.underlying5 Try.underlying3 rfl) rfl ?_
      refine go ?_
      cases oi h
      exact ⟨rfl, ⟨⟨rfl, rfl, rfl, trivial⟩, hS3.pick [] rfl rfl⟩⟩
    replace h := bcF h hc7
    refine go ?_
    cases oi h
    exact ⟨trivial, rfl, ⟨⟨rfl, rfl, trivial⟩, hS3.pick [] rfl rfl⟩⟩
  intro x e w19 hM
  obtain ⟨rfl, hM⟩ := hM
  obtain ⟨hE, hS4⟩ := hM
  obtain ⟨e, rfl⟩ := hE.out
  have h := h18
  refine go ?_
  refine LW.u (Pur.build (vs := [(0, .slice a0_0 x0.length c0_0), (2, .int .i64 o17.1)]) (cs := #[.slice a0_0 x0.length c0_0, .int .i64 0, .int .i64 o17.1]) rfl (by kernel_rfl)) rfl ?_
  refine LW.bo hS4 fun g20 w21 hS5 => ?_
  refine go ?_
  cases h
  exact And.intro trivial ⟨_, Res.one (resOne.t rfl), g20, rfl, hS5.pick [0] rfl rfl⟩

theorem W_s_l1Byte {w0 : World} {F : List Nat} {N : Nat} {x0 : DCur} {r : Int × DCur} (h : F_s_l1Byte N x0 = some r) {g0 : Nat} {a0_0 : Option Addr} {c0_0 : Nat} (hr0_0 : rdS (Bor w0 F) w0 a0_0 c0_0 x0.b) (hS : St w0 F w0 [bx g0 106 [.slice a0_0 x0.b.length c0_0, .int .i64 x0.i, .int .i64 x0.h]]) :
    Ret Try.prog 67 #[.pointer (some ⟨g0, 0, none⟩)] w0 (fun v w => v = .int .i64 r.1 ∧ St w0 F w [bx g0 106 [.slice a0_0 x0.b.length c0_0, .int .i64 r.2.i, .int .i64 r.2.h]]) := by
  unfold F_s_l1Byte at h
  refine Ret.fn Try.func67 fun e => ?_
  refine go ?_
  refine LW.u (Pur.nc rfl) rfl ?_
  refine go ?_
  refine LW.u (Pur.nc rfl) rfl ?_
  refine go ?_
  refine LW.st hS 0 fun w1 hS1 => ?_
  refine go ?_
  refine CW.draw (by kernel_rfl) ?_
  have hS2 := hS1.drew
  refine go ?_
  refine AW.u (i := 4) rfl (by kernel_rfl) rfl rfl (Pur.shr rfl rfl (by decide)) ?_
  refine go ?_
  refine AW.u (i := 9) rfl (by kernel_rfl) rfl rfl (Pur.shr rfl rfl (by decide)) ?_
  refine go ?_
  refine CW.draw (by kernel_rfl) ?_
  have hS3 := hS2.drew
  refine go ?_
  refine cd (fun hc2 => ?_) fun hc2 => ?_
  · replace h := bcT h hc2
    refine go ?_
    refine CW.draw (by kernel_rfl) ?_
    have hS4 := hS3.drew
    refine go ?_
    replace ⟨y3, hy3, h⟩ := obind h
    obtain ⟨b6, o7, cs8, hae, hb11, hp4, hq5, hd9, hk10⟩ := hr0_0.idx hy3
    subst hae
    obtain rfl := hd9
    refine AW.u (i := 9) rfl (by kernel_rfl) rfl rfl (Pur.ix Try.underlying22 sz5 rfl rfl hp4 hq5) ?_
    refine AW.take (i := 10) rfl (by kernel_rfl) rfl rfl (Ldr.old w0 ag5 rfl (hk10 0 _ rfl)) (hS4.same _ hb11.1 hb11.2) ?_
    refine AW.u (i := 11) rfl (by kernel_rfl) rfl rfl (Pur.conv Try.underlying5 Try.underlying3 rfl) ?_
    refine go ?_
    refine LW.u (Pur.nc rfl) rfl ?_
    refine go ?_
    refine LW.u (Pur.nc rfl) rfl ?_
    refine go ?_
    refine LW.st hS4 0 fun w12 hS5 => ?_
    refine go ?_
    replace h := Option.some.inj h
    subst h
    exact And.intro trivial ⟨_, Res.one (resOne.t rfl), rfl, hS5.pick [0] rfl rfl⟩
  replace h := bcF h hc2
  refine go ?_
  replace h := Option.some.inj h
  subst h
  exact And.intro trivial ⟨_, Res.one (resOne.t rfl), rfl, hS3.pick [0] rfl rfl⟩

theorem W_s_l6Sum {w0 : World} {N : Nat} {x0 : List DRes} {r : DAmt} (h : F_s_l6Sum N x0 = some r) {a0_0 : Option Addr} {n0_0 c0_0 : Nat} (hn0_0 : n0_0 = x0.length) (hr0_0 : rdS (Bor w0 []) w0 a0_0 c0_0 x0) :
    Ret Try.prog 76 #[.slice a0_0 n0_0 c0_0] w0 (fun v w => v = .agg #[.int .i64 r.pages, .int .i64 r.rent, .int .i64 r.cpu] ∧ St w0 [] w []) := by
  subst hn0_0
  unfold F_s_l6Sum at h
  refine Ret.fn Try.func76 fun e => ?_
  have hS1 := St.start w0
  refine go ?_
  refine LW.al hS1 fun g1 w2 hS2 => ?_
  refine go ?_
  refine LW.u (Pur.build (vs := []) (cs := #[.int .i64 0, .int .i64 0, .int .i64 0]) rfl (by kernel_rfl)) rfl ?_
  refine LW.al hS2 fun g3 w4 hS3 => ?_
  refine LW.st hS3 0 fun w5 hS4 => ?_
  refine go ?_
  obtain ⟨o22, ho22, h23⟩ := obind h
  refine CW.mono (CW.iter (σ := Int × Int × Int × Int) (ρ := Int × Int × Int × Int) (fun s6 e wb => En e [(0, .slice a0_0 x0.length c0_0), (2, .pointer (some ⟨g1, 0, none⟩)), (3, .pointer (some ⟨g3, 0, none⟩)), (4, .int .i64 s6.1)] ∧ St w0 [] wb [bx g3 28 [.int .i64 s6.2.1, .int .i64 s6.2.2.1, .int .i64 s6.2.2.2], bx g1 28 [.int .i64 0, .int .i64 0, .int .i64 0]]) (fun s6 x e wb => x = .exit 0 ∧ En e [(2, .pointer (some ⟨g1, 0, none⟩)), (3, .pointer (some ⟨g3, 0, none⟩))] ∧ St w0 [] wb [bx g3 28 [.int .i64 s6.2.1, .int .i64 s6.2.2.1, .int .i64 s6.2.2.2], bx g1 28 [.int .i64 0, .int .i64 0, .int .i64 0]]) ?_ N (0, 0, 0, 0) _ _ _ ⟨⟨rfl, rfl, rfl, rfl, trivial⟩, hS4.pick [0, 1] rfl rfl⟩ ho22) ?_
  · intro s6 e w7 o hM h
    obtain ⟨hE, hS5⟩ := hM
    obtain ⟨e, rfl⟩ := hE.out
    refine go ?_
    refine cd (fun hc8 => ?_) fun hc8 => ?_
    · replace h := bcT h hc8
      refine go ?_
      replace ⟨y9, hy9, h⟩ := obind h
      obtain ⟨b12, o13, cs14, hae, hb17, hp10, hq11, hd15, hk16⟩ := hr0_0.idx hy9
      subst hae
      obtain rfl := hd15
      refine LW.u (Pur.ix Try.underlying32 sz111 rfl rfl hp10 hq11) rfl ?_
      refine go ?_
      refine LW.l (Ldr.old w0 ag4 rfl (hk16 0 _ rfl)) (hS5.same _ hb17.1 hb17.2) rfl ?_
      refine go ?_
      refine CW.fl [0, 2, 3, 4, 16] fun e => ?_
      refine cd (fun hc18 => ?_) fun hc18 => ?_
      · replace h := bcT h hc18
        refine go ?_
        refine CW.draw (by kernel_rfl) ?_
        have hS6 := hS5.drew
        refine go ?_
        refine AW.u (i := 4) rfl (by kernel_rfl) rfl rfl (Pur.ix Try.underlying32 sz111 rfl rfl hp10 hq11) ?_
        refine go ?_
        refine AW.take (i := 7) rfl (by kernel_rfl) rfl rfl (Ldr.old w0 ag3 rfl (hk16 2 _ rfl)) (hS6.same _ hb17.1 hb17.2) ?_
        refine go ?_
        refine AW.one (i := 10) (by kernel_rfl) ?_
        refine ⟨_, rfl, ?_⟩
        refine LW.st hS6 0 fun w19 hS7 => ?_
        refine LW.nil ⟨rfl, (.w (by kernel_rfl) (.w (by kernel_rfl) Kept.n)), ?_⟩
        refine go ?_
        refine CW.draw (by kernel_rfl) ?_
        have hS8 := hS7.drew
        refine go ?_
        refine AW.u (i := 4) rfl (by kernel_rfl) rfl rfl (Pur.ix Try.underlying32 sz111 rfl rfl hp10 hq11) ?_
        refine go ?_
        refine AW.take (i := 7) rfl (by kernel_rfl) rfl rfl (Ldr.old w0 ag3 rfl (hk16 3 _ rfl)) (hS8.same _ hb17.1 hb17.2) ?_
        refine go ?_
        refine AW.one (i := 10) (by kernel_rfl) ?_
        refine ⟨_, rfl, ?_⟩
        refine LW.st hS8 0 fun w20 hS9 => ?_
        refine LW.nil ⟨rfl, (.w (by kernel_rfl) (.w (by kernel_rfl) Kept.n)), ?_⟩
        refine go ?_
        refine CW.draw (by kernel_rfl) ?_
        have hS10 := hS9.drew
        refine go ?_
        refine AW.u (i := 4) rfl (by kernel_rfl) rfl rfl (Pur.ix Try.underlying32 sz111 rfl rfl hp10 hq11) ?_
        refine go ?_
        refine AW.take (i := 7) rfl (by kernel_rfl) rfl rfl (Ldr.old w0 ag3 rfl (hk16 4 _ rfl)) (hS10.same _ hb17.1 hb17.2) ?_
        refine go ?_
        refine AW.one (i := 10) (by kernel_rfl) ?_
        refine ⟨_, rfl, ?_⟩
        refine LW.st hS10 0 fun w21 hS11 => ?_
        refine LW.nil ⟨rfl, (.w (by kernel_rfl) (.w (by kernel_rfl) Kept.n)), ?_⟩
        refine go ?_
        cases oi h
        exact ⟨rfl, ⟨⟨rfl, rfl, rfl, rfl, trivial⟩, hS11.pick [0, 1] rfl rfl⟩⟩
      replace h := bcF h hc18
      refine go ?_
      cases oi h
      exact ⟨rfl, ⟨⟨rfl, rfl, rfl, rfl, trivial⟩, hS5.pick [0, 1] rfl rfl⟩⟩
    replace h := bcF h hc8
    refine go ?_
    cases oi h
    exact ⟨trivial, rfl, ⟨⟨rfl, rfl, trivial⟩, hS5.pick [0, 1] rfl rfl⟩⟩
  intro x e w24 hM
  obtain ⟨rfl, hM⟩ := hM
  obtain ⟨hE, hS12⟩ := hM
  obtain ⟨e, rfl⟩ := hE.out
  have h := h23
  refine go ?_
  refine LW.st hS12 1 fun w25 hS13 => ?_
  refine go ?_
  cases h
  exact And.intro trivial ⟨_, Res.one (resOne.b hS13 1 rfl ag28 rfl rfl), rfl, hS13.pick [] rfl rfl⟩

theorem W_s_l4Has {w0 : World} {N : Nat} {x0 : List Int} {x1 : Int} {r : Bool} (h : F_s_l4Has N x0 x1 = some r) {a0_0 : Option Addr} {n0_0 c0_0 : Nat} (hn0_0 : n0_0 = x0.length) (hr0_0 : rdS (Bor w0 []) w0 a0_0 c0_0 x0) :
    Ret Try.prog 56 #[.slice a0_0 n0_0 c0_0, .int .i64 x1] w0 (fun v w => v = .bool r ∧ St w0 [] w []) := by
  subst hn0_0
  unfold F_s_l4Has at h
  refine Ret.fn Try.func56 fun e => ?_
  have hS1 := St.start w0
  refine go ?_
  obtain ⟨o14, ho14, h15⟩ := obind h
  refine CW.mono (CW.lx [0, 1] [] [] 0 (fun s1 => [(5, .int .i64 s1)]) (RT Try.prog Try.f56.results (fun u => .bool u) w0 []) hS1 ho14 (hb := ?_)) ?_
  · intro s1 e w2 o hS2 h
    refine go ?_
    refine cd (fun hc3 => ?_) fun hc3 => ?_
    · replace h := bcT h hc3
      refine go ?_
      replace ⟨y4, hy4, h⟩ := obind h
      obtain ⟨b7, o8, cs9, hae, hb12, hp5, hq6, hd10, hk11⟩ := hr0_0.idx hy4
      subst hae
      obtain rfl := hd10
      refine LW.u (Pur.ix Try.underlying24 sz3 rfl rfl hp5 hq6) rfl ?_
      refine LW.l (Ldr.old w0 ag3 rfl (hk11 0 _ rfl)) (hS2.same _ hb12.1 hb12.2) rfl ?_
      refine go ?_
      refine CW.fl [0, 1, 5, 17] fun e => ?_
      refine cd (fun hc13 => ?_) fun hc13 => ?_
      · replace h := bcT h hc13
        refine go ?_
        cases oi h
        exact ⟨trivial, rfl, _, rfl, ⟨_, Res.one (resOne.t rfl), rfl, hS2.pick [] rfl rfl⟩⟩
      replace h := bcF h hc13
      refine go ?_
      cases oi h
      exact ⟨rfl, ⟨⟨rfl, rfl, rfl, trivial⟩, hS2.pick [] rfl rfl⟩⟩
    replace h := bcF h hc3
    refine go ?_
    cases oi h
    exact ⟨trivial, rfl, ⟨trivial, hS2.pick [] rfl rfl⟩⟩
  intro x e w16 hM
  rcases o14 with o14 | r17
  · obtain ⟨rfl, hM⟩ := hM
    obtain ⟨hE, hS3⟩ := hM
    obtain ⟨e, rfl⟩ := hE.out; rw [show e = upds e [] from rfl]
    have h := h15
    refine go ?_
    cases h
    exact fi hS3
  obtain ⟨rfl, u, rfl, hM⟩ := hM
  cases h15
  exact And.intro trivial hM

theorem W_s_Expired {w0 : World} {N : Nat} {x0 : DObj} {x1 : Int} {r : Bool} (h : F_s_Expired N x0 x1 = some r) {a0_10 : Option Addr} {n0_10 c0_10 : Nat} (hn0_10 : n0_10 = x0.links.length) (hr0_10 : rdS (Bor w0 []) w0 a0_10 c0_10 x0.links) {a0_11 : Option Addr} {n0_11 c0_11 : Nat} (hn0_11 : n0_11 = x0.data.length) (hr0_11 : rdS (Bor w0 []) w0 a0_11 c0_11 x0.data) {a0_12 : Option Addr} {n0_12 c0_12 : Nat} (hn0_12 : n0_12 = x0.queue.length) (hr0_12 : rdS (Bor w0 []) w0 a0_12 c0_12 x0.queue) :
    Ret Try.prog 82 #[.agg #[.int .i64 x0.gen, .int .i64 x0.kind, .int .i64 x0.box, .int .i64 x0.res, .int .i64 x0.til, .int .i64 x0.pages, .int .i64 x0.wait, .int .i64 x0.got, .int .i64 x0.ran, .bool x0.mark, .slice a0_10 n0_10 c0_10, .slice a0_11 n0_11 c0_11, .slice a0_12 n0_12 c0_12], .int .i64 x1] w0 (fun v w => v = .bool r ∧ St w0 [] w []) := by
  subst hn0_10 hn0_11 hn0_12
  unfold F_s_Expired at h
  refine Ret.fn Try.func82 fun e => ?_
  have hS1 := St.start w0
  refine go ?_
  refine LW.bo hS1 fun g1 w2 hS2 => ?_
  refine go ?_
  rcases bcases (x0.kind == 0) with hc3 | hc3
  · replace h := bcT h hc3
    refine go ?_
    cases h
    exact fi hS2
  replace h := bcF h hc3
  refine go ?_
  cases h
  exact fi hS2

theorem W_l_sameInts {w0 : World} {N : Nat} {x0 : List Int} {x1 : List Int} {r : Bool} (h : F_l_sameInts N x0 x1 = some r) {a0_0 : Option Addr} {n0_0 c0_0 : Nat} (hn0_0 : n0_0 = x0.length) (hr0_0 : rdS (Bor w0 []) w0 a0_0 c0_0 x0) {a1_0 : Option Addr} {n1_0 c1_0 : Nat} (hn1_0 : n1_0 = x1.length) (hr1_0 : rdS (Bor w0 []) w0 a1_0 c1_0 x1) :
    Ret Try.prog 14 #[.slice a0_0 n0_0 c0_0, .slice a1_0 n1_0 c1_0] w0 (fun v w => v = .bool r ∧ St w0 [] w []) := by
  subst hn0_0 hn1_0
  unfold F_l_sameInts at h
  refine Ret.fn Try.func14 fun e => ?_
  have hS1 := St.start w0
  refine go ?_
  refine cd (fun hc1 => ?_) fun hc1 => ?_
  · replace h := bcT h hc1
    refine go ?_
    cases h
    exact fi hS1
  replace h := bcF h hc1
  refine go ?_
  obtain ⟨o24, ho24, h25⟩ := obind h
  refine CW.mono (CW.lx [0, 1] [] [] 0 (fun s2 => [(5, .int .i64 s2)]) (RT Try.prog Try.f14.results (fun u => .bool u) w0 []) hS1 ho24 (hb := ?_)) ?_
  · intro s2 e w3 o hS2 h
    refine go ?_
    refine cd (fun hc4 => ?_) fun hc4 => ?_
    · replace h := bcT h hc4
      refine go ?_
      refine CW.draw (by kernel_rfl) ?_
      have hS3 := hS2.drew
      refine go ?_
      replace ⟨y5, hy5, h⟩ := obind h
      obtain ⟨b8, o9, cs10, hae, hb13, hp6, hq7, hd11, hk12⟩ := hr0_0.idx hy5
      subst hae
      obtain rfl := hd11
      refine AW.u (i := 2) rfl (by kernel_rfl) rfl rfl (Pur.ix Try.underlying24 sz3 rfl rfl hp6 hq7) ?_
      refine AW.take (i := 3) rfl (by kernel_rfl) rfl rfl (Ldr.old w0 ag3 rfl (hk12 0 _ rfl)) (hS3.same _ hb13.1 hb13.2) ?_
      refine go ?_
      replace ⟨y14, hy14, h⟩ := obind h
      obtain ⟨b17, o18, cs19, hae, hb22, hp15, hq16, hd20, hk21⟩ := hr1_0.idx hy14
      subst hae
      obtain rfl := hd20
      refine AW.u (i := 6) rfl (by kernel_rfl) rfl rfl (Pur.ix Try.underlying24 sz3 rfl rfl hp15 hq16) ?_
      refine AW.take (i := 7) rfl (by kernel_rfl) rfl rfl (Ldr.old w0 ag3 rfl (hk21 0 _ rfl)) (hS3.same _ hb22.1 hb22.2) ?_
      refine go ?_
      refine cd (fun hc23 => ?_) fun hc23 => ?_
      · replace h := bcT h hc23
        refine go ?_
        cases oi h
        exact ⟨trivial, rfl, _, rfl, ⟨_, Res.one (resOne.t rfl), rfl, hS3.pick [] rfl rfl⟩⟩
      replace h := bcF h hc23
      refine go ?_
      cases oi h
      exact ⟨rfl, ⟨⟨rfl, rfl, rfl, trivial⟩, hS3.pick [] rfl rfl⟩⟩
    replace h := bcF h hc4
    refine go ?_
    cases oi h
    exact ⟨trivial, rfl, ⟨trivial, hS2.pick [] rfl rfl⟩⟩
  intro x e w26 hM
  rcases o24 with o24 | r27
  · obtain ⟨rfl, hM⟩ := hM
    obtain ⟨hE, hS4⟩ := hM
    obtain ⟨e, rfl⟩ := hE.out; rw [show e = upds e [] from rfl]
    have h := h25
    refine go ?_
    cases h
    exact fi hS4
  obtain ⟨rfl, u, rfl, hM⟩ := hM
  cases h25
  exact And.intro trivial hM

theorem W_s_l1Below {w0 : World} {F : List Nat} {N : Nat} {x0 : DCur} {x1 : Int} {r : Int × DCur} (h : F_s_l1Below N x0 x1 = some r) {g0 : Nat} {a0_0 : Option Addr} {c0_0 : Nat} (hr0_0 : rdS (Bor w0 F) w0 a0_0 c0_0 x0.b) (hS : St w0 F w0 [bx g0 106 [.slice a0_0 x0.b.length c0_0, .int .i64 x0.i, .int .i64 x0.h]]) :
    Ret Try.prog 29 #[.pointer (some ⟨g0, 0, none⟩), .int .i64 x1] w0 (fun v w => v = .int .i64 r.1 ∧ St w0 F w [bx g0 106 [.slice a0_0 x0.b.length c0_0, .int .i64 r.2.i, .int .i64 r.2.h]]) := by
  unfold F_s_l1Below at h
  refine Ret.fn Try.func29 fun e => ?_
  refine go ?_
  refine cd (fun hc1 => ?_) fun hc1 => ?_
  · replace h := bcT h hc1
    refine go ?_
    replace h := Option.some.inj h
    subst h
    exact And.intro trivial ⟨_, Res.one (resOne.t rfl), rfl, hS.pick [0] rfl rfl⟩
  replace h := bcF h hc1
  refine go ?_
  refine cd (fun hc2 => ?_) fun hc2 => ?_
  · replace h := bcT h hc2
    refine go ?_
    replace ⟨y3, hy3, h⟩ := obind h
    obtain ⟨F4, hL5⟩ := hS.lendI [0] []
    refine LW.cl (W_s_l1Byte hy3 (hL5.rB hr0_0) hL5.st) ?_
    rintro _ w6 ⟨rfl, hs⟩
    have hS1 := hL5.back _ _ hs
    refine go ?_
    replace ⟨_, hz7, h⟩ := obind h
    refine LW.u (Pur.rem rfl rfl (dz_ne hz7)) rfl ?_
    refine go ?_
    replace h := Option.some.inj h
    subst h
    exact And.intro trivial ⟨_, Res.one (resOne.t rfl), rfl, hS1.pick [0] rfl rfl⟩
  replace h := bcF h hc2
  refine go ?_
  replace ⟨y8, hy8, h⟩ := obind h
  obtain ⟨F9, hL10⟩ := hS.lendI [0] []
  refine LW.cl (W_s_l1Byte hy8 (hL10.rB hr0_0) hL10.st) ?_
  rintro _ w11 ⟨rfl, hs⟩
  have hS2 := hL10.back _ _ hs
  refine go ?_
  replace ⟨y12, hy12, h⟩ := obind h
  obtain ⟨F13, hL14⟩ := hS2.lendI [0] []
  refine LW.cl (W_s_l1Byte hy12 (hL14.rB hr0_0) hL14.st) ?_
  rintro _ w15 ⟨rfl, hs⟩
  have hS3 := hL14.back _ _ hs
  refine go ?_
  replace ⟨y16, hy16, h⟩ := obind h
  obtain ⟨F17, hL18⟩ := hS3.lendI [0] []
  refine LW.cl (W_s_l1Byte hy16 (hL18.rB hr0_0) hL18.st) ?_
  rintro _ w19 ⟨rfl, hs⟩
  have hS4 := hL18.back _ _ hs
  refine go ?_
  replace ⟨y20, hy20, h⟩ := obind h
  obtain ⟨F21, hL22⟩ := hS4.lendI [0] []
  refine LW.cl (W_s_l1Byte hy20 (hL22.rB hr0_0) hL22.st) ?_
  rintro _ w23 ⟨rfl, hs⟩
  have hS5 := hL22.back _ _ hs
  refine go ?_
  refine LW.fl [0, 34, 35] fun e => ?_
  replace ⟨_, hz24, h⟩ := obind h
  refine LW.u (Pur.rem rfl rfl (dz_ne hz24)) rfl ?_
  refine go ?_
  replace h := Option.some.inj h
  subst h
  exact And.intro trivial ⟨_, Res.one (resOne.t rfl), rfl, hS5.pick [0] rfl rfl⟩

theorem W_s_LabelOk {w0 : World} {N : Nat} {x0 : DLabel} {r : Bool} (h : F_s_LabelOk N x0 = some r) {a0_0 : Option Addr} {n0_0 c0_0 : Nat} (hn0_0 : n0_0 = x0.levels.length) (hr0_0 : rdS (Bor w0 []) w0 a0_0 c0_0 x0.levels) :
    Ret Try.prog 8 #[.agg #[.slice a0_0 n0_0 c0_0]] w0 (fun v w => v = .bool r ∧ St w0 [] w []) := by
  subst hn0_0
  unfold F_s_LabelOk at h
  refine Ret.fn Try.func8 fun e => ?_
  have hS1 := St.start w0
  refine go ?_
  refine LW.bo hS1 fun g1 w2 hS2 => ?_
  refine go ?_
  refine cd (fun hc3 => ?_) fun hc3 => ?_
  · replace h := bcT h hc3
    refine go ?_
    cases h
    exact fi hS2
  replace h := bcF h hc3
  refine go ?_
  obtain ⟨o19, ho19, h20⟩ := obind h
  refine CW.mono (CW.lx [1] [0] [] 0 (fun s4 => [(3, .int .i64 s4)]) (RT Try.prog Try.f8.results (fun u => .bool u) w0 []) hS2 ho19 (hb := ?_)) ?_
  · intro s4 e w5 o hS3 h
    refine go ?_
    refine cd (fun hc6 => ?_) fun hc6 => ?_
    · replace h := bcT h hc6
      refine go ?_
      replace ⟨y7, hy7, h⟩ := obind h
      obtain ⟨b10, o11, cs12, hae, hb15, hp8, hq9, hd13, hk14⟩ := hr0_0.idx hy7
      subst hae
      obtain rfl := hd13
      refine LW.u (Pur.ix Try.underlying24 sz3 rfl rfl hp8 hq9) rfl ?_
      refine LW.l (Ldr.old w0 ag3 rfl (hk14 0 _ rfl)) (hS3.same _ hb15.1 hb15.2) rfl ?_
      replace ⟨y16, hy16, h⟩ := obind h
      refine LW.c0 (W_s_l1In hy16) hS3 fun w17 hS4 => ?_
      refine go ?_
      refine CW.fl [1, 3, 21] fun e => ?_
      refine cd (fun hc18 => ?_) fun hc18 => ?_
      · replace h := bcT h hc18
        refine go ?_
        cases oi h
        exact ⟨trivial, rfl, _, rfl, ⟨_, Res.one (resOne.t rfl), rfl, hS4.pick [] rfl rfl⟩⟩
      replace h := bcF h hc18
      refine go ?_
      cases oi h
      exact ⟨rfl, ⟨⟨rfl, rfl, trivial⟩, hS4.pick [0] rfl rfl⟩⟩
    replace h := bcF h hc6
    refine go ?_
    cases oi h
    exact ⟨trivial, rfl, ⟨trivial, hS3.pick [0] rfl rfl⟩⟩
  intro x e w21 hM
  rcases o19 with o19 | r22
  · obtain ⟨rfl, hM⟩ := hM
    obtain ⟨hE, hS5⟩ := hM
    obtain ⟨e, rfl⟩ := hE.out; rw [show e = upds e [] from rfl]
    have h := h20
    refine go ?_
    cases h
    exact fi hS5
  obtain ⟨rfl, u, rfl, hM⟩ := hM
  cases h20
  exact And.intro trivial hM

theorem W_s_OwnOk {w0 : World} {N : Nat} {x0 : List Int} {r : Bool} (h : F_s_OwnOk N x0 = some r) {a0_0 : Option Addr} {n0_0 c0_0 : Nat} (hn0_0 : n0_0 = x0.length) (hr0_0 : rdS (Bor w0 []) w0 a0_0 c0_0 x0) :
    Ret Try.prog 9 #[.slice a0_0 n0_0 c0_0] w0 (fun v w => v = .bool r ∧ St w0 [] w []) := by
  subst hn0_0
  unfold F_s_OwnOk at h
  refine Ret.fn Try.func9 fun e => ?_
  have hS1 := St.start w0
  refine go ?_
  obtain ⟨o30, ho30, h31⟩ := obind h
  refine CW.mono (CW.lx [0] [] [] 0 (fun s1 => [(3, .int .i64 s1)]) (RT Try.prog Try.f9.results (fun u => .bool u) w0 []) hS1 ho30 (hb := ?_)) ?_
  · intro s1 e w2 o hS2 h
    refine go ?_
    refine cd (fun hc3 => ?_) fun hc3 => ?_
    · replace h := bcT h hc3
      refine gs ?_
      refine CW.block ?_
      refine gs ?_
      obtain ⟨j4, hj4, h5⟩ := obind h
      refine CW.jn [0, 3] [] [(31, .bool j4)] hS2 (h1 := ?_) (h2 := ?_)
      · have h := hj4
        refine CW.draw (by kernel_rfl) ?_
        have hS3 := hS2.drew
        refine go ?_
        replace ⟨y6, hy6, h⟩ := obind h
        obtain ⟨b9, o10, cs11, hae, hb14, hp7, hq8, hd12, hk13⟩ := hr0_0.idx hy6
        subst hae
        obtain rfl := hd12
        refine AW.u (i := 2) rfl (by kernel_rfl) rfl rfl (Pur.ix Try.underlying24 sz3 rfl rfl hp7 hq8) ?_
        refine AW.take (i := 3) rfl (by kernel_rfl) rfl rfl (Ldr.old w0 ag3 rfl (hk13 0 _ rfl)) (hS3.same _ hb14.1 hb14.2) ?_
        replace ⟨y15, hy15, h⟩ := obind h
        have q := W_s_l1In (w0 := w2.drew) hy15
        refine AW.one (i := 4) (by kernel_rfl) ?_
        refine ⟨_, rfl, ?_⟩
        refine LW.call pl42 rfl rfl ?_
        refine Ret.mono q ?_
        rintro _ w16 ⟨rfl, hs⟩
        have hS4 := hS3.add hs
        refine LW.nil ⟨rfl, (.w (by kernel_rfl) Kept.n), ?_⟩
        refine go ?_
        rcases bcases (!y15) with hc17 | hc17
        · replace h := bcT h hc17
          refine go ?_
          cases oi h
          exact ⟨⟨rfl, rfl, rfl, trivial⟩, hS4.pick [] rfl rfl⟩
        replace h := bcF h hc17
        refine go ?_
        rcases bcases (decide (s1 > 0)) with hc18 | hc18
        · replace h := bcT h hc18
          refine go ?_
          refine AW.u (i := 12) rfl (by kernel_rfl) (want_of rfl rfl hc18) rfl (Pur.ix Try.underlying24 sz3 rfl rfl hp7 hq8) ?_
          refine AW.take (i := 13) rfl (by kernel_rfl) (want_of rfl rfl hc18) rfl (Ldr.old w0 ag3 rfl (hk13 0 _ rfl)) (hS4.same _ hb14.1 hb14.2) ?_
          refine go ?_
          replace ⟨y19, hy19, h⟩ := obind h
          obtain ⟨b22, o23, cs24, hae, hb27, hp20, hq21, hd25, hk26⟩ := hr0_0.idx hy19
          cases hae
          obtain rfl := hd25
          refine AW.u (i := 17) rfl (by kernel_rfl) (want_of rfl rfl hc18) rfl (Pur.ix Try.underlying24 sz3 rfl rfl hp20 hq21) ?_
          refine AW.take (i := 18) rfl (by kernel_rfl) (want_of rfl rfl hc18) rfl (Ldr.old w0 ag3 rfl (hk26 0 _ rfl)) (hS4.same _ hb27.1 hb27.2) ?_
          refine go ?_
          cases oi h
          exact ⟨⟨rfl, rfl, rfl, trivial⟩, hS4.pick [] rfl rfl⟩
        replace h := bcF h hc18
        refine go ?_
        cases oi h
        exact ⟨⟨rfl, rfl, rfl, trivial⟩, hS4.pick [] rfl rfl⟩
      intro e w28 hS5
      have h := h5
      refine go ?_
      refine cd (fun hc29 => ?_) fun hc29 => ?_
      · replace h := bcT h hc29
        refine go ?_
        cases oi h
        exact ⟨trivial, rfl, _, rfl, ⟨_, Res.one (resOne.t rfl), rfl, hS5.pick [] rfl rfl⟩⟩
      replace h := bcF h hc29
      refine go ?_
      cases oi h
      exact ⟨rfl, ⟨⟨rfl, rfl, trivial⟩, hS5.pick [] rfl rfl⟩⟩
    replace h := bcF h hc3
    refine go ?_
    cases oi h
    exact ⟨trivial, rfl, ⟨trivial, hS2.pick [] rfl rfl⟩⟩
  intro x e w32 hM
  rcases o30 with o30 | r33
  · obtain ⟨rfl, hM⟩ := hM
    obtain ⟨hE, hS6⟩ := hM
    obtain ⟨e, rfl⟩ := hE.out; rw [show e = upds e [] from rfl]
    have h := h31
    refine go ?_
    cases h
    exact fi hS6
  obtain ⟨rfl, u, rfl, hM⟩ := hM
  cases h31
  exact And.intro trivial hM

theorem W_s_l5In {w0 : World} {N : Nat} {x0 : Int} {r : Bool} (h : F_s_l5In N x0 = some r) :
    Ret Try.prog 43 #[.int .i64 x0] w0 (fun v w => v = .bool r ∧ St w0 [] w []) := by
  unfold F_s_l5In at h
  refine Ret.fn Try.func43 fun e => ?_
  have hS1 := St.start w0
  refine go ?_
  replace ⟨y1, hy1, h⟩ := obind h
  refine LW.c0 (W_s_l1In hy1) hS1 fun w2 hS2 => ?_
  refine go ?_
  cases h
  exact fi hS2

theorem W_s_l6Res {w0 : World} {N : Nat} {x0 : Int} {r : Bool} (h : F_s_l6Res N x0 = some r) :
    Ret Try.prog 75 #[.int .i64 x0] w0 (fun v w => v = .bool r ∧ St w0 [] w []) := by
  unfold F_s_l6Res at h
  refine Ret.fn Try.func75 fun e => ?_
  have hS1 := St.start w0
  refine go ?_
  replace ⟨y1, hy1, h⟩ := obind h
  refine LW.c0 (W_s_l1In hy1) hS1 fun w2 hS2 => ?_
  refine go ?_
  cases h
  exact fi hS2

theorem W_s_l8Handle {w0 : World} {N : Nat} {x0 : Int} {r : Bool} (h : F_s_l8Handle N x0 = some r) :
    Ret Try.prog 108 #[.int .i64 x0] w0 (fun v w => v = .bool r ∧ St w0 [] w []) := by
  unfold F_s_l8Handle at h
  refine Ret.fn Try.func108 fun e => ?_
  have hS1 := St.start w0
  refine go ?_
  replace ⟨y1, hy1, h⟩ := obind h
  refine LW.c0 (W_s_l1In hy1) hS1 fun w2 hS2 => ?_
  refine go ?_
  cases h
  exact fi hS2

theorem W_s_l3Label {w0 : World} {F : List Nat} {N : Nat} {x0 : DCur} {r : DLabel × DCur} (h : F_s_l3Label N x0 = some r) {g0 : Nat} {a0_0 : Option Addr} {c0_0 : Nat} (hr0_0 : rdS (Bor w0 F) w0 a0_0 c0_0 x0.b) (hS : St w0 F w0 [bx g0 106 [.slice a0_0 x0.b.length c0_0, .int .i64 x0.i, .int .i64 x0.h]]) :
    Ret Try.prog 66 #[.pointer (some ⟨g0, 0, none⟩)] w0 (fun v w => ∃ ar0_0 cr0_0, v = .agg #[.slice ar0_0 r.1.levels.length cr0_0] ∧ St w0 F w [sl ar0_0 cr0_0 r.1.levels, bx g0 106 [.slice a0_0 x0.b.length c0_0, .int .i64 r.2.i, .int .i64 r.2.h]]) := by
  unfold F_s_l3Label at h
  refine Ret.fn Try.func66 fun e => ?_
  refine go ?_
  refine LW.al hS fun g1 w2 hS1 => ?_
  refine go ?_
  refine LW.u (Pur.build (vs := []) (cs := #[.slice none 0 0]) rfl (by kernel_rfl)) rfl ?_
  refine LW.al hS1 fun g3 w4 hS2 => ?_
  refine LW.st hS2 0 fun w5 hS3 => ?_
  refine go ?_
  have hS4 := hS3.nil (α := Int)
  obtain ⟨o21, ho21, h22⟩ := obind h
  refine CW.mono (CW.iter (σ := Int × Int × Int × (List Int)) (ρ := Int × Int × Int × (List Int)) (fun s6 e wb => ∃ (s6a0 : Option Addr), ∃ (s6c0 : Nat), En e [(0, .pointer (some ⟨g0, 0, none⟩)), (2, .pointer (some ⟨g1, 0, none⟩)), (3, .pointer (some ⟨g3, 0, none⟩)), (4, .int .i64 s6.1)] ∧ St w0 F wb [bx g3 26 [.slice s6a0 s6.2.2.2.length s6c0], bx g1 26 [.slice none 0 0], bx g0 106 [.slice a0_0 x0.b.length c0_0, .int .i64 s6.2.1, .int .i64 s6.2.2.1], sl s6a0 s6c0 s6.2.2.2]) (fun s6 x e wb => x = .exit 0 ∧ ∃ (s6a0 : Option Addr), ∃ (s6c0 : Nat), En e [(0, .pointer (some ⟨g0, 0, none⟩)), (2, .pointer (some ⟨g1, 0, none⟩)), (3, .pointer (some ⟨g3, 0, none⟩))] ∧ St w0 F wb [bx g3 26 [.slice s6a0 s6.2.2.2.length s6c0], bx g1 26 [.slice none 0 0], bx g0 106 [.slice a0_0 x0.b.length c0_0, .int .i64 s6.2.1, .int .i64 s6.2.2.1], sl s6a0 s6c0 s6.2.2.2]) ?_ N (0, x0.i, x0.h, []) _ _ _ ⟨none, 0, ⟨rfl, rfl, rfl, rfl, trivial⟩, hS4.pick [1, 2, 3, 0] rfl rfl⟩ ho21) ?_
  · intro s6 e w7 o hM h
    obtain ⟨s6a0, s6c0, hE, hS5⟩ := hM
    obtain ⟨e, rfl⟩ := hE.out
    refine go ?_
    refine cd (fun hc8 => ?_) fun hc8 => ?_
    · replace h := bcT h hc8
      refine go ?_
      refine CW.draw (by kernel_rfl) ?_
      have hS6 := hS5.drew
      refine go ?_
      replace ⟨y9, hy9, h⟩ := obind h
      obtain ⟨F10, hL11⟩ := hS6.lendI [2] [0, 1, 3]
      have q := W_s_l1Below (w0 := w7.drew) hy9 (hL11.rB hr0_0) hL11.st
      refine AW.one (i := 3) (by kernel_rfl) ?_
      refine ⟨_, rfl, ?_⟩
      refine LW.call pl29 rfl rfl ?_
      refine Ret.mono q ?_
      rintro _ w12 ⟨rfl, hs⟩
      have hS7 := hL11.back _ _ hs
      refine LW.nil ⟨rfl, (.c (St.cell (h := hS7) (i := 1) rfl) Kept.n), ?_⟩
      refine AW.one (i := 4) (by kernel_rfl) ?_
      refine ⟨_, rfl, ?_⟩
      refine LW.bsl (α := Int) (vs := [(0, .int .i64 y9.1)]) (cs := #[.int .i64 y9.1]) (l := ([y9.1] : List Int)) rfl (by kernel_rfl) rfl rfl rfl (fun w => ⟨[.int .i64 y9.1], [], [], [], rfl, rfl, ⟨rfl, rfl⟩, rfl⟩) hS7 rfl ?_
      intro a13 c14 w15 hS8 hf
      refine LW.nil ⟨rfl, (.c (St.cell (h := hS8) (i := 2) rfl) Kept.n), ?_⟩
      replace ⟨y16, hy16, h⟩ := obind h
      refine AW.one (i := 5) (by kernel_rfl) ?_
      refine ⟨_, rfl, ?_⟩
      refine LW.appN (l := s6.2.2.2) (m := ([y9.1] : List Int)) sT24 rfl rfl (hS8.rI 0 rfl) hy16 hS8 (i := 4) rfl rfl ?_
      intro a17 c18 w19 hS9 hf
      refine LW.nil ⟨rfl, (.w (by kernel_rfl) Kept.n), ?_⟩
      refine go ?_
      refine AW.one (i := 7) (by kernel_rfl) ?_
      refine ⟨_, rfl, ?_⟩
      refine LW.st hS9 2 fun w20 hS10 => ?_
      refine LW.nil ⟨rfl, (.w (by kernel_rfl) Kept.n), ?_⟩
      refine go ?_
      cases oi h
      exact ⟨rfl, ⟨a17, c18, ⟨rfl, rfl, rfl, rfl, trivial⟩, hS10.pick [2, 3, 1, 4] rfl rfl⟩⟩
    replace h := bcF h hc8
    refine go ?_
    cases oi h
    exact ⟨trivial, rfl, ⟨s6a0, s6c0, ⟨rfl, rfl, rfl, trivial⟩, hS5.pick [0, 1, 2, 3] rfl rfl⟩⟩
  intro x e w23 hM
  obtain ⟨rfl, hM⟩ := hM
  obtain ⟨s6a0, s6c0, hE, hS11⟩ := hM
  obtain ⟨e, rfl⟩ := hE.out
  have h := h22
  refine go ?_
  refine LW.st hS11 1 fun w24 hS12 => ?_
  refine go ?_
  replace h := Option.some.inj h
  subst h
  exact And.intro trivial ⟨_, Res.one (resOne.b hS12 1 rfl ag26 rfl rfl), s6a0, s6c0, rfl, hS12.pick [3, 2] rfl rfl⟩

theorem W_s_l1PickInt {w0 : World} {F : List Nat} {N : Nat} {x0 : DCur} {x1 : List Int} {r : Int × DCur} (h : F_s_l1PickInt N x0 x1 = some r) {g0 : Nat} {a0_0 : Option Addr} {c0_0 : Nat} (hr0_0 : rdS (Bor w0 F) w0 a0_0 c0_0 x0.b) {a1_0 : Option Addr} {n1_0 c1_0 : Nat} (hn1_0 : n1_0 = x1.length) (hr1_0 : rdS (Bor w0 F) w0 a1_0 c1_0 x1) (hS : St w0 F w0 [bx g0 106 [.slice a0_0 x0.b.length c0_0, .int .i64 x0.i, .int .i64 x0.h]]) :
    Ret Try.prog 68 #[.pointer (some ⟨g0, 0, none⟩), .slice a1_0 n1_0 c1_0] w0 (fun v w => v = .int .i64 r.1 ∧ St w0 F w [bx g0 106 [.slice a0_0 x0.b.length c0_0, .int .i64 r.2.i, .int .i64 r.2.h]]) := by
  subst hn1_0
  unfold F_s_l1PickInt at h
  refine Ret.fn Try.func68 fun e => ?_
  refine go ?_
  replace ⟨y1, hy1, h⟩ := obind h
  obtain ⟨F2, hL3⟩ := hS.lendI [0] []
  refine LW.cl (W_s_l1Below hy1 (hL3.rB hr0_0) hL3.st) ?_
  rintro _ w4 ⟨rfl, hs⟩
  have hS1 := hL3.back _ _ hs
  replace ⟨y5, hy5, h⟩ := obind h
  obtain ⟨b8, o9, cs10, hae, hb13, hp6, hq7, hd11, hk12⟩ := hr1_0.idx hy5
  subst hae
  obtain rfl := hd11
  refine LW.u (Pur.ix Try.underlying24 sz3 rfl rfl hp6 hq7) rfl ?_
  refine LW.l (Ldr.old w0 ag3 rfl (hk12 0 _ rfl)) (hS1.same _ hb13.1 hb13.2) rfl ?_
  refine go ?_
  replace h := Option.some.inj h
  subst h
  exact And.intro trivial ⟨_, Res.one (resOne.t rfl), rfl, hS1.pick [0] rfl rfl⟩

theorem W_s_l1Once {w0 : World} {F : List Nat} {N : Nat} {x0 : DCur} {x1 : Int} {r : Bool × DCur} (h : F_s_l1Once N x0 x1 = some r) {g0 : Nat} {a0_0 : Option Addr} {c0_0 : Nat} (hr0_0 : rdS (Bor w0 F) w0 a0_0 c0_0 x0.b) (hS : St w0 F w0 [bx g0 106 [.slice a0_0 x0.b.length c0_0, .int .i64 x0.i, .int .i64 x0.h]]) :
    Ret Try.prog 69 #[.pointer (some ⟨g0, 0, none⟩), .int .i64 x1] w0 (fun v w => v = .bool r.1 ∧ St w0 F w [bx g0 106 [.slice a0_0 x0.b.length c0_0, .int .i64 r.2.i, .int .i64 r.2.h]]) := by
  unfold F_s_l1Once at h
  refine Ret.fn Try.func69 fun e => ?_
  refine go ?_
  replace ⟨y1, hy1, h⟩ := obind h
  obtain ⟨F2, hL3⟩ := hS.lendI [0] []
  refine LW.cl (W_s_l1Below hy1 (hL3.rB hr0_0) hL3.st) ?_
  rintro _ w4 ⟨rfl, hs⟩
  have hS1 := hL3.back _ _ hs
  refine go ?_
  replace h := Option.some.inj h
  subst h
  exact And.intro trivial ⟨_, Res.one (resOne.t rfl), rfl, hS1.pick [0] rfl rfl⟩

theorem W_s_AmtOk {w0 : World} {N : Nat} {x0 : DAmt} {r : Bool} (h : F_s_AmtOk N x0 = some r) :
    Ret Try.prog 10 #[.agg #[.int .i64 x0.pages, .int .i64 x0.rent, .int .i64 x0.cpu]] w0 (fun v w => v = .bool r ∧ St w0 [] w []) := by
  unfold F_s_AmtOk at h
  refine Ret.fn Try.func10 fun e => ?_
  have hS1 := St.start w0
  refine go ?_
  refine LW.bo hS1 fun g1 w2 hS2 => ?_
  refine go ?_
  replace ⟨y3, hy3, h⟩ := obind h
  refine LW.c0 (W_s_l5In hy3) hS2 fun w4 hS3 => ?_
  refine go ?_
  rcases bcases y3 with hc5 | hc5
  · replace h := bcT h hc5
    refine go ?_
    replace ⟨y6, hy6, h⟩ := obind h
    refine go ?_
    refine LW.c0 (W_s_l5In hy6) hS3 fun w7 hS4 => ?_
    refine go ?_
    rcases bcases y6 with hc8 | hc8
    · replace h := bcT h hc8
      refine go ?_
      replace ⟨y9, hy9, h⟩ := obind h
      refine go ?_
      refine LW.c0 (W_s_l5In hy9) hS4 fun w10 hS5 => ?_
      refine go ?_
      cases h
      exact fi hS5
    replace h := bcF h hc8
    refine go ?_
    cases h
    exact fi hS4
  replace h := bcF h hc5
  refine go ?_
  cases h
  exact fi hS3

theorem W_s_ObjOk {w0 : World} {N : Nat} {x0 : DObj} {r : Bool} (h : F_s_ObjOk N x0 = some r) {a0_10 : Option Addr} {n0_10 c0_10 : Nat} (hn0_10 : n0_10 = x0.links.length) (hr0_10 : rdS (Bor w0 []) w0 a0_10 c0_10 x0.links) {a0_11 : Option Addr} {n0_11 c0_11 : Nat} (hn0_11 : n0_11 = x0.data.length) (hr0_11 : rdS (Bor w0 []) w0 a0_11 c0_11 x0.data) {a0_12 : Option Addr} {n0_12 c0_12 : Nat} (hn0_12 : n0_12 = x0.queue.length) (hr0_12 : rdS (Bor w0 []) w0 a0_12 c0_12 x0.queue) :
    Ret Try.prog 97 #[.agg #[.int .i64 x0.gen, .int .i64 x0.kind, .int .i64 x0.box, .int .i64 x0.res, .int .i64 x0.til, .int .i64 x0.pages, .int .i64 x0.wait, .int .i64 x0.got, .int .i64 x0.ran, .bool x0.mark, .slice a0_10 n0_10 c0_10, .slice a0_11 n0_11 c0_11, .slice a0_12 n0_12 c0_12]] w0 (fun v w => v = .bool r ∧ St w0 [] w []) := by
  subst hn0_10 hn0_11 hn0_12
  unfold F_s_ObjOk at h
  refine Ret.fn Try.func97 fun e => ?_
  have hS1 := St.start w0
  refine go ?_
  refine LW.bo hS1 fun g1 w2 hS2 => ?_
  refine go ?_
  replace ⟨y3, hy3, h⟩ := obind h
  refine LW.c0 (W_s_l1In hy3) hS2 fun w4 hS3 => ?_
  refine go ?_
  refine cd (fun hc5 => ?_) fun hc5 => ?_
  · replace h := bcT h hc5
    refine go ?_
    cases h
    exact fi hS3
  replace h := bcF h hc5
  refine go ?_
  refine cd (fun hc6 => ?_) fun hc6 => ?_
  · replace h := bcT h hc6
    refine gs ?_
    obtain ⟨j7, hj7, h8⟩ := obind h
    refine CW.jn [] [] [(2, .bool j7)] hS3 (h1 := ?_) (h2 := ?_)
    · have h := hj7
      refine go ?_
      rcases bcases (x0.box == 0) with hc9 | hc9
      · replace h := bcT h hc9
        refine go ?_
        rcases bcases (x0.res == 0) with hc10 | hc10
        · replace h := bcT h hc10
          refine go ?_
          refine LW.fl [1, 26] fun e => ?_
          rcases bcases (x0.til == 0) with hc11 | hc11
          · replace h := bcT h hc11
            refine go ?_
            rcases bcases (x0.pages == 0) with hc12 | hc12
            · replace h := bcT h hc12
              refine go ?_
              rcases bcases (x0.wait == 0) with hc13 | hc13
              · replace h := bcT h hc13
                refine go ?_
                rcases bcases (x0.got == 0) with hc14 | hc14
                · replace h := bcT h hc14
                  refine go ?_
                  rcases bcases (x0.ran == 0) with hc15 | hc15
                  · replace h := bcT h hc15
                    refine go ?_
                    refine LW.fl [1, 51] fun e => ?_
                    rcases bcases (!x0.mark) with hc16 | hc16
                    · replace h := bcT h hc16
                      refine go ?_
                      rcases bcases ((x0.links.length : Int) == 0) with hc17 | hc17
                      · replace h := bcT h hc17
                        refine go ?_
                        rcases bcases ((x0.data.length : Int) == 0) with hc18 | hc18
                        · replace h := bcT h hc18
                          refine go ?_
                          cases oi h
                          exact ⟨⟨rfl, trivial⟩, hS3.pick [] rfl rfl⟩
                        replace h := bcF h hc18
                        refine go ?_
                        cases oi h
                        exact ⟨⟨rfl, trivial⟩, hS3.pick [] rfl rfl⟩
                      replace h := bcF h hc17
                      refine go ?_
                      cases oi h
                      exact ⟨⟨rfl, trivial⟩, hS3.pick [] rfl rfl⟩
                    replace h := bcF h hc16
                    refine go ?_
                    cases oi h
                    exact ⟨⟨rfl, trivial⟩, hS3.pick [] rfl rfl⟩
                  replace h := bcF h hc15
                  refine go ?_
                  cases oi h
                  exact ⟨⟨rfl, trivial⟩, hS3.pick [] rfl rfl⟩
                replace h := bcF h hc14
                refine go ?_
                cases oi h
                exact ⟨⟨rfl, trivial⟩, hS3.pick [] rfl rfl⟩
              replace h := bcF h hc13
              refine go ?_
              cases oi h
              exact ⟨⟨rfl, trivial⟩, hS3.pick [] rfl rfl⟩
            replace h := bcF h hc12
            refine go ?_
            cases oi h
            exact ⟨⟨rfl, trivial⟩, hS3.pick [] rfl rfl⟩
          replace h := bcF h hc11
          refine go ?_
          cases oi h
          exact ⟨⟨rfl, trivial⟩, hS3.pick [] rfl rfl⟩
        replace h := bcF h hc10
        refine go ?_
        cases oi h
        exact ⟨⟨rfl, trivial⟩, hS3.pick [] rfl rfl⟩
      replace h := bcF h hc9
      refine go ?_
      cases oi h
      exact ⟨⟨rfl, trivial⟩, hS3.pick [] rfl rfl⟩
    intro e w19 hS4
    have h := h8
    refine go ?_
    cases h
    exact fi hS4
  replace h := bcF h hc6
  refine gs ?_
  obtain ⟨j20, hj20, h21⟩ := obind h
  refine CW.jn [1] [0] [(108, .bool j20)] hS3 (h1 := ?_) (h2 := ?_)
  · have h := hj20
    refine go ?_
    replace ⟨y22, hy22, h⟩ := obind h
    refine LW.c0 (W_s_l1In hy22) hS3 fun w23 hS5 => ?_
    refine go ?_
    rcases bcases (!y22) with hc24 | hc24
    · replace h := bcT h hc24
      refine go ?_
      cases oi h
      exact ⟨⟨rfl, rfl, trivial⟩, hS5.pick [0] rfl rfl⟩
    replace h := bcF h hc24
    refine go ?_
    replace ⟨y25, hy25, h⟩ := obind h
    refine go ?_
    refine LW.c0 (W_s_l1In hy25) hS5 fun w26 hS6 => ?_
    refine go ?_
    rcases bcases (!y25) with hc27 | hc27
    · replace h := bcT h hc27
      refine go ?_
      cases oi h
      exact ⟨⟨rfl, rfl, trivial⟩, hS6.pick [0] rfl rfl⟩
    replace h := bcF h hc27
    refine go ?_
    replace ⟨y28, hy28, h⟩ := obind h
    refine go ?_
    refine LW.c0 (W_s_l6Res hy28) hS6 fun w29 hS7 => ?_
    refine go ?_
    refine LW.fl [1, 85] fun e => ?_
    rcases bcases (!y28) with hc30 | hc30
    · replace h := bcT h hc30
      refine go ?_
      cases oi h
      exact ⟨⟨rfl, rfl, trivial⟩, hS7.pick [0] rfl rfl⟩
    replace h := bcF h hc30
    refine go ?_
    replace ⟨y31, hy31, h⟩ := obind h
    refine go ?_
    refine LW.c0 (W_s_l1In hy31) hS7 fun w32 hS8 => ?_
    refine go ?_
    rcases bcases (!y31) with hc33 | hc33
    · replace h := bcT h hc33
      refine go ?_
      cases oi h
      exact ⟨⟨rfl, rfl, trivial⟩, hS8.pick [0] rfl rfl⟩
    replace h := bcF h hc33
    refine go ?_
    replace ⟨y34, hy34, h⟩ := obind h
    refine go ?_
    refine LW.c0 (W_s_l1In hy34) hS8 fun w35 hS9 => ?_
    refine go ?_
    rcases bcases (!y34) with hc36 | hc36
    · replace h := bcT h hc36
      refine go ?_
      cases oi h
      exact ⟨⟨rfl, rfl, trivial⟩, hS9.pick [0] rfl rfl⟩
    replace h := bcF h hc36
    refine go ?_
    rcases bcases ((x0.links.length : Int) != 2) with hc37 | hc37
    · replace h := bcT h hc37
      refine go ?_
      cases oi h
      exact ⟨⟨rfl, rfl, trivial⟩, hS9.pick [0] rfl rfl⟩
    replace h := bcF h hc37
    refine go ?_
    replace ⟨y38, hy38, h⟩ := obind h
    refine go ?_
    refine LW.c0 (W_s_l1In hy38) hS9 fun w39 hS10 => ?_
    refine go ?_
    cases oi h
    exact ⟨⟨rfl, rfl, trivial⟩, hS10.pick [0] rfl rfl⟩
  intro e w40 hS11
  have h := h21
  refine go ?_
  refine cd (fun hc41 => ?_) fun hc41 => ?_
  · replace h := bcT h hc41
    refine go ?_
    cases h
    exact fi hS11
  replace h := bcF h hc41
  refine go ?_
  obtain ⟨o57, ho57, h58⟩ := obind h
  refine CW.mono (CW.lx [1] [0] [1] 0 (fun s42 => [(3, .int .i64 s42)]) (RT Try.prog Try.f97.results (fun u => .bool u) w0 []) hS11 ho57 (hb := ?_)) ?_
  · intro s42 e w43 o hS12 h
    refine go ?_
    refine cd (fun hc44 => ?_) fun hc44 => ?_
    · replace h := bcT h hc44
      refine go ?_
      replace ⟨y45, hy45, h⟩ := obind h
      obtain ⟨b48, o49, cs50, hae, hb53, hp46, hq47, hd51, hk52⟩ := hr0_10.idx hy45
      subst hae
      obtain rfl := hd51
      refine LW.u (Pur.ix Try.underlying24 sz3 rfl rfl hp46 hq47) rfl ?_
      refine LW.l (Ldr.old w0 ag3 rfl (hk52 0 _ rfl)) (hS12.same _ hb53.1 hb53.2) rfl ?_
      replace ⟨y54, hy54, h⟩ := obind h
      refine LW.c0 (W_s_l1In hy54) hS12 fun w55 hS13 => ?_
      refine go ?_
      refine CW.fl [1, 3, 119] fun e => ?_
      refine cd (fun hc56 => ?_) fun hc56 => ?_
      · replace h := bcT h hc56
        refine go ?_
        cases oi h
        exact ⟨trivial, rfl, _, rfl, ⟨_, Res.one (resOne.t rfl), rfl, hS13.pick [] rfl rfl⟩⟩
      replace h := bcF h hc56
      refine go ?_
      cases oi h
      exact ⟨rfl, ⟨⟨rfl, rfl, trivial⟩, hS13.pick [0] rfl rfl⟩⟩
    replace h := bcF h hc44
    refine go ?_
    cases oi h
    exact ⟨trivial, rfl, ⟨⟨rfl, trivial⟩, hS12.pick [0] rfl rfl⟩⟩
  intro x e w59 hM
  rcases o57 with o57 | r150
  · obtain ⟨rfl, hM⟩ := hM
    obtain ⟨hE, hS14⟩ := hM
    obtain ⟨e, rfl⟩ := hE.out
    have h := h58
    refine gs ?_
    obtain ⟨j60, hj60, h61⟩ := obind h
    refine CW.jn [1] [0] [(165, .bool j60)] hS14 (h1 := ?_) (h2 := ?_)
    · have h := hj60
      refine go ?_
      rcases bcases (x0.kind != 4) with hc62 | hc62
      · replace h := bcT h hc62
        refine go ?_
        rcases bcases (x0.wait != 0) with hc63 | hc63
        · replace h := bcT h hc63
          refine go ?_
          cases oi h
          exact ⟨⟨rfl, rfl, trivial⟩, hS14.pick [0] rfl rfl⟩
        replace h := bcF h hc63
        refine go ?_
        refine LW.fl [1, 123, 132] fun e => ?_
        rcases bcases (x0.got != 0) with hc64 | hc64
        · replace h := bcT h hc64
          refine go ?_
          cases oi h
          exact ⟨⟨rfl, rfl, trivial⟩, hS14.pick [0] rfl rfl⟩
        replace h := bcF h hc64
        refine go ?_
        rcases bcases (x0.ran != 0) with hc65 | hc65
        · replace h := bcT h hc65
          refine go ?_
          cases oi h
          exact ⟨⟨rfl, rfl, trivial⟩, hS14.pick [0] rfl rfl⟩
        replace h := bcF h hc65
        refine go ?_
        rcases bcases (x0.kind == 4) with hc66 | hc66
        · replace h := bcT h hc66
          refine go ?_
          rcases bcases (decide (x0.wait < 0)) with hc67 | hc67
          · replace h := bcT h hc67
            refine go ?_
            cases oi h
            exact ⟨⟨rfl, rfl, trivial⟩, hS14.pick [0] rfl rfl⟩
          replace h := bcF h hc67
          refine go ?_
          rcases bcases (decide (x0.wait > 0)) with hc68 | hc68
          · replace h := bcT h hc68
            refine go ?_
            refine LW.fl [1, 138, 142, 146, 150, 153] fun e => ?_
            replace ⟨y69, hy69, h⟩ := obind h
            refine go ?_
            refine LW.c0 (W_s_l8Handle hy69) hS14 fun w70 hS15 => ?_
            refine go ?_
            rcases bcases (!y69) with hc71 | hc71
            · replace h := bcT h hc71
              refine go ?_
              cases oi h
              exact ⟨⟨rfl, rfl, trivial⟩, hS15.pick [0] rfl rfl⟩
            replace h := bcF h hc71
            refine go ?_
            replace ⟨y72, hy72, h⟩ := obind h
            refine go ?_
            refine LW.c0 (W_s_l1In hy72) hS15 fun w73 hS16 => ?_
            refine go ?_
            cases oi h
            exact ⟨⟨rfl, rfl, trivial⟩, hS16.pick [0] rfl rfl⟩
          replace h := bcF h hc68
          refine go ?_
          refine LW.fl [1, 138, 142, 158, 160] fun e => ?_
          replace ⟨y74, hy74, h⟩ := obind h
          refine go ?_
          refine LW.c0 (W_s_l1In hy74) hS14 fun w75 hS17 => ?_
          refine go ?_
          cases oi h
          exact ⟨⟨rfl, rfl, trivial⟩, hS17.pick [0] rfl rfl⟩
        replace h := bcF h hc66
        refine go ?_
        cases oi h
        exact ⟨⟨rfl, rfl, trivial⟩, hS14.pick [0] rfl rfl⟩
      replace h := bcF h hc62
      refine go ?_
      refine LW.fl [1, 138, 142] fun e => ?_
      rcases bcases (x0.kind == 4) with hc76 | hc76
      · replace h := bcT h hc76
        refine go ?_
        rcases bcases (decide (x0.wait < 0)) with hc77 | hc77
        · replace h := bcT h hc77
          refine go ?_
          cases oi h
          exact ⟨⟨rfl, rfl, trivial⟩, hS14.pick [0] rfl rfl⟩
        replace h := bcF h hc77
        refine go ?_
        rcases bcases (decide (x0.wait > 0)) with hc78 | hc78
        · replace h := bcT h hc78
          refine go ?_
          replace ⟨y79, hy79, h⟩ := obind h
          refine go ?_
          refine LW.c0 (W_s_l8Handle hy79) hS14 fun w80 hS18 => ?_
          refine go ?_
          rcases bcases (!y79) with hc81 | hc81
          · replace h := bcT h hc81
            refine go ?_
            cases oi h
            exact ⟨⟨rfl, rfl, trivial⟩, hS18.pick [0] rfl rfl⟩
          replace h := bcF h hc81
          refine go ?_
          replace ⟨y82, hy82, h⟩ := obind h
          refine go ?_
          refine LW.c0 (W_s_l1In hy82) hS18 fun w83 hS19 => ?_
          refine go ?_
          cases oi h
          exact ⟨⟨rfl, rfl, trivial⟩, hS19.pick [0] rfl rfl⟩
        replace h := bcF h hc78
        refine go ?_
        replace ⟨y84, hy84, h⟩ := obind h
        refine go ?_
        refine LW.c0 (W_s_l1In hy84) hS14 fun w85 hS20 => ?_
        refine go ?_
        cases oi h
        exact ⟨⟨rfl, rfl, trivial⟩, hS20.pick [0] rfl rfl⟩
      replace h := bcF h hc76
      refine go ?_
      cases oi h
      exact ⟨⟨rfl, rfl, trivial⟩, hS14.pick [0] rfl rfl⟩
    intro e w86 hS21
    have h := h61
    refine go ?_
    refine cd (fun hc87 => ?_) fun hc87 => ?_
    · replace h := bcT h hc87
      refine go ?_
      cases h
      exact fi hS21
    replace h := bcF h hc87
    refine gs ?_
    obtain ⟨j88, hj88, h89⟩ := obind h
    refine CW.jn [1] [0] [(195, .bool j88)] hS21 (h1 := ?_) (h2 := ?_)
    · have h := hj88
      refine go ?_
      rcases bcases ((x0.data.length : Int) != 0) with hc90 | hc90
      · replace h := bcT h hc90
        refine go ?_
        rcases bcases (x0.kind != 2) with hc91 | hc91
        · replace h := bcT h hc91
          refine go ?_
          cases oi h
          exact ⟨⟨rfl, rfl, trivial⟩, hS21.pick [0] rfl rfl⟩
        replace h := bcF h hc91
        refine go ?_
        refine LW.fl [1, 183] fun e => ?_
        rcases bcases ((x0.data.length : Int) != x0.pages) with hc92 | hc92
        · replace h := bcT h hc92
          refine go ?_
          cases oi h
          exact ⟨⟨rfl, rfl, trivial⟩, hS21.pick [0] rfl rfl⟩
        replace h := bcF h hc92
        refine go ?_
        rcases bcases (x0.kind == 2) with hc93 | hc93
        · replace h := bcT h hc93
          refine go ?_
          cases oi h
          exact ⟨⟨rfl, rfl, trivial⟩, hS21.pick [0] rfl rfl⟩
        replace h := bcF h hc93
        refine go ?_
        cases oi h
        exact ⟨⟨rfl, rfl, trivial⟩, hS21.pick [0] rfl rfl⟩
      replace h := bcF h hc90
      refine go ?_
      refine LW.fl [1, 183, 187] fun e => ?_
      rcases bcases (x0.kind == 2) with hc94 | hc94
      · replace h := bcT h hc94
        refine go ?_
        cases oi h
        exact ⟨⟨rfl, rfl, trivial⟩, hS21.pick [0] rfl rfl⟩
      replace h := bcF h hc94
      refine go ?_
      cases oi h
      exact ⟨⟨rfl, rfl, trivial⟩, hS21.pick [0] rfl rfl⟩
    intro e w95 hS22
    have h := h89
    refine go ?_
    refine cd (fun hc96 => ?_) fun hc96 => ?_
    · replace h := bcT h hc96
      refine go ?_
      cases h
      exact fi hS22
    replace h := bcF h hc96
    refine go ?_
    obtain ⟨o112, ho112, h113⟩ := obind h
    refine CW.mono (CW.lx [1] [0] [1] 2 (fun s97 => [(4, .int .i64 s97)]) (RT Try.prog Try.f97.results (fun u => .bool u) w0 []) hS22 ho112 (hb := ?_)) ?_
    · intro s97 e w98 o hS23 h
      refine go ?_
      refine CW.fl [1, 4, 200] fun e => ?_
      refine cd (fun hc99 => ?_) fun hc99 => ?_
      · replace h := bcT h hc99
        refine go ?_
        replace ⟨y100, hy100, h⟩ := obind h
        obtain ⟨b103, o104, cs105, hae, hb108, hp101, hq102, hd106, hk107⟩ := hr0_11.idx hy100
        subst hae
        obtain rfl := hd106
        refine LW.u (Pur.ix Try.underlying24 sz3 rfl rfl hp101 hq102) rfl ?_
        refine LW.l (Ldr.old w0 ag3 rfl (hk107 0 _ rfl)) (hS23.same _ hb108.1 hb108.2) rfl ?_
        replace ⟨y109, hy109, h⟩ := obind h
        refine LW.c0 (W_s_l1In hy109) hS23 fun w110 hS24 => ?_
        refine go ?_
        refine cd (fun hc111 => ?_) fun hc111 => ?_
        · replace h := bcT h hc111
          refine go ?_
          cases oi h
          exact ⟨trivial, rfl, _, rfl, ⟨_, Res.one (resOne.t rfl), rfl, hS24.pick [] rfl rfl⟩⟩
        replace h := bcF h hc111
        refine go ?_
        cases oi h
        exact ⟨rfl, ⟨⟨rfl, rfl, trivial⟩, hS24.pick [0] rfl rfl⟩⟩
      replace h := bcF h hc99
      refine go ?_
      cases oi h
      exact ⟨trivial, rfl, ⟨⟨rfl, trivial⟩, hS23.pick [0] rfl rfl⟩⟩
    intro x e w114 hM
    rcases o112 with o112 | r149
    · obtain ⟨rfl, hM⟩ := hM
      obtain ⟨hE, hS25⟩ := hM
      obtain ⟨e, rfl⟩ := hE.out
      have h := h113
      refine gs ?_
      obtain ⟨j115, hj115, h116⟩ := obind h
      refine CW.jn [1] [0] [(224, .bool j115)] hS25 (h1 := ?_) (h2 := ?_)
      · have h := hj115
        refine go ?_
        rcases bcases (decide ((x0.queue.length : Int) > 2)) with hc117 | hc117
        · replace h := bcT h hc117
          refine go ?_
          cases oi h
          exact ⟨⟨rfl, rfl, trivial⟩, hS25.pick [0] rfl rfl⟩
        replace h := bcF h hc117
        refine go ?_
        rcases bcases (decide ((x0.queue.length : Int) > 0)) with hc118 | hc118
        · replace h := bcT h hc118
          refine go ?_
          cases oi h
          exact ⟨⟨rfl, rfl, trivial⟩, hS25.pick [0] rfl rfl⟩
        replace h := bcF h hc118
        refine go ?_
        cases oi h
        exact ⟨⟨rfl, rfl, trivial⟩, hS25.pick [0] rfl rfl⟩
      intro e w119 hS26
      have h := h116
      refine go ?_
      refine cd (fun hc120 => ?_) fun hc120 => ?_
      · replace h := bcT h hc120
        refine go ?_
        cases h
        exact fi hS26
      replace h := bcF h hc120
      refine go ?_
      obtain ⟨o145, ho145, h146⟩ := obind h
      refine CW.mono (CW.lx [1] [0] [] 4 (fun s121 => [(5, .int .i64 s121)]) (RT Try.prog Try.f97.results (fun u => .bool u) w0 []) hS26 ho145 (hb := ?_)) ?_
      · intro s121 e w122 o hS27 h
        refine go ?_
        refine CW.fl [1, 5, 229] fun e => ?_
        refine cd (fun hc123 => ?_) fun hc123 => ?_
        · replace h := bcT h hc123
          refine gs ?_
          refine CW.block ?_
          refine gs ?_
          obtain ⟨j124, hj124, h125⟩ := obind h
          refine CW.jn [1, 5] [0] [(258, .bool j124)] hS27 (h1 := ?_) (h2 := ?_)
          · have h := hj124
            refine go ?_
            replace ⟨y126, hy126, h⟩ := obind h
            obtain ⟨b129, o130, cs131, hae, hb134, hp127, hq128, hd132, hk133⟩ := hr0_12.idx hy126
            subst hae
            obtain rfl := hd132
            refine LW.u (Pur.ix Try.underlying82 sz146 rfl rfl hp127 hq128) rfl ?_
            refine go ?_
            refine LW.l (Ldr.old w0 ag3 rfl (hk133 0 _ rfl)) (hS27.same _ hb134.1 hb134.2) rfl ?_
            refine go ?_
            rcases bcases (y126.src != (-1)) with hc135 | hc135
            · replace h := bcT h hc135
              refine go ?_
              refine LW.u (Pur.ix Try.underlying82 sz146 rfl rfl hp127 hq128) rfl ?_
              refine go ?_
              refine LW.l (Ldr.old w0 ag3 rfl (hk133 0 _ rfl)) (hS27.same _ hb134.1 hb134.2) rfl ?_
              replace ⟨y136, hy136, h⟩ := obind h
              refine go ?_
              refine LW.c0 (W_s_l8Handle hy136) hS27 fun w137 hS28 => ?_
              refine go ?_
              rcases bcases (!y136) with hc138 | hc138
              · replace h := bcT h hc138
                refine go ?_
                cases oi h
                exact ⟨⟨rfl, rfl, rfl, trivial⟩, hS28.pick [0] rfl rfl⟩
              replace h := bcF h hc138
              refine go ?_
              refine LW.u (Pur.ix Try.underlying82 sz146 rfl rfl hp127 hq128) rfl ?_
              refine go ?_
              refine LW.fl [1, 5, 249, 254] fun e => ?_
              refine go ?_
              refine LW.l (Ldr.old w0 ag3 rfl (hk133 1 _ rfl)) (hS28.same _ hb134.1 hb134.2) rfl ?_
              replace ⟨y139, hy139, h⟩ := obind h
              refine go ?_
              refine LW.c0 (W_s_l1In hy139) hS28 fun w140 hS29 => ?_
              refine go ?_
              cases oi h
              exact ⟨⟨rfl, rfl, rfl, trivial⟩, hS29.pick [0] rfl rfl⟩
            replace h := bcF h hc135
            refine go ?_
            refine LW.u (Pur.ix Try.underlying82 sz146 rfl rfl hp127 hq128) rfl ?_
            refine go ?_
            refine LW.fl [1, 5, 249, 254] fun e => ?_
            refine go ?_
            refine LW.l (Ldr.old w0 ag3 rfl (hk133 1 _ rfl)) (hS27.same _ hb134.1 hb134.2) rfl ?_
            replace ⟨y141, hy141, h⟩ := obind h
            refine go ?_
            refine LW.c0 (W_s_l1In hy141) hS27 fun w142 hS30 => ?_
            refine go ?_
            cases oi h
            exact ⟨⟨rfl, rfl, rfl, trivial⟩, hS30.pick [0] rfl rfl⟩
          intro e w143 hS31
          have h := h125
          refine go ?_
          refine cd (fun hc144 => ?_) fun hc144 => ?_
          · replace h := bcT h hc144
            refine go ?_
            cases oi h
            exact ⟨trivial, rfl, _, rfl, ⟨_, Res.one (resOne.t rfl), rfl, hS31.pick [] rfl rfl⟩⟩
          replace h := bcF h hc144
          refine go ?_
          cases oi h
          exact ⟨rfl, ⟨⟨rfl, rfl, trivial⟩, hS31.pick [0] rfl rfl⟩⟩
        replace h := bcF h hc123
        refine go ?_
        cases oi h
        exact ⟨trivial, rfl, ⟨trivial, hS27.pick [0] rfl rfl⟩⟩
      intro x e w147 hM
      rcases o145 with o145 | r148
      · obtain ⟨rfl, hM⟩ := hM
        obtain ⟨hE, hS32⟩ := hM
        obtain ⟨e, rfl⟩ := hE.out; rw [show e = upds e [] from rfl]
        have h := h146
        refine go ?_
        cases h
        exact fi hS32
      obtain ⟨rfl, u, rfl, hM⟩ := hM
      cases h146
      exact And.intro trivial hM
    obtain ⟨rfl, u, rfl, hM⟩ := hM
    cases h113
    exact And.intro trivial hM
  obtain ⟨rfl, u, rfl, hM⟩ := hM
  cases h58
  exact And.intro trivial hM

theorem W_s_TapOk {w0 : World} {N : Nat} {x0 : DTap} {r : Bool} (h : F_s_TapOk N x0 = some r) :
    Ret Try.prog 47 #[.agg #[.int .i64 x0.res, .int .i64 x0.toPart, .int .i64 x0.toRes, .int .i64 x0.which, .int .i64 x0.kind, .int .i64 x0.rate]] w0 (fun v w => v = .bool r ∧ St w0 [] w []) := by
  unfold F_s_TapOk at h
  refine Ret.fn Try.func47 fun e => ?_
  have hS1 := St.start w0
  refine go ?_
  refine LW.bo hS1 fun g1 w2 hS2 => ?_
  refine gs ?_
  obtain ⟨j3, hj3, h4⟩ := obind h
  refine CW.jn [1] [0] [(24, .bool j3)] hS2 (h1 := ?_) (h2 := ?_)
  · have h := hj3
    refine go ?_
    replace ⟨y5, hy5, h⟩ := obind h
    refine LW.c0 (W_s_l6Res hy5) hS2 fun w6 hS3 => ?_
    refine go ?_
    rcases bcases (!y5) with hc7 | hc7
    · replace h := bcT h hc7
      refine go ?_
      cases oi h
      exact ⟨⟨rfl, rfl, trivial⟩, hS3.pick [0] rfl rfl⟩
    replace h := bcF h hc7
    refine go ?_
    replace ⟨y8, hy8, h⟩ := obind h
    refine go ?_
    refine LW.c0 (W_s_l1In hy8) hS3 fun w9 hS4 => ?_
    refine go ?_
    rcases bcases (!y8) with hc10 | hc10
    · replace h := bcT h hc10
      refine go ?_
      cases oi h
      exact ⟨⟨rfl, rfl, trivial⟩, hS4.pick [0] rfl rfl⟩
    replace h := bcF h hc10
    refine go ?_
    replace ⟨y11, hy11, h⟩ := obind h
    refine go ?_
    refine LW.c0 (W_s_l6Res hy11) hS4 fun w12 hS5 => ?_
    refine go ?_
    rcases bcases (!y11) with hc13 | hc13
    · replace h := bcT h hc13
      refine go ?_
      cases oi h
      exact ⟨⟨rfl, rfl, trivial⟩, hS5.pick [0] rfl rfl⟩
    replace h := bcF h hc13
    refine go ?_
    replace ⟨y14, hy14, h⟩ := obind h
    refine go ?_
    refine LW.c0 (W_s_l1In hy14) hS5 fun w15 hS6 => ?_
    refine go ?_
    cases oi h
    exact ⟨⟨rfl, rfl, trivial⟩, hS6.pick [0] rfl rfl⟩
  intro e w16 hS7
  have h := h4
  refine go ?_
  refine cd (fun hc17 => ?_) fun hc17 => ?_
  · replace h := bcT h hc17
    refine go ?_
    cases h
    exact fi hS7
  replace h := bcF h hc17
  refine go ?_
  refine cd (fun hc18 => ?_) fun hc18 => ?_
  · replace h := bcT h hc18
    refine go ?_
    replace ⟨y19, hy19, h⟩ := obind h
    refine LW.c0 (W_s_l1In hy19) hS7 fun w20 hS8 => ?_
    refine go ?_
    cases h
    exact fi hS8
  replace h := bcF h hc18
  refine go ?_
  refine cd (fun hc21 => ?_) fun hc21 => ?_
  · replace h := bcT h hc21
    refine go ?_
    replace ⟨y22, hy22, h⟩ := obind h
    refine LW.c0 (W_s_l1In hy22) hS7 fun w23 hS9 => ?_
    refine go ?_
    cases h
    exact fi hS9
  replace h := bcF h hc21
  refine go ?_
  cases h
  exact fi hS7

end Go.Kx
