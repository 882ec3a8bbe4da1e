/- Each call returns what the plain function says. Printed by drive.py. -/
import Derived.Test.YtfllimolhpblnaaGreatFa
import Derived.Test.YtfllimolhpblnaaGreatPu
import Derived.Test.YtfllimolhpblnaaGreatWa0
import Derived.Test.YtfllimolhpblnaaGreatWa1
import Derived.Test.YtfllimolhpblnaaGreatWa2
namespace Go.Kx
open Go Go.RowKit Go.Proofs
set_option maxRecDepth 10000
set_option maxHeartbeats 2000000
set_option linter.unusedVariables false
set_option linter.unusedSimpArgs false
theorem W_s_l6Copy {w0 : World} {N : Nat} {x0 : List DRes} {r : (List DRes)} (h : F_s_l6Copy N x0 = some r) {a0_0 : Option Addr} {n0_0 c0_0 : Nat} (hn0_0 : n0_0 = x0.length) (hr0_0 : rdS (Bor w0 []) w0 a0_0 c0_0 x0) :
    Ret Tryz.prog 104 #[.slice a0_0 n0_0 c0_0] w0 (fun v w => ∃ ar0 cr0, v = .slice ar0 r.length cr0 ∧ St w0 [] w [sl ar0 cr0 r]) := by
  subst hn0_0
  unfold F_s_l6Copy at h
  refine Ret.fn Tryz.func104 fun e => ?_
  have hS1 := St.start w0
  refine go ?_
  refine LW.bsl (α := DRes) (vs := []) (cs := #[]) (l := ([] : List DRes)) rfl (by kernel_rfl) rfl rfl rfl (fun w => rfl) hS1 rfl ?_
  intro a1 c2 w3 hS2 hf
  refine go ?_
  replace ⟨y4, hy4, h⟩ := obind h
  refine LW.appN (l := ([] : List DRes)) (m := x0) sT58 rfl rfl (hS2.rB hr0_0) hy4 hS2 (i := 0) rfl rfl ?_
  intro a5 c6 w7 hS3 hf
  refine go ?_
  cases h
  exact And.intro trivial ⟨_, Res.one (resOne.t rfl), a5, c6, rfl, hS3.pick [0] rfl rfl⟩

theorem W_s_l8Obj {w0 : World} {N : Nat} {x0 : DObj} {r : DObj} (h : F_s_l8Obj N x0 = some r) {a0_10 : Option Addr} {n0_10 c0_10 : Nat} (hn0_10 : n0_10 = x0.links.length) (hr0_10 : rdS (Bor w0 []) w0 a0_10 c0_10 x0.links) {a0_11 : Option Addr} {n0_11 c0_11 : Nat} (hn0_11 : n0_11 = x0.data.length) (hr0_11 : rdS (Bor w0 []) w0 a0_11 c0_11 x0.data) {a0_12 : Option Addr} {n0_12 c0_12 : Nat} (hn0_12 : n0_12 = x0.queue.length) (hr0_12 : rdS (Bor w0 []) w0 a0_12 c0_12 x0.queue) :
    Ret Tryz.prog 212 #[.agg #[.int .i64 x0.gen, .int .i64 x0.kind, .int .i64 x0.box, .int .i64 x0.res, .int .i64 x0.til, .int .i64 x0.pages, .int .i64 x0.wait, .int .i64 x0.got, .int .i64 x0.ran, .bool x0.mark, .slice a0_10 n0_10 c0_10, .slice a0_11 n0_11 c0_11, .slice a0_12 n0_12 c0_12]] w0 (fun v w => ∃ ar0_10 cr0_10, ∃ ar0_11 cr0_11, ∃ ar0_12 cr0_12, v = .agg #[.int .i64 r.gen, .int .i64 r.kind, .int .i64 r.box, .int .i64 r.res, .int .i64 r.til, .int .i64 r.pages, .int .i64 r.wait, .int .i64 r.got, .int .i64 r.ran, .bool r.mark, .slice ar0_10 r.links.length cr0_10, .slice ar0_11 r.data.length cr0_11, .slice ar0_12 r.queue.length cr0_12] ∧ St w0 [] w [sl ar0_10 cr0_10 r.links, sl ar0_11 cr0_11 r.data, sl ar0_12 cr0_12 r.queue]) := by
  subst hn0_10 hn0_11 hn0_12
  unfold F_s_l8Obj at h
  refine Ret.fn Tryz.func212 fun e => ?_
  have hS1 := St.start w0
  refine go ?_
  refine LW.bo hS1 fun g1 w2 hS2 => ?_
  refine LW.al hS2 fun g3 w4 hS3 => ?_
  refine go ?_
  refine LW.bsl (α := Int) (vs := []) (cs := #[]) (l := ([] : List Int)) rfl (by kernel_rfl) rfl rfl rfl (fun w => rfl) hS3 rfl ?_
  intro a5 c6 w7 hS4 hf
  refine go ?_
  replace ⟨y8, hy8, h⟩ := obind h
  refine LW.appN (l := ([] : List Int)) (m := x0.links) sT28 rfl rfl (hS4.rB hr0_10) hy8 hS4 (i := 0) rfl rfl ?_
  intro a9 c10 w11 hS5 hf
  refine go ?_
  refine LW.st hS5 2 fun w12 hS6 => ?_
  refine go ?_
  refine LW.bsl (α := Int) (vs := []) (cs := #[]) (l := ([] : List Int)) rfl (by kernel_rfl) rfl rfl rfl (fun w => rfl) hS6 rfl ?_
  intro a13 c14 w15 hS7 hf
  refine go ?_
  replace ⟨y16, hy16, h⟩ := obind h
  refine LW.appN (l := ([] : List Int)) (m := x0.data) sT28 rfl rfl (hS7.rB hr0_11) hy16 hS7 (i := 0) rfl rfl ?_
  intro a17 c18 w19 hS8 hf
  refine go ?_
  refine LW.st hS8 3 fun w20 hS9 => ?_
  refine go ?_
  refine LW.bsl (α := DMsg) (vs := []) (cs := #[]) (l := ([] : List DMsg)) rfl (by kernel_rfl) rfl rfl rfl (fun w => rfl) hS9 rfl ?_
  intro a21 c22 w23 hS10 hf
  refine go ?_
  replace ⟨y24, hy24, h⟩ := obind h
  refine LW.appN (l := ([] : List DMsg)) (m := x0.queue) sT90 rfl rfl (hS10.rB hr0_12) hy24 hS10 (i := 0) rfl rfl ?_
  intro a25 c26 w27 hS11 hf
  refine go ?_
  refine LW.st hS11 4 fun w28 hS12 => ?_
  refine go ?_
  refine LW.st hS12 3 fun w29 hS13 => ?_
  refine go ?_
  cases h
  exact And.intro trivial ⟨_, Res.one (resOne.b hS13 3 rfl ag92 rfl rfl), a9, c10, a17, c18, a25, c26, rfl, hS13.pick [2, 1, 0] rfl rfl⟩

theorem W_i_copyInts {w0 : World} {N : Nat} {x0 : List Int} {r : (List Int)} (h : F_i_copyInts N x0 = some r) {a0_0 : Option Addr} {n0_0 c0_0 : Nat} (hn0_0 : n0_0 = x0.length) (hr0_0 : rdS (Bor w0 []) w0 a0_0 c0_0 x0) :
    Ret Tryz.prog 140 #[.slice a0_0 n0_0 c0_0] w0 (fun v w => ∃ ar0 cr0, v = .slice ar0 r.length cr0 ∧ St w0 [] w [sl ar0 cr0 r]) := by
  subst hn0_0
  unfold F_i_copyInts at h
  refine Ret.fn Tryz.func140 fun e => ?_
  have hS1 := St.start w0
  refine go ?_
  refine LW.bsl (α := Int) (vs := []) (cs := #[]) (l := ([] : List Int)) rfl (by kernel_rfl) rfl rfl rfl (fun w => rfl) hS1 rfl ?_
  intro a1 c2 w3 hS2 hf
  refine go ?_
  replace ⟨y4, hy4, h⟩ := obind h
  refine LW.appN (l := ([] : List Int)) (m := x0) sT28 rfl rfl (hS2.rB hr0_0) hy4 hS2 (i := 0) rfl rfl ?_
  intro a5 c6 w7 hS3 hf
  refine go ?_
  cases h
  exact And.intro trivial ⟨_, Res.one (resOne.t rfl), a5, c6, rfl, hS3.pick [0] rfl rfl⟩

theorem W_i_copyTree {w0 : World} {N : Nat} {x0 : List DRes} {r : (List DRes)} (h : F_i_copyTree N x0 = some r) {a0_0 : Option Addr} {n0_0 c0_0 : Nat} (hn0_0 : n0_0 = x0.length) (hr0_0 : rdS (Bor w0 []) w0 a0_0 c0_0 x0) :
    Ret Tryz.prog 141 #[.slice a0_0 n0_0 c0_0] w0 (fun v w => ∃ ar0 cr0, v = .slice ar0 r.length cr0 ∧ St w0 [] w [sl ar0 cr0 r]) := by
  subst hn0_0
  unfold F_i_copyTree at h
  refine Ret.fn Tryz.func141 fun e => ?_
  have hS1 := St.start w0
  refine go ?_
  refine LW.bsl (α := DRes) (vs := []) (cs := #[]) (l := ([] : List DRes)) rfl (by kernel_rfl) rfl rfl rfl (fun w => rfl) hS1 rfl ?_
  intro a1 c2 w3 hS2 hf
  refine go ?_
  replace ⟨y4, hy4, h⟩ := obind h
  refine LW.appN (l := ([] : List DRes)) (m := x0) sT58 rfl rfl (hS2.rB hr0_0) hy4 hS2 (i := 0) rfl rfl ?_
  intro a5 c6 w7 hS3 hf
  refine go ?_
  cases h
  exact And.intro trivial ⟨_, Res.one (resOne.t rfl), a5, c6, rfl, hS3.pick [0] rfl rfl⟩

theorem W_l_heldResS {w0 : World} {N : Nat} {x0 : List DRes} {x1 : Int} {r : Int} (h : F_l_heldResS N x0 x1 = some r) {a0_0 : Option Addr} {n0_0 c0_0 : Nat} (hn0_0 : n0_0 = x0.length) (hr0_0 : rdS (Bor w0 []) w0 a0_0 c0_0 x0) :
    Ret Tryz.prog 82 #[.slice a0_0 n0_0 c0_0, .int .i64 x1] w0 (fun v w => v = .int .i64 r ∧ St w0 [] w []) := by
  subst hn0_0
  unfold F_l_heldResS at h
  refine Ret.fn Tryz.func82 fun e => ?_
  have hS1 := St.start w0
  refine go ?_
  obtain ⟨o18, ho18, h19⟩ := obind h
  refine CW.mono (CW.iter (σ := Int × Int) (ρ := (Int × Int) ⊕ Int) (fun s1 e wb => En e [(0, .slice a0_0 x0.length c0_0), (1, .int .i64 s1.1), (5, .int .i64 s1.2)] ∧ St w0 [] wb []) (fun o x e wb => match o with | .inl s1 => x = .exit 0 ∧ En e [(1, .int .i64 s1.1)] ∧ St w0 [] wb [] | .inr r => x = .ret ∧ ∃ u, u = r ∧ ∃ v, Res Tryz.prog Tryz.f82.results e wb v ∧ v = .int .i64 u ∧ St w0 [] wb []) ?_ N (x1, 0) _ _ _ ⟨⟨rfl, rfl, rfl, trivial⟩, hS1.pick [] rfl rfl⟩ ho18) ?_
  · intro s1 e w2 o hM h
    obtain ⟨hE, hS2⟩ := hM
    obtain ⟨e, rfl⟩ := hE.out
    refine go ?_
    refine CW.cond rfl (fun hc3 => ?_) (fun hc3 => ?_)
    · replace h := bcT h hc3
      refine go ?_
      replace ⟨y4, hy4, h⟩ := obind h
      obtain ⟨b7, o8, cs9, hae, hb12, hp5, hq6, hd10, hk11⟩ := hr0_0.idx hy4
      subst hae
      obtain rfl := hd10
      refine LW.u (Pur.ix Tryz.underlying58 sz152 rfl rfl hp5 hq6) rfl ?_
      refine go ?_
      refine LW.l (Ldr.old w0 ag4 rfl (hk11 0 _ rfl)) (hS2.same _ hb12.1 hb12.2) rfl ?_
      refine go ?_
      refine LW.u (Pur.rem rfl rfl (by decide)) rfl ?_
      refine go ?_
      refine LW.u (Pur.bne Tryz.underlying4 rfl rfl) rfl ?_
      refine go ?_
      refine CW.fl [0, 1, 5, 20] fun e => ?_
      refine CW.cond rfl (fun hc13 => ?_) (fun hc13 => ?_)
      · replace h := bcT h hc13
        refine go ?_
        cases oi h
        exact ⟨trivial, rfl, _, rfl, ⟨_, Res.one (resOne.t rfl), rfl, hS2.pick [] rfl rfl⟩⟩
      replace h := bcF h hc13
      refine go ?_
      refine LW.u (Pur.ix Tryz.underlying58 sz152 rfl rfl hp5 hq6) rfl ?_
      refine go ?_
      refine LW.l (Ldr.old w0 ag3 rfl (hk11 1 _ rfl)) (hS2.same _ hb12.1 hb12.2) rfl ?_
      refine go ?_
      refine CW.cond rfl (fun hc14 => ?_) (fun hc14 => ?_)
      · replace h := bcT h hc14
        refine go ?_
        cases oi h
        exact ⟨trivial, rfl, _, rfl, ⟨_, Res.one (resOne.t rfl), rfl, hS2.pick [] rfl rfl⟩⟩
      replace h := bcF h hc14
      refine go ?_
      refine LW.u (Pur.ix Tryz.underlying58 sz152 rfl rfl hp5 hq6) rfl ?_
      refine go ?_
      refine LW.l (Ldr.old w0 ag3 rfl (hk11 2 _ rfl)) (hS2.same _ hb12.1 hb12.2) rfl ?_
      refine go ?_
      refine CW.fl [0, 1, 5, 39] fun e => ?_
      refine CW.cond rfl (fun hc15 => ?_) (fun hc15 => ?_)
      · replace h := bcT h hc15
        refine go ?_
        cases oi h
        exact ⟨trivial, rfl, _, rfl, ⟨_, Res.one (resOne.t rfl), rfl, hS2.pick [] rfl rfl⟩⟩
      replace h := bcF h hc15
      refine go ?_
      refine LW.u (Pur.ix Tryz.underlying58 sz152 rfl rfl hp5 hq6) rfl ?_
      refine go ?_
      refine LW.l (Ldr.old w0 ag3 rfl (hk11 3 _ rfl)) (hS2.same _ hb12.1 hb12.2) rfl ?_
      refine go ?_
      refine CW.cond rfl (fun hc16 => ?_) (fun hc16 => ?_)
      · replace h := bcT h hc16
        refine go ?_
        cases oi h
        exact ⟨trivial, rfl, _, rfl, ⟨_, Res.one (resOne.t rfl), rfl, hS2.pick [] rfl rfl⟩⟩
      replace h := bcF h hc16
      refine go ?_
      refine LW.u (Pur.ix Tryz.underlying58 sz152 rfl rfl hp5 hq6) rfl ?_
      refine go ?_
      refine LW.l (Ldr.old w0 ag3 rfl (hk11 4 _ rfl)) (hS2.same _ hb12.1 hb12.2) rfl ?_
      refine go ?_
      refine CW.fl [0, 1, 5, 59] fun e => ?_
      refine CW.cond rfl (fun hc17 => ?_) (fun hc17 => ?_)
      · replace h := bcT h hc17
        refine go ?_
        cases oi h
        exact ⟨trivial, rfl, _, rfl, ⟨_, Res.one (resOne.t rfl), rfl, hS2.pick [] rfl rfl⟩⟩
      replace h := bcF h hc17
      refine go ?_
      cases oi h
      exact ⟨rfl, ⟨⟨rfl, rfl, rfl, trivial⟩, hS2.pick [] rfl rfl⟩⟩
    replace h := bcF h hc3
    refine go ?_
    cases oi h
    exact ⟨trivial, rfl, ⟨⟨rfl, trivial⟩, hS2.pick [] rfl rfl⟩⟩
  intro x e w20 hM
  rcases o18 with o18 | r21
  · obtain ⟨rfl, hM⟩ := hM
    obtain ⟨hE, hS3⟩ := hM
    obtain ⟨e, rfl⟩ := hE.out
    have h := h19
    refine go ?_
    cases h
    exact And.intro trivial ⟨_, Res.one (resOne.t rfl), rfl, hS3.pick [] rfl rfl⟩
  obtain ⟨rfl, u, rfl, hM⟩ := hM
  cases h19
  exact And.intro trivial hM

theorem W_l_heldMsgS {w0 : World} {N : Nat} {x0 : List DMsg} {x1 : Int} {r : Int} (h : F_l_heldMsgS N x0 x1 = some r) {a0_0 : Option Addr} {n0_0 c0_0 : Nat} (hn0_0 : n0_0 = x0.length) (hr0_0 : rdS (Bor w0 []) w0 a0_0 c0_0 x0) :
    Ret Tryz.prog 199 #[.slice a0_0 n0_0 c0_0, .int .i64 x1] w0 (fun v w => v = .int .i64 r ∧ St w0 [] w []) := by
  subst hn0_0
  unfold F_l_heldMsgS at h
  refine Ret.fn Tryz.func199 fun e => ?_
  have hS1 := St.start w0
  refine go ?_
  obtain ⟨o15, ho15, h16⟩ := obind h
  refine CW.mono (CW.iter (σ := Int × Int) (ρ := (Int × Int) ⊕ Int) (fun s1 e wb => En e [(0, .slice a0_0 x0.length c0_0), (1, .int .i64 s1.1), (5, .int .i64 s1.2)] ∧ St w0 [] wb []) (fun o x e wb => match o with | .inl s1 => x = .exit 0 ∧ En e [(1, .int .i64 s1.1)] ∧ St w0 [] wb [] | .inr r => x = .ret ∧ ∃ u, u = r ∧ ∃ v, Res Tryz.prog Tryz.f199.results e wb v ∧ v = .int .i64 u ∧ St w0 [] wb []) ?_ N (x1, 0) _ _ _ ⟨⟨rfl, rfl, rfl, trivial⟩, hS1.pick [] rfl rfl⟩ ho15) ?_
  · intro s1 e w2 o hM h
    obtain ⟨hE, hS2⟩ := hM
    obtain ⟨e, rfl⟩ := hE.out
    refine go ?_
    refine CW.cond rfl (fun hc3 => ?_) (fun hc3 => ?_)
    · replace h := bcT h hc3
      refine go ?_
      replace ⟨y4, hy4, h⟩ := obind h
      obtain ⟨b7, o8, cs9, hae, hb12, hp5, hq6, hd10, hk11⟩ := hr0_0.idx hy4
      subst hae
      obtain rfl := hd10
      refine LW.u (Pur.ix Tryz.underlying90 sz194 rfl rfl hp5 hq6) rfl ?_
      refine go ?_
      refine LW.l (Ldr.old w0 ag3 rfl (hk11 0 _ rfl)) (hS2.same _ hb12.1 hb12.2) rfl ?_
      refine go ?_
      refine CW.fl [0, 1, 5, 18] fun e => ?_
      refine CW.cond rfl (fun hc13 => ?_) (fun hc13 => ?_)
      · replace h := bcT h hc13
        refine go ?_
        cases oi h
        exact ⟨trivial, rfl, _, rfl, ⟨_, Res.one (resOne.t rfl), rfl, hS2.pick [] rfl rfl⟩⟩
      replace h := bcF h hc13
      refine go ?_
      refine LW.u (Pur.ix Tryz.underlying90 sz194 rfl rfl hp5 hq6) rfl ?_
      refine go ?_
      refine LW.l (Ldr.old w0 ag3 rfl (hk11 1 _ rfl)) (hS2.same _ hb12.1 hb12.2) rfl ?_
      refine go ?_
      refine CW.cond rfl (fun hc14 => ?_) (fun hc14 => ?_)
      · replace h := bcT h hc14
        refine go ?_
        cases oi h
        exact ⟨trivial, rfl, _, rfl, ⟨_, Res.one (resOne.t rfl), rfl, hS2.pick [] rfl rfl⟩⟩
      replace h := bcF h hc14
      refine go ?_
      cases oi h
      exact ⟨rfl, ⟨⟨rfl, rfl, rfl, trivial⟩, hS2.pick [] rfl rfl⟩⟩
    replace h := bcF h hc3
    refine go ?_
    cases oi h
    exact ⟨trivial, rfl, ⟨⟨rfl, trivial⟩, hS2.pick [] rfl rfl⟩⟩
  intro x e w17 hM
  rcases o15 with o15 | r18
  · obtain ⟨rfl, hM⟩ := hM
    obtain ⟨hE, hS3⟩ := hM
    obtain ⟨e, rfl⟩ := hE.out
    have h := h16
    refine go ?_
    cases h
    exact And.intro trivial ⟨_, Res.one (resOne.t rfl), rfl, hS3.pick [] rfl rfl⟩
  obtain ⟨rfl, u, rfl, hM⟩ := hM
  cases h16
  exact And.intro trivial hM

theorem W_l_heldTapS {w0 : World} {N : Nat} {x0 : List DTap} {x1 : Int} {r : Int} (h : F_l_heldTapS N x0 x1 = some r) {a0_0 : Option Addr} {n0_0 c0_0 : Nat} (hn0_0 : n0_0 = x0.length) (hr0_0 : rdS (Bor w0 []) w0 a0_0 c0_0 x0) :
    Ret Tryz.prog 84 #[.slice a0_0 n0_0 c0_0, .int .i64 x1] w0 (fun v w => v = .int .i64 r ∧ St w0 [] w []) := by
  subst hn0_0
  unfold F_l_heldTapS at h
  refine Ret.fn Tryz.func84 fun e => ?_
  have hS1 := St.start w0
  refine go ?_
  obtain ⟨o19, ho19, h20⟩ := obind h
  refine CW.mono (CW.iter (σ := Int × Int) (ρ := (Int × Int) ⊕ Int) (fun s1 e wb => En e [(0, .slice a0_0 x0.length c0_0), (1, .int .i64 s1.1), (5, .int .i64 s1.2)] ∧ St w0 [] wb []) (fun o x e wb => match o with | .inl s1 => x = .exit 0 ∧ En e [(1, .int .i64 s1.1)] ∧ St w0 [] wb [] | .inr r => x = .ret ∧ ∃ u, u = r ∧ ∃ v, Res Tryz.prog Tryz.f84.results e wb v ∧ v = .int .i64 u ∧ St w0 [] wb []) ?_ N (x1, 0) _ _ _ ⟨⟨rfl, rfl, rfl, trivial⟩, hS1.pick [] rfl rfl⟩ ho19) ?_
  · intro s1 e w2 o hM h
    obtain ⟨hE, hS2⟩ := hM
    obtain ⟨e, rfl⟩ := hE.out
    refine go ?_
    refine CW.cond rfl (fun hc3 => ?_) (fun hc3 => ?_)
    · replace h := bcT h hc3
      refine go ?_
      replace ⟨y4, hy4, h⟩ := obind h
      obtain ⟨b7, o8, cs9, hae, hb12, hp5, hq6, hd10, hk11⟩ := hr0_0.idx hy4
      subst hae
      obtain rfl := hd10
      refine LW.u (Pur.ix Tryz.underlying63 sz131 rfl rfl hp5 hq6) rfl ?_
      refine go ?_
      refine LW.l (Ldr.old w0 ag3 rfl (hk11 0 _ rfl)) (hS2.same _ hb12.1 hb12.2) rfl ?_
      refine go ?_
      refine CW.fl [0, 1, 5, 18] fun e => ?_
      refine CW.cond rfl (fun hc13 => ?_) (fun hc13 => ?_)
      · replace h := bcT h hc13
        refine go ?_
        cases oi h
        exact ⟨trivial, rfl, _, rfl, ⟨_, Res.one (resOne.t rfl), rfl, hS2.pick [] rfl rfl⟩⟩
      replace h := bcF h hc13
      refine go ?_
      refine LW.u (Pur.ix Tryz.underlying63 sz131 rfl rfl hp5 hq6) rfl ?_
      refine go ?_
      refine LW.l (Ldr.old w0 ag3 rfl (hk11 1 _ rfl)) (hS2.same _ hb12.1 hb12.2) rfl ?_
      refine go ?_
      refine CW.cond rfl (fun hc14 => ?_) (fun hc14 => ?_)
      · replace h := bcT h hc14
        refine go ?_
        cases oi h
        exact ⟨trivial, rfl, _, rfl, ⟨_, Res.one (resOne.t rfl), rfl, hS2.pick [] rfl rfl⟩⟩
      replace h := bcF h hc14
      refine go ?_
      refine LW.u (Pur.ix Tryz.underlying63 sz131 rfl rfl hp5 hq6) rfl ?_
      refine go ?_
      refine LW.l (Ldr.old w0 ag3 rfl (hk11 2 _ rfl)) (hS2.same _ hb12.1 hb12.2) rfl ?_
      refine go ?_
      refine CW.fl [0, 1, 5, 36] fun e => ?_
      refine CW.cond rfl (fun hc15 => ?_) (fun hc15 => ?_)
      · replace h := bcT h hc15
        refine go ?_
        cases oi h
        exact ⟨trivial, rfl, _, rfl, ⟨_, Res.one (resOne.t rfl), rfl, hS2.pick [] rfl rfl⟩⟩
      replace h := bcF h hc15
      refine go ?_
      refine LW.u (Pur.ix Tryz.underlying63 sz131 rfl rfl hp5 hq6) rfl ?_
      refine go ?_
      refine LW.l (Ldr.old w0 ag3 rfl (hk11 3 _ rfl)) (hS2.same _ hb12.1 hb12.2) rfl ?_
      refine go ?_
      refine CW.cond rfl (fun hc16 => ?_) (fun hc16 => ?_)
      · replace h := bcT h hc16
        refine go ?_
        cases oi h
        exact ⟨trivial, rfl, _, rfl, ⟨_, Res.one (resOne.t rfl), rfl, hS2.pick [] rfl rfl⟩⟩
      replace h := bcF h hc16
      refine go ?_
      refine LW.u (Pur.ix Tryz.underlying63 sz131 rfl rfl hp5 hq6) rfl ?_
      refine go ?_
      refine LW.l (Ldr.old w0 ag3 rfl (hk11 4 _ rfl)) (hS2.same _ hb12.1 hb12.2) rfl ?_
      refine go ?_
      refine CW.fl [0, 1, 5, 54] fun e => ?_
      refine CW.cond rfl (fun hc17 => ?_) (fun hc17 => ?_)
      · replace h := bcT h hc17
        refine go ?_
        cases oi h
        exact ⟨trivial, rfl, _, rfl, ⟨_, Res.one (resOne.t rfl), rfl, hS2.pick [] rfl rfl⟩⟩
      replace h := bcF h hc17
      refine go ?_
      refine LW.u (Pur.ix Tryz.underlying63 sz131 rfl rfl hp5 hq6) rfl ?_
      refine go ?_
      refine LW.l (Ldr.old w0 ag3 rfl (hk11 5 _ rfl)) (hS2.same _ hb12.1 hb12.2) rfl ?_
      refine go ?_
      refine CW.cond rfl (fun hc18 => ?_) (fun hc18 => ?_)
      · replace h := bcT h hc18
        refine go ?_
        cases oi h
        exact ⟨trivial, rfl, _, rfl, ⟨_, Res.one (resOne.t rfl), rfl, hS2.pick [] rfl rfl⟩⟩
      replace h := bcF h hc18
      refine go ?_
      cases oi h
      exact ⟨rfl, ⟨⟨rfl, rfl, rfl, trivial⟩, hS2.pick [] rfl rfl⟩⟩
    replace h := bcF h hc3
    refine go ?_
    cases oi h
    exact ⟨trivial, rfl, ⟨⟨rfl, trivial⟩, hS2.pick [] rfl rfl⟩⟩
  intro x e w21 hM
  rcases o19 with o19 | r22
  · obtain ⟨rfl, hM⟩ := hM
    obtain ⟨hE, hS3⟩ := hM
    obtain ⟨e, rfl⟩ := hE.out
    have h := h20
    refine go ?_
    cases h
    exact And.intro trivial ⟨_, Res.one (resOne.t rfl), rfl, hS3.pick [] rfl rfl⟩
  obtain ⟨rfl, u, rfl, hM⟩ := hM
  cases h20
  exact And.intro trivial hM

theorem W_s_l8Copy {w0 : World} {N : Nat} {x0 : List DObj} {r : (List DObj)} (h : F_s_l8Copy N x0 = some r) {a0_0 : Option Addr} {n0_0 c0_0 : Nat} (hn0_0 : n0_0 = x0.length) (hr0_0 : rdS (Bor w0 []) w0 a0_0 c0_0 x0) :
    Ret Tryz.prog 191 #[.slice a0_0 n0_0 c0_0] w0 (fun v w => ∃ ar0 cr0, v = .slice ar0 r.length cr0 ∧ St w0 [] w [sl ar0 cr0 r]) := by
  subst hn0_0
  unfold F_s_l8Copy at h
  refine Ret.fn Tryz.func191 fun e => ?_
  have hS1 := St.start w0
  refine go ?_
  refine LW.bsl (α := DObj) (vs := []) (cs := #[]) (l := ([] : List DObj)) rfl (by kernel_rfl) rfl rfl rfl (fun w => rfl) hS1 rfl ?_
  intro a1 c2 w3 hS2 hf
  refine go ?_
  obtain ⟨o38, ho38, h39⟩ := obind h
  refine CW.mono (CW.iter (σ := (List DObj) × Int) (ρ := (List DObj) × Int) (fun s4 e wb => ∃ (s4a0 : Option Addr), ∃ (s4c0 : Nat), En e [(0, .slice a0_0 x0.length c0_0), (3, .slice s4a0 s4.1.length s4c0), (4, .int .i64 s4.2)] ∧ St w0 [] wb [sl s4a0 s4c0 s4.1]) (fun s4 x e wb => x = .exit 0 ∧ ∃ (s4a0 : Option Addr), ∃ (s4c0 : Nat), En e [(3, .slice s4a0 s4.1.length s4c0)] ∧ St w0 [] wb [sl s4a0 s4c0 s4.1]) ?_ N (([] : List DObj), 0) _ _ _ ⟨a1, c2, ⟨rfl, rfl, rfl, trivial⟩, hS2.pick [0] rfl rfl⟩ ho38) ?_
  · intro s4 e w5 o hM h
    obtain ⟨s4a0, s4c0, hE, hS3⟩ := hM
    obtain ⟨e, rfl⟩ := hE.out
    refine go ?_
    refine CW.cond rfl (fun hc6 => ?_) (fun hc6 => ?_)
    · replace h := bcT h hc6
      refine go ?_
      replace ⟨y7, hy7, h⟩ := obind h
      obtain ⟨b10, o11, cs12, hae, hb15, hp8, hq9, hd13, hk14⟩ := hr0_0.idx hy7
      subst hae
      obtain ⟨a16, c17, a19, c20, a22, c23, rfl, hr18, hr21, hr24⟩ := hd13
      refine LW.u (Pur.ix Tryz.underlying59 sz92 rfl rfl hp8 hq9) rfl ?_
      refine LW.l (Ldr.oldN w0 ag92 rfl rfl (fun j u hu => hk14 j u hu)) (hS3.same _ hb15.1 hb15.2) rfl ?_
      replace ⟨y25, hy25, h⟩ := obind h
      refine LW.cl (W_s_l8Obj hy25 rfl (hS3.rB hr18) rfl (hS3.rB hr21) rfl (hS3.rB hr24)) ?_
      rintro _ w32 ⟨a26, c27, a28, c29, a30, c31, rfl, hs⟩
      have hS4 := hS3.add hs
      have hS5 := hS4.pick (M := [sl a26 c27 y25.links, sl a28 c29 y25.data, sl a30 c31 y25.queue] ++ [sl s4a0 s4c0 s4.1]) [0, 1, 2, 3] rfl rfl
      replace ⟨y33, hy33, h⟩ := obind h
      refine LW.app1 (M := [sl a26 c27 y25.links, sl a28 c29 y25.data, sl a30 c31 y25.queue]) (L := [sl s4a0 s4c0 s4.1]) (vs := #[.int .i64 y25.gen, .int .i64 y25.kind, .int .i64 y25.box, .int .i64 y25.res, .int .i64 y25.til, .int .i64 y25.pages, .int .i64 y25.wait, .int .i64 y25.got, .int .i64 y25.ran, .bool y25.mark, .slice a26 y25.links.length c27, .slice a28 y25.data.length c29, .slice a30 y25.queue.length c31]) (i := 0) sT59 rfl (by kernel_rfl) rfl rfl hy33 hS5 rfl (fun w G hG => ⟨a26, c27, a28, c29, a30, c31, rfl, hG⟩) rfl rfl ?_
      intro v36 a34 c35 w37 hS6 hf
      refine go ?_
      cases oi h
      exact ⟨rfl, ⟨a34, c35, ⟨rfl, rfl, rfl, trivial⟩, hS6.pick [0] rfl rfl⟩⟩
    replace h := bcF h hc6
    refine go ?_
    cases oi h
    exact ⟨trivial, rfl, ⟨s4a0, s4c0, ⟨rfl, trivial⟩, hS3.pick [0] rfl rfl⟩⟩
  intro x e w40 hM
  obtain ⟨rfl, hM⟩ := hM
  obtain ⟨s4a0, s4c0, hE, hS7⟩ := hM
  obtain ⟨e, rfl⟩ := hE.out
  have h := h39
  refine go ?_
  cases h
  exact And.intro trivial ⟨_, Res.one (resOne.t rfl), s4a0, s4c0, rfl, hS7.pick [0] rfl rfl⟩

theorem W_i_copyLabel {w0 : World} {N : Nat} {x0 : DLabel} {r : DLabel} (h : F_i_copyLabel N x0 = some r) {a0_0 : Option Addr} {n0_0 c0_0 : Nat} (hn0_0 : n0_0 = x0.levels.length) (hr0_0 : rdS (Bor w0 []) w0 a0_0 c0_0 x0.levels) :
    Ret Tryz.prog 139 #[.agg #[.slice a0_0 n0_0 c0_0]] w0 (fun v w => ∃ ar0_0 cr0_0, v = .agg #[.slice ar0_0 r.levels.length cr0_0] ∧ St w0 [] w [sl ar0_0 cr0_0 r.levels]) := by
  subst hn0_0
  unfold F_i_copyLabel at h
  refine Ret.fn Tryz.func139 fun e => ?_
  have hS1 := St.start w0
  refine go ?_
  refine LW.bo hS1 fun g1 w2 hS2 => ?_
  refine LW.al hS2 fun g3 w4 hS3 => ?_
  refine go ?_
  replace ⟨y5, hy5, h⟩ := obind h
  refine LW.cl (W_i_copyInts hy5 rfl (hS3.rB hr0_0)) ?_
  rintro _ w8 ⟨a6, c7, rfl, hs⟩
  have hS4 := hS3.add hs
  refine LW.u (Pur.build (vs := [(0, .slice a6 y5.length c7)]) (cs := #[.slice a6 y5.length c7]) rfl (by kernel_rfl)) rfl ?_
  refine LW.st hS4 1 fun w9 hS5 => ?_
  refine go ?_
  cases h
  exact And.intro trivial ⟨_, Res.one (resOne.b hS5 1 rfl ag57 rfl rfl), a6, c7, rfl, hS5.pick [0] rfl rfl⟩

theorem W_i_copyObj {w0 : World} {N : Nat} {x0 : DObj} {r : DObj} (h : F_i_copyObj N x0 = some r) {a0_10 : Option Addr} {n0_10 c0_10 : Nat} (hn0_10 : n0_10 = x0.links.length) (hr0_10 : rdS (Bor w0 []) w0 a0_10 c0_10 x0.links) {a0_11 : Option Addr} {n0_11 c0_11 : Nat} (hn0_11 : n0_11 = x0.data.length) (hr0_11 : rdS (Bor w0 []) w0 a0_11 c0_11 x0.data) {a0_12 : Option Addr} {n0_12 c0_12 : Nat} (hn0_12 : n0_12 = x0.queue.length) (hr0_12 : rdS (Bor w0 []) w0 a0_12 c0_12 x0.queue) :
    Ret Tryz.prog 214 #[.agg #[.int .i64 x0.gen, .int .i64 x0.kind, .int .i64 x0.box, .int .i64 x0.res, .int .i64 x0.til, .int .i64 x0.pages, .int .i64 x0.wait, .int .i64 x0.got, .int .i64 x0.ran, .bool x0.mark, .slice a0_10 n0_10 c0_10, .slice a0_11 n0_11 c0_11, .slice a0_12 n0_12 c0_12]] w0 (fun v w => ∃ ar0_10 cr0_10, ∃ ar0_11 cr0_11, ∃ ar0_12 cr0_12, v = .agg #[.int .i64 r.gen, .int .i64 r.kind, .int .i64 r.box, .int .i64 r.res, .int .i64 r.til, .int .i64 r.pages, .int .i64 r.wait, .int .i64 r.got, .int .i64 r.ran, .bool r.mark, .slice ar0_10 r.links.length cr0_10, .slice ar0_11 r.data.length cr0_11, .slice ar0_12 r.queue.length cr0_12] ∧ St w0 [] w [sl ar0_10 cr0_10 r.links, sl ar0_11 cr0_11 r.data, sl ar0_12 cr0_12 r.queue]) := by
  subst hn0_10 hn0_11 hn0_12
  unfold F_i_copyObj at h
  refine Ret.fn Tryz.func214 fun e => ?_
  have hS1 := St.start w0
  refine go ?_
  refine LW.bo hS1 fun g1 w2 hS2 => ?_
  refine LW.al hS2 fun g3 w4 hS3 => ?_
  refine gs ?_
  obtain ⟨j5, hj5, h6⟩ := obind h
  refine CW.cut (fun e wb => ∃ (j5a0 : Option Addr), ∃ (j5c0 : Nat), ∃ (j5a2 : Option Addr), ∃ (j5c2 : Nat), ∃ (j5a4 : Option Addr), ∃ (j5c4 : Nat), En e [(1, .pointer (some ⟨g1, 0, none⟩)), (2, .pointer (some ⟨g3, 0, none⟩))] ∧ St w0 [] wb [bx g3 92 [.int .i64 0, .int .i64 0, .int .i64 0, .int .i64 0, .int .i64 0, .int .i64 0, .int .i64 0, .int .i64 0, .int .i64 0, .bool false, .slice none 0 0, .slice none 0 0, .slice none 0 0], bx g1 92 [.int .i64 x0.gen, .int .i64 x0.kind, .int .i64 x0.box, .int .i64 x0.res, .int .i64 x0.til, .int .i64 x0.pages, .int .i64 x0.wait, .int .i64 x0.got, .int .i64 x0.ran, .bool x0.mark, .slice j5a0 j5.1.length j5c0, .slice j5a2 j5.2.1.length j5c2, .slice j5a4 j5.2.2.length j5c4], sl j5a0 j5c0 j5.1, sl j5a2 j5c2 j5.2.1, sl j5a4 j5c4 j5.2.2]) ?_ ?_
  · have h := hj5
    refine CW.draw (by kernel_rfl) ?_
    have hS4 := hS3.drew
    refine AW.u (i := 0) rfl (by kernel_rfl) rfl rfl (Pur.fa fo92_10 rfl) ?_
    refine AW.take (i := 1) rfl (by kernel_rfl) rfl rfl (Ldr.box (bt := 92) (fr := (0, 0)) (cs := [.int .i64 x0.gen, .int .i64 x0.kind, .int .i64 x0.box, .int .i64 x0.res, .int .i64 x0.til, .int .i64 x0.pages, .int .i64 x0.wait, .int .i64 x0.got, .int .i64 x0.ran, .bool x0.mark, .slice a0_10 x0.links.length c0_10, .slice a0_11 x0.data.length c0_11, .slice a0_12 x0.queue.length c0_12]) ag28 rfl rfl) (St.cell (h := hS4) (i := 1) rfl) ?_
    refine AW.u (i := 3) rfl (by kernel_rfl) rfl rfl (Pur.fa fo92_11 rfl) ?_
    refine AW.take (i := 4) rfl (by kernel_rfl) rfl rfl (Ldr.box (bt := 92) (fr := (0, 0)) (cs := [.int .i64 x0.gen, .int .i64 x0.kind, .int .i64 x0.box, .int .i64 x0.res, .int .i64 x0.til, .int .i64 x0.pages, .int .i64 x0.wait, .int .i64 x0.got, .int .i64 x0.ran, .bool x0.mark, .slice a0_10 x0.links.length c0_10, .slice a0_11 x0.data.length c0_11, .slice a0_12 x0.queue.length c0_12]) ag28 rfl rfl) (St.cell (h := hS4) (i := 1) rfl) ?_
    refine AW.u (i := 7) rfl (by kernel_rfl) rfl rfl (Pur.fa fo92_12 rfl) ?_
    refine AW.take (i := 8) rfl (by kernel_rfl) rfl rfl (Ldr.box (bt := 92) (fr := (0, 0)) (cs := [.int .i64 x0.gen, .int .i64 x0.kind, .int .i64 x0.box, .int .i64 x0.res, .int .i64 x0.til, .int .i64 x0.pages, .int .i64 x0.wait, .int .i64 x0.got, .int .i64 x0.ran, .bool x0.mark, .slice a0_10 x0.links.length c0_10, .slice a0_11 x0.data.length c0_11, .slice a0_12 x0.queue.length c0_12]) ag90 rfl rfl) (St.cell (h := hS4) (i := 1) rfl) ?_
    replace ⟨y7, hy7, h⟩ := obind h
    refine AW.all (rs := [2, 6]) (by kernel_rfl) (by simp) ⟨?_, ?_, trivial⟩
    · have q := W_i_copyInts (w0 := w4.drew) hy7 rfl (hS4.rB hr0_10)
      refine ⟨_, rfl, ?_⟩
      refine LW.call pl140 rfl rfl ?_
      refine Ret.mono q ?_
      rintro _ w19 ⟨a17, c18, rfl, hs⟩
      have hS5 := hS4.add hs
      refine LW.nil ⟨rfl, (.c (St.cell (h := hS5) (i := 2) rfl) (.c (St.cell (h := hS5) (i := 2) rfl) (.w (by kernel_rfl) Kept.n))), ?_⟩
      refine AW.u (i := 10) rfl (by kernel_rfl) rfl rfl (Pur.fa fo92_10 rfl) ?_
      replace ⟨y20, hy20, h⟩ := obind h
      refine AW.all (rs := [5, 6]) (by kernel_rfl) (by simp) ⟨?_, ?_, trivial⟩
      · have q := W_i_copyInts (w0 := w19) hy20 rfl (hS5.rB hr0_11)
        refine ⟨_, rfl, ?_⟩
        refine LW.call pl140 rfl rfl ?_
        refine Ret.mono q ?_
        rintro _ w32 ⟨a30, c31, rfl, hs⟩
        have hS6 := hS5.add hs
        refine LW.nil ⟨rfl, (.c (St.cell (h := hS6) (i := 3) rfl) (.w (by kernel_rfl) (.c (St.cell (h := hS6) (i := 3) rfl) Kept.n))), ?_⟩
        refine AW.one (i := 6) (by kernel_rfl) ?_
        refine ⟨_, rfl, ?_⟩
        refine LW.bsl (α := DMsg) (vs := []) (cs := #[]) (l := ([] : List DMsg)) rfl (by kernel_rfl) rfl rfl rfl (fun w => rfl) hS6 rfl ?_
        intro a33 c34 w35 hS7 hf
        refine LW.nil ⟨rfl, (.c (St.cell (h := hS7) (i := 4) rfl) (.c (St.cell (h := hS7) (i := 4) rfl) (.c (St.cell (h := hS7) (i := 4) rfl) Kept.n))), ?_⟩
        replace ⟨y36, hy36, h⟩ := obind h
        refine AW.one (i := 9) (by kernel_rfl) ?_
        refine ⟨_, rfl, ?_⟩
        refine LW.appN (l := ([] : List DMsg)) (m := x0.queue) sT90 rfl rfl (hS7.rB hr0_12) hy36 hS7 (i := 0) rfl rfl ?_
        intro a37 c38 w39 hS8 hf
        refine LW.nil ⟨rfl, (.w (by kernel_rfl) (.c (St.cell (h := hS8) (i := 4) rfl) (.c (St.cell (h := hS8) (i := 4) rfl) Kept.n))), ?_⟩
        refine AW.one (i := 11) (by kernel_rfl) ?_
        refine ⟨_, rfl, ?_⟩
        refine LW.st hS8 4 fun w40 hS9 => ?_
        refine LW.nil ⟨rfl, (.w (by kernel_rfl) (.w (by kernel_rfl) (.w (by kernel_rfl) Kept.n))), ?_⟩
        refine AW.u (i := 12) rfl (by kernel_rfl) rfl rfl (Pur.fa fo92_11 rfl) ?_
        refine AW.one (i := 13) (by kernel_rfl) ?_
        refine ⟨_, rfl, ?_⟩
        refine LW.st hS9 4 fun w41 hS10 => ?_
        refine LW.nil ⟨rfl, (.w (by kernel_rfl) (.w (by kernel_rfl) (.w (by kernel_rfl) Kept.n))), ?_⟩
        refine AW.u (i := 14) rfl (by kernel_rfl) rfl rfl (Pur.fa fo92_12 rfl) ?_
        refine AW.one (i := 15) (by kernel_rfl) ?_
        refine ⟨_, rfl, ?_⟩
        refine LW.st hS10 4 fun w42 hS11 => ?_
        refine LW.nil ⟨rfl, (.w (by kernel_rfl) (.w (by kernel_rfl) (.w (by kernel_rfl) Kept.n))), ?_⟩
        refine AW.done (by kernel_rfl) ?_
        cases oi h
        exact ⟨a17, c18, a30, c31, a37, c38, ⟨rfl, rfl, trivial⟩, hS11.pick [3, 4, 2, 1, 0] rfl rfl⟩
      refine ⟨_, rfl, ?_⟩
      refine LW.bsl (α := DMsg) (vs := []) (cs := #[]) (l := ([] : List DMsg)) rfl (by kernel_rfl) rfl rfl rfl (fun w => rfl) hS5 rfl ?_
      intro a43 c44 w45 hS12 hf
      refine LW.nil ⟨rfl, (.c (St.cell (h := hS12) (i := 3) rfl) (.c (St.cell (h := hS12) (i := 3) rfl) (.c (St.cell (h := hS12) (i := 3) rfl) Kept.n))), ?_⟩
      have q := W_i_copyInts (w0 := w45) hy20 rfl (hS12.rB hr0_11)
      refine AW.one (i := 5) (by kernel_rfl) ?_
      refine ⟨_, rfl, ?_⟩
      refine LW.call pl140 rfl rfl ?_
      refine Ret.mono q ?_
      rintro _ w48 ⟨a46, c47, rfl, hs⟩
      have hS13 := hS12.add hs
      refine LW.nil ⟨rfl, (.c (St.cell (h := hS13) (i := 4) rfl) (.w (by kernel_rfl) (.c (St.cell (h := hS13) (i := 4) rfl) Kept.n))), ?_⟩
      replace ⟨y49, hy49, h⟩ := obind h
      refine AW.one (i := 9) (by kernel_rfl) ?_
      refine ⟨_, rfl, ?_⟩
      refine LW.appN (l := ([] : List DMsg)) (m := x0.queue) sT90 rfl rfl (hS13.rB hr0_12) hy49 hS13 (i := 1) rfl rfl ?_
      intro a50 c51 w52 hS14 hf
      refine LW.nil ⟨rfl, (.w (by kernel_rfl) (.c (St.cell (h := hS14) (i := 4) rfl) (.c (St.cell (h := hS14) (i := 4) rfl) Kept.n))), ?_⟩
      refine AW.one (i := 11) (by kernel_rfl) ?_
      refine ⟨_, rfl, ?_⟩
      refine LW.st hS14 4 fun w53 hS15 => ?_
      refine LW.nil ⟨rfl, (.w (by kernel_rfl) (.w (by kernel_rfl) (.w (by kernel_rfl) Kept.n))), ?_⟩
      refine AW.u (i := 12) rfl (by kernel_rfl) rfl rfl (Pur.fa fo92_11 rfl) ?_
      refine AW.one (i := 13) (by kernel_rfl) ?_
      refine ⟨_, rfl, ?_⟩
      refine LW.st hS15 4 fun w54 hS16 => ?_
      refine LW.nil ⟨rfl, (.w (by kernel_rfl) (.w (by kernel_rfl) (.w (by kernel_rfl) Kept.n))), ?_⟩
      refine AW.u (i := 14) rfl (by kernel_rfl) rfl rfl (Pur.fa fo92_12 rfl) ?_
      refine AW.one (i := 15) (by kernel_rfl) ?_
      refine ⟨_, rfl, ?_⟩
      refine LW.st hS16 4 fun w55 hS17 => ?_
      refine LW.nil ⟨rfl, (.w (by kernel_rfl) (.w (by kernel_rfl) (.w (by kernel_rfl) Kept.n))), ?_⟩
      refine AW.done (by kernel_rfl) ?_
      cases oi h
      exact ⟨a17, c18, a46, c47, a50, c51, ⟨rfl, rfl, trivial⟩, hS17.pick [3, 4, 2, 0, 1] rfl rfl⟩
    refine ⟨_, rfl, ?_⟩
    refine LW.bsl (α := DMsg) (vs := []) (cs := #[]) (l := ([] : List DMsg)) rfl (by kernel_rfl) rfl rfl rfl (fun w => rfl) hS4 rfl ?_
    intro a56 c57 w58 hS18 hf
    refine LW.nil ⟨rfl, (.c (St.cell (h := hS18) (i := 2) rfl) (.c (St.cell (h := hS18) (i := 2) rfl) (.c (St.cell (h := hS18) (i := 2) rfl) Kept.n))), ?_⟩
    have q := W_i_copyInts (w0 := w58) hy7 rfl (hS18.rB hr0_10)
    refine AW.one (i := 2) (by kernel_rfl) ?_
    refine ⟨_, rfl, ?_⟩
    refine LW.call pl140 rfl rfl ?_
    refine Ret.mono q ?_
    rintro _ w61 ⟨a59, c60, rfl, hs⟩
    have hS19 := hS18.add hs
    refine LW.nil ⟨rfl, (.c (St.cell (h := hS19) (i := 3) rfl) (.c (St.cell (h := hS19) (i := 3) rfl) (.w (by kernel_rfl) Kept.n))), ?_⟩
    refine AW.u (i := 10) rfl (by kernel_rfl) rfl rfl (Pur.fa fo92_10 rfl) ?_
    replace ⟨y62, hy62, h⟩ := obind h
    have q := W_i_copyInts (w0 := w61) hy62 rfl (hS19.rB hr0_11)
    refine AW.one (i := 5) (by kernel_rfl) ?_
    refine ⟨_, rfl, ?_⟩
    refine LW.call pl140 rfl rfl ?_
    refine Ret.mono q ?_
    rintro _ w65 ⟨a63, c64, rfl, hs⟩
    have hS20 := hS19.add hs
    refine LW.nil ⟨rfl, (.c (St.cell (h := hS20) (i := 4) rfl) (.w (by kernel_rfl) (.c (St.cell (h := hS20) (i := 4) rfl) Kept.n))), ?_⟩
    replace ⟨y66, hy66, h⟩ := obind h
    refine AW.one (i := 9) (by kernel_rfl) ?_
    refine ⟨_, rfl, ?_⟩
    refine LW.appN (l := ([] : List DMsg)) (m := x0.queue) sT90 rfl rfl (hS20.rB hr0_12) hy66 hS20 (i := 2) rfl rfl ?_
    intro a67 c68 w69 hS21 hf
    refine LW.nil ⟨rfl, (.w (by kernel_rfl) (.c (St.cell (h := hS21) (i := 4) rfl) (.c (St.cell (h := hS21) (i := 4) rfl) Kept.n))), ?_⟩
    refine AW.one (i := 11) (by kernel_rfl) ?_
    refine ⟨_, rfl, ?_⟩
    refine LW.st hS21 4 fun w70 hS22 => ?_
    refine LW.nil ⟨rfl, (.w (by kernel_rfl) (.w (by kernel_rfl) (.w (by kernel_rfl) Kept.n))), ?_⟩
    refine AW.u (i := 12) rfl (by kernel_rfl) rfl rfl (Pur.fa fo92_11 rfl) ?_
    refine AW.one (i := 13) (by kernel_rfl) ?_
    refine ⟨_, rfl, ?_⟩
    refine LW.st hS22 4 fun w71 hS23 => ?_
    refine LW.nil ⟨rfl, (.w (by kernel_rfl) (.w (by kernel_rfl) (.w (by kernel_rfl) Kept.n))), ?_⟩
    refine AW.u (i := 14) rfl (by kernel_rfl) rfl rfl (Pur.fa fo92_12 rfl) ?_
    refine AW.one (i := 15) (by kernel_rfl) ?_
    refine ⟨_, rfl, ?_⟩
    refine LW.st hS23 4 fun w72 hS24 => ?_
    refine LW.nil ⟨rfl, (.w (by kernel_rfl) (.w (by kernel_rfl) (.w (by kernel_rfl) Kept.n))), ?_⟩
    refine AW.done (by kernel_rfl) ?_
    cases oi h
    exact ⟨a59, c60, a63, c64, a67, c68, ⟨rfl, rfl, trivial⟩, hS24.pick [3, 4, 1, 0, 2] rfl rfl⟩
  rintro e w73 ⟨j5a0, j5c0, j5a2, j5c2, j5a4, j5c4, hE, hS25⟩
  obtain ⟨e, rfl⟩ := hE.out
  have h := h6
  refine go ?_
  refine LW.st hS25 0 fun w74 hS26 => ?_
  refine go ?_
  cases h
  exact And.intro trivial ⟨_, Res.one (resOne.b hS26 0 rfl ag92 rfl rfl), j5a0, j5c0, j5a2, j5c2, j5a4, j5c4, rfl, hS26.pick [2, 3, 4] rfl rfl⟩

theorem W_l_markLabel {w0 : World} {F : List Nat} {N : Nat} {x0 : DLabel} {x1 : Int} {r : Int × (List Int)} (h : F_l_markLabel N x0 x1 = some r) {a0_0 : Option Addr} {n0_0 c0_0 : Nat} (hn0_0 : n0_0 = x0.levels.length) (hS : St w0 F w0 [sl a0_0 c0_0 x0.levels]) :
    Ret Tryz.prog 77 #[.agg #[.slice a0_0 n0_0 c0_0], .int .i64 x1] w0 (fun v w => v = .int .i64 r.1 ∧ St w0 F w [sl a0_0 c0_0 r.2]) := by
  subst hn0_0
  unfold F_l_markLabel at h
  refine Ret.fn Tryz.func77 fun e => ?_
  refine go ?_
  refine LW.bo hS fun g1 w2 hS1 => ?_
  refine go ?_
  replace ⟨y3, hy3, h⟩ := obind h
  obtain ⟨q6, hy3', hq7⟩ := obind hy3
  obtain ⟨hl8, hq7⟩ := keepL_some hq7
  rw [Option.some.inj hq7] at hy3' hl8
  have hS2 := hS1.pick (M := [sl a0_0 c0_0 x0.levels] ++ [bx g1 57 [.slice a0_0 x0.levels.length c0_0]]) [1, 0] rfl rfl
  obtain ⟨F4, hL5⟩ := St.lend (L := [sl a0_0 c0_0 x0.levels]) (M := [bx g1 57 [.slice a0_0 x0.levels.length c0_0]]) hS2
  refine LW.cl (W_l_markIntS hy3' rfl hL5.st) ?_
  rintro _ w9 ⟨rfl, hs⟩
  have hS3 := hL5.back _ _ hs
  refine go ?_
  replace h := Option.some.inj h
  subst h
  rw [show x0.levels.length = y3.2.length from hl8] at hS3
  exact And.intro trivial ⟨_, Res.one (resOne.t rfl), rfl, hS3.pick [0] rfl rfl⟩

theorem W_l_markGc {w0 : World} {F : List Nat} {N : Nat} {x0 : DGc} {x1 : Int} {r : Int × (List Int)} (h : F_l_markGc N x0 x1 = some r) {a0_3 : Option Addr} {n0_3 c0_3 : Nat} (hn0_3 : n0_3 = x0.grey.length) (hS : St w0 F w0 [sl a0_3 c0_3 x0.grey]) :
    Ret Tryz.prog 155 #[.agg #[.int .i64 x0.phase, .int .i64 x0.pos, .int .i64 x0.round, .slice a0_3 n0_3 c0_3], .int .i64 x1] w0 (fun v w => v = .int .i64 r.1 ∧ St w0 F w [sl a0_3 c0_3 r.2]) := by
  subst hn0_3
  unfold F_l_markGc at h
  refine Ret.fn Tryz.func155 fun e => ?_
  refine go ?_
  refine LW.bo hS fun g1 w2 hS1 => ?_
  refine go ?_
  replace ⟨y3, hy3, h⟩ := obind h
  obtain ⟨q6, hy3', hq7⟩ := obind hy3
  obtain ⟨hl8, hq7⟩ := keepL_some hq7
  rw [Option.some.inj hq7] at hy3' hl8
  have hS2 := hS1.pick (M := [sl a0_3 c0_3 x0.grey] ++ [bx g1 60 [.int .i64 x0.phase, .int .i64 x0.pos, .int .i64 x0.round, .slice a0_3 x0.grey.length c0_3]]) [1, 0] rfl rfl
  obtain ⟨F4, hL5⟩ := St.lend (L := [sl a0_3 c0_3 x0.grey]) (M := [bx g1 60 [.int .i64 x0.phase, .int .i64 x0.pos, .int .i64 x0.round, .slice a0_3 x0.grey.length c0_3]]) hS2
  refine LW.cl (W_l_markIntS hy3' rfl hL5.st) ?_
  rintro _ w9 ⟨rfl, hs⟩
  have hS3 := hL5.back _ _ hs
  refine go ?_
  replace h := Option.some.inj h
  subst h
  rw [show x0.grey.length = y3.2.length from hl8] at hS3
  exact And.intro trivial ⟨_, Res.one (resOne.t rfl), rfl, hS3.pick [0] rfl rfl⟩

theorem W_l_heldLabel {w0 : World} {N : Nat} {x0 : DLabel} {x1 : Int} {r : Int} (h : F_l_heldLabel N x0 x1 = some r) {a0_0 : Option Addr} {n0_0 c0_0 : Nat} (hn0_0 : n0_0 = x0.levels.length) (hr0_0 : rdS (Bor w0 []) w0 a0_0 c0_0 x0.levels) :
    Ret Tryz.prog 81 #[.agg #[.slice a0_0 n0_0 c0_0], .int .i64 x1] w0 (fun v w => v = .int .i64 r ∧ St w0 [] w []) := by
  subst hn0_0
  unfold F_l_heldLabel at h
  refine Ret.fn Tryz.func81 fun e => ?_
  have hS1 := St.start w0
  refine go ?_
  refine LW.bo hS1 fun g1 w2 hS2 => ?_
  refine go ?_
  replace ⟨y3, hy3, h⟩ := obind h
  refine LW.c0 (W_l_heldIntS hy3 rfl (hS2.rB hr0_0)) hS2 fun w4 hS3 => ?_
  refine go ?_
  refine CW.cond rfl (fun hc5 => ?_) (fun hc5 => ?_)
  · replace h := bcT h hc5
    refine go ?_
    cases h
    exact And.intro trivial ⟨_, Res.one (resOne.t rfl), rfl, hS3.pick [] rfl rfl⟩
  replace h := bcF h hc5
  refine go ?_
  cases h
  exact And.intro trivial ⟨_, Res.one (resOne.t rfl), rfl, hS3.pick [] rfl rfl⟩

theorem W_l_heldObjS {w0 : World} {N : Nat} {x0 : List DObj} {x1 : Int} {r : Int} (h : F_l_heldObjS N x0 x1 = some r) {a0_0 : Option Addr} {n0_0 c0_0 : Nat} (hn0_0 : n0_0 = x0.length) (hr0_0 : rdS (Bor w0 []) w0 a0_0 c0_0 x0) :
    Ret Tryz.prog 156 #[.slice a0_0 n0_0 c0_0, .int .i64 x1] w0 (fun v w => v = .int .i64 r ∧ St w0 [] w []) := by
  subst hn0_0
  unfold F_l_heldObjS at h
  refine Ret.fn Tryz.func156 fun e => ?_
  have hS1 := St.start w0
  refine go ?_
  obtain ⟨o41, ho41, h42⟩ := obind h
  refine CW.mono (CW.iter (σ := Int × Int) (ρ := (Int × Int) ⊕ Int) (fun s1 e wb => En e [(0, .slice a0_0 x0.length c0_0), (1, .int .i64 s1.1), (5, .int .i64 s1.2)] ∧ St w0 [] wb []) (fun o x e wb => match o with | .inl s1 => x = .exit 0 ∧ En e [(1, .int .i64 s1.1)] ∧ St w0 [] wb [] | .inr r => x = .ret ∧ ∃ u, u = r ∧ ∃ v, Res Tryz.prog Tryz.f156.results e wb v ∧ v = .int .i64 u ∧ St w0 [] wb []) ?_ N (x1, 0) _ _ _ ⟨⟨rfl, rfl, rfl, trivial⟩, hS1.pick [] rfl rfl⟩ ho41) ?_
  · intro s1 e w2 o hM h
    obtain ⟨hE, hS2⟩ := hM
    obtain ⟨e, rfl⟩ := hE.out
    refine go ?_
    refine CW.cond rfl (fun hc3 => ?_) (fun hc3 => ?_)
    · replace h := bcT h hc3
      refine go ?_
      replace ⟨y4, hy4, h⟩ := obind h
      obtain ⟨b7, o8, cs9, hae, hb12, hp5, hq6, hd10, hk11⟩ := hr0_0.idx hy4
      subst hae
      obtain ⟨a13, c14, a16, c17, a19, c20, rfl, hr15, hr18, hr21⟩ := hd10
      refine LW.u (Pur.ix Tryz.underlying59 sz92 rfl rfl hp5 hq6) rfl ?_
      refine go ?_
      refine LW.l (Ldr.old w0 ag3 rfl (hk11 0 _ rfl)) (hS2.same _ hb12.1 hb12.2) rfl ?_
      refine go ?_
      refine CW.fl [0, 1, 5, 18] fun e => ?_
      refine CW.cond rfl (fun hc22 => ?_) (fun hc22 => ?_)
      · replace h := bcT h hc22
        refine go ?_
        cases oi h
        exact ⟨trivial, rfl, _, rfl, ⟨_, Res.one (resOne.t rfl), rfl, hS2.pick [] rfl rfl⟩⟩
      replace h := bcF h hc22
      refine go ?_
      refine LW.u (Pur.ix Tryz.underlying59 sz92 rfl rfl hp5 hq6) rfl ?_
      refine go ?_
      refine LW.l (Ldr.old w0 ag3 rfl (hk11 1 _ rfl)) (hS2.same _ hb12.1 hb12.2) rfl ?_
      refine go ?_
      refine CW.cond rfl (fun hc23 => ?_) (fun hc23 => ?_)
      · replace h := bcT h hc23
        refine go ?_
        cases oi h
        exact ⟨trivial, rfl, _, rfl, ⟨_, Res.one (resOne.t rfl), rfl, hS2.pick [] rfl rfl⟩⟩
      replace h := bcF h hc23
      refine go ?_
      refine LW.u (Pur.ix Tryz.underlying59 sz92 rfl rfl hp5 hq6) rfl ?_
      refine go ?_
      refine LW.l (Ldr.old w0 ag3 rfl (hk11 2 _ rfl)) (hS2.same _ hb12.1 hb12.2) rfl ?_
      refine go ?_
      refine CW.fl [0, 1, 5, 36] fun e => ?_
      refine CW.cond rfl (fun hc24 => ?_) (fun hc24 => ?_)
      · replace h := bcT h hc24
        refine go ?_
        cases oi h
        exact ⟨trivial, rfl, _, rfl, ⟨_, Res.one (resOne.t rfl), rfl, hS2.pick [] rfl rfl⟩⟩
      replace h := bcF h hc24
      refine go ?_
      refine LW.u (Pur.ix Tryz.underlying59 sz92 rfl rfl hp5 hq6) rfl ?_
      refine go ?_
      refine LW.l (Ldr.old w0 ag3 rfl (hk11 3 _ rfl)) (hS2.same _ hb12.1 hb12.2) rfl ?_
      refine go ?_
      refine CW.cond rfl (fun hc25 => ?_) (fun hc25 => ?_)
      · replace h := bcT h hc25
        refine go ?_
        cases oi h
        exact ⟨trivial, rfl, _, rfl, ⟨_, Res.one (resOne.t rfl), rfl, hS2.pick [] rfl rfl⟩⟩
      replace h := bcF h hc25
      refine go ?_
      refine LW.u (Pur.ix Tryz.underlying59 sz92 rfl rfl hp5 hq6) rfl ?_
      refine go ?_
      refine LW.l (Ldr.old w0 ag3 rfl (hk11 4 _ rfl)) (hS2.same _ hb12.1 hb12.2) rfl ?_
      refine go ?_
      refine CW.fl [0, 1, 5, 54] fun e => ?_
      refine CW.cond rfl (fun hc26 => ?_) (fun hc26 => ?_)
      · replace h := bcT h hc26
        refine go ?_
        cases oi h
        exact ⟨trivial, rfl, _, rfl, ⟨_, Res.one (resOne.t rfl), rfl, hS2.pick [] rfl rfl⟩⟩
      replace h := bcF h hc26
      refine go ?_
      refine LW.u (Pur.ix Tryz.underlying59 sz92 rfl rfl hp5 hq6) rfl ?_
      refine go ?_
      refine LW.l (Ldr.old w0 ag3 rfl (hk11 5 _ rfl)) (hS2.same _ hb12.1 hb12.2) rfl ?_
      refine go ?_
      refine CW.cond rfl (fun hc27 => ?_) (fun hc27 => ?_)
      · replace h := bcT h hc27
        refine go ?_
        cases oi h
        exact ⟨trivial, rfl, _, rfl, ⟨_, Res.one (resOne.t rfl), rfl, hS2.pick [] rfl rfl⟩⟩
      replace h := bcF h hc27
      refine go ?_
      refine LW.u (Pur.ix Tryz.underlying59 sz92 rfl rfl hp5 hq6) rfl ?_
      refine go ?_
      refine LW.l (Ldr.old w0 ag3 rfl (hk11 6 _ rfl)) (hS2.same _ hb12.1 hb12.2) rfl ?_
      refine go ?_
      refine CW.fl [0, 1, 5, 72] fun e => ?_
      refine CW.cond rfl (fun hc28 => ?_) (fun hc28 => ?_)
      · replace h := bcT h hc28
        refine go ?_
        cases oi h
        exact ⟨trivial, rfl, _, rfl, ⟨_, Res.one (resOne.t rfl), rfl, hS2.pick [] rfl rfl⟩⟩
      replace h := bcF h hc28
      refine go ?_
      refine LW.u (Pur.ix Tryz.underlying59 sz92 rfl rfl hp5 hq6) rfl ?_
      refine go ?_
      refine LW.l (Ldr.old w0 ag3 rfl (hk11 7 _ rfl)) (hS2.same _ hb12.1 hb12.2) rfl ?_
      refine go ?_
      refine CW.cond rfl (fun hc29 => ?_) (fun hc29 => ?_)
      · replace h := bcT h hc29
        refine go ?_
        cases oi h
        exact ⟨trivial, rfl, _, rfl, ⟨_, Res.one (resOne.t rfl), rfl, hS2.pick [] rfl rfl⟩⟩
      replace h := bcF h hc29
      refine go ?_
      refine LW.u (Pur.ix Tryz.underlying59 sz92 rfl rfl hp5 hq6) rfl ?_
      refine go ?_
      refine LW.l (Ldr.old w0 ag3 rfl (hk11 8 _ rfl)) (hS2.same _ hb12.1 hb12.2) rfl ?_
      refine go ?_
      refine CW.fl [0, 1, 5, 90] fun e => ?_
      refine CW.cond rfl (fun hc30 => ?_) (fun hc30 => ?_)
      · replace h := bcT h hc30
        refine go ?_
        cases oi h
        exact ⟨trivial, rfl, _, rfl, ⟨_, Res.one (resOne.t rfl), rfl, hS2.pick [] rfl rfl⟩⟩
      replace h := bcF h hc30
      refine go ?_
      refine LW.u (Pur.ix Tryz.underlying59 sz92 rfl rfl hp5 hq6) rfl ?_
      refine go ?_
      refine LW.l (Ldr.old w0 ag4 rfl (hk11 9 _ rfl)) (hS2.same _ hb12.1 hb12.2) rfl ?_
      refine go ?_
      refine LW.u (Pur.rem rfl rfl (by decide)) rfl ?_
      refine go ?_
      refine LW.u (Pur.bne Tryz.underlying4 rfl rfl) rfl ?_
      refine go ?_
      refine CW.cond rfl (fun hc31 => ?_) (fun hc31 => ?_)
      · replace h := bcT h hc31
        refine go ?_
        cases oi h
        exact ⟨trivial, rfl, _, rfl, ⟨_, Res.one (resOne.t rfl), rfl, hS2.pick [] rfl rfl⟩⟩
      replace h := bcF h hc31
      refine go ?_
      refine LW.u (Pur.ix Tryz.underlying59 sz92 rfl rfl hp5 hq6) rfl ?_
      refine go ?_
      refine LW.l (Ldr.old w0 ag28 rfl (hk11 10 _ rfl)) (hS2.same _ hb12.1 hb12.2) rfl ?_
      refine go ?_
      replace ⟨y32, hy32, h⟩ := obind h
      refine LW.c0 (W_l_heldIntS hy32 rfl (hS2.rB hr15)) hS2 fun w33 hS3 => ?_
      refine go ?_
      refine CW.fl [0, 1, 5, 112] fun e => ?_
      refine CW.cond rfl (fun hc34 => ?_) (fun hc34 => ?_)
      · replace h := bcT h hc34
        refine go ?_
        cases oi h
        exact ⟨trivial, rfl, _, rfl, ⟨_, Res.one (resOne.t rfl), rfl, hS3.pick [] rfl rfl⟩⟩
      replace h := bcF h hc34
      refine go ?_
      refine LW.u (Pur.ix Tryz.underlying59 sz92 rfl rfl hp5 hq6) rfl ?_
      refine go ?_
      refine LW.l (Ldr.old w0 ag28 rfl (hk11 11 _ rfl)) (hS3.same _ hb12.1 hb12.2) rfl ?_
      refine go ?_
      replace ⟨y35, hy35, h⟩ := obind h
      refine LW.c0 (W_l_heldIntS hy35 rfl (hS3.rB hr18)) hS3 fun w36 hS4 => ?_
      refine go ?_
      refine CW.cond rfl (fun hc37 => ?_) (fun hc37 => ?_)
      · replace h := bcT h hc37
        refine go ?_
        cases oi h
        exact ⟨trivial, rfl, _, rfl, ⟨_, Res.one (resOne.t rfl), rfl, hS4.pick [] rfl rfl⟩⟩
      replace h := bcF h hc37
      refine go ?_
      refine LW.u (Pur.ix Tryz.underlying59 sz92 rfl rfl hp5 hq6) rfl ?_
      refine go ?_
      refine LW.l (Ldr.old w0 ag90 rfl (hk11 12 _ rfl)) (hS4.same _ hb12.1 hb12.2) rfl ?_
      refine go ?_
      replace ⟨y38, hy38, h⟩ := obind h
      refine LW.c0 (W_l_heldMsgS hy38 rfl (hS4.rB hr21)) hS4 fun w39 hS5 => ?_
      refine go ?_
      refine CW.fl [0, 1, 5, 130] fun e => ?_
      refine CW.cond rfl (fun hc40 => ?_) (fun hc40 => ?_)
      · replace h := bcT h hc40
        refine go ?_
        cases oi h
        exact ⟨trivial, rfl, _, rfl, ⟨_, Res.one (resOne.t rfl), rfl, hS5.pick [] rfl rfl⟩⟩
      replace h := bcF h hc40
      refine go ?_
      cases oi h
      exact ⟨rfl, ⟨⟨rfl, rfl, rfl, trivial⟩, hS5.pick [] rfl rfl⟩⟩
    replace h := bcF h hc3
    refine go ?_
    cases oi h
    exact ⟨trivial, rfl, ⟨⟨rfl, trivial⟩, hS2.pick [] rfl rfl⟩⟩
  intro x e w43 hM
  rcases o41 with o41 | r44
  · obtain ⟨rfl, hM⟩ := hM
    obtain ⟨hE, hS6⟩ := hM
    obtain ⟨e, rfl⟩ := hE.out
    have h := h42
    refine go ?_
    cases h
    exact And.intro trivial ⟨_, Res.one (resOne.t rfl), rfl, hS6.pick [] rfl rfl⟩
  obtain ⟨rfl, u, rfl, hM⟩ := hM
  cases h42
  exact And.intro trivial hM

theorem W_l_heldGc {w0 : World} {N : Nat} {x0 : DGc} {x1 : Int} {r : Int} (h : F_l_heldGc N x0 x1 = some r) {a0_3 : Option Addr} {n0_3 c0_3 : Nat} (hn0_3 : n0_3 = x0.grey.length) (hr0_3 : rdS (Bor w0 []) w0 a0_3 c0_3 x0.grey) :
    Ret Tryz.prog 157 #[.agg #[.int .i64 x0.phase, .int .i64 x0.pos, .int .i64 x0.round, .slice a0_3 n0_3 c0_3], .int .i64 x1] w0 (fun v w => v = .int .i64 r ∧ St w0 [] w []) := by
  subst hn0_3
  unfold F_l_heldGc at h
  refine Ret.fn Tryz.func157 fun e => ?_
  have hS1 := St.start w0
  refine go ?_
  refine LW.bo hS1 fun g1 w2 hS2 => ?_
  refine go ?_
  replace ⟨y3, hy3, h⟩ := obind h
  refine LW.c0 (W_l_heldIntS hy3 rfl (hS2.rB hr0_3)) hS2 fun w4 hS3 => ?_
  refine go ?_
  refine CW.cond rfl (fun hc5 => ?_) (fun hc5 => ?_)
  · replace h := bcT h hc5
    refine go ?_
    cases h
    exact And.intro trivial ⟨_, Res.one (resOne.t rfl), rfl, hS3.pick [] rfl rfl⟩
  replace h := bcF h hc5
  refine go ?_
  cases h
  exact And.intro trivial ⟨_, Res.one (resOne.t rfl), rfl, hS3.pick [] rfl rfl⟩

theorem W_s_l10Copy {w0 : World} {N : Nat} {x0 : DHeap} {r : DHeap} (h : F_s_l10Copy N x0 = some r) {a0_0 : Option Addr} {n0_0 c0_0 : Nat} (hn0_0 : n0_0 = x0.arena.length) (hr0_0 : rdS (Bor w0 []) w0 a0_0 c0_0 x0.arena) {a0_4 : Option Addr} {n0_4 c0_4 : Nat} (hn0_4 : n0_4 = x0.gc.grey.length) (hr0_4 : rdS (Bor w0 []) w0 a0_4 c0_4 x0.gc.grey) :
    Ret Tryz.prog 125 #[.agg #[.slice a0_0 n0_0 c0_0, .int .i64 x0.gc.phase, .int .i64 x0.gc.pos, .int .i64 x0.gc.round, .slice a0_4 n0_4 c0_4]] w0 (fun v w => ∃ ar0_0 cr0_0, ∃ ar0_4 cr0_4, v = .agg #[.slice ar0_0 r.arena.length cr0_0, .int .i64 r.gc.phase, .int .i64 r.gc.pos, .int .i64 r.gc.round, .slice ar0_4 r.gc.grey.length cr0_4] ∧ St w0 [] w [sl ar0_0 cr0_0 r.arena, sl ar0_4 cr0_4 r.gc.grey]) := by
  subst hn0_0 hn0_4
  unfold F_s_l10Copy at h
  refine Ret.fn Tryz.func125 fun e => ?_
  have hS1 := St.start w0
  refine go ?_
  refine LW.bo hS1 fun g1 w2 hS2 => ?_
  refine LW.al hS2 fun g3 w4 hS3 => ?_
  refine go ?_
  refine LW.al hS3 fun g5 w6 hS4 => ?_
  refine LW.st hS4 0 fun w7 hS5 => ?_
  refine go ?_
  refine LW.bsl (α := Int) (vs := []) (cs := #[]) (l := ([] : List Int)) rfl (by kernel_rfl) rfl rfl rfl (fun w => rfl) hS5 rfl ?_
  intro a8 c9 w10 hS6 hf
  refine go ?_
  replace ⟨y11, hy11, h⟩ := obind h
  refine LW.appN (l := ([] : List Int)) (m := x0.gc.grey) sT28 rfl rfl (hS6.rB hr0_4) hy11 hS6 (i := 0) rfl rfl ?_
  intro a12 c13 w14 hS7 hf
  refine go ?_
  refine LW.st hS7 1 fun w15 hS8 => ?_
  refine go ?_
  refine CW.draw (by kernel_rfl) ?_
  have hS9 := hS8.drew
  refine AW.u (i := 0) rfl (by kernel_rfl) rfl rfl (Pur.fa fo62_0 rfl) ?_
  refine AW.take (i := 1) rfl (by kernel_rfl) rfl rfl (Ldr.box (bt := 62) (fr := (0, 0)) (cs := [.slice a0_0 x0.arena.length c0_0, .int .i64 x0.gc.phase, .int .i64 x0.gc.pos, .int .i64 x0.gc.round, .slice a0_4 x0.gc.grey.length c0_4]) ag59 rfl rfl) (St.cell (h := hS9) (i := 3) rfl) ?_
  refine AW.take (i := 3) rfl (by kernel_rfl) rfl rfl (Ldr.boxN (bt := 60) (fr := (0, 0)) (cs := [.int .i64 x0.gc.phase, .int .i64 x0.gc.pos, .int .i64 x0.gc.round, .slice a12 y11.length c13]) ag60 rfl rfl) (St.cell (h := hS9) (i := 1) rfl) ?_
  replace ⟨y16, hy16, h⟩ := obind h
  have q := W_s_l8Copy (w0 := w15.drew) hy16 rfl (hS9.rB hr0_0)
  refine AW.one (i := 2) (by kernel_rfl) ?_
  refine ⟨_, rfl, ?_⟩
  refine LW.call pl191 rfl rfl ?_
  refine Ret.mono q ?_
  rintro _ w19 ⟨a17, c18, rfl, hs⟩
  have hS10 := hS9.add hs
  refine LW.nil ⟨rfl, (.c (St.cell (h := hS10) (i := 2) rfl) (.w (by kernel_rfl) Kept.n)), ?_⟩
  refine AW.u (i := 4) rfl (by kernel_rfl) rfl rfl (Pur.build (vs := [(0, .slice a17 y16.length c18), (1, .agg #[.int .i64 x0.gc.phase, .int .i64 x0.gc.pos, .int .i64 x0.gc.round, .slice a12 y11.length c13])]) (cs := #[.slice a17 y16.length c18, .int .i64 x0.gc.phase, .int .i64 x0.gc.pos, .int .i64 x0.gc.round, .slice a12 y11.length c13]) rfl (by kernel_rfl)) ?_
  refine AW.one (i := 5) (by kernel_rfl) ?_
  refine ⟨_, rfl, ?_⟩
  refine LW.st hS10 3 fun w20 hS11 => ?_
  refine LW.nil ⟨rfl, (.w (by kernel_rfl) (.w (by kernel_rfl) Kept.n)), ?_⟩
  refine AW.done (by kernel_rfl) ?_
  refine go ?_
  cases h
  exact And.intro trivial ⟨_, Res.one (resOne.b hS11 3 rfl ag62 rfl rfl), a17, c18, a12, c13, rfl, hS11.pick [0, 1] rfl rfl⟩

theorem W_i_copyArena {w0 : World} {N : Nat} {x0 : List DObj} {r : (List DObj)} (h : F_i_copyArena N x0 = some r) {a0_0 : Option Addr} {n0_0 c0_0 : Nat} (hn0_0 : n0_0 = x0.length) (hr0_0 : rdS (Bor w0 []) w0 a0_0 c0_0 x0) :
    Ret Tryz.prog 195 #[.slice a0_0 n0_0 c0_0] w0 (fun v w => ∃ ar0 cr0, v = .slice ar0 r.length cr0 ∧ St w0 [] w [sl ar0 cr0 r]) := by
  subst hn0_0
  unfold F_i_copyArena at h
  refine Ret.fn Tryz.func195 fun e => ?_
  have hS1 := St.start w0
  refine go ?_
  refine LW.bsl (α := DObj) (vs := []) (cs := #[]) (l := ([] : List DObj)) rfl (by kernel_rfl) rfl rfl rfl (fun w => rfl) hS1 rfl ?_
  intro a1 c2 w3 hS2 hf
  refine go ?_
  obtain ⟨o41, ho41, h42⟩ := obind h
  refine CW.mono (CW.iter (σ := (List DObj) × Int) (ρ := (List DObj) × Int) (fun s4 e wb => ∃ (s4a0 : Option Addr), ∃ (s4c0 : Nat), En e [(3, .slice s4a0 s4.1.length s4c0), (7, .slice a0_0 x0.length c0_0), (8, .int .i64 (x0.length : Int)), (9, .int .i64 s4.2)] ∧ St w0 [] wb [sl s4a0 s4c0 s4.1]) (fun s4 x e wb => x = .exit 0 ∧ ∃ (s4a0 : Option Addr), ∃ (s4c0 : Nat), En e [(3, .slice s4a0 s4.1.length s4c0)] ∧ St w0 [] wb [sl s4a0 s4c0 s4.1]) ?_ N (([] : List DObj), 0) _ _ _ ⟨a1, c2, ⟨rfl, rfl, rfl, rfl, trivial⟩, hS2.pick [0] rfl rfl⟩ ho41) ?_
  · intro s4 e w5 o hM h
    obtain ⟨s4a0, s4c0, hE, hS3⟩ := hM
    obtain ⟨e, rfl⟩ := hE.out
    refine go ?_
    refine CW.cond rfl (fun hc6 => ?_) (fun hc6 => ?_)
    · replace h := bcT h hc6
      refine go ?_
      replace ⟨y7, hy7, h⟩ := obind h
      obtain ⟨b10, o11, cs12, hae, hb15, hp8, hq9, hd13, hk14⟩ := hr0_0.idx hy7
      subst hae
      obtain ⟨a16, c17, a19, c20, a22, c23, rfl, hr18, hr21, hr24⟩ := hd13
      refine LW.u (Pur.ix Tryz.underlying59 sz92 rfl rfl hp8 hq9) rfl ?_
      refine LW.l (Ldr.oldN w0 ag92 rfl rfl (fun j u hu => hk14 j u hu)) (hS3.same _ hb15.1 hb15.2) rfl ?_
      refine LW.al hS3 fun g25 w26 hS4 => ?_
      refine LW.st hS4 0 fun w27 hS5 => ?_
      refine go ?_
      replace ⟨y28, hy28, h⟩ := obind h
      refine LW.cl (W_i_copyObj hy28 rfl (hS5.rB hr18) rfl (hS5.rB hr21) rfl (hS5.rB hr24)) ?_
      rintro _ w35 ⟨a29, c30, a31, c32, a33, c34, rfl, hs⟩
      have hS6 := hS5.add hs
      have hS7 := hS6.pick (M := [sl a29 c30 y28.links, sl a31 c32 y28.data, sl a33 c34 y28.queue] ++ [bx g25 92 [.int .i64 y7.gen, .int .i64 y7.kind, .int .i64 y7.box, .int .i64 y7.res, .int .i64 y7.til, .int .i64 y7.pages, .int .i64 y7.wait, .int .i64 y7.got, .int .i64 y7.ran, .bool y7.mark, .slice a16 y7.links.length c17, .slice a19 y7.data.length c20, .slice a22 y7.queue.length c23], sl s4a0 s4c0 s4.1]) [0, 1, 2, 3, 4] rfl rfl
      replace ⟨y36, hy36, h⟩ := obind h
      refine LW.app1 (M := [sl a29 c30 y28.links, sl a31 c32 y28.data, sl a33 c34 y28.queue]) (L := [bx g25 92 [.int .i64 y7.gen, .int .i64 y7.kind, .int .i64 y7.box, .int .i64 y7.res, .int .i64 y7.til, .int .i64 y7.pages, .int .i64 y7.wait, .int .i64 y7.got, .int .i64 y7.ran, .bool y7.mark, .slice a16 y7.links.length c17, .slice a19 y7.data.length c20, .slice a22 y7.queue.length c23], sl s4a0 s4c0 s4.1]) (vs := #[.int .i64 y28.gen, .int .i64 y28.kind, .int .i64 y28.box, .int .i64 y28.res, .int .i64 y28.til, .int .i64 y28.pages, .int .i64 y28.wait, .int .i64 y28.got, .int .i64 y28.ran, .bool y28.mark, .slice a29 y28.links.length c30, .slice a31 y28.data.length c32, .slice a33 y28.queue.length c34]) (i := 1) sT59 rfl (by kernel_rfl) rfl rfl hy36 hS7 rfl (fun w G hG => ⟨a29, c30, a31, c32, a33, c34, rfl, hG⟩) rfl rfl ?_
      intro v39 a37 c38 w40 hS8 hf
      refine go ?_
      cases oi h
      exact ⟨rfl, ⟨a37, c38, ⟨rfl, rfl, rfl, rfl, trivial⟩, hS8.pick [1] rfl rfl⟩⟩
    replace h := bcF h hc6
    refine go ?_
    cases oi h
    exact ⟨trivial, rfl, ⟨s4a0, s4c0, ⟨rfl, trivial⟩, hS3.pick [0] rfl rfl⟩⟩
  intro x e w43 hM
  obtain ⟨rfl, hM⟩ := hM
  obtain ⟨s4a0, s4c0, hE, hS9⟩ := hM
  obtain ⟨e, rfl⟩ := hE.out
  have h := h42
  refine go ?_
  cases h
  exact And.intro trivial ⟨_, Res.one (resOne.t rfl), s4a0, s4c0, rfl, hS9.pick [0] rfl rfl⟩

theorem W_l_markHeap {w0 : World} {F : List Nat} {N : Nat} {x0 : DHeap} {x1 : Int} {r : Int × (List DObj) × (List Int)} (h : F_l_markHeap N x0 x1 = some r) {a0_0 : Option Addr} {n0_0 c0_0 : Nat} (hn0_0 : n0_0 = x0.arena.length) {a0_4 : Option Addr} {n0_4 c0_4 : Nat} (hn0_4 : n0_4 = x0.gc.grey.length) (hS : St w0 F w0 [sl a0_0 c0_0 x0.arena, sl a0_4 c0_4 x0.gc.grey]) :
    Ret Tryz.prog 79 #[.agg #[.slice a0_0 n0_0 c0_0, .int .i64 x0.gc.phase, .int .i64 x0.gc.pos, .int .i64 x0.gc.round, .slice a0_4 n0_4 c0_4], .int .i64 x1] w0 (fun v w => v = .int .i64 r.1 ∧ St w0 F w [sl a0_0 c0_0 r.2.1, sl a0_4 c0_4 r.2.2]) := by
  subst hn0_0 hn0_4
  unfold F_l_markHeap at h
  refine Ret.fn Tryz.func79 fun e => ?_
  refine go ?_
  refine LW.bo hS fun g1 w2 hS1 => ?_
  refine go ?_
  replace ⟨y3, hy3, h⟩ := obind h
  obtain ⟨q6, hy3', hq7⟩ := obind hy3
  obtain ⟨hl8, hq7⟩ := keepL_some hq7
  rw [Option.some.inj hq7] at hy3' hl8
  have hS2 := hS1.pick (M := [sl a0_0 c0_0 x0.arena] ++ [bx g1 62 [.slice a0_0 x0.arena.length c0_0, .int .i64 x0.gc.phase, .int .i64 x0.gc.pos, .int .i64 x0.gc.round, .slice a0_4 x0.gc.grey.length c0_4], sl a0_4 c0_4 x0.gc.grey]) [1, 0, 2] rfl rfl
  obtain ⟨F4, hL5⟩ := St.lend (L := [sl a0_0 c0_0 x0.arena]) (M := [bx g1 62 [.slice a0_0 x0.arena.length c0_0, .int .i64 x0.gc.phase, .int .i64 x0.gc.pos, .int .i64 x0.gc.round, .slice a0_4 x0.gc.grey.length c0_4], sl a0_4 c0_4 x0.gc.grey]) hS2
  refine LW.cl (W_l_markObjS hy3' rfl hL5.st) ?_
  rintro _ w9 ⟨rfl, hs⟩
  have hS3 := hL5.back _ _ hs
  refine go ?_
  replace ⟨y10, hy10, h⟩ := obind h
  obtain ⟨q13, hy10', hq14⟩ := obind hy10
  obtain ⟨hl15, hq14⟩ := keepL_some hq14
  rw [Option.some.inj hq14] at hy10' hl15
  rw [show x0.arena.length = y3.2.length from hl8] at hS3
  have hS4 := hS3.pick (M := [sl a0_4 c0_4 x0.gc.grey] ++ [sl a0_0 c0_0 y3.2, bx g1 62 [.slice a0_0 y3.2.length c0_0, .int .i64 x0.gc.phase, .int .i64 x0.gc.pos, .int .i64 x0.gc.round, .slice a0_4 x0.gc.grey.length c0_4]]) [2, 0, 1] rfl rfl
  obtain ⟨F11, hL12⟩ := St.lend (L := [sl a0_4 c0_4 x0.gc.grey]) (M := [sl a0_0 c0_0 y3.2, bx g1 62 [.slice a0_0 y3.2.length c0_0, .int .i64 x0.gc.phase, .int .i64 x0.gc.pos, .int .i64 x0.gc.round, .slice a0_4 x0.gc.grey.length c0_4]]) hS4
  refine LW.cl (W_l_markGc hy10' rfl hL12.st) ?_
  rintro _ w16 ⟨rfl, hs⟩
  have hS5 := hL12.back _ _ hs
  refine go ?_
  replace h := Option.some.inj h
  subst h
  rw [show x0.gc.grey.length = y10.2.length from hl15] at hS5
  exact And.intro trivial ⟨_, Res.one (resOne.t rfl), rfl, hS5.pick [1, 0] rfl rfl⟩

end Go.Kx
