/- Each call returns what the plain function says. Printed by drive.py. -/
import Derived.Test.YtdjpppkdngmeaaaFa
import Derived.Test.YtdjpppkdngmeaaaPu
import Derived.Test.YtdjpppkdngmeaaaWa3
namespace Go.Kx
open Go Go.RowKit Go.Proofs
set_option maxRecDepth 10000
set_option maxHeartbeats 2000000
set_option linter.unusedVariables false
set_option linter.unusedSimpArgs false
theorem W_s_OwnOk {w0 : World} {N : Nat} {x0 : List Int} {r : Bool} (h : F_s_OwnOk N x0 = some r) {a0_0 : Option Addr} {n0_0 c0_0 : Nat} (hn0_0 : n0_0 = x0.length) (hr0_0 : rdS (Bor w0 []) w0 a0_0 c0_0 x0) :
    Ret Try.prog 104 #[.slice a0_0 n0_0 c0_0] w0 (fun v w => v = .bool r ∧ St w0 [] w []) := by
  subst hn0_0
  unfold F_s_OwnOk at h
  refine Ret.of Try.func104 rfl rfl rfl ?_
  have hS1 := St.start w0
  refine CW.seq ?_
  refine CW.region ?_
  refine LW.p rfl rfl ?_
  refine LW.nil ?_
  show CW _ _ _ _ _ _
  refine CW.seq ?_
  refine CW.seq ?_
  refine CW.region ?_
  refine LW.p rfl rfl ?_
  refine LW.nil ?_
  show CW _ _ _ _ _ _
  refine CW.block ?_
  obtain ⟨o30, ho30, h31⟩ := obind h
  refine CW.mono (CW.iter (σ := Int) (ρ := Int ⊕ Bool) (fun s1 e wb => En e [(0, .slice a0_0 x0.length c0_0), (3, .int .i64 s1)] ∧ St w0 [] wb []) (fun o x e wb => match o with | .inl s1 => x = .exit 0 ∧ En e [] ∧ St w0 [] wb [] | .inr r => x = .ret ∧ ∃ u, u = r ∧ ∃ v, Res Try.prog Try.f104.results e wb v ∧ v = .bool u ∧ St w0 [] wb []) ?_ N 0 _ _ _ ⟨⟨rfl, rfl, trivial⟩, hS1.pick [] rfl rfl⟩ ho30) ?_
  · intro s1 e w2 o hM h
    obtain ⟨hE, hS2⟩ := hM
    obtain ⟨e, rfl⟩ := hE.out
    refine CW.seq ?_
    refine CW.seq ?_
    refine CW.region ?_
    iterate 2 refine LW.p rfl rfl ?_
    refine LW.u (Pur.len Try.underlying24 rfl) rfl ?_
    refine LW.p rfl rfl ?_
    refine LW.nil ?_
    show CW _ _ _ _ _ _
    refine CW.cond rfl (fun hc3 => ?_) (fun hc3 => ?_)
    · replace h := bcT h hc3
      refine CW.skip ?_
      show CW _ _ _ _ _ _
      refine CW.seq ?_
      refine CW.block ?_
      refine CW.seq ?_
      obtain ⟨j4, hj4, h5⟩ := obind h
      refine CW.cut (fun e wb => En e [(0, .slice a0_0 x0.length c0_0), (3, .int .i64 s1), (31, .bool j4)] ∧ St w0 [] wb []) ?_ ?_
      · have h := hj4
        refine CW.draw (by kernel_rfl) ?_
        have hS3 := hS2.drew
        refine AW.u (i := 0) rfl (by kernel_rfl) rfl rfl (Pur.p rfl) ?_
        refine AW.u (i := 1) rfl (by kernel_rfl) rfl rfl (Pur.p rfl) ?_
        replace h := obind h
        obtain ⟨y6, hy6, h⟩ := h
        obtain ⟨b9, o10, cs11, hae, hb14, hp7, hq8, hd12, hk13⟩ := hr0_0.idx hy6
        subst hae
        obtain rfl := hd12
        refine AW.u (i := 2) rfl (by kernel_rfl) rfl rfl (Pur.ix Try.underlying24 sz3 rfl rfl hp7 hq8) ?_
        refine AW.take (i := 3) rfl (by kernel_rfl) rfl rfl (Ldr.old w0 ag3 rfl (hk13 0 _ rfl)) (hS3.same _ hb14.1 hb14.2) ?_
        replace h := obind h
        obtain ⟨y15, hy15, h⟩ := h
        have q := W_s_l1In (w0 := w2.drew) hy15
        refine AW.one (i := 4) (by kernel_rfl) ?_
        refine ⟨_, rfl, ?_⟩
        refine LW.call pl81 rfl rfl ?_
        refine Ret.mono q ?_
        rintro _ w16 ⟨rfl, hs⟩
        have hS4 := hS3.add hs
        refine LW.nil ⟨rfl, (.w (by kernel_rfl) Kept.n), ?_⟩
        refine AW.u (i := 5) rfl (by kernel_rfl) rfl rfl (Pur.p rfl) ?_
        refine AW.u (i := 6) rfl (by kernel_rfl) rfl rfl (Pur.p rfl) ?_
        rcases bcases (!y15) with hc17 | hc17
        · replace h := bcT h hc17
          refine AW.no (i := 7) rfl (by kernel_rfl) (want_not rfl rfl hc17) rfl ?_
          refine AW.no (i := 8) rfl (by kernel_rfl) (want_not rfl rfl hc17) rfl ?_
          refine AW.no (i := 9) rfl (by kernel_rfl) (want_not rfl rfl hc17) rfl ?_
          refine AW.no (i := 10) rfl (by kernel_rfl) (want_undef rfl rfl) rfl ?_
          refine AW.no (i := 11) rfl (by kernel_rfl) (want_undef rfl rfl) rfl ?_
          refine AW.no (i := 12) rfl (by kernel_rfl) (want_undef rfl rfl) rfl ?_
          refine AW.no (i := 13) rfl (by kernel_rfl) (want_undef rfl rfl) rfl ?_
          refine AW.no (i := 14) rfl (by kernel_rfl) (want_undef rfl rfl) rfl ?_
          refine AW.no (i := 15) rfl (by kernel_rfl) (want_undef rfl rfl) rfl ?_
          refine AW.no (i := 16) rfl (by kernel_rfl) (want_undef rfl rfl) rfl ?_
          refine AW.no (i := 17) rfl (by kernel_rfl) (want_undef rfl rfl) rfl ?_
          refine AW.no (i := 18) rfl (by kernel_rfl) (want_undef rfl rfl) rfl ?_
          refine AW.no (i := 19) rfl (by kernel_rfl) (want_undef rfl rfl) rfl ?_
          refine AW.no (i := 20) rfl (by kernel_rfl) (want_not rfl rfl hc17) rfl ?_
          refine AW.u (i := 21) rfl (by kernel_rfl) rfl rfl (Pur.pickT rfl hc17) ?_
          refine AW.done (by kernel_rfl) ?_
          replace h := Option.some.inj h
          subst h
          exact ⟨⟨rfl, rfl, rfl, trivial⟩, hS4.pick [] rfl rfl⟩
        replace h := bcF h hc17
        refine AW.u (i := 7) rfl (by kernel_rfl) (want_of rfl rfl hc17) rfl (Pur.p rfl) ?_
        refine AW.u (i := 8) rfl (by kernel_rfl) (want_of rfl rfl hc17) rfl (Pur.p rfl) ?_
        refine AW.u (i := 9) rfl (by kernel_rfl) (want_of rfl rfl hc17) rfl (Pur.p rfl) ?_
        rcases bcases (decide (s1 > 0)) with hc18 | hc18
        · replace h := bcT h hc18
          refine AW.u (i := 10) rfl (by kernel_rfl) (want_of rfl rfl hc18) rfl (Pur.p rfl) ?_
          refine AW.u (i := 11) rfl (by kernel_rfl) (want_of rfl rfl hc18) rfl (Pur.p rfl) ?_
          refine AW.u (i := 12) rfl (by kernel_rfl) (want_of rfl rfl hc18) rfl (Pur.ix Try.underlying24 sz3 rfl rfl hp7 hq8) ?_
          refine AW.take (i := 13) rfl (by kernel_rfl) (want_of rfl rfl hc18) rfl (Ldr.old w0 ag3 rfl (hk13 0 _ rfl)) (hS4.same _ hb14.1 hb14.2) ?_
          refine AW.u (i := 14) rfl (by kernel_rfl) (want_of rfl rfl hc18) rfl (Pur.p rfl) ?_
          refine AW.u (i := 15) rfl (by kernel_rfl) (want_of rfl rfl hc18) rfl (Pur.p rfl) ?_
          refine AW.u (i := 16) rfl (by kernel_rfl) (want_of rfl rfl hc18) rfl (Pur.p rfl) ?_
          replace h := obind h
          obtain ⟨y19, hy19, h⟩ := h
          obtain ⟨b22, o23, cs24, hae, hb27, hp20, hq21, hd25, hk26⟩ := hr0_0.idx hy19
          cases hae
          obtain rfl := hd25
          refine AW.u (i := 17) rfl (by kernel_rfl) (want_of rfl rfl hc18) rfl (Pur.ix Try.underlying24 sz3 rfl rfl hp20 hq21) ?_
          refine AW.take (i := 18) rfl (by kernel_rfl) (want_of rfl rfl hc18) rfl (Ldr.old w0 ag3 rfl (hk26 0 _ rfl)) (hS4.same _ hb27.1 hb27.2) ?_
          refine AW.u (i := 19) rfl (by kernel_rfl) (want_of rfl rfl hc18) rfl (Pur.p rfl) ?_
          refine AW.u (i := 20) rfl (by kernel_rfl) (want_of rfl rfl hc17) rfl (Pur.pickT rfl hc18) ?_
          refine AW.u (i := 21) rfl (by kernel_rfl) rfl rfl (Pur.pickF rfl hc17) ?_
          refine AW.done (by kernel_rfl) ?_
          replace h := Option.some.inj h
          subst h
          exact ⟨⟨rfl, rfl, rfl, trivial⟩, hS4.pick [] rfl rfl⟩
        replace h := bcF h hc18
        refine AW.no (i := 10) rfl (by kernel_rfl) (want_not rfl rfl hc18) rfl ?_
        refine AW.no (i := 11) rfl (by kernel_rfl) (want_not rfl rfl hc18) rfl ?_
        refine AW.no (i := 12) rfl (by kernel_rfl) (want_not rfl rfl hc18) rfl ?_
        refine AW.no (i := 13) rfl (by kernel_rfl) (want_not rfl rfl hc18) rfl ?_
        refine AW.no (i := 14) rfl (by kernel_rfl) (want_not rfl rfl hc18) rfl ?_
        refine AW.no (i := 15) rfl (by kernel_rfl) (want_not rfl rfl hc18) rfl ?_
        refine AW.no (i := 16) rfl (by kernel_rfl) (want_not rfl rfl hc18) rfl ?_
        refine AW.no (i := 17) rfl (by kernel_rfl) (want_not rfl rfl hc18) rfl ?_
        refine AW.no (i := 18) rfl (by kernel_rfl) (want_not rfl rfl hc18) rfl ?_
        refine AW.no (i := 19) rfl (by kernel_rfl) (want_not rfl rfl hc18) rfl ?_
        refine AW.u (i := 20) rfl (by kernel_rfl) (want_of rfl rfl hc17) rfl (Pur.pickF rfl hc18) ?_
        refine AW.u (i := 21) rfl (by kernel_rfl) rfl rfl (Pur.pickF rfl hc17) ?_
        refine AW.done (by kernel_rfl) ?_
        replace h := Option.some.inj h
        subst h
        exact ⟨⟨rfl, rfl, rfl, trivial⟩, hS4.pick [] rfl rfl⟩
      intro e w28 hM
      obtain ⟨hE, hS5⟩ := hM
      obtain ⟨e, rfl⟩ := hE.out
      have h := h5
      show CW _ _ _ _ _ _
      refine CW.cond rfl (fun hc29 => ?_) (fun hc29 => ?_)
      · replace h := bcT h hc29
        refine CW.seq ?_
        refine CW.region ?_
        refine LW.p rfl rfl ?_
        refine LW.nil ?_
        show CW _ _ _ _ _ _
        refine CW.ret ?_
        replace h := Option.some.inj h
        subst h
        exact ⟨trivial, rfl, _, rfl, ⟨_, Res.one (resOne.t rfl), rfl, hS5.pick [] rfl rfl⟩⟩
      replace h := bcF h hc29
      refine CW.skip ?_
      show CW _ _ _ _ _ _
      refine CW.region ?_
      iterate 3 refine LW.p rfl rfl ?_
      refine LW.nil ?_
      replace h := Option.some.inj h
      subst h
      exact ⟨rfl, ⟨⟨rfl, rfl, trivial⟩, hS5.pick [] rfl rfl⟩⟩
    replace h := bcF h hc3
    refine CW.exit ?_
    replace h := Option.some.inj h
    subst h
    exact ⟨trivial, rfl, ⟨trivial, hS2.pick [] rfl rfl⟩⟩
  intro x e w32 hM
  rcases o30 with o30 | r33
  · obtain ⟨rfl, hM⟩ := hM
    obtain ⟨hE, hS6⟩ := hM
    obtain ⟨e, rfl⟩ := hE.out
    have h := h31
    show CW _ _ _ _ _ _
    refine CW.seq ?_
    refine CW.region ?_
    refine LW.p rfl rfl ?_
    refine LW.nil ?_
    show CW _ _ _ _ _ _
    refine CW.ret ?_
    cases h
    exact And.intro trivial ⟨_, Res.one (resOne.t rfl), rfl, hS6.pick [] rfl rfl⟩
  obtain ⟨rfl, u, rfl, hM⟩ := hM
  cases h31
  exact And.intro trivial hM

theorem W_s_l5In {w0 : World} {N : Nat} {x0 : Int} {r : Bool} (h : F_s_l5In N x0 = some r) :
    Ret Try.prog 148 #[.int .i64 x0] w0 (fun v w => v = .bool r ∧ St w0 [] w []) := by
  unfold F_s_l5In at h
  refine Ret.of Try.func148 rfl rfl rfl ?_
  have hS1 := St.start w0
  refine CW.seq ?_
  refine CW.region ?_
  refine LW.p rfl rfl ?_
  refine LW.nil ?_
  show CW _ _ _ _ _ _
  refine CW.seq ?_
  refine CW.region ?_
  refine LW.p rfl rfl ?_
  replace h := obind h
  obtain ⟨y1, hy1, h⟩ := h
  have q := W_s_l1In (w0 := w0) hy1
  refine LW.call pl81 rfl rfl ?_
  refine Ret.mono q ?_
  rintro _ w2 ⟨rfl, hs⟩
  have hS2 := hS1.add hs
  refine LW.p rfl rfl ?_
  refine LW.nil ?_
  show CW _ _ _ _ _ _
  refine CW.ret ?_
  cases h
  exact And.intro trivial ⟨_, Res.one (resOne.t rfl), rfl, hS2.pick [] rfl rfl⟩

theorem W_s_AmtOk {w0 : World} {N : Nat} {x0 : DAmt} {r : Bool} (h : F_s_AmtOk N x0 = some r) :
    Ret Try.prog 83 #[.agg #[.int .i64 x0.pages, .int .i64 x0.rent, .int .i64 x0.cpu]] w0 (fun v w => v = .bool r ∧ St w0 [] w []) := by
  unfold F_s_AmtOk at h
  refine Ret.of Try.func83 rfl rfl rfl ?_
  have hS1 := St.start w0
  refine CW.seq ?_
  refine CW.region ?_
  refine LW.box (cs := [.int .i64 x0.pages, .int .i64 x0.rent, .int .i64 x0.cpu]) rfl hS1 rfl ?_
  intro g1 w2 hS2 hf
  refine LW.p rfl rfl ?_
  refine LW.nil ?_
  show CW _ _ _ _ _ _
  refine CW.seq ?_
  refine CW.region ?_
  refine LW.u (Pur.fa fo73_0 rfl) rfl ?_
  refine LW.ldb hS2 0 rfl ag3 rfl rfl rfl ?_
  replace h := obind h
  obtain ⟨y3, hy3, h⟩ := h
  have q := W_s_l5In (w0 := w2) hy3
  refine LW.call pl148 rfl rfl ?_
  refine Ret.mono q ?_
  rintro _ w4 ⟨rfl, hs⟩
  have hS3 := hS2.add hs
  refine LW.p rfl rfl ?_
  rcases bcases y3 with hc5 | hc5
  · replace h := bcT h hc5
    refine LW.gY (want_of rfl rfl hc5) ?_
    refine LW.u (Pur.fa fo73_1 rfl) rfl ?_
    refine LW.gY (want_of rfl rfl hc5) ?_
    refine LW.ldb hS3 0 rfl ag3 rfl rfl rfl ?_
    replace h := obind h
    obtain ⟨y6, hy6, h⟩ := h
    have q := W_s_l5In (w0 := w4) hy6
    refine LW.gY (want_of rfl rfl hc5) ?_
    refine LW.call pl148 rfl rfl ?_
    refine Ret.mono q ?_
    rintro _ w7 ⟨rfl, hs⟩
    have hS4 := hS3.add hs
    refine LW.u (Pur.pickT rfl hc5) rfl ?_
    refine LW.p rfl rfl ?_
    rcases bcases y6 with hc8 | hc8
    · replace h := bcT h hc8
      refine LW.gY (want_of rfl rfl hc8) ?_
      refine LW.u (Pur.fa fo73_2 rfl) rfl ?_
      refine LW.gY (want_of rfl rfl hc8) ?_
      refine LW.ldb hS4 0 rfl ag3 rfl rfl rfl ?_
      replace h := obind h
      obtain ⟨y9, hy9, h⟩ := h
      have q := W_s_l5In (w0 := w7) hy9
      refine LW.gY (want_of rfl rfl hc8) ?_
      refine LW.call pl148 rfl rfl ?_
      refine Ret.mono q ?_
      rintro _ w10 ⟨rfl, hs⟩
      have hS5 := hS4.add hs
      refine LW.u (Pur.pickT rfl hc8) rfl ?_
      refine LW.p rfl rfl ?_
      refine LW.nil ?_
      show CW _ _ _ _ _ _
      refine CW.fresh (l := [(2, .bool y9)]) ⟨rfl, trivial⟩ (fun e => ?_)
      refine CW.ret ?_
      cases h
      exact And.intro trivial ⟨_, Res.one (resOne.t rfl), rfl, hS5.pick [] rfl rfl⟩
    replace h := bcF h hc8
    refine LW.gN (want_not rfl rfl hc8) rfl ?_
    refine LW.gN (want_not rfl rfl hc8) rfl ?_
    refine LW.gN (want_not rfl rfl hc8) rfl ?_
    refine LW.u (Pur.pickF rfl hc8) rfl ?_
    refine LW.p rfl rfl ?_
    refine LW.nil ?_
    show CW _ _ _ _ _ _
    refine CW.fresh (l := [(2, .bool false)]) ⟨rfl, trivial⟩ (fun e => ?_)
    refine CW.ret ?_
    cases h
    exact And.intro trivial ⟨_, Res.one (resOne.t rfl), rfl, hS4.pick [] rfl rfl⟩
  replace h := bcF h hc5
  refine LW.gN (want_not rfl rfl hc5) rfl ?_
  refine LW.gN (want_not rfl rfl hc5) rfl ?_
  refine LW.gN (want_not rfl rfl hc5) rfl ?_
  refine LW.u (Pur.pickF rfl hc5) rfl ?_
  refine LW.p rfl rfl ?_
  refine LW.gN (want_not rfl rfl rfl) rfl ?_
  refine LW.gN (want_not rfl rfl rfl) rfl ?_
  refine LW.gN (want_not rfl rfl rfl) rfl ?_
  refine LW.u (Pur.pickF rfl rfl) rfl ?_
  refine LW.p rfl rfl ?_
  refine LW.nil ?_
  show CW _ _ _ _ _ _
  refine CW.fresh (l := [(2, .bool false)]) ⟨rfl, trivial⟩ (fun e => ?_)
  refine CW.ret ?_
  cases h
  exact And.intro trivial ⟨_, Res.one (resOne.t rfl), rfl, hS3.pick [] rfl rfl⟩

theorem W_s_l6Res {w0 : World} {N : Nat} {x0 : Int} {r : Bool} (h : F_s_l6Res N x0 = some r) :
    Ret Try.prog 181 #[.int .i64 x0] w0 (fun v w => v = .bool r ∧ St w0 [] w []) := by
  unfold F_s_l6Res at h
  refine Ret.of Try.func181 rfl rfl rfl ?_
  have hS1 := St.start w0
  refine CW.seq ?_
  refine CW.region ?_
  refine LW.p rfl rfl ?_
  refine LW.nil ?_
  show CW _ _ _ _ _ _
  refine CW.seq ?_
  refine CW.region ?_
  refine LW.p rfl rfl ?_
  replace h := obind h
  obtain ⟨y1, hy1, h⟩ := h
  have q := W_s_l1In (w0 := w0) hy1
  refine LW.call pl81 rfl rfl ?_
  refine Ret.mono q ?_
  rintro _ w2 ⟨rfl, hs⟩
  have hS2 := hS1.add hs
  refine LW.p rfl rfl ?_
  refine LW.nil ?_
  show CW _ _ _ _ _ _
  refine CW.ret ?_
  cases h
  exact And.intro trivial ⟨_, Res.one (resOne.t rfl), rfl, hS2.pick [] rfl rfl⟩

theorem W_s_l8Handle {w0 : World} {N : Nat} {x0 : Int} {r : Bool} (h : F_s_l8Handle N x0 = some r) :
    Ret Try.prog 198 #[.int .i64 x0] w0 (fun v w => v = .bool r ∧ St w0 [] w []) := by
  unfold F_s_l8Handle at h
  refine Ret.of Try.func198 rfl rfl rfl ?_
  have hS1 := St.start w0
  refine CW.seq ?_
  refine CW.region ?_
  refine LW.p rfl rfl ?_
  refine LW.nil ?_
  show CW _ _ _ _ _ _
  refine CW.seq ?_
  refine CW.region ?_
  refine LW.p rfl rfl ?_
  replace h := obind h
  obtain ⟨y1, hy1, h⟩ := h
  have q := W_s_l1In (w0 := w0) hy1
  refine LW.call pl81 rfl rfl ?_
  refine Ret.mono q ?_
  rintro _ w2 ⟨rfl, hs⟩
  have hS2 := hS1.add hs
  refine LW.p rfl rfl ?_
  refine LW.nil ?_
  show CW _ _ _ _ _ _
  refine CW.ret ?_
  cases h
  exact And.intro trivial ⟨_, Res.one (resOne.t rfl), rfl, hS2.pick [] rfl rfl⟩

theorem W_s_ObjOk {w0 : World} {N : Nat} {x0 : DObj} {r : Bool} (h : F_s_ObjOk N x0 = some r) {a0_10 : Option Addr} {n0_10 c0_10 : Nat} (hn0_10 : n0_10 = x0.links.length) (hr0_10 : rdS (Bor w0 []) w0 a0_10 c0_10 x0.links) {a0_11 : Option Addr} {n0_11 c0_11 : Nat} (hn0_11 : n0_11 = x0.data.length) (hr0_11 : rdS (Bor w0 []) w0 a0_11 c0_11 x0.data) {a0_12 : Option Addr} {n0_12 c0_12 : Nat} (hn0_12 : n0_12 = x0.queue.length) (hr0_12 : rdS (Bor w0 []) w0 a0_12 c0_12 x0.queue) :
    Ret Try.prog 190 #[.agg #[.int .i64 x0.gen, .int .i64 x0.kind, .int .i64 x0.box, .int .i64 x0.res, .int .i64 x0.til, .int .i64 x0.pages, .int .i64 x0.wait, .int .i64 x0.got, .int .i64 x0.ran, .bool x0.mark, .slice a0_10 n0_10 c0_10, .slice a0_11 n0_11 c0_11, .slice a0_12 n0_12 c0_12]] w0 (fun v w => v = .bool r ∧ St w0 [] w []) := by
  subst hn0_10
  subst hn0_11
  subst hn0_12
  unfold F_s_ObjOk at h
  refine Ret.of Try.func190 rfl rfl rfl ?_
  have hS1 := St.start w0
  refine CW.seq ?_
  refine CW.region ?_
  refine LW.box (cs := [.int .i64 x0.gen, .int .i64 x0.kind, .int .i64 x0.box, .int .i64 x0.res, .int .i64 x0.til, .int .i64 x0.pages, .int .i64 x0.wait, .int .i64 x0.got, .int .i64 x0.ran, .bool x0.mark, .slice a0_10 x0.links.length c0_10, .slice a0_11 x0.data.length c0_11, .slice a0_12 x0.queue.length c0_12]) rfl hS1 rfl ?_
  intro g1 w2 hS2 hf
  refine LW.p rfl rfl ?_
  refine LW.nil ?_
  show CW _ _ _ _ _ _
  refine CW.seq ?_
  refine CW.seq ?_
  refine CW.region ?_
  refine LW.u (Pur.fa fo123_0 rfl) rfl ?_
  refine LW.ldb hS2 0 rfl ag3 rfl rfl rfl ?_
  replace h := obind h
  obtain ⟨y3, hy3, h⟩ := h
  have q := W_s_l1In (w0 := w2) hy3
  refine LW.call pl81 rfl rfl ?_
  refine Ret.mono q ?_
  rintro _ w4 ⟨rfl, hs⟩
  have hS3 := hS2.add hs
  refine LW.p rfl rfl ?_
  refine LW.nil ?_
  show CW _ _ _ _ _ _
  refine CW.cond rfl (fun hc5 => ?_) (fun hc5 => ?_)
  · replace h := bcT h hc5
    refine CW.seq ?_
    refine CW.region ?_
    refine LW.p rfl rfl ?_
    refine LW.nil ?_
    show CW _ _ _ _ _ _
    refine CW.ret ?_
    cases h
    exact And.intro trivial ⟨_, Res.one (resOne.t rfl), rfl, hS3.pick [] rfl rfl⟩
  replace h := bcF h hc5
  refine CW.skip ?_
  show CW _ _ _ _ _ _
  refine CW.seq ?_
  refine CW.seq ?_
  refine CW.region ?_
  refine LW.u (Pur.fa fo123_1 rfl) rfl ?_
  refine LW.ldb hS3 0 rfl ag3 rfl rfl rfl ?_
  refine LW.p rfl rfl ?_
  refine LW.nil ?_
  show CW _ _ _ _ _ _
  refine CW.cond rfl (fun hc6 => ?_) (fun hc6 => ?_)
  · replace h := bcT h hc6
    refine CW.seq ?_
    obtain ⟨j7, hj7, h8⟩ := obind h
    refine CW.cut (fun e wb => En e [(2, .bool j7)] ∧ St w0 [] wb []) ?_ ?_
    · have h := hj7
      refine CW.region ?_
      refine LW.u (Pur.fa fo123_2 rfl) rfl ?_
      refine LW.ldb hS3 0 rfl ag3 rfl rfl rfl ?_
      iterate 2 refine LW.p rfl rfl ?_
      rcases bcases (x0.box == 0) with hc9 | hc9
      · replace h := bcT h hc9
        refine LW.gY (want_of rfl rfl hc9) ?_
        refine LW.u (Pur.fa fo123_3 rfl) rfl ?_
        refine LW.gY (want_of rfl rfl hc9) ?_
        refine LW.ldb hS3 0 rfl ag3 rfl rfl rfl ?_
        refine LW.gY (want_of rfl rfl hc9) ?_
        refine LW.p rfl rfl ?_
        refine LW.u (Pur.pickT rfl hc9) rfl ?_
        refine LW.p rfl rfl ?_
        rcases bcases (x0.res == 0) with hc10 | hc10
        · replace h := bcT h hc10
          refine LW.gY (want_of rfl rfl hc10) ?_
          refine LW.u (Pur.fa fo123_4 rfl) rfl ?_
          refine LW.gY (want_of rfl rfl hc10) ?_
          refine LW.ldb hS3 0 rfl ag3 rfl rfl rfl ?_
          refine LW.gY (want_of rfl rfl hc10) ?_
          refine LW.p rfl rfl ?_
          refine LW.u (Pur.pickT rfl hc10) rfl ?_
          refine LW.p rfl rfl ?_
          refine LW.fresh (l := [(1, .pointer (some ⟨g1, 0, none⟩)), (26, .bool (x0.til == 0))]) ⟨rfl, rfl, trivial⟩ (fun e => ?_)
          rcases bcases (x0.til == 0) with hc11 | hc11
          · replace h := bcT h hc11
            refine LW.gY (want_of rfl rfl hc11) ?_
            refine LW.u (Pur.fa fo123_5 rfl) rfl ?_
            refine LW.gY (want_of rfl rfl hc11) ?_
            refine LW.ldb hS3 0 rfl ag3 rfl rfl rfl ?_
            refine LW.gY (want_of rfl rfl hc11) ?_
            refine LW.p rfl rfl ?_
            refine LW.u (Pur.pickT rfl hc11) rfl ?_
            refine LW.p rfl rfl ?_
            rcases bcases (x0.pages == 0) with hc12 | hc12
            · replace h := bcT h hc12
              refine LW.gY (want_of rfl rfl hc12) ?_
              refine LW.u (Pur.fa fo123_6 rfl) rfl ?_
              refine LW.gY (want_of rfl rfl hc12) ?_
              refine LW.ldb hS3 0 rfl ag3 rfl rfl rfl ?_
              refine LW.gY (want_of rfl rfl hc12) ?_
              refine LW.p rfl rfl ?_
              refine LW.u (Pur.pickT rfl hc12) rfl ?_
              refine LW.p rfl rfl ?_
              rcases bcases (x0.wait == 0) with hc13 | hc13
              · replace h := bcT h hc13
                refine LW.gY (want_of rfl rfl hc13) ?_
                refine LW.u (Pur.fa fo123_7 rfl) rfl ?_
                refine LW.gY (want_of rfl rfl hc13) ?_
                refine LW.ldb hS3 0 rfl ag3 rfl rfl rfl ?_
                refine LW.gY (want_of rfl rfl hc13) ?_
                refine LW.p rfl rfl ?_
                refine LW.u (Pur.pickT rfl hc13) rfl ?_
                refine LW.p rfl rfl ?_
                rcases bcases (x0.got == 0) with hc14 | hc14
                · replace h := bcT h hc14
                  refine LW.gY (want_of rfl rfl hc14) ?_
                  refine LW.u (Pur.fa fo123_8 rfl) rfl ?_
                  refine LW.gY (want_of rfl rfl hc14) ?_
                  refine LW.ldb hS3 0 rfl ag3 rfl rfl rfl ?_
                  refine LW.gY (want_of rfl rfl hc14) ?_
                  refine LW.p rfl rfl ?_
                  refine LW.u (Pur.pickT rfl hc14) rfl ?_
                  refine LW.p rfl rfl ?_
                  rcases bcases (x0.ran == 0) with hc15 | hc15
                  · replace h := bcT h hc15
                    refine LW.fresh (l := [(1, .pointer (some ⟨g1, 0, none⟩)), (46, .bool (x0.ran == 0))]) ⟨rfl, rfl, trivial⟩ (fun e => ?_)
                    refine LW.gY (want_of rfl rfl hc15) ?_
                    refine LW.u (Pur.fa fo123_9 rfl) rfl ?_
                    refine LW.gY (want_of rfl rfl hc15) ?_
                    refine LW.ldb hS3 0 rfl ag4 rfl rfl rfl ?_
                    refine LW.gY (want_of rfl rfl hc15) ?_
                    refine LW.p rfl rfl ?_
                    refine LW.u (Pur.pickT rfl hc15) rfl ?_
                    refine LW.p rfl rfl ?_
                    rcases bcases (!x0.mark) with hc16 | hc16
                    · replace h := bcT h hc16
                      refine LW.gY (want_of rfl rfl hc16) ?_
                      refine LW.u (Pur.fa fo123_10 rfl) rfl ?_
                      refine LW.gY (want_of rfl rfl hc16) ?_
                      refine LW.ldb hS3 0 rfl ag24 rfl rfl rfl ?_
                      refine LW.gY (want_of rfl rfl hc16) ?_
                      refine LW.u (Pur.len Try.underlying24 rfl) rfl ?_
                      refine LW.gY (want_of rfl rfl hc16) ?_
                      refine LW.p rfl rfl ?_
                      refine LW.u (Pur.pickT rfl hc16) rfl ?_
                      refine LW.p rfl rfl ?_
                      rcases bcases ((x0.links.length : Int) == 0) with hc17 | hc17
                      · replace h := bcT h hc17
                        refine LW.gY (want_of rfl rfl hc17) ?_
                        refine LW.u (Pur.fa fo123_11 rfl) rfl ?_
                        refine LW.gY (want_of rfl rfl hc17) ?_
                        refine LW.ldb hS3 0 rfl ag24 rfl rfl rfl ?_
                        refine LW.gY (want_of rfl rfl hc17) ?_
                        refine LW.u (Pur.len Try.underlying24 rfl) rfl ?_
                        refine LW.gY (want_of rfl rfl hc17) ?_
                        refine LW.p rfl rfl ?_
                        refine LW.u (Pur.pickT rfl hc17) rfl ?_
                        refine LW.p rfl rfl ?_
                        rcases bcases ((x0.data.length : Int) == 0) with hc18 | hc18
                        · replace h := bcT h hc18
                          refine LW.gY (want_of rfl rfl hc18) ?_
                          refine LW.u (Pur.fa fo123_12 rfl) rfl ?_
                          refine LW.gY (want_of rfl rfl hc18) ?_
                          refine LW.ldb hS3 0 rfl ag121 rfl rfl rfl ?_
                          refine LW.gY (want_of rfl rfl hc18) ?_
                          refine LW.u (Pur.len Try.underlying121 rfl) rfl ?_
                          refine LW.gY (want_of rfl rfl hc18) ?_
                          refine LW.p rfl rfl ?_
                          refine LW.u (Pur.pickT rfl hc18) rfl ?_
                          refine LW.fresh (l := [(68, .bool ((x0.queue.length : Int) == 0))]) ⟨rfl, trivial⟩ (fun e => ?_)
                          refine LW.p rfl rfl ?_
                          refine LW.nil ?_
                          replace h := Option.some.inj h
                          subst h
                          exact ⟨⟨rfl, trivial⟩, hS3.pick [] rfl rfl⟩
                        replace h := bcF h hc18
                        refine LW.gN (want_not rfl rfl hc18) rfl ?_
                        refine LW.gN (want_not rfl rfl hc18) rfl ?_
                        refine LW.gN (want_not rfl rfl hc18) rfl ?_
                        refine LW.gN (want_not rfl rfl hc18) rfl ?_
                        refine LW.u (Pur.pickF rfl hc18) rfl ?_
                        refine LW.fresh (l := [(68, .bool false)]) ⟨rfl, trivial⟩ (fun e => ?_)
                        refine LW.p rfl rfl ?_
                        refine LW.nil ?_
                        replace h := Option.some.inj h
                        subst h
                        exact ⟨⟨rfl, trivial⟩, hS3.pick [] rfl rfl⟩
                      replace h := bcF h hc17
                      refine LW.gN (want_not rfl rfl hc17) rfl ?_
                      refine LW.gN (want_not rfl rfl hc17) rfl ?_
                      refine LW.gN (want_not rfl rfl hc17) rfl ?_
                      refine LW.gN (want_not rfl rfl hc17) rfl ?_
                      refine LW.u (Pur.pickF rfl hc17) rfl ?_
                      refine LW.p rfl rfl ?_
                      refine LW.gN (want_not rfl rfl rfl) rfl ?_
                      refine LW.gN (want_not rfl rfl rfl) rfl ?_
                      refine LW.gN (want_not rfl rfl rfl) rfl ?_
                      refine LW.gN (want_not rfl rfl rfl) rfl ?_
                      refine LW.u (Pur.pickF rfl rfl) rfl ?_
                      refine LW.p rfl rfl ?_
                      refine LW.nil ?_
                      replace h := Option.some.inj h
                      subst h
                      exact ⟨⟨rfl, trivial⟩, hS3.pick [] rfl rfl⟩
                    replace h := bcF h hc16
                    refine LW.gN (want_not rfl rfl hc16) rfl ?_
                    refine LW.gN (want_not rfl rfl hc16) rfl ?_
                    refine LW.gN (want_not rfl rfl hc16) rfl ?_
                    refine LW.gN (want_not rfl rfl hc16) rfl ?_
                    refine LW.u (Pur.pickF rfl hc16) rfl ?_
                    refine LW.p rfl rfl ?_
                    refine LW.gN (want_not rfl rfl rfl) rfl ?_
                    refine LW.gN (want_not rfl rfl rfl) rfl ?_
                    refine LW.gN (want_not rfl rfl rfl) rfl ?_
                    refine LW.gN (want_not rfl rfl rfl) rfl ?_
                    refine LW.u (Pur.pickF rfl rfl) rfl ?_
                    refine LW.p rfl rfl ?_
                    refine LW.gN (want_not rfl rfl rfl) rfl ?_
                    refine LW.gN (want_not rfl rfl rfl) rfl ?_
                    refine LW.gN (want_not rfl rfl rfl) rfl ?_
                    refine LW.gN (want_not rfl rfl rfl) rfl ?_
                    refine LW.u (Pur.pickF rfl rfl) rfl ?_
                    refine LW.p rfl rfl ?_
                    refine LW.nil ?_
                    replace h := Option.some.inj h
                    subst h
                    exact ⟨⟨rfl, trivial⟩, hS3.pick [] rfl rfl⟩
                  replace h := bcF h hc15
                  refine LW.fresh (l := [(1, .pointer (some ⟨g1, 0, none⟩)), (46, .bool (x0.ran == 0))]) ⟨rfl, rfl, trivial⟩ (fun e => ?_)
                  refine LW.gN (want_not rfl rfl hc15) rfl ?_
                  refine LW.gN (want_not rfl rfl hc15) rfl ?_
                  refine LW.gN (want_not rfl rfl hc15) rfl ?_
                  refine LW.u (Pur.pickF rfl hc15) rfl ?_
                  refine LW.p rfl rfl ?_
                  refine LW.gN (want_not rfl rfl rfl) rfl ?_
                  refine LW.gN (want_not rfl rfl rfl) rfl ?_
                  refine LW.gN (want_not rfl rfl rfl) rfl ?_
                  refine LW.gN (want_not rfl rfl rfl) rfl ?_
                  refine LW.u (Pur.pickF rfl rfl) rfl ?_
                  refine LW.p rfl rfl ?_
                  refine LW.gN (want_not rfl rfl rfl) rfl ?_
                  refine LW.gN (want_not rfl rfl rfl) rfl ?_
                  refine LW.gN (want_not rfl rfl rfl) rfl ?_
                  refine LW.gN (want_not rfl rfl rfl) rfl ?_
                  refine LW.u (Pur.pickF rfl rfl) rfl ?_
                  refine LW.p rfl rfl ?_
                  refine LW.gN (want_not rfl rfl rfl) rfl ?_
                  refine LW.gN (want_not rfl rfl rfl) rfl ?_
                  refine LW.gN (want_not rfl rfl rfl) rfl ?_
                  refine LW.gN (want_not rfl rfl rfl) rfl ?_
                  refine LW.u (Pur.pickF rfl rfl) rfl ?_
                  refine LW.p rfl rfl ?_
                  refine LW.nil ?_
                  replace h := Option.some.inj h
                  subst h
                  exact ⟨⟨rfl, trivial⟩, hS3.pick [] rfl rfl⟩
                replace h := bcF h hc14
                refine LW.gN (want_not rfl rfl hc14) rfl ?_
                refine LW.gN (want_not rfl rfl hc14) rfl ?_
                refine LW.gN (want_not rfl rfl hc14) rfl ?_
                refine LW.u (Pur.pickF rfl hc14) rfl ?_
                refine LW.p rfl rfl ?_
                refine LW.gN (want_not rfl rfl rfl) rfl ?_
                refine LW.fresh (l := [(1, .pointer (some ⟨g1, 0, none⟩)), (46, .bool false), (47, undef)]) ⟨rfl, rfl, rfl, trivial⟩ (fun e => ?_)
                refine LW.gN (want_not rfl rfl rfl) rfl ?_
                refine LW.gN (want_not rfl rfl rfl) rfl ?_
                refine LW.u (Pur.pickF rfl rfl) rfl ?_
                refine LW.p rfl rfl ?_
                refine LW.gN (want_not rfl rfl rfl) rfl ?_
                refine LW.gN (want_not rfl rfl rfl) rfl ?_
                refine LW.gN (want_not rfl rfl rfl) rfl ?_
                refine LW.gN (want_not rfl rfl rfl) rfl ?_
                refine LW.u (Pur.pickF rfl rfl) rfl ?_
                refine LW.p rfl rfl ?_
                refine LW.gN (want_not rfl rfl rfl) rfl ?_
                refine LW.gN (want_not rfl rfl rfl) rfl ?_
                refine LW.gN (want_not rfl rfl rfl) rfl ?_
                refine LW.gN (want_not rfl rfl rfl) rfl ?_
                refine LW.u (Pur.pickF rfl rfl) rfl ?_
                refine LW.p rfl rfl ?_
                refine LW.gN (want_not rfl rfl rfl) rfl ?_
                refine LW.gN (want_not rfl rfl rfl) rfl ?_
                refine LW.gN (want_not rfl rfl rfl) rfl ?_
                refine LW.gN (want_not rfl rfl rfl) rfl ?_
                refine LW.u (Pur.pickF rfl rfl) rfl ?_
                refine LW.p rfl rfl ?_
                refine LW.nil ?_
                replace h := Option.some.inj h
                subst h
                exact ⟨⟨rfl, trivial⟩, hS3.pick [] rfl rfl⟩
              replace h := bcF h hc13
              refine LW.gN (want_not rfl rfl hc13) rfl ?_
              refine LW.gN (want_not rfl rfl hc13) rfl ?_
              refine LW.gN (want_not rfl rfl hc13) rfl ?_
              refine LW.u (Pur.pickF rfl hc13) rfl ?_
              refine LW.p rfl rfl ?_
              refine LW.gN (want_not rfl rfl rfl) rfl ?_
              refine LW.gN (want_not rfl rfl rfl) rfl ?_
              refine LW.gN (want_not rfl rfl rfl) rfl ?_
              refine LW.u (Pur.pickF rfl rfl) rfl ?_
              refine LW.p rfl rfl ?_
              refine LW.gN (want_not rfl rfl rfl) rfl ?_
              refine LW.gN (want_not rfl rfl rfl) rfl ?_
              refine LW.fresh (l := [(1, .pointer (some ⟨g1, 0, none⟩)), (46, .bool false), (48, undef)]) ⟨rfl, rfl, rfl, trivial⟩ (fun e => ?_)
              refine LW.gN (want_not rfl rfl rfl) rfl ?_
              refine LW.u (Pur.pickF rfl rfl) rfl ?_
              refine LW.p rfl rfl ?_
              refine LW.gN (want_not rfl rfl rfl) rfl ?_
              refine LW.gN (want_not rfl rfl rfl) rfl ?_
              refine LW.gN (want_not rfl rfl rfl) rfl ?_
              refine LW.gN (want_not rfl rfl rfl) rfl ?_
              refine LW.u (Pur.pickF rfl rfl) rfl ?_
              refine LW.p rfl rfl ?_
              refine LW.gN (want_not rfl rfl rfl) rfl ?_
              refine LW.gN (want_not rfl rfl rfl) rfl ?_
              refine LW.gN (want_not rfl rfl rfl) rfl ?_
              refine LW.gN (want_not rfl rfl rfl) rfl ?_
              refine LW.u (Pur.pickF rfl rfl) rfl ?_
              refine LW.p rfl rfl ?_
              refine LW.gN (want_not rfl rfl rfl) rfl ?_
              refine LW.gN (want_not rfl rfl rfl) rfl ?_
              refine LW.gN (want_not rfl rfl rfl) rfl ?_
              refine LW.gN (want_not rfl rfl rfl) rfl ?_
              refine LW.u (Pur.pickF rfl rfl) rfl ?_
              refine LW.p rfl rfl ?_
              refine LW.nil ?_
              replace h := Option.some.inj h
              subst h
              exact ⟨⟨rfl, trivial⟩, hS3.pick [] rfl rfl⟩
            replace h := bcF h hc12
            refine LW.gN (want_not rfl rfl hc12) rfl ?_
            refine LW.gN (want_not rfl rfl hc12) rfl ?_
            refine LW.gN (want_not rfl rfl hc12) rfl ?_
            refine LW.u (Pur.pickF rfl hc12) rfl ?_
            refine LW.p rfl rfl ?_
            refine LW.gN (want_not rfl rfl rfl) rfl ?_
            refine LW.gN (want_not rfl rfl rfl) rfl ?_
            refine LW.gN (want_not rfl rfl rfl) rfl ?_
            refine LW.u (Pur.pickF rfl rfl) rfl ?_
            refine LW.p rfl rfl ?_
            refine LW.gN (want_not rfl rfl rfl) rfl ?_
            refine LW.gN (want_not rfl rfl rfl) rfl ?_
            refine LW.gN (want_not rfl rfl rfl) rfl ?_
            refine LW.u (Pur.pickF rfl rfl) rfl ?_
            refine LW.p rfl rfl ?_
            refine LW.gN (want_not rfl rfl rfl) rfl ?_
            refine LW.gN (want_not rfl rfl rfl) rfl ?_
            refine LW.gN (want_not rfl rfl rfl) rfl ?_
            refine LW.fresh (l := [(1, .pointer (some ⟨g1, 0, none⟩)), (46, .bool false), (49, undef)]) ⟨rfl, rfl, rfl, trivial⟩ (fun e => ?_)
            refine LW.u (Pur.pickF rfl rfl) rfl ?_
            refine LW.p rfl rfl ?_
            refine LW.gN (want_not rfl rfl rfl) rfl ?_
            refine LW.gN (want_not rfl rfl rfl) rfl ?_
            refine LW.gN (want_not rfl rfl rfl) rfl ?_
            refine LW.gN (want_not rfl rfl rfl) rfl ?_
            refine LW.u (Pur.pickF rfl rfl) rfl ?_
            refine LW.p rfl rfl ?_
            refine LW.gN (want_not rfl rfl rfl) rfl ?_
            refine LW.gN (want_not rfl rfl rfl) rfl ?_
            refine LW.gN (want_not rfl rfl rfl) rfl ?_
            refine LW.gN (want_not rfl rfl rfl) rfl ?_
            refine LW.u (Pur.pickF rfl rfl) rfl ?_
            refine LW.p rfl rfl ?_
            refine LW.gN (want_not rfl rfl rfl) rfl ?_
            refine LW.gN (want_not rfl rfl rfl) rfl ?_
            refine LW.gN (want_not rfl rfl rfl) rfl ?_
            refine LW.gN (want_not rfl rfl rfl) rfl ?_
            refine LW.u (Pur.pickF rfl rfl) rfl ?_
            refine LW.p rfl rfl ?_
            refine LW.nil ?_
            replace h := Option.some.inj h
            subst h
            exact ⟨⟨rfl, trivial⟩, hS3.pick [] rfl rfl⟩
          replace h := bcF h hc11
          refine LW.gN (want_not rfl rfl hc11) rfl ?_
          refine LW.gN (want_not rfl rfl hc11) rfl ?_
          refine LW.gN (want_not rfl rfl hc11) rfl ?_
          refine LW.u (Pur.pickF rfl hc11) rfl ?_
          refine LW.p rfl rfl ?_
          refine LW.gN (want_not rfl rfl rfl) rfl ?_
          refine LW.gN (want_not rfl rfl rfl) rfl ?_
          refine LW.gN (want_not rfl rfl rfl) rfl ?_
          refine LW.u (Pur.pickF rfl rfl) rfl ?_
          refine LW.p rfl rfl ?_
          refine LW.gN (want_not rfl rfl rfl) rfl ?_
          refine LW.gN (want_not rfl rfl rfl) rfl ?_
          refine LW.gN (want_not rfl rfl rfl) rfl ?_
          refine LW.u (Pur.pickF rfl rfl) rfl ?_
          refine LW.p rfl rfl ?_
          refine LW.gN (want_not rfl rfl rfl) rfl ?_
          refine LW.gN (want_not rfl rfl rfl) rfl ?_
          refine LW.gN (want_not rfl rfl rfl) rfl ?_
          refine LW.u (Pur.pickF rfl rfl) rfl ?_
          refine LW.p rfl rfl ?_
          refine LW.gN (want_not rfl rfl rfl) rfl ?_
          refine LW.gN (want_not rfl rfl rfl) rfl ?_
          refine LW.gN (want_not rfl rfl rfl) rfl ?_
          refine LW.u (Pur.pickF rfl rfl) rfl ?_
          refine LW.fresh (l := [(1, .pointer (some ⟨g1, 0, none⟩)), (50, .bool false)]) ⟨rfl, rfl, trivial⟩ (fun e => ?_)
          refine LW.p rfl rfl ?_
          refine LW.gN (want_not rfl rfl rfl) rfl ?_
          refine LW.gN (want_not rfl rfl rfl) rfl ?_
          refine LW.gN (want_not rfl rfl rfl) rfl ?_
          refine LW.gN (want_not rfl rfl rfl) rfl ?_
          refine LW.u (Pur.pickF rfl rfl) rfl ?_
          refine LW.p rfl rfl ?_
          refine LW.gN (want_not rfl rfl rfl) rfl ?_
          refine LW.gN (want_not rfl rfl rfl) rfl ?_
          refine LW.gN (want_not rfl rfl rfl) rfl ?_
          refine LW.gN (want_not rfl rfl rfl) rfl ?_
          refine LW.u (Pur.pickF rfl rfl) rfl ?_
          refine LW.p rfl rfl ?_
          refine LW.gN (want_not rfl rfl rfl) rfl ?_
          refine LW.gN (want_not rfl rfl rfl) rfl ?_
          refine LW.gN (want_not rfl rfl rfl) rfl ?_
          refine LW.gN (want_not rfl rfl rfl) rfl ?_
          refine LW.u (Pur.pickF rfl rfl) rfl ?_
          refine LW.p rfl rfl ?_
          refine LW.nil ?_
          replace h := Option.some.inj h
          subst h
          exact ⟨⟨rfl, trivial⟩, hS3.pick [] rfl rfl⟩
        replace h := bcF h hc10
        refine LW.gN (want_not rfl rfl hc10) rfl ?_
        refine LW.gN (want_not rfl rfl hc10) rfl ?_
        refine LW.gN (want_not rfl rfl hc10) rfl ?_
        refine LW.u (Pur.pickF rfl hc10) rfl ?_
        refine LW.p rfl rfl ?_
        refine LW.fresh (l := [(1, .pointer (some ⟨g1, 0, none⟩)), (26, .bool false)]) ⟨rfl, rfl, trivial⟩ (fun e => ?_)
        refine LW.gN (want_not rfl rfl rfl) rfl ?_
        refine LW.gN (want_not rfl rfl rfl) rfl ?_
        refine LW.gN (want_not rfl rfl rfl) rfl ?_
        refine LW.u (Pur.pickF rfl rfl) rfl ?_
        refine LW.p rfl rfl ?_
        refine LW.gN (want_not rfl rfl rfl) rfl ?_
        refine LW.gN (want_not rfl rfl rfl) rfl ?_
        refine LW.gN (want_not rfl rfl rfl) rfl ?_
        refine LW.u (Pur.pickF rfl rfl) rfl ?_
        refine LW.p rfl rfl ?_
        refine LW.gN (want_not rfl rfl rfl) rfl ?_
        refine LW.gN (want_not rfl rfl rfl) rfl ?_
        refine LW.gN (want_not rfl rfl rfl) rfl ?_
        refine LW.u (Pur.pickF rfl rfl) rfl ?_
        refine LW.p rfl rfl ?_
        refine LW.gN (want_not rfl rfl rfl) rfl ?_
        refine LW.gN (want_not rfl rfl rfl) rfl ?_
        refine LW.gN (want_not rfl rfl rfl) rfl ?_
        refine LW.u (Pur.pickF rfl rfl) rfl ?_
        refine LW.p rfl rfl ?_
        refine LW.gN (want_not rfl rfl rfl) rfl ?_
        refine LW.gN (want_not rfl rfl rfl) rfl ?_
        refine LW.gN (want_not rfl rfl rfl) rfl ?_
        refine LW.u (Pur.pickF rfl rfl) rfl ?_
        refine LW.p rfl rfl ?_
        refine LW.fresh (l := [(1, .pointer (some ⟨g1, 0, none⟩)), (51, .bool false)]) ⟨rfl, rfl, trivial⟩ (fun e => ?_)
        refine LW.gN (want_not rfl rfl rfl) rfl ?_
        refine LW.gN (want_not rfl rfl rfl) rfl ?_
        refine LW.gN (want_not rfl rfl rfl) rfl ?_
        refine LW.gN (want_not rfl rfl rfl) rfl ?_
        refine LW.u (Pur.pickF rfl rfl) rfl ?_
        refine LW.p rfl rfl ?_
        refine LW.gN (want_not rfl rfl rfl) rfl ?_
        refine LW.gN (want_not rfl rfl rfl) rfl ?_
        refine LW.gN (want_not rfl rfl rfl) rfl ?_
        refine LW.gN (want_not rfl rfl rfl) rfl ?_
        refine LW.u (Pur.pickF rfl rfl) rfl ?_
        refine LW.p rfl rfl ?_
        refine LW.gN (want_not rfl rfl rfl) rfl ?_
        refine LW.gN (want_not rfl rfl rfl) rfl ?_
        refine LW.gN (want_not rfl rfl rfl) rfl ?_
        refine LW.gN (want_not rfl rfl rfl) rfl ?_
        refine LW.u (Pur.pickF rfl rfl) rfl ?_
        refine LW.p rfl rfl ?_
        refine LW.nil ?_
        replace h := Option.some.inj h
        subst h
        exact ⟨⟨rfl, trivial⟩, hS3.pick [] rfl rfl⟩
      replace h := bcF h hc9
      refine LW.gN (want_not rfl rfl hc9) rfl ?_
      refine LW.gN (want_not rfl rfl hc9) rfl ?_
      refine LW.gN (want_not rfl rfl hc9) rfl ?_
      refine LW.u (Pur.pickF rfl hc9) rfl ?_
      refine LW.p rfl rfl ?_
      refine LW.gN (want_not rfl rfl rfl) rfl ?_
      refine LW.gN (want_not rfl rfl rfl) rfl ?_
      refine LW.gN (want_not rfl rfl rfl) rfl ?_
      refine LW.u (Pur.pickF rfl rfl) rfl ?_
      refine LW.p rfl rfl ?_
      refine LW.gN (want_not rfl rfl rfl) rfl ?_
      refine LW.fresh (l := [(1, .pointer (some ⟨g1, 0, none⟩)), (26, .bool false), (27, undef)]) ⟨rfl, rfl, rfl, trivial⟩ (fun e => ?_)
      refine LW.gN (want_not rfl rfl rfl) rfl ?_
      refine LW.gN (want_not rfl rfl rfl) rfl ?_
      refine LW.u (Pur.pickF rfl rfl) rfl ?_
      refine LW.p rfl rfl ?_
      refine LW.gN (want_not rfl rfl rfl) rfl ?_
      refine LW.gN (want_not rfl rfl rfl) rfl ?_
      refine LW.gN (want_not rfl rfl rfl) rfl ?_
      refine LW.u (Pur.pickF rfl rfl) rfl ?_
      refine LW.p rfl rfl ?_
      refine LW.gN (want_not rfl rfl rfl) rfl ?_
      refine LW.gN (want_not rfl rfl rfl) rfl ?_
      refine LW.gN (want_not rfl rfl rfl) rfl ?_
      refine LW.u (Pur.pickF rfl rfl) rfl ?_
      refine LW.p rfl rfl ?_
      refine LW.gN (want_not rfl rfl rfl) rfl ?_
      refine LW.gN (want_not rfl rfl rfl) rfl ?_
      refine LW.gN (want_not rfl rfl rfl) rfl ?_
      refine LW.u (Pur.pickF rfl rfl) rfl ?_
      refine LW.p rfl rfl ?_
      refine LW.gN (want_not rfl rfl rfl) rfl ?_
      refine LW.gN (want_not rfl rfl rfl) rfl ?_
      refine LW.gN (want_not rfl rfl rfl) rfl ?_
      refine LW.u (Pur.pickF rfl rfl) rfl ?_
      refine LW.p rfl rfl ?_
      refine LW.gN (want_not rfl rfl rfl) rfl ?_
      refine LW.fresh (l := [(1, .pointer (some ⟨g1, 0, none⟩)), (51, .bool false), (52, undef)]) ⟨rfl, rfl, rfl, trivial⟩ (fun e => ?_)
      refine LW.gN (want_not rfl rfl rfl) rfl ?_
      refine LW.gN (want_not rfl rfl rfl) rfl ?_
      refine LW.gN (want_not rfl rfl rfl) rfl ?_
      refine LW.u (Pur.pickF rfl rfl) rfl ?_
      refine LW.p rfl rfl ?_
      refine LW.gN (want_not rfl rfl rfl) rfl ?_
      refine LW.gN (want_not rfl rfl rfl) rfl ?_
      refine LW.gN (want_not rfl rfl rfl) rfl ?_
      refine LW.gN (want_not rfl rfl rfl) rfl ?_
      refine LW.u (Pur.pickF rfl rfl) rfl ?_
      refine LW.p rfl rfl ?_
      refine LW.gN (want_not rfl rfl rfl) rfl ?_
      refine LW.gN (want_not rfl rfl rfl) rfl ?_
      refine LW.gN (want_not rfl rfl rfl) rfl ?_
      refine LW.gN (want_not rfl rfl rfl) rfl ?_
      refine LW.u (Pur.pickF rfl rfl) rfl ?_
      refine LW.p rfl rfl ?_
      refine LW.nil ?_
      replace h := Option.some.inj h
      subst h
      exact ⟨⟨rfl, trivial⟩, hS3.pick [] rfl rfl⟩
    intro e w19 hM
    obtain ⟨hE, hS4⟩ := hM
    obtain ⟨e, rfl⟩ := hE.out
    have h := h8
    show CW _ _ _ _ _ _
    refine CW.ret ?_
    cases h
    exact And.intro trivial ⟨_, Res.one (resOne.t rfl), rfl, hS4.pick [] rfl rfl⟩
  replace h := bcF h hc6
  refine CW.skip ?_
  show CW _ _ _ _ _ _
  refine CW.seq ?_
  refine CW.seq ?_
  obtain ⟨j20, hj20, h21⟩ := obind h
  refine CW.cut (fun e wb => En e [(1, .pointer (some ⟨g1, 0, none⟩)), (108, .bool j20)] ∧ St w0 [] wb [bx g1 123 [.int .i64 x0.gen, .int .i64 x0.kind, .int .i64 x0.box, .int .i64 x0.res, .int .i64 x0.til, .int .i64 x0.pages, .int .i64 x0.wait, .int .i64 x0.got, .int .i64 x0.ran, .bool x0.mark, .slice a0_10 x0.links.length c0_10, .slice a0_11 x0.data.length c0_11, .slice a0_12 x0.queue.length c0_12]]) ?_ ?_
  · have h := hj20
    refine CW.region ?_
    refine LW.u (Pur.fa fo123_1 rfl) rfl ?_
    refine LW.ldb hS3 0 rfl ag3 rfl rfl rfl ?_
    replace h := obind h
    obtain ⟨y22, hy22, h⟩ := h
    have q := W_s_l1In (w0 := w4) hy22
    refine LW.call pl81 rfl rfl ?_
    refine Ret.mono q ?_
    rintro _ w23 ⟨rfl, hs⟩
    have hS5 := hS3.add hs
    iterate 2 refine LW.p rfl rfl ?_
    rcases bcases (!y22) with hc24 | hc24
    · replace h := bcT h hc24
      refine LW.gN (want_not rfl rfl hc24) rfl ?_
      refine LW.gN (want_not rfl rfl hc24) rfl ?_
      refine LW.gN (want_not rfl rfl hc24) rfl ?_
      refine LW.gN (want_not rfl rfl hc24) rfl ?_
      refine LW.u (Pur.pickT rfl hc24) rfl ?_
      refine LW.p rfl rfl ?_
      refine LW.gN (want_not rfl rfl rfl) rfl ?_
      refine LW.gN (want_not rfl rfl rfl) rfl ?_
      refine LW.gN (want_not rfl rfl rfl) rfl ?_
      refine LW.gN (want_not rfl rfl rfl) rfl ?_
      refine LW.fresh (l := [(1, .pointer (some ⟨g1, 0, none⟩)), (79, .bool true), (83, undef)]) ⟨rfl, rfl, rfl, trivial⟩ (fun e => ?_)
      refine LW.u (Pur.pickT rfl rfl) rfl ?_
      refine LW.p rfl rfl ?_
      refine LW.gN (want_not rfl rfl rfl) rfl ?_
      refine LW.gN (want_not rfl rfl rfl) rfl ?_
      refine LW.gN (want_not rfl rfl rfl) rfl ?_
      refine LW.gN (want_not rfl rfl rfl) rfl ?_
      refine LW.u (Pur.pickT rfl rfl) rfl ?_
      refine LW.p rfl rfl ?_
      refine LW.gN (want_not rfl rfl rfl) rfl ?_
      refine LW.gN (want_not rfl rfl rfl) rfl ?_
      refine LW.gN (want_not rfl rfl rfl) rfl ?_
      refine LW.gN (want_not rfl rfl rfl) rfl ?_
      refine LW.u (Pur.pickT rfl rfl) rfl ?_
      refine LW.p rfl rfl ?_
      refine LW.gN (want_not rfl rfl rfl) rfl ?_
      refine LW.gN (want_not rfl rfl rfl) rfl ?_
      refine LW.gN (want_not rfl rfl rfl) rfl ?_
      refine LW.gN (want_not rfl rfl rfl) rfl ?_
      refine LW.u (Pur.pickT rfl rfl) rfl ?_
      refine LW.p rfl rfl ?_
      refine LW.gN (want_not rfl rfl rfl) rfl ?_
      refine LW.gN (want_not rfl rfl rfl) rfl ?_
      refine LW.gN (want_not rfl rfl rfl) rfl ?_
      refine LW.gN (want_not rfl rfl rfl) rfl ?_
      refine LW.u (Pur.pickT rfl rfl) rfl ?_
      refine LW.nil ?_
      replace h := Option.some.inj h
      subst h
      exact ⟨⟨rfl, rfl, trivial⟩, hS5.pick [0] rfl rfl⟩
    replace h := bcF h hc24
    refine LW.gY (want_of rfl rfl hc24) ?_
    refine LW.u (Pur.fa fo123_2 rfl) rfl ?_
    refine LW.gY (want_of rfl rfl hc24) ?_
    refine LW.ldb hS5 0 rfl ag3 rfl rfl rfl ?_
    replace h := obind h
    obtain ⟨y25, hy25, h⟩ := h
    have q := W_s_l1In (w0 := w23) hy25
    refine LW.gY (want_of rfl rfl hc24) ?_
    refine LW.call pl81 rfl rfl ?_
    refine Ret.mono q ?_
    rintro _ w26 ⟨rfl, hs⟩
    have hS6 := hS5.add hs
    refine LW.gY (want_of rfl rfl hc24) ?_
    refine LW.p rfl rfl ?_
    refine LW.u (Pur.pickF rfl hc24) rfl ?_
    refine LW.p rfl rfl ?_
    rcases bcases (!y25) with hc27 | hc27
    · replace h := bcT h hc27
      refine LW.gN (want_not rfl rfl hc27) rfl ?_
      refine LW.gN (want_not rfl rfl hc27) rfl ?_
      refine LW.gN (want_not rfl rfl hc27) rfl ?_
      refine LW.fresh (l := [(1, .pointer (some ⟨g1, 0, none⟩)), (79, .bool (!y25)), (82, undef)]) ⟨rfl, rfl, rfl, trivial⟩ (fun e => ?_)
      refine LW.gN (want_not rfl rfl hc27) rfl ?_
      refine LW.u (Pur.pickT rfl hc27) rfl ?_
      refine LW.p rfl rfl ?_
      refine LW.gN (want_not rfl rfl rfl) rfl ?_
      refine LW.gN (want_not rfl rfl rfl) rfl ?_
      refine LW.gN (want_not rfl rfl rfl) rfl ?_
      refine LW.gN (want_not rfl rfl rfl) rfl ?_
      refine LW.u (Pur.pickT rfl rfl) rfl ?_
      refine LW.p rfl rfl ?_
      refine LW.gN (want_not rfl rfl rfl) rfl ?_
      refine LW.gN (want_not rfl rfl rfl) rfl ?_
      refine LW.gN (want_not rfl rfl rfl) rfl ?_
      refine LW.gN (want_not rfl rfl rfl) rfl ?_
      refine LW.u (Pur.pickT rfl rfl) rfl ?_
      refine LW.p rfl rfl ?_
      refine LW.gN (want_not rfl rfl rfl) rfl ?_
      refine LW.gN (want_not rfl rfl rfl) rfl ?_
      refine LW.gN (want_not rfl rfl rfl) rfl ?_
      refine LW.gN (want_not rfl rfl rfl) rfl ?_
      refine LW.u (Pur.pickT rfl rfl) rfl ?_
      refine LW.p rfl rfl ?_
      refine LW.gN (want_not rfl rfl rfl) rfl ?_
      refine LW.gN (want_not rfl rfl rfl) rfl ?_
      refine LW.gN (want_not rfl rfl rfl) rfl ?_
      refine LW.gN (want_not rfl rfl rfl) rfl ?_
      refine LW.fresh (l := [(1, .pointer (some ⟨g1, 0, none⟩)), (103, .bool true), (107, undef)]) ⟨rfl, rfl, rfl, trivial⟩ (fun e => ?_)
      refine LW.u (Pur.pickT rfl rfl) rfl ?_
      refine LW.nil ?_
      replace h := Option.some.inj h
      subst h
      exact ⟨⟨rfl, rfl, trivial⟩, hS6.pick [0] rfl rfl⟩
    replace h := bcF h hc27
    refine LW.gY (want_of rfl rfl hc27) ?_
    refine LW.u (Pur.fa fo123_3 rfl) rfl ?_
    refine LW.gY (want_of rfl rfl hc27) ?_
    refine LW.ldb hS6 0 rfl ag3 rfl rfl rfl ?_
    replace h := obind h
    obtain ⟨y28, hy28, h⟩ := h
    have q := W_s_l6Res (w0 := w26) hy28
    refine LW.gY (want_of rfl rfl hc27) ?_
    refine LW.call pl181 rfl rfl ?_
    refine Ret.mono q ?_
    rintro _ w29 ⟨rfl, hs⟩
    have hS7 := hS6.add hs
    refine LW.fresh (l := [(1, .pointer (some ⟨g1, 0, none⟩)), (79, .bool (!y25)), (82, .bool y28)]) ⟨rfl, rfl, rfl, trivial⟩ (fun e => ?_)
    refine LW.gY (want_of rfl rfl hc27) ?_
    refine LW.p rfl rfl ?_
    refine LW.u (Pur.pickF rfl hc27) rfl ?_
    refine LW.p rfl rfl ?_
    rcases bcases (!y28) with hc30 | hc30
    · replace h := bcT h hc30
      refine LW.gN (want_not rfl rfl hc30) rfl ?_
      refine LW.gN (want_not rfl rfl hc30) rfl ?_
      refine LW.gN (want_not rfl rfl hc30) rfl ?_
      refine LW.gN (want_not rfl rfl hc30) rfl ?_
      refine LW.u (Pur.pickT rfl hc30) rfl ?_
      refine LW.p rfl rfl ?_
      refine LW.gN (want_not rfl rfl rfl) rfl ?_
      refine LW.gN (want_not rfl rfl rfl) rfl ?_
      refine LW.gN (want_not rfl rfl rfl) rfl ?_
      refine LW.gN (want_not rfl rfl rfl) rfl ?_
      refine LW.u (Pur.pickT rfl rfl) rfl ?_
      refine LW.p rfl rfl ?_
      refine LW.gN (want_not rfl rfl rfl) rfl ?_
      refine LW.gN (want_not rfl rfl rfl) rfl ?_
      refine LW.gN (want_not rfl rfl rfl) rfl ?_
      refine LW.gN (want_not rfl rfl rfl) rfl ?_
      refine LW.u (Pur.pickT rfl rfl) rfl ?_
      refine LW.p rfl rfl ?_
      refine LW.gN (want_not rfl rfl rfl) rfl ?_
      refine LW.gN (want_not rfl rfl rfl) rfl ?_
      refine LW.gN (want_not rfl rfl rfl) rfl ?_
      refine LW.fresh (l := [(1, .pointer (some ⟨g1, 0, none⟩)), (103, .bool true), (106, undef)]) ⟨rfl, rfl, rfl, trivial⟩ (fun e => ?_)
      refine LW.gN (want_not rfl rfl rfl) rfl ?_
      refine LW.u (Pur.pickT rfl rfl) rfl ?_
      refine LW.nil ?_
      replace h := Option.some.inj h
      subst h
      exact ⟨⟨rfl, rfl, trivial⟩, hS7.pick [0] rfl rfl⟩
    replace h := bcF h hc30
    refine LW.gY (want_of rfl rfl hc30) ?_
    refine LW.u (Pur.fa fo123_4 rfl) rfl ?_
    refine LW.gY (want_of rfl rfl hc30) ?_
    refine LW.ldb hS7 0 rfl ag3 rfl rfl rfl ?_
    replace h := obind h
    obtain ⟨y31, hy31, h⟩ := h
    have q := W_s_l1In (w0 := w29) hy31
    refine LW.gY (want_of rfl rfl hc30) ?_
    refine LW.call pl81 rfl rfl ?_
    refine Ret.mono q ?_
    rintro _ w32 ⟨rfl, hs⟩
    have hS8 := hS7.add hs
    refine LW.gY (want_of rfl rfl hc30) ?_
    refine LW.p rfl rfl ?_
    refine LW.u (Pur.pickF rfl hc30) rfl ?_
    refine LW.p rfl rfl ?_
    rcases bcases (!y31) with hc33 | hc33
    · replace h := bcT h hc33
      refine LW.gN (want_not rfl rfl hc33) rfl ?_
      refine LW.gN (want_not rfl rfl hc33) rfl ?_
      refine LW.gN (want_not rfl rfl hc33) rfl ?_
      refine LW.gN (want_not rfl rfl hc33) rfl ?_
      refine LW.u (Pur.pickT rfl hc33) rfl ?_
      refine LW.p rfl rfl ?_
      refine LW.gN (want_not rfl rfl rfl) rfl ?_
      refine LW.gN (want_not rfl rfl rfl) rfl ?_
      refine LW.gN (want_not rfl rfl rfl) rfl ?_
      refine LW.gN (want_not rfl rfl rfl) rfl ?_
      refine LW.u (Pur.pickT rfl rfl) rfl ?_
      refine LW.p rfl rfl ?_
      refine LW.gN (want_not rfl rfl rfl) rfl ?_
      refine LW.gN (want_not rfl rfl rfl) rfl ?_
      refine LW.fresh (l := [(1, .pointer (some ⟨g1, 0, none⟩)), (103, .bool true), (105, undef)]) ⟨rfl, rfl, rfl, trivial⟩ (fun e => ?_)
      refine LW.gN (want_not rfl rfl rfl) rfl ?_
      refine LW.gN (want_not rfl rfl rfl) rfl ?_
      refine LW.u (Pur.pickT rfl rfl) rfl ?_
      refine LW.nil ?_
      replace h := Option.some.inj h
      subst h
      exact ⟨⟨rfl, rfl, trivial⟩, hS8.pick [0] rfl rfl⟩
    replace h := bcF h hc33
    refine LW.gY (want_of rfl rfl hc33) ?_
    refine LW.u (Pur.fa fo123_5 rfl) rfl ?_
    refine LW.gY (want_of rfl rfl hc33) ?_
    refine LW.ldb hS8 0 rfl ag3 rfl rfl rfl ?_
    replace h := obind h
    obtain ⟨y34, hy34, h⟩ := h
    have q := W_s_l1In (w0 := w32) hy34
    refine LW.gY (want_of rfl rfl hc33) ?_
    refine LW.call pl81 rfl rfl ?_
    refine Ret.mono q ?_
    rintro _ w35 ⟨rfl, hs⟩
    have hS9 := hS8.add hs
    refine LW.gY (want_of rfl rfl hc33) ?_
    refine LW.p rfl rfl ?_
    refine LW.u (Pur.pickF rfl hc33) rfl ?_
    refine LW.p rfl rfl ?_
    rcases bcases (!y34) with hc36 | hc36
    · replace h := bcT h hc36
      refine LW.gN (want_not rfl rfl hc36) rfl ?_
      refine LW.gN (want_not rfl rfl hc36) rfl ?_
      refine LW.gN (want_not rfl rfl hc36) rfl ?_
      refine LW.gN (want_not rfl rfl hc36) rfl ?_
      refine LW.u (Pur.pickT rfl hc36) rfl ?_
      refine LW.p rfl rfl ?_
      refine LW.gN (want_not rfl rfl rfl) rfl ?_
      refine LW.fresh (l := [(1, .pointer (some ⟨g1, 0, none⟩)), (103, .bool true), (104, undef)]) ⟨rfl, rfl, rfl, trivial⟩ (fun e => ?_)
      refine LW.gN (want_not rfl rfl rfl) rfl ?_
      refine LW.gN (want_not rfl rfl rfl) rfl ?_
      refine LW.gN (want_not rfl rfl rfl) rfl ?_
      refine LW.u (Pur.pickT rfl rfl) rfl ?_
      refine LW.nil ?_
      replace h := Option.some.inj h
      subst h
      exact ⟨⟨rfl, rfl, trivial⟩, hS9.pick [0] rfl rfl⟩
    replace h := bcF h hc36
    refine LW.gY (want_of rfl rfl hc36) ?_
    refine LW.u (Pur.fa fo123_10 rfl) rfl ?_
    refine LW.gY (want_of rfl rfl hc36) ?_
    refine LW.ldb hS9 0 rfl ag24 rfl rfl rfl ?_
    refine LW.gY (want_of rfl rfl hc36) ?_
    refine LW.u (Pur.len Try.underlying24 rfl) rfl ?_
    refine LW.gY (want_of rfl rfl hc36) ?_
    refine LW.p rfl rfl ?_
    refine LW.u (Pur.pickF rfl hc36) rfl ?_
    refine LW.p rfl rfl ?_
    rcases bcases ((x0.links.length : Int) != 2) with hc37 | hc37
    · replace h := bcT h hc37
      refine LW.fresh (l := [(1, .pointer (some ⟨g1, 0, none⟩)), (103, .bool ((x0.links.length : Int) != 2))]) ⟨rfl, rfl, trivial⟩ (fun e => ?_)
      refine LW.gN (want_not rfl rfl hc37) rfl ?_
      refine LW.gN (want_not rfl rfl hc37) rfl ?_
      refine LW.gN (want_not rfl rfl hc37) rfl ?_
      refine LW.gN (want_not rfl rfl hc37) rfl ?_
      refine LW.u (Pur.pickT rfl hc37) rfl ?_
      refine LW.nil ?_
      replace h := Option.some.inj h
      subst h
      exact ⟨⟨rfl, rfl, trivial⟩, hS9.pick [0] rfl rfl⟩
    replace h := bcF h hc37
    refine LW.fresh (l := [(1, .pointer (some ⟨g1, 0, none⟩)), (103, .bool ((x0.links.length : Int) != 2))]) ⟨rfl, rfl, trivial⟩ (fun e => ?_)
    refine LW.gY (want_of rfl rfl hc37) ?_
    refine LW.u (Pur.fa fo123_8 rfl) rfl ?_
    refine LW.gY (want_of rfl rfl hc37) ?_
    refine LW.ldb hS9 0 rfl ag3 rfl rfl rfl ?_
    replace h := obind h
    obtain ⟨y38, hy38, h⟩ := h
    have q := W_s_l1In (w0 := w35) hy38
    refine LW.gY (want_of rfl rfl hc37) ?_
    refine LW.call pl81 rfl rfl ?_
    refine Ret.mono q ?_
    rintro _ w39 ⟨rfl, hs⟩
    have hS10 := hS9.add hs
    refine LW.gY (want_of rfl rfl hc37) ?_
    refine LW.p rfl rfl ?_
    refine LW.u (Pur.pickF rfl hc37) rfl ?_
    refine LW.nil ?_
    replace h := Option.some.inj h
    subst h
    exact ⟨⟨rfl, rfl, trivial⟩, hS10.pick [0] rfl rfl⟩
  intro e w40 hM
  obtain ⟨hE, hS11⟩ := hM
  obtain ⟨e, rfl⟩ := hE.out
  have h := h21
  show CW _ _ _ _ _ _
  refine CW.cond rfl (fun hc41 => ?_) (fun hc41 => ?_)
  · replace h := bcT h hc41
    refine CW.seq ?_
    refine CW.region ?_
    refine LW.p rfl rfl ?_
    refine LW.nil ?_
    show CW _ _ _ _ _ _
    refine CW.ret ?_
    cases h
    exact And.intro trivial ⟨_, Res.one (resOne.t rfl), rfl, hS11.pick [] rfl rfl⟩
  replace h := bcF h hc41
  refine CW.skip ?_
  show CW _ _ _ _ _ _
  refine CW.seq ?_
  refine CW.seq ?_
  refine CW.region ?_
  refine LW.p rfl rfl ?_
  refine LW.nil ?_
  show CW _ _ _ _ _ _
  refine CW.block ?_
  obtain ⟨o57, ho57, h58⟩ := obind h
  refine CW.mono (CW.iter (σ := Int) (ρ := Int ⊕ Bool) (fun s42 e wb => En e [(1, .pointer (some ⟨g1, 0, none⟩)), (3, .int .i64 s42)] ∧ St w0 [] wb [bx g1 123 [.int .i64 x0.gen, .int .i64 x0.kind, .int .i64 x0.box, .int .i64 x0.res, .int .i64 x0.til, .int .i64 x0.pages, .int .i64 x0.wait, .int .i64 x0.got, .int .i64 x0.ran, .bool x0.mark, .slice a0_10 x0.links.length c0_10, .slice a0_11 x0.data.length c0_11, .slice a0_12 x0.queue.length c0_12]]) (fun o x e wb => match o with | .inl s42 => x = .exit 0 ∧ En e [(1, .pointer (some ⟨g1, 0, none⟩))] ∧ St w0 [] wb [bx g1 123 [.int .i64 x0.gen, .int .i64 x0.kind, .int .i64 x0.box, .int .i64 x0.res, .int .i64 x0.til, .int .i64 x0.pages, .int .i64 x0.wait, .int .i64 x0.got, .int .i64 x0.ran, .bool x0.mark, .slice a0_10 x0.links.length c0_10, .slice a0_11 x0.data.length c0_11, .slice a0_12 x0.queue.length c0_12]] | .inr r => x = .ret ∧ ∃ u, u = r ∧ ∃ v, Res Try.prog Try.f190.results e wb v ∧ v = .bool u ∧ St w0 [] wb []) ?_ N 0 _ _ _ ⟨⟨rfl, rfl, trivial⟩, hS11.pick [0] rfl rfl⟩ ho57) ?_
  · intro s42 e w43 o hM h
    obtain ⟨hE, hS12⟩ := hM
    obtain ⟨e, rfl⟩ := hE.out
    refine CW.seq ?_
    refine CW.seq ?_
    refine CW.region ?_
    iterate 2 refine LW.p rfl rfl ?_
    refine LW.nil ?_
    show CW _ _ _ _ _ _
    refine CW.cond rfl (fun hc44 => ?_) (fun hc44 => ?_)
    · replace h := bcT h hc44
      refine CW.skip ?_
      show CW _ _ _ _ _ _
      refine CW.seq ?_
      refine CW.block ?_
      refine CW.seq ?_
      refine CW.region ?_
      refine LW.u (Pur.fa fo123_10 rfl) rfl ?_
      refine LW.ldb hS12 0 rfl ag24 rfl rfl rfl ?_
      refine LW.p rfl rfl ?_
      replace h := obind h
      obtain ⟨y45, hy45, h⟩ := h
      obtain ⟨b48, o49, cs50, hae, hb53, hp46, hq47, hd51, hk52⟩ := hr0_10.idx hy45
      subst hae
      obtain rfl := hd51
      refine LW.u (Pur.ix Try.underlying24 sz3 rfl rfl hp46 hq47) rfl ?_
      refine LW.l (Ldr.old w0 ag3 rfl (hk52 0 _ rfl)) (hS12.same _ hb53.1 hb53.2) rfl ?_
      replace h := obind h
      obtain ⟨y54, hy54, h⟩ := h
      have q := W_s_l1In (w0 := w43) hy54
      refine LW.call pl81 rfl rfl ?_
      refine Ret.mono q ?_
      rintro _ w55 ⟨rfl, hs⟩
      have hS13 := hS12.add hs
      refine LW.p rfl rfl ?_
      refine LW.nil ?_
      show CW _ _ _ _ _ _
      refine CW.fresh (l := [(1, .pointer (some ⟨g1, 0, none⟩)), (3, .int .i64 s42), (119, .bool (!y54))]) ⟨rfl, rfl, rfl, trivial⟩ (fun e => ?_)
      refine CW.cond rfl (fun hc56 => ?_) (fun hc56 => ?_)
      · replace h := bcT h hc56
        refine CW.seq ?_
        refine CW.region ?_
        refine LW.p rfl rfl ?_
        refine LW.nil ?_
        show CW _ _ _ _ _ _
        refine CW.ret ?_
        replace h := Option.some.inj h
        subst h
        exact ⟨trivial, rfl, _, rfl, ⟨_, Res.one (resOne.t rfl), rfl, hS13.pick [] rfl rfl⟩⟩
      replace h := bcF h hc56
      refine CW.skip ?_
      show CW _ _ _ _ _ _
      refine CW.region ?_
      iterate 3 refine LW.p rfl rfl ?_
      refine LW.nil ?_
      replace h := Option.some.inj h
      subst h
      exact ⟨rfl, ⟨⟨rfl, rfl, trivial⟩, hS13.pick [0] rfl rfl⟩⟩
    replace h := bcF h hc44
    refine CW.exit ?_
    replace h := Option.some.inj h
    subst h
    exact ⟨trivial, rfl, ⟨⟨rfl, trivial⟩, hS12.pick [0] rfl rfl⟩⟩
  intro x e w59 hM
  rcases o57 with o57 | r150
  · obtain ⟨rfl, hM⟩ := hM
    obtain ⟨hE, hS14⟩ := hM
    obtain ⟨e, rfl⟩ := hE.out
    have h := h58
    show CW _ _ _ _ _ _
    refine CW.seq ?_
    refine CW.seq ?_
    obtain ⟨j60, hj60, h61⟩ := obind h
    refine CW.cut (fun e wb => En e [(1, .pointer (some ⟨g1, 0, none⟩)), (165, .bool j60)] ∧ St w0 [] wb [bx g1 123 [.int .i64 x0.gen, .int .i64 x0.kind, .int .i64 x0.box, .int .i64 x0.res, .int .i64 x0.til, .int .i64 x0.pages, .int .i64 x0.wait, .int .i64 x0.got, .int .i64 x0.ran, .bool x0.mark, .slice a0_10 x0.links.length c0_10, .slice a0_11 x0.data.length c0_11, .slice a0_12 x0.queue.length c0_12]]) ?_ ?_
    · have h := hj60
      refine CW.region ?_
      refine LW.u (Pur.fa fo123_1 rfl) rfl ?_
      refine LW.ldb hS14 0 rfl ag3 rfl rfl rfl ?_
      iterate 2 refine LW.p rfl rfl ?_
      rcases bcases (x0.kind != 4) with hc62 | hc62
      · replace h := bcT h hc62
        refine LW.gY (want_of rfl rfl hc62) ?_
        refine LW.u (Pur.fa fo123_6 rfl) rfl ?_
        refine LW.gY (want_of rfl rfl hc62) ?_
        refine LW.ldb hS14 0 rfl ag3 rfl rfl rfl ?_
        refine LW.gY (want_of rfl rfl hc62) ?_
        refine LW.p rfl rfl ?_
        refine LW.gY (want_of rfl rfl hc62) ?_
        refine LW.p rfl rfl ?_
        rcases bcases (x0.wait != 0) with hc63 | hc63
        · replace h := bcT h hc63
          refine LW.gN (want_not rfl rfl hc63) rfl ?_
          refine LW.gN (want_not rfl rfl hc63) rfl ?_
          refine LW.gN (want_not rfl rfl hc63) rfl ?_
          refine LW.gY (want_of rfl rfl hc62) ?_
          refine LW.u (Pur.pickT rfl hc63) rfl ?_
          refine LW.gY (want_of rfl rfl hc62) ?_
          refine LW.p rfl rfl ?_
          refine LW.fresh (l := [(1, .pointer (some ⟨g1, 0, none⟩)), (123, .bool (x0.kind != 4)), (132, .bool true)]) ⟨rfl, rfl, rfl, trivial⟩ (fun e => ?_)
          refine LW.gN (want_not rfl rfl rfl) rfl ?_
          refine LW.gN (want_not rfl rfl rfl) rfl ?_
          refine LW.gN (want_not rfl rfl rfl) rfl ?_
          refine LW.gY (want_of rfl rfl hc62) ?_
          refine LW.u (Pur.pickT rfl rfl) rfl ?_
          refine LW.u (Pur.pickT rfl hc62) rfl ?_
          refine LW.p rfl rfl ?_
          refine LW.gN (want_not rfl rfl rfl) rfl ?_
          refine LW.gN (want_not rfl rfl rfl) rfl ?_
          refine LW.gN (want_not rfl rfl rfl) rfl ?_
          refine LW.gN (want_not rfl rfl rfl) rfl ?_
          refine LW.gN (want_undef rfl rfl) rfl ?_
          refine LW.gN (want_undef rfl rfl) rfl ?_
          refine LW.gN (want_undef rfl rfl) rfl ?_
          refine LW.gN (want_undef rfl rfl) rfl ?_
          refine LW.gN (want_undef rfl rfl) rfl ?_
          refine LW.gN (want_undef rfl rfl) rfl ?_
          refine LW.gN (want_undef rfl rfl) rfl ?_
          refine LW.gN (want_undef rfl rfl) rfl ?_
          refine LW.gN (want_undef rfl rfl) rfl ?_
          refine LW.gN (want_undef rfl rfl) rfl ?_
          refine LW.gN (want_undef rfl rfl) rfl ?_
          refine LW.gN (want_undef rfl rfl) rfl ?_
          refine LW.gN (want_undef rfl rfl) rfl ?_
          refine LW.gN (want_undef rfl rfl) rfl ?_
          refine LW.gN (want_undef rfl rfl) rfl ?_
          refine LW.fresh (l := [(1, .pointer (some ⟨g1, 0, none⟩)), (138, .bool true), (142, undef), (157, undef)]) ⟨rfl, rfl, rfl, rfl, trivial⟩ (fun e => ?_)
          refine LW.gN (want_undef rfl rfl) rfl ?_
          refine LW.gN (want_undef rfl rfl) rfl ?_
          refine LW.gN (want_undef rfl rfl) rfl ?_
          refine LW.gN (want_undef rfl rfl) rfl ?_
          refine LW.gN (want_undef rfl rfl) rfl ?_
          refine LW.gN (want_undef rfl rfl) rfl ?_
          refine LW.gN (want_not rfl rfl rfl) rfl ?_
          refine LW.u (Pur.pickT rfl rfl) rfl ?_
          refine LW.nil ?_
          replace h := Option.some.inj h
          subst h
          exact ⟨⟨rfl, rfl, trivial⟩, hS14.pick [0] rfl rfl⟩
        replace h := bcF h hc63
        refine LW.gY (want_of rfl rfl hc63) ?_
        refine LW.u (Pur.fa fo123_7 rfl) rfl ?_
        refine LW.gY (want_of rfl rfl hc63) ?_
        refine LW.ldb hS14 0 rfl ag3 rfl rfl rfl ?_
        refine LW.gY (want_of rfl rfl hc63) ?_
        refine LW.p rfl rfl ?_
        refine LW.gY (want_of rfl rfl hc62) ?_
        refine LW.u (Pur.pickF rfl hc63) rfl ?_
        refine LW.gY (want_of rfl rfl hc62) ?_
        refine LW.p rfl rfl ?_
        refine LW.fresh (l := [(1, .pointer (some ⟨g1, 0, none⟩)), (123, .bool (x0.kind != 4)), (132, .bool (x0.got != 0))]) ⟨rfl, rfl, rfl, trivial⟩ (fun e => ?_)
        rcases bcases (x0.got != 0) with hc64 | hc64
        · replace h := bcT h hc64
          refine LW.gN (want_not rfl rfl hc64) rfl ?_
          refine LW.gN (want_not rfl rfl hc64) rfl ?_
          refine LW.gN (want_not rfl rfl hc64) rfl ?_
          refine LW.gY (want_of rfl rfl hc62) ?_
          refine LW.u (Pur.pickT rfl hc64) rfl ?_
          refine LW.u (Pur.pickT rfl hc62) rfl ?_
          refine LW.p rfl rfl ?_
          refine LW.gN (want_not rfl rfl rfl) rfl ?_
          refine LW.gN (want_not rfl rfl rfl) rfl ?_
          refine LW.gN (want_not rfl rfl rfl) rfl ?_
          refine LW.gN (want_not rfl rfl rfl) rfl ?_
          refine LW.gN (want_undef rfl rfl) rfl ?_
          refine LW.gN (want_undef rfl rfl) rfl ?_
          refine LW.gN (want_undef rfl rfl) rfl ?_
          refine LW.gN (want_undef rfl rfl) rfl ?_
          refine LW.gN (want_undef rfl rfl) rfl ?_
          refine LW.gN (want_undef rfl rfl) rfl ?_
          refine LW.gN (want_undef rfl rfl) rfl ?_
          refine LW.gN (want_undef rfl rfl) rfl ?_
          refine LW.gN (want_undef rfl rfl) rfl ?_
          refine LW.gN (want_undef rfl rfl) rfl ?_
          refine LW.gN (want_undef rfl rfl) rfl ?_
          refine LW.gN (want_undef rfl rfl) rfl ?_
          refine LW.gN (want_undef rfl rfl) rfl ?_
          refine LW.gN (want_undef rfl rfl) rfl ?_
          refine LW.fresh (l := [(1, .pointer (some ⟨g1, 0, none⟩)), (138, .bool true), (142, undef), (146, undef), (156, undef)]) ⟨rfl, rfl, rfl, rfl, rfl, trivial⟩ (fun e => ?_)
          refine LW.gN (want_undef rfl rfl) rfl ?_
          refine LW.gN (want_undef rfl rfl) rfl ?_
          refine LW.gN (want_undef rfl rfl) rfl ?_
          refine LW.gN (want_undef rfl rfl) rfl ?_
          refine LW.gN (want_undef rfl rfl) rfl ?_
          refine LW.gN (want_undef rfl rfl) rfl ?_
          refine LW.gN (want_undef rfl rfl) rfl ?_
          refine LW.gN (want_not rfl rfl rfl) rfl ?_
          refine LW.u (Pur.pickT rfl rfl) rfl ?_
          refine LW.nil ?_
          replace h := Option.some.inj h
          subst h
          exact ⟨⟨rfl, rfl, trivial⟩, hS14.pick [0] rfl rfl⟩
        replace h := bcF h hc64
        refine LW.gY (want_of rfl rfl hc64) ?_
        refine LW.u (Pur.fa fo123_8 rfl) rfl ?_
        refine LW.gY (want_of rfl rfl hc64) ?_
        refine LW.ldb hS14 0 rfl ag3 rfl rfl rfl ?_
        refine LW.gY (want_of rfl rfl hc64) ?_
        refine LW.p rfl rfl ?_
        refine LW.gY (want_of rfl rfl hc62) ?_
        refine LW.u (Pur.pickF rfl hc64) rfl ?_
        refine LW.u (Pur.pickT rfl hc62) rfl ?_
        refine LW.p rfl rfl ?_
        rcases bcases (x0.ran != 0) with hc65 | hc65
        · replace h := bcT h hc65
          refine LW.gN (want_not rfl rfl hc65) rfl ?_
          refine LW.gN (want_not rfl rfl hc65) rfl ?_
          refine LW.gN (want_not rfl rfl hc65) rfl ?_
          refine LW.gN (want_not rfl rfl hc65) rfl ?_
          refine LW.gN (want_undef rfl rfl) rfl ?_
          refine LW.gN (want_undef rfl rfl) rfl ?_
          refine LW.gN (want_undef rfl rfl) rfl ?_
          refine LW.gN (want_undef rfl rfl) rfl ?_
          refine LW.gN (want_undef rfl rfl) rfl ?_
          refine LW.gN (want_undef rfl rfl) rfl ?_
          refine LW.gN (want_undef rfl rfl) rfl ?_
          refine LW.gN (want_undef rfl rfl) rfl ?_
          refine LW.gN (want_undef rfl rfl) rfl ?_
          refine LW.gN (want_undef rfl rfl) rfl ?_
          refine LW.gN (want_undef rfl rfl) rfl ?_
          refine LW.gN (want_undef rfl rfl) rfl ?_
          refine LW.gN (want_undef rfl rfl) rfl ?_
          refine LW.fresh (l := [(1, .pointer (some ⟨g1, 0, none⟩)), (138, .bool (x0.ran != 0)), (142, undef), (146, undef), (150, undef), (155, undef)]) ⟨rfl, rfl, rfl, rfl, rfl, rfl, trivial⟩ (fun e => ?_)
          refine LW.gN (want_undef rfl rfl) rfl ?_
          refine LW.gN (want_undef rfl rfl) rfl ?_
          refine LW.gN (want_undef rfl rfl) rfl ?_
          refine LW.gN (want_undef rfl rfl) rfl ?_
          refine LW.gN (want_undef rfl rfl) rfl ?_
          refine LW.gN (want_undef rfl rfl) rfl ?_
          refine LW.gN (want_undef rfl rfl) rfl ?_
          refine LW.gN (want_undef rfl rfl) rfl ?_
          refine LW.gN (want_not rfl rfl hc65) rfl ?_
          refine LW.u (Pur.pickT rfl hc65) rfl ?_
          refine LW.nil ?_
          replace h := Option.some.inj h
          subst h
          exact ⟨⟨rfl, rfl, trivial⟩, hS14.pick [0] rfl rfl⟩
        replace h := bcF h hc65
        refine LW.gY (want_of rfl rfl hc65) ?_
        refine LW.u (Pur.fa fo123_1 rfl) rfl ?_
        refine LW.gY (want_of rfl rfl hc65) ?_
        refine LW.ldb hS14 0 rfl ag3 rfl rfl rfl ?_
        refine LW.gY (want_of rfl rfl hc65) ?_
        refine LW.p rfl rfl ?_
        refine LW.gY (want_of rfl rfl hc65) ?_
        refine LW.p rfl rfl ?_
        rcases bcases (x0.kind == 4) with hc66 | hc66
        · replace h := bcT h hc66
          refine LW.gY (want_of rfl rfl hc66) ?_
          refine LW.u (Pur.fa fo123_6 rfl) rfl ?_
          refine LW.gY (want_of rfl rfl hc66) ?_
          refine LW.ldb hS14 0 rfl ag3 rfl rfl rfl ?_
          refine LW.gY (want_of rfl rfl hc66) ?_
          refine LW.p rfl rfl ?_
          refine LW.gY (want_of rfl rfl hc66) ?_
          refine LW.p rfl rfl ?_
          rcases bcases (decide (x0.wait < 0)) with hc67 | hc67
          · replace h := bcT h hc67
            refine LW.gN (want_not rfl rfl hc67) rfl ?_
            refine LW.gN (want_not rfl rfl hc67) rfl ?_
            refine LW.gN (want_not rfl rfl hc67) rfl ?_
            refine LW.gN (want_not rfl rfl hc67) rfl ?_
            refine LW.gN (want_undef rfl rfl) rfl ?_
            refine LW.gN (want_undef rfl rfl) rfl ?_
            refine LW.gN (want_undef rfl rfl) rfl ?_
            refine LW.fresh (l := [(1, .pointer (some ⟨g1, 0, none⟩)), (138, .bool (x0.ran != 0)), (142, .bool (x0.kind == 4)), (146, .bool (decide (x0.wait < 0))), (150, undef), (153, undef)]) ⟨rfl, rfl, rfl, rfl, rfl, rfl, trivial⟩ (fun e => ?_)
            refine LW.gN (want_undef rfl rfl) rfl ?_
            refine LW.gN (want_undef rfl rfl) rfl ?_
            refine LW.gN (want_not rfl rfl hc67) rfl ?_
            refine LW.gY (want_of rfl rfl hc66) ?_
            refine LW.u (Pur.pickT rfl hc67) rfl ?_
            refine LW.gY (want_of rfl rfl hc66) ?_
            refine LW.p rfl rfl ?_
            refine LW.gN (want_not rfl rfl rfl) rfl ?_
            refine LW.gN (want_not rfl rfl rfl) rfl ?_
            refine LW.gN (want_not rfl rfl rfl) rfl ?_
            refine LW.gN (want_not rfl rfl rfl) rfl ?_
            refine LW.gY (want_of rfl rfl hc66) ?_
            refine LW.u (Pur.pickT rfl rfl) rfl ?_
            refine LW.gY (want_of rfl rfl hc65) ?_
            refine LW.u (Pur.pickT rfl hc66) rfl ?_
            refine LW.u (Pur.pickF rfl hc65) rfl ?_
            refine LW.nil ?_
            replace h := Option.some.inj h
            subst h
            exact ⟨⟨rfl, rfl, trivial⟩, hS14.pick [0] rfl rfl⟩
          replace h := bcF h hc67
          refine LW.gY (want_of rfl rfl hc67) ?_
          refine LW.u (Pur.fa fo123_6 rfl) rfl ?_
          refine LW.gY (want_of rfl rfl hc67) ?_
          refine LW.ldb hS14 0 rfl ag3 rfl rfl rfl ?_
          refine LW.gY (want_of rfl rfl hc67) ?_
          refine LW.p rfl rfl ?_
          refine LW.gY (want_of rfl rfl hc67) ?_
          refine LW.p rfl rfl ?_
          rcases bcases (decide (x0.wait > 0)) with hc68 | hc68
          · replace h := bcT h hc68
            refine LW.gY (want_of rfl rfl hc68) ?_
            refine LW.u (Pur.fa fo123_6 rfl) rfl ?_
            refine LW.gY (want_of rfl rfl hc68) ?_
            refine LW.ldb hS14 0 rfl ag3 rfl rfl rfl ?_
            refine LW.fresh (l := [(1, .pointer (some ⟨g1, 0, none⟩)), (138, .bool (x0.ran != 0)), (142, .bool (x0.kind == 4)), (146, .bool (decide (x0.wait < 0))), (150, .bool (decide (x0.wait > 0))), (152, .int .i64 x0.wait)]) ⟨rfl, rfl, rfl, rfl, rfl, rfl, trivial⟩ (fun e => ?_)
            refine LW.gY (want_of rfl rfl hc68) ?_
            refine LW.p rfl rfl ?_
            replace h := obind h
            obtain ⟨y69, hy69, h⟩ := h
            have q := W_s_l8Handle (w0 := w59) hy69
            refine LW.gY (want_of rfl rfl hc68) ?_
            refine LW.call pl198 rfl rfl ?_
            refine Ret.mono q ?_
            rintro _ w70 ⟨rfl, hs⟩
            have hS15 := hS14.add hs
            refine LW.gY (want_of rfl rfl hc68) ?_
            refine LW.p rfl rfl ?_
            refine LW.gY (want_of rfl rfl hc67) ?_
            refine LW.u (Pur.pickT rfl hc68) rfl ?_
            refine LW.gY (want_of rfl rfl hc66) ?_
            refine LW.u (Pur.pickF rfl hc67) rfl ?_
            refine LW.gY (want_of rfl rfl hc66) ?_
            refine LW.p rfl rfl ?_
            rcases bcases (!y69) with hc71 | hc71
            · replace h := bcT h hc71
              refine LW.gN (want_not rfl rfl hc71) rfl ?_
              refine LW.gN (want_not rfl rfl hc71) rfl ?_
              refine LW.gN (want_not rfl rfl hc71) rfl ?_
              refine LW.gN (want_not rfl rfl hc71) rfl ?_
              refine LW.gY (want_of rfl rfl hc66) ?_
              refine LW.u (Pur.pickT rfl hc71) rfl ?_
              refine LW.gY (want_of rfl rfl hc65) ?_
              refine LW.u (Pur.pickT rfl hc66) rfl ?_
              refine LW.u (Pur.pickF rfl hc65) rfl ?_
              refine LW.nil ?_
              replace h := Option.some.inj h
              subst h
              exact ⟨⟨rfl, rfl, trivial⟩, hS15.pick [0] rfl rfl⟩
            replace h := bcF h hc71
            refine LW.gY (want_of rfl rfl hc71) ?_
            refine LW.u (Pur.fa fo123_7 rfl) rfl ?_
            refine LW.gY (want_of rfl rfl hc71) ?_
            refine LW.ldb hS15 0 rfl ag3 rfl rfl rfl ?_
            replace h := obind h
            obtain ⟨y72, hy72, h⟩ := h
            have q := W_s_l1In (w0 := w70) hy72
            refine LW.gY (want_of rfl rfl hc71) ?_
            refine LW.call pl81 rfl rfl ?_
            refine Ret.mono q ?_
            rintro _ w73 ⟨rfl, hs⟩
            have hS16 := hS15.add hs
            refine LW.gY (want_of rfl rfl hc71) ?_
            refine LW.p rfl rfl ?_
            refine LW.gY (want_of rfl rfl hc66) ?_
            refine LW.u (Pur.pickF rfl hc71) rfl ?_
            refine LW.gY (want_of rfl rfl hc65) ?_
            refine LW.u (Pur.pickT rfl hc66) rfl ?_
            refine LW.u (Pur.pickF rfl hc65) rfl ?_
            refine LW.nil ?_
            replace h := Option.some.inj h
            subst h
            exact ⟨⟨rfl, rfl, trivial⟩, hS16.pick [0] rfl rfl⟩
          replace h := bcF h hc68
          refine LW.gN (want_not rfl rfl hc68) rfl ?_
          refine LW.gN (want_not rfl rfl hc68) rfl ?_
          refine LW.fresh (l := [(1, .pointer (some ⟨g1, 0, none⟩)), (138, .bool (x0.ran != 0)), (142, .bool (x0.kind == 4)), (146, .bool (decide (x0.wait < 0))), (150, .bool (decide (x0.wait > 0))), (152, undef)]) ⟨rfl, rfl, rfl, rfl, rfl, rfl, trivial⟩ (fun e => ?_)
          refine LW.gN (want_not rfl rfl hc68) rfl ?_
          refine LW.gN (want_not rfl rfl hc68) rfl ?_
          refine LW.gN (want_not rfl rfl hc68) rfl ?_
          refine LW.gY (want_of rfl rfl hc67) ?_
          refine LW.u (Pur.pickF rfl hc68) rfl ?_
          refine LW.gY (want_of rfl rfl hc66) ?_
          refine LW.u (Pur.pickF rfl hc67) rfl ?_
          refine LW.gY (want_of rfl rfl hc66) ?_
          refine LW.p rfl rfl ?_
          refine LW.gY (want_of rfl rfl rfl) ?_
          refine LW.u (Pur.fa fo123_7 rfl) rfl ?_
          refine LW.gY (want_of rfl rfl rfl) ?_
          refine LW.ldb hS14 0 rfl ag3 rfl rfl rfl ?_
          replace h := obind h
          obtain ⟨y74, hy74, h⟩ := h
          have q := W_s_l1In (w0 := w59) hy74
          refine LW.gY (want_of rfl rfl rfl) ?_
          refine LW.call pl81 rfl rfl ?_
          refine Ret.mono q ?_
          rintro _ w75 ⟨rfl, hs⟩
          have hS17 := hS14.add hs
          refine LW.gY (want_of rfl rfl rfl) ?_
          refine LW.p rfl rfl ?_
          refine LW.gY (want_of rfl rfl hc66) ?_
          refine LW.u (Pur.pickF rfl rfl) rfl ?_
          refine LW.gY (want_of rfl rfl hc65) ?_
          refine LW.u (Pur.pickT rfl hc66) rfl ?_
          refine LW.u (Pur.pickF rfl hc65) rfl ?_
          refine LW.nil ?_
          replace h := Option.some.inj h
          subst h
          exact ⟨⟨rfl, rfl, trivial⟩, hS17.pick [0] rfl rfl⟩
        replace h := bcF h hc66
        refine LW.gN (want_not rfl rfl hc66) rfl ?_
        refine LW.gN (want_not rfl rfl hc66) rfl ?_
        refine LW.gN (want_not rfl rfl hc66) rfl ?_
        refine LW.gN (want_not rfl rfl hc66) rfl ?_
        refine LW.gN (want_undef rfl rfl) rfl ?_
        refine LW.gN (want_undef rfl rfl) rfl ?_
        refine LW.gN (want_undef rfl rfl) rfl ?_
        refine LW.gN (want_undef rfl rfl) rfl ?_
        refine LW.gN (want_undef rfl rfl) rfl ?_
        refine LW.gN (want_undef rfl rfl) rfl ?_
        refine LW.gN (want_undef rfl rfl) rfl ?_
        refine LW.gN (want_undef rfl rfl) rfl ?_
        refine LW.fresh (l := [(1, .pointer (some ⟨g1, 0, none⟩)), (138, .bool (x0.ran != 0)), (142, .bool (x0.kind == 4)), (146, undef), (150, undef), (154, undef)]) ⟨rfl, rfl, rfl, rfl, rfl, rfl, trivial⟩ (fun e => ?_)
        refine LW.gN (want_undef rfl rfl) rfl ?_
        refine LW.gN (want_undef rfl rfl) rfl ?_
        refine LW.gN (want_not rfl rfl hc66) rfl ?_
        refine LW.gN (want_not rfl rfl hc66) rfl ?_
        refine LW.gN (want_undef rfl rfl) rfl ?_
        refine LW.gN (want_undef rfl rfl) rfl ?_
        refine LW.gN (want_undef rfl rfl) rfl ?_
        refine LW.gN (want_undef rfl rfl) rfl ?_
        refine LW.gN (want_not rfl rfl hc66) rfl ?_
        refine LW.gY (want_of rfl rfl hc65) ?_
        refine LW.u (Pur.pickF rfl hc66) rfl ?_
        refine LW.u (Pur.pickF rfl hc65) rfl ?_
        refine LW.nil ?_
        replace h := Option.some.inj h
        subst h
        exact ⟨⟨rfl, rfl, trivial⟩, hS14.pick [0] rfl rfl⟩
      replace h := bcF h hc62
      refine LW.gN (want_not rfl rfl hc62) rfl ?_
      refine LW.gN (want_not rfl rfl hc62) rfl ?_
      refine LW.gN (want_not rfl rfl hc62) rfl ?_
      refine LW.gN (want_not rfl rfl hc62) rfl ?_
      refine LW.gN (want_undef rfl rfl) rfl ?_
      refine LW.gN (want_undef rfl rfl) rfl ?_
      refine LW.gN (want_undef rfl rfl) rfl ?_
      refine LW.gN (want_not rfl rfl hc62) rfl ?_
      refine LW.gN (want_not rfl rfl hc62) rfl ?_
      refine LW.gN (want_undef rfl rfl) rfl ?_
      refine LW.fresh (l := [(1, .pointer (some ⟨g1, 0, none⟩)), (123, .bool (x0.kind != 4)), (132, undef), (133, undef)]) ⟨rfl, rfl, rfl, rfl, trivial⟩ (fun e => ?_)
      refine LW.gN (want_undef rfl rfl) rfl ?_
      refine LW.gN (want_undef rfl rfl) rfl ?_
      refine LW.gN (want_not rfl rfl hc62) rfl ?_
      refine LW.u (Pur.pickF rfl hc62) rfl ?_
      refine LW.p rfl rfl ?_
      refine LW.gY (want_of rfl rfl rfl) ?_
      refine LW.u (Pur.fa fo123_1 rfl) rfl ?_
      refine LW.gY (want_of rfl rfl rfl) ?_
      refine LW.ldb hS14 0 rfl ag3 rfl rfl rfl ?_
      refine LW.gY (want_of rfl rfl rfl) ?_
      refine LW.p rfl rfl ?_
      refine LW.gY (want_of rfl rfl rfl) ?_
      refine LW.p rfl rfl ?_
      rcases bcases (x0.kind == 4) with hc76 | hc76
      · replace h := bcT h hc76
        refine LW.gY (want_of rfl rfl hc76) ?_
        refine LW.u (Pur.fa fo123_6 rfl) rfl ?_
        refine LW.gY (want_of rfl rfl hc76) ?_
        refine LW.ldb hS14 0 rfl ag3 rfl rfl rfl ?_
        refine LW.gY (want_of rfl rfl hc76) ?_
        refine LW.p rfl rfl ?_
        refine LW.gY (want_of rfl rfl hc76) ?_
        refine LW.p rfl rfl ?_
        rcases bcases (decide (x0.wait < 0)) with hc77 | hc77
        · replace h := bcT h hc77
          refine LW.gN (want_not rfl rfl hc77) rfl ?_
          refine LW.gN (want_not rfl rfl hc77) rfl ?_
          refine LW.gN (want_not rfl rfl hc77) rfl ?_
          refine LW.gN (want_not rfl rfl hc77) rfl ?_
          refine LW.gN (want_undef rfl rfl) rfl ?_
          refine LW.gN (want_undef rfl rfl) rfl ?_
          refine LW.gN (want_undef rfl rfl) rfl ?_
          refine LW.gN (want_undef rfl rfl) rfl ?_
          refine LW.gN (want_undef rfl rfl) rfl ?_
          refine LW.gN (want_not rfl rfl hc77) rfl ?_
          refine LW.fresh (l := [(1, .pointer (some ⟨g1, 0, none⟩)), (138, .bool false), (142, .bool (x0.kind == 4)), (146, .bool (decide (x0.wait < 0))), (156, undef)]) ⟨rfl, rfl, rfl, rfl, rfl, trivial⟩ (fun e => ?_)
          refine LW.gY (want_of rfl rfl hc76) ?_
          refine LW.u (Pur.pickT rfl hc77) rfl ?_
          refine LW.gY (want_of rfl rfl hc76) ?_
          refine LW.p rfl rfl ?_
          refine LW.gN (want_not rfl rfl rfl) rfl ?_
          refine LW.gN (want_not rfl rfl rfl) rfl ?_
          refine LW.gN (want_not rfl rfl rfl) rfl ?_
          refine LW.gN (want_not rfl rfl rfl) rfl ?_
          refine LW.gY (want_of rfl rfl hc76) ?_
          refine LW.u (Pur.pickT rfl rfl) rfl ?_
          refine LW.gY (want_of rfl rfl rfl) ?_
          refine LW.u (Pur.pickT rfl hc76) rfl ?_
          refine LW.u (Pur.pickF rfl rfl) rfl ?_
          refine LW.nil ?_
          replace h := Option.some.inj h
          subst h
          exact ⟨⟨rfl, rfl, trivial⟩, hS14.pick [0] rfl rfl⟩
        replace h := bcF h hc77
        refine LW.gY (want_of rfl rfl hc77) ?_
        refine LW.u (Pur.fa fo123_6 rfl) rfl ?_
        refine LW.gY (want_of rfl rfl hc77) ?_
        refine LW.ldb hS14 0 rfl ag3 rfl rfl rfl ?_
        refine LW.gY (want_of rfl rfl hc77) ?_
        refine LW.p rfl rfl ?_
        refine LW.gY (want_of rfl rfl hc77) ?_
        refine LW.p rfl rfl ?_
        rcases bcases (decide (x0.wait > 0)) with hc78 | hc78
        · replace h := bcT h hc78
          refine LW.gY (want_of rfl rfl hc78) ?_
          refine LW.u (Pur.fa fo123_6 rfl) rfl ?_
          refine LW.gY (want_of rfl rfl hc78) ?_
          refine LW.ldb hS14 0 rfl ag3 rfl rfl rfl ?_
          refine LW.gY (want_of rfl rfl hc78) ?_
          refine LW.p rfl rfl ?_
          replace h := obind h
          obtain ⟨y79, hy79, h⟩ := h
          have q := W_s_l8Handle (w0 := w59) hy79
          refine LW.gY (want_of rfl rfl hc78) ?_
          refine LW.call pl198 rfl rfl ?_
          refine Ret.mono q ?_
          rintro _ w80 ⟨rfl, hs⟩
          have hS18 := hS14.add hs
          refine LW.gY (want_of rfl rfl hc78) ?_
          refine LW.p rfl rfl ?_
          refine LW.fresh (l := [(1, .pointer (some ⟨g1, 0, none⟩)), (138, .bool false), (142, .bool (x0.kind == 4)), (146, .bool (decide (x0.wait < 0))), (150, .bool (decide (x0.wait > 0))), (155, .bool (!y79))]) ⟨rfl, rfl, rfl, rfl, rfl, rfl, trivial⟩ (fun e => ?_)
          refine LW.gY (want_of rfl rfl hc77) ?_
          refine LW.u (Pur.pickT rfl hc78) rfl ?_
          refine LW.gY (want_of rfl rfl hc76) ?_
          refine LW.u (Pur.pickF rfl hc77) rfl ?_
          refine LW.gY (want_of rfl rfl hc76) ?_
          refine LW.p rfl rfl ?_
          rcases bcases (!y79) with hc81 | hc81
          · replace h := bcT h hc81
            refine LW.gN (want_not rfl rfl hc81) rfl ?_
            refine LW.gN (want_not rfl rfl hc81) rfl ?_
            refine LW.gN (want_not rfl rfl hc81) rfl ?_
            refine LW.gN (want_not rfl rfl hc81) rfl ?_
            refine LW.gY (want_of rfl rfl hc76) ?_
            refine LW.u (Pur.pickT rfl hc81) rfl ?_
            refine LW.gY (want_of rfl rfl rfl) ?_
            refine LW.u (Pur.pickT rfl hc76) rfl ?_
            refine LW.u (Pur.pickF rfl rfl) rfl ?_
            refine LW.nil ?_
            replace h := Option.some.inj h
            subst h
            exact ⟨⟨rfl, rfl, trivial⟩, hS18.pick [0] rfl rfl⟩
          replace h := bcF h hc81
          refine LW.gY (want_of rfl rfl hc81) ?_
          refine LW.u (Pur.fa fo123_7 rfl) rfl ?_
          refine LW.gY (want_of rfl rfl hc81) ?_
          refine LW.ldb hS18 0 rfl ag3 rfl rfl rfl ?_
          replace h := obind h
          obtain ⟨y82, hy82, h⟩ := h
          have q := W_s_l1In (w0 := w80) hy82
          refine LW.gY (want_of rfl rfl hc81) ?_
          refine LW.call pl81 rfl rfl ?_
          refine Ret.mono q ?_
          rintro _ w83 ⟨rfl, hs⟩
          have hS19 := hS18.add hs
          refine LW.gY (want_of rfl rfl hc81) ?_
          refine LW.p rfl rfl ?_
          refine LW.gY (want_of rfl rfl hc76) ?_
          refine LW.u (Pur.pickF rfl hc81) rfl ?_
          refine LW.gY (want_of rfl rfl rfl) ?_
          refine LW.u (Pur.pickT rfl hc76) rfl ?_
          refine LW.u (Pur.pickF rfl rfl) rfl ?_
          refine LW.nil ?_
          replace h := Option.some.inj h
          subst h
          exact ⟨⟨rfl, rfl, trivial⟩, hS19.pick [0] rfl rfl⟩
        replace h := bcF h hc78
        refine LW.gN (want_not rfl rfl hc78) rfl ?_
        refine LW.gN (want_not rfl rfl hc78) rfl ?_
        refine LW.gN (want_not rfl rfl hc78) rfl ?_
        refine LW.gN (want_not rfl rfl hc78) rfl ?_
        refine LW.gN (want_not rfl rfl hc78) rfl ?_
        refine LW.fresh (l := [(1, .pointer (some ⟨g1, 0, none⟩)), (138, .bool false), (142, .bool (x0.kind == 4)), (146, .bool (decide (x0.wait < 0))), (150, .bool (decide (x0.wait > 0))), (155, undef)]) ⟨rfl, rfl, rfl, rfl, rfl, rfl, trivial⟩ (fun e => ?_)
        refine LW.gY (want_of rfl rfl hc77) ?_
        refine LW.u (Pur.pickF rfl hc78) rfl ?_
        refine LW.gY (want_of rfl rfl hc76) ?_
        refine LW.u (Pur.pickF rfl hc77) rfl ?_
        refine LW.gY (want_of rfl rfl hc76) ?_
        refine LW.p rfl rfl ?_
        refine LW.gY (want_of rfl rfl rfl) ?_
        refine LW.u (Pur.fa fo123_7 rfl) rfl ?_
        refine LW.gY (want_of rfl rfl rfl) ?_
        refine LW.ldb hS14 0 rfl ag3 rfl rfl rfl ?_
        replace h := obind h
        obtain ⟨y84, hy84, h⟩ := h
        have q := W_s_l1In (w0 := w59) hy84
        refine LW.gY (want_of rfl rfl rfl) ?_
        refine LW.call pl81 rfl rfl ?_
        refine Ret.mono q ?_
        rintro _ w85 ⟨rfl, hs⟩
        have hS20 := hS14.add hs
        refine LW.gY (want_of rfl rfl rfl) ?_
        refine LW.p rfl rfl ?_
        refine LW.gY (want_of rfl rfl hc76) ?_
        refine LW.u (Pur.pickF rfl rfl) rfl ?_
        refine LW.gY (want_of rfl rfl rfl) ?_
        refine LW.u (Pur.pickT rfl hc76) rfl ?_
        refine LW.u (Pur.pickF rfl rfl) rfl ?_
        refine LW.nil ?_
        replace h := Option.some.inj h
        subst h
        exact ⟨⟨rfl, rfl, trivial⟩, hS20.pick [0] rfl rfl⟩
      replace h := bcF h hc76
      refine LW.gN (want_not rfl rfl hc76) rfl ?_
      refine LW.gN (want_not rfl rfl hc76) rfl ?_
      refine LW.gN (want_not rfl rfl hc76) rfl ?_
      refine LW.gN (want_not rfl rfl hc76) rfl ?_
      refine LW.gN (want_undef rfl rfl) rfl ?_
      refine LW.gN (want_undef rfl rfl) rfl ?_
      refine LW.gN (want_undef rfl rfl) rfl ?_
      refine LW.gN (want_undef rfl rfl) rfl ?_
      refine LW.gN (want_undef rfl rfl) rfl ?_
      refine LW.gN (want_undef rfl rfl) rfl ?_
      refine LW.gN (want_undef rfl rfl) rfl ?_
      refine LW.gN (want_undef rfl rfl) rfl ?_
      refine LW.gN (want_undef rfl rfl) rfl ?_
      refine LW.gN (want_undef rfl rfl) rfl ?_
      refine LW.gN (want_not rfl rfl hc76) rfl ?_
      refine LW.fresh (l := [(1, .pointer (some ⟨g1, 0, none⟩)), (138, .bool false), (142, .bool (x0.kind == 4)), (157, undef)]) ⟨rfl, rfl, rfl, rfl, trivial⟩ (fun e => ?_)
      refine LW.gN (want_not rfl rfl hc76) rfl ?_
      refine LW.gN (want_undef rfl rfl) rfl ?_
      refine LW.gN (want_undef rfl rfl) rfl ?_
      refine LW.gN (want_undef rfl rfl) rfl ?_
      refine LW.gN (want_undef rfl rfl) rfl ?_
      refine LW.gN (want_not rfl rfl hc76) rfl ?_
      refine LW.gY (want_of rfl rfl rfl) ?_
      refine LW.u (Pur.pickF rfl hc76) rfl ?_
      refine LW.u (Pur.pickF rfl rfl) rfl ?_
      refine LW.nil ?_
      replace h := Option.some.inj h
      subst h
      exact ⟨⟨rfl, rfl, trivial⟩, hS14.pick [0] rfl rfl⟩
    intro e w86 hM
    obtain ⟨hE, hS21⟩ := hM
    obtain ⟨e, rfl⟩ := hE.out
    have h := h61
    show CW _ _ _ _ _ _
    refine CW.cond rfl (fun hc87 => ?_) (fun hc87 => ?_)
    · replace h := bcT h hc87
      refine CW.seq ?_
      refine CW.region ?_
      refine LW.p rfl rfl ?_
      refine LW.nil ?_
      show CW _ _ _ _ _ _
      refine CW.ret ?_
      cases h
      exact And.intro trivial ⟨_, Res.one (resOne.t rfl), rfl, hS21.pick [] rfl rfl⟩
    replace h := bcF h hc87
    refine CW.skip ?_
    show CW _ _ _ _ _ _
    refine CW.seq ?_
    refine CW.seq ?_
    obtain ⟨j88, hj88, h89⟩ := obind h
    refine CW.cut (fun e wb => En e [(1, .pointer (some ⟨g1, 0, none⟩)), (195, .bool j88)] ∧ St w0 [] wb [bx g1 123 [.int .i64 x0.gen, .int .i64 x0.kind, .int .i64 x0.box, .int .i64 x0.res, .int .i64 x0.til, .int .i64 x0.pages, .int .i64 x0.wait, .int .i64 x0.got, .int .i64 x0.ran, .bool x0.mark, .slice a0_10 x0.links.length c0_10, .slice a0_11 x0.data.length c0_11, .slice a0_12 x0.queue.length c0_12]]) ?_ ?_
    · have h := hj88
      refine CW.region ?_
      refine LW.u (Pur.fa fo123_11 rfl) rfl ?_
      refine LW.ldb hS21 0 rfl ag24 rfl rfl rfl ?_
      refine LW.u (Pur.len Try.underlying24 rfl) rfl ?_
      iterate 2 refine LW.p rfl rfl ?_
      rcases bcases ((x0.data.length : Int) != 0) with hc90 | hc90
      · replace h := bcT h hc90
        refine LW.gY (want_of rfl rfl hc90) ?_
        refine LW.u (Pur.fa fo123_1 rfl) rfl ?_
        refine LW.gY (want_of rfl rfl hc90) ?_
        refine LW.ldb hS21 0 rfl ag3 rfl rfl rfl ?_
        refine LW.gY (want_of rfl rfl hc90) ?_
        refine LW.p rfl rfl ?_
        refine LW.gY (want_of rfl rfl hc90) ?_
        refine LW.p rfl rfl ?_
        rcases bcases (x0.kind != 2) with hc91 | hc91
        · replace h := bcT h hc91
          refine LW.gN (want_not rfl rfl hc91) rfl ?_
          refine LW.gN (want_not rfl rfl hc91) rfl ?_
          refine LW.gN (want_not rfl rfl hc91) rfl ?_
          refine LW.gN (want_not rfl rfl hc91) rfl ?_
          refine LW.fresh (l := [(1, .pointer (some ⟨g1, 0, none⟩)), (170, .bool ((x0.data.length : Int) != 0)), (174, .bool (x0.kind != 2)), (177, undef), (178, undef)]) ⟨rfl, rfl, rfl, rfl, rfl, trivial⟩ (fun e => ?_)
          refine LW.gN (want_not rfl rfl hc91) rfl ?_
          refine LW.gN (want_not rfl rfl hc91) rfl ?_
          refine LW.gY (want_of rfl rfl hc90) ?_
          refine LW.u (Pur.pickT rfl hc91) rfl ?_
          refine LW.u (Pur.pickT rfl hc90) rfl ?_
          refine LW.p rfl rfl ?_
          refine LW.gN (want_not rfl rfl rfl) rfl ?_
          refine LW.gN (want_not rfl rfl rfl) rfl ?_
          refine LW.gN (want_not rfl rfl rfl) rfl ?_
          refine LW.gN (want_not rfl rfl rfl) rfl ?_
          refine LW.gN (want_undef rfl rfl) rfl ?_
          refine LW.gN (want_undef rfl rfl) rfl ?_
          refine LW.gN (want_undef rfl rfl) rfl ?_
          refine LW.gN (want_undef rfl rfl) rfl ?_
          refine LW.gN (want_undef rfl rfl) rfl ?_
          refine LW.gN (want_undef rfl rfl) rfl ?_
          refine LW.gN (want_not rfl rfl rfl) rfl ?_
          refine LW.u (Pur.pickT rfl rfl) rfl ?_
          refine LW.nil ?_
          replace h := Option.some.inj h
          subst h
          exact ⟨⟨rfl, rfl, trivial⟩, hS21.pick [0] rfl rfl⟩
        replace h := bcF h hc91
        refine LW.gY (want_of rfl rfl hc91) ?_
        refine LW.u (Pur.fa fo123_11 rfl) rfl ?_
        refine LW.gY (want_of rfl rfl hc91) ?_
        refine LW.ldb hS21 0 rfl ag24 rfl rfl rfl ?_
        refine LW.gY (want_of rfl rfl hc91) ?_
        refine LW.u (Pur.len Try.underlying24 rfl) rfl ?_
        refine LW.gY (want_of rfl rfl hc91) ?_
        refine LW.u (Pur.fa fo123_5 rfl) rfl ?_
        refine LW.fresh (l := [(1, .pointer (some ⟨g1, 0, none⟩)), (170, .bool ((x0.data.length : Int) != 0)), (174, .bool (x0.kind != 2)), (177, .int .i64 (x0.data.length : Int)), (178, .pointer (some ⟨g1, 0 + 5, none⟩))]) ⟨rfl, rfl, rfl, rfl, rfl, trivial⟩ (fun e => ?_)
        refine LW.gY (want_of rfl rfl hc91) ?_
        refine LW.ldb hS21 0 rfl ag3 rfl rfl rfl ?_
        refine LW.gY (want_of rfl rfl hc91) ?_
        refine LW.p rfl rfl ?_
        refine LW.gY (want_of rfl rfl hc90) ?_
        refine LW.u (Pur.pickF rfl hc91) rfl ?_
        refine LW.u (Pur.pickT rfl hc90) rfl ?_
        refine LW.p rfl rfl ?_
        rcases bcases ((x0.data.length : Int) != x0.pages) with hc92 | hc92
        · replace h := bcT h hc92
          refine LW.gN (want_not rfl rfl hc92) rfl ?_
          refine LW.gN (want_not rfl rfl hc92) rfl ?_
          refine LW.gN (want_not rfl rfl hc92) rfl ?_
          refine LW.gN (want_not rfl rfl hc92) rfl ?_
          refine LW.gN (want_undef rfl rfl) rfl ?_
          refine LW.gN (want_undef rfl rfl) rfl ?_
          refine LW.gN (want_undef rfl rfl) rfl ?_
          refine LW.gN (want_undef rfl rfl) rfl ?_
          refine LW.gN (want_undef rfl rfl) rfl ?_
          refine LW.gN (want_undef rfl rfl) rfl ?_
          refine LW.gN (want_not rfl rfl hc92) rfl ?_
          refine LW.u (Pur.pickT rfl hc92) rfl ?_
          refine LW.nil ?_
          replace h := Option.some.inj h
          subst h
          exact ⟨⟨rfl, rfl, trivial⟩, hS21.pick [0] rfl rfl⟩
        replace h := bcF h hc92
        refine LW.gY (want_of rfl rfl hc92) ?_
        refine LW.u (Pur.fa fo123_1 rfl) rfl ?_
        refine LW.gY (want_of rfl rfl hc92) ?_
        refine LW.ldb hS21 0 rfl ag3 rfl rfl rfl ?_
        refine LW.gY (want_of rfl rfl hc92) ?_
        refine LW.p rfl rfl ?_
        refine LW.gY (want_of rfl rfl hc92) ?_
        refine LW.p rfl rfl ?_
        rcases bcases (x0.kind == 2) with hc93 | hc93
        · replace h := bcT h hc93
          refine LW.gY (want_of rfl rfl hc93) ?_
          refine LW.u (Pur.fa fo123_11 rfl) rfl ?_
          refine LW.gY (want_of rfl rfl hc93) ?_
          refine LW.ldb hS21 0 rfl ag24 rfl rfl rfl ?_
          refine LW.gY (want_of rfl rfl hc93) ?_
          refine LW.u (Pur.len Try.underlying24 rfl) rfl ?_
          refine LW.gY (want_of rfl rfl hc93) ?_
          refine LW.u (Pur.fa fo123_5 rfl) rfl ?_
          refine LW.gY (want_of rfl rfl hc93) ?_
          refine LW.ldb hS21 0 rfl ag3 rfl rfl rfl ?_
          refine LW.gY (want_of rfl rfl hc93) ?_
          refine LW.p rfl rfl ?_
          refine LW.gY (want_of rfl rfl hc92) ?_
          refine LW.u (Pur.pickT rfl hc93) rfl ?_
          refine LW.u (Pur.pickF rfl hc92) rfl ?_
          refine LW.nil ?_
          replace h := Option.some.inj h
          subst h
          exact ⟨⟨rfl, rfl, trivial⟩, hS21.pick [0] rfl rfl⟩
        replace h := bcF h hc93
        refine LW.gN (want_not rfl rfl hc93) rfl ?_
        refine LW.gN (want_not rfl rfl hc93) rfl ?_
        refine LW.gN (want_not rfl rfl hc93) rfl ?_
        refine LW.gN (want_not rfl rfl hc93) rfl ?_
        refine LW.gN (want_not rfl rfl hc93) rfl ?_
        refine LW.gN (want_not rfl rfl hc93) rfl ?_
        refine LW.gY (want_of rfl rfl hc92) ?_
        refine LW.u (Pur.pickF rfl hc93) rfl ?_
        refine LW.u (Pur.pickF rfl hc92) rfl ?_
        refine LW.nil ?_
        replace h := Option.some.inj h
        subst h
        exact ⟨⟨rfl, rfl, trivial⟩, hS21.pick [0] rfl rfl⟩
      replace h := bcF h hc90
      refine LW.gN (want_not rfl rfl hc90) rfl ?_
      refine LW.gN (want_not rfl rfl hc90) rfl ?_
      refine LW.gN (want_not rfl rfl hc90) rfl ?_
      refine LW.gN (want_not rfl rfl hc90) rfl ?_
      refine LW.gN (want_undef rfl rfl) rfl ?_
      refine LW.gN (want_undef rfl rfl) rfl ?_
      refine LW.gN (want_undef rfl rfl) rfl ?_
      refine LW.gN (want_undef rfl rfl) rfl ?_
      refine LW.gN (want_undef rfl rfl) rfl ?_
      refine LW.fresh (l := [(1, .pointer (some ⟨g1, 0, none⟩)), (170, .bool ((x0.data.length : Int) != 0)), (174, undef), (177, undef), (179, undef)]) ⟨rfl, rfl, rfl, rfl, rfl, trivial⟩ (fun e => ?_)
      refine LW.gN (want_undef rfl rfl) rfl ?_
      refine LW.gN (want_not rfl rfl hc90) rfl ?_
      refine LW.u (Pur.pickF rfl hc90) rfl ?_
      refine LW.p rfl rfl ?_
      refine LW.gY (want_of rfl rfl rfl) ?_
      refine LW.u (Pur.fa fo123_1 rfl) rfl ?_
      refine LW.gY (want_of rfl rfl rfl) ?_
      refine LW.ldb hS21 0 rfl ag3 rfl rfl rfl ?_
      refine LW.gY (want_of rfl rfl rfl) ?_
      refine LW.p rfl rfl ?_
      refine LW.gY (want_of rfl rfl rfl) ?_
      refine LW.p rfl rfl ?_
      rcases bcases (x0.kind == 2) with hc94 | hc94
      · replace h := bcT h hc94
        refine LW.gY (want_of rfl rfl hc94) ?_
        refine LW.u (Pur.fa fo123_11 rfl) rfl ?_
        refine LW.gY (want_of rfl rfl hc94) ?_
        refine LW.ldb hS21 0 rfl ag24 rfl rfl rfl ?_
        refine LW.gY (want_of rfl rfl hc94) ?_
        refine LW.u (Pur.len Try.underlying24 rfl) rfl ?_
        refine LW.gY (want_of rfl rfl hc94) ?_
        refine LW.u (Pur.fa fo123_5 rfl) rfl ?_
        refine LW.gY (want_of rfl rfl hc94) ?_
        refine LW.ldb hS21 0 rfl ag3 rfl rfl rfl ?_
        refine LW.gY (want_of rfl rfl hc94) ?_
        refine LW.p rfl rfl ?_
        refine LW.gY (want_of rfl rfl rfl) ?_
        refine LW.u (Pur.pickT rfl hc94) rfl ?_
        refine LW.u (Pur.pickF rfl rfl) rfl ?_
        refine LW.nil ?_
        replace h := Option.some.inj h
        subst h
        exact ⟨⟨rfl, rfl, trivial⟩, hS21.pick [0] rfl rfl⟩
      replace h := bcF h hc94
      refine LW.gN (want_not rfl rfl hc94) rfl ?_
      refine LW.gN (want_not rfl rfl hc94) rfl ?_
      refine LW.gN (want_not rfl rfl hc94) rfl ?_
      refine LW.gN (want_not rfl rfl hc94) rfl ?_
      refine LW.gN (want_not rfl rfl hc94) rfl ?_
      refine LW.gN (want_not rfl rfl hc94) rfl ?_
      refine LW.gY (want_of rfl rfl rfl) ?_
      refine LW.u (Pur.pickF rfl hc94) rfl ?_
      refine LW.u (Pur.pickF rfl rfl) rfl ?_
      refine LW.nil ?_
      replace h := Option.some.inj h
      subst h
      exact ⟨⟨rfl, rfl, trivial⟩, hS21.pick [0] rfl rfl⟩
    intro e w95 hM
    obtain ⟨hE, hS22⟩ := hM
    obtain ⟨e, rfl⟩ := hE.out
    have h := h89
    show CW _ _ _ _ _ _
    refine CW.cond rfl (fun hc96 => ?_) (fun hc96 => ?_)
    · replace h := bcT h hc96
      refine CW.seq ?_
      refine CW.region ?_
      refine LW.p rfl rfl ?_
      refine LW.nil ?_
      show CW _ _ _ _ _ _
      refine CW.ret ?_
      cases h
      exact And.intro trivial ⟨_, Res.one (resOne.t rfl), rfl, hS22.pick [] rfl rfl⟩
    replace h := bcF h hc96
    refine CW.skip ?_
    show CW _ _ _ _ _ _
    refine CW.seq ?_
    refine CW.seq ?_
    refine CW.region ?_
    refine LW.p rfl rfl ?_
    refine LW.nil ?_
    show CW _ _ _ _ _ _
    refine CW.block ?_
    obtain ⟨o112, ho112, h113⟩ := obind h
    refine CW.mono (CW.iter (σ := Int) (ρ := Int ⊕ Bool) (fun s97 e wb => En e [(1, .pointer (some ⟨g1, 0, none⟩)), (4, .int .i64 s97)] ∧ St w0 [] wb [bx g1 123 [.int .i64 x0.gen, .int .i64 x0.kind, .int .i64 x0.box, .int .i64 x0.res, .int .i64 x0.til, .int .i64 x0.pages, .int .i64 x0.wait, .int .i64 x0.got, .int .i64 x0.ran, .bool x0.mark, .slice a0_10 x0.links.length c0_10, .slice a0_11 x0.data.length c0_11, .slice a0_12 x0.queue.length c0_12]]) (fun o x e wb => match o with | .inl s97 => x = .exit 2 ∧ En e [(1, .pointer (some ⟨g1, 0, none⟩))] ∧ St w0 [] wb [bx g1 123 [.int .i64 x0.gen, .int .i64 x0.kind, .int .i64 x0.box, .int .i64 x0.res, .int .i64 x0.til, .int .i64 x0.pages, .int .i64 x0.wait, .int .i64 x0.got, .int .i64 x0.ran, .bool x0.mark, .slice a0_10 x0.links.length c0_10, .slice a0_11 x0.data.length c0_11, .slice a0_12 x0.queue.length c0_12]] | .inr r => x = .ret ∧ ∃ u, u = r ∧ ∃ v, Res Try.prog Try.f190.results e wb v ∧ v = .bool u ∧ St w0 [] wb []) ?_ N 0 _ _ _ ⟨⟨rfl, rfl, trivial⟩, hS22.pick [0] rfl rfl⟩ ho112) ?_
    · intro s97 e w98 o hM h
      obtain ⟨hE, hS23⟩ := hM
      obtain ⟨e, rfl⟩ := hE.out
      refine CW.seq ?_
      refine CW.seq ?_
      refine CW.region ?_
      refine LW.p rfl rfl ?_
      refine LW.u (Pur.fa fo123_11 rfl) rfl ?_
      refine LW.ldb hS23 0 rfl ag24 rfl rfl rfl ?_
      refine LW.u (Pur.len Try.underlying24 rfl) rfl ?_
      refine LW.p rfl rfl ?_
      refine LW.nil ?_
      show CW _ _ _ _ _ _
      refine CW.fresh (l := [(1, .pointer (some ⟨g1, 0, none⟩)), (4, .int .i64 s97), (200, .bool (decide (s97 < (x0.data.length : Int))))]) ⟨rfl, rfl, rfl, trivial⟩ (fun e => ?_)
      refine CW.cond rfl (fun hc99 => ?_) (fun hc99 => ?_)
      · replace h := bcT h hc99
        refine CW.skip ?_
        show CW _ _ _ _ _ _
        refine CW.seq ?_
        refine CW.block ?_
        refine CW.seq ?_
        refine CW.region ?_
        refine LW.u (Pur.fa fo123_11 rfl) rfl ?_
        refine LW.ldb hS23 0 rfl ag24 rfl rfl rfl ?_
        refine LW.p rfl rfl ?_
        replace h := obind h
        obtain ⟨y100, hy100, h⟩ := h
        obtain ⟨b103, o104, cs105, hae, hb108, hp101, hq102, hd106, hk107⟩ := hr0_11.idx hy100
        subst hae
        obtain rfl := hd106
        refine LW.u (Pur.ix Try.underlying24 sz3 rfl rfl hp101 hq102) rfl ?_
        refine LW.l (Ldr.old w0 ag3 rfl (hk107 0 _ rfl)) (hS23.same _ hb108.1 hb108.2) rfl ?_
        replace h := obind h
        obtain ⟨y109, hy109, h⟩ := h
        have q := W_s_l1In (w0 := w98) hy109
        refine LW.call pl81 rfl rfl ?_
        refine Ret.mono q ?_
        rintro _ w110 ⟨rfl, hs⟩
        have hS24 := hS23.add hs
        refine LW.p rfl rfl ?_
        refine LW.nil ?_
        show CW _ _ _ _ _ _
        refine CW.cond rfl (fun hc111 => ?_) (fun hc111 => ?_)
        · replace h := bcT h hc111
          refine CW.seq ?_
          refine CW.region ?_
          refine LW.p rfl rfl ?_
          refine LW.nil ?_
          show CW _ _ _ _ _ _
          refine CW.ret ?_
          replace h := Option.some.inj h
          subst h
          exact ⟨trivial, rfl, _, rfl, ⟨_, Res.one (resOne.t rfl), rfl, hS24.pick [] rfl rfl⟩⟩
        replace h := bcF h hc111
        refine CW.skip ?_
        show CW _ _ _ _ _ _
        refine CW.region ?_
        iterate 3 refine LW.p rfl rfl ?_
        refine LW.nil ?_
        replace h := Option.some.inj h
        subst h
        exact ⟨rfl, ⟨⟨rfl, rfl, trivial⟩, hS24.pick [0] rfl rfl⟩⟩
      replace h := bcF h hc99
      refine CW.exit ?_
      replace h := Option.some.inj h
      subst h
      exact ⟨trivial, rfl, ⟨⟨rfl, trivial⟩, hS23.pick [0] rfl rfl⟩⟩
    intro x e w114 hM
    rcases o112 with o112 | r149
    · obtain ⟨rfl, hM⟩ := hM
      obtain ⟨hE, hS25⟩ := hM
      obtain ⟨e, rfl⟩ := hE.out
      have h := h113
      show CW _ _ _ _ _ _
      refine CW.seq ?_
      refine CW.seq ?_
      obtain ⟨j115, hj115, h116⟩ := obind h
      refine CW.cut (fun e wb => En e [(1, .pointer (some ⟨g1, 0, none⟩)), (224, .bool j115)] ∧ St w0 [] wb [bx g1 123 [.int .i64 x0.gen, .int .i64 x0.kind, .int .i64 x0.box, .int .i64 x0.res, .int .i64 x0.til, .int .i64 x0.pages, .int .i64 x0.wait, .int .i64 x0.got, .int .i64 x0.ran, .bool x0.mark, .slice a0_10 x0.links.length c0_10, .slice a0_11 x0.data.length c0_11, .slice a0_12 x0.queue.length c0_12]]) ?_ ?_
      · have h := hj115
        refine CW.region ?_
        refine LW.u (Pur.fa fo123_12 rfl) rfl ?_
        refine LW.ldb hS25 0 rfl ag121 rfl rfl rfl ?_
        refine LW.u (Pur.len Try.underlying121 rfl) rfl ?_
        iterate 2 refine LW.p rfl rfl ?_
        rcases bcases (decide ((x0.queue.length : Int) > 2)) with hc117 | hc117
        · replace h := bcT h hc117
          refine LW.gN (want_not rfl rfl hc117) rfl ?_
          refine LW.gN (want_not rfl rfl hc117) rfl ?_
          refine LW.gN (want_not rfl rfl hc117) rfl ?_
          refine LW.gN (want_not rfl rfl hc117) rfl ?_
          refine LW.gN (want_not rfl rfl hc117) rfl ?_
          refine LW.gN (want_undef rfl rfl) rfl ?_
          refine LW.gN (want_undef rfl rfl) rfl ?_
          refine LW.gN (want_undef rfl rfl) rfl ?_
          refine LW.fresh (l := [(1, .pointer (some ⟨g1, 0, none⟩)), (214, .bool (decide ((x0.queue.length : Int) > 2))), (219, undef), (222, undef)]) ⟨rfl, rfl, rfl, rfl, trivial⟩ (fun e => ?_)
          refine LW.gN (want_not rfl rfl hc117) rfl ?_
          refine LW.u (Pur.pickT rfl hc117) rfl ?_
          refine LW.nil ?_
          replace h := Option.some.inj h
          subst h
          exact ⟨⟨rfl, rfl, trivial⟩, hS25.pick [0] rfl rfl⟩
        replace h := bcF h hc117
        refine LW.gY (want_of rfl rfl hc117) ?_
        refine LW.u (Pur.fa fo123_12 rfl) rfl ?_
        refine LW.gY (want_of rfl rfl hc117) ?_
        refine LW.ldb hS25 0 rfl ag121 rfl rfl rfl ?_
        refine LW.gY (want_of rfl rfl hc117) ?_
        refine LW.u (Pur.len Try.underlying121 rfl) rfl ?_
        refine LW.gY (want_of rfl rfl hc117) ?_
        refine LW.p rfl rfl ?_
        refine LW.gY (want_of rfl rfl hc117) ?_
        refine LW.p rfl rfl ?_
        rcases bcases (decide ((x0.queue.length : Int) > 0)) with hc118 | hc118
        · replace h := bcT h hc118
          refine LW.gY (want_of rfl rfl hc118) ?_
          refine LW.u (Pur.fa fo123_1 rfl) rfl ?_
          refine LW.gY (want_of rfl rfl hc118) ?_
          refine LW.ldb hS25 0 rfl ag3 rfl rfl rfl ?_
          refine LW.fresh (l := [(1, .pointer (some ⟨g1, 0, none⟩)), (214, .bool (decide ((x0.queue.length : Int) > 2))), (219, .bool (decide ((x0.queue.length : Int) > 0))), (221, .int .i64 x0.kind)]) ⟨rfl, rfl, rfl, rfl, trivial⟩ (fun e => ?_)
          refine LW.gY (want_of rfl rfl hc118) ?_
          refine LW.p rfl rfl ?_
          refine LW.gY (want_of rfl rfl hc117) ?_
          refine LW.u (Pur.pickT rfl hc118) rfl ?_
          refine LW.u (Pur.pickF rfl hc117) rfl ?_
          refine LW.nil ?_
          replace h := Option.some.inj h
          subst h
          exact ⟨⟨rfl, rfl, trivial⟩, hS25.pick [0] rfl rfl⟩
        replace h := bcF h hc118
        refine LW.gN (want_not rfl rfl hc118) rfl ?_
        refine LW.gN (want_not rfl rfl hc118) rfl ?_
        refine LW.fresh (l := [(1, .pointer (some ⟨g1, 0, none⟩)), (214, .bool (decide ((x0.queue.length : Int) > 2))), (219, .bool (decide ((x0.queue.length : Int) > 0))), (221, undef)]) ⟨rfl, rfl, rfl, rfl, trivial⟩ (fun e => ?_)
        refine LW.gN (want_not rfl rfl hc118) rfl ?_
        refine LW.gY (want_of rfl rfl hc117) ?_
        refine LW.u (Pur.pickF rfl hc118) rfl ?_
        refine LW.u (Pur.pickF rfl hc117) rfl ?_
        refine LW.nil ?_
        replace h := Option.some.inj h
        subst h
        exact ⟨⟨rfl, rfl, trivial⟩, hS25.pick [0] rfl rfl⟩
      intro e w119 hM
      obtain ⟨hE, hS26⟩ := hM
      obtain ⟨e, rfl⟩ := hE.out
      have h := h116
      show CW _ _ _ _ _ _
      refine CW.cond rfl (fun hc120 => ?_) (fun hc120 => ?_)
      · replace h := bcT h hc120
        refine CW.seq ?_
        refine CW.region ?_
        refine LW.p rfl rfl ?_
        refine LW.nil ?_
        show CW _ _ _ _ _ _
        refine CW.ret ?_
        cases h
        exact And.intro trivial ⟨_, Res.one (resOne.t rfl), rfl, hS26.pick [] rfl rfl⟩
      replace h := bcF h hc120
      refine CW.skip ?_
      show CW _ _ _ _ _ _
      refine CW.seq ?_
      refine CW.seq ?_
      refine CW.region ?_
      refine LW.p rfl rfl ?_
      refine LW.nil ?_
      show CW _ _ _ _ _ _
      refine CW.block ?_
      obtain ⟨o145, ho145, h146⟩ := obind h
      refine CW.mono (CW.iter (σ := Int) (ρ := Int ⊕ Bool) (fun s121 e wb => En e [(1, .pointer (some ⟨g1, 0, none⟩)), (5, .int .i64 s121)] ∧ St w0 [] wb [bx g1 123 [.int .i64 x0.gen, .int .i64 x0.kind, .int .i64 x0.box, .int .i64 x0.res, .int .i64 x0.til, .int .i64 x0.pages, .int .i64 x0.wait, .int .i64 x0.got, .int .i64 x0.ran, .bool x0.mark, .slice a0_10 x0.links.length c0_10, .slice a0_11 x0.data.length c0_11, .slice a0_12 x0.queue.length c0_12]]) (fun o x e wb => match o with | .inl s121 => x = .exit 4 ∧ En e [] ∧ St w0 [] wb [bx g1 123 [.int .i64 x0.gen, .int .i64 x0.kind, .int .i64 x0.box, .int .i64 x0.res, .int .i64 x0.til, .int .i64 x0.pages, .int .i64 x0.wait, .int .i64 x0.got, .int .i64 x0.ran, .bool x0.mark, .slice a0_10 x0.links.length c0_10, .slice a0_11 x0.data.length c0_11, .slice a0_12 x0.queue.length c0_12]] | .inr r => x = .ret ∧ ∃ u, u = r ∧ ∃ v, Res Try.prog Try.f190.results e wb v ∧ v = .bool u ∧ St w0 [] wb []) ?_ N 0 _ _ _ ⟨⟨rfl, rfl, trivial⟩, hS26.pick [0] rfl rfl⟩ ho145) ?_
      · intro s121 e w122 o hM h
        obtain ⟨hE, hS27⟩ := hM
        obtain ⟨e, rfl⟩ := hE.out
        refine CW.seq ?_
        refine CW.seq ?_
        refine CW.region ?_
        refine LW.p rfl rfl ?_
        refine LW.u (Pur.fa fo123_12 rfl) rfl ?_
        refine LW.ldb hS27 0 rfl ag121 rfl rfl rfl ?_
        refine LW.u (Pur.len Try.underlying121 rfl) rfl ?_
        refine LW.p rfl rfl ?_
        refine LW.nil ?_
        show CW _ _ _ _ _ _
        refine CW.fresh (l := [(1, .pointer (some ⟨g1, 0, none⟩)), (5, .int .i64 s121), (229, .bool (decide (s121 < (x0.queue.length : Int))))]) ⟨rfl, rfl, rfl, trivial⟩ (fun e => ?_)
        refine CW.cond rfl (fun hc123 => ?_) (fun hc123 => ?_)
        · replace h := bcT h hc123
          refine CW.skip ?_
          show CW _ _ _ _ _ _
          refine CW.seq ?_
          refine CW.block ?_
          refine CW.seq ?_
          obtain ⟨j124, hj124, h125⟩ := obind h
          refine CW.cut (fun e wb => En e [(1, .pointer (some ⟨g1, 0, none⟩)), (5, .int .i64 s121), (258, .bool j124)] ∧ St w0 [] wb [bx g1 123 [.int .i64 x0.gen, .int .i64 x0.kind, .int .i64 x0.box, .int .i64 x0.res, .int .i64 x0.til, .int .i64 x0.pages, .int .i64 x0.wait, .int .i64 x0.got, .int .i64 x0.ran, .bool x0.mark, .slice a0_10 x0.links.length c0_10, .slice a0_11 x0.data.length c0_11, .slice a0_12 x0.queue.length c0_12]]) ?_ ?_
          · have h := hj124
            refine CW.region ?_
            refine LW.u (Pur.fa fo123_12 rfl) rfl ?_
            refine LW.ldb hS27 0 rfl ag121 rfl rfl rfl ?_
            refine LW.p rfl rfl ?_
            replace h := obind h
            obtain ⟨y126, hy126, h⟩ := h
            obtain ⟨b129, o130, cs131, hae, hb134, hp127, hq128, hd132, hk133⟩ := hr0_12.idx hy126
            subst hae
            obtain rfl := hd132
            refine LW.u (Pur.ix Try.underlying121 sz199 rfl rfl hp127 hq128) rfl ?_
            refine LW.u (Pur.fa fo199_0 rfl) rfl ?_
            refine LW.l (Ldr.old w0 ag3 rfl (hk133 0 _ rfl)) (hS27.same _ hb134.1 hb134.2) rfl ?_
            iterate 2 refine LW.p rfl rfl ?_
            rcases bcases (y126.src != (-1)) with hc135 | hc135
            · replace h := bcT h hc135
              refine LW.gY (want_of rfl rfl hc135) ?_
              refine LW.u (Pur.fa fo123_12 rfl) rfl ?_
              refine LW.gY (want_of rfl rfl hc135) ?_
              refine LW.ldb hS27 0 rfl ag121 rfl rfl rfl ?_
              refine LW.gY (want_of rfl rfl hc135) ?_
              refine LW.p rfl rfl ?_
              refine LW.gY (want_of rfl rfl hc135) ?_
              refine LW.u (Pur.ix Try.underlying121 sz199 rfl rfl hp127 hq128) rfl ?_
              refine LW.gY (want_of rfl rfl hc135) ?_
              refine LW.u (Pur.fa fo199_0 rfl) rfl ?_
              refine LW.gY (want_of rfl rfl hc135) ?_
              refine LW.l (Ldr.old w0 ag3 rfl (hk133 0 _ rfl)) (hS27.same _ hb134.1 hb134.2) rfl ?_
              replace h := obind h
              obtain ⟨y136, hy136, h⟩ := h
              have q := W_s_l8Handle (w0 := w122) hy136
              refine LW.gY (want_of rfl rfl hc135) ?_
              refine LW.call pl198 rfl rfl ?_
              refine Ret.mono q ?_
              rintro _ w137 ⟨rfl, hs⟩
              have hS28 := hS27.add hs
              refine LW.gY (want_of rfl rfl hc135) ?_
              refine LW.p rfl rfl ?_
              refine LW.u (Pur.pickT rfl hc135) rfl ?_
              refine LW.p rfl rfl ?_
              rcases bcases (!y136) with hc138 | hc138
              · replace h := bcT h hc138
                refine LW.gN (want_not rfl rfl hc138) rfl ?_
                refine LW.gN (want_not rfl rfl hc138) rfl ?_
                refine LW.gN (want_not rfl rfl hc138) rfl ?_
                refine LW.gN (want_not rfl rfl hc138) rfl ?_
                refine LW.fresh (l := [(1, .pointer (some ⟨g1, 0, none⟩)), (5, .int .i64 s121), (249, .bool (!y136)), (253, undef)]) ⟨rfl, rfl, rfl, rfl, trivial⟩ (fun e => ?_)
                refine LW.gN (want_not rfl rfl hc138) rfl ?_
                refine LW.gN (want_not rfl rfl hc138) rfl ?_
                refine LW.gN (want_not rfl rfl hc138) rfl ?_
                refine LW.gN (want_not rfl rfl hc138) rfl ?_
                refine LW.u (Pur.pickT rfl hc138) rfl ?_
                refine LW.nil ?_
                replace h := Option.some.inj h
                subst h
                exact ⟨⟨rfl, rfl, rfl, trivial⟩, hS28.pick [0] rfl rfl⟩
              replace h := bcF h hc138
              refine LW.gY (want_of rfl rfl hc138) ?_
              refine LW.u (Pur.fa fo123_12 rfl) rfl ?_
              refine LW.gY (want_of rfl rfl hc138) ?_
              refine LW.ldb hS28 0 rfl ag121 rfl rfl rfl ?_
              refine LW.gY (want_of rfl rfl hc138) ?_
              refine LW.p rfl rfl ?_
              refine LW.gY (want_of rfl rfl hc138) ?_
              refine LW.u (Pur.ix Try.underlying121 sz199 rfl rfl hp127 hq128) rfl ?_
              refine LW.fresh (l := [(1, .pointer (some ⟨g1, 0, none⟩)), (5, .int .i64 s121), (249, .bool (!y136)), (253, .pointer (some ⟨b129, o130 + (s121 : Int).toNat * 2, none⟩))]) ⟨rfl, rfl, rfl, rfl, trivial⟩ (fun e => ?_)
              refine LW.gY (want_of rfl rfl hc138) ?_
              refine LW.u (Pur.fa fo199_1 rfl) rfl ?_
              refine LW.gY (want_of rfl rfl hc138) ?_
              refine LW.l (Ldr.old w0 ag3 rfl (hk133 1 _ rfl)) (hS28.same _ hb134.1 hb134.2) rfl ?_
              replace h := obind h
              obtain ⟨y139, hy139, h⟩ := h
              have q := W_s_l1In (w0 := w137) hy139
              refine LW.gY (want_of rfl rfl hc138) ?_
              refine LW.call pl81 rfl rfl ?_
              refine Ret.mono q ?_
              rintro _ w140 ⟨rfl, hs⟩
              have hS29 := hS28.add hs
              refine LW.gY (want_of rfl rfl hc138) ?_
              refine LW.p rfl rfl ?_
              refine LW.u (Pur.pickF rfl hc138) rfl ?_
              refine LW.nil ?_
              replace h := Option.some.inj h
              subst h
              exact ⟨⟨rfl, rfl, rfl, trivial⟩, hS29.pick [0] rfl rfl⟩
            replace h := bcF h hc135
            refine LW.gN (want_not rfl rfl hc135) rfl ?_
            refine LW.gN (want_not rfl rfl hc135) rfl ?_
            refine LW.gN (want_not rfl rfl hc135) rfl ?_
            refine LW.gN (want_not rfl rfl hc135) rfl ?_
            refine LW.gN (want_not rfl rfl hc135) rfl ?_
            refine LW.gN (want_not rfl rfl hc135) rfl ?_
            refine LW.gN (want_not rfl rfl hc135) rfl ?_
            refine LW.gN (want_not rfl rfl hc135) rfl ?_
            refine LW.u (Pur.pickF rfl hc135) rfl ?_
            refine LW.p rfl rfl ?_
            refine LW.gY (want_of rfl rfl rfl) ?_
            refine LW.u (Pur.fa fo123_12 rfl) rfl ?_
            refine LW.gY (want_of rfl rfl rfl) ?_
            refine LW.ldb hS27 0 rfl ag121 rfl rfl rfl ?_
            refine LW.gY (want_of rfl rfl rfl) ?_
            refine LW.p rfl rfl ?_
            refine LW.gY (want_of rfl rfl rfl) ?_
            refine LW.u (Pur.ix Try.underlying121 sz199 rfl rfl hp127 hq128) rfl ?_
            refine LW.gY (want_of rfl rfl rfl) ?_
            refine LW.u (Pur.fa fo199_1 rfl) rfl ?_
            refine LW.fresh (l := [(1, .pointer (some ⟨g1, 0, none⟩)), (5, .int .i64 s121), (249, .bool false), (254, .pointer (some ⟨b129, o130 + (s121 : Int).toNat * 2 + 1, none⟩))]) ⟨rfl, rfl, rfl, rfl, trivial⟩ (fun e => ?_)
            refine LW.gY (want_of rfl rfl rfl) ?_
            refine LW.l (Ldr.old w0 ag3 rfl (hk133 1 _ rfl)) (hS27.same _ hb134.1 hb134.2) rfl ?_
            replace h := obind h
            obtain ⟨y141, hy141, h⟩ := h
            have q := W_s_l1In (w0 := w122) hy141
            refine LW.gY (want_of rfl rfl rfl) ?_
            refine LW.call pl81 rfl rfl ?_
            refine Ret.mono q ?_
            rintro _ w142 ⟨rfl, hs⟩
            have hS30 := hS27.add hs
            refine LW.gY (want_of rfl rfl rfl) ?_
            refine LW.p rfl rfl ?_
            refine LW.u (Pur.pickF rfl rfl) rfl ?_
            refine LW.nil ?_
            replace h := Option.some.inj h
            subst h
            exact ⟨⟨rfl, rfl, rfl, trivial⟩, hS30.pick [0] rfl rfl⟩
          intro e w143 hM
          obtain ⟨hE, hS31⟩ := hM
          obtain ⟨e, rfl⟩ := hE.out
          have h := h125
          show CW _ _ _ _ _ _
          refine CW.cond rfl (fun hc144 => ?_) (fun hc144 => ?_)
          · replace h := bcT h hc144
            refine CW.seq ?_
            refine CW.region ?_
            refine LW.p rfl rfl ?_
            refine LW.nil ?_
            show CW _ _ _ _ _ _
            refine CW.ret ?_
            replace h := Option.some.inj h
            subst h
            exact ⟨trivial, rfl, _, rfl, ⟨_, Res.one (resOne.t rfl), rfl, hS31.pick [] rfl rfl⟩⟩
          replace h := bcF h hc144
          refine CW.skip ?_
          show CW _ _ _ _ _ _
          refine CW.region ?_
          iterate 3 refine LW.p rfl rfl ?_
          refine LW.nil ?_
          replace h := Option.some.inj h
          subst h
          exact ⟨rfl, ⟨⟨rfl, rfl, trivial⟩, hS31.pick [0] rfl rfl⟩⟩
        replace h := bcF h hc123
        refine CW.exit ?_
        replace h := Option.some.inj h
        subst h
        exact ⟨trivial, rfl, ⟨trivial, hS27.pick [0] rfl rfl⟩⟩
      intro x e w147 hM
      rcases o145 with o145 | r148
      · obtain ⟨rfl, hM⟩ := hM
        obtain ⟨hE, hS32⟩ := hM
        obtain ⟨e, rfl⟩ := hE.out
        have h := h146
        show CW _ _ _ _ _ _
        refine CW.seq ?_
        refine CW.region ?_
        refine LW.p rfl rfl ?_
        refine LW.nil ?_
        show CW _ _ _ _ _ _
        refine CW.fresh (l := [(2, .bool true)]) ⟨rfl, trivial⟩ (fun e => ?_)
        refine CW.ret ?_
        cases h
        exact And.intro trivial ⟨_, Res.one (resOne.t rfl), rfl, hS32.pick [] rfl rfl⟩
      obtain ⟨rfl, u, rfl, hM⟩ := hM
      cases h146
      exact And.intro trivial hM
    obtain ⟨rfl, u, rfl, hM⟩ := hM
    cases h113
    exact And.intro trivial hM
  obtain ⟨rfl, u, rfl, hM⟩ := hM
  cases h58
  exact And.intro trivial hM

theorem W_s_ArenaOk {w0 : World} {N : Nat} {x0 : List DObj} {r : Bool} (h : F_s_ArenaOk N x0 = some r) {a0_0 : Option Addr} {n0_0 c0_0 : Nat} (hn0_0 : n0_0 = x0.length) (hr0_0 : rdS (Bor w0 []) w0 a0_0 c0_0 x0) :
    Ret Try.prog 165 #[.slice a0_0 n0_0 c0_0] w0 (fun v w => v = .bool r ∧ St w0 [] w []) := by
  subst hn0_0
  unfold F_s_ArenaOk at h
  refine Ret.of Try.func165 rfl rfl rfl ?_
  have hS1 := St.start w0
  refine CW.seq ?_
  refine CW.region ?_
  refine LW.p rfl rfl ?_
  refine LW.nil ?_
  show CW _ _ _ _ _ _
  refine CW.seq ?_
  refine CW.seq ?_
  obtain ⟨j1, hj1, h2⟩ := obind h
  refine CW.cut (fun e wb => En e [(0, .slice a0_0 x0.length c0_0), (29, .bool j1)] ∧ St w0 [] wb []) ?_ ?_
  · have h := hj1
    refine CW.region ?_
    refine LW.p rfl rfl ?_
    refine LW.u (Pur.len Try.underlying68 rfl) rfl ?_
    iterate 2 refine LW.p rfl rfl ?_
    rcases bcases ((x0.length : Int) != 10) with hc3 | hc3
    · replace h := bcT h hc3
      refine LW.gN (want_not rfl rfl hc3) rfl ?_
      refine LW.gN (want_not rfl rfl hc3) rfl ?_
      refine LW.gN (want_not rfl rfl hc3) rfl ?_
      refine LW.gN (want_not rfl rfl hc3) rfl ?_
      refine LW.gN (want_not rfl rfl hc3) rfl ?_
      refine LW.u (Pur.pickT rfl hc3) rfl ?_
      refine LW.p rfl rfl ?_
      refine LW.gN (want_not rfl rfl rfl) rfl ?_
      refine LW.gN (want_not rfl rfl rfl) rfl ?_
      refine LW.gN (want_not rfl rfl rfl) rfl ?_
      refine LW.gN (want_not rfl rfl rfl) rfl ?_
      refine LW.gN (want_not rfl rfl rfl) rfl ?_
      refine LW.u (Pur.pickT rfl rfl) rfl ?_
      refine LW.p rfl rfl ?_
      refine LW.gN (want_not rfl rfl rfl) rfl ?_
      refine LW.gN (want_not rfl rfl rfl) rfl ?_
      refine LW.gN (want_not rfl rfl rfl) rfl ?_
      refine LW.gN (want_not rfl rfl rfl) rfl ?_
      refine LW.gN (want_not rfl rfl rfl) rfl ?_
      refine LW.fresh (l := [(0, .slice a0_0 x0.length c0_0), (23, .bool true), (28, undef)]) ⟨rfl, rfl, rfl, trivial⟩ (fun e => ?_)
      refine LW.u (Pur.pickT rfl rfl) rfl ?_
      refine LW.nil ?_
      replace h := Option.some.inj h
      subst h
      exact ⟨⟨rfl, rfl, trivial⟩, hS1.pick [] rfl rfl⟩
    replace h := bcF h hc3
    refine LW.gY (want_of rfl rfl hc3) ?_
    refine LW.p rfl rfl ?_
    replace h := obind h
    obtain ⟨y4, hy4, h⟩ := h
    obtain ⟨b7, o8, cs9, hae, hb12, hp5, hq6, hd10, hk11⟩ := hr0_0.idx hy4
    subst hae
    obtain ⟨a13, c14, a16, c17, a19, c20, rfl, hr15, hr18, hr21⟩ := hd10
    refine LW.gY (want_of rfl rfl hc3) ?_
    refine LW.u (Pur.ix Try.underlying68 sz123 rfl rfl hp5 hq6) rfl ?_
    refine LW.gY (want_of rfl rfl hc3) ?_
    refine LW.u (Pur.fa fo123_1 rfl) rfl ?_
    refine LW.gY (want_of rfl rfl hc3) ?_
    refine LW.l (Ldr.old w0 ag3 rfl (hk11 1 _ rfl)) (hS1.same _ hb12.1 hb12.2) rfl ?_
    refine LW.gY (want_of rfl rfl hc3) ?_
    refine LW.p rfl rfl ?_
    refine LW.u (Pur.pickF rfl hc3) rfl ?_
    refine LW.p rfl rfl ?_
    rcases bcases (y4.kind != 1) with hc22 | hc22
    · replace h := bcT h hc22
      refine LW.gN (want_not rfl rfl hc22) rfl ?_
      refine LW.gN (want_not rfl rfl hc22) rfl ?_
      refine LW.gN (want_not rfl rfl hc22) rfl ?_
      refine LW.gN (want_not rfl rfl hc22) rfl ?_
      refine LW.gN (want_not rfl rfl hc22) rfl ?_
      refine LW.u (Pur.pickT rfl hc22) rfl ?_
      refine LW.p rfl rfl ?_
      refine LW.gN (want_not rfl rfl rfl) rfl ?_
      refine LW.gN (want_not rfl rfl rfl) rfl ?_
      refine LW.gN (want_not rfl rfl rfl) rfl ?_
      refine LW.fresh (l := [(0, .slice (some ⟨b7, o8, none⟩) x0.length c0_0), (23, .bool true), (26, undef)]) ⟨rfl, rfl, rfl, trivial⟩ (fun e => ?_)
      refine LW.gN (want_not rfl rfl rfl) rfl ?_
      refine LW.gN (want_not rfl rfl rfl) rfl ?_
      refine LW.u (Pur.pickT rfl rfl) rfl ?_
      refine LW.nil ?_
      replace h := Option.some.inj h
      subst h
      exact ⟨⟨rfl, rfl, trivial⟩, hS1.pick [] rfl rfl⟩
    replace h := bcF h hc22
    refine LW.gY (want_of rfl rfl hc22) ?_
    refine LW.p rfl rfl ?_
    refine LW.gY (want_of rfl rfl hc22) ?_
    refine LW.u (Pur.ix Try.underlying68 sz123 rfl rfl hp5 hq6) rfl ?_
    refine LW.gY (want_of rfl rfl hc22) ?_
    refine LW.u (Pur.fa fo123_2 rfl) rfl ?_
    refine LW.gY (want_of rfl rfl hc22) ?_
    refine LW.l (Ldr.old w0 ag3 rfl (hk11 2 _ rfl)) (hS1.same _ hb12.1 hb12.2) rfl ?_
    refine LW.gY (want_of rfl rfl hc22) ?_
    refine LW.p rfl rfl ?_
    refine LW.u (Pur.pickF rfl hc22) rfl ?_
    refine LW.p rfl rfl ?_
    rcases bcases (y4.box != (-1)) with hc23 | hc23
    · replace h := bcT h hc23
      refine LW.gN (want_not rfl rfl hc23) rfl ?_
      refine LW.gN (want_not rfl rfl hc23) rfl ?_
      refine LW.fresh (l := [(0, .slice (some ⟨b7, o8, none⟩) x0.length c0_0), (23, .bool (y4.box != (-1))), (25, undef)]) ⟨rfl, rfl, rfl, trivial⟩ (fun e => ?_)
      refine LW.gN (want_not rfl rfl hc23) rfl ?_
      refine LW.gN (want_not rfl rfl hc23) rfl ?_
      refine LW.gN (want_not rfl rfl hc23) rfl ?_
      refine LW.u (Pur.pickT rfl hc23) rfl ?_
      refine LW.nil ?_
      replace h := Option.some.inj h
      subst h
      exact ⟨⟨rfl, rfl, trivial⟩, hS1.pick [] rfl rfl⟩
    replace h := bcF h hc23
    refine LW.gY (want_of rfl rfl hc23) ?_
    refine LW.p rfl rfl ?_
    refine LW.gY (want_of rfl rfl hc23) ?_
    refine LW.u (Pur.ix Try.underlying68 sz123 rfl rfl hp5 hq6) rfl ?_
    refine LW.fresh (l := [(0, .slice (some ⟨b7, o8, none⟩) x0.length c0_0), (23, .bool (y4.box != (-1))), (25, .pointer (some ⟨b7, o8 + (0 : Int).toNat * 13, none⟩))]) ⟨rfl, rfl, rfl, trivial⟩ (fun e => ?_)
    refine LW.gY (want_of rfl rfl hc23) ?_
    refine LW.u (Pur.fa fo123_4 rfl) rfl ?_
    refine LW.gY (want_of rfl rfl hc23) ?_
    refine LW.l (Ldr.old w0 ag3 rfl (hk11 4 _ rfl)) (hS1.same _ hb12.1 hb12.2) rfl ?_
    refine LW.gY (want_of rfl rfl hc23) ?_
    refine LW.p rfl rfl ?_
    refine LW.u (Pur.pickF rfl hc23) rfl ?_
    refine LW.nil ?_
    replace h := Option.some.inj h
    subst h
    exact ⟨⟨rfl, rfl, trivial⟩, hS1.pick [] rfl rfl⟩
  intro e w24 hM
  obtain ⟨hE, hS2⟩ := hM
  obtain ⟨e, rfl⟩ := hE.out
  have h := h2
  show CW _ _ _ _ _ _
  refine CW.cond rfl (fun hc25 => ?_) (fun hc25 => ?_)
  · replace h := bcT h hc25
    refine CW.seq ?_
    refine CW.region ?_
    refine LW.p rfl rfl ?_
    refine LW.nil ?_
    show CW _ _ _ _ _ _
    refine CW.ret ?_
    cases h
    exact And.intro trivial ⟨_, Res.one (resOne.t rfl), rfl, hS2.pick [] rfl rfl⟩
  replace h := bcF h hc25
  refine CW.skip ?_
  show CW _ _ _ _ _ _
  refine CW.seq ?_
  refine CW.seq ?_
  refine CW.region ?_
  refine LW.p rfl rfl ?_
  refine LW.nil ?_
  show CW _ _ _ _ _ _
  refine CW.block ?_
  obtain ⟨o132, ho132, h133⟩ := obind h
  refine CW.mono (CW.iter (σ := Int) (ρ := Int ⊕ Bool) (fun s26 e wb => En e [(0, .slice a0_0 x0.length c0_0), (3, .int .i64 s26)] ∧ St w0 [] wb []) (fun o x e wb => match o with | .inl s26 => x = .exit 0 ∧ En e [] ∧ St w0 [] wb [] | .inr r => x = .ret ∧ ∃ u, u = r ∧ ∃ v, Res Try.prog Try.f165.results e wb v ∧ v = .bool u ∧ St w0 [] wb []) ?_ N 0 _ _ _ ⟨⟨rfl, rfl, trivial⟩, hS2.pick [] rfl rfl⟩ ho132) ?_
  · intro s26 e w27 o hM h
    obtain ⟨hE, hS3⟩ := hM
    obtain ⟨e, rfl⟩ := hE.out
    refine CW.seq ?_
    refine CW.seq ?_
    refine CW.region ?_
    iterate 2 refine LW.p rfl rfl ?_
    refine LW.u (Pur.len Try.underlying68 rfl) rfl ?_
    refine LW.p rfl rfl ?_
    refine LW.nil ?_
    show CW _ _ _ _ _ _
    refine CW.cond rfl (fun hc28 => ?_) (fun hc28 => ?_)
    · replace h := bcT h hc28
      refine CW.skip ?_
      show CW _ _ _ _ _ _
      refine CW.seq ?_
      refine CW.block ?_
      refine CW.seq ?_
      refine CW.seq ?_
      obtain ⟨j29, hj29, h30⟩ := obind h
      refine CW.cut (fun e wb => En e [(0, .slice a0_0 x0.length c0_0), (3, .int .i64 s26), (73, .bool j29)] ∧ St w0 [] wb []) ?_ ?_
      · have h := hj29
        refine CW.region ?_
        iterate 2 refine LW.p rfl rfl ?_
        replace h := obind h
        obtain ⟨y31, hy31, h⟩ := h
        obtain ⟨b34, o35, cs36, hae, hb39, hp32, hq33, hd37, hk38⟩ := hr0_0.idx hy31
        subst hae
        obtain ⟨a40, c41, a43, c44, a46, c47, rfl, hr42, hr45, hr48⟩ := hd37
        refine LW.u (Pur.ix Try.underlying68 sz123 rfl rfl hp32 hq33) rfl ?_
        refine LW.l (Ldr.oldN w0 ag123 rfl rfl (fun j u hu => hk38 j u hu)) (hS3.same _ hb39.1 hb39.2) rfl ?_
        replace h := obind h
        obtain ⟨y49, hy49, h⟩ := h
        have q := W_s_ObjOk (w0 := w27) hy49 rfl (hS3.rB hr42) rfl (hS3.rB hr45) rfl (hS3.rB hr48)
        refine LW.call pl190 rfl rfl ?_
        refine Ret.mono q ?_
        rintro _ w50 ⟨rfl, hs⟩
        have hS4 := hS3.add hs
        iterate 2 refine LW.p rfl rfl ?_
        rcases bcases (!y49) with hc51 | hc51
        · replace h := bcT h hc51
          refine LW.gN (want_not rfl rfl hc51) rfl ?_
          refine LW.gN (want_not rfl rfl hc51) rfl ?_
          refine LW.gN (want_not rfl rfl hc51) rfl ?_
          refine LW.gN (want_not rfl rfl hc51) rfl ?_
          refine LW.gN (want_not rfl rfl hc51) rfl ?_
          refine LW.gN (want_not rfl rfl hc51) rfl ?_
          refine LW.gN (want_not rfl rfl hc51) rfl ?_
          refine LW.gN (want_undef rfl rfl) rfl ?_
          refine LW.gN (want_undef rfl rfl) rfl ?_
          refine LW.gN (want_not rfl rfl hc51) rfl ?_
          refine LW.fresh (l := [(0, .slice (some ⟨b34, o35, none⟩) x0.length c0_0), (3, .int .i64 s26), (42, .bool (!y49)), (52, undef)]) ⟨rfl, rfl, rfl, rfl, trivial⟩ (fun e => ?_)
          refine LW.gN (want_not rfl rfl hc51) rfl ?_
          refine LW.gN (want_undef rfl rfl) rfl ?_
          refine LW.gN (want_undef rfl rfl) rfl ?_
          refine LW.gN (want_undef rfl rfl) rfl ?_
          refine LW.gN (want_undef rfl rfl) rfl ?_
          refine LW.gN (want_undef rfl rfl) rfl ?_
          refine LW.gN (want_undef rfl rfl) rfl ?_
          refine LW.gN (want_not rfl rfl hc51) rfl ?_
          refine LW.gN (want_not rfl rfl hc51) rfl ?_
          refine LW.gN (want_undef rfl rfl) rfl ?_
          refine LW.gN (want_undef rfl rfl) rfl ?_
          refine LW.gN (want_undef rfl rfl) rfl ?_
          refine LW.gN (want_undef rfl rfl) rfl ?_
          refine LW.gN (want_undef rfl rfl) rfl ?_
          refine LW.gN (want_undef rfl rfl) rfl ?_
          refine LW.gN (want_undef rfl rfl) rfl ?_
          refine LW.gN (want_undef rfl rfl) rfl ?_
          refine LW.gN (want_undef rfl rfl) rfl ?_
          refine LW.gN (want_undef rfl rfl) rfl ?_
          refine LW.gN (want_not rfl rfl hc51) rfl ?_
          refine LW.u (Pur.pickT rfl hc51) rfl ?_
          refine LW.nil ?_
          replace h := Option.some.inj h
          subst h
          exact ⟨⟨rfl, rfl, rfl, trivial⟩, hS4.pick [] rfl rfl⟩
        replace h := bcF h hc51
        refine LW.gY (want_of rfl rfl hc51) ?_
        refine LW.p rfl rfl ?_
        refine LW.gY (want_of rfl rfl hc51) ?_
        refine LW.p rfl rfl ?_
        refine LW.gY (want_of rfl rfl hc51) ?_
        refine LW.u (Pur.ix Try.underlying68 sz123 rfl rfl hp32 hq33) rfl ?_
        refine LW.gY (want_of rfl rfl hc51) ?_
        refine LW.u (Pur.fa fo123_1 rfl) rfl ?_
        refine LW.gY (want_of rfl rfl hc51) ?_
        refine LW.l (Ldr.old w0 ag3 rfl (hk38 1 _ rfl)) (hS4.same _ hb39.1 hb39.2) rfl ?_
        refine LW.gY (want_of rfl rfl hc51) ?_
        refine LW.p rfl rfl ?_
        refine LW.gY (want_of rfl rfl hc51) ?_
        refine LW.p rfl rfl ?_
        rcases bcases (y31.kind != 0) with hc52 | hc52
        · replace h := bcT h hc52
          refine LW.gY (want_of rfl rfl hc52) ?_
          refine LW.p rfl rfl ?_
          refine LW.gY (want_of rfl rfl hc52) ?_
          refine LW.p rfl rfl ?_
          refine LW.fresh (l := [(0, .slice (some ⟨b34, o35, none⟩) x0.length c0_0), (3, .int .i64 s26), (42, .bool (!y49)), (49, .bool (y31.kind != 0)), (51, .bool (decide (s26 > 0)))]) ⟨rfl, rfl, rfl, rfl, rfl, trivial⟩ (fun e => ?_)
          refine LW.gY (want_of rfl rfl hc51) ?_
          refine LW.u (Pur.pickT rfl hc52) rfl ?_
          refine LW.gY (want_of rfl rfl hc51) ?_
          refine LW.p rfl rfl ?_
          rcases bcases (decide (s26 > 0)) with hc53 | hc53
          · replace h := bcT h hc53
            refine LW.gY (want_of rfl rfl hc53) ?_
            refine LW.p rfl rfl ?_
            refine LW.gY (want_of rfl rfl hc53) ?_
            refine LW.p rfl rfl ?_
            refine LW.gY (want_of rfl rfl hc53) ?_
            refine LW.u (Pur.ix Try.underlying68 sz123 rfl rfl hp32 hq33) rfl ?_
            refine LW.gY (want_of rfl rfl hc53) ?_
            refine LW.u (Pur.fa fo123_2 rfl) rfl ?_
            refine LW.gY (want_of rfl rfl hc53) ?_
            refine LW.l (Ldr.old w0 ag3 rfl (hk38 2 _ rfl)) (hS4.same _ hb39.1 hb39.2) rfl ?_
            refine LW.gY (want_of rfl rfl hc53) ?_
            refine LW.p rfl rfl ?_
            refine LW.gY (want_of rfl rfl hc51) ?_
            refine LW.u (Pur.pickT rfl hc53) rfl ?_
            refine LW.gY (want_of rfl rfl hc51) ?_
            refine LW.p rfl rfl ?_
            rcases bcases (decide (y31.box ≥ 0)) with hc54 | hc54
            · replace h := bcT h hc54
              refine LW.gY (want_of rfl rfl hc54) ?_
              refine LW.p rfl rfl ?_
              refine LW.gY (want_of rfl rfl hc54) ?_
              refine LW.p rfl rfl ?_
              refine LW.gY (want_of rfl rfl hc54) ?_
              refine LW.p rfl rfl ?_
              refine LW.gY (want_of rfl rfl hc54) ?_
              refine LW.u (Pur.ix Try.underlying68 sz123 rfl rfl hp32 hq33) rfl ?_
              refine LW.gY (want_of rfl rfl hc54) ?_
              refine LW.u (Pur.fa fo123_2 rfl) rfl ?_
              refine LW.gY (want_of rfl rfl hc54) ?_
              refine LW.l (Ldr.old w0 ag3 rfl (hk38 2 _ rfl)) (hS4.same _ hb39.1 hb39.2) rfl ?_
              replace h := obind h
              obtain ⟨y55, hy55, h⟩ := h
              obtain ⟨b58, o59, cs60, hae, hb63, hp56, hq57, hd61, hk62⟩ := hr0_0.idx hy55
              cases hae
              obtain ⟨a64, c65, a67, c68, a70, c71, rfl, hr66, hr69, hr72⟩ := hd61
              refine LW.gY (want_of rfl rfl hc54) ?_
              refine LW.u (Pur.ix Try.underlying68 sz123 rfl rfl hp56 hq57) rfl ?_
              refine LW.gY (want_of rfl rfl hc54) ?_
              refine LW.u (Pur.fa fo123_1 rfl) rfl ?_
              refine LW.gY (want_of rfl rfl hc54) ?_
              refine LW.l (Ldr.old w0 ag3 rfl (hk62 1 _ rfl)) (hS4.same _ hb63.1 hb63.2) rfl ?_
              refine LW.gY (want_of rfl rfl hc54) ?_
              refine LW.p rfl rfl ?_
              refine LW.gY (want_of rfl rfl hc51) ?_
              refine LW.u (Pur.pickT rfl hc54) rfl ?_
              refine LW.u (Pur.pickF rfl hc51) rfl ?_
              refine LW.nil ?_
              replace h := Option.some.inj h
              subst h
              exact ⟨⟨rfl, rfl, rfl, trivial⟩, hS4.pick [] rfl rfl⟩
            replace h := bcF h hc54
            refine LW.gN (want_not rfl rfl hc54) rfl ?_
            refine LW.gN (want_not rfl rfl hc54) rfl ?_
            refine LW.gN (want_not rfl rfl hc54) rfl ?_
            refine LW.gN (want_not rfl rfl hc54) rfl ?_
            refine LW.gN (want_not rfl rfl hc54) rfl ?_
            refine LW.gN (want_not rfl rfl hc54) rfl ?_
            refine LW.gN (want_not rfl rfl hc54) rfl ?_
            refine LW.gN (want_not rfl rfl hc54) rfl ?_
            refine LW.gN (want_not rfl rfl hc54) rfl ?_
            refine LW.gN (want_not rfl rfl hc54) rfl ?_
            refine LW.gY (want_of rfl rfl hc51) ?_
            refine LW.u (Pur.pickF rfl hc54) rfl ?_
            refine LW.u (Pur.pickF rfl hc51) rfl ?_
            refine LW.nil ?_
            replace h := Option.some.inj h
            subst h
            exact ⟨⟨rfl, rfl, rfl, trivial⟩, hS4.pick [] rfl rfl⟩
          replace h := bcF h hc53
          refine LW.gN (want_not rfl rfl hc53) rfl ?_
          refine LW.gN (want_not rfl rfl hc53) rfl ?_
          refine LW.gN (want_not rfl rfl hc53) rfl ?_
          refine LW.gN (want_not rfl rfl hc53) rfl ?_
          refine LW.gN (want_not rfl rfl hc53) rfl ?_
          refine LW.gN (want_not rfl rfl hc53) rfl ?_
          refine LW.gY (want_of rfl rfl hc51) ?_
          refine LW.u (Pur.pickF rfl hc53) rfl ?_
          refine LW.gY (want_of rfl rfl hc51) ?_
          refine LW.p rfl rfl ?_
          refine LW.gN (want_not rfl rfl rfl) rfl ?_
          refine LW.gN (want_not rfl rfl rfl) rfl ?_
          refine LW.gN (want_not rfl rfl rfl) rfl ?_
          refine LW.gN (want_not rfl rfl rfl) rfl ?_
          refine LW.gN (want_not rfl rfl rfl) rfl ?_
          refine LW.gN (want_not rfl rfl rfl) rfl ?_
          refine LW.gN (want_not rfl rfl rfl) rfl ?_
          refine LW.gN (want_not rfl rfl rfl) rfl ?_
          refine LW.gN (want_not rfl rfl rfl) rfl ?_
          refine LW.gN (want_not rfl rfl rfl) rfl ?_
          refine LW.gY (want_of rfl rfl hc51) ?_
          refine LW.u (Pur.pickF rfl rfl) rfl ?_
          refine LW.u (Pur.pickF rfl hc51) rfl ?_
          refine LW.nil ?_
          replace h := Option.some.inj h
          subst h
          exact ⟨⟨rfl, rfl, rfl, trivial⟩, hS4.pick [] rfl rfl⟩
        replace h := bcF h hc52
        refine LW.gN (want_not rfl rfl hc52) rfl ?_
        refine LW.gN (want_not rfl rfl hc52) rfl ?_
        refine LW.fresh (l := [(0, .slice (some ⟨b34, o35, none⟩) x0.length c0_0), (3, .int .i64 s26), (42, .bool (!y49)), (49, .bool (y31.kind != 0)), (51, undef)]) ⟨rfl, rfl, rfl, rfl, rfl, trivial⟩ (fun e => ?_)
        refine LW.gY (want_of rfl rfl hc51) ?_
        refine LW.u (Pur.pickF rfl hc52) rfl ?_
        refine LW.gY (want_of rfl rfl hc51) ?_
        refine LW.p rfl rfl ?_
        refine LW.gN (want_not rfl rfl rfl) rfl ?_
        refine LW.gN (want_not rfl rfl rfl) rfl ?_
        refine LW.gN (want_not rfl rfl rfl) rfl ?_
        refine LW.gN (want_not rfl rfl rfl) rfl ?_
        refine LW.gN (want_not rfl rfl rfl) rfl ?_
        refine LW.gN (want_not rfl rfl rfl) rfl ?_
        refine LW.gY (want_of rfl rfl hc51) ?_
        refine LW.u (Pur.pickF rfl rfl) rfl ?_
        refine LW.gY (want_of rfl rfl hc51) ?_
        refine LW.p rfl rfl ?_
        refine LW.gN (want_not rfl rfl rfl) rfl ?_
        refine LW.gN (want_not rfl rfl rfl) rfl ?_
        refine LW.gN (want_not rfl rfl rfl) rfl ?_
        refine LW.gN (want_not rfl rfl rfl) rfl ?_
        refine LW.gN (want_not rfl rfl rfl) rfl ?_
        refine LW.gN (want_not rfl rfl rfl) rfl ?_
        refine LW.gN (want_not rfl rfl rfl) rfl ?_
        refine LW.gN (want_not rfl rfl rfl) rfl ?_
        refine LW.gN (want_not rfl rfl rfl) rfl ?_
        refine LW.gN (want_not rfl rfl rfl) rfl ?_
        refine LW.gY (want_of rfl rfl hc51) ?_
        refine LW.u (Pur.pickF rfl rfl) rfl ?_
        refine LW.u (Pur.pickF rfl hc51) rfl ?_
        refine LW.nil ?_
        replace h := Option.some.inj h
        subst h
        exact ⟨⟨rfl, rfl, rfl, trivial⟩, hS4.pick [] rfl rfl⟩
      intro e w73 hM
      obtain ⟨hE, hS5⟩ := hM
      obtain ⟨e, rfl⟩ := hE.out
      have h := h30
      show CW _ _ _ _ _ _
      refine CW.cond rfl (fun hc74 => ?_) (fun hc74 => ?_)
      · replace h := bcT h hc74
        refine CW.seq ?_
        refine CW.region ?_
        refine LW.p rfl rfl ?_
        refine LW.nil ?_
        show CW _ _ _ _ _ _
        refine CW.ret ?_
        replace h := Option.some.inj h
        subst h
        exact ⟨trivial, rfl, _, rfl, ⟨_, Res.one (resOne.t rfl), rfl, hS5.pick [] rfl rfl⟩⟩
      replace h := bcF h hc74
      refine CW.skip ?_
      show CW _ _ _ _ _ _
      refine CW.seq ?_
      refine CW.region ?_
      refine LW.p rfl rfl ?_
      refine LW.nil ?_
      show CW _ _ _ _ _ _
      refine CW.block ?_
      obtain ⟨o128, ho128, h129⟩ := obind h
      refine CW.mono (CW.iter (σ := Int) (ρ := Int ⊕ Bool) (fun s75 e wb => En e [(0, .slice a0_0 x0.length c0_0), (3, .int .i64 s26), (4, .int .i64 s75)] ∧ St w0 [] wb []) (fun o x e wb => match o with | .inl s75 => x = .exit 2 ∧ En e [(0, .slice a0_0 x0.length c0_0), (3, .int .i64 s26)] ∧ St w0 [] wb [] | .inr r => x = .ret ∧ ∃ u, u = r ∧ ∃ v, Res Try.prog Try.f165.results e wb v ∧ v = .bool u ∧ St w0 [] wb []) ?_ N 0 _ _ _ ⟨⟨rfl, rfl, rfl, trivial⟩, hS5.pick [] rfl rfl⟩ ho128) ?_
      · intro s75 e w76 o hM h
        obtain ⟨hE, hS6⟩ := hM
        obtain ⟨e, rfl⟩ := hE.out
        refine CW.seq ?_
        refine CW.seq ?_
        refine CW.region ?_
        iterate 3 refine LW.p rfl rfl ?_
        replace h := obind h
        obtain ⟨y77, hy77, h⟩ := h
        obtain ⟨b80, o81, cs82, hae, hb85, hp78, hq79, hd83, hk84⟩ := hr0_0.idx hy77
        subst hae
        obtain ⟨a86, c87, a89, c90, a92, c93, rfl, hr88, hr91, hr94⟩ := hd83
        refine LW.u (Pur.ix Try.underlying68 sz123 rfl rfl hp78 hq79) rfl ?_
        refine LW.u (Pur.fa fo123_10 rfl) rfl ?_
        refine LW.l (Ldr.old w0 ag24 rfl (hk84 10 _ rfl)) (hS6.same _ hb85.1 hb85.2) rfl ?_
        refine LW.u (Pur.len Try.underlying24 rfl) rfl ?_
        refine LW.p rfl rfl ?_
        refine LW.nil ?_
        show CW _ _ _ _ _ _
        refine CW.fresh (l := [(0, .slice (some ⟨b80, o81, none⟩) x0.length c0_0), (3, .int .i64 s26), (4, .int .i64 s75), (81, .bool (decide (s75 < (y77.links.length : Int))))]) ⟨rfl, rfl, rfl, rfl, trivial⟩ (fun e => ?_)
        refine CW.cond rfl (fun hc95 => ?_) (fun hc95 => ?_)
        · replace h := bcT h hc95
          refine CW.skip ?_
          show CW _ _ _ _ _ _
          refine CW.seq ?_
          refine CW.block ?_
          refine CW.seq ?_
          refine CW.region ?_
          iterate 2 refine LW.p rfl rfl ?_
          refine LW.u (Pur.ix Try.underlying68 sz123 rfl rfl hp78 hq79) rfl ?_
          refine LW.u (Pur.fa fo123_10 rfl) rfl ?_
          refine LW.l (Ldr.old w0 ag24 rfl (hk84 10 _ rfl)) (hS6.same _ hb85.1 hb85.2) rfl ?_
          refine LW.p rfl rfl ?_
          replace h := obind h
          obtain ⟨y96, hy96, h⟩ := h
          obtain ⟨b99, o100, cs101, hae, hb104, hp97, hq98, hd102, hk103⟩ := hr88.idx hy96
          subst hae
          obtain rfl := hd102
          refine LW.u (Pur.ix Try.underlying24 sz3 rfl rfl hp97 hq98) rfl ?_
          refine LW.l (Ldr.old w0 ag3 rfl (hk103 0 _ rfl)) (hS6.same _ hb104.1 hb104.2) rfl ?_
          refine LW.p rfl rfl ?_
          refine LW.nil ?_
          show CW _ _ _ _ _ _
          refine CW.seq ?_
          obtain ⟨j105, hj105, h106⟩ := obind h
          refine CW.cut (fun e wb => En e [(0, .slice (some ⟨b80, o81, none⟩) x0.length c0_0), (3, .int .i64 s26), (4, .int .i64 s75), (101, .bool j105)] ∧ St w0 [] wb []) ?_ ?_
          · have h := hj105
            refine CW.region ?_
            iterate 3 refine LW.p rfl rfl ?_
            rcases bcases (decide (y96 ≥ 0)) with hc107 | hc107
            · replace h := bcT h hc107
              refine LW.gY (want_of rfl rfl hc107) ?_
              refine LW.p rfl rfl ?_
              refine LW.gY (want_of rfl rfl hc107) ?_
              refine LW.p rfl rfl ?_
              replace h := obind h
              obtain ⟨y108, hy108, h⟩ := h
              obtain ⟨b111, o112, cs113, hae, hb116, hp109, hq110, hd114, hk115⟩ := hr0_0.idx hy108
              cases hae
              obtain ⟨a117, c118, a120, c121, a123, c124, rfl, hr119, hr122, hr125⟩ := hd114
              refine LW.gY (want_of rfl rfl hc107) ?_
              refine LW.u (Pur.ix Try.underlying68 sz123 rfl rfl hp109 hq110) rfl ?_
              refine LW.gY (want_of rfl rfl hc107) ?_
              refine LW.u (Pur.fa fo123_1 rfl) rfl ?_
              refine LW.gY (want_of rfl rfl hc107) ?_
              refine LW.l (Ldr.old w0 ag3 rfl (hk115 1 _ rfl)) (hS6.same _ hb116.1 hb116.2) rfl ?_
              refine LW.gY (want_of rfl rfl hc107) ?_
              refine LW.p rfl rfl ?_
              refine LW.u (Pur.pickT rfl hc107) rfl ?_
              refine LW.nil ?_
              replace h := Option.some.inj h
              subst h
              exact ⟨⟨rfl, rfl, rfl, rfl, trivial⟩, hS6.pick [] rfl rfl⟩
            replace h := bcF h hc107
            refine LW.gN (want_not rfl rfl hc107) rfl ?_
            refine LW.gN (want_not rfl rfl hc107) rfl ?_
            refine LW.gN (want_not rfl rfl hc107) rfl ?_
            refine LW.gN (want_not rfl rfl hc107) rfl ?_
            refine LW.gN (want_not rfl rfl hc107) rfl ?_
            refine LW.gN (want_not rfl rfl hc107) rfl ?_
            refine LW.u (Pur.pickF rfl hc107) rfl ?_
            refine LW.nil ?_
            replace h := Option.some.inj h
            subst h
            exact ⟨⟨rfl, rfl, rfl, rfl, trivial⟩, hS6.pick [] rfl rfl⟩
          intro e w126 hM
          obtain ⟨hE, hS7⟩ := hM
          obtain ⟨e, rfl⟩ := hE.out
          have h := h106
          show CW _ _ _ _ _ _
          refine CW.cond rfl (fun hc127 => ?_) (fun hc127 => ?_)
          · replace h := bcT h hc127
            refine CW.seq ?_
            refine CW.region ?_
            refine LW.p rfl rfl ?_
            refine LW.nil ?_
            show CW _ _ _ _ _ _
            refine CW.ret ?_
            replace h := Option.some.inj h
            subst h
            exact ⟨trivial, rfl, _, rfl, ⟨_, Res.one (resOne.t rfl), rfl, hS7.pick [] rfl rfl⟩⟩
          replace h := bcF h hc127
          refine CW.skip ?_
          show CW _ _ _ _ _ _
          refine CW.region ?_
          iterate 3 refine LW.p rfl rfl ?_
          refine LW.nil ?_
          replace h := Option.some.inj h
          subst h
          exact ⟨rfl, ⟨⟨rfl, rfl, rfl, trivial⟩, hS7.pick [] rfl rfl⟩⟩
        replace h := bcF h hc95
        refine CW.exit ?_
        replace h := Option.some.inj h
        subst h
        exact ⟨trivial, rfl, ⟨⟨rfl, rfl, trivial⟩, hS6.pick [] rfl rfl⟩⟩
      intro x e w130 hM
      rcases o128 with o128 | r131
      · obtain ⟨rfl, hM⟩ := hM
        obtain ⟨hE, hS8⟩ := hM
        obtain ⟨e, rfl⟩ := hE.out
        have h := h129
        show CW _ _ _ _ _ _
        refine CW.region ?_
        iterate 3 refine LW.p rfl rfl ?_
        refine LW.nil ?_
        replace h := Option.some.inj h
        subst h
        exact ⟨rfl, ⟨⟨rfl, rfl, trivial⟩, hS8.pick [] rfl rfl⟩⟩
      obtain ⟨rfl, u, rfl, hM⟩ := hM
      cases h129
      exact ⟨trivial, rfl, _, rfl, hM⟩
    replace h := bcF h hc28
    refine CW.exit ?_
    replace h := Option.some.inj h
    subst h
    exact ⟨trivial, rfl, ⟨trivial, hS3.pick [] rfl rfl⟩⟩
  intro x e w134 hM
  rcases o132 with o132 | r135
  · obtain ⟨rfl, hM⟩ := hM
    obtain ⟨hE, hS9⟩ := hM
    obtain ⟨e, rfl⟩ := hE.out
    have h := h133
    show CW _ _ _ _ _ _
    refine CW.seq ?_
    refine CW.region ?_
    refine LW.p rfl rfl ?_
    refine LW.nil ?_
    show CW _ _ _ _ _ _
    refine CW.ret ?_
    cases h
    exact And.intro trivial ⟨_, Res.one (resOne.t rfl), rfl, hS9.pick [] rfl rfl⟩
  obtain ⟨rfl, u, rfl, hM⟩ := hM
  cases h133
  exact And.intro trivial hM

theorem W_s_l8Slot {w0 : World} {N : Nat} {x0 : Int} {r : Bool} (h : F_s_l8Slot N x0 = some r) :
    Ret Try.prog 146 #[.int .i64 x0] w0 (fun v w => v = .bool r ∧ St w0 [] w []) := by
  unfold F_s_l8Slot at h
  refine Ret.of Try.func146 rfl rfl rfl ?_
  have hS1 := St.start w0
  refine CW.seq ?_
  refine CW.region ?_
  refine LW.p rfl rfl ?_
  refine LW.nil ?_
  show CW _ _ _ _ _ _
  refine CW.seq ?_
  refine CW.region ?_
  refine LW.p rfl rfl ?_
  replace h := obind h
  obtain ⟨y1, hy1, h⟩ := h
  have q := W_s_l1In (w0 := w0) hy1
  refine LW.call pl81 rfl rfl ?_
  refine Ret.mono q ?_
  rintro _ w2 ⟨rfl, hs⟩
  have hS2 := hS1.add hs
  refine LW.p rfl rfl ?_
  refine LW.nil ?_
  show CW _ _ _ _ _ _
  refine CW.ret ?_
  cases h
  exact And.intro trivial ⟨_, Res.one (resOne.t rfl), rfl, hS2.pick [] rfl rfl⟩

end Go.Kx
