/- Each call returns what the plain function says. Printed by drive.py. -/
import Derived.Test.YtdjpppkdngmeaaaFa
import Derived.Test.YtdjpppkdngmeaaaPu
import Derived.Test.YtdjpppkdngmeaaaWa3
import Derived.Test.YtdjpppkdngmeaaaWa6
import Derived.Test.YtdjpppkdngmeaaaWa11
import Derived.Test.YtdjpppkdngmeaaaWa12
import Derived.Test.YtdjpppkdngmeaaaWa13
import Derived.Test.YtdjpppkdngmeaaaWa14
namespace Go.Kx
open Go Go.RowKit Go.Proofs
set_option maxRecDepth 10000
set_option maxHeartbeats 2000000
set_option linter.unusedVariables false
set_option linter.unusedSimpArgs false
theorem W_s_Expired {w0 : World} {N : Nat} {x0 : DObj} {x1 : Int} {r : Bool} (h : F_s_Expired N x0 x1 = some r) {a0_10 : Option Addr} {n0_10 c0_10 : Nat} (hn0_10 : n0_10 = x0.links.length) (hr0_10 : rdS (Bor w0 []) w0 a0_10 c0_10 x0.links) {a0_11 : Option Addr} {n0_11 c0_11 : Nat} (hn0_11 : n0_11 = x0.data.length) (hr0_11 : rdS (Bor w0 []) w0 a0_11 c0_11 x0.data) {a0_12 : Option Addr} {n0_12 c0_12 : Nat} (hn0_12 : n0_12 = x0.queue.length) (hr0_12 : rdS (Bor w0 []) w0 a0_12 c0_12 x0.queue) :
    Ret Try.prog 175 #[.agg #[.int .i64 x0.gen, .int .i64 x0.kind, .int .i64 x0.box, .int .i64 x0.res, .int .i64 x0.til, .int .i64 x0.pages, .int .i64 x0.wait, .int .i64 x0.got, .int .i64 x0.ran, .bool x0.mark, .slice a0_10 n0_10 c0_10, .slice a0_11 n0_11 c0_11, .slice a0_12 n0_12 c0_12], .int .i64 x1] w0 (fun v w => v = .bool r ∧ St w0 [] w []) := by
  subst hn0_10
  subst hn0_11
  subst hn0_12
  unfold F_s_Expired at h
  refine Ret.of Try.func175 rfl rfl rfl ?_
  have hS1 := St.start w0
  refine CW.seq ?_
  refine CW.region ?_
  refine LW.box (cs := [.int .i64 x0.gen, .int .i64 x0.kind, .int .i64 x0.box, .int .i64 x0.res, .int .i64 x0.til, .int .i64 x0.pages, .int .i64 x0.wait, .int .i64 x0.got, .int .i64 x0.ran, .bool x0.mark, .slice a0_10 x0.links.length c0_10, .slice a0_11 x0.data.length c0_11, .slice a0_12 x0.queue.length c0_12]) rfl hS1 rfl ?_
  intro g1 w2 hS2 hf
  refine LW.p rfl rfl ?_
  refine LW.nil ?_
  show CW _ _ _ _ _ _
  refine CW.seq ?_
  refine CW.region ?_
  refine LW.u (Pur.fa fo123_1 rfl) rfl ?_
  refine LW.ldb hS2 0 rfl ag3 rfl rfl rfl ?_
  iterate 2 refine LW.p rfl rfl ?_
  rcases bcases (x0.kind == 0) with hc3 | hc3
  · replace h := bcT h hc3
    refine LW.gN (want_not rfl rfl hc3) rfl ?_
    refine LW.gN (want_not rfl rfl hc3) rfl ?_
    refine LW.gN (want_not rfl rfl hc3) rfl ?_
    refine LW.gN (want_not rfl rfl hc3) rfl ?_
    refine LW.u (Pur.pickT rfl hc3) rfl ?_
    refine LW.p rfl rfl ?_
    refine LW.nil ?_
    show CW _ _ _ _ _ _
    refine CW.fresh (l := [(4, .bool true)]) ⟨rfl, trivial⟩ (fun e => ?_)
    refine CW.ret ?_
    cases h
    exact And.intro trivial ⟨_, Res.one (resOne.t rfl), rfl, hS2.pick [] rfl rfl⟩
  replace h := bcF h hc3
  refine LW.gY (want_of rfl rfl hc3) ?_
  refine LW.u (Pur.fa fo123_4 rfl) rfl ?_
  refine LW.gY (want_of rfl rfl hc3) ?_
  refine LW.ldb hS2 0 rfl ag3 rfl rfl rfl ?_
  refine LW.gY (want_of rfl rfl hc3) ?_
  refine LW.p rfl rfl ?_
  refine LW.gY (want_of rfl rfl hc3) ?_
  refine LW.p rfl rfl ?_
  refine LW.u (Pur.pickF rfl hc3) rfl ?_
  refine LW.p rfl rfl ?_
  refine LW.nil ?_
  show CW _ _ _ _ _ _
  refine CW.fresh (l := [(4, .bool (decide (x0.til < x1)))]) ⟨rfl, trivial⟩ (fun e => ?_)
  refine CW.ret ?_
  cases h
  exact And.intro trivial ⟨_, Res.one (resOne.t rfl), rfl, hS2.pick [] rfl rfl⟩

theorem W_s_Edges {w0 : World} {N : Nat} {x0 : List DObj} {x1 : Int} {r : (List Int)} (h : F_s_Edges N x0 x1 = some r) {a0_0 : Option Addr} {n0_0 c0_0 : Nat} (hn0_0 : n0_0 = x0.length) (hr0_0 : rdS (Bor w0 []) w0 a0_0 c0_0 x0) :
    Ret Try.prog 176 #[.slice a0_0 n0_0 c0_0, .int .i64 x1] w0 (fun v w => ∃ ar0 cr0, v = .slice ar0 r.length cr0 ∧ St w0 [] w [sl ar0 cr0 r]) := by
  subst hn0_0
  unfold F_s_Edges at h
  refine Ret.of Try.func176 rfl rfl rfl ?_
  have hS1 := St.start w0
  refine CW.seq ?_
  refine CW.region ?_
  refine LW.p rfl rfl ?_
  refine LW.nil ?_
  show CW _ _ _ _ _ _
  refine CW.seq ?_
  refine CW.region ?_
  refine LW.bsl (α := Int) (vs := []) (cs := #[]) (l := ([] : List Int)) rfl (by kernel_rfl) rfl rfl rfl (fun w => rfl) hS1 rfl ?_
  intro a1 c2 w3 hS2 hf
  refine LW.p rfl rfl ?_
  refine LW.nil ?_
  show CW _ _ _ _ _ _
  refine CW.seq ?_
  refine CW.seq ?_
  obtain ⟨j4, hj4, h5⟩ := obind h
  refine CW.cut (fun e wb => En e [(0, .slice a0_0 x0.length c0_0), (1, .int .i64 x1), (5, .slice a1 (([] : List Int).length) c2), (23, .bool j4)] ∧ St w0 [] wb [sl a1 c2 ([] : List Int)]) ?_ ?_
  · have h := hj4
    refine CW.region ?_
    refine LW.p rfl rfl ?_
    replace h := obind h
    obtain ⟨y6, hy6, h⟩ := h
    have q := W_s_ArenaOk (w0 := w3) hy6 rfl (hS2.rB hr0_0)
    refine LW.call pl165 rfl rfl ?_
    refine Ret.mono q ?_
    rintro _ w7 ⟨rfl, hs⟩
    have hS3 := hS2.add hs
    iterate 2 refine LW.p rfl rfl ?_
    rcases bcases (!y6) with hc8 | hc8
    · replace h := bcT h hc8
      refine LW.gN (want_not rfl rfl hc8) rfl ?_
      refine LW.gN (want_not rfl rfl hc8) rfl ?_
      refine LW.gN (want_not rfl rfl hc8) rfl ?_
      refine LW.u (Pur.pickT rfl hc8) rfl ?_
      refine LW.p rfl rfl ?_
      refine LW.gN (want_not rfl rfl rfl) rfl ?_
      refine LW.gN (want_not rfl rfl rfl) rfl ?_
      refine LW.gN (want_not rfl rfl rfl) rfl ?_
      refine LW.gN (want_not rfl rfl rfl) rfl ?_
      refine LW.gN (want_not rfl rfl rfl) rfl ?_
      refine LW.gN (want_not rfl rfl rfl) rfl ?_
      refine LW.u (Pur.pickT rfl rfl) rfl ?_
      refine LW.nil ?_
      replace h := Option.some.inj h
      subst h
      exact ⟨⟨rfl, rfl, rfl, rfl, trivial⟩, hS3.pick [0] rfl rfl⟩
    replace h := bcF h hc8
    refine LW.gY (want_of rfl rfl hc8) ?_
    refine LW.p rfl rfl ?_
    replace h := obind h
    obtain ⟨y9, hy9, h⟩ := h
    have q := W_s_l8Slot (w0 := w7) hy9
    refine LW.gY (want_of rfl rfl hc8) ?_
    refine LW.call pl146 rfl rfl ?_
    refine Ret.mono q ?_
    rintro _ w10 ⟨rfl, hs⟩
    have hS4 := hS3.add hs
    refine LW.gY (want_of rfl rfl hc8) ?_
    refine LW.p rfl rfl ?_
    refine LW.u (Pur.pickF rfl hc8) rfl ?_
    refine LW.p rfl rfl ?_
    rcases bcases (!y9) with hc11 | hc11
    · replace h := bcT h hc11
      refine LW.gN (want_not rfl rfl hc11) rfl ?_
      refine LW.gN (want_not rfl rfl hc11) rfl ?_
      refine LW.gN (want_not rfl rfl hc11) rfl ?_
      refine LW.gN (want_not rfl rfl hc11) rfl ?_
      refine LW.gN (want_not rfl rfl hc11) rfl ?_
      refine LW.gN (want_not rfl rfl hc11) rfl ?_
      refine LW.u (Pur.pickT rfl hc11) rfl ?_
      refine LW.nil ?_
      replace h := Option.some.inj h
      subst h
      exact ⟨⟨rfl, rfl, rfl, rfl, trivial⟩, hS4.pick [0] rfl rfl⟩
    replace h := bcF h hc11
    refine LW.gY (want_of rfl rfl hc11) ?_
    refine LW.p rfl rfl ?_
    refine LW.gY (want_of rfl rfl hc11) ?_
    refine LW.p rfl rfl ?_
    replace h := obind h
    obtain ⟨y12, hy12, h⟩ := h
    obtain ⟨b15, o16, cs17, hae, hb20, hp13, hq14, hd18, hk19⟩ := hr0_0.idx hy12
    subst hae
    obtain ⟨a21, c22, a24, c25, a27, c28, rfl, hr23, hr26, hr29⟩ := hd18
    refine LW.gY (want_of rfl rfl hc11) ?_
    refine LW.u (Pur.ix Try.underlying68 sz123 rfl rfl hp13 hq14) rfl ?_
    refine LW.gY (want_of rfl rfl hc11) ?_
    refine LW.u (Pur.fa fo123_1 rfl) rfl ?_
    refine LW.gY (want_of rfl rfl hc11) ?_
    refine LW.l (Ldr.old w0 ag3 rfl (hk19 1 _ rfl)) (hS4.same _ hb20.1 hb20.2) rfl ?_
    refine LW.gY (want_of rfl rfl hc11) ?_
    refine LW.p rfl rfl ?_
    refine LW.u (Pur.pickF rfl hc11) rfl ?_
    refine LW.nil ?_
    replace h := Option.some.inj h
    subst h
    exact ⟨⟨rfl, rfl, rfl, rfl, trivial⟩, hS4.pick [0] rfl rfl⟩
  intro e w30 hM
  obtain ⟨hE, hS5⟩ := hM
  obtain ⟨e, rfl⟩ := hE.out
  have h := h5
  show CW _ _ _ _ _ _
  refine CW.cond rfl (fun hc31 => ?_) (fun hc31 => ?_)
  · replace h := bcT h hc31
    refine CW.seq ?_
    refine CW.region ?_
    iterate 2 refine LW.p rfl rfl ?_
    refine LW.nil ?_
    show CW _ _ _ _ _ _
    refine CW.ret ?_
    cases h
    exact And.intro trivial ⟨_, Res.one (resOne.t rfl), a1, c2, rfl, hS5.pick [0] rfl rfl⟩
  replace h := bcF h hc31
  refine CW.skip ?_
  show CW _ _ _ _ _ _
  refine CW.seq ?_
  refine CW.seq ?_
  refine CW.region ?_
  refine LW.p rfl rfl ?_
  refine LW.nil ?_
  show CW _ _ _ _ _ _
  refine CW.block ?_
  obtain ⟨o146, ho146, h147⟩ := obind h
  refine CW.mono (CW.iter (σ := (List Int) × Int) (ρ := (List Int) × Int) (fun s32 e wb => ∃ (s32a0 : Option Addr), ∃ (s32c0 : Nat), En e [(0, .slice a0_0 x0.length c0_0), (1, .int .i64 x1), (5, .slice s32a0 s32.1.length s32c0), (6, .int .i64 s32.2)] ∧ St w0 [] wb [sl s32a0 s32c0 s32.1]) (fun s32 x e wb => x = .exit 0 ∧ ∃ (s32a0 : Option Addr), ∃ (s32c0 : Nat), En e [(5, .slice s32a0 s32.1.length s32c0)] ∧ St w0 [] wb [sl s32a0 s32c0 s32.1]) ?_ N (([] : List Int), 0) _ _ _ ⟨a1, c2, ⟨rfl, rfl, rfl, rfl, trivial⟩, hS5.pick [0] rfl rfl⟩ ho146) ?_
  · intro s32 e w33 o hM h
    obtain ⟨s32a0, s32c0, hE, hS6⟩ := hM
    obtain ⟨e, rfl⟩ := hE.out
    refine CW.seq ?_
    refine CW.seq ?_
    refine CW.region ?_
    iterate 2 refine LW.p rfl rfl ?_
    refine LW.u (Pur.len Try.underlying68 rfl) rfl ?_
    refine LW.p rfl rfl ?_
    refine LW.nil ?_
    show CW _ _ _ _ _ _
    refine CW.cond rfl (fun hc34 => ?_) (fun hc34 => ?_)
    · replace h := bcT h hc34
      refine CW.skip ?_
      show CW _ _ _ _ _ _
      refine CW.seq ?_
      refine CW.block ?_
      refine CW.seq ?_
      obtain ⟨j35, hj35, h36⟩ := obind h
      refine CW.cut (fun e wb => En e [(0, .slice a0_0 x0.length c0_0), (1, .int .i64 x1), (5, .slice s32a0 s32.1.length s32c0), (6, .int .i64 s32.2), (66, .bool j35)] ∧ St w0 [] wb [sl s32a0 s32c0 s32.1]) ?_ ?_
      · have h := hj35
        refine CW.region ?_
        iterate 3 refine LW.p rfl rfl ?_
        rcases bcases (decide (s32.2 > 0)) with hc37 | hc37
        · replace h := bcT h hc37
          refine LW.gY (want_of rfl rfl hc37) ?_
          refine LW.p rfl rfl ?_
          refine LW.gY (want_of rfl rfl hc37) ?_
          refine LW.p rfl rfl ?_
          replace h := obind h
          obtain ⟨y38, hy38, h⟩ := h
          obtain ⟨b41, o42, cs43, hae, hb46, hp39, hq40, hd44, hk45⟩ := hr0_0.idx hy38
          subst hae
          obtain ⟨a47, c48, a50, c51, a53, c54, rfl, hr49, hr52, hr55⟩ := hd44
          refine LW.gY (want_of rfl rfl hc37) ?_
          refine LW.u (Pur.ix Try.underlying68 sz123 rfl rfl hp39 hq40) rfl ?_
          refine LW.gY (want_of rfl rfl hc37) ?_
          refine LW.u (Pur.fa fo123_1 rfl) rfl ?_
          refine LW.gY (want_of rfl rfl hc37) ?_
          refine LW.l (Ldr.old w0 ag3 rfl (hk45 1 _ rfl)) (hS6.same _ hb46.1 hb46.2) rfl ?_
          refine LW.gY (want_of rfl rfl hc37) ?_
          refine LW.p rfl rfl ?_
          refine LW.u (Pur.pickT rfl hc37) rfl ?_
          refine LW.p rfl rfl ?_
          rcases bcases (y38.kind != 0) with hc56 | hc56
          · replace h := bcT h hc56
            refine LW.gY (want_of rfl rfl hc56) ?_
            refine LW.p rfl rfl ?_
            refine LW.gY (want_of rfl rfl hc56) ?_
            refine LW.p rfl rfl ?_
            refine LW.gY (want_of rfl rfl hc56) ?_
            refine LW.u (Pur.ix Try.underlying68 sz123 rfl rfl hp39 hq40) rfl ?_
            refine LW.fresh (l := [(0, .slice (some ⟨b41, o42, none⟩) x0.length c0_0), (1, .int .i64 x1), (5, .slice s32a0 s32.1.length s32c0), (6, .int .i64 s32.2), (41, .bool (y38.kind != 0)), (44, .pointer (some ⟨b41, o42 + (s32.2 : Int).toNat * 13, none⟩))]) ⟨rfl, rfl, rfl, rfl, rfl, rfl, trivial⟩ (fun e => ?_)
            refine LW.gY (want_of rfl rfl hc56) ?_
            refine LW.u (Pur.fa fo123_2 rfl) rfl ?_
            refine LW.gY (want_of rfl rfl hc56) ?_
            refine LW.l (Ldr.old w0 ag3 rfl (hk45 2 _ rfl)) (hS6.same _ hb46.1 hb46.2) rfl ?_
            refine LW.gY (want_of rfl rfl hc56) ?_
            refine LW.p rfl rfl ?_
            refine LW.gY (want_of rfl rfl hc56) ?_
            refine LW.p rfl rfl ?_
            refine LW.u (Pur.pickT rfl hc56) rfl ?_
            refine LW.p rfl rfl ?_
            rcases bcases (y38.box == x1) with hc57 | hc57
            · replace h := bcT h hc57
              refine LW.gY (want_of rfl rfl hc57) ?_
              refine LW.p rfl rfl ?_
              refine LW.gY (want_of rfl rfl hc57) ?_
              refine LW.p rfl rfl ?_
              replace h := obind h
              obtain ⟨y58, hy58, h⟩ := h
              obtain ⟨b61, o62, cs63, hae, hb66, hp59, hq60, hd64, hk65⟩ := hr0_0.idx hy58
              cases hae
              obtain ⟨a67, c68, a70, c71, a73, c74, rfl, hr69, hr72, hr75⟩ := hd64
              refine LW.gY (want_of rfl rfl hc57) ?_
              refine LW.u (Pur.ix Try.underlying68 sz123 rfl rfl hp59 hq60) rfl ?_
              refine LW.gY (want_of rfl rfl hc57) ?_
              refine LW.u (Pur.fa fo123_1 rfl) rfl ?_
              refine LW.gY (want_of rfl rfl hc57) ?_
              refine LW.l (Ldr.old w0 ag3 rfl (hk65 1 _ rfl)) (hS6.same _ hb66.1 hb66.2) rfl ?_
              refine LW.gY (want_of rfl rfl hc57) ?_
              refine LW.p rfl rfl ?_
              refine LW.u (Pur.pickT rfl hc57) rfl ?_
              refine LW.p rfl rfl ?_
              rcases bcases (y58.kind == 1) with hc76 | hc76
              · replace h := bcT h hc76
                refine LW.gN (want_not rfl rfl hc76) rfl ?_
                refine LW.gN (want_not rfl rfl hc76) rfl ?_
                refine LW.gN (want_not rfl rfl hc76) rfl ?_
                refine LW.gN (want_not rfl rfl hc76) rfl ?_
                refine LW.gN (want_not rfl rfl hc76) rfl ?_
                refine LW.gN (want_not rfl rfl hc76) rfl ?_
                refine LW.gN (want_not rfl rfl hc76) rfl ?_
                refine LW.u (Pur.pickT rfl hc76) rfl ?_
                refine LW.nil ?_
                replace h := Option.some.inj h
                subst h
                exact ⟨⟨rfl, rfl, rfl, rfl, rfl, trivial⟩, hS6.pick [0] rfl rfl⟩
              replace h := bcF h hc76
              refine LW.gY (want_of rfl rfl hc76) ?_
              refine LW.p rfl rfl ?_
              refine LW.gY (want_of rfl rfl hc76) ?_
              refine LW.p rfl rfl ?_
              refine LW.gY (want_of rfl rfl hc76) ?_
              refine LW.u (Pur.ix Try.underlying68 sz123 rfl rfl hp59 hq60) rfl ?_
              refine LW.gY (want_of rfl rfl hc76) ?_
              refine LW.u (Pur.fa fo123_10 rfl) rfl ?_
              refine LW.gY (want_of rfl rfl hc76) ?_
              refine LW.l (Ldr.old w0 ag24 rfl (hk65 10 _ rfl)) (hS6.same _ hb66.1 hb66.2) rfl ?_
              refine LW.gY (want_of rfl rfl hc76) ?_
              refine LW.p rfl rfl ?_
              replace h := obind h
              obtain ⟨y77, hy77, h⟩ := h
              have q := W_s_l4Has (w0 := w33) hy77 rfl (hS6.rB hr69)
              refine LW.gY (want_of rfl rfl hc76) ?_
              refine LW.call pl70 rfl rfl ?_
              refine Ret.mono q ?_
              rintro _ w78 ⟨rfl, hs⟩
              have hS7 := hS6.add hs
              refine LW.u (Pur.pickF rfl hc76) rfl ?_
              refine LW.nil ?_
              replace h := Option.some.inj h
              subst h
              exact ⟨⟨rfl, rfl, rfl, rfl, rfl, trivial⟩, hS7.pick [0] rfl rfl⟩
            replace h := bcF h hc57
            refine LW.gN (want_not rfl rfl hc57) rfl ?_
            refine LW.gN (want_not rfl rfl hc57) rfl ?_
            refine LW.gN (want_not rfl rfl hc57) rfl ?_
            refine LW.gN (want_not rfl rfl hc57) rfl ?_
            refine LW.gN (want_not rfl rfl hc57) rfl ?_
            refine LW.gN (want_not rfl rfl hc57) rfl ?_
            refine LW.u (Pur.pickF rfl hc57) rfl ?_
            refine LW.p rfl rfl ?_
            refine LW.gY (want_of rfl rfl rfl) ?_
            refine LW.p rfl rfl ?_
            refine LW.gY (want_of rfl rfl rfl) ?_
            refine LW.p rfl rfl ?_
            replace h := obind h
            obtain ⟨y79, hy79, h⟩ := h
            obtain ⟨b82, o83, cs84, hae, hb87, hp80, hq81, hd85, hk86⟩ := hr0_0.idx hy79
            cases hae
            obtain ⟨a88, c89, a91, c92, a94, c95, rfl, hr90, hr93, hr96⟩ := hd85
            refine LW.gY (want_of rfl rfl rfl) ?_
            refine LW.u (Pur.ix Try.underlying68 sz123 rfl rfl hp80 hq81) rfl ?_
            refine LW.gY (want_of rfl rfl rfl) ?_
            refine LW.u (Pur.fa fo123_10 rfl) rfl ?_
            refine LW.gY (want_of rfl rfl rfl) ?_
            refine LW.l (Ldr.old w0 ag24 rfl (hk86 10 _ rfl)) (hS6.same _ hb87.1 hb87.2) rfl ?_
            refine LW.gY (want_of rfl rfl rfl) ?_
            refine LW.p rfl rfl ?_
            replace h := obind h
            obtain ⟨y97, hy97, h⟩ := h
            have q := W_s_l4Has (w0 := w33) hy97 rfl (hS6.rB hr90)
            refine LW.gY (want_of rfl rfl rfl) ?_
            refine LW.call pl70 rfl rfl ?_
            refine Ret.mono q ?_
            rintro _ w98 ⟨rfl, hs⟩
            have hS8 := hS6.add hs
            refine LW.u (Pur.pickF rfl rfl) rfl ?_
            refine LW.nil ?_
            replace h := Option.some.inj h
            subst h
            exact ⟨⟨rfl, rfl, rfl, rfl, rfl, trivial⟩, hS8.pick [0] rfl rfl⟩
          replace h := bcF h hc56
          refine LW.gN (want_not rfl rfl hc56) rfl ?_
          refine LW.gN (want_not rfl rfl hc56) rfl ?_
          refine LW.gN (want_not rfl rfl hc56) rfl ?_
          refine LW.fresh (l := [(0, .slice (some ⟨b41, o42, none⟩) x0.length c0_0), (1, .int .i64 x1), (5, .slice s32a0 s32.1.length s32c0), (6, .int .i64 s32.2), (41, .bool (y38.kind != 0)), (44, undef)]) ⟨rfl, rfl, rfl, rfl, rfl, rfl, trivial⟩ (fun e => ?_)
          refine LW.gN (want_not rfl rfl hc56) rfl ?_
          refine LW.gN (want_not rfl rfl hc56) rfl ?_
          refine LW.gN (want_not rfl rfl hc56) rfl ?_
          refine LW.gN (want_not rfl rfl hc56) rfl ?_
          refine LW.u (Pur.pickF rfl hc56) rfl ?_
          refine LW.p rfl rfl ?_
          refine LW.gN (want_not rfl rfl rfl) rfl ?_
          refine LW.gN (want_not rfl rfl rfl) rfl ?_
          refine LW.gN (want_not rfl rfl rfl) rfl ?_
          refine LW.gN (want_not rfl rfl rfl) rfl ?_
          refine LW.gN (want_not rfl rfl rfl) rfl ?_
          refine LW.gN (want_not rfl rfl rfl) rfl ?_
          refine LW.u (Pur.pickF rfl rfl) rfl ?_
          refine LW.p rfl rfl ?_
          refine LW.gY (want_of rfl rfl rfl) ?_
          refine LW.p rfl rfl ?_
          refine LW.gY (want_of rfl rfl rfl) ?_
          refine LW.p rfl rfl ?_
          replace h := obind h
          obtain ⟨y99, hy99, h⟩ := h
          obtain ⟨b102, o103, cs104, hae, hb107, hp100, hq101, hd105, hk106⟩ := hr0_0.idx hy99
          cases hae
          obtain ⟨a108, c109, a111, c112, a114, c115, rfl, hr110, hr113, hr116⟩ := hd105
          refine LW.gY (want_of rfl rfl rfl) ?_
          refine LW.u (Pur.ix Try.underlying68 sz123 rfl rfl hp100 hq101) rfl ?_
          refine LW.gY (want_of rfl rfl rfl) ?_
          refine LW.u (Pur.fa fo123_10 rfl) rfl ?_
          refine LW.gY (want_of rfl rfl rfl) ?_
          refine LW.l (Ldr.old w0 ag24 rfl (hk106 10 _ rfl)) (hS6.same _ hb107.1 hb107.2) rfl ?_
          refine LW.gY (want_of rfl rfl rfl) ?_
          refine LW.p rfl rfl ?_
          replace h := obind h
          obtain ⟨y117, hy117, h⟩ := h
          have q := W_s_l4Has (w0 := w33) hy117 rfl (hS6.rB hr110)
          refine LW.gY (want_of rfl rfl rfl) ?_
          refine LW.call pl70 rfl rfl ?_
          refine Ret.mono q ?_
          rintro _ w118 ⟨rfl, hs⟩
          have hS9 := hS6.add hs
          refine LW.u (Pur.pickF rfl rfl) rfl ?_
          refine LW.nil ?_
          replace h := Option.some.inj h
          subst h
          exact ⟨⟨rfl, rfl, rfl, rfl, rfl, trivial⟩, hS9.pick [0] rfl rfl⟩
        replace h := bcF h hc37
        refine LW.gN (want_not rfl rfl hc37) rfl ?_
        refine LW.gN (want_not rfl rfl hc37) rfl ?_
        refine LW.gN (want_not rfl rfl hc37) rfl ?_
        refine LW.gN (want_not rfl rfl hc37) rfl ?_
        refine LW.gN (want_not rfl rfl hc37) rfl ?_
        refine LW.gN (want_not rfl rfl hc37) rfl ?_
        refine LW.u (Pur.pickF rfl hc37) rfl ?_
        refine LW.p rfl rfl ?_
        refine LW.gN (want_not rfl rfl rfl) rfl ?_
        refine LW.gN (want_not rfl rfl rfl) rfl ?_
        refine LW.gN (want_not rfl rfl rfl) rfl ?_
        refine LW.gN (want_not rfl rfl rfl) rfl ?_
        refine LW.gN (want_not rfl rfl rfl) rfl ?_
        refine LW.fresh (l := [(0, .slice a0_0 x0.length c0_0), (1, .int .i64 x1), (5, .slice s32a0 s32.1.length s32c0), (6, .int .i64 s32.2), (41, .bool false), (46, undef)]) ⟨rfl, rfl, rfl, rfl, rfl, rfl, trivial⟩ (fun e => ?_)
        refine LW.gN (want_not rfl rfl rfl) rfl ?_
        refine LW.gN (want_not rfl rfl rfl) rfl ?_
        refine LW.u (Pur.pickF rfl rfl) rfl ?_
        refine LW.p rfl rfl ?_
        refine LW.gN (want_not rfl rfl rfl) rfl ?_
        refine LW.gN (want_not rfl rfl rfl) rfl ?_
        refine LW.gN (want_not rfl rfl rfl) rfl ?_
        refine LW.gN (want_not rfl rfl rfl) rfl ?_
        refine LW.gN (want_not rfl rfl rfl) rfl ?_
        refine LW.gN (want_not rfl rfl rfl) rfl ?_
        refine LW.u (Pur.pickF rfl rfl) rfl ?_
        refine LW.p rfl rfl ?_
        refine LW.gY (want_of rfl rfl rfl) ?_
        refine LW.p rfl rfl ?_
        refine LW.gY (want_of rfl rfl rfl) ?_
        refine LW.p rfl rfl ?_
        replace h := obind h
        obtain ⟨y119, hy119, h⟩ := h
        obtain ⟨b122, o123, cs124, hae, hb127, hp120, hq121, hd125, hk126⟩ := hr0_0.idx hy119
        subst hae
        obtain ⟨a128, c129, a131, c132, a134, c135, rfl, hr130, hr133, hr136⟩ := hd125
        refine LW.gY (want_of rfl rfl rfl) ?_
        refine LW.u (Pur.ix Try.underlying68 sz123 rfl rfl hp120 hq121) rfl ?_
        refine LW.gY (want_of rfl rfl rfl) ?_
        refine LW.u (Pur.fa fo123_10 rfl) rfl ?_
        refine LW.gY (want_of rfl rfl rfl) ?_
        refine LW.l (Ldr.old w0 ag24 rfl (hk126 10 _ rfl)) (hS6.same _ hb127.1 hb127.2) rfl ?_
        refine LW.gY (want_of rfl rfl rfl) ?_
        refine LW.p rfl rfl ?_
        replace h := obind h
        obtain ⟨y137, hy137, h⟩ := h
        have q := W_s_l4Has (w0 := w33) hy137 rfl (hS6.rB hr130)
        refine LW.gY (want_of rfl rfl rfl) ?_
        refine LW.call pl70 rfl rfl ?_
        refine Ret.mono q ?_
        rintro _ w138 ⟨rfl, hs⟩
        have hS10 := hS6.add hs
        refine LW.u (Pur.pickF rfl rfl) rfl ?_
        refine LW.nil ?_
        replace h := Option.some.inj h
        subst h
        exact ⟨⟨rfl, rfl, rfl, rfl, rfl, trivial⟩, hS10.pick [0] rfl rfl⟩
      intro e w139 hM
      obtain ⟨hE, hS11⟩ := hM
      obtain ⟨e, rfl⟩ := hE.out
      have h := h36
      show CW _ _ _ _ _ _
      refine CW.cond rfl (fun hc140 => ?_) (fun hc140 => ?_)
      · replace h := bcT h hc140
        refine CW.region ?_
        iterate 2 refine LW.p rfl rfl ?_
        replace h := obind h
        obtain ⟨y141, hy141, h⟩ := h
        refine LW.app1 (M := []) (L := [sl s32a0 s32c0 s32.1]) (vs := #[.int .i64 s32.2]) (i := 0) sT24 rfl (by kernel_rfl) rfl rfl hy141 hS11 rfl (fun w G hG => by cases (show G = [] from hG); exact ⟨rfl, rfl⟩) rfl rfl ?_
        intro v144 a142 c143 w145 hS12 hf
        refine LW.p rfl rfl ?_
        refine LW.nil ?_
        show CW _ _ _ _ _ _
        refine CW.region ?_
        iterate 3 refine LW.p rfl rfl ?_
        refine LW.nil ?_
        replace h := Option.some.inj h
        subst h
        exact ⟨rfl, ⟨a142, c143, ⟨rfl, rfl, rfl, rfl, trivial⟩, hS12.pick [0] rfl rfl⟩⟩
      replace h := bcF h hc140
      refine CW.skip ?_
      show CW _ _ _ _ _ _
      refine CW.region ?_
      iterate 3 refine LW.p rfl rfl ?_
      refine LW.nil ?_
      replace h := Option.some.inj h
      subst h
      exact ⟨rfl, ⟨s32a0, s32c0, ⟨rfl, rfl, rfl, rfl, trivial⟩, hS11.pick [0] rfl rfl⟩⟩
    replace h := bcF h hc34
    refine CW.exit ?_
    replace h := Option.some.inj h
    subst h
    exact ⟨trivial, rfl, ⟨s32a0, s32c0, ⟨rfl, trivial⟩, hS6.pick [0] rfl rfl⟩⟩
  intro x e w148 hM
  obtain ⟨rfl, hM⟩ := hM
  obtain ⟨s32a0, s32c0, hE, hS13⟩ := hM
  obtain ⟨e, rfl⟩ := hE.out
  have h := h147
  show CW _ _ _ _ _ _
  refine CW.seq ?_
  refine CW.region ?_
  iterate 2 refine LW.p rfl rfl ?_
  refine LW.nil ?_
  show CW _ _ _ _ _ _
  refine CW.ret ?_
  cases h
  exact And.intro trivial ⟨_, Res.one (resOne.t rfl), s32a0, s32c0, rfl, hS13.pick [0] rfl rfl⟩

theorem W_s_Reach {w0 : World} {N : Nat} {x0 : List DObj} {x1 : Int} {r : (List Bool)} (h : F_s_Reach N x0 x1 = some r) {a0_0 : Option Addr} {n0_0 c0_0 : Nat} (hn0_0 : n0_0 = x0.length) (hr0_0 : rdS (Bor w0 []) w0 a0_0 c0_0 x0) :
    Ret Try.prog 133 #[.slice a0_0 n0_0 c0_0, .int .i64 x1] w0 (fun v w => ∃ ar0 cr0, v = .slice ar0 r.length cr0 ∧ St w0 [] w [sl ar0 cr0 r]) := by
  subst hn0_0
  unfold F_s_Reach at h
  refine Ret.of Try.func133 rfl rfl rfl ?_
  have hS1 := St.start w0
  refine CW.seq ?_
  refine CW.region ?_
  refine LW.p rfl rfl ?_
  refine LW.nil ?_
  show CW _ _ _ _ _ _
  refine CW.seq ?_
  refine CW.region ?_
  refine LW.bsl (α := Bool) (vs := []) (cs := #[]) (l := ([] : List Bool)) rfl (by kernel_rfl) rfl rfl rfl (fun w => rfl) hS1 rfl ?_
  intro a1 c2 w3 hS2 hf
  refine LW.p rfl rfl ?_
  refine LW.nil ?_
  show CW _ _ _ _ _ _
  refine CW.seq ?_
  refine CW.seq ?_
  refine CW.region ?_
  refine LW.p rfl rfl ?_
  replace h := obind h
  obtain ⟨y4, hy4, h⟩ := h
  have q := W_s_ArenaOk (w0 := w3) hy4 rfl (hS2.rB hr0_0)
  refine LW.call pl165 rfl rfl ?_
  refine Ret.mono q ?_
  rintro _ w5 ⟨rfl, hs⟩
  have hS3 := hS2.add hs
  refine LW.p rfl rfl ?_
  refine LW.nil ?_
  show CW _ _ _ _ _ _
  refine CW.cond rfl (fun hc6 => ?_) (fun hc6 => ?_)
  · replace h := bcT h hc6
    refine CW.seq ?_
    refine CW.region ?_
    iterate 2 refine LW.p rfl rfl ?_
    refine LW.nil ?_
    show CW _ _ _ _ _ _
    refine CW.ret ?_
    cases h
    exact And.intro trivial ⟨_, Res.one (resOne.t rfl), a1, c2, rfl, hS3.pick [0] rfl rfl⟩
  replace h := bcF h hc6
  refine CW.skip ?_
  show CW _ _ _ _ _ _
  refine CW.seq ?_
  refine CW.region ?_
  replace h := obind h
  obtain ⟨y7, hy7, h⟩ := h
  refine LW.mk sT162 rfl rfl hy7 hS3 rfl ?_
  intro a8 c9 w10 hS4 hf
  refine LW.p rfl rfl ?_
  refine LW.nil ?_
  show CW _ _ _ _ _ _
  refine CW.seq ?_
  refine CW.region ?_
  refine LW.p rfl rfl ?_
  replace h := obind h
  obtain ⟨y11, hy11, h⟩ := h
  obtain ⟨b14, o15, hae, hp12, hq13⟩ := hS4.ownIdx (α := Bool) (i := 0) rfl hy11
  subst hae
  refine LW.u (Pur.ix Try.underlying162 sz4 rfl rfl hp12 hq13) rfl ?_
  replace h := obind h
  obtain ⟨y16, hy16, h⟩ := h
  refine LW.stE (M := []) (L := [sl (some ⟨b14, o15, none⟩) c9 y7, sl a1 c2 ([] : List Bool)]) (z := y11) (z' := true) (o := 0) hS4 (i := 0) rfl hy11 ag4 rfl (by show _ = o15 + (0 : Int).toNat * 1 + 0; omega) rfl rfl rfl rfl (whole (fun w G hG => by cases (show G = [] from hG); exact ⟨rfl, rfl⟩)) ?_
  intro w17 hS5 hf
  rw [Option.some.inj hy16] at hS5
  refine LW.nil ?_
  show CW _ _ _ _ _ _
  refine CW.seq ?_
  refine CW.seq ?_
  refine CW.region ?_
  refine LW.p rfl rfl ?_
  refine LW.nil ?_
  show CW _ _ _ _ _ _
  refine CW.fresh (l := [(0, .slice a0_0 x0.length c0_0), (1, .int .i64 x1), (5, .slice (some ⟨b14, o15, none⟩) y7.length c9), (6, .int .i64 0)]) ⟨rfl, rfl, rfl, rfl, trivial⟩ (fun e => ?_)
  refine CW.block ?_
  obtain ⟨o117, ho117, h118⟩ := obind h
  refine CW.mono (CW.iter (σ := (List Bool) × Int) (ρ := (List Bool) × Int) (fun s18 e wb => En e [(0, .slice a0_0 x0.length c0_0), (1, .int .i64 x1), (5, .slice (some ⟨b14, o15, none⟩) s18.1.length c9), (6, .int .i64 s18.2)] ∧ St w0 [] wb [sl (some ⟨b14, o15, none⟩) c9 s18.1]) (fun s18 x e wb => x = .exit 0 ∧ En e [(5, .slice (some ⟨b14, o15, none⟩) s18.1.length c9)] ∧ St w0 [] wb [sl (some ⟨b14, o15, none⟩) c9 s18.1]) ?_ N (y16, 0) _ _ _ ⟨⟨rfl, rfl, (show (.slice (some ⟨b14, o15, none⟩) y7.length c9 : Value) = .slice (some ⟨b14, o15, none⟩) y16.length c9 by rw [show y7.length = y16.length from (len_set (Option.some.inj hy16))]), rfl, trivial⟩, hS5.pick [0] rfl rfl⟩ ho117) ?_
  · intro s18 e w19 o hM h
    obtain ⟨hE, hS6⟩ := hM
    obtain ⟨e, rfl⟩ := hE.out
    refine CW.seq ?_
    refine CW.seq ?_
    refine CW.region ?_
    iterate 2 refine LW.p rfl rfl ?_
    refine LW.nil ?_
    show CW _ _ _ _ _ _
    refine CW.cond rfl (fun hc20 => ?_) (fun hc20 => ?_)
    · replace h := bcT h hc20
      refine CW.skip ?_
      show CW _ _ _ _ _ _
      refine CW.seq ?_
      refine CW.block ?_
      refine CW.seq ?_
      refine CW.region ?_
      refine LW.p rfl rfl ?_
      refine LW.nil ?_
      show CW _ _ _ _ _ _
      refine CW.block ?_
      obtain ⟨o114, ho114, h115⟩ := obind h
      refine CW.mono (CW.iter (σ := (List Bool) × Int) (ρ := (List Bool) × Int) (fun s21 e wb => En e [(0, .slice a0_0 x0.length c0_0), (1, .int .i64 x1), (5, .slice (some ⟨b14, o15, none⟩) s21.1.length c9), (6, .int .i64 s18.2), (7, .int .i64 s21.2)] ∧ St w0 [] wb [sl (some ⟨b14, o15, none⟩) c9 s21.1]) (fun s21 x e wb => x = .exit 2 ∧ En e [(0, .slice a0_0 x0.length c0_0), (1, .int .i64 x1), (5, .slice (some ⟨b14, o15, none⟩) s21.1.length c9), (6, .int .i64 s18.2)] ∧ St w0 [] wb [sl (some ⟨b14, o15, none⟩) c9 s21.1]) ?_ N (s18.1, 0) _ _ _ ⟨⟨rfl, rfl, rfl, rfl, rfl, trivial⟩, hS6.pick [0] rfl rfl⟩ ho114) ?_
      · intro s21 e w22 o hM h
        obtain ⟨hE, hS7⟩ := hM
        obtain ⟨e, rfl⟩ := hE.out
        refine CW.seq ?_
        refine CW.seq ?_
        refine CW.region ?_
        iterate 2 refine LW.p rfl rfl ?_
        refine LW.u (Pur.len Try.underlying68 rfl) rfl ?_
        refine LW.p rfl rfl ?_
        refine LW.nil ?_
        show CW _ _ _ _ _ _
        refine CW.cond rfl (fun hc23 => ?_) (fun hc23 => ?_)
        · replace h := bcT h hc23
          refine CW.skip ?_
          show CW _ _ _ _ _ _
          refine CW.seq ?_
          refine CW.block ?_
          refine CW.seq ?_
          refine CW.seq ?_
          obtain ⟨j24, hj24, h25⟩ := obind h
          refine CW.cut (fun e wb => En e [(0, .slice a0_0 x0.length c0_0), (1, .int .i64 x1), (5, .slice (some ⟨b14, o15, none⟩) s21.1.length c9), (6, .int .i64 s18.2), (7, .int .i64 s21.2), (44, .bool j24)] ∧ St w0 [] wb [sl (some ⟨b14, o15, none⟩) c9 s21.1]) ?_ ?_
          · have h := hj24
            refine CW.region ?_
            iterate 2 refine LW.p rfl rfl ?_
            replace h := obind h
            obtain ⟨y26, hy26, h⟩ := h
            obtain ⟨b29, o30, hae, hp27, hq28⟩ := hS7.ownIdx (α := Bool) (i := 0) rfl hy26
            cases hae
            refine LW.u (Pur.ix Try.underlying162 sz4 rfl rfl hp27 hq28) rfl ?_
            obtain ⟨F31, ho32, hS8⟩ := hS7.freeze (α := Bool) 0 rfl
            obtain ⟨b33, o34, cs35, hae, hb38, _, _, hd36, hk37⟩ := ho32.rdF.idx hy26
            cases hae
            obtain rfl := hd36
            refine LW.l (Ldr.old w22 ag4 rfl (hk37 0 _ rfl)) (hS8.zC 0 rfl hb38) rfl ?_
            iterate 2 refine LW.p rfl rfl ?_
            rcases bcases (!y26) with hc39 | hc39
            · replace h := bcT h hc39
              refine LW.gN (want_not rfl rfl hc39) rfl ?_
              refine LW.gN (want_not rfl rfl hc39) rfl ?_
              refine LW.gN (want_not rfl rfl hc39) rfl ?_
              refine LW.gN (want_not rfl rfl hc39) rfl ?_
              refine LW.gN (want_not rfl rfl hc39) rfl ?_
              refine LW.gN (want_not rfl rfl hc39) rfl ?_
              refine LW.gN (want_not rfl rfl hc39) rfl ?_
              refine LW.gN (want_undef rfl rfl) rfl ?_
              refine LW.fresh (l := [(0, .slice a0_0 x0.length c0_0), (1, .int .i64 x1), (5, .slice (some ⟨b14, o15, none⟩) s21.1.length c9), (6, .int .i64 s18.2), (7, .int .i64 s21.2), (33, .bool (!y26)), (40, undef), (41, undef)]) ⟨rfl, rfl, rfl, rfl, rfl, rfl, rfl, rfl, trivial⟩ (fun e => ?_)
              refine LW.gN (want_undef rfl rfl) rfl ?_
              refine LW.gN (want_not rfl rfl hc39) rfl ?_
              refine LW.u (Pur.pickT rfl hc39) rfl ?_
              refine LW.nil ?_
              replace h := Option.some.inj h
              subst h
              have hS9 := hS8.thaw (α := Bool) 0 rfl ho32
              exact ⟨⟨rfl, rfl, rfl, rfl, rfl, rfl, trivial⟩, hS9.pick [0] rfl rfl⟩
            replace h := bcF h hc39
            refine LW.gY (want_of rfl rfl hc39) ?_
            refine LW.p rfl rfl ?_
            refine LW.gY (want_of rfl rfl hc39) ?_
            refine LW.p rfl rfl ?_
            replace h := obind h
            obtain ⟨y40, hy40, h⟩ := h
            obtain ⟨b43, o44, cs45, hae, hb48, hp41, hq42, hd46, hk47⟩ := hr0_0.idx hy40
            subst hae
            obtain ⟨a49, c50, a52, c53, a55, c56, rfl, hr51, hr54, hr57⟩ := hd46
            refine LW.gY (want_of rfl rfl hc39) ?_
            refine LW.u (Pur.ix Try.underlying68 sz123 rfl rfl hp41 hq42) rfl ?_
            refine LW.gY (want_of rfl rfl hc39) ?_
            refine LW.l (Ldr.oldN w0 ag123 rfl rfl (fun j u hu => hk47 j u hu)) (hS8.same _ hb48.1 hb48.2) rfl ?_
            refine LW.gY (want_of rfl rfl hc39) ?_
            refine LW.p rfl rfl ?_
            replace h := obind h
            obtain ⟨y58, hy58, h⟩ := h
            have q := W_s_Expired (w0 := w22) hy58 rfl (hS8.rB hr51) rfl (hS8.rB hr54) rfl (hS8.rB hr57)
            refine LW.gY (want_of rfl rfl hc39) ?_
            refine LW.call pl175 rfl rfl ?_
            refine Ret.mono q ?_
            rintro _ w59 ⟨rfl, hs⟩
            have hS10 := hS8.add hs
            refine LW.gY (want_of rfl rfl hc39) ?_
            refine LW.p rfl rfl ?_
            refine LW.fresh (l := [(0, .slice (some ⟨b43, o44, none⟩) x0.length c0_0), (1, .int .i64 x1), (5, .slice (some ⟨b14, o15, none⟩) s21.1.length c9), (6, .int .i64 s18.2), (7, .int .i64 s21.2), (33, .bool (!y26)), (40, .bool y58)]) ⟨rfl, rfl, rfl, rfl, rfl, rfl, rfl, trivial⟩ (fun e => ?_)
            rcases bcases y58 with hc60 | hc60
            · replace h := bcT h hc60
              refine LW.gY (want_of rfl rfl hc60) ?_
              refine LW.p rfl rfl ?_
              refine LW.gY (want_of rfl rfl hc60) ?_
              refine LW.p rfl rfl ?_
              refine LW.gY (want_of rfl rfl hc39) ?_
              refine LW.u (Pur.pickT rfl hc60) rfl ?_
              refine LW.u (Pur.pickF rfl hc39) rfl ?_
              refine LW.nil ?_
              replace h := Option.some.inj h
              subst h
              have hS11 := hS10.thaw (α := Bool) 0 rfl ho32
              exact ⟨⟨rfl, rfl, rfl, rfl, rfl, rfl, trivial⟩, hS11.pick [0] rfl rfl⟩
            replace h := bcF h hc60
            refine LW.gN (want_not rfl rfl hc60) rfl ?_
            refine LW.gN (want_not rfl rfl hc60) rfl ?_
            refine LW.gY (want_of rfl rfl hc39) ?_
            refine LW.u (Pur.pickF rfl hc60) rfl ?_
            refine LW.u (Pur.pickF rfl hc39) rfl ?_
            refine LW.nil ?_
            replace h := Option.some.inj h
            subst h
            have hS12 := hS10.thaw (α := Bool) 0 rfl ho32
            exact ⟨⟨rfl, rfl, rfl, rfl, rfl, rfl, trivial⟩, hS12.pick [0] rfl rfl⟩
          intro e w61 hM
          obtain ⟨hE, hS13⟩ := hM
          obtain ⟨e, rfl⟩ := hE.out
          have h := h25
          show CW _ _ _ _ _ _
          refine CW.cond rfl (fun hc62 => ?_) (fun hc62 => ?_)
          · replace h := bcT h hc62
            refine CW.exit ?_
            show CW _ _ _ _ _ _
            refine CW.region ?_
            iterate 3 refine LW.p rfl rfl ?_
            refine LW.nil ?_
            replace h := Option.some.inj h
            subst h
            exact ⟨rfl, ⟨⟨rfl, rfl, rfl, rfl, rfl, trivial⟩, hS13.pick [0] rfl rfl⟩⟩
          replace h := bcF h hc62
          refine CW.skip ?_
          show CW _ _ _ _ _ _
          refine CW.seq ?_
          refine CW.region ?_
          iterate 2 refine LW.p rfl rfl ?_
          replace h := obind h
          obtain ⟨y63, hy63, h⟩ := h
          have q := W_s_Edges (w0 := w61) hy63 rfl (hS13.rB hr0_0)
          refine LW.call pl176 rfl rfl ?_
          refine Ret.mono q ?_
          rintro _ w66 ⟨a64, c65, rfl, hs⟩
          have hS14 := hS13.add hs
          refine LW.p rfl rfl ?_
          refine LW.nil ?_
          show CW _ _ _ _ _ _
          refine CW.seq ?_
          refine CW.region ?_
          refine LW.p rfl rfl ?_
          refine LW.nil ?_
          show CW _ _ _ _ _ _
          refine CW.block ?_
          obtain ⟨o111, ho111, h112⟩ := obind h
          refine CW.mono (CW.iter (σ := (List Bool) × Int) (ρ := (List Bool) × Int) (fun s67 e wb => En e [(0, .slice a0_0 x0.length c0_0), (1, .int .i64 x1), (5, .slice (some ⟨b14, o15, none⟩) s67.1.length c9), (6, .int .i64 s18.2), (7, .int .i64 s21.2), (8, .slice a64 y63.length c65), (9, .int .i64 s67.2)] ∧ St w0 [] wb [sl a64 c65 y63, sl (some ⟨b14, o15, none⟩) c9 s67.1]) (fun s67 x e wb => x = .exit 4 ∧ En e [(0, .slice a0_0 x0.length c0_0), (1, .int .i64 x1), (5, .slice (some ⟨b14, o15, none⟩) s67.1.length c9), (6, .int .i64 s18.2), (7, .int .i64 s21.2)] ∧ St w0 [] wb [sl a64 c65 y63, sl (some ⟨b14, o15, none⟩) c9 s67.1]) ?_ N (s21.1, 0) _ _ _ ⟨⟨rfl, rfl, rfl, rfl, rfl, rfl, rfl, trivial⟩, hS14.pick [0, 1] rfl rfl⟩ ho111) ?_
          · intro s67 e w68 o hM h
            obtain ⟨hE, hS15⟩ := hM
            obtain ⟨e, rfl⟩ := hE.out
            refine CW.seq ?_
            refine CW.seq ?_
            refine CW.region ?_
            iterate 2 refine LW.p rfl rfl ?_
            refine LW.u (Pur.len Try.underlying24 rfl) rfl ?_
            refine LW.p rfl rfl ?_
            refine LW.nil ?_
            show CW _ _ _ _ _ _
            refine CW.fresh (l := [(0, .slice a0_0 x0.length c0_0), (1, .int .i64 x1), (5, .slice (some ⟨b14, o15, none⟩) s67.1.length c9), (6, .int .i64 s18.2), (7, .int .i64 s21.2), (8, .slice a64 y63.length c65), (9, .int .i64 s67.2), (51, .bool (decide (s67.2 < (y63.length : Int))))]) ⟨rfl, rfl, rfl, rfl, rfl, rfl, rfl, rfl, trivial⟩ (fun e => ?_)
            refine CW.cond rfl (fun hc69 => ?_) (fun hc69 => ?_)
            · replace h := bcT h hc69
              refine CW.skip ?_
              show CW _ _ _ _ _ _
              refine CW.seq ?_
              refine CW.block ?_
              refine CW.seq ?_
              refine CW.region ?_
              iterate 3 refine LW.p rfl rfl ?_
              replace h := obind h
              obtain ⟨y70, hy70, h⟩ := h
              obtain ⟨b73, o74, hae, hp71, hq72⟩ := hS15.ownIdx (α := Int) (i := 0) rfl hy70
              subst hae
              refine LW.u (Pur.ix Try.underlying24 sz3 rfl rfl hp71 hq72) rfl ?_
              obtain ⟨F75, ho76, hS16⟩ := hS15.freeze (α := Int) 0 rfl
              obtain ⟨b77, o78, cs79, hae, hb82, _, _, hd80, hk81⟩ := ho76.rdF.idx hy70
              cases hae
              obtain rfl := hd80
              refine LW.l (Ldr.old w68 ag3 rfl (hk81 0 _ rfl)) (hS16.zC 0 rfl hb82) rfl ?_
              replace h := obind h
              obtain ⟨y83, hy83, h⟩ := h
              obtain ⟨b86, o87, cs88, hae, hb91, hp84, hq85, hd89, hk90⟩ := hr0_0.idx hy83
              subst hae
              obtain ⟨a92, c93, a95, c96, a98, c99, rfl, hr94, hr97, hr100⟩ := hd89
              refine LW.u (Pur.ix Try.underlying68 sz123 rfl rfl hp84 hq85) rfl ?_
              refine LW.l (Ldr.oldN w0 ag123 rfl rfl (fun j u hu => hk90 j u hu)) (hS16.same _ hb91.1 hb91.2) rfl ?_
              refine LW.p rfl rfl ?_
              replace h := obind h
              obtain ⟨y101, hy101, h⟩ := h
              have q := W_s_Expired (w0 := w68) hy101 rfl (hS16.rB hr94) rfl (hS16.rB hr97) rfl (hS16.rB hr100)
              refine LW.call pl175 rfl rfl ?_
              refine Ret.mono q ?_
              rintro _ w102 ⟨rfl, hs⟩
              have hS17 := hS16.add hs
              refine LW.p rfl rfl ?_
              refine LW.nil ?_
              show CW _ _ _ _ _ _
              refine CW.fresh (l := [(0, .slice (some ⟨b86, o87, none⟩) x0.length c0_0), (1, .int .i64 x1), (5, .slice (some ⟨b14, o15, none⟩) s67.1.length c9), (6, .int .i64 s18.2), (7, .int .i64 s21.2), (8, .slice (some ⟨b73, o74, none⟩) y63.length c65), (9, .int .i64 s67.2), (63, .bool (!y101))]) ⟨rfl, rfl, rfl, rfl, rfl, rfl, rfl, rfl, trivial⟩ (fun e => ?_)
              refine CW.cond rfl (fun hc103 => ?_) (fun hc103 => ?_)
              · replace h := bcT h hc103
                refine CW.region ?_
                iterate 3 refine LW.p rfl rfl ?_
                refine LW.u (Pur.ix Try.underlying24 sz3 rfl rfl hp71 hq72) rfl ?_
                refine LW.l (Ldr.old w68 ag3 rfl (hk81 0 _ rfl)) (hS17.zC 0 rfl hb82) rfl ?_
                replace h := obind h
                obtain ⟨y104, hy104, h⟩ := h
                obtain ⟨b107, o108, hae, hp105, hq106⟩ := hS17.ownIdx (α := Bool) (i := 1) rfl hy104
                cases hae
                refine LW.u (Pur.ix Try.underlying162 sz4 rfl rfl hp105 hq106) rfl ?_
                replace h := obind h
                obtain ⟨y109, hy109, h⟩ := h
                refine LW.stE (M := []) (L := [fz w68 F75, sl (some ⟨b14, o15, none⟩) c9 s67.1]) (z := y104) (z' := true) (o := 0) hS17 (i := 1) rfl hy104 ag4 rfl (by show _ = o15 + (y70 : Int).toNat * 1 + 0; omega) rfl rfl rfl rfl (whole (fun w G hG => by cases (show G = [] from hG); exact ⟨rfl, rfl⟩)) ?_
                intro w110 hS18 hf
                rw [Option.some.inj hy109] at hS18
                refine LW.nil ?_
                show CW _ _ _ _ _ _
                refine CW.region ?_
                iterate 3 refine LW.p rfl rfl ?_
                refine LW.nil ?_
                replace h := Option.some.inj h
                subst h
                have hS19 := hS18.thaw (α := Int) 0 rfl ho76
                exact ⟨rfl, ⟨⟨rfl, rfl, (show (.slice (some ⟨b14, o15, none⟩) s67.1.length c9 : Value) = .slice (some ⟨b14, o15, none⟩) y109.length c9 by rw [show s67.1.length = y109.length from (len_set (Option.some.inj hy109))]), rfl, rfl, rfl, rfl, trivial⟩, hS19.pick [0, 1] rfl rfl⟩⟩
              replace h := bcF h hc103
              refine CW.skip ?_
              show CW _ _ _ _ _ _
              refine CW.region ?_
              iterate 3 refine LW.p rfl rfl ?_
              refine LW.nil ?_
              replace h := Option.some.inj h
              subst h
              have hS20 := hS17.thaw (α := Int) 0 rfl ho76
              exact ⟨rfl, ⟨⟨rfl, rfl, rfl, rfl, rfl, rfl, rfl, trivial⟩, hS20.pick [0, 1] rfl rfl⟩⟩
            replace h := bcF h hc69
            refine CW.exit ?_
            replace h := Option.some.inj h
            subst h
            exact ⟨trivial, rfl, ⟨⟨rfl, rfl, rfl, rfl, rfl, trivial⟩, hS15.pick [0, 1] rfl rfl⟩⟩
          intro x e w113 hM
          obtain ⟨rfl, hM⟩ := hM
          obtain ⟨hE, hS21⟩ := hM
          obtain ⟨e, rfl⟩ := hE.out
          have h := h112
          show CW _ _ _ _ _ _
          refine CW.region ?_
          iterate 3 refine LW.p rfl rfl ?_
          refine LW.nil ?_
          replace h := Option.some.inj h
          subst h
          exact ⟨rfl, ⟨⟨rfl, rfl, rfl, rfl, rfl, trivial⟩, hS21.pick [1] rfl rfl⟩⟩
        replace h := bcF h hc23
        refine CW.exit ?_
        replace h := Option.some.inj h
        subst h
        exact ⟨trivial, rfl, ⟨⟨rfl, rfl, rfl, rfl, trivial⟩, hS7.pick [0] rfl rfl⟩⟩
      intro x e w116 hM
      obtain ⟨rfl, hM⟩ := hM
      obtain ⟨hE, hS22⟩ := hM
      obtain ⟨e, rfl⟩ := hE.out
      have h := h115
      show CW _ _ _ _ _ _
      refine CW.region ?_
      iterate 3 refine LW.p rfl rfl ?_
      refine LW.nil ?_
      replace h := Option.some.inj h
      subst h
      exact ⟨rfl, ⟨⟨rfl, rfl, rfl, rfl, trivial⟩, hS22.pick [0] rfl rfl⟩⟩
    replace h := bcF h hc20
    refine CW.exit ?_
    replace h := Option.some.inj h
    subst h
    exact ⟨trivial, rfl, ⟨⟨rfl, trivial⟩, hS6.pick [0] rfl rfl⟩⟩
  intro x e w119 hM
  obtain ⟨rfl, hM⟩ := hM
  obtain ⟨hE, hS23⟩ := hM
  obtain ⟨e, rfl⟩ := hE.out
  have h := h118
  show CW _ _ _ _ _ _
  refine CW.seq ?_
  refine CW.region ?_
  iterate 2 refine LW.p rfl rfl ?_
  refine LW.nil ?_
  show CW _ _ _ _ _ _
  refine CW.ret ?_
  cases h
  exact And.intro trivial ⟨_, Res.one (resOne.t rfl), (some ⟨b14, o15, none⟩), c9, rfl, hS23.pick [0] rfl rfl⟩

theorem W_s_Threads {w0 : World} {N : Nat} {x0 : DPart} {x1 : Int} {r : (List Int)} (h : F_s_Threads N x0 x1 = some r) {a0_0 : Option Addr} {n0_0 c0_0 : Nat} (hn0_0 : n0_0 = x0.label.levels.length) (hr0_0 : rdS (Bor w0 []) w0 a0_0 c0_0 x0.label.levels) {a0_1 : Option Addr} {n0_1 c0_1 : Nat} (hn0_1 : n0_1 = x0.own.length) (hr0_1 : rdS (Bor w0 []) w0 a0_1 c0_1 x0.own) {a0_2 : Option Addr} {n0_2 c0_2 : Nat} (hn0_2 : n0_2 = x0.tree.length) (hr0_2 : rdS (Bor w0 []) w0 a0_2 c0_2 x0.tree) {a0_3 : Option Addr} {n0_3 c0_3 : Nat} (hn0_3 : n0_3 = x0.heap.arena.length) (hr0_3 : rdS (Bor w0 []) w0 a0_3 c0_3 x0.heap.arena) {a0_7 : Option Addr} {n0_7 c0_7 : Nat} (hn0_7 : n0_7 = x0.heap.gc.grey.length) (hr0_7 : rdS (Bor w0 []) w0 a0_7 c0_7 x0.heap.gc.grey) {a0_8 : Option Addr} {n0_8 c0_8 : Nat} (hn0_8 : n0_8 = x0.taps.length) (hr0_8 : rdS (Bor w0 []) w0 a0_8 c0_8 x0.taps) :
    Ret Try.prog 71 #[.agg #[.slice a0_0 n0_0 c0_0, .slice a0_1 n0_1 c0_1, .slice a0_2 n0_2 c0_2, .slice a0_3 n0_3 c0_3, .int .i64 x0.heap.gc.phase, .int .i64 x0.heap.gc.pos, .int .i64 x0.heap.gc.round, .slice a0_7 n0_7 c0_7, .slice a0_8 n0_8 c0_8, .int .i64 x0.next, .int .i64 x0.want, .int .i64 x0.spent.pages, .int .i64 x0.spent.rent, .int .i64 x0.spent.cpu, .int .i64 x0.press, .int .i64 x0.lost], .int .i64 x1] w0 (fun v w => ∃ ar0 cr0, v = .slice ar0 r.length cr0 ∧ St w0 [] w [sl ar0 cr0 r]) := by
  subst hn0_0
  subst hn0_1
  subst hn0_2
  subst hn0_3
  subst hn0_7
  subst hn0_8
  unfold F_s_Threads at h
  refine Ret.of Try.func71 rfl rfl rfl ?_
  have hS1 := St.start w0
  refine CW.seq ?_
  refine CW.region ?_
  refine LW.box (cs := [.slice a0_0 x0.label.levels.length c0_0, .slice a0_1 x0.own.length c0_1, .slice a0_2 x0.tree.length c0_2, .slice a0_3 x0.heap.arena.length c0_3, .int .i64 x0.heap.gc.phase, .int .i64 x0.heap.gc.pos, .int .i64 x0.heap.gc.round, .slice a0_7 x0.heap.gc.grey.length c0_7, .slice a0_8 x0.taps.length c0_8, .int .i64 x0.next, .int .i64 x0.want, .int .i64 x0.spent.pages, .int .i64 x0.spent.rent, .int .i64 x0.spent.cpu, .int .i64 x0.press, .int .i64 x0.lost]) rfl hS1 rfl ?_
  intro g1 w2 hS2 hf
  refine LW.p rfl rfl ?_
  refine LW.nil ?_
  show CW _ _ _ _ _ _
  refine CW.seq ?_
  refine CW.region ?_
  refine LW.bsl (α := Int) (vs := []) (cs := #[]) (l := ([] : List Int)) rfl (by kernel_rfl) rfl rfl rfl (fun w => rfl) hS2 rfl ?_
  intro a3 c4 w5 hS3 hf
  refine LW.p rfl rfl ?_
  refine LW.nil ?_
  show CW _ _ _ _ _ _
  refine CW.seq ?_
  refine CW.seq ?_
  refine CW.region ?_
  refine LW.ldbN hS3 1 rfl ag75 rfl rfl rfl ?_
  replace h := obind h
  obtain ⟨y6, hy6, h⟩ := h
  have q := W_s_PartOk (w0 := w5) hy6 rfl (hS3.rB hr0_0) rfl (hS3.rB hr0_1) rfl (hS3.rB hr0_2) rfl (hS3.rB hr0_3) rfl (hS3.rB hr0_7) rfl (hS3.rB hr0_8)
  refine LW.call pl82 rfl rfl ?_
  refine Ret.mono q ?_
  rintro _ w7 ⟨rfl, hs⟩
  have hS4 := hS3.add hs
  refine LW.p rfl rfl ?_
  refine LW.nil ?_
  show CW _ _ _ _ _ _
  refine CW.cond rfl (fun hc8 => ?_) (fun hc8 => ?_)
  · replace h := bcT h hc8
    refine CW.seq ?_
    refine CW.region ?_
    iterate 2 refine LW.p rfl rfl ?_
    refine LW.nil ?_
    show CW _ _ _ _ _ _
    refine CW.ret ?_
    cases h
    exact And.intro trivial ⟨_, Res.one (resOne.t rfl), a3, c4, rfl, hS4.pick [0] rfl rfl⟩
  replace h := bcF h hc8
  refine CW.skip ?_
  show CW _ _ _ _ _ _
  refine CW.seq ?_
  refine CW.region ?_
  refine LW.u (Pur.fa fo75_3 rfl) rfl ?_
  refine LW.u (Pur.fa fo71_0 rfl) rfl ?_
  refine LW.ldb hS4 1 rfl ag68 rfl rfl rfl ?_
  refine LW.p rfl rfl ?_
  replace h := obind h
  obtain ⟨y9, hy9, h⟩ := h
  have q := W_s_Reach (w0 := w7) hy9 rfl (hS4.rB hr0_3)
  refine LW.call pl133 rfl rfl ?_
  refine Ret.mono q ?_
  rintro _ w12 ⟨a10, c11, rfl, hs⟩
  have hS5 := hS4.add hs
  refine LW.p rfl rfl ?_
  refine LW.nil ?_
  show CW _ _ _ _ _ _
  refine CW.fresh (l := [(2, .pointer (some ⟨g1, 0, none⟩)), (5, .slice a3 (([] : List Int).length) c4), (6, .slice a10 y9.length c11)]) ⟨rfl, rfl, rfl, trivial⟩ (fun e => ?_)
  refine CW.seq ?_
  refine CW.seq ?_
  refine CW.region ?_
  refine LW.p rfl rfl ?_
  refine LW.nil ?_
  show CW _ _ _ _ _ _
  refine CW.block ?_
  obtain ⟨o57, ho57, h58⟩ := obind h
  refine CW.mono (CW.iter (σ := (List Int) × Int) (ρ := (List Int) × Int) (fun s13 e wb => ∃ (s13a0 : Option Addr), ∃ (s13c0 : Nat), En e [(2, .pointer (some ⟨g1, 0, none⟩)), (5, .slice s13a0 s13.1.length s13c0), (6, .slice a10 y9.length c11), (7, .int .i64 s13.2)] ∧ St w0 [] wb [sl a10 c11 y9, sl s13a0 s13c0 s13.1, bx g1 75 [.slice a0_0 x0.label.levels.length c0_0, .slice a0_1 x0.own.length c0_1, .slice a0_2 x0.tree.length c0_2, .slice a0_3 x0.heap.arena.length c0_3, .int .i64 x0.heap.gc.phase, .int .i64 x0.heap.gc.pos, .int .i64 x0.heap.gc.round, .slice a0_7 x0.heap.gc.grey.length c0_7, .slice a0_8 x0.taps.length c0_8, .int .i64 x0.next, .int .i64 x0.want, .int .i64 x0.spent.pages, .int .i64 x0.spent.rent, .int .i64 x0.spent.cpu, .int .i64 x0.press, .int .i64 x0.lost]]) (fun s13 x e wb => x = .exit 0 ∧ ∃ (s13a0 : Option Addr), ∃ (s13c0 : Nat), En e [(5, .slice s13a0 s13.1.length s13c0)] ∧ St w0 [] wb [sl a10 c11 y9, sl s13a0 s13c0 s13.1, bx g1 75 [.slice a0_0 x0.label.levels.length c0_0, .slice a0_1 x0.own.length c0_1, .slice a0_2 x0.tree.length c0_2, .slice a0_3 x0.heap.arena.length c0_3, .int .i64 x0.heap.gc.phase, .int .i64 x0.heap.gc.pos, .int .i64 x0.heap.gc.round, .slice a0_7 x0.heap.gc.grey.length c0_7, .slice a0_8 x0.taps.length c0_8, .int .i64 x0.next, .int .i64 x0.want, .int .i64 x0.spent.pages, .int .i64 x0.spent.rent, .int .i64 x0.spent.cpu, .int .i64 x0.press, .int .i64 x0.lost]]) ?_ N (([] : List Int), 0) _ _ _ ⟨a3, c4, ⟨rfl, rfl, rfl, rfl, trivial⟩, hS5.pick [0, 1, 2] rfl rfl⟩ ho57) ?_
  · intro s13 e w14 o hM h
    obtain ⟨s13a0, s13c0, hE, hS6⟩ := hM
    obtain ⟨e, rfl⟩ := hE.out
    refine CW.seq ?_
    refine CW.seq ?_
    refine CW.region ?_
    iterate 2 refine LW.p rfl rfl ?_
    refine LW.u (Pur.len Try.underlying162 rfl) rfl ?_
    refine LW.p rfl rfl ?_
    refine LW.nil ?_
    show CW _ _ _ _ _ _
    refine CW.cond rfl (fun hc15 => ?_) (fun hc15 => ?_)
    · replace h := bcT h hc15
      refine CW.skip ?_
      show CW _ _ _ _ _ _
      refine CW.seq ?_
      refine CW.block ?_
      refine CW.seq ?_
      obtain ⟨j16, hj16, h17⟩ := obind h
      refine CW.cut (fun e wb => En e [(2, .pointer (some ⟨g1, 0, none⟩)), (5, .slice s13a0 s13.1.length s13c0), (6, .slice a10 y9.length c11), (7, .int .i64 s13.2), (37, .bool j16)] ∧ St w0 [] wb [sl a10 c11 y9, sl s13a0 s13c0 s13.1, bx g1 75 [.slice a0_0 x0.label.levels.length c0_0, .slice a0_1 x0.own.length c0_1, .slice a0_2 x0.tree.length c0_2, .slice a0_3 x0.heap.arena.length c0_3, .int .i64 x0.heap.gc.phase, .int .i64 x0.heap.gc.pos, .int .i64 x0.heap.gc.round, .slice a0_7 x0.heap.gc.grey.length c0_7, .slice a0_8 x0.taps.length c0_8, .int .i64 x0.next, .int .i64 x0.want, .int .i64 x0.spent.pages, .int .i64 x0.spent.rent, .int .i64 x0.spent.cpu, .int .i64 x0.press, .int .i64 x0.lost]]) ?_ ?_
      · have h := hj16
        refine CW.region ?_
        iterate 2 refine LW.p rfl rfl ?_
        replace h := obind h
        obtain ⟨y18, hy18, h⟩ := h
        obtain ⟨b21, o22, hae, hp19, hq20⟩ := hS6.ownIdx (α := Bool) (i := 0) rfl hy18
        subst hae
        refine LW.u (Pur.ix Try.underlying162 sz4 rfl rfl hp19 hq20) rfl ?_
        obtain ⟨F23, ho24, hS7⟩ := hS6.freeze (α := Bool) 0 rfl
        obtain ⟨b25, o26, cs27, hae, hb30, _, _, hd28, hk29⟩ := ho24.rdF.idx hy18
        cases hae
        obtain rfl := hd28
        refine LW.l (Ldr.old w14 ag4 rfl (hk29 0 _ rfl)) (hS7.zC 0 rfl hb30) rfl ?_
        refine LW.p rfl rfl ?_
        rcases bcases y18 with hc31 | hc31
        · replace h := bcT h hc31
          refine LW.gY (want_of rfl rfl hc31) ?_
          refine LW.u (Pur.fa fo75_3 rfl) rfl ?_
          refine LW.gY (want_of rfl rfl hc31) ?_
          refine LW.u (Pur.fa fo71_0 rfl) rfl ?_
          refine LW.gY (want_of rfl rfl hc31) ?_
          refine LW.ldb hS7 2 rfl ag68 rfl rfl rfl ?_
          refine LW.gY (want_of rfl rfl hc31) ?_
          refine LW.p rfl rfl ?_
          replace h := obind h
          obtain ⟨y32, hy32, h⟩ := h
          obtain ⟨b35, o36, cs37, hae, hb40, hp33, hq34, hd38, hk39⟩ := hr0_3.idx hy32
          subst hae
          obtain ⟨a41, c42, a44, c45, a47, c48, rfl, hr43, hr46, hr49⟩ := hd38
          refine LW.gY (want_of rfl rfl hc31) ?_
          refine LW.u (Pur.ix Try.underlying68 sz123 rfl rfl hp33 hq34) rfl ?_
          refine LW.gY (want_of rfl rfl hc31) ?_
          refine LW.u (Pur.fa fo123_1 rfl) rfl ?_
          refine LW.gY (want_of rfl rfl hc31) ?_
          refine LW.l (Ldr.old w0 ag3 rfl (hk39 1 _ rfl)) (hS7.same _ hb40.1 hb40.2) rfl ?_
          refine LW.gY (want_of rfl rfl hc31) ?_
          refine LW.p rfl rfl ?_
          refine LW.u (Pur.pickT rfl hc31) rfl ?_
          refine LW.nil ?_
          replace h := Option.some.inj h
          subst h
          have hS8 := hS7.thaw (α := Bool) 0 rfl ho24
          exact ⟨⟨rfl, rfl, rfl, rfl, rfl, trivial⟩, hS8.pick [0, 1, 2] rfl rfl⟩
        replace h := bcF h hc31
        refine LW.gN (want_not rfl rfl hc31) rfl ?_
        refine LW.gN (want_not rfl rfl hc31) rfl ?_
        refine LW.gN (want_not rfl rfl hc31) rfl ?_
        refine LW.gN (want_not rfl rfl hc31) rfl ?_
        refine LW.gN (want_not rfl rfl hc31) rfl ?_
        refine LW.gN (want_not rfl rfl hc31) rfl ?_
        refine LW.gN (want_not rfl rfl hc31) rfl ?_
        refine LW.gN (want_not rfl rfl hc31) rfl ?_
        refine LW.u (Pur.pickF rfl hc31) rfl ?_
        refine LW.nil ?_
        replace h := Option.some.inj h
        subst h
        have hS9 := hS7.thaw (α := Bool) 0 rfl ho24
        exact ⟨⟨rfl, rfl, rfl, rfl, rfl, trivial⟩, hS9.pick [0, 1, 2] rfl rfl⟩
      intro e w50 hM
      obtain ⟨hE, hS10⟩ := hM
      obtain ⟨e, rfl⟩ := hE.out
      have h := h17
      show CW _ _ _ _ _ _
      refine CW.cond rfl (fun hc51 => ?_) (fun hc51 => ?_)
      · replace h := bcT h hc51
        refine CW.region ?_
        iterate 2 refine LW.p rfl rfl ?_
        replace h := obind h
        obtain ⟨y52, hy52, h⟩ := h
        refine LW.app1 (M := []) (L := [sl a10 c11 y9, sl s13a0 s13c0 s13.1, bx g1 75 [.slice a0_0 x0.label.levels.length c0_0, .slice a0_1 x0.own.length c0_1, .slice a0_2 x0.tree.length c0_2, .slice a0_3 x0.heap.arena.length c0_3, .int .i64 x0.heap.gc.phase, .int .i64 x0.heap.gc.pos, .int .i64 x0.heap.gc.round, .slice a0_7 x0.heap.gc.grey.length c0_7, .slice a0_8 x0.taps.length c0_8, .int .i64 x0.next, .int .i64 x0.want, .int .i64 x0.spent.pages, .int .i64 x0.spent.rent, .int .i64 x0.spent.cpu, .int .i64 x0.press, .int .i64 x0.lost]]) (vs := #[.int .i64 s13.2]) (i := 1) sT24 rfl (by kernel_rfl) rfl rfl hy52 hS10 rfl (fun w G hG => by cases (show G = [] from hG); exact ⟨rfl, rfl⟩) rfl rfl ?_
        intro v55 a53 c54 w56 hS11 hf
        refine LW.p rfl rfl ?_
        refine LW.nil ?_
        show CW _ _ _ _ _ _
        refine CW.region ?_
        iterate 3 refine LW.p rfl rfl ?_
        refine LW.nil ?_
        replace h := Option.some.inj h
        subst h
        exact ⟨rfl, ⟨a53, c54, ⟨rfl, rfl, rfl, rfl, trivial⟩, hS11.pick [0, 1, 2] rfl rfl⟩⟩
      replace h := bcF h hc51
      refine CW.skip ?_
      show CW _ _ _ _ _ _
      refine CW.region ?_
      iterate 3 refine LW.p rfl rfl ?_
      refine LW.nil ?_
      replace h := Option.some.inj h
      subst h
      exact ⟨rfl, ⟨s13a0, s13c0, ⟨rfl, rfl, rfl, rfl, trivial⟩, hS10.pick [0, 1, 2] rfl rfl⟩⟩
    replace h := bcF h hc15
    refine CW.exit ?_
    replace h := Option.some.inj h
    subst h
    exact ⟨trivial, rfl, ⟨s13a0, s13c0, ⟨rfl, trivial⟩, hS6.pick [0, 1, 2] rfl rfl⟩⟩
  intro x e w59 hM
  obtain ⟨rfl, hM⟩ := hM
  obtain ⟨s13a0, s13c0, hE, hS12⟩ := hM
  obtain ⟨e, rfl⟩ := hE.out
  have h := h58
  show CW _ _ _ _ _ _
  refine CW.seq ?_
  refine CW.region ?_
  iterate 2 refine LW.p rfl rfl ?_
  refine LW.nil ?_
  show CW _ _ _ _ _ _
  refine CW.ret ?_
  cases h
  exact And.intro trivial ⟨_, Res.one (resOne.t rfl), s13a0, s13c0, rfl, hS12.pick [1] rfl rfl⟩

theorem W_s_CanCall {w0 : World} {N : Nat} {x0 : DPart} {x1 : Int} {x2 : Int} {r : Bool} (h : F_s_CanCall N x0 x1 x2 = some r) {a0_0 : Option Addr} {n0_0 c0_0 : Nat} (hn0_0 : n0_0 = x0.label.levels.length) (hr0_0 : rdS (Bor w0 []) w0 a0_0 c0_0 x0.label.levels) {a0_1 : Option Addr} {n0_1 c0_1 : Nat} (hn0_1 : n0_1 = x0.own.length) (hr0_1 : rdS (Bor w0 []) w0 a0_1 c0_1 x0.own) {a0_2 : Option Addr} {n0_2 c0_2 : Nat} (hn0_2 : n0_2 = x0.tree.length) (hr0_2 : rdS (Bor w0 []) w0 a0_2 c0_2 x0.tree) {a0_3 : Option Addr} {n0_3 c0_3 : Nat} (hn0_3 : n0_3 = x0.heap.arena.length) (hr0_3 : rdS (Bor w0 []) w0 a0_3 c0_3 x0.heap.arena) {a0_7 : Option Addr} {n0_7 c0_7 : Nat} (hn0_7 : n0_7 = x0.heap.gc.grey.length) (hr0_7 : rdS (Bor w0 []) w0 a0_7 c0_7 x0.heap.gc.grey) {a0_8 : Option Addr} {n0_8 c0_8 : Nat} (hn0_8 : n0_8 = x0.taps.length) (hr0_8 : rdS (Bor w0 []) w0 a0_8 c0_8 x0.taps) :
    Ret Try.prog 31 #[.agg #[.slice a0_0 n0_0 c0_0, .slice a0_1 n0_1 c0_1, .slice a0_2 n0_2 c0_2, .slice a0_3 n0_3 c0_3, .int .i64 x0.heap.gc.phase, .int .i64 x0.heap.gc.pos, .int .i64 x0.heap.gc.round, .slice a0_7 n0_7 c0_7, .slice a0_8 n0_8 c0_8, .int .i64 x0.next, .int .i64 x0.want, .int .i64 x0.spent.pages, .int .i64 x0.spent.rent, .int .i64 x0.spent.cpu, .int .i64 x0.press, .int .i64 x0.lost], .int .i64 x1, .int .i64 x2] w0 (fun v w => v = .bool r ∧ St w0 [] w []) := by
  subst hn0_0
  subst hn0_1
  subst hn0_2
  subst hn0_3
  subst hn0_7
  subst hn0_8
  unfold F_s_CanCall at h
  refine Ret.of Try.func31 rfl rfl rfl ?_
  have hS1 := St.start w0
  refine CW.seq ?_
  refine CW.region ?_
  refine LW.box (cs := [.slice a0_0 x0.label.levels.length c0_0, .slice a0_1 x0.own.length c0_1, .slice a0_2 x0.tree.length c0_2, .slice a0_3 x0.heap.arena.length c0_3, .int .i64 x0.heap.gc.phase, .int .i64 x0.heap.gc.pos, .int .i64 x0.heap.gc.round, .slice a0_7 x0.heap.gc.grey.length c0_7, .slice a0_8 x0.taps.length c0_8, .int .i64 x0.next, .int .i64 x0.want, .int .i64 x0.spent.pages, .int .i64 x0.spent.rent, .int .i64 x0.spent.cpu, .int .i64 x0.press, .int .i64 x0.lost]) rfl hS1 rfl ?_
  intro g1 w2 hS2 hf
  refine LW.p rfl rfl ?_
  refine LW.nil ?_
  show CW _ _ _ _ _ _
  refine CW.seq ?_
  refine CW.region ?_
  refine LW.ldbN hS2 0 rfl ag75 rfl rfl rfl ?_
  refine LW.p rfl rfl ?_
  replace h := obind h
  obtain ⟨y3, hy3, h⟩ := h
  have q := W_s_Threads (w0 := w2) hy3 rfl (hS2.rB hr0_0) rfl (hS2.rB hr0_1) rfl (hS2.rB hr0_2) rfl (hS2.rB hr0_3) rfl (hS2.rB hr0_7) rfl (hS2.rB hr0_8)
  refine LW.call pl71 rfl rfl ?_
  refine Ret.mono q ?_
  rintro _ w6 ⟨a4, c5, rfl, hs⟩
  have hS3 := hS2.add hs
  refine LW.p rfl rfl ?_
  replace h := obind h
  obtain ⟨y7, hy7, h⟩ := h
  have q := W_s_l4Has (w0 := w6) hy7 rfl (hS3.rI 0 rfl)
  refine LW.call pl70 rfl rfl ?_
  refine Ret.mono q ?_
  rintro _ w8 ⟨rfl, hs⟩
  have hS4 := hS3.add hs
  refine LW.p rfl rfl ?_
  rcases bcases y7 with hc9 | hc9
  · replace h := bcT h hc9
    refine LW.gY (want_of rfl rfl hc9) ?_
    refine LW.u (Pur.fa fo75_3 rfl) rfl ?_
    refine LW.gY (want_of rfl rfl hc9) ?_
    refine LW.u (Pur.fa fo71_0 rfl) rfl ?_
    refine LW.gY (want_of rfl rfl hc9) ?_
    refine LW.ldb hS4 1 rfl ag68 rfl rfl rfl ?_
    refine LW.gY (want_of rfl rfl hc9) ?_
    refine LW.p rfl rfl ?_
    replace h := obind h
    obtain ⟨y10, hy10, h⟩ := h
    obtain ⟨b13, o14, cs15, hae, hb18, hp11, hq12, hd16, hk17⟩ := hr0_3.idx hy10
    subst hae
    obtain ⟨a19, c20, a22, c23, a25, c26, rfl, hr21, hr24, hr27⟩ := hd16
    refine LW.gY (want_of rfl rfl hc9) ?_
    refine LW.u (Pur.ix Try.underlying68 sz123 rfl rfl hp11 hq12) rfl ?_
    refine LW.gY (want_of rfl rfl hc9) ?_
    refine LW.u (Pur.fa fo123_6 rfl) rfl ?_
    refine LW.gY (want_of rfl rfl hc9) ?_
    refine LW.l (Ldr.old w0 ag3 rfl (hk17 6 _ rfl)) (hS4.same _ hb18.1 hb18.2) rfl ?_
    refine LW.gY (want_of rfl rfl hc9) ?_
    refine LW.p rfl rfl ?_
    refine LW.u (Pur.pickT rfl hc9) rfl ?_
    refine LW.p rfl rfl ?_
    refine LW.nil ?_
    show CW _ _ _ _ _ _
    refine CW.fresh (l := [(6, .bool (y10.wait == 0))]) ⟨rfl, trivial⟩ (fun e => ?_)
    refine CW.ret ?_
    cases h
    exact And.intro trivial ⟨_, Res.one (resOne.t rfl), rfl, hS4.pick [] rfl rfl⟩
  replace h := bcF h hc9
  refine LW.gN (want_not rfl rfl hc9) rfl ?_
  refine LW.gN (want_not rfl rfl hc9) rfl ?_
  refine LW.gN (want_not rfl rfl hc9) rfl ?_
  refine LW.gN (want_not rfl rfl hc9) rfl ?_
  refine LW.gN (want_not rfl rfl hc9) rfl ?_
  refine LW.gN (want_not rfl rfl hc9) rfl ?_
  refine LW.gN (want_not rfl rfl hc9) rfl ?_
  refine LW.gN (want_not rfl rfl hc9) rfl ?_
  refine LW.u (Pur.pickF rfl hc9) rfl ?_
  refine LW.p rfl rfl ?_
  refine LW.nil ?_
  show CW _ _ _ _ _ _
  refine CW.fresh (l := [(6, .bool false)]) ⟨rfl, trivial⟩ (fun e => ?_)
  refine CW.ret ?_
  cases h
  exact And.intro trivial ⟨_, Res.one (resOne.t rfl), rfl, hS4.pick [] rfl rfl⟩

theorem W_i_edgesOf {w0 : World} {N : Nat} {x0 : List DObj} {x1 : Int} {r : (List Int)} (h : F_i_edgesOf N x0 x1 = some r) {a0_0 : Option Addr} {n0_0 c0_0 : Nat} (hn0_0 : n0_0 = x0.length) (hr0_0 : rdS (Bor w0 []) w0 a0_0 c0_0 x0) :
    Ret Try.prog 178 #[.slice a0_0 n0_0 c0_0, .int .i64 x1] w0 (fun v w => ∃ ar0 cr0, v = .slice ar0 r.length cr0 ∧ St w0 [] w [sl ar0 cr0 r]) := by
  subst hn0_0
  unfold F_i_edgesOf at h
  refine Ret.of Try.func178 rfl rfl rfl ?_
  have hS1 := St.start w0
  refine CW.seq ?_
  refine CW.region ?_
  refine LW.p rfl rfl ?_
  refine LW.nil ?_
  show CW _ _ _ _ _ _
  refine CW.seq ?_
  refine CW.region ?_
  refine LW.bsl (α := Int) (vs := []) (cs := #[]) (l := ([] : List Int)) rfl (by kernel_rfl) rfl rfl rfl (fun w => rfl) hS1 rfl ?_
  intro a1 c2 w3 hS2 hf
  refine LW.p rfl rfl ?_
  refine LW.nil ?_
  show CW _ _ _ _ _ _
  refine CW.seq ?_
  refine CW.seq ?_
  refine CW.region ?_
  refine LW.p rfl rfl ?_
  refine LW.u (Pur.len Try.underlying68 rfl) rfl ?_
  refine LW.p rfl rfl ?_
  refine LW.nil ?_
  show CW _ _ _ _ _ _
  refine CW.block ?_
  obtain ⟨o82, ho82, h83⟩ := obind h
  refine CW.mono (CW.iter (σ := (List Int) × Int) (ρ := (List Int) × Int) (fun s4 e wb => ∃ (s4a0 : Option Addr), ∃ (s4c0 : Nat), En e [(0, .slice a0_0 x0.length c0_0), (1, .int .i64 x1), (5, .slice s4a0 s4.1.length s4c0), (10, .slice a0_0 x0.length c0_0), (11, .int .i64 (x0.length : Int)), (12, .int .i64 s4.2)] ∧ St w0 [] wb [sl s4a0 s4c0 s4.1]) (fun s4 x e wb => x = .exit 0 ∧ ∃ (s4a0 : Option Addr), ∃ (s4c0 : Nat), En e [(5, .slice s4a0 s4.1.length s4c0)] ∧ St w0 [] wb [sl s4a0 s4c0 s4.1]) ?_ N (([] : List Int), 0) _ _ _ ⟨a1, c2, ⟨rfl, rfl, rfl, rfl, rfl, rfl, trivial⟩, hS2.pick [0] rfl rfl⟩ ho82) ?_
  · intro s4 e w5 o hM h
    obtain ⟨s4a0, s4c0, hE, hS3⟩ := hM
    obtain ⟨e, rfl⟩ := hE.out
    refine CW.seq ?_
    refine CW.region ?_
    refine LW.p rfl rfl ?_
    refine LW.nil ?_
    show CW _ _ _ _ _ _
    refine CW.seq ?_
    refine CW.cond rfl (fun hc6 => ?_) (fun hc6 => ?_)
    · replace h := bcT h hc6
      refine CW.skip ?_
      show CW _ _ _ _ _ _
      refine CW.seq ?_
      refine CW.block ?_
      refine CW.seq ?_
      refine CW.region ?_
      refine LW.p rfl rfl ?_
      replace h := obind h
      obtain ⟨y7, hy7, h⟩ := h
      obtain ⟨b10, o11, cs12, hae, hb15, hp8, hq9, hd13, hk14⟩ := hr0_0.idx hy7
      subst hae
      obtain ⟨a16, c17, a19, c20, a22, c23, rfl, hr18, hr21, hr24⟩ := hd13
      refine LW.u (Pur.ix Try.underlying68 sz123 rfl rfl hp8 hq9) rfl ?_
      refine LW.l (Ldr.oldN w0 ag123 rfl rfl (fun j u hu => hk14 j u hu)) (hS3.same _ hb15.1 hb15.2) rfl ?_
      refine LW.alloc zv123 hS3 rfl ?_
      intro g25 w26 hS4 hf
      refine LW.p rfl rfl ?_
      refine LW.stb hS4 0 rfl ag123 rfl rfl rfl rfl rfl ?_
      intro w27 hS5 hf
      refine LW.nil ?_
      show CW _ _ _ _ _ _
      refine CW.fresh (l := [(0, .slice (some ⟨b10, o11, none⟩) x0.length c0_0), (1, .int .i64 x1), (5, .slice s4a0 s4.1.length s4c0), (6, .int .i64 s4.2), (7, .pointer (some ⟨g25, 0, none⟩)), (10, .slice (some ⟨b10, o11, none⟩) x0.length c0_0), (11, .int .i64 (x0.length : Int)), (12, .int .i64 s4.2)]) ⟨rfl, rfl, rfl, rfl, rfl, rfl, rfl, rfl, trivial⟩ (fun e => ?_)
      refine CW.seq ?_
      obtain ⟨j28, hj28, h29⟩ := obind h
      refine CW.cut (fun e wb => En e [(0, .slice (some ⟨b10, o11, none⟩) x0.length c0_0), (1, .int .i64 x1), (5, .slice s4a0 s4.1.length s4c0), (6, .int .i64 s4.2), (8, .bool j28), (10, .slice (some ⟨b10, o11, none⟩) x0.length c0_0), (11, .int .i64 (x0.length : Int)), (12, .int .i64 s4.2)] ∧ St w0 [] wb [sl s4a0 s4c0 s4.1]) ?_ ?_
      · have h := hj28
        refine CW.region ?_
        iterate 3 refine LW.p rfl rfl ?_
        rcases bcases (decide (s4.2 > 0)) with hc30 | hc30
        · replace h := bcT h hc30
          refine LW.gY (want_of rfl rfl hc30) ?_
          refine LW.u (Pur.fa fo123_1 rfl) rfl ?_
          refine LW.gY (want_of rfl rfl hc30) ?_
          refine LW.ldb hS5 0 rfl ag3 rfl rfl rfl ?_
          refine LW.gY (want_of rfl rfl hc30) ?_
          refine LW.p rfl rfl ?_
          refine LW.u (Pur.pickT rfl hc30) rfl ?_
          refine LW.p rfl rfl ?_
          rcases bcases (y7.kind != 0) with hc31 | hc31
          · replace h := bcT h hc31
            refine LW.gY (want_of rfl rfl hc31) ?_
            refine LW.u (Pur.fa fo123_2 rfl) rfl ?_
            refine LW.gY (want_of rfl rfl hc31) ?_
            refine LW.ldb hS5 0 rfl ag3 rfl rfl rfl ?_
            refine LW.gY (want_of rfl rfl hc31) ?_
            refine LW.p rfl rfl ?_
            refine LW.gY (want_of rfl rfl hc31) ?_
            refine LW.p rfl rfl ?_
            refine LW.u (Pur.pickT rfl hc31) rfl ?_
            refine LW.p rfl rfl ?_
            rcases bcases (y7.box == x1) with hc32 | hc32
            · replace h := bcT h hc32
              refine LW.gY (want_of rfl rfl hc32) ?_
              refine LW.p rfl rfl ?_
              refine LW.gY (want_of rfl rfl hc32) ?_
              refine LW.p rfl rfl ?_
              replace h := obind h
              obtain ⟨y33, hy33, h⟩ := h
              obtain ⟨b36, o37, cs38, hae, hb41, hp34, hq35, hd39, hk40⟩ := hr0_0.idx hy33
              cases hae
              obtain ⟨a42, c43, a45, c46, a48, c49, rfl, hr44, hr47, hr50⟩ := hd39
              refine LW.gY (want_of rfl rfl hc32) ?_
              refine LW.u (Pur.ix Try.underlying68 sz123 rfl rfl hp34 hq35) rfl ?_
              refine LW.gY (want_of rfl rfl hc32) ?_
              refine LW.u (Pur.fa fo123_1 rfl) rfl ?_
              refine LW.gY (want_of rfl rfl hc32) ?_
              refine LW.l (Ldr.old w0 ag3 rfl (hk40 1 _ rfl)) (hS5.same _ hb41.1 hb41.2) rfl ?_
              refine LW.gY (want_of rfl rfl hc32) ?_
              refine LW.p rfl rfl ?_
              refine LW.u (Pur.pickT rfl hc32) rfl ?_
              refine LW.fresh (l := [(0, .slice (some ⟨b10, o11, none⟩) x0.length c0_0), (1, .int .i64 x1), (5, .slice s4a0 s4.1.length s4c0), (6, .int .i64 s4.2), (10, .slice (some ⟨b10, o11, none⟩) x0.length c0_0), (11, .int .i64 (x0.length : Int)), (12, .int .i64 s4.2), (37, .bool (y33.kind == 1))]) ⟨rfl, rfl, rfl, rfl, rfl, rfl, rfl, rfl, trivial⟩ (fun e => ?_)
              refine LW.p rfl rfl ?_
              refine LW.nil ?_
              replace h := Option.some.inj h
              subst h
              exact ⟨⟨rfl, rfl, rfl, rfl, rfl, rfl, rfl, rfl, trivial⟩, hS5.pick [1] rfl rfl⟩
            replace h := bcF h hc32
            refine LW.gN (want_not rfl rfl hc32) rfl ?_
            refine LW.gN (want_not rfl rfl hc32) rfl ?_
            refine LW.gN (want_not rfl rfl hc32) rfl ?_
            refine LW.gN (want_not rfl rfl hc32) rfl ?_
            refine LW.gN (want_not rfl rfl hc32) rfl ?_
            refine LW.gN (want_not rfl rfl hc32) rfl ?_
            refine LW.u (Pur.pickF rfl hc32) rfl ?_
            refine LW.p rfl rfl ?_
            refine LW.nil ?_
            replace h := Option.some.inj h
            subst h
            exact ⟨⟨rfl, rfl, rfl, rfl, rfl, rfl, rfl, rfl, trivial⟩, hS5.pick [1] rfl rfl⟩
          replace h := bcF h hc31
          refine LW.gN (want_not rfl rfl hc31) rfl ?_
          refine LW.gN (want_not rfl rfl hc31) rfl ?_
          refine LW.gN (want_not rfl rfl hc31) rfl ?_
          refine LW.gN (want_not rfl rfl hc31) rfl ?_
          refine LW.u (Pur.pickF rfl hc31) rfl ?_
          refine LW.p rfl rfl ?_
          refine LW.gN (want_not rfl rfl rfl) rfl ?_
          refine LW.gN (want_not rfl rfl rfl) rfl ?_
          refine LW.gN (want_not rfl rfl rfl) rfl ?_
          refine LW.gN (want_not rfl rfl rfl) rfl ?_
          refine LW.gN (want_not rfl rfl rfl) rfl ?_
          refine LW.gN (want_not rfl rfl rfl) rfl ?_
          refine LW.u (Pur.pickF rfl rfl) rfl ?_
          refine LW.p rfl rfl ?_
          refine LW.nil ?_
          replace h := Option.some.inj h
          subst h
          exact ⟨⟨rfl, rfl, rfl, rfl, rfl, rfl, rfl, rfl, trivial⟩, hS5.pick [1] rfl rfl⟩
        replace h := bcF h hc30
        refine LW.gN (want_not rfl rfl hc30) rfl ?_
        refine LW.gN (want_not rfl rfl hc30) rfl ?_
        refine LW.gN (want_not rfl rfl hc30) rfl ?_
        refine LW.u (Pur.pickF rfl hc30) rfl ?_
        refine LW.p rfl rfl ?_
        refine LW.gN (want_not rfl rfl rfl) rfl ?_
        refine LW.gN (want_not rfl rfl rfl) rfl ?_
        refine LW.gN (want_not rfl rfl rfl) rfl ?_
        refine LW.gN (want_not rfl rfl rfl) rfl ?_
        refine LW.u (Pur.pickF rfl rfl) rfl ?_
        refine LW.p rfl rfl ?_
        refine LW.gN (want_not rfl rfl rfl) rfl ?_
        refine LW.gN (want_not rfl rfl rfl) rfl ?_
        refine LW.gN (want_not rfl rfl rfl) rfl ?_
        refine LW.gN (want_not rfl rfl rfl) rfl ?_
        refine LW.gN (want_not rfl rfl rfl) rfl ?_
        refine LW.gN (want_not rfl rfl rfl) rfl ?_
        refine LW.u (Pur.pickF rfl rfl) rfl ?_
        refine LW.p rfl rfl ?_
        refine LW.nil ?_
        replace h := Option.some.inj h
        subst h
        exact ⟨⟨rfl, rfl, rfl, rfl, rfl, rfl, rfl, rfl, trivial⟩, hS5.pick [1] rfl rfl⟩
      intro e w51 hM
      obtain ⟨hE, hS6⟩ := hM
      obtain ⟨e, rfl⟩ := hE.out
      have h := h29
      show CW _ _ _ _ _ _
      refine CW.seq ?_
      obtain ⟨j52, hj52, h53⟩ := obind h
      refine CW.cut (fun e wb => En e [(0, .slice (some ⟨b10, o11, none⟩) x0.length c0_0), (1, .int .i64 x1), (5, .slice s4a0 s4.1.length s4c0), (6, .int .i64 s4.2), (10, .slice (some ⟨b10, o11, none⟩) x0.length c0_0), (11, .int .i64 (x0.length : Int)), (12, .int .i64 s4.2), (47, .bool j52)] ∧ St w0 [] wb [sl s4a0 s4c0 s4.1]) ?_ ?_
      · have h := hj52
        refine CW.region ?_
        iterate 2 refine LW.p rfl rfl ?_
        rcases bcases j28 with hc54 | hc54
        · replace h := bcT h hc54
          refine LW.gN (want_not rfl rfl hc54) rfl ?_
          refine LW.gN (want_not rfl rfl hc54) rfl ?_
          refine LW.gN (want_not rfl rfl hc54) rfl ?_
          refine LW.gN (want_not rfl rfl hc54) rfl ?_
          refine LW.gN (want_not rfl rfl hc54) rfl ?_
          refine LW.gN (want_not rfl rfl hc54) rfl ?_
          refine LW.gN (want_not rfl rfl hc54) rfl ?_
          refine LW.u (Pur.pickT rfl hc54) rfl ?_
          refine LW.nil ?_
          replace h := Option.some.inj h
          subst h
          exact ⟨⟨rfl, rfl, rfl, rfl, rfl, rfl, rfl, rfl, trivial⟩, hS6.pick [0] rfl rfl⟩
        replace h := bcF h hc54
        refine LW.gY (want_of rfl rfl hc54) ?_
        refine LW.p rfl rfl ?_
        refine LW.gY (want_of rfl rfl hc54) ?_
        refine LW.p rfl rfl ?_
        replace h := obind h
        obtain ⟨y55, hy55, h⟩ := h
        obtain ⟨b58, o59, cs60, hae, hb63, hp56, hq57, hd61, hk62⟩ := hr0_0.idx hy55
        cases hae
        obtain ⟨a64, c65, a67, c68, a70, c71, rfl, hr66, hr69, hr72⟩ := hd61
        refine LW.gY (want_of rfl rfl hc54) ?_
        refine LW.u (Pur.ix Try.underlying68 sz123 rfl rfl hp56 hq57) rfl ?_
        refine LW.gY (want_of rfl rfl hc54) ?_
        refine LW.u (Pur.fa fo123_10 rfl) rfl ?_
        refine LW.gY (want_of rfl rfl hc54) ?_
        refine LW.l (Ldr.old w0 ag24 rfl (hk62 10 _ rfl)) (hS6.same _ hb63.1 hb63.2) rfl ?_
        refine LW.gY (want_of rfl rfl hc54) ?_
        refine LW.p rfl rfl ?_
        replace h := obind h
        obtain ⟨y73, hy73, h⟩ := h
        have q := W_z_Contains_int (w0 := w51) hy73 rfl (hS6.rB hr66)
        refine LW.gY (want_of rfl rfl hc54) ?_
        refine LW.call pl76 rfl rfl ?_
        refine Ret.mono q ?_
        rintro _ w74 ⟨rfl, hs⟩
        have hS7 := hS6.add hs
        refine LW.u (Pur.pickF rfl hc54) rfl ?_
        refine LW.nil ?_
        replace h := Option.some.inj h
        subst h
        exact ⟨⟨rfl, rfl, rfl, rfl, rfl, rfl, rfl, rfl, trivial⟩, hS7.pick [0] rfl rfl⟩
      intro e w75 hM
      obtain ⟨hE, hS8⟩ := hM
      obtain ⟨e, rfl⟩ := hE.out
      have h := h53
      show CW _ _ _ _ _ _
      refine CW.cond rfl (fun hc76 => ?_) (fun hc76 => ?_)
      · replace h := bcT h hc76
        refine CW.region ?_
        iterate 2 refine LW.p rfl rfl ?_
        replace h := obind h
        obtain ⟨y77, hy77, h⟩ := h
        refine LW.app1 (M := []) (L := [sl s4a0 s4c0 s4.1]) (vs := #[.int .i64 s4.2]) (i := 0) sT24 rfl (by kernel_rfl) rfl rfl hy77 hS8 rfl (fun w G hG => by cases (show G = [] from hG); exact ⟨rfl, rfl⟩) rfl rfl ?_
        intro v80 a78 c79 w81 hS9 hf
        refine LW.p rfl rfl ?_
        refine LW.nil ?_
        show CW _ _ _ _ _ _
        refine CW.region ?_
        iterate 2 refine LW.p rfl rfl ?_
        refine LW.nil ?_
        replace h := Option.some.inj h
        subst h
        exact ⟨rfl, ⟨a78, c79, ⟨rfl, rfl, rfl, rfl, rfl, rfl, trivial⟩, hS9.pick [0] rfl rfl⟩⟩
      replace h := bcF h hc76
      refine CW.skip ?_
      show CW _ _ _ _ _ _
      refine CW.region ?_
      iterate 2 refine LW.p rfl rfl ?_
      refine LW.nil ?_
      replace h := Option.some.inj h
      subst h
      exact ⟨rfl, ⟨s4a0, s4c0, ⟨rfl, rfl, rfl, rfl, rfl, rfl, trivial⟩, hS8.pick [0] rfl rfl⟩⟩
    replace h := bcF h hc6
    refine CW.exit ?_
    replace h := Option.some.inj h
    subst h
    exact ⟨trivial, rfl, ⟨s4a0, s4c0, ⟨rfl, trivial⟩, hS3.pick [0] rfl rfl⟩⟩
  intro x e w84 hM
  obtain ⟨rfl, hM⟩ := hM
  obtain ⟨s4a0, s4c0, hE, hS10⟩ := hM
  obtain ⟨e, rfl⟩ := hE.out
  have h := h83
  show CW _ _ _ _ _ _
  refine CW.seq ?_
  refine CW.region ?_
  iterate 2 refine LW.p rfl rfl ?_
  refine LW.nil ?_
  show CW _ _ _ _ _ _
  refine CW.ret ?_
  cases h
  exact And.intro trivial ⟨_, Res.one (resOne.t rfl), s4a0, s4c0, rfl, hS10.pick [0] rfl rfl⟩

theorem W_i_Expired {w0 : World} {N : Nat} {x0 : DObj} {x1 : Int} {r : Bool} (h : F_i_Expired N x0 x1 = some r) {a0_10 : Option Addr} {n0_10 c0_10 : Nat} (hn0_10 : n0_10 = x0.links.length) (hr0_10 : rdS (Bor w0 []) w0 a0_10 c0_10 x0.links) {a0_11 : Option Addr} {n0_11 c0_11 : Nat} (hn0_11 : n0_11 = x0.data.length) (hr0_11 : rdS (Bor w0 []) w0 a0_11 c0_11 x0.data) {a0_12 : Option Addr} {n0_12 c0_12 : Nat} (hn0_12 : n0_12 = x0.queue.length) (hr0_12 : rdS (Bor w0 []) w0 a0_12 c0_12 x0.queue) :
    Ret Try.prog 179 #[.agg #[.int .i64 x0.gen, .int .i64 x0.kind, .int .i64 x0.box, .int .i64 x0.res, .int .i64 x0.til, .int .i64 x0.pages, .int .i64 x0.wait, .int .i64 x0.got, .int .i64 x0.ran, .bool x0.mark, .slice a0_10 n0_10 c0_10, .slice a0_11 n0_11 c0_11, .slice a0_12 n0_12 c0_12], .int .i64 x1] w0 (fun v w => v = .bool r ∧ St w0 [] w []) := by
  subst hn0_10
  subst hn0_11
  subst hn0_12
  unfold F_i_Expired at h
  refine Ret.of Try.func179 rfl rfl rfl ?_
  have hS1 := St.start w0
  refine CW.seq ?_
  refine CW.region ?_
  refine LW.box (cs := [.int .i64 x0.gen, .int .i64 x0.kind, .int .i64 x0.box, .int .i64 x0.res, .int .i64 x0.til, .int .i64 x0.pages, .int .i64 x0.wait, .int .i64 x0.got, .int .i64 x0.ran, .bool x0.mark, .slice a0_10 x0.links.length c0_10, .slice a0_11 x0.data.length c0_11, .slice a0_12 x0.queue.length c0_12]) rfl hS1 rfl ?_
  intro g1 w2 hS2 hf
  refine LW.p rfl rfl ?_
  refine LW.nil ?_
  show CW _ _ _ _ _ _
  refine CW.seq ?_
  refine CW.region ?_
  refine LW.u (Pur.fa fo123_1 rfl) rfl ?_
  refine LW.ldb hS2 0 rfl ag3 rfl rfl rfl ?_
  iterate 2 refine LW.p rfl rfl ?_
  rcases bcases (x0.kind == 0) with hc3 | hc3
  · replace h := bcT h hc3
    refine LW.gN (want_not rfl rfl hc3) rfl ?_
    refine LW.gN (want_not rfl rfl hc3) rfl ?_
    refine LW.gN (want_not rfl rfl hc3) rfl ?_
    refine LW.gN (want_not rfl rfl hc3) rfl ?_
    refine LW.u (Pur.pickT rfl hc3) rfl ?_
    refine LW.p rfl rfl ?_
    refine LW.nil ?_
    show CW _ _ _ _ _ _
    refine CW.fresh (l := [(4, .bool true)]) ⟨rfl, trivial⟩ (fun e => ?_)
    refine CW.ret ?_
    cases h
    exact And.intro trivial ⟨_, Res.one (resOne.t rfl), rfl, hS2.pick [] rfl rfl⟩
  replace h := bcF h hc3
  refine LW.gY (want_of rfl rfl hc3) ?_
  refine LW.u (Pur.fa fo123_4 rfl) rfl ?_
  refine LW.gY (want_of rfl rfl hc3) ?_
  refine LW.ldb hS2 0 rfl ag3 rfl rfl rfl ?_
  refine LW.gY (want_of rfl rfl hc3) ?_
  refine LW.p rfl rfl ?_
  refine LW.gY (want_of rfl rfl hc3) ?_
  refine LW.p rfl rfl ?_
  refine LW.u (Pur.pickF rfl hc3) rfl ?_
  refine LW.p rfl rfl ?_
  refine LW.nil ?_
  show CW _ _ _ _ _ _
  refine CW.fresh (l := [(4, .bool (decide (x0.til < x1)))]) ⟨rfl, trivial⟩ (fun e => ?_)
  refine CW.ret ?_
  cases h
  exact And.intro trivial ⟨_, Res.one (resOne.t rfl), rfl, hS2.pick [] rfl rfl⟩

theorem W_i_Reach {w0 : World} {N : Nat} {x0 : List DObj} {x1 : Int} {r : (List Bool)} (h : F_i_Reach N x0 x1 = some r) {a0_0 : Option Addr} {n0_0 c0_0 : Nat} (hn0_0 : n0_0 = x0.length) (hr0_0 : rdS (Bor w0 []) w0 a0_0 c0_0 x0) :
    Ret Try.prog 139 #[.slice a0_0 n0_0 c0_0, .int .i64 x1] w0 (fun v w => ∃ ar0 cr0, v = .slice ar0 r.length cr0 ∧ St w0 [] w [sl ar0 cr0 r]) := by
  subst hn0_0
  unfold F_i_Reach at h
  refine Ret.of Try.func139 rfl rfl rfl ?_
  have hS1 := St.start w0
  refine CW.seq ?_
  refine CW.region ?_
  refine LW.p rfl rfl ?_
  refine LW.nil ?_
  show CW _ _ _ _ _ _
  refine CW.seq ?_
  refine CW.seq ?_
  refine CW.region ?_
  refine LW.p rfl rfl ?_
  replace h := obind h
  obtain ⟨y1, hy1, h⟩ := h
  have q := W_i_ArenaOk (w0 := w0) hy1 rfl (hS1.rB hr0_0)
  refine LW.call pl168 rfl rfl ?_
  refine Ret.mono q ?_
  rintro _ w2 ⟨rfl, hs⟩
  have hS2 := hS1.add hs
  refine LW.p rfl rfl ?_
  refine LW.nil ?_
  show CW _ _ _ _ _ _
  refine CW.cond rfl (fun hc3 => ?_) (fun hc3 => ?_)
  · replace h := bcT h hc3
    refine CW.seq ?_
    refine CW.region ?_
    refine LW.p rfl rfl ?_
    refine LW.nil ?_
    show CW _ _ _ _ _ _
    refine CW.ret ?_
    cases h
    have hS3 := hS2.nil (α := Bool)
    exact And.intro trivial ⟨_, Res.one (resOne.t rfl), none, 0, rfl, hS3.pick [0] rfl rfl⟩
  replace h := bcF h hc3
  refine CW.skip ?_
  show CW _ _ _ _ _ _
  refine CW.seq ?_
  refine CW.region ?_
  replace h := obind h
  obtain ⟨y4, hy4, h⟩ := h
  refine LW.mk sT162 rfl rfl hy4 hS2 rfl ?_
  intro a5 c6 w7 hS4 hf
  refine LW.p rfl rfl ?_
  refine LW.nil ?_
  show CW _ _ _ _ _ _
  refine CW.seq ?_
  refine CW.region ?_
  refine LW.p rfl rfl ?_
  replace h := obind h
  obtain ⟨y8, hy8, h⟩ := h
  obtain ⟨b11, o12, hae, hp9, hq10⟩ := hS4.ownIdx (α := Bool) (i := 0) rfl hy8
  subst hae
  refine LW.u (Pur.ix Try.underlying162 sz4 rfl rfl hp9 hq10) rfl ?_
  replace h := obind h
  obtain ⟨y13, hy13, h⟩ := h
  refine LW.stE (M := []) (L := [sl (some ⟨b11, o12, none⟩) c6 y4]) (z := y8) (z' := true) (o := 0) hS4 (i := 0) rfl hy8 ag4 rfl (by show _ = o12 + (0 : Int).toNat * 1 + 0; omega) rfl rfl rfl rfl (whole (fun w G hG => by cases (show G = [] from hG); exact ⟨rfl, rfl⟩)) ?_
  intro w14 hS5 hf
  rw [Option.some.inj hy13] at hS5
  refine LW.nil ?_
  show CW _ _ _ _ _ _
  refine CW.seq ?_
  refine CW.region ?_
  refine LW.bsl (α := Int) (vs := [(0, .int .i64 0)]) (cs := #[.int .i64 0]) (l := ([0] : List Int)) rfl (by kernel_rfl) rfl rfl rfl (fun w => ⟨[.int .i64 0], [], [], [], rfl, rfl, ⟨rfl, rfl⟩, rfl⟩) hS5 rfl ?_
  intro a15 c16 w17 hS6 hf
  refine LW.p rfl rfl ?_
  refine LW.nil ?_
  show CW _ _ _ _ _ _
  refine CW.seq ?_
  refine CW.block ?_
  obtain ⟨o114, ho114, h115⟩ := obind h
  refine CW.mono (CW.iter (σ := (List Bool) × (List Int)) (ρ := (List Bool) × (List Int)) (fun s18 e wb => ∃ (s18a0 : Option Addr), ∃ (s18c0 : Nat), En e [(0, .slice a0_0 x0.length c0_0), (1, .int .i64 x1), (5, .slice (some ⟨b11, o12, none⟩) s18.1.length c6), (6, .slice s18a0 s18.2.length s18c0)] ∧ St w0 [] wb [sl s18a0 s18c0 s18.2, sl (some ⟨b11, o12, none⟩) c6 s18.1]) (fun s18 x e wb => x = .exit 0 ∧ ∃ (s18a0 : Option Addr), ∃ (s18c0 : Nat), En e [(5, .slice (some ⟨b11, o12, none⟩) s18.1.length c6)] ∧ St w0 [] wb [sl s18a0 s18c0 s18.2, sl (some ⟨b11, o12, none⟩) c6 s18.1]) ?_ N (y13, ([0] : List Int)) _ _ _ ⟨a15, c16, ⟨rfl, rfl, (show (.slice (some ⟨b11, o12, none⟩) y4.length c6 : Value) = .slice (some ⟨b11, o12, none⟩) y13.length c6 by rw [show y4.length = y13.length from (len_set (Option.some.inj hy13))]), rfl, trivial⟩, hS6.pick [0, 1] rfl rfl⟩ ho114) ?_
  · intro s18 e w19 o hM h
    obtain ⟨s18a0, s18c0, hE, hS7⟩ := hM
    obtain ⟨e, rfl⟩ := hE.out
    refine CW.seq ?_
    refine CW.seq ?_
    refine CW.region ?_
    refine LW.p rfl rfl ?_
    refine LW.u (Pur.len Try.underlying24 rfl) rfl ?_
    refine LW.p rfl rfl ?_
    refine LW.nil ?_
    show CW _ _ _ _ _ _
    refine CW.fresh (l := [(0, .slice a0_0 x0.length c0_0), (1, .int .i64 x1), (5, .slice (some ⟨b11, o12, none⟩) s18.1.length c6), (6, .slice s18a0 s18.2.length s18c0), (19, .bool (decide ((s18.2.length : Int) > 0)))]) ⟨rfl, rfl, rfl, rfl, rfl, trivial⟩ (fun e => ?_)
    refine CW.cond rfl (fun hc20 => ?_) (fun hc20 => ?_)
    · replace h := bcT h hc20
      refine CW.skip ?_
      show CW _ _ _ _ _ _
      refine CW.block ?_
      refine CW.seq ?_
      refine CW.region ?_
      refine LW.p rfl rfl ?_
      replace h := obind h
      obtain ⟨y21, hy21, h⟩ := h
      obtain ⟨b24, o25, hae, hp22, hq23⟩ := hS7.ownIdx (α := Int) (i := 0) rfl hy21
      subst hae
      refine LW.u (Pur.ix Try.underlying24 sz3 rfl rfl hp22 hq23) rfl ?_
      obtain ⟨F26, ho27, hS8⟩ := hS7.freeze (α := Int) 0 rfl
      obtain ⟨b28, o29, cs30, hae, hb33, _, _, hd31, hk32⟩ := ho27.rdF.idx hy21
      cases hae
      obtain rfl := hd31
      refine LW.l (Ldr.old w19 ag3 rfl (hk32 0 _ rfl)) (hS8.zC 0 rfl hb33) rfl ?_
      refine LW.p rfl rfl ?_
      refine LW.nil ?_
      show CW _ _ _ _ _ _
      refine CW.seq ?_
      refine CW.region ?_
      refine LW.p rfl rfl ?_
      have hS9 := hS8.thaw (α := Int) 0 rfl ho27
      replace h := obind h
      obtain ⟨y34, hy34, h⟩ := h
      obtain ⟨hle40, a35, c36, he37, he38, hS10⟩ := hS9.sub' (α := Int) 0 rfl hy34
      refine LW.u (Pur.sub (α := Int) (l := s18.2) Try.underlying24 sz3 rfl (bndS rfl) bndN hy34 hle40 he37 he38) rfl ?_
      refine LW.p rfl rfl ?_
      refine LW.nil ?_
      show CW _ _ _ _ _ _
      refine CW.seq ?_
      refine CW.region ?_
      iterate 2 refine LW.p rfl rfl ?_
      replace h := obind h
      obtain ⟨y41, hy41, h⟩ := h
      have q := W_i_edgesOf (w0 := w19) hy41 rfl (hS10.rB hr0_0)
      refine LW.call pl178 rfl rfl ?_
      refine Ret.mono q ?_
      rintro _ w44 ⟨a42, c43, rfl, hs⟩
      have hS11 := hS10.add hs
      refine LW.u (Pur.len Try.underlying24 rfl) rfl ?_
      refine LW.p rfl rfl ?_
      refine LW.nil ?_
      show CW _ _ _ _ _ _
      refine CW.fresh (l := [(0, .slice a0_0 x0.length c0_0), (1, .int .i64 x1), (5, .slice (some ⟨b11, o12, none⟩) s18.1.length c6), (6, .slice a35 y34.length c36), (27, .slice a42 y41.length c43), (28, .int .i64 (y41.length : Int)), (29, .int .i64 0)]) ⟨rfl, rfl, rfl, rfl, rfl, rfl, rfl, trivial⟩ (fun e => ?_)
      refine CW.block ?_
      obtain ⟨o111, ho111, h112⟩ := obind h
      refine CW.mono (CW.iter (σ := (List Bool) × (List Int) × Int) (ρ := (List Bool) × (List Int) × Int) (fun s45 e wb => ∃ (s45a0 : Option Addr), ∃ (s45c0 : Nat), En e [(0, .slice a0_0 x0.length c0_0), (1, .int .i64 x1), (5, .slice (some ⟨b11, o12, none⟩) s45.1.length c6), (6, .slice s45a0 s45.2.1.length s45c0), (27, .slice a42 y41.length c43), (28, .int .i64 (y41.length : Int)), (29, .int .i64 s45.2.2)] ∧ St w0 [] wb [sl a42 c43 y41, sl s45a0 s45c0 s45.2.1, sl (some ⟨b11, o12, none⟩) c6 s45.1]) (fun s45 x e wb => x = .exit 2 ∧ ∃ (s45a0 : Option Addr), ∃ (s45c0 : Nat), En e [(0, .slice a0_0 x0.length c0_0), (1, .int .i64 x1), (5, .slice (some ⟨b11, o12, none⟩) s45.1.length c6), (6, .slice s45a0 s45.2.1.length s45c0)] ∧ St w0 [] wb [sl a42 c43 y41, sl s45a0 s45c0 s45.2.1, sl (some ⟨b11, o12, none⟩) c6 s45.1]) ?_ N (s18.1, y34, 0) _ _ _ ⟨a35, c36, ⟨rfl, rfl, rfl, rfl, rfl, rfl, rfl, trivial⟩, hS11.pick [0, 1, 2] rfl rfl⟩ ho111) ?_
      · intro s45 e w46 o hM h
        obtain ⟨s45a0, s45c0, hE, hS12⟩ := hM
        obtain ⟨e, rfl⟩ := hE.out
        refine CW.seq ?_
        refine CW.region ?_
        refine LW.p rfl rfl ?_
        refine LW.nil ?_
        show CW _ _ _ _ _ _
        refine CW.seq ?_
        refine CW.cond rfl (fun hc47 => ?_) (fun hc47 => ?_)
        · replace h := bcT h hc47
          refine CW.skip ?_
          show CW _ _ _ _ _ _
          refine CW.seq ?_
          refine CW.block ?_
          refine CW.seq ?_
          refine CW.region ?_
          replace h := obind h
          obtain ⟨y48, hy48, h⟩ := h
          obtain ⟨b51, o52, hae, hp49, hq50⟩ := hS12.ownIdx (α := Int) (i := 0) rfl hy48
          subst hae
          refine LW.u (Pur.ix Try.underlying24 sz3 rfl rfl hp49 hq50) rfl ?_
          obtain ⟨F53, ho54, hS13⟩ := hS12.freeze (α := Int) 0 rfl
          obtain ⟨b55, o56, cs57, hae, hb60, _, _, hd58, hk59⟩ := ho54.rdF.idx hy48
          cases hae
          obtain rfl := hd58
          refine LW.l (Ldr.old w46 ag3 rfl (hk59 0 _ rfl)) (hS13.zC 0 rfl hb60) rfl ?_
          refine LW.p rfl rfl ?_
          refine LW.nil ?_
          show CW _ _ _ _ _ _
          refine CW.seq ?_
          obtain ⟨j61, hj61, h62⟩ := obind h
          refine CW.cut (fun e wb => En e [(0, .slice a0_0 x0.length c0_0), (1, .int .i64 x1), (5, .slice (some ⟨b11, o12, none⟩) s45.1.length c6), (6, .slice s45a0 s45.2.1.length s45c0), (9, .int .i64 y48), (27, .slice (some ⟨b51, o52, none⟩) y41.length c43), (28, .int .i64 (y41.length : Int)), (29, .int .i64 s45.2.2), (46, .bool j61)] ∧ St w0 [] wb [fz w46 F53, sl s45a0 s45c0 s45.2.1, sl (some ⟨b11, o12, none⟩) c6 s45.1]) ?_ ?_
          · have h := hj61
            refine CW.region ?_
            iterate 2 refine LW.p rfl rfl ?_
            replace h := obind h
            obtain ⟨y63, hy63, h⟩ := h
            obtain ⟨b66, o67, hae, hp64, hq65⟩ := hS13.ownIdx (α := Bool) (i := 2) rfl hy63
            cases hae
            refine LW.u (Pur.ix Try.underlying162 sz4 rfl rfl hp64 hq65) rfl ?_
            obtain ⟨F68, ho69, hS14⟩ := hS13.freeze (α := Bool) 2 rfl
            obtain ⟨b70, o71, cs72, hae, hb75, _, _, hd73, hk74⟩ := ho69.rdF.idx hy63
            cases hae
            obtain rfl := hd73
            refine LW.l (Ldr.old w46 ag4 rfl (hk74 0 _ rfl)) (hS14.zC 2 rfl hb75) rfl ?_
            iterate 2 refine LW.p rfl rfl ?_
            rcases bcases (!y63) with hc76 | hc76
            · replace h := bcT h hc76
              refine LW.gY (want_of rfl rfl hc76) ?_
              refine LW.p rfl rfl ?_
              refine LW.gY (want_of rfl rfl hc76) ?_
              refine LW.p rfl rfl ?_
              replace h := obind h
              obtain ⟨y77, hy77, h⟩ := h
              obtain ⟨b80, o81, cs82, hae, hb85, hp78, hq79, hd83, hk84⟩ := hr0_0.idx hy77
              subst hae
              obtain ⟨a86, c87, a89, c90, a92, c93, rfl, hr88, hr91, hr94⟩ := hd83
              refine LW.gY (want_of rfl rfl hc76) ?_
              refine LW.u (Pur.ix Try.underlying68 sz123 rfl rfl hp78 hq79) rfl ?_
              refine LW.gY (want_of rfl rfl hc76) ?_
              refine LW.l (Ldr.oldN w0 ag123 rfl rfl (fun j u hu => hk84 j u hu)) (hS14.same _ hb85.1 hb85.2) rfl ?_
              refine LW.gY (want_of rfl rfl hc76) ?_
              refine LW.p rfl rfl ?_
              replace h := obind h
              obtain ⟨y95, hy95, h⟩ := h
              have q := W_i_Expired (w0 := w46) hy95 rfl (hS14.rB hr88) rfl (hS14.rB hr91) rfl (hS14.rB hr94)
              refine LW.gY (want_of rfl rfl hc76) ?_
              refine LW.call pl179 rfl rfl ?_
              refine Ret.mono q ?_
              rintro _ w96 ⟨rfl, hs⟩
              have hS15 := hS14.add hs
              refine LW.gY (want_of rfl rfl hc76) ?_
              refine LW.p rfl rfl ?_
              refine LW.fresh (l := [(0, .slice (some ⟨b80, o81, none⟩) x0.length c0_0), (1, .int .i64 x1), (5, .slice (some ⟨b11, o12, none⟩) s45.1.length c6), (6, .slice s45a0 s45.2.1.length s45c0), (9, .int .i64 y48), (27, .slice (some ⟨b51, o52, none⟩) y41.length c43), (28, .int .i64 (y41.length : Int)), (29, .int .i64 s45.2.2), (38, .bool (!y63)), (45, .bool (!y95))]) ⟨rfl, rfl, rfl, rfl, rfl, rfl, rfl, rfl, rfl, rfl, trivial⟩ (fun e => ?_)
              refine LW.u (Pur.pickT rfl hc76) rfl ?_
              refine LW.nil ?_
              replace h := Option.some.inj h
              subst h
              have hS16 := hS15.thaw (α := Bool) 2 rfl ho69
              exact ⟨⟨rfl, rfl, rfl, rfl, rfl, rfl, rfl, rfl, rfl, trivial⟩, hS16.pick [0, 1, 2] rfl rfl⟩
            replace h := bcF h hc76
            refine LW.gN (want_not rfl rfl hc76) rfl ?_
            refine LW.gN (want_not rfl rfl hc76) rfl ?_
            refine LW.gN (want_not rfl rfl hc76) rfl ?_
            refine LW.gN (want_not rfl rfl hc76) rfl ?_
            refine LW.gN (want_not rfl rfl hc76) rfl ?_
            refine LW.gN (want_not rfl rfl hc76) rfl ?_
            refine LW.gN (want_not rfl rfl hc76) rfl ?_
            refine LW.u (Pur.pickF rfl hc76) rfl ?_
            refine LW.nil ?_
            replace h := Option.some.inj h
            subst h
            have hS17 := hS14.thaw (α := Bool) 2 rfl ho69
            exact ⟨⟨rfl, rfl, rfl, rfl, rfl, rfl, rfl, rfl, rfl, trivial⟩, hS17.pick [0, 1, 2] rfl rfl⟩
          intro e w97 hM
          obtain ⟨hE, hS18⟩ := hM
          obtain ⟨e, rfl⟩ := hE.out
          have h := h62
          show CW _ _ _ _ _ _
          refine CW.cond rfl (fun hc98 => ?_) (fun hc98 => ?_)
          · replace h := bcT h hc98
            refine CW.seq ?_
            refine CW.region ?_
            iterate 2 refine LW.p rfl rfl ?_
            replace h := obind h
            obtain ⟨y99, hy99, h⟩ := h
            obtain ⟨b102, o103, hae, hp100, hq101⟩ := hS18.ownIdx (α := Bool) (i := 2) rfl hy99
            cases hae
            refine LW.u (Pur.ix Try.underlying162 sz4 rfl rfl hp100 hq101) rfl ?_
            replace h := obind h
            obtain ⟨y104, hy104, h⟩ := h
            refine LW.stE (M := []) (L := [fz w46 F53, sl s45a0 s45c0 s45.2.1, sl (some ⟨b11, o12, none⟩) c6 s45.1]) (z := y99) (z' := true) (o := 0) hS18 (i := 2) rfl hy99 ag4 rfl (by show _ = o12 + (y48 : Int).toNat * 1 + 0; omega) rfl rfl rfl rfl (whole (fun w G hG => by cases (show G = [] from hG); exact ⟨rfl, rfl⟩)) ?_
            intro w105 hS19 hf
            rw [Option.some.inj hy104] at hS19
            refine LW.nil ?_
            show CW _ _ _ _ _ _
            refine CW.region ?_
            iterate 2 refine LW.p rfl rfl ?_
            replace h := obind h
            obtain ⟨y106, hy106, h⟩ := h
            refine LW.app1 (M := []) (L := [fz w46 F53, sl s45a0 s45c0 s45.2.1, sl (some ⟨b11, o12, none⟩) c6 y104]) (vs := #[.int .i64 y48]) (i := 1) sT24 rfl (by kernel_rfl) rfl rfl hy106 hS19 rfl (fun w G hG => by cases (show G = [] from hG); exact ⟨rfl, rfl⟩) rfl rfl ?_
            intro v109 a107 c108 w110 hS20 hf
            refine LW.p rfl rfl ?_
            refine LW.nil ?_
            show CW _ _ _ _ _ _
            refine CW.fresh (l := [(0, .slice a0_0 x0.length c0_0), (1, .int .i64 x1), (5, .slice (some ⟨b11, o12, none⟩) s45.1.length c6), (6, .slice a107 y106.length c108), (27, .slice (some ⟨b51, o52, none⟩) y41.length c43), (28, .int .i64 (y41.length : Int)), (29, .int .i64 s45.2.2)]) ⟨rfl, rfl, rfl, rfl, rfl, rfl, rfl, trivial⟩ (fun e => ?_)
            refine CW.region ?_
            iterate 2 refine LW.p rfl rfl ?_
            refine LW.nil ?_
            replace h := Option.some.inj h
            subst h
            have hS21 := hS20.thaw (α := Int) 0 rfl ho54
            exact ⟨rfl, ⟨a107, c108, ⟨rfl, rfl, (show (.slice (some ⟨b11, o12, none⟩) s45.1.length c6 : Value) = .slice (some ⟨b11, o12, none⟩) y104.length c6 by rw [show s45.1.length = y104.length from (len_set (Option.some.inj hy104))]), rfl, rfl, rfl, rfl, trivial⟩, hS21.pick [0, 1, 2] rfl rfl⟩⟩
          replace h := bcF h hc98
          refine CW.skip ?_
          show CW _ _ _ _ _ _
          refine CW.region ?_
          iterate 2 refine LW.p rfl rfl ?_
          refine LW.nil ?_
          replace h := Option.some.inj h
          subst h
          have hS22 := hS18.thaw (α := Int) 0 rfl ho54
          exact ⟨rfl, ⟨s45a0, s45c0, ⟨rfl, rfl, rfl, rfl, rfl, rfl, rfl, trivial⟩, hS22.pick [0, 1, 2] rfl rfl⟩⟩
        replace h := bcF h hc47
        refine CW.exit ?_
        replace h := Option.some.inj h
        subst h
        exact ⟨trivial, rfl, ⟨s45a0, s45c0, ⟨rfl, rfl, rfl, rfl, trivial⟩, hS12.pick [0, 1, 2] rfl rfl⟩⟩
      intro x e w113 hM
      obtain ⟨rfl, hM⟩ := hM
      obtain ⟨s45a0, s45c0, hE, hS23⟩ := hM
      obtain ⟨e, rfl⟩ := hE.out
      have h := h112
      replace h := Option.some.inj h
      subst h
      exact ⟨rfl, ⟨s45a0, s45c0, ⟨rfl, rfl, rfl, rfl, trivial⟩, hS23.pick [1, 2] rfl rfl⟩⟩
    replace h := bcF h hc20
    refine CW.exit ?_
    replace h := Option.some.inj h
    subst h
    exact ⟨trivial, rfl, ⟨s18a0, s18c0, ⟨rfl, trivial⟩, hS7.pick [0, 1] rfl rfl⟩⟩
  intro x e w116 hM
  obtain ⟨rfl, hM⟩ := hM
  obtain ⟨s18a0, s18c0, hE, hS24⟩ := hM
  obtain ⟨e, rfl⟩ := hE.out
  have h := h115
  show CW _ _ _ _ _ _
  refine CW.seq ?_
  refine CW.region ?_
  iterate 2 refine LW.p rfl rfl ?_
  refine LW.nil ?_
  show CW _ _ _ _ _ _
  refine CW.fresh (l := [(4, .slice (some ⟨b11, o12, none⟩) o114.1.length c6)]) ⟨rfl, trivial⟩ (fun e => ?_)
  refine CW.ret ?_
  cases h
  exact And.intro trivial ⟨_, Res.one (resOne.t rfl), (some ⟨b11, o12, none⟩), c6, rfl, hS24.pick [1] rfl rfl⟩

theorem W_i_Threads {w0 : World} {N : Nat} {x0 : DPart} {x1 : Int} {r : (List Int)} (h : F_i_Threads N x0 x1 = some r) {a0_0 : Option Addr} {n0_0 c0_0 : Nat} (hn0_0 : n0_0 = x0.label.levels.length) (hr0_0 : rdS (Bor w0 []) w0 a0_0 c0_0 x0.label.levels) {a0_1 : Option Addr} {n0_1 c0_1 : Nat} (hn0_1 : n0_1 = x0.own.length) (hr0_1 : rdS (Bor w0 []) w0 a0_1 c0_1 x0.own) {a0_2 : Option Addr} {n0_2 c0_2 : Nat} (hn0_2 : n0_2 = x0.tree.length) (hr0_2 : rdS (Bor w0 []) w0 a0_2 c0_2 x0.tree) {a0_3 : Option Addr} {n0_3 c0_3 : Nat} (hn0_3 : n0_3 = x0.heap.arena.length) (hr0_3 : rdS (Bor w0 []) w0 a0_3 c0_3 x0.heap.arena) {a0_7 : Option Addr} {n0_7 c0_7 : Nat} (hn0_7 : n0_7 = x0.heap.gc.grey.length) (hr0_7 : rdS (Bor w0 []) w0 a0_7 c0_7 x0.heap.gc.grey) {a0_8 : Option Addr} {n0_8 c0_8 : Nat} (hn0_8 : n0_8 = x0.taps.length) (hr0_8 : rdS (Bor w0 []) w0 a0_8 c0_8 x0.taps) :
    Ret Try.prog 77 #[.agg #[.slice a0_0 n0_0 c0_0, .slice a0_1 n0_1 c0_1, .slice a0_2 n0_2 c0_2, .slice a0_3 n0_3 c0_3, .int .i64 x0.heap.gc.phase, .int .i64 x0.heap.gc.pos, .int .i64 x0.heap.gc.round, .slice a0_7 n0_7 c0_7, .slice a0_8 n0_8 c0_8, .int .i64 x0.next, .int .i64 x0.want, .int .i64 x0.spent.pages, .int .i64 x0.spent.rent, .int .i64 x0.spent.cpu, .int .i64 x0.press, .int .i64 x0.lost], .int .i64 x1] w0 (fun v w => ∃ ar0 cr0, v = .slice ar0 r.length cr0 ∧ St w0 [] w [sl ar0 cr0 r]) := by
  subst hn0_0
  subst hn0_1
  subst hn0_2
  subst hn0_3
  subst hn0_7
  subst hn0_8
  unfold F_i_Threads at h
  refine Ret.of Try.func77 rfl rfl rfl ?_
  have hS1 := St.start w0
  refine CW.seq ?_
  refine CW.region ?_
  refine LW.box (cs := [.slice a0_0 x0.label.levels.length c0_0, .slice a0_1 x0.own.length c0_1, .slice a0_2 x0.tree.length c0_2, .slice a0_3 x0.heap.arena.length c0_3, .int .i64 x0.heap.gc.phase, .int .i64 x0.heap.gc.pos, .int .i64 x0.heap.gc.round, .slice a0_7 x0.heap.gc.grey.length c0_7, .slice a0_8 x0.taps.length c0_8, .int .i64 x0.next, .int .i64 x0.want, .int .i64 x0.spent.pages, .int .i64 x0.spent.rent, .int .i64 x0.spent.cpu, .int .i64 x0.press, .int .i64 x0.lost]) rfl hS1 rfl ?_
  intro g1 w2 hS2 hf
  refine LW.p rfl rfl ?_
  refine LW.nil ?_
  show CW _ _ _ _ _ _
  refine CW.seq ?_
  refine CW.region ?_
  refine LW.bsl (α := Int) (vs := []) (cs := #[]) (l := ([] : List Int)) rfl (by kernel_rfl) rfl rfl rfl (fun w => rfl) hS2 rfl ?_
  intro a3 c4 w5 hS3 hf
  refine LW.p rfl rfl ?_
  refine LW.nil ?_
  show CW _ _ _ _ _ _
  refine CW.seq ?_
  refine CW.seq ?_
  refine CW.region ?_
  refine LW.ldbN hS3 1 rfl ag75 rfl rfl rfl ?_
  replace h := obind h
  obtain ⟨y6, hy6, h⟩ := h
  have q := W_i_PartOk (w0 := w5) hy6 rfl (hS3.rB hr0_0) rfl (hS3.rB hr0_1) rfl (hS3.rB hr0_2) rfl (hS3.rB hr0_3) rfl (hS3.rB hr0_7) rfl (hS3.rB hr0_8)
  refine LW.call pl87 rfl rfl ?_
  refine Ret.mono q ?_
  rintro _ w7 ⟨rfl, hs⟩
  have hS4 := hS3.add hs
  refine LW.p rfl rfl ?_
  refine LW.nil ?_
  show CW _ _ _ _ _ _
  refine CW.cond rfl (fun hc8 => ?_) (fun hc8 => ?_)
  · replace h := bcT h hc8
    refine CW.seq ?_
    refine CW.region ?_
    iterate 2 refine LW.p rfl rfl ?_
    refine LW.nil ?_
    show CW _ _ _ _ _ _
    refine CW.ret ?_
    cases h
    exact And.intro trivial ⟨_, Res.one (resOne.t rfl), a3, c4, rfl, hS4.pick [0] rfl rfl⟩
  replace h := bcF h hc8
  refine CW.skip ?_
  show CW _ _ _ _ _ _
  refine CW.seq ?_
  refine CW.seq ?_
  refine CW.region ?_
  refine LW.u (Pur.fa fo75_3 rfl) rfl ?_
  refine LW.u (Pur.fa fo71_0 rfl) rfl ?_
  refine LW.ldb hS4 1 rfl ag68 rfl rfl rfl ?_
  refine LW.p rfl rfl ?_
  replace h := obind h
  obtain ⟨y9, hy9, h⟩ := h
  have q := W_i_Reach (w0 := w7) hy9 rfl (hS4.rB hr0_3)
  refine LW.call pl139 rfl rfl ?_
  refine Ret.mono q ?_
  rintro _ w12 ⟨a10, c11, rfl, hs⟩
  have hS5 := hS4.add hs
  refine LW.u (Pur.len Try.underlying162 rfl) rfl ?_
  refine LW.p rfl rfl ?_
  refine LW.nil ?_
  show CW _ _ _ _ _ _
  refine CW.fresh (l := [(2, .pointer (some ⟨g1, 0, none⟩)), (5, .slice a3 (([] : List Int).length) c4), (17, .slice a10 y9.length c11), (18, .int .i64 (y9.length : Int)), (19, .int .i64 0)]) ⟨rfl, rfl, rfl, rfl, rfl, trivial⟩ (fun e => ?_)
  refine CW.block ?_
  obtain ⟨o57, ho57, h58⟩ := obind h
  refine CW.mono (CW.iter (σ := (List Int) × Int) (ρ := (List Int) × Int) (fun s13 e wb => ∃ (s13a0 : Option Addr), ∃ (s13c0 : Nat), En e [(2, .pointer (some ⟨g1, 0, none⟩)), (5, .slice s13a0 s13.1.length s13c0), (17, .slice a10 y9.length c11), (18, .int .i64 (y9.length : Int)), (19, .int .i64 s13.2)] ∧ St w0 [] wb [sl a10 c11 y9, sl s13a0 s13c0 s13.1, bx g1 75 [.slice a0_0 x0.label.levels.length c0_0, .slice a0_1 x0.own.length c0_1, .slice a0_2 x0.tree.length c0_2, .slice a0_3 x0.heap.arena.length c0_3, .int .i64 x0.heap.gc.phase, .int .i64 x0.heap.gc.pos, .int .i64 x0.heap.gc.round, .slice a0_7 x0.heap.gc.grey.length c0_7, .slice a0_8 x0.taps.length c0_8, .int .i64 x0.next, .int .i64 x0.want, .int .i64 x0.spent.pages, .int .i64 x0.spent.rent, .int .i64 x0.spent.cpu, .int .i64 x0.press, .int .i64 x0.lost]]) (fun s13 x e wb => x = .exit 0 ∧ ∃ (s13a0 : Option Addr), ∃ (s13c0 : Nat), En e [(5, .slice s13a0 s13.1.length s13c0)] ∧ St w0 [] wb [sl a10 c11 y9, sl s13a0 s13c0 s13.1, bx g1 75 [.slice a0_0 x0.label.levels.length c0_0, .slice a0_1 x0.own.length c0_1, .slice a0_2 x0.tree.length c0_2, .slice a0_3 x0.heap.arena.length c0_3, .int .i64 x0.heap.gc.phase, .int .i64 x0.heap.gc.pos, .int .i64 x0.heap.gc.round, .slice a0_7 x0.heap.gc.grey.length c0_7, .slice a0_8 x0.taps.length c0_8, .int .i64 x0.next, .int .i64 x0.want, .int .i64 x0.spent.pages, .int .i64 x0.spent.rent, .int .i64 x0.spent.cpu, .int .i64 x0.press, .int .i64 x0.lost]]) ?_ N (([] : List Int), 0) _ _ _ ⟨a3, c4, ⟨rfl, rfl, rfl, rfl, rfl, trivial⟩, hS5.pick [0, 1, 2] rfl rfl⟩ ho57) ?_
  · intro s13 e w14 o hM h
    obtain ⟨s13a0, s13c0, hE, hS6⟩ := hM
    obtain ⟨e, rfl⟩ := hE.out
    refine CW.seq ?_
    refine CW.region ?_
    refine LW.p rfl rfl ?_
    refine LW.nil ?_
    show CW _ _ _ _ _ _
    refine CW.seq ?_
    refine CW.cond rfl (fun hc15 => ?_) (fun hc15 => ?_)
    · replace h := bcT h hc15
      refine CW.skip ?_
      show CW _ _ _ _ _ _
      refine CW.seq ?_
      refine CW.block ?_
      refine CW.seq ?_
      refine CW.region ?_
      refine LW.p rfl rfl ?_
      replace h := obind h
      obtain ⟨y16, hy16, h⟩ := h
      obtain ⟨b19, o20, hae, hp17, hq18⟩ := hS6.ownIdx (α := Bool) (i := 0) rfl hy16
      subst hae
      refine LW.u (Pur.ix Try.underlying162 sz4 rfl rfl hp17 hq18) rfl ?_
      obtain ⟨F21, ho22, hS7⟩ := hS6.freeze (α := Bool) 0 rfl
      obtain ⟨b23, o24, cs25, hae, hb28, _, _, hd26, hk27⟩ := ho22.rdF.idx hy16
      cases hae
      obtain rfl := hd26
      refine LW.l (Ldr.old w14 ag4 rfl (hk27 0 _ rfl)) (hS7.zC 0 rfl hb28) rfl ?_
      iterate 2 refine LW.p rfl rfl ?_
      refine LW.nil ?_
      show CW _ _ _ _ _ _
      refine CW.seq ?_
      obtain ⟨j29, hj29, h30⟩ := obind h
      refine CW.cut (fun e wb => En e [(2, .pointer (some ⟨g1, 0, none⟩)), (5, .slice s13a0 s13.1.length s13c0), (6, .int .i64 s13.2), (17, .slice (some ⟨b19, o20, none⟩) y9.length c11), (18, .int .i64 (y9.length : Int)), (19, .int .i64 s13.2), (34, .bool j29)] ∧ St w0 [] wb [fz w14 F21, sl s13a0 s13c0 s13.1, bx g1 75 [.slice a0_0 x0.label.levels.length c0_0, .slice a0_1 x0.own.length c0_1, .slice a0_2 x0.tree.length c0_2, .slice a0_3 x0.heap.arena.length c0_3, .int .i64 x0.heap.gc.phase, .int .i64 x0.heap.gc.pos, .int .i64 x0.heap.gc.round, .slice a0_7 x0.heap.gc.grey.length c0_7, .slice a0_8 x0.taps.length c0_8, .int .i64 x0.next, .int .i64 x0.want, .int .i64 x0.spent.pages, .int .i64 x0.spent.rent, .int .i64 x0.spent.cpu, .int .i64 x0.press, .int .i64 x0.lost]]) ?_ ?_
      · have h := hj29
        refine CW.region ?_
        iterate 2 refine LW.p rfl rfl ?_
        rcases bcases y16 with hc31 | hc31
        · replace h := bcT h hc31
          refine LW.gY (want_of rfl rfl hc31) ?_
          refine LW.u (Pur.fa fo75_3 rfl) rfl ?_
          refine LW.gY (want_of rfl rfl hc31) ?_
          refine LW.u (Pur.fa fo71_0 rfl) rfl ?_
          refine LW.gY (want_of rfl rfl hc31) ?_
          refine LW.ldb hS7 2 rfl ag68 rfl rfl rfl ?_
          refine LW.gY (want_of rfl rfl hc31) ?_
          refine LW.p rfl rfl ?_
          replace h := obind h
          obtain ⟨y32, hy32, h⟩ := h
          obtain ⟨b35, o36, cs37, hae, hb40, hp33, hq34, hd38, hk39⟩ := hr0_3.idx hy32
          subst hae
          obtain ⟨a41, c42, a44, c45, a47, c48, rfl, hr43, hr46, hr49⟩ := hd38
          refine LW.gY (want_of rfl rfl hc31) ?_
          refine LW.u (Pur.ix Try.underlying68 sz123 rfl rfl hp33 hq34) rfl ?_
          refine LW.gY (want_of rfl rfl hc31) ?_
          refine LW.u (Pur.fa fo123_1 rfl) rfl ?_
          refine LW.gY (want_of rfl rfl hc31) ?_
          refine LW.l (Ldr.old w0 ag3 rfl (hk39 1 _ rfl)) (hS7.same _ hb40.1 hb40.2) rfl ?_
          refine LW.gY (want_of rfl rfl hc31) ?_
          refine LW.p rfl rfl ?_
          refine LW.u (Pur.pickT rfl hc31) rfl ?_
          refine LW.nil ?_
          replace h := Option.some.inj h
          subst h
          exact ⟨⟨rfl, rfl, rfl, rfl, rfl, rfl, rfl, trivial⟩, hS7.pick [0, 1, 2] rfl rfl⟩
        replace h := bcF h hc31
        refine LW.gN (want_not rfl rfl hc31) rfl ?_
        refine LW.gN (want_not rfl rfl hc31) rfl ?_
        refine LW.gN (want_not rfl rfl hc31) rfl ?_
        refine LW.gN (want_not rfl rfl hc31) rfl ?_
        refine LW.gN (want_not rfl rfl hc31) rfl ?_
        refine LW.gN (want_not rfl rfl hc31) rfl ?_
        refine LW.gN (want_not rfl rfl hc31) rfl ?_
        refine LW.gN (want_not rfl rfl hc31) rfl ?_
        refine LW.u (Pur.pickF rfl hc31) rfl ?_
        refine LW.nil ?_
        replace h := Option.some.inj h
        subst h
        exact ⟨⟨rfl, rfl, rfl, rfl, rfl, rfl, rfl, trivial⟩, hS7.pick [0, 1, 2] rfl rfl⟩
      intro e w50 hM
      obtain ⟨hE, hS8⟩ := hM
      obtain ⟨e, rfl⟩ := hE.out
      have h := h30
      show CW _ _ _ _ _ _
      refine CW.cond rfl (fun hc51 => ?_) (fun hc51 => ?_)
      · replace h := bcT h hc51
        refine CW.region ?_
        iterate 2 refine LW.p rfl rfl ?_
        replace h := obind h
        obtain ⟨y52, hy52, h⟩ := h
        refine LW.app1 (M := []) (L := [fz w14 F21, sl s13a0 s13c0 s13.1, bx g1 75 [.slice a0_0 x0.label.levels.length c0_0, .slice a0_1 x0.own.length c0_1, .slice a0_2 x0.tree.length c0_2, .slice a0_3 x0.heap.arena.length c0_3, .int .i64 x0.heap.gc.phase, .int .i64 x0.heap.gc.pos, .int .i64 x0.heap.gc.round, .slice a0_7 x0.heap.gc.grey.length c0_7, .slice a0_8 x0.taps.length c0_8, .int .i64 x0.next, .int .i64 x0.want, .int .i64 x0.spent.pages, .int .i64 x0.spent.rent, .int .i64 x0.spent.cpu, .int .i64 x0.press, .int .i64 x0.lost]]) (vs := #[.int .i64 s13.2]) (i := 1) sT24 rfl (by kernel_rfl) rfl rfl hy52 hS8 rfl (fun w G hG => by cases (show G = [] from hG); exact ⟨rfl, rfl⟩) rfl rfl ?_
        intro v55 a53 c54 w56 hS9 hf
        refine LW.p rfl rfl ?_
        refine LW.nil ?_
        show CW _ _ _ _ _ _
        refine CW.fresh (l := [(2, .pointer (some ⟨g1, 0, none⟩)), (5, .slice a53 y52.length c54), (17, .slice (some ⟨b19, o20, none⟩) y9.length c11), (18, .int .i64 (y9.length : Int)), (19, .int .i64 s13.2)]) ⟨rfl, rfl, rfl, rfl, rfl, trivial⟩ (fun e => ?_)
        refine CW.region ?_
        iterate 2 refine LW.p rfl rfl ?_
        refine LW.nil ?_
        replace h := Option.some.inj h
        subst h
        have hS10 := hS9.thaw (α := Bool) 0 rfl ho22
        exact ⟨rfl, ⟨a53, c54, ⟨rfl, rfl, rfl, rfl, rfl, trivial⟩, hS10.pick [0, 1, 2] rfl rfl⟩⟩
      replace h := bcF h hc51
      refine CW.skip ?_
      show CW _ _ _ _ _ _
      refine CW.region ?_
      iterate 2 refine LW.p rfl rfl ?_
      refine LW.nil ?_
      replace h := Option.some.inj h
      subst h
      have hS11 := hS8.thaw (α := Bool) 0 rfl ho22
      exact ⟨rfl, ⟨s13a0, s13c0, ⟨rfl, rfl, rfl, rfl, rfl, trivial⟩, hS11.pick [0, 1, 2] rfl rfl⟩⟩
    replace h := bcF h hc15
    refine CW.exit ?_
    replace h := Option.some.inj h
    subst h
    exact ⟨trivial, rfl, ⟨s13a0, s13c0, ⟨rfl, trivial⟩, hS6.pick [0, 1, 2] rfl rfl⟩⟩
  intro x e w59 hM
  obtain ⟨rfl, hM⟩ := hM
  obtain ⟨s13a0, s13c0, hE, hS12⟩ := hM
  obtain ⟨e, rfl⟩ := hE.out
  have h := h58
  show CW _ _ _ _ _ _
  refine CW.seq ?_
  refine CW.region ?_
  iterate 2 refine LW.p rfl rfl ?_
  refine LW.nil ?_
  show CW _ _ _ _ _ _
  refine CW.ret ?_
  cases h
  exact And.intro trivial ⟨_, Res.one (resOne.t rfl), s13a0, s13c0, rfl, hS12.pick [1] rfl rfl⟩

theorem W_i_CanCall {w0 : World} {N : Nat} {x0 : DPart} {x1 : Int} {x2 : Int} {r : Bool} (h : F_i_CanCall N x0 x1 x2 = some r) {a0_0 : Option Addr} {n0_0 c0_0 : Nat} (hn0_0 : n0_0 = x0.label.levels.length) (hr0_0 : rdS (Bor w0 []) w0 a0_0 c0_0 x0.label.levels) {a0_1 : Option Addr} {n0_1 c0_1 : Nat} (hn0_1 : n0_1 = x0.own.length) (hr0_1 : rdS (Bor w0 []) w0 a0_1 c0_1 x0.own) {a0_2 : Option Addr} {n0_2 c0_2 : Nat} (hn0_2 : n0_2 = x0.tree.length) (hr0_2 : rdS (Bor w0 []) w0 a0_2 c0_2 x0.tree) {a0_3 : Option Addr} {n0_3 c0_3 : Nat} (hn0_3 : n0_3 = x0.heap.arena.length) (hr0_3 : rdS (Bor w0 []) w0 a0_3 c0_3 x0.heap.arena) {a0_7 : Option Addr} {n0_7 c0_7 : Nat} (hn0_7 : n0_7 = x0.heap.gc.grey.length) (hr0_7 : rdS (Bor w0 []) w0 a0_7 c0_7 x0.heap.gc.grey) {a0_8 : Option Addr} {n0_8 c0_8 : Nat} (hn0_8 : n0_8 = x0.taps.length) (hr0_8 : rdS (Bor w0 []) w0 a0_8 c0_8 x0.taps) :
    Ret Try.prog 33 #[.agg #[.slice a0_0 n0_0 c0_0, .slice a0_1 n0_1 c0_1, .slice a0_2 n0_2 c0_2, .slice a0_3 n0_3 c0_3, .int .i64 x0.heap.gc.phase, .int .i64 x0.heap.gc.pos, .int .i64 x0.heap.gc.round, .slice a0_7 n0_7 c0_7, .slice a0_8 n0_8 c0_8, .int .i64 x0.next, .int .i64 x0.want, .int .i64 x0.spent.pages, .int .i64 x0.spent.rent, .int .i64 x0.spent.cpu, .int .i64 x0.press, .int .i64 x0.lost], .int .i64 x1, .int .i64 x2] w0 (fun v w => v = .bool r ∧ St w0 [] w []) := by
  subst hn0_0
  subst hn0_1
  subst hn0_2
  subst hn0_3
  subst hn0_7
  subst hn0_8
  unfold F_i_CanCall at h
  refine Ret.of Try.func33 rfl rfl rfl ?_
  have hS1 := St.start w0
  refine CW.seq ?_
  refine CW.region ?_
  refine LW.box (cs := [.slice a0_0 x0.label.levels.length c0_0, .slice a0_1 x0.own.length c0_1, .slice a0_2 x0.tree.length c0_2, .slice a0_3 x0.heap.arena.length c0_3, .int .i64 x0.heap.gc.phase, .int .i64 x0.heap.gc.pos, .int .i64 x0.heap.gc.round, .slice a0_7 x0.heap.gc.grey.length c0_7, .slice a0_8 x0.taps.length c0_8, .int .i64 x0.next, .int .i64 x0.want, .int .i64 x0.spent.pages, .int .i64 x0.spent.rent, .int .i64 x0.spent.cpu, .int .i64 x0.press, .int .i64 x0.lost]) rfl hS1 rfl ?_
  intro g1 w2 hS2 hf
  refine LW.p rfl rfl ?_
  refine LW.nil ?_
  show CW _ _ _ _ _ _
  refine CW.seq ?_
  refine CW.region ?_
  refine LW.ldbN hS2 0 rfl ag75 rfl rfl rfl ?_
  refine LW.p rfl rfl ?_
  replace h := obind h
  obtain ⟨y3, hy3, h⟩ := h
  have q := W_i_Threads (w0 := w2) hy3 rfl (hS2.rB hr0_0) rfl (hS2.rB hr0_1) rfl (hS2.rB hr0_2) rfl (hS2.rB hr0_3) rfl (hS2.rB hr0_7) rfl (hS2.rB hr0_8)
  refine LW.call pl77 rfl rfl ?_
  refine Ret.mono q ?_
  rintro _ w6 ⟨a4, c5, rfl, hs⟩
  have hS3 := hS2.add hs
  refine LW.p rfl rfl ?_
  replace h := obind h
  obtain ⟨y7, hy7, h⟩ := h
  have q := W_z_Contains_int (w0 := w6) hy7 rfl (hS3.rI 0 rfl)
  refine LW.call pl76 rfl rfl ?_
  refine Ret.mono q ?_
  rintro _ w8 ⟨rfl, hs⟩
  have hS4 := hS3.add hs
  refine LW.p rfl rfl ?_
  rcases bcases y7 with hc9 | hc9
  · replace h := bcT h hc9
    refine LW.gY (want_of rfl rfl hc9) ?_
    refine LW.u (Pur.fa fo75_3 rfl) rfl ?_
    refine LW.gY (want_of rfl rfl hc9) ?_
    refine LW.u (Pur.fa fo71_0 rfl) rfl ?_
    refine LW.gY (want_of rfl rfl hc9) ?_
    refine LW.ldb hS4 1 rfl ag68 rfl rfl rfl ?_
    refine LW.gY (want_of rfl rfl hc9) ?_
    refine LW.p rfl rfl ?_
    replace h := obind h
    obtain ⟨y10, hy10, h⟩ := h
    obtain ⟨b13, o14, cs15, hae, hb18, hp11, hq12, hd16, hk17⟩ := hr0_3.idx hy10
    subst hae
    obtain ⟨a19, c20, a22, c23, a25, c26, rfl, hr21, hr24, hr27⟩ := hd16
    refine LW.gY (want_of rfl rfl hc9) ?_
    refine LW.u (Pur.ix Try.underlying68 sz123 rfl rfl hp11 hq12) rfl ?_
    refine LW.gY (want_of rfl rfl hc9) ?_
    refine LW.u (Pur.fa fo123_6 rfl) rfl ?_
    refine LW.gY (want_of rfl rfl hc9) ?_
    refine LW.l (Ldr.old w0 ag3 rfl (hk17 6 _ rfl)) (hS4.same _ hb18.1 hb18.2) rfl ?_
    refine LW.gY (want_of rfl rfl hc9) ?_
    refine LW.p rfl rfl ?_
    refine LW.u (Pur.pickT rfl hc9) rfl ?_
    refine LW.p rfl rfl ?_
    refine LW.nil ?_
    show CW _ _ _ _ _ _
    refine CW.fresh (l := [(6, .bool (y10.wait == 0))]) ⟨rfl, trivial⟩ (fun e => ?_)
    refine CW.ret ?_
    cases h
    exact And.intro trivial ⟨_, Res.one (resOne.t rfl), rfl, hS4.pick [] rfl rfl⟩
  replace h := bcF h hc9
  refine LW.gN (want_not rfl rfl hc9) rfl ?_
  refine LW.gN (want_not rfl rfl hc9) rfl ?_
  refine LW.gN (want_not rfl rfl hc9) rfl ?_
  refine LW.gN (want_not rfl rfl hc9) rfl ?_
  refine LW.gN (want_not rfl rfl hc9) rfl ?_
  refine LW.gN (want_not rfl rfl hc9) rfl ?_
  refine LW.gN (want_not rfl rfl hc9) rfl ?_
  refine LW.gN (want_not rfl rfl hc9) rfl ?_
  refine LW.u (Pur.pickF rfl hc9) rfl ?_
  refine LW.p rfl rfl ?_
  refine LW.nil ?_
  show CW _ _ _ _ _ _
  refine CW.fresh (l := [(6, .bool false)]) ⟨rfl, trivial⟩ (fun e => ?_)
  refine CW.ret ?_
  cases h
  exact And.intro trivial ⟨_, Res.one (resOne.t rfl), rfl, hS4.pick [] rfl rfl⟩

theorem W_l_FnExactCanCall {w0 : World} {N : Nat} {x0 : DPart} {x1 : Int} {x2 : Int} {r : Bool} (h : F_l_FnExactCanCall N x0 x1 x2 = some r) {a0_0 : Option Addr} {n0_0 c0_0 : Nat} (hn0_0 : n0_0 = x0.label.levels.length) (hr0_0 : rdS (Bor w0 []) w0 a0_0 c0_0 x0.label.levels) {a0_1 : Option Addr} {n0_1 c0_1 : Nat} (hn0_1 : n0_1 = x0.own.length) (hr0_1 : rdS (Bor w0 []) w0 a0_1 c0_1 x0.own) {a0_2 : Option Addr} {n0_2 c0_2 : Nat} (hn0_2 : n0_2 = x0.tree.length) (hr0_2 : rdS (Bor w0 []) w0 a0_2 c0_2 x0.tree) {a0_3 : Option Addr} {n0_3 c0_3 : Nat} (hn0_3 : n0_3 = x0.heap.arena.length) (hr0_3 : rdS (Bor w0 []) w0 a0_3 c0_3 x0.heap.arena) {a0_7 : Option Addr} {n0_7 c0_7 : Nat} (hn0_7 : n0_7 = x0.heap.gc.grey.length) (hr0_7 : rdS (Bor w0 []) w0 a0_7 c0_7 x0.heap.gc.grey) {a0_8 : Option Addr} {n0_8 c0_8 : Nat} (hn0_8 : n0_8 = x0.taps.length) (hr0_8 : rdS (Bor w0 []) w0 a0_8 c0_8 x0.taps) :
    Ret Try.prog 5 #[.agg #[.slice a0_0 n0_0 c0_0, .slice a0_1 n0_1 c0_1, .slice a0_2 n0_2 c0_2, .slice a0_3 n0_3 c0_3, .int .i64 x0.heap.gc.phase, .int .i64 x0.heap.gc.pos, .int .i64 x0.heap.gc.round, .slice a0_7 n0_7 c0_7, .slice a0_8 n0_8 c0_8, .int .i64 x0.next, .int .i64 x0.want, .int .i64 x0.spent.pages, .int .i64 x0.spent.rent, .int .i64 x0.spent.cpu, .int .i64 x0.press, .int .i64 x0.lost], .int .i64 x1, .int .i64 x2] w0 (fun v w => v = .bool r ∧ St w0 [] w []) := by
  subst hn0_0
  subst hn0_1
  subst hn0_2
  subst hn0_3
  subst hn0_7
  subst hn0_8
  unfold F_l_FnExactCanCall at h
  refine Ret.of Try.func5 rfl rfl rfl ?_
  have hS1 := St.start w0
  refine CW.seq ?_
  refine CW.region ?_
  refine LW.box (cs := [.slice a0_0 x0.label.levels.length c0_0, .slice a0_1 x0.own.length c0_1, .slice a0_2 x0.tree.length c0_2, .slice a0_3 x0.heap.arena.length c0_3, .int .i64 x0.heap.gc.phase, .int .i64 x0.heap.gc.pos, .int .i64 x0.heap.gc.round, .slice a0_7 x0.heap.gc.grey.length c0_7, .slice a0_8 x0.taps.length c0_8, .int .i64 x0.next, .int .i64 x0.want, .int .i64 x0.spent.pages, .int .i64 x0.spent.rent, .int .i64 x0.spent.cpu, .int .i64 x0.press, .int .i64 x0.lost]) rfl hS1 rfl ?_
  intro g1 w2 hS2 hf
  refine LW.p rfl rfl ?_
  refine LW.nil ?_
  show CW _ _ _ _ _ _
  refine CW.seq ?_
  refine CW.region ?_
  refine LW.p rfl rfl ?_
  refine LW.nil ?_
  show CW _ _ _ _ _ _
  refine CW.seq ?_
  refine CW.region ?_
  refine LW.ldbN hS2 0 rfl ag64 rfl rfl rfl ?_
  refine LW.p rfl rfl ?_
  replace h := obind h
  obtain ⟨y3, hy3, h⟩ := h
  have q := W_l_szPart (w0 := w2) hy3 rfl (hS2.rB hr0_0) rfl (hS2.rB hr0_1) rfl (hS2.rB hr0_2) rfl (hS2.rB hr0_3) rfl (hS2.rB hr0_7) rfl (hS2.rB hr0_8)
  refine LW.call pl30 rfl rfl ?_
  refine Ret.mono q ?_
  rintro _ w4 ⟨rfl, hs⟩
  have hS3 := hS2.add hs
  refine LW.p rfl rfl ?_
  refine LW.nil ?_
  show CW _ _ _ _ _ _
  refine CW.seq ?_
  refine CW.seq ?_
  refine CW.region ?_
  iterate 2 refine LW.p rfl rfl ?_
  refine LW.nil ?_
  show CW _ _ _ _ _ _
  refine CW.cond rfl (fun hc5 => ?_) (fun hc5 => ?_)
  · replace h := bcT h hc5
    refine CW.seq ?_
    refine CW.region ?_
    refine LW.p rfl rfl ?_
    refine LW.nil ?_
    show CW _ _ _ _ _ _
    refine CW.ret ?_
    cases h
    exact And.intro trivial ⟨_, Res.one (resOne.t rfl), rfl, hS3.pick [] rfl rfl⟩
  replace h := bcF h hc5
  refine CW.skip ?_
  show CW _ _ _ _ _ _
  refine CW.seq ?_
  refine CW.region ?_
  refine LW.ldbN hS3 0 rfl ag64 rfl rfl rfl ?_
  replace h := obind h
  obtain ⟨y6, hy6, h⟩ := h
  have q := W_l_toPart (w0 := w4) hy6 rfl (hS3.rB hr0_0) rfl (hS3.rB hr0_1) rfl (hS3.rB hr0_2) rfl (hS3.rB hr0_3) rfl (hS3.rB hr0_7) rfl (hS3.rB hr0_8)
  refine LW.call pl32 rfl rfl ?_
  refine Ret.mono q ?_
  rintro _ w19 ⟨a7, c8, a9, c10, a11, c12, a13, c14, a15, c16, a17, c18, rfl, hs⟩
  have hS4 := hS3.add hs
  iterate 2 refine LW.p rfl rfl ?_
  replace h := obind h
  obtain ⟨y20, hy20, h⟩ := h
  have q := W_s_CanCall (w0 := w19) hy20 rfl (hS4.rI 0 rfl) rfl (hS4.rI 1 rfl) rfl (hS4.rI 2 rfl) rfl (hS4.rI 3 rfl) rfl (hS4.rI 4 rfl) rfl (hS4.rI 5 rfl)
  refine LW.call pl31 rfl rfl ?_
  refine Ret.mono q ?_
  rintro _ w21 ⟨rfl, hs⟩
  have hS5 := hS4.add hs
  refine LW.p rfl rfl ?_
  refine LW.nil ?_
  show CW _ _ _ _ _ _
  refine CW.fresh (l := [(1, .int .i64 x1), (2, .int .i64 x2), (3, .pointer (some ⟨g1, 0, none⟩)), (8, .bool y20)]) ⟨rfl, rfl, rfl, rfl, trivial⟩ (fun e => ?_)
  refine CW.seq ?_
  refine CW.region ?_
  refine LW.ldbN hS5 6 rfl ag64 rfl rfl rfl ?_
  replace h := obind h
  obtain ⟨y22, hy22, h⟩ := h
  have q := W_l_toPart (w0 := w21) hy22 rfl (hS5.rB hr0_0) rfl (hS5.rB hr0_1) rfl (hS5.rB hr0_2) rfl (hS5.rB hr0_3) rfl (hS5.rB hr0_7) rfl (hS5.rB hr0_8)
  refine LW.call pl32 rfl rfl ?_
  refine Ret.mono q ?_
  rintro _ w35 ⟨a23, c24, a25, c26, a27, c28, a29, c30, a31, c32, a33, c34, rfl, hs⟩
  have hS6 := hS5.add hs
  refine LW.alloc zv75 hS6 rfl ?_
  intro g36 w37 hS7 hf
  refine LW.stb hS7 0 rfl ag75 rfl rfl rfl rfl rfl ?_
  intro w38 hS8 hf
  refine LW.nil ?_
  show CW _ _ _ _ _ _
  refine CW.seq ?_
  refine CW.region ?_
  refine LW.ldbN hS8 0 rfl ag75 rfl rfl rfl ?_
  iterate 2 refine LW.p rfl rfl ?_
  replace h := obind h
  obtain ⟨y39, hy39, h⟩ := h
  have q := W_i_CanCall (w0 := w38) hy39 rfl (hS8.rI 1 rfl) rfl (hS8.rI 2 rfl) rfl (hS8.rI 3 rfl) rfl (hS8.rI 4 rfl) rfl (hS8.rI 5 rfl) rfl (hS8.rI 6 rfl)
  refine LW.call pl33 rfl rfl ?_
  refine Ret.mono q ?_
  rintro _ w40 ⟨rfl, hs⟩
  have hS9 := hS8.add hs
  refine LW.p rfl rfl ?_
  refine LW.nil ?_
  show CW _ _ _ _ _ _
  refine CW.seq ?_
  refine CW.seq ?_
  refine CW.region ?_
  iterate 2 refine LW.p rfl rfl ?_
  refine LW.u (Pur.bne Try.underlying4 rfl rfl) rfl ?_
  refine LW.nil ?_
  show CW _ _ _ _ _ _
  refine CW.cond rfl (fun hc41 => ?_) (fun hc41 => ?_)
  · replace h := bcT h hc41
    refine CW.seq ?_
    refine CW.region ?_
    refine LW.p rfl rfl ?_
    refine LW.nil ?_
    show CW _ _ _ _ _ _
    refine CW.fresh (l := [(6, .bool false)]) ⟨rfl, trivial⟩ (fun e => ?_)
    refine CW.ret ?_
    cases h
    exact And.intro trivial ⟨_, Res.one (resOne.t rfl), rfl, hS9.pick [] rfl rfl⟩
  replace h := bcF h hc41
  refine CW.skip ?_
  show CW _ _ _ _ _ _
  refine CW.seq ?_
  refine CW.seq ?_
  refine CW.draw (by kernel_rfl) ?_
  have hS10 := hS9.drew
  refine AW.take (i := 0) rfl (by kernel_rfl) rfl rfl (Ldr.boxN (bt := 75) (fr := (0, 0)) (cs := [.slice a23 y22.label.levels.length c24, .slice a25 y22.own.length c26, .slice a27 y22.tree.length c28, .slice a29 y22.heap.arena.length c30, .int .i64 y22.heap.gc.phase, .int .i64 y22.heap.gc.pos, .int .i64 y22.heap.gc.round, .slice a31 y22.heap.gc.grey.length c32, .slice a33 y22.taps.length c34, .int .i64 y22.next, .int .i64 y22.want, .int .i64 y22.spent.pages, .int .i64 y22.spent.rent, .int .i64 y22.spent.cpu, .int .i64 y22.press, .int .i64 y22.lost]) ag75 rfl rfl) (St.cell (h := hS10) (i := 0) rfl) ?_
  refine AW.take (i := 1) rfl (by kernel_rfl) rfl rfl (Ldr.boxN (bt := 64) (fr := (0, 0)) (cs := [.slice a0_0 x0.label.levels.length c0_0, .slice a0_1 x0.own.length c0_1, .slice a0_2 x0.tree.length c0_2, .slice a0_3 x0.heap.arena.length c0_3, .int .i64 x0.heap.gc.phase, .int .i64 x0.heap.gc.pos, .int .i64 x0.heap.gc.round, .slice a0_7 x0.heap.gc.grey.length c0_7, .slice a0_8 x0.taps.length c0_8, .int .i64 x0.next, .int .i64 x0.want, .int .i64 x0.spent.pages, .int .i64 x0.spent.rent, .int .i64 x0.spent.cpu, .int .i64 x0.press, .int .i64 x0.lost]) ag64 rfl rfl) (St.cell (h := hS10) (i := 13) rfl) ?_
  replace h := obind h
  obtain ⟨y42, hy42, h⟩ := h
  have q := W_l_toPart (w0 := w40.drew) hy42 rfl (hS10.rB hr0_0) rfl (hS10.rB hr0_1) rfl (hS10.rB hr0_2) rfl (hS10.rB hr0_3) rfl (hS10.rB hr0_7) rfl (hS10.rB hr0_8)
  refine AW.one (i := 2) (by kernel_rfl) ?_
  refine ⟨_, rfl, ?_⟩
  refine LW.call pl32 rfl rfl ?_
  refine Ret.mono q ?_
  rintro _ w55 ⟨a43, c44, a45, c46, a47, c48, a49, c50, a51, c52, a53, c54, rfl, hs⟩
  have hS11 := hS10.add hs
  refine LW.nil ⟨rfl, (.w (by kernel_rfl) (.c (St.cell (h := hS11) (i := 6) rfl) Kept.n)), ?_⟩
  replace h := obind h
  obtain ⟨y56, hy56, h⟩ := h
  have q := W_l_eqPart (w0 := w55) hy56 rfl (hS11.rI 7 rfl) rfl (hS11.rI 8 rfl) rfl (hS11.rI 9 rfl) rfl (hS11.rI 10 rfl) rfl (hS11.rI 11 rfl) rfl (hS11.rI 12 rfl) rfl (hS11.rI 0 rfl) rfl (hS11.rI 1 rfl) rfl (hS11.rI 2 rfl) rfl (hS11.rI 3 rfl) rfl (hS11.rI 4 rfl) rfl (hS11.rI 5 rfl)
  refine AW.one (i := 3) (by kernel_rfl) ?_
  refine ⟨_, rfl, ?_⟩
  refine LW.call pl34 rfl rfl ?_
  refine Ret.mono q ?_
  rintro _ w57 ⟨rfl, hs⟩
  have hS12 := hS11.add hs
  refine LW.nil ⟨rfl, (.c (St.cell (h := hS12) (i := 19) rfl) (.w (by kernel_rfl) Kept.n)), ?_⟩
  refine AW.u (i := 4) rfl (by kernel_rfl) rfl rfl (Pur.p rfl) ?_
  refine AW.done (by kernel_rfl) ?_
  show CW _ _ _ _ _ _
  refine CW.cond rfl (fun hc58 => ?_) (fun hc58 => ?_)
  · replace h := bcT h hc58
    refine CW.seq ?_
    refine CW.region ?_
    refine LW.p rfl rfl ?_
    refine LW.nil ?_
    show CW _ _ _ _ _ _
    refine CW.fresh (l := [(6, .bool false)]) ⟨rfl, trivial⟩ (fun e => ?_)
    refine CW.ret ?_
    cases h
    exact And.intro trivial ⟨_, Res.one (resOne.t rfl), rfl, hS12.pick [] rfl rfl⟩
  replace h := bcF h hc58
  refine CW.skip ?_
  show CW _ _ _ _ _ _
  refine CW.seq ?_
  refine CW.region ?_
  refine LW.p rfl rfl ?_
  refine LW.nil ?_
  show CW _ _ _ _ _ _
  refine CW.fresh (l := [(6, .bool true)]) ⟨rfl, trivial⟩ (fun e => ?_)
  refine CW.ret ?_
  cases h
  exact And.intro trivial ⟨_, Res.one (resOne.t rfl), rfl, hS12.pick [] rfl rfl⟩

end Go.Kx
