/- Each call returns what the plain function says. Printed by drive.py. -/
import Derived.Test.YtdjpppkdngmeaaaFa
import Derived.Test.YtdjpppkdngmeaaaPu
import Derived.Test.YtdjpppkdngmeaaaWa3
import Derived.Test.YtdjpppkdngmeaaaWa5
import Derived.Test.YtdjpppkdngmeaaaWa12
import Derived.Test.YtdjpppkdngmeaaaWa13
import Derived.Test.YtdjpppkdngmeaaaWa19
import Derived.Test.YtdjpppkdngmeaaaWa20
namespace Go.Kx
open Go Go.RowKit Go.Proofs
set_option maxRecDepth 10000
set_option maxHeartbeats 2000000
set_option linter.unusedVariables false
set_option linter.unusedSimpArgs false
theorem W_s_TreeNew {w0 : World} {N : Nat} {x0 : DAmt} {r : (List DRes) × Bool} (h : F_s_TreeNew N x0 = some r) :
    Ret Try.prog 102 #[.agg #[.int .i64 x0.pages, .int .i64 x0.rent, .int .i64 x0.cpu]] w0 (fun v w => ∃ ar0 cr0, v = .tuple #[.slice ar0 r.1.length cr0, .bool r.2] ∧ St w0 [] w [sl ar0 cr0 r.1]) := by
  unfold F_s_TreeNew at h
  refine Ret.of Try.func102 rfl rfl rfl ?_
  have hS1 := St.start w0
  refine CW.seq ?_
  refine CW.region ?_
  refine LW.box (cs := [.int .i64 x0.pages, .int .i64 x0.rent, .int .i64 x0.cpu]) rfl hS1 rfl ?_
  intro g1 w2 hS2 hf
  iterate 2 refine LW.p rfl rfl ?_
  refine LW.nil ?_
  show CW _ _ _ _ _ _
  refine CW.seq ?_
  refine CW.seq ?_
  refine CW.region ?_
  refine LW.ldbN hS2 0 rfl ag73 rfl rfl rfl ?_
  replace h := obind h
  obtain ⟨y3, hy3, h⟩ := h
  have q := W_s_AmtOk (w0 := w2) hy3
  refine LW.call pl83 rfl rfl ?_
  refine Ret.mono q ?_
  rintro _ w4 ⟨rfl, hs⟩
  have hS3 := hS2.add hs
  refine LW.p rfl rfl ?_
  refine LW.nil ?_
  show CW _ _ _ _ _ _
  refine CW.cond rfl (fun hc5 => ?_) (fun hc5 => ?_)
  · replace h := bcT h hc5
    refine CW.seq ?_
    refine CW.region ?_
    refine LW.bsl (α := DRes) (vs := []) (cs := #[]) (l := ([] : List DRes)) rfl (by kernel_rfl) rfl rfl rfl (fun w => rfl) hS3 rfl ?_
    intro a6 c7 w8 hS4 hf
    iterate 2 refine LW.p rfl rfl ?_
    refine LW.nil ?_
    show CW _ _ _ _ _ _
    refine CW.ret ?_
    cases h
    exact And.intro trivial ⟨_, Res.two (resOne.t rfl) (resOne.t rfl), a6, c7, rfl, hS4.pick [0] rfl rfl⟩
  replace h := bcF h hc5
  refine CW.skip ?_
  show CW _ _ _ _ _ _
  refine CW.seq ?_
  refine CW.region ?_
  replace h := obind h
  obtain ⟨y9, hy9, h⟩ := h
  refine LW.mk sT67 rfl rfl hy9 hS3 rfl ?_
  intro a10 c11 w12 hS5 hf
  refine LW.p rfl rfl ?_
  refine LW.nil ?_
  show CW _ _ _ _ _ _
  refine CW.seq ?_
  refine CW.region ?_
  refine LW.p rfl rfl ?_
  refine LW.ldbN hS5 1 rfl ag73 rfl rfl rfl ?_
  refine LW.u (Pur.build (vs := [(0, .bool true), (1, .int .i64 (-1)), (2, .agg #[.int .i64 x0.pages, .int .i64 x0.rent, .int .i64 x0.cpu])]) (cs := #[.bool true, .int .i64 (-1), .int .i64 x0.pages, .int .i64 x0.rent, .int .i64 x0.cpu]) rfl (by kernel_rfl)) rfl ?_
  replace h := obind h
  obtain ⟨y13, hy13, h⟩ := h
  obtain ⟨b16, o17, hae, hp14, hq15⟩ := hS5.ownIdx (α := DRes) (i := 0) rfl hy13
  subst hae
  refine LW.u (Pur.ix Try.underlying67 sz156 rfl rfl hp14 hq15) rfl ?_
  replace h := obind h
  obtain ⟨y18, hy18, h⟩ := h
  refine LW.stE (M := []) (L := [sl (some ⟨b16, o17, none⟩) c11 y9, bx g1 73 [.int .i64 x0.pages, .int .i64 x0.rent, .int .i64 x0.cpu]]) (z := y13) (z' := (DRes.mk true (-1) x0)) (o := 0) hS5 (i := 0) rfl hy13 ag156 rfl (by show _ = o17 + (0 : Int).toNat * 5 + 0; omega) rfl rfl rfl rfl (whole (fun w G hG => by cases (show G = [] from hG); exact ⟨rfl, rfl⟩)) ?_
  intro w19 hS6 hf
  rw [Option.some.inj hy18] at hS6
  refine LW.nil ?_
  show CW _ _ _ _ _ _
  refine CW.fresh (l := [(4, .slice (some ⟨b16, o17, none⟩) y9.length c11)]) ⟨rfl, trivial⟩ (fun e => ?_)
  refine CW.seq ?_
  refine CW.region ?_
  iterate 3 refine LW.p rfl rfl ?_
  refine LW.nil ?_
  show CW _ _ _ _ _ _
  refine CW.ret ?_
  replace h := Option.some.inj h
  subst h
  exact And.intro trivial ⟨_, Res.two (resOne.t rfl) (resOne.t rfl), (some ⟨b16, o17, none⟩), c11, (show (.tuple #[.slice (some ⟨b16, o17, none⟩) y9.length c11, .bool true] : Value) = .tuple #[.slice (some ⟨b16, o17, none⟩) y18.length c11, .bool true] by rw [show y9.length = y18.length from (len_set (Option.some.inj hy18))]), hS6.pick [0] rfl rfl⟩

theorem W_s_ArenaNew {w0 : World} {N : Nat} {r : (List DObj)} (h : F_s_ArenaNew N = some r) :
    Ret Try.prog 106 #[] w0 (fun v w => ∃ ar0 cr0, v = .slice ar0 r.length cr0 ∧ St w0 [] w [sl ar0 cr0 r]) := by
  unfold F_s_ArenaNew at h
  refine Ret.of Try.func106 rfl rfl rfl ?_
  have hS1 := St.start w0
  refine CW.seq ?_
  refine CW.region ?_
  refine LW.p rfl rfl ?_
  refine LW.nil ?_
  show CW _ _ _ _ _ _
  refine CW.seq ?_
  refine CW.region ?_
  replace h := obind h
  obtain ⟨y1, hy1, h⟩ := h
  refine LW.mk sT68 rfl rfl hy1 hS1 rfl ?_
  intro a2 c3 w4 hS2 hf
  refine LW.p rfl rfl ?_
  refine LW.nil ?_
  show CW _ _ _ _ _ _
  refine CW.seq ?_
  refine CW.region ?_
  refine LW.p rfl rfl ?_
  refine LW.bsl (α := Int) (vs := [(0, .int .i64 (-1)), (1, .int .i64 (-1))]) (cs := #[.int .i64 (-1), .int .i64 (-1)]) (l := ([-1, -1] : List Int)) rfl (by kernel_rfl) rfl rfl rfl (fun w => ⟨[.int .i64 (-1)], [.int .i64 (-1)], [], [], rfl, rfl, ⟨rfl, rfl⟩, ⟨[.int .i64 (-1)], [], [], [], rfl, rfl, ⟨rfl, rfl⟩, rfl⟩⟩) hS2 rfl ?_
  intro a5 c6 w7 hS3 hf
  refine LW.u (Pur.build (vs := [(1, .int .i64 1), (2, .int .i64 (-1)), (4, .int .i64 1000000), (10, .slice a5 (([-1, -1] : List Int).length) c6)]) (cs := #[.int .i64 0, .int .i64 1, .int .i64 (-1), .int .i64 0, .int .i64 1000000, .int .i64 0, .int .i64 0, .int .i64 0, .int .i64 0, .bool false, .slice a5 (([-1, -1] : List Int).length) c6, .slice none 0 0, .slice none 0 0]) rfl (by kernel_rfl)) rfl ?_
  replace h := obind h
  obtain ⟨y8, hy8, h⟩ := h
  obtain ⟨b11, o12, hae, hp9, hq10⟩ := hS3.ownIdx (α := DObj) (i := 1) rfl hy8
  subst hae
  refine LW.u (Pur.ix Try.underlying68 sz123 rfl rfl hp9 hq10) rfl ?_
  have hS4 := hS3.nil (α := Int)
  have hS5 := hS4.nil (α := DMsg)
  have hS6 := hS5.pick (M := [sl a5 c6 ([-1, -1] : List Int), sl none 0 [], sl none 0 []] ++ [sl (some ⟨b11, o12, none⟩) c3 y1]) [2, 1, 0, 3] rfl rfl
  replace h := obind h
  obtain ⟨y13, hy13, h⟩ := h
  refine LW.stE (M := [sl a5 c6 ([-1, -1] : List Int), sl none 0 [], sl none 0 []]) (L := [sl (some ⟨b11, o12, none⟩) c3 y1]) (z := y8) (z' := (DObj.mk 0 1 (-1) 0 1000000 0 0 0 0 false ([-1, -1] : List Int) [] [])) (o := 0) hS6 (i := 0) rfl hy8 ag123 rfl (by show _ = o12 + (0 : Int).toNat * 13 + 0; omega) rfl rfl rfl rfl (whole (fun w G hG => ⟨a5, c6, none, 0, none, 0, rfl, hG⟩)) ?_
  intro w14 hS7 hf
  rw [Option.some.inj hy13] at hS7
  refine LW.nil ?_
  show CW _ _ _ _ _ _
  refine CW.seq ?_
  refine CW.region ?_
  iterate 2 refine LW.p rfl rfl ?_
  refine LW.nil ?_
  show CW _ _ _ _ _ _
  refine CW.ret ?_
  replace h := Option.some.inj h
  subst h
  exact And.intro trivial ⟨_, Res.one (resOne.t rfl), (some ⟨b11, o12, none⟩), c3, (show (.slice (some ⟨b11, o12, none⟩) y1.length c3 : Value) = .slice (some ⟨b11, o12, none⟩) y13.length c3 by rw [show y1.length = y13.length from (len_set (Option.some.inj hy13))]), hS7.pick [0] rfl rfl⟩

theorem W_s_ArenaPut {w0 : World} {N : Nat} {x0 : List DObj} {x1 : DObj} {r : (List DObj) × Int} (h : F_s_ArenaPut N x0 x1 = some r) {a0_0 : Option Addr} {n0_0 c0_0 : Nat} (hn0_0 : n0_0 = x0.length) (hr0_0 : rdS (Bor w0 []) w0 a0_0 c0_0 x0) {a1_10 : Option Addr} {n1_10 c1_10 : Nat} (hn1_10 : n1_10 = x1.links.length) (hr1_10 : rdS (Bor w0 []) w0 a1_10 c1_10 x1.links) {a1_11 : Option Addr} {n1_11 c1_11 : Nat} (hn1_11 : n1_11 = x1.data.length) (hr1_11 : rdS (Bor w0 []) w0 a1_11 c1_11 x1.data) {a1_12 : Option Addr} {n1_12 c1_12 : Nat} (hn1_12 : n1_12 = x1.queue.length) (hr1_12 : rdS (Bor w0 []) w0 a1_12 c1_12 x1.queue) :
    Ret Try.prog 105 #[.slice a0_0 n0_0 c0_0, .agg #[.int .i64 x1.gen, .int .i64 x1.kind, .int .i64 x1.box, .int .i64 x1.res, .int .i64 x1.til, .int .i64 x1.pages, .int .i64 x1.wait, .int .i64 x1.got, .int .i64 x1.ran, .bool x1.mark, .slice a1_10 n1_10 c1_10, .slice a1_11 n1_11 c1_11, .slice a1_12 n1_12 c1_12]] w0 (fun v w => ∃ ar0 cr0, v = .tuple #[.slice ar0 r.1.length cr0, .int .i64 r.2] ∧ St w0 [] w [sl ar0 cr0 r.1]) := by
  subst hn0_0
  subst hn1_10
  subst hn1_11
  subst hn1_12
  unfold F_s_ArenaPut at h
  refine Ret.of Try.func105 rfl rfl rfl ?_
  have hS1 := St.start w0
  refine CW.seq ?_
  refine CW.region ?_
  refine LW.box (cs := [.int .i64 x1.gen, .int .i64 x1.kind, .int .i64 x1.box, .int .i64 x1.res, .int .i64 x1.til, .int .i64 x1.pages, .int .i64 x1.wait, .int .i64 x1.got, .int .i64 x1.ran, .bool x1.mark, .slice a1_10 x1.links.length c1_10, .slice a1_11 x1.data.length c1_11, .slice a1_12 x1.queue.length c1_12]) rfl hS1 rfl ?_
  intro g1 w2 hS2 hf
  iterate 2 refine LW.p rfl rfl ?_
  refine LW.nil ?_
  show CW _ _ _ _ _ _
  refine CW.seq ?_
  refine CW.region ?_
  refine LW.p rfl rfl ?_
  replace h := obind h
  obtain ⟨y3, hy3, h⟩ := h
  have q := W_s_l8Copy (w0 := w2) hy3 rfl (hS2.rB hr0_0)
  refine LW.call pl164 rfl rfl ?_
  refine Ret.mono q ?_
  rintro _ w6 ⟨a4, c5, rfl, hs⟩
  have hS3 := hS2.add hs
  refine LW.p rfl rfl ?_
  refine LW.nil ?_
  show CW _ _ _ _ _ _
  refine CW.seq ?_
  refine CW.seq ?_
  refine CW.region ?_
  refine LW.p rfl rfl ?_
  replace h := obind h
  obtain ⟨y7, hy7, h⟩ := h
  have q := W_s_ArenaOk (w0 := w6) hy7 rfl (hS3.rB hr0_0)
  refine LW.call pl165 rfl rfl ?_
  refine Ret.mono q ?_
  rintro _ w8 ⟨rfl, hs⟩
  have hS4 := hS3.add hs
  refine LW.p rfl rfl ?_
  refine LW.nil ?_
  show CW _ _ _ _ _ _
  refine CW.cond rfl (fun hc9 => ?_) (fun hc9 => ?_)
  · replace h := bcT h hc9
    refine CW.seq ?_
    refine CW.region ?_
    iterate 3 refine LW.p rfl rfl ?_
    refine LW.nil ?_
    show CW _ _ _ _ _ _
    refine CW.ret ?_
    cases h
    exact And.intro trivial ⟨_, Res.two (resOne.t rfl) (resOne.t rfl), a4, c5, rfl, hS4.pick [0] rfl rfl⟩
  replace h := bcF h hc9
  refine CW.skip ?_
  show CW _ _ _ _ _ _
  refine CW.seq ?_
  refine CW.seq ?_
  refine CW.region ?_
  refine LW.p rfl rfl ?_
  refine LW.nil ?_
  show CW _ _ _ _ _ _
  refine CW.block ?_
  obtain ⟨o84, ho84, h85⟩ := obind h
  refine CW.mono (CW.iter (σ := Int) (ρ := Int ⊕ ((List DObj) × Int)) (fun s10 e wb => En e [(0, .slice a0_0 x0.length c0_0), (3, .pointer (some ⟨g1, 0, none⟩)), (6, .slice a4 y3.length c5), (7, .int .i64 s10)] ∧ St w0 [] wb [sl a4 c5 y3, bx g1 123 [.int .i64 x1.gen, .int .i64 x1.kind, .int .i64 x1.box, .int .i64 x1.res, .int .i64 x1.til, .int .i64 x1.pages, .int .i64 x1.wait, .int .i64 x1.got, .int .i64 x1.ran, .bool x1.mark, .slice a1_10 x1.links.length c1_10, .slice a1_11 x1.data.length c1_11, .slice a1_12 x1.queue.length c1_12]]) (fun o x e wb => match o with | .inl s10 => x = .exit 0 ∧ En e [(6, .slice a4 y3.length c5)] ∧ St w0 [] wb [sl a4 c5 y3, bx g1 123 [.int .i64 x1.gen, .int .i64 x1.kind, .int .i64 x1.box, .int .i64 x1.res, .int .i64 x1.til, .int .i64 x1.pages, .int .i64 x1.wait, .int .i64 x1.got, .int .i64 x1.ran, .bool x1.mark, .slice a1_10 x1.links.length c1_10, .slice a1_11 x1.data.length c1_11, .slice a1_12 x1.queue.length c1_12]] | .inr r => x = .ret ∧ ∃ u, u = r ∧ ∃ v, Res Try.prog Try.f105.results e wb v ∧ ∃ ar0 cr0, v = .tuple #[.slice ar0 u.1.length cr0, .int .i64 u.2] ∧ St w0 [] wb [sl ar0 cr0 u.1]) ?_ N 1 _ _ _ ⟨⟨rfl, rfl, rfl, rfl, trivial⟩, hS4.pick [0, 1] rfl rfl⟩ ho84) ?_
  · intro s10 e w11 o hM h
    obtain ⟨hE, hS5⟩ := hM
    obtain ⟨e, rfl⟩ := hE.out
    refine CW.seq ?_
    refine CW.seq ?_
    refine CW.region ?_
    iterate 2 refine LW.p rfl rfl ?_
    refine LW.u (Pur.len Try.underlying68 rfl) rfl ?_
    refine LW.p rfl rfl ?_
    refine LW.nil ?_
    show CW _ _ _ _ _ _
    refine CW.fresh (l := [(0, .slice a0_0 x0.length c0_0), (3, .pointer (some ⟨g1, 0, none⟩)), (6, .slice a4 y3.length c5), (7, .int .i64 s10), (18, .bool (decide (s10 < (x0.length : Int))))]) ⟨rfl, rfl, rfl, rfl, rfl, trivial⟩ (fun e => ?_)
    refine CW.cond rfl (fun hc12 => ?_) (fun hc12 => ?_)
    · replace h := bcT h hc12
      refine CW.skip ?_
      show CW _ _ _ _ _ _
      refine CW.seq ?_
      refine CW.block ?_
      refine CW.seq ?_
      refine CW.seq ?_
      obtain ⟨j13, hj13, h14⟩ := obind h
      refine CW.cut (fun e wb => En e [(0, .slice a0_0 x0.length c0_0), (3, .pointer (some ⟨g1, 0, none⟩)), (6, .slice a4 y3.length c5), (7, .int .i64 s10), (34, .bool j13)] ∧ St w0 [] wb [sl a4 c5 y3, bx g1 123 [.int .i64 x1.gen, .int .i64 x1.kind, .int .i64 x1.box, .int .i64 x1.res, .int .i64 x1.til, .int .i64 x1.pages, .int .i64 x1.wait, .int .i64 x1.got, .int .i64 x1.ran, .bool x1.mark, .slice a1_10 x1.links.length c1_10, .slice a1_11 x1.data.length c1_11, .slice a1_12 x1.queue.length c1_12]]) ?_ ?_
      · have h := hj13
        refine CW.region ?_
        iterate 2 refine LW.p rfl rfl ?_
        replace h := obind h
        obtain ⟨y15, hy15, h⟩ := h
        obtain ⟨b18, o19, cs20, hae, hb23, hp16, hq17, hd21, hk22⟩ := hr0_0.idx hy15
        subst hae
        obtain ⟨a24, c25, a27, c28, a30, c31, rfl, hr26, hr29, hr32⟩ := hd21
        refine LW.u (Pur.ix Try.underlying68 sz123 rfl rfl hp16 hq17) rfl ?_
        refine LW.u (Pur.fa fo123_1 rfl) rfl ?_
        refine LW.l (Ldr.old w0 ag3 rfl (hk22 1 _ rfl)) (hS5.same _ hb23.1 hb23.2) rfl ?_
        iterate 2 refine LW.p rfl rfl ?_
        rcases bcases (y15.kind != 0) with hc33 | hc33
        · replace h := bcT h hc33
          refine LW.gN (want_not rfl rfl hc33) rfl ?_
          refine LW.gN (want_not rfl rfl hc33) rfl ?_
          refine LW.gN (want_not rfl rfl hc33) rfl ?_
          refine LW.gN (want_not rfl rfl hc33) rfl ?_
          refine LW.gN (want_not rfl rfl hc33) rfl ?_
          refine LW.gN (want_not rfl rfl hc33) rfl ?_
          refine LW.u (Pur.pickT rfl hc33) rfl ?_
          refine LW.nil ?_
          replace h := Option.some.inj h
          subst h
          exact ⟨⟨rfl, rfl, rfl, rfl, rfl, trivial⟩, hS5.pick [0, 1] rfl rfl⟩
        replace h := bcF h hc33
        refine LW.gY (want_of rfl rfl hc33) ?_
        refine LW.p rfl rfl ?_
        refine LW.gY (want_of rfl rfl hc33) ?_
        refine LW.p rfl rfl ?_
        refine LW.gY (want_of rfl rfl hc33) ?_
        refine LW.u (Pur.ix Try.underlying68 sz123 rfl rfl hp16 hq17) rfl ?_
        refine LW.gY (want_of rfl rfl hc33) ?_
        refine LW.u (Pur.fa fo123_0 rfl) rfl ?_
        refine LW.gY (want_of rfl rfl hc33) ?_
        refine LW.l (Ldr.old w0 ag3 rfl (hk22 0 _ rfl)) (hS5.same _ hb23.1 hb23.2) rfl ?_
        refine LW.gY (want_of rfl rfl hc33) ?_
        refine LW.p rfl rfl ?_
        refine LW.u (Pur.pickF rfl hc33) rfl ?_
        refine LW.nil ?_
        replace h := Option.some.inj h
        subst h
        exact ⟨⟨rfl, rfl, rfl, rfl, rfl, trivial⟩, hS5.pick [0, 1] rfl rfl⟩
      intro e w34 hM
      obtain ⟨hE, hS6⟩ := hM
      obtain ⟨e, rfl⟩ := hE.out
      have h := h14
      show CW _ _ _ _ _ _
      refine CW.cond rfl (fun hc35 => ?_) (fun hc35 => ?_)
      · replace h := bcT h hc35
        refine CW.exit ?_
        show CW _ _ _ _ _ _
        refine CW.region ?_
        iterate 3 refine LW.p rfl rfl ?_
        refine LW.nil ?_
        replace h := Option.some.inj h
        subst h
        exact ⟨rfl, ⟨⟨rfl, rfl, rfl, rfl, trivial⟩, hS6.pick [0, 1] rfl rfl⟩⟩
      replace h := bcF h hc35
      refine CW.skip ?_
      show CW _ _ _ _ _ _
      refine CW.seq ?_
      refine CW.region ?_
      refine LW.ldbN hS6 1 rfl ag123 rfl rfl rfl ?_
      replace h := obind h
      obtain ⟨y36, hy36, h⟩ := h
      have q := W_s_l8Obj (w0 := w34) hy36 rfl (hS6.rB hr1_10) rfl (hS6.rB hr1_11) rfl (hS6.rB hr1_12)
      refine LW.call pl166 rfl rfl ?_
      refine Ret.mono q ?_
      rintro _ w43 ⟨a37, c38, a39, c40, a41, c42, rfl, hs⟩
      have hS7 := hS6.add hs
      refine LW.alloc zv123 hS7 rfl ?_
      intro g44 w45 hS8 hf
      refine LW.stb hS8 0 rfl ag123 rfl rfl rfl rfl rfl ?_
      intro w46 hS9 hf
      refine LW.nil ?_
      show CW _ _ _ _ _ _
      refine CW.seq ?_
      refine CW.region ?_
      iterate 2 refine LW.p rfl rfl ?_
      replace h := obind h
      obtain ⟨y47, hy47, h⟩ := h
      obtain ⟨b50, o51, cs52, hae, hb55, hp48, hq49, hd53, hk54⟩ := hr0_0.idx hy47
      subst hae
      obtain ⟨a56, c57, a59, c60, a62, c63, rfl, hr58, hr61, hr64⟩ := hd53
      refine LW.u (Pur.ix Try.underlying68 sz123 rfl rfl hp48 hq49) rfl ?_
      refine LW.u (Pur.fa fo123_0 rfl) rfl ?_
      refine LW.l (Ldr.old w0 ag3 rfl (hk54 0 _ rfl)) (hS9.same _ hb55.1 hb55.2) rfl ?_
      refine LW.p rfl rfl ?_
      refine LW.u (Pur.fa fo123_0 rfl) rfl ?_
      refine LW.stb hS9 0 rfl ag3 rfl rfl rfl rfl rfl ?_
      intro w65 hS10 hf
      refine LW.nil ?_
      show CW _ _ _ _ _ _
      refine CW.fresh (l := [(0, .slice (some ⟨b50, o51, none⟩) x0.length c0_0), (3, .pointer (some ⟨g1, 0, none⟩)), (6, .slice a4 y3.length c5), (7, .int .i64 s10), (8, .pointer (some ⟨g44, 0, none⟩))]) ⟨rfl, rfl, rfl, rfl, rfl, trivial⟩ (fun e => ?_)
      refine CW.seq ?_
      refine CW.region ?_
      iterate 2 refine LW.p rfl rfl ?_
      refine LW.ldbN hS10 0 rfl ag123 rfl rfl rfl ?_
      replace h := obind h
      obtain ⟨y66, hy66, h⟩ := h
      obtain ⟨b69, o70, hae, hp67, hq68⟩ := hS10.ownIdx (α := DObj) (i := 4) rfl hy66
      subst hae
      refine LW.u (Pur.ix Try.underlying68 sz123 rfl rfl hp67 hq68) rfl ?_
      have hS11 := hS10.pick (M := [sl a37 c38 y36.links, sl a39 c40 y36.data, sl a41 c42 y36.queue] ++ [bx g44 123 [.int .i64 (IntKind.i64.wrap (y47.gen + 1)), .int .i64 y36.kind, .int .i64 y36.box, .int .i64 y36.res, .int .i64 y36.til, .int .i64 y36.pages, .int .i64 y36.wait, .int .i64 y36.got, .int .i64 y36.ran, .bool y36.mark, .slice a37 y36.links.length c38, .slice a39 y36.data.length c40, .slice a41 y36.queue.length c42], sl (some ⟨b69, o70, none⟩) c5 y3, bx g1 123 [.int .i64 x1.gen, .int .i64 x1.kind, .int .i64 x1.box, .int .i64 x1.res, .int .i64 x1.til, .int .i64 x1.pages, .int .i64 x1.wait, .int .i64 x1.got, .int .i64 x1.ran, .bool x1.mark, .slice a1_10 x1.links.length c1_10, .slice a1_11 x1.data.length c1_11, .slice a1_12 x1.queue.length c1_12]]) [1, 2, 3, 0, 4, 5] rfl rfl
      replace h := obind h
      obtain ⟨y71, hy71, h⟩ := h
      refine LW.stE (M := [sl a37 c38 y36.links, sl a39 c40 y36.data, sl a41 c42 y36.queue]) (L := [bx g44 123 [.int .i64 (IntKind.i64.wrap (y47.gen + 1)), .int .i64 y36.kind, .int .i64 y36.box, .int .i64 y36.res, .int .i64 y36.til, .int .i64 y36.pages, .int .i64 y36.wait, .int .i64 y36.got, .int .i64 y36.ran, .bool y36.mark, .slice a37 y36.links.length c38, .slice a39 y36.data.length c40, .slice a41 y36.queue.length c42], sl (some ⟨b69, o70, none⟩) c5 y3, bx g1 123 [.int .i64 x1.gen, .int .i64 x1.kind, .int .i64 x1.box, .int .i64 x1.res, .int .i64 x1.til, .int .i64 x1.pages, .int .i64 x1.wait, .int .i64 x1.got, .int .i64 x1.ran, .bool x1.mark, .slice a1_10 x1.links.length c1_10, .slice a1_11 x1.data.length c1_11, .slice a1_12 x1.queue.length c1_12]]) (z := y66) (z' := (DObj.mk (IntKind.i64.wrap (y47.gen + 1)) y36.kind y36.box y36.res y36.til y36.pages y36.wait y36.got y36.ran y36.mark y36.links y36.data y36.queue)) (o := 0) hS11 (i := 1) rfl hy66 ag123 rfl (by show _ = o70 + (s10 : Int).toNat * 13 + 0; omega) rfl rfl rfl rfl (whole (fun w G hG => ⟨a37, c38, a39, c40, a41, c42, rfl, hG⟩)) ?_
      intro w72 hS12 hf
      rw [Option.some.inj hy71] at hS12
      refine LW.nil ?_
      show CW _ _ _ _ _ _
      refine CW.seq ?_
      refine CW.seq ?_
      obtain ⟨j73, hj73, h74⟩ := obind h
      refine CW.cut (fun e wb => En e [(0, .slice (some ⟨b50, o51, none⟩) x0.length c0_0), (6, .slice (some ⟨b69, o70, none⟩) y3.length c5), (7, .int .i64 s10), (55, .bool j73)] ∧ St w0 [] wb [sl (some ⟨b69, o70, none⟩) c5 y71]) ?_ ?_
      · have h := hj73
        refine CW.region ?_
        refine LW.p rfl rfl ?_
        replace h := obind h
        obtain ⟨y75, hy75, h⟩ := h
        have q := W_s_ArenaOk (w0 := w72) hy75 (show y3.length = y71.length from (len_set (Option.some.inj hy71))) (hS12.rI 1 rfl)
        refine LW.call pl165 rfl rfl ?_
        refine Ret.mono q ?_
        rintro _ w76 ⟨rfl, hs⟩
        have hS13 := hS12.add hs
        iterate 2 refine LW.p rfl rfl ?_
        rcases bcases (!y75) with hc77 | hc77
        · replace h := bcT h hc77
          refine LW.gN (want_not rfl rfl hc77) rfl ?_
          refine LW.gN (want_not rfl rfl hc77) rfl ?_
          refine LW.gN (want_not rfl rfl hc77) rfl ?_
          refine LW.u (Pur.pickT rfl hc77) rfl ?_
          refine LW.nil ?_
          replace h := Option.some.inj h
          subst h
          exact ⟨⟨rfl, rfl, rfl, rfl, trivial⟩, hS13.pick [1] rfl rfl⟩
        replace h := bcF h hc77
        refine LW.gY (want_of rfl rfl hc77) ?_
        refine LW.u (Pur.fa fo123_1 rfl) rfl ?_
        refine LW.gY (want_of rfl rfl hc77) ?_
        refine LW.ldb hS13 2 rfl ag3 rfl rfl rfl ?_
        refine LW.gY (want_of rfl rfl hc77) ?_
        refine LW.p rfl rfl ?_
        refine LW.u (Pur.pickF rfl hc77) rfl ?_
        refine LW.nil ?_
        replace h := Option.some.inj h
        subst h
        exact ⟨⟨rfl, rfl, rfl, rfl, trivial⟩, hS13.pick [1] rfl rfl⟩
      intro e w78 hM
      obtain ⟨hE, hS14⟩ := hM
      obtain ⟨e, rfl⟩ := hE.out
      have h := h74
      show CW _ _ _ _ _ _
      refine CW.cond rfl (fun hc79 => ?_) (fun hc79 => ?_)
      · replace h := bcT h hc79
        refine CW.seq ?_
        refine CW.region ?_
        refine LW.p rfl rfl ?_
        replace h := obind h
        obtain ⟨y80, hy80, h⟩ := h
        have q := W_s_l8Copy (w0 := w78) hy80 rfl (hS14.rB hr0_0)
        refine LW.call pl164 rfl rfl ?_
        refine Ret.mono q ?_
        rintro _ w83 ⟨a81, c82, rfl, hs⟩
        have hS15 := hS14.add hs
        iterate 2 refine LW.p rfl rfl ?_
        refine LW.nil ?_
        show CW _ _ _ _ _ _
        refine CW.ret ?_
        replace h := Option.some.inj h
        subst h
        exact ⟨trivial, rfl, _, rfl, ⟨_, Res.two (resOne.t rfl) (resOne.t rfl), a81, c82, rfl, hS15.pick [0] rfl rfl⟩⟩
      replace h := bcF h hc79
      refine CW.skip ?_
      show CW _ _ _ _ _ _
      refine CW.seq ?_
      refine CW.region ?_
      iterate 4 refine LW.p rfl rfl ?_
      refine LW.nil ?_
      show CW _ _ _ _ _ _
      refine CW.ret ?_
      replace h := Option.some.inj h
      subst h
      exact ⟨trivial, rfl, _, rfl, ⟨_, Res.two (resOne.t rfl) (resOne.t rfl), (some ⟨b69, o70, none⟩), c5, (show (.tuple #[.slice (some ⟨b69, o70, none⟩) y3.length c5, .int .i64 s10] : Value) = .tuple #[.slice (some ⟨b69, o70, none⟩) y71.length c5, .int .i64 s10] by rw [show y3.length = y71.length from (len_set (Option.some.inj hy71))]), hS14.pick [0] rfl rfl⟩⟩
    replace h := bcF h hc12
    refine CW.exit ?_
    replace h := Option.some.inj h
    subst h
    exact ⟨trivial, rfl, ⟨⟨rfl, trivial⟩, hS5.pick [0, 1] rfl rfl⟩⟩
  intro x e w86 hM
  rcases o84 with o84 | r87
  · obtain ⟨rfl, hM⟩ := hM
    obtain ⟨hE, hS16⟩ := hM
    obtain ⟨e, rfl⟩ := hE.out
    have h := h85
    show CW _ _ _ _ _ _
    refine CW.seq ?_
    refine CW.region ?_
    iterate 3 refine LW.p rfl rfl ?_
    refine LW.nil ?_
    show CW _ _ _ _ _ _
    refine CW.fresh (l := [(4, .slice a4 y3.length c5), (5, .int .i64 (-1))]) ⟨rfl, rfl, trivial⟩ (fun e => ?_)
    refine CW.ret ?_
    cases h
    exact And.intro trivial ⟨_, Res.two (resOne.t rfl) (resOne.t rfl), a4, c5, rfl, hS16.pick [0] rfl rfl⟩
  obtain ⟨rfl, u, rfl, hM⟩ := hM
  cases h85
  exact And.intro trivial hM

theorem W_s_GcNew {w0 : World} {N : Nat} {r : DGc} (h : F_s_GcNew N = some r) :
    Ret Try.prog 108 #[] w0 (fun v w => ∃ ar0_3 cr0_3, v = .agg #[.int .i64 r.phase, .int .i64 r.pos, .int .i64 r.round, .slice ar0_3 r.grey.length cr0_3] ∧ St w0 [] w [sl ar0_3 cr0_3 r.grey]) := by
  unfold F_s_GcNew at h
  refine Ret.of Try.func108 rfl rfl rfl ?_
  have hS1 := St.start w0
  refine CW.seq ?_
  refine CW.region ?_
  refine LW.alloc zv69 hS1 rfl ?_
  intro g1 w2 hS2 hf
  refine LW.nil ?_
  show CW _ _ _ _ _ _
  refine CW.seq ?_
  refine CW.region ?_
  refine LW.bsl (α := Int) (vs := [(0, .int .i64 0)]) (cs := #[.int .i64 0]) (l := ([0] : List Int)) rfl (by kernel_rfl) rfl rfl rfl (fun w => ⟨[.int .i64 0], [], [], [], rfl, rfl, ⟨rfl, rfl⟩, rfl⟩) hS2 rfl ?_
  intro a3 c4 w5 hS3 hf
  refine LW.u (Pur.build (vs := [(3, .slice a3 (([0] : List Int).length) c4)]) (cs := #[.int .i64 0, .int .i64 0, .int .i64 0, .slice a3 (([0] : List Int).length) c4]) rfl (by kernel_rfl)) rfl ?_
  refine LW.stb hS3 1 rfl ag69 rfl rfl rfl rfl rfl ?_
  intro w6 hS4 hf
  refine LW.nil ?_
  show CW _ _ _ _ _ _
  refine CW.ret ?_
  cases h
  exact And.intro trivial ⟨_, Res.one (resOne.b hS4 1 rfl ag69 rfl rfl), a3, c4, rfl, hS4.pick [0] rfl rfl⟩

theorem W_s_GcBorn {w0 : World} {N : Nat} {x0 : DHeap} {x1 : Int} {r : DHeap} (h : F_s_GcBorn N x0 x1 = some r) {a0_0 : Option Addr} {n0_0 c0_0 : Nat} (hn0_0 : n0_0 = x0.arena.length) (hr0_0 : rdS (Bor w0 []) w0 a0_0 c0_0 x0.arena) {a0_4 : Option Addr} {n0_4 c0_4 : Nat} (hn0_4 : n0_4 = x0.gc.grey.length) (hr0_4 : rdS (Bor w0 []) w0 a0_4 c0_4 x0.gc.grey) :
    Ret Try.prog 107 #[.agg #[.slice a0_0 n0_0 c0_0, .int .i64 x0.gc.phase, .int .i64 x0.gc.pos, .int .i64 x0.gc.round, .slice a0_4 n0_4 c0_4], .int .i64 x1] w0 (fun v w => ∃ ar0_0 cr0_0, ∃ ar0_4 cr0_4, v = .agg #[.slice ar0_0 r.arena.length cr0_0, .int .i64 r.gc.phase, .int .i64 r.gc.pos, .int .i64 r.gc.round, .slice ar0_4 r.gc.grey.length cr0_4] ∧ St w0 [] w [sl ar0_0 cr0_0 r.arena, sl ar0_4 cr0_4 r.gc.grey]) := by
  subst hn0_0
  subst hn0_4
  unfold F_s_GcBorn at h
  refine Ret.of Try.func107 rfl rfl rfl ?_
  have hS1 := St.start w0
  refine CW.seq ?_
  refine CW.region ?_
  refine LW.box (cs := [.slice a0_0 x0.arena.length c0_0, .int .i64 x0.gc.phase, .int .i64 x0.gc.pos, .int .i64 x0.gc.round, .slice a0_4 x0.gc.grey.length c0_4]) rfl hS1 rfl ?_
  intro g1 w2 hS2 hf
  refine LW.alloc zv71 hS2 rfl ?_
  intro g3 w4 hS3 hf
  refine LW.nil ?_
  show CW _ _ _ _ _ _
  refine CW.seq ?_
  refine CW.region ?_
  refine LW.ldbN hS3 1 rfl ag71 rfl rfl rfl ?_
  replace h := obind h
  obtain ⟨y5, hy5, h⟩ := h
  have q := W_s_l10Copy (w0 := w4) hy5 rfl (hS3.rB hr0_0) rfl (hS3.rB hr0_4)
  refine LW.call pl158 rfl rfl ?_
  refine Ret.mono q ?_
  rintro _ w10 ⟨a6, c7, a8, c9, rfl, hs⟩
  have hS4 := hS3.add hs
  refine LW.alloc zv71 hS4 rfl ?_
  intro g11 w12 hS5 hf
  refine LW.stb hS5 0 rfl ag71 rfl rfl rfl rfl rfl ?_
  intro w13 hS6 hf
  refine LW.nil ?_
  show CW _ _ _ _ _ _
  refine CW.seq ?_
  refine CW.seq ?_
  obtain ⟨j14, hj14, h15⟩ := obind h
  refine CW.cut (fun e wb => En e [(1, .int .i64 x1), (2, .pointer (some ⟨g1, 0, none⟩)), (4, .pointer (some ⟨g3, 0, none⟩)), (5, .pointer (some ⟨g11, 0, none⟩)), (24, .bool j14)] ∧ St w0 [] wb [bx g11 71 [.slice a6 y5.arena.length c7, .int .i64 y5.gc.phase, .int .i64 y5.gc.pos, .int .i64 y5.gc.round, .slice a8 y5.gc.grey.length c9], sl a6 c7 y5.arena, sl a8 c9 y5.gc.grey, bx g3 71 [.slice none 0 0, .int .i64 0, .int .i64 0, .int .i64 0, .slice none 0 0], bx g1 71 [.slice a0_0 x0.arena.length c0_0, .int .i64 x0.gc.phase, .int .i64 x0.gc.pos, .int .i64 x0.gc.round, .slice a0_4 x0.gc.grey.length c0_4]]) ?_ ?_
  · have h := hj14
    refine CW.region ?_
    refine LW.ldbN hS6 4 rfl ag71 rfl rfl rfl ?_
    replace h := obind h
    obtain ⟨y16, hy16, h⟩ := h
    have q := W_s_HeapOk (w0 := w13) hy16 rfl (hS6.rB hr0_0) rfl (hS6.rB hr0_4)
    refine LW.call pl145 rfl rfl ?_
    refine Ret.mono q ?_
    rintro _ w17 ⟨rfl, hs⟩
    have hS7 := hS6.add hs
    iterate 2 refine LW.p rfl rfl ?_
    rcases bcases (!y16) with hc18 | hc18
    · replace h := bcT h hc18
      refine LW.gN (want_not rfl rfl hc18) rfl ?_
      refine LW.gN (want_not rfl rfl hc18) rfl ?_
      refine LW.gN (want_not rfl rfl hc18) rfl ?_
      refine LW.u (Pur.pickT rfl hc18) rfl ?_
      refine LW.p rfl rfl ?_
      refine LW.gN (want_not rfl rfl rfl) rfl ?_
      refine LW.gN (want_not rfl rfl rfl) rfl ?_
      refine LW.gN (want_not rfl rfl rfl) rfl ?_
      refine LW.gN (want_not rfl rfl rfl) rfl ?_
      refine LW.gN (want_not rfl rfl rfl) rfl ?_
      refine LW.gN (want_not rfl rfl rfl) rfl ?_
      refine LW.gN (want_not rfl rfl rfl) rfl ?_
      refine LW.u (Pur.pickT rfl rfl) rfl ?_
      refine LW.nil ?_
      replace h := Option.some.inj h
      subst h
      exact ⟨⟨rfl, rfl, rfl, rfl, rfl, trivial⟩, hS7.pick [0, 1, 2, 3, 4] rfl rfl⟩
    replace h := bcF h hc18
    refine LW.gY (want_of rfl rfl hc18) ?_
    refine LW.p rfl rfl ?_
    replace h := obind h
    obtain ⟨y19, hy19, h⟩ := h
    have q := W_s_l8Slot (w0 := w17) hy19
    refine LW.gY (want_of rfl rfl hc18) ?_
    refine LW.call pl146 rfl rfl ?_
    refine Ret.mono q ?_
    rintro _ w20 ⟨rfl, hs⟩
    have hS8 := hS7.add hs
    refine LW.gY (want_of rfl rfl hc18) ?_
    refine LW.p rfl rfl ?_
    refine LW.u (Pur.pickF rfl hc18) rfl ?_
    refine LW.p rfl rfl ?_
    rcases bcases (!y19) with hc21 | hc21
    · replace h := bcT h hc21
      refine LW.gN (want_not rfl rfl hc21) rfl ?_
      refine LW.gN (want_not rfl rfl hc21) rfl ?_
      refine LW.gN (want_not rfl rfl hc21) rfl ?_
      refine LW.gN (want_not rfl rfl hc21) rfl ?_
      refine LW.gN (want_not rfl rfl hc21) rfl ?_
      refine LW.gN (want_not rfl rfl hc21) rfl ?_
      refine LW.gN (want_not rfl rfl hc21) rfl ?_
      refine LW.u (Pur.pickT rfl hc21) rfl ?_
      refine LW.nil ?_
      replace h := Option.some.inj h
      subst h
      exact ⟨⟨rfl, rfl, rfl, rfl, rfl, trivial⟩, hS8.pick [0, 1, 2, 3, 4] rfl rfl⟩
    replace h := bcF h hc21
    refine LW.gY (want_of rfl rfl hc21) ?_
    refine LW.u (Pur.fa fo71_0 rfl) rfl ?_
    refine LW.gY (want_of rfl rfl hc21) ?_
    refine LW.ldb hS8 4 rfl ag68 rfl rfl rfl ?_
    refine LW.gY (want_of rfl rfl hc21) ?_
    refine LW.p rfl rfl ?_
    replace h := obind h
    obtain ⟨y22, hy22, h⟩ := h
    obtain ⟨b25, o26, cs27, hae, hb30, hp23, hq24, hd28, hk29⟩ := hr0_0.idx hy22
    subst hae
    obtain ⟨a31, c32, a34, c35, a37, c38, rfl, hr33, hr36, hr39⟩ := hd28
    refine LW.gY (want_of rfl rfl hc21) ?_
    refine LW.u (Pur.ix Try.underlying68 sz123 rfl rfl hp23 hq24) rfl ?_
    refine LW.gY (want_of rfl rfl hc21) ?_
    refine LW.u (Pur.fa fo123_1 rfl) rfl ?_
    refine LW.gY (want_of rfl rfl hc21) ?_
    refine LW.l (Ldr.old w0 ag3 rfl (hk29 1 _ rfl)) (hS8.same _ hb30.1 hb30.2) rfl ?_
    refine LW.gY (want_of rfl rfl hc21) ?_
    refine LW.p rfl rfl ?_
    refine LW.fresh (l := [(1, .int .i64 x1), (2, .pointer (some ⟨g1, 0, none⟩)), (4, .pointer (some ⟨g3, 0, none⟩)), (5, .pointer (some ⟨g11, 0, none⟩)), (16, .bool (!y19)), (23, .bool (y22.kind == 0))]) ⟨rfl, rfl, rfl, rfl, rfl, rfl, trivial⟩ (fun e => ?_)
    refine LW.u (Pur.pickF rfl hc21) rfl ?_
    refine LW.nil ?_
    replace h := Option.some.inj h
    subst h
    exact ⟨⟨rfl, rfl, rfl, rfl, rfl, trivial⟩, hS8.pick [0, 1, 2, 3, 4] rfl rfl⟩
  intro e w40 hM
  obtain ⟨hE, hS9⟩ := hM
  obtain ⟨e, rfl⟩ := hE.out
  have h := h15
  show CW _ _ _ _ _ _
  refine CW.cond rfl (fun hc41 => ?_) (fun hc41 => ?_)
  · replace h := bcT h hc41
    refine CW.seq ?_
    refine CW.region ?_
    refine LW.ldbN hS9 0 rfl ag71 rfl rfl rfl ?_
    refine LW.stb hS9 3 rfl ag71 rfl rfl rfl rfl rfl ?_
    intro w42 hS10 hf
    refine LW.nil ?_
    show CW _ _ _ _ _ _
    refine CW.ret ?_
    cases h
    exact And.intro trivial ⟨_, Res.one (resOne.b hS10 3 rfl ag71 rfl rfl), a6, c7, a8, c9, rfl, hS10.pick [1, 2] rfl rfl⟩
  replace h := bcF h hc41
  refine CW.skip ?_
  show CW _ _ _ _ _ _
  refine CW.seq ?_
  obtain ⟨j43, hj43, h44⟩ := obind h
  refine CW.cut (fun e wb => En e [(4, .pointer (some ⟨g3, 0, none⟩)), (5, .pointer (some ⟨g11, 0, none⟩))] ∧ St w0 [] wb [bx g11 71 [.slice a6 j43.length c7, .int .i64 y5.gc.phase, .int .i64 y5.gc.pos, .int .i64 y5.gc.round, .slice a8 y5.gc.grey.length c9], sl a6 c7 j43, sl a8 c9 y5.gc.grey, bx g3 71 [.slice none 0 0, .int .i64 0, .int .i64 0, .int .i64 0, .slice none 0 0]]) ?_ ?_
  · have h := hj43
    refine CW.region ?_
    refine LW.u (Pur.fa fo71_0 rfl) rfl ?_
    refine LW.ldb hS9 0 rfl ag68 rfl rfl rfl ?_
    refine LW.p rfl rfl ?_
    refine LW.u (Pur.fa fo71_1 rfl) rfl ?_
    refine LW.u (Pur.fa fo69_0 rfl) rfl ?_
    refine LW.ldb hS9 4 rfl ag3 rfl rfl rfl ?_
    iterate 2 refine LW.p rfl rfl ?_
    rcases bcases (x0.gc.phase == 0) with hc45 | hc45
    · replace h := bcT h hc45
      refine LW.gN (want_not rfl rfl hc45) rfl ?_
      refine LW.gN (want_not rfl rfl hc45) rfl ?_
      refine LW.gN (want_not rfl rfl hc45) rfl ?_
      refine LW.gN (want_not rfl rfl hc45) rfl ?_
      refine LW.gN (want_not rfl rfl hc45) rfl ?_
      refine LW.u (Pur.pickT rfl hc45) rfl ?_
      replace h := obind h
      obtain ⟨y46, hy46, h⟩ := h
      obtain ⟨b49, o50, hae, hp47, hq48⟩ := hS9.ownIdx (α := DObj) (i := 1) rfl hy46
      subst hae
      refine LW.u (Pur.ix Try.underlying68 sz123 rfl rfl hp47 hq48) rfl ?_
      refine LW.u (Pur.fa fo123_9 rfl) rfl ?_
      replace h := obind h
      obtain ⟨y51, hy51, h⟩ := h
      refine LW.stE (M := []) (L := [bx g11 71 [.slice (some ⟨b49, o50, none⟩) y5.arena.length c7, .int .i64 y5.gc.phase, .int .i64 y5.gc.pos, .int .i64 y5.gc.round, .slice a8 y5.gc.grey.length c9], sl (some ⟨b49, o50, none⟩) c7 y5.arena, sl a8 c9 y5.gc.grey, bx g3 71 [.slice none 0 0, .int .i64 0, .int .i64 0, .int .i64 0, .slice none 0 0], bx g1 71 [.slice a0_0 x0.arena.length c0_0, .int .i64 x0.gc.phase, .int .i64 x0.gc.pos, .int .i64 x0.gc.round, .slice a0_4 x0.gc.grey.length c0_4]]) (z := y46) (z' := (DObj.mk y46.gen y46.kind y46.box y46.res y46.til y46.pages y46.wait y46.got y46.ran true y46.links y46.data y46.queue)) (o := 9) hS9 (i := 1) rfl hy46 ag4 rfl (by show _ = o50 + (x1 : Int).toNat * 13 + 9; omega) rfl rfl rfl rfl (leafF (fun w cs F hF => by obtain ⟨q0, r0, q1, r1, q2, r2, rfl, hH⟩ := hF; exact ⟨q0, r0, q1, r1, q2, r2, rfl, hH⟩)) ?_
      intro w52 hS11 hf
      rw [Option.some.inj hy51] at hS11
      refine LW.nil ?_
      replace h := Option.some.inj h
      subst h
      rw [show y5.arena.length = y51.length from (len_set (Option.some.inj hy51))] at hS11
      exact ⟨⟨rfl, rfl, trivial⟩, hS11.pick [0, 1, 2, 3] rfl rfl⟩
    replace h := bcF h hc45
    refine LW.gY (want_of rfl rfl hc45) ?_
    refine LW.p rfl rfl ?_
    refine LW.gY (want_of rfl rfl hc45) ?_
    refine LW.u (Pur.fa fo71_1 rfl) rfl ?_
    refine LW.gY (want_of rfl rfl hc45) ?_
    refine LW.u (Pur.fa fo69_1 rfl) rfl ?_
    refine LW.gY (want_of rfl rfl hc45) ?_
    refine LW.ldb hS9 4 rfl ag3 rfl rfl rfl ?_
    refine LW.gY (want_of rfl rfl hc45) ?_
    refine LW.p rfl rfl ?_
    refine LW.u (Pur.pickF rfl hc45) rfl ?_
    replace h := obind h
    obtain ⟨y53, hy53, h⟩ := h
    obtain ⟨b56, o57, hae, hp54, hq55⟩ := hS9.ownIdx (α := DObj) (i := 1) rfl hy53
    subst hae
    refine LW.u (Pur.ix Try.underlying68 sz123 rfl rfl hp54 hq55) rfl ?_
    refine LW.u (Pur.fa fo123_9 rfl) rfl ?_
    replace h := obind h
    obtain ⟨y58, hy58, h⟩ := h
    refine LW.stE (M := []) (L := [bx g11 71 [.slice (some ⟨b56, o57, none⟩) y5.arena.length c7, .int .i64 y5.gc.phase, .int .i64 y5.gc.pos, .int .i64 y5.gc.round, .slice a8 y5.gc.grey.length c9], sl (some ⟨b56, o57, none⟩) c7 y5.arena, sl a8 c9 y5.gc.grey, bx g3 71 [.slice none 0 0, .int .i64 0, .int .i64 0, .int .i64 0, .slice none 0 0], bx g1 71 [.slice a0_0 x0.arena.length c0_0, .int .i64 x0.gc.phase, .int .i64 x0.gc.pos, .int .i64 x0.gc.round, .slice a0_4 x0.gc.grey.length c0_4]]) (z := y53) (z' := (DObj.mk y53.gen y53.kind y53.box y53.res y53.til y53.pages y53.wait y53.got y53.ran (decide (x1 ≥ x0.gc.pos)) y53.links y53.data y53.queue)) (o := 9) hS9 (i := 1) rfl hy53 ag4 rfl (by show _ = o57 + (x1 : Int).toNat * 13 + 9; omega) rfl rfl rfl rfl (leafF (fun w cs F hF => by obtain ⟨q0, r0, q1, r1, q2, r2, rfl, hH⟩ := hF; exact ⟨q0, r0, q1, r1, q2, r2, rfl, hH⟩)) ?_
    intro w59 hS12 hf
    rw [Option.some.inj hy58] at hS12
    refine LW.nil ?_
    replace h := Option.some.inj h
    subst h
    rw [show y5.arena.length = y58.length from (len_set (Option.some.inj hy58))] at hS12
    exact ⟨⟨rfl, rfl, trivial⟩, hS12.pick [0, 1, 2, 3] rfl rfl⟩
  intro e w60 hM
  obtain ⟨hE, hS13⟩ := hM
  obtain ⟨e, rfl⟩ := hE.out
  have h := h44
  show CW _ _ _ _ _ _
  refine CW.seq ?_
  refine CW.region ?_
  refine LW.ldbN hS13 0 rfl ag71 rfl rfl rfl ?_
  refine LW.stb hS13 3 rfl ag71 rfl rfl rfl rfl rfl ?_
  intro w61 hS14 hf
  refine LW.nil ?_
  show CW _ _ _ _ _ _
  refine CW.ret ?_
  cases h
  exact And.intro trivial ⟨_, Res.one (resOne.b hS14 3 rfl ag71 rfl rfl), a6, c7, a8, c9, rfl, hS14.pick [1, 2] rfl rfl⟩

theorem W_s_PartNew {w0 : World} {N : Nat} {x0 : DBoot} {r : DPart × Bool} (h : F_s_PartNew N x0 = some r) {a0_0 : Option Addr} {n0_0 c0_0 : Nat} (hn0_0 : n0_0 = x0.label.levels.length) (hr0_0 : rdS (Bor w0 []) w0 a0_0 c0_0 x0.label.levels) {a0_1 : Option Addr} {n0_1 c0_1 : Nat} (hn0_1 : n0_1 = x0.own.length) (hr0_1 : rdS (Bor w0 []) w0 a0_1 c0_1 x0.own) :
    Ret Try.prog 47 #[.agg #[.slice a0_0 n0_0 c0_0, .slice a0_1 n0_1 c0_1, .int .i64 x0.amt.pages, .int .i64 x0.amt.rent, .int .i64 x0.amt.cpu]] w0 (fun v w => ∃ ar0_0 cr0_0, ∃ ar0_1 cr0_1, ∃ ar0_2 cr0_2, ∃ ar0_3 cr0_3, ∃ ar0_7 cr0_7, ∃ ar0_8 cr0_8, v = .tuple #[.agg #[.slice ar0_0 r.1.label.levels.length cr0_0, .slice ar0_1 r.1.own.length cr0_1, .slice ar0_2 r.1.tree.length cr0_2, .slice ar0_3 r.1.heap.arena.length cr0_3, .int .i64 r.1.heap.gc.phase, .int .i64 r.1.heap.gc.pos, .int .i64 r.1.heap.gc.round, .slice ar0_7 r.1.heap.gc.grey.length cr0_7, .slice ar0_8 r.1.taps.length cr0_8, .int .i64 r.1.next, .int .i64 r.1.want, .int .i64 r.1.spent.pages, .int .i64 r.1.spent.rent, .int .i64 r.1.spent.cpu, .int .i64 r.1.press, .int .i64 r.1.lost], .bool r.2] ∧ St w0 [] w [sl ar0_0 cr0_0 r.1.label.levels, sl ar0_1 cr0_1 r.1.own, sl ar0_2 cr0_2 r.1.tree, sl ar0_3 cr0_3 r.1.heap.arena, sl ar0_7 cr0_7 r.1.heap.gc.grey, sl ar0_8 cr0_8 r.1.taps]) := by
  subst hn0_0
  subst hn0_1
  unfold F_s_PartNew at h
  refine Ret.of Try.func47 rfl rfl rfl ?_
  have hS1 := St.start w0
  refine CW.seq ?_
  refine CW.region ?_
  refine LW.box (cs := [.slice a0_0 x0.label.levels.length c0_0, .slice a0_1 x0.own.length c0_1, .int .i64 x0.amt.pages, .int .i64 x0.amt.rent, .int .i64 x0.amt.cpu]) rfl hS1 rfl ?_
  intro g1 w2 hS2 hf
  refine LW.alloc zv75 hS2 rfl ?_
  intro g3 w4 hS3 hf
  refine LW.p rfl rfl ?_
  refine LW.nil ?_
  show CW _ _ _ _ _ _
  refine CW.seq ?_
  refine CW.region ?_
  refine LW.u (Pur.fa fo94_2 rfl) rfl ?_
  refine LW.ldbN hS3 1 rfl ag73 rfl rfl rfl ?_
  replace h := obind h
  obtain ⟨y5, hy5, h⟩ := h
  have q := W_s_TreeNew (w0 := w4) hy5
  refine LW.call pl102 rfl rfl ?_
  refine Ret.mono q ?_
  rintro _ w8 ⟨a6, c7, rfl, hs⟩
  have hS4 := hS3.add hs
  iterate 5 refine LW.p rfl rfl ?_
  refine LW.nil ?_
  show CW _ _ _ _ _ _
  refine CW.seq ?_
  refine CW.seq ?_
  obtain ⟨j9, hj9, h10⟩ := obind h
  refine CW.cut (fun e wb => En e [(1, .pointer (some ⟨g1, 0, none⟩)), (2, .pointer (some ⟨g3, 0, none⟩)), (4, .slice a6 y5.1.length c7), (28, .bool j9)] ∧ St w0 [] wb [sl a6 c7 y5.1, bx g3 75 [.slice none 0 0, .slice none 0 0, .slice none 0 0, .slice none 0 0, .int .i64 0, .int .i64 0, .int .i64 0, .slice none 0 0, .slice none 0 0, .int .i64 0, .int .i64 0, .int .i64 0, .int .i64 0, .int .i64 0, .int .i64 0, .int .i64 0], bx g1 94 [.slice a0_0 x0.label.levels.length c0_0, .slice a0_1 x0.own.length c0_1, .int .i64 x0.amt.pages, .int .i64 x0.amt.rent, .int .i64 x0.amt.cpu]]) ?_ ?_
  · have h := hj9
    refine CW.region ?_
    refine LW.u (Pur.fa fo94_0 rfl) rfl ?_
    refine LW.ldbN hS4 2 rfl ag35 rfl rfl rfl ?_
    replace h := obind h
    obtain ⟨y11, hy11, h⟩ := h
    have q := W_s_LabelOk (w0 := w8) hy11 rfl (hS4.rB hr0_0)
    refine LW.call pl103 rfl rfl ?_
    refine Ret.mono q ?_
    rintro _ w12 ⟨rfl, hs⟩
    have hS5 := hS4.add hs
    iterate 2 refine LW.p rfl rfl ?_
    rcases bcases (!y11) with hc13 | hc13
    · replace h := bcT h hc13
      refine LW.gN (want_not rfl rfl hc13) rfl ?_
      refine LW.gN (want_not rfl rfl hc13) rfl ?_
      refine LW.gN (want_not rfl rfl hc13) rfl ?_
      refine LW.gN (want_not rfl rfl hc13) rfl ?_
      refine LW.u (Pur.pickT rfl hc13) rfl ?_
      refine LW.p rfl rfl ?_
      refine LW.gN (want_not rfl rfl rfl) rfl ?_
      refine LW.gN (want_not rfl rfl rfl) rfl ?_
      refine LW.fresh (l := [(1, .pointer (some ⟨g1, 0, none⟩)), (2, .pointer (some ⟨g3, 0, none⟩)), (4, .slice a6 y5.1.length c7), (25, .bool true), (27, undef)]) ⟨rfl, rfl, rfl, rfl, rfl, trivial⟩ (fun e => ?_)
      refine LW.u (Pur.pickT rfl rfl) rfl ?_
      refine LW.nil ?_
      replace h := Option.some.inj h
      subst h
      exact ⟨⟨rfl, rfl, rfl, rfl, trivial⟩, hS5.pick [0, 1, 2] rfl rfl⟩
    replace h := bcF h hc13
    refine LW.gY (want_of rfl rfl hc13) ?_
    refine LW.u (Pur.fa fo94_1 rfl) rfl ?_
    refine LW.gY (want_of rfl rfl hc13) ?_
    refine LW.ldb hS5 2 rfl ag24 rfl rfl rfl ?_
    replace h := obind h
    obtain ⟨y14, hy14, h⟩ := h
    have q := W_s_OwnOk (w0 := w12) hy14 rfl (hS5.rB hr0_1)
    refine LW.gY (want_of rfl rfl hc13) ?_
    refine LW.call pl104 rfl rfl ?_
    refine Ret.mono q ?_
    rintro _ w15 ⟨rfl, hs⟩
    have hS6 := hS5.add hs
    refine LW.gY (want_of rfl rfl hc13) ?_
    refine LW.p rfl rfl ?_
    refine LW.u (Pur.pickF rfl hc13) rfl ?_
    refine LW.p rfl rfl ?_
    rcases bcases (!y14) with hc16 | hc16
    · replace h := bcT h hc16
      refine LW.gN (want_not rfl rfl hc16) rfl ?_
      refine LW.fresh (l := [(1, .pointer (some ⟨g1, 0, none⟩)), (2, .pointer (some ⟨g3, 0, none⟩)), (4, .slice a6 y5.1.length c7), (25, .bool (!y14)), (26, undef)]) ⟨rfl, rfl, rfl, rfl, rfl, trivial⟩ (fun e => ?_)
      refine LW.gN (want_not rfl rfl hc16) rfl ?_
      refine LW.u (Pur.pickT rfl hc16) rfl ?_
      refine LW.nil ?_
      replace h := Option.some.inj h
      subst h
      exact ⟨⟨rfl, rfl, rfl, rfl, trivial⟩, hS6.pick [0, 1, 2] rfl rfl⟩
    replace h := bcF h hc16
    refine LW.gY (want_of rfl rfl hc16) ?_
    refine LW.p rfl rfl ?_
    refine LW.fresh (l := [(1, .pointer (some ⟨g1, 0, none⟩)), (2, .pointer (some ⟨g3, 0, none⟩)), (4, .slice a6 y5.1.length c7), (25, .bool (!y14)), (26, .bool y5.2)]) ⟨rfl, rfl, rfl, rfl, rfl, trivial⟩ (fun e => ?_)
    refine LW.gY (want_of rfl rfl hc16) ?_
    refine LW.p rfl rfl ?_
    refine LW.u (Pur.pickF rfl hc16) rfl ?_
    refine LW.nil ?_
    replace h := Option.some.inj h
    subst h
    exact ⟨⟨rfl, rfl, rfl, rfl, trivial⟩, hS6.pick [0, 1, 2] rfl rfl⟩
  intro e w17 hM
  obtain ⟨hE, hS7⟩ := hM
  obtain ⟨e, rfl⟩ := hE.out
  have h := h10
  show CW _ _ _ _ _ _
  refine CW.cond rfl (fun hc18 => ?_) (fun hc18 => ?_)
  · replace h := bcT h hc18
    refine CW.seq ?_
    refine CW.region ?_
    refine LW.u (Pur.build (vs := []) (cs := #[.slice none 0 0, .slice none 0 0, .slice none 0 0, .slice none 0 0, .int .i64 0, .int .i64 0, .int .i64 0, .slice none 0 0, .slice none 0 0, .int .i64 0, .int .i64 0, .int .i64 0, .int .i64 0, .int .i64 0, .int .i64 0, .int .i64 0]) rfl (by kernel_rfl)) rfl ?_
    refine LW.stb hS7 1 rfl ag75 rfl rfl rfl rfl rfl ?_
    intro w19 hS8 hf
    refine LW.p rfl rfl ?_
    refine LW.nil ?_
    show CW _ _ _ _ _ _
    refine CW.fresh (l := [(2, .pointer (some ⟨g3, 0, none⟩)), (3, .bool false)]) ⟨rfl, rfl, trivial⟩ (fun e => ?_)
    refine CW.ret ?_
    cases h
    have hS9 := hS8.nil (α := Int)
    have hS10 := hS9.nil (α := Int)
    have hS11 := hS10.nil (α := DRes)
    have hS12 := hS11.nil (α := DObj)
    have hS13 := hS12.nil (α := Int)
    have hS14 := hS13.nil (α := DTap)
    exact And.intro trivial ⟨_, Res.two (resOne.b hS14 7 rfl ag75 rfl rfl) (resOne.t rfl), none, 0, none, 0, none, 0, none, 0, none, 0, none, 0, rfl, hS14.pick [5, 4, 3, 2, 1, 0] rfl rfl⟩
  replace h := bcF h hc18
  refine CW.skip ?_
  show CW _ _ _ _ _ _
  refine CW.seq ?_
  refine CW.region ?_
  replace h := obind h
  obtain ⟨y20, hy20, h⟩ := h
  have q := W_s_ArenaNew (w0 := w17) hy20
  refine LW.call pl106 rfl rfl ?_
  refine Ret.mono q ?_
  rintro _ w23 ⟨a21, c22, rfl, hs⟩
  have hS15 := hS7.add hs
  refine LW.bsl (α := Int) (vs := [(0, .int .i64 (-1)), (1, .int .i64 (-1))]) (cs := #[.int .i64 (-1), .int .i64 (-1)]) (l := ([-1, -1] : List Int)) rfl (by kernel_rfl) rfl rfl rfl (fun w => ⟨[.int .i64 (-1)], [.int .i64 (-1)], [], [], rfl, rfl, ⟨rfl, rfl⟩, ⟨[.int .i64 (-1)], [], [], [], rfl, rfl, ⟨rfl, rfl⟩, rfl⟩⟩) hS15 rfl ?_
  intro a24 c25 w26 hS16 hf
  refine LW.u (Pur.build (vs := [(1, .int .i64 4), (4, .int .i64 1000000), (10, .slice a24 (([-1, -1] : List Int).length) c25)]) (cs := #[.int .i64 0, .int .i64 4, .int .i64 0, .int .i64 0, .int .i64 1000000, .int .i64 0, .int .i64 0, .int .i64 0, .int .i64 0, .bool false, .slice a24 (([-1, -1] : List Int).length) c25, .slice none 0 0, .slice none 0 0]) rfl (by kernel_rfl)) rfl ?_
  replace h := obind h
  obtain ⟨y27, hy27, h⟩ := h
  have q := W_s_ArenaPut (w0 := w26) hy27 rfl (hS16.rI 1 rfl) rfl (hS16.rI 0 rfl) rfl (show rdS (α := Int) (Bor w26 []) w26 none 0 [] from rdS.nil _ _ _ _ (Nat.zero_le _)) rfl (show rdS (α := DMsg) (Bor w26 []) w26 none 0 [] from rdS.nil _ _ _ _ (Nat.zero_le _))
  refine LW.call pl105 rfl rfl ?_
  refine Ret.mono q ?_
  rintro _ w30 ⟨a28, c29, rfl, hs⟩
  have hS17 := hS16.add hs
  iterate 5 refine LW.p rfl rfl ?_
  refine LW.nil ?_
  show CW _ _ _ _ _ _
  refine CW.fresh (l := [(1, .pointer (some ⟨g1, 0, none⟩)), (2, .pointer (some ⟨g3, 0, none⟩)), (4, .slice a6 y5.1.length c7), (6, .slice a28 y27.1.length c29), (7, .int .i64 y27.2)]) ⟨rfl, rfl, rfl, rfl, rfl, trivial⟩ (fun e => ?_)
  refine CW.seq ?_
  refine CW.region ?_
  refine LW.p rfl rfl ?_
  replace h := obind h
  obtain ⟨y31, hy31, h⟩ := h
  have q := W_s_GcNew (w0 := w30) hy31
  refine LW.call pl108 rfl rfl ?_
  refine Ret.mono q ?_
  rintro _ w34 ⟨a32, c33, rfl, hs⟩
  have hS18 := hS17.add hs
  refine LW.u (Pur.build (vs := [(0, .slice a28 y27.1.length c29), (1, .agg #[.int .i64 y31.phase, .int .i64 y31.pos, .int .i64 y31.round, .slice a32 y31.grey.length c33])]) (cs := #[.slice a28 y27.1.length c29, .int .i64 y31.phase, .int .i64 y31.pos, .int .i64 y31.round, .slice a32 y31.grey.length c33]) rfl (by kernel_rfl)) rfl ?_
  refine LW.p rfl rfl ?_
  replace h := obind h
  obtain ⟨y35, hy35, h⟩ := h
  have q := W_s_GcBorn (w0 := w34) hy35 rfl (hS18.rI 1 rfl) rfl (hS18.rI 0 rfl)
  refine LW.call pl107 rfl rfl ?_
  refine Ret.mono q ?_
  rintro _ w40 ⟨a36, c37, a38, c39, rfl, hs⟩
  have hS19 := hS18.add hs
  refine LW.alloc zv71 hS19 rfl ?_
  intro g41 w42 hS20 hf
  refine LW.stb hS20 0 rfl ag71 rfl rfl rfl rfl rfl ?_
  intro w43 hS21 hf
  refine LW.nil ?_
  show CW _ _ _ _ _ _
  refine CW.seq ?_
  refine CW.region ?_
  refine LW.u (Pur.fa fo94_0 rfl) rfl ?_
  refine LW.ldbN hS21 9 rfl ag35 rfl rfl rfl ?_
  refine LW.u (Pur.fa fo94_1 rfl) rfl ?_
  refine LW.ldb hS21 9 rfl ag24 rfl rfl rfl ?_
  refine LW.p rfl rfl ?_
  refine LW.ldbN hS21 0 rfl ag71 rfl rfl rfl ?_
  refine LW.u (Pur.build (vs := [(0, .agg #[.slice a0_0 x0.label.levels.length c0_0]), (1, .slice a0_1 x0.own.length c0_1), (2, .slice a6 y5.1.length c7), (3, .agg #[.slice a36 y35.arena.length c37, .int .i64 y35.gc.phase, .int .i64 y35.gc.pos, .int .i64 y35.gc.round, .slice a38 y35.gc.grey.length c39])]) (cs := #[.slice a0_0 x0.label.levels.length c0_0, .slice a0_1 x0.own.length c0_1, .slice a6 y5.1.length c7, .slice a36 y35.arena.length c37, .int .i64 y35.gc.phase, .int .i64 y35.gc.pos, .int .i64 y35.gc.round, .slice a38 y35.gc.grey.length c39, .slice none 0 0, .int .i64 0, .int .i64 0, .int .i64 0, .int .i64 0, .int .i64 0, .int .i64 0, .int .i64 0]) rfl (by kernel_rfl)) rfl ?_
  replace h := obind h
  obtain ⟨y44, hy44, h⟩ := h
  have q := W_s_l13Copy (w0 := w43) hy44 rfl (hS21.rB hr0_0) rfl (hS21.rB hr0_1) rfl (hS21.rI 7 rfl) rfl (hS21.rI 1 rfl) rfl (hS21.rI 2 rfl) rfl (show rdS (α := DTap) (Bor w43 []) w43 none 0 [] from rdS.nil _ _ _ _ (Nat.zero_le _))
  refine LW.call pl92 rfl rfl ?_
  refine Ret.mono q ?_
  rintro _ w57 ⟨a45, c46, a47, c48, a49, c50, a51, c52, a53, c54, a55, c56, rfl, hs⟩
  have hS22 := hS21.add hs
  refine LW.stb hS22 14 rfl ag75 rfl rfl rfl rfl rfl ?_
  intro w58 hS23 hf
  refine LW.p rfl rfl ?_
  refine LW.nil ?_
  show CW _ _ _ _ _ _
  refine CW.fresh (l := [(2, .pointer (some ⟨g3, 0, none⟩)), (3, .bool true)]) ⟨rfl, rfl, trivial⟩ (fun e => ?_)
  refine CW.ret ?_
  cases h
  exact And.intro trivial ⟨_, Res.two (resOne.b hS23 14 rfl ag75 rfl rfl) (resOne.t rfl), a45, c46, a47, c48, a49, c50, a51, c52, a53, c54, a55, c56, rfl, hS23.pick [0, 1, 2, 3, 4, 5] rfl rfl⟩

theorem W_i_TreeNew {w0 : World} {N : Nat} {x0 : DAmt} {r : (List DRes) × Bool} (h : F_i_TreeNew N x0 = some r) :
    Ret Try.prog 109 #[.agg #[.int .i64 x0.pages, .int .i64 x0.rent, .int .i64 x0.cpu]] w0 (fun v w => ∃ ar0 cr0, v = .tuple #[.slice ar0 r.1.length cr0, .bool r.2] ∧ St w0 [] w [sl ar0 cr0 r.1]) := by
  unfold F_i_TreeNew at h
  refine Ret.of Try.func109 rfl rfl rfl ?_
  have hS1 := St.start w0
  refine CW.seq ?_
  refine CW.region ?_
  refine LW.box (cs := [.int .i64 x0.pages, .int .i64 x0.rent, .int .i64 x0.cpu]) rfl hS1 rfl ?_
  intro g1 w2 hS2 hf
  iterate 2 refine LW.p rfl rfl ?_
  refine LW.nil ?_
  show CW _ _ _ _ _ _
  refine CW.seq ?_
  refine CW.region ?_
  replace h := obind h
  obtain ⟨y3, hy3, h⟩ := h
  refine LW.mk sT67 rfl rfl hy3 hS2 rfl ?_
  intro a4 c5 w6 hS3 hf
  refine LW.p rfl rfl ?_
  refine LW.nil ?_
  show CW _ _ _ _ _ _
  refine CW.seq ?_
  refine CW.region ?_
  refine LW.p rfl rfl ?_
  refine LW.ldbN hS3 1 rfl ag73 rfl rfl rfl ?_
  refine LW.u (Pur.build (vs := [(0, .bool true), (1, .int .i64 (-1)), (2, .agg #[.int .i64 x0.pages, .int .i64 x0.rent, .int .i64 x0.cpu])]) (cs := #[.bool true, .int .i64 (-1), .int .i64 x0.pages, .int .i64 x0.rent, .int .i64 x0.cpu]) rfl (by kernel_rfl)) rfl ?_
  replace h := obind h
  obtain ⟨y7, hy7, h⟩ := h
  obtain ⟨b10, o11, hae, hp8, hq9⟩ := hS3.ownIdx (α := DRes) (i := 0) rfl hy7
  subst hae
  refine LW.u (Pur.ix Try.underlying67 sz156 rfl rfl hp8 hq9) rfl ?_
  replace h := obind h
  obtain ⟨y12, hy12, h⟩ := h
  refine LW.stE (M := []) (L := [sl (some ⟨b10, o11, none⟩) c5 y3, bx g1 73 [.int .i64 x0.pages, .int .i64 x0.rent, .int .i64 x0.cpu]]) (z := y7) (z' := (DRes.mk true (-1) x0)) (o := 0) hS3 (i := 0) rfl hy7 ag156 rfl (by show _ = o11 + (0 : Int).toNat * 5 + 0; omega) rfl rfl rfl rfl (whole (fun w G hG => by cases (show G = [] from hG); exact ⟨rfl, rfl⟩)) ?_
  intro w13 hS4 hf
  rw [Option.some.inj hy12] at hS4
  refine LW.nil ?_
  show CW _ _ _ _ _ _
  refine CW.seq ?_
  refine CW.seq ?_
  refine CW.region ?_
  refine LW.p rfl rfl ?_
  replace h := obind h
  obtain ⟨y14, hy14, h⟩ := h
  have q := W_i_TreeOk (w0 := w13) hy14 (show y3.length = y12.length from (len_set (Option.some.inj hy12))) (hS4.rI 0 rfl)
  refine LW.call pl151 rfl rfl ?_
  refine Ret.mono q ?_
  rintro _ w15 ⟨rfl, hs⟩
  have hS5 := hS4.add hs
  refine LW.p rfl rfl ?_
  refine LW.nil ?_
  show CW _ _ _ _ _ _
  refine CW.fresh (l := [(4, .slice (some ⟨b10, o11, none⟩) y3.length c5), (12, .bool (!y14))]) ⟨rfl, rfl, trivial⟩ (fun e => ?_)
  refine CW.cond rfl (fun hc16 => ?_) (fun hc16 => ?_)
  · replace h := bcT h hc16
    refine CW.seq ?_
    refine CW.region ?_
    iterate 2 refine LW.p rfl rfl ?_
    refine LW.nil ?_
    show CW _ _ _ _ _ _
    refine CW.ret ?_
    cases h
    have hS6 := hS5.nil (α := DRes)
    exact And.intro trivial ⟨_, Res.two (resOne.t rfl) (resOne.t rfl), none, 0, rfl, hS6.pick [0] rfl rfl⟩
  replace h := bcF h hc16
  refine CW.skip ?_
  show CW _ _ _ _ _ _
  refine CW.seq ?_
  refine CW.region ?_
  iterate 3 refine LW.p rfl rfl ?_
  refine LW.nil ?_
  show CW _ _ _ _ _ _
  refine CW.ret ?_
  replace h := Option.some.inj h
  subst h
  exact And.intro trivial ⟨_, Res.two (resOne.t rfl) (resOne.t rfl), (some ⟨b10, o11, none⟩), c5, (show (.tuple #[.slice (some ⟨b10, o11, none⟩) y3.length c5, .bool true] : Value) = .tuple #[.slice (some ⟨b10, o11, none⟩) y12.length c5, .bool true] by rw [show y3.length = y12.length from (len_set (Option.some.inj hy12))]), hS5.pick [0] rfl rfl⟩

theorem W_i_ArenaNew {w0 : World} {N : Nat} {r : (List DObj)} (h : F_i_ArenaNew N = some r) :
    Ret Try.prog 113 #[] w0 (fun v w => ∃ ar0 cr0, v = .slice ar0 r.length cr0 ∧ St w0 [] w [sl ar0 cr0 r]) := by
  unfold F_i_ArenaNew at h
  refine Ret.of Try.func113 rfl rfl rfl ?_
  have hS1 := St.start w0
  refine CW.seq ?_
  refine CW.region ?_
  refine LW.p rfl rfl ?_
  refine LW.nil ?_
  show CW _ _ _ _ _ _
  refine CW.seq ?_
  refine CW.region ?_
  replace h := obind h
  obtain ⟨y1, hy1, h⟩ := h
  refine LW.mk sT68 rfl rfl hy1 hS1 rfl ?_
  intro a2 c3 w4 hS2 hf
  refine LW.p rfl rfl ?_
  refine LW.nil ?_
  show CW _ _ _ _ _ _
  refine CW.seq ?_
  refine CW.region ?_
  refine LW.p rfl rfl ?_
  refine LW.bsl (α := Int) (vs := [(0, .int .i64 (-1)), (1, .int .i64 (-1))]) (cs := #[.int .i64 (-1), .int .i64 (-1)]) (l := ([-1, -1] : List Int)) rfl (by kernel_rfl) rfl rfl rfl (fun w => ⟨[.int .i64 (-1)], [.int .i64 (-1)], [], [], rfl, rfl, ⟨rfl, rfl⟩, ⟨[.int .i64 (-1)], [], [], [], rfl, rfl, ⟨rfl, rfl⟩, rfl⟩⟩) hS2 rfl ?_
  intro a5 c6 w7 hS3 hf
  refine LW.u (Pur.build (vs := [(1, .int .i64 1), (2, .int .i64 (-1)), (4, .int .i64 1000000), (10, .slice a5 (([-1, -1] : List Int).length) c6)]) (cs := #[.int .i64 0, .int .i64 1, .int .i64 (-1), .int .i64 0, .int .i64 1000000, .int .i64 0, .int .i64 0, .int .i64 0, .int .i64 0, .bool false, .slice a5 (([-1, -1] : List Int).length) c6, .slice none 0 0, .slice none 0 0]) rfl (by kernel_rfl)) rfl ?_
  replace h := obind h
  obtain ⟨y8, hy8, h⟩ := h
  obtain ⟨b11, o12, hae, hp9, hq10⟩ := hS3.ownIdx (α := DObj) (i := 1) rfl hy8
  subst hae
  refine LW.u (Pur.ix Try.underlying68 sz123 rfl rfl hp9 hq10) rfl ?_
  have hS4 := hS3.nil (α := Int)
  have hS5 := hS4.nil (α := DMsg)
  have hS6 := hS5.pick (M := [sl a5 c6 ([-1, -1] : List Int), sl none 0 [], sl none 0 []] ++ [sl (some ⟨b11, o12, none⟩) c3 y1]) [2, 1, 0, 3] rfl rfl
  replace h := obind h
  obtain ⟨y13, hy13, h⟩ := h
  refine LW.stE (M := [sl a5 c6 ([-1, -1] : List Int), sl none 0 [], sl none 0 []]) (L := [sl (some ⟨b11, o12, none⟩) c3 y1]) (z := y8) (z' := (DObj.mk 0 1 (-1) 0 1000000 0 0 0 0 false ([-1, -1] : List Int) [] [])) (o := 0) hS6 (i := 0) rfl hy8 ag123 rfl (by show _ = o12 + (0 : Int).toNat * 13 + 0; omega) rfl rfl rfl rfl (whole (fun w G hG => ⟨a5, c6, none, 0, none, 0, rfl, hG⟩)) ?_
  intro w14 hS7 hf
  rw [Option.some.inj hy13] at hS7
  refine LW.nil ?_
  show CW _ _ _ _ _ _
  refine CW.seq ?_
  refine CW.region ?_
  iterate 2 refine LW.p rfl rfl ?_
  refine LW.nil ?_
  show CW _ _ _ _ _ _
  refine CW.ret ?_
  replace h := Option.some.inj h
  subst h
  exact And.intro trivial ⟨_, Res.one (resOne.t rfl), (some ⟨b11, o12, none⟩), c3, (show (.slice (some ⟨b11, o12, none⟩) y1.length c3 : Value) = .slice (some ⟨b11, o12, none⟩) y13.length c3 by rw [show y1.length = y13.length from (len_set (Option.some.inj hy13))]), hS7.pick [0] rfl rfl⟩

theorem W_i_ArenaPut {w0 : World} {N : Nat} {x0 : List DObj} {x1 : DObj} {r : (List DObj) × Int} (h : F_i_ArenaPut N x0 x1 = some r) {a0_0 : Option Addr} {n0_0 c0_0 : Nat} (hn0_0 : n0_0 = x0.length) (hr0_0 : rdS (Bor w0 []) w0 a0_0 c0_0 x0) {a1_10 : Option Addr} {n1_10 c1_10 : Nat} (hn1_10 : n1_10 = x1.links.length) (hr1_10 : rdS (Bor w0 []) w0 a1_10 c1_10 x1.links) {a1_11 : Option Addr} {n1_11 c1_11 : Nat} (hn1_11 : n1_11 = x1.data.length) (hr1_11 : rdS (Bor w0 []) w0 a1_11 c1_11 x1.data) {a1_12 : Option Addr} {n1_12 c1_12 : Nat} (hn1_12 : n1_12 = x1.queue.length) (hr1_12 : rdS (Bor w0 []) w0 a1_12 c1_12 x1.queue) :
    Ret Try.prog 112 #[.slice a0_0 n0_0 c0_0, .agg #[.int .i64 x1.gen, .int .i64 x1.kind, .int .i64 x1.box, .int .i64 x1.res, .int .i64 x1.til, .int .i64 x1.pages, .int .i64 x1.wait, .int .i64 x1.got, .int .i64 x1.ran, .bool x1.mark, .slice a1_10 n1_10 c1_10, .slice a1_11 n1_11 c1_11, .slice a1_12 n1_12 c1_12]] w0 (fun v w => ∃ ar0 cr0, v = .tuple #[.slice ar0 r.1.length cr0, .int .i64 r.2] ∧ St w0 [] w [sl ar0 cr0 r.1]) := by
  subst hn0_0
  subst hn1_10
  subst hn1_11
  subst hn1_12
  unfold F_i_ArenaPut at h
  refine Ret.of Try.func112 rfl rfl rfl ?_
  have hS1 := St.start w0
  refine CW.seq ?_
  refine CW.region ?_
  refine LW.box (cs := [.int .i64 x1.gen, .int .i64 x1.kind, .int .i64 x1.box, .int .i64 x1.res, .int .i64 x1.til, .int .i64 x1.pages, .int .i64 x1.wait, .int .i64 x1.got, .int .i64 x1.ran, .bool x1.mark, .slice a1_10 x1.links.length c1_10, .slice a1_11 x1.data.length c1_11, .slice a1_12 x1.queue.length c1_12]) rfl hS1 rfl ?_
  intro g1 w2 hS2 hf
  iterate 2 refine LW.p rfl rfl ?_
  refine LW.nil ?_
  show CW _ _ _ _ _ _
  refine CW.seq ?_
  refine CW.region ?_
  refine LW.p rfl rfl ?_
  replace h := obind h
  obtain ⟨y3, hy3, h⟩ := h
  have q := W_i_copyArena (w0 := w2) hy3 rfl (hS2.rB hr0_0)
  refine LW.call pl167 rfl rfl ?_
  refine Ret.mono q ?_
  rintro _ w6 ⟨a4, c5, rfl, hs⟩
  have hS3 := hS2.add hs
  refine LW.p rfl rfl ?_
  refine LW.nil ?_
  show CW _ _ _ _ _ _
  refine CW.seq ?_
  refine CW.seq ?_
  obtain ⟨j7, hj7, h8⟩ := obind h
  refine CW.cut (fun e wb => En e [(0, .slice a0_0 x0.length c0_0), (3, .pointer (some ⟨g1, 0, none⟩)), (6, .slice a4 y3.length c5), (19, .bool j7)] ∧ St w0 [] wb [sl a4 c5 y3, bx g1 123 [.int .i64 x1.gen, .int .i64 x1.kind, .int .i64 x1.box, .int .i64 x1.res, .int .i64 x1.til, .int .i64 x1.pages, .int .i64 x1.wait, .int .i64 x1.got, .int .i64 x1.ran, .bool x1.mark, .slice a1_10 x1.links.length c1_10, .slice a1_11 x1.data.length c1_11, .slice a1_12 x1.queue.length c1_12]]) ?_ ?_
  · have h := hj7
    refine CW.region ?_
    refine LW.p rfl rfl ?_
    replace h := obind h
    obtain ⟨y9, hy9, h⟩ := h
    have q := W_i_ArenaOk (w0 := w6) hy9 rfl (hS3.rB hr0_0)
    refine LW.call pl168 rfl rfl ?_
    refine Ret.mono q ?_
    rintro _ w10 ⟨rfl, hs⟩
    have hS4 := hS3.add hs
    iterate 2 refine LW.p rfl rfl ?_
    rcases bcases (!y9) with hc11 | hc11
    · replace h := bcT h hc11
      refine LW.gN (want_not rfl rfl hc11) rfl ?_
      refine LW.gN (want_not rfl rfl hc11) rfl ?_
      refine LW.gN (want_not rfl rfl hc11) rfl ?_
      refine LW.u (Pur.pickT rfl hc11) rfl ?_
      refine LW.nil ?_
      replace h := Option.some.inj h
      subst h
      exact ⟨⟨rfl, rfl, rfl, rfl, trivial⟩, hS4.pick [0, 1] rfl rfl⟩
    replace h := bcF h hc11
    refine LW.gY (want_of rfl rfl hc11) ?_
    refine LW.u (Pur.fa fo123_1 rfl) rfl ?_
    refine LW.gY (want_of rfl rfl hc11) ?_
    refine LW.ldb hS4 1 rfl ag3 rfl rfl rfl ?_
    refine LW.gY (want_of rfl rfl hc11) ?_
    refine LW.p rfl rfl ?_
    refine LW.u (Pur.pickF rfl hc11) rfl ?_
    refine LW.nil ?_
    replace h := Option.some.inj h
    subst h
    exact ⟨⟨rfl, rfl, rfl, rfl, trivial⟩, hS4.pick [0, 1] rfl rfl⟩
  intro e w12 hM
  obtain ⟨hE, hS5⟩ := hM
  obtain ⟨e, rfl⟩ := hE.out
  have h := h8
  show CW _ _ _ _ _ _
  refine CW.cond rfl (fun hc13 => ?_) (fun hc13 => ?_)
  · replace h := bcT h hc13
    refine CW.seq ?_
    refine CW.region ?_
    iterate 3 refine LW.p rfl rfl ?_
    refine LW.nil ?_
    show CW _ _ _ _ _ _
    refine CW.ret ?_
    cases h
    exact And.intro trivial ⟨_, Res.two (resOne.t rfl) (resOne.t rfl), a4, c5, rfl, hS5.pick [0] rfl rfl⟩
  replace h := bcF h hc13
  refine CW.skip ?_
  show CW _ _ _ _ _ _
  refine CW.seq ?_
  refine CW.seq ?_
  refine CW.region ?_
  refine LW.p rfl rfl ?_
  refine LW.u (Pur.len Try.underlying68 rfl) rfl ?_
  refine LW.p rfl rfl ?_
  refine LW.nil ?_
  show CW _ _ _ _ _ _
  refine CW.block ?_
  obtain ⟨o73, ho73, h74⟩ := obind h
  refine CW.mono (CW.iter (σ := Int) (ρ := Int ⊕ ((List DObj) × Int)) (fun s14 e wb => En e [(0, .slice a0_0 x0.length c0_0), (3, .pointer (some ⟨g1, 0, none⟩)), (6, .slice a4 y3.length c5), (21, .slice a0_0 x0.length c0_0), (22, .int .i64 (x0.length : Int)), (23, .int .i64 s14)] ∧ St w0 [] wb [sl a4 c5 y3, bx g1 123 [.int .i64 x1.gen, .int .i64 x1.kind, .int .i64 x1.box, .int .i64 x1.res, .int .i64 x1.til, .int .i64 x1.pages, .int .i64 x1.wait, .int .i64 x1.got, .int .i64 x1.ran, .bool x1.mark, .slice a1_10 x1.links.length c1_10, .slice a1_11 x1.data.length c1_11, .slice a1_12 x1.queue.length c1_12]]) (fun o x e wb => match o with | .inl s14 => x = .exit 0 ∧ En e [(6, .slice a4 y3.length c5)] ∧ St w0 [] wb [sl a4 c5 y3, bx g1 123 [.int .i64 x1.gen, .int .i64 x1.kind, .int .i64 x1.box, .int .i64 x1.res, .int .i64 x1.til, .int .i64 x1.pages, .int .i64 x1.wait, .int .i64 x1.got, .int .i64 x1.ran, .bool x1.mark, .slice a1_10 x1.links.length c1_10, .slice a1_11 x1.data.length c1_11, .slice a1_12 x1.queue.length c1_12]] | .inr r => x = .ret ∧ ∃ u, u = r ∧ ∃ v, Res Try.prog Try.f112.results e wb v ∧ ∃ ar0 cr0, v = .tuple #[.slice ar0 u.1.length cr0, .int .i64 u.2] ∧ St w0 [] wb [sl ar0 cr0 u.1]) ?_ N 0 _ _ _ ⟨⟨rfl, rfl, rfl, rfl, rfl, rfl, trivial⟩, hS5.pick [0, 1] rfl rfl⟩ ho73) ?_
  · intro s14 e w15 o hM h
    obtain ⟨hE, hS6⟩ := hM
    obtain ⟨e, rfl⟩ := hE.out
    refine CW.seq ?_
    refine CW.region ?_
    refine LW.p rfl rfl ?_
    refine LW.nil ?_
    show CW _ _ _ _ _ _
    refine CW.seq ?_
    refine CW.cond rfl (fun hc16 => ?_) (fun hc16 => ?_)
    · replace h := bcT h hc16
      refine CW.skip ?_
      show CW _ _ _ _ _ _
      refine CW.seq ?_
      refine CW.block ?_
      refine CW.seq ?_
      refine CW.region ?_
      refine LW.p rfl rfl ?_
      replace h := obind h
      obtain ⟨y17, hy17, h⟩ := h
      obtain ⟨b20, o21, cs22, hae, hb25, hp18, hq19, hd23, hk24⟩ := hr0_0.idx hy17
      subst hae
      obtain ⟨a26, c27, a29, c30, a32, c33, rfl, hr28, hr31, hr34⟩ := hd23
      refine LW.u (Pur.ix Try.underlying68 sz123 rfl rfl hp18 hq19) rfl ?_
      refine LW.l (Ldr.oldN w0 ag123 rfl rfl (fun j u hu => hk24 j u hu)) (hS6.same _ hb25.1 hb25.2) rfl ?_
      refine LW.alloc zv123 hS6 rfl ?_
      intro g35 w36 hS7 hf
      refine LW.p rfl rfl ?_
      refine LW.stb hS7 0 rfl ag123 rfl rfl rfl rfl rfl ?_
      intro w37 hS8 hf
      refine LW.nil ?_
      show CW _ _ _ _ _ _
      refine CW.fresh (l := [(0, .slice (some ⟨b20, o21, none⟩) x0.length c0_0), (3, .pointer (some ⟨g1, 0, none⟩)), (6, .slice a4 y3.length c5), (7, .int .i64 s14), (8, .pointer (some ⟨g35, 0, none⟩)), (21, .slice (some ⟨b20, o21, none⟩) x0.length c0_0), (22, .int .i64 (x0.length : Int)), (23, .int .i64 s14)]) ⟨rfl, rfl, rfl, rfl, rfl, rfl, rfl, rfl, trivial⟩ (fun e => ?_)
      refine CW.seq ?_
      refine CW.seq ?_
      obtain ⟨j38, hj38, h39⟩ := obind h
      refine CW.cut (fun e wb => En e [(0, .slice (some ⟨b20, o21, none⟩) x0.length c0_0), (3, .pointer (some ⟨g1, 0, none⟩)), (6, .slice a4 y3.length c5), (7, .int .i64 s14), (8, .pointer (some ⟨g35, 0, none⟩)), (21, .slice (some ⟨b20, o21, none⟩) x0.length c0_0), (22, .int .i64 (x0.length : Int)), (23, .int .i64 s14), (39, .bool j38)] ∧ St w0 [] wb [bx g35 123 [.int .i64 y17.gen, .int .i64 y17.kind, .int .i64 y17.box, .int .i64 y17.res, .int .i64 y17.til, .int .i64 y17.pages, .int .i64 y17.wait, .int .i64 y17.got, .int .i64 y17.ran, .bool y17.mark, .slice a26 y17.links.length c27, .slice a29 y17.data.length c30, .slice a32 y17.queue.length c33], sl a4 c5 y3, bx g1 123 [.int .i64 x1.gen, .int .i64 x1.kind, .int .i64 x1.box, .int .i64 x1.res, .int .i64 x1.til, .int .i64 x1.pages, .int .i64 x1.wait, .int .i64 x1.got, .int .i64 x1.ran, .bool x1.mark, .slice a1_10 x1.links.length c1_10, .slice a1_11 x1.data.length c1_11, .slice a1_12 x1.queue.length c1_12]]) ?_ ?_
      · have h := hj38
        refine CW.region ?_
        iterate 3 refine LW.p rfl rfl ?_
        rcases bcases (s14 == 0) with hc40 | hc40
        · replace h := bcT h hc40
          refine LW.gN (want_not rfl rfl hc40) rfl ?_
          refine LW.gN (want_not rfl rfl hc40) rfl ?_
          refine LW.gN (want_not rfl rfl hc40) rfl ?_
          refine LW.u (Pur.pickT rfl hc40) rfl ?_
          refine LW.p rfl rfl ?_
          refine LW.gN (want_not rfl rfl rfl) rfl ?_
          refine LW.gN (want_not rfl rfl rfl) rfl ?_
          refine LW.gN (want_not rfl rfl rfl) rfl ?_
          refine LW.u (Pur.pickT rfl rfl) rfl ?_
          refine LW.nil ?_
          replace h := Option.some.inj h
          subst h
          exact ⟨⟨rfl, rfl, rfl, rfl, rfl, rfl, rfl, rfl, rfl, trivial⟩, hS8.pick [0, 1, 2] rfl rfl⟩
        replace h := bcF h hc40
        refine LW.gY (want_of rfl rfl hc40) ?_
        refine LW.u (Pur.fa fo123_1 rfl) rfl ?_
        refine LW.gY (want_of rfl rfl hc40) ?_
        refine LW.ldb hS8 0 rfl ag3 rfl rfl rfl ?_
        refine LW.gY (want_of rfl rfl hc40) ?_
        refine LW.p rfl rfl ?_
        refine LW.u (Pur.pickF rfl hc40) rfl ?_
        refine LW.p rfl rfl ?_
        rcases bcases (y17.kind != 0) with hc41 | hc41
        · replace h := bcT h hc41
          refine LW.gN (want_not rfl rfl hc41) rfl ?_
          refine LW.gN (want_not rfl rfl hc41) rfl ?_
          refine LW.gN (want_not rfl rfl hc41) rfl ?_
          refine LW.u (Pur.pickT rfl hc41) rfl ?_
          refine LW.nil ?_
          replace h := Option.some.inj h
          subst h
          exact ⟨⟨rfl, rfl, rfl, rfl, rfl, rfl, rfl, rfl, rfl, trivial⟩, hS8.pick [0, 1, 2] rfl rfl⟩
        replace h := bcF h hc41
        refine LW.gY (want_of rfl rfl hc41) ?_
        refine LW.u (Pur.fa fo123_0 rfl) rfl ?_
        refine LW.gY (want_of rfl rfl hc41) ?_
        refine LW.ldb hS8 0 rfl ag3 rfl rfl rfl ?_
        refine LW.gY (want_of rfl rfl hc41) ?_
        refine LW.p rfl rfl ?_
        refine LW.u (Pur.pickF rfl hc41) rfl ?_
        refine LW.nil ?_
        replace h := Option.some.inj h
        subst h
        exact ⟨⟨rfl, rfl, rfl, rfl, rfl, rfl, rfl, rfl, rfl, trivial⟩, hS8.pick [0, 1, 2] rfl rfl⟩
      intro e w42 hM
      obtain ⟨hE, hS9⟩ := hM
      obtain ⟨e, rfl⟩ := hE.out
      have h := h39
      show CW _ _ _ _ _ _
      refine CW.cond rfl (fun hc43 => ?_) (fun hc43 => ?_)
      · replace h := bcT h hc43
        refine CW.exit ?_
        show CW _ _ _ _ _ _
        refine CW.region ?_
        iterate 2 refine LW.p rfl rfl ?_
        refine LW.nil ?_
        replace h := Option.some.inj h
        subst h
        exact ⟨rfl, ⟨⟨rfl, rfl, rfl, rfl, rfl, rfl, trivial⟩, hS9.pick [1, 2] rfl rfl⟩⟩
      replace h := bcF h hc43
      refine CW.skip ?_
      show CW _ _ _ _ _ _
      refine CW.seq ?_
      refine CW.region ?_
      refine LW.p rfl rfl ?_
      replace h := obind h
      obtain ⟨y44, hy44, h⟩ := h
      have q := W_i_copyArena (w0 := w42) hy44 rfl (hS9.rB hr0_0)
      refine LW.call pl167 rfl rfl ?_
      refine Ret.mono q ?_
      rintro _ w47 ⟨a45, c46, rfl, hs⟩
      have hS10 := hS9.add hs
      refine LW.p rfl rfl ?_
      refine LW.nil ?_
      show CW _ _ _ _ _ _
      refine CW.seq ?_
      refine CW.region ?_
      iterate 2 refine LW.p rfl rfl ?_
      refine LW.ldbN hS10 3 rfl ag123 rfl rfl rfl ?_
      replace h := obind h
      obtain ⟨y48, hy48, h⟩ := h
      have q := W_i_copyObj (w0 := w47) hy48 rfl (hS10.rB hr1_10) rfl (hS10.rB hr1_11) rfl (hS10.rB hr1_12)
      refine LW.call pl169 rfl rfl ?_
      refine Ret.mono q ?_
      rintro _ w55 ⟨a49, c50, a51, c52, a53, c54, rfl, hs⟩
      have hS11 := hS10.add hs
      replace h := obind h
      obtain ⟨y56, hy56, h⟩ := h
      obtain ⟨b59, o60, hae, hp57, hq58⟩ := hS11.ownIdx (α := DObj) (i := 3) rfl hy56
      subst hae
      refine LW.u (Pur.ix Try.underlying68 sz123 rfl rfl hp57 hq58) rfl ?_
      have hS12 := hS11.pick (M := [sl a49 c50 y48.links, sl a51 c52 y48.data, sl a53 c54 y48.queue] ++ [sl (some ⟨b59, o60, none⟩) c46 y44, bx g35 123 [.int .i64 y17.gen, .int .i64 y17.kind, .int .i64 y17.box, .int .i64 y17.res, .int .i64 y17.til, .int .i64 y17.pages, .int .i64 y17.wait, .int .i64 y17.got, .int .i64 y17.ran, .bool y17.mark, .slice a26 y17.links.length c27, .slice a29 y17.data.length c30, .slice a32 y17.queue.length c33], sl a4 c5 y3, bx g1 123 [.int .i64 x1.gen, .int .i64 x1.kind, .int .i64 x1.box, .int .i64 x1.res, .int .i64 x1.til, .int .i64 x1.pages, .int .i64 x1.wait, .int .i64 x1.got, .int .i64 x1.ran, .bool x1.mark, .slice a1_10 x1.links.length c1_10, .slice a1_11 x1.data.length c1_11, .slice a1_12 x1.queue.length c1_12]]) [0, 1, 2, 3, 4, 5, 6] rfl rfl
      replace h := obind h
      obtain ⟨y61, hy61, h⟩ := h
      refine LW.stE (M := [sl a49 c50 y48.links, sl a51 c52 y48.data, sl a53 c54 y48.queue]) (L := [sl (some ⟨b59, o60, none⟩) c46 y44, bx g35 123 [.int .i64 y17.gen, .int .i64 y17.kind, .int .i64 y17.box, .int .i64 y17.res, .int .i64 y17.til, .int .i64 y17.pages, .int .i64 y17.wait, .int .i64 y17.got, .int .i64 y17.ran, .bool y17.mark, .slice a26 y17.links.length c27, .slice a29 y17.data.length c30, .slice a32 y17.queue.length c33], sl a4 c5 y3, bx g1 123 [.int .i64 x1.gen, .int .i64 x1.kind, .int .i64 x1.box, .int .i64 x1.res, .int .i64 x1.til, .int .i64 x1.pages, .int .i64 x1.wait, .int .i64 x1.got, .int .i64 x1.ran, .bool x1.mark, .slice a1_10 x1.links.length c1_10, .slice a1_11 x1.data.length c1_11, .slice a1_12 x1.queue.length c1_12]]) (z := y56) (z' := y48) (o := 0) hS12 (i := 0) rfl hy56 ag123 rfl (by show _ = o60 + (s14 : Int).toNat * 13 + 0; omega) rfl rfl rfl rfl (whole (fun w G hG => ⟨a49, c50, a51, c52, a53, c54, rfl, hG⟩)) ?_
      intro w62 hS13 hf
      rw [Option.some.inj hy61] at hS13
      refine LW.nil ?_
      show CW _ _ _ _ _ _
      refine CW.seq ?_
      refine CW.region ?_
      iterate 2 refine LW.p rfl rfl ?_
      refine LW.u (Pur.fa fo123_0 rfl) rfl ?_
      refine LW.ldb hS13 1 rfl ag3 rfl rfl rfl ?_
      refine LW.p rfl rfl ?_
      replace h := obind h
      obtain ⟨y63, hy63, h⟩ := h
      obtain ⟨b66, o67, hae, hp64, hq65⟩ := hS13.ownIdx (α := DObj) (i := 0) rfl hy63
      cases hae
      refine LW.u (Pur.ix Try.underlying68 sz123 rfl rfl hp64 (by rw [show y44.length = y61.length from (len_set (Option.some.inj hy61))]; exact hq65)) rfl ?_
      refine LW.u (Pur.fa fo123_0 rfl) rfl ?_
      replace h := obind h
      obtain ⟨y68, hy68, h⟩ := h
      refine LW.stE (M := []) (L := [sl (some ⟨b59, o60, none⟩) c46 y61, bx g35 123 [.int .i64 y17.gen, .int .i64 y17.kind, .int .i64 y17.box, .int .i64 y17.res, .int .i64 y17.til, .int .i64 y17.pages, .int .i64 y17.wait, .int .i64 y17.got, .int .i64 y17.ran, .bool y17.mark, .slice a26 y17.links.length c27, .slice a29 y17.data.length c30, .slice a32 y17.queue.length c33], sl a4 c5 y3, bx g1 123 [.int .i64 x1.gen, .int .i64 x1.kind, .int .i64 x1.box, .int .i64 x1.res, .int .i64 x1.til, .int .i64 x1.pages, .int .i64 x1.wait, .int .i64 x1.got, .int .i64 x1.ran, .bool x1.mark, .slice a1_10 x1.links.length c1_10, .slice a1_11 x1.data.length c1_11, .slice a1_12 x1.queue.length c1_12]]) (z := y63) (z' := (DObj.mk (IntKind.i64.wrap (y17.gen + 1)) y63.kind y63.box y63.res y63.til y63.pages y63.wait y63.got y63.ran y63.mark y63.links y63.data y63.queue)) (o := 0) hS13 (i := 0) rfl hy63 ag3 rfl (by show _ = o60 + (s14 : Int).toNat * 13 + 0; omega) rfl rfl rfl rfl (leafF (fun w cs F hF => by obtain ⟨q0, r0, q1, r1, q2, r2, rfl, hH⟩ := hF; exact ⟨q0, r0, q1, r1, q2, r2, rfl, hH⟩)) ?_
      intro w69 hS14 hf
      rw [Option.some.inj hy68] at hS14
      refine LW.nil ?_
      show CW _ _ _ _ _ _
      refine CW.fresh (l := [(6, .slice a4 y3.length c5), (7, .int .i64 s14), (9, .slice (some ⟨b59, o60, none⟩) y44.length c46)]) ⟨rfl, rfl, rfl, trivial⟩ (fun e => ?_)
      refine CW.seq ?_
      refine CW.seq ?_
      refine CW.region ?_
      refine LW.p rfl rfl ?_
      replace h := obind h
      obtain ⟨y70, hy70, h⟩ := h
      have q := W_i_ArenaOk (w0 := w69) hy70 (show y44.length = y68.length from ((len_set (Option.some.inj hy61)).trans (len_set (Option.some.inj hy68)))) (hS14.rI 0 rfl)
      refine LW.call pl168 rfl rfl ?_
      refine Ret.mono q ?_
      rintro _ w71 ⟨rfl, hs⟩
      have hS15 := hS14.add hs
      refine LW.p rfl rfl ?_
      refine LW.nil ?_
      show CW _ _ _ _ _ _
      refine CW.cond rfl (fun hc72 => ?_) (fun hc72 => ?_)
      · replace h := bcT h hc72
        refine CW.seq ?_
        refine CW.region ?_
        iterate 3 refine LW.p rfl rfl ?_
        refine LW.nil ?_
        show CW _ _ _ _ _ _
        refine CW.ret ?_
        replace h := Option.some.inj h
        subst h
        exact ⟨trivial, rfl, _, rfl, ⟨_, Res.two (resOne.t rfl) (resOne.t rfl), a4, c5, rfl, hS15.pick [2] rfl rfl⟩⟩
      replace h := bcF h hc72
      refine CW.skip ?_
      show CW _ _ _ _ _ _
      refine CW.seq ?_
      refine CW.region ?_
      iterate 4 refine LW.p rfl rfl ?_
      refine LW.nil ?_
      show CW _ _ _ _ _ _
      refine CW.ret ?_
      replace h := Option.some.inj h
      subst h
      exact ⟨trivial, rfl, _, rfl, ⟨_, Res.two (resOne.t rfl) (resOne.t rfl), (some ⟨b59, o60, none⟩), c46, (show (.tuple #[.slice (some ⟨b59, o60, none⟩) y44.length c46, .int .i64 s14] : Value) = .tuple #[.slice (some ⟨b59, o60, none⟩) y68.length c46, .int .i64 s14] by rw [show y44.length = y68.length from ((len_set (Option.some.inj hy61)).trans (len_set (Option.some.inj hy68)))]), hS15.pick [0] rfl rfl⟩⟩
    replace h := bcF h hc16
    refine CW.exit ?_
    replace h := Option.some.inj h
    subst h
    exact ⟨trivial, rfl, ⟨⟨rfl, trivial⟩, hS6.pick [0, 1] rfl rfl⟩⟩
  intro x e w75 hM
  rcases o73 with o73 | r76
  · obtain ⟨rfl, hM⟩ := hM
    obtain ⟨hE, hS16⟩ := hM
    obtain ⟨e, rfl⟩ := hE.out
    have h := h74
    show CW _ _ _ _ _ _
    refine CW.seq ?_
    refine CW.region ?_
    iterate 3 refine LW.p rfl rfl ?_
    refine LW.nil ?_
    show CW _ _ _ _ _ _
    refine CW.ret ?_
    cases h
    exact And.intro trivial ⟨_, Res.two (resOne.t rfl) (resOne.t rfl), a4, c5, rfl, hS16.pick [0] rfl rfl⟩
  obtain ⟨rfl, u, rfl, hM⟩ := hM
  cases h74
  exact And.intro trivial hM

theorem W_i_GcNew {w0 : World} {N : Nat} {r : DGc} (h : F_i_GcNew N = some r) :
    Ret Try.prog 117 #[] w0 (fun v w => ∃ ar0_3 cr0_3, v = .agg #[.int .i64 r.phase, .int .i64 r.pos, .int .i64 r.round, .slice ar0_3 r.grey.length cr0_3] ∧ St w0 [] w [sl ar0_3 cr0_3 r.grey]) := by
  unfold F_i_GcNew at h
  refine Ret.of Try.func117 rfl rfl rfl ?_
  have hS1 := St.start w0
  refine CW.seq ?_
  refine CW.region ?_
  refine LW.alloc zv69 hS1 rfl ?_
  intro g1 w2 hS2 hf
  refine LW.nil ?_
  show CW _ _ _ _ _ _
  refine CW.seq ?_
  refine CW.region ?_
  refine LW.bsl (α := Int) (vs := [(0, .int .i64 0)]) (cs := #[.int .i64 0]) (l := ([0] : List Int)) rfl (by kernel_rfl) rfl rfl rfl (fun w => ⟨[.int .i64 0], [], [], [], rfl, rfl, ⟨rfl, rfl⟩, rfl⟩) hS2 rfl ?_
  intro a3 c4 w5 hS3 hf
  refine LW.u (Pur.build (vs := [(3, .slice a3 (([0] : List Int).length) c4)]) (cs := #[.int .i64 0, .int .i64 0, .int .i64 0, .slice a3 (([0] : List Int).length) c4]) rfl (by kernel_rfl)) rfl ?_
  refine LW.stb hS3 1 rfl ag69 rfl rfl rfl rfl rfl ?_
  intro w6 hS4 hf
  refine LW.nil ?_
  show CW _ _ _ _ _ _
  refine CW.ret ?_
  cases h
  exact And.intro trivial ⟨_, Res.one (resOne.b hS4 1 rfl ag69 rfl rfl), a3, c4, rfl, hS4.pick [0] rfl rfl⟩

theorem W_i_GcBorn {w0 : World} {N : Nat} {x0 : DHeap} {x1 : Int} {r : DHeap} (h : F_i_GcBorn N x0 x1 = some r) {a0_0 : Option Addr} {n0_0 c0_0 : Nat} (hn0_0 : n0_0 = x0.arena.length) (hr0_0 : rdS (Bor w0 []) w0 a0_0 c0_0 x0.arena) {a0_4 : Option Addr} {n0_4 c0_4 : Nat} (hn0_4 : n0_4 = x0.gc.grey.length) (hr0_4 : rdS (Bor w0 []) w0 a0_4 c0_4 x0.gc.grey) :
    Ret Try.prog 116 #[.agg #[.slice a0_0 n0_0 c0_0, .int .i64 x0.gc.phase, .int .i64 x0.gc.pos, .int .i64 x0.gc.round, .slice a0_4 n0_4 c0_4], .int .i64 x1] w0 (fun v w => ∃ ar0_0 cr0_0, ∃ ar0_4 cr0_4, v = .agg #[.slice ar0_0 r.arena.length cr0_0, .int .i64 r.gc.phase, .int .i64 r.gc.pos, .int .i64 r.gc.round, .slice ar0_4 r.gc.grey.length cr0_4] ∧ St w0 [] w [sl ar0_0 cr0_0 r.arena, sl ar0_4 cr0_4 r.gc.grey]) := by
  subst hn0_0
  subst hn0_4
  unfold F_i_GcBorn at h
  refine Ret.of Try.func116 rfl rfl rfl ?_
  have hS1 := St.start w0
  refine CW.seq ?_
  refine CW.region ?_
  refine LW.box (cs := [.slice a0_0 x0.arena.length c0_0, .int .i64 x0.gc.phase, .int .i64 x0.gc.pos, .int .i64 x0.gc.round, .slice a0_4 x0.gc.grey.length c0_4]) rfl hS1 rfl ?_
  intro g1 w2 hS2 hf
  refine LW.alloc zv71 hS2 rfl ?_
  intro g3 w4 hS3 hf
  refine LW.nil ?_
  show CW _ _ _ _ _ _
  refine CW.seq ?_
  refine CW.region ?_
  refine LW.ldbN hS3 1 rfl ag71 rfl rfl rfl ?_
  replace h := obind h
  obtain ⟨y5, hy5, h⟩ := h
  have q := W_i_copyHeap (w0 := w4) hy5 rfl (hS3.rB hr0_0) rfl (hS3.rB hr0_4)
  refine LW.call pl161 rfl rfl ?_
  refine Ret.mono q ?_
  rintro _ w10 ⟨a6, c7, a8, c9, rfl, hs⟩
  have hS4 := hS3.add hs
  refine LW.alloc zv71 hS4 rfl ?_
  intro g11 w12 hS5 hf
  refine LW.stb hS5 0 rfl ag71 rfl rfl rfl rfl rfl ?_
  intro w13 hS6 hf
  refine LW.nil ?_
  show CW _ _ _ _ _ _
  refine CW.seq ?_
  refine CW.seq ?_
  obtain ⟨j14, hj14, h15⟩ := obind h
  refine CW.cut (fun e wb => En e [(1, .int .i64 x1), (2, .pointer (some ⟨g1, 0, none⟩)), (4, .pointer (some ⟨g3, 0, none⟩)), (5, .pointer (some ⟨g11, 0, none⟩)), (22, .bool j14)] ∧ St w0 [] wb [bx g11 71 [.slice a6 y5.arena.length c7, .int .i64 y5.gc.phase, .int .i64 y5.gc.pos, .int .i64 y5.gc.round, .slice a8 y5.gc.grey.length c9], sl a6 c7 y5.arena, sl a8 c9 y5.gc.grey, bx g3 71 [.slice none 0 0, .int .i64 0, .int .i64 0, .int .i64 0, .slice none 0 0], bx g1 71 [.slice a0_0 x0.arena.length c0_0, .int .i64 x0.gc.phase, .int .i64 x0.gc.pos, .int .i64 x0.gc.round, .slice a0_4 x0.gc.grey.length c0_4]]) ?_ ?_
  · have h := hj14
    refine CW.region ?_
    refine LW.ldbN hS6 4 rfl ag71 rfl rfl rfl ?_
    replace h := obind h
    obtain ⟨y16, hy16, h⟩ := h
    have q := W_i_HeapOk (w0 := w13) hy16 rfl (hS6.rB hr0_0) rfl (hS6.rB hr0_4)
    refine LW.call pl152 rfl rfl ?_
    refine Ret.mono q ?_
    rintro _ w17 ⟨rfl, hs⟩
    have hS7 := hS6.add hs
    refine LW.p rfl rfl ?_
    rcases bcases y16 with hc18 | hc18
    · replace h := bcT h hc18
      refine LW.gY (want_of rfl rfl hc18) ?_
      refine LW.p rfl rfl ?_
      replace h := obind h
      obtain ⟨y19, hy19, h⟩ := h
      have q := W_i_isSlot (w0 := w17) hy19
      refine LW.gY (want_of rfl rfl hc18) ?_
      refine LW.call pl153 rfl rfl ?_
      refine Ret.mono q ?_
      rintro _ w20 ⟨rfl, hs⟩
      have hS8 := hS7.add hs
      refine LW.u (Pur.pickT rfl hc18) rfl ?_
      refine LW.p rfl rfl ?_
      rcases bcases y19 with hc21 | hc21
      · replace h := bcT h hc21
        refine LW.gY (want_of rfl rfl hc21) ?_
        refine LW.u (Pur.fa fo71_0 rfl) rfl ?_
        refine LW.gY (want_of rfl rfl hc21) ?_
        refine LW.ldb hS8 4 rfl ag68 rfl rfl rfl ?_
        refine LW.gY (want_of rfl rfl hc21) ?_
        refine LW.p rfl rfl ?_
        replace h := obind h
        obtain ⟨y22, hy22, h⟩ := h
        obtain ⟨b25, o26, cs27, hae, hb30, hp23, hq24, hd28, hk29⟩ := hr0_0.idx hy22
        subst hae
        obtain ⟨a31, c32, a34, c35, a37, c38, rfl, hr33, hr36, hr39⟩ := hd28
        refine LW.gY (want_of rfl rfl hc21) ?_
        refine LW.u (Pur.ix Try.underlying68 sz123 rfl rfl hp23 hq24) rfl ?_
        refine LW.gY (want_of rfl rfl hc21) ?_
        refine LW.u (Pur.fa fo123_1 rfl) rfl ?_
        refine LW.gY (want_of rfl rfl hc21) ?_
        refine LW.l (Ldr.old w0 ag3 rfl (hk29 1 _ rfl)) (hS8.same _ hb30.1 hb30.2) rfl ?_
        refine LW.gY (want_of rfl rfl hc21) ?_
        refine LW.p rfl rfl ?_
        refine LW.u (Pur.pickT rfl hc21) rfl ?_
        refine LW.nil ?_
        replace h := Option.some.inj h
        subst h
        exact ⟨⟨rfl, rfl, rfl, rfl, rfl, trivial⟩, hS8.pick [0, 1, 2, 3, 4] rfl rfl⟩
      replace h := bcF h hc21
      refine LW.gN (want_not rfl rfl hc21) rfl ?_
      refine LW.gN (want_not rfl rfl hc21) rfl ?_
      refine LW.gN (want_not rfl rfl hc21) rfl ?_
      refine LW.gN (want_not rfl rfl hc21) rfl ?_
      refine LW.gN (want_not rfl rfl hc21) rfl ?_
      refine LW.gN (want_not rfl rfl hc21) rfl ?_
      refine LW.gN (want_not rfl rfl hc21) rfl ?_
      refine LW.u (Pur.pickF rfl hc21) rfl ?_
      refine LW.nil ?_
      replace h := Option.some.inj h
      subst h
      exact ⟨⟨rfl, rfl, rfl, rfl, rfl, trivial⟩, hS8.pick [0, 1, 2, 3, 4] rfl rfl⟩
    replace h := bcF h hc18
    refine LW.gN (want_not rfl rfl hc18) rfl ?_
    refine LW.gN (want_not rfl rfl hc18) rfl ?_
    refine LW.u (Pur.pickF rfl hc18) rfl ?_
    refine LW.p rfl rfl ?_
    refine LW.gN (want_not rfl rfl rfl) rfl ?_
    refine LW.gN (want_not rfl rfl rfl) rfl ?_
    refine LW.gN (want_not rfl rfl rfl) rfl ?_
    refine LW.gN (want_not rfl rfl rfl) rfl ?_
    refine LW.gN (want_not rfl rfl rfl) rfl ?_
    refine LW.gN (want_not rfl rfl rfl) rfl ?_
    refine LW.gN (want_not rfl rfl rfl) rfl ?_
    refine LW.u (Pur.pickF rfl rfl) rfl ?_
    refine LW.nil ?_
    replace h := Option.some.inj h
    subst h
    exact ⟨⟨rfl, rfl, rfl, rfl, rfl, trivial⟩, hS7.pick [0, 1, 2, 3, 4] rfl rfl⟩
  intro e w40 hM
  obtain ⟨hE, hS9⟩ := hM
  obtain ⟨e, rfl⟩ := hE.out
  have h := h15
  show CW _ _ _ _ _ _
  obtain ⟨j41, hj41, h42⟩ := obind h
  refine CW.cut (fun e wb => En e [(4, .pointer (some ⟨g3, 0, none⟩)), (5, .pointer (some ⟨g11, 0, none⟩))] ∧ St w0 [] wb [bx g11 71 [.slice a6 j41.length c7, .int .i64 y5.gc.phase, .int .i64 y5.gc.pos, .int .i64 y5.gc.round, .slice a8 y5.gc.grey.length c9], sl a6 c7 j41, sl a8 c9 y5.gc.grey, bx g3 71 [.slice none 0 0, .int .i64 0, .int .i64 0, .int .i64 0, .slice none 0 0]]) ?_ ?_
  · have h := hj41
    refine CW.cond rfl (fun hc43 => ?_) (fun hc43 => ?_)
    · replace h := bcT h hc43
      refine CW.region ?_
      refine LW.u (Pur.fa fo71_0 rfl) rfl ?_
      refine LW.ldb hS9 0 rfl ag68 rfl rfl rfl ?_
      refine LW.p rfl rfl ?_
      refine LW.u (Pur.fa fo71_1 rfl) rfl ?_
      refine LW.u (Pur.fa fo69_0 rfl) rfl ?_
      refine LW.ldb hS9 4 rfl ag3 rfl rfl rfl ?_
      iterate 2 refine LW.p rfl rfl ?_
      rcases bcases (x0.gc.phase == 0) with hc44 | hc44
      · replace h := bcT h hc44
        refine LW.gN (want_not rfl rfl hc44) rfl ?_
        refine LW.gN (want_not rfl rfl hc44) rfl ?_
        refine LW.gN (want_not rfl rfl hc44) rfl ?_
        refine LW.gN (want_not rfl rfl hc44) rfl ?_
        refine LW.gN (want_not rfl rfl hc44) rfl ?_
        refine LW.u (Pur.pickT rfl hc44) rfl ?_
        replace h := obind h
        obtain ⟨y45, hy45, h⟩ := h
        obtain ⟨b48, o49, hae, hp46, hq47⟩ := hS9.ownIdx (α := DObj) (i := 1) rfl hy45
        subst hae
        refine LW.u (Pur.ix Try.underlying68 sz123 rfl rfl hp46 hq47) rfl ?_
        refine LW.u (Pur.fa fo123_9 rfl) rfl ?_
        replace h := obind h
        obtain ⟨y50, hy50, h⟩ := h
        refine LW.stE (M := []) (L := [bx g11 71 [.slice (some ⟨b48, o49, none⟩) y5.arena.length c7, .int .i64 y5.gc.phase, .int .i64 y5.gc.pos, .int .i64 y5.gc.round, .slice a8 y5.gc.grey.length c9], sl (some ⟨b48, o49, none⟩) c7 y5.arena, sl a8 c9 y5.gc.grey, bx g3 71 [.slice none 0 0, .int .i64 0, .int .i64 0, .int .i64 0, .slice none 0 0], bx g1 71 [.slice a0_0 x0.arena.length c0_0, .int .i64 x0.gc.phase, .int .i64 x0.gc.pos, .int .i64 x0.gc.round, .slice a0_4 x0.gc.grey.length c0_4]]) (z := y45) (z' := (DObj.mk y45.gen y45.kind y45.box y45.res y45.til y45.pages y45.wait y45.got y45.ran true y45.links y45.data y45.queue)) (o := 9) hS9 (i := 1) rfl hy45 ag4 rfl (by show _ = o49 + (x1 : Int).toNat * 13 + 9; omega) rfl rfl rfl rfl (leafF (fun w cs F hF => by obtain ⟨q0, r0, q1, r1, q2, r2, rfl, hH⟩ := hF; exact ⟨q0, r0, q1, r1, q2, r2, rfl, hH⟩)) ?_
        intro w51 hS10 hf
        rw [Option.some.inj hy50] at hS10
        refine LW.nil ?_
        replace h := Option.some.inj h
        subst h
        rw [show y5.arena.length = y50.length from (len_set (Option.some.inj hy50))] at hS10
        exact ⟨⟨rfl, rfl, trivial⟩, hS10.pick [0, 1, 2, 3] rfl rfl⟩
      replace h := bcF h hc44
      refine LW.gY (want_of rfl rfl hc44) ?_
      refine LW.p rfl rfl ?_
      refine LW.gY (want_of rfl rfl hc44) ?_
      refine LW.u (Pur.fa fo71_1 rfl) rfl ?_
      refine LW.gY (want_of rfl rfl hc44) ?_
      refine LW.u (Pur.fa fo69_1 rfl) rfl ?_
      refine LW.gY (want_of rfl rfl hc44) ?_
      refine LW.ldb hS9 4 rfl ag3 rfl rfl rfl ?_
      refine LW.gY (want_of rfl rfl hc44) ?_
      refine LW.p rfl rfl ?_
      refine LW.u (Pur.pickF rfl hc44) rfl ?_
      replace h := obind h
      obtain ⟨y52, hy52, h⟩ := h
      obtain ⟨b55, o56, hae, hp53, hq54⟩ := hS9.ownIdx (α := DObj) (i := 1) rfl hy52
      subst hae
      refine LW.u (Pur.ix Try.underlying68 sz123 rfl rfl hp53 hq54) rfl ?_
      refine LW.u (Pur.fa fo123_9 rfl) rfl ?_
      replace h := obind h
      obtain ⟨y57, hy57, h⟩ := h
      refine LW.stE (M := []) (L := [bx g11 71 [.slice (some ⟨b55, o56, none⟩) y5.arena.length c7, .int .i64 y5.gc.phase, .int .i64 y5.gc.pos, .int .i64 y5.gc.round, .slice a8 y5.gc.grey.length c9], sl (some ⟨b55, o56, none⟩) c7 y5.arena, sl a8 c9 y5.gc.grey, bx g3 71 [.slice none 0 0, .int .i64 0, .int .i64 0, .int .i64 0, .slice none 0 0], bx g1 71 [.slice a0_0 x0.arena.length c0_0, .int .i64 x0.gc.phase, .int .i64 x0.gc.pos, .int .i64 x0.gc.round, .slice a0_4 x0.gc.grey.length c0_4]]) (z := y52) (z' := (DObj.mk y52.gen y52.kind y52.box y52.res y52.til y52.pages y52.wait y52.got y52.ran (decide (x1 ≥ x0.gc.pos)) y52.links y52.data y52.queue)) (o := 9) hS9 (i := 1) rfl hy52 ag4 rfl (by show _ = o56 + (x1 : Int).toNat * 13 + 9; omega) rfl rfl rfl rfl (leafF (fun w cs F hF => by obtain ⟨q0, r0, q1, r1, q2, r2, rfl, hH⟩ := hF; exact ⟨q0, r0, q1, r1, q2, r2, rfl, hH⟩)) ?_
      intro w58 hS11 hf
      rw [Option.some.inj hy57] at hS11
      refine LW.nil ?_
      replace h := Option.some.inj h
      subst h
      rw [show y5.arena.length = y57.length from (len_set (Option.some.inj hy57))] at hS11
      exact ⟨⟨rfl, rfl, trivial⟩, hS11.pick [0, 1, 2, 3] rfl rfl⟩
    replace h := bcF h hc43
    refine CW.skip ?_
    replace h := Option.some.inj h
    subst h
    exact ⟨⟨rfl, rfl, trivial⟩, hS9.pick [0, 1, 2, 3] rfl rfl⟩
  intro e w59 hM
  obtain ⟨hE, hS12⟩ := hM
  obtain ⟨e, rfl⟩ := hE.out
  have h := h42
  show CW _ _ _ _ _ _
  refine CW.seq ?_
  refine CW.region ?_
  refine LW.ldbN hS12 0 rfl ag71 rfl rfl rfl ?_
  refine LW.stb hS12 3 rfl ag71 rfl rfl rfl rfl rfl ?_
  intro w60 hS13 hf
  refine LW.nil ?_
  show CW _ _ _ _ _ _
  refine CW.ret ?_
  cases h
  exact And.intro trivial ⟨_, Res.one (resOne.b hS13 3 rfl ag71 rfl rfl), a6, c7, a8, c9, rfl, hS13.pick [1, 2] rfl rfl⟩

theorem W_i_PartNew {w0 : World} {N : Nat} {x0 : DBoot} {r : DPart × Bool} (h : F_i_PartNew N x0 = some r) {a0_0 : Option Addr} {n0_0 c0_0 : Nat} (hn0_0 : n0_0 = x0.label.levels.length) (hr0_0 : rdS (Bor w0 []) w0 a0_0 c0_0 x0.label.levels) {a0_1 : Option Addr} {n0_1 c0_1 : Nat} (hn0_1 : n0_1 = x0.own.length) (hr0_1 : rdS (Bor w0 []) w0 a0_1 c0_1 x0.own) :
    Ret Try.prog 49 #[.agg #[.slice a0_0 n0_0 c0_0, .slice a0_1 n0_1 c0_1, .int .i64 x0.amt.pages, .int .i64 x0.amt.rent, .int .i64 x0.amt.cpu]] w0 (fun v w => ∃ ar0_0 cr0_0, ∃ ar0_1 cr0_1, ∃ ar0_2 cr0_2, ∃ ar0_3 cr0_3, ∃ ar0_7 cr0_7, ∃ ar0_8 cr0_8, v = .tuple #[.agg #[.slice ar0_0 r.1.label.levels.length cr0_0, .slice ar0_1 r.1.own.length cr0_1, .slice ar0_2 r.1.tree.length cr0_2, .slice ar0_3 r.1.heap.arena.length cr0_3, .int .i64 r.1.heap.gc.phase, .int .i64 r.1.heap.gc.pos, .int .i64 r.1.heap.gc.round, .slice ar0_7 r.1.heap.gc.grey.length cr0_7, .slice ar0_8 r.1.taps.length cr0_8, .int .i64 r.1.next, .int .i64 r.1.want, .int .i64 r.1.spent.pages, .int .i64 r.1.spent.rent, .int .i64 r.1.spent.cpu, .int .i64 r.1.press, .int .i64 r.1.lost], .bool r.2] ∧ St w0 [] w [sl ar0_0 cr0_0 r.1.label.levels, sl ar0_1 cr0_1 r.1.own, sl ar0_2 cr0_2 r.1.tree, sl ar0_3 cr0_3 r.1.heap.arena, sl ar0_7 cr0_7 r.1.heap.gc.grey, sl ar0_8 cr0_8 r.1.taps]) := by
  subst hn0_0
  subst hn0_1
  unfold F_i_PartNew at h
  refine Ret.of Try.func49 rfl rfl rfl ?_
  have hS1 := St.start w0
  refine CW.seq ?_
  refine CW.region ?_
  refine LW.box (cs := [.slice a0_0 x0.label.levels.length c0_0, .slice a0_1 x0.own.length c0_1, .int .i64 x0.amt.pages, .int .i64 x0.amt.rent, .int .i64 x0.amt.cpu]) rfl hS1 rfl ?_
  intro g1 w2 hS2 hf
  refine LW.alloc zv75 hS2 rfl ?_
  intro g3 w4 hS3 hf
  refine LW.p rfl rfl ?_
  refine LW.nil ?_
  show CW _ _ _ _ _ _
  refine CW.seq ?_
  refine CW.region ?_
  refine LW.u (Pur.fa fo94_2 rfl) rfl ?_
  refine LW.ldbN hS3 1 rfl ag73 rfl rfl rfl ?_
  replace h := obind h
  obtain ⟨y5, hy5, h⟩ := h
  have q := W_i_TreeNew (w0 := w4) hy5
  refine LW.call pl109 rfl rfl ?_
  refine Ret.mono q ?_
  rintro _ w8 ⟨a6, c7, rfl, hs⟩
  have hS4 := hS3.add hs
  iterate 5 refine LW.p rfl rfl ?_
  refine LW.nil ?_
  show CW _ _ _ _ _ _
  refine CW.seq ?_
  refine CW.seq ?_
  obtain ⟨j9, hj9, h10⟩ := obind h
  refine CW.cut (fun e wb => En e [(1, .pointer (some ⟨g1, 0, none⟩)), (2, .pointer (some ⟨g3, 0, none⟩)), (4, .slice a6 y5.1.length c7), (28, .bool j9)] ∧ St w0 [] wb [sl a6 c7 y5.1, bx g3 75 [.slice none 0 0, .slice none 0 0, .slice none 0 0, .slice none 0 0, .int .i64 0, .int .i64 0, .int .i64 0, .slice none 0 0, .slice none 0 0, .int .i64 0, .int .i64 0, .int .i64 0, .int .i64 0, .int .i64 0, .int .i64 0, .int .i64 0], bx g1 94 [.slice a0_0 x0.label.levels.length c0_0, .slice a0_1 x0.own.length c0_1, .int .i64 x0.amt.pages, .int .i64 x0.amt.rent, .int .i64 x0.amt.cpu]]) ?_ ?_
  · have h := hj9
    refine CW.region ?_
    iterate 3 refine LW.p rfl rfl ?_
    rcases bcases (!y5.2) with hc11 | hc11
    · replace h := bcT h hc11
      refine LW.gN (want_not rfl rfl hc11) rfl ?_
      refine LW.gN (want_not rfl rfl hc11) rfl ?_
      refine LW.gN (want_not rfl rfl hc11) rfl ?_
      refine LW.gN (want_not rfl rfl hc11) rfl ?_
      refine LW.u (Pur.pickT rfl hc11) rfl ?_
      refine LW.p rfl rfl ?_
      refine LW.gN (want_not rfl rfl rfl) rfl ?_
      refine LW.gN (want_not rfl rfl rfl) rfl ?_
      refine LW.gN (want_not rfl rfl rfl) rfl ?_
      refine LW.gN (want_not rfl rfl rfl) rfl ?_
      refine LW.fresh (l := [(1, .pointer (some ⟨g1, 0, none⟩)), (2, .pointer (some ⟨g3, 0, none⟩)), (4, .slice a6 y5.1.length c7), (23, .bool true), (27, undef)]) ⟨rfl, rfl, rfl, rfl, rfl, trivial⟩ (fun e => ?_)
      refine LW.u (Pur.pickT rfl rfl) rfl ?_
      refine LW.nil ?_
      replace h := Option.some.inj h
      subst h
      exact ⟨⟨rfl, rfl, rfl, rfl, trivial⟩, hS4.pick [0, 1, 2] rfl rfl⟩
    replace h := bcF h hc11
    refine LW.gY (want_of rfl rfl hc11) ?_
    refine LW.u (Pur.fa fo94_0 rfl) rfl ?_
    refine LW.gY (want_of rfl rfl hc11) ?_
    refine LW.ldbN hS4 2 rfl ag35 rfl rfl rfl ?_
    replace h := obind h
    obtain ⟨y12, hy12, h⟩ := h
    have q := W_i_LabelOk (w0 := w8) hy12 rfl (hS4.rB hr0_0)
    refine LW.gY (want_of rfl rfl hc11) ?_
    refine LW.call pl110 rfl rfl ?_
    refine Ret.mono q ?_
    rintro _ w13 ⟨rfl, hs⟩
    have hS5 := hS4.add hs
    refine LW.gY (want_of rfl rfl hc11) ?_
    refine LW.p rfl rfl ?_
    refine LW.u (Pur.pickF rfl hc11) rfl ?_
    refine LW.p rfl rfl ?_
    rcases bcases (!y12) with hc14 | hc14
    · replace h := bcT h hc14
      refine LW.gN (want_not rfl rfl hc14) rfl ?_
      refine LW.gN (want_not rfl rfl hc14) rfl ?_
      refine LW.gN (want_not rfl rfl hc14) rfl ?_
      refine LW.fresh (l := [(1, .pointer (some ⟨g1, 0, none⟩)), (2, .pointer (some ⟨g3, 0, none⟩)), (4, .slice a6 y5.1.length c7), (23, .bool (!y12)), (26, undef)]) ⟨rfl, rfl, rfl, rfl, rfl, trivial⟩ (fun e => ?_)
      refine LW.gN (want_not rfl rfl hc14) rfl ?_
      refine LW.u (Pur.pickT rfl hc14) rfl ?_
      refine LW.nil ?_
      replace h := Option.some.inj h
      subst h
      exact ⟨⟨rfl, rfl, rfl, rfl, trivial⟩, hS5.pick [0, 1, 2] rfl rfl⟩
    replace h := bcF h hc14
    refine LW.gY (want_of rfl rfl hc14) ?_
    refine LW.u (Pur.fa fo94_1 rfl) rfl ?_
    refine LW.gY (want_of rfl rfl hc14) ?_
    refine LW.ldb hS5 2 rfl ag24 rfl rfl rfl ?_
    replace h := obind h
    obtain ⟨y15, hy15, h⟩ := h
    have q := W_i_OwnOk (w0 := w13) hy15 rfl (hS5.rB hr0_1)
    refine LW.gY (want_of rfl rfl hc14) ?_
    refine LW.call pl111 rfl rfl ?_
    refine Ret.mono q ?_
    rintro _ w16 ⟨rfl, hs⟩
    have hS6 := hS5.add hs
    refine LW.fresh (l := [(1, .pointer (some ⟨g1, 0, none⟩)), (2, .pointer (some ⟨g3, 0, none⟩)), (4, .slice a6 y5.1.length c7), (23, .bool (!y12)), (26, .bool y15)]) ⟨rfl, rfl, rfl, rfl, rfl, trivial⟩ (fun e => ?_)
    refine LW.gY (want_of rfl rfl hc14) ?_
    refine LW.p rfl rfl ?_
    refine LW.u (Pur.pickF rfl hc14) rfl ?_
    refine LW.nil ?_
    replace h := Option.some.inj h
    subst h
    exact ⟨⟨rfl, rfl, rfl, rfl, trivial⟩, hS6.pick [0, 1, 2] rfl rfl⟩
  intro e w17 hM
  obtain ⟨hE, hS7⟩ := hM
  obtain ⟨e, rfl⟩ := hE.out
  have h := h10
  show CW _ _ _ _ _ _
  refine CW.cond rfl (fun hc18 => ?_) (fun hc18 => ?_)
  · replace h := bcT h hc18
    refine CW.seq ?_
    refine CW.region ?_
    refine LW.u (Pur.build (vs := []) (cs := #[.slice none 0 0, .slice none 0 0, .slice none 0 0, .slice none 0 0, .int .i64 0, .int .i64 0, .int .i64 0, .slice none 0 0, .slice none 0 0, .int .i64 0, .int .i64 0, .int .i64 0, .int .i64 0, .int .i64 0, .int .i64 0, .int .i64 0]) rfl (by kernel_rfl)) rfl ?_
    refine LW.stb hS7 1 rfl ag75 rfl rfl rfl rfl rfl ?_
    intro w19 hS8 hf
    refine LW.p rfl rfl ?_
    refine LW.nil ?_
    show CW _ _ _ _ _ _
    refine CW.fresh (l := [(2, .pointer (some ⟨g3, 0, none⟩)), (3, .bool false)]) ⟨rfl, rfl, trivial⟩ (fun e => ?_)
    refine CW.ret ?_
    cases h
    have hS9 := hS8.nil (α := Int)
    have hS10 := hS9.nil (α := Int)
    have hS11 := hS10.nil (α := DRes)
    have hS12 := hS11.nil (α := DObj)
    have hS13 := hS12.nil (α := Int)
    have hS14 := hS13.nil (α := DTap)
    exact And.intro trivial ⟨_, Res.two (resOne.b hS14 7 rfl ag75 rfl rfl) (resOne.t rfl), none, 0, none, 0, none, 0, none, 0, none, 0, none, 0, rfl, hS14.pick [5, 4, 3, 2, 1, 0] rfl rfl⟩
  replace h := bcF h hc18
  refine CW.skip ?_
  show CW _ _ _ _ _ _
  refine CW.seq ?_
  refine CW.region ?_
  replace h := obind h
  obtain ⟨y20, hy20, h⟩ := h
  have q := W_i_ArenaNew (w0 := w17) hy20
  refine LW.call pl113 rfl rfl ?_
  refine Ret.mono q ?_
  rintro _ w23 ⟨a21, c22, rfl, hs⟩
  have hS15 := hS7.add hs
  refine LW.bsl (α := Int) (vs := [(0, .int .i64 (-1)), (1, .int .i64 (-1))]) (cs := #[.int .i64 (-1), .int .i64 (-1)]) (l := ([-1, -1] : List Int)) rfl (by kernel_rfl) rfl rfl rfl (fun w => ⟨[.int .i64 (-1)], [.int .i64 (-1)], [], [], rfl, rfl, ⟨rfl, rfl⟩, ⟨[.int .i64 (-1)], [], [], [], rfl, rfl, ⟨rfl, rfl⟩, rfl⟩⟩) hS15 rfl ?_
  intro a24 c25 w26 hS16 hf
  refine LW.u (Pur.build (vs := [(1, .int .i64 4), (4, .int .i64 1000000), (10, .slice a24 (([-1, -1] : List Int).length) c25)]) (cs := #[.int .i64 0, .int .i64 4, .int .i64 0, .int .i64 0, .int .i64 1000000, .int .i64 0, .int .i64 0, .int .i64 0, .int .i64 0, .bool false, .slice a24 (([-1, -1] : List Int).length) c25, .slice none 0 0, .slice none 0 0]) rfl (by kernel_rfl)) rfl ?_
  replace h := obind h
  obtain ⟨y27, hy27, h⟩ := h
  have q := W_i_ArenaPut (w0 := w26) hy27 rfl (hS16.rI 1 rfl) rfl (hS16.rI 0 rfl) rfl (show rdS (α := Int) (Bor w26 []) w26 none 0 [] from rdS.nil _ _ _ _ (Nat.zero_le _)) rfl (show rdS (α := DMsg) (Bor w26 []) w26 none 0 [] from rdS.nil _ _ _ _ (Nat.zero_le _))
  refine LW.call pl112 rfl rfl ?_
  refine Ret.mono q ?_
  rintro _ w30 ⟨a28, c29, rfl, hs⟩
  have hS17 := hS16.add hs
  iterate 5 refine LW.p rfl rfl ?_
  refine LW.nil ?_
  show CW _ _ _ _ _ _
  refine CW.fresh (l := [(1, .pointer (some ⟨g1, 0, none⟩)), (2, .pointer (some ⟨g3, 0, none⟩)), (4, .slice a6 y5.1.length c7), (6, .slice a28 y27.1.length c29), (7, .int .i64 y27.2)]) ⟨rfl, rfl, rfl, rfl, rfl, trivial⟩ (fun e => ?_)
  refine CW.seq ?_
  obtain ⟨j31, hj31, h32⟩ := obind h
  refine CW.cut (fun e wb => ∃ (j31g8 : Nat), ∃ (j31a1 : Option Addr), ∃ (j31c1 : Nat), ∃ (j31a3 : Option Addr), ∃ (j31c3 : Nat), ∃ (j31a5 : Option Addr), ∃ (j31c5 : Nat), ∃ (j31a7 : Option Addr), ∃ (j31c7 : Nat), ∃ (j31a9 : Option Addr), ∃ (j31c9 : Nat), ∃ (j31a11 : Option Addr), ∃ (j31c11 : Nat), En e [(2, .pointer (some ⟨g3, 0, none⟩)), (6, .slice a28 y27.1.length c29), (7, .int .i64 y27.2), (8, .pointer (some ⟨j31g8, 0, none⟩))] ∧ St w0 [] wb [sl a28 c29 y27.1, bx g3 75 [.slice none 0 0, .slice none 0 0, .slice none 0 0, .slice none 0 0, .int .i64 0, .int .i64 0, .int .i64 0, .slice none 0 0, .slice none 0 0, .int .i64 0, .int .i64 0, .int .i64 0, .int .i64 0, .int .i64 0, .int .i64 0, .int .i64 0], bx j31g8 75 [.slice j31a1 j31.1.length j31c1, .slice j31a3 j31.2.1.length j31c3, .slice j31a5 j31.2.2.1.length j31c5, .slice j31a7 j31.2.2.2.1.length j31c7, .int .i64 0, .int .i64 0, .int .i64 0, .slice j31a9 j31.2.2.2.2.1.length j31c9, .slice j31a11 j31.2.2.2.2.2.length j31c11, .int .i64 0, .int .i64 0, .int .i64 0, .int .i64 0, .int .i64 0, .int .i64 0, .int .i64 0], sl j31a1 j31c1 j31.1, sl j31a3 j31c3 j31.2.1, sl j31a5 j31c5 j31.2.2.1, sl j31a7 j31c7 j31.2.2.2.1, sl j31a9 j31c9 j31.2.2.2.2.1, sl j31a11 j31c11 j31.2.2.2.2.2]) ?_ ?_
  · have h := hj31
    refine CW.draw (by kernel_rfl) ?_
    have hS18 := hS17.drew
    refine AW.u (i := 0) rfl (by kernel_rfl) rfl rfl (Pur.fa fo94_0 rfl) ?_
    refine AW.take (i := 1) rfl (by kernel_rfl) rfl rfl (Ldr.boxN (bt := 94) (fr := (0, 0)) (cs := [.slice a0_0 x0.label.levels.length c0_0, .slice a0_1 x0.own.length c0_1, .int .i64 x0.amt.pages, .int .i64 x0.amt.rent, .int .i64 x0.amt.cpu]) ag35 rfl rfl) (St.cell (h := hS18) (i := 5) rfl) ?_
    refine AW.u (i := 3) rfl (by kernel_rfl) rfl rfl (Pur.fa fo94_1 rfl) ?_
    refine AW.take (i := 4) rfl (by kernel_rfl) rfl rfl (Ldr.box (bt := 94) (fr := (0, 0)) (cs := [.slice a0_0 x0.label.levels.length c0_0, .slice a0_1 x0.own.length c0_1, .int .i64 x0.amt.pages, .int .i64 x0.amt.rent, .int .i64 x0.amt.cpu]) ag24 rfl rfl) (St.cell (h := hS18) (i := 5) rfl) ?_
    refine AW.u (i := 6) rfl (by kernel_rfl) rfl rfl (Pur.p rfl) ?_
    replace h := obind h
    obtain ⟨y33, hy33, h⟩ := h
    refine AW.all (rs := [2, 8]) (by kernel_rfl) (by simp) ⟨?_, ?_, trivial⟩
    · have q := W_i_copyLabel (w0 := w30.drew) hy33 rfl (hS18.rB hr0_0)
      refine ⟨_, rfl, ?_⟩
      refine LW.call pl114 rfl rfl ?_
      refine Ret.mono q ?_
      rintro _ w44 ⟨a42, c43, rfl, hs⟩
      have hS19 := hS18.add hs
      refine LW.nil ⟨rfl, (.c (St.cell (h := hS19) (i := 6) rfl) (.w (by kernel_rfl) Kept.n)), ?_⟩
      replace h := obind h
      obtain ⟨y45, hy45, h⟩ := h
      refine AW.all (rs := [5, 8]) (by kernel_rfl) (by simp) ⟨?_, ?_, trivial⟩
      · have q := W_i_copyInts (w0 := w44) hy45 rfl (hS19.rB hr0_1)
        refine ⟨_, rfl, ?_⟩
        refine LW.call pl115 rfl rfl ?_
        refine Ret.mono q ?_
        rintro _ w56 ⟨a54, c55, rfl, hs⟩
        have hS20 := hS19.add hs
        refine LW.nil ⟨rfl, (.w (by kernel_rfl) (.c (St.cell (h := hS20) (i := 7) rfl) Kept.n)), ?_⟩
        refine AW.u (i := 7) rfl (by kernel_rfl) rfl rfl (Pur.build (vs := [(0, .agg #[.slice a42 y33.levels.length c43]), (1, .slice a54 y45.length c55), (2, .slice a6 y5.1.length c7)]) (cs := #[.slice a42 y33.levels.length c43, .slice a54 y45.length c55, .slice a6 y5.1.length c7, .slice none 0 0, .int .i64 0, .int .i64 0, .int .i64 0, .slice none 0 0, .slice none 0 0, .int .i64 0, .int .i64 0, .int .i64 0, .int .i64 0, .int .i64 0, .int .i64 0, .int .i64 0]) rfl (by kernel_rfl)) ?_
        refine AW.one (i := 8) (by kernel_rfl) ?_
        refine ⟨_, rfl, ?_⟩
        refine LW.alloc zv75 hS20 rfl ?_
        intro g57 w58 hS21 hf
        refine LW.nil ⟨rfl, (.c (St.cell (h := hS21) (i := 8) rfl) (.c (St.cell (h := hS21) (i := 8) rfl) Kept.n)), ?_⟩
        refine AW.one (i := 9) (by kernel_rfl) ?_
        refine ⟨_, rfl, ?_⟩
        refine LW.stb hS21 0 rfl ag75 rfl rfl rfl rfl rfl ?_
        intro w59 hS22 hf
        refine LW.nil ⟨rfl, (.w (by kernel_rfl) (.w (by kernel_rfl) Kept.n)), ?_⟩
        refine AW.done (by kernel_rfl) ?_
        replace h := Option.some.inj h
        subst h
        have hS23 := hS22.nil (α := DObj)
        have hS24 := hS23.nil (α := Int)
        have hS25 := hS24.nil (α := DTap)
        exact ⟨g57, a42, c43, a54, c55, a6, c7, none, 0, none, 0, none, 0, ⟨rfl, rfl, rfl, rfl, trivial⟩, hS25.pick [6, 10, 3, 5, 4, 9, 2, 1, 0] rfl rfl⟩
      refine ⟨_, rfl, ?_⟩
      refine LW.alloc zv75 hS19 rfl ?_
      intro g60 w61 hS26 hf
      refine LW.nil ⟨rfl, (.c (St.cell (h := hS26) (i := 7) rfl) (.c (St.cell (h := hS26) (i := 7) rfl) Kept.n)), ?_⟩
      have q := W_i_copyInts (w0 := w61) hy45 rfl (hS26.rB hr0_1)
      refine AW.one (i := 5) (by kernel_rfl) ?_
      refine ⟨_, rfl, ?_⟩
      refine LW.call pl115 rfl rfl ?_
      refine Ret.mono q ?_
      rintro _ w64 ⟨a62, c63, rfl, hs⟩
      have hS27 := hS26.add hs
      refine LW.nil ⟨rfl, (.w (by kernel_rfl) (.c (St.cell (h := hS27) (i := 8) rfl) Kept.n)), ?_⟩
      refine AW.u (i := 7) rfl (by kernel_rfl) rfl rfl (Pur.build (vs := [(0, .agg #[.slice a42 y33.levels.length c43]), (1, .slice a62 y45.length c63), (2, .slice a6 y5.1.length c7)]) (cs := #[.slice a42 y33.levels.length c43, .slice a62 y45.length c63, .slice a6 y5.1.length c7, .slice none 0 0, .int .i64 0, .int .i64 0, .int .i64 0, .slice none 0 0, .slice none 0 0, .int .i64 0, .int .i64 0, .int .i64 0, .int .i64 0, .int .i64 0, .int .i64 0, .int .i64 0]) rfl (by kernel_rfl)) ?_
      refine AW.one (i := 9) (by kernel_rfl) ?_
      refine ⟨_, rfl, ?_⟩
      refine LW.stb hS27 1 rfl ag75 rfl rfl rfl rfl rfl ?_
      intro w65 hS28 hf
      refine LW.nil ⟨rfl, (.w (by kernel_rfl) (.w (by kernel_rfl) Kept.n)), ?_⟩
      refine AW.done (by kernel_rfl) ?_
      replace h := Option.some.inj h
      subst h
      have hS29 := hS28.nil (α := DObj)
      have hS30 := hS29.nil (α := Int)
      have hS31 := hS30.nil (α := DTap)
      exact ⟨g60, a42, c43, a62, c63, a6, c7, none, 0, none, 0, none, 0, ⟨rfl, rfl, rfl, rfl, trivial⟩, hS31.pick [6, 10, 4, 5, 3, 9, 2, 1, 0] rfl rfl⟩
    refine ⟨_, rfl, ?_⟩
    refine LW.alloc zv75 hS18 rfl ?_
    intro g66 w67 hS32 hf
    refine LW.nil ⟨rfl, (.c (St.cell (h := hS32) (i := 6) rfl) (.c (St.cell (h := hS32) (i := 6) rfl) Kept.n)), ?_⟩
    have q := W_i_copyLabel (w0 := w67) hy33 rfl (hS32.rB hr0_0)
    refine AW.one (i := 2) (by kernel_rfl) ?_
    refine ⟨_, rfl, ?_⟩
    refine LW.call pl114 rfl rfl ?_
    refine Ret.mono q ?_
    rintro _ w70 ⟨a68, c69, rfl, hs⟩
    have hS33 := hS32.add hs
    refine LW.nil ⟨rfl, (.c (St.cell (h := hS33) (i := 7) rfl) (.w (by kernel_rfl) Kept.n)), ?_⟩
    replace h := obind h
    obtain ⟨y71, hy71, h⟩ := h
    have q := W_i_copyInts (w0 := w70) hy71 rfl (hS33.rB hr0_1)
    refine AW.one (i := 5) (by kernel_rfl) ?_
    refine ⟨_, rfl, ?_⟩
    refine LW.call pl115 rfl rfl ?_
    refine Ret.mono q ?_
    rintro _ w74 ⟨a72, c73, rfl, hs⟩
    have hS34 := hS33.add hs
    refine LW.nil ⟨rfl, (.w (by kernel_rfl) (.c (St.cell (h := hS34) (i := 8) rfl) Kept.n)), ?_⟩
    refine AW.u (i := 7) rfl (by kernel_rfl) rfl rfl (Pur.build (vs := [(0, .agg #[.slice a68 y33.levels.length c69]), (1, .slice a72 y71.length c73), (2, .slice a6 y5.1.length c7)]) (cs := #[.slice a68 y33.levels.length c69, .slice a72 y71.length c73, .slice a6 y5.1.length c7, .slice none 0 0, .int .i64 0, .int .i64 0, .int .i64 0, .slice none 0 0, .slice none 0 0, .int .i64 0, .int .i64 0, .int .i64 0, .int .i64 0, .int .i64 0, .int .i64 0, .int .i64 0]) rfl (by kernel_rfl)) ?_
    refine AW.one (i := 9) (by kernel_rfl) ?_
    refine ⟨_, rfl, ?_⟩
    refine LW.stb hS34 2 rfl ag75 rfl rfl rfl rfl rfl ?_
    intro w75 hS35 hf
    refine LW.nil ⟨rfl, (.w (by kernel_rfl) (.w (by kernel_rfl) Kept.n)), ?_⟩
    refine AW.done (by kernel_rfl) ?_
    replace h := Option.some.inj h
    subst h
    have hS36 := hS35.nil (α := DObj)
    have hS37 := hS36.nil (α := Int)
    have hS38 := hS37.nil (α := DTap)
    exact ⟨g66, a68, c69, a72, c73, a6, c7, none, 0, none, 0, none, 0, ⟨rfl, rfl, rfl, rfl, trivial⟩, hS38.pick [6, 10, 5, 4, 3, 9, 2, 1, 0] rfl rfl⟩
  intro e w76 hM
  obtain ⟨j31g8, j31a1, j31c1, j31a3, j31c3, j31a5, j31c5, j31a7, j31c7, j31a9, j31c9, j31a11, j31c11, hE, hS39⟩ := hM
  obtain ⟨e, rfl⟩ := hE.out
  have h := h32
  show CW _ _ _ _ _ _
  refine CW.seq ?_
  refine CW.region ?_
  refine LW.p rfl rfl ?_
  replace h := obind h
  obtain ⟨y77, hy77, h⟩ := h
  have q := W_i_GcNew (w0 := w76) hy77
  refine LW.call pl117 rfl rfl ?_
  refine Ret.mono q ?_
  rintro _ w80 ⟨a78, c79, rfl, hs⟩
  have hS40 := hS39.add hs
  refine LW.u (Pur.build (vs := [(0, .slice a28 y27.1.length c29), (1, .agg #[.int .i64 y77.phase, .int .i64 y77.pos, .int .i64 y77.round, .slice a78 y77.grey.length c79])]) (cs := #[.slice a28 y27.1.length c29, .int .i64 y77.phase, .int .i64 y77.pos, .int .i64 y77.round, .slice a78 y77.grey.length c79]) rfl (by kernel_rfl)) rfl ?_
  refine LW.p rfl rfl ?_
  replace h := obind h
  obtain ⟨y81, hy81, h⟩ := h
  have q := W_i_GcBorn (w0 := w80) hy81 rfl (hS40.rI 1 rfl) rfl (hS40.rI 0 rfl)
  refine LW.call pl116 rfl rfl ?_
  refine Ret.mono q ?_
  rintro _ w86 ⟨a82, c83, a84, c85, rfl, hs⟩
  have hS41 := hS40.add hs
  refine LW.u (Pur.fa fo75_3 rfl) rfl ?_
  refine LW.stb hS41 5 rfl ag71 rfl rfl rfl rfl rfl ?_
  intro w87 hS42 hf
  refine LW.nil ?_
  show CW _ _ _ _ _ _
  refine CW.seq ?_
  refine CW.region ?_
  refine LW.ldbN hS42 5 rfl ag75 rfl rfl rfl ?_
  refine LW.stb hS42 4 rfl ag75 rfl rfl rfl rfl rfl ?_
  intro w88 hS43 hf
  refine LW.p rfl rfl ?_
  refine LW.nil ?_
  show CW _ _ _ _ _ _
  refine CW.ret ?_
  cases h
  exact And.intro trivial ⟨_, Res.two (resOne.b hS43 4 rfl ag75 rfl rfl) (resOne.t rfl), j31a1, j31c1, j31a3, j31c3, j31a5, j31c5, a82, c83, a84, c85, j31a11, j31c11, rfl, hS43.pick [6, 7, 8, 0, 1, 11] rfl rfl⟩

theorem W_l_markPartBoot {w0 : World} {F : List Nat} {N : Nat} {x0 : DBoot} {x1 : Int} {r : Int × (List Int) × (List Int)} (h : F_l_markPartBoot N x0 x1 = some r) {a0_0 : Option Addr} {n0_0 c0_0 : Nat} (hn0_0 : n0_0 = x0.label.levels.length) {a0_1 : Option Addr} {n0_1 c0_1 : Nat} (hn0_1 : n0_1 = x0.own.length) (hS : St w0 F w0 [sl a0_0 c0_0 x0.label.levels, sl a0_1 c0_1 x0.own]) :
    Ret Try.prog 51 #[.agg #[.slice a0_0 n0_0 c0_0, .slice a0_1 n0_1 c0_1, .int .i64 x0.amt.pages, .int .i64 x0.amt.rent, .int .i64 x0.amt.cpu], .int .i64 x1] w0 (fun v w => v = .int .i64 r.1 ∧ St w0 F w [sl a0_0 c0_0 r.2.1, sl a0_1 c0_1 r.2.2]) := by
  subst hn0_0
  subst hn0_1
  unfold F_l_markPartBoot at h
  refine Ret.of Try.func51 rfl rfl rfl ?_
  refine CW.seq ?_
  refine CW.region ?_
  refine LW.box (cs := [.slice a0_0 x0.label.levels.length c0_0, .slice a0_1 x0.own.length c0_1, .int .i64 x0.amt.pages, .int .i64 x0.amt.rent, .int .i64 x0.amt.cpu]) rfl hS rfl ?_
  intro g1 w2 hS1 hf
  refine LW.p rfl rfl ?_
  refine LW.nil ?_
  show CW _ _ _ _ _ _
  refine CW.seq ?_
  refine CW.region ?_
  refine LW.u (Pur.fa fo94_0 rfl) rfl ?_
  refine LW.ldbN hS1 0 rfl ag35 rfl rfl rfl ?_
  refine LW.p rfl rfl ?_
  replace h := obind h
  obtain ⟨y3, hy3, h⟩ := h
  obtain ⟨q6, hy3', hq7⟩ := obind hy3
  obtain ⟨hl8, hq7⟩ := keepL_some hq7
  rw [Option.some.inj hq7] at hy3' hl8
  have hS2 := hS1.pick (M := [sl a0_0 c0_0 x0.label.levels] ++ [bx g1 94 [.slice a0_0 x0.label.levels.length c0_0, .slice a0_1 x0.own.length c0_1, .int .i64 x0.amt.pages, .int .i64 x0.amt.rent, .int .i64 x0.amt.cpu], sl a0_1 c0_1 x0.own]) [1, 0, 2] rfl rfl
  obtain ⟨F4, hL5⟩ := St.lend (L := [sl a0_0 c0_0 x0.label.levels]) (M := [bx g1 94 [.slice a0_0 x0.label.levels.length c0_0, .slice a0_1 x0.own.length c0_1, .int .i64 x0.amt.pages, .int .i64 x0.amt.rent, .int .i64 x0.amt.cpu], sl a0_1 c0_1 x0.own]) hS2
  have q := W_l_markLabel (w0 := w2) hy3' rfl hL5.st
  refine LW.call pl23 rfl rfl ?_
  refine Ret.mono q ?_
  rintro _ w9 ⟨rfl, hs⟩
  have hS3 := hL5.back _ _ hs
  refine LW.p rfl rfl ?_
  refine LW.nil ?_
  show CW _ _ _ _ _ _
  refine CW.seq ?_
  refine CW.region ?_
  refine LW.u (Pur.fa fo94_1 rfl) rfl ?_
  refine LW.ldb hS3 1 rfl ag24 rfl rfl rfl ?_
  refine LW.p rfl rfl ?_
  replace h := obind h
  obtain ⟨y10, hy10, h⟩ := h
  obtain ⟨q13, hy10', hq14⟩ := obind hy10
  obtain ⟨hl15, hq14⟩ := keepL_some hq14
  rw [Option.some.inj hq14] at hy10' hl15
  rw [show x0.label.levels.length = y3.2.length from hl8] at hS3
  have hS4 := hS3.pick (M := [sl a0_1 c0_1 x0.own] ++ [sl a0_0 c0_0 y3.2, bx g1 94 [.slice a0_0 y3.2.length c0_0, .slice a0_1 x0.own.length c0_1, .int .i64 x0.amt.pages, .int .i64 x0.amt.rent, .int .i64 x0.amt.cpu]]) [2, 0, 1] rfl rfl
  obtain ⟨F11, hL12⟩ := St.lend (L := [sl a0_1 c0_1 x0.own]) (M := [sl a0_0 c0_0 y3.2, bx g1 94 [.slice a0_0 y3.2.length c0_0, .slice a0_1 x0.own.length c0_1, .int .i64 x0.amt.pages, .int .i64 x0.amt.rent, .int .i64 x0.amt.cpu]]) hS4
  have q := W_l_markIntS (w0 := w9) hy10' rfl hL12.st
  refine LW.call pl61 rfl rfl ?_
  refine Ret.mono q ?_
  rintro _ w16 ⟨rfl, hs⟩
  have hS5 := hL12.back _ _ hs
  refine LW.p rfl rfl ?_
  refine LW.nil ?_
  show CW _ _ _ _ _ _
  refine CW.seq ?_
  refine CW.region ?_
  iterate 2 refine LW.p rfl rfl ?_
  refine LW.nil ?_
  show CW _ _ _ _ _ _
  refine CW.fresh (l := [(4, .int .i64 y10.1)]) ⟨rfl, trivial⟩ (fun e => ?_)
  refine CW.ret ?_
  replace h := Option.some.inj h
  subst h
  rw [show x0.own.length = y10.2.length from hl15] at hS5
  exact And.intro trivial ⟨_, Res.one (resOne.t rfl), rfl, hS5.pick [1, 0] rfl rfl⟩

theorem W_l_markGc {w0 : World} {F : List Nat} {N : Nat} {x0 : DGc} {x1 : Int} {r : Int × (List Int)} (h : F_l_markGc N x0 x1 = some r) {a0_3 : Option Addr} {n0_3 c0_3 : Nat} (hn0_3 : n0_3 = x0.grey.length) (hS : St w0 F w0 [sl a0_3 c0_3 x0.grey]) :
    Ret Try.prog 170 #[.agg #[.int .i64 x0.phase, .int .i64 x0.pos, .int .i64 x0.round, .slice a0_3 n0_3 c0_3], .int .i64 x1] w0 (fun v w => v = .int .i64 r.1 ∧ St w0 F w [sl a0_3 c0_3 r.2]) := by
  subst hn0_3
  unfold F_l_markGc at h
  refine Ret.of Try.func170 rfl rfl rfl ?_
  refine CW.seq ?_
  refine CW.region ?_
  refine LW.box (cs := [.int .i64 x0.phase, .int .i64 x0.pos, .int .i64 x0.round, .slice a0_3 x0.grey.length c0_3]) rfl hS rfl ?_
  intro g1 w2 hS1 hf
  refine LW.p rfl rfl ?_
  refine LW.nil ?_
  show CW _ _ _ _ _ _
  refine CW.seq ?_
  refine CW.region ?_
  refine LW.u (Pur.fa fo69_3 rfl) rfl ?_
  refine LW.ldb hS1 0 rfl ag24 rfl rfl rfl ?_
  refine LW.p rfl rfl ?_
  replace h := obind h
  obtain ⟨y3, hy3, h⟩ := h
  obtain ⟨q6, hy3', hq7⟩ := obind hy3
  obtain ⟨hl8, hq7⟩ := keepL_some hq7
  rw [Option.some.inj hq7] at hy3' hl8
  have hS2 := hS1.pick (M := [sl a0_3 c0_3 x0.grey] ++ [bx g1 69 [.int .i64 x0.phase, .int .i64 x0.pos, .int .i64 x0.round, .slice a0_3 x0.grey.length c0_3]]) [1, 0] rfl rfl
  obtain ⟨F4, hL5⟩ := St.lend (L := [sl a0_3 c0_3 x0.grey]) (M := [bx g1 69 [.int .i64 x0.phase, .int .i64 x0.pos, .int .i64 x0.round, .slice a0_3 x0.grey.length c0_3]]) hS2
  have q := W_l_markIntS (w0 := w2) hy3' rfl hL5.st
  refine LW.call pl61 rfl rfl ?_
  refine Ret.mono q ?_
  rintro _ w9 ⟨rfl, hs⟩
  have hS3 := hL5.back _ _ hs
  refine LW.p rfl rfl ?_
  refine LW.nil ?_
  show CW _ _ _ _ _ _
  refine CW.seq ?_
  refine CW.region ?_
  iterate 2 refine LW.p rfl rfl ?_
  refine LW.nil ?_
  show CW _ _ _ _ _ _
  refine CW.ret ?_
  replace h := Option.some.inj h
  subst h
  rw [show x0.grey.length = y3.2.length from hl8] at hS3
  exact And.intro trivial ⟨_, Res.one (resOne.t rfl), rfl, hS3.pick [0] rfl rfl⟩

theorem W_l_markHeap {w0 : World} {F : List Nat} {N : Nat} {x0 : DHeap} {x1 : Int} {r : Int × (List DObj) × (List Int)} (h : F_l_markHeap N x0 x1 = some r) {a0_0 : Option Addr} {n0_0 c0_0 : Nat} (hn0_0 : n0_0 = x0.arena.length) {a0_4 : Option Addr} {n0_4 c0_4 : Nat} (hn0_4 : n0_4 = x0.gc.grey.length) (hS : St w0 F w0 [sl a0_0 c0_0 x0.arena, sl a0_4 c0_4 x0.gc.grey]) :
    Ret Try.prog 118 #[.agg #[.slice a0_0 n0_0 c0_0, .int .i64 x0.gc.phase, .int .i64 x0.gc.pos, .int .i64 x0.gc.round, .slice a0_4 n0_4 c0_4], .int .i64 x1] w0 (fun v w => v = .int .i64 r.1 ∧ St w0 F w [sl a0_0 c0_0 r.2.1, sl a0_4 c0_4 r.2.2]) := by
  subst hn0_0
  subst hn0_4
  unfold F_l_markHeap at h
  refine Ret.of Try.func118 rfl rfl rfl ?_
  refine CW.seq ?_
  refine CW.region ?_
  refine LW.box (cs := [.slice a0_0 x0.arena.length c0_0, .int .i64 x0.gc.phase, .int .i64 x0.gc.pos, .int .i64 x0.gc.round, .slice a0_4 x0.gc.grey.length c0_4]) rfl hS rfl ?_
  intro g1 w2 hS1 hf
  refine LW.p rfl rfl ?_
  refine LW.nil ?_
  show CW _ _ _ _ _ _
  refine CW.seq ?_
  refine CW.region ?_
  refine LW.u (Pur.fa fo71_0 rfl) rfl ?_
  refine LW.ldb hS1 0 rfl ag68 rfl rfl rfl ?_
  refine LW.p rfl rfl ?_
  replace h := obind h
  obtain ⟨y3, hy3, h⟩ := h
  obtain ⟨q6, hy3', hq7⟩ := obind hy3
  obtain ⟨hl8, hq7⟩ := keepL_some hq7
  rw [Option.some.inj hq7] at hy3' hl8
  have hS2 := hS1.pick (M := [sl a0_0 c0_0 x0.arena] ++ [bx g1 71 [.slice a0_0 x0.arena.length c0_0, .int .i64 x0.gc.phase, .int .i64 x0.gc.pos, .int .i64 x0.gc.round, .slice a0_4 x0.gc.grey.length c0_4], sl a0_4 c0_4 x0.gc.grey]) [1, 0, 2] rfl rfl
  obtain ⟨F4, hL5⟩ := St.lend (L := [sl a0_0 c0_0 x0.arena]) (M := [bx g1 71 [.slice a0_0 x0.arena.length c0_0, .int .i64 x0.gc.phase, .int .i64 x0.gc.pos, .int .i64 x0.gc.round, .slice a0_4 x0.gc.grey.length c0_4], sl a0_4 c0_4 x0.gc.grey]) hS2
  have q := W_l_markObjS (w0 := w2) hy3' rfl hL5.st
  refine LW.call pl96 rfl rfl ?_
  refine Ret.mono q ?_
  rintro _ w9 ⟨rfl, hs⟩
  have hS3 := hL5.back _ _ hs
  refine LW.p rfl rfl ?_
  refine LW.nil ?_
  show CW _ _ _ _ _ _
  refine CW.seq ?_
  refine CW.region ?_
  refine LW.u (Pur.fa fo71_1 rfl) rfl ?_
  refine LW.ldbN hS3 1 rfl ag69 rfl rfl rfl ?_
  refine LW.p rfl rfl ?_
  replace h := obind h
  obtain ⟨y10, hy10, h⟩ := h
  obtain ⟨q13, hy10', hq14⟩ := obind hy10
  obtain ⟨hl15, hq14⟩ := keepL_some hq14
  rw [Option.some.inj hq14] at hy10' hl15
  rw [show x0.arena.length = y3.2.length from hl8] at hS3
  have hS4 := hS3.pick (M := [sl a0_4 c0_4 x0.gc.grey] ++ [sl a0_0 c0_0 y3.2, bx g1 71 [.slice a0_0 y3.2.length c0_0, .int .i64 x0.gc.phase, .int .i64 x0.gc.pos, .int .i64 x0.gc.round, .slice a0_4 x0.gc.grey.length c0_4]]) [2, 0, 1] rfl rfl
  obtain ⟨F11, hL12⟩ := St.lend (L := [sl a0_4 c0_4 x0.gc.grey]) (M := [sl a0_0 c0_0 y3.2, bx g1 71 [.slice a0_0 y3.2.length c0_0, .int .i64 x0.gc.phase, .int .i64 x0.gc.pos, .int .i64 x0.gc.round, .slice a0_4 x0.gc.grey.length c0_4]]) hS4
  have q := W_l_markGc (w0 := w9) hy10' rfl hL12.st
  refine LW.call pl170 rfl rfl ?_
  refine Ret.mono q ?_
  rintro _ w16 ⟨rfl, hs⟩
  have hS5 := hL12.back _ _ hs
  refine LW.p rfl rfl ?_
  refine LW.nil ?_
  show CW _ _ _ _ _ _
  refine CW.seq ?_
  refine CW.region ?_
  iterate 2 refine LW.p rfl rfl ?_
  refine LW.nil ?_
  show CW _ _ _ _ _ _
  refine CW.fresh (l := [(4, .int .i64 y10.1)]) ⟨rfl, trivial⟩ (fun e => ?_)
  refine CW.ret ?_
  replace h := Option.some.inj h
  subst h
  rw [show x0.gc.grey.length = y10.2.length from hl15] at hS5
  exact And.intro trivial ⟨_, Res.one (resOne.t rfl), rfl, hS5.pick [1, 0] rfl rfl⟩

theorem W_l_markPart {w0 : World} {F : List Nat} {N : Nat} {x0 : DPart} {x1 : Int} {r : Int × (List Int) × (List Int) × (List DRes) × (List DObj) × (List Int) × (List DTap)} (h : F_l_markPart N x0 x1 = some r) {a0_0 : Option Addr} {n0_0 c0_0 : Nat} (hn0_0 : n0_0 = x0.label.levels.length) {a0_1 : Option Addr} {n0_1 c0_1 : Nat} (hn0_1 : n0_1 = x0.own.length) {a0_2 : Option Addr} {n0_2 c0_2 : Nat} (hn0_2 : n0_2 = x0.tree.length) {a0_3 : Option Addr} {n0_3 c0_3 : Nat} (hn0_3 : n0_3 = x0.heap.arena.length) {a0_7 : Option Addr} {n0_7 c0_7 : Nat} (hn0_7 : n0_7 = x0.heap.gc.grey.length) {a0_8 : Option Addr} {n0_8 c0_8 : Nat} (hn0_8 : n0_8 = x0.taps.length) (hS : St w0 F w0 [sl a0_0 c0_0 x0.label.levels, sl a0_1 c0_1 x0.own, sl a0_2 c0_2 x0.tree, sl a0_3 c0_3 x0.heap.arena, sl a0_7 c0_7 x0.heap.gc.grey, sl a0_8 c0_8 x0.taps]) :
    Ret Try.prog 52 #[.agg #[.slice a0_0 n0_0 c0_0, .slice a0_1 n0_1 c0_1, .slice a0_2 n0_2 c0_2, .slice a0_3 n0_3 c0_3, .int .i64 x0.heap.gc.phase, .int .i64 x0.heap.gc.pos, .int .i64 x0.heap.gc.round, .slice a0_7 n0_7 c0_7, .slice a0_8 n0_8 c0_8, .int .i64 x0.next, .int .i64 x0.want, .int .i64 x0.spent.pages, .int .i64 x0.spent.rent, .int .i64 x0.spent.cpu, .int .i64 x0.press, .int .i64 x0.lost], .int .i64 x1] w0 (fun v w => v = .int .i64 r.1 ∧ St w0 F w [sl a0_0 c0_0 r.2.1, sl a0_1 c0_1 r.2.2.1, sl a0_2 c0_2 r.2.2.2.1, sl a0_3 c0_3 r.2.2.2.2.1, sl a0_7 c0_7 r.2.2.2.2.2.1, sl a0_8 c0_8 r.2.2.2.2.2.2]) := by
  subst hn0_0
  subst hn0_1
  subst hn0_2
  subst hn0_3
  subst hn0_7
  subst hn0_8
  unfold F_l_markPart at h
  refine Ret.of Try.func52 rfl rfl rfl ?_
  refine CW.seq ?_
  refine CW.region ?_
  refine LW.box (cs := [.slice a0_0 x0.label.levels.length c0_0, .slice a0_1 x0.own.length c0_1, .slice a0_2 x0.tree.length c0_2, .slice a0_3 x0.heap.arena.length c0_3, .int .i64 x0.heap.gc.phase, .int .i64 x0.heap.gc.pos, .int .i64 x0.heap.gc.round, .slice a0_7 x0.heap.gc.grey.length c0_7, .slice a0_8 x0.taps.length c0_8, .int .i64 x0.next, .int .i64 x0.want, .int .i64 x0.spent.pages, .int .i64 x0.spent.rent, .int .i64 x0.spent.cpu, .int .i64 x0.press, .int .i64 x0.lost]) rfl hS rfl ?_
  intro g1 w2 hS1 hf
  refine LW.p rfl rfl ?_
  refine LW.nil ?_
  show CW _ _ _ _ _ _
  refine CW.seq ?_
  refine CW.region ?_
  refine LW.u (Pur.fa fo75_0 rfl) rfl ?_
  refine LW.ldbN hS1 0 rfl ag35 rfl rfl rfl ?_
  refine LW.p rfl rfl ?_
  replace h := obind h
  obtain ⟨y3, hy3, h⟩ := h
  obtain ⟨q6, hy3', hq7⟩ := obind hy3
  obtain ⟨hl8, hq7⟩ := keepL_some hq7
  rw [Option.some.inj hq7] at hy3' hl8
  have hS2 := hS1.pick (M := [sl a0_0 c0_0 x0.label.levels] ++ [bx g1 75 [.slice a0_0 x0.label.levels.length c0_0, .slice a0_1 x0.own.length c0_1, .slice a0_2 x0.tree.length c0_2, .slice a0_3 x0.heap.arena.length c0_3, .int .i64 x0.heap.gc.phase, .int .i64 x0.heap.gc.pos, .int .i64 x0.heap.gc.round, .slice a0_7 x0.heap.gc.grey.length c0_7, .slice a0_8 x0.taps.length c0_8, .int .i64 x0.next, .int .i64 x0.want, .int .i64 x0.spent.pages, .int .i64 x0.spent.rent, .int .i64 x0.spent.cpu, .int .i64 x0.press, .int .i64 x0.lost], sl a0_1 c0_1 x0.own, sl a0_2 c0_2 x0.tree, sl a0_3 c0_3 x0.heap.arena, sl a0_7 c0_7 x0.heap.gc.grey, sl a0_8 c0_8 x0.taps]) [1, 0, 2, 3, 4, 5, 6] rfl rfl
  obtain ⟨F4, hL5⟩ := St.lend (L := [sl a0_0 c0_0 x0.label.levels]) (M := [bx g1 75 [.slice a0_0 x0.label.levels.length c0_0, .slice a0_1 x0.own.length c0_1, .slice a0_2 x0.tree.length c0_2, .slice a0_3 x0.heap.arena.length c0_3, .int .i64 x0.heap.gc.phase, .int .i64 x0.heap.gc.pos, .int .i64 x0.heap.gc.round, .slice a0_7 x0.heap.gc.grey.length c0_7, .slice a0_8 x0.taps.length c0_8, .int .i64 x0.next, .int .i64 x0.want, .int .i64 x0.spent.pages, .int .i64 x0.spent.rent, .int .i64 x0.spent.cpu, .int .i64 x0.press, .int .i64 x0.lost], sl a0_1 c0_1 x0.own, sl a0_2 c0_2 x0.tree, sl a0_3 c0_3 x0.heap.arena, sl a0_7 c0_7 x0.heap.gc.grey, sl a0_8 c0_8 x0.taps]) hS2
  have q := W_l_markLabel (w0 := w2) hy3' rfl hL5.st
  refine LW.call pl23 rfl rfl ?_
  refine Ret.mono q ?_
  rintro _ w9 ⟨rfl, hs⟩
  have hS3 := hL5.back _ _ hs
  refine LW.p rfl rfl ?_
  refine LW.nil ?_
  show CW _ _ _ _ _ _
  refine CW.seq ?_
  refine CW.region ?_
  refine LW.u (Pur.fa fo75_1 rfl) rfl ?_
  refine LW.ldb hS3 1 rfl ag24 rfl rfl rfl ?_
  refine LW.p rfl rfl ?_
  replace h := obind h
  obtain ⟨y10, hy10, h⟩ := h
  obtain ⟨q13, hy10', hq14⟩ := obind hy10
  obtain ⟨hl15, hq14⟩ := keepL_some hq14
  rw [Option.some.inj hq14] at hy10' hl15
  rw [show x0.label.levels.length = y3.2.length from hl8] at hS3
  have hS4 := hS3.pick (M := [sl a0_1 c0_1 x0.own] ++ [sl a0_0 c0_0 y3.2, bx g1 75 [.slice a0_0 y3.2.length c0_0, .slice a0_1 x0.own.length c0_1, .slice a0_2 x0.tree.length c0_2, .slice a0_3 x0.heap.arena.length c0_3, .int .i64 x0.heap.gc.phase, .int .i64 x0.heap.gc.pos, .int .i64 x0.heap.gc.round, .slice a0_7 x0.heap.gc.grey.length c0_7, .slice a0_8 x0.taps.length c0_8, .int .i64 x0.next, .int .i64 x0.want, .int .i64 x0.spent.pages, .int .i64 x0.spent.rent, .int .i64 x0.spent.cpu, .int .i64 x0.press, .int .i64 x0.lost], sl a0_2 c0_2 x0.tree, sl a0_3 c0_3 x0.heap.arena, sl a0_7 c0_7 x0.heap.gc.grey, sl a0_8 c0_8 x0.taps]) [2, 0, 1, 3, 4, 5, 6] rfl rfl
  obtain ⟨F11, hL12⟩ := St.lend (L := [sl a0_1 c0_1 x0.own]) (M := [sl a0_0 c0_0 y3.2, bx g1 75 [.slice a0_0 y3.2.length c0_0, .slice a0_1 x0.own.length c0_1, .slice a0_2 x0.tree.length c0_2, .slice a0_3 x0.heap.arena.length c0_3, .int .i64 x0.heap.gc.phase, .int .i64 x0.heap.gc.pos, .int .i64 x0.heap.gc.round, .slice a0_7 x0.heap.gc.grey.length c0_7, .slice a0_8 x0.taps.length c0_8, .int .i64 x0.next, .int .i64 x0.want, .int .i64 x0.spent.pages, .int .i64 x0.spent.rent, .int .i64 x0.spent.cpu, .int .i64 x0.press, .int .i64 x0.lost], sl a0_2 c0_2 x0.tree, sl a0_3 c0_3 x0.heap.arena, sl a0_7 c0_7 x0.heap.gc.grey, sl a0_8 c0_8 x0.taps]) hS4
  have q := W_l_markIntS (w0 := w9) hy10' rfl hL12.st
  refine LW.call pl61 rfl rfl ?_
  refine Ret.mono q ?_
  rintro _ w16 ⟨rfl, hs⟩
  have hS5 := hL12.back _ _ hs
  refine LW.p rfl rfl ?_
  refine LW.nil ?_
  show CW _ _ _ _ _ _
  refine CW.seq ?_
  refine CW.region ?_
  refine LW.u (Pur.fa fo75_2 rfl) rfl ?_
  refine LW.ldb hS5 2 rfl ag67 rfl rfl rfl ?_
  refine LW.p rfl rfl ?_
  replace h := obind h
  obtain ⟨y17, hy17, h⟩ := h
  obtain ⟨q20, hy17', hq21⟩ := obind hy17
  obtain ⟨hl22, hq21⟩ := keepL_some hq21
  rw [Option.some.inj hq21] at hy17' hl22
  rw [show x0.own.length = y10.2.length from hl15] at hS5
  have hS6 := hS5.pick (M := [sl a0_2 c0_2 x0.tree] ++ [sl a0_1 c0_1 y10.2, sl a0_0 c0_0 y3.2, bx g1 75 [.slice a0_0 y3.2.length c0_0, .slice a0_1 y10.2.length c0_1, .slice a0_2 x0.tree.length c0_2, .slice a0_3 x0.heap.arena.length c0_3, .int .i64 x0.heap.gc.phase, .int .i64 x0.heap.gc.pos, .int .i64 x0.heap.gc.round, .slice a0_7 x0.heap.gc.grey.length c0_7, .slice a0_8 x0.taps.length c0_8, .int .i64 x0.next, .int .i64 x0.want, .int .i64 x0.spent.pages, .int .i64 x0.spent.rent, .int .i64 x0.spent.cpu, .int .i64 x0.press, .int .i64 x0.lost], sl a0_3 c0_3 x0.heap.arena, sl a0_7 c0_7 x0.heap.gc.grey, sl a0_8 c0_8 x0.taps]) [3, 0, 1, 2, 4, 5, 6] rfl rfl
  obtain ⟨F18, hL19⟩ := St.lend (L := [sl a0_2 c0_2 x0.tree]) (M := [sl a0_1 c0_1 y10.2, sl a0_0 c0_0 y3.2, bx g1 75 [.slice a0_0 y3.2.length c0_0, .slice a0_1 y10.2.length c0_1, .slice a0_2 x0.tree.length c0_2, .slice a0_3 x0.heap.arena.length c0_3, .int .i64 x0.heap.gc.phase, .int .i64 x0.heap.gc.pos, .int .i64 x0.heap.gc.round, .slice a0_7 x0.heap.gc.grey.length c0_7, .slice a0_8 x0.taps.length c0_8, .int .i64 x0.next, .int .i64 x0.want, .int .i64 x0.spent.pages, .int .i64 x0.spent.rent, .int .i64 x0.spent.cpu, .int .i64 x0.press, .int .i64 x0.lost], sl a0_3 c0_3 x0.heap.arena, sl a0_7 c0_7 x0.heap.gc.grey, sl a0_8 c0_8 x0.taps]) hS6
  have q := W_l_markResS (w0 := w16) hy17' rfl hL19.st
  refine LW.call pl95 rfl rfl ?_
  refine Ret.mono q ?_
  rintro _ w23 ⟨rfl, hs⟩
  have hS7 := hL19.back _ _ hs
  refine LW.p rfl rfl ?_
  refine LW.nil ?_
  show CW _ _ _ _ _ _
  refine CW.fresh (l := [(1, .int .i64 y17.1), (2, .pointer (some ⟨g1, 0, none⟩))]) ⟨rfl, rfl, trivial⟩ (fun e => ?_)
  refine CW.seq ?_
  refine CW.region ?_
  refine LW.u (Pur.fa fo75_3 rfl) rfl ?_
  refine LW.ldbN hS7 3 rfl ag71 rfl rfl rfl ?_
  refine LW.p rfl rfl ?_
  replace h := obind h
  obtain ⟨y24, hy24, h⟩ := h
  obtain ⟨q27, hy24', hq28⟩ := obind hy24
  obtain ⟨hl29, hq28⟩ := keepL_some hq28
  obtain ⟨hl30, hq28⟩ := keepL_some hq28
  rw [Option.some.inj hq28] at hy24' hl29 hl30
  rw [show x0.tree.length = y17.2.length from hl22] at hS7
  have hS8 := hS7.pick (M := [sl a0_3 c0_3 x0.heap.arena, sl a0_7 c0_7 x0.heap.gc.grey] ++ [sl a0_2 c0_2 y17.2, sl a0_1 c0_1 y10.2, sl a0_0 c0_0 y3.2, bx g1 75 [.slice a0_0 y3.2.length c0_0, .slice a0_1 y10.2.length c0_1, .slice a0_2 y17.2.length c0_2, .slice a0_3 x0.heap.arena.length c0_3, .int .i64 x0.heap.gc.phase, .int .i64 x0.heap.gc.pos, .int .i64 x0.heap.gc.round, .slice a0_7 x0.heap.gc.grey.length c0_7, .slice a0_8 x0.taps.length c0_8, .int .i64 x0.next, .int .i64 x0.want, .int .i64 x0.spent.pages, .int .i64 x0.spent.rent, .int .i64 x0.spent.cpu, .int .i64 x0.press, .int .i64 x0.lost], sl a0_8 c0_8 x0.taps]) [4, 5, 0, 1, 2, 3, 6] rfl rfl
  obtain ⟨F25, hL26⟩ := St.lend (L := [sl a0_3 c0_3 x0.heap.arena, sl a0_7 c0_7 x0.heap.gc.grey]) (M := [sl a0_2 c0_2 y17.2, sl a0_1 c0_1 y10.2, sl a0_0 c0_0 y3.2, bx g1 75 [.slice a0_0 y3.2.length c0_0, .slice a0_1 y10.2.length c0_1, .slice a0_2 y17.2.length c0_2, .slice a0_3 x0.heap.arena.length c0_3, .int .i64 x0.heap.gc.phase, .int .i64 x0.heap.gc.pos, .int .i64 x0.heap.gc.round, .slice a0_7 x0.heap.gc.grey.length c0_7, .slice a0_8 x0.taps.length c0_8, .int .i64 x0.next, .int .i64 x0.want, .int .i64 x0.spent.pages, .int .i64 x0.spent.rent, .int .i64 x0.spent.cpu, .int .i64 x0.press, .int .i64 x0.lost], sl a0_8 c0_8 x0.taps]) hS8
  have q := W_l_markHeap (w0 := w23) hy24' rfl rfl hL26.st
  refine LW.call pl118 rfl rfl ?_
  refine Ret.mono q ?_
  rintro _ w31 ⟨rfl, hs⟩
  have hS9 := hL26.back _ _ hs
  refine LW.p rfl rfl ?_
  refine LW.nil ?_
  show CW _ _ _ _ _ _
  refine CW.seq ?_
  refine CW.region ?_
  refine LW.u (Pur.fa fo75_4 rfl) rfl ?_
  refine LW.ldb hS9 5 rfl ag72 rfl rfl rfl ?_
  refine LW.p rfl rfl ?_
  replace h := obind h
  obtain ⟨y32, hy32, h⟩ := h
  obtain ⟨q35, hy32', hq36⟩ := obind hy32
  obtain ⟨hl37, hq36⟩ := keepL_some hq36
  rw [Option.some.inj hq36] at hy32' hl37
  rw [show x0.heap.arena.length = y24.2.1.length from hl29] at hS9
  rw [show x0.heap.gc.grey.length = y24.2.2.length from hl30] at hS9
  have hS10 := hS9.pick (M := [sl a0_8 c0_8 x0.taps] ++ [sl a0_3 c0_3 y24.2.1, sl a0_7 c0_7 y24.2.2, sl a0_2 c0_2 y17.2, sl a0_1 c0_1 y10.2, sl a0_0 c0_0 y3.2, bx g1 75 [.slice a0_0 y3.2.length c0_0, .slice a0_1 y10.2.length c0_1, .slice a0_2 y17.2.length c0_2, .slice a0_3 y24.2.1.length c0_3, .int .i64 x0.heap.gc.phase, .int .i64 x0.heap.gc.pos, .int .i64 x0.heap.gc.round, .slice a0_7 y24.2.2.length c0_7, .slice a0_8 x0.taps.length c0_8, .int .i64 x0.next, .int .i64 x0.want, .int .i64 x0.spent.pages, .int .i64 x0.spent.rent, .int .i64 x0.spent.cpu, .int .i64 x0.press, .int .i64 x0.lost]]) [6, 0, 1, 2, 3, 4, 5] rfl rfl
  obtain ⟨F33, hL34⟩ := St.lend (L := [sl a0_8 c0_8 x0.taps]) (M := [sl a0_3 c0_3 y24.2.1, sl a0_7 c0_7 y24.2.2, sl a0_2 c0_2 y17.2, sl a0_1 c0_1 y10.2, sl a0_0 c0_0 y3.2, bx g1 75 [.slice a0_0 y3.2.length c0_0, .slice a0_1 y10.2.length c0_1, .slice a0_2 y17.2.length c0_2, .slice a0_3 y24.2.1.length c0_3, .int .i64 x0.heap.gc.phase, .int .i64 x0.heap.gc.pos, .int .i64 x0.heap.gc.round, .slice a0_7 y24.2.2.length c0_7, .slice a0_8 x0.taps.length c0_8, .int .i64 x0.next, .int .i64 x0.want, .int .i64 x0.spent.pages, .int .i64 x0.spent.rent, .int .i64 x0.spent.cpu, .int .i64 x0.press, .int .i64 x0.lost]]) hS10
  have q := W_l_markTapS (w0 := w31) hy32' rfl hL34.st
  refine LW.call pl97 rfl rfl ?_
  refine Ret.mono q ?_
  rintro _ w38 ⟨rfl, hs⟩
  have hS11 := hL34.back _ _ hs
  refine LW.p rfl rfl ?_
  refine LW.nil ?_
  show CW _ _ _ _ _ _
  refine CW.seq ?_
  refine CW.region ?_
  iterate 2 refine LW.p rfl rfl ?_
  refine LW.nil ?_
  show CW _ _ _ _ _ _
  refine CW.ret ?_
  replace h := Option.some.inj h
  subst h
  rw [show x0.taps.length = y32.2.length from hl37] at hS11
  exact And.intro trivial ⟨_, Res.one (resOne.t rfl), rfl, hS11.pick [5, 4, 3, 1, 2, 0] rfl rfl⟩

theorem W_l_heldLabel {w0 : World} {N : Nat} {x0 : DLabel} {x1 : Int} {r : Int} (h : F_l_heldLabel N x0 x1 = some r) {a0_0 : Option Addr} {n0_0 c0_0 : Nat} (hn0_0 : n0_0 = x0.levels.length) (hr0_0 : rdS (Bor w0 []) w0 a0_0 c0_0 x0.levels) :
    Ret Try.prog 119 #[.agg #[.slice a0_0 n0_0 c0_0], .int .i64 x1] w0 (fun v w => v = .int .i64 r ∧ St w0 [] w []) := by
  subst hn0_0
  unfold F_l_heldLabel at h
  refine Ret.of Try.func119 rfl rfl rfl ?_
  have hS1 := St.start w0
  refine CW.seq ?_
  refine CW.region ?_
  refine LW.box (cs := [.slice a0_0 x0.levels.length c0_0]) rfl hS1 rfl ?_
  intro g1 w2 hS2 hf
  refine LW.p rfl rfl ?_
  refine LW.nil ?_
  show CW _ _ _ _ _ _
  refine CW.seq ?_
  refine CW.region ?_
  refine LW.u (Pur.fa fo35_0 rfl) rfl ?_
  refine LW.ldb hS2 0 rfl ag24 rfl rfl rfl ?_
  refine LW.p rfl rfl ?_
  replace h := obind h
  obtain ⟨y3, hy3, h⟩ := h
  have q := W_l_heldIntS (w0 := w2) hy3 rfl (hS2.rB hr0_0)
  refine LW.call pl98 rfl rfl ?_
  refine Ret.mono q ?_
  rintro _ w4 ⟨rfl, hs⟩
  have hS3 := hS2.add hs
  refine LW.p rfl rfl ?_
  refine LW.nil ?_
  show CW _ _ _ _ _ _
  refine CW.seq ?_
  refine CW.seq ?_
  refine CW.region ?_
  iterate 2 refine LW.p rfl rfl ?_
  refine LW.nil ?_
  show CW _ _ _ _ _ _
  refine CW.cond rfl (fun hc5 => ?_) (fun hc5 => ?_)
  · replace h := bcT h hc5
    refine CW.seq ?_
    refine CW.region ?_
    refine LW.p rfl rfl ?_
    refine LW.nil ?_
    show CW _ _ _ _ _ _
    refine CW.ret ?_
    cases h
    exact And.intro trivial ⟨_, Res.one (resOne.t rfl), rfl, hS3.pick [] rfl rfl⟩
  replace h := bcF h hc5
  refine CW.skip ?_
  show CW _ _ _ _ _ _
  refine CW.seq ?_
  refine CW.region ?_
  iterate 2 refine LW.p rfl rfl ?_
  refine LW.nil ?_
  show CW _ _ _ _ _ _
  refine CW.ret ?_
  cases h
  exact And.intro trivial ⟨_, Res.one (resOne.t rfl), rfl, hS3.pick [] rfl rfl⟩

theorem W_l_heldGc {w0 : World} {N : Nat} {x0 : DGc} {x1 : Int} {r : Int} (h : F_l_heldGc N x0 x1 = some r) {a0_3 : Option Addr} {n0_3 c0_3 : Nat} (hn0_3 : n0_3 = x0.grey.length) (hr0_3 : rdS (Bor w0 []) w0 a0_3 c0_3 x0.grey) :
    Ret Try.prog 171 #[.agg #[.int .i64 x0.phase, .int .i64 x0.pos, .int .i64 x0.round, .slice a0_3 n0_3 c0_3], .int .i64 x1] w0 (fun v w => v = .int .i64 r ∧ St w0 [] w []) := by
  subst hn0_3
  unfold F_l_heldGc at h
  refine Ret.of Try.func171 rfl rfl rfl ?_
  have hS1 := St.start w0
  refine CW.seq ?_
  refine CW.region ?_
  refine LW.box (cs := [.int .i64 x0.phase, .int .i64 x0.pos, .int .i64 x0.round, .slice a0_3 x0.grey.length c0_3]) rfl hS1 rfl ?_
  intro g1 w2 hS2 hf
  refine LW.p rfl rfl ?_
  refine LW.nil ?_
  show CW _ _ _ _ _ _
  refine CW.seq ?_
  refine CW.region ?_
  refine LW.u (Pur.fa fo69_3 rfl) rfl ?_
  refine LW.ldb hS2 0 rfl ag24 rfl rfl rfl ?_
  refine LW.p rfl rfl ?_
  replace h := obind h
  obtain ⟨y3, hy3, h⟩ := h
  have q := W_l_heldIntS (w0 := w2) hy3 rfl (hS2.rB hr0_3)
  refine LW.call pl98 rfl rfl ?_
  refine Ret.mono q ?_
  rintro _ w4 ⟨rfl, hs⟩
  have hS3 := hS2.add hs
  refine LW.p rfl rfl ?_
  refine LW.nil ?_
  show CW _ _ _ _ _ _
  refine CW.seq ?_
  refine CW.seq ?_
  refine CW.region ?_
  iterate 2 refine LW.p rfl rfl ?_
  refine LW.nil ?_
  show CW _ _ _ _ _ _
  refine CW.cond rfl (fun hc5 => ?_) (fun hc5 => ?_)
  · replace h := bcT h hc5
    refine CW.seq ?_
    refine CW.region ?_
    refine LW.p rfl rfl ?_
    refine LW.nil ?_
    show CW _ _ _ _ _ _
    refine CW.ret ?_
    cases h
    exact And.intro trivial ⟨_, Res.one (resOne.t rfl), rfl, hS3.pick [] rfl rfl⟩
  replace h := bcF h hc5
  refine CW.skip ?_
  show CW _ _ _ _ _ _
  refine CW.seq ?_
  refine CW.region ?_
  iterate 2 refine LW.p rfl rfl ?_
  refine LW.nil ?_
  show CW _ _ _ _ _ _
  refine CW.ret ?_
  cases h
  exact And.intro trivial ⟨_, Res.one (resOne.t rfl), rfl, hS3.pick [] rfl rfl⟩

theorem W_l_heldHeap {w0 : World} {N : Nat} {x0 : DHeap} {x1 : Int} {r : Int} (h : F_l_heldHeap N x0 x1 = some r) {a0_0 : Option Addr} {n0_0 c0_0 : Nat} (hn0_0 : n0_0 = x0.arena.length) (hr0_0 : rdS (Bor w0 []) w0 a0_0 c0_0 x0.arena) {a0_4 : Option Addr} {n0_4 c0_4 : Nat} (hn0_4 : n0_4 = x0.gc.grey.length) (hr0_4 : rdS (Bor w0 []) w0 a0_4 c0_4 x0.gc.grey) :
    Ret Try.prog 120 #[.agg #[.slice a0_0 n0_0 c0_0, .int .i64 x0.gc.phase, .int .i64 x0.gc.pos, .int .i64 x0.gc.round, .slice a0_4 n0_4 c0_4], .int .i64 x1] w0 (fun v w => v = .int .i64 r ∧ St w0 [] w []) := by
  subst hn0_0
  subst hn0_4
  unfold F_l_heldHeap at h
  refine Ret.of Try.func120 rfl rfl rfl ?_
  have hS1 := St.start w0
  refine CW.seq ?_
  refine CW.region ?_
  refine LW.box (cs := [.slice a0_0 x0.arena.length c0_0, .int .i64 x0.gc.phase, .int .i64 x0.gc.pos, .int .i64 x0.gc.round, .slice a0_4 x0.gc.grey.length c0_4]) rfl hS1 rfl ?_
  intro g1 w2 hS2 hf
  refine LW.p rfl rfl ?_
  refine LW.nil ?_
  show CW _ _ _ _ _ _
  refine CW.seq ?_
  refine CW.region ?_
  refine LW.u (Pur.fa fo71_0 rfl) rfl ?_
  refine LW.ldb hS2 0 rfl ag68 rfl rfl rfl ?_
  refine LW.p rfl rfl ?_
  replace h := obind h
  obtain ⟨y3, hy3, h⟩ := h
  have q := W_l_heldObjS (w0 := w2) hy3 rfl (hS2.rB hr0_0)
  refine LW.call pl100 rfl rfl ?_
  refine Ret.mono q ?_
  rintro _ w4 ⟨rfl, hs⟩
  have hS3 := hS2.add hs
  refine LW.p rfl rfl ?_
  refine LW.nil ?_
  show CW _ _ _ _ _ _
  refine CW.seq ?_
  refine CW.seq ?_
  refine CW.region ?_
  iterate 2 refine LW.p rfl rfl ?_
  refine LW.nil ?_
  show CW _ _ _ _ _ _
  refine CW.cond rfl (fun hc5 => ?_) (fun hc5 => ?_)
  · replace h := bcT h hc5
    refine CW.seq ?_
    refine CW.region ?_
    refine LW.p rfl rfl ?_
    refine LW.nil ?_
    show CW _ _ _ _ _ _
    refine CW.ret ?_
    cases h
    exact And.intro trivial ⟨_, Res.one (resOne.t rfl), rfl, hS3.pick [] rfl rfl⟩
  replace h := bcF h hc5
  refine CW.skip ?_
  show CW _ _ _ _ _ _
  refine CW.seq ?_
  refine CW.region ?_
  refine LW.u (Pur.fa fo71_1 rfl) rfl ?_
  refine LW.ldbN hS3 0 rfl ag69 rfl rfl rfl ?_
  refine LW.p rfl rfl ?_
  replace h := obind h
  obtain ⟨y6, hy6, h⟩ := h
  have q := W_l_heldGc (w0 := w4) hy6 rfl (hS3.rB hr0_4)
  refine LW.call pl171 rfl rfl ?_
  refine Ret.mono q ?_
  rintro _ w7 ⟨rfl, hs⟩
  have hS4 := hS3.add hs
  refine LW.p rfl rfl ?_
  refine LW.nil ?_
  show CW _ _ _ _ _ _
  refine CW.fresh (l := [(1, .int .i64 y6)]) ⟨rfl, trivial⟩ (fun e => ?_)
  refine CW.seq ?_
  refine CW.seq ?_
  refine CW.region ?_
  iterate 2 refine LW.p rfl rfl ?_
  refine LW.nil ?_
  show CW _ _ _ _ _ _
  refine CW.cond rfl (fun hc8 => ?_) (fun hc8 => ?_)
  · replace h := bcT h hc8
    refine CW.seq ?_
    refine CW.region ?_
    refine LW.p rfl rfl ?_
    refine LW.nil ?_
    show CW _ _ _ _ _ _
    refine CW.ret ?_
    cases h
    exact And.intro trivial ⟨_, Res.one (resOne.t rfl), rfl, hS4.pick [] rfl rfl⟩
  replace h := bcF h hc8
  refine CW.skip ?_
  show CW _ _ _ _ _ _
  refine CW.seq ?_
  refine CW.region ?_
  iterate 2 refine LW.p rfl rfl ?_
  refine LW.nil ?_
  show CW _ _ _ _ _ _
  refine CW.ret ?_
  cases h
  exact And.intro trivial ⟨_, Res.one (resOne.t rfl), rfl, hS4.pick [] rfl rfl⟩

theorem W_l_heldPart {w0 : World} {N : Nat} {x0 : DPart} {x1 : Int} {r : Int} (h : F_l_heldPart N x0 x1 = some r) {a0_0 : Option Addr} {n0_0 c0_0 : Nat} (hn0_0 : n0_0 = x0.label.levels.length) (hr0_0 : rdS (Bor w0 []) w0 a0_0 c0_0 x0.label.levels) {a0_1 : Option Addr} {n0_1 c0_1 : Nat} (hn0_1 : n0_1 = x0.own.length) (hr0_1 : rdS (Bor w0 []) w0 a0_1 c0_1 x0.own) {a0_2 : Option Addr} {n0_2 c0_2 : Nat} (hn0_2 : n0_2 = x0.tree.length) (hr0_2 : rdS (Bor w0 []) w0 a0_2 c0_2 x0.tree) {a0_3 : Option Addr} {n0_3 c0_3 : Nat} (hn0_3 : n0_3 = x0.heap.arena.length) (hr0_3 : rdS (Bor w0 []) w0 a0_3 c0_3 x0.heap.arena) {a0_7 : Option Addr} {n0_7 c0_7 : Nat} (hn0_7 : n0_7 = x0.heap.gc.grey.length) (hr0_7 : rdS (Bor w0 []) w0 a0_7 c0_7 x0.heap.gc.grey) {a0_8 : Option Addr} {n0_8 c0_8 : Nat} (hn0_8 : n0_8 = x0.taps.length) (hr0_8 : rdS (Bor w0 []) w0 a0_8 c0_8 x0.taps) :
    Ret Try.prog 53 #[.agg #[.slice a0_0 n0_0 c0_0, .slice a0_1 n0_1 c0_1, .slice a0_2 n0_2 c0_2, .slice a0_3 n0_3 c0_3, .int .i64 x0.heap.gc.phase, .int .i64 x0.heap.gc.pos, .int .i64 x0.heap.gc.round, .slice a0_7 n0_7 c0_7, .slice a0_8 n0_8 c0_8, .int .i64 x0.next, .int .i64 x0.want, .int .i64 x0.spent.pages, .int .i64 x0.spent.rent, .int .i64 x0.spent.cpu, .int .i64 x0.press, .int .i64 x0.lost], .int .i64 x1] w0 (fun v w => v = .int .i64 r ∧ St w0 [] w []) := by
  subst hn0_0
  subst hn0_1
  subst hn0_2
  subst hn0_3
  subst hn0_7
  subst hn0_8
  unfold F_l_heldPart at h
  refine Ret.of Try.func53 rfl rfl rfl ?_
  have hS1 := St.start w0
  refine CW.seq ?_
  refine CW.region ?_
  refine LW.box (cs := [.slice a0_0 x0.label.levels.length c0_0, .slice a0_1 x0.own.length c0_1, .slice a0_2 x0.tree.length c0_2, .slice a0_3 x0.heap.arena.length c0_3, .int .i64 x0.heap.gc.phase, .int .i64 x0.heap.gc.pos, .int .i64 x0.heap.gc.round, .slice a0_7 x0.heap.gc.grey.length c0_7, .slice a0_8 x0.taps.length c0_8, .int .i64 x0.next, .int .i64 x0.want, .int .i64 x0.spent.pages, .int .i64 x0.spent.rent, .int .i64 x0.spent.cpu, .int .i64 x0.press, .int .i64 x0.lost]) rfl hS1 rfl ?_
  intro g1 w2 hS2 hf
  refine LW.p rfl rfl ?_
  refine LW.nil ?_
  show CW _ _ _ _ _ _
  refine CW.seq ?_
  refine CW.region ?_
  refine LW.u (Pur.fa fo75_0 rfl) rfl ?_
  refine LW.ldbN hS2 0 rfl ag35 rfl rfl rfl ?_
  refine LW.p rfl rfl ?_
  replace h := obind h
  obtain ⟨y3, hy3, h⟩ := h
  have q := W_l_heldLabel (w0 := w2) hy3 rfl (hS2.rB hr0_0)
  refine LW.call pl119 rfl rfl ?_
  refine Ret.mono q ?_
  rintro _ w4 ⟨rfl, hs⟩
  have hS3 := hS2.add hs
  refine LW.p rfl rfl ?_
  refine LW.nil ?_
  show CW _ _ _ _ _ _
  refine CW.seq ?_
  refine CW.seq ?_
  refine CW.region ?_
  iterate 2 refine LW.p rfl rfl ?_
  refine LW.nil ?_
  show CW _ _ _ _ _ _
  refine CW.cond rfl (fun hc5 => ?_) (fun hc5 => ?_)
  · replace h := bcT h hc5
    refine CW.seq ?_
    refine CW.region ?_
    refine LW.p rfl rfl ?_
    refine LW.nil ?_
    show CW _ _ _ _ _ _
    refine CW.ret ?_
    cases h
    exact And.intro trivial ⟨_, Res.one (resOne.t rfl), rfl, hS3.pick [] rfl rfl⟩
  replace h := bcF h hc5
  refine CW.skip ?_
  show CW _ _ _ _ _ _
  refine CW.seq ?_
  refine CW.region ?_
  refine LW.u (Pur.fa fo75_1 rfl) rfl ?_
  refine LW.ldb hS3 0 rfl ag24 rfl rfl rfl ?_
  refine LW.p rfl rfl ?_
  replace h := obind h
  obtain ⟨y6, hy6, h⟩ := h
  have q := W_l_heldIntS (w0 := w4) hy6 rfl (hS3.rB hr0_1)
  refine LW.call pl98 rfl rfl ?_
  refine Ret.mono q ?_
  rintro _ w7 ⟨rfl, hs⟩
  have hS4 := hS3.add hs
  refine LW.p rfl rfl ?_
  refine LW.nil ?_
  show CW _ _ _ _ _ _
  refine CW.fresh (l := [(1, .int .i64 y6), (2, .pointer (some ⟨g1, 0, none⟩))]) ⟨rfl, rfl, trivial⟩ (fun e => ?_)
  refine CW.seq ?_
  refine CW.seq ?_
  refine CW.region ?_
  iterate 2 refine LW.p rfl rfl ?_
  refine LW.nil ?_
  show CW _ _ _ _ _ _
  refine CW.cond rfl (fun hc8 => ?_) (fun hc8 => ?_)
  · replace h := bcT h hc8
    refine CW.seq ?_
    refine CW.region ?_
    refine LW.p rfl rfl ?_
    refine LW.nil ?_
    show CW _ _ _ _ _ _
    refine CW.ret ?_
    cases h
    exact And.intro trivial ⟨_, Res.one (resOne.t rfl), rfl, hS4.pick [] rfl rfl⟩
  replace h := bcF h hc8
  refine CW.skip ?_
  show CW _ _ _ _ _ _
  refine CW.seq ?_
  refine CW.region ?_
  refine LW.u (Pur.fa fo75_2 rfl) rfl ?_
  refine LW.ldb hS4 0 rfl ag67 rfl rfl rfl ?_
  refine LW.p rfl rfl ?_
  replace h := obind h
  obtain ⟨y9, hy9, h⟩ := h
  have q := W_l_heldResS (w0 := w7) hy9 rfl (hS4.rB hr0_2)
  refine LW.call pl99 rfl rfl ?_
  refine Ret.mono q ?_
  rintro _ w10 ⟨rfl, hs⟩
  have hS5 := hS4.add hs
  refine LW.p rfl rfl ?_
  refine LW.nil ?_
  show CW _ _ _ _ _ _
  refine CW.seq ?_
  refine CW.seq ?_
  refine CW.region ?_
  iterate 2 refine LW.p rfl rfl ?_
  refine LW.nil ?_
  show CW _ _ _ _ _ _
  refine CW.cond rfl (fun hc11 => ?_) (fun hc11 => ?_)
  · replace h := bcT h hc11
    refine CW.seq ?_
    refine CW.region ?_
    refine LW.p rfl rfl ?_
    refine LW.nil ?_
    show CW _ _ _ _ _ _
    refine CW.ret ?_
    cases h
    exact And.intro trivial ⟨_, Res.one (resOne.t rfl), rfl, hS5.pick [] rfl rfl⟩
  replace h := bcF h hc11
  refine CW.skip ?_
  show CW _ _ _ _ _ _
  refine CW.seq ?_
  refine CW.region ?_
  refine LW.u (Pur.fa fo75_3 rfl) rfl ?_
  refine LW.ldbN hS5 0 rfl ag71 rfl rfl rfl ?_
  refine LW.p rfl rfl ?_
  replace h := obind h
  obtain ⟨y12, hy12, h⟩ := h
  have q := W_l_heldHeap (w0 := w10) hy12 rfl (hS5.rB hr0_3) rfl (hS5.rB hr0_7)
  refine LW.call pl120 rfl rfl ?_
  refine Ret.mono q ?_
  rintro _ w13 ⟨rfl, hs⟩
  have hS6 := hS5.add hs
  refine LW.p rfl rfl ?_
  refine LW.nil ?_
  show CW _ _ _ _ _ _
  refine CW.fresh (l := [(1, .int .i64 y12), (2, .pointer (some ⟨g1, 0, none⟩))]) ⟨rfl, rfl, trivial⟩ (fun e => ?_)
  refine CW.seq ?_
  refine CW.seq ?_
  refine CW.region ?_
  iterate 2 refine LW.p rfl rfl ?_
  refine LW.nil ?_
  show CW _ _ _ _ _ _
  refine CW.cond rfl (fun hc14 => ?_) (fun hc14 => ?_)
  · replace h := bcT h hc14
    refine CW.seq ?_
    refine CW.region ?_
    refine LW.p rfl rfl ?_
    refine LW.nil ?_
    show CW _ _ _ _ _ _
    refine CW.ret ?_
    cases h
    exact And.intro trivial ⟨_, Res.one (resOne.t rfl), rfl, hS6.pick [] rfl rfl⟩
  replace h := bcF h hc14
  refine CW.skip ?_
  show CW _ _ _ _ _ _
  refine CW.seq ?_
  refine CW.region ?_
  refine LW.u (Pur.fa fo75_4 rfl) rfl ?_
  refine LW.ldb hS6 0 rfl ag72 rfl rfl rfl ?_
  refine LW.p rfl rfl ?_
  replace h := obind h
  obtain ⟨y15, hy15, h⟩ := h
  have q := W_l_heldTapS (w0 := w13) hy15 rfl (hS6.rB hr0_8)
  refine LW.call pl101 rfl rfl ?_
  refine Ret.mono q ?_
  rintro _ w16 ⟨rfl, hs⟩
  have hS7 := hS6.add hs
  refine LW.p rfl rfl ?_
  refine LW.nil ?_
  show CW _ _ _ _ _ _
  refine CW.seq ?_
  refine CW.seq ?_
  refine CW.region ?_
  iterate 2 refine LW.p rfl rfl ?_
  refine LW.nil ?_
  show CW _ _ _ _ _ _
  refine CW.cond rfl (fun hc17 => ?_) (fun hc17 => ?_)
  · replace h := bcT h hc17
    refine CW.seq ?_
    refine CW.region ?_
    refine LW.p rfl rfl ?_
    refine LW.nil ?_
    show CW _ _ _ _ _ _
    refine CW.ret ?_
    cases h
    exact And.intro trivial ⟨_, Res.one (resOne.t rfl), rfl, hS7.pick [] rfl rfl⟩
  replace h := bcF h hc17
  refine CW.skip ?_
  show CW _ _ _ _ _ _
  refine CW.seq ?_
  refine CW.region ?_
  iterate 2 refine LW.p rfl rfl ?_
  refine LW.nil ?_
  show CW _ _ _ _ _ _
  refine CW.ret ?_
  cases h
  exact And.intro trivial ⟨_, Res.one (resOne.t rfl), rfl, hS7.pick [] rfl rfl⟩

end Go.Kx
