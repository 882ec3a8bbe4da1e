/- Each call returns what the plain function says. Printed by drive.py. -/
import Derived.Test.YtdjpppkdngmeaaaGreatFa
import Derived.Test.YtdjpppkdngmeaaaGreatPu
import Derived.Test.YtdjpppkdngmeaaaGreatWa0
import Derived.Test.YtdjpppkdngmeaaaGreatWa1
import Derived.Test.YtdjpppkdngmeaaaGreatWa13
namespace Go.Kx
open Go Go.RowKit Go.Proofs
set_option maxRecDepth 10000
set_option maxHeartbeats 2000000
set_option linter.unusedVariables false
set_option linter.unusedSimpArgs false
theorem W_s_TreeNew {w0 : World} {N : Nat} {x0 : DAmt} {r : (List DRes) × Bool} (h : F_s_TreeNew N x0 = some r) :
    Ret Tryz.prog 125 #[.agg #[.int .i64 x0.pages, .int .i64 x0.rent, .int .i64 x0.cpu]] w0 (fun v w => ∃ ar0 cr0, v = .tuple #[.slice ar0 r.1.length cr0, .bool r.2] ∧ St w0 [] w [sl ar0 cr0 r.1]) := by
  unfold F_s_TreeNew at h
  refine Ret.fn Tryz.func125 fun e => ?_
  have hS1 := St.start w0
  refine go ?_
  refine LW.bo hS1 fun g1 w2 hS2 => ?_
  refine go ?_
  replace ⟨y3, hy3, h⟩ := obind h
  refine LW.c0 (W_s_AmtOk hy3) hS2 fun w4 hS3 => ?_
  refine go ?_
  refine CW.cond rfl (fun hc5 => ?_) (fun hc5 => ?_)
  · replace h := bcT h hc5
    refine go ?_
    refine LW.bsl (α := DRes) (vs := []) (cs := #[]) (l := ([] : List DRes)) rfl (by kernel_rfl) rfl rfl rfl (fun w => rfl) hS3 rfl ?_
    intro a6 c7 w8 hS4 hf
    refine go ?_
    cases h
    exact And.intro trivial ⟨_, Res.two (resOne.t rfl) (resOne.t rfl), a6, c7, rfl, hS4.pick [0] rfl rfl⟩
  replace h := bcF h hc5
  refine go ?_
  replace ⟨y9, hy9, h⟩ := obind h
  refine LW.mk sT39 rfl rfl hy9 hS3 rfl ?_
  intro a10 c11 w12 hS5 hf
  refine go ?_
  refine LW.u (Pur.build (vs := [(0, .bool true), (1, .int .i64 (-1)), (2, .agg #[.int .i64 x0.pages, .int .i64 x0.rent, .int .i64 x0.cpu])]) (cs := #[.bool true, .int .i64 (-1), .int .i64 x0.pages, .int .i64 x0.rent, .int .i64 x0.cpu]) rfl (by kernel_rfl)) rfl ?_
  replace ⟨y13, hy13, h⟩ := obind h
  obtain ⟨b16, o17, hae, hp14, hq15⟩ := hS5.ownIdx (α := DRes) (i := 0) rfl hy13
  subst hae
  refine LW.u (Pur.ix Tryz.underlying39 sz87 rfl rfl hp14 hq15) rfl ?_
  replace ⟨y18, hy18, h⟩ := obind h
  refine LW.stE (M := []) (L := [sl (some ⟨b16, o17, none⟩) c11 y9, bx g1 45 [.int .i64 x0.pages, .int .i64 x0.rent, .int .i64 x0.cpu]]) (z := y13) (z' := (DRes.mk true (-1) x0)) (o := 0) hS5 (i := 0) rfl hy13 ag87 rfl (by show _ = o17 + (0 : Int).toNat * 5 + 0; omega) rfl rfl rfl rfl (whole (fun w G hG => by cases (show G = [] from hG); exact ⟨rfl, rfl⟩)) ?_
  intro w19 hS6 hf
  rw [Option.some.inj hy18] at hS6
  refine go ?_
  replace h := Option.some.inj h
  subst h
  exact And.intro trivial ⟨_, Res.two (resOne.t rfl) (resOne.t rfl), (some ⟨b16, o17, none⟩), c11, (show (.tuple #[.slice (some ⟨b16, o17, none⟩) y9.length c11, .bool true] : Value) = .tuple #[.slice (some ⟨b16, o17, none⟩) y18.length c11, .bool true] by rw [show y9.length = y18.length from (len_set (Option.some.inj hy18))]), hS6.pick [0] rfl rfl⟩

theorem W_s_ArenaNew {w0 : World} {N : Nat} {r : (List DObj)} (h : F_s_ArenaNew N = some r) :
    Ret Tryz.prog 127 #[] w0 (fun v w => ∃ ar0 cr0, v = .slice ar0 r.length cr0 ∧ St w0 [] w [sl ar0 cr0 r]) := by
  unfold F_s_ArenaNew at h
  refine Ret.fn Tryz.func127 fun e => ?_
  have hS1 := St.start w0
  refine go ?_
  replace ⟨y1, hy1, h⟩ := obind h
  refine LW.mk sT40 rfl rfl hy1 hS1 rfl ?_
  intro a2 c3 w4 hS2 hf
  refine go ?_
  refine LW.bsl (α := Int) (vs := [(0, .int .i64 (-1)), (1, .int .i64 (-1))]) (cs := #[.int .i64 (-1), .int .i64 (-1)]) (l := ([-1, -1] : List Int)) rfl (by kernel_rfl) rfl rfl rfl (fun w => ⟨[.int .i64 (-1)], [.int .i64 (-1)], [], [], rfl, rfl, ⟨rfl, rfl⟩, ⟨[.int .i64 (-1)], [], [], [], rfl, rfl, ⟨rfl, rfl⟩, rfl⟩⟩) hS2 rfl ?_
  intro a5 c6 w7 hS3 hf
  refine LW.u (Pur.build (vs := [(1, .int .i64 1), (2, .int .i64 (-1)), (4, .int .i64 1000000), (10, .slice a5 (([-1, -1] : List Int).length) c6)]) (cs := #[.int .i64 0, .int .i64 1, .int .i64 (-1), .int .i64 0, .int .i64 1000000, .int .i64 0, .int .i64 0, .int .i64 0, .int .i64 0, .bool false, .slice a5 (([-1, -1] : List Int).length) c6, .slice none 0 0, .slice none 0 0]) rfl (by kernel_rfl)) rfl ?_
  replace ⟨y8, hy8, h⟩ := obind h
  obtain ⟨b11, o12, hae, hp9, hq10⟩ := hS3.ownIdx (α := DObj) (i := 1) rfl hy8
  subst hae
  refine LW.u (Pur.ix Tryz.underlying40 sz85 rfl rfl hp9 hq10) rfl ?_
  have hS4 := hS3.nil (α := Int)
  have hS5 := hS4.nil (α := DMsg)
  have hS6 := hS5.pick (M := [sl a5 c6 ([-1, -1] : List Int), sl none 0 [], sl none 0 []] ++ [sl (some ⟨b11, o12, none⟩) c3 y1]) [2, 1, 0, 3] rfl rfl
  replace ⟨y13, hy13, h⟩ := obind h
  refine LW.stE (M := [sl a5 c6 ([-1, -1] : List Int), sl none 0 [], sl none 0 []]) (L := [sl (some ⟨b11, o12, none⟩) c3 y1]) (z := y8) (z' := (DObj.mk 0 1 (-1) 0 1000000 0 0 0 0 false ([-1, -1] : List Int) [] [])) (o := 0) hS6 (i := 0) rfl hy8 ag85 rfl (by show _ = o12 + (0 : Int).toNat * 13 + 0; omega) rfl rfl rfl rfl (whole (fun w G hG => ⟨a5, c6, none, 0, none, 0, rfl, hG⟩)) ?_
  intro w14 hS7 hf
  rw [Option.some.inj hy13] at hS7
  refine go ?_
  replace h := Option.some.inj h
  subst h
  exact And.intro trivial ⟨_, Res.one (resOne.t rfl), (some ⟨b11, o12, none⟩), c3, (show (.slice (some ⟨b11, o12, none⟩) y1.length c3 : Value) = .slice (some ⟨b11, o12, none⟩) y13.length c3 by rw [show y1.length = y13.length from (len_set (Option.some.inj hy13))]), hS7.pick [0] rfl rfl⟩

theorem W_s_l8Obj {w0 : World} {N : Nat} {x0 : DObj} {r : DObj} (h : F_s_l8Obj N x0 = some r) {a0_10 : Option Addr} {n0_10 c0_10 : Nat} (hn0_10 : n0_10 = x0.links.length) (hr0_10 : rdS (Bor w0 []) w0 a0_10 c0_10 x0.links) {a0_11 : Option Addr} {n0_11 c0_11 : Nat} (hn0_11 : n0_11 = x0.data.length) (hr0_11 : rdS (Bor w0 []) w0 a0_11 c0_11 x0.data) {a0_12 : Option Addr} {n0_12 c0_12 : Nat} (hn0_12 : n0_12 = x0.queue.length) (hr0_12 : rdS (Bor w0 []) w0 a0_12 c0_12 x0.queue) :
    Ret Tryz.prog 164 #[.agg #[.int .i64 x0.gen, .int .i64 x0.kind, .int .i64 x0.box, .int .i64 x0.res, .int .i64 x0.til, .int .i64 x0.pages, .int .i64 x0.wait, .int .i64 x0.got, .int .i64 x0.ran, .bool x0.mark, .slice a0_10 n0_10 c0_10, .slice a0_11 n0_11 c0_11, .slice a0_12 n0_12 c0_12]] w0 (fun v w => ∃ ar0_10 cr0_10, ∃ ar0_11 cr0_11, ∃ ar0_12 cr0_12, v = .agg #[.int .i64 r.gen, .int .i64 r.kind, .int .i64 r.box, .int .i64 r.res, .int .i64 r.til, .int .i64 r.pages, .int .i64 r.wait, .int .i64 r.got, .int .i64 r.ran, .bool r.mark, .slice ar0_10 r.links.length cr0_10, .slice ar0_11 r.data.length cr0_11, .slice ar0_12 r.queue.length cr0_12] ∧ St w0 [] w [sl ar0_10 cr0_10 r.links, sl ar0_11 cr0_11 r.data, sl ar0_12 cr0_12 r.queue]) := by
  subst hn0_10 hn0_11 hn0_12
  unfold F_s_l8Obj at h
  refine Ret.fn Tryz.func164 fun e => ?_
  have hS1 := St.start w0
  refine go ?_
  refine LW.bo hS1 fun g1 w2 hS2 => ?_
  refine LW.al hS2 fun g3 w4 hS3 => ?_
  refine go ?_
  refine LW.bsl (α := Int) (vs := []) (cs := #[]) (l := ([] : List Int)) rfl (by kernel_rfl) rfl rfl rfl (fun w => rfl) hS3 rfl ?_
  intro a5 c6 w7 hS4 hf
  refine go ?_
  replace ⟨y8, hy8, h⟩ := obind h
  refine LW.appN (l := ([] : List Int)) (m := x0.links) sT22 rfl rfl (hS4.rB hr0_10) hy8 hS4 (i := 0) rfl rfl ?_
  intro a9 c10 w11 hS5 hf
  refine go ?_
  refine LW.st hS5 2 fun w12 hS6 => ?_
  refine go ?_
  refine LW.bsl (α := Int) (vs := []) (cs := #[]) (l := ([] : List Int)) rfl (by kernel_rfl) rfl rfl rfl (fun w => rfl) hS6 rfl ?_
  intro a13 c14 w15 hS7 hf
  refine go ?_
  replace ⟨y16, hy16, h⟩ := obind h
  refine LW.appN (l := ([] : List Int)) (m := x0.data) sT22 rfl rfl (hS7.rB hr0_11) hy16 hS7 (i := 0) rfl rfl ?_
  intro a17 c18 w19 hS8 hf
  refine go ?_
  refine LW.st hS8 3 fun w20 hS9 => ?_
  refine go ?_
  refine LW.bsl (α := DMsg) (vs := []) (cs := #[]) (l := ([] : List DMsg)) rfl (by kernel_rfl) rfl rfl rfl (fun w => rfl) hS9 rfl ?_
  intro a21 c22 w23 hS10 hf
  refine go ?_
  replace ⟨y24, hy24, h⟩ := obind h
  refine LW.appN (l := ([] : List DMsg)) (m := x0.queue) sT83 rfl rfl (hS10.rB hr0_12) hy24 hS10 (i := 0) rfl rfl ?_
  intro a25 c26 w27 hS11 hf
  refine go ?_
  refine LW.st hS11 4 fun w28 hS12 => ?_
  refine go ?_
  refine LW.st hS12 3 fun w29 hS13 => ?_
  refine go ?_
  cases h
  exact And.intro trivial ⟨_, Res.one (resOne.b hS13 3 rfl ag85 rfl rfl), a9, c10, a17, c18, a25, c26, rfl, hS13.pick [2, 1, 0] rfl rfl⟩

theorem W_s_l8Copy {w0 : World} {N : Nat} {x0 : List DObj} {r : (List DObj)} (h : F_s_l8Copy N x0 = some r) {a0_0 : Option Addr} {n0_0 c0_0 : Nat} (hn0_0 : n0_0 = x0.length) (hr0_0 : rdS (Bor w0 []) w0 a0_0 c0_0 x0) :
    Ret Tryz.prog 163 #[.slice a0_0 n0_0 c0_0] w0 (fun v w => ∃ ar0 cr0, v = .slice ar0 r.length cr0 ∧ St w0 [] w [sl ar0 cr0 r]) := by
  subst hn0_0
  unfold F_s_l8Copy at h
  refine Ret.fn Tryz.func163 fun e => ?_
  have hS1 := St.start w0
  refine go ?_
  refine LW.bsl (α := DObj) (vs := []) (cs := #[]) (l := ([] : List DObj)) rfl (by kernel_rfl) rfl rfl rfl (fun w => rfl) hS1 rfl ?_
  intro a1 c2 w3 hS2 hf
  refine go ?_
  obtain ⟨o38, ho38, h39⟩ := obind h
  refine CW.mono (CW.iter (σ := (List DObj) × Int) (ρ := (List DObj) × Int) (fun s4 e wb => ∃ (s4a0 : Option Addr), ∃ (s4c0 : Nat), En e [(0, .slice a0_0 x0.length c0_0), (3, .slice s4a0 s4.1.length s4c0), (4, .int .i64 s4.2)] ∧ St w0 [] wb [sl s4a0 s4c0 s4.1]) (fun s4 x e wb => x = .exit 0 ∧ ∃ (s4a0 : Option Addr), ∃ (s4c0 : Nat), En e [(3, .slice s4a0 s4.1.length s4c0)] ∧ St w0 [] wb [sl s4a0 s4c0 s4.1]) ?_ N (([] : List DObj), 0) _ _ _ ⟨a1, c2, ⟨rfl, rfl, rfl, trivial⟩, hS2.pick [0] rfl rfl⟩ ho38) ?_
  · intro s4 e w5 o hM h
    obtain ⟨s4a0, s4c0, hE, hS3⟩ := hM
    obtain ⟨e, rfl⟩ := hE.out
    refine go ?_
    refine CW.cond rfl (fun hc6 => ?_) (fun hc6 => ?_)
    · replace h := bcT h hc6
      refine go ?_
      replace ⟨y7, hy7, h⟩ := obind h
      obtain ⟨b10, o11, cs12, hae, hb15, hp8, hq9, hd13, hk14⟩ := hr0_0.idx hy7
      subst hae
      obtain ⟨a16, c17, a19, c20, a22, c23, rfl, hr18, hr21, hr24⟩ := hd13
      refine LW.u (Pur.ix Tryz.underlying40 sz85 rfl rfl hp8 hq9) rfl ?_
      refine LW.l (Ldr.oldN w0 ag85 rfl rfl (fun j u hu => hk14 j u hu)) (hS3.same _ hb15.1 hb15.2) rfl ?_
      replace ⟨y25, hy25, h⟩ := obind h
      refine LW.cl (W_s_l8Obj hy25 rfl (hS3.rB hr18) rfl (hS3.rB hr21) rfl (hS3.rB hr24)) ?_
      rintro _ w32 ⟨a26, c27, a28, c29, a30, c31, rfl, hs⟩
      have hS4 := hS3.add hs
      have hS5 := hS4.pick (M := [sl a26 c27 y25.links, sl a28 c29 y25.data, sl a30 c31 y25.queue] ++ [sl s4a0 s4c0 s4.1]) [0, 1, 2, 3] rfl rfl
      replace ⟨y33, hy33, h⟩ := obind h
      refine LW.app1 (M := [sl a26 c27 y25.links, sl a28 c29 y25.data, sl a30 c31 y25.queue]) (L := [sl s4a0 s4c0 s4.1]) (vs := #[.int .i64 y25.gen, .int .i64 y25.kind, .int .i64 y25.box, .int .i64 y25.res, .int .i64 y25.til, .int .i64 y25.pages, .int .i64 y25.wait, .int .i64 y25.got, .int .i64 y25.ran, .bool y25.mark, .slice a26 y25.links.length c27, .slice a28 y25.data.length c29, .slice a30 y25.queue.length c31]) (i := 0) sT40 rfl (by kernel_rfl) rfl rfl hy33 hS5 rfl (fun w G hG => ⟨a26, c27, a28, c29, a30, c31, rfl, hG⟩) rfl rfl ?_
      intro v36 a34 c35 w37 hS6 hf
      refine go ?_
      cases oi h
      exact ⟨rfl, ⟨a34, c35, ⟨rfl, rfl, rfl, trivial⟩, hS6.pick [0] rfl rfl⟩⟩
    replace h := bcF h hc6
    refine go ?_
    cases oi h
    exact ⟨trivial, rfl, ⟨s4a0, s4c0, ⟨rfl, trivial⟩, hS3.pick [0] rfl rfl⟩⟩
  intro x e w40 hM
  obtain ⟨rfl, hM⟩ := hM
  obtain ⟨s4a0, s4c0, hE, hS7⟩ := hM
  obtain ⟨e, rfl⟩ := hE.out
  have h := h39
  refine go ?_
  cases h
  exact And.intro trivial ⟨_, Res.one (resOne.t rfl), s4a0, s4c0, rfl, hS7.pick [0] rfl rfl⟩

theorem W_s_ArenaPut {w0 : World} {N : Nat} {x0 : List DObj} {x1 : DObj} {r : (List DObj) × Int} (h : F_s_ArenaPut N x0 x1 = some r) {a0_0 : Option Addr} {n0_0 c0_0 : Nat} (hn0_0 : n0_0 = x0.length) (hr0_0 : rdS (Bor w0 []) w0 a0_0 c0_0 x0) {a1_10 : Option Addr} {n1_10 c1_10 : Nat} (hn1_10 : n1_10 = x1.links.length) (hr1_10 : rdS (Bor w0 []) w0 a1_10 c1_10 x1.links) {a1_11 : Option Addr} {n1_11 c1_11 : Nat} (hn1_11 : n1_11 = x1.data.length) (hr1_11 : rdS (Bor w0 []) w0 a1_11 c1_11 x1.data) {a1_12 : Option Addr} {n1_12 c1_12 : Nat} (hn1_12 : n1_12 = x1.queue.length) (hr1_12 : rdS (Bor w0 []) w0 a1_12 c1_12 x1.queue) :
    Ret Tryz.prog 126 #[.slice a0_0 n0_0 c0_0, .agg #[.int .i64 x1.gen, .int .i64 x1.kind, .int .i64 x1.box, .int .i64 x1.res, .int .i64 x1.til, .int .i64 x1.pages, .int .i64 x1.wait, .int .i64 x1.got, .int .i64 x1.ran, .bool x1.mark, .slice a1_10 n1_10 c1_10, .slice a1_11 n1_11 c1_11, .slice a1_12 n1_12 c1_12]] w0 (fun v w => ∃ ar0 cr0, v = .tuple #[.slice ar0 r.1.length cr0, .int .i64 r.2] ∧ St w0 [] w [sl ar0 cr0 r.1]) := by
  subst hn0_0 hn1_10 hn1_11 hn1_12
  unfold F_s_ArenaPut at h
  refine Ret.fn Tryz.func126 fun e => ?_
  have hS1 := St.start w0
  refine go ?_
  refine LW.bo hS1 fun g1 w2 hS2 => ?_
  refine go ?_
  replace ⟨y3, hy3, h⟩ := obind h
  refine LW.cl (W_s_l8Copy hy3 rfl (hS2.rB hr0_0)) ?_
  rintro _ w6 ⟨a4, c5, rfl, hs⟩
  have hS3 := hS2.add hs
  refine go ?_
  replace ⟨y7, hy7, h⟩ := obind h
  refine LW.c0 (W_s_ArenaOk hy7 rfl (hS3.rB hr0_0)) hS3 fun w8 hS4 => ?_
  refine go ?_
  refine CW.cond rfl (fun hc9 => ?_) (fun hc9 => ?_)
  · replace h := bcT h hc9
    refine go ?_
    cases h
    exact And.intro trivial ⟨_, Res.two (resOne.t rfl) (resOne.t rfl), a4, c5, rfl, hS4.pick [0] rfl rfl⟩
  replace h := bcF h hc9
  refine go ?_
  obtain ⟨o84, ho84, h85⟩ := obind h
  refine CW.mono (CW.iter (σ := Int) (ρ := Int ⊕ ((List DObj) × Int)) (fun s10 e wb => En e [(0, .slice a0_0 x0.length c0_0), (3, .pointer (some ⟨g1, 0, none⟩)), (6, .slice a4 y3.length c5), (7, .int .i64 s10)] ∧ St w0 [] wb [sl a4 c5 y3, bx g1 85 [.int .i64 x1.gen, .int .i64 x1.kind, .int .i64 x1.box, .int .i64 x1.res, .int .i64 x1.til, .int .i64 x1.pages, .int .i64 x1.wait, .int .i64 x1.got, .int .i64 x1.ran, .bool x1.mark, .slice a1_10 x1.links.length c1_10, .slice a1_11 x1.data.length c1_11, .slice a1_12 x1.queue.length c1_12]]) (fun o x e wb => match o with | .inl s10 => x = .exit 0 ∧ En e [(6, .slice a4 y3.length c5)] ∧ St w0 [] wb [sl a4 c5 y3, bx g1 85 [.int .i64 x1.gen, .int .i64 x1.kind, .int .i64 x1.box, .int .i64 x1.res, .int .i64 x1.til, .int .i64 x1.pages, .int .i64 x1.wait, .int .i64 x1.got, .int .i64 x1.ran, .bool x1.mark, .slice a1_10 x1.links.length c1_10, .slice a1_11 x1.data.length c1_11, .slice a1_12 x1.queue.length c1_12]] | .inr r => x = .ret ∧ ∃ u, u = r ∧ ∃ v, Res Tryz.prog Tryz.f126.results e wb v ∧ ∃ ar0 cr0, v = .tuple #[.slice ar0 u.1.length cr0, .int .i64 u.2] ∧ St w0 [] wb [sl ar0 cr0 u.1]) ?_ N 1 _ _ _ ⟨⟨rfl, rfl, rfl, rfl, trivial⟩, hS4.pick [0, 1] rfl rfl⟩ ho84) ?_
  · intro s10 e w11 o hM h
    obtain ⟨hE, hS5⟩ := hM
    obtain ⟨e, rfl⟩ := hE.out
    refine go ?_
    refine CW.fl [0, 3, 6, 7, 18] fun e => ?_
    refine CW.cond rfl (fun hc12 => ?_) (fun hc12 => ?_)
    · replace h := bcT h hc12
      refine gs ?_
      refine CW.block ?_
      refine gs ?_
      obtain ⟨j13, hj13, h14⟩ := obind h
      refine CW.cut (fun e wb => En e [(0, .slice a0_0 x0.length c0_0), (3, .pointer (some ⟨g1, 0, none⟩)), (6, .slice a4 y3.length c5), (7, .int .i64 s10), (34, .bool j13)] ∧ St w0 [] wb [sl a4 c5 y3, bx g1 85 [.int .i64 x1.gen, .int .i64 x1.kind, .int .i64 x1.box, .int .i64 x1.res, .int .i64 x1.til, .int .i64 x1.pages, .int .i64 x1.wait, .int .i64 x1.got, .int .i64 x1.ran, .bool x1.mark, .slice a1_10 x1.links.length c1_10, .slice a1_11 x1.data.length c1_11, .slice a1_12 x1.queue.length c1_12]]) ?_ ?_
      · have h := hj13
        refine go ?_
        replace ⟨y15, hy15, h⟩ := obind h
        obtain ⟨b18, o19, cs20, hae, hb23, hp16, hq17, hd21, hk22⟩ := hr0_0.idx hy15
        subst hae
        obtain ⟨a24, c25, a27, c28, a30, c31, rfl, hr26, hr29, hr32⟩ := hd21
        refine LW.u (Pur.ix Tryz.underlying40 sz85 rfl rfl hp16 hq17) rfl ?_
        refine go ?_
        refine LW.l (Ldr.old w0 ag3 rfl (hk22 1 _ rfl)) (hS5.same _ hb23.1 hb23.2) rfl ?_
        refine go ?_
        rcases bcases (y15.kind != 0) with hc33 | hc33
        · replace h := bcT h hc33
          refine go ?_
          cases oi h
          exact ⟨⟨rfl, rfl, rfl, rfl, rfl, trivial⟩, hS5.pick [0, 1] rfl rfl⟩
        replace h := bcF h hc33
        refine go ?_
        refine LW.u (Pur.ix Tryz.underlying40 sz85 rfl rfl hp16 hq17) rfl ?_
        refine go ?_
        refine LW.l (Ldr.old w0 ag3 rfl (hk22 0 _ rfl)) (hS5.same _ hb23.1 hb23.2) rfl ?_
        refine go ?_
        cases oi h
        exact ⟨⟨rfl, rfl, rfl, rfl, rfl, trivial⟩, hS5.pick [0, 1] rfl rfl⟩
      rintro e w34 ⟨hE, hS6⟩
      obtain ⟨e, rfl⟩ := hE.out
      have h := h14
      refine go ?_
      refine CW.cond rfl (fun hc35 => ?_) (fun hc35 => ?_)
      · replace h := bcT h hc35
        refine go ?_
        cases oi h
        exact ⟨rfl, ⟨⟨rfl, rfl, rfl, rfl, trivial⟩, hS6.pick [0, 1] rfl rfl⟩⟩
      replace h := bcF h hc35
      refine go ?_
      replace ⟨y36, hy36, h⟩ := obind h
      refine LW.cl (W_s_l8Obj hy36 rfl (hS6.rB hr1_10) rfl (hS6.rB hr1_11) rfl (hS6.rB hr1_12)) ?_
      rintro _ w43 ⟨a37, c38, a39, c40, a41, c42, rfl, hs⟩
      have hS7 := hS6.add hs
      refine LW.al hS7 fun g44 w45 hS8 => ?_
      refine LW.st hS8 0 fun w46 hS9 => ?_
      refine go ?_
      replace ⟨y47, hy47, h⟩ := obind h
      obtain ⟨b50, o51, cs52, hae, hb55, hp48, hq49, hd53, hk54⟩ := hr0_0.idx hy47
      subst hae
      obtain ⟨a56, c57, a59, c60, a62, c63, rfl, hr58, hr61, hr64⟩ := hd53
      refine LW.u (Pur.ix Tryz.underlying40 sz85 rfl rfl hp48 hq49) rfl ?_
      refine go ?_
      refine LW.l (Ldr.old w0 ag3 rfl (hk54 0 _ rfl)) (hS9.same _ hb55.1 hb55.2) rfl ?_
      refine go ?_
      refine LW.st hS9 0 fun w65 hS10 => ?_
      refine go ?_
      replace ⟨y66, hy66, h⟩ := obind h
      obtain ⟨b69, o70, hae, hp67, hq68⟩ := hS10.ownIdx (α := DObj) (i := 4) rfl hy66
      subst hae
      refine LW.u (Pur.ix Tryz.underlying40 sz85 rfl rfl hp67 hq68) rfl ?_
      have hS11 := hS10.pick (M := [sl a37 c38 y36.links, sl a39 c40 y36.data, sl a41 c42 y36.queue] ++ [bx g44 85 [.int .i64 (IntKind.i64.wrap (y47.gen + 1)), .int .i64 y36.kind, .int .i64 y36.box, .int .i64 y36.res, .int .i64 y36.til, .int .i64 y36.pages, .int .i64 y36.wait, .int .i64 y36.got, .int .i64 y36.ran, .bool y36.mark, .slice a37 y36.links.length c38, .slice a39 y36.data.length c40, .slice a41 y36.queue.length c42], sl (some ⟨b69, o70, none⟩) c5 y3, bx g1 85 [.int .i64 x1.gen, .int .i64 x1.kind, .int .i64 x1.box, .int .i64 x1.res, .int .i64 x1.til, .int .i64 x1.pages, .int .i64 x1.wait, .int .i64 x1.got, .int .i64 x1.ran, .bool x1.mark, .slice a1_10 x1.links.length c1_10, .slice a1_11 x1.data.length c1_11, .slice a1_12 x1.queue.length c1_12]]) [1, 2, 3, 0, 4, 5] rfl rfl
      replace ⟨y71, hy71, h⟩ := obind h
      refine LW.stE (M := [sl a37 c38 y36.links, sl a39 c40 y36.data, sl a41 c42 y36.queue]) (L := [bx g44 85 [.int .i64 (IntKind.i64.wrap (y47.gen + 1)), .int .i64 y36.kind, .int .i64 y36.box, .int .i64 y36.res, .int .i64 y36.til, .int .i64 y36.pages, .int .i64 y36.wait, .int .i64 y36.got, .int .i64 y36.ran, .bool y36.mark, .slice a37 y36.links.length c38, .slice a39 y36.data.length c40, .slice a41 y36.queue.length c42], sl (some ⟨b69, o70, none⟩) c5 y3, bx g1 85 [.int .i64 x1.gen, .int .i64 x1.kind, .int .i64 x1.box, .int .i64 x1.res, .int .i64 x1.til, .int .i64 x1.pages, .int .i64 x1.wait, .int .i64 x1.got, .int .i64 x1.ran, .bool x1.mark, .slice a1_10 x1.links.length c1_10, .slice a1_11 x1.data.length c1_11, .slice a1_12 x1.queue.length c1_12]]) (z := y66) (z' := (DObj.mk (IntKind.i64.wrap (y47.gen + 1)) y36.kind y36.box y36.res y36.til y36.pages y36.wait y36.got y36.ran y36.mark y36.links y36.data y36.queue)) (o := 0) hS11 (i := 1) rfl hy66 ag85 rfl (by show _ = o70 + (s10 : Int).toNat * 13 + 0; omega) rfl rfl rfl rfl (whole (fun w G hG => ⟨a37, c38, a39, c40, a41, c42, rfl, hG⟩)) ?_
      intro w72 hS12 hf
      rw [Option.some.inj hy71] at hS12
      refine gs ?_
      obtain ⟨j73, hj73, h74⟩ := obind h
      refine CW.cut (fun e wb => En e [(0, .slice (some ⟨b50, o51, none⟩) x0.length c0_0), (6, .slice (some ⟨b69, o70, none⟩) y3.length c5), (7, .int .i64 s10), (55, .bool j73)] ∧ St w0 [] wb [sl (some ⟨b69, o70, none⟩) c5 y71]) ?_ ?_
      · have h := hj73
        refine go ?_
        replace ⟨y75, hy75, h⟩ := obind h
        refine LW.c0 (W_s_ArenaOk hy75 (show y3.length = y71.length from (len_set (Option.some.inj hy71))) (hS12.rI 1 rfl)) hS12 fun w76 hS13 => ?_
        refine go ?_
        rcases bcases (!y75) with hc77 | hc77
        · replace h := bcT h hc77
          refine go ?_
          cases oi h
          exact ⟨⟨rfl, rfl, rfl, rfl, trivial⟩, hS13.pick [1] rfl rfl⟩
        replace h := bcF h hc77
        refine go ?_
        cases oi h
        exact ⟨⟨rfl, rfl, rfl, rfl, trivial⟩, hS13.pick [1] rfl rfl⟩
      rintro e w78 ⟨hE, hS14⟩
      obtain ⟨e, rfl⟩ := hE.out
      have h := h74
      refine go ?_
      refine CW.fl [0, 6, 7, 55] fun e => ?_
      refine CW.cond rfl (fun hc79 => ?_) (fun hc79 => ?_)
      · replace h := bcT h hc79
        refine go ?_
        replace ⟨y80, hy80, h⟩ := obind h
        refine LW.cl (W_s_l8Copy hy80 rfl (hS14.rB hr0_0)) ?_
        rintro _ w83 ⟨a81, c82, rfl, hs⟩
        have hS15 := hS14.add hs
        refine go ?_
        cases oi h
        exact ⟨trivial, rfl, _, rfl, ⟨_, Res.two (resOne.t rfl) (resOne.t rfl), a81, c82, rfl, hS15.pick [0] rfl rfl⟩⟩
      replace h := bcF h hc79
      refine go ?_
      cases oi h
      exact ⟨trivial, rfl, _, rfl, ⟨_, Res.two (resOne.t rfl) (resOne.t rfl), (some ⟨b69, o70, none⟩), c5, (show (.tuple #[.slice (some ⟨b69, o70, none⟩) y3.length c5, .int .i64 s10] : Value) = .tuple #[.slice (some ⟨b69, o70, none⟩) y71.length c5, .int .i64 s10] by rw [show y3.length = y71.length from (len_set (Option.some.inj hy71))]), hS14.pick [0] rfl rfl⟩⟩
    replace h := bcF h hc12
    refine go ?_
    cases oi h
    exact ⟨trivial, rfl, ⟨⟨rfl, trivial⟩, hS5.pick [0, 1] rfl rfl⟩⟩
  intro x e w86 hM
  rcases o84 with o84 | r87
  · obtain ⟨rfl, hM⟩ := hM
    obtain ⟨hE, hS16⟩ := hM
    obtain ⟨e, rfl⟩ := hE.out
    have h := h85
    refine go ?_
    cases h
    exact And.intro trivial ⟨_, Res.two (resOne.t rfl) (resOne.t rfl), a4, c5, rfl, hS16.pick [0] rfl rfl⟩
  obtain ⟨rfl, u, rfl, hM⟩ := hM
  cases h85
  exact And.intro trivial hM

theorem W_s_GcNew {w0 : World} {N : Nat} {r : DGc} (h : F_s_GcNew N = some r) :
    Ret Tryz.prog 129 #[] w0 (fun v w => ∃ ar0_3 cr0_3, v = .agg #[.int .i64 r.phase, .int .i64 r.pos, .int .i64 r.round, .slice ar0_3 r.grey.length cr0_3] ∧ St w0 [] w [sl ar0_3 cr0_3 r.grey]) := by
  unfold F_s_GcNew at h
  refine Ret.fn Tryz.func129 fun e => ?_
  have hS1 := St.start w0
  refine go ?_
  refine LW.al hS1 fun g1 w2 hS2 => ?_
  refine go ?_
  refine LW.bsl (α := Int) (vs := [(0, .int .i64 0)]) (cs := #[.int .i64 0]) (l := ([0] : List Int)) rfl (by kernel_rfl) rfl rfl rfl (fun w => ⟨[.int .i64 0], [], [], [], rfl, rfl, ⟨rfl, rfl⟩, rfl⟩) hS2 rfl ?_
  intro a3 c4 w5 hS3 hf
  refine LW.u (Pur.build (vs := [(3, .slice a3 (([0] : List Int).length) c4)]) (cs := #[.int .i64 0, .int .i64 0, .int .i64 0, .slice a3 (([0] : List Int).length) c4]) rfl (by kernel_rfl)) rfl ?_
  refine LW.st hS3 1 fun w6 hS4 => ?_
  refine go ?_
  cases h
  exact And.intro trivial ⟨_, Res.one (resOne.b hS4 1 rfl ag41 rfl rfl), a3, c4, rfl, hS4.pick [0] rfl rfl⟩

theorem W_s_l10Copy {w0 : World} {N : Nat} {x0 : DHeap} {r : DHeap} (h : F_s_l10Copy N x0 = some r) {a0_0 : Option Addr} {n0_0 c0_0 : Nat} (hn0_0 : n0_0 = x0.arena.length) (hr0_0 : rdS (Bor w0 []) w0 a0_0 c0_0 x0.arena) {a0_4 : Option Addr} {n0_4 c0_4 : Nat} (hn0_4 : n0_4 = x0.gc.grey.length) (hr0_4 : rdS (Bor w0 []) w0 a0_4 c0_4 x0.gc.grey) :
    Ret Tryz.prog 165 #[.agg #[.slice a0_0 n0_0 c0_0, .int .i64 x0.gc.phase, .int .i64 x0.gc.pos, .int .i64 x0.gc.round, .slice a0_4 n0_4 c0_4]] w0 (fun v w => ∃ ar0_0 cr0_0, ∃ ar0_4 cr0_4, v = .agg #[.slice ar0_0 r.arena.length cr0_0, .int .i64 r.gc.phase, .int .i64 r.gc.pos, .int .i64 r.gc.round, .slice ar0_4 r.gc.grey.length cr0_4] ∧ St w0 [] w [sl ar0_0 cr0_0 r.arena, sl ar0_4 cr0_4 r.gc.grey]) := by
  subst hn0_0 hn0_4
  unfold F_s_l10Copy at h
  refine Ret.fn Tryz.func165 fun e => ?_
  have hS1 := St.start w0
  refine go ?_
  refine LW.bo hS1 fun g1 w2 hS2 => ?_
  refine LW.al hS2 fun g3 w4 hS3 => ?_
  refine go ?_
  refine LW.al hS3 fun g5 w6 hS4 => ?_
  refine LW.st hS4 0 fun w7 hS5 => ?_
  refine go ?_
  refine LW.bsl (α := Int) (vs := []) (cs := #[]) (l := ([] : List Int)) rfl (by kernel_rfl) rfl rfl rfl (fun w => rfl) hS5 rfl ?_
  intro a8 c9 w10 hS6 hf
  refine go ?_
  replace ⟨y11, hy11, h⟩ := obind h
  refine LW.appN (l := ([] : List Int)) (m := x0.gc.grey) sT22 rfl rfl (hS6.rB hr0_4) hy11 hS6 (i := 0) rfl rfl ?_
  intro a12 c13 w14 hS7 hf
  refine go ?_
  refine LW.st hS7 1 fun w15 hS8 => ?_
  refine go ?_
  refine CW.draw (by kernel_rfl) ?_
  have hS9 := hS8.drew
  refine AW.u (i := 0) rfl (by kernel_rfl) rfl rfl (Pur.fa fo43_0 rfl) ?_
  refine AW.take (i := 1) rfl (by kernel_rfl) rfl rfl (Ldr.box (bt := 43) (fr := (0, 0)) (cs := [.slice a0_0 x0.arena.length c0_0, .int .i64 x0.gc.phase, .int .i64 x0.gc.pos, .int .i64 x0.gc.round, .slice a0_4 x0.gc.grey.length c0_4]) ag40 rfl rfl) (St.cell (h := hS9) (i := 3) rfl) ?_
  refine AW.take (i := 3) rfl (by kernel_rfl) rfl rfl (Ldr.boxN (bt := 41) (fr := (0, 0)) (cs := [.int .i64 x0.gc.phase, .int .i64 x0.gc.pos, .int .i64 x0.gc.round, .slice a12 y11.length c13]) ag41 rfl rfl) (St.cell (h := hS9) (i := 1) rfl) ?_
  replace ⟨y16, hy16, h⟩ := obind h
  have q := W_s_l8Copy (w0 := w15.drew) hy16 rfl (hS9.rB hr0_0)
  refine AW.one (i := 2) (by kernel_rfl) ?_
  refine ⟨_, rfl, ?_⟩
  refine LW.call pl163 rfl rfl ?_
  refine Ret.mono q ?_
  rintro _ w19 ⟨a17, c18, rfl, hs⟩
  have hS10 := hS9.add hs
  refine LW.nil ⟨rfl, (.c (St.cell (h := hS10) (i := 2) rfl) (.w (by kernel_rfl) Kept.n)), ?_⟩
  refine AW.u (i := 4) rfl (by kernel_rfl) rfl rfl (Pur.build (vs := [(0, .slice a17 y16.length c18), (1, .agg #[.int .i64 x0.gc.phase, .int .i64 x0.gc.pos, .int .i64 x0.gc.round, .slice a12 y11.length c13])]) (cs := #[.slice a17 y16.length c18, .int .i64 x0.gc.phase, .int .i64 x0.gc.pos, .int .i64 x0.gc.round, .slice a12 y11.length c13]) rfl (by kernel_rfl)) ?_
  refine AW.one (i := 5) (by kernel_rfl) ?_
  refine ⟨_, rfl, ?_⟩
  refine LW.st hS10 3 fun w20 hS11 => ?_
  refine LW.nil ⟨rfl, (.w (by kernel_rfl) (.w (by kernel_rfl) Kept.n)), ?_⟩
  refine AW.done (by kernel_rfl) ?_
  refine go ?_
  cases h
  exact And.intro trivial ⟨_, Res.one (resOne.b hS11 3 rfl ag43 rfl rfl), a17, c18, a12, c13, rfl, hS11.pick [0, 1] rfl rfl⟩

theorem W_s_GcBorn {w0 : World} {N : Nat} {x0 : DHeap} {x1 : Int} {r : DHeap} (h : F_s_GcBorn N x0 x1 = some r) {a0_0 : Option Addr} {n0_0 c0_0 : Nat} (hn0_0 : n0_0 = x0.arena.length) (hr0_0 : rdS (Bor w0 []) w0 a0_0 c0_0 x0.arena) {a0_4 : Option Addr} {n0_4 c0_4 : Nat} (hn0_4 : n0_4 = x0.gc.grey.length) (hr0_4 : rdS (Bor w0 []) w0 a0_4 c0_4 x0.gc.grey) :
    Ret Tryz.prog 128 #[.agg #[.slice a0_0 n0_0 c0_0, .int .i64 x0.gc.phase, .int .i64 x0.gc.pos, .int .i64 x0.gc.round, .slice a0_4 n0_4 c0_4], .int .i64 x1] w0 (fun v w => ∃ ar0_0 cr0_0, ∃ ar0_4 cr0_4, v = .agg #[.slice ar0_0 r.arena.length cr0_0, .int .i64 r.gc.phase, .int .i64 r.gc.pos, .int .i64 r.gc.round, .slice ar0_4 r.gc.grey.length cr0_4] ∧ St w0 [] w [sl ar0_0 cr0_0 r.arena, sl ar0_4 cr0_4 r.gc.grey]) := by
  subst hn0_0 hn0_4
  unfold F_s_GcBorn at h
  refine Ret.fn Tryz.func128 fun e => ?_
  have hS1 := St.start w0
  refine go ?_
  refine LW.bo hS1 fun g1 w2 hS2 => ?_
  refine LW.al hS2 fun g3 w4 hS3 => ?_
  refine go ?_
  replace ⟨y5, hy5, h⟩ := obind h
  refine LW.cl (W_s_l10Copy hy5 rfl (hS3.rB hr0_0) rfl (hS3.rB hr0_4)) ?_
  rintro _ w10 ⟨a6, c7, a8, c9, rfl, hs⟩
  have hS4 := hS3.add hs
  refine LW.al hS4 fun g11 w12 hS5 => ?_
  refine LW.st hS5 0 fun w13 hS6 => ?_
  refine gs ?_
  obtain ⟨j14, hj14, h15⟩ := obind h
  refine CW.cut (fun e wb => En e [(1, .int .i64 x1), (2, .pointer (some ⟨g1, 0, none⟩)), (4, .pointer (some ⟨g3, 0, none⟩)), (5, .pointer (some ⟨g11, 0, none⟩)), (24, .bool j14)] ∧ St w0 [] wb [bx g11 43 [.slice a6 y5.arena.length c7, .int .i64 y5.gc.phase, .int .i64 y5.gc.pos, .int .i64 y5.gc.round, .slice a8 y5.gc.grey.length c9], sl a6 c7 y5.arena, sl a8 c9 y5.gc.grey, bx g3 43 [.slice none 0 0, .int .i64 0, .int .i64 0, .int .i64 0, .slice none 0 0], bx g1 43 [.slice a0_0 x0.arena.length c0_0, .int .i64 x0.gc.phase, .int .i64 x0.gc.pos, .int .i64 x0.gc.round, .slice a0_4 x0.gc.grey.length c0_4]]) ?_ ?_
  · have h := hj14
    refine go ?_
    replace ⟨y16, hy16, h⟩ := obind h
    refine LW.c0 (W_s_HeapOk hy16 rfl (hS6.rB hr0_0) rfl (hS6.rB hr0_4)) hS6 fun w17 hS7 => ?_
    refine go ?_
    rcases bcases (!y16) with hc18 | hc18
    · replace h := bcT h hc18
      refine go ?_
      cases oi h
      exact ⟨⟨rfl, rfl, rfl, rfl, rfl, trivial⟩, hS7.pick [0, 1, 2, 3, 4] rfl rfl⟩
    replace h := bcF h hc18
    refine go ?_
    replace ⟨y19, hy19, h⟩ := obind h
    refine go ?_
    refine LW.c0 (W_s_l8Slot hy19) hS7 fun w20 hS8 => ?_
    refine go ?_
    rcases bcases (!y19) with hc21 | hc21
    · replace h := bcT h hc21
      refine go ?_
      cases oi h
      exact ⟨⟨rfl, rfl, rfl, rfl, rfl, trivial⟩, hS8.pick [0, 1, 2, 3, 4] rfl rfl⟩
    replace h := bcF h hc21
    refine go ?_
    replace ⟨y22, hy22, h⟩ := obind h
    obtain ⟨b25, o26, cs27, hae, hb30, hp23, hq24, hd28, hk29⟩ := hr0_0.idx hy22
    subst hae
    obtain ⟨a31, c32, a34, c35, a37, c38, rfl, hr33, hr36, hr39⟩ := hd28
    refine go ?_
    refine LW.u (Pur.ix Tryz.underlying40 sz85 rfl rfl hp23 hq24) rfl ?_
    refine go ?_
    refine LW.l (Ldr.old w0 ag3 rfl (hk29 1 _ rfl)) (hS8.same _ hb30.1 hb30.2) rfl ?_
    refine go ?_
    cases oi h
    exact ⟨⟨rfl, rfl, rfl, rfl, rfl, trivial⟩, hS8.pick [0, 1, 2, 3, 4] rfl rfl⟩
  rintro e w40 ⟨hE, hS9⟩
  obtain ⟨e, rfl⟩ := hE.out
  have h := h15
  refine go ?_
  refine CW.cond rfl (fun hc41 => ?_) (fun hc41 => ?_)
  · replace h := bcT h hc41
    refine go ?_
    refine LW.st hS9 3 fun w42 hS10 => ?_
    refine go ?_
    cases h
    exact And.intro trivial ⟨_, Res.one (resOne.b hS10 3 rfl ag43 rfl rfl), a6, c7, a8, c9, rfl, hS10.pick [1, 2] rfl rfl⟩
  replace h := bcF h hc41
  refine gs ?_
  obtain ⟨j43, hj43, h44⟩ := obind h
  refine CW.cut (fun e wb => En e [(4, .pointer (some ⟨g3, 0, none⟩)), (5, .pointer (some ⟨g11, 0, none⟩))] ∧ St w0 [] wb [bx g11 43 [.slice a6 j43.length c7, .int .i64 y5.gc.phase, .int .i64 y5.gc.pos, .int .i64 y5.gc.round, .slice a8 y5.gc.grey.length c9], sl a6 c7 j43, sl a8 c9 y5.gc.grey, bx g3 43 [.slice none 0 0, .int .i64 0, .int .i64 0, .int .i64 0, .slice none 0 0]]) ?_ ?_
  · have h := hj43
    refine go ?_
    rcases bcases (x0.gc.phase == 0) with hc45 | hc45
    · replace h := bcT h hc45
      refine go ?_
      replace ⟨y46, hy46, h⟩ := obind h
      obtain ⟨b49, o50, hae, hp47, hq48⟩ := hS9.ownIdx (α := DObj) (i := 1) rfl hy46
      subst hae
      refine LW.u (Pur.ix Tryz.underlying40 sz85 rfl rfl hp47 hq48) rfl ?_
      refine go ?_
      replace ⟨y51, hy51, h⟩ := obind h
      refine LW.stE (M := []) (L := [bx g11 43 [.slice (some ⟨b49, o50, none⟩) y5.arena.length c7, .int .i64 y5.gc.phase, .int .i64 y5.gc.pos, .int .i64 y5.gc.round, .slice a8 y5.gc.grey.length c9], sl (some ⟨b49, o50, none⟩) c7 y5.arena, sl a8 c9 y5.gc.grey, bx g3 43 [.slice none 0 0, .int .i64 0, .int .i64 0, .int .i64 0, .slice none 0 0], bx g1 43 [.slice a0_0 x0.arena.length c0_0, .int .i64 x0.gc.phase, .int .i64 x0.gc.pos, .int .i64 x0.gc.round, .slice a0_4 x0.gc.grey.length c0_4]]) (z := y46) (z' := (DObj.mk y46.gen y46.kind y46.box y46.res y46.til y46.pages y46.wait y46.got y46.ran true y46.links y46.data y46.queue)) (o := 9) hS9 (i := 1) rfl hy46 ag4 rfl (by show _ = o50 + (x1 : Int).toNat * 13 + 9; omega) rfl rfl rfl rfl (leafF (fun w cs F hF => by obtain ⟨q0, r0, q1, r1, q2, r2, rfl, hH⟩ := hF; exact ⟨q0, r0, q1, r1, q2, r2, rfl, hH⟩)) ?_
      intro w52 hS11 hf
      rw [Option.some.inj hy51] at hS11
      refine go ?_
      rw [show y5.arena.length = y51.length from (len_set (Option.some.inj hy51))] at hS11
      cases oi h
      exact ⟨⟨rfl, rfl, trivial⟩, hS11.pick [0, 1, 2, 3] rfl rfl⟩
    replace h := bcF h hc45
    refine go ?_
    replace ⟨y53, hy53, h⟩ := obind h
    obtain ⟨b56, o57, hae, hp54, hq55⟩ := hS9.ownIdx (α := DObj) (i := 1) rfl hy53
    subst hae
    refine LW.u (Pur.ix Tryz.underlying40 sz85 rfl rfl hp54 hq55) rfl ?_
    refine go ?_
    replace ⟨y58, hy58, h⟩ := obind h
    refine LW.stE (M := []) (L := [bx g11 43 [.slice (some ⟨b56, o57, none⟩) y5.arena.length c7, .int .i64 y5.gc.phase, .int .i64 y5.gc.pos, .int .i64 y5.gc.round, .slice a8 y5.gc.grey.length c9], sl (some ⟨b56, o57, none⟩) c7 y5.arena, sl a8 c9 y5.gc.grey, bx g3 43 [.slice none 0 0, .int .i64 0, .int .i64 0, .int .i64 0, .slice none 0 0], bx g1 43 [.slice a0_0 x0.arena.length c0_0, .int .i64 x0.gc.phase, .int .i64 x0.gc.pos, .int .i64 x0.gc.round, .slice a0_4 x0.gc.grey.length c0_4]]) (z := y53) (z' := (DObj.mk y53.gen y53.kind y53.box y53.res y53.til y53.pages y53.wait y53.got y53.ran (decide (x1 ≥ x0.gc.pos)) y53.links y53.data y53.queue)) (o := 9) hS9 (i := 1) rfl hy53 ag4 rfl (by show _ = o57 + (x1 : Int).toNat * 13 + 9; omega) rfl rfl rfl rfl (leafF (fun w cs F hF => by obtain ⟨q0, r0, q1, r1, q2, r2, rfl, hH⟩ := hF; exact ⟨q0, r0, q1, r1, q2, r2, rfl, hH⟩)) ?_
    intro w59 hS12 hf
    rw [Option.some.inj hy58] at hS12
    refine go ?_
    rw [show y5.arena.length = y58.length from (len_set (Option.some.inj hy58))] at hS12
    cases oi h
    exact ⟨⟨rfl, rfl, trivial⟩, hS12.pick [0, 1, 2, 3] rfl rfl⟩
  rintro e w60 ⟨hE, hS13⟩
  obtain ⟨e, rfl⟩ := hE.out
  have h := h44
  refine go ?_
  refine LW.st hS13 3 fun w61 hS14 => ?_
  refine go ?_
  cases h
  exact And.intro trivial ⟨_, Res.one (resOne.b hS14 3 rfl ag43 rfl rfl), a6, c7, a8, c9, rfl, hS14.pick [1, 2] rfl rfl⟩

theorem W_s_l6Copy {w0 : World} {N : Nat} {x0 : List DRes} {r : (List DRes)} (h : F_s_l6Copy N x0 = some r) {a0_0 : Option Addr} {n0_0 c0_0 : Nat} (hn0_0 : n0_0 = x0.length) (hr0_0 : rdS (Bor w0 []) w0 a0_0 c0_0 x0) :
    Ret Tryz.prog 166 #[.slice a0_0 n0_0 c0_0] w0 (fun v w => ∃ ar0 cr0, v = .slice ar0 r.length cr0 ∧ St w0 [] w [sl ar0 cr0 r]) := by
  subst hn0_0
  unfold F_s_l6Copy at h
  refine Ret.fn Tryz.func166 fun e => ?_
  have hS1 := St.start w0
  refine go ?_
  refine LW.bsl (α := DRes) (vs := []) (cs := #[]) (l := ([] : List DRes)) rfl (by kernel_rfl) rfl rfl rfl (fun w => rfl) hS1 rfl ?_
  intro a1 c2 w3 hS2 hf
  refine go ?_
  replace ⟨y4, hy4, h⟩ := obind h
  refine LW.appN (l := ([] : List DRes)) (m := x0) sT39 rfl rfl (hS2.rB hr0_0) hy4 hS2 (i := 0) rfl rfl ?_
  intro a5 c6 w7 hS3 hf
  refine go ?_
  cases h
  exact And.intro trivial ⟨_, Res.one (resOne.t rfl), a5, c6, rfl, hS3.pick [0] rfl rfl⟩

theorem W_s_l13Copy {w0 : World} {N : Nat} {x0 : DPart} {r : DPart} (h : F_s_l13Copy N x0 = some r) {a0_0 : Option Addr} {n0_0 c0_0 : Nat} (hn0_0 : n0_0 = x0.label.levels.length) (hr0_0 : rdS (Bor w0 []) w0 a0_0 c0_0 x0.label.levels) {a0_1 : Option Addr} {n0_1 c0_1 : Nat} (hn0_1 : n0_1 = x0.own.length) (hr0_1 : rdS (Bor w0 []) w0 a0_1 c0_1 x0.own) {a0_2 : Option Addr} {n0_2 c0_2 : Nat} (hn0_2 : n0_2 = x0.tree.length) (hr0_2 : rdS (Bor w0 []) w0 a0_2 c0_2 x0.tree) {a0_3 : Option Addr} {n0_3 c0_3 : Nat} (hn0_3 : n0_3 = x0.heap.arena.length) (hr0_3 : rdS (Bor w0 []) w0 a0_3 c0_3 x0.heap.arena) {a0_7 : Option Addr} {n0_7 c0_7 : Nat} (hn0_7 : n0_7 = x0.heap.gc.grey.length) (hr0_7 : rdS (Bor w0 []) w0 a0_7 c0_7 x0.heap.gc.grey) {a0_8 : Option Addr} {n0_8 c0_8 : Nat} (hn0_8 : n0_8 = x0.taps.length) (hr0_8 : rdS (Bor w0 []) w0 a0_8 c0_8 x0.taps) :
    Ret Tryz.prog 130 #[.agg #[.slice a0_0 n0_0 c0_0, .slice a0_1 n0_1 c0_1, .slice a0_2 n0_2 c0_2, .slice a0_3 n0_3 c0_3, .int .i64 x0.heap.gc.phase, .int .i64 x0.heap.gc.pos, .int .i64 x0.heap.gc.round, .slice a0_7 n0_7 c0_7, .slice a0_8 n0_8 c0_8, .int .i64 x0.next, .int .i64 x0.want, .int .i64 x0.spent.pages, .int .i64 x0.spent.rent, .int .i64 x0.spent.cpu, .int .i64 x0.press, .int .i64 x0.lost]] w0 (fun v w => ∃ ar0_0 cr0_0, ∃ ar0_1 cr0_1, ∃ ar0_2 cr0_2, ∃ ar0_3 cr0_3, ∃ ar0_7 cr0_7, ∃ ar0_8 cr0_8, v = .agg #[.slice ar0_0 r.label.levels.length cr0_0, .slice ar0_1 r.own.length cr0_1, .slice ar0_2 r.tree.length cr0_2, .slice ar0_3 r.heap.arena.length cr0_3, .int .i64 r.heap.gc.phase, .int .i64 r.heap.gc.pos, .int .i64 r.heap.gc.round, .slice ar0_7 r.heap.gc.grey.length cr0_7, .slice ar0_8 r.taps.length cr0_8, .int .i64 r.next, .int .i64 r.want, .int .i64 r.spent.pages, .int .i64 r.spent.rent, .int .i64 r.spent.cpu, .int .i64 r.press, .int .i64 r.lost] ∧ St w0 [] w [sl ar0_0 cr0_0 r.label.levels, sl ar0_1 cr0_1 r.own, sl ar0_2 cr0_2 r.tree, sl ar0_3 cr0_3 r.heap.arena, sl ar0_7 cr0_7 r.heap.gc.grey, sl ar0_8 cr0_8 r.taps]) := by
  subst hn0_0 hn0_1 hn0_2 hn0_3 hn0_7 hn0_8
  unfold F_s_l13Copy at h
  refine Ret.fn Tryz.func130 fun e => ?_
  have hS1 := St.start w0
  refine go ?_
  refine LW.bo hS1 fun g1 w2 hS2 => ?_
  refine LW.al hS2 fun g3 w4 hS3 => ?_
  refine go ?_
  refine LW.bsl (α := Int) (vs := []) (cs := #[]) (l := ([] : List Int)) rfl (by kernel_rfl) rfl rfl rfl (fun w => rfl) hS3 rfl ?_
  intro a5 c6 w7 hS4 hf
  refine go ?_
  replace ⟨y8, hy8, h⟩ := obind h
  refine LW.appN (l := ([] : List Int)) (m := x0.label.levels) sT22 rfl rfl (hS4.rB hr0_0) hy8 hS4 (i := 0) rfl rfl ?_
  intro a9 c10 w11 hS5 hf
  refine LW.u (Pur.build (vs := [(0, .slice a9 y8.length c10)]) (cs := #[.slice a9 y8.length c10]) rfl (by kernel_rfl)) rfl ?_
  refine go ?_
  refine LW.st hS5 2 fun w12 hS6 => ?_
  refine go ?_
  refine LW.bsl (α := Int) (vs := []) (cs := #[]) (l := ([] : List Int)) rfl (by kernel_rfl) rfl rfl rfl (fun w => rfl) hS6 rfl ?_
  intro a13 c14 w15 hS7 hf
  refine go ?_
  replace ⟨y16, hy16, h⟩ := obind h
  refine LW.appN (l := ([] : List Int)) (m := x0.own) sT22 rfl rfl (hS7.rB hr0_1) hy16 hS7 (i := 0) rfl rfl ?_
  intro a17 c18 w19 hS8 hf
  refine go ?_
  refine LW.st hS8 3 fun w20 hS9 => ?_
  refine go ?_
  replace ⟨y21, hy21, h⟩ := obind h
  refine LW.cl (W_s_l6Copy hy21 rfl (hS9.rB hr0_2)) ?_
  rintro _ w24 ⟨a22, c23, rfl, hs⟩
  have hS10 := hS9.add hs
  refine go ?_
  refine LW.st hS10 4 fun w25 hS11 => ?_
  refine go ?_
  replace ⟨y26, hy26, h⟩ := obind h
  refine LW.cl (W_s_l10Copy hy26 rfl (hS11.rB hr0_3) rfl (hS11.rB hr0_7)) ?_
  rintro _ w31 ⟨a27, c28, a29, c30, rfl, hs⟩
  have hS12 := hS11.add hs
  refine go ?_
  refine LW.fl [1, 2, 21, 22] fun e => ?_
  refine LW.st hS12 6 fun w32 hS13 => ?_
  refine go ?_
  refine LW.bsl (α := DTap) (vs := []) (cs := #[]) (l := ([] : List DTap)) rfl (by kernel_rfl) rfl rfl rfl (fun w => rfl) hS13 rfl ?_
  intro a33 c34 w35 hS14 hf
  refine go ?_
  replace ⟨y36, hy36, h⟩ := obind h
  refine LW.appN (l := ([] : List DTap)) (m := x0.taps) sT44 rfl rfl (hS14.rB hr0_8) hy36 hS14 (i := 0) rfl rfl ?_
  intro a37 c38 w39 hS15 hf
  refine go ?_
  refine LW.st hS15 7 fun w40 hS16 => ?_
  refine go ?_
  refine LW.st hS16 6 fun w41 hS17 => ?_
  refine go ?_
  cases h
  exact And.intro trivial ⟨_, Res.one (resOne.b hS17 6 rfl ag47 rfl rfl), a9, c10, a17, c18, a22, c23, a27, c28, a29, c30, a37, c38, rfl, hS17.pick [5, 4, 3, 1, 2, 0] rfl rfl⟩

theorem W_s_PartNew {w0 : World} {N : Nat} {x0 : DBoot} {r : DPart × Bool} (h : F_s_PartNew N x0 = some r) {a0_0 : Option Addr} {n0_0 c0_0 : Nat} (hn0_0 : n0_0 = x0.label.levels.length) (hr0_0 : rdS (Bor w0 []) w0 a0_0 c0_0 x0.label.levels) {a0_1 : Option Addr} {n0_1 c0_1 : Nat} (hn0_1 : n0_1 = x0.own.length) (hr0_1 : rdS (Bor w0 []) w0 a0_1 c0_1 x0.own) :
    Ret Tryz.prog 83 #[.agg #[.slice a0_0 n0_0 c0_0, .slice a0_1 n0_1 c0_1, .int .i64 x0.amt.pages, .int .i64 x0.amt.rent, .int .i64 x0.amt.cpu]] w0 (fun v w => ∃ ar0_0 cr0_0, ∃ ar0_1 cr0_1, ∃ ar0_2 cr0_2, ∃ ar0_3 cr0_3, ∃ ar0_7 cr0_7, ∃ ar0_8 cr0_8, v = .tuple #[.agg #[.slice ar0_0 r.1.label.levels.length cr0_0, .slice ar0_1 r.1.own.length cr0_1, .slice ar0_2 r.1.tree.length cr0_2, .slice ar0_3 r.1.heap.arena.length cr0_3, .int .i64 r.1.heap.gc.phase, .int .i64 r.1.heap.gc.pos, .int .i64 r.1.heap.gc.round, .slice ar0_7 r.1.heap.gc.grey.length cr0_7, .slice ar0_8 r.1.taps.length cr0_8, .int .i64 r.1.next, .int .i64 r.1.want, .int .i64 r.1.spent.pages, .int .i64 r.1.spent.rent, .int .i64 r.1.spent.cpu, .int .i64 r.1.press, .int .i64 r.1.lost], .bool r.2] ∧ St w0 [] w [sl ar0_0 cr0_0 r.1.label.levels, sl ar0_1 cr0_1 r.1.own, sl ar0_2 cr0_2 r.1.tree, sl ar0_3 cr0_3 r.1.heap.arena, sl ar0_7 cr0_7 r.1.heap.gc.grey, sl ar0_8 cr0_8 r.1.taps]) := by
  subst hn0_0 hn0_1
  unfold F_s_PartNew at h
  refine Ret.fn Tryz.func83 fun e => ?_
  have hS1 := St.start w0
  refine go ?_
  refine LW.bo hS1 fun g1 w2 hS2 => ?_
  refine LW.al hS2 fun g3 w4 hS3 => ?_
  refine go ?_
  replace ⟨y5, hy5, h⟩ := obind h
  refine LW.cl (W_s_TreeNew hy5) ?_
  rintro _ w8 ⟨a6, c7, rfl, hs⟩
  have hS4 := hS3.add hs
  refine gs ?_
  obtain ⟨j9, hj9, h10⟩ := obind h
  refine CW.cut (fun e wb => En e [(1, .pointer (some ⟨g1, 0, none⟩)), (2, .pointer (some ⟨g3, 0, none⟩)), (4, .slice a6 y5.1.length c7), (28, .bool j9)] ∧ St w0 [] wb [sl a6 c7 y5.1, bx g3 47 [.slice none 0 0, .slice none 0 0, .slice none 0 0, .slice none 0 0, .int .i64 0, .int .i64 0, .int .i64 0, .slice none 0 0, .slice none 0 0, .int .i64 0, .int .i64 0, .int .i64 0, .int .i64 0, .int .i64 0, .int .i64 0, .int .i64 0], bx g1 114 [.slice a0_0 x0.label.levels.length c0_0, .slice a0_1 x0.own.length c0_1, .int .i64 x0.amt.pages, .int .i64 x0.amt.rent, .int .i64 x0.amt.cpu]]) ?_ ?_
  · have h := hj9
    refine go ?_
    replace ⟨y11, hy11, h⟩ := obind h
    refine LW.c0 (W_s_LabelOk hy11 rfl (hS4.rB hr0_0)) hS4 fun w12 hS5 => ?_
    refine go ?_
    rcases bcases (!y11) with hc13 | hc13
    · replace h := bcT h hc13
      refine go ?_
      cases oi h
      exact ⟨⟨rfl, rfl, rfl, rfl, trivial⟩, hS5.pick [0, 1, 2] rfl rfl⟩
    replace h := bcF h hc13
    refine go ?_
    replace ⟨y14, hy14, h⟩ := obind h
    refine go ?_
    refine LW.c0 (W_s_OwnOk hy14 rfl (hS5.rB hr0_1)) hS5 fun w15 hS6 => ?_
    refine go ?_
    rcases bcases (!y14) with hc16 | hc16
    · replace h := bcT h hc16
      refine go ?_
      cases oi h
      exact ⟨⟨rfl, rfl, rfl, rfl, trivial⟩, hS6.pick [0, 1, 2] rfl rfl⟩
    replace h := bcF h hc16
    refine go ?_
    cases oi h
    exact ⟨⟨rfl, rfl, rfl, rfl, trivial⟩, hS6.pick [0, 1, 2] rfl rfl⟩
  rintro e w17 ⟨hE, hS7⟩
  obtain ⟨e, rfl⟩ := hE.out
  have h := h10
  refine go ?_
  refine CW.cond rfl (fun hc18 => ?_) (fun hc18 => ?_)
  · replace h := bcT h hc18
    refine go ?_
    refine LW.u (Pur.build (vs := []) (cs := #[.slice none 0 0, .slice none 0 0, .slice none 0 0, .slice none 0 0, .int .i64 0, .int .i64 0, .int .i64 0, .slice none 0 0, .slice none 0 0, .int .i64 0, .int .i64 0, .int .i64 0, .int .i64 0, .int .i64 0, .int .i64 0, .int .i64 0]) rfl (by kernel_rfl)) rfl ?_
    refine LW.st hS7 1 fun w19 hS8 => ?_
    refine go ?_
    cases h
    have hS9 := hS8.nil (α := Int)
    have hS10 := hS9.nil (α := Int)
    have hS11 := hS10.nil (α := DRes)
    have hS12 := hS11.nil (α := DObj)
    have hS13 := hS12.nil (α := Int)
    have hS14 := hS13.nil (α := DTap)
    exact And.intro trivial ⟨_, Res.two (resOne.b hS14 7 rfl ag47 rfl rfl) (resOne.t rfl), none, 0, none, 0, none, 0, none, 0, none, 0, none, 0, rfl, hS14.pick [5, 4, 3, 2, 1, 0] rfl rfl⟩
  replace h := bcF h hc18
  refine go ?_
  replace ⟨y20, hy20, h⟩ := obind h
  refine LW.cl (W_s_ArenaNew hy20) ?_
  rintro _ w23 ⟨a21, c22, rfl, hs⟩
  have hS15 := hS7.add hs
  refine LW.bsl (α := Int) (vs := [(0, .int .i64 (-1)), (1, .int .i64 (-1))]) (cs := #[.int .i64 (-1), .int .i64 (-1)]) (l := ([-1, -1] : List Int)) rfl (by kernel_rfl) rfl rfl rfl (fun w => ⟨[.int .i64 (-1)], [.int .i64 (-1)], [], [], rfl, rfl, ⟨rfl, rfl⟩, ⟨[.int .i64 (-1)], [], [], [], rfl, rfl, ⟨rfl, rfl⟩, rfl⟩⟩) hS15 rfl ?_
  intro a24 c25 w26 hS16 hf
  refine LW.u (Pur.build (vs := [(1, .int .i64 4), (4, .int .i64 1000000), (10, .slice a24 (([-1, -1] : List Int).length) c25)]) (cs := #[.int .i64 0, .int .i64 4, .int .i64 0, .int .i64 0, .int .i64 1000000, .int .i64 0, .int .i64 0, .int .i64 0, .int .i64 0, .bool false, .slice a24 (([-1, -1] : List Int).length) c25, .slice none 0 0, .slice none 0 0]) rfl (by kernel_rfl)) rfl ?_
  replace ⟨y27, hy27, h⟩ := obind h
  refine LW.cl (W_s_ArenaPut hy27 rfl (hS16.rI 1 rfl) rfl (hS16.rI 0 rfl) rfl (show rdS (α := Int) (Bor w26 []) w26 none 0 [] from rdS.nil _ _ _ _ (Nat.zero_le _)) rfl (show rdS (α := DMsg) (Bor w26 []) w26 none 0 [] from rdS.nil _ _ _ _ (Nat.zero_le _))) ?_
  rintro _ w30 ⟨a28, c29, rfl, hs⟩
  have hS17 := hS16.add hs
  refine go ?_
  replace ⟨y31, hy31, h⟩ := obind h
  refine LW.cl (W_s_GcNew hy31) ?_
  rintro _ w34 ⟨a32, c33, rfl, hs⟩
  have hS18 := hS17.add hs
  refine LW.u (Pur.build (vs := [(0, .slice a28 y27.1.length c29), (1, .agg #[.int .i64 y31.phase, .int .i64 y31.pos, .int .i64 y31.round, .slice a32 y31.grey.length c33])]) (cs := #[.slice a28 y27.1.length c29, .int .i64 y31.phase, .int .i64 y31.pos, .int .i64 y31.round, .slice a32 y31.grey.length c33]) rfl (by kernel_rfl)) rfl ?_
  refine go ?_
  replace ⟨y35, hy35, h⟩ := obind h
  refine LW.cl (W_s_GcBorn hy35 rfl (hS18.rI 1 rfl) rfl (hS18.rI 0 rfl)) ?_
  rintro _ w40 ⟨a36, c37, a38, c39, rfl, hs⟩
  have hS19 := hS18.add hs
  refine LW.fl [1, 2, 4, 41] fun e => ?_
  refine LW.al hS19 fun g41 w42 hS20 => ?_
  refine LW.st hS20 0 fun w43 hS21 => ?_
  refine go ?_
  refine LW.u (Pur.build (vs := [(0, .agg #[.slice a0_0 x0.label.levels.length c0_0]), (1, .slice a0_1 x0.own.length c0_1), (2, .slice a6 y5.1.length c7), (3, .agg #[.slice a36 y35.arena.length c37, .int .i64 y35.gc.phase, .int .i64 y35.gc.pos, .int .i64 y35.gc.round, .slice a38 y35.gc.grey.length c39])]) (cs := #[.slice a0_0 x0.label.levels.length c0_0, .slice a0_1 x0.own.length c0_1, .slice a6 y5.1.length c7, .slice a36 y35.arena.length c37, .int .i64 y35.gc.phase, .int .i64 y35.gc.pos, .int .i64 y35.gc.round, .slice a38 y35.gc.grey.length c39, .slice none 0 0, .int .i64 0, .int .i64 0, .int .i64 0, .int .i64 0, .int .i64 0, .int .i64 0, .int .i64 0]) rfl (by kernel_rfl)) rfl ?_
  replace ⟨y44, hy44, h⟩ := obind h
  refine LW.cl (W_s_l13Copy hy44 rfl (hS21.rB hr0_0) rfl (hS21.rB hr0_1) rfl (hS21.rI 7 rfl) rfl (hS21.rI 1 rfl) rfl (hS21.rI 2 rfl) rfl (show rdS (α := DTap) (Bor w43 []) w43 none 0 [] from rdS.nil _ _ _ _ (Nat.zero_le _))) ?_
  rintro _ w57 ⟨a45, c46, a47, c48, a49, c50, a51, c52, a53, c54, a55, c56, rfl, hs⟩
  have hS22 := hS21.add hs
  refine LW.st hS22 14 fun w58 hS23 => ?_
  refine go ?_
  cases h
  exact And.intro trivial ⟨_, Res.two (resOne.b hS23 14 rfl ag47 rfl rfl) (resOne.t rfl), a45, c46, a47, c48, a49, c50, a51, c52, a53, c54, a55, c56, rfl, hS23.pick [0, 1, 2, 3, 4, 5] rfl rfl⟩

theorem W_s_WorldNew {w0 : World} {N : Nat} {x0 : List DBoot} {r : DWorld} (h : F_s_WorldNew N x0 = some r) {a0_0 : Option Addr} {n0_0 c0_0 : Nat} (hn0_0 : n0_0 = x0.length) (hr0_0 : rdS (Bor w0 []) w0 a0_0 c0_0 x0) :
    Ret Tryz.prog 31 #[.slice a0_0 n0_0 c0_0] w0 (fun v w => ∃ ar0_1 cr0_1, v = .agg #[.int .i64 r.now, .slice ar0_1 r.parts.length cr0_1] ∧ St w0 [] w [sl ar0_1 cr0_1 r.parts]) := by
  subst hn0_0
  unfold F_s_WorldNew at h
  refine Ret.fn Tryz.func31 fun e => ?_
  have hS1 := St.start w0
  refine go ?_
  refine LW.al hS1 fun g1 w2 hS2 => ?_
  refine go ?_
  refine LW.u (Pur.build (vs := []) (cs := #[.int .i64 0, .slice none 0 0]) rfl (by kernel_rfl)) rfl ?_
  refine LW.al hS2 fun g3 w4 hS3 => ?_
  refine LW.st hS3 0 fun w5 hS4 => ?_
  refine go ?_
  replace ⟨y6, hy6, h⟩ := obind h
  refine LW.c0 (W_s_BootOk hy6 rfl (hS4.rB hr0_0)) hS4 fun w7 hS5 => ?_
  refine go ?_
  refine CW.cond rfl (fun hc8 => ?_) (fun hc8 => ?_)
  · replace h := bcT h hc8
    refine go ?_
    refine LW.st hS5 1 fun w9 hS6 => ?_
    refine go ?_
    cases h
    have hS7 := hS6.nil (α := DPart)
    exact And.intro trivial ⟨_, Res.one (resOne.b hS7 2 rfl ag61 rfl rfl), none, 0, rfl, hS7.pick [0] rfl rfl⟩
  replace h := bcF h hc8
  refine go ?_
  have hS8 := hS5.nil (α := DPart)
  obtain ⟨o51, ho51, h52⟩ := obind h
  refine CW.mono (CW.iter (σ := Int × (List DPart)) (ρ := Int × (List DPart)) (fun s10 e wb => ∃ (s10a0 : Option Addr), ∃ (s10c0 : Nat), En e [(0, .slice a0_0 x0.length c0_0), (2, .pointer (some ⟨g1, 0, none⟩)), (3, .pointer (some ⟨g3, 0, none⟩)), (4, .int .i64 s10.1)] ∧ St w0 [] wb [bx g3 61 [.int .i64 0, .slice s10a0 s10.2.length s10c0], bx g1 61 [.int .i64 0, .slice none 0 0], sl s10a0 s10c0 s10.2]) (fun s10 x e wb => x = .exit 0 ∧ ∃ (s10a0 : Option Addr), ∃ (s10c0 : Nat), En e [(2, .pointer (some ⟨g1, 0, none⟩)), (3, .pointer (some ⟨g3, 0, none⟩))] ∧ St w0 [] wb [bx g3 61 [.int .i64 0, .slice s10a0 s10.2.length s10c0], bx g1 61 [.int .i64 0, .slice none 0 0], sl s10a0 s10c0 s10.2]) ?_ N (0, []) _ _ _ ⟨none, 0, ⟨rfl, rfl, rfl, rfl, trivial⟩, hS8.pick [1, 2, 0] rfl rfl⟩ ho51) ?_
  · intro s10 e w11 o hM h
    obtain ⟨s10a0, s10c0, hE, hS9⟩ := hM
    obtain ⟨e, rfl⟩ := hE.out
    refine go ?_
    refine CW.cond rfl (fun hc12 => ?_) (fun hc12 => ?_)
    · replace h := bcT h hc12
      refine go ?_
      replace ⟨y13, hy13, h⟩ := obind h
      obtain ⟨b16, o17, cs18, hae, hb21, hp14, hq15, hd19, hk20⟩ := hr0_0.idx hy13
      subst hae
      obtain ⟨a22, c23, a25, c26, rfl, hr24, hr27⟩ := hd19
      refine LW.u (Pur.ix Tryz.underlying68 sz114 rfl rfl hp14 hq15) rfl ?_
      refine LW.l (Ldr.oldN w0 ag114 rfl rfl (fun j u hu => hk20 j u hu)) (hS9.same _ hb21.1 hb21.2) rfl ?_
      replace ⟨y28, hy28, h⟩ := obind h
      refine LW.cl (W_s_PartNew hy28 rfl (hS9.rB hr24) rfl (hS9.rB hr27)) ?_
      rintro _ w41 ⟨a29, c30, a31, c32, a33, c34, a35, c36, a37, c38, a39, c40, rfl, hs⟩
      have hS10 := hS9.add hs
      refine go ?_
      refine LW.al hS10 fun g42 w43 hS11 => ?_
      refine LW.st hS11 0 fun w44 hS12 => ?_
      refine go ?_
      refine LW.fl [0, 2, 3, 4, 27, 28] fun e => ?_
      have hS13 := hS12.pick (M := [sl a29 c30 y28.1.label.levels, sl a31 c32 y28.1.own, sl a33 c34 y28.1.tree, sl a35 c36 y28.1.heap.arena, sl a37 c38 y28.1.heap.gc.grey, sl a39 c40 y28.1.taps] ++ [bx g42 47 [.slice a29 y28.1.label.levels.length c30, .slice a31 y28.1.own.length c32, .slice a33 y28.1.tree.length c34, .slice a35 y28.1.heap.arena.length c36, .int .i64 y28.1.heap.gc.phase, .int .i64 y28.1.heap.gc.pos, .int .i64 y28.1.heap.gc.round, .slice a37 y28.1.heap.gc.grey.length c38, .slice a39 y28.1.taps.length c40, .int .i64 y28.1.next, .int .i64 y28.1.want, .int .i64 y28.1.spent.pages, .int .i64 y28.1.spent.rent, .int .i64 y28.1.spent.cpu, .int .i64 y28.1.press, .int .i64 y28.1.lost], bx g3 61 [.int .i64 0, .slice s10a0 s10.2.length s10c0], bx g1 61 [.int .i64 0, .slice none 0 0], sl s10a0 s10c0 s10.2]) [1, 2, 3, 4, 5, 6, 0, 7, 8, 9] rfl rfl
      replace ⟨y45, hy45, h⟩ := obind h
      refine LW.app1 (M := [sl a29 c30 y28.1.label.levels, sl a31 c32 y28.1.own, sl a33 c34 y28.1.tree, sl a35 c36 y28.1.heap.arena, sl a37 c38 y28.1.heap.gc.grey, sl a39 c40 y28.1.taps]) (L := [bx g42 47 [.slice a29 y28.1.label.levels.length c30, .slice a31 y28.1.own.length c32, .slice a33 y28.1.tree.length c34, .slice a35 y28.1.heap.arena.length c36, .int .i64 y28.1.heap.gc.phase, .int .i64 y28.1.heap.gc.pos, .int .i64 y28.1.heap.gc.round, .slice a37 y28.1.heap.gc.grey.length c38, .slice a39 y28.1.taps.length c40, .int .i64 y28.1.next, .int .i64 y28.1.want, .int .i64 y28.1.spent.pages, .int .i64 y28.1.spent.rent, .int .i64 y28.1.spent.cpu, .int .i64 y28.1.press, .int .i64 y28.1.lost], bx g3 61 [.int .i64 0, .slice s10a0 s10.2.length s10c0], bx g1 61 [.int .i64 0, .slice none 0 0], sl s10a0 s10c0 s10.2]) (vs := #[.slice a29 y28.1.label.levels.length c30, .slice a31 y28.1.own.length c32, .slice a33 y28.1.tree.length c34, .slice a35 y28.1.heap.arena.length c36, .int .i64 y28.1.heap.gc.phase, .int .i64 y28.1.heap.gc.pos, .int .i64 y28.1.heap.gc.round, .slice a37 y28.1.heap.gc.grey.length c38, .slice a39 y28.1.taps.length c40, .int .i64 y28.1.next, .int .i64 y28.1.want, .int .i64 y28.1.spent.pages, .int .i64 y28.1.spent.rent, .int .i64 y28.1.spent.cpu, .int .i64 y28.1.press, .int .i64 y28.1.lost]) (i := 3) sT59 rfl (by kernel_rfl) rfl rfl hy45 hS13 rfl (fun w G hG => ⟨a29, c30, a31, c32, a33, c34, a35, c36, a37, c38, a39, c40, rfl, hG⟩) rfl rfl ?_
      intro v48 a46 c47 w49 hS14 hf
      refine go ?_
      refine LW.st hS14 1 fun w50 hS15 => ?_
      refine go ?_
      cases oi h
      exact ⟨rfl, ⟨a46, c47, ⟨rfl, rfl, rfl, rfl, trivial⟩, hS15.pick [1, 2, 3] rfl rfl⟩⟩
    replace h := bcF h hc12
    refine go ?_
    cases oi h
    exact ⟨trivial, rfl, ⟨s10a0, s10c0, ⟨rfl, rfl, trivial⟩, hS9.pick [0, 1, 2] rfl rfl⟩⟩
  intro x e w53 hM
  obtain ⟨rfl, hM⟩ := hM
  obtain ⟨s10a0, s10c0, hE, hS16⟩ := hM
  obtain ⟨e, rfl⟩ := hE.out
  have h := h52
  refine go ?_
  refine LW.st hS16 1 fun w54 hS17 => ?_
  refine go ?_
  cases h
  exact And.intro trivial ⟨_, Res.one (resOne.b hS17 1 rfl ag61 rfl rfl), s10a0, s10c0, rfl, hS17.pick [2] rfl rfl⟩

theorem W_i_TreeNew {w0 : World} {N : Nat} {x0 : DAmt} {r : (List DRes) × Bool} (h : F_i_TreeNew N x0 = some r) :
    Ret Tryz.prog 131 #[.agg #[.int .i64 x0.pages, .int .i64 x0.rent, .int .i64 x0.cpu]] w0 (fun v w => ∃ ar0 cr0, v = .tuple #[.slice ar0 r.1.length cr0, .bool r.2] ∧ St w0 [] w [sl ar0 cr0 r.1]) := by
  unfold F_i_TreeNew at h
  refine Ret.fn Tryz.func131 fun e => ?_
  have hS1 := St.start w0
  refine go ?_
  refine LW.bo hS1 fun g1 w2 hS2 => ?_
  refine go ?_
  replace ⟨y3, hy3, h⟩ := obind h
  refine LW.mk sT39 rfl rfl hy3 hS2 rfl ?_
  intro a4 c5 w6 hS3 hf
  refine go ?_
  refine LW.u (Pur.build (vs := [(0, .bool true), (1, .int .i64 (-1)), (2, .agg #[.int .i64 x0.pages, .int .i64 x0.rent, .int .i64 x0.cpu])]) (cs := #[.bool true, .int .i64 (-1), .int .i64 x0.pages, .int .i64 x0.rent, .int .i64 x0.cpu]) rfl (by kernel_rfl)) rfl ?_
  replace ⟨y7, hy7, h⟩ := obind h
  obtain ⟨b10, o11, hae, hp8, hq9⟩ := hS3.ownIdx (α := DRes) (i := 0) rfl hy7
  subst hae
  refine LW.u (Pur.ix Tryz.underlying39 sz87 rfl rfl hp8 hq9) rfl ?_
  replace ⟨y12, hy12, h⟩ := obind h
  refine LW.stE (M := []) (L := [sl (some ⟨b10, o11, none⟩) c5 y3, bx g1 45 [.int .i64 x0.pages, .int .i64 x0.rent, .int .i64 x0.cpu]]) (z := y7) (z' := (DRes.mk true (-1) x0)) (o := 0) hS3 (i := 0) rfl hy7 ag87 rfl (by show _ = o11 + (0 : Int).toNat * 5 + 0; omega) rfl rfl rfl rfl (whole (fun w G hG => by cases (show G = [] from hG); exact ⟨rfl, rfl⟩)) ?_
  intro w13 hS4 hf
  rw [Option.some.inj hy12] at hS4
  refine go ?_
  replace ⟨y14, hy14, h⟩ := obind h
  refine LW.c0 (W_i_TreeOk hy14 (show y3.length = y12.length from (len_set (Option.some.inj hy12))) (hS4.rI 0 rfl)) hS4 fun w15 hS5 => ?_
  refine go ?_
  refine CW.fl [4, 12] fun e => ?_
  refine CW.cond rfl (fun hc16 => ?_) (fun hc16 => ?_)
  · replace h := bcT h hc16
    refine go ?_
    cases h
    have hS6 := hS5.nil (α := DRes)
    exact And.intro trivial ⟨_, Res.two (resOne.t rfl) (resOne.t rfl), none, 0, rfl, hS6.pick [0] rfl rfl⟩
  replace h := bcF h hc16
  refine go ?_
  replace h := Option.some.inj h
  subst h
  exact And.intro trivial ⟨_, Res.two (resOne.t rfl) (resOne.t rfl), (some ⟨b10, o11, none⟩), c5, (show (.tuple #[.slice (some ⟨b10, o11, none⟩) y3.length c5, .bool true] : Value) = .tuple #[.slice (some ⟨b10, o11, none⟩) y12.length c5, .bool true] by rw [show y3.length = y12.length from (len_set (Option.some.inj hy12))]), hS5.pick [0] rfl rfl⟩

theorem W_i_ArenaNew {w0 : World} {N : Nat} {r : (List DObj)} (h : F_i_ArenaNew N = some r) :
    Ret Tryz.prog 133 #[] w0 (fun v w => ∃ ar0 cr0, v = .slice ar0 r.length cr0 ∧ St w0 [] w [sl ar0 cr0 r]) := by
  unfold F_i_ArenaNew at h
  refine Ret.fn Tryz.func133 fun e => ?_
  have hS1 := St.start w0
  refine go ?_
  replace ⟨y1, hy1, h⟩ := obind h
  refine LW.mk sT40 rfl rfl hy1 hS1 rfl ?_
  intro a2 c3 w4 hS2 hf
  refine go ?_
  refine LW.bsl (α := Int) (vs := [(0, .int .i64 (-1)), (1, .int .i64 (-1))]) (cs := #[.int .i64 (-1), .int .i64 (-1)]) (l := ([-1, -1] : List Int)) rfl (by kernel_rfl) rfl rfl rfl (fun w => ⟨[.int .i64 (-1)], [.int .i64 (-1)], [], [], rfl, rfl, ⟨rfl, rfl⟩, ⟨[.int .i64 (-1)], [], [], [], rfl, rfl, ⟨rfl, rfl⟩, rfl⟩⟩) hS2 rfl ?_
  intro a5 c6 w7 hS3 hf
  refine LW.u (Pur.build (vs := [(1, .int .i64 1), (2, .int .i64 (-1)), (4, .int .i64 1000000), (10, .slice a5 (([-1, -1] : List Int).length) c6)]) (cs := #[.int .i64 0, .int .i64 1, .int .i64 (-1), .int .i64 0, .int .i64 1000000, .int .i64 0, .int .i64 0, .int .i64 0, .int .i64 0, .bool false, .slice a5 (([-1, -1] : List Int).length) c6, .slice none 0 0, .slice none 0 0]) rfl (by kernel_rfl)) rfl ?_
  replace ⟨y8, hy8, h⟩ := obind h
  obtain ⟨b11, o12, hae, hp9, hq10⟩ := hS3.ownIdx (α := DObj) (i := 1) rfl hy8
  subst hae
  refine LW.u (Pur.ix Tryz.underlying40 sz85 rfl rfl hp9 hq10) rfl ?_
  have hS4 := hS3.nil (α := Int)
  have hS5 := hS4.nil (α := DMsg)
  have hS6 := hS5.pick (M := [sl a5 c6 ([-1, -1] : List Int), sl none 0 [], sl none 0 []] ++ [sl (some ⟨b11, o12, none⟩) c3 y1]) [2, 1, 0, 3] rfl rfl
  replace ⟨y13, hy13, h⟩ := obind h
  refine LW.stE (M := [sl a5 c6 ([-1, -1] : List Int), sl none 0 [], sl none 0 []]) (L := [sl (some ⟨b11, o12, none⟩) c3 y1]) (z := y8) (z' := (DObj.mk 0 1 (-1) 0 1000000 0 0 0 0 false ([-1, -1] : List Int) [] [])) (o := 0) hS6 (i := 0) rfl hy8 ag85 rfl (by show _ = o12 + (0 : Int).toNat * 13 + 0; omega) rfl rfl rfl rfl (whole (fun w G hG => ⟨a5, c6, none, 0, none, 0, rfl, hG⟩)) ?_
  intro w14 hS7 hf
  rw [Option.some.inj hy13] at hS7
  refine go ?_
  replace h := Option.some.inj h
  subst h
  exact And.intro trivial ⟨_, Res.one (resOne.t rfl), (some ⟨b11, o12, none⟩), c3, (show (.slice (some ⟨b11, o12, none⟩) y1.length c3 : Value) = .slice (some ⟨b11, o12, none⟩) y13.length c3 by rw [show y1.length = y13.length from (len_set (Option.some.inj hy13))]), hS7.pick [0] rfl rfl⟩

theorem W_i_copyInts {w0 : World} {N : Nat} {x0 : List Int} {r : (List Int)} (h : F_i_copyInts N x0 = some r) {a0_0 : Option Addr} {n0_0 c0_0 : Nat} (hn0_0 : n0_0 = x0.length) (hr0_0 : rdS (Bor w0 []) w0 a0_0 c0_0 x0) :
    Ret Tryz.prog 135 #[.slice a0_0 n0_0 c0_0] w0 (fun v w => ∃ ar0 cr0, v = .slice ar0 r.length cr0 ∧ St w0 [] w [sl ar0 cr0 r]) := by
  subst hn0_0
  unfold F_i_copyInts at h
  refine Ret.fn Tryz.func135 fun e => ?_
  have hS1 := St.start w0
  refine go ?_
  refine LW.bsl (α := Int) (vs := []) (cs := #[]) (l := ([] : List Int)) rfl (by kernel_rfl) rfl rfl rfl (fun w => rfl) hS1 rfl ?_
  intro a1 c2 w3 hS2 hf
  refine go ?_
  replace ⟨y4, hy4, h⟩ := obind h
  refine LW.appN (l := ([] : List Int)) (m := x0) sT22 rfl rfl (hS2.rB hr0_0) hy4 hS2 (i := 0) rfl rfl ?_
  intro a5 c6 w7 hS3 hf
  refine go ?_
  cases h
  exact And.intro trivial ⟨_, Res.one (resOne.t rfl), a5, c6, rfl, hS3.pick [0] rfl rfl⟩

end Go.Kx
