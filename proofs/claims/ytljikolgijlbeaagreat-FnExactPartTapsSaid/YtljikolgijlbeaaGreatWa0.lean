/- Each call returns what the plain function says. Printed by drive.py. -/
import Derived.Test.YtljikolgijlbeaaGreatFa
import Derived.Test.YtljikolgijlbeaaGreatPu
namespace Go.Kx
open Go Go.RowKit Go.Proofs
set_option maxRecDepth 10000
set_option maxHeartbeats 8000000
set_option linter.unusedVariables false
set_option linter.unusedSimpArgs false
theorem W_l_szIntS {w0 : World} {N : Nat} {x0 : List Int} {x1 : Int} {r : Int} (h : F_l_szIntS N x0 x1 = some r) {a0_0 : Option Addr} {n0_0 c0_0 : Nat} (hn0_0 : n0_0 = x0.length) (hr0_0 : rdS (Bor w0 []) w0 a0_0 c0_0 x0) :
    Ret Tryz.prog 131 #[.slice a0_0 n0_0 c0_0, .int .i64 x1] w0 (fun v w => v = .int .i64 r ∧ St w0 [] w []) := by
  subst hn0_0
  unfold F_l_szIntS at h
  refine Ret.fn Tryz.func131 fun e => ?_
  have hS1 := St.start w0
  refine go ?_
  refine cd (fun hc1 => ?_) fun hc1 => ?_
  · replace h := bcT h hc1
    refine go ?_
    cases h
    exact fi hS1
  replace h := bcF h hc1
  refine go ?_
  cases h
  exact fi hS1

theorem W_l_szResS {w0 : World} {N : Nat} {x0 : List DRes} {x1 : Int} {r : Int} (h : F_l_szResS N x0 x1 = some r) {a0_0 : Option Addr} {n0_0 c0_0 : Nat} (hn0_0 : n0_0 = x0.length) (hr0_0 : rdS (Bor w0 []) w0 a0_0 c0_0 x0) :
    Ret Tryz.prog 132 #[.slice a0_0 n0_0 c0_0, .int .i64 x1] w0 (fun v w => v = .int .i64 r ∧ St w0 [] w []) := by
  subst hn0_0
  unfold F_l_szResS at h
  refine Ret.fn Tryz.func132 fun e => ?_
  have hS1 := St.start w0
  refine go ?_
  refine cd (fun hc1 => ?_) fun hc1 => ?_
  · replace h := bcT h hc1
    refine go ?_
    cases h
    exact fi hS1
  replace h := bcF h hc1
  refine go ?_
  cases h
  exact fi hS1

theorem W_l_szMsgS {w0 : World} {N : Nat} {x0 : List DMsg} {x1 : Int} {r : Int} (h : F_l_szMsgS N x0 x1 = some r) {a0_0 : Option Addr} {n0_0 c0_0 : Nat} (hn0_0 : n0_0 = x0.length) (hr0_0 : rdS (Bor w0 []) w0 a0_0 c0_0 x0) :
    Ret Tryz.prog 234 #[.slice a0_0 n0_0 c0_0, .int .i64 x1] w0 (fun v w => v = .int .i64 r ∧ St w0 [] w []) := by
  subst hn0_0
  unfold F_l_szMsgS at h
  refine Ret.fn Tryz.func234 fun e => ?_
  have hS1 := St.start w0
  refine go ?_
  refine cd (fun hc1 => ?_) fun hc1 => ?_
  · replace h := bcT h hc1
    refine go ?_
    cases h
    exact fi hS1
  replace h := bcF h hc1
  refine go ?_
  cases h
  exact fi hS1

theorem W_l_szTapS {w0 : World} {N : Nat} {x0 : List DTap} {x1 : Int} {r : Int} (h : F_l_szTapS N x0 x1 = some r) {a0_0 : Option Addr} {n0_0 c0_0 : Nat} (hn0_0 : n0_0 = x0.length) (hr0_0 : rdS (Bor w0 []) w0 a0_0 c0_0 x0) :
    Ret Tryz.prog 134 #[.slice a0_0 n0_0 c0_0, .int .i64 x1] w0 (fun v w => v = .int .i64 r ∧ St w0 [] w []) := by
  subst hn0_0
  unfold F_l_szTapS at h
  refine Ret.fn Tryz.func134 fun e => ?_
  have hS1 := St.start w0
  refine go ?_
  refine cd (fun hc1 => ?_) fun hc1 => ?_
  · replace h := bcT h hc1
    refine go ?_
    cases h
    exact fi hS1
  replace h := bcF h hc1
  refine go ?_
  cases h
  exact fi hS1

theorem W_l_toIntS {w0 : World} {N : Nat} {x0 : List Int} {r : (List Int)} (h : F_l_toIntS N x0 = some r) {a0_0 : Option Addr} {n0_0 c0_0 : Nat} (hn0_0 : n0_0 = x0.length) (hr0_0 : rdS (Bor w0 []) w0 a0_0 c0_0 x0) :
    Ret Tryz.prog 148 #[.slice a0_0 n0_0 c0_0] w0 (fun v w => ∃ ar0 cr0, v = .slice ar0 r.length cr0 ∧ St w0 [] w [sl ar0 cr0 r]) := by
  subst hn0_0
  unfold F_l_toIntS at h
  refine Ret.fn Tryz.func148 fun e => ?_
  have hS1 := St.start w0
  refine go ?_
  replace ⟨y1, hy1, h⟩ := obind h
  refine LW.mk sT52 rfl rfl hy1 hS1 rfl ?_
  intro a2 c3 w4 hS2 hf
  refine go ?_
  obtain ⟨o24, ho24, h25⟩ := obind h
  refine CW.mono (CW.iter (σ := (List Int) × Int) (ρ := (List Int) × Int) (fun s5 e wb => En e [(0, .slice a0_0 x0.length c0_0), (3, .slice a2 s5.1.length c3), (4, .int .i64 s5.2)] ∧ St w0 [] wb [sl a2 c3 s5.1]) (fun s5 x e wb => x = .exit 0 ∧ En e [(3, .slice a2 s5.1.length c3)] ∧ St w0 [] wb [sl a2 c3 s5.1]) ?_ N (y1, 0) _ _ _ ⟨⟨rfl, rfl, rfl, trivial⟩, hS2.pick [0] rfl rfl⟩ ho24) ?_
  · intro s5 e w6 o hM h
    obtain ⟨hE, hS3⟩ := hM
    obtain ⟨e, rfl⟩ := hE.out
    refine go ?_
    refine cd (fun hc7 => ?_) fun hc7 => ?_
    · replace h := bcT h hc7
      refine go ?_
      replace ⟨y8, hy8, h⟩ := obind h
      obtain ⟨b11, o12, cs13, hae, hb16, hp9, hq10, hd14, hk15⟩ := hr0_0.idx hy8
      subst hae
      obtain rfl := hd14
      refine LW.u (Pur.ix Tryz.underlying52 sz3 rfl rfl hp9 hq10) rfl ?_
      refine LW.l (Ldr.old w0 ag3 rfl (hk15 0 _ rfl)) (hS3.same _ hb16.1 hb16.2) rfl ?_
      replace ⟨y17, hy17, h⟩ := obind h
      obtain ⟨b20, o21, hae, hp18, hq19⟩ := hS3.ownIdx (α := Int) (i := 0) rfl hy17
      subst hae
      refine LW.u (Pur.ix Tryz.underlying52 sz3 rfl rfl hp18 hq19) rfl ?_
      replace ⟨y22, hy22, h⟩ := obind h
      refine LW.stE (M := []) (L := [sl (some ⟨b20, o21, none⟩) c3 s5.1]) (z := y17) (z' := y8) (o := 0) hS3 (i := 0) rfl hy17 ag3 rfl (by show _ = o21 + (s5.2 : Int).toNat * 1 + 0; omega) rfl rfl rfl rfl (whole (fun w G hG => by cases (show G = [] from hG); exact ⟨rfl, rfl⟩)) ?_
      intro w23 hS4 hf
      rw [Option.some.inj hy22] at hS4
      refine go ?_
      replace h := Option.some.inj h
      subst h
      exact ⟨rfl, ⟨⟨rfl, (show (.slice (some ⟨b20, o21, none⟩) s5.1.length c3 : Value) = .slice (some ⟨b20, o21, none⟩) y22.length c3 by rw [show s5.1.length = y22.length from (len_set (Option.some.inj hy22))]), rfl, trivial⟩, hS4.pick [0] rfl rfl⟩⟩
    replace h := bcF h hc7
    refine go ?_
    cases oi h
    exact ⟨trivial, rfl, ⟨⟨rfl, trivial⟩, hS3.pick [0] rfl rfl⟩⟩
  intro x e w26 hM
  obtain ⟨rfl, hM⟩ := hM
  obtain ⟨hE, hS5⟩ := hM
  obtain ⟨e, rfl⟩ := hE.out
  have h := h25
  refine go ?_
  cases h
  exact And.intro trivial ⟨_, Res.one (resOne.t rfl), a2, c3, rfl, hS5.pick [0] rfl rfl⟩

theorem W_l_toAmt {w0 : World} {N : Nat} {x0 : DAmt} {r : DAmt} (h : F_l_toAmt N x0 = some r) :
    Ret Tryz.prog 152 #[.agg #[.int .i64 x0.pages, .int .i64 x0.rent, .int .i64 x0.cpu]] w0 (fun v w => v = .agg #[.int .i64 r.pages, .int .i64 r.rent, .int .i64 r.cpu] ∧ St w0 [] w []) := by
  unfold F_l_toAmt at h
  refine Ret.fn Tryz.func152 fun e => ?_
  have hS1 := St.start w0
  refine go ?_
  refine LW.bo hS1 fun g1 w2 hS2 => ?_
  refine LW.al hS2 fun g3 w4 hS3 => ?_
  refine go ?_
  refine LW.al hS3 fun g5 w6 hS4 => ?_
  refine go ?_
  refine LW.st hS4 0 fun w7 hS5 => ?_
  refine go ?_
  refine LW.st hS5 0 fun w8 hS6 => ?_
  refine go ?_
  refine LW.st hS6 0 fun w9 hS7 => ?_
  refine go ?_
  refine LW.st hS7 1 fun w10 hS8 => ?_
  refine go ?_
  cases h
  exact And.intro trivial ⟨_, Res.one (resOne.b hS8 1 rfl ag56 rfl rfl), rfl, hS8.pick [] rfl rfl⟩

theorem W_l_toMsg {w0 : World} {N : Nat} {x0 : DMsg} {r : DMsg} (h : F_l_toMsg N x0 = some r) :
    Ret Tryz.prog 237 #[.agg #[.int .i64 x0.src, .int .i64 x0.n]] w0 (fun v w => v = .agg #[.int .i64 r.src, .int .i64 r.n] ∧ St w0 [] w []) := by
  unfold F_l_toMsg at h
  refine Ret.fn Tryz.func237 fun e => ?_
  have hS1 := St.start w0
  refine go ?_
  refine LW.bo hS1 fun g1 w2 hS2 => ?_
  refine LW.al hS2 fun g3 w4 hS3 => ?_
  refine go ?_
  refine LW.al hS3 fun g5 w6 hS4 => ?_
  refine go ?_
  refine LW.st hS4 0 fun w7 hS5 => ?_
  refine go ?_
  refine LW.st hS5 0 fun w8 hS6 => ?_
  refine go ?_
  refine LW.st hS6 1 fun w9 hS7 => ?_
  refine go ?_
  cases h
  exact And.intro trivial ⟨_, Res.one (resOne.b hS7 1 rfl ag170 rfl rfl), rfl, hS7.pick [] rfl rfl⟩

theorem W_l_toTap {w0 : World} {N : Nat} {x0 : DTap} {r : DTap} (h : F_l_toTap N x0 = some r) :
    Ret Tryz.prog 208 #[.agg #[.int .i64 x0.res, .int .i64 x0.toPart, .int .i64 x0.toRes, .int .i64 x0.which, .int .i64 x0.kind, .int .i64 x0.rate]] w0 (fun v w => v = .agg #[.int .i64 r.res, .int .i64 r.toPart, .int .i64 r.toRes, .int .i64 r.which, .int .i64 r.kind, .int .i64 r.rate] ∧ St w0 [] w []) := by
  unfold F_l_toTap at h
  refine Ret.fn Tryz.func208 fun e => ?_
  have hS1 := St.start w0
  refine go ?_
  refine LW.bo hS1 fun g1 w2 hS2 => ?_
  refine LW.al hS2 fun g3 w4 hS3 => ?_
  refine go ?_
  refine LW.al hS3 fun g5 w6 hS4 => ?_
  refine go ?_
  refine LW.st hS4 0 fun w7 hS5 => ?_
  refine go ?_
  refine LW.st hS5 0 fun w8 hS6 => ?_
  refine go ?_
  refine LW.st hS6 0 fun w9 hS7 => ?_
  refine go ?_
  refine LW.st hS7 0 fun w10 hS8 => ?_
  refine go ?_
  refine LW.st hS8 0 fun w11 hS9 => ?_
  refine go ?_
  refine LW.fl [2, 3, 20, 21] fun e => ?_
  refine LW.st hS9 0 fun w12 hS10 => ?_
  refine go ?_
  refine LW.st hS10 1 fun w13 hS11 => ?_
  refine go ?_
  cases h
  exact And.intro trivial ⟨_, Res.one (resOne.b hS11 1 rfl ag82 rfl rfl), rfl, hS11.pick [] rfl rfl⟩

theorem W_s_l6Copy {w0 : World} {N : Nat} {x0 : List DRes} {r : (List DRes)} (h : F_s_l6Copy N x0 = some r) {a0_0 : Option Addr} {n0_0 c0_0 : Nat} (hn0_0 : n0_0 = x0.length) (hr0_0 : rdS (Bor w0 []) w0 a0_0 c0_0 x0) :
    Ret Tryz.prog 34 #[.slice a0_0 n0_0 c0_0] w0 (fun v w => ∃ ar0 cr0, v = .slice ar0 r.length cr0 ∧ St w0 [] w [sl ar0 cr0 r]) := by
  subst hn0_0
  unfold F_s_l6Copy at h
  refine Ret.fn Tryz.func34 fun e => ?_
  have hS1 := St.start w0
  refine go ?_
  refine LW.bsl (α := DRes) (vs := []) (cs := #[]) (l := ([] : List DRes)) rfl (by kernel_rfl) rfl rfl rfl (fun w => rfl) hS1 rfl ?_
  intro a1 c2 w3 hS2 hf
  refine go ?_
  replace ⟨y4, hy4, h⟩ := obind h
  refine LW.appN (l := ([] : List DRes)) (m := x0) sT59 rfl rfl (hS2.rB hr0_0) hy4 hS2 (i := 0) rfl rfl ?_
  intro a5 c6 w7 hS3 hf
  refine go ?_
  cases h
  exact And.intro trivial ⟨_, Res.one (resOne.t rfl), a5, c6, rfl, hS3.pick [0] rfl rfl⟩

theorem W_s_l8Obj {w0 : World} {N : Nat} {x0 : DObj} {r : DObj} (h : F_s_l8Obj N x0 = some r) {a0_10 : Option Addr} {n0_10 c0_10 : Nat} (hn0_10 : n0_10 = x0.links.length) (hr0_10 : rdS (Bor w0 []) w0 a0_10 c0_10 x0.links) {a0_11 : Option Addr} {n0_11 c0_11 : Nat} (hn0_11 : n0_11 = x0.data.length) (hr0_11 : rdS (Bor w0 []) w0 a0_11 c0_11 x0.data) {a0_12 : Option Addr} {n0_12 c0_12 : Nat} (hn0_12 : n0_12 = x0.queue.length) (hr0_12 : rdS (Bor w0 []) w0 a0_12 c0_12 x0.queue) :
    Ret Tryz.prog 229 #[.agg #[.int .i64 x0.gen, .int .i64 x0.kind, .int .i64 x0.box, .int .i64 x0.res, .int .i64 x0.til, .int .i64 x0.pages, .int .i64 x0.wait, .int .i64 x0.got, .int .i64 x0.ran, .bool x0.mark, .slice a0_10 n0_10 c0_10, .slice a0_11 n0_11 c0_11, .slice a0_12 n0_12 c0_12]] w0 (fun v w => ∃ ar0_10 cr0_10, ∃ ar0_11 cr0_11, ∃ ar0_12 cr0_12, v = .agg #[.int .i64 r.gen, .int .i64 r.kind, .int .i64 r.box, .int .i64 r.res, .int .i64 r.til, .int .i64 r.pages, .int .i64 r.wait, .int .i64 r.got, .int .i64 r.ran, .bool r.mark, .slice ar0_10 r.links.length cr0_10, .slice ar0_11 r.data.length cr0_11, .slice ar0_12 r.queue.length cr0_12] ∧ St w0 [] w [sl ar0_10 cr0_10 r.links, sl ar0_11 cr0_11 r.data, sl ar0_12 cr0_12 r.queue]) := by
  subst hn0_10 hn0_11 hn0_12
  unfold F_s_l8Obj at h
  refine Ret.fn Tryz.func229 fun e => ?_
  have hS1 := St.start w0
  refine go ?_
  refine LW.bo hS1 fun g1 w2 hS2 => ?_
  refine LW.al hS2 fun g3 w4 hS3 => ?_
  refine go ?_
  refine LW.bsl (α := Int) (vs := []) (cs := #[]) (l := ([] : List Int)) rfl (by kernel_rfl) rfl rfl rfl (fun w => rfl) hS3 rfl ?_
  intro a5 c6 w7 hS4 hf
  refine go ?_
  replace ⟨y8, hy8, h⟩ := obind h
  refine LW.appN (l := ([] : List Int)) (m := x0.links) sT52 rfl rfl (hS4.rB hr0_10) hy8 hS4 (i := 0) rfl rfl ?_
  intro a9 c10 w11 hS5 hf
  refine go ?_
  refine LW.st hS5 2 fun w12 hS6 => ?_
  refine go ?_
  refine LW.bsl (α := Int) (vs := []) (cs := #[]) (l := ([] : List Int)) rfl (by kernel_rfl) rfl rfl rfl (fun w => rfl) hS6 rfl ?_
  intro a13 c14 w15 hS7 hf
  refine go ?_
  replace ⟨y16, hy16, h⟩ := obind h
  refine LW.appN (l := ([] : List Int)) (m := x0.data) sT52 rfl rfl (hS7.rB hr0_11) hy16 hS7 (i := 0) rfl rfl ?_
  intro a17 c18 w19 hS8 hf
  refine go ?_
  refine LW.st hS8 3 fun w20 hS9 => ?_
  refine go ?_
  refine LW.bsl (α := DMsg) (vs := []) (cs := #[]) (l := ([] : List DMsg)) rfl (by kernel_rfl) rfl rfl rfl (fun w => rfl) hS9 rfl ?_
  intro a21 c22 w23 hS10 hf
  refine go ?_
  replace ⟨y24, hy24, h⟩ := obind h
  refine LW.appN (l := ([] : List DMsg)) (m := x0.queue) sT102 rfl rfl (hS10.rB hr0_12) hy24 hS10 (i := 0) rfl rfl ?_
  intro a25 c26 w27 hS11 hf
  refine go ?_
  refine LW.st hS11 4 fun w28 hS12 => ?_
  refine go ?_
  refine LW.st hS12 3 fun w29 hS13 => ?_
  refine go ?_
  cases h
  exact And.intro trivial ⟨_, Res.one (resOne.b hS13 3 rfl ag104 rfl rfl), a9, c10, a17, c18, a25, c26, rfl, hS13.pick [2, 1, 0] rfl rfl⟩

theorem W_s_l6Sum {w0 : World} {N : Nat} {x0 : List DRes} {r : DAmt} (h : F_s_l6Sum N x0 = some r) {a0_0 : Option Addr} {n0_0 c0_0 : Nat} (hn0_0 : n0_0 = x0.length) (hr0_0 : rdS (Bor w0 []) w0 a0_0 c0_0 x0) :
    Ret Tryz.prog 146 #[.slice a0_0 n0_0 c0_0] w0 (fun v w => v = .agg #[.int .i64 r.pages, .int .i64 r.rent, .int .i64 r.cpu] ∧ St w0 [] w []) := by
  subst hn0_0
  unfold F_s_l6Sum at h
  refine Ret.fn Tryz.func146 fun e => ?_
  have hS1 := St.start w0
  refine go ?_
  refine LW.al hS1 fun g1 w2 hS2 => ?_
  refine go ?_
  refine LW.u (Pur.build (vs := []) (cs := #[.int .i64 0, .int .i64 0, .int .i64 0]) rfl (by kernel_rfl)) rfl ?_
  refine LW.al hS2 fun g3 w4 hS3 => ?_
  refine LW.st hS3 0 fun w5 hS4 => ?_
  refine go ?_
  obtain ⟨o22, ho22, h23⟩ := obind h
  refine CW.mono (CW.iter (σ := Int × Int × Int × Int) (ρ := Int × Int × Int × Int) (fun s6 e wb => En e [(0, .slice a0_0 x0.length c0_0), (2, .pointer (some ⟨g1, 0, none⟩)), (3, .pointer (some ⟨g3, 0, none⟩)), (4, .int .i64 s6.1)] ∧ St w0 [] wb [bx g3 56 [.int .i64 s6.2.1, .int .i64 s6.2.2.1, .int .i64 s6.2.2.2], bx g1 56 [.int .i64 0, .int .i64 0, .int .i64 0]]) (fun s6 x e wb => x = .exit 0 ∧ En e [(2, .pointer (some ⟨g1, 0, none⟩)), (3, .pointer (some ⟨g3, 0, none⟩))] ∧ St w0 [] wb [bx g3 56 [.int .i64 s6.2.1, .int .i64 s6.2.2.1, .int .i64 s6.2.2.2], bx g1 56 [.int .i64 0, .int .i64 0, .int .i64 0]]) ?_ N (0, 0, 0, 0) _ _ _ ⟨⟨rfl, rfl, rfl, rfl, trivial⟩, hS4.pick [0, 1] rfl rfl⟩ ho22) ?_
  · intro s6 e w7 o hM h
    obtain ⟨hE, hS5⟩ := hM
    obtain ⟨e, rfl⟩ := hE.out
    refine go ?_
    refine cd (fun hc8 => ?_) fun hc8 => ?_
    · replace h := bcT h hc8
      refine go ?_
      replace ⟨y9, hy9, h⟩ := obind h
      obtain ⟨b12, o13, cs14, hae, hb17, hp10, hq11, hd15, hk16⟩ := hr0_0.idx hy9
      subst hae
      obtain rfl := hd15
      refine LW.u (Pur.ix Tryz.underlying59 sz138 rfl rfl hp10 hq11) rfl ?_
      refine go ?_
      refine LW.l (Ldr.old w0 ag4 rfl (hk16 0 _ rfl)) (hS5.same _ hb17.1 hb17.2) rfl ?_
      refine go ?_
      refine CW.fl [0, 2, 3, 4, 16] fun e => ?_
      refine cd (fun hc18 => ?_) fun hc18 => ?_
      · replace h := bcT h hc18
        refine go ?_
        refine CW.draw (by kernel_rfl) ?_
        have hS6 := hS5.drew
        refine go ?_
        refine AW.u (i := 4) rfl (by kernel_rfl) rfl rfl (Pur.ix Tryz.underlying59 sz138 rfl rfl hp10 hq11) ?_
        refine go ?_
        refine AW.take (i := 7) rfl (by kernel_rfl) rfl rfl (Ldr.old w0 ag3 rfl (hk16 2 _ rfl)) (hS6.same _ hb17.1 hb17.2) ?_
        refine go ?_
        refine AW.one (i := 10) (by kernel_rfl) ?_
        refine ⟨_, rfl, ?_⟩
        refine LW.st hS6 0 fun w19 hS7 => ?_
        refine LW.nil ⟨rfl, (.w (by kernel_rfl) (.w (by kernel_rfl) Kept.n)), ?_⟩
        refine go ?_
        refine CW.draw (by kernel_rfl) ?_
        have hS8 := hS7.drew
        refine go ?_
        refine AW.u (i := 4) rfl (by kernel_rfl) rfl rfl (Pur.ix Tryz.underlying59 sz138 rfl rfl hp10 hq11) ?_
        refine go ?_
        refine AW.take (i := 7) rfl (by kernel_rfl) rfl rfl (Ldr.old w0 ag3 rfl (hk16 3 _ rfl)) (hS8.same _ hb17.1 hb17.2) ?_
        refine go ?_
        refine AW.one (i := 10) (by kernel_rfl) ?_
        refine ⟨_, rfl, ?_⟩
        refine LW.st hS8 0 fun w20 hS9 => ?_
        refine LW.nil ⟨rfl, (.w (by kernel_rfl) (.w (by kernel_rfl) Kept.n)), ?_⟩
        refine go ?_
        refine CW.draw (by kernel_rfl) ?_
        have hS10 := hS9.drew
        refine go ?_
        refine AW.u (i := 4) rfl (by kernel_rfl) rfl rfl (Pur.ix Tryz.underlying59 sz138 rfl rfl hp10 hq11) ?_
        refine go ?_
        refine AW.take (i := 7) rfl (by kernel_rfl) rfl rfl (Ldr.old w0 ag3 rfl (hk16 4 _ rfl)) (hS10.same _ hb17.1 hb17.2) ?_
        refine go ?_
        refine AW.one (i := 10) (by kernel_rfl) ?_
        refine ⟨_, rfl, ?_⟩
        refine LW.st hS10 0 fun w21 hS11 => ?_
        refine LW.nil ⟨rfl, (.w (by kernel_rfl) (.w (by kernel_rfl) Kept.n)), ?_⟩
        refine go ?_
        cases oi h
        exact ⟨rfl, ⟨⟨rfl, rfl, rfl, rfl, trivial⟩, hS11.pick [0, 1] rfl rfl⟩⟩
      replace h := bcF h hc18
      refine go ?_
      cases oi h
      exact ⟨rfl, ⟨⟨rfl, rfl, rfl, rfl, trivial⟩, hS5.pick [0, 1] rfl rfl⟩⟩
    replace h := bcF h hc8
    refine go ?_
    cases oi h
    exact ⟨trivial, rfl, ⟨⟨rfl, rfl, trivial⟩, hS5.pick [0, 1] rfl rfl⟩⟩
  intro x e w24 hM
  obtain ⟨rfl, hM⟩ := hM
  obtain ⟨hE, hS12⟩ := hM
  obtain ⟨e, rfl⟩ := hE.out
  have h := h23
  refine go ?_
  refine LW.st hS12 1 fun w25 hS13 => ?_
  refine go ?_
  cases h
  exact And.intro trivial ⟨_, Res.one (resOne.b hS13 1 rfl ag56 rfl rfl), rfl, hS13.pick [] rfl rfl⟩

theorem W_s_l4Has {w0 : World} {N : Nat} {x0 : List Int} {x1 : Int} {r : Bool} (h : F_s_l4Has N x0 x1 = some r) {a0_0 : Option Addr} {n0_0 c0_0 : Nat} (hn0_0 : n0_0 = x0.length) (hr0_0 : rdS (Bor w0 []) w0 a0_0 c0_0 x0) :
    Ret Tryz.prog 201 #[.slice a0_0 n0_0 c0_0, .int .i64 x1] w0 (fun v w => v = .bool r ∧ St w0 [] w []) := by
  subst hn0_0
  unfold F_s_l4Has at h
  refine Ret.fn Tryz.func201 fun e => ?_
  have hS1 := St.start w0
  refine go ?_
  obtain ⟨o14, ho14, h15⟩ := obind h
  refine CW.mono (CW.lx [0, 1] [] [] 0 (fun s1 => [(5, .int .i64 s1)]) (RT Tryz.prog Tryz.f201.results (fun u => .bool u) w0 []) hS1 ho14 (hb := ?_)) ?_
  · intro s1 e w2 o hS2 h
    refine go ?_
    refine cd (fun hc3 => ?_) fun hc3 => ?_
    · replace h := bcT h hc3
      refine go ?_
      replace ⟨y4, hy4, h⟩ := obind h
      obtain ⟨b7, o8, cs9, hae, hb12, hp5, hq6, hd10, hk11⟩ := hr0_0.idx hy4
      subst hae
      obtain rfl := hd10
      refine LW.u (Pur.ix Tryz.underlying52 sz3 rfl rfl hp5 hq6) rfl ?_
      refine LW.l (Ldr.old w0 ag3 rfl (hk11 0 _ rfl)) (hS2.same _ hb12.1 hb12.2) rfl ?_
      refine go ?_
      refine CW.fl [0, 1, 5, 17] fun e => ?_
      refine cd (fun hc13 => ?_) fun hc13 => ?_
      · replace h := bcT h hc13
        refine go ?_
        cases oi h
        exact ⟨trivial, rfl, _, rfl, ⟨_, Res.one (resOne.t rfl), rfl, hS2.pick [] rfl rfl⟩⟩
      replace h := bcF h hc13
      refine go ?_
      cases oi h
      exact ⟨rfl, ⟨⟨rfl, rfl, rfl, trivial⟩, hS2.pick [] rfl rfl⟩⟩
    replace h := bcF h hc3
    refine go ?_
    cases oi h
    exact ⟨trivial, rfl, ⟨trivial, hS2.pick [] rfl rfl⟩⟩
  intro x e w16 hM
  rcases o14 with o14 | r17
  · obtain ⟨rfl, hM⟩ := hM
    obtain ⟨hE, hS3⟩ := hM
    obtain ⟨e, rfl⟩ := hE.out; rw [show e = upds e [] from rfl]
    have h := h15
    refine go ?_
    cases h
    exact fi hS3
  obtain ⟨rfl, u, rfl, hM⟩ := hM
  cases h15
  exact And.intro trivial hM

theorem W_s_AmtPart {w0 : World} {N : Nat} {x0 : DAmt} {x1 : Int} {r : Int} (h : F_s_AmtPart N x0 x1 = some r) :
    Ret Tryz.prog 143 #[.agg #[.int .i64 x0.pages, .int .i64 x0.rent, .int .i64 x0.cpu], .int .i64 x1] w0 (fun v w => v = .int .i64 r ∧ St w0 [] w []) := by
  unfold F_s_AmtPart at h
  refine Ret.fn Tryz.func143 fun e => ?_
  have hS1 := St.start w0
  refine go ?_
  refine LW.bo hS1 fun g1 w2 hS2 => ?_
  refine go ?_
  refine cd (fun hc3 => ?_) fun hc3 => ?_
  · replace h := bcT h hc3
    refine go ?_
    cases h
    exact fi hS2
  replace h := bcF h hc3
  refine go ?_
  refine cd (fun hc4 => ?_) fun hc4 => ?_
  · replace h := bcT h hc4
    refine go ?_
    cases h
    exact fi hS2
  replace h := bcF h hc4
  refine go ?_
  refine cd (fun hc5 => ?_) fun hc5 => ?_
  · replace h := bcT h hc5
    refine go ?_
    cases h
    exact fi hS2
  replace h := bcF h hc5
  refine go ?_
  cases h
  exact fi hS2

theorem W_s_AmtOne {w0 : World} {N : Nat} {x0 : Int} {x1 : Int} {r : DAmt} (h : F_s_AmtOne N x0 x1 = some r) :
    Ret Tryz.prog 78 #[.int .i64 x0, .int .i64 x1] w0 (fun v w => v = .agg #[.int .i64 r.pages, .int .i64 r.rent, .int .i64 r.cpu] ∧ St w0 [] w []) := by
  unfold F_s_AmtOne at h
  refine Ret.fn Tryz.func78 fun e => ?_
  have hS1 := St.start w0
  refine go ?_
  refine LW.al hS1 fun g1 w2 hS2 => ?_
  refine go ?_
  refine cd (fun hc3 => ?_) fun hc3 => ?_
  · replace h := bcT h hc3
    refine go ?_
    refine LW.u (Pur.build (vs := [(0, .int .i64 x1)]) (cs := #[.int .i64 x1, .int .i64 0, .int .i64 0]) rfl (by kernel_rfl)) rfl ?_
    refine LW.st hS2 0 fun w4 hS3 => ?_
    refine go ?_
    cases h
    exact And.intro trivial ⟨_, Res.one (resOne.b hS3 0 rfl ag56 rfl rfl), rfl, hS3.pick [] rfl rfl⟩
  replace h := bcF h hc3
  refine go ?_
  refine cd (fun hc5 => ?_) fun hc5 => ?_
  · replace h := bcT h hc5
    refine go ?_
    refine LW.u (Pur.build (vs := [(1, .int .i64 x1)]) (cs := #[.int .i64 0, .int .i64 x1, .int .i64 0]) rfl (by kernel_rfl)) rfl ?_
    refine LW.st hS2 0 fun w6 hS4 => ?_
    refine go ?_
    cases h
    exact And.intro trivial ⟨_, Res.one (resOne.b hS4 0 rfl ag56 rfl rfl), rfl, hS4.pick [] rfl rfl⟩
  replace h := bcF h hc5
  refine go ?_
  refine cd (fun hc7 => ?_) fun hc7 => ?_
  · replace h := bcT h hc7
    refine go ?_
    refine LW.u (Pur.build (vs := [(2, .int .i64 x1)]) (cs := #[.int .i64 0, .int .i64 0, .int .i64 x1]) rfl (by kernel_rfl)) rfl ?_
    refine LW.st hS2 0 fun w8 hS5 => ?_
    refine go ?_
    cases h
    exact And.intro trivial ⟨_, Res.one (resOne.b hS5 0 rfl ag56 rfl rfl), rfl, hS5.pick [] rfl rfl⟩
  replace h := bcF h hc7
  refine go ?_
  refine LW.u (Pur.build (vs := []) (cs := #[.int .i64 0, .int .i64 0, .int .i64 0]) rfl (by kernel_rfl)) rfl ?_
  refine LW.st hS2 0 fun w9 hS6 => ?_
  refine go ?_
  cases h
  exact And.intro trivial ⟨_, Res.one (resOne.b hS6 0 rfl ag56 rfl rfl), rfl, hS6.pick [] rfl rfl⟩

theorem W_l_eqIntS {w0 : World} {N : Nat} {x0 : List Int} {x1 : List Int} {r : Bool} (h : F_l_eqIntS N x0 x1 = some r) {a0_0 : Option Addr} {n0_0 c0_0 : Nat} (hn0_0 : n0_0 = x0.length) (hr0_0 : rdS (Bor w0 []) w0 a0_0 c0_0 x0) {a1_0 : Option Addr} {n1_0 c1_0 : Nat} (hn1_0 : n1_0 = x1.length) (hr1_0 : rdS (Bor w0 []) w0 a1_0 c1_0 x1) :
    Ret Tryz.prog 162 #[.slice a0_0 n0_0 c0_0, .slice a1_0 n1_0 c1_0] w0 (fun v w => v = .bool r ∧ St w0 [] w []) := by
  subst hn0_0 hn1_0
  unfold F_l_eqIntS at h
  refine Ret.fn Tryz.func162 fun e => ?_
  have hS1 := St.start w0
  refine go ?_
  refine cd (fun hc1 => ?_) fun hc1 => ?_
  · replace h := bcT h hc1
    refine go ?_
    cases h
    exact fi hS1
  replace h := bcF h hc1
  refine go ?_
  obtain ⟨o24, ho24, h25⟩ := obind h
  refine CW.mono (CW.lx [0, 1] [] [] 0 (fun s2 => [(5, .int .i64 s2)]) (RT Tryz.prog Tryz.f162.results (fun u => .bool u) w0 []) hS1 ho24 (hb := ?_)) ?_
  · intro s2 e w3 o hS2 h
    refine go ?_
    refine cd (fun hc4 => ?_) fun hc4 => ?_
    · replace h := bcT h hc4
      refine go ?_
      refine CW.draw (by kernel_rfl) ?_
      have hS3 := hS2.drew
      refine go ?_
      replace ⟨y5, hy5, h⟩ := obind h
      obtain ⟨b8, o9, cs10, hae, hb13, hp6, hq7, hd11, hk12⟩ := hr0_0.idx hy5
      subst hae
      obtain rfl := hd11
      refine AW.u (i := 2) rfl (by kernel_rfl) rfl rfl (Pur.ix Tryz.underlying52 sz3 rfl rfl hp6 hq7) ?_
      refine AW.take (i := 3) rfl (by kernel_rfl) rfl rfl (Ldr.old w0 ag3 rfl (hk12 0 _ rfl)) (hS3.same _ hb13.1 hb13.2) ?_
      refine go ?_
      replace ⟨y14, hy14, h⟩ := obind h
      obtain ⟨b17, o18, cs19, hae, hb22, hp15, hq16, hd20, hk21⟩ := hr1_0.idx hy14
      subst hae
      obtain rfl := hd20
      refine AW.u (i := 6) rfl (by kernel_rfl) rfl rfl (Pur.ix Tryz.underlying52 sz3 rfl rfl hp15 hq16) ?_
      refine AW.take (i := 7) rfl (by kernel_rfl) rfl rfl (Ldr.old w0 ag3 rfl (hk21 0 _ rfl)) (hS3.same _ hb22.1 hb22.2) ?_
      refine go ?_
      refine cd (fun hc23 => ?_) fun hc23 => ?_
      · replace h := bcT h hc23
        refine go ?_
        cases oi h
        exact ⟨trivial, rfl, _, rfl, ⟨_, Res.one (resOne.t rfl), rfl, hS3.pick [] rfl rfl⟩⟩
      replace h := bcF h hc23
      refine go ?_
      cases oi h
      exact ⟨rfl, ⟨⟨rfl, rfl, rfl, trivial⟩, hS3.pick [] rfl rfl⟩⟩
    replace h := bcF h hc4
    refine go ?_
    cases oi h
    exact ⟨trivial, rfl, ⟨trivial, hS2.pick [] rfl rfl⟩⟩
  intro x e w26 hM
  rcases o24 with o24 | r27
  · obtain ⟨rfl, hM⟩ := hM
    obtain ⟨hE, hS4⟩ := hM
    obtain ⟨e, rfl⟩ := hE.out; rw [show e = upds e [] from rfl]
    have h := h25
    refine go ?_
    cases h
    exact fi hS4
  obtain ⟨rfl, u, rfl, hM⟩ := hM
  cases h25
  exact And.intro trivial hM

theorem W_l_eqAmt {w0 : World} {N : Nat} {x0 : DAmt} {x1 : DAmt} {r : Bool} (h : F_l_eqAmt N x0 x1 = some r) :
    Ret Tryz.prog 166 #[.agg #[.int .i64 x0.pages, .int .i64 x0.rent, .int .i64 x0.cpu], .agg #[.int .i64 x1.pages, .int .i64 x1.rent, .int .i64 x1.cpu]] w0 (fun v w => v = .bool r ∧ St w0 [] w []) := by
  unfold F_l_eqAmt at h
  refine Ret.fn Tryz.func166 fun e => ?_
  have hS1 := St.start w0
  refine go ?_
  refine LW.bo hS1 fun g1 w2 hS2 => ?_
  refine LW.bo hS2 fun g3 w4 hS3 => ?_
  refine go ?_
  refine cd (fun hc5 => ?_) fun hc5 => ?_
  · replace h := bcT h hc5
    refine go ?_
    cases h
    exact fi hS3
  replace h := bcF h hc5
  refine go ?_
  refine CW.fl [2, 3, 14] fun e => ?_
  refine cd (fun hc6 => ?_) fun hc6 => ?_
  · replace h := bcT h hc6
    refine go ?_
    cases h
    exact fi hS3
  replace h := bcF h hc6
  refine go ?_
  refine cd (fun hc7 => ?_) fun hc7 => ?_
  · replace h := bcT h hc7
    refine go ?_
    cases h
    exact fi hS3
  replace h := bcF h hc7
  refine go ?_
  cases h
  exact fi hS3

theorem W_l_eqMsg {w0 : World} {N : Nat} {x0 : DMsg} {x1 : DMsg} {r : Bool} (h : F_l_eqMsg N x0 x1 = some r) :
    Ret Tryz.prog 238 #[.agg #[.int .i64 x0.src, .int .i64 x0.n], .agg #[.int .i64 x1.src, .int .i64 x1.n]] w0 (fun v w => v = .bool r ∧ St w0 [] w []) := by
  unfold F_l_eqMsg at h
  refine Ret.fn Tryz.func238 fun e => ?_
  have hS1 := St.start w0
  refine go ?_
  refine LW.bo hS1 fun g1 w2 hS2 => ?_
  refine LW.bo hS2 fun g3 w4 hS3 => ?_
  refine go ?_
  refine cd (fun hc5 => ?_) fun hc5 => ?_
  · replace h := bcT h hc5
    refine go ?_
    cases h
    exact fi hS3
  replace h := bcF h hc5
  refine go ?_
  refine CW.fl [14] fun e => ?_
  refine cd (fun hc6 => ?_) fun hc6 => ?_
  · replace h := bcT h hc6
    refine go ?_
    cases h
    exact fi hS3
  replace h := bcF h hc6
  refine go ?_
  cases h
  exact fi hS3

theorem W_l_eqTap {w0 : World} {N : Nat} {x0 : DTap} {x1 : DTap} {r : Bool} (h : F_l_eqTap N x0 x1 = some r) :
    Ret Tryz.prog 214 #[.agg #[.int .i64 x0.res, .int .i64 x0.toPart, .int .i64 x0.toRes, .int .i64 x0.which, .int .i64 x0.kind, .int .i64 x0.rate], .agg #[.int .i64 x1.res, .int .i64 x1.toPart, .int .i64 x1.toRes, .int .i64 x1.which, .int .i64 x1.kind, .int .i64 x1.rate]] w0 (fun v w => v = .bool r ∧ St w0 [] w []) := by
  unfold F_l_eqTap at h
  refine Ret.fn Tryz.func214 fun e => ?_
  have hS1 := St.start w0
  refine go ?_
  refine LW.bo hS1 fun g1 w2 hS2 => ?_
  refine LW.bo hS2 fun g3 w4 hS3 => ?_
  refine go ?_
  refine cd (fun hc5 => ?_) fun hc5 => ?_
  · replace h := bcT h hc5
    refine go ?_
    cases h
    exact fi hS3
  replace h := bcF h hc5
  refine go ?_
  refine CW.fl [2, 3, 14] fun e => ?_
  refine cd (fun hc6 => ?_) fun hc6 => ?_
  · replace h := bcT h hc6
    refine go ?_
    cases h
    exact fi hS3
  replace h := bcF h hc6
  refine go ?_
  refine cd (fun hc7 => ?_) fun hc7 => ?_
  · replace h := bcT h hc7
    refine go ?_
    cases h
    exact fi hS3
  replace h := bcF h hc7
  refine go ?_
  refine cd (fun hc8 => ?_) fun hc8 => ?_
  · replace h := bcT h hc8
    refine go ?_
    cases h
    exact fi hS3
  replace h := bcF h hc8
  refine go ?_
  refine CW.fl [2, 3, 29] fun e => ?_
  refine cd (fun hc9 => ?_) fun hc9 => ?_
  · replace h := bcT h hc9
    refine go ?_
    cases h
    exact fi hS3
  replace h := bcF h hc9
  refine go ?_
  refine cd (fun hc10 => ?_) fun hc10 => ?_
  · replace h := bcT h hc10
    refine go ?_
    cases h
    exact fi hS3
  replace h := bcF h hc10
  refine go ?_
  cases h
  exact fi hS3

theorem W_l_markIntS {w0 : World} {F : List Nat} {N : Nat} {x0 : List Int} {x1 : Int} {r : Int × (List Int)} (h : F_l_markIntS N x0 x1 = some r) {a0_0 : Option Addr} {n0_0 c0_0 : Nat} (hn0_0 : n0_0 = x0.length) (hS : St w0 F w0 [sl a0_0 c0_0 x0]) :
    Ret Tryz.prog 97 #[.slice a0_0 n0_0 c0_0, .int .i64 x1] w0 (fun v w => v = .int .i64 r.1 ∧ St w0 F w [sl a0_0 c0_0 r.2]) := by
  subst hn0_0
  unfold F_l_markIntS at h
  refine Ret.fn Tryz.func97 fun e => ?_
  refine go ?_
  obtain ⟨o11, ho11, h12⟩ := obind h
  refine CW.mono (CW.iter (σ := (List Int) × Int × Int) (ρ := (List Int) × Int × Int) (fun s1 e wb => En e [(0, .slice a0_0 s1.1.length c0_0), (1, .int .i64 s1.2.1), (5, .int .i64 s1.2.2)] ∧ St w0 F wb [sl a0_0 c0_0 s1.1]) (fun s1 x e wb => x = .exit 0 ∧ En e [(1, .int .i64 s1.2.1)] ∧ St w0 F wb [sl a0_0 c0_0 s1.1]) ?_ N (x0, x1, 0) _ _ _ ⟨⟨rfl, rfl, rfl, trivial⟩, hS.pick [0] rfl rfl⟩ ho11) ?_
  · intro s1 e w2 o hM h
    obtain ⟨hE, hS1⟩ := hM
    obtain ⟨e, rfl⟩ := hE.out
    refine go ?_
    refine cd (fun hc3 => ?_) fun hc3 => ?_
    · replace h := bcT h hc3
      refine go ?_
      replace ⟨y4, hy4, h⟩ := obind h
      obtain ⟨b7, o8, hae, hp5, hq6⟩ := hS1.ownIdx (α := Int) (i := 0) rfl hy4
      subst hae
      refine LW.u (Pur.ix Tryz.underlying52 sz3 rfl rfl hp5 hq6) rfl ?_
      replace ⟨y9, hy9, h⟩ := obind h
      refine LW.stE (M := []) (L := [sl (some ⟨b7, o8, none⟩) c0_0 s1.1]) (z := y4) (z' := s1.2.1) (o := 0) hS1 (i := 0) rfl hy4 ag3 rfl (by show _ = o8 + (s1.2.2 : Int).toNat * 1 + 0; omega) rfl rfl rfl rfl (whole (fun w G hG => by cases (show G = [] from hG); exact ⟨rfl, rfl⟩)) ?_
      intro w10 hS2 hf
      rw [Option.some.inj hy9] at hS2
      refine go ?_
      replace h := Option.some.inj h
      subst h
      exact ⟨rfl, ⟨⟨(show (.slice (some ⟨b7, o8, none⟩) s1.1.length c0_0 : Value) = .slice (some ⟨b7, o8, none⟩) y9.length c0_0 by rw [show s1.1.length = y9.length from (len_set (Option.some.inj hy9))]), rfl, rfl, trivial⟩, hS2.pick [0] rfl rfl⟩⟩
    replace h := bcF h hc3
    refine go ?_
    cases oi h
    exact ⟨trivial, rfl, ⟨⟨rfl, trivial⟩, hS1.pick [0] rfl rfl⟩⟩
  intro x e w13 hM
  obtain ⟨rfl, hM⟩ := hM
  obtain ⟨hE, hS3⟩ := hM
  obtain ⟨e, rfl⟩ := hE.out
  have h := h12
  refine go ?_
  replace h := Option.some.inj h
  subst h
  exact And.intro trivial ⟨_, Res.one (resOne.t rfl), rfl, hS3.pick [0] rfl rfl⟩

theorem W_l_markResS {w0 : World} {F : List Nat} {N : Nat} {x0 : List DRes} {x1 : Int} {r : Int × (List DRes)} (h : F_l_markResS N x0 x1 = some r) {a0_0 : Option Addr} {n0_0 c0_0 : Nat} (hn0_0 : n0_0 = x0.length) (hS : St w0 F w0 [sl a0_0 c0_0 x0]) :
    Ret Tryz.prog 98 #[.slice a0_0 n0_0 c0_0, .int .i64 x1] w0 (fun v w => v = .int .i64 r.1 ∧ St w0 F w [sl a0_0 c0_0 r.2]) := by
  subst hn0_0
  unfold F_l_markResS at h
  refine Ret.fn Tryz.func98 fun e => ?_
  refine go ?_
  obtain ⟨o39, ho39, h40⟩ := obind h
  refine CW.mono (CW.iter (σ := (List DRes) × Int × Int) (ρ := (List DRes) × Int × Int) (fun s1 e wb => En e [(0, .slice a0_0 s1.1.length c0_0), (1, .int .i64 s1.2.1), (5, .int .i64 s1.2.2)] ∧ St w0 F wb [sl a0_0 c0_0 s1.1]) (fun s1 x e wb => x = .exit 0 ∧ En e [(1, .int .i64 s1.2.1)] ∧ St w0 F wb [sl a0_0 c0_0 s1.1]) ?_ N (x0, x1, 0) _ _ _ ⟨⟨rfl, rfl, rfl, trivial⟩, hS.pick [0] rfl rfl⟩ ho39) ?_
  · intro s1 e w2 o hM h
    obtain ⟨hE, hS1⟩ := hM
    obtain ⟨e, rfl⟩ := hE.out
    refine go ?_
    refine cd (fun hc3 => ?_) fun hc3 => ?_
    · replace h := bcT h hc3
      refine go ?_
      refine LW.u (Pur.rem rfl rfl (by decide)) rfl ?_
      refine go ?_
      replace ⟨y4, hy4, h⟩ := obind h
      obtain ⟨b7, o8, hae, hp5, hq6⟩ := hS1.ownIdx (α := DRes) (i := 0) rfl hy4
      subst hae
      refine LW.u (Pur.ix Tryz.underlying59 sz138 rfl rfl hp5 hq6) rfl ?_
      refine go ?_
      replace ⟨y9, hy9, h⟩ := obind h
      refine LW.stE (M := []) (L := [sl (some ⟨b7, o8, none⟩) c0_0 s1.1]) (z := y4) (z' := (DRes.mk ((Int.tmod s1.2.1 3) == 0) y4.parent y4.bal)) (o := 0) hS1 (i := 0) rfl hy4 ag4 rfl (by show _ = o8 + (s1.2.2 : Int).toNat * 5 + 0; omega) rfl rfl rfl rfl (leafF (fun w cs F hF => by obtain ⟨rfl, rfl⟩ := hF; exact ⟨rfl, rfl⟩)) ?_
      intro w10 hS2 hf
      rw [Option.some.inj hy9] at hS2
      refine go ?_
      replace ⟨y11, hy11, h⟩ := obind h
      obtain ⟨b14, o15, hae, hp12, hq13⟩ := hS2.ownIdx (α := DRes) (i := 0) rfl hy11
      cases hae
      refine LW.u (Pur.ix Tryz.underlying59 sz138 rfl rfl hp12 (by rw [show s1.1.length = y9.length from (len_set (Option.some.inj hy9))]; exact hq13)) rfl ?_
      refine go ?_
      replace ⟨y16, hy16, h⟩ := obind h
      refine LW.stE (M := []) (L := [sl (some ⟨b7, o8, none⟩) c0_0 y9]) (z := y11) (z' := (DRes.mk y11.live (IntKind.i64.wrap (s1.2.1 + 1)) y11.bal)) (o := 1) hS2 (i := 0) rfl hy11 ag3 rfl (by show _ = o8 + (s1.2.2 : Int).toNat * 5 + 1; omega) rfl rfl rfl rfl (leafF (fun w cs F hF => by obtain ⟨rfl, rfl⟩ := hF; exact ⟨rfl, rfl⟩)) ?_
      intro w17 hS3 hf
      rw [Option.some.inj hy16] at hS3
      refine go ?_
      refine LW.fl [0, 1, 5, 28, 29, 30] fun e => ?_
      replace ⟨y18, hy18, h⟩ := obind h
      obtain ⟨b21, o22, hae, hp19, hq20⟩ := hS3.ownIdx (α := DRes) (i := 0) rfl hy18
      cases hae
      refine LW.u (Pur.ix Tryz.underlying59 sz138 rfl rfl hp19 (by rw [show s1.1.length = y16.length from ((len_set (Option.some.inj hy9)).trans (len_set (Option.some.inj hy16)))]; exact hq20)) rfl ?_
      refine go ?_
      replace ⟨y23, hy23, h⟩ := obind h
      refine LW.stE (M := []) (L := [sl (some ⟨b7, o8, none⟩) c0_0 y16]) (z := y18) (z' := (DRes.mk y18.live y18.parent (DAmt.mk (IntKind.i64.wrap ((IntKind.i64.wrap (s1.2.1 + 1)) + 1)) y18.bal.rent y18.bal.cpu))) (o := 2) hS3 (i := 0) rfl hy18 ag3 rfl (by show _ = o8 + (s1.2.2 : Int).toNat * 5 + 2; omega) rfl rfl rfl rfl (leafF (fun w cs F hF => by obtain ⟨rfl, rfl⟩ := hF; exact ⟨rfl, rfl⟩)) ?_
      intro w24 hS4 hf
      rw [Option.some.inj hy23] at hS4
      refine go ?_
      replace ⟨y25, hy25, h⟩ := obind h
      obtain ⟨b28, o29, hae, hp26, hq27⟩ := hS4.ownIdx (α := DRes) (i := 0) rfl hy25
      cases hae
      refine LW.u (Pur.ix Tryz.underlying59 sz138 rfl rfl hp26 (by rw [show s1.1.length = y23.length from (((len_set (Option.some.inj hy9)).trans (len_set (Option.some.inj hy16))).trans (len_set (Option.some.inj hy23)))]; exact hq27)) rfl ?_
      refine go ?_
      replace ⟨y30, hy30, h⟩ := obind h
      refine LW.stE (M := []) (L := [sl (some ⟨b7, o8, none⟩) c0_0 y23]) (z := y25) (z' := (DRes.mk y25.live y25.parent (DAmt.mk y25.bal.pages (IntKind.i64.wrap ((IntKind.i64.wrap ((IntKind.i64.wrap (s1.2.1 + 1)) + 1)) + 1)) y25.bal.cpu))) (o := 3) hS4 (i := 0) rfl hy25 ag3 rfl (by show _ = o8 + (s1.2.2 : Int).toNat * 5 + 3; omega) rfl rfl rfl rfl (leafF (fun w cs F hF => by obtain ⟨rfl, rfl⟩ := hF; exact ⟨rfl, rfl⟩)) ?_
      intro w31 hS5 hf
      rw [Option.some.inj hy30] at hS5
      refine go ?_
      replace ⟨y32, hy32, h⟩ := obind h
      obtain ⟨b35, o36, hae, hp33, hq34⟩ := hS5.ownIdx (α := DRes) (i := 0) rfl hy32
      cases hae
      refine LW.u (Pur.ix Tryz.underlying59 sz138 rfl rfl hp33 (by rw [show s1.1.length = y30.length from ((((len_set (Option.some.inj hy9)).trans (len_set (Option.some.inj hy16))).trans (len_set (Option.some.inj hy23))).trans (len_set (Option.some.inj hy30)))]; exact hq34)) rfl ?_
      refine go ?_
      refine LW.fl [0, 1, 5, 46, 49] fun e => ?_
      replace ⟨y37, hy37, h⟩ := obind h
      refine LW.stE (M := []) (L := [sl (some ⟨b7, o8, none⟩) c0_0 y30]) (z := y32) (z' := (DRes.mk y32.live y32.parent (DAmt.mk y32.bal.pages y32.bal.rent (IntKind.i64.wrap ((IntKind.i64.wrap ((IntKind.i64.wrap ((IntKind.i64.wrap (s1.2.1 + 1)) + 1)) + 1)) + 1))))) (o := 4) hS5 (i := 0) rfl hy32 ag3 rfl (by show _ = o8 + (s1.2.2 : Int).toNat * 5 + 4; omega) rfl rfl rfl rfl (leafF (fun w cs F hF => by obtain ⟨rfl, rfl⟩ := hF; exact ⟨rfl, rfl⟩)) ?_
      intro w38 hS6 hf
      rw [Option.some.inj hy37] at hS6
      refine go ?_
      replace h := Option.some.inj h
      subst h
      exact ⟨rfl, ⟨⟨(show (.slice (some ⟨b7, o8, none⟩) s1.1.length c0_0 : Value) = .slice (some ⟨b7, o8, none⟩) y37.length c0_0 by rw [show s1.1.length = y37.length from (((((len_set (Option.some.inj hy9)).trans (len_set (Option.some.inj hy16))).trans (len_set (Option.some.inj hy23))).trans (len_set (Option.some.inj hy30))).trans (len_set (Option.some.inj hy37)))]), rfl, rfl, trivial⟩, hS6.pick [0] rfl rfl⟩⟩
    replace h := bcF h hc3
    refine go ?_
    cases oi h
    exact ⟨trivial, rfl, ⟨⟨rfl, trivial⟩, hS1.pick [0] rfl rfl⟩⟩
  intro x e w41 hM
  obtain ⟨rfl, hM⟩ := hM
  obtain ⟨hE, hS7⟩ := hM
  obtain ⟨e, rfl⟩ := hE.out
  have h := h40
  refine go ?_
  replace h := Option.some.inj h
  subst h
  exact And.intro trivial ⟨_, Res.one (resOne.t rfl), rfl, hS7.pick [0] rfl rfl⟩

theorem W_l_markMsgS {w0 : World} {F : List Nat} {N : Nat} {x0 : List DMsg} {x1 : Int} {r : Int × (List DMsg)} (h : F_l_markMsgS N x0 x1 = some r) {a0_0 : Option Addr} {n0_0 c0_0 : Nat} (hn0_0 : n0_0 = x0.length) (hS : St w0 F w0 [sl a0_0 c0_0 x0]) :
    Ret Tryz.prog 167 #[.slice a0_0 n0_0 c0_0, .int .i64 x1] w0 (fun v w => v = .int .i64 r.1 ∧ St w0 F w [sl a0_0 c0_0 r.2]) := by
  subst hn0_0
  unfold F_l_markMsgS at h
  refine Ret.fn Tryz.func167 fun e => ?_
  refine go ?_
  obtain ⟨o18, ho18, h19⟩ := obind h
  refine CW.mono (CW.iter (σ := (List DMsg) × Int × Int) (ρ := (List DMsg) × Int × Int) (fun s1 e wb => En e [(0, .slice a0_0 s1.1.length c0_0), (1, .int .i64 s1.2.1), (5, .int .i64 s1.2.2)] ∧ St w0 F wb [sl a0_0 c0_0 s1.1]) (fun s1 x e wb => x = .exit 0 ∧ En e [(1, .int .i64 s1.2.1)] ∧ St w0 F wb [sl a0_0 c0_0 s1.1]) ?_ N (x0, x1, 0) _ _ _ ⟨⟨rfl, rfl, rfl, trivial⟩, hS.pick [0] rfl rfl⟩ ho18) ?_
  · intro s1 e w2 o hM h
    obtain ⟨hE, hS1⟩ := hM
    obtain ⟨e, rfl⟩ := hE.out
    refine go ?_
    refine cd (fun hc3 => ?_) fun hc3 => ?_
    · replace h := bcT h hc3
      refine go ?_
      replace ⟨y4, hy4, h⟩ := obind h
      obtain ⟨b7, o8, hae, hp5, hq6⟩ := hS1.ownIdx (α := DMsg) (i := 0) rfl hy4
      subst hae
      refine LW.u (Pur.ix Tryz.underlying102 sz170 rfl rfl hp5 hq6) rfl ?_
      refine go ?_
      replace ⟨y9, hy9, h⟩ := obind h
      refine LW.stE (M := []) (L := [sl (some ⟨b7, o8, none⟩) c0_0 s1.1]) (z := y4) (z' := (DMsg.mk s1.2.1 y4.n)) (o := 0) hS1 (i := 0) rfl hy4 ag3 rfl (by show _ = o8 + (s1.2.2 : Int).toNat * 2 + 0; omega) rfl rfl rfl rfl (leafF (fun w cs F hF => by obtain ⟨rfl, rfl⟩ := hF; exact ⟨rfl, rfl⟩)) ?_
      intro w10 hS2 hf
      rw [Option.some.inj hy9] at hS2
      refine go ?_
      replace ⟨y11, hy11, h⟩ := obind h
      obtain ⟨b14, o15, hae, hp12, hq13⟩ := hS2.ownIdx (α := DMsg) (i := 0) rfl hy11
      cases hae
      refine LW.u (Pur.ix Tryz.underlying102 sz170 rfl rfl hp12 (by rw [show s1.1.length = y9.length from (len_set (Option.some.inj hy9))]; exact hq13)) rfl ?_
      refine go ?_
      replace ⟨y16, hy16, h⟩ := obind h
      refine LW.stE (M := []) (L := [sl (some ⟨b7, o8, none⟩) c0_0 y9]) (z := y11) (z' := (DMsg.mk y11.src (IntKind.i64.wrap (s1.2.1 + 1)))) (o := 1) hS2 (i := 0) rfl hy11 ag3 rfl (by show _ = o8 + (s1.2.2 : Int).toNat * 2 + 1; omega) rfl rfl rfl rfl (leafF (fun w cs F hF => by obtain ⟨rfl, rfl⟩ := hF; exact ⟨rfl, rfl⟩)) ?_
      intro w17 hS3 hf
      rw [Option.some.inj hy16] at hS3
      refine go ?_
      replace h := Option.some.inj h
      subst h
      exact ⟨rfl, ⟨⟨(show (.slice (some ⟨b7, o8, none⟩) s1.1.length c0_0 : Value) = .slice (some ⟨b7, o8, none⟩) y16.length c0_0 by rw [show s1.1.length = y16.length from ((len_set (Option.some.inj hy9)).trans (len_set (Option.some.inj hy16)))]), rfl, rfl, trivial⟩, hS3.pick [0] rfl rfl⟩⟩
    replace h := bcF h hc3
    refine go ?_
    cases oi h
    exact ⟨trivial, rfl, ⟨⟨rfl, trivial⟩, hS1.pick [0] rfl rfl⟩⟩
  intro x e w20 hM
  obtain ⟨rfl, hM⟩ := hM
  obtain ⟨hE, hS4⟩ := hM
  obtain ⟨e, rfl⟩ := hE.out
  have h := h19
  refine go ?_
  replace h := Option.some.inj h
  subst h
  exact And.intro trivial ⟨_, Res.one (resOne.t rfl), rfl, hS4.pick [0] rfl rfl⟩

theorem W_l_markTapS {w0 : World} {F : List Nat} {N : Nat} {x0 : List DTap} {x1 : Int} {r : Int × (List DTap)} (h : F_l_markTapS N x0 x1 = some r) {a0_0 : Option Addr} {n0_0 c0_0 : Nat} (hn0_0 : n0_0 = x0.length) (hS : St w0 F w0 [sl a0_0 c0_0 x0]) :
    Ret Tryz.prog 100 #[.slice a0_0 n0_0 c0_0, .int .i64 x1] w0 (fun v w => v = .int .i64 r.1 ∧ St w0 F w [sl a0_0 c0_0 r.2]) := by
  subst hn0_0
  unfold F_l_markTapS at h
  refine Ret.fn Tryz.func100 fun e => ?_
  refine go ?_
  obtain ⟨o46, ho46, h47⟩ := obind h
  refine CW.mono (CW.iter (σ := (List DTap) × Int × Int) (ρ := (List DTap) × Int × Int) (fun s1 e wb => En e [(0, .slice a0_0 s1.1.length c0_0), (1, .int .i64 s1.2.1), (5, .int .i64 s1.2.2)] ∧ St w0 F wb [sl a0_0 c0_0 s1.1]) (fun s1 x e wb => x = .exit 0 ∧ En e [(1, .int .i64 s1.2.1)] ∧ St w0 F wb [sl a0_0 c0_0 s1.1]) ?_ N (x0, x1, 0) _ _ _ ⟨⟨rfl, rfl, rfl, trivial⟩, hS.pick [0] rfl rfl⟩ ho46) ?_
  · intro s1 e w2 o hM h
    obtain ⟨hE, hS1⟩ := hM
    obtain ⟨e, rfl⟩ := hE.out
    refine go ?_
    refine cd (fun hc3 => ?_) fun hc3 => ?_
    · replace h := bcT h hc3
      refine go ?_
      replace ⟨y4, hy4, h⟩ := obind h
      obtain ⟨b7, o8, hae, hp5, hq6⟩ := hS1.ownIdx (α := DTap) (i := 0) rfl hy4
      subst hae
      refine LW.u (Pur.ix Tryz.underlying65 sz82 rfl rfl hp5 hq6) rfl ?_
      refine go ?_
      replace ⟨y9, hy9, h⟩ := obind h
      refine LW.stE (M := []) (L := [sl (some ⟨b7, o8, none⟩) c0_0 s1.1]) (z := y4) (z' := (DTap.mk s1.2.1 y4.toPart y4.toRes y4.which y4.kind y4.rate)) (o := 0) hS1 (i := 0) rfl hy4 ag3 rfl (by show _ = o8 + (s1.2.2 : Int).toNat * 6 + 0; omega) rfl rfl rfl rfl (leafF (fun w cs F hF => by obtain ⟨rfl, rfl⟩ := hF; exact ⟨rfl, rfl⟩)) ?_
      intro w10 hS2 hf
      rw [Option.some.inj hy9] at hS2
      refine go ?_
      replace ⟨y11, hy11, h⟩ := obind h
      obtain ⟨b14, o15, hae, hp12, hq13⟩ := hS2.ownIdx (α := DTap) (i := 0) rfl hy11
      cases hae
      refine LW.u (Pur.ix Tryz.underlying65 sz82 rfl rfl hp12 (by rw [show s1.1.length = y9.length from (len_set (Option.some.inj hy9))]; exact hq13)) rfl ?_
      refine go ?_
      replace ⟨y16, hy16, h⟩ := obind h
      refine LW.stE (M := []) (L := [sl (some ⟨b7, o8, none⟩) c0_0 y9]) (z := y11) (z' := (DTap.mk y11.res (IntKind.i64.wrap (s1.2.1 + 1)) y11.toRes y11.which y11.kind y11.rate)) (o := 1) hS2 (i := 0) rfl hy11 ag3 rfl (by show _ = o8 + (s1.2.2 : Int).toNat * 6 + 1; omega) rfl rfl rfl rfl (leafF (fun w cs F hF => by obtain ⟨rfl, rfl⟩ := hF; exact ⟨rfl, rfl⟩)) ?_
      intro w17 hS3 hf
      rw [Option.some.inj hy16] at hS3
      refine go ?_
      refine LW.fl [0, 1, 5, 26, 27, 28] fun e => ?_
      replace ⟨y18, hy18, h⟩ := obind h
      obtain ⟨b21, o22, hae, hp19, hq20⟩ := hS3.ownIdx (α := DTap) (i := 0) rfl hy18
      cases hae
      refine LW.u (Pur.ix Tryz.underlying65 sz82 rfl rfl hp19 (by rw [show s1.1.length = y16.length from ((len_set (Option.some.inj hy9)).trans (len_set (Option.some.inj hy16)))]; exact hq20)) rfl ?_
      refine go ?_
      replace ⟨y23, hy23, h⟩ := obind h
      refine LW.stE (M := []) (L := [sl (some ⟨b7, o8, none⟩) c0_0 y16]) (z := y18) (z' := (DTap.mk y18.res y18.toPart (IntKind.i64.wrap ((IntKind.i64.wrap (s1.2.1 + 1)) + 1)) y18.which y18.kind y18.rate)) (o := 2) hS3 (i := 0) rfl hy18 ag3 rfl (by show _ = o8 + (s1.2.2 : Int).toNat * 6 + 2; omega) rfl rfl rfl rfl (leafF (fun w cs F hF => by obtain ⟨rfl, rfl⟩ := hF; exact ⟨rfl, rfl⟩)) ?_
      intro w24 hS4 hf
      rw [Option.some.inj hy23] at hS4
      refine go ?_
      replace ⟨y25, hy25, h⟩ := obind h
      obtain ⟨b28, o29, hae, hp26, hq27⟩ := hS4.ownIdx (α := DTap) (i := 0) rfl hy25
      cases hae
      refine LW.u (Pur.ix Tryz.underlying65 sz82 rfl rfl hp26 (by rw [show s1.1.length = y23.length from (((len_set (Option.some.inj hy9)).trans (len_set (Option.some.inj hy16))).trans (len_set (Option.some.inj hy23)))]; exact hq27)) rfl ?_
      refine go ?_
      replace ⟨y30, hy30, h⟩ := obind h
      refine LW.stE (M := []) (L := [sl (some ⟨b7, o8, none⟩) c0_0 y23]) (z := y25) (z' := (DTap.mk y25.res y25.toPart y25.toRes (IntKind.i64.wrap ((IntKind.i64.wrap ((IntKind.i64.wrap (s1.2.1 + 1)) + 1)) + 1)) y25.kind y25.rate)) (o := 3) hS4 (i := 0) rfl hy25 ag3 rfl (by show _ = o8 + (s1.2.2 : Int).toNat * 6 + 3; omega) rfl rfl rfl rfl (leafF (fun w cs F hF => by obtain ⟨rfl, rfl⟩ := hF; exact ⟨rfl, rfl⟩)) ?_
      intro w31 hS5 hf
      rw [Option.some.inj hy30] at hS5
      refine go ?_
      replace ⟨y32, hy32, h⟩ := obind h
      obtain ⟨b35, o36, hae, hp33, hq34⟩ := hS5.ownIdx (α := DTap) (i := 0) rfl hy32
      cases hae
      refine LW.u (Pur.ix Tryz.underlying65 sz82 rfl rfl hp33 (by rw [show s1.1.length = y30.length from ((((len_set (Option.some.inj hy9)).trans (len_set (Option.some.inj hy16))).trans (len_set (Option.some.inj hy23))).trans (len_set (Option.some.inj hy30)))]; exact hq34)) rfl ?_
      refine go ?_
      replace ⟨y37, hy37, h⟩ := obind h
      refine LW.stE (M := []) (L := [sl (some ⟨b7, o8, none⟩) c0_0 y30]) (z := y32) (z' := (DTap.mk y32.res y32.toPart y32.toRes y32.which (IntKind.i64.wrap ((IntKind.i64.wrap ((IntKind.i64.wrap ((IntKind.i64.wrap (s1.2.1 + 1)) + 1)) + 1)) + 1)) y32.rate)) (o := 4) hS5 (i := 0) rfl hy32 ag3 rfl (by show _ = o8 + (s1.2.2 : Int).toNat * 6 + 4; omega) rfl rfl rfl rfl (leafF (fun w cs F hF => by obtain ⟨rfl, rfl⟩ := hF; exact ⟨rfl, rfl⟩)) ?_
      intro w38 hS6 hf
      rw [Option.some.inj hy37] at hS6
      refine go ?_
      refine LW.fl [0, 1, 5, 47, 48, 49] fun e => ?_
      replace ⟨y39, hy39, h⟩ := obind h
      obtain ⟨b42, o43, hae, hp40, hq41⟩ := hS6.ownIdx (α := DTap) (i := 0) rfl hy39
      cases hae
      refine LW.u (Pur.ix Tryz.underlying65 sz82 rfl rfl hp40 (by rw [show s1.1.length = y37.length from (((((len_set (Option.some.inj hy9)).trans (len_set (Option.some.inj hy16))).trans (len_set (Option.some.inj hy23))).trans (len_set (Option.some.inj hy30))).trans (len_set (Option.some.inj hy37)))]; exact hq41)) rfl ?_
      refine go ?_
      replace ⟨y44, hy44, h⟩ := obind h
      refine LW.stE (M := []) (L := [sl (some ⟨b7, o8, none⟩) c0_0 y37]) (z := y39) (z' := (DTap.mk y39.res y39.toPart y39.toRes y39.which y39.kind (IntKind.i64.wrap ((IntKind.i64.wrap ((IntKind.i64.wrap ((IntKind.i64.wrap ((IntKind.i64.wrap (s1.2.1 + 1)) + 1)) + 1)) + 1)) + 1)))) (o := 5) hS6 (i := 0) rfl hy39 ag3 rfl (by show _ = o8 + (s1.2.2 : Int).toNat * 6 + 5; omega) rfl rfl rfl rfl (leafF (fun w cs F hF => by obtain ⟨rfl, rfl⟩ := hF; exact ⟨rfl, rfl⟩)) ?_
      intro w45 hS7 hf
      rw [Option.some.inj hy44] at hS7
      refine go ?_
      replace h := Option.some.inj h
      subst h
      exact ⟨rfl, ⟨⟨(show (.slice (some ⟨b7, o8, none⟩) s1.1.length c0_0 : Value) = .slice (some ⟨b7, o8, none⟩) y44.length c0_0 by rw [show s1.1.length = y44.length from ((((((len_set (Option.some.inj hy9)).trans (len_set (Option.some.inj hy16))).trans (len_set (Option.some.inj hy23))).trans (len_set (Option.some.inj hy30))).trans (len_set (Option.some.inj hy37))).trans (len_set (Option.some.inj hy44)))]), rfl, rfl, trivial⟩, hS7.pick [0] rfl rfl⟩⟩
    replace h := bcF h hc3
    refine go ?_
    cases oi h
    exact ⟨trivial, rfl, ⟨⟨rfl, trivial⟩, hS1.pick [0] rfl rfl⟩⟩
  intro x e w48 hM
  obtain ⟨rfl, hM⟩ := hM
  obtain ⟨hE, hS8⟩ := hM
  obtain ⟨e, rfl⟩ := hE.out
  have h := h47
  refine go ?_
  replace h := Option.some.inj h
  subst h
  exact And.intro trivial ⟨_, Res.one (resOne.t rfl), rfl, hS8.pick [0] rfl rfl⟩

theorem W_l_heldIntS {w0 : World} {N : Nat} {x0 : List Int} {x1 : Int} {r : Int} (h : F_l_heldIntS N x0 x1 = some r) {a0_0 : Option Addr} {n0_0 c0_0 : Nat} (hn0_0 : n0_0 = x0.length) (hr0_0 : rdS (Bor w0 []) w0 a0_0 c0_0 x0) :
    Ret Tryz.prog 101 #[.slice a0_0 n0_0 c0_0, .int .i64 x1] w0 (fun v w => v = .int .i64 r ∧ St w0 [] w []) := by
  subst hn0_0
  unfold F_l_heldIntS at h
  refine Ret.fn Tryz.func101 fun e => ?_
  have hS1 := St.start w0
  refine go ?_
  obtain ⟨o14, ho14, h15⟩ := obind h
  refine CW.mono (CW.lx [0] [] [1] 0 (fun s1 => [(1, .int .i64 s1.1), (5, .int .i64 s1.2)]) (RT Tryz.prog Tryz.f101.results (fun u => .int .i64 u) w0 []) hS1 ho14 (hb := ?_)) ?_
  · intro s1 e w2 o hS2 h
    refine go ?_
    refine cd (fun hc3 => ?_) fun hc3 => ?_
    · replace h := bcT h hc3
      refine go ?_
      replace ⟨y4, hy4, h⟩ := obind h
      obtain ⟨b7, o8, cs9, hae, hb12, hp5, hq6, hd10, hk11⟩ := hr0_0.idx hy4
      subst hae
      obtain rfl := hd10
      refine LW.u (Pur.ix Tryz.underlying52 sz3 rfl rfl hp5 hq6) rfl ?_
      refine LW.l (Ldr.old w0 ag3 rfl (hk11 0 _ rfl)) (hS2.same _ hb12.1 hb12.2) rfl ?_
      refine go ?_
      refine CW.fl [0, 1, 5, 17] fun e => ?_
      refine cd (fun hc13 => ?_) fun hc13 => ?_
      · replace h := bcT h hc13
        refine go ?_
        cases oi h
        exact ⟨trivial, rfl, _, rfl, ⟨_, Res.one (resOne.t rfl), rfl, hS2.pick [] rfl rfl⟩⟩
      replace h := bcF h hc13
      refine go ?_
      cases oi h
      exact ⟨rfl, ⟨⟨rfl, rfl, rfl, trivial⟩, hS2.pick [] rfl rfl⟩⟩
    replace h := bcF h hc3
    refine go ?_
    cases oi h
    exact ⟨trivial, rfl, ⟨⟨rfl, trivial⟩, hS2.pick [] rfl rfl⟩⟩
  intro x e w16 hM
  rcases o14 with o14 | r17
  · obtain ⟨rfl, hM⟩ := hM
    obtain ⟨hE, hS3⟩ := hM
    obtain ⟨e, rfl⟩ := hE.out
    have h := h15
    refine go ?_
    cases h
    exact fi hS3
  obtain ⟨rfl, u, rfl, hM⟩ := hM
  cases h15
  exact And.intro trivial hM

theorem W_l_heldResS {w0 : World} {N : Nat} {x0 : List DRes} {x1 : Int} {r : Int} (h : F_l_heldResS N x0 x1 = some r) {a0_0 : Option Addr} {n0_0 c0_0 : Nat} (hn0_0 : n0_0 = x0.length) (hr0_0 : rdS (Bor w0 []) w0 a0_0 c0_0 x0) :
    Ret Tryz.prog 102 #[.slice a0_0 n0_0 c0_0, .int .i64 x1] w0 (fun v w => v = .int .i64 r ∧ St w0 [] w []) := by
  subst hn0_0
  unfold F_l_heldResS at h
  refine Ret.fn Tryz.func102 fun e => ?_
  have hS1 := St.start w0
  refine go ?_
  obtain ⟨o18, ho18, h19⟩ := obind h
  refine CW.mono (CW.lx [0] [] [1] 0 (fun s1 => [(1, .int .i64 s1.1), (5, .int .i64 s1.2)]) (RT Tryz.prog Tryz.f102.results (fun u => .int .i64 u) w0 []) hS1 ho18 (hb := ?_)) ?_
  · intro s1 e w2 o hS2 h
    refine go ?_
    refine cd (fun hc3 => ?_) fun hc3 => ?_
    · replace h := bcT h hc3
      refine go ?_
      replace ⟨y4, hy4, h⟩ := obind h
      obtain ⟨b7, o8, cs9, hae, hb12, hp5, hq6, hd10, hk11⟩ := hr0_0.idx hy4
      subst hae
      obtain rfl := hd10
      refine LW.u (Pur.ix Tryz.underlying59 sz138 rfl rfl hp5 hq6) rfl ?_
      refine go ?_
      refine LW.l (Ldr.old w0 ag4 rfl (hk11 0 _ rfl)) (hS2.same _ hb12.1 hb12.2) rfl ?_
      refine go ?_
      refine LW.u (Pur.rem rfl rfl (by decide)) rfl ?_
      refine go ?_
      refine LW.u (Pur.bne Tryz.underlying4 rfl rfl) rfl ?_
      refine go ?_
      refine CW.fl [0, 1, 5, 20] fun e => ?_
      refine cd (fun hc13 => ?_) fun hc13 => ?_
      · replace h := bcT h hc13
        refine go ?_
        cases oi h
        exact ⟨trivial, rfl, _, rfl, ⟨_, Res.one (resOne.t rfl), rfl, hS2.pick [] rfl rfl⟩⟩
      replace h := bcF h hc13
      refine go ?_
      refine LW.u (Pur.ix Tryz.underlying59 sz138 rfl rfl hp5 hq6) rfl ?_
      refine go ?_
      refine LW.l (Ldr.old w0 ag3 rfl (hk11 1 _ rfl)) (hS2.same _ hb12.1 hb12.2) rfl ?_
      refine go ?_
      refine cd (fun hc14 => ?_) fun hc14 => ?_
      · replace h := bcT h hc14
        refine go ?_
        cases oi h
        exact ⟨trivial, rfl, _, rfl, ⟨_, Res.one (resOne.t rfl), rfl, hS2.pick [] rfl rfl⟩⟩
      replace h := bcF h hc14
      refine go ?_
      refine LW.u (Pur.ix Tryz.underlying59 sz138 rfl rfl hp5 hq6) rfl ?_
      refine go ?_
      refine LW.l (Ldr.old w0 ag3 rfl (hk11 2 _ rfl)) (hS2.same _ hb12.1 hb12.2) rfl ?_
      refine go ?_
      refine CW.fl [0, 1, 5, 39] fun e => ?_
      refine cd (fun hc15 => ?_) fun hc15 => ?_
      · replace h := bcT h hc15
        refine go ?_
        cases oi h
        exact ⟨trivial, rfl, _, rfl, ⟨_, Res.one (resOne.t rfl), rfl, hS2.pick [] rfl rfl⟩⟩
      replace h := bcF h hc15
      refine go ?_
      refine LW.u (Pur.ix Tryz.underlying59 sz138 rfl rfl hp5 hq6) rfl ?_
      refine go ?_
      refine LW.l (Ldr.old w0 ag3 rfl (hk11 3 _ rfl)) (hS2.same _ hb12.1 hb12.2) rfl ?_
      refine go ?_
      refine cd (fun hc16 => ?_) fun hc16 => ?_
      · replace h := bcT h hc16
        refine go ?_
        cases oi h
        exact ⟨trivial, rfl, _, rfl, ⟨_, Res.one (resOne.t rfl), rfl, hS2.pick [] rfl rfl⟩⟩
      replace h := bcF h hc16
      refine go ?_
      refine LW.u (Pur.ix Tryz.underlying59 sz138 rfl rfl hp5 hq6) rfl ?_
      refine go ?_
      refine LW.l (Ldr.old w0 ag3 rfl (hk11 4 _ rfl)) (hS2.same _ hb12.1 hb12.2) rfl ?_
      refine go ?_
      refine CW.fl [0, 1, 5, 59] fun e => ?_
      refine cd (fun hc17 => ?_) fun hc17 => ?_
      · replace h := bcT h hc17
        refine go ?_
        cases oi h
        exact ⟨trivial, rfl, _, rfl, ⟨_, Res.one (resOne.t rfl), rfl, hS2.pick [] rfl rfl⟩⟩
      replace h := bcF h hc17
      refine go ?_
      cases oi h
      exact ⟨rfl, ⟨⟨rfl, rfl, rfl, trivial⟩, hS2.pick [] rfl rfl⟩⟩
    replace h := bcF h hc3
    refine go ?_
    cases oi h
    exact ⟨trivial, rfl, ⟨⟨rfl, trivial⟩, hS2.pick [] rfl rfl⟩⟩
  intro x e w20 hM
  rcases o18 with o18 | r21
  · obtain ⟨rfl, hM⟩ := hM
    obtain ⟨hE, hS3⟩ := hM
    obtain ⟨e, rfl⟩ := hE.out
    have h := h19
    refine go ?_
    cases h
    exact fi hS3
  obtain ⟨rfl, u, rfl, hM⟩ := hM
  cases h19
  exact And.intro trivial hM

theorem W_l_heldMsgS {w0 : World} {N : Nat} {x0 : List DMsg} {x1 : Int} {r : Int} (h : F_l_heldMsgS N x0 x1 = some r) {a0_0 : Option Addr} {n0_0 c0_0 : Nat} (hn0_0 : n0_0 = x0.length) (hr0_0 : rdS (Bor w0 []) w0 a0_0 c0_0 x0) :
    Ret Tryz.prog 168 #[.slice a0_0 n0_0 c0_0, .int .i64 x1] w0 (fun v w => v = .int .i64 r ∧ St w0 [] w []) := by
  subst hn0_0
  unfold F_l_heldMsgS at h
  refine Ret.fn Tryz.func168 fun e => ?_
  have hS1 := St.start w0
  refine go ?_
  obtain ⟨o15, ho15, h16⟩ := obind h
  refine CW.mono (CW.lx [0] [] [1] 0 (fun s1 => [(1, .int .i64 s1.1), (5, .int .i64 s1.2)]) (RT Tryz.prog Tryz.f168.results (fun u => .int .i64 u) w0 []) hS1 ho15 (hb := ?_)) ?_
  · intro s1 e w2 o hS2 h
    refine go ?_
    refine cd (fun hc3 => ?_) fun hc3 => ?_
    · replace h := bcT h hc3
      refine go ?_
      replace ⟨y4, hy4, h⟩ := obind h
      obtain ⟨b7, o8, cs9, hae, hb12, hp5, hq6, hd10, hk11⟩ := hr0_0.idx hy4
      subst hae
      obtain rfl := hd10
      refine LW.u (Pur.ix Tryz.underlying102 sz170 rfl rfl hp5 hq6) rfl ?_
      refine go ?_
      refine LW.l (Ldr.old w0 ag3 rfl (hk11 0 _ rfl)) (hS2.same _ hb12.1 hb12.2) rfl ?_
      refine go ?_
      refine CW.fl [0, 1, 5, 18] fun e => ?_
      refine cd (fun hc13 => ?_) fun hc13 => ?_
      · replace h := bcT h hc13
        refine go ?_
        cases oi h
        exact ⟨trivial, rfl, _, rfl, ⟨_, Res.one (resOne.t rfl), rfl, hS2.pick [] rfl rfl⟩⟩
      replace h := bcF h hc13
      refine go ?_
      refine LW.u (Pur.ix Tryz.underlying102 sz170 rfl rfl hp5 hq6) rfl ?_
      refine go ?_
      refine LW.l (Ldr.old w0 ag3 rfl (hk11 1 _ rfl)) (hS2.same _ hb12.1 hb12.2) rfl ?_
      refine go ?_
      refine cd (fun hc14 => ?_) fun hc14 => ?_
      · replace h := bcT h hc14
        refine go ?_
        cases oi h
        exact ⟨trivial, rfl, _, rfl, ⟨_, Res.one (resOne.t rfl), rfl, hS2.pick [] rfl rfl⟩⟩
      replace h := bcF h hc14
      refine go ?_
      cases oi h
      exact ⟨rfl, ⟨⟨rfl, rfl, rfl, trivial⟩, hS2.pick [] rfl rfl⟩⟩
    replace h := bcF h hc3
    refine go ?_
    cases oi h
    exact ⟨trivial, rfl, ⟨⟨rfl, trivial⟩, hS2.pick [] rfl rfl⟩⟩
  intro x e w17 hM
  rcases o15 with o15 | r18
  · obtain ⟨rfl, hM⟩ := hM
    obtain ⟨hE, hS3⟩ := hM
    obtain ⟨e, rfl⟩ := hE.out
    have h := h16
    refine go ?_
    cases h
    exact fi hS3
  obtain ⟨rfl, u, rfl, hM⟩ := hM
  cases h16
  exact And.intro trivial hM

end Go.Kx
