/- Each call returns what the plain function says. Printed by drive.py. -/
import Derived.Test.YtdjpppkdngmeaaaGreatFa
import Derived.Test.YtdjpppkdngmeaaaGreatPu
namespace Go.Kx
open Go Go.RowKit Go.Proofs
set_option maxRecDepth 10000
set_option maxHeartbeats 2000000
set_option linter.unusedVariables false
set_option linter.unusedSimpArgs false
theorem W_l_markIntS {w0 : World} {F : List Nat} {N : Nat} {x0 : List Int} {x1 : Int} {r : Int × (List Int)} (h : F_l_markIntS N x0 x1 = some r) {a0_0 : Option Addr} {n0_0 c0_0 : Nat} (hn0_0 : n0_0 = x0.length) (hS : St w0 F w0 [sl a0_0 c0_0 x0]) :
    Ret Tryz.prog 15 #[.slice a0_0 n0_0 c0_0, .int .i64 x1] w0 (fun v w => v = .int .i64 r.1 ∧ St w0 F w [sl a0_0 c0_0 r.2]) := by
  subst hn0_0
  unfold F_l_markIntS at h
  refine Ret.fn Tryz.func15 fun e => ?_
  refine go ?_
  obtain ⟨o11, ho11, h12⟩ := obind h
  refine CW.mono (CW.iter (σ := (List Int) × Int × Int) (ρ := (List Int) × Int × Int) (fun s1 e wb => En e [(0, .slice a0_0 s1.1.length c0_0), (1, .int .i64 s1.2.1), (5, .int .i64 s1.2.2)] ∧ St w0 F wb [sl a0_0 c0_0 s1.1]) (fun s1 x e wb => x = .exit 0 ∧ En e [(1, .int .i64 s1.2.1)] ∧ St w0 F wb [sl a0_0 c0_0 s1.1]) ?_ N (x0, x1, 0) _ _ _ ⟨⟨rfl, rfl, rfl, trivial⟩, hS.pick [0] rfl rfl⟩ ho11) ?_
  · intro s1 e w2 o hM h
    obtain ⟨hE, hS1⟩ := hM
    obtain ⟨e, rfl⟩ := hE.out
    refine go ?_
    refine CW.cond rfl (fun hc3 => ?_) (fun hc3 => ?_)
    · replace h := bcT h hc3
      refine go ?_
      replace ⟨y4, hy4, h⟩ := obind h
      obtain ⟨b7, o8, hae, hp5, hq6⟩ := hS1.ownIdx (α := Int) (i := 0) rfl hy4
      subst hae
      refine LW.u (Pur.ix Tryz.underlying22 sz3 rfl rfl hp5 hq6) rfl ?_
      replace ⟨y9, hy9, h⟩ := obind h
      refine LW.stE (M := []) (L := [sl (some ⟨b7, o8, none⟩) c0_0 s1.1]) (z := y4) (z' := s1.2.1) (o := 0) hS1 (i := 0) rfl hy4 ag3 rfl (by show _ = o8 + (s1.2.2 : Int).toNat * 1 + 0; omega) rfl rfl rfl rfl (whole (fun w G hG => by cases (show G = [] from hG); exact ⟨rfl, rfl⟩)) ?_
      intro w10 hS2 hf
      rw [Option.some.inj hy9] at hS2
      refine go ?_
      cases oi h
      exact ⟨rfl, ⟨⟨(show (.slice (some ⟨b7, o8, none⟩) s1.1.length c0_0 : Value) = .slice (some ⟨b7, o8, none⟩) y9.length c0_0 by rw [show s1.1.length = y9.length from (len_set (Option.some.inj hy9))]), rfl, rfl, trivial⟩, hS2.pick [0] rfl rfl⟩⟩
    replace h := bcF h hc3
    refine go ?_
    cases oi h
    exact ⟨trivial, rfl, ⟨⟨rfl, trivial⟩, hS1.pick [0] rfl rfl⟩⟩
  intro x e w13 hM
  obtain ⟨rfl, hM⟩ := hM
  obtain ⟨hE, hS3⟩ := hM
  obtain ⟨e, rfl⟩ := hE.out
  have h := h12
  refine go ?_
  replace h := Option.some.inj h
  subst h
  exact And.intro trivial ⟨_, Res.one (resOne.t rfl), rfl, hS3.pick [0] rfl rfl⟩

theorem W_l_markResS {w0 : World} {F : List Nat} {N : Nat} {x0 : List DRes} {x1 : Int} {r : Int × (List DRes)} (h : F_l_markResS N x0 x1 = some r) {a0_0 : Option Addr} {n0_0 c0_0 : Nat} (hn0_0 : n0_0 = x0.length) (hS : St w0 F w0 [sl a0_0 c0_0 x0]) :
    Ret Tryz.prog 55 #[.slice a0_0 n0_0 c0_0, .int .i64 x1] w0 (fun v w => v = .int .i64 r.1 ∧ St w0 F w [sl a0_0 c0_0 r.2]) := by
  subst hn0_0
  unfold F_l_markResS at h
  refine Ret.fn Tryz.func55 fun e => ?_
  refine go ?_
  obtain ⟨o39, ho39, h40⟩ := obind h
  refine CW.mono (CW.iter (σ := (List DRes) × Int × Int) (ρ := (List DRes) × Int × Int) (fun s1 e wb => En e [(0, .slice a0_0 s1.1.length c0_0), (1, .int .i64 s1.2.1), (5, .int .i64 s1.2.2)] ∧ St w0 F wb [sl a0_0 c0_0 s1.1]) (fun s1 x e wb => x = .exit 0 ∧ En e [(1, .int .i64 s1.2.1)] ∧ St w0 F wb [sl a0_0 c0_0 s1.1]) ?_ N (x0, x1, 0) _ _ _ ⟨⟨rfl, rfl, rfl, trivial⟩, hS.pick [0] rfl rfl⟩ ho39) ?_
  · intro s1 e w2 o hM h
    obtain ⟨hE, hS1⟩ := hM
    obtain ⟨e, rfl⟩ := hE.out
    refine go ?_
    refine CW.cond rfl (fun hc3 => ?_) (fun hc3 => ?_)
    · replace h := bcT h hc3
      refine go ?_
      refine LW.u (Pur.rem rfl rfl (by decide)) rfl ?_
      refine go ?_
      replace ⟨y4, hy4, h⟩ := obind h
      obtain ⟨b7, o8, hae, hp5, hq6⟩ := hS1.ownIdx (α := DRes) (i := 0) rfl hy4
      subst hae
      refine LW.u (Pur.ix Tryz.underlying39 sz87 rfl rfl hp5 hq6) rfl ?_
      refine go ?_
      replace ⟨y9, hy9, h⟩ := obind h
      refine LW.stE (M := []) (L := [sl (some ⟨b7, o8, none⟩) c0_0 s1.1]) (z := y4) (z' := (DRes.mk ((Int.tmod s1.2.1 3) == 0) y4.parent y4.bal)) (o := 0) hS1 (i := 0) rfl hy4 ag4 rfl (by show _ = o8 + (s1.2.2 : Int).toNat * 5 + 0; omega) rfl rfl rfl rfl (leafF (fun w cs F hF => by obtain ⟨rfl, rfl⟩ := hF; exact ⟨rfl, rfl⟩)) ?_
      intro w10 hS2 hf
      rw [Option.some.inj hy9] at hS2
      refine go ?_
      replace ⟨y11, hy11, h⟩ := obind h
      obtain ⟨b14, o15, hae, hp12, hq13⟩ := hS2.ownIdx (α := DRes) (i := 0) rfl hy11
      cases hae
      refine LW.u (Pur.ix Tryz.underlying39 sz87 rfl rfl hp12 (by rw [show s1.1.length = y9.length from (len_set (Option.some.inj hy9))]; exact hq13)) rfl ?_
      refine go ?_
      replace ⟨y16, hy16, h⟩ := obind h
      refine LW.stE (M := []) (L := [sl (some ⟨b7, o8, none⟩) c0_0 y9]) (z := y11) (z' := (DRes.mk y11.live (IntKind.i64.wrap (s1.2.1 + 1)) y11.bal)) (o := 1) hS2 (i := 0) rfl hy11 ag3 rfl (by show _ = o8 + (s1.2.2 : Int).toNat * 5 + 1; omega) rfl rfl rfl rfl (leafF (fun w cs F hF => by obtain ⟨rfl, rfl⟩ := hF; exact ⟨rfl, rfl⟩)) ?_
      intro w17 hS3 hf
      rw [Option.some.inj hy16] at hS3
      refine go ?_
      refine LW.fl [0, 1, 5, 28, 29, 30] fun e => ?_
      replace ⟨y18, hy18, h⟩ := obind h
      obtain ⟨b21, o22, hae, hp19, hq20⟩ := hS3.ownIdx (α := DRes) (i := 0) rfl hy18
      cases hae
      refine LW.u (Pur.ix Tryz.underlying39 sz87 rfl rfl hp19 (by rw [show s1.1.length = y16.length from ((len_set (Option.some.inj hy9)).trans (len_set (Option.some.inj hy16)))]; exact hq20)) rfl ?_
      refine go ?_
      replace ⟨y23, hy23, h⟩ := obind h
      refine LW.stE (M := []) (L := [sl (some ⟨b7, o8, none⟩) c0_0 y16]) (z := y18) (z' := (DRes.mk y18.live y18.parent (DAmt.mk (IntKind.i64.wrap ((IntKind.i64.wrap (s1.2.1 + 1)) + 1)) y18.bal.rent y18.bal.cpu))) (o := 2) hS3 (i := 0) rfl hy18 ag3 rfl (by show _ = o8 + (s1.2.2 : Int).toNat * 5 + 2; omega) rfl rfl rfl rfl (leafF (fun w cs F hF => by obtain ⟨rfl, rfl⟩ := hF; exact ⟨rfl, rfl⟩)) ?_
      intro w24 hS4 hf
      rw [Option.some.inj hy23] at hS4
      refine go ?_
      replace ⟨y25, hy25, h⟩ := obind h
      obtain ⟨b28, o29, hae, hp26, hq27⟩ := hS4.ownIdx (α := DRes) (i := 0) rfl hy25
      cases hae
      refine LW.u (Pur.ix Tryz.underlying39 sz87 rfl rfl hp26 (by rw [show s1.1.length = y23.length from (((len_set (Option.some.inj hy9)).trans (len_set (Option.some.inj hy16))).trans (len_set (Option.some.inj hy23)))]; exact hq27)) rfl ?_
      refine go ?_
      replace ⟨y30, hy30, h⟩ := obind h
      refine LW.stE (M := []) (L := [sl (some ⟨b7, o8, none⟩) c0_0 y23]) (z := y25) (z' := (DRes.mk y25.live y25.parent (DAmt.mk y25.bal.pages (IntKind.i64.wrap ((IntKind.i64.wrap ((IntKind.i64.wrap (s1.2.1 + 1)) + 1)) + 1)) y25.bal.cpu))) (o := 3) hS4 (i := 0) rfl hy25 ag3 rfl (by show _ = o8 + (s1.2.2 : Int).toNat * 5 + 3; omega) rfl rfl rfl rfl (leafF (fun w cs F hF => by obtain ⟨rfl, rfl⟩ := hF; exact ⟨rfl, rfl⟩)) ?_
      intro w31 hS5 hf
      rw [Option.some.inj hy30] at hS5
      refine go ?_
      replace ⟨y32, hy32, h⟩ := obind h
      obtain ⟨b35, o36, hae, hp33, hq34⟩ := hS5.ownIdx (α := DRes) (i := 0) rfl hy32
      cases hae
      refine LW.u (Pur.ix Tryz.underlying39 sz87 rfl rfl hp33 (by rw [show s1.1.length = y30.length from ((((len_set (Option.some.inj hy9)).trans (len_set (Option.some.inj hy16))).trans (len_set (Option.some.inj hy23))).trans (len_set (Option.some.inj hy30)))]; exact hq34)) rfl ?_
      refine go ?_
      refine LW.fl [0, 1, 5, 46, 49] fun e => ?_
      replace ⟨y37, hy37, h⟩ := obind h
      refine LW.stE (M := []) (L := [sl (some ⟨b7, o8, none⟩) c0_0 y30]) (z := y32) (z' := (DRes.mk y32.live y32.parent (DAmt.mk y32.bal.pages y32.bal.rent (IntKind.i64.wrap ((IntKind.i64.wrap ((IntKind.i64.wrap ((IntKind.i64.wrap (s1.2.1 + 1)) + 1)) + 1)) + 1))))) (o := 4) hS5 (i := 0) rfl hy32 ag3 rfl (by show _ = o8 + (s1.2.2 : Int).toNat * 5 + 4; omega) rfl rfl rfl rfl (leafF (fun w cs F hF => by obtain ⟨rfl, rfl⟩ := hF; exact ⟨rfl, rfl⟩)) ?_
      intro w38 hS6 hf
      rw [Option.some.inj hy37] at hS6
      refine go ?_
      cases oi h
      exact ⟨rfl, ⟨⟨(show (.slice (some ⟨b7, o8, none⟩) s1.1.length c0_0 : Value) = .slice (some ⟨b7, o8, none⟩) y37.length c0_0 by rw [show s1.1.length = y37.length from (((((len_set (Option.some.inj hy9)).trans (len_set (Option.some.inj hy16))).trans (len_set (Option.some.inj hy23))).trans (len_set (Option.some.inj hy30))).trans (len_set (Option.some.inj hy37)))]), rfl, rfl, trivial⟩, hS6.pick [0] rfl rfl⟩⟩
    replace h := bcF h hc3
    refine go ?_
    cases oi h
    exact ⟨trivial, rfl, ⟨⟨rfl, trivial⟩, hS1.pick [0] rfl rfl⟩⟩
  intro x e w41 hM
  obtain ⟨rfl, hM⟩ := hM
  obtain ⟨hE, hS7⟩ := hM
  obtain ⟨e, rfl⟩ := hE.out
  have h := h40
  refine go ?_
  replace h := Option.some.inj h
  subst h
  exact And.intro trivial ⟨_, Res.one (resOne.t rfl), rfl, hS7.pick [0] rfl rfl⟩

theorem W_l_markMsgS {w0 : World} {F : List Nat} {N : Nat} {x0 : List DMsg} {x1 : Int} {r : Int × (List DMsg)} (h : F_l_markMsgS N x0 x1 = some r) {a0_0 : Option Addr} {n0_0 c0_0 : Nat} (hn0_0 : n0_0 = x0.length) (hS : St w0 F w0 [sl a0_0 c0_0 x0]) :
    Ret Tryz.prog 156 #[.slice a0_0 n0_0 c0_0, .int .i64 x1] w0 (fun v w => v = .int .i64 r.1 ∧ St w0 F w [sl a0_0 c0_0 r.2]) := by
  subst hn0_0
  unfold F_l_markMsgS at h
  refine Ret.fn Tryz.func156 fun e => ?_
  refine go ?_
  obtain ⟨o18, ho18, h19⟩ := obind h
  refine CW.mono (CW.iter (σ := (List DMsg) × Int × Int) (ρ := (List DMsg) × Int × Int) (fun s1 e wb => En e [(0, .slice a0_0 s1.1.length c0_0), (1, .int .i64 s1.2.1), (5, .int .i64 s1.2.2)] ∧ St w0 F wb [sl a0_0 c0_0 s1.1]) (fun s1 x e wb => x = .exit 0 ∧ En e [(1, .int .i64 s1.2.1)] ∧ St w0 F wb [sl a0_0 c0_0 s1.1]) ?_ N (x0, x1, 0) _ _ _ ⟨⟨rfl, rfl, rfl, trivial⟩, hS.pick [0] rfl rfl⟩ ho18) ?_
  · intro s1 e w2 o hM h
    obtain ⟨hE, hS1⟩ := hM
    obtain ⟨e, rfl⟩ := hE.out
    refine go ?_
    refine CW.cond rfl (fun hc3 => ?_) (fun hc3 => ?_)
    · replace h := bcT h hc3
      refine go ?_
      replace ⟨y4, hy4, h⟩ := obind h
      obtain ⟨b7, o8, hae, hp5, hq6⟩ := hS1.ownIdx (α := DMsg) (i := 0) rfl hy4
      subst hae
      refine LW.u (Pur.ix Tryz.underlying83 sz187 rfl rfl hp5 hq6) rfl ?_
      refine go ?_
      replace ⟨y9, hy9, h⟩ := obind h
      refine LW.stE (M := []) (L := [sl (some ⟨b7, o8, none⟩) c0_0 s1.1]) (z := y4) (z' := (DMsg.mk s1.2.1 y4.n)) (o := 0) hS1 (i := 0) rfl hy4 ag3 rfl (by show _ = o8 + (s1.2.2 : Int).toNat * 2 + 0; omega) rfl rfl rfl rfl (leafF (fun w cs F hF => by obtain ⟨rfl, rfl⟩ := hF; exact ⟨rfl, rfl⟩)) ?_
      intro w10 hS2 hf
      rw [Option.some.inj hy9] at hS2
      refine go ?_
      replace ⟨y11, hy11, h⟩ := obind h
      obtain ⟨b14, o15, hae, hp12, hq13⟩ := hS2.ownIdx (α := DMsg) (i := 0) rfl hy11
      cases hae
      refine LW.u (Pur.ix Tryz.underlying83 sz187 rfl rfl hp12 (by rw [show s1.1.length = y9.length from (len_set (Option.some.inj hy9))]; exact hq13)) rfl ?_
      refine go ?_
      replace ⟨y16, hy16, h⟩ := obind h
      refine LW.stE (M := []) (L := [sl (some ⟨b7, o8, none⟩) c0_0 y9]) (z := y11) (z' := (DMsg.mk y11.src (IntKind.i64.wrap (s1.2.1 + 1)))) (o := 1) hS2 (i := 0) rfl hy11 ag3 rfl (by show _ = o8 + (s1.2.2 : Int).toNat * 2 + 1; omega) rfl rfl rfl rfl (leafF (fun w cs F hF => by obtain ⟨rfl, rfl⟩ := hF; exact ⟨rfl, rfl⟩)) ?_
      intro w17 hS3 hf
      rw [Option.some.inj hy16] at hS3
      refine go ?_
      cases oi h
      exact ⟨rfl, ⟨⟨(show (.slice (some ⟨b7, o8, none⟩) s1.1.length c0_0 : Value) = .slice (some ⟨b7, o8, none⟩) y16.length c0_0 by rw [show s1.1.length = y16.length from ((len_set (Option.some.inj hy9)).trans (len_set (Option.some.inj hy16)))]), rfl, rfl, trivial⟩, hS3.pick [0] rfl rfl⟩⟩
    replace h := bcF h hc3
    refine go ?_
    cases oi h
    exact ⟨trivial, rfl, ⟨⟨rfl, trivial⟩, hS1.pick [0] rfl rfl⟩⟩
  intro x e w20 hM
  obtain ⟨rfl, hM⟩ := hM
  obtain ⟨hE, hS4⟩ := hM
  obtain ⟨e, rfl⟩ := hE.out
  have h := h19
  refine go ?_
  replace h := Option.some.inj h
  subst h
  exact And.intro trivial ⟨_, Res.one (resOne.t rfl), rfl, hS4.pick [0] rfl rfl⟩

theorem W_l_markObjS {w0 : World} {F : List Nat} {N : Nat} {x0 : List DObj} {x1 : Int} {r : Int × (List DObj)} (h : F_l_markObjS N x0 x1 = some r) {a0_0 : Option Addr} {n0_0 c0_0 : Nat} (hn0_0 : n0_0 = x0.length) (hS : St w0 F w0 [sl a0_0 c0_0 x0]) :
    Ret Tryz.prog 102 #[.slice a0_0 n0_0 c0_0, .int .i64 x1] w0 (fun v w => v = .int .i64 r.1 ∧ St w0 F w [sl a0_0 c0_0 r.2]) := by
  subst hn0_0
  unfold F_l_markObjS at h
  refine Ret.fn Tryz.func102 fun e => ?_
  refine go ?_
  obtain ⟨o129, ho129, h130⟩ := obind h
  refine CW.mono (CW.iter (σ := (List DObj) × Int × Int) (ρ := (List DObj) × Int × Int) (fun s1 e wb => En e [(0, .slice a0_0 s1.1.length c0_0), (1, .int .i64 s1.2.1), (5, .int .i64 s1.2.2)] ∧ St w0 F wb [sl a0_0 c0_0 s1.1]) (fun s1 x e wb => x = .exit 0 ∧ En e [(1, .int .i64 s1.2.1)] ∧ St w0 F wb [sl a0_0 c0_0 s1.1]) ?_ N (x0, x1, 0) _ _ _ ⟨⟨rfl, rfl, rfl, trivial⟩, hS.pick [0] rfl rfl⟩ ho129) ?_
  · intro s1 e w2 o hM h
    obtain ⟨hE, hS1⟩ := hM
    obtain ⟨e, rfl⟩ := hE.out
    refine go ?_
    refine CW.cond rfl (fun hc3 => ?_) (fun hc3 => ?_)
    · replace h := bcT h hc3
      refine go ?_
      replace ⟨y4, hy4, h⟩ := obind h
      obtain ⟨b7, o8, hae, hp5, hq6⟩ := hS1.ownIdx (α := DObj) (i := 0) rfl hy4
      subst hae
      refine LW.u (Pur.ix Tryz.underlying40 sz85 rfl rfl hp5 hq6) rfl ?_
      refine go ?_
      replace ⟨y9, hy9, h⟩ := obind h
      refine LW.stE (M := []) (L := [sl (some ⟨b7, o8, none⟩) c0_0 s1.1]) (z := y4) (z' := (DObj.mk s1.2.1 y4.kind y4.box y4.res y4.til y4.pages y4.wait y4.got y4.ran y4.mark y4.links y4.data y4.queue)) (o := 0) hS1 (i := 0) rfl hy4 ag3 rfl (by show _ = o8 + (s1.2.2 : Int).toNat * 13 + 0; omega) rfl rfl rfl rfl (leafF (fun w cs F hF => by obtain ⟨q0, r0, q1, r1, q2, r2, rfl, hH⟩ := hF; exact ⟨q0, r0, q1, r1, q2, r2, rfl, hH⟩)) ?_
      intro w10 hS2 hf
      rw [Option.some.inj hy9] at hS2
      refine go ?_
      replace ⟨y11, hy11, h⟩ := obind h
      obtain ⟨b14, o15, hae, hp12, hq13⟩ := hS2.ownIdx (α := DObj) (i := 0) rfl hy11
      cases hae
      refine LW.u (Pur.ix Tryz.underlying40 sz85 rfl rfl hp12 (by rw [show s1.1.length = y9.length from (len_set (Option.some.inj hy9))]; exact hq13)) rfl ?_
      refine go ?_
      replace ⟨y16, hy16, h⟩ := obind h
      refine LW.stE (M := []) (L := [sl (some ⟨b7, o8, none⟩) c0_0 y9]) (z := y11) (z' := (DObj.mk y11.gen (IntKind.i64.wrap (s1.2.1 + 1)) y11.box y11.res y11.til y11.pages y11.wait y11.got y11.ran y11.mark y11.links y11.data y11.queue)) (o := 1) hS2 (i := 0) rfl hy11 ag3 rfl (by show _ = o8 + (s1.2.2 : Int).toNat * 13 + 1; omega) rfl rfl rfl rfl (leafF (fun w cs F hF => by obtain ⟨q0, r0, q1, r1, q2, r2, rfl, hH⟩ := hF; exact ⟨q0, r0, q1, r1, q2, r2, rfl, hH⟩)) ?_
      intro w17 hS3 hf
      rw [Option.some.inj hy16] at hS3
      refine go ?_
      refine LW.fl [0, 1, 5, 26, 27, 28] fun e => ?_
      replace ⟨y18, hy18, h⟩ := obind h
      obtain ⟨b21, o22, hae, hp19, hq20⟩ := hS3.ownIdx (α := DObj) (i := 0) rfl hy18
      cases hae
      refine LW.u (Pur.ix Tryz.underlying40 sz85 rfl rfl hp19 (by rw [show s1.1.length = y16.length from ((len_set (Option.some.inj hy9)).trans (len_set (Option.some.inj hy16)))]; exact hq20)) rfl ?_
      refine go ?_
      replace ⟨y23, hy23, h⟩ := obind h
      refine LW.stE (M := []) (L := [sl (some ⟨b7, o8, none⟩) c0_0 y16]) (z := y18) (z' := (DObj.mk y18.gen y18.kind (IntKind.i64.wrap ((IntKind.i64.wrap (s1.2.1 + 1)) + 1)) y18.res y18.til y18.pages y18.wait y18.got y18.ran y18.mark y18.links y18.data y18.queue)) (o := 2) hS3 (i := 0) rfl hy18 ag3 rfl (by show _ = o8 + (s1.2.2 : Int).toNat * 13 + 2; omega) rfl rfl rfl rfl (leafF (fun w cs F hF => by obtain ⟨q0, r0, q1, r1, q2, r2, rfl, hH⟩ := hF; exact ⟨q0, r0, q1, r1, q2, r2, rfl, hH⟩)) ?_
      intro w24 hS4 hf
      rw [Option.some.inj hy23] at hS4
      refine go ?_
      replace ⟨y25, hy25, h⟩ := obind h
      obtain ⟨b28, o29, hae, hp26, hq27⟩ := hS4.ownIdx (α := DObj) (i := 0) rfl hy25
      cases hae
      refine LW.u (Pur.ix Tryz.underlying40 sz85 rfl rfl hp26 (by rw [show s1.1.length = y23.length from (((len_set (Option.some.inj hy9)).trans (len_set (Option.some.inj hy16))).trans (len_set (Option.some.inj hy23)))]; exact hq27)) rfl ?_
      refine go ?_
      replace ⟨y30, hy30, h⟩ := obind h
      refine LW.stE (M := []) (L := [sl (some ⟨b7, o8, none⟩) c0_0 y23]) (z := y25) (z' := (DObj.mk y25.gen y25.kind y25.box (IntKind.i64.wrap ((IntKind.i64.wrap ((IntKind.i64.wrap (s1.2.1 + 1)) + 1)) + 1)) y25.til y25.pages y25.wait y25.got y25.ran y25.mark y25.links y25.data y25.queue)) (o := 3) hS4 (i := 0) rfl hy25 ag3 rfl (by show _ = o8 + (s1.2.2 : Int).toNat * 13 + 3; omega) rfl rfl rfl rfl (leafF (fun w cs F hF => by obtain ⟨q0, r0, q1, r1, q2, r2, rfl, hH⟩ := hF; exact ⟨q0, r0, q1, r1, q2, r2, rfl, hH⟩)) ?_
      intro w31 hS5 hf
      rw [Option.some.inj hy30] at hS5
      refine go ?_
      replace ⟨y32, hy32, h⟩ := obind h
      obtain ⟨b35, o36, hae, hp33, hq34⟩ := hS5.ownIdx (α := DObj) (i := 0) rfl hy32
      cases hae
      refine LW.u (Pur.ix Tryz.underlying40 sz85 rfl rfl hp33 (by rw [show s1.1.length = y30.length from ((((len_set (Option.some.inj hy9)).trans (len_set (Option.some.inj hy16))).trans (len_set (Option.some.inj hy23))).trans (len_set (Option.some.inj hy30)))]; exact hq34)) rfl ?_
      refine go ?_
      replace ⟨y37, hy37, h⟩ := obind h
      refine LW.stE (M := []) (L := [sl (some ⟨b7, o8, none⟩) c0_0 y30]) (z := y32) (z' := (DObj.mk y32.gen y32.kind y32.box y32.res (IntKind.i64.wrap ((IntKind.i64.wrap ((IntKind.i64.wrap ((IntKind.i64.wrap (s1.2.1 + 1)) + 1)) + 1)) + 1)) y32.pages y32.wait y32.got y32.ran y32.mark y32.links y32.data y32.queue)) (o := 4) hS5 (i := 0) rfl hy32 ag3 rfl (by show _ = o8 + (s1.2.2 : Int).toNat * 13 + 4; omega) rfl rfl rfl rfl (leafF (fun w cs F hF => by obtain ⟨q0, r0, q1, r1, q2, r2, rfl, hH⟩ := hF; exact ⟨q0, r0, q1, r1, q2, r2, rfl, hH⟩)) ?_
      intro w38 hS6 hf
      rw [Option.some.inj hy37] at hS6
      refine go ?_
      refine LW.fl [0, 1, 5, 47, 48, 49] fun e => ?_
      replace ⟨y39, hy39, h⟩ := obind h
      obtain ⟨b42, o43, hae, hp40, hq41⟩ := hS6.ownIdx (α := DObj) (i := 0) rfl hy39
      cases hae
      refine LW.u (Pur.ix Tryz.underlying40 sz85 rfl rfl hp40 (by rw [show s1.1.length = y37.length from (((((len_set (Option.some.inj hy9)).trans (len_set (Option.some.inj hy16))).trans (len_set (Option.some.inj hy23))).trans (len_set (Option.some.inj hy30))).trans (len_set (Option.some.inj hy37)))]; exact hq41)) rfl ?_
      refine go ?_
      replace ⟨y44, hy44, h⟩ := obind h
      refine LW.stE (M := []) (L := [sl (some ⟨b7, o8, none⟩) c0_0 y37]) (z := y39) (z' := (DObj.mk y39.gen y39.kind y39.box y39.res y39.til (IntKind.i64.wrap ((IntKind.i64.wrap ((IntKind.i64.wrap ((IntKind.i64.wrap ((IntKind.i64.wrap (s1.2.1 + 1)) + 1)) + 1)) + 1)) + 1)) y39.wait y39.got y39.ran y39.mark y39.links y39.data y39.queue)) (o := 5) hS6 (i := 0) rfl hy39 ag3 rfl (by show _ = o8 + (s1.2.2 : Int).toNat * 13 + 5; omega) rfl rfl rfl rfl (leafF (fun w cs F hF => by obtain ⟨q0, r0, q1, r1, q2, r2, rfl, hH⟩ := hF; exact ⟨q0, r0, q1, r1, q2, r2, rfl, hH⟩)) ?_
      intro w45 hS7 hf
      rw [Option.some.inj hy44] at hS7
      refine go ?_
      replace ⟨y46, hy46, h⟩ := obind h
      obtain ⟨b49, o50, hae, hp47, hq48⟩ := hS7.ownIdx (α := DObj) (i := 0) rfl hy46
      cases hae
      refine LW.u (Pur.ix Tryz.underlying40 sz85 rfl rfl hp47 (by rw [show s1.1.length = y44.length from ((((((len_set (Option.some.inj hy9)).trans (len_set (Option.some.inj hy16))).trans (len_set (Option.some.inj hy23))).trans (len_set (Option.some.inj hy30))).trans (len_set (Option.some.inj hy37))).trans (len_set (Option.some.inj hy44)))]; exact hq48)) rfl ?_
      refine go ?_
      replace ⟨y51, hy51, h⟩ := obind h
      refine LW.stE (M := []) (L := [sl (some ⟨b7, o8, none⟩) c0_0 y44]) (z := y46) (z' := (DObj.mk y46.gen y46.kind y46.box y46.res y46.til y46.pages (IntKind.i64.wrap ((IntKind.i64.wrap ((IntKind.i64.wrap ((IntKind.i64.wrap ((IntKind.i64.wrap ((IntKind.i64.wrap (s1.2.1 + 1)) + 1)) + 1)) + 1)) + 1)) + 1)) y46.got y46.ran y46.mark y46.links y46.data y46.queue)) (o := 6) hS7 (i := 0) rfl hy46 ag3 rfl (by show _ = o8 + (s1.2.2 : Int).toNat * 13 + 6; omega) rfl rfl rfl rfl (leafF (fun w cs F hF => by obtain ⟨q0, r0, q1, r1, q2, r2, rfl, hH⟩ := hF; exact ⟨q0, r0, q1, r1, q2, r2, rfl, hH⟩)) ?_
      intro w52 hS8 hf
      rw [Option.some.inj hy51] at hS8
      refine go ?_
      replace ⟨y53, hy53, h⟩ := obind h
      obtain ⟨b56, o57, hae, hp54, hq55⟩ := hS8.ownIdx (α := DObj) (i := 0) rfl hy53
      cases hae
      refine LW.u (Pur.ix Tryz.underlying40 sz85 rfl rfl hp54 (by rw [show s1.1.length = y51.length from (((((((len_set (Option.some.inj hy9)).trans (len_set (Option.some.inj hy16))).trans (len_set (Option.some.inj hy23))).trans (len_set (Option.some.inj hy30))).trans (len_set (Option.some.inj hy37))).trans (len_set (Option.some.inj hy44))).trans (len_set (Option.some.inj hy51)))]; exact hq55)) rfl ?_
      refine go ?_
      replace ⟨y58, hy58, h⟩ := obind h
      refine LW.stE (M := []) (L := [sl (some ⟨b7, o8, none⟩) c0_0 y51]) (z := y53) (z' := (DObj.mk y53.gen y53.kind y53.box y53.res y53.til y53.pages y53.wait (IntKind.i64.wrap ((IntKind.i64.wrap ((IntKind.i64.wrap ((IntKind.i64.wrap ((IntKind.i64.wrap ((IntKind.i64.wrap ((IntKind.i64.wrap (s1.2.1 + 1)) + 1)) + 1)) + 1)) + 1)) + 1)) + 1)) y53.ran y53.mark y53.links y53.data y53.queue)) (o := 7) hS8 (i := 0) rfl hy53 ag3 rfl (by show _ = o8 + (s1.2.2 : Int).toNat * 13 + 7; omega) rfl rfl rfl rfl (leafF (fun w cs F hF => by obtain ⟨q0, r0, q1, r1, q2, r2, rfl, hH⟩ := hF; exact ⟨q0, r0, q1, r1, q2, r2, rfl, hH⟩)) ?_
      intro w59 hS9 hf
      rw [Option.some.inj hy58] at hS9
      refine go ?_
      refine LW.fl [0, 1, 5, 68, 69, 70] fun e => ?_
      replace ⟨y60, hy60, h⟩ := obind h
      obtain ⟨b63, o64, hae, hp61, hq62⟩ := hS9.ownIdx (α := DObj) (i := 0) rfl hy60
      cases hae
      refine LW.u (Pur.ix Tryz.underlying40 sz85 rfl rfl hp61 (by rw [show s1.1.length = y58.length from ((((((((len_set (Option.some.inj hy9)).trans (len_set (Option.some.inj hy16))).trans (len_set (Option.some.inj hy23))).trans (len_set (Option.some.inj hy30))).trans (len_set (Option.some.inj hy37))).trans (len_set (Option.some.inj hy44))).trans (len_set (Option.some.inj hy51))).trans (len_set (Option.some.inj hy58)))]; exact hq62)) rfl ?_
      refine go ?_
      replace ⟨y65, hy65, h⟩ := obind h
      refine LW.stE (M := []) (L := [sl (some ⟨b7, o8, none⟩) c0_0 y58]) (z := y60) (z' := (DObj.mk y60.gen y60.kind y60.box y60.res y60.til y60.pages y60.wait y60.got (IntKind.i64.wrap ((IntKind.i64.wrap ((IntKind.i64.wrap ((IntKind.i64.wrap ((IntKind.i64.wrap ((IntKind.i64.wrap ((IntKind.i64.wrap ((IntKind.i64.wrap (s1.2.1 + 1)) + 1)) + 1)) + 1)) + 1)) + 1)) + 1)) + 1)) y60.mark y60.links y60.data y60.queue)) (o := 8) hS9 (i := 0) rfl hy60 ag3 rfl (by show _ = o8 + (s1.2.2 : Int).toNat * 13 + 8; omega) rfl rfl rfl rfl (leafF (fun w cs F hF => by obtain ⟨q0, r0, q1, r1, q2, r2, rfl, hH⟩ := hF; exact ⟨q0, r0, q1, r1, q2, r2, rfl, hH⟩)) ?_
      intro w66 hS10 hf
      rw [Option.some.inj hy65] at hS10
      refine go ?_
      refine LW.u (Pur.rem rfl rfl (by decide)) rfl ?_
      refine go ?_
      replace ⟨y67, hy67, h⟩ := obind h
      obtain ⟨b70, o71, hae, hp68, hq69⟩ := hS10.ownIdx (α := DObj) (i := 0) rfl hy67
      cases hae
      refine LW.u (Pur.ix Tryz.underlying40 sz85 rfl rfl hp68 (by rw [show s1.1.length = y65.length from (((((((((len_set (Option.some.inj hy9)).trans (len_set (Option.some.inj hy16))).trans (len_set (Option.some.inj hy23))).trans (len_set (Option.some.inj hy30))).trans (len_set (Option.some.inj hy37))).trans (len_set (Option.some.inj hy44))).trans (len_set (Option.some.inj hy51))).trans (len_set (Option.some.inj hy58))).trans (len_set (Option.some.inj hy65)))]; exact hq69)) rfl ?_
      refine go ?_
      replace ⟨y72, hy72, h⟩ := obind h
      refine LW.stE (M := []) (L := [sl (some ⟨b7, o8, none⟩) c0_0 y65]) (z := y67) (z' := (DObj.mk y67.gen y67.kind y67.box y67.res y67.til y67.pages y67.wait y67.got y67.ran ((Int.tmod (IntKind.i64.wrap ((IntKind.i64.wrap ((IntKind.i64.wrap ((IntKind.i64.wrap ((IntKind.i64.wrap ((IntKind.i64.wrap ((IntKind.i64.wrap ((IntKind.i64.wrap ((IntKind.i64.wrap (s1.2.1 + 1)) + 1)) + 1)) + 1)) + 1)) + 1)) + 1)) + 1)) + 1)) 3) == 0) y67.links y67.data y67.queue)) (o := 9) hS10 (i := 0) rfl hy67 ag4 rfl (by show _ = o8 + (s1.2.2 : Int).toNat * 13 + 9; omega) rfl rfl rfl rfl (leafF (fun w cs F hF => by obtain ⟨q0, r0, q1, r1, q2, r2, rfl, hH⟩ := hF; exact ⟨q0, r0, q1, r1, q2, r2, rfl, hH⟩)) ?_
      intro w73 hS11 hf
      rw [Option.some.inj hy72] at hS11
      refine go ?_
      replace ⟨y74, hy74, h⟩ := obind h
      obtain ⟨b77, o78, hae, hp75, hq76⟩ := hS11.ownIdx (α := DObj) (i := 0) rfl hy74
      cases hae
      refine LW.u (Pur.ix Tryz.underlying40 sz85 rfl rfl hp75 (by rw [show s1.1.length = y72.length from ((((((((((len_set (Option.some.inj hy9)).trans (len_set (Option.some.inj hy16))).trans (len_set (Option.some.inj hy23))).trans (len_set (Option.some.inj hy30))).trans (len_set (Option.some.inj hy37))).trans (len_set (Option.some.inj hy44))).trans (len_set (Option.some.inj hy51))).trans (len_set (Option.some.inj hy58))).trans (len_set (Option.some.inj hy65))).trans (len_set (Option.some.inj hy72)))]; exact hq76)) rfl ?_
      refine go ?_
      obtain ⟨F79, ho80, hS12⟩ := hS11.freeze (α := DObj) 0 rfl
      refine LW.fl [0, 1, 5, 87] fun e => ?_
      obtain ⟨b81, o82, cs83, hae, hb86, _, _, hd84, hk85⟩ := ho80.rdF.idx hy74
      cases hae
      obtain ⟨a87, c88, a90, c91, a93, c94, rfl, hr89, hr92, hr95⟩ := hd84
      refine LW.l (Ldr.old w73 ag22 rfl (hk85 10 _ rfl)) (hS12.zC 0 rfl hb86) rfl ?_
      refine go ?_
      replace ⟨y96, hy96, h⟩ := obind h
      obtain ⟨q111, hy96', hq112⟩ := obind hy96
      obtain ⟨hl113, hq112⟩ := keepL_some hq112
      rw [Option.some.inj hq112] at hy96' hl113
      have hn97 := fun (j : Nat) (u : Value) (hu : ([.int .i64 y74.gen, .int .i64 y74.kind, .int .i64 y74.box, .int .i64 y74.res, .int .i64 y74.til, .int .i64 y74.pages, .int .i64 y74.wait, .int .i64 y74.got, .int .i64 y74.ran, .bool y74.mark, .slice a87 y74.links.length c88, .slice a90 y74.data.length c91, .slice a93 y74.queue.length c94] : List Value)[j]? = some u) => (World.cell?_of_block (hS12.zC 0 rfl hb86)).trans (hk85 j u hu)
      have hS13 := hS12.thaw (α := DObj) 0 rfl ho80
      obtain ⟨Fx98, ho99, hf100⟩ := hS13.focus (α := DObj) (cs := [.int .i64 y74.gen, .int .i64 y74.kind, .int .i64 y74.box, .int .i64 y74.res, .int .i64 y74.til, .int .i64 y74.pages, .int .i64 y74.wait, .int .i64 y74.got, .int .i64 y74.ran, .bool y74.mark, .slice a87 y74.links.length c88, .slice a90 y74.data.length c91, .slice a93 y74.queue.length c94]) 0 rfl hy74 rfl hn97
      obtain ⟨a103, c104, a105, c106, a107, c108, hc101, hH102⟩ := ho99
      cases hc101
      have hS14 := hf100 [sl a87 c88 y74.links, sl a90 c91 y74.data, sl a93 c94 y74.queue] hH102
      have hS15 := hS14.pick (M := [sl a87 c88 y74.links] ++ [sl a90 c91 y74.data, sl a93 c94 y74.queue, hole DObj (some ⟨b7, o8, none⟩) c0_0 y72 (s1.2.2 : Int).toNat [.int .i64 y74.gen, .int .i64 y74.kind, .int .i64 y74.box, .int .i64 y74.res, .int .i64 y74.til, .int .i64 y74.pages, .int .i64 y74.wait, .int .i64 y74.got, .int .i64 y74.ran, .bool y74.mark, .slice a87 y74.links.length c88, .slice a90 y74.data.length c91, .slice a93 y74.queue.length c94]]) [0, 1, 2, 3] rfl rfl
      obtain ⟨F109, hL110⟩ := St.lend (L := [sl a87 c88 y74.links]) (M := [sl a90 c91 y74.data, sl a93 c94 y74.queue, hole DObj (some ⟨b7, o8, none⟩) c0_0 y72 (s1.2.2 : Int).toNat [.int .i64 y74.gen, .int .i64 y74.kind, .int .i64 y74.box, .int .i64 y74.res, .int .i64 y74.til, .int .i64 y74.pages, .int .i64 y74.wait, .int .i64 y74.got, .int .i64 y74.ran, .bool y74.mark, .slice a87 y74.links.length c88, .slice a90 y74.data.length c91, .slice a93 y74.queue.length c94]]) hS15
      refine LW.cl (W_l_markIntS hy96' rfl hL110.st) ?_
      rintro _ w114 ⟨rfl, hs⟩
      have hS16 := hL110.back _ _ hs
      refine go ?_
      refine LW.u (Pur.ix Tryz.underlying40 sz85 rfl rfl hp75 (by rw [show s1.1.length = y72.length from ((((((((((len_set (Option.some.inj hy9)).trans (len_set (Option.some.inj hy16))).trans (len_set (Option.some.inj hy23))).trans (len_set (Option.some.inj hy30))).trans (len_set (Option.some.inj hy37))).trans (len_set (Option.some.inj hy44))).trans (len_set (Option.some.inj hy51))).trans (len_set (Option.some.inj hy58))).trans (len_set (Option.some.inj hy65))).trans (len_set (Option.some.inj hy72)))]; exact hq76)) rfl ?_
      refine go ?_
      refine LW.l (Ldr.old w114 ag22 rfl (hS16.holeC 3 rfl (j := 11) rfl)) rfl rfl ?_
      refine go ?_
      replace ⟨y115, hy115, h⟩ := obind h
      obtain ⟨q118, hy115', hq119⟩ := obind hy115
      obtain ⟨hl120, hq119⟩ := keepL_some hq119
      rw [Option.some.inj hq119] at hy115' hl120
      rw [show y74.links.length = y96.2.length from hl113] at hS16
      have hS17 := hS16.pick (M := [sl a90 c91 y74.data] ++ [sl a87 c88 y96.2, sl a93 c94 y74.queue, hole DObj (some ⟨b7, o8, none⟩) c0_0 y72 (s1.2.2 : Int).toNat [.int .i64 y74.gen, .int .i64 y74.kind, .int .i64 y74.box, .int .i64 y74.res, .int .i64 y74.til, .int .i64 y74.pages, .int .i64 y74.wait, .int .i64 y74.got, .int .i64 y74.ran, .bool y74.mark, .slice a87 y96.2.length c88, .slice a90 y74.data.length c91, .slice a93 y74.queue.length c94]]) [1, 0, 2, 3] rfl rfl
      obtain ⟨F116, hL117⟩ := St.lend (L := [sl a90 c91 y74.data]) (M := [sl a87 c88 y96.2, sl a93 c94 y74.queue, hole DObj (some ⟨b7, o8, none⟩) c0_0 y72 (s1.2.2 : Int).toNat [.int .i64 y74.gen, .int .i64 y74.kind, .int .i64 y74.box, .int .i64 y74.res, .int .i64 y74.til, .int .i64 y74.pages, .int .i64 y74.wait, .int .i64 y74.got, .int .i64 y74.ran, .bool y74.mark, .slice a87 y96.2.length c88, .slice a90 y74.data.length c91, .slice a93 y74.queue.length c94]]) hS17
      refine LW.cl (W_l_markIntS hy115' rfl hL117.st) ?_
      rintro _ w121 ⟨rfl, hs⟩
      have hS18 := hL117.back _ _ hs
      refine go ?_
      refine LW.u (Pur.ix Tryz.underlying40 sz85 rfl rfl hp75 (by rw [show s1.1.length = y72.length from ((((((((((len_set (Option.some.inj hy9)).trans (len_set (Option.some.inj hy16))).trans (len_set (Option.some.inj hy23))).trans (len_set (Option.some.inj hy30))).trans (len_set (Option.some.inj hy37))).trans (len_set (Option.some.inj hy44))).trans (len_set (Option.some.inj hy51))).trans (len_set (Option.some.inj hy58))).trans (len_set (Option.some.inj hy65))).trans (len_set (Option.some.inj hy72)))]; exact hq76)) rfl ?_
      refine go ?_
      refine LW.l (Ldr.old w121 ag83 rfl (hS18.holeC 3 rfl (j := 12) rfl)) rfl rfl ?_
      refine go ?_
      replace ⟨y122, hy122, h⟩ := obind h
      obtain ⟨q125, hy122', hq126⟩ := obind hy122
      obtain ⟨hl127, hq126⟩ := keepL_some hq126
      rw [Option.some.inj hq126] at hy122' hl127
      rw [show y74.data.length = y115.2.length from hl120] at hS18
      have hS19 := hS18.pick (M := [sl a93 c94 y74.queue] ++ [sl a90 c91 y115.2, sl a87 c88 y96.2, hole DObj (some ⟨b7, o8, none⟩) c0_0 y72 (s1.2.2 : Int).toNat [.int .i64 y74.gen, .int .i64 y74.kind, .int .i64 y74.box, .int .i64 y74.res, .int .i64 y74.til, .int .i64 y74.pages, .int .i64 y74.wait, .int .i64 y74.got, .int .i64 y74.ran, .bool y74.mark, .slice a87 y96.2.length c88, .slice a90 y115.2.length c91, .slice a93 y74.queue.length c94]]) [2, 0, 1, 3] rfl rfl
      obtain ⟨F123, hL124⟩ := St.lend (L := [sl a93 c94 y74.queue]) (M := [sl a90 c91 y115.2, sl a87 c88 y96.2, hole DObj (some ⟨b7, o8, none⟩) c0_0 y72 (s1.2.2 : Int).toNat [.int .i64 y74.gen, .int .i64 y74.kind, .int .i64 y74.box, .int .i64 y74.res, .int .i64 y74.til, .int .i64 y74.pages, .int .i64 y74.wait, .int .i64 y74.got, .int .i64 y74.ran, .bool y74.mark, .slice a87 y96.2.length c88, .slice a90 y115.2.length c91, .slice a93 y74.queue.length c94]]) hS19
      refine LW.cl (W_l_markMsgS hy122' rfl hL124.st) ?_
      rintro _ w128 ⟨rfl, hs⟩
      have hS20 := hL124.back _ _ hs
      refine go ?_
      rw [show y74.queue.length = y122.2.length from hl127] at hS20
      have hS21 := hS20.pick (M := [sl a87 c88 y96.2, sl a90 c91 y115.2, sl a93 c94 y122.2] ++ [hole DObj (some ⟨b7, o8, none⟩) c0_0 y72 (s1.2.2 : Int).toNat [.int .i64 y74.gen, .int .i64 y74.kind, .int .i64 y74.box, .int .i64 y74.res, .int .i64 y74.til, .int .i64 y74.pages, .int .i64 y74.wait, .int .i64 y74.got, .int .i64 y74.ran, .bool y74.mark, .slice a87 y96.2.length c88, .slice a90 y115.2.length c91, .slice a93 y122.2.length c94]]) [2, 1, 0, 3] rfl rfl
      have hS22 := hS21.unfocus (M := [sl a87 c88 y96.2, sl a90 c91 y115.2, sl a93 c94 y122.2]) (L := [hole DObj (some ⟨b7, o8, none⟩) c0_0 y72 (s1.2.2 : Int).toNat [.int .i64 y74.gen, .int .i64 y74.kind, .int .i64 y74.box, .int .i64 y74.res, .int .i64 y74.til, .int .i64 y74.pages, .int .i64 y74.wait, .int .i64 y74.got, .int .i64 y74.ran, .bool y74.mark, .slice a87 y96.2.length c88, .slice a90 y115.2.length c91, .slice a93 y122.2.length c94]]) (y := (DObj.mk y74.gen y74.kind y74.box y74.res y74.til y74.pages y74.wait y74.got y74.ran y74.mark y96.2 y115.2 y122.2)) 0 rfl (fun w G hG => ⟨a87, c88, a90, c91, a93, c94, rfl, hG⟩)
      cases oi h
      exact ⟨rfl, ⟨⟨(show (.slice (some ⟨b7, o8, none⟩) s1.1.length c0_0 : Value) = .slice (some ⟨b7, o8, none⟩) ((y72.set (s1.2.2 : Int).toNat (DObj.mk y74.gen y74.kind y74.box y74.res y74.til y74.pages y74.wait y74.got y74.ran y74.mark y96.2 y115.2 y122.2)).length) c0_0 by rw [show s1.1.length = (y72.set (s1.2.2 : Int).toNat (DObj.mk y74.gen y74.kind y74.box y74.res y74.til y74.pages y74.wait y74.got y74.ran y74.mark y96.2 y115.2 y122.2)).length from (((((((((((len_set (Option.some.inj hy9)).trans (len_set (Option.some.inj hy16))).trans (len_set (Option.some.inj hy23))).trans (len_set (Option.some.inj hy30))).trans (len_set (Option.some.inj hy37))).trans (len_set (Option.some.inj hy44))).trans (len_set (Option.some.inj hy51))).trans (len_set (Option.some.inj hy58))).trans (len_set (Option.some.inj hy65))).trans (len_set (Option.some.inj hy72))).trans (len_set rfl))]), rfl, rfl, trivial⟩, hS22.pick [0] rfl rfl⟩⟩
    replace h := bcF h hc3
    refine go ?_
    cases oi h
    exact ⟨trivial, rfl, ⟨⟨rfl, trivial⟩, hS1.pick [0] rfl rfl⟩⟩
  intro x e w131 hM
  obtain ⟨rfl, hM⟩ := hM
  obtain ⟨hE, hS23⟩ := hM
  obtain ⟨e, rfl⟩ := hE.out
  have h := h130
  refine go ?_
  replace h := Option.some.inj h
  subst h
  exact And.intro trivial ⟨_, Res.one (resOne.t rfl), rfl, hS23.pick [0] rfl rfl⟩

theorem W_l_markTapS {w0 : World} {F : List Nat} {N : Nat} {x0 : List DTap} {x1 : Int} {r : Int × (List DTap)} (h : F_l_markTapS N x0 x1 = some r) {a0_0 : Option Addr} {n0_0 c0_0 : Nat} (hn0_0 : n0_0 = x0.length) (hS : St w0 F w0 [sl a0_0 c0_0 x0]) :
    Ret Tryz.prog 57 #[.slice a0_0 n0_0 c0_0, .int .i64 x1] w0 (fun v w => v = .int .i64 r.1 ∧ St w0 F w [sl a0_0 c0_0 r.2]) := by
  subst hn0_0
  unfold F_l_markTapS at h
  refine Ret.fn Tryz.func57 fun e => ?_
  refine go ?_
  obtain ⟨o46, ho46, h47⟩ := obind h
  refine CW.mono (CW.iter (σ := (List DTap) × Int × Int) (ρ := (List DTap) × Int × Int) (fun s1 e wb => En e [(0, .slice a0_0 s1.1.length c0_0), (1, .int .i64 s1.2.1), (5, .int .i64 s1.2.2)] ∧ St w0 F wb [sl a0_0 c0_0 s1.1]) (fun s1 x e wb => x = .exit 0 ∧ En e [(1, .int .i64 s1.2.1)] ∧ St w0 F wb [sl a0_0 c0_0 s1.1]) ?_ N (x0, x1, 0) _ _ _ ⟨⟨rfl, rfl, rfl, trivial⟩, hS.pick [0] rfl rfl⟩ ho46) ?_
  · intro s1 e w2 o hM h
    obtain ⟨hE, hS1⟩ := hM
    obtain ⟨e, rfl⟩ := hE.out
    refine go ?_
    refine CW.cond rfl (fun hc3 => ?_) (fun hc3 => ?_)
    · replace h := bcT h hc3
      refine go ?_
      replace ⟨y4, hy4, h⟩ := obind h
      obtain ⟨b7, o8, hae, hp5, hq6⟩ := hS1.ownIdx (α := DTap) (i := 0) rfl hy4
      subst hae
      refine LW.u (Pur.ix Tryz.underlying44 sz135 rfl rfl hp5 hq6) rfl ?_
      refine go ?_
      replace ⟨y9, hy9, h⟩ := obind h
      refine LW.stE (M := []) (L := [sl (some ⟨b7, o8, none⟩) c0_0 s1.1]) (z := y4) (z' := (DTap.mk s1.2.1 y4.toPart y4.toRes y4.which y4.kind y4.rate)) (o := 0) hS1 (i := 0) rfl hy4 ag3 rfl (by show _ = o8 + (s1.2.2 : Int).toNat * 6 + 0; omega) rfl rfl rfl rfl (leafF (fun w cs F hF => by obtain ⟨rfl, rfl⟩ := hF; exact ⟨rfl, rfl⟩)) ?_
      intro w10 hS2 hf
      rw [Option.some.inj hy9] at hS2
      refine go ?_
      replace ⟨y11, hy11, h⟩ := obind h
      obtain ⟨b14, o15, hae, hp12, hq13⟩ := hS2.ownIdx (α := DTap) (i := 0) rfl hy11
      cases hae
      refine LW.u (Pur.ix Tryz.underlying44 sz135 rfl rfl hp12 (by rw [show s1.1.length = y9.length from (len_set (Option.some.inj hy9))]; exact hq13)) rfl ?_
      refine go ?_
      replace ⟨y16, hy16, h⟩ := obind h
      refine LW.stE (M := []) (L := [sl (some ⟨b7, o8, none⟩) c0_0 y9]) (z := y11) (z' := (DTap.mk y11.res (IntKind.i64.wrap (s1.2.1 + 1)) y11.toRes y11.which y11.kind y11.rate)) (o := 1) hS2 (i := 0) rfl hy11 ag3 rfl (by show _ = o8 + (s1.2.2 : Int).toNat * 6 + 1; omega) rfl rfl rfl rfl (leafF (fun w cs F hF => by obtain ⟨rfl, rfl⟩ := hF; exact ⟨rfl, rfl⟩)) ?_
      intro w17 hS3 hf
      rw [Option.some.inj hy16] at hS3
      refine go ?_
      refine LW.fl [0, 1, 5, 26, 27, 28] fun e => ?_
      replace ⟨y18, hy18, h⟩ := obind h
      obtain ⟨b21, o22, hae, hp19, hq20⟩ := hS3.ownIdx (α := DTap) (i := 0) rfl hy18
      cases hae
      refine LW.u (Pur.ix Tryz.underlying44 sz135 rfl rfl hp19 (by rw [show s1.1.length = y16.length from ((len_set (Option.some.inj hy9)).trans (len_set (Option.some.inj hy16)))]; exact hq20)) rfl ?_
      refine go ?_
      replace ⟨y23, hy23, h⟩ := obind h
      refine LW.stE (M := []) (L := [sl (some ⟨b7, o8, none⟩) c0_0 y16]) (z := y18) (z' := (DTap.mk y18.res y18.toPart (IntKind.i64.wrap ((IntKind.i64.wrap (s1.2.1 + 1)) + 1)) y18.which y18.kind y18.rate)) (o := 2) hS3 (i := 0) rfl hy18 ag3 rfl (by show _ = o8 + (s1.2.2 : Int).toNat * 6 + 2; omega) rfl rfl rfl rfl (leafF (fun w cs F hF => by obtain ⟨rfl, rfl⟩ := hF; exact ⟨rfl, rfl⟩)) ?_
      intro w24 hS4 hf
      rw [Option.some.inj hy23] at hS4
      refine go ?_
      replace ⟨y25, hy25, h⟩ := obind h
      obtain ⟨b28, o29, hae, hp26, hq27⟩ := hS4.ownIdx (α := DTap) (i := 0) rfl hy25
      cases hae
      refine LW.u (Pur.ix Tryz.underlying44 sz135 rfl rfl hp26 (by rw [show s1.1.length = y23.length from (((len_set (Option.some.inj hy9)).trans (len_set (Option.some.inj hy16))).trans (len_set (Option.some.inj hy23)))]; exact hq27)) rfl ?_
      refine go ?_
      replace ⟨y30, hy30, h⟩ := obind h
      refine LW.stE (M := []) (L := [sl (some ⟨b7, o8, none⟩) c0_0 y23]) (z := y25) (z' := (DTap.mk y25.res y25.toPart y25.toRes (IntKind.i64.wrap ((IntKind.i64.wrap ((IntKind.i64.wrap (s1.2.1 + 1)) + 1)) + 1)) y25.kind y25.rate)) (o := 3) hS4 (i := 0) rfl hy25 ag3 rfl (by show _ = o8 + (s1.2.2 : Int).toNat * 6 + 3; omega) rfl rfl rfl rfl (leafF (fun w cs F hF => by obtain ⟨rfl, rfl⟩ := hF; exact ⟨rfl, rfl⟩)) ?_
      intro w31 hS5 hf
      rw [Option.some.inj hy30] at hS5
      refine go ?_
      replace ⟨y32, hy32, h⟩ := obind h
      obtain ⟨b35, o36, hae, hp33, hq34⟩ := hS5.ownIdx (α := DTap) (i := 0) rfl hy32
      cases hae
      refine LW.u (Pur.ix Tryz.underlying44 sz135 rfl rfl hp33 (by rw [show s1.1.length = y30.length from ((((len_set (Option.some.inj hy9)).trans (len_set (Option.some.inj hy16))).trans (len_set (Option.some.inj hy23))).trans (len_set (Option.some.inj hy30)))]; exact hq34)) rfl ?_
      refine go ?_
      replace ⟨y37, hy37, h⟩ := obind h
      refine LW.stE (M := []) (L := [sl (some ⟨b7, o8, none⟩) c0_0 y30]) (z := y32) (z' := (DTap.mk y32.res y32.toPart y32.toRes y32.which (IntKind.i64.wrap ((IntKind.i64.wrap ((IntKind.i64.wrap ((IntKind.i64.wrap (s1.2.1 + 1)) + 1)) + 1)) + 1)) y32.rate)) (o := 4) hS5 (i := 0) rfl hy32 ag3 rfl (by show _ = o8 + (s1.2.2 : Int).toNat * 6 + 4; omega) rfl rfl rfl rfl (leafF (fun w cs F hF => by obtain ⟨rfl, rfl⟩ := hF; exact ⟨rfl, rfl⟩)) ?_
      intro w38 hS6 hf
      rw [Option.some.inj hy37] at hS6
      refine go ?_
      refine LW.fl [0, 1, 5, 47, 48, 49] fun e => ?_
      replace ⟨y39, hy39, h⟩ := obind h
      obtain ⟨b42, o43, hae, hp40, hq41⟩ := hS6.ownIdx (α := DTap) (i := 0) rfl hy39
      cases hae
      refine LW.u (Pur.ix Tryz.underlying44 sz135 rfl rfl hp40 (by rw [show s1.1.length = y37.length from (((((len_set (Option.some.inj hy9)).trans (len_set (Option.some.inj hy16))).trans (len_set (Option.some.inj hy23))).trans (len_set (Option.some.inj hy30))).trans (len_set (Option.some.inj hy37)))]; exact hq41)) rfl ?_
      refine go ?_
      replace ⟨y44, hy44, h⟩ := obind h
      refine LW.stE (M := []) (L := [sl (some ⟨b7, o8, none⟩) c0_0 y37]) (z := y39) (z' := (DTap.mk y39.res y39.toPart y39.toRes y39.which y39.kind (IntKind.i64.wrap ((IntKind.i64.wrap ((IntKind.i64.wrap ((IntKind.i64.wrap ((IntKind.i64.wrap (s1.2.1 + 1)) + 1)) + 1)) + 1)) + 1)))) (o := 5) hS6 (i := 0) rfl hy39 ag3 rfl (by show _ = o8 + (s1.2.2 : Int).toNat * 6 + 5; omega) rfl rfl rfl rfl (leafF (fun w cs F hF => by obtain ⟨rfl, rfl⟩ := hF; exact ⟨rfl, rfl⟩)) ?_
      intro w45 hS7 hf
      rw [Option.some.inj hy44] at hS7
      refine go ?_
      cases oi h
      exact ⟨rfl, ⟨⟨(show (.slice (some ⟨b7, o8, none⟩) s1.1.length c0_0 : Value) = .slice (some ⟨b7, o8, none⟩) y44.length c0_0 by rw [show s1.1.length = y44.length from ((((((len_set (Option.some.inj hy9)).trans (len_set (Option.some.inj hy16))).trans (len_set (Option.some.inj hy23))).trans (len_set (Option.some.inj hy30))).trans (len_set (Option.some.inj hy37))).trans (len_set (Option.some.inj hy44)))]), rfl, rfl, trivial⟩, hS7.pick [0] rfl rfl⟩⟩
    replace h := bcF h hc3
    refine go ?_
    cases oi h
    exact ⟨trivial, rfl, ⟨⟨rfl, trivial⟩, hS1.pick [0] rfl rfl⟩⟩
  intro x e w48 hM
  obtain ⟨rfl, hM⟩ := hM
  obtain ⟨hE, hS8⟩ := hM
  obtain ⟨e, rfl⟩ := hE.out
  have h := h47
  refine go ?_
  replace h := Option.some.inj h
  subst h
  exact And.intro trivial ⟨_, Res.one (resOne.t rfl), rfl, hS8.pick [0] rfl rfl⟩

theorem W_l_heldIntS {w0 : World} {N : Nat} {x0 : List Int} {x1 : Int} {r : Int} (h : F_l_heldIntS N x0 x1 = some r) {a0_0 : Option Addr} {n0_0 c0_0 : Nat} (hn0_0 : n0_0 = x0.length) (hr0_0 : rdS (Bor w0 []) w0 a0_0 c0_0 x0) :
    Ret Tryz.prog 16 #[.slice a0_0 n0_0 c0_0, .int .i64 x1] w0 (fun v w => v = .int .i64 r ∧ St w0 [] w []) := by
  subst hn0_0
  unfold F_l_heldIntS at h
  refine Ret.fn Tryz.func16 fun e => ?_
  have hS1 := St.start w0
  refine go ?_
  obtain ⟨o14, ho14, h15⟩ := obind h
  refine CW.mono (CW.iter (σ := Int × Int) (ρ := (Int × Int) ⊕ Int) (fun s1 e wb => En e [(0, .slice a0_0 x0.length c0_0), (1, .int .i64 s1.1), (5, .int .i64 s1.2)] ∧ St w0 [] wb []) (fun o x e wb => match o with | .inl s1 => x = .exit 0 ∧ En e [(1, .int .i64 s1.1)] ∧ St w0 [] wb [] | .inr r => x = .ret ∧ ∃ u, u = r ∧ ∃ v, Res Tryz.prog Tryz.f16.results e wb v ∧ v = .int .i64 u ∧ St w0 [] wb []) ?_ N (x1, 0) _ _ _ ⟨⟨rfl, rfl, rfl, trivial⟩, hS1.pick [] rfl rfl⟩ ho14) ?_
  · intro s1 e w2 o hM h
    obtain ⟨hE, hS2⟩ := hM
    obtain ⟨e, rfl⟩ := hE.out
    refine go ?_
    refine CW.cond rfl (fun hc3 => ?_) (fun hc3 => ?_)
    · replace h := bcT h hc3
      refine go ?_
      replace ⟨y4, hy4, h⟩ := obind h
      obtain ⟨b7, o8, cs9, hae, hb12, hp5, hq6, hd10, hk11⟩ := hr0_0.idx hy4
      subst hae
      obtain rfl := hd10
      refine LW.u (Pur.ix Tryz.underlying22 sz3 rfl rfl hp5 hq6) rfl ?_
      refine LW.l (Ldr.old w0 ag3 rfl (hk11 0 _ rfl)) (hS2.same _ hb12.1 hb12.2) rfl ?_
      refine go ?_
      refine CW.fl [0, 1, 5, 17] fun e => ?_
      refine CW.cond rfl (fun hc13 => ?_) (fun hc13 => ?_)
      · replace h := bcT h hc13
        refine go ?_
        cases oi h
        exact ⟨trivial, rfl, _, rfl, ⟨_, Res.one (resOne.t rfl), rfl, hS2.pick [] rfl rfl⟩⟩
      replace h := bcF h hc13
      refine go ?_
      cases oi h
      exact ⟨rfl, ⟨⟨rfl, rfl, rfl, trivial⟩, hS2.pick [] rfl rfl⟩⟩
    replace h := bcF h hc3
    refine go ?_
    cases oi h
    exact ⟨trivial, rfl, ⟨⟨rfl, trivial⟩, hS2.pick [] rfl rfl⟩⟩
  intro x e w16 hM
  rcases o14 with o14 | r17
  · obtain ⟨rfl, hM⟩ := hM
    obtain ⟨hE, hS3⟩ := hM
    obtain ⟨e, rfl⟩ := hE.out
    have h := h15
    refine go ?_
    cases h
    exact And.intro trivial ⟨_, Res.one (resOne.t rfl), rfl, hS3.pick [] rfl rfl⟩
  obtain ⟨rfl, u, rfl, hM⟩ := hM
  cases h15
  exact And.intro trivial hM

end Go.Kx
