/- Each call returns what the plain function says. Printed by drive.py. -/
import Derived.Test.YtljikolgijlbeaaGreatFa
import Derived.Test.YtljikolgijlbeaaGreatPu
import Derived.Test.YtljikolgijlbeaaGreatWa0
import Derived.Test.YtljikolgijlbeaaGreatWa1
namespace Go.Kx
open Go Go.RowKit Go.Proofs
set_option maxRecDepth 10000
set_option maxHeartbeats 8000000
set_option linter.unusedVariables false
set_option linter.unusedSimpArgs false
theorem W_l_markObjS {w0 : World} {F : List Nat} {N : Nat} {x0 : List DObj} {x1 : Int} {r : Int × (List DObj)} (h : F_l_markObjS N x0 x1 = some r) {a0_0 : Option Addr} {n0_0 c0_0 : Nat} (hn0_0 : n0_0 = x0.length) (hS : St w0 F w0 [sl a0_0 c0_0 x0]) :
    Ret Tryz.prog 99 #[.slice a0_0 n0_0 c0_0, .int .i64 x1] w0 (fun v w => v = .int .i64 r.1 ∧ St w0 F w [sl a0_0 c0_0 r.2]) := by
  subst hn0_0
  unfold F_l_markObjS at h
  refine Ret.fn Tryz.func99 fun e => ?_
  refine go ?_
  obtain ⟨o129, ho129, h130⟩ := obind h
  refine CW.mono (CW.iter (σ := (List DObj) × Int × Int) (ρ := (List DObj) × Int × Int) (fun s1 e wb => En e [(0, .slice a0_0 s1.1.length c0_0), (1, .int .i64 s1.2.1), (5, .int .i64 s1.2.2)] ∧ St w0 F wb [sl a0_0 c0_0 s1.1]) (fun s1 x e wb => x = .exit 0 ∧ En e [(1, .int .i64 s1.2.1)] ∧ St w0 F wb [sl a0_0 c0_0 s1.1]) ?_ N (x0, x1, 0) _ _ _ ⟨⟨rfl, rfl, rfl, trivial⟩, hS.pick [0] rfl rfl⟩ ho129) ?_
  · intro s1 e w2 o hM h
    obtain ⟨hE, hS1⟩ := hM
    obtain ⟨e, rfl⟩ := hE.out
    refine go ?_
    refine cd (fun hc3 => ?_) fun hc3 => ?_
    · replace h := bcT h hc3
      refine go ?_
      replace ⟨y4, hy4, h⟩ := obind h
      obtain ⟨b7, o8, hae, hp5, hq6⟩ := hS1.ownIdx (α := DObj) (i := 0) rfl hy4
      subst hae
      refine LW.u (Pur.ix Tryz.underlying60 sz104 rfl rfl hp5 hq6) rfl ?_
      refine go ?_
      replace ⟨y9, hy9, h⟩ := obind h
      refine LW.stE (M := []) (L := [sl (some ⟨b7, o8, none⟩) c0_0 s1.1]) (z := y4) (z' := (DObj.mk s1.2.1 y4.kind y4.box y4.res y4.til y4.pages y4.wait y4.got y4.ran y4.mark y4.links y4.data y4.queue)) (o := 0) hS1 (i := 0) rfl hy4 ag3 rfl (by show _ = o8 + (s1.2.2 : Int).toNat * 13 + 0; omega) rfl rfl rfl rfl (leafF (fun w cs F hF => by obtain ⟨q0, r0, q1, r1, q2, r2, rfl, hH⟩ := hF; exact ⟨q0, r0, q1, r1, q2, r2, rfl, hH⟩)) ?_
      intro w10 hS2 hf
      rw [Option.some.inj hy9] at hS2
      refine go ?_
      replace ⟨y11, hy11, h⟩ := obind h
      obtain ⟨b14, o15, hae, hp12, hq13⟩ := hS2.ownIdx (α := DObj) (i := 0) rfl hy11
      cases hae
      refine LW.u (Pur.ix Tryz.underlying60 sz104 rfl rfl hp12 (by rw [show s1.1.length = y9.length from (len_set (Option.some.inj hy9))]; exact hq13)) rfl ?_
      refine go ?_
      replace ⟨y16, hy16, h⟩ := obind h
      refine LW.stE (M := []) (L := [sl (some ⟨b7, o8, none⟩) c0_0 y9]) (z := y11) (z' := (DObj.mk y11.gen (IntKind.i64.wrap (s1.2.1 + 1)) y11.box y11.res y11.til y11.pages y11.wait y11.got y11.ran y11.mark y11.links y11.data y11.queue)) (o := 1) hS2 (i := 0) rfl hy11 ag3 rfl (by show _ = o8 + (s1.2.2 : Int).toNat * 13 + 1; omega) rfl rfl rfl rfl (leafF (fun w cs F hF => by obtain ⟨q0, r0, q1, r1, q2, r2, rfl, hH⟩ := hF; exact ⟨q0, r0, q1, r1, q2, r2, rfl, hH⟩)) ?_
      intro w17 hS3 hf
      rw [Option.some.inj hy16] at hS3
      refine go ?_
      refine LW.fl [0, 1, 5, 26, 27, 28] fun e => ?_
      replace ⟨y18, hy18, h⟩ := obind h
      obtain ⟨b21, o22, hae, hp19, hq20⟩ := hS3.ownIdx (α := DObj) (i := 0) rfl hy18
      cases hae
      refine LW.u (Pur.ix Tryz.underlying60 sz104 rfl rfl hp19 (by rw [show s1.1.length = y16.length from ((len_set (Option.some.inj hy9)).trans (len_set (Option.some.inj hy16)))]; exact hq20)) rfl ?_
      refine go ?_
      replace ⟨y23, hy23, h⟩ := obind h
      refine LW.stE (M := []) (L := [sl (some ⟨b7, o8, none⟩) c0_0 y16]) (z := y18) (z' := (DObj.mk y18.gen y18.kind (IntKind.i64.wrap ((IntKind.i64.wrap (s1.2.1 + 1)) + 1)) y18.res y18.til y18.pages y18.wait y18.got y18.ran y18.mark y18.links y18.data y18.queue)) (o := 2) hS3 (i := 0) rfl hy18 ag3 rfl (by show _ = o8 + (s1.2.2 : Int).toNat * 13 + 2; omega) rfl rfl rfl rfl (leafF (fun w cs F hF => by obtain ⟨q0, r0, q1, r1, q2, r2, rfl, hH⟩ := hF; exact ⟨q0, r0, q1, r1, q2, r2, rfl, hH⟩)) ?_
      intro w24 hS4 hf
      rw [Option.some.inj hy23] at hS4
      refine go ?_
      replace ⟨y25, hy25, h⟩ := obind h
      obtain ⟨b28, o29, hae, hp26, hq27⟩ := hS4.ownIdx (α := DObj) (i := 0) rfl hy25
      cases hae
      refine LW.u (Pur.ix Tryz.underlying60 sz104 rfl rfl hp26 (by rw [show s1.1.length = y23.length from (((len_set (Option.some.inj hy9)).trans (len_set (Option.some.inj hy16))).trans (len_set (Option.some.inj hy23)))]; exact hq27)) rfl ?_
      refine go ?_
      replace ⟨y30, hy30, h⟩ := obind h
      refine LW.stE (M := []) (L := [sl (some ⟨b7, o8, none⟩) c0_0 y23]) (z := y25) (z' := (DObj.mk y25.gen y25.kind y25.box (IntKind.i64.wrap ((IntKind.i64.wrap ((IntKind.i64.wrap (s1.2.1 + 1)) + 1)) + 1)) y25.til y25.pages y25.wait y25.got y25.ran y25.mark y25.links y25.data y25.queue)) (o := 3) hS4 (i := 0) rfl hy25 ag3 rfl (by show _ = o8 + (s1.2.2 : Int).toNat * 13 + 3; omega) rfl rfl rfl rfl (leafF (fun w cs F hF => by obtain ⟨q0, r0, q1, r1, q2, r2, rfl, hH⟩ := hF; exact ⟨q0, r0, q1, r1, q2, r2, rfl, hH⟩)) ?_
      intro w31 hS5 hf
      rw [Option.some.inj hy30] at hS5
      refine go ?_
      replace ⟨y32, hy32, h⟩ := obind h
      obtain ⟨b35, o36, hae, hp33, hq34⟩ := hS5.ownIdx (α := DObj) (i := 0) rfl hy32
      cases hae
      refine LW.u (Pur.ix Tryz.underlying60 sz104 rfl rfl hp33 (by rw [show s1.1.length = y30.length from ((((len_set (Option.some.inj hy9)).trans (len_set (Option.some.inj hy16))).trans (len_set (Option.some.inj hy23))).trans (len_set (Option.some.inj hy30)))]; exact hq34)) rfl ?_
      refine go ?_
      replace ⟨y37, hy37, h⟩ := obind h
      refine LW.stE (M := []) (L := [sl (some ⟨b7, o8, none⟩) c0_0 y30]) (z := y32) (z' := (DObj.mk y32.gen y32.kind y32.box y32.res (IntKind.i64.wrap ((IntKind.i64.wrap ((IntKind.i64.wrap ((IntKind.i64.wrap (s1.2.1 + 1)) + 1)) + 1)) + 1)) y32.pages y32.wait y32.got y32.ran y32.mark y32.links y32.data y32.queue)) (o := 4) hS5 (i := 0) rfl hy32 ag3 rfl (by show _ = o8 + (s1.2.2 : Int).toNat * 13 + 4; omega) rfl rfl rfl rfl (leafF (fun w cs F hF => by obtain ⟨q0, r0, q1, r1, q2, r2, rfl, hH⟩ := hF; exact ⟨q0, r0, q1, r1, q2, r2, rfl, hH⟩)) ?_
      intro w38 hS6 hf
      rw [Option.some.inj hy37] at hS6
      refine go ?_
      refine LW.fl [0, 1, 5, 47, 48, 49] fun e => ?_
      replace ⟨y39, hy39, h⟩ := obind h
      obtain ⟨b42, o43, hae, hp40, hq41⟩ := hS6.ownIdx (α := DObj) (i := 0) rfl hy39
      cases hae
      refine LW.u (Pur.ix Tryz.underlying60 sz104 rfl rfl hp40 (by rw [show s1.1.length = y37.length from (((((len_set (Option.some.inj hy9)).trans (len_set (Option.some.inj hy16))).trans (len_set (Option.some.inj hy23))).trans (len_set (Option.some.inj hy30))).trans (len_set (Option.some.inj hy37)))]; exact hq41)) rfl ?_
      refine go ?_
      replace ⟨y44, hy44, h⟩ := obind h
      refine LW.stE (M := []) (L := [sl (some ⟨b7, o8, none⟩) c0_0 y37]) (z := y39) (z' := (DObj.mk y39.gen y39.kind y39.box y39.res y39.til (IntKind.i64.wrap ((IntKind.i64.wrap ((IntKind.i64.wrap ((IntKind.i64.wrap ((IntKind.i64.wrap (s1.2.1 + 1)) + 1)) + 1)) + 1)) + 1)) y39.wait y39.got y39.ran y39.mark y39.links y39.data y39.queue)) (o := 5) hS6 (i := 0) rfl hy39 ag3 rfl (by show _ = o8 + (s1.2.2 : Int).toNat * 13 + 5; omega) rfl rfl rfl rfl (leafF (fun w cs F hF => by obtain ⟨q0, r0, q1, r1, q2, r2, rfl, hH⟩ := hF; exact ⟨q0, r0, q1, r1, q2, r2, rfl, hH⟩)) ?_
      intro w45 hS7 hf
      rw [Option.some.inj hy44] at hS7
      refine go ?_
      replace ⟨y46, hy46, h⟩ := obind h
      obtain ⟨b49, o50, hae, hp47, hq48⟩ := hS7.ownIdx (α := DObj) (i := 0) rfl hy46
      cases hae
      refine LW.u (Pur.ix Tryz.underlying60 sz104 rfl rfl hp47 (by rw [show s1.1.length = y44.length from ((((((len_set (Option.some.inj hy9)).trans (len_set (Option.some.inj hy16))).trans (len_set (Option.some.inj hy23))).trans (len_set (Option.some.inj hy30))).trans (len_set (Option.some.inj hy37))).trans (len_set (Option.some.inj hy44)))]; exact hq48)) rfl ?_
      refine go ?_
      replace ⟨y51, hy51, h⟩ := obind h
      refine LW.stE (M := []) (L := [sl (some ⟨b7, o8, none⟩) c0_0 y44]) (z := y46) (z' := (DObj.mk y46.gen y46.kind y46.box y46.res y46.til y46.pages (IntKind.i64.wrap ((IntKind.i64.wrap ((IntKind.i64.wrap ((IntKind.i64.wrap ((IntKind.i64.wrap ((IntKind.i64.wrap (s1.2.1 + 1)) + 1)) + 1)) + 1)) + 1)) + 1)) y46.got y46.ran y46.mark y46.links y46.data y46.queue)) (o := 6) hS7 (i := 0) rfl hy46 ag3 rfl (by show _ = o8 + (s1.2.2 : Int).toNat * 13 + 6; omega) rfl rfl rfl rfl (leafF (fun w cs F hF => by obtain ⟨q0, r0, q1, r1, q2, r2, rfl, hH⟩ := hF; exact ⟨q0, r0, q1, r1, q2, r2, rfl, hH⟩)) ?_
      intro w52 hS8 hf
      rw [Option.some.inj hy51] at hS8
      refine go ?_
      replace ⟨y53, hy53, h⟩ := obind h
      obtain ⟨b56, o57, hae, hp54, hq55⟩ := hS8.ownIdx (α := DObj) (i := 0) rfl hy53
      cases hae
      refine LW.u (Pur.ix Tryz.underlying60 sz104 rfl rfl hp54 (by rw [show s1.1.length = y51.length from (((((((len_set (Option.some.inj hy9)).trans (len_set (Option.some.inj hy16))).trans (len_set (Option.some.inj hy23))).trans (len_set (Option.some.inj hy30))).trans (len_set (Option.some.inj hy37))).trans (len_set (Option.some.inj hy44))).trans (len_set (Option.some.inj hy51)))]; exact hq55)) rfl ?_
      refine go ?_
      replace ⟨y58, hy58, h⟩ := obind h
      refine LW.stE (M := []) (L := [sl (some ⟨b7, o8, none⟩) c0_0 y51]) (z := y53) (z' := (DObj.mk y53.gen y53.kind y53.box y53.res y53.til y53.pages y53.wait (IntKind.i64.wrap ((IntKind.i64.wrap ((IntKind.i64.wrap ((IntKind.i64.wrap ((IntKind.i64.wrap ((IntKind.i64.wrap ((IntKind.i64.wrap (s1.2.1 + 1)) + 1)) + 1)) + 1)) + 1)) + 1)) + 1)) y53.ran y53.mark y53.links y53.data y53.queue)) (o := 7) hS8 (i := 0) rfl hy53 ag3 rfl (by show _ = o8 + (s1.2.2 : Int).toNat * 13 + 7; omega) rfl rfl rfl rfl (leafF (fun w cs F hF => by obtain ⟨q0, r0, q1, r1, q2, r2, rfl, hH⟩ := hF; exact ⟨q0, r0, q1, r1, q2, r2, rfl, hH⟩)) ?_
      intro w59 hS9 hf
      rw [Option.some.inj hy58] at hS9
      refine go ?_
      refine LW.fl [0, 1, 5, 68, 69, 70] fun e => ?_
      replace ⟨y60, hy60, h⟩ := obind h
      obtain ⟨b63, o64, hae, hp61, hq62⟩ := hS9.ownIdx (α := DObj) (i := 0) rfl hy60
      cases hae
      refine LW.u (Pur.ix Tryz.underlying60 sz104 rfl rfl hp61 (by rw [show s1.1.length = y58.length from ((((((((len_set (Option.some.inj hy9)).trans (len_set (Option.some.inj hy16))).trans (len_set (Option.some.inj hy23))).trans (len_set (Option.some.inj hy30))).trans (len_set (Option.some.inj hy37))).trans (len_set (Option.some.inj hy44))).trans (len_set (Option.some.inj hy51))).trans (len_set (Option.some.inj hy58)))]; exact hq62)) rfl ?_
      refine go ?_
      replace ⟨y65, hy65, h⟩ := obind h
      refine LW.stE (M := []) (L := [sl (some ⟨b7, o8, none⟩) c0_0 y58]) (z := y60) (z' := (DObj.mk y60.gen y60.kind y60.box y60.res y60.til y60.pages y60.wait y60.got (IntKind.i64.wrap ((IntKind.i64.wrap ((IntKind.i64.wrap ((IntKind.i64.wrap ((IntKind.i64.wrap ((IntKind.i64.wrap ((IntKind.i64.wrap ((IntKind.i64.wrap (s1.2.1 + 1)) + 1)) + 1)) + 1)) + 1)) + 1)) + 1)) + 1)) y60.mark y60.links y60.data y60.queue)) (o := 8) hS9 (i := 0) rfl hy60 ag3 rfl (by show _ = o8 + (s1.2.2 : Int).toNat * 13 + 8; omega) rfl rfl rfl rfl (leafF (fun w cs F hF => by obtain ⟨q0, r0, q1, r1, q2, r2, rfl, hH⟩ := hF; exact ⟨q0, r0, q1, r1, q2, r2, rfl, hH⟩)) ?_
      intro w66 hS10 hf
      rw [Option.some.inj hy65] at hS10
      refine go ?_
      refine LW.u (Pur.rem rfl rfl (by decide)) rfl ?_
      refine go ?_
      replace ⟨y67, hy67, h⟩ := obind h
      obtain ⟨b70, o71, hae, hp68, hq69⟩ := hS10.ownIdx (α := DObj) (i := 0) rfl hy67
      cases hae
      refine LW.u (Pur.ix Tryz.underlying60 sz104 rfl rfl hp68 (by rw [show s1.1.length = y65.length from (((((((((len_set (Option.some.inj hy9)).trans (len_set (Option.some.inj hy16))).trans (len_set (Option.some.inj hy23))).trans (len_set (Option.some.inj hy30))).trans (len_set (Option.some.inj hy37))).trans (len_set (Option.some.inj hy44))).trans (len_set (Option.some.inj hy51))).trans (len_set (Option.some.inj hy58))).trans (len_set (Option.some.inj hy65)))]; exact hq69)) rfl ?_
      refine go ?_
      replace ⟨y72, hy72, h⟩ := obind h
      refine LW.stE (M := []) (L := [sl (some ⟨b7, o8, none⟩) c0_0 y65]) (z := y67) (z' := (DObj.mk y67.gen y67.kind y67.box y67.res y67.til y67.pages y67.wait y67.got y67.ran ((Int.tmod (IntKind.i64.wrap ((IntKind.i64.wrap ((IntKind.i64.wrap ((IntKind.i64.wrap ((IntKind.i64.wrap ((IntKind.i64.wrap ((IntKind.i64.wrap ((IntKind.i64.wrap ((IntKind.i64.wrap (s1.2.1 + 1)) + 1)) + 1)) + 1)) + 1)) + 1)) + 1)) + 1)) + 1)) 3) == 0) y67.links y67.data y67.queue)) (o := 9) hS10 (i := 0) rfl hy67 ag4 rfl (by show _ = o8 + (s1.2.2 : Int).toNat * 13 + 9; omega) rfl rfl rfl rfl (leafF (fun w cs F hF => by obtain ⟨q0, r0, q1, r1, q2, r2, rfl, hH⟩ := hF; exact ⟨q0, r0, q1, r1, q2, r2, rfl, hH⟩)) ?_
      intro w73 hS11 hf
      rw [Option.some.inj hy72] at hS11
      refine go ?_
      replace ⟨y74, hy74, h⟩ := obind h
      obtain ⟨b77, o78, hae, hp75, hq76⟩ := hS11.ownIdx (α := DObj) (i := 0) rfl hy74
      cases hae
      refine LW.u (Pur.ix Tryz.underlying60 sz104 rfl rfl hp75 (by rw [show s1.1.length = y72.length from ((((((((((len_set (Option.some.inj hy9)).trans (len_set (Option.some.inj hy16))).trans (len_set (Option.some.inj hy23))).trans (len_set (Option.some.inj hy30))).trans (len_set (Option.some.inj hy37))).trans (len_set (Option.some.inj hy44))).trans (len_set (Option.some.inj hy51))).trans (len_set (Option.some.inj hy58))).trans (len_set (Option.some.inj hy65))).trans (len_set (Option.some.inj hy72)))]; exact hq76)) rfl ?_
      refine go ?_
      obtain ⟨F79, ho80, hS12⟩ := hS11.freeze (α := DObj) 0 rfl
      refine LW.fl [0, 1, 5, 87] fun e => ?_
      obtain ⟨b81, o82, cs83, hae, hb86, _, _, hd84, hk85⟩ := ho80.rdF.idx hy74
      cases hae
      obtain ⟨a87, c88, a90, c91, a93, c94, rfl, hr89, hr92, hr95⟩ := hd84
      refine LW.l (Ldr.old w73 ag52 rfl (hk85 10 _ rfl)) (hS12.zC 0 rfl hb86) rfl ?_
      refine go ?_
      replace ⟨y96, hy96, h⟩ := obind h
      obtain ⟨q111, hy96', hq112⟩ := obind hy96
      obtain ⟨hl113, hq112⟩ := keepL_some hq112
      rw [Option.some.inj hq112] at hy96' hl113
      have hn97 := fun (j : Nat) (u : Value) (hu : ([.int .i64 y74.gen, .int .i64 y74.kind, .int .i64 y74.box, .int .i64 y74.res, .int .i64 y74.til, .int .i64 y74.pages, .int .i64 y74.wait, .int .i64 y74.got, .int .i64 y74.ran, .bool y74.mark, .slice a87 y74.links.length c88, .slice a90 y74.data.length c91, .slice a93 y74.queue.length c94] : List Value)[j]? = some u) => (World.cell?_of_block (hS12.zC 0 rfl hb86)).trans (hk85 j u hu)
      have hS13 := hS12.thaw (α := DObj) 0 rfl ho80
      obtain ⟨Fx98, ho99, hf100⟩ := hS13.focus (α := DObj) (cs := [.int .i64 y74.gen, .int .i64 y74.kind, .int .i64 y74.box, .int .i64 y74.res, .int .i64 y74.til, .int .i64 y74.pages, .int .i64 y74.wait, .int .i64 y74.got, .int .i64 y74.ran, .bool y74.mark, .slice a87 y74.links.length c88, .slice a90 y74.data.length c91, .slice a93 y74.queue.length c94]) 0 rfl hy74 rfl hn97
      obtain ⟨a103, c104, a105, c106, a107, c108, hc101, hH102⟩ := ho99
      cases hc101
      have hS14 := hf100 [sl a87 c88 y74.links, sl a90 c91 y74.data, sl a93 c94 y74.queue] hH102
      obtain ⟨F109, hL110⟩ := hS14.lendI [0] [1, 2, 3]
      refine LW.cl (W_l_markIntS hy96' rfl hL110.st) ?_
      rintro _ w114 ⟨rfl, hs⟩
      have hS15 := hL110.back _ _ hs
      refine go ?_
      refine LW.u (Pur.ix Tryz.underlying60 sz104 rfl rfl hp75 (by rw [show s1.1.length = y72.length from ((((((((((len_set (Option.some.inj hy9)).trans (len_set (Option.some.inj hy16))).trans (len_set (Option.some.inj hy23))).trans (len_set (Option.some.inj hy30))).trans (len_set (Option.some.inj hy37))).trans (len_set (Option.some.inj hy44))).trans (len_set (Option.some.inj hy51))).trans (len_set (Option.some.inj hy58))).trans (len_set (Option.some.inj hy65))).trans (len_set (Option.some.inj hy72)))]; exact hq76)) rfl ?_
      refine go ?_
      refine LW.l (Ldr.old w114 ag52 rfl (hS15.holeC 3 rfl (j := 11) rfl)) rfl rfl ?_
      refine go ?_
      replace ⟨y115, hy115, h⟩ := obind h
      obtain ⟨q118, hy115', hq119⟩ := obind hy115
      obtain ⟨hl120, hq119⟩ := keepL_some hq119
      rw [Option.some.inj hq119] at hy115' hl120
      rw [show y74.links.length = y96.2.length from hl113] at hS15
      obtain ⟨F116, hL117⟩ := hS15.lendI [1] [0, 2, 3]
      refine LW.cl (W_l_markIntS hy115' rfl hL117.st) ?_
      rintro _ w121 ⟨rfl, hs⟩
      have hS16 := hL117.back _ _ hs
      refine go ?_
      refine LW.u (Pur.ix Tryz.underlying60 sz104 rfl rfl hp75 (by rw [show s1.1.length = y72.length from ((((((((((len_set (Option.some.inj hy9)).trans (len_set (Option.some.inj hy16))).trans (len_set (Option.some.inj hy23))).trans (len_set (Option.some.inj hy30))).trans (len_set (Option.some.inj hy37))).trans (len_set (Option.some.inj hy44))).trans (len_set (Option.some.inj hy51))).trans (len_set (Option.some.inj hy58))).trans (len_set (Option.some.inj hy65))).trans (len_set (Option.some.inj hy72)))]; exact hq76)) rfl ?_
      refine go ?_
      refine LW.l (Ldr.old w121 ag102 rfl (hS16.holeC 3 rfl (j := 12) rfl)) rfl rfl ?_
      refine go ?_
      replace ⟨y122, hy122, h⟩ := obind h
      obtain ⟨q125, hy122', hq126⟩ := obind hy122
      obtain ⟨hl127, hq126⟩ := keepL_some hq126
      rw [Option.some.inj hq126] at hy122' hl127
      rw [show y74.data.length = y115.2.length from hl120] at hS16
      obtain ⟨F123, hL124⟩ := hS16.lendI [2] [0, 1, 3]
      refine LW.cl (W_l_markMsgS hy122' rfl hL124.st) ?_
      rintro _ w128 ⟨rfl, hs⟩
      have hS17 := hL124.back _ _ hs
      refine go ?_
      replace h := Option.some.inj h
      subst h
      rw [show y74.queue.length = y122.2.length from hl127] at hS17
      have hS18 := hS17.pick (M := [sl a87 c88 y96.2, sl a90 c91 y115.2, sl a93 c94 y122.2] ++ [hole DObj (some ⟨b7, o8, none⟩) c0_0 y72 (s1.2.2 : Int).toNat [.int .i64 y74.gen, .int .i64 y74.kind, .int .i64 y74.box, .int .i64 y74.res, .int .i64 y74.til, .int .i64 y74.pages, .int .i64 y74.wait, .int .i64 y74.got, .int .i64 y74.ran, .bool y74.mark, .slice a87 y96.2.length c88, .slice a90 y115.2.length c91, .slice a93 y122.2.length c94]]) [2, 1, 0, 3] rfl rfl
      have hS19 := hS18.unfocus (M := [sl a87 c88 y96.2, sl a90 c91 y115.2, sl a93 c94 y122.2]) (L := [hole DObj (some ⟨b7, o8, none⟩) c0_0 y72 (s1.2.2 : Int).toNat [.int .i64 y74.gen, .int .i64 y74.kind, .int .i64 y74.box, .int .i64 y74.res, .int .i64 y74.til, .int .i64 y74.pages, .int .i64 y74.wait, .int .i64 y74.got, .int .i64 y74.ran, .bool y74.mark, .slice a87 y96.2.length c88, .slice a90 y115.2.length c91, .slice a93 y122.2.length c94]]) (y := (DObj.mk y74.gen y74.kind y74.box y74.res y74.til y74.pages y74.wait y74.got y74.ran y74.mark y96.2 y115.2 y122.2)) 0 rfl (fun w G hG => ⟨a87, c88, a90, c91, a93, c94, rfl, hG⟩)
      exact ⟨rfl, ⟨⟨(show (.slice (some ⟨b7, o8, none⟩) s1.1.length c0_0 : Value) = .slice (some ⟨b7, o8, none⟩) ((y72.set (s1.2.2 : Int).toNat (DObj.mk y74.gen y74.kind y74.box y74.res y74.til y74.pages y74.wait y74.got y74.ran y74.mark y96.2 y115.2 y122.2)).length) c0_0 by rw [show s1.1.length = (y72.set (s1.2.2 : Int).toNat (DObj.mk y74.gen y74.kind y74.box y74.res y74.til y74.pages y74.wait y74.got y74.ran y74.mark y96.2 y115.2 y122.2)).length from (((((((((((len_set (Option.some.inj hy9)).trans (len_set (Option.some.inj hy16))).trans (len_set (Option.some.inj hy23))).trans (len_set (Option.some.inj hy30))).trans (len_set (Option.some.inj hy37))).trans (len_set (Option.some.inj hy44))).trans (len_set (Option.some.inj hy51))).trans (len_set (Option.some.inj hy58))).trans (len_set (Option.some.inj hy65))).trans (len_set (Option.some.inj hy72))).trans (len_set rfl))]), rfl, rfl, trivial⟩, hS19.pick [0] rfl rfl⟩⟩
    replace h := bcF h hc3
    refine go ?_
    cases oi h
    exact ⟨trivial, rfl, ⟨⟨rfl, trivial⟩, hS1.pick [0] rfl rfl⟩⟩
  intro x e w131 hM
  obtain ⟨rfl, hM⟩ := hM
  obtain ⟨hE, hS20⟩ := hM
  obtain ⟨e, rfl⟩ := hE.out
  have h := h130
  refine go ?_
  replace h := Option.some.inj h
  subst h
  exact And.intro trivial ⟨_, Res.one (resOne.t rfl), rfl, hS20.pick [0] rfl rfl⟩

theorem W_l_heldObjS {w0 : World} {N : Nat} {x0 : List DObj} {x1 : Int} {r : Int} (h : F_l_heldObjS N x0 x1 = some r) {a0_0 : Option Addr} {n0_0 c0_0 : Nat} (hn0_0 : n0_0 = x0.length) (hr0_0 : rdS (Bor w0 []) w0 a0_0 c0_0 x0) :
    Ret Tryz.prog 103 #[.slice a0_0 n0_0 c0_0, .int .i64 x1] w0 (fun v w => v = .int .i64 r ∧ St w0 [] w []) := by
  subst hn0_0
  unfold F_l_heldObjS at h
  refine Ret.fn Tryz.func103 fun e => ?_
  have hS1 := St.start w0
  refine go ?_
  obtain ⟨o41, ho41, h42⟩ := obind h
  refine CW.mono (CW.lx [0] [] [1] 0 (fun s1 => [(1, .int .i64 s1.1), (5, .int .i64 s1.2)]) (RT Tryz.prog Tryz.f103.results (fun u => .int .i64 u) w0 []) hS1 ho41 (hb := ?_)) ?_
  · intro s1 e w2 o hS2 h
    refine go ?_
    refine cd (fun hc3 => ?_) fun hc3 => ?_
    · replace h := bcT h hc3
      refine go ?_
      replace ⟨y4, hy4, h⟩ := obind h
      obtain ⟨b7, o8, cs9, hae, hb12, hp5, hq6, hd10, hk11⟩ := hr0_0.idx hy4
      subst hae
      obtain ⟨a13, c14, a16, c17, a19, c20, rfl, hr15, hr18, hr21⟩ := hd10
      refine LW.u (Pur.ix Tryz.underlying60 sz104 rfl rfl hp5 hq6) rfl ?_
      refine go ?_
      refine LW.l (Ldr.old w0 ag3 rfl (hk11 0 _ rfl)) (hS2.same _ hb12.1 hb12.2) rfl ?_
      refine go ?_
      refine CW.fl [0, 1, 5, 18] fun e => ?_
      refine cd (fun hc22 => ?_) fun hc22 => ?_
      · replace h := bcT h hc22
        refine go ?_
        cases oi h
        exact ⟨trivial, rfl, _, rfl, ⟨_, Res.one (resOne.t rfl), rfl, hS2.pick [] rfl rfl⟩⟩
      replace h := bcF h hc22
      refine go ?_
      refine LW.u (Pur.ix Tryz.underlying60 sz104 rfl rfl hp5 hq6) rfl ?_
      refine go ?_
      refine LW.l (Ldr.old w0 ag3 rfl (hk11 1 _ rfl)) (hS2.same _ hb12.1 hb12.2) rfl ?_
      refine go ?_
      refine cd (fun hc23 => ?_) fun hc23 => ?_
      · replace h := bcT h hc23
        refine go ?_
        cases oi h
        exact ⟨trivial, rfl, _, rfl, ⟨_, Res.one (resOne.t rfl), rfl, hS2.pick [] rfl rfl⟩⟩
      replace h := bcF h hc23
      refine go ?_
      refine LW.u (Pur.ix Tryz.underlying60 sz104 rfl rfl hp5 hq6) rfl ?_
      refine go ?_
      refine LW.l (Ldr.old w0 ag3 rfl (hk11 2 _ rfl)) (hS2.same _ hb12.1 hb12.2) rfl ?_
      refine go ?_
      refine CW.fl [0, 1, 5, 36] fun e => ?_
      refine cd (fun hc24 => ?_) fun hc24 => ?_
      · replace h := bcT h hc24
        refine go ?_
        cases oi h
        exact ⟨trivial, rfl, _, rfl, ⟨_, Res.one (resOne.t rfl), rfl, hS2.pick [] rfl rfl⟩⟩
      replace h := bcF h hc24
      refine go ?_
      refine LW.u (Pur.ix Tryz.underlying60 sz104 rfl rfl hp5 hq6) rfl ?_
      refine go ?_
      refine LW.l (Ldr.old w0 ag3 rfl (hk11 3 _ rfl)) (hS2.same _ hb12.1 hb12.2) rfl ?_
      refine go ?_
      refine cd (fun hc25 => ?_) fun hc25 => ?_
      · replace h := bcT h hc25
        refine go ?_
        cases oi h
        exact ⟨trivial, rfl, _, rfl, ⟨_, Res.one (resOne.t rfl), rfl, hS2.pick [] rfl rfl⟩⟩
      replace h := bcF h hc25
      refine go ?_
      refine LW.u (Pur.ix Tryz.underlying60 sz104 rfl rfl hp5 hq6) rfl ?_
      refine go ?_
      refine LW.l (Ldr.old w0 ag3 rfl (hk11 4 _ rfl)) (hS2.same _ hb12.1 hb12.2) rfl ?_
      refine go ?_
      refine CW.fl [0, 1, 5, 54] fun e => ?_
      refine cd (fun hc26 => ?_) fun hc26 => ?_
      · replace h := bcT h hc26
        refine go ?_
        cases oi h
        exact ⟨trivial, rfl, _, rfl, ⟨_, Res.one (resOne.t rfl), rfl, hS2.pick [] rfl rfl⟩⟩
      replace h := bcF h hc26
      refine go ?_
      refine LW.u (Pur.ix Tryz.underlying60 sz104 rfl rfl hp5 hq6) rfl ?_
      refine go ?_
      refine LW.l (Ldr.old w0 ag3 rfl (hk11 5 _ rfl)) (hS2.same _ hb12.1 hb12.2) rfl ?_
      refine go ?_
      refine cd (fun hc27 => ?_) fun hc27 => ?_
      · replace h := bcT h hc27
        refine go ?_
        cases oi h
        exact ⟨trivial, rfl, _, rfl, ⟨_, Res.one (resOne.t rfl), rfl, hS2.pick [] rfl rfl⟩⟩
      replace h := bcF h hc27
      refine go ?_
      refine LW.u (Pur.ix Tryz.underlying60 sz104 rfl rfl hp5 hq6) rfl ?_
      refine go ?_
      refine LW.l (Ldr.old w0 ag3 rfl (hk11 6 _ rfl)) (hS2.same _ hb12.1 hb12.2) rfl ?_
      refine go ?_
      refine CW.fl [0, 1, 5, 72] fun e => ?_
      refine cd (fun hc28 => ?_) fun hc28 => ?_
      · replace h := bcT h hc28
        refine go ?_
        cases oi h
        exact ⟨trivial, rfl, _, rfl, ⟨_, Res.one (resOne.t rfl), rfl, hS2.pick [] rfl rfl⟩⟩
      replace h := bcF h hc28
      refine go ?_
      refine LW.u (Pur.ix Tryz.underlying60 sz104 rfl rfl hp5 hq6) rfl ?_
      refine go ?_
      refine LW.l (Ldr.old w0 ag3 rfl (hk11 7 _ rfl)) (hS2.same _ hb12.1 hb12.2) rfl ?_
      refine go ?_
      refine cd (fun hc29 => ?_) fun hc29 => ?_
      · replace h := bcT h hc29
        refine go ?_
        cases oi h
        exact ⟨trivial, rfl, _, rfl, ⟨_, Res.one (resOne.t rfl), rfl, hS2.pick [] rfl rfl⟩⟩
      replace h := bcF h hc29
      refine go ?_
      refine LW.u (Pur.ix Tryz.underlying60 sz104 rfl rfl hp5 hq6) rfl ?_
      refine go ?_
      refine LW.l (Ldr.old w0 ag3 rfl (hk11 8 _ rfl)) (hS2.same _ hb12.1 hb12.2) rfl ?_
      refine go ?_
      refine CW.fl [0, 1, 5, 90] fun e => ?_
      refine cd (fun hc30 => ?_) fun hc30 => ?_
      · replace h := bcT h hc30
        refine go ?_
        cases oi h
        exact ⟨trivial, rfl, _, rfl, ⟨_, Res.one (resOne.t rfl), rfl, hS2.pick [] rfl rfl⟩⟩
      replace h := bcF h hc30
      refine go ?_
      refine LW.u (Pur.ix Tryz.underlying60 sz104 rfl rfl hp5 hq6) rfl ?_
      refine go ?_
      refine LW.l (Ldr.old w0 ag4 rfl (hk11 9 _ rfl)) (hS2.same _ hb12.1 hb12.2) rfl ?_
      refine go ?_
      refine LW.u (Pur.rem rfl rfl (by decide)) rfl ?_
      refine go ?_
      refine LW.u (Pur.bne Tryz.underlying4 rfl rfl) rfl ?_
      refine go ?_
      refine cd (fun hc31 => ?_) fun hc31 => ?_
      · replace h := bcT h hc31
        refine go ?_
        cases oi h
        exact ⟨trivial, rfl, _, rfl, ⟨_, Res.one (resOne.t rfl), rfl, hS2.pick [] rfl rfl⟩⟩
      replace h := bcF h hc31
      refine go ?_
      refine LW.u (Pur.ix Tryz.underlying60 sz104 rfl rfl hp5 hq6) rfl ?_
      refine go ?_
      refine LW.l (Ldr.old w0 ag52 rfl (hk11 10 _ rfl)) (hS2.same _ hb12.1 hb12.2) rfl ?_
      refine go ?_
      replace ⟨y32, hy32, h⟩ := obind h
      refine LW.c0 (W_l_heldIntS hy32 rfl (hS2.rB hr15)) hS2 fun w33 hS3 => ?_
      refine go ?_
      refine CW.fl [0, 1, 5, 112] fun e => ?_
      refine cd (fun hc34 => ?_) fun hc34 => ?_
      · replace h := bcT h hc34
        refine go ?_
        cases oi h
        exact ⟨trivial, rfl, _, rfl, ⟨_, Res.one (resOne.t rfl), rfl, hS3.pick [] rfl rfl⟩⟩
      replace h := bcF h hc34
      refine go ?_
      refine LW.u (Pur.ix Tryz.underlying60 sz104 rfl rfl hp5 hq6) rfl ?_
      refine go ?_
      refine LW.l (Ldr.old w0 ag52 rfl (hk11 11 _ rfl)) (hS3.same _ hb12.1 hb12.2) rfl ?_
      refine go ?_
      replace ⟨y35, hy35, h⟩ := obind h
      refine LW.c0 (W_l_heldIntS hy35 rfl (hS3.rB hr18)) hS3 fun w36 hS4 => ?_
      refine go ?_
      refine cd (fun hc37 => ?_) fun hc37 => ?_
      · replace h := bcT h hc37
        refine go ?_
        cases oi h
        exact ⟨trivial, rfl, _, rfl, ⟨_, Res.one (resOne.t rfl), rfl, hS4.pick [] rfl rfl⟩⟩
      replace h := bcF h hc37
      refine go ?_
      refine LW.u (Pur.ix Tryz.underlying60 sz104 rfl rfl hp5 hq6) rfl ?_
      refine go ?_
      refine LW.l (Ldr.old w0 ag102 rfl (hk11 12 _ rfl)) (hS4.same _ hb12.1 hb12.2) rfl ?_
      refine go ?_
      replace ⟨y38, hy38, h⟩ := obind h
      refine LW.c0 (W_l_heldMsgS hy38 rfl (hS4.rB hr21)) hS4 fun w39 hS5 => ?_
      refine go ?_
      refine CW.fl [0, 1, 5, 130] fun e => ?_
      refine cd (fun hc40 => ?_) fun hc40 => ?_
      · replace h := bcT h hc40
        refine go ?_
        cases oi h
        exact ⟨trivial, rfl, _, rfl, ⟨_, Res.one (resOne.t rfl), rfl, hS5.pick [] rfl rfl⟩⟩
      replace h := bcF h hc40
      refine go ?_
      cases oi h
      exact ⟨rfl, ⟨⟨rfl, rfl, rfl, trivial⟩, hS5.pick [] rfl rfl⟩⟩
    replace h := bcF h hc3
    refine go ?_
    cases oi h
    exact ⟨trivial, rfl, ⟨⟨rfl, trivial⟩, hS2.pick [] rfl rfl⟩⟩
  intro x e w43 hM
  rcases o41 with o41 | r44
  · obtain ⟨rfl, hM⟩ := hM
    obtain ⟨hE, hS6⟩ := hM
    obtain ⟨e, rfl⟩ := hE.out
    have h := h42
    refine go ?_
    cases h
    exact fi hS6
  obtain ⟨rfl, u, rfl, hM⟩ := hM
  cases h42
  exact And.intro trivial hM

theorem W_l_szObjS {w0 : World} {N : Nat} {x0 : List DObj} {x1 : Int} {r : Int} (h : F_l_szObjS N x0 x1 = some r) {a0_0 : Option Addr} {n0_0 c0_0 : Nat} (hn0_0 : n0_0 = x0.length) (hr0_0 : rdS (Bor w0 []) w0 a0_0 c0_0 x0) :
    Ret Tryz.prog 198 #[.slice a0_0 n0_0 c0_0, .int .i64 x1] w0 (fun v w => v = .int .i64 r ∧ St w0 [] w []) := by
  subst hn0_0
  unfold F_l_szObjS at h
  refine Ret.fn Tryz.func198 fun e => ?_
  have hS1 := St.start w0
  refine go ?_
  refine cd (fun hc1 => ?_) fun hc1 => ?_
  · replace h := bcT h hc1
    refine go ?_
    cases h
    exact fi hS1
  replace h := bcF h hc1
  refine go ?_
  obtain ⟨o26, ho26, h27⟩ := obind h
  refine CW.mono (CW.lx [0] [] [1] 0 (fun s2 => [(1, .int .i64 s2.1), (5, .int .i64 s2.2)]) (RT Tryz.prog Tryz.f198.results (fun u => .int .i64 u) w0 []) hS1 ho26 (hb := ?_)) ?_
  · intro s2 e w3 o hS2 h
    refine go ?_
    refine CW.fl [0, 1, 5, 15] fun e => ?_
    refine cd (fun hc4 => ?_) fun hc4 => ?_
    · replace h := bcT h hc4
      refine go ?_
      replace ⟨y5, hy5, h⟩ := obind h
      obtain ⟨b8, o9, cs10, hae, hb13, hp6, hq7, hd11, hk12⟩ := hr0_0.idx hy5
      subst hae
      obtain ⟨a14, c15, a17, c18, a20, c21, rfl, hr16, hr19, hr22⟩ := hd11
      refine LW.u (Pur.ix Tryz.underlying120 sz230 rfl rfl hp6 hq7) rfl ?_
      refine LW.l (Ldr.oldN w0 ag230 rfl rfl (fun j u hu => hk12 j u hu)) (hS2.same _ hb13.1 hb13.2) rfl ?_
      refine go ?_
      replace ⟨y23, hy23, h⟩ := obind h
      refine LW.c0 (W_l_szObj hy23 rfl (hS2.rB hr16) rfl (hS2.rB hr19) rfl (hS2.rB hr22)) hS2 fun w24 hS3 => ?_
      refine go ?_
      refine cd (fun hc25 => ?_) fun hc25 => ?_
      · replace h := bcT h hc25
        refine go ?_
        cases oi h
        exact ⟨trivial, rfl, _, rfl, ⟨_, Res.one (resOne.t rfl), rfl, hS3.pick [] rfl rfl⟩⟩
      replace h := bcF h hc25
      refine go ?_
      cases oi h
      exact ⟨rfl, ⟨⟨rfl, rfl, rfl, trivial⟩, hS3.pick [] rfl rfl⟩⟩
    replace h := bcF h hc4
    refine go ?_
    cases oi h
    exact ⟨trivial, rfl, ⟨⟨rfl, trivial⟩, hS2.pick [] rfl rfl⟩⟩
  intro x e w28 hM
  rcases o26 with o26 | r29
  · obtain ⟨rfl, hM⟩ := hM
    obtain ⟨hE, hS4⟩ := hM
    obtain ⟨e, rfl⟩ := hE.out
    have h := h27
    refine go ?_
    cases h
    exact fi hS4
  obtain ⟨rfl, u, rfl, hM⟩ := hM
  cases h27
  exact And.intro trivial hM

theorem W_l_toResS {w0 : World} {N : Nat} {x0 : List DRes} {r : (List DRes)} (h : F_l_toResS N x0 = some r) {a0_0 : Option Addr} {n0_0 c0_0 : Nat} (hn0_0 : n0_0 = x0.length) (hr0_0 : rdS (Bor w0 []) w0 a0_0 c0_0 x0) :
    Ret Tryz.prog 149 #[.slice a0_0 n0_0 c0_0] w0 (fun v w => ∃ ar0 cr0, v = .slice ar0 r.length cr0 ∧ St w0 [] w [sl ar0 cr0 r]) := by
  subst hn0_0
  unfold F_l_toResS at h
  refine Ret.fn Tryz.func149 fun e => ?_
  have hS1 := St.start w0
  refine go ?_
  replace ⟨y1, hy1, h⟩ := obind h
  refine LW.mk sT59 rfl rfl hy1 hS1 rfl ?_
  intro a2 c3 w4 hS2 hf
  refine go ?_
  obtain ⟨o26, ho26, h27⟩ := obind h
  refine CW.mono (CW.iter (σ := (List DRes) × Int) (ρ := (List DRes) × Int) (fun s5 e wb => En e [(0, .slice a0_0 x0.length c0_0), (3, .slice a2 s5.1.length c3), (4, .int .i64 s5.2)] ∧ St w0 [] wb [sl a2 c3 s5.1]) (fun s5 x e wb => x = .exit 0 ∧ En e [(3, .slice a2 s5.1.length c3)] ∧ St w0 [] wb [sl a2 c3 s5.1]) ?_ N (y1, 0) _ _ _ ⟨⟨rfl, rfl, rfl, trivial⟩, hS2.pick [0] rfl rfl⟩ ho26) ?_
  · intro s5 e w6 o hM h
    obtain ⟨hE, hS3⟩ := hM
    obtain ⟨e, rfl⟩ := hE.out
    refine go ?_
    refine cd (fun hc7 => ?_) fun hc7 => ?_
    · replace h := bcT h hc7
      refine go ?_
      replace ⟨y8, hy8, h⟩ := obind h
      obtain ⟨b11, o12, cs13, hae, hb16, hp9, hq10, hd14, hk15⟩ := hr0_0.idx hy8
      subst hae
      obtain rfl := hd14
      refine LW.u (Pur.ix Tryz.underlying119 sz209 rfl rfl hp9 hq10) rfl ?_
      refine LW.l (Ldr.oldN w0 ag209 rfl rfl (fun j u hu => hk15 j u hu)) (hS3.same _ hb16.1 hb16.2) rfl ?_
      replace ⟨y17, hy17, h⟩ := obind h
      refine LW.c0 (W_l_toRes hy17) hS3 fun w18 hS4 => ?_
      replace ⟨y19, hy19, h⟩ := obind h
      obtain ⟨b22, o23, hae, hp20, hq21⟩ := hS4.ownIdx (α := DRes) (i := 0) rfl hy19
      subst hae
      refine LW.u (Pur.ix Tryz.underlying59 sz138 rfl rfl hp20 hq21) rfl ?_
      replace ⟨y24, hy24, h⟩ := obind h
      refine LW.stE (M := []) (L := [sl (some ⟨b22, o23, none⟩) c3 s5.1]) (z := y19) (z' := y17) (o := 0) hS4 (i := 0) rfl hy19 ag138 rfl (by show _ = o23 + (s5.2 : Int).toNat * 5 + 0; omega) rfl rfl rfl rfl (whole (fun w G hG => by cases (show G = [] from hG); exact ⟨rfl, rfl⟩)) ?_
      intro w25 hS5 hf
      rw [Option.some.inj hy24] at hS5
      refine go ?_
      replace h := Option.some.inj h
      subst h
      exact ⟨rfl, ⟨⟨rfl, (show (.slice (some ⟨b22, o23, none⟩) s5.1.length c3 : Value) = .slice (some ⟨b22, o23, none⟩) y24.length c3 by rw [show s5.1.length = y24.length from (len_set (Option.some.inj hy24))]), rfl, trivial⟩, hS5.pick [0] rfl rfl⟩⟩
    replace h := bcF h hc7
    refine go ?_
    cases oi h
    exact ⟨trivial, rfl, ⟨⟨rfl, trivial⟩, hS3.pick [0] rfl rfl⟩⟩
  intro x e w28 hM
  obtain ⟨rfl, hM⟩ := hM
  obtain ⟨hE, hS6⟩ := hM
  obtain ⟨e, rfl⟩ := hE.out
  have h := h27
  refine go ?_
  cases h
  exact And.intro trivial ⟨_, Res.one (resOne.t rfl), a2, c3, rfl, hS6.pick [0] rfl rfl⟩

theorem W_l_toObj {w0 : World} {N : Nat} {x0 : DObj} {r : DObj} (h : F_l_toObj N x0 = some r) {a0_10 : Option Addr} {n0_10 c0_10 : Nat} (hn0_10 : n0_10 = x0.links.length) (hr0_10 : rdS (Bor w0 []) w0 a0_10 c0_10 x0.links) {a0_11 : Option Addr} {n0_11 c0_11 : Nat} (hn0_11 : n0_11 = x0.data.length) (hr0_11 : rdS (Bor w0 []) w0 a0_11 c0_11 x0.data) {a0_12 : Option Addr} {n0_12 c0_12 : Nat} (hn0_12 : n0_12 = x0.queue.length) (hr0_12 : rdS (Bor w0 []) w0 a0_12 c0_12 x0.queue) :
    Ret Tryz.prog 230 #[.agg #[.int .i64 x0.gen, .int .i64 x0.kind, .int .i64 x0.box, .int .i64 x0.res, .int .i64 x0.til, .int .i64 x0.pages, .int .i64 x0.wait, .int .i64 x0.got, .int .i64 x0.ran, .bool x0.mark, .slice a0_10 n0_10 c0_10, .slice a0_11 n0_11 c0_11, .slice a0_12 n0_12 c0_12]] w0 (fun v w => ∃ ar0_10 cr0_10, ∃ ar0_11 cr0_11, ∃ ar0_12 cr0_12, v = .agg #[.int .i64 r.gen, .int .i64 r.kind, .int .i64 r.box, .int .i64 r.res, .int .i64 r.til, .int .i64 r.pages, .int .i64 r.wait, .int .i64 r.got, .int .i64 r.ran, .bool r.mark, .slice ar0_10 r.links.length cr0_10, .slice ar0_11 r.data.length cr0_11, .slice ar0_12 r.queue.length cr0_12] ∧ St w0 [] w [sl ar0_10 cr0_10 r.links, sl ar0_11 cr0_11 r.data, sl ar0_12 cr0_12 r.queue]) := by
  subst hn0_10 hn0_11 hn0_12
  unfold F_l_toObj at h
  refine Ret.fn Tryz.func230 fun e => ?_
  have hS1 := St.start w0
  refine go ?_
  refine LW.bo hS1 fun g1 w2 hS2 => ?_
  refine LW.al hS2 fun g3 w4 hS3 => ?_
  refine go ?_
  refine LW.al hS3 fun g5 w6 hS4 => ?_
  refine go ?_
  refine LW.st hS4 0 fun w7 hS5 => ?_
  refine go ?_
  refine LW.st hS5 0 fun w8 hS6 => ?_
  refine go ?_
  refine LW.st hS6 0 fun w9 hS7 => ?_
  refine go ?_
  refine LW.st hS7 0 fun w10 hS8 => ?_
  refine go ?_
  refine LW.st hS8 0 fun w11 hS9 => ?_
  refine go ?_
  refine LW.fl [1, 2, 3, 20, 21] fun e => ?_
  refine LW.st hS9 0 fun w12 hS10 => ?_
  refine go ?_
  refine LW.st hS10 0 fun w13 hS11 => ?_
  refine go ?_
  refine LW.st hS11 0 fun w14 hS12 => ?_
  refine go ?_
  refine LW.st hS12 0 fun w15 hS13 => ?_
  refine go ?_
  refine LW.st hS13 0 fun w16 hS14 => ?_
  refine go ?_
  replace ⟨y17, hy17, h⟩ := obind h
  refine LW.cl (W_l_toIntS hy17 rfl (hS14.rB hr0_10)) ?_
  rintro _ w20 ⟨a18, c19, rfl, hs⟩
  have hS15 := hS14.add hs
  refine go ?_
  refine LW.st hS15 1 fun w21 hS16 => ?_
  refine go ?_
  replace ⟨y22, hy22, h⟩ := obind h
  refine LW.cl (W_l_toIntS hy22 rfl (hS16.rB hr0_11)) ?_
  rintro _ w25 ⟨a23, c24, rfl, hs⟩
  have hS17 := hS16.add hs
  refine go ?_
  refine LW.fl [1, 2, 3, 40, 41] fun e => ?_
  refine LW.st hS17 2 fun w26 hS18 => ?_
  refine go ?_
  replace ⟨y27, hy27, h⟩ := obind h
  refine LW.cl (W_l_toMsgS hy27 rfl (hS18.rB hr0_12)) ?_
  rintro _ w30 ⟨a28, c29, rfl, hs⟩
  have hS19 := hS18.add hs
  refine go ?_
  refine LW.st hS19 3 fun w31 hS20 => ?_
  refine go ?_
  refine LW.st hS20 4 fun w32 hS21 => ?_
  refine go ?_
  cases h
  exact And.intro trivial ⟨_, Res.one (resOne.b hS21 4 rfl ag104 rfl rfl), a18, c19, a23, c24, a28, c29, rfl, hS21.pick [2, 1, 0] rfl rfl⟩

theorem W_s_l10Copy {w0 : World} {N : Nat} {x0 : DHeap} {r : DHeap} (h : F_s_l10Copy N x0 = some r) {a0_0 : Option Addr} {n0_0 c0_0 : Nat} (hn0_0 : n0_0 = x0.arena.length) (hr0_0 : rdS (Bor w0 []) w0 a0_0 c0_0 x0.arena) {a0_4 : Option Addr} {n0_4 c0_4 : Nat} (hn0_4 : n0_4 = x0.gc.grey.length) (hr0_4 : rdS (Bor w0 []) w0 a0_4 c0_4 x0.gc.grey) :
    Ret Tryz.prog 135 #[.agg #[.slice a0_0 n0_0 c0_0, .int .i64 x0.gc.phase, .int .i64 x0.gc.pos, .int .i64 x0.gc.round, .slice a0_4 n0_4 c0_4]] w0 (fun v w => ∃ ar0_0 cr0_0, ∃ ar0_4 cr0_4, v = .agg #[.slice ar0_0 r.arena.length cr0_0, .int .i64 r.gc.phase, .int .i64 r.gc.pos, .int .i64 r.gc.round, .slice ar0_4 r.gc.grey.length cr0_4] ∧ St w0 [] w [sl ar0_0 cr0_0 r.arena, sl ar0_4 cr0_4 r.gc.grey]) := by
  subst hn0_0 hn0_4
  unfold F_s_l10Copy at h
  refine Ret.fn Tryz.func135 fun e => ?_
  have hS1 := St.start w0
  refine go ?_
  refine LW.bo hS1 fun g1 w2 hS2 => ?_
  refine LW.al hS2 fun g3 w4 hS3 => ?_
  refine go ?_
  refine LW.al hS3 fun g5 w6 hS4 => ?_
  refine LW.st hS4 0 fun w7 hS5 => ?_
  refine go ?_
  refine LW.bsl (α := Int) (vs := []) (cs := #[]) (l := ([] : List Int)) rfl (by kernel_rfl) rfl rfl rfl (fun w => rfl) hS5 rfl ?_
  intro a8 c9 w10 hS6 hf
  refine go ?_
  replace ⟨y11, hy11, h⟩ := obind h
  refine LW.appN (l := ([] : List Int)) (m := x0.gc.grey) sT52 rfl rfl (hS6.rB hr0_4) hy11 hS6 (i := 0) rfl rfl ?_
  intro a12 c13 w14 hS7 hf
  refine go ?_
  refine LW.st hS7 1 fun w15 hS8 => ?_
  refine go ?_
  refine CW.draw (by kernel_rfl) ?_
  have hS9 := hS8.drew
  refine go ?_
  replace ⟨y16, hy16, h⟩ := obind h
  have q := W_s_l8Copy (w0 := w15.drew) hy16 rfl (hS9.rB hr0_0)
  refine AW.one (i := 2) (by kernel_rfl) ?_
  refine ⟨_, rfl, ?_⟩
  refine LW.call pl200 rfl rfl ?_
  refine Ret.mono q ?_
  rintro _ w19 ⟨a17, c18, rfl, hs⟩
  have hS10 := hS9.add hs
  refine LW.nil ⟨rfl, (.c (St.cell (h := hS10) (i := 2) rfl) (.w (by kernel_rfl) Kept.n)), ?_⟩
  refine AW.u (i := 4) rfl (by kernel_rfl) rfl rfl (Pur.build (vs := [(0, .slice a17 y16.length c18), (1, .agg #[.int .i64 x0.gc.phase, .int .i64 x0.gc.pos, .int .i64 x0.gc.round, .slice a12 y11.length c13])]) (cs := #[.slice a17 y16.length c18, .int .i64 x0.gc.phase, .int .i64 x0.gc.pos, .int .i64 x0.gc.round, .slice a12 y11.length c13]) rfl (by kernel_rfl)) ?_
  refine AW.one (i := 5) (by kernel_rfl) ?_
  refine ⟨_, rfl, ?_⟩
  refine LW.st hS10 3 fun w20 hS11 => ?_
  refine LW.nil ⟨rfl, (.w (by kernel_rfl) (.w (by kernel_rfl) Kept.n)), ?_⟩
  refine go ?_
  cases h
  exact And.intro trivial ⟨_, Res.one (resOne.b hS11 3 rfl ag64 rfl rfl), a17, c18, a12, c13, rfl, hS11.pick [0, 1] rfl rfl⟩

theorem W_s_AmtOk {w0 : World} {N : Nat} {x0 : DAmt} {r : Bool} (h : F_s_AmtOk N x0 = some r) :
    Ret Tryz.prog 71 #[.agg #[.int .i64 x0.pages, .int .i64 x0.rent, .int .i64 x0.cpu]] w0 (fun v w => v = .bool r ∧ St w0 [] w []) := by
  unfold F_s_AmtOk at h
  refine Ret.fn Tryz.func71 fun e => ?_
  have hS1 := St.start w0
  refine go ?_
  refine LW.bo hS1 fun g1 w2 hS2 => ?_
  refine go ?_
  replace ⟨y3, hy3, h⟩ := obind h
  refine LW.c0 (W_s_l5In hy3) hS2 fun w4 hS3 => ?_
  refine go ?_
  rcases bcases y3 with hc5 | hc5
  · replace h := bcT h hc5
    refine go ?_
    replace ⟨y6, hy6, h⟩ := obind h
    refine go ?_
    refine LW.c0 (W_s_l5In hy6) hS3 fun w7 hS4 => ?_
    refine go ?_
    rcases bcases y6 with hc8 | hc8
    · replace h := bcT h hc8
      refine go ?_
      replace ⟨y9, hy9, h⟩ := obind h
      refine go ?_
      refine LW.c0 (W_s_l5In hy9) hS4 fun w10 hS5 => ?_
      refine go ?_
      cases h
      exact fi hS5
    replace h := bcF h hc8
    refine go ?_
    cases h
    exact fi hS4
  replace h := bcF h hc5
  refine go ?_
  cases h
  exact fi hS3

end Go.Kx
