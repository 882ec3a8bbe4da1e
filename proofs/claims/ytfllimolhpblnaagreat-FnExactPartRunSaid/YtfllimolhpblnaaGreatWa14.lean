/- Each call returns what the plain function says. Printed by drive.py. -/
import Derived.Test.YtfllimolhpblnaaGreatFa
import Derived.Test.YtfllimolhpblnaaGreatPu
import Derived.Test.YtfllimolhpblnaaGreatWa4
import Derived.Test.YtfllimolhpblnaaGreatWa5
import Derived.Test.YtfllimolhpblnaaGreatWa13
namespace Go.Kx
open Go Go.RowKit Go.Proofs
set_option maxRecDepth 10000
set_option maxHeartbeats 2000000
set_option linter.unusedVariables false
set_option linter.unusedSimpArgs false
theorem W_s_Reach {w0 : World} {N : Nat} {x0 : List DObj} {x1 : Int} {r : (List Bool)} (h : F_s_Reach N x0 x1 = some r) {a0_0 : Option Addr} {n0_0 c0_0 : Nat} (hn0_0 : n0_0 = x0.length) (hr0_0 : rdS (Bor w0 []) w0 a0_0 c0_0 x0) :
    Ret Tryz.prog 119 #[.slice a0_0 n0_0 c0_0, .int .i64 x1] w0 (fun v w => ∃ ar0 cr0, v = .slice ar0 r.length cr0 ∧ St w0 [] w [sl ar0 cr0 r]) := by
  subst hn0_0
  unfold F_s_Reach at h
  refine Ret.fn Tryz.func119 fun e => ?_
  have hS1 := St.start w0
  refine go ?_
  refine LW.bsl (α := Bool) (vs := []) (cs := #[]) (l := ([] : List Bool)) rfl (by kernel_rfl) rfl rfl rfl (fun w => rfl) hS1 rfl ?_
  intro a1 c2 w3 hS2 hf
  refine go ?_
  replace ⟨y4, hy4, h⟩ := obind h
  refine LW.c0 (W_s_ArenaOk hy4 rfl (hS2.rB hr0_0)) hS2 fun w5 hS3 => ?_
  refine go ?_
  refine CW.cond rfl (fun hc6 => ?_) (fun hc6 => ?_)
  · replace h := bcT h hc6
    refine go ?_
    cases h
    exact And.intro trivial ⟨_, Res.one (resOne.t rfl), a1, c2, rfl, hS3.pick [0] rfl rfl⟩
  replace h := bcF h hc6
  refine go ?_
  replace ⟨y7, hy7, h⟩ := obind h
  refine LW.mk sT140 rfl rfl hy7 hS3 rfl ?_
  intro a8 c9 w10 hS4 hf
  refine go ?_
  replace ⟨y11, hy11, h⟩ := obind h
  obtain ⟨b14, o15, hae, hp12, hq13⟩ := hS4.ownIdx (α := Bool) (i := 0) rfl hy11
  subst hae
  refine LW.u (Pur.ix Tryz.underlying140 sz4 rfl rfl hp12 hq13) rfl ?_
  replace ⟨y16, hy16, h⟩ := obind h
  refine LW.stE (M := []) (L := [sl (some ⟨b14, o15, none⟩) c9 y7, sl a1 c2 ([] : List Bool)]) (z := y11) (z' := true) (o := 0) hS4 (i := 0) rfl hy11 ag4 rfl (by show _ = o15 + (0 : Int).toNat * 1 + 0; omega) rfl rfl rfl rfl (whole (fun w G hG => by cases (show G = [] from hG); exact ⟨rfl, rfl⟩)) ?_
  intro w17 hS5 hf
  rw [Option.some.inj hy16] at hS5
  refine go ?_
  obtain ⟨o117, ho117, h118⟩ := obind h
  refine CW.mono (CW.iter (σ := (List Bool) × Int) (ρ := (List Bool) × Int) (fun s18 e wb => En e [(0, .slice a0_0 x0.length c0_0), (1, .int .i64 x1), (5, .slice (some ⟨b14, o15, none⟩) s18.1.length c9), (6, .int .i64 s18.2)] ∧ St w0 [] wb [sl (some ⟨b14, o15, none⟩) c9 s18.1]) (fun s18 x e wb => x = .exit 0 ∧ En e [(5, .slice (some ⟨b14, o15, none⟩) s18.1.length c9)] ∧ St w0 [] wb [sl (some ⟨b14, o15, none⟩) c9 s18.1]) ?_ N (y16, 0) _ _ _ ⟨⟨rfl, rfl, (show (.slice (some ⟨b14, o15, none⟩) y7.length c9 : Value) = .slice (some ⟨b14, o15, none⟩) y16.length c9 by rw [show y7.length = y16.length from (len_set (Option.some.inj hy16))]), rfl, trivial⟩, hS5.pick [0] rfl rfl⟩ ho117) ?_
  · intro s18 e w19 o hM h
    obtain ⟨hE, hS6⟩ := hM
    obtain ⟨e, rfl⟩ := hE.out
    refine go ?_
    refine CW.fl [0, 1, 5, 6, 19] fun e => ?_
    refine CW.cond rfl (fun hc20 => ?_) (fun hc20 => ?_)
    · replace h := bcT h hc20
      refine go ?_
      obtain ⟨o114, ho114, h115⟩ := obind h
      refine CW.mono (CW.iter (σ := (List Bool) × Int) (ρ := (List Bool) × Int) (fun s21 e wb => En e [(0, .slice a0_0 x0.length c0_0), (1, .int .i64 x1), (5, .slice (some ⟨b14, o15, none⟩) s21.1.length c9), (6, .int .i64 s18.2), (7, .int .i64 s21.2)] ∧ St w0 [] wb [sl (some ⟨b14, o15, none⟩) c9 s21.1]) (fun s21 x e wb => x = .exit 2 ∧ En e [(0, .slice a0_0 x0.length c0_0), (1, .int .i64 x1), (5, .slice (some ⟨b14, o15, none⟩) s21.1.length c9), (6, .int .i64 s18.2)] ∧ St w0 [] wb [sl (some ⟨b14, o15, none⟩) c9 s21.1]) ?_ N (s18.1, 0) _ _ _ ⟨⟨rfl, rfl, rfl, rfl, rfl, trivial⟩, hS6.pick [0] rfl rfl⟩ ho114) ?_
      · intro s21 e w22 o hM h
        obtain ⟨hE, hS7⟩ := hM
        obtain ⟨e, rfl⟩ := hE.out
        refine go ?_
        refine CW.cond rfl (fun hc23 => ?_) (fun hc23 => ?_)
        · replace h := bcT h hc23
          refine gs ?_
          refine CW.block ?_
          refine gs ?_
          obtain ⟨j24, hj24, h25⟩ := obind h
          refine CW.cut (fun e wb => En e [(0, .slice a0_0 x0.length c0_0), (1, .int .i64 x1), (5, .slice (some ⟨b14, o15, none⟩) s21.1.length c9), (6, .int .i64 s18.2), (7, .int .i64 s21.2), (44, .bool j24)] ∧ St w0 [] wb [sl (some ⟨b14, o15, none⟩) c9 s21.1]) ?_ ?_
          · have h := hj24
            refine go ?_
            replace ⟨y26, hy26, h⟩ := obind h
            obtain ⟨b29, o30, hae, hp27, hq28⟩ := hS7.ownIdx (α := Bool) (i := 0) rfl hy26
            cases hae
            refine LW.u (Pur.ix Tryz.underlying140 sz4 rfl rfl hp27 hq28) rfl ?_
            obtain ⟨F31, ho32, hS8⟩ := hS7.freeze (α := Bool) 0 rfl
            obtain ⟨b33, o34, cs35, hae, hb38, _, _, hd36, hk37⟩ := ho32.rdF.idx hy26
            cases hae
            obtain rfl := hd36
            refine LW.l (Ldr.old w22 ag4 rfl (hk37 0 _ rfl)) (hS8.zC 0 rfl hb38) rfl ?_
            refine go ?_
            rcases bcases (!y26) with hc39 | hc39
            · replace h := bcT h hc39
              refine go ?_
              have hS9 := hS8.thaw (α := Bool) 0 rfl ho32
              cases oi h
              exact ⟨⟨rfl, rfl, rfl, rfl, rfl, rfl, trivial⟩, hS9.pick [0] rfl rfl⟩
            replace h := bcF h hc39
            refine go ?_
            replace ⟨y40, hy40, h⟩ := obind h
            obtain ⟨b43, o44, cs45, hae, hb48, hp41, hq42, hd46, hk47⟩ := hr0_0.idx hy40
            subst hae
            obtain ⟨a49, c50, a52, c53, a55, c56, rfl, hr51, hr54, hr57⟩ := hd46
            refine go ?_
            refine LW.u (Pur.ix Tryz.underlying59 sz92 rfl rfl hp41 hq42) rfl ?_
            refine go ?_
            refine LW.l (Ldr.oldN w0 ag92 rfl rfl (fun j u hu => hk47 j u hu)) (hS8.same _ hb48.1 hb48.2) rfl ?_
            refine go ?_
            replace ⟨y58, hy58, h⟩ := obind h
            refine go ?_
            refine LW.c0 (W_s_Expired hy58 rfl (hS8.rB hr51) rfl (hS8.rB hr54) rfl (hS8.rB hr57)) hS8 fun w59 hS10 => ?_
            refine go ?_
            rcases bcases y58 with hc60 | hc60
            · replace h := bcT h hc60
              refine go ?_
              have hS11 := hS10.thaw (α := Bool) 0 rfl ho32
              cases oi h
              exact ⟨⟨rfl, rfl, rfl, rfl, rfl, rfl, trivial⟩, hS11.pick [0] rfl rfl⟩
            replace h := bcF h hc60
            refine go ?_
            have hS12 := hS10.thaw (α := Bool) 0 rfl ho32
            cases oi h
            exact ⟨⟨rfl, rfl, rfl, rfl, rfl, rfl, trivial⟩, hS12.pick [0] rfl rfl⟩
          rintro e w61 ⟨hE, hS13⟩
          obtain ⟨e, rfl⟩ := hE.out
          have h := h25
          refine go ?_
          refine CW.cond rfl (fun hc62 => ?_) (fun hc62 => ?_)
          · replace h := bcT h hc62
            refine go ?_
            cases oi h
            exact ⟨rfl, ⟨⟨rfl, rfl, rfl, rfl, rfl, trivial⟩, hS13.pick [0] rfl rfl⟩⟩
          replace h := bcF h hc62
          refine go ?_
          replace ⟨y63, hy63, h⟩ := obind h
          refine LW.cl (W_s_Edges hy63 rfl (hS13.rB hr0_0)) ?_
          rintro _ w66 ⟨a64, c65, rfl, hs⟩
          have hS14 := hS13.add hs
          refine go ?_
          obtain ⟨o111, ho111, h112⟩ := obind h
          refine CW.mono (CW.iter (σ := (List Bool) × Int) (ρ := (List Bool) × Int) (fun s67 e wb => En e [(0, .slice a0_0 x0.length c0_0), (1, .int .i64 x1), (5, .slice (some ⟨b14, o15, none⟩) s67.1.length c9), (6, .int .i64 s18.2), (7, .int .i64 s21.2), (8, .slice a64 y63.length c65), (9, .int .i64 s67.2)] ∧ St w0 [] wb [sl a64 c65 y63, sl (some ⟨b14, o15, none⟩) c9 s67.1]) (fun s67 x e wb => x = .exit 4 ∧ En e [(0, .slice a0_0 x0.length c0_0), (1, .int .i64 x1), (5, .slice (some ⟨b14, o15, none⟩) s67.1.length c9), (6, .int .i64 s18.2), (7, .int .i64 s21.2)] ∧ St w0 [] wb [sl a64 c65 y63, sl (some ⟨b14, o15, none⟩) c9 s67.1]) ?_ N (s21.1, 0) _ _ _ ⟨⟨rfl, rfl, rfl, rfl, rfl, rfl, rfl, trivial⟩, hS14.pick [0, 1] rfl rfl⟩ ho111) ?_
          · intro s67 e w68 o hM h
            obtain ⟨hE, hS15⟩ := hM
            obtain ⟨e, rfl⟩ := hE.out
            refine go ?_
            refine CW.fl [0, 1, 5, 6, 7, 8, 9, 51] fun e => ?_
            refine CW.cond rfl (fun hc69 => ?_) (fun hc69 => ?_)
            · replace h := bcT h hc69
              refine go ?_
              replace ⟨y70, hy70, h⟩ := obind h
              obtain ⟨b73, o74, hae, hp71, hq72⟩ := hS15.ownIdx (α := Int) (i := 0) rfl hy70
              subst hae
              refine LW.u (Pur.ix Tryz.underlying28 sz3 rfl rfl hp71 hq72) rfl ?_
              obtain ⟨F75, ho76, hS16⟩ := hS15.freeze (α := Int) 0 rfl
              obtain ⟨b77, o78, cs79, hae, hb82, _, _, hd80, hk81⟩ := ho76.rdF.idx hy70
              cases hae
              obtain rfl := hd80
              refine LW.l (Ldr.old w68 ag3 rfl (hk81 0 _ rfl)) (hS16.zC 0 rfl hb82) rfl ?_
              replace ⟨y83, hy83, h⟩ := obind h
              obtain ⟨b86, o87, cs88, hae, hb91, hp84, hq85, hd89, hk90⟩ := hr0_0.idx hy83
              subst hae
              obtain ⟨a92, c93, a95, c96, a98, c99, rfl, hr94, hr97, hr100⟩ := hd89
              refine LW.u (Pur.ix Tryz.underlying59 sz92 rfl rfl hp84 hq85) rfl ?_
              refine LW.l (Ldr.oldN w0 ag92 rfl rfl (fun j u hu => hk90 j u hu)) (hS16.same _ hb91.1 hb91.2) rfl ?_
              refine go ?_
              replace ⟨y101, hy101, h⟩ := obind h
              refine LW.c0 (W_s_Expired hy101 rfl (hS16.rB hr94) rfl (hS16.rB hr97) rfl (hS16.rB hr100)) hS16 fun w102 hS17 => ?_
              refine go ?_
              refine CW.fl [0, 1, 5, 6, 7, 8, 9, 63] fun e => ?_
              refine CW.cond rfl (fun hc103 => ?_) (fun hc103 => ?_)
              · replace h := bcT h hc103
                refine go ?_
                refine LW.u (Pur.ix Tryz.underlying28 sz3 rfl rfl hp71 hq72) rfl ?_
                refine LW.l (Ldr.old w68 ag3 rfl (hk81 0 _ rfl)) (hS17.zC 0 rfl hb82) rfl ?_
                replace ⟨y104, hy104, h⟩ := obind h
                obtain ⟨b107, o108, hae, hp105, hq106⟩ := hS17.ownIdx (α := Bool) (i := 1) rfl hy104
                cases hae
                refine LW.u (Pur.ix Tryz.underlying140 sz4 rfl rfl hp105 hq106) rfl ?_
                replace ⟨y109, hy109, h⟩ := obind h
                refine LW.stE (M := []) (L := [fz w68 F75, sl (some ⟨b14, o15, none⟩) c9 s67.1]) (z := y104) (z' := true) (o := 0) hS17 (i := 1) rfl hy104 ag4 rfl (by show _ = o15 + (y70 : Int).toNat * 1 + 0; omega) rfl rfl rfl rfl (whole (fun w G hG => by cases (show G = [] from hG); exact ⟨rfl, rfl⟩)) ?_
                intro w110 hS18 hf
                rw [Option.some.inj hy109] at hS18
                refine go ?_
                replace h := Option.some.inj h
                subst h
                have hS19 := hS18.thaw (α := Int) 0 rfl ho76
                exact ⟨rfl, ⟨⟨rfl, rfl, (show (.slice (some ⟨b14, o15, none⟩) s67.1.length c9 : Value) = .slice (some ⟨b14, o15, none⟩) y109.length c9 by rw [show s67.1.length = y109.length from (len_set (Option.some.inj hy109))]), rfl, rfl, rfl, rfl, trivial⟩, hS19.pick [0, 1] rfl rfl⟩⟩
              replace h := bcF h hc103
              refine go ?_
              have hS20 := hS17.thaw (α := Int) 0 rfl ho76
              cases oi h
              exact ⟨rfl, ⟨⟨rfl, rfl, rfl, rfl, rfl, rfl, rfl, trivial⟩, hS20.pick [0, 1] rfl rfl⟩⟩
            replace h := bcF h hc69
            refine go ?_
            cases oi h
            exact ⟨trivial, rfl, ⟨⟨rfl, rfl, rfl, rfl, rfl, trivial⟩, hS15.pick [0, 1] rfl rfl⟩⟩
          intro x e w113 hM
          obtain ⟨rfl, hM⟩ := hM
          obtain ⟨hE, hS21⟩ := hM
          obtain ⟨e, rfl⟩ := hE.out
          have h := h112
          refine go ?_
          cases oi h
          exact ⟨rfl, ⟨⟨rfl, rfl, rfl, rfl, rfl, trivial⟩, hS21.pick [1] rfl rfl⟩⟩
        replace h := bcF h hc23
        refine go ?_
        cases oi h
        exact ⟨trivial, rfl, ⟨⟨rfl, rfl, rfl, rfl, trivial⟩, hS7.pick [0] rfl rfl⟩⟩
      intro x e w116 hM
      obtain ⟨rfl, hM⟩ := hM
      obtain ⟨hE, hS22⟩ := hM
      obtain ⟨e, rfl⟩ := hE.out
      have h := h115
      refine go ?_
      cases oi h
      exact ⟨rfl, ⟨⟨rfl, rfl, rfl, rfl, trivial⟩, hS22.pick [0] rfl rfl⟩⟩
    replace h := bcF h hc20
    refine go ?_
    cases oi h
    exact ⟨trivial, rfl, ⟨⟨rfl, trivial⟩, hS6.pick [0] rfl rfl⟩⟩
  intro x e w119 hM
  obtain ⟨rfl, hM⟩ := hM
  obtain ⟨hE, hS23⟩ := hM
  obtain ⟨e, rfl⟩ := hE.out
  have h := h118
  refine go ?_
  cases h
  exact And.intro trivial ⟨_, Res.one (resOne.t rfl), (some ⟨b14, o15, none⟩), c9, rfl, hS23.pick [0] rfl rfl⟩

theorem W_i_Reach {w0 : World} {N : Nat} {x0 : List DObj} {x1 : Int} {r : (List Bool)} (h : F_i_Reach N x0 x1 = some r) {a0_0 : Option Addr} {n0_0 c0_0 : Nat} (hn0_0 : n0_0 = x0.length) (hr0_0 : rdS (Bor w0 []) w0 a0_0 c0_0 x0) :
    Ret Tryz.prog 121 #[.slice a0_0 n0_0 c0_0, .int .i64 x1] w0 (fun v w => ∃ ar0 cr0, v = .slice ar0 r.length cr0 ∧ St w0 [] w [sl ar0 cr0 r]) := by
  subst hn0_0
  unfold F_i_Reach at h
  refine Ret.fn Tryz.func121 fun e => ?_
  have hS1 := St.start w0
  refine go ?_
  replace ⟨y1, hy1, h⟩ := obind h
  refine LW.c0 (W_i_ArenaOk hy1 rfl (hS1.rB hr0_0)) hS1 fun w2 hS2 => ?_
  refine go ?_
  refine CW.cond rfl (fun hc3 => ?_) (fun hc3 => ?_)
  · replace h := bcT h hc3
    refine go ?_
    cases h
    have hS3 := hS2.nil (α := Bool)
    exact And.intro trivial ⟨_, Res.one (resOne.t rfl), none, 0, rfl, hS3.pick [0] rfl rfl⟩
  replace h := bcF h hc3
  refine go ?_
  replace ⟨y4, hy4, h⟩ := obind h
  refine LW.mk sT140 rfl rfl hy4 hS2 rfl ?_
  intro a5 c6 w7 hS4 hf
  refine go ?_
  replace ⟨y8, hy8, h⟩ := obind h
  obtain ⟨b11, o12, hae, hp9, hq10⟩ := hS4.ownIdx (α := Bool) (i := 0) rfl hy8
  subst hae
  refine LW.u (Pur.ix Tryz.underlying140 sz4 rfl rfl hp9 hq10) rfl ?_
  replace ⟨y13, hy13, h⟩ := obind h
  refine LW.stE (M := []) (L := [sl (some ⟨b11, o12, none⟩) c6 y4]) (z := y8) (z' := true) (o := 0) hS4 (i := 0) rfl hy8 ag4 rfl (by show _ = o12 + (0 : Int).toNat * 1 + 0; omega) rfl rfl rfl rfl (whole (fun w G hG => by cases (show G = [] from hG); exact ⟨rfl, rfl⟩)) ?_
  intro w14 hS5 hf
  rw [Option.some.inj hy13] at hS5
  refine go ?_
  refine LW.bsl (α := Int) (vs := [(0, .int .i64 0)]) (cs := #[.int .i64 0]) (l := ([0] : List Int)) rfl (by kernel_rfl) rfl rfl rfl (fun w => ⟨[.int .i64 0], [], [], [], rfl, rfl, ⟨rfl, rfl⟩, rfl⟩) hS5 rfl ?_
  intro a15 c16 w17 hS6 hf
  refine go ?_
  obtain ⟨o114, ho114, h115⟩ := obind h
  refine CW.mono (CW.iter (σ := (List Bool) × (List Int)) (ρ := (List Bool) × (List Int)) (fun s18 e wb => ∃ (s18a0 : Option Addr), ∃ (s18c0 : Nat), En e [(0, .slice a0_0 x0.length c0_0), (1, .int .i64 x1), (5, .slice (some ⟨b11, o12, none⟩) s18.1.length c6), (6, .slice s18a0 s18.2.length s18c0)] ∧ St w0 [] wb [sl s18a0 s18c0 s18.2, sl (some ⟨b11, o12, none⟩) c6 s18.1]) (fun s18 x e wb => x = .exit 0 ∧ ∃ (s18a0 : Option Addr), ∃ (s18c0 : Nat), En e [(5, .slice (some ⟨b11, o12, none⟩) s18.1.length c6)] ∧ St w0 [] wb [sl s18a0 s18c0 s18.2, sl (some ⟨b11, o12, none⟩) c6 s18.1]) ?_ N (y13, ([0] : List Int)) _ _ _ ⟨a15, c16, ⟨rfl, rfl, (show (.slice (some ⟨b11, o12, none⟩) y4.length c6 : Value) = .slice (some ⟨b11, o12, none⟩) y13.length c6 by rw [show y4.length = y13.length from (len_set (Option.some.inj hy13))]), rfl, trivial⟩, hS6.pick [0, 1] rfl rfl⟩ ho114) ?_
  · intro s18 e w19 o hM h
    obtain ⟨s18a0, s18c0, hE, hS7⟩ := hM
    obtain ⟨e, rfl⟩ := hE.out
    refine go ?_
    refine CW.fl [0, 1, 5, 6, 19] fun e => ?_
    refine CW.cond rfl (fun hc20 => ?_) (fun hc20 => ?_)
    · replace h := bcT h hc20
      refine go ?_
      replace ⟨y21, hy21, h⟩ := obind h
      obtain ⟨b24, o25, hae, hp22, hq23⟩ := hS7.ownIdx (α := Int) (i := 0) rfl hy21
      subst hae
      refine LW.u (Pur.ix Tryz.underlying28 sz3 rfl rfl hp22 hq23) rfl ?_
      obtain ⟨F26, ho27, hS8⟩ := hS7.freeze (α := Int) 0 rfl
      obtain ⟨b28, o29, cs30, hae, hb33, _, _, hd31, hk32⟩ := ho27.rdF.idx hy21
      cases hae
      obtain rfl := hd31
      refine LW.l (Ldr.old w19 ag3 rfl (hk32 0 _ rfl)) (hS8.zC 0 rfl hb33) rfl ?_
      refine go ?_
      have hS9 := hS8.thaw (α := Int) 0 rfl ho27
      replace ⟨y34, hy34, h⟩ := obind h
      obtain ⟨hle40, a35, c36, he37, he38, hS10⟩ := hS9.sub' (α := Int) 0 rfl hy34
      refine LW.u (Pur.sub (α := Int) (l := s18.2) Tryz.underlying28 sz3 rfl (bndS rfl) bndN hy34 hle40 he37 he38) rfl ?_
      refine go ?_
      replace ⟨y41, hy41, h⟩ := obind h
      refine LW.cl (W_i_edgesOf hy41 rfl (hS10.rB hr0_0)) ?_
      rintro _ w44 ⟨a42, c43, rfl, hs⟩
      have hS11 := hS10.add hs
      refine go ?_
      obtain ⟨o111, ho111, h112⟩ := obind h
      refine CW.mono (CW.iter (σ := (List Bool) × (List Int) × Int) (ρ := (List Bool) × (List Int) × Int) (fun s45 e wb => ∃ (s45a0 : Option Addr), ∃ (s45c0 : Nat), En e [(0, .slice a0_0 x0.length c0_0), (1, .int .i64 x1), (5, .slice (some ⟨b11, o12, none⟩) s45.1.length c6), (6, .slice s45a0 s45.2.1.length s45c0), (27, .slice a42 y41.length c43), (28, .int .i64 (y41.length : Int)), (29, .int .i64 s45.2.2)] ∧ St w0 [] wb [sl a42 c43 y41, sl s45a0 s45c0 s45.2.1, sl (some ⟨b11, o12, none⟩) c6 s45.1]) (fun s45 x e wb => x = .exit 2 ∧ ∃ (s45a0 : Option Addr), ∃ (s45c0 : Nat), En e [(0, .slice a0_0 x0.length c0_0), (1, .int .i64 x1), (5, .slice (some ⟨b11, o12, none⟩) s45.1.length c6), (6, .slice s45a0 s45.2.1.length s45c0)] ∧ St w0 [] wb [sl a42 c43 y41, sl s45a0 s45c0 s45.2.1, sl (some ⟨b11, o12, none⟩) c6 s45.1]) ?_ N (s18.1, y34, 0) _ _ _ ⟨a35, c36, ⟨rfl, rfl, rfl, rfl, rfl, rfl, rfl, trivial⟩, hS11.pick [0, 1, 2] rfl rfl⟩ ho111) ?_
      · intro s45 e w46 o hM h
        obtain ⟨s45a0, s45c0, hE, hS12⟩ := hM
        obtain ⟨e, rfl⟩ := hE.out
        refine go ?_
        refine CW.fl [0, 1, 5, 6, 27, 28, 29, 30] fun e => ?_
        refine CW.cond rfl (fun hc47 => ?_) (fun hc47 => ?_)
        · replace h := bcT h hc47
          refine go ?_
          replace ⟨y48, hy48, h⟩ := obind h
          obtain ⟨b51, o52, hae, hp49, hq50⟩ := hS12.ownIdx (α := Int) (i := 0) rfl hy48
          subst hae
          refine LW.u (Pur.ix Tryz.underlying28 sz3 rfl rfl hp49 hq50) rfl ?_
          obtain ⟨F53, ho54, hS13⟩ := hS12.freeze (α := Int) 0 rfl
          obtain ⟨b55, o56, cs57, hae, hb60, _, _, hd58, hk59⟩ := ho54.rdF.idx hy48
          cases hae
          obtain rfl := hd58
          refine LW.l (Ldr.old w46 ag3 rfl (hk59 0 _ rfl)) (hS13.zC 0 rfl hb60) rfl ?_
          refine gs ?_
          obtain ⟨j61, hj61, h62⟩ := obind h
          refine CW.cut (fun e wb => En e [(0, .slice a0_0 x0.length c0_0), (1, .int .i64 x1), (5, .slice (some ⟨b11, o12, none⟩) s45.1.length c6), (6, .slice s45a0 s45.2.1.length s45c0), (9, .int .i64 y48), (27, .slice (some ⟨b51, o52, none⟩) y41.length c43), (28, .int .i64 (y41.length : Int)), (29, .int .i64 s45.2.2), (46, .bool j61)] ∧ St w0 [] wb [fz w46 F53, sl s45a0 s45c0 s45.2.1, sl (some ⟨b11, o12, none⟩) c6 s45.1]) ?_ ?_
          · have h := hj61
            refine go ?_
            replace ⟨y63, hy63, h⟩ := obind h
            obtain ⟨b66, o67, hae, hp64, hq65⟩ := hS13.ownIdx (α := Bool) (i := 2) rfl hy63
            cases hae
            refine LW.u (Pur.ix Tryz.underlying140 sz4 rfl rfl hp64 hq65) rfl ?_
            obtain ⟨F68, ho69, hS14⟩ := hS13.freeze (α := Bool) 2 rfl
            obtain ⟨b70, o71, cs72, hae, hb75, _, _, hd73, hk74⟩ := ho69.rdF.idx hy63
            cases hae
            obtain rfl := hd73
            refine LW.l (Ldr.old w46 ag4 rfl (hk74 0 _ rfl)) (hS14.zC 2 rfl hb75) rfl ?_
            refine go ?_
            rcases bcases (!y63) with hc76 | hc76
            · replace h := bcT h hc76
              refine go ?_
              replace ⟨y77, hy77, h⟩ := obind h
              obtain ⟨b80, o81, cs82, hae, hb85, hp78, hq79, hd83, hk84⟩ := hr0_0.idx hy77
              subst hae
              obtain ⟨a86, c87, a89, c90, a92, c93, rfl, hr88, hr91, hr94⟩ := hd83
              refine go ?_
              refine LW.u (Pur.ix Tryz.underlying59 sz92 rfl rfl hp78 hq79) rfl ?_
              refine go ?_
              refine LW.l (Ldr.oldN w0 ag92 rfl rfl (fun j u hu => hk84 j u hu)) (hS14.same _ hb85.1 hb85.2) rfl ?_
              refine go ?_
              replace ⟨y95, hy95, h⟩ := obind h
              refine go ?_
              refine LW.c0 (W_i_Expired hy95 rfl (hS14.rB hr88) rfl (hS14.rB hr91) rfl (hS14.rB hr94)) hS14 fun w96 hS15 => ?_
              refine go ?_
              have hS16 := hS15.thaw (α := Bool) 2 rfl ho69
              cases oi h
              exact ⟨⟨rfl, rfl, rfl, rfl, rfl, rfl, rfl, rfl, rfl, trivial⟩, hS16.pick [0, 1, 2] rfl rfl⟩
            replace h := bcF h hc76
            refine go ?_
            have hS17 := hS14.thaw (α := Bool) 2 rfl ho69
            cases oi h
            exact ⟨⟨rfl, rfl, rfl, rfl, rfl, rfl, rfl, rfl, rfl, trivial⟩, hS17.pick [0, 1, 2] rfl rfl⟩
          rintro e w97 ⟨hE, hS18⟩
          obtain ⟨e, rfl⟩ := hE.out
          have h := h62
          refine go ?_
          refine CW.cond rfl (fun hc98 => ?_) (fun hc98 => ?_)
          · replace h := bcT h hc98
            refine go ?_
            replace ⟨y99, hy99, h⟩ := obind h
            obtain ⟨b102, o103, hae, hp100, hq101⟩ := hS18.ownIdx (α := Bool) (i := 2) rfl hy99
            cases hae
            refine LW.u (Pur.ix Tryz.underlying140 sz4 rfl rfl hp100 hq101) rfl ?_
            replace ⟨y104, hy104, h⟩ := obind h
            refine LW.stE (M := []) (L := [fz w46 F53, sl s45a0 s45c0 s45.2.1, sl (some ⟨b11, o12, none⟩) c6 s45.1]) (z := y99) (z' := true) (o := 0) hS18 (i := 2) rfl hy99 ag4 rfl (by show _ = o12 + (y48 : Int).toNat * 1 + 0; omega) rfl rfl rfl rfl (whole (fun w G hG => by cases (show G = [] from hG); exact ⟨rfl, rfl⟩)) ?_
            intro w105 hS19 hf
            rw [Option.some.inj hy104] at hS19
            refine go ?_
            replace ⟨y106, hy106, h⟩ := obind h
            refine LW.app1 (M := []) (L := [fz w46 F53, sl s45a0 s45c0 s45.2.1, sl (some ⟨b11, o12, none⟩) c6 y104]) (vs := #[.int .i64 y48]) (i := 1) sT28 rfl (by kernel_rfl) rfl rfl hy106 hS19 rfl (fun w G hG => by cases (show G = [] from hG); exact ⟨rfl, rfl⟩) rfl rfl ?_
            intro v109 a107 c108 w110 hS20 hf
            refine go ?_
            replace h := Option.some.inj h
            subst h
            have hS21 := hS20.thaw (α := Int) 0 rfl ho54
            exact ⟨rfl, ⟨a107, c108, ⟨rfl, rfl, (show (.slice (some ⟨b11, o12, none⟩) s45.1.length c6 : Value) = .slice (some ⟨b11, o12, none⟩) y104.length c6 by rw [show s45.1.length = y104.length from (len_set (Option.some.inj hy104))]), rfl, rfl, rfl, rfl, trivial⟩, hS21.pick [0, 1, 2] rfl rfl⟩⟩
          replace h := bcF h hc98
          refine go ?_
          have hS22 := hS18.thaw (α := Int) 0 rfl ho54
          cases oi h
          exact ⟨rfl, ⟨s45a0, s45c0, ⟨rfl, rfl, rfl, rfl, rfl, rfl, rfl, trivial⟩, hS22.pick [0, 1, 2] rfl rfl⟩⟩
        replace h := bcF h hc47
        refine go ?_
        cases oi h
        exact ⟨trivial, rfl, ⟨s45a0, s45c0, ⟨rfl, rfl, rfl, rfl, trivial⟩, hS12.pick [0, 1, 2] rfl rfl⟩⟩
      intro x e w113 hM
      obtain ⟨rfl, hM⟩ := hM
      obtain ⟨s45a0, s45c0, hE, hS23⟩ := hM
      obtain ⟨e, rfl⟩ := hE.out
      have h := h112
      cases oi h
      exact ⟨rfl, ⟨s45a0, s45c0, ⟨rfl, rfl, rfl, rfl, trivial⟩, hS23.pick [1, 2] rfl rfl⟩⟩
    replace h := bcF h hc20
    refine go ?_
    cases oi h
    exact ⟨trivial, rfl, ⟨s18a0, s18c0, ⟨rfl, trivial⟩, hS7.pick [0, 1] rfl rfl⟩⟩
  intro x e w116 hM
  obtain ⟨rfl, hM⟩ := hM
  obtain ⟨s18a0, s18c0, hE, hS24⟩ := hM
  obtain ⟨e, rfl⟩ := hE.out
  have h := h115
  refine go ?_
  cases h
  exact And.intro trivial ⟨_, Res.one (resOne.t rfl), (some ⟨b11, o12, none⟩), c6, rfl, hS24.pick [1] rfl rfl⟩

end Go.Kx
