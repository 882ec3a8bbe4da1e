/- Each call returns what the plain function says. Printed by drive.py. -/
import Derived.Test.YtljikolgijlbeaaGreatFa
import Derived.Test.YtljikolgijlbeaaGreatPu
import Derived.Test.YtljikolgijlbeaaGreatWa7
import Derived.Test.YtljikolgijlbeaaGreatWa8
import Derived.Test.YtljikolgijlbeaaGreatWa9
namespace Go.Kx
open Go Go.RowKit Go.Proofs
set_option maxRecDepth 10000
set_option maxHeartbeats 8000000
set_option linter.unusedVariables false
set_option linter.unusedSimpArgs false
theorem W_i_TapMove {w0 : World} {N : Nat} {x0 : List DTree} {x1 : Int} {x2 : DTap} {r : (List DTree) × Int} (h : F_i_TapMove N x0 x1 x2 = some r) {a0_0 : Option Addr} {n0_0 c0_0 : Nat} (hn0_0 : n0_0 = x0.length) (hr0_0 : rdS (Bor w0 []) w0 a0_0 c0_0 x0) :
    Ret Tryz.prog 39 #[.slice a0_0 n0_0 c0_0, .int .i64 x1, .agg #[.int .i64 x2.res, .int .i64 x2.toPart, .int .i64 x2.toRes, .int .i64 x2.which, .int .i64 x2.kind, .int .i64 x2.rate]] w0 (fun v w => ∃ ar0 cr0, v = .tuple #[.slice ar0 r.1.length cr0, .int .i64 r.2] ∧ St w0 [] w [sl ar0 cr0 r.1]) := by
  subst hn0_0
  unfold F_i_TapMove at h
  refine Ret.fn Tryz.func39 fun e => ?_
  have hS1 := St.start w0
  refine go ?_
  refine LW.bo hS1 fun g1 w2 hS2 => ?_
  refine go ?_
  replace ⟨y3, hy3, h⟩ := obind h
  refine LW.cl (W_i_copyTrees hy3 rfl (hS2.rB hr0_0)) ?_
  rintro _ w6 ⟨a4, c5, rfl, hs⟩
  have hS3 := hS2.add hs
  refine go ?_
  obtain ⟨o28, ho28, h29⟩ := obind h
  refine CW.mono (CW.lx [0, 1, 5, 8, 18, 19] [0, 1] [0, 1, 5, 8] 0 (fun s7 => [(20, .int .i64 s7)]) (fun r x e wb => x = .ret ∧ ∃ u, u = r ∧ ∃ v, Res Tryz.prog Tryz.f39.results e wb v ∧ ∃ ar0 cr0, v = .tuple #[.slice ar0 u.1.length cr0, .int .i64 u.2] ∧ St w0 [] wb [sl ar0 cr0 u.1]) hS3 ho28 (hb := ?_)) ?_
  · intro s7 e w8 o hS4 h
    refine go ?_
    refine cd (fun hc9 => ?_) fun hc9 => ?_
    · replace h := bcT h hc9
      refine go ?_
      replace ⟨y10, hy10, h⟩ := obind h
      obtain ⟨b13, o14, cs15, hae, hb18, hp11, hq12, hd16, hk17⟩ := hr0_0.idx hy10
      subst hae
      obtain ⟨a19, c20, rfl, hr21⟩ := hd16
      refine LW.u (Pur.ix Tryz.underlying76 sz78 rfl rfl hp11 hq12) rfl ?_
      refine LW.l (Ldr.oldN w0 ag78 rfl rfl (fun j u hu => hk17 j u hu)) (hS4.same _ hb18.1 hb18.2) rfl ?_
      refine LW.al hS4 fun g22 w23 hS5 => ?_
      refine LW.st hS5 0 fun w24 hS6 => ?_
      refine go ?_
      replace ⟨y25, hy25, h⟩ := obind h
      refine LW.c0 (W_i_TreeOk hy25 rfl (hS6.rB hr21)) hS6 fun w26 hS7 => ?_
      refine go ?_
      refine CW.fl [0, 1, 5, 8, 18, 19, 20, 27] fun e => ?_
      refine cd (fun hc27 => ?_) fun hc27 => ?_
      · replace h := bcT h hc27
        refine go ?_
        cases oi h
        exact ⟨trivial, rfl, _, rfl, ⟨_, Res.two (resOne.t rfl) (resOne.t rfl), a4, c5, rfl, hS7.pick [1] rfl rfl⟩⟩
      replace h := bcF h hc27
      refine go ?_
      cases oi h
      exact ⟨rfl, ⟨⟨rfl, rfl, rfl, rfl, rfl, rfl, rfl, trivial⟩, hS7.pick [1, 2] rfl rfl⟩⟩
    replace h := bcF h hc9
    refine go ?_
    cases oi h
    exact ⟨trivial, rfl, ⟨⟨rfl, rfl, rfl, rfl, trivial⟩, hS4.pick [0, 1] rfl rfl⟩⟩
  intro x e w30 hM
  rcases o28 with o28 | r134
  · obtain ⟨rfl, hM⟩ := hM
    obtain ⟨hE, hS8⟩ := hM
    obtain ⟨e, rfl⟩ := hE.out
    have h := h29
    refine gs ?_
    obtain ⟨j31, hj31, h32⟩ := obind h
    refine CW.jn [0, 1, 5, 8] [0, 1] [(63, .bool j31)] hS8 (h1 := ?_) (h2 := ?_)
    · have h := hj31
      refine CW.draw (by kernel_rfl) ?_
      have hS9 := hS8.drew
      refine go ?_
      rcases bcases (decide ((x0.length : Int) > 3)) with hc33 | hc33
      · replace h := bcT h hc33
        refine go ?_
        cases oi h
        exact ⟨⟨rfl, rfl, rfl, rfl, rfl, trivial⟩, hS9.pick [0, 1] rfl rfl⟩
      replace h := bcF h hc33
      refine go ?_
      replace ⟨y34, hy34, h⟩ := obind h
      have q := W_i_TapOk (w0 := w30.drew) hy34
      refine AW.one (i := 5) (by kernel_rfl) ?_
      refine ⟨_, rfl, ?_⟩
      refine (LW.gY (want_of rfl rfl hc33) ?_)
      refine LW.call pl90 rfl rfl ?_
      refine Ret.mono q ?_
      rintro _ w35 ⟨rfl, hs⟩
      have hS10 := hS9.add hs
      refine LW.nil ⟨rfl, (.w (by kernel_rfl) Kept.n), ?_⟩
      refine go ?_
      rcases bcases (!y34) with hc36 | hc36
      · replace h := bcT h hc36
        refine go ?_
        cases oi h
        exact ⟨⟨rfl, rfl, rfl, rfl, rfl, trivial⟩, hS10.pick [0, 1] rfl rfl⟩
      replace h := bcF h hc36
      refine go ?_
      replace ⟨y37, hy37, h⟩ := obind h
      have q := W_i_within (w0 := w35) hy37
      refine AW.one (i := 13) (by kernel_rfl) ?_
      refine ⟨_, rfl, ?_⟩
      refine (LW.gY (want_of rfl rfl hc36) ?_)
      refine LW.call pl54 rfl rfl ?_
      refine Ret.mono q ?_
      rintro _ w38 ⟨rfl, hs⟩
      have hS11 := hS10.add hs
      refine LW.nil ⟨rfl, (.c (St.cell (h := hS11) (i := 1) rfl) Kept.n), ?_⟩
      refine go ?_
      rcases bcases (!y37) with hc39 | hc39
      · replace h := bcT h hc39
        refine go ?_
        cases oi h
        exact ⟨⟨rfl, rfl, rfl, rfl, rfl, trivial⟩, hS11.pick [0, 1] rfl rfl⟩
      replace h := bcF h hc39
      refine go ?_
      rcases bcases (decide (x2.toPart ≥ (x0.length : Int))) with hc40 | hc40
      · replace h := bcT h hc40
        refine go ?_
        cases oi h
        exact ⟨⟨rfl, rfl, rfl, rfl, rfl, trivial⟩, hS11.pick [0, 1] rfl rfl⟩
      replace h := bcF h hc40
      refine go ?_
      replace ⟨y41, hy41, h⟩ := obind h
      obtain ⟨b44, o45, cs46, hae, hb49, hp42, hq43, hd47, hk48⟩ := hr0_0.idx hy41
      subst hae
      obtain ⟨a50, c51, rfl, hr52⟩ := hd47
      refine AW.u (i := 26) rfl (by kernel_rfl) (want_of rfl rfl hc40) rfl (Pur.ix Tryz.underlying76 sz78 rfl rfl hp42 hq43) ?_
      refine go ?_
      refine AW.take (i := 28) rfl (by kernel_rfl) (want_of rfl rfl hc40) rfl (Ldr.old w0 ag59 rfl (hk48 0 _ rfl)) (hS11.same _ hb49.1 hb49.2) ?_
      refine go ?_
      replace ⟨y53, hy53, h⟩ := obind h
      have q := W_i_isLive (w0 := w38) hy53 rfl (hS11.rB hr52)
      refine AW.one (i := 31) (by kernel_rfl) ?_
      refine ⟨_, rfl, ?_⟩
      refine (LW.gY (want_of rfl rfl hc40) ?_)
      refine LW.call pl91 rfl rfl ?_
      refine Ret.mono q ?_
      rintro _ w54 ⟨rfl, hs⟩
      have hS12 := hS11.add hs
      refine LW.nil ⟨rfl, (.w (by kernel_rfl) (.w (by kernel_rfl) (.c (St.cell (h := hS12) (i := 1) rfl) (.c (St.cell (h := hS12) (i := 1) rfl) Kept.n)))), ?_⟩
      refine go ?_
      cases oi h
      exact ⟨⟨rfl, rfl, rfl, rfl, rfl, trivial⟩, hS12.pick [0, 1] rfl rfl⟩
    intro e w55 hS13
    have h := h32
    refine go ?_
    refine cd (fun hc56 => ?_) fun hc56 => ?_
    · replace h := bcT h hc56
      refine go ?_
      cases h
      exact And.intro trivial ⟨_, Res.two (resOne.t rfl) (resOne.t rfl), a4, c5, rfl, hS13.pick [0] rfl rfl⟩
    replace h := bcF h hc56
    refine go ?_
    refine CW.draw (by kernel_rfl) ?_
    have hS14 := hS13.drew
    refine go ?_
    replace ⟨y57, hy57, h⟩ := obind h
    obtain ⟨b60, o61, cs62, hae, hb65, hp58, hq59, hd63, hk64⟩ := hr0_0.idx hy57
    subst hae
    obtain ⟨a66, c67, rfl, hr68⟩ := hd63
    refine AW.u (i := 3) rfl (by kernel_rfl) rfl rfl (Pur.ix Tryz.underlying76 sz78 rfl rfl hp58 hq59) ?_
    refine go ?_
    refine AW.take (i := 5) rfl (by kernel_rfl) rfl rfl (Ldr.old w0 ag59 rfl (hk64 0 _ rfl)) (hS14.same _ hb65.1 hb65.2) ?_
    refine go ?_
    replace ⟨y69, hy69, h⟩ := obind h
    obtain ⟨b72, o73, cs74, hae, hb77, hp70, hq71, hd75, hk76⟩ := hr68.idx hy69
    subst hae
    obtain rfl := hd75
    refine AW.u (i := 8) rfl (by kernel_rfl) rfl rfl (Pur.ix Tryz.underlying59 sz138 rfl rfl hp70 hq71) ?_
    refine go ?_
    refine AW.take (i := 10) rfl (by kernel_rfl) rfl rfl (Ldr.oldN w0 ag56 rfl rfl (fun j u hu => oldsub (m := 3) hk76 2 hu)) (hS14.same _ hb77.1 hb77.2) ?_
    replace ⟨y78, hy78, h⟩ := obind h
    have q := W_i_TapFlow (w0 := w55.drew) hy78
    refine AW.one (i := 11) (by kernel_rfl) ?_
    refine ⟨_, rfl, ?_⟩
    refine LW.call pl92 rfl rfl ?_
    refine Ret.mono q ?_
    rintro _ w79 ⟨rfl, hs⟩
    have hS15 := hS14.add hs
    refine LW.nil ⟨rfl, (.w (by kernel_rfl) (.c (St.cell (h := hS15) (i := 1) rfl) (.c (hS15.same _ hb65.1 hb65.2) (.w (by kernel_rfl) Kept.n)))), ?_⟩
    refine go ?_
    replace ⟨y80, hy80, h⟩ := obind h
    refine LW.cl (W_i_copyTrees hy80 rfl (hS15.rB hr0_0)) ?_
    rintro _ w83 ⟨a81, c82, rfl, hs⟩
    have hS16 := hS15.add hs
    refine go ?_
    refine CW.draw (by kernel_rfl) ?_
    have hS17 := hS16.drew
    refine go ?_
    replace ⟨y84, hy84, h⟩ := obind h
    obtain ⟨b87, o88, hae, hp85, hq86⟩ := hS17.ownIdx (α := DTree) (i := 0) rfl hy84
    subst hae
    refine AW.u (i := 2) rfl (by kernel_rfl) rfl rfl (Pur.ix Tryz.underlying76 sz78 rfl rfl hp85 hq86) ?_
    refine go ?_
    obtain ⟨F89, ho90, hS18⟩ := hS17.freeze (α := DTree) 0 rfl
    obtain ⟨b91, o92, cs93, hae, hb96, _, _, hd94, hk95⟩ := ho90.rdF.idx hy84
    cases hae
    obtain ⟨a97, c98, rfl, hr99⟩ := hd94
    refine AW.take (i := 4) rfl (by kernel_rfl) rfl rfl (Ldr.old w83.drew ag59 rfl (hk95 0 _ rfl)) (hS18.zC 0 rfl hb96) ?_
    refine go ?_
    replace ⟨y100, hy100, h⟩ := obind h
    have q := W_i_AmtOne (w0 := w83.drew) hy100
    refine AW.one (i := 10) (by kernel_rfl) ?_
    refine ⟨_, rfl, ?_⟩
    refine LW.call pl94 rfl rfl ?_
    refine Ret.mono q ?_
    rintro _ w101 ⟨rfl, hs⟩
    have hS19 := hS18.add hs
    refine LW.nil ⟨rfl, (.w (by kernel_rfl) (.c (St.cell (h := hS19) (i := 2) rfl) (.c (hS19.zC 0 rfl hb96) Kept.n))), ?_⟩
    replace ⟨y102, hy102, h⟩ := obind h
    have q := W_i_TreePay (w0 := w101) hy102 rfl (hS19.rZ 0 rfl hr99)
    refine AW.one (i := 11) (by kernel_rfl) ?_
    refine ⟨_, rfl, ?_⟩
    refine LW.call pl93 rfl rfl ?_
    refine Ret.mono q ?_
    rintro _ w105 ⟨a103, c104, rfl, hs⟩
    have hS20 := hS19.add hs
    refine LW.nil ⟨rfl, (.c (St.cell (h := hS20) (i := 3) rfl) (.w (by kernel_rfl) (.w (by kernel_rfl) Kept.n))), ?_⟩
    refine go ?_
    refine CW.fl [1, 5, 8, 11, 12, 13, 95] fun e => ?_
    refine cd (fun hc106 => ?_) fun hc106 => ?_
    · replace h := bcT h hc106
      refine go ?_
      cases h
      exact And.intro trivial ⟨_, Res.two (resOne.t rfl) (resOne.t rfl), a4, c5, rfl, hS20.pick [2] rfl rfl⟩
    replace h := bcF h hc106
    refine go ?_
    refine LW.u (Pur.ix Tryz.underlying76 sz78 rfl rfl hp85 hq86) rfl ?_
    refine go ?_
    have hS21 := hS20.thaw (α := DTree) 1 rfl ho90
    have hS22 := hS21.pick (M := [sl a103 c104 y102.1] ++ [sl (some ⟨b87, o88, none⟩) c82 y80, sl a4 c5 y3, bx g1 82 [.int .i64 x2.res, .int .i64 x2.toPart, .int .i64 x2.toRes, .int .i64 x2.which, .int .i64 x2.kind, .int .i64 x2.rate]]) [0, 1, 2, 3] rfl rfl
    replace ⟨y107, hy107, h⟩ := obind h
    refine LW.stE (M := [sl a103 c104 y102.1]) (L := [sl (some ⟨b87, o88, none⟩) c82 y80, sl a4 c5 y3, bx g1 82 [.int .i64 x2.res, .int .i64 x2.toPart, .int .i64 x2.toRes, .int .i64 x2.which, .int .i64 x2.kind, .int .i64 x2.rate]]) (z := y84) (z' := (DTree.mk y102.1)) (o := 0) hS22 (i := 0) rfl hy84 ag59 rfl (by show _ = o88 + (x1 : Int).toNat * 1 + 0; omega) rfl rfl rfl rfl (whole (fun w G hG => ⟨a103, c104, rfl, hG⟩)) ?_
    intro w108 hS23 hf
    rw [Option.some.inj hy107] at hS23
    refine go ?_
    refine CW.draw (by kernel_rfl) ?_
    have hS24 := hS23.drew
    refine go ?_
    replace ⟨y109, hy109, h⟩ := obind h
    obtain ⟨b112, o113, hae, hp110, hq111⟩ := hS24.ownIdx (α := DTree) (i := 0) rfl hy109
    cases hae
    refine AW.u (i := 3) rfl (by kernel_rfl) rfl rfl (Pur.ix Tryz.underlying76 sz78 rfl rfl hp110 (by rw [show y80.length = y107.length from (len_set (Option.some.inj hy107))]; exact hq111)) ?_
    refine go ?_
    obtain ⟨F114, ho115, hS25⟩ := hS24.freeze (α := DTree) 0 rfl
    obtain ⟨b116, o117, cs118, hae, hb121, _, _, hd119, hk120⟩ := ho115.rdF.idx hy109
    cases hae
    obtain ⟨a122, c123, rfl, hr124⟩ := hd119
    refine AW.take (i := 5) rfl (by kernel_rfl) rfl rfl (Ldr.old w108.drew ag59 rfl (hk120 0 _ rfl)) (hS25.zC 0 rfl hb121) ?_
    refine go ?_
    replace ⟨y125, hy125, h⟩ := obind h
    have q := W_i_AmtOne (w0 := w108.drew) hy125
    refine AW.one (i := 11) (by kernel_rfl) ?_
    refine ⟨_, rfl, ?_⟩
    refine LW.call pl94 rfl rfl ?_
    refine Ret.mono q ?_
    rintro _ w126 ⟨rfl, hs⟩
    have hS26 := hS25.add hs
    refine LW.nil ⟨rfl, (.w (by kernel_rfl) (.c (St.cell (h := hS26) (i := 2) rfl) (.c (hS26.zC 0 rfl hb121) (.c (St.cell (h := hS26) (i := 2) rfl) Kept.n)))), ?_⟩
    replace ⟨y127, hy127, h⟩ := obind h
    have q := W_i_TreeBack (w0 := w126) hy127 rfl (hS26.rZ 0 rfl hr124)
    refine AW.one (i := 12) (by kernel_rfl) ?_
    refine ⟨_, rfl, ?_⟩
    refine LW.call pl95 rfl rfl ?_
    refine Ret.mono q ?_
    rintro _ w130 ⟨a128, c129, rfl, hs⟩
    have hS27 := hS26.add hs
    refine LW.nil ⟨rfl, (.c (St.cell (h := hS27) (i := 3) rfl) (.w (by kernel_rfl) (.w (by kernel_rfl) (.c (St.cell (h := hS27) (i := 3) rfl) Kept.n)))), ?_⟩
    refine go ?_
    refine cd (fun hc131 => ?_) fun hc131 => ?_
    · replace h := bcT h hc131
      refine go ?_
      cases h
      exact And.intro trivial ⟨_, Res.two (resOne.t rfl) (resOne.t rfl), a4, c5, rfl, hS27.pick [2] rfl rfl⟩
    replace h := bcF h hc131
    refine go ?_
    refine LW.u (Pur.ix Tryz.underlying76 sz78 rfl rfl hp110 (by rw [show y80.length = y107.length from (len_set (Option.some.inj hy107))]; exact hq111)) rfl ?_
    refine go ?_
    have hS28 := hS27.thaw (α := DTree) 1 rfl ho115
    have hS29 := hS28.pick (M := [sl a128 c129 y127.1] ++ [sl (some ⟨b87, o88, none⟩) c82 y107, sl a4 c5 y3, bx g1 82 [.int .i64 x2.res, .int .i64 x2.toPart, .int .i64 x2.toRes, .int .i64 x2.which, .int .i64 x2.kind, .int .i64 x2.rate]]) [0, 1, 2, 3] rfl rfl
    replace ⟨y132, hy132, h⟩ := obind h
    refine LW.stE (M := [sl a128 c129 y127.1]) (L := [sl (some ⟨b87, o88, none⟩) c82 y107, sl a4 c5 y3, bx g1 82 [.int .i64 x2.res, .int .i64 x2.toPart, .int .i64 x2.toRes, .int .i64 x2.which, .int .i64 x2.kind, .int .i64 x2.rate]]) (z := y109) (z' := (DTree.mk y127.1)) (o := 0) hS29 (i := 0) rfl hy109 ag59 rfl (by show _ = o88 + (x2.toPart : Int).toNat * 1 + 0; omega) rfl rfl rfl rfl (whole (fun w G hG => ⟨a128, c129, rfl, hG⟩)) ?_
    intro w133 hS30 hf
    rw [Option.some.inj hy132] at hS30
    refine go ?_
    replace h := Option.some.inj h
    subst h
    exact And.intro trivial ⟨_, Res.two (resOne.t rfl) (resOne.t rfl), (some ⟨b87, o88, none⟩), c82, (show (.tuple #[.slice (some ⟨b87, o88, none⟩) y80.length c82, .int .i64 y78] : Value) = .tuple #[.slice (some ⟨b87, o88, none⟩) y132.length c82, .int .i64 y78] by rw [show y80.length = y132.length from ((len_set (Option.some.inj hy107)).trans (len_set (Option.some.inj hy132)))]), hS30.pick [0] rfl rfl⟩
  obtain ⟨rfl, u, rfl, hM⟩ := hM
  cases h29
  exact And.intro trivial hM

theorem W_i_PartTaps {w0 : World} {N : Nat} {x0 : DWorld} {x1 : Int} {r : DWorld} (h : F_i_PartTaps N x0 x1 = some r) {a0_1 : Option Addr} {n0_1 c0_1 : Nat} (hn0_1 : n0_1 = x0.parts.length) (hr0_1 : rdS (Bor w0 []) w0 a0_1 c0_1 x0.parts) :
    Ret Tryz.prog 17 #[.agg #[.int .i64 x0.now, .slice a0_1 n0_1 c0_1], .int .i64 x1] w0 (fun v w => ∃ ar0_1 cr0_1, v = .agg #[.int .i64 r.now, .slice ar0_1 r.parts.length cr0_1] ∧ St w0 [] w [sl ar0_1 cr0_1 r.parts]) := by
  subst hn0_1
  unfold F_i_PartTaps at h
  refine Ret.fn Tryz.func17 fun e => ?_
  have hS1 := St.start w0
  refine go ?_
  refine LW.bo hS1 fun g1 w2 hS2 => ?_
  refine LW.al hS2 fun g3 w4 hS3 => ?_
  refine go ?_
  replace ⟨y5, hy5, h⟩ := obind h
  refine LW.cl (W_i_copyWorld hy5 rfl (hS3.rB hr0_1)) ?_
  rintro _ w8 ⟨a6, c7, rfl, hs⟩
  have hS4 := hS3.add hs
  refine LW.al hS4 fun g9 w10 hS5 => ?_
  refine LW.st hS5 0 fun w11 hS6 => ?_
  refine gs ?_
  obtain ⟨j12, hj12, h13⟩ := obind h
  refine CW.jn [1, 2, 4, 5] [0, 1, 2, 3] [(23, .bool j12)] hS6 (h1 := ?_) (h2 := ?_)
  · have h := hj12
    refine go ?_
    replace ⟨y14, hy14, h⟩ := obind h
    refine LW.c0 (W_i_WorldOk hy14 rfl (hS6.rB hr0_1)) hS6 fun w15 hS7 => ?_
    refine go ?_
    rcases bcases (!y14) with hc16 | hc16
    · replace h := bcT h hc16
      refine go ?_
      cases oi h
      exact ⟨⟨rfl, rfl, rfl, rfl, rfl, trivial⟩, hS7.pick [0, 1, 2, 3] rfl rfl⟩
    replace h := bcF h hc16
    refine go ?_
    replace ⟨y17, hy17, h⟩ := obind h
    refine go ?_
    refine LW.c0 (W_i_hasPart hy17 rfl (hS7.rB hr0_1)) hS7 fun w18 hS8 => ?_
    refine go ?_
    cases oi h
    exact ⟨⟨rfl, rfl, rfl, rfl, rfl, trivial⟩, hS8.pick [0, 1, 2, 3] rfl rfl⟩
  intro e w19 hS9
  have h := h13
  refine go ?_
  refine cd (fun hc20 => ?_) fun hc20 => ?_
  · replace h := bcT h hc20
    refine go ?_
    refine LW.st hS9 2 fun w21 hS10 => ?_
    refine go ?_
    cases h
    exact And.intro trivial ⟨_, Res.one (resOne.b hS10 2 rfl ag27 rfl rfl), a6, c7, rfl, hS10.pick [1] rfl rfl⟩
  replace h := bcF h hc20
  refine go ?_
  refine LW.bsl (α := DTreeV) (vs := []) (cs := #[]) (l := ([] : List DTreeV)) rfl (by kernel_rfl) rfl rfl rfl (fun w => rfl) hS9 rfl ?_
  intro a22 c23 w24 hS11 hf
  refine go ?_
  obtain ⟨hgd, h⟩ := gd_ok h
  simp only [Bool.and_eq_true, decide_eq_true_eq] at hgd
  have hS12 := hS11.pick (M := [sl a6 c7 y5.parts] ++ [sl a22 c23 ([] : List DTreeV), bx g9 27 [.int .i64 y5.now, .slice a6 y5.parts.length c7], bx g3 27 [.int .i64 0, .slice none 0 0], bx g1 27 [.int .i64 x0.now, .slice a0_1 x0.parts.length c0_1]]) [2, 0, 1, 3, 4] rfl rfl
  obtain ⟨hds, hl, hS13⟩ := hS12.splitP
  obtain ⟨pv, hpv⟩ : ∃ pv, pv = List.zipWith mkV y5.parts hds := ⟨_, rfl⟩
  rw [← hpv] at hS13
  have hhs : hds.length = y5.parts.length := by have := hl.len; rwa [List.length_map] at this
  have hpl : y5.parts.length = pv.length := by rw [hpv]; exact (zip_len hl).symm
  rw [hpl] at hS13
  obtain ⟨o64, ho64, hoeo64⟩ := viewLoop hpl (by rw [← hpl]; exact hgd.1) (by rw [← hpl]; exact hgd.2)
  refine CW.mono (CW.iter (σ := (List DTreeV) × Int) (ρ := (List DTreeV) × Int) (fun s25 e wb => ∃ (s25a0 : Option Addr), ∃ (s25c0 : Nat), En e [(1, .int .i64 x1), (2, .pointer (some ⟨g1, 0, none⟩)), (4, .pointer (some ⟨g3, 0, none⟩)), (5, .pointer (some ⟨g9, 0, none⟩)), (6, .slice s25a0 s25.1.length s25c0), (27, .slice a6 y5.parts.length c7), (28, .int .i64 (y5.parts.length : Int)), (29, .int .i64 s25.2)] ∧ St w0 [] wb [sl a6 c7 pv, tl hds (partTrees y5.parts), sl s25a0 s25c0 s25.1, bx g9 27 [.int .i64 y5.now, .slice a6 pv.length c7], bx g3 27 [.int .i64 0, .slice none 0 0], bx g1 27 [.int .i64 x0.now, .slice a0_1 x0.parts.length c0_1]]) (fun s25 x e wb => x = .exit 0 ∧ ∃ (s25a0 : Option Addr), ∃ (s25c0 : Nat), En e [(1, .int .i64 x1), (2, .pointer (some ⟨g1, 0, none⟩)), (4, .pointer (some ⟨g3, 0, none⟩)), (5, .pointer (some ⟨g9, 0, none⟩)), (6, .slice s25a0 s25.1.length s25c0)] ∧ St w0 [] wb [sl a6 c7 pv, tl hds (partTrees y5.parts), sl s25a0 s25c0 s25.1, bx g9 27 [.int .i64 y5.now, .slice a6 pv.length c7], bx g3 27 [.int .i64 0, .slice none 0 0], bx g1 27 [.int .i64 x0.now, .slice a0_1 x0.parts.length c0_1]]) ?_ N (([] : List DTreeV), 0) _ _ _ ⟨a22, c23, ⟨rfl, rfl, rfl, rfl, rfl, rfl, rfl, rfl, trivial⟩, hS13.pick [0, 1, 2, 3, 4, 5] rfl rfl⟩ ho64) ?_
  · intro s25 e w26 o hM h
    obtain ⟨s25a0, s25c0, hE, hS14⟩ := hM
    obtain ⟨e, rfl⟩ := hE.out
    refine go ?_
    refine CW.fl [1, 2, 4, 5, 6, 27, 28, 29, 30] fun e => ?_
    refine cd (fun hc27 => ?_) fun hc27 => ?_
    · replace h := bcT h hc27
      refine go ?_
      replace ⟨y28, hy28, h⟩ := obind h
      obtain ⟨b31, o32, hae, hp29, hq30⟩ := hS14.ownIdx (α := DPartV) (i := 0) rfl hy28
      subst hae
      refine LW.u (Pur.ix Tryz.underlying25 sz67 rfl rfl hp29 (by rw [show y5.parts.length = pv.length from hpl]; exact hq30)) rfl ?_
      obtain ⟨F33, ho34, hS15⟩ := hS14.freeze (α := DPartV) 0 rfl
      obtain ⟨b35, o36, cs37, hae, hb40, _, _, hd38, hk39⟩ := ho34.rdF.idx hy28
      cases hae
      obtain ⟨a41, c42, a44, c45, a47, c48, a50, c51, a53, c54, rfl, hr43, hr46, hr49, hr52, hr55⟩ := hd38
      refine LW.l (Ldr.oldN w26 ag67 rfl rfl (fun j u hu => hk39 j u hu)) (hS15.zC 0 rfl hb40) rfl ?_
      refine LW.al hS15 fun g56 w57 hS16 => ?_
      refine LW.st hS16 0 fun w58 hS17 => ?_
      refine go ?_
      refine LW.u (Pur.build (vs := [(0, .slice y28.tree.a y28.tree.n y28.tree.c)]) (cs := #[.slice y28.tree.a y28.tree.n y28.tree.c]) rfl (by kernel_rfl)) rfl ?_
      replace ⟨y59, hy59, h⟩ := obind h
      refine LW.app1 (M := []) (L := [bx g56 67 [.slice a41 y28.label.levels.length c42, .slice a44 y28.own.length c45, .slice y28.tree.a y28.tree.n y28.tree.c, .slice a47 y28.heap.arena.length c48, .int .i64 y28.heap.gc.phase, .int .i64 y28.heap.gc.pos, .int .i64 y28.heap.gc.round, .slice a50 y28.heap.gc.grey.length c51, .slice a53 y28.taps.length c54, .int .i64 y28.next, .int .i64 y28.want, .int .i64 y28.spent.pages, .int .i64 y28.spent.rent, .int .i64 y28.spent.cpu, .int .i64 y28.press, .int .i64 y28.lost], fz w26 F33, tl hds (partTrees y5.parts), sl s25a0 s25c0 s25.1, bx g9 27 [.int .i64 y5.now, .slice (some ⟨b31, o32, none⟩) pv.length c7], bx g3 27 [.int .i64 0, .slice none 0 0], bx g1 27 [.int .i64 x0.now, .slice a0_1 x0.parts.length c0_1]]) (vs := #[.slice y28.tree.a y28.tree.n y28.tree.c]) (i := 3) sTV76 rfl (by kernel_rfl) rfl rfl hy59 hS17 rfl (fun w G hG => by cases (show G = [] from hG); exact ⟨rfl, rfl⟩) rfl rfl ?_
      intro v62 a60 c61 w63 hS18 hf
      refine go ?_
      have hS19 := hS18.thaw (α := DPartV) 1 rfl ho34
      cases oi h
      exact ⟨rfl, ⟨a60, c61, ⟨rfl, rfl, rfl, rfl, rfl, rfl, rfl, rfl, trivial⟩, hS19.pick [1, 2, 3, 4, 5, 6] rfl rfl⟩⟩
    replace h := bcF h hc27
    refine go ?_
    cases oi h
    exact ⟨trivial, rfl, ⟨s25a0, s25c0, ⟨rfl, rfl, rfl, rfl, rfl, trivial⟩, hS14.pick [0, 1, 2, 3, 4, 5] rfl rfl⟩⟩
  intro x e w66 hM
  obtain ⟨rfl, hM⟩ := hM
  obtain ⟨s25a0, s25c0, hE, hS20⟩ := hM
  obtain ⟨e, rfl⟩ := hE.out
  rw [show o64.1 = hds.map DTreeV.mk from by rw [hoeo64, hpv]; exact view_hs hhs] at hS20
  have hS21 := hS20.pick (M := [sl s25a0 s25c0 (hds.map DTreeV.mk), tl hds (partTrees y5.parts)] ++ [sl a6 c7 pv, bx g9 27 [.int .i64 y5.now, .slice a6 pv.length c7], bx g3 27 [.int .i64 0, .slice none 0 0], bx g1 27 [.int .i64 x0.now, .slice a0_1 x0.parts.length c0_1]]) [2, 1, 0, 3, 4, 5] rfl rfl
  have hS22 := hS21.mergeT hl
  have htl : o64.1.length = (treesOf y5.parts).length := by rw [hoeo64]; simp [treesOf, partTrees, hpl]
  refine go ?_
  replace ⟨y67, hy67, h⟩ := obind h
  obtain ⟨b70, o71, cs72, hae, hb75, hp68, hq69, hd73, hk74⟩ := hr0_1.idx hy67
  subst hae
  obtain ⟨a76, c77, a79, c80, a82, c83, a85, c86, a88, c89, a91, c92, rfl, hr78, hr81, hr84, hr87, hr90, hr93⟩ := hd73
  refine LW.u (Pur.ix Tryz.underlying25 sz67 rfl rfl hp68 hq69) rfl ?_
  refine go ?_
  refine LW.l (Ldr.old w0 ag65 rfl (hk74 8 _ rfl)) (hS22.same _ hb75.1 hb75.2) rfl ?_
  refine go ?_
  obtain ⟨o113, ho113, h114⟩ := obind h
  refine CW.mono (CW.iter (σ := (List DTree) × Int) (ρ := (List DTree) × Int) (fun s94 e wb => ∃ (s94a0 : Option Addr), ∃ (s94c0 : Nat), En e [(1, .int .i64 x1), (4, .pointer (some ⟨g3, 0, none⟩)), (5, .pointer (some ⟨g9, 0, none⟩)), (6, .slice s94a0 s94.1.length s94c0), (45, .slice a91 y67.taps.length c92), (46, .int .i64 (y67.taps.length : Int)), (47, .int .i64 s94.2)] ∧ St w0 [] wb [sl a6 c7 pv, bx g9 27 [.int .i64 y5.now, .slice a6 pv.length c7], bx g3 27 [.int .i64 0, .slice none 0 0], sl s94a0 s94c0 s94.1]) (fun s94 x e wb => x = .exit 2 ∧ ∃ (s94a0 : Option Addr), ∃ (s94c0 : Nat), En e [(4, .pointer (some ⟨g3, 0, none⟩)), (5, .pointer (some ⟨g9, 0, none⟩)), (6, .slice s94a0 s94.1.length s94c0)] ∧ St w0 [] wb [sl a6 c7 pv, bx g9 27 [.int .i64 y5.now, .slice a6 pv.length c7], bx g3 27 [.int .i64 0, .slice none 0 0], sl s94a0 s94c0 s94.1]) ?_ N ((treesOf y5.parts), 0) _ _ _ ⟨s25a0, s25c0, ⟨rfl, rfl, rfl, (show (.slice s25a0 o64.1.length s25c0 : Value) = .slice s25a0 ((treesOf y5.parts).length) s25c0 by rw [show o64.1.length = (treesOf y5.parts).length from htl]), rfl, rfl, rfl, trivial⟩, hS22.pick [1, 2, 3, 0] rfl rfl⟩ ho113) ?_
  · intro s94 e w95 o hM h
    obtain ⟨s94a0, s94c0, hE, hS23⟩ := hM
    obtain ⟨e, rfl⟩ := hE.out
    refine go ?_
    refine CW.fl [1, 4, 5, 6, 45, 46, 47, 48] fun e => ?_
    refine cd (fun hc96 => ?_) fun hc96 => ?_
    · replace h := bcT h hc96
      refine go ?_
      replace ⟨y97, hy97, h⟩ := obind h
      obtain ⟨b100, o101, cs102, hae, hb105, hp98, hq99, hd103, hk104⟩ := hr93.idx hy97
      subst hae
      obtain rfl := hd103
      refine LW.u (Pur.ix Tryz.underlying65 sz82 rfl rfl hp98 hq99) rfl ?_
      refine LW.l (Ldr.oldN w0 ag82 rfl rfl (fun j u hu => hk104 j u hu)) (hS23.same _ hb105.1 hb105.2) rfl ?_
      refine LW.al hS23 fun g106 w107 hS24 => ?_
      refine LW.st hS24 0 fun w108 hS25 => ?_
      refine go ?_
      replace ⟨y109, hy109, h⟩ := obind h
      refine LW.cl (W_i_TapMove hy109 rfl (hS25.rI 4 rfl)) ?_
      rintro _ w112 ⟨a110, c111, rfl, hs⟩
      have hS26 := hS25.add hs
      refine go ?_
      cases oi h
      exact ⟨rfl, ⟨a110, c111, ⟨rfl, rfl, rfl, rfl, rfl, rfl, rfl, trivial⟩, hS26.pick [2, 3, 4, 0] rfl rfl⟩⟩
    replace h := bcF h hc96
    refine go ?_
    cases oi h
    exact ⟨trivial, rfl, ⟨s94a0, s94c0, ⟨rfl, rfl, rfl, trivial⟩, hS23.pick [0, 1, 2, 3] rfl rfl⟩⟩
  intro x e w115 hM
  obtain ⟨rfl, hM⟩ := hM
  obtain ⟨s94a0, s94c0, hE, hS27⟩ := hM
  obtain ⟨e, rfl⟩ := hE.out
  have h := h114
  refine go ?_
  obtain ⟨hg2, h⟩ := gd_ok h
  have hg2 := of_decide_eq_true hg2
  have hS28 := hS27.pick (M := [sl s94a0 s94c0 o113.1] ++ [sl a6 c7 pv, bx g9 27 [.int .i64 y5.now, .slice a6 pv.length c7], bx g3 27 [.int .i64 0, .slice none 0 0]]) [3, 0, 1, 2] rfl rfl
  obtain ⟨ht, hlt, hS29⟩ := hS28.splitT
  have hht : ht.length = o113.1.length := by have := hlt.len; rwa [List.length_map] at this
  obtain ⟨tv, htv⟩ : ∃ tv, tv = ht.map DTreeV.mk := ⟨_, rfl⟩
  rw [← htv] at hS29
  have htl2 : o113.1.length = tv.length := by rw [htv, List.length_map, hht]
  have htp : tv.length = pv.length := htl2.symm.trans (hg2.trans hpl)
  obtain ⟨o142, ho142, hoeo142⟩ := putLoop (n := o113.1.length) htl2 htp (by rw [htp, ← hpl]; exact hgd.1) (by rw [htp, ← hpl]; exact hgd.2)
  refine CW.mono (CW.iter (σ := (List DPartV) × Int) (ρ := (List DPartV) × Int) (fun s116 e wb => En e [(4, .pointer (some ⟨g3, 0, none⟩)), (5, .pointer (some ⟨g9, 0, none⟩)), (59, .slice s94a0 o113.1.length s94c0), (60, .int .i64 (o113.1.length : Int)), (61, .int .i64 s116.2)] ∧ St w0 [] wb [sl s94a0 s94c0 tv, tl ht (treeLists o113.1), sl a6 c7 s116.1, bx g9 27 [.int .i64 y5.now, .slice a6 s116.1.length c7], bx g3 27 [.int .i64 0, .slice none 0 0]]) (fun s116 x e wb => x = .exit 4 ∧ En e [(4, .pointer (some ⟨g3, 0, none⟩)), (5, .pointer (some ⟨g9, 0, none⟩))] ∧ St w0 [] wb [sl s94a0 s94c0 tv, tl ht (treeLists o113.1), sl a6 c7 s116.1, bx g9 27 [.int .i64 y5.now, .slice a6 s116.1.length c7], bx g3 27 [.int .i64 0, .slice none 0 0]]) ?_ N (pv, 0) _ _ _ ⟨⟨rfl, rfl, rfl, rfl, rfl, trivial⟩, hS29.pick [0, 1, 2, 3, 4] rfl rfl⟩ ho142) ?_
  · intro s116 e w117 o hM h
    obtain ⟨hE, hS30⟩ := hM
    obtain ⟨e, rfl⟩ := hE.out
    refine go ?_
    refine CW.fl [4, 5, 59, 60, 61, 62] fun e => ?_
    refine cd (fun hc118 => ?_) fun hc118 => ?_
    · replace h := bcT h hc118
      refine go ?_
      replace ⟨y119, hy119, h⟩ := obind h
      obtain ⟨b122, o123, hae, hp120, hq121⟩ := hS30.ownIdx (α := DTreeV) (i := 0) rfl hy119
      subst hae
      refine LW.u (Pur.ix Tryz.underlying76 sz78 rfl rfl hp120 (by rw [show o113.1.length = tv.length from htl2]; exact hq121)) rfl ?_
      obtain ⟨F124, ho125, hS31⟩ := hS30.freeze (α := DTreeV) 0 rfl
      obtain ⟨b126, o127, cs128, hae, hb131, _, _, hd129, hk130⟩ := ho125.rdF.idx hy119
      cases hae
      obtain rfl := hd129
      refine LW.l (Ldr.oldN w117 ag78 rfl rfl (fun j u hu => hk130 j u hu)) (hS31.zC 0 rfl hb131) rfl ?_
      refine LW.al hS31 fun g132 w133 hS32 => ?_
      refine go ?_
      refine LW.st hS32 0 fun w134 hS33 => ?_
      refine go ?_
      replace ⟨y135, hy135, h⟩ := obind h
      obtain ⟨b138, o139, hae, hp136, hq137⟩ := hS33.ownIdx (α := DPartV) (i := 3) rfl hy135
      subst hae
      refine LW.u (Pur.ix Tryz.underlying25 sz67 rfl rfl hp136 hq137) rfl ?_
      refine go ?_
      replace ⟨y140, hy140, h⟩ := obind h
      refine LW.stE (M := []) (L := [bx g132 78 [.slice y119.list.a y119.list.n y119.list.c], fz w117 F124, tl ht (treeLists o113.1), sl (some ⟨b138, o139, none⟩) c7 s116.1, bx g9 27 [.int .i64 y5.now, .slice (some ⟨b138, o139, none⟩) s116.1.length c7], bx g3 27 [.int .i64 0, .slice none 0 0]]) (z := y135) (z' := (DPartV.mk y135.label y135.own y119.list y135.heap y135.taps y135.next y135.want y135.spent y135.press y135.lost)) (o := 2) hS33 (i := 3) rfl hy135 ag59 rfl (by show _ = o139 + (s116.2 : Int).toNat * 16 + 2; omega) rfl rfl rfl rfl (leafF (fun w cs F hF => by obtain ⟨q0, r0, q1, r1, q2, r2, q3, r3, q4, r4, rfl, hH⟩ := hF; exact ⟨q0, r0, q1, r1, q2, r2, q3, r3, q4, r4, rfl, hH⟩)) ?_
      intro w141 hS34 hf
      rw [Option.some.inj hy140] at hS34
      refine go ?_
      rw [show s116.1.length = y140.length from (len_set (Option.some.inj hy140))] at hS34
      have hS35 := hS34.thaw (α := DTreeV) 1 rfl ho125
      cases oi h
      exact ⟨rfl, ⟨⟨rfl, rfl, rfl, rfl, rfl, trivial⟩, hS35.pick [1, 2, 3, 4, 5] rfl rfl⟩⟩
    replace h := bcF h hc118
    refine go ?_
    cases oi h
    exact ⟨trivial, rfl, ⟨⟨rfl, rfl, trivial⟩, hS30.pick [0, 1, 2, 3, 4] rfl rfl⟩⟩
  intro x e w144 hM
  obtain ⟨rfl, hM⟩ := hM
  obtain ⟨hE, hS36⟩ := hM
  obtain ⟨e, rfl⟩ := hE.out
  have hpe : List.zipWith setV o142.1 (treeLists o113.1) = (putTrees y5.parts (treeLists o113.1)) := by rw [hoeo142, htv, hpv]; exact put_all hhs (hht.trans hg2)
  have hol : o142.1.length = (putTrees y5.parts (treeLists o113.1)).length := by rw [putTrees_len (show (treeLists o113.1).length = y5.parts.length by unfold treeLists; rw [List.length_map]; exact hg2), hoeo142, List.length_zipWith, htp, Nat.min_self, hpl]
  have hS37 := hS36.pick (M := [sl a6 c7 o142.1, tl ht (treeLists o113.1)] ++ [sl s94a0 s94c0 tv, bx g9 27 [.int .i64 y5.now, .slice a6 o142.1.length c7], bx g3 27 [.int .i64 0, .slice none 0 0]]) [2, 1, 0, 3, 4] rfl rfl
  have hS38 := hS37.mergeP (by rw [hoeo142, htv]; exact put_hs (by rw [hht, hg2, hpl])) hlt
  rw [hpe, hol] at hS38
  refine go ?_
  refine LW.fl [4, 74] fun e => ?_
  refine LW.st hS38 3 fun w145 hS39 => ?_
  refine go ?_
  cases h
  exact And.intro trivial ⟨_, Res.one (resOne.b hS39 3 rfl ag27 rfl rfl), a6, c7, rfl, hS39.pick [0] rfl rfl⟩

end Go.Kx
