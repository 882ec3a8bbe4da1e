/- Each call returns what the plain function says. Printed by drive.py. -/
import Derived.Test.YtfllimolhpblnaaGreatFa
import Derived.Test.YtfllimolhpblnaaGreatPu
import Derived.Test.YtfllimolhpblnaaGreatWa0
import Derived.Test.YtfllimolhpblnaaGreatWa3
import Derived.Test.YtfllimolhpblnaaGreatWa5
import Derived.Test.YtfllimolhpblnaaGreatWa12
import Derived.Test.YtfllimolhpblnaaGreatWa13
import Derived.Test.YtfllimolhpblnaaGreatWa16
import Derived.Test.YtfllimolhpblnaaGreatWa28
namespace Go.Kx
open Go Go.RowKit Go.Proofs
set_option maxRecDepth 10000
set_option maxHeartbeats 2000000
set_option linter.unusedVariables false
set_option linter.unusedSimpArgs false
theorem W_i_ArenaFree {w0 : World} {N : Nat} {x0 : List DObj} {x1 : Int} {r : (List DObj) × Bool} (h : F_i_ArenaFree N x0 x1 = some r) {a0_0 : Option Addr} {n0_0 c0_0 : Nat} (hn0_0 : n0_0 = x0.length) (hr0_0 : rdS (Bor w0 []) w0 a0_0 c0_0 x0) :
    Ret Tryz.prog 203 #[.slice a0_0 n0_0 c0_0, .int .i64 x1] w0 (fun v w => ∃ ar0 cr0, v = .tuple #[.slice ar0 r.1.length cr0, .bool r.2] ∧ St w0 [] w [sl ar0 cr0 r.1]) := by
  subst hn0_0
  unfold F_i_ArenaFree at h
  refine Ret.fn Tryz.func203 fun e => ?_
  have hS1 := St.start w0
  refine go ?_
  replace ⟨y1, hy1, h⟩ := obind h
  refine LW.cl (W_i_copyArena hy1 rfl (hS1.rB hr0_0)) ?_
  rintro _ w4 ⟨a2, c3, rfl, hs⟩
  have hS2 := hS1.add hs
  refine gs ?_
  obtain ⟨j5, hj5, h6⟩ := obind h
  refine CW.cut (fun e wb => En e [(0, .slice a0_0 x0.length c0_0), (1, .int .i64 x1), (6, .slice a2 y1.length c3), (27, .bool j5)] ∧ St w0 [] wb [sl a2 c3 y1]) ?_ ?_
  · have h := hj5
    refine go ?_
    replace ⟨y7, hy7, h⟩ := obind h
    refine LW.c0 (W_i_ArenaOk hy7 rfl (hS2.rB hr0_0)) hS2 fun w8 hS3 => ?_
    refine go ?_
    rcases bcases (!y7) with hc9 | hc9
    · replace h := bcT h hc9
      refine go ?_
      cases oi h
      exact ⟨⟨rfl, rfl, rfl, rfl, trivial⟩, hS3.pick [0] rfl rfl⟩
    replace h := bcF h hc9
    refine go ?_
    replace ⟨y10, hy10, h⟩ := obind h
    refine go ?_
    refine LW.c0 (W_i_within hy10) hS3 fun w11 hS4 => ?_
    refine go ?_
    rcases bcases (!y10) with hc12 | hc12
    · replace h := bcT h hc12
      refine go ?_
      cases oi h
      exact ⟨⟨rfl, rfl, rfl, rfl, trivial⟩, hS4.pick [0] rfl rfl⟩
    replace h := bcF h hc12
    refine go ?_
    replace ⟨y13, hy13, h⟩ := obind h
    obtain ⟨b16, o17, cs18, hae, hb21, hp14, hq15, hd19, hk20⟩ := hr0_0.idx hy13
    subst hae
    obtain ⟨a22, c23, a25, c26, a28, c29, rfl, hr24, hr27, hr30⟩ := hd19
    refine go ?_
    refine LW.u (Pur.ix Tryz.underlying59 sz92 rfl rfl hp14 hq15) rfl ?_
    refine go ?_
    refine LW.l (Ldr.old w0 ag3 rfl (hk20 1 _ rfl)) (hS4.same _ hb21.1 hb21.2) rfl ?_
    refine go ?_
    cases oi h
    exact ⟨⟨rfl, rfl, rfl, rfl, trivial⟩, hS4.pick [0] rfl rfl⟩
  rintro e w31 ⟨hE, hS5⟩
  obtain ⟨e, rfl⟩ := hE.out
  have h := h6
  refine go ?_
  refine CW.cond rfl (fun hc32 => ?_) (fun hc32 => ?_)
  · replace h := bcT h hc32
    refine go ?_
    cases h
    exact And.intro trivial ⟨_, Res.two (resOne.t rfl) (resOne.t rfl), a2, c3, rfl, hS5.pick [0] rfl rfl⟩
  replace h := bcF h hc32
  refine go ?_
  replace ⟨y33, hy33, h⟩ := obind h
  obtain ⟨b36, o37, cs38, hae, hb41, hp34, hq35, hd39, hk40⟩ := hr0_0.idx hy33
  subst hae
  obtain ⟨a42, c43, a45, c46, a48, c49, rfl, hr44, hr47, hr50⟩ := hd39
  refine LW.u (Pur.ix Tryz.underlying59 sz92 rfl rfl hp34 hq35) rfl ?_
  refine go ?_
  refine LW.l (Ldr.old w0 ag3 rfl (hk40 0 _ rfl)) (hS5.same _ hb41.1 hb41.2) rfl ?_
  refine LW.u (Pur.build (vs := [(0, .int .i64 y33.gen)]) (cs := #[.int .i64 y33.gen, .int .i64 0, .int .i64 0, .int .i64 0, .int .i64 0, .int .i64 0, .int .i64 0, .int .i64 0, .int .i64 0, .bool false, .slice none 0 0, .slice none 0 0, .slice none 0 0]) rfl (by kernel_rfl)) rfl ?_
  replace ⟨y51, hy51, h⟩ := obind h
  obtain ⟨b54, o55, hae, hp52, hq53⟩ := hS5.ownIdx (α := DObj) (i := 0) rfl hy51
  subst hae
  refine LW.u (Pur.ix Tryz.underlying59 sz92 rfl rfl hp52 hq53) rfl ?_
  have hS6 := hS5.nil (α := Int)
  have hS7 := hS6.nil (α := Int)
  have hS8 := hS7.nil (α := DMsg)
  have hS9 := hS8.pick (M := [sl none 0 [], sl none 0 [], sl none 0 []] ++ [sl (some ⟨b54, o55, none⟩) c3 y1]) [2, 1, 0, 3] rfl rfl
  replace ⟨y56, hy56, h⟩ := obind h
  refine LW.stE (M := [sl none 0 [], sl none 0 [], sl none 0 []]) (L := [sl (some ⟨b54, o55, none⟩) c3 y1]) (z := y51) (z' := (DObj.mk y33.gen 0 0 0 0 0 0 0 0 false [] [] [])) (o := 0) hS9 (i := 0) rfl hy51 ag92 rfl (by show _ = o55 + (x1 : Int).toNat * 13 + 0; omega) rfl rfl rfl rfl (whole (fun w G hG => ⟨none, 0, none, 0, none, 0, rfl, hG⟩)) ?_
  intro w57 hS10 hf
  rw [Option.some.inj hy56] at hS10
  refine go ?_
  obtain ⟨o146, ho146, h147⟩ := obind h
  refine CW.mono (CW.iter (σ := (List DObj) × Int) (ρ := (List DObj) × Int) (fun s58 e wb => En e [(1, .int .i64 x1), (6, .slice (some ⟨b54, o55, none⟩) s58.1.length c3), (39, .int .i64 (y1.length : Int)), (40, .int .i64 s58.2)] ∧ St w0 [] wb [sl (some ⟨b54, o55, none⟩) c3 s58.1]) (fun s58 x e wb => x = .exit 0 ∧ En e [(6, .slice (some ⟨b54, o55, none⟩) s58.1.length c3)] ∧ St w0 [] wb [sl (some ⟨b54, o55, none⟩) c3 s58.1]) ?_ N (y56, 0) _ _ _ ⟨⟨rfl, (show (.slice (some ⟨b54, o55, none⟩) y1.length c3 : Value) = .slice (some ⟨b54, o55, none⟩) y56.length c3 by rw [show y1.length = y56.length from (len_set (Option.some.inj hy56))]), rfl, rfl, trivial⟩, hS10.pick [0] rfl rfl⟩ ho146) ?_
  · intro s58 e w59 o hM h
    obtain ⟨hE, hS11⟩ := hM
    obtain ⟨e, rfl⟩ := hE.out
    refine go ?_
    refine CW.fl [1, 6, 39, 40, 41] fun e => ?_
    refine CW.cond rfl (fun hc60 => ?_) (fun hc60 => ?_)
    · replace h := bcT h hc60
      refine go ?_
      replace ⟨y61, hy61, h⟩ := obind h
      obtain ⟨b64, o65, hae, hp62, hq63⟩ := hS11.ownIdx (α := DObj) (i := 0) rfl hy61
      cases hae
      refine LW.u (Pur.ix Tryz.underlying59 sz92 rfl rfl hp62 hq63) rfl ?_
      refine go ?_
      obtain ⟨F66, ho67, hS12⟩ := hS11.freeze (α := DObj) 0 rfl
      obtain ⟨b68, o69, cs70, hae, hb73, _, _, hd71, hk72⟩ := ho67.rdF.idx hy61
      cases hae
      obtain ⟨a74, c75, a77, c78, a80, c81, rfl, hr76, hr79, hr82⟩ := hd71
      refine LW.l (Ldr.old w59 ag3 rfl (hk72 1 _ rfl)) (hS12.zC 0 rfl hb73) rfl ?_
      refine go ?_
      refine CW.cond rfl (fun hc83 => ?_) (fun hc83 => ?_)
      · replace h := bcT h hc83
        refine go ?_
        have hS13 := hS12.thaw (α := DObj) 0 rfl ho67
        cases oi h
        exact ⟨rfl, ⟨⟨rfl, rfl, rfl, rfl, trivial⟩, hS13.pick [0] rfl rfl⟩⟩
      replace h := bcF h hc83
      refine go ?_
      refine LW.u (Pur.ix Tryz.underlying59 sz92 rfl rfl hp62 hq63) rfl ?_
      refine go ?_
      refine LW.l (Ldr.old w59 ag3 rfl (hk72 2 _ rfl)) (hS12.zC 0 rfl hb73) rfl ?_
      refine gs ?_
      obtain ⟨j84, hj84, h85⟩ := obind h
      refine CW.cut (fun e wb => En e [(1, .int .i64 x1), (6, .slice (some ⟨b54, o55, none⟩) j84.length c3), (7, .int .i64 s58.2), (39, .int .i64 (y1.length : Int)), (40, .int .i64 s58.2)] ∧ St w0 [] wb [sl (some ⟨b54, o55, none⟩) c3 j84]) ?_ ?_
      · have h := hj84
        refine CW.fl [1, 6, 7, 39, 40, 55] fun e => ?_
        refine CW.cond rfl (fun hc86 => ?_) (fun hc86 => ?_)
        · replace h := bcT h hc86
          refine go ?_
          refine LW.u (Pur.ix Tryz.underlying59 sz92 rfl rfl hp62 hq63) rfl ?_
          refine go ?_
          have hS14 := hS12.thaw (α := DObj) 0 rfl ho67
          replace ⟨y87, hy87, h⟩ := obind h
          refine LW.stE (M := []) (L := [sl (some ⟨b54, o55, none⟩) c3 s58.1]) (z := y61) (z' := (DObj.mk y61.gen y61.kind (-1) y61.res y61.til y61.pages y61.wait y61.got y61.ran y61.mark y61.links y61.data y61.queue)) (o := 2) hS14 (i := 0) rfl hy61 ag3 rfl (by show _ = o55 + (s58.2 : Int).toNat * 13 + 2; omega) rfl rfl rfl rfl (leafF (fun w cs F hF => by obtain ⟨q0, r0, q1, r1, q2, r2, rfl, hH⟩ := hF; exact ⟨q0, r0, q1, r1, q2, r2, rfl, hH⟩)) ?_
          intro w88 hS15 hf
          rw [Option.some.inj hy87] at hS15
          refine go ?_
          replace h := Option.some.inj h
          subst h
          exact ⟨⟨rfl, (show (.slice (some ⟨b54, o55, none⟩) s58.1.length c3 : Value) = .slice (some ⟨b54, o55, none⟩) y87.length c3 by rw [show s58.1.length = y87.length from (len_set (Option.some.inj hy87))]), rfl, rfl, rfl, trivial⟩, hS15.pick [0] rfl rfl⟩
        replace h := bcF h hc86
        refine go ?_
        have hS16 := hS12.thaw (α := DObj) 0 rfl ho67
        cases oi h
        exact ⟨⟨rfl, rfl, rfl, rfl, rfl, trivial⟩, hS16.pick [0] rfl rfl⟩
      rintro e w89 ⟨hE, hS17⟩
      obtain ⟨e, rfl⟩ := hE.out
      have h := h85
      refine go ?_
      replace ⟨y90, hy90, h⟩ := obind h
      obtain ⟨b93, o94, hae, hp91, hq92⟩ := hS17.ownIdx (α := DObj) (i := 0) rfl hy90
      cases hae
      refine LW.u (Pur.ix Tryz.underlying59 sz92 rfl rfl hp91 hq92) rfl ?_
      refine go ?_
      obtain ⟨F95, ho96, hS18⟩ := hS17.freeze (α := DObj) 0 rfl
      obtain ⟨b97, o98, cs99, hae, hb102, _, _, hd100, hk101⟩ := ho96.rdF.idx hy90
      cases hae
      obtain ⟨a103, c104, a106, c107, a109, c110, rfl, hr105, hr108, hr111⟩ := hd100
      refine LW.fl [1, 6, 7, 39, 40, 63] fun e => ?_
      refine LW.l (Ldr.old w89 ag28 rfl (hk101 10 _ rfl)) (hS18.zC 0 rfl hb102) rfl ?_
      refine go ?_
      have hn112 := fun (j : Nat) (u : Value) (hu : ([.int .i64 y90.gen, .int .i64 y90.kind, .int .i64 y90.box, .int .i64 y90.res, .int .i64 y90.til, .int .i64 y90.pages, .int .i64 y90.wait, .int .i64 y90.got, .int .i64 y90.ran, .bool y90.mark, .slice a103 y90.links.length c104, .slice a106 y90.data.length c107, .slice a109 y90.queue.length c110] : List Value)[j]? = some u) => (World.cell?_of_block (hS18.zC 0 rfl hb102)).trans (hk101 j u hu)
      have hS19 := hS18.thaw (α := DObj) 0 rfl ho96
      obtain ⟨Fx113, ho114, hf115⟩ := hS19.focus (α := DObj) (cs := [.int .i64 y90.gen, .int .i64 y90.kind, .int .i64 y90.box, .int .i64 y90.res, .int .i64 y90.til, .int .i64 y90.pages, .int .i64 y90.wait, .int .i64 y90.got, .int .i64 y90.ran, .bool y90.mark, .slice a103 y90.links.length c104, .slice a106 y90.data.length c107, .slice a109 y90.queue.length c110]) 0 rfl hy90 rfl hn112
      obtain ⟨a118, c119, a120, c121, a122, c123, hc116, hH117⟩ := ho114
      cases hc116
      have hS20 := hf115 [sl a103 c104 y90.links, sl a106 c107 y90.data, sl a109 c110 y90.queue] hH117
      obtain ⟨o143, ho143, h144⟩ := obind h
      refine CW.mono (CW.iter (σ := (List Int) × Int) (ρ := (List Int) × Int) (fun s124 e wb => En e [(1, .int .i64 x1), (6, .slice (some ⟨b54, o55, none⟩) j84.length c3), (7, .int .i64 s58.2), (39, .int .i64 (y1.length : Int)), (40, .int .i64 s58.2), (64, .slice a103 s124.1.length c104), (65, .int .i64 (y90.links.length : Int)), (66, .int .i64 s124.2)] ∧ St w0 [] wb [sl a103 c104 s124.1, sl a106 c107 y90.data, sl a109 c110 y90.queue, hole DObj (some ⟨b54, o55, none⟩) c3 j84 (s58.2 : Int).toNat [.int .i64 y90.gen, .int .i64 y90.kind, .int .i64 y90.box, .int .i64 y90.res, .int .i64 y90.til, .int .i64 y90.pages, .int .i64 y90.wait, .int .i64 y90.got, .int .i64 y90.ran, .bool y90.mark, .slice a103 s124.1.length c104, .slice a106 y90.data.length c107, .slice a109 y90.queue.length c110]]) (fun s124 x e wb => x = .exit 2 ∧ En e [(1, .int .i64 x1), (6, .slice (some ⟨b54, o55, none⟩) j84.length c3), (39, .int .i64 (y1.length : Int)), (40, .int .i64 s58.2)] ∧ St w0 [] wb [sl a103 c104 s124.1, sl a106 c107 y90.data, sl a109 c110 y90.queue, hole DObj (some ⟨b54, o55, none⟩) c3 j84 (s58.2 : Int).toNat [.int .i64 y90.gen, .int .i64 y90.kind, .int .i64 y90.box, .int .i64 y90.res, .int .i64 y90.til, .int .i64 y90.pages, .int .i64 y90.wait, .int .i64 y90.got, .int .i64 y90.ran, .bool y90.mark, .slice a103 s124.1.length c104, .slice a106 y90.data.length c107, .slice a109 y90.queue.length c110]]) ?_ N (y90.links, 0) _ _ _ ⟨⟨rfl, rfl, rfl, rfl, rfl, rfl, rfl, rfl, trivial⟩, hS20.pick [0, 1, 2, 3] rfl rfl⟩ ho143) ?_
      · intro s124 e w125 o hM h
        obtain ⟨hE, hS21⟩ := hM
        obtain ⟨e, rfl⟩ := hE.out
        refine go ?_
        refine CW.cond rfl (fun hc126 => ?_) (fun hc126 => ?_)
        · replace h := bcT h hc126
          refine go ?_
          replace ⟨y127, hy127, h⟩ := obind h
          obtain ⟨b130, o131, hae, hp128, hq129⟩ := hS21.ownIdx (α := Int) (i := 0) rfl hy127
          subst hae
          refine LW.u (Pur.ix Tryz.underlying28 sz3 rfl rfl hp128 hq129) rfl ?_
          obtain ⟨F132, ho133, hS22⟩ := hS21.freeze (α := Int) 0 rfl
          obtain ⟨b134, o135, cs136, hae, hb139, _, _, hd137, hk138⟩ := ho133.rdF.idx hy127
          cases hae
          obtain rfl := hd137
          refine LW.l (Ldr.old w125 ag3 rfl (hk138 0 _ rfl)) (hS22.zC 0 rfl hb139) rfl ?_
          refine go ?_
          refine CW.fl [1, 6, 7, 8, 39, 40, 64, 65, 66, 73] fun e => ?_
          refine CW.cond rfl (fun hc140 => ?_) (fun hc140 => ?_)
          · replace h := bcT h hc140
            refine go ?_
            refine LW.u (Pur.ix Tryz.underlying59 sz92 rfl rfl hp91 hq92) rfl ?_
            refine go ?_
            refine LW.l (Ldr.old w125 ag28 rfl (hS22.holeC 3 rfl (j := 10) rfl)) rfl rfl ?_
            refine go ?_
            refine LW.u (Pur.ix Tryz.underlying28 sz3 rfl rfl hp128 hq129) rfl ?_
            have hS23 := hS22.thaw (α := Int) 0 rfl ho133
            replace ⟨y141, hy141, h⟩ := obind h
            refine LW.stE (M := []) (L := [sl (some ⟨b130, o131, none⟩) c104 s124.1, sl a106 c107 y90.data, sl a109 c110 y90.queue, hole DObj (some ⟨b54, o55, none⟩) c3 j84 (s58.2 : Int).toNat [.int .i64 y90.gen, .int .i64 y90.kind, .int .i64 y90.box, .int .i64 y90.res, .int .i64 y90.til, .int .i64 y90.pages, .int .i64 y90.wait, .int .i64 y90.got, .int .i64 y90.ran, .bool y90.mark, .slice (some ⟨b130, o131, none⟩) s124.1.length c104, .slice a106 y90.data.length c107, .slice a109 y90.queue.length c110]]) (z := y127) (z' := (-1)) (o := 0) hS23 (i := 0) rfl hy127 ag3 rfl (by show _ = o131 + (s124.2 : Int).toNat * 1 + 0; omega) rfl rfl rfl rfl (whole (fun w G hG => by cases (show G = [] from hG); exact ⟨rfl, rfl⟩)) ?_
            intro w142 hS24 hf
            rw [Option.some.inj hy141] at hS24
            refine go ?_
            replace h := Option.some.inj h
            subst h
            rw [show s124.1.length = y141.length from (len_set (Option.some.inj hy141))] at hS24
            exact ⟨rfl, ⟨⟨rfl, rfl, rfl, rfl, rfl, (show (.slice (some ⟨b130, o131, none⟩) s124.1.length c104 : Value) = .slice (some ⟨b130, o131, none⟩) y141.length c104 by rw [show s124.1.length = y141.length from (len_set (Option.some.inj hy141))]), rfl, rfl, trivial⟩, hS24.pick [0, 1, 2, 3] rfl rfl⟩⟩
          replace h := bcF h hc140
          refine go ?_
          have hS25 := hS22.thaw (α := Int) 0 rfl ho133
          cases oi h
          exact ⟨rfl, ⟨⟨rfl, rfl, rfl, rfl, rfl, rfl, rfl, rfl, trivial⟩, hS25.pick [0, 1, 2, 3] rfl rfl⟩⟩
        replace h := bcF h hc126
        refine go ?_
        cases oi h
        exact ⟨trivial, rfl, ⟨⟨rfl, rfl, rfl, rfl, trivial⟩, hS21.pick [0, 1, 2, 3] rfl rfl⟩⟩
      intro x e w145 hM
      obtain ⟨rfl, hM⟩ := hM
      obtain ⟨hE, hS26⟩ := hM
      obtain ⟨e, rfl⟩ := hE.out
      have h := h144
      refine go ?_
      replace h := Option.some.inj h
      subst h
      have hS27 := hS26.pick (M := [sl a103 c104 o143.1, sl a106 c107 y90.data, sl a109 c110 y90.queue] ++ [hole DObj (some ⟨b54, o55, none⟩) c3 j84 (s58.2 : Int).toNat [.int .i64 y90.gen, .int .i64 y90.kind, .int .i64 y90.box, .int .i64 y90.res, .int .i64 y90.til, .int .i64 y90.pages, .int .i64 y90.wait, .int .i64 y90.got, .int .i64 y90.ran, .bool y90.mark, .slice a103 o143.1.length c104, .slice a106 y90.data.length c107, .slice a109 y90.queue.length c110]]) [0, 1, 2, 3] rfl rfl
      have hS28 := hS27.unfocus (M := [sl a103 c104 o143.1, sl a106 c107 y90.data, sl a109 c110 y90.queue]) (L := [hole DObj (some ⟨b54, o55, none⟩) c3 j84 (s58.2 : Int).toNat [.int .i64 y90.gen, .int .i64 y90.kind, .int .i64 y90.box, .int .i64 y90.res, .int .i64 y90.til, .int .i64 y90.pages, .int .i64 y90.wait, .int .i64 y90.got, .int .i64 y90.ran, .bool y90.mark, .slice a103 o143.1.length c104, .slice a106 y90.data.length c107, .slice a109 y90.queue.length c110]]) (y := (DObj.mk y90.gen y90.kind y90.box y90.res y90.til y90.pages y90.wait y90.got y90.ran y90.mark o143.1 y90.data y90.queue)) 0 rfl (fun w G hG => ⟨a103, c104, a106, c107, a109, c110, rfl, hG⟩)
      exact ⟨rfl, ⟨⟨rfl, (show (.slice (some ⟨b54, o55, none⟩) j84.length c3 : Value) = .slice (some ⟨b54, o55, none⟩) ((j84.set (s58.2 : Int).toNat (DObj.mk y90.gen y90.kind y90.box y90.res y90.til y90.pages y90.wait y90.got y90.ran y90.mark o143.1 y90.data y90.queue)).length) c3 by rw [show j84.length = (j84.set (s58.2 : Int).toNat (DObj.mk y90.gen y90.kind y90.box y90.res y90.til y90.pages y90.wait y90.got y90.ran y90.mark o143.1 y90.data y90.queue)).length from (len_set rfl)]), rfl, rfl, trivial⟩, hS28.pick [0] rfl rfl⟩⟩
    replace h := bcF h hc60
    refine go ?_
    cases oi h
    exact ⟨trivial, rfl, ⟨⟨rfl, trivial⟩, hS11.pick [0] rfl rfl⟩⟩
  intro x e w148 hM
  obtain ⟨rfl, hM⟩ := hM
  obtain ⟨hE, hS29⟩ := hM
  obtain ⟨e, rfl⟩ := hE.out
  have h := h147
  refine go ?_
  cases h
  exact And.intro trivial ⟨_, Res.two (resOne.t rfl) (resOne.t rfl), (some ⟨b54, o55, none⟩), c3, rfl, hS29.pick [0] rfl rfl⟩

theorem W_s_GcStep {w0 : World} {N : Nat} {x0 : DHeap} {x1 : Int} {r : DHeap × Int} (h : F_s_GcStep N x0 x1 = some r) {a0_0 : Option Addr} {n0_0 c0_0 : Nat} (hn0_0 : n0_0 = x0.arena.length) (hr0_0 : rdS (Bor w0 []) w0 a0_0 c0_0 x0.arena) {a0_4 : Option Addr} {n0_4 c0_4 : Nat} (hn0_4 : n0_4 = x0.gc.grey.length) (hr0_4 : rdS (Bor w0 []) w0 a0_4 c0_4 x0.gc.grey) :
    Ret Tryz.prog 98 #[.agg #[.slice a0_0 n0_0 c0_0, .int .i64 x0.gc.phase, .int .i64 x0.gc.pos, .int .i64 x0.gc.round, .slice a0_4 n0_4 c0_4], .int .i64 x1] w0 (fun v w => ∃ ar0_0 cr0_0, ∃ ar0_4 cr0_4, v = .tuple #[.agg #[.slice ar0_0 r.1.arena.length cr0_0, .int .i64 r.1.gc.phase, .int .i64 r.1.gc.pos, .int .i64 r.1.gc.round, .slice ar0_4 r.1.gc.grey.length cr0_4], .int .i64 r.2] ∧ St w0 [] w [sl ar0_0 cr0_0 r.1.arena, sl ar0_4 cr0_4 r.1.gc.grey]) := by
  subst hn0_0 hn0_4
  unfold F_s_GcStep at h
  refine Ret.fn Tryz.func98 fun e => ?_
  have hS1 := St.start w0
  refine go ?_
  refine LW.bo hS1 fun g1 w2 hS2 => ?_
  refine LW.al hS2 fun g3 w4 hS3 => ?_
  refine go ?_
  replace ⟨y5, hy5, h⟩ := obind h
  refine LW.cl (W_s_l10Copy hy5 rfl (hS3.rB hr0_0) rfl (hS3.rB hr0_4)) ?_
  rintro _ w10 ⟨a6, c7, a8, c9, rfl, hs⟩
  have hS4 := hS3.add hs
  refine LW.al hS4 fun g11 w12 hS5 => ?_
  refine LW.st hS5 0 fun w13 hS6 => ?_
  refine go ?_
  replace ⟨y14, hy14, h⟩ := obind h
  refine LW.c0 (W_s_HeapOk hy14 rfl (hS6.rB hr0_0) rfl (hS6.rB hr0_4)) hS6 fun w15 hS7 => ?_
  refine go ?_
  refine CW.cond rfl (fun hc16 => ?_) (fun hc16 => ?_)
  · replace h := bcT h hc16
    refine go ?_
    refine LW.st hS7 3 fun w17 hS8 => ?_
    refine go ?_
    cases h
    exact And.intro trivial ⟨_, Res.two (resOne.b hS8 3 rfl ag62 rfl rfl) (resOne.t rfl), a6, c7, a8, c9, rfl, hS8.pick [1, 2] rfl rfl⟩
  replace h := bcF h hc16
  refine go ?_
  refine CW.fl [1, 2, 4, 6, 21] fun e => ?_
  refine CW.cond rfl (fun hc18 => ?_) (fun hc18 => ?_)
  · replace h := bcT h hc18
    refine go ?_
    replace ⟨y19, hy19, h⟩ := obind h
    have hS9 := hS7.pick (M := [sl a6 c7 y5.arena, sl a8 c9 y5.gc.grey] ++ [bx g11 62 [.slice a6 y5.arena.length c7, .int .i64 y5.gc.phase, .int .i64 y5.gc.pos, .int .i64 y5.gc.round, .slice a8 y5.gc.grey.length c9], bx g3 62 [.slice none 0 0, .int .i64 0, .int .i64 0, .int .i64 0, .slice none 0 0], bx g1 62 [.slice a0_0 x0.arena.length c0_0, .int .i64 x0.gc.phase, .int .i64 x0.gc.pos, .int .i64 x0.gc.round, .slice a0_4 x0.gc.grey.length c0_4]]) [1, 2, 0, 3, 4] rfl rfl
    obtain ⟨F20, hL21⟩ := St.lend (L := [sl a6 c7 y5.arena, sl a8 c9 y5.gc.grey]) (M := [bx g11 62 [.slice a6 y5.arena.length c7, .int .i64 y5.gc.phase, .int .i64 y5.gc.pos, .int .i64 y5.gc.round, .slice a8 y5.gc.grey.length c9], bx g3 62 [.slice none 0 0, .int .i64 0, .int .i64 0, .int .i64 0, .slice none 0 0], bx g1 62 [.slice a0_0 x0.arena.length c0_0, .int .i64 x0.gc.phase, .int .i64 x0.gc.pos, .int .i64 x0.gc.round, .slice a0_4 x0.gc.grey.length c0_4]]) hS9
    refine LW.cl (W_s_l10Mark hy19 rfl rfl hL21.st) ?_
    rintro _ w26 ⟨a22, c23, a24, c25, rfl, hs⟩
    have hS10 := hL21.back _ _ hs
    refine LW.st hS10 3 fun w27 hS11 => ?_
    refine go ?_
    cases h
    exact And.intro trivial ⟨_, Res.two (resOne.b hS11 3 rfl ag62 rfl rfl) (resOne.t rfl), a22, c23, a24, c25, rfl, hS11.pick [0, 1] rfl rfl⟩
  replace h := bcF h hc18
  refine go ?_
  replace ⟨y28, hy28, h⟩ := obind h
  obtain ⟨b31, o32, cs33, hae, hb36, hp29, hq30, hd34, hk35⟩ := hr0_0.idx hy28
  subst hae
  obtain ⟨a37, c38, a40, c41, a43, c44, rfl, hr39, hr42, hr45⟩ := hd34
  refine LW.u (Pur.ix Tryz.underlying59 sz92 rfl rfl hp29 hq30) rfl ?_
  refine LW.l (Ldr.oldN w0 ag92 rfl rfl (fun j u hu => hk35 j u hu)) (hS7.same _ hb36.1 hb36.2) rfl ?_
  refine LW.al hS7 fun g46 w47 hS12 => ?_
  refine LW.st hS12 0 fun w48 hS13 => ?_
  refine gs ?_
  obtain ⟨j49, hj49, h50⟩ := obind h
  refine CW.cut (fun e wb => En e [(2, .pointer (some ⟨g1, 0, none⟩)), (4, .pointer (some ⟨g3, 0, none⟩)), (6, .pointer (some ⟨g11, 0, none⟩)), (7, .int .i64 x0.gc.pos), (8, .int .i64 (-1)), (9, .pointer (some ⟨g46, 0, none⟩)), (49, .bool j49)] ∧ St w0 [] wb [bx g46 92 [.int .i64 y28.gen, .int .i64 y28.kind, .int .i64 y28.box, .int .i64 y28.res, .int .i64 y28.til, .int .i64 y28.pages, .int .i64 y28.wait, .int .i64 y28.got, .int .i64 y28.ran, .bool y28.mark, .slice a37 y28.links.length c38, .slice a40 y28.data.length c41, .slice a43 y28.queue.length c44], bx g11 62 [.slice a6 y5.arena.length c7, .int .i64 y5.gc.phase, .int .i64 y5.gc.pos, .int .i64 y5.gc.round, .slice a8 y5.gc.grey.length c9], sl a6 c7 y5.arena, sl a8 c9 y5.gc.grey, bx g3 62 [.slice none 0 0, .int .i64 0, .int .i64 0, .int .i64 0, .slice none 0 0], bx g1 62 [.slice (some ⟨b31, o32, none⟩) x0.arena.length c0_0, .int .i64 x0.gc.phase, .int .i64 x0.gc.pos, .int .i64 x0.gc.round, .slice a0_4 x0.gc.grey.length c0_4]]) ?_ ?_
  · have h := hj49
    refine go ?_
    rcases bcases (decide (x0.gc.pos > 0)) with hc51 | hc51
    · replace h := bcT h hc51
      refine go ?_
      rcases bcases (y28.kind != 0) with hc52 | hc52
      · replace h := bcT h hc52
        refine go ?_
        refine LW.fl [1, 2, 4, 6, 7, 8, 9, 40, 44] fun e => ?_
        rcases bcases (!y28.mark) with hc53 | hc53
        · replace h := bcT h hc53
          refine go ?_
          cases oi h
          exact ⟨⟨rfl, rfl, rfl, rfl, rfl, rfl, rfl, trivial⟩, hS13.pick [0, 1, 2, 3, 4, 5] rfl rfl⟩
        replace h := bcF h hc53
        refine go ?_
        replace ⟨y54, hy54, h⟩ := obind h
        refine go ?_
        refine LW.c0 (W_s_Expired hy54 rfl (hS13.rB hr39) rfl (hS13.rB hr42) rfl (hS13.rB hr45)) hS13 fun w55 hS14 => ?_
        refine go ?_
        cases oi h
        exact ⟨⟨rfl, rfl, rfl, rfl, rfl, rfl, rfl, trivial⟩, hS14.pick [0, 1, 2, 3, 4, 5] rfl rfl⟩
      replace h := bcF h hc52
      refine go ?_
      cases oi h
      exact ⟨⟨rfl, rfl, rfl, rfl, rfl, rfl, rfl, trivial⟩, hS13.pick [0, 1, 2, 3, 4, 5] rfl rfl⟩
    replace h := bcF h hc51
    refine go ?_
    cases oi h
    exact ⟨⟨rfl, rfl, rfl, rfl, rfl, rfl, rfl, trivial⟩, hS13.pick [0, 1, 2, 3, 4, 5] rfl rfl⟩
  rintro e w56 ⟨hE, hS15⟩
  obtain ⟨e, rfl⟩ := hE.out
  have h := h50
  refine gs ?_
  obtain ⟨j57, hj57, h58⟩ := obind h
  refine CW.cut (fun e wb => ∃ (j57a0 : Option Addr), ∃ (j57c0 : Nat), En e [(2, .pointer (some ⟨g1, 0, none⟩)), (4, .pointer (some ⟨g3, 0, none⟩)), (6, .pointer (some ⟨g11, 0, none⟩)), (7, .int .i64 x0.gc.pos), (8, .int .i64 j57.1)] ∧ St w0 [] wb [bx g11 62 [.slice j57a0 j57.2.length j57c0, .int .i64 y5.gc.phase, .int .i64 y5.gc.pos, .int .i64 y5.gc.round, .slice a8 y5.gc.grey.length c9], sl a8 c9 y5.gc.grey, bx g3 62 [.slice none 0 0, .int .i64 0, .int .i64 0, .int .i64 0, .slice none 0 0], bx g1 62 [.slice (some ⟨b31, o32, none⟩) x0.arena.length c0_0, .int .i64 x0.gc.phase, .int .i64 x0.gc.pos, .int .i64 x0.gc.round, .slice a0_4 x0.gc.grey.length c0_4], sl j57a0 j57c0 j57.2]) ?_ ?_
  · have h := hj57
    refine CW.fl [2, 4, 6, 7, 8, 9, 49] fun e => ?_
    refine CW.cond rfl (fun hc59 => ?_) (fun hc59 => ?_)
    · replace h := bcT h hc59
      refine go ?_
      replace ⟨y60, hy60, h⟩ := obind h
      refine LW.cl (W_s_ArenaFree hy60 rfl (hS15.rI 2 rfl)) ?_
      rintro _ w63 ⟨a61, c62, rfl, hs⟩
      have hS16 := hS15.add hs
      refine go ?_
      refine LW.st hS16 2 fun w64 hS17 => ?_
      refine go ?_
      cases oi h
      exact ⟨a61, c62, ⟨rfl, rfl, rfl, rfl, rfl, trivial⟩, hS17.pick [2, 4, 5, 6, 0] rfl rfl⟩
    replace h := bcF h hc59
    refine go ?_
    refine CW.cond rfl (fun hc65 => ?_) (fun hc65 => ?_)
    · replace h := bcT h hc65
      refine go ?_
      replace ⟨y66, hy66, h⟩ := obind h
      obtain ⟨b69, o70, hae, hp67, hq68⟩ := hS15.ownIdx (α := DObj) (i := 2) rfl hy66
      subst hae
      refine LW.u (Pur.ix Tryz.underlying59 sz92 rfl rfl hp67 hq68) rfl ?_
      refine go ?_
      replace ⟨y71, hy71, h⟩ := obind h
      refine LW.stE (M := []) (L := [bx g46 92 [.int .i64 y28.gen, .int .i64 y28.kind, .int .i64 y28.box, .int .i64 y28.res, .int .i64 y28.til, .int .i64 y28.pages, .int .i64 y28.wait, .int .i64 y28.got, .int .i64 y28.ran, .bool y28.mark, .slice a37 y28.links.length c38, .slice a40 y28.data.length c41, .slice a43 y28.queue.length c44], bx g11 62 [.slice (some ⟨b69, o70, none⟩) y5.arena.length c7, .int .i64 y5.gc.phase, .int .i64 y5.gc.pos, .int .i64 y5.gc.round, .slice a8 y5.gc.grey.length c9], sl (some ⟨b69, o70, none⟩) c7 y5.arena, sl a8 c9 y5.gc.grey, bx g3 62 [.slice none 0 0, .int .i64 0, .int .i64 0, .int .i64 0, .slice none 0 0], bx g1 62 [.slice (some ⟨b31, o32, none⟩) x0.arena.length c0_0, .int .i64 x0.gc.phase, .int .i64 x0.gc.pos, .int .i64 x0.gc.round, .slice a0_4 x0.gc.grey.length c0_4]]) (z := y66) (z' := (DObj.mk y66.gen y66.kind y66.box y66.res y66.til y66.pages y66.wait y66.got y66.ran false y66.links y66.data y66.queue)) (o := 9) hS15 (i := 2) rfl hy66 ag4 rfl (by show _ = o70 + (x0.gc.pos : Int).toNat * 13 + 9; omega) rfl rfl rfl rfl (leafF (fun w cs F hF => by obtain ⟨q0, r0, q1, r1, q2, r2, rfl, hH⟩ := hF; exact ⟨q0, r0, q1, r1, q2, r2, rfl, hH⟩)) ?_
      intro w72 hS18 hf
      rw [Option.some.inj hy71] at hS18
      refine go ?_
      rw [show y5.arena.length = y71.length from (len_set (Option.some.inj hy71))] at hS18
      cases oi h
      exact ⟨(some ⟨b69, o70, none⟩), c7, ⟨rfl, rfl, rfl, rfl, rfl, trivial⟩, hS18.pick [1, 3, 4, 5, 2] rfl rfl⟩
    replace h := bcF h hc65
    refine go ?_
    cases oi h
    exact ⟨a6, c7, ⟨rfl, rfl, rfl, rfl, rfl, trivial⟩, hS15.pick [1, 3, 4, 5, 2] rfl rfl⟩
  rintro e w73 ⟨j57a0, j57c0, hE, hS19⟩
  obtain ⟨e, rfl⟩ := hE.out
  have h := h58
  refine go ?_
  refine LW.st hS19 0 fun w74 hS20 => ?_
  refine gs ?_
  refine CW.region ?_
  refine gs ?_
  obtain ⟨j75, hj75, h76⟩ := obind h
  refine CW.cut (fun e wb => ∃ (j75a0 : Option Addr), ∃ (j75c0 : Nat), En e [(4, .pointer (some ⟨g3, 0, none⟩)), (6, .pointer (some ⟨g11, 0, none⟩)), (8, .int .i64 j57.1)] ∧ St w0 [] wb [bx g11 62 [.slice j57a0 j75.1.length j57c0, .int .i64 j75.2.1, .int .i64 j75.2.2.1, .int .i64 j75.2.2.2.1, .slice j75a0 j75.2.2.2.2.length j75c0], bx g3 62 [.slice none 0 0, .int .i64 0, .int .i64 0, .int .i64 0, .slice none 0 0], sl j57a0 j57c0 j75.1, sl j75a0 j75c0 j75.2.2.2.2]) ?_ ?_
  · have h := hj75
    refine CW.fl [2, 4, 6, 8, 75] fun e => ?_
    refine CW.cond rfl (fun hc77 => ?_) (fun hc77 => ?_)
    · replace h := bcT h hc77
      refine go ?_
      refine LW.u (Pur.min rfl rfl) rfl ?_
      refine LW.bsl (α := Int) (vs := [(0, .int .i64 0)]) (cs := #[.int .i64 0]) (l := ([0] : List Int)) rfl (by kernel_rfl) rfl rfl rfl (fun w => ⟨[.int .i64 0], [], [], [], rfl, rfl, ⟨rfl, rfl⟩, rfl⟩) hS20 rfl ?_
      intro a78 c79 w80 hS21 hf
      refine LW.u (Pur.build (vs := [(2, .int .i64 (if 1000000 < IntKind.i64.wrap (x0.gc.round + 1) then 1000000 else IntKind.i64.wrap (x0.gc.round + 1))), (3, .slice a78 (([0] : List Int).length) c79)]) (cs := #[.int .i64 0, .int .i64 0, .int .i64 (if 1000000 < IntKind.i64.wrap (x0.gc.round + 1) then 1000000 else IntKind.i64.wrap (x0.gc.round + 1)), .slice a78 (([0] : List Int).length) c79]) rfl (by kernel_rfl)) rfl ?_
      refine go ?_
      refine LW.st hS21 1 fun w81 hS22 => ?_
      refine go ?_
      replace ⟨y82, hy82, h⟩ := obind h
      obtain ⟨b85, o86, hae, hp83, hq84⟩ := hS22.ownIdx (α := DObj) (i := 5) rfl hy82
      subst hae
      refine LW.u (Pur.ix Tryz.underlying59 sz92 rfl rfl hp83 hq84) rfl ?_
      refine go ?_
      replace ⟨y87, hy87, h⟩ := obind h
      refine LW.stE (M := []) (L := [sl a78 c79 ([0] : List Int), bx g11 62 [.slice (some ⟨b85, o86, none⟩) j57.2.length j57c0, .int .i64 0, .int .i64 0, .int .i64 (if 1000000 < IntKind.i64.wrap (x0.gc.round + 1) then 1000000 else IntKind.i64.wrap (x0.gc.round + 1)), .slice a78 (([0] : List Int).length) c79], sl a8 c9 y5.gc.grey, bx g3 62 [.slice none 0 0, .int .i64 0, .int .i64 0, .int .i64 0, .slice none 0 0], bx g1 62 [.slice (some ⟨b31, o32, none⟩) x0.arena.length c0_0, .int .i64 x0.gc.phase, .int .i64 x0.gc.pos, .int .i64 x0.gc.round, .slice a0_4 x0.gc.grey.length c0_4], sl (some ⟨b85, o86, none⟩) j57c0 j57.2]) (z := y82) (z' := (DObj.mk y82.gen y82.kind y82.box y82.res y82.til y82.pages y82.wait y82.got y82.ran true y82.links y82.data y82.queue)) (o := 9) hS22 (i := 5) rfl hy82 ag4 rfl (by show _ = o86 + (0 : Int).toNat * 13 + 9; omega) rfl rfl rfl rfl (leafF (fun w cs F hF => by obtain ⟨q0, r0, q1, r1, q2, r2, rfl, hH⟩ := hF; exact ⟨q0, r0, q1, r1, q2, r2, rfl, hH⟩)) ?_
      intro w88 hS23 hf
      rw [Option.some.inj hy87] at hS23
      refine go ?_
      rw [show j57.2.length = y87.length from (len_set (Option.some.inj hy87))] at hS23
      cases oi h
      exact ⟨a78, c79, ⟨rfl, rfl, rfl, trivial⟩, hS23.pick [1, 3, 5, 0] rfl rfl⟩
    replace h := bcF h hc77
    refine go ?_
    cases oi h
    exact ⟨a8, c9, ⟨rfl, rfl, rfl, trivial⟩, hS20.pick [0, 2, 4, 1] rfl rfl⟩
  rintro e w89 ⟨j75a0, j75c0, hE, hS24⟩
  obtain ⟨e, rfl⟩ := hE.out
  have h := h76
  refine go ?_
  refine LW.st hS24 1 fun w90 hS25 => ?_
  refine go ?_
  cases h
  exact And.intro trivial ⟨_, Res.two (resOne.b hS25 1 rfl ag62 rfl rfl) (resOne.t rfl), j57a0, j57c0, j75a0, j75c0, rfl, hS25.pick [2, 3] rfl rfl⟩

theorem W_i_sweepStep {w0 : World} {F : List Nat} {N : Nat} {x0 : DHeap} {x1 : Int} {r : DHeap × Int} (h : F_i_sweepStep N x0 x1 = some r) {a0_0 : Option Addr} {n0_0 c0_0 : Nat} (hn0_0 : n0_0 = x0.arena.length) {a0_4 : Option Addr} {n0_4 c0_4 : Nat} (hn0_4 : n0_4 = x0.gc.grey.length) (hS : St w0 F w0 [sl a0_0 c0_0 x0.arena, sl a0_4 c0_4 x0.gc.grey]) :
    Ret Tryz.prog 170 #[.agg #[.slice a0_0 n0_0 c0_0, .int .i64 x0.gc.phase, .int .i64 x0.gc.pos, .int .i64 x0.gc.round, .slice a0_4 n0_4 c0_4], .int .i64 x1] w0 (fun v w => ∃ ar0_0 cr0_0, ∃ ar0_4 cr0_4, v = .tuple #[.agg #[.slice ar0_0 r.1.arena.length cr0_0, .int .i64 r.1.gc.phase, .int .i64 r.1.gc.pos, .int .i64 r.1.gc.round, .slice ar0_4 r.1.gc.grey.length cr0_4], .int .i64 r.2] ∧ St w0 F w [sl ar0_0 cr0_0 r.1.arena, sl ar0_4 cr0_4 r.1.gc.grey]) := by
  subst hn0_0 hn0_4
  unfold F_i_sweepStep at h
  refine Ret.fn Tryz.func170 fun e => ?_
  refine go ?_
  refine LW.bo hS fun g1 w2 hS1 => ?_
  refine LW.al hS1 fun g3 w4 hS2 => ?_
  refine go ?_
  replace ⟨y5, hy5, h⟩ := obind h
  obtain ⟨b8, o9, hae, hp6, hq7⟩ := hS2.ownIdx (α := DObj) (i := 2) rfl hy5
  subst hae
  refine LW.u (Pur.ix Tryz.underlying59 sz92 rfl rfl hp6 hq7) rfl ?_
  obtain ⟨F10, ho11, hS3⟩ := hS2.freeze (α := DObj) 2 rfl
  obtain ⟨b12, o13, cs14, hae, hb17, _, _, hd15, hk16⟩ := ho11.rdF.idx hy5
  cases hae
  obtain ⟨a18, c19, a21, c22, a24, c25, rfl, hr20, hr23, hr26⟩ := hd15
  refine LW.l (Ldr.oldN w4 ag92 rfl rfl (fun j u hu => hk16 j u hu)) (hS3.zC 2 rfl hb17) rfl ?_
  refine LW.al hS3 fun g27 w28 hS4 => ?_
  refine LW.st hS4 0 fun w29 hS5 => ?_
  refine gs ?_
  refine CW.region ?_
  refine gs ?_
  obtain ⟨j30, hj30, h31⟩ := obind h
  refine CW.cut (fun e wb => En e [(2, .pointer (some ⟨g1, 0, none⟩)), (4, .pointer (some ⟨g3, 0, none⟩)), (6, .int .i64 x0.gc.pos), (8, .int .i64 (-1)), (33, .bool j30)] ∧ St w0 F wb [bx g3 62 [.slice none 0 0, .int .i64 0, .int .i64 0, .int .i64 0, .slice none 0 0], bx g1 62 [.slice (some ⟨b8, o9, none⟩) x0.arena.length c0_0, .int .i64 x0.gc.phase, .int .i64 x0.gc.pos, .int .i64 x0.gc.round, .slice a0_4 x0.gc.grey.length c0_4], fz w4 F10, sl a0_4 c0_4 x0.gc.grey]) ?_ ?_
  · have h := hj30
    refine go ?_
    rcases bcases (x0.gc.pos != 0) with hc32 | hc32
    · replace h := bcT h hc32
      refine go ?_
      refine LW.fl [1, 2, 4, 6, 7, 8, 24] fun e => ?_
      rcases bcases (y5.kind != 0) with hc33 | hc33
      · replace h := bcT h hc33
        refine go ?_
        replace ⟨y34, hy34, h⟩ := obind h
        refine go ?_
        refine LW.c0 (W_i_Expired hy34 rfl (hS5.rZ 3 rfl hr20) rfl (hS5.rZ 3 rfl hr23) rfl (hS5.rZ 3 rfl hr26)) hS5 fun w35 hS6 => ?_
        refine go ?_
        rcases bcases y34 with hc36 | hc36
        · replace h := bcT h hc36
          refine go ?_
          cases oi h
          exact ⟨⟨rfl, rfl, rfl, rfl, rfl, trivial⟩, hS6.pick [1, 2, 3, 4] rfl rfl⟩
        replace h := bcF h hc36
        refine go ?_
        cases oi h
        exact ⟨⟨rfl, rfl, rfl, rfl, rfl, trivial⟩, hS6.pick [1, 2, 3, 4] rfl rfl⟩
      replace h := bcF h hc33
      refine go ?_
      cases oi h
      exact ⟨⟨rfl, rfl, rfl, rfl, rfl, trivial⟩, hS5.pick [1, 2, 3, 4] rfl rfl⟩
    replace h := bcF h hc32
    refine go ?_
    cases oi h
    exact ⟨⟨rfl, rfl, rfl, rfl, rfl, trivial⟩, hS5.pick [1, 2, 3, 4] rfl rfl⟩
  rintro e w37 ⟨hE, hS7⟩
  obtain ⟨e, rfl⟩ := hE.out
  have h := h31
  refine gs ?_
  obtain ⟨j38, hj38, h39⟩ := obind h
  refine CW.cut (fun e wb => ∃ (j38a0 : Option Addr), ∃ (j38c0 : Nat), En e [(2, .pointer (some ⟨g1, 0, none⟩)), (4, .pointer (some ⟨g3, 0, none⟩)), (8, .int .i64 j38.1)] ∧ St w0 F wb [bx g3 62 [.slice none 0 0, .int .i64 0, .int .i64 0, .int .i64 0, .slice none 0 0], bx g1 62 [.slice j38a0 j38.2.length j38c0, .int .i64 x0.gc.phase, .int .i64 x0.gc.pos, .int .i64 x0.gc.round, .slice a0_4 x0.gc.grey.length c0_4], sl a0_4 c0_4 x0.gc.grey, sl j38a0 j38c0 j38.2]) ?_ ?_
  · have h := hj38
    refine CW.fl [2, 4, 6, 8, 33] fun e => ?_
    refine CW.cond rfl (fun hc40 => ?_) (fun hc40 => ?_)
    · replace h := bcT h hc40
      refine go ?_
      replace ⟨y41, hy41, h⟩ := obind h
      refine LW.cl (W_i_ArenaFree hy41 rfl (hS7.rZ 2 rfl ho11.rdF)) ?_
      rintro _ w44 ⟨a42, c43, rfl, hs⟩
      have hS8 := hS7.add hs
      refine go ?_
      refine LW.st hS8 2 fun w45 hS9 => ?_
      refine go ?_
      cases oi h
      exact ⟨a42, c43, ⟨rfl, rfl, rfl, trivial⟩, hS9.pick [1, 2, 4, 0] rfl rfl⟩
    replace h := bcF h hc40
    refine go ?_
    refine LW.u (Pur.ix Tryz.underlying59 sz92 rfl rfl hp6 hq7) rfl ?_
    refine go ?_
    have hS10 := hS7.thaw (α := DObj) 2 rfl ho11
    replace ⟨y46, hy46, h⟩ := obind h
    refine LW.stE (M := []) (L := [bx g3 62 [.slice none 0 0, .int .i64 0, .int .i64 0, .int .i64 0, .slice none 0 0], bx g1 62 [.slice (some ⟨b8, o9, none⟩) x0.arena.length c0_0, .int .i64 x0.gc.phase, .int .i64 x0.gc.pos, .int .i64 x0.gc.round, .slice a0_4 x0.gc.grey.length c0_4], sl (some ⟨b8, o9, none⟩) c0_0 x0.arena, sl a0_4 c0_4 x0.gc.grey]) (z := y5) (z' := (DObj.mk y5.gen y5.kind y5.box y5.res y5.til y5.pages y5.wait y5.got y5.ran false y5.links y5.data y5.queue)) (o := 9) hS10 (i := 2) rfl hy5 ag4 rfl (by show _ = o9 + (x0.gc.pos : Int).toNat * 13 + 9; omega) rfl rfl rfl rfl (leafF (fun w cs F hF => by obtain ⟨q0, r0, q1, r1, q2, r2, rfl, hH⟩ := hF; exact ⟨q0, r0, q1, r1, q2, r2, rfl, hH⟩)) ?_
    intro w47 hS11 hf
    rw [Option.some.inj hy46] at hS11
    refine go ?_
    rw [show x0.arena.length = y46.length from (len_set (Option.some.inj hy46))] at hS11
    cases oi h
    exact ⟨(some ⟨b8, o9, none⟩), c0_0, ⟨rfl, rfl, rfl, trivial⟩, hS11.pick [0, 1, 3, 2] rfl rfl⟩
  rintro e w48 ⟨j38a0, j38c0, hE, hS12⟩
  obtain ⟨e, rfl⟩ := hE.out
  have h := h39
  refine go ?_
  refine LW.st hS12 1 fun w49 hS13 => ?_
  refine gs ?_
  refine CW.region ?_
  refine gs ?_
  obtain ⟨j50, hj50, h51⟩ := obind h
  refine CW.cut (fun e wb => ∃ (j50a0 : Option Addr), ∃ (j50c0 : Nat), En e [(2, .pointer (some ⟨g1, 0, none⟩)), (4, .pointer (some ⟨g3, 0, none⟩)), (8, .int .i64 j38.1)] ∧ St w0 F wb [bx g3 62 [.slice none 0 0, .int .i64 0, .int .i64 0, .int .i64 0, .slice none 0 0], bx g1 62 [.slice j38a0 j50.1.length j38c0, .int .i64 j50.2.1, .int .i64 j50.2.2.1, .int .i64 j50.2.2.2.1, .slice j50a0 j50.2.2.2.2.length j50c0], sl j38a0 j38c0 j50.1, sl j50a0 j50c0 j50.2.2.2.2]) ?_ ?_
  · have h := hj50
    refine CW.fl [2, 4, 8, 57] fun e => ?_
    refine CW.cond rfl (fun hc52 => ?_) (fun hc52 => ?_)
    · replace h := bcT h hc52
      refine go ?_
      refine LW.u (Pur.min rfl rfl) rfl ?_
      refine LW.bsl (α := Int) (vs := [(0, .int .i64 0)]) (cs := #[.int .i64 0]) (l := ([0] : List Int)) rfl (by kernel_rfl) rfl rfl rfl (fun w => ⟨[.int .i64 0], [], [], [], rfl, rfl, ⟨rfl, rfl⟩, rfl⟩) hS13 rfl ?_
      intro a53 c54 w55 hS14 hf
      refine LW.u (Pur.build (vs := [(2, .int .i64 (if 1000000 < IntKind.i64.wrap (x0.gc.round + 1) then 1000000 else IntKind.i64.wrap (x0.gc.round + 1))), (3, .slice a53 (([0] : List Int).length) c54)]) (cs := #[.int .i64 0, .int .i64 0, .int .i64 (if 1000000 < IntKind.i64.wrap (x0.gc.round + 1) then 1000000 else IntKind.i64.wrap (x0.gc.round + 1)), .slice a53 (([0] : List Int).length) c54]) rfl (by kernel_rfl)) rfl ?_
      refine go ?_
      refine LW.st hS14 2 fun w56 hS15 => ?_
      refine go ?_
      replace ⟨y57, hy57, h⟩ := obind h
      obtain ⟨b60, o61, hae, hp58, hq59⟩ := hS15.ownIdx (α := DObj) (i := 4) rfl hy57
      subst hae
      refine LW.u (Pur.ix Tryz.underlying59 sz92 rfl rfl hp58 hq59) rfl ?_
      refine go ?_
      replace ⟨y62, hy62, h⟩ := obind h
      refine LW.stE (M := []) (L := [sl a53 c54 ([0] : List Int), bx g3 62 [.slice none 0 0, .int .i64 0, .int .i64 0, .int .i64 0, .slice none 0 0], bx g1 62 [.slice (some ⟨b60, o61, none⟩) j38.2.length j38c0, .int .i64 0, .int .i64 0, .int .i64 (if 1000000 < IntKind.i64.wrap (x0.gc.round + 1) then 1000000 else IntKind.i64.wrap (x0.gc.round + 1)), .slice a53 (([0] : List Int).length) c54], sl a0_4 c0_4 x0.gc.grey, sl (some ⟨b60, o61, none⟩) j38c0 j38.2]) (z := y57) (z' := (DObj.mk y57.gen y57.kind y57.box y57.res y57.til y57.pages y57.wait y57.got y57.ran true y57.links y57.data y57.queue)) (o := 9) hS15 (i := 4) rfl hy57 ag4 rfl (by show _ = o61 + (0 : Int).toNat * 13 + 9; omega) rfl rfl rfl rfl (leafF (fun w cs F hF => by obtain ⟨q0, r0, q1, r1, q2, r2, rfl, hH⟩ := hF; exact ⟨q0, r0, q1, r1, q2, r2, rfl, hH⟩)) ?_
      intro w63 hS16 hf
      rw [Option.some.inj hy62] at hS16
      refine go ?_
      rw [show j38.2.length = y62.length from (len_set (Option.some.inj hy62))] at hS16
      cases oi h
      exact ⟨a53, c54, ⟨rfl, rfl, rfl, trivial⟩, hS16.pick [1, 2, 4, 0] rfl rfl⟩
    replace h := bcF h hc52
    refine go ?_
    cases oi h
    exact ⟨a0_4, c0_4, ⟨rfl, rfl, rfl, trivial⟩, hS13.pick [0, 1, 3, 2] rfl rfl⟩
  rintro e w64 ⟨j50a0, j50c0, hE, hS17⟩
  obtain ⟨e, rfl⟩ := hE.out
  have h := h51
  refine go ?_
  refine LW.fl [4, 70, 71] fun e => ?_
  refine LW.st hS17 0 fun w65 hS18 => ?_
  refine go ?_
  cases h
  exact And.intro trivial ⟨_, Res.two (resOne.b hS18 0 rfl ag62 rfl rfl) (resOne.t rfl), j38a0, j38c0, j50a0, j50c0, rfl, hS18.pick [2, 3] rfl rfl⟩

theorem W_i_TreeBack {w0 : World} {N : Nat} {x0 : List DRes} {x1 : Int} {x2 : DAmt} {r : (List DRes) × Bool} (h : F_i_TreeBack N x0 x1 x2 = some r) {a0_0 : Option Addr} {n0_0 c0_0 : Nat} (hn0_0 : n0_0 = x0.length) (hr0_0 : rdS (Bor w0 []) w0 a0_0 c0_0 x0) :
    Ret Tryz.prog 101 #[.slice a0_0 n0_0 c0_0, .int .i64 x1, .agg #[.int .i64 x2.pages, .int .i64 x2.rent, .int .i64 x2.cpu]] w0 (fun v w => ∃ ar0 cr0, v = .tuple #[.slice ar0 r.1.length cr0, .bool r.2] ∧ St w0 [] w [sl ar0 cr0 r.1]) := by
  subst hn0_0
  unfold F_i_TreeBack at h
  refine Ret.fn Tryz.func101 fun e => ?_
  have hS1 := St.start w0
  refine go ?_
  refine LW.bo hS1 fun g1 w2 hS2 => ?_
  refine go ?_
  replace ⟨y3, hy3, h⟩ := obind h
  refine LW.cl (W_i_copyTree hy3 rfl (hS2.rB hr0_0)) ?_
  rintro _ w6 ⟨a4, c5, rfl, hs⟩
  have hS3 := hS2.add hs
  refine gs ?_
  obtain ⟨j7, hj7, h8⟩ := obind h
  refine CW.cut (fun e wb => En e [(0, .slice a0_0 x0.length c0_0), (1, .int .i64 x1), (5, .pointer (some ⟨g1, 0, none⟩)), (8, .slice a4 y3.length c5), (26, .bool j7)] ∧ St w0 [] wb [sl a4 c5 y3, bx g1 64 [.int .i64 x2.pages, .int .i64 x2.rent, .int .i64 x2.cpu]]) ?_ ?_
  · have h := hj7
    refine CW.draw (by kernel_rfl) ?_
    have hS4 := hS3.drew
    refine AW.u (i := 0) rfl (by kernel_rfl) rfl rfl (Pur.p rfl) ?_
    replace ⟨y9, hy9, h⟩ := obind h
    have q := W_i_TreeOk (w0 := w6.drew) hy9 rfl (hS4.rB hr0_0)
    refine AW.one (i := 1) (by kernel_rfl) ?_
    refine ⟨_, rfl, ?_⟩
    refine LW.call pl146 rfl rfl ?_
    refine Ret.mono q ?_
    rintro _ w10 ⟨rfl, hs⟩
    have hS5 := hS4.add hs
    refine LW.nil ⟨rfl, Kept.n, ?_⟩
    refine AW.u (i := 2) rfl (by kernel_rfl) rfl rfl (Pur.p rfl) ?_
    refine AW.u (i := 3) rfl (by kernel_rfl) rfl rfl (Pur.p rfl) ?_
    rcases bcases (!y9) with hc11 | hc11
    · replace h := bcT h hc11
      refine AW.no (i := 4) rfl (by kernel_rfl) (want_not rfl rfl hc11) rfl ?_
      refine AW.no (i := 5) rfl (by kernel_rfl) (want_not rfl rfl hc11) rfl ?_
      refine AW.no (i := 6) rfl (by kernel_rfl) (want_not rfl rfl hc11) rfl ?_
      refine AW.u (i := 7) rfl (by kernel_rfl) rfl rfl (Pur.pickT rfl hc11) ?_
      refine AW.u (i := 8) rfl (by kernel_rfl) rfl rfl (Pur.p rfl) ?_
      refine AW.no (i := 9) rfl (by kernel_rfl) (want_not rfl rfl rfl) rfl ?_
      refine AW.no (i := 10) rfl (by kernel_rfl) (want_not rfl rfl rfl) rfl ?_
      refine AW.no (i := 11) rfl (by kernel_rfl) (want_not rfl rfl rfl) rfl ?_
      refine AW.no (i := 12) rfl (by kernel_rfl) (want_not rfl rfl rfl) rfl ?_
      refine AW.no (i := 13) rfl (by kernel_rfl) (want_not rfl rfl rfl) rfl ?_
      refine AW.no (i := 14) rfl (by kernel_rfl) (want_not rfl rfl rfl) rfl ?_
      refine AW.u (i := 15) rfl (by kernel_rfl) rfl rfl (Pur.pickT rfl rfl) ?_
      refine AW.done (by kernel_rfl) ?_
      cases oi h
      exact ⟨⟨rfl, rfl, rfl, rfl, rfl, trivial⟩, hS5.pick [0, 1] rfl rfl⟩
    replace h := bcF h hc11
    refine AW.take (i := 4) rfl (by kernel_rfl) (want_of rfl rfl hc11) rfl (Ldr.boxN (bt := 64) (fr := (0, 0)) (cs := [.int .i64 x2.pages, .int .i64 x2.rent, .int .i64 x2.cpu]) ag64 rfl rfl) (St.cell (h := hS5) (i := 1) rfl) ?_
    replace ⟨y12, hy12, h⟩ := obind h
    have q := W_i_AmtOk (w0 := w10) hy12
    refine AW.one (i := 5) (by kernel_rfl) ?_
    refine ⟨_, rfl, ?_⟩
    refine (LW.gY (want_of rfl rfl hc11) ?_)
    refine LW.call pl114 rfl rfl ?_
    refine Ret.mono q ?_
    rintro _ w13 ⟨rfl, hs⟩
    have hS6 := hS5.add hs
    refine LW.nil ⟨rfl, (.w (by kernel_rfl) Kept.n), ?_⟩
    refine AW.u (i := 6) rfl (by kernel_rfl) (want_of rfl rfl hc11) rfl (Pur.p rfl) ?_
    refine AW.u (i := 7) rfl (by kernel_rfl) rfl rfl (Pur.pickF rfl hc11) ?_
    refine AW.u (i := 8) rfl (by kernel_rfl) rfl rfl (Pur.p rfl) ?_
    rcases bcases (!y12) with hc14 | hc14
    · replace h := bcT h hc14
      refine AW.no (i := 9) rfl (by kernel_rfl) (want_not rfl rfl hc14) rfl ?_
      refine AW.no (i := 10) rfl (by kernel_rfl) (want_not rfl rfl hc14) rfl ?_
      refine AW.no (i := 11) rfl (by kernel_rfl) (want_not rfl rfl hc14) rfl ?_
      refine AW.no (i := 12) rfl (by kernel_rfl) (want_not rfl rfl hc14) rfl ?_
      refine AW.no (i := 13) rfl (by kernel_rfl) (want_not rfl rfl hc14) rfl ?_
      refine AW.no (i := 14) rfl (by kernel_rfl) (want_not rfl rfl hc14) rfl ?_
      refine AW.u (i := 15) rfl (by kernel_rfl) rfl rfl (Pur.pickT rfl hc14) ?_
      refine AW.done (by kernel_rfl) ?_
      cases oi h
      exact ⟨⟨rfl, rfl, rfl, rfl, rfl, trivial⟩, hS6.pick [0, 1] rfl rfl⟩
    replace h := bcF h hc14
    refine AW.u (i := 9) rfl (by kernel_rfl) (want_of rfl rfl hc14) rfl (Pur.p rfl) ?_
    refine AW.take (i := 11) rfl (by kernel_rfl) (want_of rfl rfl hc14) rfl (Ldr.boxN (bt := 64) (fr := (0, 0)) (cs := [.int .i64 x2.pages, .int .i64 x2.rent, .int .i64 x2.cpu]) ag64 rfl rfl) (St.cell (h := hS6) (i := 1) rfl) ?_
    replace ⟨y15, hy15, h⟩ := obind h
    have q := W_i_TreeSum (w0 := w13) hy15 rfl (hS6.rB hr0_0)
    refine AW.one (i := 10) (by kernel_rfl) ?_
    refine ⟨_, rfl, ?_⟩
    refine (LW.gY (want_of rfl rfl hc14) ?_)
    refine LW.call pl174 rfl rfl ?_
    refine Ret.mono q ?_
    rintro _ w16 ⟨rfl, hs⟩
    have hS7 := hS6.add hs
    refine LW.nil ⟨rfl, (.c (St.cell (h := hS7) (i := 1) rfl) (.c (St.cell (h := hS7) (i := 1) rfl) Kept.n)), ?_⟩
    replace ⟨y17, hy17, h⟩ := obind h
    have q := W_i_sumOf (w0 := w16) hy17
    refine AW.one (i := 12) (by kernel_rfl) ?_
    refine ⟨_, rfl, ?_⟩
    refine (LW.gY (want_of rfl rfl hc14) ?_)
    refine LW.call pl97 rfl rfl ?_
    refine Ret.mono q ?_
    rintro _ w18 ⟨rfl, hs⟩
    have hS8 := hS7.add hs
    refine LW.nil ⟨rfl, (.w (by kernel_rfl) (.c (St.cell (h := hS8) (i := 1) rfl) Kept.n)), ?_⟩
    replace ⟨y19, hy19, h⟩ := obind h
    have q := W_i_AmtOk (w0 := w18) hy19
    refine AW.one (i := 13) (by kernel_rfl) ?_
    refine ⟨_, rfl, ?_⟩
    refine (LW.gY (want_of rfl rfl hc14) ?_)
    refine LW.call pl114 rfl rfl ?_
    refine Ret.mono q ?_
    rintro _ w20 ⟨rfl, hs⟩
    have hS9 := hS8.add hs
    refine LW.nil ⟨rfl, (.c (St.cell (h := hS9) (i := 1) rfl) (.c (St.cell (h := hS9) (i := 1) rfl) Kept.n)), ?_⟩
    refine AW.u (i := 14) rfl (by kernel_rfl) (want_of rfl rfl hc14) rfl (Pur.p rfl) ?_
    refine AW.u (i := 15) rfl (by kernel_rfl) rfl rfl (Pur.pickF rfl hc14) ?_
    refine AW.done (by kernel_rfl) ?_
    cases oi h
    exact ⟨⟨rfl, rfl, rfl, rfl, rfl, trivial⟩, hS9.pick [0, 1] rfl rfl⟩
  rintro e w21 ⟨hE, hS10⟩
  obtain ⟨e, rfl⟩ := hE.out
  have h := h8
  refine go ?_
  refine CW.cond rfl (fun hc22 => ?_) (fun hc22 => ?_)
  · replace h := bcT h hc22
    refine go ?_
    cases h
    exact And.intro trivial ⟨_, Res.two (resOne.t rfl) (resOne.t rfl), a4, c5, rfl, hS10.pick [0] rfl rfl⟩
  replace h := bcF h hc22
  refine go ?_
  replace ⟨y23, hy23, h⟩ := obind h
  refine LW.c0 (W_i_isLive hy23 rfl (hS10.rB hr0_0)) hS10 fun w24 hS11 => ?_
  refine gs ?_
  obtain ⟨j25, hj25, h26⟩ := obind h
  refine CW.cut (fun e wb => En e [(1, .int .i64 j25), (5, .pointer (some ⟨g1, 0, none⟩)), (8, .slice a4 y3.length c5)] ∧ St w0 [] wb [sl a4 c5 y3, bx g1 64 [.int .i64 x2.pages, .int .i64 x2.rent, .int .i64 x2.cpu]]) ?_ ?_
  · have h := hj25
    refine CW.cond rfl (fun hc27 => ?_) (fun hc27 => ?_)
    · replace h := bcT h hc27
      refine go ?_
      cases oi h
      exact ⟨⟨rfl, rfl, rfl, trivial⟩, hS11.pick [0, 1] rfl rfl⟩
    replace h := bcF h hc27
    refine go ?_
    cases oi h
    exact ⟨⟨rfl, rfl, rfl, trivial⟩, hS11.pick [0, 1] rfl rfl⟩
  rintro e w28 ⟨hE, hS12⟩
  obtain ⟨e, rfl⟩ := hE.out
  have h := h26
  refine go ?_
  refine CW.draw (by kernel_rfl) ?_
  have hS13 := hS12.drew
  refine AW.u (i := 0) rfl (by kernel_rfl) rfl rfl (Pur.p rfl) ?_
  refine AW.u (i := 1) rfl (by kernel_rfl) rfl rfl (Pur.p rfl) ?_
  refine AW.u (i := 2) rfl (by kernel_rfl) rfl rfl (Pur.p rfl) ?_
  refine AW.u (i := 3) rfl (by kernel_rfl) rfl rfl (Pur.p rfl) ?_
  replace ⟨y29, hy29, h⟩ := obind h
  obtain ⟨b32, o33, hae, hp30, hq31⟩ := hS13.ownIdx (α := DRes) (i := 0) rfl hy29
  subst hae
  refine AW.u (i := 4) rfl (by kernel_rfl) rfl rfl (Pur.ix Tryz.underlying58 sz152 rfl rfl hp30 hq31) ?_
  refine AW.u (i := 5) rfl (by kernel_rfl) rfl rfl (Pur.fa fo152_2 rfl) ?_
  obtain ⟨F34, ho35, hS14⟩ := hS13.freeze (α := DRes) 0 rfl
  obtain ⟨b36, o37, cs38, hae, hb41, _, _, hd39, hk40⟩ := ho35.rdF.idx hy29
  cases hae
  obtain rfl := hd39
  refine AW.take (i := 6) rfl (by kernel_rfl) rfl rfl (Ldr.oldN w28.drew ag64 rfl rfl (fun j u hu => oldsub (m := 3) hk40 2 hu)) (hS14.zC 0 rfl hb41) ?_
  refine AW.take (i := 7) rfl (by kernel_rfl) rfl rfl (Ldr.boxN (bt := 64) (fr := (0, 0)) (cs := [.int .i64 x2.pages, .int .i64 x2.rent, .int .i64 x2.cpu]) ag64 rfl rfl) (St.cell (h := hS14) (i := 1) rfl) ?_
  replace ⟨y42, hy42, h⟩ := obind h
  have q := W_i_sumOf (w0 := w28.drew) hy42
  refine AW.one (i := 8) (by kernel_rfl) ?_
  refine ⟨_, rfl, ?_⟩
  refine LW.call pl97 rfl rfl ?_
  refine Ret.mono q ?_
  rintro _ w43 ⟨rfl, hs⟩
  have hS15 := hS14.add hs
  refine LW.nil ⟨rfl, (.w (by kernel_rfl) (.w (by kernel_rfl) Kept.n)), ?_⟩
  refine AW.u (i := 9) rfl (by kernel_rfl) rfl rfl (Pur.ix Tryz.underlying58 sz152 rfl rfl hp30 hq31) ?_
  refine AW.u (i := 10) rfl (by kernel_rfl) rfl rfl (Pur.fa fo152_2 rfl) ?_
  have hS16 := hS15.thaw (α := DRes) 0 rfl ho35
  replace ⟨y44, hy44, h⟩ := obind h
  refine AW.one (i := 11) (by kernel_rfl) ?_
  refine ⟨_, rfl, ?_⟩
  refine LW.stE (M := []) (L := [sl (some ⟨b32, o33, none⟩) c5 y3, bx g1 64 [.int .i64 x2.pages, .int .i64 x2.rent, .int .i64 x2.cpu]]) (z := y29) (z' := (DRes.mk y29.live y29.parent y42)) (o := 2) hS16 (i := 0) rfl hy29 ag64 rfl (by show _ = o33 + (j25 : Int).toNat * 5 + 2; omega) rfl rfl rfl rfl (leafF (fun w cs F hF => by obtain ⟨rfl, rfl⟩ := hF; exact ⟨rfl, rfl⟩)) ?_
  intro w45 hS17 hf
  rw [Option.some.inj hy44] at hS17
  refine LW.nil ⟨rfl, (.w (by kernel_rfl) (.w (by kernel_rfl) Kept.n)), ?_⟩
  refine AW.done (by kernel_rfl) ?_
  refine go ?_
  replace h := Option.some.inj h
  subst h
  exact And.intro trivial ⟨_, Res.two (resOne.t rfl) (resOne.t rfl), (some ⟨b32, o33, none⟩), c5, (show (.tuple #[.slice (some ⟨b32, o33, none⟩) y3.length c5, .bool true] : Value) = .tuple #[.slice (some ⟨b32, o33, none⟩) y44.length c5, .bool true] by rw [show y3.length = y44.length from (len_set (Option.some.inj hy44))]), hS17.pick [0] rfl rfl⟩

end Go.Kx
