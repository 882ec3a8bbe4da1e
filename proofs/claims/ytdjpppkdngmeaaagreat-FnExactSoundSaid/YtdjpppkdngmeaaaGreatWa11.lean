/- Each call returns what the plain function says. Printed by drive.py. -/
import Derived.Test.YtdjpppkdngmeaaaGreatFa
import Derived.Test.YtdjpppkdngmeaaaGreatPu
import Derived.Test.YtdjpppkdngmeaaaGreatWa1
import Derived.Test.YtdjpppkdngmeaaaGreatWa2
import Derived.Test.YtdjpppkdngmeaaaGreatWa6
import Derived.Test.YtdjpppkdngmeaaaGreatWa10
import Derived.Test.YtdjpppkdngmeaaaGreatWa12
namespace Go.Kx
open Go Go.RowKit Go.Proofs
set_option maxRecDepth 10000
set_option maxHeartbeats 2000000
set_option linter.unusedVariables false
set_option linter.unusedSimpArgs false
theorem W_s_GcSafe {w0 : World} {N : Nat} {x0 : DHeap} {x1 : Int} {r : Bool} (h : F_s_GcSafe N x0 x1 = some r) {a0_0 : Option Addr} {n0_0 c0_0 : Nat} (hn0_0 : n0_0 = x0.arena.length) (hr0_0 : rdS (Bor w0 []) w0 a0_0 c0_0 x0.arena) {a0_4 : Option Addr} {n0_4 c0_4 : Nat} (hn0_4 : n0_4 = x0.gc.grey.length) (hr0_4 : rdS (Bor w0 []) w0 a0_4 c0_4 x0.gc.grey) :
    Ret Tryz.prog 60 #[.agg #[.slice a0_0 n0_0 c0_0, .int .i64 x0.gc.phase, .int .i64 x0.gc.pos, .int .i64 x0.gc.round, .slice a0_4 n0_4 c0_4], .int .i64 x1] w0 (fun v w => v = .bool r ∧ St w0 [] w []) := by
  subst hn0_0 hn0_4
  unfold F_s_GcSafe at h
  refine Ret.fn Tryz.func60 fun e => ?_
  have hS1 := St.start w0
  refine go ?_
  refine LW.bo hS1 fun g1 w2 hS2 => ?_
  refine go ?_
  replace ⟨y3, hy3, h⟩ := obind h
  refine LW.c0 (W_s_HeapOk hy3 rfl (hS2.rB hr0_0) rfl (hS2.rB hr0_4)) hS2 fun w4 hS3 => ?_
  refine go ?_
  refine CW.cond rfl (fun hc5 => ?_) (fun hc5 => ?_)
  · replace h := bcT h hc5
    refine go ?_
    cases h
    exact And.intro trivial ⟨_, Res.one (resOne.t rfl), rfl, hS3.pick [] rfl rfl⟩
  replace h := bcF h hc5
  refine go ?_
  replace ⟨y6, hy6, h⟩ := obind h
  refine LW.cl (W_s_Reach hy6 rfl (hS3.rB hr0_0)) ?_
  rintro _ w9 ⟨a7, c8, rfl, hs⟩
  have hS4 := hS3.add hs
  refine go ?_
  refine CW.fl [2, 5, 20] fun e => ?_
  refine CW.cond rfl (fun hc10 => ?_) (fun hc10 => ?_)
  · replace h := bcT h hc10
    refine go ?_
    obtain ⟨o88, ho88, h89⟩ := obind h
    refine CW.mono (CW.iter (σ := Int) (ρ := Int ⊕ Bool) (fun s11 e wb => En e [(2, .pointer (some ⟨g1, 0, none⟩)), (5, .slice a7 y6.length c8), (6, .int .i64 s11)] ∧ St w0 [] wb [sl a7 c8 y6, bx g1 43 [.slice a0_0 x0.arena.length c0_0, .int .i64 x0.gc.phase, .int .i64 x0.gc.pos, .int .i64 x0.gc.round, .slice a0_4 x0.gc.grey.length c0_4]]) (fun o x e wb => match o with | .inl s11 => x = .exit 0 ∧ En e [] ∧ St w0 [] wb [sl a7 c8 y6, bx g1 43 [.slice a0_0 x0.arena.length c0_0, .int .i64 x0.gc.phase, .int .i64 x0.gc.pos, .int .i64 x0.gc.round, .slice a0_4 x0.gc.grey.length c0_4]] | .inr r => x = .ret ∧ ∃ u, u = r ∧ ∃ v, Res Tryz.prog Tryz.f60.results e wb v ∧ v = .bool u ∧ St w0 [] wb []) ?_ N 0 _ _ _ ⟨⟨rfl, rfl, rfl, trivial⟩, hS4.pick [0, 1] rfl rfl⟩ ho88) ?_
    · intro s11 e w12 o hM h
      obtain ⟨hE, hS5⟩ := hM
      obtain ⟨e, rfl⟩ := hE.out
      refine go ?_
      refine CW.cond rfl (fun hc13 => ?_) (fun hc13 => ?_)
      · replace h := bcT h hc13
        refine gs ?_
        refine CW.block ?_
        refine gs ?_
        obtain ⟨j14, hj14, h15⟩ := obind h
        refine CW.cut (fun e wb => En e [(2, .pointer (some ⟨g1, 0, none⟩)), (5, .slice a7 y6.length c8), (6, .int .i64 s11), (63, .bool j14)] ∧ St w0 [] wb [sl a7 c8 y6, bx g1 43 [.slice a0_0 x0.arena.length c0_0, .int .i64 x0.gc.phase, .int .i64 x0.gc.pos, .int .i64 x0.gc.round, .slice a0_4 x0.gc.grey.length c0_4]]) ?_ ?_
        · have h := hj14
          refine go ?_
          rcases bcases (decide (s11 < x0.gc.pos)) with hc16 | hc16
          · replace h := bcT h hc16
            refine go ?_
            replace ⟨y17, hy17, h⟩ := obind h
            obtain ⟨b20, o21, cs22, hae, hb25, hp18, hq19, hd23, hk24⟩ := hr0_0.idx hy17
            subst hae
            obtain ⟨a26, c27, a29, c30, a32, c33, rfl, hr28, hr31, hr34⟩ := hd23
            refine go ?_
            refine LW.u (Pur.ix Tryz.underlying40 sz85 rfl rfl hp18 hq19) rfl ?_
            refine go ?_
            refine LW.l (Ldr.old w0 ag4 rfl (hk24 9 _ rfl)) (hS5.same _ hb25.1 hb25.2) rfl ?_
            refine go ?_
            rcases bcases y17.mark with hc35 | hc35
            · replace h := bcT h hc35
              refine go ?_
              cases oi h
              exact ⟨⟨rfl, rfl, rfl, rfl, trivial⟩, hS5.pick [0, 1] rfl rfl⟩
            replace h := bcF h hc35
            refine go ?_
            refine LW.fl [2, 5, 6, 38, 44] fun e => ?_
            rcases bcases (decide (s11 ≥ x0.gc.pos)) with hc36 | hc36
            · replace h := bcT h hc36
              refine go ?_
              rcases bcases (decide (s11 > 0)) with hc37 | hc37
              · replace h := bcT h hc37
                refine go ?_
                replace ⟨y38, hy38, h⟩ := obind h
                obtain ⟨b41, o42, hae, hp39, hq40⟩ := hS5.ownIdx (α := Bool) (i := 0) rfl hy38
                subst hae
                refine go ?_
                refine LW.u (Pur.ix Tryz.underlying126 sz4 rfl rfl hp39 hq40) rfl ?_
                obtain ⟨F43, ho44, hS6⟩ := hS5.freeze (α := Bool) 0 rfl
                obtain ⟨b45, o46, cs47, hae, hb50, _, _, hd48, hk49⟩ := ho44.rdF.idx hy38
                cases hae
                obtain rfl := hd48
                refine go ?_
                refine LW.l (Ldr.old w12 ag4 rfl (hk49 0 _ rfl)) (hS6.zC 0 rfl hb50) rfl ?_
                refine go ?_
                rcases bcases y38 with hc51 | hc51
                · replace h := bcT h hc51
                  refine go ?_
                  refine LW.u (Pur.ix Tryz.underlying40 sz85 rfl rfl hp18 hq19) rfl ?_
                  refine go ?_
                  refine LW.l (Ldr.old w0 ag4 rfl (hk24 9 _ rfl)) (hS6.same _ hb25.1 hb25.2) rfl ?_
                  refine go ?_
                  have hS7 := hS6.thaw (α := Bool) 0 rfl ho44
                  cases oi h
                  exact ⟨⟨rfl, rfl, rfl, rfl, trivial⟩, hS7.pick [0, 1] rfl rfl⟩
                replace h := bcF h hc51
                refine go ?_
                have hS8 := hS6.thaw (α := Bool) 0 rfl ho44
                cases oi h
                exact ⟨⟨rfl, rfl, rfl, rfl, trivial⟩, hS8.pick [0, 1] rfl rfl⟩
              replace h := bcF h hc37
              refine go ?_
              cases oi h
              exact ⟨⟨rfl, rfl, rfl, rfl, trivial⟩, hS5.pick [0, 1] rfl rfl⟩
            replace h := bcF h hc36
            refine go ?_
            cases oi h
            exact ⟨⟨rfl, rfl, rfl, rfl, trivial⟩, hS5.pick [0, 1] rfl rfl⟩
          replace h := bcF h hc16
          refine go ?_
          rcases bcases (decide (s11 ≥ x0.gc.pos)) with hc52 | hc52
          · replace h := bcT h hc52
            refine go ?_
            refine LW.fl [2, 5, 6, 38, 48] fun e => ?_
            rcases bcases (decide (s11 > 0)) with hc53 | hc53
            · replace h := bcT h hc53
              refine go ?_
              replace ⟨y54, hy54, h⟩ := obind h
              obtain ⟨b57, o58, hae, hp55, hq56⟩ := hS5.ownIdx (α := Bool) (i := 0) rfl hy54
              subst hae
              refine go ?_
              refine LW.u (Pur.ix Tryz.underlying126 sz4 rfl rfl hp55 hq56) rfl ?_
              obtain ⟨F59, ho60, hS9⟩ := hS5.freeze (α := Bool) 0 rfl
              obtain ⟨b61, o62, cs63, hae, hb66, _, _, hd64, hk65⟩ := ho60.rdF.idx hy54
              cases hae
              obtain rfl := hd64
              refine go ?_
              refine LW.l (Ldr.old w12 ag4 rfl (hk65 0 _ rfl)) (hS9.zC 0 rfl hb66) rfl ?_
              refine go ?_
              rcases bcases y54 with hc67 | hc67
              · replace h := bcT h hc67
                refine go ?_
                replace ⟨y68, hy68, h⟩ := obind h
                obtain ⟨b71, o72, cs73, hae, hb76, hp69, hq70, hd74, hk75⟩ := hr0_0.idx hy68
                subst hae
                obtain ⟨a77, c78, a80, c81, a83, c84, rfl, hr79, hr82, hr85⟩ := hd74
                refine go ?_
                refine LW.u (Pur.ix Tryz.underlying40 sz85 rfl rfl hp69 hq70) rfl ?_
                refine go ?_
                refine LW.l (Ldr.old w0 ag4 rfl (hk75 9 _ rfl)) (hS9.same _ hb76.1 hb76.2) rfl ?_
                refine go ?_
                have hS10 := hS9.thaw (α := Bool) 0 rfl ho60
                cases oi h
                exact ⟨⟨rfl, rfl, rfl, rfl, trivial⟩, hS10.pick [0, 1] rfl rfl⟩
              replace h := bcF h hc67
              refine go ?_
              have hS11 := hS9.thaw (α := Bool) 0 rfl ho60
              cases oi h
              exact ⟨⟨rfl, rfl, rfl, rfl, trivial⟩, hS11.pick [0, 1] rfl rfl⟩
            replace h := bcF h hc53
            refine go ?_
            cases oi h
            exact ⟨⟨rfl, rfl, rfl, rfl, trivial⟩, hS5.pick [0, 1] rfl rfl⟩
          replace h := bcF h hc52
          refine go ?_
          cases oi h
          exact ⟨⟨rfl, rfl, rfl, rfl, trivial⟩, hS5.pick [0, 1] rfl rfl⟩
        rintro e w86 ⟨hE, hS12⟩
        obtain ⟨e, rfl⟩ := hE.out
        have h := h15
        refine go ?_
        refine CW.cond rfl (fun hc87 => ?_) (fun hc87 => ?_)
        · replace h := bcT h hc87
          refine go ?_
          cases oi h
          exact ⟨trivial, rfl, _, rfl, ⟨_, Res.one (resOne.t rfl), rfl, hS12.pick [] rfl rfl⟩⟩
        replace h := bcF h hc87
        refine go ?_
        cases oi h
        exact ⟨rfl, ⟨⟨rfl, rfl, rfl, trivial⟩, hS12.pick [0, 1] rfl rfl⟩⟩
      replace h := bcF h hc13
      refine go ?_
      cases oi h
      exact ⟨trivial, rfl, ⟨trivial, hS5.pick [0, 1] rfl rfl⟩⟩
    intro x e w90 hM
    rcases o88 with o88 | r91
    · obtain ⟨rfl, hM⟩ := hM
      obtain ⟨hE, hS13⟩ := hM
      obtain ⟨e, rfl⟩ := hE.out; rw [show e = upds e [] from rfl]
      have h := h89
      refine go ?_
      cases h
      exact And.intro trivial ⟨_, Res.one (resOne.t rfl), rfl, hS13.pick [] rfl rfl⟩
    obtain ⟨rfl, u, rfl, hM⟩ := hM
    cases h89
    exact And.intro trivial hM
  replace h := bcF h hc10
  refine go ?_
  obtain ⟨o196, ho196, h197⟩ := obind h
  refine CW.mono (CW.iter (σ := Int) (ρ := Int ⊕ Bool) (fun s92 e wb => En e [(2, .pointer (some ⟨g1, 0, none⟩)), (5, .slice a7 y6.length c8), (7, .int .i64 s92)] ∧ St w0 [] wb [sl a7 c8 y6, bx g1 43 [.slice a0_0 x0.arena.length c0_0, .int .i64 x0.gc.phase, .int .i64 x0.gc.pos, .int .i64 x0.gc.round, .slice a0_4 x0.gc.grey.length c0_4]]) (fun o x e wb => match o with | .inl s92 => x = .exit 2 ∧ En e [] ∧ St w0 [] wb [sl a7 c8 y6, bx g1 43 [.slice a0_0 x0.arena.length c0_0, .int .i64 x0.gc.phase, .int .i64 x0.gc.pos, .int .i64 x0.gc.round, .slice a0_4 x0.gc.grey.length c0_4]] | .inr r => x = .ret ∧ ∃ u, u = r ∧ ∃ v, Res Tryz.prog Tryz.f60.results e wb v ∧ v = .bool u ∧ St w0 [] wb []) ?_ N 0 _ _ _ ⟨⟨rfl, rfl, rfl, trivial⟩, hS4.pick [0, 1] rfl rfl⟩ ho196) ?_
  · intro s92 e w93 o hM h
    obtain ⟨hE, hS14⟩ := hM
    obtain ⟨e, rfl⟩ := hE.out
    refine go ?_
    refine CW.cond rfl (fun hc94 => ?_) (fun hc94 => ?_)
    · replace h := bcT h hc94
      refine gs ?_
      refine CW.block ?_
      refine gs ?_
      obtain ⟨j95, hj95, h96⟩ := obind h
      refine CW.cut (fun e wb => En e [(2, .pointer (some ⟨g1, 0, none⟩)), (5, .slice a7 y6.length c8), (7, .int .i64 s92), (92, .bool j95)] ∧ St w0 [] wb [sl a7 c8 y6, bx g1 43 [.slice a0_0 x0.arena.length c0_0, .int .i64 x0.gc.phase, .int .i64 x0.gc.pos, .int .i64 x0.gc.round, .slice a0_4 x0.gc.grey.length c0_4]]) ?_ ?_
      · have h := hj95
        refine go ?_
        replace ⟨y97, hy97, h⟩ := obind h
        obtain ⟨b100, o101, hae, hp98, hq99⟩ := hS14.ownIdx (α := Bool) (i := 0) rfl hy97
        subst hae
        refine LW.u (Pur.ix Tryz.underlying126 sz4 rfl rfl hp98 hq99) rfl ?_
        obtain ⟨F102, ho103, hS15⟩ := hS14.freeze (α := Bool) 0 rfl
        obtain ⟨b104, o105, cs106, hae, hb109, _, _, hd107, hk108⟩ := ho103.rdF.idx hy97
        cases hae
        obtain rfl := hd107
        refine LW.l (Ldr.old w93 ag4 rfl (hk108 0 _ rfl)) (hS15.zC 0 rfl hb109) rfl ?_
        refine go ?_
        rcases bcases (!y97) with hc110 | hc110
        · replace h := bcT h hc110
          refine go ?_
          have hS16 := hS15.thaw (α := Bool) 0 rfl ho103
          cases oi h
          exact ⟨⟨rfl, rfl, rfl, rfl, trivial⟩, hS16.pick [0, 1] rfl rfl⟩
        replace h := bcF h hc110
        refine go ?_
        replace ⟨y111, hy111, h⟩ := obind h
        refine go ?_
        refine LW.c0 (W_s_l4Has hy111 rfl (hS15.rB hr0_4)) hS15 fun w112 hS17 => ?_
        refine go ?_
        rcases bcases y111 with hc113 | hc113
        · replace h := bcT h hc113
          refine go ?_
          have hS18 := hS17.thaw (α := Bool) 0 rfl ho103
          cases oi h
          exact ⟨⟨rfl, rfl, rfl, rfl, trivial⟩, hS18.pick [0, 1] rfl rfl⟩
        replace h := bcF h hc113
        refine go ?_
        rcases bcases (decide (s92 > 0)) with hc114 | hc114
        · replace h := bcT h hc114
          refine go ?_
          refine LW.fl [2, 5, 7, 80, 83, 85, 86] fun e => ?_
          replace ⟨y115, hy115, h⟩ := obind h
          obtain ⟨b118, o119, cs120, hae, hb123, hp116, hq117, hd121, hk122⟩ := hr0_0.idx hy115
          subst hae
          obtain ⟨a124, c125, a127, c128, a130, c131, rfl, hr126, hr129, hr132⟩ := hd121
          refine go ?_
          refine LW.u (Pur.ix Tryz.underlying40 sz85 rfl rfl hp116 hq117) rfl ?_
          refine go ?_
          refine LW.l (Ldr.old w0 ag4 rfl (hk122 9 _ rfl)) (hS17.same _ hb123.1 hb123.2) rfl ?_
          refine go ?_
          have hS19 := hS17.thaw (α := Bool) 0 rfl ho103
          cases oi h
          exact ⟨⟨rfl, rfl, rfl, rfl, trivial⟩, hS19.pick [0, 1] rfl rfl⟩
        replace h := bcF h hc114
        refine go ?_
        have hS20 := hS17.thaw (α := Bool) 0 rfl ho103
        cases oi h
        exact ⟨⟨rfl, rfl, rfl, rfl, trivial⟩, hS20.pick [0, 1] rfl rfl⟩
      rintro e w133 ⟨hE, hS21⟩
      obtain ⟨e, rfl⟩ := hE.out
      have h := h96
      refine go ?_
      refine CW.cond rfl (fun hc134 => ?_) (fun hc134 => ?_)
      · replace h := bcT h hc134
        refine go ?_
        cases oi h
        exact ⟨rfl, ⟨⟨rfl, rfl, rfl, trivial⟩, hS21.pick [0, 1] rfl rfl⟩⟩
      replace h := bcF h hc134
      refine go ?_
      replace ⟨y135, hy135, h⟩ := obind h
      refine LW.cl (W_s_Edges hy135 rfl (hS21.rB hr0_0)) ?_
      rintro _ w138 ⟨a136, c137, rfl, hs⟩
      have hS22 := hS21.add hs
      refine go ?_
      obtain ⟨o192, ho192, h193⟩ := obind h
      refine CW.mono (CW.iter (σ := Int) (ρ := Int ⊕ Bool) (fun s139 e wb => En e [(2, .pointer (some ⟨g1, 0, none⟩)), (5, .slice a7 y6.length c8), (7, .int .i64 s92), (8, .slice a136 y135.length c137), (9, .int .i64 s139)] ∧ St w0 [] wb [sl a136 c137 y135, sl a7 c8 y6, bx g1 43 [.slice a0_0 x0.arena.length c0_0, .int .i64 x0.gc.phase, .int .i64 x0.gc.pos, .int .i64 x0.gc.round, .slice a0_4 x0.gc.grey.length c0_4]]) (fun o x e wb => match o with | .inl s139 => x = .exit 4 ∧ En e [(2, .pointer (some ⟨g1, 0, none⟩)), (5, .slice a7 y6.length c8), (7, .int .i64 s92)] ∧ St w0 [] wb [sl a136 c137 y135, sl a7 c8 y6, bx g1 43 [.slice a0_0 x0.arena.length c0_0, .int .i64 x0.gc.phase, .int .i64 x0.gc.pos, .int .i64 x0.gc.round, .slice a0_4 x0.gc.grey.length c0_4]] | .inr r => x = .ret ∧ ∃ u, u = r ∧ ∃ v, Res Tryz.prog Tryz.f60.results e wb v ∧ v = .bool u ∧ St w0 [] wb []) ?_ N 0 _ _ _ ⟨⟨rfl, rfl, rfl, rfl, rfl, trivial⟩, hS22.pick [0, 1, 2] rfl rfl⟩ ho192) ?_
      · intro s139 e w140 o hM h
        obtain ⟨hE, hS23⟩ := hM
        obtain ⟨e, rfl⟩ := hE.out
        refine go ?_
        refine CW.fl [2, 5, 7, 8, 9, 100] fun e => ?_
        refine CW.cond rfl (fun hc141 => ?_) (fun hc141 => ?_)
        · replace h := bcT h hc141
          refine gs ?_
          refine CW.block ?_
          refine gs ?_
          obtain ⟨j142, hj142, h143⟩ := obind h
          refine CW.cut (fun e wb => En e [(2, .pointer (some ⟨g1, 0, none⟩)), (5, .slice a7 y6.length c8), (7, .int .i64 s92), (8, .slice a136 y135.length c137), (9, .int .i64 s139), (128, .bool j142)] ∧ St w0 [] wb [sl a136 c137 y135, sl a7 c8 y6, bx g1 43 [.slice a0_0 x0.arena.length c0_0, .int .i64 x0.gc.phase, .int .i64 x0.gc.pos, .int .i64 x0.gc.round, .slice a0_4 x0.gc.grey.length c0_4]]) ?_ ?_
          · have h := hj142
            refine CW.draw (by kernel_rfl) ?_
            have hS24 := hS23.drew
            refine AW.u (i := 0) rfl (by kernel_rfl) rfl rfl (Pur.p rfl) ?_
            refine AW.u (i := 1) rfl (by kernel_rfl) rfl rfl (Pur.p rfl) ?_
            replace ⟨y144, hy144, h⟩ := obind h
            obtain ⟨b147, o148, hae, hp145, hq146⟩ := hS24.ownIdx (α := Int) (i := 0) rfl hy144
            subst hae
            refine AW.u (i := 2) rfl (by kernel_rfl) rfl rfl (Pur.ix Tryz.underlying22 sz3 rfl rfl hp145 hq146) ?_
            obtain ⟨F149, ho150, hS25⟩ := hS24.freeze (α := Int) 0 rfl
            obtain ⟨b151, o152, cs153, hae, hb156, _, _, hd154, hk155⟩ := ho150.rdF.idx hy144
            cases hae
            obtain rfl := hd154
            refine AW.take (i := 3) rfl (by kernel_rfl) rfl rfl (Ldr.old w140.drew ag3 rfl (hk155 0 _ rfl)) (hS25.zC 0 rfl hb156) ?_
            refine AW.u (i := 4) rfl (by kernel_rfl) rfl rfl (Pur.p rfl) ?_
            refine AW.u (i := 5) rfl (by kernel_rfl) rfl rfl (Pur.p rfl) ?_
            rcases bcases (decide (y144 > 0)) with hc157 | hc157
            · replace h := bcT h hc157
              refine AW.u (i := 6) rfl (by kernel_rfl) (want_of rfl rfl hc157) rfl (Pur.p rfl) ?_
              refine AW.u (i := 7) rfl (by kernel_rfl) (want_of rfl rfl hc157) rfl (Pur.p rfl) ?_
              refine AW.u (i := 8) rfl (by kernel_rfl) (want_of rfl rfl hc157) rfl (Pur.p rfl) ?_
              refine AW.u (i := 9) rfl (by kernel_rfl) (want_of rfl rfl hc157) rfl (Pur.ix Tryz.underlying22 sz3 rfl rfl hp145 hq146) ?_
              refine AW.take (i := 10) rfl (by kernel_rfl) (want_of rfl rfl hc157) rfl (Ldr.old w140.drew ag3 rfl (hk155 0 _ rfl)) (hS25.zC 0 rfl hb156) ?_
              replace ⟨y158, hy158, h⟩ := obind h
              obtain ⟨b161, o162, hae, hp159, hq160⟩ := hS25.ownIdx (α := Bool) (i := 1) rfl hy158
              subst hae
              refine AW.u (i := 11) rfl (by kernel_rfl) (want_of rfl rfl hc157) rfl (Pur.ix Tryz.underlying126 sz4 rfl rfl hp159 hq160) ?_
              obtain ⟨F163, ho164, hS26⟩ := hS25.freeze (α := Bool) 1 rfl
              obtain ⟨b165, o166, cs167, hae, hb170, _, _, hd168, hk169⟩ := ho164.rdF.idx hy158
              cases hae
              obtain rfl := hd168
              refine AW.take (i := 12) rfl (by kernel_rfl) (want_of rfl rfl hc157) rfl (Ldr.old w140.drew ag4 rfl (hk169 0 _ rfl)) (hS26.zC 1 rfl hb170) ?_
              refine AW.u (i := 13) rfl (by kernel_rfl) rfl rfl (Pur.pickT rfl hc157) ?_
              refine AW.u (i := 14) rfl (by kernel_rfl) rfl rfl (Pur.p rfl) ?_
              rcases bcases y158 with hc171 | hc171
              · replace h := bcT h hc171
                refine AW.u (i := 15) rfl (by kernel_rfl) (want_of rfl rfl hc171) rfl (Pur.fa fo43_0 rfl) ?_
                refine AW.take (i := 16) rfl (by kernel_rfl) (want_of rfl rfl hc171) rfl (Ldr.box (bt := 43) (fr := (0, 0)) (cs := [.slice a0_0 x0.arena.length c0_0, .int .i64 x0.gc.phase, .int .i64 x0.gc.pos, .int .i64 x0.gc.round, .slice a0_4 x0.gc.grey.length c0_4]) ag40 rfl rfl) (St.cell (h := hS26) (i := 2) rfl) ?_
                refine AW.u (i := 17) rfl (by kernel_rfl) (want_of rfl rfl hc171) rfl (Pur.p rfl) ?_
                refine AW.u (i := 18) rfl (by kernel_rfl) (want_of rfl rfl hc171) rfl (Pur.p rfl) ?_
                refine AW.u (i := 19) rfl (by kernel_rfl) (want_of rfl rfl hc171) rfl (Pur.ix Tryz.underlying22 sz3 rfl rfl hp145 hq146) ?_
                refine AW.take (i := 20) rfl (by kernel_rfl) (want_of rfl rfl hc171) rfl (Ldr.old w140.drew ag3 rfl (hk155 0 _ rfl)) (hS26.zC 0 rfl hb156) ?_
                replace ⟨y172, hy172, h⟩ := obind h
                obtain ⟨b175, o176, cs177, hae, hb180, hp173, hq174, hd178, hk179⟩ := hr0_0.idx hy172
                subst hae
                obtain ⟨a181, c182, a184, c185, a187, c188, rfl, hr183, hr186, hr189⟩ := hd178
                refine AW.u (i := 21) rfl (by kernel_rfl) (want_of rfl rfl hc171) rfl (Pur.ix Tryz.underlying40 sz85 rfl rfl hp173 hq174) ?_
                refine AW.u (i := 22) rfl (by kernel_rfl) (want_of rfl rfl hc171) rfl (Pur.fa fo85_9 rfl) ?_
                refine AW.take (i := 23) rfl (by kernel_rfl) (want_of rfl rfl hc171) rfl (Ldr.old w0 ag4 rfl (hk179 9 _ rfl)) (hS26.same _ hb180.1 hb180.2) ?_
                refine AW.u (i := 24) rfl (by kernel_rfl) (want_of rfl rfl hc171) rfl (Pur.p rfl) ?_
                refine AW.u (i := 25) rfl (by kernel_rfl) rfl rfl (Pur.pickT rfl hc171) ?_
                refine AW.done (by kernel_rfl) ?_
                have hS27 := hS26.thaw (α := Int) 0 rfl ho150
                have hS28 := hS27.thaw (α := Bool) 1 rfl ho164
                cases oi h
                exact ⟨⟨rfl, rfl, rfl, rfl, rfl, rfl, trivial⟩, hS28.pick [0, 1, 2] rfl rfl⟩
              replace h := bcF h hc171
              refine AW.no (i := 15) rfl (by kernel_rfl) (want_not rfl rfl hc171) rfl ?_
              refine AW.no (i := 16) rfl (by kernel_rfl) (want_not rfl rfl hc171) rfl ?_
              refine AW.no (i := 17) rfl (by kernel_rfl) (want_not rfl rfl hc171) rfl ?_
              refine AW.no (i := 18) rfl (by kernel_rfl) (want_not rfl rfl hc171) rfl ?_
              refine AW.no (i := 19) rfl (by kernel_rfl) (want_not rfl rfl hc171) rfl ?_
              refine AW.no (i := 20) rfl (by kernel_rfl) (want_not rfl rfl hc171) rfl ?_
              refine AW.no (i := 21) rfl (by kernel_rfl) (want_not rfl rfl hc171) rfl ?_
              refine AW.no (i := 22) rfl (by kernel_rfl) (want_not rfl rfl hc171) rfl ?_
              refine AW.no (i := 23) rfl (by kernel_rfl) (want_not rfl rfl hc171) rfl ?_
              refine AW.no (i := 24) rfl (by kernel_rfl) (want_not rfl rfl hc171) rfl ?_
              refine AW.u (i := 25) rfl (by kernel_rfl) rfl rfl (Pur.pickF rfl hc171) ?_
              refine AW.done (by kernel_rfl) ?_
              have hS29 := hS26.thaw (α := Int) 0 rfl ho150
              have hS30 := hS29.thaw (α := Bool) 1 rfl ho164
              cases oi h
              exact ⟨⟨rfl, rfl, rfl, rfl, rfl, rfl, trivial⟩, hS30.pick [0, 1, 2] rfl rfl⟩
            replace h := bcF h hc157
            refine AW.no (i := 6) rfl (by kernel_rfl) (want_not rfl rfl hc157) rfl ?_
            refine AW.no (i := 7) rfl (by kernel_rfl) (want_not rfl rfl hc157) rfl ?_
            refine AW.no (i := 8) rfl (by kernel_rfl) (want_not rfl rfl hc157) rfl ?_
            refine AW.no (i := 9) rfl (by kernel_rfl) (want_not rfl rfl hc157) rfl ?_
            refine AW.no (i := 10) rfl (by kernel_rfl) (want_not rfl rfl hc157) rfl ?_
            refine AW.no (i := 11) rfl (by kernel_rfl) (want_not rfl rfl hc157) rfl ?_
            refine AW.no (i := 12) rfl (by kernel_rfl) (want_not rfl rfl hc157) rfl ?_
            refine AW.u (i := 13) rfl (by kernel_rfl) rfl rfl (Pur.pickF rfl hc157) ?_
            refine AW.u (i := 14) rfl (by kernel_rfl) rfl rfl (Pur.p rfl) ?_
            refine AW.no (i := 15) rfl (by kernel_rfl) (want_not rfl rfl rfl) rfl ?_
            refine AW.no (i := 16) rfl (by kernel_rfl) (want_not rfl rfl rfl) rfl ?_
            refine AW.no (i := 17) rfl (by kernel_rfl) (want_not rfl rfl rfl) rfl ?_
            refine AW.no (i := 18) rfl (by kernel_rfl) (want_not rfl rfl rfl) rfl ?_
            refine AW.no (i := 19) rfl (by kernel_rfl) (want_not rfl rfl rfl) rfl ?_
            refine AW.no (i := 20) rfl (by kernel_rfl) (want_not rfl rfl rfl) rfl ?_
            refine AW.no (i := 21) rfl (by kernel_rfl) (want_not rfl rfl rfl) rfl ?_
            refine AW.no (i := 22) rfl (by kernel_rfl) (want_not rfl rfl rfl) rfl ?_
            refine AW.no (i := 23) rfl (by kernel_rfl) (want_not rfl rfl rfl) rfl ?_
            refine AW.no (i := 24) rfl (by kernel_rfl) (want_not rfl rfl rfl) rfl ?_
            refine AW.u (i := 25) rfl (by kernel_rfl) rfl rfl (Pur.pickF rfl rfl) ?_
            refine AW.done (by kernel_rfl) ?_
            have hS31 := hS25.thaw (α := Int) 0 rfl ho150
            cases oi h
            exact ⟨⟨rfl, rfl, rfl, rfl, rfl, rfl, trivial⟩, hS31.pick [0, 1, 2] rfl rfl⟩
          rintro e w190 ⟨hE, hS32⟩
          obtain ⟨e, rfl⟩ := hE.out
          have h := h143
          refine go ?_
          refine CW.cond rfl (fun hc191 => ?_) (fun hc191 => ?_)
          · replace h := bcT h hc191
            refine go ?_
            cases oi h
            exact ⟨trivial, rfl, _, rfl, ⟨_, Res.one (resOne.t rfl), rfl, hS32.pick [] rfl rfl⟩⟩
          replace h := bcF h hc191
          refine go ?_
          cases oi h
          exact ⟨rfl, ⟨⟨rfl, rfl, rfl, rfl, rfl, trivial⟩, hS32.pick [0, 1, 2] rfl rfl⟩⟩
        replace h := bcF h hc141
        refine go ?_
        cases oi h
        exact ⟨trivial, rfl, ⟨⟨rfl, rfl, rfl, trivial⟩, hS23.pick [0, 1, 2] rfl rfl⟩⟩
      intro x e w194 hM
      rcases o192 with o192 | r195
      · obtain ⟨rfl, hM⟩ := hM
        obtain ⟨hE, hS33⟩ := hM
        obtain ⟨e, rfl⟩ := hE.out
        have h := h193
        refine go ?_
        cases oi h
        exact ⟨rfl, ⟨⟨rfl, rfl, rfl, trivial⟩, hS33.pick [1, 2] rfl rfl⟩⟩
      obtain ⟨rfl, u, rfl, hM⟩ := hM
      cases h193
      exact ⟨trivial, rfl, _, rfl, hM⟩
    replace h := bcF h hc94
    refine go ?_
    cases oi h
    exact ⟨trivial, rfl, ⟨trivial, hS14.pick [0, 1] rfl rfl⟩⟩
  intro x e w198 hM
  rcases o196 with o196 | r199
  · obtain ⟨rfl, hM⟩ := hM
    obtain ⟨hE, hS34⟩ := hM
    obtain ⟨e, rfl⟩ := hE.out; rw [show e = upds e [] from rfl]
    have h := h197
    refine go ?_
    cases h
    exact And.intro trivial ⟨_, Res.one (resOne.t rfl), rfl, hS34.pick [] rfl rfl⟩
  obtain ⟨rfl, u, rfl, hM⟩ := hM
  cases h197
  exact And.intro trivial hM

theorem W_s_Sound {w0 : World} {N : Nat} {x0 : DWorld} {r : Bool} (h : F_s_Sound N x0 = some r) {a0_1 : Option Addr} {n0_1 c0_1 : Nat} (hn0_1 : n0_1 = x0.parts.length) (hr0_1 : rdS (Bor w0 []) w0 a0_1 c0_1 x0.parts) :
    Ret Tryz.prog 18 #[.agg #[.int .i64 x0.now, .slice a0_1 n0_1 c0_1]] w0 (fun v w => v = .bool r ∧ St w0 [] w []) := by
  subst hn0_1
  unfold F_s_Sound at h
  refine Ret.fn Tryz.func18 fun e => ?_
  have hS1 := St.start w0
  refine go ?_
  refine LW.bo hS1 fun g1 w2 hS2 => ?_
  refine go ?_
  replace ⟨y3, hy3, h⟩ := obind h
  refine LW.c0 (W_s_WorldOk hy3 rfl (hS2.rB hr0_1)) hS2 fun w4 hS3 => ?_
  refine go ?_
  refine CW.cond rfl (fun hc5 => ?_) (fun hc5 => ?_)
  · replace h := bcT h hc5
    refine go ?_
    cases h
    exact And.intro trivial ⟨_, Res.one (resOne.t rfl), rfl, hS3.pick [] rfl rfl⟩
  replace h := bcF h hc5
  refine go ?_
  obtain ⟨o39, ho39, h40⟩ := obind h
  refine CW.mono (CW.iter (σ := Int) (ρ := Int ⊕ Bool) (fun s6 e wb => En e [(1, .pointer (some ⟨g1, 0, none⟩)), (3, .int .i64 s6)] ∧ St w0 [] wb [bx g1 61 [.int .i64 x0.now, .slice a0_1 x0.parts.length c0_1]]) (fun o x e wb => match o with | .inl s6 => x = .exit 0 ∧ En e [] ∧ St w0 [] wb [bx g1 61 [.int .i64 x0.now, .slice a0_1 x0.parts.length c0_1]] | .inr r => x = .ret ∧ ∃ u, u = r ∧ ∃ v, Res Tryz.prog Tryz.f18.results e wb v ∧ v = .bool u ∧ St w0 [] wb []) ?_ N 0 _ _ _ ⟨⟨rfl, rfl, trivial⟩, hS3.pick [0] rfl rfl⟩ ho39) ?_
  · intro s6 e w7 o hM h
    obtain ⟨hE, hS4⟩ := hM
    obtain ⟨e, rfl⟩ := hE.out
    refine go ?_
    refine CW.cond rfl (fun hc8 => ?_) (fun hc8 => ?_)
    · replace h := bcT h hc8
      refine go ?_
      refine CW.draw (by kernel_rfl) ?_
      have hS5 := hS4.drew
      refine AW.u (i := 0) rfl (by kernel_rfl) rfl rfl (Pur.fa fo61_1 rfl) ?_
      refine AW.take (i := 1) rfl (by kernel_rfl) rfl rfl (Ldr.box (bt := 61) (fr := (0, 0)) (cs := [.int .i64 x0.now, .slice a0_1 x0.parts.length c0_1]) ag59 rfl rfl) (St.cell (h := hS5) (i := 0) rfl) ?_
      refine AW.u (i := 2) rfl (by kernel_rfl) rfl rfl (Pur.p rfl) ?_
      replace ⟨y9, hy9, h⟩ := obind h
      obtain ⟨b12, o13, cs14, hae, hb17, hp10, hq11, hd15, hk16⟩ := hr0_1.idx hy9
      subst hae
      obtain ⟨a18, c19, a21, c22, a24, c25, a27, c28, a30, c31, a33, c34, rfl, hr20, hr23, hr26, hr29, hr32, hr35⟩ := hd15
      refine AW.u (i := 3) rfl (by kernel_rfl) rfl rfl (Pur.ix Tryz.underlying59 sz47 rfl rfl hp10 hq11) ?_
      refine AW.u (i := 4) rfl (by kernel_rfl) rfl rfl (Pur.fa fo47_3 rfl) ?_
      refine AW.take (i := 5) rfl (by kernel_rfl) rfl rfl (Ldr.oldN w0 ag43 rfl rfl (fun j u hu => oldsub (m := 5) hk16 3 hu)) (hS5.same _ hb17.1 hb17.2) ?_
      refine AW.u (i := 6) rfl (by kernel_rfl) rfl rfl (Pur.fa fo61_0 rfl) ?_
      refine AW.take (i := 7) rfl (by kernel_rfl) rfl rfl (Ldr.box (bt := 61) (fr := (0, 0)) (cs := [.int .i64 x0.now, .slice (some ⟨b12, o13, none⟩) x0.parts.length c0_1]) ag3 rfl rfl) (St.cell (h := hS5) (i := 0) rfl) ?_
      replace ⟨y36, hy36, h⟩ := obind h
      have q := W_s_GcSafe (w0 := w7.drew) hy36 rfl (hS5.rB hr29) rfl (hS5.rB hr32)
      refine AW.one (i := 8) (by kernel_rfl) ?_
      refine ⟨_, rfl, ?_⟩
      refine LW.call pl60 rfl rfl ?_
      refine Ret.mono q ?_
      rintro _ w37 ⟨rfl, hs⟩
      have hS6 := hS5.add hs
      refine LW.nil ⟨rfl, (.w (by kernel_rfl) (.w (by kernel_rfl) (.c (St.cell (h := hS6) (i := 0) rfl) Kept.n))), ?_⟩
      refine AW.u (i := 9) rfl (by kernel_rfl) rfl rfl (Pur.p rfl) ?_
      refine AW.done (by kernel_rfl) ?_
      refine go ?_
      refine CW.cond rfl (fun hc38 => ?_) (fun hc38 => ?_)
      · replace h := bcT h hc38
        refine go ?_
        cases oi h
        exact ⟨trivial, rfl, _, rfl, ⟨_, Res.one (resOne.t rfl), rfl, hS6.pick [] rfl rfl⟩⟩
      replace h := bcF h hc38
      refine go ?_
      cases oi h
      exact ⟨rfl, ⟨⟨rfl, rfl, trivial⟩, hS6.pick [0] rfl rfl⟩⟩
    replace h := bcF h hc8
    refine go ?_
    cases oi h
    exact ⟨trivial, rfl, ⟨trivial, hS4.pick [0] rfl rfl⟩⟩
  intro x e w41 hM
  rcases o39 with o39 | r42
  · obtain ⟨rfl, hM⟩ := hM
    obtain ⟨hE, hS7⟩ := hM
    obtain ⟨e, rfl⟩ := hE.out; rw [show e = upds e [] from rfl]
    have h := h40
    refine go ?_
    cases h
    exact And.intro trivial ⟨_, Res.one (resOne.t rfl), rfl, hS7.pick [] rfl rfl⟩
  obtain ⟨rfl, u, rfl, hM⟩ := hM
  cases h40
  exact And.intro trivial hM

theorem W_i_GcSafe {w0 : World} {N : Nat} {x0 : DHeap} {x1 : Int} {r : Bool} (h : F_i_GcSafe N x0 x1 = some r) {a0_0 : Option Addr} {n0_0 c0_0 : Nat} (hn0_0 : n0_0 = x0.arena.length) (hr0_0 : rdS (Bor w0 []) w0 a0_0 c0_0 x0.arena) {a0_4 : Option Addr} {n0_4 c0_4 : Nat} (hn0_4 : n0_4 = x0.gc.grey.length) (hr0_4 : rdS (Bor w0 []) w0 a0_4 c0_4 x0.gc.grey) :
    Ret Tryz.prog 62 #[.agg #[.slice a0_0 n0_0 c0_0, .int .i64 x0.gc.phase, .int .i64 x0.gc.pos, .int .i64 x0.gc.round, .slice a0_4 n0_4 c0_4], .int .i64 x1] w0 (fun v w => v = .bool r ∧ St w0 [] w []) := by
  subst hn0_0 hn0_4
  unfold F_i_GcSafe at h
  refine Ret.fn Tryz.func62 fun e => ?_
  have hS1 := St.start w0
  refine go ?_
  refine LW.bo hS1 fun g1 w2 hS2 => ?_
  refine go ?_
  replace ⟨y3, hy3, h⟩ := obind h
  refine LW.c0 (W_i_HeapOk hy3 rfl (hS2.rB hr0_0) rfl (hS2.rB hr0_4)) hS2 fun w4 hS3 => ?_
  refine go ?_
  refine CW.cond rfl (fun hc5 => ?_) (fun hc5 => ?_)
  · replace h := bcT h hc5
    refine go ?_
    cases h
    exact And.intro trivial ⟨_, Res.one (resOne.t rfl), rfl, hS3.pick [] rfl rfl⟩
  replace h := bcF h hc5
  refine go ?_
  replace ⟨y6, hy6, h⟩ := obind h
  refine LW.cl (W_i_Reach hy6 rfl (hS3.rB hr0_0)) ?_
  rintro _ w9 ⟨a7, c8, rfl, hs⟩
  have hS4 := hS3.add hs
  refine go ?_
  obtain ⟨o158, ho158, h159⟩ := obind h
  refine CW.mono (CW.iter (σ := Int) (ρ := Int ⊕ Bool) (fun s10 e wb => En e [(2, .pointer (some ⟨g1, 0, none⟩)), (5, .slice a7 y6.length c8), (19, .slice a0_0 x0.arena.length c0_0), (20, .int .i64 (x0.arena.length : Int)), (21, .int .i64 s10)] ∧ St w0 [] wb [sl a7 c8 y6, bx g1 43 [.slice a0_0 x0.arena.length c0_0, .int .i64 x0.gc.phase, .int .i64 x0.gc.pos, .int .i64 x0.gc.round, .slice a0_4 x0.gc.grey.length c0_4]]) (fun o x e wb => match o with | .inl s10 => x = .exit 0 ∧ En e [] ∧ St w0 [] wb [sl a7 c8 y6, bx g1 43 [.slice a0_0 x0.arena.length c0_0, .int .i64 x0.gc.phase, .int .i64 x0.gc.pos, .int .i64 x0.gc.round, .slice a0_4 x0.gc.grey.length c0_4]] | .inr r => x = .ret ∧ ∃ u, u = r ∧ ∃ v, Res Tryz.prog Tryz.f62.results e wb v ∧ v = .bool u ∧ St w0 [] wb []) ?_ N 0 _ _ _ ⟨⟨rfl, rfl, rfl, rfl, rfl, trivial⟩, hS4.pick [0, 1] rfl rfl⟩ ho158) ?_
  · intro s10 e w11 o hM h
    obtain ⟨hE, hS5⟩ := hM
    obtain ⟨e, rfl⟩ := hE.out
    refine go ?_
    refine CW.fl [2, 5, 19, 20, 21, 22] fun e => ?_
    refine CW.cond rfl (fun hc12 => ?_) (fun hc12 => ?_)
    · replace h := bcT h hc12
      refine go ?_
      replace ⟨y13, hy13, h⟩ := obind h
      obtain ⟨b16, o17, cs18, hae, hb21, hp14, hq15, hd19, hk20⟩ := hr0_0.idx hy13
      subst hae
      obtain ⟨a22, c23, a25, c26, a28, c29, rfl, hr24, hr27, hr30⟩ := hd19
      refine LW.u (Pur.ix Tryz.underlying40 sz85 rfl rfl hp14 hq15) rfl ?_
      refine LW.l (Ldr.oldN w0 ag85 rfl rfl (fun j u hu => hk20 j u hu)) (hS5.same _ hb21.1 hb21.2) rfl ?_
      refine LW.al hS5 fun g31 w32 hS6 => ?_
      refine go ?_
      refine LW.st hS6 0 fun w33 hS7 => ?_
      refine go ?_
      refine CW.cond rfl (fun hc34 => ?_) (fun hc34 => ?_)
      · replace h := bcT h hc34
        refine gs ?_
        obtain ⟨j35, hj35, h36⟩ := obind h
        refine CW.cut (fun e wb => En e [(2, .pointer (some ⟨g1, 0, none⟩)), (5, .slice a7 y6.length c8), (19, .slice (some ⟨b16, o17, none⟩) x0.arena.length c0_0), (20, .int .i64 (x0.arena.length : Int)), (21, .int .i64 s10), (60, .bool j35)] ∧ St w0 [] wb [sl a7 c8 y6, bx g1 43 [.slice (some ⟨b16, o17, none⟩) x0.arena.length c0_0, .int .i64 x0.gc.phase, .int .i64 x0.gc.pos, .int .i64 x0.gc.round, .slice a0_4 x0.gc.grey.length c0_4]]) ?_ ?_
        · have h := hj35
          refine go ?_
          rcases bcases (decide (s10 < x0.gc.pos)) with hc37 | hc37
          · replace h := bcT h hc37
            refine go ?_
            rcases bcases y13.mark with hc38 | hc38
            · replace h := bcT h hc38
              refine go ?_
              cases oi h
              exact ⟨⟨rfl, rfl, rfl, rfl, rfl, rfl, trivial⟩, hS7.pick [1, 2] rfl rfl⟩
            replace h := bcF h hc38
            refine go ?_
            refine LW.fl [2, 5, 6, 7, 19, 20, 21, 39, 45] fun e => ?_
            rcases bcases (decide (s10 ≥ x0.gc.pos)) with hc39 | hc39
            · replace h := bcT h hc39
              refine go ?_
              rcases bcases (decide (s10 > 0)) with hc40 | hc40
              · replace h := bcT h hc40
                refine go ?_
                replace ⟨y41, hy41, h⟩ := obind h
                obtain ⟨b44, o45, hae, hp42, hq43⟩ := hS7.ownIdx (α := Bool) (i := 1) rfl hy41
                subst hae
                refine go ?_
                refine LW.u (Pur.ix Tryz.underlying126 sz4 rfl rfl hp42 hq43) rfl ?_
                obtain ⟨F46, ho47, hS8⟩ := hS7.freeze (α := Bool) 1 rfl
                obtain ⟨b48, o49, cs50, hae, hb53, _, _, hd51, hk52⟩ := ho47.rdF.idx hy41
                cases hae
                obtain rfl := hd51
                refine go ?_
                refine LW.l (Ldr.old w33 ag4 rfl (hk52 0 _ rfl)) (hS8.zC 1 rfl hb53) rfl ?_
                refine go ?_
                rcases bcases y41 with hc54 | hc54
                · replace h := bcT h hc54
                  refine go ?_
                  have hS9 := hS8.thaw (α := Bool) 1 rfl ho47
                  cases oi h
                  exact ⟨⟨rfl, rfl, rfl, rfl, rfl, rfl, trivial⟩, hS9.pick [1, 2] rfl rfl⟩
                replace h := bcF h hc54
                refine go ?_
                have hS10 := hS8.thaw (α := Bool) 1 rfl ho47
                cases oi h
                exact ⟨⟨rfl, rfl, rfl, rfl, rfl, rfl, trivial⟩, hS10.pick [1, 2] rfl rfl⟩
              replace h := bcF h hc40
              refine go ?_
              cases oi h
              exact ⟨⟨rfl, rfl, rfl, rfl, rfl, rfl, trivial⟩, hS7.pick [1, 2] rfl rfl⟩
            replace h := bcF h hc39
            refine go ?_
            cases oi h
            exact ⟨⟨rfl, rfl, rfl, rfl, rfl, rfl, trivial⟩, hS7.pick [1, 2] rfl rfl⟩
          replace h := bcF h hc37
          refine go ?_
          refine LW.fl [2, 5, 6, 7, 19, 20, 21, 39, 45] fun e => ?_
          rcases bcases (decide (s10 ≥ x0.gc.pos)) with hc55 | hc55
          · replace h := bcT h hc55
            refine go ?_
            rcases bcases (decide (s10 > 0)) with hc56 | hc56
            · replace h := bcT h hc56
              refine go ?_
              replace ⟨y57, hy57, h⟩ := obind h
              obtain ⟨b60, o61, hae, hp58, hq59⟩ := hS7.ownIdx (α := Bool) (i := 1) rfl hy57
              subst hae
              refine go ?_
              refine LW.u (Pur.ix Tryz.underlying126 sz4 rfl rfl hp58 hq59) rfl ?_
              obtain ⟨F62, ho63, hS11⟩ := hS7.freeze (α := Bool) 1 rfl
              obtain ⟨b64, o65, cs66, hae, hb69, _, _, hd67, hk68⟩ := ho63.rdF.idx hy57
              cases hae
              obtain rfl := hd67
              refine go ?_
              refine LW.l (Ldr.old w33 ag4 rfl (hk68 0 _ rfl)) (hS11.zC 1 rfl hb69) rfl ?_
              refine go ?_
              rcases bcases y57 with hc70 | hc70
              · replace h := bcT h hc70
                refine go ?_
                have hS12 := hS11.thaw (α := Bool) 1 rfl ho63
                cases oi h
                exact ⟨⟨rfl, rfl, rfl, rfl, rfl, rfl, trivial⟩, hS12.pick [1, 2] rfl rfl⟩
              replace h := bcF h hc70
              refine go ?_
              have hS13 := hS11.thaw (α := Bool) 1 rfl ho63
              cases oi h
              exact ⟨⟨rfl, rfl, rfl, rfl, rfl, rfl, trivial⟩, hS13.pick [1, 2] rfl rfl⟩
            replace h := bcF h hc56
            refine go ?_
            cases oi h
            exact ⟨⟨rfl, rfl, rfl, rfl, rfl, rfl, trivial⟩, hS7.pick [1, 2] rfl rfl⟩
          replace h := bcF h hc55
          refine go ?_
          cases oi h
          exact ⟨⟨rfl, rfl, rfl, rfl, rfl, rfl, trivial⟩, hS7.pick [1, 2] rfl rfl⟩
        rintro e w71 ⟨hE, hS14⟩
        obtain ⟨e, rfl⟩ := hE.out
        have h := h36
        refine go ?_
        refine CW.cond rfl (fun hc72 => ?_) (fun hc72 => ?_)
        · replace h := bcT h hc72
          refine go ?_
          cases oi h
          exact ⟨trivial, rfl, _, rfl, ⟨_, Res.one (resOne.t rfl), rfl, hS14.pick [] rfl rfl⟩⟩
        replace h := bcF h hc72
        refine go ?_
        cases oi h
        exact ⟨rfl, ⟨⟨rfl, rfl, rfl, rfl, rfl, trivial⟩, hS14.pick [0, 1] rfl rfl⟩⟩
      replace h := bcF h hc34
      refine gs ?_
      obtain ⟨j73, hj73, h74⟩ := obind h
      refine CW.cut (fun e wb => En e [(2, .pointer (some ⟨g1, 0, none⟩)), (5, .slice a7 y6.length c8), (6, .int .i64 s10), (8, .bool j73), (19, .slice (some ⟨b16, o17, none⟩) x0.arena.length c0_0), (20, .int .i64 (x0.arena.length : Int)), (21, .int .i64 s10)] ∧ St w0 [] wb [sl a7 c8 y6, bx g1 43 [.slice (some ⟨b16, o17, none⟩) x0.arena.length c0_0, .int .i64 x0.gc.phase, .int .i64 x0.gc.pos, .int .i64 x0.gc.round, .slice a0_4 x0.gc.grey.length c0_4]]) ?_ ?_
      · have h := hj73
        refine go ?_
        replace ⟨y75, hy75, h⟩ := obind h
        obtain ⟨b78, o79, hae, hp76, hq77⟩ := hS7.ownIdx (α := Bool) (i := 1) rfl hy75
        subst hae
        refine LW.u (Pur.ix Tryz.underlying126 sz4 rfl rfl hp76 hq77) rfl ?_
        obtain ⟨F80, ho81, hS15⟩ := hS7.freeze (α := Bool) 1 rfl
        obtain ⟨b82, o83, cs84, hae, hb87, _, _, hd85, hk86⟩ := ho81.rdF.idx hy75
        cases hae
        obtain rfl := hd85
        refine LW.l (Ldr.old w33 ag4 rfl (hk86 0 _ rfl)) (hS15.zC 1 rfl hb87) rfl ?_
        refine go ?_
        rcases bcases y75 with hc88 | hc88
        · replace h := bcT h hc88
          refine go ?_
          rcases bcases y13.mark with hc89 | hc89
          · replace h := bcT h hc89
            refine go ?_
            refine LW.fl [2, 5, 6, 19, 20, 21, 73, 76, 77] fun e => ?_
            replace ⟨y90, hy90, h⟩ := obind h
            refine go ?_
            refine LW.c0 (W_z_Contains_int hy90 rfl (hS15.rB hr0_4)) hS15 fun w91 hS16 => ?_
            refine go ?_
            have hS17 := hS16.thaw (α := Bool) 1 rfl ho81
            cases oi h
            exact ⟨⟨rfl, rfl, rfl, rfl, rfl, rfl, rfl, trivial⟩, hS17.pick [1, 2] rfl rfl⟩
          replace h := bcF h hc89
          refine go ?_
          refine LW.fl [2, 5, 6, 19, 20, 21, 73] fun e => ?_
          rcases bcases (s10 == 0) with hc92 | hc92
          · replace h := bcT h hc92
            refine go ?_
            replace ⟨y93, hy93, h⟩ := obind h
            refine go ?_
            refine LW.c0 (W_z_Contains_int hy93 rfl (hS15.rB hr0_4)) hS15 fun w94 hS18 => ?_
            refine go ?_
            have hS19 := hS18.thaw (α := Bool) 1 rfl ho81
            cases oi h
            exact ⟨⟨rfl, rfl, rfl, rfl, rfl, rfl, rfl, trivial⟩, hS19.pick [1, 2] rfl rfl⟩
          replace h := bcF h hc92
          refine go ?_
          have hS20 := hS15.thaw (α := Bool) 1 rfl ho81
          cases oi h
          exact ⟨⟨rfl, rfl, rfl, rfl, rfl, rfl, rfl, trivial⟩, hS20.pick [1, 2] rfl rfl⟩
        replace h := bcF h hc88
        refine go ?_
        have hS21 := hS15.thaw (α := Bool) 1 rfl ho81
        cases oi h
        exact ⟨⟨rfl, rfl, rfl, rfl, rfl, rfl, rfl, trivial⟩, hS21.pick [1, 2] rfl rfl⟩
      rintro e w95 ⟨hE, hS22⟩
      obtain ⟨e, rfl⟩ := hE.out
      have h := h74
      refine go ?_
      replace ⟨y96, hy96, h⟩ := obind h
      refine LW.cl (W_i_edgesOf hy96 rfl (hS22.rB hr0_0)) ?_
      rintro _ w99 ⟨a97, c98, rfl, hs⟩
      have hS23 := hS22.add hs
      refine go ?_
      obtain ⟨o154, ho154, h155⟩ := obind h
      refine CW.mono (CW.iter (σ := Int) (ρ := Int ⊕ Bool) (fun s100 e wb => En e [(2, .pointer (some ⟨g1, 0, none⟩)), (5, .slice a7 y6.length c8), (8, .bool j73), (19, .slice (some ⟨b16, o17, none⟩) x0.arena.length c0_0), (20, .int .i64 (x0.arena.length : Int)), (21, .int .i64 s10), (84, .slice a97 y96.length c98), (85, .int .i64 (y96.length : Int)), (86, .int .i64 s100)] ∧ St w0 [] wb [sl a97 c98 y96, sl a7 c8 y6, bx g1 43 [.slice (some ⟨b16, o17, none⟩) x0.arena.length c0_0, .int .i64 x0.gc.phase, .int .i64 x0.gc.pos, .int .i64 x0.gc.round, .slice a0_4 x0.gc.grey.length c0_4]]) (fun o x e wb => match o with | .inl s100 => x = .exit 2 ∧ En e [(2, .pointer (some ⟨g1, 0, none⟩)), (5, .slice a7 y6.length c8), (19, .slice (some ⟨b16, o17, none⟩) x0.arena.length c0_0), (20, .int .i64 (x0.arena.length : Int)), (21, .int .i64 s10)] ∧ St w0 [] wb [sl a97 c98 y96, sl a7 c8 y6, bx g1 43 [.slice (some ⟨b16, o17, none⟩) x0.arena.length c0_0, .int .i64 x0.gc.phase, .int .i64 x0.gc.pos, .int .i64 x0.gc.round, .slice a0_4 x0.gc.grey.length c0_4]] | .inr r => x = .ret ∧ ∃ u, u = r ∧ ∃ v, Res Tryz.prog Tryz.f62.results e wb v ∧ v = .bool u ∧ St w0 [] wb []) ?_ N 0 _ _ _ ⟨⟨rfl, rfl, rfl, rfl, rfl, rfl, rfl, rfl, rfl, trivial⟩, hS23.pick [0, 1, 2] rfl rfl⟩ ho154) ?_
      · intro s100 e w101 o hM h
        obtain ⟨hE, hS24⟩ := hM
        obtain ⟨e, rfl⟩ := hE.out
        refine go ?_
        refine CW.fl [2, 5, 8, 19, 20, 21, 84, 85, 86, 87] fun e => ?_
        refine CW.cond rfl (fun hc102 => ?_) (fun hc102 => ?_)
        · replace h := bcT h hc102
          refine go ?_
          replace ⟨y103, hy103, h⟩ := obind h
          obtain ⟨b106, o107, hae, hp104, hq105⟩ := hS24.ownIdx (α := Int) (i := 0) rfl hy103
          subst hae
          refine LW.u (Pur.ix Tryz.underlying22 sz3 rfl rfl hp104 hq105) rfl ?_
          obtain ⟨F108, ho109, hS25⟩ := hS24.freeze (α := Int) 0 rfl
          obtain ⟨b110, o111, cs112, hae, hb115, _, _, hd113, hk114⟩ := ho109.rdF.idx hy103
          cases hae
          obtain rfl := hd113
          refine LW.l (Ldr.old w101 ag3 rfl (hk114 0 _ rfl)) (hS25.zC 0 rfl hb115) rfl ?_
          refine gs ?_
          obtain ⟨j116, hj116, h117⟩ := obind h
          refine CW.cut (fun e wb => En e [(2, .pointer (some ⟨g1, 0, none⟩)), (5, .slice a7 y6.length c8), (8, .bool j73), (19, .slice (some ⟨b16, o17, none⟩) x0.arena.length c0_0), (20, .int .i64 (x0.arena.length : Int)), (21, .int .i64 s10), (84, .slice (some ⟨b106, o107, none⟩) y96.length c98), (85, .int .i64 (y96.length : Int)), (86, .int .i64 s100), (109, .bool j116)] ∧ St w0 [] wb [fz w101 F108, sl a7 c8 y6, bx g1 43 [.slice (some ⟨b16, o17, none⟩) x0.arena.length c0_0, .int .i64 x0.gc.phase, .int .i64 x0.gc.pos, .int .i64 x0.gc.round, .slice a0_4 x0.gc.grey.length c0_4]]) ?_ ?_
          · have h := hj116
            refine go ?_
            rcases bcases j73 with hc118 | hc118
            · replace h := bcT h hc118
              refine go ?_
              rcases bcases (decide (y103 > 0)) with hc119 | hc119
              · replace h := bcT h hc119
                refine go ?_
                replace ⟨y120, hy120, h⟩ := obind h
                obtain ⟨b123, o124, hae, hp121, hq122⟩ := hS25.ownIdx (α := Bool) (i := 1) rfl hy120
                subst hae
                refine go ?_
                refine LW.u (Pur.ix Tryz.underlying126 sz4 rfl rfl hp121 hq122) rfl ?_
                obtain ⟨F125, ho126, hS26⟩ := hS25.freeze (α := Bool) 1 rfl
                obtain ⟨b127, o128, cs129, hae, hb132, _, _, hd130, hk131⟩ := ho126.rdF.idx hy120
                cases hae
                obtain rfl := hd130
                refine go ?_
                refine LW.l (Ldr.old w101 ag4 rfl (hk131 0 _ rfl)) (hS26.zC 1 rfl hb132) rfl ?_
                refine go ?_
                rcases bcases y120 with hc133 | hc133
                · replace h := bcT h hc133
                  refine go ?_
                  refine LW.fl [2, 5, 8, 19, 20, 21, 84, 85, 86, 101, 103, 104] fun e => ?_
                  replace ⟨y134, hy134, h⟩ := obind h
                  obtain ⟨b137, o138, cs139, hae, hb142, hp135, hq136, hd140, hk141⟩ := hr0_0.idx hy134
                  cases hae
                  obtain ⟨a143, c144, a146, c147, a149, c150, rfl, hr145, hr148, hr151⟩ := hd140
                  refine go ?_
                  refine LW.u (Pur.ix Tryz.underlying40 sz85 rfl rfl hp135 hq136) rfl ?_
                  refine go ?_
                  refine LW.l (Ldr.old w0 ag4 rfl (hk141 9 _ rfl)) (hS26.same _ hb142.1 hb142.2) rfl ?_
                  refine go ?_
                  have hS27 := hS26.thaw (α := Bool) 1 rfl ho126
                  cases oi h
                  exact ⟨⟨rfl, rfl, rfl, rfl, rfl, rfl, rfl, rfl, rfl, rfl, trivial⟩, hS27.pick [0, 1, 2] rfl rfl⟩
                replace h := bcF h hc133
                refine go ?_
                have hS28 := hS26.thaw (α := Bool) 1 rfl ho126
                cases oi h
                exact ⟨⟨rfl, rfl, rfl, rfl, rfl, rfl, rfl, rfl, rfl, rfl, trivial⟩, hS28.pick [0, 1, 2] rfl rfl⟩
              replace h := bcF h hc119
              refine go ?_
              cases oi h
              exact ⟨⟨rfl, rfl, rfl, rfl, rfl, rfl, rfl, rfl, rfl, rfl, trivial⟩, hS25.pick [0, 1, 2] rfl rfl⟩
            replace h := bcF h hc118
            refine go ?_
            cases oi h
            exact ⟨⟨rfl, rfl, rfl, rfl, rfl, rfl, rfl, rfl, rfl, rfl, trivial⟩, hS25.pick [0, 1, 2] rfl rfl⟩
          rintro e w152 ⟨hE, hS29⟩
          obtain ⟨e, rfl⟩ := hE.out
          have h := h117
          refine go ?_
          refine CW.cond rfl (fun hc153 => ?_) (fun hc153 => ?_)
          · replace h := bcT h hc153
            refine go ?_
            cases oi h
            exact ⟨trivial, rfl, _, rfl, ⟨_, Res.one (resOne.t rfl), rfl, hS29.pick [] rfl rfl⟩⟩
          replace h := bcF h hc153
          refine go ?_
          have hS30 := hS29.thaw (α := Int) 0 rfl ho109
          cases oi h
          exact ⟨rfl, ⟨⟨rfl, rfl, rfl, rfl, rfl, rfl, rfl, rfl, rfl, trivial⟩, hS30.pick [0, 1, 2] rfl rfl⟩⟩
        replace h := bcF h hc102
        refine go ?_
        cases oi h
        exact ⟨trivial, rfl, ⟨⟨rfl, rfl, rfl, rfl, rfl, trivial⟩, hS24.pick [0, 1, 2] rfl rfl⟩⟩
      intro x e w156 hM
      rcases o154 with o154 | r157
      · obtain ⟨rfl, hM⟩ := hM
        obtain ⟨hE, hS31⟩ := hM
        obtain ⟨e, rfl⟩ := hE.out
        have h := h155
        refine go ?_
        cases oi h
        exact ⟨rfl, ⟨⟨rfl, rfl, rfl, rfl, rfl, trivial⟩, hS31.pick [1, 2] rfl rfl⟩⟩
      obtain ⟨rfl, u, rfl, hM⟩ := hM
      cases h155
      exact ⟨trivial, rfl, _, rfl, hM⟩
    replace h := bcF h hc12
    refine go ?_
    cases oi h
    exact ⟨trivial, rfl, ⟨trivial, hS5.pick [0, 1] rfl rfl⟩⟩
  intro x e w160 hM
  rcases o158 with o158 | r161
  · obtain ⟨rfl, hM⟩ := hM
    obtain ⟨hE, hS32⟩ := hM
    obtain ⟨e, rfl⟩ := hE.out; rw [show e = upds e [] from rfl]
    have h := h159
    refine go ?_
    cases h
    exact And.intro trivial ⟨_, Res.one (resOne.t rfl), rfl, hS32.pick [] rfl rfl⟩
  obtain ⟨rfl, u, rfl, hM⟩ := hM
  cases h159
  exact And.intro trivial hM

theorem W_i_Sound {w0 : World} {N : Nat} {x0 : DWorld} {r : Bool} (h : F_i_Sound N x0 = some r) {a0_1 : Option Addr} {n0_1 c0_1 : Nat} (hn0_1 : n0_1 = x0.parts.length) (hr0_1 : rdS (Bor w0 []) w0 a0_1 c0_1 x0.parts) :
    Ret Tryz.prog 20 #[.agg #[.int .i64 x0.now, .slice a0_1 n0_1 c0_1]] w0 (fun v w => v = .bool r ∧ St w0 [] w []) := by
  subst hn0_1
  unfold F_i_Sound at h
  refine Ret.fn Tryz.func20 fun e => ?_
  have hS1 := St.start w0
  refine go ?_
  refine LW.bo hS1 fun g1 w2 hS2 => ?_
  refine go ?_
  obtain ⟨o39, ho39, h40⟩ := obind h
  refine CW.mono (CW.iter (σ := Int) (ρ := Int ⊕ Bool) (fun s3 e wb => En e [(1, .pointer (some ⟨g1, 0, none⟩)), (6, .slice a0_1 x0.parts.length c0_1), (7, .int .i64 (x0.parts.length : Int)), (8, .int .i64 s3)] ∧ St w0 [] wb [bx g1 61 [.int .i64 x0.now, .slice a0_1 x0.parts.length c0_1]]) (fun o x e wb => match o with | .inl s3 => x = .exit 0 ∧ En e [(1, .pointer (some ⟨g1, 0, none⟩))] ∧ St w0 [] wb [bx g1 61 [.int .i64 x0.now, .slice a0_1 x0.parts.length c0_1]] | .inr r => x = .ret ∧ ∃ u, u = r ∧ ∃ v, Res Tryz.prog Tryz.f20.results e wb v ∧ v = .bool u ∧ St w0 [] wb []) ?_ N 0 _ _ _ ⟨⟨rfl, rfl, rfl, rfl, trivial⟩, hS2.pick [0] rfl rfl⟩ ho39) ?_
  · intro s3 e w4 o hM h
    obtain ⟨hE, hS3⟩ := hM
    obtain ⟨e, rfl⟩ := hE.out
    refine go ?_
    refine CW.cond rfl (fun hc5 => ?_) (fun hc5 => ?_)
    · replace h := bcT h hc5
      refine go ?_
      replace ⟨y6, hy6, h⟩ := obind h
      obtain ⟨b9, o10, cs11, hae, hb14, hp7, hq8, hd12, hk13⟩ := hr0_1.idx hy6
      subst hae
      obtain ⟨a15, c16, a18, c19, a21, c22, a24, c25, a27, c28, a30, c31, rfl, hr17, hr20, hr23, hr26, hr29, hr32⟩ := hd12
      refine LW.u (Pur.ix Tryz.underlying59 sz47 rfl rfl hp7 hq8) rfl ?_
      refine LW.l (Ldr.oldN w0 ag47 rfl rfl (fun j u hu => hk13 j u hu)) (hS3.same _ hb14.1 hb14.2) rfl ?_
      refine LW.al hS3 fun g33 w34 hS4 => ?_
      refine LW.st hS4 0 fun w35 hS5 => ?_
      refine go ?_
      replace ⟨y36, hy36, h⟩ := obind h
      refine LW.c0 (W_i_GcSafe hy36 rfl (hS5.rB hr26) rfl (hS5.rB hr29)) hS5 fun w37 hS6 => ?_
      refine go ?_
      refine CW.fl [1, 6, 7, 8, 17] fun e => ?_
      refine CW.cond rfl (fun hc38 => ?_) (fun hc38 => ?_)
      · replace h := bcT h hc38
        refine go ?_
        cases oi h
        exact ⟨trivial, rfl, _, rfl, ⟨_, Res.one (resOne.t rfl), rfl, hS6.pick [] rfl rfl⟩⟩
      replace h := bcF h hc38
      refine go ?_
      cases oi h
      exact ⟨rfl, ⟨⟨rfl, rfl, rfl, rfl, trivial⟩, hS6.pick [1] rfl rfl⟩⟩
    replace h := bcF h hc5
    refine go ?_
    cases oi h
    exact ⟨trivial, rfl, ⟨⟨rfl, trivial⟩, hS3.pick [0] rfl rfl⟩⟩
  intro x e w41 hM
  rcases o39 with o39 | r44
  · obtain ⟨rfl, hM⟩ := hM
    obtain ⟨hE, hS7⟩ := hM
    obtain ⟨e, rfl⟩ := hE.out
    have h := h40
    refine go ?_
    replace ⟨y42, hy42, h⟩ := obind h
    refine LW.c0 (W_i_WorldOk hy42 rfl (hS7.rB hr0_1)) hS7 fun w43 hS8 => ?_
    refine go ?_
    cases h
    exact And.intro trivial ⟨_, Res.one (resOne.t rfl), rfl, hS8.pick [] rfl rfl⟩
  obtain ⟨rfl, u, rfl, hM⟩ := hM
  cases h40
  exact And.intro trivial hM

theorem W_l_FnExactSound {w0 : World} {N : Nat} {x0 : DWorld} {r : Bool} (h : F_l_FnExactSound N x0 = some r) {a0_1 : Option Addr} {n0_1 c0_1 : Nat} (hn0_1 : n0_1 = x0.parts.length) (hr0_1 : rdS (Bor w0 []) w0 a0_1 c0_1 x0.parts) :
    Ret Tryz.prog 4 #[.agg #[.int .i64 x0.now, .slice a0_1 n0_1 c0_1]] w0 (fun v w => v = .bool r ∧ St w0 [] w []) := by
  subst hn0_1
  unfold F_l_FnExactSound at h
  refine Ret.fn Tryz.func4 fun e => ?_
  have hS1 := St.start w0
  refine go ?_
  refine LW.bo hS1 fun g1 w2 hS2 => ?_
  refine go ?_
  replace ⟨y3, hy3, h⟩ := obind h
  refine LW.c0 (W_l_szWorld hy3 rfl (hS2.rB hr0_1)) hS2 fun w4 hS3 => ?_
  refine go ?_
  refine CW.cond rfl (fun hc5 => ?_) (fun hc5 => ?_)
  · replace h := bcT h hc5
    refine go ?_
    cases h
    exact And.intro trivial ⟨_, Res.one (resOne.t rfl), rfl, hS3.pick [] rfl rfl⟩
  replace h := bcF h hc5
  refine go ?_
  replace ⟨y6, hy6, h⟩ := obind h
  refine LW.cl (W_l_toWorld hy6 rfl (hS3.rB hr0_1)) ?_
  rintro _ w9 ⟨a7, c8, rfl, hs⟩
  have hS4 := hS3.add hs
  replace ⟨y10, hy10, h⟩ := obind h
  refine LW.c0 (W_s_Sound hy10 rfl (hS4.rI 0 rfl)) hS4 fun w11 hS5 => ?_
  refine go ?_
  replace ⟨y12, hy12, h⟩ := obind h
  refine LW.cl (W_l_toWorld hy12 rfl (hS5.rB hr0_1)) ?_
  rintro _ w15 ⟨a13, c14, rfl, hs⟩
  have hS6 := hS5.add hs
  refine LW.al hS6 fun g16 w17 hS7 => ?_
  refine LW.st hS7 0 fun w18 hS8 => ?_
  refine go ?_
  replace ⟨y19, hy19, h⟩ := obind h
  refine LW.c0 (W_i_Sound hy19 rfl (hS8.rI 1 rfl)) hS8 fun w20 hS9 => ?_
  refine go ?_
  refine LW.u (Pur.bne Tryz.underlying4 rfl rfl) rfl ?_
  refine go ?_
  refine CW.fl [1, 5, 21] fun e => ?_
  refine CW.cond rfl (fun hc21 => ?_) (fun hc21 => ?_)
  · replace h := bcT h hc21
    refine go ?_
    cases h
    exact And.intro trivial ⟨_, Res.one (resOne.t rfl), rfl, hS9.pick [] rfl rfl⟩
  replace h := bcF h hc21
  refine go ?_
  refine CW.draw (by kernel_rfl) ?_
  have hS10 := hS9.drew
  refine AW.take (i := 0) rfl (by kernel_rfl) rfl rfl (Ldr.boxN (bt := 61) (fr := (0, 0)) (cs := [.int .i64 y12.now, .slice a13 y12.parts.length c14]) ag61 rfl rfl) (St.cell (h := hS10) (i := 0) rfl) ?_
  refine AW.take (i := 1) rfl (by kernel_rfl) rfl rfl (Ldr.boxN (bt := 56) (fr := (0, 0)) (cs := [.int .i64 x0.now, .slice a0_1 x0.parts.length c0_1]) ag56 rfl rfl) (St.cell (h := hS10) (i := 3) rfl) ?_
  replace ⟨y22, hy22, h⟩ := obind h
  have q := W_l_toWorld (w0 := w20.drew) hy22 rfl (hS10.rB hr0_1)
  refine AW.one (i := 2) (by kernel_rfl) ?_
  refine ⟨_, rfl, ?_⟩
  refine LW.call pl19 rfl rfl ?_
  refine Ret.mono q ?_
  rintro _ w25 ⟨a23, c24, rfl, hs⟩
  have hS11 := hS10.add hs
  refine LW.nil ⟨rfl, (.w (by kernel_rfl) (.c (St.cell (h := hS11) (i := 1) rfl) Kept.n)), ?_⟩
  replace ⟨y26, hy26, h⟩ := obind h
  have q := W_l_eqWorld (w0 := w25) hy26 rfl (hS11.rI 2 rfl) rfl (hS11.rI 0 rfl)
  refine AW.one (i := 3) (by kernel_rfl) ?_
  refine ⟨_, rfl, ?_⟩
  refine LW.call pl21 rfl rfl ?_
  refine Ret.mono q ?_
  rintro _ w27 ⟨rfl, hs⟩
  have hS12 := hS11.add hs
  refine LW.nil ⟨rfl, (.c (St.cell (h := hS12) (i := 4) rfl) (.w (by kernel_rfl) Kept.n)), ?_⟩
  refine AW.u (i := 4) rfl (by kernel_rfl) rfl rfl (Pur.p rfl) ?_
  refine AW.done (by kernel_rfl) ?_
  refine go ?_
  refine CW.cond rfl (fun hc28 => ?_) (fun hc28 => ?_)
  · replace h := bcT h hc28
    refine go ?_
    cases h
    exact And.intro trivial ⟨_, Res.one (resOne.t rfl), rfl, hS12.pick [] rfl rfl⟩
  replace h := bcF h hc28
  refine go ?_
  cases h
  exact And.intro trivial ⟨_, Res.one (resOne.t rfl), rfl, hS12.pick [] rfl rfl⟩

end Go.Kx
