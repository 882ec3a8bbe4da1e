/- Each call returns what the plain function says. Printed by drive.py. -/
import Derived.Test.YtfllimolhpblnaaGreatFa
import Derived.Test.YtfllimolhpblnaaGreatPu
import Derived.Test.YtfllimolhpblnaaGreatWa0
import Derived.Test.YtfllimolhpblnaaGreatWa5
import Derived.Test.YtfllimolhpblnaaGreatWa6
import Derived.Test.YtfllimolhpblnaaGreatWa17
import Derived.Test.YtfllimolhpblnaaGreatWa20
namespace Go.Kx
open Go Go.RowKit Go.Proofs
set_option maxRecDepth 10000
set_option maxHeartbeats 2000000
set_option linter.unusedVariables false
set_option linter.unusedSimpArgs false
theorem W_s_Victim {w0 : World} {N : Nat} {x0 : DPart} {x1 : Int} {r : Int} (h : F_s_Victim N x0 x1 = some r) {a0_0 : Option Addr} {n0_0 c0_0 : Nat} (hn0_0 : n0_0 = x0.label.levels.length) (hr0_0 : rdS (Bor w0 []) w0 a0_0 c0_0 x0.label.levels) {a0_1 : Option Addr} {n0_1 c0_1 : Nat} (hn0_1 : n0_1 = x0.own.length) (hr0_1 : rdS (Bor w0 []) w0 a0_1 c0_1 x0.own) {a0_2 : Option Addr} {n0_2 c0_2 : Nat} (hn0_2 : n0_2 = x0.tree.length) (hr0_2 : rdS (Bor w0 []) w0 a0_2 c0_2 x0.tree) {a0_3 : Option Addr} {n0_3 c0_3 : Nat} (hn0_3 : n0_3 = x0.heap.arena.length) (hr0_3 : rdS (Bor w0 []) w0 a0_3 c0_3 x0.heap.arena) {a0_7 : Option Addr} {n0_7 c0_7 : Nat} (hn0_7 : n0_7 = x0.heap.gc.grey.length) (hr0_7 : rdS (Bor w0 []) w0 a0_7 c0_7 x0.heap.gc.grey) {a0_8 : Option Addr} {n0_8 c0_8 : Nat} (hn0_8 : n0_8 = x0.taps.length) (hr0_8 : rdS (Bor w0 []) w0 a0_8 c0_8 x0.taps) :
    Ret Tryz.prog 85 #[.agg #[.slice a0_0 n0_0 c0_0, .slice a0_1 n0_1 c0_1, .slice a0_2 n0_2 c0_2, .slice a0_3 n0_3 c0_3, .int .i64 x0.heap.gc.phase, .int .i64 x0.heap.gc.pos, .int .i64 x0.heap.gc.round, .slice a0_7 n0_7 c0_7, .slice a0_8 n0_8 c0_8, .int .i64 x0.next, .int .i64 x0.want, .int .i64 x0.spent.pages, .int .i64 x0.spent.rent, .int .i64 x0.spent.cpu, .int .i64 x0.press, .int .i64 x0.lost], .int .i64 x1] w0 (fun v w => v = .int .i64 r ∧ St w0 [] w []) := by
  subst hn0_0 hn0_1 hn0_2 hn0_3 hn0_7 hn0_8
  unfold F_s_Victim at h
  refine Ret.fn Tryz.func85 fun e => ?_
  have hS1 := St.start w0
  refine go ?_
  refine LW.bo hS1 fun g1 w2 hS2 => ?_
  refine go ?_
  replace ⟨y3, hy3, h⟩ := obind h
  refine LW.cl (W_s_Threads hy3 rfl (hS2.rB hr0_0) rfl (hS2.rB hr0_1) rfl (hS2.rB hr0_2) rfl (hS2.rB hr0_3) rfl (hS2.rB hr0_7) rfl (hS2.rB hr0_8)) ?_
  rintro _ w6 ⟨a4, c5, rfl, hs⟩
  have hS3 := hS2.add hs
  refine go ?_
  refine CW.cond rfl (fun hc7 => ?_) (fun hc7 => ?_)
  · replace h := bcT h hc7
    refine go ?_
    cases h
    exact And.intro trivial ⟨_, Res.one (resOne.t rfl), rfl, hS3.pick [] rfl rfl⟩
  replace h := bcF h hc7
  refine go ?_
  obtain ⟨o100, ho100, h101⟩ := obind h
  refine CW.mono (CW.iter (σ := Int × Int) (ρ := Int × Int) (fun s8 e wb => En e [(2, .pointer (some ⟨g1, 0, none⟩)), (5, .slice a4 y3.length c5), (6, .int .i64 s8.1), (7, .int .i64 s8.2)] ∧ St w0 [] wb [sl a4 c5 y3, bx g1 66 [.slice a0_0 x0.label.levels.length c0_0, .slice a0_1 x0.own.length c0_1, .slice a0_2 x0.tree.length c0_2, .slice a0_3 x0.heap.arena.length c0_3, .int .i64 x0.heap.gc.phase, .int .i64 x0.heap.gc.pos, .int .i64 x0.heap.gc.round, .slice a0_7 x0.heap.gc.grey.length c0_7, .slice a0_8 x0.taps.length c0_8, .int .i64 x0.next, .int .i64 x0.want, .int .i64 x0.spent.pages, .int .i64 x0.spent.rent, .int .i64 x0.spent.cpu, .int .i64 x0.press, .int .i64 x0.lost]]) (fun s8 x e wb => x = .exit 0 ∧ En e [(6, .int .i64 s8.1)] ∧ St w0 [] wb [sl a4 c5 y3, bx g1 66 [.slice a0_0 x0.label.levels.length c0_0, .slice a0_1 x0.own.length c0_1, .slice a0_2 x0.tree.length c0_2, .slice a0_3 x0.heap.arena.length c0_3, .int .i64 x0.heap.gc.phase, .int .i64 x0.heap.gc.pos, .int .i64 x0.heap.gc.round, .slice a0_7 x0.heap.gc.grey.length c0_7, .slice a0_8 x0.taps.length c0_8, .int .i64 x0.next, .int .i64 x0.want, .int .i64 x0.spent.pages, .int .i64 x0.spent.rent, .int .i64 x0.spent.cpu, .int .i64 x0.press, .int .i64 x0.lost]]) ?_ N (-1, 0) _ _ _ ⟨⟨rfl, rfl, rfl, rfl, trivial⟩, hS3.pick [0, 1] rfl rfl⟩ ho100) ?_
  · intro s8 e w9 o hM h
    obtain ⟨hE, hS4⟩ := hM
    obtain ⟨e, rfl⟩ := hE.out
    refine go ?_
    refine CW.fl [2, 5, 6, 7, 17] fun e => ?_
    refine CW.cond rfl (fun hc10 => ?_) (fun hc10 => ?_)
    · replace h := bcT h hc10
      refine gs ?_
      refine CW.block ?_
      refine gs ?_
      obtain ⟨j11, hj11, h12⟩ := obind h
      refine CW.cut (fun e wb => En e [(2, .pointer (some ⟨g1, 0, none⟩)), (5, .slice a4 y3.length c5), (6, .int .i64 s8.1), (7, .int .i64 s8.2), (57, .bool j11)] ∧ St w0 [] wb [sl a4 c5 y3, bx g1 66 [.slice a0_0 x0.label.levels.length c0_0, .slice a0_1 x0.own.length c0_1, .slice a0_2 x0.tree.length c0_2, .slice a0_3 x0.heap.arena.length c0_3, .int .i64 x0.heap.gc.phase, .int .i64 x0.heap.gc.pos, .int .i64 x0.heap.gc.round, .slice a0_7 x0.heap.gc.grey.length c0_7, .slice a0_8 x0.taps.length c0_8, .int .i64 x0.next, .int .i64 x0.want, .int .i64 x0.spent.pages, .int .i64 x0.spent.rent, .int .i64 x0.spent.cpu, .int .i64 x0.press, .int .i64 x0.lost]]) ?_ ?_
      · have h := hj11
        refine CW.draw (by kernel_rfl) ?_
        have hS5 := hS4.drew
        refine AW.u (i := 0) rfl (by kernel_rfl) rfl rfl (Pur.p rfl) ?_
        refine AW.u (i := 1) rfl (by kernel_rfl) rfl rfl (Pur.p rfl) ?_
        refine AW.u (i := 2) rfl (by kernel_rfl) rfl rfl (Pur.p rfl) ?_
        rcases bcases (decide (s8.1 < 0)) with hc13 | hc13
        · replace h := bcT h hc13
          refine AW.no (i := 3) rfl (by kernel_rfl) (want_not rfl rfl hc13) rfl ?_
          refine AW.no (i := 4) rfl (by kernel_rfl) (want_not rfl rfl hc13) rfl ?_
          refine AW.no (i := 5) rfl (by kernel_rfl) (want_not rfl rfl hc13) rfl ?_
          refine AW.no (i := 6) rfl (by kernel_rfl) (want_not rfl rfl hc13) rfl ?_
          refine AW.no (i := 7) rfl (by kernel_rfl) (want_not rfl rfl hc13) rfl ?_
          refine AW.no (i := 8) rfl (by kernel_rfl) (want_not rfl rfl hc13) rfl ?_
          refine AW.no (i := 9) rfl (by kernel_rfl) (want_not rfl rfl hc13) rfl ?_
          refine AW.no (i := 10) rfl (by kernel_rfl) (want_not rfl rfl hc13) rfl ?_
          refine AW.no (i := 11) rfl (by kernel_rfl) (want_not rfl rfl hc13) rfl ?_
          refine AW.no (i := 12) rfl (by kernel_rfl) (want_not rfl rfl hc13) rfl ?_
          refine AW.no (i := 13) rfl (by kernel_rfl) (want_not rfl rfl hc13) rfl ?_
          refine AW.no (i := 14) rfl (by kernel_rfl) (want_not rfl rfl hc13) rfl ?_
          refine AW.no (i := 15) rfl (by kernel_rfl) (want_not rfl rfl hc13) rfl ?_
          refine AW.no (i := 16) rfl (by kernel_rfl) (want_not rfl rfl hc13) rfl ?_
          refine AW.no (i := 17) rfl (by kernel_rfl) (want_not rfl rfl hc13) rfl ?_
          refine AW.no (i := 18) rfl (by kernel_rfl) (want_not rfl rfl hc13) rfl ?_
          refine AW.no (i := 19) rfl (by kernel_rfl) (want_not rfl rfl hc13) rfl ?_
          refine AW.no (i := 20) rfl (by kernel_rfl) (want_not rfl rfl hc13) rfl ?_
          refine AW.no (i := 21) rfl (by kernel_rfl) (want_not rfl rfl hc13) rfl ?_
          refine AW.no (i := 22) rfl (by kernel_rfl) (want_not rfl rfl hc13) rfl ?_
          refine AW.no (i := 23) rfl (by kernel_rfl) (want_not rfl rfl hc13) rfl ?_
          refine AW.no (i := 24) rfl (by kernel_rfl) (want_not rfl rfl hc13) rfl ?_
          refine AW.no (i := 25) rfl (by kernel_rfl) (want_not rfl rfl hc13) rfl ?_
          refine AW.no (i := 26) rfl (by kernel_rfl) (want_not rfl rfl hc13) rfl ?_
          refine AW.no (i := 27) rfl (by kernel_rfl) (want_not rfl rfl hc13) rfl ?_
          refine AW.no (i := 28) rfl (by kernel_rfl) (want_not rfl rfl hc13) rfl ?_
          refine AW.no (i := 29) rfl (by kernel_rfl) (want_not rfl rfl hc13) rfl ?_
          refine AW.no (i := 30) rfl (by kernel_rfl) (want_not rfl rfl hc13) rfl ?_
          refine AW.no (i := 31) rfl (by kernel_rfl) (want_not rfl rfl hc13) rfl ?_
          refine AW.no (i := 32) rfl (by kernel_rfl) (want_not rfl rfl hc13) rfl ?_
          refine AW.no (i := 33) rfl (by kernel_rfl) (want_not rfl rfl hc13) rfl ?_
          refine AW.no (i := 34) rfl (by kernel_rfl) (want_not rfl rfl hc13) rfl ?_
          refine AW.no (i := 35) rfl (by kernel_rfl) (want_not rfl rfl hc13) rfl ?_
          refine AW.no (i := 36) rfl (by kernel_rfl) (want_not rfl rfl hc13) rfl ?_
          refine AW.u (i := 37) rfl (by kernel_rfl) rfl rfl (Pur.pickT rfl hc13) ?_
          refine AW.done (by kernel_rfl) ?_
          cases oi h
          exact ⟨⟨rfl, rfl, rfl, rfl, rfl, trivial⟩, hS5.pick [0, 1] rfl rfl⟩
        replace h := bcF h hc13
        refine AW.u (i := 3) rfl (by kernel_rfl) (want_of rfl rfl hc13) rfl (Pur.fa fo66_2 rfl) ?_
        refine AW.take (i := 4) rfl (by kernel_rfl) (want_of rfl rfl hc13) rfl (Ldr.box (bt := 66) (fr := (0, 0)) (cs := [.slice a0_0 x0.label.levels.length c0_0, .slice a0_1 x0.own.length c0_1, .slice a0_2 x0.tree.length c0_2, .slice a0_3 x0.heap.arena.length c0_3, .int .i64 x0.heap.gc.phase, .int .i64 x0.heap.gc.pos, .int .i64 x0.heap.gc.round, .slice a0_7 x0.heap.gc.grey.length c0_7, .slice a0_8 x0.taps.length c0_8, .int .i64 x0.next, .int .i64 x0.want, .int .i64 x0.spent.pages, .int .i64 x0.spent.rent, .int .i64 x0.spent.cpu, .int .i64 x0.press, .int .i64 x0.lost]) ag58 rfl rfl) (St.cell (h := hS5) (i := 1) rfl) ?_
        refine AW.take (i := 5) rfl (by kernel_rfl) (want_of rfl rfl hc13) rfl (Ldr.boxN (bt := 66) (fr := (0, 0)) (cs := [.slice a0_0 x0.label.levels.length c0_0, .slice a0_1 x0.own.length c0_1, .slice a0_2 x0.tree.length c0_2, .slice a0_3 x0.heap.arena.length c0_3, .int .i64 x0.heap.gc.phase, .int .i64 x0.heap.gc.pos, .int .i64 x0.heap.gc.round, .slice a0_7 x0.heap.gc.grey.length c0_7, .slice a0_8 x0.taps.length c0_8, .int .i64 x0.next, .int .i64 x0.want, .int .i64 x0.spent.pages, .int .i64 x0.spent.rent, .int .i64 x0.spent.cpu, .int .i64 x0.press, .int .i64 x0.lost]) ag66 rfl rfl) (St.cell (h := hS5) (i := 1) rfl) ?_
        refine AW.u (i := 6) rfl (by kernel_rfl) (want_of rfl rfl hc13) rfl (Pur.fa fo66_3 rfl) ?_
        refine AW.u (i := 7) rfl (by kernel_rfl) (want_of rfl rfl hc13) rfl (Pur.fa fo62_0 rfl) ?_
        refine AW.take (i := 8) rfl (by kernel_rfl) (want_of rfl rfl hc13) rfl (Ldr.box (bt := 66) (fr := (0, 0)) (cs := [.slice a0_0 x0.label.levels.length c0_0, .slice a0_1 x0.own.length c0_1, .slice a0_2 x0.tree.length c0_2, .slice a0_3 x0.heap.arena.length c0_3, .int .i64 x0.heap.gc.phase, .int .i64 x0.heap.gc.pos, .int .i64 x0.heap.gc.round, .slice a0_7 x0.heap.gc.grey.length c0_7, .slice a0_8 x0.taps.length c0_8, .int .i64 x0.next, .int .i64 x0.want, .int .i64 x0.spent.pages, .int .i64 x0.spent.rent, .int .i64 x0.spent.cpu, .int .i64 x0.press, .int .i64 x0.lost]) ag59 rfl rfl) (St.cell (h := hS5) (i := 1) rfl) ?_
        refine AW.u (i := 9) rfl (by kernel_rfl) (want_of rfl rfl hc13) rfl (Pur.p rfl) ?_
        refine AW.u (i := 10) rfl (by kernel_rfl) (want_of rfl rfl hc13) rfl (Pur.p rfl) ?_
        replace ⟨y14, hy14, h⟩ := obind h
        obtain ⟨b17, o18, hae, hp15, hq16⟩ := hS5.ownIdx (α := Int) (i := 0) rfl hy14
        subst hae
        refine AW.u (i := 11) rfl (by kernel_rfl) (want_of rfl rfl hc13) rfl (Pur.ix Tryz.underlying28 sz3 rfl rfl hp15 hq16) ?_
        obtain ⟨F19, ho20, hS6⟩ := hS5.freeze (α := Int) 0 rfl
        obtain ⟨b21, o22, cs23, hae, hb26, _, _, hd24, hk25⟩ := ho20.rdF.idx hy14
        cases hae
        obtain rfl := hd24
        refine AW.take (i := 12) rfl (by kernel_rfl) (want_of rfl rfl hc13) rfl (Ldr.old w9.drew ag3 rfl (hk25 0 _ rfl)) (hS6.zC 0 rfl hb26) ?_
        replace ⟨y27, hy27, h⟩ := obind h
        obtain ⟨b30, o31, cs32, hae, hb35, hp28, hq29, hd33, hk34⟩ := hr0_3.idx hy27
        subst hae
        obtain ⟨a36, c37, a39, c40, a42, c43, rfl, hr38, hr41, hr44⟩ := hd33
        refine AW.u (i := 13) rfl (by kernel_rfl) (want_of rfl rfl hc13) rfl (Pur.ix Tryz.underlying59 sz92 rfl rfl hp28 hq29) ?_
        refine AW.u (i := 14) rfl (by kernel_rfl) (want_of rfl rfl hc13) rfl (Pur.fa fo92_3 rfl) ?_
        refine AW.take (i := 15) rfl (by kernel_rfl) (want_of rfl rfl hc13) rfl (Ldr.old w0 ag3 rfl (hk34 3 _ rfl)) (hS6.same _ hb35.1 hb35.2) ?_
        refine AW.u (i := 21) rfl (by kernel_rfl) (want_of rfl rfl hc13) rfl (Pur.fa fo66_2 rfl) ?_
        refine AW.take (i := 22) rfl (by kernel_rfl) (want_of rfl rfl hc13) rfl (Ldr.box (bt := 66) (fr := (0, 0)) (cs := [.slice a0_0 x0.label.levels.length c0_0, .slice a0_1 x0.own.length c0_1, .slice a0_2 x0.tree.length c0_2, .slice (some ⟨b30, o31, none⟩) x0.heap.arena.length c0_3, .int .i64 x0.heap.gc.phase, .int .i64 x0.heap.gc.pos, .int .i64 x0.heap.gc.round, .slice a0_7 x0.heap.gc.grey.length c0_7, .slice a0_8 x0.taps.length c0_8, .int .i64 x0.next, .int .i64 x0.want, .int .i64 x0.spent.pages, .int .i64 x0.spent.rent, .int .i64 x0.spent.cpu, .int .i64 x0.press, .int .i64 x0.lost]) ag58 rfl rfl) (St.cell (h := hS6) (i := 1) rfl) ?_
        refine AW.take (i := 23) rfl (by kernel_rfl) (want_of rfl rfl hc13) rfl (Ldr.boxN (bt := 66) (fr := (0, 0)) (cs := [.slice a0_0 x0.label.levels.length c0_0, .slice a0_1 x0.own.length c0_1, .slice a0_2 x0.tree.length c0_2, .slice (some ⟨b30, o31, none⟩) x0.heap.arena.length c0_3, .int .i64 x0.heap.gc.phase, .int .i64 x0.heap.gc.pos, .int .i64 x0.heap.gc.round, .slice a0_7 x0.heap.gc.grey.length c0_7, .slice a0_8 x0.taps.length c0_8, .int .i64 x0.next, .int .i64 x0.want, .int .i64 x0.spent.pages, .int .i64 x0.spent.rent, .int .i64 x0.spent.cpu, .int .i64 x0.press, .int .i64 x0.lost]) ag66 rfl rfl) (St.cell (h := hS6) (i := 1) rfl) ?_
        refine AW.u (i := 24) rfl (by kernel_rfl) (want_of rfl rfl hc13) rfl (Pur.fa fo66_3 rfl) ?_
        refine AW.u (i := 25) rfl (by kernel_rfl) (want_of rfl rfl hc13) rfl (Pur.fa fo62_0 rfl) ?_
        refine AW.take (i := 26) rfl (by kernel_rfl) (want_of rfl rfl hc13) rfl (Ldr.box (bt := 66) (fr := (0, 0)) (cs := [.slice a0_0 x0.label.levels.length c0_0, .slice a0_1 x0.own.length c0_1, .slice a0_2 x0.tree.length c0_2, .slice (some ⟨b30, o31, none⟩) x0.heap.arena.length c0_3, .int .i64 x0.heap.gc.phase, .int .i64 x0.heap.gc.pos, .int .i64 x0.heap.gc.round, .slice a0_7 x0.heap.gc.grey.length c0_7, .slice a0_8 x0.taps.length c0_8, .int .i64 x0.next, .int .i64 x0.want, .int .i64 x0.spent.pages, .int .i64 x0.spent.rent, .int .i64 x0.spent.cpu, .int .i64 x0.press, .int .i64 x0.lost]) ag59 rfl rfl) (St.cell (h := hS6) (i := 1) rfl) ?_
        refine AW.u (i := 27) rfl (by kernel_rfl) (want_of rfl rfl hc13) rfl (Pur.p rfl) ?_
        replace ⟨y45, hy45, h⟩ := obind h
        obtain ⟨b48, o49, cs50, hae, hb53, hp46, hq47, hd51, hk52⟩ := hr0_3.idx hy45
        cases hae
        obtain ⟨a54, c55, a57, c58, a60, c61, rfl, hr56, hr59, hr62⟩ := hd51
        refine AW.u (i := 28) rfl (by kernel_rfl) (want_of rfl rfl hc13) rfl (Pur.ix Tryz.underlying59 sz92 rfl rfl hp46 hq47) ?_
        refine AW.u (i := 29) rfl (by kernel_rfl) (want_of rfl rfl hc13) rfl (Pur.fa fo92_3 rfl) ?_
        refine AW.take (i := 30) rfl (by kernel_rfl) (want_of rfl rfl hc13) rfl (Ldr.old w0 ag3 rfl (hk52 3 _ rfl)) (hS6.same _ hb53.1 hb53.2) ?_
        replace ⟨y63, hy63, h⟩ := obind h
        have q := W_s_ResOf (w0 := w9.drew) hy63 rfl (hS6.rB hr0_0) rfl (hS6.rB hr0_1) rfl (hS6.rB hr0_2) rfl (hS6.rB hr0_3) rfl (hS6.rB hr0_7) rfl (hS6.rB hr0_8)
        refine AW.one (i := 16) (by kernel_rfl) ?_
        refine ⟨_, rfl, ?_⟩
        refine (LW.gY (want_of rfl rfl hc13) ?_)
        refine LW.call pl91 rfl rfl ?_
        refine Ret.mono q ?_
        rintro _ w64 ⟨rfl, hs⟩
        have hS7 := hS6.add hs
        refine LW.nil ⟨rfl, (.c (hS7.same _ hb53.1 hb53.2) (.c (St.cell (h := hS7) (i := 1) rfl) (.c (St.cell (h := hS7) (i := 1) rfl) (.c (St.cell (h := hS7) (i := 1) rfl) (.w (by kernel_rfl) (.c (hS7.zC 0 rfl hb26) (.c (St.cell (h := hS7) (i := 1) rfl) (.w (by kernel_rfl) (.c (St.cell (h := hS7) (i := 1) rfl) Kept.n))))))))), ?_⟩
        replace ⟨y65, hy65, h⟩ := obind h
        obtain ⟨b68, o69, cs70, hae, hb73, hp66, hq67, hd71, hk72⟩ := hr0_2.idx hy65
        subst hae
        obtain rfl := hd71
        refine AW.u (i := 17) rfl (by kernel_rfl) (want_of rfl rfl hc13) rfl (Pur.ix Tryz.underlying58 sz152 rfl rfl hp66 hq67) ?_
        refine AW.u (i := 18) rfl (by kernel_rfl) (want_of rfl rfl hc13) rfl (Pur.fa fo152_2 rfl) ?_
        refine AW.u (i := 19) rfl (by kernel_rfl) (want_of rfl rfl hc13) rfl (Pur.fa fo64_2 rfl) ?_
        refine AW.take (i := 20) rfl (by kernel_rfl) (want_of rfl rfl hc13) rfl (Ldr.old w0 ag3 rfl (hk72 4 _ rfl)) (hS7.same _ hb73.1 hb73.2) ?_
        replace ⟨y74, hy74, h⟩ := obind h
        have q := W_s_ResOf (w0 := w64) hy74 rfl (hS7.rB hr0_0) rfl (hS7.rB hr0_1) rfl (hS7.rB hr0_2) rfl (hS7.rB hr0_3) rfl (hS7.rB hr0_7) rfl (hS7.rB hr0_8)
        refine AW.one (i := 31) (by kernel_rfl) ?_
        refine ⟨_, rfl, ?_⟩
        refine (LW.gY (want_of rfl rfl hc13) ?_)
        refine LW.call pl91 rfl rfl ?_
        refine Ret.mono q ?_
        rintro _ w75 ⟨rfl, hs⟩
        have hS8 := hS7.add hs
        refine LW.nil ⟨rfl, (.c (hS8.same _ hb73.1 hb73.2) (.w (by kernel_rfl) (.c (St.cell (h := hS8) (i := 1) rfl) (.w (by kernel_rfl) (.c (St.cell (h := hS8) (i := 1) rfl) (.c (hS8.same _ hb35.1 hb35.2) (.c (hS8.zC 0 rfl hb26) (.c (St.cell (h := hS8) (i := 1) rfl) (.c (St.cell (h := hS8) (i := 1) rfl) (.c (St.cell (h := hS8) (i := 1) rfl) Kept.n)))))))))), ?_⟩
        replace ⟨y76, hy76, h⟩ := obind h
        obtain ⟨b79, o80, cs81, hae, hb84, hp77, hq78, hd82, hk83⟩ := hr0_2.idx hy76
        cases hae
        obtain rfl := hd82
        refine AW.u (i := 32) rfl (by kernel_rfl) (want_of rfl rfl hc13) rfl (Pur.ix Tryz.underlying58 sz152 rfl rfl hp77 hq78) ?_
        refine AW.u (i := 33) rfl (by kernel_rfl) (want_of rfl rfl hc13) rfl (Pur.fa fo152_2 rfl) ?_
        refine AW.u (i := 34) rfl (by kernel_rfl) (want_of rfl rfl hc13) rfl (Pur.fa fo64_2 rfl) ?_
        refine AW.take (i := 35) rfl (by kernel_rfl) (want_of rfl rfl hc13) rfl (Ldr.old w0 ag3 rfl (hk83 4 _ rfl)) (hS8.same _ hb84.1 hb84.2) ?_
        refine AW.u (i := 36) rfl (by kernel_rfl) (want_of rfl rfl hc13) rfl (Pur.p rfl) ?_
        refine AW.u (i := 37) rfl (by kernel_rfl) rfl rfl (Pur.pickF rfl hc13) ?_
        refine AW.done (by kernel_rfl) ?_
        have hS9 := hS8.thaw (α := Int) 0 rfl ho20
        cases oi h
        exact ⟨⟨rfl, rfl, rfl, rfl, rfl, trivial⟩, hS9.pick [0, 1] rfl rfl⟩
      rintro e w85 ⟨hE, hS10⟩
      obtain ⟨e, rfl⟩ := hE.out
      have h := h12
      refine go ?_
      refine CW.cond rfl (fun hc86 => ?_) (fun hc86 => ?_)
      · replace h := bcT h hc86
        refine go ?_
        replace ⟨y87, hy87, h⟩ := obind h
        obtain ⟨b90, o91, hae, hp88, hq89⟩ := hS10.ownIdx (α := Int) (i := 0) rfl hy87
        subst hae
        refine LW.u (Pur.ix Tryz.underlying28 sz3 rfl rfl hp88 hq89) rfl ?_
        obtain ⟨F92, ho93, hS11⟩ := hS10.freeze (α := Int) 0 rfl
        obtain ⟨b94, o95, cs96, hae, hb99, _, _, hd97, hk98⟩ := ho93.rdF.idx hy87
        cases hae
        obtain rfl := hd97
        refine LW.l (Ldr.old w85 ag3 rfl (hk98 0 _ rfl)) (hS11.zC 0 rfl hb99) rfl ?_
        refine go ?_
        have hS12 := hS11.thaw (α := Int) 0 rfl ho93
        cases oi h
        exact ⟨rfl, ⟨⟨rfl, rfl, rfl, rfl, trivial⟩, hS12.pick [0, 1] rfl rfl⟩⟩
      replace h := bcF h hc86
      refine go ?_
      cases oi h
      exact ⟨rfl, ⟨⟨rfl, rfl, rfl, rfl, trivial⟩, hS10.pick [0, 1] rfl rfl⟩⟩
    replace h := bcF h hc10
    refine go ?_
    cases oi h
    exact ⟨trivial, rfl, ⟨⟨rfl, trivial⟩, hS4.pick [0, 1] rfl rfl⟩⟩
  intro x e w102 hM
  obtain ⟨rfl, hM⟩ := hM
  obtain ⟨hE, hS13⟩ := hM
  obtain ⟨e, rfl⟩ := hE.out
  have h := h101
  refine go ?_
  cases h
  exact And.intro trivial ⟨_, Res.one (resOne.t rfl), rfl, hS13.pick [] rfl rfl⟩

theorem W_s_PartKill {w0 : World} {N : Nat} {x0 : DPart} {x1 : Int} {r : DPart} (h : F_s_PartKill N x0 x1 = some r) {a0_0 : Option Addr} {n0_0 c0_0 : Nat} (hn0_0 : n0_0 = x0.label.levels.length) (hr0_0 : rdS (Bor w0 []) w0 a0_0 c0_0 x0.label.levels) {a0_1 : Option Addr} {n0_1 c0_1 : Nat} (hn0_1 : n0_1 = x0.own.length) (hr0_1 : rdS (Bor w0 []) w0 a0_1 c0_1 x0.own) {a0_2 : Option Addr} {n0_2 c0_2 : Nat} (hn0_2 : n0_2 = x0.tree.length) (hr0_2 : rdS (Bor w0 []) w0 a0_2 c0_2 x0.tree) {a0_3 : Option Addr} {n0_3 c0_3 : Nat} (hn0_3 : n0_3 = x0.heap.arena.length) (hr0_3 : rdS (Bor w0 []) w0 a0_3 c0_3 x0.heap.arena) {a0_7 : Option Addr} {n0_7 c0_7 : Nat} (hn0_7 : n0_7 = x0.heap.gc.grey.length) (hr0_7 : rdS (Bor w0 []) w0 a0_7 c0_7 x0.heap.gc.grey) {a0_8 : Option Addr} {n0_8 c0_8 : Nat} (hn0_8 : n0_8 = x0.taps.length) (hr0_8 : rdS (Bor w0 []) w0 a0_8 c0_8 x0.taps) :
    Ret Tryz.prog 29 #[.agg #[.slice a0_0 n0_0 c0_0, .slice a0_1 n0_1 c0_1, .slice a0_2 n0_2 c0_2, .slice a0_3 n0_3 c0_3, .int .i64 x0.heap.gc.phase, .int .i64 x0.heap.gc.pos, .int .i64 x0.heap.gc.round, .slice a0_7 n0_7 c0_7, .slice a0_8 n0_8 c0_8, .int .i64 x0.next, .int .i64 x0.want, .int .i64 x0.spent.pages, .int .i64 x0.spent.rent, .int .i64 x0.spent.cpu, .int .i64 x0.press, .int .i64 x0.lost], .int .i64 x1] w0 (fun v w => ∃ ar0_0 cr0_0, ∃ ar0_1 cr0_1, ∃ ar0_2 cr0_2, ∃ ar0_3 cr0_3, ∃ ar0_7 cr0_7, ∃ ar0_8 cr0_8, v = .agg #[.slice ar0_0 r.label.levels.length cr0_0, .slice ar0_1 r.own.length cr0_1, .slice ar0_2 r.tree.length cr0_2, .slice ar0_3 r.heap.arena.length cr0_3, .int .i64 r.heap.gc.phase, .int .i64 r.heap.gc.pos, .int .i64 r.heap.gc.round, .slice ar0_7 r.heap.gc.grey.length cr0_7, .slice ar0_8 r.taps.length cr0_8, .int .i64 r.next, .int .i64 r.want, .int .i64 r.spent.pages, .int .i64 r.spent.rent, .int .i64 r.spent.cpu, .int .i64 r.press, .int .i64 r.lost] ∧ St w0 [] w [sl ar0_0 cr0_0 r.label.levels, sl ar0_1 cr0_1 r.own, sl ar0_2 cr0_2 r.tree, sl ar0_3 cr0_3 r.heap.arena, sl ar0_7 cr0_7 r.heap.gc.grey, sl ar0_8 cr0_8 r.taps]) := by
  subst hn0_0 hn0_1 hn0_2 hn0_3 hn0_7 hn0_8
  unfold F_s_PartKill at h
  refine Ret.fn Tryz.func29 fun e => ?_
  have hS1 := St.start w0
  refine go ?_
  refine LW.bo hS1 fun g1 w2 hS2 => ?_
  refine LW.al hS2 fun g3 w4 hS3 => ?_
  refine go ?_
  replace ⟨y5, hy5, h⟩ := obind h
  refine LW.cl (W_s_l13Copy hy5 rfl (hS3.rB hr0_0) rfl (hS3.rB hr0_1) rfl (hS3.rB hr0_2) rfl (hS3.rB hr0_3) rfl (hS3.rB hr0_7) rfl (hS3.rB hr0_8)) ?_
  rintro _ w18 ⟨a6, c7, a8, c9, a10, c11, a12, c13, a14, c15, a16, c17, rfl, hs⟩
  have hS4 := hS3.add hs
  refine LW.al hS4 fun g19 w20 hS5 => ?_
  refine LW.st hS5 0 fun w21 hS6 => ?_
  refine gs ?_
  obtain ⟨j22, hj22, h23⟩ := obind h
  refine CW.cut (fun e wb => En e [(1, .int .i64 x1), (2, .pointer (some ⟨g1, 0, none⟩)), (4, .pointer (some ⟨g3, 0, none⟩)), (5, .pointer (some ⟨g19, 0, none⟩)), (21, .bool j22)] ∧ St w0 [] wb [bx g19 66 [.slice a6 y5.label.levels.length c7, .slice a8 y5.own.length c9, .slice a10 y5.tree.length c11, .slice a12 y5.heap.arena.length c13, .int .i64 y5.heap.gc.phase, .int .i64 y5.heap.gc.pos, .int .i64 y5.heap.gc.round, .slice a14 y5.heap.gc.grey.length c15, .slice a16 y5.taps.length c17, .int .i64 y5.next, .int .i64 y5.want, .int .i64 y5.spent.pages, .int .i64 y5.spent.rent, .int .i64 y5.spent.cpu, .int .i64 y5.press, .int .i64 y5.lost], sl a6 c7 y5.label.levels, sl a8 c9 y5.own, sl a10 c11 y5.tree, sl a12 c13 y5.heap.arena, sl a14 c15 y5.heap.gc.grey, sl a16 c17 y5.taps, bx g3 66 [.slice none 0 0, .slice none 0 0, .slice none 0 0, .slice none 0 0, .int .i64 0, .int .i64 0, .int .i64 0, .slice none 0 0, .slice none 0 0, .int .i64 0, .int .i64 0, .int .i64 0, .int .i64 0, .int .i64 0, .int .i64 0, .int .i64 0], bx g1 66 [.slice a0_0 x0.label.levels.length c0_0, .slice a0_1 x0.own.length c0_1, .slice a0_2 x0.tree.length c0_2, .slice a0_3 x0.heap.arena.length c0_3, .int .i64 x0.heap.gc.phase, .int .i64 x0.heap.gc.pos, .int .i64 x0.heap.gc.round, .slice a0_7 x0.heap.gc.grey.length c0_7, .slice a0_8 x0.taps.length c0_8, .int .i64 x0.next, .int .i64 x0.want, .int .i64 x0.spent.pages, .int .i64 x0.spent.rent, .int .i64 x0.spent.cpu, .int .i64 x0.press, .int .i64 x0.lost]]) ?_ ?_
  · have h := hj22
    refine go ?_
    replace ⟨y24, hy24, h⟩ := obind h
    refine LW.c0 (W_s_PartOk hy24 rfl (hS6.rB hr0_0) rfl (hS6.rB hr0_1) rfl (hS6.rB hr0_2) rfl (hS6.rB hr0_3) rfl (hS6.rB hr0_7) rfl (hS6.rB hr0_8)) hS6 fun w25 hS7 => ?_
    refine go ?_
    rcases bcases (!y24) with hc26 | hc26
    · replace h := bcT h hc26
      refine go ?_
      cases oi h
      exact ⟨⟨rfl, rfl, rfl, rfl, rfl, trivial⟩, hS7.pick [0, 1, 2, 3, 4, 5, 6, 7, 8] rfl rfl⟩
    replace h := bcF h hc26
    refine go ?_
    replace ⟨y27, hy27, h⟩ := obind h
    refine go ?_
    refine LW.c0 (W_s_l1In hy27) hS7 fun w28 hS8 => ?_
    refine go ?_
    rcases bcases (!y27) with hc29 | hc29
    · replace h := bcT h hc29
      refine go ?_
      cases oi h
      exact ⟨⟨rfl, rfl, rfl, rfl, rfl, trivial⟩, hS8.pick [0, 1, 2, 3, 4, 5, 6, 7, 8] rfl rfl⟩
    replace h := bcF h hc29
    refine go ?_
    cases oi h
    exact ⟨⟨rfl, rfl, rfl, rfl, rfl, trivial⟩, hS8.pick [0, 1, 2, 3, 4, 5, 6, 7, 8] rfl rfl⟩
  rintro e w30 ⟨hE, hS9⟩
  obtain ⟨e, rfl⟩ := hE.out
  have h := h23
  refine go ?_
  refine CW.cond rfl (fun hc31 => ?_) (fun hc31 => ?_)
  · replace h := bcT h hc31
    refine go ?_
    refine LW.st hS9 7 fun w32 hS10 => ?_
    refine go ?_
    cases h
    exact And.intro trivial ⟨_, Res.one (resOne.b hS10 7 rfl ag66 rfl rfl), a6, c7, a8, c9, a10, c11, a12, c13, a14, c15, a16, c17, rfl, hS10.pick [1, 2, 3, 4, 5, 6] rfl rfl⟩
  replace h := bcF h hc31
  refine go ?_
  refine LW.st hS9 0 fun w33 hS11 => ?_
  refine go ?_
  replace ⟨y34, hy34, h⟩ := obind h
  refine LW.c0 (W_s_Victim hy34 rfl (hS11.rB hr0_0) rfl (hS11.rB hr0_1) rfl (hS11.rB hr0_2) rfl (hS11.rB hr0_3) rfl (hS11.rB hr0_7) rfl (hS11.rB hr0_8)) hS11 fun w35 hS12 => ?_
  refine gs ?_
  refine CW.region ?_
  refine gs ?_
  obtain ⟨j36, hj36, h37⟩ := obind h
  refine CW.cut (fun e wb => En e [(4, .pointer (some ⟨g3, 0, none⟩)), (5, .pointer (some ⟨g19, 0, none⟩))] ∧ St w0 [] wb [bx g19 66 [.slice a6 y5.label.levels.length c7, .slice a8 y5.own.length c9, .slice a10 y5.tree.length c11, .slice a12 j36.length c13, .int .i64 y5.heap.gc.phase, .int .i64 y5.heap.gc.pos, .int .i64 y5.heap.gc.round, .slice a14 y5.heap.gc.grey.length c15, .slice a16 y5.taps.length c17, .int .i64 y5.next, .int .i64 y5.want, .int .i64 y5.spent.pages, .int .i64 y5.spent.rent, .int .i64 y5.spent.cpu, .int .i64 0, .int .i64 y5.lost], sl a6 c7 y5.label.levels, sl a8 c9 y5.own, sl a10 c11 y5.tree, sl a12 c13 j36, sl a14 c15 y5.heap.gc.grey, sl a16 c17 y5.taps, bx g3 66 [.slice none 0 0, .slice none 0 0, .slice none 0 0, .slice none 0 0, .int .i64 0, .int .i64 0, .int .i64 0, .slice none 0 0, .slice none 0 0, .int .i64 0, .int .i64 0, .int .i64 0, .int .i64 0, .int .i64 0, .int .i64 0, .int .i64 0]]) ?_ ?_
  · have h := hj36
    refine CW.fl [1, 4, 5, 6, 28] fun e => ?_
    refine CW.cond rfl (fun hc38 => ?_) (fun hc38 => ?_)
    · replace h := bcT h hc38
      refine go ?_
      replace ⟨y39, hy39, h⟩ := obind h
      obtain ⟨b42, o43, hae, hp40, hq41⟩ := hS12.ownIdx (α := DObj) (i := 4) rfl hy39
      subst hae
      refine LW.u (Pur.ix Tryz.underlying59 sz92 rfl rfl hp40 hq41) rfl ?_
      refine go ?_
      replace ⟨y44, hy44, h⟩ := obind h
      refine LW.stE (M := []) (L := [bx g19 66 [.slice a6 y5.label.levels.length c7, .slice a8 y5.own.length c9, .slice a10 y5.tree.length c11, .slice (some ⟨b42, o43, none⟩) y5.heap.arena.length c13, .int .i64 y5.heap.gc.phase, .int .i64 y5.heap.gc.pos, .int .i64 y5.heap.gc.round, .slice a14 y5.heap.gc.grey.length c15, .slice a16 y5.taps.length c17, .int .i64 y5.next, .int .i64 y5.want, .int .i64 y5.spent.pages, .int .i64 y5.spent.rent, .int .i64 y5.spent.cpu, .int .i64 0, .int .i64 y5.lost], sl a6 c7 y5.label.levels, sl a8 c9 y5.own, sl a10 c11 y5.tree, sl (some ⟨b42, o43, none⟩) c13 y5.heap.arena, sl a14 c15 y5.heap.gc.grey, sl a16 c17 y5.taps, bx g3 66 [.slice none 0 0, .slice none 0 0, .slice none 0 0, .slice none 0 0, .int .i64 0, .int .i64 0, .int .i64 0, .slice none 0 0, .slice none 0 0, .int .i64 0, .int .i64 0, .int .i64 0, .int .i64 0, .int .i64 0, .int .i64 0, .int .i64 0], bx g1 66 [.slice a0_0 x0.label.levels.length c0_0, .slice a0_1 x0.own.length c0_1, .slice a0_2 x0.tree.length c0_2, .slice a0_3 x0.heap.arena.length c0_3, .int .i64 x0.heap.gc.phase, .int .i64 x0.heap.gc.pos, .int .i64 x0.heap.gc.round, .slice a0_7 x0.heap.gc.grey.length c0_7, .slice a0_8 x0.taps.length c0_8, .int .i64 x0.next, .int .i64 x0.want, .int .i64 x0.spent.pages, .int .i64 x0.spent.rent, .int .i64 x0.spent.cpu, .int .i64 x0.press, .int .i64 x0.lost]]) (z := y39) (z' := (DObj.mk y39.gen y39.kind y39.box y39.res (IntKind.i64.wrap (x1 - 1)) y39.pages y39.wait y39.got y39.ran y39.mark y39.links y39.data y39.queue)) (o := 4) hS12 (i := 4) rfl hy39 ag3 rfl (by show _ = o43 + (y34 : Int).toNat * 13 + 4; omega) rfl rfl rfl rfl (leafF (fun w cs F hF => by obtain ⟨q0, r0, q1, r1, q2, r2, rfl, hH⟩ := hF; exact ⟨q0, r0, q1, r1, q2, r2, rfl, hH⟩)) ?_
      intro w45 hS13 hf
      rw [Option.some.inj hy44] at hS13
      refine go ?_
      rw [show y5.heap.arena.length = y44.length from (len_set (Option.some.inj hy44))] at hS13
      cases oi h
      exact ⟨⟨rfl, rfl, trivial⟩, hS13.pick [0, 1, 2, 3, 4, 5, 6, 7] rfl rfl⟩
    replace h := bcF h hc38
    refine go ?_
    cases oi h
    exact ⟨⟨rfl, rfl, trivial⟩, hS12.pick [0, 1, 2, 3, 4, 5, 6, 7] rfl rfl⟩
  rintro e w46 ⟨hE, hS14⟩
  obtain ⟨e, rfl⟩ := hE.out
  have h := h37
  refine go ?_
  refine LW.st hS14 7 fun w47 hS15 => ?_
  refine go ?_
  cases h
  exact And.intro trivial ⟨_, Res.one (resOne.b hS15 7 rfl ag66 rfl rfl), a6, c7, a8, c9, a10, c11, a12, c13, a14, c15, a16, c17, rfl, hS15.pick [1, 2, 3, 4, 5, 6] rfl rfl⟩

theorem W_i_Victim {w0 : World} {N : Nat} {x0 : DPart} {x1 : Int} {r : Int} (h : F_i_Victim N x0 x1 = some r) {a0_0 : Option Addr} {n0_0 c0_0 : Nat} (hn0_0 : n0_0 = x0.label.levels.length) (hr0_0 : rdS (Bor w0 []) w0 a0_0 c0_0 x0.label.levels) {a0_1 : Option Addr} {n0_1 c0_1 : Nat} (hn0_1 : n0_1 = x0.own.length) (hr0_1 : rdS (Bor w0 []) w0 a0_1 c0_1 x0.own) {a0_2 : Option Addr} {n0_2 c0_2 : Nat} (hn0_2 : n0_2 = x0.tree.length) (hr0_2 : rdS (Bor w0 []) w0 a0_2 c0_2 x0.tree) {a0_3 : Option Addr} {n0_3 c0_3 : Nat} (hn0_3 : n0_3 = x0.heap.arena.length) (hr0_3 : rdS (Bor w0 []) w0 a0_3 c0_3 x0.heap.arena) {a0_7 : Option Addr} {n0_7 c0_7 : Nat} (hn0_7 : n0_7 = x0.heap.gc.grey.length) (hr0_7 : rdS (Bor w0 []) w0 a0_7 c0_7 x0.heap.gc.grey) {a0_8 : Option Addr} {n0_8 c0_8 : Nat} (hn0_8 : n0_8 = x0.taps.length) (hr0_8 : rdS (Bor w0 []) w0 a0_8 c0_8 x0.taps) :
    Ret Tryz.prog 87 #[.agg #[.slice a0_0 n0_0 c0_0, .slice a0_1 n0_1 c0_1, .slice a0_2 n0_2 c0_2, .slice a0_3 n0_3 c0_3, .int .i64 x0.heap.gc.phase, .int .i64 x0.heap.gc.pos, .int .i64 x0.heap.gc.round, .slice a0_7 n0_7 c0_7, .slice a0_8 n0_8 c0_8, .int .i64 x0.next, .int .i64 x0.want, .int .i64 x0.spent.pages, .int .i64 x0.spent.rent, .int .i64 x0.spent.cpu, .int .i64 x0.press, .int .i64 x0.lost], .int .i64 x1] w0 (fun v w => v = .int .i64 r ∧ St w0 [] w []) := by
  subst hn0_0 hn0_1 hn0_2 hn0_3 hn0_7 hn0_8
  unfold F_i_Victim at h
  refine Ret.fn Tryz.func87 fun e => ?_
  have hS1 := St.start w0
  refine go ?_
  refine LW.bo hS1 fun g1 w2 hS2 => ?_
  refine go ?_
  replace ⟨y3, hy3, h⟩ := obind h
  refine LW.cl (W_i_Threads hy3 rfl (hS2.rB hr0_0) rfl (hS2.rB hr0_1) rfl (hS2.rB hr0_2) rfl (hS2.rB hr0_3) rfl (hS2.rB hr0_7) rfl (hS2.rB hr0_8)) ?_
  rintro _ w6 ⟨a4, c5, rfl, hs⟩
  have hS3 := hS2.add hs
  refine go ?_
  refine CW.cond rfl (fun hc7 => ?_) (fun hc7 => ?_)
  · replace h := bcT h hc7
    refine go ?_
    cases h
    exact And.intro trivial ⟨_, Res.one (resOne.t rfl), rfl, hS3.pick [] rfl rfl⟩
  replace h := bcF h hc7
  refine go ?_
  replace ⟨y8, hy8, h⟩ := obind h
  obtain ⟨b11, o12, hae, hp9, hq10⟩ := hS3.ownIdx (α := Int) (i := 0) rfl hy8
  subst hae
  refine LW.u (Pur.ix Tryz.underlying28 sz3 rfl rfl hp9 hq10) rfl ?_
  obtain ⟨F13, ho14, hS4⟩ := hS3.freeze (α := Int) 0 rfl
  obtain ⟨b15, o16, cs17, hae, hb20, _, _, hd18, hk19⟩ := ho14.rdF.idx hy8
  cases hae
  obtain rfl := hd18
  refine LW.l (Ldr.old w6 ag3 rfl (hk19 0 _ rfl)) (hS4.zC 0 rfl hb20) rfl ?_
  refine go ?_
  obtain ⟨o40, ho40, h41⟩ := obind h
  refine CW.mono (CW.iter (σ := Int × Int) (ρ := Int × Int) (fun s21 e wb => En e [(2, .pointer (some ⟨g1, 0, none⟩)), (6, .int .i64 s21.1), (18, .slice (some ⟨b11, o12, none⟩) y3.length c5), (19, .int .i64 (y3.length : Int)), (20, .int .i64 s21.2)] ∧ St w0 [] wb [fz w6 F13, bx g1 66 [.slice a0_0 x0.label.levels.length c0_0, .slice a0_1 x0.own.length c0_1, .slice a0_2 x0.tree.length c0_2, .slice a0_3 x0.heap.arena.length c0_3, .int .i64 x0.heap.gc.phase, .int .i64 x0.heap.gc.pos, .int .i64 x0.heap.gc.round, .slice a0_7 x0.heap.gc.grey.length c0_7, .slice a0_8 x0.taps.length c0_8, .int .i64 x0.next, .int .i64 x0.want, .int .i64 x0.spent.pages, .int .i64 x0.spent.rent, .int .i64 x0.spent.cpu, .int .i64 x0.press, .int .i64 x0.lost]]) (fun s21 x e wb => x = .exit 0 ∧ En e [(6, .int .i64 s21.1)] ∧ St w0 [] wb [fz w6 F13, bx g1 66 [.slice a0_0 x0.label.levels.length c0_0, .slice a0_1 x0.own.length c0_1, .slice a0_2 x0.tree.length c0_2, .slice a0_3 x0.heap.arena.length c0_3, .int .i64 x0.heap.gc.phase, .int .i64 x0.heap.gc.pos, .int .i64 x0.heap.gc.round, .slice a0_7 x0.heap.gc.grey.length c0_7, .slice a0_8 x0.taps.length c0_8, .int .i64 x0.next, .int .i64 x0.want, .int .i64 x0.spent.pages, .int .i64 x0.spent.rent, .int .i64 x0.spent.cpu, .int .i64 x0.press, .int .i64 x0.lost]]) ?_ N (y8, 0) _ _ _ ⟨⟨rfl, rfl, rfl, rfl, rfl, trivial⟩, hS4.pick [0, 1] rfl rfl⟩ ho40) ?_
  · intro s21 e w22 o hM h
    obtain ⟨hE, hS5⟩ := hM
    obtain ⟨e, rfl⟩ := hE.out
    refine go ?_
    refine CW.fl [2, 6, 18, 19, 20, 21] fun e => ?_
    refine CW.cond rfl (fun hc23 => ?_) (fun hc23 => ?_)
    · replace h := bcT h hc23
      refine go ?_
      replace ⟨y24, hy24, h⟩ := obind h
      obtain ⟨b27, o28, hae, hp25, hq26⟩ := ho14.ownIdx hy24
      cases hae
      refine LW.u (Pur.ix Tryz.underlying28 sz3 rfl rfl hp25 hq26) rfl ?_
      obtain ⟨b29, o30, cs31, hae, hb34, _, _, hd32, hk33⟩ := ho14.rdF.idx hy24
      cases hae
      obtain rfl := hd32
      refine LW.l (Ldr.old w6 ag3 rfl (hk33 0 _ rfl)) (hS5.zC 0 rfl hb34) rfl ?_
      refine go ?_
      refine CW.draw (by kernel_rfl) ?_
      have hS6 := hS5.drew
      refine AW.take (i := 0) rfl (by kernel_rfl) rfl rfl (Ldr.boxN (bt := 66) (fr := (0, 0)) (cs := [.slice a0_0 x0.label.levels.length c0_0, .slice a0_1 x0.own.length c0_1, .slice a0_2 x0.tree.length c0_2, .slice a0_3 x0.heap.arena.length c0_3, .int .i64 x0.heap.gc.phase, .int .i64 x0.heap.gc.pos, .int .i64 x0.heap.gc.round, .slice a0_7 x0.heap.gc.grey.length c0_7, .slice a0_8 x0.taps.length c0_8, .int .i64 x0.next, .int .i64 x0.want, .int .i64 x0.spent.pages, .int .i64 x0.spent.rent, .int .i64 x0.spent.cpu, .int .i64 x0.press, .int .i64 x0.lost]) ag66 rfl rfl) (St.cell (h := hS6) (i := 1) rfl) ?_
      refine AW.u (i := 1) rfl (by kernel_rfl) rfl rfl (Pur.p rfl) ?_
      refine AW.take (i := 4) rfl (by kernel_rfl) rfl rfl (Ldr.boxN (bt := 66) (fr := (0, 0)) (cs := [.slice a0_0 x0.label.levels.length c0_0, .slice a0_1 x0.own.length c0_1, .slice a0_2 x0.tree.length c0_2, .slice a0_3 x0.heap.arena.length c0_3, .int .i64 x0.heap.gc.phase, .int .i64 x0.heap.gc.pos, .int .i64 x0.heap.gc.round, .slice a0_7 x0.heap.gc.grey.length c0_7, .slice a0_8 x0.taps.length c0_8, .int .i64 x0.next, .int .i64 x0.want, .int .i64 x0.spent.pages, .int .i64 x0.spent.rent, .int .i64 x0.spent.cpu, .int .i64 x0.press, .int .i64 x0.lost]) ag66 rfl rfl) (St.cell (h := hS6) (i := 1) rfl) ?_
      refine AW.u (i := 5) rfl (by kernel_rfl) rfl rfl (Pur.p rfl) ?_
      replace ⟨y35, hy35, h⟩ := obind h
      have q := W_i_balOf (w0 := w22.drew) hy35 rfl (hS6.rB hr0_0) rfl (hS6.rB hr0_1) rfl (hS6.rB hr0_2) rfl (hS6.rB hr0_3) rfl (hS6.rB hr0_7) rfl (hS6.rB hr0_8)
      refine AW.one (i := 2) (by kernel_rfl) ?_
      refine ⟨_, rfl, ?_⟩
      refine LW.call pl160 rfl rfl ?_
      refine Ret.mono q ?_
      rintro _ w36 ⟨rfl, hs⟩
      have hS7 := hS6.add hs
      refine LW.nil ⟨rfl, (.c (St.cell (h := hS7) (i := 1) rfl) (.w (by kernel_rfl) Kept.n)), ?_⟩
      refine AW.u (i := 3) rfl (by kernel_rfl) rfl rfl (Pur.fd fo64_2 rfl rfl) ?_
      replace ⟨y37, hy37, h⟩ := obind h
      have q := W_i_balOf (w0 := w36) hy37 rfl (hS7.rB hr0_0) rfl (hS7.rB hr0_1) rfl (hS7.rB hr0_2) rfl (hS7.rB hr0_3) rfl (hS7.rB hr0_7) rfl (hS7.rB hr0_8)
      refine AW.one (i := 6) (by kernel_rfl) ?_
      refine ⟨_, rfl, ?_⟩
      refine LW.call pl160 rfl rfl ?_
      refine Ret.mono q ?_
      rintro _ w38 ⟨rfl, hs⟩
      have hS8 := hS7.add hs
      refine LW.nil ⟨rfl, (.w (by kernel_rfl) (.c (St.cell (h := hS8) (i := 1) rfl) Kept.n)), ?_⟩
      refine AW.u (i := 7) rfl (by kernel_rfl) rfl rfl (Pur.fd fo64_2 rfl rfl) ?_
      refine AW.u (i := 8) rfl (by kernel_rfl) rfl rfl (Pur.p rfl) ?_
      refine AW.done (by kernel_rfl) ?_
      refine go ?_
      refine CW.cond rfl (fun hc39 => ?_) (fun hc39 => ?_)
      · replace h := bcT h hc39
        refine go ?_
        cases oi h
        exact ⟨rfl, ⟨⟨rfl, rfl, rfl, rfl, rfl, trivial⟩, hS8.pick [0, 1] rfl rfl⟩⟩
      replace h := bcF h hc39
      refine go ?_
      cases oi h
      exact ⟨rfl, ⟨⟨rfl, rfl, rfl, rfl, rfl, trivial⟩, hS8.pick [0, 1] rfl rfl⟩⟩
    replace h := bcF h hc23
    refine go ?_
    cases oi h
    exact ⟨trivial, rfl, ⟨⟨rfl, trivial⟩, hS5.pick [0, 1] rfl rfl⟩⟩
  intro x e w42 hM
  obtain ⟨rfl, hM⟩ := hM
  obtain ⟨hE, hS9⟩ := hM
  obtain ⟨e, rfl⟩ := hE.out
  have h := h41
  refine go ?_
  cases h
  exact And.intro trivial ⟨_, Res.one (resOne.t rfl), rfl, hS9.pick [] rfl rfl⟩

theorem W_i_PartKill {w0 : World} {N : Nat} {x0 : DPart} {x1 : Int} {r : DPart} (h : F_i_PartKill N x0 x1 = some r) {a0_0 : Option Addr} {n0_0 c0_0 : Nat} (hn0_0 : n0_0 = x0.label.levels.length) (hr0_0 : rdS (Bor w0 []) w0 a0_0 c0_0 x0.label.levels) {a0_1 : Option Addr} {n0_1 c0_1 : Nat} (hn0_1 : n0_1 = x0.own.length) (hr0_1 : rdS (Bor w0 []) w0 a0_1 c0_1 x0.own) {a0_2 : Option Addr} {n0_2 c0_2 : Nat} (hn0_2 : n0_2 = x0.tree.length) (hr0_2 : rdS (Bor w0 []) w0 a0_2 c0_2 x0.tree) {a0_3 : Option Addr} {n0_3 c0_3 : Nat} (hn0_3 : n0_3 = x0.heap.arena.length) (hr0_3 : rdS (Bor w0 []) w0 a0_3 c0_3 x0.heap.arena) {a0_7 : Option Addr} {n0_7 c0_7 : Nat} (hn0_7 : n0_7 = x0.heap.gc.grey.length) (hr0_7 : rdS (Bor w0 []) w0 a0_7 c0_7 x0.heap.gc.grey) {a0_8 : Option Addr} {n0_8 c0_8 : Nat} (hn0_8 : n0_8 = x0.taps.length) (hr0_8 : rdS (Bor w0 []) w0 a0_8 c0_8 x0.taps) :
    Ret Tryz.prog 30 #[.agg #[.slice a0_0 n0_0 c0_0, .slice a0_1 n0_1 c0_1, .slice a0_2 n0_2 c0_2, .slice a0_3 n0_3 c0_3, .int .i64 x0.heap.gc.phase, .int .i64 x0.heap.gc.pos, .int .i64 x0.heap.gc.round, .slice a0_7 n0_7 c0_7, .slice a0_8 n0_8 c0_8, .int .i64 x0.next, .int .i64 x0.want, .int .i64 x0.spent.pages, .int .i64 x0.spent.rent, .int .i64 x0.spent.cpu, .int .i64 x0.press, .int .i64 x0.lost], .int .i64 x1] w0 (fun v w => ∃ ar0_0 cr0_0, ∃ ar0_1 cr0_1, ∃ ar0_2 cr0_2, ∃ ar0_3 cr0_3, ∃ ar0_7 cr0_7, ∃ ar0_8 cr0_8, v = .agg #[.slice ar0_0 r.label.levels.length cr0_0, .slice ar0_1 r.own.length cr0_1, .slice ar0_2 r.tree.length cr0_2, .slice ar0_3 r.heap.arena.length cr0_3, .int .i64 r.heap.gc.phase, .int .i64 r.heap.gc.pos, .int .i64 r.heap.gc.round, .slice ar0_7 r.heap.gc.grey.length cr0_7, .slice ar0_8 r.taps.length cr0_8, .int .i64 r.next, .int .i64 r.want, .int .i64 r.spent.pages, .int .i64 r.spent.rent, .int .i64 r.spent.cpu, .int .i64 r.press, .int .i64 r.lost] ∧ St w0 [] w [sl ar0_0 cr0_0 r.label.levels, sl ar0_1 cr0_1 r.own, sl ar0_2 cr0_2 r.tree, sl ar0_3 cr0_3 r.heap.arena, sl ar0_7 cr0_7 r.heap.gc.grey, sl ar0_8 cr0_8 r.taps]) := by
  subst hn0_0 hn0_1 hn0_2 hn0_3 hn0_7 hn0_8
  unfold F_i_PartKill at h
  refine Ret.fn Tryz.func30 fun e => ?_
  have hS1 := St.start w0
  refine go ?_
  refine LW.bo hS1 fun g1 w2 hS2 => ?_
  refine LW.al hS2 fun g3 w4 hS3 => ?_
  refine go ?_
  replace ⟨y5, hy5, h⟩ := obind h
  refine LW.cl (W_i_copyPart hy5 rfl (hS3.rB hr0_0) rfl (hS3.rB hr0_1) rfl (hS3.rB hr0_2) rfl (hS3.rB hr0_3) rfl (hS3.rB hr0_7) rfl (hS3.rB hr0_8)) ?_
  rintro _ w18 ⟨a6, c7, a8, c9, a10, c11, a12, c13, a14, c15, a16, c17, rfl, hs⟩
  have hS4 := hS3.add hs
  refine LW.al hS4 fun g19 w20 hS5 => ?_
  refine LW.st hS5 0 fun w21 hS6 => ?_
  refine gs ?_
  obtain ⟨j22, hj22, h23⟩ := obind h
  refine CW.cut (fun e wb => En e [(1, .int .i64 x1), (2, .pointer (some ⟨g1, 0, none⟩)), (4, .pointer (some ⟨g3, 0, none⟩)), (5, .pointer (some ⟨g19, 0, none⟩)), (21, .bool j22)] ∧ St w0 [] wb [bx g19 66 [.slice a6 y5.label.levels.length c7, .slice a8 y5.own.length c9, .slice a10 y5.tree.length c11, .slice a12 y5.heap.arena.length c13, .int .i64 y5.heap.gc.phase, .int .i64 y5.heap.gc.pos, .int .i64 y5.heap.gc.round, .slice a14 y5.heap.gc.grey.length c15, .slice a16 y5.taps.length c17, .int .i64 y5.next, .int .i64 y5.want, .int .i64 y5.spent.pages, .int .i64 y5.spent.rent, .int .i64 y5.spent.cpu, .int .i64 y5.press, .int .i64 y5.lost], sl a6 c7 y5.label.levels, sl a8 c9 y5.own, sl a10 c11 y5.tree, sl a12 c13 y5.heap.arena, sl a14 c15 y5.heap.gc.grey, sl a16 c17 y5.taps, bx g3 66 [.slice none 0 0, .slice none 0 0, .slice none 0 0, .slice none 0 0, .int .i64 0, .int .i64 0, .int .i64 0, .slice none 0 0, .slice none 0 0, .int .i64 0, .int .i64 0, .int .i64 0, .int .i64 0, .int .i64 0, .int .i64 0, .int .i64 0], bx g1 66 [.slice a0_0 x0.label.levels.length c0_0, .slice a0_1 x0.own.length c0_1, .slice a0_2 x0.tree.length c0_2, .slice a0_3 x0.heap.arena.length c0_3, .int .i64 x0.heap.gc.phase, .int .i64 x0.heap.gc.pos, .int .i64 x0.heap.gc.round, .slice a0_7 x0.heap.gc.grey.length c0_7, .slice a0_8 x0.taps.length c0_8, .int .i64 x0.next, .int .i64 x0.want, .int .i64 x0.spent.pages, .int .i64 x0.spent.rent, .int .i64 x0.spent.cpu, .int .i64 x0.press, .int .i64 x0.lost]]) ?_ ?_
  · have h := hj22
    refine go ?_
    replace ⟨y24, hy24, h⟩ := obind h
    refine LW.c0 (W_i_PartOk hy24 rfl (hS6.rB hr0_0) rfl (hS6.rB hr0_1) rfl (hS6.rB hr0_2) rfl (hS6.rB hr0_3) rfl (hS6.rB hr0_7) rfl (hS6.rB hr0_8)) hS6 fun w25 hS7 => ?_
    refine go ?_
    rcases bcases (!y24) with hc26 | hc26
    · replace h := bcT h hc26
      refine go ?_
      cases oi h
      exact ⟨⟨rfl, rfl, rfl, rfl, rfl, trivial⟩, hS7.pick [0, 1, 2, 3, 4, 5, 6, 7, 8] rfl rfl⟩
    replace h := bcF h hc26
    refine go ?_
    replace ⟨y27, hy27, h⟩ := obind h
    refine go ?_
    refine LW.c0 (W_i_within hy27) hS7 fun w28 hS8 => ?_
    refine go ?_
    rcases bcases (!y27) with hc29 | hc29
    · replace h := bcT h hc29
      refine go ?_
      cases oi h
      exact ⟨⟨rfl, rfl, rfl, rfl, rfl, trivial⟩, hS8.pick [0, 1, 2, 3, 4, 5, 6, 7, 8] rfl rfl⟩
    replace h := bcF h hc29
    refine go ?_
    cases oi h
    exact ⟨⟨rfl, rfl, rfl, rfl, rfl, trivial⟩, hS8.pick [0, 1, 2, 3, 4, 5, 6, 7, 8] rfl rfl⟩
  rintro e w30 ⟨hE, hS9⟩
  obtain ⟨e, rfl⟩ := hE.out
  have h := h23
  refine go ?_
  refine CW.cond rfl (fun hc31 => ?_) (fun hc31 => ?_)
  · replace h := bcT h hc31
    refine go ?_
    refine LW.st hS9 7 fun w32 hS10 => ?_
    refine go ?_
    cases h
    exact And.intro trivial ⟨_, Res.one (resOne.b hS10 7 rfl ag66 rfl rfl), a6, c7, a8, c9, a10, c11, a12, c13, a14, c15, a16, c17, rfl, hS10.pick [1, 2, 3, 4, 5, 6] rfl rfl⟩
  replace h := bcF h hc31
  refine go ?_
  refine LW.st hS9 0 fun w33 hS11 => ?_
  refine go ?_
  replace ⟨y34, hy34, h⟩ := obind h
  refine LW.c0 (W_i_Victim hy34 rfl (hS11.rB hr0_0) rfl (hS11.rB hr0_1) rfl (hS11.rB hr0_2) rfl (hS11.rB hr0_3) rfl (hS11.rB hr0_7) rfl (hS11.rB hr0_8)) hS11 fun w35 hS12 => ?_
  refine gs ?_
  refine CW.region ?_
  refine gs ?_
  obtain ⟨j36, hj36, h37⟩ := obind h
  refine CW.cut (fun e wb => En e [(4, .pointer (some ⟨g3, 0, none⟩)), (5, .pointer (some ⟨g19, 0, none⟩))] ∧ St w0 [] wb [bx g19 66 [.slice a6 y5.label.levels.length c7, .slice a8 y5.own.length c9, .slice a10 y5.tree.length c11, .slice a12 j36.length c13, .int .i64 y5.heap.gc.phase, .int .i64 y5.heap.gc.pos, .int .i64 y5.heap.gc.round, .slice a14 y5.heap.gc.grey.length c15, .slice a16 y5.taps.length c17, .int .i64 y5.next, .int .i64 y5.want, .int .i64 y5.spent.pages, .int .i64 y5.spent.rent, .int .i64 y5.spent.cpu, .int .i64 0, .int .i64 y5.lost], sl a6 c7 y5.label.levels, sl a8 c9 y5.own, sl a10 c11 y5.tree, sl a12 c13 j36, sl a14 c15 y5.heap.gc.grey, sl a16 c17 y5.taps, bx g3 66 [.slice none 0 0, .slice none 0 0, .slice none 0 0, .slice none 0 0, .int .i64 0, .int .i64 0, .int .i64 0, .slice none 0 0, .slice none 0 0, .int .i64 0, .int .i64 0, .int .i64 0, .int .i64 0, .int .i64 0, .int .i64 0, .int .i64 0]]) ?_ ?_
  · have h := hj36
    refine CW.fl [1, 4, 5, 6, 28] fun e => ?_
    refine CW.cond rfl (fun hc38 => ?_) (fun hc38 => ?_)
    · replace h := bcT h hc38
      refine go ?_
      replace ⟨y39, hy39, h⟩ := obind h
      obtain ⟨b42, o43, hae, hp40, hq41⟩ := hS12.ownIdx (α := DObj) (i := 4) rfl hy39
      subst hae
      refine LW.u (Pur.ix Tryz.underlying59 sz92 rfl rfl hp40 hq41) rfl ?_
      refine go ?_
      replace ⟨y44, hy44, h⟩ := obind h
      refine LW.stE (M := []) (L := [bx g19 66 [.slice a6 y5.label.levels.length c7, .slice a8 y5.own.length c9, .slice a10 y5.tree.length c11, .slice (some ⟨b42, o43, none⟩) y5.heap.arena.length c13, .int .i64 y5.heap.gc.phase, .int .i64 y5.heap.gc.pos, .int .i64 y5.heap.gc.round, .slice a14 y5.heap.gc.grey.length c15, .slice a16 y5.taps.length c17, .int .i64 y5.next, .int .i64 y5.want, .int .i64 y5.spent.pages, .int .i64 y5.spent.rent, .int .i64 y5.spent.cpu, .int .i64 0, .int .i64 y5.lost], sl a6 c7 y5.label.levels, sl a8 c9 y5.own, sl a10 c11 y5.tree, sl (some ⟨b42, o43, none⟩) c13 y5.heap.arena, sl a14 c15 y5.heap.gc.grey, sl a16 c17 y5.taps, bx g3 66 [.slice none 0 0, .slice none 0 0, .slice none 0 0, .slice none 0 0, .int .i64 0, .int .i64 0, .int .i64 0, .slice none 0 0, .slice none 0 0, .int .i64 0, .int .i64 0, .int .i64 0, .int .i64 0, .int .i64 0, .int .i64 0, .int .i64 0], bx g1 66 [.slice a0_0 x0.label.levels.length c0_0, .slice a0_1 x0.own.length c0_1, .slice a0_2 x0.tree.length c0_2, .slice a0_3 x0.heap.arena.length c0_3, .int .i64 x0.heap.gc.phase, .int .i64 x0.heap.gc.pos, .int .i64 x0.heap.gc.round, .slice a0_7 x0.heap.gc.grey.length c0_7, .slice a0_8 x0.taps.length c0_8, .int .i64 x0.next, .int .i64 x0.want, .int .i64 x0.spent.pages, .int .i64 x0.spent.rent, .int .i64 x0.spent.cpu, .int .i64 x0.press, .int .i64 x0.lost]]) (z := y39) (z' := (DObj.mk y39.gen y39.kind y39.box y39.res (IntKind.i64.wrap (x1 - 1)) y39.pages y39.wait y39.got y39.ran y39.mark y39.links y39.data y39.queue)) (o := 4) hS12 (i := 4) rfl hy39 ag3 rfl (by show _ = o43 + (y34 : Int).toNat * 13 + 4; omega) rfl rfl rfl rfl (leafF (fun w cs F hF => by obtain ⟨q0, r0, q1, r1, q2, r2, rfl, hH⟩ := hF; exact ⟨q0, r0, q1, r1, q2, r2, rfl, hH⟩)) ?_
      intro w45 hS13 hf
      rw [Option.some.inj hy44] at hS13
      refine go ?_
      rw [show y5.heap.arena.length = y44.length from (len_set (Option.some.inj hy44))] at hS13
      cases oi h
      exact ⟨⟨rfl, rfl, trivial⟩, hS13.pick [0, 1, 2, 3, 4, 5, 6, 7] rfl rfl⟩
    replace h := bcF h hc38
    refine go ?_
    cases oi h
    exact ⟨⟨rfl, rfl, trivial⟩, hS12.pick [0, 1, 2, 3, 4, 5, 6, 7] rfl rfl⟩
  rintro e w46 ⟨hE, hS14⟩
  obtain ⟨e, rfl⟩ := hE.out
  have h := h37
  refine go ?_
  refine LW.st hS14 7 fun w47 hS15 => ?_
  refine go ?_
  cases h
  exact And.intro trivial ⟨_, Res.one (resOne.b hS15 7 rfl ag66 rfl rfl), a6, c7, a8, c9, a10, c11, a12, c13, a14, c15, a16, c17, rfl, hS15.pick [1, 2, 3, 4, 5, 6] rfl rfl⟩

end Go.Kx
