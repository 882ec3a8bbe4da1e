/- Each call returns what the plain function says. Printed by drive.py. -/
import Derived.Test.YtfllimolhpblnaaGreatFa
import Derived.Test.YtfllimolhpblnaaGreatPu
import Derived.Test.YtfllimolhpblnaaGreatWa0
import Derived.Test.YtfllimolhpblnaaGreatWa5
namespace Go.Kx
open Go Go.RowKit Go.Proofs
set_option maxRecDepth 10000
set_option maxHeartbeats 2000000
set_option linter.unusedVariables false
set_option linter.unusedSimpArgs false
theorem W_i_TreeSum {w0 : World} {N : Nat} {x0 : List DRes} {r : DAmt} (h : F_i_TreeSum N x0 = some r) {a0_0 : Option Addr} {n0_0 c0_0 : Nat} (hn0_0 : n0_0 = x0.length) (hr0_0 : rdS (Bor w0 []) w0 a0_0 c0_0 x0) :
    Ret Tryz.prog 174 #[.slice a0_0 n0_0 c0_0] w0 (fun v w => v = .agg #[.int .i64 r.pages, .int .i64 r.rent, .int .i64 r.cpu] ∧ St w0 [] w []) := by
  subst hn0_0
  unfold F_i_TreeSum at h
  refine Ret.fn Tryz.func174 fun e => ?_
  have hS1 := St.start w0
  refine go ?_
  refine LW.al hS1 fun g1 w2 hS2 => ?_
  refine go ?_
  refine LW.u (Pur.build (vs := []) (cs := #[.int .i64 0, .int .i64 0, .int .i64 0]) rfl (by kernel_rfl)) rfl ?_
  refine LW.al hS2 fun g3 w4 hS3 => ?_
  refine LW.st hS3 0 fun w5 hS4 => ?_
  refine go ?_
  replace ⟨y6, hy6, h⟩ := obind h
  refine LW.c0 (W_i_TreeOk hy6 rfl (hS4.rB hr0_0)) hS4 fun w7 hS5 => ?_
  refine go ?_
  refine CW.cond rfl (fun hc8 => ?_) (fun hc8 => ?_)
  · replace h := bcT h hc8
    refine go ?_
    refine LW.st hS5 1 fun w9 hS6 => ?_
    refine go ?_
    cases h
    exact And.intro trivial ⟨_, Res.one (resOne.b hS6 1 rfl ag64 rfl rfl), rfl, hS6.pick [] rfl rfl⟩
  replace h := bcF h hc8
  refine go ?_
  obtain ⟨o28, ho28, h29⟩ := obind h
  refine CW.mono (CW.iter (σ := Int × Int × Int × Int) (ρ := Int × Int × Int × Int) (fun s10 e wb => En e [(2, .pointer (some ⟨g1, 0, none⟩)), (3, .pointer (some ⟨g3, 0, none⟩)), (11, .slice a0_0 x0.length c0_0), (12, .int .i64 (x0.length : Int)), (13, .int .i64 s10.1)] ∧ St w0 [] wb [bx g3 64 [.int .i64 s10.2.1, .int .i64 s10.2.2.1, .int .i64 s10.2.2.2], bx g1 64 [.int .i64 0, .int .i64 0, .int .i64 0]]) (fun s10 x e wb => x = .exit 0 ∧ En e [(2, .pointer (some ⟨g1, 0, none⟩)), (3, .pointer (some ⟨g3, 0, none⟩))] ∧ St w0 [] wb [bx g3 64 [.int .i64 s10.2.1, .int .i64 s10.2.2.1, .int .i64 s10.2.2.2], bx g1 64 [.int .i64 0, .int .i64 0, .int .i64 0]]) ?_ N (0, 0, 0, 0) _ _ _ ⟨⟨rfl, rfl, rfl, rfl, rfl, trivial⟩, hS5.pick [0, 1] rfl rfl⟩ ho28) ?_
  · intro s10 e w11 o hM h
    obtain ⟨hE, hS7⟩ := hM
    obtain ⟨e, rfl⟩ := hE.out
    refine go ?_
    refine CW.cond rfl (fun hc12 => ?_) (fun hc12 => ?_)
    · replace h := bcT h hc12
      refine go ?_
      replace ⟨y13, hy13, h⟩ := obind h
      obtain ⟨b16, o17, cs18, hae, hb21, hp14, hq15, hd19, hk20⟩ := hr0_0.idx hy13
      subst hae
      obtain rfl := hd19
      refine LW.u (Pur.ix Tryz.underlying58 sz152 rfl rfl hp14 hq15) rfl ?_
      refine LW.l (Ldr.oldN w0 ag152 rfl rfl (fun j u hu => hk20 j u hu)) (hS7.same _ hb21.1 hb21.2) rfl ?_
      refine LW.al hS7 fun g22 w23 hS8 => ?_
      refine LW.st hS8 0 fun w24 hS9 => ?_
      refine go ?_
      replace ⟨y25, hy25, h⟩ := obind h
      refine LW.c0 (W_i_sumOf hy25) hS9 fun w26 hS10 => ?_
      refine LW.st hS10 1 fun w27 hS11 => ?_
      refine go ?_
      cases oi h
      exact ⟨rfl, ⟨⟨rfl, rfl, rfl, rfl, rfl, trivial⟩, hS11.pick [1, 2] rfl rfl⟩⟩
    replace h := bcF h hc12
    refine go ?_
    cases oi h
    exact ⟨trivial, rfl, ⟨⟨rfl, rfl, trivial⟩, hS7.pick [0, 1] rfl rfl⟩⟩
  intro x e w30 hM
  obtain ⟨rfl, hM⟩ := hM
  obtain ⟨hE, hS12⟩ := hM
  obtain ⟨e, rfl⟩ := hE.out
  have h := h29
  refine go ?_
  refine LW.st hS12 1 fun w31 hS13 => ?_
  refine go ?_
  cases h
  exact And.intro trivial ⟨_, Res.one (resOne.b hS13 1 rfl ag64 rfl rfl), rfl, hS13.pick [] rfl rfl⟩

end Go.Kx
