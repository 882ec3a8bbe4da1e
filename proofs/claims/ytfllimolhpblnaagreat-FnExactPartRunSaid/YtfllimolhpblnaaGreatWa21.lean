/- Each call returns what the plain function says. Printed by drive.py. -/
import Derived.Test.YtfllimolhpblnaaGreatFa
import Derived.Test.YtfllimolhpblnaaGreatPu
import Derived.Test.YtfllimolhpblnaaGreatWa1
import Derived.Test.YtfllimolhpblnaaGreatWa4
namespace Go.Kx
open Go Go.RowKit Go.Proofs
set_option maxRecDepth 10000
set_option maxHeartbeats 2000000
set_option linter.unusedVariables false
set_option linter.unusedSimpArgs false
theorem W_s_l6Live {w0 : World} {N : Nat} {x0 : List DRes} {x1 : Int} {r : Bool} (h : F_s_l6Live N x0 x1 = some r) {a0_0 : Option Addr} {n0_0 c0_0 : Nat} (hn0_0 : n0_0 = x0.length) (hr0_0 : rdS (Bor w0 []) w0 a0_0 c0_0 x0) :
    Ret Tryz.prog 161 #[.slice a0_0 n0_0 c0_0, .int .i64 x1] w0 (fun v w => v = .bool r ∧ St w0 [] w []) := by
  subst hn0_0
  unfold F_s_l6Live at h
  refine Ret.fn Tryz.func161 fun e => ?_
  have hS1 := St.start w0
  refine go ?_
  replace ⟨y1, hy1, h⟩ := obind h
  refine LW.c0 (W_s_TreeOk hy1 rfl (hS1.rB hr0_0)) hS1 fun w2 hS2 => ?_
  refine go ?_
  rcases bcases y1 with hc3 | hc3
  · replace h := bcT h hc3
    refine go ?_
    replace ⟨y4, hy4, h⟩ := obind h
    refine go ?_
    refine LW.c0 (W_s_l6Res hy4) hS2 fun w5 hS3 => ?_
    refine go ?_
    rcases bcases y4 with hc6 | hc6
    · replace h := bcT h hc6
      refine go ?_
      replace ⟨y7, hy7, h⟩ := obind h
      obtain ⟨b10, o11, cs12, hae, hb15, hp8, hq9, hd13, hk14⟩ := hr0_0.idx hy7
      subst hae
      obtain rfl := hd13
      refine go ?_
      refine LW.u (Pur.ix Tryz.underlying58 sz152 rfl rfl hp8 hq9) rfl ?_
      refine go ?_
      refine LW.l (Ldr.old w0 ag4 rfl (hk14 0 _ rfl)) (hS3.same _ hb15.1 hb15.2) rfl ?_
      refine go ?_
      cases h
      exact And.intro trivial ⟨_, Res.one (resOne.t rfl), rfl, hS3.pick [] rfl rfl⟩
    replace h := bcF h hc6
    refine go ?_
    cases h
    exact And.intro trivial ⟨_, Res.one (resOne.t rfl), rfl, hS3.pick [] rfl rfl⟩
  replace h := bcF h hc3
  refine go ?_
  cases h
  exact And.intro trivial ⟨_, Res.one (resOne.t rfl), rfl, hS2.pick [] rfl rfl⟩

end Go.Kx
