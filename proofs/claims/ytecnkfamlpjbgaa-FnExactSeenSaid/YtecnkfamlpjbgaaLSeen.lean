/- The plain law of 'FnExactSeen'. No program in sight. -/
import Derived.Test.YtecnkfamlpjbgaaLBoot
namespace Go.Kx
open Go
set_option linter.unusedVariables false
set_option linter.unusedSimpArgs false
set_option maxRecDepth 10000
theorem L_FnExactSeen {x : List DBoot} {e : DEntry} {l : DLabel} (hx : Fit.fit x) (he : Fit.fit e) (hl : Fit.fit l) : ∃ N, F_l_FnExactSeen N x e l = some true := by
  suffices h : ∀ N, BIG ≤ N → F_l_FnExactSeen N x e l = some true from ⟨BIG, h BIG (Nat.le_refl _)⟩
  intro N hN
  unfold F_l_FnExactSeen
  refine guard (by decide) (by decide) (rS_DBoot hN (by decide) (by decide) hx) fun b h0 h1 hs => ?_
  refine guard h0 h1 (r_DLabel hN h0 h1 hl) fun b h0 h1 hs2 => ?_
  have hb : szL sz_DBoot x < BIG := small hs
  have hb2 : sz_DLabel l < BIG := small hs2
  have hb3 : l.levels.length < BIG := hb2
  simp only [tS_DBoot hN hb, t_DEntry, t_DLabel hN hb2, s_Seen hN hb hb3, i_Seen hN hb hb3, eS_DBoot hN hb, e_DLabel hN hb2, Option.bind_some, beq_self_eq_true, Bool.not_true, cond_false]
end Go.Kx
