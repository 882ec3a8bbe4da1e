/- Each call returns what the plain function says. Printed by drive.py. -/
import Derived.Test.YtdjpppkdngmeaaaFa
import Derived.Test.YtdjpppkdngmeaaaPu
namespace Go.Kx
open Go Go.RowKit Go.Proofs
set_option maxRecDepth 10000
set_option maxHeartbeats 2000000
set_option linter.unusedVariables false
set_option linter.unusedSimpArgs false
theorem W_l_markIntS {w0 : World} {F : List Nat} {N : Nat} {x0 : List Int} {x1 : Int} {r : Int × (List Int)} (h : F_l_markIntS N x0 x1 = some r) {a0_0 : Option Addr} {n0_0 c0_0 : Nat} (hn0_0 : n0_0 = x0.length) (hS : St w0 F w0 [sl a0_0 c0_0 x0]) :
    Ret Try.prog 61 #[.slice a0_0 n0_0 c0_0, .int .i64 x1] w0 (fun v w => v = .int .i64 r.1 ∧ St w0 F w [sl a0_0 c0_0 r.2]) := by
  subst hn0_0
  unfold F_l_markIntS at h
  refine Ret.of Try.func61 rfl rfl rfl ?_
  refine CW.seq ?_
  refine CW.region ?_
  refine LW.p rfl rfl ?_
  refine LW.nil ?_
  show CW _ _ _ _ _ _
  refine CW.seq ?_
  refine CW.seq ?_
  refine CW.region ?_
  refine LW.p rfl rfl ?_
  refine LW.nil ?_
  show CW _ _ _ _ _ _
  refine CW.block ?_
  obtain ⟨o11, ho11, h12⟩ := obind h
  refine CW.mono (CW.iter (σ := (List Int) × Int × Int) (ρ := (List Int) × Int × Int) (fun s1 e wb => En e [(0, .slice a0_0 s1.1.length c0_0), (1, .int .i64 s1.2.1), (5, .int .i64 s1.2.2)] ∧ St w0 F wb [sl a0_0 c0_0 s1.1]) (fun s1 x e wb => x = .exit 0 ∧ En e [(1, .int .i64 s1.2.1)] ∧ St w0 F wb [sl a0_0 c0_0 s1.1]) ?_ N (x0, x1, 0) _ _ _ ⟨⟨rfl, rfl, rfl, trivial⟩, hS.pick [0] rfl rfl⟩ ho11) ?_
  · intro s1 e w2 o hM h
    obtain ⟨hE, hS1⟩ := hM
    obtain ⟨e, rfl⟩ := hE.out
    refine CW.seq ?_
    refine CW.seq ?_
    refine CW.region ?_
    iterate 2 refine LW.p rfl rfl ?_
    refine LW.u (Pur.len Try.underlying24 rfl) rfl ?_
    refine LW.p rfl rfl ?_
    refine LW.nil ?_
    show CW _ _ _ _ _ _
    refine CW.cond rfl (fun hc3 => ?_) (fun hc3 => ?_)
    · replace h := bcT h hc3
      refine CW.skip ?_
      show CW _ _ _ _ _ _
      refine CW.seq ?_
      refine CW.block ?_
      refine CW.seq ?_
      refine CW.region ?_
      iterate 3 refine LW.p rfl rfl ?_
      replace h := obind h
      obtain ⟨y4, hy4, h⟩ := h
      obtain ⟨b7, o8, hae, hp5, hq6⟩ := hS1.ownIdx (α := Int) (i := 0) rfl hy4
      subst hae
      refine LW.u (Pur.ix Try.underlying24 sz3 rfl rfl hp5 hq6) rfl ?_
      replace h := obind h
      obtain ⟨y9, hy9, h⟩ := h
      refine LW.stE (M := []) (L := [sl (some ⟨b7, o8, none⟩) c0_0 s1.1]) (z := y4) (z' := s1.2.1) (o := 0) hS1 (i := 0) rfl hy4 ag3 rfl (by show _ = o8 + (s1.2.2 : Int).toNat * 1 + 0; omega) rfl rfl rfl rfl (whole (fun w G hG => by cases (show G = [] from hG); exact ⟨rfl, rfl⟩)) ?_
      intro w10 hS2 hf
      rw [Option.some.inj hy9] at hS2
      refine LW.nil ?_
      show CW _ _ _ _ _ _
      refine CW.region ?_
      iterate 3 refine LW.p rfl rfl ?_
      refine LW.nil ?_
      show CW _ _ _ _ _ _
      refine CW.fresh (l := [(0, .slice (some ⟨b7, o8, none⟩) s1.1.length c0_0), (1, .int .i64 (IntKind.i64.wrap (s1.2.1 + 1))), (5, .int .i64 s1.2.2)]) ⟨rfl, rfl, rfl, trivial⟩ (fun e => ?_)
      refine CW.region ?_
      iterate 3 refine LW.p rfl rfl ?_
      refine LW.nil ?_
      replace h := Option.some.inj h
      subst h
      exact ⟨rfl, ⟨⟨(show (.slice (some ⟨b7, o8, none⟩) s1.1.length c0_0 : Value) = .slice (some ⟨b7, o8, none⟩) y9.length c0_0 by rw [show s1.1.length = y9.length from (len_set (Option.some.inj hy9))]), rfl, rfl, trivial⟩, hS2.pick [0] rfl rfl⟩⟩
    replace h := bcF h hc3
    refine CW.exit ?_
    replace h := Option.some.inj h
    subst h
    exact ⟨trivial, rfl, ⟨⟨rfl, trivial⟩, hS1.pick [0] rfl rfl⟩⟩
  intro x e w13 hM
  obtain ⟨rfl, hM⟩ := hM
  obtain ⟨hE, hS3⟩ := hM
  obtain ⟨e, rfl⟩ := hE.out
  have h := h12
  show CW _ _ _ _ _ _
  refine CW.seq ?_
  refine CW.region ?_
  iterate 2 refine LW.p rfl rfl ?_
  refine LW.nil ?_
  show CW _ _ _ _ _ _
  refine CW.ret ?_
  replace h := Option.some.inj h
  subst h
  exact And.intro trivial ⟨_, Res.one (resOne.t rfl), rfl, hS3.pick [0] rfl rfl⟩

theorem W_l_markLabel {w0 : World} {F : List Nat} {N : Nat} {x0 : DLabel} {x1 : Int} {r : Int × (List Int)} (h : F_l_markLabel N x0 x1 = some r) {a0_0 : Option Addr} {n0_0 c0_0 : Nat} (hn0_0 : n0_0 = x0.levels.length) (hS : St w0 F w0 [sl a0_0 c0_0 x0.levels]) :
    Ret Try.prog 23 #[.agg #[.slice a0_0 n0_0 c0_0], .int .i64 x1] w0 (fun v w => v = .int .i64 r.1 ∧ St w0 F w [sl a0_0 c0_0 r.2]) := by
  subst hn0_0
  unfold F_l_markLabel at h
  refine Ret.of Try.func23 rfl rfl rfl ?_
  refine CW.seq ?_
  refine CW.region ?_
  refine LW.box (cs := [.slice a0_0 x0.levels.length c0_0]) rfl hS rfl ?_
  intro g1 w2 hS1 hf
  refine LW.p rfl rfl ?_
  refine LW.nil ?_
  show CW _ _ _ _ _ _
  refine CW.seq ?_
  refine CW.region ?_
  refine LW.u (Pur.fa fo35_0 rfl) rfl ?_
  refine LW.ldb hS1 0 rfl ag24 rfl rfl rfl ?_
  refine LW.p rfl rfl ?_
  replace h := obind h
  obtain ⟨y3, hy3, h⟩ := h
  obtain ⟨q6, hy3', hq7⟩ := obind hy3
  obtain ⟨hl8, hq7⟩ := keepL_some hq7
  rw [Option.some.inj hq7] at hy3' hl8
  have hS2 := hS1.pick (M := [sl a0_0 c0_0 x0.levels] ++ [bx g1 35 [.slice a0_0 x0.levels.length c0_0]]) [1, 0] rfl rfl
  obtain ⟨F4, hL5⟩ := St.lend (L := [sl a0_0 c0_0 x0.levels]) (M := [bx g1 35 [.slice a0_0 x0.levels.length c0_0]]) hS2
  have q := W_l_markIntS (w0 := w2) hy3' rfl hL5.st
  refine LW.call pl61 rfl rfl ?_
  refine Ret.mono q ?_
  rintro _ w9 ⟨rfl, hs⟩
  have hS3 := hL5.back _ _ hs
  refine LW.p rfl rfl ?_
  refine LW.nil ?_
  show CW _ _ _ _ _ _
  refine CW.seq ?_
  refine CW.region ?_
  iterate 2 refine LW.p rfl rfl ?_
  refine LW.nil ?_
  show CW _ _ _ _ _ _
  refine CW.ret ?_
  replace h := Option.some.inj h
  subst h
  rw [show x0.levels.length = y3.2.length from hl8] at hS3
  exact And.intro trivial ⟨_, Res.one (resOne.t rfl), rfl, hS3.pick [0] rfl rfl⟩

end Go.Kx
