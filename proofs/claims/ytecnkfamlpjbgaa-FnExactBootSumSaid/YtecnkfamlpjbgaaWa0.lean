/- Each call returns what the plain function says. Printed by drive.py. -/
import Derived.Test.YtecnkfamlpjbgaaFa
import Derived.Test.YtecnkfamlpjbgaaPu
namespace Go.Kx
open Go Go.RowKit Go.Proofs
set_option maxRecDepth 10000
set_option maxHeartbeats 2000000
set_option linter.unusedVariables false
set_option linter.unusedSimpArgs false
theorem W_s_l1In {w0 : World} {N : Nat} {x0 : Int} {x1 : Int} {x2 : Int} {r : Bool} (h : F_s_l1In N x0 x1 x2 = some r) :
    Ret Try.prog 35 #[.int .i64 x0, .int .i64 x1, .int .i64 x2] w0 (fun v w => v = .bool r ∧ St w0 [] w []) := by
  unfold F_s_l1In at h
  refine Ret.of Try.func35 rfl rfl rfl ?_
  have hS1 := St.start w0
  refine CW.seq ?_
  refine CW.region ?_
  refine LW.p rfl rfl ?_
  refine LW.nil ?_
  show CW _ _ _ _ _ _
  refine CW.seq ?_
  refine CW.region ?_
  iterate 4 refine LW.p rfl rfl ?_
  rcases bcases (decide (x0 ≥ x1)) with hc1 | hc1
  · replace h := bcT h hc1
    refine LW.gY (want_of rfl rfl hc1) ?_
    refine LW.p rfl rfl ?_
    refine LW.gY (want_of rfl rfl hc1) ?_
    refine LW.p rfl rfl ?_
    refine LW.gY (want_of rfl rfl hc1) ?_
    refine LW.p rfl rfl ?_
    refine LW.u (Pur.pickT rfl hc1) rfl ?_
    refine LW.p rfl rfl ?_
    refine LW.nil ?_
    show CW _ _ _ _ _ _
    refine CW.ret ?_
    cases h
    exact And.intro trivial ⟨_, Res.one (resOne.t rfl), rfl, hS1.pick [] rfl rfl⟩
  replace h := bcF h hc1
  refine LW.gN (want_not rfl rfl hc1) rfl ?_
  refine LW.gN (want_not rfl rfl hc1) rfl ?_
  refine LW.gN (want_not rfl rfl hc1) rfl ?_
  refine LW.u (Pur.pickF rfl hc1) rfl ?_
  refine LW.p rfl rfl ?_
  refine LW.nil ?_
  show CW _ _ _ _ _ _
  refine CW.ret ?_
  cases h
  exact And.intro trivial ⟨_, Res.one (resOne.t rfl), rfl, hS1.pick [] rfl rfl⟩

theorem W_s_CodeWord {w0 : World} {N : Nat} {x0 : Int} {r : Str} (h : F_s_CodeWord N x0 = some r) :
    Ret Try.prog 9 #[.int .i64 x0] w0 (fun v w => v = .string r ∧ St w0 [] w []) := by
  unfold F_s_CodeWord at h
  refine Ret.of Try.func9 rfl rfl rfl ?_
  have hS1 := St.start w0
  refine CW.seq ?_
  refine CW.region ?_
  refine LW.p rfl rfl ?_
  refine LW.nil ?_
  show CW _ _ _ _ _ _
  refine CW.seq ?_
  refine CW.seq ?_
  refine CW.region ?_
  refine LW.p rfl rfl ?_
  replace h := obind h
  obtain ⟨y1, hy1, h⟩ := h
  have q := W_s_l1In (w0 := w0) hy1
  refine LW.call pl35 rfl rfl ?_
  refine Ret.mono q ?_
  rintro _ w2 ⟨rfl, hs⟩
  have hS2 := hS1.add hs
  refine LW.p rfl rfl ?_
  refine LW.nil ?_
  show CW _ _ _ _ _ _
  refine CW.cond rfl (fun hc3 => ?_) (fun hc3 => ?_)
  · replace h := bcT h hc3
    refine CW.seq ?_
    refine CW.region ?_
    refine LW.p rfl rfl ?_
    refine LW.nil ?_
    show CW _ _ _ _ _ _
    refine CW.ret ?_
    cases h
    exact And.intro trivial ⟨_, Res.one (resOne.t rfl), rfl, hS2.pick [] rfl rfl⟩
  replace h := bcF h hc3
  refine CW.skip ?_
  show CW _ _ _ _ _ _
  refine CW.seq ?_
  refine CW.region ?_
  refine LW.bsl (α := Str) (vs := [(0, .string (⟨#[111, 107]⟩ : ByteArray)), (1, .string (⟨#[100, 101, 97, 100]⟩ : ByteArray)), (2, .string (⟨#[98, 97, 100]⟩ : ByteArray)), (3, .string (⟨#[102, 108, 111, 119]⟩ : ByteArray)), (4, .string (⟨#[115, 116, 97, 108, 101]⟩ : ByteArray)), (5, .string (⟨#[107, 105, 110, 100]⟩ : ByteArray)), (6, .string (⟨#[112, 111, 111, 114]⟩ : ByteArray)), (7, .string (⟨#[102, 117, 108, 108]⟩ : ByteArray)), (8, .string (⟨#[98, 117, 115, 121]⟩ : ByteArray))]) (cs := #[.string (⟨#[111, 107]⟩ : ByteArray), .string (⟨#[100, 101, 97, 100]⟩ : ByteArray), .string (⟨#[98, 97, 100]⟩ : ByteArray), .string (⟨#[102, 108, 111, 119]⟩ : ByteArray), .string (⟨#[115, 116, 97, 108, 101]⟩ : ByteArray), .string (⟨#[107, 105, 110, 100]⟩ : ByteArray), .string (⟨#[112, 111, 111, 114]⟩ : ByteArray), .string (⟨#[102, 117, 108, 108]⟩ : ByteArray), .string (⟨#[98, 117, 115, 121]⟩ : ByteArray)]) (l := ([(⟨#[111, 107]⟩ : ByteArray), (⟨#[100, 101, 97, 100]⟩ : ByteArray), (⟨#[98, 97, 100]⟩ : ByteArray), (⟨#[102, 108, 111, 119]⟩ : ByteArray), (⟨#[115, 116, 97, 108, 101]⟩ : ByteArray), (⟨#[107, 105, 110, 100]⟩ : ByteArray), (⟨#[112, 111, 111, 114]⟩ : ByteArray), (⟨#[102, 117, 108, 108]⟩ : ByteArray), (⟨#[98, 117, 115, 121]⟩ : ByteArray)] : List Str)) rfl (by kernel_rfl) rfl rfl rfl (fun w => ⟨[.string (⟨#[111, 107]⟩ : ByteArray)], [.string (⟨#[100, 101, 97, 100]⟩ : ByteArray), .string (⟨#[98, 97, 100]⟩ : ByteArray), .string (⟨#[102, 108, 111, 119]⟩ : ByteArray), .string (⟨#[115, 116, 97, 108, 101]⟩ : ByteArray), .string (⟨#[107, 105, 110, 100]⟩ : ByteArray), .string (⟨#[112, 111, 111, 114]⟩ : ByteArray), .string (⟨#[102, 117, 108, 108]⟩ : ByteArray), .string (⟨#[98, 117, 115, 121]⟩ : ByteArray)], [], [], rfl, rfl, ⟨rfl, rfl⟩, ⟨[.string (⟨#[100, 101, 97, 100]⟩ : ByteArray)], [.string (⟨#[98, 97, 100]⟩ : ByteArray), .string (⟨#[102, 108, 111, 119]⟩ : ByteArray), .string (⟨#[115, 116, 97, 108, 101]⟩ : ByteArray), .string (⟨#[107, 105, 110, 100]⟩ : ByteArray), .string (⟨#[112, 111, 111, 114]⟩ : ByteArray), .string (⟨#[102, 117, 108, 108]⟩ : ByteArray), .string (⟨#[98, 117, 115, 121]⟩ : ByteArray)], [], [], rfl, rfl, ⟨rfl, rfl⟩, ⟨[.string (⟨#[98, 97, 100]⟩ : ByteArray)], [.string (⟨#[102, 108, 111, 119]⟩ : ByteArray), .string (⟨#[115, 116, 97, 108, 101]⟩ : ByteArray), .string (⟨#[107, 105, 110, 100]⟩ : ByteArray), .string (⟨#[112, 111, 111, 114]⟩ : ByteArray), .string (⟨#[102, 117, 108, 108]⟩ : ByteArray), .string (⟨#[98, 117, 115, 121]⟩ : ByteArray)], [], [], rfl, rfl, ⟨rfl, rfl⟩, ⟨[.string (⟨#[102, 108, 111, 119]⟩ : ByteArray)], [.string (⟨#[115, 116, 97, 108, 101]⟩ : ByteArray), .string (⟨#[107, 105, 110, 100]⟩ : ByteArray), .string (⟨#[112, 111, 111, 114]⟩ : ByteArray), .string (⟨#[102, 117, 108, 108]⟩ : ByteArray), .string (⟨#[98, 117, 115, 121]⟩ : ByteArray)], [], [], rfl, rfl, ⟨rfl, rfl⟩, ⟨[.string (⟨#[115, 116, 97, 108, 101]⟩ : ByteArray)], [.string (⟨#[107, 105, 110, 100]⟩ : ByteArray), .string (⟨#[112, 111, 111, 114]⟩ : ByteArray), .string (⟨#[102, 117, 108, 108]⟩ : ByteArray), .string (⟨#[98, 117, 115, 121]⟩ : ByteArray)], [], [], rfl, rfl, ⟨rfl, rfl⟩, ⟨[.string (⟨#[107, 105, 110, 100]⟩ : ByteArray)], [.string (⟨#[112, 111, 111, 114]⟩ : ByteArray), .string (⟨#[102, 117, 108, 108]⟩ : ByteArray), .string (⟨#[98, 117, 115, 121]⟩ : ByteArray)], [], [], rfl, rfl, ⟨rfl, rfl⟩, ⟨[.string (⟨#[112, 111, 111, 114]⟩ : ByteArray)], [.string (⟨#[102, 117, 108, 108]⟩ : ByteArray), .string (⟨#[98, 117, 115, 121]⟩ : ByteArray)], [], [], rfl, rfl, ⟨rfl, rfl⟩, ⟨[.string (⟨#[102, 117, 108, 108]⟩ : ByteArray)], [.string (⟨#[98, 117, 115, 121]⟩ : ByteArray)], [], [], rfl, rfl, ⟨rfl, rfl⟩, ⟨[.string (⟨#[98, 117, 115, 121]⟩ : ByteArray)], [], [], [], rfl, rfl, ⟨rfl, rfl⟩, rfl⟩⟩⟩⟩⟩⟩⟩⟩⟩) hS2 rfl ?_
  intro a4 c5 w6 hS3 hf
  refine LW.p rfl rfl ?_
  replace h := obind h
  obtain ⟨y7, hy7, h⟩ := h
  obtain ⟨b10, o11, hae, hp8, hq9⟩ := hS3.ownIdx (α := Str) (i := 0) rfl hy7
  subst hae
  refine LW.u (Pur.ix Try.underlying65 sz9 rfl rfl hp8 hq9) rfl ?_
  obtain ⟨F12, ho13, hS4⟩ := hS3.freeze (α := Str) 0 rfl
  obtain ⟨b14, o15, cs16, hae, hb19, _, _, hd17, hk18⟩ := ho13.rdF.idx hy7
  cases hae
  obtain rfl := hd17
  refine LW.l (Ldr.old w6 ag9 rfl (hk18 0 _ rfl)) (hS4.zC 0 rfl hb19) rfl ?_
  refine LW.p rfl rfl ?_
  refine LW.nil ?_
  show CW _ _ _ _ _ _
  refine CW.ret ?_
  cases h
  exact And.intro trivial ⟨_, Res.one (resOne.t rfl), rfl, hS4.pick [] rfl rfl⟩

theorem W_i_within {w0 : World} {N : Nat} {x0 : Int} {x1 : Int} {x2 : Int} {r : Bool} (h : F_i_within N x0 x1 x2 = some r) :
    Ret Try.prog 36 #[.int .i64 x0, .int .i64 x1, .int .i64 x2] w0 (fun v w => v = .bool r ∧ St w0 [] w []) := by
  unfold F_i_within at h
  refine Ret.of Try.func36 rfl rfl rfl ?_
  have hS1 := St.start w0
  refine CW.seq ?_
  refine CW.region ?_
  refine LW.p rfl rfl ?_
  refine LW.nil ?_
  show CW _ _ _ _ _ _
  refine CW.seq ?_
  refine CW.region ?_
  iterate 4 refine LW.p rfl rfl ?_
  rcases bcases (decide (x0 ≥ x1)) with hc1 | hc1
  · replace h := bcT h hc1
    refine LW.gY (want_of rfl rfl hc1) ?_
    refine LW.p rfl rfl ?_
    refine LW.gY (want_of rfl rfl hc1) ?_
    refine LW.p rfl rfl ?_
    refine LW.gY (want_of rfl rfl hc1) ?_
    refine LW.p rfl rfl ?_
    refine LW.u (Pur.pickT rfl hc1) rfl ?_
    refine LW.p rfl rfl ?_
    refine LW.nil ?_
    show CW _ _ _ _ _ _
    refine CW.ret ?_
    cases h
    exact And.intro trivial ⟨_, Res.one (resOne.t rfl), rfl, hS1.pick [] rfl rfl⟩
  replace h := bcF h hc1
  refine LW.gN (want_not rfl rfl hc1) rfl ?_
  refine LW.gN (want_not rfl rfl hc1) rfl ?_
  refine LW.gN (want_not rfl rfl hc1) rfl ?_
  refine LW.u (Pur.pickF rfl hc1) rfl ?_
  refine LW.p rfl rfl ?_
  refine LW.nil ?_
  show CW _ _ _ _ _ _
  refine CW.ret ?_
  cases h
  exact And.intro trivial ⟨_, Res.one (resOne.t rfl), rfl, hS1.pick [] rfl rfl⟩

theorem W_i_CodeWord {w0 : World} {N : Nat} {x0 : Int} {r : Str} (h : F_i_CodeWord N x0 = some r) :
    Ret Try.prog 10 #[.int .i64 x0] w0 (fun v w => v = .string r ∧ St w0 [] w []) := by
  unfold F_i_CodeWord at h
  refine Ret.of Try.func10 rfl rfl rfl ?_
  have hS1 := St.start w0
  refine CW.seq ?_
  refine CW.region ?_
  refine LW.p rfl rfl ?_
  refine LW.nil ?_
  show CW _ _ _ _ _ _
  refine CW.seq ?_
  refine CW.seq ?_
  refine CW.region ?_
  refine LW.p rfl rfl ?_
  replace h := obind h
  obtain ⟨y1, hy1, h⟩ := h
  have q := W_i_within (w0 := w0) hy1
  refine LW.call pl36 rfl rfl ?_
  refine Ret.mono q ?_
  rintro _ w2 ⟨rfl, hs⟩
  have hS2 := hS1.add hs
  refine LW.p rfl rfl ?_
  refine LW.nil ?_
  show CW _ _ _ _ _ _
  refine CW.cond rfl (fun hc3 => ?_) (fun hc3 => ?_)
  · replace h := bcT h hc3
    refine CW.seq ?_
    refine CW.region ?_
    refine LW.p rfl rfl ?_
    refine LW.nil ?_
    show CW _ _ _ _ _ _
    refine CW.ret ?_
    cases h
    exact And.intro trivial ⟨_, Res.one (resOne.t rfl), rfl, hS2.pick [] rfl rfl⟩
  replace h := bcF h hc3
  refine CW.skip ?_
  show CW _ _ _ _ _ _
  refine CW.seq ?_
  refine CW.region ?_
  refine LW.bsl (α := Str) (vs := [(0, .string (⟨#[111, 107]⟩ : ByteArray)), (1, .string (⟨#[100, 101, 97, 100]⟩ : ByteArray)), (2, .string (⟨#[98, 97, 100]⟩ : ByteArray)), (3, .string (⟨#[102, 108, 111, 119]⟩ : ByteArray)), (4, .string (⟨#[115, 116, 97, 108, 101]⟩ : ByteArray)), (5, .string (⟨#[107, 105, 110, 100]⟩ : ByteArray)), (6, .string (⟨#[112, 111, 111, 114]⟩ : ByteArray)), (7, .string (⟨#[102, 117, 108, 108]⟩ : ByteArray)), (8, .string (⟨#[98, 117, 115, 121]⟩ : ByteArray))]) (cs := #[.string (⟨#[111, 107]⟩ : ByteArray), .string (⟨#[100, 101, 97, 100]⟩ : ByteArray), .string (⟨#[98, 97, 100]⟩ : ByteArray), .string (⟨#[102, 108, 111, 119]⟩ : ByteArray), .string (⟨#[115, 116, 97, 108, 101]⟩ : ByteArray), .string (⟨#[107, 105, 110, 100]⟩ : ByteArray), .string (⟨#[112, 111, 111, 114]⟩ : ByteArray), .string (⟨#[102, 117, 108, 108]⟩ : ByteArray), .string (⟨#[98, 117, 115, 121]⟩ : ByteArray)]) (l := ([(⟨#[111, 107]⟩ : ByteArray), (⟨#[100, 101, 97, 100]⟩ : ByteArray), (⟨#[98, 97, 100]⟩ : ByteArray), (⟨#[102, 108, 111, 119]⟩ : ByteArray), (⟨#[115, 116, 97, 108, 101]⟩ : ByteArray), (⟨#[107, 105, 110, 100]⟩ : ByteArray), (⟨#[112, 111, 111, 114]⟩ : ByteArray), (⟨#[102, 117, 108, 108]⟩ : ByteArray), (⟨#[98, 117, 115, 121]⟩ : ByteArray)] : List Str)) rfl (by kernel_rfl) rfl rfl rfl (fun w => ⟨[.string (⟨#[111, 107]⟩ : ByteArray)], [.string (⟨#[100, 101, 97, 100]⟩ : ByteArray), .string (⟨#[98, 97, 100]⟩ : ByteArray), .string (⟨#[102, 108, 111, 119]⟩ : ByteArray), .string (⟨#[115, 116, 97, 108, 101]⟩ : ByteArray), .string (⟨#[107, 105, 110, 100]⟩ : ByteArray), .string (⟨#[112, 111, 111, 114]⟩ : ByteArray), .string (⟨#[102, 117, 108, 108]⟩ : ByteArray), .string (⟨#[98, 117, 115, 121]⟩ : ByteArray)], [], [], rfl, rfl, ⟨rfl, rfl⟩, ⟨[.string (⟨#[100, 101, 97, 100]⟩ : ByteArray)], [.string (⟨#[98, 97, 100]⟩ : ByteArray), .string (⟨#[102, 108, 111, 119]⟩ : ByteArray), .string (⟨#[115, 116, 97, 108, 101]⟩ : ByteArray), .string (⟨#[107, 105, 110, 100]⟩ : ByteArray), .string (⟨#[112, 111, 111, 114]⟩ : ByteArray), .string (⟨#[102, 117, 108, 108]⟩ : ByteArray), .string (⟨#[98, 117, 115, 121]⟩ : ByteArray)], [], [], rfl, rfl, ⟨rfl, rfl⟩, ⟨[.string (⟨#[98, 97, 100]⟩ : ByteArray)], [.string (⟨#[102, 108, 111, 119]⟩ : ByteArray), .string (⟨#[115, 116, 97, 108, 101]⟩ : ByteArray), .string (⟨#[107, 105, 110, 100]⟩ : ByteArray), .string (⟨#[112, 111, 111, 114]⟩ : ByteArray), .string (⟨#[102, 117, 108, 108]⟩ : ByteArray), .string (⟨#[98, 117, 115, 121]⟩ : ByteArray)], [], [], rfl, rfl, ⟨rfl, rfl⟩, ⟨[.string (⟨#[102, 108, 111, 119]⟩ : ByteArray)], [.string (⟨#[115, 116, 97, 108, 101]⟩ : ByteArray), .string (⟨#[107, 105, 110, 100]⟩ : ByteArray), .string (⟨#[112, 111, 111, 114]⟩ : ByteArray), .string (⟨#[102, 117, 108, 108]⟩ : ByteArray), .string (⟨#[98, 117, 115, 121]⟩ : ByteArray)], [], [], rfl, rfl, ⟨rfl, rfl⟩, ⟨[.string (⟨#[115, 116, 97, 108, 101]⟩ : ByteArray)], [.string (⟨#[107, 105, 110, 100]⟩ : ByteArray), .string (⟨#[112, 111, 111, 114]⟩ : ByteArray), .string (⟨#[102, 117, 108, 108]⟩ : ByteArray), .string (⟨#[98, 117, 115, 121]⟩ : ByteArray)], [], [], rfl, rfl, ⟨rfl, rfl⟩, ⟨[.string (⟨#[107, 105, 110, 100]⟩ : ByteArray)], [.string (⟨#[112, 111, 111, 114]⟩ : ByteArray), .string (⟨#[102, 117, 108, 108]⟩ : ByteArray), .string (⟨#[98, 117, 115, 121]⟩ : ByteArray)], [], [], rfl, rfl, ⟨rfl, rfl⟩, ⟨[.string (⟨#[112, 111, 111, 114]⟩ : ByteArray)], [.string (⟨#[102, 117, 108, 108]⟩ : ByteArray), .string (⟨#[98, 117, 115, 121]⟩ : ByteArray)], [], [], rfl, rfl, ⟨rfl, rfl⟩, ⟨[.string (⟨#[102, 117, 108, 108]⟩ : ByteArray)], [.string (⟨#[98, 117, 115, 121]⟩ : ByteArray)], [], [], rfl, rfl, ⟨rfl, rfl⟩, ⟨[.string (⟨#[98, 117, 115, 121]⟩ : ByteArray)], [], [], [], rfl, rfl, ⟨rfl, rfl⟩, rfl⟩⟩⟩⟩⟩⟩⟩⟩⟩) hS2 rfl ?_
  intro a4 c5 w6 hS3 hf
  refine LW.p rfl rfl ?_
  replace h := obind h
  obtain ⟨y7, hy7, h⟩ := h
  obtain ⟨b10, o11, hae, hp8, hq9⟩ := hS3.ownIdx (α := Str) (i := 0) rfl hy7
  subst hae
  refine LW.u (Pur.ix Try.underlying65 sz9 rfl rfl hp8 hq9) rfl ?_
  obtain ⟨F12, ho13, hS4⟩ := hS3.freeze (α := Str) 0 rfl
  obtain ⟨b14, o15, cs16, hae, hb19, _, _, hd17, hk18⟩ := ho13.rdF.idx hy7
  cases hae
  obtain rfl := hd17
  refine LW.l (Ldr.old w6 ag9 rfl (hk18 0 _ rfl)) (hS4.zC 0 rfl hb19) rfl ?_
  refine LW.p rfl rfl ?_
  refine LW.nil ?_
  show CW _ _ _ _ _ _
  refine CW.ret ?_
  cases h
  exact And.intro trivial ⟨_, Res.one (resOne.t rfl), rfl, hS4.pick [] rfl rfl⟩

theorem W_l_FnExactCodeWord {w0 : World} {N : Nat} {x0 : Int} {r : Bool} (h : F_l_FnExactCodeWord N x0 = some r) :
    Ret Try.prog 3 #[.int .i64 x0] w0 (fun v w => v = .bool r ∧ St w0 [] w []) := by
  unfold F_l_FnExactCodeWord at h
  refine Ret.of Try.func3 rfl rfl rfl ?_
  have hS1 := St.start w0
  refine CW.seq ?_
  refine CW.region ?_
  refine LW.p rfl rfl ?_
  refine LW.nil ?_
  show CW _ _ _ _ _ _
  refine CW.seq ?_
  refine CW.region ?_
  refine LW.p rfl rfl ?_
  replace h := obind h
  obtain ⟨y1, hy1, h⟩ := h
  have q := W_s_CodeWord (w0 := w0) hy1
  refine LW.call pl9 rfl rfl ?_
  refine Ret.mono q ?_
  rintro _ w2 ⟨rfl, hs⟩
  have hS2 := hS1.add hs
  refine LW.p rfl rfl ?_
  refine LW.nil ?_
  show CW _ _ _ _ _ _
  refine CW.seq ?_
  refine CW.region ?_
  refine LW.p rfl rfl ?_
  replace h := obind h
  obtain ⟨y3, hy3, h⟩ := h
  have q := W_i_CodeWord (w0 := w2) hy3
  refine LW.call pl10 rfl rfl ?_
  refine Ret.mono q ?_
  rintro _ w4 ⟨rfl, hs⟩
  have hS3 := hS2.add hs
  refine LW.p rfl rfl ?_
  refine LW.nil ?_
  show CW _ _ _ _ _ _
  refine CW.seq ?_
  refine CW.seq ?_
  refine CW.region ?_
  iterate 2 refine LW.p rfl rfl ?_
  refine LW.u (Pur.sne rfl rfl) rfl ?_
  refine LW.nil ?_
  show CW _ _ _ _ _ _
  refine CW.cond rfl (fun hc5 => ?_) (fun hc5 => ?_)
  · replace h := bcT h hc5
    refine CW.seq ?_
    refine CW.region ?_
    refine LW.p rfl rfl ?_
    refine LW.nil ?_
    show CW _ _ _ _ _ _
    refine CW.ret ?_
    cases h
    exact And.intro trivial ⟨_, Res.one (resOne.t rfl), rfl, hS3.pick [] rfl rfl⟩
  replace h := bcF h hc5
  refine CW.skip ?_
  show CW _ _ _ _ _ _
  refine CW.seq ?_
  refine CW.region ?_
  refine LW.p rfl rfl ?_
  refine LW.nil ?_
  show CW _ _ _ _ _ _
  refine CW.ret ?_
  cases h
  exact And.intro trivial ⟨_, Res.one (resOne.t rfl), rfl, hS3.pick [] rfl rfl⟩

end Go.Kx
