/- Each call returns what the plain function says. Printed by drive.py. -/
import Derived.Test.YtoboopmbcaglcaaFa
import Derived.Test.YtoboopmbcaglcaaPu
namespace Go.Kx
open Go Go.RowKit Go.Proofs
set_option maxRecDepth 10000
set_option maxHeartbeats 2000000
set_option linter.unusedVariables false
set_option linter.unusedSimpArgs false
theorem W_s_l1In {w0 : World} {N : Nat} {x0 : Int} {x1 : Int} {x2 : Int} {r : Bool} (h : F_s_l1In N x0 x1 x2 = some r) :
    Ret Try.prog 76 #[.int .i64 x0, .int .i64 x1, .int .i64 x2] w0 (fun v w => v = .bool r ∧ St w0 [] w []) := by
  unfold F_s_l1In at h
  refine Ret.of Try.func76 rfl rfl rfl ?_
  have hS1 := St.start w0
  refine CW.seq ?_
  refine CW.region ?_
  refine LW.p rfl rfl ?_
  refine LW.nil ?_
  show CW _ _ _ _ _ _
  refine CW.seq ?_
  refine CW.region ?_
  iterate 4 refine LW.p rfl rfl ?_
  rcases bcases (decide (x0 ≥ x1)) with hc1 | hc1
  · replace h := bcT h hc1
    refine LW.gY (want_of rfl rfl hc1) ?_
    refine LW.p rfl rfl ?_
    refine LW.gY (want_of rfl rfl hc1) ?_
    refine LW.p rfl rfl ?_
    refine LW.gY (want_of rfl rfl hc1) ?_
    refine LW.p rfl rfl ?_
    refine LW.u (Pur.pickT rfl hc1) rfl ?_
    refine LW.p rfl rfl ?_
    refine LW.nil ?_
    show CW _ _ _ _ _ _
    refine CW.ret ?_
    cases h
    exact And.intro trivial ⟨_, Res.one (resOne.t rfl), rfl, hS1.pick [] rfl rfl⟩
  replace h := bcF h hc1
  refine LW.gN (want_not rfl rfl hc1) rfl ?_
  refine LW.gN (want_not rfl rfl hc1) rfl ?_
  refine LW.gN (want_not rfl rfl hc1) rfl ?_
  refine LW.u (Pur.pickF rfl hc1) rfl ?_
  refine LW.p rfl rfl ?_
  refine LW.nil ?_
  show CW _ _ _ _ _ _
  refine CW.ret ?_
  cases h
  exact And.intro trivial ⟨_, Res.one (resOne.t rfl), rfl, hS1.pick [] rfl rfl⟩

theorem W_s_CodeWord {w0 : World} {N : Nat} {x0 : Int} {r : Str} (h : F_s_CodeWord N x0 = some r) :
    Ret Try.prog 16 #[.int .i64 x0] w0 (fun v w => v = .string r ∧ St w0 [] w []) := by
  unfold F_s_CodeWord at h
  refine Ret.of Try.func16 rfl rfl rfl ?_
  have hS1 := St.start w0
  refine CW.seq ?_
  refine CW.region ?_
  refine LW.p rfl rfl ?_
  refine LW.nil ?_
  show CW _ _ _ _ _ _
  refine CW.seq ?_
  refine CW.seq ?_
  refine CW.region ?_
  refine LW.p rfl rfl ?_
  replace h := obind h
  obtain ⟨y1, hy1, h⟩ := h
  have q := W_s_l1In (w0 := w0) hy1
  refine LW.call pl76 rfl rfl ?_
  refine Ret.mono q ?_
  rintro _ w2 ⟨rfl, hs⟩
  have hS2 := hS1.add hs
  refine LW.p rfl rfl ?_
  refine LW.nil ?_
  show CW _ _ _ _ _ _
  refine CW.cond rfl (fun hc3 => ?_) (fun hc3 => ?_)
  · replace h := bcT h hc3
    refine CW.seq ?_
    refine CW.region ?_
    refine LW.p rfl rfl ?_
    refine LW.nil ?_
    show CW _ _ _ _ _ _
    refine CW.ret ?_
    cases h
    exact And.intro trivial ⟨_, Res.one (resOne.t rfl), rfl, hS2.pick [] rfl rfl⟩
  replace h := bcF h hc3
  refine CW.skip ?_
  show CW _ _ _ _ _ _
  refine CW.seq ?_
  refine CW.region ?_
  refine LW.bsl (α := Str) (vs := [(0, .string (⟨#[111, 107]⟩ : ByteArray)), (1, .string (⟨#[100, 101, 97, 100]⟩ : ByteArray)), (2, .string (⟨#[98, 97, 100]⟩ : ByteArray)), (3, .string (⟨#[102, 108, 111, 119]⟩ : ByteArray)), (4, .string (⟨#[115, 116, 97, 108, 101]⟩ : ByteArray)), (5, .string (⟨#[107, 105, 110, 100]⟩ : ByteArray)), (6, .string (⟨#[112, 111, 111, 114]⟩ : ByteArray)), (7, .string (⟨#[102, 117, 108, 108]⟩ : ByteArray)), (8, .string (⟨#[98, 117, 115, 121]⟩ : ByteArray))]) (cs := #[.string (⟨#[111, 107]⟩ : ByteArray), .string (⟨#[100, 101, 97, 100]⟩ : ByteArray), .string (⟨#[98, 97, 100]⟩ : ByteArray), .string (⟨#[102, 108, 111, 119]⟩ : ByteArray), .string (⟨#[115, 116, 97, 108, 101]⟩ : ByteArray), .string (⟨#[107, 105, 110, 100]⟩ : ByteArray), .string (⟨#[112, 111, 111, 114]⟩ : ByteArray), .string (⟨#[102, 117, 108, 108]⟩ : ByteArray), .string (⟨#[98, 117, 115, 121]⟩ : ByteArray)]) (l := ([(⟨#[111, 107]⟩ : ByteArray), (⟨#[100, 101, 97, 100]⟩ : ByteArray), (⟨#[98, 97, 100]⟩ : ByteArray), (⟨#[102, 108, 111, 119]⟩ : ByteArray), (⟨#[115, 116, 97, 108, 101]⟩ : ByteArray), (⟨#[107, 105, 110, 100]⟩ : ByteArray), (⟨#[112, 111, 111, 114]⟩ : ByteArray), (⟨#[102, 117, 108, 108]⟩ : ByteArray), (⟨#[98, 117, 115, 121]⟩ : ByteArray)] : List Str)) rfl (by kernel_rfl) rfl rfl rfl (fun w => ⟨[.string (⟨#[111, 107]⟩ : ByteArray)], [.string (⟨#[100, 101, 97, 100]⟩ : ByteArray), .string (⟨#[98, 97, 100]⟩ : ByteArray), .string (⟨#[102, 108, 111, 119]⟩ : ByteArray), .string (⟨#[115, 116, 97, 108, 101]⟩ : ByteArray), .string (⟨#[107, 105, 110, 100]⟩ : ByteArray), .string (⟨#[112, 111, 111, 114]⟩ : ByteArray), .string (⟨#[102, 117, 108, 108]⟩ : ByteArray), .string (⟨#[98, 117, 115, 121]⟩ : ByteArray)], [], [], rfl, rfl, ⟨rfl, rfl⟩, ⟨[.string (⟨#[100, 101, 97, 100]⟩ : ByteArray)], [.string (⟨#[98, 97, 100]⟩ : ByteArray), .string (⟨#[102, 108, 111, 119]⟩ : ByteArray), .string (⟨#[115, 116, 97, 108, 101]⟩ : ByteArray), .string (⟨#[107, 105, 110, 100]⟩ : ByteArray), .string (⟨#[112, 111, 111, 114]⟩ : ByteArray), .string (⟨#[102, 117, 108, 108]⟩ : ByteArray), .string (⟨#[98, 117, 115, 121]⟩ : ByteArray)], [], [], rfl, rfl, ⟨rfl, rfl⟩, ⟨[.string (⟨#[98, 97, 100]⟩ : ByteArray)], [.string (⟨#[102, 108, 111, 119]⟩ : ByteArray), .string (⟨#[115, 116, 97, 108, 101]⟩ : ByteArray), .string (⟨#[107, 105, 110, 100]⟩ : ByteArray), .string (⟨#[112, 111, 111, 114]⟩ : ByteArray), .string (⟨#[102, 117, 108, 108]⟩ : ByteArray), .string (⟨#[98, 117, 115, 121]⟩ : ByteArray)], [], [], rfl, rfl, ⟨rfl, rfl⟩, ⟨[.string (⟨#[102, 108, 111, 119]⟩ : ByteArray)], [.string (⟨#[115, 116, 97, 108, 101]⟩ : ByteArray), .string (⟨#[107, 105, 110, 100]⟩ : ByteArray), .string (⟨#[112, 111, 111, 114]⟩ : ByteArray), .string (⟨#[102, 117, 108, 108]⟩ : ByteArray), .string (⟨#[98, 117, 115, 121]⟩ : ByteArray)], [], [], rfl, rfl, ⟨rfl, rfl⟩, ⟨[.string (⟨#[115, 116, 97, 108, 101]⟩ : ByteArray)], [.string (⟨#[107, 105, 110, 100]⟩ : ByteArray), .string (⟨#[112, 111, 111, 114]⟩ : ByteArray), .string (⟨#[102, 117, 108, 108]⟩ : ByteArray), .string (⟨#[98, 117, 115, 121]⟩ : ByteArray)], [], [], rfl, rfl, ⟨rfl, rfl⟩, ⟨[.string (⟨#[107, 105, 110, 100]⟩ : ByteArray)], [.string (⟨#[112, 111, 111, 114]⟩ : ByteArray), .string (⟨#[102, 117, 108, 108]⟩ : ByteArray), .string (⟨#[98, 117, 115, 121]⟩ : ByteArray)], [], [], rfl, rfl, ⟨rfl, rfl⟩, ⟨[.string (⟨#[112, 111, 111, 114]⟩ : ByteArray)], [.string (⟨#[102, 117, 108, 108]⟩ : ByteArray), .string (⟨#[98, 117, 115, 121]⟩ : ByteArray)], [], [], rfl, rfl, ⟨rfl, rfl⟩, ⟨[.string (⟨#[102, 117, 108, 108]⟩ : ByteArray)], [.string (⟨#[98, 117, 115, 121]⟩ : ByteArray)], [], [], rfl, rfl, ⟨rfl, rfl⟩, ⟨[.string (⟨#[98, 117, 115, 121]⟩ : ByteArray)], [], [], [], rfl, rfl, ⟨rfl, rfl⟩, rfl⟩⟩⟩⟩⟩⟩⟩⟩⟩) hS2 rfl ?_
  intro a4 c5 w6 hS3 hf
  refine LW.p rfl rfl ?_
  replace h := obind h
  obtain ⟨y7, hy7, h⟩ := h
  obtain ⟨b10, hae, hp8, hq9⟩ := hS3.ownIdx (α := Str) (i := 0) rfl hy7
  subst hae
  refine LW.u (Pur.ix Try.underlying123 sz9 rfl rfl hp8 hq9) rfl ?_
  obtain ⟨F12, ho13, hS4⟩ := hS3.freeze (α := Str) 0 rfl
  obtain ⟨b14, o15, cs16, hae, hb19, _, _, hd17, hk18⟩ := ho13.rdF.idx hy7
  cases hae
  obtain rfl := hd17
  refine LW.l (Ldr.old w6 ag9 rfl (hk18 0 _ rfl)) (hS4.zC 0 rfl hb19) rfl ?_
  refine LW.p rfl rfl ?_
  refine LW.nil ?_
  show CW _ _ _ _ _ _
  refine CW.ret ?_
  cases h
  exact And.intro trivial ⟨_, Res.one (resOne.t rfl), rfl, hS4.pick [] rfl rfl⟩

theorem W_i_within {w0 : World} {N : Nat} {x0 : Int} {x1 : Int} {x2 : Int} {r : Bool} (h : F_i_within N x0 x1 x2 = some r) :
    Ret Try.prog 77 #[.int .i64 x0, .int .i64 x1, .int .i64 x2] w0 (fun v w => v = .bool r ∧ St w0 [] w []) := by
  unfold F_i_within at h
  refine Ret.of Try.func77 rfl rfl rfl ?_
  have hS1 := St.start w0
  refine CW.seq ?_
  refine CW.region ?_
  refine LW.p rfl rfl ?_
  refine LW.nil ?_
  show CW _ _ _ _ _ _
  refine CW.seq ?_
  refine CW.region ?_
  iterate 4 refine LW.p rfl rfl ?_
  rcases bcases (decide (x0 ≥ x1)) with hc1 | hc1
  · replace h := bcT h hc1
    refine LW.gY (want_of rfl rfl hc1) ?_
    refine LW.p rfl rfl ?_
    refine LW.gY (want_of rfl rfl hc1) ?_
    refine LW.p rfl rfl ?_
    refine LW.gY (want_of rfl rfl hc1) ?_
    refine LW.p rfl rfl ?_
    refine LW.u (Pur.pickT rfl hc1) rfl ?_
    refine LW.p rfl rfl ?_
    refine LW.nil ?_
    show CW _ _ _ _ _ _
    refine CW.ret ?_
    cases h
    exact And.intro trivial ⟨_, Res.one (resOne.t rfl), rfl, hS1.pick [] rfl rfl⟩
  replace h := bcF h hc1
  refine LW.gN (want_not rfl rfl hc1) rfl ?_
  refine LW.gN (want_not rfl rfl hc1) rfl ?_
  refine LW.gN (want_not rfl rfl hc1) rfl ?_
  refine LW.u (Pur.pickF rfl hc1) rfl ?_
  refine LW.p rfl rfl ?_
  refine LW.nil ?_
  show CW _ _ _ _ _ _
  refine CW.ret ?_
  cases h
  exact And.intro trivial ⟨_, Res.one (resOne.t rfl), rfl, hS1.pick [] rfl rfl⟩

theorem W_i_CodeWord {w0 : World} {N : Nat} {x0 : Int} {r : Str} (h : F_i_CodeWord N x0 = some r) :
    Ret Try.prog 17 #[.int .i64 x0] w0 (fun v w => v = .string r ∧ St w0 [] w []) := by
  unfold F_i_CodeWord at h
  refine Ret.of Try.func17 rfl rfl rfl ?_
  have hS1 := St.start w0
  refine CW.seq ?_
  refine CW.region ?_
  refine LW.p rfl rfl ?_
  refine LW.nil ?_
  show CW _ _ _ _ _ _
  refine CW.seq ?_
  refine CW.seq ?_
  refine CW.region ?_
  refine LW.p rfl rfl ?_
  replace h := obind h
  obtain ⟨y1, hy1, h⟩ := h
  have q := W_i_within (w0 := w0) hy1
  refine LW.call pl77 rfl rfl ?_
  refine Ret.mono q ?_
  rintro _ w2 ⟨rfl, hs⟩
  have hS2 := hS1.add hs
  refine LW.p rfl rfl ?_
  refine LW.nil ?_
  show CW _ _ _ _ _ _
  refine CW.cond rfl (fun hc3 => ?_) (fun hc3 => ?_)
  · replace h := bcT h hc3
    refine CW.seq ?_
    refine CW.region ?_
    refine LW.p rfl rfl ?_
    refine LW.nil ?_
    show CW _ _ _ _ _ _
    refine CW.ret ?_
    cases h
    exact And.intro trivial ⟨_, Res.one (resOne.t rfl), rfl, hS2.pick [] rfl rfl⟩
  replace h := bcF h hc3
  refine CW.skip ?_
  show CW _ _ _ _ _ _
  refine CW.seq ?_
  refine CW.region ?_
  refine LW.bsl (α := Str) (vs := [(0, .string (⟨#[111, 107]⟩ : ByteArray)), (1, .string (⟨#[100, 101, 97, 100]⟩ : ByteArray)), (2, .string (⟨#[98, 97, 100]⟩ : ByteArray)), (3, .string (⟨#[102, 108, 111, 119]⟩ : ByteArray)), (4, .string (⟨#[115, 116, 97, 108, 101]⟩ : ByteArray)), (5, .string (⟨#[107, 105, 110, 100]⟩ : ByteArray)), (6, .string (⟨#[112, 111, 111, 114]⟩ : ByteArray)), (7, .string (⟨#[102, 117, 108, 108]⟩ : ByteArray)), (8, .string (⟨#[98, 117, 115, 121]⟩ : ByteArray))]) (cs := #[.string (⟨#[111, 107]⟩ : ByteArray), .string (⟨#[100, 101, 97, 100]⟩ : ByteArray), .string (⟨#[98, 97, 100]⟩ : ByteArray), .string (⟨#[102, 108, 111, 119]⟩ : ByteArray), .string (⟨#[115, 116, 97, 108, 101]⟩ : ByteArray), .string (⟨#[107, 105, 110, 100]⟩ : ByteArray), .string (⟨#[112, 111, 111, 114]⟩ : ByteArray), .string (⟨#[102, 117, 108, 108]⟩ : ByteArray), .string (⟨#[98, 117, 115, 121]⟩ : ByteArray)]) (l := ([(⟨#[111, 107]⟩ : ByteArray), (⟨#[100, 101, 97, 100]⟩ : ByteArray), (⟨#[98, 97, 100]⟩ : ByteArray), (⟨#[102, 108, 111, 119]⟩ : ByteArray), (⟨#[115, 116, 97, 108, 101]⟩ : ByteArray), (⟨#[107, 105, 110, 100]⟩ : ByteArray), (⟨#[112, 111, 111, 114]⟩ : ByteArray), (⟨#[102, 117, 108, 108]⟩ : ByteArray), (⟨#[98, 117, 115, 121]⟩ : ByteArray)] : List Str)) rfl (by kernel_rfl) rfl rfl rfl (fun w => ⟨[.string (⟨#[111, 107]⟩ : ByteArray)], [.string (⟨#[100, 101, 97, 100]⟩ : ByteArray), .string (⟨#[98, 97, 100]⟩ : ByteArray), .string (⟨#[102, 108, 111, 119]⟩ : ByteArray), .string (⟨#[115, 116, 97, 108, 101]⟩ : ByteArray), .string (⟨#[107, 105, 110, 100]⟩ : ByteArray), .string (⟨#[112, 111, 111, 114]⟩ : ByteArray), .string (⟨#[102, 117, 108, 108]⟩ : ByteArray), .string (⟨#[98, 117, 115, 121]⟩ : ByteArray)], [], [], rfl, rfl, ⟨rfl, rfl⟩, ⟨[.string (⟨#[100, 101, 97, 100]⟩ : ByteArray)], [.string (⟨#[98, 97, 100]⟩ : ByteArray), .string (⟨#[102, 108, 111, 119]⟩ : ByteArray), .string (⟨#[115, 116, 97, 108, 101]⟩ : ByteArray), .string (⟨#[107, 105, 110, 100]⟩ : ByteArray), .string (⟨#[112, 111, 111, 114]⟩ : ByteArray), .string (⟨#[102, 117, 108, 108]⟩ : ByteArray), .string (⟨#[98, 117, 115, 121]⟩ : ByteArray)], [], [], rfl, rfl, ⟨rfl, rfl⟩, ⟨[.string (⟨#[98, 97, 100]⟩ : ByteArray)], [.string (⟨#[102, 108, 111, 119]⟩ : ByteArray), .string (⟨#[115, 116, 97, 108, 101]⟩ : ByteArray), .string (⟨#[107, 105, 110, 100]⟩ : ByteArray), .string (⟨#[112, 111, 111, 114]⟩ : ByteArray), .string (⟨#[102, 117, 108, 108]⟩ : ByteArray), .string (⟨#[98, 117, 115, 121]⟩ : ByteArray)], [], [], rfl, rfl, ⟨rfl, rfl⟩, ⟨[.string (⟨#[102, 108, 111, 119]⟩ : ByteArray)], [.string (⟨#[115, 116, 97, 108, 101]⟩ : ByteArray), .string (⟨#[107, 105, 110, 100]⟩ : ByteArray), .string (⟨#[112, 111, 111, 114]⟩ : ByteArray), .string (⟨#[102, 117, 108, 108]⟩ : ByteArray), .string (⟨#[98, 117, 115, 121]⟩ : ByteArray)], [], [], rfl, rfl, ⟨rfl, rfl⟩, ⟨[.string (⟨#[115, 116, 97, 108, 101]⟩ : ByteArray)], [.string (⟨#[107, 105, 110, 100]⟩ : ByteArray), .string (⟨#[112, 111, 111, 114]⟩ : ByteArray), .string (⟨#[102, 117, 108, 108]⟩ : ByteArray), .string (⟨#[98, 117, 115, 121]⟩ : ByteArray)], [], [], rfl, rfl, ⟨rfl, rfl⟩, ⟨[.string (⟨#[107, 105, 110, 100]⟩ : ByteArray)], [.string (⟨#[112, 111, 111, 114]⟩ : ByteArray), .string (⟨#[102, 117, 108, 108]⟩ : ByteArray), .string (⟨#[98, 117, 115, 121]⟩ : ByteArray)], [], [], rfl, rfl, ⟨rfl, rfl⟩, ⟨[.string (⟨#[112, 111, 111, 114]⟩ : ByteArray)], [.string (⟨#[102, 117, 108, 108]⟩ : ByteArray), .string (⟨#[98, 117, 115, 121]⟩ : ByteArray)], [], [], rfl, rfl, ⟨rfl, rfl⟩, ⟨[.string (⟨#[102, 117, 108, 108]⟩ : ByteArray)], [.string (⟨#[98, 117, 115, 121]⟩ : ByteArray)], [], [], rfl, rfl, ⟨rfl, rfl⟩, ⟨[.string (⟨#[98, 117, 115, 121]⟩ : ByteArray)], [], [], [], rfl, rfl, ⟨rfl, rfl⟩, rfl⟩⟩⟩⟩⟩⟩⟩⟩⟩) hS2 rfl ?_
  intro a4 c5 w6 hS3 hf
  refine LW.p rfl rfl ?_
  replace h := obind h
  obtain ⟨y7, hy7, h⟩ := h
  obtain ⟨b10, hae, hp8, hq9⟩ := hS3.ownIdx (α := Str) (i := 0) rfl hy7
  subst hae
  refine LW.u (Pur.ix Try.underlying123 sz9 rfl rfl hp8 hq9) rfl ?_
  obtain ⟨F12, ho13, hS4⟩ := hS3.freeze (α := Str) 0 rfl
  obtain ⟨b14, o15, cs16, hae, hb19, _, _, hd17, hk18⟩ := ho13.rdF.idx hy7
  cases hae
  obtain rfl := hd17
  refine LW.l (Ldr.old w6 ag9 rfl (hk18 0 _ rfl)) (hS4.zC 0 rfl hb19) rfl ?_
  refine LW.p rfl rfl ?_
  refine LW.nil ?_
  show CW _ _ _ _ _ _
  refine CW.ret ?_
  cases h
  exact And.intro trivial ⟨_, Res.one (resOne.t rfl), rfl, hS4.pick [] rfl rfl⟩

theorem W_l_FnExactCodeWord {w0 : World} {N : Nat} {x0 : Int} {r : Bool} (h : F_l_FnExactCodeWord N x0 = some r) :
    Ret Try.prog 3 #[.int .i64 x0] w0 (fun v w => v = .bool r ∧ St w0 [] w []) := by
  unfold F_l_FnExactCodeWord at h
  refine Ret.of Try.func3 rfl rfl rfl ?_
  have hS1 := St.start w0
  refine CW.seq ?_
  refine CW.region ?_
  refine LW.p rfl rfl ?_
  refine LW.nil ?_
  show CW _ _ _ _ _ _
  refine CW.seq ?_
  refine CW.region ?_
  refine LW.p rfl rfl ?_
  replace h := obind h
  obtain ⟨y1, hy1, h⟩ := h
  have q := W_s_CodeWord (w0 := w0) hy1
  refine LW.call pl16 rfl rfl ?_
  refine Ret.mono q ?_
  rintro _ w2 ⟨rfl, hs⟩
  have hS2 := hS1.add hs
  refine LW.p rfl rfl ?_
  refine LW.nil ?_
  show CW _ _ _ _ _ _
  refine CW.seq ?_
  refine CW.region ?_
  refine LW.p rfl rfl ?_
  replace h := obind h
  obtain ⟨y3, hy3, h⟩ := h
  have q := W_i_CodeWord (w0 := w2) hy3
  refine LW.call pl17 rfl rfl ?_
  refine Ret.mono q ?_
  rintro _ w4 ⟨rfl, hs⟩
  have hS3 := hS2.add hs
  refine LW.p rfl rfl ?_
  refine LW.nil ?_
  show CW _ _ _ _ _ _
  refine CW.seq ?_
  refine CW.seq ?_
  refine CW.region ?_
  iterate 2 refine LW.p rfl rfl ?_
  refine LW.u (Pur.sne rfl rfl) rfl ?_
  refine LW.nil ?_
  show CW _ _ _ _ _ _
  refine CW.cond rfl (fun hc5 => ?_) (fun hc5 => ?_)
  · replace h := bcT h hc5
    refine CW.seq ?_
    refine CW.region ?_
    refine LW.p rfl rfl ?_
    refine LW.nil ?_
    show CW _ _ _ _ _ _
    refine CW.ret ?_
    cases h
    exact And.intro trivial ⟨_, Res.one (resOne.t rfl), rfl, hS3.pick [] rfl rfl⟩
  replace h := bcF h hc5
  refine CW.skip ?_
  show CW _ _ _ _ _ _
  refine CW.seq ?_
  refine CW.region ?_
  refine LW.p rfl rfl ?_
  refine LW.nil ?_
  show CW _ _ _ _ _ _
  refine CW.ret ?_
  cases h
  exact And.intro trivial ⟨_, Res.one (resOne.t rfl), rfl, hS3.pick [] rfl rfl⟩

theorem W_s_l5In {w0 : World} {N : Nat} {x0 : Int} {r : Bool} (h : F_s_l5In N x0 = some r) :
    Ret Try.prog 78 #[.int .i64 x0] w0 (fun v w => v = .bool r ∧ St w0 [] w []) := by
  unfold F_s_l5In at h
  refine Ret.of Try.func78 rfl rfl rfl ?_
  have hS1 := St.start w0
  refine CW.seq ?_
  refine CW.region ?_
  refine LW.p rfl rfl ?_
  refine LW.nil ?_
  show CW _ _ _ _ _ _
  refine CW.seq ?_
  refine CW.region ?_
  refine LW.p rfl rfl ?_
  replace h := obind h
  obtain ⟨y1, hy1, h⟩ := h
  have q := W_s_l1In (w0 := w0) hy1
  refine LW.call pl76 rfl rfl ?_
  refine Ret.mono q ?_
  rintro _ w2 ⟨rfl, hs⟩
  have hS2 := hS1.add hs
  refine LW.p rfl rfl ?_
  refine LW.nil ?_
  show CW _ _ _ _ _ _
  refine CW.ret ?_
  cases h
  exact And.intro trivial ⟨_, Res.one (resOne.t rfl), rfl, hS2.pick [] rfl rfl⟩

theorem W_s_QuotaNew {w0 : World} {N : Nat} {x0 : Int} {r : (List DNode) × Bool} (h : F_s_QuotaNew N x0 = some r) :
    Ret Try.prog 18 #[.int .i64 x0] w0 (fun v w => ∃ ar0 cr0, v = .tuple #[.slice ar0 r.1.length cr0, .bool r.2] ∧ St w0 [] w [sl ar0 cr0 r.1]) := by
  unfold F_s_QuotaNew at h
  refine Ret.of Try.func18 rfl rfl rfl ?_
  have hS1 := St.start w0
  refine CW.seq ?_
  refine CW.region ?_
  iterate 2 refine LW.p rfl rfl ?_
  refine LW.nil ?_
  show CW _ _ _ _ _ _
  refine CW.seq ?_
  refine CW.seq ?_
  refine CW.region ?_
  refine LW.p rfl rfl ?_
  replace h := obind h
  obtain ⟨y1, hy1, h⟩ := h
  have q := W_s_l5In (w0 := w0) hy1
  refine LW.call pl78 rfl rfl ?_
  refine Ret.mono q ?_
  rintro _ w2 ⟨rfl, hs⟩
  have hS2 := hS1.add hs
  refine LW.p rfl rfl ?_
  refine LW.nil ?_
  show CW _ _ _ _ _ _
  refine CW.cond rfl (fun hc3 => ?_) (fun hc3 => ?_)
  · replace h := bcT h hc3
    refine CW.seq ?_
    refine CW.region ?_
    refine LW.bsl (α := DNode) (vs := []) (cs := #[]) (l := ([] : List DNode)) rfl (by kernel_rfl) rfl rfl rfl (fun w => rfl) hS2 rfl ?_
    intro a4 c5 w6 hS3 hf
    iterate 2 refine LW.p rfl rfl ?_
    refine LW.nil ?_
    show CW _ _ _ _ _ _
    refine CW.ret ?_
    cases h
    exact And.intro trivial ⟨_, Res.two (resOne.t rfl) (resOne.t rfl), a4, c5, rfl, hS3.pick [0] rfl rfl⟩
  replace h := bcF h hc3
  refine CW.skip ?_
  show CW _ _ _ _ _ _
  refine CW.seq ?_
  refine CW.region ?_
  refine LW.p rfl rfl ?_
  refine LW.u (Pur.build (vs := [(0, .int .i64 (-1)), (1, .int .i64 x0)]) (cs := #[.int .i64 (-1), .int .i64 x0, .int .i64 0]) rfl (by kernel_rfl)) rfl ?_
  refine LW.bsl (α := DNode) (vs := [(0, .agg #[.int .i64 (-1), .int .i64 x0, .int .i64 0])]) (cs := #[.int .i64 (-1), .int .i64 x0, .int .i64 0]) (l := ([DNode.mk (-1) x0 0] : List DNode)) rfl (by kernel_rfl) rfl rfl rfl (fun w => ⟨[.int .i64 (-1), .int .i64 x0, .int .i64 0], [], [], [], rfl, rfl, ⟨rfl, rfl⟩, rfl⟩) hS2 rfl ?_
  intro a7 c8 w9 hS4 hf
  iterate 2 refine LW.p rfl rfl ?_
  refine LW.nil ?_
  show CW _ _ _ _ _ _
  refine CW.ret ?_
  cases h
  exact And.intro trivial ⟨_, Res.two (resOne.t rfl) (resOne.t rfl), a7, c8, rfl, hS4.pick [0] rfl rfl⟩

theorem W_i_isAmount {w0 : World} {N : Nat} {x0 : Int} {r : Bool} (h : F_i_isAmount N x0 = some r) :
    Ret Try.prog 79 #[.int .i64 x0] w0 (fun v w => v = .bool r ∧ St w0 [] w []) := by
  unfold F_i_isAmount at h
  refine Ret.of Try.func79 rfl rfl rfl ?_
  have hS1 := St.start w0
  refine CW.seq ?_
  refine CW.region ?_
  refine LW.p rfl rfl ?_
  refine LW.nil ?_
  show CW _ _ _ _ _ _
  refine CW.seq ?_
  refine CW.region ?_
  refine LW.p rfl rfl ?_
  replace h := obind h
  obtain ⟨y1, hy1, h⟩ := h
  have q := W_i_within (w0 := w0) hy1
  refine LW.call pl77 rfl rfl ?_
  refine Ret.mono q ?_
  rintro _ w2 ⟨rfl, hs⟩
  have hS2 := hS1.add hs
  refine LW.p rfl rfl ?_
  refine LW.nil ?_
  show CW _ _ _ _ _ _
  refine CW.ret ?_
  cases h
  exact And.intro trivial ⟨_, Res.one (resOne.t rfl), rfl, hS2.pick [] rfl rfl⟩

theorem W_i_QuotaNew {w0 : World} {N : Nat} {x0 : Int} {r : (List DNode) × Bool} (h : F_i_QuotaNew N x0 = some r) :
    Ret Try.prog 19 #[.int .i64 x0] w0 (fun v w => ∃ ar0 cr0, v = .tuple #[.slice ar0 r.1.length cr0, .bool r.2] ∧ St w0 [] w [sl ar0 cr0 r.1]) := by
  unfold F_i_QuotaNew at h
  refine Ret.of Try.func19 rfl rfl rfl ?_
  have hS1 := St.start w0
  refine CW.seq ?_
  refine CW.region ?_
  iterate 2 refine LW.p rfl rfl ?_
  refine LW.nil ?_
  show CW _ _ _ _ _ _
  refine CW.seq ?_
  refine CW.seq ?_
  refine CW.region ?_
  refine LW.p rfl rfl ?_
  replace h := obind h
  obtain ⟨y1, hy1, h⟩ := h
  have q := W_i_isAmount (w0 := w0) hy1
  refine LW.call pl79 rfl rfl ?_
  refine Ret.mono q ?_
  rintro _ w2 ⟨rfl, hs⟩
  have hS2 := hS1.add hs
  refine LW.p rfl rfl ?_
  refine LW.nil ?_
  show CW _ _ _ _ _ _
  refine CW.cond rfl (fun hc3 => ?_) (fun hc3 => ?_)
  · replace h := bcT h hc3
    refine CW.seq ?_
    refine CW.region ?_
    iterate 2 refine LW.p rfl rfl ?_
    refine LW.nil ?_
    show CW _ _ _ _ _ _
    refine CW.ret ?_
    cases h
    have hS3 := hS2.nil (α := DNode)
    exact And.intro trivial ⟨_, Res.two (resOne.t rfl) (resOne.t rfl), none, 0, rfl, hS3.pick [0] rfl rfl⟩
  replace h := bcF h hc3
  refine CW.skip ?_
  show CW _ _ _ _ _ _
  refine CW.seq ?_
  refine CW.region ?_
  refine LW.p rfl rfl ?_
  refine LW.u (Pur.build (vs := [(0, .int .i64 (-1)), (1, .int .i64 x0)]) (cs := #[.int .i64 (-1), .int .i64 x0, .int .i64 0]) rfl (by kernel_rfl)) rfl ?_
  refine LW.bsl (α := DNode) (vs := [(0, .agg #[.int .i64 (-1), .int .i64 x0, .int .i64 0])]) (cs := #[.int .i64 (-1), .int .i64 x0, .int .i64 0]) (l := ([DNode.mk (-1) x0 0] : List DNode)) rfl (by kernel_rfl) rfl rfl rfl (fun w => ⟨[.int .i64 (-1), .int .i64 x0, .int .i64 0], [], [], [], rfl, rfl, ⟨rfl, rfl⟩, rfl⟩) hS2 rfl ?_
  intro a4 c5 w6 hS4 hf
  iterate 2 refine LW.p rfl rfl ?_
  refine LW.nil ?_
  show CW _ _ _ _ _ _
  refine CW.ret ?_
  cases h
  exact And.intro trivial ⟨_, Res.two (resOne.t rfl) (resOne.t rfl), a4, c5, rfl, hS4.pick [0] rfl rfl⟩

theorem W_l_eqNode {w0 : World} {N : Nat} {x0 : DNode} {x1 : DNode} {r : Bool} (h : F_l_eqNode N x0 x1 = some r) :
    Ret Try.prog 80 #[.agg #[.int .i64 x0.parent, .int .i64 x0.limit, .int .i64 x0.used], .agg #[.int .i64 x1.parent, .int .i64 x1.limit, .int .i64 x1.used]] w0 (fun v w => v = .bool r ∧ St w0 [] w []) := by
  unfold F_l_eqNode at h
  refine Ret.of Try.func80 rfl rfl rfl ?_
  have hS1 := St.start w0
  refine CW.seq ?_
  refine CW.region ?_
  refine LW.box (cs := [.int .i64 x0.parent, .int .i64 x0.limit, .int .i64 x0.used]) rfl hS1 rfl ?_
  intro g1 w2 hS2 hf
  refine LW.box (cs := [.int .i64 x1.parent, .int .i64 x1.limit, .int .i64 x1.used]) rfl hS2 rfl ?_
  intro g3 w4 hS3 hf
  refine LW.p rfl rfl ?_
  refine LW.nil ?_
  show CW _ _ _ _ _ _
  refine CW.seq ?_
  refine CW.seq ?_
  refine CW.region ?_
  refine LW.u (Pur.fa fo125_0 rfl) rfl ?_
  refine LW.ldb hS3 1 rfl ag3 rfl rfl rfl ?_
  refine LW.u (Pur.fa fo125_0 rfl) rfl ?_
  refine LW.ldb hS3 0 rfl ag3 rfl rfl rfl ?_
  refine LW.p rfl rfl ?_
  refine LW.nil ?_
  show CW _ _ _ _ _ _
  refine CW.cond rfl (fun hc5 => ?_) (fun hc5 => ?_)
  · replace h := bcT h hc5
    refine CW.seq ?_
    refine CW.region ?_
    refine LW.p rfl rfl ?_
    refine LW.nil ?_
    show CW _ _ _ _ _ _
    refine CW.ret ?_
    cases h
    exact And.intro trivial ⟨_, Res.one (resOne.t rfl), rfl, hS3.pick [] rfl rfl⟩
  replace h := bcF h hc5
  refine CW.skip ?_
  show CW _ _ _ _ _ _
  refine CW.seq ?_
  refine CW.seq ?_
  refine CW.region ?_
  refine LW.u (Pur.fa fo125_1 rfl) rfl ?_
  refine LW.ldb hS3 1 rfl ag3 rfl rfl rfl ?_
  refine LW.u (Pur.fa fo125_1 rfl) rfl ?_
  refine LW.ldb hS3 0 rfl ag3 rfl rfl rfl ?_
  refine LW.p rfl rfl ?_
  refine LW.nil ?_
  show CW _ _ _ _ _ _
  refine CW.fresh (l := [(2, .pointer (some ⟨g1, 0, none⟩)), (3, .pointer (some ⟨g3, 0, none⟩)), (14, .bool (x0.limit != x1.limit))]) ⟨rfl, rfl, rfl, trivial⟩ (fun e => ?_)
  refine CW.cond rfl (fun hc6 => ?_) (fun hc6 => ?_)
  · replace h := bcT h hc6
    refine CW.seq ?_
    refine CW.region ?_
    refine LW.p rfl rfl ?_
    refine LW.nil ?_
    show CW _ _ _ _ _ _
    refine CW.ret ?_
    cases h
    exact And.intro trivial ⟨_, Res.one (resOne.t rfl), rfl, hS3.pick [] rfl rfl⟩
  replace h := bcF h hc6
  refine CW.skip ?_
  show CW _ _ _ _ _ _
  refine CW.seq ?_
  refine CW.seq ?_
  refine CW.region ?_
  refine LW.u (Pur.fa fo125_2 rfl) rfl ?_
  refine LW.ldb hS3 1 rfl ag3 rfl rfl rfl ?_
  refine LW.u (Pur.fa fo125_2 rfl) rfl ?_
  refine LW.ldb hS3 0 rfl ag3 rfl rfl rfl ?_
  refine LW.p rfl rfl ?_
  refine LW.nil ?_
  show CW _ _ _ _ _ _
  refine CW.cond rfl (fun hc7 => ?_) (fun hc7 => ?_)
  · replace h := bcT h hc7
    refine CW.seq ?_
    refine CW.region ?_
    refine LW.p rfl rfl ?_
    refine LW.nil ?_
    show CW _ _ _ _ _ _
    refine CW.ret ?_
    cases h
    exact And.intro trivial ⟨_, Res.one (resOne.t rfl), rfl, hS3.pick [] rfl rfl⟩
  replace h := bcF h hc7
  refine CW.skip ?_
  show CW _ _ _ _ _ _
  refine CW.seq ?_
  refine CW.region ?_
  refine LW.p rfl rfl ?_
  refine LW.nil ?_
  show CW _ _ _ _ _ _
  refine CW.ret ?_
  cases h
  exact And.intro trivial ⟨_, Res.one (resOne.t rfl), rfl, hS3.pick [] rfl rfl⟩

theorem W_l_eqNodeS {w0 : World} {N : Nat} {x0 : List DNode} {x1 : List DNode} {r : Bool} (h : F_l_eqNodeS N x0 x1 = some r) {a0 : Option Addr} {n0 c0 : Nat} (hn0 : n0 = x0.length) (hr0 : rdS (Bor w0 []) w0 a0 c0 x0) {a1 : Option Addr} {n1 c1 : Nat} (hn1 : n1 = x1.length) (hr1 : rdS (Bor w0 []) w0 a1 c1 x1) :
    Ret Try.prog 20 #[.slice a0 n0 c0, .slice a1 n1 c1] w0 (fun v w => v = .bool r ∧ St w0 [] w []) := by
  subst hn0
  subst hn1
  unfold F_l_eqNodeS at h
  refine Ret.of Try.func20 rfl rfl rfl ?_
  have hS1 := St.start w0
  refine CW.seq ?_
  refine CW.region ?_
  refine LW.p rfl rfl ?_
  refine LW.nil ?_
  show CW _ _ _ _ _ _
  refine CW.seq ?_
  refine CW.seq ?_
  refine CW.region ?_
  refine LW.p rfl rfl ?_
  refine LW.u (Pur.len Try.underlying24 rfl) rfl ?_
  refine LW.p rfl rfl ?_
  refine LW.u (Pur.len Try.underlying24 rfl) rfl ?_
  refine LW.p rfl rfl ?_
  refine LW.nil ?_
  show CW _ _ _ _ _ _
  refine CW.cond rfl (fun hc1 => ?_) (fun hc1 => ?_)
  · replace h := bcT h hc1
    refine CW.seq ?_
    refine CW.region ?_
    refine LW.p rfl rfl ?_
    refine LW.nil ?_
    show CW _ _ _ _ _ _
    refine CW.ret ?_
    cases h
    exact And.intro trivial ⟨_, Res.one (resOne.t rfl), rfl, hS1.pick [] rfl rfl⟩
  replace h := bcF h hc1
  refine CW.skip ?_
  show CW _ _ _ _ _ _
  refine CW.seq ?_
  refine CW.seq ?_
  refine CW.region ?_
  refine LW.p rfl rfl ?_
  refine LW.nil ?_
  show CW _ _ _ _ _ _
  refine CW.block ?_
  obtain ⟨o25, ho25, h26⟩ := obind h
  refine CW.mono (CW.iter (σ := Int) (ρ := Int ⊕ Bool) (fun s2 e w => En e [(0, .slice a0 x0.length c0), (1, .slice a1 x1.length c1), (5, .int .i64 s2)] ∧ St w0 [] w []) (fun o x e w => match o with | .inl s2 => x = .exit 0 ∧ En e [] ∧ St w0 [] w [] | .inr r => x = .ret ∧ ∃ u, u = r ∧ ∃ v, Res Try.prog Try.f20.results e w v ∧ v = .bool u ∧ St w0 [] w []) ?_ N _ _ _ _ ⟨⟨rfl, rfl, rfl, trivial⟩, hS1.pick [] rfl rfl⟩ ho25) ?_
  · intro s2 e w o hM h
    obtain ⟨hE, hS2⟩ := hM
    obtain ⟨e, rfl⟩ := hE.out
    refine CW.seq ?_
    refine CW.seq ?_
    refine CW.region ?_
    iterate 2 refine LW.p rfl rfl ?_
    refine LW.u (Pur.len Try.underlying24 rfl) rfl ?_
    refine LW.p rfl rfl ?_
    refine LW.nil ?_
    show CW _ _ _ _ _ _
    refine CW.cond rfl (fun hc3 => ?_) (fun hc3 => ?_)
    · replace h := bcT h hc3
      refine CW.skip ?_
      show CW _ _ _ _ _ _
      refine CW.seq ?_
      refine CW.block ?_
      refine CW.seq ?_
      refine CW.draw (by kernel_rfl) ?_
      have hS3 := hS2.drew
      refine AW.u (i := 0) rfl (by kernel_rfl) rfl rfl (Pur.p rfl) ?_
      refine AW.u (i := 1) rfl (by kernel_rfl) rfl rfl (Pur.p rfl) ?_
      replace h := obind h
      obtain ⟨y4, hy4, h⟩ := h
      obtain ⟨b7, o8, cs9, hae, hb12, hp5, hq6, hd10, hk11⟩ := hr0.idx hy4
      subst hae
      obtain rfl := hd10
      refine AW.u (i := 2) rfl (by kernel_rfl) rfl rfl (Pur.ix Try.underlying24 sz125 rfl rfl hp5 hq6) ?_
      refine AW.take (i := 3) rfl (by kernel_rfl) rfl rfl (Ldr.oldN w0 ag125 rfl rfl (fun j u hu => hk11 j u hu)) (hS3.same _ hb12.1 hb12.2) ?_
      refine AW.u (i := 4) rfl (by kernel_rfl) rfl rfl (Pur.p rfl) ?_
      refine AW.u (i := 5) rfl (by kernel_rfl) rfl rfl (Pur.p rfl) ?_
      replace h := obind h
      obtain ⟨y13, hy13, h⟩ := h
      obtain ⟨b16, o17, cs18, hae, hb21, hp14, hq15, hd19, hk20⟩ := hr1.idx hy13
      subst hae
      obtain rfl := hd19
      refine AW.u (i := 6) rfl (by kernel_rfl) rfl rfl (Pur.ix Try.underlying24 sz125 rfl rfl hp14 hq15) ?_
      refine AW.take (i := 7) rfl (by kernel_rfl) rfl rfl (Ldr.oldN w0 ag125 rfl rfl (fun j u hu => hk20 j u hu)) (hS3.same _ hb21.1 hb21.2) ?_
      replace h := obind h
      obtain ⟨y22, hy22, h⟩ := h
      have q := W_l_eqNode (w0 := w.drew) hy22
      refine AW.one (i := 8) (by kernel_rfl) ?_
      refine ⟨_, rfl, ?_⟩
      refine LW.call pl80 rfl rfl ?_
      refine Ret.mono q ?_
      rintro _ w23 ⟨rfl, hs⟩
      have hS4 := hS3.add hs
      refine LW.nil ⟨rfl, (.w (by kernel_rfl) (.w (by kernel_rfl) Kept.n)), ?_⟩
      refine AW.u (i := 9) rfl (by kernel_rfl) rfl rfl (Pur.p rfl) ?_
      refine AW.done (by kernel_rfl) ?_
      show CW _ _ _ _ _ _
      refine CW.cond rfl (fun hc24 => ?_) (fun hc24 => ?_)
      · replace h := bcT h hc24
        refine CW.seq ?_
        refine CW.region ?_
        refine LW.p rfl rfl ?_
        refine LW.nil ?_
        show CW _ _ _ _ _ _
        refine CW.ret ?_
        cases h
        exact ⟨trivial, rfl, _, rfl, ⟨_, Res.one (resOne.t rfl), rfl, hS4.pick [] rfl rfl⟩⟩
      replace h := bcF h hc24
      refine CW.skip ?_
      show CW _ _ _ _ _ _
      refine CW.region ?_
      iterate 3 refine LW.p rfl rfl ?_
      refine LW.nil ?_
      cases h
      exact ⟨rfl, ⟨⟨rfl, rfl, rfl, trivial⟩, hS4.pick [] rfl rfl⟩⟩
    replace h := bcF h hc3
    refine CW.exit ?_
    cases h
    exact ⟨trivial, rfl, ⟨trivial, hS2.pick [] rfl rfl⟩⟩
  intro x e w27 hM
  rcases o25 with o25 | r28
  · obtain ⟨rfl, hM⟩ := hM
    obtain ⟨hE, hS5⟩ := hM
    obtain ⟨e, rfl⟩ := hE.out
    have h := h26
    show CW _ _ _ _ _ _
    refine CW.seq ?_
    refine CW.region ?_
    refine LW.p rfl rfl ?_
    refine LW.nil ?_
    show CW _ _ _ _ _ _
    refine CW.ret ?_
    cases h
    exact And.intro trivial ⟨_, Res.one (resOne.t rfl), rfl, hS5.pick [] rfl rfl⟩
  obtain ⟨rfl, u, rfl, hM⟩ := hM
  cases h26
  exact And.intro trivial hM

theorem W_l_heldNodeS {w0 : World} {N : Nat} {x0 : List DNode} {x1 : Int} {r : Int} (h : F_l_heldNodeS N x0 x1 = some r) {a0 : Option Addr} {n0 c0 : Nat} (hn0 : n0 = x0.length) (hr0 : rdS (Bor w0 []) w0 a0 c0 x0) :
    Ret Try.prog 22 #[.slice a0 n0 c0, .int .i64 x1] w0 (fun v w => v = .int .i64 r ∧ St w0 [] w []) := by
  subst hn0
  unfold F_l_heldNodeS at h
  refine Ret.of Try.func22 rfl rfl rfl ?_
  have hS1 := St.start w0
  refine CW.seq ?_
  refine CW.region ?_
  refine LW.p rfl rfl ?_
  refine LW.nil ?_
  show CW _ _ _ _ _ _
  refine CW.seq ?_
  refine CW.seq ?_
  refine CW.region ?_
  refine LW.p rfl rfl ?_
  refine LW.nil ?_
  show CW _ _ _ _ _ _
  refine CW.block ?_
  obtain ⟨o15, ho15, h16⟩ := obind h
  refine CW.mono (CW.iter (σ := Int × Int) (ρ := (Int × Int) ⊕ Int) (fun s1 e w => En e [(0, .slice a0 x0.length c0), (1, .int .i64 s1.1), (5, .int .i64 s1.2)] ∧ St w0 [] w []) (fun o x e w => match o with | .inl s1 => x = .exit 0 ∧ En e [(1, .int .i64 s1.1)] ∧ St w0 [] w [] | .inr r => x = .ret ∧ ∃ u, u = r ∧ ∃ v, Res Try.prog Try.f22.results e w v ∧ v = .int .i64 u ∧ St w0 [] w []) ?_ N _ _ _ _ ⟨⟨rfl, rfl, rfl, trivial⟩, hS1.pick [] rfl rfl⟩ ho15) ?_
  · intro s1 e w o hM h
    obtain ⟨hE, hS2⟩ := hM
    obtain ⟨e, rfl⟩ := hE.out
    refine CW.seq ?_
    refine CW.seq ?_
    refine CW.region ?_
    iterate 2 refine LW.p rfl rfl ?_
    refine LW.u (Pur.len Try.underlying24 rfl) rfl ?_
    refine LW.p rfl rfl ?_
    refine LW.nil ?_
    show CW _ _ _ _ _ _
    refine CW.cond rfl (fun hc2 => ?_) (fun hc2 => ?_)
    · replace h := bcT h hc2
      refine CW.skip ?_
      show CW _ _ _ _ _ _
      refine CW.seq ?_
      refine CW.block ?_
      refine CW.seq ?_
      refine CW.seq ?_
      refine CW.region ?_
      iterate 2 refine LW.p rfl rfl ?_
      replace h := obind h
      obtain ⟨y3, hy3, h⟩ := h
      obtain ⟨b6, o7, cs8, hae, hb11, hp4, hq5, hd9, hk10⟩ := hr0.idx hy3
      subst hae
      obtain rfl := hd9
      refine LW.u (Pur.ix Try.underlying24 sz125 rfl rfl hp4 hq5) rfl ?_
      refine LW.u (Pur.fa fo125_0 rfl) rfl ?_
      refine LW.l (Ldr.old w0 ag3 rfl (hk10 0 _ rfl)) (hS2.same _ hb11.1 hb11.2) rfl ?_
      iterate 2 refine LW.p rfl rfl ?_
      refine LW.nil ?_
      show CW _ _ _ _ _ _
      refine CW.fresh (l := [(0, .slice (some ⟨b6, o7, none⟩) x0.length c0), (1, .int .i64 s1.1), (5, .int .i64 s1.2), (18, .bool (y3.parent != s1.1))]) ⟨rfl, rfl, rfl, rfl, trivial⟩ (fun e => ?_)
      refine CW.cond rfl (fun hc12 => ?_) (fun hc12 => ?_)
      · replace h := bcT h hc12
        refine CW.seq ?_
        refine CW.region ?_
        refine LW.p rfl rfl ?_
        refine LW.nil ?_
        show CW _ _ _ _ _ _
        refine CW.ret ?_
        cases h
        exact ⟨trivial, rfl, _, rfl, ⟨_, Res.one (resOne.t rfl), rfl, hS2.pick [] rfl rfl⟩⟩
      replace h := bcF h hc12
      refine CW.skip ?_
      show CW _ _ _ _ _ _
      refine CW.seq ?_
      refine CW.region ?_
      iterate 3 refine LW.p rfl rfl ?_
      refine LW.nil ?_
      show CW _ _ _ _ _ _
      refine CW.seq ?_
      refine CW.seq ?_
      refine CW.region ?_
      iterate 2 refine LW.p rfl rfl ?_
      refine LW.u (Pur.ix Try.underlying24 sz125 rfl rfl hp4 hq5) rfl ?_
      refine LW.u (Pur.fa fo125_1 rfl) rfl ?_
      refine LW.l (Ldr.old w0 ag3 rfl (hk10 1 _ rfl)) (hS2.same _ hb11.1 hb11.2) rfl ?_
      iterate 2 refine LW.p rfl rfl ?_
      refine LW.nil ?_
      show CW _ _ _ _ _ _
      refine CW.cond rfl (fun hc13 => ?_) (fun hc13 => ?_)
      · replace h := bcT h hc13
        refine CW.seq ?_
        refine CW.region ?_
        refine LW.p rfl rfl ?_
        refine LW.nil ?_
        show CW _ _ _ _ _ _
        refine CW.ret ?_
        cases h
        exact ⟨trivial, rfl, _, rfl, ⟨_, Res.one (resOne.t rfl), rfl, hS2.pick [] rfl rfl⟩⟩
      replace h := bcF h hc13
      refine CW.skip ?_
      show CW _ _ _ _ _ _
      refine CW.seq ?_
      refine CW.region ?_
      iterate 3 refine LW.p rfl rfl ?_
      refine LW.nil ?_
      show CW _ _ _ _ _ _
      refine CW.fresh (l := [(0, .slice (some ⟨b6, o7, none⟩) x0.length c0), (1, .int .i64 (IntKind.i64.wrap ((IntKind.i64.wrap (s1.1 + 1)) + 1))), (5, .int .i64 s1.2)]) ⟨rfl, rfl, rfl, trivial⟩ (fun e => ?_)
      refine CW.seq ?_
      refine CW.seq ?_
      refine CW.region ?_
      iterate 2 refine LW.p rfl rfl ?_
      refine LW.u (Pur.ix Try.underlying24 sz125 rfl rfl hp4 hq5) rfl ?_
      refine LW.u (Pur.fa fo125_2 rfl) rfl ?_
      refine LW.l (Ldr.old w0 ag3 rfl (hk10 2 _ rfl)) (hS2.same _ hb11.1 hb11.2) rfl ?_
      iterate 2 refine LW.p rfl rfl ?_
      refine LW.nil ?_
      show CW _ _ _ _ _ _
      refine CW.cond rfl (fun hc14 => ?_) (fun hc14 => ?_)
      · replace h := bcT h hc14
        refine CW.seq ?_
        refine CW.region ?_
        refine LW.p rfl rfl ?_
        refine LW.nil ?_
        show CW _ _ _ _ _ _
        refine CW.ret ?_
        cases h
        exact ⟨trivial, rfl, _, rfl, ⟨_, Res.one (resOne.t rfl), rfl, hS2.pick [] rfl rfl⟩⟩
      replace h := bcF h hc14
      refine CW.skip ?_
      show CW _ _ _ _ _ _
      refine CW.region ?_
      iterate 3 refine LW.p rfl rfl ?_
      refine LW.nil ?_
      show CW _ _ _ _ _ _
      refine CW.region ?_
      iterate 3 refine LW.p rfl rfl ?_
      refine LW.nil ?_
      cases h
      exact ⟨rfl, ⟨⟨rfl, rfl, rfl, trivial⟩, hS2.pick [] rfl rfl⟩⟩
    replace h := bcF h hc2
    refine CW.exit ?_
    cases h
    exact ⟨trivial, rfl, ⟨⟨rfl, trivial⟩, hS2.pick [] rfl rfl⟩⟩
  intro x e w17 hM
  rcases o15 with o15 | r18
  · obtain ⟨rfl, hM⟩ := hM
    obtain ⟨hE, hS3⟩ := hM
    obtain ⟨e, rfl⟩ := hE.out
    have h := h16
    show CW _ _ _ _ _ _
    refine CW.seq ?_
    refine CW.region ?_
    iterate 2 refine LW.p rfl rfl ?_
    refine LW.nil ?_
    show CW _ _ _ _ _ _
    refine CW.ret ?_
    cases h
    exact And.intro trivial ⟨_, Res.one (resOne.t rfl), rfl, hS3.pick [] rfl rfl⟩
  obtain ⟨rfl, u, rfl, hM⟩ := hM
  cases h16
  exact And.intro trivial hM

theorem W_l_szEntryS {w0 : World} {N : Nat} {x0 : List DEntry} {x1 : Int} {r : Int} (h : F_l_szEntryS N x0 x1 = some r) {a0 : Option Addr} {n0 c0 : Nat} (hn0 : n0 = x0.length) (hr0 : rdS (Bor w0 []) w0 a0 c0 x0) :
    Ret Try.prog 23 #[.slice a0 n0 c0, .int .i64 x1] w0 (fun v w => v = .int .i64 r ∧ St w0 [] w []) := by
  subst hn0
  unfold F_l_szEntryS at h
  refine Ret.of Try.func23 rfl rfl rfl ?_
  have hS1 := St.start w0
  refine CW.seq ?_
  refine CW.region ?_
  refine LW.p rfl rfl ?_
  refine LW.nil ?_
  show CW _ _ _ _ _ _
  refine CW.seq ?_
  refine CW.region ?_
  iterate 2 refine LW.p rfl rfl ?_
  refine LW.u (Pur.len Try.underlying29 rfl) rfl ?_
  iterate 2 refine LW.p rfl rfl ?_
  refine LW.nil ?_
  show CW _ _ _ _ _ _
  refine CW.seq ?_
  refine CW.seq ?_
  refine CW.region ?_
  iterate 2 refine LW.p rfl rfl ?_
  refine LW.nil ?_
  show CW _ _ _ _ _ _
  refine CW.cond rfl (fun hc1 => ?_) (fun hc1 => ?_)
  · replace h := bcT h hc1
    refine CW.seq ?_
    refine CW.region ?_
    refine LW.p rfl rfl ?_
    refine LW.nil ?_
    show CW _ _ _ _ _ _
    refine CW.ret ?_
    cases h
    exact And.intro trivial ⟨_, Res.one (resOne.t rfl), rfl, hS1.pick [] rfl rfl⟩
  replace h := bcF h hc1
  refine CW.skip ?_
  show CW _ _ _ _ _ _
  refine CW.seq ?_
  refine CW.region ?_
  iterate 2 refine LW.p rfl rfl ?_
  refine LW.nil ?_
  show CW _ _ _ _ _ _
  refine CW.ret ?_
  cases h
  exact And.intro trivial ⟨_, Res.one (resOne.t rfl), rfl, hS1.pick [] rfl rfl⟩

theorem W_l_toCall {w0 : World} {N : Nat} {x0 : DCall} {r : DCall} (h : F_l_toCall N x0 = some r) :
    Ret Try.prog 90 #[.agg #[.int .i64 x0.kind, .int .i64 x0.a, .int .i64 x0.b, .int .i64 x0.c, .int .i64 x0.d, .int .i64 x0.e]] w0 (fun v w => v = .agg #[.int .i64 r.kind, .int .i64 r.a, .int .i64 r.b, .int .i64 r.c, .int .i64 r.d, .int .i64 r.e] ∧ St w0 [] w []) := by
  unfold F_l_toCall at h
  refine Ret.of Try.func90 rfl rfl rfl ?_
  have hS1 := St.start w0
  refine CW.seq ?_
  refine CW.region ?_
  refine LW.box (cs := [.int .i64 x0.kind, .int .i64 x0.a, .int .i64 x0.b, .int .i64 x0.c, .int .i64 x0.d, .int .i64 x0.e]) rfl hS1 rfl ?_
  intro g1 w2 hS2 hf
  refine LW.alloc zv52 hS2 rfl ?_
  intro g3 w4 hS3 hf
  refine LW.nil ?_
  show CW _ _ _ _ _ _
  refine CW.seq ?_
  refine CW.region ?_
  refine LW.alloc zv52 hS3 rfl ?_
  intro g5 w6 hS4 hf
  refine LW.nil ?_
  show CW _ _ _ _ _ _
  refine CW.seq ?_
  refine CW.region ?_
  refine LW.u (Pur.fa fo44_0 rfl) rfl ?_
  refine LW.ldb hS4 2 rfl ag3 rfl rfl rfl ?_
  refine LW.u (Pur.fa fo52_0 rfl) rfl ?_
  refine LW.stb hS4 0 rfl ag3 rfl rfl rfl rfl rfl ?_
  intro w7 hS5 hf
  refine LW.nil ?_
  show CW _ _ _ _ _ _
  refine CW.seq ?_
  refine CW.region ?_
  refine LW.u (Pur.fa fo44_1 rfl) rfl ?_
  refine LW.ldb hS5 2 rfl ag3 rfl rfl rfl ?_
  refine LW.u (Pur.fa fo52_1 rfl) rfl ?_
  refine LW.stb hS5 0 rfl ag3 rfl rfl rfl rfl rfl ?_
  intro w8 hS6 hf
  refine LW.nil ?_
  show CW _ _ _ _ _ _
  refine CW.seq ?_
  refine CW.region ?_
  refine LW.u (Pur.fa fo44_2 rfl) rfl ?_
  refine LW.ldb hS6 2 rfl ag3 rfl rfl rfl ?_
  refine LW.u (Pur.fa fo52_2 rfl) rfl ?_
  refine LW.stb hS6 0 rfl ag3 rfl rfl rfl rfl rfl ?_
  intro w9 hS7 hf
  refine LW.nil ?_
  show CW _ _ _ _ _ _
  refine CW.fresh (l := [(1, .pointer (some ⟨g1, 0, none⟩)), (2, .pointer (some ⟨g3, 0, none⟩)), (3, .pointer (some ⟨g5, 0, none⟩))]) ⟨rfl, rfl, rfl, trivial⟩ (fun e => ?_)
  refine CW.seq ?_
  refine CW.region ?_
  refine LW.u (Pur.fa fo44_3 rfl) rfl ?_
  refine LW.ldb hS7 2 rfl ag3 rfl rfl rfl ?_
  refine LW.u (Pur.fa fo52_3 rfl) rfl ?_
  refine LW.stb hS7 0 rfl ag3 rfl rfl rfl rfl rfl ?_
  intro w10 hS8 hf
  refine LW.nil ?_
  show CW _ _ _ _ _ _
  refine CW.seq ?_
  refine CW.region ?_
  refine LW.u (Pur.fa fo44_4 rfl) rfl ?_
  refine LW.ldb hS8 2 rfl ag3 rfl rfl rfl ?_
  refine LW.u (Pur.fa fo52_4 rfl) rfl ?_
  refine LW.stb hS8 0 rfl ag3 rfl rfl rfl rfl rfl ?_
  intro w11 hS9 hf
  refine LW.nil ?_
  show CW _ _ _ _ _ _
  refine CW.seq ?_
  refine CW.region ?_
  refine LW.u (Pur.fa fo44_5 rfl) rfl ?_
  refine LW.ldb hS9 2 rfl ag3 rfl rfl rfl ?_
  refine LW.u (Pur.fa fo52_5 rfl) rfl ?_
  refine LW.stb hS9 0 rfl ag3 rfl rfl rfl rfl rfl ?_
  intro w12 hS10 hf
  refine LW.nil ?_
  show CW _ _ _ _ _ _
  refine CW.seq ?_
  refine CW.region ?_
  refine LW.ldbN hS10 0 rfl ag52 rfl rfl rfl ?_
  refine LW.stb hS10 1 rfl ag52 rfl rfl rfl rfl rfl ?_
  intro w13 hS11 hf
  refine LW.nil ?_
  show CW _ _ _ _ _ _
  refine CW.fresh (l := [(2, .pointer (some ⟨g3, 0, none⟩))]) ⟨rfl, trivial⟩ (fun e => ?_)
  refine CW.ret ?_
  cases h
  exact And.intro trivial ⟨_, Res.one (resOne.b hS11 1 rfl ag52 rfl rfl), rfl, hS11.pick [] rfl rfl⟩

theorem W_l_toEntry {w0 : World} {N : Nat} {x0 : DEntry} {r : DEntry} (h : F_l_toEntry N x0 = some r) :
    Ret Try.prog 35 #[.agg #[.int .i64 x0.kind, .int .i64 x0.part, .int .i64 x0.thread, .int .i64 x0.call.kind, .int .i64 x0.call.a, .int .i64 x0.call.b, .int .i64 x0.call.c, .int .i64 x0.call.d, .int .i64 x0.call.e]] w0 (fun v w => v = .agg #[.int .i64 r.kind, .int .i64 r.part, .int .i64 r.thread, .int .i64 r.call.kind, .int .i64 r.call.a, .int .i64 r.call.b, .int .i64 r.call.c, .int .i64 r.call.d, .int .i64 r.call.e] ∧ St w0 [] w []) := by
  unfold F_l_toEntry at h
  refine Ret.of Try.func35 rfl rfl rfl ?_
  have hS1 := St.start w0
  refine CW.seq ?_
  refine CW.region ?_
  refine LW.box (cs := [.int .i64 x0.kind, .int .i64 x0.part, .int .i64 x0.thread, .int .i64 x0.call.kind, .int .i64 x0.call.a, .int .i64 x0.call.b, .int .i64 x0.call.c, .int .i64 x0.call.d, .int .i64 x0.call.e]) rfl hS1 rfl ?_
  intro g1 w2 hS2 hf
  refine LW.alloc zv54 hS2 rfl ?_
  intro g3 w4 hS3 hf
  refine LW.nil ?_
  show CW _ _ _ _ _ _
  refine CW.seq ?_
  refine CW.region ?_
  refine LW.alloc zv54 hS3 rfl ?_
  intro g5 w6 hS4 hf
  refine LW.nil ?_
  show CW _ _ _ _ _ _
  refine CW.seq ?_
  refine CW.region ?_
  refine LW.u (Pur.fa fo46_0 rfl) rfl ?_
  refine LW.ldb hS4 2 rfl ag3 rfl rfl rfl ?_
  refine LW.u (Pur.fa fo54_0 rfl) rfl ?_
  refine LW.stb hS4 0 rfl ag3 rfl rfl rfl rfl rfl ?_
  intro w7 hS5 hf
  refine LW.nil ?_
  show CW _ _ _ _ _ _
  refine CW.seq ?_
  refine CW.region ?_
  refine LW.u (Pur.fa fo46_1 rfl) rfl ?_
  refine LW.ldb hS5 2 rfl ag3 rfl rfl rfl ?_
  refine LW.u (Pur.fa fo54_1 rfl) rfl ?_
  refine LW.stb hS5 0 rfl ag3 rfl rfl rfl rfl rfl ?_
  intro w8 hS6 hf
  refine LW.nil ?_
  show CW _ _ _ _ _ _
  refine CW.seq ?_
  refine CW.region ?_
  refine LW.u (Pur.fa fo46_2 rfl) rfl ?_
  refine LW.ldb hS6 2 rfl ag3 rfl rfl rfl ?_
  refine LW.u (Pur.fa fo54_2 rfl) rfl ?_
  refine LW.stb hS6 0 rfl ag3 rfl rfl rfl rfl rfl ?_
  intro w9 hS7 hf
  refine LW.nil ?_
  show CW _ _ _ _ _ _
  refine CW.fresh (l := [(1, .pointer (some ⟨g1, 0, none⟩)), (2, .pointer (some ⟨g3, 0, none⟩)), (3, .pointer (some ⟨g5, 0, none⟩))]) ⟨rfl, rfl, rfl, trivial⟩ (fun e => ?_)
  refine CW.seq ?_
  refine CW.region ?_
  refine LW.u (Pur.fa fo46_3 rfl) rfl ?_
  refine LW.ldbN hS7 2 rfl ag44 rfl rfl rfl ?_
  replace h := obind h
  obtain ⟨y10, hy10, h⟩ := h
  have q := W_l_toCall (w0 := w9) hy10
  refine LW.call pl90 rfl rfl ?_
  refine Ret.mono q ?_
  rintro _ w11 ⟨rfl, hs⟩
  have hS8 := hS7.add hs
  refine LW.u (Pur.fa fo54_3 rfl) rfl ?_
  refine LW.stb hS8 0 rfl ag52 rfl rfl rfl rfl rfl ?_
  intro w12 hS9 hf
  refine LW.nil ?_
  show CW _ _ _ _ _ _
  refine CW.seq ?_
  refine CW.region ?_
  refine LW.ldbN hS9 0 rfl ag54 rfl rfl rfl ?_
  refine LW.stb hS9 1 rfl ag54 rfl rfl rfl rfl rfl ?_
  intro w13 hS10 hf
  refine LW.nil ?_
  show CW _ _ _ _ _ _
  refine CW.ret ?_
  cases h
  exact And.intro trivial ⟨_, Res.one (resOne.b hS10 1 rfl ag54 rfl rfl), rfl, hS10.pick [] rfl rfl⟩

theorem W_l_toEntryS {w0 : World} {N : Nat} {x0 : List DEntry} {r : (List DEntry)} (h : F_l_toEntryS N x0 = some r) {a0 : Option Addr} {n0 c0 : Nat} (hn0 : n0 = x0.length) (hr0 : rdS (Bor w0 []) w0 a0 c0 x0) :
    Ret Try.prog 25 #[.slice a0 n0 c0] w0 (fun v w => ∃ ar0 cr0, v = .slice ar0 r.length cr0 ∧ St w0 [] w [sl ar0 cr0 r]) := by
  subst hn0
  unfold F_l_toEntryS at h
  refine Ret.of Try.func25 rfl rfl rfl ?_
  have hS1 := St.start w0
  refine CW.seq ?_
  refine CW.region ?_
  refine LW.p rfl rfl ?_
  refine LW.nil ?_
  show CW _ _ _ _ _ _
  refine CW.seq ?_
  refine CW.region ?_
  refine LW.p rfl rfl ?_
  refine LW.u (Pur.len Try.underlying29 rfl) rfl ?_
  replace h := obind h
  obtain ⟨y1, hy1, h⟩ := h
  refine LW.mk sT32 rfl rfl hy1 hS1 rfl ?_
  intro a2 c3 w4 hS2 hf
  refine LW.p rfl rfl ?_
  refine LW.nil ?_
  show CW _ _ _ _ _ _
  refine CW.seq ?_
  refine CW.seq ?_
  refine CW.region ?_
  refine LW.p rfl rfl ?_
  refine LW.nil ?_
  show CW _ _ _ _ _ _
  refine CW.block ?_
  obtain ⟨o24, ho24, h25⟩ := obind h
  refine CW.mono (CW.iter (σ := (List DEntry) × Int) (ρ := (List DEntry) × Int) (fun s5 e w => ∃ (s5a0 : Option Addr), ∃ (s5c0 : Nat), En e [(0, .slice a0 x0.length c0), (3, .slice s5a0 s5.1.length s5c0), (4, .int .i64 s5.2)] ∧ St w0 [] w [sl s5a0 s5c0 s5.1]) (fun s5 x e w => x = .exit 0 ∧ ∃ (s5a0 : Option Addr), ∃ (s5c0 : Nat), En e [(3, .slice s5a0 s5.1.length s5c0)] ∧ St w0 [] w [sl s5a0 s5c0 s5.1]) ?_ N _ _ _ _ ⟨a2, c3, ⟨rfl, rfl, rfl, trivial⟩, hS2.pick [0] rfl rfl⟩ ho24) ?_
  · intro s5 e w o hM h
    obtain ⟨s5a0, s5c0, hE, hS3⟩ := hM
    obtain ⟨e, rfl⟩ := hE.out
    refine CW.seq ?_
    refine CW.seq ?_
    refine CW.region ?_
    iterate 2 refine LW.p rfl rfl ?_
    refine LW.u (Pur.len Try.underlying29 rfl) rfl ?_
    refine LW.p rfl rfl ?_
    refine LW.nil ?_
    show CW _ _ _ _ _ _
    refine CW.cond rfl (fun hc6 => ?_) (fun hc6 => ?_)
    · replace h := bcT h hc6
      refine CW.skip ?_
      show CW _ _ _ _ _ _
      refine CW.seq ?_
      refine CW.block ?_
      refine CW.region ?_
      iterate 4 refine LW.p rfl rfl ?_
      replace h := obind h
      obtain ⟨y7, hy7, h⟩ := h
      obtain ⟨b10, o11, cs12, hae, hb15, hp8, hq9, hd13, hk14⟩ := hr0.idx hy7
      subst hae
      obtain rfl := hd13
      refine LW.u (Pur.ix Try.underlying29 sz46 rfl rfl hp8 hq9) rfl ?_
      refine LW.l (Ldr.oldN w0 ag46 rfl rfl (fun j u hu => hk14 j u hu)) (hS3.same _ hb15.1 hb15.2) rfl ?_
      replace h := obind h
      obtain ⟨y16, hy16, h⟩ := h
      have q := W_l_toEntry (w0 := w) hy16
      refine LW.call pl35 rfl rfl ?_
      refine Ret.mono q ?_
      rintro _ w17 ⟨rfl, hs⟩
      have hS4 := hS3.add hs
      replace h := obind h
      obtain ⟨y18, hy18, h⟩ := h
      obtain ⟨b21, hae, hp19, hq20⟩ := hS4.ownIdx (α := DEntry) (i := 0) rfl hy18
      subst hae
      refine LW.u (Pur.ix Try.underlying32 sz54 rfl rfl hp19 hq20) rfl ?_
      replace h := obind h
      obtain ⟨y22, hy22, h⟩ := h
      refine LW.stE (M := []) (L := [sl (some ⟨b21, 0, none⟩) s5c0 s5.1]) (z := y18) (z' := y16) (o := 0) hS4 (i := 0) rfl hy18 ag54 rfl (by show _ = (s5.2 : Int).toNat * 9 + 0; omega) rfl rfl rfl rfl (whole (fun w G hG => by cases (show G = [] from hG); exact ⟨rfl, rfl⟩)) ?_
      intro w23 hS5 hf
      rw [Option.some.inj hy22] at hS5
      refine LW.nil ?_
      show CW _ _ _ _ _ _
      refine CW.fresh (l := [(0, .slice (some ⟨b10, o11, none⟩) x0.length c0), (3, .slice (some ⟨b21, 0, none⟩) s5.1.length s5c0), (4, .int .i64 s5.2)]) ⟨rfl, rfl, rfl, trivial⟩ (fun e => ?_)
      refine CW.region ?_
      iterate 3 refine LW.p rfl rfl ?_
      refine LW.nil ?_
      cases h
      exact ⟨rfl, ⟨(some ⟨b21, 0, none⟩), s5c0, ⟨rfl, congrArg (fun m => Value.slice _ m _) (len_set (Option.some.inj hy22)), rfl, trivial⟩, hS5.pick [0] rfl rfl⟩⟩
    replace h := bcF h hc6
    refine CW.exit ?_
    cases h
    exact ⟨trivial, rfl, ⟨s5a0, s5c0, ⟨rfl, trivial⟩, hS3.pick [0] rfl rfl⟩⟩
  intro x e w26 hM
  obtain ⟨rfl, hM⟩ := hM
  obtain ⟨s5a0, s5c0, hE, hS6⟩ := hM
  obtain ⟨e, rfl⟩ := hE.out
  have h := h25
  show CW _ _ _ _ _ _
  refine CW.seq ?_
  refine CW.region ?_
  iterate 2 refine LW.p rfl rfl ?_
  refine LW.nil ?_
  show CW _ _ _ _ _ _
  refine CW.ret ?_
  cases h
  exact And.intro trivial ⟨_, Res.one (resOne.t rfl), s5a0, s5c0, rfl, hS6.pick [0] rfl rfl⟩

theorem W_s_Ticks {w0 : World} {N : Nat} {x0 : List DEntry} {r : Int} (h : F_s_Ticks N x0 = some r) {a0 : Option Addr} {n0 c0 : Nat} (hn0 : n0 = x0.length) (hr0 : rdS (Bor w0 []) w0 a0 c0 x0) :
    Ret Try.prog 24 #[.slice a0 n0 c0] w0 (fun v w => v = .int .i64 r ∧ St w0 [] w []) := by
  subst hn0
  unfold F_s_Ticks at h
  refine Ret.of Try.func24 rfl rfl rfl ?_
  have hS1 := St.start w0
  refine CW.seq ?_
  refine CW.region ?_
  refine LW.p rfl rfl ?_
  refine LW.nil ?_
  show CW _ _ _ _ _ _
  refine CW.seq ?_
  refine CW.region ?_
  refine LW.p rfl rfl ?_
  refine LW.nil ?_
  show CW _ _ _ _ _ _
  refine CW.seq ?_
  refine CW.seq ?_
  refine CW.region ?_
  refine LW.p rfl rfl ?_
  refine LW.nil ?_
  show CW _ _ _ _ _ _
  refine CW.block ?_
  obtain ⟨o13, ho13, h14⟩ := obind h
  refine CW.mono (CW.iter (σ := Int × Int) (ρ := Int × Int) (fun s1 e w => En e [(0, .slice a0 x0.length c0), (3, .int .i64 s1.1), (4, .int .i64 s1.2)] ∧ St w0 [] w []) (fun s1 x e w => x = .exit 0 ∧ En e [(3, .int .i64 s1.1)] ∧ St w0 [] w []) ?_ N _ _ _ _ ⟨⟨rfl, rfl, rfl, trivial⟩, hS1.pick [] rfl rfl⟩ ho13) ?_
  · intro s1 e w o hM h
    obtain ⟨hE, hS2⟩ := hM
    obtain ⟨e, rfl⟩ := hE.out
    refine CW.seq ?_
    refine CW.seq ?_
    refine CW.region ?_
    iterate 2 refine LW.p rfl rfl ?_
    refine LW.u (Pur.len Try.underlying32 rfl) rfl ?_
    refine LW.p rfl rfl ?_
    refine LW.nil ?_
    show CW _ _ _ _ _ _
    refine CW.cond rfl (fun hc2 => ?_) (fun hc2 => ?_)
    · replace h := bcT h hc2
      refine CW.skip ?_
      show CW _ _ _ _ _ _
      refine CW.seq ?_
      refine CW.block ?_
      refine CW.seq ?_
      refine CW.region ?_
      iterate 2 refine LW.p rfl rfl ?_
      replace h := obind h
      obtain ⟨y3, hy3, h⟩ := h
      obtain ⟨b6, o7, cs8, hae, hb11, hp4, hq5, hd9, hk10⟩ := hr0.idx hy3
      subst hae
      obtain rfl := hd9
      refine LW.u (Pur.ix Try.underlying32 sz54 rfl rfl hp4 hq5) rfl ?_
      refine LW.u (Pur.fa fo54_0 rfl) rfl ?_
      refine LW.l (Ldr.old w0 ag3 rfl (hk10 0 _ rfl)) (hS2.same _ hb11.1 hb11.2) rfl ?_
      refine LW.p rfl rfl ?_
      refine LW.nil ?_
      show CW _ _ _ _ _ _
      refine CW.fresh (l := [(0, .slice (some ⟨b6, o7, none⟩) x0.length c0), (3, .int .i64 s1.1), (4, .int .i64 s1.2), (16, .bool (y3.kind == 1))]) ⟨rfl, rfl, rfl, rfl, trivial⟩ (fun e => ?_)
      refine CW.cond rfl (fun hc12 => ?_) (fun hc12 => ?_)
      · replace h := bcT h hc12
        refine CW.region ?_
        iterate 3 refine LW.p rfl rfl ?_
        refine LW.nil ?_
        show CW _ _ _ _ _ _
        refine CW.region ?_
        iterate 3 refine LW.p rfl rfl ?_
        refine LW.nil ?_
        cases h
        exact ⟨rfl, ⟨⟨rfl, rfl, rfl, trivial⟩, hS2.pick [] rfl rfl⟩⟩
      replace h := bcF h hc12
      refine CW.skip ?_
      show CW _ _ _ _ _ _
      refine CW.region ?_
      iterate 3 refine LW.p rfl rfl ?_
      refine LW.nil ?_
      cases h
      exact ⟨rfl, ⟨⟨rfl, rfl, rfl, trivial⟩, hS2.pick [] rfl rfl⟩⟩
    replace h := bcF h hc2
    refine CW.exit ?_
    cases h
    exact ⟨trivial, rfl, ⟨⟨rfl, trivial⟩, hS2.pick [] rfl rfl⟩⟩
  intro x e w15 hM
  obtain ⟨rfl, hM⟩ := hM
  obtain ⟨hE, hS3⟩ := hM
  obtain ⟨e, rfl⟩ := hE.out
  have h := h14
  show CW _ _ _ _ _ _
  refine CW.seq ?_
  refine CW.region ?_
  iterate 2 refine LW.p rfl rfl ?_
  refine LW.nil ?_
  show CW _ _ _ _ _ _
  refine CW.ret ?_
  cases h
  exact And.intro trivial ⟨_, Res.one (resOne.t rfl), rfl, hS3.pick [] rfl rfl⟩

theorem W_i_Ticks {w0 : World} {N : Nat} {x0 : List DEntry} {r : Int} (h : F_i_Ticks N x0 = some r) {a0 : Option Addr} {n0 c0 : Nat} (hn0 : n0 = x0.length) (hr0 : rdS (Bor w0 []) w0 a0 c0 x0) :
    Ret Try.prog 26 #[.slice a0 n0 c0] w0 (fun v w => v = .int .i64 r ∧ St w0 [] w []) := by
  subst hn0
  unfold F_i_Ticks at h
  refine Ret.of Try.func26 rfl rfl rfl ?_
  have hS1 := St.start w0
  refine CW.seq ?_
  refine CW.region ?_
  refine LW.p rfl rfl ?_
  refine LW.nil ?_
  show CW _ _ _ _ _ _
  refine CW.seq ?_
  refine CW.region ?_
  refine LW.p rfl rfl ?_
  refine LW.nil ?_
  show CW _ _ _ _ _ _
  refine CW.seq ?_
  refine CW.seq ?_
  refine CW.region ?_
  refine LW.p rfl rfl ?_
  refine LW.u (Pur.len Try.underlying32 rfl) rfl ?_
  refine LW.p rfl rfl ?_
  refine LW.nil ?_
  show CW _ _ _ _ _ _
  refine CW.block ?_
  obtain ⟨o16, ho16, h17⟩ := obind h
  refine CW.mono (CW.iter (σ := Int × Int) (ρ := Int × Int) (fun s1 e w => En e [(3, .int .i64 s1.1), (6, .slice a0 x0.length c0), (7, .int .i64 (x0.length : Int)), (8, .int .i64 s1.2)] ∧ St w0 [] w []) (fun s1 x e w => x = .exit 0 ∧ En e [(3, .int .i64 s1.1)] ∧ St w0 [] w []) ?_ N _ _ _ _ ⟨⟨rfl, rfl, rfl, rfl, trivial⟩, hS1.pick [] rfl rfl⟩ ho16) ?_
  · intro s1 e w o hM h
    obtain ⟨hE, hS2⟩ := hM
    obtain ⟨e, rfl⟩ := hE.out
    refine CW.seq ?_
    refine CW.region ?_
    refine LW.p rfl rfl ?_
    refine LW.nil ?_
    show CW _ _ _ _ _ _
    refine CW.seq ?_
    refine CW.cond rfl (fun hc2 => ?_) (fun hc2 => ?_)
    · replace h := bcT h hc2
      refine CW.skip ?_
      show CW _ _ _ _ _ _
      refine CW.seq ?_
      refine CW.block ?_
      refine CW.seq ?_
      refine CW.region ?_
      replace h := obind h
      obtain ⟨y3, hy3, h⟩ := h
      obtain ⟨b6, o7, cs8, hae, hb11, hp4, hq5, hd9, hk10⟩ := hr0.idx hy3
      subst hae
      obtain rfl := hd9
      refine LW.u (Pur.ix Try.underlying32 sz54 rfl rfl hp4 hq5) rfl ?_
      refine LW.l (Ldr.oldN w0 ag54 rfl rfl (fun j u hu => hk10 j u hu)) (hS2.same _ hb11.1 hb11.2) rfl ?_
      refine LW.alloc zv54 hS2 rfl ?_
      intro g12 w13 hS3 hf
      refine LW.stb hS3 0 rfl ag54 rfl rfl rfl rfl rfl ?_
      intro w14 hS4 hf
      refine LW.nil ?_
      show CW _ _ _ _ _ _
      refine CW.seq ?_
      refine CW.region ?_
      refine LW.u (Pur.fa fo54_0 rfl) rfl ?_
      refine LW.ldb hS4 0 rfl ag3 rfl rfl rfl ?_
      refine LW.p rfl rfl ?_
      refine LW.nil ?_
      show CW _ _ _ _ _ _
      refine CW.fresh (l := [(3, .int .i64 s1.1), (6, .slice (some ⟨b6, o7, none⟩) x0.length c0), (7, .int .i64 (x0.length : Int)), (8, .int .i64 s1.2), (14, .bool (y3.kind == 1))]) ⟨rfl, rfl, rfl, rfl, rfl, trivial⟩ (fun e => ?_)
      refine CW.cond rfl (fun hc15 => ?_) (fun hc15 => ?_)
      · replace h := bcT h hc15
        refine CW.region ?_
        iterate 3 refine LW.p rfl rfl ?_
        refine LW.nil ?_
        show CW _ _ _ _ _ _
        refine CW.region ?_
        iterate 2 refine LW.p rfl rfl ?_
        refine LW.nil ?_
        cases h
        exact ⟨rfl, ⟨⟨rfl, rfl, rfl, rfl, trivial⟩, hS4.pick [] rfl rfl⟩⟩
      replace h := bcF h hc15
      refine CW.skip ?_
      show CW _ _ _ _ _ _
      refine CW.region ?_
      iterate 2 refine LW.p rfl rfl ?_
      refine LW.nil ?_
      cases h
      exact ⟨rfl, ⟨⟨rfl, rfl, rfl, rfl, trivial⟩, hS4.pick [] rfl rfl⟩⟩
    replace h := bcF h hc2
    refine CW.exit ?_
    cases h
    exact ⟨trivial, rfl, ⟨⟨rfl, trivial⟩, hS2.pick [] rfl rfl⟩⟩
  intro x e w18 hM
  obtain ⟨rfl, hM⟩ := hM
  obtain ⟨hE, hS5⟩ := hM
  obtain ⟨e, rfl⟩ := hE.out
  have h := h17
  show CW _ _ _ _ _ _
  refine CW.seq ?_
  refine CW.region ?_
  iterate 2 refine LW.p rfl rfl ?_
  refine LW.nil ?_
  show CW _ _ _ _ _ _
  refine CW.ret ?_
  cases h
  exact And.intro trivial ⟨_, Res.one (resOne.t rfl), rfl, hS5.pick [] rfl rfl⟩

theorem W_l_eqCall {w0 : World} {N : Nat} {x0 : DCall} {x1 : DCall} {r : Bool} (h : F_l_eqCall N x0 x1 = some r) :
    Ret Try.prog 146 #[.agg #[.int .i64 x0.kind, .int .i64 x0.a, .int .i64 x0.b, .int .i64 x0.c, .int .i64 x0.d, .int .i64 x0.e], .agg #[.int .i64 x1.kind, .int .i64 x1.a, .int .i64 x1.b, .int .i64 x1.c, .int .i64 x1.d, .int .i64 x1.e]] w0 (fun v w => v = .bool r ∧ St w0 [] w []) := by
  unfold F_l_eqCall at h
  refine Ret.of Try.func146 rfl rfl rfl ?_
  have hS1 := St.start w0
  refine CW.seq ?_
  refine CW.region ?_
  refine LW.box (cs := [.int .i64 x0.kind, .int .i64 x0.a, .int .i64 x0.b, .int .i64 x0.c, .int .i64 x0.d, .int .i64 x0.e]) rfl hS1 rfl ?_
  intro g1 w2 hS2 hf
  refine LW.box (cs := [.int .i64 x1.kind, .int .i64 x1.a, .int .i64 x1.b, .int .i64 x1.c, .int .i64 x1.d, .int .i64 x1.e]) rfl hS2 rfl ?_
  intro g3 w4 hS3 hf
  refine LW.p rfl rfl ?_
  refine LW.nil ?_
  show CW _ _ _ _ _ _
  refine CW.seq ?_
  refine CW.seq ?_
  refine CW.region ?_
  refine LW.u (Pur.fa fo52_0 rfl) rfl ?_
  refine LW.ldb hS3 1 rfl ag3 rfl rfl rfl ?_
  refine LW.u (Pur.fa fo52_0 rfl) rfl ?_
  refine LW.ldb hS3 0 rfl ag3 rfl rfl rfl ?_
  refine LW.p rfl rfl ?_
  refine LW.nil ?_
  show CW _ _ _ _ _ _
  refine CW.cond rfl (fun hc5 => ?_) (fun hc5 => ?_)
  · replace h := bcT h hc5
    refine CW.seq ?_
    refine CW.region ?_
    refine LW.p rfl rfl ?_
    refine LW.nil ?_
    show CW _ _ _ _ _ _
    refine CW.ret ?_
    cases h
    exact And.intro trivial ⟨_, Res.one (resOne.t rfl), rfl, hS3.pick [] rfl rfl⟩
  replace h := bcF h hc5
  refine CW.skip ?_
  show CW _ _ _ _ _ _
  refine CW.seq ?_
  refine CW.seq ?_
  refine CW.region ?_
  refine LW.u (Pur.fa fo52_1 rfl) rfl ?_
  refine LW.ldb hS3 1 rfl ag3 rfl rfl rfl ?_
  refine LW.u (Pur.fa fo52_1 rfl) rfl ?_
  refine LW.ldb hS3 0 rfl ag3 rfl rfl rfl ?_
  refine LW.p rfl rfl ?_
  refine LW.nil ?_
  show CW _ _ _ _ _ _
  refine CW.fresh (l := [(2, .pointer (some ⟨g1, 0, none⟩)), (3, .pointer (some ⟨g3, 0, none⟩)), (14, .bool (x0.a != x1.a))]) ⟨rfl, rfl, rfl, trivial⟩ (fun e => ?_)
  refine CW.cond rfl (fun hc6 => ?_) (fun hc6 => ?_)
  · replace h := bcT h hc6
    refine CW.seq ?_
    refine CW.region ?_
    refine LW.p rfl rfl ?_
    refine LW.nil ?_
    show CW _ _ _ _ _ _
    refine CW.ret ?_
    cases h
    exact And.intro trivial ⟨_, Res.one (resOne.t rfl), rfl, hS3.pick [] rfl rfl⟩
  replace h := bcF h hc6
  refine CW.skip ?_
  show CW _ _ _ _ _ _
  refine CW.seq ?_
  refine CW.seq ?_
  refine CW.region ?_
  refine LW.u (Pur.fa fo52_2 rfl) rfl ?_
  refine LW.ldb hS3 1 rfl ag3 rfl rfl rfl ?_
  refine LW.u (Pur.fa fo52_2 rfl) rfl ?_
  refine LW.ldb hS3 0 rfl ag3 rfl rfl rfl ?_
  refine LW.p rfl rfl ?_
  refine LW.nil ?_
  show CW _ _ _ _ _ _
  refine CW.cond rfl (fun hc7 => ?_) (fun hc7 => ?_)
  · replace h := bcT h hc7
    refine CW.seq ?_
    refine CW.region ?_
    refine LW.p rfl rfl ?_
    refine LW.nil ?_
    show CW _ _ _ _ _ _
    refine CW.ret ?_
    cases h
    exact And.intro trivial ⟨_, Res.one (resOne.t rfl), rfl, hS3.pick [] rfl rfl⟩
  replace h := bcF h hc7
  refine CW.skip ?_
  show CW _ _ _ _ _ _
  refine CW.seq ?_
  refine CW.seq ?_
  refine CW.region ?_
  refine LW.u (Pur.fa fo52_3 rfl) rfl ?_
  refine LW.ldb hS3 1 rfl ag3 rfl rfl rfl ?_
  refine LW.u (Pur.fa fo52_3 rfl) rfl ?_
  refine LW.ldb hS3 0 rfl ag3 rfl rfl rfl ?_
  refine LW.p rfl rfl ?_
  refine LW.nil ?_
  show CW _ _ _ _ _ _
  refine CW.cond rfl (fun hc8 => ?_) (fun hc8 => ?_)
  · replace h := bcT h hc8
    refine CW.seq ?_
    refine CW.region ?_
    refine LW.p rfl rfl ?_
    refine LW.nil ?_
    show CW _ _ _ _ _ _
    refine CW.ret ?_
    cases h
    exact And.intro trivial ⟨_, Res.one (resOne.t rfl), rfl, hS3.pick [] rfl rfl⟩
  replace h := bcF h hc8
  refine CW.skip ?_
  show CW _ _ _ _ _ _
  refine CW.seq ?_
  refine CW.seq ?_
  refine CW.region ?_
  refine LW.u (Pur.fa fo52_4 rfl) rfl ?_
  refine LW.ldb hS3 1 rfl ag3 rfl rfl rfl ?_
  refine LW.u (Pur.fa fo52_4 rfl) rfl ?_
  refine LW.ldb hS3 0 rfl ag3 rfl rfl rfl ?_
  refine LW.p rfl rfl ?_
  refine LW.nil ?_
  show CW _ _ _ _ _ _
  refine CW.fresh (l := [(2, .pointer (some ⟨g1, 0, none⟩)), (3, .pointer (some ⟨g3, 0, none⟩)), (29, .bool (x0.d != x1.d))]) ⟨rfl, rfl, rfl, trivial⟩ (fun e => ?_)
  refine CW.cond rfl (fun hc9 => ?_) (fun hc9 => ?_)
  · replace h := bcT h hc9
    refine CW.seq ?_
    refine CW.region ?_
    refine LW.p rfl rfl ?_
    refine LW.nil ?_
    show CW _ _ _ _ _ _
    refine CW.ret ?_
    cases h
    exact And.intro trivial ⟨_, Res.one (resOne.t rfl), rfl, hS3.pick [] rfl rfl⟩
  replace h := bcF h hc9
  refine CW.skip ?_
  show CW _ _ _ _ _ _
  refine CW.seq ?_
  refine CW.seq ?_
  refine CW.region ?_
  refine LW.u (Pur.fa fo52_5 rfl) rfl ?_
  refine LW.ldb hS3 1 rfl ag3 rfl rfl rfl ?_
  refine LW.u (Pur.fa fo52_5 rfl) rfl ?_
  refine LW.ldb hS3 0 rfl ag3 rfl rfl rfl ?_
  refine LW.p rfl rfl ?_
  refine LW.nil ?_
  show CW _ _ _ _ _ _
  refine CW.cond rfl (fun hc10 => ?_) (fun hc10 => ?_)
  · replace h := bcT h hc10
    refine CW.seq ?_
    refine CW.region ?_
    refine LW.p rfl rfl ?_
    refine LW.nil ?_
    show CW _ _ _ _ _ _
    refine CW.ret ?_
    cases h
    exact And.intro trivial ⟨_, Res.one (resOne.t rfl), rfl, hS3.pick [] rfl rfl⟩
  replace h := bcF h hc10
  refine CW.skip ?_
  show CW _ _ _ _ _ _
  refine CW.seq ?_
  refine CW.region ?_
  refine LW.p rfl rfl ?_
  refine LW.nil ?_
  show CW _ _ _ _ _ _
  refine CW.ret ?_
  cases h
  exact And.intro trivial ⟨_, Res.one (resOne.t rfl), rfl, hS3.pick [] rfl rfl⟩

theorem W_l_eqEntry {w0 : World} {N : Nat} {x0 : DEntry} {x1 : DEntry} {r : Bool} (h : F_l_eqEntry N x0 x1 = some r) :
    Ret Try.prog 81 #[.agg #[.int .i64 x0.kind, .int .i64 x0.part, .int .i64 x0.thread, .int .i64 x0.call.kind, .int .i64 x0.call.a, .int .i64 x0.call.b, .int .i64 x0.call.c, .int .i64 x0.call.d, .int .i64 x0.call.e], .agg #[.int .i64 x1.kind, .int .i64 x1.part, .int .i64 x1.thread, .int .i64 x1.call.kind, .int .i64 x1.call.a, .int .i64 x1.call.b, .int .i64 x1.call.c, .int .i64 x1.call.d, .int .i64 x1.call.e]] w0 (fun v w => v = .bool r ∧ St w0 [] w []) := by
  unfold F_l_eqEntry at h
  refine Ret.of Try.func81 rfl rfl rfl ?_
  have hS1 := St.start w0
  refine CW.seq ?_
  refine CW.region ?_
  refine LW.box (cs := [.int .i64 x0.kind, .int .i64 x0.part, .int .i64 x0.thread, .int .i64 x0.call.kind, .int .i64 x0.call.a, .int .i64 x0.call.b, .int .i64 x0.call.c, .int .i64 x0.call.d, .int .i64 x0.call.e]) rfl hS1 rfl ?_
  intro g1 w2 hS2 hf
  refine LW.box (cs := [.int .i64 x1.kind, .int .i64 x1.part, .int .i64 x1.thread, .int .i64 x1.call.kind, .int .i64 x1.call.a, .int .i64 x1.call.b, .int .i64 x1.call.c, .int .i64 x1.call.d, .int .i64 x1.call.e]) rfl hS2 rfl ?_
  intro g3 w4 hS3 hf
  refine LW.p rfl rfl ?_
  refine LW.nil ?_
  show CW _ _ _ _ _ _
  refine CW.seq ?_
  refine CW.seq ?_
  refine CW.region ?_
  refine LW.u (Pur.fa fo54_0 rfl) rfl ?_
  refine LW.ldb hS3 1 rfl ag3 rfl rfl rfl ?_
  refine LW.u (Pur.fa fo54_0 rfl) rfl ?_
  refine LW.ldb hS3 0 rfl ag3 rfl rfl rfl ?_
  refine LW.p rfl rfl ?_
  refine LW.nil ?_
  show CW _ _ _ _ _ _
  refine CW.cond rfl (fun hc5 => ?_) (fun hc5 => ?_)
  · replace h := bcT h hc5
    refine CW.seq ?_
    refine CW.region ?_
    refine LW.p rfl rfl ?_
    refine LW.nil ?_
    show CW _ _ _ _ _ _
    refine CW.ret ?_
    cases h
    exact And.intro trivial ⟨_, Res.one (resOne.t rfl), rfl, hS3.pick [] rfl rfl⟩
  replace h := bcF h hc5
  refine CW.skip ?_
  show CW _ _ _ _ _ _
  refine CW.seq ?_
  refine CW.seq ?_
  refine CW.region ?_
  refine LW.u (Pur.fa fo54_1 rfl) rfl ?_
  refine LW.ldb hS3 1 rfl ag3 rfl rfl rfl ?_
  refine LW.u (Pur.fa fo54_1 rfl) rfl ?_
  refine LW.ldb hS3 0 rfl ag3 rfl rfl rfl ?_
  refine LW.p rfl rfl ?_
  refine LW.nil ?_
  show CW _ _ _ _ _ _
  refine CW.fresh (l := [(2, .pointer (some ⟨g1, 0, none⟩)), (3, .pointer (some ⟨g3, 0, none⟩)), (14, .bool (x0.part != x1.part))]) ⟨rfl, rfl, rfl, trivial⟩ (fun e => ?_)
  refine CW.cond rfl (fun hc6 => ?_) (fun hc6 => ?_)
  · replace h := bcT h hc6
    refine CW.seq ?_
    refine CW.region ?_
    refine LW.p rfl rfl ?_
    refine LW.nil ?_
    show CW _ _ _ _ _ _
    refine CW.ret ?_
    cases h
    exact And.intro trivial ⟨_, Res.one (resOne.t rfl), rfl, hS3.pick [] rfl rfl⟩
  replace h := bcF h hc6
  refine CW.skip ?_
  show CW _ _ _ _ _ _
  refine CW.seq ?_
  refine CW.seq ?_
  refine CW.region ?_
  refine LW.u (Pur.fa fo54_2 rfl) rfl ?_
  refine LW.ldb hS3 1 rfl ag3 rfl rfl rfl ?_
  refine LW.u (Pur.fa fo54_2 rfl) rfl ?_
  refine LW.ldb hS3 0 rfl ag3 rfl rfl rfl ?_
  refine LW.p rfl rfl ?_
  refine LW.nil ?_
  show CW _ _ _ _ _ _
  refine CW.cond rfl (fun hc7 => ?_) (fun hc7 => ?_)
  · replace h := bcT h hc7
    refine CW.seq ?_
    refine CW.region ?_
    refine LW.p rfl rfl ?_
    refine LW.nil ?_
    show CW _ _ _ _ _ _
    refine CW.ret ?_
    cases h
    exact And.intro trivial ⟨_, Res.one (resOne.t rfl), rfl, hS3.pick [] rfl rfl⟩
  replace h := bcF h hc7
  refine CW.skip ?_
  show CW _ _ _ _ _ _
  refine CW.seq ?_
  refine CW.seq ?_
  refine CW.region ?_
  refine LW.u (Pur.fa fo54_3 rfl) rfl ?_
  refine LW.ldbN hS3 1 rfl ag52 rfl rfl rfl ?_
  refine LW.u (Pur.fa fo54_3 rfl) rfl ?_
  refine LW.ldbN hS3 0 rfl ag52 rfl rfl rfl ?_
  replace h := obind h
  obtain ⟨y8, hy8, h⟩ := h
  have q := W_l_eqCall (w0 := w4) hy8
  refine LW.call pl146 rfl rfl ?_
  refine Ret.mono q ?_
  rintro _ w9 ⟨rfl, hs⟩
  have hS4 := hS3.add hs
  refine LW.p rfl rfl ?_
  refine LW.nil ?_
  show CW _ _ _ _ _ _
  refine CW.cond rfl (fun hc10 => ?_) (fun hc10 => ?_)
  · replace h := bcT h hc10
    refine CW.seq ?_
    refine CW.region ?_
    refine LW.p rfl rfl ?_
    refine LW.nil ?_
    show CW _ _ _ _ _ _
    refine CW.ret ?_
    cases h
    exact And.intro trivial ⟨_, Res.one (resOne.t rfl), rfl, hS4.pick [] rfl rfl⟩
  replace h := bcF h hc10
  refine CW.skip ?_
  show CW _ _ _ _ _ _
  refine CW.seq ?_
  refine CW.region ?_
  refine LW.p rfl rfl ?_
  refine LW.nil ?_
  show CW _ _ _ _ _ _
  refine CW.ret ?_
  cases h
  exact And.intro trivial ⟨_, Res.one (resOne.t rfl), rfl, hS4.pick [] rfl rfl⟩

theorem W_l_eqEntryS {w0 : World} {N : Nat} {x0 : List DEntry} {x1 : List DEntry} {r : Bool} (h : F_l_eqEntryS N x0 x1 = some r) {a0 : Option Addr} {n0 c0 : Nat} (hn0 : n0 = x0.length) (hr0 : rdS (Bor w0 []) w0 a0 c0 x0) {a1 : Option Addr} {n1 c1 : Nat} (hn1 : n1 = x1.length) (hr1 : rdS (Bor w0 []) w0 a1 c1 x1) :
    Ret Try.prog 27 #[.slice a0 n0 c0, .slice a1 n1 c1] w0 (fun v w => v = .bool r ∧ St w0 [] w []) := by
  subst hn0
  subst hn1
  unfold F_l_eqEntryS at h
  refine Ret.of Try.func27 rfl rfl rfl ?_
  have hS1 := St.start w0
  refine CW.seq ?_
  refine CW.region ?_
  refine LW.p rfl rfl ?_
  refine LW.nil ?_
  show CW _ _ _ _ _ _
  refine CW.seq ?_
  refine CW.seq ?_
  refine CW.region ?_
  refine LW.p rfl rfl ?_
  refine LW.u (Pur.len Try.underlying32 rfl) rfl ?_
  refine LW.p rfl rfl ?_
  refine LW.u (Pur.len Try.underlying32 rfl) rfl ?_
  refine LW.p rfl rfl ?_
  refine LW.nil ?_
  show CW _ _ _ _ _ _
  refine CW.cond rfl (fun hc1 => ?_) (fun hc1 => ?_)
  · replace h := bcT h hc1
    refine CW.seq ?_
    refine CW.region ?_
    refine LW.p rfl rfl ?_
    refine LW.nil ?_
    show CW _ _ _ _ _ _
    refine CW.ret ?_
    cases h
    exact And.intro trivial ⟨_, Res.one (resOne.t rfl), rfl, hS1.pick [] rfl rfl⟩
  replace h := bcF h hc1
  refine CW.skip ?_
  show CW _ _ _ _ _ _
  refine CW.seq ?_
  refine CW.seq ?_
  refine CW.region ?_
  refine LW.p rfl rfl ?_
  refine LW.nil ?_
  show CW _ _ _ _ _ _
  refine CW.block ?_
  obtain ⟨o25, ho25, h26⟩ := obind h
  refine CW.mono (CW.iter (σ := Int) (ρ := Int ⊕ Bool) (fun s2 e w => En e [(0, .slice a0 x0.length c0), (1, .slice a1 x1.length c1), (5, .int .i64 s2)] ∧ St w0 [] w []) (fun o x e w => match o with | .inl s2 => x = .exit 0 ∧ En e [] ∧ St w0 [] w [] | .inr r => x = .ret ∧ ∃ u, u = r ∧ ∃ v, Res Try.prog Try.f27.results e w v ∧ v = .bool u ∧ St w0 [] w []) ?_ N _ _ _ _ ⟨⟨rfl, rfl, rfl, trivial⟩, hS1.pick [] rfl rfl⟩ ho25) ?_
  · intro s2 e w o hM h
    obtain ⟨hE, hS2⟩ := hM
    obtain ⟨e, rfl⟩ := hE.out
    refine CW.seq ?_
    refine CW.seq ?_
    refine CW.region ?_
    iterate 2 refine LW.p rfl rfl ?_
    refine LW.u (Pur.len Try.underlying32 rfl) rfl ?_
    refine LW.p rfl rfl ?_
    refine LW.nil ?_
    show CW _ _ _ _ _ _
    refine CW.cond rfl (fun hc3 => ?_) (fun hc3 => ?_)
    · replace h := bcT h hc3
      refine CW.skip ?_
      show CW _ _ _ _ _ _
      refine CW.seq ?_
      refine CW.block ?_
      refine CW.seq ?_
      refine CW.draw (by kernel_rfl) ?_
      have hS3 := hS2.drew
      refine AW.u (i := 0) rfl (by kernel_rfl) rfl rfl (Pur.p rfl) ?_
      refine AW.u (i := 1) rfl (by kernel_rfl) rfl rfl (Pur.p rfl) ?_
      replace h := obind h
      obtain ⟨y4, hy4, h⟩ := h
      obtain ⟨b7, o8, cs9, hae, hb12, hp5, hq6, hd10, hk11⟩ := hr0.idx hy4
      subst hae
      obtain rfl := hd10
      refine AW.u (i := 2) rfl (by kernel_rfl) rfl rfl (Pur.ix Try.underlying32 sz54 rfl rfl hp5 hq6) ?_
      refine AW.take (i := 3) rfl (by kernel_rfl) rfl rfl (Ldr.oldN w0 ag54 rfl rfl (fun j u hu => hk11 j u hu)) (hS3.same _ hb12.1 hb12.2) ?_
      refine AW.u (i := 4) rfl (by kernel_rfl) rfl rfl (Pur.p rfl) ?_
      refine AW.u (i := 5) rfl (by kernel_rfl) rfl rfl (Pur.p rfl) ?_
      replace h := obind h
      obtain ⟨y13, hy13, h⟩ := h
      obtain ⟨b16, o17, cs18, hae, hb21, hp14, hq15, hd19, hk20⟩ := hr1.idx hy13
      subst hae
      obtain rfl := hd19
      refine AW.u (i := 6) rfl (by kernel_rfl) rfl rfl (Pur.ix Try.underlying32 sz54 rfl rfl hp14 hq15) ?_
      refine AW.take (i := 7) rfl (by kernel_rfl) rfl rfl (Ldr.oldN w0 ag54 rfl rfl (fun j u hu => hk20 j u hu)) (hS3.same _ hb21.1 hb21.2) ?_
      replace h := obind h
      obtain ⟨y22, hy22, h⟩ := h
      have q := W_l_eqEntry (w0 := w.drew) hy22
      refine AW.one (i := 8) (by kernel_rfl) ?_
      refine ⟨_, rfl, ?_⟩
      refine LW.call pl81 rfl rfl ?_
      refine Ret.mono q ?_
      rintro _ w23 ⟨rfl, hs⟩
      have hS4 := hS3.add hs
      refine LW.nil ⟨rfl, (.w (by kernel_rfl) (.w (by kernel_rfl) Kept.n)), ?_⟩
      refine AW.u (i := 9) rfl (by kernel_rfl) rfl rfl (Pur.p rfl) ?_
      refine AW.done (by kernel_rfl) ?_
      show CW _ _ _ _ _ _
      refine CW.cond rfl (fun hc24 => ?_) (fun hc24 => ?_)
      · replace h := bcT h hc24
        refine CW.seq ?_
        refine CW.region ?_
        refine LW.p rfl rfl ?_
        refine LW.nil ?_
        show CW _ _ _ _ _ _
        refine CW.ret ?_
        cases h
        exact ⟨trivial, rfl, _, rfl, ⟨_, Res.one (resOne.t rfl), rfl, hS4.pick [] rfl rfl⟩⟩
      replace h := bcF h hc24
      refine CW.skip ?_
      show CW _ _ _ _ _ _
      refine CW.region ?_
      iterate 3 refine LW.p rfl rfl ?_
      refine LW.nil ?_
      cases h
      exact ⟨rfl, ⟨⟨rfl, rfl, rfl, trivial⟩, hS4.pick [] rfl rfl⟩⟩
    replace h := bcF h hc3
    refine CW.exit ?_
    cases h
    exact ⟨trivial, rfl, ⟨trivial, hS2.pick [] rfl rfl⟩⟩
  intro x e w27 hM
  rcases o25 with o25 | r28
  · obtain ⟨rfl, hM⟩ := hM
    obtain ⟨hE, hS5⟩ := hM
    obtain ⟨e, rfl⟩ := hE.out
    have h := h26
    show CW _ _ _ _ _ _
    refine CW.seq ?_
    refine CW.region ?_
    refine LW.p rfl rfl ?_
    refine LW.nil ?_
    show CW _ _ _ _ _ _
    refine CW.ret ?_
    cases h
    exact And.intro trivial ⟨_, Res.one (resOne.t rfl), rfl, hS5.pick [] rfl rfl⟩
  obtain ⟨rfl, u, rfl, hM⟩ := hM
  cases h26
  exact And.intro trivial hM

theorem W_l_FnExactTicks {w0 : World} {N : Nat} {x0 : List DEntry} {r : Bool} (h : F_l_FnExactTicks N x0 = some r) {a0 : Option Addr} {n0 c0 : Nat} (hn0 : n0 = x0.length) (hr0 : rdS (Bor w0 []) w0 a0 c0 x0) :
    Ret Try.prog 5 #[.slice a0 n0 c0] w0 (fun v w => v = .bool r ∧ St w0 [] w []) := by
  subst hn0
  unfold F_l_FnExactTicks at h
  refine Ret.of Try.func5 rfl rfl rfl ?_
  have hS1 := St.start w0
  refine CW.seq ?_
  refine CW.region ?_
  refine LW.p rfl rfl ?_
  refine LW.nil ?_
  show CW _ _ _ _ _ _
  refine CW.seq ?_
  refine CW.region ?_
  refine LW.p rfl rfl ?_
  refine LW.nil ?_
  show CW _ _ _ _ _ _
  refine CW.seq ?_
  refine CW.region ?_
  iterate 2 refine LW.p rfl rfl ?_
  replace h := obind h
  obtain ⟨y1, hy1, h⟩ := h
  have q := W_l_szEntryS (w0 := w0) hy1 rfl (hS1.rB hr0)
  refine LW.call pl23 rfl rfl ?_
  refine Ret.mono q ?_
  rintro _ w2 ⟨rfl, hs⟩
  have hS2 := hS1.add hs
  refine LW.p rfl rfl ?_
  refine LW.nil ?_
  show CW _ _ _ _ _ _
  refine CW.seq ?_
  refine CW.seq ?_
  refine CW.region ?_
  iterate 2 refine LW.p rfl rfl ?_
  refine LW.nil ?_
  show CW _ _ _ _ _ _
  refine CW.cond rfl (fun hc3 => ?_) (fun hc3 => ?_)
  · replace h := bcT h hc3
    refine CW.seq ?_
    refine CW.region ?_
    refine LW.p rfl rfl ?_
    refine LW.nil ?_
    show CW _ _ _ _ _ _
    refine CW.ret ?_
    cases h
    exact And.intro trivial ⟨_, Res.one (resOne.t rfl), rfl, hS2.pick [] rfl rfl⟩
  replace h := bcF h hc3
  refine CW.skip ?_
  show CW _ _ _ _ _ _
  refine CW.seq ?_
  refine CW.region ?_
  refine LW.p rfl rfl ?_
  replace h := obind h
  obtain ⟨y4, hy4, h⟩ := h
  have q := W_l_toEntryS (w0 := w2) hy4 rfl (hS2.rB hr0)
  refine LW.call pl25 rfl rfl ?_
  refine Ret.mono q ?_
  rintro _ w7 ⟨a5, c6, rfl, hs⟩
  have hS3 := hS2.add hs
  replace h := obind h
  obtain ⟨y8, hy8, h⟩ := h
  have q := W_s_Ticks (w0 := w7) hy8 rfl (hS3.rI 0 rfl)
  refine LW.call pl24 rfl rfl ?_
  refine Ret.mono q ?_
  rintro _ w9 ⟨rfl, hs⟩
  have hS4 := hS3.add hs
  refine LW.p rfl rfl ?_
  refine LW.nil ?_
  show CW _ _ _ _ _ _
  refine CW.seq ?_
  refine CW.region ?_
  refine LW.p rfl rfl ?_
  replace h := obind h
  obtain ⟨y10, hy10, h⟩ := h
  have q := W_l_toEntryS (w0 := w9) hy10 rfl (hS4.rB hr0)
  refine LW.call pl25 rfl rfl ?_
  refine Ret.mono q ?_
  rintro _ w13 ⟨a11, c12, rfl, hs⟩
  have hS5 := hS4.add hs
  refine LW.p rfl rfl ?_
  refine LW.nil ?_
  show CW _ _ _ _ _ _
  refine CW.fresh (l := [(0, .slice a0 x0.length c0), (4, .int .i64 y8), (5, .slice a11 y10.length c12)]) ⟨rfl, rfl, rfl, trivial⟩ (fun e => ?_)
  refine CW.seq ?_
  refine CW.region ?_
  refine LW.p rfl rfl ?_
  replace h := obind h
  obtain ⟨y14, hy14, h⟩ := h
  have q := W_i_Ticks (w0 := w13) hy14 rfl (hS5.rI 0 rfl)
  refine LW.call pl26 rfl rfl ?_
  refine Ret.mono q ?_
  rintro _ w15 ⟨rfl, hs⟩
  have hS6 := hS5.add hs
  refine LW.p rfl rfl ?_
  refine LW.nil ?_
  show CW _ _ _ _ _ _
  refine CW.seq ?_
  refine CW.seq ?_
  refine CW.region ?_
  iterate 3 refine LW.p rfl rfl ?_
  refine LW.nil ?_
  show CW _ _ _ _ _ _
  refine CW.cond rfl (fun hc16 => ?_) (fun hc16 => ?_)
  · replace h := bcT h hc16
    refine CW.seq ?_
    refine CW.region ?_
    refine LW.p rfl rfl ?_
    refine LW.nil ?_
    show CW _ _ _ _ _ _
    refine CW.ret ?_
    cases h
    exact And.intro trivial ⟨_, Res.one (resOne.t rfl), rfl, hS6.pick [] rfl rfl⟩
  replace h := bcF h hc16
  refine CW.skip ?_
  show CW _ _ _ _ _ _
  refine CW.seq ?_
  refine CW.seq ?_
  refine CW.region ?_
  iterate 2 refine LW.p rfl rfl ?_
  replace h := obind h
  obtain ⟨y17, hy17, h⟩ := h
  have q := W_l_toEntryS (w0 := w15) hy17 rfl (hS6.rB hr0)
  refine LW.call pl25 rfl rfl ?_
  refine Ret.mono q ?_
  rintro _ w20 ⟨a18, c19, rfl, hs⟩
  have hS7 := hS6.add hs
  replace h := obind h
  obtain ⟨y21, hy21, h⟩ := h
  have q := W_l_eqEntryS (w0 := w20) hy21 rfl (hS7.rI 1 rfl) rfl (hS7.rI 0 rfl)
  refine LW.call pl27 rfl rfl ?_
  refine Ret.mono q ?_
  rintro _ w22 ⟨rfl, hs⟩
  have hS8 := hS7.add hs
  refine LW.p rfl rfl ?_
  refine LW.nil ?_
  show CW _ _ _ _ _ _
  refine CW.cond rfl (fun hc23 => ?_) (fun hc23 => ?_)
  · replace h := bcT h hc23
    refine CW.seq ?_
    refine CW.region ?_
    refine LW.p rfl rfl ?_
    refine LW.nil ?_
    show CW _ _ _ _ _ _
    refine CW.ret ?_
    cases h
    exact And.intro trivial ⟨_, Res.one (resOne.t rfl), rfl, hS8.pick [] rfl rfl⟩
  replace h := bcF h hc23
  refine CW.skip ?_
  show CW _ _ _ _ _ _
  refine CW.seq ?_
  refine CW.region ?_
  refine LW.p rfl rfl ?_
  refine LW.nil ?_
  show CW _ _ _ _ _ _
  refine CW.ret ?_
  cases h
  exact And.intro trivial ⟨_, Res.one (resOne.t rfl), rfl, hS8.pick [] rfl rfl⟩

theorem W_l_szIntS {w0 : World} {N : Nat} {x0 : List Int} {x1 : Int} {r : Int} (h : F_l_szIntS N x0 x1 = some r) {a0 : Option Addr} {n0 c0 : Nat} (hn0 : n0 = x0.length) (hr0 : rdS (Bor w0 []) w0 a0 c0 x0) :
    Ret Try.prog 88 #[.slice a0 n0 c0, .int .i64 x1] w0 (fun v w => v = .int .i64 r ∧ St w0 [] w []) := by
  subst hn0
  unfold F_l_szIntS at h
  refine Ret.of Try.func88 rfl rfl rfl ?_
  have hS1 := St.start w0
  refine CW.seq ?_
  refine CW.region ?_
  refine LW.p rfl rfl ?_
  refine LW.nil ?_
  show CW _ _ _ _ _ _
  refine CW.seq ?_
  refine CW.region ?_
  iterate 2 refine LW.p rfl rfl ?_
  refine LW.u (Pur.len Try.underlying47 rfl) rfl ?_
  iterate 2 refine LW.p rfl rfl ?_
  refine LW.nil ?_
  show CW _ _ _ _ _ _
  refine CW.seq ?_
  refine CW.seq ?_
  refine CW.region ?_
  iterate 2 refine LW.p rfl rfl ?_
  refine LW.nil ?_
  show CW _ _ _ _ _ _
  refine CW.cond rfl (fun hc1 => ?_) (fun hc1 => ?_)
  · replace h := bcT h hc1
    refine CW.seq ?_
    refine CW.region ?_
    refine LW.p rfl rfl ?_
    refine LW.nil ?_
    show CW _ _ _ _ _ _
    refine CW.ret ?_
    cases h
    exact And.intro trivial ⟨_, Res.one (resOne.t rfl), rfl, hS1.pick [] rfl rfl⟩
  replace h := bcF h hc1
  refine CW.skip ?_
  show CW _ _ _ _ _ _
  refine CW.seq ?_
  refine CW.region ?_
  iterate 2 refine LW.p rfl rfl ?_
  refine LW.nil ?_
  show CW _ _ _ _ _ _
  refine CW.ret ?_
  cases h
  exact And.intro trivial ⟨_, Res.one (resOne.t rfl), rfl, hS1.pick [] rfl rfl⟩

theorem W_l_szLabel {w0 : World} {N : Nat} {x0 : DLabel} {x1 : Int} {r : Int} (h : F_l_szLabel N x0 x1 = some r) {a0_0 : Option Addr} {n0_0 c0_0 : Nat} (hn0_0 : n0_0 = x0.levels.length) (hr0_0 : rdS (Bor w0 []) w0 a0_0 c0_0 x0.levels) :
    Ret Try.prog 33 #[.agg #[.slice a0_0 n0_0 c0_0], .int .i64 x1] w0 (fun v w => v = .int .i64 r ∧ St w0 [] w []) := by
  subst hn0_0
  unfold F_l_szLabel at h
  refine Ret.of Try.func33 rfl rfl rfl ?_
  have hS1 := St.start w0
  refine CW.seq ?_
  refine CW.region ?_
  refine LW.box (cs := [.slice a0_0 x0.levels.length c0_0]) rfl hS1 rfl ?_
  intro g1 w2 hS2 hf
  refine LW.p rfl rfl ?_
  refine LW.nil ?_
  show CW _ _ _ _ _ _
  refine CW.seq ?_
  refine CW.region ?_
  refine LW.u (Pur.fa fo49_0 rfl) rfl ?_
  refine LW.ldb hS2 0 rfl ag47 rfl rfl rfl ?_
  refine LW.p rfl rfl ?_
  replace h := obind h
  obtain ⟨y3, hy3, h⟩ := h
  have q := W_l_szIntS (w0 := w2) hy3 rfl (hS2.rB hr0_0)
  refine LW.call pl88 rfl rfl ?_
  refine Ret.mono q ?_
  rintro _ w4 ⟨rfl, hs⟩
  have hS3 := hS2.add hs
  refine LW.p rfl rfl ?_
  refine LW.nil ?_
  show CW _ _ _ _ _ _
  refine CW.seq ?_
  refine CW.seq ?_
  refine CW.region ?_
  iterate 2 refine LW.p rfl rfl ?_
  refine LW.nil ?_
  show CW _ _ _ _ _ _
  refine CW.cond rfl (fun hc5 => ?_) (fun hc5 => ?_)
  · replace h := bcT h hc5
    refine CW.seq ?_
    refine CW.region ?_
    refine LW.p rfl rfl ?_
    refine LW.nil ?_
    show CW _ _ _ _ _ _
    refine CW.ret ?_
    cases h
    exact And.intro trivial ⟨_, Res.one (resOne.t rfl), rfl, hS3.pick [] rfl rfl⟩
  replace h := bcF h hc5
  refine CW.skip ?_
  show CW _ _ _ _ _ _
  refine CW.seq ?_
  refine CW.region ?_
  iterate 2 refine LW.p rfl rfl ?_
  refine LW.nil ?_
  show CW _ _ _ _ _ _
  refine CW.ret ?_
  cases h
  exact And.intro trivial ⟨_, Res.one (resOne.t rfl), rfl, hS3.pick [] rfl rfl⟩

theorem W_l_szPartBoot {w0 : World} {N : Nat} {x0 : DBoot} {x1 : Int} {r : Int} (h : F_l_szPartBoot N x0 x1 = some r) {a0_0 : Option Addr} {n0_0 c0_0 : Nat} (hn0_0 : n0_0 = x0.label.levels.length) (hr0_0 : rdS (Bor w0 []) w0 a0_0 c0_0 x0.label.levels) {a0_1 : Option Addr} {n0_1 c0_1 : Nat} (hn0_1 : n0_1 = x0.own.length) (hr0_1 : rdS (Bor w0 []) w0 a0_1 c0_1 x0.own) :
    Ret Try.prog 68 #[.agg #[.slice a0_0 n0_0 c0_0, .slice a0_1 n0_1 c0_1, .int .i64 x0.amt.pages, .int .i64 x0.amt.rent, .int .i64 x0.amt.cpu], .int .i64 x1] w0 (fun v w => v = .int .i64 r ∧ St w0 [] w []) := by
  subst hn0_0
  subst hn0_1
  unfold F_l_szPartBoot at h
  refine Ret.of Try.func68 rfl rfl rfl ?_
  have hS1 := St.start w0
  refine CW.seq ?_
  refine CW.region ?_
  refine LW.box (cs := [.slice a0_0 x0.label.levels.length c0_0, .slice a0_1 x0.own.length c0_1, .int .i64 x0.amt.pages, .int .i64 x0.amt.rent, .int .i64 x0.amt.cpu]) rfl hS1 rfl ?_
  intro g1 w2 hS2 hf
  refine LW.p rfl rfl ?_
  refine LW.nil ?_
  show CW _ _ _ _ _ _
  refine CW.seq ?_
  refine CW.region ?_
  refine LW.u (Pur.fa fo111_0 rfl) rfl ?_
  refine LW.ldbN hS2 0 rfl ag49 rfl rfl rfl ?_
  refine LW.p rfl rfl ?_
  replace h := obind h
  obtain ⟨y3, hy3, h⟩ := h
  have q := W_l_szLabel (w0 := w2) hy3 rfl (hS2.rB hr0_0)
  refine LW.call pl33 rfl rfl ?_
  refine Ret.mono q ?_
  rintro _ w4 ⟨rfl, hs⟩
  have hS3 := hS2.add hs
  refine LW.p rfl rfl ?_
  refine LW.nil ?_
  show CW _ _ _ _ _ _
  refine CW.seq ?_
  refine CW.seq ?_
  refine CW.region ?_
  iterate 2 refine LW.p rfl rfl ?_
  refine LW.nil ?_
  show CW _ _ _ _ _ _
  refine CW.cond rfl (fun hc5 => ?_) (fun hc5 => ?_)
  · replace h := bcT h hc5
    refine CW.seq ?_
    refine CW.region ?_
    refine LW.p rfl rfl ?_
    refine LW.nil ?_
    show CW _ _ _ _ _ _
    refine CW.ret ?_
    cases h
    exact And.intro trivial ⟨_, Res.one (resOne.t rfl), rfl, hS3.pick [] rfl rfl⟩
  replace h := bcF h hc5
  refine CW.skip ?_
  show CW _ _ _ _ _ _
  refine CW.seq ?_
  refine CW.region ?_
  refine LW.u (Pur.fa fo111_1 rfl) rfl ?_
  refine LW.ldb hS3 0 rfl ag47 rfl rfl rfl ?_
  refine LW.p rfl rfl ?_
  replace h := obind h
  obtain ⟨y6, hy6, h⟩ := h
  have q := W_l_szIntS (w0 := w4) hy6 rfl (hS3.rB hr0_1)
  refine LW.call pl88 rfl rfl ?_
  refine Ret.mono q ?_
  rintro _ w7 ⟨rfl, hs⟩
  have hS4 := hS3.add hs
  refine LW.p rfl rfl ?_
  refine LW.nil ?_
  show CW _ _ _ _ _ _
  refine CW.fresh (l := [(1, .int .i64 y6)]) ⟨rfl, trivial⟩ (fun e => ?_)
  refine CW.seq ?_
  refine CW.seq ?_
  refine CW.region ?_
  iterate 2 refine LW.p rfl rfl ?_
  refine LW.nil ?_
  show CW _ _ _ _ _ _
  refine CW.cond rfl (fun hc8 => ?_) (fun hc8 => ?_)
  · replace h := bcT h hc8
    refine CW.seq ?_
    refine CW.region ?_
    refine LW.p rfl rfl ?_
    refine LW.nil ?_
    show CW _ _ _ _ _ _
    refine CW.ret ?_
    cases h
    exact And.intro trivial ⟨_, Res.one (resOne.t rfl), rfl, hS4.pick [] rfl rfl⟩
  replace h := bcF h hc8
  refine CW.skip ?_
  show CW _ _ _ _ _ _
  refine CW.seq ?_
  refine CW.region ?_
  iterate 2 refine LW.p rfl rfl ?_
  refine LW.nil ?_
  show CW _ _ _ _ _ _
  refine CW.ret ?_
  cases h
  exact And.intro trivial ⟨_, Res.one (resOne.t rfl), rfl, hS4.pick [] rfl rfl⟩

theorem W_l_szPartBootS {w0 : World} {N : Nat} {x0 : List DBoot} {x1 : Int} {r : Int} (h : F_l_szPartBootS N x0 x1 = some r) {a0 : Option Addr} {n0 c0 : Nat} (hn0 : n0 = x0.length) (hr0 : rdS (Bor w0 []) w0 a0 c0 x0) :
    Ret Try.prog 28 #[.slice a0 n0 c0, .int .i64 x1] w0 (fun v w => v = .int .i64 r ∧ St w0 [] w []) := by
  subst hn0
  unfold F_l_szPartBootS at h
  refine Ret.of Try.func28 rfl rfl rfl ?_
  have hS1 := St.start w0
  refine CW.seq ?_
  refine CW.region ?_
  refine LW.p rfl rfl ?_
  refine LW.nil ?_
  show CW _ _ _ _ _ _
  refine CW.seq ?_
  refine CW.region ?_
  iterate 2 refine LW.p rfl rfl ?_
  refine LW.u (Pur.len Try.underlying36 rfl) rfl ?_
  iterate 2 refine LW.p rfl rfl ?_
  refine LW.nil ?_
  show CW _ _ _ _ _ _
  refine CW.seq ?_
  refine CW.seq ?_
  refine CW.region ?_
  iterate 2 refine LW.p rfl rfl ?_
  refine LW.nil ?_
  show CW _ _ _ _ _ _
  refine CW.cond rfl (fun hc1 => ?_) (fun hc1 => ?_)
  · replace h := bcT h hc1
    refine CW.seq ?_
    refine CW.region ?_
    refine LW.p rfl rfl ?_
    refine LW.nil ?_
    show CW _ _ _ _ _ _
    refine CW.ret ?_
    cases h
    exact And.intro trivial ⟨_, Res.one (resOne.t rfl), rfl, hS1.pick [] rfl rfl⟩
  replace h := bcF h hc1
  refine CW.skip ?_
  show CW _ _ _ _ _ _
  refine CW.seq ?_
  refine CW.seq ?_
  refine CW.region ?_
  refine LW.p rfl rfl ?_
  refine LW.nil ?_
  show CW _ _ _ _ _ _
  refine CW.block ?_
  obtain ⟨o22, ho22, h23⟩ := obind h
  refine CW.mono (CW.iter (σ := Int × Int) (ρ := (Int × Int) ⊕ Int) (fun s2 e w => En e [(0, .slice a0 x0.length c0), (1, .int .i64 s2.1), (5, .int .i64 s2.2)] ∧ St w0 [] w []) (fun o x e w => match o with | .inl s2 => x = .exit 0 ∧ En e [(1, .int .i64 s2.1)] ∧ St w0 [] w [] | .inr r => x = .ret ∧ ∃ u, u = r ∧ ∃ v, Res Try.prog Try.f28.results e w v ∧ v = .int .i64 u ∧ St w0 [] w []) ?_ N _ _ _ _ ⟨⟨rfl, rfl, rfl, trivial⟩, hS1.pick [] rfl rfl⟩ ho22) ?_
  · intro s2 e w o hM h
    obtain ⟨hE, hS2⟩ := hM
    obtain ⟨e, rfl⟩ := hE.out
    refine CW.seq ?_
    refine CW.seq ?_
    refine CW.region ?_
    iterate 2 refine LW.p rfl rfl ?_
    refine LW.u (Pur.len Try.underlying36 rfl) rfl ?_
    refine LW.p rfl rfl ?_
    refine LW.nil ?_
    show CW _ _ _ _ _ _
    refine CW.fresh (l := [(0, .slice a0 x0.length c0), (1, .int .i64 s2.1), (5, .int .i64 s2.2), (15, .bool (decide (s2.2 < (x0.length : Int))))]) ⟨rfl, rfl, rfl, rfl, trivial⟩ (fun e => ?_)
    refine CW.cond rfl (fun hc3 => ?_) (fun hc3 => ?_)
    · replace h := bcT h hc3
      refine CW.skip ?_
      show CW _ _ _ _ _ _
      refine CW.seq ?_
      refine CW.block ?_
      refine CW.seq ?_
      refine CW.region ?_
      iterate 2 refine LW.p rfl rfl ?_
      replace h := obind h
      obtain ⟨y4, hy4, h⟩ := h
      obtain ⟨b7, o8, cs9, hae, hb12, hp5, hq6, hd10, hk11⟩ := hr0.idx hy4
      subst hae
      obtain ⟨a13, c14, a16, c17, rfl, hr15, hr18⟩ := hd10
      refine LW.u (Pur.ix Try.underlying36 sz111 rfl rfl hp5 hq6) rfl ?_
      refine LW.l (Ldr.oldN w0 ag111 rfl rfl (fun j u hu => hk11 j u hu)) (hS2.same _ hb12.1 hb12.2) rfl ?_
      refine LW.p rfl rfl ?_
      replace h := obind h
      obtain ⟨y19, hy19, h⟩ := h
      have q := W_l_szPartBoot (w0 := w) hy19 rfl (hS2.rB hr15) rfl (hS2.rB hr18)
      refine LW.call pl68 rfl rfl ?_
      refine Ret.mono q ?_
      rintro _ w20 ⟨rfl, hs⟩
      have hS3 := hS2.add hs
      refine LW.p rfl rfl ?_
      refine LW.nil ?_
      show CW _ _ _ _ _ _
      refine CW.seq ?_
      refine CW.region ?_
      iterate 2 refine LW.p rfl rfl ?_
      refine LW.nil ?_
      show CW _ _ _ _ _ _
      refine CW.cond rfl (fun hc21 => ?_) (fun hc21 => ?_)
      · replace h := bcT h hc21
        refine CW.seq ?_
        refine CW.region ?_
        refine LW.p rfl rfl ?_
        refine LW.nil ?_
        show CW _ _ _ _ _ _
        refine CW.ret ?_
        cases h
        exact ⟨trivial, rfl, _, rfl, ⟨_, Res.one (resOne.t rfl), rfl, hS3.pick [] rfl rfl⟩⟩
      replace h := bcF h hc21
      refine CW.skip ?_
      show CW _ _ _ _ _ _
      refine CW.region ?_
      iterate 3 refine LW.p rfl rfl ?_
      refine LW.nil ?_
      cases h
      exact ⟨rfl, ⟨⟨rfl, rfl, rfl, trivial⟩, hS3.pick [] rfl rfl⟩⟩
    replace h := bcF h hc3
    refine CW.exit ?_
    cases h
    exact ⟨trivial, rfl, ⟨⟨rfl, trivial⟩, hS2.pick [] rfl rfl⟩⟩
  intro x e w24 hM
  rcases o22 with o22 | r25
  · obtain ⟨rfl, hM⟩ := hM
    obtain ⟨hE, hS4⟩ := hM
    obtain ⟨e, rfl⟩ := hE.out
    have h := h23
    show CW _ _ _ _ _ _
    refine CW.seq ?_
    refine CW.region ?_
    iterate 2 refine LW.p rfl rfl ?_
    refine LW.nil ?_
    show CW _ _ _ _ _ _
    refine CW.ret ?_
    cases h
    exact And.intro trivial ⟨_, Res.one (resOne.t rfl), rfl, hS4.pick [] rfl rfl⟩
  obtain ⟨rfl, u, rfl, hM⟩ := hM
  cases h23
  exact And.intro trivial hM

theorem W_l_toIntS {w0 : World} {N : Nat} {x0 : List Int} {r : (List Int)} (h : F_l_toIntS N x0 = some r) {a0 : Option Addr} {n0 c0 : Nat} (hn0 : n0 = x0.length) (hr0 : rdS (Bor w0 []) w0 a0 c0 x0) :
    Ret Try.prog 91 #[.slice a0 n0 c0] w0 (fun v w => ∃ ar0 cr0, v = .slice ar0 r.length cr0 ∧ St w0 [] w [sl ar0 cr0 r]) := by
  subst hn0
  unfold F_l_toIntS at h
  refine Ret.of Try.func91 rfl rfl rfl ?_
  have hS1 := St.start w0
  refine CW.seq ?_
  refine CW.region ?_
  refine LW.p rfl rfl ?_
  refine LW.nil ?_
  show CW _ _ _ _ _ _
  refine CW.seq ?_
  refine CW.region ?_
  refine LW.p rfl rfl ?_
  refine LW.u (Pur.len Try.underlying47 rfl) rfl ?_
  replace h := obind h
  obtain ⟨y1, hy1, h⟩ := h
  refine LW.mk sT47 rfl rfl hy1 hS1 rfl ?_
  intro a2 c3 w4 hS2 hf
  refine LW.p rfl rfl ?_
  refine LW.nil ?_
  show CW _ _ _ _ _ _
  refine CW.seq ?_
  refine CW.seq ?_
  refine CW.region ?_
  refine LW.p rfl rfl ?_
  refine LW.nil ?_
  show CW _ _ _ _ _ _
  refine CW.block ?_
  obtain ⟨o22, ho22, h23⟩ := obind h
  refine CW.mono (CW.iter (σ := (List Int) × Int) (ρ := (List Int) × Int) (fun s5 e w => ∃ (s5a0 : Option Addr), ∃ (s5c0 : Nat), En e [(0, .slice a0 x0.length c0), (3, .slice s5a0 s5.1.length s5c0), (4, .int .i64 s5.2)] ∧ St w0 [] w [sl s5a0 s5c0 s5.1]) (fun s5 x e w => x = .exit 0 ∧ ∃ (s5a0 : Option Addr), ∃ (s5c0 : Nat), En e [(3, .slice s5a0 s5.1.length s5c0)] ∧ St w0 [] w [sl s5a0 s5c0 s5.1]) ?_ N _ _ _ _ ⟨a2, c3, ⟨rfl, rfl, rfl, trivial⟩, hS2.pick [0] rfl rfl⟩ ho22) ?_
  · intro s5 e w o hM h
    obtain ⟨s5a0, s5c0, hE, hS3⟩ := hM
    obtain ⟨e, rfl⟩ := hE.out
    refine CW.seq ?_
    refine CW.seq ?_
    refine CW.region ?_
    iterate 2 refine LW.p rfl rfl ?_
    refine LW.u (Pur.len Try.underlying47 rfl) rfl ?_
    refine LW.p rfl rfl ?_
    refine LW.nil ?_
    show CW _ _ _ _ _ _
    refine CW.cond rfl (fun hc6 => ?_) (fun hc6 => ?_)
    · replace h := bcT h hc6
      refine CW.skip ?_
      show CW _ _ _ _ _ _
      refine CW.seq ?_
      refine CW.block ?_
      refine CW.region ?_
      iterate 4 refine LW.p rfl rfl ?_
      replace h := obind h
      obtain ⟨y7, hy7, h⟩ := h
      obtain ⟨b10, o11, cs12, hae, hb15, hp8, hq9, hd13, hk14⟩ := hr0.idx hy7
      subst hae
      obtain rfl := hd13
      refine LW.u (Pur.ix Try.underlying47 sz3 rfl rfl hp8 hq9) rfl ?_
      refine LW.l (Ldr.old w0 ag3 rfl (hk14 0 _ rfl)) (hS3.same _ hb15.1 hb15.2) rfl ?_
      replace h := obind h
      obtain ⟨y16, hy16, h⟩ := h
      obtain ⟨b19, hae, hp17, hq18⟩ := hS3.ownIdx (α := Int) (i := 0) rfl hy16
      subst hae
      refine LW.u (Pur.ix Try.underlying47 sz3 rfl rfl hp17 hq18) rfl ?_
      replace h := obind h
      obtain ⟨y20, hy20, h⟩ := h
      refine LW.stE (M := []) (L := [sl (some ⟨b19, 0, none⟩) s5c0 s5.1]) (z := y16) (z' := y7) (o := 0) hS3 (i := 0) rfl hy16 ag3 rfl (by show _ = (s5.2 : Int).toNat * 1 + 0; omega) rfl rfl rfl rfl (whole (fun w G hG => by cases (show G = [] from hG); exact ⟨rfl, rfl⟩)) ?_
      intro w21 hS4 hf
      rw [Option.some.inj hy20] at hS4
      refine LW.nil ?_
      show CW _ _ _ _ _ _
      refine CW.fresh (l := [(0, .slice (some ⟨b10, o11, none⟩) x0.length c0), (3, .slice (some ⟨b19, 0, none⟩) s5.1.length s5c0), (4, .int .i64 s5.2)]) ⟨rfl, rfl, rfl, trivial⟩ (fun e => ?_)
      refine CW.region ?_
      iterate 3 refine LW.p rfl rfl ?_
      refine LW.nil ?_
      cases h
      exact ⟨rfl, ⟨(some ⟨b19, 0, none⟩), s5c0, ⟨rfl, congrArg (fun m => Value.slice _ m _) (len_set (Option.some.inj hy20)), rfl, trivial⟩, hS4.pick [0] rfl rfl⟩⟩
    replace h := bcF h hc6
    refine CW.exit ?_
    cases h
    exact ⟨trivial, rfl, ⟨s5a0, s5c0, ⟨rfl, trivial⟩, hS3.pick [0] rfl rfl⟩⟩
  intro x e w24 hM
  obtain ⟨rfl, hM⟩ := hM
  obtain ⟨s5a0, s5c0, hE, hS5⟩ := hM
  obtain ⟨e, rfl⟩ := hE.out
  have h := h23
  show CW _ _ _ _ _ _
  refine CW.seq ?_
  refine CW.region ?_
  iterate 2 refine LW.p rfl rfl ?_
  refine LW.nil ?_
  show CW _ _ _ _ _ _
  refine CW.ret ?_
  cases h
  exact And.intro trivial ⟨_, Res.one (resOne.t rfl), s5a0, s5c0, rfl, hS5.pick [0] rfl rfl⟩

theorem W_l_toLabel {w0 : World} {N : Nat} {x0 : DLabel} {r : DLabel} (h : F_l_toLabel N x0 = some r) {a0_0 : Option Addr} {n0_0 c0_0 : Nat} (hn0_0 : n0_0 = x0.levels.length) (hr0_0 : rdS (Bor w0 []) w0 a0_0 c0_0 x0.levels) :
    Ret Try.prog 36 #[.agg #[.slice a0_0 n0_0 c0_0]] w0 (fun v w => ∃ ar0_0 cr0_0, v = .agg #[.slice ar0_0 r.levels.length cr0_0] ∧ St w0 [] w [sl ar0_0 cr0_0 r.levels]) := by
  subst hn0_0
  unfold F_l_toLabel at h
  refine Ret.of Try.func36 rfl rfl rfl ?_
  have hS1 := St.start w0
  refine CW.seq ?_
  refine CW.region ?_
  refine LW.box (cs := [.slice a0_0 x0.levels.length c0_0]) rfl hS1 rfl ?_
  intro g1 w2 hS2 hf
  refine LW.alloc zv56 hS2 rfl ?_
  intro g3 w4 hS3 hf
  refine LW.nil ?_
  show CW _ _ _ _ _ _
  refine CW.seq ?_
  refine CW.region ?_
  refine LW.alloc zv56 hS3 rfl ?_
  intro g5 w6 hS4 hf
  refine LW.nil ?_
  show CW _ _ _ _ _ _
  refine CW.seq ?_
  refine CW.region ?_
  refine LW.u (Pur.fa fo49_0 rfl) rfl ?_
  refine LW.ldb hS4 2 rfl ag47 rfl rfl rfl ?_
  replace h := obind h
  obtain ⟨y7, hy7, h⟩ := h
  have q := W_l_toIntS (w0 := w6) hy7 rfl (hS4.rB hr0_0)
  refine LW.call pl91 rfl rfl ?_
  refine Ret.mono q ?_
  rintro _ w10 ⟨a8, c9, rfl, hs⟩
  have hS5 := hS4.add hs
  refine LW.u (Pur.fa fo56_0 rfl) rfl ?_
  refine LW.stb hS5 1 rfl ag47 rfl rfl rfl rfl rfl ?_
  intro w11 hS6 hf
  refine LW.nil ?_
  show CW _ _ _ _ _ _
  refine CW.seq ?_
  refine CW.region ?_
  refine LW.ldbN hS6 1 rfl ag56 rfl rfl rfl ?_
  refine LW.stb hS6 2 rfl ag56 rfl rfl rfl rfl rfl ?_
  intro w12 hS7 hf
  refine LW.nil ?_
  show CW _ _ _ _ _ _
  refine CW.ret ?_
  cases h
  exact And.intro trivial ⟨_, Res.one (resOne.b hS7 2 rfl ag56 rfl rfl), a8, c9, rfl, hS7.pick [0] rfl rfl⟩

theorem W_l_toAmt {w0 : World} {N : Nat} {x0 : DAmt} {r : DAmt} (h : F_l_toAmt N x0 = some r) :
    Ret Try.prog 109 #[.agg #[.int .i64 x0.pages, .int .i64 x0.rent, .int .i64 x0.cpu]] w0 (fun v w => v = .agg #[.int .i64 r.pages, .int .i64 r.rent, .int .i64 r.cpu] ∧ St w0 [] w []) := by
  unfold F_l_toAmt at h
  refine Ret.of Try.func109 rfl rfl rfl ?_
  have hS1 := St.start w0
  refine CW.seq ?_
  refine CW.region ?_
  refine LW.box (cs := [.int .i64 x0.pages, .int .i64 x0.rent, .int .i64 x0.cpu]) rfl hS1 rfl ?_
  intro g1 w2 hS2 hf
  refine LW.alloc zv61 hS2 rfl ?_
  intro g3 w4 hS3 hf
  refine LW.nil ?_
  show CW _ _ _ _ _ _
  refine CW.seq ?_
  refine CW.region ?_
  refine LW.alloc zv61 hS3 rfl ?_
  intro g5 w6 hS4 hf
  refine LW.nil ?_
  show CW _ _ _ _ _ _
  refine CW.seq ?_
  refine CW.region ?_
  refine LW.u (Pur.fa fo86_0 rfl) rfl ?_
  refine LW.ldb hS4 2 rfl ag3 rfl rfl rfl ?_
  refine LW.u (Pur.fa fo61_0 rfl) rfl ?_
  refine LW.stb hS4 0 rfl ag3 rfl rfl rfl rfl rfl ?_
  intro w7 hS5 hf
  refine LW.nil ?_
  show CW _ _ _ _ _ _
  refine CW.seq ?_
  refine CW.region ?_
  refine LW.u (Pur.fa fo86_1 rfl) rfl ?_
  refine LW.ldb hS5 2 rfl ag3 rfl rfl rfl ?_
  refine LW.u (Pur.fa fo61_1 rfl) rfl ?_
  refine LW.stb hS5 0 rfl ag3 rfl rfl rfl rfl rfl ?_
  intro w8 hS6 hf
  refine LW.nil ?_
  show CW _ _ _ _ _ _
  refine CW.seq ?_
  refine CW.region ?_
  refine LW.u (Pur.fa fo86_2 rfl) rfl ?_
  refine LW.ldb hS6 2 rfl ag3 rfl rfl rfl ?_
  refine LW.u (Pur.fa fo61_2 rfl) rfl ?_
  refine LW.stb hS6 0 rfl ag3 rfl rfl rfl rfl rfl ?_
  intro w9 hS7 hf
  refine LW.nil ?_
  show CW _ _ _ _ _ _
  refine CW.fresh (l := [(2, .pointer (some ⟨g3, 0, none⟩)), (3, .pointer (some ⟨g5, 0, none⟩))]) ⟨rfl, rfl, trivial⟩ (fun e => ?_)
  refine CW.seq ?_
  refine CW.region ?_
  refine LW.ldbN hS7 0 rfl ag61 rfl rfl rfl ?_
  refine LW.stb hS7 1 rfl ag61 rfl rfl rfl rfl rfl ?_
  intro w10 hS8 hf
  refine LW.nil ?_
  show CW _ _ _ _ _ _
  refine CW.ret ?_
  cases h
  exact And.intro trivial ⟨_, Res.one (resOne.b hS8 1 rfl ag61 rfl rfl), rfl, hS8.pick [] rfl rfl⟩

theorem W_l_toPartBoot {w0 : World} {N : Nat} {x0 : DBoot} {r : DBoot} (h : F_l_toPartBoot N x0 = some r) {a0_0 : Option Addr} {n0_0 c0_0 : Nat} (hn0_0 : n0_0 = x0.label.levels.length) (hr0_0 : rdS (Bor w0 []) w0 a0_0 c0_0 x0.label.levels) {a0_1 : Option Addr} {n0_1 c0_1 : Nat} (hn0_1 : n0_1 = x0.own.length) (hr0_1 : rdS (Bor w0 []) w0 a0_1 c0_1 x0.own) :
    Ret Try.prog 70 #[.agg #[.slice a0_0 n0_0 c0_0, .slice a0_1 n0_1 c0_1, .int .i64 x0.amt.pages, .int .i64 x0.amt.rent, .int .i64 x0.amt.cpu]] w0 (fun v w => ∃ ar0_0 cr0_0, ∃ ar0_1 cr0_1, v = .agg #[.slice ar0_0 r.label.levels.length cr0_0, .slice ar0_1 r.own.length cr0_1, .int .i64 r.amt.pages, .int .i64 r.amt.rent, .int .i64 r.amt.cpu] ∧ St w0 [] w [sl ar0_0 cr0_0 r.label.levels, sl ar0_1 cr0_1 r.own]) := by
  subst hn0_0
  subst hn0_1
  unfold F_l_toPartBoot at h
  refine Ret.of Try.func70 rfl rfl rfl ?_
  have hS1 := St.start w0
  refine CW.seq ?_
  refine CW.region ?_
  refine LW.box (cs := [.slice a0_0 x0.label.levels.length c0_0, .slice a0_1 x0.own.length c0_1, .int .i64 x0.amt.pages, .int .i64 x0.amt.rent, .int .i64 x0.amt.cpu]) rfl hS1 rfl ?_
  intro g1 w2 hS2 hf
  refine LW.alloc zv116 hS2 rfl ?_
  intro g3 w4 hS3 hf
  refine LW.nil ?_
  show CW _ _ _ _ _ _
  refine CW.seq ?_
  refine CW.region ?_
  refine LW.alloc zv116 hS3 rfl ?_
  intro g5 w6 hS4 hf
  refine LW.nil ?_
  show CW _ _ _ _ _ _
  refine CW.seq ?_
  refine CW.region ?_
  refine LW.u (Pur.fa fo111_0 rfl) rfl ?_
  refine LW.ldbN hS4 2 rfl ag49 rfl rfl rfl ?_
  replace h := obind h
  obtain ⟨y7, hy7, h⟩ := h
  have q := W_l_toLabel (w0 := w6) hy7 rfl (hS4.rB hr0_0)
  refine LW.call pl36 rfl rfl ?_
  refine Ret.mono q ?_
  rintro _ w10 ⟨a8, c9, rfl, hs⟩
  have hS5 := hS4.add hs
  refine LW.u (Pur.fa fo116_0 rfl) rfl ?_
  refine LW.stb hS5 1 rfl ag56 rfl rfl rfl rfl rfl ?_
  intro w11 hS6 hf
  refine LW.nil ?_
  show CW _ _ _ _ _ _
  refine CW.seq ?_
  refine CW.region ?_
  refine LW.u (Pur.fa fo111_1 rfl) rfl ?_
  refine LW.ldb hS6 3 rfl ag47 rfl rfl rfl ?_
  replace h := obind h
  obtain ⟨y12, hy12, h⟩ := h
  have q := W_l_toIntS (w0 := w11) hy12 rfl (hS6.rB hr0_1)
  refine LW.call pl91 rfl rfl ?_
  refine Ret.mono q ?_
  rintro _ w15 ⟨a13, c14, rfl, hs⟩
  have hS7 := hS6.add hs
  refine LW.u (Pur.fa fo116_1 rfl) rfl ?_
  refine LW.stb hS7 2 rfl ag47 rfl rfl rfl rfl rfl ?_
  intro w16 hS8 hf
  refine LW.nil ?_
  show CW _ _ _ _ _ _
  refine CW.fresh (l := [(1, .pointer (some ⟨g1, 0, none⟩)), (2, .pointer (some ⟨g3, 0, none⟩)), (3, .pointer (some ⟨g5, 0, none⟩))]) ⟨rfl, rfl, rfl, trivial⟩ (fun e => ?_)
  refine CW.seq ?_
  refine CW.region ?_
  refine LW.u (Pur.fa fo111_2 rfl) rfl ?_
  refine LW.ldbN hS8 4 rfl ag86 rfl rfl rfl ?_
  replace h := obind h
  obtain ⟨y17, hy17, h⟩ := h
  have q := W_l_toAmt (w0 := w16) hy17
  refine LW.call pl109 rfl rfl ?_
  refine Ret.mono q ?_
  rintro _ w18 ⟨rfl, hs⟩
  have hS9 := hS8.add hs
  refine LW.u (Pur.fa fo116_2 rfl) rfl ?_
  refine LW.stb hS9 2 rfl ag61 rfl rfl rfl rfl rfl ?_
  intro w19 hS10 hf
  refine LW.nil ?_
  show CW _ _ _ _ _ _
  refine CW.seq ?_
  refine CW.region ?_
  refine LW.ldbN hS10 2 rfl ag116 rfl rfl rfl ?_
  refine LW.stb hS10 3 rfl ag116 rfl rfl rfl rfl rfl ?_
  intro w20 hS11 hf
  refine LW.nil ?_
  show CW _ _ _ _ _ _
  refine CW.ret ?_
  cases h
  exact And.intro trivial ⟨_, Res.one (resOne.b hS11 3 rfl ag116 rfl rfl), a8, c9, a13, c14, rfl, hS11.pick [1, 0] rfl rfl⟩

end Go.Kx
