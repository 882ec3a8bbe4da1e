/- Each call returns what the plain function says. Printed by drive.py. -/
import Derived.Test.YtljikolgijlbeaaFa
import Derived.Test.YtljikolgijlbeaaPu
import Derived.Test.YtljikolgijlbeaaWa0
import Derived.Test.YtljikolgijlbeaaWa1
namespace Go.Kx
open Go Go.RowKit Go.Proofs
set_option maxRecDepth 10000
set_option maxHeartbeats 8000000
set_option linter.unusedVariables false
set_option linter.unusedSimpArgs false
theorem W_i_HeapOk {w0 : World} {N : Nat} {x0 : DHeap} {r : Bool} (h : F_i_HeapOk N x0 = some r) {a0_0 : Option Addr} {n0_0 c0_0 : Nat} (hn0_0 : n0_0 = x0.arena.length) (hr0_0 : rdS (Bor w0 []) w0 a0_0 c0_0 x0.arena) {a0_4 : Option Addr} {n0_4 c0_4 : Nat} (hn0_4 : n0_4 = x0.gc.grey.length) (hr0_4 : rdS (Bor w0 []) w0 a0_4 c0_4 x0.gc.grey) :
    Ret Try.prog 50 #[.agg #[.slice a0_0 n0_0 c0_0, .int .i64 x0.gc.phase, .int .i64 x0.gc.pos, .int .i64 x0.gc.round, .slice a0_4 n0_4 c0_4]] w0 (fun v w => v = .bool r ∧ St w0 [] w []) := by
  subst hn0_0 hn0_4
  unfold F_i_HeapOk at h
  refine Ret.fn Try.func50 fun e => ?_
  have hS1 := St.start w0
  refine go ?_
  refine LW.bo hS1 fun g1 w2 hS2 => ?_
  refine go ?_
  obtain ⟨o31, ho31, h32⟩ := obind h
  refine CW.mono (CW.lx [1, 9, 10] [0] [1] 0 (fun s3 => [(11, .int .i64 s3)]) (RT Try.prog Try.f50.results (fun u => .bool u) w0 []) hS2 ho31 (hb := ?_)) ?_
  · intro s3 e w4 o hS3 h
    refine go ?_
    refine cd (fun hc5 => ?_) fun hc5 => ?_
    · replace h := bcT h hc5
      refine go ?_
      replace ⟨y6, hy6, h⟩ := obind h
      obtain ⟨b9, o10, cs11, hae, hb14, hp7, hq8, hd12, hk13⟩ := hr0_4.idx hy6
      subst hae
      obtain rfl := hd12
      refine LW.u (Pur.ix Try.underlying24 sz3 rfl rfl hp7 hq8) rfl ?_
      refine LW.l (Ldr.old w0 ag3 rfl (hk13 0 _ rfl)) (hS3.same _ hb14.1 hb14.2) rfl ?_
      refine gs ?_
      obtain ⟨j15, hj15, h16⟩ := obind h
      refine CW.jn [1, 9, 10, 11] [0] [(27, .bool j15)] hS3 (h1 := ?_) (h2 := ?_)
      · have h := hj15
        refine go ?_
        replace ⟨y17, hy17, h⟩ := obind h
        refine LW.c0 (W_i_isSlot hy17) hS3 fun w18 hS4 => ?_
        refine go ?_
        rcases bcases (!y17) with hc19 | hc19
        · replace h := bcT h hc19
          refine go ?_
          cases oi h
          exact ⟨⟨rfl, rfl, rfl, rfl, rfl, trivial⟩, hS4.pick [0] rfl rfl⟩
        replace h := bcF h hc19
        refine go ?_
        replace ⟨y20, hy20, h⟩ := obind h
        obtain ⟨a21, c22, he23, he24, hr25⟩ := rdS.sub' hr0_4 hy20
        have hle26 := (hr0_4).le
        refine go ?_
        refine LW.u (Pur.sub (α := Int) (l := x0.gc.grey) Try.underlying24 sz3 rfl bndN (bndS rfl) hy20 hle26 he23 he24) rfl ?_
        refine go ?_
        refine LW.fl [1, 9, 10, 11, 19, 24, 25] fun e => ?_
        replace ⟨y27, hy27, h⟩ := obind h
        refine go ?_
        refine LW.c0 (W_z_Contains_int hy27 rfl (hS4.rB hr25)) hS4 fun w28 hS5 => ?_
        refine go ?_
        cases oi h
        exact ⟨⟨rfl, rfl, rfl, rfl, rfl, trivial⟩, hS5.pick [0] rfl rfl⟩
      intro e w29 hS6
      have h := h16
      refine go ?_
      refine CW.fl [1, 9, 10, 11, 27] fun e => ?_
      refine cd (fun hc30 => ?_) fun hc30 => ?_
      · replace h := bcT h hc30
        refine go ?_
        cases oi h
        exact ⟨trivial, rfl, _, rfl, ⟨_, Res.one (resOne.t rfl), rfl, hS6.pick [] rfl rfl⟩⟩
      replace h := bcF h hc30
      refine go ?_
      cases oi h
      exact ⟨rfl, ⟨⟨rfl, rfl, rfl, rfl, trivial⟩, hS6.pick [0] rfl rfl⟩⟩
    replace h := bcF h hc5
    refine go ?_
    cases oi h
    exact ⟨trivial, rfl, ⟨⟨rfl, trivial⟩, hS3.pick [0] rfl rfl⟩⟩
  intro x e w33 hM
  rcases o31 with o31 | r54
  · obtain ⟨rfl, hM⟩ := hM
    obtain ⟨hE, hS7⟩ := hM
    obtain ⟨e, rfl⟩ := hE.out
    have h := h32
    refine gs ?_
    obtain ⟨j34, hj34, h35⟩ := obind h
    refine CW.jn [1] [0] [(5, .bool j34)] hS7 (h1 := ?_) (h2 := ?_)
    · have h := hj34
      refine go ?_
      rcases bcases (x0.gc.phase == 0) with hc36 | hc36
      · replace h := bcT h hc36
        refine go ?_
        cases oi h
        exact ⟨⟨rfl, rfl, trivial⟩, hS7.pick [0] rfl rfl⟩
      replace h := bcF h hc36
      refine go ?_
      cases oi h
      exact ⟨⟨rfl, rfl, trivial⟩, hS7.pick [0] rfl rfl⟩
    intro e w37 hS8
    have h := h35
    refine gs ?_
    obtain ⟨j38, hj38, h39⟩ := obind h
    refine CW.jn [1, 5] [0] [(6, .bool j38)] hS8 (h1 := ?_) (h2 := ?_)
    · have h := hj38
      refine go ?_
      rcases bcases (x0.gc.phase == 1) with hc40 | hc40
      · replace h := bcT h hc40
        refine go ?_
        replace ⟨y41, hy41, h⟩ := obind h
        refine go ?_
        refine LW.c0 (W_i_isSlot hy41) hS8 fun w42 hS9 => ?_
        refine go ?_
        rcases bcases y41 with hc43 | hc43
        · replace h := bcT h hc43
          refine go ?_
          cases oi h
          exact ⟨⟨rfl, rfl, rfl, trivial⟩, hS9.pick [0] rfl rfl⟩
        replace h := bcF h hc43
        refine go ?_
        cases oi h
        exact ⟨⟨rfl, rfl, rfl, trivial⟩, hS9.pick [0] rfl rfl⟩
      replace h := bcF h hc40
      refine go ?_
      cases oi h
      exact ⟨⟨rfl, rfl, rfl, trivial⟩, hS8.pick [0] rfl rfl⟩
    intro e w44 hS10
    have h := h39
    refine go ?_
    replace ⟨y45, hy45, h⟩ := obind h
    refine LW.c0 (W_i_ArenaOk hy45 rfl (hS10.rB hr0_0)) hS10 fun w46 hS11 => ?_
    refine go ?_
    rcases bcases y45 with hc47 | hc47
    · replace h := bcT h hc47
      refine go ?_
      rcases bcases j34 with hc48 | hc48
      · replace h := bcT h hc48
        refine go ?_
        replace ⟨y49, hy49, h⟩ := obind h
        refine go ?_
        refine LW.c0 (W_i_isTime hy49) hS11 fun w50 hS12 => ?_
        refine go ?_
        cases h
        exact fi hS12
      replace h := bcF h hc48
      refine go ?_
      rcases bcases j38 with hc51 | hc51
      · replace h := bcT h hc51
        refine go ?_
        replace ⟨y52, hy52, h⟩ := obind h
        refine go ?_
        refine LW.c0 (W_i_isTime hy52) hS11 fun w53 hS13 => ?_
        refine go ?_
        cases h
        exact fi hS13
      replace h := bcF h hc51
      refine go ?_
      cases h
      exact fi hS11
    replace h := bcF h hc47
    refine go ?_
    cases h
    exact fi hS11
  obtain ⟨rfl, u, rfl, hM⟩ := hM
  cases h32
  exact And.intro trivial hM

theorem W_i_Reach {w0 : World} {N : Nat} {x0 : List DObj} {x1 : Int} {r : (List Bool)} (h : F_i_Reach N x0 x1 = some r) {a0_0 : Option Addr} {n0_0 c0_0 : Nat} (hn0_0 : n0_0 = x0.length) (hr0_0 : rdS (Bor w0 []) w0 a0_0 c0_0 x0) :
    Ret Try.prog 58 #[.slice a0_0 n0_0 c0_0, .int .i64 x1] w0 (fun v w => ∃ ar0 cr0, v = .slice ar0 r.length cr0 ∧ St w0 [] w [sl ar0 cr0 r]) := by
  subst hn0_0
  unfold F_i_Reach at h
  refine Ret.fn Try.func58 fun e => ?_
  have hS1 := St.start w0
  refine go ?_
  replace ⟨y1, hy1, h⟩ := obind h
  refine LW.c0 (W_i_ArenaOk hy1 rfl (hS1.rB hr0_0)) hS1 fun w2 hS2 => ?_
  refine go ?_
  refine cd (fun hc3 => ?_) fun hc3 => ?_
  · replace h := bcT h hc3
    refine go ?_
    cases h
    have hS3 := hS2.nil (α := Bool)
    exact And.intro trivial ⟨_, Res.one (resOne.t rfl), none, 0, rfl, hS3.pick [0] rfl rfl⟩
  replace h := bcF h hc3
  refine go ?_
  replace ⟨y4, hy4, h⟩ := obind h
  refine LW.mk sT96 rfl rfl hy4 hS2 rfl ?_
  intro a5 c6 w7 hS4 hf
  refine go ?_
  replace ⟨y8, hy8, h⟩ := obind h
  obtain ⟨b11, o12, hae, hp9, hq10⟩ := hS4.ownIdx (α := Bool) (i := 0) rfl hy8
  subst hae
  refine LW.u (Pur.ix Try.underlying96 sz4 rfl rfl hp9 hq10) rfl ?_
  replace ⟨y13, hy13, h⟩ := obind h
  refine LW.stE (M := []) (L := [sl (some ⟨b11, o12, none⟩) c6 y4]) (z := y8) (z' := true) (o := 0) hS4 (i := 0) rfl hy8 ag4 rfl (by show _ = o12 + (0 : Int).toNat * 1 + 0; omega) rfl rfl rfl rfl (whole (fun w G hG => by cases (show G = [] from hG); exact ⟨rfl, rfl⟩)) ?_
  intro w14 hS5 hf
  rw [Option.some.inj hy13] at hS5
  refine go ?_
  refine LW.bsl (α := Int) (vs := [(0, .int .i64 0)]) (cs := #[.int .i64 0]) (l := ([0] : List Int)) rfl (by kernel_rfl) rfl rfl rfl (fun w => ⟨[.int .i64 0], [], [], [], rfl, rfl, ⟨rfl, rfl⟩, rfl⟩) hS5 rfl ?_
  intro a15 c16 w17 hS6 hf
  refine go ?_
  obtain ⟨o114, ho114, h115⟩ := obind h
  refine CW.mono (CW.iter (σ := (List Bool) × (List Int)) (ρ := (List Bool) × (List Int)) (fun s18 e wb => ∃ (s18a0 : Option Addr), ∃ (s18c0 : Nat), En e [(0, .slice a0_0 x0.length c0_0), (1, .int .i64 x1), (5, .slice (some ⟨b11, o12, none⟩) s18.1.length c6), (6, .slice s18a0 s18.2.length s18c0)] ∧ St w0 [] wb [sl s18a0 s18c0 s18.2, sl (some ⟨b11, o12, none⟩) c6 s18.1]) (fun s18 x e wb => x = .exit 0 ∧ ∃ (s18a0 : Option Addr), ∃ (s18c0 : Nat), En e [(5, .slice (some ⟨b11, o12, none⟩) s18.1.length c6)] ∧ St w0 [] wb [sl s18a0 s18c0 s18.2, sl (some ⟨b11, o12, none⟩) c6 s18.1]) ?_ N (y13, ([0] : List Int)) _ _ _ ⟨a15, c16, ⟨rfl, rfl, (show (.slice (some ⟨b11, o12, none⟩) y4.length c6 : Value) = .slice (some ⟨b11, o12, none⟩) y13.length c6 by rw [show y4.length = y13.length from (len_set (Option.some.inj hy13))]), rfl, trivial⟩, hS6.pick [0, 1] rfl rfl⟩ ho114) ?_
  · intro s18 e w19 o hM h
    obtain ⟨s18a0, s18c0, hE, hS7⟩ := hM
    obtain ⟨e, rfl⟩ := hE.out
    refine go ?_
    refine CW.fl [0, 1, 5, 6, 19] fun e => ?_
    refine cd (fun hc20 => ?_) fun hc20 => ?_
    · replace h := bcT h hc20
      refine go ?_
      replace ⟨y21, hy21, h⟩ := obind h
      obtain ⟨b24, o25, hae, hp22, hq23⟩ := hS7.ownIdx (α := Int) (i := 0) rfl hy21
      subst hae
      refine LW.u (Pur.ix Try.underlying24 sz3 rfl rfl hp22 hq23) rfl ?_
      obtain ⟨F26, ho27, hS8⟩ := hS7.freeze (α := Int) 0 rfl
      obtain ⟨b28, o29, cs30, hae, hb33, _, _, hd31, hk32⟩ := ho27.rdF.idx hy21
      cases hae
      obtain rfl := hd31
      refine LW.l (Ldr.old w19 ag3 rfl (hk32 0 _ rfl)) (hS8.zC 0 rfl hb33) rfl ?_
      refine go ?_
      have hS9 := hS8.thaw (α := Int) 0 rfl ho27
      replace ⟨y34, hy34, h⟩ := obind h
      obtain ⟨hle40, a35, c36, he37, he38, hS10⟩ := hS9.sub' (α := Int) 0 rfl hy34
      refine LW.u (Pur.sub (α := Int) (l := s18.2) Try.underlying24 sz3 rfl (bndS rfl) bndN hy34 hle40 he37 he38) rfl ?_
      refine go ?_
      replace ⟨y41, hy41, h⟩ := obind h
      refine LW.cl (W_i_edgesOf hy41 rfl (hS10.rB hr0_0)) ?_
      rintro _ w44 ⟨a42, c43, rfl, hs⟩
      have hS11 := hS10.add hs
      refine go ?_
      obtain ⟨o111, ho111, h112⟩ := obind h
      refine CW.mono (CW.iter (σ := (List Bool) × (List Int) × Int) (ρ := (List Bool) × (List Int) × Int) (fun s45 e wb => ∃ (s45a0 : Option Addr), ∃ (s45c0 : Nat), En e [(0, .slice a0_0 x0.length c0_0), (1, .int .i64 x1), (5, .slice (some ⟨b11, o12, none⟩) s45.1.length c6), (6, .slice s45a0 s45.2.1.length s45c0), (27, .slice a42 y41.length c43), (28, .int .i64 (y41.length : Int)), (29, .int .i64 s45.2.2)] ∧ St w0 [] wb [sl a42 c43 y41, sl s45a0 s45c0 s45.2.1, sl (some ⟨b11, o12, none⟩) c6 s45.1]) (fun s45 x e wb => x = .exit 2 ∧ ∃ (s45a0 : Option Addr), ∃ (s45c0 : Nat), En e [(0, .slice a0_0 x0.length c0_0), (1, .int .i64 x1), (5, .slice (some ⟨b11, o12, none⟩) s45.1.length c6), (6, .slice s45a0 s45.2.1.length s45c0)] ∧ St w0 [] wb [sl a42 c43 y41, sl s45a0 s45c0 s45.2.1, sl (some ⟨b11, o12, none⟩) c6 s45.1]) ?_ N (s18.1, y34, 0) _ _ _ ⟨a35, c36, ⟨rfl, rfl, rfl, rfl, rfl, rfl, rfl, trivial⟩, hS11.pick [0, 1, 2] rfl rfl⟩ ho111) ?_
      · intro s45 e w46 o hM h
        obtain ⟨s45a0, s45c0, hE, hS12⟩ := hM
        obtain ⟨e, rfl⟩ := hE.out
        refine go ?_
        refine CW.fl [0, 1, 5, 6, 27, 28, 29, 30] fun e => ?_
        refine cd (fun hc47 => ?_) fun hc47 => ?_
        · replace h := bcT h hc47
          refine go ?_
          replace ⟨y48, hy48, h⟩ := obind h
          obtain ⟨b51, o52, hae, hp49, hq50⟩ := hS12.ownIdx (α := Int) (i := 0) rfl hy48
          subst hae
          refine LW.u (Pur.ix Try.underlying24 sz3 rfl rfl hp49 hq50) rfl ?_
          obtain ⟨F53, ho54, hS13⟩ := hS12.freeze (α := Int) 0 rfl
          obtain ⟨b55, o56, cs57, hae, hb60, _, _, hd58, hk59⟩ := ho54.rdF.idx hy48
          cases hae
          obtain rfl := hd58
          refine LW.l (Ldr.old w46 ag3 rfl (hk59 0 _ rfl)) (hS13.zC 0 rfl hb60) rfl ?_
          refine gs ?_
          obtain ⟨j61, hj61, h62⟩ := obind h
          refine CW.jn [0, 1, 5, 6, 9, 27, 28, 29] [0, 1, 2] [(46, .bool j61)] hS13 (h1 := ?_) (h2 := ?_)
          · have h := hj61
            refine go ?_
            replace ⟨y63, hy63, h⟩ := obind h
            obtain ⟨b66, o67, hae, hp64, hq65⟩ := hS13.ownIdx (α := Bool) (i := 2) rfl hy63
            cases hae
            refine LW.u (Pur.ix Try.underlying96 sz4 rfl rfl hp64 hq65) rfl ?_
            obtain ⟨F68, ho69, hS14⟩ := hS13.freeze (α := Bool) 2 rfl
            obtain ⟨b70, o71, cs72, hae, hb75, _, _, hd73, hk74⟩ := ho69.rdF.idx hy63
            cases hae
            obtain rfl := hd73
            refine LW.l (Ldr.old w46 ag4 rfl (hk74 0 _ rfl)) (hS14.zC 2 rfl hb75) rfl ?_
            refine go ?_
            rcases bcases (!y63) with hc76 | hc76
            · replace h := bcT h hc76
              refine go ?_
              replace ⟨y77, hy77, h⟩ := obind h
              obtain ⟨b80, o81, cs82, hae, hb85, hp78, hq79, hd83, hk84⟩ := hr0_0.idx hy77
              subst hae
              obtain ⟨a86, c87, a89, c90, a92, c93, rfl, hr88, hr91, hr94⟩ := hd83
              refine go ?_
              refine LW.u (Pur.ix Try.underlying33 sz84 rfl rfl hp78 hq79) rfl ?_
              refine go ?_
              refine LW.l (Ldr.oldN w0 ag84 rfl rfl (fun j u hu => hk84 j u hu)) (hS14.same _ hb85.1 hb85.2) rfl ?_
              refine go ?_
              replace ⟨y95, hy95, h⟩ := obind h
              refine go ?_
              refine LW.c0 (W_i_Expired hy95 rfl (hS14.rB hr88) rfl (hS14.rB hr91) rfl (hS14.rB hr94)) hS14 fun w96 hS15 => ?_
              refine go ?_
              have hS16 := hS15.thaw (α := Bool) 2 rfl ho69
              cases oi h
              exact ⟨⟨rfl, rfl, rfl, rfl, rfl, rfl, rfl, rfl, rfl, trivial⟩, hS16.pick [0, 1, 2] rfl rfl⟩
            replace h := bcF h hc76
            refine go ?_
            have hS17 := hS14.thaw (α := Bool) 2 rfl ho69
            cases oi h
            exact ⟨⟨rfl, rfl, rfl, rfl, rfl, rfl, rfl, rfl, rfl, trivial⟩, hS17.pick [0, 1, 2] rfl rfl⟩
          intro e w97 hS18
          have h := h62
          refine go ?_
          refine cd (fun hc98 => ?_) fun hc98 => ?_
          · replace h := bcT h hc98
            refine go ?_
            replace ⟨y99, hy99, h⟩ := obind h
            obtain ⟨b102, o103, hae, hp100, hq101⟩ := hS18.ownIdx (α := Bool) (i := 2) rfl hy99
            cases hae
            refine LW.u (Pur.ix Try.underlying96 sz4 rfl rfl hp100 hq101) rfl ?_
            replace ⟨y104, hy104, h⟩ := obind h
            refine LW.stE (M := []) (L := [fz w46 F53, sl s45a0 s45c0 s45.2.1, sl (some ⟨b11, o12, none⟩) c6 s45.1]) (z := y99) (z' := true) (o := 0) hS18 (i := 2) rfl hy99 ag4 rfl (by show _ = o12 + (y48 : Int).toNat * 1 + 0; omega) rfl rfl rfl rfl (whole (fun w G hG => by cases (show G = [] from hG); exact ⟨rfl, rfl⟩)) ?_
            intro w105 hS19 hf
            rw [Option.some.inj hy104] at hS19
            refine go ?_
            replace ⟨y106, hy106, h⟩ := obind h
            refine LW.app1 (M := []) (L := [fz w46 F53, sl s45a0 s45c0 s45.2.1, sl (some ⟨b11, o12, none⟩) c6 y104]) (vs := #[.int .i64 y48]) (i := 1) sT24 rfl (by kernel_rfl) rfl rfl hy106 hS19 rfl (fun w G hG => by cases (show G = [] from hG); exact ⟨rfl, rfl⟩) rfl rfl ?_
            intro v109 a107 c108 w110 hS20 hf
            refine go ?_
            replace h := Option.some.inj h
            subst h
            have hS21 := hS20.thaw (α := Int) 0 rfl ho54
            exact ⟨rfl, ⟨a107, c108, ⟨rfl, rfl, (show (.slice (some ⟨b11, o12, none⟩) s45.1.length c6 : Value) = .slice (some ⟨b11, o12, none⟩) y104.length c6 by rw [show s45.1.length = y104.length from (len_set (Option.some.inj hy104))]), rfl, rfl, rfl, rfl, trivial⟩, hS21.pick [0, 1, 2] rfl rfl⟩⟩
          replace h := bcF h hc98
          refine go ?_
          have hS22 := hS18.thaw (α := Int) 0 rfl ho54
          cases oi h
          exact ⟨rfl, ⟨s45a0, s45c0, ⟨rfl, rfl, rfl, rfl, rfl, rfl, rfl, trivial⟩, hS22.pick [0, 1, 2] rfl rfl⟩⟩
        replace h := bcF h hc47
        refine go ?_
        cases oi h
        exact ⟨trivial, rfl, ⟨s45a0, s45c0, ⟨rfl, rfl, rfl, rfl, trivial⟩, hS12.pick [0, 1, 2] rfl rfl⟩⟩
      intro x e w113 hM
      obtain ⟨rfl, hM⟩ := hM
      obtain ⟨s45a0, s45c0, hE, hS23⟩ := hM
      obtain ⟨e, rfl⟩ := hE.out
      have h := h112
      cases oi h
      exact ⟨rfl, ⟨s45a0, s45c0, ⟨rfl, rfl, rfl, rfl, trivial⟩, hS23.pick [1, 2] rfl rfl⟩⟩
    replace h := bcF h hc20
    refine go ?_
    cases oi h
    exact ⟨trivial, rfl, ⟨s18a0, s18c0, ⟨rfl, trivial⟩, hS7.pick [0, 1] rfl rfl⟩⟩
  intro x e w116 hM
  obtain ⟨rfl, hM⟩ := hM
  obtain ⟨s18a0, s18c0, hE, hS24⟩ := hM
  obtain ⟨e, rfl⟩ := hE.out
  have h := h115
  refine go ?_
  cases h
  exact And.intro trivial ⟨_, Res.one (resOne.t rfl), (some ⟨b11, o12, none⟩), c6, rfl, hS24.pick [1] rfl rfl⟩

theorem W_i_TreeSum {w0 : World} {N : Nat} {x0 : List DRes} {r : DAmt} (h : F_i_TreeSum N x0 = some r) {a0_0 : Option Addr} {n0_0 c0_0 : Nat} (hn0_0 : n0_0 = x0.length) (hr0_0 : rdS (Bor w0 []) w0 a0_0 c0_0 x0) :
    Ret Try.prog 60 #[.slice a0_0 n0_0 c0_0] w0 (fun v w => v = .agg #[.int .i64 r.pages, .int .i64 r.rent, .int .i64 r.cpu] ∧ St w0 [] w []) := by
  subst hn0_0
  unfold F_i_TreeSum at h
  refine Ret.fn Try.func60 fun e => ?_
  have hS1 := St.start w0
  refine go ?_
  refine LW.al hS1 fun g1 w2 hS2 => ?_
  refine go ?_
  refine LW.u (Pur.build (vs := []) (cs := #[.int .i64 0, .int .i64 0, .int .i64 0]) rfl (by kernel_rfl)) rfl ?_
  refine LW.al hS2 fun g3 w4 hS3 => ?_
  refine LW.st hS3 0 fun w5 hS4 => ?_
  refine go ?_
  replace ⟨y6, hy6, h⟩ := obind h
  refine LW.c0 (W_i_TreeOk hy6 rfl (hS4.rB hr0_0)) hS4 fun w7 hS5 => ?_
  refine go ?_
  refine cd (fun hc8 => ?_) fun hc8 => ?_
  · replace h := bcT h hc8
    refine go ?_
    refine LW.st hS5 1 fun w9 hS6 => ?_
    refine go ?_
    cases h
    exact And.intro trivial ⟨_, Res.one (resOne.b hS6 1 rfl ag28 rfl rfl), rfl, hS6.pick [] rfl rfl⟩
  replace h := bcF h hc8
  refine go ?_
  obtain ⟨o28, ho28, h29⟩ := obind h
  refine CW.mono (CW.iter (σ := Int × Int × Int × Int) (ρ := Int × Int × Int × Int) (fun s10 e wb => En e [(2, .pointer (some ⟨g1, 0, none⟩)), (3, .pointer (some ⟨g3, 0, none⟩)), (11, .slice a0_0 x0.length c0_0), (12, .int .i64 (x0.length : Int)), (13, .int .i64 s10.1)] ∧ St w0 [] wb [bx g3 28 [.int .i64 s10.2.1, .int .i64 s10.2.2.1, .int .i64 s10.2.2.2], bx g1 28 [.int .i64 0, .int .i64 0, .int .i64 0]]) (fun s10 x e wb => x = .exit 0 ∧ En e [(2, .pointer (some ⟨g1, 0, none⟩)), (3, .pointer (some ⟨g3, 0, none⟩))] ∧ St w0 [] wb [bx g3 28 [.int .i64 s10.2.1, .int .i64 s10.2.2.1, .int .i64 s10.2.2.2], bx g1 28 [.int .i64 0, .int .i64 0, .int .i64 0]]) ?_ N (0, 0, 0, 0) _ _ _ ⟨⟨rfl, rfl, rfl, rfl, rfl, trivial⟩, hS5.pick [0, 1] rfl rfl⟩ ho28) ?_
  · intro s10 e w11 o hM h
    obtain ⟨hE, hS7⟩ := hM
    obtain ⟨e, rfl⟩ := hE.out
    refine go ?_
    refine cd (fun hc12 => ?_) fun hc12 => ?_
    · replace h := bcT h hc12
      refine go ?_
      replace ⟨y13, hy13, h⟩ := obind h
      obtain ⟨b16, o17, cs18, hae, hb21, hp14, hq15, hd19, hk20⟩ := hr0_0.idx hy13
      subst hae
      obtain rfl := hd19
      refine LW.u (Pur.ix Try.underlying32 sz111 rfl rfl hp14 hq15) rfl ?_
      refine LW.l (Ldr.oldN w0 ag111 rfl rfl (fun j u hu => hk20 j u hu)) (hS7.same _ hb21.1 hb21.2) rfl ?_
      refine LW.al hS7 fun g22 w23 hS8 => ?_
      refine LW.st hS8 0 fun w24 hS9 => ?_
      refine go ?_
      replace ⟨y25, hy25, h⟩ := obind h
      refine LW.c0 (W_i_sumOf hy25) hS9 fun w26 hS10 => ?_
      refine LW.st hS10 1 fun w27 hS11 => ?_
      refine go ?_
      cases oi h
      exact ⟨rfl, ⟨⟨rfl, rfl, rfl, rfl, rfl, trivial⟩, hS11.pick [1, 2] rfl rfl⟩⟩
    replace h := bcF h hc12
    refine go ?_
    cases oi h
    exact ⟨trivial, rfl, ⟨⟨rfl, rfl, trivial⟩, hS7.pick [0, 1] rfl rfl⟩⟩
  intro x e w30 hM
  obtain ⟨rfl, hM⟩ := hM
  obtain ⟨hE, hS12⟩ := hM
  obtain ⟨e, rfl⟩ := hE.out
  have h := h29
  refine go ?_
  refine LW.st hS12 1 fun w31 hS13 => ?_
  refine go ?_
  cases h
  exact And.intro trivial ⟨_, Res.one (resOne.b hS13 1 rfl ag28 rfl rfl), rfl, hS13.pick [] rfl rfl⟩

theorem W_i_Held {w0 : World} {N : Nat} {x0 : DPart} {r : Int} (h : F_i_Held N x0 = some r) {a0_0 : Option Addr} {n0_0 c0_0 : Nat} (hn0_0 : n0_0 = x0.label.levels.length) (hr0_0 : rdS (Bor w0 []) w0 a0_0 c0_0 x0.label.levels) {a0_1 : Option Addr} {n0_1 c0_1 : Nat} (hn0_1 : n0_1 = x0.own.length) (hr0_1 : rdS (Bor w0 []) w0 a0_1 c0_1 x0.own) {a0_2 : Option Addr} {n0_2 c0_2 : Nat} (hn0_2 : n0_2 = x0.tree.length) (hr0_2 : rdS (Bor w0 []) w0 a0_2 c0_2 x0.tree) {a0_3 : Option Addr} {n0_3 c0_3 : Nat} (hn0_3 : n0_3 = x0.heap.arena.length) (hr0_3 : rdS (Bor w0 []) w0 a0_3 c0_3 x0.heap.arena) {a0_7 : Option Addr} {n0_7 c0_7 : Nat} (hn0_7 : n0_7 = x0.heap.gc.grey.length) (hr0_7 : rdS (Bor w0 []) w0 a0_7 c0_7 x0.heap.gc.grey) {a0_8 : Option Addr} {n0_8 c0_8 : Nat} (hn0_8 : n0_8 = x0.taps.length) (hr0_8 : rdS (Bor w0 []) w0 a0_8 c0_8 x0.taps) :
    Ret Try.prog 18 #[.agg #[.slice a0_0 n0_0 c0_0, .slice a0_1 n0_1 c0_1, .slice a0_2 n0_2 c0_2, .slice a0_3 n0_3 c0_3, .int .i64 x0.heap.gc.phase, .int .i64 x0.heap.gc.pos, .int .i64 x0.heap.gc.round, .slice a0_7 n0_7 c0_7, .slice a0_8 n0_8 c0_8, .int .i64 x0.next, .int .i64 x0.want, .int .i64 x0.spent.pages, .int .i64 x0.spent.rent, .int .i64 x0.spent.cpu, .int .i64 x0.press, .int .i64 x0.lost]] w0 (fun v w => v = .int .i64 r ∧ St w0 [] w []) := by
  subst hn0_0 hn0_1 hn0_2 hn0_3 hn0_7 hn0_8
  unfold F_i_Held at h
  refine Ret.fn Try.func18 fun e => ?_
  have hS1 := St.start w0
  refine go ?_
  refine LW.bo hS1 fun g1 w2 hS2 => ?_
  refine go ?_
  replace ⟨y3, hy3, h⟩ := obind h
  refine LW.cl (W_i_firstThings hy3 rfl (hS2.rB hr0_0) rfl (hS2.rB hr0_1) rfl (hS2.rB hr0_2) rfl (hS2.rB hr0_3) rfl (hS2.rB hr0_7) rfl (hS2.rB hr0_8)) ?_
  rintro _ w6 ⟨a4, c5, rfl, hs⟩
  have hS3 := hS2.add hs
  refine go ?_
  obtain ⟨o35, ho35, h36⟩ := obind h
  refine CW.mono (CW.lb [7, 8] [0] [3] 0 (fun s7 => [(3, .int .i64 s7.1), (9, .int .i64 s7.2)]) hS3 ho35 (hb := ?_)) ?_
  · intro s7 e w8 o hS4 h
    refine go ?_
    refine cd (fun hc9 => ?_) fun hc9 => ?_
    · replace h := bcT h hc9
      refine go ?_
      replace ⟨y10, hy10, h⟩ := obind h
      obtain ⟨b13, o14, hae, hp11, hq12⟩ := hS4.ownIdx (α := DObjP) (i := 0) rfl hy10
      subst hae
      refine LW.u (Pur.ix Try.underlying33 sz84 rfl rfl hp11 hq12) rfl ?_
      obtain ⟨F15, ho16, hS5⟩ := hS4.freeze (α := DObjP) 0 rfl
      obtain ⟨b17, o18, cs19, hae, hb22, _, _, hd20, hk21⟩ := ho16.rdF.idx hy10
      cases hae
      obtain ⟨a23, n24, c25, a26, n27, c28, a29, n30, c31, rfl⟩ := hd20
      refine LW.l (Ldr.oldN w8 ag84 rfl rfl (fun j u hu => hk21 j u hu)) (hS5.zC 0 rfl hb22) rfl ?_
      refine LW.al hS5 fun g32 w33 hS6 => ?_
      refine LW.st hS6 0 fun w34 hS7 => ?_
      refine go ?_
      have hS8 := hS7.thaw (α := DObjP) 1 rfl ho16
      cases oi h
      exact ⟨rfl, ⟨⟨rfl, rfl, rfl, rfl, trivial⟩, hS8.pick [1] rfl rfl⟩⟩
    replace h := bcF h hc9
    refine go ?_
    cases oi h
    exact ⟨trivial, rfl, ⟨⟨rfl, trivial⟩, hS4.pick [0] rfl rfl⟩⟩
  intro x e w37 hM
  obtain ⟨rfl, hM⟩ := hM
  obtain ⟨hE, hS9⟩ := hM
  obtain ⟨e, rfl⟩ := hE.out
  have h := h36
  refine go ?_
  cases h
  exact fi hS9

theorem W_i_ResOf {w0 : World} {N : Nat} {x0 : DPart} {x1 : Int} {r : Int} (h : F_i_ResOf N x0 x1 = some r) {a0_0 : Option Addr} {n0_0 c0_0 : Nat} (hn0_0 : n0_0 = x0.label.levels.length) (hr0_0 : rdS (Bor w0 []) w0 a0_0 c0_0 x0.label.levels) {a0_1 : Option Addr} {n0_1 c0_1 : Nat} (hn0_1 : n0_1 = x0.own.length) (hr0_1 : rdS (Bor w0 []) w0 a0_1 c0_1 x0.own) {a0_2 : Option Addr} {n0_2 c0_2 : Nat} (hn0_2 : n0_2 = x0.tree.length) (hr0_2 : rdS (Bor w0 []) w0 a0_2 c0_2 x0.tree) {a0_3 : Option Addr} {n0_3 c0_3 : Nat} (hn0_3 : n0_3 = x0.heap.arena.length) (hr0_3 : rdS (Bor w0 []) w0 a0_3 c0_3 x0.heap.arena) {a0_7 : Option Addr} {n0_7 c0_7 : Nat} (hn0_7 : n0_7 = x0.heap.gc.grey.length) (hr0_7 : rdS (Bor w0 []) w0 a0_7 c0_7 x0.heap.gc.grey) {a0_8 : Option Addr} {n0_8 c0_8 : Nat} (hn0_8 : n0_8 = x0.taps.length) (hr0_8 : rdS (Bor w0 []) w0 a0_8 c0_8 x0.taps) :
    Ret Try.prog 87 #[.agg #[.slice a0_0 n0_0 c0_0, .slice a0_1 n0_1 c0_1, .slice a0_2 n0_2 c0_2, .slice a0_3 n0_3 c0_3, .int .i64 x0.heap.gc.phase, .int .i64 x0.heap.gc.pos, .int .i64 x0.heap.gc.round, .slice a0_7 n0_7 c0_7, .slice a0_8 n0_8 c0_8, .int .i64 x0.next, .int .i64 x0.want, .int .i64 x0.spent.pages, .int .i64 x0.spent.rent, .int .i64 x0.spent.cpu, .int .i64 x0.press, .int .i64 x0.lost], .int .i64 x1] w0 (fun v w => v = .int .i64 r ∧ St w0 [] w []) := by
  subst hn0_0 hn0_1 hn0_2 hn0_3 hn0_7 hn0_8
  unfold F_i_ResOf at h
  refine Ret.fn Try.func87 fun e => ?_
  have hS1 := St.start w0
  refine go ?_
  refine LW.bo hS1 fun g1 w2 hS2 => ?_
  refine gs ?_
  obtain ⟨j3, hj3, h4⟩ := obind h
  refine CW.jn [1] [] [(15, .bool j3)] hS2 (h1 := ?_) (h2 := ?_)
  · have h := hj3
    refine go ?_
    replace ⟨y5, hy5, h⟩ := obind h
    refine LW.c0 (W_i_TreeOk hy5 rfl (hS2.rB hr0_2)) hS2 fun w6 hS3 => ?_
    refine go ?_
    rcases bcases (!y5) with hc7 | hc7
    · replace h := bcT h hc7
      refine go ?_
      cases oi h
      exact ⟨⟨rfl, rfl, trivial⟩, hS3.pick [] rfl rfl⟩
    replace h := bcF h hc7
    refine go ?_
    replace ⟨y8, hy8, h⟩ := obind h
    refine go ?_
    refine LW.c0 (W_i_isLive hy8 rfl (hS3.rB hr0_2)) hS3 fun w9 hS4 => ?_
    refine go ?_
    cases oi h
    exact ⟨⟨rfl, rfl, trivial⟩, hS4.pick [] rfl rfl⟩
  intro e w10 hS5
  have h := h4
  refine go ?_
  refine cd (fun hc11 => ?_) fun hc11 => ?_
  · replace h := bcT h hc11
    refine go ?_
    cases h
    exact fi hS5
  replace h := bcF h hc11
  refine go ?_
  cases h
  exact fi hS5

theorem W_i_GcBorn {w0 : World} {N : Nat} {x0 : DHeap} {x1 : Int} {r : DHeap} (h : F_i_GcBorn N x0 x1 = some r) {a0_0 : Option Addr} {n0_0 c0_0 : Nat} (hn0_0 : n0_0 = x0.arena.length) (hr0_0 : rdS (Bor w0 []) w0 a0_0 c0_0 x0.arena) {a0_4 : Option Addr} {n0_4 c0_4 : Nat} (hn0_4 : n0_4 = x0.gc.grey.length) (hr0_4 : rdS (Bor w0 []) w0 a0_4 c0_4 x0.gc.grey) :
    Ret Try.prog 40 #[.agg #[.slice a0_0 n0_0 c0_0, .int .i64 x0.gc.phase, .int .i64 x0.gc.pos, .int .i64 x0.gc.round, .slice a0_4 n0_4 c0_4], .int .i64 x1] w0 (fun v w => ∃ ar0_0 cr0_0, ∃ ar0_4 cr0_4, v = .agg #[.slice ar0_0 r.arena.length cr0_0, .int .i64 r.gc.phase, .int .i64 r.gc.pos, .int .i64 r.gc.round, .slice ar0_4 r.gc.grey.length cr0_4] ∧ St w0 [] w [sl ar0_0 cr0_0 r.arena, sl ar0_4 cr0_4 r.gc.grey]) := by
  subst hn0_0 hn0_4
  unfold F_i_GcBorn at h
  refine Ret.fn Try.func40 fun e => ?_
  have hS1 := St.start w0
  refine go ?_
  refine LW.bo hS1 fun g1 w2 hS2 => ?_
  refine LW.al hS2 fun g3 w4 hS3 => ?_
  refine go ?_
  replace ⟨y5, hy5, h⟩ := obind h
  refine LW.cl (W_i_copyHeap hy5 rfl (hS3.rB hr0_0) rfl (hS3.rB hr0_4)) ?_
  rintro _ w10 ⟨a6, c7, a8, c9, rfl, hs⟩
  have hS4 := hS3.add hs
  refine LW.al hS4 fun g11 w12 hS5 => ?_
  refine LW.st hS5 0 fun w13 hS6 => ?_
  refine gs ?_
  obtain ⟨j14, hj14, h15⟩ := obind h
  refine CW.jn [1, 2, 4, 5] [0, 1, 2, 3, 4] [(22, .bool j14)] hS6 (h1 := ?_) (h2 := ?_)
  · have h := hj14
    refine go ?_
    replace ⟨y16, hy16, h⟩ := obind h
    refine LW.c0 (W_i_HeapOk hy16 rfl (hS6.rB hr0_0) rfl (hS6.rB hr0_4)) hS6 fun w17 hS7 => ?_
    refine go ?_
    rcases bcases y16 with hc18 | hc18
    · replace h := bcT h hc18
      refine go ?_
      replace ⟨y19, hy19, h⟩ := obind h
      refine go ?_
      refine LW.c0 (W_i_isSlot hy19) hS7 fun w20 hS8 => ?_
      refine go ?_
      rcases bcases y19 with hc21 | hc21
      · replace h := bcT h hc21
        refine go ?_
        replace ⟨y22, hy22, h⟩ := obind h
        obtain ⟨b25, o26, cs27, hae, hb30, hp23, hq24, hd28, hk29⟩ := hr0_0.idx hy22
        subst hae
        obtain ⟨a31, c32, a34, c35, a37, c38, rfl, hr33, hr36, hr39⟩ := hd28
        refine go ?_
        refine LW.u (Pur.ix Try.underlying33 sz84 rfl rfl hp23 hq24) rfl ?_
        refine go ?_
        refine LW.l (Ldr.old w0 ag3 rfl (hk29 1 _ rfl)) (hS8.same _ hb30.1 hb30.2) rfl ?_
        refine go ?_
        cases oi h
        exact ⟨⟨rfl, rfl, rfl, rfl, rfl, trivial⟩, hS8.pick [0, 1, 2, 3, 4] rfl rfl⟩
      replace h := bcF h hc21
      refine go ?_
      cases oi h
      exact ⟨⟨rfl, rfl, rfl, rfl, rfl, trivial⟩, hS8.pick [0, 1, 2, 3, 4] rfl rfl⟩
    replace h := bcF h hc18
    refine go ?_
    cases oi h
    exact ⟨⟨rfl, rfl, rfl, rfl, rfl, trivial⟩, hS7.pick [0, 1, 2, 3, 4] rfl rfl⟩
  intro e w40 hS9
  have h := h15
  refine gs ?_
  obtain ⟨j41, hj41, h42⟩ := obind h
  refine CW.cut (fun e wb => En e [(4, .pointer (some ⟨g3, 0, none⟩)), (5, .pointer (some ⟨g11, 0, none⟩))] ∧ St w0 [] wb [bx g11 37 [.slice a6 j41.length c7, .int .i64 y5.gc.phase, .int .i64 y5.gc.pos, .int .i64 y5.gc.round, .slice a8 y5.gc.grey.length c9], sl a6 c7 j41, sl a8 c9 y5.gc.grey, bx g3 37 [.slice none 0 0, .int .i64 0, .int .i64 0, .int .i64 0, .slice none 0 0]]) ?_ ?_
  · have h := hj41
    refine cd (fun hc43 => ?_) fun hc43 => ?_
    · replace h := bcT h hc43
      refine go ?_
      rcases bcases (x0.gc.phase == 0) with hc44 | hc44
      · replace h := bcT h hc44
        refine go ?_
        replace ⟨y45, hy45, h⟩ := obind h
        obtain ⟨b48, o49, hae, hp46, hq47⟩ := hS9.ownIdx (α := DObj) (i := 1) rfl hy45
        subst hae
        refine LW.u (Pur.ix Try.underlying33 sz84 rfl rfl hp46 hq47) rfl ?_
        refine go ?_
        replace ⟨y50, hy50, h⟩ := obind h
        refine LW.stE (M := []) (L := [bx g11 37 [.slice (some ⟨b48, o49, none⟩) y5.arena.length c7, .int .i64 y5.gc.phase, .int .i64 y5.gc.pos, .int .i64 y5.gc.round, .slice a8 y5.gc.grey.length c9], sl (some ⟨b48, o49, none⟩) c7 y5.arena, sl a8 c9 y5.gc.grey, bx g3 37 [.slice none 0 0, .int .i64 0, .int .i64 0, .int .i64 0, .slice none 0 0], bx g1 37 [.slice a0_0 x0.arena.length c0_0, .int .i64 x0.gc.phase, .int .i64 x0.gc.pos, .int .i64 x0.gc.round, .slice a0_4 x0.gc.grey.length c0_4]]) (z := y45) (z' := (DObj.mk y45.gen y45.kind y45.box y45.res y45.til y45.pages y45.wait y45.got y45.ran true y45.links y45.data y45.queue)) (o := 9) hS9 (i := 1) rfl hy45 ag4 rfl (by show _ = o49 + (x1 : Int).toNat * 13 + 9; omega) rfl rfl rfl rfl (leafF (fun w cs F hF => by obtain ⟨q0, r0, q1, r1, q2, r2, rfl, hH⟩ := hF; exact ⟨q0, r0, q1, r1, q2, r2, rfl, hH⟩)) ?_
        intro w51 hS10 hf
        rw [Option.some.inj hy50] at hS10
        refine go ?_
        rw [show y5.arena.length = y50.length from (len_set (Option.some.inj hy50))] at hS10
        cases oi h
        exact ⟨⟨rfl, rfl, trivial⟩, hS10.pick [0, 1, 2, 3] rfl rfl⟩
      replace h := bcF h hc44
      refine go ?_
      replace ⟨y52, hy52, h⟩ := obind h
      obtain ⟨b55, o56, hae, hp53, hq54⟩ := hS9.ownIdx (α := DObj) (i := 1) rfl hy52
      subst hae
      refine LW.u (Pur.ix Try.underlying33 sz84 rfl rfl hp53 hq54) rfl ?_
      refine go ?_
      replace ⟨y57, hy57, h⟩ := obind h
      refine LW.stE (M := []) (L := [bx g11 37 [.slice (some ⟨b55, o56, none⟩) y5.arena.length c7, .int .i64 y5.gc.phase, .int .i64 y5.gc.pos, .int .i64 y5.gc.round, .slice a8 y5.gc.grey.length c9], sl (some ⟨b55, o56, none⟩) c7 y5.arena, sl a8 c9 y5.gc.grey, bx g3 37 [.slice none 0 0, .int .i64 0, .int .i64 0, .int .i64 0, .slice none 0 0], bx g1 37 [.slice a0_0 x0.arena.length c0_0, .int .i64 x0.gc.phase, .int .i64 x0.gc.pos, .int .i64 x0.gc.round, .slice a0_4 x0.gc.grey.length c0_4]]) (z := y52) (z' := (DObj.mk y52.gen y52.kind y52.box y52.res y52.til y52.pages y52.wait y52.got y52.ran (decide (x1 ≥ x0.gc.pos)) y52.links y52.data y52.queue)) (o := 9) hS9 (i := 1) rfl hy52 ag4 rfl (by show _ = o56 + (x1 : Int).toNat * 13 + 9; omega) rfl rfl rfl rfl (leafF (fun w cs F hF => by obtain ⟨q0, r0, q1, r1, q2, r2, rfl, hH⟩ := hF; exact ⟨q0, r0, q1, r1, q2, r2, rfl, hH⟩)) ?_
      intro w58 hS11 hf
      rw [Option.some.inj hy57] at hS11
      refine go ?_
      rw [show y5.arena.length = y57.length from (len_set (Option.some.inj hy57))] at hS11
      cases oi h
      exact ⟨⟨rfl, rfl, trivial⟩, hS11.pick [0, 1, 2, 3] rfl rfl⟩
    replace h := bcF h hc43
    refine go ?_
    cases oi h
    exact ⟨⟨rfl, rfl, trivial⟩, hS9.pick [0, 1, 2, 3] rfl rfl⟩
  rintro e w59 ⟨hE, hS12⟩
  obtain ⟨e, rfl⟩ := hE.out
  have h := h42
  refine go ?_
  refine LW.st hS12 3 fun w60 hS13 => ?_
  refine go ?_
  cases h
  exact And.intro trivial ⟨_, Res.one (resOne.b hS13 3 rfl ag37 rfl rfl), a6, c7, a8, c9, rfl, hS13.pick [1, 2] rfl rfl⟩

theorem W_i_PartOk {w0 : World} {N : Nat} {x0 : DPart} {r : Bool} (h : F_i_PartOk N x0 = some r) {a0_0 : Option Addr} {n0_0 c0_0 : Nat} (hn0_0 : n0_0 = x0.label.levels.length) (hr0_0 : rdS (Bor w0 []) w0 a0_0 c0_0 x0.label.levels) {a0_1 : Option Addr} {n0_1 c0_1 : Nat} (hn0_1 : n0_1 = x0.own.length) (hr0_1 : rdS (Bor w0 []) w0 a0_1 c0_1 x0.own) {a0_2 : Option Addr} {n0_2 c0_2 : Nat} (hn0_2 : n0_2 = x0.tree.length) (hr0_2 : rdS (Bor w0 []) w0 a0_2 c0_2 x0.tree) {a0_3 : Option Addr} {n0_3 c0_3 : Nat} (hn0_3 : n0_3 = x0.heap.arena.length) (hr0_3 : rdS (Bor w0 []) w0 a0_3 c0_3 x0.heap.arena) {a0_7 : Option Addr} {n0_7 c0_7 : Nat} (hn0_7 : n0_7 = x0.heap.gc.grey.length) (hr0_7 : rdS (Bor w0 []) w0 a0_7 c0_7 x0.heap.gc.grey) {a0_8 : Option Addr} {n0_8 c0_8 : Nat} (hn0_8 : n0_8 = x0.taps.length) (hr0_8 : rdS (Bor w0 []) w0 a0_8 c0_8 x0.taps) :
    Ret Try.prog 12 #[.agg #[.slice a0_0 n0_0 c0_0, .slice a0_1 n0_1 c0_1, .slice a0_2 n0_2 c0_2, .slice a0_3 n0_3 c0_3, .int .i64 x0.heap.gc.phase, .int .i64 x0.heap.gc.pos, .int .i64 x0.heap.gc.round, .slice a0_7 n0_7 c0_7, .slice a0_8 n0_8 c0_8, .int .i64 x0.next, .int .i64 x0.want, .int .i64 x0.spent.pages, .int .i64 x0.spent.rent, .int .i64 x0.spent.cpu, .int .i64 x0.press, .int .i64 x0.lost]] w0 (fun v w => v = .bool r ∧ St w0 [] w []) := by
  subst hn0_0 hn0_1 hn0_2 hn0_3 hn0_7 hn0_8
  unfold F_i_PartOk at h
  refine Ret.fn Try.func12 fun e => ?_
  have hS1 := St.start w0
  refine go ?_
  refine LW.bo hS1 fun g1 w2 hS2 => ?_
  refine go ?_
  obtain ⟨o21, ho21, h22⟩ := obind h
  refine CW.mono (CW.lx [1, 6, 7] [0] [1] 0 (fun s3 => [(8, .int .i64 s3)]) (RT Try.prog Try.f12.results (fun u => .bool u) w0 []) hS2 ho21 (hb := ?_)) ?_
  · intro s3 e w4 o hS3 h
    refine go ?_
    refine cd (fun hc5 => ?_) fun hc5 => ?_
    · replace h := bcT h hc5
      refine go ?_
      replace ⟨y6, hy6, h⟩ := obind h
      obtain ⟨b9, o10, cs11, hae, hb14, hp7, hq8, hd12, hk13⟩ := hr0_8.idx hy6
      subst hae
      obtain rfl := hd12
      refine LW.u (Pur.ix Try.underlying38 sz95 rfl rfl hp7 hq8) rfl ?_
      refine LW.l (Ldr.oldN w0 ag95 rfl rfl (fun j u hu => hk13 j u hu)) (hS3.same _ hb14.1 hb14.2) rfl ?_
      refine LW.al hS3 fun g15 w16 hS4 => ?_
      refine LW.st hS4 0 fun w17 hS5 => ?_
      refine go ?_
      replace ⟨y18, hy18, h⟩ := obind h
      refine LW.c0 (W_i_TapOk hy18) hS5 fun w19 hS6 => ?_
      refine go ?_
      refine CW.fl [1, 6, 7, 8, 14] fun e => ?_
      refine cd (fun hc20 => ?_) fun hc20 => ?_
      · replace h := bcT h hc20
        refine go ?_
        cases oi h
        exact ⟨trivial, rfl, _, rfl, ⟨_, Res.one (resOne.t rfl), rfl, hS6.pick [] rfl rfl⟩⟩
      replace h := bcF h hc20
      refine go ?_
      cases oi h
      exact ⟨rfl, ⟨⟨rfl, rfl, rfl, rfl, trivial⟩, hS6.pick [1] rfl rfl⟩⟩
    replace h := bcF h hc5
    refine go ?_
    cases oi h
    exact ⟨trivial, rfl, ⟨⟨rfl, trivial⟩, hS3.pick [0] rfl rfl⟩⟩
  intro x e w23 hM
  rcases o21 with o21 | r54
  · obtain ⟨rfl, hM⟩ := hM
    obtain ⟨hE, hS7⟩ := hM
    obtain ⟨e, rfl⟩ := hE.out
    have h := h22
    refine gs ?_
    obtain ⟨j24, hj24, h25⟩ := obind h
    refine CW.jn [1] [0] [(43, .bool j24)] hS7 (h1 := ?_) (h2 := ?_)
    · have h := hj24
      refine go ?_
      replace ⟨y26, hy26, h⟩ := obind h
      refine LW.c0 (W_i_LabelOk hy26 rfl (hS7.rB hr0_0)) hS7 fun w27 hS8 => ?_
      refine go ?_
      rcases bcases (!y26) with hc28 | hc28
      · replace h := bcT h hc28
        refine go ?_
        cases oi h
        exact ⟨⟨rfl, rfl, trivial⟩, hS8.pick [0] rfl rfl⟩
      replace h := bcF h hc28
      refine go ?_
      replace ⟨y29, hy29, h⟩ := obind h
      refine go ?_
      refine LW.c0 (W_i_OwnOk hy29 rfl (hS8.rB hr0_1)) hS8 fun w30 hS9 => ?_
      refine go ?_
      rcases bcases (!y29) with hc31 | hc31
      · replace h := bcT h hc31
        refine go ?_
        cases oi h
        exact ⟨⟨rfl, rfl, trivial⟩, hS9.pick [0] rfl rfl⟩
      replace h := bcF h hc31
      refine go ?_
      replace ⟨y32, hy32, h⟩ := obind h
      refine go ?_
      refine LW.c0 (W_i_TreeOk hy32 rfl (hS9.rB hr0_2)) hS9 fun w33 hS10 => ?_
      refine go ?_
      refine LW.fl [1, 32] fun e => ?_
      rcases bcases (!y32) with hc34 | hc34
      · replace h := bcT h hc34
        refine go ?_
        cases oi h
        exact ⟨⟨rfl, rfl, trivial⟩, hS10.pick [0] rfl rfl⟩
      replace h := bcF h hc34
      refine go ?_
      replace ⟨y35, hy35, h⟩ := obind h
      refine go ?_
      refine LW.c0 (W_i_HeapOk hy35 rfl (hS10.rB hr0_3) rfl (hS10.rB hr0_7)) hS10 fun w36 hS11 => ?_
      refine go ?_
      rcases bcases (!y35) with hc37 | hc37
      · replace h := bcT h hc37
        refine go ?_
        cases oi h
        exact ⟨⟨rfl, rfl, trivial⟩, hS11.pick [0] rfl rfl⟩
      replace h := bcF h hc37
      refine go ?_
      cases oi h
      exact ⟨⟨rfl, rfl, trivial⟩, hS11.pick [0] rfl rfl⟩
    intro e w38 hS12
    have h := h25
    refine go ?_
    refine cd (fun hc39 => ?_) fun hc39 => ?_
    · replace h := bcT h hc39
      refine go ?_
      cases h
      exact fi hS12
    replace h := bcF h hc39
    refine go ?_
    replace ⟨y40, hy40, h⟩ := obind h
    refine LW.c0 (W_i_isSlot hy40) hS12 fun w41 hS13 => ?_
    refine go ?_
    rcases bcases y40 with hc42 | hc42
    · replace h := bcT h hc42
      refine go ?_
      replace ⟨y43, hy43, h⟩ := obind h
      refine go ?_
      refine LW.c0 (W_i_within hy43) hS13 fun w44 hS14 => ?_
      refine go ?_
      rcases bcases y43 with hc45 | hc45
      · replace h := bcT h hc45
        refine go ?_
        replace ⟨y46, hy46, h⟩ := obind h
        refine go ?_
        refine LW.c0 (W_i_AmtOk hy46) hS14 fun w47 hS15 => ?_
        refine go ?_
        rcases bcases y46 with hc48 | hc48
        · replace h := bcT h hc48
          refine go ?_
          refine LW.fl [1, 57, 59] fun e => ?_
          replace ⟨y49, hy49, h⟩ := obind h
          refine go ?_
          refine LW.c0 (W_i_isTime hy49) hS15 fun w50 hS16 => ?_
          refine go ?_
          rcases bcases y49 with hc51 | hc51
          · replace h := bcT h hc51
            refine go ?_
            replace ⟨y52, hy52, h⟩ := obind h
            refine go ?_
            refine LW.c0 (W_i_isTime hy52) hS16 fun w53 hS17 => ?_
            refine go ?_
            cases h
            exact fi hS17
          replace h := bcF h hc51
          refine go ?_
          cases h
          exact fi hS16
        replace h := bcF h hc48
        refine go ?_
        cases h
        exact fi hS15
      replace h := bcF h hc45
      refine go ?_
      cases h
      exact fi hS14
    replace h := bcF h hc42
    refine go ?_
    cases h
    exact fi hS13
  obtain ⟨rfl, u, rfl, hM⟩ := hM
  cases h22
  exact And.intro trivial hM

theorem W_i_PartSum {w0 : World} {N : Nat} {x0 : DPart} {r : DAmt} (h : F_i_PartSum N x0 = some r) {a0_0 : Option Addr} {n0_0 c0_0 : Nat} (hn0_0 : n0_0 = x0.label.levels.length) (hr0_0 : rdS (Bor w0 []) w0 a0_0 c0_0 x0.label.levels) {a0_1 : Option Addr} {n0_1 c0_1 : Nat} (hn0_1 : n0_1 = x0.own.length) (hr0_1 : rdS (Bor w0 []) w0 a0_1 c0_1 x0.own) {a0_2 : Option Addr} {n0_2 c0_2 : Nat} (hn0_2 : n0_2 = x0.tree.length) (hr0_2 : rdS (Bor w0 []) w0 a0_2 c0_2 x0.tree) {a0_3 : Option Addr} {n0_3 c0_3 : Nat} (hn0_3 : n0_3 = x0.heap.arena.length) (hr0_3 : rdS (Bor w0 []) w0 a0_3 c0_3 x0.heap.arena) {a0_7 : Option Addr} {n0_7 c0_7 : Nat} (hn0_7 : n0_7 = x0.heap.gc.grey.length) (hr0_7 : rdS (Bor w0 []) w0 a0_7 c0_7 x0.heap.gc.grey) {a0_8 : Option Addr} {n0_8 c0_8 : Nat} (hn0_8 : n0_8 = x0.taps.length) (hr0_8 : rdS (Bor w0 []) w0 a0_8 c0_8 x0.taps) :
    Ret Try.prog 17 #[.agg #[.slice a0_0 n0_0 c0_0, .slice a0_1 n0_1 c0_1, .slice a0_2 n0_2 c0_2, .slice a0_3 n0_3 c0_3, .int .i64 x0.heap.gc.phase, .int .i64 x0.heap.gc.pos, .int .i64 x0.heap.gc.round, .slice a0_7 n0_7 c0_7, .slice a0_8 n0_8 c0_8, .int .i64 x0.next, .int .i64 x0.want, .int .i64 x0.spent.pages, .int .i64 x0.spent.rent, .int .i64 x0.spent.cpu, .int .i64 x0.press, .int .i64 x0.lost]] w0 (fun v w => v = .agg #[.int .i64 r.pages, .int .i64 r.rent, .int .i64 r.cpu] ∧ St w0 [] w []) := by
  subst hn0_0 hn0_1 hn0_2 hn0_3 hn0_7 hn0_8
  unfold F_i_PartSum at h
  refine Ret.fn Try.func17 fun e => ?_
  have hS1 := St.start w0
  refine go ?_
  refine LW.bo hS1 fun g1 w2 hS2 => ?_
  refine LW.al hS2 fun g3 w4 hS3 => ?_
  refine go ?_
  replace ⟨y5, hy5, h⟩ := obind h
  refine LW.c0 (W_i_TreeSum hy5 rfl (hS3.rB hr0_2)) hS3 fun w6 hS4 => ?_
  refine LW.al hS4 fun g7 w8 hS5 => ?_
  refine LW.st hS5 0 fun w9 hS6 => ?_
  refine go ?_
  replace ⟨y10, hy10, h⟩ := obind h
  refine LW.c0 (W_i_AmtOk hy10) hS6 fun w11 hS7 => ?_
  refine go ?_
  refine cd (fun hc12 => ?_) fun hc12 => ?_
  · replace h := bcT h hc12
    refine go ?_
    refine LW.st hS7 1 fun w13 hS8 => ?_
    refine go ?_
    cases h
    exact And.intro trivial ⟨_, Res.one (resOne.b hS8 1 rfl ag28 rfl rfl), rfl, hS8.pick [] rfl rfl⟩
  replace h := bcF h hc12
  refine go ?_
  refine CW.draw (by kernel_rfl) ?_
  have hS9 := hS7.drew
  refine go ?_
  replace ⟨y14, hy14, h⟩ := obind h
  have q := W_i_Held (w0 := w11.drew) hy14 rfl (hS9.rB hr0_0) rfl (hS9.rB hr0_1) rfl (hS9.rB hr0_2) rfl (hS9.rB hr0_3) rfl (hS9.rB hr0_7) rfl (hS9.rB hr0_8)
  refine AW.one (i := 3) (by kernel_rfl) ?_
  refine ⟨_, rfl, ?_⟩
  refine LW.call pl18 rfl rfl ?_
  refine Ret.mono q ?_
  rintro _ w15 ⟨rfl, hs⟩
  have hS10 := hS9.add hs
  refine LW.nil ⟨rfl, (.w (by kernel_rfl) (.c (St.cell (h := hS10) (i := 0) rfl) Kept.n)), ?_⟩
  refine go ?_
  refine AW.one (i := 6) (by kernel_rfl) ?_
  refine ⟨_, rfl, ?_⟩
  refine LW.st hS10 0 fun w16 hS11 => ?_
  refine LW.nil ⟨rfl, (.w (by kernel_rfl) (.w (by kernel_rfl) Kept.n)), ?_⟩
  refine go ?_
  replace ⟨y17, hy17, h⟩ := obind h
  refine LW.c0 (W_i_sumOf hy17) hS11 fun w18 hS12 => ?_
  refine LW.st hS12 1 fun w19 hS13 => ?_
  refine go ?_
  cases h
  exact And.intro trivial ⟨_, Res.one (resOne.b hS13 1 rfl ag28 rfl rfl), rfl, hS13.pick [] rfl rfl⟩

theorem W_i_balOf {w0 : World} {N : Nat} {x0 : DPart} {x1 : Int} {r : DAmt} (h : F_i_balOf N x0 x1 = some r) {a0_0 : Option Addr} {n0_0 c0_0 : Nat} (hn0_0 : n0_0 = x0.label.levels.length) (hr0_0 : rdS (Bor w0 []) w0 a0_0 c0_0 x0.label.levels) {a0_1 : Option Addr} {n0_1 c0_1 : Nat} (hn0_1 : n0_1 = x0.own.length) (hr0_1 : rdS (Bor w0 []) w0 a0_1 c0_1 x0.own) {a0_2 : Option Addr} {n0_2 c0_2 : Nat} (hn0_2 : n0_2 = x0.tree.length) (hr0_2 : rdS (Bor w0 []) w0 a0_2 c0_2 x0.tree) {a0_3 : Option Addr} {n0_3 c0_3 : Nat} (hn0_3 : n0_3 = x0.heap.arena.length) (hr0_3 : rdS (Bor w0 []) w0 a0_3 c0_3 x0.heap.arena) {a0_7 : Option Addr} {n0_7 c0_7 : Nat} (hn0_7 : n0_7 = x0.heap.gc.grey.length) (hr0_7 : rdS (Bor w0 []) w0 a0_7 c0_7 x0.heap.gc.grey) {a0_8 : Option Addr} {n0_8 c0_8 : Nat} (hn0_8 : n0_8 = x0.taps.length) (hr0_8 : rdS (Bor w0 []) w0 a0_8 c0_8 x0.taps) :
    Ret Try.prog 63 #[.agg #[.slice a0_0 n0_0 c0_0, .slice a0_1 n0_1 c0_1, .slice a0_2 n0_2 c0_2, .slice a0_3 n0_3 c0_3, .int .i64 x0.heap.gc.phase, .int .i64 x0.heap.gc.pos, .int .i64 x0.heap.gc.round, .slice a0_7 n0_7 c0_7, .slice a0_8 n0_8 c0_8, .int .i64 x0.next, .int .i64 x0.want, .int .i64 x0.spent.pages, .int .i64 x0.spent.rent, .int .i64 x0.spent.cpu, .int .i64 x0.press, .int .i64 x0.lost], .int .i64 x1] w0 (fun v w => v = .agg #[.int .i64 r.pages, .int .i64 r.rent, .int .i64 r.cpu] ∧ St w0 [] w []) := by
  subst hn0_0 hn0_1 hn0_2 hn0_3 hn0_7 hn0_8
  unfold F_i_balOf at h
  refine Ret.fn Try.func63 fun e => ?_
  have hS1 := St.start w0
  refine go ?_
  refine LW.bo hS1 fun g1 w2 hS2 => ?_
  refine LW.al hS2 fun g3 w4 hS3 => ?_
  refine go ?_
  refine CW.draw (by kernel_rfl) ?_
  have hS4 := hS3.drew
  refine go ?_
  replace ⟨y5, hy5, h⟩ := obind h
  obtain ⟨b8, o9, cs10, hae, hb13, hp6, hq7, hd11, hk12⟩ := hr0_3.idx hy5
  subst hae
  obtain ⟨a14, c15, a17, c18, a20, c21, rfl, hr16, hr19, hr22⟩ := hd11
  refine AW.u (i := 7) rfl (by kernel_rfl) rfl rfl (Pur.ix Try.underlying33 sz84 rfl rfl hp6 hq7) ?_
  refine go ?_
  refine AW.take (i := 9) rfl (by kernel_rfl) rfl rfl (Ldr.old w0 ag3 rfl (hk12 3 _ rfl)) (hS4.same _ hb13.1 hb13.2) ?_
  replace ⟨y23, hy23, h⟩ := obind h
  have q := W_i_ResOf (w0 := w4.drew) hy23 rfl (hS4.rB hr0_0) rfl (hS4.rB hr0_1) rfl (hS4.rB hr0_2) rfl (hS4.rB hr0_3) rfl (hS4.rB hr0_7) rfl (hS4.rB hr0_8)
  refine AW.one (i := 10) (by kernel_rfl) ?_
  refine ⟨_, rfl, ?_⟩
  refine LW.call pl87 rfl rfl ?_
  refine Ret.mono q ?_
  rintro _ w24 ⟨rfl, hs⟩
  have hS5 := hS4.add hs
  refine LW.nil ⟨rfl, (.w (by kernel_rfl) (.c (St.cell (h := hS5) (i := 1) rfl) (.w (by kernel_rfl) (.c (St.cell (h := hS5) (i := 1) rfl) Kept.n)))), ?_⟩
  replace ⟨y25, hy25, h⟩ := obind h
  obtain ⟨b28, o29, cs30, hae, hb33, hp26, hq27, hd31, hk32⟩ := hr0_2.idx hy25
  subst hae
  obtain rfl := hd31
  refine AW.u (i := 11) rfl (by kernel_rfl) rfl rfl (Pur.ix Try.underlying32 sz111 rfl rfl hp26 hq27) ?_
  refine go ?_
  refine AW.take (i := 13) rfl (by kernel_rfl) rfl rfl (Ldr.oldN w0 ag28 rfl rfl (fun j u hu => oldsub (m := 3) hk32 2 hu)) (hS5.same _ hb33.1 hb33.2) ?_
  refine AW.one (i := 14) (by kernel_rfl) ?_
  refine ⟨_, rfl, ?_⟩
  refine LW.st hS5 0 fun w34 hS6 => ?_
  refine LW.nil ⟨rfl, (.w (by kernel_rfl) (.w (by kernel_rfl) (.w (by kernel_rfl) (.w (by kernel_rfl) (.w (by kernel_rfl) Kept.n))))), ?_⟩
  refine go ?_
  cases h
  exact And.intro trivial ⟨_, Res.one (resOne.b hS6 0 rfl ag28 rfl rfl), rfl, hS6.pick [] rfl rfl⟩

end Go.Kx
