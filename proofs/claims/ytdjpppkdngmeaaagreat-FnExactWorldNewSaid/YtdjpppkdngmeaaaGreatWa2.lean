/- Each call returns what the plain function says. Printed by drive.py. -/
import Derived.Test.YtdjpppkdngmeaaaGreatFa
import Derived.Test.YtdjpppkdngmeaaaGreatPu
import Derived.Test.YtdjpppkdngmeaaaGreatWa1
namespace Go.Kx
open Go Go.RowKit Go.Proofs
set_option maxRecDepth 10000
set_option maxHeartbeats 2000000
set_option linter.unusedVariables false
set_option linter.unusedSimpArgs false
theorem W_z_Equal_Msg {w0 : World} {N : Nat} {x0 : List DMsg} {x1 : List DMsg} {r : Bool} (h : F_z_Equal_Msg N x0 x1 = some r) {a0_0 : Option Addr} {n0_0 c0_0 : Nat} (hn0_0 : n0_0 = x0.length) (hr0_0 : rdS (Bor w0 []) w0 a0_0 c0_0 x0) {a1_0 : Option Addr} {n1_0 c1_0 : Nat} (hn1_0 : n1_0 = x1.length) (hr1_0 : rdS (Bor w0 []) w0 a1_0 c1_0 x1) :
    Ret Tryz.prog 188 #[.slice a0_0 n0_0 c0_0, .slice a1_0 n1_0 c1_0] w0 (fun v w => v = .bool r ∧ St w0 [] w []) := by
  subst hn0_0 hn1_0
  unfold F_z_Equal_Msg at h
  refine Ret.fn Tryz.func188 fun e => ?_
  have hS1 := St.start w0
  refine go ?_
  refine CW.cond rfl (fun hc1 => ?_) (fun hc1 => ?_)
  · replace h := bcT h hc1
    refine go ?_
    cases h
    exact And.intro trivial ⟨_, Res.one (resOne.t rfl), rfl, hS1.pick [] rfl rfl⟩
  replace h := bcF h hc1
  refine go ?_
  obtain ⟨o24, ho24, h25⟩ := obind h
  refine CW.mono (CW.iter (σ := Int) (ρ := Int ⊕ Bool) (fun s2 e wb => En e [(0, .slice a0_0 x0.length c0_0), (1, .slice a1_0 x1.length c1_0), (12, .int .i64 (x0.length : Int)), (13, .int .i64 s2)] ∧ St w0 [] wb []) (fun o x e wb => match o with | .inl s2 => x = .exit 0 ∧ En e [] ∧ St w0 [] wb [] | .inr r => x = .ret ∧ ∃ u, u = r ∧ ∃ v, Res Tryz.prog Tryz.f188.results e wb v ∧ v = .bool u ∧ St w0 [] wb []) ?_ N 0 _ _ _ ⟨⟨rfl, rfl, rfl, rfl, trivial⟩, hS1.pick [] rfl rfl⟩ ho24) ?_
  · intro s2 e w3 o hM h
    obtain ⟨hE, hS2⟩ := hM
    obtain ⟨e, rfl⟩ := hE.out
    refine go ?_
    refine CW.cond rfl (fun hc4 => ?_) (fun hc4 => ?_)
    · replace h := bcT h hc4
      refine go ?_
      refine CW.draw (by kernel_rfl) ?_
      have hS3 := hS2.drew
      refine AW.u (i := 0) rfl (by kernel_rfl) rfl rfl (Pur.p rfl) ?_
      refine AW.u (i := 1) rfl (by kernel_rfl) rfl rfl (Pur.p rfl) ?_
      replace ⟨y5, hy5, h⟩ := obind h
      obtain ⟨b8, o9, cs10, hae, hb13, hp6, hq7, hd11, hk12⟩ := hr0_0.idx hy5
      subst hae
      obtain rfl := hd11
      refine AW.u (i := 2) rfl (by kernel_rfl) rfl rfl (Pur.ix Tryz.underlying83 sz187 rfl rfl hp6 hq7) ?_
      refine AW.take (i := 3) rfl (by kernel_rfl) rfl rfl (Ldr.oldN w0 ag187 rfl rfl (fun j u hu => hk12 j u hu)) (hS3.same _ hb13.1 hb13.2) ?_
      refine AW.u (i := 4) rfl (by kernel_rfl) rfl rfl (Pur.p rfl) ?_
      refine AW.u (i := 5) rfl (by kernel_rfl) rfl rfl (Pur.p rfl) ?_
      replace ⟨y14, hy14, h⟩ := obind h
      obtain ⟨b17, o18, cs19, hae, hb22, hp15, hq16, hd20, hk21⟩ := hr1_0.idx hy14
      subst hae
      obtain rfl := hd20
      refine AW.u (i := 6) rfl (by kernel_rfl) rfl rfl (Pur.ix Tryz.underlying83 sz187 rfl rfl hp15 hq16) ?_
      refine AW.take (i := 7) rfl (by kernel_rfl) rfl rfl (Ldr.oldN w0 ag187 rfl rfl (fun j u hu => hk21 j u hu)) (hS3.same _ hb22.1 hb22.2) ?_
      refine AW.u (i := 8) rfl (by kernel_rfl) rfl rfl (Pur.ane eg187 rfl rfl (fun w => eq187 y5 y14 w)) ?_
      refine AW.done (by kernel_rfl) ?_
      refine go ?_
      refine CW.cond rfl (fun hc23 => ?_) (fun hc23 => ?_)
      · replace h := bcT h hc23
        refine go ?_
        cases oi h
        exact ⟨trivial, rfl, _, rfl, ⟨_, Res.one (resOne.t rfl), rfl, hS3.pick [] rfl rfl⟩⟩
      replace h := bcF h hc23
      refine go ?_
      cases oi h
      exact ⟨rfl, ⟨⟨rfl, rfl, rfl, rfl, trivial⟩, hS3.pick [] rfl rfl⟩⟩
    replace h := bcF h hc4
    refine go ?_
    cases oi h
    exact ⟨trivial, rfl, ⟨trivial, hS2.pick [] rfl rfl⟩⟩
  intro x e w26 hM
  rcases o24 with o24 | r27
  · obtain ⟨rfl, hM⟩ := hM
    obtain ⟨hE, hS4⟩ := hM
    obtain ⟨e, rfl⟩ := hE.out; rw [show e = upds e [] from rfl]
    have h := h25
    refine go ?_
    cases h
    exact And.intro trivial ⟨_, Res.one (resOne.t rfl), rfl, hS4.pick [] rfl rfl⟩
  obtain ⟨rfl, u, rfl, hM⟩ := hM
  cases h25
  exact And.intro trivial hM

theorem W_i_sameObj {w0 : World} {N : Nat} {x0 : DObj} {x1 : DObj} {r : Bool} (h : F_i_sameObj N x0 x1 = some r) {a0_10 : Option Addr} {n0_10 c0_10 : Nat} (hn0_10 : n0_10 = x0.links.length) (hr0_10 : rdS (Bor w0 []) w0 a0_10 c0_10 x0.links) {a0_11 : Option Addr} {n0_11 c0_11 : Nat} (hn0_11 : n0_11 = x0.data.length) (hr0_11 : rdS (Bor w0 []) w0 a0_11 c0_11 x0.data) {a0_12 : Option Addr} {n0_12 c0_12 : Nat} (hn0_12 : n0_12 = x0.queue.length) (hr0_12 : rdS (Bor w0 []) w0 a0_12 c0_12 x0.queue) {a1_10 : Option Addr} {n1_10 c1_10 : Nat} (hn1_10 : n1_10 = x1.links.length) (hr1_10 : rdS (Bor w0 []) w0 a1_10 c1_10 x1.links) {a1_11 : Option Addr} {n1_11 c1_11 : Nat} (hn1_11 : n1_11 = x1.data.length) (hr1_11 : rdS (Bor w0 []) w0 a1_11 c1_11 x1.data) {a1_12 : Option Addr} {n1_12 c1_12 : Nat} (hn1_12 : n1_12 = x1.queue.length) (hr1_12 : rdS (Bor w0 []) w0 a1_12 c1_12 x1.queue) :
    Ret Tryz.prog 184 #[.agg #[.int .i64 x0.gen, .int .i64 x0.kind, .int .i64 x0.box, .int .i64 x0.res, .int .i64 x0.til, .int .i64 x0.pages, .int .i64 x0.wait, .int .i64 x0.got, .int .i64 x0.ran, .bool x0.mark, .slice a0_10 n0_10 c0_10, .slice a0_11 n0_11 c0_11, .slice a0_12 n0_12 c0_12], .agg #[.int .i64 x1.gen, .int .i64 x1.kind, .int .i64 x1.box, .int .i64 x1.res, .int .i64 x1.til, .int .i64 x1.pages, .int .i64 x1.wait, .int .i64 x1.got, .int .i64 x1.ran, .bool x1.mark, .slice a1_10 n1_10 c1_10, .slice a1_11 n1_11 c1_11, .slice a1_12 n1_12 c1_12]] w0 (fun v w => v = .bool r ∧ St w0 [] w []) := by
  subst hn0_10 hn0_11 hn0_12 hn1_10 hn1_11 hn1_12
  unfold F_i_sameObj at h
  refine Ret.fn Tryz.func184 fun e => ?_
  have hS1 := St.start w0
  refine go ?_
  refine LW.bo hS1 fun g1 w2 hS2 => ?_
  refine LW.bo hS2 fun g3 w4 hS3 => ?_
  refine go ?_
  rcases bcases (x0.gen == x1.gen) with hc5 | hc5
  · replace h := bcT h hc5
    refine go ?_
    rcases bcases (x0.kind == x1.kind) with hc6 | hc6
    · replace h := bcT h hc6
      refine go ?_
      refine LW.fl [2, 3, 24] fun e => ?_
      rcases bcases (x0.box == x1.box) with hc7 | hc7
      · replace h := bcT h hc7
        refine go ?_
        rcases bcases (x0.res == x1.res) with hc8 | hc8
        · replace h := bcT h hc8
          refine go ?_
          rcases bcases (x0.til == x1.til) with hc9 | hc9
          · replace h := bcT h hc9
            refine go ?_
            rcases bcases (x0.pages == x1.pages) with hc10 | hc10
            · replace h := bcT h hc10
              refine go ?_
              refine LW.fl [2, 3, 52] fun e => ?_
              rcases bcases (x0.wait == x1.wait) with hc11 | hc11
              · replace h := bcT h hc11
                refine go ?_
                rcases bcases (x0.got == x1.got) with hc12 | hc12
                · replace h := bcT h hc12
                  refine go ?_
                  rcases bcases (x0.ran == x1.ran) with hc13 | hc13
                  · replace h := bcT h hc13
                    refine go ?_
                    refine LW.u (Pur.beq Tryz.underlying4 rfl rfl) rfl ?_
                    refine go ?_
                    rcases bcases (x0.mark == x1.mark) with hc14 | hc14
                    · replace h := bcT h hc14
                      refine go ?_
                      refine LW.fl [2, 3, 73, 75, 77] fun e => ?_
                      replace ⟨y15, hy15, h⟩ := obind h
                      refine go ?_
                      refine LW.c0 (W_z_Equal_int hy15 rfl (hS3.rB hr0_10) rfl (hS3.rB hr1_10)) hS3 fun w16 hS4 => ?_
                      refine go ?_
                      rcases bcases y15 with hc17 | hc17
                      · replace h := bcT h hc17
                        refine go ?_
                        replace ⟨y18, hy18, h⟩ := obind h
                        refine go ?_
                        refine LW.c0 (W_z_Equal_int hy18 rfl (hS4.rB hr0_11) rfl (hS4.rB hr1_11)) hS4 fun w19 hS5 => ?_
                        refine go ?_
                        rcases bcases y18 with hc20 | hc20
                        · replace h := bcT h hc20
                          refine go ?_
                          replace ⟨y21, hy21, h⟩ := obind h
                          refine go ?_
                          refine LW.c0 (W_z_Equal_Msg hy21 rfl (hS5.rB hr0_12) rfl (hS5.rB hr1_12)) hS5 fun w22 hS6 => ?_
                          refine go ?_
                          cases h
                          exact And.intro trivial ⟨_, Res.one (resOne.t rfl), rfl, hS6.pick [] rfl rfl⟩
                        replace h := bcF h hc20
                        refine go ?_
                        cases h
                        exact And.intro trivial ⟨_, Res.one (resOne.t rfl), rfl, hS5.pick [] rfl rfl⟩
                      replace h := bcF h hc17
                      refine go ?_
                      cases h
                      exact And.intro trivial ⟨_, Res.one (resOne.t rfl), rfl, hS4.pick [] rfl rfl⟩
                    replace h := bcF h hc14
                    refine go ?_
                    cases h
                    exact And.intro trivial ⟨_, Res.one (resOne.t rfl), rfl, hS3.pick [] rfl rfl⟩
                  replace h := bcF h hc13
                  refine go ?_
                  cases h
                  exact And.intro trivial ⟨_, Res.one (resOne.t rfl), rfl, hS3.pick [] rfl rfl⟩
                replace h := bcF h hc12
                refine go ?_
                cases h
                exact And.intro trivial ⟨_, Res.one (resOne.t rfl), rfl, hS3.pick [] rfl rfl⟩
              replace h := bcF h hc11
              refine go ?_
              cases h
              exact And.intro trivial ⟨_, Res.one (resOne.t rfl), rfl, hS3.pick [] rfl rfl⟩
            replace h := bcF h hc10
            refine go ?_
            cases h
            exact And.intro trivial ⟨_, Res.one (resOne.t rfl), rfl, hS3.pick [] rfl rfl⟩
          replace h := bcF h hc9
          refine go ?_
          cases h
          exact And.intro trivial ⟨_, Res.one (resOne.t rfl), rfl, hS3.pick [] rfl rfl⟩
        replace h := bcF h hc8
        refine go ?_
        cases h
        exact And.intro trivial ⟨_, Res.one (resOne.t rfl), rfl, hS3.pick [] rfl rfl⟩
      replace h := bcF h hc7
      refine go ?_
      cases h
      exact And.intro trivial ⟨_, Res.one (resOne.t rfl), rfl, hS3.pick [] rfl rfl⟩
    replace h := bcF h hc6
    refine go ?_
    cases h
    exact And.intro trivial ⟨_, Res.one (resOne.t rfl), rfl, hS3.pick [] rfl rfl⟩
  replace h := bcF h hc5
  refine go ?_
  cases h
  exact And.intro trivial ⟨_, Res.one (resOne.t rfl), rfl, hS3.pick [] rfl rfl⟩

theorem W_i_isTime {w0 : World} {N : Nat} {x0 : Int} {r : Bool} (h : F_i_isTime N x0 = some r) :
    Ret Tryz.prog 112 #[.int .i64 x0] w0 (fun v w => v = .bool r ∧ St w0 [] w []) := by
  unfold F_i_isTime at h
  refine Ret.fn Tryz.func112 fun e => ?_
  have hS1 := St.start w0
  refine go ?_
  replace ⟨y1, hy1, h⟩ := obind h
  refine LW.c0 (W_i_within hy1) hS1 fun w2 hS2 => ?_
  refine go ?_
  cases h
  exact And.intro trivial ⟨_, Res.one (resOne.t rfl), rfl, hS2.pick [] rfl rfl⟩

theorem W_i_isHandle {w0 : World} {N : Nat} {x0 : Int} {r : Bool} (h : F_i_isHandle N x0 = some r) :
    Ret Tryz.prog 124 #[.int .i64 x0] w0 (fun v w => v = .bool r ∧ St w0 [] w []) := by
  unfold F_i_isHandle at h
  refine Ret.fn Tryz.func124 fun e => ?_
  have hS1 := St.start w0
  refine go ?_
  replace ⟨y1, hy1, h⟩ := obind h
  refine LW.c0 (W_i_within hy1) hS1 fun w2 hS2 => ?_
  refine go ?_
  cases h
  exact And.intro trivial ⟨_, Res.one (resOne.t rfl), rfl, hS2.pick [] rfl rfl⟩

theorem W_i_listsOk {w0 : World} {N : Nat} {x0 : DObj} {r : Bool} (h : F_i_listsOk N x0 = some r) {a0_10 : Option Addr} {n0_10 c0_10 : Nat} (hn0_10 : n0_10 = x0.links.length) (hr0_10 : rdS (Bor w0 []) w0 a0_10 c0_10 x0.links) {a0_11 : Option Addr} {n0_11 c0_11 : Nat} (hn0_11 : n0_11 = x0.data.length) (hr0_11 : rdS (Bor w0 []) w0 a0_11 c0_11 x0.data) {a0_12 : Option Addr} {n0_12 c0_12 : Nat} (hn0_12 : n0_12 = x0.queue.length) (hr0_12 : rdS (Bor w0 []) w0 a0_12 c0_12 x0.queue) :
    Ret Tryz.prog 185 #[.agg #[.int .i64 x0.gen, .int .i64 x0.kind, .int .i64 x0.box, .int .i64 x0.res, .int .i64 x0.til, .int .i64 x0.pages, .int .i64 x0.wait, .int .i64 x0.got, .int .i64 x0.ran, .bool x0.mark, .slice a0_10 n0_10 c0_10, .slice a0_11 n0_11 c0_11, .slice a0_12 n0_12 c0_12]] w0 (fun v w => v = .bool r ∧ St w0 [] w []) := by
  subst hn0_10 hn0_11 hn0_12
  unfold F_i_listsOk at h
  refine Ret.fn Tryz.func185 fun e => ?_
  have hS1 := St.start w0
  refine go ?_
  refine LW.bo hS1 fun g1 w2 hS2 => ?_
  refine go ?_
  obtain ⟨o18, ho18, h19⟩ := obind h
  refine CW.mono (CW.iter (σ := Int) (ρ := Int ⊕ Bool) (fun s3 e wb => En e [(1, .pointer (some ⟨g1, 0, none⟩)), (12, .slice a0_10 x0.links.length c0_10), (13, .int .i64 (x0.links.length : Int)), (14, .int .i64 s3)] ∧ St w0 [] wb [bx g1 85 [.int .i64 x0.gen, .int .i64 x0.kind, .int .i64 x0.box, .int .i64 x0.res, .int .i64 x0.til, .int .i64 x0.pages, .int .i64 x0.wait, .int .i64 x0.got, .int .i64 x0.ran, .bool x0.mark, .slice a0_10 x0.links.length c0_10, .slice a0_11 x0.data.length c0_11, .slice a0_12 x0.queue.length c0_12]]) (fun o x e wb => match o with | .inl s3 => x = .exit 0 ∧ En e [(1, .pointer (some ⟨g1, 0, none⟩))] ∧ St w0 [] wb [bx g1 85 [.int .i64 x0.gen, .int .i64 x0.kind, .int .i64 x0.box, .int .i64 x0.res, .int .i64 x0.til, .int .i64 x0.pages, .int .i64 x0.wait, .int .i64 x0.got, .int .i64 x0.ran, .bool x0.mark, .slice a0_10 x0.links.length c0_10, .slice a0_11 x0.data.length c0_11, .slice a0_12 x0.queue.length c0_12]] | .inr r => x = .ret ∧ ∃ u, u = r ∧ ∃ v, Res Tryz.prog Tryz.f185.results e wb v ∧ v = .bool u ∧ St w0 [] wb []) ?_ N 0 _ _ _ ⟨⟨rfl, rfl, rfl, rfl, trivial⟩, hS2.pick [0] rfl rfl⟩ ho18) ?_
  · intro s3 e w4 o hM h
    obtain ⟨hE, hS3⟩ := hM
    obtain ⟨e, rfl⟩ := hE.out
    refine go ?_
    refine CW.cond rfl (fun hc5 => ?_) (fun hc5 => ?_)
    · replace h := bcT h hc5
      refine go ?_
      replace ⟨y6, hy6, h⟩ := obind h
      obtain ⟨b9, o10, cs11, hae, hb14, hp7, hq8, hd12, hk13⟩ := hr0_10.idx hy6
      subst hae
      obtain rfl := hd12
      refine LW.u (Pur.ix Tryz.underlying22 sz3 rfl rfl hp7 hq8) rfl ?_
      refine LW.l (Ldr.old w0 ag3 rfl (hk13 0 _ rfl)) (hS3.same _ hb14.1 hb14.2) rfl ?_
      refine go ?_
      replace ⟨y15, hy15, h⟩ := obind h
      refine LW.c0 (W_i_within hy15) hS3 fun w16 hS4 => ?_
      refine go ?_
      refine CW.fl [1, 12, 13, 14, 20] fun e => ?_
      refine CW.cond rfl (fun hc17 => ?_) (fun hc17 => ?_)
      · replace h := bcT h hc17
        refine go ?_
        cases oi h
        exact ⟨trivial, rfl, _, rfl, ⟨_, Res.one (resOne.t rfl), rfl, hS4.pick [] rfl rfl⟩⟩
      replace h := bcF h hc17
      refine go ?_
      cases oi h
      exact ⟨rfl, ⟨⟨rfl, rfl, rfl, rfl, trivial⟩, hS4.pick [0] rfl rfl⟩⟩
    replace h := bcF h hc5
    refine go ?_
    cases oi h
    exact ⟨trivial, rfl, ⟨⟨rfl, trivial⟩, hS3.pick [0] rfl rfl⟩⟩
  intro x e w20 hM
  rcases o18 with o18 | r81
  · obtain ⟨rfl, hM⟩ := hM
    obtain ⟨hE, hS5⟩ := hM
    obtain ⟨e, rfl⟩ := hE.out
    have h := h19
    refine go ?_
    obtain ⟨o36, ho36, h37⟩ := obind h
    refine CW.mono (CW.iter (σ := Int) (ρ := Int ⊕ Bool) (fun s21 e wb => En e [(1, .pointer (some ⟨g1, 0, none⟩)), (23, .slice a0_11 x0.data.length c0_11), (24, .int .i64 (x0.data.length : Int)), (25, .int .i64 s21)] ∧ St w0 [] wb [bx g1 85 [.int .i64 x0.gen, .int .i64 x0.kind, .int .i64 x0.box, .int .i64 x0.res, .int .i64 x0.til, .int .i64 x0.pages, .int .i64 x0.wait, .int .i64 x0.got, .int .i64 x0.ran, .bool x0.mark, .slice a0_10 x0.links.length c0_10, .slice a0_11 x0.data.length c0_11, .slice a0_12 x0.queue.length c0_12]]) (fun o x e wb => match o with | .inl s21 => x = .exit 2 ∧ En e [(1, .pointer (some ⟨g1, 0, none⟩))] ∧ St w0 [] wb [bx g1 85 [.int .i64 x0.gen, .int .i64 x0.kind, .int .i64 x0.box, .int .i64 x0.res, .int .i64 x0.til, .int .i64 x0.pages, .int .i64 x0.wait, .int .i64 x0.got, .int .i64 x0.ran, .bool x0.mark, .slice a0_10 x0.links.length c0_10, .slice a0_11 x0.data.length c0_11, .slice a0_12 x0.queue.length c0_12]] | .inr r => x = .ret ∧ ∃ u, u = r ∧ ∃ v, Res Tryz.prog Tryz.f185.results e wb v ∧ v = .bool u ∧ St w0 [] wb []) ?_ N 0 _ _ _ ⟨⟨rfl, rfl, rfl, rfl, trivial⟩, hS5.pick [0] rfl rfl⟩ ho36) ?_
    · intro s21 e w22 o hM h
      obtain ⟨hE, hS6⟩ := hM
      obtain ⟨e, rfl⟩ := hE.out
      refine go ?_
      refine CW.cond rfl (fun hc23 => ?_) (fun hc23 => ?_)
      · replace h := bcT h hc23
        refine go ?_
        replace ⟨y24, hy24, h⟩ := obind h
        obtain ⟨b27, o28, cs29, hae, hb32, hp25, hq26, hd30, hk31⟩ := hr0_11.idx hy24
        subst hae
        obtain rfl := hd30
        refine LW.u (Pur.ix Tryz.underlying22 sz3 rfl rfl hp25 hq26) rfl ?_
        refine LW.l (Ldr.old w0 ag3 rfl (hk31 0 _ rfl)) (hS6.same _ hb32.1 hb32.2) rfl ?_
        refine go ?_
        replace ⟨y33, hy33, h⟩ := obind h
        refine LW.c0 (W_i_within hy33) hS6 fun w34 hS7 => ?_
        refine go ?_
        refine CW.fl [1, 23, 24, 25, 31] fun e => ?_
        refine CW.cond rfl (fun hc35 => ?_) (fun hc35 => ?_)
        · replace h := bcT h hc35
          refine go ?_
          cases oi h
          exact ⟨trivial, rfl, _, rfl, ⟨_, Res.one (resOne.t rfl), rfl, hS7.pick [] rfl rfl⟩⟩
        replace h := bcF h hc35
        refine go ?_
        cases oi h
        exact ⟨rfl, ⟨⟨rfl, rfl, rfl, rfl, trivial⟩, hS7.pick [0] rfl rfl⟩⟩
      replace h := bcF h hc23
      refine go ?_
      cases oi h
      exact ⟨trivial, rfl, ⟨⟨rfl, trivial⟩, hS6.pick [0] rfl rfl⟩⟩
    intro x e w38 hM
    rcases o36 with o36 | r80
    · obtain ⟨rfl, hM⟩ := hM
      obtain ⟨hE, hS8⟩ := hM
      obtain ⟨e, rfl⟩ := hE.out
      have h := h37
      refine go ?_
      obtain ⟨o66, ho66, h67⟩ := obind h
      refine CW.mono (CW.iter (σ := Int) (ρ := Int ⊕ Bool) (fun s39 e wb => En e [(1, .pointer (some ⟨g1, 0, none⟩)), (34, .slice a0_12 x0.queue.length c0_12), (35, .int .i64 (x0.queue.length : Int)), (36, .int .i64 s39)] ∧ St w0 [] wb [bx g1 85 [.int .i64 x0.gen, .int .i64 x0.kind, .int .i64 x0.box, .int .i64 x0.res, .int .i64 x0.til, .int .i64 x0.pages, .int .i64 x0.wait, .int .i64 x0.got, .int .i64 x0.ran, .bool x0.mark, .slice a0_10 x0.links.length c0_10, .slice a0_11 x0.data.length c0_11, .slice a0_12 x0.queue.length c0_12]]) (fun o x e wb => match o with | .inl s39 => x = .exit 4 ∧ En e [(1, .pointer (some ⟨g1, 0, none⟩))] ∧ St w0 [] wb [bx g1 85 [.int .i64 x0.gen, .int .i64 x0.kind, .int .i64 x0.box, .int .i64 x0.res, .int .i64 x0.til, .int .i64 x0.pages, .int .i64 x0.wait, .int .i64 x0.got, .int .i64 x0.ran, .bool x0.mark, .slice a0_10 x0.links.length c0_10, .slice a0_11 x0.data.length c0_11, .slice a0_12 x0.queue.length c0_12]] | .inr r => x = .ret ∧ ∃ u, u = r ∧ ∃ v, Res Tryz.prog Tryz.f185.results e wb v ∧ v = .bool u ∧ St w0 [] wb []) ?_ N 0 _ _ _ ⟨⟨rfl, rfl, rfl, rfl, trivial⟩, hS8.pick [0] rfl rfl⟩ ho66) ?_
      · intro s39 e w40 o hM h
        obtain ⟨hE, hS9⟩ := hM
        obtain ⟨e, rfl⟩ := hE.out
        refine go ?_
        refine CW.fl [1, 34, 35, 36, 37] fun e => ?_
        refine CW.cond rfl (fun hc41 => ?_) (fun hc41 => ?_)
        · replace h := bcT h hc41
          refine go ?_
          replace ⟨y42, hy42, h⟩ := obind h
          obtain ⟨b45, o46, cs47, hae, hb50, hp43, hq44, hd48, hk49⟩ := hr0_12.idx hy42
          subst hae
          obtain rfl := hd48
          refine LW.u (Pur.ix Tryz.underlying83 sz187 rfl rfl hp43 hq44) rfl ?_
          refine LW.l (Ldr.oldN w0 ag187 rfl rfl (fun j u hu => hk49 j u hu)) (hS9.same _ hb50.1 hb50.2) rfl ?_
          refine LW.al hS9 fun g51 w52 hS10 => ?_
          refine LW.st hS10 0 fun w53 hS11 => ?_
          refine gs ?_
          obtain ⟨j54, hj54, h55⟩ := obind h
          refine CW.cut (fun e wb => En e [(1, .pointer (some ⟨g1, 0, none⟩)), (34, .slice (some ⟨b45, o46, none⟩) x0.queue.length c0_12), (35, .int .i64 (x0.queue.length : Int)), (36, .int .i64 s39), (54, .bool j54)] ∧ St w0 [] wb [bx g1 85 [.int .i64 x0.gen, .int .i64 x0.kind, .int .i64 x0.box, .int .i64 x0.res, .int .i64 x0.til, .int .i64 x0.pages, .int .i64 x0.wait, .int .i64 x0.got, .int .i64 x0.ran, .bool x0.mark, .slice a0_10 x0.links.length c0_10, .slice a0_11 x0.data.length c0_11, .slice (some ⟨b45, o46, none⟩) x0.queue.length c0_12]]) ?_ ?_
          · have h := hj54
            refine go ?_
            rcases bcases (y42.src != (-1)) with hc56 | hc56
            · replace h := bcT h hc56
              refine go ?_
              replace ⟨y57, hy57, h⟩ := obind h
              refine go ?_
              refine LW.c0 (W_i_isHandle hy57) hS11 fun w58 hS12 => ?_
              refine go ?_
              rcases bcases (!y57) with hc59 | hc59
              · replace h := bcT h hc59
                refine go ?_
                cases oi h
                exact ⟨⟨rfl, rfl, rfl, rfl, rfl, trivial⟩, hS12.pick [1] rfl rfl⟩
              replace h := bcF h hc59
              refine go ?_
              replace ⟨y60, hy60, h⟩ := obind h
              refine go ?_
              refine LW.c0 (W_i_within hy60) hS12 fun w61 hS13 => ?_
              refine go ?_
              cases oi h
              exact ⟨⟨rfl, rfl, rfl, rfl, rfl, trivial⟩, hS13.pick [1] rfl rfl⟩
            replace h := bcF h hc56
            refine go ?_
            replace ⟨y62, hy62, h⟩ := obind h
            refine go ?_
            refine LW.c0 (W_i_within hy62) hS11 fun w63 hS14 => ?_
            refine go ?_
            cases oi h
            exact ⟨⟨rfl, rfl, rfl, rfl, rfl, trivial⟩, hS14.pick [1] rfl rfl⟩
          rintro e w64 ⟨hE, hS15⟩
          obtain ⟨e, rfl⟩ := hE.out
          have h := h55
          refine go ?_
          refine CW.cond rfl (fun hc65 => ?_) (fun hc65 => ?_)
          · replace h := bcT h hc65
            refine go ?_
            cases oi h
            exact ⟨trivial, rfl, _, rfl, ⟨_, Res.one (resOne.t rfl), rfl, hS15.pick [] rfl rfl⟩⟩
          replace h := bcF h hc65
          refine go ?_
          cases oi h
          exact ⟨rfl, ⟨⟨rfl, rfl, rfl, rfl, trivial⟩, hS15.pick [0] rfl rfl⟩⟩
        replace h := bcF h hc41
        refine go ?_
        cases oi h
        exact ⟨trivial, rfl, ⟨⟨rfl, trivial⟩, hS9.pick [0] rfl rfl⟩⟩
      intro x e w68 hM
      rcases o66 with o66 | r79
      · obtain ⟨rfl, hM⟩ := hM
        obtain ⟨hE, hS16⟩ := hM
        obtain ⟨e, rfl⟩ := hE.out
        have h := h67
        refine gs ?_
        refine CW.region ?_
        refine gs ?_
        refine CW.region ?_
        refine gs ?_
        obtain ⟨j69, hj69, h70⟩ := obind h
        refine CW.cut (fun e wb => En e [(1, .pointer (some ⟨g1, 0, none⟩)), (9, .int .i64 j69), (10, .int .i64 0)] ∧ St w0 [] wb [bx g1 85 [.int .i64 x0.gen, .int .i64 x0.kind, .int .i64 x0.box, .int .i64 x0.res, .int .i64 x0.til, .int .i64 x0.pages, .int .i64 x0.wait, .int .i64 x0.got, .int .i64 x0.ran, .bool x0.mark, .slice a0_10 x0.links.length c0_10, .slice a0_11 x0.data.length c0_11, .slice a0_12 x0.queue.length c0_12]]) ?_ ?_
        · have h := hj69
          refine CW.fl [1, 9, 10, 58] fun e => ?_
          refine CW.cond rfl (fun hc71 => ?_) (fun hc71 => ?_)
          · replace h := bcT h hc71
            refine go ?_
            cases oi h
            exact ⟨⟨rfl, rfl, rfl, trivial⟩, hS16.pick [0] rfl rfl⟩
          replace h := bcF h hc71
          refine go ?_
          cases oi h
          exact ⟨⟨rfl, rfl, rfl, trivial⟩, hS16.pick [0] rfl rfl⟩
        rintro e w72 ⟨hE, hS17⟩
        obtain ⟨e, rfl⟩ := hE.out
        have h := h70
        refine gs ?_
        refine CW.region ?_
        refine gs ?_
        obtain ⟨j73, hj73, h74⟩ := obind h
        refine CW.cut (fun e wb => En e [(1, .pointer (some ⟨g1, 0, none⟩)), (9, .int .i64 j69), (10, .int .i64 j73)] ∧ St w0 [] wb [bx g1 85 [.int .i64 x0.gen, .int .i64 x0.kind, .int .i64 x0.box, .int .i64 x0.res, .int .i64 x0.til, .int .i64 x0.pages, .int .i64 x0.wait, .int .i64 x0.got, .int .i64 x0.ran, .bool x0.mark, .slice a0_10 x0.links.length c0_10, .slice a0_11 x0.data.length c0_11, .slice a0_12 x0.queue.length c0_12]]) ?_ ?_
        · have h := hj73
          refine CW.fl [1, 9, 10, 63] fun e => ?_
          refine CW.cond rfl (fun hc75 => ?_) (fun hc75 => ?_)
          · replace h := bcT h hc75
            refine go ?_
            cases oi h
            exact ⟨⟨rfl, rfl, rfl, trivial⟩, hS17.pick [0] rfl rfl⟩
          replace h := bcF h hc75
          refine go ?_
          cases oi h
          exact ⟨⟨rfl, rfl, rfl, trivial⟩, hS17.pick [0] rfl rfl⟩
        rintro e w76 ⟨hE, hS18⟩
        obtain ⟨e, rfl⟩ := hE.out
        have h := h74
        refine go ?_
        refine LW.fl [1, 9, 10, 68] fun e => ?_
        rcases bcases ((x0.links.length : Int) == 2) with hc77 | hc77
        · replace h := bcT h hc77
          refine go ?_
          rcases bcases ((x0.data.length : Int) == j69) with hc78 | hc78
          · replace h := bcT h hc78
            refine go ?_
            cases h
            exact And.intro trivial ⟨_, Res.one (resOne.t rfl), rfl, hS18.pick [] rfl rfl⟩
          replace h := bcF h hc78
          refine go ?_
          cases h
          exact And.intro trivial ⟨_, Res.one (resOne.t rfl), rfl, hS18.pick [] rfl rfl⟩
        replace h := bcF h hc77
        refine go ?_
        cases h
        exact And.intro trivial ⟨_, Res.one (resOne.t rfl), rfl, hS18.pick [] rfl rfl⟩
      obtain ⟨rfl, u, rfl, hM⟩ := hM
      cases h67
      exact And.intro trivial hM
    obtain ⟨rfl, u, rfl, hM⟩ := hM
    cases h37
    exact And.intro trivial hM
  obtain ⟨rfl, u, rfl, hM⟩ := hM
  cases h19
  exact And.intro trivial hM

theorem W_i_ObjOk {w0 : World} {N : Nat} {x0 : DObj} {r : Bool} (h : F_i_ObjOk N x0 = some r) {a0_10 : Option Addr} {n0_10 c0_10 : Nat} (hn0_10 : n0_10 = x0.links.length) (hr0_10 : rdS (Bor w0 []) w0 a0_10 c0_10 x0.links) {a0_11 : Option Addr} {n0_11 c0_11 : Nat} (hn0_11 : n0_11 = x0.data.length) (hr0_11 : rdS (Bor w0 []) w0 a0_11 c0_11 x0.data) {a0_12 : Option Addr} {n0_12 c0_12 : Nat} (hn0_12 : n0_12 = x0.queue.length) (hr0_12 : rdS (Bor w0 []) w0 a0_12 c0_12 x0.queue) :
    Ret Tryz.prog 178 #[.agg #[.int .i64 x0.gen, .int .i64 x0.kind, .int .i64 x0.box, .int .i64 x0.res, .int .i64 x0.til, .int .i64 x0.pages, .int .i64 x0.wait, .int .i64 x0.got, .int .i64 x0.ran, .bool x0.mark, .slice a0_10 n0_10 c0_10, .slice a0_11 n0_11 c0_11, .slice a0_12 n0_12 c0_12]] w0 (fun v w => v = .bool r ∧ St w0 [] w []) := by
  subst hn0_10 hn0_11 hn0_12
  unfold F_i_ObjOk at h
  refine Ret.fn Tryz.func178 fun e => ?_
  have hS1 := St.start w0
  refine go ?_
  refine LW.bo hS1 fun g1 w2 hS2 => ?_
  refine gs ?_
  obtain ⟨j3, hj3, h4⟩ := obind h
  refine CW.cut (fun e wb => En e [(1, .pointer (some ⟨g1, 0, none⟩)), (12, .bool j3)] ∧ St w0 [] wb [bx g1 85 [.int .i64 x0.gen, .int .i64 x0.kind, .int .i64 x0.box, .int .i64 x0.res, .int .i64 x0.til, .int .i64 x0.pages, .int .i64 x0.wait, .int .i64 x0.got, .int .i64 x0.ran, .bool x0.mark, .slice a0_10 x0.links.length c0_10, .slice a0_11 x0.data.length c0_11, .slice a0_12 x0.queue.length c0_12]]) ?_ ?_
  · have h := hj3
    refine go ?_
    replace ⟨y5, hy5, h⟩ := obind h
    refine LW.c0 (W_i_within hy5) hS2 fun w6 hS3 => ?_
    refine go ?_
    rcases bcases (!y5) with hc7 | hc7
    · replace h := bcT h hc7
      refine go ?_
      cases oi h
      exact ⟨⟨rfl, rfl, trivial⟩, hS3.pick [0] rfl rfl⟩
    replace h := bcF h hc7
    refine go ?_
    replace ⟨y8, hy8, h⟩ := obind h
    refine go ?_
    refine LW.c0 (W_i_within hy8) hS3 fun w9 hS4 => ?_
    refine go ?_
    cases oi h
    exact ⟨⟨rfl, rfl, trivial⟩, hS4.pick [0] rfl rfl⟩
  rintro e w10 ⟨hE, hS5⟩
  obtain ⟨e, rfl⟩ := hE.out
  have h := h4
  refine go ?_
  refine CW.cond rfl (fun hc11 => ?_) (fun hc11 => ?_)
  · replace h := bcT h hc11
    refine go ?_
    cases h
    exact And.intro trivial ⟨_, Res.one (resOne.t rfl), rfl, hS5.pick [] rfl rfl⟩
  replace h := bcF h hc11
  refine go ?_
  refine CW.cond rfl (fun hc12 => ?_) (fun hc12 => ?_)
  · replace h := bcT h hc12
    refine go ?_
    refine LW.u (Pur.build (vs := [(0, .int .i64 x0.gen)]) (cs := #[.int .i64 x0.gen, .int .i64 0, .int .i64 0, .int .i64 0, .int .i64 0, .int .i64 0, .int .i64 0, .int .i64 0, .int .i64 0, .bool false, .slice none 0 0, .slice none 0 0, .slice none 0 0]) rfl (by kernel_rfl)) rfl ?_
    replace ⟨y13, hy13, h⟩ := obind h
    refine LW.c0 (W_i_sameObj hy13 rfl (hS5.rB hr0_10) rfl (hS5.rB hr0_11) rfl (hS5.rB hr0_12) rfl (show rdS (α := Int) (Bor w10 []) w10 none 0 [] from rdS.nil _ _ _ _ (Nat.zero_le _)) rfl (show rdS (α := Int) (Bor w10 []) w10 none 0 [] from rdS.nil _ _ _ _ (Nat.zero_le _)) rfl (show rdS (α := DMsg) (Bor w10 []) w10 none 0 [] from rdS.nil _ _ _ _ (Nat.zero_le _))) hS5 fun w14 hS6 => ?_
    refine go ?_
    cases h
    exact And.intro trivial ⟨_, Res.one (resOne.t rfl), rfl, hS6.pick [] rfl rfl⟩
  replace h := bcF h hc12
  refine gs ?_
  obtain ⟨j15, hj15, h16⟩ := obind h
  refine CW.cut (fun e wb => En e [(1, .pointer (some ⟨g1, 0, none⟩)), (47, .bool j15)] ∧ St w0 [] wb [bx g1 85 [.int .i64 x0.gen, .int .i64 x0.kind, .int .i64 x0.box, .int .i64 x0.res, .int .i64 x0.til, .int .i64 x0.pages, .int .i64 x0.wait, .int .i64 x0.got, .int .i64 x0.ran, .bool x0.mark, .slice a0_10 x0.links.length c0_10, .slice a0_11 x0.data.length c0_11, .slice a0_12 x0.queue.length c0_12]]) ?_ ?_
  · have h := hj15
    refine go ?_
    replace ⟨y17, hy17, h⟩ := obind h
    refine LW.c0 (W_i_within hy17) hS5 fun w18 hS7 => ?_
    refine go ?_
    rcases bcases (!y17) with hc19 | hc19
    · replace h := bcT h hc19
      refine go ?_
      cases oi h
      exact ⟨⟨rfl, rfl, trivial⟩, hS7.pick [0] rfl rfl⟩
    replace h := bcF h hc19
    refine go ?_
    replace ⟨y20, hy20, h⟩ := obind h
    refine go ?_
    refine LW.c0 (W_i_isPlace hy20) hS7 fun w21 hS8 => ?_
    refine go ?_
    rcases bcases (!y20) with hc22 | hc22
    · replace h := bcT h hc22
      refine go ?_
      cases oi h
      exact ⟨⟨rfl, rfl, trivial⟩, hS8.pick [0] rfl rfl⟩
    replace h := bcF h hc22
    refine go ?_
    replace ⟨y23, hy23, h⟩ := obind h
    refine go ?_
    refine LW.c0 (W_i_isTime hy23) hS8 fun w24 hS9 => ?_
    refine go ?_
    rcases bcases (!y23) with hc25 | hc25
    · replace h := bcT h hc25
      refine go ?_
      cases oi h
      exact ⟨⟨rfl, rfl, trivial⟩, hS9.pick [0] rfl rfl⟩
    replace h := bcF h hc25
    refine go ?_
    refine LW.fl [1, 37, 39] fun e => ?_
    replace ⟨y26, hy26, h⟩ := obind h
    refine go ?_
    refine LW.c0 (W_i_within hy26) hS9 fun w27 hS10 => ?_
    refine go ?_
    rcases bcases (!y26) with hc28 | hc28
    · replace h := bcT h hc28
      refine go ?_
      cases oi h
      exact ⟨⟨rfl, rfl, trivial⟩, hS10.pick [0] rfl rfl⟩
    replace h := bcF h hc28
    refine go ?_
    replace ⟨y29, hy29, h⟩ := obind h
    refine go ?_
    refine LW.c0 (W_i_listsOk hy29 rfl (hS10.rB hr0_10) rfl (hS10.rB hr0_11) rfl (hS10.rB hr0_12)) hS10 fun w30 hS11 => ?_
    refine go ?_
    cases oi h
    exact ⟨⟨rfl, rfl, trivial⟩, hS11.pick [0] rfl rfl⟩
  rintro e w31 ⟨hE, hS12⟩
  obtain ⟨e, rfl⟩ := hE.out
  have h := h16
  refine go ?_
  refine CW.cond rfl (fun hc32 => ?_) (fun hc32 => ?_)
  · replace h := bcT h hc32
    refine go ?_
    cases h
    exact And.intro trivial ⟨_, Res.one (resOne.t rfl), rfl, hS12.pick [] rfl rfl⟩
  replace h := bcF h hc32
  refine go ?_
  refine CW.cond rfl (fun hc33 => ?_) (fun hc33 => ?_)
  · replace h := bcT h hc33
    refine gs ?_
    obtain ⟨j34, hj34, h35⟩ := obind h
    refine CW.cut (fun e wb => En e [(2, .bool j34)] ∧ St w0 [] wb []) ?_ ?_
    · have h := hj34
      refine go ?_
      rcases bcases (x0.wait == 0) with hc36 | hc36
      · replace h := bcT h hc36
        refine go ?_
        rcases bcases (x0.got == 0) with hc37 | hc37
        · replace h := bcT h hc37
          refine go ?_
          cases oi h
          exact ⟨⟨rfl, trivial⟩, hS12.pick [] rfl rfl⟩
        replace h := bcF h hc37
        refine go ?_
        cases oi h
        exact ⟨⟨rfl, trivial⟩, hS12.pick [] rfl rfl⟩
      replace h := bcF h hc36
      refine go ?_
      cases oi h
      exact ⟨⟨rfl, trivial⟩, hS12.pick [] rfl rfl⟩
    rintro e w38 ⟨hE, hS13⟩
    obtain ⟨e, rfl⟩ := hE.out
    have h := h35
    refine go ?_
    cases h
    exact And.intro trivial ⟨_, Res.one (resOne.t rfl), rfl, hS13.pick [] rfl rfl⟩
  replace h := bcF h hc33
  refine go ?_
  rcases bcases (x0.wait == 0) with hc39 | hc39
  · replace h := bcT h hc39
    refine go ?_
    replace ⟨y40, hy40, h⟩ := obind h
    refine go ?_
    refine LW.c0 (W_i_within hy40) hS12 fun w41 hS14 => ?_
    refine go ?_
    rcases bcases y40 with hc42 | hc42
    · replace h := bcT h hc42
      refine go ?_
      refine LW.fl [78, 80] fun e => ?_
      replace ⟨y43, hy43, h⟩ := obind h
      refine go ?_
      refine LW.c0 (W_i_isTime hy43) hS14 fun w44 hS15 => ?_
      refine go ?_
      cases h
      exact And.intro trivial ⟨_, Res.one (resOne.t rfl), rfl, hS15.pick [] rfl rfl⟩
    replace h := bcF h hc42
    refine go ?_
    cases h
    exact And.intro trivial ⟨_, Res.one (resOne.t rfl), rfl, hS14.pick [] rfl rfl⟩
  replace h := bcF h hc39
  refine go ?_
  replace ⟨y45, hy45, h⟩ := obind h
  refine go ?_
  refine LW.c0 (W_i_isHandle hy45) hS12 fun w46 hS16 => ?_
  refine go ?_
  rcases bcases y45 with hc47 | hc47
  · replace h := bcT h hc47
    refine go ?_
    replace ⟨y48, hy48, h⟩ := obind h
    refine go ?_
    refine LW.c0 (W_i_within hy48) hS16 fun w49 hS17 => ?_
    refine go ?_
    refine LW.fl [1, 78] fun e => ?_
    rcases bcases y48 with hc50 | hc50
    · replace h := bcT h hc50
      refine go ?_
      replace ⟨y51, hy51, h⟩ := obind h
      refine go ?_
      refine LW.c0 (W_i_isTime hy51) hS17 fun w52 hS18 => ?_
      refine go ?_
      cases h
      exact And.intro trivial ⟨_, Res.one (resOne.t rfl), rfl, hS18.pick [] rfl rfl⟩
    replace h := bcF h hc50
    refine go ?_
    cases h
    exact And.intro trivial ⟨_, Res.one (resOne.t rfl), rfl, hS17.pick [] rfl rfl⟩
  replace h := bcF h hc47
  refine go ?_
  cases h
  exact And.intro trivial ⟨_, Res.one (resOne.t rfl), rfl, hS16.pick [] rfl rfl⟩

theorem W_i_ArenaOk {w0 : World} {N : Nat} {x0 : List DObj} {r : Bool} (h : F_i_ArenaOk N x0 = some r) {a0_0 : Option Addr} {n0_0 c0_0 : Nat} (hn0_0 : n0_0 = x0.length) (hr0_0 : rdS (Bor w0 []) w0 a0_0 c0_0 x0) :
    Ret Tryz.prog 152 #[.slice a0_0 n0_0 c0_0] w0 (fun v w => v = .bool r ∧ St w0 [] w []) := by
  subst hn0_0
  unfold F_i_ArenaOk at h
  refine Ret.fn Tryz.func152 fun e => ?_
  have hS1 := St.start w0
  refine gs ?_
  refine CW.region ?_
  refine gs ?_
  obtain ⟨j1, hj1, h2⟩ := obind h
  refine CW.cut (fun e wb => En e [(0, .slice a0_0 x0.length c0_0), (30, .bool j1)] ∧ St w0 [] wb []) ?_ ?_
  · have h := hj1
    refine go ?_
    rcases bcases ((x0.length : Int) != 10) with hc3 | hc3
    · replace h := bcT h hc3
      refine go ?_
      cases oi h
      exact ⟨⟨rfl, rfl, trivial⟩, hS1.pick [] rfl rfl⟩
    replace h := bcF h hc3
    refine go ?_
    replace ⟨y4, hy4, h⟩ := obind h
    obtain ⟨b7, o8, cs9, hae, hb12, hp5, hq6, hd10, hk11⟩ := hr0_0.idx hy4
    subst hae
    obtain ⟨a13, c14, a16, c17, a19, c20, rfl, hr15, hr18, hr21⟩ := hd10
    refine go ?_
    refine LW.u (Pur.ix Tryz.underlying40 sz85 rfl rfl hp5 hq6) rfl ?_
    refine go ?_
    refine LW.l (Ldr.old w0 ag3 rfl (hk11 1 _ rfl)) (hS1.same _ hb12.1 hb12.2) rfl ?_
    refine go ?_
    rcases bcases (y4.kind != 1) with hc22 | hc22
    · replace h := bcT h hc22
      refine go ?_
      cases oi h
      exact ⟨⟨rfl, rfl, trivial⟩, hS1.pick [] rfl rfl⟩
    replace h := bcF h hc22
    refine go ?_
    refine LW.u (Pur.ix Tryz.underlying40 sz85 rfl rfl hp5 hq6) rfl ?_
    refine go ?_
    refine LW.l (Ldr.old w0 ag3 rfl (hk11 2 _ rfl)) (hS1.same _ hb12.1 hb12.2) rfl ?_
    refine go ?_
    rcases bcases (y4.box != (-1)) with hc23 | hc23
    · replace h := bcT h hc23
      refine go ?_
      cases oi h
      exact ⟨⟨rfl, rfl, trivial⟩, hS1.pick [] rfl rfl⟩
    replace h := bcF h hc23
    refine go ?_
    refine LW.u (Pur.ix Tryz.underlying40 sz85 rfl rfl hp5 hq6) rfl ?_
    refine go ?_
    refine LW.fl [0, 24, 27] fun e => ?_
    refine go ?_
    refine LW.l (Ldr.old w0 ag3 rfl (hk11 4 _ rfl)) (hS1.same _ hb12.1 hb12.2) rfl ?_
    refine go ?_
    cases oi h
    exact ⟨⟨rfl, rfl, trivial⟩, hS1.pick [] rfl rfl⟩
  rintro e w24 ⟨hE, hS2⟩
  obtain ⟨e, rfl⟩ := hE.out
  have h := h2
  refine go ?_
  refine CW.cond rfl (fun hc25 => ?_) (fun hc25 => ?_)
  · replace h := bcT h hc25
    refine go ?_
    cases h
    exact And.intro trivial ⟨_, Res.one (resOne.t rfl), rfl, hS2.pick [] rfl rfl⟩
  replace h := bcF h hc25
  refine go ?_
  obtain ⟨o117, ho117, h118⟩ := obind h
  refine CW.mono (CW.iter (σ := Int) (ρ := Int ⊕ Bool) (fun s26 e wb => En e [(0, .slice a0_0 x0.length c0_0), (31, .slice a0_0 x0.length c0_0), (32, .int .i64 (x0.length : Int)), (33, .int .i64 s26)] ∧ St w0 [] wb []) (fun o x e wb => match o with | .inl s26 => x = .exit 0 ∧ En e [] ∧ St w0 [] wb [] | .inr r => x = .ret ∧ ∃ u, u = r ∧ ∃ v, Res Tryz.prog Tryz.f152.results e wb v ∧ v = .bool u ∧ St w0 [] wb []) ?_ N 0 _ _ _ ⟨⟨rfl, rfl, rfl, rfl, trivial⟩, hS2.pick [] rfl rfl⟩ ho117) ?_
  · intro s26 e w27 o hM h
    obtain ⟨hE, hS3⟩ := hM
    obtain ⟨e, rfl⟩ := hE.out
    refine go ?_
    refine CW.cond rfl (fun hc28 => ?_) (fun hc28 => ?_)
    · replace h := bcT h hc28
      refine go ?_
      replace ⟨y29, hy29, h⟩ := obind h
      obtain ⟨b32, o33, cs34, hae, hb37, hp30, hq31, hd35, hk36⟩ := hr0_0.idx hy29
      subst hae
      obtain ⟨a38, c39, a41, c42, a44, c45, rfl, hr40, hr43, hr46⟩ := hd35
      refine LW.u (Pur.ix Tryz.underlying40 sz85 rfl rfl hp30 hq31) rfl ?_
      refine LW.l (Ldr.oldN w0 ag85 rfl rfl (fun j u hu => hk36 j u hu)) (hS3.same _ hb37.1 hb37.2) rfl ?_
      refine LW.al hS3 fun g47 w48 hS4 => ?_
      refine go ?_
      refine LW.st hS4 0 fun w49 hS5 => ?_
      refine gs ?_
      obtain ⟨j50, hj50, h51⟩ := obind h
      refine CW.cut (fun e wb => En e [(0, .slice (some ⟨b32, o33, none⟩) x0.length c0_0), (4, .pointer (some ⟨g47, 0, none⟩)), (31, .slice (some ⟨b32, o33, none⟩) x0.length c0_0), (32, .int .i64 (x0.length : Int)), (33, .int .i64 s26), (63, .bool j50)] ∧ St w0 [] wb [bx g47 85 [.int .i64 y29.gen, .int .i64 y29.kind, .int .i64 y29.box, .int .i64 y29.res, .int .i64 y29.til, .int .i64 y29.pages, .int .i64 y29.wait, .int .i64 y29.got, .int .i64 y29.ran, .bool y29.mark, .slice a38 y29.links.length c39, .slice a41 y29.data.length c42, .slice a44 y29.queue.length c45]]) ?_ ?_
      · have h := hj50
        refine go ?_
        replace ⟨y52, hy52, h⟩ := obind h
        refine LW.c0 (W_i_ObjOk hy52 rfl (hS5.rB hr40) rfl (hS5.rB hr43) rfl (hS5.rB hr46)) hS5 fun w53 hS6 => ?_
        refine go ?_
        rcases bcases (!y52) with hc54 | hc54
        · replace h := bcT h hc54
          refine go ?_
          cases oi h
          exact ⟨⟨rfl, rfl, rfl, rfl, rfl, rfl, trivial⟩, hS6.pick [0] rfl rfl⟩
        replace h := bcF h hc54
        refine go ?_
        rcases bcases (decide (s26 > 0)) with hc55 | hc55
        · replace h := bcT h hc55
          refine go ?_
          refine LW.fl [0, 4, 31, 32, 33, 41, 49] fun e => ?_
          rcases bcases (y29.kind != 0) with hc56 | hc56
          · replace h := bcT h hc56
            refine go ?_
            rcases bcases (decide (y29.box ≥ 0)) with hc57 | hc57
            · replace h := bcT h hc57
              refine go ?_
              replace ⟨y58, hy58, h⟩ := obind h
              obtain ⟨b61, o62, cs63, hae, hb66, hp59, hq60, hd64, hk65⟩ := hr0_0.idx hy58
              cases hae
              obtain ⟨a67, c68, a70, c71, a73, c74, rfl, hr69, hr72, hr75⟩ := hd64
              refine go ?_
              refine LW.u (Pur.ix Tryz.underlying40 sz85 rfl rfl hp59 hq60) rfl ?_
              refine go ?_
              refine LW.l (Ldr.old w0 ag3 rfl (hk65 1 _ rfl)) (hS6.same _ hb66.1 hb66.2) rfl ?_
              refine go ?_
              cases oi h
              exact ⟨⟨rfl, rfl, rfl, rfl, rfl, rfl, trivial⟩, hS6.pick [0] rfl rfl⟩
            replace h := bcF h hc57
            refine go ?_
            cases oi h
            exact ⟨⟨rfl, rfl, rfl, rfl, rfl, rfl, trivial⟩, hS6.pick [0] rfl rfl⟩
          replace h := bcF h hc56
          refine go ?_
          cases oi h
          exact ⟨⟨rfl, rfl, rfl, rfl, rfl, rfl, trivial⟩, hS6.pick [0] rfl rfl⟩
        replace h := bcF h hc55
        refine go ?_
        cases oi h
        exact ⟨⟨rfl, rfl, rfl, rfl, rfl, rfl, trivial⟩, hS6.pick [0] rfl rfl⟩
      rintro e w76 ⟨hE, hS7⟩
      obtain ⟨e, rfl⟩ := hE.out
      have h := h51
      refine go ?_
      refine CW.cond rfl (fun hc77 => ?_) (fun hc77 => ?_)
      · replace h := bcT h hc77
        refine go ?_
        cases oi h
        exact ⟨trivial, rfl, _, rfl, ⟨_, Res.one (resOne.t rfl), rfl, hS7.pick [] rfl rfl⟩⟩
      replace h := bcF h hc77
      refine go ?_
      obtain ⟨o113, ho113, h114⟩ := obind h
      refine CW.mono (CW.iter (σ := Int) (ρ := Int ⊕ Bool) (fun s78 e wb => En e [(0, .slice (some ⟨b32, o33, none⟩) x0.length c0_0), (31, .slice (some ⟨b32, o33, none⟩) x0.length c0_0), (32, .int .i64 (x0.length : Int)), (33, .int .i64 s26), (65, .slice a38 y29.links.length c39), (66, .int .i64 (y29.links.length : Int)), (67, .int .i64 s78)] ∧ St w0 [] wb []) (fun o x e wb => match o with | .inl s78 => x = .exit 2 ∧ En e [(0, .slice (some ⟨b32, o33, none⟩) x0.length c0_0), (31, .slice (some ⟨b32, o33, none⟩) x0.length c0_0), (32, .int .i64 (x0.length : Int)), (33, .int .i64 s26)] ∧ St w0 [] wb [] | .inr r => x = .ret ∧ ∃ u, u = r ∧ ∃ v, Res Tryz.prog Tryz.f152.results e wb v ∧ v = .bool u ∧ St w0 [] wb []) ?_ N 0 _ _ _ ⟨⟨rfl, rfl, rfl, rfl, rfl, rfl, rfl, trivial⟩, hS7.pick [] rfl rfl⟩ ho113) ?_
      · intro s78 e w79 o hM h
        obtain ⟨hE, hS8⟩ := hM
        obtain ⟨e, rfl⟩ := hE.out
        refine go ?_
        refine CW.fl [0, 31, 32, 33, 65, 66, 67, 68] fun e => ?_
        refine CW.cond rfl (fun hc80 => ?_) (fun hc80 => ?_)
        · replace h := bcT h hc80
          refine go ?_
          replace ⟨y81, hy81, h⟩ := obind h
          obtain ⟨b84, o85, cs86, hae, hb89, hp82, hq83, hd87, hk88⟩ := hr40.idx hy81
          subst hae
          obtain rfl := hd87
          refine LW.u (Pur.ix Tryz.underlying22 sz3 rfl rfl hp82 hq83) rfl ?_
          refine LW.l (Ldr.old w0 ag3 rfl (hk88 0 _ rfl)) (hS8.same _ hb89.1 hb89.2) rfl ?_
          refine gs ?_
          obtain ⟨j90, hj90, h91⟩ := obind h
          refine CW.cut (fun e wb => En e [(0, .slice (some ⟨b32, o33, none⟩) x0.length c0_0), (31, .slice (some ⟨b32, o33, none⟩) x0.length c0_0), (32, .int .i64 (x0.length : Int)), (33, .int .i64 s26), (65, .slice (some ⟨b84, o85, none⟩) y29.links.length c39), (66, .int .i64 (y29.links.length : Int)), (67, .int .i64 s78), (80, .bool j90)] ∧ St w0 [] wb []) ?_ ?_
          · have h := hj90
            refine go ?_
            rcases bcases (decide (y81 ≥ 0)) with hc92 | hc92
            · replace h := bcT h hc92
              refine go ?_
              replace ⟨y93, hy93, h⟩ := obind h
              obtain ⟨b96, o97, cs98, hae, hb101, hp94, hq95, hd99, hk100⟩ := hr0_0.idx hy93
              cases hae
              obtain ⟨a102, c103, a105, c106, a108, c109, rfl, hr104, hr107, hr110⟩ := hd99
              refine go ?_
              refine LW.u (Pur.ix Tryz.underlying40 sz85 rfl rfl hp94 hq95) rfl ?_
              refine go ?_
              refine LW.l (Ldr.old w0 ag3 rfl (hk100 1 _ rfl)) (hS8.same _ hb101.1 hb101.2) rfl ?_
              refine go ?_
              cases oi h
              exact ⟨⟨rfl, rfl, rfl, rfl, rfl, rfl, rfl, rfl, trivial⟩, hS8.pick [] rfl rfl⟩
            replace h := bcF h hc92
            refine go ?_
            cases oi h
            exact ⟨⟨rfl, rfl, rfl, rfl, rfl, rfl, rfl, rfl, trivial⟩, hS8.pick [] rfl rfl⟩
          rintro e w111 ⟨hE, hS9⟩
          obtain ⟨e, rfl⟩ := hE.out
          have h := h91
          refine go ?_
          refine CW.cond rfl (fun hc112 => ?_) (fun hc112 => ?_)
          · replace h := bcT h hc112
            refine go ?_
            cases oi h
            exact ⟨trivial, rfl, _, rfl, ⟨_, Res.one (resOne.t rfl), rfl, hS9.pick [] rfl rfl⟩⟩
          replace h := bcF h hc112
          refine go ?_
          cases oi h
          exact ⟨rfl, ⟨⟨rfl, rfl, rfl, rfl, rfl, rfl, rfl, trivial⟩, hS9.pick [] rfl rfl⟩⟩
        replace h := bcF h hc80
        refine go ?_
        cases oi h
        exact ⟨trivial, rfl, ⟨⟨rfl, rfl, rfl, rfl, trivial⟩, hS8.pick [] rfl rfl⟩⟩
      intro x e w115 hM
      rcases o113 with o113 | r116
      · obtain ⟨rfl, hM⟩ := hM
        obtain ⟨hE, hS10⟩ := hM
        obtain ⟨e, rfl⟩ := hE.out
        have h := h114
        refine go ?_
        cases oi h
        exact ⟨rfl, ⟨⟨rfl, rfl, rfl, rfl, trivial⟩, hS10.pick [] rfl rfl⟩⟩
      obtain ⟨rfl, u, rfl, hM⟩ := hM
      cases h114
      exact ⟨trivial, rfl, _, rfl, hM⟩
    replace h := bcF h hc28
    refine go ?_
    cases oi h
    exact ⟨trivial, rfl, ⟨trivial, hS3.pick [] rfl rfl⟩⟩
  intro x e w119 hM
  rcases o117 with o117 | r120
  · obtain ⟨rfl, hM⟩ := hM
    obtain ⟨hE, hS11⟩ := hM
    obtain ⟨e, rfl⟩ := hE.out; rw [show e = upds e [] from rfl]
    have h := h118
    refine go ?_
    cases h
    exact And.intro trivial ⟨_, Res.one (resOne.t rfl), rfl, hS11.pick [] rfl rfl⟩
  obtain ⟨rfl, u, rfl, hM⟩ := hM
  cases h118
  exact And.intro trivial hM

theorem W_i_HeapOk {w0 : World} {N : Nat} {x0 : DHeap} {r : Bool} (h : F_i_HeapOk N x0 = some r) {a0_0 : Option Addr} {n0_0 c0_0 : Nat} (hn0_0 : n0_0 = x0.arena.length) (hr0_0 : rdS (Bor w0 []) w0 a0_0 c0_0 x0.arena) {a0_4 : Option Addr} {n0_4 c0_4 : Nat} (hn0_4 : n0_4 = x0.gc.grey.length) (hr0_4 : rdS (Bor w0 []) w0 a0_4 c0_4 x0.gc.grey) :
    Ret Tryz.prog 109 #[.agg #[.slice a0_0 n0_0 c0_0, .int .i64 x0.gc.phase, .int .i64 x0.gc.pos, .int .i64 x0.gc.round, .slice a0_4 n0_4 c0_4]] w0 (fun v w => v = .bool r ∧ St w0 [] w []) := by
  subst hn0_0 hn0_4
  unfold F_i_HeapOk at h
  refine Ret.fn Tryz.func109 fun e => ?_
  have hS1 := St.start w0
  refine go ?_
  refine LW.bo hS1 fun g1 w2 hS2 => ?_
  refine go ?_
  obtain ⟨o31, ho31, h32⟩ := obind h
  refine CW.mono (CW.iter (σ := Int) (ρ := Int ⊕ Bool) (fun s3 e wb => En e [(1, .pointer (some ⟨g1, 0, none⟩)), (9, .slice a0_4 x0.gc.grey.length c0_4), (10, .int .i64 (x0.gc.grey.length : Int)), (11, .int .i64 s3)] ∧ St w0 [] wb [bx g1 43 [.slice a0_0 x0.arena.length c0_0, .int .i64 x0.gc.phase, .int .i64 x0.gc.pos, .int .i64 x0.gc.round, .slice a0_4 x0.gc.grey.length c0_4]]) (fun o x e wb => match o with | .inl s3 => x = .exit 0 ∧ En e [(1, .pointer (some ⟨g1, 0, none⟩))] ∧ St w0 [] wb [bx g1 43 [.slice a0_0 x0.arena.length c0_0, .int .i64 x0.gc.phase, .int .i64 x0.gc.pos, .int .i64 x0.gc.round, .slice a0_4 x0.gc.grey.length c0_4]] | .inr r => x = .ret ∧ ∃ u, u = r ∧ ∃ v, Res Tryz.prog Tryz.f109.results e wb v ∧ v = .bool u ∧ St w0 [] wb []) ?_ N 0 _ _ _ ⟨⟨rfl, rfl, rfl, rfl, trivial⟩, hS2.pick [0] rfl rfl⟩ ho31) ?_
  · intro s3 e w4 o hM h
    obtain ⟨hE, hS3⟩ := hM
    obtain ⟨e, rfl⟩ := hE.out
    refine go ?_
    refine CW.cond rfl (fun hc5 => ?_) (fun hc5 => ?_)
    · replace h := bcT h hc5
      refine go ?_
      replace ⟨y6, hy6, h⟩ := obind h
      obtain ⟨b9, o10, cs11, hae, hb14, hp7, hq8, hd12, hk13⟩ := hr0_4.idx hy6
      subst hae
      obtain rfl := hd12
      refine LW.u (Pur.ix Tryz.underlying22 sz3 rfl rfl hp7 hq8) rfl ?_
      refine LW.l (Ldr.old w0 ag3 rfl (hk13 0 _ rfl)) (hS3.same _ hb14.1 hb14.2) rfl ?_
      refine gs ?_
      obtain ⟨j15, hj15, h16⟩ := obind h
      refine CW.cut (fun e wb => En e [(1, .pointer (some ⟨g1, 0, none⟩)), (9, .slice (some ⟨b9, o10, none⟩) x0.gc.grey.length c0_4), (10, .int .i64 (x0.gc.grey.length : Int)), (11, .int .i64 s3), (27, .bool j15)] ∧ St w0 [] wb [bx g1 43 [.slice a0_0 x0.arena.length c0_0, .int .i64 x0.gc.phase, .int .i64 x0.gc.pos, .int .i64 x0.gc.round, .slice (some ⟨b9, o10, none⟩) x0.gc.grey.length c0_4]]) ?_ ?_
      · have h := hj15
        refine go ?_
        replace ⟨y17, hy17, h⟩ := obind h
        refine LW.c0 (W_i_isSlot hy17) hS3 fun w18 hS4 => ?_
        refine go ?_
        rcases bcases (!y17) with hc19 | hc19
        · replace h := bcT h hc19
          refine go ?_
          cases oi h
          exact ⟨⟨rfl, rfl, rfl, rfl, rfl, trivial⟩, hS4.pick [0] rfl rfl⟩
        replace h := bcF h hc19
        refine go ?_
        replace ⟨y20, hy20, h⟩ := obind h
        obtain ⟨a21, c22, he23, he24, hr25⟩ := rdS.sub' hr0_4 hy20
        have hle26 := (hr0_4).le
        refine go ?_
        refine LW.u (Pur.sub (α := Int) (l := x0.gc.grey) Tryz.underlying22 sz3 rfl bndN (bndS rfl) hy20 hle26 he23 he24) rfl ?_
        refine go ?_
        refine LW.fl [1, 9, 10, 11, 19, 24, 25] fun e => ?_
        replace ⟨y27, hy27, h⟩ := obind h
        refine go ?_
        refine LW.c0 (W_z_Contains_int hy27 rfl (hS4.rB hr25)) hS4 fun w28 hS5 => ?_
        refine go ?_
        cases oi h
        exact ⟨⟨rfl, rfl, rfl, rfl, rfl, trivial⟩, hS5.pick [0] rfl rfl⟩
      rintro e w29 ⟨hE, hS6⟩
      obtain ⟨e, rfl⟩ := hE.out
      have h := h16
      refine go ?_
      refine CW.fl [1, 9, 10, 11, 27] fun e => ?_
      refine CW.cond rfl (fun hc30 => ?_) (fun hc30 => ?_)
      · replace h := bcT h hc30
        refine go ?_
        cases oi h
        exact ⟨trivial, rfl, _, rfl, ⟨_, Res.one (resOne.t rfl), rfl, hS6.pick [] rfl rfl⟩⟩
      replace h := bcF h hc30
      refine go ?_
      cases oi h
      exact ⟨rfl, ⟨⟨rfl, rfl, rfl, rfl, trivial⟩, hS6.pick [0] rfl rfl⟩⟩
    replace h := bcF h hc5
    refine go ?_
    cases oi h
    exact ⟨trivial, rfl, ⟨⟨rfl, trivial⟩, hS3.pick [0] rfl rfl⟩⟩
  intro x e w33 hM
  rcases o31 with o31 | r54
  · obtain ⟨rfl, hM⟩ := hM
    obtain ⟨hE, hS7⟩ := hM
    obtain ⟨e, rfl⟩ := hE.out
    have h := h32
    refine gs ?_
    obtain ⟨j34, hj34, h35⟩ := obind h
    refine CW.cut (fun e wb => En e [(1, .pointer (some ⟨g1, 0, none⟩)), (5, .bool j34)] ∧ St w0 [] wb [bx g1 43 [.slice a0_0 x0.arena.length c0_0, .int .i64 x0.gc.phase, .int .i64 x0.gc.pos, .int .i64 x0.gc.round, .slice a0_4 x0.gc.grey.length c0_4]]) ?_ ?_
    · have h := hj34
      refine go ?_
      rcases bcases (x0.gc.phase == 0) with hc36 | hc36
      · replace h := bcT h hc36
        refine go ?_
        cases oi h
        exact ⟨⟨rfl, rfl, trivial⟩, hS7.pick [0] rfl rfl⟩
      replace h := bcF h hc36
      refine go ?_
      cases oi h
      exact ⟨⟨rfl, rfl, trivial⟩, hS7.pick [0] rfl rfl⟩
    rintro e w37 ⟨hE, hS8⟩
    obtain ⟨e, rfl⟩ := hE.out
    have h := h35
    refine gs ?_
    obtain ⟨j38, hj38, h39⟩ := obind h
    refine CW.cut (fun e wb => En e [(1, .pointer (some ⟨g1, 0, none⟩)), (5, .bool j34), (6, .bool j38)] ∧ St w0 [] wb [bx g1 43 [.slice a0_0 x0.arena.length c0_0, .int .i64 x0.gc.phase, .int .i64 x0.gc.pos, .int .i64 x0.gc.round, .slice a0_4 x0.gc.grey.length c0_4]]) ?_ ?_
    · have h := hj38
      refine go ?_
      rcases bcases (x0.gc.phase == 1) with hc40 | hc40
      · replace h := bcT h hc40
        refine go ?_
        replace ⟨y41, hy41, h⟩ := obind h
        refine go ?_
        refine LW.c0 (W_i_isSlot hy41) hS8 fun w42 hS9 => ?_
        refine go ?_
        rcases bcases y41 with hc43 | hc43
        · replace h := bcT h hc43
          refine go ?_
          cases oi h
          exact ⟨⟨rfl, rfl, rfl, trivial⟩, hS9.pick [0] rfl rfl⟩
        replace h := bcF h hc43
        refine go ?_
        cases oi h
        exact ⟨⟨rfl, rfl, rfl, trivial⟩, hS9.pick [0] rfl rfl⟩
      replace h := bcF h hc40
      refine go ?_
      cases oi h
      exact ⟨⟨rfl, rfl, rfl, trivial⟩, hS8.pick [0] rfl rfl⟩
    rintro e w44 ⟨hE, hS10⟩
    obtain ⟨e, rfl⟩ := hE.out
    have h := h39
    refine go ?_
    replace ⟨y45, hy45, h⟩ := obind h
    refine LW.c0 (W_i_ArenaOk hy45 rfl (hS10.rB hr0_0)) hS10 fun w46 hS11 => ?_
    refine go ?_
    rcases bcases y45 with hc47 | hc47
    · replace h := bcT h hc47
      refine go ?_
      rcases bcases j34 with hc48 | hc48
      · replace h := bcT h hc48
        refine go ?_
        replace ⟨y49, hy49, h⟩ := obind h
        refine go ?_
        refine LW.c0 (W_i_isTime hy49) hS11 fun w50 hS12 => ?_
        refine go ?_
        cases h
        exact And.intro trivial ⟨_, Res.one (resOne.t rfl), rfl, hS12.pick [] rfl rfl⟩
      replace h := bcF h hc48
      refine go ?_
      rcases bcases j38 with hc51 | hc51
      · replace h := bcT h hc51
        refine go ?_
        replace ⟨y52, hy52, h⟩ := obind h
        refine go ?_
        refine LW.c0 (W_i_isTime hy52) hS11 fun w53 hS13 => ?_
        refine go ?_
        cases h
        exact And.intro trivial ⟨_, Res.one (resOne.t rfl), rfl, hS13.pick [] rfl rfl⟩
      replace h := bcF h hc51
      refine go ?_
      cases h
      exact And.intro trivial ⟨_, Res.one (resOne.t rfl), rfl, hS11.pick [] rfl rfl⟩
    replace h := bcF h hc47
    refine go ?_
    cases h
    exact And.intro trivial ⟨_, Res.one (resOne.t rfl), rfl, hS11.pick [] rfl rfl⟩
  obtain ⟨rfl, u, rfl, hM⟩ := hM
  cases h32
  exact And.intro trivial hM

theorem W_l_eqIntS {w0 : World} {N : Nat} {x0 : List Int} {x1 : List Int} {r : Bool} (h : F_l_eqIntS N x0 x1 = some r) {a0_0 : Option Addr} {n0_0 c0_0 : Nat} (hn0_0 : n0_0 = x0.length) (hr0_0 : rdS (Bor w0 []) w0 a0_0 c0_0 x0) {a1_0 : Option Addr} {n1_0 c1_0 : Nat} (hn1_0 : n1_0 = x1.length) (hr1_0 : rdS (Bor w0 []) w0 a1_0 c1_0 x1) :
    Ret Tryz.prog 12 #[.slice a0_0 n0_0 c0_0, .slice a1_0 n1_0 c1_0] w0 (fun v w => v = .bool r ∧ St w0 [] w []) := by
  subst hn0_0 hn1_0
  unfold F_l_eqIntS at h
  refine Ret.fn Tryz.func12 fun e => ?_
  have hS1 := St.start w0
  refine go ?_
  refine CW.cond rfl (fun hc1 => ?_) (fun hc1 => ?_)
  · replace h := bcT h hc1
    refine go ?_
    cases h
    exact And.intro trivial ⟨_, Res.one (resOne.t rfl), rfl, hS1.pick [] rfl rfl⟩
  replace h := bcF h hc1
  refine go ?_
  obtain ⟨o24, ho24, h25⟩ := obind h
  refine CW.mono (CW.iter (σ := Int) (ρ := Int ⊕ Bool) (fun s2 e wb => En e [(0, .slice a0_0 x0.length c0_0), (1, .slice a1_0 x1.length c1_0), (5, .int .i64 s2)] ∧ St w0 [] wb []) (fun o x e wb => match o with | .inl s2 => x = .exit 0 ∧ En e [] ∧ St w0 [] wb [] | .inr r => x = .ret ∧ ∃ u, u = r ∧ ∃ v, Res Tryz.prog Tryz.f12.results e wb v ∧ v = .bool u ∧ St w0 [] wb []) ?_ N 0 _ _ _ ⟨⟨rfl, rfl, rfl, trivial⟩, hS1.pick [] rfl rfl⟩ ho24) ?_
  · intro s2 e w3 o hM h
    obtain ⟨hE, hS2⟩ := hM
    obtain ⟨e, rfl⟩ := hE.out
    refine go ?_
    refine CW.cond rfl (fun hc4 => ?_) (fun hc4 => ?_)
    · replace h := bcT h hc4
      refine go ?_
      refine CW.draw (by kernel_rfl) ?_
      have hS3 := hS2.drew
      refine AW.u (i := 0) rfl (by kernel_rfl) rfl rfl (Pur.p rfl) ?_
      refine AW.u (i := 1) rfl (by kernel_rfl) rfl rfl (Pur.p rfl) ?_
      replace ⟨y5, hy5, h⟩ := obind h
      obtain ⟨b8, o9, cs10, hae, hb13, hp6, hq7, hd11, hk12⟩ := hr0_0.idx hy5
      subst hae
      obtain rfl := hd11
      refine AW.u (i := 2) rfl (by kernel_rfl) rfl rfl (Pur.ix Tryz.underlying22 sz3 rfl rfl hp6 hq7) ?_
      refine AW.take (i := 3) rfl (by kernel_rfl) rfl rfl (Ldr.old w0 ag3 rfl (hk12 0 _ rfl)) (hS3.same _ hb13.1 hb13.2) ?_
      refine AW.u (i := 4) rfl (by kernel_rfl) rfl rfl (Pur.p rfl) ?_
      refine AW.u (i := 5) rfl (by kernel_rfl) rfl rfl (Pur.p rfl) ?_
      replace ⟨y14, hy14, h⟩ := obind h
      obtain ⟨b17, o18, cs19, hae, hb22, hp15, hq16, hd20, hk21⟩ := hr1_0.idx hy14
      subst hae
      obtain rfl := hd20
      refine AW.u (i := 6) rfl (by kernel_rfl) rfl rfl (Pur.ix Tryz.underlying22 sz3 rfl rfl hp15 hq16) ?_
      refine AW.take (i := 7) rfl (by kernel_rfl) rfl rfl (Ldr.old w0 ag3 rfl (hk21 0 _ rfl)) (hS3.same _ hb22.1 hb22.2) ?_
      refine AW.u (i := 8) rfl (by kernel_rfl) rfl rfl (Pur.p rfl) ?_
      refine AW.done (by kernel_rfl) ?_
      refine go ?_
      refine CW.cond rfl (fun hc23 => ?_) (fun hc23 => ?_)
      · replace h := bcT h hc23
        refine go ?_
        cases oi h
        exact ⟨trivial, rfl, _, rfl, ⟨_, Res.one (resOne.t rfl), rfl, hS3.pick [] rfl rfl⟩⟩
      replace h := bcF h hc23
      refine go ?_
      cases oi h
      exact ⟨rfl, ⟨⟨rfl, rfl, rfl, trivial⟩, hS3.pick [] rfl rfl⟩⟩
    replace h := bcF h hc4
    refine go ?_
    cases oi h
    exact ⟨trivial, rfl, ⟨trivial, hS2.pick [] rfl rfl⟩⟩
  intro x e w26 hM
  rcases o24 with o24 | r27
  · obtain ⟨rfl, hM⟩ := hM
    obtain ⟨hE, hS4⟩ := hM
    obtain ⟨e, rfl⟩ := hE.out; rw [show e = upds e [] from rfl]
    have h := h25
    refine go ?_
    cases h
    exact And.intro trivial ⟨_, Res.one (resOne.t rfl), rfl, hS4.pick [] rfl rfl⟩
  obtain ⟨rfl, u, rfl, hM⟩ := hM
  cases h25
  exact And.intro trivial hM

theorem W_l_eqLabel {w0 : World} {N : Nat} {x0 : DLabel} {x1 : DLabel} {r : Bool} (h : F_l_eqLabel N x0 x1 = some r) {a0_0 : Option Addr} {n0_0 c0_0 : Nat} (hn0_0 : n0_0 = x0.levels.length) (hr0_0 : rdS (Bor w0 []) w0 a0_0 c0_0 x0.levels) {a1_0 : Option Addr} {n1_0 c1_0 : Nat} (hn1_0 : n1_0 = x1.levels.length) (hr1_0 : rdS (Bor w0 []) w0 a1_0 c1_0 x1.levels) :
    Ret Tryz.prog 49 #[.agg #[.slice a0_0 n0_0 c0_0], .agg #[.slice a1_0 n1_0 c1_0]] w0 (fun v w => v = .bool r ∧ St w0 [] w []) := by
  subst hn0_0 hn1_0
  unfold F_l_eqLabel at h
  refine Ret.fn Tryz.func49 fun e => ?_
  have hS1 := St.start w0
  refine go ?_
  refine LW.bo hS1 fun g1 w2 hS2 => ?_
  refine LW.bo hS2 fun g3 w4 hS3 => ?_
  refine go ?_
  replace ⟨y5, hy5, h⟩ := obind h
  refine LW.c0 (W_l_eqIntS hy5 rfl (hS3.rB hr0_0) rfl (hS3.rB hr1_0)) hS3 fun w6 hS4 => ?_
  refine go ?_
  refine CW.cond rfl (fun hc7 => ?_) (fun hc7 => ?_)
  · replace h := bcT h hc7
    refine go ?_
    cases h
    exact And.intro trivial ⟨_, Res.one (resOne.t rfl), rfl, hS4.pick [] rfl rfl⟩
  replace h := bcF h hc7
  refine go ?_
  cases h
  exact And.intro trivial ⟨_, Res.one (resOne.t rfl), rfl, hS4.pick [] rfl rfl⟩

end Go.Kx
