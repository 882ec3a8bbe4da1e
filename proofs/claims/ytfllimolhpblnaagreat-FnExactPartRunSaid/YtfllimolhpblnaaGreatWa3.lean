/- Each call returns what the plain function says. Printed by drive.py. -/
import Derived.Test.YtfllimolhpblnaaGreatFa
import Derived.Test.YtfllimolhpblnaaGreatPu
import Derived.Test.YtfllimolhpblnaaGreatWa0
import Derived.Test.YtfllimolhpblnaaGreatWa1
namespace Go.Kx
open Go Go.RowKit Go.Proofs
set_option maxRecDepth 10000
set_option maxHeartbeats 2000000
set_option linter.unusedVariables false
set_option linter.unusedSimpArgs false
theorem W_s_ObjOk {w0 : World} {N : Nat} {x0 : DObj} {r : Bool} (h : F_s_ObjOk N x0 = some r) {a0_10 : Option Addr} {n0_10 c0_10 : Nat} (hn0_10 : n0_10 = x0.links.length) (hr0_10 : rdS (Bor w0 []) w0 a0_10 c0_10 x0.links) {a0_11 : Option Addr} {n0_11 c0_11 : Nat} (hn0_11 : n0_11 = x0.data.length) (hr0_11 : rdS (Bor w0 []) w0 a0_11 c0_11 x0.data) {a0_12 : Option Addr} {n0_12 c0_12 : Nat} (hn0_12 : n0_12 = x0.queue.length) (hr0_12 : rdS (Bor w0 []) w0 a0_12 c0_12 x0.queue) :
    Ret Tryz.prog 193 #[.agg #[.int .i64 x0.gen, .int .i64 x0.kind, .int .i64 x0.box, .int .i64 x0.res, .int .i64 x0.til, .int .i64 x0.pages, .int .i64 x0.wait, .int .i64 x0.got, .int .i64 x0.ran, .bool x0.mark, .slice a0_10 n0_10 c0_10, .slice a0_11 n0_11 c0_11, .slice a0_12 n0_12 c0_12]] w0 (fun v w => v = .bool r ∧ St w0 [] w []) := by
  subst hn0_10 hn0_11 hn0_12
  unfold F_s_ObjOk at h
  refine Ret.fn Tryz.func193 fun e => ?_
  have hS1 := St.start w0
  refine go ?_
  refine LW.bo hS1 fun g1 w2 hS2 => ?_
  refine go ?_
  replace ⟨y3, hy3, h⟩ := obind h
  refine LW.c0 (W_s_l1In hy3) hS2 fun w4 hS3 => ?_
  refine go ?_
  refine CW.cond rfl (fun hc5 => ?_) (fun hc5 => ?_)
  · replace h := bcT h hc5
    refine go ?_
    cases h
    exact And.intro trivial ⟨_, Res.one (resOne.t rfl), rfl, hS3.pick [] rfl rfl⟩
  replace h := bcF h hc5
  refine go ?_
  refine CW.cond rfl (fun hc6 => ?_) (fun hc6 => ?_)
  · replace h := bcT h hc6
    refine gs ?_
    obtain ⟨j7, hj7, h8⟩ := obind h
    refine CW.cut (fun e wb => En e [(2, .bool j7)] ∧ St w0 [] wb []) ?_ ?_
    · have h := hj7
      refine go ?_
      rcases bcases (x0.box == 0) with hc9 | hc9
      · replace h := bcT h hc9
        refine go ?_
        rcases bcases (x0.res == 0) with hc10 | hc10
        · replace h := bcT h hc10
          refine go ?_
          refine LW.fl [1, 26] fun e => ?_
          rcases bcases (x0.til == 0) with hc11 | hc11
          · replace h := bcT h hc11
            refine go ?_
            rcases bcases (x0.pages == 0) with hc12 | hc12
            · replace h := bcT h hc12
              refine go ?_
              rcases bcases (x0.wait == 0) with hc13 | hc13
              · replace h := bcT h hc13
                refine go ?_
                rcases bcases (x0.got == 0) with hc14 | hc14
                · replace h := bcT h hc14
                  refine go ?_
                  rcases bcases (x0.ran == 0) with hc15 | hc15
                  · replace h := bcT h hc15
                    refine go ?_
                    refine LW.fl [1, 51] fun e => ?_
                    rcases bcases (!x0.mark) with hc16 | hc16
                    · replace h := bcT h hc16
                      refine go ?_
                      rcases bcases ((x0.links.length : Int) == 0) with hc17 | hc17
                      · replace h := bcT h hc17
                        refine go ?_
                        rcases bcases ((x0.data.length : Int) == 0) with hc18 | hc18
                        · replace h := bcT h hc18
                          refine go ?_
                          cases oi h
                          exact ⟨⟨rfl, trivial⟩, hS3.pick [] rfl rfl⟩
                        replace h := bcF h hc18
                        refine go ?_
                        cases oi h
                        exact ⟨⟨rfl, trivial⟩, hS3.pick [] rfl rfl⟩
                      replace h := bcF h hc17
                      refine go ?_
                      cases oi h
                      exact ⟨⟨rfl, trivial⟩, hS3.pick [] rfl rfl⟩
                    replace h := bcF h hc16
                    refine go ?_
                    cases oi h
                    exact ⟨⟨rfl, trivial⟩, hS3.pick [] rfl rfl⟩
                  replace h := bcF h hc15
                  refine go ?_
                  cases oi h
                  exact ⟨⟨rfl, trivial⟩, hS3.pick [] rfl rfl⟩
                replace h := bcF h hc14
                refine go ?_
                cases oi h
                exact ⟨⟨rfl, trivial⟩, hS3.pick [] rfl rfl⟩
              replace h := bcF h hc13
              refine go ?_
              cases oi h
              exact ⟨⟨rfl, trivial⟩, hS3.pick [] rfl rfl⟩
            replace h := bcF h hc12
            refine go ?_
            cases oi h
            exact ⟨⟨rfl, trivial⟩, hS3.pick [] rfl rfl⟩
          replace h := bcF h hc11
          refine go ?_
          cases oi h
          exact ⟨⟨rfl, trivial⟩, hS3.pick [] rfl rfl⟩
        replace h := bcF h hc10
        refine go ?_
        cases oi h
        exact ⟨⟨rfl, trivial⟩, hS3.pick [] rfl rfl⟩
      replace h := bcF h hc9
      refine go ?_
      cases oi h
      exact ⟨⟨rfl, trivial⟩, hS3.pick [] rfl rfl⟩
    rintro e w19 ⟨hE, hS4⟩
    obtain ⟨e, rfl⟩ := hE.out
    have h := h8
    refine go ?_
    cases h
    exact And.intro trivial ⟨_, Res.one (resOne.t rfl), rfl, hS4.pick [] rfl rfl⟩
  replace h := bcF h hc6
  refine gs ?_
  obtain ⟨j20, hj20, h21⟩ := obind h
  refine CW.cut (fun e wb => En e [(1, .pointer (some ⟨g1, 0, none⟩)), (108, .bool j20)] ∧ St w0 [] wb [bx g1 92 [.int .i64 x0.gen, .int .i64 x0.kind, .int .i64 x0.box, .int .i64 x0.res, .int .i64 x0.til, .int .i64 x0.pages, .int .i64 x0.wait, .int .i64 x0.got, .int .i64 x0.ran, .bool x0.mark, .slice a0_10 x0.links.length c0_10, .slice a0_11 x0.data.length c0_11, .slice a0_12 x0.queue.length c0_12]]) ?_ ?_
  · have h := hj20
    refine go ?_
    replace ⟨y22, hy22, h⟩ := obind h
    refine LW.c0 (W_s_l1In hy22) hS3 fun w23 hS5 => ?_
    refine go ?_
    rcases bcases (!y22) with hc24 | hc24
    · replace h := bcT h hc24
      refine go ?_
      cases oi h
      exact ⟨⟨rfl, rfl, trivial⟩, hS5.pick [0] rfl rfl⟩
    replace h := bcF h hc24
    refine go ?_
    replace ⟨y25, hy25, h⟩ := obind h
    refine go ?_
    refine LW.c0 (W_s_l1In hy25) hS5 fun w26 hS6 => ?_
    refine go ?_
    rcases bcases (!y25) with hc27 | hc27
    · replace h := bcT h hc27
      refine go ?_
      cases oi h
      exact ⟨⟨rfl, rfl, trivial⟩, hS6.pick [0] rfl rfl⟩
    replace h := bcF h hc27
    refine go ?_
    replace ⟨y28, hy28, h⟩ := obind h
    refine go ?_
    refine LW.c0 (W_s_l6Res hy28) hS6 fun w29 hS7 => ?_
    refine go ?_
    refine LW.fl [1, 85] fun e => ?_
    rcases bcases (!y28) with hc30 | hc30
    · replace h := bcT h hc30
      refine go ?_
      cases oi h
      exact ⟨⟨rfl, rfl, trivial⟩, hS7.pick [0] rfl rfl⟩
    replace h := bcF h hc30
    refine go ?_
    replace ⟨y31, hy31, h⟩ := obind h
    refine go ?_
    refine LW.c0 (W_s_l1In hy31) hS7 fun w32 hS8 => ?_
    refine go ?_
    rcases bcases (!y31) with hc33 | hc33
    · replace h := bcT h hc33
      refine go ?_
      cases oi h
      exact ⟨⟨rfl, rfl, trivial⟩, hS8.pick [0] rfl rfl⟩
    replace h := bcF h hc33
    refine go ?_
    replace ⟨y34, hy34, h⟩ := obind h
    refine go ?_
    refine LW.c0 (W_s_l1In hy34) hS8 fun w35 hS9 => ?_
    refine go ?_
    rcases bcases (!y34) with hc36 | hc36
    · replace h := bcT h hc36
      refine go ?_
      cases oi h
      exact ⟨⟨rfl, rfl, trivial⟩, hS9.pick [0] rfl rfl⟩
    replace h := bcF h hc36
    refine go ?_
    rcases bcases ((x0.links.length : Int) != 2) with hc37 | hc37
    · replace h := bcT h hc37
      refine go ?_
      cases oi h
      exact ⟨⟨rfl, rfl, trivial⟩, hS9.pick [0] rfl rfl⟩
    replace h := bcF h hc37
    refine go ?_
    replace ⟨y38, hy38, h⟩ := obind h
    refine go ?_
    refine LW.c0 (W_s_l1In hy38) hS9 fun w39 hS10 => ?_
    refine go ?_
    cases oi h
    exact ⟨⟨rfl, rfl, trivial⟩, hS10.pick [0] rfl rfl⟩
  rintro e w40 ⟨hE, hS11⟩
  obtain ⟨e, rfl⟩ := hE.out
  have h := h21
  refine go ?_
  refine CW.cond rfl (fun hc41 => ?_) (fun hc41 => ?_)
  · replace h := bcT h hc41
    refine go ?_
    cases h
    exact And.intro trivial ⟨_, Res.one (resOne.t rfl), rfl, hS11.pick [] rfl rfl⟩
  replace h := bcF h hc41
  refine go ?_
  obtain ⟨o57, ho57, h58⟩ := obind h
  refine CW.mono (CW.iter (σ := Int) (ρ := Int ⊕ Bool) (fun s42 e wb => En e [(1, .pointer (some ⟨g1, 0, none⟩)), (3, .int .i64 s42)] ∧ St w0 [] wb [bx g1 92 [.int .i64 x0.gen, .int .i64 x0.kind, .int .i64 x0.box, .int .i64 x0.res, .int .i64 x0.til, .int .i64 x0.pages, .int .i64 x0.wait, .int .i64 x0.got, .int .i64 x0.ran, .bool x0.mark, .slice a0_10 x0.links.length c0_10, .slice a0_11 x0.data.length c0_11, .slice a0_12 x0.queue.length c0_12]]) (fun o x e wb => match o with | .inl s42 => x = .exit 0 ∧ En e [(1, .pointer (some ⟨g1, 0, none⟩))] ∧ St w0 [] wb [bx g1 92 [.int .i64 x0.gen, .int .i64 x0.kind, .int .i64 x0.box, .int .i64 x0.res, .int .i64 x0.til, .int .i64 x0.pages, .int .i64 x0.wait, .int .i64 x0.got, .int .i64 x0.ran, .bool x0.mark, .slice a0_10 x0.links.length c0_10, .slice a0_11 x0.data.length c0_11, .slice a0_12 x0.queue.length c0_12]] | .inr r => x = .ret ∧ ∃ u, u = r ∧ ∃ v, Res Tryz.prog Tryz.f193.results e wb v ∧ v = .bool u ∧ St w0 [] wb []) ?_ N 0 _ _ _ ⟨⟨rfl, rfl, trivial⟩, hS11.pick [0] rfl rfl⟩ ho57) ?_
  · intro s42 e w43 o hM h
    obtain ⟨hE, hS12⟩ := hM
    obtain ⟨e, rfl⟩ := hE.out
    refine go ?_
    refine CW.cond rfl (fun hc44 => ?_) (fun hc44 => ?_)
    · replace h := bcT h hc44
      refine go ?_
      replace ⟨y45, hy45, h⟩ := obind h
      obtain ⟨b48, o49, cs50, hae, hb53, hp46, hq47, hd51, hk52⟩ := hr0_10.idx hy45
      subst hae
      obtain rfl := hd51
      refine LW.u (Pur.ix Tryz.underlying28 sz3 rfl rfl hp46 hq47) rfl ?_
      refine LW.l (Ldr.old w0 ag3 rfl (hk52 0 _ rfl)) (hS12.same _ hb53.1 hb53.2) rfl ?_
      replace ⟨y54, hy54, h⟩ := obind h
      refine LW.c0 (W_s_l1In hy54) hS12 fun w55 hS13 => ?_
      refine go ?_
      refine CW.fl [1, 3, 119] fun e => ?_
      refine CW.cond rfl (fun hc56 => ?_) (fun hc56 => ?_)
      · replace h := bcT h hc56
        refine go ?_
        cases oi h
        exact ⟨trivial, rfl, _, rfl, ⟨_, Res.one (resOne.t rfl), rfl, hS13.pick [] rfl rfl⟩⟩
      replace h := bcF h hc56
      refine go ?_
      cases oi h
      exact ⟨rfl, ⟨⟨rfl, rfl, trivial⟩, hS13.pick [0] rfl rfl⟩⟩
    replace h := bcF h hc44
    refine go ?_
    cases oi h
    exact ⟨trivial, rfl, ⟨⟨rfl, trivial⟩, hS12.pick [0] rfl rfl⟩⟩
  intro x e w59 hM
  rcases o57 with o57 | r150
  · obtain ⟨rfl, hM⟩ := hM
    obtain ⟨hE, hS14⟩ := hM
    obtain ⟨e, rfl⟩ := hE.out
    have h := h58
    refine gs ?_
    obtain ⟨j60, hj60, h61⟩ := obind h
    refine CW.cut (fun e wb => En e [(1, .pointer (some ⟨g1, 0, none⟩)), (165, .bool j60)] ∧ St w0 [] wb [bx g1 92 [.int .i64 x0.gen, .int .i64 x0.kind, .int .i64 x0.box, .int .i64 x0.res, .int .i64 x0.til, .int .i64 x0.pages, .int .i64 x0.wait, .int .i64 x0.got, .int .i64 x0.ran, .bool x0.mark, .slice a0_10 x0.links.length c0_10, .slice a0_11 x0.data.length c0_11, .slice a0_12 x0.queue.length c0_12]]) ?_ ?_
    · have h := hj60
      refine go ?_
      rcases bcases (x0.kind != 4) with hc62 | hc62
      · replace h := bcT h hc62
        refine go ?_
        rcases bcases (x0.wait != 0) with hc63 | hc63
        · replace h := bcT h hc63
          refine go ?_
          cases oi h
          exact ⟨⟨rfl, rfl, trivial⟩, hS14.pick [0] rfl rfl⟩
        replace h := bcF h hc63
        refine go ?_
        refine LW.fl [1, 123, 132] fun e => ?_
        rcases bcases (x0.got != 0) with hc64 | hc64
        · replace h := bcT h hc64
          refine go ?_
          cases oi h
          exact ⟨⟨rfl, rfl, trivial⟩, hS14.pick [0] rfl rfl⟩
        replace h := bcF h hc64
        refine go ?_
        rcases bcases (x0.ran != 0) with hc65 | hc65
        · replace h := bcT h hc65
          refine go ?_
          cases oi h
          exact ⟨⟨rfl, rfl, trivial⟩, hS14.pick [0] rfl rfl⟩
        replace h := bcF h hc65
        refine go ?_
        rcases bcases (x0.kind == 4) with hc66 | hc66
        · replace h := bcT h hc66
          refine go ?_
          rcases bcases (decide (x0.wait < 0)) with hc67 | hc67
          · replace h := bcT h hc67
            refine go ?_
            cases oi h
            exact ⟨⟨rfl, rfl, trivial⟩, hS14.pick [0] rfl rfl⟩
          replace h := bcF h hc67
          refine go ?_
          rcases bcases (decide (x0.wait > 0)) with hc68 | hc68
          · replace h := bcT h hc68
            refine go ?_
            refine LW.fl [1, 138, 142, 146, 150, 153] fun e => ?_
            replace ⟨y69, hy69, h⟩ := obind h
            refine go ?_
            refine LW.c0 (W_s_l8Handle hy69) hS14 fun w70 hS15 => ?_
            refine go ?_
            rcases bcases (!y69) with hc71 | hc71
            · replace h := bcT h hc71
              refine go ?_
              cases oi h
              exact ⟨⟨rfl, rfl, trivial⟩, hS15.pick [0] rfl rfl⟩
            replace h := bcF h hc71
            refine go ?_
            replace ⟨y72, hy72, h⟩ := obind h
            refine go ?_
            refine LW.c0 (W_s_l1In hy72) hS15 fun w73 hS16 => ?_
            refine go ?_
            cases oi h
            exact ⟨⟨rfl, rfl, trivial⟩, hS16.pick [0] rfl rfl⟩
          replace h := bcF h hc68
          refine go ?_
          refine LW.fl [1, 138, 142, 158, 160] fun e => ?_
          replace ⟨y74, hy74, h⟩ := obind h
          refine go ?_
          refine LW.c0 (W_s_l1In hy74) hS14 fun w75 hS17 => ?_
          refine go ?_
          cases oi h
          exact ⟨⟨rfl, rfl, trivial⟩, hS17.pick [0] rfl rfl⟩
        replace h := bcF h hc66
        refine go ?_
        cases oi h
        exact ⟨⟨rfl, rfl, trivial⟩, hS14.pick [0] rfl rfl⟩
      replace h := bcF h hc62
      refine go ?_
      refine LW.fl [1, 138, 142] fun e => ?_
      rcases bcases (x0.kind == 4) with hc76 | hc76
      · replace h := bcT h hc76
        refine go ?_
        rcases bcases (decide (x0.wait < 0)) with hc77 | hc77
        · replace h := bcT h hc77
          refine go ?_
          cases oi h
          exact ⟨⟨rfl, rfl, trivial⟩, hS14.pick [0] rfl rfl⟩
        replace h := bcF h hc77
        refine go ?_
        rcases bcases (decide (x0.wait > 0)) with hc78 | hc78
        · replace h := bcT h hc78
          refine go ?_
          replace ⟨y79, hy79, h⟩ := obind h
          refine go ?_
          refine LW.c0 (W_s_l8Handle hy79) hS14 fun w80 hS18 => ?_
          refine go ?_
          rcases bcases (!y79) with hc81 | hc81
          · replace h := bcT h hc81
            refine go ?_
            cases oi h
            exact ⟨⟨rfl, rfl, trivial⟩, hS18.pick [0] rfl rfl⟩
          replace h := bcF h hc81
          refine go ?_
          replace ⟨y82, hy82, h⟩ := obind h
          refine go ?_
          refine LW.c0 (W_s_l1In hy82) hS18 fun w83 hS19 => ?_
          refine go ?_
          cases oi h
          exact ⟨⟨rfl, rfl, trivial⟩, hS19.pick [0] rfl rfl⟩
        replace h := bcF h hc78
        refine go ?_
        replace ⟨y84, hy84, h⟩ := obind h
        refine go ?_
        refine LW.c0 (W_s_l1In hy84) hS14 fun w85 hS20 => ?_
        refine go ?_
        cases oi h
        exact ⟨⟨rfl, rfl, trivial⟩, hS20.pick [0] rfl rfl⟩
      replace h := bcF h hc76
      refine go ?_
      cases oi h
      exact ⟨⟨rfl, rfl, trivial⟩, hS14.pick [0] rfl rfl⟩
    rintro e w86 ⟨hE, hS21⟩
    obtain ⟨e, rfl⟩ := hE.out
    have h := h61
    refine go ?_
    refine CW.cond rfl (fun hc87 => ?_) (fun hc87 => ?_)
    · replace h := bcT h hc87
      refine go ?_
      cases h
      exact And.intro trivial ⟨_, Res.one (resOne.t rfl), rfl, hS21.pick [] rfl rfl⟩
    replace h := bcF h hc87
    refine gs ?_
    obtain ⟨j88, hj88, h89⟩ := obind h
    refine CW.cut (fun e wb => En e [(1, .pointer (some ⟨g1, 0, none⟩)), (195, .bool j88)] ∧ St w0 [] wb [bx g1 92 [.int .i64 x0.gen, .int .i64 x0.kind, .int .i64 x0.box, .int .i64 x0.res, .int .i64 x0.til, .int .i64 x0.pages, .int .i64 x0.wait, .int .i64 x0.got, .int .i64 x0.ran, .bool x0.mark, .slice a0_10 x0.links.length c0_10, .slice a0_11 x0.data.length c0_11, .slice a0_12 x0.queue.length c0_12]]) ?_ ?_
    · have h := hj88
      refine go ?_
      rcases bcases ((x0.data.length : Int) != 0) with hc90 | hc90
      · replace h := bcT h hc90
        refine go ?_
        rcases bcases (x0.kind != 2) with hc91 | hc91
        · replace h := bcT h hc91
          refine go ?_
          cases oi h
          exact ⟨⟨rfl, rfl, trivial⟩, hS21.pick [0] rfl rfl⟩
        replace h := bcF h hc91
        refine go ?_
        refine LW.fl [1, 183] fun e => ?_
        rcases bcases ((x0.data.length : Int) != x0.pages) with hc92 | hc92
        · replace h := bcT h hc92
          refine go ?_
          cases oi h
          exact ⟨⟨rfl, rfl, trivial⟩, hS21.pick [0] rfl rfl⟩
        replace h := bcF h hc92
        refine go ?_
        rcases bcases (x0.kind == 2) with hc93 | hc93
        · replace h := bcT h hc93
          refine go ?_
          cases oi h
          exact ⟨⟨rfl, rfl, trivial⟩, hS21.pick [0] rfl rfl⟩
        replace h := bcF h hc93
        refine go ?_
        cases oi h
        exact ⟨⟨rfl, rfl, trivial⟩, hS21.pick [0] rfl rfl⟩
      replace h := bcF h hc90
      refine go ?_
      refine LW.fl [1, 183, 187] fun e => ?_
      rcases bcases (x0.kind == 2) with hc94 | hc94
      · replace h := bcT h hc94
        refine go ?_
        cases oi h
        exact ⟨⟨rfl, rfl, trivial⟩, hS21.pick [0] rfl rfl⟩
      replace h := bcF h hc94
      refine go ?_
      cases oi h
      exact ⟨⟨rfl, rfl, trivial⟩, hS21.pick [0] rfl rfl⟩
    rintro e w95 ⟨hE, hS22⟩
    obtain ⟨e, rfl⟩ := hE.out
    have h := h89
    refine go ?_
    refine CW.cond rfl (fun hc96 => ?_) (fun hc96 => ?_)
    · replace h := bcT h hc96
      refine go ?_
      cases h
      exact And.intro trivial ⟨_, Res.one (resOne.t rfl), rfl, hS22.pick [] rfl rfl⟩
    replace h := bcF h hc96
    refine go ?_
    obtain ⟨o112, ho112, h113⟩ := obind h
    refine CW.mono (CW.iter (σ := Int) (ρ := Int ⊕ Bool) (fun s97 e wb => En e [(1, .pointer (some ⟨g1, 0, none⟩)), (4, .int .i64 s97)] ∧ St w0 [] wb [bx g1 92 [.int .i64 x0.gen, .int .i64 x0.kind, .int .i64 x0.box, .int .i64 x0.res, .int .i64 x0.til, .int .i64 x0.pages, .int .i64 x0.wait, .int .i64 x0.got, .int .i64 x0.ran, .bool x0.mark, .slice a0_10 x0.links.length c0_10, .slice a0_11 x0.data.length c0_11, .slice a0_12 x0.queue.length c0_12]]) (fun o x e wb => match o with | .inl s97 => x = .exit 2 ∧ En e [(1, .pointer (some ⟨g1, 0, none⟩))] ∧ St w0 [] wb [bx g1 92 [.int .i64 x0.gen, .int .i64 x0.kind, .int .i64 x0.box, .int .i64 x0.res, .int .i64 x0.til, .int .i64 x0.pages, .int .i64 x0.wait, .int .i64 x0.got, .int .i64 x0.ran, .bool x0.mark, .slice a0_10 x0.links.length c0_10, .slice a0_11 x0.data.length c0_11, .slice a0_12 x0.queue.length c0_12]] | .inr r => x = .ret ∧ ∃ u, u = r ∧ ∃ v, Res Tryz.prog Tryz.f193.results e wb v ∧ v = .bool u ∧ St w0 [] wb []) ?_ N 0 _ _ _ ⟨⟨rfl, rfl, trivial⟩, hS22.pick [0] rfl rfl⟩ ho112) ?_
    · intro s97 e w98 o hM h
      obtain ⟨hE, hS23⟩ := hM
      obtain ⟨e, rfl⟩ := hE.out
      refine go ?_
      refine CW.fl [1, 4, 200] fun e => ?_
      refine CW.cond rfl (fun hc99 => ?_) (fun hc99 => ?_)
      · replace h := bcT h hc99
        refine go ?_
        replace ⟨y100, hy100, h⟩ := obind h
        obtain ⟨b103, o104, cs105, hae, hb108, hp101, hq102, hd106, hk107⟩ := hr0_11.idx hy100
        subst hae
        obtain rfl := hd106
        refine LW.u (Pur.ix Tryz.underlying28 sz3 rfl rfl hp101 hq102) rfl ?_
        refine LW.l (Ldr.old w0 ag3 rfl (hk107 0 _ rfl)) (hS23.same _ hb108.1 hb108.2) rfl ?_
        replace ⟨y109, hy109, h⟩ := obind h
        refine LW.c0 (W_s_l1In hy109) hS23 fun w110 hS24 => ?_
        refine go ?_
        refine CW.cond rfl (fun hc111 => ?_) (fun hc111 => ?_)
        · replace h := bcT h hc111
          refine go ?_
          cases oi h
          exact ⟨trivial, rfl, _, rfl, ⟨_, Res.one (resOne.t rfl), rfl, hS24.pick [] rfl rfl⟩⟩
        replace h := bcF h hc111
        refine go ?_
        cases oi h
        exact ⟨rfl, ⟨⟨rfl, rfl, trivial⟩, hS24.pick [0] rfl rfl⟩⟩
      replace h := bcF h hc99
      refine go ?_
      cases oi h
      exact ⟨trivial, rfl, ⟨⟨rfl, trivial⟩, hS23.pick [0] rfl rfl⟩⟩
    intro x e w114 hM
    rcases o112 with o112 | r149
    · obtain ⟨rfl, hM⟩ := hM
      obtain ⟨hE, hS25⟩ := hM
      obtain ⟨e, rfl⟩ := hE.out
      have h := h113
      refine gs ?_
      obtain ⟨j115, hj115, h116⟩ := obind h
      refine CW.cut (fun e wb => En e [(1, .pointer (some ⟨g1, 0, none⟩)), (224, .bool j115)] ∧ St w0 [] wb [bx g1 92 [.int .i64 x0.gen, .int .i64 x0.kind, .int .i64 x0.box, .int .i64 x0.res, .int .i64 x0.til, .int .i64 x0.pages, .int .i64 x0.wait, .int .i64 x0.got, .int .i64 x0.ran, .bool x0.mark, .slice a0_10 x0.links.length c0_10, .slice a0_11 x0.data.length c0_11, .slice a0_12 x0.queue.length c0_12]]) ?_ ?_
      · have h := hj115
        refine go ?_
        rcases bcases (decide ((x0.queue.length : Int) > 2)) with hc117 | hc117
        · replace h := bcT h hc117
          refine go ?_
          cases oi h
          exact ⟨⟨rfl, rfl, trivial⟩, hS25.pick [0] rfl rfl⟩
        replace h := bcF h hc117
        refine go ?_
        rcases bcases (decide ((x0.queue.length : Int) > 0)) with hc118 | hc118
        · replace h := bcT h hc118
          refine go ?_
          cases oi h
          exact ⟨⟨rfl, rfl, trivial⟩, hS25.pick [0] rfl rfl⟩
        replace h := bcF h hc118
        refine go ?_
        cases oi h
        exact ⟨⟨rfl, rfl, trivial⟩, hS25.pick [0] rfl rfl⟩
      rintro e w119 ⟨hE, hS26⟩
      obtain ⟨e, rfl⟩ := hE.out
      have h := h116
      refine go ?_
      refine CW.cond rfl (fun hc120 => ?_) (fun hc120 => ?_)
      · replace h := bcT h hc120
        refine go ?_
        cases h
        exact And.intro trivial ⟨_, Res.one (resOne.t rfl), rfl, hS26.pick [] rfl rfl⟩
      replace h := bcF h hc120
      refine go ?_
      obtain ⟨o145, ho145, h146⟩ := obind h
      refine CW.mono (CW.iter (σ := Int) (ρ := Int ⊕ Bool) (fun s121 e wb => En e [(1, .pointer (some ⟨g1, 0, none⟩)), (5, .int .i64 s121)] ∧ St w0 [] wb [bx g1 92 [.int .i64 x0.gen, .int .i64 x0.kind, .int .i64 x0.box, .int .i64 x0.res, .int .i64 x0.til, .int .i64 x0.pages, .int .i64 x0.wait, .int .i64 x0.got, .int .i64 x0.ran, .bool x0.mark, .slice a0_10 x0.links.length c0_10, .slice a0_11 x0.data.length c0_11, .slice a0_12 x0.queue.length c0_12]]) (fun o x e wb => match o with | .inl s121 => x = .exit 4 ∧ En e [] ∧ St w0 [] wb [bx g1 92 [.int .i64 x0.gen, .int .i64 x0.kind, .int .i64 x0.box, .int .i64 x0.res, .int .i64 x0.til, .int .i64 x0.pages, .int .i64 x0.wait, .int .i64 x0.got, .int .i64 x0.ran, .bool x0.mark, .slice a0_10 x0.links.length c0_10, .slice a0_11 x0.data.length c0_11, .slice a0_12 x0.queue.length c0_12]] | .inr r => x = .ret ∧ ∃ u, u = r ∧ ∃ v, Res Tryz.prog Tryz.f193.results e wb v ∧ v = .bool u ∧ St w0 [] wb []) ?_ N 0 _ _ _ ⟨⟨rfl, rfl, trivial⟩, hS26.pick [0] rfl rfl⟩ ho145) ?_
      · intro s121 e w122 o hM h
        obtain ⟨hE, hS27⟩ := hM
        obtain ⟨e, rfl⟩ := hE.out
        refine go ?_
        refine CW.fl [1, 5, 229] fun e => ?_
        refine CW.cond rfl (fun hc123 => ?_) (fun hc123 => ?_)
        · replace h := bcT h hc123
          refine gs ?_
          refine CW.block ?_
          refine gs ?_
          obtain ⟨j124, hj124, h125⟩ := obind h
          refine CW.cut (fun e wb => En e [(1, .pointer (some ⟨g1, 0, none⟩)), (5, .int .i64 s121), (258, .bool j124)] ∧ St w0 [] wb [bx g1 92 [.int .i64 x0.gen, .int .i64 x0.kind, .int .i64 x0.box, .int .i64 x0.res, .int .i64 x0.til, .int .i64 x0.pages, .int .i64 x0.wait, .int .i64 x0.got, .int .i64 x0.ran, .bool x0.mark, .slice a0_10 x0.links.length c0_10, .slice a0_11 x0.data.length c0_11, .slice a0_12 x0.queue.length c0_12]]) ?_ ?_
          · have h := hj124
            refine go ?_
            replace ⟨y126, hy126, h⟩ := obind h
            obtain ⟨b129, o130, cs131, hae, hb134, hp127, hq128, hd132, hk133⟩ := hr0_12.idx hy126
            subst hae
            obtain rfl := hd132
            refine LW.u (Pur.ix Tryz.underlying90 sz194 rfl rfl hp127 hq128) rfl ?_
            refine go ?_
            refine LW.l (Ldr.old w0 ag3 rfl (hk133 0 _ rfl)) (hS27.same _ hb134.1 hb134.2) rfl ?_
            refine go ?_
            rcases bcases (y126.src != (-1)) with hc135 | hc135
            · replace h := bcT h hc135
              refine go ?_
              refine LW.u (Pur.ix Tryz.underlying90 sz194 rfl rfl hp127 hq128) rfl ?_
              refine go ?_
              refine LW.l (Ldr.old w0 ag3 rfl (hk133 0 _ rfl)) (hS27.same _ hb134.1 hb134.2) rfl ?_
              replace ⟨y136, hy136, h⟩ := obind h
              refine go ?_
              refine LW.c0 (W_s_l8Handle hy136) hS27 fun w137 hS28 => ?_
              refine go ?_
              rcases bcases (!y136) with hc138 | hc138
              · replace h := bcT h hc138
                refine go ?_
                cases oi h
                exact ⟨⟨rfl, rfl, rfl, trivial⟩, hS28.pick [0] rfl rfl⟩
              replace h := bcF h hc138
              refine go ?_
              refine LW.u (Pur.ix Tryz.underlying90 sz194 rfl rfl hp127 hq128) rfl ?_
              refine go ?_
              refine LW.fl [1, 5, 249, 254] fun e => ?_
              refine go ?_
              refine LW.l (Ldr.old w0 ag3 rfl (hk133 1 _ rfl)) (hS28.same _ hb134.1 hb134.2) rfl ?_
              replace ⟨y139, hy139, h⟩ := obind h
              refine go ?_
              refine LW.c0 (W_s_l1In hy139) hS28 fun w140 hS29 => ?_
              refine go ?_
              cases oi h
              exact ⟨⟨rfl, rfl, rfl, trivial⟩, hS29.pick [0] rfl rfl⟩
            replace h := bcF h hc135
            refine go ?_
            refine LW.u (Pur.ix Tryz.underlying90 sz194 rfl rfl hp127 hq128) rfl ?_
            refine go ?_
            refine LW.fl [1, 5, 249, 254] fun e => ?_
            refine go ?_
            refine LW.l (Ldr.old w0 ag3 rfl (hk133 1 _ rfl)) (hS27.same _ hb134.1 hb134.2) rfl ?_
            replace ⟨y141, hy141, h⟩ := obind h
            refine go ?_
            refine LW.c0 (W_s_l1In hy141) hS27 fun w142 hS30 => ?_
            refine go ?_
            cases oi h
            exact ⟨⟨rfl, rfl, rfl, trivial⟩, hS30.pick [0] rfl rfl⟩
          rintro e w143 ⟨hE, hS31⟩
          obtain ⟨e, rfl⟩ := hE.out
          have h := h125
          refine go ?_
          refine CW.cond rfl (fun hc144 => ?_) (fun hc144 => ?_)
          · replace h := bcT h hc144
            refine go ?_
            cases oi h
            exact ⟨trivial, rfl, _, rfl, ⟨_, Res.one (resOne.t rfl), rfl, hS31.pick [] rfl rfl⟩⟩
          replace h := bcF h hc144
          refine go ?_
          cases oi h
          exact ⟨rfl, ⟨⟨rfl, rfl, trivial⟩, hS31.pick [0] rfl rfl⟩⟩
        replace h := bcF h hc123
        refine go ?_
        cases oi h
        exact ⟨trivial, rfl, ⟨trivial, hS27.pick [0] rfl rfl⟩⟩
      intro x e w147 hM
      rcases o145 with o145 | r148
      · obtain ⟨rfl, hM⟩ := hM
        obtain ⟨hE, hS32⟩ := hM
        obtain ⟨e, rfl⟩ := hE.out; rw [show e = upds e [] from rfl]
        have h := h146
        refine go ?_
        cases h
        exact And.intro trivial ⟨_, Res.one (resOne.t rfl), rfl, hS32.pick [] rfl rfl⟩
      obtain ⟨rfl, u, rfl, hM⟩ := hM
      cases h146
      exact And.intro trivial hM
    obtain ⟨rfl, u, rfl, hM⟩ := hM
    cases h113
    exact And.intro trivial hM
  obtain ⟨rfl, u, rfl, hM⟩ := hM
  cases h58
  exact And.intro trivial hM

theorem W_s_TapOk {w0 : World} {N : Nat} {x0 : DTap} {r : Bool} (h : F_s_TapOk N x0 = some r) :
    Ret Tryz.prog 130 #[.agg #[.int .i64 x0.res, .int .i64 x0.toPart, .int .i64 x0.toRes, .int .i64 x0.which, .int .i64 x0.kind, .int .i64 x0.rate]] w0 (fun v w => v = .bool r ∧ St w0 [] w []) := by
  unfold F_s_TapOk at h
  refine Ret.fn Tryz.func130 fun e => ?_
  have hS1 := St.start w0
  refine go ?_
  refine LW.bo hS1 fun g1 w2 hS2 => ?_
  refine gs ?_
  obtain ⟨j3, hj3, h4⟩ := obind h
  refine CW.cut (fun e wb => En e [(1, .pointer (some ⟨g1, 0, none⟩)), (24, .bool j3)] ∧ St w0 [] wb [bx g1 131 [.int .i64 x0.res, .int .i64 x0.toPart, .int .i64 x0.toRes, .int .i64 x0.which, .int .i64 x0.kind, .int .i64 x0.rate]]) ?_ ?_
  · have h := hj3
    refine go ?_
    replace ⟨y5, hy5, h⟩ := obind h
    refine LW.c0 (W_s_l6Res hy5) hS2 fun w6 hS3 => ?_
    refine go ?_
    rcases bcases (!y5) with hc7 | hc7
    · replace h := bcT h hc7
      refine go ?_
      cases oi h
      exact ⟨⟨rfl, rfl, trivial⟩, hS3.pick [0] rfl rfl⟩
    replace h := bcF h hc7
    refine go ?_
    replace ⟨y8, hy8, h⟩ := obind h
    refine go ?_
    refine LW.c0 (W_s_l1In hy8) hS3 fun w9 hS4 => ?_
    refine go ?_
    rcases bcases (!y8) with hc10 | hc10
    · replace h := bcT h hc10
      refine go ?_
      cases oi h
      exact ⟨⟨rfl, rfl, trivial⟩, hS4.pick [0] rfl rfl⟩
    replace h := bcF h hc10
    refine go ?_
    replace ⟨y11, hy11, h⟩ := obind h
    refine go ?_
    refine LW.c0 (W_s_l6Res hy11) hS4 fun w12 hS5 => ?_
    refine go ?_
    rcases bcases (!y11) with hc13 | hc13
    · replace h := bcT h hc13
      refine go ?_
      cases oi h
      exact ⟨⟨rfl, rfl, trivial⟩, hS5.pick [0] rfl rfl⟩
    replace h := bcF h hc13
    refine go ?_
    replace ⟨y14, hy14, h⟩ := obind h
    refine go ?_
    refine LW.c0 (W_s_l1In hy14) hS5 fun w15 hS6 => ?_
    refine go ?_
    cases oi h
    exact ⟨⟨rfl, rfl, trivial⟩, hS6.pick [0] rfl rfl⟩
  rintro e w16 ⟨hE, hS7⟩
  obtain ⟨e, rfl⟩ := hE.out
  have h := h4
  refine go ?_
  refine CW.cond rfl (fun hc17 => ?_) (fun hc17 => ?_)
  · replace h := bcT h hc17
    refine go ?_
    cases h
    exact And.intro trivial ⟨_, Res.one (resOne.t rfl), rfl, hS7.pick [] rfl rfl⟩
  replace h := bcF h hc17
  refine go ?_
  refine CW.cond rfl (fun hc18 => ?_) (fun hc18 => ?_)
  · replace h := bcT h hc18
    refine go ?_
    replace ⟨y19, hy19, h⟩ := obind h
    refine LW.c0 (W_s_l1In hy19) hS7 fun w20 hS8 => ?_
    refine go ?_
    cases h
    exact And.intro trivial ⟨_, Res.one (resOne.t rfl), rfl, hS8.pick [] rfl rfl⟩
  replace h := bcF h hc18
  refine go ?_
  refine CW.cond rfl (fun hc21 => ?_) (fun hc21 => ?_)
  · replace h := bcT h hc21
    refine go ?_
    replace ⟨y22, hy22, h⟩ := obind h
    refine LW.c0 (W_s_l1In hy22) hS7 fun w23 hS9 => ?_
    refine go ?_
    cases h
    exact And.intro trivial ⟨_, Res.one (resOne.t rfl), rfl, hS9.pick [] rfl rfl⟩
  replace h := bcF h hc21
  refine go ?_
  cases h
  exact And.intro trivial ⟨_, Res.one (resOne.t rfl), rfl, hS7.pick [] rfl rfl⟩

theorem W_i_TapOk {w0 : World} {N : Nat} {x0 : DTap} {r : Bool} (h : F_i_TapOk N x0 = some r) :
    Ret Tryz.prog 143 #[.agg #[.int .i64 x0.res, .int .i64 x0.toPart, .int .i64 x0.toRes, .int .i64 x0.which, .int .i64 x0.kind, .int .i64 x0.rate]] w0 (fun v w => v = .bool r ∧ St w0 [] w []) := by
  unfold F_i_TapOk at h
  refine Ret.fn Tryz.func143 fun e => ?_
  have hS1 := St.start w0
  refine go ?_
  refine LW.bo hS1 fun g1 w2 hS2 => ?_
  refine gs ?_
  obtain ⟨j3, hj3, h4⟩ := obind h
  refine CW.cut (fun e wb => En e [(1, .pointer (some ⟨g1, 0, none⟩)), (24, .bool j3)] ∧ St w0 [] wb [bx g1 131 [.int .i64 x0.res, .int .i64 x0.toPart, .int .i64 x0.toRes, .int .i64 x0.which, .int .i64 x0.kind, .int .i64 x0.rate]]) ?_ ?_
  · have h := hj3
    refine go ?_
    replace ⟨y5, hy5, h⟩ := obind h
    refine LW.c0 (W_i_isPlace hy5) hS2 fun w6 hS3 => ?_
    refine go ?_
    rcases bcases (!y5) with hc7 | hc7
    · replace h := bcT h hc7
      refine go ?_
      cases oi h
      exact ⟨⟨rfl, rfl, trivial⟩, hS3.pick [0] rfl rfl⟩
    replace h := bcF h hc7
    refine go ?_
    replace ⟨y8, hy8, h⟩ := obind h
    refine go ?_
    refine LW.c0 (W_i_isPlace hy8) hS3 fun w9 hS4 => ?_
    refine go ?_
    rcases bcases (!y8) with hc10 | hc10
    · replace h := bcT h hc10
      refine go ?_
      cases oi h
      exact ⟨⟨rfl, rfl, trivial⟩, hS4.pick [0] rfl rfl⟩
    replace h := bcF h hc10
    refine go ?_
    replace ⟨y11, hy11, h⟩ := obind h
    refine go ?_
    refine LW.c0 (W_i_isPart hy11) hS4 fun w12 hS5 => ?_
    refine go ?_
    rcases bcases (!y11) with hc13 | hc13
    · replace h := bcT h hc13
      refine go ?_
      cases oi h
      exact ⟨⟨rfl, rfl, trivial⟩, hS5.pick [0] rfl rfl⟩
    replace h := bcF h hc13
    refine go ?_
    replace ⟨y14, hy14, h⟩ := obind h
    refine go ?_
    refine LW.c0 (W_i_within hy14) hS5 fun w15 hS6 => ?_
    refine go ?_
    cases oi h
    exact ⟨⟨rfl, rfl, trivial⟩, hS6.pick [0] rfl rfl⟩
  rintro e w16 ⟨hE, hS7⟩
  obtain ⟨e, rfl⟩ := hE.out
  have h := h4
  refine go ?_
  refine CW.cond rfl (fun hc17 => ?_) (fun hc17 => ?_)
  · replace h := bcT h hc17
    refine go ?_
    cases h
    exact And.intro trivial ⟨_, Res.one (resOne.t rfl), rfl, hS7.pick [] rfl rfl⟩
  replace h := bcF h hc17
  refine go ?_
  rcases bcases (x0.kind == 1) with hc18 | hc18
  · replace h := bcT h hc18
    refine go ?_
    replace ⟨y19, hy19, h⟩ := obind h
    refine go ?_
    refine LW.c0 (W_i_within hy19) hS7 fun w20 hS8 => ?_
    refine go ?_
    rcases bcases y19 with hc21 | hc21
    · replace h := bcT h hc21
      refine go ?_
      cases h
      exact And.intro trivial ⟨_, Res.one (resOne.t rfl), rfl, hS8.pick [] rfl rfl⟩
    replace h := bcF h hc21
    refine go ?_
    rcases bcases (x0.kind == 2) with hc22 | hc22
    · replace h := bcT h hc22
      refine go ?_
      replace ⟨y23, hy23, h⟩ := obind h
      refine go ?_
      refine LW.c0 (W_i_within hy23) hS8 fun w24 hS9 => ?_
      refine go ?_
      cases h
      exact And.intro trivial ⟨_, Res.one (resOne.t rfl), rfl, hS9.pick [] rfl rfl⟩
    replace h := bcF h hc22
    refine go ?_
    cases h
    exact And.intro trivial ⟨_, Res.one (resOne.t rfl), rfl, hS8.pick [] rfl rfl⟩
  replace h := bcF h hc18
  refine go ?_
  rcases bcases (x0.kind == 2) with hc25 | hc25
  · replace h := bcT h hc25
    refine go ?_
    replace ⟨y26, hy26, h⟩ := obind h
    refine go ?_
    refine LW.c0 (W_i_within hy26) hS7 fun w27 hS10 => ?_
    refine go ?_
    cases h
    exact And.intro trivial ⟨_, Res.one (resOne.t rfl), rfl, hS10.pick [] rfl rfl⟩
  replace h := bcF h hc25
  refine go ?_
  cases h
  exact And.intro trivial ⟨_, Res.one (resOne.t rfl), rfl, hS7.pick [] rfl rfl⟩

theorem W_i_AmtOk {w0 : World} {N : Nat} {x0 : DAmt} {r : Bool} (h : F_i_AmtOk N x0 = some r) :
    Ret Tryz.prog 114 #[.agg #[.int .i64 x0.pages, .int .i64 x0.rent, .int .i64 x0.cpu]] w0 (fun v w => v = .bool r ∧ St w0 [] w []) := by
  unfold F_i_AmtOk at h
  refine Ret.fn Tryz.func114 fun e => ?_
  have hS1 := St.start w0
  refine go ?_
  refine LW.bo hS1 fun g1 w2 hS2 => ?_
  refine go ?_
  replace ⟨y3, hy3, h⟩ := obind h
  refine LW.c0 (W_i_isAmount hy3) hS2 fun w4 hS3 => ?_
  refine go ?_
  rcases bcases y3 with hc5 | hc5
  · replace h := bcT h hc5
    refine go ?_
    replace ⟨y6, hy6, h⟩ := obind h
    refine go ?_
    refine LW.c0 (W_i_isAmount hy6) hS3 fun w7 hS4 => ?_
    refine go ?_
    rcases bcases y6 with hc8 | hc8
    · replace h := bcT h hc8
      refine go ?_
      replace ⟨y9, hy9, h⟩ := obind h
      refine go ?_
      refine LW.c0 (W_i_isAmount hy9) hS4 fun w10 hS5 => ?_
      refine go ?_
      cases h
      exact And.intro trivial ⟨_, Res.one (resOne.t rfl), rfl, hS5.pick [] rfl rfl⟩
    replace h := bcF h hc8
    refine go ?_
    cases h
    exact And.intro trivial ⟨_, Res.one (resOne.t rfl), rfl, hS4.pick [] rfl rfl⟩
  replace h := bcF h hc5
  refine go ?_
  cases h
  exact And.intro trivial ⟨_, Res.one (resOne.t rfl), rfl, hS3.pick [] rfl rfl⟩

theorem W_i_isLive {w0 : World} {N : Nat} {x0 : List DRes} {x1 : Int} {r : Bool} (h : F_i_isLive N x0 x1 = some r) {a0_0 : Option Addr} {n0_0 c0_0 : Nat} (hn0_0 : n0_0 = x0.length) (hr0_0 : rdS (Bor w0 []) w0 a0_0 c0_0 x0) :
    Ret Tryz.prog 163 #[.slice a0_0 n0_0 c0_0, .int .i64 x1] w0 (fun v w => v = .bool r ∧ St w0 [] w []) := by
  subst hn0_0
  unfold F_i_isLive at h
  refine Ret.fn Tryz.func163 fun e => ?_
  have hS1 := St.start w0
  refine go ?_
  replace ⟨y1, hy1, h⟩ := obind h
  refine LW.c0 (W_i_isPlace hy1) hS1 fun w2 hS2 => ?_
  refine go ?_
  rcases bcases y1 with hc3 | hc3
  · replace h := bcT h hc3
    refine go ?_
    replace ⟨y4, hy4, h⟩ := obind h
    obtain ⟨b7, o8, cs9, hae, hb12, hp5, hq6, hd10, hk11⟩ := hr0_0.idx hy4
    subst hae
    obtain rfl := hd10
    refine go ?_
    refine LW.u (Pur.ix Tryz.underlying58 sz152 rfl rfl hp5 hq6) rfl ?_
    refine go ?_
    refine LW.l (Ldr.old w0 ag4 rfl (hk11 0 _ rfl)) (hS2.same _ hb12.1 hb12.2) rfl ?_
    refine go ?_
    cases h
    exact And.intro trivial ⟨_, Res.one (resOne.t rfl), rfl, hS2.pick [] rfl rfl⟩
  replace h := bcF h hc3
  refine go ?_
  cases h
  exact And.intro trivial ⟨_, Res.one (resOne.t rfl), rfl, hS2.pick [] rfl rfl⟩

theorem W_i_listsOk {w0 : World} {N : Nat} {x0 : DObj} {r : Bool} (h : F_i_listsOk N x0 = some r) {a0_10 : Option Addr} {n0_10 c0_10 : Nat} (hn0_10 : n0_10 = x0.links.length) (hr0_10 : rdS (Bor w0 []) w0 a0_10 c0_10 x0.links) {a0_11 : Option Addr} {n0_11 c0_11 : Nat} (hn0_11 : n0_11 = x0.data.length) (hr0_11 : rdS (Bor w0 []) w0 a0_11 c0_11 x0.data) {a0_12 : Option Addr} {n0_12 c0_12 : Nat} (hn0_12 : n0_12 = x0.queue.length) (hr0_12 : rdS (Bor w0 []) w0 a0_12 c0_12 x0.queue) :
    Ret Tryz.prog 217 #[.agg #[.int .i64 x0.gen, .int .i64 x0.kind, .int .i64 x0.box, .int .i64 x0.res, .int .i64 x0.til, .int .i64 x0.pages, .int .i64 x0.wait, .int .i64 x0.got, .int .i64 x0.ran, .bool x0.mark, .slice a0_10 n0_10 c0_10, .slice a0_11 n0_11 c0_11, .slice a0_12 n0_12 c0_12]] w0 (fun v w => v = .bool r ∧ St w0 [] w []) := by
  subst hn0_10 hn0_11 hn0_12
  unfold F_i_listsOk at h
  refine Ret.fn Tryz.func217 fun e => ?_
  have hS1 := St.start w0
  refine go ?_
  refine LW.bo hS1 fun g1 w2 hS2 => ?_
  refine go ?_
  obtain ⟨o18, ho18, h19⟩ := obind h
  refine CW.mono (CW.iter (σ := Int) (ρ := Int ⊕ Bool) (fun s3 e wb => En e [(1, .pointer (some ⟨g1, 0, none⟩)), (12, .slice a0_10 x0.links.length c0_10), (13, .int .i64 (x0.links.length : Int)), (14, .int .i64 s3)] ∧ St w0 [] wb [bx g1 92 [.int .i64 x0.gen, .int .i64 x0.kind, .int .i64 x0.box, .int .i64 x0.res, .int .i64 x0.til, .int .i64 x0.pages, .int .i64 x0.wait, .int .i64 x0.got, .int .i64 x0.ran, .bool x0.mark, .slice a0_10 x0.links.length c0_10, .slice a0_11 x0.data.length c0_11, .slice a0_12 x0.queue.length c0_12]]) (fun o x e wb => match o with | .inl s3 => x = .exit 0 ∧ En e [(1, .pointer (some ⟨g1, 0, none⟩))] ∧ St w0 [] wb [bx g1 92 [.int .i64 x0.gen, .int .i64 x0.kind, .int .i64 x0.box, .int .i64 x0.res, .int .i64 x0.til, .int .i64 x0.pages, .int .i64 x0.wait, .int .i64 x0.got, .int .i64 x0.ran, .bool x0.mark, .slice a0_10 x0.links.length c0_10, .slice a0_11 x0.data.length c0_11, .slice a0_12 x0.queue.length c0_12]] | .inr r => x = .ret ∧ ∃ u, u = r ∧ ∃ v, Res Tryz.prog Tryz.f217.results e wb v ∧ v = .bool u ∧ St w0 [] wb []) ?_ N 0 _ _ _ ⟨⟨rfl, rfl, rfl, rfl, trivial⟩, hS2.pick [0] rfl rfl⟩ ho18) ?_
  · intro s3 e w4 o hM h
    obtain ⟨hE, hS3⟩ := hM
    obtain ⟨e, rfl⟩ := hE.out
    refine go ?_
    refine CW.cond rfl (fun hc5 => ?_) (fun hc5 => ?_)
    · replace h := bcT h hc5
      refine go ?_
      replace ⟨y6, hy6, h⟩ := obind h
      obtain ⟨b9, o10, cs11, hae, hb14, hp7, hq8, hd12, hk13⟩ := hr0_10.idx hy6
      subst hae
      obtain rfl := hd12
      refine LW.u (Pur.ix Tryz.underlying28 sz3 rfl rfl hp7 hq8) rfl ?_
      refine LW.l (Ldr.old w0 ag3 rfl (hk13 0 _ rfl)) (hS3.same _ hb14.1 hb14.2) rfl ?_
      refine go ?_
      replace ⟨y15, hy15, h⟩ := obind h
      refine LW.c0 (W_i_within hy15) hS3 fun w16 hS4 => ?_
      refine go ?_
      refine CW.fl [1, 12, 13, 14, 20] fun e => ?_
      refine CW.cond rfl (fun hc17 => ?_) (fun hc17 => ?_)
      · replace h := bcT h hc17
        refine go ?_
        cases oi h
        exact ⟨trivial, rfl, _, rfl, ⟨_, Res.one (resOne.t rfl), rfl, hS4.pick [] rfl rfl⟩⟩
      replace h := bcF h hc17
      refine go ?_
      cases oi h
      exact ⟨rfl, ⟨⟨rfl, rfl, rfl, rfl, trivial⟩, hS4.pick [0] rfl rfl⟩⟩
    replace h := bcF h hc5
    refine go ?_
    cases oi h
    exact ⟨trivial, rfl, ⟨⟨rfl, trivial⟩, hS3.pick [0] rfl rfl⟩⟩
  intro x e w20 hM
  rcases o18 with o18 | r81
  · obtain ⟨rfl, hM⟩ := hM
    obtain ⟨hE, hS5⟩ := hM
    obtain ⟨e, rfl⟩ := hE.out
    have h := h19
    refine go ?_
    obtain ⟨o36, ho36, h37⟩ := obind h
    refine CW.mono (CW.iter (σ := Int) (ρ := Int ⊕ Bool) (fun s21 e wb => En e [(1, .pointer (some ⟨g1, 0, none⟩)), (23, .slice a0_11 x0.data.length c0_11), (24, .int .i64 (x0.data.length : Int)), (25, .int .i64 s21)] ∧ St w0 [] wb [bx g1 92 [.int .i64 x0.gen, .int .i64 x0.kind, .int .i64 x0.box, .int .i64 x0.res, .int .i64 x0.til, .int .i64 x0.pages, .int .i64 x0.wait, .int .i64 x0.got, .int .i64 x0.ran, .bool x0.mark, .slice a0_10 x0.links.length c0_10, .slice a0_11 x0.data.length c0_11, .slice a0_12 x0.queue.length c0_12]]) (fun o x e wb => match o with | .inl s21 => x = .exit 2 ∧ En e [(1, .pointer (some ⟨g1, 0, none⟩))] ∧ St w0 [] wb [bx g1 92 [.int .i64 x0.gen, .int .i64 x0.kind, .int .i64 x0.box, .int .i64 x0.res, .int .i64 x0.til, .int .i64 x0.pages, .int .i64 x0.wait, .int .i64 x0.got, .int .i64 x0.ran, .bool x0.mark, .slice a0_10 x0.links.length c0_10, .slice a0_11 x0.data.length c0_11, .slice a0_12 x0.queue.length c0_12]] | .inr r => x = .ret ∧ ∃ u, u = r ∧ ∃ v, Res Tryz.prog Tryz.f217.results e wb v ∧ v = .bool u ∧ St w0 [] wb []) ?_ N 0 _ _ _ ⟨⟨rfl, rfl, rfl, rfl, trivial⟩, hS5.pick [0] rfl rfl⟩ ho36) ?_
    · intro s21 e w22 o hM h
      obtain ⟨hE, hS6⟩ := hM
      obtain ⟨e, rfl⟩ := hE.out
      refine go ?_
      refine CW.cond rfl (fun hc23 => ?_) (fun hc23 => ?_)
      · replace h := bcT h hc23
        refine go ?_
        replace ⟨y24, hy24, h⟩ := obind h
        obtain ⟨b27, o28, cs29, hae, hb32, hp25, hq26, hd30, hk31⟩ := hr0_11.idx hy24
        subst hae
        obtain rfl := hd30
        refine LW.u (Pur.ix Tryz.underlying28 sz3 rfl rfl hp25 hq26) rfl ?_
        refine LW.l (Ldr.old w0 ag3 rfl (hk31 0 _ rfl)) (hS6.same _ hb32.1 hb32.2) rfl ?_
        refine go ?_
        replace ⟨y33, hy33, h⟩ := obind h
        refine LW.c0 (W_i_within hy33) hS6 fun w34 hS7 => ?_
        refine go ?_
        refine CW.fl [1, 23, 24, 25, 31] fun e => ?_
        refine CW.cond rfl (fun hc35 => ?_) (fun hc35 => ?_)
        · replace h := bcT h hc35
          refine go ?_
          cases oi h
          exact ⟨trivial, rfl, _, rfl, ⟨_, Res.one (resOne.t rfl), rfl, hS7.pick [] rfl rfl⟩⟩
        replace h := bcF h hc35
        refine go ?_
        cases oi h
        exact ⟨rfl, ⟨⟨rfl, rfl, rfl, rfl, trivial⟩, hS7.pick [0] rfl rfl⟩⟩
      replace h := bcF h hc23
      refine go ?_
      cases oi h
      exact ⟨trivial, rfl, ⟨⟨rfl, trivial⟩, hS6.pick [0] rfl rfl⟩⟩
    intro x e w38 hM
    rcases o36 with o36 | r80
    · obtain ⟨rfl, hM⟩ := hM
      obtain ⟨hE, hS8⟩ := hM
      obtain ⟨e, rfl⟩ := hE.out
      have h := h37
      refine go ?_
      obtain ⟨o66, ho66, h67⟩ := obind h
      refine CW.mono (CW.iter (σ := Int) (ρ := Int ⊕ Bool) (fun s39 e wb => En e [(1, .pointer (some ⟨g1, 0, none⟩)), (34, .slice a0_12 x0.queue.length c0_12), (35, .int .i64 (x0.queue.length : Int)), (36, .int .i64 s39)] ∧ St w0 [] wb [bx g1 92 [.int .i64 x0.gen, .int .i64 x0.kind, .int .i64 x0.box, .int .i64 x0.res, .int .i64 x0.til, .int .i64 x0.pages, .int .i64 x0.wait, .int .i64 x0.got, .int .i64 x0.ran, .bool x0.mark, .slice a0_10 x0.links.length c0_10, .slice a0_11 x0.data.length c0_11, .slice a0_12 x0.queue.length c0_12]]) (fun o x e wb => match o with | .inl s39 => x = .exit 4 ∧ En e [(1, .pointer (some ⟨g1, 0, none⟩))] ∧ St w0 [] wb [bx g1 92 [.int .i64 x0.gen, .int .i64 x0.kind, .int .i64 x0.box, .int .i64 x0.res, .int .i64 x0.til, .int .i64 x0.pages, .int .i64 x0.wait, .int .i64 x0.got, .int .i64 x0.ran, .bool x0.mark, .slice a0_10 x0.links.length c0_10, .slice a0_11 x0.data.length c0_11, .slice a0_12 x0.queue.length c0_12]] | .inr r => x = .ret ∧ ∃ u, u = r ∧ ∃ v, Res Tryz.prog Tryz.f217.results e wb v ∧ v = .bool u ∧ St w0 [] wb []) ?_ N 0 _ _ _ ⟨⟨rfl, rfl, rfl, rfl, trivial⟩, hS8.pick [0] rfl rfl⟩ ho66) ?_
      · intro s39 e w40 o hM h
        obtain ⟨hE, hS9⟩ := hM
        obtain ⟨e, rfl⟩ := hE.out
        refine go ?_
        refine CW.fl [1, 34, 35, 36, 37] fun e => ?_
        refine CW.cond rfl (fun hc41 => ?_) (fun hc41 => ?_)
        · replace h := bcT h hc41
          refine go ?_
          replace ⟨y42, hy42, h⟩ := obind h
          obtain ⟨b45, o46, cs47, hae, hb50, hp43, hq44, hd48, hk49⟩ := hr0_12.idx hy42
          subst hae
          obtain rfl := hd48
          refine LW.u (Pur.ix Tryz.underlying90 sz194 rfl rfl hp43 hq44) rfl ?_
          refine LW.l (Ldr.oldN w0 ag194 rfl rfl (fun j u hu => hk49 j u hu)) (hS9.same _ hb50.1 hb50.2) rfl ?_
          refine LW.al hS9 fun g51 w52 hS10 => ?_
          refine LW.st hS10 0 fun w53 hS11 => ?_
          refine gs ?_
          obtain ⟨j54, hj54, h55⟩ := obind h
          refine CW.cut (fun e wb => En e [(1, .pointer (some ⟨g1, 0, none⟩)), (34, .slice (some ⟨b45, o46, none⟩) x0.queue.length c0_12), (35, .int .i64 (x0.queue.length : Int)), (36, .int .i64 s39), (54, .bool j54)] ∧ St w0 [] wb [bx g1 92 [.int .i64 x0.gen, .int .i64 x0.kind, .int .i64 x0.box, .int .i64 x0.res, .int .i64 x0.til, .int .i64 x0.pages, .int .i64 x0.wait, .int .i64 x0.got, .int .i64 x0.ran, .bool x0.mark, .slice a0_10 x0.links.length c0_10, .slice a0_11 x0.data.length c0_11, .slice (some ⟨b45, o46, none⟩) x0.queue.length c0_12]]) ?_ ?_
          · have h := hj54
            refine go ?_
            rcases bcases (y42.src != (-1)) with hc56 | hc56
            · replace h := bcT h hc56
              refine go ?_
              replace ⟨y57, hy57, h⟩ := obind h
              refine go ?_
              refine LW.c0 (W_i_isHandle hy57) hS11 fun w58 hS12 => ?_
              refine go ?_
              rcases bcases (!y57) with hc59 | hc59
              · replace h := bcT h hc59
                refine go ?_
                cases oi h
                exact ⟨⟨rfl, rfl, rfl, rfl, rfl, trivial⟩, hS12.pick [1] rfl rfl⟩
              replace h := bcF h hc59
              refine go ?_
              replace ⟨y60, hy60, h⟩ := obind h
              refine go ?_
              refine LW.c0 (W_i_within hy60) hS12 fun w61 hS13 => ?_
              refine go ?_
              cases oi h
              exact ⟨⟨rfl, rfl, rfl, rfl, rfl, trivial⟩, hS13.pick [1] rfl rfl⟩
            replace h := bcF h hc56
            refine go ?_
            replace ⟨y62, hy62, h⟩ := obind h
            refine go ?_
            refine LW.c0 (W_i_within hy62) hS11 fun w63 hS14 => ?_
            refine go ?_
            cases oi h
            exact ⟨⟨rfl, rfl, rfl, rfl, rfl, trivial⟩, hS14.pick [1] rfl rfl⟩
          rintro e w64 ⟨hE, hS15⟩
          obtain ⟨e, rfl⟩ := hE.out
          have h := h55
          refine go ?_
          refine CW.cond rfl (fun hc65 => ?_) (fun hc65 => ?_)
          · replace h := bcT h hc65
            refine go ?_
            cases oi h
            exact ⟨trivial, rfl, _, rfl, ⟨_, Res.one (resOne.t rfl), rfl, hS15.pick [] rfl rfl⟩⟩
          replace h := bcF h hc65
          refine go ?_
          cases oi h
          exact ⟨rfl, ⟨⟨rfl, rfl, rfl, rfl, trivial⟩, hS15.pick [0] rfl rfl⟩⟩
        replace h := bcF h hc41
        refine go ?_
        cases oi h
        exact ⟨trivial, rfl, ⟨⟨rfl, trivial⟩, hS9.pick [0] rfl rfl⟩⟩
      intro x e w68 hM
      rcases o66 with o66 | r79
      · obtain ⟨rfl, hM⟩ := hM
        obtain ⟨hE, hS16⟩ := hM
        obtain ⟨e, rfl⟩ := hE.out
        have h := h67
        refine gs ?_
        refine CW.region ?_
        refine gs ?_
        refine CW.region ?_
        refine gs ?_
        obtain ⟨j69, hj69, h70⟩ := obind h
        refine CW.cut (fun e wb => En e [(1, .pointer (some ⟨g1, 0, none⟩)), (9, .int .i64 j69), (10, .int .i64 0)] ∧ St w0 [] wb [bx g1 92 [.int .i64 x0.gen, .int .i64 x0.kind, .int .i64 x0.box, .int .i64 x0.res, .int .i64 x0.til, .int .i64 x0.pages, .int .i64 x0.wait, .int .i64 x0.got, .int .i64 x0.ran, .bool x0.mark, .slice a0_10 x0.links.length c0_10, .slice a0_11 x0.data.length c0_11, .slice a0_12 x0.queue.length c0_12]]) ?_ ?_
        · have h := hj69
          refine CW.fl [1, 9, 10, 58] fun e => ?_
          refine CW.cond rfl (fun hc71 => ?_) (fun hc71 => ?_)
          · replace h := bcT h hc71
            refine go ?_
            cases oi h
            exact ⟨⟨rfl, rfl, rfl, trivial⟩, hS16.pick [0] rfl rfl⟩
          replace h := bcF h hc71
          refine go ?_
          cases oi h
          exact ⟨⟨rfl, rfl, rfl, trivial⟩, hS16.pick [0] rfl rfl⟩
        rintro e w72 ⟨hE, hS17⟩
        obtain ⟨e, rfl⟩ := hE.out
        have h := h70
        refine gs ?_
        refine CW.region ?_
        refine gs ?_
        obtain ⟨j73, hj73, h74⟩ := obind h
        refine CW.cut (fun e wb => En e [(1, .pointer (some ⟨g1, 0, none⟩)), (9, .int .i64 j69), (10, .int .i64 j73)] ∧ St w0 [] wb [bx g1 92 [.int .i64 x0.gen, .int .i64 x0.kind, .int .i64 x0.box, .int .i64 x0.res, .int .i64 x0.til, .int .i64 x0.pages, .int .i64 x0.wait, .int .i64 x0.got, .int .i64 x0.ran, .bool x0.mark, .slice a0_10 x0.links.length c0_10, .slice a0_11 x0.data.length c0_11, .slice a0_12 x0.queue.length c0_12]]) ?_ ?_
        · have h := hj73
          refine CW.fl [1, 9, 10, 63] fun e => ?_
          refine CW.cond rfl (fun hc75 => ?_) (fun hc75 => ?_)
          · replace h := bcT h hc75
            refine go ?_
            cases oi h
            exact ⟨⟨rfl, rfl, rfl, trivial⟩, hS17.pick [0] rfl rfl⟩
          replace h := bcF h hc75
          refine go ?_
          cases oi h
          exact ⟨⟨rfl, rfl, rfl, trivial⟩, hS17.pick [0] rfl rfl⟩
        rintro e w76 ⟨hE, hS18⟩
        obtain ⟨e, rfl⟩ := hE.out
        have h := h74
        refine go ?_
        refine LW.fl [1, 9, 10, 68] fun e => ?_
        rcases bcases ((x0.links.length : Int) == 2) with hc77 | hc77
        · replace h := bcT h hc77
          refine go ?_
          rcases bcases ((x0.data.length : Int) == j69) with hc78 | hc78
          · replace h := bcT h hc78
            refine go ?_
            cases h
            exact And.intro trivial ⟨_, Res.one (resOne.t rfl), rfl, hS18.pick [] rfl rfl⟩
          replace h := bcF h hc78
          refine go ?_
          cases h
          exact And.intro trivial ⟨_, Res.one (resOne.t rfl), rfl, hS18.pick [] rfl rfl⟩
        replace h := bcF h hc77
        refine go ?_
        cases h
        exact And.intro trivial ⟨_, Res.one (resOne.t rfl), rfl, hS18.pick [] rfl rfl⟩
      obtain ⟨rfl, u, rfl, hM⟩ := hM
      cases h67
      exact And.intro trivial hM
    obtain ⟨rfl, u, rfl, hM⟩ := hM
    cases h37
    exact And.intro trivial hM
  obtain ⟨rfl, u, rfl, hM⟩ := hM
  cases h19
  exact And.intro trivial hM

theorem W_l_eqResS {w0 : World} {N : Nat} {x0 : List DRes} {x1 : List DRes} {r : Bool} (h : F_l_eqResS N x0 x1 = some r) {a0_0 : Option Addr} {n0_0 c0_0 : Nat} (hn0_0 : n0_0 = x0.length) (hr0_0 : rdS (Bor w0 []) w0 a0_0 c0_0 x0) {a1_0 : Option Addr} {n1_0 c1_0 : Nat} (hn1_0 : n1_0 = x1.length) (hr1_0 : rdS (Bor w0 []) w0 a1_0 c1_0 x1) :
    Ret Tryz.prog 73 #[.slice a0_0 n0_0 c0_0, .slice a1_0 n1_0 c1_0] w0 (fun v w => v = .bool r ∧ St w0 [] w []) := by
  subst hn0_0 hn1_0
  unfold F_l_eqResS at h
  refine Ret.fn Tryz.func73 fun e => ?_
  have hS1 := St.start w0
  refine go ?_
  refine CW.cond rfl (fun hc1 => ?_) (fun hc1 => ?_)
  · replace h := bcT h hc1
    refine go ?_
    cases h
    exact And.intro trivial ⟨_, Res.one (resOne.t rfl), rfl, hS1.pick [] rfl rfl⟩
  replace h := bcF h hc1
  refine go ?_
  obtain ⟨o26, ho26, h27⟩ := obind h
  refine CW.mono (CW.iter (σ := Int) (ρ := Int ⊕ Bool) (fun s2 e wb => En e [(0, .slice a0_0 x0.length c0_0), (1, .slice a1_0 x1.length c1_0), (5, .int .i64 s2)] ∧ St w0 [] wb []) (fun o x e wb => match o with | .inl s2 => x = .exit 0 ∧ En e [] ∧ St w0 [] wb [] | .inr r => x = .ret ∧ ∃ u, u = r ∧ ∃ v, Res Tryz.prog Tryz.f73.results e wb v ∧ v = .bool u ∧ St w0 [] wb []) ?_ N 0 _ _ _ ⟨⟨rfl, rfl, rfl, trivial⟩, hS1.pick [] rfl rfl⟩ ho26) ?_
  · intro s2 e w3 o hM h
    obtain ⟨hE, hS2⟩ := hM
    obtain ⟨e, rfl⟩ := hE.out
    refine go ?_
    refine CW.cond rfl (fun hc4 => ?_) (fun hc4 => ?_)
    · replace h := bcT h hc4
      refine go ?_
      refine CW.draw (by kernel_rfl) ?_
      have hS3 := hS2.drew
      refine AW.u (i := 0) rfl (by kernel_rfl) rfl rfl (Pur.p rfl) ?_
      refine AW.u (i := 1) rfl (by kernel_rfl) rfl rfl (Pur.p rfl) ?_
      replace ⟨y5, hy5, h⟩ := obind h
      obtain ⟨b8, o9, cs10, hae, hb13, hp6, hq7, hd11, hk12⟩ := hr0_0.idx hy5
      subst hae
      obtain rfl := hd11
      refine AW.u (i := 2) rfl (by kernel_rfl) rfl rfl (Pur.ix Tryz.underlying58 sz152 rfl rfl hp6 hq7) ?_
      refine AW.take (i := 3) rfl (by kernel_rfl) rfl rfl (Ldr.oldN w0 ag152 rfl rfl (fun j u hu => hk12 j u hu)) (hS3.same _ hb13.1 hb13.2) ?_
      refine AW.u (i := 4) rfl (by kernel_rfl) rfl rfl (Pur.p rfl) ?_
      refine AW.u (i := 5) rfl (by kernel_rfl) rfl rfl (Pur.p rfl) ?_
      replace ⟨y14, hy14, h⟩ := obind h
      obtain ⟨b17, o18, cs19, hae, hb22, hp15, hq16, hd20, hk21⟩ := hr1_0.idx hy14
      subst hae
      obtain rfl := hd20
      refine AW.u (i := 6) rfl (by kernel_rfl) rfl rfl (Pur.ix Tryz.underlying58 sz152 rfl rfl hp15 hq16) ?_
      refine AW.take (i := 7) rfl (by kernel_rfl) rfl rfl (Ldr.oldN w0 ag152 rfl rfl (fun j u hu => hk21 j u hu)) (hS3.same _ hb22.1 hb22.2) ?_
      replace ⟨y23, hy23, h⟩ := obind h
      have q := W_l_eqRes (w0 := w3.drew) hy23
      refine AW.one (i := 8) (by kernel_rfl) ?_
      refine ⟨_, rfl, ?_⟩
      refine LW.call pl151 rfl rfl ?_
      refine Ret.mono q ?_
      rintro _ w24 ⟨rfl, hs⟩
      have hS4 := hS3.add hs
      refine LW.nil ⟨rfl, (.w (by kernel_rfl) (.w (by kernel_rfl) Kept.n)), ?_⟩
      refine AW.u (i := 9) rfl (by kernel_rfl) rfl rfl (Pur.p rfl) ?_
      refine AW.done (by kernel_rfl) ?_
      refine go ?_
      refine CW.cond rfl (fun hc25 => ?_) (fun hc25 => ?_)
      · replace h := bcT h hc25
        refine go ?_
        cases oi h
        exact ⟨trivial, rfl, _, rfl, ⟨_, Res.one (resOne.t rfl), rfl, hS4.pick [] rfl rfl⟩⟩
      replace h := bcF h hc25
      refine go ?_
      cases oi h
      exact ⟨rfl, ⟨⟨rfl, rfl, rfl, trivial⟩, hS4.pick [] rfl rfl⟩⟩
    replace h := bcF h hc4
    refine go ?_
    cases oi h
    exact ⟨trivial, rfl, ⟨trivial, hS2.pick [] rfl rfl⟩⟩
  intro x e w28 hM
  rcases o26 with o26 | r29
  · obtain ⟨rfl, hM⟩ := hM
    obtain ⟨hE, hS5⟩ := hM
    obtain ⟨e, rfl⟩ := hE.out; rw [show e = upds e [] from rfl]
    have h := h27
    refine go ?_
    cases h
    exact And.intro trivial ⟨_, Res.one (resOne.t rfl), rfl, hS5.pick [] rfl rfl⟩
  obtain ⟨rfl, u, rfl, hM⟩ := hM
  cases h27
  exact And.intro trivial hM

end Go.Kx
