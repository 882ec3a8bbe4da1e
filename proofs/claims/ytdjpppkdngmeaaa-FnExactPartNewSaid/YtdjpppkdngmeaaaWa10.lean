/- Each call returns what the plain function says. Printed by drive.py. -/
import Derived.Test.YtdjpppkdngmeaaaFa
import Derived.Test.YtdjpppkdngmeaaaPu
namespace Go.Kx
open Go Go.RowKit Go.Proofs
set_option maxRecDepth 10000
set_option maxHeartbeats 2000000
set_option linter.unusedVariables false
set_option linter.unusedSimpArgs false
theorem W_z_Equal_int {w0 : World} {N : Nat} {x0 : List Int} {x1 : List Int} {r : Bool} (h : F_z_Equal_int N x0 x1 = some r) {a0_0 : Option Addr} {n0_0 c0_0 : Nat} (hn0_0 : n0_0 = x0.length) (hr0_0 : rdS (Bor w0 []) w0 a0_0 c0_0 x0) {a1_0 : Option Addr} {n1_0 c1_0 : Nat} (hn1_0 : n1_0 = x1.length) (hr1_0 : rdS (Bor w0 []) w0 a1_0 c1_0 x1) :
    Ret Try.prog 127 #[.slice a0_0 n0_0 c0_0, .slice a1_0 n1_0 c1_0] w0 (fun v w => v = .bool r ∧ St w0 [] w []) := by
  subst hn0_0
  subst hn1_0
  unfold F_z_Equal_int at h
  refine Ret.of Try.func127 rfl rfl rfl ?_
  have hS1 := St.start w0
  refine CW.seq ?_
  refine CW.region ?_
  refine LW.p rfl rfl ?_
  refine LW.nil ?_
  show CW _ _ _ _ _ _
  refine CW.seq ?_
  refine CW.seq ?_
  refine CW.region ?_
  refine LW.p rfl rfl ?_
  refine LW.u (Pur.len Try.underlying24 rfl) rfl ?_
  refine LW.p rfl rfl ?_
  refine LW.u (Pur.len Try.underlying24 rfl) rfl ?_
  refine LW.p rfl rfl ?_
  refine LW.nil ?_
  show CW _ _ _ _ _ _
  refine CW.cond rfl (fun hc1 => ?_) (fun hc1 => ?_)
  · replace h := bcT h hc1
    refine CW.seq ?_
    refine CW.region ?_
    refine LW.p rfl rfl ?_
    refine LW.nil ?_
    show CW _ _ _ _ _ _
    refine CW.ret ?_
    cases h
    exact And.intro trivial ⟨_, Res.one (resOne.t rfl), rfl, hS1.pick [] rfl rfl⟩
  replace h := bcF h hc1
  refine CW.skip ?_
  show CW _ _ _ _ _ _
  refine CW.seq ?_
  refine CW.seq ?_
  refine CW.region ?_
  refine LW.p rfl rfl ?_
  refine LW.u (Pur.len Try.underlying24 rfl) rfl ?_
  refine LW.p rfl rfl ?_
  refine LW.nil ?_
  show CW _ _ _ _ _ _
  refine CW.block ?_
  obtain ⟨o24, ho24, h25⟩ := obind h
  refine CW.mono (CW.iter (σ := Int) (ρ := Int ⊕ Bool) (fun s2 e wb => En e [(0, .slice a0_0 x0.length c0_0), (1, .slice a1_0 x1.length c1_0), (12, .int .i64 (x0.length : Int)), (13, .int .i64 s2)] ∧ St w0 [] wb []) (fun o x e wb => match o with | .inl s2 => x = .exit 0 ∧ En e [] ∧ St w0 [] wb [] | .inr r => x = .ret ∧ ∃ u, u = r ∧ ∃ v, Res Try.prog Try.f127.results e wb v ∧ v = .bool u ∧ St w0 [] wb []) ?_ N 0 _ _ _ ⟨⟨rfl, rfl, rfl, rfl, trivial⟩, hS1.pick [] rfl rfl⟩ ho24) ?_
  · intro s2 e w3 o hM h
    obtain ⟨hE, hS2⟩ := hM
    obtain ⟨e, rfl⟩ := hE.out
    refine CW.seq ?_
    refine CW.region ?_
    refine LW.p rfl rfl ?_
    refine LW.nil ?_
    show CW _ _ _ _ _ _
    refine CW.seq ?_
    refine CW.cond rfl (fun hc4 => ?_) (fun hc4 => ?_)
    · replace h := bcT h hc4
      refine CW.skip ?_
      show CW _ _ _ _ _ _
      refine CW.seq ?_
      refine CW.block ?_
      refine CW.seq ?_
      refine CW.region ?_
      iterate 2 refine LW.p rfl rfl ?_
      refine LW.nil ?_
      show CW _ _ _ _ _ _
      refine CW.seq ?_
      refine CW.draw (by kernel_rfl) ?_
      have hS3 := hS2.drew
      refine AW.u (i := 0) rfl (by kernel_rfl) rfl rfl (Pur.p rfl) ?_
      refine AW.u (i := 1) rfl (by kernel_rfl) rfl rfl (Pur.p rfl) ?_
      replace h := obind h
      obtain ⟨y5, hy5, h⟩ := h
      obtain ⟨b8, o9, cs10, hae, hb13, hp6, hq7, hd11, hk12⟩ := hr0_0.idx hy5
      subst hae
      obtain rfl := hd11
      refine AW.u (i := 2) rfl (by kernel_rfl) rfl rfl (Pur.ix Try.underlying24 sz3 rfl rfl hp6 hq7) ?_
      refine AW.take (i := 3) rfl (by kernel_rfl) rfl rfl (Ldr.old w0 ag3 rfl (hk12 0 _ rfl)) (hS3.same _ hb13.1 hb13.2) ?_
      refine AW.u (i := 4) rfl (by kernel_rfl) rfl rfl (Pur.p rfl) ?_
      refine AW.u (i := 5) rfl (by kernel_rfl) rfl rfl (Pur.p rfl) ?_
      replace h := obind h
      obtain ⟨y14, hy14, h⟩ := h
      obtain ⟨b17, o18, cs19, hae, hb22, hp15, hq16, hd20, hk21⟩ := hr1_0.idx hy14
      subst hae
      obtain rfl := hd20
      refine AW.u (i := 6) rfl (by kernel_rfl) rfl rfl (Pur.ix Try.underlying24 sz3 rfl rfl hp15 hq16) ?_
      refine AW.take (i := 7) rfl (by kernel_rfl) rfl rfl (Ldr.old w0 ag3 rfl (hk21 0 _ rfl)) (hS3.same _ hb22.1 hb22.2) ?_
      refine AW.u (i := 8) rfl (by kernel_rfl) rfl rfl (Pur.p rfl) ?_
      refine AW.done (by kernel_rfl) ?_
      show CW _ _ _ _ _ _
      refine CW.cond rfl (fun hc23 => ?_) (fun hc23 => ?_)
      · replace h := bcT h hc23
        refine CW.seq ?_
        refine CW.region ?_
        refine LW.p rfl rfl ?_
        refine LW.nil ?_
        show CW _ _ _ _ _ _
        refine CW.fresh (l := [(4, .bool false)]) ⟨rfl, trivial⟩ (fun e => ?_)
        refine CW.ret ?_
        replace h := Option.some.inj h
        subst h
        exact ⟨trivial, rfl, _, rfl, ⟨_, Res.one (resOne.t rfl), rfl, hS3.pick [] rfl rfl⟩⟩
      replace h := bcF h hc23
      refine CW.skip ?_
      show CW _ _ _ _ _ _
      refine CW.region ?_
      iterate 2 refine LW.p rfl rfl ?_
      refine LW.nil ?_
      replace h := Option.some.inj h
      subst h
      exact ⟨rfl, ⟨⟨rfl, rfl, rfl, rfl, trivial⟩, hS3.pick [] rfl rfl⟩⟩
    replace h := bcF h hc4
    refine CW.exit ?_
    replace h := Option.some.inj h
    subst h
    exact ⟨trivial, rfl, ⟨trivial, hS2.pick [] rfl rfl⟩⟩
  intro x e w26 hM
  rcases o24 with o24 | r27
  · obtain ⟨rfl, hM⟩ := hM
    obtain ⟨hE, hS4⟩ := hM
    obtain ⟨e, rfl⟩ := hE.out
    have h := h25
    show CW _ _ _ _ _ _
    refine CW.seq ?_
    refine CW.region ?_
    refine LW.p rfl rfl ?_
    refine LW.nil ?_
    show CW _ _ _ _ _ _
    refine CW.ret ?_
    cases h
    exact And.intro trivial ⟨_, Res.one (resOne.t rfl), rfl, hS4.pick [] rfl rfl⟩
  obtain ⟨rfl, u, rfl, hM⟩ := hM
  cases h25
  exact And.intro trivial hM

theorem W_z_Equal_Msg {w0 : World} {N : Nat} {x0 : List DMsg} {x1 : List DMsg} {r : Bool} (h : F_z_Equal_Msg N x0 x1 = some r) {a0_0 : Option Addr} {n0_0 c0_0 : Nat} (hn0_0 : n0_0 = x0.length) (hr0_0 : rdS (Bor w0 []) w0 a0_0 c0_0 x0) {a1_0 : Option Addr} {n1_0 c1_0 : Nat} (hn1_0 : n1_0 = x1.length) (hr1_0 : rdS (Bor w0 []) w0 a1_0 c1_0 x1) :
    Ret Try.prog 201 #[.slice a0_0 n0_0 c0_0, .slice a1_0 n1_0 c1_0] w0 (fun v w => v = .bool r ∧ St w0 [] w []) := by
  subst hn0_0
  subst hn1_0
  unfold F_z_Equal_Msg at h
  refine Ret.of Try.func201 rfl rfl rfl ?_
  have hS1 := St.start w0
  refine CW.seq ?_
  refine CW.region ?_
  refine LW.p rfl rfl ?_
  refine LW.nil ?_
  show CW _ _ _ _ _ _
  refine CW.seq ?_
  refine CW.seq ?_
  refine CW.region ?_
  refine LW.p rfl rfl ?_
  refine LW.u (Pur.len Try.underlying121 rfl) rfl ?_
  refine LW.p rfl rfl ?_
  refine LW.u (Pur.len Try.underlying121 rfl) rfl ?_
  refine LW.p rfl rfl ?_
  refine LW.nil ?_
  show CW _ _ _ _ _ _
  refine CW.cond rfl (fun hc1 => ?_) (fun hc1 => ?_)
  · replace h := bcT h hc1
    refine CW.seq ?_
    refine CW.region ?_
    refine LW.p rfl rfl ?_
    refine LW.nil ?_
    show CW _ _ _ _ _ _
    refine CW.ret ?_
    cases h
    exact And.intro trivial ⟨_, Res.one (resOne.t rfl), rfl, hS1.pick [] rfl rfl⟩
  replace h := bcF h hc1
  refine CW.skip ?_
  show CW _ _ _ _ _ _
  refine CW.seq ?_
  refine CW.seq ?_
  refine CW.region ?_
  refine LW.p rfl rfl ?_
  refine LW.u (Pur.len Try.underlying121 rfl) rfl ?_
  refine LW.p rfl rfl ?_
  refine LW.nil ?_
  show CW _ _ _ _ _ _
  refine CW.block ?_
  obtain ⟨o24, ho24, h25⟩ := obind h
  refine CW.mono (CW.iter (σ := Int) (ρ := Int ⊕ Bool) (fun s2 e wb => En e [(0, .slice a0_0 x0.length c0_0), (1, .slice a1_0 x1.length c1_0), (12, .int .i64 (x0.length : Int)), (13, .int .i64 s2)] ∧ St w0 [] wb []) (fun o x e wb => match o with | .inl s2 => x = .exit 0 ∧ En e [] ∧ St w0 [] wb [] | .inr r => x = .ret ∧ ∃ u, u = r ∧ ∃ v, Res Try.prog Try.f201.results e wb v ∧ v = .bool u ∧ St w0 [] wb []) ?_ N 0 _ _ _ ⟨⟨rfl, rfl, rfl, rfl, trivial⟩, hS1.pick [] rfl rfl⟩ ho24) ?_
  · intro s2 e w3 o hM h
    obtain ⟨hE, hS2⟩ := hM
    obtain ⟨e, rfl⟩ := hE.out
    refine CW.seq ?_
    refine CW.region ?_
    refine LW.p rfl rfl ?_
    refine LW.nil ?_
    show CW _ _ _ _ _ _
    refine CW.seq ?_
    refine CW.cond rfl (fun hc4 => ?_) (fun hc4 => ?_)
    · replace h := bcT h hc4
      refine CW.skip ?_
      show CW _ _ _ _ _ _
      refine CW.seq ?_
      refine CW.block ?_
      refine CW.seq ?_
      refine CW.region ?_
      iterate 2 refine LW.p rfl rfl ?_
      refine LW.nil ?_
      show CW _ _ _ _ _ _
      refine CW.seq ?_
      refine CW.draw (by kernel_rfl) ?_
      have hS3 := hS2.drew
      refine AW.u (i := 0) rfl (by kernel_rfl) rfl rfl (Pur.p rfl) ?_
      refine AW.u (i := 1) rfl (by kernel_rfl) rfl rfl (Pur.p rfl) ?_
      replace h := obind h
      obtain ⟨y5, hy5, h⟩ := h
      obtain ⟨b8, o9, cs10, hae, hb13, hp6, hq7, hd11, hk12⟩ := hr0_0.idx hy5
      subst hae
      obtain rfl := hd11
      refine AW.u (i := 2) rfl (by kernel_rfl) rfl rfl (Pur.ix Try.underlying121 sz199 rfl rfl hp6 hq7) ?_
      refine AW.take (i := 3) rfl (by kernel_rfl) rfl rfl (Ldr.oldN w0 ag199 rfl rfl (fun j u hu => hk12 j u hu)) (hS3.same _ hb13.1 hb13.2) ?_
      refine AW.u (i := 4) rfl (by kernel_rfl) rfl rfl (Pur.p rfl) ?_
      refine AW.u (i := 5) rfl (by kernel_rfl) rfl rfl (Pur.p rfl) ?_
      replace h := obind h
      obtain ⟨y14, hy14, h⟩ := h
      obtain ⟨b17, o18, cs19, hae, hb22, hp15, hq16, hd20, hk21⟩ := hr1_0.idx hy14
      subst hae
      obtain rfl := hd20
      refine AW.u (i := 6) rfl (by kernel_rfl) rfl rfl (Pur.ix Try.underlying121 sz199 rfl rfl hp15 hq16) ?_
      refine AW.take (i := 7) rfl (by kernel_rfl) rfl rfl (Ldr.oldN w0 ag199 rfl rfl (fun j u hu => hk21 j u hu)) (hS3.same _ hb22.1 hb22.2) ?_
      refine AW.u (i := 8) rfl (by kernel_rfl) rfl rfl (Pur.ane eg199 rfl rfl (fun w => eq199 y5 y14 w)) ?_
      refine AW.done (by kernel_rfl) ?_
      show CW _ _ _ _ _ _
      refine CW.cond rfl (fun hc23 => ?_) (fun hc23 => ?_)
      · replace h := bcT h hc23
        refine CW.seq ?_
        refine CW.region ?_
        refine LW.p rfl rfl ?_
        refine LW.nil ?_
        show CW _ _ _ _ _ _
        refine CW.fresh (l := [(4, .bool false)]) ⟨rfl, trivial⟩ (fun e => ?_)
        refine CW.ret ?_
        replace h := Option.some.inj h
        subst h
        exact ⟨trivial, rfl, _, rfl, ⟨_, Res.one (resOne.t rfl), rfl, hS3.pick [] rfl rfl⟩⟩
      replace h := bcF h hc23
      refine CW.skip ?_
      show CW _ _ _ _ _ _
      refine CW.region ?_
      iterate 2 refine LW.p rfl rfl ?_
      refine LW.nil ?_
      replace h := Option.some.inj h
      subst h
      exact ⟨rfl, ⟨⟨rfl, rfl, rfl, rfl, trivial⟩, hS3.pick [] rfl rfl⟩⟩
    replace h := bcF h hc4
    refine CW.exit ?_
    replace h := Option.some.inj h
    subst h
    exact ⟨trivial, rfl, ⟨trivial, hS2.pick [] rfl rfl⟩⟩
  intro x e w26 hM
  rcases o24 with o24 | r27
  · obtain ⟨rfl, hM⟩ := hM
    obtain ⟨hE, hS4⟩ := hM
    obtain ⟨e, rfl⟩ := hE.out
    have h := h25
    show CW _ _ _ _ _ _
    refine CW.seq ?_
    refine CW.region ?_
    refine LW.p rfl rfl ?_
    refine LW.nil ?_
    show CW _ _ _ _ _ _
    refine CW.ret ?_
    cases h
    exact And.intro trivial ⟨_, Res.one (resOne.t rfl), rfl, hS4.pick [] rfl rfl⟩
  obtain ⟨rfl, u, rfl, hM⟩ := hM
  cases h25
  exact And.intro trivial hM

theorem W_i_sameObj {w0 : World} {N : Nat} {x0 : DObj} {x1 : DObj} {r : Bool} (h : F_i_sameObj N x0 x1 = some r) {a0_10 : Option Addr} {n0_10 c0_10 : Nat} (hn0_10 : n0_10 = x0.links.length) (hr0_10 : rdS (Bor w0 []) w0 a0_10 c0_10 x0.links) {a0_11 : Option Addr} {n0_11 c0_11 : Nat} (hn0_11 : n0_11 = x0.data.length) (hr0_11 : rdS (Bor w0 []) w0 a0_11 c0_11 x0.data) {a0_12 : Option Addr} {n0_12 c0_12 : Nat} (hn0_12 : n0_12 = x0.queue.length) (hr0_12 : rdS (Bor w0 []) w0 a0_12 c0_12 x0.queue) {a1_10 : Option Addr} {n1_10 c1_10 : Nat} (hn1_10 : n1_10 = x1.links.length) (hr1_10 : rdS (Bor w0 []) w0 a1_10 c1_10 x1.links) {a1_11 : Option Addr} {n1_11 c1_11 : Nat} (hn1_11 : n1_11 = x1.data.length) (hr1_11 : rdS (Bor w0 []) w0 a1_11 c1_11 x1.data) {a1_12 : Option Addr} {n1_12 c1_12 : Nat} (hn1_12 : n1_12 = x1.queue.length) (hr1_12 : rdS (Bor w0 []) w0 a1_12 c1_12 x1.queue) :
    Ret Try.prog 193 #[.agg #[.int .i64 x0.gen, .int .i64 x0.kind, .int .i64 x0.box, .int .i64 x0.res, .int .i64 x0.til, .int .i64 x0.pages, .int .i64 x0.wait, .int .i64 x0.got, .int .i64 x0.ran, .bool x0.mark, .slice a0_10 n0_10 c0_10, .slice a0_11 n0_11 c0_11, .slice a0_12 n0_12 c0_12], .agg #[.int .i64 x1.gen, .int .i64 x1.kind, .int .i64 x1.box, .int .i64 x1.res, .int .i64 x1.til, .int .i64 x1.pages, .int .i64 x1.wait, .int .i64 x1.got, .int .i64 x1.ran, .bool x1.mark, .slice a1_10 n1_10 c1_10, .slice a1_11 n1_11 c1_11, .slice a1_12 n1_12 c1_12]] w0 (fun v w => v = .bool r ∧ St w0 [] w []) := by
  subst hn0_10
  subst hn0_11
  subst hn0_12
  subst hn1_10
  subst hn1_11
  subst hn1_12
  unfold F_i_sameObj at h
  refine Ret.of Try.func193 rfl rfl rfl ?_
  have hS1 := St.start w0
  refine CW.seq ?_
  refine CW.region ?_
  refine LW.box (cs := [.int .i64 x0.gen, .int .i64 x0.kind, .int .i64 x0.box, .int .i64 x0.res, .int .i64 x0.til, .int .i64 x0.pages, .int .i64 x0.wait, .int .i64 x0.got, .int .i64 x0.ran, .bool x0.mark, .slice a0_10 x0.links.length c0_10, .slice a0_11 x0.data.length c0_11, .slice a0_12 x0.queue.length c0_12]) rfl hS1 rfl ?_
  intro g1 w2 hS2 hf
  refine LW.box (cs := [.int .i64 x1.gen, .int .i64 x1.kind, .int .i64 x1.box, .int .i64 x1.res, .int .i64 x1.til, .int .i64 x1.pages, .int .i64 x1.wait, .int .i64 x1.got, .int .i64 x1.ran, .bool x1.mark, .slice a1_10 x1.links.length c1_10, .slice a1_11 x1.data.length c1_11, .slice a1_12 x1.queue.length c1_12]) rfl hS2 rfl ?_
  intro g3 w4 hS3 hf
  refine LW.p rfl rfl ?_
  refine LW.nil ?_
  show CW _ _ _ _ _ _
  refine CW.seq ?_
  refine CW.region ?_
  refine LW.u (Pur.fa fo123_0 rfl) rfl ?_
  refine LW.ldb hS3 1 rfl ag3 rfl rfl rfl ?_
  refine LW.u (Pur.fa fo123_0 rfl) rfl ?_
  refine LW.ldb hS3 0 rfl ag3 rfl rfl rfl ?_
  iterate 2 refine LW.p rfl rfl ?_
  rcases bcases (x0.gen == x1.gen) with hc5 | hc5
  · replace h := bcT h hc5
    refine LW.gY (want_of rfl rfl hc5) ?_
    refine LW.u (Pur.fa fo123_1 rfl) rfl ?_
    refine LW.gY (want_of rfl rfl hc5) ?_
    refine LW.ldb hS3 1 rfl ag3 rfl rfl rfl ?_
    refine LW.gY (want_of rfl rfl hc5) ?_
    refine LW.u (Pur.fa fo123_1 rfl) rfl ?_
    refine LW.gY (want_of rfl rfl hc5) ?_
    refine LW.ldb hS3 0 rfl ag3 rfl rfl rfl ?_
    refine LW.gY (want_of rfl rfl hc5) ?_
    refine LW.p rfl rfl ?_
    refine LW.u (Pur.pickT rfl hc5) rfl ?_
    refine LW.p rfl rfl ?_
    rcases bcases (x0.kind == x1.kind) with hc6 | hc6
    · replace h := bcT h hc6
      refine LW.gY (want_of rfl rfl hc6) ?_
      refine LW.u (Pur.fa fo123_2 rfl) rfl ?_
      refine LW.gY (want_of rfl rfl hc6) ?_
      refine LW.ldb hS3 1 rfl ag3 rfl rfl rfl ?_
      refine LW.gY (want_of rfl rfl hc6) ?_
      refine LW.u (Pur.fa fo123_2 rfl) rfl ?_
      refine LW.gY (want_of rfl rfl hc6) ?_
      refine LW.ldb hS3 0 rfl ag3 rfl rfl rfl ?_
      refine LW.gY (want_of rfl rfl hc6) ?_
      refine LW.p rfl rfl ?_
      refine LW.u (Pur.pickT rfl hc6) rfl ?_
      refine LW.p rfl rfl ?_
      refine LW.fresh (l := [(2, .pointer (some ⟨g1, 0, none⟩)), (3, .pointer (some ⟨g3, 0, none⟩)), (24, .bool (x0.box == x1.box))]) ⟨rfl, rfl, rfl, trivial⟩ (fun e => ?_)
      rcases bcases (x0.box == x1.box) with hc7 | hc7
      · replace h := bcT h hc7
        refine LW.gY (want_of rfl rfl hc7) ?_
        refine LW.u (Pur.fa fo123_3 rfl) rfl ?_
        refine LW.gY (want_of rfl rfl hc7) ?_
        refine LW.ldb hS3 1 rfl ag3 rfl rfl rfl ?_
        refine LW.gY (want_of rfl rfl hc7) ?_
        refine LW.u (Pur.fa fo123_3 rfl) rfl ?_
        refine LW.gY (want_of rfl rfl hc7) ?_
        refine LW.ldb hS3 0 rfl ag3 rfl rfl rfl ?_
        refine LW.gY (want_of rfl rfl hc7) ?_
        refine LW.p rfl rfl ?_
        refine LW.u (Pur.pickT rfl hc7) rfl ?_
        refine LW.p rfl rfl ?_
        rcases bcases (x0.res == x1.res) with hc8 | hc8
        · replace h := bcT h hc8
          refine LW.gY (want_of rfl rfl hc8) ?_
          refine LW.u (Pur.fa fo123_4 rfl) rfl ?_
          refine LW.gY (want_of rfl rfl hc8) ?_
          refine LW.ldb hS3 1 rfl ag3 rfl rfl rfl ?_
          refine LW.gY (want_of rfl rfl hc8) ?_
          refine LW.u (Pur.fa fo123_4 rfl) rfl ?_
          refine LW.gY (want_of rfl rfl hc8) ?_
          refine LW.ldb hS3 0 rfl ag3 rfl rfl rfl ?_
          refine LW.gY (want_of rfl rfl hc8) ?_
          refine LW.p rfl rfl ?_
          refine LW.u (Pur.pickT rfl hc8) rfl ?_
          refine LW.p rfl rfl ?_
          rcases bcases (x0.til == x1.til) with hc9 | hc9
          · replace h := bcT h hc9
            refine LW.gY (want_of rfl rfl hc9) ?_
            refine LW.u (Pur.fa fo123_5 rfl) rfl ?_
            refine LW.gY (want_of rfl rfl hc9) ?_
            refine LW.ldb hS3 1 rfl ag3 rfl rfl rfl ?_
            refine LW.gY (want_of rfl rfl hc9) ?_
            refine LW.u (Pur.fa fo123_5 rfl) rfl ?_
            refine LW.gY (want_of rfl rfl hc9) ?_
            refine LW.ldb hS3 0 rfl ag3 rfl rfl rfl ?_
            refine LW.gY (want_of rfl rfl hc9) ?_
            refine LW.p rfl rfl ?_
            refine LW.u (Pur.pickT rfl hc9) rfl ?_
            refine LW.p rfl rfl ?_
            rcases bcases (x0.pages == x1.pages) with hc10 | hc10
            · replace h := bcT h hc10
              refine LW.fresh (l := [(2, .pointer (some ⟨g1, 0, none⟩)), (3, .pointer (some ⟨g3, 0, none⟩)), (45, .bool (x0.pages == x1.pages))]) ⟨rfl, rfl, rfl, trivial⟩ (fun e => ?_)
              refine LW.gY (want_of rfl rfl hc10) ?_
              refine LW.u (Pur.fa fo123_6 rfl) rfl ?_
              refine LW.gY (want_of rfl rfl hc10) ?_
              refine LW.ldb hS3 1 rfl ag3 rfl rfl rfl ?_
              refine LW.gY (want_of rfl rfl hc10) ?_
              refine LW.u (Pur.fa fo123_6 rfl) rfl ?_
              refine LW.gY (want_of rfl rfl hc10) ?_
              refine LW.ldb hS3 0 rfl ag3 rfl rfl rfl ?_
              refine LW.gY (want_of rfl rfl hc10) ?_
              refine LW.p rfl rfl ?_
              refine LW.u (Pur.pickT rfl hc10) rfl ?_
              refine LW.p rfl rfl ?_
              rcases bcases (x0.wait == x1.wait) with hc11 | hc11
              · replace h := bcT h hc11
                refine LW.gY (want_of rfl rfl hc11) ?_
                refine LW.u (Pur.fa fo123_7 rfl) rfl ?_
                refine LW.gY (want_of rfl rfl hc11) ?_
                refine LW.ldb hS3 1 rfl ag3 rfl rfl rfl ?_
                refine LW.gY (want_of rfl rfl hc11) ?_
                refine LW.u (Pur.fa fo123_7 rfl) rfl ?_
                refine LW.gY (want_of rfl rfl hc11) ?_
                refine LW.ldb hS3 0 rfl ag3 rfl rfl rfl ?_
                refine LW.gY (want_of rfl rfl hc11) ?_
                refine LW.p rfl rfl ?_
                refine LW.u (Pur.pickT rfl hc11) rfl ?_
                refine LW.p rfl rfl ?_
                rcases bcases (x0.got == x1.got) with hc12 | hc12
                · replace h := bcT h hc12
                  refine LW.gY (want_of rfl rfl hc12) ?_
                  refine LW.u (Pur.fa fo123_8 rfl) rfl ?_
                  refine LW.gY (want_of rfl rfl hc12) ?_
                  refine LW.ldb hS3 1 rfl ag3 rfl rfl rfl ?_
                  refine LW.gY (want_of rfl rfl hc12) ?_
                  refine LW.u (Pur.fa fo123_8 rfl) rfl ?_
                  refine LW.gY (want_of rfl rfl hc12) ?_
                  refine LW.ldb hS3 0 rfl ag3 rfl rfl rfl ?_
                  refine LW.gY (want_of rfl rfl hc12) ?_
                  refine LW.p rfl rfl ?_
                  refine LW.u (Pur.pickT rfl hc12) rfl ?_
                  refine LW.p rfl rfl ?_
                  rcases bcases (x0.ran == x1.ran) with hc13 | hc13
                  · replace h := bcT h hc13
                    refine LW.gY (want_of rfl rfl hc13) ?_
                    refine LW.u (Pur.fa fo123_9 rfl) rfl ?_
                    refine LW.fresh (l := [(2, .pointer (some ⟨g1, 0, none⟩)), (3, .pointer (some ⟨g3, 0, none⟩)), (66, .bool (x0.ran == x1.ran)), (67, .pointer (some ⟨g1, 0 + 9, none⟩))]) ⟨rfl, rfl, rfl, rfl, trivial⟩ (fun e => ?_)
                    refine LW.gY (want_of rfl rfl hc13) ?_
                    refine LW.ldb hS3 1 rfl ag4 rfl rfl rfl ?_
                    refine LW.gY (want_of rfl rfl hc13) ?_
                    refine LW.u (Pur.fa fo123_9 rfl) rfl ?_
                    refine LW.gY (want_of rfl rfl hc13) ?_
                    refine LW.ldb hS3 0 rfl ag4 rfl rfl rfl ?_
                    refine LW.gY (want_of rfl rfl hc13) ?_
                    refine LW.u (Pur.beq Try.underlying4 rfl rfl) rfl ?_
                    refine LW.u (Pur.pickT rfl hc13) rfl ?_
                    refine LW.p rfl rfl ?_
                    rcases bcases (x0.mark == x1.mark) with hc14 | hc14
                    · replace h := bcT h hc14
                      refine LW.gY (want_of rfl rfl hc14) ?_
                      refine LW.u (Pur.fa fo123_10 rfl) rfl ?_
                      refine LW.gY (want_of rfl rfl hc14) ?_
                      refine LW.ldb hS3 1 rfl ag24 rfl rfl rfl ?_
                      refine LW.gY (want_of rfl rfl hc14) ?_
                      refine LW.u (Pur.fa fo123_10 rfl) rfl ?_
                      refine LW.gY (want_of rfl rfl hc14) ?_
                      refine LW.ldb hS3 0 rfl ag24 rfl rfl rfl ?_
                      replace h := obind h
                      obtain ⟨y15, hy15, h⟩ := h
                      have q := W_z_Equal_int (w0 := w4) hy15 rfl (hS3.rB hr0_10) rfl (hS3.rB hr1_10)
                      refine LW.gY (want_of rfl rfl hc14) ?_
                      refine LW.call pl127 rfl rfl ?_
                      refine Ret.mono q ?_
                      rintro _ w16 ⟨rfl, hs⟩
                      have hS4 := hS3.add hs
                      refine LW.u (Pur.pickT rfl hc14) rfl ?_
                      refine LW.p rfl rfl ?_
                      rcases bcases y15 with hc17 | hc17
                      · replace h := bcT h hc17
                        refine LW.gY (want_of rfl rfl hc17) ?_
                        refine LW.u (Pur.fa fo123_11 rfl) rfl ?_
                        refine LW.gY (want_of rfl rfl hc17) ?_
                        refine LW.ldb hS4 1 rfl ag24 rfl rfl rfl ?_
                        refine LW.gY (want_of rfl rfl hc17) ?_
                        refine LW.u (Pur.fa fo123_11 rfl) rfl ?_
                        refine LW.gY (want_of rfl rfl hc17) ?_
                        refine LW.ldb hS4 0 rfl ag24 rfl rfl rfl ?_
                        replace h := obind h
                        obtain ⟨y18, hy18, h⟩ := h
                        have q := W_z_Equal_int (w0 := w16) hy18 rfl (hS4.rB hr0_11) rfl (hS4.rB hr1_11)
                        refine LW.gY (want_of rfl rfl hc17) ?_
                        refine LW.call pl127 rfl rfl ?_
                        refine Ret.mono q ?_
                        rintro _ w19 ⟨rfl, hs⟩
                        have hS5 := hS4.add hs
                        refine LW.u (Pur.pickT rfl hc17) rfl ?_
                        refine LW.p rfl rfl ?_
                        rcases bcases y18 with hc20 | hc20
                        · replace h := bcT h hc20
                          refine LW.gY (want_of rfl rfl hc20) ?_
                          refine LW.u (Pur.fa fo123_12 rfl) rfl ?_
                          refine LW.gY (want_of rfl rfl hc20) ?_
                          refine LW.ldb hS5 1 rfl ag121 rfl rfl rfl ?_
                          refine LW.fresh (l := [(3, .pointer (some ⟨g3, 0, none⟩)), (87, .bool y18), (89, .slice a0_12 x0.queue.length c0_12)]) ⟨rfl, rfl, rfl, trivial⟩ (fun e => ?_)
                          refine LW.gY (want_of rfl rfl hc20) ?_
                          refine LW.u (Pur.fa fo123_12 rfl) rfl ?_
                          refine LW.gY (want_of rfl rfl hc20) ?_
                          refine LW.ldb hS5 0 rfl ag121 rfl rfl rfl ?_
                          replace h := obind h
                          obtain ⟨y21, hy21, h⟩ := h
                          have q := W_z_Equal_Msg (w0 := w19) hy21 rfl (hS5.rB hr0_12) rfl (hS5.rB hr1_12)
                          refine LW.gY (want_of rfl rfl hc20) ?_
                          refine LW.call pl201 rfl rfl ?_
                          refine Ret.mono q ?_
                          rintro _ w22 ⟨rfl, hs⟩
                          have hS6 := hS5.add hs
                          refine LW.u (Pur.pickT rfl hc20) rfl ?_
                          refine LW.p rfl rfl ?_
                          refine LW.nil ?_
                          show CW _ _ _ _ _ _
                          refine CW.ret ?_
                          cases h
                          exact And.intro trivial ⟨_, Res.one (resOne.t rfl), rfl, hS6.pick [] rfl rfl⟩
                        replace h := bcF h hc20
                        refine LW.gN (want_not rfl rfl hc20) rfl ?_
                        refine LW.gN (want_not rfl rfl hc20) rfl ?_
                        refine LW.fresh (l := [(3, .pointer (some ⟨g3, 0, none⟩)), (87, .bool y18), (89, undef)]) ⟨rfl, rfl, rfl, trivial⟩ (fun e => ?_)
                        refine LW.gN (want_not rfl rfl hc20) rfl ?_
                        refine LW.gN (want_not rfl rfl hc20) rfl ?_
                        refine LW.gN (want_not rfl rfl hc20) rfl ?_
                        refine LW.u (Pur.pickF rfl hc20) rfl ?_
                        refine LW.p rfl rfl ?_
                        refine LW.nil ?_
                        show CW _ _ _ _ _ _
                        refine CW.ret ?_
                        cases h
                        exact And.intro trivial ⟨_, Res.one (resOne.t rfl), rfl, hS5.pick [] rfl rfl⟩
                      replace h := bcF h hc17
                      refine LW.gN (want_not rfl rfl hc17) rfl ?_
                      refine LW.gN (want_not rfl rfl hc17) rfl ?_
                      refine LW.gN (want_not rfl rfl hc17) rfl ?_
                      refine LW.gN (want_not rfl rfl hc17) rfl ?_
                      refine LW.gN (want_not rfl rfl hc17) rfl ?_
                      refine LW.u (Pur.pickF rfl hc17) rfl ?_
                      refine LW.p rfl rfl ?_
                      refine LW.gN (want_not rfl rfl rfl) rfl ?_
                      refine LW.gN (want_not rfl rfl rfl) rfl ?_
                      refine LW.gN (want_not rfl rfl rfl) rfl ?_
                      refine LW.fresh (l := [(87, .bool false), (89, undef), (90, undef)]) ⟨rfl, rfl, rfl, trivial⟩ (fun e => ?_)
                      refine LW.gN (want_not rfl rfl rfl) rfl ?_
                      refine LW.gN (want_not rfl rfl rfl) rfl ?_
                      refine LW.u (Pur.pickF rfl rfl) rfl ?_
                      refine LW.p rfl rfl ?_
                      refine LW.nil ?_
                      show CW _ _ _ _ _ _
                      refine CW.ret ?_
                      cases h
                      exact And.intro trivial ⟨_, Res.one (resOne.t rfl), rfl, hS4.pick [] rfl rfl⟩
                    replace h := bcF h hc14
                    refine LW.gN (want_not rfl rfl hc14) rfl ?_
                    refine LW.gN (want_not rfl rfl hc14) rfl ?_
                    refine LW.gN (want_not rfl rfl hc14) rfl ?_
                    refine LW.gN (want_not rfl rfl hc14) rfl ?_
                    refine LW.gN (want_not rfl rfl hc14) rfl ?_
                    refine LW.u (Pur.pickF rfl hc14) rfl ?_
                    refine LW.p rfl rfl ?_
                    refine LW.gN (want_not rfl rfl rfl) rfl ?_
                    refine LW.gN (want_not rfl rfl rfl) rfl ?_
                    refine LW.gN (want_not rfl rfl rfl) rfl ?_
                    refine LW.gN (want_not rfl rfl rfl) rfl ?_
                    refine LW.gN (want_not rfl rfl rfl) rfl ?_
                    refine LW.u (Pur.pickF rfl rfl) rfl ?_
                    refine LW.p rfl rfl ?_
                    refine LW.gN (want_not rfl rfl rfl) rfl ?_
                    refine LW.gN (want_not rfl rfl rfl) rfl ?_
                    refine LW.gN (want_not rfl rfl rfl) rfl ?_
                    refine LW.gN (want_not rfl rfl rfl) rfl ?_
                    refine LW.fresh (l := [(87, .bool false), (89, undef), (91, undef)]) ⟨rfl, rfl, rfl, trivial⟩ (fun e => ?_)
                    refine LW.gN (want_not rfl rfl rfl) rfl ?_
                    refine LW.u (Pur.pickF rfl rfl) rfl ?_
                    refine LW.p rfl rfl ?_
                    refine LW.nil ?_
                    show CW _ _ _ _ _ _
                    refine CW.ret ?_
                    cases h
                    exact And.intro trivial ⟨_, Res.one (resOne.t rfl), rfl, hS3.pick [] rfl rfl⟩
                  replace h := bcF h hc13
                  refine LW.gN (want_not rfl rfl hc13) rfl ?_
                  refine LW.fresh (l := [(2, .pointer (some ⟨g1, 0, none⟩)), (3, .pointer (some ⟨g3, 0, none⟩)), (66, .bool (x0.ran == x1.ran)), (67, undef)]) ⟨rfl, rfl, rfl, rfl, trivial⟩ (fun e => ?_)
                  refine LW.gN (want_not rfl rfl hc13) rfl ?_
                  refine LW.gN (want_not rfl rfl hc13) rfl ?_
                  refine LW.gN (want_not rfl rfl hc13) rfl ?_
                  refine LW.gN (want_not rfl rfl hc13) rfl ?_
                  refine LW.u (Pur.pickF rfl hc13) rfl ?_
                  refine LW.p rfl rfl ?_
                  refine LW.gN (want_not rfl rfl rfl) rfl ?_
                  refine LW.gN (want_not rfl rfl rfl) rfl ?_
                  refine LW.gN (want_not rfl rfl rfl) rfl ?_
                  refine LW.gN (want_not rfl rfl rfl) rfl ?_
                  refine LW.gN (want_not rfl rfl rfl) rfl ?_
                  refine LW.u (Pur.pickF rfl rfl) rfl ?_
                  refine LW.p rfl rfl ?_
                  refine LW.gN (want_not rfl rfl rfl) rfl ?_
                  refine LW.gN (want_not rfl rfl rfl) rfl ?_
                  refine LW.gN (want_not rfl rfl rfl) rfl ?_
                  refine LW.gN (want_not rfl rfl rfl) rfl ?_
                  refine LW.gN (want_not rfl rfl rfl) rfl ?_
                  refine LW.u (Pur.pickF rfl rfl) rfl ?_
                  refine LW.p rfl rfl ?_
                  refine LW.gN (want_not rfl rfl rfl) rfl ?_
                  refine LW.gN (want_not rfl rfl rfl) rfl ?_
                  refine LW.gN (want_not rfl rfl rfl) rfl ?_
                  refine LW.gN (want_not rfl rfl rfl) rfl ?_
                  refine LW.gN (want_not rfl rfl rfl) rfl ?_
                  refine LW.fresh (l := [(87, .bool false), (92, undef)]) ⟨rfl, rfl, trivial⟩ (fun e => ?_)
                  refine LW.u (Pur.pickF rfl rfl) rfl ?_
                  refine LW.p rfl rfl ?_
                  refine LW.nil ?_
                  show CW _ _ _ _ _ _
                  refine CW.ret ?_
                  cases h
                  exact And.intro trivial ⟨_, Res.one (resOne.t rfl), rfl, hS3.pick [] rfl rfl⟩
                replace h := bcF h hc12
                refine LW.gN (want_not rfl rfl hc12) rfl ?_
                refine LW.gN (want_not rfl rfl hc12) rfl ?_
                refine LW.gN (want_not rfl rfl hc12) rfl ?_
                refine LW.gN (want_not rfl rfl hc12) rfl ?_
                refine LW.gN (want_not rfl rfl hc12) rfl ?_
                refine LW.u (Pur.pickF rfl hc12) rfl ?_
                refine LW.p rfl rfl ?_
                refine LW.gN (want_not rfl rfl rfl) rfl ?_
                refine LW.gN (want_not rfl rfl rfl) rfl ?_
                refine LW.fresh (l := [(2, .pointer (some ⟨g1, 0, none⟩)), (3, .pointer (some ⟨g3, 0, none⟩)), (66, .bool false), (68, undef)]) ⟨rfl, rfl, rfl, rfl, trivial⟩ (fun e => ?_)
                refine LW.gN (want_not rfl rfl rfl) rfl ?_
                refine LW.gN (want_not rfl rfl rfl) rfl ?_
                refine LW.gN (want_not rfl rfl rfl) rfl ?_
                refine LW.u (Pur.pickF rfl rfl) rfl ?_
                refine LW.p rfl rfl ?_
                refine LW.gN (want_not rfl rfl rfl) rfl ?_
                refine LW.gN (want_not rfl rfl rfl) rfl ?_
                refine LW.gN (want_not rfl rfl rfl) rfl ?_
                refine LW.gN (want_not rfl rfl rfl) rfl ?_
                refine LW.gN (want_not rfl rfl rfl) rfl ?_
                refine LW.u (Pur.pickF rfl rfl) rfl ?_
                refine LW.p rfl rfl ?_
                refine LW.gN (want_not rfl rfl rfl) rfl ?_
                refine LW.gN (want_not rfl rfl rfl) rfl ?_
                refine LW.gN (want_not rfl rfl rfl) rfl ?_
                refine LW.gN (want_not rfl rfl rfl) rfl ?_
                refine LW.gN (want_not rfl rfl rfl) rfl ?_
                refine LW.u (Pur.pickF rfl rfl) rfl ?_
                refine LW.p rfl rfl ?_
                refine LW.gN (want_not rfl rfl rfl) rfl ?_
                refine LW.gN (want_not rfl rfl rfl) rfl ?_
                refine LW.gN (want_not rfl rfl rfl) rfl ?_
                refine LW.gN (want_not rfl rfl rfl) rfl ?_
                refine LW.gN (want_not rfl rfl rfl) rfl ?_
                refine LW.u (Pur.pickF rfl rfl) rfl ?_
                refine LW.fresh (l := [(93, .bool false)]) ⟨rfl, trivial⟩ (fun e => ?_)
                refine LW.p rfl rfl ?_
                refine LW.nil ?_
                show CW _ _ _ _ _ _
                refine CW.ret ?_
                cases h
                exact And.intro trivial ⟨_, Res.one (resOne.t rfl), rfl, hS3.pick [] rfl rfl⟩
              replace h := bcF h hc11
              refine LW.gN (want_not rfl rfl hc11) rfl ?_
              refine LW.gN (want_not rfl rfl hc11) rfl ?_
              refine LW.gN (want_not rfl rfl hc11) rfl ?_
              refine LW.gN (want_not rfl rfl hc11) rfl ?_
              refine LW.gN (want_not rfl rfl hc11) rfl ?_
              refine LW.u (Pur.pickF rfl hc11) rfl ?_
              refine LW.p rfl rfl ?_
              refine LW.gN (want_not rfl rfl rfl) rfl ?_
              refine LW.gN (want_not rfl rfl rfl) rfl ?_
              refine LW.gN (want_not rfl rfl rfl) rfl ?_
              refine LW.gN (want_not rfl rfl rfl) rfl ?_
              refine LW.gN (want_not rfl rfl rfl) rfl ?_
              refine LW.u (Pur.pickF rfl rfl) rfl ?_
              refine LW.p rfl rfl ?_
              refine LW.gN (want_not rfl rfl rfl) rfl ?_
              refine LW.gN (want_not rfl rfl rfl) rfl ?_
              refine LW.gN (want_not rfl rfl rfl) rfl ?_
              refine LW.fresh (l := [(2, .pointer (some ⟨g1, 0, none⟩)), (3, .pointer (some ⟨g3, 0, none⟩)), (66, .bool false), (68, undef), (69, undef)]) ⟨rfl, rfl, rfl, rfl, rfl, trivial⟩ (fun e => ?_)
              refine LW.gN (want_not rfl rfl rfl) rfl ?_
              refine LW.gN (want_not rfl rfl rfl) rfl ?_
              refine LW.u (Pur.pickF rfl rfl) rfl ?_
              refine LW.p rfl rfl ?_
              refine LW.gN (want_not rfl rfl rfl) rfl ?_
              refine LW.gN (want_not rfl rfl rfl) rfl ?_
              refine LW.gN (want_not rfl rfl rfl) rfl ?_
              refine LW.gN (want_not rfl rfl rfl) rfl ?_
              refine LW.gN (want_not rfl rfl rfl) rfl ?_
              refine LW.u (Pur.pickF rfl rfl) rfl ?_
              refine LW.p rfl rfl ?_
              refine LW.gN (want_not rfl rfl rfl) rfl ?_
              refine LW.gN (want_not rfl rfl rfl) rfl ?_
              refine LW.gN (want_not rfl rfl rfl) rfl ?_
              refine LW.gN (want_not rfl rfl rfl) rfl ?_
              refine LW.gN (want_not rfl rfl rfl) rfl ?_
              refine LW.u (Pur.pickF rfl rfl) rfl ?_
              refine LW.p rfl rfl ?_
              refine LW.gN (want_not rfl rfl rfl) rfl ?_
              refine LW.gN (want_not rfl rfl rfl) rfl ?_
              refine LW.gN (want_not rfl rfl rfl) rfl ?_
              refine LW.gN (want_not rfl rfl rfl) rfl ?_
              refine LW.gN (want_not rfl rfl rfl) rfl ?_
              refine LW.u (Pur.pickF rfl rfl) rfl ?_
              refine LW.p rfl rfl ?_
              refine LW.nil ?_
              show CW _ _ _ _ _ _
              refine CW.fresh (l := [(4, .bool false)]) ⟨rfl, trivial⟩ (fun e => ?_)
              refine CW.ret ?_
              cases h
              exact And.intro trivial ⟨_, Res.one (resOne.t rfl), rfl, hS3.pick [] rfl rfl⟩
            replace h := bcF h hc10
            refine LW.fresh (l := [(2, .pointer (some ⟨g1, 0, none⟩)), (3, .pointer (some ⟨g3, 0, none⟩)), (45, .bool (x0.pages == x1.pages))]) ⟨rfl, rfl, rfl, trivial⟩ (fun e => ?_)
            refine LW.gN (want_not rfl rfl hc10) rfl ?_
            refine LW.gN (want_not rfl rfl hc10) rfl ?_
            refine LW.gN (want_not rfl rfl hc10) rfl ?_
            refine LW.gN (want_not rfl rfl hc10) rfl ?_
            refine LW.gN (want_not rfl rfl hc10) rfl ?_
            refine LW.u (Pur.pickF rfl hc10) rfl ?_
            refine LW.p rfl rfl ?_
            refine LW.gN (want_not rfl rfl rfl) rfl ?_
            refine LW.gN (want_not rfl rfl rfl) rfl ?_
            refine LW.gN (want_not rfl rfl rfl) rfl ?_
            refine LW.gN (want_not rfl rfl rfl) rfl ?_
            refine LW.gN (want_not rfl rfl rfl) rfl ?_
            refine LW.u (Pur.pickF rfl rfl) rfl ?_
            refine LW.p rfl rfl ?_
            refine LW.gN (want_not rfl rfl rfl) rfl ?_
            refine LW.gN (want_not rfl rfl rfl) rfl ?_
            refine LW.gN (want_not rfl rfl rfl) rfl ?_
            refine LW.gN (want_not rfl rfl rfl) rfl ?_
            refine LW.gN (want_not rfl rfl rfl) rfl ?_
            refine LW.u (Pur.pickF rfl rfl) rfl ?_
            refine LW.p rfl rfl ?_
            refine LW.gN (want_not rfl rfl rfl) rfl ?_
            refine LW.gN (want_not rfl rfl rfl) rfl ?_
            refine LW.gN (want_not rfl rfl rfl) rfl ?_
            refine LW.gN (want_not rfl rfl rfl) rfl ?_
            refine LW.fresh (l := [(2, .pointer (some ⟨g1, 0, none⟩)), (3, .pointer (some ⟨g3, 0, none⟩)), (66, .bool false), (68, undef), (70, undef)]) ⟨rfl, rfl, rfl, rfl, rfl, trivial⟩ (fun e => ?_)
            refine LW.gN (want_not rfl rfl rfl) rfl ?_
            refine LW.u (Pur.pickF rfl rfl) rfl ?_
            refine LW.p rfl rfl ?_
            refine LW.gN (want_not rfl rfl rfl) rfl ?_
            refine LW.gN (want_not rfl rfl rfl) rfl ?_
            refine LW.gN (want_not rfl rfl rfl) rfl ?_
            refine LW.gN (want_not rfl rfl rfl) rfl ?_
            refine LW.gN (want_not rfl rfl rfl) rfl ?_
            refine LW.u (Pur.pickF rfl rfl) rfl ?_
            refine LW.p rfl rfl ?_
            refine LW.gN (want_not rfl rfl rfl) rfl ?_
            refine LW.gN (want_not rfl rfl rfl) rfl ?_
            refine LW.gN (want_not rfl rfl rfl) rfl ?_
            refine LW.gN (want_not rfl rfl rfl) rfl ?_
            refine LW.gN (want_not rfl rfl rfl) rfl ?_
            refine LW.u (Pur.pickF rfl rfl) rfl ?_
            refine LW.p rfl rfl ?_
            refine LW.gN (want_not rfl rfl rfl) rfl ?_
            refine LW.gN (want_not rfl rfl rfl) rfl ?_
            refine LW.gN (want_not rfl rfl rfl) rfl ?_
            refine LW.gN (want_not rfl rfl rfl) rfl ?_
            refine LW.gN (want_not rfl rfl rfl) rfl ?_
            refine LW.u (Pur.pickF rfl rfl) rfl ?_
            refine LW.p rfl rfl ?_
            refine LW.nil ?_
            show CW _ _ _ _ _ _
            refine CW.fresh (l := [(4, .bool false)]) ⟨rfl, trivial⟩ (fun e => ?_)
            refine CW.ret ?_
            cases h
            exact And.intro trivial ⟨_, Res.one (resOne.t rfl), rfl, hS3.pick [] rfl rfl⟩
          replace h := bcF h hc9
          refine LW.gN (want_not rfl rfl hc9) rfl ?_
          refine LW.gN (want_not rfl rfl hc9) rfl ?_
          refine LW.gN (want_not rfl rfl hc9) rfl ?_
          refine LW.gN (want_not rfl rfl hc9) rfl ?_
          refine LW.gN (want_not rfl rfl hc9) rfl ?_
          refine LW.u (Pur.pickF rfl hc9) rfl ?_
          refine LW.p rfl rfl ?_
          refine LW.gN (want_not rfl rfl rfl) rfl ?_
          refine LW.fresh (l := [(2, .pointer (some ⟨g1, 0, none⟩)), (3, .pointer (some ⟨g3, 0, none⟩)), (45, .bool false), (46, undef)]) ⟨rfl, rfl, rfl, rfl, trivial⟩ (fun e => ?_)
          refine LW.gN (want_not rfl rfl rfl) rfl ?_
          refine LW.gN (want_not rfl rfl rfl) rfl ?_
          refine LW.gN (want_not rfl rfl rfl) rfl ?_
          refine LW.gN (want_not rfl rfl rfl) rfl ?_
          refine LW.u (Pur.pickF rfl rfl) rfl ?_
          refine LW.p rfl rfl ?_
          refine LW.gN (want_not rfl rfl rfl) rfl ?_
          refine LW.gN (want_not rfl rfl rfl) rfl ?_
          refine LW.gN (want_not rfl rfl rfl) rfl ?_
          refine LW.gN (want_not rfl rfl rfl) rfl ?_
          refine LW.gN (want_not rfl rfl rfl) rfl ?_
          refine LW.u (Pur.pickF rfl rfl) rfl ?_
          refine LW.p rfl rfl ?_
          refine LW.gN (want_not rfl rfl rfl) rfl ?_
          refine LW.gN (want_not rfl rfl rfl) rfl ?_
          refine LW.gN (want_not rfl rfl rfl) rfl ?_
          refine LW.gN (want_not rfl rfl rfl) rfl ?_
          refine LW.gN (want_not rfl rfl rfl) rfl ?_
          refine LW.u (Pur.pickF rfl rfl) rfl ?_
          refine LW.p rfl rfl ?_
          refine LW.gN (want_not rfl rfl rfl) rfl ?_
          refine LW.gN (want_not rfl rfl rfl) rfl ?_
          refine LW.gN (want_not rfl rfl rfl) rfl ?_
          refine LW.gN (want_not rfl rfl rfl) rfl ?_
          refine LW.gN (want_not rfl rfl rfl) rfl ?_
          refine LW.fresh (l := [(2, .pointer (some ⟨g1, 0, none⟩)), (3, .pointer (some ⟨g3, 0, none⟩)), (66, .bool false), (71, undef)]) ⟨rfl, rfl, rfl, rfl, trivial⟩ (fun e => ?_)
          refine LW.u (Pur.pickF rfl rfl) rfl ?_
          refine LW.p rfl rfl ?_
          refine LW.gN (want_not rfl rfl rfl) rfl ?_
          refine LW.gN (want_not rfl rfl rfl) rfl ?_
          refine LW.gN (want_not rfl rfl rfl) rfl ?_
          refine LW.gN (want_not rfl rfl rfl) rfl ?_
          refine LW.gN (want_not rfl rfl rfl) rfl ?_
          refine LW.u (Pur.pickF rfl rfl) rfl ?_
          refine LW.p rfl rfl ?_
          refine LW.gN (want_not rfl rfl rfl) rfl ?_
          refine LW.gN (want_not rfl rfl rfl) rfl ?_
          refine LW.gN (want_not rfl rfl rfl) rfl ?_
          refine LW.gN (want_not rfl rfl rfl) rfl ?_
          refine LW.gN (want_not rfl rfl rfl) rfl ?_
          refine LW.u (Pur.pickF rfl rfl) rfl ?_
          refine LW.p rfl rfl ?_
          refine LW.gN (want_not rfl rfl rfl) rfl ?_
          refine LW.gN (want_not rfl rfl rfl) rfl ?_
          refine LW.gN (want_not rfl rfl rfl) rfl ?_
          refine LW.gN (want_not rfl rfl rfl) rfl ?_
          refine LW.gN (want_not rfl rfl rfl) rfl ?_
          refine LW.u (Pur.pickF rfl rfl) rfl ?_
          refine LW.p rfl rfl ?_
          refine LW.nil ?_
          show CW _ _ _ _ _ _
          refine CW.fresh (l := [(4, .bool false)]) ⟨rfl, trivial⟩ (fun e => ?_)
          refine CW.ret ?_
          cases h
          exact And.intro trivial ⟨_, Res.one (resOne.t rfl), rfl, hS3.pick [] rfl rfl⟩
        replace h := bcF h hc8
        refine LW.gN (want_not rfl rfl hc8) rfl ?_
        refine LW.gN (want_not rfl rfl hc8) rfl ?_
        refine LW.gN (want_not rfl rfl hc8) rfl ?_
        refine LW.gN (want_not rfl rfl hc8) rfl ?_
        refine LW.gN (want_not rfl rfl hc8) rfl ?_
        refine LW.u (Pur.pickF rfl hc8) rfl ?_
        refine LW.p rfl rfl ?_
        refine LW.gN (want_not rfl rfl rfl) rfl ?_
        refine LW.gN (want_not rfl rfl rfl) rfl ?_
        refine LW.gN (want_not rfl rfl rfl) rfl ?_
        refine LW.gN (want_not rfl rfl rfl) rfl ?_
        refine LW.gN (want_not rfl rfl rfl) rfl ?_
        refine LW.u (Pur.pickF rfl rfl) rfl ?_
        refine LW.p rfl rfl ?_
        refine LW.gN (want_not rfl rfl rfl) rfl ?_
        refine LW.gN (want_not rfl rfl rfl) rfl ?_
        refine LW.fresh (l := [(2, .pointer (some ⟨g1, 0, none⟩)), (3, .pointer (some ⟨g3, 0, none⟩)), (45, .bool false), (47, undef)]) ⟨rfl, rfl, rfl, rfl, trivial⟩ (fun e => ?_)
        refine LW.gN (want_not rfl rfl rfl) rfl ?_
        refine LW.gN (want_not rfl rfl rfl) rfl ?_
        refine LW.gN (want_not rfl rfl rfl) rfl ?_
        refine LW.u (Pur.pickF rfl rfl) rfl ?_
        refine LW.p rfl rfl ?_
        refine LW.gN (want_not rfl rfl rfl) rfl ?_
        refine LW.gN (want_not rfl rfl rfl) rfl ?_
        refine LW.gN (want_not rfl rfl rfl) rfl ?_
        refine LW.gN (want_not rfl rfl rfl) rfl ?_
        refine LW.gN (want_not rfl rfl rfl) rfl ?_
        refine LW.u (Pur.pickF rfl rfl) rfl ?_
        refine LW.p rfl rfl ?_
        refine LW.gN (want_not rfl rfl rfl) rfl ?_
        refine LW.gN (want_not rfl rfl rfl) rfl ?_
        refine LW.gN (want_not rfl rfl rfl) rfl ?_
        refine LW.gN (want_not rfl rfl rfl) rfl ?_
        refine LW.gN (want_not rfl rfl rfl) rfl ?_
        refine LW.u (Pur.pickF rfl rfl) rfl ?_
        refine LW.p rfl rfl ?_
        refine LW.gN (want_not rfl rfl rfl) rfl ?_
        refine LW.gN (want_not rfl rfl rfl) rfl ?_
        refine LW.gN (want_not rfl rfl rfl) rfl ?_
        refine LW.gN (want_not rfl rfl rfl) rfl ?_
        refine LW.gN (want_not rfl rfl rfl) rfl ?_
        refine LW.u (Pur.pickF rfl rfl) rfl ?_
        refine LW.fresh (l := [(2, .pointer (some ⟨g1, 0, none⟩)), (3, .pointer (some ⟨g3, 0, none⟩)), (72, .bool false)]) ⟨rfl, rfl, rfl, trivial⟩ (fun e => ?_)
        refine LW.p rfl rfl ?_
        refine LW.gN (want_not rfl rfl rfl) rfl ?_
        refine LW.gN (want_not rfl rfl rfl) rfl ?_
        refine LW.gN (want_not rfl rfl rfl) rfl ?_
        refine LW.gN (want_not rfl rfl rfl) rfl ?_
        refine LW.gN (want_not rfl rfl rfl) rfl ?_
        refine LW.u (Pur.pickF rfl rfl) rfl ?_
        refine LW.p rfl rfl ?_
        refine LW.gN (want_not rfl rfl rfl) rfl ?_
        refine LW.gN (want_not rfl rfl rfl) rfl ?_
        refine LW.gN (want_not rfl rfl rfl) rfl ?_
        refine LW.gN (want_not rfl rfl rfl) rfl ?_
        refine LW.gN (want_not rfl rfl rfl) rfl ?_
        refine LW.u (Pur.pickF rfl rfl) rfl ?_
        refine LW.p rfl rfl ?_
        refine LW.gN (want_not rfl rfl rfl) rfl ?_
        refine LW.gN (want_not rfl rfl rfl) rfl ?_
        refine LW.gN (want_not rfl rfl rfl) rfl ?_
        refine LW.gN (want_not rfl rfl rfl) rfl ?_
        refine LW.gN (want_not rfl rfl rfl) rfl ?_
        refine LW.u (Pur.pickF rfl rfl) rfl ?_
        refine LW.p rfl rfl ?_
        refine LW.nil ?_
        show CW _ _ _ _ _ _
        refine CW.fresh (l := [(4, .bool false)]) ⟨rfl, trivial⟩ (fun e => ?_)
        refine CW.ret ?_
        cases h
        exact And.intro trivial ⟨_, Res.one (resOne.t rfl), rfl, hS3.pick [] rfl rfl⟩
      replace h := bcF h hc7
      refine LW.gN (want_not rfl rfl hc7) rfl ?_
      refine LW.gN (want_not rfl rfl hc7) rfl ?_
      refine LW.gN (want_not rfl rfl hc7) rfl ?_
      refine LW.gN (want_not rfl rfl hc7) rfl ?_
      refine LW.gN (want_not rfl rfl hc7) rfl ?_
      refine LW.u (Pur.pickF rfl hc7) rfl ?_
      refine LW.p rfl rfl ?_
      refine LW.gN (want_not rfl rfl rfl) rfl ?_
      refine LW.gN (want_not rfl rfl rfl) rfl ?_
      refine LW.gN (want_not rfl rfl rfl) rfl ?_
      refine LW.gN (want_not rfl rfl rfl) rfl ?_
      refine LW.gN (want_not rfl rfl rfl) rfl ?_
      refine LW.u (Pur.pickF rfl rfl) rfl ?_
      refine LW.p rfl rfl ?_
      refine LW.gN (want_not rfl rfl rfl) rfl ?_
      refine LW.gN (want_not rfl rfl rfl) rfl ?_
      refine LW.gN (want_not rfl rfl rfl) rfl ?_
      refine LW.gN (want_not rfl rfl rfl) rfl ?_
      refine LW.gN (want_not rfl rfl rfl) rfl ?_
      refine LW.u (Pur.pickF rfl rfl) rfl ?_
      refine LW.p rfl rfl ?_
      refine LW.gN (want_not rfl rfl rfl) rfl ?_
      refine LW.gN (want_not rfl rfl rfl) rfl ?_
      refine LW.gN (want_not rfl rfl rfl) rfl ?_
      refine LW.fresh (l := [(2, .pointer (some ⟨g1, 0, none⟩)), (3, .pointer (some ⟨g3, 0, none⟩)), (45, .bool false), (47, undef), (48, undef)]) ⟨rfl, rfl, rfl, rfl, rfl, trivial⟩ (fun e => ?_)
      refine LW.gN (want_not rfl rfl rfl) rfl ?_
      refine LW.gN (want_not rfl rfl rfl) rfl ?_
      refine LW.u (Pur.pickF rfl rfl) rfl ?_
      refine LW.p rfl rfl ?_
      refine LW.gN (want_not rfl rfl rfl) rfl ?_
      refine LW.gN (want_not rfl rfl rfl) rfl ?_
      refine LW.gN (want_not rfl rfl rfl) rfl ?_
      refine LW.gN (want_not rfl rfl rfl) rfl ?_
      refine LW.gN (want_not rfl rfl rfl) rfl ?_
      refine LW.u (Pur.pickF rfl rfl) rfl ?_
      refine LW.p rfl rfl ?_
      refine LW.gN (want_not rfl rfl rfl) rfl ?_
      refine LW.gN (want_not rfl rfl rfl) rfl ?_
      refine LW.gN (want_not rfl rfl rfl) rfl ?_
      refine LW.gN (want_not rfl rfl rfl) rfl ?_
      refine LW.gN (want_not rfl rfl rfl) rfl ?_
      refine LW.u (Pur.pickF rfl rfl) rfl ?_
      refine LW.p rfl rfl ?_
      refine LW.gN (want_not rfl rfl rfl) rfl ?_
      refine LW.gN (want_not rfl rfl rfl) rfl ?_
      refine LW.gN (want_not rfl rfl rfl) rfl ?_
      refine LW.gN (want_not rfl rfl rfl) rfl ?_
      refine LW.gN (want_not rfl rfl rfl) rfl ?_
      refine LW.u (Pur.pickF rfl rfl) rfl ?_
      refine LW.p rfl rfl ?_
      refine LW.fresh (l := [(2, .pointer (some ⟨g1, 0, none⟩)), (3, .pointer (some ⟨g3, 0, none⟩)), (73, .bool false)]) ⟨rfl, rfl, rfl, trivial⟩ (fun e => ?_)
      refine LW.gN (want_not rfl rfl rfl) rfl ?_
      refine LW.gN (want_not rfl rfl rfl) rfl ?_
      refine LW.gN (want_not rfl rfl rfl) rfl ?_
      refine LW.gN (want_not rfl rfl rfl) rfl ?_
      refine LW.gN (want_not rfl rfl rfl) rfl ?_
      refine LW.u (Pur.pickF rfl rfl) rfl ?_
      refine LW.p rfl rfl ?_
      refine LW.gN (want_not rfl rfl rfl) rfl ?_
      refine LW.gN (want_not rfl rfl rfl) rfl ?_
      refine LW.gN (want_not rfl rfl rfl) rfl ?_
      refine LW.gN (want_not rfl rfl rfl) rfl ?_
      refine LW.gN (want_not rfl rfl rfl) rfl ?_
      refine LW.u (Pur.pickF rfl rfl) rfl ?_
      refine LW.p rfl rfl ?_
      refine LW.gN (want_not rfl rfl rfl) rfl ?_
      refine LW.gN (want_not rfl rfl rfl) rfl ?_
      refine LW.gN (want_not rfl rfl rfl) rfl ?_
      refine LW.gN (want_not rfl rfl rfl) rfl ?_
      refine LW.gN (want_not rfl rfl rfl) rfl ?_
      refine LW.u (Pur.pickF rfl rfl) rfl ?_
      refine LW.p rfl rfl ?_
      refine LW.nil ?_
      show CW _ _ _ _ _ _
      refine CW.fresh (l := [(4, .bool false)]) ⟨rfl, trivial⟩ (fun e => ?_)
      refine CW.ret ?_
      cases h
      exact And.intro trivial ⟨_, Res.one (resOne.t rfl), rfl, hS3.pick [] rfl rfl⟩
    replace h := bcF h hc6
    refine LW.gN (want_not rfl rfl hc6) rfl ?_
    refine LW.gN (want_not rfl rfl hc6) rfl ?_
    refine LW.gN (want_not rfl rfl hc6) rfl ?_
    refine LW.gN (want_not rfl rfl hc6) rfl ?_
    refine LW.gN (want_not rfl rfl hc6) rfl ?_
    refine LW.u (Pur.pickF rfl hc6) rfl ?_
    refine LW.p rfl rfl ?_
    refine LW.fresh (l := [(2, .pointer (some ⟨g1, 0, none⟩)), (3, .pointer (some ⟨g3, 0, none⟩)), (24, .bool false)]) ⟨rfl, rfl, rfl, trivial⟩ (fun e => ?_)
    refine LW.gN (want_not rfl rfl rfl) rfl ?_
    refine LW.gN (want_not rfl rfl rfl) rfl ?_
    refine LW.gN (want_not rfl rfl rfl) rfl ?_
    refine LW.gN (want_not rfl rfl rfl) rfl ?_
    refine LW.gN (want_not rfl rfl rfl) rfl ?_
    refine LW.u (Pur.pickF rfl rfl) rfl ?_
    refine LW.p rfl rfl ?_
    refine LW.gN (want_not rfl rfl rfl) rfl ?_
    refine LW.gN (want_not rfl rfl rfl) rfl ?_
    refine LW.gN (want_not rfl rfl rfl) rfl ?_
    refine LW.gN (want_not rfl rfl rfl) rfl ?_
    refine LW.gN (want_not rfl rfl rfl) rfl ?_
    refine LW.u (Pur.pickF rfl rfl) rfl ?_
    refine LW.p rfl rfl ?_
    refine LW.gN (want_not rfl rfl rfl) rfl ?_
    refine LW.gN (want_not rfl rfl rfl) rfl ?_
    refine LW.gN (want_not rfl rfl rfl) rfl ?_
    refine LW.gN (want_not rfl rfl rfl) rfl ?_
    refine LW.gN (want_not rfl rfl rfl) rfl ?_
    refine LW.u (Pur.pickF rfl rfl) rfl ?_
    refine LW.p rfl rfl ?_
    refine LW.gN (want_not rfl rfl rfl) rfl ?_
    refine LW.gN (want_not rfl rfl rfl) rfl ?_
    refine LW.gN (want_not rfl rfl rfl) rfl ?_
    refine LW.gN (want_not rfl rfl rfl) rfl ?_
    refine LW.fresh (l := [(2, .pointer (some ⟨g1, 0, none⟩)), (3, .pointer (some ⟨g3, 0, none⟩)), (45, .bool false), (47, undef), (49, undef)]) ⟨rfl, rfl, rfl, rfl, rfl, trivial⟩ (fun e => ?_)
    refine LW.gN (want_not rfl rfl rfl) rfl ?_
    refine LW.u (Pur.pickF rfl rfl) rfl ?_
    refine LW.p rfl rfl ?_
    refine LW.gN (want_not rfl rfl rfl) rfl ?_
    refine LW.gN (want_not rfl rfl rfl) rfl ?_
    refine LW.gN (want_not rfl rfl rfl) rfl ?_
    refine LW.gN (want_not rfl rfl rfl) rfl ?_
    refine LW.gN (want_not rfl rfl rfl) rfl ?_
    refine LW.u (Pur.pickF rfl rfl) rfl ?_
    refine LW.p rfl rfl ?_
    refine LW.gN (want_not rfl rfl rfl) rfl ?_
    refine LW.gN (want_not rfl rfl rfl) rfl ?_
    refine LW.gN (want_not rfl rfl rfl) rfl ?_
    refine LW.gN (want_not rfl rfl rfl) rfl ?_
    refine LW.gN (want_not rfl rfl rfl) rfl ?_
    refine LW.u (Pur.pickF rfl rfl) rfl ?_
    refine LW.p rfl rfl ?_
    refine LW.gN (want_not rfl rfl rfl) rfl ?_
    refine LW.gN (want_not rfl rfl rfl) rfl ?_
    refine LW.gN (want_not rfl rfl rfl) rfl ?_
    refine LW.gN (want_not rfl rfl rfl) rfl ?_
    refine LW.gN (want_not rfl rfl rfl) rfl ?_
    refine LW.u (Pur.pickF rfl rfl) rfl ?_
    refine LW.p rfl rfl ?_
    refine LW.gN (want_not rfl rfl rfl) rfl ?_
    refine LW.fresh (l := [(2, .pointer (some ⟨g1, 0, none⟩)), (3, .pointer (some ⟨g3, 0, none⟩)), (73, .bool false), (74, undef)]) ⟨rfl, rfl, rfl, rfl, trivial⟩ (fun e => ?_)
    refine LW.gN (want_not rfl rfl rfl) rfl ?_
    refine LW.gN (want_not rfl rfl rfl) rfl ?_
    refine LW.gN (want_not rfl rfl rfl) rfl ?_
    refine LW.gN (want_not rfl rfl rfl) rfl ?_
    refine LW.u (Pur.pickF rfl rfl) rfl ?_
    refine LW.p rfl rfl ?_
    refine LW.gN (want_not rfl rfl rfl) rfl ?_
    refine LW.gN (want_not rfl rfl rfl) rfl ?_
    refine LW.gN (want_not rfl rfl rfl) rfl ?_
    refine LW.gN (want_not rfl rfl rfl) rfl ?_
    refine LW.gN (want_not rfl rfl rfl) rfl ?_
    refine LW.u (Pur.pickF rfl rfl) rfl ?_
    refine LW.p rfl rfl ?_
    refine LW.gN (want_not rfl rfl rfl) rfl ?_
    refine LW.gN (want_not rfl rfl rfl) rfl ?_
    refine LW.gN (want_not rfl rfl rfl) rfl ?_
    refine LW.gN (want_not rfl rfl rfl) rfl ?_
    refine LW.gN (want_not rfl rfl rfl) rfl ?_
    refine LW.u (Pur.pickF rfl rfl) rfl ?_
    refine LW.p rfl rfl ?_
    refine LW.nil ?_
    show CW _ _ _ _ _ _
    refine CW.fresh (l := [(4, .bool false)]) ⟨rfl, trivial⟩ (fun e => ?_)
    refine CW.ret ?_
    cases h
    exact And.intro trivial ⟨_, Res.one (resOne.t rfl), rfl, hS3.pick [] rfl rfl⟩
  replace h := bcF h hc5
  refine LW.gN (want_not rfl rfl hc5) rfl ?_
  refine LW.gN (want_not rfl rfl hc5) rfl ?_
  refine LW.gN (want_not rfl rfl hc5) rfl ?_
  refine LW.gN (want_not rfl rfl hc5) rfl ?_
  refine LW.gN (want_not rfl rfl hc5) rfl ?_
  refine LW.u (Pur.pickF rfl hc5) rfl ?_
  refine LW.p rfl rfl ?_
  refine LW.gN (want_not rfl rfl rfl) rfl ?_
  refine LW.gN (want_not rfl rfl rfl) rfl ?_
  refine LW.gN (want_not rfl rfl rfl) rfl ?_
  refine LW.gN (want_not rfl rfl rfl) rfl ?_
  refine LW.gN (want_not rfl rfl rfl) rfl ?_
  refine LW.u (Pur.pickF rfl rfl) rfl ?_
  refine LW.p rfl rfl ?_
  refine LW.gN (want_not rfl rfl rfl) rfl ?_
  refine LW.fresh (l := [(2, .pointer (some ⟨g1, 0, none⟩)), (3, .pointer (some ⟨g3, 0, none⟩)), (24, .bool false), (25, undef)]) ⟨rfl, rfl, rfl, rfl, trivial⟩ (fun e => ?_)
  refine LW.gN (want_not rfl rfl rfl) rfl ?_
  refine LW.gN (want_not rfl rfl rfl) rfl ?_
  refine LW.gN (want_not rfl rfl rfl) rfl ?_
  refine LW.gN (want_not rfl rfl rfl) rfl ?_
  refine LW.u (Pur.pickF rfl rfl) rfl ?_
  refine LW.p rfl rfl ?_
  refine LW.gN (want_not rfl rfl rfl) rfl ?_
  refine LW.gN (want_not rfl rfl rfl) rfl ?_
  refine LW.gN (want_not rfl rfl rfl) rfl ?_
  refine LW.gN (want_not rfl rfl rfl) rfl ?_
  refine LW.gN (want_not rfl rfl rfl) rfl ?_
  refine LW.u (Pur.pickF rfl rfl) rfl ?_
  refine LW.p rfl rfl ?_
  refine LW.gN (want_not rfl rfl rfl) rfl ?_
  refine LW.gN (want_not rfl rfl rfl) rfl ?_
  refine LW.gN (want_not rfl rfl rfl) rfl ?_
  refine LW.gN (want_not rfl rfl rfl) rfl ?_
  refine LW.gN (want_not rfl rfl rfl) rfl ?_
  refine LW.u (Pur.pickF rfl rfl) rfl ?_
  refine LW.p rfl rfl ?_
  refine LW.gN (want_not rfl rfl rfl) rfl ?_
  refine LW.gN (want_not rfl rfl rfl) rfl ?_
  refine LW.gN (want_not rfl rfl rfl) rfl ?_
  refine LW.gN (want_not rfl rfl rfl) rfl ?_
  refine LW.gN (want_not rfl rfl rfl) rfl ?_
  refine LW.fresh (l := [(2, .pointer (some ⟨g1, 0, none⟩)), (3, .pointer (some ⟨g3, 0, none⟩)), (45, .bool false), (50, undef)]) ⟨rfl, rfl, rfl, rfl, trivial⟩ (fun e => ?_)
  refine LW.u (Pur.pickF rfl rfl) rfl ?_
  refine LW.p rfl rfl ?_
  refine LW.gN (want_not rfl rfl rfl) rfl ?_
  refine LW.gN (want_not rfl rfl rfl) rfl ?_
  refine LW.gN (want_not rfl rfl rfl) rfl ?_
  refine LW.gN (want_not rfl rfl rfl) rfl ?_
  refine LW.gN (want_not rfl rfl rfl) rfl ?_
  refine LW.u (Pur.pickF rfl rfl) rfl ?_
  refine LW.p rfl rfl ?_
  refine LW.gN (want_not rfl rfl rfl) rfl ?_
  refine LW.gN (want_not rfl rfl rfl) rfl ?_
  refine LW.gN (want_not rfl rfl rfl) rfl ?_
  refine LW.gN (want_not rfl rfl rfl) rfl ?_
  refine LW.gN (want_not rfl rfl rfl) rfl ?_
  refine LW.u (Pur.pickF rfl rfl) rfl ?_
  refine LW.p rfl rfl ?_
  refine LW.gN (want_not rfl rfl rfl) rfl ?_
  refine LW.gN (want_not rfl rfl rfl) rfl ?_
  refine LW.gN (want_not rfl rfl rfl) rfl ?_
  refine LW.gN (want_not rfl rfl rfl) rfl ?_
  refine LW.gN (want_not rfl rfl rfl) rfl ?_
  refine LW.u (Pur.pickF rfl rfl) rfl ?_
  refine LW.p rfl rfl ?_
  refine LW.gN (want_not rfl rfl rfl) rfl ?_
  refine LW.gN (want_not rfl rfl rfl) rfl ?_
  refine LW.fresh (l := [(2, .pointer (some ⟨g1, 0, none⟩)), (3, .pointer (some ⟨g3, 0, none⟩)), (73, .bool false), (75, undef)]) ⟨rfl, rfl, rfl, rfl, trivial⟩ (fun e => ?_)
  refine LW.gN (want_not rfl rfl rfl) rfl ?_
  refine LW.gN (want_not rfl rfl rfl) rfl ?_
  refine LW.gN (want_not rfl rfl rfl) rfl ?_
  refine LW.u (Pur.pickF rfl rfl) rfl ?_
  refine LW.p rfl rfl ?_
  refine LW.gN (want_not rfl rfl rfl) rfl ?_
  refine LW.gN (want_not rfl rfl rfl) rfl ?_
  refine LW.gN (want_not rfl rfl rfl) rfl ?_
  refine LW.gN (want_not rfl rfl rfl) rfl ?_
  refine LW.gN (want_not rfl rfl rfl) rfl ?_
  refine LW.u (Pur.pickF rfl rfl) rfl ?_
  refine LW.p rfl rfl ?_
  refine LW.gN (want_not rfl rfl rfl) rfl ?_
  refine LW.gN (want_not rfl rfl rfl) rfl ?_
  refine LW.gN (want_not rfl rfl rfl) rfl ?_
  refine LW.gN (want_not rfl rfl rfl) rfl ?_
  refine LW.gN (want_not rfl rfl rfl) rfl ?_
  refine LW.u (Pur.pickF rfl rfl) rfl ?_
  refine LW.p rfl rfl ?_
  refine LW.nil ?_
  show CW _ _ _ _ _ _
  refine CW.fresh (l := [(4, .bool false)]) ⟨rfl, trivial⟩ (fun e => ?_)
  refine CW.ret ?_
  cases h
  exact And.intro trivial ⟨_, Res.one (resOne.t rfl), rfl, hS3.pick [] rfl rfl⟩

end Go.Kx
