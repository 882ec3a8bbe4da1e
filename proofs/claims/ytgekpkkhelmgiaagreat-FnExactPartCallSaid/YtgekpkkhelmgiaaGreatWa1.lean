/- Each call returns what the plain function says. Printed by drive.py. -/
import Derived.Test.YtgekpkkhelmgiaaGreatFa
import Derived.Test.YtgekpkkhelmgiaaGreatPu
import Derived.Test.YtgekpkkhelmgiaaGreatWa0
namespace Go.Kx
open Go Go.RowKit Go.Proofs
set_option maxRecDepth 10000
set_option maxHeartbeats 8000000
set_option linter.unusedVariables false
set_option linter.unusedSimpArgs false
theorem W_l_markTapS {w0:World} {F:List Nat} {N:Nat} {x0:List DTap} {x1:Int} {r:Int×(List DTap)} (h:F_l_markTapS N x0 x1=some r) {a0_0:Ad} {n0_0 c0_0:Nat} (hn0_0:n0_0=x0.length) (hS:St w0 F w0 [sl a0_0 c0_0 x0]) :
    Ret Tryz.prog 52 #[vS a0_0 n0_0 c0_0,vI x1] w0 (fun v w=>v=vI r.1∧St w0 F w [sl a0_0 c0_0 r.2]):=by
 subst hn0_0;unfold F_l_markTapS at h;refine Ret.fn Tryz.func52 fun e=>?_;refine go ?_;obtain ⟨o52,ho52,h53⟩:=obind h;refine CW.ie ho52 0 (fun s1 e wb=>En e [(0,vS a0_0 s1.1.length c0_0),(1,vI s1.2.1),(5,vI s1.2.2)]∧St w0 F wb [sl a0_0 c0_0 s1.1]) ?_ ⟨⟨rfl,rfl,rfl,trivial⟩,hS.pick [0] rfl rfl⟩ ?_
 · intro s1 e w2 o hM h;obtain ⟨hE,S1⟩:=hM;obtain ⟨e,rfl⟩:=hE.out;refine go ?_;refine cd (fun z3=>?_) fun z3=>?_
   · replace h:=bcT h z3;refine go ?_;replace ⟨y4,hy4,h⟩:=obind h;obtain ⟨b7,o8,hae,hp5,hq6⟩:=S1.ownIdx (α:=DTap) (i:=0) rfl hy4;subst hae;refine LW.u (Pur.ix Tryz.underlying45 sz105 rfl rfl hp5 hq6) rfl ?_;refine go ?_;replace ⟨y9,hy9,h⟩:=obind h;refine LW.se 0 S1 0 hy4 hy9 (hM:=(leafF (fun w cs F hF=>by obtain ⟨rfl,rfl⟩:=hF;exact ⟨rfl,rfl⟩))) fun w11 S2=>?_;refine go ?_;replace ⟨y12,hy12,h⟩:=obind h;obtain ⟨b15,o16,hae,hp13,hq14⟩:=S2.ownIdx (α:=DTap) (i:=0) rfl hy12;cases hae;refine LW.u (Pur.ix Tryz.underlying45 sz105 rfl rfl hp13 (by rw [show s1.1.length=y9.length from (len_set (oi hy9))];exact hq14)) rfl ?_;refine go ?_;replace ⟨y17,hy17,h⟩:=obind h;refine LW.se 1 S2 0 hy12 hy17 (hM:=(leafF (fun w cs F hF=>by obtain ⟨rfl,rfl⟩:=hF;exact ⟨rfl,rfl⟩))) fun w19 S3=>?_;refine go ?_;refine LW.fl [0,1,5,26,27,28] fun e=>?_;replace ⟨y20,hy20,h⟩:=obind h;obtain ⟨b23,o24,hae,hp21,hq22⟩:=S3.ownIdx (α:=DTap) (i:=0) rfl hy20;cases hae;refine LW.u (Pur.ix Tryz.underlying45 sz105 rfl rfl hp21 (by rw [show s1.1.length=y17.length from ((len_set (oi hy9)).trans (len_set (oi hy17)))];exact hq22)) rfl ?_;refine go ?_;replace ⟨y25,hy25,h⟩:=obind h;refine LW.se 2 S3 0 hy20 hy25 (hM:=(leafF (fun w cs F hF=>by obtain ⟨rfl,rfl⟩:=hF;exact ⟨rfl,rfl⟩))) fun w27 S4=>?_;refine go ?_;replace ⟨y28,hy28,h⟩:=obind h;obtain ⟨b31,o32,hae,hp29,hq30⟩:=S4.ownIdx (α:=DTap) (i:=0) rfl hy28;cases hae;refine LW.u (Pur.ix Tryz.underlying45 sz105 rfl rfl hp29 (by rw [show s1.1.length=y25.length from (((len_set (oi hy9)).trans (len_set (oi hy17))).trans (len_set (oi hy25)))];exact hq30)) rfl ?_;refine go ?_;replace ⟨y33,hy33,h⟩:=obind h;refine LW.se 3 S4 0 hy28 hy33 (hM:=(leafF (fun w cs F hF=>by obtain ⟨rfl,rfl⟩:=hF;exact ⟨rfl,rfl⟩))) fun w35 S5=>?_;refine go ?_;replace ⟨y36,hy36,h⟩:=obind h;obtain ⟨b39,o40,hae,hp37,hq38⟩:=S5.ownIdx (α:=DTap) (i:=0) rfl hy36;cases hae;refine LW.u (Pur.ix Tryz.underlying45 sz105 rfl rfl hp37 (by rw [show s1.1.length=y33.length from ((((len_set (oi hy9)).trans (len_set (oi hy17))).trans (len_set (oi hy25))).trans (len_set (oi hy33)))];exact hq38)) rfl ?_;refine go ?_;replace ⟨y41,hy41,h⟩:=obind h;refine LW.se 4 S5 0 hy36 hy41 (hM:=(leafF (fun w cs F hF=>by obtain ⟨rfl,rfl⟩:=hF;exact ⟨rfl,rfl⟩))) fun w43 S6=>?_;refine go ?_;refine LW.fl [0,1,5,47,48,49] fun e=>?_;replace ⟨y44,hy44,h⟩:=obind h;obtain ⟨b47,o48,hae,hp45,hq46⟩:=S6.ownIdx (α:=DTap) (i:=0) rfl hy44;cases hae;refine LW.u (Pur.ix Tryz.underlying45 sz105 rfl rfl hp45 (by rw [show s1.1.length=y41.length from (((((len_set (oi hy9)).trans (len_set (oi hy17))).trans (len_set (oi hy25))).trans (len_set (oi hy33))).trans (len_set (oi hy41)))];exact hq46)) rfl ?_
     refine go ?_;replace ⟨y49,hy49,h⟩:=obind h;refine LW.se 5 S6 0 hy44 hy49 (hM:=(leafF (fun w cs F hF=>by obtain ⟨rfl,rfl⟩:=hF;exact ⟨rfl,rfl⟩))) fun w51 S7=>?_;refine go ?_;replace h:=oi h;subst h;exact ⟨rfl,⟨⟨(show (vS (some ⟨b7,o8,none⟩) s1.1.length c0_0:Value)=vS (some ⟨b7,o8,none⟩) y49.length c0_0 by rw [show s1.1.length=y49.length from ((((((len_set (oi hy9)).trans (len_set (oi hy17))).trans (len_set (oi hy25))).trans (len_set (oi hy33))).trans (len_set (oi hy41))).trans (len_set (oi hy49)))]),rfl,rfl,trivial⟩,S7.pick [0] rfl rfl⟩⟩
   replace h:=bcF h z3;refine go ?_;cases oi h;exact ⟨trivial,rfl,⟨⟨rfl,rfl,rfl,trivial⟩,S1.pick [0] rfl rfl⟩⟩
 rintro e w54 ⟨hE,S8⟩;obtain ⟨e,rfl⟩:=hE.out;have h:=h53;refine go ?_;replace h:=oi h;subst h;exact And.intro trivial ⟨_,Res.one (resOne.t rfl),rfl,S8.pick [0] rfl rfl⟩
theorem W_l_heldIntS {w0:World} {N:Nat} {x0:List Int} {x1:Int} {r:Int} (h:F_l_heldIntS N x0 x1=some r) {a0_0:Ad} {n0_0 c0_0:Nat} (hn0_0:n0_0=x0.length) (hr0_0:rdS (Bor w0 []) w0 a0_0 c0_0 x0) :
    Ret Tryz.prog 54 #[vS a0_0 n0_0 c0_0,vI x1] w0 (fun v w=>v=vI r∧St w0 [] w []):=by
 subst hn0_0;unfold F_l_heldIntS at h;refine Ret.fn Tryz.func54 fun e=>?_;have S1:=St.start w0;refine go ?_;obtain ⟨o14,ho14,h15⟩:=obind h;refine CW.mono (CW.lx [0] [] [1] 0 (fun s1=>[(1,vI s1.1),(5,vI s1.2)]) (RT Tryz.prog Tryz.f54.results (fun u=>vI u) w0 []) S1 ho14 (hb:=?_)) ?_
 · intro s1 e w2 o S2 h;refine go ?_;refine cd (fun z3=>?_) fun z3=>?_
   · replace h:=bcT h z3;refine go ?_;replace ⟨y4,hy4,h⟩:=obind h;obtain ⟨b7,o8,cs9,hae,hb12,hp5,hq6,hd10,hk11⟩:=hr0_0.idx hy4;subst hae;obtain rfl:=hd10;refine LW.u (Pur.ix Tryz.underlying22 sz3 rfl rfl hp5 hq6) rfl ?_;refine LW.l (Ldr.old w0 ag3 rfl (hk11 0 _ rfl)) (S2.same _ hb12.1 hb12.2) rfl ?_;refine go ?_;refine CW.fl [0,1,5,17] fun e=>?_;refine cd (fun z13=>?_) fun z13=>?_
     · replace h:=bcT h z13;refine go ?_;cases oi h;exact ⟨trivial,rfl,_,rfl,⟨_,Res.one (resOne.t rfl),rfl,S2.pick [] rfl rfl⟩⟩
     replace h:=bcF h z13;refine go ?_;cases oi h;exact ⟨rfl,⟨⟨rfl,rfl,rfl,trivial⟩,S2.pick [] rfl rfl⟩⟩
   replace h:=bcF h z3;refine go ?_;cases oi h;exact ⟨trivial,rfl,⟨⟨rfl,trivial⟩,S2.pick [] rfl rfl⟩⟩
 intro x e w16 hM;rcases o14 with o14 | r17
 · obtain ⟨rfl,hM⟩:=hM;obtain ⟨hE,S3⟩:=hM;obtain ⟨e,rfl⟩:=hE.out;have h:=h15;refine go ?_;cases h;exact fi S3
 obtain ⟨rfl,u,rfl,hM⟩:=hM;cases h15;exact And.intro trivial hM
theorem W_l_heldResS {w0:World} {N:Nat} {x0:List DRes} {x1:Int} {r:Int} (h:F_l_heldResS N x0 x1=some r) {a0_0:Ad} {n0_0 c0_0:Nat} (hn0_0:n0_0=x0.length) (hr0_0:rdS (Bor w0 []) w0 a0_0 c0_0 x0) :
    Ret Tryz.prog 55 #[vS a0_0 n0_0 c0_0,vI x1] w0 (fun v w=>v=vI r∧St w0 [] w []):=by
 subst hn0_0;unfold F_l_heldResS at h;refine Ret.fn Tryz.func55 fun e=>?_;have S1:=St.start w0;refine go ?_;obtain ⟨o18,ho18,h19⟩:=obind h;refine CW.mono (CW.lx [0] [] [1] 0 (fun s1=>[(1,vI s1.1),(5,vI s1.2)]) (RT Tryz.prog Tryz.f55.results (fun u=>vI u) w0 []) S1 ho18 (hb:=?_)) ?_
 · intro s1 e w2 o S2 h;refine go ?_;refine cd (fun z3=>?_) fun z3=>?_
   · replace h:=bcT h z3;refine go ?_;replace ⟨y4,hy4,h⟩:=obind h;obtain ⟨b7,o8,cs9,hae,hb12,hp5,hq6,hd10,hk11⟩:=hr0_0.idx hy4;subst hae;obtain rfl:=hd10;refine LW.u (Pur.ix Tryz.underlying40 sz130 rfl rfl hp5 hq6) rfl ?_;refine go ?_;refine LW.l (Ldr.old w0 ag4 rfl (hk11 0 _ rfl)) (S2.same _ hb12.1 hb12.2) rfl ?_;refine go ?_;refine LW.u (Pur.rem rfl rfl (by decide)) rfl ?_;refine go ?_;refine LW.u (Pur.bne Tryz.underlying4 rfl rfl) rfl ?_;refine go ?_;refine CW.fl [0,1,5,20] fun e=>?_;refine cd (fun z13=>?_) fun z13=>?_
     · replace h:=bcT h z13;refine go ?_;cases oi h;exact ⟨trivial,rfl,_,rfl,⟨_,Res.one (resOne.t rfl),rfl,S2.pick [] rfl rfl⟩⟩
     replace h:=bcF h z13;refine go ?_;refine LW.u (Pur.ix Tryz.underlying40 sz130 rfl rfl hp5 hq6) rfl ?_;refine go ?_;refine LW.l (Ldr.old w0 ag3 rfl (hk11 1 _ rfl)) (S2.same _ hb12.1 hb12.2) rfl ?_;refine go ?_;refine cd (fun z14=>?_) fun z14=>?_
     · replace h:=bcT h z14;refine go ?_;cases oi h;exact ⟨trivial,rfl,_,rfl,⟨_,Res.one (resOne.t rfl),rfl,S2.pick [] rfl rfl⟩⟩
     replace h:=bcF h z14;refine go ?_;refine LW.u (Pur.ix Tryz.underlying40 sz130 rfl rfl hp5 hq6) rfl ?_;refine go ?_;refine LW.l (Ldr.old w0 ag3 rfl (hk11 2 _ rfl)) (S2.same _ hb12.1 hb12.2) rfl ?_;refine go ?_;refine CW.fl [0,1,5,39] fun e=>?_;refine cd (fun z15=>?_) fun z15=>?_
     · replace h:=bcT h z15;refine go ?_;cases oi h;exact ⟨trivial,rfl,_,rfl,⟨_,Res.one (resOne.t rfl),rfl,S2.pick [] rfl rfl⟩⟩
     replace h:=bcF h z15;refine go ?_;refine LW.u (Pur.ix Tryz.underlying40 sz130 rfl rfl hp5 hq6) rfl ?_;refine go ?_;refine LW.l (Ldr.old w0 ag3 rfl (hk11 3 _ rfl)) (S2.same _ hb12.1 hb12.2) rfl ?_;refine go ?_;refine cd (fun z16=>?_) fun z16=>?_
     · replace h:=bcT h z16;refine go ?_;cases oi h;exact ⟨trivial,rfl,_,rfl,⟨_,Res.one (resOne.t rfl),rfl,S2.pick [] rfl rfl⟩⟩
     replace h:=bcF h z16;refine go ?_;refine LW.u (Pur.ix Tryz.underlying40 sz130 rfl rfl hp5 hq6) rfl ?_;refine go ?_;refine LW.l (Ldr.old w0 ag3 rfl (hk11 4 _ rfl)) (S2.same _ hb12.1 hb12.2) rfl ?_;refine go ?_;refine CW.fl [0,1,5,59] fun e=>?_;refine cd (fun z17=>?_) fun z17=>?_
     · replace h:=bcT h z17;refine go ?_;cases oi h;exact ⟨trivial,rfl,_,rfl,⟨_,Res.one (resOne.t rfl),rfl,S2.pick [] rfl rfl⟩⟩
     replace h:=bcF h z17;refine go ?_;cases oi h;exact ⟨rfl,⟨⟨rfl,rfl,rfl,trivial⟩,S2.pick [] rfl rfl⟩⟩
   replace h:=bcF h z3;refine go ?_;cases oi h;exact ⟨trivial,rfl,⟨⟨rfl,trivial⟩,S2.pick [] rfl rfl⟩⟩
 intro x e w20 hM;rcases o18 with o18 | r21
 · obtain ⟨rfl,hM⟩:=hM;obtain ⟨hE,S3⟩:=hM;obtain ⟨e,rfl⟩:=hE.out;have h:=h19;refine go ?_;cases h;exact fi S3
 obtain ⟨rfl,u,rfl,hM⟩:=hM;cases h19;exact And.intro trivial hM
theorem W_l_heldMsgS {w0:World} {N:Nat} {x0:List DMsg} {x1:Int} {r:Int} (h:F_l_heldMsgS N x0 x1=some r) {a0_0:Ad} {n0_0 c0_0:Nat} (hn0_0:n0_0=x0.length) (hr0_0:rdS (Bor w0 []) w0 a0_0 c0_0 x0) :
    Ret Tryz.prog 162 #[vS a0_0 n0_0 c0_0,vI x1] w0 (fun v w=>v=vI r∧St w0 [] w []):=by
 subst hn0_0;unfold F_l_heldMsgS at h;refine Ret.fn Tryz.func162 fun e=>?_;have S1:=St.start w0;refine go ?_;obtain ⟨o15,ho15,h16⟩:=obind h;refine CW.mono (CW.lx [0] [] [1] 0 (fun s1=>[(1,vI s1.1),(5,vI s1.2)]) (RT Tryz.prog Tryz.f162.results (fun u=>vI u) w0 []) S1 ho15 (hb:=?_)) ?_
 · intro s1 e w2 o S2 h;refine go ?_;refine cd (fun z3=>?_) fun z3=>?_
   · replace h:=bcT h z3;refine go ?_;replace ⟨y4,hy4,h⟩:=obind h;obtain ⟨b7,o8,cs9,hae,hb12,hp5,hq6,hd10,hk11⟩:=hr0_0.idx hy4;subst hae;obtain rfl:=hd10;refine LW.u (Pur.ix Tryz.underlying108 sz127 rfl rfl hp5 hq6) rfl ?_;refine go ?_;refine LW.l (Ldr.old w0 ag3 rfl (hk11 0 _ rfl)) (S2.same _ hb12.1 hb12.2) rfl ?_;refine go ?_;refine CW.fl [0,1,5,18] fun e=>?_;refine cd (fun z13=>?_) fun z13=>?_
     · replace h:=bcT h z13;refine go ?_;cases oi h;exact ⟨trivial,rfl,_,rfl,⟨_,Res.one (resOne.t rfl),rfl,S2.pick [] rfl rfl⟩⟩
     replace h:=bcF h z13;refine go ?_;refine LW.u (Pur.ix Tryz.underlying108 sz127 rfl rfl hp5 hq6) rfl ?_;refine go ?_;refine LW.l (Ldr.old w0 ag3 rfl (hk11 1 _ rfl)) (S2.same _ hb12.1 hb12.2) rfl ?_;refine go ?_;refine cd (fun z14=>?_) fun z14=>?_
     · replace h:=bcT h z14;refine go ?_;cases oi h;exact ⟨trivial,rfl,_,rfl,⟨_,Res.one (resOne.t rfl),rfl,S2.pick [] rfl rfl⟩⟩
     replace h:=bcF h z14;refine go ?_;cases oi h;exact ⟨rfl,⟨⟨rfl,rfl,rfl,trivial⟩,S2.pick [] rfl rfl⟩⟩
   replace h:=bcF h z3;refine go ?_;cases oi h;exact ⟨trivial,rfl,⟨⟨rfl,trivial⟩,S2.pick [] rfl rfl⟩⟩
 intro x e w17 hM;rcases o15 with o15 | r18
 · obtain ⟨rfl,hM⟩:=hM;obtain ⟨hE,S3⟩:=hM;obtain ⟨e,rfl⟩:=hE.out;have h:=h16;refine go ?_;cases h;exact fi S3
 obtain ⟨rfl,u,rfl,hM⟩:=hM;cases h16;exact And.intro trivial hM
theorem W_l_heldTapS {w0:World} {N:Nat} {x0:List DTap} {x1:Int} {r:Int} (h:F_l_heldTapS N x0 x1=some r) {a0_0:Ad} {n0_0 c0_0:Nat} (hn0_0:n0_0=x0.length) (hr0_0:rdS (Bor w0 []) w0 a0_0 c0_0 x0) :
    Ret Tryz.prog 57 #[vS a0_0 n0_0 c0_0,vI x1] w0 (fun v w=>v=vI r∧St w0 [] w []):=by
 subst hn0_0;unfold F_l_heldTapS at h;refine Ret.fn Tryz.func57 fun e=>?_;have S1:=St.start w0;refine go ?_;obtain ⟨o19,ho19,h20⟩:=obind h;refine CW.mono (CW.lx [0] [] [1] 0 (fun s1=>[(1,vI s1.1),(5,vI s1.2)]) (RT Tryz.prog Tryz.f57.results (fun u=>vI u) w0 []) S1 ho19 (hb:=?_)) ?_
 · intro s1 e w2 o S2 h;refine go ?_;refine cd (fun z3=>?_) fun z3=>?_
   · replace h:=bcT h z3;refine go ?_;replace ⟨y4,hy4,h⟩:=obind h;obtain ⟨b7,o8,cs9,hae,hb12,hp5,hq6,hd10,hk11⟩:=hr0_0.idx hy4;subst hae;obtain rfl:=hd10;refine LW.u (Pur.ix Tryz.underlying45 sz105 rfl rfl hp5 hq6) rfl ?_;refine go ?_;refine LW.l (Ldr.old w0 ag3 rfl (hk11 0 _ rfl)) (S2.same _ hb12.1 hb12.2) rfl ?_;refine go ?_;refine CW.fl [0,1,5,18] fun e=>?_;refine cd (fun z13=>?_) fun z13=>?_
     · replace h:=bcT h z13;refine go ?_;cases oi h;exact ⟨trivial,rfl,_,rfl,⟨_,Res.one (resOne.t rfl),rfl,S2.pick [] rfl rfl⟩⟩
     replace h:=bcF h z13;refine go ?_;refine LW.u (Pur.ix Tryz.underlying45 sz105 rfl rfl hp5 hq6) rfl ?_;refine go ?_;refine LW.l (Ldr.old w0 ag3 rfl (hk11 1 _ rfl)) (S2.same _ hb12.1 hb12.2) rfl ?_;refine go ?_;refine cd (fun z14=>?_) fun z14=>?_
     · replace h:=bcT h z14;refine go ?_;cases oi h;exact ⟨trivial,rfl,_,rfl,⟨_,Res.one (resOne.t rfl),rfl,S2.pick [] rfl rfl⟩⟩
     replace h:=bcF h z14;refine go ?_;refine LW.u (Pur.ix Tryz.underlying45 sz105 rfl rfl hp5 hq6) rfl ?_;refine go ?_;refine LW.l (Ldr.old w0 ag3 rfl (hk11 2 _ rfl)) (S2.same _ hb12.1 hb12.2) rfl ?_;refine go ?_;refine CW.fl [0,1,5,36] fun e=>?_;refine cd (fun z15=>?_) fun z15=>?_
     · replace h:=bcT h z15;refine go ?_;cases oi h;exact ⟨trivial,rfl,_,rfl,⟨_,Res.one (resOne.t rfl),rfl,S2.pick [] rfl rfl⟩⟩
     replace h:=bcF h z15;refine go ?_;refine LW.u (Pur.ix Tryz.underlying45 sz105 rfl rfl hp5 hq6) rfl ?_;refine go ?_;refine LW.l (Ldr.old w0 ag3 rfl (hk11 3 _ rfl)) (S2.same _ hb12.1 hb12.2) rfl ?_;refine go ?_;refine cd (fun z16=>?_) fun z16=>?_
     · replace h:=bcT h z16;refine go ?_;cases oi h;exact ⟨trivial,rfl,_,rfl,⟨_,Res.one (resOne.t rfl),rfl,S2.pick [] rfl rfl⟩⟩
     replace h:=bcF h z16;refine go ?_;refine LW.u (Pur.ix Tryz.underlying45 sz105 rfl rfl hp5 hq6) rfl ?_;refine go ?_;refine LW.l (Ldr.old w0 ag3 rfl (hk11 4 _ rfl)) (S2.same _ hb12.1 hb12.2) rfl ?_;refine go ?_;refine CW.fl [0,1,5,54] fun e=>?_;refine cd (fun z17=>?_) fun z17=>?_
     · replace h:=bcT h z17;refine go ?_;cases oi h;exact ⟨trivial,rfl,_,rfl,⟨_,Res.one (resOne.t rfl),rfl,S2.pick [] rfl rfl⟩⟩
     replace h:=bcF h z17;refine go ?_;refine LW.u (Pur.ix Tryz.underlying45 sz105 rfl rfl hp5 hq6) rfl ?_;refine go ?_;refine LW.l (Ldr.old w0 ag3 rfl (hk11 5 _ rfl)) (S2.same _ hb12.1 hb12.2) rfl ?_;refine go ?_;refine cd (fun z18=>?_) fun z18=>?_
     · replace h:=bcT h z18;refine go ?_;cases oi h;exact ⟨trivial,rfl,_,rfl,⟨_,Res.one (resOne.t rfl),rfl,S2.pick [] rfl rfl⟩⟩
     replace h:=bcF h z18;refine go ?_;cases oi h;exact ⟨rfl,⟨⟨rfl,rfl,rfl,trivial⟩,S2.pick [] rfl rfl⟩⟩
   replace h:=bcF h z3;refine go ?_;cases oi h;exact ⟨trivial,rfl,⟨⟨rfl,trivial⟩,S2.pick [] rfl rfl⟩⟩
 intro x e w21 hM;rcases o19 with o19 | r22
 · obtain ⟨rfl,hM⟩:=hM;obtain ⟨hE,S3⟩:=hM;obtain ⟨e,rfl⟩:=hE.out;have h:=h20;refine go ?_;cases h;exact fi S3
 obtain ⟨rfl,u,rfl,hM⟩:=hM;cases h20;exact And.intro trivial hM
theorem W_l_szLabel {w0:World} {N:Nat} {x0:DLabel} {x1:Int} {r:Int} (h:F_l_szLabel N x0 x1=some r) {a0_0:Ad} {n0_0 c0_0:Nat} (hn0_0:n0_0=x0.levels.length) (hr0_0:rdS (Bor w0 []) w0 a0_0 c0_0 x0.levels) :
    Ret Tryz.prog 13 #[.agg #[vS a0_0 n0_0 c0_0],vI x1] w0 (fun v w=>v=vI r∧St w0 [] w []):=by
 subst hn0_0;unfold F_l_szLabel at h;refine Ret.fn Tryz.func13 fun e=>?_;have S1:=St.start w0;refine go ?_;refine LW.bo S1 fun g1 w2 S2=>?_;refine go ?_;replace ⟨y3,hy3,h⟩:=obind h;refine LW.c0 (W_l_szIntS hy3 rfl (S2.rB hr0_0)) S2 fun w4 S3=>?_;refine go ?_;refine cd (fun z5=>?_) fun z5=>?_
 · replace h:=bcT h z5;refine go ?_;cases h;exact fi S3
 replace h:=bcF h z5;refine go ?_;cases h;exact fi S3
theorem W_l_szObj {w0:World} {N:Nat} {x0:DObj} {x1:Int} {r:Int} (h:F_l_szObj N x0 x1=some r) {a0_10:Ad} {n0_10 c0_10:Nat} (hn0_10:n0_10=x0.links.length) (hr0_10:rdS (Bor w0 []) w0 a0_10 c0_10 x0.links) {a0_11:Ad} {n0_11 c0_11:Nat} (hn0_11:n0_11=x0.data.length) (hr0_11:rdS (Bor w0 []) w0 a0_11 c0_11 x0.data) {a0_12:Ad} {n0_12 c0_12:Nat} (hn0_12:n0_12=x0.queue.length) (hr0_12:rdS (Bor w0 []) w0 a0_12 c0_12 x0.queue) :
    Ret Tryz.prog 123 #[.agg #[vI x0.gen,vI x0.kind,vI x0.box,vI x0.res,vI x0.til,vI x0.pages,vI x0.wait,vI x0.got,vI x0.ran,.bool x0.mark,vS a0_10 n0_10 c0_10,vS a0_11 n0_11 c0_11,vS a0_12 n0_12 c0_12],vI x1] w0 (fun v w=>v=vI r∧St w0 [] w []):=by
 subst hn0_10 hn0_11 hn0_12;unfold F_l_szObj at h;refine Ret.fn Tryz.func123 fun e=>?_;have S1:=St.start w0;refine go ?_;refine LW.bo S1 fun g1 w2 S2=>?_;refine go ?_;replace ⟨y3,hy3,h⟩:=obind h;refine LW.c0 (W_l_szIntS hy3 rfl (S2.rB hr0_10)) S2 fun w4 S3=>?_;refine go ?_;refine cd (fun z5=>?_) fun z5=>?_
 · replace h:=bcT h z5;refine go ?_;cases h;exact fi S3
 replace h:=bcF h z5;refine go ?_;replace ⟨y6,hy6,h⟩:=obind h;refine LW.c0 (W_l_szIntS hy6 rfl (S3.rB hr0_11)) S3 fun w7 S4=>?_;refine go ?_;refine CW.fl [1,2,16] fun e=>?_;refine cd (fun z8=>?_) fun z8=>?_
 · replace h:=bcT h z8;refine go ?_;cases h;exact fi S4
 replace h:=bcF h z8;refine go ?_;replace ⟨y9,hy9,h⟩:=obind h;refine LW.c0 (W_l_szMsgS hy9 rfl (S4.rB hr0_12)) S4 fun w10 S5=>?_;refine go ?_;refine cd (fun z11=>?_) fun z11=>?_
 · replace h:=bcT h z11;refine go ?_;cases h;exact fi S5
 replace h:=bcF h z11;refine go ?_;cases h;exact fi S5
theorem W_l_szGc {w0:World} {N:Nat} {x0:DGc} {x1:Int} {r:Int} (h:F_l_szGc N x0 x1=some r) {a0_3:Ad} {n0_3 c0_3:Nat} (hn0_3:n0_3=x0.grey.length) (hr0_3:rdS (Bor w0 []) w0 a0_3 c0_3 x0.grey) :
    Ret Tryz.prog 59 #[.agg #[vI x0.phase,vI x0.pos,vI x0.round,vS a0_3 n0_3 c0_3],vI x1] w0 (fun v w=>v=vI r∧St w0 [] w []):=by
 subst hn0_3;unfold F_l_szGc at h;refine Ret.fn Tryz.func59 fun e=>?_;have S1:=St.start w0;refine go ?_;refine LW.bo S1 fun g1 w2 S2=>?_;refine go ?_;replace ⟨y3,hy3,h⟩:=obind h;refine LW.c0 (W_l_szIntS hy3 rfl (S2.rB hr0_3)) S2 fun w4 S3=>?_;refine go ?_;refine cd (fun z5=>?_) fun z5=>?_
 · replace h:=bcT h z5;refine go ?_;cases h;exact fi S3
 replace h:=bcF h z5;refine go ?_;cases h;exact fi S3
theorem W_l_toLabel {w0:World} {N:Nat} {x0:DLabel} {r:DLabel} (h:F_l_toLabel N x0=some r) {a0_0:Ad} {n0_0 c0_0:Nat} (hn0_0:n0_0=x0.levels.length) (hr0_0:rdS (Bor w0 []) w0 a0_0 c0_0 x0.levels) :
    Ret Tryz.prog 30 #[.agg #[vS a0_0 n0_0 c0_0]] w0 (fun v w=>∃ ar0_0 cr0_0,v=.agg #[vS ar0_0 r.levels.length cr0_0]∧St w0 [] w [sl ar0_0 cr0_0 r.levels]):=by
 subst hn0_0;unfold F_l_toLabel at h;refine Ret.fn Tryz.func30 fun e=>?_;have S1:=St.start w0;refine go ?_;refine LW.bo S1 fun g1 w2 S2=>?_;refine LW.al S2 fun g3 w4 S3=>?_;refine go ?_;refine LW.al S3 fun g5 w6 S4=>?_;refine go ?_;replace ⟨y7,hy7,h⟩:=obind h;refine LW.cl (W_l_toIntS hy7 rfl (S4.rB hr0_0)) ?_;rintro _ w10 ⟨a8,c9,rfl,hs⟩;have S5:=S4.add hs;refine go ?_;refine LW.st S5 1 fun w11 S6=>?_;refine go ?_;refine LW.st S6 2 fun w12 S7=>?_;refine go ?_;cases h;exact And.intro trivial ⟨_,Res.one (resOne.b S7 2 rfl ag39 rfl rfl),a8,c9,rfl,S7.pick [0] rfl rfl⟩
theorem W_l_toRes {w0:World} {N:Nat} {x0:DRes} {r:DRes} (h:F_l_toRes N x0=some r) :
    Ret Tryz.prog 88 #[.agg #[.bool x0.live,vI x0.parent,vI x0.bal.pages,vI x0.bal.rent,vI x0.bal.cpu]] w0 (fun v w=>v=.agg #[.bool r.live,vI r.parent,vI r.bal.pages,vI r.bal.rent,vI r.bal.cpu]∧St w0 [] w []):=by
 unfold F_l_toRes at h;refine Ret.fn Tryz.func88 fun e=>?_;have S1:=St.start w0;refine go ?_;refine LW.bo S1 fun g1 w2 S2=>?_;refine LW.al S2 fun g3 w4 S3=>?_;refine go ?_;refine LW.al S3 fun g5 w6 S4=>?_;refine go ?_;refine LW.st S4 0 fun w7 S5=>?_;refine go ?_;refine LW.st S5 0 fun w8 S6=>?_;refine go ?_;replace ⟨y9,hy9,h⟩:=obind h;refine LW.c0 (W_l_toAmt hy9) S6 fun w10 S7=>?_;refine go ?_;refine LW.st S7 0 fun w11 S8=>?_;refine go ?_;refine LW.st S8 1 fun w12 S9=>?_;refine go ?_;cases h;exact And.intro trivial ⟨_,Res.one (resOne.b S9 1 rfl ag130 rfl rfl),rfl,S9.pick [] rfl rfl⟩
theorem W_l_toMsgS {w0:World} {N:Nat} {x0:List DMsg} {r:(List DMsg)} (h:F_l_toMsgS N x0=some r) {a0_0:Ad} {n0_0 c0_0:Nat} (hn0_0:n0_0=x0.length) (hr0_0:rdS (Bor w0 []) w0 a0_0 c0_0 x0) :
    Ret Tryz.prog 168 #[vS a0_0 n0_0 c0_0] w0 (fun v w=>∃ ar0 cr0,v=vS ar0 r.length cr0∧St w0 [] w [sl ar0 cr0 r]):=by
 subst hn0_0;unfold F_l_toMsgS at h;refine Ret.fn Tryz.func168 fun e=>?_;have S1:=St.start w0;refine go ?_;replace ⟨y1,hy1,h⟩:=obind h;refine LW.mk sT108 rfl rfl hy1 S1 rfl ?_;intro a2 c3 w4 S2 hf;refine go ?_;obtain ⟨o27,ho27,h28⟩:=obind h;refine CW.ie ho27 0 (fun s5 e wb=>En e [(0,vS a0_0 x0.length c0_0),(3,vS a2 s5.1.length c3),(4,vI s5.2)]∧St w0 [] wb [sl a2 c3 s5.1]) ?_ ⟨⟨rfl,rfl,rfl,trivial⟩,S2.pick [0] rfl rfl⟩ ?_
 · intro s5 e w6 o hM h;obtain ⟨hE,S3⟩:=hM;obtain ⟨e,rfl⟩:=hE.out;refine go ?_;refine cd (fun z7=>?_) fun z7=>?_
   · replace h:=bcT h z7;refine go ?_;replace ⟨y8,hy8,h⟩:=obind h;obtain ⟨b11,o12,cs13,hae,hb16,hp9,hq10,hd14,hk15⟩:=hr0_0.idx hy8;subst hae;obtain rfl:=hd14;refine LW.u (Pur.ix Tryz.underlying150 sz178 rfl rfl hp9 hq10) rfl ?_;refine LW.l (Ldr.oldN w0 ag178 rfl rfl (fun j u hu=>hk15 j u hu)) (S3.same _ hb16.1 hb16.2) rfl ?_;replace ⟨y17,hy17,h⟩:=obind h;refine LW.c0 (W_l_toMsg hy17) S3 fun w18 S4=>?_;replace ⟨y19,hy19,h⟩:=obind h;obtain ⟨b22,o23,hae,hp20,hq21⟩:=S4.ownIdx (α:=DMsg) (i:=0) rfl hy19;subst hae;refine LW.u (Pur.ix Tryz.underlying108 sz127 rfl rfl hp20 hq21) rfl ?_;replace ⟨y24,hy24,h⟩:=obind h;refine LW.se 0 S4 0 hy19 hy24 (hM:=whF) fun w26 S5=>?_;refine go ?_;replace h:=oi h;subst h;exact ⟨rfl,⟨⟨rfl,(show (vS (some ⟨b22,o23,none⟩) s5.1.length c3:Value)=vS (some ⟨b22,o23,none⟩) y24.length c3 by rw [show s5.1.length=y24.length from (len_set (oi hy24))]),rfl,trivial⟩,S5.pick [0] rfl rfl⟩⟩
   replace h:=bcF h z7;refine go ?_;cases oi h;exact ⟨trivial,rfl,⟨⟨rfl,rfl,rfl,trivial⟩,S3.pick [0] rfl rfl⟩⟩
 rintro e w29 ⟨hE,S6⟩;obtain ⟨e,rfl⟩:=hE.out;have h:=h28;refine go ?_;cases h;exact And.intro trivial ⟨_,Res.one (resOne.t rfl),a2,c3,rfl,S6.pick [0] rfl rfl⟩
theorem W_l_toGc {w0:World} {N:Nat} {x0:DGc} {r:DGc} (h:F_l_toGc N x0=some r) {a0_3:Ad} {n0_3 c0_3:Nat} (hn0_3:n0_3=x0.grey.length) (hr0_3:rdS (Bor w0 []) w0 a0_3 c0_3 x0.grey) :
    Ret Tryz.prog 90 #[.agg #[vI x0.phase,vI x0.pos,vI x0.round,vS a0_3 n0_3 c0_3]] w0 (fun v w=>∃ ar0_3 cr0_3,v=.agg #[vI r.phase,vI r.pos,vI r.round,vS ar0_3 r.grey.length cr0_3]∧St w0 [] w [sl ar0_3 cr0_3 r.grey]):=by
 subst hn0_3;unfold F_l_toGc at h;refine Ret.fn Tryz.func90 fun e=>?_;have S1:=St.start w0;refine go ?_;refine LW.bo S1 fun g1 w2 S2=>?_;refine LW.al S2 fun g3 w4 S3=>?_;refine go ?_;refine LW.al S3 fun g5 w6 S4=>?_;refine go ?_;refine LW.st S4 0 fun w7 S5=>?_;refine go ?_;refine LW.st S5 0 fun w8 S6=>?_;refine go ?_;refine LW.st S6 0 fun w9 S7=>?_;refine go ?_;replace ⟨y10,hy10,h⟩:=obind h;refine LW.cl (W_l_toIntS hy10 rfl (S7.rB hr0_3)) ?_;rintro _ w13 ⟨a11,c12,rfl,hs⟩;have S8:=S7.add hs;refine go ?_;refine LW.st S8 1 fun w14 S9=>?_;refine go ?_;refine LW.st S9 2 fun w15 S10=>?_;refine go ?_;cases h;exact And.intro trivial ⟨_,Res.one (resOne.b S10 2 rfl ag42 rfl rfl),a11,c12,rfl,S10.pick [0] rfl rfl⟩
theorem W_l_toTapS {w0:World} {N:Nat} {x0:List DTap} {r:(List DTap)} (h:F_l_toTapS N x0=some r) {a0_0:Ad} {n0_0 c0_0:Nat} (hn0_0:n0_0=x0.length) (hr0_0:rdS (Bor w0 []) w0 a0_0 c0_0 x0) :
    Ret Tryz.prog 34 #[vS a0_0 n0_0 c0_0] w0 (fun v w=>∃ ar0 cr0,v=vS ar0 r.length cr0∧St w0 [] w [sl ar0 cr0 r]):=by
 subst hn0_0;unfold F_l_toTapS at h;refine Ret.fn Tryz.func34 fun e=>?_;have S1:=St.start w0;refine go ?_;replace ⟨y1,hy1,h⟩:=obind h;refine LW.mk sT45 rfl rfl hy1 S1 rfl ?_;intro a2 c3 w4 S2 hf;refine go ?_;obtain ⟨o27,ho27,h28⟩:=obind h;refine CW.ie ho27 0 (fun s5 e wb=>En e [(0,vS a0_0 x0.length c0_0),(3,vS a2 s5.1.length c3),(4,vI s5.2)]∧St w0 [] wb [sl a2 c3 s5.1]) ?_ ⟨⟨rfl,rfl,rfl,trivial⟩,S2.pick [0] rfl rfl⟩ ?_
 · intro s5 e w6 o hM h;obtain ⟨hE,S3⟩:=hM;obtain ⟨e,rfl⟩:=hE.out;refine go ?_;refine cd (fun z7=>?_) fun z7=>?_
   · replace h:=bcT h z7;refine go ?_;replace ⟨y8,hy8,h⟩:=obind h;obtain ⟨b11,o12,cs13,hae,hb16,hp9,hq10,hd14,hk15⟩:=hr0_0.idx hy8;subst hae;obtain rfl:=hd14;refine LW.u (Pur.ix Tryz.underlying31 sz138 rfl rfl hp9 hq10) rfl ?_;refine LW.l (Ldr.oldN w0 ag138 rfl rfl (fun j u hu=>hk15 j u hu)) (S3.same _ hb16.1 hb16.2) rfl ?_;replace ⟨y17,hy17,h⟩:=obind h;refine LW.c0 (W_l_toTap hy17) S3 fun w18 S4=>?_;replace ⟨y19,hy19,h⟩:=obind h;obtain ⟨b22,o23,hae,hp20,hq21⟩:=S4.ownIdx (α:=DTap) (i:=0) rfl hy19;subst hae;refine LW.u (Pur.ix Tryz.underlying45 sz105 rfl rfl hp20 hq21) rfl ?_;replace ⟨y24,hy24,h⟩:=obind h;refine LW.se 0 S4 0 hy19 hy24 (hM:=whF) fun w26 S5=>?_;refine go ?_;replace h:=oi h;subst h;exact ⟨rfl,⟨⟨rfl,(show (vS (some ⟨b22,o23,none⟩) s5.1.length c3:Value)=vS (some ⟨b22,o23,none⟩) y24.length c3 by rw [show s5.1.length=y24.length from (len_set (oi hy24))]),rfl,trivial⟩,S5.pick [0] rfl rfl⟩⟩
   replace h:=bcF h z7;refine go ?_;cases oi h;exact ⟨trivial,rfl,⟨⟨rfl,rfl,rfl,trivial⟩,S3.pick [0] rfl rfl⟩⟩
 rintro e w29 ⟨hE,S6⟩;obtain ⟨e,rfl⟩:=hE.out;have h:=h28;refine go ?_;cases h;exact And.intro trivial ⟨_,Res.one (resOne.t rfl),a2,c3,rfl,S6.pick [0] rfl rfl⟩
theorem W_s_l8Copy {w0:World} {N:Nat} {x0:List DObj} {r:(List DObj)} (h:F_s_l8Copy N x0=some r) {a0_0:Ad} {n0_0 c0_0:Nat} (hn0_0:n0_0=x0.length) (hr0_0:rdS (Bor w0 []) w0 a0_0 c0_0 x0) :
    Ret Tryz.prog 124 #[vS a0_0 n0_0 c0_0] w0 (fun v w=>∃ ar0 cr0,v=vS ar0 r.length cr0∧St w0 [] w [sl ar0 cr0 r]):=by
 subst hn0_0;unfold F_s_l8Copy at h;refine Ret.fn Tryz.func124 fun e=>?_;have S1:=St.start w0;refine go ?_;refine LW.bsl (α:=DObj) (vs:=[]) (cs:=#[]) (l:=([]:List DObj)) rfl (by kernel_rfl) rfl rfl rfl (fun w=>rfl) S1 rfl ?_;intro a1 c2 w3 S2 hf;refine go ?_;obtain ⟨o38,ho38,h39⟩:=obind h;refine CW.ie ho38 0 (fun s4 e wb=>∃ (s4a0:Ad) (s4c0:Nat),En e [(0,vS a0_0 x0.length c0_0),(3,vS s4a0 s4.1.length s4c0),(4,vI s4.2)]∧St w0 [] wb [sl s4a0 s4c0 s4.1]) ?_ ⟨a1,c2,⟨rfl,rfl,rfl,trivial⟩,S2.pick [0] rfl rfl⟩ ?_
 · intro s4 e w5 o hM h;obtain ⟨s4a0,s4c0,hE,S3⟩:=hM;obtain ⟨e,rfl⟩:=hE.out;refine go ?_;refine cd (fun z6=>?_) fun z6=>?_
   · replace h:=bcT h z6;refine go ?_;replace ⟨y7,hy7,h⟩:=obind h;obtain ⟨b10,o11,cs12,hae,hb15,hp8,hq9,hd13,hk14⟩:=hr0_0.idx hy7;subst hae;obtain ⟨a16,c17,a19,c20,a22,c23,rfl,hr18,hr21,hr24⟩:=hd13;refine LW.u (Pur.ix Tryz.underlying41 sz110 rfl rfl hp8 hq9) rfl ?_;refine LW.l (Ldr.oldN w0 ag110 rfl rfl (fun j u hu=>hk14 j u hu)) (S3.same _ hb15.1 hb15.2) rfl ?_;replace ⟨y25,hy25,h⟩:=obind h;refine LW.cl (W_s_l8Obj hy25 rfl (S3.rB hr18) rfl (S3.rB hr21) rfl (S3.rB hr24)) ?_;rintro _ w32 ⟨a26,c27,a28,c29,a30,c31,rfl,hs⟩;have S4:=S3.add hs;have S5:=S4.pick (M:=[sl a26 c27 y25.links,sl a28 c29 y25.data,sl a30 c31 y25.queue]++[sl s4a0 s4c0 s4.1]) [0,1,2,3] rfl rfl;replace ⟨y33,hy33,h⟩:=obind h;refine LW.app1 (M:=[sl a26 c27 y25.links,sl a28 c29 y25.data,sl a30 c31 y25.queue]) (L:=[sl s4a0 s4c0 s4.1]) (vs:=#[vI y25.gen,vI y25.kind,vI y25.box,vI y25.res,vI y25.til,vI y25.pages,vI y25.wait,vI y25.got,vI y25.ran,.bool y25.mark,vS a26 y25.links.length c27,vS a28 y25.data.length c29,vS a30 y25.queue.length c31]) (i:=0) sT41 rfl (by kernel_rfl) rfl rfl hy33 S5 rfl (fun w G hG=>⟨a26,c27,a28,c29,a30,c31,rfl,hG⟩) rfl rfl ?_;intro v36 a34 c35 w37 S6 hf;refine go ?_;cases oi h;exact ⟨rfl,⟨a34,c35,⟨rfl,rfl,rfl,trivial⟩,S6.pick [0] rfl rfl⟩⟩
   replace h:=bcF h z6;refine go ?_;cases oi h;exact ⟨trivial,rfl,⟨s4a0,s4c0,⟨rfl,rfl,rfl,trivial⟩,S3.pick [0] rfl rfl⟩⟩
 rintro e w40 ⟨s4a0,s4c0,hE,S7⟩;obtain ⟨e,rfl⟩:=hE.out;have h:=h39;refine go ?_;cases h;exact And.intro trivial ⟨_,Res.one (resOne.t rfl),s4a0,s4c0,rfl,S7.pick [0] rfl rfl⟩
theorem W_s_LabelOk {w0:World} {N:Nat} {x0:DLabel} {r:Bool} (h:F_s_LabelOk N x0=some r) {a0_0:Ad} {n0_0 c0_0:Nat} (hn0_0:n0_0=x0.levels.length) (hr0_0:rdS (Bor w0 []) w0 a0_0 c0_0 x0.levels) :
    Ret Tryz.prog 62 #[.agg #[vS a0_0 n0_0 c0_0]] w0 (fun v w=>v=.bool r∧St w0 [] w []):=by
 subst hn0_0;unfold F_s_LabelOk at h;refine Ret.fn Tryz.func62 fun e=>?_;have S1:=St.start w0;refine go ?_;refine LW.bo S1 fun g1 w2 S2=>?_;refine go ?_;refine cd (fun z3=>?_) fun z3=>?_
 · replace h:=bcT h z3;refine go ?_;cases h;exact fi S2
 replace h:=bcF h z3;refine go ?_;obtain ⟨o19,ho19,h20⟩:=obind h;refine CW.mono (CW.lx [1] [0] [] 0 (fun s4=>[(3,vI s4)]) (RT Tryz.prog Tryz.f62.results (fun u=>.bool u) w0 []) S2 ho19 (hb:=?_)) ?_
 · intro s4 e w5 o S3 h;refine go ?_;refine cd (fun z6=>?_) fun z6=>?_
   · replace h:=bcT h z6;refine go ?_;replace ⟨y7,hy7,h⟩:=obind h;obtain ⟨b10,o11,cs12,hae,hb15,hp8,hq9,hd13,hk14⟩:=hr0_0.idx hy7;subst hae;obtain rfl:=hd13;refine LW.u (Pur.ix Tryz.underlying22 sz3 rfl rfl hp8 hq9) rfl ?_;refine LW.l (Ldr.old w0 ag3 rfl (hk14 0 _ rfl)) (S3.same _ hb15.1 hb15.2) rfl ?_;replace ⟨y16,hy16,h⟩:=obind h;refine LW.c0 (W_s_l1In hy16) S3 fun w17 S4=>?_;refine go ?_;refine CW.fl [1,3,21] fun e=>?_;refine cd (fun z18=>?_) fun z18=>?_
     · replace h:=bcT h z18;refine go ?_;cases oi h;exact ⟨trivial,rfl,_,rfl,⟨_,Res.one (resOne.t rfl),rfl,S4.pick [] rfl rfl⟩⟩
     replace h:=bcF h z18;refine go ?_;cases oi h;exact ⟨rfl,⟨⟨rfl,rfl,trivial⟩,S4.pick [0] rfl rfl⟩⟩
   replace h:=bcF h z6;refine go ?_;cases oi h;exact ⟨trivial,rfl,⟨trivial,S3.pick [0] rfl rfl⟩⟩
 intro x e w21 hM;rcases o19 with o19 | r22
 · obtain ⟨rfl,hM⟩:=hM;obtain ⟨hE,S5⟩:=hM;obtain ⟨e,rfl⟩:=hE.out;rw [show e=upds e [] from rfl];have h:=h20;refine go ?_;cases h;exact fi S5
 obtain ⟨rfl,u,rfl,hM⟩:=hM;cases h20;exact And.intro trivial hM
theorem W_s_OwnOk {w0:World} {N:Nat} {x0:List Int} {r:Bool} (h:F_s_OwnOk N x0=some r) {a0_0:Ad} {n0_0 c0_0:Nat} (hn0_0:n0_0=x0.length) (hr0_0:rdS (Bor w0 []) w0 a0_0 c0_0 x0) :
    Ret Tryz.prog 63 #[vS a0_0 n0_0 c0_0] w0 (fun v w=>v=.bool r∧St w0 [] w []):=by
 subst hn0_0;unfold F_s_OwnOk at h;refine Ret.fn Tryz.func63 fun e=>?_;have S1:=St.start w0;refine go ?_;obtain ⟨o30,ho30,h31⟩:=obind h;refine CW.mono (CW.lx [0] [] [] 0 (fun s1=>[(3,vI s1)]) (RT Tryz.prog Tryz.f63.results (fun u=>.bool u) w0 []) S1 ho30 (hb:=?_)) ?_
 · intro s1 e w2 o S2 h;refine go ?_;refine cd (fun z3=>?_) fun z3=>?_
   · replace h:=bcT h z3;refine gs ?_;refine CW.block ?_;refine gs ?_;obtain ⟨j4,hj4,h5⟩:=obind h;refine CW.jn [0,3] [] [(31,.bool j4)] S2 (h1:=?_) (h2:=?_)
     · have h:=hj4;refine CW.draw (by kernel_rfl) ?_;have S3:=S2.drew;refine go ?_;replace ⟨y6,hy6,h⟩:=obind h;obtain ⟨b9,o10,cs11,hae,hb14,hp7,hq8,hd12,hk13⟩:=hr0_0.idx hy6;subst hae;obtain rfl:=hd12;refine AW.u (i:=2) rfl (by kernel_rfl) rfl rfl (Pur.ix Tryz.underlying22 sz3 rfl rfl hp7 hq8) ?_;refine AW.take (i:=3) rfl (by kernel_rfl) rfl rfl (Ldr.old w0 ag3 rfl (hk13 0 _ rfl)) (S3.same _ hb14.1 hb14.2) ?_;replace ⟨y15,hy15,h⟩:=obind h;have q:=W_s_l1In (w0:=w2.drew) hy15;refine jO 4 ?_;refine LW.call pl20 rfl rfl ?_;refine Ret.mono q ?_;rintro _ w16 ⟨rfl,hs⟩;have S4:=S3.add hs;refine jN (jW jZ) ?_;refine go ?_;rcases bcases (!y15) with z17 | z17
       · replace h:=bcT h z17;refine go ?_;cases oi h;exact ⟨⟨rfl,rfl,rfl,trivial⟩,S4.pick [] rfl rfl⟩
       replace h:=bcF h z17;refine go ?_;rcases bcases (decide (s1 > 0)) with z18 | z18
       · replace h:=bcT h z18;refine go ?_;refine AW.u (i:=12) rfl (by kernel_rfl) (want_of rfl rfl z18) rfl (Pur.ix Tryz.underlying22 sz3 rfl rfl hp7 hq8) ?_;refine AW.take (i:=13) rfl (by kernel_rfl) (want_of rfl rfl z18) rfl (Ldr.old w0 ag3 rfl (hk13 0 _ rfl)) (S4.same _ hb14.1 hb14.2) ?_;refine go ?_;replace ⟨y19,hy19,h⟩:=obind h;obtain ⟨b22,o23,cs24,hae,hb27,hp20,hq21,hd25,hk26⟩:=hr0_0.idx hy19;cases hae;obtain rfl:=hd25;refine AW.u (i:=17) rfl (by kernel_rfl) (want_of rfl rfl z18) rfl (Pur.ix Tryz.underlying22 sz3 rfl rfl hp20 hq21) ?_;refine AW.take (i:=18) rfl (by kernel_rfl) (want_of rfl rfl z18) rfl (Ldr.old w0 ag3 rfl (hk26 0 _ rfl)) (S4.same _ hb27.1 hb27.2) ?_;refine go ?_;cases oi h;exact ⟨⟨rfl,rfl,rfl,trivial⟩,S4.pick [] rfl rfl⟩
       replace h:=bcF h z18;refine go ?_;cases oi h;exact ⟨⟨rfl,rfl,rfl,trivial⟩,S4.pick [] rfl rfl⟩
     intro e w28 S5;have h:=h5;refine go ?_;refine cd (fun z29=>?_) fun z29=>?_
     · replace h:=bcT h z29;refine go ?_;cases oi h;exact ⟨trivial,rfl,_,rfl,⟨_,Res.one (resOne.t rfl),rfl,S5.pick [] rfl rfl⟩⟩
     replace h:=bcF h z29;refine go ?_;cases oi h;exact ⟨rfl,⟨⟨rfl,rfl,trivial⟩,S5.pick [] rfl rfl⟩⟩
   replace h:=bcF h z3;refine go ?_;cases oi h;exact ⟨trivial,rfl,⟨trivial,S2.pick [] rfl rfl⟩⟩
 intro x e w32 hM;rcases o30 with o30 | r33
 · obtain ⟨rfl,hM⟩:=hM;obtain ⟨hE,S6⟩:=hM;obtain ⟨e,rfl⟩:=hE.out;rw [show e=upds e [] from rfl];have h:=h31;refine go ?_;cases h;exact fi S6
 obtain ⟨rfl,u,rfl,hM⟩:=hM;cases h31;exact And.intro trivial hM
theorem W_s_l5In {w0:World} {N:Nat} {x0:Int} {r:Bool} (h:F_s_l5In N x0=some r) :
    Ret Tryz.prog 82 #[vI x0] w0 (fun v w=>v=.bool r∧St w0 [] w []):=by
 unfold F_s_l5In at h;refine Ret.fn Tryz.func82 fun e=>?_;have S1:=St.start w0;refine go ?_;replace ⟨y1,hy1,h⟩:=obind h;refine LW.c0 (W_s_l1In hy1) S1 fun w2 S2=>?_;refine go ?_;cases h;exact fi S2
theorem W_s_l6Res {w0:World} {N:Nat} {x0:Int} {r:Bool} (h:F_s_l6Res N x0=some r) :
    Ret Tryz.prog 71 #[vI x0] w0 (fun v w=>v=.bool r∧St w0 [] w []):=by
 unfold F_s_l6Res at h;refine Ret.fn Tryz.func71 fun e=>?_;have S1:=St.start w0;refine go ?_;replace ⟨y1,hy1,h⟩:=obind h;refine LW.c0 (W_s_l1In hy1) S1 fun w2 S2=>?_;refine go ?_;cases h;exact fi S2
theorem W_s_l8Handle {w0:World} {N:Nat} {x0:Int} {r:Bool} (h:F_s_l8Handle N x0=some r) :
    Ret Tryz.prog 131 #[vI x0] w0 (fun v w=>v=.bool r∧St w0 [] w []):=by
 unfold F_s_l8Handle at h;refine Ret.fn Tryz.func131 fun e=>?_;have S1:=St.start w0;refine go ?_;replace ⟨y1,hy1,h⟩:=obind h;refine LW.c0 (W_s_l1In hy1) S1 fun w2 S2=>?_;refine go ?_;cases h;exact fi S2
theorem W_s_l8Slot {w0:World} {N:Nat} {x0:Int} {r:Bool} (h:F_s_l8Slot N x0=some r) :
    Ret Tryz.prog 66 #[vI x0] w0 (fun v w=>v=.bool r∧St w0 [] w []):=by
 unfold F_s_l8Slot at h;refine Ret.fn Tryz.func66 fun e=>?_;have S1:=St.start w0;refine go ?_;replace ⟨y1,hy1,h⟩:=obind h;refine LW.c0 (W_s_l1In hy1) S1 fun w2 S2=>?_;refine go ?_;cases h;exact fi S2
theorem W_s_l10Shade {w0:World} {F:List Nat} {N:Nat} {x0:DHeap} {x1:Int} {r:DHeap} (h:F_s_l10Shade N x0 x1=some r) {a0_0:Ad} {n0_0 c0_0:Nat} (hn0_0:n0_0=x0.arena.length) {a0_4:Ad} {n0_4 c0_4:Nat} (hn0_4:n0_4=x0.gc.grey.length) (hS:St w0 F w0 [sl a0_0 c0_0 x0.arena,sl a0_4 c0_4 x0.gc.grey]) :
    Ret Tryz.prog 133 #[.agg #[vS a0_0 n0_0 c0_0,vI x0.gc.phase,vI x0.gc.pos,vI x0.gc.round,vS a0_4 n0_4 c0_4],vI x1] w0 (fun v w=>∃ ar0_0 cr0_0, ∃ ar0_4 cr0_4,v=.agg #[vS ar0_0 r.arena.length cr0_0,vI r.gc.phase,vI r.gc.pos,vI r.gc.round,vS ar0_4 r.gc.grey.length cr0_4]∧St w0 F w [sl ar0_0 cr0_0 r.arena,sl ar0_4 cr0_4 r.gc.grey]):=by
 subst hn0_0 hn0_4;unfold F_s_l10Shade at h;refine Ret.fn Tryz.func133 fun e=>?_;refine go ?_;refine LW.bo hS fun g1 w2 S1=>?_;refine LW.al S1 fun g3 w4 S2=>?_;refine gs ?_;obtain ⟨j5,hj5,h6⟩:=obind h;refine CW.jn [1,2,4] [0,1,2,3] [(26,.bool j5)] S2 (h1:=?_) (h2:=?_)
 · have h:=hj5;refine go ?_;rcases bcases (x0.gc.phase==0) with z7 | z7
   · replace h:=bcT h z7;refine go ?_;replace ⟨y8,hy8,h⟩:=obind h;obtain ⟨b11,o12,hae,hp9,hq10⟩:=S2.ownIdx (α:=DObj) (i:=2) rfl hy8;subst hae;refine go ?_;refine LW.u (Pur.ix Tryz.underlying41 sz110 rfl rfl hp9 hq10) rfl ?_;refine go ?_;obtain ⟨F13,ho14,S3⟩:=S2.freeze (α:=DObj) 2 rfl;obtain ⟨b15,o16,cs17,hae,hb20,_,_,hd18,hk19⟩:=ho14.rdF.idx hy8;cases hae;obtain ⟨a21,c22,a24,c25,a27,c28,rfl,hr23,hr26,hr29⟩:=hd18;refine go ?_;refine LW.l (Ldr.old w4 ag3 rfl (hk19 1 _ rfl)) (S3.zC 2 rfl hb20) rfl ?_;refine go ?_;rcases bcases (y8.kind != 0) with z30 | z30
     · replace h:=bcT h z30;refine go ?_;refine LW.u (Pur.ix Tryz.underlying41 sz110 rfl rfl hp9 hq10) rfl ?_;refine go ?_;refine LW.fl [1,2,4,18,23] fun e=>?_;refine go ?_;refine LW.l (Ldr.old w4 ag4 rfl (hk19 9 _ rfl)) (S3.zC 2 rfl hb20) rfl ?_;refine go ?_;have S4:=S3.thaw (α:=DObj) 2 rfl ho14;cases oi h;exact ⟨⟨rfl,rfl,rfl,rfl,trivial⟩,S4.pick [0,1,2,3] rfl rfl⟩
     replace h:=bcF h z30;refine go ?_;have S5:=S3.thaw (α:=DObj) 2 rfl ho14;cases oi h;exact ⟨⟨rfl,rfl,rfl,rfl,trivial⟩,S5.pick [0,1,2,3] rfl rfl⟩
   replace h:=bcF h z7;refine go ?_;cases oi h;exact ⟨⟨rfl,rfl,rfl,rfl,trivial⟩,S2.pick [0,1,2,3] rfl rfl⟩
 intro e w31 S6;have h:=h6;refine gs ?_;obtain ⟨j32,hj32,h33⟩:=obind h;refine CW.cut (fun e wb=>∃ (j32a0:Ad) (j32c0:Nat),En e [(2,.pointer (some ⟨g1,0,none⟩)),(4,.pointer (some ⟨g3,0,none⟩))]∧St w0 F wb [bx g3 44 [vS none 0 0,vI 0,vI 0,vI 0,vS none 0 0],bx g1 44 [vS a0_0 j32.1.length c0_0,vI x0.gc.phase,vI x0.gc.pos,vI x0.gc.round,vS j32a0 j32.2.length j32c0],sl a0_0 c0_0 j32.1,sl j32a0 j32c0 j32.2]) ?_ ?_
 · have h:=hj32;refine cd (fun z34=>?_) fun z34=>?_
   · replace h:=bcT h z34;refine go ?_;replace ⟨y35,hy35,h⟩:=obind h;obtain ⟨b38,o39,hae,hp36,hq37⟩:=S6.ownIdx (α:=DObj) (i:=2) rfl hy35;subst hae;refine LW.u (Pur.ix Tryz.underlying41 sz110 rfl rfl hp36 hq37) rfl ?_;refine go ?_;replace ⟨y40,hy40,h⟩:=obind h;refine LW.se 9 S6 2 hy35 hy40 (hM:=(leafF (fun w cs F hF=>by obtain ⟨q0,r0,q1,r1,q2,r2,rfl,hH⟩:=hF;exact ⟨q0,r0,q1,r1,q2,r2,rfl,hH⟩))) fun w42 S7=>?_;refine go ?_;replace ⟨y43,hy43,h⟩:=obind h;refine LW.c0 (W_s_l4Has hy43 rfl (S7.rI 3 rfl)) S7 fun w44 S8=>?_;refine go ?_;refine CW.fl [1,2,4,37] fun e=>?_;refine cd (fun z45=>?_) fun z45=>?_
     · replace h:=bcT h z45;refine go ?_;replace ⟨y46,hy46,h⟩:=obind h;refine LW.app1 (M:=[]) (L:=[bx g3 44 [vS none 0 0,vI 0,vI 0,vI 0,vS none 0 0],bx g1 44 [vS (some ⟨b38,o39,none⟩) x0.arena.length c0_0,vI x0.gc.phase,vI x0.gc.pos,vI x0.gc.round,vS a0_4 x0.gc.grey.length c0_4],sl (some ⟨b38,o39,none⟩) c0_0 y40,sl a0_4 c0_4 x0.gc.grey]) (vs:=#[vI x1]) (i:=3) sT22 rfl (by kernel_rfl) rfl rfl hy46 S8 rfl (fun w G hG=>by cases (show G=[] from hG);exact ⟨rfl,rfl⟩) rfl rfl ?_;intro v49 a47 c48 w50 S9 hf;refine go ?_;refine LW.st S9 1 fun w51 S10=>?_;refine go ?_;rw [show x0.arena.length=y40.length from (len_set (oi hy40))] at S10;cases oi h;exact ⟨a47,c48,⟨rfl,rfl,trivial⟩,S10.pick [0,1,2,3] rfl rfl⟩
     replace h:=bcF h z45;refine go ?_;rw [show x0.arena.length=y40.length from (len_set (oi hy40))] at S8;cases oi h;exact ⟨a0_4,c0_4,⟨rfl,rfl,trivial⟩,S8.pick [0,1,2,3] rfl rfl⟩
   replace h:=bcF h z34;refine go ?_;cases oi h;exact ⟨a0_4,c0_4,⟨rfl,rfl,trivial⟩,S6.pick [0,1,2,3] rfl rfl⟩
 rintro e w52 ⟨j32a0,j32c0,hE,S11⟩;obtain ⟨e,rfl⟩:=hE.out;have h:=h33;refine go ?_;refine LW.st S11 0 fun w53 S12=>?_;refine go ?_;cases h;exact And.intro trivial ⟨_,Res.one (resOne.b S12 0 rfl ag44 rfl rfl),a0_0,c0_0,j32a0,j32c0,rfl,S12.pick [2,3] rfl rfl⟩
theorem W_i_isPlace {w0:World} {N:Nat} {x0:Int} {r:Bool} (h:F_i_isPlace N x0=some r) :
    Ret Tryz.prog 138 #[vI x0] w0 (fun v w=>v=.bool r∧St w0 [] w []):=by
 unfold F_i_isPlace at h;refine Ret.fn Tryz.func138 fun e=>?_;have S1:=St.start w0;refine go ?_;replace ⟨y1,hy1,h⟩:=obind h;refine LW.c0 (W_i_within hy1) S1 fun w2 S2=>?_;refine go ?_;cases h;exact fi S2
theorem W_i_isPart {w0:World} {N:Nat} {x0:Int} {r:Bool} (h:F_i_isPart N x0=some r) :
    Ret Tryz.prog 37 #[vI x0] w0 (fun v w=>v=.bool r∧St w0 [] w []):=by
 unfold F_i_isPart at h;refine Ret.fn Tryz.func37 fun e=>?_;have S1:=St.start w0;refine go ?_;replace ⟨y1,hy1,h⟩:=obind h;refine LW.c0 (W_i_within hy1) S1 fun w2 S2=>?_;refine go ?_;cases h;exact fi S2
theorem W_i_LabelOk {w0:World} {N:Nat} {x0:DLabel} {r:Bool} (h:F_i_LabelOk N x0=some r) {a0_0:Ad} {n0_0 c0_0:Nat} (hn0_0:n0_0=x0.levels.length) (hr0_0:rdS (Bor w0 []) w0 a0_0 c0_0 x0.levels) :
    Ret Tryz.prog 93 #[.agg #[vS a0_0 n0_0 c0_0]] w0 (fun v w=>v=.bool r∧St w0 [] w []):=by
 subst hn0_0;unfold F_i_LabelOk at h;refine Ret.fn Tryz.func93 fun e=>?_;have S1:=St.start w0;refine go ?_;refine LW.bo S1 fun g1 w2 S2=>?_;refine go ?_;obtain ⟨o18,ho18,h19⟩:=obind h;refine CW.mono (CW.lx [1,6,7] [0] [1] 0 (fun s3=>[(8,vI s3)]) (RT Tryz.prog Tryz.f93.results (fun u=>.bool u) w0 []) S2 ho18 (hb:=?_)) ?_
 · intro s3 e w4 o S3 h;refine go ?_;refine cd (fun z5=>?_) fun z5=>?_
   · replace h:=bcT h z5;refine go ?_;replace ⟨y6,hy6,h⟩:=obind h;obtain ⟨b9,o10,cs11,hae,hb14,hp7,hq8,hd12,hk13⟩:=hr0_0.idx hy6;subst hae;obtain rfl:=hd12;refine LW.u (Pur.ix Tryz.underlying22 sz3 rfl rfl hp7 hq8) rfl ?_;refine LW.l (Ldr.old w0 ag3 rfl (hk13 0 _ rfl)) (S3.same _ hb14.1 hb14.2) rfl ?_;refine go ?_;replace ⟨y15,hy15,h⟩:=obind h;refine LW.c0 (W_i_within hy15) S3 fun w16 S4=>?_;refine go ?_;refine CW.fl [1,6,7,8,14] fun e=>?_;refine cd (fun z17=>?_) fun z17=>?_
     · replace h:=bcT h z17;refine go ?_;cases oi h;exact ⟨trivial,rfl,_,rfl,⟨_,Res.one (resOne.t rfl),rfl,S4.pick [] rfl rfl⟩⟩
     replace h:=bcF h z17;refine go ?_;cases oi h;exact ⟨rfl,⟨⟨rfl,rfl,rfl,rfl,trivial⟩,S4.pick [0] rfl rfl⟩⟩
   replace h:=bcF h z5;refine go ?_;cases oi h;exact ⟨trivial,rfl,⟨⟨rfl,trivial⟩,S3.pick [0] rfl rfl⟩⟩
 intro x e w20 hM;rcases o18 with o18 | r21
 · obtain ⟨rfl,hM⟩:=hM;obtain ⟨hE,S5⟩:=hM;obtain ⟨e,rfl⟩:=hE.out;have h:=h19;refine go ?_;cases h;exact fi S5
 obtain ⟨rfl,u,rfl,hM⟩:=hM;cases h19;exact And.intro trivial hM
theorem W_i_OwnOk {w0:World} {N:Nat} {x0:List Int} {r:Bool} (h:F_i_OwnOk N x0=some r) {a0_0:Ad} {n0_0 c0_0:Nat} (hn0_0:n0_0=x0.length) (hr0_0:rdS (Bor w0 []) w0 a0_0 c0_0 x0) :
    Ret Tryz.prog 94 #[vS a0_0 n0_0 c0_0] w0 (fun v w=>v=.bool r∧St w0 [] w []):=by
 subst hn0_0;unfold F_i_OwnOk at h;refine Ret.fn Tryz.func94 fun e=>?_;have S1:=St.start w0;refine go ?_;obtain ⟨o30,ho30,h31⟩:=obind h;refine CW.mono (CW.lx [0,5,6] [] [] 0 (fun s1=>[(7,vI s1)]) (RT Tryz.prog Tryz.f94.results (fun u=>.bool u) w0 []) S1 ho30 (hb:=?_)) ?_
 · intro s1 e w2 o S2 h;refine go ?_;refine cd (fun z3=>?_) fun z3=>?_
   · replace h:=bcT h z3;refine go ?_;replace ⟨y4,hy4,h⟩:=obind h;obtain ⟨b7,o8,cs9,hae,hb12,hp5,hq6,hd10,hk11⟩:=hr0_0.idx hy4;subst hae;obtain rfl:=hd10;refine LW.u (Pur.ix Tryz.underlying22 sz3 rfl rfl hp5 hq6) rfl ?_;refine LW.l (Ldr.old w0 ag3 rfl (hk11 0 _ rfl)) (S2.same _ hb12.1 hb12.2) rfl ?_;refine gs ?_;obtain ⟨j13,hj13,h14⟩:=obind h;refine CW.jn [0,5,6,7] [] [(27,.bool j13)] S2 (h1:=?_) (h2:=?_)
     · have h:=hj13;refine go ?_;replace ⟨y15,hy15,h⟩:=obind h;refine LW.c0 (W_i_within hy15) S2 fun w16 S3=>?_;refine go ?_;rcases bcases (!y15) with z17 | z17
       · replace h:=bcT h z17;refine go ?_;cases oi h;exact ⟨⟨rfl,rfl,rfl,rfl,rfl,trivial⟩,S3.pick [] rfl rfl⟩
       replace h:=bcF h z17;refine go ?_;rcases bcases (decide (s1 > 0)) with z18 | z18
       · replace h:=bcT h z18;refine go ?_;replace ⟨y19,hy19,h⟩:=obind h;obtain ⟨b22,o23,cs24,hae,hb27,hp20,hq21,hd25,hk26⟩:=hr0_0.idx hy19;cases hae;obtain rfl:=hd25;refine go ?_;refine LW.u (Pur.ix Tryz.underlying22 sz3 rfl rfl hp20 hq21) rfl ?_;refine LW.fl [0,4,5,6,7,15,18,22] fun e=>?_;refine go ?_;refine LW.l (Ldr.old w0 ag3 rfl (hk26 0 _ rfl)) (S3.same _ hb27.1 hb27.2) rfl ?_;refine go ?_;cases oi h;exact ⟨⟨rfl,rfl,rfl,rfl,rfl,trivial⟩,S3.pick [] rfl rfl⟩
       replace h:=bcF h z18;refine go ?_;cases oi h;exact ⟨⟨rfl,rfl,rfl,rfl,rfl,trivial⟩,S3.pick [] rfl rfl⟩
     intro e w28 S4;have h:=h14;refine go ?_;refine cd (fun z29=>?_) fun z29=>?_
     · replace h:=bcT h z29;refine go ?_;cases oi h;exact ⟨trivial,rfl,_,rfl,⟨_,Res.one (resOne.t rfl),rfl,S4.pick [] rfl rfl⟩⟩
     replace h:=bcF h z29;refine go ?_;cases oi h;exact ⟨rfl,⟨⟨rfl,rfl,rfl,rfl,trivial⟩,S4.pick [] rfl rfl⟩⟩
   replace h:=bcF h z3;refine go ?_;cases oi h;exact ⟨trivial,rfl,⟨trivial,S2.pick [] rfl rfl⟩⟩
 intro x e w32 hM;rcases o30 with o30 | r33
 · obtain ⟨rfl,hM⟩:=hM;obtain ⟨hE,S5⟩:=hM;obtain ⟨e,rfl⟩:=hE.out;rw [show e=upds e [] from rfl];have h:=h31;refine go ?_;cases h;exact fi S5
 obtain ⟨rfl,u,rfl,hM⟩:=hM;cases h31;exact And.intro trivial hM
theorem W_i_isAmount {w0:World} {N:Nat} {x0:Int} {r:Bool} (h:F_i_isAmount N x0=some r) :
    Ret Tryz.prog 142 #[vI x0] w0 (fun v w=>v=.bool r∧St w0 [] w []):=by
 unfold F_i_isAmount at h;refine Ret.fn Tryz.func142 fun e=>?_;have S1:=St.start w0;refine go ?_;replace ⟨y1,hy1,h⟩:=obind h;refine LW.c0 (W_i_within hy1) S1 fun w2 S2=>?_;refine go ?_;cases h;exact fi S2
theorem W_i_isSlot {w0:World} {N:Nat} {x0:Int} {r:Bool} (h:F_i_isSlot N x0=some r) :
    Ret Tryz.prog 97 #[vI x0] w0 (fun v w=>v=.bool r∧St w0 [] w []):=by
 unfold F_i_isSlot at h;refine Ret.fn Tryz.func97 fun e=>?_;have S1:=St.start w0;refine go ?_;replace ⟨y1,hy1,h⟩:=obind h;refine LW.c0 (W_i_within hy1) S1 fun w2 S2=>?_;refine go ?_;cases h;exact fi S2
theorem W_z_Contains_int {w0:World} {N:Nat} {x0:List Int} {x1:Int} {r:Bool} (h:F_z_Contains_int N x0 x1=some r) {a0_0:Ad} {n0_0 c0_0:Nat} (hn0_0:n0_0=x0.length) (hr0_0:rdS (Bor w0 []) w0 a0_0 c0_0 x0) :
    Ret Tryz.prog 104 #[vS a0_0 n0_0 c0_0,vI x1] w0 (fun v w=>v=.bool r∧St w0 [] w []):=by
 subst hn0_0;unfold F_z_Contains_int at h;refine Ret.fn Tryz.func104 fun e=>?_;have S1:=St.start w0;refine go ?_;replace ⟨y1,hy1,h⟩:=obind h;refine LW.c0 (W_z_Index_int hy1 rfl (S1.rB hr0_0)) S1 fun w2 S2=>?_;refine go ?_;cases h;exact fi S2
theorem W_i_sameObj {w0:World} {N:Nat} {x0:DObj} {x1:DObj} {r:Bool} (h:F_i_sameObj N x0 x1=some r) {a0_10:Ad} {n0_10 c0_10:Nat} (hn0_10:n0_10=x0.links.length) (hr0_10:rdS (Bor w0 []) w0 a0_10 c0_10 x0.links) {a0_11:Ad} {n0_11 c0_11:Nat} (hn0_11:n0_11=x0.data.length) (hr0_11:rdS (Bor w0 []) w0 a0_11 c0_11 x0.data) {a0_12:Ad} {n0_12 c0_12:Nat} (hn0_12:n0_12=x0.queue.length) (hr0_12:rdS (Bor w0 []) w0 a0_12 c0_12 x0.queue) {a1_10:Ad} {n1_10 c1_10:Nat} (hn1_10:n1_10=x1.links.length) (hr1_10:rdS (Bor w0 []) w0 a1_10 c1_10 x1.links) {a1_11:Ad} {n1_11 c1_11:Nat} (hn1_11:n1_11=x1.data.length) (hr1_11:rdS (Bor w0 []) w0 a1_11 c1_11 x1.data) {a1_12:Ad} {n1_12 c1_12:Nat} (hn1_12:n1_12=x1.queue.length) (hr1_12:rdS (Bor w0 []) w0 a1_12 c1_12 x1.queue) :
    Ret Tryz.prog 184 #[.agg #[vI x0.gen,vI x0.kind,vI x0.box,vI x0.res,vI x0.til,vI x0.pages,vI x0.wait,vI x0.got,vI x0.ran,.bool x0.mark,vS a0_10 n0_10 c0_10,vS a0_11 n0_11 c0_11,vS a0_12 n0_12 c0_12],.agg #[vI x1.gen,vI x1.kind,vI x1.box,vI x1.res,vI x1.til,vI x1.pages,vI x1.wait,vI x1.got,vI x1.ran,.bool x1.mark,vS a1_10 n1_10 c1_10,vS a1_11 n1_11 c1_11,vS a1_12 n1_12 c1_12]] w0 (fun v w=>v=.bool r∧St w0 [] w []):=by
 subst hn0_10 hn0_11 hn0_12 hn1_10 hn1_11 hn1_12;unfold F_i_sameObj at h;refine Ret.fn Tryz.func184 fun e=>?_;have S1:=St.start w0;refine go ?_;refine LW.bo S1 fun g1 w2 S2=>?_;refine LW.bo S2 fun g3 w4 S3=>?_;refine go ?_;rcases bcases (x0.gen==x1.gen) with z5 | z5
 · replace h:=bcT h z5;refine go ?_;rcases bcases (x0.kind==x1.kind) with z6 | z6
   · replace h:=bcT h z6;refine go ?_;refine LW.fl [2,3,24] fun e=>?_;rcases bcases (x0.box==x1.box) with z7 | z7
     · replace h:=bcT h z7;refine go ?_;rcases bcases (x0.res==x1.res) with z8 | z8
       · replace h:=bcT h z8;refine go ?_;rcases bcases (x0.til==x1.til) with z9 | z9
         · replace h:=bcT h z9;refine go ?_;rcases bcases (x0.pages==x1.pages) with z10 | z10
           · replace h:=bcT h z10;refine go ?_;refine LW.fl [2,3,52] fun e=>?_;rcases bcases (x0.wait==x1.wait) with z11 | z11
             · replace h:=bcT h z11;refine go ?_;rcases bcases (x0.got==x1.got) with z12 | z12
               · replace h:=bcT h z12;refine go ?_;rcases bcases (x0.ran==x1.ran) with z13 | z13
                 · replace h:=bcT h z13;refine go ?_;refine LW.u (Pur.beq Tryz.underlying4 rfl rfl) rfl ?_;refine go ?_;rcases bcases (x0.mark==x1.mark) with z14 | z14
                   · replace h:=bcT h z14;refine go ?_;refine LW.fl [2,3,73,75,77] fun e=>?_;replace ⟨y15,hy15,h⟩:=obind h;refine go ?_;refine LW.c0 (W_z_Equal_int hy15 rfl (S3.rB hr0_10) rfl (S3.rB hr1_10)) S3 fun w16 S4=>?_;refine go ?_;rcases bcases y15 with z17 | z17
                     · replace h:=bcT h z17;refine go ?_;replace ⟨y18,hy18,h⟩:=obind h;refine go ?_;refine LW.c0 (W_z_Equal_int hy18 rfl (S4.rB hr0_11) rfl (S4.rB hr1_11)) S4 fun w19 S5=>?_;refine go ?_;rcases bcases y18 with z20 | z20
                       · replace h:=bcT h z20;refine go ?_;replace ⟨y21,hy21,h⟩:=obind h;refine go ?_;refine LW.c0 (W_z_Equal_Msg hy21 rfl (S5.rB hr0_12) rfl (S5.rB hr1_12)) S5 fun w22 S6=>?_;refine go ?_;cases h;exact fi S6
                       replace h:=bcF h z20;refine go ?_;cases h;exact fi S5
                     replace h:=bcF h z17;refine go ?_;cases h;exact fi S4
                   replace h:=bcF h z14;refine go ?_;cases h;exact fi S3
                 replace h:=bcF h z13;refine go ?_;cases h;exact fi S3
               replace h:=bcF h z12;refine go ?_;cases h;exact fi S3
             replace h:=bcF h z11;refine go ?_;cases h;exact fi S3
           replace h:=bcF h z10;refine go ?_;cases h;exact fi S3
         replace h:=bcF h z9;refine go ?_;cases h;exact fi S3
       replace h:=bcF h z8;refine go ?_;cases h;exact fi S3
     replace h:=bcF h z7;refine go ?_;cases h;exact fi S3
   replace h:=bcF h z6;refine go ?_;cases h;exact fi S3
 replace h:=bcF h z5;refine go ?_;cases h;exact fi S3
theorem W_i_isTime {w0:World} {N:Nat} {x0:Int} {r:Bool} (h:F_i_isTime N x0=some r) :
    Ret Tryz.prog 38 #[vI x0] w0 (fun v w=>v=.bool r∧St w0 [] w []):=by
 unfold F_i_isTime at h;refine Ret.fn Tryz.func38 fun e=>?_;have S1:=St.start w0;refine go ?_;replace ⟨y1,hy1,h⟩:=obind h;refine LW.c0 (W_i_within hy1) S1 fun w2 S2=>?_;refine go ?_;cases h;exact fi S2
theorem W_i_isHandle {w0:World} {N:Nat} {x0:Int} {r:Bool} (h:F_i_isHandle N x0=some r) :
    Ret Tryz.prog 174 #[vI x0] w0 (fun v w=>v=.bool r∧St w0 [] w []):=by
 unfold F_i_isHandle at h;refine Ret.fn Tryz.func174 fun e=>?_;have S1:=St.start w0;refine go ?_;replace ⟨y1,hy1,h⟩:=obind h;refine LW.c0 (W_i_within hy1) S1 fun w2 S2=>?_;refine go ?_;cases h;exact fi S2
theorem W_i_copyLabel {w0:World} {N:Nat} {x0:DLabel} {r:DLabel} (h:F_i_copyLabel N x0=some r) {a0_0:Ad} {n0_0 c0_0:Nat} (hn0_0:n0_0=x0.levels.length) (hr0_0:rdS (Bor w0 []) w0 a0_0 c0_0 x0.levels) :
    Ret Tryz.prog 100 #[.agg #[vS a0_0 n0_0 c0_0]] w0 (fun v w=>∃ ar0_0 cr0_0,v=.agg #[vS ar0_0 r.levels.length cr0_0]∧St w0 [] w [sl ar0_0 cr0_0 r.levels]):=by
 subst hn0_0;unfold F_i_copyLabel at h;refine Ret.fn Tryz.func100 fun e=>?_;have S1:=St.start w0;refine go ?_;refine LW.bo S1 fun g1 w2 S2=>?_;refine LW.al S2 fun g3 w4 S3=>?_;refine go ?_;replace ⟨y5,hy5,h⟩:=obind h;refine LW.cl (W_i_copyInts hy5 rfl (S3.rB hr0_0)) ?_;rintro _ w8 ⟨a6,c7,rfl,hs⟩;have S4:=S3.add hs;refine LW.u (Pur.build (vs:=[(0,vS a6 y5.length c7)]) (cs:=#[vS a6 y5.length c7]) rfl (by kernel_rfl)) rfl ?_;refine LW.st S4 1 fun w9 S5=>?_;refine go ?_;cases h;exact And.intro trivial ⟨_,Res.one (resOne.b S5 1 rfl ag39 rfl rfl),a6,c7,rfl,S5.pick [0] rfl rfl⟩
end Go.Kx
