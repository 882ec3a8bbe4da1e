/- Each call returns what the plain function says. Printed by drive.py. -/
import Derived.Test.YtgekpkkhelmgiaaGreatFa
import Derived.Test.YtgekpkkhelmgiaaGreatPu
namespace Go.Kx
open Go Go.RowKit Go.Proofs
set_option maxRecDepth 10000
set_option maxHeartbeats 8000000
set_option linter.unusedVariables false
set_option linter.unusedSimpArgs false
theorem W_l_szIntS {w0:World} {N:Nat} {x0:List Int} {x1:Int} {r:Int} (h:F_l_szIntS N x0 x1=some r) {a0_0:Ad} {n0_0 c0_0:Nat} (hn0_0:n0_0=x0.length) (hr0_0:rdS (Bor w0 []) w0 a0_0 c0_0 x0) :
    Ret Tryz.prog 14 #[vS a0_0 n0_0 c0_0,vI x1] w0 (fun v w=>v=vI r∧St w0 [] w []):=by
 subst hn0_0;unfold F_l_szIntS at h;refine Ret.fn Tryz.func14 fun e=>?_;have S1:=St.start w0;refine go ?_;refine cd (fun z1=>?_) fun z1=>?_
 · replace h:=bcT h z1;refine go ?_;cases h;exact fi S1
 replace h:=bcF h z1;refine go ?_;cases h;exact fi S1
theorem W_l_szResS {w0:World} {N:Nat} {x0:List DRes} {x1:Int} {r:Int} (h:F_l_szResS N x0 x1=some r) {a0_0:Ad} {n0_0 c0_0:Nat} (hn0_0:n0_0=x0.length) (hr0_0:rdS (Bor w0 []) w0 a0_0 c0_0 x0) :
    Ret Tryz.prog 15 #[vS a0_0 n0_0 c0_0,vI x1] w0 (fun v w=>v=vI r∧St w0 [] w []):=by
 subst hn0_0;unfold F_l_szResS at h;refine Ret.fn Tryz.func15 fun e=>?_;have S1:=St.start w0;refine go ?_;refine cd (fun z1=>?_) fun z1=>?_
 · replace h:=bcT h z1;refine go ?_;cases h;exact fi S1
 replace h:=bcF h z1;refine go ?_;cases h;exact fi S1
theorem W_l_szMsgS {w0:World} {N:Nat} {x0:List DMsg} {x1:Int} {r:Int} (h:F_l_szMsgS N x0 x1=some r) {a0_0:Ad} {n0_0 c0_0:Nat} (hn0_0:n0_0=x0.length) (hr0_0:rdS (Bor w0 []) w0 a0_0 c0_0 x0) :
    Ret Tryz.prog 163 #[vS a0_0 n0_0 c0_0,vI x1] w0 (fun v w=>v=vI r∧St w0 [] w []):=by
 subst hn0_0;unfold F_l_szMsgS at h;refine Ret.fn Tryz.func163 fun e=>?_;have S1:=St.start w0;refine go ?_;refine cd (fun z1=>?_) fun z1=>?_
 · replace h:=bcT h z1;refine go ?_;cases h;exact fi S1
 replace h:=bcF h z1;refine go ?_;cases h;exact fi S1
theorem W_l_szTapS {w0:World} {N:Nat} {x0:List DTap} {x1:Int} {r:Int} (h:F_l_szTapS N x0 x1=some r) {a0_0:Ad} {n0_0 c0_0:Nat} (hn0_0:n0_0=x0.length) (hr0_0:rdS (Bor w0 []) w0 a0_0 c0_0 x0) :
    Ret Tryz.prog 17 #[vS a0_0 n0_0 c0_0,vI x1] w0 (fun v w=>v=vI r∧St w0 [] w []):=by
 subst hn0_0;unfold F_l_szTapS at h;refine Ret.fn Tryz.func17 fun e=>?_;have S1:=St.start w0;refine go ?_;refine cd (fun z1=>?_) fun z1=>?_
 · replace h:=bcT h z1;refine go ?_;cases h;exact fi S1
 replace h:=bcF h z1;refine go ?_;cases h;exact fi S1
theorem W_l_toIntS {w0:World} {N:Nat} {x0:List Int} {r:(List Int)} (h:F_l_toIntS N x0=some r) {a0_0:Ad} {n0_0 c0_0:Nat} (hn0_0:n0_0=x0.length) (hr0_0:rdS (Bor w0 []) w0 a0_0 c0_0 x0) :
    Ret Tryz.prog 31 #[vS a0_0 n0_0 c0_0] w0 (fun v w=>∃ ar0 cr0,v=vS ar0 r.length cr0∧St w0 [] w [sl ar0 cr0 r]):=by
 subst hn0_0;unfold F_l_toIntS at h;refine Ret.fn Tryz.func31 fun e=>?_;have S1:=St.start w0;refine go ?_;replace ⟨y1,hy1,h⟩:=obind h;refine LW.mk sT22 rfl rfl hy1 S1 rfl ?_;intro a2 c3 w4 S2 hf;refine go ?_;obtain ⟨o25,ho25,h26⟩:=obind h;refine CW.ie ho25 0 (fun s5 e wb=>En e [(0,vS a0_0 x0.length c0_0),(3,vS a2 s5.1.length c3),(4,vI s5.2)]∧St w0 [] wb [sl a2 c3 s5.1]) ?_ ⟨⟨rfl,rfl,rfl,trivial⟩,S2.pick [0] rfl rfl⟩ ?_
 · intro s5 e w6 o hM h;obtain ⟨hE,S3⟩:=hM;obtain ⟨e,rfl⟩:=hE.out;refine go ?_;refine cd (fun z7=>?_) fun z7=>?_
   · replace h:=bcT h z7;refine go ?_;replace ⟨y8,hy8,h⟩:=obind h;obtain ⟨b11,o12,cs13,hae,hb16,hp9,hq10,hd14,hk15⟩:=hr0_0.idx hy8;subst hae;obtain rfl:=hd14;refine LW.u (Pur.ix Tryz.underlying22 sz3 rfl rfl hp9 hq10) rfl ?_;refine LW.l (Ldr.old w0 ag3 rfl (hk15 0 _ rfl)) (S3.same _ hb16.1 hb16.2) rfl ?_;replace ⟨y17,hy17,h⟩:=obind h;obtain ⟨b20,o21,hae,hp18,hq19⟩:=S3.ownIdx (α:=Int) (i:=0) rfl hy17;subst hae;refine LW.u (Pur.ix Tryz.underlying22 sz3 rfl rfl hp18 hq19) rfl ?_;replace ⟨y22,hy22,h⟩:=obind h;refine LW.se 0 S3 0 hy17 hy22 (hM:=whF) fun w24 S4=>?_;refine go ?_;replace h:=oi h;subst h;exact ⟨rfl,⟨⟨rfl,(show (vS (some ⟨b20,o21,none⟩) s5.1.length c3:Value)=vS (some ⟨b20,o21,none⟩) y22.length c3 by rw [show s5.1.length=y22.length from (len_set (oi hy22))]),rfl,trivial⟩,S4.pick [0] rfl rfl⟩⟩
   replace h:=bcF h z7;refine go ?_;cases oi h;exact ⟨trivial,rfl,⟨⟨rfl,rfl,rfl,trivial⟩,S3.pick [0] rfl rfl⟩⟩
 rintro e w27 ⟨hE,S5⟩;obtain ⟨e,rfl⟩:=hE.out;have h:=h26;refine go ?_;cases h;exact And.intro trivial ⟨_,Res.one (resOne.t rfl),a2,c3,rfl,S5.pick [0] rfl rfl⟩
theorem W_l_toAmt {w0:World} {N:Nat} {x0:DAmt} {r:DAmt} (h:F_l_toAmt N x0=some r) :
    Ret Tryz.prog 35 #[.agg #[vI x0.pages,vI x0.rent,vI x0.cpu]] w0 (fun v w=>v=.agg #[vI r.pages,vI r.rent,vI r.cpu]∧St w0 [] w []):=by
 unfold F_l_toAmt at h;refine Ret.fn Tryz.func35 fun e=>?_;have S1:=St.start w0;refine go ?_;refine LW.bo S1 fun g1 w2 S2=>?_;refine LW.al S2 fun g3 w4 S3=>?_;refine go ?_;refine LW.al S3 fun g5 w6 S4=>?_;refine go ?_;refine LW.st S4 0 fun w7 S5=>?_;refine go ?_;refine LW.st S5 0 fun w8 S6=>?_;refine go ?_;refine LW.st S6 0 fun w9 S7=>?_;refine go ?_;refine LW.st S7 1 fun w10 S8=>?_;refine go ?_;cases h;exact And.intro trivial ⟨_,Res.one (resOne.b S8 1 rfl ag46 rfl rfl),rfl,S8.pick [] rfl rfl⟩
theorem W_l_toMsg {w0:World} {N:Nat} {x0:DMsg} {r:DMsg} (h:F_l_toMsg N x0=some r) :
    Ret Tryz.prog 183 #[.agg #[vI x0.src,vI x0.n]] w0 (fun v w=>v=.agg #[vI r.src,vI r.n]∧St w0 [] w []):=by
 unfold F_l_toMsg at h;refine Ret.fn Tryz.func183 fun e=>?_;have S1:=St.start w0;refine go ?_;refine LW.bo S1 fun g1 w2 S2=>?_;refine LW.al S2 fun g3 w4 S3=>?_;refine go ?_;refine LW.al S3 fun g5 w6 S4=>?_;refine go ?_;refine LW.st S4 0 fun w7 S5=>?_;refine go ?_;refine LW.st S5 0 fun w8 S6=>?_;refine go ?_;refine LW.st S6 1 fun w9 S7=>?_;refine go ?_;cases h;exact And.intro trivial ⟨_,Res.one (resOne.b S7 1 rfl ag127 rfl rfl),rfl,S7.pick [] rfl rfl⟩
theorem W_l_toTap {w0:World} {N:Nat} {x0:DTap} {r:DTap} (h:F_l_toTap N x0=some r) :
    Ret Tryz.prog 91 #[.agg #[vI x0.res,vI x0.toPart,vI x0.toRes,vI x0.which,vI x0.kind,vI x0.rate]] w0 (fun v w=>v=.agg #[vI r.res,vI r.toPart,vI r.toRes,vI r.which,vI r.kind,vI r.rate]∧St w0 [] w []):=by
 unfold F_l_toTap at h;refine Ret.fn Tryz.func91 fun e=>?_;have S1:=St.start w0;refine go ?_;refine LW.bo S1 fun g1 w2 S2=>?_;refine LW.al S2 fun g3 w4 S3=>?_;refine go ?_;refine LW.al S3 fun g5 w6 S4=>?_;refine go ?_;refine LW.st S4 0 fun w7 S5=>?_;refine go ?_;refine LW.st S5 0 fun w8 S6=>?_;refine go ?_;refine LW.st S6 0 fun w9 S7=>?_;refine go ?_;refine LW.st S7 0 fun w10 S8=>?_;refine go ?_;refine LW.st S8 0 fun w11 S9=>?_;refine go ?_;refine LW.fl [2,3,20,21] fun e=>?_;refine LW.st S9 0 fun w12 S10=>?_;refine go ?_;refine LW.st S10 1 fun w13 S11=>?_;refine go ?_;cases h;exact And.intro trivial ⟨_,Res.one (resOne.b S11 1 rfl ag105 rfl rfl),rfl,S11.pick [] rfl rfl⟩
theorem W_l_toCall {w0:World} {N:Nat} {x0:DCall} {r:DCall} (h:F_l_toCall N x0=some r) :
    Ret Tryz.prog 7 #[.agg #[vI x0.kind,vI x0.a,vI x0.b,vI x0.c,vI x0.d,vI x0.e]] w0 (fun v w=>v=.agg #[vI r.kind,vI r.a,vI r.b,vI r.c,vI r.d,vI r.e]∧St w0 [] w []):=by
 unfold F_l_toCall at h;refine Ret.fn Tryz.func7 fun e=>?_;have S1:=St.start w0;refine go ?_;refine LW.bo S1 fun g1 w2 S2=>?_;refine LW.al S2 fun g3 w4 S3=>?_;refine go ?_;refine LW.al S3 fun g5 w6 S4=>?_;refine go ?_;refine LW.st S4 0 fun w7 S5=>?_;refine go ?_;refine LW.st S5 0 fun w8 S6=>?_;refine go ?_;refine LW.st S6 0 fun w9 S7=>?_;refine go ?_;refine LW.st S7 0 fun w10 S8=>?_;refine go ?_;refine LW.st S8 0 fun w11 S9=>?_;refine go ?_;refine LW.fl [2,3,20,21] fun e=>?_;refine LW.st S9 0 fun w12 S10=>?_;refine go ?_;refine LW.st S10 1 fun w13 S11=>?_;refine go ?_;cases h;exact And.intro trivial ⟨_,Res.one (resOne.b S11 1 rfl ag54 rfl rfl),rfl,S11.pick [] rfl rfl⟩
theorem W_s_l6Copy {w0:World} {N:Nat} {x0:List DRes} {r:(List DRes)} (h:F_s_l6Copy N x0=some r) {a0_0:Ad} {n0_0 c0_0:Nat} (hn0_0:n0_0=x0.length) (hr0_0:rdS (Bor w0 []) w0 a0_0 c0_0 x0) :
    Ret Tryz.prog 60 #[vS a0_0 n0_0 c0_0] w0 (fun v w=>∃ ar0 cr0,v=vS ar0 r.length cr0∧St w0 [] w [sl ar0 cr0 r]):=by
 subst hn0_0;unfold F_s_l6Copy at h;refine Ret.fn Tryz.func60 fun e=>?_;have S1:=St.start w0;refine go ?_;refine LW.bsl (α:=DRes) (vs:=[]) (cs:=#[]) (l:=([]:List DRes)) rfl (by kernel_rfl) rfl rfl rfl (fun w=>rfl) S1 rfl ?_;intro a1 c2 w3 S2 hf;refine go ?_;replace ⟨y4,hy4,h⟩:=obind h;refine LW.appN (l:=([]:List DRes)) (m:=x0) sT40 rfl rfl (S2.rB hr0_0) hy4 S2 (i:=0) rfl rfl ?_;intro a5 c6 w7 S3 hf;refine go ?_;cases h;exact And.intro trivial ⟨_,Res.one (resOne.t rfl),a5,c6,rfl,S3.pick [0] rfl rfl⟩
theorem W_s_l8Obj {w0:World} {N:Nat} {x0:DObj} {r:DObj} (h:F_s_l8Obj N x0=some r) {a0_10:Ad} {n0_10 c0_10:Nat} (hn0_10:n0_10=x0.links.length) (hr0_10:rdS (Bor w0 []) w0 a0_10 c0_10 x0.links) {a0_11:Ad} {n0_11 c0_11:Nat} (hn0_11:n0_11=x0.data.length) (hr0_11:rdS (Bor w0 []) w0 a0_11 c0_11 x0.data) {a0_12:Ad} {n0_12 c0_12:Nat} (hn0_12:n0_12=x0.queue.length) (hr0_12:rdS (Bor w0 []) w0 a0_12 c0_12 x0.queue) :
    Ret Tryz.prog 130 #[.agg #[vI x0.gen,vI x0.kind,vI x0.box,vI x0.res,vI x0.til,vI x0.pages,vI x0.wait,vI x0.got,vI x0.ran,.bool x0.mark,vS a0_10 n0_10 c0_10,vS a0_11 n0_11 c0_11,vS a0_12 n0_12 c0_12]] w0 (fun v w=>∃ ar0_10 cr0_10, ∃ ar0_11 cr0_11, ∃ ar0_12 cr0_12,v=.agg #[vI r.gen,vI r.kind,vI r.box,vI r.res,vI r.til,vI r.pages,vI r.wait,vI r.got,vI r.ran,.bool r.mark,vS ar0_10 r.links.length cr0_10,vS ar0_11 r.data.length cr0_11,vS ar0_12 r.queue.length cr0_12]∧St w0 [] w [sl ar0_10 cr0_10 r.links,sl ar0_11 cr0_11 r.data,sl ar0_12 cr0_12 r.queue]):=by
 subst hn0_10 hn0_11 hn0_12;unfold F_s_l8Obj at h;refine Ret.fn Tryz.func130 fun e=>?_;have S1:=St.start w0;refine go ?_;refine LW.bo S1 fun g1 w2 S2=>?_;refine LW.al S2 fun g3 w4 S3=>?_;refine go ?_;refine LW.bsl (α:=Int) (vs:=[]) (cs:=#[]) (l:=([]:List Int)) rfl (by kernel_rfl) rfl rfl rfl (fun w=>rfl) S3 rfl ?_;intro a5 c6 w7 S4 hf;refine go ?_;replace ⟨y8,hy8,h⟩:=obind h;refine LW.appN (l:=([]:List Int)) (m:=x0.links) sT22 rfl rfl (S4.rB hr0_10) hy8 S4 (i:=0) rfl rfl ?_;intro a9 c10 w11 S5 hf;refine go ?_;refine LW.st S5 2 fun w12 S6=>?_;refine go ?_;refine LW.bsl (α:=Int) (vs:=[]) (cs:=#[]) (l:=([]:List Int)) rfl (by kernel_rfl) rfl rfl rfl (fun w=>rfl) S6 rfl ?_;intro a13 c14 w15 S7 hf;refine go ?_;replace ⟨y16,hy16,h⟩:=obind h;refine LW.appN (l:=([]:List Int)) (m:=x0.data) sT22 rfl rfl (S7.rB hr0_11) hy16 S7 (i:=0) rfl rfl ?_;intro a17 c18 w19 S8 hf;refine go ?_;refine LW.st S8 3 fun w20 S9=>?_;refine go ?_;refine LW.bsl (α:=DMsg) (vs:=[]) (cs:=#[]) (l:=([]:List DMsg)) rfl (by kernel_rfl) rfl rfl rfl (fun w=>rfl) S9 rfl ?_;intro a21 c22 w23 S10 hf;refine go ?_;replace ⟨y24,hy24,h⟩:=obind h;refine LW.appN (l:=([]:List DMsg)) (m:=x0.queue) sT108 rfl rfl (S10.rB hr0_12) hy24 S10 (i:=0) rfl rfl ?_;intro a25 c26 w27 S11 hf;refine go ?_;refine LW.st S11 4 fun w28 S12=>?_;refine go ?_;refine LW.st S12 3 fun w29 S13=>?_;refine go ?_;cases h;exact And.intro trivial ⟨_,Res.one (resOne.b S13 3 rfl ag110 rfl rfl),a9,c10,a17,c18,a25,c26,rfl,S13.pick [2,1,0] rfl rfl⟩
theorem W_s_l1In {w0:World} {N:Nat} {x0:Int} {x1:Int} {x2:Int} {r:Bool} (h:F_s_l1In N x0 x1 x2=some r) :
    Ret Tryz.prog 20 #[vI x0,vI x1,vI x2] w0 (fun v w=>v=.bool r∧St w0 [] w []):=by
 unfold F_s_l1In at h;refine Ret.fn Tryz.func20 fun e=>?_;have S1:=St.start w0;refine go ?_;rcases bcases (decide (x0 ≥ x1)) with z1 | z1
 · replace h:=bcT h z1;refine go ?_;cases h;exact fi S1
 replace h:=bcF h z1;refine go ?_;cases h;exact fi S1
theorem W_s_l6Sum {w0:World} {N:Nat} {x0:List DRes} {r:DAmt} (h:F_s_l6Sum N x0=some r) {a0_0:Ad} {n0_0 c0_0:Nat} (hn0_0:n0_0=x0.length) (hr0_0:rdS (Bor w0 []) w0 a0_0 c0_0 x0) :
    Ret Tryz.prog 125 #[vS a0_0 n0_0 c0_0] w0 (fun v w=>v=.agg #[vI r.pages,vI r.rent,vI r.cpu]∧St w0 [] w []):=by
 subst hn0_0;unfold F_s_l6Sum at h;refine Ret.fn Tryz.func125 fun e=>?_;have S1:=St.start w0;refine go ?_;refine LW.al S1 fun g1 w2 S2=>?_;refine go ?_;refine LW.u (Pur.build (vs:=[]) (cs:=#[vI 0,vI 0,vI 0]) rfl (by kernel_rfl)) rfl ?_;refine LW.al S2 fun g3 w4 S3=>?_;refine LW.st S3 0 fun w5 S4=>?_;refine go ?_;obtain ⟨o22,ho22,h23⟩:=obind h;refine CW.ie ho22 0 (fun s6 e wb=>En e [(0,vS a0_0 x0.length c0_0),(2,.pointer (some ⟨g1,0,none⟩)),(3,.pointer (some ⟨g3,0,none⟩)),(4,vI s6.1)]∧St w0 [] wb [bx g3 46 [vI s6.2.1,vI s6.2.2.1,vI s6.2.2.2],bx g1 46 [vI 0,vI 0,vI 0]]) ?_ ⟨⟨rfl,rfl,rfl,rfl,trivial⟩,S4.pick [0,1] rfl rfl⟩ ?_
 · intro s6 e w7 o hM h;obtain ⟨hE,S5⟩:=hM;obtain ⟨e,rfl⟩:=hE.out;refine go ?_;refine cd (fun z8=>?_) fun z8=>?_
   · replace h:=bcT h z8;refine go ?_;replace ⟨y9,hy9,h⟩:=obind h;obtain ⟨b12,o13,cs14,hae,hb17,hp10,hq11,hd15,hk16⟩:=hr0_0.idx hy9;subst hae;obtain rfl:=hd15;refine LW.u (Pur.ix Tryz.underlying40 sz130 rfl rfl hp10 hq11) rfl ?_;refine go ?_;refine LW.l (Ldr.old w0 ag4 rfl (hk16 0 _ rfl)) (S5.same _ hb17.1 hb17.2) rfl ?_;refine go ?_;refine CW.fl [0,2,3,4,16] fun e=>?_;refine cd (fun z18=>?_) fun z18=>?_
     · replace h:=bcT h z18;refine go ?_;refine CW.draw (by kernel_rfl) ?_;have S6:=S5.drew;refine go ?_;refine AW.u (i:=4) rfl (by kernel_rfl) rfl rfl (Pur.ix Tryz.underlying40 sz130 rfl rfl hp10 hq11) ?_;refine go ?_;refine AW.take (i:=7) rfl (by kernel_rfl) rfl rfl (Ldr.old w0 ag3 rfl (hk16 2 _ rfl)) (S6.same _ hb17.1 hb17.2) ?_;refine go ?_;refine jO 10 ?_;refine LW.st S6 0 fun w19 S7=>?_;refine jN (jW (jW jZ)) ?_;refine go ?_;refine CW.draw (by kernel_rfl) ?_;have S8:=S7.drew;refine go ?_;refine AW.u (i:=4) rfl (by kernel_rfl) rfl rfl (Pur.ix Tryz.underlying40 sz130 rfl rfl hp10 hq11) ?_;refine go ?_;refine AW.take (i:=7) rfl (by kernel_rfl) rfl rfl (Ldr.old w0 ag3 rfl (hk16 3 _ rfl)) (S8.same _ hb17.1 hb17.2) ?_;refine go ?_;refine jO 10 ?_;refine LW.st S8 0 fun w20 S9=>?_;refine jN (jW (jW jZ)) ?_;refine go ?_;refine CW.draw (by kernel_rfl) ?_;have S10:=S9.drew;refine go ?_;refine AW.u (i:=4) rfl (by kernel_rfl) rfl rfl (Pur.ix Tryz.underlying40 sz130 rfl rfl hp10 hq11) ?_;refine go ?_;refine AW.take (i:=7) rfl (by kernel_rfl) rfl rfl (Ldr.old w0 ag3 rfl (hk16 4 _ rfl)) (S10.same _ hb17.1 hb17.2) ?_;refine go ?_;refine jO 10 ?_;refine LW.st S10 0 fun w21 S11=>?_;refine jN (jW (jW jZ)) ?_;refine go ?_;cases oi h;exact ⟨rfl,⟨⟨rfl,rfl,rfl,rfl,trivial⟩,S11.pick [0,1] rfl rfl⟩⟩
     replace h:=bcF h z18;refine go ?_;cases oi h;exact ⟨rfl,⟨⟨rfl,rfl,rfl,rfl,trivial⟩,S5.pick [0,1] rfl rfl⟩⟩
   replace h:=bcF h z8;refine go ?_;cases oi h;exact ⟨trivial,rfl,⟨⟨rfl,rfl,rfl,rfl,trivial⟩,S5.pick [0,1] rfl rfl⟩⟩
 rintro e w24 ⟨hE,S12⟩;obtain ⟨e,rfl⟩:=hE.out;have h:=h23;refine go ?_;refine LW.st S12 1 fun w25 S13=>?_;refine go ?_;cases h;exact And.intro trivial ⟨_,Res.one (resOne.b S13 1 rfl ag46 rfl rfl),rfl,S13.pick [] rfl rfl⟩
theorem W_s_l4Has {w0:World} {N:Nat} {x0:List Int} {x1:Int} {r:Bool} (h:F_s_l4Has N x0 x1=some r) {a0_0:Ad} {n0_0 c0_0:Nat} (hn0_0:n0_0=x0.length) (hr0_0:rdS (Bor w0 []) w0 a0_0 c0_0 x0) :
    Ret Tryz.prog 69 #[vS a0_0 n0_0 c0_0,vI x1] w0 (fun v w=>v=.bool r∧St w0 [] w []):=by
 subst hn0_0;unfold F_s_l4Has at h;refine Ret.fn Tryz.func69 fun e=>?_;have S1:=St.start w0;refine go ?_;obtain ⟨o14,ho14,h15⟩:=obind h;refine CW.mono (CW.lx [0,1] [] [] 0 (fun s1=>[(5,vI s1)]) (RT Tryz.prog Tryz.f69.results (fun u=>.bool u) w0 []) S1 ho14 (hb:=?_)) ?_
 · intro s1 e w2 o S2 h;refine go ?_;refine cd (fun z3=>?_) fun z3=>?_
   · replace h:=bcT h z3;refine go ?_;replace ⟨y4,hy4,h⟩:=obind h;obtain ⟨b7,o8,cs9,hae,hb12,hp5,hq6,hd10,hk11⟩:=hr0_0.idx hy4;subst hae;obtain rfl:=hd10;refine LW.u (Pur.ix Tryz.underlying22 sz3 rfl rfl hp5 hq6) rfl ?_;refine LW.l (Ldr.old w0 ag3 rfl (hk11 0 _ rfl)) (S2.same _ hb12.1 hb12.2) rfl ?_;refine go ?_;refine CW.fl [0,1,5,17] fun e=>?_;refine cd (fun z13=>?_) fun z13=>?_
     · replace h:=bcT h z13;refine go ?_;cases oi h;exact ⟨trivial,rfl,_,rfl,⟨_,Res.one (resOne.t rfl),rfl,S2.pick [] rfl rfl⟩⟩
     replace h:=bcF h z13;refine go ?_;cases oi h;exact ⟨rfl,⟨⟨rfl,rfl,rfl,trivial⟩,S2.pick [] rfl rfl⟩⟩
   replace h:=bcF h z3;refine go ?_;cases oi h;exact ⟨trivial,rfl,⟨trivial,S2.pick [] rfl rfl⟩⟩
 intro x e w16 hM;rcases o14 with o14 | r17
 · obtain ⟨rfl,hM⟩:=hM;obtain ⟨hE,S3⟩:=hM;obtain ⟨e,rfl⟩:=hE.out;rw [show e=upds e [] from rfl];have h:=h15;refine go ?_;cases h;exact fi S3
 obtain ⟨rfl,u,rfl,hM⟩:=hM;cases h15;exact And.intro trivial hM
theorem W_s_Expired {w0:World} {N:Nat} {x0:DObj} {x1:Int} {r:Bool} (h:F_s_Expired N x0 x1=some r) {a0_10:Ad} {n0_10 c0_10:Nat} (hn0_10:n0_10=x0.links.length) (hr0_10:rdS (Bor w0 []) w0 a0_10 c0_10 x0.links) {a0_11:Ad} {n0_11 c0_11:Nat} (hn0_11:n0_11=x0.data.length) (hr0_11:rdS (Bor w0 []) w0 a0_11 c0_11 x0.data) {a0_12:Ad} {n0_12 c0_12:Nat} (hn0_12:n0_12=x0.queue.length) (hr0_12:rdS (Bor w0 []) w0 a0_12 c0_12 x0.queue) :
    Ret Tryz.prog 165 #[.agg #[vI x0.gen,vI x0.kind,vI x0.box,vI x0.res,vI x0.til,vI x0.pages,vI x0.wait,vI x0.got,vI x0.ran,.bool x0.mark,vS a0_10 n0_10 c0_10,vS a0_11 n0_11 c0_11,vS a0_12 n0_12 c0_12],vI x1] w0 (fun v w=>v=.bool r∧St w0 [] w []):=by
 subst hn0_10 hn0_11 hn0_12;unfold F_s_Expired at h;refine Ret.fn Tryz.func165 fun e=>?_;have S1:=St.start w0;refine go ?_;refine LW.bo S1 fun g1 w2 S2=>?_;refine go ?_;rcases bcases (x0.kind==0) with z3 | z3
 · replace h:=bcT h z3;refine go ?_;cases h;exact fi S2
 replace h:=bcF h z3;refine go ?_;cases h;exact fi S2
theorem W_s_AmtOne {w0:World} {N:Nat} {x0:Int} {x1:Int} {r:DAmt} (h:F_s_AmtOne N x0 x1=some r) :
    Ret Tryz.prog 84 #[vI x0,vI x1] w0 (fun v w=>v=.agg #[vI r.pages,vI r.rent,vI r.cpu]∧St w0 [] w []):=by
 unfold F_s_AmtOne at h;refine Ret.fn Tryz.func84 fun e=>?_;have S1:=St.start w0;refine go ?_;refine LW.al S1 fun g1 w2 S2=>?_;refine go ?_;refine cd (fun z3=>?_) fun z3=>?_
 · replace h:=bcT h z3;refine go ?_;refine LW.u (Pur.build (vs:=[(0,vI x1)]) (cs:=#[vI x1,vI 0,vI 0]) rfl (by kernel_rfl)) rfl ?_;refine LW.st S2 0 fun w4 S3=>?_;refine go ?_;cases h;exact And.intro trivial ⟨_,Res.one (resOne.b S3 0 rfl ag46 rfl rfl),rfl,S3.pick [] rfl rfl⟩
 replace h:=bcF h z3;refine go ?_;refine cd (fun z5=>?_) fun z5=>?_
 · replace h:=bcT h z5;refine go ?_;refine LW.u (Pur.build (vs:=[(1,vI x1)]) (cs:=#[vI 0,vI x1,vI 0]) rfl (by kernel_rfl)) rfl ?_;refine LW.st S2 0 fun w6 S4=>?_;refine go ?_;cases h;exact And.intro trivial ⟨_,Res.one (resOne.b S4 0 rfl ag46 rfl rfl),rfl,S4.pick [] rfl rfl⟩
 replace h:=bcF h z5;refine go ?_;refine cd (fun z7=>?_) fun z7=>?_
 · replace h:=bcT h z7;refine go ?_;refine LW.u (Pur.build (vs:=[(2,vI x1)]) (cs:=#[vI 0,vI 0,vI x1]) rfl (by kernel_rfl)) rfl ?_;refine LW.st S2 0 fun w8 S5=>?_;refine go ?_;cases h;exact And.intro trivial ⟨_,Res.one (resOne.b S5 0 rfl ag46 rfl rfl),rfl,S5.pick [] rfl rfl⟩
 replace h:=bcF h z7;refine go ?_;refine LW.u (Pur.build (vs:=[]) (cs:=#[vI 0,vI 0,vI 0]) rfl (by kernel_rfl)) rfl ?_;refine LW.st S2 0 fun w9 S6=>?_;refine go ?_;cases h;exact And.intro trivial ⟨_,Res.one (resOne.b S6 0 rfl ag46 rfl rfl),rfl,S6.pick [] rfl rfl⟩
theorem W_s_AmtPart {w0:World} {N:Nat} {x0:DAmt} {x1:Int} {r:Int} (h:F_s_AmtPart N x0 x1=some r) :
    Ret Tryz.prog 87 #[.agg #[vI x0.pages,vI x0.rent,vI x0.cpu],vI x1] w0 (fun v w=>v=vI r∧St w0 [] w []):=by
 unfold F_s_AmtPart at h;refine Ret.fn Tryz.func87 fun e=>?_;have S1:=St.start w0;refine go ?_;refine LW.bo S1 fun g1 w2 S2=>?_;refine go ?_;refine cd (fun z3=>?_) fun z3=>?_
 · replace h:=bcT h z3;refine go ?_;cases h;exact fi S2
 replace h:=bcF h z3;refine go ?_;refine cd (fun z4=>?_) fun z4=>?_
 · replace h:=bcT h z4;refine go ?_;cases h;exact fi S2
 replace h:=bcF h z4;refine go ?_;refine cd (fun z5=>?_) fun z5=>?_
 · replace h:=bcT h z5;refine go ?_;cases h;exact fi S2
 replace h:=bcF h z5;refine go ?_;cases h;exact fi S2
theorem W_i_within {w0:World} {N:Nat} {x0:Int} {x1:Int} {x2:Int} {r:Bool} (h:F_i_within N x0 x1 x2=some r) :
    Ret Tryz.prog 98 #[vI x0,vI x1,vI x2] w0 (fun v w=>v=.bool r∧St w0 [] w []):=by
 unfold F_i_within at h;refine Ret.fn Tryz.func98 fun e=>?_;have S1:=St.start w0;refine go ?_;rcases bcases (decide (x0 ≥ x1)) with z1 | z1
 · replace h:=bcT h z1;refine go ?_;cases h;exact fi S1
 replace h:=bcF h z1;refine go ?_;cases h;exact fi S1
theorem W_i_sumOf {w0:World} {N:Nat} {x0:DAmt} {x1:DAmt} {r:DAmt} (h:F_i_sumOf N x0 x1=some r) :
    Ret Tryz.prog 140 #[.agg #[vI x0.pages,vI x0.rent,vI x0.cpu],.agg #[vI x1.pages,vI x1.rent,vI x1.cpu]] w0 (fun v w=>v=.agg #[vI r.pages,vI r.rent,vI r.cpu]∧St w0 [] w []):=by
 unfold F_i_sumOf at h;refine Ret.fn Tryz.func140 fun e=>?_;have S1:=St.start w0;refine go ?_;refine LW.bo S1 fun g1 w2 S2=>?_;refine LW.bo S2 fun g3 w4 S3=>?_;refine LW.al S3 fun g5 w6 S4=>?_;refine go ?_;refine LW.u (Pur.build (vs:=[(0,vI (IntKind.i64.wrap (x0.pages+x1.pages))),(1,vI (IntKind.i64.wrap (x0.rent+x1.rent))),(2,vI (IntKind.i64.wrap (x0.cpu+x1.cpu)))]) (cs:=#[vI (IntKind.i64.wrap (x0.pages+x1.pages)),vI (IntKind.i64.wrap (x0.rent+x1.rent)),vI (IntKind.i64.wrap (x0.cpu+x1.cpu))]) rfl (by kernel_rfl)) rfl ?_;refine LW.st S4 0 fun w7 S5=>?_;refine go ?_;cases h;exact And.intro trivial ⟨_,Res.one (resOne.b S5 0 rfl ag46 rfl rfl),rfl,S5.pick [] rfl rfl⟩
theorem W_z_Index_int {w0:World} {N:Nat} {x0:List Int} {x1:Int} {r:Int} (h:F_z_Index_int N x0 x1=some r) {a0_0:Ad} {n0_0 c0_0:Nat} (hn0_0:n0_0=x0.length) (hr0_0:rdS (Bor w0 []) w0 a0_0 c0_0 x0) :
    Ret Tryz.prog 144 #[vS a0_0 n0_0 c0_0,vI x1] w0 (fun v w=>v=vI r∧St w0 [] w []):=by
 subst hn0_0;unfold F_z_Index_int at h;refine Ret.fn Tryz.func144 fun e=>?_;have S1:=St.start w0;refine go ?_;obtain ⟨o14,ho14,h15⟩:=obind h;refine CW.mono (CW.lx [0,1,7] [] [] 0 (fun s1=>[(8,vI s1)]) (RT Tryz.prog Tryz.f144.results (fun u=>vI u) w0 []) S1 ho14 (hb:=?_)) ?_
 · intro s1 e w2 o S2 h;refine go ?_;refine cd (fun z3=>?_) fun z3=>?_
   · replace h:=bcT h z3;refine go ?_;replace ⟨y4,hy4,h⟩:=obind h;obtain ⟨b7,o8,cs9,hae,hb12,hp5,hq6,hd10,hk11⟩:=hr0_0.idx hy4;subst hae;obtain rfl:=hd10;refine LW.u (Pur.ix Tryz.underlying22 sz3 rfl rfl hp5 hq6) rfl ?_;refine LW.l (Ldr.old w0 ag3 rfl (hk11 0 _ rfl)) (S2.same _ hb12.1 hb12.2) rfl ?_;refine go ?_;refine CW.fl [0,1,5,7,8,16] fun e=>?_;refine cd (fun z13=>?_) fun z13=>?_
     · replace h:=bcT h z13;refine go ?_;cases oi h;exact ⟨trivial,rfl,_,rfl,⟨_,Res.one (resOne.t rfl),rfl,S2.pick [] rfl rfl⟩⟩
     replace h:=bcF h z13;refine go ?_;cases oi h;exact ⟨rfl,⟨⟨rfl,rfl,rfl,rfl,trivial⟩,S2.pick [] rfl rfl⟩⟩
   replace h:=bcF h z3;refine go ?_;cases oi h;exact ⟨trivial,rfl,⟨trivial,S2.pick [] rfl rfl⟩⟩
 intro x e w16 hM;rcases o14 with o14 | r17
 · obtain ⟨rfl,hM⟩:=hM;obtain ⟨hE,S3⟩:=hM;obtain ⟨e,rfl⟩:=hE.out;rw [show e=upds e [] from rfl];have h:=h15;refine go ?_;cases h;exact fi S3
 obtain ⟨rfl,u,rfl,hM⟩:=hM;cases h15;exact And.intro trivial hM
theorem W_z_Equal_int {w0:World} {N:Nat} {x0:List Int} {x1:List Int} {r:Bool} (h:F_z_Equal_int N x0 x1=some r) {a0_0:Ad} {n0_0 c0_0:Nat} (hn0_0:n0_0=x0.length) (hr0_0:rdS (Bor w0 []) w0 a0_0 c0_0 x0) {a1_0:Ad} {n1_0 c1_0:Nat} (hn1_0:n1_0=x1.length) (hr1_0:rdS (Bor w0 []) w0 a1_0 c1_0 x1) :
    Ret Tryz.prog 189 #[vS a0_0 n0_0 c0_0,vS a1_0 n1_0 c1_0] w0 (fun v w=>v=.bool r∧St w0 [] w []):=by
 subst hn0_0 hn1_0;unfold F_z_Equal_int at h;refine Ret.fn Tryz.func189 fun e=>?_;have S1:=St.start w0;refine go ?_;refine cd (fun z1=>?_) fun z1=>?_
 · replace h:=bcT h z1;refine go ?_;cases h;exact fi S1
 replace h:=bcF h z1;refine go ?_;obtain ⟨o24,ho24,h25⟩:=obind h;refine CW.mono (CW.lx [0,1,12] [] [] 0 (fun s2=>[(13,vI s2)]) (RT Tryz.prog Tryz.f189.results (fun u=>.bool u) w0 []) S1 ho24 (hb:=?_)) ?_
 · intro s2 e w3 o S2 h;refine go ?_;refine cd (fun z4=>?_) fun z4=>?_
   · replace h:=bcT h z4;refine go ?_;refine CW.draw (by kernel_rfl) ?_;have S3:=S2.drew;refine go ?_;replace ⟨y5,hy5,h⟩:=obind h;obtain ⟨b8,o9,cs10,hae,hb13,hp6,hq7,hd11,hk12⟩:=hr0_0.idx hy5;subst hae;obtain rfl:=hd11;refine AW.u (i:=2) rfl (by kernel_rfl) rfl rfl (Pur.ix Tryz.underlying22 sz3 rfl rfl hp6 hq7) ?_;refine AW.take (i:=3) rfl (by kernel_rfl) rfl rfl (Ldr.old w0 ag3 rfl (hk12 0 _ rfl)) (S3.same _ hb13.1 hb13.2) ?_;refine go ?_;replace ⟨y14,hy14,h⟩:=obind h;obtain ⟨b17,o18,cs19,hae,hb22,hp15,hq16,hd20,hk21⟩:=hr1_0.idx hy14;subst hae;obtain rfl:=hd20;refine AW.u (i:=6) rfl (by kernel_rfl) rfl rfl (Pur.ix Tryz.underlying22 sz3 rfl rfl hp15 hq16) ?_;refine AW.take (i:=7) rfl (by kernel_rfl) rfl rfl (Ldr.old w0 ag3 rfl (hk21 0 _ rfl)) (S3.same _ hb22.1 hb22.2) ?_;refine go ?_;refine cd (fun z23=>?_) fun z23=>?_
     · replace h:=bcT h z23;refine go ?_;cases oi h;exact ⟨trivial,rfl,_,rfl,⟨_,Res.one (resOne.t rfl),rfl,S3.pick [] rfl rfl⟩⟩
     replace h:=bcF h z23;refine go ?_;cases oi h;exact ⟨rfl,⟨⟨rfl,rfl,rfl,rfl,trivial⟩,S3.pick [] rfl rfl⟩⟩
   replace h:=bcF h z4;refine go ?_;cases oi h;exact ⟨trivial,rfl,⟨trivial,S2.pick [] rfl rfl⟩⟩
 intro x e w26 hM;rcases o24 with o24 | r27
 · obtain ⟨rfl,hM⟩:=hM;obtain ⟨hE,S4⟩:=hM;obtain ⟨e,rfl⟩:=hE.out;rw [show e=upds e [] from rfl];have h:=h25;refine go ?_;cases h;exact fi S4
 obtain ⟨rfl,u,rfl,hM⟩:=hM;cases h25;exact And.intro trivial hM
theorem W_z_Equal_Msg {w0:World} {N:Nat} {x0:List DMsg} {x1:List DMsg} {r:Bool} (h:F_z_Equal_Msg N x0 x1=some r) {a0_0:Ad} {n0_0 c0_0:Nat} (hn0_0:n0_0=x0.length) (hr0_0:rdS (Bor w0 []) w0 a0_0 c0_0 x0) {a1_0:Ad} {n1_0 c1_0:Nat} (hn1_0:n1_0=x1.length) (hr1_0:rdS (Bor w0 []) w0 a1_0 c1_0 x1) :
    Ret Tryz.prog 190 #[vS a0_0 n0_0 c0_0,vS a1_0 n1_0 c1_0] w0 (fun v w=>v=.bool r∧St w0 [] w []):=by
 subst hn0_0 hn1_0;unfold F_z_Equal_Msg at h;refine Ret.fn Tryz.func190 fun e=>?_;have S1:=St.start w0;refine go ?_;refine cd (fun z1=>?_) fun z1=>?_
 · replace h:=bcT h z1;refine go ?_;cases h;exact fi S1
 replace h:=bcF h z1;refine go ?_;obtain ⟨o24,ho24,h25⟩:=obind h;refine CW.mono (CW.lx [0,1,12] [] [] 0 (fun s2=>[(13,vI s2)]) (RT Tryz.prog Tryz.f190.results (fun u=>.bool u) w0 []) S1 ho24 (hb:=?_)) ?_
 · intro s2 e w3 o S2 h;refine go ?_;refine cd (fun z4=>?_) fun z4=>?_
   · replace h:=bcT h z4;refine go ?_;refine CW.draw (by kernel_rfl) ?_;have S3:=S2.drew;refine go ?_;replace ⟨y5,hy5,h⟩:=obind h;obtain ⟨b8,o9,cs10,hae,hb13,hp6,hq7,hd11,hk12⟩:=hr0_0.idx hy5;subst hae;obtain rfl:=hd11;refine AW.u (i:=2) rfl (by kernel_rfl) rfl rfl (Pur.ix Tryz.underlying108 sz127 rfl rfl hp6 hq7) ?_;refine AW.take (i:=3) rfl (by kernel_rfl) rfl rfl (Ldr.oldN w0 ag127 rfl rfl (fun j u hu=>hk12 j u hu)) (S3.same _ hb13.1 hb13.2) ?_;refine go ?_;replace ⟨y14,hy14,h⟩:=obind h;obtain ⟨b17,o18,cs19,hae,hb22,hp15,hq16,hd20,hk21⟩:=hr1_0.idx hy14;subst hae;obtain rfl:=hd20;refine AW.u (i:=6) rfl (by kernel_rfl) rfl rfl (Pur.ix Tryz.underlying108 sz127 rfl rfl hp15 hq16) ?_;refine AW.take (i:=7) rfl (by kernel_rfl) rfl rfl (Ldr.oldN w0 ag127 rfl rfl (fun j u hu=>hk21 j u hu)) (S3.same _ hb22.1 hb22.2) ?_;refine AW.u (i:=8) rfl (by kernel_rfl) rfl rfl (Pur.ane eg127 rfl rfl (fun w=>eq127 y5 y14 w)) ?_;refine go ?_;refine cd (fun z23=>?_) fun z23=>?_
     · replace h:=bcT h z23;refine go ?_;cases oi h;exact ⟨trivial,rfl,_,rfl,⟨_,Res.one (resOne.t rfl),rfl,S3.pick [] rfl rfl⟩⟩
     replace h:=bcF h z23;refine go ?_;cases oi h;exact ⟨rfl,⟨⟨rfl,rfl,rfl,rfl,trivial⟩,S3.pick [] rfl rfl⟩⟩
   replace h:=bcF h z4;refine go ?_;cases oi h;exact ⟨trivial,rfl,⟨trivial,S2.pick [] rfl rfl⟩⟩
 intro x e w26 hM;rcases o24 with o24 | r27
 · obtain ⟨rfl,hM⟩:=hM;obtain ⟨hE,S4⟩:=hM;obtain ⟨e,rfl⟩:=hE.out;rw [show e=upds e [] from rfl];have h:=h25;refine go ?_;cases h;exact fi S4
 obtain ⟨rfl,u,rfl,hM⟩:=hM;cases h25;exact And.intro trivial hM
theorem W_i_copyInts {w0:World} {N:Nat} {x0:List Int} {r:(List Int)} (h:F_i_copyInts N x0=some r) {a0_0:Ad} {n0_0 c0_0:Nat} (hn0_0:n0_0=x0.length) (hr0_0:rdS (Bor w0 []) w0 a0_0 c0_0 x0) :
    Ret Tryz.prog 101 #[vS a0_0 n0_0 c0_0] w0 (fun v w=>∃ ar0 cr0,v=vS ar0 r.length cr0∧St w0 [] w [sl ar0 cr0 r]):=by
 subst hn0_0;unfold F_i_copyInts at h;refine Ret.fn Tryz.func101 fun e=>?_;have S1:=St.start w0;refine go ?_;refine LW.bsl (α:=Int) (vs:=[]) (cs:=#[]) (l:=([]:List Int)) rfl (by kernel_rfl) rfl rfl rfl (fun w=>rfl) S1 rfl ?_;intro a1 c2 w3 S2 hf;refine go ?_;replace ⟨y4,hy4,h⟩:=obind h;refine LW.appN (l:=([]:List Int)) (m:=x0) sT22 rfl rfl (S2.rB hr0_0) hy4 S2 (i:=0) rfl rfl ?_;intro a5 c6 w7 S3 hf;refine go ?_;cases h;exact And.intro trivial ⟨_,Res.one (resOne.t rfl),a5,c6,rfl,S3.pick [0] rfl rfl⟩
theorem W_i_copyTree {w0:World} {N:Nat} {x0:List DRes} {r:(List DRes)} (h:F_i_copyTree N x0=some r) {a0_0:Ad} {n0_0 c0_0:Nat} (hn0_0:n0_0=x0.length) (hr0_0:rdS (Bor w0 []) w0 a0_0 c0_0 x0) :
    Ret Tryz.prog 102 #[vS a0_0 n0_0 c0_0] w0 (fun v w=>∃ ar0 cr0,v=vS ar0 r.length cr0∧St w0 [] w [sl ar0 cr0 r]):=by
 subst hn0_0;unfold F_i_copyTree at h;refine Ret.fn Tryz.func102 fun e=>?_;have S1:=St.start w0;refine go ?_;refine LW.bsl (α:=DRes) (vs:=[]) (cs:=#[]) (l:=([]:List DRes)) rfl (by kernel_rfl) rfl rfl rfl (fun w=>rfl) S1 rfl ?_;intro a1 c2 w3 S2 hf;refine go ?_;replace ⟨y4,hy4,h⟩:=obind h;refine LW.appN (l:=([]:List DRes)) (m:=x0) sT40 rfl rfl (S2.rB hr0_0) hy4 S2 (i:=0) rfl rfl ?_;intro a5 c6 w7 S3 hf;refine go ?_;cases h;exact And.intro trivial ⟨_,Res.one (resOne.t rfl),a5,c6,rfl,S3.pick [0] rfl rfl⟩
theorem W_i_Expired {w0:World} {N:Nat} {x0:DObj} {x1:Int} {r:Bool} (h:F_i_Expired N x0 x1=some r) {a0_10:Ad} {n0_10 c0_10:Nat} (hn0_10:n0_10=x0.links.length) (hr0_10:rdS (Bor w0 []) w0 a0_10 c0_10 x0.links) {a0_11:Ad} {n0_11 c0_11:Nat} (hn0_11:n0_11=x0.data.length) (hr0_11:rdS (Bor w0 []) w0 a0_11 c0_11 x0.data) {a0_12:Ad} {n0_12 c0_12:Nat} (hn0_12:n0_12=x0.queue.length) (hr0_12:rdS (Bor w0 []) w0 a0_12 c0_12 x0.queue) :
    Ret Tryz.prog 173 #[.agg #[vI x0.gen,vI x0.kind,vI x0.box,vI x0.res,vI x0.til,vI x0.pages,vI x0.wait,vI x0.got,vI x0.ran,.bool x0.mark,vS a0_10 n0_10 c0_10,vS a0_11 n0_11 c0_11,vS a0_12 n0_12 c0_12],vI x1] w0 (fun v w=>v=.bool r∧St w0 [] w []):=by
 subst hn0_10 hn0_11 hn0_12;unfold F_i_Expired at h;refine Ret.fn Tryz.func173 fun e=>?_;have S1:=St.start w0;refine go ?_;refine LW.bo S1 fun g1 w2 S2=>?_;refine go ?_;rcases bcases (x0.kind==0) with z3 | z3
 · replace h:=bcT h z3;refine go ?_;cases h;exact fi S2
 replace h:=bcF h z3;refine go ?_;cases h;exact fi S2
theorem W_i_AmtOne {w0:World} {N:Nat} {x0:Int} {x1:Int} {r:DAmt} (h:F_i_AmtOne N x0 x1=some r) :
    Ret Tryz.prog 155 #[vI x0,vI x1] w0 (fun v w=>v=.agg #[vI r.pages,vI r.rent,vI r.cpu]∧St w0 [] w []):=by
 unfold F_i_AmtOne at h;refine Ret.fn Tryz.func155 fun e=>?_;have S1:=St.start w0;refine go ?_;refine LW.al S1 fun g1 w2 S2=>?_;refine go ?_;refine cd (fun z3=>?_) fun z3=>?_
 · replace h:=bcT h z3;refine go ?_;refine LW.u (Pur.build (vs:=[(0,vI x1)]) (cs:=#[vI x1,vI 0,vI 0]) rfl (by kernel_rfl)) rfl ?_;refine LW.st S2 0 fun w4 S3=>?_;refine go ?_;cases h;exact And.intro trivial ⟨_,Res.one (resOne.b S3 0 rfl ag46 rfl rfl),rfl,S3.pick [] rfl rfl⟩
 replace h:=bcF h z3;refine go ?_;refine cd (fun z5=>?_) fun z5=>?_
 · replace h:=bcT h z5;refine go ?_;refine LW.u (Pur.build (vs:=[(1,vI x1)]) (cs:=#[vI 0,vI x1,vI 0]) rfl (by kernel_rfl)) rfl ?_;refine LW.st S2 0 fun w6 S4=>?_;refine go ?_;cases h;exact And.intro trivial ⟨_,Res.one (resOne.b S4 0 rfl ag46 rfl rfl),rfl,S4.pick [] rfl rfl⟩
 replace h:=bcF h z5;refine go ?_;refine cd (fun z7=>?_) fun z7=>?_
 · replace h:=bcT h z7;refine go ?_;refine LW.u (Pur.build (vs:=[(2,vI x1)]) (cs:=#[vI 0,vI 0,vI x1]) rfl (by kernel_rfl)) rfl ?_;refine LW.st S2 0 fun w8 S5=>?_;refine go ?_;cases h;exact And.intro trivial ⟨_,Res.one (resOne.b S5 0 rfl ag46 rfl rfl),rfl,S5.pick [] rfl rfl⟩
 replace h:=bcF h z7;refine go ?_;refine LW.u (Pur.build (vs:=[]) (cs:=#[vI 0,vI 0,vI 0]) rfl (by kernel_rfl)) rfl ?_;refine LW.st S2 0 fun w9 S6=>?_;refine go ?_;cases h;exact And.intro trivial ⟨_,Res.one (resOne.b S6 0 rfl ag46 rfl rfl),rfl,S6.pick [] rfl rfl⟩
theorem W_i_AmtPart {w0:World} {N:Nat} {x0:DAmt} {x1:Int} {r:Int} (h:F_i_AmtPart N x0 x1=some r) :
    Ret Tryz.prog 158 #[.agg #[vI x0.pages,vI x0.rent,vI x0.cpu],vI x1] w0 (fun v w=>v=vI r∧St w0 [] w []):=by
 unfold F_i_AmtPart at h;refine Ret.fn Tryz.func158 fun e=>?_;have S1:=St.start w0;refine go ?_;refine LW.bo S1 fun g1 w2 S2=>?_;refine go ?_;refine cd (fun z3=>?_) fun z3=>?_
 · replace h:=bcT h z3;refine go ?_;cases h;exact fi S2
 replace h:=bcF h z3;refine go ?_;refine cd (fun z4=>?_) fun z4=>?_
 · replace h:=bcT h z4;refine go ?_;cases h;exact fi S2
 replace h:=bcF h z4;refine go ?_;refine cd (fun z5=>?_) fun z5=>?_
 · replace h:=bcT h z5;refine go ?_;cases h;exact fi S2
 replace h:=bcF h z5;refine go ?_;cases h;exact fi S2
theorem W_z_Delete_Tap {w0:World} {F:List Nat} {N:Nat} {x0:List DTap} {x1:Int} {x2:Int} {r:(List DTap)} (h:F_z_Delete_Tap N x0 x1 x2=some r) {a0_0:Ad} {n0_0 c0_0:Nat} (hn0_0:n0_0=x0.length) (hS:St w0 F w0 [sl a0_0 c0_0 x0]) :
    Ret Tryz.prog 114 #[vS a0_0 n0_0 c0_0,vI x1,vI x2] w0 (fun v w=>∃ ar0 cr0,v=vS ar0 r.length cr0∧St w0 F w [sl ar0 cr0 r]):=by
 subst hn0_0;unfold F_z_Delete_Tap at h;refine Ret.fn Tryz.func114 fun e=>?_;refine go ?_;replace ⟨y1,hy1,h⟩:=obind h;have hle2:=(hS.rI 0 rfl).le;refine LW.u (Pur.sub3 (α:=DTap) (l:=x0) Tryz.underlying45 sz105 rfl rfl rfl rfl hy1 hle2) rfl ?_;refine go ?_;refine cd (fun z3=>?_) fun z3=>?_
 · replace h:=bcT h z3;refine go ?_;cases h;exact And.intro trivial ⟨_,Res.one (resOne.t rfl),a0_0,c0_0,rfl,hS.pick [0] rfl rfl⟩
 replace h:=bcF h z3;refine go ?_;refine CW.draw (by kernel_rfl) ?_;have S1:=hS.drew;refine go ?_;replace ⟨y4,hy4,h⟩:=obind h;obtain ⟨a5,c6,he7,he8⟩:∃ (a':Ad) (c':Nat),a'=subA a0_0 c0_0 ((0:Int).toNat) (Dat.sz DTap)∧c'=c0_0 - (0:Int).toNat:=⟨_,_,rfl,rfl⟩;refine AW.u (i:=2) rfl (by kernel_rfl) rfl rfl (Pur.sub (α:=DTap) (l:=x0) Tryz.underlying45 sz105 rfl bndN (bndS rfl) hy4 hle2 he7 he8) ?_;refine go ?_;replace ⟨y9,hy9,h⟩:=obind h;obtain ⟨a10,c11,he12,he13⟩:∃ (a':Ad) (c':Nat),a'=subA a0_0 c0_0 ((x2:Int).toNat) (Dat.sz DTap)∧c'=c0_0 - (x2:Int).toNat:=⟨_,_,rfl,rfl⟩;refine AW.u (i:=5) rfl (by kernel_rfl) rfl rfl (Pur.sub (α:=DTap) (l:=x0) Tryz.underlying45 sz105 rfl (bndS rfl) bndN hy9 hle2 he12 he13) ?_;refine jO 6 ?_;refine LW.appR sT45 S1 (k:=0) rfl hy1 z3 hy4 hy9 rfl he7 he8 rfl he12 he13 rfl ?_;intro w14 S2;refine jN jZ ?_;refine go ?_;have hn15:=del_len hy1 z3 hy4 hy9;refine LW.u (Pur.subC (α:=DTap) Tryz.underlying45 sz105 rfl rfl rfl (by omega) (by omega) (by omega)) rfl ?_;refine LW.clr (l:=(y4++y9)) sT45 S2 (k:=0) rfl rfl (by omega) (by omega) ?_;intro w16 S3;refine go ?_;cases h;exact And.intro trivial ⟨_,Res.one (resOne.t rfl),a0_0,c0_0,rfl,S3.pick [0] rfl rfl⟩
theorem W_l_eqIntS {w0:World} {N:Nat} {x0:List Int} {x1:List Int} {r:Bool} (h:F_l_eqIntS N x0 x1=some r) {a0_0:Ad} {n0_0 c0_0:Nat} (hn0_0:n0_0=x0.length) (hr0_0:rdS (Bor w0 []) w0 a0_0 c0_0 x0) {a1_0:Ad} {n1_0 c1_0:Nat} (hn1_0:n1_0=x1.length) (hr1_0:rdS (Bor w0 []) w0 a1_0 c1_0 x1) :
    Ret Tryz.prog 43 #[vS a0_0 n0_0 c0_0,vS a1_0 n1_0 c1_0] w0 (fun v w=>v=.bool r∧St w0 [] w []):=by
 subst hn0_0 hn1_0;unfold F_l_eqIntS at h;refine Ret.fn Tryz.func43 fun e=>?_;have S1:=St.start w0;refine go ?_;refine cd (fun z1=>?_) fun z1=>?_
 · replace h:=bcT h z1;refine go ?_;cases h;exact fi S1
 replace h:=bcF h z1;refine go ?_;obtain ⟨o24,ho24,h25⟩:=obind h;refine CW.mono (CW.lx [0,1] [] [] 0 (fun s2=>[(5,vI s2)]) (RT Tryz.prog Tryz.f43.results (fun u=>.bool u) w0 []) S1 ho24 (hb:=?_)) ?_
 · intro s2 e w3 o S2 h;refine go ?_;refine cd (fun z4=>?_) fun z4=>?_
   · replace h:=bcT h z4;refine go ?_;refine CW.draw (by kernel_rfl) ?_;have S3:=S2.drew;refine go ?_;replace ⟨y5,hy5,h⟩:=obind h;obtain ⟨b8,o9,cs10,hae,hb13,hp6,hq7,hd11,hk12⟩:=hr0_0.idx hy5;subst hae;obtain rfl:=hd11;refine AW.u (i:=2) rfl (by kernel_rfl) rfl rfl (Pur.ix Tryz.underlying22 sz3 rfl rfl hp6 hq7) ?_;refine AW.take (i:=3) rfl (by kernel_rfl) rfl rfl (Ldr.old w0 ag3 rfl (hk12 0 _ rfl)) (S3.same _ hb13.1 hb13.2) ?_;refine go ?_;replace ⟨y14,hy14,h⟩:=obind h;obtain ⟨b17,o18,cs19,hae,hb22,hp15,hq16,hd20,hk21⟩:=hr1_0.idx hy14;subst hae;obtain rfl:=hd20;refine AW.u (i:=6) rfl (by kernel_rfl) rfl rfl (Pur.ix Tryz.underlying22 sz3 rfl rfl hp15 hq16) ?_;refine AW.take (i:=7) rfl (by kernel_rfl) rfl rfl (Ldr.old w0 ag3 rfl (hk21 0 _ rfl)) (S3.same _ hb22.1 hb22.2) ?_;refine go ?_;refine cd (fun z23=>?_) fun z23=>?_
     · replace h:=bcT h z23;refine go ?_;cases oi h;exact ⟨trivial,rfl,_,rfl,⟨_,Res.one (resOne.t rfl),rfl,S3.pick [] rfl rfl⟩⟩
     replace h:=bcF h z23;refine go ?_;cases oi h;exact ⟨rfl,⟨⟨rfl,rfl,rfl,trivial⟩,S3.pick [] rfl rfl⟩⟩
   replace h:=bcF h z4;refine go ?_;cases oi h;exact ⟨trivial,rfl,⟨trivial,S2.pick [] rfl rfl⟩⟩
 intro x e w26 hM;rcases o24 with o24 | r27
 · obtain ⟨rfl,hM⟩:=hM;obtain ⟨hE,S4⟩:=hM;obtain ⟨e,rfl⟩:=hE.out;rw [show e=upds e [] from rfl];have h:=h25;refine go ?_;cases h;exact fi S4
 obtain ⟨rfl,u,rfl,hM⟩:=hM;cases h25;exact And.intro trivial hM
theorem W_l_eqAmt {w0:World} {N:Nat} {x0:DAmt} {x1:DAmt} {r:Bool} (h:F_l_eqAmt N x0 x1=some r) :
    Ret Tryz.prog 47 #[.agg #[vI x0.pages,vI x0.rent,vI x0.cpu],.agg #[vI x1.pages,vI x1.rent,vI x1.cpu]] w0 (fun v w=>v=.bool r∧St w0 [] w []):=by
 unfold F_l_eqAmt at h;refine Ret.fn Tryz.func47 fun e=>?_;have S1:=St.start w0;refine go ?_;refine LW.bo S1 fun g1 w2 S2=>?_;refine LW.bo S2 fun g3 w4 S3=>?_;refine go ?_;refine cd (fun z5=>?_) fun z5=>?_
 · replace h:=bcT h z5;refine go ?_;cases h;exact fi S3
 replace h:=bcF h z5;refine go ?_;refine CW.fl [2,3,14] fun e=>?_;refine cd (fun z6=>?_) fun z6=>?_
 · replace h:=bcT h z6;refine go ?_;cases h;exact fi S3
 replace h:=bcF h z6;refine go ?_;refine cd (fun z7=>?_) fun z7=>?_
 · replace h:=bcT h z7;refine go ?_;cases h;exact fi S3
 replace h:=bcF h z7;refine go ?_;cases h;exact fi S3
theorem W_l_eqMsg {w0:World} {N:Nat} {x0:DMsg} {x1:DMsg} {r:Bool} (h:F_l_eqMsg N x0 x1=some r) :
    Ret Tryz.prog 188 #[.agg #[vI x0.src,vI x0.n],.agg #[vI x1.src,vI x1.n]] w0 (fun v w=>v=.bool r∧St w0 [] w []):=by
 unfold F_l_eqMsg at h;refine Ret.fn Tryz.func188 fun e=>?_;have S1:=St.start w0;refine go ?_;refine LW.bo S1 fun g1 w2 S2=>?_;refine LW.bo S2 fun g3 w4 S3=>?_;refine go ?_;refine cd (fun z5=>?_) fun z5=>?_
 · replace h:=bcT h z5;refine go ?_;cases h;exact fi S3
 replace h:=bcF h z5;refine go ?_;refine CW.fl [14] fun e=>?_;refine cd (fun z6=>?_) fun z6=>?_
 · replace h:=bcT h z6;refine go ?_;cases h;exact fi S3
 replace h:=bcF h z6;refine go ?_;cases h;exact fi S3
theorem W_l_eqTap {w0:World} {N:Nat} {x0:DTap} {x1:DTap} {r:Bool} (h:F_l_eqTap N x0 x1=some r) :
    Ret Tryz.prog 118 #[.agg #[vI x0.res,vI x0.toPart,vI x0.toRes,vI x0.which,vI x0.kind,vI x0.rate],.agg #[vI x1.res,vI x1.toPart,vI x1.toRes,vI x1.which,vI x1.kind,vI x1.rate]] w0 (fun v w=>v=.bool r∧St w0 [] w []):=by
 unfold F_l_eqTap at h;refine Ret.fn Tryz.func118 fun e=>?_;have S1:=St.start w0;refine go ?_;refine LW.bo S1 fun g1 w2 S2=>?_;refine LW.bo S2 fun g3 w4 S3=>?_;refine go ?_;refine cd (fun z5=>?_) fun z5=>?_
 · replace h:=bcT h z5;refine go ?_;cases h;exact fi S3
 replace h:=bcF h z5;refine go ?_;refine CW.fl [2,3,14] fun e=>?_;refine cd (fun z6=>?_) fun z6=>?_
 · replace h:=bcT h z6;refine go ?_;cases h;exact fi S3
 replace h:=bcF h z6;refine go ?_;refine cd (fun z7=>?_) fun z7=>?_
 · replace h:=bcT h z7;refine go ?_;cases h;exact fi S3
 replace h:=bcF h z7;refine go ?_;refine cd (fun z8=>?_) fun z8=>?_
 · replace h:=bcT h z8;refine go ?_;cases h;exact fi S3
 replace h:=bcF h z8;refine go ?_;refine CW.fl [2,3,29] fun e=>?_;refine cd (fun z9=>?_) fun z9=>?_
 · replace h:=bcT h z9;refine go ?_;cases h;exact fi S3
 replace h:=bcF h z9;refine go ?_;refine cd (fun z10=>?_) fun z10=>?_
 · replace h:=bcT h z10;refine go ?_;cases h;exact fi S3
 replace h:=bcF h z10;refine go ?_;cases h;exact fi S3
theorem W_l_eqReply {w0:World} {N:Nat} {x0:DReply} {x1:DReply} {r:Bool} (h:F_l_eqReply N x0 x1=some r) :
    Ret Tryz.prog 10 #[.agg #[vI x0.code,vI x0.val],.agg #[vI x1.code,vI x1.val]] w0 (fun v w=>v=.bool r∧St w0 [] w []):=by
 unfold F_l_eqReply at h;refine Ret.fn Tryz.func10 fun e=>?_;have S1:=St.start w0;refine go ?_;refine LW.bo S1 fun g1 w2 S2=>?_;refine LW.bo S2 fun g3 w4 S3=>?_;refine go ?_;refine cd (fun z5=>?_) fun z5=>?_
 · replace h:=bcT h z5;refine go ?_;cases h;exact fi S3
 replace h:=bcF h z5;refine go ?_;refine CW.fl [14] fun e=>?_;refine cd (fun z6=>?_) fun z6=>?_
 · replace h:=bcT h z6;refine go ?_;cases h;exact fi S3
 replace h:=bcF h z6;refine go ?_;cases h;exact fi S3
theorem W_l_markIntS {w0:World} {F:List Nat} {N:Nat} {x0:List Int} {x1:Int} {r:Int×(List Int)} (h:F_l_markIntS N x0 x1=some r) {a0_0:Ad} {n0_0 c0_0:Nat} (hn0_0:n0_0=x0.length) (hS:St w0 F w0 [sl a0_0 c0_0 x0]) :
    Ret Tryz.prog 49 #[vS a0_0 n0_0 c0_0,vI x1] w0 (fun v w=>v=vI r.1∧St w0 F w [sl a0_0 c0_0 r.2]):=by
 subst hn0_0;unfold F_l_markIntS at h;refine Ret.fn Tryz.func49 fun e=>?_;refine go ?_;obtain ⟨o12,ho12,h13⟩:=obind h;refine CW.ie ho12 0 (fun s1 e wb=>En e [(0,vS a0_0 s1.1.length c0_0),(1,vI s1.2.1),(5,vI s1.2.2)]∧St w0 F wb [sl a0_0 c0_0 s1.1]) ?_ ⟨⟨rfl,rfl,rfl,trivial⟩,hS.pick [0] rfl rfl⟩ ?_
 · intro s1 e w2 o hM h;obtain ⟨hE,S1⟩:=hM;obtain ⟨e,rfl⟩:=hE.out;refine go ?_;refine cd (fun z3=>?_) fun z3=>?_
   · replace h:=bcT h z3;refine go ?_;replace ⟨y4,hy4,h⟩:=obind h;obtain ⟨b7,o8,hae,hp5,hq6⟩:=S1.ownIdx (α:=Int) (i:=0) rfl hy4;subst hae;refine LW.u (Pur.ix Tryz.underlying22 sz3 rfl rfl hp5 hq6) rfl ?_;replace ⟨y9,hy9,h⟩:=obind h;refine LW.se 0 S1 0 hy4 hy9 (hM:=whF) fun w11 S2=>?_;refine go ?_;replace h:=oi h;subst h;exact ⟨rfl,⟨⟨(show (vS (some ⟨b7,o8,none⟩) s1.1.length c0_0:Value)=vS (some ⟨b7,o8,none⟩) y9.length c0_0 by rw [show s1.1.length=y9.length from (len_set (oi hy9))]),rfl,rfl,trivial⟩,S2.pick [0] rfl rfl⟩⟩
   replace h:=bcF h z3;refine go ?_;cases oi h;exact ⟨trivial,rfl,⟨⟨rfl,rfl,rfl,trivial⟩,S1.pick [0] rfl rfl⟩⟩
 rintro e w14 ⟨hE,S3⟩;obtain ⟨e,rfl⟩:=hE.out;have h:=h13;refine go ?_;replace h:=oi h;subst h;exact And.intro trivial ⟨_,Res.one (resOne.t rfl),rfl,S3.pick [0] rfl rfl⟩
theorem W_l_markResS {w0:World} {F:List Nat} {N:Nat} {x0:List DRes} {x1:Int} {r:Int×(List DRes)} (h:F_l_markResS N x0 x1=some r) {a0_0:Ad} {n0_0 c0_0:Nat} (hn0_0:n0_0=x0.length) (hS:St w0 F w0 [sl a0_0 c0_0 x0]) :
    Ret Tryz.prog 50 #[vS a0_0 n0_0 c0_0,vI x1] w0 (fun v w=>v=vI r.1∧St w0 F w [sl a0_0 c0_0 r.2]):=by
 subst hn0_0;unfold F_l_markResS at h;refine Ret.fn Tryz.func50 fun e=>?_;refine go ?_;obtain ⟨o44,ho44,h45⟩:=obind h;refine CW.ie ho44 0 (fun s1 e wb=>En e [(0,vS a0_0 s1.1.length c0_0),(1,vI s1.2.1),(5,vI s1.2.2)]∧St w0 F wb [sl a0_0 c0_0 s1.1]) ?_ ⟨⟨rfl,rfl,rfl,trivial⟩,hS.pick [0] rfl rfl⟩ ?_
 · intro s1 e w2 o hM h;obtain ⟨hE,S1⟩:=hM;obtain ⟨e,rfl⟩:=hE.out;refine go ?_;refine cd (fun z3=>?_) fun z3=>?_
   · replace h:=bcT h z3;refine go ?_;refine LW.u (Pur.rem rfl rfl (by decide)) rfl ?_;refine go ?_;replace ⟨y4,hy4,h⟩:=obind h;obtain ⟨b7,o8,hae,hp5,hq6⟩:=S1.ownIdx (α:=DRes) (i:=0) rfl hy4;subst hae;refine LW.u (Pur.ix Tryz.underlying40 sz130 rfl rfl hp5 hq6) rfl ?_;refine go ?_;replace ⟨y9,hy9,h⟩:=obind h;refine LW.se 0 S1 0 hy4 hy9 (hM:=(leafF (fun w cs F hF=>by obtain ⟨rfl,rfl⟩:=hF;exact ⟨rfl,rfl⟩))) fun w11 S2=>?_;refine go ?_;replace ⟨y12,hy12,h⟩:=obind h;obtain ⟨b15,o16,hae,hp13,hq14⟩:=S2.ownIdx (α:=DRes) (i:=0) rfl hy12;cases hae;refine LW.u (Pur.ix Tryz.underlying40 sz130 rfl rfl hp13 (by rw [show s1.1.length=y9.length from (len_set (oi hy9))];exact hq14)) rfl ?_;refine go ?_;replace ⟨y17,hy17,h⟩:=obind h;refine LW.se 1 S2 0 hy12 hy17 (hM:=(leafF (fun w cs F hF=>by obtain ⟨rfl,rfl⟩:=hF;exact ⟨rfl,rfl⟩))) fun w19 S3=>?_;refine go ?_;refine LW.fl [0,1,5,28,29,30] fun e=>?_;replace ⟨y20,hy20,h⟩:=obind h;obtain ⟨b23,o24,hae,hp21,hq22⟩:=S3.ownIdx (α:=DRes) (i:=0) rfl hy20;cases hae;refine LW.u (Pur.ix Tryz.underlying40 sz130 rfl rfl hp21 (by rw [show s1.1.length=y17.length from ((len_set (oi hy9)).trans (len_set (oi hy17)))];exact hq22)) rfl ?_;refine go ?_;replace ⟨y25,hy25,h⟩:=obind h;refine LW.se 2 S3 0 hy20 hy25 (hM:=(leafF (fun w cs F hF=>by obtain ⟨rfl,rfl⟩:=hF;exact ⟨rfl,rfl⟩))) fun w27 S4=>?_;refine go ?_;replace ⟨y28,hy28,h⟩:=obind h;obtain ⟨b31,o32,hae,hp29,hq30⟩:=S4.ownIdx (α:=DRes) (i:=0) rfl hy28;cases hae;refine LW.u (Pur.ix Tryz.underlying40 sz130 rfl rfl hp29 (by rw [show s1.1.length=y25.length from (((len_set (oi hy9)).trans (len_set (oi hy17))).trans (len_set (oi hy25)))];exact hq30)) rfl ?_;refine go ?_;replace ⟨y33,hy33,h⟩:=obind h;refine LW.se 3 S4 0 hy28 hy33 (hM:=(leafF (fun w cs F hF=>by obtain ⟨rfl,rfl⟩:=hF;exact ⟨rfl,rfl⟩))) fun w35 S5=>?_;refine go ?_;replace ⟨y36,hy36,h⟩:=obind h;obtain ⟨b39,o40,hae,hp37,hq38⟩:=S5.ownIdx (α:=DRes) (i:=0) rfl hy36;cases hae;refine LW.u (Pur.ix Tryz.underlying40 sz130 rfl rfl hp37 (by rw [show s1.1.length=y33.length from ((((len_set (oi hy9)).trans (len_set (oi hy17))).trans (len_set (oi hy25))).trans (len_set (oi hy33)))];exact hq38)) rfl ?_;refine go ?_;refine LW.fl [0,1,5,46,49] fun e=>?_;replace ⟨y41,hy41,h⟩:=obind h;refine LW.se 4 S5 0 hy36 hy41 (hM:=(leafF (fun w cs F hF=>by obtain ⟨rfl,rfl⟩:=hF;exact ⟨rfl,rfl⟩))) fun w43 S6=>?_;refine go ?_;replace h:=oi h;subst h;exact ⟨rfl,⟨⟨(show (vS (some ⟨b7,o8,none⟩) s1.1.length c0_0:Value)=vS (some ⟨b7,o8,none⟩) y41.length c0_0 by rw [show s1.1.length=y41.length from (((((len_set (oi hy9)).trans (len_set (oi hy17))).trans (len_set (oi hy25))).trans (len_set (oi hy33))).trans (len_set (oi hy41)))]),rfl,rfl,trivial⟩,S6.pick [0] rfl rfl⟩⟩
   replace h:=bcF h z3;refine go ?_;cases oi h;exact ⟨trivial,rfl,⟨⟨rfl,rfl,rfl,trivial⟩,S1.pick [0] rfl rfl⟩⟩
 rintro e w46 ⟨hE,S7⟩;obtain ⟨e,rfl⟩:=hE.out;have h:=h45;refine go ?_;replace h:=oi h;subst h;exact And.intro trivial ⟨_,Res.one (resOne.t rfl),rfl,S7.pick [0] rfl rfl⟩
theorem W_l_markMsgS {w0:World} {F:List Nat} {N:Nat} {x0:List DMsg} {x1:Int} {r:Int×(List DMsg)} (h:F_l_markMsgS N x0 x1=some r) {a0_0:Ad} {n0_0 c0_0:Nat} (hn0_0:n0_0=x0.length) (hS:St w0 F w0 [sl a0_0 c0_0 x0]) :
    Ret Tryz.prog 161 #[vS a0_0 n0_0 c0_0,vI x1] w0 (fun v w=>v=vI r.1∧St w0 F w [sl a0_0 c0_0 r.2]):=by
 subst hn0_0;unfold F_l_markMsgS at h;refine Ret.fn Tryz.func161 fun e=>?_;refine go ?_;obtain ⟨o20,ho20,h21⟩:=obind h;refine CW.ie ho20 0 (fun s1 e wb=>En e [(0,vS a0_0 s1.1.length c0_0),(1,vI s1.2.1),(5,vI s1.2.2)]∧St w0 F wb [sl a0_0 c0_0 s1.1]) ?_ ⟨⟨rfl,rfl,rfl,trivial⟩,hS.pick [0] rfl rfl⟩ ?_
 · intro s1 e w2 o hM h;obtain ⟨hE,S1⟩:=hM;obtain ⟨e,rfl⟩:=hE.out;refine go ?_;refine cd (fun z3=>?_) fun z3=>?_
   · replace h:=bcT h z3;refine go ?_;replace ⟨y4,hy4,h⟩:=obind h;obtain ⟨b7,o8,hae,hp5,hq6⟩:=S1.ownIdx (α:=DMsg) (i:=0) rfl hy4;subst hae;refine LW.u (Pur.ix Tryz.underlying108 sz127 rfl rfl hp5 hq6) rfl ?_;refine go ?_;replace ⟨y9,hy9,h⟩:=obind h;refine LW.se 0 S1 0 hy4 hy9 (hM:=(leafF (fun w cs F hF=>by obtain ⟨rfl,rfl⟩:=hF;exact ⟨rfl,rfl⟩))) fun w11 S2=>?_;refine go ?_;replace ⟨y12,hy12,h⟩:=obind h;obtain ⟨b15,o16,hae,hp13,hq14⟩:=S2.ownIdx (α:=DMsg) (i:=0) rfl hy12;cases hae;refine LW.u (Pur.ix Tryz.underlying108 sz127 rfl rfl hp13 (by rw [show s1.1.length=y9.length from (len_set (oi hy9))];exact hq14)) rfl ?_;refine go ?_;replace ⟨y17,hy17,h⟩:=obind h;refine LW.se 1 S2 0 hy12 hy17 (hM:=(leafF (fun w cs F hF=>by obtain ⟨rfl,rfl⟩:=hF;exact ⟨rfl,rfl⟩))) fun w19 S3=>?_;refine go ?_;replace h:=oi h;subst h;exact ⟨rfl,⟨⟨(show (vS (some ⟨b7,o8,none⟩) s1.1.length c0_0:Value)=vS (some ⟨b7,o8,none⟩) y17.length c0_0 by rw [show s1.1.length=y17.length from ((len_set (oi hy9)).trans (len_set (oi hy17)))]),rfl,rfl,trivial⟩,S3.pick [0] rfl rfl⟩⟩
   replace h:=bcF h z3;refine go ?_;cases oi h;exact ⟨trivial,rfl,⟨⟨rfl,rfl,rfl,trivial⟩,S1.pick [0] rfl rfl⟩⟩
 rintro e w22 ⟨hE,S4⟩;obtain ⟨e,rfl⟩:=hE.out;have h:=h21;refine go ?_;replace h:=oi h;subst h;exact And.intro trivial ⟨_,Res.one (resOne.t rfl),rfl,S4.pick [0] rfl rfl⟩
end Go.Kx
