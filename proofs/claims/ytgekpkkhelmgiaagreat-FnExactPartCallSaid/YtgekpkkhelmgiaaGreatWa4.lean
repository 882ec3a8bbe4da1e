/- Each call returns what the plain function says. Printed by drive.py. -/
import Derived.Test.YtgekpkkhelmgiaaGreatFa
import Derived.Test.YtgekpkkhelmgiaaGreatPu
import Derived.Test.YtgekpkkhelmgiaaGreatWa0
import Derived.Test.YtgekpkkhelmgiaaGreatWa1
import Derived.Test.YtgekpkkhelmgiaaGreatWa2
import Derived.Test.YtgekpkkhelmgiaaGreatWa3
namespace Go.Kx
open Go Go.RowKit Go.Proofs
set_option maxRecDepth 10000
set_option maxHeartbeats 8000000
set_option linter.unusedVariables false
set_option linter.unusedSimpArgs false
theorem W_l_eqObj {w0:World} {N:Nat} {x0:DObj} {x1:DObj} {r:Bool} (h:F_l_eqObj N x0 x1=some r) {a0_10:Ad} {n0_10 c0_10:Nat} (hn0_10:n0_10=x0.links.length) (hr0_10:rdS (Bor w0 []) w0 a0_10 c0_10 x0.links) {a0_11:Ad} {n0_11 c0_11:Nat} (hn0_11:n0_11=x0.data.length) (hr0_11:rdS (Bor w0 []) w0 a0_11 c0_11 x0.data) {a0_12:Ad} {n0_12 c0_12:Nat} (hn0_12:n0_12=x0.queue.length) (hr0_12:rdS (Bor w0 []) w0 a0_12 c0_12 x0.queue) {a1_10:Ad} {n1_10 c1_10:Nat} (hn1_10:n1_10=x1.links.length) (hr1_10:rdS (Bor w0 []) w0 a1_10 c1_10 x1.links) {a1_11:Ad} {n1_11 c1_11:Nat} (hn1_11:n1_11=x1.data.length) (hr1_11:rdS (Bor w0 []) w0 a1_11 c1_11 x1.data) {a1_12:Ad} {n1_12 c1_12:Nat} (hn1_12:n1_12=x1.queue.length) (hr1_12:rdS (Bor w0 []) w0 a1_12 c1_12 x1.queue) :
    Ret Tryz.prog 160 #[.agg #[vI x0.gen,vI x0.kind,vI x0.box,vI x0.res,vI x0.til,vI x0.pages,vI x0.wait,vI x0.got,vI x0.ran,.bool x0.mark,vS a0_10 n0_10 c0_10,vS a0_11 n0_11 c0_11,vS a0_12 n0_12 c0_12],.agg #[vI x1.gen,vI x1.kind,vI x1.box,vI x1.res,vI x1.til,vI x1.pages,vI x1.wait,vI x1.got,vI x1.ran,.bool x1.mark,vS a1_10 n1_10 c1_10,vS a1_11 n1_11 c1_11,vS a1_12 n1_12 c1_12]] w0 (fun v w=>v=.bool r∧St w0 [] w []):=by
 subst hn0_10 hn0_11 hn0_12 hn1_10 hn1_11 hn1_12;unfold F_l_eqObj at h;refine Ret.fn Tryz.func160 fun e=>?_;have S1:=St.start w0;refine go ?_;refine LW.bo S1 fun g1 w2 S2=>?_;refine LW.bo S2 fun g3 w4 S3=>?_;refine go ?_;refine cd (fun z5=>?_) fun z5=>?_
 · replace h:=bcT h z5;refine go ?_;cases h;exact fi S3
 replace h:=bcF h z5;refine go ?_;refine CW.fl [2,3,14] fun e=>?_;refine cd (fun z6=>?_) fun z6=>?_
 · replace h:=bcT h z6;refine go ?_;cases h;exact fi S3
 replace h:=bcF h z6;refine go ?_;refine cd (fun z7=>?_) fun z7=>?_
 · replace h:=bcT h z7;refine go ?_;cases h;exact fi S3
 replace h:=bcF h z7;refine go ?_;refine cd (fun z8=>?_) fun z8=>?_
 · replace h:=bcT h z8;refine go ?_;cases h;exact fi S3
 replace h:=bcF h z8;refine go ?_;refine CW.fl [2,3,29] fun e=>?_;refine cd (fun z9=>?_) fun z9=>?_
 · replace h:=bcT h z9;refine go ?_;cases h;exact fi S3
 replace h:=bcF h z9;refine go ?_;refine cd (fun z10=>?_) fun z10=>?_
 · replace h:=bcT h z10;refine go ?_;cases h;exact fi S3
 replace h:=bcF h z10;refine go ?_;refine cd (fun z11=>?_) fun z11=>?_
 · replace h:=bcT h z11;refine go ?_;cases h;exact fi S3
 replace h:=bcF h z11;refine go ?_;refine CW.fl [2,3,44] fun e=>?_;refine cd (fun z12=>?_) fun z12=>?_
 · replace h:=bcT h z12;refine go ?_;cases h;exact fi S3
 replace h:=bcF h z12;refine go ?_;refine cd (fun z13=>?_) fun z13=>?_
 · replace h:=bcT h z13;refine go ?_;cases h;exact fi S3
 replace h:=bcF h z13;refine go ?_;refine LW.u (Pur.bne Tryz.underlying4 rfl rfl) rfl ?_;refine go ?_;refine cd (fun z14=>?_) fun z14=>?_
 · replace h:=bcT h z14;refine go ?_;cases h;exact fi S3
 replace h:=bcF h z14;refine go ?_;replace ⟨y15,hy15,h⟩:=obind h;refine LW.c0 (W_l_eqIntS hy15 rfl (S3.rB hr0_10) rfl (S3.rB hr1_10)) S3 fun w16 S4=>?_;refine go ?_;refine CW.fl [2,3,60] fun e=>?_;refine cd (fun z17=>?_) fun z17=>?_
 · replace h:=bcT h z17;refine go ?_;cases h;exact fi S4
 replace h:=bcF h z17;refine go ?_;replace ⟨y18,hy18,h⟩:=obind h;refine LW.c0 (W_l_eqIntS hy18 rfl (S4.rB hr0_11) rfl (S4.rB hr1_11)) S4 fun w19 S5=>?_;refine go ?_;refine cd (fun z20=>?_) fun z20=>?_
 · replace h:=bcT h z20;refine go ?_;cases h;exact fi S5
 replace h:=bcF h z20;refine go ?_;replace ⟨y21,hy21,h⟩:=obind h;refine LW.c0 (W_l_eqMsgS hy21 rfl (S5.rB hr0_12) rfl (S5.rB hr1_12)) S5 fun w22 S6=>?_;refine go ?_;refine cd (fun z23=>?_) fun z23=>?_
 · replace h:=bcT h z23;refine go ?_;cases h;exact fi S6
 replace h:=bcF h z23;refine go ?_;cases h;exact fi S6
theorem W_l_markHeap {w0:World} {F:List Nat} {N:Nat} {x0:DHeap} {x1:Int} {r:Int×(List DObj)×(List Int)} (h:F_l_markHeap N x0 x1=some r) {a0_0:Ad} {n0_0 c0_0:Nat} (hn0_0:n0_0=x0.arena.length) {a0_4:Ad} {n0_4 c0_4:Nat} (hn0_4:n0_4=x0.gc.grey.length) (hS:St w0 F w0 [sl a0_0 c0_0 x0.arena,sl a0_4 c0_4 x0.gc.grey]) :
    Ret Tryz.prog 51 #[.agg #[vS a0_0 n0_0 c0_0,vI x0.gc.phase,vI x0.gc.pos,vI x0.gc.round,vS a0_4 n0_4 c0_4],vI x1] w0 (fun v w=>v=vI r.1∧St w0 F w [sl a0_0 c0_0 r.2.1,sl a0_4 c0_4 r.2.2]):=by
 subst hn0_0 hn0_4;unfold F_l_markHeap at h;refine Ret.fn Tryz.func51 fun e=>?_;refine go ?_;refine LW.bo hS fun g1 w2 S1=>?_;refine go ?_;replace ⟨y3,hy3,h⟩:=obind h;obtain ⟨q6,hy3',hq7⟩:=obind hy3;obtain ⟨hl8,hq7⟩:=keepL_some hq7;rw [oi hq7] at hy3' hl8;obtain ⟨F4,hL5⟩:=S1.lendI [1] [0,2];refine LW.cl (W_l_markObjS hy3' rfl hL5.st) ?_;rintro _ w9 ⟨rfl,hs⟩;have S2:=hL5.back _ _ hs;refine go ?_;replace ⟨y10,hy10,h⟩:=obind h;obtain ⟨q13,hy10',hq14⟩:=obind hy10;obtain ⟨hl15,hq14⟩:=keepL_some hq14;rw [oi hq14] at hy10' hl15;rw [show x0.arena.length=y3.2.length from hl8] at S2;obtain ⟨F11,hL12⟩:=S2.lendI [2] [0,1];refine LW.cl (W_l_markGc hy10' rfl hL12.st) ?_;rintro _ w16 ⟨rfl,hs⟩;have S3:=hL12.back _ _ hs;refine go ?_;replace h:=oi h;subst h;rw [show x0.gc.grey.length=y10.2.length from hl15] at S3;exact And.intro trivial ⟨_,Res.one (resOne.t rfl),rfl,S3.pick [1,0] rfl rfl⟩
theorem W_l_heldHeap {w0:World} {N:Nat} {x0:DHeap} {x1:Int} {r:Int} (h:F_l_heldHeap N x0 x1=some r) {a0_0:Ad} {n0_0 c0_0:Nat} (hn0_0:n0_0=x0.arena.length) (hr0_0:rdS (Bor w0 []) w0 a0_0 c0_0 x0.arena) {a0_4:Ad} {n0_4 c0_4:Nat} (hn0_4:n0_4=x0.gc.grey.length) (hr0_4:rdS (Bor w0 []) w0 a0_4 c0_4 x0.gc.grey) :
    Ret Tryz.prog 56 #[.agg #[vS a0_0 n0_0 c0_0,vI x0.gc.phase,vI x0.gc.pos,vI x0.gc.round,vS a0_4 n0_4 c0_4],vI x1] w0 (fun v w=>v=vI r∧St w0 [] w []):=by
 subst hn0_0 hn0_4;unfold F_l_heldHeap at h;refine Ret.fn Tryz.func56 fun e=>?_;have S1:=St.start w0;refine go ?_;refine LW.bo S1 fun g1 w2 S2=>?_;refine go ?_;replace ⟨y3,hy3,h⟩:=obind h;refine LW.c0 (W_l_heldObjS hy3 rfl (S2.rB hr0_0)) S2 fun w4 S3=>?_;refine go ?_;refine cd (fun z5=>?_) fun z5=>?_
 · replace h:=bcT h z5;refine go ?_;cases h;exact fi S3
 replace h:=bcF h z5;refine go ?_;replace ⟨y6,hy6,h⟩:=obind h;refine LW.c0 (W_l_heldGc hy6 rfl (S3.rB hr0_4)) S3 fun w7 S4=>?_;refine go ?_;refine CW.fl [1,16] fun e=>?_;refine cd (fun z8=>?_) fun z8=>?_
 · replace h:=bcT h z8;refine go ?_;cases h;exact fi S4
 replace h:=bcF h z8;refine go ?_;cases h;exact fi S4
theorem W_l_szHeap {w0:World} {N:Nat} {x0:DHeap} {x1:Int} {r:Int} (h:F_l_szHeap N x0 x1=some r) {a0_0:Ad} {n0_0 c0_0:Nat} (hn0_0:n0_0=x0.arena.length) (hr0_0:rdS (Bor w0 []) w0 a0_0 c0_0 x0.arena) {a0_4:Ad} {n0_4 c0_4:Nat} (hn0_4:n0_4=x0.gc.grey.length) (hr0_4:rdS (Bor w0 []) w0 a0_4 c0_4 x0.gc.grey) :
    Ret Tryz.prog 16 #[.agg #[vS a0_0 n0_0 c0_0,vI x0.gc.phase,vI x0.gc.pos,vI x0.gc.round,vS a0_4 n0_4 c0_4],vI x1] w0 (fun v w=>v=vI r∧St w0 [] w []):=by
 subst hn0_0 hn0_4;unfold F_l_szHeap at h;refine Ret.fn Tryz.func16 fun e=>?_;have S1:=St.start w0;refine go ?_;refine LW.bo S1 fun g1 w2 S2=>?_;refine go ?_;replace ⟨y3,hy3,h⟩:=obind h;refine LW.c0 (W_l_szObjS hy3 rfl (S2.rB hr0_0)) S2 fun w4 S3=>?_;refine go ?_;refine cd (fun z5=>?_) fun z5=>?_
 · replace h:=bcT h z5;refine go ?_;cases h;exact fi S3
 replace h:=bcF h z5;refine go ?_;replace ⟨y6,hy6,h⟩:=obind h;refine LW.c0 (W_l_szGc hy6 rfl (S3.rB hr0_4)) S3 fun w7 S4=>?_;refine go ?_;refine CW.fl [1,16] fun e=>?_;refine cd (fun z8=>?_) fun z8=>?_
 · replace h:=bcT h z8;refine go ?_;cases h;exact fi S4
 replace h:=bcF h z8;refine go ?_;cases h;exact fi S4
theorem W_l_toObjS {w0:World} {N:Nat} {x0:List DObj} {r:(List DObj)} (h:F_l_toObjS N x0=some r) {a0_0:Ad} {n0_0 c0_0:Nat} (hn0_0:n0_0=x0.length) (hr0_0:rdS (Bor w0 []) w0 a0_0 c0_0 x0) :
    Ret Tryz.prog 89 #[vS a0_0 n0_0 c0_0] w0 (fun v w=>∃ ar0 cr0,v=vS ar0 r.length cr0∧St w0 [] w [sl ar0 cr0 r]):=by
 subst hn0_0;unfold F_l_toObjS at h;refine Ret.fn Tryz.func89 fun e=>?_;have S1:=St.start w0;refine go ?_;replace ⟨y1,hy1,h⟩:=obind h;refine LW.mk sT41 rfl rfl hy1 S1 rfl ?_;intro a2 c3 w4 S2 hf;refine go ?_;obtain ⟨o41,ho41,h42⟩:=obind h;refine CW.ie ho41 0 (fun s5 e wb=>En e [(0,vS a0_0 x0.length c0_0),(3,vS a2 s5.1.length c3),(4,vI s5.2)]∧St w0 [] wb [sl a2 c3 s5.1]) ?_ ⟨⟨rfl,rfl,rfl,trivial⟩,S2.pick [0] rfl rfl⟩ ?_
 · intro s5 e w6 o hM h;obtain ⟨hE,S3⟩:=hM;obtain ⟨e,rfl⟩:=hE.out;refine go ?_;refine cd (fun z7=>?_) fun z7=>?_
   · replace h:=bcT h z7;refine go ?_;replace ⟨y8,hy8,h⟩:=obind h;obtain ⟨b11,o12,cs13,hae,hb16,hp9,hq10,hd14,hk15⟩:=hr0_0.idx hy8;subst hae;obtain ⟨a17,c18,a20,c21,a23,c24,rfl,hr19,hr22,hr25⟩:=hd14;refine LW.u (Pur.ix Tryz.underlying26 sz152 rfl rfl hp9 hq10) rfl ?_;refine LW.l (Ldr.oldN w0 ag152 rfl rfl (fun j u hu=>hk15 j u hu)) (S3.same _ hb16.1 hb16.2) rfl ?_;replace ⟨y26,hy26,h⟩:=obind h;refine LW.cl (W_l_toObj hy26 rfl (S3.rB hr19) rfl (S3.rB hr22) rfl (S3.rB hr25)) ?_;rintro _ w33 ⟨a27,c28,a29,c30,a31,c32,rfl,hs⟩;have S4:=S3.add hs;replace ⟨y34,hy34,h⟩:=obind h;obtain ⟨b37,o38,hae,hp35,hq36⟩:=S4.ownIdx (α:=DObj) (i:=3) rfl hy34;subst hae;refine LW.u (Pur.ix Tryz.underlying41 sz110 rfl rfl hp35 hq36) rfl ?_;have S5:=S4.pick (M:=[sl a27 c28 y26.links,sl a29 c30 y26.data,sl a31 c32 y26.queue]++[sl (some ⟨b37,o38,none⟩) c3 s5.1]) [0,1,2,3] rfl rfl;replace ⟨y39,hy39,h⟩:=obind h;refine LW.stE (M:=[sl a27 c28 y26.links,sl a29 c30 y26.data,sl a31 c32 y26.queue]) (L:=[sl (some ⟨b37,o38,none⟩) c3 s5.1]) (z:=y34) (z':=y26) (o:=0) S5 (i:=0) rfl hy34 ag110 rfl (by show _=o38+(s5.2:Int).toNat * 13+0;omega) rfl rfl rfl rfl (whole (fun w G hG=>⟨a27,c28,a29,c30,a31,c32,rfl,hG⟩)) ?_;intro w40 S6 hf;rw [oi hy39] at S6;refine go ?_;replace h:=oi h;subst h;exact ⟨rfl,⟨⟨rfl,(show (vS (some ⟨b37,o38,none⟩) s5.1.length c3:Value)=vS (some ⟨b37,o38,none⟩) y39.length c3 by rw [show s5.1.length=y39.length from (len_set (oi hy39))]),rfl,trivial⟩,S6.pick [0] rfl rfl⟩⟩
   replace h:=bcF h z7;refine go ?_;cases oi h;exact ⟨trivial,rfl,⟨⟨rfl,rfl,rfl,trivial⟩,S3.pick [0] rfl rfl⟩⟩
 rintro e w43 ⟨hE,S7⟩;obtain ⟨e,rfl⟩:=hE.out;have h:=h42;refine go ?_;cases h;exact And.intro trivial ⟨_,Res.one (resOne.t rfl),a2,c3,rfl,S7.pick [0] rfl rfl⟩
theorem W_s_l13Copy {w0:World} {N:Nat} {x0:DPart} {r:DPart} (h:F_s_l13Copy N x0=some r) {a0_0:Ad} {n0_0 c0_0:Nat} (hn0_0:n0_0=x0.label.levels.length) (hr0_0:rdS (Bor w0 []) w0 a0_0 c0_0 x0.label.levels) {a0_1:Ad} {n0_1 c0_1:Nat} (hn0_1:n0_1=x0.own.length) (hr0_1:rdS (Bor w0 []) w0 a0_1 c0_1 x0.own) {a0_2:Ad} {n0_2 c0_2:Nat} (hn0_2:n0_2=x0.tree.length) (hr0_2:rdS (Bor w0 []) w0 a0_2 c0_2 x0.tree) {a0_3:Ad} {n0_3 c0_3:Nat} (hn0_3:n0_3=x0.heap.arena.length) (hr0_3:rdS (Bor w0 []) w0 a0_3 c0_3 x0.heap.arena) {a0_7:Ad} {n0_7 c0_7:Nat} (hn0_7:n0_7=x0.heap.gc.grey.length) (hr0_7:rdS (Bor w0 []) w0 a0_7 c0_7 x0.heap.gc.grey) {a0_8:Ad} {n0_8 c0_8:Nat} (hn0_8:n0_8=x0.taps.length) (hr0_8:rdS (Bor w0 []) w0 a0_8 c0_8 x0.taps) :
    Ret Tryz.prog 18 #[.agg #[vS a0_0 n0_0 c0_0,vS a0_1 n0_1 c0_1,vS a0_2 n0_2 c0_2,vS a0_3 n0_3 c0_3,vI x0.heap.gc.phase,vI x0.heap.gc.pos,vI x0.heap.gc.round,vS a0_7 n0_7 c0_7,vS a0_8 n0_8 c0_8,vI x0.next,vI x0.want,vI x0.spent.pages,vI x0.spent.rent,vI x0.spent.cpu,vI x0.press,vI x0.lost]] w0 (fun v w=>∃ ar0_0 cr0_0, ∃ ar0_1 cr0_1, ∃ ar0_2 cr0_2, ∃ ar0_3 cr0_3, ∃ ar0_7 cr0_7, ∃ ar0_8 cr0_8,v=.agg #[vS ar0_0 r.label.levels.length cr0_0,vS ar0_1 r.own.length cr0_1,vS ar0_2 r.tree.length cr0_2,vS ar0_3 r.heap.arena.length cr0_3,vI r.heap.gc.phase,vI r.heap.gc.pos,vI r.heap.gc.round,vS ar0_7 r.heap.gc.grey.length cr0_7,vS ar0_8 r.taps.length cr0_8,vI r.next,vI r.want,vI r.spent.pages,vI r.spent.rent,vI r.spent.cpu,vI r.press,vI r.lost]∧St w0 [] w [sl ar0_0 cr0_0 r.label.levels,sl ar0_1 cr0_1 r.own,sl ar0_2 cr0_2 r.tree,sl ar0_3 cr0_3 r.heap.arena,sl ar0_7 cr0_7 r.heap.gc.grey,sl ar0_8 cr0_8 r.taps]):=by
 subst hn0_0 hn0_1 hn0_2 hn0_3 hn0_7 hn0_8;unfold F_s_l13Copy at h;refine Ret.fn Tryz.func18 fun e=>?_;have S1:=St.start w0;refine go ?_;refine LW.bo S1 fun g1 w2 S2=>?_;refine LW.al S2 fun g3 w4 S3=>?_;refine go ?_;refine LW.bsl (α:=Int) (vs:=[]) (cs:=#[]) (l:=([]:List Int)) rfl (by kernel_rfl) rfl rfl rfl (fun w=>rfl) S3 rfl ?_;intro a5 c6 w7 S4 hf;refine go ?_;replace ⟨y8,hy8,h⟩:=obind h;refine LW.appN (l:=([]:List Int)) (m:=x0.label.levels) sT22 rfl rfl (S4.rB hr0_0) hy8 S4 (i:=0) rfl rfl ?_;intro a9 c10 w11 S5 hf;refine LW.u (Pur.build (vs:=[(0,vS a9 y8.length c10)]) (cs:=#[vS a9 y8.length c10]) rfl (by kernel_rfl)) rfl ?_;refine go ?_;refine LW.st S5 2 fun w12 S6=>?_;refine go ?_;refine LW.bsl (α:=Int) (vs:=[]) (cs:=#[]) (l:=([]:List Int)) rfl (by kernel_rfl) rfl rfl rfl (fun w=>rfl) S6 rfl ?_;intro a13 c14 w15 S7 hf;refine go ?_;replace ⟨y16,hy16,h⟩:=obind h;refine LW.appN (l:=([]:List Int)) (m:=x0.own) sT22 rfl rfl (S7.rB hr0_1) hy16 S7 (i:=0) rfl rfl ?_;intro a17 c18 w19 S8 hf;refine go ?_;refine LW.st S8 3 fun w20 S9=>?_;refine go ?_;replace ⟨y21,hy21,h⟩:=obind h;refine LW.cl (W_s_l6Copy hy21 rfl (S9.rB hr0_2)) ?_;rintro _ w24 ⟨a22,c23,rfl,hs⟩;have S10:=S9.add hs;refine go ?_;refine LW.st S10 4 fun w25 S11=>?_;refine go ?_;replace ⟨y26,hy26,h⟩:=obind h;refine LW.cl (W_s_l10Copy hy26 rfl (S11.rB hr0_3) rfl (S11.rB hr0_7)) ?_;rintro _ w31 ⟨a27,c28,a29,c30,rfl,hs⟩;have S12:=S11.add hs;refine go ?_;refine LW.fl [1,2,21,22] fun e=>?_;refine LW.st S12 6 fun w32 S13=>?_;refine go ?_;refine LW.bsl (α:=DTap) (vs:=[]) (cs:=#[]) (l:=([]:List DTap)) rfl (by kernel_rfl) rfl rfl rfl (fun w=>rfl) S13 rfl ?_;intro a33 c34 w35 S14 hf;refine go ?_;replace ⟨y36,hy36,h⟩:=obind h;refine LW.appN (l:=([]:List DTap)) (m:=x0.taps) sT45 rfl rfl (S14.rB hr0_8) hy36 S14 (i:=0) rfl rfl ?_;intro a37 c38 w39 S15 hf;refine go ?_;refine LW.st S15 7 fun w40 S16=>?_;refine go ?_;refine LW.st S16 6 fun w41 S17=>?_;refine go ?_;cases h;exact And.intro trivial ⟨_,Res.one (resOne.b S17 6 rfl ag48 rfl rfl),a9,c10,a17,c18,a22,c23,a27,c28,a29,c30,a37,c38,rfl,S17.pick [5,4,3,1,2,0] rfl rfl⟩
theorem W_s_TreeOk {w0:World} {N:Nat} {x0:List DRes} {r:Bool} (h:F_s_TreeOk N x0=some r) {a0_0:Ad} {n0_0 c0_0:Nat} (hn0_0:n0_0=x0.length) (hr0_0:rdS (Bor w0 []) w0 a0_0 c0_0 x0) :
    Ret Tryz.prog 64 #[vS a0_0 n0_0 c0_0] w0 (fun v w=>v=.bool r∧St w0 [] w []):=by
 subst hn0_0;unfold F_s_TreeOk at h;refine Ret.fn Tryz.func64 fun e=>?_;have S1:=St.start w0;refine gs ?_;refine CW.region ?_;refine gs ?_;obtain ⟨j1,hj1,h2⟩:=obind h;refine CW.jn [0] [] [(23,.bool j1)] S1 (h1:=?_) (h2:=?_)
 · have h:=hj1;refine go ?_;rcases bcases ((x0.length:Int) != 5) with z3 | z3
   · replace h:=bcT h z3;refine go ?_;cases oi h;exact ⟨⟨rfl,rfl,trivial⟩,S1.pick [] rfl rfl⟩
   replace h:=bcF h z3;refine go ?_;replace ⟨y4,hy4,h⟩:=obind h;obtain ⟨b7,o8,cs9,hae,hb12,hp5,hq6,hd10,hk11⟩:=hr0_0.idx hy4;subst hae;obtain rfl:=hd10;refine go ?_;refine LW.u (Pur.ix Tryz.underlying40 sz130 rfl rfl hp5 hq6) rfl ?_;refine go ?_;refine LW.l (Ldr.old w0 ag4 rfl (hk11 0 _ rfl)) (S1.same _ hb12.1 hb12.2) rfl ?_;refine go ?_;rcases bcases (!y4.live) with z13 | z13
   · replace h:=bcT h z13;refine go ?_;cases oi h;exact ⟨⟨rfl,rfl,trivial⟩,S1.pick [] rfl rfl⟩
   replace h:=bcF h z13;refine go ?_;refine LW.u (Pur.ix Tryz.underlying40 sz130 rfl rfl hp5 hq6) rfl ?_;refine go ?_;refine LW.l (Ldr.old w0 ag3 rfl (hk11 1 _ rfl)) (S1.same _ hb12.1 hb12.2) rfl ?_;refine go ?_;cases oi h;exact ⟨⟨rfl,rfl,trivial⟩,S1.pick [] rfl rfl⟩
 intro e w14 S2;have h:=h2;refine go ?_;refine cd (fun z15=>?_) fun z15=>?_
 · replace h:=bcT h z15;refine go ?_;cases h;exact fi S2
 replace h:=bcF h z15;refine go ?_;obtain ⟨o66,ho66,h67⟩:=obind h;refine CW.mono (CW.lx [0] [] [0] 0 (fun s16=>[(3,vI s16)]) (RT Tryz.prog Tryz.f64.results (fun u=>.bool u) w0 []) S2 ho66 (hb:=?_)) ?_
 · intro s16 e w17 o S3 h;refine go ?_;refine cd (fun z18=>?_) fun z18=>?_
   · replace h:=bcT h z18;refine gs ?_;refine CW.block ?_;refine gs ?_;obtain ⟨j19,hj19,h20⟩:=obind h;refine CW.jn [0,3] [] [(52,.bool j19)] S3 (h1:=?_) (h2:=?_)
     · have h:=hj19;refine go ?_;replace ⟨y21,hy21,h⟩:=obind h;obtain ⟨b24,o25,cs26,hae,hb29,hp22,hq23,hd27,hk28⟩:=hr0_0.idx hy21;subst hae;obtain rfl:=hd27;refine LW.u (Pur.ix Tryz.underlying40 sz130 rfl rfl hp22 hq23) rfl ?_;refine go ?_;refine LW.l (Ldr.old w0 ag4 rfl (hk28 0 _ rfl)) (S3.same _ hb29.1 hb29.2) rfl ?_;refine go ?_;rcases bcases (!y21.live) with z30 | z30
       · replace h:=bcT h z30;refine go ?_;refine LW.u (Pur.ix Tryz.underlying40 sz130 rfl rfl hp22 hq23) rfl ?_;refine go ?_;refine LW.l (Ldr.oldN w0 ag130 rfl rfl (fun j u hu=>hk28 j u hu)) (S3.same _ hb29.1 hb29.2) rfl ?_;refine go ?_;refine LW.u (Pur.build (vs:=[]) (cs:=#[.bool false,vI 0,vI 0,vI 0,vI 0]) rfl (by kernel_rfl)) rfl ?_;refine go ?_;refine LW.u (Pur.ane eg130 rfl rfl (fun w=>eq130 y21 (DRes.mk false 0 (DAmt.mk 0 0 0)) w)) rfl ?_;refine go ?_;rcases bcases (!decide (y21=DRes.mk false 0 (DAmt.mk 0 0 0))) with z31 | z31
         · replace h:=bcT h z31;refine go ?_;cases oi h;exact ⟨⟨rfl,rfl,rfl,trivial⟩,S3.pick [] rfl rfl⟩
         replace h:=bcF h z31;refine go ?_;refine LW.fl [0,3,44,45,46] fun e=>?_;refine go ?_;refine LW.u (Pur.ix Tryz.underlying40 sz130 rfl rfl hp22 hq23) rfl ?_;refine go ?_;refine LW.l (Ldr.oldN w0 ag46 rfl rfl (fun j u hu=>oldsub (m:=3) hk28 2 hu)) (S3.same _ hb29.1 hb29.2) rfl ?_;replace ⟨y32,hy32,h⟩:=obind h;refine go ?_;refine LW.c0 (W_s_AmtOk hy32) S3 fun w33 S4=>?_;refine go ?_;cases oi h;exact ⟨⟨rfl,rfl,rfl,trivial⟩,S4.pick [] rfl rfl⟩
       replace h:=bcF h z30;refine go ?_;refine LW.fl [0,3,44,45,46] fun e=>?_;refine go ?_;refine LW.u (Pur.ix Tryz.underlying40 sz130 rfl rfl hp22 hq23) rfl ?_;refine go ?_;refine LW.l (Ldr.oldN w0 ag46 rfl rfl (fun j u hu=>oldsub (m:=3) hk28 2 hu)) (S3.same _ hb29.1 hb29.2) rfl ?_;replace ⟨y34,hy34,h⟩:=obind h;refine go ?_;refine LW.c0 (W_s_AmtOk hy34) S3 fun w35 S5=>?_;refine go ?_;cases oi h;exact ⟨⟨rfl,rfl,rfl,trivial⟩,S5.pick [] rfl rfl⟩
     intro e w36 S6;have h:=h20;refine go ?_;refine cd (fun z37=>?_) fun z37=>?_
     · replace h:=bcT h z37;refine go ?_;cases oi h;exact ⟨trivial,rfl,_,rfl,⟨_,Res.one (resOne.t rfl),rfl,S6.pick [] rfl rfl⟩⟩
     replace h:=bcF h z37;refine gs ?_;obtain ⟨j38,hj38,h39⟩:=obind h;refine CW.jn [0,3] [] [(91,.bool j38)] S6 (h1:=?_) (h2:=?_)
     · have h:=hj38;refine go ?_;rcases bcases (decide (s16 > 0)) with z40 | z40
       · replace h:=bcT h z40;refine go ?_;replace ⟨y41,hy41,h⟩:=obind h;obtain ⟨b44,o45,cs46,hae,hb49,hp42,hq43,hd47,hk48⟩:=hr0_0.idx hy41;subst hae;obtain rfl:=hd47;refine go ?_;refine LW.u (Pur.ix Tryz.underlying40 sz130 rfl rfl hp42 hq43) rfl ?_;refine go ?_;refine LW.l (Ldr.old w0 ag4 rfl (hk48 0 _ rfl)) (S6.same _ hb49.1 hb49.2) rfl ?_;refine go ?_;rcases bcases y41.live with z50 | z50
         · replace h:=bcT h z50;refine go ?_;refine LW.u (Pur.ix Tryz.underlying40 sz130 rfl rfl hp42 hq43) rfl ?_;refine go ?_;refine LW.l (Ldr.old w0 ag3 rfl (hk48 1 _ rfl)) (S6.same _ hb49.1 hb49.2) rfl ?_;replace ⟨y51,hy51,h⟩:=obind h;refine go ?_;refine LW.c0 (W_s_l6Res hy51) S6 fun w52 S7=>?_;refine go ?_;refine LW.fl [0,3,62,70] fun e=>?_;rcases bcases (!y51) with z53 | z53
           · replace h:=bcT h z53;refine go ?_;cases oi h;exact ⟨⟨rfl,rfl,rfl,trivial⟩,S7.pick [] rfl rfl⟩
           replace h:=bcF h z53;refine go ?_;refine LW.u (Pur.ix Tryz.underlying40 sz130 rfl rfl hp42 hq43) rfl ?_;refine go ?_;refine LW.l (Ldr.old w0 ag3 rfl (hk48 1 _ rfl)) (S7.same _ hb49.1 hb49.2) rfl ?_;refine go ?_;rcases bcases (y41.parent==s16) with z54 | z54
           · replace h:=bcT h z54;refine go ?_;cases oi h;exact ⟨⟨rfl,rfl,rfl,trivial⟩,S7.pick [] rfl rfl⟩
           replace h:=bcF h z54;refine go ?_;refine LW.u (Pur.ix Tryz.underlying40 sz130 rfl rfl hp42 hq43) rfl ?_;refine go ?_;refine LW.l (Ldr.old w0 ag3 rfl (hk48 1 _ rfl)) (S7.same _ hb49.1 hb49.2) rfl ?_;replace ⟨y55,hy55,h⟩:=obind h;obtain ⟨b58,o59,cs60,hae,hb63,hp56,hq57,hd61,hk62⟩:=hr0_0.idx hy55;cases hae;obtain rfl:=hd61;refine go ?_;refine LW.u (Pur.ix Tryz.underlying40 sz130 rfl rfl hp56 hq57) rfl ?_;refine go ?_;refine LW.l (Ldr.old w0 ag4 rfl (hk62 0 _ rfl)) (S7.same _ hb63.1 hb63.2) rfl ?_;refine go ?_;cases oi h;exact ⟨⟨rfl,rfl,rfl,trivial⟩,S7.pick [] rfl rfl⟩
         replace h:=bcF h z50;refine go ?_;cases oi h;exact ⟨⟨rfl,rfl,rfl,trivial⟩,S6.pick [] rfl rfl⟩
       replace h:=bcF h z40;refine go ?_;cases oi h;exact ⟨⟨rfl,rfl,rfl,trivial⟩,S6.pick [] rfl rfl⟩
     intro e w64 S8;have h:=h39;refine go ?_;refine cd (fun z65=>?_) fun z65=>?_
     · replace h:=bcT h z65;refine go ?_;cases oi h;exact ⟨trivial,rfl,_,rfl,⟨_,Res.one (resOne.t rfl),rfl,S8.pick [] rfl rfl⟩⟩
     replace h:=bcF h z65;refine go ?_;cases oi h;exact ⟨rfl,⟨⟨rfl,rfl,trivial⟩,S8.pick [] rfl rfl⟩⟩
   replace h:=bcF h z18;refine go ?_;cases oi h;exact ⟨trivial,rfl,⟨⟨rfl,trivial⟩,S3.pick [] rfl rfl⟩⟩
 intro x e w68 hM;rcases o66 with o66 | r123
 · obtain ⟨rfl,hM⟩:=hM;obtain ⟨hE,S9⟩:=hM;obtain ⟨e,rfl⟩:=hE.out;have h:=h67;refine go ?_;obtain ⟨o115,ho115,h116⟩:=obind h;refine CW.mono (CW.lx [0] [] [0] 2 (fun s69=>[(4,vI s69)]) (RT Tryz.prog Tryz.f64.results (fun u=>.bool u) w0 []) S9 ho115 (hb:=?_)) ?_
   · intro s69 e w70 o S10 h;refine go ?_;refine cd (fun z71=>?_) fun z71=>?_
     · replace h:=bcT h z71;refine go ?_;obtain ⟨o98,ho98,h99⟩:=obind h;refine CW.mono (CW.lb [0,4] [] [0,4,5] 4 (fun s72=>[(5,vI s72.1),(6,vI s72.2)]) S10 ho98 (hb:=?_)) ?_
       · intro s72 e w73 o S11 h;refine gs ?_;obtain ⟨j74,hj74,h75⟩:=obind h;refine CW.jn [0,4,5,6] [] [(111,.bool j74)] S11 (h1:=?_) (h2:=?_)
         · have h:=hj74;refine go ?_;rcases bcases (decide (s72.2<5)) with z76 | z76
           · replace h:=bcT h z76;refine go ?_;replace ⟨y77,hy77,h⟩:=obind h;obtain ⟨b80,o81,cs82,hae,hb85,hp78,hq79,hd83,hk84⟩:=hr0_0.idx hy77;subst hae;obtain rfl:=hd83;refine go ?_;refine LW.u (Pur.ix Tryz.underlying40 sz130 rfl rfl hp78 hq79) rfl ?_;refine go ?_;refine LW.l (Ldr.old w0 ag4 rfl (hk84 0 _ rfl)) (S11.same _ hb85.1 hb85.2) rfl ?_;refine go ?_;rcases bcases y77.live with z86 | z86
             · replace h:=bcT h z86;refine go ?_;cases oi h;exact ⟨⟨rfl,rfl,rfl,rfl,rfl,trivial⟩,S11.pick [] rfl rfl⟩
             replace h:=bcF h z86;refine go ?_;cases oi h;exact ⟨⟨rfl,rfl,rfl,rfl,rfl,trivial⟩,S11.pick [] rfl rfl⟩
           replace h:=bcF h z76;refine go ?_;cases oi h;exact ⟨⟨rfl,rfl,rfl,rfl,rfl,trivial⟩,S11.pick [] rfl rfl⟩
         intro e w87 S12;have h:=h75;refine go ?_;refine cd (fun z88=>?_) fun z88=>?_
         · replace h:=bcT h z88;refine go ?_;replace ⟨y89,hy89,h⟩:=obind h;obtain ⟨b92,o93,cs94,hae,hb97,hp90,hq91,hd95,hk96⟩:=hr0_0.idx hy89;subst hae;obtain rfl:=hd95;refine LW.u (Pur.ix Tryz.underlying40 sz130 rfl rfl hp90 hq91) rfl ?_;refine go ?_;refine LW.l (Ldr.old w0 ag3 rfl (hk96 1 _ rfl)) (S12.same _ hb97.1 hb97.2) rfl ?_;refine go ?_;cases oi h;exact ⟨rfl,⟨⟨rfl,rfl,rfl,rfl,trivial⟩,S12.pick [] rfl rfl⟩⟩
         replace h:=bcF h z88;refine go ?_;cases oi h;exact ⟨trivial,rfl,⟨⟨rfl,rfl,rfl,trivial⟩,S12.pick [] rfl rfl⟩⟩
       intro x e w100 hM;obtain ⟨rfl,hM⟩:=hM;obtain ⟨hE,S13⟩:=hM;obtain ⟨e,rfl⟩:=hE.out;have h:=h99;refine gs ?_;obtain ⟨j101,hj101,h102⟩:=obind h;refine CW.jn [0,4] [] [(127,.bool j101)] S13 (h1:=?_) (h2:=?_)
       · have h:=hj101;refine go ?_;replace ⟨y103,hy103,h⟩:=obind h;obtain ⟨b106,o107,cs108,hae,hb111,hp104,hq105,hd109,hk110⟩:=hr0_0.idx hy103;subst hae;obtain rfl:=hd109;refine LW.u (Pur.ix Tryz.underlying40 sz130 rfl rfl hp104 hq105) rfl ?_;refine go ?_;refine LW.l (Ldr.old w0 ag4 rfl (hk110 0 _ rfl)) (S13.same _ hb111.1 hb111.2) rfl ?_;refine go ?_;rcases bcases y103.live with z112 | z112
         · replace h:=bcT h z112;refine go ?_;cases oi h;exact ⟨⟨rfl,rfl,rfl,trivial⟩,S13.pick [] rfl rfl⟩
         replace h:=bcF h z112;refine go ?_;cases oi h;exact ⟨⟨rfl,rfl,rfl,trivial⟩,S13.pick [] rfl rfl⟩
       intro e w113 S14;have h:=h102;refine go ?_;refine cd (fun z114=>?_) fun z114=>?_
       · replace h:=bcT h z114;refine go ?_;cases oi h;exact ⟨trivial,rfl,_,rfl,⟨_,Res.one (resOne.t rfl),rfl,S14.pick [] rfl rfl⟩⟩
       replace h:=bcF h z114;refine go ?_;cases oi h;exact ⟨rfl,⟨⟨rfl,rfl,trivial⟩,S14.pick [] rfl rfl⟩⟩
     replace h:=bcF h z71;refine go ?_;cases oi h;exact ⟨trivial,rfl,⟨⟨rfl,trivial⟩,S10.pick [] rfl rfl⟩⟩
   intro x e w117 hM;rcases o115 with o115 | r122
   · obtain ⟨rfl,hM⟩:=hM;obtain ⟨hE,S15⟩:=hM;obtain ⟨e,rfl⟩:=hE.out;have h:=h116;refine go ?_;replace ⟨y118,hy118,h⟩:=obind h;refine LW.c0 (W_s_l6Sum hy118 rfl (S15.rB hr0_0)) S15 fun w119 S16=>?_;replace ⟨y120,hy120,h⟩:=obind h;refine LW.c0 (W_s_AmtOk hy120) S16 fun w121 S17=>?_;refine go ?_;cases h;exact fi S17
   obtain ⟨rfl,u,rfl,hM⟩:=hM;cases h116;exact And.intro trivial hM
 obtain ⟨rfl,u,rfl,hM⟩:=hM;cases h67;exact And.intro trivial hM
theorem W_s_ArenaOk {w0:World} {N:Nat} {x0:List DObj} {r:Bool} (h:F_s_ArenaOk N x0=some r) {a0_0:Ad} {n0_0 c0_0:Nat} (hn0_0:n0_0=x0.length) (hr0_0:rdS (Bor w0 []) w0 a0_0 c0_0 x0) :
    Ret Tryz.prog 126 #[vS a0_0 n0_0 c0_0] w0 (fun v w=>v=.bool r∧St w0 [] w []):=by
 subst hn0_0;unfold F_s_ArenaOk at h;refine Ret.fn Tryz.func126 fun e=>?_;have S1:=St.start w0;refine gs ?_;refine CW.region ?_;refine gs ?_;obtain ⟨j1,hj1,h2⟩:=obind h;refine CW.jn [0] [] [(29,.bool j1)] S1 (h1:=?_) (h2:=?_)
 · have h:=hj1;refine go ?_;rcases bcases ((x0.length:Int) != 10) with z3 | z3
   · replace h:=bcT h z3;refine go ?_;cases oi h;exact ⟨⟨rfl,rfl,trivial⟩,S1.pick [] rfl rfl⟩
   replace h:=bcF h z3;refine go ?_;replace ⟨y4,hy4,h⟩:=obind h;obtain ⟨b7,o8,cs9,hae,hb12,hp5,hq6,hd10,hk11⟩:=hr0_0.idx hy4;subst hae;obtain ⟨a13,c14,a16,c17,a19,c20,rfl,hr15,hr18,hr21⟩:=hd10;refine go ?_;refine LW.u (Pur.ix Tryz.underlying41 sz110 rfl rfl hp5 hq6) rfl ?_;refine go ?_;refine LW.l (Ldr.old w0 ag3 rfl (hk11 1 _ rfl)) (S1.same _ hb12.1 hb12.2) rfl ?_;refine go ?_;rcases bcases (y4.kind != 1) with z22 | z22
   · replace h:=bcT h z22;refine go ?_;cases oi h;exact ⟨⟨rfl,rfl,trivial⟩,S1.pick [] rfl rfl⟩
   replace h:=bcF h z22;refine go ?_;refine LW.u (Pur.ix Tryz.underlying41 sz110 rfl rfl hp5 hq6) rfl ?_;refine go ?_;refine LW.l (Ldr.old w0 ag3 rfl (hk11 2 _ rfl)) (S1.same _ hb12.1 hb12.2) rfl ?_;refine go ?_;rcases bcases (y4.box != (-1)) with z23 | z23
   · replace h:=bcT h z23;refine go ?_;cases oi h;exact ⟨⟨rfl,rfl,trivial⟩,S1.pick [] rfl rfl⟩
   replace h:=bcF h z23;refine go ?_;refine LW.u (Pur.ix Tryz.underlying41 sz110 rfl rfl hp5 hq6) rfl ?_;refine go ?_;refine LW.fl [0,23,26] fun e=>?_;refine go ?_;refine LW.l (Ldr.old w0 ag3 rfl (hk11 4 _ rfl)) (S1.same _ hb12.1 hb12.2) rfl ?_;refine go ?_;cases oi h;exact ⟨⟨rfl,rfl,trivial⟩,S1.pick [] rfl rfl⟩
 intro e w24 S2;have h:=h2;refine go ?_;refine cd (fun z25=>?_) fun z25=>?_
 · replace h:=bcT h z25;refine go ?_;cases h;exact fi S2
 replace h:=bcF h z25;refine go ?_;obtain ⟨o132,ho132,h133⟩:=obind h;refine CW.mono (CW.lx [0] [] [] 0 (fun s26=>[(3,vI s26)]) (RT Tryz.prog Tryz.f126.results (fun u=>.bool u) w0 []) S2 ho132 (hb:=?_)) ?_
 · intro s26 e w27 o S3 h;refine go ?_;refine cd (fun z28=>?_) fun z28=>?_
   · replace h:=bcT h z28;refine gs ?_;refine CW.block ?_;refine gs ?_;obtain ⟨j29,hj29,h30⟩:=obind h;refine CW.jn [0,3] [] [(73,.bool j29)] S3 (h1:=?_) (h2:=?_)
     · have h:=hj29;refine go ?_;replace ⟨y31,hy31,h⟩:=obind h;obtain ⟨b34,o35,cs36,hae,hb39,hp32,hq33,hd37,hk38⟩:=hr0_0.idx hy31;subst hae;obtain ⟨a40,c41,a43,c44,a46,c47,rfl,hr42,hr45,hr48⟩:=hd37;refine LW.u (Pur.ix Tryz.underlying41 sz110 rfl rfl hp32 hq33) rfl ?_;refine LW.l (Ldr.oldN w0 ag110 rfl rfl (fun j u hu=>hk38 j u hu)) (S3.same _ hb39.1 hb39.2) rfl ?_;replace ⟨y49,hy49,h⟩:=obind h;refine LW.c0 (W_s_ObjOk hy49 rfl (S3.rB hr42) rfl (S3.rB hr45) rfl (S3.rB hr48)) S3 fun w50 S4=>?_;refine go ?_;rcases bcases (!y49) with z51 | z51
       · replace h:=bcT h z51;refine go ?_;cases oi h;exact ⟨⟨rfl,rfl,rfl,trivial⟩,S4.pick [] rfl rfl⟩
       replace h:=bcF h z51;refine go ?_;refine LW.u (Pur.ix Tryz.underlying41 sz110 rfl rfl hp32 hq33) rfl ?_;refine go ?_;refine LW.l (Ldr.old w0 ag3 rfl (hk38 1 _ rfl)) (S4.same _ hb39.1 hb39.2) rfl ?_;refine go ?_;rcases bcases (y31.kind != 0) with z52 | z52
       · replace h:=bcT h z52;refine go ?_;refine LW.fl [0,3,42,53] fun e=>?_;rcases bcases (decide (s26 > 0)) with z53 | z53
         · replace h:=bcT h z53;refine go ?_;refine LW.u (Pur.ix Tryz.underlying41 sz110 rfl rfl hp32 hq33) rfl ?_;refine go ?_;refine LW.l (Ldr.old w0 ag3 rfl (hk38 2 _ rfl)) (S4.same _ hb39.1 hb39.2) rfl ?_;refine go ?_;rcases bcases (decide (y31.box ≥ 0)) with z54 | z54
           · replace h:=bcT h z54;refine go ?_;refine LW.u (Pur.ix Tryz.underlying41 sz110 rfl rfl hp32 hq33) rfl ?_;refine go ?_;refine LW.l (Ldr.old w0 ag3 rfl (hk38 2 _ rfl)) (S4.same _ hb39.1 hb39.2) rfl ?_;replace ⟨y55,hy55,h⟩:=obind h;obtain ⟨b58,o59,cs60,hae,hb63,hp56,hq57,hd61,hk62⟩:=hr0_0.idx hy55;cases hae;obtain ⟨a64,c65,a67,c68,a70,c71,rfl,hr66,hr69,hr72⟩:=hd61;refine go ?_;refine LW.u (Pur.ix Tryz.underlying41 sz110 rfl rfl hp56 hq57) rfl ?_;refine go ?_;refine LW.l (Ldr.old w0 ag3 rfl (hk62 1 _ rfl)) (S4.same _ hb63.1 hb63.2) rfl ?_;refine go ?_;cases oi h;exact ⟨⟨rfl,rfl,rfl,trivial⟩,S4.pick [] rfl rfl⟩
           replace h:=bcF h z54;refine go ?_;cases oi h;exact ⟨⟨rfl,rfl,rfl,trivial⟩,S4.pick [] rfl rfl⟩
         replace h:=bcF h z53;refine go ?_;cases oi h;exact ⟨⟨rfl,rfl,rfl,trivial⟩,S4.pick [] rfl rfl⟩
       replace h:=bcF h z52;refine go ?_;cases oi h;exact ⟨⟨rfl,rfl,rfl,trivial⟩,S4.pick [] rfl rfl⟩
     intro e w73 S5;have h:=h30;refine go ?_;refine cd (fun z74=>?_) fun z74=>?_
     · replace h:=bcT h z74;refine go ?_;cases oi h;exact ⟨trivial,rfl,_,rfl,⟨_,Res.one (resOne.t rfl),rfl,S5.pick [] rfl rfl⟩⟩
     replace h:=bcF h z74;refine go ?_;obtain ⟨o128,ho128,h129⟩:=obind h;refine CW.mono (CW.lx [0,3] [] [0,3] 2 (fun s75=>[(4,vI s75)]) (RT Tryz.prog Tryz.f126.results (fun u=>.bool u) w0 []) S5 ho128 (hb:=?_)) ?_
     · intro s75 e w76 o S6 h;refine go ?_;replace ⟨y77,hy77,h⟩:=obind h;obtain ⟨b80,o81,cs82,hae,hb85,hp78,hq79,hd83,hk84⟩:=hr0_0.idx hy77;subst hae;obtain ⟨a86,c87,a89,c90,a92,c93,rfl,hr88,hr91,hr94⟩:=hd83;refine LW.u (Pur.ix Tryz.underlying41 sz110 rfl rfl hp78 hq79) rfl ?_;refine go ?_;refine LW.l (Ldr.old w0 ag22 rfl (hk84 10 _ rfl)) (S6.same _ hb85.1 hb85.2) rfl ?_;refine go ?_;refine CW.fl [0,3,4,81] fun e=>?_;refine cd (fun z95=>?_) fun z95=>?_
       · replace h:=bcT h z95;refine go ?_;refine LW.u (Pur.ix Tryz.underlying41 sz110 rfl rfl hp78 hq79) rfl ?_;refine go ?_;refine LW.l (Ldr.old w0 ag22 rfl (hk84 10 _ rfl)) (S6.same _ hb85.1 hb85.2) rfl ?_;refine go ?_;replace ⟨y96,hy96,h⟩:=obind h;obtain ⟨b99,o100,cs101,hae,hb104,hp97,hq98,hd102,hk103⟩:=hr88.idx hy96;subst hae;obtain rfl:=hd102;refine LW.u (Pur.ix Tryz.underlying22 sz3 rfl rfl hp97 hq98) rfl ?_;refine LW.l (Ldr.old w0 ag3 rfl (hk103 0 _ rfl)) (S6.same _ hb104.1 hb104.2) rfl ?_;refine gs ?_;obtain ⟨j105,hj105,h106⟩:=obind h;refine CW.jn [0,3,4] [] [(101,.bool j105)] S6 (h1:=?_) (h2:=?_)
         · have h:=hj105;refine go ?_;rcases bcases (decide (y96 ≥ 0)) with z107 | z107
           · replace h:=bcT h z107;refine go ?_;replace ⟨y108,hy108,h⟩:=obind h;obtain ⟨b111,o112,cs113,hae,hb116,hp109,hq110,hd114,hk115⟩:=hr0_0.idx hy108;cases hae;obtain ⟨a117,c118,a120,c121,a123,c124,rfl,hr119,hr122,hr125⟩:=hd114;refine go ?_;refine LW.u (Pur.ix Tryz.underlying41 sz110 rfl rfl hp109 hq110) rfl ?_;refine go ?_;refine LW.l (Ldr.old w0 ag3 rfl (hk115 1 _ rfl)) (S6.same _ hb116.1 hb116.2) rfl ?_;refine go ?_;cases oi h;exact ⟨⟨rfl,rfl,rfl,rfl,trivial⟩,S6.pick [] rfl rfl⟩
           replace h:=bcF h z107;refine go ?_;cases oi h;exact ⟨⟨rfl,rfl,rfl,rfl,trivial⟩,S6.pick [] rfl rfl⟩
         intro e w126 S7;have h:=h106;refine go ?_;refine cd (fun z127=>?_) fun z127=>?_
         · replace h:=bcT h z127;refine go ?_;cases oi h;exact ⟨trivial,rfl,_,rfl,⟨_,Res.one (resOne.t rfl),rfl,S7.pick [] rfl rfl⟩⟩
         replace h:=bcF h z127;refine go ?_;cases oi h;exact ⟨rfl,⟨⟨rfl,rfl,rfl,trivial⟩,S7.pick [] rfl rfl⟩⟩
       replace h:=bcF h z95;refine go ?_;cases oi h;exact ⟨trivial,rfl,⟨⟨rfl,rfl,trivial⟩,S6.pick [] rfl rfl⟩⟩
     intro x e w130 hM;rcases o128 with o128 | r131
     · obtain ⟨rfl,hM⟩:=hM;obtain ⟨hE,S8⟩:=hM;obtain ⟨e,rfl⟩:=hE.out;have h:=h129;refine go ?_;cases oi h;exact ⟨rfl,⟨⟨rfl,rfl,trivial⟩,S8.pick [] rfl rfl⟩⟩
     obtain ⟨rfl,u,rfl,hM⟩:=hM;cases h129;exact ⟨trivial,rfl,_,rfl,hM⟩
   replace h:=bcF h z28;refine go ?_;cases oi h;exact ⟨trivial,rfl,⟨trivial,S3.pick [] rfl rfl⟩⟩
 intro x e w134 hM;rcases o132 with o132 | r135
 · obtain ⟨rfl,hM⟩:=hM;obtain ⟨hE,S9⟩:=hM;obtain ⟨e,rfl⟩:=hE.out;rw [show e=upds e [] from rfl];have h:=h133;refine go ?_;cases h;exact fi S9
 obtain ⟨rfl,u,rfl,hM⟩:=hM;cases h133;exact And.intro trivial hM
theorem W_s_AmtFits {w0:World} {N:Nat} {x0:DAmt} {x1:DAmt} {r:Bool} (h:F_s_AmtFits N x0 x1=some r) :
    Ret Tryz.prog 167 #[.agg #[vI x0.pages,vI x0.rent,vI x0.cpu],.agg #[vI x1.pages,vI x1.rent,vI x1.cpu]] w0 (fun v w=>v=.bool r∧St w0 [] w []):=by
 unfold F_s_AmtFits at h;refine Ret.fn Tryz.func167 fun e=>?_;have S1:=St.start w0;refine go ?_;refine LW.bo S1 fun g1 w2 S2=>?_;refine LW.bo S2 fun g3 w4 S3=>?_;refine go ?_;replace ⟨y5,hy5,h⟩:=obind h;refine LW.c0 (W_s_AmtOk hy5) S3 fun w6 S4=>?_;refine go ?_;rcases bcases y5 with z7 | z7
 · replace h:=bcT h z7;refine go ?_;replace ⟨y8,hy8,h⟩:=obind h;refine go ?_;refine LW.c0 (W_s_AmtOk hy8) S4 fun w9 S5=>?_;refine go ?_;rcases bcases y8 with z10 | z10
   · replace h:=bcT h z10;refine go ?_;rcases bcases (decide (x0.pages≤x1.pages)) with z11 | z11
     · replace h:=bcT h z11;refine go ?_;refine LW.fl [2,3,25] fun e=>?_;rcases bcases (decide (x0.rent≤x1.rent)) with z12 | z12
       · replace h:=bcT h z12;refine go ?_;cases h;exact fi S5
       replace h:=bcF h z12;refine go ?_;cases h;exact fi S5
     replace h:=bcF h z11;refine go ?_;cases h;exact fi S5
   replace h:=bcF h z10;refine go ?_;cases h;exact fi S5
 replace h:=bcF h z7;refine go ?_;cases h;exact fi S4
theorem W_s_AmtAdd {w0:World} {N:Nat} {x0:DAmt} {x1:DAmt} {r:DAmt×Bool} (h:F_s_AmtAdd N x0 x1=some r) :
    Ret Tryz.prog 74 #[.agg #[vI x0.pages,vI x0.rent,vI x0.cpu],.agg #[vI x1.pages,vI x1.rent,vI x1.cpu]] w0 (fun v w=>v=.tuple #[.agg #[vI r.1.pages,vI r.1.rent,vI r.1.cpu],.bool r.2]∧St w0 [] w []):=by
 unfold F_s_AmtAdd at h;refine Ret.fn Tryz.func74 fun e=>?_;have S1:=St.start w0;refine go ?_;refine LW.bo S1 fun g1 w2 S2=>?_;refine LW.bo S2 fun g3 w4 S3=>?_;refine LW.al S3 fun g5 w6 S4=>?_;refine gs ?_;obtain ⟨j7,hj7,h8⟩:=obind h;refine CW.jn [2,3,4] [0,1,2] [(14,.bool j7)] S4 (h1:=?_) (h2:=?_)
 · have h:=hj7;refine go ?_;replace ⟨y9,hy9,h⟩:=obind h;refine LW.c0 (W_s_AmtOk hy9) S4 fun w10 S5=>?_;refine go ?_;rcases bcases (!y9) with z11 | z11
   · replace h:=bcT h z11;refine go ?_;cases oi h;exact ⟨⟨rfl,rfl,rfl,rfl,trivial⟩,S5.pick [0,1,2] rfl rfl⟩
   replace h:=bcF h z11;refine go ?_;replace ⟨y12,hy12,h⟩:=obind h;refine go ?_;refine LW.c0 (W_s_AmtOk hy12) S5 fun w13 S6=>?_;refine go ?_;cases oi h;exact ⟨⟨rfl,rfl,rfl,rfl,trivial⟩,S6.pick [0,1,2] rfl rfl⟩
 intro e w14 S7;have h:=h8;refine go ?_;refine cd (fun z15=>?_) fun z15=>?_
 · replace h:=bcT h z15;refine go ?_;refine LW.st S7 0 fun w16 S8=>?_;refine go ?_;cases h;exact And.intro trivial ⟨_,Res.two (resOne.b S8 0 rfl ag46 rfl rfl) (resOne.t rfl),rfl,S8.pick [] rfl rfl⟩
 replace h:=bcF h z15;refine go ?_;refine LW.u (Pur.build (vs:=[(0,vI (IntKind.i64.wrap (x0.pages+x1.pages))),(1,vI (IntKind.i64.wrap (x0.rent+x1.rent))),(2,vI (IntKind.i64.wrap (x0.cpu+x1.cpu)))]) (cs:=#[vI (IntKind.i64.wrap (x0.pages+x1.pages)),vI (IntKind.i64.wrap (x0.rent+x1.rent)),vI (IntKind.i64.wrap (x0.cpu+x1.cpu))]) rfl (by kernel_rfl)) rfl ?_;refine LW.al S7 fun g17 w18 S9=>?_;refine LW.st S9 0 fun w19 S10=>?_;refine go ?_;replace ⟨y20,hy20,h⟩:=obind h;refine LW.c0 (W_s_AmtOk hy20) S10 fun w21 S11=>?_;refine go ?_;refine CW.fl [2,4,6,34] fun e=>?_;refine cd (fun z22=>?_) fun z22=>?_
 · replace h:=bcT h z22;refine go ?_;refine LW.st S11 1 fun w23 S12=>?_;refine go ?_;cases h;exact And.intro trivial ⟨_,Res.two (resOne.b S12 1 rfl ag46 rfl rfl) (resOne.t rfl),rfl,S12.pick [] rfl rfl⟩
 replace h:=bcF h z22;refine go ?_;refine LW.st S11 1 fun w24 S13=>?_;refine go ?_;cases h;exact And.intro trivial ⟨_,Res.two (resOne.b S13 1 rfl ag46 rfl rfl) (resOne.t rfl),rfl,S13.pick [] rfl rfl⟩
theorem W_i_leadsUp {w0:World} {N:Nat} {x0:List DRes} {x1:Int} {r:Bool} (h:F_i_leadsUp N x0 x1=some r) {a0_0:Ad} {n0_0 c0_0:Nat} (hn0_0:n0_0=x0.length) (hr0_0:rdS (Bor w0 []) w0 a0_0 c0_0 x0) :
    Ret Tryz.prog 139 #[vS a0_0 n0_0 c0_0,vI x1] w0 (fun v w=>v=.bool r∧St w0 [] w []):=by
 subst hn0_0;unfold F_i_leadsUp at h;refine Ret.fn Tryz.func139 fun e=>?_;have S1:=St.start w0;refine go ?_;obtain ⟨o17,ho17,h18⟩:=obind h;refine CW.mono (CW.lx [0] [] [] 0 (fun s1=>[(1,vI s1.1),(5,vI s1.2)]) (RT Tryz.prog Tryz.f139.results (fun u=>.bool u) w0 []) S1 ho17 (hb:=?_)) ?_
 · intro s1 e w2 o S2 h;refine go ?_;refine cd (fun z3=>?_) fun z3=>?_
   · replace h:=bcT h z3;refine go ?_;refine cd (fun z4=>?_) fun z4=>?_
     · replace h:=bcT h z4;refine go ?_;cases oi h;exact ⟨trivial,rfl,_,rfl,⟨_,Res.one (resOne.t rfl),rfl,S2.pick [] rfl rfl⟩⟩
     replace h:=bcF h z4;refine go ?_;replace ⟨y5,hy5,h⟩:=obind h;refine LW.c0 (W_i_isLive hy5 rfl (S2.rB hr0_0)) S2 fun w6 S3=>?_;refine go ?_;refine cd (fun z7=>?_) fun z7=>?_
     · replace h:=bcT h z7;refine go ?_;cases oi h;exact ⟨trivial,rfl,_,rfl,⟨_,Res.one (resOne.t rfl),rfl,S3.pick [] rfl rfl⟩⟩
     replace h:=bcF h z7;refine go ?_;replace ⟨y8,hy8,h⟩:=obind h;obtain ⟨b11,o12,cs13,hae,hb16,hp9,hq10,hd14,hk15⟩:=hr0_0.idx hy8;subst hae;obtain rfl:=hd14;refine LW.u (Pur.ix Tryz.underlying40 sz130 rfl rfl hp9 hq10) rfl ?_;refine go ?_;refine LW.l (Ldr.old w0 ag3 rfl (hk15 1 _ rfl)) (S3.same _ hb16.1 hb16.2) rfl ?_;refine go ?_;cases oi h;exact ⟨rfl,⟨⟨rfl,rfl,rfl,trivial⟩,S3.pick [] rfl rfl⟩⟩
   replace h:=bcF h z3;refine go ?_;cases oi h;exact ⟨trivial,rfl,⟨trivial,S2.pick [] rfl rfl⟩⟩
 intro x e w19 hM;rcases o17 with o17 | r20
 · obtain ⟨rfl,hM⟩:=hM;obtain ⟨hE,S4⟩:=hM;obtain ⟨e,rfl⟩:=hE.out;rw [show e=upds e [] from rfl];have h:=h18;refine go ?_;cases h;exact fi S4
 obtain ⟨rfl,u,rfl,hM⟩:=hM;cases h18;exact And.intro trivial hM
theorem W_i_ObjOk {w0:World} {N:Nat} {x0:DObj} {r:Bool} (h:F_i_ObjOk N x0=some r) {a0_10:Ad} {n0_10 c0_10:Nat} (hn0_10:n0_10=x0.links.length) (hr0_10:rdS (Bor w0 []) w0 a0_10 c0_10 x0.links) {a0_11:Ad} {n0_11 c0_11:Nat} (hn0_11:n0_11=x0.data.length) (hr0_11:rdS (Bor w0 []) w0 a0_11 c0_11 x0.data) {a0_12:Ad} {n0_12 c0_12:Nat} (hn0_12:n0_12=x0.queue.length) (hr0_12:rdS (Bor w0 []) w0 a0_12 c0_12 x0.queue) :
    Ret Tryz.prog 170 #[.agg #[vI x0.gen,vI x0.kind,vI x0.box,vI x0.res,vI x0.til,vI x0.pages,vI x0.wait,vI x0.got,vI x0.ran,.bool x0.mark,vS a0_10 n0_10 c0_10,vS a0_11 n0_11 c0_11,vS a0_12 n0_12 c0_12]] w0 (fun v w=>v=.bool r∧St w0 [] w []):=by
 subst hn0_10 hn0_11 hn0_12;unfold F_i_ObjOk at h;refine Ret.fn Tryz.func170 fun e=>?_;have S1:=St.start w0;refine go ?_;refine LW.bo S1 fun g1 w2 S2=>?_;refine gs ?_;obtain ⟨j3,hj3,h4⟩:=obind h;refine CW.jn [1] [0] [(12,.bool j3)] S2 (h1:=?_) (h2:=?_)
 · have h:=hj3;refine go ?_;replace ⟨y5,hy5,h⟩:=obind h;refine LW.c0 (W_i_within hy5) S2 fun w6 S3=>?_;refine go ?_;rcases bcases (!y5) with z7 | z7
   · replace h:=bcT h z7;refine go ?_;cases oi h;exact ⟨⟨rfl,rfl,trivial⟩,S3.pick [0] rfl rfl⟩
   replace h:=bcF h z7;refine go ?_;replace ⟨y8,hy8,h⟩:=obind h;refine go ?_;refine LW.c0 (W_i_within hy8) S3 fun w9 S4=>?_;refine go ?_;cases oi h;exact ⟨⟨rfl,rfl,trivial⟩,S4.pick [0] rfl rfl⟩
 intro e w10 S5;have h:=h4;refine go ?_;refine cd (fun z11=>?_) fun z11=>?_
 · replace h:=bcT h z11;refine go ?_;cases h;exact fi S5
 replace h:=bcF h z11;refine go ?_;refine cd (fun z12=>?_) fun z12=>?_
 · replace h:=bcT h z12;refine go ?_;refine LW.u (Pur.build (vs:=[(0,vI x0.gen)]) (cs:=#[vI x0.gen,vI 0,vI 0,vI 0,vI 0,vI 0,vI 0,vI 0,vI 0,.bool false,vS none 0 0,vS none 0 0,vS none 0 0]) rfl (by kernel_rfl)) rfl ?_;replace ⟨y13,hy13,h⟩:=obind h;refine LW.c0 (W_i_sameObj hy13 rfl (S5.rB hr0_10) rfl (S5.rB hr0_11) rfl (S5.rB hr0_12) rfl (show rdS (α:=Int) (Bor w10 []) w10 none 0 [] from rdS.nil _ _ _ _ (Nat.zero_le _)) rfl (show rdS (α:=Int) (Bor w10 []) w10 none 0 [] from rdS.nil _ _ _ _ (Nat.zero_le _)) rfl (show rdS (α:=DMsg) (Bor w10 []) w10 none 0 [] from rdS.nil _ _ _ _ (Nat.zero_le _))) S5 fun w14 S6=>?_;refine go ?_;cases h;exact fi S6
 replace h:=bcF h z12;refine gs ?_;obtain ⟨j15,hj15,h16⟩:=obind h;refine CW.jn [1] [0] [(47,.bool j15)] S5 (h1:=?_) (h2:=?_)
 · have h:=hj15;refine go ?_;replace ⟨y17,hy17,h⟩:=obind h;refine LW.c0 (W_i_within hy17) S5 fun w18 S7=>?_;refine go ?_;rcases bcases (!y17) with z19 | z19
   · replace h:=bcT h z19;refine go ?_;cases oi h;exact ⟨⟨rfl,rfl,trivial⟩,S7.pick [0] rfl rfl⟩
   replace h:=bcF h z19;refine go ?_;replace ⟨y20,hy20,h⟩:=obind h;refine go ?_;refine LW.c0 (W_i_isPlace hy20) S7 fun w21 S8=>?_;refine go ?_;rcases bcases (!y20) with z22 | z22
   · replace h:=bcT h z22;refine go ?_;cases oi h;exact ⟨⟨rfl,rfl,trivial⟩,S8.pick [0] rfl rfl⟩
   replace h:=bcF h z22;refine go ?_;replace ⟨y23,hy23,h⟩:=obind h;refine go ?_;refine LW.c0 (W_i_isTime hy23) S8 fun w24 S9=>?_;refine go ?_;rcases bcases (!y23) with z25 | z25
   · replace h:=bcT h z25;refine go ?_;cases oi h;exact ⟨⟨rfl,rfl,trivial⟩,S9.pick [0] rfl rfl⟩
   replace h:=bcF h z25;refine go ?_;refine LW.fl [1,37,39] fun e=>?_;replace ⟨y26,hy26,h⟩:=obind h;refine go ?_;refine LW.c0 (W_i_within hy26) S9 fun w27 S10=>?_;refine go ?_;rcases bcases (!y26) with z28 | z28
   · replace h:=bcT h z28;refine go ?_;cases oi h;exact ⟨⟨rfl,rfl,trivial⟩,S10.pick [0] rfl rfl⟩
   replace h:=bcF h z28;refine go ?_;replace ⟨y29,hy29,h⟩:=obind h;refine go ?_;refine LW.c0 (W_i_listsOk hy29 rfl (S10.rB hr0_10) rfl (S10.rB hr0_11) rfl (S10.rB hr0_12)) S10 fun w30 S11=>?_;refine go ?_;cases oi h;exact ⟨⟨rfl,rfl,trivial⟩,S11.pick [0] rfl rfl⟩
 intro e w31 S12;have h:=h16;refine go ?_;refine cd (fun z32=>?_) fun z32=>?_
 · replace h:=bcT h z32;refine go ?_;cases h;exact fi S12
 replace h:=bcF h z32;refine go ?_;refine cd (fun z33=>?_) fun z33=>?_
 · replace h:=bcT h z33;refine gs ?_;obtain ⟨j34,hj34,h35⟩:=obind h;refine CW.jn [] [] [(2,.bool j34)] S12 (h1:=?_) (h2:=?_)
   · have h:=hj34;refine go ?_;rcases bcases (x0.wait==0) with z36 | z36
     · replace h:=bcT h z36;refine go ?_;rcases bcases (x0.got==0) with z37 | z37
       · replace h:=bcT h z37;refine go ?_;cases oi h;exact ⟨⟨rfl,trivial⟩,S12.pick [] rfl rfl⟩
       replace h:=bcF h z37;refine go ?_;cases oi h;exact ⟨⟨rfl,trivial⟩,S12.pick [] rfl rfl⟩
     replace h:=bcF h z36;refine go ?_;cases oi h;exact ⟨⟨rfl,trivial⟩,S12.pick [] rfl rfl⟩
   intro e w38 S13;have h:=h35;refine go ?_;cases h;exact fi S13
 replace h:=bcF h z33;refine go ?_;rcases bcases (x0.wait==0) with z39 | z39
 · replace h:=bcT h z39;refine go ?_;replace ⟨y40,hy40,h⟩:=obind h;refine go ?_;refine LW.c0 (W_i_within hy40) S12 fun w41 S14=>?_;refine go ?_;rcases bcases y40 with z42 | z42
   · replace h:=bcT h z42;refine go ?_;refine LW.fl [78,80] fun e=>?_;replace ⟨y43,hy43,h⟩:=obind h;refine go ?_;refine LW.c0 (W_i_isTime hy43) S14 fun w44 S15=>?_;refine go ?_;cases h;exact fi S15
   replace h:=bcF h z42;refine go ?_;cases h;exact fi S14
 replace h:=bcF h z39;refine go ?_;replace ⟨y45,hy45,h⟩:=obind h;refine go ?_;refine LW.c0 (W_i_isHandle hy45) S12 fun w46 S16=>?_;refine go ?_;rcases bcases y45 with z47 | z47
 · replace h:=bcT h z47;refine go ?_;replace ⟨y48,hy48,h⟩:=obind h;refine go ?_;refine LW.c0 (W_i_within hy48) S16 fun w49 S17=>?_;refine go ?_;refine LW.fl [1,78] fun e=>?_;rcases bcases y48 with z50 | z50
   · replace h:=bcT h z50;refine go ?_;replace ⟨y51,hy51,h⟩:=obind h;refine go ?_;refine LW.c0 (W_i_isTime hy51) S17 fun w52 S18=>?_;refine go ?_;cases h;exact fi S18
   replace h:=bcF h z50;refine go ?_;cases h;exact fi S17
 replace h:=bcF h z47;refine go ?_;cases h;exact fi S16
theorem W_i_copyHeap {w0:World} {N:Nat} {x0:DHeap} {r:DHeap} (h:F_i_copyHeap N x0=some r) {a0_0:Ad} {n0_0 c0_0:Nat} (hn0_0:n0_0=x0.arena.length) (hr0_0:rdS (Bor w0 []) w0 a0_0 c0_0 x0.arena) {a0_4:Ad} {n0_4 c0_4:Nat} (hn0_4:n0_4=x0.gc.grey.length) (hr0_4:rdS (Bor w0 []) w0 a0_4 c0_4 x0.gc.grey) :
    Ret Tryz.prog 103 #[.agg #[vS a0_0 n0_0 c0_0,vI x0.gc.phase,vI x0.gc.pos,vI x0.gc.round,vS a0_4 n0_4 c0_4]] w0 (fun v w=>∃ ar0_0 cr0_0, ∃ ar0_4 cr0_4,v=.agg #[vS ar0_0 r.arena.length cr0_0,vI r.gc.phase,vI r.gc.pos,vI r.gc.round,vS ar0_4 r.gc.grey.length cr0_4]∧St w0 [] w [sl ar0_0 cr0_0 r.arena,sl ar0_4 cr0_4 r.gc.grey]):=by
 subst hn0_0 hn0_4;unfold F_i_copyHeap at h;refine Ret.fn Tryz.func103 fun e=>?_;have S1:=St.start w0;refine go ?_;refine LW.bo S1 fun g1 w2 S2=>?_;refine LW.al S2 fun g3 w4 S3=>?_;refine gs ?_;obtain ⟨j5,hj5,h6⟩:=obind h;refine CW.cut (fun e wb=>∃ (j5g3:Nat) (j5a1:Ad) (j5c1:Nat),En e [(1,.pointer (some ⟨g1,0,none⟩)),(2,.pointer (some ⟨g3,0,none⟩)),(3,.pointer (some ⟨j5g3,0,none⟩))]∧St w0 [] wb [bx g3 44 [vS none 0 0,vI 0,vI 0,vI 0,vS none 0 0],bx g1 44 [vS a0_0 x0.arena.length c0_0,vI x0.gc.phase,vI x0.gc.pos,vI x0.gc.round,vS a0_4 x0.gc.grey.length c0_4],bx j5g3 44 [vS j5a1 j5.length j5c1,vI x0.gc.phase,vI x0.gc.pos,vI x0.gc.round,vS a0_4 x0.gc.grey.length c0_4],sl j5a1 j5c1 j5]) ?_ ?_
 · have h:=hj5;refine CW.draw (by kernel_rfl) ?_;have S4:=S3.drew;refine go ?_;replace ⟨y7,hy7,h⟩:=obind h;refine AW.all (rs:=[2,6]) (by kernel_rfl) (by simp) ⟨?_,?_,trivial⟩
   · have q:=W_i_copyArena (w0:=w4.drew) hy7 rfl (S4.rB hr0_0);refine ⟨_,rfl,?_⟩;refine LW.call pl143 rfl rfl ?_;refine Ret.mono q ?_;rintro _ w18 ⟨a16,c17,rfl,hs⟩;have S5:=S4.add hs;refine jN (.c (S5.ce 2) (jW jZ)) ?_;refine AW.u (i:=5) rfl (by kernel_rfl) rfl rfl (Pur.build (vs:=[(0,vS a16 y7.length c17),(1,.agg #[vI x0.gc.phase,vI x0.gc.pos,vI x0.gc.round,vS a0_4 x0.gc.grey.length c0_4])]) (cs:=#[vS a16 y7.length c17,vI x0.gc.phase,vI x0.gc.pos,vI x0.gc.round,vS a0_4 x0.gc.grey.length c0_4]) rfl (by kernel_rfl)) ?_;refine jO 6 ?_;refine LW.al S5 fun g19 w20 S6=>?_;refine jN (.c (S6.ce 3) (.c (S6.ce 3) jZ)) ?_;refine jO 7 ?_;refine LW.st S6 0 fun w21 S7=>?_;refine jN (jW (jW jZ)) ?_;refine go ?_;cases oi h;exact ⟨g19,a16,c17,⟨rfl,rfl,rfl,trivial⟩,S7.pick [2,3,0,1] rfl rfl⟩
   refine ⟨_,rfl,?_⟩;refine LW.al S4 fun g22 w23 S8=>?_;refine jN (.c (S8.ce 2) (.c (S8.ce 2) jZ)) ?_;have q:=W_i_copyArena (w0:=w23) hy7 rfl (S8.rB hr0_0);refine jO 2 ?_;refine LW.call pl143 rfl rfl ?_;refine Ret.mono q ?_;rintro _ w26 ⟨a24,c25,rfl,hs⟩;have S9:=S8.add hs;refine jN (.c (S9.ce 3) (jW jZ)) ?_;refine AW.u (i:=5) rfl (by kernel_rfl) rfl rfl (Pur.build (vs:=[(0,vS a24 y7.length c25),(1,.agg #[vI x0.gc.phase,vI x0.gc.pos,vI x0.gc.round,vS a0_4 x0.gc.grey.length c0_4])]) (cs:=#[vS a24 y7.length c25,vI x0.gc.phase,vI x0.gc.pos,vI x0.gc.round,vS a0_4 x0.gc.grey.length c0_4]) rfl (by kernel_rfl)) ?_;refine jO 7 ?_;refine LW.st S9 1 fun w27 S10=>?_;refine jN (jW (jW jZ)) ?_;refine go ?_;cases oi h;exact ⟨g22,a24,c25,⟨rfl,rfl,rfl,trivial⟩,S10.pick [2,3,1,0] rfl rfl⟩
 rintro e w28 ⟨j5g3,j5a1,j5c1,hE,S11⟩;obtain ⟨e,rfl⟩:=hE.out;have h:=h6;refine go ?_;replace ⟨y29,hy29,h⟩:=obind h;refine LW.cl (W_i_copyInts hy29 rfl (S11.rB hr0_4)) ?_;rintro _ w32 ⟨a30,c31,rfl,hs⟩;have S12:=S11.add hs;refine go ?_;refine LW.st S12 3 fun w33 S13=>?_;refine go ?_;refine LW.st S13 1 fun w34 S14=>?_;refine go ?_;cases h;exact And.intro trivial ⟨_,Res.one (resOne.b S14 1 rfl ag44 rfl rfl),j5a1,j5c1,a30,c31,rfl,S14.pick [4,0] rfl rfl⟩
theorem W_i_AmtFits {w0:World} {N:Nat} {x0:DAmt} {x1:DAmt} {r:Bool} (h:F_i_AmtFits N x0 x1=some r) :
    Ret Tryz.prog 191 #[.agg #[vI x0.pages,vI x0.rent,vI x0.cpu],.agg #[vI x1.pages,vI x1.rent,vI x1.cpu]] w0 (fun v w=>v=.bool r∧St w0 [] w []):=by
 unfold F_i_AmtFits at h;refine Ret.fn Tryz.func191 fun e=>?_;have S1:=St.start w0;refine go ?_;refine LW.bo S1 fun g1 w2 S2=>?_;refine LW.bo S2 fun g3 w4 S3=>?_;refine go ?_;replace ⟨y5,hy5,h⟩:=obind h;refine LW.c0 (W_i_AmtOk hy5) S3 fun w6 S4=>?_;refine go ?_;rcases bcases y5 with z7 | z7
 · replace h:=bcT h z7;refine go ?_;replace ⟨y8,hy8,h⟩:=obind h;refine go ?_;refine LW.c0 (W_i_AmtOk hy8) S4 fun w9 S5=>?_;refine go ?_;rcases bcases y8 with z10 | z10
   · replace h:=bcT h z10;refine go ?_;rcases bcases (decide (x0.pages≤x1.pages)) with z11 | z11
     · replace h:=bcT h z11;refine go ?_;refine LW.fl [2,3,25] fun e=>?_;rcases bcases (decide (x0.rent≤x1.rent)) with z12 | z12
       · replace h:=bcT h z12;refine go ?_;cases h;exact fi S5
       replace h:=bcF h z12;refine go ?_;cases h;exact fi S5
     replace h:=bcF h z11;refine go ?_;cases h;exact fi S5
   replace h:=bcF h z10;refine go ?_;cases h;exact fi S5
 replace h:=bcF h z7;refine go ?_;cases h;exact fi S4
theorem W_i_AmtAdd {w0:World} {N:Nat} {x0:DAmt} {x1:DAmt} {r:DAmt×Bool} (h:F_i_AmtAdd N x0 x1=some r) :
    Ret Tryz.prog 177 #[.agg #[vI x0.pages,vI x0.rent,vI x0.cpu],.agg #[vI x1.pages,vI x1.rent,vI x1.cpu]] w0 (fun v w=>v=.tuple #[.agg #[vI r.1.pages,vI r.1.rent,vI r.1.cpu],.bool r.2]∧St w0 [] w []):=by
 unfold F_i_AmtAdd at h;refine Ret.fn Tryz.func177 fun e=>?_;have S1:=St.start w0;refine go ?_;refine LW.bo S1 fun g1 w2 S2=>?_;refine LW.bo S2 fun g3 w4 S3=>?_;refine LW.al S3 fun g5 w6 S4=>?_;refine gs ?_;obtain ⟨j7,hj7,h8⟩:=obind h;refine CW.jn [2,3,4] [0,1,2] [(20,.bool j7)] S4 (h1:=?_) (h2:=?_)
 · have h:=hj7;refine go ?_;replace ⟨y9,hy9,h⟩:=obind h;refine LW.c0 (W_i_AmtOk hy9) S4 fun w10 S5=>?_;refine go ?_;rcases bcases (!y9) with z11 | z11
   · replace h:=bcT h z11;refine go ?_;cases oi h;exact ⟨⟨rfl,rfl,rfl,rfl,trivial⟩,S5.pick [0,1,2] rfl rfl⟩
   replace h:=bcF h z11;refine go ?_;replace ⟨y12,hy12,h⟩:=obind h;refine go ?_;refine LW.c0 (W_i_AmtOk hy12) S5 fun w13 S6=>?_;refine go ?_;rcases bcases (!y12) with z14 | z14
   · replace h:=bcT h z14;refine go ?_;cases oi h;exact ⟨⟨rfl,rfl,rfl,rfl,trivial⟩,S6.pick [0,1,2] rfl rfl⟩
   replace h:=bcF h z14;refine go ?_;replace ⟨y15,hy15,h⟩:=obind h;refine go ?_;refine LW.c0 (W_i_sumOf hy15) S6 fun w16 S7=>?_;replace ⟨y17,hy17,h⟩:=obind h;refine go ?_;refine LW.c0 (W_i_AmtOk hy17) S7 fun w18 S8=>?_;refine go ?_;cases oi h;exact ⟨⟨rfl,rfl,rfl,rfl,trivial⟩,S8.pick [0,1,2] rfl rfl⟩
 intro e w19 S9;have h:=h8;refine go ?_;refine cd (fun z20=>?_) fun z20=>?_
 · replace h:=bcT h z20;refine go ?_;refine LW.st S9 0 fun w21 S10=>?_;refine go ?_;cases h;exact And.intro trivial ⟨_,Res.two (resOne.b S10 0 rfl ag46 rfl rfl) (resOne.t rfl),rfl,S10.pick [] rfl rfl⟩
 replace h:=bcF h z20;refine go ?_;replace ⟨y22,hy22,h⟩:=obind h;refine LW.c0 (W_i_sumOf hy22) S9 fun w23 S11=>?_;refine LW.st S11 0 fun w24 S12=>?_;refine go ?_;cases h;exact And.intro trivial ⟨_,Res.two (resOne.b S12 0 rfl ag46 rfl rfl) (resOne.t rfl),rfl,S12.pick [] rfl rfl⟩
end Go.Kx
