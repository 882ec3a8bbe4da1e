/- Each call returns what the plain function says. Printed by drive.py. -/
import Derived.Test.YtkgkknholfmgiaaGreatFa
import Derived.Test.YtkgkknholfmgiaaGreatPu
import Derived.Test.YtkgkknholfmgiaaGreatWa0
namespace Go.Kx
open Go Go.RowKit Go.Proofs
set_option maxRecDepth 10000
set_option maxHeartbeats 8000000
set_option linter.unusedVariables false
set_option linter.unusedSimpArgs false
theorem W_s_l8Copy {w0:World} {N:Nat} {x0:List DObj} {r:(List DObj)} (h:F_s_l8Copy N x0=some r) {a0_0:Ad} {n0_0 c0_0:Nat} (hn0_0:n0_0=x0.length) (hr0_0:rdS (Bor w0 []) w0 a0_0 c0_0 x0) :
    Ret Tryz.prog 175 #[vS a0_0 n0_0 c0_0] w0 (fun v w=>∃ ar0 cr0,v=vS ar0 r.length cr0∧St w0 [] w [sl ar0 cr0 r]):=by
 subst hn0_0;unfold F_s_l8Copy at h;refine Ret.fn Tryz.func175 fun e=>?_;have S1:=St.start w0;refine go ?_;refine LW.bsl (α:=DObj) (vs:=[]) (cs:=#[]) (l:=([]:List DObj)) rfl (by kernel_rfl) rfl rfl rfl (fun w=>rfl) S1 rfl ?_;intro a1 c2 w3 S2 hf;refine go ?_;obtain ⟨o38,ho38,h39⟩:=obind h;refine CW.ie ho38 0 (fun s4 e wb=>∃ (s4a0:Ad) (s4c0:Nat),En e [(0,vS a0_0 x0.length c0_0),(3,vS s4a0 s4.1.length s4c0),(4,vI s4.2)]∧St w0 [] wb [sl s4a0 s4c0 s4.1]) ?_ ⟨a1,c2,⟨rfl,rfl,rfl,trivial⟩,S2.pick [0] rfl rfl⟩ ?_
 · intro s4 e w5 o hM h;obtain ⟨s4a0,s4c0,hE,S3⟩:=hM;obtain ⟨e,rfl⟩:=hE.out;refine go ?_;refine cd (fun z6=>?_) fun z6=>?_
   · replace h:=bcT h z6;refine go ?_;replace ⟨y7,hy7,h⟩:=obind h;obtain ⟨b10,o11,cs12,hae,hb15,hp8,hq9,hd13,hk14⟩:=hr0_0.idx hy7;subst hae;obtain ⟨a16,c17,a19,c20,a22,c23,rfl,hr18,hr21,hr24⟩:=hd13;refine LW.u (Pur.ix Tryz.underlying28 sz50 rfl rfl hp8 hq9) rfl ?_;refine LW.l (Ldr.oldN w0 ag50 rfl rfl (fun j u hu=>hk14 j u hu)) (S3.same _ hb15.1 hb15.2) rfl ?_;replace ⟨y25,hy25,h⟩:=obind h;refine LW.cl (W_s_l8Obj hy25 rfl (S3.rB hr18) rfl (S3.rB hr21) rfl (S3.rB hr24)) ?_;rintro _ w32 ⟨a26,c27,a28,c29,a30,c31,rfl,hs⟩;have S4:=S3.add hs;have S5:=S4.pick (M:=[sl a26 c27 y25.links,sl a28 c29 y25.data,sl a30 c31 y25.queue]++[sl s4a0 s4c0 s4.1]) [0,1,2,3] rfl rfl;replace ⟨y33,hy33,h⟩:=obind h;refine LW.app1 (M:=[sl a26 c27 y25.links,sl a28 c29 y25.data,sl a30 c31 y25.queue]) (L:=[sl s4a0 s4c0 s4.1]) (vs:=#[vI y25.gen,vI y25.kind,vI y25.box,vI y25.res,vI y25.til,vI y25.pages,vI y25.wait,vI y25.got,vI y25.ran,.bool y25.mark,vS a26 y25.links.length c27,vS a28 y25.data.length c29,vS a30 y25.queue.length c31]) (i:=0) sT28 rfl (by kernel_rfl) rfl rfl hy33 S5 rfl (fun w G hG=>⟨a26,c27,a28,c29,a30,c31,rfl,hG⟩) rfl rfl ?_;intro v36 a34 c35 w37 S6 hf;refine go ?_;cases oi h;exact ⟨rfl,⟨a34,c35,⟨rfl,rfl,rfl,trivial⟩,S6.pick [0] rfl rfl⟩⟩
   replace h:=bcF h z6;refine go ?_;cases oi h;exact ⟨trivial,rfl,⟨s4a0,s4c0,⟨rfl,rfl,rfl,trivial⟩,S3.pick [0] rfl rfl⟩⟩
 rintro e w40 ⟨s4a0,s4c0,hE,S7⟩;obtain ⟨e,rfl⟩:=hE.out;have h:=h39;refine go ?_;cases h;exact And.intro trivial ⟨_,Res.one (resOne.t rfl),s4a0,s4c0,rfl,S7.pick [0] rfl rfl⟩
theorem W_s_l6Res {w0:World} {N:Nat} {x0:Int} {r:Bool} (h:F_s_l6Res N x0=some r) :
    Ret Tryz.prog 118 #[vI x0] w0 (fun v w=>v=.bool r∧St w0 [] w []):=by
 unfold F_s_l6Res at h;refine Ret.fn Tryz.func118 fun e=>?_;have S1:=St.start w0;refine go ?_;replace ⟨y1,hy1,h⟩:=obind h;refine LW.c0 (W_s_l1In hy1) S1 fun w2 S2=>?_;refine go ?_;cases h;exact fi S2
theorem W_s_l8Handle {w0:World} {N:Nat} {x0:Int} {r:Bool} (h:F_s_l8Handle N x0=some r) :
    Ret Tryz.prog 72 #[vI x0] w0 (fun v w=>v=.bool r∧St w0 [] w []):=by
 unfold F_s_l8Handle at h;refine Ret.fn Tryz.func72 fun e=>?_;have S1:=St.start w0;refine go ?_;replace ⟨y1,hy1,h⟩:=obind h;refine LW.c0 (W_s_l1In hy1) S1 fun w2 S2=>?_;refine go ?_;cases h;exact fi S2
theorem W_s_l8Slot {w0:World} {N:Nat} {x0:Int} {r:Bool} (h:F_s_l8Slot N x0=some r) :
    Ret Tryz.prog 55 #[vI x0] w0 (fun v w=>v=.bool r∧St w0 [] w []):=by
 unfold F_s_l8Slot at h;refine Ret.fn Tryz.func55 fun e=>?_;have S1:=St.start w0;refine go ?_;replace ⟨y1,hy1,h⟩:=obind h;refine LW.c0 (W_s_l1In hy1) S1 fun w2 S2=>?_;refine go ?_;cases h;exact fi S2
theorem W_s_l10Shade {w0:World} {F:List Nat} {N:Nat} {x0:DHeap} {x1:Int} {r:DHeap} (h:F_s_l10Shade N x0 x1=some r) {a0_0:Ad} {n0_0 c0_0:Nat} (hn0_0:n0_0=x0.arena.length) {a0_4:Ad} {n0_4 c0_4:Nat} (hn0_4:n0_4=x0.gc.grey.length) (hS:St w0 F w0 [sl a0_0 c0_0 x0.arena,sl a0_4 c0_4 x0.gc.grey]) :
    Ret Tryz.prog 176 #[.agg #[vS a0_0 n0_0 c0_0,vI x0.gc.phase,vI x0.gc.pos,vI x0.gc.round,vS a0_4 n0_4 c0_4],vI x1] w0 (fun v w=>∃ ar0_0 cr0_0, ∃ ar0_4 cr0_4,v=.agg #[vS ar0_0 r.arena.length cr0_0,vI r.gc.phase,vI r.gc.pos,vI r.gc.round,vS ar0_4 r.gc.grey.length cr0_4]∧St w0 F w [sl ar0_0 cr0_0 r.arena,sl ar0_4 cr0_4 r.gc.grey]):=by
 subst hn0_0 hn0_4;unfold F_s_l10Shade at h;refine Ret.fn Tryz.func176 fun e=>?_;refine go ?_;refine LW.bo hS fun g1 w2 S1=>?_;refine LW.al S1 fun g3 w4 S2=>?_;refine gs ?_;obtain ⟨j5,hj5,h6⟩:=obind h;refine CW.jn [1,2,4] [0,1,2,3] [(26,.bool j5)] S2 (h1:=?_) (h2:=?_)
 · have h:=hj5;refine go ?_;rcases bcases (x0.gc.phase==0) with z7 | z7
   · replace h:=bcT h z7;refine go ?_;replace ⟨y8,hy8,h⟩:=obind h;obtain ⟨b11,o12,hae,hp9,hq10⟩:=S2.ownIdx (α:=DObj) (i:=2) rfl hy8;subst hae;refine go ?_;refine LW.u (Pur.ix Tryz.underlying28 sz50 rfl rfl hp9 hq10) rfl ?_;refine go ?_;obtain ⟨F13,ho14,S3⟩:=S2.freeze (α:=DObj) 2 rfl;obtain ⟨b15,o16,cs17,hae,hb20,_,_,hd18,hk19⟩:=ho14.rdF.idx hy8;cases hae;obtain ⟨a21,c22,a24,c25,a27,c28,rfl,hr23,hr26,hr29⟩:=hd18;refine go ?_;refine LW.l (Ldr.old w4 ag3 rfl (hk19 1 _ rfl)) (S3.zC 2 rfl hb20) rfl ?_;refine go ?_;rcases bcases (y8.kind != 0) with z30 | z30
     · replace h:=bcT h z30;refine go ?_;refine LW.u (Pur.ix Tryz.underlying28 sz50 rfl rfl hp9 hq10) rfl ?_;refine go ?_;refine LW.fl [1,2,4,18,23] fun e=>?_;refine go ?_;refine LW.l (Ldr.old w4 ag4 rfl (hk19 9 _ rfl)) (S3.zC 2 rfl hb20) rfl ?_;refine go ?_;have S4:=S3.thaw (α:=DObj) 2 rfl ho14;cases oi h;exact ⟨⟨rfl,rfl,rfl,rfl,trivial⟩,S4.pick [0,1,2,3] rfl rfl⟩
     replace h:=bcF h z30;refine go ?_;have S5:=S3.thaw (α:=DObj) 2 rfl ho14;cases oi h;exact ⟨⟨rfl,rfl,rfl,rfl,trivial⟩,S5.pick [0,1,2,3] rfl rfl⟩
   replace h:=bcF h z7;refine go ?_;cases oi h;exact ⟨⟨rfl,rfl,rfl,rfl,trivial⟩,S2.pick [0,1,2,3] rfl rfl⟩
 intro e w31 S6;have h:=h6;refine gs ?_;obtain ⟨j32,hj32,h33⟩:=obind h;refine CW.cut (fun e wb=>∃ (j32a0:Ad) (j32c0:Nat),En e [(2,.pointer (some ⟨g1,0,none⟩)),(4,.pointer (some ⟨g3,0,none⟩))]∧St w0 F wb [bx g3 32 [vS none 0 0,vI 0,vI 0,vI 0,vS none 0 0],bx g1 32 [vS a0_0 j32.1.length c0_0,vI x0.gc.phase,vI x0.gc.pos,vI x0.gc.round,vS j32a0 j32.2.length j32c0],sl a0_0 c0_0 j32.1,sl j32a0 j32c0 j32.2]) ?_ ?_
 · have h:=hj32;refine cd (fun z34=>?_) fun z34=>?_
   · replace h:=bcT h z34;refine go ?_;replace ⟨y35,hy35,h⟩:=obind h;obtain ⟨b38,o39,hae,hp36,hq37⟩:=S6.ownIdx (α:=DObj) (i:=2) rfl hy35;subst hae;refine LW.u (Pur.ix Tryz.underlying28 sz50 rfl rfl hp36 hq37) rfl ?_;refine go ?_;replace ⟨y40,hy40,h⟩:=obind h;refine LW.se 9 S6 2 hy35 hy40 (hM:=(leafF (fun w cs F hF=>by obtain ⟨q0,r0,q1,r1,q2,r2,rfl,hH⟩:=hF;exact ⟨q0,r0,q1,r1,q2,r2,rfl,hH⟩))) fun w42 S7=>?_;refine go ?_;replace ⟨y43,hy43,h⟩:=obind h;refine LW.c0 (W_s_l4Has hy43 rfl (S7.rI 3 rfl)) S7 fun w44 S8=>?_;refine go ?_;refine CW.fl [1,2,4,37] fun e=>?_;refine cd (fun z45=>?_) fun z45=>?_
     · replace h:=bcT h z45;refine go ?_;replace ⟨y46,hy46,h⟩:=obind h;refine LW.app1 (M:=[]) (L:=[bx g3 32 [vS none 0 0,vI 0,vI 0,vI 0,vS none 0 0],bx g1 32 [vS (some ⟨b38,o39,none⟩) x0.arena.length c0_0,vI x0.gc.phase,vI x0.gc.pos,vI x0.gc.round,vS a0_4 x0.gc.grey.length c0_4],sl (some ⟨b38,o39,none⟩) c0_0 y40,sl a0_4 c0_4 x0.gc.grey]) (vs:=#[vI x1]) (i:=3) sT24 rfl (by kernel_rfl) rfl rfl hy46 S8 rfl (fun w G hG=>by cases (show G=[] from hG);exact ⟨rfl,rfl⟩) rfl rfl ?_;intro v49 a47 c48 w50 S9 hf;refine go ?_;refine LW.st S9 1 fun w51 S10=>?_;refine go ?_;rw [show x0.arena.length=y40.length from (len_set (oi hy40))] at S10;cases oi h;exact ⟨a47,c48,⟨rfl,rfl,trivial⟩,S10.pick [0,1,2,3] rfl rfl⟩
     replace h:=bcF h z45;refine go ?_;rw [show x0.arena.length=y40.length from (len_set (oi hy40))] at S8;cases oi h;exact ⟨a0_4,c0_4,⟨rfl,rfl,trivial⟩,S8.pick [0,1,2,3] rfl rfl⟩
   replace h:=bcF h z34;refine go ?_;cases oi h;exact ⟨a0_4,c0_4,⟨rfl,rfl,trivial⟩,S6.pick [0,1,2,3] rfl rfl⟩
 rintro e w52 ⟨j32a0,j32c0,hE,S11⟩;obtain ⟨e,rfl⟩:=hE.out;have h:=h33;refine go ?_;refine LW.st S11 0 fun w53 S12=>?_;refine go ?_;cases h;exact And.intro trivial ⟨_,Res.one (resOne.b S12 0 rfl ag32 rfl rfl),a0_0,c0_0,j32a0,j32c0,rfl,S12.pick [2,3] rfl rfl⟩
theorem W_i_copyLabel {w0:World} {N:Nat} {x0:DLabel} {r:DLabel} (h:F_i_copyLabel N x0=some r) {a0_0:Ad} {n0_0 c0_0:Nat} (hn0_0:n0_0=x0.levels.length) (hr0_0:rdS (Bor w0 []) w0 a0_0 c0_0 x0.levels) :
    Ret Tryz.prog 106 #[.agg #[vS a0_0 n0_0 c0_0]] w0 (fun v w=>∃ ar0_0 cr0_0,v=.agg #[vS ar0_0 r.levels.length cr0_0]∧St w0 [] w [sl ar0_0 cr0_0 r.levels]):=by
 subst hn0_0;unfold F_i_copyLabel at h;refine Ret.fn Tryz.func106 fun e=>?_;have S1:=St.start w0;refine go ?_;refine LW.bo S1 fun g1 w2 S2=>?_;refine LW.al S2 fun g3 w4 S3=>?_;refine go ?_;replace ⟨y5,hy5,h⟩:=obind h;refine LW.cl (W_i_copyInts hy5 rfl (S3.rB hr0_0)) ?_;rintro _ w8 ⟨a6,c7,rfl,hs⟩;have S4:=S3.add hs;refine LW.u (Pur.build (vs:=[(0,vS a6 y5.length c7)]) (cs:=#[vS a6 y5.length c7]) rfl (by kernel_rfl)) rfl ?_;refine LW.st S4 1 fun w9 S5=>?_;refine go ?_;cases h;exact And.intro trivial ⟨_,Res.one (resOne.b S5 1 rfl ag26 rfl rfl),a6,c7,rfl,S5.pick [0] rfl rfl⟩
theorem W_i_copyObj {w0:World} {N:Nat} {x0:DObj} {r:DObj} (h:F_i_copyObj N x0=some r) {a0_10:Ad} {n0_10 c0_10:Nat} (hn0_10:n0_10=x0.links.length) (hr0_10:rdS (Bor w0 []) w0 a0_10 c0_10 x0.links) {a0_11:Ad} {n0_11 c0_11:Nat} (hn0_11:n0_11=x0.data.length) (hr0_11:rdS (Bor w0 []) w0 a0_11 c0_11 x0.data) {a0_12:Ad} {n0_12 c0_12:Nat} (hn0_12:n0_12=x0.queue.length) (hr0_12:rdS (Bor w0 []) w0 a0_12 c0_12 x0.queue) :
    Ret Tryz.prog 188 #[.agg #[vI x0.gen,vI x0.kind,vI x0.box,vI x0.res,vI x0.til,vI x0.pages,vI x0.wait,vI x0.got,vI x0.ran,.bool x0.mark,vS a0_10 n0_10 c0_10,vS a0_11 n0_11 c0_11,vS a0_12 n0_12 c0_12]] w0 (fun v w=>∃ ar0_10 cr0_10, ∃ ar0_11 cr0_11, ∃ ar0_12 cr0_12,v=.agg #[vI r.gen,vI r.kind,vI r.box,vI r.res,vI r.til,vI r.pages,vI r.wait,vI r.got,vI r.ran,.bool r.mark,vS ar0_10 r.links.length cr0_10,vS ar0_11 r.data.length cr0_11,vS ar0_12 r.queue.length cr0_12]∧St w0 [] w [sl ar0_10 cr0_10 r.links,sl ar0_11 cr0_11 r.data,sl ar0_12 cr0_12 r.queue]):=by
 subst hn0_10 hn0_11 hn0_12;unfold F_i_copyObj at h;refine Ret.fn Tryz.func188 fun e=>?_;have S1:=St.start w0;refine go ?_;refine LW.bo S1 fun g1 w2 S2=>?_;refine LW.al S2 fun g3 w4 S3=>?_;refine gs ?_;obtain ⟨j5,hj5,h6⟩:=obind h;refine CW.cut (fun e wb=>∃ (j5a0:Ad) (j5c0:Nat) (j5a2:Ad) (j5c2:Nat) (j5a4:Ad) (j5c4:Nat),En e [(1,.pointer (some ⟨g1,0,none⟩)),(2,.pointer (some ⟨g3,0,none⟩))]∧St w0 [] wb [bx g3 50 [vI 0,vI 0,vI 0,vI 0,vI 0,vI 0,vI 0,vI 0,vI 0,.bool false,vS none 0 0,vS none 0 0,vS none 0 0],bx g1 50 [vI x0.gen,vI x0.kind,vI x0.box,vI x0.res,vI x0.til,vI x0.pages,vI x0.wait,vI x0.got,vI x0.ran,.bool x0.mark,vS j5a0 j5.1.length j5c0,vS j5a2 j5.2.1.length j5c2,vS j5a4 j5.2.2.length j5c4],sl j5a0 j5c0 j5.1,sl j5a2 j5c2 j5.2.1,sl j5a4 j5c4 j5.2.2]) ?_ ?_
 · have h:=hj5;refine CW.draw (by kernel_rfl) ?_;have S4:=S3.drew;refine go ?_;replace ⟨y7,hy7,h⟩:=obind h;refine AW.all (rs:=[2,6]) (by kernel_rfl) (by simp) ⟨?_,?_,trivial⟩
   · have q:=W_i_copyInts (w0:=w4.drew) hy7 rfl (S4.rB hr0_10);refine ⟨_,rfl,?_⟩;refine LW.call pl107 rfl rfl ?_;refine Ret.mono q ?_;rintro _ w19 ⟨a17,c18,rfl,hs⟩;have S5:=S4.add hs;refine jN (.c (S5.ce 2) (.c (S5.ce 2) (jW jZ))) ?_;refine AW.u (i:=10) rfl (by kernel_rfl) rfl rfl (Pur.fa fo50_10 rfl) ?_;replace ⟨y20,hy20,h⟩:=obind h;refine AW.all (rs:=[5,6]) (by kernel_rfl) (by simp) ⟨?_,?_,trivial⟩
     · have q:=W_i_copyInts (w0:=w19) hy20 rfl (S5.rB hr0_11);refine ⟨_,rfl,?_⟩;refine LW.call pl107 rfl rfl ?_;refine Ret.mono q ?_;rintro _ w32 ⟨a30,c31,rfl,hs⟩;have S6:=S5.add hs;refine jN (.c (S6.ce 3) (jW (.c (S6.ce 3) jZ))) ?_;refine jO 6 ?_;refine LW.bsl (α:=DMsg) (vs:=[]) (cs:=#[]) (l:=([]:List DMsg)) rfl (by kernel_rfl) rfl rfl rfl (fun w=>rfl) S6 rfl ?_;intro a33 c34 w35 S7 hf;refine jN (.c (S7.ce 4) (.c (S7.ce 4) (.c (S7.ce 4) jZ))) ?_;replace ⟨y36,hy36,h⟩:=obind h;refine jO 9 ?_;refine LW.appN (l:=([]:List DMsg)) (m:=x0.queue) sT48 rfl rfl (S7.rB hr0_12) hy36 S7 (i:=0) rfl rfl ?_;intro a37 c38 w39 S8 hf;refine jN (jW (.c (S8.ce 4) (.c (S8.ce 4) jZ))) ?_;refine jO 11 ?_;refine LW.st S8 4 fun w40 S9=>?_;refine jN (jW (jW (jW jZ))) ?_;refine go ?_;refine jO 13 ?_;refine LW.st S9 4 fun w41 S10=>?_;refine jN (jW (jW (jW jZ))) ?_;refine go ?_;refine jO 15 ?_;refine LW.st S10 4 fun w42 S11=>?_;refine jN (jW (jW (jW jZ))) ?_;refine go ?_;cases oi h;exact ⟨a17,c18,a30,c31,a37,c38,⟨rfl,rfl,trivial⟩,S11.pick [3,4,2,1,0] rfl rfl⟩
     refine ⟨_,rfl,?_⟩;refine LW.bsl (α:=DMsg) (vs:=[]) (cs:=#[]) (l:=([]:List DMsg)) rfl (by kernel_rfl) rfl rfl rfl (fun w=>rfl) S5 rfl ?_;intro a43 c44 w45 S12 hf;refine jN (.c (S12.ce 3) (.c (S12.ce 3) (.c (S12.ce 3) jZ))) ?_;have q:=W_i_copyInts (w0:=w45) hy20 rfl (S12.rB hr0_11);refine jO 5 ?_;refine LW.call pl107 rfl rfl ?_;refine Ret.mono q ?_;rintro _ w48 ⟨a46,c47,rfl,hs⟩;have S13:=S12.add hs;refine jN (.c (S13.ce 4) (jW (.c (S13.ce 4) jZ))) ?_;replace ⟨y49,hy49,h⟩:=obind h;refine jO 9 ?_;refine LW.appN (l:=([]:List DMsg)) (m:=x0.queue) sT48 rfl rfl (S13.rB hr0_12) hy49 S13 (i:=1) rfl rfl ?_;intro a50 c51 w52 S14 hf;refine jN (jW (.c (S14.ce 4) (.c (S14.ce 4) jZ))) ?_;refine jO 11 ?_;refine LW.st S14 4 fun w53 S15=>?_;refine jN (jW (jW (jW jZ))) ?_;refine go ?_;refine jO 13 ?_;refine LW.st S15 4 fun w54 S16=>?_;refine jN (jW (jW (jW jZ))) ?_;refine go ?_;refine jO 15 ?_;refine LW.st S16 4 fun w55 S17=>?_;refine jN (jW (jW (jW jZ))) ?_;refine go ?_;cases oi h;exact ⟨a17,c18,a46,c47,a50,c51,⟨rfl,rfl,trivial⟩,S17.pick [3,4,2,0,1] rfl rfl⟩
   refine ⟨_,rfl,?_⟩;refine LW.bsl (α:=DMsg) (vs:=[]) (cs:=#[]) (l:=([]:List DMsg)) rfl (by kernel_rfl) rfl rfl rfl (fun w=>rfl) S4 rfl ?_;intro a56 c57 w58 S18 hf;refine jN (.c (S18.ce 2) (.c (S18.ce 2) (.c (S18.ce 2) jZ))) ?_;have q:=W_i_copyInts (w0:=w58) hy7 rfl (S18.rB hr0_10);refine jO 2 ?_;refine LW.call pl107 rfl rfl ?_;refine Ret.mono q ?_;rintro _ w61 ⟨a59,c60,rfl,hs⟩;have S19:=S18.add hs;refine jN (.c (S19.ce 3) (.c (S19.ce 3) (jW jZ))) ?_;refine AW.u (i:=10) rfl (by kernel_rfl) rfl rfl (Pur.fa fo50_10 rfl) ?_;replace ⟨y62,hy62,h⟩:=obind h;have q:=W_i_copyInts (w0:=w61) hy62 rfl (S19.rB hr0_11);refine jO 5 ?_;refine LW.call pl107 rfl rfl ?_;refine Ret.mono q ?_;rintro _ w65 ⟨a63,c64,rfl,hs⟩;have S20:=S19.add hs;refine jN (.c (S20.ce 4) (jW (.c (S20.ce 4) jZ))) ?_;replace ⟨y66,hy66,h⟩:=obind h;refine jO 9 ?_;refine LW.appN (l:=([]:List DMsg)) (m:=x0.queue) sT48 rfl rfl (S20.rB hr0_12) hy66 S20 (i:=2) rfl rfl ?_;intro a67 c68 w69 S21 hf;refine jN (jW (.c (S21.ce 4) (.c (S21.ce 4) jZ))) ?_;refine jO 11 ?_;refine LW.st S21 4 fun w70 S22=>?_;refine jN (jW (jW (jW jZ))) ?_;refine go ?_;refine jO 13 ?_;refine LW.st S22 4 fun w71 S23=>?_;refine jN (jW (jW (jW jZ))) ?_;refine go ?_;refine jO 15 ?_;refine LW.st S23 4 fun w72 S24=>?_;refine jN (jW (jW (jW jZ))) ?_;refine go ?_;cases oi h;exact ⟨a59,c60,a63,c64,a67,c68,⟨rfl,rfl,trivial⟩,S24.pick [3,4,1,0,2] rfl rfl⟩
 rintro e w73 ⟨j5a0,j5c0,j5a2,j5c2,j5a4,j5c4,hE,S25⟩;obtain ⟨e,rfl⟩:=hE.out;have h:=h6;refine go ?_;refine LW.st S25 0 fun w74 S26=>?_;refine go ?_;cases h;exact And.intro trivial ⟨_,Res.one (resOne.b S26 0 rfl ag50 rfl rfl),j5a0,j5c0,j5a2,j5c2,j5a4,j5c4,rfl,S26.pick [2,3,4] rfl rfl⟩
theorem W_i_isPlace {w0:World} {N:Nat} {x0:Int} {r:Bool} (h:F_i_isPlace N x0=some r) :
    Ret Tryz.prog 163 #[vI x0] w0 (fun v w=>v=.bool r∧St w0 [] w []):=by
 unfold F_i_isPlace at h;refine Ret.fn Tryz.func163 fun e=>?_;have S1:=St.start w0;refine go ?_;replace ⟨y1,hy1,h⟩:=obind h;refine LW.c0 (W_i_within hy1) S1 fun w2 S2=>?_;refine go ?_;cases h;exact fi S2
theorem W_i_isPart {w0:World} {N:Nat} {x0:Int} {r:Bool} (h:F_i_isPart N x0=some r) :
    Ret Tryz.prog 69 #[vI x0] w0 (fun v w=>v=.bool r∧St w0 [] w []):=by
 unfold F_i_isPart at h;refine Ret.fn Tryz.func69 fun e=>?_;have S1:=St.start w0;refine go ?_;replace ⟨y1,hy1,h⟩:=obind h;refine LW.c0 (W_i_within hy1) S1 fun w2 S2=>?_;refine go ?_;cases h;exact fi S2
theorem W_i_LabelOk {w0:World} {N:Nat} {x0:DLabel} {r:Bool} (h:F_i_LabelOk N x0=some r) {a0_0:Ad} {n0_0 c0_0:Nat} (hn0_0:n0_0=x0.levels.length) (hr0_0:rdS (Bor w0 []) w0 a0_0 c0_0 x0.levels) :
    Ret Tryz.prog 111 #[.agg #[vS a0_0 n0_0 c0_0]] w0 (fun v w=>v=.bool r∧St w0 [] w []):=by
 subst hn0_0;unfold F_i_LabelOk at h;refine Ret.fn Tryz.func111 fun e=>?_;have S1:=St.start w0;refine go ?_;refine LW.bo S1 fun g1 w2 S2=>?_;refine go ?_;obtain ⟨o18,ho18,h19⟩:=obind h;refine CW.mono (CW.lx [1,6,7] [0] [1] 0 (fun s3=>[(8,vI s3)]) (RT Tryz.prog Tryz.f111.results (fun u=>.bool u) w0 []) S2 ho18 (hb:=?_)) ?_
 · intro s3 e w4 o S3 h;refine go ?_;refine cd (fun z5=>?_) fun z5=>?_
   · replace h:=bcT h z5;refine go ?_;replace ⟨y6,hy6,h⟩:=obind h;obtain ⟨b9,o10,cs11,hae,hb14,hp7,hq8,hd12,hk13⟩:=hr0_0.idx hy6;subst hae;obtain rfl:=hd12;refine LW.u (Pur.ix Tryz.underlying24 sz3 rfl rfl hp7 hq8) rfl ?_;refine LW.l (Ldr.old w0 ag3 rfl (hk13 0 _ rfl)) (S3.same _ hb14.1 hb14.2) rfl ?_;refine go ?_;replace ⟨y15,hy15,h⟩:=obind h;refine LW.c0 (W_i_within hy15) S3 fun w16 S4=>?_;refine go ?_;refine CW.fl [1,6,7,8,14] fun e=>?_;refine cd (fun z17=>?_) fun z17=>?_
     · replace h:=bcT h z17;refine go ?_;cases oi h;exact ⟨trivial,rfl,_,rfl,⟨_,Res.one (resOne.t rfl),rfl,S4.pick [] rfl rfl⟩⟩
     replace h:=bcF h z17;refine go ?_;cases oi h;exact ⟨rfl,⟨⟨rfl,rfl,rfl,rfl,trivial⟩,S4.pick [0] rfl rfl⟩⟩
   replace h:=bcF h z5;refine go ?_;cases oi h;exact ⟨trivial,rfl,⟨⟨rfl,trivial⟩,S3.pick [0] rfl rfl⟩⟩
 intro x e w20 hM;rcases o18 with o18 | r21
 · obtain ⟨rfl,hM⟩:=hM;obtain ⟨hE,S5⟩:=hM;obtain ⟨e,rfl⟩:=hE.out;have h:=h19;refine go ?_;cases h;exact fi S5
 obtain ⟨rfl,u,rfl,hM⟩:=hM;cases h19;exact And.intro trivial hM
theorem W_i_OwnOk {w0:World} {N:Nat} {x0:List Int} {r:Bool} (h:F_i_OwnOk N x0=some r) {a0_0:Ad} {n0_0 c0_0:Nat} (hn0_0:n0_0=x0.length) (hr0_0:rdS (Bor w0 []) w0 a0_0 c0_0 x0) :
    Ret Tryz.prog 112 #[vS a0_0 n0_0 c0_0] w0 (fun v w=>v=.bool r∧St w0 [] w []):=by
 subst hn0_0;unfold F_i_OwnOk at h;refine Ret.fn Tryz.func112 fun e=>?_;have S1:=St.start w0;refine go ?_;obtain ⟨o30,ho30,h31⟩:=obind h;refine CW.mono (CW.lx [0,5,6] [] [] 0 (fun s1=>[(7,vI s1)]) (RT Tryz.prog Tryz.f112.results (fun u=>.bool u) w0 []) S1 ho30 (hb:=?_)) ?_
 · intro s1 e w2 o S2 h;refine go ?_;refine cd (fun z3=>?_) fun z3=>?_
   · replace h:=bcT h z3;refine go ?_;replace ⟨y4,hy4,h⟩:=obind h;obtain ⟨b7,o8,cs9,hae,hb12,hp5,hq6,hd10,hk11⟩:=hr0_0.idx hy4;subst hae;obtain rfl:=hd10;refine LW.u (Pur.ix Tryz.underlying24 sz3 rfl rfl hp5 hq6) rfl ?_;refine LW.l (Ldr.old w0 ag3 rfl (hk11 0 _ rfl)) (S2.same _ hb12.1 hb12.2) rfl ?_;refine gs ?_;obtain ⟨j13,hj13,h14⟩:=obind h;refine CW.jn [0,5,6,7] [] [(27,.bool j13)] S2 (h1:=?_) (h2:=?_)
     · have h:=hj13;refine go ?_;replace ⟨y15,hy15,h⟩:=obind h;refine LW.c0 (W_i_within hy15) S2 fun w16 S3=>?_;refine go ?_;rcases bcases (!y15) with z17 | z17
       · replace h:=bcT h z17;refine go ?_;cases oi h;exact ⟨⟨rfl,rfl,rfl,rfl,rfl,trivial⟩,S3.pick [] rfl rfl⟩
       replace h:=bcF h z17;refine go ?_;rcases bcases (decide (s1 > 0)) with z18 | z18
       · replace h:=bcT h z18;refine go ?_;replace ⟨y19,hy19,h⟩:=obind h;obtain ⟨b22,o23,cs24,hae,hb27,hp20,hq21,hd25,hk26⟩:=hr0_0.idx hy19;cases hae;obtain rfl:=hd25;refine go ?_;refine LW.u (Pur.ix Tryz.underlying24 sz3 rfl rfl hp20 hq21) rfl ?_;refine LW.fl [0,4,5,6,7,15,18,22] fun e=>?_;refine go ?_;refine LW.l (Ldr.old w0 ag3 rfl (hk26 0 _ rfl)) (S3.same _ hb27.1 hb27.2) rfl ?_;refine go ?_;cases oi h;exact ⟨⟨rfl,rfl,rfl,rfl,rfl,trivial⟩,S3.pick [] rfl rfl⟩
       replace h:=bcF h z18;refine go ?_;cases oi h;exact ⟨⟨rfl,rfl,rfl,rfl,rfl,trivial⟩,S3.pick [] rfl rfl⟩
     intro e w28 S4;have h:=h14;refine go ?_;refine cd (fun z29=>?_) fun z29=>?_
     · replace h:=bcT h z29;refine go ?_;cases oi h;exact ⟨trivial,rfl,_,rfl,⟨_,Res.one (resOne.t rfl),rfl,S4.pick [] rfl rfl⟩⟩
     replace h:=bcF h z29;refine go ?_;cases oi h;exact ⟨rfl,⟨⟨rfl,rfl,rfl,rfl,trivial⟩,S4.pick [] rfl rfl⟩⟩
   replace h:=bcF h z3;refine go ?_;cases oi h;exact ⟨trivial,rfl,⟨trivial,S2.pick [] rfl rfl⟩⟩
 intro x e w32 hM;rcases o30 with o30 | r33
 · obtain ⟨rfl,hM⟩:=hM;obtain ⟨hE,S5⟩:=hM;obtain ⟨e,rfl⟩:=hE.out;rw [show e=upds e [] from rfl];have h:=h31;refine go ?_;cases h;exact fi S5
 obtain ⟨rfl,u,rfl,hM⟩:=hM;cases h31;exact And.intro trivial hM
theorem W_i_isAmount {w0:World} {N:Nat} {x0:Int} {r:Bool} (h:F_i_isAmount N x0=some r) :
    Ret Tryz.prog 167 #[vI x0] w0 (fun v w=>v=.bool r∧St w0 [] w []):=by
 unfold F_i_isAmount at h;refine Ret.fn Tryz.func167 fun e=>?_;have S1:=St.start w0;refine go ?_;replace ⟨y1,hy1,h⟩:=obind h;refine LW.c0 (W_i_within hy1) S1 fun w2 S2=>?_;refine go ?_;cases h;exact fi S2
theorem W_i_isSlot {w0:World} {N:Nat} {x0:Int} {r:Bool} (h:F_i_isSlot N x0=some r) :
    Ret Tryz.prog 115 #[vI x0] w0 (fun v w=>v=.bool r∧St w0 [] w []):=by
 unfold F_i_isSlot at h;refine Ret.fn Tryz.func115 fun e=>?_;have S1:=St.start w0;refine go ?_;replace ⟨y1,hy1,h⟩:=obind h;refine LW.c0 (W_i_within hy1) S1 fun w2 S2=>?_;refine go ?_;cases h;exact fi S2
theorem W_z_Contains_int {w0:World} {N:Nat} {x0:List Int} {x1:Int} {r:Bool} (h:F_z_Contains_int N x0 x1=some r) {a0_0:Ad} {n0_0 c0_0:Nat} (hn0_0:n0_0=x0.length) (hr0_0:rdS (Bor w0 []) w0 a0_0 c0_0 x0) :
    Ret Tryz.prog 165 #[vS a0_0 n0_0 c0_0,vI x1] w0 (fun v w=>v=.bool r∧St w0 [] w []):=by
 subst hn0_0;unfold F_z_Contains_int at h;refine Ret.fn Tryz.func165 fun e=>?_;have S1:=St.start w0;refine go ?_;replace ⟨y1,hy1,h⟩:=obind h;refine LW.c0 (W_z_Index_int hy1 rfl (S1.rB hr0_0)) S1 fun w2 S2=>?_;refine go ?_;cases h;exact fi S2
theorem W_i_sameObj {w0:World} {N:Nat} {x0:DObj} {x1:DObj} {r:Bool} (h:F_i_sameObj N x0 x1=some r) {a0_10:Ad} {n0_10 c0_10:Nat} (hn0_10:n0_10=x0.links.length) (hr0_10:rdS (Bor w0 []) w0 a0_10 c0_10 x0.links) {a0_11:Ad} {n0_11 c0_11:Nat} (hn0_11:n0_11=x0.data.length) (hr0_11:rdS (Bor w0 []) w0 a0_11 c0_11 x0.data) {a0_12:Ad} {n0_12 c0_12:Nat} (hn0_12:n0_12=x0.queue.length) (hr0_12:rdS (Bor w0 []) w0 a0_12 c0_12 x0.queue) {a1_10:Ad} {n1_10 c1_10:Nat} (hn1_10:n1_10=x1.links.length) (hr1_10:rdS (Bor w0 []) w0 a1_10 c1_10 x1.links) {a1_11:Ad} {n1_11 c1_11:Nat} (hn1_11:n1_11=x1.data.length) (hr1_11:rdS (Bor w0 []) w0 a1_11 c1_11 x1.data) {a1_12:Ad} {n1_12 c1_12:Nat} (hn1_12:n1_12=x1.queue.length) (hr1_12:rdS (Bor w0 []) w0 a1_12 c1_12 x1.queue) :
    Ret Tryz.prog 197 #[.agg #[vI x0.gen,vI x0.kind,vI x0.box,vI x0.res,vI x0.til,vI x0.pages,vI x0.wait,vI x0.got,vI x0.ran,.bool x0.mark,vS a0_10 n0_10 c0_10,vS a0_11 n0_11 c0_11,vS a0_12 n0_12 c0_12],.agg #[vI x1.gen,vI x1.kind,vI x1.box,vI x1.res,vI x1.til,vI x1.pages,vI x1.wait,vI x1.got,vI x1.ran,.bool x1.mark,vS a1_10 n1_10 c1_10,vS a1_11 n1_11 c1_11,vS a1_12 n1_12 c1_12]] w0 (fun v w=>v=.bool r∧St w0 [] w []):=by
 subst hn0_10 hn0_11 hn0_12 hn1_10 hn1_11 hn1_12;unfold F_i_sameObj at h;refine Ret.fn Tryz.func197 fun e=>?_;have S1:=St.start w0;refine go ?_;refine LW.bo S1 fun g1 w2 S2=>?_;refine LW.bo S2 fun g3 w4 S3=>?_;refine go ?_;rcases bcases (x0.gen==x1.gen) with z5 | z5
 · replace h:=bcT h z5;refine go ?_;rcases bcases (x0.kind==x1.kind) with z6 | z6
   · replace h:=bcT h z6;refine go ?_;refine LW.fl [2,3,24] fun e=>?_;rcases bcases (x0.box==x1.box) with z7 | z7
     · replace h:=bcT h z7;refine go ?_;rcases bcases (x0.res==x1.res) with z8 | z8
       · replace h:=bcT h z8;refine go ?_;rcases bcases (x0.til==x1.til) with z9 | z9
         · replace h:=bcT h z9;refine go ?_;rcases bcases (x0.pages==x1.pages) with z10 | z10
           · replace h:=bcT h z10;refine go ?_;refine LW.fl [2,3,52] fun e=>?_;rcases bcases (x0.wait==x1.wait) with z11 | z11
             · replace h:=bcT h z11;refine go ?_;rcases bcases (x0.got==x1.got) with z12 | z12
               · replace h:=bcT h z12;refine go ?_;rcases bcases (x0.ran==x1.ran) with z13 | z13
                 · replace h:=bcT h z13;refine go ?_;refine LW.u (Pur.beq Tryz.underlying4 rfl rfl) rfl ?_;refine go ?_;rcases bcases (x0.mark==x1.mark) with z14 | z14
                   · replace h:=bcT h z14;refine go ?_;refine LW.fl [2,3,73,75,77] fun e=>?_;replace ⟨y15,hy15,h⟩:=obind h;refine go ?_;refine LW.c0 (W_z_Equal_int hy15 rfl (S3.rB hr0_10) rfl (S3.rB hr1_10)) S3 fun w16 S4=>?_;refine go ?_;rcases bcases y15 with z17 | z17
                     · replace h:=bcT h z17;refine go ?_;replace ⟨y18,hy18,h⟩:=obind h;refine go ?_;refine LW.c0 (W_z_Equal_int hy18 rfl (S4.rB hr0_11) rfl (S4.rB hr1_11)) S4 fun w19 S5=>?_;refine go ?_;rcases bcases y18 with z20 | z20
                       · replace h:=bcT h z20;refine go ?_;replace ⟨y21,hy21,h⟩:=obind h;refine go ?_;refine LW.c0 (W_z_Equal_Msg hy21 rfl (S5.rB hr0_12) rfl (S5.rB hr1_12)) S5 fun w22 S6=>?_;refine go ?_;cases h;exact fi S6
                       replace h:=bcF h z20;refine go ?_;cases h;exact fi S5
                     replace h:=bcF h z17;refine go ?_;cases h;exact fi S4
                   replace h:=bcF h z14;refine go ?_;cases h;exact fi S3
                 replace h:=bcF h z13;refine go ?_;cases h;exact fi S3
               replace h:=bcF h z12;refine go ?_;cases h;exact fi S3
             replace h:=bcF h z11;refine go ?_;cases h;exact fi S3
           replace h:=bcF h z10;refine go ?_;cases h;exact fi S3
         replace h:=bcF h z9;refine go ?_;cases h;exact fi S3
       replace h:=bcF h z8;refine go ?_;cases h;exact fi S3
     replace h:=bcF h z7;refine go ?_;cases h;exact fi S3
   replace h:=bcF h z6;refine go ?_;cases h;exact fi S3
 replace h:=bcF h z5;refine go ?_;cases h;exact fi S3
theorem W_i_isTime {w0:World} {N:Nat} {x0:Int} {r:Bool} (h:F_i_isTime N x0=some r) :
    Ret Tryz.prog 117 #[vI x0] w0 (fun v w=>v=.bool r∧St w0 [] w []):=by
 unfold F_i_isTime at h;refine Ret.fn Tryz.func117 fun e=>?_;have S1:=St.start w0;refine go ?_;replace ⟨y1,hy1,h⟩:=obind h;refine LW.c0 (W_i_within hy1) S1 fun w2 S2=>?_;refine go ?_;cases h;exact fi S2
theorem W_i_isHandle {w0:World} {N:Nat} {x0:Int} {r:Bool} (h:F_i_isHandle N x0=some r) :
    Ret Tryz.prog 127 #[vI x0] w0 (fun v w=>v=.bool r∧St w0 [] w []):=by
 unfold F_i_isHandle at h;refine Ret.fn Tryz.func127 fun e=>?_;have S1:=St.start w0;refine go ?_;replace ⟨y1,hy1,h⟩:=obind h;refine LW.c0 (W_i_within hy1) S1 fun w2 S2=>?_;refine go ?_;cases h;exact fi S2
theorem W_s_SameArena {w0:World} {N:Nat} {x0:List DObj} {x1:List DObj} {r:Bool} (h:F_s_SameArena N x0 x1=some r) {a0_0:Ad} {n0_0 c0_0:Nat} (hn0_0:n0_0=x0.length) (hr0_0:rdS (Bor w0 []) w0 a0_0 c0_0 x0) {a1_0:Ad} {n1_0 c1_0:Nat} (hn1_0:n1_0=x1.length) (hr1_0:rdS (Bor w0 []) w0 a1_0 c1_0 x1) :
    Ret Tryz.prog 60 #[vS a0_0 n0_0 c0_0,vS a1_0 n1_0 c1_0] w0 (fun v w=>v=.bool r∧St w0 [] w []):=by
 subst hn0_0 hn1_0;unfold F_s_SameArena at h;refine Ret.fn Tryz.func60 fun e=>?_;have S1:=St.start w0;refine go ?_;refine cd (fun z1=>?_) fun z1=>?_
 · replace h:=bcT h z1;refine go ?_;cases h;exact fi S1
 replace h:=bcF h z1;refine go ?_;obtain ⟨o44,ho44,h45⟩:=obind h;refine CW.mono (CW.lx [0,1] [] [] 0 (fun s2=>[(5,vI s2)]) (RT Tryz.prog Tryz.f60.results (fun u=>.bool u) w0 []) S1 ho44 (hb:=?_)) ?_
 · intro s2 e w3 o S2 h;refine go ?_;refine cd (fun z4=>?_) fun z4=>?_
   · replace h:=bcT h z4;refine go ?_;refine CW.draw (by kernel_rfl) ?_;have S3:=S2.drew;refine go ?_;replace ⟨y5,hy5,h⟩:=obind h;obtain ⟨b8,o9,cs10,hae,hb13,hp6,hq7,hd11,hk12⟩:=hr0_0.idx hy5;subst hae;obtain ⟨a14,c15,a17,c18,a20,c21,rfl,hr16,hr19,hr22⟩:=hd11;refine AW.u (i:=2) rfl (by kernel_rfl) rfl rfl (Pur.ix Tryz.underlying28 sz50 rfl rfl hp6 hq7) ?_;refine AW.take (i:=3) rfl (by kernel_rfl) rfl rfl (Ldr.oldN w0 ag50 rfl rfl (fun j u hu=>hk12 j u hu)) (S3.same _ hb13.1 hb13.2) ?_;refine go ?_;replace ⟨y23,hy23,h⟩:=obind h;obtain ⟨b26,o27,cs28,hae,hb31,hp24,hq25,hd29,hk30⟩:=hr1_0.idx hy23;subst hae;obtain ⟨a32,c33,a35,c36,a38,c39,rfl,hr34,hr37,hr40⟩:=hd29;refine AW.u (i:=6) rfl (by kernel_rfl) rfl rfl (Pur.ix Tryz.underlying28 sz50 rfl rfl hp24 hq25) ?_;refine AW.take (i:=7) rfl (by kernel_rfl) rfl rfl (Ldr.oldN w0 ag50 rfl rfl (fun j u hu=>hk30 j u hu)) (S3.same _ hb31.1 hb31.2) ?_;replace ⟨y41,hy41,h⟩:=obind h;have q:=W_s_l8Same (w0:=w3.drew) hy41 rfl (S3.rB hr16) rfl (S3.rB hr19) rfl (S3.rB hr22) rfl (S3.rB hr34) rfl (S3.rB hr37) rfl (S3.rB hr40);refine jO 8 ?_;refine LW.call pl119 rfl rfl ?_;refine Ret.mono q ?_;rintro _ w42 ⟨rfl,hs⟩;have S4:=S3.add hs;refine jN (jW (jW jZ)) ?_;refine go ?_;refine cd (fun z43=>?_) fun z43=>?_
     · replace h:=bcT h z43;refine go ?_;cases oi h;exact ⟨trivial,rfl,_,rfl,⟨_,Res.one (resOne.t rfl),rfl,S4.pick [] rfl rfl⟩⟩
     replace h:=bcF h z43;refine go ?_;cases oi h;exact ⟨rfl,⟨⟨rfl,rfl,rfl,trivial⟩,S4.pick [] rfl rfl⟩⟩
   replace h:=bcF h z4;refine go ?_;cases oi h;exact ⟨trivial,rfl,⟨trivial,S2.pick [] rfl rfl⟩⟩
 intro x e w46 hM;rcases o44 with o44 | r47
 · obtain ⟨rfl,hM⟩:=hM;obtain ⟨hE,S5⟩:=hM;obtain ⟨e,rfl⟩:=hE.out;rw [show e=upds e [] from rfl];have h:=h45;refine go ?_;cases h;exact fi S5
 obtain ⟨rfl,u,rfl,hM⟩:=hM;cases h45;exact And.intro trivial hM
theorem W_s_l3Label {w0:World} {F:List Nat} {N:Nat} {x0:DCur} {r:DLabel×DCur} (h:F_s_l3Label N x0=some r) {g0:Nat} {a0_0:Ad} {c0_0:Nat} (hr0_0:rdS (Bor w0 F) w0 a0_0 c0_0 x0.b) (hS:St w0 F w0 [bx g0 120 [vS a0_0 x0.b.length c0_0,vI x0.i,vI x0.h]]) :
    Ret Tryz.prog 147 #[.pointer (some ⟨g0,0,none⟩)] w0 (fun v w=>∃ ar0_0 cr0_0,v=.agg #[vS ar0_0 r.1.levels.length cr0_0]∧St w0 F w [sl ar0_0 cr0_0 r.1.levels,bx g0 120 [vS a0_0 x0.b.length c0_0,vI r.2.i,vI r.2.h]]):=by
 unfold F_s_l3Label at h;refine Ret.fn Tryz.func147 fun e=>?_;refine go ?_;refine LW.al hS fun g1 w2 S1=>?_;refine go ?_;refine LW.u (Pur.build (vs:=[]) (cs:=#[vS none 0 0]) rfl (by kernel_rfl)) rfl ?_;refine LW.al S1 fun g3 w4 S2=>?_;refine LW.st S2 0 fun w5 S3=>?_;refine go ?_;have S4:=S3.nil (α:=Int);obtain ⟨o21,ho21,h22⟩:=obind h;refine CW.ie ho21 0 (fun s6 e wb=>∃ (s6a0:Ad) (s6c0:Nat),En e [(0,.pointer (some ⟨g0,0,none⟩)),(2,.pointer (some ⟨g1,0,none⟩)),(3,.pointer (some ⟨g3,0,none⟩)),(4,vI s6.1)]∧St w0 F wb [bx g3 26 [vS s6a0 s6.2.2.2.length s6c0],bx g1 26 [vS none 0 0],bx g0 120 [vS a0_0 x0.b.length c0_0,vI s6.2.1,vI s6.2.2.1],sl s6a0 s6c0 s6.2.2.2]) ?_ ⟨none,0,⟨rfl,rfl,rfl,rfl,trivial⟩,S4.pick [1,2,3,0] rfl rfl⟩ ?_
 · intro s6 e w7 o hM h;obtain ⟨s6a0,s6c0,hE,S5⟩:=hM;obtain ⟨e,rfl⟩:=hE.out;refine go ?_;refine cd (fun z8=>?_) fun z8=>?_
   · replace h:=bcT h z8;refine go ?_;refine CW.draw (by kernel_rfl) ?_;have S6:=S5.drew;refine go ?_;replace ⟨y9,hy9,h⟩:=obind h;obtain ⟨F10,hL11⟩:=S6.lendI [2] [0,1,3];have q:=W_s_l1Below (w0:=w7.drew) hy9 (hL11.rB hr0_0) hL11.st;refine jO 3 ?_;refine LW.call pl47 rfl rfl ?_;refine Ret.mono q ?_;rintro _ w12 ⟨rfl,hs⟩;have S7:=hL11.back _ _ hs;refine jN (.c (S7.ce 1) jZ) ?_;refine jO 4 ?_;refine LW.bsl (α:=Int) (vs:=[(0,vI y9.1)]) (cs:=#[vI y9.1]) (l:=([y9.1]:List Int)) rfl (by kernel_rfl) rfl rfl rfl (fun w=>⟨[vI y9.1],[],[],[],rfl,rfl,⟨rfl,rfl⟩,rfl⟩) S7 rfl ?_;intro a13 c14 w15 S8 hf;refine jN (.c (S8.ce 2) jZ) ?_;replace ⟨y16,hy16,h⟩:=obind h;refine jO 5 ?_;refine LW.appN (l:=s6.2.2.2) (m:=([y9.1]:List Int)) sT24 rfl rfl (S8.rI 0 rfl) hy16 S8 (i:=4) rfl rfl ?_;intro a17 c18 w19 S9 hf;refine jN (jW jZ) ?_;refine go ?_;refine jO 7 ?_;refine LW.st S9 2 fun w20 S10=>?_;refine jN (jW jZ) ?_;refine go ?_;cases oi h;exact ⟨rfl,⟨a17,c18,⟨rfl,rfl,rfl,rfl,trivial⟩,S10.pick [2,3,1,4] rfl rfl⟩⟩
   replace h:=bcF h z8;refine go ?_;cases oi h;exact ⟨trivial,rfl,⟨s6a0,s6c0,⟨rfl,rfl,rfl,rfl,trivial⟩,S5.pick [0,1,2,3] rfl rfl⟩⟩
 rintro e w23 ⟨s6a0,s6c0,hE,S11⟩;obtain ⟨e,rfl⟩:=hE.out;have h:=h22;refine go ?_;refine LW.st S11 1 fun w24 S12=>?_;refine go ?_;replace h:=oi h;subst h;exact And.intro trivial ⟨_,Res.one (resOne.b S12 1 rfl ag26 rfl rfl),s6a0,s6c0,rfl,S12.pick [3,2] rfl rfl⟩
theorem W_s_AmtOk {w0:World} {N:Nat} {x0:DAmt} {r:Bool} (h:F_s_AmtOk N x0=some r) :
    Ret Tryz.prog 38 #[.agg #[vI x0.pages,vI x0.rent,vI x0.cpu]] w0 (fun v w=>v=.bool r∧St w0 [] w []):=by
 unfold F_s_AmtOk at h;refine Ret.fn Tryz.func38 fun e=>?_;have S1:=St.start w0;refine go ?_;refine LW.bo S1 fun g1 w2 S2=>?_;refine go ?_;replace ⟨y3,hy3,h⟩:=obind h;refine LW.c0 (W_s_l5In hy3) S2 fun w4 S3=>?_;refine go ?_;rcases bcases y3 with z5 | z5
 · replace h:=bcT h z5;refine go ?_;replace ⟨y6,hy6,h⟩:=obind h;refine go ?_;refine LW.c0 (W_s_l5In hy6) S3 fun w7 S4=>?_;refine go ?_;rcases bcases y6 with z8 | z8
   · replace h:=bcT h z8;refine go ?_;replace ⟨y9,hy9,h⟩:=obind h;refine go ?_;refine LW.c0 (W_s_l5In hy9) S4 fun w10 S5=>?_;refine go ?_;cases h;exact fi S5
   replace h:=bcF h z8;refine go ?_;cases h;exact fi S4
 replace h:=bcF h z5;refine go ?_;cases h;exact fi S3
theorem W_s_ObjOk {w0:World} {N:Nat} {x0:DObj} {r:Bool} (h:F_s_ObjOk N x0=some r) {a0_10:Ad} {n0_10 c0_10:Nat} (hn0_10:n0_10=x0.links.length) (hr0_10:rdS (Bor w0 []) w0 a0_10 c0_10 x0.links) {a0_11:Ad} {n0_11 c0_11:Nat} (hn0_11:n0_11=x0.data.length) (hr0_11:rdS (Bor w0 []) w0 a0_11 c0_11 x0.data) {a0_12:Ad} {n0_12 c0_12:Nat} (hn0_12:n0_12=x0.queue.length) (hr0_12:rdS (Bor w0 []) w0 a0_12 c0_12 x0.queue) :
    Ret Tryz.prog 93 #[.agg #[vI x0.gen,vI x0.kind,vI x0.box,vI x0.res,vI x0.til,vI x0.pages,vI x0.wait,vI x0.got,vI x0.ran,.bool x0.mark,vS a0_10 n0_10 c0_10,vS a0_11 n0_11 c0_11,vS a0_12 n0_12 c0_12]] w0 (fun v w=>v=.bool r∧St w0 [] w []):=by
 subst hn0_10 hn0_11 hn0_12;unfold F_s_ObjOk at h;refine Ret.fn Tryz.func93 fun e=>?_;have S1:=St.start w0;refine go ?_;refine LW.bo S1 fun g1 w2 S2=>?_;refine go ?_;replace ⟨y3,hy3,h⟩:=obind h;refine LW.c0 (W_s_l1In hy3) S2 fun w4 S3=>?_;refine go ?_;refine cd (fun z5=>?_) fun z5=>?_
 · replace h:=bcT h z5;refine go ?_;cases h;exact fi S3
 replace h:=bcF h z5;refine go ?_;refine cd (fun z6=>?_) fun z6=>?_
 · replace h:=bcT h z6;refine gs ?_;obtain ⟨j7,hj7,h8⟩:=obind h;refine CW.jn [] [] [(2,.bool j7)] S3 (h1:=?_) (h2:=?_)
   · have h:=hj7;refine go ?_;rcases bcases (x0.box==0) with z9 | z9
     · replace h:=bcT h z9;refine go ?_;rcases bcases (x0.res==0) with z10 | z10
       · replace h:=bcT h z10;refine go ?_;refine LW.fl [1,26] fun e=>?_;rcases bcases (x0.til==0) with z11 | z11
         · replace h:=bcT h z11;refine go ?_;rcases bcases (x0.pages==0) with z12 | z12
           · replace h:=bcT h z12;refine go ?_;rcases bcases (x0.wait==0) with z13 | z13
             · replace h:=bcT h z13;refine go ?_;rcases bcases (x0.got==0) with z14 | z14
               · replace h:=bcT h z14;refine go ?_;rcases bcases (x0.ran==0) with z15 | z15
                 · replace h:=bcT h z15;refine go ?_;refine LW.fl [1,51] fun e=>?_;rcases bcases (!x0.mark) with z16 | z16
                   · replace h:=bcT h z16;refine go ?_;rcases bcases ((x0.links.length:Int)==0) with z17 | z17
                     · replace h:=bcT h z17;refine go ?_;rcases bcases ((x0.data.length:Int)==0) with z18 | z18
                       · replace h:=bcT h z18;refine go ?_;cases oi h;exact ⟨⟨rfl,trivial⟩,S3.pick [] rfl rfl⟩
                       replace h:=bcF h z18;refine go ?_;cases oi h;exact ⟨⟨rfl,trivial⟩,S3.pick [] rfl rfl⟩
                     replace h:=bcF h z17;refine go ?_;cases oi h;exact ⟨⟨rfl,trivial⟩,S3.pick [] rfl rfl⟩
                   replace h:=bcF h z16;refine go ?_;cases oi h;exact ⟨⟨rfl,trivial⟩,S3.pick [] rfl rfl⟩
                 replace h:=bcF h z15;refine go ?_;cases oi h;exact ⟨⟨rfl,trivial⟩,S3.pick [] rfl rfl⟩
               replace h:=bcF h z14;refine go ?_;cases oi h;exact ⟨⟨rfl,trivial⟩,S3.pick [] rfl rfl⟩
             replace h:=bcF h z13;refine go ?_;cases oi h;exact ⟨⟨rfl,trivial⟩,S3.pick [] rfl rfl⟩
           replace h:=bcF h z12;refine go ?_;cases oi h;exact ⟨⟨rfl,trivial⟩,S3.pick [] rfl rfl⟩
         replace h:=bcF h z11;refine go ?_;cases oi h;exact ⟨⟨rfl,trivial⟩,S3.pick [] rfl rfl⟩
       replace h:=bcF h z10;refine go ?_;cases oi h;exact ⟨⟨rfl,trivial⟩,S3.pick [] rfl rfl⟩
     replace h:=bcF h z9;refine go ?_;cases oi h;exact ⟨⟨rfl,trivial⟩,S3.pick [] rfl rfl⟩
   intro e w19 S4;have h:=h8;refine go ?_;cases h;exact fi S4
 replace h:=bcF h z6;refine gs ?_;obtain ⟨j20,hj20,h21⟩:=obind h;refine CW.jn [1] [0] [(108,.bool j20)] S3 (h1:=?_) (h2:=?_)
 · have h:=hj20;refine go ?_;replace ⟨y22,hy22,h⟩:=obind h;refine LW.c0 (W_s_l1In hy22) S3 fun w23 S5=>?_;refine go ?_;rcases bcases (!y22) with z24 | z24
   · replace h:=bcT h z24;refine go ?_;cases oi h;exact ⟨⟨rfl,rfl,trivial⟩,S5.pick [0] rfl rfl⟩
   replace h:=bcF h z24;refine go ?_;replace ⟨y25,hy25,h⟩:=obind h;refine go ?_;refine LW.c0 (W_s_l1In hy25) S5 fun w26 S6=>?_;refine go ?_;rcases bcases (!y25) with z27 | z27
   · replace h:=bcT h z27;refine go ?_;cases oi h;exact ⟨⟨rfl,rfl,trivial⟩,S6.pick [0] rfl rfl⟩
   replace h:=bcF h z27;refine go ?_;replace ⟨y28,hy28,h⟩:=obind h;refine go ?_;refine LW.c0 (W_s_l6Res hy28) S6 fun w29 S7=>?_;refine go ?_;refine LW.fl [1,85] fun e=>?_;rcases bcases (!y28) with z30 | z30
   · replace h:=bcT h z30;refine go ?_;cases oi h;exact ⟨⟨rfl,rfl,trivial⟩,S7.pick [0] rfl rfl⟩
   replace h:=bcF h z30;refine go ?_;replace ⟨y31,hy31,h⟩:=obind h;refine go ?_;refine LW.c0 (W_s_l1In hy31) S7 fun w32 S8=>?_;refine go ?_;rcases bcases (!y31) with z33 | z33
   · replace h:=bcT h z33;refine go ?_;cases oi h;exact ⟨⟨rfl,rfl,trivial⟩,S8.pick [0] rfl rfl⟩
   replace h:=bcF h z33;refine go ?_;replace ⟨y34,hy34,h⟩:=obind h;refine go ?_;refine LW.c0 (W_s_l1In hy34) S8 fun w35 S9=>?_;refine go ?_;rcases bcases (!y34) with z36 | z36
   · replace h:=bcT h z36;refine go ?_;cases oi h;exact ⟨⟨rfl,rfl,trivial⟩,S9.pick [0] rfl rfl⟩
   replace h:=bcF h z36;refine go ?_;rcases bcases ((x0.links.length:Int) != 2) with z37 | z37
   · replace h:=bcT h z37;refine go ?_;cases oi h;exact ⟨⟨rfl,rfl,trivial⟩,S9.pick [0] rfl rfl⟩
   replace h:=bcF h z37;refine go ?_;replace ⟨y38,hy38,h⟩:=obind h;refine go ?_;refine LW.c0 (W_s_l1In hy38) S9 fun w39 S10=>?_;refine go ?_;cases oi h;exact ⟨⟨rfl,rfl,trivial⟩,S10.pick [0] rfl rfl⟩
 intro e w40 S11;have h:=h21;refine go ?_;refine cd (fun z41=>?_) fun z41=>?_
 · replace h:=bcT h z41;refine go ?_;cases h;exact fi S11
 replace h:=bcF h z41;refine go ?_;obtain ⟨o57,ho57,h58⟩:=obind h;refine CW.mono (CW.lx [1] [0] [1] 0 (fun s42=>[(3,vI s42)]) (RT Tryz.prog Tryz.f93.results (fun u=>.bool u) w0 []) S11 ho57 (hb:=?_)) ?_
 · intro s42 e w43 o S12 h;refine go ?_;refine cd (fun z44=>?_) fun z44=>?_
   · replace h:=bcT h z44;refine go ?_;replace ⟨y45,hy45,h⟩:=obind h;obtain ⟨b48,o49,cs50,hae,hb53,hp46,hq47,hd51,hk52⟩:=hr0_10.idx hy45;subst hae;obtain rfl:=hd51;refine LW.u (Pur.ix Tryz.underlying24 sz3 rfl rfl hp46 hq47) rfl ?_;refine LW.l (Ldr.old w0 ag3 rfl (hk52 0 _ rfl)) (S12.same _ hb53.1 hb53.2) rfl ?_;replace ⟨y54,hy54,h⟩:=obind h;refine LW.c0 (W_s_l1In hy54) S12 fun w55 S13=>?_;refine go ?_;refine CW.fl [1,3,119] fun e=>?_;refine cd (fun z56=>?_) fun z56=>?_
     · replace h:=bcT h z56;refine go ?_;cases oi h;exact ⟨trivial,rfl,_,rfl,⟨_,Res.one (resOne.t rfl),rfl,S13.pick [] rfl rfl⟩⟩
     replace h:=bcF h z56;refine go ?_;cases oi h;exact ⟨rfl,⟨⟨rfl,rfl,trivial⟩,S13.pick [0] rfl rfl⟩⟩
   replace h:=bcF h z44;refine go ?_;cases oi h;exact ⟨trivial,rfl,⟨⟨rfl,trivial⟩,S12.pick [0] rfl rfl⟩⟩
 intro x e w59 hM;rcases o57 with o57 | r150
 · obtain ⟨rfl,hM⟩:=hM;obtain ⟨hE,S14⟩:=hM;obtain ⟨e,rfl⟩:=hE.out;have h:=h58;refine gs ?_;obtain ⟨j60,hj60,h61⟩:=obind h;refine CW.jn [1] [0] [(165,.bool j60)] S14 (h1:=?_) (h2:=?_)
   · have h:=hj60;refine go ?_;rcases bcases (x0.kind != 4) with z62 | z62
     · replace h:=bcT h z62;refine go ?_;rcases bcases (x0.wait != 0) with z63 | z63
       · replace h:=bcT h z63;refine go ?_;cases oi h;exact ⟨⟨rfl,rfl,trivial⟩,S14.pick [0] rfl rfl⟩
       replace h:=bcF h z63;refine go ?_;refine LW.fl [1,123,132] fun e=>?_;rcases bcases (x0.got != 0) with z64 | z64
       · replace h:=bcT h z64;refine go ?_;cases oi h;exact ⟨⟨rfl,rfl,trivial⟩,S14.pick [0] rfl rfl⟩
       replace h:=bcF h z64;refine go ?_;rcases bcases (x0.ran != 0) with z65 | z65
       · replace h:=bcT h z65;refine go ?_;cases oi h;exact ⟨⟨rfl,rfl,trivial⟩,S14.pick [0] rfl rfl⟩
       replace h:=bcF h z65;refine go ?_;rcases bcases (x0.kind==4) with z66 | z66
       · replace h:=bcT h z66;refine go ?_;rcases bcases (decide (x0.wait<0)) with z67 | z67
         · replace h:=bcT h z67;refine go ?_;cases oi h;exact ⟨⟨rfl,rfl,trivial⟩,S14.pick [0] rfl rfl⟩
         replace h:=bcF h z67;refine go ?_;rcases bcases (decide (x0.wait > 0)) with z68 | z68
         · replace h:=bcT h z68;refine go ?_;refine LW.fl [1,138,142,146,150,153] fun e=>?_;replace ⟨y69,hy69,h⟩:=obind h;refine go ?_;refine LW.c0 (W_s_l8Handle hy69) S14 fun w70 S15=>?_;refine go ?_;rcases bcases (!y69) with z71 | z71
           · replace h:=bcT h z71;refine go ?_;cases oi h;exact ⟨⟨rfl,rfl,trivial⟩,S15.pick [0] rfl rfl⟩
           replace h:=bcF h z71;refine go ?_;replace ⟨y72,hy72,h⟩:=obind h;refine go ?_;refine LW.c0 (W_s_l1In hy72) S15 fun w73 S16=>?_;refine go ?_;cases oi h;exact ⟨⟨rfl,rfl,trivial⟩,S16.pick [0] rfl rfl⟩
         replace h:=bcF h z68;refine go ?_;refine LW.fl [1,138,142,158,160] fun e=>?_;replace ⟨y74,hy74,h⟩:=obind h;refine go ?_;refine LW.c0 (W_s_l1In hy74) S14 fun w75 S17=>?_;refine go ?_;cases oi h;exact ⟨⟨rfl,rfl,trivial⟩,S17.pick [0] rfl rfl⟩
       replace h:=bcF h z66;refine go ?_;cases oi h;exact ⟨⟨rfl,rfl,trivial⟩,S14.pick [0] rfl rfl⟩
     replace h:=bcF h z62;refine go ?_;refine LW.fl [1,138,142] fun e=>?_;rcases bcases (x0.kind==4) with z76 | z76
     · replace h:=bcT h z76;refine go ?_;rcases bcases (decide (x0.wait<0)) with z77 | z77
       · replace h:=bcT h z77;refine go ?_;cases oi h;exact ⟨⟨rfl,rfl,trivial⟩,S14.pick [0] rfl rfl⟩
       replace h:=bcF h z77;refine go ?_;rcases bcases (decide (x0.wait > 0)) with z78 | z78
       · replace h:=bcT h z78;refine go ?_;replace ⟨y79,hy79,h⟩:=obind h;refine go ?_;refine LW.c0 (W_s_l8Handle hy79) S14 fun w80 S18=>?_;refine go ?_;rcases bcases (!y79) with z81 | z81
         · replace h:=bcT h z81;refine go ?_;cases oi h;exact ⟨⟨rfl,rfl,trivial⟩,S18.pick [0] rfl rfl⟩
         replace h:=bcF h z81;refine go ?_;replace ⟨y82,hy82,h⟩:=obind h;refine go ?_;refine LW.c0 (W_s_l1In hy82) S18 fun w83 S19=>?_;refine go ?_;cases oi h;exact ⟨⟨rfl,rfl,trivial⟩,S19.pick [0] rfl rfl⟩
       replace h:=bcF h z78;refine go ?_;replace ⟨y84,hy84,h⟩:=obind h;refine go ?_;refine LW.c0 (W_s_l1In hy84) S14 fun w85 S20=>?_;refine go ?_;cases oi h;exact ⟨⟨rfl,rfl,trivial⟩,S20.pick [0] rfl rfl⟩
     replace h:=bcF h z76;refine go ?_;cases oi h;exact ⟨⟨rfl,rfl,trivial⟩,S14.pick [0] rfl rfl⟩
   intro e w86 S21;have h:=h61;refine go ?_;refine cd (fun z87=>?_) fun z87=>?_
   · replace h:=bcT h z87;refine go ?_;cases h;exact fi S21
   replace h:=bcF h z87;refine gs ?_;obtain ⟨j88,hj88,h89⟩:=obind h;refine CW.jn [1] [0] [(195,.bool j88)] S21 (h1:=?_) (h2:=?_)
   · have h:=hj88;refine go ?_;rcases bcases ((x0.data.length:Int) != 0) with z90 | z90
     · replace h:=bcT h z90;refine go ?_;rcases bcases (x0.kind != 2) with z91 | z91
       · replace h:=bcT h z91;refine go ?_;cases oi h;exact ⟨⟨rfl,rfl,trivial⟩,S21.pick [0] rfl rfl⟩
       replace h:=bcF h z91;refine go ?_;refine LW.fl [1,183] fun e=>?_;rcases bcases ((x0.data.length:Int) != x0.pages) with z92 | z92
       · replace h:=bcT h z92;refine go ?_;cases oi h;exact ⟨⟨rfl,rfl,trivial⟩,S21.pick [0] rfl rfl⟩
       replace h:=bcF h z92;refine go ?_;rcases bcases (x0.kind==2) with z93 | z93
       · replace h:=bcT h z93;refine go ?_;cases oi h;exact ⟨⟨rfl,rfl,trivial⟩,S21.pick [0] rfl rfl⟩
       replace h:=bcF h z93;refine go ?_;cases oi h;exact ⟨⟨rfl,rfl,trivial⟩,S21.pick [0] rfl rfl⟩
     replace h:=bcF h z90;refine go ?_;refine LW.fl [1,183,187] fun e=>?_;rcases bcases (x0.kind==2) with z94 | z94
     · replace h:=bcT h z94;refine go ?_;cases oi h;exact ⟨⟨rfl,rfl,trivial⟩,S21.pick [0] rfl rfl⟩
     replace h:=bcF h z94;refine go ?_;cases oi h;exact ⟨⟨rfl,rfl,trivial⟩,S21.pick [0] rfl rfl⟩
   intro e w95 S22;have h:=h89;refine go ?_;refine cd (fun z96=>?_) fun z96=>?_
   · replace h:=bcT h z96;refine go ?_;cases h;exact fi S22
   replace h:=bcF h z96;refine go ?_;obtain ⟨o112,ho112,h113⟩:=obind h;refine CW.mono (CW.lx [1] [0] [1] 2 (fun s97=>[(4,vI s97)]) (RT Tryz.prog Tryz.f93.results (fun u=>.bool u) w0 []) S22 ho112 (hb:=?_)) ?_
   · intro s97 e w98 o S23 h;refine go ?_;refine CW.fl [1,4,200] fun e=>?_;refine cd (fun z99=>?_) fun z99=>?_
     · replace h:=bcT h z99;refine go ?_;replace ⟨y100,hy100,h⟩:=obind h;obtain ⟨b103,o104,cs105,hae,hb108,hp101,hq102,hd106,hk107⟩:=hr0_11.idx hy100;subst hae;obtain rfl:=hd106;refine LW.u (Pur.ix Tryz.underlying24 sz3 rfl rfl hp101 hq102) rfl ?_;refine LW.l (Ldr.old w0 ag3 rfl (hk107 0 _ rfl)) (S23.same _ hb108.1 hb108.2) rfl ?_;replace ⟨y109,hy109,h⟩:=obind h;refine LW.c0 (W_s_l1In hy109) S23 fun w110 S24=>?_;refine go ?_;refine cd (fun z111=>?_) fun z111=>?_
       · replace h:=bcT h z111;refine go ?_;cases oi h;exact ⟨trivial,rfl,_,rfl,⟨_,Res.one (resOne.t rfl),rfl,S24.pick [] rfl rfl⟩⟩
       replace h:=bcF h z111;refine go ?_;cases oi h;exact ⟨rfl,⟨⟨rfl,rfl,trivial⟩,S24.pick [0] rfl rfl⟩⟩
     replace h:=bcF h z99;refine go ?_;cases oi h;exact ⟨trivial,rfl,⟨⟨rfl,trivial⟩,S23.pick [0] rfl rfl⟩⟩
   intro x e w114 hM;rcases o112 with o112 | r149
   · obtain ⟨rfl,hM⟩:=hM;obtain ⟨hE,S25⟩:=hM;obtain ⟨e,rfl⟩:=hE.out;have h:=h113;refine gs ?_;obtain ⟨j115,hj115,h116⟩:=obind h;refine CW.jn [1] [0] [(224,.bool j115)] S25 (h1:=?_) (h2:=?_)
     · have h:=hj115;refine go ?_;rcases bcases (decide ((x0.queue.length:Int) > 2)) with z117 | z117
       · replace h:=bcT h z117;refine go ?_;cases oi h;exact ⟨⟨rfl,rfl,trivial⟩,S25.pick [0] rfl rfl⟩
       replace h:=bcF h z117;refine go ?_;rcases bcases (decide ((x0.queue.length:Int) > 0)) with z118 | z118
       · replace h:=bcT h z118;refine go ?_;cases oi h;exact ⟨⟨rfl,rfl,trivial⟩,S25.pick [0] rfl rfl⟩
       replace h:=bcF h z118;refine go ?_;cases oi h;exact ⟨⟨rfl,rfl,trivial⟩,S25.pick [0] rfl rfl⟩
     intro e w119 S26;have h:=h116;refine go ?_;refine cd (fun z120=>?_) fun z120=>?_
     · replace h:=bcT h z120;refine go ?_;cases h;exact fi S26
     replace h:=bcF h z120;refine go ?_;obtain ⟨o145,ho145,h146⟩:=obind h;refine CW.mono (CW.lx [1] [0] [] 4 (fun s121=>[(5,vI s121)]) (RT Tryz.prog Tryz.f93.results (fun u=>.bool u) w0 []) S26 ho145 (hb:=?_)) ?_
     · intro s121 e w122 o S27 h;refine go ?_;refine CW.fl [1,5,229] fun e=>?_;refine cd (fun z123=>?_) fun z123=>?_
       · replace h:=bcT h z123;refine gs ?_;refine CW.block ?_;refine gs ?_;obtain ⟨j124,hj124,h125⟩:=obind h;refine CW.jn [1,5] [0] [(258,.bool j124)] S27 (h1:=?_) (h2:=?_)
         · have h:=hj124;refine go ?_;replace ⟨y126,hy126,h⟩:=obind h;obtain ⟨b129,o130,cs131,hae,hb134,hp127,hq128,hd132,hk133⟩:=hr0_12.idx hy126;subst hae;obtain rfl:=hd132;refine LW.u (Pur.ix Tryz.underlying48 sz152 rfl rfl hp127 hq128) rfl ?_;refine go ?_;refine LW.l (Ldr.old w0 ag3 rfl (hk133 0 _ rfl)) (S27.same _ hb134.1 hb134.2) rfl ?_;refine go ?_;rcases bcases (y126.src != (-1)) with z135 | z135
           · replace h:=bcT h z135;refine go ?_;refine LW.u (Pur.ix Tryz.underlying48 sz152 rfl rfl hp127 hq128) rfl ?_;refine go ?_;refine LW.l (Ldr.old w0 ag3 rfl (hk133 0 _ rfl)) (S27.same _ hb134.1 hb134.2) rfl ?_;replace ⟨y136,hy136,h⟩:=obind h;refine go ?_;refine LW.c0 (W_s_l8Handle hy136) S27 fun w137 S28=>?_;refine go ?_;rcases bcases (!y136) with z138 | z138
             · replace h:=bcT h z138;refine go ?_;cases oi h;exact ⟨⟨rfl,rfl,rfl,trivial⟩,S28.pick [0] rfl rfl⟩
             replace h:=bcF h z138;refine go ?_;refine LW.u (Pur.ix Tryz.underlying48 sz152 rfl rfl hp127 hq128) rfl ?_;refine go ?_;refine LW.fl [1,5,249,254] fun e=>?_;refine go ?_;refine LW.l (Ldr.old w0 ag3 rfl (hk133 1 _ rfl)) (S28.same _ hb134.1 hb134.2) rfl ?_;replace ⟨y139,hy139,h⟩:=obind h;refine go ?_;refine LW.c0 (W_s_l1In hy139) S28 fun w140 S29=>?_;refine go ?_;cases oi h;exact ⟨⟨rfl,rfl,rfl,trivial⟩,S29.pick [0] rfl rfl⟩
           replace h:=bcF h z135;refine go ?_;refine LW.u (Pur.ix Tryz.underlying48 sz152 rfl rfl hp127 hq128) rfl ?_;refine go ?_;refine LW.fl [1,5,249,254] fun e=>?_;refine go ?_;refine LW.l (Ldr.old w0 ag3 rfl (hk133 1 _ rfl)) (S27.same _ hb134.1 hb134.2) rfl ?_;replace ⟨y141,hy141,h⟩:=obind h;refine go ?_;refine LW.c0 (W_s_l1In hy141) S27 fun w142 S30=>?_;refine go ?_;cases oi h;exact ⟨⟨rfl,rfl,rfl,trivial⟩,S30.pick [0] rfl rfl⟩
         intro e w143 S31;have h:=h125;refine go ?_;refine cd (fun z144=>?_) fun z144=>?_
         · replace h:=bcT h z144;refine go ?_;cases oi h;exact ⟨trivial,rfl,_,rfl,⟨_,Res.one (resOne.t rfl),rfl,S31.pick [] rfl rfl⟩⟩
         replace h:=bcF h z144;refine go ?_;cases oi h;exact ⟨rfl,⟨⟨rfl,rfl,trivial⟩,S31.pick [0] rfl rfl⟩⟩
       replace h:=bcF h z123;refine go ?_;cases oi h;exact ⟨trivial,rfl,⟨trivial,S27.pick [0] rfl rfl⟩⟩
     intro x e w147 hM;rcases o145 with o145 | r148
     · obtain ⟨rfl,hM⟩:=hM;obtain ⟨hE,S32⟩:=hM;obtain ⟨e,rfl⟩:=hE.out;rw [show e=upds e [] from rfl];have h:=h146;refine go ?_;cases h;exact fi S32
     obtain ⟨rfl,u,rfl,hM⟩:=hM;cases h146;exact And.intro trivial hM
   obtain ⟨rfl,u,rfl,hM⟩:=hM;cases h113;exact And.intro trivial hM
 obtain ⟨rfl,u,rfl,hM⟩:=hM;cases h58;exact And.intro trivial hM
end Go.Kx
