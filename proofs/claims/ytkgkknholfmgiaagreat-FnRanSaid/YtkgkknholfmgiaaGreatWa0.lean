/- Each call returns what the plain function says. Printed by drive.py. -/
import Derived.Test.YtkgkknholfmgiaaGreatFa
import Derived.Test.YtkgkknholfmgiaaGreatPu
namespace Go.Kx
open Go Go.RowKit Go.Proofs
set_option maxRecDepth 10000
set_option maxHeartbeats 8000000
set_option linter.unusedVariables false
set_option linter.unusedSimpArgs false
theorem W_l_big {w0:World} {N:Nat} {x0:List U8} {r:Bool} (h:F_l_big N x0=some r) {a0_0:Ad} {n0_0 c0_0:Nat} (hn0_0:n0_0=x0.length) (hr0_0:rdS (Bor w0 []) w0 a0_0 c0_0 x0) :
    Ret Tryz.prog 9 #[vS a0_0 n0_0 c0_0] w0 (fun v w=>v=.bool r∧St w0 [] w []):=by
 subst hn0_0;unfold F_l_big at h;refine Ret.fn Tryz.func9 fun e=>?_;have S1:=St.start w0;refine go ?_;cases h;exact fi S1
theorem W_s_l1New {w0:World} {N:Nat} {x0:List U8} {r:DCur} (h:F_s_l1New N x0=some r) {a0_0:Ad} {n0_0 c0_0:Nat} (hn0_0:n0_0=x0.length) (hr0_0:rdS (Bor w0 []) w0 a0_0 c0_0 x0) :
    Ret Tryz.prog 43 #[vS a0_0 n0_0 c0_0] w0 (fun v w=>∃ gr0,v=.pointer (some ⟨gr0,0,none⟩)∧St w0 [] w [bx gr0 120 [vS a0_0 x0.length c0_0,vI r.i,vI r.h]]):=by
 subst hn0_0;unfold F_s_l1New at h;refine Ret.fn Tryz.func43 fun e=>?_;have S1:=St.start w0;refine go ?_;obtain ⟨o17,ho17,h18⟩:=obind h;refine CW.mono (CW.lb [0] [] [0,3] 0 (fun s1=>[(3,vI s1.1),(4,vI s1.2)]) S1 ho17 (hb:=?_)) ?_
 · intro s1 e w2 o S2 h;refine gs ?_;obtain ⟨j3,hj3,h4⟩:=obind h;refine CW.jn [0,3,4] [] [(15,.bool j3)] S2 (h1:=?_) (h2:=?_)
   · have h:=hj3;refine go ?_;rcases bcases (decide (s1.2<(x0.length:Int))) with z5 | z5
     · replace h:=bcT h z5;refine go ?_;cases oi h;exact ⟨⟨rfl,rfl,rfl,rfl,trivial⟩,S2.pick [] rfl rfl⟩
     replace h:=bcF h z5;refine go ?_;cases oi h;exact ⟨⟨rfl,rfl,rfl,rfl,trivial⟩,S2.pick [] rfl rfl⟩
   intro e w6 S3;have h:=h4;refine go ?_;refine cd (fun z7=>?_) fun z7=>?_
   · replace h:=bcT h z7;refine go ?_;replace ⟨y8,hy8,h⟩:=obind h;obtain ⟨b11,o12,cs13,hae,hb16,hp9,hq10,hd14,hk15⟩:=hr0_0.idx hy8;subst hae;obtain rfl:=hd14;refine LW.u (Pur.ix Tryz.underlying22 sz5 rfl rfl hp9 hq10) rfl ?_;refine LW.l (Ldr.old w0 ag5 rfl (hk15 0 _ rfl)) (S3.same _ hb16.1 hb16.2) rfl ?_;refine LW.u (Pur.conv Tryz.underlying5 Tryz.underlying3 rfl) rfl ?_;refine go ?_;cases oi h;exact ⟨rfl,⟨⟨rfl,rfl,rfl,trivial⟩,S3.pick [] rfl rfl⟩⟩
   replace h:=bcF h z7;refine go ?_;cases oi h;exact ⟨trivial,rfl,⟨⟨rfl,rfl,trivial⟩,S3.pick [] rfl rfl⟩⟩
 intro x e w19 hM;obtain ⟨rfl,hM⟩:=hM;obtain ⟨hE,S4⟩:=hM;obtain ⟨e,rfl⟩:=hE.out;have h:=h18;refine go ?_;refine LW.u (Pur.build (vs:=[(0,vS a0_0 x0.length c0_0),(2,vI o17.1)]) (cs:=#[vS a0_0 x0.length c0_0,vI 0,vI o17.1]) rfl (by kernel_rfl)) rfl ?_;refine LW.bo S4 fun g20 w21 S5=>?_;refine go ?_;cases h;exact And.intro trivial ⟨_,Res.one (resOne.t rfl),g20,rfl,S5.pick [0] rfl rfl⟩
theorem W_s_l1Byte {w0:World} {F:List Nat} {N:Nat} {x0:DCur} {r:Int×DCur} (h:F_s_l1Byte N x0=some r) {g0:Nat} {a0_0:Ad} {c0_0:Nat} (hr0_0:rdS (Bor w0 F) w0 a0_0 c0_0 x0.b) (hS:St w0 F w0 [bx g0 120 [vS a0_0 x0.b.length c0_0,vI x0.i,vI x0.h]]) :
    Ret Tryz.prog 105 #[.pointer (some ⟨g0,0,none⟩)] w0 (fun v w=>v=vI r.1∧St w0 F w [bx g0 120 [vS a0_0 x0.b.length c0_0,vI r.2.i,vI r.2.h]]):=by
 unfold F_s_l1Byte at h;refine Ret.fn Tryz.func105 fun e=>?_;refine go ?_;refine LW.u (Pur.nc rfl) rfl ?_;refine go ?_;refine LW.u (Pur.nc rfl) rfl ?_;refine go ?_;refine LW.st hS 0 fun w1 S1=>?_;refine go ?_;refine CW.draw (by kernel_rfl) ?_;have S2:=S1.drew;refine go ?_;refine AW.u (i:=4) rfl (by kernel_rfl) rfl rfl (Pur.shr rfl rfl (by decide)) ?_;refine go ?_;refine AW.u (i:=9) rfl (by kernel_rfl) rfl rfl (Pur.shr rfl rfl (by decide)) ?_;refine go ?_;refine CW.draw (by kernel_rfl) ?_;have S3:=S2.drew;refine go ?_;refine cd (fun z2=>?_) fun z2=>?_
 · replace h:=bcT h z2;refine go ?_;refine CW.draw (by kernel_rfl) ?_;have S4:=S3.drew;refine go ?_;replace ⟨y3,hy3,h⟩:=obind h;obtain ⟨b6,o7,cs8,hae,hb11,hp4,hq5,hd9,hk10⟩:=hr0_0.idx hy3;subst hae;obtain rfl:=hd9;refine AW.u (i:=9) rfl (by kernel_rfl) rfl rfl (Pur.ix Tryz.underlying22 sz5 rfl rfl hp4 hq5) ?_;refine AW.take (i:=10) rfl (by kernel_rfl) rfl rfl (Ldr.old w0 ag5 rfl (hk10 0 _ rfl)) (S4.same _ hb11.1 hb11.2) ?_;refine AW.u (i:=11) rfl (by kernel_rfl) rfl rfl (Pur.conv Tryz.underlying5 Tryz.underlying3 rfl) ?_;refine go ?_;refine LW.u (Pur.nc rfl) rfl ?_;refine go ?_;refine LW.u (Pur.nc rfl) rfl ?_;refine go ?_;refine LW.st S4 0 fun w12 S5=>?_;refine go ?_;replace h:=oi h;subst h;exact And.intro trivial ⟨_,Res.one (resOne.t rfl),rfl,S5.pick [0] rfl rfl⟩
 replace h:=bcF h z2;refine go ?_;replace h:=oi h;subst h;exact And.intro trivial ⟨_,Res.one (resOne.t rfl),rfl,S3.pick [0] rfl rfl⟩
theorem W_s_l1In {w0:World} {N:Nat} {x0:Int} {x1:Int} {x2:Int} {r:Bool} (h:F_s_l1In N x0 x1 x2=some r) :
    Ret Tryz.prog 56 #[vI x0,vI x1,vI x2] w0 (fun v w=>v=.bool r∧St w0 [] w []):=by
 unfold F_s_l1In at h;refine Ret.fn Tryz.func56 fun e=>?_;have S1:=St.start w0;refine go ?_;rcases bcases (decide (x0 ≥ x1)) with z1 | z1
 · replace h:=bcT h z1;refine go ?_;cases h;exact fi S1
 replace h:=bcF h z1;refine go ?_;cases h;exact fi S1
theorem W_s_ArenaNew {w0:World} {N:Nat} {r:(List DObj)} (h:F_s_ArenaNew N=some r) :
    Ret Tryz.prog 144 #[] w0 (fun v w=>∃ ar0 cr0,v=vS ar0 r.length cr0∧St w0 [] w [sl ar0 cr0 r]):=by
 unfold F_s_ArenaNew at h;refine Ret.fn Tryz.func144 fun e=>?_;have S1:=St.start w0;refine go ?_;replace ⟨y1,hy1,h⟩:=obind h;refine LW.mk sT28 rfl rfl hy1 S1 rfl ?_;intro a2 c3 w4 S2 hf;refine go ?_;refine LW.bsl (α:=Int) (vs:=[(0,vI (-1)),(1,vI (-1))]) (cs:=#[vI (-1),vI (-1)]) (l:=([-1, -1]:List Int)) rfl (by kernel_rfl) rfl rfl rfl (fun w=>⟨[vI (-1)],[vI (-1)],[],[],rfl,rfl,⟨rfl,rfl⟩,⟨[vI (-1)],[],[],[],rfl,rfl,⟨rfl,rfl⟩,rfl⟩⟩) S2 rfl ?_;intro a5 c6 w7 S3 hf;refine LW.u (Pur.build (vs:=[(1,vI 1),(2,vI (-1)),(4,vI 1000000),(10,vS a5 (([-1, -1]:List Int).length) c6)]) (cs:=#[vI 0,vI 1,vI (-1),vI 0,vI 1000000,vI 0,vI 0,vI 0,vI 0,.bool false,vS a5 (([-1, -1]:List Int).length) c6,vS none 0 0,vS none 0 0]) rfl (by kernel_rfl)) rfl ?_;replace ⟨y8,hy8,h⟩:=obind h;obtain ⟨b11,o12,hae,hp9,hq10⟩:=S3.ownIdx (α:=DObj) (i:=1) rfl hy8;subst hae;refine LW.u (Pur.ix Tryz.underlying28 sz50 rfl rfl hp9 hq10) rfl ?_;have S4:=S3.nil (α:=Int);have S5:=S4.nil (α:=DMsg);have S6:=S5.pick (M:=[sl a5 c6 ([-1, -1]:List Int),sl none 0 [],sl none 0 []]++[sl (some ⟨b11,o12,none⟩) c3 y1]) [2,1,0,3] rfl rfl;replace ⟨y13,hy13,h⟩:=obind h;refine LW.stE (M:=[sl a5 c6 ([-1, -1]:List Int),sl none 0 [],sl none 0 []]) (L:=[sl (some ⟨b11,o12,none⟩) c3 y1]) (z:=y8) (z':=(DObj.mk 0 1 (-1) 0 1000000 0 0 0 0 false ([-1, -1]:List Int) [] [])) (o:=0) S6 (i:=0) rfl hy8 ag50 rfl (by show _=o12+(0:Int).toNat * 13+0;omega) rfl rfl rfl rfl (whole (fun w G hG=>⟨a5,c6,none,0,none,0,rfl,hG⟩)) ?_;intro w14 S7 hf;rw [oi hy13] at S7;refine go ?_;replace h:=oi h;subst h;exact And.intro trivial ⟨_,Res.one (resOne.t rfl),(some ⟨b11,o12,none⟩),c3,(show (vS (some ⟨b11,o12,none⟩) y1.length c3:Value)=vS (some ⟨b11,o12,none⟩) y13.length c3 by rw [show y1.length=y13.length from (len_set (oi hy13))]),S7.pick [0] rfl rfl⟩
theorem W_s_l8Obj {w0:World} {N:Nat} {x0:DObj} {r:DObj} (h:F_s_l8Obj N x0=some r) {a0_10:Ad} {n0_10 c0_10:Nat} (hn0_10:n0_10=x0.links.length) (hr0_10:rdS (Bor w0 []) w0 a0_10 c0_10 x0.links) {a0_11:Ad} {n0_11 c0_11:Nat} (hn0_11:n0_11=x0.data.length) (hr0_11:rdS (Bor w0 []) w0 a0_11 c0_11 x0.data) {a0_12:Ad} {n0_12 c0_12:Nat} (hn0_12:n0_12=x0.queue.length) (hr0_12:rdS (Bor w0 []) w0 a0_12 c0_12 x0.queue) :
    Ret Tryz.prog 177 #[.agg #[vI x0.gen,vI x0.kind,vI x0.box,vI x0.res,vI x0.til,vI x0.pages,vI x0.wait,vI x0.got,vI x0.ran,.bool x0.mark,vS a0_10 n0_10 c0_10,vS a0_11 n0_11 c0_11,vS a0_12 n0_12 c0_12]] w0 (fun v w=>∃ ar0_10 cr0_10, ∃ ar0_11 cr0_11, ∃ ar0_12 cr0_12,v=.agg #[vI r.gen,vI r.kind,vI r.box,vI r.res,vI r.til,vI r.pages,vI r.wait,vI r.got,vI r.ran,.bool r.mark,vS ar0_10 r.links.length cr0_10,vS ar0_11 r.data.length cr0_11,vS ar0_12 r.queue.length cr0_12]∧St w0 [] w [sl ar0_10 cr0_10 r.links,sl ar0_11 cr0_11 r.data,sl ar0_12 cr0_12 r.queue]):=by
 subst hn0_10 hn0_11 hn0_12;unfold F_s_l8Obj at h;refine Ret.fn Tryz.func177 fun e=>?_;have S1:=St.start w0;refine go ?_;refine LW.bo S1 fun g1 w2 S2=>?_;refine LW.al S2 fun g3 w4 S3=>?_;refine go ?_;refine LW.bsl (α:=Int) (vs:=[]) (cs:=#[]) (l:=([]:List Int)) rfl (by kernel_rfl) rfl rfl rfl (fun w=>rfl) S3 rfl ?_;intro a5 c6 w7 S4 hf;refine go ?_;replace ⟨y8,hy8,h⟩:=obind h;refine LW.appN (l:=([]:List Int)) (m:=x0.links) sT24 rfl rfl (S4.rB hr0_10) hy8 S4 (i:=0) rfl rfl ?_;intro a9 c10 w11 S5 hf;refine go ?_;refine LW.st S5 2 fun w12 S6=>?_;refine go ?_;refine LW.bsl (α:=Int) (vs:=[]) (cs:=#[]) (l:=([]:List Int)) rfl (by kernel_rfl) rfl rfl rfl (fun w=>rfl) S6 rfl ?_;intro a13 c14 w15 S7 hf;refine go ?_;replace ⟨y16,hy16,h⟩:=obind h;refine LW.appN (l:=([]:List Int)) (m:=x0.data) sT24 rfl rfl (S7.rB hr0_11) hy16 S7 (i:=0) rfl rfl ?_;intro a17 c18 w19 S8 hf;refine go ?_;refine LW.st S8 3 fun w20 S9=>?_;refine go ?_;refine LW.bsl (α:=DMsg) (vs:=[]) (cs:=#[]) (l:=([]:List DMsg)) rfl (by kernel_rfl) rfl rfl rfl (fun w=>rfl) S9 rfl ?_;intro a21 c22 w23 S10 hf;refine go ?_;replace ⟨y24,hy24,h⟩:=obind h;refine LW.appN (l:=([]:List DMsg)) (m:=x0.queue) sT48 rfl rfl (S10.rB hr0_12) hy24 S10 (i:=0) rfl rfl ?_;intro a25 c26 w27 S11 hf;refine go ?_;refine LW.st S11 4 fun w28 S12=>?_;refine go ?_;refine LW.st S12 3 fun w29 S13=>?_;refine go ?_;cases h;exact And.intro trivial ⟨_,Res.one (resOne.b S13 3 rfl ag50 rfl rfl),a9,c10,a17,c18,a25,c26,rfl,S13.pick [2,1,0] rfl rfl⟩
theorem W_s_GcNew {w0:World} {N:Nat} {r:DGc} (h:F_s_GcNew N=some r) :
    Ret Tryz.prog 146 #[] w0 (fun v w=>∃ ar0_3 cr0_3,v=.agg #[vI r.phase,vI r.pos,vI r.round,vS ar0_3 r.grey.length cr0_3]∧St w0 [] w [sl ar0_3 cr0_3 r.grey]):=by
 unfold F_s_GcNew at h;refine Ret.fn Tryz.func146 fun e=>?_;have S1:=St.start w0;refine go ?_;refine LW.al S1 fun g1 w2 S2=>?_;refine go ?_;refine LW.bsl (α:=Int) (vs:=[(0,vI 0)]) (cs:=#[vI 0]) (l:=([0]:List Int)) rfl (by kernel_rfl) rfl rfl rfl (fun w=>⟨[vI 0],[],[],[],rfl,rfl,⟨rfl,rfl⟩,rfl⟩) S2 rfl ?_;intro a3 c4 w5 S3 hf;refine LW.u (Pur.build (vs:=[(3,vS a3 (([0]:List Int).length) c4)]) (cs:=#[vI 0,vI 0,vI 0,vS a3 (([0]:List Int).length) c4]) rfl (by kernel_rfl)) rfl ?_;refine LW.st S3 1 fun w6 S4=>?_;refine go ?_;cases h;exact And.intro trivial ⟨_,Res.one (resOne.b S4 1 rfl ag30 rfl rfl),a3,c4,rfl,S4.pick [0] rfl rfl⟩
theorem W_s_l4Has {w0:World} {N:Nat} {x0:List Int} {x1:Int} {r:Bool} (h:F_s_l4Has N x0 x1=some r) {a0_0:Ad} {n0_0 c0_0:Nat} (hn0_0:n0_0=x0.length) (hr0_0:rdS (Bor w0 []) w0 a0_0 c0_0 x0) :
    Ret Tryz.prog 90 #[vS a0_0 n0_0 c0_0,vI x1] w0 (fun v w=>v=.bool r∧St w0 [] w []):=by
 subst hn0_0;unfold F_s_l4Has at h;refine Ret.fn Tryz.func90 fun e=>?_;have S1:=St.start w0;refine go ?_;obtain ⟨o14,ho14,h15⟩:=obind h;refine CW.mono (CW.lx [0,1] [] [] 0 (fun s1=>[(5,vI s1)]) (RT Tryz.prog Tryz.f90.results (fun u=>.bool u) w0 []) S1 ho14 (hb:=?_)) ?_
 · intro s1 e w2 o S2 h;refine go ?_;refine cd (fun z3=>?_) fun z3=>?_
   · replace h:=bcT h z3;refine go ?_;replace ⟨y4,hy4,h⟩:=obind h;obtain ⟨b7,o8,cs9,hae,hb12,hp5,hq6,hd10,hk11⟩:=hr0_0.idx hy4;subst hae;obtain rfl:=hd10;refine LW.u (Pur.ix Tryz.underlying24 sz3 rfl rfl hp5 hq6) rfl ?_;refine LW.l (Ldr.old w0 ag3 rfl (hk11 0 _ rfl)) (S2.same _ hb12.1 hb12.2) rfl ?_;refine go ?_;refine CW.fl [0,1,5,17] fun e=>?_;refine cd (fun z13=>?_) fun z13=>?_
     · replace h:=bcT h z13;refine go ?_;cases oi h;exact ⟨trivial,rfl,_,rfl,⟨_,Res.one (resOne.t rfl),rfl,S2.pick [] rfl rfl⟩⟩
     replace h:=bcF h z13;refine go ?_;cases oi h;exact ⟨rfl,⟨⟨rfl,rfl,rfl,trivial⟩,S2.pick [] rfl rfl⟩⟩
   replace h:=bcF h z3;refine go ?_;cases oi h;exact ⟨trivial,rfl,⟨trivial,S2.pick [] rfl rfl⟩⟩
 intro x e w16 hM;rcases o14 with o14 | r17
 · obtain ⟨rfl,hM⟩:=hM;obtain ⟨hE,S3⟩:=hM;obtain ⟨e,rfl⟩:=hE.out;rw [show e=upds e [] from rfl];have h:=h15;refine go ?_;cases h;exact fi S3
 obtain ⟨rfl,u,rfl,hM⟩:=hM;cases h15;exact And.intro trivial hM
theorem W_s_l6Copy {w0:World} {N:Nat} {x0:List DRes} {r:(List DRes)} (h:F_s_l6Copy N x0=some r) {a0_0:Ad} {n0_0 c0_0:Nat} (hn0_0:n0_0=x0.length) (hr0_0:rdS (Bor w0 []) w0 a0_0 c0_0 x0) :
    Ret Tryz.prog 138 #[vS a0_0 n0_0 c0_0] w0 (fun v w=>∃ ar0 cr0,v=vS ar0 r.length cr0∧St w0 [] w [sl ar0 cr0 r]):=by
 subst hn0_0;unfold F_s_l6Copy at h;refine Ret.fn Tryz.func138 fun e=>?_;have S1:=St.start w0;refine go ?_;refine LW.bsl (α:=DRes) (vs:=[]) (cs:=#[]) (l:=([]:List DRes)) rfl (by kernel_rfl) rfl rfl rfl (fun w=>rfl) S1 rfl ?_;intro a1 c2 w3 S2 hf;refine go ?_;replace ⟨y4,hy4,h⟩:=obind h;refine LW.appN (l:=([]:List DRes)) (m:=x0) sT27 rfl rfl (S2.rB hr0_0) hy4 S2 (i:=0) rfl rfl ?_;intro a5 c6 w7 S3 hf;refine go ?_;cases h;exact And.intro trivial ⟨_,Res.one (resOne.t rfl),a5,c6,rfl,S3.pick [0] rfl rfl⟩
theorem W_s_l6Sum {w0:World} {N:Nat} {x0:List DRes} {r:DAmt} (h:F_s_l6Sum N x0=some r) {a0_0:Ad} {n0_0 c0_0:Nat} (hn0_0:n0_0=x0.length) (hr0_0:rdS (Bor w0 []) w0 a0_0 c0_0 x0) :
    Ret Tryz.prog 82 #[vS a0_0 n0_0 c0_0] w0 (fun v w=>v=.agg #[vI r.pages,vI r.rent,vI r.cpu]∧St w0 [] w []):=by
 subst hn0_0;unfold F_s_l6Sum at h;refine Ret.fn Tryz.func82 fun e=>?_;have S1:=St.start w0;refine go ?_;refine LW.al S1 fun g1 w2 S2=>?_;refine go ?_;refine LW.u (Pur.build (vs:=[]) (cs:=#[vI 0,vI 0,vI 0]) rfl (by kernel_rfl)) rfl ?_;refine LW.al S2 fun g3 w4 S3=>?_;refine LW.st S3 0 fun w5 S4=>?_;refine go ?_;obtain ⟨o22,ho22,h23⟩:=obind h;refine CW.ie ho22 0 (fun s6 e wb=>En e [(0,vS a0_0 x0.length c0_0),(2,.pointer (some ⟨g1,0,none⟩)),(3,.pointer (some ⟨g3,0,none⟩)),(4,vI s6.1)]∧St w0 [] wb [bx g3 35 [vI s6.2.1,vI s6.2.2.1,vI s6.2.2.2],bx g1 35 [vI 0,vI 0,vI 0]]) ?_ ⟨⟨rfl,rfl,rfl,rfl,trivial⟩,S4.pick [0,1] rfl rfl⟩ ?_
 · intro s6 e w7 o hM h;obtain ⟨hE,S5⟩:=hM;obtain ⟨e,rfl⟩:=hE.out;refine go ?_;refine cd (fun z8=>?_) fun z8=>?_
   · replace h:=bcT h z8;refine go ?_;replace ⟨y9,hy9,h⟩:=obind h;obtain ⟨b12,o13,cs14,hae,hb17,hp10,hq11,hd15,hk16⟩:=hr0_0.idx hy9;subst hae;obtain rfl:=hd15;refine LW.u (Pur.ix Tryz.underlying27 sz47 rfl rfl hp10 hq11) rfl ?_;refine go ?_;refine LW.l (Ldr.old w0 ag4 rfl (hk16 0 _ rfl)) (S5.same _ hb17.1 hb17.2) rfl ?_;refine go ?_;refine CW.fl [0,2,3,4,16] fun e=>?_;refine cd (fun z18=>?_) fun z18=>?_
     · replace h:=bcT h z18;refine go ?_;refine CW.draw (by kernel_rfl) ?_;have S6:=S5.drew;refine go ?_;refine AW.u (i:=4) rfl (by kernel_rfl) rfl rfl (Pur.ix Tryz.underlying27 sz47 rfl rfl hp10 hq11) ?_;refine go ?_;refine AW.take (i:=7) rfl (by kernel_rfl) rfl rfl (Ldr.old w0 ag3 rfl (hk16 2 _ rfl)) (S6.same _ hb17.1 hb17.2) ?_;refine go ?_;refine jO 10 ?_;refine LW.st S6 0 fun w19 S7=>?_;refine jN (jW (jW jZ)) ?_;refine go ?_;refine CW.draw (by kernel_rfl) ?_;have S8:=S7.drew;refine go ?_;refine AW.u (i:=4) rfl (by kernel_rfl) rfl rfl (Pur.ix Tryz.underlying27 sz47 rfl rfl hp10 hq11) ?_;refine go ?_;refine AW.take (i:=7) rfl (by kernel_rfl) rfl rfl (Ldr.old w0 ag3 rfl (hk16 3 _ rfl)) (S8.same _ hb17.1 hb17.2) ?_;refine go ?_;refine jO 10 ?_;refine LW.st S8 0 fun w20 S9=>?_;refine jN (jW (jW jZ)) ?_;refine go ?_;refine CW.draw (by kernel_rfl) ?_;have S10:=S9.drew;refine go ?_;refine AW.u (i:=4) rfl (by kernel_rfl) rfl rfl (Pur.ix Tryz.underlying27 sz47 rfl rfl hp10 hq11) ?_;refine go ?_;refine AW.take (i:=7) rfl (by kernel_rfl) rfl rfl (Ldr.old w0 ag3 rfl (hk16 4 _ rfl)) (S10.same _ hb17.1 hb17.2) ?_;refine go ?_;refine jO 10 ?_;refine LW.st S10 0 fun w21 S11=>?_;refine jN (jW (jW jZ)) ?_;refine go ?_;cases oi h;exact ⟨rfl,⟨⟨rfl,rfl,rfl,rfl,trivial⟩,S11.pick [0,1] rfl rfl⟩⟩
     replace h:=bcF h z18;refine go ?_;cases oi h;exact ⟨rfl,⟨⟨rfl,rfl,rfl,rfl,trivial⟩,S5.pick [0,1] rfl rfl⟩⟩
   replace h:=bcF h z8;refine go ?_;cases oi h;exact ⟨trivial,rfl,⟨⟨rfl,rfl,rfl,rfl,trivial⟩,S5.pick [0,1] rfl rfl⟩⟩
 rintro e w24 ⟨hE,S12⟩;obtain ⟨e,rfl⟩:=hE.out;have h:=h23;refine go ?_;refine LW.st S12 1 fun w25 S13=>?_;refine go ?_;cases h;exact And.intro trivial ⟨_,Res.one (resOne.b S13 1 rfl ag35 rfl rfl),rfl,S13.pick [] rfl rfl⟩
theorem W_s_Expired {w0:World} {N:Nat} {x0:DObj} {x1:Int} {r:Bool} (h:F_s_Expired N x0 x1=some r) {a0_10:Ad} {n0_10 c0_10:Nat} (hn0_10:n0_10=x0.links.length) (hr0_10:rdS (Bor w0 []) w0 a0_10 c0_10 x0.links) {a0_11:Ad} {n0_11 c0_11:Nat} (hn0_11:n0_11=x0.data.length) (hr0_11:rdS (Bor w0 []) w0 a0_11 c0_11 x0.data) {a0_12:Ad} {n0_12 c0_12:Nat} (hn0_12:n0_12=x0.queue.length) (hr0_12:rdS (Bor w0 []) w0 a0_12 c0_12 x0.queue) :
    Ret Tryz.prog 92 #[.agg #[vI x0.gen,vI x0.kind,vI x0.box,vI x0.res,vI x0.til,vI x0.pages,vI x0.wait,vI x0.got,vI x0.ran,.bool x0.mark,vS a0_10 n0_10 c0_10,vS a0_11 n0_11 c0_11,vS a0_12 n0_12 c0_12],vI x1] w0 (fun v w=>v=.bool r∧St w0 [] w []):=by
 subst hn0_10 hn0_11 hn0_12;unfold F_s_Expired at h;refine Ret.fn Tryz.func92 fun e=>?_;have S1:=St.start w0;refine go ?_;refine LW.bo S1 fun g1 w2 S2=>?_;refine go ?_;rcases bcases (x0.kind==0) with z3 | z3
 · replace h:=bcT h z3;refine go ?_;cases h;exact fi S2
 replace h:=bcF h z3;refine go ?_;cases h;exact fi S2
theorem W_s_AmtOne {w0:World} {N:Nat} {x0:Int} {x1:Int} {r:DAmt} (h:F_s_AmtOne N x0 x1=some r) :
    Ret Tryz.prog 184 #[vI x0,vI x1] w0 (fun v w=>v=.agg #[vI r.pages,vI r.rent,vI r.cpu]∧St w0 [] w []):=by
 unfold F_s_AmtOne at h;refine Ret.fn Tryz.func184 fun e=>?_;have S1:=St.start w0;refine go ?_;refine LW.al S1 fun g1 w2 S2=>?_;refine go ?_;refine cd (fun z3=>?_) fun z3=>?_
 · replace h:=bcT h z3;refine go ?_;refine LW.u (Pur.build (vs:=[(0,vI x1)]) (cs:=#[vI x1,vI 0,vI 0]) rfl (by kernel_rfl)) rfl ?_;refine LW.st S2 0 fun w4 S3=>?_;refine go ?_;cases h;exact And.intro trivial ⟨_,Res.one (resOne.b S3 0 rfl ag35 rfl rfl),rfl,S3.pick [] rfl rfl⟩
 replace h:=bcF h z3;refine go ?_;refine cd (fun z5=>?_) fun z5=>?_
 · replace h:=bcT h z5;refine go ?_;refine LW.u (Pur.build (vs:=[(1,vI x1)]) (cs:=#[vI 0,vI x1,vI 0]) rfl (by kernel_rfl)) rfl ?_;refine LW.st S2 0 fun w6 S4=>?_;refine go ?_;cases h;exact And.intro trivial ⟨_,Res.one (resOne.b S4 0 rfl ag35 rfl rfl),rfl,S4.pick [] rfl rfl⟩
 replace h:=bcF h z5;refine go ?_;refine cd (fun z7=>?_) fun z7=>?_
 · replace h:=bcT h z7;refine go ?_;refine LW.u (Pur.build (vs:=[(2,vI x1)]) (cs:=#[vI 0,vI 0,vI x1]) rfl (by kernel_rfl)) rfl ?_;refine LW.st S2 0 fun w8 S5=>?_;refine go ?_;cases h;exact And.intro trivial ⟨_,Res.one (resOne.b S5 0 rfl ag35 rfl rfl),rfl,S5.pick [] rfl rfl⟩
 replace h:=bcF h z7;refine go ?_;refine LW.u (Pur.build (vs:=[]) (cs:=#[vI 0,vI 0,vI 0]) rfl (by kernel_rfl)) rfl ?_;refine LW.st S2 0 fun w9 S6=>?_;refine go ?_;cases h;exact And.intro trivial ⟨_,Res.one (resOne.b S6 0 rfl ag35 rfl rfl),rfl,S6.pick [] rfl rfl⟩
theorem W_s_AmtPart {w0:World} {N:Nat} {x0:DAmt} {x1:Int} {r:Int} (h:F_s_AmtPart N x0 x1=some r) :
    Ret Tryz.prog 186 #[.agg #[vI x0.pages,vI x0.rent,vI x0.cpu],vI x1] w0 (fun v w=>v=vI r∧St w0 [] w []):=by
 unfold F_s_AmtPart at h;refine Ret.fn Tryz.func186 fun e=>?_;have S1:=St.start w0;refine go ?_;refine LW.bo S1 fun g1 w2 S2=>?_;refine go ?_;refine cd (fun z3=>?_) fun z3=>?_
 · replace h:=bcT h z3;refine go ?_;cases h;exact fi S2
 replace h:=bcF h z3;refine go ?_;refine cd (fun z4=>?_) fun z4=>?_
 · replace h:=bcT h z4;refine go ?_;cases h;exact fi S2
 replace h:=bcF h z4;refine go ?_;refine cd (fun z5=>?_) fun z5=>?_
 · replace h:=bcT h z5;refine go ?_;cases h;exact fi S2
 replace h:=bcF h z5;refine go ?_;cases h;exact fi S2
theorem W_i_copyInts {w0:World} {N:Nat} {x0:List Int} {r:(List Int)} (h:F_i_copyInts N x0=some r) {a0_0:Ad} {n0_0 c0_0:Nat} (hn0_0:n0_0=x0.length) (hr0_0:rdS (Bor w0 []) w0 a0_0 c0_0 x0) :
    Ret Tryz.prog 107 #[vS a0_0 n0_0 c0_0] w0 (fun v w=>∃ ar0 cr0,v=vS ar0 r.length cr0∧St w0 [] w [sl ar0 cr0 r]):=by
 subst hn0_0;unfold F_i_copyInts at h;refine Ret.fn Tryz.func107 fun e=>?_;have S1:=St.start w0;refine go ?_;refine LW.bsl (α:=Int) (vs:=[]) (cs:=#[]) (l:=([]:List Int)) rfl (by kernel_rfl) rfl rfl rfl (fun w=>rfl) S1 rfl ?_;intro a1 c2 w3 S2 hf;refine go ?_;replace ⟨y4,hy4,h⟩:=obind h;refine LW.appN (l:=([]:List Int)) (m:=x0) sT24 rfl rfl (S2.rB hr0_0) hy4 S2 (i:=0) rfl rfl ?_;intro a5 c6 w7 S3 hf;refine go ?_;cases h;exact And.intro trivial ⟨_,Res.one (resOne.t rfl),a5,c6,rfl,S3.pick [0] rfl rfl⟩
theorem W_i_copyTree {w0:World} {N:Nat} {x0:List DRes} {r:(List DRes)} (h:F_i_copyTree N x0=some r) {a0_0:Ad} {n0_0 c0_0:Nat} (hn0_0:n0_0=x0.length) (hr0_0:rdS (Bor w0 []) w0 a0_0 c0_0 x0) :
    Ret Tryz.prog 108 #[vS a0_0 n0_0 c0_0] w0 (fun v w=>∃ ar0 cr0,v=vS ar0 r.length cr0∧St w0 [] w [sl ar0 cr0 r]):=by
 subst hn0_0;unfold F_i_copyTree at h;refine Ret.fn Tryz.func108 fun e=>?_;have S1:=St.start w0;refine go ?_;refine LW.bsl (α:=DRes) (vs:=[]) (cs:=#[]) (l:=([]:List DRes)) rfl (by kernel_rfl) rfl rfl rfl (fun w=>rfl) S1 rfl ?_;intro a1 c2 w3 S2 hf;refine go ?_;replace ⟨y4,hy4,h⟩:=obind h;refine LW.appN (l:=([]:List DRes)) (m:=x0) sT27 rfl rfl (S2.rB hr0_0) hy4 S2 (i:=0) rfl rfl ?_;intro a5 c6 w7 S3 hf;refine go ?_;cases h;exact And.intro trivial ⟨_,Res.one (resOne.t rfl),a5,c6,rfl,S3.pick [0] rfl rfl⟩
theorem W_i_within {w0:World} {N:Nat} {x0:Int} {x1:Int} {x2:Int} {r:Bool} (h:F_i_within N x0 x1 x2=some r) :
    Ret Tryz.prog 50 #[vI x0,vI x1,vI x2] w0 (fun v w=>v=.bool r∧St w0 [] w []):=by
 unfold F_i_within at h;refine Ret.fn Tryz.func50 fun e=>?_;have S1:=St.start w0;refine go ?_;rcases bcases (decide (x0 ≥ x1)) with z1 | z1
 · replace h:=bcT h z1;refine go ?_;cases h;exact fi S1
 replace h:=bcF h z1;refine go ?_;cases h;exact fi S1
theorem W_i_sumOf {w0:World} {N:Nat} {x0:DAmt} {x1:DAmt} {r:DAmt} (h:F_i_sumOf N x0 x1=some r) :
    Ret Tryz.prog 81 #[.agg #[vI x0.pages,vI x0.rent,vI x0.cpu],.agg #[vI x1.pages,vI x1.rent,vI x1.cpu]] w0 (fun v w=>v=.agg #[vI r.pages,vI r.rent,vI r.cpu]∧St w0 [] w []):=by
 unfold F_i_sumOf at h;refine Ret.fn Tryz.func81 fun e=>?_;have S1:=St.start w0;refine go ?_;refine LW.bo S1 fun g1 w2 S2=>?_;refine LW.bo S2 fun g3 w4 S3=>?_;refine LW.al S3 fun g5 w6 S4=>?_;refine go ?_;refine LW.u (Pur.build (vs:=[(0,vI (IntKind.i64.wrap (x0.pages+x1.pages))),(1,vI (IntKind.i64.wrap (x0.rent+x1.rent))),(2,vI (IntKind.i64.wrap (x0.cpu+x1.cpu)))]) (cs:=#[vI (IntKind.i64.wrap (x0.pages+x1.pages)),vI (IntKind.i64.wrap (x0.rent+x1.rent)),vI (IntKind.i64.wrap (x0.cpu+x1.cpu))]) rfl (by kernel_rfl)) rfl ?_;refine LW.st S4 0 fun w7 S5=>?_;refine go ?_;cases h;exact And.intro trivial ⟨_,Res.one (resOne.b S5 0 rfl ag35 rfl rfl),rfl,S5.pick [] rfl rfl⟩
theorem W_z_Index_int {w0:World} {N:Nat} {x0:List Int} {x1:Int} {r:Int} (h:F_z_Index_int N x0 x1=some r) {a0_0:Ad} {n0_0 c0_0:Nat} (hn0_0:n0_0=x0.length) (hr0_0:rdS (Bor w0 []) w0 a0_0 c0_0 x0) :
    Ret Tryz.prog 189 #[vS a0_0 n0_0 c0_0,vI x1] w0 (fun v w=>v=vI r∧St w0 [] w []):=by
 subst hn0_0;unfold F_z_Index_int at h;refine Ret.fn Tryz.func189 fun e=>?_;have S1:=St.start w0;refine go ?_;obtain ⟨o14,ho14,h15⟩:=obind h;refine CW.mono (CW.lx [0,1,7] [] [] 0 (fun s1=>[(8,vI s1)]) (RT Tryz.prog Tryz.f189.results (fun u=>vI u) w0 []) S1 ho14 (hb:=?_)) ?_
 · intro s1 e w2 o S2 h;refine go ?_;refine cd (fun z3=>?_) fun z3=>?_
   · replace h:=bcT h z3;refine go ?_;replace ⟨y4,hy4,h⟩:=obind h;obtain ⟨b7,o8,cs9,hae,hb12,hp5,hq6,hd10,hk11⟩:=hr0_0.idx hy4;subst hae;obtain rfl:=hd10;refine LW.u (Pur.ix Tryz.underlying24 sz3 rfl rfl hp5 hq6) rfl ?_;refine LW.l (Ldr.old w0 ag3 rfl (hk11 0 _ rfl)) (S2.same _ hb12.1 hb12.2) rfl ?_;refine go ?_;refine CW.fl [0,1,5,7,8,16] fun e=>?_;refine cd (fun z13=>?_) fun z13=>?_
     · replace h:=bcT h z13;refine go ?_;cases oi h;exact ⟨trivial,rfl,_,rfl,⟨_,Res.one (resOne.t rfl),rfl,S2.pick [] rfl rfl⟩⟩
     replace h:=bcF h z13;refine go ?_;cases oi h;exact ⟨rfl,⟨⟨rfl,rfl,rfl,rfl,trivial⟩,S2.pick [] rfl rfl⟩⟩
   replace h:=bcF h z3;refine go ?_;cases oi h;exact ⟨trivial,rfl,⟨trivial,S2.pick [] rfl rfl⟩⟩
 intro x e w16 hM;rcases o14 with o14 | r17
 · obtain ⟨rfl,hM⟩:=hM;obtain ⟨hE,S3⟩:=hM;obtain ⟨e,rfl⟩:=hE.out;rw [show e=upds e [] from rfl];have h:=h15;refine go ?_;cases h;exact fi S3
 obtain ⟨rfl,u,rfl,hM⟩:=hM;cases h15;exact And.intro trivial hM
theorem W_z_Equal_int {w0:World} {N:Nat} {x0:List Int} {x1:List Int} {r:Bool} (h:F_z_Equal_int N x0 x1=some r) {a0_0:Ad} {n0_0 c0_0:Nat} (hn0_0:n0_0=x0.length) (hr0_0:rdS (Bor w0 []) w0 a0_0 c0_0 x0) {a1_0:Ad} {n1_0 c1_0:Nat} (hn1_0:n1_0=x1.length) (hr1_0:rdS (Bor w0 []) w0 a1_0 c1_0 x1) :
    Ret Tryz.prog 209 #[vS a0_0 n0_0 c0_0,vS a1_0 n1_0 c1_0] w0 (fun v w=>v=.bool r∧St w0 [] w []):=by
 subst hn0_0 hn1_0;unfold F_z_Equal_int at h;refine Ret.fn Tryz.func209 fun e=>?_;have S1:=St.start w0;refine go ?_;refine cd (fun z1=>?_) fun z1=>?_
 · replace h:=bcT h z1;refine go ?_;cases h;exact fi S1
 replace h:=bcF h z1;refine go ?_;obtain ⟨o24,ho24,h25⟩:=obind h;refine CW.mono (CW.lx [0,1,12] [] [] 0 (fun s2=>[(13,vI s2)]) (RT Tryz.prog Tryz.f209.results (fun u=>.bool u) w0 []) S1 ho24 (hb:=?_)) ?_
 · intro s2 e w3 o S2 h;refine go ?_;refine cd (fun z4=>?_) fun z4=>?_
   · replace h:=bcT h z4;refine go ?_;refine CW.draw (by kernel_rfl) ?_;have S3:=S2.drew;refine go ?_;replace ⟨y5,hy5,h⟩:=obind h;obtain ⟨b8,o9,cs10,hae,hb13,hp6,hq7,hd11,hk12⟩:=hr0_0.idx hy5;subst hae;obtain rfl:=hd11;refine AW.u (i:=2) rfl (by kernel_rfl) rfl rfl (Pur.ix Tryz.underlying24 sz3 rfl rfl hp6 hq7) ?_;refine AW.take (i:=3) rfl (by kernel_rfl) rfl rfl (Ldr.old w0 ag3 rfl (hk12 0 _ rfl)) (S3.same _ hb13.1 hb13.2) ?_;refine go ?_;replace ⟨y14,hy14,h⟩:=obind h;obtain ⟨b17,o18,cs19,hae,hb22,hp15,hq16,hd20,hk21⟩:=hr1_0.idx hy14;subst hae;obtain rfl:=hd20;refine AW.u (i:=6) rfl (by kernel_rfl) rfl rfl (Pur.ix Tryz.underlying24 sz3 rfl rfl hp15 hq16) ?_;refine AW.take (i:=7) rfl (by kernel_rfl) rfl rfl (Ldr.old w0 ag3 rfl (hk21 0 _ rfl)) (S3.same _ hb22.1 hb22.2) ?_;refine go ?_;refine cd (fun z23=>?_) fun z23=>?_
     · replace h:=bcT h z23;refine go ?_;cases oi h;exact ⟨trivial,rfl,_,rfl,⟨_,Res.one (resOne.t rfl),rfl,S3.pick [] rfl rfl⟩⟩
     replace h:=bcF h z23;refine go ?_;cases oi h;exact ⟨rfl,⟨⟨rfl,rfl,rfl,rfl,trivial⟩,S3.pick [] rfl rfl⟩⟩
   replace h:=bcF h z4;refine go ?_;cases oi h;exact ⟨trivial,rfl,⟨trivial,S2.pick [] rfl rfl⟩⟩
 intro x e w26 hM;rcases o24 with o24 | r27
 · obtain ⟨rfl,hM⟩:=hM;obtain ⟨hE,S4⟩:=hM;obtain ⟨e,rfl⟩:=hE.out;rw [show e=upds e [] from rfl];have h:=h25;refine go ?_;cases h;exact fi S4
 obtain ⟨rfl,u,rfl,hM⟩:=hM;cases h25;exact And.intro trivial hM
theorem W_z_Equal_Msg {w0:World} {N:Nat} {x0:List DMsg} {x1:List DMsg} {r:Bool} (h:F_z_Equal_Msg N x0 x1=some r) {a0_0:Ad} {n0_0 c0_0:Nat} (hn0_0:n0_0=x0.length) (hr0_0:rdS (Bor w0 []) w0 a0_0 c0_0 x0) {a1_0:Ad} {n1_0 c1_0:Nat} (hn1_0:n1_0=x1.length) (hr1_0:rdS (Bor w0 []) w0 a1_0 c1_0 x1) :
    Ret Tryz.prog 210 #[vS a0_0 n0_0 c0_0,vS a1_0 n1_0 c1_0] w0 (fun v w=>v=.bool r∧St w0 [] w []):=by
 subst hn0_0 hn1_0;unfold F_z_Equal_Msg at h;refine Ret.fn Tryz.func210 fun e=>?_;have S1:=St.start w0;refine go ?_;refine cd (fun z1=>?_) fun z1=>?_
 · replace h:=bcT h z1;refine go ?_;cases h;exact fi S1
 replace h:=bcF h z1;refine go ?_;obtain ⟨o24,ho24,h25⟩:=obind h;refine CW.mono (CW.lx [0,1,12] [] [] 0 (fun s2=>[(13,vI s2)]) (RT Tryz.prog Tryz.f210.results (fun u=>.bool u) w0 []) S1 ho24 (hb:=?_)) ?_
 · intro s2 e w3 o S2 h;refine go ?_;refine cd (fun z4=>?_) fun z4=>?_
   · replace h:=bcT h z4;refine go ?_;refine CW.draw (by kernel_rfl) ?_;have S3:=S2.drew;refine go ?_;replace ⟨y5,hy5,h⟩:=obind h;obtain ⟨b8,o9,cs10,hae,hb13,hp6,hq7,hd11,hk12⟩:=hr0_0.idx hy5;subst hae;obtain rfl:=hd11;refine AW.u (i:=2) rfl (by kernel_rfl) rfl rfl (Pur.ix Tryz.underlying48 sz152 rfl rfl hp6 hq7) ?_;refine AW.take (i:=3) rfl (by kernel_rfl) rfl rfl (Ldr.oldN w0 ag152 rfl rfl (fun j u hu=>hk12 j u hu)) (S3.same _ hb13.1 hb13.2) ?_;refine go ?_;replace ⟨y14,hy14,h⟩:=obind h;obtain ⟨b17,o18,cs19,hae,hb22,hp15,hq16,hd20,hk21⟩:=hr1_0.idx hy14;subst hae;obtain rfl:=hd20;refine AW.u (i:=6) rfl (by kernel_rfl) rfl rfl (Pur.ix Tryz.underlying48 sz152 rfl rfl hp15 hq16) ?_;refine AW.take (i:=7) rfl (by kernel_rfl) rfl rfl (Ldr.oldN w0 ag152 rfl rfl (fun j u hu=>hk21 j u hu)) (S3.same _ hb22.1 hb22.2) ?_;refine AW.u (i:=8) rfl (by kernel_rfl) rfl rfl (Pur.ane eg152 rfl rfl (fun w=>eq152 y5 y14 w)) ?_;refine go ?_;refine cd (fun z23=>?_) fun z23=>?_
     · replace h:=bcT h z23;refine go ?_;cases oi h;exact ⟨trivial,rfl,_,rfl,⟨_,Res.one (resOne.t rfl),rfl,S3.pick [] rfl rfl⟩⟩
     replace h:=bcF h z23;refine go ?_;cases oi h;exact ⟨rfl,⟨⟨rfl,rfl,rfl,rfl,trivial⟩,S3.pick [] rfl rfl⟩⟩
   replace h:=bcF h z4;refine go ?_;cases oi h;exact ⟨trivial,rfl,⟨trivial,S2.pick [] rfl rfl⟩⟩
 intro x e w26 hM;rcases o24 with o24 | r27
 · obtain ⟨rfl,hM⟩:=hM;obtain ⟨hE,S4⟩:=hM;obtain ⟨e,rfl⟩:=hE.out;rw [show e=upds e [] from rfl];have h:=h25;refine go ?_;cases h;exact fi S4
 obtain ⟨rfl,u,rfl,hM⟩:=hM;cases h25;exact And.intro trivial hM
theorem W_i_Expired {w0:World} {N:Nat} {x0:DObj} {x1:Int} {r:Bool} (h:F_i_Expired N x0 x1=some r) {a0_10:Ad} {n0_10 c0_10:Nat} (hn0_10:n0_10=x0.links.length) (hr0_10:rdS (Bor w0 []) w0 a0_10 c0_10 x0.links) {a0_11:Ad} {n0_11 c0_11:Nat} (hn0_11:n0_11=x0.data.length) (hr0_11:rdS (Bor w0 []) w0 a0_11 c0_11 x0.data) {a0_12:Ad} {n0_12 c0_12:Nat} (hn0_12:n0_12=x0.queue.length) (hr0_12:rdS (Bor w0 []) w0 a0_12 c0_12 x0.queue) :
    Ret Tryz.prog 134 #[.agg #[vI x0.gen,vI x0.kind,vI x0.box,vI x0.res,vI x0.til,vI x0.pages,vI x0.wait,vI x0.got,vI x0.ran,.bool x0.mark,vS a0_10 n0_10 c0_10,vS a0_11 n0_11 c0_11,vS a0_12 n0_12 c0_12],vI x1] w0 (fun v w=>v=.bool r∧St w0 [] w []):=by
 subst hn0_10 hn0_11 hn0_12;unfold F_i_Expired at h;refine Ret.fn Tryz.func134 fun e=>?_;have S1:=St.start w0;refine go ?_;refine LW.bo S1 fun g1 w2 S2=>?_;refine go ?_;rcases bcases (x0.kind==0) with z3 | z3
 · replace h:=bcT h z3;refine go ?_;cases h;exact fi S2
 replace h:=bcF h z3;refine go ?_;cases h;exact fi S2
theorem W_s_SameLabel {w0:World} {N:Nat} {x0:DLabel} {x1:DLabel} {r:Bool} (h:F_s_SameLabel N x0 x1=some r) {a0_0:Ad} {n0_0 c0_0:Nat} (hn0_0:n0_0=x0.levels.length) (hr0_0:rdS (Bor w0 []) w0 a0_0 c0_0 x0.levels) {a1_0:Ad} {n1_0 c1_0:Nat} (hn1_0:n1_0=x1.levels.length) (hr1_0:rdS (Bor w0 []) w0 a1_0 c1_0 x1.levels) :
    Ret Tryz.prog 58 #[.agg #[vS a0_0 n0_0 c0_0],.agg #[vS a1_0 n1_0 c1_0]] w0 (fun v w=>v=.bool r∧St w0 [] w []):=by
 subst hn0_0 hn1_0;unfold F_s_SameLabel at h;refine Ret.fn Tryz.func58 fun e=>?_;have S1:=St.start w0;refine go ?_;refine LW.bo S1 fun g1 w2 S2=>?_;refine LW.bo S2 fun g3 w4 S3=>?_;refine go ?_;refine cd (fun z5=>?_) fun z5=>?_
 · replace h:=bcT h z5;refine go ?_;cases h;exact fi S3
 replace h:=bcF h z5;refine go ?_;obtain ⟨o28,ho28,h29⟩:=obind h;refine CW.mono (CW.lx [2,3] [0,1] [] 0 (fun s6=>[(5,vI s6)]) (RT Tryz.prog Tryz.f58.results (fun u=>.bool u) w0 []) S3 ho28 (hb:=?_)) ?_
 · intro s6 e w7 o S4 h;refine go ?_;refine CW.fl [2,3,5,17] fun e=>?_;refine cd (fun z8=>?_) fun z8=>?_
   · replace h:=bcT h z8;refine go ?_;refine CW.draw (by kernel_rfl) ?_;have S5:=S4.drew;refine go ?_;replace ⟨y9,hy9,h⟩:=obind h;obtain ⟨b12,o13,cs14,hae,hb17,hp10,hq11,hd15,hk16⟩:=hr0_0.idx hy9;subst hae;obtain rfl:=hd15;refine AW.u (i:=3) rfl (by kernel_rfl) rfl rfl (Pur.ix Tryz.underlying24 sz3 rfl rfl hp10 hq11) ?_;refine AW.take (i:=4) rfl (by kernel_rfl) rfl rfl (Ldr.old w0 ag3 rfl (hk16 0 _ rfl)) (S5.same _ hb17.1 hb17.2) ?_;refine go ?_;replace ⟨y18,hy18,h⟩:=obind h;obtain ⟨b21,o22,cs23,hae,hb26,hp19,hq20,hd24,hk25⟩:=hr1_0.idx hy18;subst hae;obtain rfl:=hd24;refine AW.u (i:=8) rfl (by kernel_rfl) rfl rfl (Pur.ix Tryz.underlying24 sz3 rfl rfl hp19 hq20) ?_;refine AW.take (i:=9) rfl (by kernel_rfl) rfl rfl (Ldr.old w0 ag3 rfl (hk25 0 _ rfl)) (S5.same _ hb26.1 hb26.2) ?_;refine go ?_;refine cd (fun z27=>?_) fun z27=>?_
     · replace h:=bcT h z27;refine go ?_;cases oi h;exact ⟨trivial,rfl,_,rfl,⟨_,Res.one (resOne.t rfl),rfl,S5.pick [] rfl rfl⟩⟩
     replace h:=bcF h z27;refine go ?_;cases oi h;exact ⟨rfl,⟨⟨rfl,rfl,rfl,trivial⟩,S5.pick [0,1] rfl rfl⟩⟩
   replace h:=bcF h z8;refine go ?_;cases oi h;exact ⟨trivial,rfl,⟨trivial,S4.pick [0,1] rfl rfl⟩⟩
 intro x e w30 hM;rcases o28 with o28 | r31
 · obtain ⟨rfl,hM⟩:=hM;obtain ⟨hE,S6⟩:=hM;obtain ⟨e,rfl⟩:=hE.out;rw [show e=upds e [] from rfl];have h:=h29;refine go ?_;cases h;exact fi S6
 obtain ⟨rfl,u,rfl,hM⟩:=hM;cases h29;exact And.intro trivial hM
theorem W_s_l13Ints {w0:World} {N:Nat} {x0:List Int} {x1:List Int} {r:Bool} (h:F_s_l13Ints N x0 x1=some r) {a0_0:Ad} {n0_0 c0_0:Nat} (hn0_0:n0_0=x0.length) (hr0_0:rdS (Bor w0 []) w0 a0_0 c0_0 x0) {a1_0:Ad} {n1_0 c1_0:Nat} (hn1_0:n1_0=x1.length) (hr1_0:rdS (Bor w0 []) w0 a1_0 c1_0 x1) :
    Ret Tryz.prog 59 #[vS a0_0 n0_0 c0_0,vS a1_0 n1_0 c1_0] w0 (fun v w=>v=.bool r∧St w0 [] w []):=by
 subst hn0_0 hn1_0;unfold F_s_l13Ints at h;refine Ret.fn Tryz.func59 fun e=>?_;have S1:=St.start w0;refine go ?_;refine cd (fun z1=>?_) fun z1=>?_
 · replace h:=bcT h z1;refine go ?_;cases h;exact fi S1
 replace h:=bcF h z1;refine go ?_;obtain ⟨o24,ho24,h25⟩:=obind h;refine CW.mono (CW.lx [0,1] [] [] 0 (fun s2=>[(5,vI s2)]) (RT Tryz.prog Tryz.f59.results (fun u=>.bool u) w0 []) S1 ho24 (hb:=?_)) ?_
 · intro s2 e w3 o S2 h;refine go ?_;refine cd (fun z4=>?_) fun z4=>?_
   · replace h:=bcT h z4;refine go ?_;refine CW.draw (by kernel_rfl) ?_;have S3:=S2.drew;refine go ?_;replace ⟨y5,hy5,h⟩:=obind h;obtain ⟨b8,o9,cs10,hae,hb13,hp6,hq7,hd11,hk12⟩:=hr0_0.idx hy5;subst hae;obtain rfl:=hd11;refine AW.u (i:=2) rfl (by kernel_rfl) rfl rfl (Pur.ix Tryz.underlying24 sz3 rfl rfl hp6 hq7) ?_;refine AW.take (i:=3) rfl (by kernel_rfl) rfl rfl (Ldr.old w0 ag3 rfl (hk12 0 _ rfl)) (S3.same _ hb13.1 hb13.2) ?_;refine go ?_;replace ⟨y14,hy14,h⟩:=obind h;obtain ⟨b17,o18,cs19,hae,hb22,hp15,hq16,hd20,hk21⟩:=hr1_0.idx hy14;subst hae;obtain rfl:=hd20;refine AW.u (i:=6) rfl (by kernel_rfl) rfl rfl (Pur.ix Tryz.underlying24 sz3 rfl rfl hp15 hq16) ?_;refine AW.take (i:=7) rfl (by kernel_rfl) rfl rfl (Ldr.old w0 ag3 rfl (hk21 0 _ rfl)) (S3.same _ hb22.1 hb22.2) ?_;refine go ?_;refine cd (fun z23=>?_) fun z23=>?_
     · replace h:=bcT h z23;refine go ?_;cases oi h;exact ⟨trivial,rfl,_,rfl,⟨_,Res.one (resOne.t rfl),rfl,S3.pick [] rfl rfl⟩⟩
     replace h:=bcF h z23;refine go ?_;cases oi h;exact ⟨rfl,⟨⟨rfl,rfl,rfl,trivial⟩,S3.pick [] rfl rfl⟩⟩
   replace h:=bcF h z4;refine go ?_;cases oi h;exact ⟨trivial,rfl,⟨trivial,S2.pick [] rfl rfl⟩⟩
 intro x e w26 hM;rcases o24 with o24 | r27
 · obtain ⟨rfl,hM⟩:=hM;obtain ⟨hE,S4⟩:=hM;obtain ⟨e,rfl⟩:=hE.out;rw [show e=upds e [] from rfl];have h:=h25;refine go ?_;cases h;exact fi S4
 obtain ⟨rfl,u,rfl,hM⟩:=hM;cases h25;exact And.intro trivial hM
theorem W_s_l8Same {w0:World} {N:Nat} {x0:DObj} {x1:DObj} {r:Bool} (h:F_s_l8Same N x0 x1=some r) {a0_10:Ad} {n0_10 c0_10:Nat} (hn0_10:n0_10=x0.links.length) (hr0_10:rdS (Bor w0 []) w0 a0_10 c0_10 x0.links) {a0_11:Ad} {n0_11 c0_11:Nat} (hn0_11:n0_11=x0.data.length) (hr0_11:rdS (Bor w0 []) w0 a0_11 c0_11 x0.data) {a0_12:Ad} {n0_12 c0_12:Nat} (hn0_12:n0_12=x0.queue.length) (hr0_12:rdS (Bor w0 []) w0 a0_12 c0_12 x0.queue) {a1_10:Ad} {n1_10 c1_10:Nat} (hn1_10:n1_10=x1.links.length) (hr1_10:rdS (Bor w0 []) w0 a1_10 c1_10 x1.links) {a1_11:Ad} {n1_11 c1_11:Nat} (hn1_11:n1_11=x1.data.length) (hr1_11:rdS (Bor w0 []) w0 a1_11 c1_11 x1.data) {a1_12:Ad} {n1_12 c1_12:Nat} (hn1_12:n1_12=x1.queue.length) (hr1_12:rdS (Bor w0 []) w0 a1_12 c1_12 x1.queue) :
    Ret Tryz.prog 119 #[.agg #[vI x0.gen,vI x0.kind,vI x0.box,vI x0.res,vI x0.til,vI x0.pages,vI x0.wait,vI x0.got,vI x0.ran,.bool x0.mark,vS a0_10 n0_10 c0_10,vS a0_11 n0_11 c0_11,vS a0_12 n0_12 c0_12],.agg #[vI x1.gen,vI x1.kind,vI x1.box,vI x1.res,vI x1.til,vI x1.pages,vI x1.wait,vI x1.got,vI x1.ran,.bool x1.mark,vS a1_10 n1_10 c1_10,vS a1_11 n1_11 c1_11,vS a1_12 n1_12 c1_12]] w0 (fun v w=>v=.bool r∧St w0 [] w []):=by
 subst hn0_10 hn0_11 hn0_12 hn1_10 hn1_11 hn1_12;unfold F_s_l8Same at h;refine Ret.fn Tryz.func119 fun e=>?_;have S1:=St.start w0;refine go ?_;refine LW.bo S1 fun g1 w2 S2=>?_;refine LW.bo S2 fun g3 w4 S3=>?_;refine gs ?_;obtain ⟨j5,hj5,h6⟩:=obind h;refine CW.jn [2,3] [0,1] [(102,.bool j5)] S3 (h1:=?_) (h2:=?_)
 · have h:=hj5;refine go ?_;rcases bcases (x0.gen != x1.gen) with z7 | z7
   · replace h:=bcT h z7;refine go ?_;cases oi h;exact ⟨⟨rfl,rfl,rfl,trivial⟩,S3.pick [0,1] rfl rfl⟩
   replace h:=bcF h z7;refine go ?_;rcases bcases (x0.kind != x1.kind) with z8 | z8
   · replace h:=bcT h z8;refine go ?_;cases oi h;exact ⟨⟨rfl,rfl,rfl,trivial⟩,S3.pick [0,1] rfl rfl⟩
   replace h:=bcF h z8;refine go ?_;refine LW.fl [2,3,27] fun e=>?_;rcases bcases (x0.box != x1.box) with z9 | z9
   · replace h:=bcT h z9;refine go ?_;cases oi h;exact ⟨⟨rfl,rfl,rfl,trivial⟩,S3.pick [0,1] rfl rfl⟩
   replace h:=bcF h z9;refine go ?_;rcases bcases (x0.res != x1.res) with z10 | z10
   · replace h:=bcT h z10;refine go ?_;cases oi h;exact ⟨⟨rfl,rfl,rfl,trivial⟩,S3.pick [0,1] rfl rfl⟩
   replace h:=bcF h z10;refine go ?_;rcases bcases (x0.til != x1.til) with z11 | z11
   · replace h:=bcT h z11;refine go ?_;cases oi h;exact ⟨⟨rfl,rfl,rfl,trivial⟩,S3.pick [0,1] rfl rfl⟩
   replace h:=bcF h z11;refine go ?_;rcases bcases (x0.pages != x1.pages) with z12 | z12
   · replace h:=bcT h z12;refine go ?_;cases oi h;exact ⟨⟨rfl,rfl,rfl,trivial⟩,S3.pick [0,1] rfl rfl⟩
   replace h:=bcF h z12;refine go ?_;refine LW.fl [2,3,55] fun e=>?_;rcases bcases (x0.wait != x1.wait) with z13 | z13
   · replace h:=bcT h z13;refine go ?_;cases oi h;exact ⟨⟨rfl,rfl,rfl,trivial⟩,S3.pick [0,1] rfl rfl⟩
   replace h:=bcF h z13;refine go ?_;rcases bcases (x0.got != x1.got) with z14 | z14
   · replace h:=bcT h z14;refine go ?_;cases oi h;exact ⟨⟨rfl,rfl,rfl,trivial⟩,S3.pick [0,1] rfl rfl⟩
   replace h:=bcF h z14;refine go ?_;rcases bcases (x0.ran != x1.ran) with z15 | z15
   · replace h:=bcT h z15;refine go ?_;cases oi h;exact ⟨⟨rfl,rfl,rfl,trivial⟩,S3.pick [0,1] rfl rfl⟩
   replace h:=bcF h z15;refine go ?_;refine LW.u (Pur.bne Tryz.underlying4 rfl rfl) rfl ?_;refine go ?_;rcases bcases (!(x0.mark==x1.mark)) with z16 | z16
   · replace h:=bcT h z16;refine go ?_;cases oi h;exact ⟨⟨rfl,rfl,rfl,trivial⟩,S3.pick [0,1] rfl rfl⟩
   replace h:=bcF h z16;refine go ?_;refine LW.fl [2,3,85] fun e=>?_;rcases bcases ((x0.links.length:Int) != (x1.links.length:Int)) with z17 | z17
   · replace h:=bcT h z17;refine go ?_;cases oi h;exact ⟨⟨rfl,rfl,rfl,trivial⟩,S3.pick [0,1] rfl rfl⟩
   replace h:=bcF h z17;refine go ?_;rcases bcases ((x0.data.length:Int) != (x1.data.length:Int)) with z18 | z18
   · replace h:=bcT h z18;refine go ?_;cases oi h;exact ⟨⟨rfl,rfl,rfl,trivial⟩,S3.pick [0,1] rfl rfl⟩
   replace h:=bcF h z18;refine go ?_;cases oi h;exact ⟨⟨rfl,rfl,rfl,trivial⟩,S3.pick [0,1] rfl rfl⟩
 intro e w19 S4;have h:=h6;refine go ?_;refine cd (fun z20=>?_) fun z20=>?_
 · replace h:=bcT h z20;refine go ?_;cases h;exact fi S4
 replace h:=bcF h z20;refine go ?_;obtain ⟨o43,ho43,h44⟩:=obind h;refine CW.mono (CW.lx [2,3] [0,1] [2,3] 0 (fun s21=>[(5,vI s21)]) (RT Tryz.prog Tryz.f119.results (fun u=>.bool u) w0 []) S4 ho43 (hb:=?_)) ?_
 · intro s21 e w22 o S5 h;refine go ?_;refine cd (fun z23=>?_) fun z23=>?_
   · replace h:=bcT h z23;refine go ?_;refine CW.draw (by kernel_rfl) ?_;have S6:=S5.drew;refine go ?_;replace ⟨y24,hy24,h⟩:=obind h;obtain ⟨b27,o28,cs29,hae,hb32,hp25,hq26,hd30,hk31⟩:=hr0_10.idx hy24;subst hae;obtain rfl:=hd30;refine AW.u (i:=3) rfl (by kernel_rfl) rfl rfl (Pur.ix Tryz.underlying24 sz3 rfl rfl hp25 hq26) ?_;refine AW.take (i:=4) rfl (by kernel_rfl) rfl rfl (Ldr.old w0 ag3 rfl (hk31 0 _ rfl)) (S6.same _ hb32.1 hb32.2) ?_;refine go ?_;replace ⟨y33,hy33,h⟩:=obind h;obtain ⟨b36,o37,cs38,hae,hb41,hp34,hq35,hd39,hk40⟩:=hr1_10.idx hy33;subst hae;obtain rfl:=hd39;refine AW.u (i:=8) rfl (by kernel_rfl) rfl rfl (Pur.ix Tryz.underlying24 sz3 rfl rfl hp34 hq35) ?_;refine AW.take (i:=9) rfl (by kernel_rfl) rfl rfl (Ldr.old w0 ag3 rfl (hk40 0 _ rfl)) (S6.same _ hb41.1 hb41.2) ?_;refine go ?_;refine cd (fun z42=>?_) fun z42=>?_
     · replace h:=bcT h z42;refine go ?_;cases oi h;exact ⟨trivial,rfl,_,rfl,⟨_,Res.one (resOne.t rfl),rfl,S6.pick [] rfl rfl⟩⟩
     replace h:=bcF h z42;refine go ?_;cases oi h;exact ⟨rfl,⟨⟨rfl,rfl,rfl,trivial⟩,S6.pick [0,1] rfl rfl⟩⟩
   replace h:=bcF h z23;refine go ?_;cases oi h;exact ⟨trivial,rfl,⟨⟨rfl,rfl,trivial⟩,S5.pick [0,1] rfl rfl⟩⟩
 intro x e w45 hM;rcases o43 with o43 | r98
 · obtain ⟨rfl,hM⟩:=hM;obtain ⟨hE,S7⟩:=hM;obtain ⟨e,rfl⟩:=hE.out;have h:=h44;refine go ?_;obtain ⟨o68,ho68,h69⟩:=obind h;refine CW.mono (CW.lx [2,3] [0,1] [2,3] 2 (fun s46=>[(6,vI s46)]) (RT Tryz.prog Tryz.f119.results (fun u=>.bool u) w0 []) S7 ho68 (hb:=?_)) ?_
   · intro s46 e w47 o S8 h;refine go ?_;refine cd (fun z48=>?_) fun z48=>?_
     · replace h:=bcT h z48;refine go ?_;refine CW.draw (by kernel_rfl) ?_;have S9:=S8.drew;refine go ?_;replace ⟨y49,hy49,h⟩:=obind h;obtain ⟨b52,o53,cs54,hae,hb57,hp50,hq51,hd55,hk56⟩:=hr0_11.idx hy49;subst hae;obtain rfl:=hd55;refine AW.u (i:=3) rfl (by kernel_rfl) rfl rfl (Pur.ix Tryz.underlying24 sz3 rfl rfl hp50 hq51) ?_;refine AW.take (i:=4) rfl (by kernel_rfl) rfl rfl (Ldr.old w0 ag3 rfl (hk56 0 _ rfl)) (S9.same _ hb57.1 hb57.2) ?_;refine go ?_;replace ⟨y58,hy58,h⟩:=obind h;obtain ⟨b61,o62,cs63,hae,hb66,hp59,hq60,hd64,hk65⟩:=hr1_11.idx hy58;subst hae;obtain rfl:=hd64;refine AW.u (i:=8) rfl (by kernel_rfl) rfl rfl (Pur.ix Tryz.underlying24 sz3 rfl rfl hp59 hq60) ?_;refine AW.take (i:=9) rfl (by kernel_rfl) rfl rfl (Ldr.old w0 ag3 rfl (hk65 0 _ rfl)) (S9.same _ hb66.1 hb66.2) ?_;refine go ?_;refine cd (fun z67=>?_) fun z67=>?_
       · replace h:=bcT h z67;refine go ?_;cases oi h;exact ⟨trivial,rfl,_,rfl,⟨_,Res.one (resOne.t rfl),rfl,S9.pick [] rfl rfl⟩⟩
       replace h:=bcF h z67;refine go ?_;cases oi h;exact ⟨rfl,⟨⟨rfl,rfl,rfl,trivial⟩,S9.pick [0,1] rfl rfl⟩⟩
     replace h:=bcF h z48;refine go ?_;cases oi h;exact ⟨trivial,rfl,⟨⟨rfl,rfl,trivial⟩,S8.pick [0,1] rfl rfl⟩⟩
   intro x e w70 hM;rcases o68 with o68 | r97
   · obtain ⟨rfl,hM⟩:=hM;obtain ⟨hE,S10⟩:=hM;obtain ⟨e,rfl⟩:=hE.out;have h:=h69;refine go ?_;obtain ⟨o93,ho93,h94⟩:=obind h;refine CW.mono (CW.lx [2,3] [0,1] [] 4 (fun s71=>[(7,vI s71)]) (RT Tryz.prog Tryz.f119.results (fun u=>.bool u) w0 []) S10 ho93 (hb:=?_)) ?_
     · intro s71 e w72 o S11 h;refine go ?_;refine cd (fun z73=>?_) fun z73=>?_
       · replace h:=bcT h z73;refine go ?_;refine CW.draw (by kernel_rfl) ?_;have S12:=S11.drew;refine go ?_;replace ⟨y74,hy74,h⟩:=obind h;obtain ⟨b77,o78,cs79,hae,hb82,hp75,hq76,hd80,hk81⟩:=hr0_12.idx hy74;subst hae;obtain rfl:=hd80;refine AW.u (i:=3) rfl (by kernel_rfl) rfl rfl (Pur.ix Tryz.underlying48 sz152 rfl rfl hp75 hq76) ?_;refine AW.take (i:=4) rfl (by kernel_rfl) rfl rfl (Ldr.oldN w0 ag152 rfl rfl (fun j u hu=>hk81 j u hu)) (S12.same _ hb82.1 hb82.2) ?_;refine go ?_;replace ⟨y83,hy83,h⟩:=obind h;obtain ⟨b86,o87,cs88,hae,hb91,hp84,hq85,hd89,hk90⟩:=hr1_12.idx hy83;subst hae;obtain rfl:=hd89;refine AW.u (i:=8) rfl (by kernel_rfl) rfl rfl (Pur.ix Tryz.underlying48 sz152 rfl rfl hp84 hq85) ?_;refine AW.take (i:=9) rfl (by kernel_rfl) rfl rfl (Ldr.oldN w0 ag152 rfl rfl (fun j u hu=>hk90 j u hu)) (S12.same _ hb91.1 hb91.2) ?_;refine AW.u (i:=10) rfl (by kernel_rfl) rfl rfl (Pur.ane eg152 rfl rfl (fun w=>eq152 y74 y83 w)) ?_;refine go ?_;refine cd (fun z92=>?_) fun z92=>?_
         · replace h:=bcT h z92;refine go ?_;cases oi h;exact ⟨trivial,rfl,_,rfl,⟨_,Res.one (resOne.t rfl),rfl,S12.pick [] rfl rfl⟩⟩
         replace h:=bcF h z92;refine go ?_;cases oi h;exact ⟨rfl,⟨⟨rfl,rfl,rfl,trivial⟩,S12.pick [0,1] rfl rfl⟩⟩
       replace h:=bcF h z73;refine go ?_;cases oi h;exact ⟨trivial,rfl,⟨trivial,S11.pick [0,1] rfl rfl⟩⟩
     intro x e w95 hM;rcases o93 with o93 | r96
     · obtain ⟨rfl,hM⟩:=hM;obtain ⟨hE,S13⟩:=hM;obtain ⟨e,rfl⟩:=hE.out;rw [show e=upds e [] from rfl];have h:=h94;refine go ?_;cases h;exact fi S13
     obtain ⟨rfl,u,rfl,hM⟩:=hM;cases h94;exact And.intro trivial hM
   obtain ⟨rfl,u,rfl,hM⟩:=hM;cases h69;exact And.intro trivial hM
 obtain ⟨rfl,u,rfl,hM⟩:=hM;cases h44;exact And.intro trivial hM
theorem W_s_l1Below {w0:World} {F:List Nat} {N:Nat} {x0:DCur} {x1:Int} {r:Int×DCur} (h:F_s_l1Below N x0 x1=some r) {g0:Nat} {a0_0:Ad} {c0_0:Nat} (hr0_0:rdS (Bor w0 F) w0 a0_0 c0_0 x0.b) (hS:St w0 F w0 [bx g0 120 [vS a0_0 x0.b.length c0_0,vI x0.i,vI x0.h]]) :
    Ret Tryz.prog 47 #[.pointer (some ⟨g0,0,none⟩),vI x1] w0 (fun v w=>v=vI r.1∧St w0 F w [bx g0 120 [vS a0_0 x0.b.length c0_0,vI r.2.i,vI r.2.h]]):=by
 unfold F_s_l1Below at h;refine Ret.fn Tryz.func47 fun e=>?_;refine go ?_;refine cd (fun z1=>?_) fun z1=>?_
 · replace h:=bcT h z1;refine go ?_;replace h:=oi h;subst h;exact And.intro trivial ⟨_,Res.one (resOne.t rfl),rfl,hS.pick [0] rfl rfl⟩
 replace h:=bcF h z1;refine go ?_;refine cd (fun z2=>?_) fun z2=>?_
 · replace h:=bcT h z2;refine go ?_;replace ⟨y3,hy3,h⟩:=obind h;obtain ⟨F4,hL5⟩:=hS.lendI [0] [];refine LW.cl (W_s_l1Byte hy3 (hL5.rB hr0_0) hL5.st) ?_;rintro _ w6 ⟨rfl,hs⟩;have S1:=hL5.back _ _ hs;refine go ?_;replace ⟨_,hz7,h⟩:=obind h;refine LW.u (Pur.rem rfl rfl (dz_ne hz7)) rfl ?_;refine go ?_;replace h:=oi h;subst h;exact And.intro trivial ⟨_,Res.one (resOne.t rfl),rfl,S1.pick [0] rfl rfl⟩
 replace h:=bcF h z2;refine go ?_;replace ⟨y8,hy8,h⟩:=obind h;obtain ⟨F9,hL10⟩:=hS.lendI [0] [];refine LW.cl (W_s_l1Byte hy8 (hL10.rB hr0_0) hL10.st) ?_;rintro _ w11 ⟨rfl,hs⟩;have S2:=hL10.back _ _ hs;refine go ?_;replace ⟨y12,hy12,h⟩:=obind h;obtain ⟨F13,hL14⟩:=S2.lendI [0] [];refine LW.cl (W_s_l1Byte hy12 (hL14.rB hr0_0) hL14.st) ?_;rintro _ w15 ⟨rfl,hs⟩;have S3:=hL14.back _ _ hs;refine go ?_;replace ⟨y16,hy16,h⟩:=obind h;obtain ⟨F17,hL18⟩:=S3.lendI [0] [];refine LW.cl (W_s_l1Byte hy16 (hL18.rB hr0_0) hL18.st) ?_;rintro _ w19 ⟨rfl,hs⟩;have S4:=hL18.back _ _ hs;refine go ?_;replace ⟨y20,hy20,h⟩:=obind h;obtain ⟨F21,hL22⟩:=S4.lendI [0] [];refine LW.cl (W_s_l1Byte hy20 (hL22.rB hr0_0) hL22.st) ?_;rintro _ w23 ⟨rfl,hs⟩;have S5:=hL22.back _ _ hs;refine go ?_;refine LW.fl [0,34,35] fun e=>?_;replace ⟨_,hz24,h⟩:=obind h;refine LW.u (Pur.rem rfl rfl (dz_ne hz24)) rfl ?_;refine go ?_;replace h:=oi h;subst h;exact And.intro trivial ⟨_,Res.one (resOne.t rfl),rfl,S5.pick [0] rfl rfl⟩
theorem W_s_l5In {w0:World} {N:Nat} {x0:Int} {r:Bool} (h:F_s_l5In N x0=some r) :
    Ret Tryz.prog 89 #[vI x0] w0 (fun v w=>v=.bool r∧St w0 [] w []):=by
 unfold F_s_l5In at h;refine Ret.fn Tryz.func89 fun e=>?_;have S1:=St.start w0;refine go ?_;replace ⟨y1,hy1,h⟩:=obind h;refine LW.c0 (W_s_l1In hy1) S1 fun w2 S2=>?_;refine go ?_;cases h;exact fi S2
theorem W_s_LabelOk {w0:World} {N:Nat} {x0:DLabel} {r:Bool} (h:F_s_LabelOk N x0=some r) {a0_0:Ad} {n0_0 c0_0:Nat} (hn0_0:n0_0=x0.levels.length) (hr0_0:rdS (Bor w0 []) w0 a0_0 c0_0 x0.levels) :
    Ret Tryz.prog 51 #[.agg #[vS a0_0 n0_0 c0_0]] w0 (fun v w=>v=.bool r∧St w0 [] w []):=by
 subst hn0_0;unfold F_s_LabelOk at h;refine Ret.fn Tryz.func51 fun e=>?_;have S1:=St.start w0;refine go ?_;refine LW.bo S1 fun g1 w2 S2=>?_;refine go ?_;refine cd (fun z3=>?_) fun z3=>?_
 · replace h:=bcT h z3;refine go ?_;cases h;exact fi S2
 replace h:=bcF h z3;refine go ?_;obtain ⟨o19,ho19,h20⟩:=obind h;refine CW.mono (CW.lx [1] [0] [] 0 (fun s4=>[(3,vI s4)]) (RT Tryz.prog Tryz.f51.results (fun u=>.bool u) w0 []) S2 ho19 (hb:=?_)) ?_
 · intro s4 e w5 o S3 h;refine go ?_;refine cd (fun z6=>?_) fun z6=>?_
   · replace h:=bcT h z6;refine go ?_;replace ⟨y7,hy7,h⟩:=obind h;obtain ⟨b10,o11,cs12,hae,hb15,hp8,hq9,hd13,hk14⟩:=hr0_0.idx hy7;subst hae;obtain rfl:=hd13;refine LW.u (Pur.ix Tryz.underlying24 sz3 rfl rfl hp8 hq9) rfl ?_;refine LW.l (Ldr.old w0 ag3 rfl (hk14 0 _ rfl)) (S3.same _ hb15.1 hb15.2) rfl ?_;replace ⟨y16,hy16,h⟩:=obind h;refine LW.c0 (W_s_l1In hy16) S3 fun w17 S4=>?_;refine go ?_;refine CW.fl [1,3,21] fun e=>?_;refine cd (fun z18=>?_) fun z18=>?_
     · replace h:=bcT h z18;refine go ?_;cases oi h;exact ⟨trivial,rfl,_,rfl,⟨_,Res.one (resOne.t rfl),rfl,S4.pick [] rfl rfl⟩⟩
     replace h:=bcF h z18;refine go ?_;cases oi h;exact ⟨rfl,⟨⟨rfl,rfl,trivial⟩,S4.pick [0] rfl rfl⟩⟩
   replace h:=bcF h z6;refine go ?_;cases oi h;exact ⟨trivial,rfl,⟨trivial,S3.pick [0] rfl rfl⟩⟩
 intro x e w21 hM;rcases o19 with o19 | r22
 · obtain ⟨rfl,hM⟩:=hM;obtain ⟨hE,S5⟩:=hM;obtain ⟨e,rfl⟩:=hE.out;rw [show e=upds e [] from rfl];have h:=h20;refine go ?_;cases h;exact fi S5
 obtain ⟨rfl,u,rfl,hM⟩:=hM;cases h20;exact And.intro trivial hM
theorem W_s_OwnOk {w0:World} {N:Nat} {x0:List Int} {r:Bool} (h:F_s_OwnOk N x0=some r) {a0_0:Ad} {n0_0 c0_0:Nat} (hn0_0:n0_0=x0.length) (hr0_0:rdS (Bor w0 []) w0 a0_0 c0_0 x0) :
    Ret Tryz.prog 52 #[vS a0_0 n0_0 c0_0] w0 (fun v w=>v=.bool r∧St w0 [] w []):=by
 subst hn0_0;unfold F_s_OwnOk at h;refine Ret.fn Tryz.func52 fun e=>?_;have S1:=St.start w0;refine go ?_;obtain ⟨o30,ho30,h31⟩:=obind h;refine CW.mono (CW.lx [0] [] [] 0 (fun s1=>[(3,vI s1)]) (RT Tryz.prog Tryz.f52.results (fun u=>.bool u) w0 []) S1 ho30 (hb:=?_)) ?_
 · intro s1 e w2 o S2 h;refine go ?_;refine cd (fun z3=>?_) fun z3=>?_
   · replace h:=bcT h z3;refine gs ?_;refine CW.block ?_;refine gs ?_;obtain ⟨j4,hj4,h5⟩:=obind h;refine CW.jn [0,3] [] [(31,.bool j4)] S2 (h1:=?_) (h2:=?_)
     · have h:=hj4;refine CW.draw (by kernel_rfl) ?_;have S3:=S2.drew;refine go ?_;replace ⟨y6,hy6,h⟩:=obind h;obtain ⟨b9,o10,cs11,hae,hb14,hp7,hq8,hd12,hk13⟩:=hr0_0.idx hy6;subst hae;obtain rfl:=hd12;refine AW.u (i:=2) rfl (by kernel_rfl) rfl rfl (Pur.ix Tryz.underlying24 sz3 rfl rfl hp7 hq8) ?_;refine AW.take (i:=3) rfl (by kernel_rfl) rfl rfl (Ldr.old w0 ag3 rfl (hk13 0 _ rfl)) (S3.same _ hb14.1 hb14.2) ?_;replace ⟨y15,hy15,h⟩:=obind h;have q:=W_s_l1In (w0:=w2.drew) hy15;refine jO 4 ?_;refine LW.call pl56 rfl rfl ?_;refine Ret.mono q ?_;rintro _ w16 ⟨rfl,hs⟩;have S4:=S3.add hs;refine jN (jW jZ) ?_;refine go ?_;rcases bcases (!y15) with z17 | z17
       · replace h:=bcT h z17;refine go ?_;cases oi h;exact ⟨⟨rfl,rfl,rfl,trivial⟩,S4.pick [] rfl rfl⟩
       replace h:=bcF h z17;refine go ?_;rcases bcases (decide (s1 > 0)) with z18 | z18
       · replace h:=bcT h z18;refine go ?_;refine AW.u (i:=12) rfl (by kernel_rfl) (want_of rfl rfl z18) rfl (Pur.ix Tryz.underlying24 sz3 rfl rfl hp7 hq8) ?_;refine AW.take (i:=13) rfl (by kernel_rfl) (want_of rfl rfl z18) rfl (Ldr.old w0 ag3 rfl (hk13 0 _ rfl)) (S4.same _ hb14.1 hb14.2) ?_;refine go ?_;replace ⟨y19,hy19,h⟩:=obind h;obtain ⟨b22,o23,cs24,hae,hb27,hp20,hq21,hd25,hk26⟩:=hr0_0.idx hy19;cases hae;obtain rfl:=hd25;refine AW.u (i:=17) rfl (by kernel_rfl) (want_of rfl rfl z18) rfl (Pur.ix Tryz.underlying24 sz3 rfl rfl hp20 hq21) ?_;refine AW.take (i:=18) rfl (by kernel_rfl) (want_of rfl rfl z18) rfl (Ldr.old w0 ag3 rfl (hk26 0 _ rfl)) (S4.same _ hb27.1 hb27.2) ?_;refine go ?_;cases oi h;exact ⟨⟨rfl,rfl,rfl,trivial⟩,S4.pick [] rfl rfl⟩
       replace h:=bcF h z18;refine go ?_;cases oi h;exact ⟨⟨rfl,rfl,rfl,trivial⟩,S4.pick [] rfl rfl⟩
     intro e w28 S5;have h:=h5;refine go ?_;refine cd (fun z29=>?_) fun z29=>?_
     · replace h:=bcT h z29;refine go ?_;cases oi h;exact ⟨trivial,rfl,_,rfl,⟨_,Res.one (resOne.t rfl),rfl,S5.pick [] rfl rfl⟩⟩
     replace h:=bcF h z29;refine go ?_;cases oi h;exact ⟨rfl,⟨⟨rfl,rfl,trivial⟩,S5.pick [] rfl rfl⟩⟩
   replace h:=bcF h z3;refine go ?_;cases oi h;exact ⟨trivial,rfl,⟨trivial,S2.pick [] rfl rfl⟩⟩
 intro x e w32 hM;rcases o30 with o30 | r33
 · obtain ⟨rfl,hM⟩:=hM;obtain ⟨hE,S6⟩:=hM;obtain ⟨e,rfl⟩:=hE.out;rw [show e=upds e [] from rfl];have h:=h31;refine go ?_;cases h;exact fi S6
 obtain ⟨rfl,u,rfl,hM⟩:=hM;cases h31;exact And.intro trivial hM
end Go.Kx
