/- Each call returns what the plain function says. Printed by drive.py. -/
import Derived.Test.YtkgkknholfmgiaaGreatFa
import Derived.Test.YtkgkknholfmgiaaGreatPu
import Derived.Test.YtkgkknholfmgiaaGreatWa0
import Derived.Test.YtkgkknholfmgiaaGreatWa1
namespace Go.Kx
open Go Go.RowKit Go.Proofs
set_option maxRecDepth 10000
set_option maxHeartbeats 8000000
set_option linter.unusedVariables false
set_option linter.unusedSimpArgs false
theorem W_s_l10Copy {w0:World} {N:Nat} {x0:DHeap} {r:DHeap} (h:F_s_l10Copy N x0=some r) {a0_0:Ad} {n0_0 c0_0:Nat} (hn0_0:n0_0=x0.arena.length) (hr0_0:rdS (Bor w0 []) w0 a0_0 c0_0 x0.arena) {a0_4:Ad} {n0_4 c0_4:Nat} (hn0_4:n0_4=x0.gc.grey.length) (hr0_4:rdS (Bor w0 []) w0 a0_4 c0_4 x0.gc.grey) :
    Ret Tryz.prog 139 #[.agg #[vS a0_0 n0_0 c0_0,vI x0.gc.phase,vI x0.gc.pos,vI x0.gc.round,vS a0_4 n0_4 c0_4]] w0 (fun v w=>∃ ar0_0 cr0_0, ∃ ar0_4 cr0_4,v=.agg #[vS ar0_0 r.arena.length cr0_0,vI r.gc.phase,vI r.gc.pos,vI r.gc.round,vS ar0_4 r.gc.grey.length cr0_4]∧St w0 [] w [sl ar0_0 cr0_0 r.arena,sl ar0_4 cr0_4 r.gc.grey]):=by
 subst hn0_0 hn0_4;unfold F_s_l10Copy at h;refine Ret.fn Tryz.func139 fun e=>?_;have S1:=St.start w0;refine go ?_;refine LW.bo S1 fun g1 w2 S2=>?_;refine LW.al S2 fun g3 w4 S3=>?_;refine go ?_;refine LW.al S3 fun g5 w6 S4=>?_;refine LW.st S4 0 fun w7 S5=>?_;refine go ?_;refine LW.bsl (α:=Int) (vs:=[]) (cs:=#[]) (l:=([]:List Int)) rfl (by kernel_rfl) rfl rfl rfl (fun w=>rfl) S5 rfl ?_;intro a8 c9 w10 S6 hf;refine go ?_;replace ⟨y11,hy11,h⟩:=obind h;refine LW.appN (l:=([]:List Int)) (m:=x0.gc.grey) sT24 rfl rfl (S6.rB hr0_4) hy11 S6 (i:=0) rfl rfl ?_;intro a12 c13 w14 S7 hf;refine go ?_;refine LW.st S7 1 fun w15 S8=>?_;refine go ?_;refine CW.draw (by kernel_rfl) ?_;have S9:=S8.drew;refine go ?_;replace ⟨y16,hy16,h⟩:=obind h;have q:=W_s_l8Copy (w0:=w15.drew) hy16 rfl (S9.rB hr0_0);refine jO 2 ?_;refine LW.call pl175 rfl rfl ?_;refine Ret.mono q ?_;rintro _ w19 ⟨a17,c18,rfl,hs⟩;have S10:=S9.add hs;refine jN (.c (S10.ce 2) (jW jZ)) ?_;refine AW.u (i:=4) rfl (by kernel_rfl) rfl rfl (Pur.build (vs:=[(0,vS a17 y16.length c18),(1,.agg #[vI x0.gc.phase,vI x0.gc.pos,vI x0.gc.round,vS a12 y11.length c13])]) (cs:=#[vS a17 y16.length c18,vI x0.gc.phase,vI x0.gc.pos,vI x0.gc.round,vS a12 y11.length c13]) rfl (by kernel_rfl)) ?_;refine jO 5 ?_;refine LW.st S10 3 fun w20 S11=>?_;refine jN (jW (jW jZ)) ?_;refine go ?_;cases h;exact And.intro trivial ⟨_,Res.one (resOne.b S11 3 rfl ag32 rfl rfl),a17,c18,a12,c13,rfl,S11.pick [0,1] rfl rfl⟩
theorem W_s_l1Once {w0:World} {F:List Nat} {N:Nat} {x0:DCur} {x1:Int} {r:Bool×DCur} (h:F_s_l1Once N x0 x1=some r) {g0:Nat} {a0_0:Ad} {c0_0:Nat} (hr0_0:rdS (Bor w0 F) w0 a0_0 c0_0 x0.b) (hS:St w0 F w0 [bx g0 120 [vS a0_0 x0.b.length c0_0,vI x0.i,vI x0.h]]) :
    Ret Tryz.prog 45 #[.pointer (some ⟨g0,0,none⟩),vI x1] w0 (fun v w=>v=.bool r.1∧St w0 F w [bx g0 120 [vS a0_0 x0.b.length c0_0,vI r.2.i,vI r.2.h]]):=by
 unfold F_s_l1Once at h;refine Ret.fn Tryz.func45 fun e=>?_;refine go ?_;replace ⟨y1,hy1,h⟩:=obind h;obtain ⟨F2,hL3⟩:=hS.lendI [0] [];refine LW.cl (W_s_l1Below hy1 (hL3.rB hr0_0) hL3.st) ?_;rintro _ w4 ⟨rfl,hs⟩;have S1:=hL3.back _ _ hs;refine go ?_;replace h:=oi h;subst h;exact And.intro trivial ⟨_,Res.one (resOne.t rfl),rfl,S1.pick [0] rfl rfl⟩
theorem W_s_HandleOf {w0:World} {N:Nat} {x0:Int} {x1:Int} {x2:Int} {r:Int} (h:F_s_HandleOf N x0 x1 x2=some r) :
    Ret Tryz.prog 125 #[vI x0,vI x1,vI x2] w0 (fun v w=>v=vI r∧St w0 [] w []):=by
 unfold F_s_HandleOf at h;refine Ret.fn Tryz.func125 fun e=>?_;have S1:=St.start w0;refine gs ?_;refine CW.region ?_;refine gs ?_;obtain ⟨j1,hj1,h2⟩:=obind h;refine CW.jn [0,1,2] [] [(19,.bool j1)] S1 (h1:=?_) (h2:=?_)
 · have h:=hj1;refine go ?_;replace ⟨y3,hy3,h⟩:=obind h;refine LW.c0 (W_s_l1In hy3) S1 fun w4 S2=>?_;refine go ?_;rcases bcases (!y3) with z5 | z5
   · replace h:=bcT h z5;refine go ?_;cases oi h;exact ⟨⟨rfl,rfl,rfl,rfl,trivial⟩,S2.pick [] rfl rfl⟩
   replace h:=bcF h z5;refine go ?_;replace ⟨y6,hy6,h⟩:=obind h;refine go ?_;refine LW.c0 (W_s_l8Slot hy6) S2 fun w7 S3=>?_;refine go ?_;rcases bcases (!y6) with z8 | z8
   · replace h:=bcT h z8;refine go ?_;cases oi h;exact ⟨⟨rfl,rfl,rfl,rfl,trivial⟩,S3.pick [] rfl rfl⟩
   replace h:=bcF h z8;refine go ?_;replace ⟨y9,hy9,h⟩:=obind h;refine go ?_;refine LW.c0 (W_s_l1In hy9) S3 fun w10 S4=>?_;refine go ?_;cases oi h;exact ⟨⟨rfl,rfl,rfl,rfl,trivial⟩,S4.pick [] rfl rfl⟩
 intro e w11 S5;have h:=h2;refine go ?_;refine cd (fun z12=>?_) fun z12=>?_
 · replace h:=bcT h z12;refine go ?_;cases h;exact fi S5
 replace h:=bcF h z12;refine go ?_;cases h;exact fi S5
theorem W_s_l1PickInt {w0:World} {F:List Nat} {N:Nat} {x0:DCur} {x1:List Int} {r:Int×DCur} (h:F_s_l1PickInt N x0 x1=some r) {g0:Nat} {a0_0:Ad} {c0_0:Nat} (hr0_0:rdS (Bor w0 F) w0 a0_0 c0_0 x0.b) {a1_0:Ad} {n1_0 c1_0:Nat} (hn1_0:n1_0=x1.length) (hr1_0:rdS (Bor w0 F) w0 a1_0 c1_0 x1) (hS:St w0 F w0 [bx g0 120 [vS a0_0 x0.b.length c0_0,vI x0.i,vI x0.h]]) :
    Ret Tryz.prog 83 #[.pointer (some ⟨g0,0,none⟩),vS a1_0 n1_0 c1_0] w0 (fun v w=>v=vI r.1∧St w0 F w [bx g0 120 [vS a0_0 x0.b.length c0_0,vI r.2.i,vI r.2.h]]):=by
 subst hn1_0;unfold F_s_l1PickInt at h;refine Ret.fn Tryz.func83 fun e=>?_;refine go ?_;replace ⟨y1,hy1,h⟩:=obind h;obtain ⟨F2,hL3⟩:=hS.lendI [0] [];refine LW.cl (W_s_l1Below hy1 (hL3.rB hr0_0) hL3.st) ?_;rintro _ w4 ⟨rfl,hs⟩;have S1:=hL3.back _ _ hs;replace ⟨y5,hy5,h⟩:=obind h;obtain ⟨b8,o9,cs10,hae,hb13,hp6,hq7,hd11,hk12⟩:=hr1_0.idx hy5;subst hae;obtain rfl:=hd11;refine LW.u (Pur.ix Tryz.underlying24 sz3 rfl rfl hp6 hq7) rfl ?_;refine LW.l (Ldr.old w0 ag3 rfl (hk12 0 _ rfl)) (S1.same _ hb13.1 hb13.2) rfl ?_;refine go ?_;replace h:=oi h;subst h;exact And.intro trivial ⟨_,Res.one (resOne.t rfl),rfl,S1.pick [0] rfl rfl⟩
theorem W_s_TapOk {w0:World} {N:Nat} {x0:DTap} {r:Bool} (h:F_s_TapOk N x0=some r) :
    Ret Tryz.prog 57 #[.agg #[vI x0.res,vI x0.toPart,vI x0.toRes,vI x0.which,vI x0.kind,vI x0.rate]] w0 (fun v w=>v=.bool r∧St w0 [] w []):=by
 unfold F_s_TapOk at h;refine Ret.fn Tryz.func57 fun e=>?_;have S1:=St.start w0;refine go ?_;refine LW.bo S1 fun g1 w2 S2=>?_;refine gs ?_;obtain ⟨j3,hj3,h4⟩:=obind h;refine CW.jn [1] [0] [(24,.bool j3)] S2 (h1:=?_) (h2:=?_)
 · have h:=hj3;refine go ?_;replace ⟨y5,hy5,h⟩:=obind h;refine LW.c0 (W_s_l6Res hy5) S2 fun w6 S3=>?_;refine go ?_;rcases bcases (!y5) with z7 | z7
   · replace h:=bcT h z7;refine go ?_;cases oi h;exact ⟨⟨rfl,rfl,trivial⟩,S3.pick [0] rfl rfl⟩
   replace h:=bcF h z7;refine go ?_;replace ⟨y8,hy8,h⟩:=obind h;refine go ?_;refine LW.c0 (W_s_l1In hy8) S3 fun w9 S4=>?_;refine go ?_;rcases bcases (!y8) with z10 | z10
   · replace h:=bcT h z10;refine go ?_;cases oi h;exact ⟨⟨rfl,rfl,trivial⟩,S4.pick [0] rfl rfl⟩
   replace h:=bcF h z10;refine go ?_;replace ⟨y11,hy11,h⟩:=obind h;refine go ?_;refine LW.c0 (W_s_l6Res hy11) S4 fun w12 S5=>?_;refine go ?_;rcases bcases (!y11) with z13 | z13
   · replace h:=bcT h z13;refine go ?_;cases oi h;exact ⟨⟨rfl,rfl,trivial⟩,S5.pick [0] rfl rfl⟩
   replace h:=bcF h z13;refine go ?_;replace ⟨y14,hy14,h⟩:=obind h;refine go ?_;refine LW.c0 (W_s_l1In hy14) S5 fun w15 S6=>?_;refine go ?_;cases oi h;exact ⟨⟨rfl,rfl,trivial⟩,S6.pick [0] rfl rfl⟩
 intro e w16 S7;have h:=h4;refine go ?_;refine cd (fun z17=>?_) fun z17=>?_
 · replace h:=bcT h z17;refine go ?_;cases h;exact fi S7
 replace h:=bcF h z17;refine go ?_;refine cd (fun z18=>?_) fun z18=>?_
 · replace h:=bcT h z18;refine go ?_;replace ⟨y19,hy19,h⟩:=obind h;refine LW.c0 (W_s_l1In hy19) S7 fun w20 S8=>?_;refine go ?_;cases h;exact fi S8
 replace h:=bcF h z18;refine go ?_;refine cd (fun z21=>?_) fun z21=>?_
 · replace h:=bcT h z21;refine go ?_;replace ⟨y22,hy22,h⟩:=obind h;refine LW.c0 (W_s_l1In hy22) S7 fun w23 S9=>?_;refine go ?_;cases h;exact fi S9
 replace h:=bcF h z21;refine go ?_;cases h;exact fi S7
theorem W_s_HandlePart {w0:World} {N:Nat} {x0:Int} {r:Int} (h:F_s_HandlePart N x0=some r) :
    Ret Tryz.prog 73 #[vI x0] w0 (fun v w=>v=vI r∧St w0 [] w []):=by
 unfold F_s_HandlePart at h;refine Ret.fn Tryz.func73 fun e=>?_;have S1:=St.start w0;refine go ?_;replace ⟨y1,hy1,h⟩:=obind h;refine LW.c0 (W_s_l8Handle hy1) S1 fun w2 S2=>?_;refine go ?_;refine cd (fun z3=>?_) fun z3=>?_
 · replace h:=bcT h z3;refine go ?_;cases h;exact fi S2
 replace h:=bcF h z3;refine go ?_;refine LW.u (Pur.rem rfl rfl (by decide)) rfl ?_;refine go ?_;cases h;exact fi S2
theorem W_s_HandleSlot {w0:World} {N:Nat} {x0:Int} {r:Int} (h:F_s_HandleSlot N x0=some r) :
    Ret Tryz.prog 74 #[vI x0] w0 (fun v w=>v=vI r∧St w0 [] w []):=by
 unfold F_s_HandleSlot at h;refine Ret.fn Tryz.func74 fun e=>?_;have S1:=St.start w0;refine go ?_;replace ⟨y1,hy1,h⟩:=obind h;refine LW.c0 (W_s_l8Handle hy1) S1 fun w2 S2=>?_;refine go ?_;refine cd (fun z3=>?_) fun z3=>?_
 · replace h:=bcT h z3;refine go ?_;cases h;exact fi S2
 replace h:=bcF h z3;refine go ?_;refine LW.u (Pur.quo rfl rfl (by decide)) rfl ?_;refine LW.u (Pur.rem rfl rfl (by decide)) rfl ?_;refine go ?_;cases h;exact fi S2
theorem W_s_HandleGen {w0:World} {N:Nat} {x0:Int} {r:Int} (h:F_s_HandleGen N x0=some r) :
    Ret Tryz.prog 75 #[vI x0] w0 (fun v w=>v=vI r∧St w0 [] w []):=by
 unfold F_s_HandleGen at h;refine Ret.fn Tryz.func75 fun e=>?_;have S1:=St.start w0;refine go ?_;replace ⟨y1,hy1,h⟩:=obind h;refine LW.c0 (W_s_l8Handle hy1) S1 fun w2 S2=>?_;refine go ?_;refine cd (fun z3=>?_) fun z3=>?_
 · replace h:=bcT h z3;refine go ?_;cases h;exact fi S2
 replace h:=bcF h z3;refine go ?_;refine LW.u (Pur.quo rfl rfl (by decide)) rfl ?_;refine LW.u (Pur.quo rfl rfl (by decide)) rfl ?_;refine go ?_;cases h;exact fi S2
theorem W_s_l5Amt {w0:World} {F:List Nat} {N:Nat} {x0:DCur} {r:DAmt×DCur} (h:F_s_l5Amt N x0=some r) {g0:Nat} {a0_0:Ad} {c0_0:Nat} (hr0_0:rdS (Bor w0 F) w0 a0_0 c0_0 x0.b) (hS:St w0 F w0 [bx g0 120 [vS a0_0 x0.b.length c0_0,vI x0.i,vI x0.h]]) :
    Ret Tryz.prog 159 #[.pointer (some ⟨g0,0,none⟩)] w0 (fun v w=>v=.agg #[vI r.1.pages,vI r.1.rent,vI r.1.cpu]∧St w0 F w [bx g0 120 [vS a0_0 x0.b.length c0_0,vI r.2.i,vI r.2.h]]):=by
 unfold F_s_l5Amt at h;refine Ret.fn Tryz.func159 fun e=>?_;refine go ?_;refine LW.al hS fun g1 w2 S1=>?_;refine go ?_;replace ⟨y3,hy3,h⟩:=obind h;obtain ⟨F4,hL5⟩:=S1.lendI [1] [0];refine LW.cl (W_s_l1Below hy3 (hL5.rB hr0_0) hL5.st) ?_;rintro _ w6 ⟨rfl,hs⟩;have S2:=hL5.back _ _ hs;refine go ?_;replace ⟨y7,hy7,h⟩:=obind h;obtain ⟨F8,hL9⟩:=S2.lendI [0] [1];refine LW.cl (W_s_l1Below hy7 (hL9.rB hr0_0) hL9.st) ?_;rintro _ w10 ⟨rfl,hs⟩;have S3:=hL9.back _ _ hs;refine go ?_;replace ⟨y11,hy11,h⟩:=obind h;obtain ⟨F12,hL13⟩:=S3.lendI [0] [1];refine LW.cl (W_s_l1Below hy11 (hL13.rB hr0_0) hL13.st) ?_;rintro _ w14 ⟨rfl,hs⟩;have S4:=hL13.back _ _ hs;refine LW.u (Pur.build (vs:=[(0,vI y3.1),(1,vI y7.1),(2,vI y11.1)]) (cs:=#[vI y3.1,vI y7.1,vI y11.1]) rfl (by kernel_rfl)) rfl ?_;refine LW.st S4 1 fun w15 S5=>?_;refine go ?_;replace h:=oi h;subst h;exact And.intro trivial ⟨_,Res.one (resOne.b S5 1 rfl ag35 rfl rfl),rfl,S5.pick [0] rfl rfl⟩
theorem W_i_copyArena {w0:World} {N:Nat} {x0:List DObj} {r:(List DObj)} (h:F_i_copyArena N x0=some r) {a0_0:Ad} {n0_0 c0_0:Nat} (hn0_0:n0_0=x0.length) (hr0_0:rdS (Bor w0 []) w0 a0_0 c0_0 x0) :
    Ret Tryz.prog 162 #[vS a0_0 n0_0 c0_0] w0 (fun v w=>∃ ar0 cr0,v=vS ar0 r.length cr0∧St w0 [] w [sl ar0 cr0 r]):=by
 subst hn0_0;unfold F_i_copyArena at h;refine Ret.fn Tryz.func162 fun e=>?_;have S1:=St.start w0;refine go ?_;refine LW.bsl (α:=DObj) (vs:=[]) (cs:=#[]) (l:=([]:List DObj)) rfl (by kernel_rfl) rfl rfl rfl (fun w=>rfl) S1 rfl ?_;intro a1 c2 w3 S2 hf;refine go ?_;obtain ⟨o41,ho41,h42⟩:=obind h;refine CW.ie ho41 0 (fun s4 e wb=>∃ (s4a0:Ad) (s4c0:Nat),En e [(3,vS s4a0 s4.1.length s4c0),(7,vS a0_0 x0.length c0_0),(8,vI (x0.length:Int)),(9,vI s4.2)]∧St w0 [] wb [sl s4a0 s4c0 s4.1]) ?_ ⟨a1,c2,⟨rfl,rfl,rfl,rfl,trivial⟩,S2.pick [0] rfl rfl⟩ ?_
 · intro s4 e w5 o hM h;obtain ⟨s4a0,s4c0,hE,S3⟩:=hM;obtain ⟨e,rfl⟩:=hE.out;refine go ?_;refine cd (fun z6=>?_) fun z6=>?_
   · replace h:=bcT h z6;refine go ?_;replace ⟨y7,hy7,h⟩:=obind h;obtain ⟨b10,o11,cs12,hae,hb15,hp8,hq9,hd13,hk14⟩:=hr0_0.idx hy7;subst hae;obtain ⟨a16,c17,a19,c20,a22,c23,rfl,hr18,hr21,hr24⟩:=hd13;refine LW.u (Pur.ix Tryz.underlying28 sz50 rfl rfl hp8 hq9) rfl ?_;refine LW.l (Ldr.oldN w0 ag50 rfl rfl (fun j u hu=>hk14 j u hu)) (S3.same _ hb15.1 hb15.2) rfl ?_;refine LW.al S3 fun g25 w26 S4=>?_;refine LW.st S4 0 fun w27 S5=>?_;refine go ?_;replace ⟨y28,hy28,h⟩:=obind h;refine LW.cl (W_i_copyObj hy28 rfl (S5.rB hr18) rfl (S5.rB hr21) rfl (S5.rB hr24)) ?_;rintro _ w35 ⟨a29,c30,a31,c32,a33,c34,rfl,hs⟩;have S6:=S5.add hs;have S7:=S6.pick (M:=[sl a29 c30 y28.links,sl a31 c32 y28.data,sl a33 c34 y28.queue]++[bx g25 50 [vI y7.gen,vI y7.kind,vI y7.box,vI y7.res,vI y7.til,vI y7.pages,vI y7.wait,vI y7.got,vI y7.ran,.bool y7.mark,vS a16 y7.links.length c17,vS a19 y7.data.length c20,vS a22 y7.queue.length c23],sl s4a0 s4c0 s4.1]) [0,1,2,3,4] rfl rfl;replace ⟨y36,hy36,h⟩:=obind h;refine LW.app1 (M:=[sl a29 c30 y28.links,sl a31 c32 y28.data,sl a33 c34 y28.queue]) (L:=[bx g25 50 [vI y7.gen,vI y7.kind,vI y7.box,vI y7.res,vI y7.til,vI y7.pages,vI y7.wait,vI y7.got,vI y7.ran,.bool y7.mark,vS a16 y7.links.length c17,vS a19 y7.data.length c20,vS a22 y7.queue.length c23],sl s4a0 s4c0 s4.1]) (vs:=#[vI y28.gen,vI y28.kind,vI y28.box,vI y28.res,vI y28.til,vI y28.pages,vI y28.wait,vI y28.got,vI y28.ran,.bool y28.mark,vS a29 y28.links.length c30,vS a31 y28.data.length c32,vS a33 y28.queue.length c34]) (i:=1) sT28 rfl (by kernel_rfl) rfl rfl hy36 S7 rfl (fun w G hG=>⟨a29,c30,a31,c32,a33,c34,rfl,hG⟩) rfl rfl ?_;intro v39 a37 c38 w40 S8 hf;refine go ?_;cases oi h;exact ⟨rfl,⟨a37,c38,⟨rfl,rfl,rfl,rfl,trivial⟩,S8.pick [1] rfl rfl⟩⟩
   replace h:=bcF h z6;refine go ?_;cases oi h;exact ⟨trivial,rfl,⟨s4a0,s4c0,⟨rfl,rfl,rfl,rfl,trivial⟩,S3.pick [0] rfl rfl⟩⟩
 rintro e w43 ⟨s4a0,s4c0,hE,S9⟩;obtain ⟨e,rfl⟩:=hE.out;have h:=h42;refine go ?_;cases h;exact And.intro trivial ⟨_,Res.one (resOne.t rfl),s4a0,s4c0,rfl,S9.pick [0] rfl rfl⟩
theorem W_i_TapOk {w0:World} {N:Nat} {x0:DTap} {r:Bool} (h:F_i_TapOk N x0=some r) :
    Ret Tryz.prog 110 #[.agg #[vI x0.res,vI x0.toPart,vI x0.toRes,vI x0.which,vI x0.kind,vI x0.rate]] w0 (fun v w=>v=.bool r∧St w0 [] w []):=by
 unfold F_i_TapOk at h;refine Ret.fn Tryz.func110 fun e=>?_;have S1:=St.start w0;refine go ?_;refine LW.bo S1 fun g1 w2 S2=>?_;refine gs ?_;obtain ⟨j3,hj3,h4⟩:=obind h;refine CW.jn [1] [0] [(24,.bool j3)] S2 (h1:=?_) (h2:=?_)
 · have h:=hj3;refine go ?_;replace ⟨y5,hy5,h⟩:=obind h;refine LW.c0 (W_i_isPlace hy5) S2 fun w6 S3=>?_;refine go ?_;rcases bcases (!y5) with z7 | z7
   · replace h:=bcT h z7;refine go ?_;cases oi h;exact ⟨⟨rfl,rfl,trivial⟩,S3.pick [0] rfl rfl⟩
   replace h:=bcF h z7;refine go ?_;replace ⟨y8,hy8,h⟩:=obind h;refine go ?_;refine LW.c0 (W_i_isPlace hy8) S3 fun w9 S4=>?_;refine go ?_;rcases bcases (!y8) with z10 | z10
   · replace h:=bcT h z10;refine go ?_;cases oi h;exact ⟨⟨rfl,rfl,trivial⟩,S4.pick [0] rfl rfl⟩
   replace h:=bcF h z10;refine go ?_;replace ⟨y11,hy11,h⟩:=obind h;refine go ?_;refine LW.c0 (W_i_isPart hy11) S4 fun w12 S5=>?_;refine go ?_;rcases bcases (!y11) with z13 | z13
   · replace h:=bcT h z13;refine go ?_;cases oi h;exact ⟨⟨rfl,rfl,trivial⟩,S5.pick [0] rfl rfl⟩
   replace h:=bcF h z13;refine go ?_;replace ⟨y14,hy14,h⟩:=obind h;refine go ?_;refine LW.c0 (W_i_within hy14) S5 fun w15 S6=>?_;refine go ?_;cases oi h;exact ⟨⟨rfl,rfl,trivial⟩,S6.pick [0] rfl rfl⟩
 intro e w16 S7;have h:=h4;refine go ?_;refine cd (fun z17=>?_) fun z17=>?_
 · replace h:=bcT h z17;refine go ?_;cases h;exact fi S7
 replace h:=bcF h z17;refine go ?_;rcases bcases (x0.kind==1) with z18 | z18
 · replace h:=bcT h z18;refine go ?_;replace ⟨y19,hy19,h⟩:=obind h;refine go ?_;refine LW.c0 (W_i_within hy19) S7 fun w20 S8=>?_;refine go ?_;rcases bcases y19 with z21 | z21
   · replace h:=bcT h z21;refine go ?_;cases h;exact fi S8
   replace h:=bcF h z21;refine go ?_;rcases bcases (x0.kind==2) with z22 | z22
   · replace h:=bcT h z22;refine go ?_;replace ⟨y23,hy23,h⟩:=obind h;refine go ?_;refine LW.c0 (W_i_within hy23) S8 fun w24 S9=>?_;refine go ?_;cases h;exact fi S9
   replace h:=bcF h z22;refine go ?_;cases h;exact fi S8
 replace h:=bcF h z18;refine go ?_;rcases bcases (x0.kind==2) with z25 | z25
 · replace h:=bcT h z25;refine go ?_;replace ⟨y26,hy26,h⟩:=obind h;refine go ?_;refine LW.c0 (W_i_within hy26) S7 fun w27 S10=>?_;refine go ?_;cases h;exact fi S10
 replace h:=bcF h z25;refine go ?_;cases h;exact fi S7
theorem W_i_AmtOk {w0:World} {N:Nat} {x0:DAmt} {r:Bool} (h:F_i_AmtOk N x0=some r) :
    Ret Tryz.prog 116 #[.agg #[vI x0.pages,vI x0.rent,vI x0.cpu]] w0 (fun v w=>v=.bool r∧St w0 [] w []):=by
 unfold F_i_AmtOk at h;refine Ret.fn Tryz.func116 fun e=>?_;have S1:=St.start w0;refine go ?_;refine LW.bo S1 fun g1 w2 S2=>?_;refine go ?_;replace ⟨y3,hy3,h⟩:=obind h;refine LW.c0 (W_i_isAmount hy3) S2 fun w4 S3=>?_;refine go ?_;rcases bcases y3 with z5 | z5
 · replace h:=bcT h z5;refine go ?_;replace ⟨y6,hy6,h⟩:=obind h;refine go ?_;refine LW.c0 (W_i_isAmount hy6) S3 fun w7 S4=>?_;refine go ?_;rcases bcases y6 with z8 | z8
   · replace h:=bcT h z8;refine go ?_;replace ⟨y9,hy9,h⟩:=obind h;refine go ?_;refine LW.c0 (W_i_isAmount hy9) S4 fun w10 S5=>?_;refine go ?_;cases h;exact fi S5
   replace h:=bcF h z8;refine go ?_;cases h;exact fi S4
 replace h:=bcF h z5;refine go ?_;cases h;exact fi S3
theorem W_i_isLive {w0:World} {N:Nat} {x0:List DRes} {x1:Int} {r:Bool} (h:F_i_isLive N x0 x1=some r) {a0_0:Ad} {n0_0 c0_0:Nat} (hn0_0:n0_0=x0.length) (hr0_0:rdS (Bor w0 []) w0 a0_0 c0_0 x0) :
    Ret Tryz.prog 131 #[vS a0_0 n0_0 c0_0,vI x1] w0 (fun v w=>v=.bool r∧St w0 [] w []):=by
 subst hn0_0;unfold F_i_isLive at h;refine Ret.fn Tryz.func131 fun e=>?_;have S1:=St.start w0;refine go ?_;replace ⟨y1,hy1,h⟩:=obind h;refine LW.c0 (W_i_isPlace hy1) S1 fun w2 S2=>?_;refine go ?_;rcases bcases y1 with z3 | z3
 · replace h:=bcT h z3;refine go ?_;replace ⟨y4,hy4,h⟩:=obind h;obtain ⟨b7,o8,cs9,hae,hb12,hp5,hq6,hd10,hk11⟩:=hr0_0.idx hy4;subst hae;obtain rfl:=hd10;refine go ?_;refine LW.u (Pur.ix Tryz.underlying27 sz47 rfl rfl hp5 hq6) rfl ?_;refine go ?_;refine LW.l (Ldr.old w0 ag4 rfl (hk11 0 _ rfl)) (S2.same _ hb12.1 hb12.2) rfl ?_;refine go ?_;cases h;exact fi S2
 replace h:=bcF h z3;refine go ?_;cases h;exact fi S2
theorem W_i_listsOk {w0:World} {N:Nat} {x0:DObj} {r:Bool} (h:F_i_listsOk N x0=some r) {a0_10:Ad} {n0_10 c0_10:Nat} (hn0_10:n0_10=x0.links.length) (hr0_10:rdS (Bor w0 []) w0 a0_10 c0_10 x0.links) {a0_11:Ad} {n0_11 c0_11:Nat} (hn0_11:n0_11=x0.data.length) (hr0_11:rdS (Bor w0 []) w0 a0_11 c0_11 x0.data) {a0_12:Ad} {n0_12 c0_12:Nat} (hn0_12:n0_12=x0.queue.length) (hr0_12:rdS (Bor w0 []) w0 a0_12 c0_12 x0.queue) :
    Ret Tryz.prog 198 #[.agg #[vI x0.gen,vI x0.kind,vI x0.box,vI x0.res,vI x0.til,vI x0.pages,vI x0.wait,vI x0.got,vI x0.ran,.bool x0.mark,vS a0_10 n0_10 c0_10,vS a0_11 n0_11 c0_11,vS a0_12 n0_12 c0_12]] w0 (fun v w=>v=.bool r∧St w0 [] w []):=by
 subst hn0_10 hn0_11 hn0_12;unfold F_i_listsOk at h;refine Ret.fn Tryz.func198 fun e=>?_;have S1:=St.start w0;refine go ?_;refine LW.bo S1 fun g1 w2 S2=>?_;refine go ?_;obtain ⟨o18,ho18,h19⟩:=obind h;refine CW.mono (CW.lx [1,12,13] [0] [1] 0 (fun s3=>[(14,vI s3)]) (RT Tryz.prog Tryz.f198.results (fun u=>.bool u) w0 []) S2 ho18 (hb:=?_)) ?_
 · intro s3 e w4 o S3 h;refine go ?_;refine cd (fun z5=>?_) fun z5=>?_
   · replace h:=bcT h z5;refine go ?_;replace ⟨y6,hy6,h⟩:=obind h;obtain ⟨b9,o10,cs11,hae,hb14,hp7,hq8,hd12,hk13⟩:=hr0_10.idx hy6;subst hae;obtain rfl:=hd12;refine LW.u (Pur.ix Tryz.underlying24 sz3 rfl rfl hp7 hq8) rfl ?_;refine LW.l (Ldr.old w0 ag3 rfl (hk13 0 _ rfl)) (S3.same _ hb14.1 hb14.2) rfl ?_;refine go ?_;replace ⟨y15,hy15,h⟩:=obind h;refine LW.c0 (W_i_within hy15) S3 fun w16 S4=>?_;refine go ?_;refine CW.fl [1,12,13,14,20] fun e=>?_;refine cd (fun z17=>?_) fun z17=>?_
     · replace h:=bcT h z17;refine go ?_;cases oi h;exact ⟨trivial,rfl,_,rfl,⟨_,Res.one (resOne.t rfl),rfl,S4.pick [] rfl rfl⟩⟩
     replace h:=bcF h z17;refine go ?_;cases oi h;exact ⟨rfl,⟨⟨rfl,rfl,rfl,rfl,trivial⟩,S4.pick [0] rfl rfl⟩⟩
   replace h:=bcF h z5;refine go ?_;cases oi h;exact ⟨trivial,rfl,⟨⟨rfl,trivial⟩,S3.pick [0] rfl rfl⟩⟩
 intro x e w20 hM;rcases o18 with o18 | r81
 · obtain ⟨rfl,hM⟩:=hM;obtain ⟨hE,S5⟩:=hM;obtain ⟨e,rfl⟩:=hE.out;have h:=h19;refine go ?_;obtain ⟨o36,ho36,h37⟩:=obind h;refine CW.mono (CW.lx [1,23,24] [0] [1] 2 (fun s21=>[(25,vI s21)]) (RT Tryz.prog Tryz.f198.results (fun u=>.bool u) w0 []) S5 ho36 (hb:=?_)) ?_
   · intro s21 e w22 o S6 h;refine go ?_;refine cd (fun z23=>?_) fun z23=>?_
     · replace h:=bcT h z23;refine go ?_;replace ⟨y24,hy24,h⟩:=obind h;obtain ⟨b27,o28,cs29,hae,hb32,hp25,hq26,hd30,hk31⟩:=hr0_11.idx hy24;subst hae;obtain rfl:=hd30;refine LW.u (Pur.ix Tryz.underlying24 sz3 rfl rfl hp25 hq26) rfl ?_;refine LW.l (Ldr.old w0 ag3 rfl (hk31 0 _ rfl)) (S6.same _ hb32.1 hb32.2) rfl ?_;refine go ?_;replace ⟨y33,hy33,h⟩:=obind h;refine LW.c0 (W_i_within hy33) S6 fun w34 S7=>?_;refine go ?_;refine CW.fl [1,23,24,25,31] fun e=>?_;refine cd (fun z35=>?_) fun z35=>?_
       · replace h:=bcT h z35;refine go ?_;cases oi h;exact ⟨trivial,rfl,_,rfl,⟨_,Res.one (resOne.t rfl),rfl,S7.pick [] rfl rfl⟩⟩
       replace h:=bcF h z35;refine go ?_;cases oi h;exact ⟨rfl,⟨⟨rfl,rfl,rfl,rfl,trivial⟩,S7.pick [0] rfl rfl⟩⟩
     replace h:=bcF h z23;refine go ?_;cases oi h;exact ⟨trivial,rfl,⟨⟨rfl,trivial⟩,S6.pick [0] rfl rfl⟩⟩
   intro x e w38 hM;rcases o36 with o36 | r80
   · obtain ⟨rfl,hM⟩:=hM;obtain ⟨hE,S8⟩:=hM;obtain ⟨e,rfl⟩:=hE.out;have h:=h37;refine go ?_;obtain ⟨o66,ho66,h67⟩:=obind h;refine CW.mono (CW.lx [1,34,35] [0] [1] 4 (fun s39=>[(36,vI s39)]) (RT Tryz.prog Tryz.f198.results (fun u=>.bool u) w0 []) S8 ho66 (hb:=?_)) ?_
     · intro s39 e w40 o S9 h;refine go ?_;refine CW.fl [1,34,35,36,37] fun e=>?_;refine cd (fun z41=>?_) fun z41=>?_
       · replace h:=bcT h z41;refine go ?_;replace ⟨y42,hy42,h⟩:=obind h;obtain ⟨b45,o46,cs47,hae,hb50,hp43,hq44,hd48,hk49⟩:=hr0_12.idx hy42;subst hae;obtain rfl:=hd48;refine LW.u (Pur.ix Tryz.underlying48 sz152 rfl rfl hp43 hq44) rfl ?_;refine LW.l (Ldr.oldN w0 ag152 rfl rfl (fun j u hu=>hk49 j u hu)) (S9.same _ hb50.1 hb50.2) rfl ?_;refine LW.al S9 fun g51 w52 S10=>?_;refine LW.st S10 0 fun w53 S11=>?_;refine gs ?_;obtain ⟨j54,hj54,h55⟩:=obind h;refine CW.jn [1,34,35,36] [1] [(54,.bool j54)] S11 (h1:=?_) (h2:=?_)
         · have h:=hj54;refine go ?_;rcases bcases (y42.src != (-1)) with z56 | z56
           · replace h:=bcT h z56;refine go ?_;replace ⟨y57,hy57,h⟩:=obind h;refine go ?_;refine LW.c0 (W_i_isHandle hy57) S11 fun w58 S12=>?_;refine go ?_;rcases bcases (!y57) with z59 | z59
             · replace h:=bcT h z59;refine go ?_;cases oi h;exact ⟨⟨rfl,rfl,rfl,rfl,rfl,trivial⟩,S12.pick [1] rfl rfl⟩
             replace h:=bcF h z59;refine go ?_;replace ⟨y60,hy60,h⟩:=obind h;refine go ?_;refine LW.c0 (W_i_within hy60) S12 fun w61 S13=>?_;refine go ?_;cases oi h;exact ⟨⟨rfl,rfl,rfl,rfl,rfl,trivial⟩,S13.pick [1] rfl rfl⟩
           replace h:=bcF h z56;refine go ?_;replace ⟨y62,hy62,h⟩:=obind h;refine go ?_;refine LW.c0 (W_i_within hy62) S11 fun w63 S14=>?_;refine go ?_;cases oi h;exact ⟨⟨rfl,rfl,rfl,rfl,rfl,trivial⟩,S14.pick [1] rfl rfl⟩
         intro e w64 S15;have h:=h55;refine go ?_;refine cd (fun z65=>?_) fun z65=>?_
         · replace h:=bcT h z65;refine go ?_;cases oi h;exact ⟨trivial,rfl,_,rfl,⟨_,Res.one (resOne.t rfl),rfl,S15.pick [] rfl rfl⟩⟩
         replace h:=bcF h z65;refine go ?_;cases oi h;exact ⟨rfl,⟨⟨rfl,rfl,rfl,rfl,trivial⟩,S15.pick [0] rfl rfl⟩⟩
       replace h:=bcF h z41;refine go ?_;cases oi h;exact ⟨trivial,rfl,⟨⟨rfl,trivial⟩,S9.pick [0] rfl rfl⟩⟩
     intro x e w68 hM;rcases o66 with o66 | r79
     · obtain ⟨rfl,hM⟩:=hM;obtain ⟨hE,S16⟩:=hM;obtain ⟨e,rfl⟩:=hE.out;have h:=h67;refine gs ?_;refine CW.region ?_;refine gs ?_;refine CW.region ?_;refine gs ?_;obtain ⟨j69,hj69,h70⟩:=obind h;refine CW.jn [1,10] [0] [(9,vI j69)] S16 (h1:=?_) (h2:=?_)
       · have h:=hj69;refine CW.fl [1,9,10,58] fun e=>?_;refine cd (fun z71=>?_) fun z71=>?_
         · replace h:=bcT h z71;refine go ?_;cases oi h;exact ⟨⟨rfl,rfl,rfl,trivial⟩,S16.pick [0] rfl rfl⟩
         replace h:=bcF h z71;refine go ?_;cases oi h;exact ⟨⟨rfl,rfl,rfl,trivial⟩,S16.pick [0] rfl rfl⟩
       intro e w72 S17;have h:=h70;refine gs ?_;refine CW.region ?_;refine gs ?_;obtain ⟨j73,hj73,h74⟩:=obind h;refine CW.jn [1,9] [0] [(10,vI j73)] S17 (h1:=?_) (h2:=?_)
       · have h:=hj73;refine CW.fl [1,9,10,63] fun e=>?_;refine cd (fun z75=>?_) fun z75=>?_
         · replace h:=bcT h z75;refine go ?_;cases oi h;exact ⟨⟨rfl,rfl,rfl,trivial⟩,S17.pick [0] rfl rfl⟩
         replace h:=bcF h z75;refine go ?_;cases oi h;exact ⟨⟨rfl,rfl,rfl,trivial⟩,S17.pick [0] rfl rfl⟩
       intro e w76 S18;have h:=h74;refine go ?_;refine LW.fl [1,9,10,68] fun e=>?_;rcases bcases ((x0.links.length:Int)==2) with z77 | z77
       · replace h:=bcT h z77;refine go ?_;rcases bcases ((x0.data.length:Int)==j69) with z78 | z78
         · replace h:=bcT h z78;refine go ?_;cases h;exact fi S18
         replace h:=bcF h z78;refine go ?_;cases h;exact fi S18
       replace h:=bcF h z77;refine go ?_;cases h;exact fi S18
     obtain ⟨rfl,u,rfl,hM⟩:=hM;cases h67;exact And.intro trivial hM
   obtain ⟨rfl,u,rfl,hM⟩:=hM;cases h37;exact And.intro trivial hM
 obtain ⟨rfl,u,rfl,hM⟩:=hM;cases h19;exact And.intro trivial hM
theorem W_i_edgesOf {w0:World} {N:Nat} {x0:List DObj} {x1:Int} {r:(List Int)} (h:F_i_edgesOf N x0 x1=some r) {a0_0:Ad} {n0_0 c0_0:Nat} (hn0_0:n0_0=x0.length) (hr0_0:rdS (Bor w0 []) w0 a0_0 c0_0 x0) :
    Ret Tryz.prog 135 #[vS a0_0 n0_0 c0_0,vI x1] w0 (fun v w=>∃ ar0 cr0,v=vS ar0 r.length cr0∧St w0 [] w [sl ar0 cr0 r]):=by
 subst hn0_0;unfold F_i_edgesOf at h;refine Ret.fn Tryz.func135 fun e=>?_;have S1:=St.start w0;refine go ?_;refine LW.bsl (α:=Int) (vs:=[]) (cs:=#[]) (l:=([]:List Int)) rfl (by kernel_rfl) rfl rfl rfl (fun w=>rfl) S1 rfl ?_;intro a1 c2 w3 S2 hf;refine go ?_;obtain ⟨o82,ho82,h83⟩:=obind h;refine CW.ie ho82 0 (fun s4 e wb=>∃ (s4a0:Ad) (s4c0:Nat),En e [(0,vS a0_0 x0.length c0_0),(1,vI x1),(5,vS s4a0 s4.1.length s4c0),(10,vS a0_0 x0.length c0_0),(11,vI (x0.length:Int)),(12,vI s4.2)]∧St w0 [] wb [sl s4a0 s4c0 s4.1]) ?_ ⟨a1,c2,⟨rfl,rfl,rfl,rfl,rfl,rfl,trivial⟩,S2.pick [0] rfl rfl⟩ ?_
 · intro s4 e w5 o hM h;obtain ⟨s4a0,s4c0,hE,S3⟩:=hM;obtain ⟨e,rfl⟩:=hE.out;refine go ?_;refine cd (fun z6=>?_) fun z6=>?_
   · replace h:=bcT h z6;refine go ?_;replace ⟨y7,hy7,h⟩:=obind h;obtain ⟨b10,o11,cs12,hae,hb15,hp8,hq9,hd13,hk14⟩:=hr0_0.idx hy7;subst hae;obtain ⟨a16,c17,a19,c20,a22,c23,rfl,hr18,hr21,hr24⟩:=hd13;refine LW.u (Pur.ix Tryz.underlying28 sz50 rfl rfl hp8 hq9) rfl ?_;refine LW.l (Ldr.oldN w0 ag50 rfl rfl (fun j u hu=>hk14 j u hu)) (S3.same _ hb15.1 hb15.2) rfl ?_;refine LW.al S3 fun g25 w26 S4=>?_;refine go ?_;refine LW.st S4 0 fun w27 S5=>?_;refine gs ?_;obtain ⟨j28,hj28,h29⟩:=obind h;refine CW.jn [0,1,5,6,10,11,12] [1] [(8,.bool j28)] S5 (h1:=?_) (h2:=?_)
     · have h:=hj28;refine go ?_;rcases bcases (decide (s4.2 > 0)) with z30 | z30
       · replace h:=bcT h z30;refine go ?_;rcases bcases (y7.kind != 0) with z31 | z31
         · replace h:=bcT h z31;refine go ?_;refine LW.fl [0,1,5,6,10,11,12,30] fun e=>?_;rcases bcases (y7.box==x1) with z32 | z32
           · replace h:=bcT h z32;refine go ?_;replace ⟨y33,hy33,h⟩:=obind h;obtain ⟨b36,o37,cs38,hae,hb41,hp34,hq35,hd39,hk40⟩:=hr0_0.idx hy33;cases hae;obtain ⟨a42,c43,a45,c46,a48,c49,rfl,hr44,hr47,hr50⟩:=hd39;refine go ?_;refine LW.u (Pur.ix Tryz.underlying28 sz50 rfl rfl hp34 hq35) rfl ?_;refine go ?_;refine LW.l (Ldr.old w0 ag3 rfl (hk40 1 _ rfl)) (S5.same _ hb41.1 hb41.2) rfl ?_;refine go ?_;cases oi h;exact ⟨⟨rfl,rfl,rfl,rfl,rfl,rfl,rfl,rfl,trivial⟩,S5.pick [1] rfl rfl⟩
           replace h:=bcF h z32;refine go ?_;cases oi h;exact ⟨⟨rfl,rfl,rfl,rfl,rfl,rfl,rfl,rfl,trivial⟩,S5.pick [1] rfl rfl⟩
         replace h:=bcF h z31;refine go ?_;cases oi h;exact ⟨⟨rfl,rfl,rfl,rfl,rfl,rfl,rfl,rfl,trivial⟩,S5.pick [1] rfl rfl⟩
       replace h:=bcF h z30;refine go ?_;cases oi h;exact ⟨⟨rfl,rfl,rfl,rfl,rfl,rfl,rfl,rfl,trivial⟩,S5.pick [1] rfl rfl⟩
     intro e w51 S6;have h:=h29;refine gs ?_;obtain ⟨j52,hj52,h53⟩:=obind h;refine CW.jn [0,1,5,6,10,11,12] [0] [(47,.bool j52)] S6 (h1:=?_) (h2:=?_)
     · have h:=hj52;refine go ?_;rcases bcases j28 with z54 | z54
       · replace h:=bcT h z54;refine go ?_;cases oi h;exact ⟨⟨rfl,rfl,rfl,rfl,rfl,rfl,rfl,rfl,trivial⟩,S6.pick [0] rfl rfl⟩
       replace h:=bcF h z54;refine go ?_;replace ⟨y55,hy55,h⟩:=obind h;obtain ⟨b58,o59,cs60,hae,hb63,hp56,hq57,hd61,hk62⟩:=hr0_0.idx hy55;cases hae;obtain ⟨a64,c65,a67,c68,a70,c71,rfl,hr66,hr69,hr72⟩:=hd61;refine go ?_;refine LW.u (Pur.ix Tryz.underlying28 sz50 rfl rfl hp56 hq57) rfl ?_;refine go ?_;refine LW.l (Ldr.old w0 ag24 rfl (hk62 10 _ rfl)) (S6.same _ hb63.1 hb63.2) rfl ?_;refine go ?_;replace ⟨y73,hy73,h⟩:=obind h;refine go ?_;refine LW.c0 (W_z_Contains_int hy73 rfl (S6.rB hr66)) S6 fun w74 S7=>?_;refine go ?_;cases oi h;exact ⟨⟨rfl,rfl,rfl,rfl,rfl,rfl,rfl,rfl,trivial⟩,S7.pick [0] rfl rfl⟩
     intro e w75 S8;have h:=h53;refine go ?_;refine CW.fl [0,1,5,6,10,11,12,47] fun e=>?_;refine cd (fun z76=>?_) fun z76=>?_
     · replace h:=bcT h z76;refine go ?_;replace ⟨y77,hy77,h⟩:=obind h;refine LW.app1 (M:=[]) (L:=[sl s4a0 s4c0 s4.1]) (vs:=#[vI s4.2]) (i:=0) sT24 rfl (by kernel_rfl) rfl rfl hy77 S8 rfl (fun w G hG=>by cases (show G=[] from hG);exact ⟨rfl,rfl⟩) rfl rfl ?_;intro v80 a78 c79 w81 S9 hf;refine go ?_;cases oi h;exact ⟨rfl,⟨a78,c79,⟨rfl,rfl,rfl,rfl,rfl,rfl,trivial⟩,S9.pick [0] rfl rfl⟩⟩
     replace h:=bcF h z76;refine go ?_;cases oi h;exact ⟨rfl,⟨s4a0,s4c0,⟨rfl,rfl,rfl,rfl,rfl,rfl,trivial⟩,S8.pick [0] rfl rfl⟩⟩
   replace h:=bcF h z6;refine go ?_;cases oi h;exact ⟨trivial,rfl,⟨s4a0,s4c0,⟨rfl,rfl,rfl,rfl,rfl,rfl,trivial⟩,S3.pick [0] rfl rfl⟩⟩
 rintro e w84 ⟨s4a0,s4c0,hE,S10⟩;obtain ⟨e,rfl⟩:=hE.out;have h:=h83;refine go ?_;cases h;exact And.intro trivial ⟨_,Res.one (resOne.t rfl),s4a0,s4c0,rfl,S10.pick [0] rfl rfl⟩
theorem W_s_SamePart {w0:World} {N:Nat} {x0:DPart} {x1:DPart} {r:Bool} (h:F_s_SamePart N x0 x1=some r) {a0_0:Ad} {n0_0 c0_0:Nat} (hn0_0:n0_0=x0.label.levels.length) (hr0_0:rdS (Bor w0 []) w0 a0_0 c0_0 x0.label.levels) {a0_1:Ad} {n0_1 c0_1:Nat} (hn0_1:n0_1=x0.own.length) (hr0_1:rdS (Bor w0 []) w0 a0_1 c0_1 x0.own) {a0_2:Ad} {n0_2 c0_2:Nat} (hn0_2:n0_2=x0.tree.length) (hr0_2:rdS (Bor w0 []) w0 a0_2 c0_2 x0.tree) {a0_3:Ad} {n0_3 c0_3:Nat} (hn0_3:n0_3=x0.heap.arena.length) (hr0_3:rdS (Bor w0 []) w0 a0_3 c0_3 x0.heap.arena) {a0_7:Ad} {n0_7 c0_7:Nat} (hn0_7:n0_7=x0.heap.gc.grey.length) (hr0_7:rdS (Bor w0 []) w0 a0_7 c0_7 x0.heap.gc.grey) {a0_8:Ad} {n0_8 c0_8:Nat} (hn0_8:n0_8=x0.taps.length) (hr0_8:rdS (Bor w0 []) w0 a0_8 c0_8 x0.taps) {a1_0:Ad} {n1_0 c1_0:Nat} (hn1_0:n1_0=x1.label.levels.length) (hr1_0:rdS (Bor w0 []) w0 a1_0 c1_0 x1.label.levels) {a1_1:Ad} {n1_1 c1_1:Nat} (hn1_1:n1_1=x1.own.length) (hr1_1:rdS (Bor w0 []) w0 a1_1 c1_1 x1.own) {a1_2:Ad} {n1_2 c1_2:Nat} (hn1_2:n1_2=x1.tree.length) (hr1_2:rdS (Bor w0 []) w0 a1_2 c1_2 x1.tree) {a1_3:Ad} {n1_3 c1_3:Nat} (hn1_3:n1_3=x1.heap.arena.length) (hr1_3:rdS (Bor w0 []) w0 a1_3 c1_3 x1.heap.arena) {a1_7:Ad} {n1_7 c1_7:Nat} (hn1_7:n1_7=x1.heap.gc.grey.length) (hr1_7:rdS (Bor w0 []) w0 a1_7 c1_7 x1.heap.gc.grey) {a1_8:Ad} {n1_8 c1_8:Nat} (hn1_8:n1_8=x1.taps.length) (hr1_8:rdS (Bor w0 []) w0 a1_8 c1_8 x1.taps) :
    Ret Tryz.prog 13 #[.agg #[vS a0_0 n0_0 c0_0,vS a0_1 n0_1 c0_1,vS a0_2 n0_2 c0_2,vS a0_3 n0_3 c0_3,vI x0.heap.gc.phase,vI x0.heap.gc.pos,vI x0.heap.gc.round,vS a0_7 n0_7 c0_7,vS a0_8 n0_8 c0_8,vI x0.next,vI x0.want,vI x0.spent.pages,vI x0.spent.rent,vI x0.spent.cpu,vI x0.press,vI x0.lost],.agg #[vS a1_0 n1_0 c1_0,vS a1_1 n1_1 c1_1,vS a1_2 n1_2 c1_2,vS a1_3 n1_3 c1_3,vI x1.heap.gc.phase,vI x1.heap.gc.pos,vI x1.heap.gc.round,vS a1_7 n1_7 c1_7,vS a1_8 n1_8 c1_8,vI x1.next,vI x1.want,vI x1.spent.pages,vI x1.spent.rent,vI x1.spent.cpu,vI x1.press,vI x1.lost]] w0 (fun v w=>v=.bool r∧St w0 [] w []):=by
 subst hn0_0 hn0_1 hn0_2 hn0_3 hn0_7 hn0_8 hn1_0 hn1_1 hn1_2 hn1_3 hn1_7 hn1_8;unfold F_s_SamePart at h;refine Ret.fn Tryz.func13 fun e=>?_;have S1:=St.start w0;refine go ?_;refine LW.bo S1 fun g1 w2 S2=>?_;refine LW.bo S2 fun g3 w4 S3=>?_;refine gs ?_;obtain ⟨j5,hj5,h6⟩:=obind h;refine CW.jn [2,3] [0,1] [(75,.bool j5)] S3 (h1:=?_) (h2:=?_)
 · have h:=hj5;refine go ?_;replace ⟨y7,hy7,h⟩:=obind h;refine LW.c0 (W_s_SameLabel hy7 rfl (S3.rB hr0_0) rfl (S3.rB hr1_0)) S3 fun w8 S4=>?_;refine go ?_;rcases bcases (!y7) with z9 | z9
   · replace h:=bcT h z9;refine go ?_;cases oi h;exact ⟨⟨rfl,rfl,rfl,trivial⟩,S4.pick [0,1] rfl rfl⟩
   replace h:=bcF h z9;refine go ?_;replace ⟨y10,hy10,h⟩:=obind h;refine go ?_;refine LW.c0 (W_s_l13Ints hy10 rfl (S4.rB hr0_1) rfl (S4.rB hr1_1)) S4 fun w11 S5=>?_;refine go ?_;rcases bcases (!y10) with z12 | z12
   · replace h:=bcT h z12;refine go ?_;cases oi h;exact ⟨⟨rfl,rfl,rfl,trivial⟩,S5.pick [0,1] rfl rfl⟩
   replace h:=bcF h z12;refine go ?_;refine LW.fl [2,3,32] fun e=>?_;rcases bcases ((x0.tree.length:Int) != (x1.tree.length:Int)) with z13 | z13
   · replace h:=bcT h z13;refine go ?_;cases oi h;exact ⟨⟨rfl,rfl,rfl,trivial⟩,S5.pick [0,1] rfl rfl⟩
   replace h:=bcF h z13;refine go ?_;rcases bcases ((x0.taps.length:Int) != (x1.taps.length:Int)) with z14 | z14
   · replace h:=bcT h z14;refine go ?_;cases oi h;exact ⟨⟨rfl,rfl,rfl,trivial⟩,S5.pick [0,1] rfl rfl⟩
   replace h:=bcF h z14;refine go ?_;rcases bcases (x0.next != x1.next) with z15 | z15
   · replace h:=bcT h z15;refine go ?_;cases oi h;exact ⟨⟨rfl,rfl,rfl,trivial⟩,S5.pick [0,1] rfl rfl⟩
   replace h:=bcF h z15;refine go ?_;refine LW.fl [2,3,55] fun e=>?_;rcases bcases (x0.want != x1.want) with z16 | z16
   · replace h:=bcT h z16;refine go ?_;cases oi h;exact ⟨⟨rfl,rfl,rfl,trivial⟩,S5.pick [0,1] rfl rfl⟩
   replace h:=bcF h z16;refine go ?_;refine LW.u (Pur.ane eg35 rfl rfl (fun w=>eq35 x0.spent x1.spent w)) rfl ?_;refine go ?_;rcases bcases (!decide (x0.spent=x1.spent)) with z17 | z17
   · replace h:=bcT h z17;refine go ?_;cases oi h;exact ⟨⟨rfl,rfl,rfl,trivial⟩,S5.pick [0,1] rfl rfl⟩
   replace h:=bcF h z17;refine go ?_;rcases bcases (x0.press != x1.press) with z18 | z18
   · replace h:=bcT h z18;refine go ?_;cases oi h;exact ⟨⟨rfl,rfl,rfl,trivial⟩,S5.pick [0,1] rfl rfl⟩
   replace h:=bcF h z18;refine go ?_;cases oi h;exact ⟨⟨rfl,rfl,rfl,trivial⟩,S5.pick [0,1] rfl rfl⟩
 intro e w19 S6;have h:=h6;refine go ?_;refine cd (fun z20=>?_) fun z20=>?_
 · replace h:=bcT h z20;refine go ?_;cases h;exact fi S6
 replace h:=bcF h z20;refine go ?_;obtain ⟨o43,ho43,h44⟩:=obind h;refine CW.mono (CW.lx [2,3] [0,1] [2,3] 0 (fun s21=>[(5,vI s21)]) (RT Tryz.prog Tryz.f13.results (fun u=>.bool u) w0 []) S6 ho43 (hb:=?_)) ?_
 · intro s21 e w22 o S7 h;refine go ?_;refine cd (fun z23=>?_) fun z23=>?_
   · replace h:=bcT h z23;refine go ?_;refine CW.draw (by kernel_rfl) ?_;have S8:=S7.drew;refine go ?_;replace ⟨y24,hy24,h⟩:=obind h;obtain ⟨b27,o28,cs29,hae,hb32,hp25,hq26,hd30,hk31⟩:=hr0_2.idx hy24;subst hae;obtain rfl:=hd30;refine AW.u (i:=3) rfl (by kernel_rfl) rfl rfl (Pur.ix Tryz.underlying27 sz47 rfl rfl hp25 hq26) ?_;refine AW.take (i:=4) rfl (by kernel_rfl) rfl rfl (Ldr.oldN w0 ag47 rfl rfl (fun j u hu=>hk31 j u hu)) (S8.same _ hb32.1 hb32.2) ?_;refine go ?_;replace ⟨y33,hy33,h⟩:=obind h;obtain ⟨b36,o37,cs38,hae,hb41,hp34,hq35,hd39,hk40⟩:=hr1_2.idx hy33;subst hae;obtain rfl:=hd39;refine AW.u (i:=8) rfl (by kernel_rfl) rfl rfl (Pur.ix Tryz.underlying27 sz47 rfl rfl hp34 hq35) ?_;refine AW.take (i:=9) rfl (by kernel_rfl) rfl rfl (Ldr.oldN w0 ag47 rfl rfl (fun j u hu=>hk40 j u hu)) (S8.same _ hb41.1 hb41.2) ?_;refine AW.u (i:=10) rfl (by kernel_rfl) rfl rfl (Pur.ane eg47 rfl rfl (fun w=>eq47 y24 y33 w)) ?_;refine go ?_;refine cd (fun z42=>?_) fun z42=>?_
     · replace h:=bcT h z42;refine go ?_;cases oi h;exact ⟨trivial,rfl,_,rfl,⟨_,Res.one (resOne.t rfl),rfl,S8.pick [] rfl rfl⟩⟩
     replace h:=bcF h z42;refine go ?_;cases oi h;exact ⟨rfl,⟨⟨rfl,rfl,rfl,trivial⟩,S8.pick [0,1] rfl rfl⟩⟩
   replace h:=bcF h z23;refine go ?_;cases oi h;exact ⟨trivial,rfl,⟨⟨rfl,rfl,trivial⟩,S7.pick [0,1] rfl rfl⟩⟩
 intro x e w45 hM;rcases o43 with o43 | r86
 · obtain ⟨rfl,hM⟩:=hM;obtain ⟨hE,S9⟩:=hM;obtain ⟨e,rfl⟩:=hE.out;have h:=h44;refine go ?_;obtain ⟨o68,ho68,h69⟩:=obind h;refine CW.mono (CW.lx [2,3] [0,1] [2,3] 2 (fun s46=>[(6,vI s46)]) (RT Tryz.prog Tryz.f13.results (fun u=>.bool u) w0 []) S9 ho68 (hb:=?_)) ?_
   · intro s46 e w47 o S10 h;refine go ?_;refine cd (fun z48=>?_) fun z48=>?_
     · replace h:=bcT h z48;refine go ?_;refine CW.draw (by kernel_rfl) ?_;have S11:=S10.drew;refine go ?_;replace ⟨y49,hy49,h⟩:=obind h;obtain ⟨b52,o53,cs54,hae,hb57,hp50,hq51,hd55,hk56⟩:=hr0_8.idx hy49;subst hae;obtain rfl:=hd55;refine AW.u (i:=3) rfl (by kernel_rfl) rfl rfl (Pur.ix Tryz.underlying33 sz95 rfl rfl hp50 hq51) ?_;refine AW.take (i:=4) rfl (by kernel_rfl) rfl rfl (Ldr.oldN w0 ag95 rfl rfl (fun j u hu=>hk56 j u hu)) (S11.same _ hb57.1 hb57.2) ?_;refine go ?_;replace ⟨y58,hy58,h⟩:=obind h;obtain ⟨b61,o62,cs63,hae,hb66,hp59,hq60,hd64,hk65⟩:=hr1_8.idx hy58;subst hae;obtain rfl:=hd64;refine AW.u (i:=8) rfl (by kernel_rfl) rfl rfl (Pur.ix Tryz.underlying33 sz95 rfl rfl hp59 hq60) ?_;refine AW.take (i:=9) rfl (by kernel_rfl) rfl rfl (Ldr.oldN w0 ag95 rfl rfl (fun j u hu=>hk65 j u hu)) (S11.same _ hb66.1 hb66.2) ?_;refine AW.u (i:=10) rfl (by kernel_rfl) rfl rfl (Pur.ane eg95 rfl rfl (fun w=>eq95 y49 y58 w)) ?_;refine go ?_;refine cd (fun z67=>?_) fun z67=>?_
       · replace h:=bcT h z67;refine go ?_;cases oi h;exact ⟨trivial,rfl,_,rfl,⟨_,Res.one (resOne.t rfl),rfl,S11.pick [] rfl rfl⟩⟩
       replace h:=bcF h z67;refine go ?_;cases oi h;exact ⟨rfl,⟨⟨rfl,rfl,rfl,trivial⟩,S11.pick [0,1] rfl rfl⟩⟩
     replace h:=bcF h z48;refine go ?_;cases oi h;exact ⟨trivial,rfl,⟨⟨rfl,rfl,trivial⟩,S10.pick [0,1] rfl rfl⟩⟩
   intro x e w70 hM;rcases o68 with o68 | r85
   · obtain ⟨rfl,hM⟩:=hM;obtain ⟨hE,S12⟩:=hM;obtain ⟨e,rfl⟩:=hE.out;have h:=h69;refine go ?_;refine LW.al S12 fun g71 w72 S13=>?_;refine LW.st S13 0 fun w73 S14=>?_;refine go ?_;refine LW.al S14 fun g74 w75 S15=>?_;refine LW.st S15 0 fun w76 S16=>?_;refine go ?_;replace ⟨y77,hy77,h⟩:=obind h;refine LW.c0 (W_s_SameArena hy77 rfl (S16.rB hr0_3) rfl (S16.rB hr1_3)) S16 fun w78 S17=>?_;refine go ?_;rcases bcases y77 with z79 | z79
     · replace h:=bcT h z79;refine go ?_;refine LW.fl [7,8,132] fun e=>?_;rcases bcases (x0.heap.gc.phase==x1.heap.gc.phase) with z80 | z80
       · replace h:=bcT h z80;refine go ?_;rcases bcases (x0.heap.gc.pos==x1.heap.gc.pos) with z81 | z81
         · replace h:=bcT h z81;refine go ?_;rcases bcases (x0.heap.gc.round==x1.heap.gc.round) with z82 | z82
           · replace h:=bcT h z82;refine go ?_;replace ⟨y83,hy83,h⟩:=obind h;refine go ?_;refine LW.c0 (W_s_l13Ints hy83 rfl (S17.rB hr0_7) rfl (S17.rB hr1_7)) S17 fun w84 S18=>?_;refine go ?_;cases h;exact fi S18
           replace h:=bcF h z82;refine go ?_;cases h;exact fi S17
         replace h:=bcF h z81;refine go ?_;cases h;exact fi S17
       replace h:=bcF h z80;refine go ?_;cases h;exact fi S17
     replace h:=bcF h z79;refine go ?_;cases h;exact fi S17
   obtain ⟨rfl,u,rfl,hM⟩:=hM;cases h69;exact And.intro trivial hM
 obtain ⟨rfl,u,rfl,hM⟩:=hM;cases h44;exact And.intro trivial hM
theorem W_s_l13Boot {w0:World} {F:List Nat} {N:Nat} {x0:DCur} {r:DBoot×DCur} (h:F_s_l13Boot N x0=some r) {g0:Nat} {a0_0:Ad} {c0_0:Nat} (hr0_0:rdS (Bor w0 F) w0 a0_0 c0_0 x0.b) (hS:St w0 F w0 [bx g0 120 [vS a0_0 x0.b.length c0_0,vI x0.i,vI x0.h]]) :
    Ret Tryz.prog 95 #[.pointer (some ⟨g0,0,none⟩)] w0 (fun v w=>∃ ar0_0 cr0_0, ∃ ar0_1 cr0_1,v=.agg #[vS ar0_0 r.1.label.levels.length cr0_0,vS ar0_1 r.1.own.length cr0_1,vI r.1.amt.pages,vI r.1.amt.rent,vI r.1.amt.cpu]∧St w0 F w [sl ar0_0 cr0_0 r.1.label.levels,sl ar0_1 cr0_1 r.1.own,bx g0 120 [vS a0_0 x0.b.length c0_0,vI r.2.i,vI r.2.h]]):=by
 unfold F_s_l13Boot at h;refine Ret.fn Tryz.func95 fun e=>?_;refine go ?_;refine LW.al hS fun g1 w2 S1=>?_;refine go ?_;replace ⟨y3,hy3,h⟩:=obind h;obtain ⟨F4,hL5⟩:=S1.lendI [1] [0];refine LW.cl (W_s_l3Label hy3 (hL5.rB hr0_0) hL5.st) ?_;rintro _ w8 ⟨a6,c7,rfl,hs⟩;have S2:=hL5.back _ _ hs;refine go ?_;replace ⟨y9,hy9,h⟩:=obind h;obtain ⟨F10,hL11⟩:=S2.lendI [1] [0,2];refine LW.cl (W_s_l1Below hy9 (hL11.rB hr0_0) hL11.st) ?_;rintro _ w12 ⟨rfl,hs⟩;have S3:=hL11.back _ _ hs;refine go ?_;replace ⟨y13,hy13,h⟩:=obind h;obtain ⟨F14,hL15⟩:=S3.lendI [0] [1,2];refine LW.cl (W_s_l1Below hy13 (hL15.rB hr0_0) hL15.st) ?_;rintro _ w16 ⟨rfl,hs⟩;have S4:=hL15.back _ _ hs;refine go ?_;replace ⟨y17,hy17,h⟩:=obind h;obtain ⟨F18,hL19⟩:=S4.lendI [0] [1,2];refine LW.cl (W_s_l1Below hy17 (hL19.rB hr0_0) hL19.st) ?_;rintro _ w20 ⟨rfl,hs⟩;have S5:=hL19.back _ _ hs;refine LW.u (Pur.build (vs:=[(0,vI y9.1),(1,vI y13.1),(2,vI y17.1)]) (cs:=#[vI y9.1,vI y13.1,vI y17.1]) rfl (by kernel_rfl)) rfl ?_;refine LW.u (Pur.build (vs:=[(0,.agg #[vS a6 y3.1.levels.length c7]),(2,.agg #[vI y9.1,vI y13.1,vI y17.1])]) (cs:=#[vS a6 y3.1.levels.length c7,vS none 0 0,vI y9.1,vI y13.1,vI y17.1]) rfl (by kernel_rfl)) rfl ?_;refine LW.st S5 2 fun w21 S6=>?_;refine go ?_;replace h:=oi h;subst h;have S7:=S6.nil (α:=Int);exact And.intro trivial ⟨_,Res.one (resOne.b S7 3 rfl ag104 rfl rfl),a6,c7,none,0,rfl,S7.pick [2,0,1] rfl rfl⟩
theorem W_s_TreeNew {w0:World} {N:Nat} {x0:DAmt} {r:(List DRes)×Bool} (h:F_s_TreeNew N x0=some r) :
    Ret Tryz.prog 142 #[.agg #[vI x0.pages,vI x0.rent,vI x0.cpu]] w0 (fun v w=>∃ ar0 cr0,v=.tuple #[vS ar0 r.1.length cr0,.bool r.2]∧St w0 [] w [sl ar0 cr0 r.1]):=by
 unfold F_s_TreeNew at h;refine Ret.fn Tryz.func142 fun e=>?_;have S1:=St.start w0;refine go ?_;refine LW.bo S1 fun g1 w2 S2=>?_;refine go ?_;replace ⟨y3,hy3,h⟩:=obind h;refine LW.c0 (W_s_AmtOk hy3) S2 fun w4 S3=>?_;refine go ?_;refine cd (fun z5=>?_) fun z5=>?_
 · replace h:=bcT h z5;refine go ?_;refine LW.bsl (α:=DRes) (vs:=[]) (cs:=#[]) (l:=([]:List DRes)) rfl (by kernel_rfl) rfl rfl rfl (fun w=>rfl) S3 rfl ?_;intro a6 c7 w8 S4 hf;refine go ?_;cases h;exact And.intro trivial ⟨_,Res.two (resOne.t rfl) (resOne.t rfl),a6,c7,rfl,S4.pick [0] rfl rfl⟩
 replace h:=bcF h z5;refine go ?_;replace ⟨y9,hy9,h⟩:=obind h;refine LW.mk sT27 rfl rfl hy9 S3 rfl ?_;intro a10 c11 w12 S5 hf;refine go ?_;refine LW.u (Pur.build (vs:=[(0,.bool true),(1,vI (-1)),(2,.agg #[vI x0.pages,vI x0.rent,vI x0.cpu])]) (cs:=#[.bool true,vI (-1),vI x0.pages,vI x0.rent,vI x0.cpu]) rfl (by kernel_rfl)) rfl ?_;replace ⟨y13,hy13,h⟩:=obind h;obtain ⟨b16,o17,hae,hp14,hq15⟩:=S5.ownIdx (α:=DRes) (i:=0) rfl hy13;subst hae;refine LW.u (Pur.ix Tryz.underlying27 sz47 rfl rfl hp14 hq15) rfl ?_;replace ⟨y18,hy18,h⟩:=obind h;refine LW.se 0 S5 0 hy13 hy18 (hM:=whF) fun w20 S6=>?_;refine go ?_;replace h:=oi h;subst h;exact And.intro trivial ⟨_,Res.two (resOne.t rfl) (resOne.t rfl),(some ⟨b16,o17,none⟩),c11,(show (.tuple #[vS (some ⟨b16,o17,none⟩) y9.length c11,.bool true]:Value)=.tuple #[vS (some ⟨b16,o17,none⟩) y18.length c11,.bool true] by rw [show y9.length=y18.length from (len_set (oi hy18))]),S6.pick [0] rfl rfl⟩
theorem W_s_ArenaOk {w0:World} {N:Nat} {x0:List DObj} {r:Bool} (h:F_s_ArenaOk N x0=some r) {a0_0:Ad} {n0_0 c0_0:Nat} (hn0_0:n0_0=x0.length) (hr0_0:rdS (Bor w0 []) w0 a0_0 c0_0 x0) :
    Ret Tryz.prog 71 #[vS a0_0 n0_0 c0_0] w0 (fun v w=>v=.bool r∧St w0 [] w []):=by
 subst hn0_0;unfold F_s_ArenaOk at h;refine Ret.fn Tryz.func71 fun e=>?_;have S1:=St.start w0;refine gs ?_;refine CW.region ?_;refine gs ?_;obtain ⟨j1,hj1,h2⟩:=obind h;refine CW.jn [0] [] [(29,.bool j1)] S1 (h1:=?_) (h2:=?_)
 · have h:=hj1;refine go ?_;rcases bcases ((x0.length:Int) != 10) with z3 | z3
   · replace h:=bcT h z3;refine go ?_;cases oi h;exact ⟨⟨rfl,rfl,trivial⟩,S1.pick [] rfl rfl⟩
   replace h:=bcF h z3;refine go ?_;replace ⟨y4,hy4,h⟩:=obind h;obtain ⟨b7,o8,cs9,hae,hb12,hp5,hq6,hd10,hk11⟩:=hr0_0.idx hy4;subst hae;obtain ⟨a13,c14,a16,c17,a19,c20,rfl,hr15,hr18,hr21⟩:=hd10;refine go ?_;refine LW.u (Pur.ix Tryz.underlying28 sz50 rfl rfl hp5 hq6) rfl ?_;refine go ?_;refine LW.l (Ldr.old w0 ag3 rfl (hk11 1 _ rfl)) (S1.same _ hb12.1 hb12.2) rfl ?_;refine go ?_;rcases bcases (y4.kind != 1) with z22 | z22
   · replace h:=bcT h z22;refine go ?_;cases oi h;exact ⟨⟨rfl,rfl,trivial⟩,S1.pick [] rfl rfl⟩
   replace h:=bcF h z22;refine go ?_;refine LW.u (Pur.ix Tryz.underlying28 sz50 rfl rfl hp5 hq6) rfl ?_;refine go ?_;refine LW.l (Ldr.old w0 ag3 rfl (hk11 2 _ rfl)) (S1.same _ hb12.1 hb12.2) rfl ?_;refine go ?_;rcases bcases (y4.box != (-1)) with z23 | z23
   · replace h:=bcT h z23;refine go ?_;cases oi h;exact ⟨⟨rfl,rfl,trivial⟩,S1.pick [] rfl rfl⟩
   replace h:=bcF h z23;refine go ?_;refine LW.u (Pur.ix Tryz.underlying28 sz50 rfl rfl hp5 hq6) rfl ?_;refine go ?_;refine LW.fl [0,23,26] fun e=>?_;refine go ?_;refine LW.l (Ldr.old w0 ag3 rfl (hk11 4 _ rfl)) (S1.same _ hb12.1 hb12.2) rfl ?_;refine go ?_;cases oi h;exact ⟨⟨rfl,rfl,trivial⟩,S1.pick [] rfl rfl⟩
 intro e w24 S2;have h:=h2;refine go ?_;refine cd (fun z25=>?_) fun z25=>?_
 · replace h:=bcT h z25;refine go ?_;cases h;exact fi S2
 replace h:=bcF h z25;refine go ?_;obtain ⟨o132,ho132,h133⟩:=obind h;refine CW.mono (CW.lx [0] [] [] 0 (fun s26=>[(3,vI s26)]) (RT Tryz.prog Tryz.f71.results (fun u=>.bool u) w0 []) S2 ho132 (hb:=?_)) ?_
 · intro s26 e w27 o S3 h;refine go ?_;refine cd (fun z28=>?_) fun z28=>?_
   · replace h:=bcT h z28;refine gs ?_;refine CW.block ?_;refine gs ?_;obtain ⟨j29,hj29,h30⟩:=obind h;refine CW.jn [0,3] [] [(73,.bool j29)] S3 (h1:=?_) (h2:=?_)
     · have h:=hj29;refine go ?_;replace ⟨y31,hy31,h⟩:=obind h;obtain ⟨b34,o35,cs36,hae,hb39,hp32,hq33,hd37,hk38⟩:=hr0_0.idx hy31;subst hae;obtain ⟨a40,c41,a43,c44,a46,c47,rfl,hr42,hr45,hr48⟩:=hd37;refine LW.u (Pur.ix Tryz.underlying28 sz50 rfl rfl hp32 hq33) rfl ?_;refine LW.l (Ldr.oldN w0 ag50 rfl rfl (fun j u hu=>hk38 j u hu)) (S3.same _ hb39.1 hb39.2) rfl ?_;replace ⟨y49,hy49,h⟩:=obind h;refine LW.c0 (W_s_ObjOk hy49 rfl (S3.rB hr42) rfl (S3.rB hr45) rfl (S3.rB hr48)) S3 fun w50 S4=>?_;refine go ?_;rcases bcases (!y49) with z51 | z51
       · replace h:=bcT h z51;refine go ?_;cases oi h;exact ⟨⟨rfl,rfl,rfl,trivial⟩,S4.pick [] rfl rfl⟩
       replace h:=bcF h z51;refine go ?_;refine LW.u (Pur.ix Tryz.underlying28 sz50 rfl rfl hp32 hq33) rfl ?_;refine go ?_;refine LW.l (Ldr.old w0 ag3 rfl (hk38 1 _ rfl)) (S4.same _ hb39.1 hb39.2) rfl ?_;refine go ?_;rcases bcases (y31.kind != 0) with z52 | z52
       · replace h:=bcT h z52;refine go ?_;refine LW.fl [0,3,42,53] fun e=>?_;rcases bcases (decide (s26 > 0)) with z53 | z53
         · replace h:=bcT h z53;refine go ?_;refine LW.u (Pur.ix Tryz.underlying28 sz50 rfl rfl hp32 hq33) rfl ?_;refine go ?_;refine LW.l (Ldr.old w0 ag3 rfl (hk38 2 _ rfl)) (S4.same _ hb39.1 hb39.2) rfl ?_;refine go ?_;rcases bcases (decide (y31.box ≥ 0)) with z54 | z54
           · replace h:=bcT h z54;refine go ?_;refine LW.u (Pur.ix Tryz.underlying28 sz50 rfl rfl hp32 hq33) rfl ?_;refine go ?_;refine LW.l (Ldr.old w0 ag3 rfl (hk38 2 _ rfl)) (S4.same _ hb39.1 hb39.2) rfl ?_;replace ⟨y55,hy55,h⟩:=obind h;obtain ⟨b58,o59,cs60,hae,hb63,hp56,hq57,hd61,hk62⟩:=hr0_0.idx hy55;cases hae;obtain ⟨a64,c65,a67,c68,a70,c71,rfl,hr66,hr69,hr72⟩:=hd61;refine go ?_;refine LW.u (Pur.ix Tryz.underlying28 sz50 rfl rfl hp56 hq57) rfl ?_;refine go ?_;refine LW.l (Ldr.old w0 ag3 rfl (hk62 1 _ rfl)) (S4.same _ hb63.1 hb63.2) rfl ?_;refine go ?_;cases oi h;exact ⟨⟨rfl,rfl,rfl,trivial⟩,S4.pick [] rfl rfl⟩
           replace h:=bcF h z54;refine go ?_;cases oi h;exact ⟨⟨rfl,rfl,rfl,trivial⟩,S4.pick [] rfl rfl⟩
         replace h:=bcF h z53;refine go ?_;cases oi h;exact ⟨⟨rfl,rfl,rfl,trivial⟩,S4.pick [] rfl rfl⟩
       replace h:=bcF h z52;refine go ?_;cases oi h;exact ⟨⟨rfl,rfl,rfl,trivial⟩,S4.pick [] rfl rfl⟩
     intro e w73 S5;have h:=h30;refine go ?_;refine cd (fun z74=>?_) fun z74=>?_
     · replace h:=bcT h z74;refine go ?_;cases oi h;exact ⟨trivial,rfl,_,rfl,⟨_,Res.one (resOne.t rfl),rfl,S5.pick [] rfl rfl⟩⟩
     replace h:=bcF h z74;refine go ?_;obtain ⟨o128,ho128,h129⟩:=obind h;refine CW.mono (CW.lx [0,3] [] [0,3] 2 (fun s75=>[(4,vI s75)]) (RT Tryz.prog Tryz.f71.results (fun u=>.bool u) w0 []) S5 ho128 (hb:=?_)) ?_
     · intro s75 e w76 o S6 h;refine go ?_;replace ⟨y77,hy77,h⟩:=obind h;obtain ⟨b80,o81,cs82,hae,hb85,hp78,hq79,hd83,hk84⟩:=hr0_0.idx hy77;subst hae;obtain ⟨a86,c87,a89,c90,a92,c93,rfl,hr88,hr91,hr94⟩:=hd83;refine LW.u (Pur.ix Tryz.underlying28 sz50 rfl rfl hp78 hq79) rfl ?_;refine go ?_;refine LW.l (Ldr.old w0 ag24 rfl (hk84 10 _ rfl)) (S6.same _ hb85.1 hb85.2) rfl ?_;refine go ?_;refine CW.fl [0,3,4,81] fun e=>?_;refine cd (fun z95=>?_) fun z95=>?_
       · replace h:=bcT h z95;refine go ?_;refine LW.u (Pur.ix Tryz.underlying28 sz50 rfl rfl hp78 hq79) rfl ?_;refine go ?_;refine LW.l (Ldr.old w0 ag24 rfl (hk84 10 _ rfl)) (S6.same _ hb85.1 hb85.2) rfl ?_;refine go ?_;replace ⟨y96,hy96,h⟩:=obind h;obtain ⟨b99,o100,cs101,hae,hb104,hp97,hq98,hd102,hk103⟩:=hr88.idx hy96;subst hae;obtain rfl:=hd102;refine LW.u (Pur.ix Tryz.underlying24 sz3 rfl rfl hp97 hq98) rfl ?_;refine LW.l (Ldr.old w0 ag3 rfl (hk103 0 _ rfl)) (S6.same _ hb104.1 hb104.2) rfl ?_;refine gs ?_;obtain ⟨j105,hj105,h106⟩:=obind h;refine CW.jn [0,3,4] [] [(101,.bool j105)] S6 (h1:=?_) (h2:=?_)
         · have h:=hj105;refine go ?_;rcases bcases (decide (y96 ≥ 0)) with z107 | z107
           · replace h:=bcT h z107;refine go ?_;replace ⟨y108,hy108,h⟩:=obind h;obtain ⟨b111,o112,cs113,hae,hb116,hp109,hq110,hd114,hk115⟩:=hr0_0.idx hy108;cases hae;obtain ⟨a117,c118,a120,c121,a123,c124,rfl,hr119,hr122,hr125⟩:=hd114;refine go ?_;refine LW.u (Pur.ix Tryz.underlying28 sz50 rfl rfl hp109 hq110) rfl ?_;refine go ?_;refine LW.l (Ldr.old w0 ag3 rfl (hk115 1 _ rfl)) (S6.same _ hb116.1 hb116.2) rfl ?_;refine go ?_;cases oi h;exact ⟨⟨rfl,rfl,rfl,rfl,trivial⟩,S6.pick [] rfl rfl⟩
           replace h:=bcF h z107;refine go ?_;cases oi h;exact ⟨⟨rfl,rfl,rfl,rfl,trivial⟩,S6.pick [] rfl rfl⟩
         intro e w126 S7;have h:=h106;refine go ?_;refine cd (fun z127=>?_) fun z127=>?_
         · replace h:=bcT h z127;refine go ?_;cases oi h;exact ⟨trivial,rfl,_,rfl,⟨_,Res.one (resOne.t rfl),rfl,S7.pick [] rfl rfl⟩⟩
         replace h:=bcF h z127;refine go ?_;cases oi h;exact ⟨rfl,⟨⟨rfl,rfl,rfl,trivial⟩,S7.pick [] rfl rfl⟩⟩
       replace h:=bcF h z95;refine go ?_;cases oi h;exact ⟨trivial,rfl,⟨⟨rfl,rfl,trivial⟩,S6.pick [] rfl rfl⟩⟩
     intro x e w130 hM;rcases o128 with o128 | r131
     · obtain ⟨rfl,hM⟩:=hM;obtain ⟨hE,S8⟩:=hM;obtain ⟨e,rfl⟩:=hE.out;have h:=h129;refine go ?_;cases oi h;exact ⟨rfl,⟨⟨rfl,rfl,trivial⟩,S8.pick [] rfl rfl⟩⟩
     obtain ⟨rfl,u,rfl,hM⟩:=hM;cases h129;exact ⟨trivial,rfl,_,rfl,hM⟩
   replace h:=bcF h z28;refine go ?_;cases oi h;exact ⟨trivial,rfl,⟨trivial,S3.pick [] rfl rfl⟩⟩
 intro x e w134 hM;rcases o132 with o132 | r135
 · obtain ⟨rfl,hM⟩:=hM;obtain ⟨hE,S9⟩:=hM;obtain ⟨e,rfl⟩:=hE.out;rw [show e=upds e [] from rfl];have h:=h133;refine go ?_;cases h;exact fi S9
 obtain ⟨rfl,u,rfl,hM⟩:=hM;cases h133;exact And.intro trivial hM
end Go.Kx
