/- Each call returns what the plain function says. Printed by drive.py. -/
import Derived.Test.YtljikolgijlbeaaGreatFa
import Derived.Test.YtljikolgijlbeaaGreatPu
namespace Go.Kx
open Go Go.RowKit Go.Proofs
set_option maxRecDepth 10000
set_option maxHeartbeats 8000000
set_option linter.unusedVariables false
set_option linter.unusedSimpArgs false
theorem W_s_l1In {w0:World} {N:Nat} {x0:Int} {x1:Int} {x2:Int} {r:Bool} (h:F_s_l1In N x0 x1 x2=some r) :
    Ret Tryz.prog 27 #[.int .i64 x0,.int .i64 x1,.int .i64 x2] w0 (fun v w=>v=.bool r∧St w0 [] w []):=by
 unfold F_s_l1In at h;refine Ret.fn Tryz.func27 fun e=>?_;have hS1:=St.start w0;refine go ?_;rcases bcases (decide (x0 ≥ x1)) with hc1 | hc1
 · replace h:=bcT h hc1;refine go ?_;cases h;exact fi hS1
 replace h:=bcF h hc1;refine go ?_;cases h;exact fi hS1
theorem W_i_copyInts {w0:World} {N:Nat} {x0:List Int} {r:(List Int)} (h:F_i_copyInts N x0=some r) {a0_0:Option Addr} {n0_0 c0_0:Nat} (hn0_0:n0_0=x0.length) (hr0_0:rdS (Bor w0 []) w0 a0_0 c0_0 x0) :
    Ret Tryz.prog 59 #[.slice a0_0 n0_0 c0_0] w0 (fun v w=>∃ ar0 cr0,v=.slice ar0 r.length cr0∧St w0 [] w [sl ar0 cr0 r]):=by
 subst hn0_0;unfold F_i_copyInts at h;refine Ret.fn Tryz.func59 fun e=>?_;have hS1:=St.start w0;refine go ?_;refine LW.bsl (α:=Int) (vs:=[]) (cs:=#[]) (l:=([]:List Int)) rfl (by kernel_rfl) rfl rfl rfl (fun w=>rfl) hS1 rfl ?_;intro a1 c2 w3 hS2 hf;refine go ?_;replace ⟨y4,hy4,h⟩:=obind h;refine LW.appN (l:=([]:List Int)) (m:=x0) sT52 rfl rfl (hS2.rB hr0_0) hy4 hS2 (i:=0) rfl rfl ?_;intro a5 c6 w7 hS3 hf;refine go ?_;cases h;exact And.intro trivial ⟨_,Res.one (resOne.t rfl),a5,c6,rfl,hS3.pick [0] rfl rfl⟩
theorem W_i_copyTree {w0:World} {N:Nat} {x0:List DRes} {r:(List DRes)} (h:F_i_copyTree N x0=some r) {a0_0:Option Addr} {n0_0 c0_0:Nat} (hn0_0:n0_0=x0.length) (hr0_0:rdS (Bor w0 []) w0 a0_0 c0_0 x0) :
    Ret Tryz.prog 153 #[.slice a0_0 n0_0 c0_0] w0 (fun v w=>∃ ar0 cr0,v=.slice ar0 r.length cr0∧St w0 [] w [sl ar0 cr0 r]):=by
 subst hn0_0;unfold F_i_copyTree at h;refine Ret.fn Tryz.func153 fun e=>?_;have hS1:=St.start w0;refine go ?_;refine LW.bsl (α:=DRes) (vs:=[]) (cs:=#[]) (l:=([]:List DRes)) rfl (by kernel_rfl) rfl rfl rfl (fun w=>rfl) hS1 rfl ?_;intro a1 c2 w3 hS2 hf;refine go ?_;replace ⟨y4,hy4,h⟩:=obind h;refine LW.appN (l:=([]:List DRes)) (m:=x0) sT59 rfl rfl (hS2.rB hr0_0) hy4 hS2 (i:=0) rfl rfl ?_;intro a5 c6 w7 hS3 hf;refine go ?_;cases h;exact And.intro trivial ⟨_,Res.one (resOne.t rfl),a5,c6,rfl,hS3.pick [0] rfl rfl⟩
theorem W_i_within {w0:World} {N:Nat} {x0:Int} {x1:Int} {x2:Int} {r:Bool} (h:F_i_within N x0 x1 x2=some r) :
    Ret Tryz.prog 54 #[.int .i64 x0,.int .i64 x1,.int .i64 x2] w0 (fun v w=>v=.bool r∧St w0 [] w []):=by
 unfold F_i_within at h;refine Ret.fn Tryz.func54 fun e=>?_;have hS1:=St.start w0;refine go ?_;rcases bcases (decide (x0 ≥ x1)) with hc1 | hc1
 · replace h:=bcT h hc1;refine go ?_;cases h;exact fi hS1
 replace h:=bcF h hc1;refine go ?_;cases h;exact fi hS1
theorem W_i_sumOf {w0:World} {N:Nat} {x0:DAmt} {x1:DAmt} {r:DAmt} (h:F_i_sumOf N x0 x1=some r) :
    Ret Tryz.prog 85 #[.agg #[.int .i64 x0.pages,.int .i64 x0.rent,.int .i64 x0.cpu],.agg #[.int .i64 x1.pages,.int .i64 x1.rent,.int .i64 x1.cpu]] w0 (fun v w=>v=.agg #[.int .i64 r.pages,.int .i64 r.rent,.int .i64 r.cpu]∧St w0 [] w []):=by
 unfold F_i_sumOf at h;refine Ret.fn Tryz.func85 fun e=>?_;have hS1:=St.start w0;refine go ?_;refine LW.bo hS1 fun g1 w2 hS2=>?_;refine LW.bo hS2 fun g3 w4 hS3=>?_;refine LW.al hS3 fun g5 w6 hS4=>?_;refine go ?_;refine LW.u (Pur.build (vs:=[(0,.int .i64 (IntKind.i64.wrap (x0.pages+x1.pages))),(1,.int .i64 (IntKind.i64.wrap (x0.rent+x1.rent))),(2,.int .i64 (IntKind.i64.wrap (x0.cpu+x1.cpu)))]) (cs:=#[.int .i64 (IntKind.i64.wrap (x0.pages+x1.pages)),.int .i64 (IntKind.i64.wrap (x0.rent+x1.rent)),.int .i64 (IntKind.i64.wrap (x0.cpu+x1.cpu))]) rfl (by kernel_rfl)) rfl ?_;refine LW.st hS4 0 fun w7 hS5=>?_;refine go ?_;cases h;exact And.intro trivial ⟨_,Res.one (resOne.b hS5 0 rfl ag56 rfl rfl),rfl,hS5.pick [] rfl rfl⟩
theorem W_z_Index_int {w0:World} {N:Nat} {x0:List Int} {x1:Int} {r:Int} (h:F_z_Index_int N x0 x1=some r) {a0_0:Option Addr} {n0_0 c0_0:Nat} (hn0_0:n0_0=x0.length) (hr0_0:rdS (Bor w0 []) w0 a0_0 c0_0 x0) :
    Ret Tryz.prog 187 #[.slice a0_0 n0_0 c0_0,.int .i64 x1] w0 (fun v w=>v=.int .i64 r∧St w0 [] w []):=by
 subst hn0_0;unfold F_z_Index_int at h;refine Ret.fn Tryz.func187 fun e=>?_;have hS1:=St.start w0;refine go ?_;obtain ⟨o14,ho14,h15⟩:=obind h;refine CW.mono (CW.lx [0,1,7] [] [] 0 (fun s1=>[(8,.int .i64 s1)]) (RT Tryz.prog Tryz.f187.results (fun u=>.int .i64 u) w0 []) hS1 ho14 (hb:=?_)) ?_
 · intro s1 e w2 o hS2 h;refine go ?_;refine cd (fun hc3=>?_) fun hc3=>?_
   · replace h:=bcT h hc3;refine go ?_;replace ⟨y4,hy4,h⟩:=obind h;obtain ⟨b7,o8,cs9,hae,hb12,hp5,hq6,hd10,hk11⟩:=hr0_0.idx hy4;subst hae;obtain rfl:=hd10;refine LW.u (Pur.ix Tryz.underlying52 sz3 rfl rfl hp5 hq6) rfl ?_;refine LW.l (Ldr.old w0 ag3 rfl (hk11 0 _ rfl)) (hS2.same _ hb12.1 hb12.2) rfl ?_;refine go ?_;refine CW.fl [0,1,5,7,8,16] fun e=>?_;refine cd (fun hc13=>?_) fun hc13=>?_
     · replace h:=bcT h hc13;refine go ?_;cases oi h;exact ⟨trivial,rfl,_,rfl,⟨_,Res.one (resOne.t rfl),rfl,hS2.pick [] rfl rfl⟩⟩
     replace h:=bcF h hc13;refine go ?_;cases oi h;exact ⟨rfl,⟨⟨rfl,rfl,rfl,rfl,trivial⟩,hS2.pick [] rfl rfl⟩⟩
   replace h:=bcF h hc3;refine go ?_;cases oi h;exact ⟨trivial,rfl,⟨trivial,hS2.pick [] rfl rfl⟩⟩
 intro x e w16 hM;rcases o14 with o14 | r17
 · obtain ⟨rfl,hM⟩:=hM;obtain ⟨hE,hS3⟩:=hM;obtain ⟨e,rfl⟩:=hE.out;rw [show e=upds e [] from rfl];have h:=h15;refine go ?_;cases h;exact fi hS3
 obtain ⟨rfl,u,rfl,hM⟩:=hM;cases h15;exact And.intro trivial hM
theorem W_z_Equal_int {w0:World} {N:Nat} {x0:List Int} {x1:List Int} {r:Bool} (h:F_z_Equal_int N x0 x1=some r) {a0_0:Option Addr} {n0_0 c0_0:Nat} (hn0_0:n0_0=x0.length) (hr0_0:rdS (Bor w0 []) w0 a0_0 c0_0 x0) {a1_0:Option Addr} {n1_0 c1_0:Nat} (hn1_0:n1_0=x1.length) (hr1_0:rdS (Bor w0 []) w0 a1_0 c1_0 x1) :
    Ret Tryz.prog 232 #[.slice a0_0 n0_0 c0_0,.slice a1_0 n1_0 c1_0] w0 (fun v w=>v=.bool r∧St w0 [] w []):=by
 subst hn0_0 hn1_0;unfold F_z_Equal_int at h;refine Ret.fn Tryz.func232 fun e=>?_;have hS1:=St.start w0;refine go ?_;refine cd (fun hc1=>?_) fun hc1=>?_
 · replace h:=bcT h hc1;refine go ?_;cases h;exact fi hS1
 replace h:=bcF h hc1;refine go ?_;obtain ⟨o24,ho24,h25⟩:=obind h;refine CW.mono (CW.lx [0,1,12] [] [] 0 (fun s2=>[(13,.int .i64 s2)]) (RT Tryz.prog Tryz.f232.results (fun u=>.bool u) w0 []) hS1 ho24 (hb:=?_)) ?_
 · intro s2 e w3 o hS2 h;refine go ?_;refine cd (fun hc4=>?_) fun hc4=>?_
   · replace h:=bcT h hc4;refine go ?_;refine CW.draw (by kernel_rfl) ?_;have hS3:=hS2.drew;refine go ?_;replace ⟨y5,hy5,h⟩:=obind h;obtain ⟨b8,o9,cs10,hae,hb13,hp6,hq7,hd11,hk12⟩:=hr0_0.idx hy5;subst hae;obtain rfl:=hd11;refine AW.u (i:=2) rfl (by kernel_rfl) rfl rfl (Pur.ix Tryz.underlying52 sz3 rfl rfl hp6 hq7) ?_;refine AW.take (i:=3) rfl (by kernel_rfl) rfl rfl (Ldr.old w0 ag3 rfl (hk12 0 _ rfl)) (hS3.same _ hb13.1 hb13.2) ?_;refine go ?_;replace ⟨y14,hy14,h⟩:=obind h;obtain ⟨b17,o18,cs19,hae,hb22,hp15,hq16,hd20,hk21⟩:=hr1_0.idx hy14;subst hae;obtain rfl:=hd20;refine AW.u (i:=6) rfl (by kernel_rfl) rfl rfl (Pur.ix Tryz.underlying52 sz3 rfl rfl hp15 hq16) ?_;refine AW.take (i:=7) rfl (by kernel_rfl) rfl rfl (Ldr.old w0 ag3 rfl (hk21 0 _ rfl)) (hS3.same _ hb22.1 hb22.2) ?_;refine go ?_;refine cd (fun hc23=>?_) fun hc23=>?_
     · replace h:=bcT h hc23;refine go ?_;cases oi h;exact ⟨trivial,rfl,_,rfl,⟨_,Res.one (resOne.t rfl),rfl,hS3.pick [] rfl rfl⟩⟩
     replace h:=bcF h hc23;refine go ?_;cases oi h;exact ⟨rfl,⟨⟨rfl,rfl,rfl,rfl,trivial⟩,hS3.pick [] rfl rfl⟩⟩
   replace h:=bcF h hc4;refine go ?_;cases oi h;exact ⟨trivial,rfl,⟨trivial,hS2.pick [] rfl rfl⟩⟩
 intro x e w26 hM;rcases o24 with o24 | r27
 · obtain ⟨rfl,hM⟩:=hM;obtain ⟨hE,hS4⟩:=hM;obtain ⟨e,rfl⟩:=hE.out;rw [show e=upds e [] from rfl];have h:=h25;refine go ?_;cases h;exact fi hS4
 obtain ⟨rfl,u,rfl,hM⟩:=hM;cases h25;exact And.intro trivial hM
theorem W_z_Equal_Msg {w0:World} {N:Nat} {x0:List DMsg} {x1:List DMsg} {r:Bool} (h:F_z_Equal_Msg N x0 x1=some r) {a0_0:Option Addr} {n0_0 c0_0:Nat} (hn0_0:n0_0=x0.length) (hr0_0:rdS (Bor w0 []) w0 a0_0 c0_0 x0) {a1_0:Option Addr} {n1_0 c1_0:Nat} (hn1_0:n1_0=x1.length) (hr1_0:rdS (Bor w0 []) w0 a1_0 c1_0 x1) :
    Ret Tryz.prog 233 #[.slice a0_0 n0_0 c0_0,.slice a1_0 n1_0 c1_0] w0 (fun v w=>v=.bool r∧St w0 [] w []):=by
 subst hn0_0 hn1_0;unfold F_z_Equal_Msg at h;refine Ret.fn Tryz.func233 fun e=>?_;have hS1:=St.start w0;refine go ?_;refine cd (fun hc1=>?_) fun hc1=>?_
 · replace h:=bcT h hc1;refine go ?_;cases h;exact fi hS1
 replace h:=bcF h hc1;refine go ?_;obtain ⟨o24,ho24,h25⟩:=obind h;refine CW.mono (CW.lx [0,1,12] [] [] 0 (fun s2=>[(13,.int .i64 s2)]) (RT Tryz.prog Tryz.f233.results (fun u=>.bool u) w0 []) hS1 ho24 (hb:=?_)) ?_
 · intro s2 e w3 o hS2 h;refine go ?_;refine cd (fun hc4=>?_) fun hc4=>?_
   · replace h:=bcT h hc4;refine go ?_;refine CW.draw (by kernel_rfl) ?_;have hS3:=hS2.drew;refine go ?_;replace ⟨y5,hy5,h⟩:=obind h;obtain ⟨b8,o9,cs10,hae,hb13,hp6,hq7,hd11,hk12⟩:=hr0_0.idx hy5;subst hae;obtain rfl:=hd11;refine AW.u (i:=2) rfl (by kernel_rfl) rfl rfl (Pur.ix Tryz.underlying102 sz170 rfl rfl hp6 hq7) ?_;refine AW.take (i:=3) rfl (by kernel_rfl) rfl rfl (Ldr.oldN w0 ag170 rfl rfl (fun j u hu=>hk12 j u hu)) (hS3.same _ hb13.1 hb13.2) ?_;refine go ?_;replace ⟨y14,hy14,h⟩:=obind h;obtain ⟨b17,o18,cs19,hae,hb22,hp15,hq16,hd20,hk21⟩:=hr1_0.idx hy14;subst hae;obtain rfl:=hd20;refine AW.u (i:=6) rfl (by kernel_rfl) rfl rfl (Pur.ix Tryz.underlying102 sz170 rfl rfl hp15 hq16) ?_;refine AW.take (i:=7) rfl (by kernel_rfl) rfl rfl (Ldr.oldN w0 ag170 rfl rfl (fun j u hu=>hk21 j u hu)) (hS3.same _ hb22.1 hb22.2) ?_;refine AW.u (i:=8) rfl (by kernel_rfl) rfl rfl (Pur.ane eg170 rfl rfl (fun w=>eq170 y5 y14 w)) ?_;refine go ?_;refine cd (fun hc23=>?_) fun hc23=>?_
     · replace h:=bcT h hc23;refine go ?_;cases oi h;exact ⟨trivial,rfl,_,rfl,⟨_,Res.one (resOne.t rfl),rfl,hS3.pick [] rfl rfl⟩⟩
     replace h:=bcF h hc23;refine go ?_;cases oi h;exact ⟨rfl,⟨⟨rfl,rfl,rfl,rfl,trivial⟩,hS3.pick [] rfl rfl⟩⟩
   replace h:=bcF h hc4;refine go ?_;cases oi h;exact ⟨trivial,rfl,⟨trivial,hS2.pick [] rfl rfl⟩⟩
 intro x e w26 hM;rcases o24 with o24 | r27
 · obtain ⟨rfl,hM⟩:=hM;obtain ⟨hE,hS4⟩:=hM;obtain ⟨e,rfl⟩:=hE.out;rw [show e=upds e [] from rfl];have h:=h25;refine go ?_;cases h;exact fi hS4
 obtain ⟨rfl,u,rfl,hM⟩:=hM;cases h25;exact And.intro trivial hM
theorem W_i_AmtPart {w0:World} {N:Nat} {x0:DAmt} {x1:Int} {r:Int} (h:F_i_AmtPart N x0 x1=some r) :
    Ret Tryz.prog 159 #[.agg #[.int .i64 x0.pages,.int .i64 x0.rent,.int .i64 x0.cpu],.int .i64 x1] w0 (fun v w=>v=.int .i64 r∧St w0 [] w []):=by
 unfold F_i_AmtPart at h;refine Ret.fn Tryz.func159 fun e=>?_;have hS1:=St.start w0;refine go ?_;refine LW.bo hS1 fun g1 w2 hS2=>?_;refine go ?_;refine cd (fun hc3=>?_) fun hc3=>?_
 · replace h:=bcT h hc3;refine go ?_;cases h;exact fi hS2
 replace h:=bcF h hc3;refine go ?_;refine cd (fun hc4=>?_) fun hc4=>?_
 · replace h:=bcT h hc4;refine go ?_;cases h;exact fi hS2
 replace h:=bcF h hc4;refine go ?_;refine cd (fun hc5=>?_) fun hc5=>?_
 · replace h:=bcT h hc5;refine go ?_;cases h;exact fi hS2
 replace h:=bcF h hc5;refine go ?_;cases h;exact fi hS2
theorem W_i_AmtOne {w0:World} {N:Nat} {x0:Int} {x1:Int} {r:DAmt} (h:F_i_AmtOne N x0 x1=some r) :
    Ret Tryz.prog 94 #[.int .i64 x0,.int .i64 x1] w0 (fun v w=>v=.agg #[.int .i64 r.pages,.int .i64 r.rent,.int .i64 r.cpu]∧St w0 [] w []):=by
 unfold F_i_AmtOne at h;refine Ret.fn Tryz.func94 fun e=>?_;have hS1:=St.start w0;refine go ?_;refine LW.al hS1 fun g1 w2 hS2=>?_;refine go ?_;refine cd (fun hc3=>?_) fun hc3=>?_
 · replace h:=bcT h hc3;refine go ?_;refine LW.u (Pur.build (vs:=[(0,.int .i64 x1)]) (cs:=#[.int .i64 x1,.int .i64 0,.int .i64 0]) rfl (by kernel_rfl)) rfl ?_;refine LW.st hS2 0 fun w4 hS3=>?_;refine go ?_;cases h;exact And.intro trivial ⟨_,Res.one (resOne.b hS3 0 rfl ag56 rfl rfl),rfl,hS3.pick [] rfl rfl⟩
 replace h:=bcF h hc3;refine go ?_;refine cd (fun hc5=>?_) fun hc5=>?_
 · replace h:=bcT h hc5;refine go ?_;refine LW.u (Pur.build (vs:=[(1,.int .i64 x1)]) (cs:=#[.int .i64 0,.int .i64 x1,.int .i64 0]) rfl (by kernel_rfl)) rfl ?_;refine LW.st hS2 0 fun w6 hS4=>?_;refine go ?_;cases h;exact And.intro trivial ⟨_,Res.one (resOne.b hS4 0 rfl ag56 rfl rfl),rfl,hS4.pick [] rfl rfl⟩
 replace h:=bcF h hc5;refine go ?_;refine cd (fun hc7=>?_) fun hc7=>?_
 · replace h:=bcT h hc7;refine go ?_;refine LW.u (Pur.build (vs:=[(2,.int .i64 x1)]) (cs:=#[.int .i64 0,.int .i64 0,.int .i64 x1]) rfl (by kernel_rfl)) rfl ?_;refine LW.st hS2 0 fun w8 hS5=>?_;refine go ?_;cases h;exact And.intro trivial ⟨_,Res.one (resOne.b hS5 0 rfl ag56 rfl rfl),rfl,hS5.pick [] rfl rfl⟩
 replace h:=bcF h hc7;refine go ?_;refine LW.u (Pur.build (vs:=[]) (cs:=#[.int .i64 0,.int .i64 0,.int .i64 0]) rfl (by kernel_rfl)) rfl ?_;refine LW.st hS2 0 fun w9 hS6=>?_;refine go ?_;cases h;exact And.intro trivial ⟨_,Res.one (resOne.b hS6 0 rfl ag56 rfl rfl),rfl,hS6.pick [] rfl rfl⟩
theorem W_s_l8Handle {w0:World} {N:Nat} {x0:Int} {r:Bool} (h:F_s_l8Handle N x0=some r) :
    Ret Tryz.prog 29 #[.int .i64 x0] w0 (fun v w=>v=.bool r∧St w0 [] w []):=by
 unfold F_s_l8Handle at h;refine Ret.fn Tryz.func29 fun e=>?_;have hS1:=St.start w0;refine go ?_;replace ⟨y1,hy1,h⟩:=obind h;refine LW.c0 (W_s_l1In hy1) hS1 fun w2 hS2=>?_;refine go ?_;cases h;exact fi hS2
theorem W_s_l8Slot {w0:World} {N:Nat} {x0:Int} {r:Bool} (h:F_s_l8Slot N x0=some r) :
    Ret Tryz.prog 28 #[.int .i64 x0] w0 (fun v w=>v=.bool r∧St w0 [] w []):=by
 unfold F_s_l8Slot at h;refine Ret.fn Tryz.func28 fun e=>?_;have hS1:=St.start w0;refine go ?_;replace ⟨y1,hy1,h⟩:=obind h;refine LW.c0 (W_s_l1In hy1) hS1 fun w2 hS2=>?_;refine go ?_;cases h;exact fi hS2
theorem W_i_copyLabel {w0:World} {N:Nat} {x0:DLabel} {r:DLabel} (h:F_i_copyLabel N x0=some r) {a0_0:Option Addr} {n0_0 c0_0:Nat} (hn0_0:n0_0=x0.levels.length) (hr0_0:rdS (Bor w0 []) w0 a0_0 c0_0 x0.levels) :
    Ret Tryz.prog 58 #[.agg #[.slice a0_0 n0_0 c0_0]] w0 (fun v w=>∃ ar0_0 cr0_0,v=.agg #[.slice ar0_0 r.levels.length cr0_0]∧St w0 [] w [sl ar0_0 cr0_0 r.levels]):=by
 subst hn0_0;unfold F_i_copyLabel at h;refine Ret.fn Tryz.func58 fun e=>?_;have hS1:=St.start w0;refine go ?_;refine LW.bo hS1 fun g1 w2 hS2=>?_;refine LW.al hS2 fun g3 w4 hS3=>?_;refine go ?_;replace ⟨y5,hy5,h⟩:=obind h;refine LW.cl (W_i_copyInts hy5 rfl (hS3.rB hr0_0)) ?_;rintro _ w8 ⟨a6,c7,rfl,hs⟩;have hS4:=hS3.add hs;refine LW.u (Pur.build (vs:=[(0,.slice a6 y5.length c7)]) (cs:=#[.slice a6 y5.length c7]) rfl (by kernel_rfl)) rfl ?_;refine LW.st hS4 1 fun w9 hS5=>?_;refine go ?_;cases h;exact And.intro trivial ⟨_,Res.one (resOne.b hS5 1 rfl ag54 rfl rfl),a6,c7,rfl,hS5.pick [0] rfl rfl⟩
theorem W_i_copyObj {w0:World} {N:Nat} {x0:DObj} {r:DObj} (h:F_i_copyObj N x0=some r) {a0_10:Option Addr} {n0_10 c0_10:Nat} (hn0_10:n0_10=x0.links.length) (hr0_10:rdS (Bor w0 []) w0 a0_10 c0_10 x0.links) {a0_11:Option Addr} {n0_11 c0_11:Nat} (hn0_11:n0_11=x0.data.length) (hr0_11:rdS (Bor w0 []) w0 a0_11 c0_11 x0.data) {a0_12:Option Addr} {n0_12 c0_12:Nat} (hn0_12:n0_12=x0.queue.length) (hr0_12:rdS (Bor w0 []) w0 a0_12 c0_12 x0.queue) :
    Ret Tryz.prog 120 #[.agg #[.int .i64 x0.gen,.int .i64 x0.kind,.int .i64 x0.box,.int .i64 x0.res,.int .i64 x0.til,.int .i64 x0.pages,.int .i64 x0.wait,.int .i64 x0.got,.int .i64 x0.ran,.bool x0.mark,.slice a0_10 n0_10 c0_10,.slice a0_11 n0_11 c0_11,.slice a0_12 n0_12 c0_12]] w0 (fun v w=>∃ ar0_10 cr0_10, ∃ ar0_11 cr0_11, ∃ ar0_12 cr0_12,v=.agg #[.int .i64 r.gen,.int .i64 r.kind,.int .i64 r.box,.int .i64 r.res,.int .i64 r.til,.int .i64 r.pages,.int .i64 r.wait,.int .i64 r.got,.int .i64 r.ran,.bool r.mark,.slice ar0_10 r.links.length cr0_10,.slice ar0_11 r.data.length cr0_11,.slice ar0_12 r.queue.length cr0_12]∧St w0 [] w [sl ar0_10 cr0_10 r.links,sl ar0_11 cr0_11 r.data,sl ar0_12 cr0_12 r.queue]):=by
 subst hn0_10 hn0_11 hn0_12;unfold F_i_copyObj at h;refine Ret.fn Tryz.func120 fun e=>?_;have hS1:=St.start w0;refine go ?_;refine LW.bo hS1 fun g1 w2 hS2=>?_;refine LW.al hS2 fun g3 w4 hS3=>?_;refine gs ?_;obtain ⟨j5,hj5,h6⟩:=obind h;refine CW.cut (fun e wb=>∃ (j5a0:Option Addr), ∃ (j5c0:Nat), ∃ (j5a2:Option Addr), ∃ (j5c2:Nat), ∃ (j5a4:Option Addr), ∃ (j5c4:Nat),En e [(1,.pointer (some ⟨g1,0,none⟩)),(2,.pointer (some ⟨g3,0,none⟩))]∧St w0 [] wb [bx g3 104 [.int .i64 0,.int .i64 0,.int .i64 0,.int .i64 0,.int .i64 0,.int .i64 0,.int .i64 0,.int .i64 0,.int .i64 0,.bool false,.slice none 0 0,.slice none 0 0,.slice none 0 0],bx g1 104 [.int .i64 x0.gen,.int .i64 x0.kind,.int .i64 x0.box,.int .i64 x0.res,.int .i64 x0.til,.int .i64 x0.pages,.int .i64 x0.wait,.int .i64 x0.got,.int .i64 x0.ran,.bool x0.mark,.slice j5a0 j5.1.length j5c0,.slice j5a2 j5.2.1.length j5c2,.slice j5a4 j5.2.2.length j5c4],sl j5a0 j5c0 j5.1,sl j5a2 j5c2 j5.2.1,sl j5a4 j5c4 j5.2.2]) ?_ ?_
 · have h:=hj5;refine CW.draw (by kernel_rfl) ?_;have hS4:=hS3.drew;refine go ?_;replace ⟨y7,hy7,h⟩:=obind h;refine AW.all (rs:=[2,6]) (by kernel_rfl) (by simp) ⟨?_,?_,trivial⟩
   · have q:=W_i_copyInts (w0:=w4.drew) hy7 rfl (hS4.rB hr0_10);refine ⟨_,rfl,?_⟩;refine LW.call pl59 rfl rfl ?_;refine Ret.mono q ?_;rintro _ w19 ⟨a17,c18,rfl,hs⟩;have hS5:=hS4.add hs;refine LW.nil ⟨rfl,(.c (St.cell (h:=hS5) (i:=2) rfl) (.c (St.cell (h:=hS5) (i:=2) rfl) (.w (by kernel_rfl) Kept.n))),?_⟩;refine AW.u (i:=10) rfl (by kernel_rfl) rfl rfl (Pur.fa fo104_10 rfl) ?_;replace ⟨y20,hy20,h⟩:=obind h;refine AW.all (rs:=[5,6]) (by kernel_rfl) (by simp) ⟨?_,?_,trivial⟩
     · have q:=W_i_copyInts (w0:=w19) hy20 rfl (hS5.rB hr0_11);refine ⟨_,rfl,?_⟩;refine LW.call pl59 rfl rfl ?_;refine Ret.mono q ?_;rintro _ w32 ⟨a30,c31,rfl,hs⟩;have hS6:=hS5.add hs;refine LW.nil ⟨rfl,(.c (St.cell (h:=hS6) (i:=3) rfl) (.w (by kernel_rfl) (.c (St.cell (h:=hS6) (i:=3) rfl) Kept.n))),?_⟩;refine AW.one (i:=6) (by kernel_rfl) ?_;refine ⟨_,rfl,?_⟩;refine LW.bsl (α:=DMsg) (vs:=[]) (cs:=#[]) (l:=([]:List DMsg)) rfl (by kernel_rfl) rfl rfl rfl (fun w=>rfl) hS6 rfl ?_;intro a33 c34 w35 hS7 hf;refine LW.nil ⟨rfl,(.c (St.cell (h:=hS7) (i:=4) rfl) (.c (St.cell (h:=hS7) (i:=4) rfl) (.c (St.cell (h:=hS7) (i:=4) rfl) Kept.n))),?_⟩;replace ⟨y36,hy36,h⟩:=obind h;refine AW.one (i:=9) (by kernel_rfl) ?_;refine ⟨_,rfl,?_⟩;refine LW.appN (l:=([]:List DMsg)) (m:=x0.queue) sT102 rfl rfl (hS7.rB hr0_12) hy36 hS7 (i:=0) rfl rfl ?_;intro a37 c38 w39 hS8 hf;refine LW.nil ⟨rfl,(.w (by kernel_rfl) (.c (St.cell (h:=hS8) (i:=4) rfl) (.c (St.cell (h:=hS8) (i:=4) rfl) Kept.n))),?_⟩;refine AW.one (i:=11) (by kernel_rfl) ?_;refine ⟨_,rfl,?_⟩;refine LW.st hS8 4 fun w40 hS9=>?_;refine LW.nil ⟨rfl,(.w (by kernel_rfl) (.w (by kernel_rfl) (.w (by kernel_rfl) Kept.n))),?_⟩;refine go ?_;refine AW.one (i:=13) (by kernel_rfl) ?_;refine ⟨_,rfl,?_⟩;refine LW.st hS9 4 fun w41 hS10=>?_;refine LW.nil ⟨rfl,(.w (by kernel_rfl) (.w (by kernel_rfl) (.w (by kernel_rfl) Kept.n))),?_⟩;refine go ?_;refine AW.one (i:=15) (by kernel_rfl) ?_;refine ⟨_,rfl,?_⟩;refine LW.st hS10 4 fun w42 hS11=>?_;refine LW.nil ⟨rfl,(.w (by kernel_rfl) (.w (by kernel_rfl) (.w (by kernel_rfl) Kept.n))),?_⟩;refine go ?_;cases oi h;exact ⟨a17,c18,a30,c31,a37,c38,⟨rfl,rfl,trivial⟩,hS11.pick [3,4,2,1,0] rfl rfl⟩
     refine ⟨_,rfl,?_⟩;refine LW.bsl (α:=DMsg) (vs:=[]) (cs:=#[]) (l:=([]:List DMsg)) rfl (by kernel_rfl) rfl rfl rfl (fun w=>rfl) hS5 rfl ?_;intro a43 c44 w45 hS12 hf;refine LW.nil ⟨rfl,(.c (St.cell (h:=hS12) (i:=3) rfl) (.c (St.cell (h:=hS12) (i:=3) rfl) (.c (St.cell (h:=hS12) (i:=3) rfl) Kept.n))),?_⟩;have q:=W_i_copyInts (w0:=w45) hy20 rfl (hS12.rB hr0_11);refine AW.one (i:=5) (by kernel_rfl) ?_;refine ⟨_,rfl,?_⟩;refine LW.call pl59 rfl rfl ?_;refine Ret.mono q ?_;rintro _ w48 ⟨a46,c47,rfl,hs⟩;have hS13:=hS12.add hs;refine LW.nil ⟨rfl,(.c (St.cell (h:=hS13) (i:=4) rfl) (.w (by kernel_rfl) (.c (St.cell (h:=hS13) (i:=4) rfl) Kept.n))),?_⟩;replace ⟨y49,hy49,h⟩:=obind h;refine AW.one (i:=9) (by kernel_rfl) ?_;refine ⟨_,rfl,?_⟩;refine LW.appN (l:=([]:List DMsg)) (m:=x0.queue) sT102 rfl rfl (hS13.rB hr0_12) hy49 hS13 (i:=1) rfl rfl ?_;intro a50 c51 w52 hS14 hf;refine LW.nil ⟨rfl,(.w (by kernel_rfl) (.c (St.cell (h:=hS14) (i:=4) rfl) (.c (St.cell (h:=hS14) (i:=4) rfl) Kept.n))),?_⟩;refine AW.one (i:=11) (by kernel_rfl) ?_;refine ⟨_,rfl,?_⟩;refine LW.st hS14 4 fun w53 hS15=>?_;refine LW.nil ⟨rfl,(.w (by kernel_rfl) (.w (by kernel_rfl) (.w (by kernel_rfl) Kept.n))),?_⟩;refine go ?_;refine AW.one (i:=13) (by kernel_rfl) ?_;refine ⟨_,rfl,?_⟩;refine LW.st hS15 4 fun w54 hS16=>?_;refine LW.nil ⟨rfl,(.w (by kernel_rfl) (.w (by kernel_rfl) (.w (by kernel_rfl) Kept.n))),?_⟩;refine go ?_;refine AW.one (i:=15) (by kernel_rfl) ?_;refine ⟨_,rfl,?_⟩;refine LW.st hS16 4 fun w55 hS17=>?_;refine LW.nil ⟨rfl,(.w (by kernel_rfl) (.w (by kernel_rfl) (.w (by kernel_rfl) Kept.n))),?_⟩;refine go ?_;cases oi h;exact ⟨a17,c18,a46,c47,a50,c51,⟨rfl,rfl,trivial⟩,hS17.pick [3,4,2,0,1] rfl rfl⟩
   refine ⟨_,rfl,?_⟩;refine LW.bsl (α:=DMsg) (vs:=[]) (cs:=#[]) (l:=([]:List DMsg)) rfl (by kernel_rfl) rfl rfl rfl (fun w=>rfl) hS4 rfl ?_;intro a56 c57 w58 hS18 hf;refine LW.nil ⟨rfl,(.c (St.cell (h:=hS18) (i:=2) rfl) (.c (St.cell (h:=hS18) (i:=2) rfl) (.c (St.cell (h:=hS18) (i:=2) rfl) Kept.n))),?_⟩;have q:=W_i_copyInts (w0:=w58) hy7 rfl (hS18.rB hr0_10);refine AW.one (i:=2) (by kernel_rfl) ?_;refine ⟨_,rfl,?_⟩;refine LW.call pl59 rfl rfl ?_;refine Ret.mono q ?_;rintro _ w61 ⟨a59,c60,rfl,hs⟩;have hS19:=hS18.add hs;refine LW.nil ⟨rfl,(.c (St.cell (h:=hS19) (i:=3) rfl) (.c (St.cell (h:=hS19) (i:=3) rfl) (.w (by kernel_rfl) Kept.n))),?_⟩;refine AW.u (i:=10) rfl (by kernel_rfl) rfl rfl (Pur.fa fo104_10 rfl) ?_;replace ⟨y62,hy62,h⟩:=obind h;have q:=W_i_copyInts (w0:=w61) hy62 rfl (hS19.rB hr0_11);refine AW.one (i:=5) (by kernel_rfl) ?_;refine ⟨_,rfl,?_⟩;refine LW.call pl59 rfl rfl ?_;refine Ret.mono q ?_;rintro _ w65 ⟨a63,c64,rfl,hs⟩;have hS20:=hS19.add hs;refine LW.nil ⟨rfl,(.c (St.cell (h:=hS20) (i:=4) rfl) (.w (by kernel_rfl) (.c (St.cell (h:=hS20) (i:=4) rfl) Kept.n))),?_⟩;replace ⟨y66,hy66,h⟩:=obind h;refine AW.one (i:=9) (by kernel_rfl) ?_;refine ⟨_,rfl,?_⟩;refine LW.appN (l:=([]:List DMsg)) (m:=x0.queue) sT102 rfl rfl (hS20.rB hr0_12) hy66 hS20 (i:=2) rfl rfl ?_;intro a67 c68 w69 hS21 hf;refine LW.nil ⟨rfl,(.w (by kernel_rfl) (.c (St.cell (h:=hS21) (i:=4) rfl) (.c (St.cell (h:=hS21) (i:=4) rfl) Kept.n))),?_⟩;refine AW.one (i:=11) (by kernel_rfl) ?_;refine ⟨_,rfl,?_⟩;refine LW.st hS21 4 fun w70 hS22=>?_;refine LW.nil ⟨rfl,(.w (by kernel_rfl) (.w (by kernel_rfl) (.w (by kernel_rfl) Kept.n))),?_⟩;refine go ?_;refine AW.one (i:=13) (by kernel_rfl) ?_;refine ⟨_,rfl,?_⟩;refine LW.st hS22 4 fun w71 hS23=>?_;refine LW.nil ⟨rfl,(.w (by kernel_rfl) (.w (by kernel_rfl) (.w (by kernel_rfl) Kept.n))),?_⟩;refine go ?_;refine AW.one (i:=15) (by kernel_rfl) ?_;refine ⟨_,rfl,?_⟩;refine LW.st hS23 4 fun w72 hS24=>?_;refine LW.nil ⟨rfl,(.w (by kernel_rfl) (.w (by kernel_rfl) (.w (by kernel_rfl) Kept.n))),?_⟩;refine go ?_;cases oi h;exact ⟨a59,c60,a63,c64,a67,c68,⟨rfl,rfl,trivial⟩,hS24.pick [3,4,1,0,2] rfl rfl⟩
 rintro e w73 ⟨j5a0,j5c0,j5a2,j5c2,j5a4,j5c4,hE,hS25⟩;obtain ⟨e,rfl⟩:=hE.out;have h:=h6;refine go ?_;refine LW.st hS25 0 fun w74 hS26=>?_;refine go ?_;cases h;exact And.intro trivial ⟨_,Res.one (resOne.b hS26 0 rfl ag104 rfl rfl),j5a0,j5c0,j5a2,j5c2,j5a4,j5c4,rfl,hS26.pick [2,3,4] rfl rfl⟩
theorem W_i_isTime {w0:World} {N:Nat} {x0:Int} {r:Bool} (h:F_i_isTime N x0=some r) :
    Ret Tryz.prog 83 #[.int .i64 x0] w0 (fun v w=>v=.bool r∧St w0 [] w []):=by
 unfold F_i_isTime at h;refine Ret.fn Tryz.func83 fun e=>?_;have hS1:=St.start w0;refine go ?_;replace ⟨y1,hy1,h⟩:=obind h;refine LW.c0 (W_i_within hy1) hS1 fun w2 hS2=>?_;refine go ?_;cases h;exact fi hS2
theorem W_i_isPlace {w0:World} {N:Nat} {x0:Int} {r:Bool} (h:F_i_isPlace N x0=some r) :
    Ret Tryz.prog 158 #[.int .i64 x0] w0 (fun v w=>v=.bool r∧St w0 [] w []):=by
 unfold F_i_isPlace at h;refine Ret.fn Tryz.func158 fun e=>?_;have hS1:=St.start w0;refine go ?_;replace ⟨y1,hy1,h⟩:=obind h;refine LW.c0 (W_i_within hy1) hS1 fun w2 hS2=>?_;refine go ?_;cases h;exact fi hS2
theorem W_i_isPart {w0:World} {N:Nat} {x0:Int} {r:Bool} (h:F_i_isPart N x0=some r) :
    Ret Tryz.prog 111 #[.int .i64 x0] w0 (fun v w=>v=.bool r∧St w0 [] w []):=by
 unfold F_i_isPart at h;refine Ret.fn Tryz.func111 fun e=>?_;have hS1:=St.start w0;refine go ?_;replace ⟨y1,hy1,h⟩:=obind h;refine LW.c0 (W_i_within hy1) hS1 fun w2 hS2=>?_;refine go ?_;cases h;exact fi hS2
theorem W_i_LabelOk {w0:World} {N:Nat} {x0:DLabel} {r:Bool} (h:F_i_LabelOk N x0=some r) {a0_0:Option Addr} {n0_0 c0_0:Nat} (hn0_0:n0_0=x0.levels.length) (hr0_0:rdS (Bor w0 []) w0 a0_0 c0_0 x0.levels) :
    Ret Tryz.prog 52 #[.agg #[.slice a0_0 n0_0 c0_0]] w0 (fun v w=>v=.bool r∧St w0 [] w []):=by
 subst hn0_0;unfold F_i_LabelOk at h;refine Ret.fn Tryz.func52 fun e=>?_;have hS1:=St.start w0;refine go ?_;refine LW.bo hS1 fun g1 w2 hS2=>?_;refine go ?_;obtain ⟨o18,ho18,h19⟩:=obind h;refine CW.mono (CW.lx [1,6,7] [0] [1] 0 (fun s3=>[(8,.int .i64 s3)]) (RT Tryz.prog Tryz.f52.results (fun u=>.bool u) w0 []) hS2 ho18 (hb:=?_)) ?_
 · intro s3 e w4 o hS3 h;refine go ?_;refine cd (fun hc5=>?_) fun hc5=>?_
   · replace h:=bcT h hc5;refine go ?_;replace ⟨y6,hy6,h⟩:=obind h;obtain ⟨b9,o10,cs11,hae,hb14,hp7,hq8,hd12,hk13⟩:=hr0_0.idx hy6;subst hae;obtain rfl:=hd12;refine LW.u (Pur.ix Tryz.underlying52 sz3 rfl rfl hp7 hq8) rfl ?_;refine LW.l (Ldr.old w0 ag3 rfl (hk13 0 _ rfl)) (hS3.same _ hb14.1 hb14.2) rfl ?_;refine go ?_;replace ⟨y15,hy15,h⟩:=obind h;refine LW.c0 (W_i_within hy15) hS3 fun w16 hS4=>?_;refine go ?_;refine CW.fl [1,6,7,8,14] fun e=>?_;refine cd (fun hc17=>?_) fun hc17=>?_
     · replace h:=bcT h hc17;refine go ?_;cases oi h;exact ⟨trivial,rfl,_,rfl,⟨_,Res.one (resOne.t rfl),rfl,hS4.pick [] rfl rfl⟩⟩
     replace h:=bcF h hc17;refine go ?_;cases oi h;exact ⟨rfl,⟨⟨rfl,rfl,rfl,rfl,trivial⟩,hS4.pick [0] rfl rfl⟩⟩
   replace h:=bcF h hc5;refine go ?_;cases oi h;exact ⟨trivial,rfl,⟨⟨rfl,trivial⟩,hS3.pick [0] rfl rfl⟩⟩
 intro x e w20 hM;rcases o18 with o18 | r21
 · obtain ⟨rfl,hM⟩:=hM;obtain ⟨hE,hS5⟩:=hM;obtain ⟨e,rfl⟩:=hE.out;have h:=h19;refine go ?_;cases h;exact fi hS5
 obtain ⟨rfl,u,rfl,hM⟩:=hM;cases h19;exact And.intro trivial hM
theorem W_i_OwnOk {w0:World} {N:Nat} {x0:List Int} {r:Bool} (h:F_i_OwnOk N x0=some r) {a0_0:Option Addr} {n0_0 c0_0:Nat} (hn0_0:n0_0=x0.length) (hr0_0:rdS (Bor w0 []) w0 a0_0 c0_0 x0) :
    Ret Tryz.prog 53 #[.slice a0_0 n0_0 c0_0] w0 (fun v w=>v=.bool r∧St w0 [] w []):=by
 subst hn0_0;unfold F_i_OwnOk at h;refine Ret.fn Tryz.func53 fun e=>?_;have hS1:=St.start w0;refine go ?_;obtain ⟨o30,ho30,h31⟩:=obind h;refine CW.mono (CW.lx [0,5,6] [] [] 0 (fun s1=>[(7,.int .i64 s1)]) (RT Tryz.prog Tryz.f53.results (fun u=>.bool u) w0 []) hS1 ho30 (hb:=?_)) ?_
 · intro s1 e w2 o hS2 h;refine go ?_;refine cd (fun hc3=>?_) fun hc3=>?_
   · replace h:=bcT h hc3;refine go ?_;replace ⟨y4,hy4,h⟩:=obind h;obtain ⟨b7,o8,cs9,hae,hb12,hp5,hq6,hd10,hk11⟩:=hr0_0.idx hy4;subst hae;obtain rfl:=hd10;refine LW.u (Pur.ix Tryz.underlying52 sz3 rfl rfl hp5 hq6) rfl ?_;refine LW.l (Ldr.old w0 ag3 rfl (hk11 0 _ rfl)) (hS2.same _ hb12.1 hb12.2) rfl ?_;refine gs ?_;obtain ⟨j13,hj13,h14⟩:=obind h;refine CW.jn [0,5,6,7] [] [(27,.bool j13)] hS2 (h1:=?_) (h2:=?_)
     · have h:=hj13;refine go ?_;replace ⟨y15,hy15,h⟩:=obind h;refine LW.c0 (W_i_within hy15) hS2 fun w16 hS3=>?_;refine go ?_;rcases bcases (!y15) with hc17 | hc17
       · replace h:=bcT h hc17;refine go ?_;cases oi h;exact ⟨⟨rfl,rfl,rfl,rfl,rfl,trivial⟩,hS3.pick [] rfl rfl⟩
       replace h:=bcF h hc17;refine go ?_;rcases bcases (decide (s1 > 0)) with hc18 | hc18
       · replace h:=bcT h hc18;refine go ?_;replace ⟨y19,hy19,h⟩:=obind h;obtain ⟨b22,o23,cs24,hae,hb27,hp20,hq21,hd25,hk26⟩:=hr0_0.idx hy19;cases hae;obtain rfl:=hd25;refine go ?_;refine LW.u (Pur.ix Tryz.underlying52 sz3 rfl rfl hp20 hq21) rfl ?_;refine LW.fl [0,4,5,6,7,15,18,22] fun e=>?_;refine go ?_;refine LW.l (Ldr.old w0 ag3 rfl (hk26 0 _ rfl)) (hS3.same _ hb27.1 hb27.2) rfl ?_;refine go ?_;cases oi h;exact ⟨⟨rfl,rfl,rfl,rfl,rfl,trivial⟩,hS3.pick [] rfl rfl⟩
       replace h:=bcF h hc18;refine go ?_;cases oi h;exact ⟨⟨rfl,rfl,rfl,rfl,rfl,trivial⟩,hS3.pick [] rfl rfl⟩
     intro e w28 hS4;have h:=h14;refine go ?_;refine cd (fun hc29=>?_) fun hc29=>?_
     · replace h:=bcT h hc29;refine go ?_;cases oi h;exact ⟨trivial,rfl,_,rfl,⟨_,Res.one (resOne.t rfl),rfl,hS4.pick [] rfl rfl⟩⟩
     replace h:=bcF h hc29;refine go ?_;cases oi h;exact ⟨rfl,⟨⟨rfl,rfl,rfl,rfl,trivial⟩,hS4.pick [] rfl rfl⟩⟩
   replace h:=bcF h hc3;refine go ?_;cases oi h;exact ⟨trivial,rfl,⟨trivial,hS2.pick [] rfl rfl⟩⟩
 intro x e w32 hM;rcases o30 with o30 | r33
 · obtain ⟨rfl,hM⟩:=hM;obtain ⟨hE,hS5⟩:=hM;obtain ⟨e,rfl⟩:=hE.out;rw [show e=upds e [] from rfl];have h:=h31;refine go ?_;cases h;exact fi hS5
 obtain ⟨rfl,u,rfl,hM⟩:=hM;cases h31;exact And.intro trivial hM
theorem W_i_isAmount {w0:World} {N:Nat} {x0:Int} {r:Bool} (h:F_i_isAmount N x0=some r) :
    Ret Tryz.prog 156 #[.int .i64 x0] w0 (fun v w=>v=.bool r∧St w0 [] w []):=by
 unfold F_i_isAmount at h;refine Ret.fn Tryz.func156 fun e=>?_;have hS1:=St.start w0;refine go ?_;replace ⟨y1,hy1,h⟩:=obind h;refine LW.c0 (W_i_within hy1) hS1 fun w2 hS2=>?_;refine go ?_;cases h;exact fi hS2
theorem W_i_isSlot {w0:World} {N:Nat} {x0:Int} {r:Bool} (h:F_i_isSlot N x0=some r) :
    Ret Tryz.prog 123 #[.int .i64 x0] w0 (fun v w=>v=.bool r∧St w0 [] w []):=by
 unfold F_i_isSlot at h;refine Ret.fn Tryz.func123 fun e=>?_;have hS1:=St.start w0;refine go ?_;replace ⟨y1,hy1,h⟩:=obind h;refine LW.c0 (W_i_within hy1) hS1 fun w2 hS2=>?_;refine go ?_;cases h;exact fi hS2
theorem W_z_Contains_int {w0:World} {N:Nat} {x0:List Int} {x1:Int} {r:Bool} (h:F_z_Contains_int N x0 x1=some r) {a0_0:Option Addr} {n0_0 c0_0:Nat} (hn0_0:n0_0=x0.length) (hr0_0:rdS (Bor w0 []) w0 a0_0 c0_0 x0) :
    Ret Tryz.prog 124 #[.slice a0_0 n0_0 c0_0,.int .i64 x1] w0 (fun v w=>v=.bool r∧St w0 [] w []):=by
 subst hn0_0;unfold F_z_Contains_int at h;refine Ret.fn Tryz.func124 fun e=>?_;have hS1:=St.start w0;refine go ?_;replace ⟨y1,hy1,h⟩:=obind h;refine LW.c0 (W_z_Index_int hy1 rfl (hS1.rB hr0_0)) hS1 fun w2 hS2=>?_;refine go ?_;cases h;exact fi hS2
theorem W_i_sameObj {w0:World} {N:Nat} {x0:DObj} {x1:DObj} {r:Bool} (h:F_i_sameObj N x0 x1=some r) {a0_10:Option Addr} {n0_10 c0_10:Nat} (hn0_10:n0_10=x0.links.length) (hr0_10:rdS (Bor w0 []) w0 a0_10 c0_10 x0.links) {a0_11:Option Addr} {n0_11 c0_11:Nat} (hn0_11:n0_11=x0.data.length) (hr0_11:rdS (Bor w0 []) w0 a0_11 c0_11 x0.data) {a0_12:Option Addr} {n0_12 c0_12:Nat} (hn0_12:n0_12=x0.queue.length) (hr0_12:rdS (Bor w0 []) w0 a0_12 c0_12 x0.queue) {a1_10:Option Addr} {n1_10 c1_10:Nat} (hn1_10:n1_10=x1.links.length) (hr1_10:rdS (Bor w0 []) w0 a1_10 c1_10 x1.links) {a1_11:Option Addr} {n1_11 c1_11:Nat} (hn1_11:n1_11=x1.data.length) (hr1_11:rdS (Bor w0 []) w0 a1_11 c1_11 x1.data) {a1_12:Option Addr} {n1_12 c1_12:Nat} (hn1_12:n1_12=x1.queue.length) (hr1_12:rdS (Bor w0 []) w0 a1_12 c1_12 x1.queue) :
    Ret Tryz.prog 219 #[.agg #[.int .i64 x0.gen,.int .i64 x0.kind,.int .i64 x0.box,.int .i64 x0.res,.int .i64 x0.til,.int .i64 x0.pages,.int .i64 x0.wait,.int .i64 x0.got,.int .i64 x0.ran,.bool x0.mark,.slice a0_10 n0_10 c0_10,.slice a0_11 n0_11 c0_11,.slice a0_12 n0_12 c0_12],.agg #[.int .i64 x1.gen,.int .i64 x1.kind,.int .i64 x1.box,.int .i64 x1.res,.int .i64 x1.til,.int .i64 x1.pages,.int .i64 x1.wait,.int .i64 x1.got,.int .i64 x1.ran,.bool x1.mark,.slice a1_10 n1_10 c1_10,.slice a1_11 n1_11 c1_11,.slice a1_12 n1_12 c1_12]] w0 (fun v w=>v=.bool r∧St w0 [] w []):=by
 subst hn0_10 hn0_11 hn0_12 hn1_10 hn1_11 hn1_12;unfold F_i_sameObj at h;refine Ret.fn Tryz.func219 fun e=>?_;have hS1:=St.start w0;refine go ?_;refine LW.bo hS1 fun g1 w2 hS2=>?_;refine LW.bo hS2 fun g3 w4 hS3=>?_;refine go ?_;rcases bcases (x0.gen==x1.gen) with hc5 | hc5
 · replace h:=bcT h hc5;refine go ?_;rcases bcases (x0.kind==x1.kind) with hc6 | hc6
   · replace h:=bcT h hc6;refine go ?_;refine LW.fl [2,3,24] fun e=>?_;rcases bcases (x0.box==x1.box) with hc7 | hc7
     · replace h:=bcT h hc7;refine go ?_;rcases bcases (x0.res==x1.res) with hc8 | hc8
       · replace h:=bcT h hc8;refine go ?_;rcases bcases (x0.til==x1.til) with hc9 | hc9
         · replace h:=bcT h hc9;refine go ?_;rcases bcases (x0.pages==x1.pages) with hc10 | hc10
           · replace h:=bcT h hc10;refine go ?_;refine LW.fl [2,3,52] fun e=>?_;rcases bcases (x0.wait==x1.wait) with hc11 | hc11
             · replace h:=bcT h hc11;refine go ?_;rcases bcases (x0.got==x1.got) with hc12 | hc12
               · replace h:=bcT h hc12;refine go ?_;rcases bcases (x0.ran==x1.ran) with hc13 | hc13
                 · replace h:=bcT h hc13;refine go ?_;refine LW.u (Pur.beq Tryz.underlying4 rfl rfl) rfl ?_;refine go ?_;rcases bcases (x0.mark==x1.mark) with hc14 | hc14
                   · replace h:=bcT h hc14;refine go ?_;refine LW.fl [2,3,73,75,77] fun e=>?_;replace ⟨y15,hy15,h⟩:=obind h;refine go ?_;refine LW.c0 (W_z_Equal_int hy15 rfl (hS3.rB hr0_10) rfl (hS3.rB hr1_10)) hS3 fun w16 hS4=>?_;refine go ?_;rcases bcases y15 with hc17 | hc17
                     · replace h:=bcT h hc17;refine go ?_;replace ⟨y18,hy18,h⟩:=obind h;refine go ?_;refine LW.c0 (W_z_Equal_int hy18 rfl (hS4.rB hr0_11) rfl (hS4.rB hr1_11)) hS4 fun w19 hS5=>?_;refine go ?_;rcases bcases y18 with hc20 | hc20
                       · replace h:=bcT h hc20;refine go ?_;replace ⟨y21,hy21,h⟩:=obind h;refine go ?_;refine LW.c0 (W_z_Equal_Msg hy21 rfl (hS5.rB hr0_12) rfl (hS5.rB hr1_12)) hS5 fun w22 hS6=>?_;refine go ?_;cases h;exact fi hS6
                       replace h:=bcF h hc20;refine go ?_;cases h;exact fi hS5
                     replace h:=bcF h hc17;refine go ?_;cases h;exact fi hS4
                   replace h:=bcF h hc14;refine go ?_;cases h;exact fi hS3
                 replace h:=bcF h hc13;refine go ?_;cases h;exact fi hS3
               replace h:=bcF h hc12;refine go ?_;cases h;exact fi hS3
             replace h:=bcF h hc11;refine go ?_;cases h;exact fi hS3
           replace h:=bcF h hc10;refine go ?_;cases h;exact fi hS3
         replace h:=bcF h hc9;refine go ?_;cases h;exact fi hS3
       replace h:=bcF h hc8;refine go ?_;cases h;exact fi hS3
     replace h:=bcF h hc7;refine go ?_;cases h;exact fi hS3
   replace h:=bcF h hc6;refine go ?_;cases h;exact fi hS3
 replace h:=bcF h hc5;refine go ?_;cases h;exact fi hS3
theorem W_i_isHandle {w0:World} {N:Nat} {x0:Int} {r:Bool} (h:F_i_isHandle N x0=some r) :
    Ret Tryz.prog 178 #[.int .i64 x0] w0 (fun v w=>v=.bool r∧St w0 [] w []):=by
 unfold F_i_isHandle at h;refine Ret.fn Tryz.func178 fun e=>?_;have hS1:=St.start w0;refine go ?_;replace ⟨y1,hy1,h⟩:=obind h;refine LW.c0 (W_i_within hy1) hS1 fun w2 hS2=>?_;refine go ?_;cases h;exact fi hS2
theorem W_i_hasPart {w0:World} {N:Nat} {x0:DWorld} {x1:Int} {r:Bool} (h:F_i_hasPart N x0 x1=some r) {a0_1:Option Addr} {n0_1 c0_1:Nat} (hn0_1:n0_1=x0.parts.length) (hr0_1:rdS (Bor w0 []) w0 a0_1 c0_1 x0.parts) :
    Ret Tryz.prog 38 #[.agg #[.int .i64 x0.now,.slice a0_1 n0_1 c0_1],.int .i64 x1] w0 (fun v w=>v=.bool r∧St w0 [] w []):=by
 subst hn0_1;unfold F_i_hasPart at h;refine Ret.fn Tryz.func38 fun e=>?_;have hS1:=St.start w0;refine go ?_;refine LW.bo hS1 fun g1 w2 hS2=>?_;refine go ?_;replace ⟨y3,hy3,h⟩:=obind h;refine LW.c0 (W_i_within hy3) hS2 fun w4 hS3=>?_;refine go ?_;cases h;exact fi hS3
theorem W_i_copyTrees {w0:World} {N:Nat} {x0:List DTree} {r:(List DTree)} (h:F_i_copyTrees N x0=some r) {a0_0:Option Addr} {n0_0 c0_0:Nat} (hn0_0:n0_0=x0.length) (hr0_0:rdS (Bor w0 []) w0 a0_0 c0_0 x0) :
    Ret Tryz.prog 88 #[.slice a0_0 n0_0 c0_0] w0 (fun v w=>∃ ar0 cr0,v=.slice ar0 r.length cr0∧St w0 [] w [sl ar0 cr0 r]):=by
 subst hn0_0;unfold F_i_copyTrees at h;refine Ret.fn Tryz.func88 fun e=>?_;have hS1:=St.start w0;refine go ?_;refine LW.bsl (α:=DTree) (vs:=[]) (cs:=#[]) (l:=([]:List DTree)) rfl (by kernel_rfl) rfl rfl rfl (fun w=>rfl) hS1 rfl ?_;intro a1 c2 w3 hS2 hf;refine go ?_;obtain ⟨o31,ho31,h32⟩:=obind h;refine CW.ie ho31 0 (fun s4 e wb=>∃ (s4a0:Option Addr), ∃ (s4c0:Nat),En e [(3,.slice s4a0 s4.1.length s4c0),(7,.slice a0_0 x0.length c0_0),(8,.int .i64 (x0.length:Int)),(9,.int .i64 s4.2)]∧St w0 [] wb [sl s4a0 s4c0 s4.1]) ?_ ⟨a1,c2,⟨rfl,rfl,rfl,rfl,trivial⟩,hS2.pick [0] rfl rfl⟩ ?_
 · intro s4 e w5 o hM h;obtain ⟨s4a0,s4c0,hE,hS3⟩:=hM;obtain ⟨e,rfl⟩:=hE.out;refine go ?_;refine cd (fun hc6=>?_) fun hc6=>?_
   · replace h:=bcT h hc6;refine go ?_;replace ⟨y7,hy7,h⟩:=obind h;obtain ⟨b10,o11,cs12,hae,hb15,hp8,hq9,hd13,hk14⟩:=hr0_0.idx hy7;subst hae;obtain ⟨a16,c17,rfl,hr18⟩:=hd13;refine LW.u (Pur.ix Tryz.underlying76 sz78 rfl rfl hp8 hq9) rfl ?_;refine LW.l (Ldr.oldN w0 ag78 rfl rfl (fun j u hu=>hk14 j u hu)) (hS3.same _ hb15.1 hb15.2) rfl ?_;refine LW.al hS3 fun g19 w20 hS4=>?_;refine LW.st hS4 0 fun w21 hS5=>?_;refine go ?_;replace ⟨y22,hy22,h⟩:=obind h;refine LW.cl (W_i_copyTree hy22 rfl (hS5.rB hr18)) ?_;rintro _ w25 ⟨a23,c24,rfl,hs⟩;have hS6:=hS5.add hs;refine LW.u (Pur.build (vs:=[(0,.slice a23 y22.length c24)]) (cs:=#[.slice a23 y22.length c24]) rfl (by kernel_rfl)) rfl ?_;have hS7:=hS6.pick (M:=[sl a23 c24 y22]++[bx g19 78 [.slice a16 y7.list.length c17],sl s4a0 s4c0 s4.1]) [0,1,2] rfl rfl;replace ⟨y26,hy26,h⟩:=obind h;refine LW.app1 (M:=[sl a23 c24 y22]) (L:=[bx g19 78 [.slice a16 y7.list.length c17],sl s4a0 s4c0 s4.1]) (vs:=#[.slice a23 y22.length c24]) (i:=1) sT76 rfl (by kernel_rfl) rfl rfl hy26 hS7 rfl (fun w G hG=>⟨a23,c24,rfl,hG⟩) rfl rfl ?_;intro v29 a27 c28 w30 hS8 hf;refine go ?_;cases oi h;exact ⟨rfl,⟨a27,c28,⟨rfl,rfl,rfl,rfl,trivial⟩,hS8.pick [1] rfl rfl⟩⟩
   replace h:=bcF h hc6;refine go ?_;cases oi h;exact ⟨trivial,rfl,⟨s4a0,s4c0,⟨rfl,rfl,rfl,rfl,trivial⟩,hS3.pick [0] rfl rfl⟩⟩
 rintro e w33 ⟨s4a0,s4c0,hE,hS9⟩;obtain ⟨e,rfl⟩:=hE.out;have h:=h32;refine go ?_;cases h;exact And.intro trivial ⟨_,Res.one (resOne.t rfl),s4a0,s4c0,rfl,hS9.pick [0] rfl rfl⟩
theorem W_i_copyArena {w0:World} {N:Nat} {x0:List DObj} {r:(List DObj)} (h:F_i_copyArena N x0=some r) {a0_0:Option Addr} {n0_0 c0_0:Nat} (hn0_0:n0_0=x0.length) (hr0_0:rdS (Bor w0 []) w0 a0_0 c0_0 x0) :
    Ret Tryz.prog 118 #[.slice a0_0 n0_0 c0_0] w0 (fun v w=>∃ ar0 cr0,v=.slice ar0 r.length cr0∧St w0 [] w [sl ar0 cr0 r]):=by
 subst hn0_0;unfold F_i_copyArena at h;refine Ret.fn Tryz.func118 fun e=>?_;have hS1:=St.start w0;refine go ?_;refine LW.bsl (α:=DObj) (vs:=[]) (cs:=#[]) (l:=([]:List DObj)) rfl (by kernel_rfl) rfl rfl rfl (fun w=>rfl) hS1 rfl ?_;intro a1 c2 w3 hS2 hf;refine go ?_;obtain ⟨o41,ho41,h42⟩:=obind h;refine CW.ie ho41 0 (fun s4 e wb=>∃ (s4a0:Option Addr), ∃ (s4c0:Nat),En e [(3,.slice s4a0 s4.1.length s4c0),(7,.slice a0_0 x0.length c0_0),(8,.int .i64 (x0.length:Int)),(9,.int .i64 s4.2)]∧St w0 [] wb [sl s4a0 s4c0 s4.1]) ?_ ⟨a1,c2,⟨rfl,rfl,rfl,rfl,trivial⟩,hS2.pick [0] rfl rfl⟩ ?_
 · intro s4 e w5 o hM h;obtain ⟨s4a0,s4c0,hE,hS3⟩:=hM;obtain ⟨e,rfl⟩:=hE.out;refine go ?_;refine cd (fun hc6=>?_) fun hc6=>?_
   · replace h:=bcT h hc6;refine go ?_;replace ⟨y7,hy7,h⟩:=obind h;obtain ⟨b10,o11,cs12,hae,hb15,hp8,hq9,hd13,hk14⟩:=hr0_0.idx hy7;subst hae;obtain ⟨a16,c17,a19,c20,a22,c23,rfl,hr18,hr21,hr24⟩:=hd13;refine LW.u (Pur.ix Tryz.underlying60 sz104 rfl rfl hp8 hq9) rfl ?_;refine LW.l (Ldr.oldN w0 ag104 rfl rfl (fun j u hu=>hk14 j u hu)) (hS3.same _ hb15.1 hb15.2) rfl ?_;refine LW.al hS3 fun g25 w26 hS4=>?_;refine LW.st hS4 0 fun w27 hS5=>?_;refine go ?_;replace ⟨y28,hy28,h⟩:=obind h;refine LW.cl (W_i_copyObj hy28 rfl (hS5.rB hr18) rfl (hS5.rB hr21) rfl (hS5.rB hr24)) ?_;rintro _ w35 ⟨a29,c30,a31,c32,a33,c34,rfl,hs⟩;have hS6:=hS5.add hs;have hS7:=hS6.pick (M:=[sl a29 c30 y28.links,sl a31 c32 y28.data,sl a33 c34 y28.queue]++[bx g25 104 [.int .i64 y7.gen,.int .i64 y7.kind,.int .i64 y7.box,.int .i64 y7.res,.int .i64 y7.til,.int .i64 y7.pages,.int .i64 y7.wait,.int .i64 y7.got,.int .i64 y7.ran,.bool y7.mark,.slice a16 y7.links.length c17,.slice a19 y7.data.length c20,.slice a22 y7.queue.length c23],sl s4a0 s4c0 s4.1]) [0,1,2,3,4] rfl rfl;replace ⟨y36,hy36,h⟩:=obind h;refine LW.app1 (M:=[sl a29 c30 y28.links,sl a31 c32 y28.data,sl a33 c34 y28.queue]) (L:=[bx g25 104 [.int .i64 y7.gen,.int .i64 y7.kind,.int .i64 y7.box,.int .i64 y7.res,.int .i64 y7.til,.int .i64 y7.pages,.int .i64 y7.wait,.int .i64 y7.got,.int .i64 y7.ran,.bool y7.mark,.slice a16 y7.links.length c17,.slice a19 y7.data.length c20,.slice a22 y7.queue.length c23],sl s4a0 s4c0 s4.1]) (vs:=#[.int .i64 y28.gen,.int .i64 y28.kind,.int .i64 y28.box,.int .i64 y28.res,.int .i64 y28.til,.int .i64 y28.pages,.int .i64 y28.wait,.int .i64 y28.got,.int .i64 y28.ran,.bool y28.mark,.slice a29 y28.links.length c30,.slice a31 y28.data.length c32,.slice a33 y28.queue.length c34]) (i:=1) sT60 rfl (by kernel_rfl) rfl rfl hy36 hS7 rfl (fun w G hG=>⟨a29,c30,a31,c32,a33,c34,rfl,hG⟩) rfl rfl ?_;intro v39 a37 c38 w40 hS8 hf;refine go ?_;cases oi h;exact ⟨rfl,⟨a37,c38,⟨rfl,rfl,rfl,rfl,trivial⟩,hS8.pick [1] rfl rfl⟩⟩
   replace h:=bcF h hc6;refine go ?_;cases oi h;exact ⟨trivial,rfl,⟨s4a0,s4c0,⟨rfl,rfl,rfl,rfl,trivial⟩,hS3.pick [0] rfl rfl⟩⟩
 rintro e w43 ⟨s4a0,s4c0,hE,hS9⟩;obtain ⟨e,rfl⟩:=hE.out;have h:=h42;refine go ?_;cases h;exact And.intro trivial ⟨_,Res.one (resOne.t rfl),s4a0,s4c0,rfl,hS9.pick [0] rfl rfl⟩
theorem W_i_TapOk {w0:World} {N:Nat} {x0:DTap} {r:Bool} (h:F_i_TapOk N x0=some r) :
    Ret Tryz.prog 90 #[.agg #[.int .i64 x0.res,.int .i64 x0.toPart,.int .i64 x0.toRes,.int .i64 x0.which,.int .i64 x0.kind,.int .i64 x0.rate]] w0 (fun v w=>v=.bool r∧St w0 [] w []):=by
 unfold F_i_TapOk at h;refine Ret.fn Tryz.func90 fun e=>?_;have hS1:=St.start w0;refine go ?_;refine LW.bo hS1 fun g1 w2 hS2=>?_;refine gs ?_;obtain ⟨j3,hj3,h4⟩:=obind h;refine CW.jn [1] [0] [(24,.bool j3)] hS2 (h1:=?_) (h2:=?_)
 · have h:=hj3;refine go ?_;replace ⟨y5,hy5,h⟩:=obind h;refine LW.c0 (W_i_isPlace hy5) hS2 fun w6 hS3=>?_;refine go ?_;rcases bcases (!y5) with hc7 | hc7
   · replace h:=bcT h hc7;refine go ?_;cases oi h;exact ⟨⟨rfl,rfl,trivial⟩,hS3.pick [0] rfl rfl⟩
   replace h:=bcF h hc7;refine go ?_;replace ⟨y8,hy8,h⟩:=obind h;refine go ?_;refine LW.c0 (W_i_isPlace hy8) hS3 fun w9 hS4=>?_;refine go ?_;rcases bcases (!y8) with hc10 | hc10
   · replace h:=bcT h hc10;refine go ?_;cases oi h;exact ⟨⟨rfl,rfl,trivial⟩,hS4.pick [0] rfl rfl⟩
   replace h:=bcF h hc10;refine go ?_;replace ⟨y11,hy11,h⟩:=obind h;refine go ?_;refine LW.c0 (W_i_isPart hy11) hS4 fun w12 hS5=>?_;refine go ?_;rcases bcases (!y11) with hc13 | hc13
   · replace h:=bcT h hc13;refine go ?_;cases oi h;exact ⟨⟨rfl,rfl,trivial⟩,hS5.pick [0] rfl rfl⟩
   replace h:=bcF h hc13;refine go ?_;replace ⟨y14,hy14,h⟩:=obind h;refine go ?_;refine LW.c0 (W_i_within hy14) hS5 fun w15 hS6=>?_;refine go ?_;cases oi h;exact ⟨⟨rfl,rfl,trivial⟩,hS6.pick [0] rfl rfl⟩
 intro e w16 hS7;have h:=h4;refine go ?_;refine cd (fun hc17=>?_) fun hc17=>?_
 · replace h:=bcT h hc17;refine go ?_;cases h;exact fi hS7
 replace h:=bcF h hc17;refine go ?_;rcases bcases (x0.kind==1) with hc18 | hc18
 · replace h:=bcT h hc18;refine go ?_;replace ⟨y19,hy19,h⟩:=obind h;refine go ?_;refine LW.c0 (W_i_within hy19) hS7 fun w20 hS8=>?_;refine go ?_;rcases bcases y19 with hc21 | hc21
   · replace h:=bcT h hc21;refine go ?_;cases h;exact fi hS8
   replace h:=bcF h hc21;refine go ?_;rcases bcases (x0.kind==2) with hc22 | hc22
   · replace h:=bcT h hc22;refine go ?_;replace ⟨y23,hy23,h⟩:=obind h;refine go ?_;refine LW.c0 (W_i_within hy23) hS8 fun w24 hS9=>?_;refine go ?_;cases h;exact fi hS9
   replace h:=bcF h hc22;refine go ?_;cases h;exact fi hS8
 replace h:=bcF h hc18;refine go ?_;rcases bcases (x0.kind==2) with hc25 | hc25
 · replace h:=bcT h hc25;refine go ?_;replace ⟨y26,hy26,h⟩:=obind h;refine go ?_;refine LW.c0 (W_i_within hy26) hS7 fun w27 hS10=>?_;refine go ?_;cases h;exact fi hS10
 replace h:=bcF h hc25;refine go ?_;cases h;exact fi hS7
theorem W_i_AmtOk {w0:World} {N:Nat} {x0:DAmt} {r:Bool} (h:F_i_AmtOk N x0=some r) :
    Ret Tryz.prog 87 #[.agg #[.int .i64 x0.pages,.int .i64 x0.rent,.int .i64 x0.cpu]] w0 (fun v w=>v=.bool r∧St w0 [] w []):=by
 unfold F_i_AmtOk at h;refine Ret.fn Tryz.func87 fun e=>?_;have hS1:=St.start w0;refine go ?_;refine LW.bo hS1 fun g1 w2 hS2=>?_;refine go ?_;replace ⟨y3,hy3,h⟩:=obind h;refine LW.c0 (W_i_isAmount hy3) hS2 fun w4 hS3=>?_;refine go ?_;rcases bcases y3 with hc5 | hc5
 · replace h:=bcT h hc5;refine go ?_;replace ⟨y6,hy6,h⟩:=obind h;refine go ?_;refine LW.c0 (W_i_isAmount hy6) hS3 fun w7 hS4=>?_;refine go ?_;rcases bcases y6 with hc8 | hc8
   · replace h:=bcT h hc8;refine go ?_;replace ⟨y9,hy9,h⟩:=obind h;refine go ?_;refine LW.c0 (W_i_isAmount hy9) hS4 fun w10 hS5=>?_;refine go ?_;cases h;exact fi hS5
   replace h:=bcF h hc8;refine go ?_;cases h;exact fi hS4
 replace h:=bcF h hc5;refine go ?_;cases h;exact fi hS3
theorem W_i_isLive {w0:World} {N:Nat} {x0:List DRes} {x1:Int} {r:Bool} (h:F_i_isLive N x0 x1=some r) {a0_0:Option Addr} {n0_0 c0_0:Nat} (hn0_0:n0_0=x0.length) (hr0_0:rdS (Bor w0 []) w0 a0_0 c0_0 x0) :
    Ret Tryz.prog 91 #[.slice a0_0 n0_0 c0_0,.int .i64 x1] w0 (fun v w=>v=.bool r∧St w0 [] w []):=by
 subst hn0_0;unfold F_i_isLive at h;refine Ret.fn Tryz.func91 fun e=>?_;have hS1:=St.start w0;refine go ?_;replace ⟨y1,hy1,h⟩:=obind h;refine LW.c0 (W_i_isPlace hy1) hS1 fun w2 hS2=>?_;refine go ?_;rcases bcases y1 with hc3 | hc3
 · replace h:=bcT h hc3;refine go ?_;replace ⟨y4,hy4,h⟩:=obind h;obtain ⟨b7,o8,cs9,hae,hb12,hp5,hq6,hd10,hk11⟩:=hr0_0.idx hy4;subst hae;obtain rfl:=hd10;refine go ?_;refine LW.u (Pur.ix Tryz.underlying59 sz138 rfl rfl hp5 hq6) rfl ?_;refine go ?_;refine LW.l (Ldr.old w0 ag4 rfl (hk11 0 _ rfl)) (hS2.same _ hb12.1 hb12.2) rfl ?_;refine go ?_;cases h;exact fi hS2
 replace h:=bcF h hc3;refine go ?_;cases h;exact fi hS2
theorem W_i_listsOk {w0:World} {N:Nat} {x0:DObj} {r:Bool} (h:F_i_listsOk N x0=some r) {a0_10:Option Addr} {n0_10 c0_10:Nat} (hn0_10:n0_10=x0.links.length) (hr0_10:rdS (Bor w0 []) w0 a0_10 c0_10 x0.links) {a0_11:Option Addr} {n0_11 c0_11:Nat} (hn0_11:n0_11=x0.data.length) (hr0_11:rdS (Bor w0 []) w0 a0_11 c0_11 x0.data) {a0_12:Option Addr} {n0_12 c0_12:Nat} (hn0_12:n0_12=x0.queue.length) (hr0_12:rdS (Bor w0 []) w0 a0_12 c0_12 x0.queue) :
    Ret Tryz.prog 220 #[.agg #[.int .i64 x0.gen,.int .i64 x0.kind,.int .i64 x0.box,.int .i64 x0.res,.int .i64 x0.til,.int .i64 x0.pages,.int .i64 x0.wait,.int .i64 x0.got,.int .i64 x0.ran,.bool x0.mark,.slice a0_10 n0_10 c0_10,.slice a0_11 n0_11 c0_11,.slice a0_12 n0_12 c0_12]] w0 (fun v w=>v=.bool r∧St w0 [] w []):=by
 subst hn0_10 hn0_11 hn0_12;unfold F_i_listsOk at h;refine Ret.fn Tryz.func220 fun e=>?_;have hS1:=St.start w0;refine go ?_;refine LW.bo hS1 fun g1 w2 hS2=>?_;refine go ?_;obtain ⟨o18,ho18,h19⟩:=obind h;refine CW.mono (CW.lx [1,12,13] [0] [1] 0 (fun s3=>[(14,.int .i64 s3)]) (RT Tryz.prog Tryz.f220.results (fun u=>.bool u) w0 []) hS2 ho18 (hb:=?_)) ?_
 · intro s3 e w4 o hS3 h;refine go ?_;refine cd (fun hc5=>?_) fun hc5=>?_
   · replace h:=bcT h hc5;refine go ?_;replace ⟨y6,hy6,h⟩:=obind h;obtain ⟨b9,o10,cs11,hae,hb14,hp7,hq8,hd12,hk13⟩:=hr0_10.idx hy6;subst hae;obtain rfl:=hd12;refine LW.u (Pur.ix Tryz.underlying52 sz3 rfl rfl hp7 hq8) rfl ?_;refine LW.l (Ldr.old w0 ag3 rfl (hk13 0 _ rfl)) (hS3.same _ hb14.1 hb14.2) rfl ?_;refine go ?_;replace ⟨y15,hy15,h⟩:=obind h;refine LW.c0 (W_i_within hy15) hS3 fun w16 hS4=>?_;refine go ?_;refine CW.fl [1,12,13,14,20] fun e=>?_;refine cd (fun hc17=>?_) fun hc17=>?_
     · replace h:=bcT h hc17;refine go ?_;cases oi h;exact ⟨trivial,rfl,_,rfl,⟨_,Res.one (resOne.t rfl),rfl,hS4.pick [] rfl rfl⟩⟩
     replace h:=bcF h hc17;refine go ?_;cases oi h;exact ⟨rfl,⟨⟨rfl,rfl,rfl,rfl,trivial⟩,hS4.pick [0] rfl rfl⟩⟩
   replace h:=bcF h hc5;refine go ?_;cases oi h;exact ⟨trivial,rfl,⟨⟨rfl,trivial⟩,hS3.pick [0] rfl rfl⟩⟩
 intro x e w20 hM;rcases o18 with o18 | r81
 · obtain ⟨rfl,hM⟩:=hM;obtain ⟨hE,hS5⟩:=hM;obtain ⟨e,rfl⟩:=hE.out;have h:=h19;refine go ?_;obtain ⟨o36,ho36,h37⟩:=obind h;refine CW.mono (CW.lx [1,23,24] [0] [1] 2 (fun s21=>[(25,.int .i64 s21)]) (RT Tryz.prog Tryz.f220.results (fun u=>.bool u) w0 []) hS5 ho36 (hb:=?_)) ?_
   · intro s21 e w22 o hS6 h;refine go ?_;refine cd (fun hc23=>?_) fun hc23=>?_
     · replace h:=bcT h hc23;refine go ?_;replace ⟨y24,hy24,h⟩:=obind h;obtain ⟨b27,o28,cs29,hae,hb32,hp25,hq26,hd30,hk31⟩:=hr0_11.idx hy24;subst hae;obtain rfl:=hd30;refine LW.u (Pur.ix Tryz.underlying52 sz3 rfl rfl hp25 hq26) rfl ?_;refine LW.l (Ldr.old w0 ag3 rfl (hk31 0 _ rfl)) (hS6.same _ hb32.1 hb32.2) rfl ?_;refine go ?_;replace ⟨y33,hy33,h⟩:=obind h;refine LW.c0 (W_i_within hy33) hS6 fun w34 hS7=>?_;refine go ?_;refine CW.fl [1,23,24,25,31] fun e=>?_;refine cd (fun hc35=>?_) fun hc35=>?_
       · replace h:=bcT h hc35;refine go ?_;cases oi h;exact ⟨trivial,rfl,_,rfl,⟨_,Res.one (resOne.t rfl),rfl,hS7.pick [] rfl rfl⟩⟩
       replace h:=bcF h hc35;refine go ?_;cases oi h;exact ⟨rfl,⟨⟨rfl,rfl,rfl,rfl,trivial⟩,hS7.pick [0] rfl rfl⟩⟩
     replace h:=bcF h hc23;refine go ?_;cases oi h;exact ⟨trivial,rfl,⟨⟨rfl,trivial⟩,hS6.pick [0] rfl rfl⟩⟩
   intro x e w38 hM;rcases o36 with o36 | r80
   · obtain ⟨rfl,hM⟩:=hM;obtain ⟨hE,hS8⟩:=hM;obtain ⟨e,rfl⟩:=hE.out;have h:=h37;refine go ?_;obtain ⟨o66,ho66,h67⟩:=obind h;refine CW.mono (CW.lx [1,34,35] [0] [1] 4 (fun s39=>[(36,.int .i64 s39)]) (RT Tryz.prog Tryz.f220.results (fun u=>.bool u) w0 []) hS8 ho66 (hb:=?_)) ?_
     · intro s39 e w40 o hS9 h;refine go ?_;refine CW.fl [1,34,35,36,37] fun e=>?_;refine cd (fun hc41=>?_) fun hc41=>?_
       · replace h:=bcT h hc41;refine go ?_;replace ⟨y42,hy42,h⟩:=obind h;obtain ⟨b45,o46,cs47,hae,hb50,hp43,hq44,hd48,hk49⟩:=hr0_12.idx hy42;subst hae;obtain rfl:=hd48;refine LW.u (Pur.ix Tryz.underlying102 sz170 rfl rfl hp43 hq44) rfl ?_;refine LW.l (Ldr.oldN w0 ag170 rfl rfl (fun j u hu=>hk49 j u hu)) (hS9.same _ hb50.1 hb50.2) rfl ?_;refine LW.al hS9 fun g51 w52 hS10=>?_;refine LW.st hS10 0 fun w53 hS11=>?_;refine gs ?_;obtain ⟨j54,hj54,h55⟩:=obind h;refine CW.jn [1,34,35,36] [1] [(54,.bool j54)] hS11 (h1:=?_) (h2:=?_)
         · have h:=hj54;refine go ?_;rcases bcases (y42.src != (-1)) with hc56 | hc56
           · replace h:=bcT h hc56;refine go ?_;replace ⟨y57,hy57,h⟩:=obind h;refine go ?_;refine LW.c0 (W_i_isHandle hy57) hS11 fun w58 hS12=>?_;refine go ?_;rcases bcases (!y57) with hc59 | hc59
             · replace h:=bcT h hc59;refine go ?_;cases oi h;exact ⟨⟨rfl,rfl,rfl,rfl,rfl,trivial⟩,hS12.pick [1] rfl rfl⟩
             replace h:=bcF h hc59;refine go ?_;replace ⟨y60,hy60,h⟩:=obind h;refine go ?_;refine LW.c0 (W_i_within hy60) hS12 fun w61 hS13=>?_;refine go ?_;cases oi h;exact ⟨⟨rfl,rfl,rfl,rfl,rfl,trivial⟩,hS13.pick [1] rfl rfl⟩
           replace h:=bcF h hc56;refine go ?_;replace ⟨y62,hy62,h⟩:=obind h;refine go ?_;refine LW.c0 (W_i_within hy62) hS11 fun w63 hS14=>?_;refine go ?_;cases oi h;exact ⟨⟨rfl,rfl,rfl,rfl,rfl,trivial⟩,hS14.pick [1] rfl rfl⟩
         intro e w64 hS15;have h:=h55;refine go ?_;refine cd (fun hc65=>?_) fun hc65=>?_
         · replace h:=bcT h hc65;refine go ?_;cases oi h;exact ⟨trivial,rfl,_,rfl,⟨_,Res.one (resOne.t rfl),rfl,hS15.pick [] rfl rfl⟩⟩
         replace h:=bcF h hc65;refine go ?_;cases oi h;exact ⟨rfl,⟨⟨rfl,rfl,rfl,rfl,trivial⟩,hS15.pick [0] rfl rfl⟩⟩
       replace h:=bcF h hc41;refine go ?_;cases oi h;exact ⟨trivial,rfl,⟨⟨rfl,trivial⟩,hS9.pick [0] rfl rfl⟩⟩
     intro x e w68 hM;rcases o66 with o66 | r79
     · obtain ⟨rfl,hM⟩:=hM;obtain ⟨hE,hS16⟩:=hM;obtain ⟨e,rfl⟩:=hE.out;have h:=h67;refine gs ?_;refine CW.region ?_;refine gs ?_;refine CW.region ?_;refine gs ?_;obtain ⟨j69,hj69,h70⟩:=obind h;refine CW.jn [1,10] [0] [(9,.int .i64 j69)] hS16 (h1:=?_) (h2:=?_)
       · have h:=hj69;refine CW.fl [1,9,10,58] fun e=>?_;refine cd (fun hc71=>?_) fun hc71=>?_
         · replace h:=bcT h hc71;refine go ?_;cases oi h;exact ⟨⟨rfl,rfl,rfl,trivial⟩,hS16.pick [0] rfl rfl⟩
         replace h:=bcF h hc71;refine go ?_;cases oi h;exact ⟨⟨rfl,rfl,rfl,trivial⟩,hS16.pick [0] rfl rfl⟩
       intro e w72 hS17;have h:=h70;refine gs ?_;refine CW.region ?_;refine gs ?_;obtain ⟨j73,hj73,h74⟩:=obind h;refine CW.jn [1,9] [0] [(10,.int .i64 j73)] hS17 (h1:=?_) (h2:=?_)
       · have h:=hj73;refine CW.fl [1,9,10,63] fun e=>?_;refine cd (fun hc75=>?_) fun hc75=>?_
         · replace h:=bcT h hc75;refine go ?_;cases oi h;exact ⟨⟨rfl,rfl,rfl,trivial⟩,hS17.pick [0] rfl rfl⟩
         replace h:=bcF h hc75;refine go ?_;cases oi h;exact ⟨⟨rfl,rfl,rfl,trivial⟩,hS17.pick [0] rfl rfl⟩
       intro e w76 hS18;have h:=h74;refine go ?_;refine LW.fl [1,9,10,68] fun e=>?_;rcases bcases ((x0.links.length:Int)==2) with hc77 | hc77
       · replace h:=bcT h hc77;refine go ?_;rcases bcases ((x0.data.length:Int)==j69) with hc78 | hc78
         · replace h:=bcT h hc78;refine go ?_;cases h;exact fi hS18
         replace h:=bcF h hc78;refine go ?_;cases h;exact fi hS18
       replace h:=bcF h hc77;refine go ?_;cases h;exact fi hS18
     obtain ⟨rfl,u,rfl,hM⟩:=hM;cases h67;exact And.intro trivial hM
   obtain ⟨rfl,u,rfl,hM⟩:=hM;cases h37;exact And.intro trivial hM
 obtain ⟨rfl,u,rfl,hM⟩:=hM;cases h19;exact And.intro trivial hM
end Go.Kx
