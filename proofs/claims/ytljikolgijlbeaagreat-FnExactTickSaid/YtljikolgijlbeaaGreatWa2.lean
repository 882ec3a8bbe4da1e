/- Each call returns what the plain function says. Printed by drive.py. -/
import Derived.Test.YtljikolgijlbeaaGreatFa
import Derived.Test.YtljikolgijlbeaaGreatPu
import Derived.Test.YtljikolgijlbeaaGreatWa0
import Derived.Test.YtljikolgijlbeaaGreatWa1
import Derived.Test.YtljikolgijlbeaaGreatWa6
namespace Go.Kx
open Go Go.RowKit Go.Proofs
set_option maxRecDepth 10000
set_option maxHeartbeats 8000000
set_option linter.unusedVariables false
set_option linter.unusedSimpArgs false
theorem W_s_l10Copy {w0:World} {N:Nat} {x0:DHeap} {r:DHeap} (h:F_s_l10Copy N x0=some r) {a0_0:Option Addr} {n0_0 c0_0:Nat} (hn0_0:n0_0=x0.arena.length) (hr0_0:rdS (Bor w0 []) w0 a0_0 c0_0 x0.arena) {a0_4:Option Addr} {n0_4 c0_4:Nat} (hn0_4:n0_4=x0.gc.grey.length) (hr0_4:rdS (Bor w0 []) w0 a0_4 c0_4 x0.gc.grey) :
    Ret Tryz.prog 135 #[.agg #[.slice a0_0 n0_0 c0_0,.int .i64 x0.gc.phase,.int .i64 x0.gc.pos,.int .i64 x0.gc.round,.slice a0_4 n0_4 c0_4]] w0 (fun v w=>∃ ar0_0 cr0_0, ∃ ar0_4 cr0_4,v=.agg #[.slice ar0_0 r.arena.length cr0_0,.int .i64 r.gc.phase,.int .i64 r.gc.pos,.int .i64 r.gc.round,.slice ar0_4 r.gc.grey.length cr0_4]∧St w0 [] w [sl ar0_0 cr0_0 r.arena,sl ar0_4 cr0_4 r.gc.grey]):=by
 subst hn0_0 hn0_4;unfold F_s_l10Copy at h;refine Ret.fn Tryz.func135 fun e=>?_;have hS1:=St.start w0;refine go ?_;refine LW.bo hS1 fun g1 w2 hS2=>?_;refine LW.al hS2 fun g3 w4 hS3=>?_;refine go ?_;refine LW.al hS3 fun g5 w6 hS4=>?_;refine LW.st hS4 0 fun w7 hS5=>?_;refine go ?_;refine LW.bsl (α:=Int) (vs:=[]) (cs:=#[]) (l:=([]:List Int)) rfl (by kernel_rfl) rfl rfl rfl (fun w=>rfl) hS5 rfl ?_;intro a8 c9 w10 hS6 hf;refine go ?_;replace ⟨y11,hy11,h⟩:=obind h;refine LW.appN (l:=([]:List Int)) (m:=x0.gc.grey) sT52 rfl rfl (hS6.rB hr0_4) hy11 hS6 (i:=0) rfl rfl ?_;intro a12 c13 w14 hS7 hf;refine go ?_;refine LW.st hS7 1 fun w15 hS8=>?_;refine go ?_;refine CW.draw (by kernel_rfl) ?_;have hS9:=hS8.drew;refine go ?_;replace ⟨y16,hy16,h⟩:=obind h;have q:=W_s_l8Copy (w0:=w15.drew) hy16 rfl (hS9.rB hr0_0);refine AW.one (i:=2) (by kernel_rfl) ?_;refine ⟨_,rfl,?_⟩;refine LW.call pl200 rfl rfl ?_;refine Ret.mono q ?_;rintro _ w19 ⟨a17,c18,rfl,hs⟩;have hS10:=hS9.add hs;refine LW.nil ⟨rfl,(.c (St.cell (h:=hS10) (i:=2) rfl) (.w (by kernel_rfl) Kept.n)),?_⟩;refine AW.u (i:=4) rfl (by kernel_rfl) rfl rfl (Pur.build (vs:=[(0,.slice a17 y16.length c18),(1,.agg #[.int .i64 x0.gc.phase,.int .i64 x0.gc.pos,.int .i64 x0.gc.round,.slice a12 y11.length c13])]) (cs:=#[.slice a17 y16.length c18,.int .i64 x0.gc.phase,.int .i64 x0.gc.pos,.int .i64 x0.gc.round,.slice a12 y11.length c13]) rfl (by kernel_rfl)) ?_;refine AW.one (i:=5) (by kernel_rfl) ?_;refine ⟨_,rfl,?_⟩;refine LW.st hS10 3 fun w20 hS11=>?_;refine LW.nil ⟨rfl,(.w (by kernel_rfl) (.w (by kernel_rfl) Kept.n)),?_⟩;refine go ?_;cases h;exact And.intro trivial ⟨_,Res.one (resOne.b hS11 3 rfl ag64 rfl rfl),a17,c18,a12,c13,rfl,hS11.pick [0,1] rfl rfl⟩
theorem W_s_AmtOk {w0:World} {N:Nat} {x0:DAmt} {r:Bool} (h:F_s_AmtOk N x0=some r) :
    Ret Tryz.prog 71 #[.agg #[.int .i64 x0.pages,.int .i64 x0.rent,.int .i64 x0.cpu]] w0 (fun v w=>v=.bool r∧St w0 [] w []):=by
 unfold F_s_AmtOk at h;refine Ret.fn Tryz.func71 fun e=>?_;have hS1:=St.start w0;refine go ?_;refine LW.bo hS1 fun g1 w2 hS2=>?_;refine go ?_;replace ⟨y3,hy3,h⟩:=obind h;refine LW.c0 (W_s_l5In hy3) hS2 fun w4 hS3=>?_;refine go ?_;rcases bcases y3 with hc5 | hc5
 · replace h:=bcT h hc5;refine go ?_;replace ⟨y6,hy6,h⟩:=obind h;refine go ?_;refine LW.c0 (W_s_l5In hy6) hS3 fun w7 hS4=>?_;refine go ?_;rcases bcases y6 with hc8 | hc8
   · replace h:=bcT h hc8;refine go ?_;replace ⟨y9,hy9,h⟩:=obind h;refine go ?_;refine LW.c0 (W_s_l5In hy9) hS4 fun w10 hS5=>?_;refine go ?_;cases h;exact fi hS5
   replace h:=bcF h hc8;refine go ?_;cases h;exact fi hS4
 replace h:=bcF h hc5;refine go ?_;cases h;exact fi hS3
theorem W_s_ObjOk {w0:World} {N:Nat} {x0:DObj} {r:Bool} (h:F_s_ObjOk N x0=some r) {a0_10:Option Addr} {n0_10 c0_10:Nat} (hn0_10:n0_10=x0.links.length) (hr0_10:rdS (Bor w0 []) w0 a0_10 c0_10 x0.links) {a0_11:Option Addr} {n0_11 c0_11:Nat} (hn0_11:n0_11=x0.data.length) (hr0_11:rdS (Bor w0 []) w0 a0_11 c0_11 x0.data) {a0_12:Option Addr} {n0_12 c0_12:Nat} (hn0_12:n0_12=x0.queue.length) (hr0_12:rdS (Bor w0 []) w0 a0_12 c0_12 x0.queue) :
    Ret Tryz.prog 215 #[.agg #[.int .i64 x0.gen,.int .i64 x0.kind,.int .i64 x0.box,.int .i64 x0.res,.int .i64 x0.til,.int .i64 x0.pages,.int .i64 x0.wait,.int .i64 x0.got,.int .i64 x0.ran,.bool x0.mark,.slice a0_10 n0_10 c0_10,.slice a0_11 n0_11 c0_11,.slice a0_12 n0_12 c0_12]] w0 (fun v w=>v=.bool r∧St w0 [] w []):=by
 subst hn0_10 hn0_11 hn0_12;unfold F_s_ObjOk at h;refine Ret.fn Tryz.func215 fun e=>?_;have hS1:=St.start w0;refine go ?_;refine LW.bo hS1 fun g1 w2 hS2=>?_;refine go ?_;replace ⟨y3,hy3,h⟩:=obind h;refine LW.c0 (W_s_l1In hy3) hS2 fun w4 hS3=>?_;refine go ?_;refine cd (fun hc5=>?_) fun hc5=>?_
 · replace h:=bcT h hc5;refine go ?_;cases h;exact fi hS3
 replace h:=bcF h hc5;refine go ?_;refine cd (fun hc6=>?_) fun hc6=>?_
 · replace h:=bcT h hc6;refine gs ?_;obtain ⟨j7,hj7,h8⟩:=obind h;refine CW.jn [] [] [(2,.bool j7)] hS3 (h1:=?_) (h2:=?_)
   · have h:=hj7;refine go ?_;rcases bcases (x0.box==0) with hc9 | hc9
     · replace h:=bcT h hc9;refine go ?_;rcases bcases (x0.res==0) with hc10 | hc10
       · replace h:=bcT h hc10;refine go ?_;refine LW.fl [1,26] fun e=>?_;rcases bcases (x0.til==0) with hc11 | hc11
         · replace h:=bcT h hc11;refine go ?_;rcases bcases (x0.pages==0) with hc12 | hc12
           · replace h:=bcT h hc12;refine go ?_;rcases bcases (x0.wait==0) with hc13 | hc13
             · replace h:=bcT h hc13;refine go ?_;rcases bcases (x0.got==0) with hc14 | hc14
               · replace h:=bcT h hc14;refine go ?_;rcases bcases (x0.ran==0) with hc15 | hc15
                 · replace h:=bcT h hc15;refine go ?_;refine LW.fl [1,51] fun e=>?_;rcases bcases (!x0.mark) with hc16 | hc16
                   · replace h:=bcT h hc16;refine go ?_;rcases bcases ((x0.links.length:Int)==0) with hc17 | hc17
                     · replace h:=bcT h hc17;refine go ?_;rcases bcases ((x0.data.length:Int)==0) with hc18 | hc18
                       · replace h:=bcT h hc18;refine go ?_;cases oi h;exact ⟨⟨rfl,trivial⟩,hS3.pick [] rfl rfl⟩
                       replace h:=bcF h hc18;refine go ?_;cases oi h;exact ⟨⟨rfl,trivial⟩,hS3.pick [] rfl rfl⟩
                     replace h:=bcF h hc17;refine go ?_;cases oi h;exact ⟨⟨rfl,trivial⟩,hS3.pick [] rfl rfl⟩
                   replace h:=bcF h hc16;refine go ?_;cases oi h;exact ⟨⟨rfl,trivial⟩,hS3.pick [] rfl rfl⟩
                 replace h:=bcF h hc15;refine go ?_;cases oi h;exact ⟨⟨rfl,trivial⟩,hS3.pick [] rfl rfl⟩
               replace h:=bcF h hc14;refine go ?_;cases oi h;exact ⟨⟨rfl,trivial⟩,hS3.pick [] rfl rfl⟩
             replace h:=bcF h hc13;refine go ?_;cases oi h;exact ⟨⟨rfl,trivial⟩,hS3.pick [] rfl rfl⟩
           replace h:=bcF h hc12;refine go ?_;cases oi h;exact ⟨⟨rfl,trivial⟩,hS3.pick [] rfl rfl⟩
         replace h:=bcF h hc11;refine go ?_;cases oi h;exact ⟨⟨rfl,trivial⟩,hS3.pick [] rfl rfl⟩
       replace h:=bcF h hc10;refine go ?_;cases oi h;exact ⟨⟨rfl,trivial⟩,hS3.pick [] rfl rfl⟩
     replace h:=bcF h hc9;refine go ?_;cases oi h;exact ⟨⟨rfl,trivial⟩,hS3.pick [] rfl rfl⟩
   intro e w19 hS4;have h:=h8;refine go ?_;cases h;exact fi hS4
 replace h:=bcF h hc6;refine gs ?_;obtain ⟨j20,hj20,h21⟩:=obind h;refine CW.jn [1] [0] [(108,.bool j20)] hS3 (h1:=?_) (h2:=?_)
 · have h:=hj20;refine go ?_;replace ⟨y22,hy22,h⟩:=obind h;refine LW.c0 (W_s_l1In hy22) hS3 fun w23 hS5=>?_;refine go ?_;rcases bcases (!y22) with hc24 | hc24
   · replace h:=bcT h hc24;refine go ?_;cases oi h;exact ⟨⟨rfl,rfl,trivial⟩,hS5.pick [0] rfl rfl⟩
   replace h:=bcF h hc24;refine go ?_;replace ⟨y25,hy25,h⟩:=obind h;refine go ?_;refine LW.c0 (W_s_l1In hy25) hS5 fun w26 hS6=>?_;refine go ?_;rcases bcases (!y25) with hc27 | hc27
   · replace h:=bcT h hc27;refine go ?_;cases oi h;exact ⟨⟨rfl,rfl,trivial⟩,hS6.pick [0] rfl rfl⟩
   replace h:=bcF h hc27;refine go ?_;replace ⟨y28,hy28,h⟩:=obind h;refine go ?_;refine LW.c0 (W_s_l6Res hy28) hS6 fun w29 hS7=>?_;refine go ?_;refine LW.fl [1,85] fun e=>?_;rcases bcases (!y28) with hc30 | hc30
   · replace h:=bcT h hc30;refine go ?_;cases oi h;exact ⟨⟨rfl,rfl,trivial⟩,hS7.pick [0] rfl rfl⟩
   replace h:=bcF h hc30;refine go ?_;replace ⟨y31,hy31,h⟩:=obind h;refine go ?_;refine LW.c0 (W_s_l1In hy31) hS7 fun w32 hS8=>?_;refine go ?_;rcases bcases (!y31) with hc33 | hc33
   · replace h:=bcT h hc33;refine go ?_;cases oi h;exact ⟨⟨rfl,rfl,trivial⟩,hS8.pick [0] rfl rfl⟩
   replace h:=bcF h hc33;refine go ?_;replace ⟨y34,hy34,h⟩:=obind h;refine go ?_;refine LW.c0 (W_s_l1In hy34) hS8 fun w35 hS9=>?_;refine go ?_;rcases bcases (!y34) with hc36 | hc36
   · replace h:=bcT h hc36;refine go ?_;cases oi h;exact ⟨⟨rfl,rfl,trivial⟩,hS9.pick [0] rfl rfl⟩
   replace h:=bcF h hc36;refine go ?_;rcases bcases ((x0.links.length:Int) != 2) with hc37 | hc37
   · replace h:=bcT h hc37;refine go ?_;cases oi h;exact ⟨⟨rfl,rfl,trivial⟩,hS9.pick [0] rfl rfl⟩
   replace h:=bcF h hc37;refine go ?_;replace ⟨y38,hy38,h⟩:=obind h;refine go ?_;refine LW.c0 (W_s_l1In hy38) hS9 fun w39 hS10=>?_;refine go ?_;cases oi h;exact ⟨⟨rfl,rfl,trivial⟩,hS10.pick [0] rfl rfl⟩
 intro e w40 hS11;have h:=h21;refine go ?_;refine cd (fun hc41=>?_) fun hc41=>?_
 · replace h:=bcT h hc41;refine go ?_;cases h;exact fi hS11
 replace h:=bcF h hc41;refine go ?_;obtain ⟨o57,ho57,h58⟩:=obind h;refine CW.mono (CW.lx [1] [0] [1] 0 (fun s42=>[(3,.int .i64 s42)]) (RT Tryz.prog Tryz.f215.results (fun u=>.bool u) w0 []) hS11 ho57 (hb:=?_)) ?_
 · intro s42 e w43 o hS12 h;refine go ?_;refine cd (fun hc44=>?_) fun hc44=>?_
   · replace h:=bcT h hc44;refine go ?_;replace ⟨y45,hy45,h⟩:=obind h;obtain ⟨b48,o49,cs50,hae,hb53,hp46,hq47,hd51,hk52⟩:=hr0_10.idx hy45;subst hae;obtain rfl:=hd51;refine LW.u (Pur.ix Tryz.underlying52 sz3 rfl rfl hp46 hq47) rfl ?_;refine LW.l (Ldr.old w0 ag3 rfl (hk52 0 _ rfl)) (hS12.same _ hb53.1 hb53.2) rfl ?_;replace ⟨y54,hy54,h⟩:=obind h;refine LW.c0 (W_s_l1In hy54) hS12 fun w55 hS13=>?_;refine go ?_;refine CW.fl [1,3,119] fun e=>?_;refine cd (fun hc56=>?_) fun hc56=>?_
     · replace h:=bcT h hc56;refine go ?_;cases oi h;exact ⟨trivial,rfl,_,rfl,⟨_,Res.one (resOne.t rfl),rfl,hS13.pick [] rfl rfl⟩⟩
     replace h:=bcF h hc56;refine go ?_;cases oi h;exact ⟨rfl,⟨⟨rfl,rfl,trivial⟩,hS13.pick [0] rfl rfl⟩⟩
   replace h:=bcF h hc44;refine go ?_;cases oi h;exact ⟨trivial,rfl,⟨⟨rfl,trivial⟩,hS12.pick [0] rfl rfl⟩⟩
 intro x e w59 hM;rcases o57 with o57 | r150
 · obtain ⟨rfl,hM⟩:=hM;obtain ⟨hE,hS14⟩:=hM;obtain ⟨e,rfl⟩:=hE.out;have h:=h58;refine gs ?_;obtain ⟨j60,hj60,h61⟩:=obind h;refine CW.jn [1] [0] [(165,.bool j60)] hS14 (h1:=?_) (h2:=?_)
   · have h:=hj60;refine go ?_;rcases bcases (x0.kind != 4) with hc62 | hc62
     · replace h:=bcT h hc62;refine go ?_;rcases bcases (x0.wait != 0) with hc63 | hc63
       · replace h:=bcT h hc63;refine go ?_;cases oi h;exact ⟨⟨rfl,rfl,trivial⟩,hS14.pick [0] rfl rfl⟩
       replace h:=bcF h hc63;refine go ?_;refine LW.fl [1,123,132] fun e=>?_;rcases bcases (x0.got != 0) with hc64 | hc64
       · replace h:=bcT h hc64;refine go ?_;cases oi h;exact ⟨⟨rfl,rfl,trivial⟩,hS14.pick [0] rfl rfl⟩
       replace h:=bcF h hc64;refine go ?_;rcases bcases (x0.ran != 0) with hc65 | hc65
       · replace h:=bcT h hc65;refine go ?_;cases oi h;exact ⟨⟨rfl,rfl,trivial⟩,hS14.pick [0] rfl rfl⟩
       replace h:=bcF h hc65;refine go ?_;rcases bcases (x0.kind==4) with hc66 | hc66
       · replace h:=bcT h hc66;refine go ?_;rcases bcases (decide (x0.wait<0)) with hc67 | hc67
         · replace h:=bcT h hc67;refine go ?_;cases oi h;exact ⟨⟨rfl,rfl,trivial⟩,hS14.pick [0] rfl rfl⟩
         replace h:=bcF h hc67;refine go ?_;rcases bcases (decide (x0.wait > 0)) with hc68 | hc68
         · replace h:=bcT h hc68;refine go ?_;refine LW.fl [1,138,142,146,150,153] fun e=>?_;replace ⟨y69,hy69,h⟩:=obind h;refine go ?_;refine LW.c0 (W_s_l8Handle hy69) hS14 fun w70 hS15=>?_;refine go ?_;rcases bcases (!y69) with hc71 | hc71
           · replace h:=bcT h hc71;refine go ?_;cases oi h;exact ⟨⟨rfl,rfl,trivial⟩,hS15.pick [0] rfl rfl⟩
           replace h:=bcF h hc71;refine go ?_;replace ⟨y72,hy72,h⟩:=obind h;refine go ?_;refine LW.c0 (W_s_l1In hy72) hS15 fun w73 hS16=>?_;refine go ?_;cases oi h;exact ⟨⟨rfl,rfl,trivial⟩,hS16.pick [0] rfl rfl⟩
         replace h:=bcF h hc68;refine go ?_;refine LW.fl [1,138,142,158,160] fun e=>?_;replace ⟨y74,hy74,h⟩:=obind h;refine go ?_;refine LW.c0 (W_s_l1In hy74) hS14 fun w75 hS17=>?_;refine go ?_;cases oi h;exact ⟨⟨rfl,rfl,trivial⟩,hS17.pick [0] rfl rfl⟩
       replace h:=bcF h hc66;refine go ?_;cases oi h;exact ⟨⟨rfl,rfl,trivial⟩,hS14.pick [0] rfl rfl⟩
     replace h:=bcF h hc62;refine go ?_;refine LW.fl [1,138,142] fun e=>?_;rcases bcases (x0.kind==4) with hc76 | hc76
     · replace h:=bcT h hc76;refine go ?_;rcases bcases (decide (x0.wait<0)) with hc77 | hc77
       · replace h:=bcT h hc77;refine go ?_;cases oi h;exact ⟨⟨rfl,rfl,trivial⟩,hS14.pick [0] rfl rfl⟩
       replace h:=bcF h hc77;refine go ?_;rcases bcases (decide (x0.wait > 0)) with hc78 | hc78
       · replace h:=bcT h hc78;refine go ?_;replace ⟨y79,hy79,h⟩:=obind h;refine go ?_;refine LW.c0 (W_s_l8Handle hy79) hS14 fun w80 hS18=>?_;refine go ?_;rcases bcases (!y79) with hc81 | hc81
         · replace h:=bcT h hc81;refine go ?_;cases oi h;exact ⟨⟨rfl,rfl,trivial⟩,hS18.pick [0] rfl rfl⟩
         replace h:=bcF h hc81;refine go ?_;replace ⟨y82,hy82,h⟩:=obind h;refine go ?_;refine LW.c0 (W_s_l1In hy82) hS18 fun w83 hS19=>?_;refine go ?_;cases oi h;exact ⟨⟨rfl,rfl,trivial⟩,hS19.pick [0] rfl rfl⟩
       replace h:=bcF h hc78;refine go ?_;replace ⟨y84,hy84,h⟩:=obind h;refine go ?_;refine LW.c0 (W_s_l1In hy84) hS14 fun w85 hS20=>?_;refine go ?_;cases oi h;exact ⟨⟨rfl,rfl,trivial⟩,hS20.pick [0] rfl rfl⟩
     replace h:=bcF h hc76;refine go ?_;cases oi h;exact ⟨⟨rfl,rfl,trivial⟩,hS14.pick [0] rfl rfl⟩
   intro e w86 hS21;have h:=h61;refine go ?_;refine cd (fun hc87=>?_) fun hc87=>?_
   · replace h:=bcT h hc87;refine go ?_;cases h;exact fi hS21
   replace h:=bcF h hc87;refine gs ?_;obtain ⟨j88,hj88,h89⟩:=obind h;refine CW.jn [1] [0] [(195,.bool j88)] hS21 (h1:=?_) (h2:=?_)
   · have h:=hj88;refine go ?_;rcases bcases ((x0.data.length:Int) != 0) with hc90 | hc90
     · replace h:=bcT h hc90;refine go ?_;rcases bcases (x0.kind != 2) with hc91 | hc91
       · replace h:=bcT h hc91;refine go ?_;cases oi h;exact ⟨⟨rfl,rfl,trivial⟩,hS21.pick [0] rfl rfl⟩
       replace h:=bcF h hc91;refine go ?_;refine LW.fl [1,183] fun e=>?_;rcases bcases ((x0.data.length:Int) != x0.pages) with hc92 | hc92
       · replace h:=bcT h hc92;refine go ?_;cases oi h;exact ⟨⟨rfl,rfl,trivial⟩,hS21.pick [0] rfl rfl⟩
       replace h:=bcF h hc92;refine go ?_;rcases bcases (x0.kind==2) with hc93 | hc93
       · replace h:=bcT h hc93;refine go ?_;cases oi h;exact ⟨⟨rfl,rfl,trivial⟩,hS21.pick [0] rfl rfl⟩
       replace h:=bcF h hc93;refine go ?_;cases oi h;exact ⟨⟨rfl,rfl,trivial⟩,hS21.pick [0] rfl rfl⟩
     replace h:=bcF h hc90;refine go ?_;refine LW.fl [1,183,187] fun e=>?_;rcases bcases (x0.kind==2) with hc94 | hc94
     · replace h:=bcT h hc94;refine go ?_;cases oi h;exact ⟨⟨rfl,rfl,trivial⟩,hS21.pick [0] rfl rfl⟩
     replace h:=bcF h hc94;refine go ?_;cases oi h;exact ⟨⟨rfl,rfl,trivial⟩,hS21.pick [0] rfl rfl⟩
   intro e w95 hS22;have h:=h89;refine go ?_;refine cd (fun hc96=>?_) fun hc96=>?_
   · replace h:=bcT h hc96;refine go ?_;cases h;exact fi hS22
   replace h:=bcF h hc96;refine go ?_;obtain ⟨o112,ho112,h113⟩:=obind h;refine CW.mono (CW.lx [1] [0] [1] 2 (fun s97=>[(4,.int .i64 s97)]) (RT Tryz.prog Tryz.f215.results (fun u=>.bool u) w0 []) hS22 ho112 (hb:=?_)) ?_
   · intro s97 e w98 o hS23 h;refine go ?_;refine CW.fl [1,4,200] fun e=>?_;refine cd (fun hc99=>?_) fun hc99=>?_
     · replace h:=bcT h hc99;refine go ?_;replace ⟨y100,hy100,h⟩:=obind h;obtain ⟨b103,o104,cs105,hae,hb108,hp101,hq102,hd106,hk107⟩:=hr0_11.idx hy100;subst hae;obtain rfl:=hd106;refine LW.u (Pur.ix Tryz.underlying52 sz3 rfl rfl hp101 hq102) rfl ?_;refine LW.l (Ldr.old w0 ag3 rfl (hk107 0 _ rfl)) (hS23.same _ hb108.1 hb108.2) rfl ?_;replace ⟨y109,hy109,h⟩:=obind h;refine LW.c0 (W_s_l1In hy109) hS23 fun w110 hS24=>?_;refine go ?_;refine cd (fun hc111=>?_) fun hc111=>?_
       · replace h:=bcT h hc111;refine go ?_;cases oi h;exact ⟨trivial,rfl,_,rfl,⟨_,Res.one (resOne.t rfl),rfl,hS24.pick [] rfl rfl⟩⟩
       replace h:=bcF h hc111;refine go ?_;cases oi h;exact ⟨rfl,⟨⟨rfl,rfl,trivial⟩,hS24.pick [0] rfl rfl⟩⟩
     replace h:=bcF h hc99;refine go ?_;cases oi h;exact ⟨trivial,rfl,⟨⟨rfl,trivial⟩,hS23.pick [0] rfl rfl⟩⟩
   intro x e w114 hM;rcases o112 with o112 | r149
   · obtain ⟨rfl,hM⟩:=hM;obtain ⟨hE,hS25⟩:=hM;obtain ⟨e,rfl⟩:=hE.out;have h:=h113;refine gs ?_;obtain ⟨j115,hj115,h116⟩:=obind h;refine CW.jn [1] [0] [(224,.bool j115)] hS25 (h1:=?_) (h2:=?_)
     · have h:=hj115;refine go ?_;rcases bcases (decide ((x0.queue.length:Int) > 2)) with hc117 | hc117
       · replace h:=bcT h hc117;refine go ?_;cases oi h;exact ⟨⟨rfl,rfl,trivial⟩,hS25.pick [0] rfl rfl⟩
       replace h:=bcF h hc117;refine go ?_;rcases bcases (decide ((x0.queue.length:Int) > 0)) with hc118 | hc118
       · replace h:=bcT h hc118;refine go ?_;cases oi h;exact ⟨⟨rfl,rfl,trivial⟩,hS25.pick [0] rfl rfl⟩
       replace h:=bcF h hc118;refine go ?_;cases oi h;exact ⟨⟨rfl,rfl,trivial⟩,hS25.pick [0] rfl rfl⟩
     intro e w119 hS26;have h:=h116;refine go ?_;refine cd (fun hc120=>?_) fun hc120=>?_
     · replace h:=bcT h hc120;refine go ?_;cases h;exact fi hS26
     replace h:=bcF h hc120;refine go ?_;obtain ⟨o145,ho145,h146⟩:=obind h;refine CW.mono (CW.lx [1] [0] [] 4 (fun s121=>[(5,.int .i64 s121)]) (RT Tryz.prog Tryz.f215.results (fun u=>.bool u) w0 []) hS26 ho145 (hb:=?_)) ?_
     · intro s121 e w122 o hS27 h;refine go ?_;refine CW.fl [1,5,229] fun e=>?_;refine cd (fun hc123=>?_) fun hc123=>?_
       · replace h:=bcT h hc123;refine gs ?_;refine CW.block ?_;refine gs ?_;obtain ⟨j124,hj124,h125⟩:=obind h;refine CW.jn [1,5] [0] [(258,.bool j124)] hS27 (h1:=?_) (h2:=?_)
         · have h:=hj124;refine go ?_;replace ⟨y126,hy126,h⟩:=obind h;obtain ⟨b129,o130,cs131,hae,hb134,hp127,hq128,hd132,hk133⟩:=hr0_12.idx hy126;subst hae;obtain rfl:=hd132;refine LW.u (Pur.ix Tryz.underlying102 sz170 rfl rfl hp127 hq128) rfl ?_;refine go ?_;refine LW.l (Ldr.old w0 ag3 rfl (hk133 0 _ rfl)) (hS27.same _ hb134.1 hb134.2) rfl ?_;refine go ?_;rcases bcases (y126.src != (-1)) with hc135 | hc135
           · replace h:=bcT h hc135;refine go ?_;refine LW.u (Pur.ix Tryz.underlying102 sz170 rfl rfl hp127 hq128) rfl ?_;refine go ?_;refine LW.l (Ldr.old w0 ag3 rfl (hk133 0 _ rfl)) (hS27.same _ hb134.1 hb134.2) rfl ?_;replace ⟨y136,hy136,h⟩:=obind h;refine go ?_;refine LW.c0 (W_s_l8Handle hy136) hS27 fun w137 hS28=>?_;refine go ?_;rcases bcases (!y136) with hc138 | hc138
             · replace h:=bcT h hc138;refine go ?_;cases oi h;exact ⟨⟨rfl,rfl,rfl,trivial⟩,hS28.pick [0] rfl rfl⟩
             replace h:=bcF h hc138;refine go ?_;refine LW.u (Pur.ix Tryz.underlying102 sz170 rfl rfl hp127 hq128) rfl ?_;refine go ?_;refine LW.fl [1,5,249,254] fun e=>?_;refine go ?_;refine LW.l (Ldr.old w0 ag3 rfl (hk133 1 _ rfl)) (hS28.same _ hb134.1 hb134.2) rfl ?_;replace ⟨y139,hy139,h⟩:=obind h;refine go ?_;refine LW.c0 (W_s_l1In hy139) hS28 fun w140 hS29=>?_;refine go ?_;cases oi h;exact ⟨⟨rfl,rfl,rfl,trivial⟩,hS29.pick [0] rfl rfl⟩
           replace h:=bcF h hc135;refine go ?_;refine LW.u (Pur.ix Tryz.underlying102 sz170 rfl rfl hp127 hq128) rfl ?_;refine go ?_;refine LW.fl [1,5,249,254] fun e=>?_;refine go ?_;refine LW.l (Ldr.old w0 ag3 rfl (hk133 1 _ rfl)) (hS27.same _ hb134.1 hb134.2) rfl ?_;replace ⟨y141,hy141,h⟩:=obind h;refine go ?_;refine LW.c0 (W_s_l1In hy141) hS27 fun w142 hS30=>?_;refine go ?_;cases oi h;exact ⟨⟨rfl,rfl,rfl,trivial⟩,hS30.pick [0] rfl rfl⟩
         intro e w143 hS31;have h:=h125;refine go ?_;refine cd (fun hc144=>?_) fun hc144=>?_
         · replace h:=bcT h hc144;refine go ?_;cases oi h;exact ⟨trivial,rfl,_,rfl,⟨_,Res.one (resOne.t rfl),rfl,hS31.pick [] rfl rfl⟩⟩
         replace h:=bcF h hc144;refine go ?_;cases oi h;exact ⟨rfl,⟨⟨rfl,rfl,trivial⟩,hS31.pick [0] rfl rfl⟩⟩
       replace h:=bcF h hc123;refine go ?_;cases oi h;exact ⟨trivial,rfl,⟨trivial,hS27.pick [0] rfl rfl⟩⟩
     intro x e w147 hM;rcases o145 with o145 | r148
     · obtain ⟨rfl,hM⟩:=hM;obtain ⟨hE,hS32⟩:=hM;obtain ⟨e,rfl⟩:=hE.out;rw [show e=upds e [] from rfl];have h:=h146;refine go ?_;cases h;exact fi hS32
     obtain ⟨rfl,u,rfl,hM⟩:=hM;cases h146;exact And.intro trivial hM
   obtain ⟨rfl,u,rfl,hM⟩:=hM;cases h113;exact And.intro trivial hM
 obtain ⟨rfl,u,rfl,hM⟩:=hM;cases h58;exact And.intro trivial hM
theorem W_s_TapOk {w0:World} {N:Nat} {x0:DTap} {r:Bool} (h:F_s_TapOk N x0=some r) :
    Ret Tryz.prog 75 #[.agg #[.int .i64 x0.res,.int .i64 x0.toPart,.int .i64 x0.toRes,.int .i64 x0.which,.int .i64 x0.kind,.int .i64 x0.rate]] w0 (fun v w=>v=.bool r∧St w0 [] w []):=by
 unfold F_s_TapOk at h;refine Ret.fn Tryz.func75 fun e=>?_;have hS1:=St.start w0;refine go ?_;refine LW.bo hS1 fun g1 w2 hS2=>?_;refine gs ?_;obtain ⟨j3,hj3,h4⟩:=obind h;refine CW.jn [1] [0] [(24,.bool j3)] hS2 (h1:=?_) (h2:=?_)
 · have h:=hj3;refine go ?_;replace ⟨y5,hy5,h⟩:=obind h;refine LW.c0 (W_s_l6Res hy5) hS2 fun w6 hS3=>?_;refine go ?_;rcases bcases (!y5) with hc7 | hc7
   · replace h:=bcT h hc7;refine go ?_;cases oi h;exact ⟨⟨rfl,rfl,trivial⟩,hS3.pick [0] rfl rfl⟩
   replace h:=bcF h hc7;refine go ?_;replace ⟨y8,hy8,h⟩:=obind h;refine go ?_;refine LW.c0 (W_s_l1In hy8) hS3 fun w9 hS4=>?_;refine go ?_;rcases bcases (!y8) with hc10 | hc10
   · replace h:=bcT h hc10;refine go ?_;cases oi h;exact ⟨⟨rfl,rfl,trivial⟩,hS4.pick [0] rfl rfl⟩
   replace h:=bcF h hc10;refine go ?_;replace ⟨y11,hy11,h⟩:=obind h;refine go ?_;refine LW.c0 (W_s_l6Res hy11) hS4 fun w12 hS5=>?_;refine go ?_;rcases bcases (!y11) with hc13 | hc13
   · replace h:=bcT h hc13;refine go ?_;cases oi h;exact ⟨⟨rfl,rfl,trivial⟩,hS5.pick [0] rfl rfl⟩
   replace h:=bcF h hc13;refine go ?_;replace ⟨y14,hy14,h⟩:=obind h;refine go ?_;refine LW.c0 (W_s_l1In hy14) hS5 fun w15 hS6=>?_;refine go ?_;cases oi h;exact ⟨⟨rfl,rfl,trivial⟩,hS6.pick [0] rfl rfl⟩
 intro e w16 hS7;have h:=h4;refine go ?_;refine cd (fun hc17=>?_) fun hc17=>?_
 · replace h:=bcT h hc17;refine go ?_;cases h;exact fi hS7
 replace h:=bcF h hc17;refine go ?_;refine cd (fun hc18=>?_) fun hc18=>?_
 · replace h:=bcT h hc18;refine go ?_;replace ⟨y19,hy19,h⟩:=obind h;refine LW.c0 (W_s_l1In hy19) hS7 fun w20 hS8=>?_;refine go ?_;cases h;exact fi hS8
 replace h:=bcF h hc18;refine go ?_;refine cd (fun hc21=>?_) fun hc21=>?_
 · replace h:=bcT h hc21;refine go ?_;replace ⟨y22,hy22,h⟩:=obind h;refine LW.c0 (W_s_l1In hy22) hS7 fun w23 hS9=>?_;refine go ?_;cases h;exact fi hS9
 replace h:=bcF h hc21;refine go ?_;cases h;exact fi hS7
theorem W_l_eqResS {w0:World} {N:Nat} {x0:List DRes} {x1:List DRes} {r:Bool} (h:F_l_eqResS N x0 x1=some r) {a0_0:Option Addr} {n0_0 c0_0:Nat} (hn0_0:n0_0=x0.length) (hr0_0:rdS (Bor w0 []) w0 a0_0 c0_0 x0) {a1_0:Option Addr} {n1_0 c1_0:Nat} (hn1_0:n1_0=x1.length) (hr1_0:rdS (Bor w0 []) w0 a1_0 c1_0 x1) :
    Ret Tryz.prog 163 #[.slice a0_0 n0_0 c0_0,.slice a1_0 n1_0 c1_0] w0 (fun v w=>v=.bool r∧St w0 [] w []):=by
 subst hn0_0 hn1_0;unfold F_l_eqResS at h;refine Ret.fn Tryz.func163 fun e=>?_;have hS1:=St.start w0;refine go ?_;refine cd (fun hc1=>?_) fun hc1=>?_
 · replace h:=bcT h hc1;refine go ?_;cases h;exact fi hS1
 replace h:=bcF h hc1;refine go ?_;obtain ⟨o26,ho26,h27⟩:=obind h;refine CW.mono (CW.lx [0,1] [] [] 0 (fun s2=>[(5,.int .i64 s2)]) (RT Tryz.prog Tryz.f163.results (fun u=>.bool u) w0 []) hS1 ho26 (hb:=?_)) ?_
 · intro s2 e w3 o hS2 h;refine go ?_;refine cd (fun hc4=>?_) fun hc4=>?_
   · replace h:=bcT h hc4;refine go ?_;refine CW.draw (by kernel_rfl) ?_;have hS3:=hS2.drew;refine go ?_;replace ⟨y5,hy5,h⟩:=obind h;obtain ⟨b8,o9,cs10,hae,hb13,hp6,hq7,hd11,hk12⟩:=hr0_0.idx hy5;subst hae;obtain rfl:=hd11;refine AW.u (i:=2) rfl (by kernel_rfl) rfl rfl (Pur.ix Tryz.underlying59 sz138 rfl rfl hp6 hq7) ?_;refine AW.take (i:=3) rfl (by kernel_rfl) rfl rfl (Ldr.oldN w0 ag138 rfl rfl (fun j u hu=>hk12 j u hu)) (hS3.same _ hb13.1 hb13.2) ?_;refine go ?_;replace ⟨y14,hy14,h⟩:=obind h;obtain ⟨b17,o18,cs19,hae,hb22,hp15,hq16,hd20,hk21⟩:=hr1_0.idx hy14;subst hae;obtain rfl:=hd20;refine AW.u (i:=6) rfl (by kernel_rfl) rfl rfl (Pur.ix Tryz.underlying59 sz138 rfl rfl hp15 hq16) ?_;refine AW.take (i:=7) rfl (by kernel_rfl) rfl rfl (Ldr.oldN w0 ag138 rfl rfl (fun j u hu=>hk21 j u hu)) (hS3.same _ hb22.1 hb22.2) ?_;replace ⟨y23,hy23,h⟩:=obind h;have q:=W_l_eqRes (w0:=w3.drew) hy23;refine AW.one (i:=8) (by kernel_rfl) ?_;refine ⟨_,rfl,?_⟩;refine LW.call pl211 rfl rfl ?_;refine Ret.mono q ?_;rintro _ w24 ⟨rfl,hs⟩;have hS4:=hS3.add hs;refine LW.nil ⟨rfl,(.w (by kernel_rfl) (.w (by kernel_rfl) Kept.n)),?_⟩;refine go ?_;refine cd (fun hc25=>?_) fun hc25=>?_
     · replace h:=bcT h hc25;refine go ?_;cases oi h;exact ⟨trivial,rfl,_,rfl,⟨_,Res.one (resOne.t rfl),rfl,hS4.pick [] rfl rfl⟩⟩
     replace h:=bcF h hc25;refine go ?_;cases oi h;exact ⟨rfl,⟨⟨rfl,rfl,rfl,trivial⟩,hS4.pick [] rfl rfl⟩⟩
   replace h:=bcF h hc4;refine go ?_;cases oi h;exact ⟨trivial,rfl,⟨trivial,hS2.pick [] rfl rfl⟩⟩
 intro x e w28 hM;rcases o26 with o26 | r29
 · obtain ⟨rfl,hM⟩:=hM;obtain ⟨hE,hS5⟩:=hM;obtain ⟨e,rfl⟩:=hE.out;rw [show e=upds e [] from rfl];have h:=h27;refine go ?_;cases h;exact fi hS5
 obtain ⟨rfl,u,rfl,hM⟩:=hM;cases h27;exact And.intro trivial hM
theorem W_l_eqObj {w0:World} {N:Nat} {x0:DObj} {x1:DObj} {r:Bool} (h:F_l_eqObj N x0 x1=some r) {a0_10:Option Addr} {n0_10 c0_10:Nat} (hn0_10:n0_10=x0.links.length) (hr0_10:rdS (Bor w0 []) w0 a0_10 c0_10 x0.links) {a0_11:Option Addr} {n0_11 c0_11:Nat} (hn0_11:n0_11=x0.data.length) (hr0_11:rdS (Bor w0 []) w0 a0_11 c0_11 x0.data) {a0_12:Option Addr} {n0_12 c0_12:Nat} (hn0_12:n0_12=x0.queue.length) (hr0_12:rdS (Bor w0 []) w0 a0_12 c0_12 x0.queue) {a1_10:Option Addr} {n1_10 c1_10:Nat} (hn1_10:n1_10=x1.links.length) (hr1_10:rdS (Bor w0 []) w0 a1_10 c1_10 x1.links) {a1_11:Option Addr} {n1_11 c1_11:Nat} (hn1_11:n1_11=x1.data.length) (hr1_11:rdS (Bor w0 []) w0 a1_11 c1_11 x1.data) {a1_12:Option Addr} {n1_12 c1_12:Nat} (hn1_12:n1_12=x1.queue.length) (hr1_12:rdS (Bor w0 []) w0 a1_12 c1_12 x1.queue) :
    Ret Tryz.prog 231 #[.agg #[.int .i64 x0.gen,.int .i64 x0.kind,.int .i64 x0.box,.int .i64 x0.res,.int .i64 x0.til,.int .i64 x0.pages,.int .i64 x0.wait,.int .i64 x0.got,.int .i64 x0.ran,.bool x0.mark,.slice a0_10 n0_10 c0_10,.slice a0_11 n0_11 c0_11,.slice a0_12 n0_12 c0_12],.agg #[.int .i64 x1.gen,.int .i64 x1.kind,.int .i64 x1.box,.int .i64 x1.res,.int .i64 x1.til,.int .i64 x1.pages,.int .i64 x1.wait,.int .i64 x1.got,.int .i64 x1.ran,.bool x1.mark,.slice a1_10 n1_10 c1_10,.slice a1_11 n1_11 c1_11,.slice a1_12 n1_12 c1_12]] w0 (fun v w=>v=.bool r∧St w0 [] w []):=by
 subst hn0_10 hn0_11 hn0_12 hn1_10 hn1_11 hn1_12;unfold F_l_eqObj at h;refine Ret.fn Tryz.func231 fun e=>?_;have hS1:=St.start w0;refine go ?_;refine LW.bo hS1 fun g1 w2 hS2=>?_;refine LW.bo hS2 fun g3 w4 hS3=>?_;refine go ?_;refine cd (fun hc5=>?_) fun hc5=>?_
 · replace h:=bcT h hc5;refine go ?_;cases h;exact fi hS3
 replace h:=bcF h hc5;refine go ?_;refine CW.fl [2,3,14] fun e=>?_;refine cd (fun hc6=>?_) fun hc6=>?_
 · replace h:=bcT h hc6;refine go ?_;cases h;exact fi hS3
 replace h:=bcF h hc6;refine go ?_;refine cd (fun hc7=>?_) fun hc7=>?_
 · replace h:=bcT h hc7;refine go ?_;cases h;exact fi hS3
 replace h:=bcF h hc7;refine go ?_;refine cd (fun hc8=>?_) fun hc8=>?_
 · replace h:=bcT h hc8;refine go ?_;cases h;exact fi hS3
 replace h:=bcF h hc8;refine go ?_;refine CW.fl [2,3,29] fun e=>?_;refine cd (fun hc9=>?_) fun hc9=>?_
 · replace h:=bcT h hc9;refine go ?_;cases h;exact fi hS3
 replace h:=bcF h hc9;refine go ?_;refine cd (fun hc10=>?_) fun hc10=>?_
 · replace h:=bcT h hc10;refine go ?_;cases h;exact fi hS3
 replace h:=bcF h hc10;refine go ?_;refine cd (fun hc11=>?_) fun hc11=>?_
 · replace h:=bcT h hc11;refine go ?_;cases h;exact fi hS3
 replace h:=bcF h hc11;refine go ?_;refine CW.fl [2,3,44] fun e=>?_;refine cd (fun hc12=>?_) fun hc12=>?_
 · replace h:=bcT h hc12;refine go ?_;cases h;exact fi hS3
 replace h:=bcF h hc12;refine go ?_;refine cd (fun hc13=>?_) fun hc13=>?_
 · replace h:=bcT h hc13;refine go ?_;cases h;exact fi hS3
 replace h:=bcF h hc13;refine go ?_;refine LW.u (Pur.bne Tryz.underlying4 rfl rfl) rfl ?_;refine go ?_;refine cd (fun hc14=>?_) fun hc14=>?_
 · replace h:=bcT h hc14;refine go ?_;cases h;exact fi hS3
 replace h:=bcF h hc14;refine go ?_;replace ⟨y15,hy15,h⟩:=obind h;refine LW.c0 (W_l_eqIntS hy15 rfl (hS3.rB hr0_10) rfl (hS3.rB hr1_10)) hS3 fun w16 hS4=>?_;refine go ?_;refine CW.fl [2,3,60] fun e=>?_;refine cd (fun hc17=>?_) fun hc17=>?_
 · replace h:=bcT h hc17;refine go ?_;cases h;exact fi hS4
 replace h:=bcF h hc17;refine go ?_;replace ⟨y18,hy18,h⟩:=obind h;refine LW.c0 (W_l_eqIntS hy18 rfl (hS4.rB hr0_11) rfl (hS4.rB hr1_11)) hS4 fun w19 hS5=>?_;refine go ?_;refine cd (fun hc20=>?_) fun hc20=>?_
 · replace h:=bcT h hc20;refine go ?_;cases h;exact fi hS5
 replace h:=bcF h hc20;refine go ?_;replace ⟨y21,hy21,h⟩:=obind h;refine LW.c0 (W_l_eqMsgS hy21 rfl (hS5.rB hr0_12) rfl (hS5.rB hr1_12)) hS5 fun w22 hS6=>?_;refine go ?_;refine cd (fun hc23=>?_) fun hc23=>?_
 · replace h:=bcT h hc23;refine go ?_;cases h;exact fi hS6
 replace h:=bcF h hc23;refine go ?_;cases h;exact fi hS6
theorem W_l_markPartS {w0:World} {F:List Nat} {N:Nat} {x0:List DPart} {x1:Int} {r:Int×(List DPart)} (h:F_l_markPartS N x0 x1=some r) {a0_0:Option Addr} {n0_0 c0_0:Nat} (hn0_0:n0_0=x0.length) (hS:St w0 F w0 [sl a0_0 c0_0 x0]) :
    Ret Tryz.prog 41 #[.slice a0_0 n0_0 c0_0,.int .i64 x1] w0 (fun v w=>v=.int .i64 r.1∧St w0 F w [sl a0_0 c0_0 r.2]):=by
 subst hn0_0;unfold F_l_markPartS at h;refine Ret.fn Tryz.func41 fun e=>?_;refine go ?_;obtain ⟨o105,ho105,h106⟩:=obind h;refine CW.ie ho105 0 (fun s1 e wb=>En e [(0,.slice a0_0 s1.1.length c0_0),(1,.int .i64 s1.2.1),(5,.int .i64 s1.2.2)]∧St w0 F wb [sl a0_0 c0_0 s1.1]) ?_ ⟨⟨rfl,rfl,rfl,trivial⟩,hS.pick [0] rfl rfl⟩ ?_
 · intro s1 e w2 o hM h;obtain ⟨hE,hS1⟩:=hM;obtain ⟨e,rfl⟩:=hE.out;refine go ?_;refine cd (fun hc3=>?_) fun hc3=>?_
   · replace h:=bcT h hc3;refine go ?_;replace ⟨y4,hy4,h⟩:=obind h;obtain ⟨b7,o8,hae,hp5,hq6⟩:=hS1.ownIdx (α:=DPart) (i:=0) rfl hy4;subst hae;refine LW.u (Pur.ix Tryz.underlying25 sz67 rfl rfl hp5 hq6) rfl ?_;refine go ?_;obtain ⟨F9,ho10,hS2⟩:=hS1.freeze (α:=DPart) 0 rfl;obtain ⟨b11,o12,cs13,hae,hb16,_,_,hd14,hk15⟩:=ho10.rdF.idx hy4;cases hae;obtain ⟨a17,c18,a20,c21,a23,c24,a26,c27,a29,c30,a32,c33,rfl,hr19,hr22,hr25,hr28,hr31,hr34⟩:=hd14;refine LW.l (Ldr.old w2 ag52 rfl (hk15 0 _ rfl)) (hS2.zC 0 rfl hb16) rfl ?_;refine go ?_;replace ⟨y35,hy35,h⟩:=obind h;obtain ⟨q56,hy35',hq57⟩:=obind hy35;obtain ⟨hl58,hq57⟩:=keepL_some hq57;rw [Option.some.inj hq57] at hy35' hl58;have hn36:=fun (j:Nat) (u:Value) (hu:([.slice a17 y4.label.levels.length c18,.slice a20 y4.own.length c21,.slice a23 y4.tree.length c24,.slice a26 y4.heap.arena.length c27,.int .i64 y4.heap.gc.phase,.int .i64 y4.heap.gc.pos,.int .i64 y4.heap.gc.round,.slice a29 y4.heap.gc.grey.length c30,.slice a32 y4.taps.length c33,.int .i64 y4.next,.int .i64 y4.want,.int .i64 y4.spent.pages,.int .i64 y4.spent.rent,.int .i64 y4.spent.cpu,.int .i64 y4.press,.int .i64 y4.lost]:List Value)[j]?=some u)=>(World.cell?_of_block (hS2.zC 0 rfl hb16)).trans (hk15 j u hu);have hS3:=hS2.thaw (α:=DPart) 0 rfl ho10;obtain ⟨Fx37,ho38,hf39⟩:=hS3.focus (α:=DPart) (cs:=[.slice a17 y4.label.levels.length c18,.slice a20 y4.own.length c21,.slice a23 y4.tree.length c24,.slice a26 y4.heap.arena.length c27,.int .i64 y4.heap.gc.phase,.int .i64 y4.heap.gc.pos,.int .i64 y4.heap.gc.round,.slice a29 y4.heap.gc.grey.length c30,.slice a32 y4.taps.length c33,.int .i64 y4.next,.int .i64 y4.want,.int .i64 y4.spent.pages,.int .i64 y4.spent.rent,.int .i64 y4.spent.cpu,.int .i64 y4.press,.int .i64 y4.lost]) 0 rfl hy4 rfl hn36;obtain ⟨a42,c43,a44,c45,a46,c47,a48,c49,a50,c51,a52,c53,hc40,hH41⟩:=ho38;cases hc40;have hS4:=hf39 [sl a17 c18 y4.label.levels,sl a20 c21 y4.own,sl a23 c24 y4.tree,sl a26 c27 y4.heap.arena,sl a29 c30 y4.heap.gc.grey,sl a32 c33 y4.taps] hH41;obtain ⟨F54,hL55⟩:=hS4.lendI [0] [1,2,3,4,5,6];refine LW.cl (W_l_markIntS hy35' rfl hL55.st) ?_;rintro _ w59 ⟨rfl,hs⟩;have hS5:=hL55.back _ _ hs;refine go ?_;refine LW.u (Pur.ix Tryz.underlying25 sz67 rfl rfl hp5 hq6) rfl ?_;refine go ?_;refine LW.l (Ldr.old w59 ag52 rfl (hS5.holeC 6 rfl (j:=1) rfl)) rfl rfl ?_;refine go ?_;replace ⟨y60,hy60,h⟩:=obind h;obtain ⟨q63,hy60',hq64⟩:=obind hy60;obtain ⟨hl65,hq64⟩:=keepL_some hq64;rw [Option.some.inj hq64] at hy60' hl65;rw [show y4.label.levels.length=y35.2.length from hl58] at hS5;obtain ⟨F61,hL62⟩:=hS5.lendI [1] [0,2,3,4,5,6];refine LW.cl (W_l_markIntS hy60' rfl hL62.st) ?_;rintro _ w66 ⟨rfl,hs⟩;have hS6:=hL62.back _ _ hs;refine go ?_;refine LW.fl [0,1,5,27,28] fun e=>?_;refine LW.u (Pur.ix Tryz.underlying25 sz67 rfl rfl hp5 hq6) rfl ?_
     refine go ?_;refine LW.l (Ldr.old w66 ag59 rfl (hS6.holeC 6 rfl (j:=2) rfl)) rfl rfl ?_;refine go ?_;replace ⟨y67,hy67,h⟩:=obind h;obtain ⟨q70,hy67',hq71⟩:=obind hy67;obtain ⟨hl72,hq71⟩:=keepL_some hq71;rw [Option.some.inj hq71] at hy67' hl72;rw [show y4.own.length=y60.2.length from hl65] at hS6;obtain ⟨F68,hL69⟩:=hS6.lendI [2] [0,1,3,4,5,6];refine LW.cl (W_l_markResS hy67' rfl hL69.st) ?_;rintro _ w73 ⟨rfl,hs⟩;have hS7:=hL69.back _ _ hs;refine go ?_;refine LW.u (Pur.ix Tryz.underlying25 sz67 rfl rfl hp5 hq6) rfl ?_;refine go ?_;refine LW.l (Ldr.old w73 ag60 rfl (hS7.holeC 6 rfl (j:=3) rfl)) rfl rfl ?_;refine go ?_;replace ⟨y74,hy74,h⟩:=obind h;obtain ⟨q77,hy74',hq78⟩:=obind hy74;obtain ⟨hl79,hq78⟩:=keepL_some hq78;rw [Option.some.inj hq78] at hy74' hl79;rw [show y4.tree.length=y67.2.length from hl72] at hS7;obtain ⟨F75,hL76⟩:=hS7.lendI [3] [0,1,2,4,5,6];refine LW.cl (W_l_markObjS hy74' rfl hL76.st) ?_;rintro _ w80 ⟨rfl,hs⟩;have hS8:=hL76.back _ _ hs;refine go ?_;refine LW.u (Pur.ix Tryz.underlying25 sz67 rfl rfl hp5 hq6) rfl ?_;refine go ?_;refine LW.sth (α:=DPart) (vs:=[.int .i64 y74.1]) hS8 6 rfl ag3 rfl (by show _=o8+(s1.2.2:Int).toNat * 16+4;omega) rfl rfl rfl rfl ?_;intro w81 hS9 hf;refine go ?_;refine LW.fl [0,1,5,51,52,53] fun e=>?_;refine LW.u (Pur.ix Tryz.underlying25 sz67 rfl rfl hp5 hq6) rfl ?_;refine go ?_;refine LW.sth (α:=DPart) (vs:=[.int .i64 (IntKind.i64.wrap (y74.1+1))]) hS9 6 rfl ag3 rfl (by show _=o8+(s1.2.2:Int).toNat * 16+5;omega) rfl rfl rfl rfl ?_;intro w82 hS10 hf;refine go ?_;refine LW.u (Pur.ix Tryz.underlying25 sz67 rfl rfl hp5 hq6) rfl ?_;refine go ?_;refine LW.sth (α:=DPart) (vs:=[.int .i64 (IntKind.i64.wrap ((IntKind.i64.wrap (y74.1+1))+1))]) hS10 6 rfl ag3 rfl (by show _=o8+(s1.2.2:Int).toNat * 16+6;omega) rfl rfl rfl rfl ?_;intro w83 hS11 hf;refine go ?_;refine LW.u (Pur.ix Tryz.underlying25 sz67 rfl rfl hp5 hq6) rfl ?_;refine go ?_;refine LW.fl [0,1,5,74] fun e=>?_;refine LW.l (Ldr.old w83 ag52 rfl (hS11.holeC 6 rfl (j:=7) rfl)) rfl rfl ?_;refine go ?_;replace ⟨y84,hy84,h⟩:=obind h;obtain ⟨q87,hy84',hq88⟩:=obind hy84;obtain ⟨hl89,hq88⟩:=keepL_some hq88;rw [Option.some.inj hq88] at hy84' hl89;rw [show y4.heap.arena.length=y74.2.length from hl79] at hS11;obtain ⟨F85,hL86⟩:=hS11.lendI [4] [0,1,2,3,5,6];refine LW.cl (W_l_markIntS hy84' rfl hL86.st) ?_;rintro _ w90 ⟨rfl,hs⟩;have hS12:=hL86.back _ _ hs;refine go ?_;refine LW.u (Pur.ix Tryz.underlying25 sz67 rfl rfl hp5 hq6) rfl ?_;refine go ?_;refine LW.l (Ldr.old w90 ag65 rfl (hS12.holeC 6 rfl (j:=8) rfl)) rfl rfl ?_;refine go ?_;replace ⟨y91,hy91,h⟩:=obind h;obtain ⟨q94,hy91',hq95⟩:=obind hy91;obtain ⟨hl96,hq95⟩:=keepL_some hq95;rw [Option.some.inj hq95] at hy91' hl96;rw [show y4.heap.gc.grey.length=y84.2.length from hl89] at hS12;obtain ⟨F92,hL93⟩:=hS12.lendI [5] [0,1,2,3,4,6]
     refine LW.cl (W_l_markTapS hy91' rfl hL93.st) ?_;rintro _ w97 ⟨rfl,hs⟩;have hS13:=hL93.back _ _ hs;refine go ?_;refine LW.u (Pur.ix Tryz.underlying25 sz67 rfl rfl hp5 hq6) rfl ?_;refine go ?_;refine LW.sth (α:=DPart) (vs:=[.int .i64 y91.1]) hS13 6 rfl ag3 rfl (by show _=o8+(s1.2.2:Int).toNat * 16+9;omega) rfl rfl rfl rfl ?_;intro w98 hS14 hf;refine go ?_;refine LW.u (Pur.ix Tryz.underlying25 sz67 rfl rfl hp5 hq6) rfl ?_;refine go ?_;refine LW.fl [0,1,5,94,96] fun e=>?_;refine LW.sth (α:=DPart) (vs:=[.int .i64 (IntKind.i64.wrap (y91.1+1))]) hS14 6 rfl ag3 rfl (by show _=o8+(s1.2.2:Int).toNat * 16+10;omega) rfl rfl rfl rfl ?_;intro w99 hS15 hf;refine go ?_;refine LW.u (Pur.ix Tryz.underlying25 sz67 rfl rfl hp5 hq6) rfl ?_;refine go ?_;refine LW.sth (α:=DPart) (vs:=[.int .i64 (IntKind.i64.wrap ((IntKind.i64.wrap (y91.1+1))+1))]) hS15 6 rfl ag3 rfl (by show _=o8+(s1.2.2:Int).toNat * 16+11;omega) rfl rfl rfl rfl ?_;intro w100 hS16 hf;refine go ?_;refine LW.u (Pur.ix Tryz.underlying25 sz67 rfl rfl hp5 hq6) rfl ?_;refine go ?_;refine LW.sth (α:=DPart) (vs:=[.int .i64 (IntKind.i64.wrap ((IntKind.i64.wrap ((IntKind.i64.wrap (y91.1+1))+1))+1))]) hS16 6 rfl ag3 rfl (by show _=o8+(s1.2.2:Int).toNat * 16+12;omega) rfl rfl rfl rfl ?_;intro w101 hS17 hf;refine go ?_;refine LW.fl [0,1,5,115,116,117] fun e=>?_;refine LW.u (Pur.ix Tryz.underlying25 sz67 rfl rfl hp5 hq6) rfl ?_;refine go ?_;refine LW.sth (α:=DPart) (vs:=[.int .i64 (IntKind.i64.wrap ((IntKind.i64.wrap ((IntKind.i64.wrap ((IntKind.i64.wrap (y91.1+1))+1))+1))+1))]) hS17 6 rfl ag3 rfl (by show _=o8+(s1.2.2:Int).toNat * 16+13;omega) rfl rfl rfl rfl ?_;intro w102 hS18 hf;refine go ?_;refine LW.u (Pur.ix Tryz.underlying25 sz67 rfl rfl hp5 hq6) rfl ?_;refine go ?_;refine LW.sth (α:=DPart) (vs:=[.int .i64 (IntKind.i64.wrap ((IntKind.i64.wrap ((IntKind.i64.wrap ((IntKind.i64.wrap ((IntKind.i64.wrap (y91.1+1))+1))+1))+1))+1))]) hS18 6 rfl ag3 rfl (by show _=o8+(s1.2.2:Int).toNat * 16+14;omega) rfl rfl rfl rfl ?_;intro w103 hS19 hf;refine go ?_;refine LW.u (Pur.ix Tryz.underlying25 sz67 rfl rfl hp5 hq6) rfl ?_;refine go ?_;refine LW.sth (α:=DPart) (vs:=[.int .i64 (IntKind.i64.wrap ((IntKind.i64.wrap ((IntKind.i64.wrap ((IntKind.i64.wrap ((IntKind.i64.wrap ((IntKind.i64.wrap (y91.1+1))+1))+1))+1))+1))+1))]) hS19 6 rfl ag3 rfl (by show _=o8+(s1.2.2:Int).toNat * 16+15;omega) rfl rfl rfl rfl ?_;intro w104 hS20 hf;refine go ?_;replace h:=Option.some.inj h;subst h;rw [show y4.taps.length=y91.2.length from hl96] at hS20;have hS21:=hS20.pick (M:=[sl a17 c18 y35.2,sl a20 c21 y60.2,sl a23 c24 y67.2,sl a26 c27 y74.2,sl a29 c30 y84.2,sl a32 c33 y91.2]++[hole DPart (some ⟨b7,o8,none⟩) c0_0 s1.1 (s1.2.2:Int).toNat [.slice a17 y35.2.length c18,.slice a20 y60.2.length c21,.slice a23 y67.2.length c24,.slice a26 y74.2.length c27,.int .i64 y74.1,.int .i64 (IntKind.i64.wrap (y74.1+1)),.int .i64 (IntKind.i64.wrap ((IntKind.i64.wrap (y74.1+1))+1)),.slice a29 y84.2.length c30,.slice a32 y91.2.length c33,.int .i64 y91.1,.int .i64 (IntKind.i64.wrap (y91.1+1)),.int .i64 (IntKind.i64.wrap ((IntKind.i64.wrap (y91.1+1))+1)),.int .i64 (IntKind.i64.wrap ((IntKind.i64.wrap ((IntKind.i64.wrap (y91.1+1))+1))+1)),.int .i64 (IntKind.i64.wrap ((IntKind.i64.wrap ((IntKind.i64.wrap ((IntKind.i64.wrap (y91.1+1))+1))+1))+1)),.int .i64 (IntKind.i64.wrap ((IntKind.i64.wrap ((IntKind.i64.wrap ((IntKind.i64.wrap ((IntKind.i64.wrap (y91.1+1))+1))+1))+1))+1)),.int .i64 (IntKind.i64.wrap ((IntKind.i64.wrap ((IntKind.i64.wrap ((IntKind.i64.wrap ((IntKind.i64.wrap ((IntKind.i64.wrap (y91.1+1))+1))+1))+1))+1))+1))]]) [5,4,3,2,1,0,6] rfl rfl
     have hS22:=hS21.unfocus (M:=[sl a17 c18 y35.2,sl a20 c21 y60.2,sl a23 c24 y67.2,sl a26 c27 y74.2,sl a29 c30 y84.2,sl a32 c33 y91.2]) (L:=[hole DPart (some ⟨b7,o8,none⟩) c0_0 s1.1 (s1.2.2:Int).toNat [.slice a17 y35.2.length c18,.slice a20 y60.2.length c21,.slice a23 y67.2.length c24,.slice a26 y74.2.length c27,.int .i64 y74.1,.int .i64 (IntKind.i64.wrap (y74.1+1)),.int .i64 (IntKind.i64.wrap ((IntKind.i64.wrap (y74.1+1))+1)),.slice a29 y84.2.length c30,.slice a32 y91.2.length c33,.int .i64 y91.1,.int .i64 (IntKind.i64.wrap (y91.1+1)),.int .i64 (IntKind.i64.wrap ((IntKind.i64.wrap (y91.1+1))+1)),.int .i64 (IntKind.i64.wrap ((IntKind.i64.wrap ((IntKind.i64.wrap (y91.1+1))+1))+1)),.int .i64 (IntKind.i64.wrap ((IntKind.i64.wrap ((IntKind.i64.wrap ((IntKind.i64.wrap (y91.1+1))+1))+1))+1)),.int .i64 (IntKind.i64.wrap ((IntKind.i64.wrap ((IntKind.i64.wrap ((IntKind.i64.wrap ((IntKind.i64.wrap (y91.1+1))+1))+1))+1))+1)),.int .i64 (IntKind.i64.wrap ((IntKind.i64.wrap ((IntKind.i64.wrap ((IntKind.i64.wrap ((IntKind.i64.wrap ((IntKind.i64.wrap (y91.1+1))+1))+1))+1))+1))+1))]]) (y:=(DPart.mk (DLabel.mk y35.2) y60.2 y67.2 (DHeap.mk y74.2 (DGc.mk y74.1 (IntKind.i64.wrap (y74.1+1)) (IntKind.i64.wrap ((IntKind.i64.wrap (y74.1+1))+1)) y84.2)) y91.2 y91.1 (IntKind.i64.wrap (y91.1+1)) (DAmt.mk (IntKind.i64.wrap ((IntKind.i64.wrap (y91.1+1))+1)) (IntKind.i64.wrap ((IntKind.i64.wrap ((IntKind.i64.wrap (y91.1+1))+1))+1)) (IntKind.i64.wrap ((IntKind.i64.wrap ((IntKind.i64.wrap ((IntKind.i64.wrap (y91.1+1))+1))+1))+1))) (IntKind.i64.wrap ((IntKind.i64.wrap ((IntKind.i64.wrap ((IntKind.i64.wrap ((IntKind.i64.wrap (y91.1+1))+1))+1))+1))+1)) (IntKind.i64.wrap ((IntKind.i64.wrap ((IntKind.i64.wrap ((IntKind.i64.wrap ((IntKind.i64.wrap ((IntKind.i64.wrap (y91.1+1))+1))+1))+1))+1))+1)))) 0 rfl (fun w G hG=>⟨a17,c18,a20,c21,a23,c24,a26,c27,a29,c30,a32,c33,rfl,hG⟩);exact ⟨rfl,⟨⟨(show (.slice (some ⟨b7,o8,none⟩) s1.1.length c0_0:Value)=.slice (some ⟨b7,o8,none⟩) ((s1.1.set (s1.2.2:Int).toNat (DPart.mk (DLabel.mk y35.2) y60.2 y67.2 (DHeap.mk y74.2 (DGc.mk y74.1 (IntKind.i64.wrap (y74.1+1)) (IntKind.i64.wrap ((IntKind.i64.wrap (y74.1+1))+1)) y84.2)) y91.2 y91.1 (IntKind.i64.wrap (y91.1+1)) (DAmt.mk (IntKind.i64.wrap ((IntKind.i64.wrap (y91.1+1))+1)) (IntKind.i64.wrap ((IntKind.i64.wrap ((IntKind.i64.wrap (y91.1+1))+1))+1)) (IntKind.i64.wrap ((IntKind.i64.wrap ((IntKind.i64.wrap ((IntKind.i64.wrap (y91.1+1))+1))+1))+1))) (IntKind.i64.wrap ((IntKind.i64.wrap ((IntKind.i64.wrap ((IntKind.i64.wrap ((IntKind.i64.wrap (y91.1+1))+1))+1))+1))+1)) (IntKind.i64.wrap ((IntKind.i64.wrap ((IntKind.i64.wrap ((IntKind.i64.wrap ((IntKind.i64.wrap ((IntKind.i64.wrap (y91.1+1))+1))+1))+1))+1))+1)))).length) c0_0 by rw [show s1.1.length=(s1.1.set (s1.2.2:Int).toNat (DPart.mk (DLabel.mk y35.2) y60.2 y67.2 (DHeap.mk y74.2 (DGc.mk y74.1 (IntKind.i64.wrap (y74.1+1)) (IntKind.i64.wrap ((IntKind.i64.wrap (y74.1+1))+1)) y84.2)) y91.2 y91.1 (IntKind.i64.wrap (y91.1+1)) (DAmt.mk (IntKind.i64.wrap ((IntKind.i64.wrap (y91.1+1))+1)) (IntKind.i64.wrap ((IntKind.i64.wrap ((IntKind.i64.wrap (y91.1+1))+1))+1)) (IntKind.i64.wrap ((IntKind.i64.wrap ((IntKind.i64.wrap ((IntKind.i64.wrap (y91.1+1))+1))+1))+1))) (IntKind.i64.wrap ((IntKind.i64.wrap ((IntKind.i64.wrap ((IntKind.i64.wrap ((IntKind.i64.wrap (y91.1+1))+1))+1))+1))+1)) (IntKind.i64.wrap ((IntKind.i64.wrap ((IntKind.i64.wrap ((IntKind.i64.wrap ((IntKind.i64.wrap ((IntKind.i64.wrap (y91.1+1))+1))+1))+1))+1))+1)))).length from (len_set rfl)]),rfl,rfl,trivial⟩,hS22.pick [0] rfl rfl⟩⟩
   replace h:=bcF h hc3;refine go ?_;cases oi h;exact ⟨trivial,rfl,⟨⟨rfl,rfl,rfl,trivial⟩,hS1.pick [0] rfl rfl⟩⟩
 rintro e w107 ⟨hE,hS23⟩;obtain ⟨e,rfl⟩:=hE.out;have h:=h106;refine go ?_;replace h:=Option.some.inj h;subst h;exact And.intro trivial ⟨_,Res.one (resOne.t rfl),rfl,hS23.pick [0] rfl rfl⟩
theorem W_l_heldPartS {w0:World} {N:Nat} {x0:List DPart} {x1:Int} {r:Int} (h:F_l_heldPartS N x0 x1=some r) {a0_0:Option Addr} {n0_0 c0_0:Nat} (hn0_0:n0_0=x0.length) (hr0_0:rdS (Bor w0 []) w0 a0_0 c0_0 x0) :
    Ret Tryz.prog 42 #[.slice a0_0 n0_0 c0_0,.int .i64 x1] w0 (fun v w=>v=.int .i64 r∧St w0 [] w []):=by
 subst hn0_0;unfold F_l_heldPartS at h;refine Ret.fn Tryz.func42 fun e=>?_;have hS1:=St.start w0;refine go ?_;obtain ⟨o59,ho59,h60⟩:=obind h;refine CW.mono (CW.lx [0] [] [1] 0 (fun s1=>[(1,.int .i64 s1.1),(5,.int .i64 s1.2)]) (RT Tryz.prog Tryz.f42.results (fun u=>.int .i64 u) w0 []) hS1 ho59 (hb:=?_)) ?_
 · intro s1 e w2 o hS2 h;refine go ?_;refine cd (fun hc3=>?_) fun hc3=>?_
   · replace h:=bcT h hc3;refine go ?_;replace ⟨y4,hy4,h⟩:=obind h;obtain ⟨b7,o8,cs9,hae,hb12,hp5,hq6,hd10,hk11⟩:=hr0_0.idx hy4;subst hae;obtain ⟨a13,c14,a16,c17,a19,c20,a22,c23,a25,c26,a28,c29,rfl,hr15,hr18,hr21,hr24,hr27,hr30⟩:=hd10;refine LW.u (Pur.ix Tryz.underlying25 sz67 rfl rfl hp5 hq6) rfl ?_;refine go ?_;refine LW.l (Ldr.old w0 ag52 rfl (hk11 0 _ rfl)) (hS2.same _ hb12.1 hb12.2) rfl ?_;refine go ?_;replace ⟨y31,hy31,h⟩:=obind h;refine LW.c0 (W_l_heldIntS hy31 rfl (hS2.rB hr15)) hS2 fun w32 hS3=>?_;refine go ?_;refine CW.fl [0,1,5,21] fun e=>?_;refine cd (fun hc33=>?_) fun hc33=>?_
     · replace h:=bcT h hc33;refine go ?_;cases oi h;exact ⟨trivial,rfl,_,rfl,⟨_,Res.one (resOne.t rfl),rfl,hS3.pick [] rfl rfl⟩⟩
     replace h:=bcF h hc33;refine go ?_;refine LW.u (Pur.ix Tryz.underlying25 sz67 rfl rfl hp5 hq6) rfl ?_;refine go ?_;refine LW.l (Ldr.old w0 ag52 rfl (hk11 1 _ rfl)) (hS3.same _ hb12.1 hb12.2) rfl ?_;refine go ?_;replace ⟨y34,hy34,h⟩:=obind h;refine LW.c0 (W_l_heldIntS hy34 rfl (hS3.rB hr18)) hS3 fun w35 hS4=>?_;refine go ?_;refine cd (fun hc36=>?_) fun hc36=>?_
     · replace h:=bcT h hc36;refine go ?_;cases oi h;exact ⟨trivial,rfl,_,rfl,⟨_,Res.one (resOne.t rfl),rfl,hS4.pick [] rfl rfl⟩⟩
     replace h:=bcF h hc36;refine go ?_;refine LW.u (Pur.ix Tryz.underlying25 sz67 rfl rfl hp5 hq6) rfl ?_;refine go ?_;refine LW.l (Ldr.old w0 ag59 rfl (hk11 2 _ rfl)) (hS4.same _ hb12.1 hb12.2) rfl ?_;refine go ?_;replace ⟨y37,hy37,h⟩:=obind h;refine LW.c0 (W_l_heldResS hy37 rfl (hS4.rB hr21)) hS4 fun w38 hS5=>?_;refine go ?_;refine CW.fl [0,1,5,39] fun e=>?_;refine cd (fun hc39=>?_) fun hc39=>?_
     · replace h:=bcT h hc39;refine go ?_;cases oi h;exact ⟨trivial,rfl,_,rfl,⟨_,Res.one (resOne.t rfl),rfl,hS5.pick [] rfl rfl⟩⟩
     replace h:=bcF h hc39;refine go ?_;refine LW.u (Pur.ix Tryz.underlying25 sz67 rfl rfl hp5 hq6) rfl ?_;refine go ?_;refine LW.l (Ldr.old w0 ag60 rfl (hk11 3 _ rfl)) (hS5.same _ hb12.1 hb12.2) rfl ?_;refine go ?_;replace ⟨y40,hy40,h⟩:=obind h;refine LW.c0 (W_l_heldObjS hy40 rfl (hS5.rB hr24)) hS5 fun w41 hS6=>?_;refine go ?_;refine cd (fun hc42=>?_) fun hc42=>?_
     · replace h:=bcT h hc42;refine go ?_;cases oi h;exact ⟨trivial,rfl,_,rfl,⟨_,Res.one (resOne.t rfl),rfl,hS6.pick [] rfl rfl⟩⟩
     replace h:=bcF h hc42;refine go ?_;refine LW.u (Pur.ix Tryz.underlying25 sz67 rfl rfl hp5 hq6) rfl ?_;refine go ?_;refine LW.l (Ldr.old w0 ag3 rfl (hk11 4 _ rfl)) (hS6.same _ hb12.1 hb12.2) rfl ?_;refine go ?_;refine CW.fl [0,1,5,58] fun e=>?_;refine cd (fun hc43=>?_) fun hc43=>?_
     · replace h:=bcT h hc43;refine go ?_;cases oi h;exact ⟨trivial,rfl,_,rfl,⟨_,Res.one (resOne.t rfl),rfl,hS6.pick [] rfl rfl⟩⟩
     replace h:=bcF h hc43;refine go ?_;refine LW.u (Pur.ix Tryz.underlying25 sz67 rfl rfl hp5 hq6) rfl ?_;refine go ?_;refine LW.l (Ldr.old w0 ag3 rfl (hk11 5 _ rfl)) (hS6.same _ hb12.1 hb12.2) rfl ?_;refine go ?_;refine cd (fun hc44=>?_) fun hc44=>?_
     · replace h:=bcT h hc44;refine go ?_;cases oi h;exact ⟨trivial,rfl,_,rfl,⟨_,Res.one (resOne.t rfl),rfl,hS6.pick [] rfl rfl⟩⟩
     replace h:=bcF h hc44;refine go ?_;refine LW.u (Pur.ix Tryz.underlying25 sz67 rfl rfl hp5 hq6) rfl ?_;refine go ?_;refine LW.l (Ldr.old w0 ag3 rfl (hk11 6 _ rfl)) (hS6.same _ hb12.1 hb12.2) rfl ?_;refine go ?_;refine CW.fl [0,1,5,80] fun e=>?_;refine cd (fun hc45=>?_) fun hc45=>?_
     · replace h:=bcT h hc45;refine go ?_;cases oi h;exact ⟨trivial,rfl,_,rfl,⟨_,Res.one (resOne.t rfl),rfl,hS6.pick [] rfl rfl⟩⟩
     replace h:=bcF h hc45;refine go ?_;refine LW.u (Pur.ix Tryz.underlying25 sz67 rfl rfl hp5 hq6) rfl ?_;refine go ?_;refine LW.l (Ldr.old w0 ag52 rfl (hk11 7 _ rfl)) (hS6.same _ hb12.1 hb12.2) rfl ?_;refine go ?_;replace ⟨y46,hy46,h⟩:=obind h;refine LW.c0 (W_l_heldIntS hy46 rfl (hS6.rB hr27)) hS6 fun w47 hS7=>?_;refine go ?_;refine CW.fl [0,1,5,93] fun e=>?_;refine cd (fun hc48=>?_) fun hc48=>?_
     · replace h:=bcT h hc48;refine go ?_;cases oi h;exact ⟨trivial,rfl,_,rfl,⟨_,Res.one (resOne.t rfl),rfl,hS7.pick [] rfl rfl⟩⟩
     replace h:=bcF h hc48;refine go ?_;refine LW.u (Pur.ix Tryz.underlying25 sz67 rfl rfl hp5 hq6) rfl ?_;refine go ?_;refine LW.l (Ldr.old w0 ag65 rfl (hk11 8 _ rfl)) (hS7.same _ hb12.1 hb12.2) rfl ?_;refine go ?_;replace ⟨y49,hy49,h⟩:=obind h;refine LW.c0 (W_l_heldTapS hy49 rfl (hS7.rB hr30)) hS7 fun w50 hS8=>?_;refine go ?_;refine cd (fun hc51=>?_) fun hc51=>?_
     · replace h:=bcT h hc51;refine go ?_;cases oi h;exact ⟨trivial,rfl,_,rfl,⟨_,Res.one (resOne.t rfl),rfl,hS8.pick [] rfl rfl⟩⟩
     replace h:=bcF h hc51;refine go ?_;refine LW.u (Pur.ix Tryz.underlying25 sz67 rfl rfl hp5 hq6) rfl ?_;refine go ?_;refine LW.l (Ldr.old w0 ag3 rfl (hk11 9 _ rfl)) (hS8.same _ hb12.1 hb12.2) rfl ?_;refine go ?_;refine CW.fl [0,1,5,109] fun e=>?_;refine cd (fun hc52=>?_) fun hc52=>?_
     · replace h:=bcT h hc52;refine go ?_;cases oi h;exact ⟨trivial,rfl,_,rfl,⟨_,Res.one (resOne.t rfl),rfl,hS8.pick [] rfl rfl⟩⟩
     replace h:=bcF h hc52;refine go ?_;refine LW.u (Pur.ix Tryz.underlying25 sz67 rfl rfl hp5 hq6) rfl ?_;refine go ?_;refine LW.l (Ldr.old w0 ag3 rfl (hk11 10 _ rfl)) (hS8.same _ hb12.1 hb12.2) rfl ?_;refine go ?_;refine cd (fun hc53=>?_) fun hc53=>?_
     · replace h:=bcT h hc53;refine go ?_;cases oi h;exact ⟨trivial,rfl,_,rfl,⟨_,Res.one (resOne.t rfl),rfl,hS8.pick [] rfl rfl⟩⟩
     replace h:=bcF h hc53;refine go ?_;refine LW.u (Pur.ix Tryz.underlying25 sz67 rfl rfl hp5 hq6) rfl ?_;refine go ?_;refine LW.l (Ldr.old w0 ag3 rfl (hk11 11 _ rfl)) (hS8.same _ hb12.1 hb12.2) rfl ?_;refine go ?_;refine CW.fl [0,1,5,128] fun e=>?_;refine cd (fun hc54=>?_) fun hc54=>?_
     · replace h:=bcT h hc54;refine go ?_;cases oi h;exact ⟨trivial,rfl,_,rfl,⟨_,Res.one (resOne.t rfl),rfl,hS8.pick [] rfl rfl⟩⟩
     replace h:=bcF h hc54;refine go ?_;refine LW.u (Pur.ix Tryz.underlying25 sz67 rfl rfl hp5 hq6) rfl ?_;refine go ?_;refine LW.l (Ldr.old w0 ag3 rfl (hk11 12 _ rfl)) (hS8.same _ hb12.1 hb12.2) rfl ?_;refine go ?_;refine cd (fun hc55=>?_) fun hc55=>?_
     · replace h:=bcT h hc55;refine go ?_;cases oi h;exact ⟨trivial,rfl,_,rfl,⟨_,Res.one (resOne.t rfl),rfl,hS8.pick [] rfl rfl⟩⟩
     replace h:=bcF h hc55;refine go ?_;refine LW.u (Pur.ix Tryz.underlying25 sz67 rfl rfl hp5 hq6) rfl ?_;refine go ?_;refine LW.l (Ldr.old w0 ag3 rfl (hk11 13 _ rfl)) (hS8.same _ hb12.1 hb12.2) rfl ?_;refine go ?_;refine CW.fl [0,1,5,148] fun e=>?_;refine cd (fun hc56=>?_) fun hc56=>?_
     · replace h:=bcT h hc56;refine go ?_;cases oi h;exact ⟨trivial,rfl,_,rfl,⟨_,Res.one (resOne.t rfl),rfl,hS8.pick [] rfl rfl⟩⟩
     replace h:=bcF h hc56;refine go ?_;refine LW.u (Pur.ix Tryz.underlying25 sz67 rfl rfl hp5 hq6) rfl ?_;refine go ?_;refine LW.l (Ldr.old w0 ag3 rfl (hk11 14 _ rfl)) (hS8.same _ hb12.1 hb12.2) rfl ?_;refine go ?_;refine cd (fun hc57=>?_) fun hc57=>?_
     · replace h:=bcT h hc57;refine go ?_;cases oi h;exact ⟨trivial,rfl,_,rfl,⟨_,Res.one (resOne.t rfl),rfl,hS8.pick [] rfl rfl⟩⟩
     replace h:=bcF h hc57;refine go ?_;refine LW.u (Pur.ix Tryz.underlying25 sz67 rfl rfl hp5 hq6) rfl ?_;refine go ?_;refine LW.l (Ldr.old w0 ag3 rfl (hk11 15 _ rfl)) (hS8.same _ hb12.1 hb12.2) rfl ?_;refine go ?_;refine CW.fl [0,1,5,166] fun e=>?_;refine cd (fun hc58=>?_) fun hc58=>?_
     · replace h:=bcT h hc58;refine go ?_;cases oi h;exact ⟨trivial,rfl,_,rfl,⟨_,Res.one (resOne.t rfl),rfl,hS8.pick [] rfl rfl⟩⟩
     replace h:=bcF h hc58;refine go ?_;cases oi h;exact ⟨rfl,⟨⟨rfl,rfl,rfl,trivial⟩,hS8.pick [] rfl rfl⟩⟩
   replace h:=bcF h hc3;refine go ?_;cases oi h;exact ⟨trivial,rfl,⟨⟨rfl,trivial⟩,hS2.pick [] rfl rfl⟩⟩
 intro x e w61 hM;rcases o59 with o59 | r62
 · obtain ⟨rfl,hM⟩:=hM;obtain ⟨hE,hS9⟩:=hM;obtain ⟨e,rfl⟩:=hE.out;have h:=h60;refine go ?_;cases h;exact fi hS9
 obtain ⟨rfl,u,rfl,hM⟩:=hM;cases h60;exact And.intro trivial hM
theorem W_l_szHeap {w0:World} {N:Nat} {x0:DHeap} {x1:Int} {r:Int} (h:F_l_szHeap N x0 x1=some r) {a0_0:Option Addr} {n0_0 c0_0:Nat} (hn0_0:n0_0=x0.arena.length) (hr0_0:rdS (Bor w0 []) w0 a0_0 c0_0 x0.arena) {a0_4:Option Addr} {n0_4 c0_4:Nat} (hn0_4:n0_4=x0.gc.grey.length) (hr0_4:rdS (Bor w0 []) w0 a0_4 c0_4 x0.gc.grey) :
    Ret Tryz.prog 133 #[.agg #[.slice a0_0 n0_0 c0_0,.int .i64 x0.gc.phase,.int .i64 x0.gc.pos,.int .i64 x0.gc.round,.slice a0_4 n0_4 c0_4],.int .i64 x1] w0 (fun v w=>v=.int .i64 r∧St w0 [] w []):=by
 subst hn0_0 hn0_4;unfold F_l_szHeap at h;refine Ret.fn Tryz.func133 fun e=>?_;have hS1:=St.start w0;refine go ?_;refine LW.bo hS1 fun g1 w2 hS2=>?_;refine go ?_;replace ⟨y3,hy3,h⟩:=obind h;refine LW.c0 (W_l_szObjS hy3 rfl (hS2.rB hr0_0)) hS2 fun w4 hS3=>?_;refine go ?_;refine cd (fun hc5=>?_) fun hc5=>?_
 · replace h:=bcT h hc5;refine go ?_;cases h;exact fi hS3
 replace h:=bcF h hc5;refine go ?_;replace ⟨y6,hy6,h⟩:=obind h;refine LW.c0 (W_l_szGc hy6 rfl (hS3.rB hr0_4)) hS3 fun w7 hS4=>?_;refine go ?_;refine CW.fl [1,16] fun e=>?_;refine cd (fun hc8=>?_) fun hc8=>?_
 · replace h:=bcT h hc8;refine go ?_;cases h;exact fi hS4
 replace h:=bcF h hc8;refine go ?_;cases h;exact fi hS4
end Go.Kx
