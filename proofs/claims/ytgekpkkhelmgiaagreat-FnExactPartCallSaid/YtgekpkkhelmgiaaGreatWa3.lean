/- Each call returns what the plain function says. Printed by drive.py. -/
import Derived.Test.YtgekpkkhelmgiaaGreatFa
import Derived.Test.YtgekpkkhelmgiaaGreatPu
import Derived.Test.YtgekpkkhelmgiaaGreatWa0
import Derived.Test.YtgekpkkhelmgiaaGreatWa1
import Derived.Test.YtgekpkkhelmgiaaGreatWa2
namespace Go.Kx
open Go Go.RowKit Go.Proofs
set_option maxRecDepth 10000
set_option maxHeartbeats 8000000
set_option linter.unusedVariables false
set_option linter.unusedSimpArgs false
theorem W_s_ObjOk {w0:World} {N:Nat} {x0:DObj} {r:Bool} (h:F_s_ObjOk N x0=some r) {a0_10:Ad} {n0_10 c0_10:Nat} (hn0_10:n0_10=x0.links.length) (hr0_10:rdS (Bor w0 []) w0 a0_10 c0_10 x0.links) {a0_11:Ad} {n0_11 c0_11:Nat} (hn0_11:n0_11=x0.data.length) (hr0_11:rdS (Bor w0 []) w0 a0_11 c0_11 x0.data) {a0_12:Ad} {n0_12 c0_12:Nat} (hn0_12:n0_12=x0.queue.length) (hr0_12:rdS (Bor w0 []) w0 a0_12 c0_12 x0.queue) :
    Ret Tryz.prog 164 #[.agg #[vI x0.gen,vI x0.kind,vI x0.box,vI x0.res,vI x0.til,vI x0.pages,vI x0.wait,vI x0.got,vI x0.ran,.bool x0.mark,vS a0_10 n0_10 c0_10,vS a0_11 n0_11 c0_11,vS a0_12 n0_12 c0_12]] w0 (fun v w=>v=.bool r∧St w0 [] w []):=by
 subst hn0_10 hn0_11 hn0_12;unfold F_s_ObjOk at h;refine Ret.fn Tryz.func164 fun e=>?_;have S1:=St.start w0;refine go ?_;refine LW.bo S1 fun g1 w2 S2=>?_;refine go ?_;replace ⟨y3,hy3,h⟩:=obind h;refine LW.c0 (W_s_l1In hy3) S2 fun w4 S3=>?_;refine go ?_;refine cd (fun z5=>?_) fun z5=>?_
 · replace h:=bcT h z5;refine go ?_;cases h;exact fi S3
 replace h:=bcF h z5;refine go ?_;refine cd (fun z6=>?_) fun z6=>?_
 · replace h:=bcT h z6;refine gs ?_;obtain ⟨j7,hj7,h8⟩:=obind h;refine CW.jn [] [] [(2,.bool j7)] S3 (h1:=?_) (h2:=?_)
   · have h:=hj7;refine go ?_;rcases bcases (x0.box==0) with z9 | z9
     · replace h:=bcT h z9;refine go ?_;rcases bcases (x0.res==0) with z10 | z10
       · replace h:=bcT h z10;refine go ?_;refine LW.fl [1,26] fun e=>?_;rcases bcases (x0.til==0) with z11 | z11
         · replace h:=bcT h z11;refine go ?_;rcases bcases (x0.pages==0) with z12 | z12
           · replace h:=bcT h z12;refine go ?_;rcases bcases (x0.wait==0) with z13 | z13
             · replace h:=bcT h z13;refine go ?_;rcases bcases (x0.got==0) with z14 | z14
               · replace h:=bcT h z14;refine go ?_;rcases bcases (x0.ran==0) with z15 | z15
                 · replace h:=bcT h z15;refine go ?_;refine LW.fl [1,51] fun e=>?_;rcases bcases (!x0.mark) with z16 | z16
                   · replace h:=bcT h z16;refine go ?_;rcases bcases ((x0.links.length:Int)==0) with z17 | z17
                     · replace h:=bcT h z17;refine go ?_;rcases bcases ((x0.data.length:Int)==0) with z18 | z18
                       · replace h:=bcT h z18;refine go ?_;cases oi h;exact ⟨⟨rfl,trivial⟩,S3.pick [] rfl rfl⟩
                       replace h:=bcF h z18;refine go ?_;cases oi h;exact ⟨⟨rfl,trivial⟩,S3.pick [] rfl rfl⟩
                     replace h:=bcF h z17;refine go ?_;cases oi h;exact ⟨⟨rfl,trivial⟩,S3.pick [] rfl rfl⟩
                   replace h:=bcF h z16;refine go ?_;cases oi h;exact ⟨⟨rfl,trivial⟩,S3.pick [] rfl rfl⟩
                 replace h:=bcF h z15;refine go ?_;cases oi h;exact ⟨⟨rfl,trivial⟩,S3.pick [] rfl rfl⟩
               replace h:=bcF h z14;refine go ?_;cases oi h;exact ⟨⟨rfl,trivial⟩,S3.pick [] rfl rfl⟩
             replace h:=bcF h z13;refine go ?_;cases oi h;exact ⟨⟨rfl,trivial⟩,S3.pick [] rfl rfl⟩
           replace h:=bcF h z12;refine go ?_;cases oi h;exact ⟨⟨rfl,trivial⟩,S3.pick [] rfl rfl⟩
         replace h:=bcF h z11;refine go ?_;cases oi h;exact ⟨⟨rfl,trivial⟩,S3.pick [] rfl rfl⟩
       replace h:=bcF h z10;refine go ?_;cases oi h;exact ⟨⟨rfl,trivial⟩,S3.pick [] rfl rfl⟩
     replace h:=bcF h z9;refine go ?_;cases oi h;exact ⟨⟨rfl,trivial⟩,S3.pick [] rfl rfl⟩
   intro e w19 S4;have h:=h8;refine go ?_;cases h;exact fi S4
 replace h:=bcF h z6;refine gs ?_;obtain ⟨j20,hj20,h21⟩:=obind h;refine CW.jn [1] [0] [(108,.bool j20)] S3 (h1:=?_) (h2:=?_)
 · have h:=hj20;refine go ?_;replace ⟨y22,hy22,h⟩:=obind h;refine LW.c0 (W_s_l1In hy22) S3 fun w23 S5=>?_;refine go ?_;rcases bcases (!y22) with z24 | z24
   · replace h:=bcT h z24;refine go ?_;cases oi h;exact ⟨⟨rfl,rfl,trivial⟩,S5.pick [0] rfl rfl⟩
   replace h:=bcF h z24;refine go ?_;replace ⟨y25,hy25,h⟩:=obind h;refine go ?_;refine LW.c0 (W_s_l1In hy25) S5 fun w26 S6=>?_;refine go ?_;rcases bcases (!y25) with z27 | z27
   · replace h:=bcT h z27;refine go ?_;cases oi h;exact ⟨⟨rfl,rfl,trivial⟩,S6.pick [0] rfl rfl⟩
   replace h:=bcF h z27;refine go ?_;replace ⟨y28,hy28,h⟩:=obind h;refine go ?_;refine LW.c0 (W_s_l6Res hy28) S6 fun w29 S7=>?_;refine go ?_;refine LW.fl [1,85] fun e=>?_;rcases bcases (!y28) with z30 | z30
   · replace h:=bcT h z30;refine go ?_;cases oi h;exact ⟨⟨rfl,rfl,trivial⟩,S7.pick [0] rfl rfl⟩
   replace h:=bcF h z30;refine go ?_;replace ⟨y31,hy31,h⟩:=obind h;refine go ?_;refine LW.c0 (W_s_l1In hy31) S7 fun w32 S8=>?_;refine go ?_;rcases bcases (!y31) with z33 | z33
   · replace h:=bcT h z33;refine go ?_;cases oi h;exact ⟨⟨rfl,rfl,trivial⟩,S8.pick [0] rfl rfl⟩
   replace h:=bcF h z33;refine go ?_;replace ⟨y34,hy34,h⟩:=obind h;refine go ?_;refine LW.c0 (W_s_l1In hy34) S8 fun w35 S9=>?_;refine go ?_;rcases bcases (!y34) with z36 | z36
   · replace h:=bcT h z36;refine go ?_;cases oi h;exact ⟨⟨rfl,rfl,trivial⟩,S9.pick [0] rfl rfl⟩
   replace h:=bcF h z36;refine go ?_;rcases bcases ((x0.links.length:Int) != 2) with z37 | z37
   · replace h:=bcT h z37;refine go ?_;cases oi h;exact ⟨⟨rfl,rfl,trivial⟩,S9.pick [0] rfl rfl⟩
   replace h:=bcF h z37;refine go ?_;replace ⟨y38,hy38,h⟩:=obind h;refine go ?_;refine LW.c0 (W_s_l1In hy38) S9 fun w39 S10=>?_;refine go ?_;cases oi h;exact ⟨⟨rfl,rfl,trivial⟩,S10.pick [0] rfl rfl⟩
 intro e w40 S11;have h:=h21;refine go ?_;refine cd (fun z41=>?_) fun z41=>?_
 · replace h:=bcT h z41;refine go ?_;cases h;exact fi S11
 replace h:=bcF h z41;refine go ?_;obtain ⟨o57,ho57,h58⟩:=obind h;refine CW.mono (CW.lx [1] [0] [1] 0 (fun s42=>[(3,vI s42)]) (RT Tryz.prog Tryz.f164.results (fun u=>.bool u) w0 []) S11 ho57 (hb:=?_)) ?_
 · intro s42 e w43 o S12 h;refine go ?_;refine cd (fun z44=>?_) fun z44=>?_
   · replace h:=bcT h z44;refine go ?_;replace ⟨y45,hy45,h⟩:=obind h;obtain ⟨b48,o49,cs50,hae,hb53,hp46,hq47,hd51,hk52⟩:=hr0_10.idx hy45;subst hae;obtain rfl:=hd51;refine LW.u (Pur.ix Tryz.underlying22 sz3 rfl rfl hp46 hq47) rfl ?_;refine LW.l (Ldr.old w0 ag3 rfl (hk52 0 _ rfl)) (S12.same _ hb53.1 hb53.2) rfl ?_;replace ⟨y54,hy54,h⟩:=obind h;refine LW.c0 (W_s_l1In hy54) S12 fun w55 S13=>?_;refine go ?_;refine CW.fl [1,3,119] fun e=>?_;refine cd (fun z56=>?_) fun z56=>?_
     · replace h:=bcT h z56;refine go ?_;cases oi h;exact ⟨trivial,rfl,_,rfl,⟨_,Res.one (resOne.t rfl),rfl,S13.pick [] rfl rfl⟩⟩
     replace h:=bcF h z56;refine go ?_;cases oi h;exact ⟨rfl,⟨⟨rfl,rfl,trivial⟩,S13.pick [0] rfl rfl⟩⟩
   replace h:=bcF h z44;refine go ?_;cases oi h;exact ⟨trivial,rfl,⟨⟨rfl,trivial⟩,S12.pick [0] rfl rfl⟩⟩
 intro x e w59 hM;rcases o57 with o57 | r150
 · obtain ⟨rfl,hM⟩:=hM;obtain ⟨hE,S14⟩:=hM;obtain ⟨e,rfl⟩:=hE.out;have h:=h58;refine gs ?_;obtain ⟨j60,hj60,h61⟩:=obind h;refine CW.jn [1] [0] [(165,.bool j60)] S14 (h1:=?_) (h2:=?_)
   · have h:=hj60;refine go ?_;rcases bcases (x0.kind != 4) with z62 | z62
     · replace h:=bcT h z62;refine go ?_;rcases bcases (x0.wait != 0) with z63 | z63
       · replace h:=bcT h z63;refine go ?_;cases oi h;exact ⟨⟨rfl,rfl,trivial⟩,S14.pick [0] rfl rfl⟩
       replace h:=bcF h z63;refine go ?_;refine LW.fl [1,123,132] fun e=>?_;rcases bcases (x0.got != 0) with z64 | z64
       · replace h:=bcT h z64;refine go ?_;cases oi h;exact ⟨⟨rfl,rfl,trivial⟩,S14.pick [0] rfl rfl⟩
       replace h:=bcF h z64;refine go ?_;rcases bcases (x0.ran != 0) with z65 | z65
       · replace h:=bcT h z65;refine go ?_;cases oi h;exact ⟨⟨rfl,rfl,trivial⟩,S14.pick [0] rfl rfl⟩
       replace h:=bcF h z65;refine go ?_;rcases bcases (x0.kind==4) with z66 | z66
       · replace h:=bcT h z66;refine go ?_;rcases bcases (decide (x0.wait<0)) with z67 | z67
         · replace h:=bcT h z67;refine go ?_;cases oi h;exact ⟨⟨rfl,rfl,trivial⟩,S14.pick [0] rfl rfl⟩
         replace h:=bcF h z67;refine go ?_;rcases bcases (decide (x0.wait > 0)) with z68 | z68
         · replace h:=bcT h z68;refine go ?_;refine LW.fl [1,138,142,146,150,153] fun e=>?_;replace ⟨y69,hy69,h⟩:=obind h;refine go ?_;refine LW.c0 (W_s_l8Handle hy69) S14 fun w70 S15=>?_;refine go ?_;rcases bcases (!y69) with z71 | z71
           · replace h:=bcT h z71;refine go ?_;cases oi h;exact ⟨⟨rfl,rfl,trivial⟩,S15.pick [0] rfl rfl⟩
           replace h:=bcF h z71;refine go ?_;replace ⟨y72,hy72,h⟩:=obind h;refine go ?_;refine LW.c0 (W_s_l1In hy72) S15 fun w73 S16=>?_;refine go ?_;cases oi h;exact ⟨⟨rfl,rfl,trivial⟩,S16.pick [0] rfl rfl⟩
         replace h:=bcF h z68;refine go ?_;refine LW.fl [1,138,142,158,160] fun e=>?_;replace ⟨y74,hy74,h⟩:=obind h;refine go ?_;refine LW.c0 (W_s_l1In hy74) S14 fun w75 S17=>?_;refine go ?_;cases oi h;exact ⟨⟨rfl,rfl,trivial⟩,S17.pick [0] rfl rfl⟩
       replace h:=bcF h z66;refine go ?_;cases oi h;exact ⟨⟨rfl,rfl,trivial⟩,S14.pick [0] rfl rfl⟩
     replace h:=bcF h z62;refine go ?_;refine LW.fl [1,138,142] fun e=>?_;rcases bcases (x0.kind==4) with z76 | z76
     · replace h:=bcT h z76;refine go ?_;rcases bcases (decide (x0.wait<0)) with z77 | z77
       · replace h:=bcT h z77;refine go ?_;cases oi h;exact ⟨⟨rfl,rfl,trivial⟩,S14.pick [0] rfl rfl⟩
       replace h:=bcF h z77;refine go ?_;rcases bcases (decide (x0.wait > 0)) with z78 | z78
       · replace h:=bcT h z78;refine go ?_;replace ⟨y79,hy79,h⟩:=obind h;refine go ?_;refine LW.c0 (W_s_l8Handle hy79) S14 fun w80 S18=>?_;refine go ?_;rcases bcases (!y79) with z81 | z81
         · replace h:=bcT h z81;refine go ?_;cases oi h;exact ⟨⟨rfl,rfl,trivial⟩,S18.pick [0] rfl rfl⟩
         replace h:=bcF h z81;refine go ?_;replace ⟨y82,hy82,h⟩:=obind h;refine go ?_;refine LW.c0 (W_s_l1In hy82) S18 fun w83 S19=>?_;refine go ?_;cases oi h;exact ⟨⟨rfl,rfl,trivial⟩,S19.pick [0] rfl rfl⟩
       replace h:=bcF h z78;refine go ?_;replace ⟨y84,hy84,h⟩:=obind h;refine go ?_;refine LW.c0 (W_s_l1In hy84) S14 fun w85 S20=>?_;refine go ?_;cases oi h;exact ⟨⟨rfl,rfl,trivial⟩,S20.pick [0] rfl rfl⟩
     replace h:=bcF h z76;refine go ?_;cases oi h;exact ⟨⟨rfl,rfl,trivial⟩,S14.pick [0] rfl rfl⟩
   intro e w86 S21;have h:=h61;refine go ?_;refine cd (fun z87=>?_) fun z87=>?_
   · replace h:=bcT h z87;refine go ?_;cases h;exact fi S21
   replace h:=bcF h z87;refine gs ?_;obtain ⟨j88,hj88,h89⟩:=obind h;refine CW.jn [1] [0] [(195,.bool j88)] S21 (h1:=?_) (h2:=?_)
   · have h:=hj88;refine go ?_;rcases bcases ((x0.data.length:Int) != 0) with z90 | z90
     · replace h:=bcT h z90;refine go ?_;rcases bcases (x0.kind != 2) with z91 | z91
       · replace h:=bcT h z91;refine go ?_;cases oi h;exact ⟨⟨rfl,rfl,trivial⟩,S21.pick [0] rfl rfl⟩
       replace h:=bcF h z91;refine go ?_;refine LW.fl [1,183] fun e=>?_;rcases bcases ((x0.data.length:Int) != x0.pages) with z92 | z92
       · replace h:=bcT h z92;refine go ?_;cases oi h;exact ⟨⟨rfl,rfl,trivial⟩,S21.pick [0] rfl rfl⟩
       replace h:=bcF h z92;refine go ?_;rcases bcases (x0.kind==2) with z93 | z93
       · replace h:=bcT h z93;refine go ?_;cases oi h;exact ⟨⟨rfl,rfl,trivial⟩,S21.pick [0] rfl rfl⟩
       replace h:=bcF h z93;refine go ?_;cases oi h;exact ⟨⟨rfl,rfl,trivial⟩,S21.pick [0] rfl rfl⟩
     replace h:=bcF h z90;refine go ?_;refine LW.fl [1,183,187] fun e=>?_;rcases bcases (x0.kind==2) with z94 | z94
     · replace h:=bcT h z94;refine go ?_;cases oi h;exact ⟨⟨rfl,rfl,trivial⟩,S21.pick [0] rfl rfl⟩
     replace h:=bcF h z94;refine go ?_;cases oi h;exact ⟨⟨rfl,rfl,trivial⟩,S21.pick [0] rfl rfl⟩
   intro e w95 S22;have h:=h89;refine go ?_;refine cd (fun z96=>?_) fun z96=>?_
   · replace h:=bcT h z96;refine go ?_;cases h;exact fi S22
   replace h:=bcF h z96;refine go ?_;obtain ⟨o112,ho112,h113⟩:=obind h;refine CW.mono (CW.lx [1] [0] [1] 2 (fun s97=>[(4,vI s97)]) (RT Tryz.prog Tryz.f164.results (fun u=>.bool u) w0 []) S22 ho112 (hb:=?_)) ?_
   · intro s97 e w98 o S23 h;refine go ?_;refine CW.fl [1,4,200] fun e=>?_;refine cd (fun z99=>?_) fun z99=>?_
     · replace h:=bcT h z99;refine go ?_;replace ⟨y100,hy100,h⟩:=obind h;obtain ⟨b103,o104,cs105,hae,hb108,hp101,hq102,hd106,hk107⟩:=hr0_11.idx hy100;subst hae;obtain rfl:=hd106;refine LW.u (Pur.ix Tryz.underlying22 sz3 rfl rfl hp101 hq102) rfl ?_;refine LW.l (Ldr.old w0 ag3 rfl (hk107 0 _ rfl)) (S23.same _ hb108.1 hb108.2) rfl ?_;replace ⟨y109,hy109,h⟩:=obind h;refine LW.c0 (W_s_l1In hy109) S23 fun w110 S24=>?_;refine go ?_;refine cd (fun z111=>?_) fun z111=>?_
       · replace h:=bcT h z111;refine go ?_;cases oi h;exact ⟨trivial,rfl,_,rfl,⟨_,Res.one (resOne.t rfl),rfl,S24.pick [] rfl rfl⟩⟩
       replace h:=bcF h z111;refine go ?_;cases oi h;exact ⟨rfl,⟨⟨rfl,rfl,trivial⟩,S24.pick [0] rfl rfl⟩⟩
     replace h:=bcF h z99;refine go ?_;cases oi h;exact ⟨trivial,rfl,⟨⟨rfl,trivial⟩,S23.pick [0] rfl rfl⟩⟩
   intro x e w114 hM;rcases o112 with o112 | r149
   · obtain ⟨rfl,hM⟩:=hM;obtain ⟨hE,S25⟩:=hM;obtain ⟨e,rfl⟩:=hE.out;have h:=h113;refine gs ?_;obtain ⟨j115,hj115,h116⟩:=obind h;refine CW.jn [1] [0] [(224,.bool j115)] S25 (h1:=?_) (h2:=?_)
     · have h:=hj115;refine go ?_;rcases bcases (decide ((x0.queue.length:Int) > 2)) with z117 | z117
       · replace h:=bcT h z117;refine go ?_;cases oi h;exact ⟨⟨rfl,rfl,trivial⟩,S25.pick [0] rfl rfl⟩
       replace h:=bcF h z117;refine go ?_;rcases bcases (decide ((x0.queue.length:Int) > 0)) with z118 | z118
       · replace h:=bcT h z118;refine go ?_;cases oi h;exact ⟨⟨rfl,rfl,trivial⟩,S25.pick [0] rfl rfl⟩
       replace h:=bcF h z118;refine go ?_;cases oi h;exact ⟨⟨rfl,rfl,trivial⟩,S25.pick [0] rfl rfl⟩
     intro e w119 S26;have h:=h116;refine go ?_;refine cd (fun z120=>?_) fun z120=>?_
     · replace h:=bcT h z120;refine go ?_;cases h;exact fi S26
     replace h:=bcF h z120;refine go ?_;obtain ⟨o145,ho145,h146⟩:=obind h;refine CW.mono (CW.lx [1] [0] [] 4 (fun s121=>[(5,vI s121)]) (RT Tryz.prog Tryz.f164.results (fun u=>.bool u) w0 []) S26 ho145 (hb:=?_)) ?_
     · intro s121 e w122 o S27 h;refine go ?_;refine CW.fl [1,5,229] fun e=>?_;refine cd (fun z123=>?_) fun z123=>?_
       · replace h:=bcT h z123;refine gs ?_;refine CW.block ?_;refine gs ?_;obtain ⟨j124,hj124,h125⟩:=obind h;refine CW.jn [1,5] [0] [(258,.bool j124)] S27 (h1:=?_) (h2:=?_)
         · have h:=hj124;refine go ?_;replace ⟨y126,hy126,h⟩:=obind h;obtain ⟨b129,o130,cs131,hae,hb134,hp127,hq128,hd132,hk133⟩:=hr0_12.idx hy126;subst hae;obtain rfl:=hd132;refine LW.u (Pur.ix Tryz.underlying108 sz127 rfl rfl hp127 hq128) rfl ?_;refine go ?_;refine LW.l (Ldr.old w0 ag3 rfl (hk133 0 _ rfl)) (S27.same _ hb134.1 hb134.2) rfl ?_;refine go ?_;rcases bcases (y126.src != (-1)) with z135 | z135
           · replace h:=bcT h z135;refine go ?_;refine LW.u (Pur.ix Tryz.underlying108 sz127 rfl rfl hp127 hq128) rfl ?_;refine go ?_;refine LW.l (Ldr.old w0 ag3 rfl (hk133 0 _ rfl)) (S27.same _ hb134.1 hb134.2) rfl ?_;replace ⟨y136,hy136,h⟩:=obind h;refine go ?_;refine LW.c0 (W_s_l8Handle hy136) S27 fun w137 S28=>?_;refine go ?_;rcases bcases (!y136) with z138 | z138
             · replace h:=bcT h z138;refine go ?_;cases oi h;exact ⟨⟨rfl,rfl,rfl,trivial⟩,S28.pick [0] rfl rfl⟩
             replace h:=bcF h z138;refine go ?_;refine LW.u (Pur.ix Tryz.underlying108 sz127 rfl rfl hp127 hq128) rfl ?_;refine go ?_;refine LW.fl [1,5,249,254] fun e=>?_;refine go ?_;refine LW.l (Ldr.old w0 ag3 rfl (hk133 1 _ rfl)) (S28.same _ hb134.1 hb134.2) rfl ?_;replace ⟨y139,hy139,h⟩:=obind h;refine go ?_;refine LW.c0 (W_s_l1In hy139) S28 fun w140 S29=>?_;refine go ?_;cases oi h;exact ⟨⟨rfl,rfl,rfl,trivial⟩,S29.pick [0] rfl rfl⟩
           replace h:=bcF h z135;refine go ?_;refine LW.u (Pur.ix Tryz.underlying108 sz127 rfl rfl hp127 hq128) rfl ?_;refine go ?_;refine LW.fl [1,5,249,254] fun e=>?_;refine go ?_;refine LW.l (Ldr.old w0 ag3 rfl (hk133 1 _ rfl)) (S27.same _ hb134.1 hb134.2) rfl ?_;replace ⟨y141,hy141,h⟩:=obind h;refine go ?_;refine LW.c0 (W_s_l1In hy141) S27 fun w142 S30=>?_;refine go ?_;cases oi h;exact ⟨⟨rfl,rfl,rfl,trivial⟩,S30.pick [0] rfl rfl⟩
         intro e w143 S31;have h:=h125;refine go ?_;refine cd (fun z144=>?_) fun z144=>?_
         · replace h:=bcT h z144;refine go ?_;cases oi h;exact ⟨trivial,rfl,_,rfl,⟨_,Res.one (resOne.t rfl),rfl,S31.pick [] rfl rfl⟩⟩
         replace h:=bcF h z144;refine go ?_;cases oi h;exact ⟨rfl,⟨⟨rfl,rfl,trivial⟩,S31.pick [0] rfl rfl⟩⟩
       replace h:=bcF h z123;refine go ?_;cases oi h;exact ⟨trivial,rfl,⟨trivial,S27.pick [0] rfl rfl⟩⟩
     intro x e w147 hM;rcases o145 with o145 | r148
     · obtain ⟨rfl,hM⟩:=hM;obtain ⟨hE,S32⟩:=hM;obtain ⟨e,rfl⟩:=hE.out;rw [show e=upds e [] from rfl];have h:=h146;refine go ?_;cases h;exact fi S32
     obtain ⟨rfl,u,rfl,hM⟩:=hM;cases h146;exact And.intro trivial hM
   obtain ⟨rfl,u,rfl,hM⟩:=hM;cases h113;exact And.intro trivial hM
 obtain ⟨rfl,u,rfl,hM⟩:=hM;cases h58;exact And.intro trivial hM
theorem W_s_TapOk {w0:World} {N:Nat} {x0:DTap} {r:Bool} (h:F_s_TapOk N x0=some r) :
    Ret Tryz.prog 68 #[.agg #[vI x0.res,vI x0.toPart,vI x0.toRes,vI x0.which,vI x0.kind,vI x0.rate]] w0 (fun v w=>v=.bool r∧St w0 [] w []):=by
 unfold F_s_TapOk at h;refine Ret.fn Tryz.func68 fun e=>?_;have S1:=St.start w0;refine go ?_;refine LW.bo S1 fun g1 w2 S2=>?_;refine gs ?_;obtain ⟨j3,hj3,h4⟩:=obind h;refine CW.jn [1] [0] [(24,.bool j3)] S2 (h1:=?_) (h2:=?_)
 · have h:=hj3;refine go ?_;replace ⟨y5,hy5,h⟩:=obind h;refine LW.c0 (W_s_l6Res hy5) S2 fun w6 S3=>?_;refine go ?_;rcases bcases (!y5) with z7 | z7
   · replace h:=bcT h z7;refine go ?_;cases oi h;exact ⟨⟨rfl,rfl,trivial⟩,S3.pick [0] rfl rfl⟩
   replace h:=bcF h z7;refine go ?_;replace ⟨y8,hy8,h⟩:=obind h;refine go ?_;refine LW.c0 (W_s_l1In hy8) S3 fun w9 S4=>?_;refine go ?_;rcases bcases (!y8) with z10 | z10
   · replace h:=bcT h z10;refine go ?_;cases oi h;exact ⟨⟨rfl,rfl,trivial⟩,S4.pick [0] rfl rfl⟩
   replace h:=bcF h z10;refine go ?_;replace ⟨y11,hy11,h⟩:=obind h;refine go ?_;refine LW.c0 (W_s_l6Res hy11) S4 fun w12 S5=>?_;refine go ?_;rcases bcases (!y11) with z13 | z13
   · replace h:=bcT h z13;refine go ?_;cases oi h;exact ⟨⟨rfl,rfl,trivial⟩,S5.pick [0] rfl rfl⟩
   replace h:=bcF h z13;refine go ?_;replace ⟨y14,hy14,h⟩:=obind h;refine go ?_;refine LW.c0 (W_s_l1In hy14) S5 fun w15 S6=>?_;refine go ?_;cases oi h;exact ⟨⟨rfl,rfl,trivial⟩,S6.pick [0] rfl rfl⟩
 intro e w16 S7;have h:=h4;refine go ?_;refine cd (fun z17=>?_) fun z17=>?_
 · replace h:=bcT h z17;refine go ?_;cases h;exact fi S7
 replace h:=bcF h z17;refine go ?_;refine cd (fun z18=>?_) fun z18=>?_
 · replace h:=bcT h z18;refine go ?_;replace ⟨y19,hy19,h⟩:=obind h;refine LW.c0 (W_s_l1In hy19) S7 fun w20 S8=>?_;refine go ?_;cases h;exact fi S8
 replace h:=bcF h z18;refine go ?_;refine cd (fun z21=>?_) fun z21=>?_
 · replace h:=bcT h z21;refine go ?_;replace ⟨y22,hy22,h⟩:=obind h;refine LW.c0 (W_s_l1In hy22) S7 fun w23 S9=>?_;refine go ?_;cases h;exact fi S9
 replace h:=bcF h z21;refine go ?_;cases h;exact fi S7
theorem W_s_HandlePart {w0:World} {N:Nat} {x0:Int} {r:Int} (h:F_s_HandlePart N x0=some r) :
    Ret Tryz.prog 132 #[vI x0] w0 (fun v w=>v=vI r∧St w0 [] w []):=by
 unfold F_s_HandlePart at h;refine Ret.fn Tryz.func132 fun e=>?_;have S1:=St.start w0;refine go ?_;replace ⟨y1,hy1,h⟩:=obind h;refine LW.c0 (W_s_l8Handle hy1) S1 fun w2 S2=>?_;refine go ?_;refine cd (fun z3=>?_) fun z3=>?_
 · replace h:=bcT h z3;refine go ?_;cases h;exact fi S2
 replace h:=bcF h z3;refine go ?_;refine LW.u (Pur.rem rfl rfl (by decide)) rfl ?_;refine go ?_;cases h;exact fi S2
theorem W_s_HandleSlot {w0:World} {N:Nat} {x0:Int} {r:Int} (h:F_s_HandleSlot N x0=some r) :
    Ret Tryz.prog 135 #[vI x0] w0 (fun v w=>v=vI r∧St w0 [] w []):=by
 unfold F_s_HandleSlot at h;refine Ret.fn Tryz.func135 fun e=>?_;have S1:=St.start w0;refine go ?_;replace ⟨y1,hy1,h⟩:=obind h;refine LW.c0 (W_s_l8Handle hy1) S1 fun w2 S2=>?_;refine go ?_;refine cd (fun z3=>?_) fun z3=>?_
 · replace h:=bcT h z3;refine go ?_;cases h;exact fi S2
 replace h:=bcF h z3;refine go ?_;refine LW.u (Pur.quo rfl rfl (by decide)) rfl ?_;refine LW.u (Pur.rem rfl rfl (by decide)) rfl ?_;refine go ?_;cases h;exact fi S2
theorem W_s_HandleGen {w0:World} {N:Nat} {x0:Int} {r:Int} (h:F_s_HandleGen N x0=some r) :
    Ret Tryz.prog 136 #[vI x0] w0 (fun v w=>v=vI r∧St w0 [] w []):=by
 unfold F_s_HandleGen at h;refine Ret.fn Tryz.func136 fun e=>?_;have S1:=St.start w0;refine go ?_;replace ⟨y1,hy1,h⟩:=obind h;refine LW.c0 (W_s_l8Handle hy1) S1 fun w2 S2=>?_;refine go ?_;refine cd (fun z3=>?_) fun z3=>?_
 · replace h:=bcT h z3;refine go ?_;cases h;exact fi S2
 replace h:=bcF h z3;refine go ?_;refine LW.u (Pur.quo rfl rfl (by decide)) rfl ?_;refine LW.u (Pur.quo rfl rfl (by decide)) rfl ?_;refine go ?_;cases h;exact fi S2
theorem W_s_HandleOf {w0:World} {N:Nat} {x0:Int} {x1:Int} {x2:Int} {r:Int} (h:F_s_HandleOf N x0 x1 x2=some r) :
    Ret Tryz.prog 77 #[vI x0,vI x1,vI x2] w0 (fun v w=>v=vI r∧St w0 [] w []):=by
 unfold F_s_HandleOf at h;refine Ret.fn Tryz.func77 fun e=>?_;have S1:=St.start w0;refine gs ?_;refine CW.region ?_;refine gs ?_;obtain ⟨j1,hj1,h2⟩:=obind h;refine CW.jn [0,1,2] [] [(19,.bool j1)] S1 (h1:=?_) (h2:=?_)
 · have h:=hj1;refine go ?_;replace ⟨y3,hy3,h⟩:=obind h;refine LW.c0 (W_s_l1In hy3) S1 fun w4 S2=>?_;refine go ?_;rcases bcases (!y3) with z5 | z5
   · replace h:=bcT h z5;refine go ?_;cases oi h;exact ⟨⟨rfl,rfl,rfl,rfl,trivial⟩,S2.pick [] rfl rfl⟩
   replace h:=bcF h z5;refine go ?_;replace ⟨y6,hy6,h⟩:=obind h;refine go ?_;refine LW.c0 (W_s_l8Slot hy6) S2 fun w7 S3=>?_;refine go ?_;rcases bcases (!y6) with z8 | z8
   · replace h:=bcT h z8;refine go ?_;cases oi h;exact ⟨⟨rfl,rfl,rfl,rfl,trivial⟩,S3.pick [] rfl rfl⟩
   replace h:=bcF h z8;refine go ?_;replace ⟨y9,hy9,h⟩:=obind h;refine go ?_;refine LW.c0 (W_s_l1In hy9) S3 fun w10 S4=>?_;refine go ?_;cases oi h;exact ⟨⟨rfl,rfl,rfl,rfl,trivial⟩,S4.pick [] rfl rfl⟩
 intro e w11 S5;have h:=h2;refine go ?_;refine cd (fun z12=>?_) fun z12=>?_
 · replace h:=bcT h z12;refine go ?_;cases h;exact fi S5
 replace h:=bcF h z12;refine go ?_;cases h;exact fi S5
theorem W_i_TapOk {w0:World} {N:Nat} {x0:DTap} {r:Bool} (h:F_i_TapOk N x0=some r) :
    Ret Tryz.prog 92 #[.agg #[vI x0.res,vI x0.toPart,vI x0.toRes,vI x0.which,vI x0.kind,vI x0.rate]] w0 (fun v w=>v=.bool r∧St w0 [] w []):=by
 unfold F_i_TapOk at h;refine Ret.fn Tryz.func92 fun e=>?_;have S1:=St.start w0;refine go ?_;refine LW.bo S1 fun g1 w2 S2=>?_;refine gs ?_;obtain ⟨j3,hj3,h4⟩:=obind h;refine CW.jn [1] [0] [(24,.bool j3)] S2 (h1:=?_) (h2:=?_)
 · have h:=hj3;refine go ?_;replace ⟨y5,hy5,h⟩:=obind h;refine LW.c0 (W_i_isPlace hy5) S2 fun w6 S3=>?_;refine go ?_;rcases bcases (!y5) with z7 | z7
   · replace h:=bcT h z7;refine go ?_;cases oi h;exact ⟨⟨rfl,rfl,trivial⟩,S3.pick [0] rfl rfl⟩
   replace h:=bcF h z7;refine go ?_;replace ⟨y8,hy8,h⟩:=obind h;refine go ?_;refine LW.c0 (W_i_isPlace hy8) S3 fun w9 S4=>?_;refine go ?_;rcases bcases (!y8) with z10 | z10
   · replace h:=bcT h z10;refine go ?_;cases oi h;exact ⟨⟨rfl,rfl,trivial⟩,S4.pick [0] rfl rfl⟩
   replace h:=bcF h z10;refine go ?_;replace ⟨y11,hy11,h⟩:=obind h;refine go ?_;refine LW.c0 (W_i_isPart hy11) S4 fun w12 S5=>?_;refine go ?_;rcases bcases (!y11) with z13 | z13
   · replace h:=bcT h z13;refine go ?_;cases oi h;exact ⟨⟨rfl,rfl,trivial⟩,S5.pick [0] rfl rfl⟩
   replace h:=bcF h z13;refine go ?_;replace ⟨y14,hy14,h⟩:=obind h;refine go ?_;refine LW.c0 (W_i_within hy14) S5 fun w15 S6=>?_;refine go ?_;cases oi h;exact ⟨⟨rfl,rfl,trivial⟩,S6.pick [0] rfl rfl⟩
 intro e w16 S7;have h:=h4;refine go ?_;refine cd (fun z17=>?_) fun z17=>?_
 · replace h:=bcT h z17;refine go ?_;cases h;exact fi S7
 replace h:=bcF h z17;refine go ?_;rcases bcases (x0.kind==1) with z18 | z18
 · replace h:=bcT h z18;refine go ?_;replace ⟨y19,hy19,h⟩:=obind h;refine go ?_;refine LW.c0 (W_i_within hy19) S7 fun w20 S8=>?_;refine go ?_;rcases bcases y19 with z21 | z21
   · replace h:=bcT h z21;refine go ?_;cases h;exact fi S8
   replace h:=bcF h z21;refine go ?_;rcases bcases (x0.kind==2) with z22 | z22
   · replace h:=bcT h z22;refine go ?_;replace ⟨y23,hy23,h⟩:=obind h;refine go ?_;refine LW.c0 (W_i_within hy23) S8 fun w24 S9=>?_;refine go ?_;cases h;exact fi S9
   replace h:=bcF h z22;refine go ?_;cases h;exact fi S8
 replace h:=bcF h z18;refine go ?_;rcases bcases (x0.kind==2) with z25 | z25
 · replace h:=bcT h z25;refine go ?_;replace ⟨y26,hy26,h⟩:=obind h;refine go ?_;refine LW.c0 (W_i_within hy26) S7 fun w27 S10=>?_;refine go ?_;cases h;exact fi S10
 replace h:=bcF h z25;refine go ?_;cases h;exact fi S7
theorem W_i_AmtOk {w0:World} {N:Nat} {x0:DAmt} {r:Bool} (h:F_i_AmtOk N x0=some r) :
    Ret Tryz.prog 99 #[.agg #[vI x0.pages,vI x0.rent,vI x0.cpu]] w0 (fun v w=>v=.bool r∧St w0 [] w []):=by
 unfold F_i_AmtOk at h;refine Ret.fn Tryz.func99 fun e=>?_;have S1:=St.start w0;refine go ?_;refine LW.bo S1 fun g1 w2 S2=>?_;refine go ?_;replace ⟨y3,hy3,h⟩:=obind h;refine LW.c0 (W_i_isAmount hy3) S2 fun w4 S3=>?_;refine go ?_;rcases bcases y3 with z5 | z5
 · replace h:=bcT h z5;refine go ?_;replace ⟨y6,hy6,h⟩:=obind h;refine go ?_;refine LW.c0 (W_i_isAmount hy6) S3 fun w7 S4=>?_;refine go ?_;rcases bcases y6 with z8 | z8
   · replace h:=bcT h z8;refine go ?_;replace ⟨y9,hy9,h⟩:=obind h;refine go ?_;refine LW.c0 (W_i_isAmount hy9) S4 fun w10 S5=>?_;refine go ?_;cases h;exact fi S5
   replace h:=bcF h z8;refine go ?_;cases h;exact fi S4
 replace h:=bcF h z5;refine go ?_;cases h;exact fi S3
theorem W_i_isLive {w0:World} {N:Nat} {x0:List DRes} {x1:Int} {r:Bool} (h:F_i_isLive N x0 x1=some r) {a0_0:Ad} {n0_0 c0_0:Nat} (hn0_0:n0_0=x0.length) (hr0_0:rdS (Bor w0 []) w0 a0_0 c0_0 x0) :
    Ret Tryz.prog 169 #[vS a0_0 n0_0 c0_0,vI x1] w0 (fun v w=>v=.bool r∧St w0 [] w []):=by
 subst hn0_0;unfold F_i_isLive at h;refine Ret.fn Tryz.func169 fun e=>?_;have S1:=St.start w0;refine go ?_;replace ⟨y1,hy1,h⟩:=obind h;refine LW.c0 (W_i_isPlace hy1) S1 fun w2 S2=>?_;refine go ?_;rcases bcases y1 with z3 | z3
 · replace h:=bcT h z3;refine go ?_;replace ⟨y4,hy4,h⟩:=obind h;obtain ⟨b7,o8,cs9,hae,hb12,hp5,hq6,hd10,hk11⟩:=hr0_0.idx hy4;subst hae;obtain rfl:=hd10;refine go ?_;refine LW.u (Pur.ix Tryz.underlying40 sz130 rfl rfl hp5 hq6) rfl ?_;refine go ?_;refine LW.l (Ldr.old w0 ag4 rfl (hk11 0 _ rfl)) (S2.same _ hb12.1 hb12.2) rfl ?_;refine go ?_;cases h;exact fi S2
 replace h:=bcF h z3;refine go ?_;cases h;exact fi S2
theorem W_i_listsOk {w0:World} {N:Nat} {x0:DObj} {r:Bool} (h:F_i_listsOk N x0=some r) {a0_10:Ad} {n0_10 c0_10:Nat} (hn0_10:n0_10=x0.links.length) (hr0_10:rdS (Bor w0 []) w0 a0_10 c0_10 x0.links) {a0_11:Ad} {n0_11 c0_11:Nat} (hn0_11:n0_11=x0.data.length) (hr0_11:rdS (Bor w0 []) w0 a0_11 c0_11 x0.data) {a0_12:Ad} {n0_12 c0_12:Nat} (hn0_12:n0_12=x0.queue.length) (hr0_12:rdS (Bor w0 []) w0 a0_12 c0_12 x0.queue) :
    Ret Tryz.prog 185 #[.agg #[vI x0.gen,vI x0.kind,vI x0.box,vI x0.res,vI x0.til,vI x0.pages,vI x0.wait,vI x0.got,vI x0.ran,.bool x0.mark,vS a0_10 n0_10 c0_10,vS a0_11 n0_11 c0_11,vS a0_12 n0_12 c0_12]] w0 (fun v w=>v=.bool r∧St w0 [] w []):=by
 subst hn0_10 hn0_11 hn0_12;unfold F_i_listsOk at h;refine Ret.fn Tryz.func185 fun e=>?_;have S1:=St.start w0;refine go ?_;refine LW.bo S1 fun g1 w2 S2=>?_;refine go ?_;obtain ⟨o18,ho18,h19⟩:=obind h;refine CW.mono (CW.lx [1,12,13] [0] [1] 0 (fun s3=>[(14,vI s3)]) (RT Tryz.prog Tryz.f185.results (fun u=>.bool u) w0 []) S2 ho18 (hb:=?_)) ?_
 · intro s3 e w4 o S3 h;refine go ?_;refine cd (fun z5=>?_) fun z5=>?_
   · replace h:=bcT h z5;refine go ?_;replace ⟨y6,hy6,h⟩:=obind h;obtain ⟨b9,o10,cs11,hae,hb14,hp7,hq8,hd12,hk13⟩:=hr0_10.idx hy6;subst hae;obtain rfl:=hd12;refine LW.u (Pur.ix Tryz.underlying22 sz3 rfl rfl hp7 hq8) rfl ?_;refine LW.l (Ldr.old w0 ag3 rfl (hk13 0 _ rfl)) (S3.same _ hb14.1 hb14.2) rfl ?_;refine go ?_;replace ⟨y15,hy15,h⟩:=obind h;refine LW.c0 (W_i_within hy15) S3 fun w16 S4=>?_;refine go ?_;refine CW.fl [1,12,13,14,20] fun e=>?_;refine cd (fun z17=>?_) fun z17=>?_
     · replace h:=bcT h z17;refine go ?_;cases oi h;exact ⟨trivial,rfl,_,rfl,⟨_,Res.one (resOne.t rfl),rfl,S4.pick [] rfl rfl⟩⟩
     replace h:=bcF h z17;refine go ?_;cases oi h;exact ⟨rfl,⟨⟨rfl,rfl,rfl,rfl,trivial⟩,S4.pick [0] rfl rfl⟩⟩
   replace h:=bcF h z5;refine go ?_;cases oi h;exact ⟨trivial,rfl,⟨⟨rfl,trivial⟩,S3.pick [0] rfl rfl⟩⟩
 intro x e w20 hM;rcases o18 with o18 | r81
 · obtain ⟨rfl,hM⟩:=hM;obtain ⟨hE,S5⟩:=hM;obtain ⟨e,rfl⟩:=hE.out;have h:=h19;refine go ?_;obtain ⟨o36,ho36,h37⟩:=obind h;refine CW.mono (CW.lx [1,23,24] [0] [1] 2 (fun s21=>[(25,vI s21)]) (RT Tryz.prog Tryz.f185.results (fun u=>.bool u) w0 []) S5 ho36 (hb:=?_)) ?_
   · intro s21 e w22 o S6 h;refine go ?_;refine cd (fun z23=>?_) fun z23=>?_
     · replace h:=bcT h z23;refine go ?_;replace ⟨y24,hy24,h⟩:=obind h;obtain ⟨b27,o28,cs29,hae,hb32,hp25,hq26,hd30,hk31⟩:=hr0_11.idx hy24;subst hae;obtain rfl:=hd30;refine LW.u (Pur.ix Tryz.underlying22 sz3 rfl rfl hp25 hq26) rfl ?_;refine LW.l (Ldr.old w0 ag3 rfl (hk31 0 _ rfl)) (S6.same _ hb32.1 hb32.2) rfl ?_;refine go ?_;replace ⟨y33,hy33,h⟩:=obind h;refine LW.c0 (W_i_within hy33) S6 fun w34 S7=>?_;refine go ?_;refine CW.fl [1,23,24,25,31] fun e=>?_;refine cd (fun z35=>?_) fun z35=>?_
       · replace h:=bcT h z35;refine go ?_;cases oi h;exact ⟨trivial,rfl,_,rfl,⟨_,Res.one (resOne.t rfl),rfl,S7.pick [] rfl rfl⟩⟩
       replace h:=bcF h z35;refine go ?_;cases oi h;exact ⟨rfl,⟨⟨rfl,rfl,rfl,rfl,trivial⟩,S7.pick [0] rfl rfl⟩⟩
     replace h:=bcF h z23;refine go ?_;cases oi h;exact ⟨trivial,rfl,⟨⟨rfl,trivial⟩,S6.pick [0] rfl rfl⟩⟩
   intro x e w38 hM;rcases o36 with o36 | r80
   · obtain ⟨rfl,hM⟩:=hM;obtain ⟨hE,S8⟩:=hM;obtain ⟨e,rfl⟩:=hE.out;have h:=h37;refine go ?_;obtain ⟨o66,ho66,h67⟩:=obind h;refine CW.mono (CW.lx [1,34,35] [0] [1] 4 (fun s39=>[(36,vI s39)]) (RT Tryz.prog Tryz.f185.results (fun u=>.bool u) w0 []) S8 ho66 (hb:=?_)) ?_
     · intro s39 e w40 o S9 h;refine go ?_;refine CW.fl [1,34,35,36,37] fun e=>?_;refine cd (fun z41=>?_) fun z41=>?_
       · replace h:=bcT h z41;refine go ?_;replace ⟨y42,hy42,h⟩:=obind h;obtain ⟨b45,o46,cs47,hae,hb50,hp43,hq44,hd48,hk49⟩:=hr0_12.idx hy42;subst hae;obtain rfl:=hd48;refine LW.u (Pur.ix Tryz.underlying108 sz127 rfl rfl hp43 hq44) rfl ?_;refine LW.l (Ldr.oldN w0 ag127 rfl rfl (fun j u hu=>hk49 j u hu)) (S9.same _ hb50.1 hb50.2) rfl ?_;refine LW.al S9 fun g51 w52 S10=>?_;refine LW.st S10 0 fun w53 S11=>?_;refine gs ?_;obtain ⟨j54,hj54,h55⟩:=obind h;refine CW.jn [1,34,35,36] [1] [(54,.bool j54)] S11 (h1:=?_) (h2:=?_)
         · have h:=hj54;refine go ?_;rcases bcases (y42.src != (-1)) with z56 | z56
           · replace h:=bcT h z56;refine go ?_;replace ⟨y57,hy57,h⟩:=obind h;refine go ?_;refine LW.c0 (W_i_isHandle hy57) S11 fun w58 S12=>?_;refine go ?_;rcases bcases (!y57) with z59 | z59
             · replace h:=bcT h z59;refine go ?_;cases oi h;exact ⟨⟨rfl,rfl,rfl,rfl,rfl,trivial⟩,S12.pick [1] rfl rfl⟩
             replace h:=bcF h z59;refine go ?_;replace ⟨y60,hy60,h⟩:=obind h;refine go ?_;refine LW.c0 (W_i_within hy60) S12 fun w61 S13=>?_;refine go ?_;cases oi h;exact ⟨⟨rfl,rfl,rfl,rfl,rfl,trivial⟩,S13.pick [1] rfl rfl⟩
           replace h:=bcF h z56;refine go ?_;replace ⟨y62,hy62,h⟩:=obind h;refine go ?_;refine LW.c0 (W_i_within hy62) S11 fun w63 S14=>?_;refine go ?_;cases oi h;exact ⟨⟨rfl,rfl,rfl,rfl,rfl,trivial⟩,S14.pick [1] rfl rfl⟩
         intro e w64 S15;have h:=h55;refine go ?_;refine cd (fun z65=>?_) fun z65=>?_
         · replace h:=bcT h z65;refine go ?_;cases oi h;exact ⟨trivial,rfl,_,rfl,⟨_,Res.one (resOne.t rfl),rfl,S15.pick [] rfl rfl⟩⟩
         replace h:=bcF h z65;refine go ?_;cases oi h;exact ⟨rfl,⟨⟨rfl,rfl,rfl,rfl,trivial⟩,S15.pick [0] rfl rfl⟩⟩
       replace h:=bcF h z41;refine go ?_;cases oi h;exact ⟨trivial,rfl,⟨⟨rfl,trivial⟩,S9.pick [0] rfl rfl⟩⟩
     intro x e w68 hM;rcases o66 with o66 | r79
     · obtain ⟨rfl,hM⟩:=hM;obtain ⟨hE,S16⟩:=hM;obtain ⟨e,rfl⟩:=hE.out;have h:=h67;refine gs ?_;refine CW.region ?_;refine gs ?_;refine CW.region ?_;refine gs ?_;obtain ⟨j69,hj69,h70⟩:=obind h;refine CW.jn [1,10] [0] [(9,vI j69)] S16 (h1:=?_) (h2:=?_)
       · have h:=hj69;refine CW.fl [1,9,10,58] fun e=>?_;refine cd (fun z71=>?_) fun z71=>?_
         · replace h:=bcT h z71;refine go ?_;cases oi h;exact ⟨⟨rfl,rfl,rfl,trivial⟩,S16.pick [0] rfl rfl⟩
         replace h:=bcF h z71;refine go ?_;cases oi h;exact ⟨⟨rfl,rfl,rfl,trivial⟩,S16.pick [0] rfl rfl⟩
       intro e w72 S17;have h:=h70;refine gs ?_;refine CW.region ?_;refine gs ?_;obtain ⟨j73,hj73,h74⟩:=obind h;refine CW.jn [1,9] [0] [(10,vI j73)] S17 (h1:=?_) (h2:=?_)
       · have h:=hj73;refine CW.fl [1,9,10,63] fun e=>?_;refine cd (fun z75=>?_) fun z75=>?_
         · replace h:=bcT h z75;refine go ?_;cases oi h;exact ⟨⟨rfl,rfl,rfl,trivial⟩,S17.pick [0] rfl rfl⟩
         replace h:=bcF h z75;refine go ?_;cases oi h;exact ⟨⟨rfl,rfl,rfl,trivial⟩,S17.pick [0] rfl rfl⟩
       intro e w76 S18;have h:=h74;refine go ?_;refine LW.fl [1,9,10,68] fun e=>?_;rcases bcases ((x0.links.length:Int)==2) with z77 | z77
       · replace h:=bcT h z77;refine go ?_;rcases bcases ((x0.data.length:Int)==j69) with z78 | z78
         · replace h:=bcT h z78;refine go ?_;cases h;exact fi S18
         replace h:=bcF h z78;refine go ?_;cases h;exact fi S18
       replace h:=bcF h z77;refine go ?_;cases h;exact fi S18
     obtain ⟨rfl,u,rfl,hM⟩:=hM;cases h67;exact And.intro trivial hM
   obtain ⟨rfl,u,rfl,hM⟩:=hM;cases h37;exact And.intro trivial hM
 obtain ⟨rfl,u,rfl,hM⟩:=hM;cases h19;exact And.intro trivial hM
theorem W_i_copyArena {w0:World} {N:Nat} {x0:List DObj} {r:(List DObj)} (h:F_i_copyArena N x0=some r) {a0_0:Ad} {n0_0 c0_0:Nat} (hn0_0:n0_0=x0.length) (hr0_0:rdS (Bor w0 []) w0 a0_0 c0_0 x0) :
    Ret Tryz.prog 143 #[vS a0_0 n0_0 c0_0] w0 (fun v w=>∃ ar0 cr0,v=vS ar0 r.length cr0∧St w0 [] w [sl ar0 cr0 r]):=by
 subst hn0_0;unfold F_i_copyArena at h;refine Ret.fn Tryz.func143 fun e=>?_;have S1:=St.start w0;refine go ?_;refine LW.bsl (α:=DObj) (vs:=[]) (cs:=#[]) (l:=([]:List DObj)) rfl (by kernel_rfl) rfl rfl rfl (fun w=>rfl) S1 rfl ?_;intro a1 c2 w3 S2 hf;refine go ?_;obtain ⟨o41,ho41,h42⟩:=obind h;refine CW.ie ho41 0 (fun s4 e wb=>∃ (s4a0:Ad) (s4c0:Nat),En e [(3,vS s4a0 s4.1.length s4c0),(7,vS a0_0 x0.length c0_0),(8,vI (x0.length:Int)),(9,vI s4.2)]∧St w0 [] wb [sl s4a0 s4c0 s4.1]) ?_ ⟨a1,c2,⟨rfl,rfl,rfl,rfl,trivial⟩,S2.pick [0] rfl rfl⟩ ?_
 · intro s4 e w5 o hM h;obtain ⟨s4a0,s4c0,hE,S3⟩:=hM;obtain ⟨e,rfl⟩:=hE.out;refine go ?_;refine cd (fun z6=>?_) fun z6=>?_
   · replace h:=bcT h z6;refine go ?_;replace ⟨y7,hy7,h⟩:=obind h;obtain ⟨b10,o11,cs12,hae,hb15,hp8,hq9,hd13,hk14⟩:=hr0_0.idx hy7;subst hae;obtain ⟨a16,c17,a19,c20,a22,c23,rfl,hr18,hr21,hr24⟩:=hd13;refine LW.u (Pur.ix Tryz.underlying41 sz110 rfl rfl hp8 hq9) rfl ?_;refine LW.l (Ldr.oldN w0 ag110 rfl rfl (fun j u hu=>hk14 j u hu)) (S3.same _ hb15.1 hb15.2) rfl ?_;refine LW.al S3 fun g25 w26 S4=>?_;refine LW.st S4 0 fun w27 S5=>?_;refine go ?_;replace ⟨y28,hy28,h⟩:=obind h;refine LW.cl (W_i_copyObj hy28 rfl (S5.rB hr18) rfl (S5.rB hr21) rfl (S5.rB hr24)) ?_;rintro _ w35 ⟨a29,c30,a31,c32,a33,c34,rfl,hs⟩;have S6:=S5.add hs;have S7:=S6.pick (M:=[sl a29 c30 y28.links,sl a31 c32 y28.data,sl a33 c34 y28.queue]++[bx g25 110 [vI y7.gen,vI y7.kind,vI y7.box,vI y7.res,vI y7.til,vI y7.pages,vI y7.wait,vI y7.got,vI y7.ran,.bool y7.mark,vS a16 y7.links.length c17,vS a19 y7.data.length c20,vS a22 y7.queue.length c23],sl s4a0 s4c0 s4.1]) [0,1,2,3,4] rfl rfl;replace ⟨y36,hy36,h⟩:=obind h;refine LW.app1 (M:=[sl a29 c30 y28.links,sl a31 c32 y28.data,sl a33 c34 y28.queue]) (L:=[bx g25 110 [vI y7.gen,vI y7.kind,vI y7.box,vI y7.res,vI y7.til,vI y7.pages,vI y7.wait,vI y7.got,vI y7.ran,.bool y7.mark,vS a16 y7.links.length c17,vS a19 y7.data.length c20,vS a22 y7.queue.length c23],sl s4a0 s4c0 s4.1]) (vs:=#[vI y28.gen,vI y28.kind,vI y28.box,vI y28.res,vI y28.til,vI y28.pages,vI y28.wait,vI y28.got,vI y28.ran,.bool y28.mark,vS a29 y28.links.length c30,vS a31 y28.data.length c32,vS a33 y28.queue.length c34]) (i:=1) sT41 rfl (by kernel_rfl) rfl rfl hy36 S7 rfl (fun w G hG=>⟨a29,c30,a31,c32,a33,c34,rfl,hG⟩) rfl rfl ?_;intro v39 a37 c38 w40 S8 hf;refine go ?_;cases oi h;exact ⟨rfl,⟨a37,c38,⟨rfl,rfl,rfl,rfl,trivial⟩,S8.pick [1] rfl rfl⟩⟩
   replace h:=bcF h z6;refine go ?_;cases oi h;exact ⟨trivial,rfl,⟨s4a0,s4c0,⟨rfl,rfl,rfl,rfl,trivial⟩,S3.pick [0] rfl rfl⟩⟩
 rintro e w43 ⟨s4a0,s4c0,hE,S9⟩;obtain ⟨e,rfl⟩:=hE.out;have h:=h42;refine go ?_;cases h;exact And.intro trivial ⟨_,Res.one (resOne.t rfl),s4a0,s4c0,rfl,S9.pick [0] rfl rfl⟩
theorem W_i_edgesOf {w0:World} {N:Nat} {x0:List DObj} {x1:Int} {r:(List Int)} (h:F_i_edgesOf N x0 x1=some r) {a0_0:Ad} {n0_0 c0_0:Nat} (hn0_0:n0_0=x0.length) (hr0_0:rdS (Bor w0 []) w0 a0_0 c0_0 x0) :
    Ret Tryz.prog 172 #[vS a0_0 n0_0 c0_0,vI x1] w0 (fun v w=>∃ ar0 cr0,v=vS ar0 r.length cr0∧St w0 [] w [sl ar0 cr0 r]):=by
 subst hn0_0;unfold F_i_edgesOf at h;refine Ret.fn Tryz.func172 fun e=>?_;have S1:=St.start w0;refine go ?_;refine LW.bsl (α:=Int) (vs:=[]) (cs:=#[]) (l:=([]:List Int)) rfl (by kernel_rfl) rfl rfl rfl (fun w=>rfl) S1 rfl ?_;intro a1 c2 w3 S2 hf;refine go ?_;obtain ⟨o82,ho82,h83⟩:=obind h;refine CW.ie ho82 0 (fun s4 e wb=>∃ (s4a0:Ad) (s4c0:Nat),En e [(0,vS a0_0 x0.length c0_0),(1,vI x1),(5,vS s4a0 s4.1.length s4c0),(10,vS a0_0 x0.length c0_0),(11,vI (x0.length:Int)),(12,vI s4.2)]∧St w0 [] wb [sl s4a0 s4c0 s4.1]) ?_ ⟨a1,c2,⟨rfl,rfl,rfl,rfl,rfl,rfl,trivial⟩,S2.pick [0] rfl rfl⟩ ?_
 · intro s4 e w5 o hM h;obtain ⟨s4a0,s4c0,hE,S3⟩:=hM;obtain ⟨e,rfl⟩:=hE.out;refine go ?_;refine cd (fun z6=>?_) fun z6=>?_
   · replace h:=bcT h z6;refine go ?_;replace ⟨y7,hy7,h⟩:=obind h;obtain ⟨b10,o11,cs12,hae,hb15,hp8,hq9,hd13,hk14⟩:=hr0_0.idx hy7;subst hae;obtain ⟨a16,c17,a19,c20,a22,c23,rfl,hr18,hr21,hr24⟩:=hd13;refine LW.u (Pur.ix Tryz.underlying41 sz110 rfl rfl hp8 hq9) rfl ?_;refine LW.l (Ldr.oldN w0 ag110 rfl rfl (fun j u hu=>hk14 j u hu)) (S3.same _ hb15.1 hb15.2) rfl ?_;refine LW.al S3 fun g25 w26 S4=>?_;refine go ?_;refine LW.st S4 0 fun w27 S5=>?_;refine gs ?_;obtain ⟨j28,hj28,h29⟩:=obind h;refine CW.jn [0,1,5,6,10,11,12] [1] [(8,.bool j28)] S5 (h1:=?_) (h2:=?_)
     · have h:=hj28;refine go ?_;rcases bcases (decide (s4.2 > 0)) with z30 | z30
       · replace h:=bcT h z30;refine go ?_;rcases bcases (y7.kind != 0) with z31 | z31
         · replace h:=bcT h z31;refine go ?_;refine LW.fl [0,1,5,6,10,11,12,30] fun e=>?_;rcases bcases (y7.box==x1) with z32 | z32
           · replace h:=bcT h z32;refine go ?_;replace ⟨y33,hy33,h⟩:=obind h;obtain ⟨b36,o37,cs38,hae,hb41,hp34,hq35,hd39,hk40⟩:=hr0_0.idx hy33;cases hae;obtain ⟨a42,c43,a45,c46,a48,c49,rfl,hr44,hr47,hr50⟩:=hd39;refine go ?_;refine LW.u (Pur.ix Tryz.underlying41 sz110 rfl rfl hp34 hq35) rfl ?_;refine go ?_;refine LW.l (Ldr.old w0 ag3 rfl (hk40 1 _ rfl)) (S5.same _ hb41.1 hb41.2) rfl ?_;refine go ?_;cases oi h;exact ⟨⟨rfl,rfl,rfl,rfl,rfl,rfl,rfl,rfl,trivial⟩,S5.pick [1] rfl rfl⟩
           replace h:=bcF h z32;refine go ?_;cases oi h;exact ⟨⟨rfl,rfl,rfl,rfl,rfl,rfl,rfl,rfl,trivial⟩,S5.pick [1] rfl rfl⟩
         replace h:=bcF h z31;refine go ?_;cases oi h;exact ⟨⟨rfl,rfl,rfl,rfl,rfl,rfl,rfl,rfl,trivial⟩,S5.pick [1] rfl rfl⟩
       replace h:=bcF h z30;refine go ?_;cases oi h;exact ⟨⟨rfl,rfl,rfl,rfl,rfl,rfl,rfl,rfl,trivial⟩,S5.pick [1] rfl rfl⟩
     intro e w51 S6;have h:=h29;refine gs ?_;obtain ⟨j52,hj52,h53⟩:=obind h;refine CW.jn [0,1,5,6,10,11,12] [0] [(47,.bool j52)] S6 (h1:=?_) (h2:=?_)
     · have h:=hj52;refine go ?_;rcases bcases j28 with z54 | z54
       · replace h:=bcT h z54;refine go ?_;cases oi h;exact ⟨⟨rfl,rfl,rfl,rfl,rfl,rfl,rfl,rfl,trivial⟩,S6.pick [0] rfl rfl⟩
       replace h:=bcF h z54;refine go ?_;replace ⟨y55,hy55,h⟩:=obind h;obtain ⟨b58,o59,cs60,hae,hb63,hp56,hq57,hd61,hk62⟩:=hr0_0.idx hy55;cases hae;obtain ⟨a64,c65,a67,c68,a70,c71,rfl,hr66,hr69,hr72⟩:=hd61;refine go ?_;refine LW.u (Pur.ix Tryz.underlying41 sz110 rfl rfl hp56 hq57) rfl ?_;refine go ?_;refine LW.l (Ldr.old w0 ag22 rfl (hk62 10 _ rfl)) (S6.same _ hb63.1 hb63.2) rfl ?_;refine go ?_;replace ⟨y73,hy73,h⟩:=obind h;refine go ?_;refine LW.c0 (W_z_Contains_int hy73 rfl (S6.rB hr66)) S6 fun w74 S7=>?_;refine go ?_;cases oi h;exact ⟨⟨rfl,rfl,rfl,rfl,rfl,rfl,rfl,rfl,trivial⟩,S7.pick [0] rfl rfl⟩
     intro e w75 S8;have h:=h53;refine go ?_;refine CW.fl [0,1,5,6,10,11,12,47] fun e=>?_;refine cd (fun z76=>?_) fun z76=>?_
     · replace h:=bcT h z76;refine go ?_;replace ⟨y77,hy77,h⟩:=obind h;refine LW.app1 (M:=[]) (L:=[sl s4a0 s4c0 s4.1]) (vs:=#[vI s4.2]) (i:=0) sT22 rfl (by kernel_rfl) rfl rfl hy77 S8 rfl (fun w G hG=>by cases (show G=[] from hG);exact ⟨rfl,rfl⟩) rfl rfl ?_;intro v80 a78 c79 w81 S9 hf;refine go ?_;cases oi h;exact ⟨rfl,⟨a78,c79,⟨rfl,rfl,rfl,rfl,rfl,rfl,trivial⟩,S9.pick [0] rfl rfl⟩⟩
     replace h:=bcF h z76;refine go ?_;cases oi h;exact ⟨rfl,⟨s4a0,s4c0,⟨rfl,rfl,rfl,rfl,rfl,rfl,trivial⟩,S8.pick [0] rfl rfl⟩⟩
   replace h:=bcF h z6;refine go ?_;cases oi h;exact ⟨trivial,rfl,⟨s4a0,s4c0,⟨rfl,rfl,rfl,rfl,rfl,rfl,trivial⟩,S3.pick [0] rfl rfl⟩⟩
 rintro e w84 ⟨s4a0,s4c0,hE,S10⟩;obtain ⟨e,rfl⟩:=hE.out;have h:=h83;refine go ?_;cases h;exact And.intro trivial ⟨_,Res.one (resOne.t rfl),s4a0,s4c0,rfl,S10.pick [0] rfl rfl⟩
theorem W_i_HandlePart {w0:World} {N:Nat} {x0:Int} {r:Int} (h:F_i_HandlePart N x0=some r) :
    Ret Tryz.prog 175 #[vI x0] w0 (fun v w=>v=vI r∧St w0 [] w []):=by
 unfold F_i_HandlePart at h;refine Ret.fn Tryz.func175 fun e=>?_;have S1:=St.start w0;refine go ?_;replace ⟨y1,hy1,h⟩:=obind h;refine LW.c0 (W_i_isHandle hy1) S1 fun w2 S2=>?_;refine go ?_;refine cd (fun z3=>?_) fun z3=>?_
 · replace h:=bcT h z3;refine go ?_;cases h;exact fi S2
 replace h:=bcF h z3;refine go ?_;refine LW.u (Pur.rem rfl rfl (by decide)) rfl ?_;refine go ?_;cases h;exact fi S2
theorem W_i_HandleSlot {w0:World} {N:Nat} {x0:Int} {r:Int} (h:F_i_HandleSlot N x0=some r) :
    Ret Tryz.prog 180 #[vI x0] w0 (fun v w=>v=vI r∧St w0 [] w []):=by
 unfold F_i_HandleSlot at h;refine Ret.fn Tryz.func180 fun e=>?_;have S1:=St.start w0;refine go ?_;replace ⟨y1,hy1,h⟩:=obind h;refine LW.c0 (W_i_isHandle hy1) S1 fun w2 S2=>?_;refine go ?_;refine cd (fun z3=>?_) fun z3=>?_
 · replace h:=bcT h z3;refine go ?_;cases h;exact fi S2
 replace h:=bcF h z3;refine go ?_;refine LW.u (Pur.quo rfl rfl (by decide)) rfl ?_;refine LW.u (Pur.rem rfl rfl (by decide)) rfl ?_;refine go ?_;cases h;exact fi S2
theorem W_i_HandleGen {w0:World} {N:Nat} {x0:Int} {r:Int} (h:F_i_HandleGen N x0=some r) :
    Ret Tryz.prog 181 #[vI x0] w0 (fun v w=>v=vI r∧St w0 [] w []):=by
 unfold F_i_HandleGen at h;refine Ret.fn Tryz.func181 fun e=>?_;have S1:=St.start w0;refine go ?_;replace ⟨y1,hy1,h⟩:=obind h;refine LW.c0 (W_i_isHandle hy1) S1 fun w2 S2=>?_;refine go ?_;refine cd (fun z3=>?_) fun z3=>?_
 · replace h:=bcT h z3;refine go ?_;cases h;exact fi S2
 replace h:=bcF h z3;refine go ?_;refine LW.u (Pur.quo rfl rfl (by decide)) rfl ?_;refine LW.u (Pur.quo rfl rfl (by decide)) rfl ?_;refine go ?_;cases h;exact fi S2
theorem W_i_HandleOf {w0:World} {N:Nat} {x0:Int} {x1:Int} {x2:Int} {r:Int} (h:F_i_HandleOf N x0 x1 x2=some r) :
    Ret Tryz.prog 150 #[vI x0,vI x1,vI x2] w0 (fun v w=>v=vI r∧St w0 [] w []):=by
 unfold F_i_HandleOf at h;refine Ret.fn Tryz.func150 fun e=>?_;have S1:=St.start w0;refine gs ?_;refine CW.region ?_;refine gs ?_;obtain ⟨j1,hj1,h2⟩:=obind h;refine CW.jn [0,1,2] [] [(19,.bool j1)] S1 (h1:=?_) (h2:=?_)
 · have h:=hj1;refine go ?_;replace ⟨y3,hy3,h⟩:=obind h;refine LW.c0 (W_i_isPart hy3) S1 fun w4 S2=>?_;refine go ?_;rcases bcases (!y3) with z5 | z5
   · replace h:=bcT h z5;refine go ?_;cases oi h;exact ⟨⟨rfl,rfl,rfl,rfl,trivial⟩,S2.pick [] rfl rfl⟩
   replace h:=bcF h z5;refine go ?_;replace ⟨y6,hy6,h⟩:=obind h;refine go ?_;refine LW.c0 (W_i_isSlot hy6) S2 fun w7 S3=>?_;refine go ?_;rcases bcases (!y6) with z8 | z8
   · replace h:=bcT h z8;refine go ?_;cases oi h;exact ⟨⟨rfl,rfl,rfl,rfl,trivial⟩,S3.pick [] rfl rfl⟩
   replace h:=bcF h z8;refine go ?_;replace ⟨y9,hy9,h⟩:=obind h;refine go ?_;refine LW.c0 (W_i_within hy9) S3 fun w10 S4=>?_;refine go ?_;cases oi h;exact ⟨⟨rfl,rfl,rfl,rfl,trivial⟩,S4.pick [] rfl rfl⟩
 intro e w11 S5;have h:=h2;refine go ?_;refine cd (fun z12=>?_) fun z12=>?_
 · replace h:=bcT h z12;refine go ?_;cases h;exact fi S5
 replace h:=bcF h z12;refine go ?_;cases h;exact fi S5
theorem W_i_shade {w0:World} {F:List Nat} {N:Nat} {x0:DHeap} {x1:Int} {r:DHeap} (h:F_i_shade N x0 x1=some r) {g0:Nat} {a0_0:Ad} {c0_0:Nat} {a0_4:Ad} {c0_4:Nat} (hS:St w0 F w0 [bx g0 44 [vS a0_0 x0.arena.length c0_0,vI x0.gc.phase,vI x0.gc.pos,vI x0.gc.round,vS a0_4 x0.gc.grey.length c0_4],sl a0_0 c0_0 x0.arena,sl a0_4 c0_4 x0.gc.grey]) :
    Ret Tryz.prog 178 #[.pointer (some ⟨g0,0,none⟩),vI x1] w0 (fun v w=>∃ ab0_0 cb0_0, ∃ ab0_4 cb0_4,v=.tuple #[]∧St w0 F w [bx g0 44 [vS ab0_0 r.arena.length cb0_0,vI r.gc.phase,vI r.gc.pos,vI r.gc.round,vS ab0_4 r.gc.grey.length cb0_4],sl ab0_0 cb0_0 r.arena,sl ab0_4 cb0_4 r.gc.grey]):=by
 unfold F_i_shade at h;refine Ret.fn Tryz.func178 fun e=>?_;refine gs ?_;obtain ⟨j1,hj1,h2⟩:=obind h;refine CW.jn [0,1] [0,1,2] [(30,.bool j1)] hS (h1:=?_) (h2:=?_)
 · have h:=hj1;refine go ?_;refine LW.u (Pur.nc rfl) rfl ?_;refine go ?_;rcases bcases (x0.gc.phase != 0) with z3 | z3
   · replace h:=bcT h z3;refine go ?_;cases oi h;exact ⟨⟨rfl,rfl,rfl,trivial⟩,hS.pick [0,1,2] rfl rfl⟩
   replace h:=bcF h z3;refine go ?_;refine LW.u (Pur.nc rfl) rfl ?_;refine go ?_;replace ⟨y4,hy4,h⟩:=obind h;obtain ⟨b7,o8,hae,hp5,hq6⟩:=hS.ownIdx (α:=DObj) (i:=1) rfl hy4;subst hae;refine go ?_;refine LW.u (Pur.ix Tryz.underlying41 sz110 rfl rfl hp5 hq6) rfl ?_;refine go ?_;obtain ⟨F9,ho10,S1⟩:=hS.freeze (α:=DObj) 1 rfl;obtain ⟨b11,o12,cs13,hae,hb16,_,_,hd14,hk15⟩:=ho10.rdF.idx hy4;cases hae;obtain ⟨a17,c18,a20,c21,a23,c24,rfl,hr19,hr22,hr25⟩:=hd14;refine go ?_;refine LW.l (Ldr.old w0 ag3 rfl (hk15 1 _ rfl)) (S1.zC 1 rfl hb16) rfl ?_;refine go ?_;rcases bcases (y4.kind==0) with z26 | z26
   · replace h:=bcT h z26;refine go ?_;have S2:=S1.thaw (α:=DObj) 1 rfl ho10;cases oi h;exact ⟨⟨rfl,rfl,rfl,trivial⟩,S2.pick [0,1,2] rfl rfl⟩
   replace h:=bcF h z26;refine go ?_;refine LW.u (Pur.nc rfl) rfl ?_;refine go ?_;refine LW.fl [0,1,21,25,26] fun e=>?_;refine go ?_;refine LW.u (Pur.ix Tryz.underlying41 sz110 rfl rfl hp5 hq6) rfl ?_;refine go ?_;refine LW.l (Ldr.old w0 ag4 rfl (hk15 9 _ rfl)) (S1.zC 1 rfl hb16) rfl ?_;refine go ?_;have S3:=S1.thaw (α:=DObj) 1 rfl ho10;cases oi h;exact ⟨⟨rfl,rfl,rfl,trivial⟩,S3.pick [0,1,2] rfl rfl⟩
 intro e w27 S4;have h:=h2;refine go ?_;refine cd (fun z28=>?_) fun z28=>?_
 · replace h:=bcT h z28;refine go ?_;replace h:=oi h;subst h;exact And.intro trivial ⟨_,Res.zero , a0_0,c0_0,a0_4,c0_4,rfl,S4.pick [0,1,2] rfl rfl⟩
 replace h:=bcF h z28;refine go ?_;refine LW.u (Pur.nc rfl) rfl ?_;refine go ?_;replace ⟨y29,hy29,h⟩:=obind h;obtain ⟨b32,o33,hae,hp30,hq31⟩:=S4.ownIdx (α:=DObj) (i:=1) rfl hy29;subst hae;refine LW.u (Pur.ix Tryz.underlying41 sz110 rfl rfl hp30 hq31) rfl ?_;refine go ?_;replace ⟨y34,hy34,h⟩:=obind h;refine LW.se 9 S4 1 hy29 hy34 (hM:=(leafF (fun w cs F hF=>by obtain ⟨q0,r0,q1,r1,q2,r2,rfl,hH⟩:=hF;exact ⟨q0,r0,q1,r1,q2,r2,rfl,hH⟩))) fun w36 S5=>?_;refine go ?_;refine LW.u (Pur.nc rfl) rfl ?_;refine go ?_;replace ⟨y37,hy37,h⟩:=obind h;refine LW.c0 (W_z_Contains_int hy37 rfl (S5.rI 2 rfl)) S5 fun w38 S6=>?_;refine go ?_;refine CW.fl [0,1,45] fun e=>?_;refine cd (fun z39=>?_) fun z39=>?_
 · replace h:=bcT h z39;refine go ?_;refine LW.u (Pur.nc rfl) rfl ?_;refine go ?_;replace ⟨y40,hy40,h⟩:=obind h;refine LW.app1 (M:=[]) (L:=[bx g0 44 [vS (some ⟨b32,o33,none⟩) x0.arena.length c0_0,vI x0.gc.phase,vI x0.gc.pos,vI x0.gc.round,vS a0_4 x0.gc.grey.length c0_4],sl (some ⟨b32,o33,none⟩) c0_0 y34,sl a0_4 c0_4 x0.gc.grey]) (vs:=#[vI x1]) (i:=2) sT22 rfl (by kernel_rfl) rfl rfl hy40 S6 rfl (fun w G hG=>by cases (show G=[] from hG);exact ⟨rfl,rfl⟩) rfl rfl ?_;intro v43 a41 c42 w44 S7 hf;refine LW.u (Pur.nc rfl) rfl ?_;refine go ?_;refine LW.st S7 0 fun w45 S8=>?_;refine go ?_;replace h:=oi h;subst h;rw [show x0.arena.length=y34.length from (len_set (oi hy34))] at S8;exact And.intro trivial ⟨_,Res.zero , (some ⟨b32,o33,none⟩),c0_0,a41,c42,rfl,S8.pick [0,1,2] rfl rfl⟩
 replace h:=bcF h z39;refine go ?_;replace h:=oi h;subst h;rw [show x0.arena.length=y34.length from (len_set (oi hy34))] at S6;exact And.intro trivial ⟨_,Res.zero , (some ⟨b32,o33,none⟩),c0_0,a0_4,c0_4,rfl,S6.pick [0,1,2] rfl rfl⟩
theorem W_l_eqResS {w0:World} {N:Nat} {x0:List DRes} {x1:List DRes} {r:Bool} (h:F_l_eqResS N x0 x1=some r) {a0_0:Ad} {n0_0 c0_0:Nat} (hn0_0:n0_0=x0.length) (hr0_0:rdS (Bor w0 []) w0 a0_0 c0_0 x0) {a1_0:Ad} {n1_0 c1_0:Nat} (hn1_0:n1_0=x1.length) (hr1_0:rdS (Bor w0 []) w0 a1_0 c1_0 x1) :
    Ret Tryz.prog 44 #[vS a0_0 n0_0 c0_0,vS a1_0 n1_0 c1_0] w0 (fun v w=>v=.bool r∧St w0 [] w []):=by
 subst hn0_0 hn1_0;unfold F_l_eqResS at h;refine Ret.fn Tryz.func44 fun e=>?_;have S1:=St.start w0;refine go ?_;refine cd (fun z1=>?_) fun z1=>?_
 · replace h:=bcT h z1;refine go ?_;cases h;exact fi S1
 replace h:=bcF h z1;refine go ?_;obtain ⟨o26,ho26,h27⟩:=obind h;refine CW.mono (CW.lx [0,1] [] [] 0 (fun s2=>[(5,vI s2)]) (RT Tryz.prog Tryz.f44.results (fun u=>.bool u) w0 []) S1 ho26 (hb:=?_)) ?_
 · intro s2 e w3 o S2 h;refine go ?_;refine cd (fun z4=>?_) fun z4=>?_
   · replace h:=bcT h z4;refine go ?_;refine CW.draw (by kernel_rfl) ?_;have S3:=S2.drew;refine go ?_;replace ⟨y5,hy5,h⟩:=obind h;obtain ⟨b8,o9,cs10,hae,hb13,hp6,hq7,hd11,hk12⟩:=hr0_0.idx hy5;subst hae;obtain rfl:=hd11;refine AW.u (i:=2) rfl (by kernel_rfl) rfl rfl (Pur.ix Tryz.underlying40 sz130 rfl rfl hp6 hq7) ?_;refine AW.take (i:=3) rfl (by kernel_rfl) rfl rfl (Ldr.oldN w0 ag130 rfl rfl (fun j u hu=>hk12 j u hu)) (S3.same _ hb13.1 hb13.2) ?_;refine go ?_;replace ⟨y14,hy14,h⟩:=obind h;obtain ⟨b17,o18,cs19,hae,hb22,hp15,hq16,hd20,hk21⟩:=hr1_0.idx hy14;subst hae;obtain rfl:=hd20;refine AW.u (i:=6) rfl (by kernel_rfl) rfl rfl (Pur.ix Tryz.underlying40 sz130 rfl rfl hp15 hq16) ?_;refine AW.take (i:=7) rfl (by kernel_rfl) rfl rfl (Ldr.oldN w0 ag130 rfl rfl (fun j u hu=>hk21 j u hu)) (S3.same _ hb22.1 hb22.2) ?_;replace ⟨y23,hy23,h⟩:=obind h;have q:=W_l_eqRes (w0:=w3.drew) hy23;refine jO 8 ?_;refine LW.call pl115 rfl rfl ?_;refine Ret.mono q ?_;rintro _ w24 ⟨rfl,hs⟩;have S4:=S3.add hs;refine jN (jW (jW jZ)) ?_;refine go ?_;refine cd (fun z25=>?_) fun z25=>?_
     · replace h:=bcT h z25;refine go ?_;cases oi h;exact ⟨trivial,rfl,_,rfl,⟨_,Res.one (resOne.t rfl),rfl,S4.pick [] rfl rfl⟩⟩
     replace h:=bcF h z25;refine go ?_;cases oi h;exact ⟨rfl,⟨⟨rfl,rfl,rfl,trivial⟩,S4.pick [] rfl rfl⟩⟩
   replace h:=bcF h z4;refine go ?_;cases oi h;exact ⟨trivial,rfl,⟨trivial,S2.pick [] rfl rfl⟩⟩
 intro x e w28 hM;rcases o26 with o26 | r29
 · obtain ⟨rfl,hM⟩:=hM;obtain ⟨hE,S5⟩:=hM;obtain ⟨e,rfl⟩:=hE.out;rw [show e=upds e [] from rfl];have h:=h27;refine go ?_;cases h;exact fi S5
 obtain ⟨rfl,u,rfl,hM⟩:=hM;cases h27;exact And.intro trivial hM
end Go.Kx
