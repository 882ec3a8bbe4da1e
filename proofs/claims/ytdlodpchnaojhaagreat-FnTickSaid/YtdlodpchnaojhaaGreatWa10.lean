/- Each call returns what the plain function says. Printed by drive.py. -/
import Derived.Test.YtdlodpchnaojhaaGreatFa
import Derived.Test.YtdlodpchnaojhaaGreatPu
import Derived.Test.YtdlodpchnaojhaaGreatWa5
import Derived.Test.YtdlodpchnaojhaaGreatWa6
import Derived.Test.YtdlodpchnaojhaaGreatWa7
import Derived.Test.YtdlodpchnaojhaaGreatWa8
import Derived.Test.YtdlodpchnaojhaaGreatWa9
namespace Go.Kx
open Go Go.RowKit Go.Proofs
set_option maxRecDepth 10000
set_option maxHeartbeats 8000000
set_option linter.unusedVariables false
set_option linter.unusedSimpArgs false
theorem AK {w0 N G W r} (h:sv N G W=some r) {f V g} (Y:V=G.length) (d:rb w0 f g G) :
    iq Tryz.prog 238 #[vS f V g,vI W] w0 (fun v w=>∃ af ai,v=vS af r.length ai∧St w0 [] w [sl af ai r]):=by
 subst Y;unfold sv at h;refine iq.fn Tryz.func238 fun e=>?_;have aW:=St.start w0;refine go ?_;refine LW.jV (α:=Bool) (vs:=[]) (cs:=#[]) (l:=([]:List Bool)) rfl (by kernel_rfl) rfl rfl rfl (fun w=>rfl) aW rfl ?_;intro a7 bb cj aj hf;refine gb h fun cm aZ h=>?_;refine LW.c0 (oh aZ rfl (aj.rB d)) aj fun ck ak=>?_;refine gc h ?_ ?_ <;> intro _ h
 · refine go ?_;cases h;exact Ra ⟨a7,bb,rfl,ak.pk [0]⟩
 refine gb h fun a4 a0 h=>?_;refine LW.mk It rfl rfl a0 ak rfl ?_;intro ci k b4 am hf;refine gb h fun ca M h=>?_;obtain ⟨a,b,hae,bg,bm⟩:=am.iJ (α:=Bool) (i:=0) rfl M;subst hae;refine go ?_;have ⟨ap,O,h⟩:=ob h;refine LW.se 0 am 0 M O (hM:=uw) fun b5 aX=>?_;refine go ?_;obtain ⟨bu,ab,av⟩:=ob h;refine CW.ie ab 0 (fun n e wb=>En e [(0,vS f G.length g),(1,vI W),(5,vS (some ⟨a,b,none⟩) n.1.length k),(6,vI n.2)]∧St w0 [] wb [sl (some ⟨a,b,none⟩) k n.1]) ?_ ⟨⟨rfl,rfl,(show (vS (some ⟨a,b,none⟩) a4.length k:Value)=vS (some ⟨a,b,none⟩) ap.length k by rw [show a4.length=ap.length from (iM (oi O))]),rfl,trivial⟩,aX.pk [0]⟩ ?_
 · intro n e b6 o hM h;obtain ⟨e,rfl,an⟩:=eo hM;refine go ?_;refine CW.fl [0,1,5,6,19] fun e=>?_;refine gc h ?_ ?_ <;> intro _ h
   · refine go ?_;obtain ⟨bt,aa,au⟩:=ob h;refine CW.ie aa 2 (fun t e wb=>En e [(0,vS f G.length g),(1,vI W),(5,vS (some ⟨a,b,none⟩) t.1.length k),(6,vI n.2),(7,vI t.2)]∧St w0 [] wb [sl (some ⟨a,b,none⟩) k t.1]) ?_ (an.po [0]) ?_
     · intro t e a3 o hM h;obtain ⟨e,rfl,A⟩:=eo hM;refine gc h ?_ ?_ <;> intro _ h
       · refine gs ?_;refine CW.block ?_;refine gs ?_;obtain ⟨a2,aI,aV⟩:=ob h;refine CW.jn [0,1,5,6,7] [0] [(44,.bool a2)] A (h1:=?_) (h2:=?_)
         · have h:=aI;refine gb h fun cb R h=>?_;obtain ⟨bN,bY,hae,bi,bn⟩:=A.iJ (α:=Bool) (i:=0) rfl R;cases hae;refine go ?_;obtain ⟨bE,s,m⟩:=A.freeze (α:=Bool) 0 rfl;obtain ⟨bO,bZ,bc,hae,aF,_,_,aG,aJ⟩:=s.kr.idx R;cases hae;obtain rfl:=aG;refine LW.l (iC.iP a3 qI rfl (aJ 0 _ rfl)) (m.zC 0 rfl aF) rfl ?_;refine gB h ?_ ?_ <;> intro _ h
           · refine go ?_;have aY:=m.jj (α:=Bool) 0 rfl s;cases oi h;exact aY.po [0]
           refine gb h fun cc aR h=>?_;obtain ⟨bP,b0,bd,rfl,I,bj,bo,⟨bG,bT,bI,bU,bJ,bV,rfl,aM,aN,aO⟩,aK⟩:=d.idx aR;refine go ?_;refine LW.l (iC.jH w0 kW rfl rfl (fun j u hu=>aK j u hu)) (m.same _ I.1 I.2) rfl ?_;refine gb h fun ce aS h=>?_;refine go ?_;refine LW.c0 (rv aS rfl (m.rB aM) rfl (m.rB aN) rfl (m.rB aO)) m fun b7 H=>?_;refine gB h ?_ ?_ <;> intro _ h
           · refine go ?_;have aw:=H.jj (α:=Bool) 0 rfl s;cases oi h;exact aw.po [0]
           refine go ?_;have ax:=H.jj (α:=Bool) 0 rfl s;cases oi h;exact ax.po [0]
         intro e b8 x;have h:=aV;refine gc h ?_ ?_ <;> intro _ h
         · refine go ?_;cases oi h;exact ⟨rfl,(x.po [0])⟩
         refine gb h fun aq aT h=>?_;refine LW.cl (Bg aT rfl (x.rB d)) ?_;rintro _ b9 ⟨ae,ah,rfl,hs⟩;have ay:=x.add hs;refine go ?_;obtain ⟨bs,Z,ar⟩:=ob h;refine CW.ie Z 4 (fun p e wb=>En e [(0,vS f G.length g),(1,vI W),(5,vS (some ⟨a,b,none⟩) p.1.length k),(6,vI n.2),(7,vI t.2),(8,vS ae aq.length ah),(9,vI p.2)]∧St w0 [] wb [sl ae ah aq,sl (some ⟨a,b,none⟩) k p.1]) ?_ (ay.po [0,1]) ?_
         · intro p e ao o hM h;obtain ⟨e,rfl,y⟩:=eo hM;refine go ?_;refine CW.fl [0,1,5,6,7,8,9,51] fun e=>?_;refine gc h ?_ ?_ <;> intro _ h
           · refine gb h fun cf U h=>?_;obtain ⟨bQ,b1,hae,bk,bp⟩:=y.iJ (α:=Int) (i:=0) rfl U;subst hae;refine go ?_;obtain ⟨bF,z,c⟩:=y.freeze (α:=Int) 0 rfl;obtain ⟨bR,b2,be,hae,J,_,_,aH,L⟩:=z.kr.idx U;cases hae;obtain rfl:=aH;refine LW.l (iC.iP ao jc rfl (L 0 _ rfl)) (c.zC 0 rfl J) rfl ?_;have ⟨cg,aU,h⟩:=ob h;obtain ⟨bS,b3,bf,rfl,K,bl,bq,⟨bK,bW,bL,bX,bM,ba,rfl,aP,aQ,ac⟩,aL⟩:=d.idx aU;refine go ?_;refine LW.l (iC.jH w0 kW rfl rfl (fun j u hu=>aL j u hu)) (c.same _ K.1 K.2) rfl ?_;refine gb h fun bC ad h=>?_;refine LW.c0 (rv ad rfl (c.rB aP) rfl (c.rB aQ) rfl (c.rB ac)) c fun bv q=>?_;refine go ?_;refine CW.fl [0,1,5,6,7,8,9,63] fun e=>?_;refine gc h ?_ ?_ <;> intro _ h
             · refine go ?_;refine LW.l (iC.iP ao jc rfl (L 0 _ rfl)) (q.zC 0 rfl J) rfl ?_;have ⟨bD,B,h⟩:=ob h;obtain ⟨a9,br,hae,a5,a6⟩:=q.iJ (α:=Bool) (i:=1) rfl B;cases hae;refine go ?_;have ⟨X,C,h⟩:=ob h;refine LW.se 0 q 1 B C (hM:=uw) fun bw az=>?_;refine go ?_;replace h:=oi h;subst h;have aA:=az.jj (α:=Int) 0 rfl z;exact ⟨rfl,⟨⟨rfl,rfl,(show (vS (some ⟨a,b,none⟩) p.1.length k:Value)=vS (some ⟨a,b,none⟩) X.length k by rw [show p.1.length=X.length from (iM (oi C))]),rfl,rfl,rfl,rfl,trivial⟩,aA.pk [0,1]⟩⟩
             refine go ?_;have aB:=q.jj (α:=Int) 0 rfl z;cases oi h;exact ⟨rfl,(aB.po [0,1])⟩
           refine go ?_;cases oi h;exact ⟨trivial,rfl,(y.po [0,1])⟩
         rintro e bz ⟨hE,aC⟩;obtain ⟨e,rfl⟩:=hE.out;have h:=ar;refine go ?_;cases oi h;exact ⟨rfl,(aC.po [1])⟩
       refine go ?_;cases oi h;exact ⟨trivial,rfl,(A.po [0])⟩
     rintro e bA ⟨hE,aD⟩;obtain ⟨e,rfl⟩:=hE.out;have h:=au;refine go ?_;cases oi h;exact ⟨rfl,(aD.po [0])⟩
   refine go ?_;cases oi h;exact ⟨trivial,rfl,(an.po [0])⟩
 rintro e bB ⟨hE,aE⟩;obtain ⟨e,rfl⟩:=hE.out;have h:=av;refine go ?_;cases h;exact Ra ⟨(some ⟨a,b,none⟩),k,rfl,aE.pk [0]⟩
theorem xo {w0 N a M r} (h:sE N a M=some r) {b p j} (y:p=a.label.levels.length) (O:rb w0 b j a.label.levels) {c q k} (z:q=a.own.length) (R:rb w0 c k a.own) {d s l} (A:s=a.tree.length) (H:rb w0 d l a.tree) {f t m} (B:t=a.heap.ag.length) (U:rb w0 f m a.heap.ag) {g u n} (C:u=a.heap.gc.ia.length) (V:rb w0 g n a.heap.gc.ia) {i x o} (G:x=a.ij.length) (W:rb w0 i o a.ij) :
    iq Tryz.prog 248 #[.agg #[vS b p j,vS c q k,vS d s l,vS f t m,vI a.heap.gc.phase,vI a.heap.gc.pos,vI a.heap.gc.round,vS g u n,vS i x o,vI a.next,vI a.want,vI a.gE.bh,vI a.gE.ib,vI a.gE.ik,vI a.iH,vI a.lost],vI M] w0 (fun v w=>v=vI r∧St w0 [] w []):=by
 subst y z A B C G;unfold sE at h;refine iq.fn Tryz.func248 fun e=>?_;have K:=St.start w0;refine go ?_;refine LW.bo K fun X Y I=>?_;refine gb h fun aa L h=>?_;refine LW.c0 (tb L rfl (I.rB H)) I fun Z J=>?_;refine gc h ?_ ?_ <;> intro _ h
 · refine go ?_;cases h;exact fi J
 refine go ?_;cases h;exact fi J
theorem DQ {w0} {F:List Nat} {N q bd r} (h:rV N q bd=some r) {s ak m} (aq:ak=q.ag.length) {x am y} (ar:am=q.gc.ia.length) (hS:St w0 F w0 [sl s m q.ag,sl x y q.gc.ia]) :
    iq Tryz.prog 312 #[.agg #[vS s ak m,vI q.gc.phase,vI q.gc.pos,vI q.gc.round,vS x am y],vI bd] w0 (fun v w=>∃ H J, ∃ I K,v=.agg #[vS H r.ag.length J,vI r.gc.phase,vI r.gc.pos,vI r.gc.round,vS I r.gc.ia.length K]∧St w0 F w [sl H J r.ag,sl I K r.gc.ia]):=by
 subst aq ar;unfold rV at h;refine iq.fn Tryz.func312 fun e=>?_;refine go ?_;refine LW.bo hS fun bg cM bk=>?_;refine LW.al bk fun bi b5 X=>?_;refine gc h ?_ ?_ <;> intro _ h
 · refine go ?_;refine LW.st X 1 fun cN bl=>?_;refine go ?_;refine LW.st bl 1 fun cO bm=>?_;refine go ?_;refine LW.st bm 0 fun cP aE=>?_;refine go ?_;cases h;exact And.intro trivial ⟨_,jB.one (ic.b aE 0 rfl nD rfl rfl),s,m,x,y,rfl,aE.pk [2,3]⟩
 refine gb h fun cQ aG h=>?_;obtain ⟨ci,cu,hae,bJ,bO⟩:=X.iJ (α:=Int) (i:=3) rfl aG;subst hae;refine go ?_;obtain ⟨b8,ab,aF⟩:=X.freeze (α:=Int) 3 rfl;obtain ⟨cj,cv,bE,hae,aW,_,_,aY,a5⟩:=ab.kr.idx aG;cases hae;obtain rfl:=aY;refine LW.l (iC.iP b5 jc rfl (a5 0 _ rfl)) (aF.zC 3 rfl aW) rfl ?_;refine go ?_;have bn:=aF.jj (α:=Int) 3 rfl ab;have ⟨cG,ad,h⟩:=ob h;obtain ⟨ap,aA,aC,a2,a3,bp⟩:=bn.tA (α:=Int) 3 rfl ad;refine LW.u (iD.sub (α:=Int) (l:=q.gc.ia) Tryz.underlying32 CE rfl uk (uu rfl) ad ap a2 a3) rfl ?_;refine go ?_;refine LW.st bp 1 fun bt M=>?_;refine gs ?_;obtain ⟨bq,a4,bj⟩:=ob h;refine CW.jn [1,2,4,6] [0,1,2,3] [(44,.bool bq)] M (h1:=?_) (h2:=?_)
 · have h:=a4;refine gB h ?_ ?_ <;> intro _ h
   · refine gb h fun cH ae h=>?_;obtain ⟨ck,cw,hae,bK,bP⟩:=M.iJ (α:=cd) (i:=2) rfl ae;subst hae;refine go ?_;obtain ⟨b9,ac,n⟩:=M.freeze (α:=cd) 2 rfl;obtain ⟨cm,cx,bF,hae,aX,_,_,aZ,a6⟩:=ac.kr.idx ae;cases hae;obtain ⟨cc,cq,cf,cr,cg,ct,rfl,a8,a9,ba⟩:=aZ;refine go ?_;refine LW.l (iC.jH bt kW rfl rfl (fun j u hu=>a6 j u hu)) (n.zC 2 rfl aX) rfl ?_;refine gb h fun cI bb h=>?_;refine go ?_;refine LW.c0 (rv bb rfl (n.rZ 2 rfl a8) rfl (n.rZ 2 rfl a9) rfl (n.rZ 2 rfl ba)) n fun cB aN=>?_;refine go ?_;have aO:=aN.jj (α:=cd) 2 rfl ac;cases oi h;exact aO.po [0,1,2,3]
   refine go ?_;cases oi h;exact M.po [0,1,2,3]
 intro e cC z;have h:=bj;refine gc h ?_ ?_ <;> intro _ h
 · refine go ?_;refine LW.st z 0 fun cD O=>?_;refine go ?_;cases h;exact And.intro trivial ⟨_,jB.one (ic.b O 0 rfl nD rfl rfl),s,m,aA,aC,rfl,O.pk [2,3]⟩
 refine gb h fun aH bc h=>?_;refine LW.cl (Bg bc rfl (z.rI 2 rfl)) ?_;rintro _ cE ⟨aB,aD,rfl,hs⟩;have R:=z.add hs;refine gb h fun cJ af h=>?_;obtain ⟨be,br,hae,bL,bQ⟩:=R.iJ (α:=cd) (i:=3) rfl af;subst hae;refine go ?_;refine gb h fun bu ah h=>?_;refine LW.se 9 R 3 af ah (hM:=(kq (fun w cs F hF=>by obtain ⟨bU,bX,bV,bY,bW,bZ,rfl,hH⟩:=hF;exact ⟨bU,bX,bV,bY,bW,bZ,rfl,hH⟩))) fun cF U=>?_;refine go ?_;rw [show q.ag.length=bu.length from (iM (oi ah))] at U;obtain ⟨bT,au,aM⟩:=ob h;refine CW.ie au 0 (fun k e wb=>∃ (g:Ad) (d:Nat) (a:Ad) (f:Nat),En e [(1,vI bd),(2,.pointer (some ⟨bg,0,none⟩)),(4,.pointer (some ⟨bi,0,none⟩)),(7,vS aB aH.length aD),(8,vI k.1)]∧St w0 F wb [sl aB aD aH,bx bi 40 [vS none 0 0,vI 0,vI 0,vI 0,vS none 0 0],bx bg 40 [vS g k.2.1.length d,vI k.2.2.1,vI k.2.2.2.1,vI k.2.2.2.2.1,vS a k.2.2.2.2.2.length f],sl g d k.2.1,sl a f k.2.2.2.2.2]) ?_ ⟨(some ⟨be,br,none⟩),m,aA,aC,U.po [0,1,2,3,4]⟩ ?_
 · intro k e an o hM h;obtain ⟨g,d,a,f,hE,V⟩:=hM;obtain ⟨e,rfl⟩:=hE.out;refine go ?_;refine CW.fl [1,2,4,7,8,58] fun e=>?_;refine gc h ?_ ?_ <;> intro _ h
   · refine go ?_;refine CW.draw (by kernel_rfl) ?_;have W:=V.drew;refine gb h fun cK ai h=>?_;obtain ⟨cn,cy,hae,bM,bR⟩:=W.iJ (α:=Int) (i:=0) rfl ai;subst hae;refine go ?_;obtain ⟨ca,C,A⟩:=W.freeze (α:=Int) 0 rfl;obtain ⟨co,cz,bG,hae,B,_,_,a0,aa⟩:=C.kr.idx ai;cases hae;obtain rfl:=a0;refine AW.take (i:=5) rfl (by kernel_rfl) rfl rfl (iC.iP an.drew jc rfl (aa 0 _ rfl)) (A.zC 0 rfl B) ?_;have ⟨cL,aj,h⟩:=ob h;obtain ⟨bf,bs,hae,bN,bS⟩:=A.iJ (α:=cd) (i:=3) rfl aj;subst hae;refine go ?_;obtain ⟨cb,G,p⟩:=A.freeze (α:=cd) 3 rfl;obtain ⟨cp,cA,bI,hae,ao,_,_,a1,a7⟩:=G.kr.idx aj;cases hae;obtain ⟨bw,bB,bz,bC,bA,bD,rfl,av,aw,ax⟩:=a1;refine AW.take (i:=7) rfl (by kernel_rfl) rfl rfl (iC.jH an.drew kW rfl rfl (fun j u hu=>a7 j u hu)) (p.zC 3 rfl ao) ?_;refine gb h fun b6 ay h=>?_;refine jO 9 ?_;refine LW.cl (rv ay rfl (p.rZ 3 rfl av) rfl (p.rZ 3 rfl aw) rfl (p.rZ 3 rfl ax)) ?_;rintro _ b0 ⟨rfl,hs⟩;have t:=p.add hs;refine jN (jW (.c (t.zC 0 rfl B) (.c (t.ce 2) jZ))) ?_;refine gc h ?_ ?_ <;> intro _ h
     · refine CW.draw (by kernel_rfl) ?_;have Y:=t.drew;refine go ?_;refine AW.take (i:=4) rfl (by kernel_rfl) rfl rfl (iC.iP an.drew jc rfl (aa 0 _ rfl)) (Y.zC 0 rfl B) ?_;have ⟨b7,az,h⟩:=ob h;have aP:=Y.jj (α:=cd) 3 rfl G;obtain ⟨bv,L⟩:=aP.iy [3,4] [0,1,2];refine jO 5 ?_;refine LW.cl (xD az rfl rfl L.st) ?_;rintro _ b1 ⟨aI,aK,aJ,aL,rfl,hs⟩;have aQ:=L.back _ _ hs;refine jN (jW (jW jZ)) ?_;refine jO 6 ?_;refine LW.st aQ 4 fun b2 aR=>?_;refine jN (jW (jW jZ)) ?_;refine go ?_;have aS:=aR.jj (α:=Int) 2 rfl C;cases oi h;exact ⟨rfl,⟨aI,aK,aJ,aL,aS.po [2,3,4,0,1]⟩⟩
     refine go ?_;have aT:=t.jj (α:=cd) 3 rfl G;have aU:=aT.jj (α:=Int) 0 rfl C;cases oi h;exact ⟨rfl,⟨(some ⟨bf,bs,none⟩),d,a,f,aU.po [0,1,2,3,4]⟩⟩
   refine go ?_;cases oi h;exact ⟨trivial,rfl,⟨g,d,a,f,V.po [0,1,2,3,4]⟩⟩
 rintro e b3 ⟨g,d,a,f,hE,aV⟩;obtain ⟨e,rfl⟩:=hE.out;have h:=aM;refine go ?_;refine LW.st aV 1 fun b4 Z=>?_;refine go ?_;cases h;exact And.intro trivial ⟨_,jB.one (ic.b Z 1 rfl nD rfl rfl),g,d,a,f,rfl,Z.pk [3,4]⟩
theorem yt {w0 N a ab r} (h:og N a ab=some r) {l u n} (y:u=a.ag.length) (j:rb w0 l n a.ag) {m x o} (z:x=a.gc.ia.length) (k:rb w0 m o a.gc.ia) :
    iq Tryz.prog 247 #[.agg #[vS l u n,vI a.gc.phase,vI a.gc.pos,vI a.gc.round,vS m x o],vI ab] w0 (fun v w=>∃ c f, ∃ d g,v=.agg #[vS c r.ag.length f,vI r.gc.phase,vI r.gc.pos,vI r.gc.round,vS d r.gc.ia.length g]∧St w0 [] w [sl c f r.ag,sl d g r.gc.ia]):=by
 subst y z;unfold og at h;refine iq.fn Tryz.func247 fun e=>?_;have U:=St.start w0;refine go ?_;refine LW.bo U fun ay aA V=>?_;refine LW.al V fun az aB t=>?_;refine gb h fun aC Z h=>?_;refine LW.cl (tV Z rfl (t.rB j) rfl (t.rB k)) ?_;rintro _ aj ⟨ac,ae,ad,af,rfl,hs⟩;have W:=t.add hs;refine LW.al W fun ai ak X=>?_;refine LW.st X 0 fun am i=>?_;refine gs ?_;obtain ⟨aa,G,R⟩:=ob h;refine CW.jn [1,4,5] [0,1,2,3] [(15,.bool aa)] i (h1:=?_) (h2:=?_)
 · have h:=G;refine gb h fun av H h=>?_;refine LW.c0 (uJ H rfl (i.rB j) rfl (i.rB k)) i fun an A=>?_;refine gB h ?_ ?_ <;> intro _ h
   · refine go ?_;cases oi h;exact A.po [0,1,2,3]
   refine gb h fun aw I h=>?_;refine go ?_;refine LW.c0 (nQ I) A fun ao Y=>?_;refine go ?_;cases oi h;exact Y.po [0,1,2,3]
 intro e ap B;have h:=R;refine gc h ?_ ?_ <;> intro _ h
 · refine go ?_;refine LW.st B 3 fun aq q=>?_;refine go ?_;cases h;exact And.intro trivial ⟨_,jB.one (ic.b q 3 rfl nD rfl rfl),ac,ae,ad,af,rfl,q.pk [1,2]⟩
 refine gb h fun ax J h=>?_;obtain ⟨ah,p⟩:=B.iy [1,2] [0,3];refine LW.cl (xD J rfl rfl p.st) ?_;rintro _ ar ⟨K,M,L,O,rfl,hs⟩;have C:=p.back _ _ hs;refine LW.st C 3 fun au s=>?_;refine go ?_;cases h;exact And.intro trivial ⟨_,jB.one (ic.b s 3 rfl nD rfl rfl),K,M,L,O,rfl,s.pk [0,1]⟩
theorem xa {w0 N aK af r} (h:oE N aK af=some r) {B ac C} (ae:ac=aK.length) (d:rb w0 B C aK) :
    iq Tryz.prog 252 #[vS B ac C,vI af] w0 (fun v w=>∃ ah ai,v=.tuple #[vS ah r.1.length ai,.bool r.2]∧St w0 [] w [sl ah ai r.1]):=by
 subst ae;unfold oE at h;refine iq.fn Tryz.func252 fun e=>?_;have aj:=St.start w0;refine gb h fun ad aT h=>?_;refine LW.cl (nO aT rfl (aj.rB d)) ?_;rintro _ bO ⟨aq,k,rfl,hs⟩;have I:=aj.add hs;refine gs ?_;obtain ⟨bc,aS,a0⟩:=ob h;refine CW.jn [0,1,6] [0] [(20,.bool bc)] I (h1:=?_) (h2:=?_)
 · have h:=aS;refine gb h fun bQ aU h=>?_;refine LW.c0 (tb aU rfl (I.rB d)) I fun bP ak=>?_;refine gB h ?_ ?_ <;> intro _ h
   · refine go ?_;cases oi h;exact ak.po [0]
   refine go ?_;cases oi h;exact ak.po [0]
 intro e bs J;have h:=a0;refine gc h ?_ ?_ <;> intro _ h
 · refine go ?_;cases h;exact Rc tt tt ⟨aq,k,rfl,J.pk [0]⟩
 refine gb h fun an aI h=>?_;obtain ⟨be,bl,aX,rfl,a,a1,a7,rfl,O⟩:=d.idx aI;refine go ?_;refine LW.l (iC.iP w0 jc rfl (O 1 _ rfl)) (J.same _ a.1 a.2) rfl ?_;refine gs ?_;obtain ⟨ab,aC,aN⟩:=ob h;refine CW.cut (fun e wb=>∃ (t:Nat),En e [(1,vI af),(6,vS aq ad.length k),(7,vI an.parent),(8,.pointer (some ⟨t,0,none⟩))]∧St w0 [] wb [sl aq k ad,bx t 43 [vI ab.1,vI ab.2.1,vI ab.2.2]]) ?_ ?_
 · have h:=aC;refine CW.draw (by kernel_rfl) ?_;have A:=J.drew;refine gb h fun bI aJ h=>?_;obtain ⟨bf,bm,aY,hae,b,a3,a8,aA,aE⟩:=d.idx aJ;cases hae;obtain rfl:=aA;refine go ?_;refine AW.take (i:=4) rfl (by kernel_rfl) rfl rfl (iC.jH w0 kt rfl rfl (fun j u hu=>m5 (m:=3) aE 2 hu)) (A.same _ b.1 b.2) ?_;refine go ?_;refine AW.take (i:=9) rfl (by kernel_rfl) rfl rfl (iC.jH w0 kt rfl rfl (fun j u hu=>m5 (m:=3) O 2 hu)) (A.same _ a.1 a.2) ?_;have ⟨bJ,U,h⟩:=ob h;refine AW.all (rs:=[10,14]) (by kernel_rfl) (by simp) ⟨?_,?_,trivial⟩
   · refine ⟨_,rfl,?_⟩;refine LW.cl (ml U) ?_;rintro _ bt ⟨rfl,hs⟩;have aQ:=A.add hs;refine jn ?_;refine AW.u (i:=11) rfl (by kernel_rfl) rfl rfl (iD.p rfl) ?_;refine go ?_;refine jO 14 ?_;refine LW.al aQ fun aL bu K=>?_;refine jN (.c (K.same _ a.1 a.2) (.c (K.same _ b.1 b.2) jZ)) ?_;refine jO 15 ?_;refine LW.st K 0 fun bv aR=>?_;refine jn ?_;refine go ?_;cases oi h;exact ⟨aL,aR.po [1,0]⟩
   refine ⟨_,rfl,?_⟩;refine LW.al A fun aM bw L=>?_;refine jN (.c (L.same _ a.1 a.2) (.c (L.same _ b.1 b.2) jZ)) ?_;refine jO 10 ?_;refine LW.cl (ml U) ?_;rintro _ bz ⟨rfl,hs⟩;have ar:=L.add hs;refine jn ?_;refine go ?_;refine jO 15 ?_;refine LW.st ar 0 fun bA au=>?_;refine jn ?_;refine go ?_;cases oi h;exact ⟨aM,au.po [1,0]⟩
 rintro e bB ⟨t,hE,G⟩;obtain ⟨e,rfl⟩:=hE.out;have h:=aN;refine gb h fun bK V h=>?_;obtain ⟨f,g,hae,a4,a9⟩:=G.iJ (α:=ir) (i:=0) rfl V;subst hae;refine go ?_;refine gb h fun aW z h=>?_;refine LW.se 2 G 0 V z (hM:=(kq (fun w cs F hF=>by obtain ⟨rfl,rfl⟩:=hF;exact ⟨rfl,rfl⟩))) fun bC H=>?_;refine go ?_;refine LW.u (iD.build (vs:=[]) (cs:=#[.bool false,vI 0,vI 0,vI 0,vI 0]) rfl (by kernel_rfl)) rfl ?_;have ⟨bL,W,h⟩:=ob h;obtain ⟨bg,bn,hae,aG,aH⟩:=H.iJ (α:=ir) (i:=0) rfl W;cases hae;(try refine LW.u (iD.ix Tryz.underlying35 FH rfl rfl aG (by rw [show ad.length=aW.length from (iM (oi z))];exact aH)) rfl ?_);have ⟨ao,X,h⟩:=ob h;refine LW.se 0 H 0 W X (hM:=uw) fun bD av=>?_;refine go ?_;obtain ⟨br,aF,aP⟩:=ob h;refine CW.ie aF 0 (fun n e wb=>En e [(1,vI af),(6,vS (some ⟨f,g,none⟩) n.1.length k),(7,vI an.parent),(10,vI n.2)]∧St w0 [] wb [sl (some ⟨f,g,none⟩) k n.1]) ?_ ⟨⟨rfl,(show (vS (some ⟨f,g,none⟩) ad.length k:Value)=vS (some ⟨f,g,none⟩) ao.length k by rw [show ad.length=ao.length from ((iM (oi z)).trans (iM (oi X)))]),rfl,rfl,trivial⟩,av.pk [0]⟩ ?_
 · intro n e am o hM h;obtain ⟨e,rfl,q⟩:=eo hM;refine go ?_;refine CW.fl [1,6,7,10,53] fun e=>?_;refine gc h ?_ ?_ <;> intro _ h
   · refine gs ?_;refine CW.block ?_;refine gs ?_;obtain ⟨aV,aD,aO⟩:=ob h;refine CW.jn [1,6,7,10] [0] [(69,.bool aV)] q (h1:=?_) (h2:=?_)
     · have h:=aD;refine gb h fun bM Y h=>?_;obtain ⟨bi,bo,hae,a5,ba⟩:=q.iJ (α:=ir) (i:=0) rfl Y;cases hae;refine go ?_;obtain ⟨bd,y,s⟩:=q.freeze (α:=ir) 0 rfl;obtain ⟨bj,bp,aZ,hae,M,_,_,aB,R⟩:=y.kr.idx Y;cases hae;obtain rfl:=aB;refine LW.l (iC.iP am qI rfl (R 0 _ rfl)) (s.zC 0 rfl M) rfl ?_;refine gB h ?_ ?_ <;> intro _ h
       · refine go ?_;refine LW.l (iC.iP am jc rfl (R 1 _ rfl)) (s.zC 0 rfl M) rfl ?_;refine go ?_;have aw:=s.jj (α:=ir) 0 rfl y;cases oi h;exact aw.po [0]
       refine go ?_;have ax:=s.jj (α:=ir) 0 rfl y;cases oi h;exact ax.po [0]
     intro e bE x;have h:=aO;refine gc h ?_ ?_ <;> intro _ h
     · refine gb h fun bN Z h=>?_;obtain ⟨bk,bq,hae,a6,bb⟩:=x.iJ (α:=ir) (i:=0) rfl Z;cases hae;refine go ?_;refine gb h fun ap aa h=>?_;refine LW.se 1 x 0 Z aa (hM:=(kq (fun w cs F hF=>by obtain ⟨rfl,rfl⟩:=hF;exact ⟨rfl,rfl⟩))) fun bF ay=>?_;refine go ?_;replace h:=oi h;subst h;exact ⟨rfl,⟨⟨rfl,(show (vS (some ⟨f,g,none⟩) n.1.length k:Value)=vS (some ⟨f,g,none⟩) ap.length k by rw [show n.1.length=ap.length from (iM (oi aa))]),rfl,rfl,trivial⟩,ay.pk [0]⟩⟩
     refine go ?_;cases oi h;exact ⟨rfl,(x.po [0])⟩
   refine go ?_;cases oi h;exact ⟨trivial,rfl,(q.po [0])⟩
 rintro e bG ⟨hE,az⟩;obtain ⟨e,rfl⟩:=hE.out;have h:=aP;refine go ?_;cases h;exact Rc tt tt ⟨(some ⟨f,g,none⟩),k,rfl,az.pk [0]⟩
theorem z0 {w0 N c r} (h:rj N c=some r) {f t i} (A:t=c.ag.length) (C:rb w0 f i c.ag) {g y j} (B:y=c.gc.ia.length) (b:rb w0 g j c.gc.ia) :
    iq Tryz.prog 202 #[.agg #[vS f t i,vI c.gc.phase,vI c.gc.pos,vI c.gc.round,vS g y j]] w0 (fun v w=>v=.bool r∧St w0 [] w []):=by
 subst A B;unfold rj at h;refine iq.fn Tryz.func202 fun e=>?_;have aj:=St.start w0;refine go ?_;refine LW.bo aj fun aT aU ak=>?_;refine go ?_;obtain ⟨J,X,G⟩:=ob h;refine CW.mono (CW.lx [1,9,10] [0] [1] 0 (fun ar=>[(11,vI ar)]) (RT Tryz.prog Tryz.f202.results (fun u=>.bool u) w0 []) ak X (hb:=?_)) ?_
 · intro ar e aV o d h;refine gc h ?_ ?_ <;> intro _ h
   · refine gb h fun aW an h=>?_;obtain ⟨aS,az,au,rfl,q,ax,ay,rfl,W⟩:=b.idx an;refine go ?_;refine LW.l (iC.iP w0 jc rfl (W 0 _ rfl)) (d.same _ q.1 q.2) rfl ?_;refine gs ?_;obtain ⟨ao,R,af⟩:=ob h;refine CW.jn [1,9,10,11] [0] [(27,.bool ao)] d (h1:=?_) (h2:=?_)
     · have h:=R;refine gb h fun aL Z h=>?_;refine LW.c0 (wm Z) d fun aB m=>?_;refine gB h ?_ ?_ <;> intro _ h
       · refine go ?_;cases oi h;exact m.po [0]
       refine gb h fun aM s h=>?_;obtain ⟨av,aw,M,O,Y⟩:=jf.tA b s;have z:=(b).le;refine go ?_;refine LW.u (iD.sub (α:=Int) (l:=c.gc.ia) Tryz.underlying32 CE rfl uk (uu rfl) s z M O) rfl ?_;refine go ?_;have ⟨aN,aa,h⟩:=ob h;refine go ?_;refine LW.c0 (sm aa rfl (m.rB Y)) m fun aC am=>?_;refine go ?_;cases oi h;exact am.po [0]
     intro e aD H;have h:=af;refine go ?_;refine CW.fl [1,9,10,11,27] fun e=>?_;refine gc h ?_ ?_ <;> intro _ h
     · refine go ?_;cases oi h;exact ⟨trivial,rfl,_,rfl,rx ⟨rfl,H.pk []⟩⟩
     refine go ?_;cases oi h;exact ⟨rfl,(H.po [0])⟩
   refine go ?_;cases oi h;exact ⟨trivial,rfl,(d.po [0])⟩
 intro x e aE hM;rcases J with J | aA
 · obtain ⟨rfl,hM⟩:=hM;obtain ⟨e,rfl,n⟩:=eo hM;have h:=G;refine gs ?_;obtain ⟨ap,U,ah⟩:=ob h;refine CW.jn [1] [0] [(5,.bool ap)] n (h1:=?_) (h2:=?_)
   · have h:=U;refine gB h ?_ ?_ <;> intro _ h
     · refine go ?_;cases oi h;exact n.po [0]
     refine go ?_;cases oi h;exact n.po [0]
   intro e aF p;have h:=ah;refine gs ?_;obtain ⟨aq,V,ai⟩:=ob h;refine CW.jn [1,5] [0] [(6,.bool aq)] p (h1:=?_) (h2:=?_)
   · have h:=V;refine gB h ?_ ?_ <;> intro _ h
     · refine gb h fun aO ab h=>?_;refine go ?_;refine LW.c0 (wm ab) p fun aG I=>?_;refine gB h ?_ ?_ <;> intro _ h
       · refine go ?_;cases oi h;exact I.po [0]
       refine go ?_;cases oi h;exact I.po [0]
     refine go ?_;cases oi h;exact p.po [0]
   intro e aH k;have h:=ai;refine gb h fun aP ac h=>?_;refine LW.c0 (vF ac rfl (k.rB C)) k fun aI a=>?_;refine gB h ?_ ?_ <;> intro _ h
   · refine gB h ?_ ?_ <;> intro _ h
     · refine gb h fun aQ ad h=>?_;refine go ?_;refine LW.c0 (nR ad) a fun aJ K=>?_;refine go ?_;cases h;exact fi K
     refine gB h ?_ ?_ <;> intro _ h
     · refine gb h fun aR ae h=>?_;refine go ?_;refine LW.c0 (nR ae) a fun aK L=>?_;refine go ?_;cases h;exact fi L
     refine go ?_;cases h;exact fi a
   refine go ?_;cases h;exact fi a
 obtain ⟨rfl,u,rfl,hM⟩:=hM;cases G;exact And.intro trivial hM
theorem w7 {w0 N C r} (h:nL N C=some r) {I Z J} (ac:Z=C.parts.length) (ad:rb w0 I J C.parts) :
    iq Tryz.prog 51 #[.agg #[vI C.now,vS I Z J]] w0 (fun v w=>∃ O R,v=.agg #[vI r.now,vS O r.parts.length R]∧St w0 [] w [sl O R r.parts]):=by
 subst ac;unfold nL at h;refine iq.fn Tryz.func51 fun e=>?_;have aO:=St.start w0;refine go ?_;refine LW.bo aO fun bb bc aP=>?_;refine LW.al aP fun aa bd aQ=>?_;refine go ?_;refine LW.u (iD.build (vs:=[(0,vI C.now)]) (cs:=#[vI C.now,vS none 0 0]) rfl (by kernel_rfl)) rfl ?_;refine LW.al aQ fun ab be aR=>?_;refine LW.st aR 0 fun bf aS=>?_;refine go ?_;have aT:=aS.nil (α:=dW);obtain ⟨a1,aB,aN⟩:=ob h;refine CW.ie aB 0 (fun H e wb=>∃ (d:Ad) (f:Nat),En e [(2,.pointer (some ⟨aa,0,none⟩)),(3,.pointer (some ⟨ab,0,none⟩)),(10,vS I C.parts.length J),(11,vI (C.parts.length:Int)),(12,vI H.1)]∧St w0 [] wb [bx ab 26 [vI C.now,vS d H.2.length f],bx aa 26 [vI 0,vS none 0 0],sl d f H.2]) ?_ ⟨none,0,aT.po [1,2,0]⟩ ?_
 · intro H e bg o hM h;obtain ⟨d,f,hE,X⟩:=hM;obtain ⟨e,rfl⟩:=hE.out;refine gc h ?_ ?_ <;> intro _ h
   · refine gb h fun aw aI h=>?_;obtain ⟨aZ,a0,aW,rfl,Y,aX,aY,⟨ae,am,af,an,ah,ao,ai,ap,aj,aq,ak,ar,rfl,aC,aD,aE,aF,aG,aH⟩,aA⟩:=ad.idx aI;refine go ?_;refine LW.l (iC.jH w0 jz rfl rfl (fun j u hu=>aA j u hu)) (X.same _ Y.1 Y.2) rfl ?_;refine LW.al X fun au a2 aU=>?_;refine LW.st aU 0 fun a3 aV=>?_;refine go ?_;refine CW.draw (by kernel_rfl) ?_;have g:=aV.drew;refine gb h fun a aJ h=>?_;refine jO 3 ?_;refine LW.cl (pR aJ rfl (g.rB aC) rfl (g.rB aD) rfl (g.rB aE) rfl (g.rB aF) rfl (g.rB aG) rfl (g.rB aH)) ?_;rintro _ a4 ⟨k,t,m,x,n,y,p,z,q,A,s,B,rfl,hs⟩;have U:=g.add hs;refine jN (jW (.c (U.ce 7) jZ)) ?_;refine jO 4 ?_;refine LW.LI (vs:=#[vS k a.label.levels.length t,vS m a.own.length x,vS n a.tree.length y,vS p a.heap.ag.length z,vI a.heap.gc.phase,vI a.heap.gc.pos,vI a.heap.gc.round,vS q a.heap.gc.ia.length A,vS s a.ij.length B,vI a.next,vI a.want,vI a.gE.bh,vI a.gE.ib,vI a.gE.ik,vI a.iH,vI a.lost]) HL rfl (by kernel_rfl) U rfl ?_;intro av a5 K hf;refine jN (.c (K.ce 7) (.c (K.ce 8) jZ)) ?_;have ax:=K.pk (M:=[sl k t a.label.levels,sl m x a.own,sl n y a.tree,sl p z a.heap.ag,sl q A a.heap.gc.ia,sl s B a.ij]++[bx av 45 (qP k t m x n y p z q A s B a),bx au 45 (qP ae am af an ah ao ai ap aj aq ak ar aw),bx ab 26 [vI C.now,vS d H.2.length f],bx aa 26 [vI 0,vS none 0 0],sl d f H.2]) [1,2,3,4,5,6,0,7,8,9,10]
     have ⟨ba,aK,h⟩:=ob h;refine jO 5 ?_;refine LW.E3 (M:=[sl k t a.label.levels,sl m x a.own,sl n y a.tree,sl p z a.heap.ag,sl q A a.heap.gc.ia,sl s B a.ij]) (L:=[bx av 45 (qP k t m x n y p z q A s B a),bx au 45 (qP ae am af an ah ao ai ap aj aq ak ar aw),bx ab 26 [vI C.now,vS d H.2.length f],bx aa 26 [vI 0,vS none 0 0],sl d f H.2]) (vs:=(qP k t m x n y p z q A s B a)) (i:=4) (j:=0) HL rfl rfl aK ax rfl rfl (fun w G hG=>⟨k,t,m,x,n,y,p,z,q,A,s,B,rfl,hG⟩) rfl ?_;intro aL aM a6 V hf;refine jN (.c (V.ce 1) (jW jZ)) ?_;refine go ?_;refine jO 7 ?_;refine LW.st V 2 fun a7 ay=>?_;refine jN (jW (jW jZ)) ?_;refine go ?_;cases oi h;exact ⟨rfl,⟨aL,aM,ay.po [2,3,4]⟩⟩
   refine go ?_;cases oi h;exact ⟨trivial,rfl,⟨d,f,X.po [0,1,2]⟩⟩
 rintro e a8 ⟨d,f,hE,az⟩;obtain ⟨e,rfl⟩:=hE.out;have h:=aN;refine go ?_;refine LW.st az 1 fun a9 W=>?_;refine go ?_;cases h;exact And.intro trivial ⟨_,jB.one (ic.b W 1 rfl uW rfl rfl),d,f,rfl,W.pk [2]⟩
theorem yi {w0 N n r} (h:pE N n=some r) {c m d} (p:m=n.length) (f:rb w0 c d n) :
    iq Tryz.prog 134 #[vS c m d] w0 (fun v w=>v=.agg #[vI r.bh,vI r.ib,vI r.ik]∧St w0 [] w []):=by
 subst p;unfold pE at h;refine iq.fn Tryz.func134 fun e=>?_;have K:=St.start w0;refine go ?_;refine LW.al K fun H an L=>?_;refine go ?_;refine LW.u (iD.build (vs:=[]) (cs:=#[vI 0,vI 0,vI 0]) rfl (by kernel_rfl)) rfl ?_;refine LW.al L fun I ao M=>?_;refine LW.st M 0 fun ap q=>?_;refine gb h fun au U h=>?_;refine LW.c0 (rh U rfl (q.rB f)) q fun aq s=>?_;refine gc h ?_ ?_ <;> intro _ h
 · refine go ?_;refine LW.st s 1 fun ar t=>?_;refine go ?_;cases h;exact And.intro trivial ⟨_,jB.one (ic.b t 1 rfl kt rfl rfl),rfl,t.pk []⟩
 refine go ?_;obtain ⟨ab,B,J⟩:=ob h;refine CW.ie B 0 (fun a e wb=>En e [(2,.pointer (some ⟨H,0,none⟩)),(3,.pointer (some ⟨I,0,none⟩)),(11,vS c n.length d),(12,vI (n.length:Int)),(13,vI a.1)]∧St w0 [] wb [bx I 43 [vI a.2.1,vI a.2.2.1,vI a.2.2.2],bx H 43 [vI 0,vI 0,vI 0]]) ?_ (s.po [0,1]) ?_
 · intro a e ac o hM h;obtain ⟨e,rfl,i⟩:=eo hM;refine gc h ?_ ?_ <;> intro _ h
   · refine gb h fun ak C h=>?_;obtain ⟨Y,aa,V,rfl,k,W,X,rfl,A⟩:=f.idx C;refine go ?_;refine LW.l (iC.jH w0 xY rfl rfl (fun j u hu=>A j u hu)) (i.same _ k.1 k.2) rfl ?_;refine LW.al i fun Z ad O=>?_;refine LW.st O 0 fun ae R=>?_;refine gb h fun am G h=>?_;refine LW.c0 (oM G) R fun af x=>?_;refine LW.st x 1 fun ah y=>?_;refine go ?_;cases oi h;exact ⟨rfl,(y.po [1,2])⟩
   refine go ?_;cases oi h;exact ⟨trivial,rfl,(i.po [0,1])⟩
 rintro e ai ⟨hE,z⟩;obtain ⟨e,rfl⟩:=hE.out;have h:=J;refine go ?_;refine LW.st z 1 fun aj g=>?_;refine go ?_;cases h;exact And.intro trivial ⟨_,jB.one (ic.b g 1 rfl kt rfl rfl),rfl,g.pk []⟩
theorem HY {w0 N a r} (h:vg N a=some r) {c C n} (L:C=a.label.levels.length) (W:rb w0 c n a.label.levels) {d G p} (M:G=a.own.length) (X:rb w0 d p a.own) {f H q} (O:H=a.tree.length) (Y:rb w0 f q a.tree) {g I s} (R:I=a.heap.ag.length) (Z:rb w0 g s a.heap.ag) {k J t} (U:J=a.heap.gc.ia.length) (aa:rb w0 k t a.heap.gc.ia) {m K y} (V:K=a.ij.length) (ab:rb w0 m y a.ij) :
    iq Tryz.prog 135 #[.agg #[vS c C n,vS d G p,vS f H q,vS g I s,vI a.heap.gc.phase,vI a.heap.gc.pos,vI a.heap.gc.round,vS k J t,vS m K y,vI a.next,vI a.want,vI a.gE.bh,vI a.gE.ib,vI a.gE.ik,vI a.iH,vI a.lost]] w0 (fun v w=>v=vI r∧St w0 [] w []):=by
 subst L M O R U V;unfold vg at h;refine iq.fn Tryz.func135 fun e=>?_;have ak:=St.start w0;refine go ?_;refine LW.bo ak fun aU aV b=>?_;refine gb h fun aX ar h=>?_;refine LW.cl (zQ ar rfl (b.rB W) rfl (b.rB X) rfl (b.rB Y) rfl (b.rB Z) rfl (b.rB aa) rfl (b.rB ab)) ?_;rintro _ aW ⟨aS,aT,rfl,hs⟩;have am:=b.add hs;refine go ?_;obtain ⟨aN,ah,aj⟩:=ob h;refine CW.mono (CW.lb [7,8] [0] [3] 0 (fun ai=>[(3,vI ai.1),(9,vI ai.2)]) am ah (hb:=?_)) ?_
 · intro ai e ax o z h;refine gc h ?_ ?_ <;> intro _ h
   · refine gb h fun aR B h=>?_;obtain ⟨aC,aL,hae,av,aw⟩:=z.iJ (α:=oq) (i:=0) rfl B;subst hae;refine go ?_;obtain ⟨ay,A,ac⟩:=z.freeze (α:=oq) 0 rfl;obtain ⟨aD,aM,au,hae,ad,_,_,ae,af⟩:=A.kr.idx B;cases hae;obtain ⟨az,aI,aE,aA,aJ,aF,aB,aK,aG,rfl⟩:=ae;refine LW.l (iC.jH ax kW rfl rfl (fun j u hu=>af j u hu)) (ac.zC 0 rfl ad) rfl ?_;refine LW.al ac fun aH aO an=>?_;refine LW.st an 0 fun aP ao=>?_;refine go ?_;have ap:=ao.jj (α:=oq) 1 rfl A;cases oi h;exact ⟨rfl,(ap.po [1])⟩
   refine go ?_;cases oi h;exact ⟨trivial,rfl,(z.po [0])⟩
 intro x e aQ hM;obtain ⟨rfl,hM⟩:=hM;obtain ⟨e,rfl,aq⟩:=eo hM;have h:=aj;refine go ?_;cases h;exact fi aq
theorem yr {w0 N ad ae I r} (h:pK N ad ae I=some r) {l C o} (H:C=ad.length) (b:rb w0 l o ad) :
    iq Tryz.prog 123 #[vS l C o,vI ae,.agg #[vI I.bh,vI I.ib,vI I.ik]] w0 (fun v w=>∃ K L,v=.tuple #[vS K r.1.length L,.bool r.2]∧St w0 [] w [sl K L r.1]):=by
 subst H;unfold pK at h;refine iq.fn Tryz.func123 fun e=>?_;have aj:=St.start w0;refine go ?_;refine LW.bo aj fun aQ aR M=>?_;refine gb h fun J ao h=>?_;refine LW.cl (sR ao rfl (M.rB b)) ?_;rintro _ aS ⟨U,k,rfl,hs⟩;have s:=M.add hs;refine gs ?_;obtain ⟨ay,an,ar⟩:=ob h;refine CW.jn [0,1,5,8] [0,1] [(21,.bool ay)] s (h1:=?_) (h2:=?_)
 · have h:=an;refine gb h fun aT ap h=>?_;refine LW.c0 (rh ap rfl (s.rB b)) s fun aB t=>?_;refine gB h ?_ ?_ <;> intro _ h
   · refine go ?_;cases oi h;exact t.po [0,1]
   refine gb h fun aM ab h=>?_;refine go ?_;refine LW.c0 (tm ab rfl (t.rB b)) t fun aC ak=>?_;refine go ?_;cases oi h;exact ak.po [0,1]
 intro e aD O;have h:=ar;refine gc h ?_ ?_ <;> intro _ h
 · refine go ?_;cases h;exact Rc tt tt ⟨U,k,rfl,O.pk [0]⟩
 refine gs ?_;obtain ⟨d,Z,ai⟩:=ob h;refine CW.cut (fun e wb=>∃ (f:Nat),En e [(1,vI ae),(8,vS U J.length k),(9,.pointer (some ⟨f,0,none⟩)),(10,.bool d.2.2.2)]∧St w0 [] wb [sl U k J,bx f 43 [vI d.1,vI d.2.1,vI d.2.2.1]]) ?_ ?_
 · have h:=Z;refine CW.draw (by kernel_rfl) ?_;have x:=O.drew;refine gb h fun aN ac h=>?_;obtain ⟨az,aA,aq,rfl,a,au,aw,rfl,aa⟩:=b.idx ac;refine go ?_;refine AW.take (i:=4) rfl (by kernel_rfl) rfl rfl (iC.jH w0 kt rfl rfl (fun j u hu=>m5 (m:=3) aa 2 hu)) (x.same _ a.1 a.2) ?_;refine gb h fun aO z h=>?_;refine AW.all (rs:=[6,10]) (by kernel_rfl) (by simp) ⟨?_,?_,trivial⟩
   · refine ⟨_,rfl,?_⟩;refine LW.cl (zm z) ?_;rintro _ aE ⟨rfl,hs⟩;have am:=x.add hs;refine jn ?_;refine AW.u (i:=7) rfl (by kernel_rfl) rfl rfl (iD.p rfl) ?_;refine go ?_;refine jO 10 ?_;refine LW.al am fun af aF y=>?_;refine jN (.c (y.ce 2) (.c (y.same _ a.1 a.2) jZ)) ?_;refine jO 11 ?_;refine LW.st y 0 fun aG V=>?_;refine jn ?_;refine go ?_;cases oi h;exact ⟨af,V.po [1,0]⟩
   refine ⟨_,rfl,?_⟩;refine LW.al x fun ah aH g=>?_;refine jN (.c (g.ce 2) (.c (g.same _ a.1 a.2) jZ)) ?_;refine jO 6 ?_;refine LW.cl (zm z) ?_;rintro _ aI ⟨rfl,hs⟩;have W:=g.add hs;refine jn ?_;refine go ?_;refine jO 11 ?_;refine LW.st W 0 fun aJ X=>?_;refine jn ?_;refine go ?_;cases oi h;exact ⟨ah,X.po [1,0]⟩
 rintro e aK ⟨f,hE,q⟩;obtain ⟨e,rfl⟩:=hE.out;have h:=ai;refine gb h fun aP A h=>?_;obtain ⟨n,G,hae,av,ax⟩:=q.iJ (α:=ir) (i:=0) rfl A;subst hae;refine go ?_;refine gb h fun R B h=>?_;refine LW.se 2 q 0 A B (hM:=(kq (fun w cs F hF=>by obtain ⟨rfl,rfl⟩:=hF;exact ⟨rfl,rfl⟩))) fun aL Y=>?_;refine go ?_;replace h:=oi h;subst h;exact Rc tt tt ⟨(some ⟨n,G,none⟩),k,(show (.tuple #[vS (some ⟨n,G,none⟩) J.length k,.bool d.2.2.2]:Value)=.tuple #[vS (some ⟨n,G,none⟩) R.length k,.bool d.2.2.2] by rw [show J.length=R.length from (iM (oi B))]),Y.pk [0]⟩
end Go.Kx
