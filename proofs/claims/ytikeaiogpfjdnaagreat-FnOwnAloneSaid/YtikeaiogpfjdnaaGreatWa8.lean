/- Each call returns what the plain function says. Printed by drive.py. -/
import Derived.Test.YtikeaiogpfjdnaaGreatFa
import Derived.Test.YtikeaiogpfjdnaaGreatPu
import Derived.Test.YtikeaiogpfjdnaaGreatWa4
import Derived.Test.YtikeaiogpfjdnaaGreatWa5
import Derived.Test.YtikeaiogpfjdnaaGreatWa6
import Derived.Test.YtikeaiogpfjdnaaGreatWa7
namespace Go.Kx
open Go Go.RowKit Go.Proofs
set_option maxRecDepth 10000
set_option maxHeartbeats 8000000
set_option linter.unusedVariables false
set_option linter.unusedSimpArgs false
theorem sR {w0 N aa ab H r} (h:mG N aa ab H=some r) {l A o} (G:A=aa.length) (b:rb w0 l o aa) :
    il Tryz.prog 253 #[vS l A o,vI ab,.agg #[vI H.cd,vI H.ij,vI H.iD]] w0 (fun v w=>∃ J K,v=.tuple #[vS J r.1.length K,.bool r.2]∧St w0 [] w [sl J K r.1]):=by
 subst G;unfold mG at h;refine il.fn Tryz.func253 fun e=>?_;have af:=St.start w0;refine go ?_;refine LW.bo af fun aG aH L=>?_;refine gb h fun I aj h=>?_;refine LW.cl (nm aj rfl (L.rB b)) ?_;rintro _ aI ⟨C,f,rfl,hs⟩;have M:=L.add hs;refine gb h fun aK ak h=>?_;refine LW.c0 (sa ak rfl (M.rB b)) M fun aJ O=>?_;refine gc h ?_ ?_ <;> intro _ h
 · refine go ?_;cases h;exact Rc tt tt ⟨C,f,rfl,O.pk [0]⟩
 refine gs ?_;obtain ⟨k,X,ae⟩:=ob h;refine CW.cut (fun e wb=>∃ (d:Nat),En e [(1,vI ab),(8,vS C I.length f),(9,.pointer (some ⟨d,0,none⟩)),(10,.bool k.2.2.2)]∧St w0 [] wb [sl C f I,bx d 35 [vI k.1,vI k.2.1,vI k.2.2.1]]) ?_ ?_
 · have h:=X;refine CW.draw (by kernel_rfl) ?_;have q:=O.drew;refine gb h fun aD Z h=>?_;obtain ⟨ar,au,am,rfl,a,an,ap,rfl,Y⟩:=b.idx Z;refine go ?_;refine AW.take (i:=4) rfl (by kernel_rfl) rfl rfl (iF.jF w0 km rfl rfl (fun j u hu=>lW (m:=3) Y 2 hu)) (q.same _ a.1 a.2) ?_;refine gb h fun aE x h=>?_;refine AW.all (rs:=[6,10]) (by kernel_rfl) (by simp) ⟨?_,?_,trivial⟩
   · refine ⟨_,rfl,?_⟩;refine LW.cl (yb x) ?_;rintro _ av ⟨rfl,hs⟩;have ah:=q.add hs;refine jn ?_;refine AW.u (i:=7) rfl (by kernel_rfl) rfl rfl (iC.p rfl) ?_;refine go ?_;refine jO 10 ?_;refine LW.al ah fun ac aw s=>?_;refine jN (.c (s.ce 2) (.c (s.same _ a.1 a.2) jZ)) ?_;refine jO 11 ?_;refine LW.st s 0 fun ax ai=>?_;refine jn ?_;refine go ?_;cases oi h;exact ⟨ac,ai.po [1,0]⟩
   refine ⟨_,rfl,?_⟩;refine LW.al q fun ad ay t=>?_;refine jN (.c (t.ce 2) (.c (t.same _ a.1 a.2) jZ)) ?_;refine jO 6 ?_;refine LW.cl (yb x) ?_;rintro _ az ⟨rfl,hs⟩;have U:=t.add hs;refine jn ?_;refine go ?_;refine jO 11 ?_;refine LW.st U 0 fun aA V=>?_;refine jn ?_;refine go ?_;cases oi h;exact ⟨ad,V.po [1,0]⟩
 rintro e aB ⟨d,hE,g⟩;obtain ⟨e,rfl⟩:=hE.out;have h:=ae;refine gc h ?_ ?_ <;> intro _ h
 · refine go ?_;cases h;exact Rc tt tt ⟨C,f,rfl,g.pk [0]⟩
 refine gb h fun aF y h=>?_;obtain ⟨n,B,hae,ao,aq⟩:=g.iJ (α:=iy) (i:=0) rfl y;subst hae;refine go ?_;refine gb h fun R z h=>?_;refine LW.se 2 g 0 y z (hM:=(j7 (fun w cs F hF=>by obtain ⟨rfl,rfl⟩:=hF;exact ⟨rfl,rfl⟩))) fun aC W=>?_;refine go ?_;replace h:=oi h;subst h;exact Rc tt tt ⟨(some ⟨n,B,none⟩),f,(show (.tuple #[vS (some ⟨n,B,none⟩) I.length f,.bool true]:Value)=.tuple #[vS (some ⟨n,B,none⟩) R.length f,.bool true] by rw [show I.length=R.length from (iH (oi z))]),W.pk [0]⟩
theorem xP {w0 N d aA r} (h:qm N d aA=some r) {p K s} (V:K=d.ag.length) (a:rb w0 p s d.ag) {q L t} (W:L=d.gc.ia.length) (o:rb w0 q t d.gc.ia) :
    il Tryz.prog 212 #[.agg #[vS p K s,vI d.gc.phase,vI d.gc.pos,vI d.gc.round,vS q L t],vI aA] w0 (fun v w=>∃ g k, ∃ j m,v=.agg #[vS g r.ag.length k,vI r.gc.phase,vI r.gc.pos,vI r.gc.round,vS j r.gc.ia.length m]∧St w0 [] w [sl g k r.ag,sl j m r.gc.ia]):=by
 subst V W;unfold qm at h;refine il.fn Tryz.func212 fun e=>?_;have au:=St.start w0;refine go ?_;refine LW.bo au fun bi bj av=>?_;refine LW.al av fun ap bk A=>?_;refine gb h fun f ay h=>?_;refine LW.cl (sQ ay rfl (A.rB a) rfl (A.rB o)) ?_;rintro _ aZ ⟨M,R,O,U,rfl,hs⟩;have aw:=A.add hs;refine LW.al aw fun X a0 ax=>?_;refine LW.st ax 0 fun a1 n=>?_;refine gs ?_;obtain ⟨az,ab,aq⟩:=ob h;refine CW.jn [1,2,4,5] [0,1,2,3,4] [(24,.bool az)] n (h1:=?_) (h2:=?_)
 · have h:=ab;refine gb h fun bc ae h=>?_;refine LW.c0 (tu ae rfl (n.rB a) rfl (n.rB o)) n fun a2 Y=>?_;refine gB h ?_ ?_ <;> intro _ h
   · refine go ?_;cases oi h;exact Y.po [0,1,2,3,4]
   refine gb h fun bd af h=>?_;refine go ?_;refine LW.c0 (nq af) Y fun a3 B=>?_;refine gB h ?_ ?_ <;> intro _ h
   · refine go ?_;cases oi h;exact B.po [0,1,2,3,4]
   refine gb h fun be ah h=>?_;obtain ⟨aQ,aW,aD,rfl,C,aE,aH,⟨aN,aT,aO,aU,aP,aV,rfl,aK,aL,aM⟩,ad⟩:=a.idx ah;refine go ?_;refine LW.l (iF.iN w0 iY rfl (ad 1 _ rfl)) (B.same _ C.1 C.2) rfl ?_;refine go ?_;cases oi h;exact B.po [0,1,2,3,4]
 intro e a4 c;have h:=aq;refine gc h ?_ ?_ <;> intro _ h
 · refine go ?_;refine LW.st c 3 fun a5 u=>?_;refine go ?_;cases h;exact And.intro trivial ⟨_,jB.one (ib.b u 3 rfl pc rfl rfl),M,R,O,U,rfl,u.pk [1,2]⟩
 refine gs ?_;obtain ⟨Z,ac,ar⟩:=ob h;refine CW.cut (fun e wb=>En e [(4,.pointer (some ⟨ap,0,none⟩)),(5,.pointer (some ⟨X,0,none⟩))]∧St w0 [] wb [bx X 32 [vS M Z.length R,vI f.gc.phase,vI f.gc.pos,vI f.gc.round,vS O f.gc.ia.length U],sl M R Z,sl O U f.gc.ia,bx ap 32 [vS none 0 0,vI 0,vI 0,vI 0,vS none 0 0]]) ?_ ?_
 · have h:=ac;refine gB h ?_ ?_ <;> intro _ h
   · refine gb h fun bf G h=>?_;obtain ⟨aR,aX,hae,aF,aI⟩:=c.iJ (α:=bh) (i:=1) rfl G;subst hae;refine go ?_;refine gb h fun aB H h=>?_;refine LW.se 9 c 1 G H (hM:=(j7 (fun w cs F hF=>by obtain ⟨ai,am,aj,an,ak,ao,rfl,hH⟩:=hF;exact ⟨ai,am,aj,an,ak,ao,rfl,hH⟩))) fun a7 x=>?_;refine go ?_;rw [show f.ag.length=aB.length from (iH (oi H))] at x;cases oi h;exact x.po [0,1,2,3]
   refine gb h fun bg I h=>?_;obtain ⟨aS,aY,hae,aG,aJ⟩:=c.iJ (α:=bh) (i:=1) rfl I;subst hae;refine go ?_;refine gb h fun aC J h=>?_;refine LW.se 9 c 1 I J (hM:=(j7 (fun w cs F hF=>by obtain ⟨ai,am,aj,an,ak,ao,rfl,hH⟩:=hF;exact ⟨ai,am,aj,an,ak,ao,rfl,hH⟩))) fun a9 y=>?_;refine go ?_;rw [show f.ag.length=aC.length from (iH (oi J))] at y;cases oi h;exact y.po [0,1,2,3]
 rintro e ba ⟨hE,aa⟩;obtain ⟨e,rfl⟩:=hE.out;have h:=ar;refine go ?_;refine LW.st aa 3 fun bb z=>?_;refine go ?_;cases h;exact And.intro trivial ⟨_,jB.one (ib.b z 3 rfl pc rfl rfl),M,R,O,U,rfl,z.pk [1,2]⟩
theorem wG {w0 N a ab r} (h:nM N a ab=some r) {l u n} (y:u=a.ag.length) (j:rb w0 l n a.ag) {m x o} (z:x=a.gc.ia.length) (k:rb w0 m o a.gc.ia) :
    il Tryz.prog 255 #[.agg #[vS l u n,vI a.gc.phase,vI a.gc.pos,vI a.gc.round,vS m x o],vI ab] w0 (fun v w=>∃ c f, ∃ d g,v=.agg #[vS c r.ag.length f,vI r.gc.phase,vI r.gc.pos,vI r.gc.round,vS d r.gc.ia.length g]∧St w0 [] w [sl c f r.ag,sl d g r.gc.ia]):=by
 subst y z;unfold nM at h;refine il.fn Tryz.func255 fun e=>?_;have U:=St.start w0;refine go ?_;refine LW.bo U fun ay aA V=>?_;refine LW.al V fun az aB t=>?_;refine gb h fun aC Z h=>?_;refine LW.cl (sQ Z rfl (t.rB j) rfl (t.rB k)) ?_;rintro _ aj ⟨ac,ae,ad,af,rfl,hs⟩;have W:=t.add hs;refine LW.al W fun ai ak X=>?_;refine LW.st X 0 fun am i=>?_;refine gs ?_;obtain ⟨aa,G,R⟩:=ob h;refine CW.jn [1,4,5] [0,1,2,3] [(15,.bool aa)] i (h1:=?_) (h2:=?_)
 · have h:=G;refine gb h fun av H h=>?_;refine LW.c0 (tu H rfl (i.rB j) rfl (i.rB k)) i fun an A=>?_;refine gB h ?_ ?_ <;> intro _ h
   · refine go ?_;cases oi h;exact A.po [0,1,2,3]
   refine gb h fun aw I h=>?_;refine go ?_;refine LW.c0 (nq I) A fun ao Y=>?_;refine go ?_;cases oi h;exact Y.po [0,1,2,3]
 intro e ap B;have h:=R;refine gc h ?_ ?_ <;> intro _ h
 · refine go ?_;refine LW.st B 3 fun aq q=>?_;refine go ?_;cases h;exact And.intro trivial ⟨_,jB.one (ib.b q 3 rfl pc rfl rfl),ac,ae,ad,af,rfl,q.pk [1,2]⟩
 refine gb h fun ax J h=>?_;obtain ⟨ah,p⟩:=B.ik [1,2] [0,3];refine LW.cl (wg J rfl rfl p.st) ?_;rintro _ ar ⟨K,M,L,O,rfl,hs⟩;have C:=p.back _ _ hs;refine LW.st C 3 fun au s=>?_;refine go ?_;cases h;exact And.intro trivial ⟨_,jB.one (ib.b s 3 rfl pc rfl rfl),K,M,L,O,rfl,s.pk [0,1]⟩
theorem vM {w0 N a M r} (h:rM N a M=some r) {b p j} (y:p=a.label.levels.length) (O:rb w0 b j a.label.levels) {c q k} (z:q=a.own.length) (R:rb w0 c k a.own) {d s l} (A:s=a.tree.length) (H:rb w0 d l a.tree) {f t m} (B:t=a.heap.ag.length) (U:rb w0 f m a.heap.ag) {g u n} (C:u=a.heap.gc.ia.length) (V:rb w0 g n a.heap.gc.ia) {i x o} (G:x=a.ic.length) (W:rb w0 i o a.ic) :
    il Tryz.prog 15 #[.agg #[vS b p j,vS c q k,vS d s l,vS f t m,vI a.heap.gc.phase,vI a.heap.gc.pos,vI a.heap.gc.round,vS g u n,vS i x o,vI a.next,vI a.want,vI a.dW.cd,vI a.dW.ij,vI a.dW.iD,vI a.iz,vI a.lost],vI M] w0 (fun v w=>v=vI r∧St w0 [] w []):=by
 subst y z A B C G;unfold rM at h;refine il.fn Tryz.func15 fun e=>?_;have K:=St.start w0;refine go ?_;refine LW.bo K fun X Y I=>?_;refine gb h fun aa L h=>?_;refine LW.c0 (sa L rfl (I.rB H)) I fun Z J=>?_;refine gc h ?_ ?_ <;> intro _ h
 · refine go ?_;cases h;exact fi J
 refine go ?_;cases h;exact fi J
theorem An {w0 N az aM R r} (h:pU N az aM R=some r) {q K t} (O:K=az.length) (a:rb w0 q t az) :
    il Tryz.prog 92 #[vS q K t,vI aM,.agg #[vI R.cd,vI R.ij,vI R.iD]] w0 (fun v w=>∃ V W,v=.tuple #[vS V r.1.length W,.bool r.2]∧St w0 [] w [sl V W r.1]):=by
 subst O;unfold pU at h;refine il.fn Tryz.func92 fun e=>?_;have aF:=St.start w0;refine go ?_;refine LW.bo aF fun bt bu X=>?_;refine gb h fun U aJ h=>?_;refine LW.cl (nm aJ rfl (X.rB a)) ?_;rintro _ bv ⟨M,f,rfl,hs⟩;have Y:=X.add hs;refine gb h fun bz aK h=>?_;refine LW.c0 (u7 aK rfl (Y.rB a)) Y fun bw z=>?_;refine gc h ?_ ?_ <;> intro _ h
 · refine go ?_;cases h;exact Rc tt tt ⟨M,f,rfl,z.pk [0]⟩
 refine gs ?_;obtain ⟨aL,aq,aC⟩:=ob h;refine CW.jn [0,1,5,8] [0,1] [(10,.bool aL)] z (h1:=?_) (h2:=?_)
 · have h:=aq;refine CW.draw (by kernel_rfl) ?_;have A:=z.drew;refine gb h fun bl B h=>?_;refine AW.all (rs:=[1,7]) (by kernel_rfl) (by simp) ⟨?_,?_,trivial⟩
   · refine ⟨_,rfl,?_⟩;refine LW.cl (vP B rfl (A.rB a)) ?_;rintro _ aX ⟨rfl,hs⟩;have Z:=A.add hs;refine jn ?_;have ⟨bm,C,h⟩:=ob h;refine AW.all (rs:=[3,7]) (by kernel_rfl) (by simp) ⟨?_,?_,trivial⟩
     · refine ⟨_,rfl,?_⟩;refine LW.cl (ly C) ?_;rintro _ aY ⟨rfl,hs⟩;have aG:=Z.add hs;refine jn ?_;refine AW.u (i:=4) rfl (by kernel_rfl) rfl rfl (iC.p rfl) ?_;refine go ?_;refine jO 7 ?_;refine LW.al aG fun aT aZ aH=>?_;refine jn ?_;refine jO 8 ?_;refine LW.st aH 0 fun a0 aI=>?_;refine jn ?_;refine go ?_;cases oi h;exact aI.po [1,2]
     refine ⟨_,rfl,?_⟩;refine LW.al Z fun aU a1 ac=>?_;refine jn ?_;refine jO 3 ?_;refine LW.cl (ly C) ?_;rintro _ a2 ⟨rfl,hs⟩;have ad:=ac.add hs;refine jn ?_;refine go ?_;refine jO 8 ?_;refine LW.st ad 0 fun a3 ae=>?_;refine jn ?_;refine go ?_;cases oi h;exact ae.po [1,2]
   refine ⟨_,rfl,?_⟩;refine LW.al A fun aV a5 x=>?_;refine jn ?_;refine jO 1 ?_;refine LW.cl (vP B rfl (x.rB a)) ?_;rintro _ a6 ⟨rfl,hs⟩;have af:=x.add hs;refine jn ?_;have ⟨bn,aw,h⟩:=ob h;refine jO 3 ?_;refine LW.cl (ly aw) ?_;rintro _ a7 ⟨rfl,hs⟩;have ah:=af.add hs;refine jn ?_;refine go ?_;refine jO 8 ?_;refine LW.st ah 0 fun a8 ai=>?_;refine jn ?_;refine go ?_;cases oi h;exact ai.po [1,2]
 intro e a9 g;have h:=aC;refine gc h ?_ ?_ <;> intro _ h
 · refine go ?_;cases h;exact Rc tt tt ⟨M,f,rfl,g.pk [0]⟩
 refine gb h fun bp ax h=>?_;refine LW.c0 (sa ax rfl (g.rB a)) g fun ba k=>?_;refine gs ?_;obtain ⟨aa,ar,aD⟩:=ob h;refine CW.jn [0,5,8] [0,1] [(1,vI aa)] k (h1:=?_) (h2:=?_)
 · have h:=ar;refine CW.fl [0,1,5,8,32] fun e=>?_;refine gc h ?_ ?_ <;> intro _ h
   · refine go ?_;cases oi h;exact k.po [0,1]
   refine go ?_;cases oi h;exact k.po [0,1]
 intro e bb aj;have h:=aD;refine gs ?_;obtain ⟨J,au,aE⟩:=ob h;refine CW.cut (fun e wb=>∃ (d:Nat),En e [(1,vI aa),(8,vS M U.length f),(11,.pointer (some ⟨d,0,none⟩))]∧St w0 [] wb [sl M f U,bx d 35 [vI J.1,vI J.2.1,vI J.2.2]]) ?_ ?_
 · have h:=au;refine CW.draw (by kernel_rfl) ?_;have l:=aj.drew;refine gb h fun bq ay h=>?_;obtain ⟨aS,aW,aN,rfl,b,aO,aQ,rfl,av⟩:=a.idx ay;refine go ?_;refine AW.take (i:=4) rfl (by kernel_rfl) rfl rfl (iF.jF w0 km rfl rfl (fun j u hu=>lW (m:=3) av 2 hu)) (l.same _ b.1 b.2) ?_;refine gb h fun br G h=>?_;refine AW.all (rs:=[6,10]) (by kernel_rfl) (by simp) ⟨?_,?_,trivial⟩
   · refine ⟨_,rfl,?_⟩;refine LW.cl (ly G) ?_;rintro _ bc ⟨rfl,hs⟩;have ak:=l.add hs;refine jn ?_;refine AW.u (i:=7) rfl (by kernel_rfl) rfl rfl (iC.p rfl) ?_;refine go ?_;refine jO 10 ?_;refine LW.al ak fun aA bd n=>?_;refine jN (.c (n.ce 2) (.c (n.same _ b.1 b.2) jZ)) ?_;refine jO 11 ?_;refine LW.st n 0 fun be am=>?_;refine jn ?_;refine go ?_;cases oi h;exact ⟨aA,am.po [1,0]⟩
   refine ⟨_,rfl,?_⟩;refine LW.al l fun aB bf o=>?_;refine jN (.c (o.ce 2) (.c (o.same _ b.1 b.2) jZ)) ?_;refine jO 6 ?_;refine LW.cl (ly G) ?_;rintro _ bg ⟨rfl,hs⟩;have an:=o.add hs;refine jn ?_;refine go ?_;refine jO 11 ?_;refine LW.st an 0 fun bi ao=>?_;refine jn ?_;refine go ?_;cases oi h;exact ⟨aB,ao.po [1,0]⟩
 rintro e bj ⟨d,hE,y⟩;obtain ⟨e,rfl⟩:=hE.out;have h:=aE;refine gb h fun bs H h=>?_;obtain ⟨s,L,hae,aP,aR⟩:=y.iJ (α:=iy) (i:=0) rfl H;subst hae;refine go ?_;refine gb h fun ab I h=>?_;refine LW.se 2 y 0 H I (hM:=(j7 (fun w cs F hF=>by obtain ⟨rfl,rfl⟩:=hF;exact ⟨rfl,rfl⟩))) fun bk ap=>?_;refine go ?_;replace h:=oi h;subst h;exact Rc tt tt ⟨(some ⟨s,L,none⟩),f,(show (.tuple #[vS (some ⟨s,L,none⟩) U.length f,.bool true]:Value)=.tuple #[vS (some ⟨s,L,none⟩) ab.length f,.bool true] by rw [show U.length=ab.length from (iH (oi I))]),ap.pk [0]⟩
theorem vH {w0 N aK af r} (h:n5 N aK af=some r) {B ac C} (ae:ac=aK.length) (d:rb w0 B C aK) :
    il Tryz.prog 259 #[vS B ac C,vI af] w0 (fun v w=>∃ ah ai,v=.tuple #[vS ah r.1.length ai,.bool r.2]∧St w0 [] w [sl ah ai r.1]):=by
 subst ae;unfold n5 at h;refine il.fn Tryz.func259 fun e=>?_;have aj:=St.start w0;refine gb h fun ad aT h=>?_;refine LW.cl (nm aT rfl (aj.rB d)) ?_;rintro _ bO ⟨aq,k,rfl,hs⟩;have I:=aj.add hs;refine gs ?_;obtain ⟨bc,aS,a0⟩:=ob h;refine CW.jn [0,1,6] [0] [(20,.bool bc)] I (h1:=?_) (h2:=?_)
 · have h:=aS;refine gb h fun bQ aU h=>?_;refine LW.c0 (sa aU rfl (I.rB d)) I fun bP ak=>?_;refine gB h ?_ ?_ <;> intro _ h
   · refine go ?_;cases oi h;exact ak.po [0]
   refine go ?_;cases oi h;exact ak.po [0]
 intro e bs J;have h:=a0;refine gc h ?_ ?_ <;> intro _ h
 · refine go ?_;cases h;exact Rc tt tt ⟨aq,k,rfl,J.pk [0]⟩
 refine gb h fun an aI h=>?_;obtain ⟨be,bl,aX,rfl,a,a1,a7,rfl,O⟩:=d.idx aI;refine go ?_;refine LW.l (iF.iN w0 iY rfl (O 1 _ rfl)) (J.same _ a.1 a.2) rfl ?_;refine gs ?_;obtain ⟨ab,aC,aN⟩:=ob h;refine CW.cut (fun e wb=>∃ (t:Nat),En e [(1,vI af),(6,vS aq ad.length k),(7,vI an.parent),(8,.pointer (some ⟨t,0,none⟩))]∧St w0 [] wb [sl aq k ad,bx t 35 [vI ab.1,vI ab.2.1,vI ab.2.2]]) ?_ ?_
 · have h:=aC;refine CW.draw (by kernel_rfl) ?_;have A:=J.drew;refine gb h fun bI aJ h=>?_;obtain ⟨bf,bm,aY,hae,b,a3,a8,aA,aE⟩:=d.idx aJ;cases hae;obtain rfl:=aA;refine go ?_;refine AW.take (i:=4) rfl (by kernel_rfl) rfl rfl (iF.jF w0 km rfl rfl (fun j u hu=>lW (m:=3) aE 2 hu)) (A.same _ b.1 b.2) ?_;refine go ?_;refine AW.take (i:=9) rfl (by kernel_rfl) rfl rfl (iF.jF w0 km rfl rfl (fun j u hu=>lW (m:=3) O 2 hu)) (A.same _ a.1 a.2) ?_;have ⟨bJ,U,h⟩:=ob h;refine AW.all (rs:=[10,14]) (by kernel_rfl) (by simp) ⟨?_,?_,trivial⟩
   · refine ⟨_,rfl,?_⟩;refine LW.cl (ly U) ?_;rintro _ bt ⟨rfl,hs⟩;have aQ:=A.add hs;refine jn ?_;refine AW.u (i:=11) rfl (by kernel_rfl) rfl rfl (iC.p rfl) ?_;refine go ?_;refine jO 14 ?_;refine LW.al aQ fun aL bu K=>?_;refine jN (.c (K.same _ a.1 a.2) (.c (K.same _ b.1 b.2) jZ)) ?_;refine jO 15 ?_;refine LW.st K 0 fun bv aR=>?_;refine jn ?_;refine go ?_;cases oi h;exact ⟨aL,aR.po [1,0]⟩
   refine ⟨_,rfl,?_⟩;refine LW.al A fun aM bw L=>?_;refine jN (.c (L.same _ a.1 a.2) (.c (L.same _ b.1 b.2) jZ)) ?_;refine jO 10 ?_;refine LW.cl (ly U) ?_;rintro _ bz ⟨rfl,hs⟩;have ar:=L.add hs;refine jn ?_;refine go ?_;refine jO 15 ?_;refine LW.st ar 0 fun bA au=>?_;refine jn ?_;refine go ?_;cases oi h;exact ⟨aM,au.po [1,0]⟩
 rintro e bB ⟨t,hE,G⟩;obtain ⟨e,rfl⟩:=hE.out;have h:=aN;refine gb h fun bK V h=>?_;obtain ⟨f,g,hae,a4,a9⟩:=G.iJ (α:=iy) (i:=0) rfl V;subst hae;refine go ?_;refine gb h fun aW z h=>?_;refine LW.se 2 G 0 V z (hM:=(j7 (fun w cs F hF=>by obtain ⟨rfl,rfl⟩:=hF;exact ⟨rfl,rfl⟩))) fun bC H=>?_;refine go ?_;refine LW.u (iC.build (vs:=[]) (cs:=#[.bool false,vI 0,vI 0,vI 0,vI 0]) rfl (by kernel_rfl)) rfl ?_;have ⟨bL,W,h⟩:=ob h;obtain ⟨bg,bn,hae,aG,aH⟩:=H.iJ (α:=iy) (i:=0) rfl W;cases hae;(try refine LW.u (iC.ix Tryz.underlying27 CP rfl rfl aG (by rw [show ad.length=aW.length from (iH (oi z))];exact aH)) rfl ?_);have ⟨ao,X,h⟩:=ob h;refine LW.se 0 H 0 W X (hM:=sm) fun bD av=>?_;refine go ?_;obtain ⟨br,aF,aP⟩:=ob h;refine CW.ie aF 0 (fun n e wb=>En e [(1,vI af),(6,vS (some ⟨f,g,none⟩) n.1.length k),(7,vI an.parent),(10,vI n.2)]∧St w0 [] wb [sl (some ⟨f,g,none⟩) k n.1]) ?_ ⟨⟨rfl,(show (vS (some ⟨f,g,none⟩) ad.length k:Value)=vS (some ⟨f,g,none⟩) ao.length k by rw [show ad.length=ao.length from ((iH (oi z)).trans (iH (oi X)))]),rfl,rfl,trivial⟩,av.pk [0]⟩ ?_
 · intro n e am o hM h;obtain ⟨e,rfl,q⟩:=eo hM;refine go ?_;refine CW.fl [1,6,7,10,53] fun e=>?_;refine gc h ?_ ?_ <;> intro _ h
   · refine gs ?_;refine CW.block ?_;refine gs ?_;obtain ⟨aV,aD,aO⟩:=ob h;refine CW.jn [1,6,7,10] [0] [(69,.bool aV)] q (h1:=?_) (h2:=?_)
     · have h:=aD;refine gb h fun bM Y h=>?_;obtain ⟨bi,bo,hae,a5,ba⟩:=q.iJ (α:=iy) (i:=0) rfl Y;cases hae;refine go ?_;obtain ⟨bd,y,s⟩:=q.freeze (α:=iy) 0 rfl;obtain ⟨bj,bp,aZ,hae,M,_,_,aB,R⟩:=y.jX.idx Y;cases hae;obtain rfl:=aB;refine LW.l (iF.iN am pd rfl (R 0 _ rfl)) (s.zC 0 rfl M) rfl ?_;refine gB h ?_ ?_ <;> intro _ h
       · refine go ?_;refine LW.l (iF.iN am iY rfl (R 1 _ rfl)) (s.zC 0 rfl M) rfl ?_;refine go ?_;have aw:=s.jf (α:=iy) 0 rfl y;cases oi h;exact aw.po [0]
       refine go ?_;have ax:=s.jf (α:=iy) 0 rfl y;cases oi h;exact ax.po [0]
     intro e bE x;have h:=aO;refine gc h ?_ ?_ <;> intro _ h
     · refine gb h fun bN Z h=>?_;obtain ⟨bk,bq,hae,a6,bb⟩:=x.iJ (α:=iy) (i:=0) rfl Z;cases hae;refine go ?_;refine gb h fun ap aa h=>?_;refine LW.se 1 x 0 Z aa (hM:=(j7 (fun w cs F hF=>by obtain ⟨rfl,rfl⟩:=hF;exact ⟨rfl,rfl⟩))) fun bF ay=>?_;refine go ?_;replace h:=oi h;subst h;exact ⟨rfl,⟨⟨rfl,(show (vS (some ⟨f,g,none⟩) n.1.length k:Value)=vS (some ⟨f,g,none⟩) ap.length k by rw [show n.1.length=ap.length from (iH (oi aa))]),rfl,rfl,trivial⟩,ay.pk [0]⟩⟩
     refine go ?_;cases oi h;exact ⟨rfl,(x.po [0])⟩
   refine go ?_;cases oi h;exact ⟨trivial,rfl,(q.po [0])⟩
 rintro e bG ⟨hE,az⟩;obtain ⟨e,rfl⟩:=hE.out;have h:=aP;refine go ?_;cases h;exact Rc tt tt ⟨(some ⟨f,g,none⟩),k,rfl,az.pk [0]⟩
theorem u5 {w0 N c r} (h:oq N c=some r) {f t i} (A:t=c.ag.length) (C:rb w0 f i c.ag) {g y j} (B:y=c.gc.ia.length) (b:rb w0 g j c.gc.ia) :
    il Tryz.prog 153 #[.agg #[vS f t i,vI c.gc.phase,vI c.gc.pos,vI c.gc.round,vS g y j]] w0 (fun v w=>v=.bool r∧St w0 [] w []):=by
 subst A B;unfold oq at h;refine il.fn Tryz.func153 fun e=>?_;have aj:=St.start w0;refine go ?_;refine LW.bo aj fun aT aU ak=>?_;refine go ?_;obtain ⟨J,X,G⟩:=ob h;refine CW.mono (CW.lx [1,9,10] [0] [1] 0 (fun ar=>[(11,vI ar)]) (RT Tryz.prog Tryz.f153.results (fun u=>.bool u) w0 []) ak X (hb:=?_)) ?_
 · intro ar e aV o d h;refine gc h ?_ ?_ <;> intro _ h
   · refine gb h fun aW an h=>?_;obtain ⟨aS,az,au,rfl,q,ax,ay,rfl,W⟩:=b.idx an;refine go ?_;refine LW.l (iF.iN w0 iY rfl (W 0 _ rfl)) (d.same _ q.1 q.2) rfl ?_;refine gs ?_;obtain ⟨ao,R,af⟩:=ob h;refine CW.jn [1,9,10,11] [0] [(27,.bool ao)] d (h1:=?_) (h2:=?_)
     · have h:=R;refine gb h fun aL Z h=>?_;refine LW.c0 (qf Z) d fun aB m=>?_;refine gB h ?_ ?_ <;> intro _ h
       · refine go ?_;cases oi h;exact m.po [0]
       refine gb h fun aM s h=>?_;obtain ⟨av,aw,M,O,Y⟩:=iO.rX b s;have z:=(b).le;refine go ?_;refine LW.u (iC.sub (α:=Int) (l:=c.gc.ia) Tryz.underlying24 BY rfl r8 (rU rfl) s z M O) rfl ?_;refine go ?_;have ⟨aN,aa,h⟩:=ob h;refine go ?_;refine LW.c0 (mZ aa rfl (m.rB Y)) m fun aC am=>?_;refine go ?_;cases oi h;exact am.po [0]
     intro e aD H;have h:=af;refine go ?_;refine CW.fl [1,9,10,11,27] fun e=>?_;refine gc h ?_ ?_ <;> intro _ h
     · refine go ?_;cases oi h;exact ⟨trivial,rfl,_,rfl,rx ⟨rfl,H.pk []⟩⟩
     refine go ?_;cases oi h;exact ⟨rfl,(H.po [0])⟩
   refine go ?_;cases oi h;exact ⟨trivial,rfl,(d.po [0])⟩
 intro x e aE hM;rcases J with J | aA
 · obtain ⟨rfl,hM⟩:=hM;obtain ⟨e,rfl,n⟩:=eo hM;have h:=G;refine gs ?_;obtain ⟨ap,U,ah⟩:=ob h;refine CW.jn [1] [0] [(5,.bool ap)] n (h1:=?_) (h2:=?_)
   · have h:=U;refine gB h ?_ ?_ <;> intro _ h
     · refine go ?_;cases oi h;exact n.po [0]
     refine go ?_;cases oi h;exact n.po [0]
   intro e aF p;have h:=ah;refine gs ?_;obtain ⟨aq,V,ai⟩:=ob h;refine CW.jn [1,5] [0] [(6,.bool aq)] p (h1:=?_) (h2:=?_)
   · have h:=V;refine gB h ?_ ?_ <;> intro _ h
     · refine gb h fun aO ab h=>?_;refine go ?_;refine LW.c0 (qf ab) p fun aG I=>?_;refine gB h ?_ ?_ <;> intro _ h
       · refine go ?_;cases oi h;exact I.po [0]
       refine go ?_;cases oi h;exact I.po [0]
     refine go ?_;cases oi h;exact p.po [0]
   intro e aH k;have h:=ai;refine gb h fun aP ac h=>?_;refine LW.c0 (sU ac rfl (k.rB C)) k fun aI a=>?_;refine gB h ?_ ?_ <;> intro _ h
   · refine gB h ?_ ?_ <;> intro _ h
     · refine gb h fun aQ ad h=>?_;refine go ?_;refine LW.c0 (mA ad) a fun aJ K=>?_;refine go ?_;cases h;exact fi K
     refine gB h ?_ ?_ <;> intro _ h
     · refine gb h fun aR ae h=>?_;refine go ?_;refine LW.c0 (mA ae) a fun aK L=>?_;refine go ?_;cases h;exact fi L
     refine go ?_;cases h;exact fi a
   refine go ?_;cases h;exact fi a
 obtain ⟨rfl,u,rfl,hM⟩:=hM;cases G;exact And.intro trivial hM
theorem BR {w0 N a aS r} (h:qK N a aS=some r) {g U q} (aa:U=a.label.levels.length) (ah:rb w0 g q a.label.levels) {j V s} (ab:V=a.own.length) (ai:rb w0 j s a.own) {k W t} (ac:W=a.tree.length) (aj:rb w0 k t a.tree) {m X u} (ad:X=a.heap.ag.length) (z:rb w0 m u a.heap.ag) {n Y x} (ae:Y=a.heap.gc.ia.length) (ak:rb w0 n x a.heap.gc.ia) {p Z y} (af:Z=a.ic.length) (am:rb w0 p y a.ic) :
    il Tryz.prog 64 #[.agg #[vS g U q,vS j V s,vS k W t,vS m X u,vI a.heap.gc.phase,vI a.heap.gc.pos,vI a.heap.gc.round,vS n Y x,vS p Z y,vI a.next,vI a.want,vI a.dW.cd,vI a.dW.ij,vI a.dW.iD,vI a.iz,vI a.lost],vI aS] w0 (fun v w=>∃ an ao,v=vS an r.length ao∧St w0 [] w [sl an ao r]):=by
 subst aa ab ac ad ae af;unfold qK at h;refine il.fn Tryz.func64 fun e=>?_;have aJ:=St.start w0;refine go ?_;refine LW.bo aJ fun ap br aK=>?_;refine go ?_;refine LW.jL (α:=Int) (vs:=[]) (cs:=#[]) (l:=([]:List Int)) rfl (by kernel_rfl) rfl rfl rfl (fun w=>rfl) aK rfl ?_;intro aD aF bs d hf;refine gb h fun bu aO h=>?_;refine LW.c0 (yk aO rfl (d.rB ah) rfl (d.rB ai) rfl (d.rB aj) rfl (d.rB z) rfl (d.rB ak) rfl (d.rB am)) d fun bt K=>?_;refine gc h ?_ ?_ <;> intro _ h
 · refine go ?_;cases h;exact Ra ⟨aD,aF,rfl,K.pk [0]⟩
 refine gb h fun aC aP h=>?_;refine LW.cl (yU aP rfl (K.rB z)) ?_;rintro _ bj ⟨H,I,rfl,hs⟩;have aL:=K.add hs;refine go ?_;obtain ⟨bg,az,aI⟩:=ob h;refine CW.ie az 0 (fun f e wb=>∃ (b:Ad) (c:Nat),En e [(2,.pointer (some ⟨ap,0,none⟩)),(5,vS b f.1.length c),(6,vS H aC.length I),(7,vI f.2)]∧St w0 [] wb [sl H I aC,sl b c f.1,bx ap 37 (qP g q j s k t m u n x p y a)]) ?_ ⟨aD,aF,aL.po [0,1,2]⟩ ?_
 · intro f e aR o hM h;obtain ⟨b,c,hE,B⟩:=hM;obtain ⟨e,rfl⟩:=hE.out;refine go ?_;refine CW.fl [2,5,6,7,21] fun e=>?_;refine gc h ?_ ?_ <;> intro _ h
   · refine gs ?_;refine CW.block ?_;refine gs ?_;obtain ⟨aQ,aw,aH⟩:=ob h;refine CW.jn [2,5,6,7] [0,1,2] [(37,.bool aQ)] B (h1:=?_) (h2:=?_)
     · have h:=aw;refine gb h fun bn R h=>?_;obtain ⟨a7,bd,hae,aV,aX⟩:=B.iJ (α:=Bool) (i:=0) rfl R;subst hae;refine go ?_;obtain ⟨a2,A,C⟩:=B.freeze (α:=Bool) 0 rfl;obtain ⟨a8,be,aT,hae,au,_,_,av,ax⟩:=A.jX.idx R;cases hae;obtain rfl:=av;refine LW.l (iF.iN aR pd rfl (ax 0 _ rfl)) (C.zC 0 rfl au) rfl ?_;refine gB h ?_ ?_ <;> intro _ h
       · refine gb h fun bp aA h=>?_;obtain ⟨a9,bf,aU,rfl,O,aW,aY,⟨a4,ba,a5,bb,a6,bc,rfl,aZ,a0,a1⟩,ay⟩:=z.idx aA;refine go ?_;refine LW.l (iF.iN w0 iY rfl (ay 1 _ rfl)) (C.same _ O.1 O.2) rfl ?_;refine go ?_;have aM:=C.jf (α:=Bool) 0 rfl A;cases oi h;exact aM.po [0,1,2]
       refine go ?_;have aN:=C.jf (α:=Bool) 0 rfl A;cases oi h;exact aN.po [0,1,2]
     intro e bk J;have h:=aH;refine gc h ?_ ?_ <;> intro _ h
     · refine gb h fun bq aB h=>?_;refine LW.kV (M:=[]) (L:=[sl H I aC,sl b c f.1,bx ap 37 (qP g q j s k t m u n x p y a)]) (vs:=#[vI f.2]) (i:=1) lL rfl (by kernel_rfl) rfl rfl aB J rfl (fun w G hG=>by cases (show G=[] from hG);exact ⟨rfl,rfl⟩) rfl rfl ?_;intro bi aE aG bl aq hf;refine go ?_;cases oi h;exact ⟨rfl,⟨aE,aG,aq.po [0,1,2]⟩⟩
     refine go ?_;cases oi h;exact ⟨rfl,⟨b,c,J.po [0,1,2]⟩⟩
   refine go ?_;cases oi h;exact ⟨trivial,rfl,⟨b,c,B.po [0,1,2]⟩⟩
 rintro e bm ⟨b,c,hE,ar⟩;obtain ⟨e,rfl⟩:=hE.out;have h:=aI;refine go ?_;cases h;exact Ra ⟨b,c,rfl,ar.pk [1]⟩
theorem vT {w0 N O ab ac ad r} (h:nR N O ab ac ad=some r) {j t k} (u:t=O.length) (b:rb w0 j k O) :
    il Tryz.prog 189 #[vS j t k,vI ab,vI ac,vI ad] w0 (fun v w=>v=vI r∧St w0 [] w []):=by
 subst u;unfold nR at h;refine il.fn Tryz.func189 fun e=>?_;have l:=St.start w0;refine gs ?_;refine CW.region ?_;refine gs ?_;obtain ⟨ap,V,h2⟩:=ob h;refine CW.jn [0,1,3] [] [(23,.bool ap)] l (h1:=?_) (h2:=?_)
 · have h:=V;refine gb h fun aT W h=>?_;refine LW.c0 (nF W rfl (l.rB b)) l fun aR x=>?_;refine gB h ?_ ?_ <;> intro _ h
   · refine go ?_;cases oi h;exact x.po []
   refine gb h fun aU X h=>?_;refine go ?_;refine LW.c0 (lY X) x fun aS y=>?_;refine gB h ?_ ?_ <;> intro _ h
   · refine go ?_;cases oi h;exact y.po []
   refine gb h fun aV Y h=>?_;refine go ?_;refine LW.c0 (uR Y) y fun aH U=>?_;refine go ?_;cases oi h;exact U.po []
 intro e aI z;have h:=h2;refine gc h ?_ ?_ <;> intro _ h
 · refine go ?_;cases h;exact fi z
 refine gb h fun aM J h=>?_;refine LW.c0 (yt J) z fun aJ A=>?_;refine gs ?_;obtain ⟨Z,G,R⟩:=ob h;refine CW.jn [9] [] [(50,.bool Z)] A (h1:=?_) (h2:=?_)
 · have h:=G;refine CW.draw (by kernel_rfl) ?_;have f:=A.drew;refine gb h fun aN K h=>?_;obtain ⟨ax,aE,ae,rfl,a,ah,aj,⟨ar,aA,au,aB,av,aC,rfl,am,an,ao⟩,q⟩:=b.idx K;refine go ?_;refine AW.take (i:=4) rfl (by kernel_rfl) rfl rfl (iF.iN w0 iY rfl (q 1 _ rfl)) (f.same _ a.1 a.2) ?_;refine gB h ?_ ?_ <;> intro o h
   · refine go ?_;cases oi h;exact f.po []
   refine go ?_;refine AW.take (i:=11) rfl (by kernel_rfl) (jS rfl rfl o) rfl (iF.iN w0 iY rfl (q 0 _ rfl)) (f.same _ a.1 a.2) ?_;refine gb h fun aO L h=>?_;refine jO 13 ?_;refine (LW.gY (jS rfl rfl o) ?_);refine LW.cl (zS L) ?_;rintro _ aK ⟨rfl,hs⟩;have d:=f.add hs;refine jN (.c (d.same _ a.1 a.2) (.c (d.same _ a.1 a.2) jZ)) ?_;refine gB h ?_ ?_ <;> intro p h
   · refine go ?_;cases oi h;exact d.po []
   refine gb h fun aP M h=>?_;refine jO 19 ?_;refine (LW.gY (jS rfl rfl p) ?_);refine LW.cl (yU M rfl (d.rB b)) ?_;rintro _ aa ⟨aw,aD,rfl,hs⟩;have g:=d.add hs;refine jN (.c (g.same _ a.1 a.2) (.c (g.same _ a.1 a.2) jZ)) ?_;have ⟨aQ,s,h⟩:=ob h;obtain ⟨ay,aF,hae,ai,ak⟩:=g.iJ (α:=Bool) (i:=0) rfl s;subst hae;refine go ?_;obtain ⟨aq,I,m⟩:=g.freeze (α:=Bool) 0 rfl;obtain ⟨az,aG,af,hae,B,_,_,C,H⟩:=I.jX.idx s;cases hae;obtain rfl:=C;refine AW.take (i:=22) rfl (by kernel_rfl) (jS rfl rfl p) rfl (iF.iN aa pd rfl (H 0 _ rfl)) (m.zC 0 rfl B) ?_;refine go ?_;cases oi h;exact m.po []
 intro e aL n;have h:=R;refine gc h ?_ ?_ <;> intro _ h
 · refine go ?_;cases h;exact fi n
 refine go ?_;cases h;exact fi n
theorem vv {w0 N X G a r} (h:m9 N X G a=some r) {k A n} (C:A=X.length) (b:rb w0 k n X) :
    il Tryz.prog 256 #[vS k A n,vI G,.agg #[vI a.cd,vI a.ij,vI a.iD]] w0 (fun v w=>∃ c d,v=.tuple #[vS c r.1.length d,vI r.2.1,.bool r.2.2]∧St w0 [] w [sl c d r.1]):=by
 subst C;unfold m9 at h;refine il.fn Tryz.func256 fun e=>?_;have ab:=St.start w0;refine go ?_;refine LW.bo ab fun aD aE I=>?_;refine gb h fun ak ah h=>?_;refine LW.cl (sR ah rfl (I.rB b)) ?_;rintro _ aF ⟨aC,L,rfl,hs⟩;have q:=I.add hs;refine go ?_;refine CW.fl [0,1,5,9,20] fun e=>?_;refine gc h ?_ ?_ <;> intro _ h
 · refine gb h fun aG ai h=>?_;refine LW.cl (nm ai rfl (q.rB b)) ?_;rintro _ aw ⟨am,Z,rfl,hs⟩;have ac:=q.add hs;refine go ?_;cases h;exact And.intro trivial ⟨_,jB.three (ib.t rfl) (ib.t rfl) (ib.t rfl),am,Z,rfl,ac.pk [0]⟩
 refine go ?_;obtain ⟨J,V,H⟩:=ob h;refine CW.mono (CW.lx [0,1,5,9] [0,1] [0] 0 (fun j=>[(11,vI j)]) (fun r x e wb=>x=.ret∧∃ u,u=r∧∃ v,jB Tryz.prog Tryz.f256.results e wb v∧∃ c d,v=.tuple #[vS c u.1.length d,vI u.2.1,.bool u.2.2]∧St w0 [] wb [sl c d u.1]) q V (hb:=?_)) ?_
 · intro j e aj o s h;refine gc h ?_ ?_ <;> intro _ h
   · refine gb h fun aA g h=>?_;obtain ⟨m,B,hae,ao,ap⟩:=s.iJ (α:=iy) (i:=0) rfl g;subst hae;refine go ?_;obtain ⟨aq,f,y⟩:=s.freeze (α:=iy) 0 rfl;obtain ⟨ar,au,an,hae,O,_,_,R,U⟩:=f.jX.idx g;cases hae;obtain rfl:=R;refine LW.l (iF.iN aj pd rfl (U 0 _ rfl)) (y.zC 0 rfl O) rfl ?_;refine go ?_;refine CW.fl [0,1,5,9,11,34] fun e=>?_;refine gc h ?_ ?_ <;> intro _ h
     · refine go ?_;refine LW.u (iC.build (vs:=[(0,.bool true),(1,vI G),(2,.agg #[vI a.cd,vI a.ij,vI a.iD])]) (cs:=#[.bool true,vI G,vI a.cd,vI a.ij,vI a.iD]) rfl (by kernel_rfl)) rfl ?_;refine go ?_;have ad:=y.jf (α:=iy) 0 rfl f;have ⟨K,z,h⟩:=ob h;refine LW.se 0 ad 0 g z (hM:=sm) fun ax ae=>?_;refine go ?_;replace h:=oi h;subst h;exact ⟨trivial,rfl,_,rfl,⟨_,jB.three (ib.t rfl) (ib.t rfl) (ib.t rfl),(some ⟨m,B,none⟩),L,(show (.tuple #[vS (some ⟨m,B,none⟩) ak.1.length L,vI j,.bool true]:Value)=.tuple #[vS (some ⟨m,B,none⟩) K.length L,vI j,.bool true] by rw [show ak.1.length=K.length from (iH (oi z))]),ae.pk [0]⟩⟩
     refine go ?_;have af:=y.jf (α:=iy) 0 rfl f;cases oi h;exact ⟨rfl,(af.po [0,1])⟩
   refine go ?_;cases oi h;exact ⟨trivial,rfl,(s.po [0,1])⟩
 intro x e ay hM;rcases J with J | av
 · obtain ⟨rfl,hM⟩:=hM;obtain ⟨e,rfl,p⟩:=eo hM;have h:=H;refine gb h fun aB W h=>?_;refine LW.cl (nm W rfl (p.rB b)) ?_;rintro _ az ⟨Y,aa,rfl,hs⟩;have M:=p.add hs;refine go ?_;cases h;exact And.intro trivial ⟨_,jB.three (ib.t rfl) (ib.t rfl) (ib.t rfl),Y,aa,rfl,M.pk [0]⟩
 obtain ⟨rfl,u,rfl,hM⟩:=hM;cases H;exact And.intro trivial hM
theorem AJ {w0 N q H I j r} (h:pY N q H I j=some r) {d g f} (i:g=q.length) (a:rb w0 d f q) :
    il Tryz.prog 257 #[vS d g f,vI H,vI I,.agg #[vI j.cd,vI j.ij,vI j.iD]] w0 (fun v w=>∃ k l,v=.tuple #[vS k r.1.length l,.bool r.2]∧St w0 [] w [sl k l r.1]):=by
 subst i;unfold pY at h;refine il.fn Tryz.func257 fun e=>?_;have y:=St.start w0;refine go ?_;refine LW.bo y fun Y Z m=>?_;refine gb h fun ac C h=>?_;refine LW.c0 (sa C rfl (m.rB a)) m fun aa b=>?_;refine gc h ?_ ?_ <;> intro _ h
 · refine gb h fun ad G h=>?_;refine LW.cl (nm G rfl (b.rB a)) ?_;rintro _ ab ⟨J,K,rfl,hs⟩;have z:=b.add hs;refine go ?_;cases h;exact Rc tt tt ⟨J,K,rfl,z.pk [0]⟩
 refine gb h fun V n h=>?_;refine LW.cl (sR n rfl (b.rB a)) ?_;rintro _ O ⟨L,M,rfl,hs⟩;have c:=b.add hs;refine go ?_;refine CW.fl [0,2,7,10,26] fun e=>?_;refine gc h ?_ ?_ <;> intro _ h
 · refine gb h fun W o h=>?_;refine LW.cl (nm o rfl (c.rB a)) ?_;rintro _ R ⟨s,u,rfl,hs⟩;have A:=c.add hs;refine go ?_;cases h;exact Rc tt tt ⟨s,u,rfl,A.pk [0]⟩
 refine gb h fun X p h=>?_;refine LW.cl (An p rfl (c.rI 0 rfl)) ?_;rintro _ U ⟨t,x,rfl,hs⟩;have B:=c.add hs;refine go ?_;cases h;exact Rc tt tt ⟨t,x,rfl,B.pk [0]⟩
end Go.Kx
