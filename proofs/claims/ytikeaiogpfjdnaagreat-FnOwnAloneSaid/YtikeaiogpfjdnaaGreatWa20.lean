/- Each call returns what the plain function says. Printed by drive.py. -/
import Derived.Test.YtikeaiogpfjdnaaGreatFa
import Derived.Test.YtikeaiogpfjdnaaGreatPu
import Derived.Test.YtikeaiogpfjdnaaGreatWa4
import Derived.Test.YtikeaiogpfjdnaaGreatWa5
import Derived.Test.YtikeaiogpfjdnaaGreatWa6
import Derived.Test.YtikeaiogpfjdnaaGreatWa7
import Derived.Test.YtikeaiogpfjdnaaGreatWa9
namespace Go.Kx
open Go Go.RowKit Go.Proofs
set_option maxRecDepth 10000
set_option maxHeartbeats 8000000
set_option linter.unusedVariables false
set_option linter.unusedSimpArgs false
theorem BN {w0 N b c r} (h:qy N b c=some r) :
    il Tryz.prog 226 #[.agg #[vI b.cd,vI b.ij,vI b.iD],.agg #[vI c.cd,vI c.ij,vI c.iD]] w0 (fun v w=>v=.bool r∧St w0 [] w []):=by
 unfold qy at h;refine il.fn Tryz.func226 fun e=>?_;have f:=St.start w0;refine go ?_;refine LW.bo f fun l n g=>?_;refine LW.bo g fun m o i=>?_;refine gb h fun s j h=>?_;refine LW.c0 (lj j) i fun p d=>?_;refine gB h ?_ ?_ <;> intro _ h
 · refine gb h fun t k h=>?_;refine go ?_;refine LW.c0 (lj k) d fun q a=>?_;refine gB h ?_ ?_ <;> intro _ h
   · refine gB h ?_ ?_ <;> intro _ h
     · refine go ?_;refine bH h ?_ ?_ <;> intro _ h
       · refine go ?_;cases h;exact fi a
       refine go ?_;cases h;exact fi a
     refine go ?_;cases h;exact fi a
   refine go ?_;cases h;exact fi a
 refine go ?_;cases h;exact fi d
theorem yg {w0 N a c r} (h:sg N a c=some r) :
    il Tryz.prog 160 #[.agg #[vI a.cd,vI a.ij,vI a.iD],.agg #[vI c.cd,vI c.ij,vI c.iD]] w0 (fun v w=>v=.tuple #[.agg #[vI r.1.cd,vI r.1.ij,vI r.1.iD],.bool r.2]∧St w0 [] w []):=by
 unfold sg at h;refine il.fn Tryz.func160 fun e=>?_;have i:=St.start w0;refine go ?_;refine LW.bo i fun p t j=>?_;refine LW.bo j fun q x k=>?_;refine LW.al k fun s y l=>?_;refine gb h fun A m h=>?_;refine LW.c0 (BN m) l fun z d=>?_;refine gc h ?_ ?_ <;> intro _ h
 · refine go ?_;refine LW.st d 0 fun n f=>?_;refine go ?_;cases h;exact Rc (ib.b f 0 rfl km rfl rfl) tt ⟨rfl,f.pk []⟩
 refine go ?_;refine LW.u (iC.build (vs:=[(0,vI (IntKind.i64.wrap (a.cd - c.cd))),(1,vI (IntKind.i64.wrap (a.ij - c.ij))),(2,vI (IntKind.i64.wrap (a.iD - c.iD)))]) (cs:=#[vI (IntKind.i64.wrap (a.cd - c.cd)),vI (IntKind.i64.wrap (a.ij - c.ij)),vI (IntKind.i64.wrap (a.iD - c.iD))]) rfl (by kernel_rfl)) rfl ?_;refine LW.st d 0 fun o g=>?_;refine go ?_;cases h;exact Rc (ib.b g 0 rfl km rfl rfl) tt ⟨rfl,g.pk []⟩
theorem zb {w0 N ab aj r} (h:rD N ab aj=some r) {q Z s} (ae:Z=ab.length) (x:rb w0 q s ab) :
    il Tryz.prog 225 #[vS q Z s,vI aj] w0 (fun v w=>∃ am ao,v=vS am r.length ao∧St w0 [] w [sl am ao r]):=by
 subst ae;unfold rD at h;refine il.fn Tryz.func225 fun e=>?_;have ap:=St.start w0;refine gb h fun ct bf h=>?_;refine LW.c0 (sU bf rfl (ap.rB x)) ap fun cq aq=>?_;refine gc h ?_ ?_ <;> intro _ h
 · refine go ?_;cases h;have bb:=aq.nil (α:=Bool);exact Ra ⟨none,0,rfl,bb.pk [0]⟩
 refine gb h fun bk bg h=>?_;refine LW.mk GA rfl rfl bg aq rfl ?_;intro cp n cr ar hf;refine gb h fun cu av h=>?_;obtain ⟨c,d,hae,b4,bz⟩:=ar.iJ (α:=Bool) (i:=0) rfl av;subst hae;refine go ?_;have ⟨aw,U,h⟩:=ob h;refine LW.se 0 ar 0 av U (hM:=sm) fun cc bc=>?_;refine go ?_;refine LW.jL (α:=Int) (vs:=[(0,vI 0)]) (cs:=#[vI 0]) (l:=([0]:List Int)) rfl (by kernel_rfl) rfl rfl rfl (fun w=>⟨[vI 0],[],[],[],rfl,rfl,⟨rfl,rfl⟩,rfl⟩) bc rfl ?_;intro a6 a8 ce bd hf;refine go ?_;obtain ⟨bG,ah,aA⟩:=ob h;refine CW.ie ah 0 (fun p e wb=>∃ (g:Ad) (k:Nat),En e [(0,vS q ab.length s),(1,vI aj),(5,vS (some ⟨c,d,none⟩) p.1.length n),(6,vS g p.2.length k)]∧St w0 [] wb [sl g k p.2,sl (some ⟨c,d,none⟩) n p.1]) ?_ ⟨a6,a8,⟨rfl,rfl,(show (vS (some ⟨c,d,none⟩) bk.length n:Value)=vS (some ⟨c,d,none⟩) aw.length n by rw [show bk.length=aw.length from (iH (oi U))]),rfl,trivial⟩,bd.pk [0,1]⟩ ?_
 · intro p e bj o hM h;obtain ⟨g,k,hE,K⟩:=hM;obtain ⟨e,rfl⟩:=hE.out;refine go ?_;refine CW.fl [0,1,5,6,19] fun e=>?_;refine gc h ?_ ?_ <;> intro _ h
   · refine gb h fun cj V h=>?_;obtain ⟨bU,b5,hae,bt,bA⟩:=K.iJ (α:=Int) (i:=0) rfl V;subst hae;refine go ?_;obtain ⟨bP,R,au⟩:=K.freeze (α:=Int) 0 rfl;obtain ⟨bV,b6,bp,hae,aL,_,_,aO,aU⟩:=R.jX.idx V;cases hae;obtain rfl:=aO;refine LW.l (iF.iN bj iY rfl (aU 0 _ rfl)) (au.zC 0 rfl aL) rfl ?_;refine go ?_;have be:=au.jf (α:=Int) 0 rfl R;have ⟨ck,W,h⟩:=ob h;obtain ⟨ad,a7,a9,aR,aS,J⟩:=be.rX (α:=Int) 0 rfl W;refine LW.u (iC.sub (α:=Int) (l:=p.2) Tryz.underlying24 BY rfl (rU rfl) r8 W ad aR aS) rfl ?_;refine gb h fun ac a1 h=>?_;refine LW.cl (BQ a1 rfl (J.rB x)) ?_;rintro _ cf ⟨ak,an,rfl,hs⟩;have aB:=J.add hs;refine go ?_;obtain ⟨bF,af,az⟩:=ob h;refine CW.ie af 2 (fun m e wb=>∃ (a:Ad) (b:Nat),En e [(0,vS q ab.length s),(1,vI aj),(5,vS (some ⟨c,d,none⟩) m.1.length n),(6,vS a m.2.1.length b),(27,vS ak ac.length an),(28,vI (ac.length:Int)),(29,vI m.2.2)]∧St w0 [] wb [sl ak an ac,sl a b m.2.1,sl (some ⟨c,d,none⟩) n m.1]) ?_ ⟨a7,a9,aB.po [0,1,2]⟩ ?_
     · intro m e aa o hM h;obtain ⟨a,b,hE,y⟩:=hM;obtain ⟨e,rfl⟩:=hE.out;refine go ?_;refine CW.fl [0,1,5,6,27,28,29,30] fun e=>?_;refine gc h ?_ ?_ <;> intro _ h
       · refine gb h fun bl X h=>?_;obtain ⟨bW,b7,hae,bu,bB⟩:=y.iJ (α:=Int) (i:=0) rfl X;subst hae;refine go ?_;obtain ⟨a4,A,t⟩:=y.freeze (α:=Int) 0 rfl;obtain ⟨bX,b8,bq,hae,aM,_,_,aP,aV⟩:=A.jX.idx X;cases hae;obtain rfl:=aP;refine LW.l (iF.iN aa iY rfl (aV 0 _ rfl)) (t.zC 0 rfl aM) rfl ?_;refine gs ?_;obtain ⟨bi,aT,ba⟩:=ob h;refine CW.jn [0,1,5,6,9,27,28,29] [0,1,2] [(46,.bool bi)] t (h1:=?_) (h2:=?_)
         · have h:=aT;refine gb h fun cm Y h=>?_;obtain ⟨bY,b9,hae,bv,bC⟩:=t.iJ (α:=Bool) (i:=2) rfl Y;cases hae;refine go ?_;obtain ⟨bQ,B,f⟩:=t.freeze (α:=Bool) 2 rfl;obtain ⟨bZ,ca,br,hae,aN,_,_,aQ,aW⟩:=B.jX.idx Y;cases hae;obtain rfl:=aQ;refine LW.l (iF.iN aa pd rfl (aW 0 _ rfl)) (f.zC 2 rfl aN) rfl ?_;refine gB h ?_ ?_ <;> intro _ h
           · refine gb h fun cn a2 h=>?_;obtain ⟨b0,cb,bs,rfl,O,bw,bD,⟨bR,b1,bS,b2,bT,b3,rfl,aY,aZ,a0⟩,aX⟩:=x.idx a2;refine go ?_;refine LW.l (iF.jF w0 lI rfl rfl (fun j u hu=>aX j u hu)) (f.same _ O.1 O.2) rfl ?_;refine gb h fun co a3 h=>?_;refine go ?_;refine LW.c0 (BH a3 rfl (f.rB aY) rfl (f.rB aZ) rfl (f.rB a0)) f fun cg aC=>?_;refine go ?_;have aD:=aC.jf (α:=Bool) 2 rfl B;cases oi h;exact aD.po [0,1,2]
           refine go ?_;have aE:=f.jf (α:=Bool) 2 rfl B;cases oi h;exact aE.po [0,1,2]
         intro e ci z;have h:=ba;refine gc h ?_ ?_ <;> intro _ h
         · refine gb h fun bN H h=>?_;obtain ⟨bo,bE,hae,bm,bn⟩:=z.iJ (α:=Bool) (i:=2) rfl H;cases hae;refine go ?_;have ⟨C,I,h⟩:=ob h;refine LW.se 0 z 2 H I (hM:=sm) fun bJ aF=>?_;refine gb h fun bO ai h=>?_;refine LW.kV (M:=[]) (L:=[fz aa a4,sl a b m.2.1,sl (some ⟨c,d,none⟩) n C]) (vs:=#[vI bl]) (i:=1) lL rfl (by kernel_rfl) rfl rfl ai aF rfl (fun w G hG=>by cases (show G=[] from hG);exact ⟨rfl,rfl⟩) rfl rfl ?_;intro bI ax ay bK aG hf;refine go ?_;replace h:=oi h;subst h;have aH:=aG.jf (α:=Int) 0 rfl A;exact ⟨rfl,⟨ax,ay,⟨rfl,rfl,(show (vS (some ⟨c,d,none⟩) m.1.length n:Value)=vS (some ⟨c,d,none⟩) C.length n by rw [show m.1.length=C.length from (iH (oi I))]),rfl,rfl,rfl,rfl,trivial⟩,aH.pk [0,1,2]⟩⟩
         refine go ?_;have aI:=z.jf (α:=Int) 0 rfl A;cases oi h;exact ⟨rfl,⟨a,b,aI.po [0,1,2]⟩⟩
       refine go ?_;cases oi h;exact ⟨trivial,rfl,⟨a,b,y.po [0,1,2]⟩⟩
     rintro e bL ⟨a,b,hE,aJ⟩;obtain ⟨e,rfl⟩:=hE.out;have h:=az;cases oi h;exact ⟨rfl,⟨a,b,aJ.po [1,2]⟩⟩
   refine go ?_;cases oi h;exact ⟨trivial,rfl,⟨g,k,K.po [0,1]⟩⟩
 rintro e bM ⟨g,k,hE,aK⟩;obtain ⟨e,rfl⟩:=hE.out;have h:=aA;refine go ?_;cases h;exact Ra ⟨(some ⟨c,d,none⟩),n,rfl,aK.pk [1]⟩
theorem uw {w0 N ad ae I r} (h:nC N ad ae I=some r) {l C o} (H:C=ad.length) (b:rb w0 l o ad) :
    il Tryz.prog 72 #[vS l C o,vI ae,.agg #[vI I.cd,vI I.ij,vI I.iD]] w0 (fun v w=>∃ K L,v=.tuple #[vS K r.1.length L,.bool r.2]∧St w0 [] w [sl K L r.1]):=by
 subst H;unfold nC at h;refine il.fn Tryz.func72 fun e=>?_;have aj:=St.start w0;refine go ?_;refine LW.bo aj fun aQ aR M=>?_;refine gb h fun J ao h=>?_;refine LW.cl (n8 ao rfl (M.rB b)) ?_;rintro _ aS ⟨U,k,rfl,hs⟩;have s:=M.add hs;refine gs ?_;obtain ⟨ay,an,ar⟩:=ob h;refine CW.jn [0,1,5,8] [0,1] [(21,.bool ay)] s (h1:=?_) (h2:=?_)
 · have h:=an;refine gb h fun aT ap h=>?_;refine LW.c0 (qe ap rfl (s.rB b)) s fun aB t=>?_;refine gB h ?_ ?_ <;> intro _ h
   · refine go ?_;cases oi h;exact t.po [0,1]
   refine gb h fun aM ab h=>?_;refine go ?_;refine LW.c0 (ot ab rfl (t.rB b)) t fun aC ak=>?_;refine go ?_;cases oi h;exact ak.po [0,1]
 intro e aD O;have h:=ar;refine gc h ?_ ?_ <;> intro _ h
 · refine go ?_;cases h;exact Rc tt tt ⟨U,k,rfl,O.pk [0]⟩
 refine gs ?_;obtain ⟨d,Z,ai⟩:=ob h;refine CW.cut (fun e wb=>∃ (f:Nat),En e [(1,vI ae),(8,vS U J.length k),(9,.pointer (some ⟨f,0,none⟩)),(10,.bool d.2.2.2)]∧St w0 [] wb [sl U k J,bx f 35 [vI d.1,vI d.2.1,vI d.2.2.1]]) ?_ ?_
 · have h:=Z;refine CW.draw (by kernel_rfl) ?_;have x:=O.drew;refine gb h fun aN ac h=>?_;obtain ⟨az,aA,aq,rfl,a,au,aw,rfl,aa⟩:=b.idx ac;refine go ?_;refine AW.take (i:=4) rfl (by kernel_rfl) rfl rfl (iF.jF w0 km rfl rfl (fun j u hu=>lW (m:=3) aa 2 hu)) (x.same _ a.1 a.2) ?_;refine gb h fun aO z h=>?_;refine AW.all (rs:=[6,10]) (by kernel_rfl) (by simp) ⟨?_,?_,trivial⟩
   · refine ⟨_,rfl,?_⟩;refine LW.cl (yg z) ?_;rintro _ aE ⟨rfl,hs⟩;have am:=x.add hs;refine jn ?_;refine AW.u (i:=7) rfl (by kernel_rfl) rfl rfl (iC.p rfl) ?_;refine go ?_;refine jO 10 ?_;refine LW.al am fun af aF y=>?_;refine jN (.c (y.ce 2) (.c (y.same _ a.1 a.2) jZ)) ?_;refine jO 11 ?_;refine LW.st y 0 fun aG V=>?_;refine jn ?_;refine go ?_;cases oi h;exact ⟨af,V.po [1,0]⟩
   refine ⟨_,rfl,?_⟩;refine LW.al x fun ah aH g=>?_;refine jN (.c (g.ce 2) (.c (g.same _ a.1 a.2) jZ)) ?_;refine jO 6 ?_;refine LW.cl (yg z) ?_;rintro _ aI ⟨rfl,hs⟩;have W:=g.add hs;refine jn ?_;refine go ?_;refine jO 11 ?_;refine LW.st W 0 fun aJ X=>?_;refine jn ?_;refine go ?_;cases oi h;exact ⟨ah,X.po [1,0]⟩
 rintro e aK ⟨f,hE,q⟩;obtain ⟨e,rfl⟩:=hE.out;have h:=ai;refine gb h fun aP A h=>?_;obtain ⟨n,G,hae,av,ax⟩:=q.iJ (α:=iy) (i:=0) rfl A;subst hae;refine go ?_;refine gb h fun R B h=>?_;refine LW.se 2 q 0 A B (hM:=(j7 (fun w cs F hF=>by obtain ⟨rfl,rfl⟩:=hF;exact ⟨rfl,rfl⟩))) fun aL Y=>?_;refine go ?_;replace h:=oi h;subst h;exact Rc tt tt ⟨(some ⟨n,G,none⟩),k,(show (.tuple #[vS (some ⟨n,G,none⟩) J.length k,.bool d.2.2.2]:Value)=.tuple #[vS (some ⟨n,G,none⟩) R.length k,.bool d.2.2.2] by rw [show J.length=R.length from (iH (oi B))]),Y.pk [0]⟩
theorem zo {w0 N a V r} (h:rR N a V=some r) {c t k} (B:t=a.label.levels.length) (W:rb w0 c k a.label.levels) {d u l} (C:u=a.own.length) (X:rb w0 d l a.own) {f x m} (G:x=a.tree.length) (b:rb w0 f m a.tree) {g y n} (H:y=a.heap.ag.length) (Y:rb w0 g n a.heap.ag) {i z o} (I:z=a.heap.gc.ia.length) (Z:rb w0 i o a.heap.gc.ia) {j A p} (J:A=a.ic.length) (aa:rb w0 j p a.ic) :
    il Tryz.prog 73 #[.agg #[vS c t k,vS d u l,vS f x m,vS g y n,vI a.heap.gc.phase,vI a.heap.gc.pos,vI a.heap.gc.round,vS i z o,vS j A p,vI a.next,vI a.want,vI a.dW.cd,vI a.dW.ij,vI a.dW.iD,vI a.iz,vI a.lost],vI V] w0 (fun v w=>v=vI r∧St w0 [] w []):=by
 subst B C G H I J;unfold rR at h;refine il.fn Tryz.func73 fun e=>?_;have L:=St.start w0;refine go ?_;refine LW.bo L fun ae af q=>?_;refine gs ?_;obtain ⟨ac,O,ab⟩:=ob h;refine CW.jn [1] [] [(15,.bool ac)] q (h1:=?_) (h2:=?_)
 · have h:=O;refine gb h fun aj R h=>?_;refine LW.c0 (qe R rfl (q.rB b)) q fun ah s=>?_;refine gB h ?_ ?_ <;> intro _ h
   · refine go ?_;cases oi h;exact s.po []
   refine gb h fun ak U h=>?_;refine go ?_;refine LW.c0 (ot U rfl (s.rB b)) s fun ai M=>?_;refine go ?_;cases oi h;exact M.po []
 intro e ad K;have h:=ab;refine gc h ?_ ?_ <;> intro _ h
 · refine go ?_;cases h;exact fi K
 refine go ?_;cases h;exact fi K
theorem Ee {w0 N a am r} (h:tc N a am=some r) {g C q} (L:C=a.label.levels.length) (W:rb w0 g q a.label.levels) {k G s} (M:G=a.own.length) (X:rb w0 k s a.own) {l H t} (O:H=a.tree.length) (d:rb w0 l t a.tree) {n I x} (R:I=a.heap.ag.length) (f:rb w0 n x a.heap.ag) {o J y} (U:J=a.heap.gc.ia.length) (Y:rb w0 o y a.heap.gc.ia) {p K z} (V:K=a.ic.length) (Z:rb w0 p z a.ic) :
    il Tryz.prog 158 #[.agg #[vS g C q,vS k G s,vS l H t,vS n I x,vI a.heap.gc.phase,vI a.heap.gc.pos,vI a.heap.gc.round,vS o J y,vS p K z,vI a.next,vI a.want,vI a.dW.cd,vI a.dW.ij,vI a.dW.iD,vI a.iz,vI a.lost],vI am] w0 (fun v w=>v=.agg #[vI r.cd,vI r.ij,vI r.iD]∧St w0 [] w []):=by
 subst L M O R U V;unfold tc at h;refine il.fn Tryz.func158 fun e=>?_;have ah:=St.start w0;refine go ?_;refine LW.bo ah fun aL aO ai=>?_;refine LW.al ai fun aM aP aj=>?_;refine go ?_;refine CW.draw (by kernel_rfl) ?_;have c:=aj.drew;refine gb h fun aQ ak h=>?_;obtain ⟨aK,aN,an,rfl,A,aD,aE,⟨aw,aA,ax,aB,ay,aC,rfl,ar,au,av⟩,ac⟩:=f.idx ak;refine go ?_;refine AW.take (i:=9) rfl (by kernel_rfl) rfl rfl (iF.iN w0 iY rfl (ac 3 _ rfl)) (c.same _ A.1 A.2) ?_;have ⟨aI,ae,h⟩:=ob h;refine jO 10 ?_;refine LW.cl (zo ae rfl (c.rB W) rfl (c.rB X) rfl (c.rB d) rfl (c.rB f) rfl (c.rB Y) rfl (c.rB Z)) ?_;rintro _ aG ⟨rfl,hs⟩;have aa:=c.add hs;refine jn ?_;have ⟨aJ,af,h⟩:=ob h;obtain ⟨az,aF,ao,rfl,B,ap,aq,rfl,ad⟩:=d.idx af;refine go ?_;refine AW.take (i:=13) rfl (by kernel_rfl) rfl rfl (iF.jF w0 km rfl rfl (fun j u hu=>lW (m:=3) ad 2 hu)) (aa.same _ B.1 B.2) ?_;refine jO 14 ?_;refine LW.st aa 0 fun aH ab=>?_;refine jn ?_;refine go ?_;cases h;exact And.intro trivial ⟨_,jB.one (ib.b ab 0 rfl km rfl rfl),rfl,ab.pk []⟩
theorem Bj {w0 N a aT r} (h:qQ N a aT=some r) {g K q} (X:K=a.label.levels.length) (ad:rb w0 g q a.label.levels) {j O s} (Y:O=a.own.length) (ae:rb w0 j s a.own) {k R t} (Z:R=a.tree.length) (af:rb w0 k t a.tree) {m U u} (aa:U=a.heap.ag.length) (z:rb w0 m u a.heap.ag) {n V x} (ab:V=a.heap.gc.ia.length) (ah:rb w0 n x a.heap.gc.ia) {p W y} (ac:W=a.ic.length) (ai:rb w0 p y a.ic) :
    il Tryz.prog 157 #[.agg #[vS g K q,vS j O s,vS k R t,vS m U u,vI a.heap.gc.phase,vI a.heap.gc.pos,vI a.heap.gc.round,vS n V x,vS p W y,vI a.next,vI a.want,vI a.dW.cd,vI a.dW.ij,vI a.dW.iD,vI a.iz,vI a.lost],vI aT] w0 (fun v w=>∃ ak an,v=vS ak r.length an∧St w0 [] w [sl ak an r]):=by
 subst X Y Z aa ab ac;unfold qQ at h;refine il.fn Tryz.func157 fun e=>?_;have aM:=St.start w0;refine go ?_;refine LW.bo aM fun aq br aN=>?_;refine go ?_;refine LW.jL (α:=Int) (vs:=[]) (cs:=#[]) (l:=([]:List Int)) rfl (by kernel_rfl) rfl rfl rfl (fun w=>rfl) aN rfl ?_;intro aG aI bs d hf;refine gb h fun bu aQ h=>?_;refine LW.c0 (vd aQ rfl (d.rB ad) rfl (d.rB ae) rfl (d.rB af) rfl (d.rB z) rfl (d.rB ah) rfl (d.rB ai)) d fun bt C=>?_;refine gc h ?_ ?_ <;> intro _ h
 · refine go ?_;cases h;exact Ra ⟨aG,aI,rfl,C.pk [0]⟩
 refine gb h fun aE aR h=>?_;refine LW.cl (zb aR rfl (C.rB z)) ?_;rintro _ bj ⟨aj,am,rfl,hs⟩;have aO:=C.add hs;refine go ?_;obtain ⟨bg,aB,aL⟩:=ob h;refine CW.ie aB 0 (fun f e wb=>∃ (b:Ad) (c:Nat),En e [(2,.pointer (some ⟨aq,0,none⟩)),(5,vS b f.1.length c),(17,vS aj aE.length am),(18,vI (aE.length:Int)),(19,vI f.2)]∧St w0 [] wb [sl aj am aE,sl b c f.1,bx aq 37 (qP g q j s k t m u n x p y a)]) ?_ ⟨aG,aI,aO.po [0,1,2]⟩ ?_
 · intro f e ap o hM h;obtain ⟨b,c,hE,H⟩:=hM;obtain ⟨e,rfl⟩:=hE.out;refine go ?_;refine CW.fl [2,5,17,18,19,20] fun e=>?_;refine gc h ?_ ?_ <;> intro _ h
   · refine gb h fun bn J h=>?_;obtain ⟨a7,bd,hae,aW,aY⟩:=H.iJ (α:=Bool) (i:=0) rfl J;subst hae;refine go ?_;obtain ⟨aF,B,A⟩:=H.freeze (α:=Bool) 0 rfl;obtain ⟨a8,be,aU,hae,aw,_,_,ax,az⟩:=B.jX.idx J;cases hae;obtain rfl:=ax;refine LW.l (iF.iN ap pd rfl (az 0 _ rfl)) (A.zC 0 rfl aw) rfl ?_;refine gs ?_;obtain ⟨aS,ay,aK⟩:=ob h;refine CW.jn [2,5,6,17,18,19] [0,1,2] [(34,.bool aS)] A (h1:=?_) (h2:=?_)
     · have h:=ay;refine gB h ?_ ?_ <;> intro _ h
       · refine gb h fun bp aC h=>?_;obtain ⟨a9,bf,aV,rfl,I,aX,aZ,⟨a4,ba,a5,bb,a6,bc,rfl,a0,a1,a2⟩,aA⟩:=z.idx aC;refine go ?_;refine LW.l (iF.iN w0 iY rfl (aA 1 _ rfl)) (A.same _ I.1 I.2) rfl ?_;refine go ?_;cases oi h;exact A.po [0,1,2]
       refine go ?_;cases oi h;exact A.po [0,1,2]
     intro e bk ao;have h:=aK;refine gc h ?_ ?_ <;> intro _ h
     · refine gb h fun bq aD h=>?_;refine LW.kV (M:=[]) (L:=[fz ap aF,sl b c f.1,bx aq 37 (qP g q j s k t m u n x p y a)]) (vs:=#[vI f.2]) (i:=1) lL rfl (by kernel_rfl) rfl rfl aD ao rfl (fun w G hG=>by cases (show G=[] from hG);exact ⟨rfl,rfl⟩) rfl rfl ?_;intro bi aH aJ bl aP hf;refine go ?_;have ar:=aP.jf (α:=Bool) 0 rfl B;cases oi h;exact ⟨rfl,⟨aH,aJ,ar.po [0,1,2]⟩⟩
     refine go ?_;have au:=ao.jf (α:=Bool) 0 rfl B;cases oi h;exact ⟨rfl,⟨b,c,au.po [0,1,2]⟩⟩
   refine go ?_;cases oi h;exact ⟨trivial,rfl,⟨b,c,H.po [0,1,2]⟩⟩
 rintro e bm ⟨b,c,hE,av⟩;obtain ⟨e,rfl⟩:=hE.out;have h:=aL;refine go ?_;cases h;exact Ra ⟨b,c,rfl,av.pk [1]⟩
end Go.Kx
