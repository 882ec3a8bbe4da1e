/- Each call returns what the plain function says. Printed by drive.py. -/
import Derived.Test.YtikeaiogpfjdnaaGreatFa
import Derived.Test.YtikeaiogpfjdnaaGreatPu
import Derived.Test.YtikeaiogpfjdnaaGreatWa4
import Derived.Test.YtikeaiogpfjdnaaGreatWa5
import Derived.Test.YtikeaiogpfjdnaaGreatWa6
import Derived.Test.YtikeaiogpfjdnaaGreatWa7
import Derived.Test.YtikeaiogpfjdnaaGreatWa9
import Derived.Test.YtikeaiogpfjdnaaGreatWa19
import Derived.Test.YtikeaiogpfjdnaaGreatWa20
namespace Go.Kx
open Go Go.RowKit Go.Proofs
set_option maxRecDepth 10000
set_option maxHeartbeats 8000000
set_option linter.unusedVariables false
set_option linter.unusedSimpArgs false
theorem BM {w0 N b d r} (h:qN N b d=some r) :
    il Tryz.prog 285 #[.agg #[vI b.cd,vI b.ij,vI b.iD],vI d] w0 (fun v w=>v=vI r∧St w0 [] w []):=by
 unfold qN at h;refine il.fn Tryz.func285 fun e=>?_;have c:=St.start w0;refine go ?_;refine LW.bo c fun f g a=>?_;refine gc h ?_ ?_ <;> intro _ h
 · refine go ?_;cases h;exact fi a
 refine gc h ?_ ?_ <;> intro _ h
 · refine go ?_;cases h;exact fi a
 refine gc h ?_ ?_ <;> intro _ h
 · refine go ?_;cases h;exact fi a
 refine go ?_;cases h;exact fi a
theorem wU {w0 N f l r} (h:o6 N f l=some r) {a c b} (d:c=f.parts.length) (m:rb w0 a b f.parts) :
    il Tryz.prog 111 #[.agg #[vI f.now,vS a c b],vI l] w0 (fun v w=>v=.bool r∧St w0 [] w []):=by
 subst d;unfold o6 at h;refine il.fn Tryz.func111 fun e=>?_;have g:=St.start w0;refine go ?_;refine LW.bo g fun n o i=>?_;refine gb h fun q k h=>?_;refine LW.c0 (jd k) i fun p j=>?_;refine go ?_;cases h;exact fi j
theorem sA {w0 N d r} (h:lK N d=some r) :
    il Tryz.prog 184 #[vI d] w0 (fun v w=>v=vI r∧St w0 [] w []):=by
 unfold lK at h;refine il.fn Tryz.func184 fun e=>?_;have b:=St.start w0;refine gb h fun g c h=>?_;refine LW.c0 (m3 c) b fun f a=>?_;refine gc h ?_ ?_ <;> intro _ h
 · refine go ?_;cases h;exact fi a
 refine go ?_;refine LW.u (iC.rem rfl rfl (by decide)) rfl ?_;refine go ?_;cases h;exact fi a
theorem yB {w0 N d r} (h:nX N d=some r) :
    il Tryz.prog 236 #[vI d] w0 (fun v w=>v=vI r∧St w0 [] w []):=by
 unfold nX at h;refine il.fn Tryz.func236 fun e=>?_;have b:=St.start w0;refine gb h fun g c h=>?_;refine LW.c0 (m3 c) b fun f a=>?_;refine gc h ?_ ?_ <;> intro _ h
 · refine go ?_;cases h;exact fi a
 refine go ?_;refine LW.u (iC.quo rfl rfl (by decide)) rfl ?_;refine LW.u (iC.rem rfl rfl (by decide)) rfl ?_;refine go ?_;cases h;exact fi a
theorem zP {w0 N d r} (h:oF N d=some r) :
    il Tryz.prog 237 #[vI d] w0 (fun v w=>v=vI r∧St w0 [] w []):=by
 unfold oF at h;refine il.fn Tryz.func237 fun e=>?_;have b:=St.start w0;refine gb h fun g c h=>?_;refine LW.c0 (m3 c) b fun f a=>?_;refine gc h ?_ ?_ <;> intro _ h
 · refine go ?_;cases h;exact fi a
 refine go ?_;refine LW.u (iC.quo rfl rfl (by decide)) rfl ?_;refine LW.u (iC.quo rfl rfl (by decide)) rfl ?_;refine go ?_;cases h;exact fi a
theorem x7 {w0 N a r} (h:nj N a=some r) {m J x} (X:J=a.label.levels.length) (aN:rb w0 m x a.label.levels) {n K y} (Y:K=a.own.length) (aO:rb w0 n y a.own) {p O z} (Z:O=a.tree.length) (aP:rb w0 p z a.tree) {q R A} (aa:R=a.heap.ag.length) (k:rb w0 q A a.heap.ag) {s U B} (ab:U=a.heap.gc.ia.length) (aQ:rb w0 s B a.heap.gc.ia) {t V C} (ac:V=a.ic.length) (aR:rb w0 t C a.ic) :
    il Tryz.prog 238 #[.agg #[vS m J x,vS n K y,vS p O z,vS q R A,vI a.heap.gc.phase,vI a.heap.gc.pos,vI a.heap.gc.round,vS s U B,vS t V C,vI a.next,vI a.want,vI a.dW.cd,vI a.dW.ij,vI a.dW.iD,vI a.iz,vI a.lost]] w0 (fun v w=>∃ ah am,v=vS ah r.length am∧St w0 [] w [sl ah am r]):=by
 subst X Y Z aa ab ac;unfold nj at h;refine il.fn Tryz.func238 fun e=>?_;have aF:=St.start w0;refine go ?_;refine LW.bo aF fun bd be aG=>?_;refine go ?_;refine LW.jL (α:=nP) (vs:=[]) (cs:=#[]) (l:=([]:List nP)) rfl (by kernel_rfl) rfl rfl rfl (fun w=>rfl) aG rfl ?_;intro aS aU bf aH hf;refine go ?_;refine LW.u (iC.min rfl rfl) rfl ?_;have ⟨aM,ao,h⟩:=ob h;obtain ⟨aT,aV,aL,ap,au⟩:=iO.rX k ao;have W:=(k).le;refine LW.u (iC.sub (α:=bh) (l:=a.heap.ag) Tryz.underlying28 uW rfl r8 (rU rfl) ao W aL ap) rfl ?_;refine go ?_;obtain ⟨a1,ar,aE⟩:=ob h;refine CW.ie ar 0 (fun f e wb=>∃ (b:Ad) (c:Nat),En e [(3,vS b f.1.length c),(15,vS aT aM.length aV),(16,vI (aM.length:Int)),(17,vI f.2)]∧St w0 [] wb [sl b c f.1]) ?_ ⟨aS,aU,aH.po [0]⟩ ?_
 · intro f e a4 o hM h;obtain ⟨b,c,hE,H⟩:=hM;obtain ⟨e,rfl⟩:=hE.out;refine go ?_;refine CW.fl [3,15,16,17,18] fun e=>?_;refine gc h ?_ ?_ <;> intro _ h
   · refine gb h fun d ay h=>?_;obtain ⟨aZ,a0,aW,rfl,I,aX,aY,⟨ad,ai,ae,aj,af,ak,rfl,av,aw,ax⟩,aq⟩:=au.idx ay;refine go ?_;refine LW.l (iF.jF w0 lI rfl rfl (fun j u hu=>aq j u hu)) (H.same _ I.1 I.2) rfl ?_;refine LW.al H fun aD a5 aI=>?_;refine LW.st aI 0 fun a6 g=>?_;refine gb h fun bb az h=>?_;refine LW.c0 (zw az rfl (g.rB av) rfl (g.rB aw) rfl (g.rB ax)) g fun a8 an=>?_;refine gc h ?_ ?_ <;> intro _ h
     · refine gb h fun bc aA h=>?_;refine LW.kV (M:=[]) (L:=[bx aD 44 (qO ad ai ae aj af ak d),sl b c f.1]) (vs:=#[vI d.gen,vI d.kind,vI d.box,vI d.res,vI d.iL,vI d.cd,vI d.wait,vI d.iK,vI d.iM,.bool d.mark,vS ad d.ig.length ai,vS ae d.data.length aj,vS af d.queue.length ak]) (i:=1) HM rfl (by kernel_rfl) rfl rfl aA an rfl (fun w G hG=>by cases (show G=[] from hG);exact ⟨⟨_,_,_,_,_,_,_,_,_,rfl⟩,rfl⟩) rfl rfl ?_;intro a2 aB aC a9 aJ hf;refine go ?_;cases oi h;exact ⟨rfl,⟨aB,aC,aJ.po [1]⟩⟩
     refine go ?_;cases oi h;exact ⟨rfl,⟨b,c,an.po [1]⟩⟩
   refine go ?_;cases oi h;exact ⟨trivial,rfl,⟨b,c,H.po [0]⟩⟩
 rintro e ba ⟨b,c,hE,aK⟩;obtain ⟨e,rfl⟩:=hE.out;have h:=aE;refine go ?_;cases h;exact Ra ⟨b,c,rfl,aK.pk [0]⟩
theorem zW {w0 N C r} (h:oK N C=some r) {I Z J} (ac:Z=C.parts.length) (ad:rb w0 I J C.parts) :
    il Tryz.prog 102 #[.agg #[vI C.now,vS I Z J]] w0 (fun v w=>∃ O R,v=.agg #[vI r.now,vS O r.parts.length R]∧St w0 [] w [sl O R r.parts]):=by
 subst ac;unfold oK at h;refine il.fn Tryz.func102 fun e=>?_;have aO:=St.start w0;refine go ?_;refine LW.bo aO fun bb bc aP=>?_;refine LW.al aP fun aa bd aQ=>?_;refine go ?_;refine LW.u (iC.build (vs:=[(0,vI C.now)]) (cs:=#[vI C.now,vS none 0 0]) rfl (by kernel_rfl)) rfl ?_;refine LW.al aQ fun ab be aR=>?_;refine LW.st aR 0 fun bf aS=>?_;refine go ?_;have aT:=aS.nil (α:=gE);obtain ⟨a1,aB,aN⟩:=ob h;refine CW.ie aB 0 (fun H e wb=>∃ (d:Ad) (f:Nat),En e [(2,.pointer (some ⟨aa,0,none⟩)),(3,.pointer (some ⟨ab,0,none⟩)),(10,vS I C.parts.length J),(11,vI (C.parts.length:Int)),(12,vI H.1)]∧St w0 [] wb [bx ab 77 [vI C.now,vS d H.2.length f],bx aa 77 [vI 0,vS none 0 0],sl d f H.2]) ?_ ⟨none,0,aT.po [1,2,0]⟩ ?_
 · intro H e bg o hM h;obtain ⟨d,f,hE,X⟩:=hM;obtain ⟨e,rfl⟩:=hE.out;refine gc h ?_ ?_ <;> intro _ h
   · refine gb h fun aw aI h=>?_;obtain ⟨aZ,a0,aW,rfl,Y,aX,aY,⟨ae,am,af,an,ah,ao,ai,ap,aj,aq,ak,ar,rfl,aC,aD,aE,aF,aG,aH⟩,aA⟩:=ad.idx aI;refine go ?_;refine LW.l (iF.jF w0 jm rfl rfl (fun j u hu=>aA j u hu)) (X.same _ Y.1 Y.2) rfl ?_;refine LW.al X fun au a2 aU=>?_;refine LW.st aU 0 fun a3 aV=>?_;refine go ?_;refine CW.draw (by kernel_rfl) ?_;have g:=aV.drew;refine gb h fun a aJ h=>?_;refine jO 3 ?_;refine LW.cl (nV aJ rfl (g.rB aC) rfl (g.rB aD) rfl (g.rB aE) rfl (g.rB aF) rfl (g.rB aG) rfl (g.rB aH)) ?_;rintro _ a4 ⟨k,t,m,x,n,y,p,z,q,A,s,B,rfl,hs⟩;have U:=g.add hs;refine jN (jW (.c (U.ce 7) jZ)) ?_;refine jO 4 ?_;refine LW.H4 (vs:=#[vS k a.label.levels.length t,vS m a.own.length x,vS n a.tree.length y,vS p a.heap.ag.length z,vI a.heap.gc.phase,vI a.heap.gc.pos,vI a.heap.gc.round,vS q a.heap.gc.ia.length A,vS s a.ic.length B,vI a.next,vI a.want,vI a.dW.cd,vI a.dW.ij,vI a.dW.iD,vI a.iz,vI a.lost]) Ey rfl (by kernel_rfl) U rfl ?_;intro av a5 K hf;refine jN (.c (K.ce 7) (.c (K.ce 8) jZ)) ?_;have ax:=K.pk (M:=[sl k t a.label.levels,sl m x a.own,sl n y a.tree,sl p z a.heap.ag,sl q A a.heap.gc.ia,sl s B a.ic]++[bx av 37 (qP k t m x n y p z q A s B a),bx au 37 (qP ae am af an ah ao ai ap aj aq ak ar aw),bx ab 77 [vI C.now,vS d H.2.length f],bx aa 77 [vI 0,vS none 0 0],sl d f H.2]) [1,2,3,4,5,6,0,7,8,9,10]
     have ⟨ba,aK,h⟩:=ob h;refine jO 5 ?_;refine LW.CV (M:=[sl k t a.label.levels,sl m x a.own,sl n y a.tree,sl p z a.heap.ag,sl q A a.heap.gc.ia,sl s B a.ic]) (L:=[bx av 37 (qP k t m x n y p z q A s B a),bx au 37 (qP ae am af an ah ao ai ap aj aq ak ar aw),bx ab 77 [vI C.now,vS d H.2.length f],bx aa 77 [vI 0,vS none 0 0],sl d f H.2]) (vs:=(qP k t m x n y p z q A s B a)) (i:=4) (j:=0) Ey rfl rfl aK ax rfl rfl (fun w G hG=>⟨k,t,m,x,n,y,p,z,q,A,s,B,rfl,hG⟩) rfl ?_;intro aL aM a6 V hf;refine jN (.c (V.ce 1) (jW jZ)) ?_;refine go ?_;refine jO 7 ?_;refine LW.st V 2 fun a7 ay=>?_;refine jN (jW (jW jZ)) ?_;refine go ?_;cases oi h;exact ⟨rfl,⟨aL,aM,ay.po [2,3,4]⟩⟩
   refine go ?_;cases oi h;exact ⟨trivial,rfl,⟨d,f,X.po [0,1,2]⟩⟩
 rintro e a8 ⟨d,f,hE,az⟩;obtain ⟨e,rfl⟩:=hE.out;have h:=aN;refine go ?_;refine LW.st az 1 fun a9 W=>?_;refine go ?_;cases h;exact And.intro trivial ⟨_,jB.one (ib.b W 1 rfl sh rfl rfl),d,f,rfl,W.pk [2]⟩
theorem Ex {w0 N a r} (h:tW N a=some r) {c C n} (L:C=a.label.levels.length) (W:rb w0 c n a.label.levels) {d G p} (M:G=a.own.length) (X:rb w0 d p a.own) {f H q} (O:H=a.tree.length) (Y:rb w0 f q a.tree) {g I s} (R:I=a.heap.ag.length) (Z:rb w0 g s a.heap.ag) {k J t} (U:J=a.heap.gc.ia.length) (aa:rb w0 k t a.heap.gc.ia) {m K y} (V:K=a.ic.length) (ab:rb w0 m y a.ic) :
    il Tryz.prog 180 #[.agg #[vS c C n,vS d G p,vS f H q,vS g I s,vI a.heap.gc.phase,vI a.heap.gc.pos,vI a.heap.gc.round,vS k J t,vS m K y,vI a.next,vI a.want,vI a.dW.cd,vI a.dW.ij,vI a.dW.iD,vI a.iz,vI a.lost]] w0 (fun v w=>v=vI r∧St w0 [] w []):=by
 subst L M O R U V;unfold tW at h;refine il.fn Tryz.func180 fun e=>?_;have ak:=St.start w0;refine go ?_;refine LW.bo ak fun aU aV b=>?_;refine gb h fun aX ar h=>?_;refine LW.cl (x7 ar rfl (b.rB W) rfl (b.rB X) rfl (b.rB Y) rfl (b.rB Z) rfl (b.rB aa) rfl (b.rB ab)) ?_;rintro _ aW ⟨aS,aT,rfl,hs⟩;have am:=b.add hs;refine go ?_;obtain ⟨aN,ah,aj⟩:=ob h;refine CW.mono (CW.lb [7,8] [0] [3] 0 (fun ai=>[(3,vI ai.1),(9,vI ai.2)]) am ah (hb:=?_)) ?_
 · intro ai e ax o z h;refine gc h ?_ ?_ <;> intro _ h
   · refine gb h fun aR B h=>?_;obtain ⟨aC,aL,hae,av,aw⟩:=z.iJ (α:=nP) (i:=0) rfl B;subst hae;refine go ?_;obtain ⟨ay,A,ac⟩:=z.freeze (α:=nP) 0 rfl;obtain ⟨aD,aM,au,hae,ad,_,_,ae,af⟩:=A.jX.idx B;cases hae;obtain ⟨az,aI,aE,aA,aJ,aF,aB,aK,aG,rfl⟩:=ae;refine LW.l (iF.jF ax lI rfl rfl (fun j u hu=>af j u hu)) (ac.zC 0 rfl ad) rfl ?_;refine LW.al ac fun aH aO an=>?_;refine LW.st an 0 fun aP ao=>?_;refine go ?_;have ap:=ao.jf (α:=nP) 1 rfl A;cases oi h;exact ⟨rfl,(ap.po [1])⟩
   refine go ?_;cases oi h;exact ⟨trivial,rfl,(z.po [0])⟩
 intro x e aQ hM;obtain ⟨rfl,hM⟩:=hM;obtain ⟨e,rfl,aq⟩:=eo hM;have h:=aj;refine go ?_;cases h;exact fi aq
theorem BO {w0 N a r} (h:qu N a=some r) {g y n} (H:y=a.label.levels.length) (O:rb w0 g n a.label.levels) {i z o} (I:z=a.own.length) (R:rb w0 i o a.own) {j A p} (J:A=a.tree.length) (f:rb w0 j p a.tree) {k B q} (K:B=a.heap.ag.length) (U:rb w0 k q a.heap.ag) {l C s} (L:C=a.heap.gc.ia.length) (V:rb w0 l s a.heap.gc.ia) {m G t} (M:G=a.ic.length) (W:rb w0 m t a.ic) :
    il Tryz.prog 108 #[.agg #[vS g y n,vS i z o,vS j A p,vS k B q,vI a.heap.gc.phase,vI a.heap.gc.pos,vI a.heap.gc.round,vS l C s,vS m G t,vI a.next,vI a.want,vI a.dW.cd,vI a.dW.ij,vI a.dW.iD,vI a.iz,vI a.lost]] w0 (fun v w=>v=.agg #[vI r.cd,vI r.ij,vI r.iD]∧St w0 [] w []):=by
 subst H I J K L M;unfold qu at h;refine il.fn Tryz.func108 fun e=>?_;have af:=St.start w0;refine go ?_;refine LW.bo af fun ay aB ah=>?_;refine LW.al ah fun az aC X=>?_;refine gb h fun aG am h=>?_;refine LW.c0 (wX am rfl (X.rB f)) X fun aD ai=>?_;refine LW.al ai fun aA aE aj=>?_;refine LW.st aj 0 fun aF ak=>?_;refine gb h fun av ac h=>?_;refine LW.c0 (lj ac) ak fun an Y=>?_;refine gc h ?_ ?_ <;> intro _ h
 · refine go ?_;refine LW.st Y 1 fun ao Z=>?_;refine go ?_;cases h;exact And.intro trivial ⟨_,jB.one (ib.b Z 1 rfl km rfl rfl),rfl,Z.pk []⟩
 refine go ?_;refine CW.draw (by kernel_rfl) ?_;have d:=Y.drew;refine gb h fun aw ad h=>?_;refine jO 3 ?_;refine LW.cl (Ex ad rfl (d.rB O) rfl (d.rB R) rfl (d.rB f) rfl (d.rB U) rfl (d.rB V) rfl (d.rB W)) ?_;rintro _ ap ⟨rfl,hs⟩;have u:=d.add hs;refine jN (jW (.c (u.ce 0) jZ)) ?_;refine go ?_;refine jO 6 ?_;refine LW.st u 0 fun aq aa=>?_;refine jN (jW (jW jZ)) ?_;refine gb h fun ax ae h=>?_;refine LW.c0 (ni ae) aa fun ar ab=>?_;refine LW.st ab 1 fun au x=>?_;refine go ?_;cases h;exact And.intro trivial ⟨_,jB.one (ib.b x 1 rfl km rfl rfl),rfl,x.pk []⟩
theorem tT {w0 N M Z aa ab r} (h:mR N M Z aa ab=some r) {g p j} (q:p=M.length) (f:rb w0 g j M) :
    il Tryz.prog 178 #[vS g p j,vI Z,vI aa,vI ab] w0 (fun v w=>v=vI r∧St w0 [] w []):=by
 subst q;unfold mR at h;refine il.fn Tryz.func178 fun e=>?_;have s:=St.start w0;refine gb h fun aR V h=>?_;refine LW.cl (zb V rfl (s.rB f)) ?_;rintro _ aP ⟨aN,aO,rfl,hs⟩;have l:=s.add hs;refine gs ?_;obtain ⟨ao,U,ae⟩:=ob h;refine CW.jn [0,3,9] [0] [(27,.bool ao)] l (h1:=?_) (h2:=?_)
 · have h:=U;refine gB h ?_ ?_ <;> intro _ h
   · refine go ?_;cases oi h;exact l.po [0]
   refine gb h fun aS W h=>?_;refine go ?_;refine LW.c0 (m3 W) l fun aQ t=>?_;refine gB h ?_ ?_ <;> intro _ h
   · refine go ?_;cases oi h;exact t.po [0]
   refine gb h fun aI I h=>?_;refine go ?_;refine LW.c0 (sA I) t fun aE R=>?_;refine go ?_;cases oi h;exact R.po [0]
 intro e aF u;have h:=ae;refine gc h ?_ ?_ <;> intro _ h
 · refine go ?_;cases h;exact fi u
 refine gb h fun aJ J h=>?_;refine LW.c0 (yB J) u fun aG x=>?_;refine gs ?_;obtain ⟨X,C,O⟩:=ob h;refine CW.jn [10] [] [(52,.bool X)] x (h1:=?_) (h2:=?_)
 · have h:=C;refine CW.draw (by kernel_rfl) ?_;have d:=x.drew;refine gb h fun aK K h=>?_;obtain ⟨av,aB,ac,rfl,a,af,ai,⟨aq,ay,ar,az,au,aA,rfl,ak,am,an⟩,n⟩:=f.idx K;refine go ?_;refine AW.take (i:=4) rfl (by kernel_rfl) rfl rfl (iF.iN w0 iY rfl (n 1 _ rfl)) (d.same _ a.1 a.2) ?_;refine gB h ?_ ?_ <;> intro m h
   · refine go ?_;cases oi h;exact d.po []
   refine go ?_;refine AW.take (i:=11) rfl (by kernel_rfl) (jS rfl rfl m) rfl (iF.iN w0 iY rfl (n 0 _ rfl)) (d.same _ a.1 a.2) ?_;refine gb h fun aL L h=>?_;refine jO 13 ?_;refine (LW.gY (jS rfl rfl m) ?_);refine LW.cl (zP L) ?_;rintro _ Y ⟨rfl,hs⟩;have b:=d.add hs;refine jN (.c (b.same _ a.1 a.2) (.c (b.same _ a.1 a.2) jZ)) ?_;refine gB h ?_ ?_ <;> intro A h
   · refine go ?_;cases oi h;exact b.po []
   refine gb h fun aM o h=>?_;obtain ⟨aw,aC,hae,ah,aj⟩:=b.iJ (α:=Bool) (i:=0) rfl o;subst hae;refine go ?_;obtain ⟨ap,H,y⟩:=b.freeze (α:=Bool) 0 rfl;obtain ⟨ax,aD,ad,hae,z,_,_,B,G⟩:=H.jX.idx o;cases hae;obtain rfl:=B;refine AW.take (i:=20) rfl (by kernel_rfl) (jS rfl rfl A) rfl (iF.iN Y pd rfl (G 0 _ rfl)) (y.zC 0 rfl z) ?_;refine go ?_;cases oi h;exact y.po []
 intro e aH k;have h:=O;refine gc h ?_ ?_ <;> intro _ h
 · refine go ?_;cases h;exact fi k
 refine go ?_;cases h;exact fi k
theorem BI {w0 N k r} (h:qJ N k=some r) {f G g} (H:G=k.parts.length) (I:rb w0 f g k.parts) :
    il Tryz.prog 103 #[.agg #[vI k.now,vS f G g]] w0 (fun v w=>v=.bool r∧St w0 [] w []):=by
 subst H;unfold qJ at h;refine il.fn Tryz.func103 fun e=>?_;have ad:=St.start w0;refine go ?_;refine LW.bo ad fun a1 a2 K=>?_;refine gs ?_;obtain ⟨ar,aj,ao⟩:=ob h;refine CW.jn [1] [0] [(16,.bool ar)] K (h1:=?_) (h2:=?_)
 · have h:=aj;refine gb h fun a5 ak h=>?_;refine LW.c0 (mA ak) K fun a3 L=>?_;refine gB h ?_ ?_ <;> intro _ h
   · refine go ?_;cases oi h;exact L.po [0]
   refine gb h fun a6 am h=>?_;refine go ?_;refine LW.c0 (jd am) L fun a4 ae=>?_;refine go ?_;cases oi h;exact ae.po [0]
 intro e aK M;have h:=ao;refine gc h ?_ ?_ <;> intro _ h
 · refine go ?_;cases h;exact fi M
 refine go ?_;refine LW.u (iC.build (vs:=[]) (cs:=#[vI 0,vI 0,vI 0]) rfl (by kernel_rfl)) rfl ?_;refine LW.al M fun i aL af=>?_;refine LW.st af 0 fun aM ah=>?_;refine go ?_;obtain ⟨O,X,J⟩:=ob h;refine CW.it X (fun d e wb=>En e [(3,.pointer (some ⟨i,0,none⟩)),(19,vS f k.parts.length g),(20,vI (k.parts.length:Int)),(21,vI d.1)]∧St w0 [] wb [bx i 35 [vI d.2.1,vI d.2.2.1,vI d.2.2.2]]) (fun o x e wb=>match o with | .inl d=>x=.exit 0∧En e [(3,.pointer (some ⟨i,0,none⟩))]∧St w0 [] wb [bx i 35 [vI d.2.1,vI d.2.2.1,vI d.2.2.2]] | .inr r=>x=.ret∧∃ u,u=r∧∃ v,jB Tryz.prog Tryz.f103.results e wb v∧v=.bool u∧St w0 [] wb []) ?_ (ah.po [0]) ?_
 · intro d e aN o hM h;obtain ⟨hE,q⟩:=hM;obtain ⟨e,rfl⟩:=hE.out;refine gc h ?_ ?_ <;> intro _ h
   · refine gb h fun aW Y h=>?_;obtain ⟨aA,aI,an,rfl,s,ap,aq,⟨au,aB,av,aC,aw,aD,ax,aE,ay,aF,az,aG,rfl,t,y,z,A,B,C⟩,W⟩:=I.idx Y;refine go ?_;refine LW.l (iF.jF w0 jm rfl rfl (fun j u hu=>W j u hu)) (q.same _ s.1 s.2) rfl ?_;refine LW.al q fun aH aO ai=>?_;refine LW.st ai 0 fun aP a=>?_;refine gb h fun aX Z h=>?_;refine LW.c0 (vd Z rfl (a.rB t) rfl (a.rB y) rfl (a.rB z) rfl (a.rB A) rfl (a.rB B) rfl (a.rB C)) a fun aQ m=>?_;refine go ?_;refine CW.fl [3,5,19,20,21,27] fun e=>?_;refine gc h ?_ ?_ <;> intro _ h
     · refine go ?_;cases oi h;exact ⟨trivial,rfl,_,rfl,rx ⟨rfl,m.pk []⟩⟩
     refine go ?_;refine CW.draw (by kernel_rfl) ?_;have b:=m.drew;refine gb h fun aY aa h=>?_;refine jO 2 ?_;refine LW.cl (BO aa rfl (b.rB t) rfl (b.rB y) rfl (b.rB z) rfl (b.rB A) rfl (b.rB B) rfl (b.rB C)) ?_;rintro _ aR ⟨rfl,hs⟩;have n:=b.add hs;refine jN (jW (.c (n.ce 1) jZ)) ?_;have ⟨aZ,ab,h⟩:=ob h;refine jO 3 ?_;refine LW.cl (ni ab) ?_;rintro _ aS ⟨rfl,hs⟩;have p:=n.add hs;refine jN (.c (p.ce 0) (jW jZ)) ?_;refine jO 4 ?_;refine LW.st p 1 fun aT R=>?_;refine jN (jW (jW jZ)) ?_;refine go ?_;cases oi h;exact ⟨rfl,(R.po [1])⟩
   refine go ?_;cases oi h;exact ⟨trivial,rfl,(q.po [0])⟩
 intro x e aU hM;rcases O with O | aJ
 · obtain ⟨rfl,hM⟩:=hM;obtain ⟨hE,U⟩:=hM;obtain ⟨e,rfl⟩:=hE.out;have h:=J;refine gb h fun a0 ac h=>?_;refine LW.c0 (lj ac) U fun aV V=>?_;refine go ?_;cases h;exact fi V
 obtain ⟨rfl,u,rfl,hM⟩:=hM;cases J;exact And.intro trivial hM
end Go.Kx
