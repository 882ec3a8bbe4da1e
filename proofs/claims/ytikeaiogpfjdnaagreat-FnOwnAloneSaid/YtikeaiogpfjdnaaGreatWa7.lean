/- Each call returns what the plain function says. Printed by drive.py. -/
import Derived.Test.YtikeaiogpfjdnaaGreatFa
import Derived.Test.YtikeaiogpfjdnaaGreatPu
import Derived.Test.YtikeaiogpfjdnaaGreatWa4
import Derived.Test.YtikeaiogpfjdnaaGreatWa5
import Derived.Test.YtikeaiogpfjdnaaGreatWa6
namespace Go.Kx
open Go Go.RowKit Go.Proofs
set_option maxRecDepth 10000
set_option maxHeartbeats 8000000
set_option linter.unusedVariables false
set_option linter.unusedSimpArgs false
theorem zg {w0 N X aA r} (h:pz N X aA=some r) {k A m} (I:A=X.length) (d:rb w0 k m X) :
    il Tryz.prog 97 #[vS k A m,vI aA] w0 (fun v w=>∃ Y Z,v=vS Y r.length Z∧St w0 [] w [sl Y Z r]):=by
 subst I;unfold pz at h;refine il.fn Tryz.func97 fun e=>?_;have aE:=St.start w0;refine go ?_;refine LW.jL (α:=Int) (vs:=[]) (cs:=#[]) (l:=([]:List Int)) rfl (by kernel_rfl) rfl rfl rfl (fun w=>rfl) aE rfl ?_;intro aB aC cB s hf;refine gs ?_;obtain ⟨bB,aI,bf⟩:=ob h;refine CW.jn [0,1,5] [0] [(23,.bool bB)] s (h1:=?_) (h2:=?_)
 · have h:=aI;refine gb h fun cD aJ h=>?_;refine LW.c0 (nF aJ rfl (s.rB d)) s fun cC aa=>?_;refine gB h ?_ ?_ <;> intro _ h
   · refine go ?_;cases oi h;exact aa.po [0]
   refine gb h fun cE aK h=>?_;refine go ?_;refine LW.c0 (nq aK) aa fun co t=>?_;refine gB h ?_ ?_ <;> intro _ h
   · refine go ?_;cases oi h;exact t.po [0]
   refine gb h fun cu ar h=>?_;obtain ⟨b2,ck,bb,rfl,u,bg,bl,⟨bQ,b6,bR,b7,bS,b8,rfl,bp,bq,br⟩,an⟩:=d.idx ar;refine go ?_;refine LW.l (iF.iN w0 iY rfl (an 1 _ rfl)) (t.same _ u.1 u.2) rfl ?_;refine go ?_;cases oi h;exact t.po [0]
 intro e cp ab;have h:=bf;refine gc h ?_ ?_ <;> intro _ h
 · refine go ?_;cases h;exact Ra ⟨aB,aC,rfl,ab.pk [0]⟩
 refine go ?_;obtain ⟨bE,J,ae⟩:=ob h;refine CW.ie J 0 (fun f e wb=>∃ (b:Ad) (c:Nat),En e [(0,vS k X.length m),(1,vI aA),(5,vS b f.1.length c),(6,vI f.2)]∧St w0 [] wb [sl b c f.1]) ?_ ⟨aB,aC,ab.po [0]⟩ ?_
 · intro f e cq o hM h;obtain ⟨b,c,hE,a⟩:=hM;obtain ⟨e,rfl⟩:=hE.out;refine gc h ?_ ?_ <;> intro _ h
   · refine gs ?_;refine CW.block ?_;refine gs ?_;obtain ⟨aL,am,aD⟩:=ob h;refine CW.jn [0,1,5,6] [0] [(66,.bool aL)] a (h1:=?_) (h2:=?_)
     · have h:=am;refine gB h ?_ ?_ <;> intro _ h
       · refine gb h fun cv au h=>?_;obtain ⟨b3,cl,bc,rfl,g,bi,bm,⟨bT,b9,bU,ca,bV,cb,rfl,bs,bt,bu⟩,y⟩:=d.idx au;refine go ?_;refine LW.l (iF.iN w0 iY rfl (y 1 _ rfl)) (a.same _ g.1 g.2) rfl ?_;refine gB h ?_ ?_ <;> intro _ h
         · refine go ?_;refine LW.l (iF.iN w0 iY rfl (y 2 _ rfl)) (a.same _ g.1 g.2) rfl ?_;refine gB h ?_ ?_ <;> intro _ h
           · refine gb h fun cw av h=>?_;obtain ⟨b4,cm,bd,hae,j,bj,bn,aj,z⟩:=d.idx av;cases hae;obtain ⟨bW,cc,bX,ce,bY,cf,rfl,ap,bv,bw⟩:=aj;refine go ?_;refine LW.l (iF.iN w0 iY rfl (z 1 _ rfl)) (a.same _ j.1 j.2) rfl ?_;refine gB h ?_ ?_ <;> intro _ h
             · refine go ?_;cases oi h;exact a.po [0]
             refine go ?_;refine LW.l (iF.iN w0 nD rfl (z 10 _ rfl)) (a.same _ j.1 j.2) rfl ?_;refine gb h fun cx aw h=>?_;refine go ?_;refine LW.c0 (pP aw rfl (a.rB ap)) a fun cr aF=>?_;refine go ?_;cases oi h;exact aF.po [0]
           refine gb h fun cy ax h=>?_;obtain ⟨b5,cn,be,hae,x,bk,bo,ak,ao⟩:=d.idx ax;cases hae;obtain ⟨bZ,cg,b0,ci,b1,cj,rfl,aq,bz,bA⟩:=ak;refine go ?_;refine LW.l (iF.iN w0 nD rfl (ao 10 _ rfl)) (a.same _ x.1 x.2) rfl ?_;refine gb h fun cz ay h=>?_;refine go ?_;refine LW.c0 (pP ay rfl (a.rB aq)) a fun ct aG=>?_;refine go ?_;cases oi h;exact aG.po [0]
         refine go ?_;have ⟨cA,az,h⟩:=ob h;obtain ⟨a3,bC,aM,hae,n,aO,aQ,B,C⟩:=d.idx az;cases hae;obtain ⟨aW,a5,aX,a6,aY,a7,rfl,K,aS,aT⟩:=B;refine go ?_;refine LW.l (iF.iN w0 nD rfl (C 10 _ rfl)) (a.same _ n.1 n.2) rfl ?_;refine gb h fun bM R h=>?_;refine go ?_;refine LW.c0 (pP R rfl (a.rB K)) a fun bG aH=>?_;refine go ?_;cases oi h;exact aH.po [0]
       refine go ?_;have ⟨bN,U,h⟩:=ob h;obtain ⟨a4,bD,aN,rfl,p,aP,aR,⟨aZ,a8,a0,a9,a2,ba,rfl,O,aU,aV⟩,H⟩:=d.idx U;refine go ?_;refine LW.l (iF.iN w0 nD rfl (H 10 _ rfl)) (a.same _ p.1 p.2) rfl ?_;refine gb h fun bO V h=>?_;refine go ?_;refine LW.c0 (pP V rfl (a.rB O)) a fun bI af=>?_;refine go ?_;cases oi h;exact af.po [0]
     intro e bJ q;have h:=aD;refine gc h ?_ ?_ <;> intro _ h
     · refine gb h fun bP W h=>?_;refine LW.kV (M:=[]) (L:=[sl b c f.1]) (vs:=#[vI f.2]) (i:=0) lL rfl (by kernel_rfl) rfl rfl W q rfl (fun w G hG=>by cases (show G=[] from hG);exact ⟨rfl,rfl⟩) rfl rfl ?_;intro bF ac ad bK ah hf;refine go ?_;cases oi h;exact ⟨rfl,⟨ac,ad,ah.po [0]⟩⟩
     refine go ?_;cases oi h;exact ⟨rfl,⟨b,c,q.po [0]⟩⟩
   refine go ?_;cases oi h;exact ⟨trivial,rfl,⟨b,c,a.po [0]⟩⟩
 rintro e bL ⟨b,c,hE,ai⟩;obtain ⟨e,rfl⟩:=hE.out;have h:=ae;refine go ?_;cases h;exact Ra ⟨b,c,rfl,ai.pk [0]⟩
theorem sa {w0 N n s r} (h:mB N n s=some r) {b g c} (i:g=n.length) (a:rb w0 b c n) :
    il Tryz.prog 66 #[vS b g c,vI s] w0 (fun v w=>v=.bool r∧St w0 [] w []):=by
 subst i;unfold mB at h;refine il.fn Tryz.func66 fun e=>?_;have j:=St.start w0;refine gb h fun C o h=>?_;refine LW.c0 (u7 o rfl (j.rB a)) j fun A k=>?_;refine gB h ?_ ?_ <;> intro _ h
 · refine gb h fun G p h=>?_;refine go ?_;refine LW.c0 (nu p) k fun B d=>?_;refine gB h ?_ ?_ <;> intro _ h
   · refine gb h fun H q h=>?_;obtain ⟨u,z,t,rfl,f,x,y,rfl,m⟩:=a.idx q;refine go ?_;refine LW.l (iF.iN w0 pd rfl (m 0 _ rfl)) (d.same _ f.1 f.2) rfl ?_;refine go ?_;cases h;exact fi d
   refine go ?_;cases h;exact fi d
 refine go ?_;cases h;exact fi k
theorem yb {w0 N a c r} (h:sb N a c=some r) :
    il Tryz.prog 294 #[.agg #[vI a.cd,vI a.ij,vI a.iD],.agg #[vI c.cd,vI c.ij,vI c.iD]] w0 (fun v w=>v=.tuple #[.agg #[vI r.1.cd,vI r.1.ij,vI r.1.iD],.bool r.2]∧St w0 [] w []):=by
 unfold sb at h;refine il.fn Tryz.func294 fun e=>?_;have i:=St.start w0;refine go ?_;refine LW.bo i fun p t j=>?_;refine LW.bo j fun q x k=>?_;refine LW.al k fun s y l=>?_;refine gb h fun A m h=>?_;refine LW.c0 (Bo m) l fun z d=>?_;refine gc h ?_ ?_ <;> intro _ h
 · refine go ?_;refine LW.st d 0 fun n f=>?_;refine go ?_;cases h;exact Rc (ib.b f 0 rfl km rfl rfl) tt ⟨rfl,f.pk []⟩
 refine go ?_;refine LW.u (iC.build (vs:=[(0,vI (IntKind.i64.wrap (a.cd - c.cd))),(1,vI (IntKind.i64.wrap (a.ij - c.ij))),(2,vI (IntKind.i64.wrap (a.iD - c.iD)))]) (cs:=#[vI (IntKind.i64.wrap (a.cd - c.cd)),vI (IntKind.i64.wrap (a.ij - c.ij)),vI (IntKind.i64.wrap (a.iD - c.iD))]) rfl (by kernel_rfl)) rfl ?_;refine LW.st d 0 fun o g=>?_;refine go ?_;cases h;exact Rc (ib.b g 0 rfl km rfl rfl) tt ⟨rfl,g.pk []⟩
theorem tP {w0 N aP b r} (h:mW N aP b=some r) {aa ap ab} (av:ap=aP.length) (c:rb w0 aa ab aP) {d X j} (ah:X=b.ig.length) (ak:rb w0 d j b.ig) {f Y k} (ai:Y=b.data.length) (am:rb w0 f k b.data) {g Z m} (aj:Z=b.queue.length) (an:rb w0 g m b.queue) :
    il Tryz.prog 210 #[vS aa ap ab,.agg #[vI b.gen,vI b.kind,vI b.box,vI b.res,vI b.iL,vI b.cd,vI b.wait,vI b.iK,vI b.iM,.bool b.mark,vS d X j,vS f Y k,vS g Z m]] w0 (fun v w=>∃ B K,v=.tuple #[vS B r.1.length K,vI r.2]∧St w0 [] w [sl B K r.1]):=by
 subst av ah ai aj;unfold mW at h;refine il.fn Tryz.func210 fun e=>?_;have aW:=St.start w0;refine go ?_;refine LW.bo aW fun aT bT ay=>?_;refine gb h fun aq aZ h=>?_;refine LW.cl (tq aZ rfl (ay.rB c)) ?_;rintro _ bU ⟨aQ,U,rfl,hs⟩;have az:=ay.add hs;refine gb h fun bW a0 h=>?_;refine LW.c0 (nF a0 rfl (az.rB c)) az fun bV aA=>?_;refine gc h ?_ ?_ <;> intro _ h
 · refine go ?_;cases h;exact Rc tt tt ⟨aQ,U,rfl,aA.pk [0]⟩
 refine go ?_;obtain ⟨aC,aJ,ax⟩:=ob h;refine CW.mono (CW.lx [0,3,6] [0,1] [6] 0 (fun R=>[(7,vI R)]) (fun r x e wb=>x=.ret∧∃ u,u=r∧∃ v,jB Tryz.prog Tryz.f210.results e wb v∧∃ B K,v=.tuple #[vS B u.1.length K,vI u.2]∧St w0 [] wb [sl B K u.1]) aA aJ (hb:=?_)) ?_
 · intro R e bE o n h;refine go ?_;refine CW.fl [0,3,6,7,18] fun e=>?_;refine gc h ?_ ?_ <;> intro _ h
   · refine gs ?_;refine CW.block ?_;refine gs ?_;obtain ⟨a1,aG,aU⟩:=ob h;refine CW.jn [0,3,6,7] [0,1] [(34,.bool a1)] n (h1:=?_) (h2:=?_)
     · have h:=aG;refine gb h fun bQ aK h=>?_;obtain ⟨br,bB,a5,rfl,s,a7,ba,⟨bk,bt,bl,bu,bm,bv,rfl,bd,be,bf⟩,af⟩:=c.idx aK;refine go ?_;refine LW.l (iF.iN w0 iY rfl (af 1 _ rfl)) (n.same _ s.1 s.2) rfl ?_;refine gB h ?_ ?_ <;> intro _ h
       · refine go ?_;cases oi h;exact n.po [0,1]
       refine go ?_;refine LW.l (iF.iN w0 iY rfl (af 0 _ rfl)) (n.same _ s.1 s.2) rfl ?_;refine go ?_;cases oi h;exact n.po [0,1]
     intro e bF O;have h:=aU;refine gc h ?_ ?_ <;> intro _ h
     · refine go ?_;cases oi h;exact ⟨rfl,(O.po [0,1])⟩
     refine gb h fun a aL h=>?_;refine LW.cl (zF aL rfl (O.rB ak) rfl (O.rB am) rfl (O.rB an)) ?_;rintro _ bG ⟨t,H,y,I,A,J,rfl,hs⟩;have aX:=O.add hs;refine LW.al aX fun aw bI aY=>?_;refine LW.st aY 0 fun bJ aB=>?_;refine gb h fun ar aM h=>?_;obtain ⟨bs,bC,a6,rfl,ae,a8,bb,⟨bn,bw,bp,bz,bq,bA,rfl,bg,bi,bj⟩,aI⟩:=c.idx aM;refine go ?_;refine LW.l (iF.iN w0 iY rfl (aI 0 _ rfl)) (aB.same _ ae.1 ae.2) rfl ?_;refine go ?_;refine LW.st aB 0 fun bK ac=>?_;refine gb h fun a3 ao h=>?_;obtain ⟨C,p,hae,a9,bc⟩:=ac.iJ (α:=bh) (i:=4) rfl ao;subst hae;refine go ?_;have aD:=ac.pk (M:=[sl t H a.ig,sl y I a.data,sl A J a.queue]++[bx aw 44 [vI (IntKind.i64.wrap (ar.gen+1)),vI a.kind,vI a.box,vI a.res,vI a.iL,vI a.cd,vI a.wait,vI a.iK,vI a.iM,.bool a.mark,vS t a.ig.length H,vS y a.data.length I,vS A a.queue.length J],sl (some ⟨C,p,none⟩) U aq,bx aT 44 (qO d j f k g m b)]) [1,2,3,0,4,5];have ⟨au,W,h⟩:=ob h;refine LW.yZ (M:=[sl t H a.ig,sl y I a.data,sl A J a.queue]) (L:=[bx aw 44 [vI (IntKind.i64.wrap (ar.gen+1)),vI a.kind,vI a.box,vI a.res,vI a.iL,vI a.cd,vI a.wait,vI a.iK,vI a.iM,.bool a.mark,vS t a.ig.length H,vS y a.data.length I,vS A a.queue.length J],sl (some ⟨C,p,none⟩) U aq,bx aT 44 (qO d j f k g m b)]) (z:=a3) (z':=(bh.mk (IntKind.i64.wrap (ar.gen+1)) a.kind a.box a.res a.iL a.cd a.wait a.iK a.iM a.mark a.ig a.data a.queue)) (o:=0) aD (i:=1) rfl ao lI rfl (by show _=p+(R:Int).toNat * 13+0;omega) rfl rfl rfl rfl (whole (fun w G hG=>⟨t,H,y,I,A,J,rfl,hG⟩)) ?_;intro bL q hf;rw [oi W] at q;refine gs ?_;obtain ⟨a2,aH,aV⟩:=ob h;refine CW.jn [0,6,7] [1] [(55,.bool a2)] q (h1:=?_) (h2:=?_)
     · have h:=aH;refine gb h fun bR aN h=>?_;refine LW.c0 (nF aN (show aq.length=au.length from (iH (oi W))) (q.rI 1 rfl)) q fun bM ad=>?_;refine gB h ?_ ?_ <;> intro _ h
       · refine go ?_;cases oi h;exact ad.po [1]
       refine go ?_;cases oi h;exact ad.po [1]
     intro e bN V;have h:=aV;refine go ?_;refine CW.fl [0,6,7,55] fun e=>?_;refine gc h ?_ ?_ <;> intro _ h
     · refine gb h fun bS aO h=>?_;refine LW.cl (tq aO rfl (V.rB c)) ?_;rintro _ bO ⟨aR,aS,rfl,hs⟩;have aE:=V.add hs;refine go ?_;cases oi h;exact ⟨trivial,rfl,_,rfl,ry tt tt ⟨aR,aS,rfl,aE.pk [0]⟩⟩
     refine go ?_;replace h:=oi h;subst h;exact ⟨trivial,rfl,_,rfl,ry tt tt ⟨(some ⟨C,p,none⟩),U,(show (.tuple #[vS (some ⟨C,p,none⟩) aq.length U,vI R]:Value)=.tuple #[vS (some ⟨C,p,none⟩) au.length U,vI R] by rw [show aq.length=au.length from (iH (oi W))]),V.pk [0]⟩⟩
   refine go ?_;cases oi h;exact ⟨trivial,rfl,(n.po [0,1])⟩
 intro x e bP hM;rcases aC with aC | bD
 · obtain ⟨rfl,hM⟩:=hM;obtain ⟨e,rfl,aF⟩:=eo hM;have h:=ax;refine go ?_;cases h;exact Rc tt tt ⟨aQ,U,rfl,aF.pk [0]⟩
 obtain ⟨rfl,u,rfl,hM⟩:=hM;cases ax;exact And.intro trivial hM
theorem nV {w0 N a r} (h:kX N a=some r) {C Y L} (ae:Y=a.label.levels.length) (am:rb w0 C L a.label.levels) {G Z M} (af:Z=a.own.length) (an:rb w0 G M a.own) {H aa O} (ah:aa=a.tree.length) (ao:rb w0 H O a.tree) {I ab R} (ai:ab=a.heap.ag.length) (ap:rb w0 I R a.heap.ag) {J ac U} (aj:ac=a.heap.gc.ia.length) (aq:rb w0 J U a.heap.gc.ia) {K ad V} (ak:ad=a.ic.length) (ar:rb w0 K V a.ic) :
    il Tryz.prog 67 #[.agg #[vS C Y L,vS G Z M,vS H aa O,vS I ab R,vI a.heap.gc.phase,vI a.heap.gc.pos,vI a.heap.gc.round,vS J ac U,vS K ad V,vI a.next,vI a.want,vI a.dW.cd,vI a.dW.ij,vI a.dW.iD,vI a.iz,vI a.lost]] w0 (fun v w=>∃ j s, ∃ k t, ∃ n x, ∃ o y, ∃ p z, ∃ q A,v=.agg #[vS j r.label.levels.length s,vS k r.own.length t,vS n r.tree.length x,vS o r.heap.ag.length y,vI r.heap.gc.phase,vI r.heap.gc.pos,vI r.heap.gc.round,vS p r.heap.gc.ia.length z,vS q r.ic.length A,vI r.next,vI r.want,vI r.dW.cd,vI r.dW.ij,vI r.dW.iD,vI r.iz,vI r.lost]∧St w0 [] w [sl j s r.label.levels,sl k t r.own,sl n x r.tree,sl o y r.heap.ag,sl p z r.heap.gc.ia,sl q A r.ic]):=by
 subst ae af ah ai aj ak;unfold kX at h;refine il.fn Tryz.func67 fun e=>?_;have aN:=St.start w0;refine go ?_;refine LW.bo aN fun bc be aO=>?_;refine LW.al aO fun bd bf aP=>?_;refine go ?_;refine CW.draw (by kernel_rfl) ?_;have au:=aP.drew;refine gb h fun bi aR h=>?_;refine jO 2 ?_;refine LW.cl (zU aR rfl (au.rB am)) ?_;rintro _ bg ⟨aT,aU,rfl,hs⟩;have f:=au.add hs;refine jN (.c (f.ce 2) (.c (f.ce 2) (.c (f.ce 2) (jW jZ)))) ?_;refine AW.u (i:=12) rfl (by kernel_rfl) rfl rfl (iC.fa Gy rfl) ?_;have ⟨bj,aS,h⟩:=ob h;refine jO 5 ?_;refine LW.cl (l8 aS rfl (f.rB an)) ?_;rintro _ aX ⟨aD,aI,rfl,hs⟩;have g:=f.add hs;refine jN (.c (g.ce 3) (.c (g.ce 3) (jW (.c (g.ce 3) jZ)))) ?_;have ⟨a9,aA,h⟩:=ob h;refine jO 8 ?_;refine LW.cl (n8 aA rfl (g.rB ao)) ?_;rintro _ aY ⟨aE,aJ,rfl,hs⟩;have d:=g.add hs;refine jN (.c (d.ce 4) (jW (.c (d.ce 4) (.c (d.ce 4) jZ)))) ?_;have ⟨ba,aB,h⟩:=ob h;refine jO 11 ?_;refine LW.cl (tX aB rfl (d.rB ap) rfl (d.rB aq)) ?_;rintro _ aZ ⟨aF,aK,aG,aL,rfl,hs⟩;have B:=d.add hs;refine jN (jW (.c (B.ce 6) (.c (B.ce 6) (.c (B.ce 6) jZ)))) ?_;refine jO 13 ?_;refine LW.st B 6 fun a0 aQ=>?_;refine jN (jW (jW (jW (jW jZ)))) ?_;refine go ?_;refine jO 15 ?_;refine LW.st aQ 6 fun a1 av=>?_;refine jN (jW (jW (jW (jW jZ)))) ?_;refine go ?_;refine jO 17 ?_;refine LW.st av 6 fun a2 aw=>?_;refine jN (jW (jW (jW (jW jZ)))) ?_;refine go ?_;refine jO 19 ?_;refine LW.st aw 6 fun a3 ax=>?_;refine jN (jW (jW (jW (jW jZ)))) ?_
 refine go ?_;refine LW.jL (α:=jy) (vs:=[]) (cs:=#[]) (l:=([]:List jy)) rfl (by kernel_rfl) rfl rfl rfl (fun w=>rfl) ax rfl ?_;intro aV aW a4 W hf;refine gb h fun bb aC h=>?_;refine LW.j9 (l:=([]:List jy)) (m:=a.ic) vi rfl rfl (W.rB ar) aC W (i:=0) rfl rfl ?_;intro aH aM a5 ay hf;refine go ?_;refine LW.st ay 7 fun a7 az=>?_;refine go ?_;refine LW.st az 6 fun a8 X=>?_;refine go ?_;cases h;exact And.intro trivial ⟨_,jB.one (ib.b X 6 rfl jm rfl rfl),aT,aU,aD,aI,aE,aJ,aF,aK,aG,aL,aH,aM,rfl,X.pk [5,4,3,1,2,0]⟩
theorem qe {w0 N m r} (h:lT N m=some r) {c y d} (z:y=m.length) (g:rb w0 c d m) :
    il Tryz.prog 152 #[vS c y d] w0 (fun v w=>v=.bool r∧St w0 [] w []):=by
 subst z;unfold lT at h;refine il.fn Tryz.func152 fun e=>?_;have b:=St.start w0;refine gs ?_;refine CW.region ?_;refine gs ?_;obtain ⟨ak,ac,h2⟩:=ob h;refine CW.jn [0] [] [(22,.bool ak)] b (h1:=?_) (h2:=?_)
 · have h:=ac;refine gB h ?_ ?_ <;> intro _ h
   · refine go ?_;cases oi h;exact b.po []
   refine gb h fun aO ad h=>?_;obtain ⟨aM,aN,an,rfl,f,ap,aq,rfl,t⟩:=g.idx ad;refine go ?_;refine LW.l (iF.iN w0 pd rfl (t 0 _ rfl)) (b.same _ f.1 f.2) rfl ?_;refine gB h ?_ ?_ <;> intro _ h
   · refine go ?_;cases oi h;exact b.po []
   refine go ?_;refine LW.l (iF.iN w0 iY rfl (t 1 _ rfl)) (b.same _ f.1 f.2) rfl ?_;refine go ?_;cases oi h;exact b.po []
 intro e av B;have h:=h2;refine gc h ?_ ?_ <;> intro _ h
 · refine go ?_;cases h;exact fi B
 refine go ?_;refine LW.u (iC.build (vs:=[]) (cs:=#[vI 0,vI 0,vI 0]) rfl (by kernel_rfl)) rfl ?_;refine LW.al B fun i aw Y=>?_;refine LW.st Y 0 fun ax Z=>?_;refine go ?_;obtain ⟨C,M,A⟩:=ob h;refine CW.it M (fun a e wb=>En e [(0,vS c m.length d),(3,.pointer (some ⟨i,0,none⟩)),(24,vS c m.length d),(25,vI (m.length:Int)),(26,vI a.1)]∧St w0 [] wb [bx i 35 [vI a.2.1,vI a.2.2.1,vI a.2.2.2]]) (fun o x e wb=>match o with | .inl a=>x=.exit 0∧En e [(3,.pointer (some ⟨i,0,none⟩))]∧St w0 [] wb [bx i 35 [vI a.2.1,vI a.2.2.1,vI a.2.2.2]] | .inr r=>x=.ret∧∃ u,u=r∧∃ v,jB Tryz.prog Tryz.f152.results e wb v∧v=.bool u∧St w0 [] wb []) ?_ (Z.po [0]) ?_
 · intro a e ay o hM h;obtain ⟨e,rfl,p⟩:=eo hM;refine gc h ?_ ?_ <;> intro _ h
   · refine gb h fun af O h=>?_;obtain ⟨am,ar,ah,rfl,s,ai,aj,rfl,L⟩:=g.idx O;refine go ?_;refine LW.l (iF.jF w0 xp rfl rfl (fun j u hu=>L j u hu)) (p.same _ s.1 s.2) rfl ?_;refine LW.al p fun ao az aa=>?_;refine go ?_;refine LW.st aa 0 fun aA k=>?_;refine go ?_;refine CW.fl [0,3,4,5,24,25,26,33] fun e=>?_;refine gc h ?_ ?_ <;> intro _ h
     · refine go ?_;refine LW.u (iC.build (vs:=[]) (cs:=#[.bool false,vI 0,vI 0,vI 0,vI 0]) rfl (by kernel_rfl)) rfl ?_;refine LW.u (iC.A2 EC rfl rfl (fun w=>Ew af (iy.mk false 0 (iB.mk 0 0 0)) w)) rfl ?_;refine gc h ?_ ?_ <;> intro _ h
       · refine go ?_;cases oi h;exact ⟨trivial,rfl,_,rfl,rx ⟨rfl,k.pk []⟩⟩
       refine go ?_;cases oi h;exact ⟨rfl,(k.po [1])⟩
     refine gs ?_;obtain ⟨ae,K,X⟩:=ob h;refine CW.jn [0,3,5,24,25,26] [0,1] [(46,.bool ae)] k (h1:=?_) (h2:=?_)
     · have h:=K;refine gb h fun aI R h=>?_;refine LW.c0 (lj R) k fun aB q=>?_;refine gB h ?_ ?_ <;> intro _ h
       · refine go ?_;cases oi h;exact q.po [0,1]
       refine gb h fun aJ U h=>?_;refine go ?_;refine LW.c0 (Bu U rfl (q.rB g)) q fun aC ab=>?_;refine go ?_;cases oi h;exact ab.po [0,1]
     intro e aD n;have h:=X;refine gc h ?_ ?_ <;> intro _ h
     · refine go ?_;cases oi h;exact ⟨trivial,rfl,_,rfl,rx ⟨rfl,n.pk []⟩⟩
     refine gb h fun aK V h=>?_;refine LW.c0 (ni V) n fun aE G=>?_;refine LW.st G 1 fun aF H=>?_;refine go ?_;cases oi h;exact ⟨rfl,(H.po [1])⟩
   refine go ?_;cases oi h;exact ⟨trivial,rfl,(p.po [0])⟩
 intro x e aG hM;rcases C with C | au
 · obtain ⟨rfl,hM⟩:=hM;obtain ⟨e,rfl,I⟩:=eo hM;have h:=A;refine gb h fun aL W h=>?_;refine LW.c0 (lj W) I fun aH J=>?_;refine go ?_;cases h;exact fi J
 obtain ⟨rfl,u,rfl,hM⟩:=hM;cases A;exact And.intro trivial hM
theorem sU {w0 N an r} (h:mF N an=some r) {m B n} (I:B=an.length) (c:rb w0 m n an) :
    il Tryz.prog 223 #[vS m B n] w0 (fun v w=>v=.bool r∧St w0 [] w []):=by
 subst I;unfold mF at h;refine il.fn Tryz.func223 fun e=>?_;have b:=St.start w0;refine gs ?_;refine CW.region ?_;refine gs ?_;obtain ⟨aY,ar,h2⟩:=ob h;refine CW.jn [0] [] [(30,.bool aY)] b (h1:=?_) (h2:=?_)
 · have h:=ar;refine gB h ?_ ?_ <;> intro _ h
   · refine go ?_;cases oi h;exact b.po []
   refine gb h fun bQ au h=>?_;obtain ⟨bO,bP,br,rfl,a,bt,bu,⟨a4,bi,a5,bj,a6,bk,rfl,aS,aT,aU⟩,i⟩:=c.idx au;refine go ?_;refine LW.l (iF.iN w0 iY rfl (i 1 _ rfl)) (b.same _ a.1 a.2) rfl ?_;refine gB h ?_ ?_ <;> intro _ h
   · refine go ?_;cases oi h;exact b.po []
   refine go ?_;refine LW.l (iF.iN w0 iY rfl (i 2 _ rfl)) (b.same _ a.1 a.2) rfl ?_;refine gB h ?_ ?_ <;> intro _ h
   · refine go ?_;cases oi h;exact b.po []
   refine go ?_;refine LW.l (iF.iN w0 iY rfl (i 4 _ rfl)) (b.same _ a.1 a.2) rfl ?_;refine go ?_;cases oi h;exact b.po []
 intro e bB L;have h:=h2;refine gc h ?_ ?_ <;> intro _ h
 · refine go ?_;cases h;exact fi L
 refine go ?_;obtain ⟨G,K,q⟩:=ob h;refine CW.mono (CW.lx [0,31,32] [] [] 0 (fun R=>[(33,vI R)]) (RT Tryz.prog Tryz.f223.results (fun u=>.bool u) w0 []) L K (hb:=?_)) ?_
 · intro R e bC o s h;refine gc h ?_ ?_ <;> intro _ h
   · refine gb h fun bJ ah h=>?_;obtain ⟨bd,bv,aG,rfl,t,aK,aO,⟨a7,bl,a8,bm,a9,bn,rfl,A,ae,af⟩,ab⟩:=c.idx ah;refine go ?_;refine LW.l (iF.jF w0 lI rfl rfl (fun j u hu=>ab j u hu)) (s.same _ t.1 t.2) rfl ?_;refine LW.al s fun bs bD aq=>?_;refine go ?_;refine LW.st aq 0 fun bE g=>?_;refine gs ?_;obtain ⟨av,Z,ao⟩:=ob h;refine CW.jn [0,4,31,32,33] [0] [(63,.bool av)] g (h1:=?_) (h2:=?_)
     · have h:=Z;refine gb h fun bK ai h=>?_;refine LW.c0 (zw ai rfl (g.rB A) rfl (g.rB ae) rfl (g.rB af)) g fun bF d=>?_;refine gB h ?_ ?_ <;> intro _ h
       · refine go ?_;cases oi h;exact d.po [0]
       refine gB h ?_ ?_ <;> intro _ h
       · refine go ?_;refine bH h ?_ ?_ <;> intro _ h
         · refine gB h ?_ ?_ <;> intro _ h
           · refine gb h fun bL aj h=>?_;obtain ⟨be,bw,aH,hae,y,aL,aP,X,ac⟩:=c.idx aj;cases hae;obtain ⟨ba,bo,bb,bp,bc,bq,rfl,aV,aW,aX⟩:=X;refine go ?_;refine LW.l (iF.iN w0 iY rfl (ac 1 _ rfl)) (d.same _ y.1 y.2) rfl ?_;refine go ?_;cases oi h;exact d.po [0]
           refine go ?_;cases oi h;exact d.po [0]
         refine go ?_;cases oi h;exact d.po [0]
       refine go ?_;cases oi h;exact d.po [0]
     intro e bG M;have h:=ao;refine gc h ?_ ?_ <;> intro _ h
     · refine go ?_;cases oi h;exact ⟨trivial,rfl,_,rfl,rx ⟨rfl,M.pk []⟩⟩
     refine go ?_;obtain ⟨C,J,p⟩:=ob h;refine CW.mono (CW.lx [0,31,32,33,65,66] [] [0,31,32,33] 2 (fun U=>[(67,vI U)]) (RT Tryz.prog Tryz.f223.results (fun u=>.bool u) w0 []) M J (hb:=?_)) ?_
     · intro U e bI o f h;refine go ?_;refine CW.fl [0,31,32,33,65,66,67,68] fun e=>?_;refine gc h ?_ ?_ <;> intro _ h
       · refine gb h fun bM ak h=>?_;obtain ⟨bf,bz,aI,rfl,z,aM,aQ,rfl,ad⟩:=A.idx ak;refine go ?_;refine LW.l (iF.iN w0 iY rfl (ad 0 _ rfl)) (f.same _ z.1 z.2) rfl ?_;refine gs ?_;obtain ⟨aw,aa,ap⟩:=ob h;refine CW.jn [0,31,32,33,65,66,67] [] [(80,.bool aw)] f (h1:=?_) (h2:=?_)
         · have h:=aa;refine gB h ?_ ?_ <;> intro _ h
           · refine gb h fun bN am h=>?_;obtain ⟨bg,bA,aJ,hae,k,aN,aR,Y,H⟩:=c.idx am;cases hae;obtain ⟨aA,aD,aB,aE,aC,aF,rfl,ax,ay,az⟩:=Y;refine go ?_;refine LW.l (iF.iN w0 iY rfl (H 1 _ rfl)) (f.same _ k.1 k.2) rfl ?_;refine go ?_;cases oi h;exact f.po []
           refine go ?_;cases oi h;exact f.po []
         intro e a1 O;have h:=ap;refine gc h ?_ ?_ <;> intro _ h
         · refine go ?_;cases oi h;exact ⟨trivial,rfl,_,rfl,rx ⟨rfl,O.pk []⟩⟩
         refine go ?_;cases oi h;exact ⟨rfl,(O.po [])⟩
       refine go ?_;cases oi h;exact ⟨trivial,rfl,(f.po [])⟩
     intro x e a2 hM;rcases C with C | aZ
     · obtain ⟨rfl,hM⟩:=hM;obtain ⟨e,rfl,V⟩:=eo hM;have h:=p;refine go ?_;cases oi h;exact ⟨rfl,(V.po [])⟩
     obtain ⟨rfl,u,rfl,hM⟩:=hM;cases p;exact ⟨trivial,rfl,_,rfl,hM⟩
   refine go ?_;cases oi h;exact ⟨trivial,rfl,⟨trivial,s.pk []⟩⟩
 intro x e a3 hM;rcases G with G | a0
 · obtain ⟨rfl,hM⟩:=hM;obtain ⟨e,rfl,W⟩:=eo hM;rw [show e=iQ e [] from rfl];have h:=q;refine go ?_;cases h;exact fi W
 obtain ⟨rfl,u,rfl,hM⟩:=hM;cases q;exact And.intro trivial hM
theorem yk {w0 N a r} (h:qg N a=some r) {d K n} (V:K=a.label.levels.length) (ab:rb w0 d n a.label.levels) {f L p} (W:L=a.own.length) (ac:rb w0 f p a.own) {g M q} (X:M=a.tree.length) (ad:rb w0 g q a.tree) {i O s} (Y:O=a.heap.ag.length) (ae:rb w0 i s a.heap.ag) {k R t} (Z:R=a.heap.gc.ia.length) (af:rb w0 k t a.heap.gc.ia) {m U y} (aa:U=a.ic.length) (ah:rb w0 m y a.ic) :
    il Tryz.prog 18 #[.agg #[vS d K n,vS f L p,vS g M q,vS i O s,vI a.heap.gc.phase,vI a.heap.gc.pos,vI a.heap.gc.round,vS k R t,vS m U y,vI a.next,vI a.want,vI a.dW.cd,vI a.dW.ij,vI a.dW.iD,vI a.iz,vI a.lost]] w0 (fun v w=>v=.bool r∧St w0 [] w []):=by
 subst V W X Y Z aa;unfold qg at h;refine il.fn Tryz.func18 fun e=>?_;have aE:=St.start w0;refine go ?_;refine LW.bo aE fun ba bb C=>?_;refine gs ?_;obtain ⟨aM,aF,aJ⟩:=ob h;refine CW.jn [1] [0] [(61,.bool aM)] C (h1:=?_) (h2:=?_)
 · have h:=aF;refine gb h fun be aG h=>?_;refine LW.c0 (uD aG rfl (C.rB ab)) C fun bc G=>?_;refine gB h ?_ ?_ <;> intro _ h
   · refine go ?_;cases oi h;exact G.po [0]
   refine gb h fun bf aH h=>?_;refine go ?_;refine LW.c0 (vU aH rfl (G.rB ac)) G fun bd H=>?_;refine gB h ?_ ?_ <;> intro _ h
   · refine go ?_;cases oi h;exact H.po [0]
   refine gb h fun a1 av h=>?_;refine go ?_;refine LW.c0 (u7 av rfl (H.rB ad)) H fun aQ c=>?_;refine gB h ?_ ?_ <;> intro _ h
   · refine go ?_;cases oi h;exact c.po [0]
   refine gb h fun a2 aw h=>?_;refine go ?_;refine LW.c0 (tu aw rfl (c.rB ae) rfl (c.rB af)) c fun aR I=>?_;refine go ?_;refine bH h ?_ ?_ <;> intro _ h
   · refine go ?_;cases oi h;exact I.po [0]
   refine gB h ?_ ?_ <;> intro _ h
   · refine go ?_;cases oi h;exact I.po [0]
   refine gb h fun a3 ax h=>?_;refine go ?_;refine LW.c0 (nq ax) I fun aS aj=>?_;refine gB h ?_ ?_ <;> intro _ h
   · refine go ?_;cases oi h;exact aj.po [0]
   refine gb h fun a4 ay h=>?_;refine go ?_;refine LW.c0 (jg ay) aj fun aT ak=>?_;refine gB h ?_ ?_ <;> intro _ h
   · refine go ?_;cases oi h;exact ak.po [0]
   refine gb h fun a5 az h=>?_;refine go ?_;refine LW.c0 (ma az) ak fun aU am=>?_;refine go ?_;refine bH h ?_ ?_ <;> intro _ h
   · refine go ?_;cases oi h;exact am.po [0]
   refine gb h fun a6 aA h=>?_;refine go ?_;refine LW.c0 (jg aA) am fun aV z=>?_;refine gB h ?_ ?_ <;> intro _ h
   · refine go ?_;cases oi h;exact z.po [0]
   refine gb h fun a7 aB h=>?_;refine go ?_;refine LW.c0 (jg aB) z fun aW ap=>?_;refine go ?_;cases oi h;exact ap.po [0]
 intro e aX A;have h:=aJ;refine gc h ?_ ?_ <;> intro _ h
 · refine go ?_;cases h;exact fi A
 refine go ?_;obtain ⟨an,au,ai⟩:=ob h;refine CW.mono (CW.lx [1] [0] [] 0 (fun ao=>[(3,vI ao)]) (RT Tryz.prog Tryz.f18.results (fun u=>.bool u) w0 []) A au (hb:=?_)) ?_
 · intro ao e aY o b h;refine gc h ?_ ?_ <;> intro _ h
   · refine gb h fun a8 aC h=>?_;obtain ⟨aN,aO,aI,rfl,J,aK,aL,rfl,ar⟩:=ah.idx aC;refine go ?_;refine LW.l (iF.jF w0 wv rfl rfl (fun j u hu=>ar j u hu)) (b.same _ J.1 J.2) rfl ?_;have ⟨a9,aD,h⟩:=ob h;refine LW.c0 (yX aD) b fun aZ B=>?_;refine go ?_;refine CW.fl [1,3,75] fun e=>?_;refine gc h ?_ ?_ <;> intro _ h
     · refine go ?_;cases oi h;exact ⟨trivial,rfl,_,rfl,rx ⟨rfl,B.pk []⟩⟩
     refine go ?_;cases oi h;exact ⟨rfl,(B.po [0])⟩
   refine go ?_;cases oi h;exact ⟨trivial,rfl,⟨trivial,b.pk [0]⟩⟩
 intro x e a0 hM;rcases an with an | aP
 · obtain ⟨rfl,hM⟩:=hM;obtain ⟨e,rfl,aq⟩:=eo hM;rw [show e=iQ e [] from rfl];have h:=ai;refine go ?_;cases h;exact fi aq
 obtain ⟨rfl,u,rfl,hM⟩:=hM;cases ai;exact And.intro trivial hM
theorem yU {w0 N G W r} (h:rJ N G W=some r) {f V g} (Y:V=G.length) (d:rb w0 f g G) :
    il Tryz.prog 33 #[vS f V g,vI W] w0 (fun v w=>∃ af ai,v=vS af r.length ai∧St w0 [] w [sl af ai r]):=by
 subst Y;unfold rJ at h;refine il.fn Tryz.func33 fun e=>?_;have aW:=St.start w0;refine go ?_;refine LW.jL (α:=Bool) (vs:=[]) (cs:=#[]) (l:=([]:List Bool)) rfl (by kernel_rfl) rfl rfl rfl (fun w=>rfl) aW rfl ?_;intro a7 bb cj aj hf;refine gb h fun cm aZ h=>?_;refine LW.c0 (nF aZ rfl (aj.rB d)) aj fun ck ak=>?_;refine gc h ?_ ?_ <;> intro _ h
 · refine go ?_;cases h;exact Ra ⟨a7,bb,rfl,ak.pk [0]⟩
 refine gb h fun a4 a0 h=>?_;refine LW.mk GA rfl rfl a0 ak rfl ?_;intro ci k b4 am hf;refine gb h fun ca M h=>?_;obtain ⟨a,b,hae,bg,bm⟩:=am.iJ (α:=Bool) (i:=0) rfl M;subst hae;refine go ?_;have ⟨ap,O,h⟩:=ob h;refine LW.se 0 am 0 M O (hM:=sm) fun b5 aX=>?_;refine go ?_;obtain ⟨bu,ab,av⟩:=ob h;refine CW.ie ab 0 (fun n e wb=>En e [(0,vS f G.length g),(1,vI W),(5,vS (some ⟨a,b,none⟩) n.1.length k),(6,vI n.2)]∧St w0 [] wb [sl (some ⟨a,b,none⟩) k n.1]) ?_ ⟨⟨rfl,rfl,(show (vS (some ⟨a,b,none⟩) a4.length k:Value)=vS (some ⟨a,b,none⟩) ap.length k by rw [show a4.length=ap.length from (iH (oi O))]),rfl,trivial⟩,aX.pk [0]⟩ ?_
 · intro n e b6 o hM h;obtain ⟨e,rfl,an⟩:=eo hM;refine go ?_;refine CW.fl [0,1,5,6,19] fun e=>?_;refine gc h ?_ ?_ <;> intro _ h
   · refine go ?_;obtain ⟨bt,aa,au⟩:=ob h;refine CW.ie aa 2 (fun t e wb=>En e [(0,vS f G.length g),(1,vI W),(5,vS (some ⟨a,b,none⟩) t.1.length k),(6,vI n.2),(7,vI t.2)]∧St w0 [] wb [sl (some ⟨a,b,none⟩) k t.1]) ?_ (an.po [0]) ?_
     · intro t e a3 o hM h;obtain ⟨e,rfl,A⟩:=eo hM;refine gc h ?_ ?_ <;> intro _ h
       · refine gs ?_;refine CW.block ?_;refine gs ?_;obtain ⟨a2,aI,aV⟩:=ob h;refine CW.jn [0,1,5,6,7] [0] [(44,.bool a2)] A (h1:=?_) (h2:=?_)
         · have h:=aI;refine gb h fun cb R h=>?_;obtain ⟨bN,bY,hae,bi,bn⟩:=A.iJ (α:=Bool) (i:=0) rfl R;cases hae;refine go ?_;obtain ⟨bE,s,m⟩:=A.freeze (α:=Bool) 0 rfl;obtain ⟨bO,bZ,bc,hae,aF,_,_,aG,aJ⟩:=s.jX.idx R;cases hae;obtain rfl:=aG;refine LW.l (iF.iN a3 pd rfl (aJ 0 _ rfl)) (m.zC 0 rfl aF) rfl ?_;refine gB h ?_ ?_ <;> intro _ h
           · refine go ?_;have aY:=m.jf (α:=Bool) 0 rfl s;cases oi h;exact aY.po [0]
           refine gb h fun cc aR h=>?_;obtain ⟨bP,b0,bd,rfl,I,bj,bo,⟨bG,bT,bI,bU,bJ,bV,rfl,aM,aN,aO⟩,aK⟩:=d.idx aR;refine go ?_;refine LW.l (iF.jF w0 lI rfl rfl (fun j u hu=>aK j u hu)) (m.same _ I.1 I.2) rfl ?_;refine gb h fun ce aS h=>?_;refine go ?_;refine LW.c0 (qR aS rfl (m.rB aM) rfl (m.rB aN) rfl (m.rB aO)) m fun b7 H=>?_;refine gB h ?_ ?_ <;> intro _ h
           · refine go ?_;have aw:=H.jf (α:=Bool) 0 rfl s;cases oi h;exact aw.po [0]
           refine go ?_;have ax:=H.jf (α:=Bool) 0 rfl s;cases oi h;exact ax.po [0]
         intro e b8 x;have h:=aV;refine gc h ?_ ?_ <;> intro _ h
         · refine go ?_;cases oi h;exact ⟨rfl,(x.po [0])⟩
         refine gb h fun aq aT h=>?_;refine LW.cl (zg aT rfl (x.rB d)) ?_;rintro _ b9 ⟨ae,ah,rfl,hs⟩;have ay:=x.add hs;refine go ?_;obtain ⟨bs,Z,ar⟩:=ob h;refine CW.ie Z 4 (fun p e wb=>En e [(0,vS f G.length g),(1,vI W),(5,vS (some ⟨a,b,none⟩) p.1.length k),(6,vI n.2),(7,vI t.2),(8,vS ae aq.length ah),(9,vI p.2)]∧St w0 [] wb [sl ae ah aq,sl (some ⟨a,b,none⟩) k p.1]) ?_ (ay.po [0,1]) ?_
         · intro p e ao o hM h;obtain ⟨e,rfl,y⟩:=eo hM;refine go ?_;refine CW.fl [0,1,5,6,7,8,9,51] fun e=>?_;refine gc h ?_ ?_ <;> intro _ h
           · refine gb h fun cf U h=>?_;obtain ⟨bQ,b1,hae,bk,bp⟩:=y.iJ (α:=Int) (i:=0) rfl U;subst hae;refine go ?_;obtain ⟨bF,z,c⟩:=y.freeze (α:=Int) 0 rfl;obtain ⟨bR,b2,be,hae,J,_,_,aH,L⟩:=z.jX.idx U;cases hae;obtain rfl:=aH;refine LW.l (iF.iN ao iY rfl (L 0 _ rfl)) (c.zC 0 rfl J) rfl ?_;have ⟨cg,aU,h⟩:=ob h;obtain ⟨bS,b3,bf,rfl,K,bl,bq,⟨bK,bW,bL,bX,bM,ba,rfl,aP,aQ,ac⟩,aL⟩:=d.idx aU;refine go ?_;refine LW.l (iF.jF w0 lI rfl rfl (fun j u hu=>aL j u hu)) (c.same _ K.1 K.2) rfl ?_;refine gb h fun bC ad h=>?_;refine LW.c0 (qR ad rfl (c.rB aP) rfl (c.rB aQ) rfl (c.rB ac)) c fun bv q=>?_;refine go ?_;refine CW.fl [0,1,5,6,7,8,9,63] fun e=>?_;refine gc h ?_ ?_ <;> intro _ h
             · refine go ?_;refine LW.l (iF.iN ao iY rfl (L 0 _ rfl)) (q.zC 0 rfl J) rfl ?_;have ⟨bD,B,h⟩:=ob h;obtain ⟨a9,br,hae,a5,a6⟩:=q.iJ (α:=Bool) (i:=1) rfl B;cases hae;refine go ?_;have ⟨X,C,h⟩:=ob h;refine LW.se 0 q 1 B C (hM:=sm) fun bw az=>?_;refine go ?_;replace h:=oi h;subst h;have aA:=az.jf (α:=Int) 0 rfl z;exact ⟨rfl,⟨⟨rfl,rfl,(show (vS (some ⟨a,b,none⟩) p.1.length k:Value)=vS (some ⟨a,b,none⟩) X.length k by rw [show p.1.length=X.length from (iH (oi C))]),rfl,rfl,rfl,rfl,trivial⟩,aA.pk [0,1]⟩⟩
             refine go ?_;have aB:=q.jf (α:=Int) 0 rfl z;cases oi h;exact ⟨rfl,(aB.po [0,1])⟩
           refine go ?_;cases oi h;exact ⟨trivial,rfl,(y.po [0,1])⟩
         rintro e bz ⟨hE,aC⟩;obtain ⟨e,rfl⟩:=hE.out;have h:=ar;refine go ?_;cases oi h;exact ⟨rfl,(aC.po [1])⟩
       refine go ?_;cases oi h;exact ⟨trivial,rfl,(A.po [0])⟩
     rintro e bA ⟨hE,aD⟩;obtain ⟨e,rfl⟩:=hE.out;have h:=au;refine go ?_;cases oi h;exact ⟨rfl,(aD.po [0])⟩
   refine go ?_;cases oi h;exact ⟨trivial,rfl,(an.po [0])⟩
 rintro e bB ⟨hE,aE⟩;obtain ⟨e,rfl⟩:=hE.out;have h:=av;refine go ?_;cases h;exact Ra ⟨(some ⟨a,b,none⟩),k,rfl,aE.pk [0]⟩
end Go.Kx
