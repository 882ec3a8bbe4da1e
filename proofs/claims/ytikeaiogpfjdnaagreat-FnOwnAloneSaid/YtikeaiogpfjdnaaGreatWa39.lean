/- Each call returns what the plain function says. Printed by drive.py. -/
import Derived.Test.YtikeaiogpfjdnaaGreatFa
import Derived.Test.YtikeaiogpfjdnaaGreatPu
namespace Go.Kx
open Go Go.RowKit Go.Proofs
set_option maxRecDepth 10000
set_option maxHeartbeats 8000000
set_option linter.unusedVariables false
set_option linter.unusedSimpArgs false
theorem zG {w0 N H I r} (h:ra N H I=some r) {b k d} (m:k=H.levels.length) (p:rb w0 b d H.levels) {c l f} (n:l=I.levels.length) (q:rb w0 c f I.levels) :
    il Tryz.prog 40 #[.agg #[vS b k d],.agg #[vS c l f]] w0 (fun v w=>v=.bool r∧St w0 [] w []):=by
 subst m n;unfold ra at h;refine il.fn Tryz.func40 fun e=>?_;have J:=St.start w0;refine go ?_;refine LW.bo J fun ah aj K=>?_;refine LW.bo K fun ai ak t=>?_;refine gc h ?_ ?_ <;> intro _ h
 · refine go ?_;cases h;exact fi t
 refine go ?_;obtain ⟨z,C,s⟩:=ob h;refine CW.mono (CW.lx [2,3] [0,1] [] 0 (fun O=>[(5,vI O)]) (RT Tryz.prog Tryz.f40.results (fun u=>.bool u) w0 []) t C (hb:=?_)) ?_
 · intro O e am o y h;refine go ?_;refine CW.fl [2,3,5,17] fun e=>?_;refine gc h ?_ ?_ <;> intro _ h
   · refine go ?_;refine CW.draw (by kernel_rfl) ?_;have a:=y.drew;refine gb h fun an M h=>?_;obtain ⟨Z,ab,R,rfl,g,V,X,rfl,A⟩:=p.idx M;refine go ?_;refine AW.take (i:=4) rfl (by kernel_rfl) rfl rfl (iF.iN w0 iY rfl (A 0 _ rfl)) (a.same _ g.1 g.2) ?_;refine gb h fun af G h=>?_;obtain ⟨aa,ac,U,rfl,j,W,Y,rfl,B⟩:=q.idx G;refine go ?_;refine AW.take (i:=9) rfl (by kernel_rfl) rfl rfl (iF.iN w0 iY rfl (B 0 _ rfl)) (a.same _ j.1 j.2) ?_;refine gc h ?_ ?_ <;> intro _ h
     · refine go ?_;cases oi h;exact ⟨trivial,rfl,_,rfl,rx ⟨rfl,a.pk []⟩⟩
     refine go ?_;cases oi h;exact ⟨rfl,(a.po [0,1])⟩
   refine go ?_;cases oi h;exact ⟨trivial,rfl,⟨trivial,y.pk [0,1]⟩⟩
 intro x e ae hM;rcases z with z | ad
 · obtain ⟨rfl,hM⟩:=hM;obtain ⟨e,rfl,L⟩:=eo hM;rw [show e=iQ e [] from rfl];have h:=s;refine go ?_;cases h;exact fi L
 obtain ⟨rfl,u,rfl,hM⟩:=hM;cases s;exact And.intro trivial hM
theorem wI {w0 N H I r} (h:qx N H I=some r) {b k d} (m:k=H.length) (p:rb w0 b d H) {c l f} (n:l=I.length) (q:rb w0 c f I) :
    il Tryz.prog 93 #[vS b k d,vS c l f] w0 (fun v w=>v=.bool r∧St w0 [] w []):=by
 subst m n;unfold qx at h;refine il.fn Tryz.func93 fun e=>?_;have t:=St.start w0;refine gc h ?_ ?_ <;> intro _ h
 · refine go ?_;cases h;exact fi t
 refine go ?_;obtain ⟨z,C,s⟩:=ob h;refine CW.mono (CW.lx [0,1] [] [] 0 (fun L=>[(5,vI L)]) (RT Tryz.prog Tryz.f93.results (fun u=>.bool u) w0 []) t C (hb:=?_)) ?_
 · intro L e ae o y h;refine gc h ?_ ?_ <;> intro _ h
   · refine go ?_;refine CW.draw (by kernel_rfl) ?_;have a:=y.drew;refine gb h fun af K h=>?_;obtain ⟨ac,ad,M,rfl,g,W,X,rfl,A⟩:=p.idx K;refine go ?_;refine AW.take (i:=3) rfl (by kernel_rfl) rfl rfl (iF.iN w0 iY rfl (A 0 _ rfl)) (a.same _ g.1 g.2) ?_;refine gb h fun ab G h=>?_;obtain ⟨V,Y,O,rfl,j,R,U,rfl,B⟩:=q.idx G;refine go ?_;refine AW.take (i:=7) rfl (by kernel_rfl) rfl rfl (iF.iN w0 iY rfl (B 0 _ rfl)) (a.same _ j.1 j.2) ?_;refine gc h ?_ ?_ <;> intro _ h
     · refine go ?_;cases oi h;exact ⟨trivial,rfl,_,rfl,rx ⟨rfl,a.pk []⟩⟩
     refine go ?_;cases oi h;exact ⟨rfl,(a.po [])⟩
   refine go ?_;cases oi h;exact ⟨trivial,rfl,⟨trivial,y.pk []⟩⟩
 intro x e aa hM;rcases z with z | Z
 · obtain ⟨rfl,hM⟩:=hM;obtain ⟨e,rfl,J⟩:=eo hM;rw [show e=iQ e [] from rfl];have h:=s;refine go ?_;cases h;exact fi J
 obtain ⟨rfl,u,rfl,hM⟩:=hM;cases s;exact And.intro trivial hM
theorem CL {w0 N b c r} (h:qj N b c=some r) {f C p} (X:C=b.ig.length) (ad:rb w0 f p b.ig) {g G q} (Y:G=b.data.length) (ae:rb w0 g q b.data) {k H s} (Z:H=b.queue.length) (af:rb w0 k s b.queue) {l I t} (aa:I=c.ig.length) (ah:rb w0 l t c.ig) {m J y} (ab:J=c.data.length) (ai:rb w0 m y c.data) {n K z} (ac:K=c.queue.length) (aj:rb w0 n z c.queue) :
    il Tryz.prog 174 #[.agg #[vI b.gen,vI b.kind,vI b.box,vI b.res,vI b.iL,vI b.cd,vI b.wait,vI b.iK,vI b.iM,.bool b.mark,vS f C p,vS g G q,vS k H s],.agg #[vI c.gen,vI c.kind,vI c.box,vI c.res,vI c.iL,vI c.cd,vI c.wait,vI c.iK,vI c.iM,.bool c.mark,vS l I t,vS m J y,vS n K z]] w0 (fun v w=>v=.bool r∧St w0 [] w []):=by
 subst X Y Z aa ab ac;unfold qj at h;refine il.fn Tryz.func174 fun e=>?_;have aQ:=St.start w0;refine go ?_;refine LW.bo aQ fun bL bN aR=>?_;refine LW.bo aR fun bM bO a=>?_;refine gs ?_;obtain ⟨bf,aT,a2⟩:=ob h;refine CW.jn [2,3] [0,1] [(102,.bool bf)] a (h1:=?_) (h2:=?_)
 · have h:=aT;refine gB h ?_ ?_ <;> intro _ h
   · refine go ?_;cases oi h;exact a.po [0,1]
   refine gB h ?_ ?_ <;> intro _ h
   · refine go ?_;cases oi h;exact a.po [0,1]
   refine go ?_;refine bH h ?_ ?_ <;> intro _ h
   · refine go ?_;cases oi h;exact a.po [0,1]
   refine gB h ?_ ?_ <;> intro _ h
   · refine go ?_;cases oi h;exact a.po [0,1]
   refine gB h ?_ ?_ <;> intro _ h
   · refine go ?_;cases oi h;exact a.po [0,1]
   refine gB h ?_ ?_ <;> intro _ h
   · refine go ?_;cases oi h;exact a.po [0,1]
   refine go ?_;refine bH h ?_ ?_ <;> intro _ h
   · refine go ?_;cases oi h;exact a.po [0,1]
   refine gB h ?_ ?_ <;> intro _ h
   · refine go ?_;cases oi h;exact a.po [0,1]
   refine gB h ?_ ?_ <;> intro _ h
   · refine go ?_;cases oi h;exact a.po [0,1]
   refine go ?_;refine LW.u (iC.bne Tryz.underlying4 rfl rfl) rfl ?_;refine gB h ?_ ?_ <;> intro _ h
   · refine go ?_;cases oi h;exact a.po [0,1]
   refine go ?_;refine bH h ?_ ?_ <;> intro _ h
   · refine go ?_;cases oi h;exact a.po [0,1]
   refine gB h ?_ ?_ <;> intro _ h
   · refine go ?_;cases oi h;exact a.po [0,1]
   refine go ?_;cases oi h;exact a.po [0,1]
 intro e bz ao;have h:=a2;refine gc h ?_ ?_ <;> intro _ h
 · refine go ?_;cases h;exact fi ao
 refine go ?_;obtain ⟨ar,aH,ak⟩:=ob h;refine CW.mono (CW.lx [2,3] [0,1] [2,3] 0 (fun aw=>[(5,vI aw)]) (RT Tryz.prog Tryz.f174.results (fun u=>.bool u) w0 []) ao aH (hb:=?_)) ?_
 · intro aw e bA o ap h;refine gc h ?_ ?_ <;> intro _ h
   · refine go ?_;refine CW.draw (by kernel_rfl) ?_;have A:=ap.drew;refine gb h fun bG aK h=>?_;obtain ⟨bg,bn,aW,rfl,M,a3,a9,rfl,aB⟩:=ad.idx aK;refine go ?_;refine AW.take (i:=4) rfl (by kernel_rfl) rfl rfl (iF.iN w0 iY rfl (aB 0 _ rfl)) (A.same _ M.1 M.2) ?_;refine gb h fun bI aL h=>?_;obtain ⟨bi,bp,aX,rfl,O,a4,ba,rfl,aC⟩:=ah.idx aL;refine go ?_;refine AW.take (i:=9) rfl (by kernel_rfl) rfl rfl (iF.iN w0 iY rfl (aC 0 _ rfl)) (A.same _ O.1 O.2) ?_;refine gc h ?_ ?_ <;> intro _ h
     · refine go ?_;cases oi h;exact ⟨trivial,rfl,_,rfl,rx ⟨rfl,A.pk []⟩⟩
     refine go ?_;cases oi h;exact ⟨rfl,(A.po [0,1])⟩
   refine go ?_;cases oi h;exact ⟨trivial,rfl,(ap.po [0,1])⟩
 intro x e bB hM;rcases ar with ar | bw
 · obtain ⟨rfl,hM⟩:=hM;obtain ⟨e,rfl,aS⟩:=eo hM;have h:=ak;refine go ?_;obtain ⟨au,aI,am⟩:=ob h;refine CW.mono (CW.lx [2,3] [0,1] [2,3] 2 (fun ax=>[(6,vI ax)]) (RT Tryz.prog Tryz.f174.results (fun u=>.bool u) w0 []) aS aI (hb:=?_)) ?_
   · intro ax e bC o aq h;refine gc h ?_ ?_ <;> intro _ h
     · refine go ?_;refine CW.draw (by kernel_rfl) ?_;have B:=aq.drew;refine gb h fun bJ aM h=>?_;obtain ⟨bj,bq,aY,rfl,R,a5,bb,rfl,aD⟩:=ae.idx aM;refine go ?_;refine AW.take (i:=4) rfl (by kernel_rfl) rfl rfl (iF.iN w0 iY rfl (aD 0 _ rfl)) (B.same _ R.1 R.2) ?_;refine gb h fun bK aN h=>?_;obtain ⟨bk,br,aZ,rfl,U,a6,bc,rfl,aE⟩:=ai.idx aN;refine go ?_;refine AW.take (i:=9) rfl (by kernel_rfl) rfl rfl (iF.iN w0 iY rfl (aE 0 _ rfl)) (B.same _ U.1 U.2) ?_;refine gc h ?_ ?_ <;> intro _ h
       · refine go ?_;cases oi h;exact ⟨trivial,rfl,_,rfl,rx ⟨rfl,B.pk []⟩⟩
       refine go ?_;cases oi h;exact ⟨rfl,(B.po [0,1])⟩
     refine go ?_;cases oi h;exact ⟨trivial,rfl,(aq.po [0,1])⟩
   intro x e bD hM;rcases au with au | bv
   · obtain ⟨rfl,hM⟩:=hM;obtain ⟨e,rfl,az⟩:=eo hM;have h:=am;refine go ?_;obtain ⟨av,aJ,an⟩:=ob h;refine CW.mono (CW.lx [2,3] [0,1] [] 4 (fun ay=>[(7,vI ay)]) (RT Tryz.prog Tryz.f174.results (fun u=>.bool u) w0 []) az aJ (hb:=?_)) ?_
     · intro ay e bE o L h;refine gc h ?_ ?_ <;> intro _ h
       · refine go ?_;refine CW.draw (by kernel_rfl) ?_;have d:=L.drew;refine gb h fun aU aO h=>?_;obtain ⟨bl,bs,a0,rfl,V,a7,bd,rfl,aF⟩:=af.idx aO;refine go ?_;refine AW.take (i:=4) rfl (by kernel_rfl) rfl rfl (iF.jF w0 uj rfl rfl (fun j u hu=>aF j u hu)) (d.same _ V.1 V.2) ?_;refine gb h fun aV aP h=>?_;obtain ⟨bm,bt,a1,rfl,W,a8,be,rfl,aG⟩:=aj.idx aP;refine go ?_;refine AW.take (i:=9) rfl (by kernel_rfl) rfl rfl (iF.jF w0 uj rfl rfl (fun j u hu=>aG j u hu)) (d.same _ W.1 W.2) ?_;refine AW.u (i:=10) rfl (by kernel_rfl) rfl rfl (iC.A2 Fw rfl rfl (fun w=>Ff aU aV w)) ?_;refine gc h ?_ ?_ <;> intro _ h
         · refine go ?_;cases oi h;exact ⟨trivial,rfl,_,rfl,rx ⟨rfl,d.pk []⟩⟩
         refine go ?_;cases oi h;exact ⟨rfl,(d.po [0,1])⟩
       refine go ?_;cases oi h;exact ⟨trivial,rfl,⟨trivial,L.pk [0,1]⟩⟩
     intro x e bF hM;rcases av with av | bu
     · obtain ⟨rfl,hM⟩:=hM;obtain ⟨e,rfl,aA⟩:=eo hM;rw [show e=iQ e [] from rfl];have h:=an;refine go ?_;cases h;exact fi aA
     obtain ⟨rfl,u,rfl,hM⟩:=hM;cases an;exact And.intro trivial hM
   obtain ⟨rfl,u,rfl,hM⟩:=hM;cases am;exact And.intro trivial hM
 obtain ⟨rfl,u,rfl,hM⟩:=hM;cases ak;exact And.intro trivial hM
theorem zV {w0 N V W r} (h:re N V W=some r) {b l d} (n:l=V.length) (q:rb w0 b d V) {c m f} (p:m=W.length) (s:rb w0 c f W) :
    il Tryz.prog 94 #[vS b l d,vS c m f] w0 (fun v w=>v=.bool r∧St w0 [] w []):=by
 subst n p;unfold re at h;refine il.fn Tryz.func94 fun e=>?_;have y:=St.start w0;refine gc h ?_ ?_ <;> intro _ h
 · refine go ?_;cases h;exact fi y
 refine go ?_;obtain ⟨B,H,t⟩:=ob h;refine CW.mono (CW.lx [0,1] [] [] 0 (fun Z=>[(5,vI Z)]) (RT Tryz.prog Tryz.f94.results (fun u=>.bool u) w0 []) y H (hb:=?_)) ?_
 · intro Z e aF o z h;refine gc h ?_ ?_ <;> intro _ h
   · refine go ?_;refine CW.draw (by kernel_rfl) ?_;have a:=z.drew;refine gb h fun aG Y h=>?_;obtain ⟨aD,aE,aa,rfl,g,av,aw,⟨ae,an,af,ao,ah,ap,rfl,I,J,K⟩,C⟩:=q.idx Y;refine go ?_;refine AW.take (i:=3) rfl (by kernel_rfl) rfl rfl (iF.jF w0 lI rfl rfl (fun j u hu=>C j u hu)) (a.same _ g.1 g.2) ?_;refine gb h fun aB R h=>?_;obtain ⟨am,ax,ab,rfl,k,ac,ad,⟨ai,aq,aj,ar,ak,au,rfl,L,M,O⟩,G⟩:=s.idx R;refine go ?_;refine AW.take (i:=7) rfl (by kernel_rfl) rfl rfl (iF.jF w0 lI rfl rfl (fun j u hu=>G j u hu)) (a.same _ k.1 k.2) ?_;have ⟨aC,U,h⟩:=ob h;refine jO 8 ?_;refine LW.cl (CL U rfl (a.rB I) rfl (a.rB J) rfl (a.rB K) rfl (a.rB L) rfl (a.rB M) rfl (a.rB O)) ?_;rintro _ az ⟨rfl,hs⟩;have A:=a.add hs;refine jn ?_;refine gc h ?_ ?_ <;> intro _ h
     · refine go ?_;cases oi h;exact ⟨trivial,rfl,_,rfl,rx ⟨rfl,A.pk []⟩⟩
     refine go ?_;cases oi h;exact ⟨rfl,(A.po [])⟩
   refine go ?_;cases oi h;exact ⟨trivial,rfl,⟨trivial,z.pk []⟩⟩
 intro x e aA hM;rcases B with B | ay
 · obtain ⟨rfl,hM⟩:=hM;obtain ⟨e,rfl,X⟩:=eo hM;rw [show e=iQ e [] from rfl];have h:=t;refine go ?_;cases h;exact fi X
 obtain ⟨rfl,u,rfl,hM⟩:=hM;cases t;exact And.intro trivial hM
theorem vQ {w0 N a b r} (h:nY N a b=some r) {n ae I} (au:ae=a.label.levels.length) (aG:rb w0 n I a.label.levels) {p af J} (av:af=a.own.length) (aH:rb w0 p J a.own) {q ah K} (aw:ah=a.tree.length) (aI:rb w0 q K a.tree) {s ai L} (ax:ai=a.heap.ag.length) (aJ:rb w0 s L a.heap.ag) {t aj M} (ay:aj=a.heap.gc.ia.length) (aK:rb w0 t M a.heap.gc.ia) {y ak O} (az:ak=a.ic.length) (aL:rb w0 y O a.ic) {z am R} (aA:am=b.label.levels.length) (aM:rb w0 z R b.label.levels) {A an U} (aB:an=b.own.length) (aN:rb w0 A U b.own) {B ao V} (aC:ao=b.tree.length) (aO:rb w0 B V b.tree) {C ap W} (aD:ap=b.heap.ag.length) (aP:rb w0 C W b.heap.ag) {G aq X} (aE:aq=b.heap.gc.ia.length) (aQ:rb w0 G X b.heap.gc.ia) {H ar Y} (aF:ar=b.ic.length) (aR:rb w0 H Y b.ic) :
    il Tryz.prog 30 #[.agg #[vS n ae I,vS p af J,vS q ah K,vS s ai L,vI a.heap.gc.phase,vI a.heap.gc.pos,vI a.heap.gc.round,vS t aj M,vS y ak O,vI a.next,vI a.want,vI a.dW.cd,vI a.dW.ij,vI a.dW.iD,vI a.iz,vI a.lost],.agg #[vS z am R,vS A an U,vS B ao V,vS C ap W,vI b.heap.gc.phase,vI b.heap.gc.pos,vI b.heap.gc.round,vS G aq X,vS H ar Y,vI b.next,vI b.want,vI b.dW.cd,vI b.dW.ij,vI b.dW.iD,vI b.iz,vI b.lost]] w0 (fun v w=>v=.bool r∧St w0 [] w []):=by
 subst au av aw ax ay az aA aB aC aD aE aF;unfold nY at h;refine il.fn Tryz.func30 fun e=>?_;have bj:=St.start w0;refine go ?_;refine LW.bo bj fun cb ce bk=>?_;refine LW.bo bk fun cc cf k=>?_;refine gs ?_;obtain ⟨bJ,bm,bz⟩:=ob h;refine CW.jn [2,3] [0,1] [(75,.bool bJ)] k (h1:=?_) (h2:=?_)
 · have h:=bm;refine gb h fun ci bn h=>?_;refine LW.c0 (zG bn rfl (k.rB aG) rfl (k.rB aM)) k fun cg l=>?_;refine gB h ?_ ?_ <;> intro _ h
   · refine go ?_;cases oi h;exact l.po [0,1]
   refine gb h fun b8 bb h=>?_;refine go ?_;refine LW.c0 (wI bb rfl (l.rB aH) rfl (l.rB aN)) l fun bW d=>?_;refine gB h ?_ ?_ <;> intro _ h
   · refine go ?_;cases oi h;exact d.po [0,1]
   refine go ?_;refine bH h ?_ ?_ <;> intro _ h
   · refine go ?_;cases oi h;exact d.po [0,1]
   refine gB h ?_ ?_ <;> intro _ h
   · refine go ?_;cases oi h;exact d.po [0,1]
   refine gB h ?_ ?_ <;> intro _ h
   · refine go ?_;cases oi h;exact d.po [0,1]
   refine go ?_;refine bH h ?_ ?_ <;> intro _ h
   · refine go ?_;cases oi h;exact d.po [0,1]
   refine go ?_;refine LW.u (iC.A2 H8 rfl rfl (fun w=>H6 a.dW b.dW w)) rfl ?_;refine gB h ?_ ?_ <;> intro _ h
   · refine go ?_;cases oi h;exact d.po [0,1]
   refine gB h ?_ ?_ <;> intro _ h
   · refine go ?_;cases oi h;exact d.po [0,1]
   refine go ?_;cases oi h;exact d.po [0,1]
 intro e bX aU;have h:=bz;refine gc h ?_ ?_ <;> intro _ h
 · refine go ?_;cases h;exact fi aU
 refine go ?_;obtain ⟨aW,a9,aS⟩:=ob h;refine CW.mono (CW.lx [2,3] [0,1] [2,3] 0 (fun aY=>[(5,vI aY)]) (RT Tryz.prog Tryz.f30.results (fun u=>.bool u) w0 []) aU a9 (hb:=?_)) ?_
 · intro aY e bY o aV h;refine gc h ?_ ?_ <;> intro _ h
   · refine go ?_;refine CW.draw (by kernel_rfl) ?_;have m:=aV.drew;refine gb h fun bp bc h=>?_;obtain ⟨bK,bQ,bt,rfl,aa,bA,bE,rfl,a5⟩:=aI.idx bc;refine go ?_;refine AW.take (i:=4) rfl (by kernel_rfl) rfl rfl (iF.jF w0 xp rfl rfl (fun j u hu=>a5 j u hu)) (m.same _ aa.1 aa.2) ?_;refine gb h fun bq bd h=>?_;obtain ⟨bL,bR,bu,rfl,ab,bB,bF,rfl,a6⟩:=aO.idx bd;refine go ?_;refine AW.take (i:=9) rfl (by kernel_rfl) rfl rfl (iF.jF w0 xp rfl rfl (fun j u hu=>a6 j u hu)) (m.same _ ab.1 ab.2) ?_;refine AW.u (i:=10) rfl (by kernel_rfl) rfl rfl (iC.A2 EC rfl rfl (fun w=>Ew bp bq w)) ?_;refine gc h ?_ ?_ <;> intro _ h
     · refine go ?_;cases oi h;exact ⟨trivial,rfl,_,rfl,rx ⟨rfl,m.pk []⟩⟩
     refine go ?_;cases oi h;exact ⟨rfl,(m.po [0,1])⟩
   refine go ?_;cases oi h;exact ⟨trivial,rfl,(aV.po [0,1])⟩
 intro x e bZ hM;rcases aW with aW | bV
 · obtain ⟨rfl,hM⟩:=hM;obtain ⟨e,rfl,bl⟩:=eo hM;have h:=aS;refine go ?_;obtain ⟨aX,ba,aT⟩:=ob h;refine CW.mono (CW.lx [2,3] [0,1] [2,3] 2 (fun aZ=>[(6,vI aZ)]) (RT Tryz.prog Tryz.f30.results (fun u=>.bool u) w0 []) bl ba (hb:=?_)) ?_
   · intro aZ e b0 o Z h;refine gc h ?_ ?_ <;> intro _ h
     · refine go ?_;refine CW.draw (by kernel_rfl) ?_;have f:=Z.drew;refine gb h fun br be h=>?_;obtain ⟨bM,bS,bv,rfl,ac,bC,bG,rfl,a7⟩:=aL.idx be;refine go ?_;refine AW.take (i:=4) rfl (by kernel_rfl) rfl rfl (iF.jF w0 wv rfl rfl (fun j u hu=>a7 j u hu)) (f.same _ ac.1 ac.2) ?_;refine gb h fun bs bf h=>?_;obtain ⟨bN,bT,bw,rfl,ad,bD,bI,rfl,a8⟩:=aR.idx bf;refine go ?_;refine AW.take (i:=9) rfl (by kernel_rfl) rfl rfl (iF.jF w0 wv rfl rfl (fun j u hu=>a8 j u hu)) (f.same _ ad.1 ad.2) ?_;refine AW.u (i:=10) rfl (by kernel_rfl) rfl rfl (iC.A2 HD rfl rfl (fun w=>Hz br bs w)) ?_;refine gc h ?_ ?_ <;> intro _ h
       · refine go ?_;cases oi h;exact ⟨trivial,rfl,_,rfl,rx ⟨rfl,f.pk []⟩⟩
       refine go ?_;cases oi h;exact ⟨rfl,(f.po [0,1])⟩
     refine go ?_;cases oi h;exact ⟨trivial,rfl,(Z.po [0,1])⟩
   intro x e b1 hM;rcases aX with aX | bU
   · obtain ⟨rfl,hM⟩:=hM;obtain ⟨e,rfl,a0⟩:=eo hM;have h:=aT;refine go ?_;refine LW.al a0 fun bO b2 a1=>?_;refine LW.st a1 0 fun b3 a2=>?_;refine go ?_;refine LW.al a2 fun bP b4 a3=>?_;refine LW.st a3 0 fun b5 g=>?_;refine gb h fun b9 bg h=>?_;refine LW.c0 (zV bg rfl (g.rB aJ) rfl (g.rB aP)) g fun b6 c=>?_;refine gB h ?_ ?_ <;> intro _ h
     · refine go ?_;refine bH h ?_ ?_ <;> intro _ h
       · refine gB h ?_ ?_ <;> intro _ h
         · refine gB h ?_ ?_ <;> intro _ h
           · refine gb h fun ca bi h=>?_;refine go ?_;refine LW.c0 (wI bi rfl (c.rB aK) rfl (c.rB aQ)) c fun b7 a4=>?_;refine go ?_;cases h;exact fi a4
           refine go ?_;cases h;exact fi c
         refine go ?_;cases h;exact fi c
       refine go ?_;cases h;exact fi c
     refine go ?_;cases h;exact fi c
   obtain ⟨rfl,u,rfl,hM⟩:=hM;cases aT;exact And.intro trivial hM
 obtain ⟨rfl,u,rfl,hM⟩:=hM;cases aS;exact And.intro trivial hM
end Go.Kx
