/- Each call returns what the plain function says. Printed by drive.py. -/
import Derived.Test.YtikeaiogpfjdnaaGreatFa
import Derived.Test.YtikeaiogpfjdnaaGreatPu
import Derived.Test.YtikeaiogpfjdnaaGreatWa4
import Derived.Test.YtikeaiogpfjdnaaGreatWa5
import Derived.Test.YtikeaiogpfjdnaaGreatWa6
import Derived.Test.YtikeaiogpfjdnaaGreatWa7
import Derived.Test.YtikeaiogpfjdnaaGreatWa8
import Derived.Test.YtikeaiogpfjdnaaGreatWa16
import Derived.Test.YtikeaiogpfjdnaaGreatWa26
import Derived.Test.YtikeaiogpfjdnaaGreatWa29
import Derived.Test.YtikeaiogpfjdnaaGreatWa30
import Derived.Test.YtikeaiogpfjdnaaGreatWa38
import Derived.Test.YtikeaiogpfjdnaaGreatWa39
namespace Go.Kx
open Go Go.RowKit Go.Proofs
set_option maxRecDepth 10000
set_option maxHeartbeats 8000000
set_option linter.unusedVariables false
set_option linter.unusedSimpArgs false
theorem Bu {w0 N y bz r} (h:qD N y bz=some r) {U am W} (aD:am=y.ag.length) (a:rb w0 U W y.ag) {V an X} (aE:an=y.gc.gE.length) (M:rb w0 V X y.gc.gE) :
    iA Tryz.prog 32 #[.agg #[vS U am W,vI y.gc.phase,vI y.gc.pos,vI y.gc.round,vS V an X],vI bz] w0 (fun v w=>v=.bool r∧St w0 [] w []):=by
 subst aD aE;unfold qD at h;refine iA.fn Tryz.func32 fun e=>?_;have bp:=St.start w0;refine go ?_;refine LW.bo bp fun dG dH ab=>?_;refine gb h fun dK bs h=>?_;refine LW.c0 (qC bs rfl (ab.rB a) rfl (ab.rB M)) ab fun dI ad=>?_;refine gc h ?_ ?_ <;> intro _ h
 · refine go ?_;cases h;exact fi ad
 refine gb h fun dL bt h=>?_;refine LW.cl (rQ bt rfl (ad.rB a)) ?_;rintro _ dJ ⟨dE,dF,rfl,hs⟩;have aM:=ad.add hs;refine go ?_;refine CW.fl [2,5,20] fun e=>?_;refine gc h ?_ ?_ <;> intro _ h
 · refine go ?_;obtain ⟨aN,bi,aL⟩:=ob h;refine CW.mono (CW.lx [2,5] [0,1] [] 0 (fun aO=>[(6,vI aO)]) (RT Tryz.prog Tryz.f32.results (fun u=>.bool u) w0 []) aM bi (hb:=?_)) ?_
   · intro aO e aQ o b h;refine gc h ?_ ?_ <;> intro _ h
     · refine gs ?_;refine CW.block ?_;refine gs ?_;obtain ⟨bu,bc,bm⟩:=ob h;refine CW.jn [2,5,6] [0,1] [(63,.bool bu)] b (h1:=?_) (h2:=?_)
       · have h:=bc;refine gB h ?_ ?_ <;> intro _ h
         · refine gb h fun dy bj h=>?_;obtain ⟨dc,dp,cm,rfl,p,cq,cv,⟨c5,di,c6,dj,c7,dk,rfl,cA,cB,cC⟩,ah⟩:=a.idx bj;refine go ?_;refine LW.l (iF.iK w0 lP rfl (ah 9 _ rfl)) (b.same _ p.1 p.2) rfl ?_;refine gB h ?_ ?_ <;> intro _ h
           · refine go ?_;cases oi h;exact b.po [0,1]
           refine go ?_;refine bH h ?_ ?_ <;> intro _ h
           · refine gB h ?_ ?_ <;> intro _ h
             · refine gb h fun dA ai h=>?_;obtain ⟨dd,dq,hae,cr,cw⟩:=b.iJ (α:=Bool) (i:=0) rfl ai;subst hae;refine go ?_;obtain ⟨c3,B,G⟩:=b.freeze (α:=Bool) 0 rfl;obtain ⟨de,dr,cn,hae,a8,_,_,ba,be⟩:=B.ki.idx ai;cases hae;obtain rfl:=ba;refine go ?_;refine LW.l (iF.iK aQ lP rfl (be 0 _ rfl)) (G.zC 0 rfl a8) rfl ?_;refine gB h ?_ ?_ <;> intro _ h
               · refine go ?_;refine LW.l (iF.iK w0 lP rfl (ah 9 _ rfl)) (G.same _ p.1 p.2) rfl ?_;refine go ?_;have bq:=G.jf (α:=Bool) 0 rfl B;cases oi h;exact bq.po [0,1]
               refine go ?_;have br:=G.jf (α:=Bool) 0 rfl B;cases oi h;exact br.po [0,1]
             refine go ?_;cases oi h;exact b.po [0,1]
           refine go ?_;cases oi h;exact b.po [0,1]
         refine gB h ?_ ?_ <;> intro _ h
         · refine go ?_;refine bH h ?_ ?_ <;> intro _ h
           · refine gb h fun dB aj h=>?_;obtain ⟨df,ds,hae,cs,cx⟩:=b.iJ (α:=Bool) (i:=0) rfl aj;subst hae;refine go ?_;obtain ⟨c4,C,H⟩:=b.freeze (α:=Bool) 0 rfl;obtain ⟨dg,dt,co,hae,a9,_,_,bb,bf⟩:=C.ki.idx aj;cases hae;obtain rfl:=bb;refine go ?_;refine LW.l (iF.iK aQ lP rfl (bf 0 _ rfl)) (H.zC 0 rfl a9) rfl ?_;refine gB h ?_ ?_ <;> intro _ h
             · refine gb h fun dC bk h=>?_;obtain ⟨dh,du,cp,rfl,af,ct,cy,⟨c9,dl,da,dm,db,dn,rfl,cD,cE,cF⟩,bg⟩:=a.idx bk;refine go ?_;refine LW.l (iF.iK w0 lP rfl (bg 9 _ rfl)) (H.same _ af.1 af.2) rfl ?_;refine go ?_;have aS:=H.jf (α:=Bool) 0 rfl C;cases oi h;exact aS.po [0,1]
             refine go ?_;have aT:=H.jf (α:=Bool) 0 rfl C;cases oi h;exact aT.po [0,1]
           refine go ?_;cases oi h;exact b.po [0,1]
         refine go ?_;cases oi h;exact b.po [0,1]
       intro e dw aa;have h:=bm;refine gc h ?_ ?_ <;> intro _ h
       · refine go ?_;cases oi h;exact ⟨trivial,rfl,_,rfl,rx ⟨rfl,aa.pk []⟩⟩
       refine go ?_;cases oi h;exact ⟨rfl,(aa.po [0,1])⟩
     refine go ?_;cases oi h;exact ⟨trivial,rfl,⟨trivial,b.pk [0,1]⟩⟩
   intro x e dx hM;rcases aN with aN | dv
   · obtain ⟨rfl,hM⟩:=hM;obtain ⟨e,rfl,aU⟩:=eo hM;rw [show e=iI e [] from rfl];have h:=aL;refine go ?_;cases h;exact fi aU
   obtain ⟨rfl,u,rfl,hM⟩:=hM;cases aL;exact And.intro trivial hM
 refine go ?_;obtain ⟨ap,aG,Z⟩:=ob h;refine CW.mono (CW.lx [2,5] [0,1] [] 2 (fun aP=>[(7,vI aP)]) (RT Tryz.prog Tryz.f32.results (fun u=>.bool u) w0 []) aM aG (hb:=?_)) ?_
 · intro aP e bw o j h;refine gc h ?_ ?_ <;> intro _ h
   · refine gs ?_;refine CW.block ?_;refine gs ?_;obtain ⟨bv,bd,bn⟩:=ob h;refine CW.jn [2,5,7] [0,1] [(92,.bool bv)] j (h1:=?_) (h2:=?_)
     · have h:=bd;refine gb h fun dD ak h=>?_;obtain ⟨b4,cG,hae,cu,cz⟩:=j.iJ (α:=Bool) (i:=0) rfl ak;subst hae;refine go ?_;obtain ⟨bU,c,k⟩:=j.freeze (α:=Bool) 0 rfl;obtain ⟨b5,cH,bA,hae,ar,_,_,av,az⟩:=c.ki.idx ak;cases hae;obtain rfl:=av;refine LW.l (iF.iK bw lP rfl (az 0 _ rfl)) (k.zC 0 rfl ar) rfl ?_;refine gB h ?_ ?_ <;> intro _ h
       · refine go ?_;have aV:=k.jf (α:=Bool) 0 rfl c;cases oi h;exact aV.po [0,1]
       refine gb h fun cW aH h=>?_;refine go ?_;refine LW.c0 (ni aH rfl (k.rB M)) k fun cQ m=>?_;refine gB h ?_ ?_ <;> intro _ h
       · refine go ?_;have aW:=m.jf (α:=Bool) 0 rfl c;cases oi h;exact aW.po [0,1]
       refine gB h ?_ ?_ <;> intro _ h
       · refine go ?_;have ⟨cX,aI,h⟩:=ob h;obtain ⟨b6,cI,bB,rfl,I,bF,bK,⟨bX,cc,bY,ce,bZ,cf,rfl,bO,bP,bQ⟩,aA⟩:=a.idx aI;refine go ?_;refine LW.l (iF.iK w0 lP rfl (aA 9 _ rfl)) (m.same _ I.1 I.2) rfl ?_;refine go ?_;have aX:=m.jf (α:=Bool) 0 rfl c;cases oi h;exact aX.po [0,1]
       refine go ?_;have aY:=m.jf (α:=Bool) 0 rfl c;cases oi h;exact aY.po [0,1]
     intro e cR z;have h:=bn;refine gc h ?_ ?_ <;> intro _ h
     · refine go ?_;cases oi h;exact ⟨rfl,(z.po [0,1])⟩
     refine gb h fun cY aJ h=>?_;refine LW.cl (vd aJ rfl (z.rB a)) ?_;rintro _ cS ⟨b0,cg,rfl,hs⟩;have aZ:=z.add hs;refine go ?_;obtain ⟨ao,aF,Y⟩:=ob h;refine CW.mono (CW.lx [2,5,7,8] [0,1,2] [2,5,7] 4 (fun aq=>[(9,vI aq)]) (RT Tryz.prog Tryz.f32.results (fun u=>.bool u) w0 []) aZ aF (hb:=?_)) ?_
     · intro aq e t o A h;refine go ?_;refine CW.fl [2,5,7,8,9,100] fun e=>?_;refine gc h ?_ ?_ <;> intro _ h
       · refine gs ?_;refine CW.block ?_;refine gs ?_;obtain ⟨bl,ay,aR⟩:=ob h;refine CW.jn [2,5,7,8,9] [0,1,2] [(128,.bool bl)] A (h1:=?_) (h2:=?_)
         · have h:=ay;refine CW.draw (by kernel_rfl) ?_;have ac:=A.drew;refine gb h fun cZ O h=>?_;obtain ⟨b7,cJ,hae,bG,bL⟩:=ac.iJ (α:=Int) (i:=0) rfl O;subst hae;refine go ?_;obtain ⟨bV,d,f⟩:=ac.freeze (α:=Int) 0 rfl;obtain ⟨b8,cK,bC,hae,n,_,_,aw,q⟩:=d.ki.idx O;cases hae;obtain rfl:=aw;refine AW.take (i:=3) rfl (by kernel_rfl) rfl rfl (iF.iK t.drew iW rfl (q 0 _ rfl)) (f.zC 0 rfl n) ?_;refine gB h ?_ ?_ <;> intro K h
           · refine go ?_;refine AW.take (i:=10) rfl (by kernel_rfl) (jM rfl rfl K) rfl (iF.iK t.drew iW rfl (q 0 _ rfl)) (f.zC 0 rfl n) ?_;have ⟨c1,R,h⟩:=ob h;obtain ⟨b9,cL,hae,bI,bM⟩:=f.iJ (α:=Bool) (i:=1) rfl R;subst hae;refine go ?_;obtain ⟨bW,s,g⟩:=f.freeze (α:=Bool) 1 rfl;obtain ⟨ca,cM,bD,hae,au,_,_,ax,aB⟩:=s.ki.idx R;cases hae;obtain rfl:=ax;refine AW.take (i:=12) rfl (by kernel_rfl) (jM rfl rfl K) rfl (iF.iK t.drew lP rfl (aB 0 _ rfl)) (g.zC 1 rfl au) ?_;refine gB h ?_ ?_ <;> intro L h
             · refine go ?_;refine AW.take (i:=20) rfl (by kernel_rfl) (jM rfl rfl L) rfl (iF.iK t.drew iW rfl (q 0 _ rfl)) (g.zC 0 rfl n) ?_;have ⟨c2,aK,h⟩:=ob h;obtain ⟨cb,cN,bE,rfl,J,bJ,bN,⟨b1,ci,b2,cj,b3,ck,rfl,bR,bS,bT⟩,aC⟩:=a.idx aK;refine go ?_;refine AW.take (i:=23) rfl (by kernel_rfl) (jM rfl rfl L) rfl (iF.iK w0 lP rfl (aC 9 _ rfl)) (g.same _ J.1 J.2) ?_;refine go ?_;have a0:=g.jf (α:=Int) 0 rfl d;have a1:=a0.jf (α:=Bool) 1 rfl s;cases oi h;exact a1.po [0,1,2]
             refine go ?_;have a2:=g.jf (α:=Int) 0 rfl d;have a3:=a2.jf (α:=Bool) 1 rfl s;cases oi h;exact a3.po [0,1,2]
           refine go ?_;have a4:=f.jf (α:=Int) 0 rfl d;cases oi h;exact a4.po [0,1,2]
         intro e cT ae;have h:=aR;refine gc h ?_ ?_ <;> intro _ h
         · refine go ?_;cases oi h;exact ⟨trivial,rfl,_,rfl,rx ⟨rfl,ae.pk []⟩⟩
         refine go ?_;cases oi h;exact ⟨rfl,(ae.po [0,1,2])⟩
       refine go ?_;cases oi h;exact ⟨trivial,rfl,(A.po [0,1,2])⟩
     intro x e cU hM;rcases ao with ao | cO
     · obtain ⟨rfl,hM⟩:=hM;obtain ⟨e,rfl,a5⟩:=eo hM;have h:=Y;refine go ?_;cases oi h;exact ⟨rfl,(a5.po [1,2])⟩
     obtain ⟨rfl,u,rfl,hM⟩:=hM;cases Y;exact ⟨trivial,rfl,_,rfl,hM⟩
   refine go ?_;cases oi h;exact ⟨trivial,rfl,⟨trivial,j.pk [0,1]⟩⟩
 intro x e cV hM;rcases ap with ap | cP
 · obtain ⟨rfl,hM⟩:=hM;obtain ⟨e,rfl,a6⟩:=eo hM;rw [show e=iI e [] from rfl];have h:=Z;refine go ?_;cases h;exact fi a6
 obtain ⟨rfl,u,rfl,hM⟩:=hM;cases Z;exact And.intro trivial hM
theorem AD {w0 N s ai r} (h:pb N s ai=some r) {d p f} (q:p=s.length) (g:rb w0 d f s) :
    iA Tryz.prog 34 #[vS d p f,vI ai] w0 (fun v w=>∃ t u,v=vS t r.length u∧St w0 [] w [sl t u r]):=by
 subst q;unfold pb at h;refine iA.fn Tryz.func34 fun e=>?_;have aa:=St.start w0;refine go ?_;refine LW.jU (α:=Int) (vs:=[]) (cs:=#[]) (l:=([]:List Int)) rfl (by kernel_rfl) rfl rfl rfl (fun w=>rfl) aa rfl ?_;intro aj ak aT x hf;refine gb h fun V af h=>?_;refine LW.cl (rQ af rfl (x.rB g)) ?_;rintro _ aU ⟨A,B,rfl,hs⟩;have ab:=x.add hs;refine go ?_;obtain ⟨aL,O,Z⟩:=ob h;refine CW.ie O 0 (fun j e wb=>∃ (a:Ad) (b:Nat),En e [(0,vS d s.length f),(5,vS a j.1.length b),(6,vS A V.length B),(7,vI j.2)]∧St w0 [] wb [sl A B V,sl a b j.1]) ?_ ⟨aj,ak,ab.po [0,1]⟩ ?_
 · intro j e ax o hM h;obtain ⟨a,b,hE,c⟩:=hM;obtain ⟨e,rfl⟩:=hE.out;refine gc h ?_ ?_ <;> intro _ h
   · refine gs ?_;refine CW.block ?_;refine gs ?_;obtain ⟨ah,I,Y⟩:=ob h;refine CW.jn [0,5,6,7] [0,1] [(30,.bool ah)] c (h1:=?_) (h2:=?_)
     · have h:=I;refine gb h fun aQ R h=>?_;obtain ⟨aC,aI,am,rfl,k,ao,aq,⟨az,aF,aA,aG,aB,aH,rfl,au,av,aw⟩,J⟩:=g.idx R;refine go ?_;refine LW.l (iF.iK w0 iW rfl (J 1 _ rfl)) (c.same _ k.1 k.2) rfl ?_;refine gB h ?_ ?_ <;> intro _ h
       · refine gb h fun aR n h=>?_;obtain ⟨aD,aJ,hae,ap,ar⟩:=c.iJ (α:=Bool) (i:=0) rfl n;subst hae;refine go ?_;obtain ⟨ay,m,y⟩:=c.freeze (α:=Bool) 0 rfl;obtain ⟨aE,aK,an,hae,C,_,_,H,K⟩:=m.ki.idx n;cases hae;obtain rfl:=H;refine go ?_;refine LW.l (iF.iK ax lP rfl (K 0 _ rfl)) (y.zC 0 rfl C) rfl ?_;refine go ?_;have ac:=y.jf (α:=Bool) 0 rfl m;cases oi h;exact ac.po [0,1]
       refine go ?_;cases oi h;exact c.po [0,1]
     intro e aN z;have h:=Y;refine gc h ?_ ?_ <;> intro _ h
     · refine gb h fun aS U h=>?_;refine LW.m0 (M:=[]) (L:=[sl A B V,sl a b j.1]) (vs:=#[vI j.2]) (i:=1) mu rfl (by kernel_rfl) rfl rfl U z rfl (fun w G hG=>by cases (show G=[] from hG);exact ⟨rfl,rfl⟩) rfl rfl ?_;intro aM W X aO ad hf;refine go ?_;cases oi h;exact ⟨rfl,⟨W,X,ad.po [0,1]⟩⟩
     refine go ?_;cases oi h;exact ⟨rfl,⟨a,b,z.po [0,1]⟩⟩
   refine go ?_;cases oi h;exact ⟨trivial,rfl,⟨a,b,c.po [0,1]⟩⟩
 rintro e aP ⟨a,b,hE,ae⟩;obtain ⟨e,rfl⟩:=hE.out;have h:=Z;refine go ?_;cases h;exact Ra ⟨a,b,rfl,ae.pk [1]⟩
theorem w5 {w0 N a bi bj r} (h:mF N a bi bj=some r) {aa ax ah} (aH:ax=a.label.levels.length) (U:rb w0 aa ah a.label.levels) {ab ay ai} (aI:ay=a.own.length) (V:rb w0 ab ai a.own) {ac az aj} (aJ:az=a.tree.length) (W:rb w0 ac aj a.tree) {ad aA ak} (aK:aA=a.heap.ag.length) (X:rb w0 ad ak a.heap.ag) {ae aB am} (aL:aB=a.heap.gc.gE.length) (Y:rb w0 ae am a.heap.gc.gE) {af aC an} (aM:aC=a.iz.length) (Z:rb w0 af an a.iz) :
    iA Tryz.prog 29 #[.agg #[vS aa ax ah,vS ab ay ai,vS ac az aj,vS ad aA ak,vI a.heap.gc.phase,vI a.heap.gc.pos,vI a.heap.gc.round,vS ae aB am,vS af aC an,vI a.next,vI a.want,vI a.hZ.cd,vI a.hZ.im,vI a.hZ.iC,vI a.iH,vI a.lost],vI bi,vI bj] w0 (fun v w=>∃ z J, ∃ A K, ∃ B L, ∃ C M, ∃ G O, ∃ H R,v=.tuple #[.agg #[vS z r.1.label.levels.length J,vS A r.1.own.length K,vS B r.1.tree.length L,vS C r.1.heap.ag.length M,vI r.1.heap.gc.phase,vI r.1.heap.gc.pos,vI r.1.heap.gc.round,vS G r.1.heap.gc.gE.length O,vS H r.1.iz.length R,vI r.1.next,vI r.1.want,vI r.1.hZ.cd,vI r.1.hZ.im,vI r.1.hZ.iC,vI r.1.iH,vI r.1.lost],vI r.2]∧St w0 [] w [sl z J r.1.label.levels,sl A K r.1.own,sl B L r.1.tree,sl C M r.1.heap.ag,sl G O r.1.heap.gc.gE,sl H R r.1.iz]):=by
 subst aH aI aJ aK aL aM;unfold mF at h;refine iA.fn Tryz.func29 fun e=>?_;have bq:=St.start w0;refine go ?_;refine LW.bo bq fun cc ce br=>?_;refine LW.al br fun bm cf q=>?_;refine gb h fun n bv h=>?_;refine LW.cl (tm bv rfl (q.rB U) rfl (q.rB V) rfl (q.rB W) rfl (q.rB X) rfl (q.rB Y) rfl (q.rB Z)) ?_;rintro _ bT ⟨aD,aF,aE,aG,aN,aS,aO,aT,aP,aU,y,I,rfl,hs⟩;have bs:=q.add hs;refine LW.al bs fun aX bU bt=>?_;refine LW.st bt 0 fun bV p=>?_;refine gs ?_;refine CW.region ?_;refine gs ?_;obtain ⟨bw,ba,bn⟩:=ob h;refine CW.jn [1,2,6,8,9] [0,1,2,3,4,5,6,7] [(25,.bool bw)] p (h1:=?_) (h2:=?_)
 · have h:=ba;refine gb h fun b8 bd h=>?_;refine LW.c0 (qA bd rfl (p.rB U) rfl (p.rB V) rfl (p.rB W) rfl (p.rB X) rfl (p.rB Y) rfl (p.rB Z)) p fun bW aY=>?_;refine gB h ?_ ?_ <;> intro _ h
   · refine go ?_;cases oi h;exact aY.po [0,1,2,3,4,5,6,7]
   refine gb h fun b9 be h=>?_;refine go ?_;refine LW.c0 (ja be) aY fun bX bu=>?_;refine go ?_;cases oi h;exact bu.po [0,1,2,3,4,5,6,7]
 intro e bY aZ;have h:=bn;refine gc h ?_ ?_ <;> intro _ h
 · refine go ?_;refine LW.st aZ 7 fun bZ ao=>?_;refine go ?_;cases h;exact Rc (ig.b ao 7 rfl jw rfl rfl) tt ⟨aD,aF,aE,aG,aN,aS,aO,aT,aP,aU,y,I,rfl,ao.pk [1,2,3,4,5,6]⟩
 refine go ?_;obtain ⟨bS,bc,bp⟩:=ob h;refine CW.ie bc 0 (fun g e wb=>∃ (d:Ad) (f:Nat) (j:Ad) (l:Nat) (k:Ad) (m:Nat),En e [(1,vI bi),(2,vI bj),(6,.pointer (some ⟨bm,0,none⟩)),(8,.pointer (some ⟨aX,0,none⟩)),(9,vI g.1),(10,vI g.2.1)]∧St w0 [] wb [bx aX 37 [vS aD n.label.levels.length aF,vS aE n.own.length aG,vS d g.2.2.1.length f,vS j g.2.2.2.1.length l,vI g.2.2.2.2.1,vI g.2.2.2.2.2.1,vI g.2.2.2.2.2.2.1,vS k g.2.2.2.2.2.2.2.length m,vS y n.iz.length I,vI n.next,vI n.want,vI n.hZ.cd,vI n.hZ.im,vI n.hZ.iC,vI n.iH,vI n.lost],sl aD aF n.label.levels,sl aE aG n.own,sl y I n.iz,bx bm 37 [vS none 0 0,vS none 0 0,vS none 0 0,vS none 0 0,vI 0,vI 0,vI 0,vS none 0 0,vS none 0 0,vI 0,vI 0,vI 0,vI 0,vI 0,vI 0,vI 0],sl d f g.2.2.1,sl j l g.2.2.2.1,sl k m g.2.2.2.2.2.2.2]) ?_ ⟨aN,aS,aO,aT,aP,aU,aZ.po [0,1,2,6,7,3,4,5]⟩ ?_
 · intro g e b0 o hM h;obtain ⟨d,f,j,l,k,m,hE,s⟩:=hM;obtain ⟨e,rfl⟩:=hE.out;refine gc h ?_ ?_ <;> intro _ h
   · refine gb h fun ca bf h=>?_;refine LW.cl (tT bf rfl (s.rI 6 rfl) rfl (s.rI 7 rfl)) ?_;rintro _ b1 ⟨aQ,aV,aR,aW,rfl,hs⟩;have a2:=s.add hs;refine go ?_;refine LW.al a2 fun bP b2 a3=>?_;refine LW.st a3 0 fun b3 a4=>?_;refine go ?_;refine LW.st a4 3 fun a0 ap=>?_;refine gc h ?_ ?_ <;> intro _ h
     · refine go ?_;refine CW.draw (by kernel_rfl) ?_;have aq:=ap.drew;refine gb h fun a1 aw h=>?_;obtain ⟨bK,bQ,hae,bA,bB⟩:=aq.iJ (α:=bh) (i:=9) rfl aw;subst hae;refine go ?_;obtain ⟨bF,bb,t⟩:=aq.freeze (α:=bh) 9 rfl;obtain ⟨bL,bR,bz,hae,x,_,_,a9,av⟩:=bb.ki.idx aw;cases hae;obtain ⟨bG,bM,bI,bN,bJ,bO,rfl,bC,bD,bE⟩:=a9;refine AW.take (i:=6) rfl (by kernel_rfl) rfl rfl (iF.iK a0.drew iW rfl (av 3 _ rfl)) (t.zC 9 rfl x) ?_;refine go ?_;refine AW.take (i:=11) rfl (by kernel_rfl) rfl rfl (iF.iK a0.drew iW rfl (av 5 _ rfl)) (t.zC 9 rfl x) ?_;refine AW.u (i:=12) rfl (by kernel_rfl) rfl rfl (iG.build (vs:=[(0,vI a1.cd)]) (cs:=#[vI a1.cd,vI 0,vI 0]) rfl (by kernel_rfl)) ?_;have ⟨cb,bg,h⟩:=ob h;refine jO 13 ?_;refine LW.cl (vi bg rfl (t.rI 8 rfl)) ?_;rintro _ b4 ⟨bk,bl,rfl,hs⟩;have ar:=t.add hs;refine jN (.c (ar.zC 10 rfl x) (jW (jW jZ))) ?_;refine go ?_;refine LW.st ar 4 fun b5 a5=>?_;refine go ?_;cases oi h;exact ⟨rfl,⟨bk,bl,aQ,aV,aR,aW,a5.po [4,5,6,7,8,0,2,3]⟩⟩
     refine go ?_;cases oi h;exact ⟨rfl,⟨d,f,aQ,aV,aR,aW,ap.po [3,4,5,6,7,8,1,2]⟩⟩
   refine go ?_;cases oi h;exact ⟨trivial,rfl,⟨d,f,j,l,k,m,s.po [0,1,2,3,4,5,6,7]⟩⟩
 rintro e b6 ⟨d,f,j,l,k,m,hE,a7⟩;obtain ⟨e,rfl⟩:=hE.out;have h:=bp;refine go ?_;refine LW.st a7 4 fun b7 au=>?_;refine go ?_;cases h;exact Rc (ig.b au 4 rfl jw rfl rfl) tt ⟨aD,aF,aE,aG,d,f,j,l,k,m,y,I,rfl,au.pk [1,2,5,6,7,3]⟩
theorem uy {w0 N af r} (h:lu N af=some r) {y ad z} (ae:ad=af.length) (c:rb w0 y z af) :
    iA Tryz.prog 27 #[vS y ad z] w0 (fun v w=>∃ H O, ∃ I R, ∃ J U, ∃ K V, ∃ L W, ∃ M X,v=.tuple #[.agg #[vS H r.1.label.levels.length O,vS I r.1.own.length R,vS J r.1.tree.length U,vS K r.1.heap.ag.length V,vI r.1.heap.gc.phase,vI r.1.heap.gc.pos,vI r.1.heap.gc.round,vS L r.1.heap.gc.gE.length W,vS M r.1.iz.length X,vI r.1.next,vI r.1.want,vI r.1.hZ.cd,vI r.1.hZ.im,vI r.1.hZ.iC,vI r.1.iH,vI r.1.lost],vI r.2.1,vI r.2.2]∧St w0 [] w [sl H O r.1.label.levels,sl I R r.1.own,sl J U r.1.tree,sl K V r.1.heap.ag,sl L W r.1.heap.gc.gE,sl M X r.1.iz]):=by
 subst ae;unfold lu at h;refine iA.fn Tryz.func27 fun e=>?_;have aZ:=St.start w0;refine go ?_;refine LW.al aZ fun aW bJ ai=>?_;refine gb h fun bL a6 h=>?_;refine LW.cl (CQ a6 rfl (ai.rB c)) ?_;rintro _ bK ⟨aX,rfl,hs⟩;have a0:=ai.add hs;refine gb h fun bM a7 h=>?_;obtain ⟨bI,Y⟩:=a0.iv [0] [1];refine LW.cl (z8 a7 (Y.rB c) Y.st) ?_;rintro _ bl ⟨a8,aK,az,aL,aA,aM,aB,aN,aC,aO,aD,aP,rfl,hs⟩;have a1:=Y.back _ _ hs;refine LW.al a1 fun ah bm a2=>?_;refine LW.st a2 0 fun bn a3=>?_;refine gb h fun bC av h=>?_;obtain ⟨ba,A⟩:=a3.iv [7] [0,1,2,3,4,5,6,8];refine LW.cl (ks av (A.rB c) A.st) ?_;rintro _ bo ⟨rfl,hs⟩;have aj:=A.back _ _ hs;refine gs ?_;obtain ⟨a,au,aY⟩:=ob h;refine CW.cut (fun e wb=>∃ (g:Ad) (n:Nat) (i:Ad) (o:Nat) (j:Ad) (p:Nat) (k:Ad) (q:Nat) (m:Ad) (s:Nat) (d:Ad) (f:Nat),En e [(2,.pointer (some ⟨aW,0,none⟩)),(5,.pointer (some ⟨aX,0,none⟩)),(6,.pointer (some ⟨ah,0,none⟩))]∧St w0 [] wb [bx aX 164 [vS y af.length z,vI a.1,vI a.2.1],bx ah 37 [vS g a.2.2.1.length n,vS i a.2.2.2.1.length o,vS j a.2.2.2.2.1.length p,vS k a.2.2.2.2.2.1.length q,vI a.2.2.2.2.2.2.1,vI a.2.2.2.2.2.2.2.1,vI a.2.2.2.2.2.2.2.2.1,vS m a.2.2.2.2.2.2.2.2.2.1.length s,vS d a.2.2.2.2.2.2.2.2.2.2.1.length f,vI a.2.2.2.2.2.2.2.2.2.2.2.1,vI a.2.2.2.2.2.2.2.2.2.2.2.2.1,vI a.2.2.2.2.2.2.2.2.2.2.2.2.2.1,vI a.2.2.2.2.2.2.2.2.2.2.2.2.2.2.1,vI a.2.2.2.2.2.2.2.2.2.2.2.2.2.2.2.1,vI a.2.2.2.2.2.2.2.2.2.2.2.2.2.2.2.2.1,vI a.2.2.2.2.2.2.2.2.2.2.2.2.2.2.2.2.2],bx aW 37 [vS none 0 0,vS none 0 0,vS none 0 0,vS none 0 0,vI 0,vI 0,vI 0,vS none 0 0,vS none 0 0,vI 0,vI 0,vI 0,vI 0,vI 0,vI 0,vI 0],sl g n a.2.2.1,sl i o a.2.2.2.1,sl j p a.2.2.2.2.1,sl k q a.2.2.2.2.2.1,sl m s a.2.2.2.2.2.2.2.2.2.1,sl d f a.2.2.2.2.2.2.2.2.2.2.1]) ?_ ?_
 · have h:=au;refine gc h ?_ ?_ <;> intro _ h
   · refine gb h fun bD aw h=>?_;obtain ⟨bb,B⟩:=aj.iv [0] [1,2,3,4,5,6,7,8];refine LW.cl (BB aw (B.rB c) B.st) ?_;rintro _ bp ⟨aE,aQ,aF,aR,aG,aS,aH,aT,aI,aU,aJ,aV,rfl,hs⟩;have a4:=B.back _ _ hs;refine LW.st a4 7 fun bq a5=>?_;refine go ?_;cases oi h;exact ⟨aE,aQ,aF,aR,aG,aS,aH,aT,aI,aU,aJ,aV,a5.po [6,7,14,0,1,2,3,4,5]⟩
   refine go ?_;cases oi h;exact ⟨a8,aK,az,aL,aA,aM,aB,aN,aC,aO,aD,aP,aj.po [0,1,8,2,3,4,5,6,7]⟩
 rintro e br ⟨g,n,i,o,j,p,k,q,m,s,d,f,hE,ak⟩;obtain ⟨e,rfl⟩:=hE.out;have h:=aY;refine go ?_;refine CW.draw (by kernel_rfl) ?_;have Z:=ak.drew;refine gb h fun bE ac h=>?_;refine AW.all (rs:=[2,4]) (by kernel_rfl) (by simp) ⟨?_,?_,trivial⟩
 · obtain ⟨bc,C⟩:=Z.iv [0] [1,2,3,4,5,6,7,8];refine ⟨_,rfl,?_⟩;refine LW.cl (ir ac (C.rB c) C.st) ?_;rintro _ bs ⟨rfl,hs⟩;have am:=C.back _ _ hs;refine jn ?_;refine jO 4 ?_;refine LW.jU (α:=Int) (vs:=[(0,vI 0),(1,vI 1),(2,vI 3),(3,vI 10),(4,vI 42),(5,vI 100),(6,vI 101),(7,vI (-1))]) (cs:=#[vI 0,vI 1,vI 3,vI 10,vI 42,vI 100,vI 101,vI (-1)]) (l:=([0,1,3,10,42,100,101, -1]:List Int)) rfl (by kernel_rfl) rfl rfl rfl (fun w=>⟨[vI 0],[vI 1,vI 3,vI 10,vI 42,vI 100,vI 101,vI (-1)],[],[],rfl,rfl,⟨rfl,rfl⟩,⟨[vI 1],[vI 3,vI 10,vI 42,vI 100,vI 101,vI (-1)],[],[],rfl,rfl,⟨rfl,rfl⟩,⟨[vI 3],[vI 10,vI 42,vI 100,vI 101,vI (-1)],[],[],rfl,rfl,⟨rfl,rfl⟩,⟨[vI 10],[vI 42,vI 100,vI 101,vI (-1)],[],[],rfl,rfl,⟨rfl,rfl⟩,⟨[vI 42],[vI 100,vI 101,vI (-1)],[],[],rfl,rfl,⟨rfl,rfl⟩,⟨[vI 100],[vI 101,vI (-1)],[],[],rfl,rfl,⟨rfl,rfl⟩,⟨[vI 101],[vI (-1)],[],[],rfl,rfl,⟨rfl,rfl⟩,⟨[vI (-1)],[],[],[],rfl,rfl,⟨rfl,rfl⟩,rfl⟩⟩⟩⟩⟩⟩⟩⟩) am rfl ?_;intro bg bj bt an hf;refine jn ?_;have ⟨bF,ax,h⟩:=ob h;obtain ⟨bd,u⟩:=an.iv [1] [0,2,3,4,5,6,7,8,9];refine jO 5 ?_;refine LW.cl (i6 ax (u.rB c) rfl (u.rI 0 rfl) u.st) ?_;rintro _ bu ⟨rfl,hs⟩;have ao:=u.back _ _ hs;refine jn ?_;refine jO 6 ?_;refine LW.st ao 3 fun bv aa=>?_;refine jn ?_;refine go ?_;cases h;exact And.intro trivial ⟨_,jB.three (ig.b aa 3 rfl jw rfl rfl) (ig.t rfl) (ig.t rfl),g,n,i,o,j,p,k,q,m,s,d,f,rfl,aa.pk [4,5,6,7,8,9]⟩
 refine ⟨_,rfl,?_⟩;refine LW.jU (α:=Int) (vs:=[(0,vI 0),(1,vI 1),(2,vI 3),(3,vI 10),(4,vI 42),(5,vI 100),(6,vI 101),(7,vI (-1))]) (cs:=#[vI 0,vI 1,vI 3,vI 10,vI 42,vI 100,vI 101,vI (-1)]) (l:=([0,1,3,10,42,100,101, -1]:List Int)) rfl (by kernel_rfl) rfl rfl rfl (fun w=>⟨[vI 0],[vI 1,vI 3,vI 10,vI 42,vI 100,vI 101,vI (-1)],[],[],rfl,rfl,⟨rfl,rfl⟩,⟨[vI 1],[vI 3,vI 10,vI 42,vI 100,vI 101,vI (-1)],[],[],rfl,rfl,⟨rfl,rfl⟩,⟨[vI 3],[vI 10,vI 42,vI 100,vI 101,vI (-1)],[],[],rfl,rfl,⟨rfl,rfl⟩,⟨[vI 10],[vI 42,vI 100,vI 101,vI (-1)],[],[],rfl,rfl,⟨rfl,rfl⟩,⟨[vI 42],[vI 100,vI 101,vI (-1)],[],[],rfl,rfl,⟨rfl,rfl⟩,⟨[vI 100],[vI 101,vI (-1)],[],[],rfl,rfl,⟨rfl,rfl⟩,⟨[vI 101],[vI (-1)],[],[],rfl,rfl,⟨rfl,rfl⟩,⟨[vI (-1)],[],[],[],rfl,rfl,⟨rfl,rfl⟩,rfl⟩⟩⟩⟩⟩⟩⟩⟩) Z rfl ?_;intro bi bk bw ap hf;refine jn ?_;obtain ⟨be,G⟩:=ap.iv [1] [0,2,3,4,5,6,7,8,9];refine jO 2 ?_;refine LW.cl (ir ac (G.rB c) G.st) ?_;rintro _ bz ⟨rfl,hs⟩;have aq:=G.back _ _ hs;refine jn ?_;have ⟨bG,ay,h⟩:=ob h;obtain ⟨bf,x⟩:=aq.iv [0] [1,2,3,4,5,6,7,8,9];refine jO 5 ?_;refine LW.cl (i6 ay (x.rB c) rfl (x.rI 0 rfl) x.st) ?_;rintro _ bA ⟨rfl,hs⟩;have ar:=x.back _ _ hs;refine jn ?_;refine jO 6 ?_;refine LW.st ar 3 fun bB ab=>?_;refine jn ?_;refine go ?_;cases h;exact And.intro trivial ⟨_,jB.three (ig.b ab 3 rfl jw rfl rfl) (ig.t rfl) (ig.t rfl),g,n,i,o,j,p,k,q,m,s,d,f,rfl,ab.pk [4,5,6,7,8,9]⟩
theorem wS {w0 N bK r} (h:mR N bK=some r) {ac am ad} (aw:am=bK.length) (W:rb w0 ac ad bK) :
    iA Tryz.prog 5 #[vS ac am ad] w0 (fun v w=>v=.bool r∧St w0 [] w []):=by
 subst aw;unfold mR at h;refine iA.fn Tryz.func5 fun e=>?_;have aZ:=St.start w0;refine gb h fun dT bY h=>?_;refine LW.c0 (EP bY rfl (aZ.rB W)) aZ fun dS ah=>?_;refine gc h ?_ ?_ <;> intro _ h
 · refine go ?_;cases h;exact fi ah
 refine gb h fun L bZ h=>?_;refine LW.cl (uy bZ rfl (ah.rB W)) ?_;rintro _ dm ⟨bL,bO,bM,bP,bN,aL,aC,aM,aD,aN,aE,aO,rfl,hs⟩;have bT:=ah.add hs;refine go ?_;refine LW.al bT fun aV dn bU=>?_;refine LW.st bU 0 fun dp p=>?_;refine gb h fun t bv h=>?_;refine LW.cl (wR bv rfl (p.rI 1 rfl) rfl (p.rI 2 rfl) rfl (p.rI 3 rfl) rfl (p.rI 4 rfl) rfl (p.rI 5 rfl) rfl (p.rI 6 rfl)) ?_;rintro _ dq ⟨aF,aP,aG,aQ,aH,aR,aI,aS,aJ,aT,aK,aU,rfl,hs⟩;have bV:=p.add hs;refine go ?_;refine LW.al bV fun aW dr bW=>?_;refine LW.st bW 0 fun ds q=>?_;refine go ?_;have ⟨dL,bw,h⟩:=ob h;refine LW.cl (w5 bw rfl (q.rI 8 rfl) rfl (q.rI 9 rfl) rfl (q.rI 10 rfl) rfl (q.rI 11 rfl) rfl (q.rI 12 rfl) rfl (q.rI 13 rfl)) ?_;rintro _ dt ⟨c5,de,c7,df,c9,dg,da,dh,db,di,dc,dj,rfl,hs⟩;have bX:=q.add hs;refine go ?_;refine LW.al bX fun dl du a4=>?_;refine LW.st a4 0 fun dv b=>?_;refine gc h ?_ ?_ <;> intro _ h
 · refine go ?_;cases h;exact fi b
 refine gs ?_;obtain ⟨b0,br,bQ⟩:=ob h;refine CW.jn [3,4,5,6,7] [7,8,9,10,11,12,13,14,15,16,17,18,19,20] [(49,.bool b0)] b (h1:=?_) (h2:=?_)
 · have h:=br;refine gb h fun dM bz h=>?_;refine LW.c0 (qA bz rfl (b.rI 15 rfl) rfl (b.rI 16 rfl) rfl (b.rI 17 rfl) rfl (b.rI 18 rfl) rfl (b.rI 19 rfl) rfl (b.rI 20 rfl)) b fun dw H=>?_;refine gB h ?_ ?_ <;> intro _ h
   · refine go ?_;cases oi h;exact H.po [7,8,9,10,11,12,13,14,15,16,17,18,19,20]
   refine gB h ?_ ?_ <;> intro _ h
   · refine go ?_;cases oi h;exact H.po [7,8,9,10,11,12,13,14,15,16,17,18,19,20]
   refine go ?_;cases oi h;exact H.po [7,8,9,10,11,12,13,14,15,16,17,18,19,20]
 intro e dx a;have h:=bQ;refine gc h ?_ ?_ <;> intro _ h
 · refine gs ?_;obtain ⟨b1,bs,bR⟩:=ob h;refine CW.jn [] [] [(2,.bool b1)] a (h1:=?_) (h2:=?_)
   · have h:=bs;refine gB h ?_ ?_ <;> intro _ h
     · refine gb h fun dN bA h=>?_;refine go ?_;refine LW.c0 (yX bA rfl (a.rI 1 rfl) rfl (a.rI 2 rfl) rfl (a.rI 3 rfl) rfl (a.rI 4 rfl) rfl (a.rI 5 rfl) rfl (a.rI 6 rfl) rfl (a.rI 8 rfl) rfl (a.rI 9 rfl) rfl (a.rI 10 rfl) rfl (a.rI 11 rfl) rfl (a.rI 12 rfl) rfl (a.rI 13 rfl)) a fun dy a6=>?_;refine go ?_;cases oi h;exact a6.po []
     refine go ?_;cases oi h;exact a.po []
   intro e dA a8;have h:=bR;refine go ?_;cases h;exact fi a8
 refine gb h fun dO bB h=>?_;refine LW.c0 (tf bB rfl (a.rI 8 rfl) rfl (a.rI 9 rfl) rfl (a.rI 10 rfl) rfl (a.rI 11 rfl) rfl (a.rI 12 rfl) rfl (a.rI 13 rfl)) a fun dB ba=>?_;have ⟨dP,bC,h⟩:=ob h;refine LW.c0 (kU bC) ba fun dC c=>?_;refine go ?_;refine CW.fl [3,4,5,6,60] fun e=>?_;refine gc h ?_ ?_ <;> intro _ h
 · refine go ?_;cases h;exact fi c
 refine gb h fun aa bD h=>?_;refine LW.c0 (tf bD rfl (c.rI 8 rfl) rfl (c.rI 9 rfl) rfl (c.rI 10 rfl) rfl (c.rI 11 rfl) rfl (c.rI 12 rfl) rfl (c.rI 13 rfl)) c fun dD bb=>?_;refine LW.al bb fun aX dE bc=>?_;refine LW.st bc 0 fun dF g=>?_;refine gb h fun ab bE h=>?_;refine LW.c0 (tf bE rfl (g.rI 2 rfl) rfl (g.rI 3 rfl) rfl (g.rI 4 rfl) rfl (g.rI 5 rfl) rfl (g.rI 6 rfl) rfl (g.rI 7 rfl)) g fun dG bd=>?_;refine LW.al bd fun aY dH be=>?_;refine LW.st be 0 fun dI y=>?_;refine go ?_;refine CW.fl [3,4,5,6,10,11,69] fun e=>?_;refine gc h ?_ ?_ <;> intro _ h
 · refine go ?_;cases h;exact fi y
 refine gb h fun dQ bF h=>?_;refine LW.c0 (Bu bF rfl (y.rI 13 rfl) rfl (y.rI 14 rfl)) y fun dJ I=>?_;refine gs ?_;obtain ⟨bJ,bt,af⟩:=ob h;refine CW.cut (fun e wb=>∃ a0,bJ=.inl a0∧En e [(3,.pointer (some ⟨aV,0,none⟩)),(6,.pointer (some ⟨aW,0,none⟩)),(10,.pointer (some ⟨aX,0,none⟩)),(11,.pointer (some ⟨aY,0,none⟩))]∧St w0 [] wb [bx aY 35 [vI ab.cd,vI ab.im,vI ab.iC],bx aX 35 [vI aa.cd,vI aa.im,vI aa.iC],bx aW 37 (qP aF aP aG aQ aH aR aI aS aJ aT aK aU t.1),sl aF aP t.1.label.levels,sl aG aQ t.1.own,sl aH aR t.1.tree,sl aI aS t.1.heap.ag,sl aJ aT t.1.heap.gc.gE,sl aK aU t.1.iz,bx aV 37 (qP bL bO bM bP bN aL aC aM aD aN aE aO L.1),sl bL bO L.1.label.levels,sl bM bP L.1.own,sl bN aL L.1.tree,sl aC aM L.1.heap.ag,sl aD aN L.1.heap.gc.gE,sl aE aO L.1.iz]) ?_ ?_
 · have h:=bt;refine gc h ?_ ?_ <;> intro _ h
   · refine gb h fun dR bG h=>?_;refine LW.cl (rQ bG rfl (I.rI 13 rfl)) ?_;rintro _ dK ⟨dd,dk,rfl,hs⟩;have bf:=I.add hs;refine go ?_;obtain ⟨an,ax,ae⟩:=ob h;refine CW.mono (CW.lx [3,4,5,6,10,11,12] [0,1,2,3,4,5,6,7,8,9,10,11,12,13,14,15,16] [3,4,5,6,10,11] 0 (fun a1=>[(13,vI a1)]) (RT Tryz.prog Tryz.f5.results (fun u=>.bool u) w0 []) bf ax (hb:=?_)) ?_
     · intro a1 e s o J h;refine go ?_;refine CW.fl [3,4,5,6,10,11,12,13,82] fun e=>?_;refine gc h ?_ ?_ <;> intro _ h
       · refine gs ?_;refine CW.block ?_;refine gs ?_;obtain ⟨b2,bu,bS⟩:=ob h;refine CW.jn [3,4,5,6,10,11,12,13] [0,1,2,3,4,5,6,7,8,9,10,11,12,13,14,15,16] [(128,.bool b2)] J (h1:=?_) (h2:=?_)
         · have h:=bu;refine CW.draw (by kernel_rfl) ?_;have ai:=J.drew;refine gb h fun cX X h=>?_;obtain ⟨cv,cI,hae,b6,b9⟩:=ai.iJ (α:=Bool) (i:=0) rfl X;subst hae;refine go ?_;obtain ⟨ck,m,n⟩:=ai.freeze (α:=Bool) 0 rfl;obtain ⟨cw,cJ,b3,hae,A,_,_,aq,B⟩:=m.ki.idx X;cases hae;obtain rfl:=aq;refine AW.take (i:=3) rfl (by kernel_rfl) rfl rfl (iF.iK s.drew lP rfl (B 0 _ rfl)) (n.zC 0 rfl A) ?_;refine gB h ?_ ?_ <;> intro l h
           · refine gb h fun cY Y h=>?_;obtain ⟨cx,cK,hae,b7,ca⟩:=n.iJ (α:=bh) (i:=7) rfl Y;subst hae;refine go ?_;obtain ⟨cm,C,K⟩:=n.freeze (α:=bh) 7 rfl;obtain ⟨cy,cL,b4,hae,M,_,_,ar,U⟩:=C.ki.idx Y;cases hae;obtain ⟨co,cB,cp,cC,cq,cD,rfl,cc,ce,cf⟩:=ar;refine AW.take (i:=11) rfl (by kernel_rfl) (jM rfl rfl l) rfl (iF.iK s.drew iW rfl (U 0 _ rfl)) (K.zC 7 rfl M) ?_;refine gb h fun cZ Z h=>?_;obtain ⟨cz,cM,hae,b8,cb⟩:=K.iJ (α:=bh) (i:=14) rfl Z;subst hae;refine go ?_;obtain ⟨cn,G,k⟩:=K.freeze (α:=bh) 14 rfl;obtain ⟨cA,cN,b5,hae,O,_,_,au,V⟩:=G.ki.idx Z;cases hae;obtain ⟨cr,cE,cs,cF,ct,cG,rfl,cg,ci,cj⟩:=au;refine AW.take (i:=18) rfl (by kernel_rfl) (jM rfl rfl l) rfl (iF.iK s.drew iW rfl (V 0 _ rfl)) (k.zC 14 rfl O) ?_;refine gB h ?_ ?_ <;> intro ao h
             · refine go ?_;have bg:=k.jf (α:=Bool) 0 rfl m;have bi:=bg.jf (α:=bh) 7 rfl C;have bj:=bi.jf (α:=bh) 14 rfl G;cases oi h;exact bj.po [0,1,2,3,4,5,6,7,8,9,10,11,12,13,14,15,16]
             refine go ?_;refine AW.take (i:=25) rfl (by kernel_rfl) (jM rfl rfl ao) rfl (iF.iK s.drew lP rfl (B 0 _ rfl)) (k.zC 0 rfl A) ?_;refine go ?_;refine AW.take (i:=33) rfl (by kernel_rfl) (jM rfl rfl l) rfl (iF.iK s.drew iW rfl (U 1 _ rfl)) (k.zC 7 rfl M) ?_;refine go ?_;refine AW.take (i:=40) rfl (by kernel_rfl) (jM rfl rfl l) rfl (iF.iK s.drew iW rfl (V 1 _ rfl)) (k.zC 14 rfl O) ?_;refine go ?_;have bk:=k.jf (α:=Bool) 0 rfl m;have bl:=bk.jf (α:=bh) 7 rfl C;have bm:=bl.jf (α:=bh) 14 rfl G;cases oi h;exact bm.po [0,1,2,3,4,5,6,7,8,9,10,11,12,13,14,15,16]
           refine go ?_;refine AW.take (i:=25) rfl (by kernel_rfl) (jM rfl rfl rfl) rfl (iF.iK s.drew lP rfl (B 0 _ rfl)) (n.zC 0 rfl A) ?_;refine go ?_;have bn:=n.jf (α:=Bool) 0 rfl m;cases oi h;exact bn.po [0,1,2,3,4,5,6,7,8,9,10,11,12,13,14,15,16]
         intro e cP aj;have h:=bS;refine gc h ?_ ?_ <;> intro _ h
         · refine go ?_;cases oi h;exact ⟨trivial,rfl,_,rfl,rx ⟨rfl,aj.pk []⟩⟩
         refine go ?_;cases oi h;exact ⟨rfl,(aj.po [0,1,2,3,4,5,6,7,8,9,10,11,12,13,14,15,16])⟩
       refine go ?_;cases oi h;exact ⟨trivial,rfl,(J.po [0,1,2,3,4,5,6,7,8,9,10,11,12,13,14,15,16])⟩
     intro x e cQ hM;rcases an with an | cO
     · obtain ⟨rfl,hM⟩:=hM;obtain ⟨e,rfl,z⟩:=eo hM;have h:=ae;refine gs ?_;obtain ⟨bI,av,a2⟩:=ob h;refine CW.jn [3,6,10,11] [1,2,3,4,5,6,7,8,9,10,11,12,13,14,15,16] [(139,.bool bI)] z (h1:=?_) (h2:=?_)
       · have h:=av;refine gB h ?_ ?_ <;> intro _ h
         · refine gb h fun c1 ay h=>?_;refine go ?_;refine LW.cl (AD ay rfl (z.rI 7 rfl)) ?_;rintro _ cR ⟨cu,cH,rfl,hs⟩;have bo:=z.add hs;refine go ?_;cases oi h;exact bo.po [2,3,4,5,6,7,8,9,10,11,12,13,14,15,16,17]
         refine go ?_;cases oi h;exact z.po [1,2,3,4,5,6,7,8,9,10,11,12,13,14,15,16]
       intro e cS ak;have h:=a2;refine gc h ?_ ?_ <;> intro _ h
       · refine go ?_;cases h;have h:=af;cases h;exact fi ak
       refine go ?_;cases oi h;exact ⟨_,rfl,(ak.po [0,1,2,3,4,5,6,7,8,9,10,11,12,13,14,15])⟩
     cases ae;have a3:=af;obtain ⟨rfl,u,rfl,hM⟩:=hM;cases a3;exact And.intro trivial hM
   refine go ?_;cases oi h;exact ⟨_,rfl,(I.po [0,1,2,3,4,5,6,7,8,9,10,11,12,13,14,15])⟩
 rintro e cT ⟨a0,rfl,hM⟩;obtain ⟨e,rfl,bp⟩:=eo hM;have h:=af;refine go ?_;refine CW.draw (by kernel_rfl) ?_;have d:=bp.drew;refine go ?_;refine AW.u (i:=2) rfl (by kernel_rfl) rfl rfl (iG.GU E4 rfl rfl (fun w=>Fl aa ab w)) ?_;refine gB h ?_ ?_ <;> intro ap h
 · refine gb h fun c2 az h=>?_;refine jO 5 ?_;refine (LW.gY (jM rfl rfl ap) ?_);refine LW.cl (qA az rfl (d.rI 3 rfl) rfl (d.rI 4 rfl) rfl (d.rI 5 rfl) rfl (d.rI 6 rfl) rfl (d.rI 7 rfl) rfl (d.rI 8 rfl)) ?_;rintro _ cU ⟨rfl,hs⟩;have f:=d.add hs;refine jn ?_;refine gB h ?_ ?_ <;> intro R h
   · refine gb h fun c3 aA h=>?_;refine jO 9 ?_;refine (LW.gY (jM rfl rfl R) ?_);refine LW.cl (v7 aA rfl (f.rI 3 rfl) rfl (f.rI 4 rfl) rfl (f.rI 5 rfl) rfl (f.rI 6 rfl) rfl (f.rI 7 rfl) rfl (f.rI 8 rfl)) ?_;rintro _ cV ⟨rfl,hs⟩;have j:=f.add hs;refine jn ?_;have ⟨c4,aB,h⟩:=ob h;refine jO 11 ?_;refine (LW.gY (jM rfl rfl R) ?_);refine LW.cl (v7 aB rfl (j.rI 10 rfl) rfl (j.rI 11 rfl) rfl (j.rI 12 rfl) rfl (j.rI 13 rfl) rfl (j.rI 14 rfl) rfl (j.rI 15 rfl)) ?_;rintro _ cW ⟨rfl,hs⟩;have bq:=j.add hs;refine jn ?_;refine go ?_;cases h;exact fi bq
   refine go ?_;cases h;exact fi f
 refine go ?_;cases h;exact fi d
end Go.Kx
