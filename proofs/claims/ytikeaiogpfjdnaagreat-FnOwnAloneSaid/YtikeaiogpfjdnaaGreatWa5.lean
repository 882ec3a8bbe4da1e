/- Each call returns what the plain function says. Printed by drive.py. -/
import Derived.Test.YtikeaiogpfjdnaaGreatFa
import Derived.Test.YtikeaiogpfjdnaaGreatPu
import Derived.Test.YtikeaiogpfjdnaaGreatWa4
namespace Go.Kx
open Go Go.RowKit Go.Proofs
set_option maxRecDepth 10000
set_option maxHeartbeats 8000000
set_option linter.unusedVariables false
set_option linter.unusedSimpArgs false
theorem zp {w0 N C r} (h:rE N C=some r) {d j f} (k:j=C.length) (c:rb w0 d f C) :
    il Tryz.prog 151 #[vS d j f] w0 (fun v w=>v=.bool r∧St w0 [] w []):=by
 subst k;unfold rE at h;refine il.fn Tryz.func151 fun e=>?_;have H:=St.start w0;refine go ?_;obtain ⟨p,z,m⟩:=ob h;refine CW.mono (CW.lx [0,5,6] [] [] 0 (fun L=>[(7,vI L)]) (RT Tryz.prog Tryz.f151.results (fun u=>.bool u) w0 []) H z (hb:=?_)) ?_
 · intro L e ai o a h;refine gc h ?_ ?_ <;> intro _ h
   · refine gb h fun aj J h=>?_;obtain ⟨af,ah,V,rfl,g,W,X,rfl,t⟩:=c.idx J;refine go ?_;refine LW.l (iF.iN w0 iY rfl (t 0 _ rfl)) (a.same _ g.1 g.2) rfl ?_;refine gs ?_;obtain ⟨K,s,G⟩:=ob h;refine CW.jn [0,5,6,7] [] [(27,.bool K)] a (h1:=?_) (h2:=?_)
     · have h:=s;refine gb h fun ad A h=>?_;refine LW.c0 (jd A) a fun aa b=>?_;refine gB h ?_ ?_ <;> intro _ h
       · refine go ?_;cases oi h;exact b.po []
       refine gB h ?_ ?_ <;> intro _ h
       · refine gb h fun ae B h=>?_;obtain ⟨U,Y,M,hae,i,O,R,q,y⟩:=c.idx B;cases hae;obtain rfl:=q;refine go ?_;refine LW.l (iF.iN w0 iY rfl (y 0 _ rfl)) (b.same _ i.1 i.2) rfl ?_;refine go ?_;cases oi h;exact b.po []
       refine go ?_;cases oi h;exact b.po []
     intro e ab n;have h:=G;refine gc h ?_ ?_ <;> intro _ h
     · refine go ?_;cases oi h;exact ⟨trivial,rfl,_,rfl,rx ⟨rfl,n.pk []⟩⟩
     refine go ?_;cases oi h;exact ⟨rfl,(n.po [])⟩
   refine go ?_;cases oi h;exact ⟨trivial,rfl,⟨trivial,a.pk []⟩⟩
 intro x e ac hM;rcases p with p | Z
 · obtain ⟨rfl,hM⟩:=hM;obtain ⟨e,rfl,I⟩:=eo hM;rw [show e=iQ e [] from rfl];have h:=m;refine go ?_;cases h;exact fi I
 obtain ⟨rfl,u,rfl,hM⟩:=hM;cases m;exact And.intro trivial hM
theorem rW {w0 N d r} (h:l7 N d=some r) :
    il Tryz.prog 224 #[vI d] w0 (fun v w=>v=.bool r∧St w0 [] w []):=by
 unfold l7 at h;refine il.fn Tryz.func224 fun e=>?_;have a:=St.start w0;refine gb h fun g c h=>?_;refine LW.c0 (jd c) a fun f b=>?_;refine go ?_;cases h;exact fi b
theorem qf {w0 N d r} (h:lP N d=some r) :
    il Tryz.prog 154 #[vI d] w0 (fun v w=>v=.bool r∧St w0 [] w []):=by
 unfold lP at h;refine il.fn Tryz.func154 fun e=>?_;have a:=St.start w0;refine gb h fun g c h=>?_;refine LW.c0 (jd c) a fun f b=>?_;refine go ?_;cases h;exact fi b
theorem mZ {w0 N i l r} (h:ks N i l=some r) {a c b} (d:c=i.length) (f:rb w0 a b i) :
    il Tryz.prog 183 #[vS a c b,vI l] w0 (fun v w=>v=.bool r∧St w0 [] w []):=by
 subst d;unfold ks at h;refine il.fn Tryz.func183 fun e=>?_;have g:=St.start w0;refine gb h fun n k h=>?_;refine LW.c0 (zN k rfl (g.rB f)) g fun m j=>?_;refine go ?_;cases h;exact fi j
theorem BS {w0 N b c r} (h:qv N b c=some r) {d x l} (G:x=b.ig.length) (M:rb w0 d l b.ig) {f y m} (H:y=b.data.length) (O:rb w0 f m b.data) {g z n} (I:z=b.queue.length) (R:rb w0 g n b.queue) {i A o} (J:A=c.ig.length) (U:rb w0 i o c.ig) {j B p} (K:B=c.data.length) (V:rb w0 j p c.data) {k C q} (L:C=c.queue.length) (W:rb w0 k q c.queue) :
    il Tryz.prog 306 #[.agg #[vI b.gen,vI b.kind,vI b.box,vI b.res,vI b.iL,vI b.cd,vI b.wait,vI b.iK,vI b.iM,.bool b.mark,vS d x l,vS f y m,vS g z n],.agg #[vI c.gen,vI c.kind,vI c.box,vI c.res,vI c.iL,vI c.cd,vI c.wait,vI c.iK,vI c.iM,.bool c.mark,vS i A o,vS j B p,vS k C q]] w0 (fun v w=>v=.bool r∧St w0 [] w []):=by
 subst G H I J K L;unfold qv at h;refine il.fn Tryz.func306 fun e=>?_;have aa:=St.start w0;refine go ?_;refine LW.bo aa fun ak an ab=>?_;refine LW.bo ab fun am ao a=>?_;refine gB h ?_ ?_ <;> intro _ h
 · refine gB h ?_ ?_ <;> intro _ h
   · refine go ?_;refine bH h ?_ ?_ <;> intro _ h
     · refine gB h ?_ ?_ <;> intro _ h
       · refine gB h ?_ ?_ <;> intro _ h
         · refine gB h ?_ ?_ <;> intro _ h
           · refine go ?_;refine bH h ?_ ?_ <;> intro _ h
             · refine gB h ?_ ?_ <;> intro _ h
               · refine gB h ?_ ?_ <;> intro _ h
                 · refine go ?_;refine LW.u (iC.beq Tryz.underlying4 rfl rfl) rfl ?_;refine gB h ?_ ?_ <;> intro _ h
                   · refine go ?_;have ⟨ah,X,h⟩:=ob h;refine go ?_;refine LW.c0 (vr X rfl (a.rB M) rfl (a.rB U)) a fun ad s=>?_;refine gB h ?_ ?_ <;> intro _ h
                     · refine gb h fun ai Y h=>?_;refine go ?_;refine LW.c0 (vr Y rfl (s.rB O) rfl (s.rB V)) s fun ae t=>?_;refine gB h ?_ ?_ <;> intro _ h
                       · refine gb h fun aj Z h=>?_;refine go ?_;refine LW.c0 (zI Z rfl (t.rB R) rfl (t.rB W)) t fun af ac=>?_;refine go ?_;cases h;exact fi ac
                       refine go ?_;cases h;exact fi t
                     refine go ?_;cases h;exact fi s
                   refine go ?_;cases h;exact fi a
                 refine go ?_;cases h;exact fi a
               refine go ?_;cases h;exact fi a
             refine go ?_;cases h;exact fi a
           refine go ?_;cases h;exact fi a
         refine go ?_;cases h;exact fi a
       refine go ?_;cases h;exact fi a
     refine go ?_;cases h;exact fi a
   refine go ?_;cases h;exact fi a
 refine go ?_;cases h;exact fi a
theorem m3 {w0 N d r} (h:kH N d=some r) :
    il Tryz.prog 235 #[vI d] w0 (fun v w=>v=.bool r∧St w0 [] w []):=by
 unfold kH at h;refine il.fn Tryz.func235 fun e=>?_;have a:=St.start w0;refine gb h fun g c h=>?_;refine LW.c0 (jd c) a fun f b=>?_;refine go ?_;cases h;exact fi b
theorem sQ {w0 N a r} (h:mI N a=some r) {j y p} (A:y=a.ag.length) (C:rb w0 j p a.ag) {k z q} (B:z=a.gc.ia.length) (G:rb w0 k q a.gc.ia) :
    il Tryz.prog 171 #[.agg #[vS j y p,vI a.gc.phase,vI a.gc.pos,vI a.gc.round,vS k z q]] w0 (fun v w=>∃ c f, ∃ d g,v=.agg #[vS c r.ag.length f,vI r.gc.phase,vI r.gc.pos,vI r.gc.round,vS d r.gc.ia.length g]∧St w0 [] w [sl c f r.ag,sl d g r.gc.ia]):=by
 subst A B;unfold mI at h;refine il.fn Tryz.func171 fun e=>?_;have R:=St.start w0;refine go ?_;refine LW.bo R fun ai am U=>?_;refine LW.al U fun aj an V=>?_;refine go ?_;refine LW.al V fun ak ao W=>?_;refine LW.st W 0 fun ap X=>?_;refine go ?_;refine LW.jL (α:=Int) (vs:=[]) (cs:=#[]) (l:=([]:List Int)) rfl (by kernel_rfl) rfl rfl rfl (fun w=>rfl) X rfl ?_;intro af ah aa H hf;refine gb h fun J M h=>?_;refine LW.j9 (l:=([]:List Int)) (m:=a.gc.ia) lL rfl rfl (H.rB G) M H (i:=0) rfl rfl ?_;intro n s ab Y hf;refine go ?_;refine LW.st Y 1 fun ac Z=>?_;refine go ?_;refine CW.draw (by kernel_rfl) ?_;have I:=Z.drew;refine gb h fun K O h=>?_;refine jO 2 ?_;refine LW.cl (tq O rfl (I.rB C)) ?_;rintro _ ad ⟨o,t,rfl,hs⟩;have L:=I.add hs;refine jn ?_;refine AW.u (i:=4) rfl (by kernel_rfl) rfl rfl (iC.build (vs:=[(0,vS o K.length t),(1,.agg #[vI a.gc.phase,vI a.gc.pos,vI a.gc.round,vS n J.length s])]) (cs:=#[vS o K.length t,vI a.gc.phase,vI a.gc.pos,vI a.gc.round,vS n J.length s]) rfl (by kernel_rfl)) ?_;refine jO 5 ?_;refine LW.st L 3 fun ae x=>?_;refine jn ?_;refine go ?_;cases h;exact And.intro trivial ⟨_,jB.one (ib.b x 3 rfl pc rfl rfl),o,t,n,s,rfl,x.pk [0,1]⟩
theorem ma {w0 N a r} (h:kJ N a=some r) :
    il Tryz.prog 31 #[.agg #[vI a.cd,vI a.ij,vI a.iD]] w0 (fun v w=>v=.bool r∧St w0 [] w []):=by
 unfold kJ at h;refine il.fn Tryz.func31 fun e=>?_;have d:=St.start w0;refine go ?_;refine LW.bo d fun m n f=>?_;refine gb h fun q i h=>?_;refine LW.c0 (u9 i) f fun o b=>?_;refine gB h ?_ ?_ <;> intro _ h
 · refine gb h fun s j h=>?_;refine go ?_;refine LW.c0 (u9 j) b fun p c=>?_;refine gB h ?_ ?_ <;> intro _ h
   · refine gb h fun t k h=>?_;refine go ?_;refine LW.c0 (u9 k) c fun l g=>?_;refine go ?_;cases h;exact fi g
   refine go ?_;cases h;exact fi c
 refine go ?_;cases h;exact fi b
theorem DE {w0 N f r} (h:tb N f=some r) {p B t} (Y:B=f.ig.length) (ab:rb w0 p t f.ig) {q C y} (Z:C=f.data.length) (ac:rb w0 q y f.data) {s G z} (aa:G=f.queue.length) (ad:rb w0 s z f.queue) :
    il Tryz.prog 100 #[.agg #[vI f.gen,vI f.kind,vI f.box,vI f.res,vI f.iL,vI f.cd,vI f.wait,vI f.iK,vI f.iM,.bool f.mark,vS p B t,vS q C y,vS s G z]] w0 (fun v w=>v=.bool r∧St w0 [] w []):=by
 subst Y Z aa;unfold tb at h;refine il.fn Tryz.func100 fun e=>?_;have bc:=St.start w0;refine go ?_;refine LW.bo bc fun cy cz bd=>?_;refine gb h fun cB bg h=>?_;refine LW.c0 (jg bg) bd fun cA b=>?_;refine gc h ?_ ?_ <;> intro _ h
 · refine go ?_;cases h;exact fi b
 refine gc h ?_ ?_ <;> intro _ h
 · refine gs ?_;obtain ⟨bA,bf,bv⟩:=ob h;refine CW.jn [] [] [(2,.bool bA)] b (h1:=?_) (h2:=?_)
   · have h:=bf;refine gB h ?_ ?_ <;> intro _ h
     · refine gB h ?_ ?_ <;> intro _ h
       · refine go ?_;refine bH h ?_ ?_ <;> intro _ h
         · refine gB h ?_ ?_ <;> intro _ h
           · refine gB h ?_ ?_ <;> intro _ h
             · refine gB h ?_ ?_ <;> intro _ h
               · refine gB h ?_ ?_ <;> intro _ h
                 · refine go ?_;refine bH h ?_ ?_ <;> intro _ h
                   · refine gB h ?_ ?_ <;> intro _ h
                     · refine gB h ?_ ?_ <;> intro _ h
                       · refine go ?_;cases oi h;exact b.po []
                       refine go ?_;cases oi h;exact b.po []
                     refine go ?_;cases oi h;exact b.po []
                   refine go ?_;cases oi h;exact b.po []
                 refine go ?_;cases oi h;exact b.po []
               refine go ?_;cases oi h;exact b.po []
             refine go ?_;cases oi h;exact b.po []
           refine go ?_;cases oi h;exact b.po []
         refine go ?_;cases oi h;exact b.po []
       refine go ?_;cases oi h;exact b.po []
     refine go ?_;cases oi h;exact b.po []
   intro e bY be;have h:=bv;refine go ?_;cases h;exact fi be
 refine gs ?_;obtain ⟨bi,aO,a9⟩:=ob h;refine CW.jn [1] [0] [(108,.bool bi)] b (h1:=?_) (h2:=?_)
 · have h:=aO;refine gb h fun ck aT h=>?_;refine LW.c0 (jg aT) b fun bZ ax=>?_;refine gB h ?_ ?_ <;> intro _ h
   · refine go ?_;cases oi h;exact ax.po [0]
   refine gb h fun cl aU h=>?_;refine go ?_;refine LW.c0 (jg aU) ax fun b0 ay=>?_;refine gB h ?_ ?_ <;> intro _ h
   · refine go ?_;cases oi h;exact ay.po [0]
   refine gb h fun cm aV h=>?_;refine go ?_;refine LW.c0 (nu aV) ay fun b1 az=>?_;refine go ?_;refine bH h ?_ ?_ <;> intro _ h
   · refine go ?_;cases oi h;exact az.po [0]
   refine gb h fun cn aW h=>?_;refine go ?_;refine LW.c0 (jg aW) az fun b2 aA=>?_;refine gB h ?_ ?_ <;> intro _ h
   · refine go ?_;cases oi h;exact aA.po [0]
   refine gb h fun co aX h=>?_;refine go ?_;refine LW.c0 (jg aX) aA fun b3 W=>?_;refine gB h ?_ ?_ <;> intro _ h
   · refine go ?_;cases oi h;exact W.po [0]
   refine gB h ?_ ?_ <;> intro _ h
   · refine go ?_;cases oi h;exact W.po [0]
   refine gb h fun cp aY h=>?_;refine go ?_;refine LW.c0 (jg aY) W fun b4 aG=>?_;refine go ?_;cases oi h;exact aG.po [0]
 intro e b5 J;have h:=a9;refine gc h ?_ ?_ <;> intro _ h
 · refine go ?_;cases h;exact fi J
 refine go ?_;obtain ⟨aB,aS,aw⟩:=ob h;refine CW.mono (CW.lx [1] [0] [1] 0 (fun aC=>[(3,vI aC)]) (RT Tryz.prog Tryz.f100.results (fun u=>.bool u) w0 []) J aS (hb:=?_)) ?_
 · intro aC e b6 o k h;refine gc h ?_ ?_ <;> intro _ h
   · refine gb h fun cq aZ h=>?_;obtain ⟨bW,bX,bu,rfl,X,bw,bz,rfl,aR⟩:=ab.idx aZ;refine go ?_;refine LW.l (iF.iN w0 iY rfl (aR 0 _ rfl)) (k.same _ X.1 X.2) rfl ?_;have ⟨cr,a0,h⟩:=ob h;refine LW.c0 (jg a0) k fun b7 K=>?_;refine go ?_;refine CW.fl [1,3,119] fun e=>?_;refine gc h ?_ ?_ <;> intro _ h
     · refine go ?_;cases oi h;exact ⟨trivial,rfl,_,rfl,rx ⟨rfl,K.pk []⟩⟩
     refine go ?_;cases oi h;exact ⟨rfl,(K.po [0])⟩
   refine go ?_;cases oi h;exact ⟨trivial,rfl,(k.po [0])⟩
 intro x e b8 hM;rcases aB with aB | bF
 · obtain ⟨rfl,hM⟩:=hM;obtain ⟨e,rfl,a⟩:=eo hM;have h:=aw;refine gs ?_;obtain ⟨bj,aP,ba⟩:=ob h;refine CW.jn [1] [0] [(165,.bool bj)] a (h1:=?_) (h2:=?_)
   · have h:=aP;refine gB h ?_ ?_ <;> intro _ h
     · refine gB h ?_ ?_ <;> intro _ h
       · refine go ?_;cases oi h;exact a.po [0]
       refine go ?_;refine bH h ?_ ?_ <;> intro _ h
       · refine go ?_;cases oi h;exact a.po [0]
       refine gB h ?_ ?_ <;> intro _ h
       · refine go ?_;cases oi h;exact a.po [0]
       refine gB h ?_ ?_ <;> intro _ h
       · refine gB h ?_ ?_ <;> intro _ h
         · refine go ?_;cases oi h;exact a.po [0]
         refine gB h ?_ ?_ <;> intro _ h
         · refine go ?_;have ⟨cs,a1,h⟩:=ob h;refine go ?_;refine LW.c0 (lY a1) a fun b9 L=>?_;refine gB h ?_ ?_ <;> intro _ h
           · refine go ?_;cases oi h;exact L.po [0]
           refine gb h fun ct a2 h=>?_;refine go ?_;refine LW.c0 (jg a2) L fun ca aH=>?_;refine go ?_;cases oi h;exact aH.po [0]
         refine go ?_;have ⟨cu,a3,h⟩:=ob h;refine go ?_;refine LW.c0 (jg a3) a fun cb aI=>?_;refine go ?_;cases oi h;exact aI.po [0]
       refine go ?_;cases oi h;exact a.po [0]
     refine go ?_;refine bH h ?_ ?_ <;> intro _ h
     · refine gB h ?_ ?_ <;> intro _ h
       · refine go ?_;cases oi h;exact a.po [0]
       refine gB h ?_ ?_ <;> intro _ h
       · refine gb h fun cv a4 h=>?_;refine go ?_;refine LW.c0 (lY a4) a fun cc M=>?_;refine gB h ?_ ?_ <;> intro _ h
         · refine go ?_;cases oi h;exact M.po [0]
         refine gb h fun cw a5 h=>?_;refine go ?_;refine LW.c0 (jg a5) M fun ce aJ=>?_;refine go ?_;cases oi h;exact aJ.po [0]
       refine gb h fun cx a6 h=>?_;refine go ?_;refine LW.c0 (jg a6) a fun cf aK=>?_;refine go ?_;cases oi h;exact aK.po [0]
     refine go ?_;cases oi h;exact a.po [0]
   intro e cg d;have h:=ba;refine gc h ?_ ?_ <;> intro _ h
   · refine go ?_;cases h;exact fi d
   refine gs ?_;obtain ⟨bk,aQ,bb⟩:=ob h;refine CW.jn [1] [0] [(195,.bool bk)] d (h1:=?_) (h2:=?_)
   · have h:=aQ;refine gB h ?_ ?_ <;> intro _ h
     · refine gB h ?_ ?_ <;> intro _ h
       · refine go ?_;cases oi h;exact d.po [0]
       refine go ?_;refine bH h ?_ ?_ <;> intro _ h
       · refine go ?_;cases oi h;exact d.po [0]
       refine gB h ?_ ?_ <;> intro _ h
       · refine go ?_;cases oi h;exact d.po [0]
       refine go ?_;cases oi h;exact d.po [0]
     refine go ?_;refine bH h ?_ ?_ <;> intro _ h
     · refine go ?_;cases oi h;exact d.po [0]
     refine go ?_;cases oi h;exact d.po [0]
   intro e ci O;have h:=bb;refine gc h ?_ ?_ <;> intro _ h
   · refine go ?_;cases h;exact fi O
   refine go ?_;obtain ⟨ae,am,H⟩:=ob h;refine CW.mono (CW.lx [1] [0] [1] 2 (fun aD=>[(4,vI aD)]) (RT Tryz.prog Tryz.f100.results (fun u=>.bool u) w0 []) O am (hb:=?_)) ?_
   · intro aD e cj o m h;refine go ?_;refine CW.fl [1,4,200] fun e=>?_;refine gc h ?_ ?_ <;> intro _ h
     · refine gb h fun bQ ao h=>?_;obtain ⟨bs,bB,bl,rfl,A,bn,bq,rfl,ak⟩:=ac.idx ao;refine go ?_;refine LW.l (iF.iN w0 iY rfl (ak 0 _ rfl)) (m.same _ A.1 A.2) rfl ?_;have ⟨bR,ap,h⟩:=ob h;refine LW.c0 (jg ap) m fun bG R=>?_;refine gc h ?_ ?_ <;> intro _ h
       · refine go ?_;cases oi h;exact ⟨trivial,rfl,_,rfl,rx ⟨rfl,R.pk []⟩⟩
       refine go ?_;cases oi h;exact ⟨rfl,(R.po [0])⟩
     refine go ?_;cases oi h;exact ⟨trivial,rfl,(m.po [0])⟩
   intro x e bI hM;rcases ae with ae | bE
   · obtain ⟨rfl,hM⟩:=hM;obtain ⟨e,rfl,j⟩:=eo hM;have h:=H;refine gs ?_;obtain ⟨a7,ai,aE⟩:=ob h;refine CW.jn [1] [0] [(224,.bool a7)] j (h1:=?_) (h2:=?_)
     · have h:=ai;refine gB h ?_ ?_ <;> intro _ h
       · refine go ?_;cases oi h;exact j.po [0]
       refine gB h ?_ ?_ <;> intro _ h
       · refine go ?_;cases oi h;exact j.po [0]
       refine go ?_;cases oi h;exact j.po [0]
     intro e bJ U;have h:=aE;refine gc h ?_ ?_ <;> intro _ h
     · refine go ?_;cases h;exact fi U
     refine go ?_;obtain ⟨af,an,I⟩:=ob h;refine CW.mono (CW.lx [1] [0] [] 4 (fun ah=>[(5,vI ah)]) (RT Tryz.prog Tryz.f100.results (fun u=>.bool u) w0 []) U an (hb:=?_)) ?_
     · intro ah e bK o g h;refine go ?_;refine CW.fl [1,5,229] fun e=>?_;refine gc h ?_ ?_ <;> intro _ h
       · refine gs ?_;refine CW.block ?_;refine gs ?_;obtain ⟨a8,aj,aF⟩:=ob h;refine CW.jn [1,5] [0] [(258,.bool a8)] g (h1:=?_) (h2:=?_)
         · have h:=aj;refine gb h fun bS aq h=>?_;obtain ⟨bt,bC,bm,rfl,c,bp,br,rfl,i⟩:=ad.idx aq;refine go ?_;refine LW.l (iF.iN w0 iY rfl (i 0 _ rfl)) (g.same _ c.1 c.2) rfl ?_;refine gB h ?_ ?_ <;> intro _ h
           · refine go ?_;refine LW.l (iF.iN w0 iY rfl (i 0 _ rfl)) (g.same _ c.1 c.2) rfl ?_;have ⟨bT,ar,h⟩:=ob h;refine go ?_;refine LW.c0 (lY ar) g fun bL n=>?_;refine gB h ?_ ?_ <;> intro _ h
             · refine go ?_;cases oi h;exact n.po [0]
             refine go ?_;refine LW.l (iF.iN w0 iY rfl (i 1 _ rfl)) (n.same _ c.1 c.2) rfl ?_;have ⟨bU,au,h⟩:=ob h;refine go ?_;refine LW.c0 (jg au) n fun bM aL=>?_;refine go ?_;cases oi h;exact aL.po [0]
           refine go ?_;refine LW.l (iF.iN w0 iY rfl (i 1 _ rfl)) (g.same _ c.1 c.2) rfl ?_;have ⟨bV,av,h⟩:=ob h;refine go ?_;refine LW.c0 (jg av) g fun bN aM=>?_;refine go ?_;cases oi h;exact aM.po [0]
         intro e bO V;have h:=aF;refine gc h ?_ ?_ <;> intro _ h
         · refine go ?_;cases oi h;exact ⟨trivial,rfl,_,rfl,rx ⟨rfl,V.pk []⟩⟩
         refine go ?_;cases oi h;exact ⟨rfl,(V.po [0])⟩
       refine go ?_;cases oi h;exact ⟨trivial,rfl,⟨trivial,g.pk [0]⟩⟩
     intro x e bP hM;rcases af with af | bD
     · obtain ⟨rfl,hM⟩:=hM;obtain ⟨e,rfl,aN⟩:=eo hM;rw [show e=iQ e [] from rfl];have h:=I;refine go ?_;cases h;exact fi aN
     obtain ⟨rfl,u,rfl,hM⟩:=hM;cases I;exact And.intro trivial hM
   obtain ⟨rfl,u,rfl,hM⟩:=hM;cases H;exact And.intro trivial hM
 obtain ⟨rfl,u,rfl,hM⟩:=hM;cases aw;exact And.intro trivial hM
theorem yX {w0 N a r} (h:rQ N a=some r) :
    il Tryz.prog 81 #[.agg #[vI a.res,vI a.lq,vI a.mD,vI a.mz,vI a.kind,vI a.mS]] w0 (fun v w=>v=.bool r∧St w0 [] w []):=by
 unfold rQ at h;refine il.fn Tryz.func81 fun e=>?_;have m:=St.start w0;refine go ?_;refine LW.bo m fun K L c=>?_;refine gs ?_;obtain ⟨x,q,u⟩:=ob h;refine CW.jn [1] [0] [(24,.bool x)] c (h1:=?_) (h2:=?_)
 · have h:=q;refine gb h fun R s h=>?_;refine LW.c0 (nu s) c fun M d=>?_;refine gB h ?_ ?_ <;> intro _ h
   · refine go ?_;cases oi h;exact d.po [0]
   refine gb h fun U t h=>?_;refine go ?_;refine LW.c0 (jg t) d fun O f=>?_;refine gB h ?_ ?_ <;> intro _ h
   · refine go ?_;cases oi h;exact f.po [0]
   refine gb h fun G i h=>?_;refine go ?_;refine LW.c0 (nu i) f fun y g=>?_;refine gB h ?_ ?_ <;> intro _ h
   · refine go ?_;cases oi h;exact g.po [0]
   refine gb h fun H j h=>?_;refine go ?_;refine LW.c0 (jg j) g fun z n=>?_;refine go ?_;cases oi h;exact n.po [0]
 intro e A b;have h:=u;refine gc h ?_ ?_ <;> intro _ h
 · refine go ?_;cases h;exact fi b
 refine gc h ?_ ?_ <;> intro _ h
 · refine gb h fun I k h=>?_;refine LW.c0 (jg k) b fun B o=>?_;refine go ?_;cases h;exact fi o
 refine gc h ?_ ?_ <;> intro _ h
 · refine gb h fun J l h=>?_;refine LW.c0 (jg l) b fun C p=>?_;refine go ?_;cases h;exact fi p
 refine go ?_;cases h;exact fi b
theorem uR {w0 N d r} (h:mP N d=some r) :
    il Tryz.prog 48 #[vI d] w0 (fun v w=>v=vI r∧St w0 [] w []):=by
 unfold mP at h;refine il.fn Tryz.func48 fun e=>?_;have b:=St.start w0;refine gb h fun g c h=>?_;refine LW.c0 (lY c) b fun f a=>?_;refine gc h ?_ ?_ <;> intro _ h
 · refine go ?_;cases h;exact fi a
 refine go ?_;refine LW.u (iC.rem rfl rfl (by decide)) rfl ?_;refine go ?_;cases h;exact fi a
theorem yt {w0 N d r} (h:n9 N d=some r) :
    il Tryz.prog 251 #[vI d] w0 (fun v w=>v=vI r∧St w0 [] w []):=by
 unfold n9 at h;refine il.fn Tryz.func251 fun e=>?_;have b:=St.start w0;refine gb h fun g c h=>?_;refine LW.c0 (lY c) b fun f a=>?_;refine gc h ?_ ?_ <;> intro _ h
 · refine go ?_;cases h;exact fi a
 refine go ?_;refine LW.u (iC.quo rfl rfl (by decide)) rfl ?_;refine LW.u (iC.rem rfl rfl (by decide)) rfl ?_;refine go ?_;cases h;exact fi a
theorem zS {w0 N d r} (h:oH N d=some r) :
    il Tryz.prog 252 #[vI d] w0 (fun v w=>v=vI r∧St w0 [] w []):=by
 unfold oH at h;refine il.fn Tryz.func252 fun e=>?_;have b:=St.start w0;refine gb h fun g c h=>?_;refine LW.c0 (lY c) b fun f a=>?_;refine gc h ?_ ?_ <;> intro _ h
 · refine go ?_;cases h;exact fi a
 refine go ?_;refine LW.u (iC.quo rfl rfl (by decide)) rfl ?_;refine LW.u (iC.quo rfl rfl (by decide)) rfl ?_;refine go ?_;cases h;exact fi a
theorem sw {w0 N l m n r} (h:lZ N l m n=some r) :
    il Tryz.prog 182 #[vI l,vI m,vI n] w0 (fun v w=>v=vI r∧St w0 [] w []):=by
 unfold lZ at h;refine il.fn Tryz.func182 fun e=>?_;have a:=St.start w0;refine gs ?_;refine CW.region ?_;refine gs ?_;obtain ⟨o,g,h2⟩:=ob h;refine CW.jn [0,1,2] [] [(19,.bool o)] a (h1:=?_) (h2:=?_)
 · have h:=g;refine gb h fun u i h=>?_;refine LW.c0 (jg i) a fun s b=>?_;refine gB h ?_ ?_ <;> intro _ h
   · refine go ?_;cases oi h;exact b.po []
   refine gb h fun x j h=>?_;refine go ?_;refine LW.c0 (nq j) b fun t c=>?_;refine gB h ?_ ?_ <;> intro _ h
   · refine go ?_;cases oi h;exact c.po []
   refine gb h fun y k h=>?_;refine go ?_;refine LW.c0 (jg k) c fun p f=>?_;refine go ?_;cases oi h;exact f.po []
 intro e q d;have h:=h2;refine gc h ?_ ?_ <;> intro _ h
 · refine go ?_;cases h;exact fi d
 refine go ?_;cases h;exact fi d
theorem rj {w0 N A r} (h:mo N A=some r) {d z f} (B:z=A.length) (C:rb w0 d f A) :
    il Tryz.prog 220 #[vS d z f] w0 (fun v w=>∃ K V,v=vS K r.length V∧St w0 [] w [sl K V r]):=by
 subst B;unfold mo at h;refine il.fn Tryz.func220 fun e=>?_;have ai:=St.start w0;refine go ?_;refine LW.jL (α:=bh) (vs:=[]) (cs:=#[]) (l:=([]:List bh)) rfl (by kernel_rfl) rfl rfl rfl (fun w=>rfl) ai rfl ?_;intro au av aJ aj hf;refine go ?_;obtain ⟨aB,Y,ah⟩:=ob h;refine CW.ie Y 0 (fun t e wb=>∃ (b:Ad) (c:Nat),En e [(3,vS b t.1.length c),(7,vS d A.length f),(8,vI (A.length:Int)),(9,vI t.2)]∧St w0 [] wb [sl b c t.1]) ?_ ⟨au,av,aj.po [0]⟩ ?_
 · intro t e aK o hM h;obtain ⟨b,c,hE,x⟩:=hM;obtain ⟨e,rfl⟩:=hE.out;refine gc h ?_ ?_ <;> intro _ h
   · refine gb h fun ar aq h=>?_;obtain ⟨ax,aA,aw,rfl,y,ay,az,⟨H,O,I,R,J,U,rfl,Z,aa,ab⟩,X⟩:=C.idx aq;refine go ?_;refine LW.l (iF.jF w0 lI rfl rfl (fun j u hu=>X j u hu)) (x.same _ y.1 y.2) rfl ?_;refine LW.al x fun W aD ak=>?_;refine LW.st ak 0 fun aE s=>?_;refine gb h fun a ac h=>?_;refine LW.cl (wS ac rfl (s.rB Z) rfl (s.rB aa) rfl (s.rB ab)) ?_;rintro _ aF ⟨g,n,k,p,m,q,rfl,hs⟩;have am:=s.add hs;have an:=am.pk (M:=[sl g n a.ig,sl k p a.data,sl m q a.queue]++[bx W 44 (qO H O I R J U ar),sl b c t.1]) [0,1,2,3,4];have ⟨aI,ad,h⟩:=ob h;refine LW.kV (M:=[sl g n a.ig,sl k p a.data,sl m q a.queue]) (L:=[bx W 44 (qO H O I R J U ar),sl b c t.1]) (vs:=#[vI a.gen,vI a.kind,vI a.box,vI a.res,vI a.iL,vI a.cd,vI a.wait,vI a.iK,vI a.iM,.bool a.mark,vS g a.ig.length n,vS k a.data.length p,vS m a.queue.length q]) (i:=1) EM rfl (by kernel_rfl) rfl rfl ad an rfl (fun w G hG=>⟨g,n,k,p,m,q,rfl,hG⟩) rfl rfl ?_;intro aC ae af aG ao hf;refine go ?_;cases oi h;exact ⟨rfl,⟨ae,af,ao.po [1]⟩⟩
   refine go ?_;cases oi h;exact ⟨trivial,rfl,⟨b,c,x.po [0]⟩⟩
 rintro e aH ⟨b,c,hE,ap⟩;obtain ⟨e,rfl⟩:=hE.out;have h:=ah;refine go ?_;cases h;exact Ra ⟨b,c,rfl,ap.pk [0]⟩
theorem zi {w0 N a r} (h:rL N a=some r) :
    il Tryz.prog 149 #[.agg #[vI a.res,vI a.lq,vI a.mD,vI a.mz,vI a.kind,vI a.mS]] w0 (fun v w=>v=.bool r∧St w0 [] w []):=by
 unfold rL at h;refine il.fn Tryz.func149 fun e=>?_;have p:=St.start w0;refine go ?_;refine LW.bo p fun R U d=>?_;refine gs ?_;obtain ⟨z,t,y⟩:=ob h;refine CW.jn [1] [0] [(24,.bool z)] d (h1:=?_) (h2:=?_)
 · have h:=t;refine gb h fun X u h=>?_;refine LW.c0 (mK u) d fun V f=>?_;refine gB h ?_ ?_ <;> intro _ h
   · refine go ?_;cases oi h;exact f.po [0]
   refine gb h fun Y x h=>?_;refine go ?_;refine LW.c0 (mK x) f fun W g=>?_;refine gB h ?_ ?_ <;> intro _ h
   · refine go ?_;cases oi h;exact g.po [0]
   refine gb h fun J k h=>?_;refine go ?_;refine LW.c0 (uV k) g fun A i=>?_;refine gB h ?_ ?_ <;> intro _ h
   · refine go ?_;cases oi h;exact i.po [0]
   refine gb h fun K l h=>?_;refine go ?_;refine LW.c0 (jd l) i fun B q=>?_;refine go ?_;cases oi h;exact q.po [0]
 intro e C b;have h:=y;refine gc h ?_ ?_ <;> intro _ h
 · refine go ?_;cases h;exact fi b
 refine gB h ?_ ?_ <;> intro _ h
 · refine gb h fun L m h=>?_;refine go ?_;refine LW.c0 (jd m) b fun G c=>?_;refine gB h ?_ ?_ <;> intro _ h
   · refine go ?_;cases h;exact fi c
   refine gB h ?_ ?_ <;> intro _ h
   · refine gb h fun M n h=>?_;refine go ?_;refine LW.c0 (jd n) c fun H s=>?_;refine go ?_;cases h;exact fi s
   refine go ?_;cases h;exact fi c
 refine gB h ?_ ?_ <;> intro _ h
 · refine gb h fun O o h=>?_;refine go ?_;refine LW.c0 (jd o) b fun I j=>?_;refine go ?_;cases h;exact fi j
 refine go ?_;cases h;exact fi b
theorem lj {w0 N a r} (h:kp N a=some r) :
    il Tryz.prog 155 #[.agg #[vI a.cd,vI a.ij,vI a.iD]] w0 (fun v w=>v=.bool r∧St w0 [] w []):=by
 unfold kp at h;refine il.fn Tryz.func155 fun e=>?_;have d:=St.start w0;refine go ?_;refine LW.bo d fun m n f=>?_;refine gb h fun q i h=>?_;refine LW.c0 (rW i) f fun o b=>?_;refine gB h ?_ ?_ <;> intro _ h
 · refine gb h fun s j h=>?_;refine go ?_;refine LW.c0 (rW j) b fun p c=>?_;refine gB h ?_ ?_ <;> intro _ h
   · refine gb h fun t k h=>?_;refine go ?_;refine LW.c0 (rW k) c fun l g=>?_;refine go ?_;cases h;exact fi g
   refine go ?_;cases h;exact fi c
 refine go ?_;cases h;exact fi b
theorem ot {w0 N k p r} (h:lu N k p=some r) {a f b} (g:f=k.length) (i:rb w0 a b k) :
    il Tryz.prog 159 #[vS a f b,vI p] w0 (fun v w=>v=.bool r∧St w0 [] w []):=by
 subst g;unfold lu at h;refine il.fn Tryz.func159 fun e=>?_;have m:=St.start w0;refine gb h fun z n h=>?_;refine LW.c0 (mK n) m fun y c=>?_;refine gB h ?_ ?_ <;> intro _ h
 · refine gb h fun A o h=>?_;obtain ⟨u,x,q,rfl,d,s,t,rfl,j⟩:=i.idx o;refine go ?_;refine LW.l (iF.iN w0 pd rfl (j 0 _ rfl)) (c.same _ d.1 d.2) rfl ?_;refine go ?_;cases h;exact fi c
 refine go ?_;cases h;exact fi c
theorem BU {w0 N a r} (h:qt N a=some r) {g q m} (J:q=a.ig.length) (M:rb w0 g m a.ig) {i s n} (K:s=a.data.length) (O:rb w0 i n a.data) {k t p} (L:t=a.queue.length) (R:rb w0 k p a.queue) :
    il Tryz.prog 307 #[.agg #[vI a.gen,vI a.kind,vI a.box,vI a.res,vI a.iL,vI a.cd,vI a.wait,vI a.iK,vI a.iM,.bool a.mark,vS g q m,vS i s n,vS k t p]] w0 (fun v w=>v=.bool r∧St w0 [] w []):=by
 subst J K L;unfold qt at h;refine il.fn Tryz.func307 fun e=>?_;have aE:=St.start w0;refine go ?_;refine LW.bo aE fun bu bv aF=>?_;refine go ?_;obtain ⟨Z,ap,U⟩:=ob h;refine CW.mono (CW.lx [1,12,13] [0] [1] 0 (fun aM=>[(14,vI aM)]) (RT Tryz.prog Tryz.f307.results (fun u=>.bool u) w0 []) aF ap (hb:=?_)) ?_
 · intro aM e bw o A h;refine gc h ?_ ?_ <;> intro _ h
   · refine gb h fun bz aI h=>?_;obtain ⟨bt,aZ,aN,rfl,G,aX,aY,rfl,am⟩:=M.idx aI;refine go ?_;refine LW.l (iF.iN w0 iY rfl (am 0 _ rfl)) (A.same _ G.1 G.2) rfl ?_;refine gb h fun bl au h=>?_;refine LW.c0 (jd au) A fun a5 X=>?_;refine go ?_;refine CW.fl [1,12,13,14,20] fun e=>?_;refine gc h ?_ ?_ <;> intro _ h
     · refine go ?_;cases oi h;exact ⟨trivial,rfl,_,rfl,rx ⟨rfl,X.pk []⟩⟩
     refine go ?_;cases oi h;exact ⟨rfl,(X.po [0])⟩
   refine go ?_;cases oi h;exact ⟨trivial,rfl,(A.po [0])⟩
 intro x e a6 hM;rcases Z with Z | a4
 · obtain ⟨rfl,hM⟩:=hM;obtain ⟨e,rfl,aG⟩:=eo hM;have h:=U;refine go ?_;obtain ⟨aa,aq,V⟩:=ob h;refine CW.mono (CW.lx [1,23,24] [0] [1] 2 (fun ac=>[(25,vI ac)]) (RT Tryz.prog Tryz.f307.results (fun u=>.bool u) w0 []) aG aq (hb:=?_)) ?_
   · intro ac e a7 o B h;refine gc h ?_ ?_ <;> intro _ h
     · refine gb h fun bm av h=>?_;obtain ⟨aU,a0,aO,rfl,H,aQ,aS,rfl,an⟩:=O.idx av;refine go ?_;refine LW.l (iF.iN w0 iY rfl (an 0 _ rfl)) (B.same _ H.1 H.2) rfl ?_;refine gb h fun bn aw h=>?_;refine LW.c0 (jd aw) B fun a8 Y=>?_;refine go ?_;refine CW.fl [1,23,24,25,31] fun e=>?_;refine gc h ?_ ?_ <;> intro _ h
       · refine go ?_;cases oi h;exact ⟨trivial,rfl,_,rfl,rx ⟨rfl,Y.pk []⟩⟩
       refine go ?_;cases oi h;exact ⟨rfl,(Y.po [0])⟩
     refine go ?_;cases oi h;exact ⟨trivial,rfl,(B.po [0])⟩
   intro x e a9 hM;rcases aa with aa | a3
   · obtain ⟨rfl,hM⟩:=hM;obtain ⟨e,rfl,aH⟩:=eo hM;have h:=V;refine go ?_;obtain ⟨ab,ar,W⟩:=ob h;refine CW.mono (CW.lx [1,34,35] [0] [1] 4 (fun ad=>[(36,vI ad)]) (RT Tryz.prog Tryz.f307.results (fun u=>.bool u) w0 []) aH ar (hb:=?_)) ?_
     · intro ad e ba o C h;refine go ?_;refine CW.fl [1,34,35,36,37] fun e=>?_;refine gc h ?_ ?_ <;> intro _ h
       · refine gb h fun bp ax h=>?_;obtain ⟨aV,a1,aP,rfl,I,aR,aT,rfl,ao⟩:=R.idx ax;refine go ?_;refine LW.l (iF.jF w0 uj rfl rfl (fun j u hu=>ao j u hu)) (C.same _ I.1 I.2) rfl ?_;refine LW.al C fun aW bb ae=>?_;refine LW.st ae 0 fun bc b=>?_;refine gs ?_;obtain ⟨aJ,ai,aB⟩:=ob h;refine CW.jn [1,34,35,36] [1] [(54,.bool aJ)] b (h1:=?_) (h2:=?_)
         · have h:=ai;refine gB h ?_ ?_ <;> intro _ h
           · refine gb h fun bq ay h=>?_;refine go ?_;refine LW.c0 (m3 ay) b fun bd y=>?_;refine gB h ?_ ?_ <;> intro _ h
             · refine go ?_;cases oi h;exact y.po [1]
             refine gb h fun br az h=>?_;refine go ?_;refine LW.c0 (jd az) y fun be af=>?_;refine go ?_;cases oi h;exact af.po [1]
           refine gb h fun bs aA h=>?_;refine go ?_;refine LW.c0 (jd aA) b fun bf ah=>?_;refine go ?_;cases oi h;exact ah.po [1]
         intro e bg z;have h:=aB;refine gc h ?_ ?_ <;> intro _ h
         · refine go ?_;cases oi h;exact ⟨trivial,rfl,_,rfl,rx ⟨rfl,z.pk []⟩⟩
         refine go ?_;cases oi h;exact ⟨rfl,(z.po [0])⟩
       refine go ?_;cases oi h;exact ⟨trivial,rfl,(C.po [0])⟩
     intro x e bi hM;rcases ab with ab | a2
     · obtain ⟨rfl,hM⟩:=hM;obtain ⟨e,rfl,c⟩:=eo hM;have h:=W;refine gs ?_;refine CW.region ?_;refine gs ?_;refine CW.region ?_;refine gs ?_;obtain ⟨aK,aj,aC⟩:=ob h;refine CW.jn [1,10] [0] [(9,vI aK)] c (h1:=?_) (h2:=?_)
       · have h:=aj;refine CW.fl [1,9,10,58] fun e=>?_;refine gc h ?_ ?_ <;> intro _ h
         · refine go ?_;cases oi h;exact c.po [0]
         refine go ?_;cases oi h;exact c.po [0]
       intro e bj d;have h:=aC;refine gs ?_;refine CW.region ?_;refine gs ?_;obtain ⟨aL,ak,aD⟩:=ob h;refine CW.jn [1,9] [0] [(10,vI aL)] d (h1:=?_) (h2:=?_)
       · have h:=ak;refine CW.fl [1,9,10,63] fun e=>?_;refine gc h ?_ ?_ <;> intro _ h
         · refine go ?_;cases oi h;exact d.po [0]
         refine go ?_;cases oi h;exact d.po [0]
       intro e bk f;have h:=aD;refine go ?_;refine bH h ?_ ?_ <;> intro _ h
       · refine gB h ?_ ?_ <;> intro _ h
         · refine go ?_;cases h;exact fi f
         refine go ?_;cases h;exact fi f
       refine go ?_;cases h;exact fi f
     obtain ⟨rfl,u,rfl,hM⟩:=hM;cases W;exact And.intro trivial hM
   obtain ⟨rfl,u,rfl,hM⟩:=hM;cases V;exact And.intro trivial hM
 obtain ⟨rfl,u,rfl,hM⟩:=hM;cases U;exact And.intro trivial hM
end Go.Kx
