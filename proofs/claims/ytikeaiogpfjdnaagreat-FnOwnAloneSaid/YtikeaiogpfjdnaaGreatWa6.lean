/- Each call returns what the plain function says. Printed by drive.py. -/
import Derived.Test.YtikeaiogpfjdnaaGreatFa
import Derived.Test.YtikeaiogpfjdnaaGreatPu
import Derived.Test.YtikeaiogpfjdnaaGreatWa4
import Derived.Test.YtikeaiogpfjdnaaGreatWa5
namespace Go.Kx
open Go Go.RowKit Go.Proofs
set_option maxRecDepth 10000
set_option maxHeartbeats 8000000
set_option linter.unusedVariables false
set_option linter.unusedSimpArgs false
theorem BQ {w0 N n ab r} (h:o9 N n ab=some r) {d x f} (y:x=n.length) (g:rb w0 d f n) :
    il Tryz.prog 167 #[vS d x f,vI ab] w0 (fun v w=>∃ z A,v=vS z r.length A∧St w0 [] w [sl z A r]):=by
 subst y;unfold o9 at h;refine il.fn Tryz.func167 fun e=>?_;have ai:=St.start w0;refine go ?_;refine LW.jL (α:=Int) (vs:=[]) (cs:=#[]) (l:=([]:List Int)) rfl (by kernel_rfl) rfl rfl rfl (fun w=>rfl) ai rfl ?_;intro ar au bq aj hf;refine go ?_;obtain ⟨bc,V,ah⟩:=ob h;refine CW.ie V 0 (fun m e wb=>∃ (a:Ad) (b:Nat),En e [(0,vS d n.length f),(1,vI ab),(5,vS a m.1.length b),(10,vS d n.length f),(11,vI (n.length:Int)),(12,vI m.2)]∧St w0 [] wb [sl a b m.1]) ?_ ⟨ar,au,aj.po [0]⟩ ?_
 · intro m e br o hM h;obtain ⟨a,b,hE,p⟩:=hM;obtain ⟨e,rfl⟩:=hE.out;refine gc h ?_ ?_ <;> intro _ h
   · refine gb h fun bs ao h=>?_;obtain ⟨aT,a9,av,rfl,q,a7,a8,⟨aK,aW,aL,aX,aM,aY,rfl,aC,aD,aE⟩,O⟩:=g.idx ao;refine go ?_;refine LW.l (iF.jF w0 lI rfl rfl (fun j u hu=>O j u hu)) (p.same _ q.1 q.2) rfl ?_;refine LW.al p fun a6 be ak=>?_;refine go ?_;refine LW.st ak 0 fun bf c=>?_;refine gs ?_;obtain ⟨ap,J,ae⟩:=ob h;refine CW.jn [0,1,5,6,10,11,12] [1] [(8,.bool ap)] c (h1:=?_) (h2:=?_)
     · have h:=J;refine gB h ?_ ?_ <;> intro _ h
       · refine gB h ?_ ?_ <;> intro _ h
         · refine go ?_;refine bH h ?_ ?_ <;> intro _ h
           · refine gb h fun bm X h=>?_;obtain ⟨aU,ba,aw,hae,s,ay,aA,H,R⟩:=g.idx X;cases hae;obtain ⟨aN,aZ,aO,a0,aP,a2,rfl,aF,aG,aH⟩:=H;refine go ?_;refine LW.l (iF.iN w0 iY rfl (R 1 _ rfl)) (c.same _ s.1 s.2) rfl ?_;refine go ?_;cases oi h;exact c.po [1]
           refine go ?_;cases oi h;exact c.po [1]
         refine go ?_;cases oi h;exact c.po [1]
       refine go ?_;cases oi h;exact c.po [1]
     intro e bg k;have h:=ae;refine gs ?_;obtain ⟨aq,K,af⟩:=ob h;refine CW.jn [0,1,5,6,10,11,12] [0] [(47,.bool aq)] k (h1:=?_) (h2:=?_)
     · have h:=K;refine gB h ?_ ?_ <;> intro _ h
       · refine go ?_;cases oi h;exact k.po [0]
       refine gb h fun bn Y h=>?_;obtain ⟨aV,bb,ax,hae,t,az,aB,I,U⟩:=g.idx Y;cases hae;obtain ⟨aQ,a3,aR,a4,aS,a5,rfl,W,aI,aJ⟩:=I;refine go ?_;refine LW.l (iF.iN w0 nD rfl (U 10 _ rfl)) (k.same _ t.1 t.2) rfl ?_;refine gb h fun bo Z h=>?_;refine go ?_;refine LW.c0 (mZ Z rfl (k.rB W)) k fun bi am=>?_;refine go ?_;cases oi h;exact am.po [0]
     intro e bj B;have h:=af;refine go ?_;refine CW.fl [0,1,5,6,10,11,12,47] fun e=>?_;refine gc h ?_ ?_ <;> intro _ h
     · refine gb h fun bp aa h=>?_;refine LW.kV (M:=[]) (L:=[sl a b m.1]) (vs:=#[vI m.2]) (i:=0) lL rfl (by kernel_rfl) rfl rfl aa B rfl (fun w G hG=>by cases (show G=[] from hG);exact ⟨rfl,rfl⟩) rfl rfl ?_;intro bd ac ad bk an hf;refine go ?_;cases oi h;exact ⟨rfl,⟨ac,ad,an.po [0]⟩⟩
     refine go ?_;cases oi h;exact ⟨rfl,⟨a,b,B.po [0]⟩⟩
   refine go ?_;cases oi h;exact ⟨trivial,rfl,⟨a,b,p.po [0]⟩⟩
 rintro e bl ⟨a,b,hE,C⟩;obtain ⟨e,rfl⟩:=hE.out;have h:=ah;refine go ?_;cases h;exact Ra ⟨a,b,rfl,C.pk [0]⟩
theorem wV {w0 N a r} (h:oT N a=some r) {y V H} (ab:V=a.label.levels.length) (ai:rb w0 y H a.label.levels) {z W I} (ac:W=a.own.length) (aj:rb w0 z I a.own) {A X J} (ad:X=a.tree.length) (ak:rb w0 A J a.tree) {B Y K} (ae:Y=a.heap.ag.length) (am:rb w0 B K a.heap.ag) {C Z L} (af:Z=a.heap.gc.ia.length) (an:rb w0 C L a.heap.gc.ia) {G aa M} (ah:aa=a.ic.length) (ao:rb w0 G M a.ic) :
    il Tryz.prog 90 #[.agg #[vS y V H,vS z W I,vS A X J,vS B Y K,vI a.heap.gc.phase,vI a.heap.gc.pos,vI a.heap.gc.round,vS C Z L,vS G aa M,vI a.next,vI a.want,vI a.dW.cd,vI a.dW.ij,vI a.dW.iD,vI a.iz,vI a.lost]] w0 (fun v w=>∃ d o, ∃ f p, ∃ g q, ∃ j s, ∃ k t, ∃ n x,v=.agg #[vS d r.label.levels.length o,vS f r.own.length p,vS g r.tree.length q,vS j r.heap.ag.length s,vI r.heap.gc.phase,vI r.heap.gc.pos,vI r.heap.gc.round,vS k r.heap.gc.ia.length t,vS n r.ic.length x,vI r.next,vI r.want,vI r.dW.cd,vI r.dW.ij,vI r.dW.iD,vI r.iz,vI r.lost]∧St w0 [] w [sl d o r.label.levels,sl f p r.own,sl g q r.tree,sl j s r.heap.ag,sl k t r.heap.gc.ia,sl n x r.ic]):=by
 subst ab ac ad ae af ah;unfold oT at h;refine il.fn Tryz.func90 fun e=>?_;have aO:=St.start w0;refine go ?_;refine LW.bo aO fun bm bp aP=>?_;refine LW.al aP fun bn bq aQ=>?_;refine go ?_;refine LW.jL (α:=Int) (vs:=[]) (cs:=#[]) (l:=([]:List Int)) rfl (by kernel_rfl) rfl rfl rfl (fun w=>rfl) aQ rfl ?_;intro bk bl br ap hf;refine gb h fun aV aU h=>?_;refine LW.j9 (l:=([]:List Int)) (m:=a.label.levels) lL rfl rfl (ap.rB ai) aU ap (i:=0) rfl rfl ?_;intro au O a0 aR hf;refine LW.u (iC.build (vs:=[(0,vS au aV.length O)]) (cs:=#[vS au aV.length O]) rfl (by kernel_rfl)) rfl ?_;refine go ?_;refine LW.st aR 2 fun a1 aS=>?_;refine go ?_;refine LW.jL (α:=Int) (vs:=[]) (cs:=#[]) (l:=([]:List Int)) rfl (by kernel_rfl) rfl rfl rfl (fun w=>rfl) aS rfl ?_;intro aW aY a2 aq hf;refine gb h fun bf aA h=>?_;refine LW.j9 (l:=([]:List Int)) (m:=a.own) lL rfl rfl (aq.rB aj) aA aq (i:=0) rfl rfl ?_;intro aE aJ a3 aT hf;refine go ?_;refine LW.st aT 3 fun a4 ar=>?_;refine gb h fun bg aB h=>?_;refine LW.cl (nm aB rfl (ar.rB ak)) ?_;rintro _ a6 ⟨aF,aK,rfl,hs⟩;have av:=ar.add hs;refine go ?_;refine LW.st av 4 fun a7 c=>?_;refine gb h fun bi aC h=>?_;refine LW.cl (sQ aC rfl (c.rB am) rfl (c.rB an)) ?_;rintro _ a8 ⟨aG,aL,aH,aM,rfl,hs⟩;have aw:=c.add hs;refine go ?_;refine LW.st aw 6 fun ba ax=>?_;refine go ?_;refine LW.jL (α:=jy) (vs:=[]) (cs:=#[]) (l:=([]:List jy)) rfl (by kernel_rfl) rfl rfl rfl (fun w=>rfl) ax rfl ?_;intro aX aZ bb R hf;refine gb h fun bj aD h=>?_;refine LW.j9 (l:=([]:List jy)) (m:=a.ic) vi rfl rfl (R.rB ao) aD R (i:=0) rfl rfl ?_;intro aI aN bc ay hf;refine go ?_;refine LW.st ay 7 fun bd az=>?_;refine go ?_;refine LW.st az 6 fun be U=>?_;refine go ?_;cases h;exact And.intro trivial ⟨_,jB.one (ib.b U 6 rfl jm rfl rfl),au,O,aE,aJ,aF,aK,aG,aL,aH,aM,aI,aN,rfl,U.pk [5,4,3,1,2,0]⟩
theorem u7 {w0 N aG r} (h:om N aG=some r) {z M A} (W:M=aG.length) (a:rb w0 z A aG) :
    il Tryz.prog 77 #[vS z M A] w0 (fun v w=>v=.bool r∧St w0 [] w []):=by
 subst W;unfold om at h;refine il.fn Tryz.func77 fun e=>?_;have i:=St.start w0;refine gs ?_;refine CW.region ?_;refine gs ?_;obtain ⟨bd,aO,h2⟩:=ob h;refine CW.jn [0] [] [(23,.bool bd)] i (h1:=?_) (h2:=?_)
 · have h:=aO;refine gB h ?_ ?_ <;> intro _ h
   · refine go ?_;cases oi h;exact i.po []
   refine gb h fun b1 aP h=>?_;obtain ⟨bZ,b0,bv,rfl,p,bw,bz,rfl,L⟩:=a.idx aP;refine go ?_;refine LW.l (iF.iN w0 pd rfl (L 0 _ rfl)) (i.same _ p.1 p.2) rfl ?_;refine gB h ?_ ?_ <;> intro _ h
   · refine go ?_;cases oi h;exact i.po []
   refine go ?_;refine LW.l (iF.iN w0 iY rfl (L 1 _ rfl)) (i.same _ p.1 p.2) rfl ?_;refine go ?_;cases oi h;exact i.po []
 intro e bG ac;have h:=h2;refine gc h ?_ ?_ <;> intro _ h
 · refine go ?_;cases h;exact fi ac
 refine go ?_;obtain ⟨ae,av,ab⟩:=ob h;refine CW.mono (CW.lx [0] [] [0] 0 (fun af=>[(3,vI af)]) (RT Tryz.prog Tryz.f77.results (fun u=>.bool u) w0 []) ac av (hb:=?_)) ?_
 · intro af e bI o d h;refine gc h ?_ ?_ <;> intro _ h
   · refine gs ?_;refine CW.block ?_;refine gs ?_;obtain ⟨aQ,an,aH⟩:=ob h;refine CW.jn [0,3] [] [(52,.bool aQ)] d (h1:=?_) (h2:=?_)
     · have h:=an;refine gb h fun aT ax h=>?_;obtain ⟨bq,bA,aY,rfl,b,a3,a8,rfl,q⟩:=a.idx ax;refine go ?_;refine LW.l (iF.iN w0 pd rfl (q 0 _ rfl)) (d.same _ b.1 b.2) rfl ?_;refine gB h ?_ ?_ <;> intro _ h
       · refine go ?_;refine LW.l (iF.jF w0 xp rfl rfl (fun j u hu=>q j u hu)) (d.same _ b.1 b.2) rfl ?_;refine go ?_;refine LW.u (iC.build (vs:=[]) (cs:=#[.bool false,vI 0,vI 0,vI 0,vI 0]) rfl (by kernel_rfl)) rfl ?_;refine go ?_;refine LW.u (iC.A2 EC rfl rfl (fun w=>Ew aT (iy.mk false 0 (iB.mk 0 0 0)) w)) rfl ?_;refine gB h ?_ ?_ <;> intro _ h
         · refine go ?_;cases oi h;exact d.po []
         refine go ?_;refine LW.l (iF.jF w0 km rfl rfl (fun j u hu=>lW (m:=3) q 2 hu)) (d.same _ b.1 b.2) rfl ?_;have ⟨bS,ay,h⟩:=ob h;refine go ?_;refine LW.c0 (ma ay) d fun bJ aL=>?_;refine go ?_;cases oi h;exact aL.po []
       refine go ?_;refine LW.l (iF.jF w0 km rfl rfl (fun j u hu=>lW (m:=3) q 2 hu)) (d.same _ b.1 b.2) rfl ?_;have ⟨bT,az,h⟩:=ob h;refine go ?_;refine LW.c0 (ma az) d fun bK aM=>?_;refine go ?_;cases oi h;exact aM.po []
     intro e bL g;have h:=aH;refine gc h ?_ ?_ <;> intro _ h
     · refine go ?_;cases oi h;exact ⟨trivial,rfl,_,rfl,rx ⟨rfl,g.pk []⟩⟩
     refine gs ?_;obtain ⟨aR,ao,aI⟩:=ob h;refine CW.jn [0,3] [] [(91,.bool aR)] g (h1:=?_) (h2:=?_)
     · have h:=ao;refine gB h ?_ ?_ <;> intro _ h
       · refine gb h fun bU aA h=>?_;obtain ⟨br,bB,aZ,rfl,c,a4,a9,rfl,s⟩:=a.idx aA;refine go ?_;refine LW.l (iF.iN w0 pd rfl (s 0 _ rfl)) (g.same _ c.1 c.2) rfl ?_;refine gB h ?_ ?_ <;> intro _ h
         · refine go ?_;refine LW.l (iF.iN w0 iY rfl (s 1 _ rfl)) (g.same _ c.1 c.2) rfl ?_;have ⟨bV,aB,h⟩:=ob h;refine go ?_;refine LW.c0 (nu aB) g fun bM k=>?_;refine go ?_;refine bH h ?_ ?_ <;> intro _ h
           · refine go ?_;cases oi h;exact k.po []
           refine go ?_;refine LW.l (iF.iN w0 iY rfl (s 1 _ rfl)) (k.same _ c.1 c.2) rfl ?_;refine gB h ?_ ?_ <;> intro _ h
           · refine go ?_;cases oi h;exact k.po []
           refine go ?_;refine LW.l (iF.iN w0 iY rfl (s 1 _ rfl)) (k.same _ c.1 c.2) rfl ?_;have ⟨bW,aC,h⟩:=ob h;obtain ⟨bs,bC,a0,hae,I,a5,ba,am,aq⟩:=a.idx aC;cases hae;obtain rfl:=am;refine go ?_;refine LW.l (iF.iN w0 pd rfl (aq 0 _ rfl)) (k.same _ I.1 I.2) rfl ?_;refine go ?_;cases oi h;exact k.po []
         refine go ?_;cases oi h;exact g.po []
       refine go ?_;cases oi h;exact g.po []
     intro e bN ad;have h:=aI;refine gc h ?_ ?_ <;> intro _ h
     · refine go ?_;cases oi h;exact ⟨trivial,rfl,_,rfl,rx ⟨rfl,ad.pk []⟩⟩
     refine go ?_;cases oi h;exact ⟨rfl,(ad.po [])⟩
   refine go ?_;cases oi h;exact ⟨trivial,rfl,(d.po [])⟩
 intro x e bO hM;rcases ae with ae | bg
 · obtain ⟨rfl,hM⟩:=hM;obtain ⟨e,rfl,aN⟩:=eo hM;have h:=ab;refine go ?_;obtain ⟨O,X,B⟩:=ob h;refine CW.mono (CW.lx [0] [] [0] 2 (fun ah=>[(4,vI ah)]) (RT Tryz.prog Tryz.f77.results (fun u=>.bool u) w0 []) aN X (hb:=?_)) ?_
   · intro ah e bP o C h;refine gc h ?_ ?_ <;> intro _ h
     · refine go ?_;obtain ⟨bF,aw,aK⟩:=ob h;refine CW.mono (CW.lb [0,4] [] [0,4,5] 4 (fun R=>[(5,vI R.1),(6,vI R.2)]) C aw (hb:=?_)) ?_
       · intro R e bQ o f h;refine gs ?_;obtain ⟨aS,ap,aJ⟩:=ob h;refine CW.jn [0,4,5,6] [] [(111,.bool aS)] f (h1:=?_) (h2:=?_)
         · have h:=ap;refine gB h ?_ ?_ <;> intro _ h
           · refine gb h fun bX aD h=>?_;obtain ⟨bt,bD,a1,rfl,J,a6,bb,rfl,ar⟩:=a.idx aD;refine go ?_;refine LW.l (iF.iN w0 pd rfl (ar 0 _ rfl)) (f.same _ J.1 J.2) rfl ?_;refine gB h ?_ ?_ <;> intro _ h
             · refine go ?_;cases oi h;exact f.po []
             refine go ?_;cases oi h;exact f.po []
           refine go ?_;cases oi h;exact f.po []
         intro e bR t;have h:=aJ;refine gc h ?_ ?_ <;> intro _ h
         · refine gb h fun bY aE h=>?_;obtain ⟨bu,bE,a2,rfl,K,a7,bc,rfl,au⟩:=a.idx aE;refine go ?_;refine LW.l (iF.iN w0 iY rfl (au 1 _ rfl)) (t.same _ K.1 K.2) rfl ?_;refine go ?_;cases oi h;exact ⟨rfl,(t.po [])⟩
         refine go ?_;cases oi h;exact ⟨trivial,rfl,(t.po [])⟩
       intro x e bi hM;obtain ⟨rfl,hM⟩:=hM;obtain ⟨e,rfl,n⟩:=eo hM;have h:=aK;refine gs ?_;obtain ⟨aF,U,ai⟩:=ob h;refine CW.jn [0,4] [] [(127,.bool aF)] n (h1:=?_) (h2:=?_)
       · have h:=U;refine gb h fun bn Y h=>?_;obtain ⟨aX,be,aU,rfl,y,aV,aW,rfl,V⟩:=a.idx Y;refine go ?_;refine LW.l (iF.iN w0 pd rfl (V 0 _ rfl)) (n.same _ y.1 y.2) rfl ?_;refine gB h ?_ ?_ <;> intro _ h
         · refine go ?_;cases oi h;exact n.po []
         refine go ?_;cases oi h;exact n.po []
       intro e bj G;have h:=ai;refine gc h ?_ ?_ <;> intro _ h
       · refine go ?_;cases oi h;exact ⟨trivial,rfl,_,rfl,rx ⟨rfl,G.pk []⟩⟩
       refine go ?_;cases oi h;exact ⟨rfl,(G.po [])⟩
     refine go ?_;cases oi h;exact ⟨trivial,rfl,(C.po [])⟩
   intro x e bk hM;rcases O with O | bf
   · obtain ⟨rfl,hM⟩:=hM;obtain ⟨e,rfl,H⟩:=eo hM;have h:=B;refine gb h fun bo Z h=>?_;refine LW.c0 (vP Z rfl (H.rB a)) H fun bl aj=>?_;have ⟨bp,aa,h⟩:=ob h;refine LW.c0 (ma aa) aj fun bm ak=>?_;refine go ?_;cases h;exact fi ak
   obtain ⟨rfl,u,rfl,hM⟩:=hM;cases B;exact And.intro trivial hM
 obtain ⟨rfl,u,rfl,hM⟩:=hM;cases ab;exact And.intro trivial hM
theorem nF {w0 N aq r} (h:kT N aq=some r) {s C t} (M:C=aq.length) (c:rb w0 s t aq) :
    il Tryz.prog 98 #[vS s C t] w0 (fun v w=>v=.bool r∧St w0 [] w []):=by
 subst M;unfold kT at h;refine il.fn Tryz.func98 fun e=>?_;have f:=St.start w0;refine gs ?_;refine CW.region ?_;refine gs ?_;obtain ⟨a6,aw,h2⟩:=ob h;refine CW.jn [0] [] [(29,.bool a6)] f (h1:=?_) (h2:=?_)
 · have h:=aw;refine gB h ?_ ?_ <;> intro _ h
   · refine go ?_;cases oi h;exact f.po []
   refine gb h fun b3 ax h=>?_;obtain ⟨b1,b2,bL,rfl,d,bM,bN,⟨bf,bw,bg,bz,bi,bA,rfl,aY,aZ,a0⟩,n⟩:=c.idx ax;refine go ?_;refine LW.l (iF.iN w0 iY rfl (n 1 _ rfl)) (f.same _ d.1 d.2) rfl ?_;refine gB h ?_ ?_ <;> intro _ h
   · refine go ?_;cases oi h;exact f.po []
   refine go ?_;refine LW.l (iF.iN w0 iY rfl (n 2 _ rfl)) (f.same _ d.1 d.2) rfl ?_;refine gB h ?_ ?_ <;> intro _ h
   · refine go ?_;cases oi h;exact f.po []
   refine go ?_;refine LW.l (iF.iN w0 iY rfl (n 4 _ rfl)) (f.same _ d.1 d.2) rfl ?_;refine go ?_;cases oi h;exact f.po []
 intro e bR V;have h:=h2;refine gc h ?_ ?_ <;> intro _ h
 · refine go ?_;cases h;exact fi V
 refine go ?_;obtain ⟨H,R,z⟩:=ob h;refine CW.mono (CW.lx [0] [] [] 0 (fun Y=>[(3,vI Y)]) (RT Tryz.prog Tryz.f98.results (fun u=>.bool u) w0 []) V R (hb:=?_)) ?_
 · intro Y e bS o i h;refine gc h ?_ ?_ <;> intro _ h
   · refine gs ?_;refine CW.block ?_;refine gs ?_;obtain ⟨ay,ac,ar⟩:=ob h;refine CW.jn [0,3] [] [(73,.bool ay)] i (h1:=?_) (h2:=?_)
     · have h:=ac;refine gb h fun bW aj h=>?_;obtain ⟨bs,bO,aN,rfl,a,aQ,aU,⟨bj,bB,bk,bC,bl,bD,rfl,ae,af,ah⟩,m⟩:=c.idx aj;refine go ?_;refine LW.l (iF.jF w0 lI rfl rfl (fun j u hu=>m j u hu)) (i.same _ a.1 a.2) rfl ?_;have ⟨bX,ak,h⟩:=ob h;refine LW.c0 (DE ak rfl (i.rB ae) rfl (i.rB af) rfl (i.rB ah)) i fun bT b=>?_;refine gB h ?_ ?_ <;> intro _ h
       · refine go ?_;cases oi h;exact b.po []
       refine go ?_;refine LW.l (iF.iN w0 iY rfl (m 1 _ rfl)) (b.same _ a.1 a.2) rfl ?_;refine gB h ?_ ?_ <;> intro _ h
       · refine go ?_;refine bH h ?_ ?_ <;> intro _ h
         · refine go ?_;refine LW.l (iF.iN w0 iY rfl (m 2 _ rfl)) (b.same _ a.1 a.2) rfl ?_;refine gB h ?_ ?_ <;> intro _ h
           · refine go ?_;refine LW.l (iF.iN w0 iY rfl (m 2 _ rfl)) (b.same _ a.1 a.2) rfl ?_;have ⟨bY,am,h⟩:=ob h;obtain ⟨bt,bP,aO,hae,A,aR,aV,ab,ad⟩:=c.idx am;cases hae;obtain ⟨bm,bE,bn,bF,bo,bG,rfl,a1,a2,a3⟩:=ab;refine go ?_;refine LW.l (iF.iN w0 iY rfl (ad 1 _ rfl)) (b.same _ A.1 A.2) rfl ?_;refine go ?_;cases oi h;exact b.po []
           refine go ?_;cases oi h;exact b.po []
         refine go ?_;cases oi h;exact b.po []
       refine go ?_;cases oi h;exact b.po []
     intro e bU W;have h:=ar;refine gc h ?_ ?_ <;> intro _ h
     · refine go ?_;cases oi h;exact ⟨trivial,rfl,_,rfl,rx ⟨rfl,W.pk []⟩⟩
     refine go ?_;obtain ⟨G,O,y⟩:=ob h;refine CW.mono (CW.lx [0,3] [] [0,3] 2 (fun Z=>[(4,vI Z)]) (RT Tryz.prog Tryz.f98.results (fun u=>.bool u) w0 []) W O (hb:=?_)) ?_
     · intro Z e bV o g h;refine gb h fun bZ an h=>?_;obtain ⟨bu,bQ,aP,rfl,k,aS,aW,⟨bp,bI,bq,bJ,br,bK,rfl,ai,a4,a5⟩,B⟩:=c.idx an;refine go ?_;refine LW.l (iF.iN w0 nD rfl (B 10 _ rfl)) (g.same _ k.1 k.2) rfl ?_;refine go ?_;refine CW.fl [0,3,4,81] fun e=>?_;refine gc h ?_ ?_ <;> intro _ h
       · refine go ?_;refine LW.l (iF.iN w0 nD rfl (B 10 _ rfl)) (g.same _ k.1 k.2) rfl ?_;refine gb h fun b0 ao h=>?_;obtain ⟨bv,a7,az,rfl,p,aT,aX,rfl,K⟩:=ai.idx ao;refine go ?_;refine LW.l (iF.iN w0 iY rfl (K 0 _ rfl)) (g.same _ p.1 p.2) rfl ?_;refine gs ?_;obtain ⟨ap,J,aa⟩:=ob h;refine CW.jn [0,3,4] [] [(101,.bool ap)] g (h1:=?_) (h2:=?_)
         · have h:=J;refine gB h ?_ ?_ <;> intro _ h
           · refine gb h fun be U h=>?_;obtain ⟨aJ,a8,aA,hae,q,aB,aC,I,L⟩:=c.idx U;cases hae;obtain ⟨aG,aK,aH,aL,aI,aM,rfl,aD,aE,aF⟩:=I;refine go ?_;refine LW.l (iF.iN w0 iY rfl (L 1 _ rfl)) (g.same _ q.1 q.2) rfl ?_;refine go ?_;cases oi h;exact g.po []
           refine go ?_;cases oi h;exact g.po []
         intro e bb X;have h:=aa;refine gc h ?_ ?_ <;> intro _ h
         · refine go ?_;cases oi h;exact ⟨trivial,rfl,_,rfl,rx ⟨rfl,X.pk []⟩⟩
         refine go ?_;cases oi h;exact ⟨rfl,(X.po [])⟩
       refine go ?_;cases oi h;exact ⟨trivial,rfl,(g.po [])⟩
     intro x e bc hM;rcases G with G | a9
     · obtain ⟨rfl,hM⟩:=hM;obtain ⟨e,rfl,au⟩:=eo hM;have h:=y;refine go ?_;cases oi h;exact ⟨rfl,(au.po [])⟩
     obtain ⟨rfl,u,rfl,hM⟩:=hM;cases y;exact ⟨trivial,rfl,_,rfl,hM⟩
   refine go ?_;cases oi h;exact ⟨trivial,rfl,⟨trivial,i.pk []⟩⟩
 intro x e bd hM;rcases H with H | ba
 · obtain ⟨rfl,hM⟩:=hM;obtain ⟨e,rfl,av⟩:=eo hM;rw [show e=iQ e [] from rfl];have h:=z;refine go ?_;cases h;exact fi av
 obtain ⟨rfl,u,rfl,hM⟩:=hM;cases z;exact And.intro trivial hM
theorem Bo {w0 N b c r} (h:qG N b c=some r) :
    il Tryz.prog 313 #[.agg #[vI b.cd,vI b.ij,vI b.iD],.agg #[vI c.cd,vI c.ij,vI c.iD]] w0 (fun v w=>v=.bool r∧St w0 [] w []):=by
 unfold qG at h;refine il.fn Tryz.func313 fun e=>?_;have f:=St.start w0;refine go ?_;refine LW.bo f fun l n g=>?_;refine LW.bo g fun m o i=>?_;refine gb h fun s j h=>?_;refine LW.c0 (ma j) i fun p d=>?_;refine gB h ?_ ?_ <;> intro _ h
 · refine gb h fun t k h=>?_;refine go ?_;refine LW.c0 (ma k) d fun q a=>?_;refine gB h ?_ ?_ <;> intro _ h
   · refine gB h ?_ ?_ <;> intro _ h
     · refine go ?_;refine bH h ?_ ?_ <;> intro _ h
       · refine go ?_;cases h;exact fi a
       refine go ?_;cases h;exact fi a
     refine go ?_;cases h;exact fi a
   refine go ?_;cases h;exact fi a
 refine go ?_;cases h;exact fi d
theorem ly {w0 N a c r} (h:lQ N a c=some r) :
    il Tryz.prog 86 #[.agg #[vI a.cd,vI a.ij,vI a.iD],.agg #[vI c.cd,vI c.ij,vI c.iD]] w0 (fun v w=>v=.tuple #[.agg #[vI r.1.cd,vI r.1.ij,vI r.1.iD],.bool r.2]∧St w0 [] w []):=by
 unfold lQ at h;refine il.fn Tryz.func86 fun e=>?_;have p:=St.start w0;refine go ?_;refine LW.bo p fun W Z q=>?_;refine LW.bo q fun X aa s=>?_;refine LW.al s fun Y ab i=>?_;refine gs ?_;obtain ⟨B,y,A⟩:=ob h;refine CW.jn [2,3,4] [0,1,2] [(14,.bool B)] i (h1:=?_) (h2:=?_)
 · have h:=y;refine gb h fun ac z h=>?_;refine LW.c0 (ma z) i fun G j=>?_;refine gB h ?_ ?_ <;> intro _ h
   · refine go ?_;cases oi h;exact j.po [0,1,2]
   refine gb h fun U n h=>?_;refine go ?_;refine LW.c0 (ma n) j fun H t=>?_;refine go ?_;cases oi h;exact t.po [0,1,2]
 intro e I k;have h:=A;refine gc h ?_ ?_ <;> intro _ h
 · refine go ?_;refine LW.st k 0 fun J l=>?_;refine go ?_;cases h;exact Rc (ib.b l 0 rfl km rfl rfl) tt ⟨rfl,l.pk []⟩
 refine go ?_;refine LW.u (iC.build (vs:=[(0,vI (IntKind.i64.wrap (a.cd+c.cd))),(1,vI (IntKind.i64.wrap (a.ij+c.ij))),(2,vI (IntKind.i64.wrap (a.iD+c.iD)))]) (cs:=#[vI (IntKind.i64.wrap (a.cd+c.cd)),vI (IntKind.i64.wrap (a.ij+c.ij)),vI (IntKind.i64.wrap (a.iD+c.iD))]) rfl (by kernel_rfl)) rfl ?_;refine LW.al k fun C K x=>?_;refine LW.st x 0 fun L m=>?_;refine gb h fun V o h=>?_;refine LW.c0 (ma o) m fun M d=>?_;refine go ?_;refine CW.fl [2,4,6,34] fun e=>?_;refine gc h ?_ ?_ <;> intro _ h
 · refine go ?_;refine LW.st d 1 fun O f=>?_;refine go ?_;cases h;exact Rc (ib.b f 1 rfl km rfl rfl) tt ⟨rfl,f.pk []⟩
 refine go ?_;refine LW.st d 1 fun R g=>?_;refine go ?_;cases h;exact Rc (ib.b g 1 rfl km rfl rfl) tt ⟨rfl,g.pk []⟩
theorem tX {w0 N a r} (h:mQ N a=some r) {j C k} (H:C=a.ag.length) (q:rb w0 j k a.ag) {c G d} (I:G=a.gc.ia.length) (J:rb w0 c d a.gc.ia) :
    il Tryz.prog 148 #[.agg #[vS j C k,vI a.gc.phase,vI a.gc.pos,vI a.gc.round,vS c G d]] w0 (fun v w=>∃ m o, ∃ n p,v=.agg #[vS m r.ag.length o,vI r.gc.phase,vI r.gc.pos,vI r.gc.round,vS n r.gc.ia.length p]∧St w0 [] w [sl m o r.ag,sl n p r.gc.ia]):=by
 subst H I;unfold mQ at h;refine il.fn Tryz.func148 fun e=>?_;have ac:=St.start w0;refine go ?_;refine LW.bo ac fun Y aB ad=>?_;refine LW.al ad fun ab aC ae=>?_;refine gs ?_;obtain ⟨am,ak,an⟩:=ob h;refine CW.cut (fun e wb=>∃ (l:Nat) (f:Ad) (g:Nat),En e [(1,.pointer (some ⟨Y,0,none⟩)),(2,.pointer (some ⟨ab,0,none⟩)),(3,.pointer (some ⟨l,0,none⟩))]∧St w0 [] wb [bx ab 32 [vS none 0 0,vI 0,vI 0,vI 0,vS none 0 0],bx Y 32 (qH j k c d a),bx l 32 [vS f am.length g,vI a.gc.phase,vI a.gc.pos,vI a.gc.round,vS c a.gc.ia.length d],sl f g am]) ?_ ?_
 · have h:=ak;refine CW.draw (by kernel_rfl) ?_;have B:=ae.drew;refine gb h fun K M h=>?_;refine AW.all (rs:=[2,6]) (by kernel_rfl) (by simp) ⟨?_,?_,trivial⟩
   · refine ⟨_,rfl,?_⟩;refine LW.cl (rj M rfl (B.rB q)) ?_;rintro _ ao ⟨s,x,rfl,hs⟩;have af:=B.add hs;refine jn ?_;refine AW.u (i:=5) rfl (by kernel_rfl) rfl rfl (iC.build (vs:=[(0,vS s K.length x),(1,.agg #[vI a.gc.phase,vI a.gc.pos,vI a.gc.round,vS c a.gc.ia.length d])]) (cs:=#[vS s K.length x,vI a.gc.phase,vI a.gc.pos,vI a.gc.round,vS c a.gc.ia.length d]) rfl (by kernel_rfl)) ?_;refine jO 6 ?_;refine LW.al af fun Z ap ah=>?_;refine jn ?_;refine jO 7 ?_;refine LW.st ah 0 fun aq ai=>?_;refine jn ?_;refine go ?_;cases oi h;exact ⟨Z,s,x,ai.po [2,3,0,1]⟩
   refine ⟨_,rfl,?_⟩;refine LW.al B fun aa ar L=>?_;refine jn ?_;refine jO 2 ?_;refine LW.cl (rj M rfl (L.rB q)) ?_;rintro _ au ⟨t,y,rfl,hs⟩;have aj:=L.add hs;refine jn ?_;refine AW.u (i:=5) rfl (by kernel_rfl) rfl rfl (iC.build (vs:=[(0,vS t K.length y),(1,.agg #[vI a.gc.phase,vI a.gc.pos,vI a.gc.round,vS c a.gc.ia.length d])]) (cs:=#[vS t K.length y,vI a.gc.phase,vI a.gc.pos,vI a.gc.round,vS c a.gc.ia.length d]) rfl (by kernel_rfl)) ?_;refine jO 7 ?_;refine LW.st aj 1 fun av O=>?_;refine jn ?_;refine go ?_;cases oi h;exact ⟨aa,t,y,O.po [2,3,1,0]⟩
 rintro e aw ⟨l,f,g,hE,z⟩;obtain ⟨e,rfl⟩:=hE.out;have h:=an;refine gb h fun aA V h=>?_;refine LW.cl (l8 V rfl (z.rB J)) ?_;rintro _ ax ⟨W,X,rfl,hs⟩;have R:=z.add hs;refine go ?_;refine LW.st R 3 fun ay U=>?_;refine go ?_;refine LW.st U 1 fun az A=>?_;refine go ?_;cases h;exact And.intro trivial ⟨_,jB.one (ib.b A 1 rfl pc rfl rfl),f,g,W,X,rfl,A.pk [4,0]⟩
theorem Bu {w0 N s B r} (h:qz N s B=some r) {c i d} (j:i=s.length) (b:rb w0 c d s) :
    il Tryz.prog 222 #[vS c i d,vI B] w0 (fun v w=>v=.bool r∧St w0 [] w []):=by
 subst j;unfold qz at h;refine il.fn Tryz.func222 fun e=>?_;have t:=St.start w0;refine go ?_;obtain ⟨m,p,k⟩:=ob h;refine CW.mono (CW.lx [0] [] [] 0 (fun q=>[(1,vI q.1),(5,vI q.2)]) (RT Tryz.prog Tryz.f222.results (fun u=>.bool u) w0 []) t p (hb:=?_)) ?_
 · intro q e M o a h;refine gc h ?_ ?_ <;> intro _ h
   · refine gc h ?_ ?_ <;> intro _ h
     · refine go ?_;cases oi h;exact ⟨trivial,rfl,_,rfl,rx ⟨rfl,a.pk []⟩⟩
     refine gb h fun R z h=>?_;refine LW.c0 (ot z rfl (a.rB b)) a fun O f=>?_;refine gc h ?_ ?_ <;> intro _ h
     · refine go ?_;cases oi h;exact ⟨trivial,rfl,_,rfl,rx ⟨rfl,f.pk []⟩⟩
     refine gb h fun U A h=>?_;obtain ⟨H,J,C,rfl,g,I,G,rfl,n⟩:=b.idx A;refine go ?_;refine LW.l (iF.iN w0 iY rfl (n 1 _ rfl)) (f.same _ g.1 g.2) rfl ?_;refine go ?_;cases oi h;exact ⟨rfl,(f.po [])⟩
   refine go ?_;cases oi h;exact ⟨trivial,rfl,⟨trivial,a.pk []⟩⟩
 intro x e L hM;rcases m with m | K
 · obtain ⟨rfl,hM⟩:=hM;obtain ⟨e,rfl,y⟩:=eo hM;rw [show e=iQ e [] from rfl];have h:=k;refine go ?_;cases h;exact fi y
 obtain ⟨rfl,u,rfl,hM⟩:=hM;cases k;exact And.intro trivial hM
theorem zw {w0 N a r} (h:rC N a=some r) {k q n} (A:q=a.ig.length) (g:rb w0 k n a.ig) {l s o} (B:s=a.data.length) (i:rb w0 l o a.data) {m t p} (C:t=a.queue.length) (j:rb w0 m p a.queue) :
    il Tryz.prog 283 #[.agg #[vI a.gen,vI a.kind,vI a.box,vI a.res,vI a.iL,vI a.cd,vI a.wait,vI a.iK,vI a.iM,.bool a.mark,vS k q n,vS l s o,vS m t p]] w0 (fun v w=>v=.bool r∧St w0 [] w []):=by
 subst A B C;unfold rC at h;refine il.fn Tryz.func283 fun e=>?_;have ak:=St.start w0;refine go ?_;refine LW.bo ak fun aV aW G=>?_;refine gs ?_;obtain ⟨aw,ao,av⟩:=ob h;refine CW.jn [1] [0] [(12,.bool aw)] G (h1:=?_) (h2:=?_)
 · have h:=ao;refine gb h fun aZ ap h=>?_;refine LW.c0 (jd ap) G fun aX H=>?_;refine gB h ?_ ?_ <;> intro _ h
   · refine go ?_;cases oi h;exact H.po [0]
   refine gb h fun a0 aq h=>?_;refine go ?_;refine LW.c0 (jd aq) H fun aY am=>?_;refine go ?_;cases oi h;exact am.po [0]
 intro e f d;have h:=av;refine gc h ?_ ?_ <;> intro _ h
 · refine go ?_;cases h;exact fi d
 refine gc h ?_ ?_ <;> intro _ h
 · refine go ?_;refine LW.u (iC.build (vs:=[(0,vI a.gen)]) (cs:=#[vI a.gen,vI 0,vI 0,vI 0,vI 0,vI 0,vI 0,vI 0,vI 0,.bool false,vS none 0 0,vS none 0 0,vS none 0 0]) rfl (by kernel_rfl)) rfl ?_;have ⟨aK,W,h⟩:=ob h;refine LW.c0 (BS W rfl (d.rB g) rfl (d.rB i) rfl (d.rB j) rfl (show iO (α:=Int) (jc f []) f none 0 [] from iO.nil _ _ _ _ (Nat.zero_le _)) rfl (show iO (α:=Int) (jc f []) f none 0 [] from iO.nil _ _ _ _ (Nat.zero_le _)) rfl (show iO (α:=ji) (jc f []) f none 0 [] from iO.nil _ _ _ _ (Nat.zero_le _))) d fun ax an=>?_;refine go ?_;cases h;exact fi an
 refine gs ?_;obtain ⟨ar,U,ai⟩:=ob h;refine CW.jn [1] [0] [(47,.bool ar)] d (h1:=?_) (h2:=?_)
 · have h:=U;refine gb h fun aL X h=>?_;refine LW.c0 (jd X) d fun ay I=>?_;refine gB h ?_ ?_ <;> intro _ h
   · refine go ?_;cases oi h;exact I.po [0]
   refine gb h fun aM Y h=>?_;refine go ?_;refine LW.c0 (mK Y) I fun az J=>?_;refine gB h ?_ ?_ <;> intro _ h
   · refine go ?_;cases oi h;exact J.po [0]
   refine gb h fun aN Z h=>?_;refine go ?_;refine LW.c0 (mA Z) J fun aA K=>?_;refine gB h ?_ ?_ <;> intro _ h
   · refine go ?_;cases oi h;exact K.po [0]
   refine go ?_;have ⟨aO,aa,h⟩:=ob h;refine go ?_;refine LW.c0 (jd aa) K fun aB c=>?_;refine gB h ?_ ?_ <;> intro _ h
   · refine go ?_;cases oi h;exact c.po [0]
   refine gb h fun aP ab h=>?_;refine go ?_;refine LW.c0 (BU ab rfl (c.rB g) rfl (c.rB i) rfl (c.rB j)) c fun aC L=>?_;refine go ?_;cases oi h;exact L.po [0]
 intro e aD b;have h:=ai;refine gc h ?_ ?_ <;> intro _ h
 · refine go ?_;cases h;exact fi b
 refine gc h ?_ ?_ <;> intro _ h
 · refine gs ?_;obtain ⟨au,V,aj⟩:=ob h;refine CW.jn [] [] [(2,.bool au)] b (h1:=?_) (h2:=?_)
   · have h:=V;refine gB h ?_ ?_ <;> intro _ h
     · refine gB h ?_ ?_ <;> intro _ h
       · refine go ?_;cases oi h;exact b.po []
       refine go ?_;cases oi h;exact b.po []
     refine go ?_;cases oi h;exact b.po []
   intro e aE M;have h:=aj;refine go ?_;cases h;exact fi M
 refine gB h ?_ ?_ <;> intro _ h
 · refine gb h fun aQ ac h=>?_;refine go ?_;refine LW.c0 (jd ac) b fun aF x=>?_;refine gB h ?_ ?_ <;> intro _ h
   · refine go ?_;have ⟨aR,ad,h⟩:=ob h;refine go ?_;refine LW.c0 (mA ad) x fun aG O=>?_;refine go ?_;cases h;exact fi O
   refine go ?_;cases h;exact fi x
 refine gb h fun aS ae h=>?_;refine go ?_;refine LW.c0 (m3 ae) b fun aH y=>?_;refine gB h ?_ ?_ <;> intro _ h
 · refine gb h fun aT af h=>?_;refine go ?_;refine LW.c0 (jd af) y fun aI z=>?_;refine go ?_;refine bH h ?_ ?_ <;> intro _ h
   · refine gb h fun aU ah h=>?_;refine go ?_;refine LW.c0 (mA ah) z fun aJ R=>?_;refine go ?_;cases h;exact fi R
   refine go ?_;cases h;exact fi z
 refine go ?_;cases h;exact fi y
theorem tu {w0 N j r} (h:ns N j=some r) {n H q} (K:H=j.ag.length) (M:rb w0 n q j.ag) {p I s} (L:I=j.gc.ia.length) (g:rb w0 p s j.gc.ia) :
    il Tryz.prog 78 #[.agg #[vS n H q,vI j.gc.phase,vI j.gc.pos,vI j.gc.round,vS p I s]] w0 (fun v w=>v=.bool r∧St w0 [] w []):=by
 subst K L;unfold ns at h;refine il.fn Tryz.func78 fun e=>?_;have aq:=St.start w0;refine go ?_;refine LW.bo aq fun a3 a5 ar=>?_;refine go ?_;refine LW.al ar fun a4 a6 au=>?_;refine LW.st au 0 fun a7 B=>?_;refine gs ?_;obtain ⟨aE,aw,aB⟩:=ob h;refine CW.jn [3] [0] [(22,.bool aE)] B (h1:=?_) (h2:=?_)
 · have h:=aw;refine gb h fun a9 ax h=>?_;refine LW.c0 (nF ax rfl (B.rB M)) B fun a8 R=>?_;refine gB h ?_ ?_ <;> intro _ h
   · refine go ?_;cases oi h;exact R.po [0]
   refine gb h fun aV af h=>?_;refine go ?_;refine LW.c0 (jg af) R fun aK U=>?_;refine gB h ?_ ?_ <;> intro _ h
   · refine go ?_;cases oi h;exact U.po [0]
   refine gb h fun aW ah h=>?_;refine go ?_;refine LW.c0 (jg ah) U fun aL av=>?_;refine go ?_;cases oi h;exact av.po [0]
 intro e aM d;have h:=aB;refine gc h ?_ ?_ <;> intro _ h
 · refine go ?_;cases h;exact fi d
 refine gs ?_;obtain ⟨ay,ab,ao⟩:=ob h;refine CW.jn [3] [0] [(47,.bool ay)] d (h1:=?_) (h2:=?_)
 · have h:=ab;refine gB h ?_ ?_ <;> intro _ h
   · refine gB h ?_ ?_ <;> intro _ h
     · refine go ?_;cases oi h;exact d.po [0]
     refine gB h ?_ ?_ <;> intro _ h
     · refine gb h fun aX ai h=>?_;refine go ?_;refine LW.c0 (nq ai) d fun aN V=>?_;refine go ?_;refine bH h ?_ ?_ <;> intro _ h
       · refine go ?_;cases oi h;exact V.po [0]
       refine go ?_;cases oi h;exact V.po [0]
     refine go ?_;cases oi h;exact d.po [0]
   refine gB h ?_ ?_ <;> intro _ h
   · refine gb h fun aY aj h=>?_;refine go ?_;refine LW.c0 (nq aj) d fun aO t=>?_;refine go ?_;refine bH h ?_ ?_ <;> intro _ h
     · refine go ?_;cases oi h;exact t.po [0]
     refine go ?_;cases oi h;exact t.po [0]
   refine go ?_;cases oi h;exact d.po [0]
 intro e aP y;have h:=ao;refine gc h ?_ ?_ <;> intro _ h
 · refine go ?_;cases h;exact fi y
 refine go ?_;obtain ⟨W,ad,O⟩:=ob h;refine CW.mono (CW.lx [3] [0] [] 0 (fun X=>[(4,vI X)]) (RT Tryz.prog Tryz.f78.results (fun u=>.bool u) w0 []) y ad (hb:=?_)) ?_
 · intro X e aQ o k h;refine gc h ?_ ?_ <;> intro _ h
   · refine gs ?_;refine CW.block ?_;refine gs ?_;obtain ⟨az,ac,ap⟩:=ob h;refine CW.jn [3,4] [0] [(73,.bool az)] k (h1:=?_) (h2:=?_)
     · have h:=ac;refine CW.draw (by kernel_rfl) ?_;have z:=k.drew;refine gb h fun aZ ak h=>?_;obtain ⟨aG,aI,aA,rfl,a,aC,aD,rfl,C⟩:=g.idx ak;refine go ?_;refine AW.take (i:=4) rfl (by kernel_rfl) rfl rfl (iF.iN w0 iY rfl (C 0 _ rfl)) (z.same _ a.1 a.2) ?_;have ⟨a0,am,h⟩:=ob h;refine jO 5 ?_;refine LW.cl (nq am) ?_;rintro _ aR ⟨rfl,hs⟩;have f:=z.add hs;refine jn ?_;refine gB h ?_ ?_ <;> intro m h
       · refine go ?_;cases oi h;exact f.po [0]
       refine gb h fun a1 G h=>?_;obtain ⟨aF,aH,Z,aa,ae⟩:=iO.rX g G;have J:=(g).le;refine AW.u (i:=11) rfl (by kernel_rfl) (jS rfl rfl m) rfl (iC.sub (α:=Int) (l:=j.gc.ia) Tryz.underlying24 BY rfl r8 (rU rfl) G J Z aa) ?_;refine go ?_;refine AW.take (i:=16) rfl (by kernel_rfl) (jS rfl rfl m) rfl (iF.iN w0 iY rfl (C 0 _ rfl)) (f.same _ a.1 a.2) ?_;have ⟨a2,an,h⟩:=ob h;refine jO 17 ?_;refine (LW.gY (jS rfl rfl m) ?_);refine LW.cl (pP an rfl (f.rB ae)) ?_;rintro _ aS ⟨rfl,hs⟩;have b:=f.add hs;refine jN (jW (.c (b.ce 0) (.c (b.ce 0) (.c (b.same _ a.1 a.2) (.c (b.ce 0) jZ))))) ?_;refine go ?_;cases oi h;exact b.po [0]
     intro e aT A;have h:=ap;refine gc h ?_ ?_ <;> intro _ h
     · refine go ?_;cases oi h;exact ⟨trivial,rfl,_,rfl,rx ⟨rfl,A.pk []⟩⟩
     refine go ?_;cases oi h;exact ⟨rfl,(A.po [0])⟩
   refine go ?_;cases oi h;exact ⟨trivial,rfl,⟨trivial,k.pk [0]⟩⟩
 intro x e aU hM;rcases W with W | aJ
 · obtain ⟨rfl,hM⟩:=hM;obtain ⟨e,rfl,Y⟩:=eo hM;rw [show e=iQ e [] from rfl];have h:=O;refine go ?_;cases h;exact fi Y
 obtain ⟨rfl,u,rfl,hM⟩:=hM;cases O;exact And.intro trivial hM
end Go.Kx
