/- Each call returns what the plain function says. Printed by drive.py. -/
import Derived.Test.YtdlodpchnaojhaaGreatFa
import Derived.Test.YtdlodpchnaojhaaGreatPu
import Derived.Test.YtdlodpchnaojhaaGreatWa5
import Derived.Test.YtdlodpchnaojhaaGreatWa6
import Derived.Test.YtdlodpchnaojhaaGreatWa7
import Derived.Test.YtdlodpchnaojhaaGreatWa8
namespace Go.Kx
open Go Go.RowKit Go.Proofs
set_option maxRecDepth 10000
set_option maxHeartbeats 8000000
set_option linter.unusedVariables false
set_option linter.unusedSimpArgs false
theorem rh {w0 N m r} (h:mG N m=some r) {c y d} (z:y=m.length) (g:rb w0 c d m) :
    iq Tryz.prog 201 #[vS c y d] w0 (fun v w=>v=.bool r∧St w0 [] w []):=by
 subst z;unfold mG at h;refine iq.fn Tryz.func201 fun e=>?_;have b:=St.start w0;refine gs ?_;refine CW.region ?_;refine gs ?_;obtain ⟨ak,ac,h2⟩:=ob h;refine CW.jn [0] [] [(22,.bool ak)] b (h1:=?_) (h2:=?_)
 · have h:=ac;refine gB h ?_ ?_ <;> intro _ h
   · refine go ?_;cases oi h;exact b.po []
   refine gb h fun aO ad h=>?_;obtain ⟨aM,aN,an,rfl,f,ap,aq,rfl,t⟩:=g.idx ad;refine go ?_;refine LW.l (iC.iP w0 qI rfl (t 0 _ rfl)) (b.same _ f.1 f.2) rfl ?_;refine gB h ?_ ?_ <;> intro _ h
   · refine go ?_;cases oi h;exact b.po []
   refine go ?_;refine LW.l (iC.iP w0 jc rfl (t 1 _ rfl)) (b.same _ f.1 f.2) rfl ?_;refine go ?_;cases oi h;exact b.po []
 intro e av B;have h:=h2;refine gc h ?_ ?_ <;> intro _ h
 · refine go ?_;cases h;exact fi B
 refine go ?_;refine LW.u (iD.build (vs:=[]) (cs:=#[vI 0,vI 0,vI 0]) rfl (by kernel_rfl)) rfl ?_;refine LW.al B fun i aw Y=>?_;refine LW.st Y 0 fun ax Z=>?_;refine go ?_;obtain ⟨C,M,A⟩:=ob h;refine CW.it M (fun a e wb=>En e [(0,vS c m.length d),(3,.pointer (some ⟨i,0,none⟩)),(24,vS c m.length d),(25,vI (m.length:Int)),(26,vI a.1)]∧St w0 [] wb [bx i 43 [vI a.2.1,vI a.2.2.1,vI a.2.2.2]]) (fun o x e wb=>match o with | .inl a=>x=.exit 0∧En e [(3,.pointer (some ⟨i,0,none⟩))]∧St w0 [] wb [bx i 43 [vI a.2.1,vI a.2.2.1,vI a.2.2.2]] | .inr r=>x=.ret∧∃ u,u=r∧∃ v,jB Tryz.prog Tryz.f201.results e wb v∧v=.bool u∧St w0 [] wb []) ?_ (Z.po [0]) ?_
 · intro a e ay o hM h;obtain ⟨e,rfl,p⟩:=eo hM;refine gc h ?_ ?_ <;> intro _ h
   · refine gb h fun af O h=>?_;obtain ⟨am,ar,ah,rfl,s,ai,aj,rfl,L⟩:=g.idx O;refine go ?_;refine LW.l (iC.jH w0 xY rfl rfl (fun j u hu=>L j u hu)) (p.same _ s.1 s.2) rfl ?_;refine LW.al p fun ao az aa=>?_;refine go ?_;refine LW.st aa 0 fun aA k=>?_;refine go ?_;refine CW.fl [0,3,4,5,24,25,26,33] fun e=>?_;refine gc h ?_ ?_ <;> intro _ h
     · refine go ?_;refine LW.u (iD.build (vs:=[]) (cs:=#[.bool false,vI 0,vI 0,vI 0,vI 0]) rfl (by kernel_rfl)) rfl ?_;refine LW.u (iD.CN E9 rfl rfl (fun w=>FK af (ir.mk false 0 (ig.mk 0 0 0)) w)) rfl ?_;refine gc h ?_ ?_ <;> intro _ h
       · refine go ?_;cases oi h;exact ⟨trivial,rfl,_,rfl,rx ⟨rfl,k.pk []⟩⟩
       refine go ?_;cases oi h;exact ⟨rfl,(k.po [1])⟩
     refine gs ?_;obtain ⟨ae,K,X⟩:=ob h;refine CW.jn [0,3,5,24,25,26] [0,1] [(46,.bool ae)] k (h1:=?_) (h2:=?_)
     · have h:=K;refine gb h fun aI R h=>?_;refine LW.c0 (nn R) k fun aB q=>?_;refine gB h ?_ ?_ <;> intro _ h
       · refine go ?_;cases oi h;exact q.po [0,1]
       refine gb h fun aJ U h=>?_;refine go ?_;refine LW.c0 (Dd U rfl (q.rB g)) q fun aC ab=>?_;refine go ?_;cases oi h;exact ab.po [0,1]
     intro e aD n;have h:=X;refine gc h ?_ ?_ <;> intro _ h
     · refine go ?_;cases oi h;exact ⟨trivial,rfl,_,rfl,rx ⟨rfl,n.pk []⟩⟩
     refine gb h fun aK V h=>?_;refine LW.c0 (oM V) n fun aE G=>?_;refine LW.st G 1 fun aF H=>?_;refine go ?_;cases oi h;exact ⟨rfl,(H.po [1])⟩
   refine go ?_;cases oi h;exact ⟨trivial,rfl,(p.po [0])⟩
 intro x e aG hM;rcases C with C | au
 · obtain ⟨rfl,hM⟩:=hM;obtain ⟨e,rfl,I⟩:=eo hM;have h:=A;refine gb h fun aL W h=>?_;refine LW.c0 (nn W) I fun aH J=>?_;refine go ?_;cases h;exact fi J
 obtain ⟨rfl,u,rfl,hM⟩:=hM;cases A;exact And.intro trivial hM
theorem vF {w0 N an r} (h:oc N an=some r) {m B n} (I:B=an.length) (c:rb w0 m n an) :
    iq Tryz.prog 288 #[vS m B n] w0 (fun v w=>v=.bool r∧St w0 [] w []):=by
 subst I;unfold oc at h;refine iq.fn Tryz.func288 fun e=>?_;have b:=St.start w0;refine gs ?_;refine CW.region ?_;refine gs ?_;obtain ⟨aY,ar,h2⟩:=ob h;refine CW.jn [0] [] [(30,.bool aY)] b (h1:=?_) (h2:=?_)
 · have h:=ar;refine gB h ?_ ?_ <;> intro _ h
   · refine go ?_;cases oi h;exact b.po []
   refine gb h fun bQ au h=>?_;obtain ⟨bO,bP,br,rfl,a,bt,bu,⟨a4,bi,a5,bj,a6,bk,rfl,aS,aT,aU⟩,i⟩:=c.idx au;refine go ?_;refine LW.l (iC.iP w0 jc rfl (i 1 _ rfl)) (b.same _ a.1 a.2) rfl ?_;refine gB h ?_ ?_ <;> intro _ h
   · refine go ?_;cases oi h;exact b.po []
   refine go ?_;refine LW.l (iC.iP w0 jc rfl (i 2 _ rfl)) (b.same _ a.1 a.2) rfl ?_;refine gB h ?_ ?_ <;> intro _ h
   · refine go ?_;cases oi h;exact b.po []
   refine go ?_;refine LW.l (iC.iP w0 jc rfl (i 4 _ rfl)) (b.same _ a.1 a.2) rfl ?_;refine go ?_;cases oi h;exact b.po []
 intro e bB L;have h:=h2;refine gc h ?_ ?_ <;> intro _ h
 · refine go ?_;cases h;exact fi L
 refine go ?_;obtain ⟨G,K,q⟩:=ob h;refine CW.mono (CW.lx [0,31,32] [] [] 0 (fun R=>[(33,vI R)]) (RT Tryz.prog Tryz.f288.results (fun u=>.bool u) w0 []) L K (hb:=?_)) ?_
 · intro R e bC o s h;refine gc h ?_ ?_ <;> intro _ h
   · refine gb h fun bJ ah h=>?_;obtain ⟨bd,bv,aG,rfl,t,aK,aO,⟨a7,bl,a8,bm,a9,bn,rfl,A,ae,af⟩,ab⟩:=c.idx ah;refine go ?_;refine LW.l (iC.jH w0 kW rfl rfl (fun j u hu=>ab j u hu)) (s.same _ t.1 t.2) rfl ?_;refine LW.al s fun bs bD aq=>?_;refine go ?_;refine LW.st aq 0 fun bE g=>?_;refine gs ?_;obtain ⟨av,Z,ao⟩:=ob h;refine CW.jn [0,4,31,32,33] [0] [(63,.bool av)] g (h1:=?_) (h2:=?_)
     · have h:=Z;refine gb h fun bK ai h=>?_;refine LW.c0 (A4 ai rfl (g.rB A) rfl (g.rB ae) rfl (g.rB af)) g fun bF d=>?_;refine gB h ?_ ?_ <;> intro _ h
       · refine go ?_;cases oi h;exact d.po [0]
       refine gB h ?_ ?_ <;> intro _ h
       · refine go ?_;refine bH h ?_ ?_ <;> intro _ h
         · refine gB h ?_ ?_ <;> intro _ h
           · refine gb h fun bL aj h=>?_;obtain ⟨be,bw,aH,hae,y,aL,aP,X,ac⟩:=c.idx aj;cases hae;obtain ⟨ba,bo,bb,bp,bc,bq,rfl,aV,aW,aX⟩:=X;refine go ?_;refine LW.l (iC.iP w0 jc rfl (ac 1 _ rfl)) (d.same _ y.1 y.2) rfl ?_;refine go ?_;cases oi h;exact d.po [0]
           refine go ?_;cases oi h;exact d.po [0]
         refine go ?_;cases oi h;exact d.po [0]
       refine go ?_;cases oi h;exact d.po [0]
     intro e bG M;have h:=ao;refine gc h ?_ ?_ <;> intro _ h
     · refine go ?_;cases oi h;exact ⟨trivial,rfl,_,rfl,rx ⟨rfl,M.pk []⟩⟩
     refine go ?_;obtain ⟨C,J,p⟩:=ob h;refine CW.mono (CW.lx [0,31,32,33,65,66] [] [0,31,32,33] 2 (fun U=>[(67,vI U)]) (RT Tryz.prog Tryz.f288.results (fun u=>.bool u) w0 []) M J (hb:=?_)) ?_
     · intro U e bI o f h;refine go ?_;refine CW.fl [0,31,32,33,65,66,67,68] fun e=>?_;refine gc h ?_ ?_ <;> intro _ h
       · refine gb h fun bM ak h=>?_;obtain ⟨bf,bz,aI,rfl,z,aM,aQ,rfl,ad⟩:=A.idx ak;refine go ?_;refine LW.l (iC.iP w0 jc rfl (ad 0 _ rfl)) (f.same _ z.1 z.2) rfl ?_;refine gs ?_;obtain ⟨aw,aa,ap⟩:=ob h;refine CW.jn [0,31,32,33,65,66,67] [] [(80,.bool aw)] f (h1:=?_) (h2:=?_)
         · have h:=aa;refine gB h ?_ ?_ <;> intro _ h
           · refine gb h fun bN am h=>?_;obtain ⟨bg,bA,aJ,hae,k,aN,aR,Y,H⟩:=c.idx am;cases hae;obtain ⟨aA,aD,aB,aE,aC,aF,rfl,ax,ay,az⟩:=Y;refine go ?_;refine LW.l (iC.iP w0 jc rfl (H 1 _ rfl)) (f.same _ k.1 k.2) rfl ?_;refine go ?_;cases oi h;exact f.po []
           refine go ?_;cases oi h;exact f.po []
         intro e a1 O;have h:=ap;refine gc h ?_ ?_ <;> intro _ h
         · refine go ?_;cases oi h;exact ⟨trivial,rfl,_,rfl,rx ⟨rfl,O.pk []⟩⟩
         refine go ?_;cases oi h;exact ⟨rfl,(O.po [])⟩
       refine go ?_;cases oi h;exact ⟨trivial,rfl,(f.po [])⟩
     intro x e a2 hM;rcases C with C | aZ
     · obtain ⟨rfl,hM⟩:=hM;obtain ⟨e,rfl,V⟩:=eo hM;have h:=p;refine go ?_;cases oi h;exact ⟨rfl,(V.po [])⟩
     obtain ⟨rfl,u,rfl,hM⟩:=hM;cases p;exact ⟨trivial,rfl,_,rfl,hM⟩
   refine go ?_;cases oi h;exact ⟨trivial,rfl,⟨trivial,s.pk []⟩⟩
 intro x e a3 hM;rcases G with G | a0
 · obtain ⟨rfl,hM⟩:=hM;obtain ⟨e,rfl,W⟩:=eo hM;rw [show e=iQ e [] from rfl];have h:=q;refine go ?_;cases h;exact fi W
 obtain ⟨rfl,u,rfl,hM⟩:=hM;cases q;exact And.intro trivial hM
theorem pR {w0 N a r} (h:mu N a=some r) {C Y L} (ae:Y=a.label.levels.length) (am:rb w0 C L a.label.levels) {G Z M} (af:Z=a.own.length) (an:rb w0 G M a.own) {H aa O} (ah:aa=a.tree.length) (ao:rb w0 H O a.tree) {I ab R} (ai:ab=a.heap.ag.length) (ap:rb w0 I R a.heap.ag) {J ac U} (aj:ac=a.heap.gc.ia.length) (aq:rb w0 J U a.heap.gc.ia) {K ad V} (ak:ad=a.ij.length) (ar:rb w0 K V a.ij) :
    iq Tryz.prog 110 #[.agg #[vS C Y L,vS G Z M,vS H aa O,vS I ab R,vI a.heap.gc.phase,vI a.heap.gc.pos,vI a.heap.gc.round,vS J ac U,vS K ad V,vI a.next,vI a.want,vI a.gE.bh,vI a.gE.ib,vI a.gE.ik,vI a.iH,vI a.lost]] w0 (fun v w=>∃ j s, ∃ k t, ∃ n x, ∃ o y, ∃ p z, ∃ q A,v=.agg #[vS j r.label.levels.length s,vS k r.own.length t,vS n r.tree.length x,vS o r.heap.ag.length y,vI r.heap.gc.phase,vI r.heap.gc.pos,vI r.heap.gc.round,vS p r.heap.gc.ia.length z,vS q r.ij.length A,vI r.next,vI r.want,vI r.gE.bh,vI r.gE.ib,vI r.gE.ik,vI r.iH,vI r.lost]∧St w0 [] w [sl j s r.label.levels,sl k t r.own,sl n x r.tree,sl o y r.heap.ag,sl p z r.heap.gc.ia,sl q A r.ij]):=by
 subst ae af ah ai aj ak;unfold mu at h;refine iq.fn Tryz.func110 fun e=>?_;have aN:=St.start w0;refine go ?_;refine LW.bo aN fun bc be aO=>?_;refine LW.al aO fun bd bf aP=>?_;refine go ?_;refine CW.draw (by kernel_rfl) ?_;have au:=aP.drew;refine gb h fun bi aR h=>?_;refine jO 2 ?_;refine LW.cl (Bu aR rfl (au.rB am)) ?_;rintro _ bg ⟨aT,aU,rfl,hs⟩;have f:=au.add hs;refine jN (.c (f.ce 2) (.c (f.ce 2) (.c (f.ce 2) (jW jZ)))) ?_;refine AW.u (i:=12) rfl (by kernel_rfl) rfl rfl (iD.fa Kz rfl) ?_;have ⟨bj,aS,h⟩:=ob h;refine jO 5 ?_;refine LW.cl (mL aS rfl (f.rB an)) ?_;rintro _ aX ⟨aD,aI,rfl,hs⟩;have g:=f.add hs;refine jN (.c (g.ce 3) (.c (g.ce 3) (jW (.c (g.ce 3) jZ)))) ?_;have ⟨a9,aA,h⟩:=ob h;refine jO 8 ?_;refine LW.cl (sR aA rfl (g.rB ao)) ?_;rintro _ aY ⟨aE,aJ,rfl,hs⟩;have d:=g.add hs;refine jN (.c (d.ce 4) (jW (.c (d.ce 4) (.c (d.ce 4) jZ)))) ?_;have ⟨ba,aB,h⟩:=ob h;refine jO 11 ?_;refine LW.cl (xt aB rfl (d.rB ap) rfl (d.rB aq)) ?_;rintro _ aZ ⟨aF,aK,aG,aL,rfl,hs⟩;have B:=d.add hs;refine jN (jW (.c (B.ce 6) (.c (B.ce 6) (.c (B.ce 6) jZ)))) ?_;refine jO 13 ?_;refine LW.st B 6 fun a0 aQ=>?_;refine jN (jW (jW (jW (jW jZ)))) ?_;refine go ?_;refine jO 15 ?_;refine LW.st aQ 6 fun a1 av=>?_;refine jN (jW (jW (jW (jW jZ)))) ?_;refine go ?_;refine jO 17 ?_;refine LW.st av 6 fun a2 aw=>?_;refine jN (jW (jW (jW (jW jZ)))) ?_;refine go ?_;refine jO 19 ?_;refine LW.st aw 6 fun a3 ax=>?_;refine jN (jW (jW (jW (jW jZ)))) ?_
 refine go ?_;refine LW.jV (α:=jw) (vs:=[]) (cs:=#[]) (l:=([]:List jw)) rfl (by kernel_rfl) rfl rfl rfl (fun w=>rfl) ax rfl ?_;intro aV aW a4 W hf;refine gb h fun bb aC h=>?_;refine LW.kA (l:=([]:List jw)) (m:=a.ij) As rfl rfl (W.rB ar) aC W (i:=0) rfl rfl ?_;intro aH aM a5 ay hf;refine go ?_;refine LW.st ay 7 fun a7 az=>?_;refine go ?_;refine LW.st az 6 fun a8 X=>?_;refine go ?_;cases h;exact And.intro trivial ⟨_,jB.one (ic.b X 6 rfl jz rfl rfl),aT,aU,aD,aI,aE,aJ,aF,aK,aG,aL,aH,aM,rfl,X.pk [5,4,3,1,2,0]⟩
theorem zQ {w0 N a r} (h:nT N a=some r) {m J x} (X:J=a.label.levels.length) (aN:rb w0 m x a.label.levels) {n K y} (Y:K=a.own.length) (aO:rb w0 n y a.own) {p O z} (Z:O=a.tree.length) (aP:rb w0 p z a.tree) {q R A} (aa:R=a.heap.ag.length) (k:rb w0 q A a.heap.ag) {s U B} (ab:U=a.heap.gc.ia.length) (aQ:rb w0 s B a.heap.gc.ia) {t V C} (ac:V=a.ij.length) (aR:rb w0 t C a.ij) :
    iq Tryz.prog 222 #[.agg #[vS m J x,vS n K y,vS p O z,vS q R A,vI a.heap.gc.phase,vI a.heap.gc.pos,vI a.heap.gc.round,vS s U B,vS t V C,vI a.next,vI a.want,vI a.gE.bh,vI a.gE.ib,vI a.gE.ik,vI a.iH,vI a.lost]] w0 (fun v w=>∃ ah am,v=vS ah r.length am∧St w0 [] w [sl ah am r]):=by
 subst X Y Z aa ab ac;unfold nT at h;refine iq.fn Tryz.func222 fun e=>?_;have aF:=St.start w0;refine go ?_;refine LW.bo aF fun bd be aG=>?_;refine go ?_;refine LW.jV (α:=oq) (vs:=[]) (cs:=#[]) (l:=([]:List oq)) rfl (by kernel_rfl) rfl rfl rfl (fun w=>rfl) aG rfl ?_;intro aS aU bf aH hf;refine go ?_;refine LW.u (iD.min rfl rfl) rfl ?_;have ⟨aM,ao,h⟩:=ob h;obtain ⟨aT,aV,aL,ap,au⟩:=jf.tA k ao;have W:=(k).le;refine LW.u (iD.sub (α:=cd) (l:=a.heap.ag) Tryz.underlying36 z6 rfl uk (uu rfl) ao W aL ap) rfl ?_;refine go ?_;obtain ⟨a1,ar,aE⟩:=ob h;refine CW.ie ar 0 (fun f e wb=>∃ (b:Ad) (c:Nat),En e [(3,vS b f.1.length c),(15,vS aT aM.length aV),(16,vI (aM.length:Int)),(17,vI f.2)]∧St w0 [] wb [sl b c f.1]) ?_ ⟨aS,aU,aH.po [0]⟩ ?_
 · intro f e a4 o hM h;obtain ⟨b,c,hE,H⟩:=hM;obtain ⟨e,rfl⟩:=hE.out;refine go ?_;refine CW.fl [3,15,16,17,18] fun e=>?_;refine gc h ?_ ?_ <;> intro _ h
   · refine gb h fun d ay h=>?_;obtain ⟨aZ,a0,aW,rfl,I,aX,aY,⟨ad,ai,ae,aj,af,ak,rfl,av,aw,ax⟩,aq⟩:=au.idx ay;refine go ?_;refine LW.l (iC.jH w0 kW rfl rfl (fun j u hu=>aq j u hu)) (H.same _ I.1 I.2) rfl ?_;refine LW.al H fun aD a5 aI=>?_;refine LW.st aI 0 fun a6 g=>?_;refine gb h fun bb az h=>?_;refine LW.c0 (A4 az rfl (g.rB av) rfl (g.rB aw) rfl (g.rB ax)) g fun a8 an=>?_;refine gc h ?_ ?_ <;> intro _ h
     · refine gb h fun bc aA h=>?_;refine LW.lj (M:=[]) (L:=[bx aD 160 (qO ad ai ae aj af ak d),sl b c f.1]) (vs:=#[vI d.gen,vI d.kind,vI d.box,vI d.res,vI d.iU,vI d.bh,vI d.wait,vI d.iW,vI d.iR,.bool d.mark,vS ad d.il.length ai,vS ae d.data.length aj,vS af d.queue.length ak]) (i:=1) K0 rfl (by kernel_rfl) rfl rfl aA an rfl (fun w G hG=>by cases (show G=[] from hG);exact ⟨⟨_,_,_,_,_,_,_,_,_,rfl⟩,rfl⟩) rfl rfl ?_;intro a2 aB aC a9 aJ hf;refine go ?_;cases oi h;exact ⟨rfl,⟨aB,aC,aJ.po [1]⟩⟩
     refine go ?_;cases oi h;exact ⟨rfl,⟨b,c,an.po [1]⟩⟩
   refine go ?_;cases oi h;exact ⟨trivial,rfl,⟨b,c,H.po [0]⟩⟩
 rintro e ba ⟨b,c,hE,aK⟩;obtain ⟨e,rfl⟩:=hE.out;have h:=aE;refine go ?_;cases h;exact Ra ⟨b,c,rfl,aK.pk [0]⟩
theorem zm {w0 N a c r} (h:sV N a c=some r) :
    iq Tryz.prog 215 #[.agg #[vI a.bh,vI a.ib,vI a.ik],.agg #[vI c.bh,vI c.ib,vI c.ik]] w0 (fun v w=>v=.tuple #[.agg #[vI r.1.bh,vI r.1.ib,vI r.1.ik],.bool r.2]∧St w0 [] w []):=by
 unfold sV at h;refine iq.fn Tryz.func215 fun e=>?_;have i:=St.start w0;refine go ?_;refine LW.bo i fun p t j=>?_;refine LW.bo j fun q x k=>?_;refine LW.al k fun s y l=>?_;refine gb h fun A m h=>?_;refine LW.c0 (DD m) l fun z d=>?_;refine gc h ?_ ?_ <;> intro _ h
 · refine go ?_;refine LW.st d 0 fun n f=>?_;refine go ?_;cases h;exact Rc (ic.b f 0 rfl kt rfl rfl) tt ⟨rfl,f.pk []⟩
 refine go ?_;refine LW.u (iD.build (vs:=[(0,vI (IntKind.i64.wrap (a.bh - c.bh))),(1,vI (IntKind.i64.wrap (a.ib - c.ib))),(2,vI (IntKind.i64.wrap (a.ik - c.ik)))]) (cs:=#[vI (IntKind.i64.wrap (a.bh - c.bh)),vI (IntKind.i64.wrap (a.ib - c.ib)),vI (IntKind.i64.wrap (a.ik - c.ik))]) rfl (by kernel_rfl)) rfl ?_;refine LW.st d 0 fun o g=>?_;refine go ?_;cases h;exact Rc (ic.b g 0 rfl kt rfl rfl) tt ⟨rfl,g.pk []⟩
theorem zz {w0 N d aA r} (h:rk N d aA=some r) {p K s} (V:K=d.ag.length) (a:rb w0 p s d.ag) {q L t} (W:L=d.gc.ia.length) (o:rb w0 q t d.gc.ia) :
    iq Tryz.prog 245 #[.agg #[vS p K s,vI d.gc.phase,vI d.gc.pos,vI d.gc.round,vS q L t],vI aA] w0 (fun v w=>∃ g k, ∃ j m,v=.agg #[vS g r.ag.length k,vI r.gc.phase,vI r.gc.pos,vI r.gc.round,vS j r.gc.ia.length m]∧St w0 [] w [sl g k r.ag,sl j m r.gc.ia]):=by
 subst V W;unfold rk at h;refine iq.fn Tryz.func245 fun e=>?_;have au:=St.start w0;refine go ?_;refine LW.bo au fun bi bj av=>?_;refine LW.al av fun ap bk A=>?_;refine gb h fun f ay h=>?_;refine LW.cl (tV ay rfl (A.rB a) rfl (A.rB o)) ?_;rintro _ aZ ⟨M,R,O,U,rfl,hs⟩;have aw:=A.add hs;refine LW.al aw fun X a0 ax=>?_;refine LW.st ax 0 fun a1 n=>?_;refine gs ?_;obtain ⟨az,ab,aq⟩:=ob h;refine CW.jn [1,2,4,5] [0,1,2,3,4] [(24,.bool az)] n (h1:=?_) (h2:=?_)
 · have h:=ab;refine gb h fun bc ae h=>?_;refine LW.c0 (uJ ae rfl (n.rB a) rfl (n.rB o)) n fun a2 Y=>?_;refine gB h ?_ ?_ <;> intro _ h
   · refine go ?_;cases oi h;exact Y.po [0,1,2,3,4]
   refine gb h fun bd af h=>?_;refine go ?_;refine LW.c0 (nQ af) Y fun a3 B=>?_;refine gB h ?_ ?_ <;> intro _ h
   · refine go ?_;cases oi h;exact B.po [0,1,2,3,4]
   refine gb h fun be ah h=>?_;obtain ⟨aQ,aW,aD,rfl,C,aE,aH,⟨aN,aT,aO,aU,aP,aV,rfl,aK,aL,aM⟩,ad⟩:=a.idx ah;refine go ?_;refine LW.l (iC.iP w0 jc rfl (ad 1 _ rfl)) (B.same _ C.1 C.2) rfl ?_;refine go ?_;cases oi h;exact B.po [0,1,2,3,4]
 intro e a4 c;have h:=aq;refine gc h ?_ ?_ <;> intro _ h
 · refine go ?_;refine LW.st c 3 fun a5 u=>?_;refine go ?_;cases h;exact And.intro trivial ⟨_,jB.one (ic.b u 3 rfl nD rfl rfl),M,R,O,U,rfl,u.pk [1,2]⟩
 refine gs ?_;obtain ⟨Z,ac,ar⟩:=ob h;refine CW.cut (fun e wb=>En e [(4,.pointer (some ⟨ap,0,none⟩)),(5,.pointer (some ⟨X,0,none⟩))]∧St w0 [] wb [bx X 40 [vS M Z.length R,vI f.gc.phase,vI f.gc.pos,vI f.gc.round,vS O f.gc.ia.length U],sl M R Z,sl O U f.gc.ia,bx ap 40 [vS none 0 0,vI 0,vI 0,vI 0,vS none 0 0]]) ?_ ?_
 · have h:=ac;refine gB h ?_ ?_ <;> intro _ h
   · refine gb h fun bf G h=>?_;obtain ⟨aR,aX,hae,aF,aI⟩:=c.iJ (α:=cd) (i:=1) rfl G;subst hae;refine go ?_;refine gb h fun aB H h=>?_;refine LW.se 9 c 1 G H (hM:=(kq (fun w cs F hF=>by obtain ⟨ai,am,aj,an,ak,ao,rfl,hH⟩:=hF;exact ⟨ai,am,aj,an,ak,ao,rfl,hH⟩))) fun a7 x=>?_;refine go ?_;rw [show f.ag.length=aB.length from (iM (oi H))] at x;cases oi h;exact x.po [0,1,2,3]
   refine gb h fun bg I h=>?_;obtain ⟨aS,aY,hae,aG,aJ⟩:=c.iJ (α:=cd) (i:=1) rfl I;subst hae;refine go ?_;refine gb h fun aC J h=>?_;refine LW.se 9 c 1 I J (hM:=(kq (fun w cs F hF=>by obtain ⟨ai,am,aj,an,ak,ao,rfl,hH⟩:=hF;exact ⟨ai,am,aj,an,ak,ao,rfl,hH⟩))) fun a9 y=>?_;refine go ?_;rw [show f.ag.length=aC.length from (iM (oi J))] at y;cases oi h;exact y.po [0,1,2,3]
 rintro e ba ⟨hE,aa⟩;obtain ⟨e,rfl⟩:=hE.out;have h:=ar;refine go ?_;refine LW.st aa 3 fun bb z=>?_;refine go ?_;cases h;exact And.intro trivial ⟨_,jB.one (ic.b z 3 rfl nD rfl rfl),M,R,O,U,rfl,z.pk [1,2]⟩
theorem wG {w0 N a r} (h:oT N a=some r) {d K n} (V:K=a.label.levels.length) (ab:rb w0 d n a.label.levels) {f L p} (W:L=a.own.length) (ac:rb w0 f p a.own) {g M q} (X:M=a.tree.length) (ad:rb w0 g q a.tree) {i O s} (Y:O=a.heap.ag.length) (ae:rb w0 i s a.heap.ag) {k R t} (Z:R=a.heap.gc.ia.length) (af:rb w0 k t a.heap.gc.ia) {m U y} (aa:U=a.ij.length) (ah:rb w0 m y a.ij) :
    iq Tryz.prog 59 #[.agg #[vS d K n,vS f L p,vS g M q,vS i O s,vI a.heap.gc.phase,vI a.heap.gc.pos,vI a.heap.gc.round,vS k R t,vS m U y,vI a.next,vI a.want,vI a.gE.bh,vI a.gE.ib,vI a.gE.ik,vI a.iH,vI a.lost]] w0 (fun v w=>v=.bool r∧St w0 [] w []):=by
 subst V W X Y Z aa;unfold oT at h;refine iq.fn Tryz.func59 fun e=>?_;have aE:=St.start w0;refine go ?_;refine LW.bo aE fun ba bb C=>?_;refine gs ?_;obtain ⟨aM,aF,aJ⟩:=ob h;refine CW.jn [1] [0] [(61,.bool aM)] C (h1:=?_) (h2:=?_)
 · have h:=aF;refine gb h fun be aG h=>?_;refine LW.c0 (vG aG rfl (C.rB ab)) C fun bc G=>?_;refine gB h ?_ ?_ <;> intro _ h
   · refine go ?_;cases oi h;exact G.po [0]
   refine gb h fun bf aH h=>?_;refine go ?_;refine LW.c0 (xK aH rfl (G.rB ac)) G fun bd H=>?_;refine gB h ?_ ?_ <;> intro _ h
   · refine go ?_;cases oi h;exact H.po [0]
   refine gb h fun a1 av h=>?_;refine go ?_;refine LW.c0 (uD av rfl (H.rB ad)) H fun aQ c=>?_;refine gB h ?_ ?_ <;> intro _ h
   · refine go ?_;cases oi h;exact c.po [0]
   refine gb h fun a2 aw h=>?_;refine go ?_;refine LW.c0 (uJ aw rfl (c.rB ae) rfl (c.rB af)) c fun aR I=>?_;refine go ?_;refine bH h ?_ ?_ <;> intro _ h
   · refine go ?_;cases oi h;exact I.po [0]
   refine gB h ?_ ?_ <;> intro _ h
   · refine go ?_;cases oi h;exact I.po [0]
   refine gb h fun a3 ax h=>?_;refine go ?_;refine LW.c0 (nQ ax) I fun aS aj=>?_;refine gB h ?_ ?_ <;> intro _ h
   · refine go ?_;cases oi h;exact aj.po [0]
   refine gb h fun a4 ay h=>?_;refine go ?_;refine LW.c0 (ji ay) aj fun aT ak=>?_;refine gB h ?_ ?_ <;> intro _ h
   · refine go ?_;cases oi h;exact ak.po [0]
   refine gb h fun a5 az h=>?_;refine go ?_;refine LW.c0 (mc az) ak fun aU am=>?_;refine go ?_;refine bH h ?_ ?_ <;> intro _ h
   · refine go ?_;cases oi h;exact am.po [0]
   refine gb h fun a6 aA h=>?_;refine go ?_;refine LW.c0 (ji aA) am fun aV z=>?_;refine gB h ?_ ?_ <;> intro _ h
   · refine go ?_;cases oi h;exact z.po [0]
   refine gb h fun a7 aB h=>?_;refine go ?_;refine LW.c0 (ji aB) z fun aW ap=>?_;refine go ?_;cases oi h;exact ap.po [0]
 intro e aX A;have h:=aJ;refine gc h ?_ ?_ <;> intro _ h
 · refine go ?_;cases h;exact fi A
 refine go ?_;obtain ⟨an,au,ai⟩:=ob h;refine CW.mono (CW.lx [1] [0] [] 0 (fun ao=>[(3,vI ao)]) (RT Tryz.prog Tryz.f59.results (fun u=>.bool u) w0 []) A au (hb:=?_)) ?_
 · intro ao e aY o b h;refine gc h ?_ ?_ <;> intro _ h
   · refine gb h fun a8 aC h=>?_;obtain ⟨aN,aO,aI,rfl,J,aK,aL,rfl,ar⟩:=ah.idx aC;refine go ?_;refine LW.l (iC.jH w0 wH rfl rfl (fun j u hu=>ar j u hu)) (b.same _ J.1 J.2) rfl ?_;have ⟨a9,aD,h⟩:=ob h;refine LW.c0 (Bi aD) b fun aZ B=>?_;refine go ?_;refine CW.fl [1,3,75] fun e=>?_;refine gc h ?_ ?_ <;> intro _ h
     · refine go ?_;cases oi h;exact ⟨trivial,rfl,_,rfl,rx ⟨rfl,B.pk []⟩⟩
     refine go ?_;cases oi h;exact ⟨rfl,(B.po [0])⟩
   refine go ?_;cases oi h;exact ⟨trivial,rfl,⟨trivial,b.pk [0]⟩⟩
 intro x e a0 hM;rcases an with an | aP
 · obtain ⟨rfl,hM⟩:=hM;obtain ⟨e,rfl,aq⟩:=eo hM;rw [show e=iQ e [] from rfl];have h:=ai;refine go ?_;cases h;exact fi aq
 obtain ⟨rfl,u,rfl,hM⟩:=hM;cases ai;exact And.intro trivial hM
theorem Dx {w0 N a r} (h:rL N a=some r) {g A o} (J:A=a.label.levels.length) (U:rb w0 g o a.label.levels) {j B q} (K:B=a.own.length) (V:rb w0 j q a.own) {k C s} (L:C=a.tree.length) (d:rb w0 k s a.tree) {l G t} (M:G=a.heap.ag.length) (W:rb w0 l t a.heap.ag) {m H x} (O:H=a.heap.gc.ia.length) (X:rb w0 m x a.heap.gc.ia) {n I y} (R:I=a.ij.length) (Y:rb w0 n y a.ij) :
    iq Tryz.prog 131 #[.agg #[vS g A o,vS j B q,vS k C s,vS l G t,vI a.heap.gc.phase,vI a.heap.gc.pos,vI a.heap.gc.round,vS m H x,vS n I y,vI a.next,vI a.want,vI a.gE.bh,vI a.gE.ib,vI a.gE.ik,vI a.iH,vI a.lost]] w0 (fun v w=>v=.agg #[vI r.bh,vI r.ib,vI r.ik]∧St w0 [] w []):=by
 subst J K L M O R;unfold rL at h;refine iq.fn Tryz.func131 fun e=>?_;have ah:=St.start w0;refine go ?_;refine LW.bo ah fun av ay ai=>?_;refine LW.al ai fun aw az Z=>?_;refine gb h fun f an h=>?_;refine LW.c0 (Dp an rfl (Z.rB d)) Z fun aA aj=>?_;refine LW.al aj fun ax aB ak=>?_;refine LW.st ak 0 fun aC am=>?_;refine gb h fun au ae h=>?_;refine LW.c0 (mc ae) am fun ao aa=>?_;refine gc h ?_ ?_ <;> intro _ h
 · refine go ?_;refine LW.st aa 1 fun ap ab=>?_;refine go ?_;cases h;exact And.intro trivial ⟨_,jB.one (ic.b ab 1 rfl kt rfl rfl),rfl,ab.pk []⟩
 refine go ?_;refine CW.draw (by kernel_rfl) ?_;have c:=aa.drew;refine gb h fun ac af h=>?_;refine jO 3 ?_;refine LW.cl (HX af rfl (c.rB U) rfl (c.rB V) rfl (c.rB d) rfl (c.rB W) rfl (c.rB X) rfl (c.rB Y)) ?_;rintro _ aq ⟨rfl,hs⟩;have ad:=c.add hs;refine jn ?_;refine go ?_;refine AW.u (i:=8) rfl (by kernel_rfl) rfl rfl (iD.p rfl) ?_;refine AW.u (i:=21) rfl (by kernel_rfl) rfl rfl (iD.build (vs:=[(0,vI (IntKind.i64.wrap ((IntKind.i64.wrap (f.bh+ac))+a.gE.bh))),(1,vI (IntKind.i64.wrap (f.ib+a.gE.ib))),(2,vI (IntKind.i64.wrap (f.ik+a.gE.ik)))]) (cs:=#[vI (IntKind.i64.wrap ((IntKind.i64.wrap (f.bh+ac))+a.gE.bh)),vI (IntKind.i64.wrap (f.ib+a.gE.ib)),vI (IntKind.i64.wrap (f.ik+a.gE.ik))]) rfl (by kernel_rfl)) ?_;refine jO 22 ?_;refine LW.st ad 1 fun ar z=>?_;refine jn ?_;refine go ?_;cases h;exact And.intro trivial ⟨_,jB.one (ic.b z 1 rfl kt rfl rfl),rfl,z.pk []⟩
theorem tM {w0 N aa ab H r} (h:ni N aa ab H=some r) {l A o} (G:A=aa.length) (b:rb w0 l o aa) :
    iq Tryz.prog 243 #[vS l A o,vI ab,.agg #[vI H.bh,vI H.ib,vI H.ik]] w0 (fun v w=>∃ J K,v=.tuple #[vS J r.1.length K,.bool r.2]∧St w0 [] w [sl J K r.1]):=by
 subst G;unfold ni at h;refine iq.fn Tryz.func243 fun e=>?_;have af:=St.start w0;refine go ?_;refine LW.bo af fun aG aH L=>?_;refine gb h fun I aj h=>?_;refine LW.cl (nO aj rfl (L.rB b)) ?_;rintro _ aI ⟨C,f,rfl,hs⟩;have M:=L.add hs;refine gb h fun aK ak h=>?_;refine LW.c0 (tb ak rfl (M.rB b)) M fun aJ O=>?_;refine gc h ?_ ?_ <;> intro _ h
 · refine go ?_;cases h;exact Rc tt tt ⟨C,f,rfl,O.pk [0]⟩
 refine gs ?_;obtain ⟨k,X,ae⟩:=ob h;refine CW.cut (fun e wb=>∃ (d:Nat),En e [(1,vI ab),(8,vS C I.length f),(9,.pointer (some ⟨d,0,none⟩)),(10,.bool k.2.2.2)]∧St w0 [] wb [sl C f I,bx d 43 [vI k.1,vI k.2.1,vI k.2.2.1]]) ?_ ?_
 · have h:=X;refine CW.draw (by kernel_rfl) ?_;have q:=O.drew;refine gb h fun aD Z h=>?_;obtain ⟨ar,au,am,rfl,a,an,ap,rfl,Y⟩:=b.idx Z;refine go ?_;refine AW.take (i:=4) rfl (by kernel_rfl) rfl rfl (iC.jH w0 kt rfl rfl (fun j u hu=>m5 (m:=3) Y 2 hu)) (q.same _ a.1 a.2) ?_;refine gb h fun aE x h=>?_;refine AW.all (rs:=[6,10]) (by kernel_rfl) (by simp) ⟨?_,?_,trivial⟩
   · refine ⟨_,rfl,?_⟩;refine LW.cl (zk x) ?_;rintro _ av ⟨rfl,hs⟩;have ah:=q.add hs;refine jn ?_;refine AW.u (i:=7) rfl (by kernel_rfl) rfl rfl (iD.p rfl) ?_;refine go ?_;refine jO 10 ?_;refine LW.al ah fun ac aw s=>?_;refine jN (.c (s.ce 2) (.c (s.same _ a.1 a.2) jZ)) ?_;refine jO 11 ?_;refine LW.st s 0 fun ax ai=>?_;refine jn ?_;refine go ?_;cases oi h;exact ⟨ac,ai.po [1,0]⟩
   refine ⟨_,rfl,?_⟩;refine LW.al q fun ad ay t=>?_;refine jN (.c (t.ce 2) (.c (t.same _ a.1 a.2) jZ)) ?_;refine jO 6 ?_;refine LW.cl (zk x) ?_;rintro _ az ⟨rfl,hs⟩;have U:=t.add hs;refine jn ?_;refine go ?_;refine jO 11 ?_;refine LW.st U 0 fun aA V=>?_;refine jn ?_;refine go ?_;cases oi h;exact ⟨ad,V.po [1,0]⟩
 rintro e aB ⟨d,hE,g⟩;obtain ⟨e,rfl⟩:=hE.out;have h:=ae;refine gc h ?_ ?_ <;> intro _ h
 · refine go ?_;cases h;exact Rc tt tt ⟨C,f,rfl,g.pk [0]⟩
 refine gb h fun aF y h=>?_;obtain ⟨n,B,hae,ao,aq⟩:=g.iJ (α:=ir) (i:=0) rfl y;subst hae;refine go ?_;refine gb h fun R z h=>?_;refine LW.se 2 g 0 y z (hM:=(kq (fun w cs F hF=>by obtain ⟨rfl,rfl⟩:=hF;exact ⟨rfl,rfl⟩))) fun aC W=>?_;refine go ?_;replace h:=oi h;subst h;exact Rc tt tt ⟨(some ⟨n,B,none⟩),f,(show (.tuple #[vS (some ⟨n,B,none⟩) I.length f,.bool true]:Value)=.tuple #[vS (some ⟨n,B,none⟩) R.length f,.bool true] by rw [show I.length=R.length from (iM (oi z))]),W.pk [0]⟩
theorem Co {w0 N az aM R r} (h:pT N az aM R=some r) {q K t} (O:K=az.length) (a:rb w0 q t az) :
    iq Tryz.prog 260 #[vS q K t,vI aM,.agg #[vI R.bh,vI R.ib,vI R.ik]] w0 (fun v w=>∃ V W,v=.tuple #[vS V r.1.length W,.bool r.2]∧St w0 [] w [sl V W r.1]):=by
 subst O;unfold pT at h;refine iq.fn Tryz.func260 fun e=>?_;have aF:=St.start w0;refine go ?_;refine LW.bo aF fun bt bu X=>?_;refine gb h fun U aJ h=>?_;refine LW.cl (nO aJ rfl (X.rB a)) ?_;rintro _ bv ⟨M,f,rfl,hs⟩;have Y:=X.add hs;refine gb h fun bz aK h=>?_;refine LW.c0 (uD aK rfl (Y.rB a)) Y fun bw z=>?_;refine gc h ?_ ?_ <;> intro _ h
 · refine go ?_;cases h;exact Rc tt tt ⟨M,f,rfl,z.pk [0]⟩
 refine gs ?_;obtain ⟨aL,aq,aC⟩:=ob h;refine CW.jn [0,1,5,8] [0,1] [(10,.bool aL)] z (h1:=?_) (h2:=?_)
 · have h:=aq;refine CW.draw (by kernel_rfl) ?_;have A:=z.drew;refine gb h fun bl B h=>?_;refine AW.all (rs:=[1,7]) (by kernel_rfl) (by simp) ⟨?_,?_,trivial⟩
   · refine ⟨_,rfl,?_⟩;refine LW.cl (vv B rfl (A.rB a)) ?_;rintro _ aX ⟨rfl,hs⟩;have Z:=A.add hs;refine jn ?_;have ⟨bm,C,h⟩:=ob h;refine AW.all (rs:=[3,7]) (by kernel_rfl) (by simp) ⟨?_,?_,trivial⟩
     · refine ⟨_,rfl,?_⟩;refine LW.cl (ml C) ?_;rintro _ aY ⟨rfl,hs⟩;have aG:=Z.add hs;refine jn ?_;refine AW.u (i:=4) rfl (by kernel_rfl) rfl rfl (iD.p rfl) ?_;refine go ?_;refine jO 7 ?_;refine LW.al aG fun aT aZ aH=>?_;refine jn ?_;refine jO 8 ?_;refine LW.st aH 0 fun a0 aI=>?_;refine jn ?_;refine go ?_;cases oi h;exact aI.po [1,2]
     refine ⟨_,rfl,?_⟩;refine LW.al Z fun aU a1 ac=>?_;refine jn ?_;refine jO 3 ?_;refine LW.cl (ml C) ?_;rintro _ a2 ⟨rfl,hs⟩;have ad:=ac.add hs;refine jn ?_;refine go ?_;refine jO 8 ?_;refine LW.st ad 0 fun a3 ae=>?_;refine jn ?_;refine go ?_;cases oi h;exact ae.po [1,2]
   refine ⟨_,rfl,?_⟩;refine LW.al A fun aV a5 x=>?_;refine jn ?_;refine jO 1 ?_;refine LW.cl (vv B rfl (x.rB a)) ?_;rintro _ a6 ⟨rfl,hs⟩;have af:=x.add hs;refine jn ?_;have ⟨bn,aw,h⟩:=ob h;refine jO 3 ?_;refine LW.cl (ml aw) ?_;rintro _ a7 ⟨rfl,hs⟩;have ah:=af.add hs;refine jn ?_;refine go ?_;refine jO 8 ?_;refine LW.st ah 0 fun a8 ai=>?_;refine jn ?_;refine go ?_;cases oi h;exact ai.po [1,2]
 intro e a9 g;have h:=aC;refine gc h ?_ ?_ <;> intro _ h
 · refine go ?_;cases h;exact Rc tt tt ⟨M,f,rfl,g.pk [0]⟩
 refine gb h fun bp ax h=>?_;refine LW.c0 (tb ax rfl (g.rB a)) g fun ba k=>?_;refine gs ?_;obtain ⟨aa,ar,aD⟩:=ob h;refine CW.jn [0,5,8] [0,1] [(1,vI aa)] k (h1:=?_) (h2:=?_)
 · have h:=ar;refine CW.fl [0,1,5,8,32] fun e=>?_;refine gc h ?_ ?_ <;> intro _ h
   · refine go ?_;cases oi h;exact k.po [0,1]
   refine go ?_;cases oi h;exact k.po [0,1]
 intro e bb aj;have h:=aD;refine gs ?_;obtain ⟨J,au,aE⟩:=ob h;refine CW.cut (fun e wb=>∃ (d:Nat),En e [(1,vI aa),(8,vS M U.length f),(11,.pointer (some ⟨d,0,none⟩))]∧St w0 [] wb [sl M f U,bx d 43 [vI J.1,vI J.2.1,vI J.2.2]]) ?_ ?_
 · have h:=au;refine CW.draw (by kernel_rfl) ?_;have l:=aj.drew;refine gb h fun bq ay h=>?_;obtain ⟨aS,aW,aN,rfl,b,aO,aQ,rfl,av⟩:=a.idx ay;refine go ?_;refine AW.take (i:=4) rfl (by kernel_rfl) rfl rfl (iC.jH w0 kt rfl rfl (fun j u hu=>m5 (m:=3) av 2 hu)) (l.same _ b.1 b.2) ?_;refine gb h fun br G h=>?_;refine AW.all (rs:=[6,10]) (by kernel_rfl) (by simp) ⟨?_,?_,trivial⟩
   · refine ⟨_,rfl,?_⟩;refine LW.cl (ml G) ?_;rintro _ bc ⟨rfl,hs⟩;have ak:=l.add hs;refine jn ?_;refine AW.u (i:=7) rfl (by kernel_rfl) rfl rfl (iD.p rfl) ?_;refine go ?_;refine jO 10 ?_;refine LW.al ak fun aA bd n=>?_;refine jN (.c (n.ce 2) (.c (n.same _ b.1 b.2) jZ)) ?_;refine jO 11 ?_;refine LW.st n 0 fun be am=>?_;refine jn ?_;refine go ?_;cases oi h;exact ⟨aA,am.po [1,0]⟩
   refine ⟨_,rfl,?_⟩;refine LW.al l fun aB bf o=>?_;refine jN (.c (o.ce 2) (.c (o.same _ b.1 b.2) jZ)) ?_;refine jO 6 ?_;refine LW.cl (ml G) ?_;rintro _ bg ⟨rfl,hs⟩;have an:=o.add hs;refine jn ?_;refine go ?_;refine jO 11 ?_;refine LW.st an 0 fun bi ao=>?_;refine jn ?_;refine go ?_;cases oi h;exact ⟨aB,ao.po [1,0]⟩
 rintro e bj ⟨d,hE,y⟩;obtain ⟨e,rfl⟩:=hE.out;have h:=aE;refine gb h fun bs H h=>?_;obtain ⟨s,L,hae,aP,aR⟩:=y.iJ (α:=ir) (i:=0) rfl H;subst hae;refine go ?_;refine gb h fun ab I h=>?_;refine LW.se 2 y 0 H I (hM:=(kq (fun w cs F hF=>by obtain ⟨rfl,rfl⟩:=hF;exact ⟨rfl,rfl⟩))) fun bk ap=>?_;refine go ?_;replace h:=oi h;subst h;exact Rc tt tt ⟨(some ⟨s,L,none⟩),f,(show (.tuple #[vS (some ⟨s,L,none⟩) U.length f,.bool true]:Value)=.tuple #[vS (some ⟨s,L,none⟩) ab.length f,.bool true] by rw [show U.length=ab.length from (iM (oi I))]),ap.pk [0]⟩
end Go.Kx
