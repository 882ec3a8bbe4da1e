/- Each call returns what the plain function says. Printed by drive.py. -/
import Derived.Test.YtikeaiogpfjdnaaGreatFa
import Derived.Test.YtikeaiogpfjdnaaGreatPu
import Derived.Test.YtikeaiogpfjdnaaGreatWa4
import Derived.Test.YtikeaiogpfjdnaaGreatWa5
import Derived.Test.YtikeaiogpfjdnaaGreatWa6
import Derived.Test.YtikeaiogpfjdnaaGreatWa7
import Derived.Test.YtikeaiogpfjdnaaGreatWa8
import Derived.Test.YtikeaiogpfjdnaaGreatWa18
import Derived.Test.YtikeaiogpfjdnaaGreatWa20
namespace Go.Kx
open Go Go.RowKit Go.Proofs
set_option maxRecDepth 10000
set_option maxHeartbeats 8000000
set_option linter.unusedVariables false
set_option linter.unusedSimpArgs false
theorem Kn {w0 N s t r} (h:Ah N s t=some r) {f p j} (u:p=s.levels.length) (y:rb w0 f j s.levels) {g q c} (x:q=t.levels.length) (z:rb w0 g c t.levels) :
    pT Tryz.prog 197 #[.agg #[vS f p j],.agg #[vS g q c]] w0 (fun v w=>∃ A B,v=vS A r.length B∧St w0 [] w [sl A B r]):=by
 subst u x;unfold Ah at h;refine pT.fn Tryz.func197 fun e=>?_;have Y:=St.start w0;refine go ?_;refine LW.bo Y fun aA aB Z=>?_;refine LW.bo Z fun C aC aa=>?_;refine go ?_;refine LW.sL (α:=Int) (vs:=[]) (cs:=#[]) (l:=([]:List Int)) rfl (by kernel_rfl) rfl rfl rfl (fun w=>rfl) aa rfl ?_;intro af ah aD ab hf;refine go ?_;obtain ⟨ar,J,X⟩:=ob h;refine CW.ie J 0 (fun k e wb=>∃ (a:Ad) (b:Nat),En e [(3,.pointer (some ⟨C,0,none⟩)),(5,vS a k.1.length b),(10,vS f s.levels.length j),(11,vI (s.levels.length:Int)),(12,vI k.2)]∧St w0 [] wb [sl a b k.1,bx C 26 [vS g t.levels.length c]]) ?_ ⟨af,ah,ab.po [0,1]⟩ ?_
 · intro k e aE o hM h;obtain ⟨a,b,hE,d⟩:=hM;obtain ⟨e,rfl⟩:=hE.out;refine gc h ?_ ?_ <;> intro _ h
   · refine gb h fun ax K h=>?_;obtain ⟨ap,aq,ai,rfl,m,ak,an,rfl,H⟩:=y.idx K;refine go ?_;refine LW.l (pZ.qk w0 qA rfl (H 0 _ rfl)) (d.same _ m.1 m.2) rfl ?_;refine gb h fun ay O h=>?_;obtain ⟨V,ae,aj,rfl,n,am,ao,rfl,I⟩:=z.idx O;refine go ?_;refine LW.l (pZ.qk w0 qA rfl (I 0 _ rfl)) (d.same _ n.1 n.2) rfl ?_;refine go ?_;refine CW.fl [3,5,6,10,11,12,23] fun e=>?_;refine gc h ?_ ?_ <;> intro _ h
     · refine gb h fun az R h=>?_;refine LW.uq (M:=[]) (L:=[sl a b k.1,bx C 26 [vS (some ⟨V,ae,none⟩) t.levels.length c]]) (vs:=#[vI k.2]) (i:=0) xv rfl (by kernel_rfl) rfl rfl R d rfl (fun w G hG=>by cases (show G=[] from hG);exact ⟨rfl,rfl⟩) rfl rfl ?_;intro au U W av ac hf;refine go ?_;cases oi h;exact ⟨rfl,⟨U,W,ac.po [0,1]⟩⟩
     refine go ?_;cases oi h;exact ⟨rfl,⟨a,b,d.po [0,1]⟩⟩
   refine go ?_;cases oi h;exact ⟨trivial,rfl,⟨a,b,d.po [0,1]⟩⟩
 rintro e aw ⟨a,b,hE,ad⟩;obtain ⟨e,rfl⟩:=hE.out;have h:=X;refine go ?_;cases h;exact Ra ⟨a,b,rfl,ad.pk [0]⟩
theorem ED {w0} {F:List Nat} {N d G q r} (h:vG N d G q=some r) {b o a} (p:o=d.length) (hS:St w0 F w0 [sl b a d]) :
    pT Tryz.prog 249 #[vS b o a,vI G,vI q] w0 (fun v w=>∃ s t,v=vS s r.length t∧St w0 F w [sl s t r]):=by
 subst p;unfold vG at h;refine pT.fn Tryz.func249 fun e=>?_;refine gb h fun V j h=>?_;have c:=(hS.rI 0 rfl).le;refine LW.u (pY.PD (α:=qy) (l:=d) Tryz.underlying33 yw rfl rfl rfl rfl j c) rfl ?_;refine gc h ?_ ?_ <;> intro x h
 · refine go ?_;cases h;exact Ra ⟨b,a,rfl,hS.pk [0]⟩
 refine go ?_;refine CW.draw (by kernel_rfl) ?_;have A:=hS.drew;refine gb h fun I m h=>?_;obtain ⟨R,U,y,z⟩:∃ (a':Ad) (c':Nat),a'=uc b a ((0:Int).toNat) (pX.sz qy)∧c'=a - (0:Int).toNat:=⟨_,_,rfl,rfl⟩;refine AW.u (i:=2) rfl (by kernel_rfl) rfl rfl (pY.sub (α:=qy) (l:=d) Tryz.underlying33 yw rfl BJ (BN rfl) m c y z) ?_;refine gb h fun J n h=>?_;obtain ⟨K,L,f,g⟩:∃ (a':Ad) (c':Nat),a'=uc b a ((q:Int).toNat) (pX.sz qy)∧c'=a - (q:Int).toNat:=⟨_,_,rfl,rfl⟩;refine AW.u (i:=5) rfl (by kernel_rfl) rfl rfl (pY.sub (α:=qy) (l:=d) Tryz.underlying33 yw rfl (BN rfl) BJ n c f g) ?_;refine jO 6 ?_;refine LW.Pu zE A (k:=0) rfl j x m n rfl y z rfl f g rfl ?_;intro M B;refine jN jZ ?_;refine go ?_;have H:=MT j x m n;refine LW.u (pY.Pp (α:=qy) Tryz.underlying33 yw rfl rfl rfl (by omega) (by omega) (by omega)) rfl ?_;refine LW.PN (l:=(I++J)) zE B (k:=0) rfl rfl (by omega) (by omega) ?_;intro O C;refine go ?_;cases h;exact Ra ⟨b,a,rfl,C.pk [0]⟩
theorem G7 {w0 N ad ae af r} (h:xt N ad ae af=some r) {g C m} (I:C=ad.length) (c:rb w0 g m ad) {j G n} (J:G=ae.levels.length) (d:rb w0 j n ae.levels) {k H p} (K:H=af.levels.length) (f:rb w0 k p af.levels) :
    pT Tryz.prog 164 #[vS g C m,.agg #[vS j G n],.agg #[vS k H p]] w0 (fun v w=>v=.bool r∧St w0 [] w []):=by
 subst I J K;unfold xt at h;refine pT.fn Tryz.func164 fun e=>?_;have ah:=St.start w0;refine go ?_;refine LW.bo ah fun aP aR ai=>?_;refine LW.bo ai fun aQ aS s=>?_;refine gs ?_;obtain ⟨av,am,aq⟩:=ob h;refine CW.jn [0,4,5] [0,1] [(21,.bool av)] s (h1:=?_) (h2:=?_)
 · have h:=am;refine gb h fun aU an h=>?_;refine LW.c0 (EZ an rfl (s.rB c)) s fun aT t=>?_;refine gB h ?_ ?_ <;> intro _ h
   · refine go ?_;cases oi h;exact t.po [0,1]
   refine gb h fun aK Z h=>?_;refine go ?_;refine LW.c0 (BG Z rfl (t.rB d)) t fun aE y=>?_;refine gB h ?_ ?_ <;> intro _ h
   · refine go ?_;cases oi h;exact y.po [0,1]
   refine gb h fun aL aa h=>?_;refine go ?_;refine LW.c0 (BG aa rfl (y.rB f)) y fun aF aj=>?_;refine go ?_;cases oi h;exact aj.po [0,1]
 intro e aG b;have h:=aq;refine gc h ?_ ?_ <;> intro _ h
 · refine go ?_;cases h;exact fi b
 refine gb h fun aM ab h=>?_;refine LW.cl (Kn ab rfl (b.rB d) rfl (b.rB f)) ?_;rintro _ aH ⟨ax,aA,rfl,hs⟩;have ak:=b.add hs;refine go ?_;obtain ⟨M,Y,L⟩:=ob h;refine CW.mono (CW.lx [0,24,25] [0] [] 0 (fun O=>[(26,vI O)]) (RT Tryz.prog Tryz.f164.results (fun u=>.bool u) w0 []) ak Y (hb:=?_)) ?_
 · intro O e ao o z h;refine gc h ?_ ?_ <;> intro _ h
   · refine gb h fun aN B h=>?_;obtain ⟨ay,aB,hae,ar,au⟩:=z.qi (α:=Int) (i:=0) rfl B;subst hae;refine go ?_;obtain ⟨aw,A,a⟩:=z.freeze (α:=Int) 0 rfl;obtain ⟨az,aC,ap,hae,V,_,_,W,X⟩:=A.r6.idx B;cases hae;obtain rfl:=W;refine LW.l (pZ.qk ao qA rfl (X 0 _ rfl)) (a.zC 0 rfl V) rfl ?_;refine gb h fun aO ac h=>?_;refine LW.c0 (uL ac rfl (a.rB c)) a fun aI q=>?_;refine go ?_;refine CW.fl [0,24,25,26,33] fun e=>?_;refine gc h ?_ ?_ <;> intro _ h
     · refine go ?_;cases oi h;exact ⟨trivial,rfl,_,rfl,rx ⟨rfl,q.pk []⟩⟩
     refine go ?_;have R:=q.qK (α:=Int) 0 rfl A;cases oi h;exact ⟨rfl,(R.po [0])⟩
   refine go ?_;cases oi h;exact ⟨trivial,rfl,⟨trivial,z.pk [0]⟩⟩
 intro x e aJ hM;rcases M with M | aD
 · obtain ⟨rfl,hM⟩:=hM;obtain ⟨hE,U⟩:=hM;obtain ⟨e,rfl⟩:=hE.out;rw [show e=qv e [] from rfl];have h:=L;refine go ?_;cases h;exact fi U
 obtain ⟨rfl,u,rfl,hM⟩:=hM;cases L;exact And.intro trivial hM
theorem C6 {w0 N l m n r} (h:vO N l m n=some r) :
    pT Tryz.prog 289 #[vI l,vI m,vI n] w0 (fun v w=>v=vI r∧St w0 [] w []):=by
 unfold vO at h;refine pT.fn Tryz.func289 fun e=>?_;have a:=St.start w0;refine gs ?_;refine CW.region ?_;refine gs ?_;obtain ⟨o,g,h2⟩:=ob h;refine CW.jn [0,1,2] [] [(19,.bool o)] a (h1:=?_) (h2:=?_)
 · have h:=g;refine gb h fun u i h=>?_;refine LW.c0 (Cn i) a fun s b=>?_;refine gB h ?_ ?_ <;> intro _ h
   · refine go ?_;cases oi h;exact b.po []
   refine gb h fun x j h=>?_;refine go ?_;refine LW.c0 (xL j) b fun t c=>?_;refine gB h ?_ ?_ <;> intro _ h
   · refine go ?_;cases oi h;exact c.po []
   refine gb h fun y k h=>?_;refine go ?_;refine LW.c0 (qN k) c fun p f=>?_;refine go ?_;cases oi h;exact f.po []
 intro e q d;have h:=h2;refine gc h ?_ ?_ <;> intro _ h
 · refine go ?_;cases h;exact fi d
 refine go ?_;cases h;exact fi d
theorem FL {w0 N o B f r} (h:wt N o B f=some r) {i l j} (m:l=o.parts.length) (n:rb w0 i j o.parts) :
    pT Tryz.prog 113 #[.agg #[vI o.now,vS i l j],vI B,.agg #[vI f.kind,vI f.a,vI f.b,vI f.c,vI f.d,vI f.e]] w0 (fun v w=>v=vI r∧St w0 [] w []):=by
 subst m;unfold wt at h;refine pT.fn Tryz.func113 fun e=>?_;have u:=St.start w0;refine go ?_;refine LW.bo u fun U W x=>?_;refine LW.bo x fun V X g=>?_;refine gs ?_;refine CW.region ?_;refine gs ?_;refine CW.region ?_;refine gs ?_;obtain ⟨H,z,C⟩:=ob h;refine CW.jn [3] [1] [(7,vI H)] g (h1:=?_) (h2:=?_)
 · have h:=z;refine CW.block ?_;refine gs ?_;refine CW.region ?_;refine gs ?_;obtain ⟨I,A,G⟩:=ob h;refine CW.jn [3,5,7,10] [0,1] [(11,.bool I)] g (h1:=?_) (h2:=?_)
   · have h:=A;refine gc h ?_ ?_ <;> intro _ h
     · refine go ?_;cases oi h;exact g.po [0,1]
     refine go ?_;cases oi h;exact g.po [0,1]
   intro e J k;have h:=G;refine gc h ?_ ?_ <;> intro _ h
   · refine gb h fun O s h=>?_;refine LW.c0 (zL s) k fun K y=>?_;refine go ?_;cases oi h;exact y.po [1]
   refine gc h ?_ ?_ <;> intro _ h
   · refine go ?_;cases oi h;exact k.po [1]
   refine go ?_;cases oi h;exact k.po [1]
 intro e L p;have h:=C;refine gb h fun R t h=>?_;refine LW.c0 (Dm t rfl (p.rB n)) p fun M q=>?_;refine gc h ?_ ?_ <;> intro _ h
 · refine go ?_;cases h;exact fi q
 refine go ?_;cases h;exact fi q
theorem BD {w0 N q M O R r} (h:vw N q M O R=some r) {f o g} (p:o=q.parts.length) (b:rb w0 f g q.parts) :
    pT Tryz.prog 185 #[.agg #[vI q.now,vS f o g],vI M,vI O,vI R] w0 (fun v w=>v=.bool r∧St w0 [] w []):=by
 subst p;unfold vw at h;refine pT.fn Tryz.func185 fun e=>?_;have J:=St.start w0;refine go ?_;refine LW.bo J fun bf bi K=>?_;refine go ?_;refine CW.draw (by kernel_rfl) ?_;have a:=K.drew;refine gb h fun bj L h=>?_;obtain ⟨be,bg,a5,rfl,k,a6,a7,⟨ar,aN,au,aO,av,aP,aw,aQ,ax,aR,ay,aS,rfl,aa,A,ab,ac,ad,ae⟩,x⟩:=b.idx L;refine go ?_;refine AW.take (i:=5) rfl (by kernel_rfl) rfl rfl (pZ.qk w0 tw rfl (x 1 _ rfl)) (a.same _ k.1 k.2) ?_;refine gb h fun bb G h=>?_;obtain ⟨aL,a8,U,hae,l,W,Y,s,y⟩:=b.idx G;cases hae;obtain ⟨az,aT,aA,aU,aB,aV,aC,aW,aD,aX,aE,aY,rfl,B,af,ah,ai,aj,ak⟩:=s;refine go ?_;refine AW.take (i:=11) rfl (by kernel_rfl) rfl rfl (pZ.rh w0 Bb rfl rfl (fun j u hu=>sT (m:=1) y 0 hu)) (a.same _ l.1 l.2) ?_;refine gb h fun bc H h=>?_;obtain ⟨aM,a9,V,hae,n,X,Z,t,z⟩:=b.idx H;cases hae;obtain ⟨aF,aZ,aG,a0,aH,a1,aI,a2,aJ,a3,aK,a4,rfl,C,am,an,ao,ap,aq⟩:=t;refine go ?_;refine AW.take (i:=17) rfl (by kernel_rfl) rfl rfl (pZ.rh w0 Bb rfl rfl (fun j u hu=>sT (m:=1) z 0 hu)) (a.same _ n.1 n.2) ?_;have ⟨bd,I,h⟩:=ob h;refine jO 18 ?_;refine LW.cl (G7 I rfl (a.rB A) rfl (a.rB B) rfl (a.rB C)) ?_;rintro _ ba ⟨rfl,hs⟩;have d:=a.add hs;refine jN (jW (.c (d.ce 0) (jW (.c (d.ce 0) (jW (.c (d.ce 0) jZ)))))) ?_;refine go ?_;cases h;exact fi d
theorem Em {w0 N d f r} (h:zj N d f=some r) :
    pT Tryz.prog 312 #[.agg #[vI d.bh,vI d.pU,vI d.qc],.agg #[vI f.bh,vI f.pU,vI f.qc]] w0 (fun v w=>v=.tuple #[.agg #[vI r.1.bh,vI r.1.pU,vI r.1.qc],.bool r.2]∧St w0 [] w []):=by
 unfold zj at h;refine pT.fn Tryz.func312 fun e=>?_;have q:=St.start w0;refine go ?_;refine LW.bo q fun W Z s=>?_;refine LW.bo s fun X aa t=>?_;refine LW.al t fun Y ab g=>?_;refine gs ?_;obtain ⟨B,y,A⟩:=ob h;refine CW.jn [2,3,4] [0,1,2] [(20,.bool B)] g (h1:=?_) (h2:=?_)
 · have h:=y;refine gb h fun ac z h=>?_;refine LW.c0 (s4 z) g fun C i=>?_;refine gB h ?_ ?_ <;> intro _ h
   · refine go ?_;cases oi h;exact i.po [0,1,2]
   refine gb h fun O m h=>?_;refine go ?_;refine LW.c0 (s4 m) i fun G j=>?_;refine gB h ?_ ?_ <;> intro _ h
   · refine go ?_;cases oi h;exact j.po [0,1,2]
   refine gb h fun R n h=>?_;refine go ?_;refine LW.c0 (vb n) j fun H u=>?_;have ⟨U,o,h⟩:=ob h;refine go ?_;refine LW.c0 (s4 o) u fun I x=>?_;refine go ?_;cases oi h;exact x.po [0,1,2]
 intro e J k;have h:=A;refine gc h ?_ ?_ <;> intro _ h
 · refine go ?_;refine LW.st k 0 fun K a=>?_;refine go ?_;cases h;exact Rc (pP.b a 0 rfl r9 rfl rfl) tt ⟨rfl,a.pk []⟩
 refine gb h fun V p h=>?_;refine LW.c0 (vb p) k fun L l=>?_;refine LW.st l 0 fun M c=>?_;refine go ?_;cases h;exact Rc (pP.b c 0 rfl r9 rfl rfl) tt ⟨rfl,c.pk []⟩
theorem FM {w0} {F:List Nat} {N R an aV f r} (h:wG N R an aV f=some r) {ar:Nat} {U k} (hS:St w0 F w0 [bx ar 77 [vI R.now,vS U R.parts.length k],sl U k R.parts]) :
    pT Tryz.prog 116 #[.pointer (some ⟨ar,0,none⟩),vI an,vI aV,.agg #[vI f.kind,vI f.a,vI f.b,vI f.c,vI f.d,vI f.e]] w0 (fun v w=>∃ B L,v=.tuple #[vI r.1,vI r.2.1]∧St w0 F w [bx ar 77 [vI r.2.2.now,vS B r.2.2.parts.length L],sl B L r.2.2.parts]):=by
 unfold wG at h;refine pT.fn Tryz.func116 fun e=>?_;refine go ?_;refine LW.bo hS fun b0 b2 aP=>?_;refine go ?_;refine LW.u (pY.quo rfl rfl (by decide)) rfl ?_;refine go ?_;refine LW.u (pY.rem rfl rfl (by decide)) rfl ?_;refine go ?_;refine LW.u (pY.build (vs:=[(0,vI f.a),(1,vI f.b),(2,vI f.c),(3,vI (IntKind.i64.wrap (Int.tdiv f.d 10))),(4,vI (Int.tmod f.d 10)),(5,vI f.e)]) (cs:=#[vI f.a,vI f.b,vI f.c,vI (IntKind.i64.wrap (Int.tdiv f.d 10)),vI (Int.tmod f.d 10),vI f.e]) rfl (by kernel_rfl)) rfl ?_;refine LW.al aP fun b1 b3 aQ=>?_;refine LW.st aQ 0 fun b4 M=>?_;refine go ?_;refine LW.u (pY.nc rfl) rfl ?_;refine go ?_;have ⟨g,ai,h⟩:=ob h;obtain ⟨W,o,hae,bM,bN⟩:=M.qi (α:=cd) (i:=3) rfl ai;subst hae;refine gs ?_;refine CW.block ?_;refine gs ?_;obtain ⟨aT,aF,aO⟩:=ob h;refine CW.jn [0,1,2,7,10,11] [0,1,2,3] [(33,.bool aT)] M (h1:=?_) (h2:=?_)
 · have h:=aF;refine gB h ?_ ?_ <;> intro _ h
   · refine go ?_;cases oi h;exact M.po [0,1,2,3]
   refine gb h fun bW aK h=>?_;refine go ?_;refine LW.c0 (FF aK) M fun bR aR=>?_;refine go ?_;cases oi h;exact aR.po [0,1,2,3]
 intro e bS ae;have h:=aO;refine gc h ?_ ?_ <;> intro _ h
 · refine go ?_;replace h:=oi h;subst h;exact Rc tt tt ⟨(some ⟨W,o,none⟩),k,rfl,ae.pk [2,3]⟩
 refine go ?_;refine LW.u (pY.nc rfl) rfl ?_;refine gb h fun bX aL h=>?_;refine LW.c0 (BD aL rfl (ae.rI 3 rfl)) ae fun ak aq=>?_;refine gc h ?_ ?_ <;> intro _ h
 · refine go ?_;replace h:=oi h;subst h;exact Rc tt tt ⟨(some ⟨W,o,none⟩),k,rfl,aq.pk [2,3]⟩
 refine go ?_;refine CW.draw (by kernel_rfl) ?_;have aS:=aq.drew;refine go ?_;obtain ⟨bi,q,af⟩:=aS.freeze (α:=cd) 3 rfl;obtain ⟨bw,bO,a5,hae,n,_,_,aC,p⟩:=q.r6.idx ai;cases hae;obtain ⟨t,C,x,H,y,I,z,J,A,K,V,X,rfl,a9,ba,aJ,bb,bc,bd⟩:=aC;refine AW.take (i:=3) rfl (by kernel_rfl) rfl rfl (pZ.qk ak.drew Ha rfl (p 2 _ rfl)) (af.zC 3 rfl n) ?_;refine gb h fun bY aM h=>?_;refine jO 6 ?_;refine LW.cl (vZ aM rfl (af.rZ 3 rfl aJ)) ?_;rintro _ bT ⟨rfl,hs⟩;have O:=af.add hs;refine jN (jW (jW jZ)) ?_;refine gc h ?_ ?_ <;> intro _ h
 · refine go ?_;replace h:=oi h;subst h;have av:=O.qK (α:=cd) 3 rfl q;exact Rc tt tt ⟨(some ⟨W,o,none⟩),k,rfl,av.pk [2,3]⟩
 refine go ?_;refine LW.u (pY.nc rfl) rfl ?_;refine go ?_;refine LW.l (pZ.qk ak.drew zU rfl (p 8 _ rfl)) (O.zC 3 rfl n) rfl ?_;refine go ?_;refine CW.fl [0,10,11,60] fun e=>?_;refine gc h ?_ ?_ <;> intro _ h
 · refine go ?_;replace h:=oi h;subst h;have aw:=O.qK (α:=cd) 3 rfl q;exact Rc tt tt ⟨(some ⟨W,o,none⟩),k,rfl,aw.pk [2,3]⟩
 refine go ?_;refine CW.draw (by kernel_rfl) ?_;have Y:=O.drew;refine go ?_;refine AW.take (i:=4) rfl (by kernel_rfl) rfl rfl (pZ.qk ak.drew zU rfl (p 8 _ rfl)) (Y.zC 3 rfl n) ?_;refine go ?_;refine jO 6 ?_;refine LW.sL (α:=qy) (vs:=[(0,.agg #[vI f.a,vI f.b,vI f.c,vI (IntKind.i64.wrap (Int.tdiv f.d 10)),vI (Int.tmod f.d 10),vI f.e])]) (cs:=#[vI f.a,vI f.b,vI f.c,vI (IntKind.i64.wrap (Int.tdiv f.d 10)),vI (Int.tmod f.d 10),vI f.e]) (l:=([qy.mk f.a f.b f.c (IntKind.i64.wrap (Int.tdiv f.d 10)) (Int.tmod f.d 10) f.e]:List qy)) rfl (by kernel_rfl) rfl rfl rfl (fun w=>⟨[vI f.a,vI f.b,vI f.c,vI (IntKind.i64.wrap (Int.tdiv f.d 10)),vI (Int.tmod f.d 10),vI f.e],[],[],[],rfl,rfl,⟨rfl,rfl⟩,rfl⟩) Y rfl ?_;intro bk bB bU s hf;refine jN (jW (.c (s.zC 4 rfl n) jZ)) ?_;have aH:=fun (j:Nat) (u:Value) (hu:((qP t C x H y I z J A K V X g):List Value)[j]?=some u)=>(World.cell?_of_block (s.zC 4 rfl n)).trans (p j u hu);have ax:=s.qK (α:=cd) 4 rfl q;obtain ⟨aZ,aI,aE⟩:=ax.focus (α:=cd) (cs:=[vS t g.label.levels.length C,vS x g.own.length H,vS y g.tree.length I,vS z g.heap.ag.length J,vI g.heap.gc.phase,vI g.heap.gc.pos,vI g.heap.gc.round,vS A g.heap.gc.j8.length K,vS V g.pN.length X,vI g.next,vI g.want,vI g.dz.bh,vI g.dz.pU,vI g.dz.qc,vI g.pV,vI g.lost]) 4 rfl ai rfl aH;obtain ⟨bl,bC,bm,bD,bn,bE,bp,bF,bq,bG,br,bI,aB,au⟩:=aI;cases aB;have Z:=aE [sl t C g.label.levels,sl x H g.own,sl y I g.tree,sl z J g.heap.ag,sl A K g.heap.gc.j8,sl V X g.pN] au;have ⟨am,aN,h⟩:=ob h;refine jO 7 ?_;refine LW.rO (l:=g.pN) (m:=([qy.mk f.a f.b f.c (IntKind.i64.wrap (Int.tdiv f.d 10)) (Int.tmod f.d 10) f.e]:List qy)) zE rfl rfl (Z.rI 6 rfl) aN Z (i:=5) rfl rfl ?_;intro ao ap bV aa hf;refine jN (.c (aa.ce 7) (jW jZ)) ?_;refine go ?_;refine jO 10 ?_;refine LW.xQ (α:=cd) (vs:=[vS ao am.length ap]) aa 10 rfl zU rfl (by show _=o+(an:Int).toNat * 16+8;omega) rfl rfl rfl rfl ?_;intro aU ay hf;refine jN (jW (jW jZ)) ?_;refine go ?_;have az:=ay.uV (cd.mk g.label g.own g.tree g.heap am g.next g.want g.dz g.pV g.lost) [0,1,2,3,4,5,6,7,8,9,10] 6 4 rfl rfl (fun w G hG=>⟨t,C,x,H,y,I,z,J,A,K,ao,ap,rfl,hG⟩);refine CW.draw (by kernel_rfl) ?_;have ab:=az.drew;refine gb h fun bZ aj h=>?_;obtain ⟨bz,bP,hae,a7,a8⟩:=ab.qi (α:=cd) (i:=4) rfl aj;cases hae;obtain ⟨bj,ah,ac⟩:=ab.freeze (α:=cd) 4 rfl
 obtain ⟨bA,bQ,a6,hae,aA,_,_,aD,aG⟩:=ah.r6.idx aj;cases hae;obtain ⟨bs,bJ,bt,bK,bu,bL,bv,a2,a0,a3,a1,a4,rfl,be,bf,bg,aW,aX,aY⟩:=aD;refine AW.take (i:=3) rfl (by kernel_rfl) rfl rfl (pZ.qk aU.drew zU rfl (aG 8 _ rfl)) (ac.zC 4 rfl aA) ?_;refine go ?_;replace h:=oi h;subst h;have ad:=ac.qK (α:=cd) 4 rfl ah;rw [show R.parts.length=(R.parts.set (an:Int).toNat (cd.mk g.label g.own g.tree g.heap am g.next g.want g.dz g.pV g.lost)).length from (pO rfl)] at ad;exact Rc tt tt ⟨(some ⟨W,o,none⟩),k,rfl,ad.pk [3,4]⟩
theorem Ge {w0 N aZ a r} (h:xl N aZ a=some r) {V ay aa} (aA:ay=aZ.length) (m:rb w0 V aa aZ) {b O f} (ao:O=a.pS.length) (ar:rb w0 b f a.pS) {c R g} (ap:R=a.data.length) (au:rb w0 c g a.data) {d U k} (aq:U=a.queue.length) (av:rb w0 d k a.queue) :
    pT Tryz.prog 287 #[vS V ay aa,.agg #[vI a.gen,vI a.kind,vI a.box,vI a.res,vI a.qp,vI a.bh,vI a.wait,vI a.qo,vI a.qq,.bool a.mark,vS b O f,vS c R g,vS d U k]] w0 (fun v w=>∃ y C,v=.tuple #[vS y r.1.length C,vI r.2]∧St w0 [] w [sl y C r.1]):=by
 subst aA ao ap aq;unfold xl at h;refine pT.fn Tryz.func287 fun e=>?_;have a2:=St.start w0;refine go ?_;refine LW.bo a2 fun a0 bR aJ=>?_;refine gb h fun a9 a6 h=>?_;refine LW.cl (yy a6 rfl (aJ.rB m)) ?_;rintro _ bS ⟨W,ab,rfl,hs⟩;have aj:=aJ.add hs;refine gs ?_;obtain ⟨bm,a5,bd⟩:=ob h;refine CW.jn [0,3,6] [0,1] [(19,.bool bm)] aj (h1:=?_) (h2:=?_)
 · have h:=a5;refine gb h fun bT a7 h=>?_;refine LW.c0 (zX a7 rfl (aj.rB m)) aj fun bC aK=>?_;refine gB h ?_ ?_ <;> intro _ h
   · refine go ?_;cases oi h;exact aK.po [0,1]
   refine go ?_;cases oi h;exact aK.po [0,1]
 intro e bD aL;have h:=bd;refine gc h ?_ ?_ <;> intro _ h
 · refine go ?_;cases h;exact Rc tt tt ⟨W,ab,rfl,aL.pk [0]⟩
 refine go ?_;obtain ⟨aM,aS,aI⟩:=ob h;refine CW.mono (CW.lx [0,3,6,21,22] [0,1] [6] 0 (fun H=>[(23,vI H)]) (fun r x e wb=>x=.ret∧∃ u,u=r∧∃ v,rG Tryz.prog Tryz.f287.results e wb v∧∃ y C,v=.tuple #[vS y u.1.length C,vI u.2]∧St w0 [] wb [sl y C u.1]) aL aS (hb:=?_)) ?_
 · intro H e bE o ak h;refine gc h ?_ ?_ <;> intro _ h
   · refine gb h fun aN aV h=>?_;obtain ⟨bv,bz,bc,rfl,an,be,bg,⟨aB,aE,aC,aF,aD,aG,rfl,bj,bk,bl⟩,aR⟩:=m.idx aV;refine go ?_;refine LW.l (pZ.rh w0 um rfl rfl (fun j u hu=>aR j u hu)) (ak.same _ an.1 an.2) rfl ?_;refine LW.al ak fun aH bF a3=>?_;refine go ?_;refine LW.st a3 0 fun bG K=>?_;refine gs ?_;obtain ⟨a8,aQ,a1⟩:=ob h;refine CW.jn [0,3,6,7,8,21,22,23] [0,1,2] [(39,.bool a8)] K (h1:=?_) (h2:=?_)
     · have h:=aQ;refine gB h ?_ ?_ <;> intro _ h
       · refine go ?_;cases oi h;exact K.po [0,1,2]
       refine go ?_;refine bH h ?_ ?_ <;> intro _ h
       · refine go ?_;cases oi h;exact K.po [0,1,2]
       refine go ?_;cases oi h;exact K.po [0,1,2]
     intro e bI am;have h:=a1;refine go ?_;refine CW.fl [0,3,6,7,8,21,22,23,39] fun e=>?_;refine gc h ?_ ?_ <;> intro _ h
     · refine go ?_;cases oi h;exact ⟨rfl,(am.po [1,2])⟩
     refine gb h fun q aW h=>?_;refine LW.cl (yy aW rfl (am.rB m)) ?_;rintro _ bJ ⟨bu,B,rfl,hs⟩;have s:=am.add hs;refine gb h fun n aX h=>?_;refine LW.cl (Dl aX rfl (s.rB ar) rfl (s.rB au) rfl (s.rB av)) ?_;rintro _ bK ⟨X,ac,Y,ad,Z,ae,rfl,hs⟩;have af:=s.add hs;have ⟨ba,aw,h⟩:=ob h;obtain ⟨A,p,hae,bf,bi⟩:=af.qi (α:=eg) (i:=3) rfl aw;subst hae;refine go ?_;have aO:=af.pk (M:=[sl X ac n.pS,sl Y ad n.data,sl Z ae n.queue]++[sl (some ⟨A,p,none⟩) B q,bx aH 44 (qO aB aE aC aF aD aG aN),sl W ab a9,bx a0 44 (qO b f c g d k a)]) [0,1,2,3,4,5,6];have ⟨bb,t,h⟩:=ob h;refine LW.GY (M:=[sl X ac n.pS,sl Y ad n.data,sl Z ae n.queue]) (L:=[sl (some ⟨A,p,none⟩) B q,bx aH 44 (qO aB aE aC aF aD aG aN),sl W ab a9,bx a0 44 (qO b f c g d k a)]) (z:=ba) (z':=n) (o:=0) aO (i:=0) rfl aw um rfl (by show _=p+(H:Int).toNat * 13+0;omega) rfl rfl rfl rfl (whole (fun w G hG=>⟨X,ac,Y,ad,Z,ae,rfl,hG⟩)) ?_;intro bL I hf;rw [oi t] at I;refine gb h fun bP ax h=>?_;obtain ⟨bw,bA,hae,aT,aU⟩:=I.qi (α:=eg) (i:=0) rfl ax;cases hae;(try refine LW.u (pY.ix Tryz.underlying28 vF rfl rfl aT (by rw [show q.length=bb.length from (pO (oi t))];exact aU)) rfl ?_);refine gb h fun az J h=>?_;refine LW.se 0 I 0 ax J (hM:=(rE (fun w cs F hF=>by obtain ⟨bn,br,bp,bs,bq,bt,rfl,hH⟩:=hF;exact ⟨bn,br,bp,bs,bq,bt,rfl,hH⟩))) fun bM ah=>?_;refine gb h fun bQ aY h=>?_
     refine LW.c0 (zX aY (show q.length=az.length from ((pO (oi t)).trans (pO (oi J)))) (ah.rI 0 rfl)) ah fun bN ai=>?_;refine go ?_;refine CW.fl [6,7,9,56] fun e=>?_;refine gc h ?_ ?_ <;> intro _ h
     · refine go ?_;cases oi h;exact ⟨trivial,rfl,_,rfl,ry tt tt ⟨W,ab,rfl,ai.pk [2]⟩⟩
     refine go ?_;replace h:=oi h;subst h;exact ⟨trivial,rfl,_,rfl,ry tt tt ⟨(some ⟨A,p,none⟩),B,(show (.tuple #[vS (some ⟨A,p,none⟩) q.length B,vI H]:Value)=.tuple #[vS (some ⟨A,p,none⟩) az.length B,vI H] by rw [show q.length=az.length from ((pO (oi t)).trans (pO (oi J)))]),ai.pk [0]⟩⟩
   refine go ?_;cases oi h;exact ⟨trivial,rfl,(ak.po [0,1])⟩
 intro x e bO hM;rcases aM with aM | bB
 · obtain ⟨rfl,hM⟩:=hM;obtain ⟨hE,aP⟩:=hM;obtain ⟨e,rfl⟩:=hE.out;have h:=aI;refine go ?_;cases h;exact Rc tt tt ⟨W,ab,rfl,aP.pk [0]⟩
 obtain ⟨rfl,u,rfl,hM⟩:=hM;cases aI;exact And.intro trivial hM
theorem GR {w0 N az aA r} (h:xg N az aA=some r) {y V z} (W:V=az.length) (a:rb w0 y z az) :
    pT Tryz.prog 293 #[vS y V z,vI aA] w0 (fun v w=>∃ Y Z,v=.tuple #[vS Y r.1.length Z,.bool r.2]∧St w0 [] w [sl Y Z r.1]):=by
 subst W;unfold xg at h;refine pT.fn Tryz.func293 fun e=>?_;have aa:=St.start w0;refine gb h fun X aH h=>?_;refine LW.cl (vB aH rfl (aa.rB a)) ?_;rintro _ bv ⟨aN,n,rfl,hs⟩;have B:=aa.add hs;refine gs ?_;obtain ⟨a0,aG,aR⟩:=ob h;refine CW.jn [0,1,6] [0] [(23,.bool a0)] B (h1:=?_) (h2:=?_)
 · have h:=aG;refine gb h fun bz aI h=>?_;refine LW.c0 (xK aI rfl (B.rB a)) B fun bw x=>?_;refine gB h ?_ ?_ <;> intro _ h
   · refine go ?_;cases oi h;exact x.po [0]
   refine gB h ?_ ?_ <;> intro _ h
   · refine go ?_;cases oi h;exact x.po [0]
   refine gb h fun bp aw h=>?_;refine go ?_;refine LW.c0 (vZ aw rfl (x.rB a)) x fun bi aD=>?_;refine go ?_;cases oi h;exact aD.po [0]
 intro e aK C;have h:=aR;refine gc h ?_ ?_ <;> intro _ h
 · refine go ?_;cases h;exact Rc tt tt ⟨aN,n,rfl,C.pk [0]⟩
 refine gb h fun aL ax h=>?_;obtain ⟨a4,ba,aO,rfl,k,aS,aW,rfl,I⟩:=a.idx ax;refine go ?_;refine LW.l (pZ.qk w0 qA rfl (I 1 _ rfl)) (C.same _ k.1 k.2) rfl ?_;refine go ?_;refine CW.draw (by kernel_rfl) ?_;have ab:=C.drew;refine gb h fun bq s h=>?_;obtain ⟨b,c,hae,aT,aX⟩:=ab.qi (α:=pW) (i:=0) rfl s;subst hae;refine go ?_;obtain ⟨a1,K,G⟩:=ab.freeze (α:=pW) 0 rfl;obtain ⟨a5,bb,aP,hae,am,_,_,an,aq⟩:=K.r6.idx s;cases hae;obtain rfl:=an;refine AW.take (i:=6) rfl (by kernel_rfl) rfl rfl (pZ.rh aK.drew r9 rfl rfl (fun j u hu=>sT (m:=3) aq 2 hu)) (G.zC 0 rfl am) ?_;refine go ?_;refine AW.take (i:=11) rfl (by kernel_rfl) rfl rfl (pZ.rh w0 r9 rfl rfl (fun j u hu=>sT (m:=3) I 2 hu)) (G.same _ k.1 k.2) ?_;have ⟨br,ay,h⟩:=ob h;refine jO 12 ?_;refine LW.cl (vb ay) ?_;rintro _ bj ⟨rfl,hs⟩;have aE:=G.add hs;refine jN (jW (jW jZ)) ?_;refine go ?_;have aF:=aE.qK (α:=pW) 0 rfl K;have ⟨aM,t,h⟩:=ob h;refine jO 15 ?_;refine LW.se 2 aF 0 s t (hM:=(rE (fun w cs F hF=>by obtain ⟨rfl,rfl⟩:=hF;exact ⟨rfl,rfl⟩))) fun bk A=>?_;refine jN (jW (jW jZ)) ?_;refine go ?_;refine LW.u (pY.build (vs:=[]) (cs:=#[.bool false,vI 0,vI 0,vI 0,vI 0]) rfl (by kernel_rfl)) rfl ?_;have ⟨bs,L,h⟩:=ob h;obtain ⟨a6,bc,hae,au,av⟩:=A.qi (α:=pW) (i:=0) rfl L;cases hae;(try refine LW.u (pY.ix Tryz.underlying27 DT rfl rfl au (by rw [show X.length=aM.length from (pO (oi t))];exact av)) rfl ?_);have ⟨ad,M,h⟩:=ob h;refine LW.se 0 A 0 L M (hM:=Am) fun bl af=>?_;refine go ?_;obtain ⟨bg,ar,aC⟩:=ob h;refine CW.ie ar 0 (fun d e wb=>En e [(1,vI aA),(6,vS (some ⟨b,c,none⟩) d.1.length n),(7,vI aL.parent),(50,vI (X.length:Int)),(51,vI d.2)]∧St w0 [] wb [sl (some ⟨b,c,none⟩) n d.1]) ?_ ⟨⟨rfl,(show (vS (some ⟨b,c,none⟩) X.length n:Value)=vS (some ⟨b,c,none⟩) ad.length n by rw [show X.length=ad.length from ((pO (oi t)).trans (pO (oi M)))]),rfl,rfl,rfl,trivial⟩,af.pk [0]⟩ ?_
 · intro d e ac o hM h;obtain ⟨hE,f⟩:=hM;obtain ⟨e,rfl⟩:=hE.out;refine go ?_;refine CW.fl [1,6,7,50,51,52] fun e=>?_;refine gc h ?_ ?_ <;> intro _ h
   · refine gs ?_;refine CW.block ?_;refine gs ?_;refine CW.region ?_;refine gs ?_;obtain ⟨aJ,ap,aB⟩:=ob h;refine CW.jn [1,6,7,8,50,51] [0] [(67,.bool aJ)] f (h1:=?_) (h2:=?_)
     · have h:=ap;refine gb h fun bt O h=>?_;obtain ⟨a7,bd,hae,aU,aY⟩:=f.qi (α:=pW) (i:=0) rfl O;cases hae;refine go ?_;obtain ⟨a3,q,g⟩:=f.freeze (α:=pW) 0 rfl;obtain ⟨a8,be,aQ,hae,H,_,_,ao,J⟩:=q.r6.idx O;cases hae;obtain rfl:=ao;refine LW.l (pZ.qk ac wE rfl (J 0 _ rfl)) (g.zC 0 rfl H) rfl ?_;refine gB h ?_ ?_ <;> intro _ h
       · refine go ?_;refine LW.l (pZ.qk ac qA rfl (J 1 _ rfl)) (g.zC 0 rfl H) rfl ?_;refine go ?_;have ah:=g.qK (α:=pW) 0 rfl q;cases oi h;exact ah.po [0]
       refine go ?_;have ai:=g.qK (α:=pW) 0 rfl q;cases oi h;exact ai.po [0]
     intro e bm p;have h:=aB;refine gc h ?_ ?_ <;> intro _ h
     · refine gb h fun bu R h=>?_;obtain ⟨a9,bf,hae,aV,aZ⟩:=p.qi (α:=pW) (i:=0) rfl R;cases hae;refine go ?_;refine gb h fun ae U h=>?_;refine LW.se 1 p 0 R U (hM:=(rE (fun w cs F hF=>by obtain ⟨rfl,rfl⟩:=hF;exact ⟨rfl,rfl⟩))) fun bn aj=>?_;refine go ?_;replace h:=oi h;subst h;exact ⟨rfl,⟨⟨rfl,(show (vS (some ⟨b,c,none⟩) d.1.length n:Value)=vS (some ⟨b,c,none⟩) ae.length n by rw [show d.1.length=ae.length from (pO (oi U))]),rfl,rfl,rfl,trivial⟩,aj.pk [0]⟩⟩
     refine go ?_;cases oi h;exact ⟨rfl,(p.po [0])⟩
   refine go ?_;cases oi h;exact ⟨trivial,rfl,(f.po [0])⟩
 rintro e bo ⟨hE,ak⟩;obtain ⟨e,rfl⟩:=hE.out;have h:=aC;refine go ?_;cases h;exact Rc tt tt ⟨(some ⟨b,c,none⟩),n,rfl,ak.pk [0]⟩
theorem BY {w0} {F:List Nat} {N a am A r} (h:uI N a am A=some r) {B:Nat} {f m} (an:qQ (rM w0 F) w0 f m a.part.label.levels) {g n} (ao:qQ (rM w0 F) w0 g n a.part.own) {b d j o} (ap:qQ (rM w0 F) w0 j o a.part.heap.ag) {k q} (aq:qQ (rM w0 F) w0 k q a.part.heap.gc.j8) {l s} (ar:qQ (rM w0 F) w0 l s a.part.pN) (hS:St w0 F w0 [bx B 201 (qC f m g n b d j o k q l s a),sl b d a.part.tree]) :
    pT Tryz.prog 286 #[.pointer (some ⟨B,0,none⟩),vI am,.agg #[vI A.bh,vI A.pU,vI A.qc]] w0 (fun v w=>∃ y z,v=.bool r.1∧St w0 F w [bx B 201 [vS f a.part.label.levels.length m,vS g a.part.own.length n,vS y r.2.part.tree.length z,vS j a.part.heap.ag.length o,vI r.2.part.heap.gc.phase,vI r.2.part.heap.gc.pos,vI r.2.part.heap.gc.round,vS k a.part.heap.gc.j8.length q,vS l a.part.pN.length s,vI r.2.part.next,vI r.2.part.want,vI r.2.part.dz.bh,vI r.2.part.dz.pU,vI r.2.part.dz.qc,vI r.2.part.pV,vI r.2.part.lost,vI r.2.me,vI r.2.now,vI r.2.qB],sl y z r.2.part.tree]):=by
 unfold uI at h;refine pT.fn Tryz.func286 fun e=>?_;refine go ?_;refine LW.bo hS fun aF aG ae=>?_;refine go ?_;refine CW.draw (by kernel_rfl) ?_;have K:=ae.drew;refine gb h fun aa aj h=>?_;refine jO 7 ?_;refine LW.cl (BE aj rfl (K.rI 2 rfl)) ?_;rintro _ aH ⟨U,V,rfl,hs⟩;have af:=K.add hs;refine jN (jW (jW jZ)) ?_;refine gs ?_;obtain ⟨J,ai,au⟩:=ob h;refine CW.cut (fun e wb=>∃ (x:Nat),En e [(0,.pointer (some ⟨B,0,none⟩)),(7,vS U aa.1.length V),(8,.bool aa.2),(9,.pointer (some ⟨x,0,none⟩)),(10,.bool J.2.2.2)]∧St w0 F wb [sl U V aa.1,bx B 201 (qC f m g n b d j o k q l s a),sl b d a.part.tree,bx x 35 [vI J.1,vI J.2.1,vI J.2.2.1]]) ?_ ?_
 · have h:=ai;refine CW.draw (by kernel_rfl) ?_;have L:=af.drew;refine go ?_;refine AW.u (i:=7) rfl (by kernel_rfl) rfl rfl (pY.build (vs:=[(1,vI A.pU)]) (cs:=#[vI 0,vI A.pU,vI 0]) rfl (by kernel_rfl)) ?_;have ⟨aI,R,h⟩:=ob h;refine AW.all (rs:=[8,12]) (by kernel_rfl) (by simp) ⟨?_,?_,trivial⟩
   · refine ⟨_,rfl,?_⟩;refine LW.cl (Em R) ?_;rintro _ av ⟨rfl,hs⟩;have M:=L.add hs;refine jN (.c (M.ce 1) (jW jZ)) ?_;refine AW.u (i:=9) rfl (by kernel_rfl) rfl rfl (pY.p rfl) ?_;refine go ?_;refine jO 12 ?_;refine LW.al M fun ab aw H=>?_;refine jN (.c (H.ce 2) (.c (H.ce 3) jZ)) ?_;refine jO 13 ?_;refine LW.st H 0 fun ax ah=>?_;refine jN (jW (jW jZ)) ?_;refine go ?_;cases oi h;exact ⟨ab,ah.po [1,3,4,0]⟩
   refine ⟨_,rfl,?_⟩;refine LW.al L fun ac ay I=>?_;refine jN (.c (I.ce 2) (.c (I.ce 3) jZ)) ?_;refine jO 8 ?_;refine LW.cl (Em R) ?_;rintro _ az ⟨rfl,hs⟩;have O:=I.add hs;refine jN (.c (O.ce 2) (jW jZ)) ?_;refine go ?_;refine jO 13 ?_;refine LW.st O 0 fun aA W=>?_;refine jN (jW (jW jZ)) ?_;refine go ?_;cases oi h;exact ⟨ac,W.po [1,3,4,0]⟩
 rintro e aB ⟨x,hE,t⟩;obtain ⟨e,rfl⟩:=hE.out;have h:=au;refine gs ?_;obtain ⟨ak,Z,ad⟩:=ob h;refine CW.jn [0,7,9] [0,1,2,3] [(39,.bool ak)] t (h1:=?_) (h2:=?_)
 · have h:=Z;refine gB h ?_ ?_ <;> intro _ h
   · refine go ?_;cases oi h;exact t.po [0,1,2,3]
   refine go ?_;cases oi h;exact t.po [0,1,2,3]
 intro e aC C;have h:=ad;refine gc h ?_ ?_ <;> intro _ h
 · refine go ?_;replace h:=oi h;subst h;exact Ra ⟨b,d,rfl,C.pk [1,2]⟩
 refine go ?_;refine CW.draw (by kernel_rfl) ?_;have X:=C.drew;refine go ?_;refine jO 7 ?_;refine LW.st X 1 fun aD G=>?_;refine jN (.c (G.ce 3) jZ) ?_;refine go ?_;refine jO 11 ?_;refine LW.st G 1 fun aE Y=>?_;refine jN (jW jZ) ?_;refine go ?_;replace h:=oi h;subst h;exact Ra ⟨U,V,rfl,Y.pk [1,0]⟩
theorem JJ {w0 N d az r} (h:zu N d az=some r) {p J s} (L:J=d.ag.length) (a:rb w0 p s d.ag) {q K t} (M:K=d.gc.j8.length) (o:rb w0 q t d.gc.j8) :
    pT Tryz.prog 288 #[.agg #[vS p J s,vI d.gc.phase,vI d.gc.pos,vI d.gc.round,vS q K t],vI az] w0 (fun v w=>∃ g k, ∃ j m,v=.agg #[vS g r.ag.length k,vI r.gc.phase,vI r.gc.pos,vI r.gc.round,vS j r.gc.j8.length m]∧St w0 [] w [sl g k r.ag,sl j m r.gc.j8]):=by
 subst L M;unfold zu at h;refine pT.fn Tryz.func288 fun e=>?_;have ar:=St.start w0;refine go ?_;refine LW.bo ar fun bf bg au=>?_;refine LW.al au fun ao bi z=>?_;refine gb h fun f ax h=>?_;refine LW.cl (Bk ax rfl (z.rB a) rfl (z.rB o)) ?_;rintro _ aY ⟨V,X,W,Y,rfl,hs⟩;have av:=z.add hs;refine LW.al av fun O aZ aw=>?_;refine LW.st aw 0 fun a0 n=>?_;refine gs ?_;obtain ⟨ay,aa,ap⟩:=ob h;refine CW.jn [1,2,4,5] [0,1,2,3,4] [(22,.bool ay)] n (h1:=?_) (h2:=?_)
 · have h:=aa;refine gb h fun ba ad h=>?_;refine LW.c0 (Co ad rfl (n.rB a) rfl (n.rB o)) n fun a1 R=>?_;refine gB h ?_ ?_ <;> intro _ h
   · refine gb h fun bb ae h=>?_;refine go ?_;refine LW.c0 (xL ae) R fun a2 A=>?_;refine gB h ?_ ?_ <;> intro _ h
     · refine gb h fun bc af h=>?_;obtain ⟨aP,aV,aC,rfl,B,aD,aG,⟨aM,aS,aN,aT,aO,aU,rfl,aJ,aK,aL⟩,ac⟩:=a.idx af;refine go ?_;refine LW.l (pZ.qk w0 qA rfl (ac 1 _ rfl)) (A.same _ B.1 B.2) rfl ?_;refine go ?_;cases oi h;exact A.po [0,1,2,3,4]
     refine go ?_;cases oi h;exact A.po [0,1,2,3,4]
   refine go ?_;cases oi h;exact R.po [0,1,2,3,4]
 intro e a3 c;have h:=ap;refine gs ?_;obtain ⟨U,ab,aq⟩:=ob h;refine CW.cut (fun e wb=>En e [(4,.pointer (some ⟨ao,0,none⟩)),(5,.pointer (some ⟨O,0,none⟩))]∧St w0 [] wb [bx O 32 [vS V U.length X,vI f.gc.phase,vI f.gc.pos,vI f.gc.round,vS W f.gc.j8.length Y],sl V X U,sl W Y f.gc.j8,bx ao 32 [vS none 0 0,vI 0,vI 0,vI 0,vS none 0 0]]) ?_ ?_
 · have h:=ab;refine gc h ?_ ?_ <;> intro _ h
   · refine gB h ?_ ?_ <;> intro _ h
     · refine gb h fun bd C h=>?_;obtain ⟨aQ,aW,hae,aE,aH⟩:=c.qi (α:=eg) (i:=1) rfl C;subst hae;refine go ?_;refine gb h fun aA G h=>?_;refine LW.se 9 c 1 C G (hM:=(rE (fun w cs F hF=>by obtain ⟨ah,ak,ai,am,aj,an,rfl,hH⟩:=hF;exact ⟨ah,ak,ai,am,aj,an,rfl,hH⟩))) fun a4 u=>?_;refine go ?_;rw [show f.ag.length=aA.length from (pO (oi G))] at u;cases oi h;exact u.po [0,1,2,3]
     refine gb h fun be H h=>?_;obtain ⟨aR,aX,hae,aF,aI⟩:=c.qi (α:=eg) (i:=1) rfl H;subst hae;refine go ?_;refine gb h fun aB I h=>?_;refine LW.se 9 c 1 H I (hM:=(rE (fun w cs F hF=>by obtain ⟨ah,ak,ai,am,aj,an,rfl,hH⟩:=hF;exact ⟨ah,ak,ai,am,aj,an,rfl,hH⟩))) fun a5 x=>?_;refine go ?_;rw [show f.ag.length=aB.length from (pO (oi I))] at x;cases oi h;exact x.po [0,1,2,3]
   refine go ?_;cases oi h;exact c.po [0,1,2,3]
 rintro e a7 ⟨hE,Z⟩;obtain ⟨e,rfl⟩:=hE.out;have h:=aq;refine go ?_;refine LW.st Z 3 fun a9 y=>?_;refine go ?_;cases h;exact And.intro trivial ⟨_,rG.one (pP.b y 3 rfl Bm rfl rfl),V,X,W,Y,rfl,y.pk [1,2]⟩
end Go.Kx
