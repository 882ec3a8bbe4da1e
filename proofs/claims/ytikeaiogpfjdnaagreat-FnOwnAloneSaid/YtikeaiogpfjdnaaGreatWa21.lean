/- Each call returns what the plain function says. Printed by drive.py. -/
import Derived.Test.YtikeaiogpfjdnaaGreatFa
import Derived.Test.YtikeaiogpfjdnaaGreatPu
import Derived.Test.YtikeaiogpfjdnaaGreatWa4
import Derived.Test.YtikeaiogpfjdnaaGreatWa5
import Derived.Test.YtikeaiogpfjdnaaGreatWa6
import Derived.Test.YtikeaiogpfjdnaaGreatWa7
import Derived.Test.YtikeaiogpfjdnaaGreatWa8
import Derived.Test.YtikeaiogpfjdnaaGreatWa18
import Derived.Test.YtikeaiogpfjdnaaGreatWa20
namespace Go.Kx
open Go Go.RowKit Go.Proofs
set_option maxRecDepth 10000
set_option maxHeartbeats 8000000
set_option linter.unusedVariables false
set_option linter.unusedSimpArgs false
theorem DW {w0 N s t r} (h:ti N s t=some r) {f p j} (u:p=s.levels.length) (y:rb w0 f j s.levels) {g q c} (x:q=t.levels.length) (z:rb w0 g c t.levels) :
    il Tryz.prog 197 #[.agg #[vS f p j],.agg #[vS g q c]] w0 (fun v w=>∃ A B,v=vS A r.length B∧St w0 [] w [sl A B r]):=by
 subst u x;unfold ti at h;refine il.fn Tryz.func197 fun e=>?_;have Y:=St.start w0;refine go ?_;refine LW.bo Y fun aA aB Z=>?_;refine LW.bo Z fun C aC aa=>?_;refine go ?_;refine LW.jL (α:=Int) (vs:=[]) (cs:=#[]) (l:=([]:List Int)) rfl (by kernel_rfl) rfl rfl rfl (fun w=>rfl) aa rfl ?_;intro af ah aD ab hf;refine go ?_;obtain ⟨ar,J,X⟩:=ob h;refine CW.ie J 0 (fun k e wb=>∃ (a:Ad) (b:Nat),En e [(3,.pointer (some ⟨C,0,none⟩)),(5,vS a k.1.length b),(10,vS f s.levels.length j),(11,vI (s.levels.length:Int)),(12,vI k.2)]∧St w0 [] wb [sl a b k.1,bx C 26 [vS g t.levels.length c]]) ?_ ⟨af,ah,ab.po [0,1]⟩ ?_
 · intro k e aE o hM h;obtain ⟨a,b,hE,d⟩:=hM;obtain ⟨e,rfl⟩:=hE.out;refine gc h ?_ ?_ <;> intro _ h
   · refine gb h fun ax K h=>?_;obtain ⟨ap,aq,ai,rfl,m,ak,an,rfl,H⟩:=y.idx K;refine go ?_;refine LW.l (iF.iN w0 iY rfl (H 0 _ rfl)) (d.same _ m.1 m.2) rfl ?_;refine gb h fun ay O h=>?_;obtain ⟨V,ae,aj,rfl,n,am,ao,rfl,I⟩:=z.idx O;refine go ?_;refine LW.l (iF.iN w0 iY rfl (I 0 _ rfl)) (d.same _ n.1 n.2) rfl ?_;refine go ?_;refine CW.fl [3,5,6,10,11,12,23] fun e=>?_;refine gc h ?_ ?_ <;> intro _ h
     · refine gb h fun az R h=>?_;refine LW.kV (M:=[]) (L:=[sl a b k.1,bx C 26 [vS (some ⟨V,ae,none⟩) t.levels.length c]]) (vs:=#[vI k.2]) (i:=0) lL rfl (by kernel_rfl) rfl rfl R d rfl (fun w G hG=>by cases (show G=[] from hG);exact ⟨rfl,rfl⟩) rfl rfl ?_;intro au U W av ac hf;refine go ?_;cases oi h;exact ⟨rfl,⟨U,W,ac.po [0,1]⟩⟩
     refine go ?_;cases oi h;exact ⟨rfl,⟨a,b,d.po [0,1]⟩⟩
   refine go ?_;cases oi h;exact ⟨trivial,rfl,⟨a,b,d.po [0,1]⟩⟩
 rintro e aw ⟨a,b,hE,ad⟩;obtain ⟨e,rfl⟩:=hE.out;have h:=X;refine go ?_;cases h;exact Ra ⟨a,b,rfl,ad.pk [0]⟩
theorem yz {w0} {F:List Nat} {N d G q r} (h:nQ N d G q=some r) {b o a} (p:o=d.length) (hS:St w0 F w0 [sl b a d]) :
    il Tryz.prog 249 #[vS b o a,vI G,vI q] w0 (fun v w=>∃ s t,v=vS s r.length t∧St w0 F w [sl s t r]):=by
 subst p;unfold nQ at h;refine il.fn Tryz.func249 fun e=>?_;refine gb h fun V j h=>?_;have c:=(hS.rI 0 rfl).le;refine LW.u (iC.Ix (α:=jy) (l:=d) Tryz.underlying33 vj rfl rfl rfl rfl j c) rfl ?_;refine gc h ?_ ?_ <;> intro x h
 · refine go ?_;cases h;exact Ra ⟨b,a,rfl,hS.pk [0]⟩
 refine go ?_;refine CW.draw (by kernel_rfl) ?_;have A:=hS.drew;refine gb h fun I m h=>?_;obtain ⟨R,U,y,z⟩:∃ (a':Ad) (c':Nat),a'=mq b a ((0:Int).toNat) (iw.sz jy)∧c'=a - (0:Int).toNat:=⟨_,_,rfl,rfl⟩;refine AW.u (i:=2) rfl (by kernel_rfl) rfl rfl (iC.sub (α:=jy) (l:=d) Tryz.underlying33 vj rfl r8 (rU rfl) m c y z) ?_;refine gb h fun J n h=>?_;obtain ⟨K,L,f,g⟩:∃ (a':Ad) (c':Nat),a'=mq b a ((q:Int).toNat) (iw.sz jy)∧c'=a - (q:Int).toNat:=⟨_,_,rfl,rfl⟩;refine AW.u (i:=5) rfl (by kernel_rfl) rfl rfl (iC.sub (α:=jy) (l:=d) Tryz.underlying33 vj rfl (rU rfl) r8 n c f g) ?_;refine jO 6 ?_;refine LW.Il vi A (k:=0) rfl j x m n rfl y z rfl f g rfl ?_;intro M B;refine jN jZ ?_;refine go ?_;have H:=Gs j x m n;refine LW.u (iC.Ij (α:=jy) Tryz.underlying33 vj rfl rfl rfl (by omega) (by omega) (by omega)) rfl ?_;refine LW.IB (l:=(I++J)) vi B (k:=0) rfl rfl (by omega) (by omega) ?_;intro O C;refine go ?_;cases h;exact Ra ⟨b,a,rfl,C.pk [0]⟩
theorem A8 {w0 N ad ae af r} (h:pQ N ad ae af=some r) {g C m} (I:C=ad.length) (c:rb w0 g m ad) {j G n} (J:G=ae.levels.length) (d:rb w0 j n ae.levels) {k H p} (K:H=af.levels.length) (f:rb w0 k p af.levels) :
    il Tryz.prog 164 #[vS g C m,.agg #[vS j G n],.agg #[vS k H p]] w0 (fun v w=>v=.bool r∧St w0 [] w []):=by
 subst I J K;unfold pQ at h;refine il.fn Tryz.func164 fun e=>?_;have ah:=St.start w0;refine go ?_;refine LW.bo ah fun aP aR ai=>?_;refine LW.bo ai fun aQ aS s=>?_;refine gs ?_;obtain ⟨av,am,aq⟩:=ob h;refine CW.jn [0,4,5] [0,1] [(21,.bool av)] s (h1:=?_) (h2:=?_)
 · have h:=am;refine gb h fun aU an h=>?_;refine LW.c0 (zp an rfl (s.rB c)) s fun aT t=>?_;refine gB h ?_ ?_ <;> intro _ h
   · refine go ?_;cases oi h;exact t.po [0,1]
   refine gb h fun aK Z h=>?_;refine go ?_;refine LW.c0 (uG Z rfl (t.rB d)) t fun aE y=>?_;refine gB h ?_ ?_ <;> intro _ h
   · refine go ?_;cases oi h;exact y.po [0,1]
   refine gb h fun aL aa h=>?_;refine go ?_;refine LW.c0 (uG aa rfl (y.rB f)) y fun aF aj=>?_;refine go ?_;cases oi h;exact aj.po [0,1]
 intro e aG b;have h:=aq;refine gc h ?_ ?_ <;> intro _ h
 · refine go ?_;cases h;exact fi b
 refine gb h fun aM ab h=>?_;refine LW.cl (DW ab rfl (b.rB d) rfl (b.rB f)) ?_;rintro _ aH ⟨ax,aA,rfl,hs⟩;have ak:=b.add hs;refine go ?_;obtain ⟨M,Y,L⟩:=ob h;refine CW.mono (CW.lx [0,24,25] [0] [] 0 (fun O=>[(26,vI O)]) (RT Tryz.prog Tryz.f164.results (fun u=>.bool u) w0 []) ak Y (hb:=?_)) ?_
 · intro O e ao o z h;refine gc h ?_ ?_ <;> intro _ h
   · refine gb h fun aN B h=>?_;obtain ⟨ay,aB,hae,ar,au⟩:=z.iJ (α:=Int) (i:=0) rfl B;subst hae;refine go ?_;obtain ⟨aw,A,a⟩:=z.freeze (α:=Int) 0 rfl;obtain ⟨az,aC,ap,hae,V,_,_,W,X⟩:=A.jX.idx B;cases hae;obtain rfl:=W;refine LW.l (iF.iN ao iY rfl (X 0 _ rfl)) (a.zC 0 rfl V) rfl ?_;refine gb h fun aO ac h=>?_;refine LW.c0 (mZ ac rfl (a.rB c)) a fun aI q=>?_;refine go ?_;refine CW.fl [0,24,25,26,33] fun e=>?_;refine gc h ?_ ?_ <;> intro _ h
     · refine go ?_;cases oi h;exact ⟨trivial,rfl,_,rfl,rx ⟨rfl,q.pk []⟩⟩
     refine go ?_;have R:=q.jf (α:=Int) 0 rfl A;cases oi h;exact ⟨rfl,(R.po [0])⟩
   refine go ?_;cases oi h;exact ⟨trivial,rfl,⟨trivial,z.pk [0]⟩⟩
 intro x e aJ hM;rcases M with M | aD
 · obtain ⟨rfl,hM⟩:=hM;obtain ⟨e,rfl,U⟩:=eo hM;rw [show e=iQ e [] from rfl];have h:=L;refine go ?_;cases h;exact fi U
 obtain ⟨rfl,u,rfl,hM⟩:=hM;cases L;exact And.intro trivial hM
theorem wi {w0 N l m n r} (h:oc N l m n=some r) :
    il Tryz.prog 289 #[vI l,vI m,vI n] w0 (fun v w=>v=vI r∧St w0 [] w []):=by
 unfold oc at h;refine il.fn Tryz.func289 fun e=>?_;have a:=St.start w0;refine gs ?_;refine CW.region ?_;refine gs ?_;obtain ⟨o,g,h2⟩:=ob h;refine CW.jn [0,1,2] [] [(19,.bool o)] a (h1:=?_) (h2:=?_)
 · have h:=g;refine gb h fun u i h=>?_;refine LW.c0 (uV i) a fun s b=>?_;refine gB h ?_ ?_ <;> intro _ h
   · refine go ?_;cases oi h;exact b.po []
   refine gb h fun x j h=>?_;refine go ?_;refine LW.c0 (qf j) b fun t c=>?_;refine gB h ?_ ?_ <;> intro _ h
   · refine go ?_;cases oi h;exact c.po []
   refine gb h fun y k h=>?_;refine go ?_;refine LW.c0 (jd k) c fun p f=>?_;refine go ?_;cases oi h;exact f.po []
 intro e q d;have h:=h2;refine gc h ?_ ?_ <;> intro _ h
 · refine go ?_;cases h;exact fi d
 refine go ?_;cases h;exact fi d
theorem zO {w0 N o B f r} (h:oL N o B f=some r) {i l j} (m:l=o.parts.length) (n:rb w0 i j o.parts) :
    il Tryz.prog 113 #[.agg #[vI o.now,vS i l j],vI B,.agg #[vI f.kind,vI f.a,vI f.b,vI f.c,vI f.d,vI f.e]] w0 (fun v w=>v=vI r∧St w0 [] w []):=by
 subst m;unfold oL at h;refine il.fn Tryz.func113 fun e=>?_;have u:=St.start w0;refine go ?_;refine LW.bo u fun U W x=>?_;refine LW.bo x fun V X g=>?_;refine gs ?_;refine CW.region ?_;refine gs ?_;refine CW.region ?_;refine gs ?_;obtain ⟨H,z,C⟩:=ob h;refine CW.jn [3] [1] [(7,vI H)] g (h1:=?_) (h2:=?_)
 · have h:=z;refine CW.block ?_;refine gs ?_;refine CW.region ?_;refine gs ?_;obtain ⟨I,A,G⟩:=ob h;refine CW.jn [3,5,7,10] [0,1] [(11,.bool I)] g (h1:=?_) (h2:=?_)
   · have h:=A;refine gc h ?_ ?_ <;> intro _ h
     · refine go ?_;cases oi h;exact g.po [0,1]
     refine go ?_;cases oi h;exact g.po [0,1]
   intro e J k;have h:=G;refine gc h ?_ ?_ <;> intro _ h
   · refine gb h fun O s h=>?_;refine LW.c0 (sA s) k fun K y=>?_;refine go ?_;cases oi h;exact y.po [1]
   refine gc h ?_ ?_ <;> intro _ h
   · refine go ?_;cases oi h;exact k.po [1]
   refine go ?_;cases oi h;exact k.po [1]
 intro e L p;have h:=C;refine gb h fun R t h=>?_;refine LW.c0 (wU t rfl (p.rB n)) p fun M q=>?_;refine gc h ?_ ?_ <;> intro _ h
 · refine go ?_;cases h;exact fi q
 refine go ?_;cases h;exact fi q
theorem uA {w0 N o L M O r} (h:nI N o L M O=some r) {c l d} (n:l=o.parts.length) (b:rb w0 c d o.parts) :
    il Tryz.prog 185 #[.agg #[vI o.now,vS c l d],vI L,vI M,vI O] w0 (fun v w=>v=.bool r∧St w0 [] w []):=by
 subst n;unfold nI at h;refine il.fn Tryz.func185 fun e=>?_;have H:=St.start w0;refine go ?_;refine LW.bo H fun be bg I=>?_;refine go ?_;refine CW.draw (by kernel_rfl) ?_;have a:=I.drew;refine gb h fun bi K h=>?_;obtain ⟨bd,bf,a4,rfl,f,a5,a6,⟨aq,aM,ar,aN,au,aO,av,aP,aw,aQ,ax,aR,rfl,Z,y,aa,ab,ac,ad⟩,s⟩:=b.idx K;refine go ?_;refine AW.take (i:=5) rfl (by kernel_rfl) rfl rfl (iF.iN w0 nD rfl (s 1 _ rfl)) (a.same _ f.1 f.2) ?_;refine gb h fun ba B h=>?_;obtain ⟨aK,a7,R,hae,g,V,X,p,t⟩:=b.idx B;cases hae;obtain ⟨ay,aS,az,aT,aA,aU,aB,aV,aC,aW,aD,aX,rfl,z,ae,af,ah,ai,aj⟩:=p;refine go ?_;refine AW.take (i:=11) rfl (by kernel_rfl) rfl rfl (iF.jF w0 xb rfl rfl (fun j u hu=>lW (m:=1) t 0 hu)) (a.same _ g.1 g.2) ?_;refine gb h fun bb C h=>?_;obtain ⟨aL,a8,U,hae,k,W,Y,q,x⟩:=b.idx C;cases hae;obtain ⟨aE,aY,aF,aZ,aG,a0,aH,a1,aI,a2,aJ,a3,rfl,A,ak,am,an,ao,ap⟩:=q;refine go ?_;refine AW.take (i:=17) rfl (by kernel_rfl) rfl rfl (iF.jF w0 xb rfl rfl (fun j u hu=>lW (m:=1) x 0 hu)) (a.same _ k.1 k.2) ?_;have ⟨bc,G,h⟩:=ob h;refine jO 18 ?_;refine LW.cl (A8 G rfl (a.rB y) rfl (a.rB z) rfl (a.rB A)) ?_;rintro _ a9 ⟨rfl,hs⟩;have J:=a.add hs;refine jn ?_;refine go ?_;cases h;exact fi J
theorem xE {w0 N d f r} (h:sf N d f=some r) :
    il Tryz.prog 312 #[.agg #[vI d.cd,vI d.ij,vI d.iD],.agg #[vI f.cd,vI f.ij,vI f.iD]] w0 (fun v w=>v=.tuple #[.agg #[vI r.1.cd,vI r.1.ij,vI r.1.iD],.bool r.2]∧St w0 [] w []):=by
 unfold sf at h;refine il.fn Tryz.func312 fun e=>?_;have q:=St.start w0;refine go ?_;refine LW.bo q fun W Z s=>?_;refine LW.bo s fun X aa t=>?_;refine LW.al t fun Y ab g=>?_;refine gs ?_;obtain ⟨B,y,A⟩:=ob h;refine CW.jn [2,3,4] [0,1,2] [(20,.bool B)] g (h1:=?_) (h2:=?_)
 · have h:=y;refine gb h fun ac z h=>?_;refine LW.c0 (lj z) g fun C i=>?_;refine gB h ?_ ?_ <;> intro _ h
   · refine go ?_;cases oi h;exact i.po [0,1,2]
   refine gb h fun O m h=>?_;refine go ?_;refine LW.c0 (lj m) i fun G j=>?_;refine gB h ?_ ?_ <;> intro _ h
   · refine go ?_;cases oi h;exact j.po [0,1,2]
   refine gb h fun R n h=>?_;refine go ?_;refine LW.c0 (ni n) j fun H u=>?_;have ⟨U,o,h⟩:=ob h;refine go ?_;refine LW.c0 (lj o) u fun I x=>?_;refine go ?_;cases oi h;exact x.po [0,1,2]
 intro e J k;have h:=A;refine gc h ?_ ?_ <;> intro _ h
 · refine go ?_;refine LW.st k 0 fun K a=>?_;refine go ?_;cases h;exact Rc (ib.b a 0 rfl km rfl rfl) tt ⟨rfl,a.pk []⟩
 refine gb h fun V p h=>?_;refine LW.c0 (ni p) k fun L l=>?_;refine LW.st l 0 fun M c=>?_;refine go ?_;cases h;exact Rc (ib.b c 0 rfl km rfl rfl) tt ⟨rfl,c.pk []⟩
theorem zT {w0} {F:List Nat} {N R am aV f r} (h:rf N R am aV f=some r) {aq:Nat} {U k} (hS:St w0 F w0 [bx aq 77 [vI R.now,vS U R.parts.length k],sl U k R.parts]) :
    il Tryz.prog 116 #[.pointer (some ⟨aq,0,none⟩),vI am,vI aV,.agg #[vI f.kind,vI f.a,vI f.b,vI f.c,vI f.d,vI f.e]] w0 (fun v w=>∃ B L,v=.tuple #[vI r.1,vI r.2.1]∧St w0 F w [bx aq 77 [vI r.2.2.now,vS B r.2.2.parts.length L],sl B L r.2.2.parts]):=by
 unfold rf at h;refine il.fn Tryz.func116 fun e=>?_;refine go ?_;refine LW.bo hS fun b0 b2 aP=>?_;refine go ?_;refine LW.u (iC.quo rfl rfl (by decide)) rfl ?_;refine go ?_;refine LW.u (iC.rem rfl rfl (by decide)) rfl ?_;refine go ?_;refine LW.u (iC.build (vs:=[(0,vI f.a),(1,vI f.b),(2,vI f.c),(3,vI (IntKind.i64.wrap (Int.tdiv f.d 10))),(4,vI (Int.tmod f.d 10)),(5,vI f.e)]) (cs:=#[vI f.a,vI f.b,vI f.c,vI (IntKind.i64.wrap (Int.tdiv f.d 10)),vI (Int.tmod f.d 10),vI f.e]) rfl (by kernel_rfl)) rfl ?_;refine LW.al aP fun b1 b3 aQ=>?_;refine LW.st aQ 0 fun b4 M=>?_;refine go ?_;refine LW.u (iC.nc rfl) rfl ?_;refine go ?_;have ⟨g,ah,h⟩:=ob h;obtain ⟨W,o,hae,bM,bN⟩:=M.iJ (α:=gE) (i:=3) rfl ah;subst hae;refine gs ?_;refine CW.block ?_;refine gs ?_;obtain ⟨aT,aF,aO⟩:=ob h;refine CW.jn [0,1,2,7,10,11] [0,1,2,3] [(33,.bool aT)] M (h1:=?_) (h2:=?_)
 · have h:=aF;refine gB h ?_ ?_ <;> intro _ h
   · refine go ?_;cases oi h;exact M.po [0,1,2,3]
   refine gb h fun bW aK h=>?_;refine go ?_;refine LW.c0 (zi aK) M fun bR aR=>?_;refine go ?_;cases oi h;exact aR.po [0,1,2,3]
 intro e bS ad;have h:=aO;refine gc h ?_ ?_ <;> intro _ h
 · refine go ?_;replace h:=oi h;subst h;exact Rc tt tt ⟨(some ⟨W,o,none⟩),k,rfl,ad.pk [2,3]⟩
 refine go ?_;refine LW.u (iC.nc rfl) rfl ?_;refine gb h fun bX aL h=>?_;refine LW.c0 (uA aL rfl (ad.rI 3 rfl)) ad fun aj ap=>?_;refine gc h ?_ ?_ <;> intro _ h
 · refine go ?_;replace h:=oi h;subst h;exact Rc tt tt ⟨(some ⟨W,o,none⟩),k,rfl,ap.pk [2,3]⟩
 refine go ?_;refine CW.draw (by kernel_rfl) ?_;have aS:=ap.drew;refine go ?_;obtain ⟨bi,q,ae⟩:=aS.freeze (α:=gE) 3 rfl;obtain ⟨bw,bO,a5,hae,n,_,_,aC,p⟩:=q.jX.idx ah;cases hae;obtain ⟨t,C,x,H,y,I,z,J,A,K,V,X,rfl,a9,ba,aJ,bb,bc,bd⟩:=aC;refine AW.take (i:=3) rfl (by kernel_rfl) rfl rfl (iF.iN aj.drew G6 rfl (p 2 _ rfl)) (ae.zC 3 rfl n) ?_;refine gb h fun bY aM h=>?_;refine jO 6 ?_;refine LW.cl (ot aM rfl (ae.rZ 3 rfl aJ)) ?_;rintro _ bT ⟨rfl,hs⟩;have O:=ae.add hs;refine jn ?_;refine gc h ?_ ?_ <;> intro _ h
 · refine go ?_;replace h:=oi h;subst h;have au:=O.jf (α:=gE) 3 rfl q;exact Rc tt tt ⟨(some ⟨W,o,none⟩),k,rfl,au.pk [2,3]⟩
 refine go ?_;refine LW.u (iC.nc rfl) rfl ?_;refine go ?_;refine LW.l (iF.iN aj.drew Ay rfl (p 8 _ rfl)) (O.zC 3 rfl n) rfl ?_;refine go ?_;refine CW.fl [0,10,11,60] fun e=>?_;refine gc h ?_ ?_ <;> intro _ h
 · refine go ?_;replace h:=oi h;subst h;have av:=O.jf (α:=gE) 3 rfl q;exact Rc tt tt ⟨(some ⟨W,o,none⟩),k,rfl,av.pk [2,3]⟩
 refine go ?_;refine CW.draw (by kernel_rfl) ?_;have Y:=O.drew;refine go ?_;refine AW.take (i:=4) rfl (by kernel_rfl) rfl rfl (iF.iN aj.drew Ay rfl (p 8 _ rfl)) (Y.zC 3 rfl n) ?_;refine go ?_;refine jO 6 ?_;refine LW.jL (α:=jy) (vs:=[(0,.agg #[vI f.a,vI f.b,vI f.c,vI (IntKind.i64.wrap (Int.tdiv f.d 10)),vI (Int.tmod f.d 10),vI f.e])]) (cs:=#[vI f.a,vI f.b,vI f.c,vI (IntKind.i64.wrap (Int.tdiv f.d 10)),vI (Int.tmod f.d 10),vI f.e]) (l:=([jy.mk f.a f.b f.c (IntKind.i64.wrap (Int.tdiv f.d 10)) (Int.tmod f.d 10) f.e]:List jy)) rfl (by kernel_rfl) rfl rfl rfl (fun w=>⟨[vI f.a,vI f.b,vI f.c,vI (IntKind.i64.wrap (Int.tdiv f.d 10)),vI (Int.tmod f.d 10),vI f.e],[],[],[],rfl,rfl,⟨rfl,rfl⟩,rfl⟩) Y rfl ?_;intro bk bB bU s hf;refine jN (jW (.c (s.zC 4 rfl n) jZ)) ?_;have aH:=fun (j:Nat) (u:Value) (hu:((qP t C x H y I z J A K V X g):List Value)[j]?=some u)=>(World.cell?_of_block (s.zC 4 rfl n)).trans (p j u hu);have aw:=s.jf (α:=gE) 4 rfl q;obtain ⟨aZ,aI,aE⟩:=aw.focus (α:=gE) (cs:=[vS t g.label.levels.length C,vS x g.own.length H,vS y g.tree.length I,vS z g.heap.ag.length J,vI g.heap.gc.phase,vI g.heap.gc.pos,vI g.heap.gc.round,vS A g.heap.gc.ia.length K,vS V g.ic.length X,vI g.next,vI g.want,vI g.dW.cd,vI g.dW.ij,vI g.dW.iD,vI g.iz,vI g.lost]) 4 rfl ah rfl aH;obtain ⟨bl,bC,bm,bD,bn,bE,bp,bF,bq,bG,br,bI,aB,ar⟩:=aI;cases aB;have Z:=aE [sl t C g.label.levels,sl x H g.own,sl y I g.tree,sl z J g.heap.ag,sl A K g.heap.gc.ia,sl V X g.ic] ar;have ⟨ak,aN,h⟩:=ob h;refine jO 7 ?_;refine LW.j9 (l:=g.ic) (m:=([jy.mk f.a f.b f.c (IntKind.i64.wrap (Int.tdiv f.d 10)) (Int.tmod f.d 10) f.e]:List jy)) vi rfl rfl (Z.rI 6 rfl) aN Z (i:=5) rfl rfl ?_;intro an ao bV ax hf;refine jn ?_;refine go ?_;refine jO 10 ?_;refine LW.AU (α:=gE) (vs:=[vS an ak.length ao]) ax 10 rfl Ay rfl (by show _=o+(am:Int).toNat * 16+8;omega) rfl rfl rfl rfl ?_;intro aU ay hf;refine jn ?_;refine go ?_;have az:=ay.tl (gE.mk g.label g.own g.tree g.heap ak g.next g.want g.dW g.iz g.lost) [0,1,2,3,4,5,6,7,8,9,10] 6 4 rfl rfl (fun w G hG=>⟨t,C,x,H,y,I,z,J,A,K,an,ao,rfl,hG⟩);refine CW.draw (by kernel_rfl) ?_;have aa:=az.drew;refine gb h fun bZ ai h=>?_;obtain ⟨bz,bP,hae,a7,a8⟩:=aa.iJ (α:=gE) (i:=4) rfl ai;cases hae;obtain ⟨bj,af,ab⟩:=aa.freeze (α:=gE) 4 rfl
 obtain ⟨bA,bQ,a6,hae,aA,_,_,aD,aG⟩:=af.jX.idx ai;cases hae;obtain ⟨bs,bJ,bt,bK,bu,bL,bv,a2,a0,a3,a1,a4,rfl,be,bf,bg,aW,aX,aY⟩:=aD;refine AW.take (i:=3) rfl (by kernel_rfl) rfl rfl (iF.iN aU.drew Ay rfl (aG 8 _ rfl)) (ab.zC 4 rfl aA) ?_;refine go ?_;replace h:=oi h;subst h;have ac:=ab.jf (α:=gE) 4 rfl af;rw [show R.parts.length=(R.parts.set (am:Int).toNat (gE.mk g.label g.own g.tree g.heap ak g.next g.want g.dW g.iz g.lost)).length from (iH rfl)] at ac;exact Rc tt tt ⟨(some ⟨W,o,none⟩),k,rfl,ac.pk [3,4]⟩
theorem A9 {w0 N aZ a r} (h:pF N aZ a=some r) {V ay aa} (aA:ay=aZ.length) (m:rb w0 V aa aZ) {b O f} (ao:O=a.ig.length) (ar:rb w0 b f a.ig) {c R g} (ap:R=a.data.length) (au:rb w0 c g a.data) {d U k} (aq:U=a.queue.length) (av:rb w0 d k a.queue) :
    il Tryz.prog 287 #[vS V ay aa,.agg #[vI a.gen,vI a.kind,vI a.box,vI a.res,vI a.iL,vI a.cd,vI a.wait,vI a.iK,vI a.iM,.bool a.mark,vS b O f,vS c R g,vS d U k]] w0 (fun v w=>∃ y C,v=.tuple #[vS y r.1.length C,vI r.2]∧St w0 [] w [sl y C r.1]):=by
 subst aA ao ap aq;unfold pF at h;refine il.fn Tryz.func287 fun e=>?_;have a2:=St.start w0;refine go ?_;refine LW.bo a2 fun a0 bR aJ=>?_;refine gb h fun a9 a6 h=>?_;refine LW.cl (rj a6 rfl (aJ.rB m)) ?_;rintro _ bS ⟨W,ab,rfl,hs⟩;have aj:=aJ.add hs;refine gs ?_;obtain ⟨bm,a5,bd⟩:=ob h;refine CW.jn [0,3,6] [0,1] [(19,.bool bm)] aj (h1:=?_) (h2:=?_)
 · have h:=a5;refine gb h fun bT a7 h=>?_;refine LW.c0 (sU a7 rfl (aj.rB m)) aj fun bC aK=>?_;refine gB h ?_ ?_ <;> intro _ h
   · refine go ?_;cases oi h;exact aK.po [0,1]
   refine go ?_;cases oi h;exact aK.po [0,1]
 intro e bD aL;have h:=bd;refine gc h ?_ ?_ <;> intro _ h
 · refine go ?_;cases h;exact Rc tt tt ⟨W,ab,rfl,aL.pk [0]⟩
 refine go ?_;obtain ⟨aM,aS,aI⟩:=ob h;refine CW.mono (CW.lx [0,3,6,21,22] [0,1] [6] 0 (fun H=>[(23,vI H)]) (fun r x e wb=>x=.ret∧∃ u,u=r∧∃ v,jB Tryz.prog Tryz.f287.results e wb v∧∃ y C,v=.tuple #[vS y u.1.length C,vI u.2]∧St w0 [] wb [sl y C u.1]) aL aS (hb:=?_)) ?_
 · intro H e bE o ak h;refine gc h ?_ ?_ <;> intro _ h
   · refine gb h fun aN aV h=>?_;obtain ⟨bv,bz,bc,rfl,an,be,bg,⟨aB,aE,aC,aF,aD,aG,rfl,bj,bk,bl⟩,aR⟩:=m.idx aV;refine go ?_;refine LW.l (iF.jF w0 lI rfl rfl (fun j u hu=>aR j u hu)) (ak.same _ an.1 an.2) rfl ?_;refine LW.al ak fun aH bF a3=>?_;refine go ?_;refine LW.st a3 0 fun bG K=>?_;refine gs ?_;obtain ⟨a8,aQ,a1⟩:=ob h;refine CW.jn [0,3,6,7,8,21,22,23] [0,1,2] [(39,.bool a8)] K (h1:=?_) (h2:=?_)
     · have h:=aQ;refine gB h ?_ ?_ <;> intro _ h
       · refine go ?_;cases oi h;exact K.po [0,1,2]
       refine go ?_;refine bH h ?_ ?_ <;> intro _ h
       · refine go ?_;cases oi h;exact K.po [0,1,2]
       refine go ?_;cases oi h;exact K.po [0,1,2]
     intro e bI am;have h:=a1;refine go ?_;refine CW.fl [0,3,6,7,8,21,22,23,39] fun e=>?_;refine gc h ?_ ?_ <;> intro _ h
     · refine go ?_;cases oi h;exact ⟨rfl,(am.po [1,2])⟩
     refine gb h fun q aW h=>?_;refine LW.cl (rj aW rfl (am.rB m)) ?_;rintro _ bJ ⟨bu,B,rfl,hs⟩;have s:=am.add hs;refine gb h fun n aX h=>?_;refine LW.cl (wS aX rfl (s.rB ar) rfl (s.rB au) rfl (s.rB av)) ?_;rintro _ bK ⟨X,ac,Y,ad,Z,ae,rfl,hs⟩;have af:=s.add hs;have ⟨ba,aw,h⟩:=ob h;obtain ⟨A,p,hae,bf,bi⟩:=af.iJ (α:=bh) (i:=3) rfl aw;subst hae;refine go ?_;have aO:=af.pk (M:=[sl X ac n.ig,sl Y ad n.data,sl Z ae n.queue]++[sl (some ⟨A,p,none⟩) B q,bx aH 44 (qO aB aE aC aF aD aG aN),sl W ab a9,bx a0 44 (qO b f c g d k a)]) [0,1,2,3,4,5,6];have ⟨bb,t,h⟩:=ob h;refine LW.yZ (M:=[sl X ac n.ig,sl Y ad n.data,sl Z ae n.queue]) (L:=[sl (some ⟨A,p,none⟩) B q,bx aH 44 (qO aB aE aC aF aD aG aN),sl W ab a9,bx a0 44 (qO b f c g d k a)]) (z:=ba) (z':=n) (o:=0) aO (i:=0) rfl aw lI rfl (by show _=p+(H:Int).toNat * 13+0;omega) rfl rfl rfl rfl (whole (fun w G hG=>⟨X,ac,Y,ad,Z,ae,rfl,hG⟩)) ?_;intro bL I hf;rw [oi t] at I;refine gb h fun bP ax h=>?_;obtain ⟨bw,bA,hae,aT,aU⟩:=I.iJ (α:=bh) (i:=0) rfl ax;cases hae;(try refine LW.u (iC.ix Tryz.underlying28 uW rfl rfl aT (by rw [show q.length=bb.length from (iH (oi t))];exact aU)) rfl ?_);refine gb h fun az J h=>?_;refine LW.se 0 I 0 ax J (hM:=(j7 (fun w cs F hF=>by obtain ⟨bn,br,bp,bs,bq,bt,rfl,hH⟩:=hF;exact ⟨bn,br,bp,bs,bq,bt,rfl,hH⟩))) fun bM ah=>?_;refine gb h fun bQ aY h=>?_
     refine LW.c0 (sU aY (show q.length=az.length from ((iH (oi t)).trans (iH (oi J)))) (ah.rI 0 rfl)) ah fun bN ai=>?_;refine go ?_;refine CW.fl [6,7,9,56] fun e=>?_;refine gc h ?_ ?_ <;> intro _ h
     · refine go ?_;cases oi h;exact ⟨trivial,rfl,_,rfl,ry tt tt ⟨W,ab,rfl,ai.pk [2]⟩⟩
     refine go ?_;replace h:=oi h;subst h;exact ⟨trivial,rfl,_,rfl,ry tt tt ⟨(some ⟨A,p,none⟩),B,(show (.tuple #[vS (some ⟨A,p,none⟩) q.length B,vI H]:Value)=.tuple #[vS (some ⟨A,p,none⟩) az.length B,vI H] by rw [show q.length=az.length from ((iH (oi t)).trans (iH (oi J)))]),ai.pk [0]⟩⟩
   refine go ?_;cases oi h;exact ⟨trivial,rfl,(ak.po [0,1])⟩
 intro x e bO hM;rcases aM with aM | bB
 · obtain ⟨rfl,hM⟩:=hM;obtain ⟨e,rfl,aP⟩:=eo hM;have h:=aI;refine go ?_;cases h;exact Rc tt tt ⟨W,ab,rfl,aP.pk [0]⟩
 obtain ⟨rfl,u,rfl,hM⟩:=hM;cases aI;exact And.intro trivial hM
theorem Af {w0 N az aA r} (h:pA N az aA=some r) {y V z} (W:V=az.length) (a:rb w0 y z az) :
    il Tryz.prog 293 #[vS y V z,vI aA] w0 (fun v w=>∃ Y Z,v=.tuple #[vS Y r.1.length Z,.bool r.2]∧St w0 [] w [sl Y Z r.1]):=by
 subst W;unfold pA at h;refine il.fn Tryz.func293 fun e=>?_;have aa:=St.start w0;refine gb h fun X aH h=>?_;refine LW.cl (n8 aH rfl (aa.rB a)) ?_;rintro _ bv ⟨aN,n,rfl,hs⟩;have B:=aa.add hs;refine gs ?_;obtain ⟨a0,aG,aR⟩:=ob h;refine CW.jn [0,1,6] [0] [(23,.bool a0)] B (h1:=?_) (h2:=?_)
 · have h:=aG;refine gb h fun bz aI h=>?_;refine LW.c0 (qe aI rfl (B.rB a)) B fun bw x=>?_;refine gB h ?_ ?_ <;> intro _ h
   · refine go ?_;cases oi h;exact x.po [0]
   refine gB h ?_ ?_ <;> intro _ h
   · refine go ?_;cases oi h;exact x.po [0]
   refine gb h fun bp aw h=>?_;refine go ?_;refine LW.c0 (ot aw rfl (x.rB a)) x fun bi aD=>?_;refine go ?_;cases oi h;exact aD.po [0]
 intro e aK C;have h:=aR;refine gc h ?_ ?_ <;> intro _ h
 · refine go ?_;cases h;exact Rc tt tt ⟨aN,n,rfl,C.pk [0]⟩
 refine gb h fun aL ax h=>?_;obtain ⟨a4,ba,aO,rfl,k,aS,aW,rfl,I⟩:=a.idx ax;refine go ?_;refine LW.l (iF.iN w0 iY rfl (I 1 _ rfl)) (C.same _ k.1 k.2) rfl ?_;refine go ?_;refine CW.draw (by kernel_rfl) ?_;have ab:=C.drew;refine gb h fun bq s h=>?_;obtain ⟨b,c,hae,aT,aX⟩:=ab.iJ (α:=iy) (i:=0) rfl s;subst hae;refine go ?_;obtain ⟨a1,K,G⟩:=ab.freeze (α:=iy) 0 rfl;obtain ⟨a5,bb,aP,hae,am,_,_,an,aq⟩:=K.jX.idx s;cases hae;obtain rfl:=an;refine AW.take (i:=6) rfl (by kernel_rfl) rfl rfl (iF.jF aK.drew km rfl rfl (fun j u hu=>lW (m:=3) aq 2 hu)) (G.zC 0 rfl am) ?_;refine go ?_;refine AW.take (i:=11) rfl (by kernel_rfl) rfl rfl (iF.jF w0 km rfl rfl (fun j u hu=>lW (m:=3) I 2 hu)) (G.same _ k.1 k.2) ?_;have ⟨br,ay,h⟩:=ob h;refine jO 12 ?_;refine LW.cl (ni ay) ?_;rintro _ bj ⟨rfl,hs⟩;have aE:=G.add hs;refine jn ?_;refine go ?_;have aF:=aE.jf (α:=iy) 0 rfl K;have ⟨aM,t,h⟩:=ob h;refine jO 15 ?_;refine LW.se 2 aF 0 s t (hM:=(j7 (fun w cs F hF=>by obtain ⟨rfl,rfl⟩:=hF;exact ⟨rfl,rfl⟩))) fun bk A=>?_;refine jn ?_;refine go ?_;refine LW.u (iC.build (vs:=[]) (cs:=#[.bool false,vI 0,vI 0,vI 0,vI 0]) rfl (by kernel_rfl)) rfl ?_;have ⟨bs,L,h⟩:=ob h;obtain ⟨a6,bc,hae,au,av⟩:=A.iJ (α:=iy) (i:=0) rfl L;cases hae;(try refine LW.u (iC.ix Tryz.underlying27 CP rfl rfl au (by rw [show X.length=aM.length from (iH (oi t))];exact av)) rfl ?_);have ⟨ad,M,h⟩:=ob h;refine LW.se 0 A 0 L M (hM:=sm) fun bl af=>?_;refine go ?_;obtain ⟨bg,ar,aC⟩:=ob h;refine CW.ie ar 0 (fun d e wb=>En e [(1,vI aA),(6,vS (some ⟨b,c,none⟩) d.1.length n),(7,vI aL.parent),(50,vI (X.length:Int)),(51,vI d.2)]∧St w0 [] wb [sl (some ⟨b,c,none⟩) n d.1]) ?_ ⟨⟨rfl,(show (vS (some ⟨b,c,none⟩) X.length n:Value)=vS (some ⟨b,c,none⟩) ad.length n by rw [show X.length=ad.length from ((iH (oi t)).trans (iH (oi M)))]),rfl,rfl,rfl,trivial⟩,af.pk [0]⟩ ?_
 · intro d e ac o hM h;obtain ⟨e,rfl,f⟩:=eo hM;refine go ?_;refine CW.fl [1,6,7,50,51,52] fun e=>?_;refine gc h ?_ ?_ <;> intro _ h
   · refine gs ?_;refine CW.block ?_;refine gs ?_;refine CW.region ?_;refine gs ?_;obtain ⟨aJ,ap,aB⟩:=ob h;refine CW.jn [1,6,7,8,50,51] [0] [(67,.bool aJ)] f (h1:=?_) (h2:=?_)
     · have h:=ap;refine gb h fun bt O h=>?_;obtain ⟨a7,bd,hae,aU,aY⟩:=f.iJ (α:=iy) (i:=0) rfl O;cases hae;refine go ?_;obtain ⟨a3,q,g⟩:=f.freeze (α:=iy) 0 rfl;obtain ⟨a8,be,aQ,hae,H,_,_,ao,J⟩:=q.jX.idx O;cases hae;obtain rfl:=ao;refine LW.l (iF.iN ac pd rfl (J 0 _ rfl)) (g.zC 0 rfl H) rfl ?_;refine gB h ?_ ?_ <;> intro _ h
       · refine go ?_;refine LW.l (iF.iN ac iY rfl (J 1 _ rfl)) (g.zC 0 rfl H) rfl ?_;refine go ?_;have ah:=g.jf (α:=iy) 0 rfl q;cases oi h;exact ah.po [0]
       refine go ?_;have ai:=g.jf (α:=iy) 0 rfl q;cases oi h;exact ai.po [0]
     intro e bm p;have h:=aB;refine gc h ?_ ?_ <;> intro _ h
     · refine gb h fun bu R h=>?_;obtain ⟨a9,bf,hae,aV,aZ⟩:=p.iJ (α:=iy) (i:=0) rfl R;cases hae;refine go ?_;refine gb h fun ae U h=>?_;refine LW.se 1 p 0 R U (hM:=(j7 (fun w cs F hF=>by obtain ⟨rfl,rfl⟩:=hF;exact ⟨rfl,rfl⟩))) fun bn aj=>?_;refine go ?_;replace h:=oi h;subst h;exact ⟨rfl,⟨⟨rfl,(show (vS (some ⟨b,c,none⟩) d.1.length n:Value)=vS (some ⟨b,c,none⟩) ae.length n by rw [show d.1.length=ae.length from (iH (oi U))]),rfl,rfl,rfl,trivial⟩,aj.pk [0]⟩⟩
     refine go ?_;cases oi h;exact ⟨rfl,(p.po [0])⟩
   refine go ?_;cases oi h;exact ⟨trivial,rfl,(f.po [0])⟩
 rintro e bo ⟨hE,ak⟩;obtain ⟨e,rfl⟩:=hE.out;have h:=aC;refine go ?_;cases h;exact Rc tt tt ⟨(some ⟨b,c,none⟩),n,rfl,ak.pk [0]⟩
theorem uQ {w0} {F:List Nat} {N a ak z r} (h:mO N a ak z=some r) {A:Nat} {d l} (am:iO (jc w0 F) w0 d l a.part.label.levels) {f m} (an:iO (jc w0 F) w0 f m a.part.own) {b c g n} (ao:iO (jc w0 F) w0 g n a.part.heap.ag) {j o} (ap:iO (jc w0 F) w0 j o a.part.heap.gc.ia) {k q} (aq:iO (jc w0 F) w0 k q a.part.ic) (hS:St w0 F w0 [bx A 201 (qC d l f m b c g n j o k q a),sl b c a.part.tree]) :
    il Tryz.prog 286 #[.pointer (some ⟨A,0,none⟩),vI ak,.agg #[vI z.cd,vI z.ij,vI z.iD]] w0 (fun v w=>∃ x y,v=.bool r.1∧St w0 F w [bx A 201 [vS d a.part.label.levels.length l,vS f a.part.own.length m,vS x r.2.part.tree.length y,vS g a.part.heap.ag.length n,vI r.2.part.heap.gc.phase,vI r.2.part.heap.gc.pos,vI r.2.part.heap.gc.round,vS j a.part.heap.gc.ia.length o,vS k a.part.ic.length q,vI r.2.part.next,vI r.2.part.want,vI r.2.part.dW.cd,vI r.2.part.dW.ij,vI r.2.part.dW.iD,vI r.2.part.iz,vI r.2.part.lost,vI r.2.me,vI r.2.now,vI r.2.iV],sl x y r.2.part.tree]):=by
 unfold mO at h;refine il.fn Tryz.func286 fun e=>?_;refine go ?_;refine LW.bo hS fun aE aF Z=>?_;refine go ?_;refine CW.draw (by kernel_rfl) ?_;have G:=Z.drew;refine gb h fun V ai h=>?_;refine jO 7 ?_;refine LW.cl (uw ai rfl (G.rI 2 rfl)) ?_;rintro _ aG ⟨J,K,rfl,hs⟩;have aa:=G.add hs;refine jn ?_;refine gs ?_;obtain ⟨C,ah,ar⟩:=ob h;refine CW.cut (fun e wb=>∃ (t:Nat),En e [(0,.pointer (some ⟨A,0,none⟩)),(7,vS J V.1.length K),(8,.bool V.2),(9,.pointer (some ⟨t,0,none⟩)),(10,.bool C.2.2.2)]∧St w0 F wb [sl J K V.1,bx A 201 (qC d l f m b c g n j o k q a),sl b c a.part.tree,bx t 35 [vI C.1,vI C.2.1,vI C.2.2.1]]) ?_ ?_
 · have h:=ah;refine CW.draw (by kernel_rfl) ?_;have H:=aa.drew;refine go ?_;refine AW.u (i:=7) rfl (by kernel_rfl) rfl rfl (iC.build (vs:=[(1,vI z.ij)]) (cs:=#[vI 0,vI z.ij,vI 0]) rfl (by kernel_rfl)) ?_;have ⟨aH,I,h⟩:=ob h;refine AW.all (rs:=[8,12]) (by kernel_rfl) (by simp) ⟨?_,?_,trivial⟩
   · refine ⟨_,rfl,?_⟩;refine LW.cl (xE I) ?_;rintro _ au ⟨rfl,hs⟩;have ab:=H.add hs;refine jn ?_;refine AW.u (i:=9) rfl (by kernel_rfl) rfl rfl (iC.p rfl) ?_;refine go ?_;refine jO 12 ?_;refine LW.al ab fun W av ac=>?_;refine jn ?_;refine jO 13 ?_;refine LW.st ac 0 fun aw ad=>?_;refine jn ?_;refine go ?_;cases oi h;exact ⟨W,ad.po [1,3,4,0]⟩
   refine ⟨_,rfl,?_⟩;refine LW.al H fun X ax ae=>?_;refine jn ?_;refine jO 8 ?_;refine LW.cl (xE I) ?_;rintro _ ay ⟨rfl,hs⟩;have af:=ae.add hs;refine jn ?_;refine go ?_;refine jO 13 ?_;refine LW.st af 0 fun az L=>?_;refine jn ?_;refine go ?_;cases oi h;exact ⟨X,L.po [1,3,4,0]⟩
 rintro e aA ⟨t,hE,s⟩;obtain ⟨e,rfl⟩:=hE.out;have h:=ar;refine gs ?_;obtain ⟨aj,U,Y⟩:=ob h;refine CW.jn [0,7,9] [0,1,2,3] [(39,.bool aj)] s (h1:=?_) (h2:=?_)
 · have h:=U;refine gB h ?_ ?_ <;> intro _ h
   · refine go ?_;cases oi h;exact s.po [0,1,2,3]
   refine go ?_;cases oi h;exact s.po [0,1,2,3]
 intro e aB B;have h:=Y;refine gc h ?_ ?_ <;> intro _ h
 · refine go ?_;replace h:=oi h;subst h;exact Ra ⟨b,c,rfl,B.pk [1,2]⟩
 refine go ?_;refine CW.draw (by kernel_rfl) ?_;have M:=B.drew;refine go ?_;refine jO 7 ?_;refine LW.st M 1 fun aC O=>?_;refine jn ?_;refine go ?_;refine jO 11 ?_;refine LW.st O 1 fun aD R=>?_;refine jn ?_;refine go ?_;replace h:=oi h;subst h;exact Ra ⟨J,K,rfl,R.pk [1,0]⟩
theorem CK {w0 N d az r} (h:sj N d az=some r) {p J s} (L:J=d.ag.length) (a:rb w0 p s d.ag) {q K t} (M:K=d.gc.ia.length) (o:rb w0 q t d.gc.ia) :
    il Tryz.prog 288 #[.agg #[vS p J s,vI d.gc.phase,vI d.gc.pos,vI d.gc.round,vS q K t],vI az] w0 (fun v w=>∃ g k, ∃ j m,v=.agg #[vS g r.ag.length k,vI r.gc.phase,vI r.gc.pos,vI r.gc.round,vS j r.gc.ia.length m]∧St w0 [] w [sl g k r.ag,sl j m r.gc.ia]):=by
 subst L M;unfold sj at h;refine il.fn Tryz.func288 fun e=>?_;have ar:=St.start w0;refine go ?_;refine LW.bo ar fun bf bg au=>?_;refine LW.al au fun ao bi z=>?_;refine gb h fun f ax h=>?_;refine LW.cl (tX ax rfl (z.rB a) rfl (z.rB o)) ?_;rintro _ aY ⟨V,X,W,Y,rfl,hs⟩;have av:=z.add hs;refine LW.al av fun O aZ aw=>?_;refine LW.st aw 0 fun a0 n=>?_;refine gs ?_;obtain ⟨ay,aa,ap⟩:=ob h;refine CW.jn [1,2,4,5] [0,1,2,3,4] [(22,.bool ay)] n (h1:=?_) (h2:=?_)
 · have h:=aa;refine gb h fun ba ad h=>?_;refine LW.c0 (u5 ad rfl (n.rB a) rfl (n.rB o)) n fun a1 R=>?_;refine gB h ?_ ?_ <;> intro _ h
   · refine gb h fun bb ae h=>?_;refine go ?_;refine LW.c0 (qf ae) R fun a2 A=>?_;refine gB h ?_ ?_ <;> intro _ h
     · refine gb h fun bc af h=>?_;obtain ⟨aP,aV,aC,rfl,B,aD,aG,⟨aM,aS,aN,aT,aO,aU,rfl,aJ,aK,aL⟩,ac⟩:=a.idx af;refine go ?_;refine LW.l (iF.iN w0 iY rfl (ac 1 _ rfl)) (A.same _ B.1 B.2) rfl ?_;refine go ?_;cases oi h;exact A.po [0,1,2,3,4]
     refine go ?_;cases oi h;exact A.po [0,1,2,3,4]
   refine go ?_;cases oi h;exact R.po [0,1,2,3,4]
 intro e a3 c;have h:=ap;refine gs ?_;obtain ⟨U,ab,aq⟩:=ob h;refine CW.cut (fun e wb=>En e [(4,.pointer (some ⟨ao,0,none⟩)),(5,.pointer (some ⟨O,0,none⟩))]∧St w0 [] wb [bx O 32 [vS V U.length X,vI f.gc.phase,vI f.gc.pos,vI f.gc.round,vS W f.gc.ia.length Y],sl V X U,sl W Y f.gc.ia,bx ao 32 [vS none 0 0,vI 0,vI 0,vI 0,vS none 0 0]]) ?_ ?_
 · have h:=ab;refine gc h ?_ ?_ <;> intro _ h
   · refine gB h ?_ ?_ <;> intro _ h
     · refine gb h fun bd C h=>?_;obtain ⟨aQ,aW,hae,aE,aH⟩:=c.iJ (α:=bh) (i:=1) rfl C;subst hae;refine go ?_;refine gb h fun aA G h=>?_;refine LW.se 9 c 1 C G (hM:=(j7 (fun w cs F hF=>by obtain ⟨ah,ak,ai,am,aj,an,rfl,hH⟩:=hF;exact ⟨ah,ak,ai,am,aj,an,rfl,hH⟩))) fun a4 u=>?_;refine go ?_;rw [show f.ag.length=aA.length from (iH (oi G))] at u;cases oi h;exact u.po [0,1,2,3]
     refine gb h fun be H h=>?_;obtain ⟨aR,aX,hae,aF,aI⟩:=c.iJ (α:=bh) (i:=1) rfl H;subst hae;refine go ?_;refine gb h fun aB I h=>?_;refine LW.se 9 c 1 H I (hM:=(j7 (fun w cs F hF=>by obtain ⟨ah,ak,ai,am,aj,an,rfl,hH⟩:=hF;exact ⟨ah,ak,ai,am,aj,an,rfl,hH⟩))) fun a5 x=>?_;refine go ?_;rw [show f.ag.length=aB.length from (iH (oi I))] at x;cases oi h;exact x.po [0,1,2,3]
   refine go ?_;cases oi h;exact c.po [0,1,2,3]
 rintro e a7 ⟨hE,Z⟩;obtain ⟨e,rfl⟩:=hE.out;have h:=aq;refine go ?_;refine LW.st Z 3 fun a9 y=>?_;refine go ?_;cases h;exact And.intro trivial ⟨_,jB.one (ib.b y 3 rfl pc rfl rfl),V,X,W,Y,rfl,y.pk [1,2]⟩
end Go.Kx
