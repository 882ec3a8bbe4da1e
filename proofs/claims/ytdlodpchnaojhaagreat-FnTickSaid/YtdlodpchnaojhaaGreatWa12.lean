/- Each call returns what the plain function says. Printed by drive.py. -/
import Derived.Test.YtdlodpchnaojhaaGreatFa
import Derived.Test.YtdlodpchnaojhaaGreatPu
import Derived.Test.YtdlodpchnaojhaaGreatWa5
import Derived.Test.YtdlodpchnaojhaaGreatWa6
import Derived.Test.YtdlodpchnaojhaaGreatWa7
import Derived.Test.YtdlodpchnaojhaaGreatWa9
import Derived.Test.YtdlodpchnaojhaaGreatWa10
import Derived.Test.YtdlodpchnaojhaaGreatWa11
namespace Go.Kx
open Go Go.RowKit Go.Proofs
set_option maxRecDepth 10000
set_option maxHeartbeats 8000000
set_option linter.unusedVariables false
set_option linter.unusedSimpArgs false
theorem rf {w0 N a r} (h:mH N a=some r) {c M m} (X:M=a.label.levels.length) (ad:rb w0 c m a.label.levels) {d O n} (Y:O=a.own.length) (ae:rb w0 d n a.own) {f R p} (Z:R=a.tree.length) (af:rb w0 f p a.tree) {g U q} (aa:U=a.heap.ag.length) (ah:rb w0 g q a.heap.ag) {i V s} (ab:V=a.heap.gc.ia.length) (ai:rb w0 i s a.heap.gc.ia) {k W t} (ac:W=a.ij.length) (aj:rb w0 k t a.ij) :
    iq Tryz.prog 112 #[.agg #[vS c M m,vS d O n,vS f R p,vS g U q,vI a.heap.gc.phase,vI a.heap.gc.pos,vI a.heap.gc.round,vS i V s,vS k W t,vI a.next,vI a.want,vI a.gE.bh,vI a.gE.ib,vI a.gE.ik,vI a.iH,vI a.lost]] w0 (fun v w=>v=.bool r∧St w0 [] w []):=by
 subst X Y Z aa ab ac;unfold mH at h;refine iq.fn Tryz.func112 fun e=>?_;have aF:=St.start w0;refine go ?_;refine LW.bo aF fun bi bj aG=>?_;refine go ?_;obtain ⟨an,ar,ak⟩:=ob h;refine CW.mono (CW.lx [1,6,7] [0] [1] 0 (fun aL=>[(8,vI aL)]) (RT Tryz.prog Tryz.f112.results (fun u=>.bool u) w0 []) aG ar (hb:=?_)) ?_
 · intro aL e bk o H h;refine gc h ?_ ?_ <;> intro _ h
   · refine gb h fun bl aJ h=>?_;obtain ⟨bg,aQ,aM,rfl,L,aO,aP,rfl,aq⟩:=aj.idx aJ;refine go ?_;refine LW.l (iC.jH w0 wH rfl rfl (fun j u hu=>aq j u hu)) (H.same _ L.1 L.2) rfl ?_;refine LW.al H fun aN aS aH=>?_;refine LW.st aH 0 fun aT aI=>?_;refine gb h fun a6 au h=>?_;refine LW.c0 (xv au) aI fun aU am=>?_;refine go ?_;refine CW.fl [1,6,7,8,14] fun e=>?_;refine gc h ?_ ?_ <;> intro _ h
     · refine go ?_;cases oi h;exact ⟨trivial,rfl,_,rfl,rx ⟨rfl,am.pk []⟩⟩
     refine go ?_;cases oi h;exact ⟨rfl,(am.po [1])⟩
   refine go ?_;cases oi h;exact ⟨trivial,rfl,(H.po [0])⟩
 intro x e aV hM;rcases an with an | aR
 · obtain ⟨rfl,hM⟩:=hM;obtain ⟨e,rfl,I⟩:=eo hM;have h:=ak;refine gs ?_;obtain ⟨aK,ap,aE⟩:=ob h;refine CW.jn [1] [0] [(43,.bool aK)] I (h1:=?_) (h2:=?_)
   · have h:=ap;refine gb h fun a7 av h=>?_;refine LW.c0 (Dl av rfl (I.rB ad)) I fun aW J=>?_;refine gB h ?_ ?_ <;> intro _ h
     · refine go ?_;cases oi h;exact J.po [0]
     refine gb h fun a8 aw h=>?_;refine go ?_;refine LW.c0 (GF aw rfl (J.rB ae)) J fun aX K=>?_;refine gB h ?_ ?_ <;> intro _ h
     · refine go ?_;cases oi h;exact K.po [0]
     refine gb h fun a9 ax h=>?_;refine go ?_;refine LW.c0 (rh ax rfl (K.rB af)) K fun aY b=>?_;refine go ?_;refine bH h ?_ ?_ <;> intro _ h
     · refine go ?_;cases oi h;exact b.po [0]
     refine gb h fun ba ay h=>?_;refine go ?_;refine LW.c0 (z0 ay rfl (b.rB ah) rfl (b.rB ai)) b fun aZ y=>?_;refine gB h ?_ ?_ <;> intro _ h
     · refine go ?_;cases oi h;exact y.po [0]
     refine go ?_;cases oi h;exact y.po [0]
   intro e a0 z;have h:=aE;refine gc h ?_ ?_ <;> intro _ h
   · refine go ?_;cases h;exact fi z
   refine gb h fun bb az h=>?_;refine LW.c0 (wm az) z fun a1 A=>?_;refine gB h ?_ ?_ <;> intro _ h
   · refine gb h fun bc aA h=>?_;refine go ?_;refine LW.c0 (jE aA) A fun a2 B=>?_;refine gB h ?_ ?_ <;> intro _ h
     · refine gb h fun bd aB h=>?_;refine go ?_;refine LW.c0 (nn aB) B fun a3 C=>?_;refine gB h ?_ ?_ <;> intro _ h
       · refine go ?_;have ⟨be,aC,h⟩:=ob h;refine go ?_;refine LW.c0 (nR aC) C fun a4 G=>?_;refine gB h ?_ ?_ <;> intro _ h
         · refine gb h fun bf aD h=>?_;refine go ?_;refine LW.c0 (nR aD) G fun a5 ao=>?_;refine go ?_;cases h;exact fi ao
         refine go ?_;cases h;exact fi G
       refine go ?_;cases h;exact fi C
     refine go ?_;cases h;exact fi B
   refine go ?_;cases h;exact fi A
 obtain ⟨rfl,u,rfl,hM⟩:=hM;cases ak;exact And.intro trivial hM
theorem yl {w0 N a r} (h:pq N a=some r) {g y n} (H:y=a.label.levels.length) (O:rb w0 g n a.label.levels) {i z o} (I:z=a.own.length) (R:rb w0 i o a.own) {j A p} (J:A=a.tree.length) (f:rb w0 j p a.tree) {k B q} (K:B=a.heap.ag.length) (U:rb w0 k q a.heap.ag) {l C s} (L:C=a.heap.gc.ia.length) (V:rb w0 l s a.heap.gc.ia) {m G t} (M:G=a.ij.length) (W:rb w0 m t a.ij) :
    iq Tryz.prog 64 #[.agg #[vS g y n,vS i z o,vS j A p,vS k B q,vI a.heap.gc.phase,vI a.heap.gc.pos,vI a.heap.gc.round,vS l C s,vS m G t,vI a.next,vI a.want,vI a.gE.bh,vI a.gE.ib,vI a.gE.ik,vI a.iH,vI a.lost]] w0 (fun v w=>v=.agg #[vI r.bh,vI r.ib,vI r.ik]∧St w0 [] w []):=by
 subst H I J K L M;unfold pq at h;refine iq.fn Tryz.func64 fun e=>?_;have af:=St.start w0;refine go ?_;refine LW.bo af fun ay aB ah=>?_;refine LW.al ah fun az aC X=>?_;refine gb h fun aG am h=>?_;refine LW.c0 (yi am rfl (X.rB f)) X fun aD ai=>?_;refine LW.al ai fun aA aE aj=>?_;refine LW.st aj 0 fun aF ak=>?_;refine gb h fun av ac h=>?_;refine LW.c0 (nn ac) ak fun an Y=>?_;refine gc h ?_ ?_ <;> intro _ h
 · refine go ?_;refine LW.st Y 1 fun ao Z=>?_;refine go ?_;cases h;exact And.intro trivial ⟨_,jB.one (ic.b Z 1 rfl kt rfl rfl),rfl,Z.pk []⟩
 refine go ?_;refine CW.draw (by kernel_rfl) ?_;have d:=Y.drew;refine gb h fun aw ad h=>?_;refine jO 3 ?_;refine LW.cl (HY ad rfl (d.rB O) rfl (d.rB R) rfl (d.rB f) rfl (d.rB U) rfl (d.rB V) rfl (d.rB W)) ?_;rintro _ ap ⟨rfl,hs⟩;have u:=d.add hs;refine jN (jW (.c (u.ce 0) jZ)) ?_;refine go ?_;refine jO 6 ?_;refine LW.st u 0 fun aq aa=>?_;refine jN (jW (jW jZ)) ?_;refine gb h fun ax ae h=>?_;refine LW.c0 (oM ae) aa fun ar ab=>?_;refine LW.st ab 1 fun au x=>?_;refine go ?_;cases h;exact And.intro trivial ⟨_,jB.one (ic.b x 1 rfl kt rfl rfl),rfl,x.pk []⟩
theorem xH {w0 N af au A r} (h:oz N af au A=some r) {g t l} (z:t=af.length) (a:rb w0 g l af) :
    iq Tryz.prog 119 #[vS g t l,vI au,.agg #[vI A.bh,vI A.ib,vI A.ik]] w0 (fun v w=>∃ B C,v=.tuple #[vS B r.1.length C,.bool r.2]∧St w0 [] w [sl B C r.1]):=by
 subst z;unfold oz at h;refine iq.fn Tryz.func119 fun e=>?_;have ai:=St.start w0;refine go ?_;refine LW.bo ai fun aV aW G=>?_;refine gb h fun av ao h=>?_;refine LW.cl (sR ao rfl (G.rB a)) ?_;rintro _ aX ⟨aw,y,rfl,hs⟩;have H:=G.add hs;refine gs ?_;obtain ⟨aB,an,ay⟩:=ob h;refine CW.jn [0,1,5,8] [0,1] [(26,.bool aB)] H (h1:=?_) (h2:=?_)
 · have h:=an;refine CW.draw (by kernel_rfl) ?_;have I:=H.drew;refine gb h fun aY ap h=>?_;refine jO 1 ?_;refine LW.cl (rh ap rfl (I.rB a)) ?_;rintro _ aF ⟨rfl,hs⟩;have J:=I.add hs;refine jN jZ ?_;refine gB h ?_ ?_ <;> intro V h
   · refine go ?_;cases oi h;exact J.po [0,1]
   refine gb h fun aO Z h=>?_;refine jO 5 ?_;refine (LW.gY (jP rfl rfl V) ?_);refine LW.cl (nn Z) ?_;rintro _ aG ⟨rfl,hs⟩;have p:=J.add hs;refine jn ?_;refine gB h ?_ ?_ <;> intro d h
   · refine go ?_;cases oi h;exact p.po [0,1]
   refine gb h fun aP aa h=>?_;refine jO 10 ?_;refine (LW.gY (jP rfl rfl d) ?_);refine LW.cl (yi aa rfl (p.rB a)) ?_;rintro _ aH ⟨rfl,hs⟩;have aj:=p.add hs;refine jn ?_;have ⟨aQ,ab,h⟩:=ob h;refine jO 12 ?_;refine (LW.gY (jP rfl rfl d) ?_);refine LW.cl (oM ab) ?_;rintro _ aI ⟨rfl,hs⟩;have ak:=aj.add hs;refine jn ?_;have ⟨aR,ac,h⟩:=ob h;refine jO 13 ?_;refine (LW.gY (jP rfl rfl d) ?_);refine LW.cl (nn ac) ?_;rintro _ aJ ⟨rfl,hs⟩;have am:=ak.add hs;refine jn ?_;refine go ?_;cases oi h;exact am.po [0,1]
 intro e aK b;have h:=ay;refine gc h ?_ ?_ <;> intro _ h
 · refine go ?_;cases h;exact Rc tt tt ⟨aw,y,rfl,b.pk [0]⟩
 refine gb h fun aS ad h=>?_;refine LW.c0 (tm ad rfl (b.rB a)) b fun aL c=>?_;refine gs ?_;obtain ⟨aq,X,ah⟩:=ob h;refine CW.jn [5,8] [0,1] [(1,vI aq)] c (h1:=?_) (h2:=?_)
 · have h:=X;refine gc h ?_ ?_ <;> intro _ h
   · refine go ?_;cases oi h;exact c.po [0,1]
   refine go ?_;cases oi h;exact c.po [0,1]
 intro e ar L;have h:=ah;refine go ?_;refine CW.draw (by kernel_rfl) ?_;have n:=L.drew;refine gb h fun aT f h=>?_;obtain ⟨k,x,hae,az,aA⟩:=n.iJ (α:=ir) (i:=0) rfl f;subst hae;refine go ?_;obtain ⟨aC,q,o⟩:=n.freeze (α:=ir) 0 rfl;obtain ⟨aD,aE,ax,hae,U,_,_,W,Y⟩:=q.kr.idx f;cases hae;obtain rfl:=W;refine AW.take (i:=6) rfl (by kernel_rfl) rfl rfl (iC.jH ar.drew kt rfl rfl (fun j u hu=>m5 (m:=3) Y 2 hu)) (o.zC 0 rfl U) ?_;refine gb h fun aU ae h=>?_;refine jO 8 ?_;refine LW.cl (oM ae) ?_;rintro _ aM ⟨rfl,hs⟩;have M:=o.add hs;refine jn ?_;refine go ?_;have O:=M.jj (α:=ir) 0 rfl q;have ⟨K,s,h⟩:=ob h;refine jO 11 ?_;refine LW.se 2 O 0 f s (hM:=(kq (fun w cs F hF=>by obtain ⟨rfl,rfl⟩:=hF;exact ⟨rfl,rfl⟩))) fun aN R=>?_;refine jn ?_;refine go ?_;replace h:=oi h;subst h;exact Rc tt tt ⟨(some ⟨k,x,none⟩),y,(show (.tuple #[vS (some ⟨k,x,none⟩) av.length y,.bool true]:Value)=.tuple #[vS (some ⟨k,x,none⟩) K.length y,.bool true] by rw [show av.length=K.length from (iM (oi s))]),R.pk [0]⟩
theorem xS {w0 N a am r} (h:qn N a am=some r) {g C q} (L:C=a.label.levels.length) (W:rb w0 g q a.label.levels) {k G s} (M:G=a.own.length) (X:rb w0 k s a.own) {l H t} (O:H=a.tree.length) (d:rb w0 l t a.tree) {n I x} (R:I=a.heap.ag.length) (f:rb w0 n x a.heap.ag) {o J y} (U:J=a.heap.gc.ia.length) (Y:rb w0 o y a.heap.gc.ia) {p K z} (V:K=a.ij.length) (Z:rb w0 p z a.ij) :
    iq Tryz.prog 210 #[.agg #[vS g C q,vS k G s,vS l H t,vS n I x,vI a.heap.gc.phase,vI a.heap.gc.pos,vI a.heap.gc.round,vS o J y,vS p K z,vI a.next,vI a.want,vI a.gE.bh,vI a.gE.ib,vI a.gE.ik,vI a.iH,vI a.lost],vI am] w0 (fun v w=>v=.agg #[vI r.bh,vI r.ib,vI r.ik]∧St w0 [] w []):=by
 subst L M O R U V;unfold qn at h;refine iq.fn Tryz.func210 fun e=>?_;have ah:=St.start w0;refine go ?_;refine LW.bo ah fun aL aO ai=>?_;refine LW.al ai fun aM aP aj=>?_;refine go ?_;refine CW.draw (by kernel_rfl) ?_;have c:=aj.drew;refine gb h fun aQ ak h=>?_;obtain ⟨aK,aN,an,rfl,A,aD,aE,⟨aw,aA,ax,aB,ay,aC,rfl,ar,au,av⟩,ac⟩:=f.idx ak;refine go ?_;refine AW.take (i:=9) rfl (by kernel_rfl) rfl rfl (iC.iP w0 jc rfl (ac 3 _ rfl)) (c.same _ A.1 A.2) ?_;have ⟨aI,ae,h⟩:=ob h;refine jO 10 ?_;refine LW.cl (AJ ae rfl (c.rB W) rfl (c.rB X) rfl (c.rB d) rfl (c.rB f) rfl (c.rB Y) rfl (c.rB Z)) ?_;rintro _ aG ⟨rfl,hs⟩;have aa:=c.add hs;refine jn ?_;have ⟨aJ,af,h⟩:=ob h;obtain ⟨az,aF,ao,rfl,B,ap,aq,rfl,ad⟩:=d.idx af;refine go ?_;refine AW.take (i:=13) rfl (by kernel_rfl) rfl rfl (iC.jH w0 kt rfl rfl (fun j u hu=>m5 (m:=3) ad 2 hu)) (aa.same _ B.1 B.2) ?_;refine jO 14 ?_;refine LW.st aa 0 fun aH ab=>?_;refine jn ?_;refine go ?_;cases h;exact And.intro trivial ⟨_,jB.one (ic.b ab 0 rfl kt rfl rfl),rfl,ab.pk []⟩
theorem Cb {w0 N M Z aa ab r} (h:qv N M Z aa ab=some r) {g p j} (q:p=M.length) (f:rb w0 g j M) :
    iq Tryz.prog 116 #[vS g p j,vI Z,vI aa,vI ab] w0 (fun v w=>v=vI r∧St w0 [] w []):=by
 subst q;unfold qv at h;refine iq.fn Tryz.func116 fun e=>?_;have s:=St.start w0;refine gb h fun aR V h=>?_;refine LW.cl (AI V rfl (s.rB f)) ?_;rintro _ aP ⟨aN,aO,rfl,hs⟩;have l:=s.add hs;refine gs ?_;obtain ⟨ao,U,ae⟩:=ob h;refine CW.jn [0,3,9] [0] [(27,.bool ao)] l (h1:=?_) (h2:=?_)
 · have h:=U;refine gB h ?_ ?_ <;> intro _ h
   · refine go ?_;cases oi h;exact l.po [0]
   refine gb h fun aS W h=>?_;refine go ?_;refine LW.c0 (oI W) l fun aQ t=>?_;refine gB h ?_ ?_ <;> intro _ h
   · refine go ?_;cases oi h;exact t.po [0]
   refine gb h fun aI I h=>?_;refine go ?_;refine LW.c0 (Aa I) t fun aE R=>?_;refine go ?_;cases oi h;exact R.po [0]
 intro e aF u;have h:=ae;refine gc h ?_ ?_ <;> intro _ h
 · refine go ?_;cases h;exact fi u
 refine gb h fun aJ J h=>?_;refine LW.c0 (Au J) u fun aG x=>?_;refine gs ?_;obtain ⟨X,C,O⟩:=ob h;refine CW.jn [10] [] [(52,.bool X)] x (h1:=?_) (h2:=?_)
 · have h:=C;refine CW.draw (by kernel_rfl) ?_;have d:=x.drew;refine gb h fun aK K h=>?_;obtain ⟨av,aB,ac,rfl,a,af,ai,⟨aq,ay,ar,az,au,aA,rfl,ak,am,an⟩,n⟩:=f.idx K;refine go ?_;refine AW.take (i:=4) rfl (by kernel_rfl) rfl rfl (iC.iP w0 jc rfl (n 1 _ rfl)) (d.same _ a.1 a.2) ?_;refine gB h ?_ ?_ <;> intro m h
   · refine go ?_;cases oi h;exact d.po []
   refine go ?_;refine AW.take (i:=11) rfl (by kernel_rfl) (jP rfl rfl m) rfl (iC.iP w0 jc rfl (n 0 _ rfl)) (d.same _ a.1 a.2) ?_;refine gb h fun aL L h=>?_;refine jO 13 ?_;refine (LW.gY (jP rfl rfl m) ?_);refine LW.cl (Bt L) ?_;rintro _ Y ⟨rfl,hs⟩;have b:=d.add hs;refine jN (.c (b.same _ a.1 a.2) (.c (b.same _ a.1 a.2) jZ)) ?_;refine gB h ?_ ?_ <;> intro A h
   · refine go ?_;cases oi h;exact b.po []
   refine gb h fun aM o h=>?_;obtain ⟨aw,aC,hae,ah,aj⟩:=b.iJ (α:=Bool) (i:=0) rfl o;subst hae;refine go ?_;obtain ⟨ap,H,y⟩:=b.freeze (α:=Bool) 0 rfl;obtain ⟨ax,aD,ad,hae,z,_,_,B,G⟩:=H.kr.idx o;cases hae;obtain rfl:=B;refine AW.take (i:=20) rfl (by kernel_rfl) (jP rfl rfl A) rfl (iC.iP Y qI rfl (G 0 _ rfl)) (y.zC 0 rfl z) ?_;refine go ?_;cases oi h;exact y.po []
 intro e aH k;have h:=O;refine gc h ?_ ?_ <;> intro _ h
 · refine go ?_;cases h;exact fi k
 refine go ?_;cases h;exact fi k
theorem vN {w0 N k r} (h:n7 N k=some r) {c g d} (i:g=k.parts.length) (b:rb w0 c d k.parts) :
    iq Tryz.prog 11 #[.agg #[vI k.now,vS c g d]] w0 (fun v w=>v=.bool r∧St w0 [] w []):=by
 subst i;unfold n7 at h;refine iq.fn Tryz.func11 fun e=>?_;have V:=St.start w0;refine go ?_;refine LW.bo V fun aJ aK n=>?_;refine gs ?_;obtain ⟨af,Y,ac⟩:=ob h;refine CW.jn [1] [0] [(14,.bool af)] n (h1:=?_) (h2:=?_)
 · have h:=Y;refine gb h fun aN Z h=>?_;refine LW.c0 (ji Z) n fun aL p=>?_;refine gB h ?_ ?_ <;> intro _ h
   · refine go ?_;cases oi h;exact p.po [0]
   refine gb h fun aO aa h=>?_;refine go ?_;refine LW.c0 (ji aa) p fun aM W=>?_;refine go ?_;cases oi h;exact W.po [0]
 intro e az q;have h:=ac;refine gc h ?_ ?_ <;> intro _ h
 · refine go ?_;cases h;exact fi q
 refine go ?_;obtain ⟨y,C,m⟩:=ob h;refine CW.mono (CW.lx [1] [0] [1] 0 (fun z=>[(3,vI z)]) (RT Tryz.prog Tryz.f11.results (fun u=>.bool u) w0 []) q C (hb:=?_)) ?_
 · intro z e aA o a h;refine gc h ?_ ?_ <;> intro _ h
   · refine gb h fun aF M h=>?_;obtain ⟨ao,ax,ab,rfl,f,ad,ae,⟨ah,ap,ai,aq,aj,ar,ak,au,am,av,an,aw,rfl,G,H,I,J,K,L⟩,B⟩:=b.idx M;refine go ?_;refine LW.l (iC.jH w0 jz rfl rfl (fun j u hu=>B j u hu)) (a.same _ f.1 f.2) rfl ?_;have ⟨aG,O,h⟩:=ob h;refine LW.c0 (wG O rfl (a.rB G) rfl (a.rB H) rfl (a.rB I) rfl (a.rB J) rfl (a.rB K) rfl (a.rB L)) a fun aB s=>?_;refine go ?_;refine CW.fl [1,3,28] fun e=>?_;refine gc h ?_ ?_ <;> intro _ h
     · refine go ?_;cases oi h;exact ⟨trivial,rfl,_,rfl,rx ⟨rfl,s.pk []⟩⟩
     refine go ?_;cases oi h;exact ⟨rfl,(s.po [0])⟩
   refine go ?_;cases oi h;exact ⟨trivial,rfl,(a.po [0])⟩
 intro x e aC hM;rcases y with y | ay
 · obtain ⟨rfl,hM⟩:=hM;obtain ⟨e,rfl,t⟩:=eo hM;have h:=m;refine gb h fun aH R h=>?_;refine LW.c0 (zy R rfl (t.rB b)) t fun aD X=>?_;have ⟨aI,U,h⟩:=ob h;refine LW.c0 (mc U) X fun aE A=>?_;refine go ?_;cases h;exact fi A
 obtain ⟨rfl,u,rfl,hM⟩:=hM;cases m;exact And.intro trivial hM
theorem Du {w0 N a ac ad r} (h:rr N a ac ad=some r) {d x m} (G:x=a.label.levels.length) (M:rb w0 d m a.label.levels) {f y n} (H:y=a.own.length) (O:rb w0 f n a.own) {g z o} (I:z=a.tree.length) (R:rb w0 g o a.tree) {i A p} (J:A=a.heap.ag.length) (c:rb w0 i p a.heap.ag) {j B q} (K:B=a.heap.gc.ia.length) (U:rb w0 j q a.heap.gc.ia) {k C s} (L:C=a.ij.length) (V:rb w0 k s a.ij) :
    iq Tryz.prog 78 #[.agg #[vS d x m,vS f y n,vS g z o,vS i A p,vI a.heap.gc.phase,vI a.heap.gc.pos,vI a.heap.gc.round,vS j B q,vS k C s,vI a.next,vI a.want,vI a.gE.bh,vI a.gE.ib,vI a.gE.ik,vI a.iH,vI a.lost],vI ac,vI ad] w0 (fun v w=>v=.bool r∧St w0 [] w []):=by
 subst G H I J K L;unfold rr at h;refine iq.fn Tryz.func78 fun e=>?_;have Z:=St.start w0;refine go ?_;refine LW.bo Z fun az aA b=>?_;refine gb h fun aD aa h=>?_;refine LW.cl (DA aa rfl (b.rB M) rfl (b.rB O) rfl (b.rB R) rfl (b.rB c) rfl (b.rB U) rfl (b.rB V)) ?_;rintro _ aB ⟨ax,ay,rfl,hs⟩;have W:=b.add hs;refine gb h fun aE ab h=>?_;refine LW.c0 (qd ab rfl (W.rI 0 rfl)) W fun aC t=>?_;refine gB h ?_ ?_ <;> intro _ h
 · refine gb h fun aw Y h=>?_;obtain ⟨ap,av,ae,rfl,u,af,ah,⟨am,aq,an,ar,ao,au,rfl,ai,aj,ak⟩,X⟩:=c.idx Y;refine go ?_;refine LW.l (iC.iP w0 jc rfl (X 6 _ rfl)) (t.same _ u.1 u.2) rfl ?_;refine go ?_;cases h;exact fi t
 refine go ?_;cases h;exact fi t
theorem rq {w0 N a V W X r} (h:mI N a V W X=some r) {b q j} (z:q=a.label.levels.length) (Y:rb w0 b j a.label.levels) {c s k} (A:s=a.own.length) (Z:rb w0 c k a.own) {d t l} (B:t=a.tree.length) (aa:rb w0 d l a.tree) {f u m} (C:u=a.heap.ag.length) (I:rb w0 f m a.heap.ag) {g x n} (G:x=a.heap.gc.ia.length) (ab:rb w0 g n a.heap.gc.ia) {i y o} (H:y=a.ij.length) (ac:rb w0 i o a.ij) :
    iq Tryz.prog 246 #[.agg #[vS b q j,vS c s k,vS d t l,vS f u m,vI a.heap.gc.phase,vI a.heap.gc.pos,vI a.heap.gc.round,vS g x n,vS i y o,vI a.next,vI a.want,vI a.gE.bh,vI a.gE.ib,vI a.gE.ik,vI a.iH,vI a.lost],vI V,vI W,vI X] w0 (fun v w=>v=.tuple #[vI r.1,vI r.2]∧St w0 [] w []):=by
 subst z A B C G H;unfold mI at h;refine iq.fn Tryz.func246 fun e=>?_;have L:=St.start w0;refine go ?_;refine LW.bo L fun ae af M=>?_;refine gb h fun aj O h=>?_;refine LW.c0 (mK O) M fun ah J=>?_;refine gc h ?_ ?_ <;> intro _ h
 · refine go ?_;cases h;exact Rc tt tt ⟨rfl,J.pk []⟩
 refine gb h fun ak R h=>?_;refine LW.c0 (vT R) J fun ai p=>?_;refine gc h ?_ ?_ <;> intro _ h
 · refine go ?_;cases h;exact Rc tt tt ⟨rfl,p.pk []⟩
 refine gb h fun am U h=>?_;refine LW.c0 (xy U rfl (p.rB I)) p fun ad K=>?_;refine go ?_;refine CW.fl [10,26] fun e=>?_;refine gc h ?_ ?_ <;> intro _ h
 · refine go ?_;cases h;exact Rc tt tt ⟨rfl,K.pk []⟩
 refine go ?_;cases h;exact Rc tt tt ⟨rfl,K.pk []⟩
theorem Fu {w0} {F:List Nat} {N f s r} (h:sZ N f s=some r) {g am m} (au:am=f.label.levels.length) {i an n} (av:an=f.own.length) {t ao x} (aw:ao=f.tree.length) {j ap o} (ax:ap=f.heap.ag.length) {k aq p} (ay:aq=f.heap.gc.ia.length) {l ar q} (az:ar=f.ij.length) (hS:St w0 F w0 [sl g m f.label.levels,sl i n f.own,sl t x f.tree,sl j o f.heap.ag,sl k p f.heap.gc.ia,sl l q f.ij]) :
    iq Tryz.prog 159 #[.agg #[vS g am m,vS i an n,vS t ao x,vS j ap o,vI f.heap.gc.phase,vI f.heap.gc.pos,vI f.heap.gc.round,vS k aq p,vS l ar q,vI f.next,vI f.want,vI f.gE.bh,vI f.gE.ib,vI f.gE.ik,vI f.iH,vI f.lost],.agg #[vI s.kind,vI s.a,vI s.b,vI s.c,vI s.d,vI s.e]] w0 (fun v w=>∃ J U, ∃ K V, ∃ L W, ∃ M X, ∃ O Y, ∃ R Z,v=.tuple #[.agg #[vS J r.1.label.levels.length U,vS K r.1.own.length V,vS L r.1.tree.length W,vS M r.1.heap.ag.length X,vI r.1.heap.gc.phase,vI r.1.heap.gc.pos,vI r.1.heap.gc.round,vS O r.1.heap.gc.ia.length Y,vS R r.1.ij.length Z,vI r.1.next,vI r.1.want,vI r.1.gE.bh,vI r.1.gE.ib,vI r.1.gE.ik,vI r.1.iH,vI r.1.lost],.agg #[vI r.2.code,vI r.2.val]]∧St w0 F w [sl J U r.1.label.levels,sl K V r.1.own,sl L W r.1.tree,sl M X r.1.heap.ag,sl O Y r.1.heap.gc.ia,sl R Z r.1.ij]):=by
 subst au av aw ax ay az;unfold sZ at h;refine iq.fn Tryz.func159 fun e=>?_;refine go ?_;refine LW.bo hS fun bY b2 a8=>?_;refine LW.bo a8 fun bZ b3 a9=>?_;refine LW.al a9 fun b0 b4 ba=>?_;refine LW.al ba fun b1 b5 y=>?_;refine gc h ?_ ?_ <;> intro _ h
 · refine gs ?_;obtain ⟨bd,aO,a6⟩:=ob h;refine CW.jn [2,3,4,5] [0,1,2,3,4,5,6,7,8,9] [(31,.bool bd)] y (h1:=?_) (h2:=?_)
   · have h:=aO;refine gb h fun bP aQ h=>?_;refine LW.c0 (nW aQ) y fun bf aA=>?_;refine gB h ?_ ?_ <;> intro _ h
     · refine go ?_;cases oi h;exact aA.po [0,1,2,3,4,5,6,7,8,9]
     refine go ?_;refine LW.u (iD.build (vs:=[(0,vI s.b),(1,vI s.c),(2,vI s.d)]) (cs:=#[vI s.b,vI s.c,vI s.d]) rfl (by kernel_rfl)) rfl ?_;have ⟨bQ,aR,h⟩:=ob h;refine go ?_;refine LW.c0 (mc aR) aA fun bg bb=>?_;refine go ?_;cases oi h;exact bb.po [0,1,2,3,4,5,6,7,8,9]
   intro e bi aj;have h:=a6;refine gc h ?_ ?_ <;> intro _ h
   · refine go ?_;refine LW.u (iD.build (vs:=[(0,vI 2)]) (cs:=#[vI 2,vI 0]) rfl (by kernel_rfl)) rfl ?_;refine LW.st aj 1 fun bj bc=>?_;refine LW.st bc 0 fun bk ak=>?_;refine go ?_;cases h;exact Rc (ic.b ak 1 rfl jz rfl rfl) (ic.b ak 0 rfl ki rfl rfl) ⟨g,m,i,n,t,x,j,o,k,p,l,q,rfl,ak.pk [4,5,6,7,8,9]⟩
   refine go ?_;refine LW.u (iD.build (vs:=[(0,vI s.b),(1,vI s.c),(2,vI s.d)]) (cs:=#[vI s.b,vI s.c,vI s.d]) rfl (by kernel_rfl)) rfl ?_;have ⟨aB,aS,h⟩:=ob h;refine LW.cl (w5 aS rfl (aj.rI 6 rfl)) ?_;rintro _ bl ⟨a0,a3,rfl,hs⟩;have aa:=aj.add hs;refine go ?_;refine CW.fl [2,4,5,6,7,51] fun e=>?_;refine gc h ?_ ?_ <;> intro _ h
   · refine go ?_;refine LW.u (iD.build (vs:=[(0,vI 6)]) (cs:=#[vI 6,vI 0]) rfl (by kernel_rfl)) rfl ?_;refine LW.st aa 2 fun bm aC=>?_;refine LW.st aC 1 fun bn z=>?_;refine go ?_;cases h;exact Rc (ic.b z 2 rfl jz rfl rfl) (ic.b z 1 rfl ki rfl rfl) ⟨g,m,i,n,t,x,j,o,k,p,l,q,rfl,z.pk [5,6,7,8,9,10]⟩
   refine go ?_;refine LW.st aa 4 fun bp aD=>?_;refine go ?_;refine LW.u (iD.build (vs:=[(1,vI aB.2.1)]) (cs:=#[vI 0,vI aB.2.1]) rfl (by kernel_rfl)) rfl ?_;refine LW.st aD 2 fun bq aE=>?_;refine LW.st aE 1 fun br A=>?_;refine go ?_;cases h;exact Rc (ic.b A 2 rfl jz rfl rfl) (ic.b A 1 rfl ki rfl rfl) ⟨g,m,i,n,a0,a3,j,o,k,p,l,q,rfl,A.pk [5,6,0,8,9,10]⟩
 refine gc h ?_ ?_ <;> intro _ h
 · refine gs ?_;obtain ⟨be,aP,a7⟩:=ob h;refine CW.jn [2,3,4,5] [0,1,2,3,4,5,6,7,8,9] [(82,.bool be)] y (h1:=?_) (h2:=?_)
   · have h:=aP;refine gb h fun bR aT h=>?_;refine LW.c0 (nW aT) y fun bs ab=>?_;refine gB h ?_ ?_ <;> intro _ h
     · refine go ?_;cases oi h;exact ab.po [0,1,2,3,4,5,6,7,8,9]
     refine gb h fun bS aU h=>?_;refine go ?_;refine LW.c0 (nW aU) ab fun bt ac=>?_;refine gB h ?_ ?_ <;> intro _ h
     · refine go ?_;cases oi h;exact ac.po [0,1,2,3,4,5,6,7,8,9]
     refine go ?_;have ⟨bT,aV,h⟩:=ob h;refine go ?_;refine LW.c0 (ji aV) ac fun bu ad=>?_;refine gB h ?_ ?_ <;> intro _ h
     · refine go ?_;cases oi h;exact ad.po [0,1,2,3,4,5,6,7,8,9]
     refine gb h fun bU aW h=>?_;refine go ?_;refine LW.c0 (wR aW) ad fun bv aF=>?_;refine go ?_;cases oi h;exact aF.po [0,1,2,3,4,5,6,7,8,9]
   intro e bw ae;have h:=a7;refine gc h ?_ ?_ <;> intro _ h
   · refine go ?_;refine LW.u (iD.build (vs:=[(0,vI 2)]) (cs:=#[vI 2,vI 0]) rfl (by kernel_rfl)) rfl ?_;refine LW.st ae 1 fun bz aG=>?_;refine LW.st aG 0 fun bA B=>?_;refine go ?_;cases h;exact Rc (ic.b B 1 rfl jz rfl rfl) (ic.b B 0 rfl ki rfl rfl) ⟨g,m,i,n,t,x,j,o,k,p,l,q,rfl,B.pk [4,5,6,7,8,9]⟩
   refine go ?_;refine CW.draw (by kernel_rfl) ?_;have aH:=ae.drew;refine gb h fun bV aX h=>?_;refine jO 10 ?_;refine LW.cl (EV aX) ?_;rintro _ bB ⟨rfl,hs⟩;have af:=aH.add hs;refine jn ?_;have ⟨bW,aY,h⟩:=ob h;refine jO 11 ?_;refine LW.cl (C7 aY rfl (af.rI 6 rfl)) ?_;rintro _ bC ⟨a1,a4,rfl,hs⟩;have ah:=af.add hs;refine jn ?_;refine gc h ?_ ?_ <;> intro _ h
   · refine go ?_;refine LW.u (iD.build (vs:=[(0,vI 6)]) (cs:=#[vI 6,vI 0]) rfl (by kernel_rfl)) rfl ?_;refine LW.st ah 2 fun bD aI=>?_;refine LW.st aI 1 fun bE C=>?_;refine go ?_;cases h;exact Rc (ic.b C 2 rfl jz rfl rfl) (ic.b C 1 rfl ki rfl rfl) ⟨g,m,i,n,t,x,j,o,k,p,l,q,rfl,C.pk [5,6,7,8,9,10]⟩
   refine go ?_;refine LW.st ah 4 fun bF aJ=>?_;refine go ?_;refine LW.u (iD.build (vs:=[]) (cs:=#[vI 0,vI 0]) rfl (by kernel_rfl)) rfl ?_;refine LW.st aJ 2 fun bG aK=>?_;refine LW.st aK 1 fun bI G=>?_;refine go ?_;cases h;exact Rc (ic.b G 2 rfl jz rfl rfl) (ic.b G 1 rfl ki rfl rfl) ⟨g,m,i,n,a1,a4,j,o,k,p,l,q,rfl,G.pk [5,6,0,8,9,10]⟩
 refine gb h fun bX aZ h=>?_;refine LW.cl (xa aZ rfl (y.rI 6 rfl)) ?_;rintro _ bJ ⟨a2,a5,rfl,hs⟩;have ai:=y.add hs;refine go ?_;refine CW.fl [2,4,5,11,117] fun e=>?_;refine gc h ?_ ?_ <;> intro _ h
 · refine go ?_;refine LW.u (iD.build (vs:=[(0,vI 2)]) (cs:=#[vI 2,vI 0]) rfl (by kernel_rfl)) rfl ?_;refine LW.st ai 2 fun bK aL=>?_;refine LW.st aL 1 fun bL H=>?_;refine go ?_;cases h;exact Rc (ic.b H 2 rfl jz rfl rfl) (ic.b H 1 rfl ki rfl rfl) ⟨g,m,i,n,t,x,j,o,k,p,l,q,rfl,H.pk [5,6,7,8,9,10]⟩
 refine go ?_;refine LW.st ai 4 fun bM aM=>?_;refine go ?_;refine LW.u (iD.build (vs:=[]) (cs:=#[vI 0,vI 0]) rfl (by kernel_rfl)) rfl ?_;refine LW.st aM 2 fun bN aN=>?_;refine LW.st aN 1 fun bO I=>?_;refine go ?_;cases h;exact Rc (ic.b I 2 rfl jz rfl rfl) (ic.b I 1 rfl ki rfl rfl) ⟨g,m,i,n,a2,a5,j,o,k,p,l,q,rfl,I.pk [5,6,0,8,9,10]⟩
theorem vL {w0 N k r} (h:om N k=some r) {f G g} (H:G=k.parts.length) (I:rb w0 f g k.parts) :
    iq Tryz.prog 52 #[.agg #[vI k.now,vS f G g]] w0 (fun v w=>v=.bool r∧St w0 [] w []):=by
 subst H;unfold om at h;refine iq.fn Tryz.func52 fun e=>?_;have ad:=St.start w0;refine go ?_;refine LW.bo ad fun a1 a2 K=>?_;refine gs ?_;obtain ⟨ar,aj,ao⟩:=ob h;refine CW.jn [1] [0] [(16,.bool ar)] K (h1:=?_) (h2:=?_)
 · have h:=aj;refine gb h fun a5 ak h=>?_;refine LW.c0 (nR ak) K fun a3 L=>?_;refine gB h ?_ ?_ <;> intro _ h
   · refine go ?_;cases oi h;exact L.po [0]
   refine gb h fun a6 am h=>?_;refine go ?_;refine LW.c0 (jE am) L fun a4 ae=>?_;refine go ?_;cases oi h;exact ae.po [0]
 intro e aK M;have h:=ao;refine gc h ?_ ?_ <;> intro _ h
 · refine go ?_;cases h;exact fi M
 refine go ?_;refine LW.u (iD.build (vs:=[]) (cs:=#[vI 0,vI 0,vI 0]) rfl (by kernel_rfl)) rfl ?_;refine LW.al M fun i aL af=>?_;refine LW.st af 0 fun aM ah=>?_;refine go ?_;obtain ⟨O,X,J⟩:=ob h;refine CW.it X (fun d e wb=>En e [(3,.pointer (some ⟨i,0,none⟩)),(19,vS f k.parts.length g),(20,vI (k.parts.length:Int)),(21,vI d.1)]∧St w0 [] wb [bx i 43 [vI d.2.1,vI d.2.2.1,vI d.2.2.2]]) (fun o x e wb=>match o with | .inl d=>x=.exit 0∧En e [(3,.pointer (some ⟨i,0,none⟩))]∧St w0 [] wb [bx i 43 [vI d.2.1,vI d.2.2.1,vI d.2.2.2]] | .inr r=>x=.ret∧∃ u,u=r∧∃ v,jB Tryz.prog Tryz.f52.results e wb v∧v=.bool u∧St w0 [] wb []) ?_ (ah.po [0]) ?_
 · intro d e aN o hM h;obtain ⟨hE,q⟩:=hM;obtain ⟨e,rfl⟩:=hE.out;refine gc h ?_ ?_ <;> intro _ h
   · refine gb h fun aW Y h=>?_;obtain ⟨aA,aI,an,rfl,s,ap,aq,⟨au,aB,av,aC,aw,aD,ax,aE,ay,aF,az,aG,rfl,t,y,z,A,B,C⟩,W⟩:=I.idx Y;refine go ?_;refine LW.l (iC.jH w0 jz rfl rfl (fun j u hu=>W j u hu)) (q.same _ s.1 s.2) rfl ?_;refine LW.al q fun aH aO ai=>?_;refine LW.st ai 0 fun aP a=>?_;refine gb h fun aX Z h=>?_;refine LW.c0 (rf Z rfl (a.rB t) rfl (a.rB y) rfl (a.rB z) rfl (a.rB A) rfl (a.rB B) rfl (a.rB C)) a fun aQ m=>?_;refine go ?_;refine CW.fl [3,5,19,20,21,27] fun e=>?_;refine gc h ?_ ?_ <;> intro _ h
     · refine go ?_;cases oi h;exact ⟨trivial,rfl,_,rfl,rx ⟨rfl,m.pk []⟩⟩
     refine go ?_;refine CW.draw (by kernel_rfl) ?_;have b:=m.drew;refine gb h fun aY aa h=>?_;refine jO 2 ?_;refine LW.cl (yl aa rfl (b.rB t) rfl (b.rB y) rfl (b.rB z) rfl (b.rB A) rfl (b.rB B) rfl (b.rB C)) ?_;rintro _ aR ⟨rfl,hs⟩;have n:=b.add hs;refine jN (jW (.c (n.ce 1) jZ)) ?_;have ⟨aZ,ab,h⟩:=ob h;refine jO 3 ?_;refine LW.cl (oM ab) ?_;rintro _ aS ⟨rfl,hs⟩;have p:=n.add hs;refine jN (.c (p.ce 0) (jW jZ)) ?_;refine jO 4 ?_;refine LW.st p 1 fun aT R=>?_;refine jN (jW (jW jZ)) ?_;refine go ?_;cases oi h;exact ⟨rfl,(R.po [1])⟩
   refine go ?_;cases oi h;exact ⟨trivial,rfl,(q.po [0])⟩
 intro x e aU hM;rcases O with O | aJ
 · obtain ⟨rfl,hM⟩:=hM;obtain ⟨hE,U⟩:=hM;obtain ⟨e,rfl⟩:=hE.out;have h:=J;refine gb h fun a0 ac h=>?_;refine LW.c0 (nn ac) U fun aV V=>?_;refine go ?_;cases h;exact fi V
 obtain ⟨rfl,u,rfl,hM⟩:=hM;cases J;exact And.intro trivial hM
theorem yg {w0 N a aT r} (h:pM N a aT=some r) {g K q} (X:K=a.label.levels.length) (ad:rb w0 g q a.label.levels) {j O s} (Y:O=a.own.length) (ae:rb w0 j s a.own) {k R t} (Z:R=a.tree.length) (af:rb w0 k t a.tree) {m U u} (aa:U=a.heap.ag.length) (z:rb w0 m u a.heap.ag) {n V x} (ab:V=a.heap.gc.ia.length) (ah:rb w0 n x a.heap.gc.ia) {p W y} (ac:W=a.ij.length) (ai:rb w0 p y a.ij) :
    iq Tryz.prog 140 #[.agg #[vS g K q,vS j O s,vS k R t,vS m U u,vI a.heap.gc.phase,vI a.heap.gc.pos,vI a.heap.gc.round,vS n V x,vS p W y,vI a.next,vI a.want,vI a.gE.bh,vI a.gE.ib,vI a.gE.ik,vI a.iH,vI a.lost],vI aT] w0 (fun v w=>∃ ak an,v=vS ak r.length an∧St w0 [] w [sl ak an r]):=by
 subst X Y Z aa ab ac;unfold pM at h;refine iq.fn Tryz.func140 fun e=>?_;have aM:=St.start w0;refine go ?_;refine LW.bo aM fun aq br aN=>?_;refine go ?_;refine LW.jV (α:=Int) (vs:=[]) (cs:=#[]) (l:=([]:List Int)) rfl (by kernel_rfl) rfl rfl rfl (fun w=>rfl) aN rfl ?_;intro aG aI bs d hf;refine gb h fun bu aQ h=>?_;refine LW.c0 (rf aQ rfl (d.rB ad) rfl (d.rB ae) rfl (d.rB af) rfl (d.rB z) rfl (d.rB ah) rfl (d.rB ai)) d fun bt C=>?_;refine gc h ?_ ?_ <;> intro _ h
 · refine go ?_;cases h;exact Ra ⟨aG,aI,rfl,C.pk [0]⟩
 refine gb h fun aE aR h=>?_;refine LW.cl (AI aR rfl (C.rB z)) ?_;rintro _ bj ⟨aj,am,rfl,hs⟩;have aO:=C.add hs;refine go ?_;obtain ⟨bg,aB,aL⟩:=ob h;refine CW.ie aB 0 (fun f e wb=>∃ (b:Ad) (c:Nat),En e [(2,.pointer (some ⟨aq,0,none⟩)),(5,vS b f.1.length c),(17,vS aj aE.length am),(18,vI (aE.length:Int)),(19,vI f.2)]∧St w0 [] wb [sl aj am aE,sl b c f.1,bx aq 45 (qP g q j s k t m u n x p y a)]) ?_ ⟨aG,aI,aO.po [0,1,2]⟩ ?_
 · intro f e ap o hM h;obtain ⟨b,c,hE,H⟩:=hM;obtain ⟨e,rfl⟩:=hE.out;refine go ?_;refine CW.fl [2,5,17,18,19,20] fun e=>?_;refine gc h ?_ ?_ <;> intro _ h
   · refine gb h fun bn J h=>?_;obtain ⟨a7,bd,hae,aW,aY⟩:=H.iJ (α:=Bool) (i:=0) rfl J;subst hae;refine go ?_;obtain ⟨aF,B,A⟩:=H.freeze (α:=Bool) 0 rfl;obtain ⟨a8,be,aU,hae,aw,_,_,ax,az⟩:=B.kr.idx J;cases hae;obtain rfl:=ax;refine LW.l (iC.iP ap qI rfl (az 0 _ rfl)) (A.zC 0 rfl aw) rfl ?_;refine gs ?_;obtain ⟨aS,ay,aK⟩:=ob h;refine CW.jn [2,5,6,17,18,19] [0,1,2] [(34,.bool aS)] A (h1:=?_) (h2:=?_)
     · have h:=ay;refine gB h ?_ ?_ <;> intro _ h
       · refine gb h fun bp aC h=>?_;obtain ⟨a9,bf,aV,rfl,I,aX,aZ,⟨a4,ba,a5,bb,a6,bc,rfl,a0,a1,a2⟩,aA⟩:=z.idx aC;refine go ?_;refine LW.l (iC.iP w0 jc rfl (aA 1 _ rfl)) (A.same _ I.1 I.2) rfl ?_;refine go ?_;cases oi h;exact A.po [0,1,2]
       refine go ?_;cases oi h;exact A.po [0,1,2]
     intro e bk ao;have h:=aK;refine gc h ?_ ?_ <;> intro _ h
     · refine gb h fun bq aD h=>?_;refine LW.lj (M:=[]) (L:=[fz ap aF,sl b c f.1,bx aq 45 (qP g q j s k t m u n x p y a)]) (vs:=#[vI f.2]) (i:=1) mT rfl (by kernel_rfl) rfl rfl aD ao rfl (fun w G hG=>by cases (show G=[] from hG);exact ⟨rfl,rfl⟩) rfl rfl ?_;intro bi aH aJ bl aP hf;refine go ?_;have ar:=aP.jj (α:=Bool) 0 rfl B;cases oi h;exact ⟨rfl,⟨aH,aJ,ar.po [0,1,2]⟩⟩
     refine go ?_;have au:=ao.jj (α:=Bool) 0 rfl B;cases oi h;exact ⟨rfl,⟨b,c,au.po [0,1,2]⟩⟩
   refine go ?_;cases oi h;exact ⟨trivial,rfl,⟨b,c,H.po [0,1,2]⟩⟩
 rintro e bm ⟨b,c,hE,av⟩;obtain ⟨e,rfl⟩:=hE.out;have h:=aL;refine go ?_;cases h;exact Ra ⟨b,c,rfl,av.pk [1]⟩
theorem tN {w0 N a ac ad ae af r} (h:nf N a ac ad ae af=some r) {f x n} (G:x=a.label.levels.length) (M:rb w0 f n a.label.levels) {g y o} (H:y=a.own.length) (O:rb w0 g o a.own) {i z p} (I:z=a.tree.length) (R:rb w0 i p a.tree) {j A q} (J:A=a.heap.ag.length) (d:rb w0 j q a.heap.ag) {k B s} (K:B=a.heap.gc.ia.length) (U:rb w0 k s a.heap.gc.ia) {m C t} (L:C=a.ij.length) (V:rb w0 m t a.ij) :
    iq Tryz.prog 240 #[.agg #[vS f x n,vS g y o,vS i z p,vS j A q,vI a.heap.gc.phase,vI a.heap.gc.pos,vI a.heap.gc.round,vS k B s,vS m C t,vI a.next,vI a.want,vI a.gE.bh,vI a.gE.ib,vI a.gE.ik,vI a.iH,vI a.lost],vI ac,vI ad,vI ae,vI af] w0 (fun v w=>v=.tuple #[vI r.1,vI r.2]∧St w0 [] w []):=by
 subst G H I J K L;unfold nf at h;refine iq.fn Tryz.func240 fun e=>?_;have Y:=St.start w0;refine go ?_;refine LW.bo Y fun aB aC b=>?_;refine gb h fun aE aa h=>?_;refine LW.c0 (rq aa rfl (b.rB M) rfl (b.rB O) rfl (b.rB R) rfl (b.rB d) rfl (b.rB U) rfl (b.rB V)) b fun aD c=>?_;refine gs ?_;obtain ⟨ap,Z,ai⟩:=ob h;refine CW.jn [12,13] [] [(38,.bool ap)] c (h1:=?_) (h2:=?_)
 · have h:=Z;refine gB h ?_ ?_ <;> intro _ h
   · refine gB h ?_ ?_ <;> intro _ h
     · refine go ?_;have ⟨aF,ab,h⟩:=ob h;obtain ⟨av,az,ah,rfl,u,aj,ak,⟨aq,aw,ar,ax,au,ay,rfl,am,an,ao⟩,X⟩:=d.idx ab;refine go ?_;refine LW.l (iC.iP w0 jc rfl (X 1 _ rfl)) (c.same _ u.1 u.2) rfl ?_;refine go ?_;cases oi h;exact c.po []
     refine go ?_;cases oi h;exact c.po []
   refine go ?_;cases oi h;exact c.po []
 intro e aA W;have h:=ai;refine go ?_;refine CW.fl [12,13,38] fun e=>?_;refine gc h ?_ ?_ <;> intro _ h
 · refine go ?_;cases h;exact Rc tt tt ⟨rfl,W.pk []⟩
 refine go ?_;cases h;exact Rc tt tt ⟨rfl,W.pk []⟩
end Go.Kx
