/- Each call returns what the plain function says. Printed by drive.py. -/
import Derived.Test.YtdlodpchnaojhaaGreatFa
import Derived.Test.YtdlodpchnaojhaaGreatPu
import Derived.Test.YtdlodpchnaojhaaGreatWa5
import Derived.Test.YtdlodpchnaojhaaGreatWa11
import Derived.Test.YtdlodpchnaojhaaGreatWa12
import Derived.Test.YtdlodpchnaojhaaGreatWa29
import Derived.Test.YtdlodpchnaojhaaGreatWa35
import Derived.Test.YtdlodpchnaojhaaGreatWa36
import Derived.Test.YtdlodpchnaojhaaGreatWa40
namespace Go.Kx
open Go Go.RowKit Go.Proofs
set_option maxRecDepth 10000
set_option maxHeartbeats 8000000
set_option linter.unusedVariables false
set_option linter.unusedSimpArgs false
theorem C2 {w0 N H I r} (h:qb N H I=some r) {b k d} (m:k=H.length) (p:rb w0 b d H) {c l f} (n:l=I.length) (q:rb w0 c f I) :
    iq Tryz.prog 14 #[vS b k d,vS c l f] w0 (fun v w=>v=.bool r∧St w0 [] w []):=by
 subst m n;unfold qb at h;refine iq.fn Tryz.func14 fun e=>?_;have t:=St.start w0;refine gc h ?_ ?_ <;> intro _ h
 · refine go ?_;cases h;exact fi t
 refine go ?_;obtain ⟨z,C,s⟩:=ob h;refine CW.mono (CW.lx [0,1] [] [] 0 (fun L=>[(5,vI L)]) (RT Tryz.prog Tryz.f14.results (fun u=>.bool u) w0 []) t C (hb:=?_)) ?_
 · intro L e ae o y h;refine gc h ?_ ?_ <;> intro _ h
   · refine go ?_;refine CW.draw (by kernel_rfl) ?_;have a:=y.drew;refine gb h fun af K h=>?_;obtain ⟨ac,ad,M,rfl,g,W,X,rfl,A⟩:=p.idx K;refine go ?_;refine AW.take (i:=3) rfl (by kernel_rfl) rfl rfl (iC.iP w0 jc rfl (A 0 _ rfl)) (a.same _ g.1 g.2) ?_;refine gb h fun ab G h=>?_;obtain ⟨V,Y,O,rfl,j,R,U,rfl,B⟩:=q.idx G;refine go ?_;refine AW.take (i:=7) rfl (by kernel_rfl) rfl rfl (iC.iP w0 jc rfl (B 0 _ rfl)) (a.same _ j.1 j.2) ?_;refine gc h ?_ ?_ <;> intro _ h
     · refine go ?_;cases oi h;exact ⟨trivial,rfl,_,rfl,rx ⟨rfl,a.pk []⟩⟩
     refine go ?_;cases oi h;exact ⟨rfl,(a.po [])⟩
   refine go ?_;cases oi h;exact ⟨trivial,rfl,⟨trivial,y.pk []⟩⟩
 intro x e aa hM;rcases z with z | Z
 · obtain ⟨rfl,hM⟩:=hM;obtain ⟨e,rfl,J⟩:=eo hM;rw [show e=iQ e [] from rfl];have h:=s;refine go ?_;cases h;exact fi J
 obtain ⟨rfl,u,rfl,hM⟩:=hM;cases s;exact And.intro trivial hM
theorem B0 {w0 N k r} (h:qG N k=some r) {f t g} (x:t=k.parts.length) (i:rb w0 f g k.parts) :
    iq Tryz.prog 15 #[.agg #[vI k.now,vS f t g]] w0 (fun v w=>v=.agg #[vI r.bh,vI r.ib,vI r.ik]∧St w0 [] w []):=by
 subst x;unfold qG at h;refine iq.fn Tryz.func15 fun e=>?_;have aa:=St.start w0;refine go ?_;refine LW.bo aa fun aP aQ ab=>?_;refine LW.al ab fun X aR ac=>?_;refine go ?_;refine LW.u (iD.build (vs:=[]) (cs:=#[vI 0,vI 0,vI 0]) rfl (by kernel_rfl)) rfl ?_;refine LW.al ac fun Y aS ad=>?_;refine LW.st ad 0 fun aT y=>?_;refine gb h fun aV af h=>?_;refine LW.c0 (vL af rfl (y.rB i)) y fun aU z=>?_;refine gc h ?_ ?_ <;> intro _ h
 · refine go ?_;refine LW.st z 1 fun aD A=>?_;refine go ?_;cases h;exact And.intro trivial ⟨_,jB.one (ic.b A 1 rfl kt rfl rfl),rfl,A.pk []⟩
 refine go ?_;obtain ⟨aC,I,Z⟩:=ob h;refine CW.ie I 0 (fun d e wb=>En e [(2,.pointer (some ⟨X,0,none⟩)),(3,.pointer (some ⟨Y,0,none⟩)),(12,vS f k.parts.length g),(13,vI (k.parts.length:Int)),(14,vI d.1)]∧St w0 [] wb [bx Y 43 [vI d.2.1,vI d.2.2.1,vI d.2.2.2],bx X 43 [vI 0,vI 0,vI 0]]) ?_ (z.po [0,1]) ?_
 · intro d e aE o hM h;obtain ⟨hE,q⟩:=hM;obtain ⟨e,rfl⟩:=hE.out;refine go ?_;refine CW.fl [2,3,12,13,14,15] fun e=>?_;refine gc h ?_ ?_ <;> intro _ h
   · refine gb h fun aM U h=>?_;obtain ⟨ar,aB,ah,rfl,s,ai,aj,⟨ak,au,am,av,an,aw,ao,ax,ap,ay,aq,az,rfl,J,K,L,M,O,R⟩,H⟩:=i.idx U;refine go ?_;refine LW.l (iC.jH w0 jz rfl rfl (fun j u hu=>H j u hu)) (q.same _ s.1 s.2) rfl ?_;refine LW.al q fun aA aF ae=>?_;refine LW.st ae 0 fun aG B=>?_;refine go ?_;refine CW.draw (by kernel_rfl) ?_;have a:=B.drew;refine gb h fun aN V h=>?_;refine jO 2 ?_;refine LW.cl (yl V rfl (a.rB J) rfl (a.rB K) rfl (a.rB L) rfl (a.rB M) rfl (a.rB O) rfl (a.rB R)) ?_;rintro _ aH ⟨rfl,hs⟩;have m:=a.add hs;refine jN (jW (.c (m.ce 1) jZ)) ?_;have ⟨aO,W,h⟩:=ob h;refine jO 3 ?_;refine LW.cl (oM W) ?_;rintro _ aI ⟨rfl,hs⟩;have n:=m.add hs;refine jN (.c (n.ce 0) (jW jZ)) ?_;refine jO 4 ?_;refine LW.st n 1 fun aJ C=>?_;refine jN (jW (jW jZ)) ?_;refine go ?_;cases oi h;exact ⟨rfl,(C.po [1,2])⟩
   refine go ?_;cases oi h;exact ⟨trivial,rfl,(q.po [0,1])⟩
 rintro e aK ⟨hE,G⟩;obtain ⟨e,rfl⟩:=hE.out;have h:=Z;refine go ?_;refine LW.st G 1 fun aL p=>?_;refine go ?_;cases h;exact And.intro trivial ⟨_,jB.one (ic.b p 1 rfl kt rfl rfl),rfl,p.pk []⟩
theorem BH {w0 N j r} (h:pQ N j=some r) {c g d} (i:g=j.parts.length) (a:rb w0 c d j.parts) :
    iq Tryz.prog 16 #[.agg #[vI j.now,vS c g d]] w0 (fun v w=>v=.agg #[vI r.bh,vI r.ib,vI r.ik]∧St w0 [] w []):=by
 subst i;unfold pQ at h;refine iq.fn Tryz.func16 fun e=>?_;have n:=St.start w0;refine go ?_;refine LW.bo n fun y A o=>?_;refine LW.al o fun z B k=>?_;refine gb h fun H q h=>?_;refine LW.c0 (vN q rfl (k.rB a)) k fun C f=>?_;refine gc h ?_ ?_ <;> intro _ h
 · refine go ?_;refine LW.u (iD.build (vs:=[]) (cs:=#[vI 0,vI 0,vI 0]) rfl (by kernel_rfl)) rfl ?_;refine LW.st f 0 fun G l=>?_;refine go ?_;cases h;exact And.intro trivial ⟨_,jB.one (ic.b l 0 rfl kt rfl rfl),rfl,l.pk []⟩
 refine gb h fun I s h=>?_;refine LW.c0 (zy s rfl (f.rB a)) f fun t p=>?_;refine LW.st p 0 fun x m=>?_;refine go ?_;cases h;exact And.intro trivial ⟨_,jB.one (ic.b m 0 rfl kt rfl rfl),rfl,m.pk []⟩
theorem Cr {w0 N n r} (h:qe N n=some r) {f j g} (k:j=n.length) (d:rb w0 f g n) :
    iq Tryz.prog 9 #[vS f j g] w0 (fun v w=>∃ a c,v=.agg #[vI r.now,vS a r.parts.length c]∧St w0 [] w [sl a c r.parts]):=by
 subst k;unfold qe at h;refine iq.fn Tryz.func9 fun e=>?_;have p:=St.start w0;refine go ?_;refine LW.al p fun B G l=>?_;refine gb h fun I t h=>?_;refine LW.cl (Gq t rfl (l.rB d)) ?_;rintro _ H ⟨C,rfl,hs⟩;have q:=l.add hs;refine gb h fun J u h=>?_;obtain ⟨A,i⟩:=q.iy [0] [1];refine LW.cl (Fp u (i.rB d) i.st) ?_;rintro _ y ⟨x,o,rfl,hs⟩;have s:=i.back _ _ hs;refine LW.st s 2 fun z m=>?_;refine go ?_;cases h;exact And.intro trivial ⟨_,jB.one (ic.b m 2 rfl uW rfl rfl),x,o,rfl,m.pk [0]⟩
theorem Fv {w0 N aQ r} (h:tu N aQ=some r) {I X J} (ac:X=aQ.length) (H:rb w0 I J aQ) :
    iq Tryz.prog 3 #[vS I X J] w0 (fun v w=>v=.bool r∧St w0 [] w []):=by
 subst ac;unfold tu at h;refine iq.fn Tryz.func3 fun e=>?_;have aj:=St.start w0;refine gb h fun cu aZ h=>?_;refine LW.c0 (Je aZ rfl (aj.rB H)) aj fun cr M=>?_;refine gc h ?_ ?_ <;> intro _ h
 · refine go ?_;cases h;exact fi M
 refine gb h fun cv a0 h=>?_;refine LW.cl (Cr a0 rfl (M.rB H)) ?_;rintro _ cs ⟨co,cp,rfl,hs⟩;have aV:=M.add hs;refine LW.al aV fun cq ct aW=>?_;refine LW.st aW 0 fun b4 ak=>?_;refine gb h fun cf aL h=>?_;refine LW.cl (Im aL rfl (ak.rI 1 rfl)) ?_;rintro _ b5 ⟨bs,bM,rfl,hs⟩;have aX:=ak.add hs;refine LW.al aX fun bZ b6 aY=>?_;refine LW.st aY 0 fun b7 U=>?_;refine gs ?_;obtain ⟨a1,aF,aT⟩:=ob h;refine CW.jn [3,4] [0,1,2,3] [(19,.bool a1)] U (h1:=?_) (h2:=?_)
 · have h:=aF;refine gb h fun cg aM h=>?_;refine LW.c0 (vN aM rfl (U.rI 3 rfl)) U fun b8 am=>?_;refine gB h ?_ ?_ <;> intro _ h
   · refine go ?_;cases oi h;exact am.po [0,1,2,3]
   refine go ?_;cases oi h;exact am.po [0,1,2,3]
 intro e b9 g;have h:=aT;refine gc h ?_ ?_ <;> intro _ h
 · refine gb h fun ci aN h=>?_;refine LW.c0 (Bn aN rfl (g.rI 1 rfl) rfl (g.rI 3 rfl)) g fun ca ao=>?_;refine go ?_;cases h;exact fi ao
 refine go ?_;refine CW.fl [3,4,29] fun e=>?_;refine gc h ?_ ?_ <;> intro _ h
 · refine go ?_;cases h;exact fi g
 refine go ?_;obtain ⟨Y,ad,K⟩:=ob h;refine CW.mono (CW.lx [3,4] [0,1,2,3] [3,4] 0 (fun an=>[(5,vI an)]) (RT Tryz.prog Tryz.f3.results (fun u=>.bool u) w0 []) g ad (hb:=?_)) ?_
 · intro an e l o t h;refine gc h ?_ ?_ <;> intro _ h
   · refine gs ?_;refine CW.block ?_;refine gs ?_;obtain ⟨a2,aG,aU⟩:=ob h;refine CW.jn [3,4,5] [0,1,2,3] [(100,.bool a2)] t (h1:=?_) (h2:=?_)
     · have h:=aG;refine CW.draw (by kernel_rfl) ?_;have L:=t.drew;refine gb h fun cj V h=>?_;obtain ⟨bI,b0,hae,a6,a8⟩:=L.iJ (α:=dW) (i:=1) rfl V;subst hae;refine go ?_;obtain ⟨bq,d,y⟩:=L.freeze (α:=dW) 1 rfl;obtain ⟨bJ,b1,a3,hae,k,_,_,aD,s⟩:=d.kr.idx V;cases hae;obtain ⟨bt,bN,bu,bO,bv,bP,bw,bQ,bz,bR,bA,bS,rfl,aH,aI,ba,bb,bc,bd⟩:=aD;refine AW.take (i:=5) rfl (by kernel_rfl) rfl rfl (iC.jH l.drew zd rfl rfl (fun j u hu=>m5 (m:=1) s 0 hu)) (y.zC 1 rfl k) ?_;refine gb h fun ck W h=>?_;obtain ⟨bK,b2,hae,a7,a9⟩:=y.iJ (α:=dW) (i:=3) rfl W;subst hae;refine go ?_;obtain ⟨br,f,n⟩:=y.freeze (α:=dW) 3 rfl;obtain ⟨bL,b3,a4,hae,p,_,_,aE,C⟩:=f.kr.idx W;cases hae;obtain ⟨bB,bT,bC,bU,bD,bV,bE,bW,bF,bX,bG,bY,rfl,aJ,aK,be,bf,bg,bi⟩:=aE;refine AW.take (i:=11) rfl (by kernel_rfl) rfl rfl (iC.jH l.drew zd rfl rfl (fun j u hu=>m5 (m:=1) C 0 hu)) (n.zC 3 rfl p) ?_;have ⟨cm,aO,h⟩:=ob h;refine jO 12 ?_;refine LW.cl (wX aO rfl (n.rZ 1 rfl aH) rfl (n.rZ 3 rfl aJ)) ?_;rintro _ cb ⟨rfl,hs⟩;have b:=n.add hs;refine jn ?_;refine gB h ?_ ?_ <;> intro B h
       · refine go ?_;have ap:=b.jj (α:=dW) 1 rfl d;have aq:=ap.jj (α:=dW) 3 rfl f;cases oi h;exact aq.po [0,1,2,3]
       refine go ?_;refine AW.take (i:=20) rfl (by kernel_rfl) (jP rfl rfl B) rfl (iC.iP l.drew nE rfl (s 1 _ rfl)) (b.zC 1 rfl k) ?_;refine go ?_;refine AW.take (i:=26) rfl (by kernel_rfl) (jP rfl rfl B) rfl (iC.iP l.drew nE rfl (C 1 _ rfl)) (b.zC 3 rfl p) ?_;have ⟨cn,aP,h⟩:=ob h;refine jO 27 ?_;refine (LW.gY (jP rfl rfl B) ?_);refine LW.cl (C2 aP rfl (b.rZ 1 rfl aI) rfl (b.rZ 3 rfl aK)) ?_;rintro _ cc ⟨rfl,hs⟩;have a:=b.add hs;refine jN (jW (.c (a.ce 2) (jW (.c (a.ce 0) (.c (a.zC 3 rfl p) (.c (a.ce 2) (.c (a.zC 1 rfl k) (.c (a.ce 0) jZ)))))))) ?_;refine gB h ?_ ?_ <;> intro G h
       · refine go ?_;have ar:=a.jj (α:=dW) 1 rfl d;have au:=ar.jj (α:=dW) 3 rfl f;cases oi h;exact au.po [0,1,2,3]
       refine go ?_;refine AW.take (i:=36) rfl (by kernel_rfl) (jP rfl rfl G) rfl (iC.iP l.drew jc rfl (s 15 _ rfl)) (a.zC 1 rfl k) ?_;refine go ?_;refine AW.take (i:=42) rfl (by kernel_rfl) (jP rfl rfl G) rfl (iC.iP l.drew jc rfl (C 15 _ rfl)) (a.zC 3 rfl p) ?_;refine gB h ?_ ?_ <;> intro Z h
       · refine go ?_;have av:=a.jj (α:=dW) 1 rfl d;have aw:=av.jj (α:=dW) 3 rfl f;cases oi h;exact aw.po [0,1,2,3]
       refine go ?_;refine AW.take (i:=51) rfl (by kernel_rfl) (jP rfl rfl Z) rfl (iC.iP l.drew jc rfl (s 10 _ rfl)) (a.zC 1 rfl k) ?_;refine gB h ?_ ?_ <;> intro aa h
       · refine gb h fun _ ai h=>?_;refine AW.u (i:=59) rfl (by kernel_rfl) (jP rfl rfl aa) rfl (iD.rem rfl rfl (BC ai)) ?_;refine go ?_;have ax:=a.jj (α:=dW) 1 rfl d;have ay:=ax.jj (α:=dW) 3 rfl f;cases oi h;exact ay.po [0,1,2,3]
       refine go ?_;have az:=a.jj (α:=dW) 1 rfl d;have aA:=az.jj (α:=dW) 3 rfl f;cases oi h;exact aA.po [0,1,2,3]
     intro e bk O;have h:=aU;refine gc h ?_ ?_ <;> intro _ h
     · refine go ?_;cases oi h;exact ⟨trivial,rfl,_,rfl,rx ⟨rfl,O.pk []⟩⟩
     refine go ?_;cases oi h;exact ⟨rfl,(O.po [0,1,2,3])⟩
   refine go ?_;cases oi h;exact ⟨trivial,rfl,(t.po [0,1,2,3])⟩
 intro x e bl hM;rcases Y with Y | bj
 · obtain ⟨rfl,hM⟩:=hM;obtain ⟨e,rfl,aB⟩:=eo hM;have h:=K;refine go ?_;refine CW.draw (by kernel_rfl) ?_;have z:=aB.drew;refine gB h ?_ ?_ <;> intro ab h
   · refine gb h fun bp ae h=>?_;refine jO 8 ?_;refine (LW.gY (jP rfl rfl ab) ?_);refine LW.cl (vN ae rfl (z.rI 1 rfl)) ?_;rintro _ bm ⟨rfl,hs⟩;have A:=z.add hs;refine jn ?_;refine gB h ?_ ?_ <;> intro q h
     · refine gb h fun aR af h=>?_;refine jO 12 ?_;refine (LW.gY (jP rfl rfl q) ?_);refine LW.cl (B0 af rfl (A.rI 1 rfl)) ?_;rintro _ bn ⟨rfl,hs⟩;have R:=A.add hs;refine jn ?_;have ⟨aS,ah,h⟩:=ob h;refine jO 14 ?_;refine (LW.gY (jP rfl rfl q) ?_);refine LW.cl (BH ah rfl (R.rI 3 rfl)) ?_;rintro _ bo ⟨rfl,hs⟩;have aC:=R.add hs;refine jn ?_;refine AW.u (i:=15) rfl (by kernel_rfl) (jP rfl rfl q) rfl (iD.LP Kl rfl rfl (fun w=>JW aR aS w)) ?_;refine go ?_;cases h;exact fi aC
     refine go ?_;cases h;exact fi A
   refine go ?_;cases h;exact fi z
 obtain ⟨rfl,u,rfl,hM⟩:=hM;cases K;exact And.intro trivial hM
end Go.Kx
