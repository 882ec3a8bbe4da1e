/- Each call returns what the plain function says. Printed by drive.py. -/
import Derived.Test.YtikeaiogpfjdnaaGreatFa
import Derived.Test.YtikeaiogpfjdnaaGreatPu
import Derived.Test.YtikeaiogpfjdnaaGreatWa25
import Derived.Test.YtikeaiogpfjdnaaGreatWa26
import Derived.Test.YtikeaiogpfjdnaaGreatWa39
import Derived.Test.YtikeaiogpfjdnaaGreatWa43
namespace Go.Kx
open Go Go.RowKit Go.Proofs
set_option maxRecDepth 10000
set_option maxHeartbeats 8000000
set_option linter.unusedVariables false
set_option linter.unusedSimpArgs false
theorem yH {w0 N a2 r} (h:n7 N a2=some r) {z M A} (Z:M=a2.length) (s:rb w0 z A a2) :
    il Tryz.prog 7 #[vS z M A] w0 (fun v w=>v=.bool r∧St w0 [] w []):=by
 subst Z;unfold n7 at h;refine il.fn Tryz.func7 fun e=>?_;have aq:=St.start w0;refine gb h fun dc bc h=>?_;refine LW.c0 (F7 bc rfl (aq.rB s)) aq fun c9 G=>?_;refine gc h ?_ ?_ <;> intro _ h
 · refine go ?_;cases h;exact fi G
 refine gb h fun dd bd h=>?_;refine LW.cl (wF bd rfl (G.rB s)) ?_;rintro _ da ⟨c5,c7,rfl,hs⟩;have a6:=G.add hs;refine go ?_;refine LW.al a6 fun c8 db a7=>?_;refine LW.al a7 fun cK cR a8=>?_;refine LW.st a8 1 fun cS a9=>?_;refine go ?_;refine LW.st a9 0 fun cT ar=>?_;refine gb h fun c1 a0 h=>?_;refine LW.cl (zJ a0 rfl (ar.rI 2 rfl)) ?_;rintro _ cU ⟨ce,cx,rfl,hs⟩;have ba:=ar.add hs;refine go ?_;refine LW.al ba fun cL cV bb=>?_;refine LW.al bb fun cM cW ax=>?_;refine LW.st ax 1 fun cX ay=>?_;refine LW.st ay 0 fun cY C=>?_;refine gc h ?_ ?_ <;> intro _ h
 · refine go ?_;cases h;exact fi C
 refine go ?_;obtain ⟨O,aa,B⟩:=ob h;refine CW.mono (CW.lx [3,4,6,7] [1,2,3,4,5] [] 0 (fun au=>[(9,vI au)]) (RT Tryz.prog Tryz.f7.results (fun u=>.bool u) w0 []) C aa (hb:=?_)) ?_
 · intro au e av o f h;refine go ?_;refine CW.fl [3,4,6,7,9,38] fun e=>?_;refine gc h ?_ ?_ <;> intro _ h
   · refine gs ?_;refine CW.block ?_;refine gs ?_;obtain ⟨be,aK,a3⟩:=ob h;refine CW.jn [3,4,6,7,9] [0,1,2,3,4] [(62,.bool be)] f (h1:=?_) (h2:=?_)
     · have h:=aK;refine CW.draw (by kernel_rfl) ?_;have c:=f.drew;refine gB h ?_ ?_ <;> intro _ h
       · refine gB h ?_ ?_ <;> intro n h
         · refine gb h fun c2 K h=>?_;obtain ⟨ct,cN,hae,bW,bY⟩:=c.iJ (α:=gE) (i:=1) rfl K;subst hae;refine go ?_;obtain ⟨cb,I,g⟩:=c.freeze (α:=gE) 1 rfl;obtain ⟨cu,cO,bU,hae,aG,_,_,aI,aM⟩:=I.jX.idx K;cases hae;obtain ⟨cf,cy,cg,cz,ci,cA,cj,cB,ck,cC,cm,cD,rfl,aO,aP,aQ,aR,aS,aT⟩:=aI;refine AW.take (i:=13) rfl (by kernel_rfl) (jS rfl rfl n) rfl (iF.jF av.drew jm rfl rfl (fun j u hu=>aM j u hu)) (g.zC 1 rfl aG) ?_;refine gb h fun c3 L h=>?_;obtain ⟨cv,cP,hae,bX,bZ⟩:=g.iJ (α:=gE) (i:=4) rfl L;subst hae;refine go ?_;obtain ⟨cc,J,a⟩:=g.freeze (α:=gE) 4 rfl;obtain ⟨cw,cQ,bV,hae,aH,_,_,aJ,aN⟩:=J.jX.idx L;cases hae;obtain ⟨cn,cE,co,cF,cp,cG,cq,cH,cr,cI,cs,cJ,rfl,aU,aV,aW,aX,aY,aZ⟩:=aJ;refine AW.take (i:=18) rfl (by kernel_rfl) (jS rfl rfl n) rfl (iF.jF av.drew jm rfl rfl (fun j u hu=>aN j u hu)) (a.zC 4 rfl aH) ?_;have ⟨c4,a1,h⟩:=ob h;refine jO 19 ?_;refine (LW.gY (jS rfl rfl n) ?_);refine LW.cl (vQ a1 rfl (a.rZ 1 rfl aO) rfl (a.rZ 1 rfl aP) rfl (a.rZ 1 rfl aQ) rfl (a.rZ 1 rfl aR) rfl (a.rZ 1 rfl aS) rfl (a.rZ 1 rfl aT) rfl (a.rZ 4 rfl aU) rfl (a.rZ 4 rfl aV) rfl (a.rZ 4 rfl aW) rfl (a.rZ 4 rfl aX) rfl (a.rZ 4 rfl aY) rfl (a.rZ 4 rfl aZ)) ?_;rintro _ cZ ⟨rfl,hs⟩;have az:=a.add hs;refine jn ?_;refine go ?_;have aA:=az.jf (α:=gE) 1 rfl I;have aB:=aA.jf (α:=gE) 4 rfl J;cases oi h;exact aB.po [0,1,2,3,4]
         refine go ?_;cases oi h;exact c.po [0,1,2,3,4]
       refine go ?_;cases oi h;exact c.po [0,1,2,3,4]
     intro e aw k;have h:=a3;refine gc h ?_ ?_ <;> intro _ h
     · refine go ?_;cases oi h;exact ⟨trivial,rfl,_,rfl,rx ⟨rfl,k.pk []⟩⟩
     refine gs ?_;obtain ⟨bf,aL,a4⟩:=ob h;refine CW.jn [3,4,6,7,9] [0,1,2,3,4] [(79,.bool bf)] k (h1:=?_) (h2:=?_)
     · have h:=aL;refine CW.draw (by kernel_rfl) ?_;have l:=k.drew;refine gB h ?_ ?_ <;> intro d h
       · refine gb h fun b8 t h=>?_;obtain ⟨bD,b0,hae,bj,bl⟩:=l.iJ (α:=gE) (i:=1) rfl t;subst hae;refine go ?_;obtain ⟨bn,p,m⟩:=l.freeze (α:=gE) 1 rfl;obtain ⟨bE,b1,bg,hae,R,_,_,V,X⟩:=p.jX.idx t;cases hae;obtain ⟨bp,bI,bq,bJ,br,bK,bs,bL,bt,bM,bu,bN,rfl,ab,ac,ad,ae,af,ah⟩:=V;refine AW.take (i:=8) rfl (by kernel_rfl) (jS rfl rfl d) rfl (iF.jF aw.drew jm rfl rfl (fun j u hu=>X j u hu)) (m.zC 1 rfl R) ?_;refine gb h fun b9 y h=>?_;obtain ⟨bF,b2,hae,bk,bm⟩:=m.iJ (α:=gE) (i:=4) rfl y;subst hae;refine go ?_;obtain ⟨bo,q,b⟩:=m.freeze (α:=gE) 4 rfl;obtain ⟨bG,b3,bi,hae,U,_,_,W,Y⟩:=q.jX.idx y;cases hae;obtain ⟨bv,bO,bw,bP,bz,bQ,bA,bR,bB,bS,bC,bT,rfl,ai,aj,ak,am,an,ao⟩:=W;refine AW.take (i:=13) rfl (by kernel_rfl) (jS rfl rfl d) rfl (iF.jF aw.drew jm rfl rfl (fun j u hu=>Y j u hu)) (b.zC 4 rfl U) ?_;have ⟨ca,ap,h⟩:=ob h;refine jO 14 ?_;refine (LW.gY (jS rfl rfl d) ?_);refine LW.cl (vQ ap rfl (b.rZ 1 rfl ab) rfl (b.rZ 1 rfl ac) rfl (b.rZ 1 rfl ad) rfl (b.rZ 1 rfl ae) rfl (b.rZ 1 rfl af) rfl (b.rZ 1 rfl ah) rfl (b.rZ 4 rfl ai) rfl (b.rZ 4 rfl aj) rfl (b.rZ 4 rfl ak) rfl (b.rZ 4 rfl am) rfl (b.rZ 4 rfl an) rfl (b.rZ 4 rfl ao)) ?_;rintro _ b5 ⟨rfl,hs⟩;have aC:=b.add hs;refine jn ?_;refine go ?_;have aD:=aC.jf (α:=gE) 1 rfl p;have aE:=aD.jf (α:=gE) 4 rfl q;cases oi h;exact aE.po [0,1,2,3,4]
       refine go ?_;cases oi h;exact l.po [0,1,2,3,4]
     intro e b6 H;have h:=a4;refine gc h ?_ ?_ <;> intro _ h
     · refine go ?_;cases oi h;exact ⟨trivial,rfl,_,rfl,rx ⟨rfl,H.pk []⟩⟩
     refine go ?_;cases oi h;exact ⟨rfl,(H.po [0,1,2,3,4])⟩
   refine go ?_;cases oi h;exact ⟨trivial,rfl,⟨trivial,f.pk [0,1,2,3,4]⟩⟩
 intro x e b7 hM;rcases O with O | b4
 · obtain ⟨rfl,hM⟩:=hM;obtain ⟨e,rfl,aF⟩:=eo hM;rw [show e=iQ e [] from rfl];have h:=B;refine go ?_;cases h;exact fi aF
 obtain ⟨rfl,u,rfl,hM⟩:=hM;cases B;exact And.intro trivial hM
end Go.Kx
