import Derived.Test.YtlcgibcdiikheaaGreatWa38
namespace Go.Kx
open Go Go.RowKit Go.Proofs
open Tryz
set_option maxRecDepth 10000
set_option maxHeartbeats 8000000
set_option linter.unusedVariables false
set_option linter.unusedSimpArgs false
theorem w6 {w0 N bf bg r} (h:oq N bf bg=some r) {U an W} (ar:an=bf.length) (b:rb w0 U W bf) {V ao X} (au:ao=bg.length) (d:rb w0 V X bg) :
    gV prog 5 #[vS U an W,vS V ao X] w0 (fun v w=>v=.bool r∧St w0 [] w []):=by
 subst ar au;unfold oq at h;refine gV.fn func5 fun e=>?_;have aE:=St.start w0;refine gb h fun dc bm h=>?_;refine LW.c0 (wM bm rfl (aE.rB b)) aE fun da ac=>?_;refine gc h ?_ ?_<;>intro _ h
 · refine go ?_;cases h;exact fi ac
 refine gb h fun dd bn h=>?_;refine LW.c0 (zn bn rfl (ac.rB d)) ac fun db ai=>?_;refine jw [0,1,26] fun e=>?_;refine gc h ?_ ?_<;>intro _ h
 · refine go ?_;cases h;exact fi ai
 refine gb h fun de bo h=>?_;refine LW.cl (oh bo rfl (ai.rB b)) ?_;rintro _ cv ⟨c7,c8,rfl,hs⟩;have aF:=ai.add hs;refine gb h fun cS aW h=>?_;refine LW.cl (qN aW rfl (aF.rB d)) ?_;rintro _ cw ⟨b4,ce,rfl,hs⟩;have ak:=aF.add hs;have ⟨cT,aX,h⟩:=ob h;refine LW.cl (Ey aX rfl (ak.rI 1 rfl) rfl (ak.rI 0 rfl)) ?_;rintro _ cx ⟨b5,cf,b6,cg,rfl,hs⟩;have bk:=ak.add hs;refine go ?_;refine LW.al bk fun cp cy bl=>?_;refine LW.st bl 0 fun cz aG=>?_;refine gb h fun cU aY h=>?_;refine LW.cl (oh aY rfl (aG.rB b)) ?_;rintro _ cA ⟨b7,ci,rfl,hs⟩;have aH:=aG.add hs;refine gb h fun cV aZ h=>?_;refine LW.cl (qN aZ rfl (aH.rB d)) ?_;rintro _ cB ⟨b8,cj,rfl,hs⟩;have o:=aH.add hs;refine gb h fun ap a0 h=>?_;refine LW.cl (Ap a0 rfl (o.rI 1 rfl) rfl (o.rI 0 rfl)) ?_;rintro _ cC ⟨b9,ck,ca,cm,rfl,hs⟩;have aK:=o.add hs;refine go ?_;refine LW.al aK fun cq cD aL=>?_;refine LW.st aL 0 fun cE g=>?_;refine gs ?_;obtain ⟨bp,aS,bi⟩:=ob h;refine CW.jn [0,1,6,7,8,9,10,11] [0,1,2,3,4,5,6,7] [(54,.bool bp)] g (h1:=?_) (h2:=?_)
 · have h:=aS;refine go ?_;have ⟨cW,a1,h⟩:=ob h;refine LW.c0 (uM a1 rfl (g.rI 1 rfl) rfl (g.rI 6 rfl)) g fun cF i=>?_;refine gB h ?_ ?_<;>intro _ h
   · refine go ?_;cases oi h;exact i.po [0,1,2,3,4,5,6,7]
   refine gb h fun cX a2 h=>?_;refine go ?_;refine LW.c0 (tN a2 rfl (i.rI 2 rfl) rfl (i.rI 7 rfl)) i fun cG aM=>?_;refine go ?_;cases oi h;exact aM.po [0,1,2,3,4,5,6,7]
 intro e cH p;have h:=bi;refine jw [0,1,6,7,8,9,10,11,54] fun e=>?_;refine gc h ?_ ?_<;>intro _ h
 · refine go ?_;cases h;exact fi p
 refine gb h fun cY a3 h=>?_;refine LW.cl (oh a3 rfl (p.rB b)) ?_;rintro _ cI ⟨cb,cn,rfl,hs⟩;have q:=p.add hs;have ⟨cZ,a4,h⟩:=ob h;refine LW.c0 (w7 a4 rfl (q.rI 5 rfl) rfl (q.rI 0 rfl)) q fun cJ u=>?_;refine gc h ?_ ?_<;>intro _ h
 · refine go ?_;cases h;exact fi u
 refine gb h fun c1 a5 h=>?_;refine LW.cl (qN a5 rfl (u.rB d)) ?_;rintro _ cK ⟨cc,co,rfl,hs⟩;have x:=u.add hs;have ⟨c2,a6,h⟩:=ob h;refine LW.c0 (yL a6 rfl (x.rI 5 rfl) rfl (x.rI 0 rfl)) x fun cL ad=>?_;refine gc h ?_ ?_<;>intro _ h
 · refine go ?_;cases h;exact fi ad
 refine gb h fun c3 a7 h=>?_;obtain ⟨cr,L,H⟩:=lO a7;obtain ⟨aU,H⟩:=iI H;rw [oi H] at L aU;obtain ⟨b0,Y⟩:=ad.k4 [6] [0,1,2,3,4,5,7,8,9];refine LW.cl (vx L rfl Y.st) ?_;rintro _ cM ⟨rfl,hs⟩;have aN:=Y.back _ _ hs;refine gb h fun c4 a9 h=>?_;obtain ⟨cs,M,I⟩:=lO a9;obtain ⟨aV,I⟩:=iI I;rw [oi I] at M aV;obtain ⟨b1,Z⟩:=aN.k4 [6] [0,1,2,3,4,5,7,8,9];refine LW.cl (xv M rfl Z.st) ?_;rintro _ cN ⟨rfl,hs⟩;have f:=Z.back _ _ hs;refine gs ?_;obtain ⟨bq,aT,bj⟩:=ob h;refine CW.jn [0,1,6,7,10,11] [4,5,6,7,8,9] [(84,.bool bq)] f (h1:=?_) (h2:=?_)
 · have h:=aT;refine gB h ?_ ?_<;>intro _ h
   · refine go ?_;cases oi h;exact f.po [4,5,6,7,8,9]
   refine go ?_;have ⟨c5,ba,h⟩:=ob h;refine go ?_;refine LW.c0 (uM ba rfl (f.rI 5 rfl) rfl (f.rI 8 rfl)) f fun cO j=>?_;refine gB h ?_ ?_<;>intro _ h
   · refine go ?_;cases oi h;exact j.po [4,5,6,7,8,9]
   refine gb h fun c6 bb h=>?_;refine go ?_;refine LW.c0 (tN bb rfl (j.rI 6 rfl) rfl (j.rI 9 rfl)) j fun cP aO=>?_;refine go ?_;cases oi h;exact aO.po [4,5,6,7,8,9]
 intro e cQ ae;have h:=bj;refine jw [0,1,6,7,10,11,84] fun e=>?_;refine gc h ?_ ?_<;>intro _ h
 · refine go ?_;cases h;exact fi ae
 refine gb h fun br bc h=>?_;obtain ⟨ct,O,J⟩:=lO bc;obtain ⟨am,J⟩:=iI J;rw [oi J] at O am;obtain ⟨b2,aa⟩:=ae.k4 [1] [0,2,3,4,5];refine LW.cl (yx O rfl aa.st) ?_;rintro _ cR ⟨rfl,hs⟩;have af:=aa.back _ _ hs;refine gb h fun aI bd h=>?_;obtain ⟨cu,R,K⟩:=lO bd;obtain ⟨n,K⟩:=iI K;rw [oi K] at R n;rw [show ap.1.parts.length=br.2.length from am] at af;obtain ⟨b3,ab⟩:=af.k4 [2] [0,1,3,4,5];refine LW.cl (xF R rfl ab.st) ?_;rintro _ bD ⟨rfl,hs⟩;have ah:=ab.back _ _ hs;refine gb h fun bR av h=>?_;refine LW.c0 (vq av rfl (ah.rI 1 rfl)) ah fun bE z=>?_;refine jw [0,1,6,7,10,11,13,14,95] fun e=>?_;refine gc h ?_ ?_<;>intro _ h
 · refine go ?_;cases h;exact fi z
 refine gb h fun bS aw h=>?_;refine LW.c0 (uA aw (show ap.2.length=aI.2.length from n) (z.rI 0 rfl)) z fun bF k=>?_;refine gc h ?_ ?_<;>intro _ h
 · refine go ?_;cases h;exact fi k
 refine gc h ?_ ?_<;>intro _ h
 · refine go ?_;cases h;exact fi k
 refine gb h fun bT ax h=>?_;refine LW.cl (oh ax rfl (k.rB b)) ?_;rintro _ bG ⟨bs,bw,rfl,hs⟩;have aj:=k.add hs;refine gb h fun bU ay h=>?_;refine LW.cl (qN ay rfl (aj.rB d)) ?_;rintro _ bI ⟨bt,bz,rfl,hs⟩;have A:=aj.add hs;have ⟨bV,az,h⟩:=ob h;refine LW.cl (Ap az rfl (A.rI 1 rfl) rfl (A.rI 0 rfl)) ?_;rintro _ bJ ⟨bu,bA,bv,bB,rfl,hs⟩;have aP:=A.add hs;refine go ?_;refine LW.al aP fun bC bK aQ=>?_;refine LW.st aQ 0 fun bL l=>?_;refine gs ?_;obtain ⟨be,aq,aJ⟩:=ob h;refine CW.jn [10,11,13] [5,6,7] [(121,.bool be)] l (h1:=?_) (h2:=?_)
 · have h:=aq;refine gb h fun bW aA h=>?_;refine LW.c0 (uM aA rfl (l.rI 1 rfl) rfl (l.rI 9 rfl)) l fun bM m=>?_;refine go ?_;refine bH h ?_ ?_<;>intro _ h
   · refine go ?_;cases oi h;exact m.po [5,6,7]
   refine gb h fun bX aB h=>?_;refine go ?_;refine LW.c0 (tN aB rfl (m.rI 2 rfl) rfl (m.rI 10 rfl)) m fun bN aR=>?_;refine go ?_;cases oi h;exact aR.po [5,6,7]
 intro e bO B;have h:=aJ;refine jw [10,11,13,121] fun e=>?_;refine gc h ?_ ?_<;>intro _ h
 · refine go ?_;cases h;exact fi B
 refine gb h fun bY aC h=>?_;refine LW.c0 (vq aC rfl (B.rI 1 rfl)) B fun bP C=>?_;refine gc h ?_ ?_<;>intro _ h
 · refine go ?_;cases h;exact fi C
 refine gb h fun bZ aD h=>?_;refine LW.c0 (uA aD (show ap.2.length=aI.2.length from n) (C.rI 0 rfl)) C fun bQ G=>?_;refine jw [13,14,131] fun e=>?_;refine gc h ?_ ?_<;>intro _ h
 · refine go ?_;cases h;exact fi G
 refine gc h ?_ ?_<;>intro _ h
 · refine go ?_;cases h;exact fi G
 refine go ?_;cases h;exact fi G
instance k_5:Ct prog 5:=⟨by kernel_rfl,@w6⟩
end Go.Kx
