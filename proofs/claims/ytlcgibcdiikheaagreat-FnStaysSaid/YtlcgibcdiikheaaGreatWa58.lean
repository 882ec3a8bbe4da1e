import Derived.Test.YtlcgibcdiikheaaGreatWa57
namespace Go.Kx
open Go Go.RowKit Go.Proofs
open Tryz
set_option maxRecDepth 10000
set_option maxHeartbeats 8000000
set_option linter.unusedVariables false
set_option linter.unusedSimpArgs false
theorem IU {w0} {F:List Nat} {N x ab r} (h:ve N x ab=some r) {z:Nat} {k n} (aj:iV (ki w0 F) w0 k n x.b) (hS:St w0 F w0 [bx z 177 [vS k x.b.length n,vI x.i,vI x.h]]) :
    g8 prog 112 #[.pointer (some ⟨z,0,none⟩),vI ab] w0 (fun v w=>∃ C J, ∃ H K,v=.tuple #[vS C r.1.length J,vS H r.2.1.length K]∧St w0 F w [sl C J r.1,sl H K r.2.1,bx z 177 [vS k x.b.length n,vI r.2.2.i,vI r.2.2.h]]):=by
 unfold ve at h;refine g8.fn func112 fun e=>?_;refine T ?_;intro a7 aI h a3 a5 a6 aC a8 aJ h aM aD;obtain ⟨p,X,ae⟩:=ob h;refine CW.cut (fun e wb=>∃ (d:Ad) (f:Nat),En e [(0,.pointer (some ⟨z,0,none⟩)),(1,vI ab),(6,vS d p.1.length f)]∧St w0 F wb [bx z 177 [vS k x.b.length n,vI p.2.1,vI p.2.2],sl d f p.1]) ?_ ?_
 · have h:=X;refine gc h ?_ ?_<;>intro _ h
   · refine T ?_;intro aZ an h au ay aN aE;exact rt
   exact rt
 rintro e aO ⟨d,f,hE,aF⟩;obtain ⟨e,rfl⟩:=hE.out;have h:=ae;refine T ?_;intro ai ao h B I aP aG a0 ap h aQ A;refine kS [0,6,7,19,20] fun e=>?_;refine gc h ?_ ?_<;>intro _ h
 · refine go ?_;refine LW.bi [0,4] A ?_;intro av az aR aH hf;refine T ?_;intro q aq h aS ah;refine LW.bd [(0,vI q.1),(1,vI 1)] #[vI q.1,vI 1,vI 0,vI 0,vI 0,vI 0,vI 0,vI 0,vI 0] ?_;refine LW.bd [(0,vI 2),(1,vI 3)] #[vI 2,vI 3,vI 0,vI 0,vI 0,vI 0,vI 0,vI 0,vI 0] ?_;refine LW.bd [(0,vI 3),(1,vI (-1))] #[vI 3,vI (-1),vI 0,vI 0,vI 0,vI 0,vI 0,vI 0,vI 0] ?_;refine LW.bd [(0,vI 3),(2,vI 10)] #[vI 3,vI 0,vI 10,vI 0,vI 0,vI 0,vI 0,vI 0,vI 0] ?_;refine LW.An (α:=ja) (vs:=[(0,.agg #[vI q.1,vI 1,vI 0,vI 0,vI 0,vI 0,vI 0,vI 0,vI 0]),(1,.agg #[vI 2,vI 3,vI 0,vI 0,vI 0,vI 0,vI 0,vI 0,vI 0]),(2,.agg #[vI 3,vI (-1),vI 0,vI 0,vI 0,vI 0,vI 0,vI 0,vI 0]),(3,.agg #[vI 3,vI 0,vI 10,vI 0,vI 0,vI 0,vI 0,vI 0,vI 0])]) (cs:=#[vI q.1,vI 1,vI 0,vI 0,vI 0,vI 0,vI 0,vI 0,vI 0,vI 2,vI 3,vI 0,vI 0,vI 0,vI 0,vI 0,vI 0,vI 0,vI 3,vI (-1),vI 0,vI 0,vI 0,vI 0,vI 0,vI 0,vI 0,vI 3,vI 0,vI 10,vI 0,vI 0,vI 0,vI 0,vI 0,vI 0]) (l:=([ja.mk q.1 1 0 (iA.mk 0 0 0 0 0 0),ja.mk 2 3 0 (iA.mk 0 0 0 0 0 0),ja.mk 3 (-1) 0 (iA.mk 0 0 0 0 0 0),ja.mk 3 0 10 (iA.mk 0 0 0 0 0 0)]:List ja)) rfl (by kernel_rfl) rfl rfl rfl (fun w=>⟨[vI q.1,vI 1,vI 0,vI 0,vI 0,vI 0,vI 0,vI 0,vI 0],[vI 2,vI 3,vI 0,vI 0,vI 0,vI 0,vI 0,vI 0,vI 0,vI 3,vI (-1),vI 0,vI 0,vI 0,vI 0,vI 0,vI 0,vI 0,vI 3,vI 0,vI 10,vI 0,vI 0,vI 0,vI 0,vI 0,vI 0],[],[],rfl,rfl,⟨rfl,rfl⟩,⟨[vI 2,vI 3,vI 0,vI 0,vI 0,vI 0,vI 0,vI 0,vI 0],[vI 3,vI (-1),vI 0,vI 0,vI 0,vI 0,vI 0,vI 0,vI 0,vI 3,vI 0,vI 10,vI 0,vI 0,vI 0,vI 0,vI 0,vI 0],[],[],rfl,rfl,⟨rfl,rfl⟩,⟨[vI 3,vI (-1),vI 0,vI 0,vI 0,vI 0,vI 0,vI 0,vI 0],[vI 3,vI 0,vI 10,vI 0,vI 0,vI 0,vI 0,vI 0,vI 0],[],[],rfl,rfl,⟨rfl,rfl⟩,⟨[vI 3,vI 0,vI 10,vI 0,vI 0,vI 0,vI 0,vI 0,vI 0],[],[],[],rfl,rfl,⟨rfl,rfl⟩,rfl⟩⟩⟩⟩) ah rfl ?_
   intro aw aA aT O hf;have ⟨a1,Z,h⟩:=ob h;refine LW.km (l:=ai.1) (m:=([ja.mk q.1 1 0 (iA.mk 0 0 0 0 0 0),ja.mk 2 3 0 (iA.mk 0 0 0 0 0 0),ja.mk 3 (-1) 0 (iA.mk 0 0 0 0 0 0),ja.mk 3 0 10 (iA.mk 0 0 0 0 0 0)]:List ja)) Lk rfl rfl (O.rI 0 rfl) Z O (i:=3) rfl rfl ?_;intro ac ad aU U hf;refine go ?_;replace h:=oi h;subst h;exact Rc tt tt ⟨d,f,ac,ad,rfl,U.pk [4,3,1]⟩
 refine gc h ?_ ?_<;>intro _ h
 · refine go ?_;obtain ⟨aK,Y,af⟩:=ob h;refine CW.ie Y 1 (fun u e wb=>∃ (g:Ad) (j:Nat),En e [(0,.pointer (some ⟨z,0,none⟩)),(6,vS d p.1.length f),(7,vS g u.1.length j)]∧St w0 F wb [bx z 177 [vS k x.b.length n,vI u.2.1,vI u.2.2],sl g j u.1,sl d f p.1]) ?_ ⟨B,I,A.po [0,1,2]⟩ ?_
   · intro u e aV o hM h;obtain ⟨g,j,hE,ak⟩:=hM;obtain ⟨e,rfl⟩:=hE.out;refine T ?_;intro R ar h aW V;refine gc h ?_ ?_<;>intro _ h
     · refine jX [(0,vI 1)] #[vI 1,vI 0,vI 0,vI 0,vI 0,vI 0,vI 0,vI 0,vI 0] ?_;have ⟨a2,aa,h⟩:=ob h;refine LW.kX (M:=[]) (L:=[bx z 177 [vS k x.b.length n,vI R.2.i,vI R.2.h],sl g j u.1,sl d f p.1]) (vs:=#[vI 1,vI 0,vI 0,vI 0,vI 0,vI 0,vI 0,vI 0,vI 0]) (i:=1) Lk rfl (by kernel_rfl) rfl rfl aa V rfl (fun w G hG=>by cases (show G=[] from hG);exact ⟨rfl,rfl⟩) rfl rfl ?_;intro aL ax aB aX am hf;exact rt
     exact rt
   rintro e aY ⟨g,j,hE,W⟩;obtain ⟨e,rfl⟩:=hE.out;have h:=af;refine go ?_;replace h:=oi h;subst h;exact Rc tt tt ⟨d,f,g,j,rfl,W.pk [2,1,0]⟩
 refine go ?_;replace h:=oi h;subst h;exact Rc tt tt ⟨d,f,B,I,rfl,A.pk [2,1,0]⟩
instance k_112:Ct prog 112:=⟨by kernel_rfl,@IU⟩
theorem zA {w0 N m r} (h:sr N m=some r) {b f d} (g:f=m.length) (n:rb w0 b d m) :
    g8 prog 47 #[vS b f d] w0 (fun v w=>∃ i k, ∃ j l,v=.tuple #[vS i r.1.length k,vS j r.2.length l]∧St w0 [] w [sl i k r.1,sl j l r.2]):=by
 subst g;unfold sr at h;refine g8.fn func47 fun e=>?_;have u:=St.start w0;refine T ?_;intro M B h J K x O C h L z R G h I p o q H A;exact rt
instance k_47:Ct prog 47:=⟨by kernel_rfl,@zA⟩
theorem Ai {w0 N aR r} (h:tH N aR=some r) {I ae J} (an:ae=aR.length) (H:rb w0 I J aR) :
    g8 prog 7 #[vS I ae J] w0 (fun v w=>v=.bool r∧St w0 [] w []):=by
 subst an;unfold tH at h;refine g8.fn func7 fun e=>?_;have aw:=St.start w0;refine gb h fun c4 aZ h=>?_;refine LW.c0 (HE aZ rfl (aw.rB H)) aw fun c2 R=>?_;refine gc h ?_ ?_<;>intro _ h
 · refine go ?_;cases h;exact fi R
 refine gb h fun c5 a0 h=>?_;refine LW.cl (zA a0 rfl (R.rB H)) ?_;rintro _ c3 ⟨cX,cZ,cY,c1,rfl,hs⟩;have V:=R.add hs;refine gb h fun cR aO h=>?_;refine LW.cl (DW aO rfl (V.rI 0 rfl) rfl (V.rI 1 rfl)) ?_;rintro _ cI ⟨b8,cr,b9,cs,rfl,hs⟩;have aV:=V.add hs;refine go ?_;refine LW.al aV fun cB cJ aW=>?_;refine LW.st aW 0 fun cK W=>?_;refine gs ?_;obtain ⟨a1,aK,aS⟩:=ob h;refine CW.jn [5] [0,1] [(33,.bool a1)] W (h1:=?_) (h2:=?_)
 · have h:=aK;refine gB h ?_ ?_<;>intro _ h
   · refine go ?_;cases oi h;exact W.po [0,1]
   refine go ?_;cases oi h;exact W.po [0,1]
 intro e cL X;have h:=aS;refine kS [5,33] fun e=>?_;refine gc h ?_ ?_<;>intro _ h
 · refine go ?_;cases h;exact fi X
 refine gb h fun cS aP h=>?_;refine LW.cl (E1 aP rfl (X.rI 1 rfl)) ?_;rintro _ cM ⟨ca,ct,rfl,hs⟩;have aX:=X.add hs;refine LW.al aX fun cC cN aY=>?_;refine LW.st aY 0 fun cO k=>?_;refine gs ?_;obtain ⟨a2,aL,aT⟩:=ob h;refine CW.jn [5,7] [0,1,2,3] [(50,.bool a2)] k (h1:=?_) (h2:=?_)
 · have h:=aL;refine gB h ?_ ?_<;>intro _ h
   · refine go ?_;cases oi h;exact k.po [0,1,2,3]
   refine go ?_;cases oi h;exact k.po [0,1,2,3]
 intro e cP M;have h:=aT;refine gc h ?_ ?_<;>intro _ h
 · refine go ?_;cases h;exact fi M
 refine go ?_;obtain ⟨ah,ap,L⟩:=ob h;refine CW.mono (CW.lx [5,7] [0,1,2,3] [] 0 (fun ax=>[(8,vI ax)]) (RT prog f7.results (fun u=>.bool u) w0 []) M ap (hb:=?_)) ?_
 · intro ax e ai o m h;refine gc h ?_ ?_<;>intro _ h
   · refine gb h fun cT ab h=>?_;obtain ⟨cm,cD,hae,bI,bL⟩:=m.iu (α:=cd) (i:=3) rfl ab;subst hae;refine go ?_;obtain ⟨b5,z,d⟩:=m.freeze (α:=cd) 3 rfl;obtain ⟨cn,cE,bF,hae,Y,_,_,aI,Z⟩:=z.j5.idx ab;cases hae;obtain ⟨cb,cu,cc,cv,cf,cw,cg,cx,ci,cy,cj,cz,rfl,bO,bP,bQ,aa,bR,bS⟩:=aI;refine LW.l (jV.lR ai qV rfl (Z 14 _ rfl)) (d.zC 3 rfl Y) rfl ?_;refine kS [5,7,8,64] fun e=>?_;refine gc h ?_ ?_<;>intro _ h
     · refine go ?_;have aA:=d.iJ (α:=cd) 3 rfl z;cases oi h;exact ⟨rfl,(aA.po [0,1,2,3])⟩
     refine go ?_;refine LW.l (jV.lR ai zs rfl (Z 3 _ rfl)) (d.zC 3 rfl Y) rfl ?_;refine gb h fun cU aQ h=>?_;refine LW.cl (CI aQ rfl (d.rZ 3 rfl aa)) ?_;rintro _ cQ ⟨ck,cA,rfl,hs⟩;have aB:=d.add hs;refine go ?_;obtain ⟨af,ao,K⟩:=ob h;refine CW.mono (CW.lx [5,7,8,9,10] [0,1,2,3,4] [5,7,8] 2 (fun ay=>[(11,vI ay)]) (RT prog f7.results (fun u=>.bool u) w0 []) aB ao (hb:=?_)) ?_
     · intro ay e az o n h;refine kS [5,7,8,9,10,11,79] fun e=>?_;refine gc h ?_ ?_<;>intro _ h
       · refine gs ?_;refine CW.block ?_;refine gs ?_;obtain ⟨a3,aM,aU⟩:=ob h;refine CW.jn [5,7,8,9,10,11] [0,1,2,3,4] [(108,.bool a3)] n (h1:=?_) (h2:=?_)
         · have h:=aM;refine dW ?_;have O:=n.drew;refine gb h fun cV ac h=>?_;obtain ⟨co,cF,hae,bJ,bM⟩:=O.iu (α:=Bool) (i:=0) rfl ac;subst hae;refine go ?_;obtain ⟨b6,A,f⟩:=O.freeze (α:=Bool) 0 rfl;obtain ⟨cp,cG,bG,hae,q,_,_,aJ,aN⟩:=A.j5.idx ac;cases hae;obtain rfl:=aJ;refine AW.tk 3 rfl (jV.lR az.drew ML rfl (aN 0 _ rfl)) (f.zC 0 rfl q) ?_;refine gB h ?_ ?_<;>intro j h
           · refine gb h fun cW ad h=>?_;obtain ⟨cq,cH,hae,bK,bN⟩:=f.iu (α:=cd) (i:=2) rfl ad;subst hae;refine go ?_;obtain ⟨b7,G,p⟩:=f.freeze (α:=cd) 2 rfl;obtain ⟨bs,bT,a4,hae,B,_,_,aj,ak⟩:=G.j5.idx ad;cases hae;obtain ⟨bj,bu,bk,bv,bl,bw,bm,bz,bn,bA,bo,bB,rfl,ba,bb,bc,aq,bd,be⟩:=aj;refine AW.take (i:=11) rfl (by kernel_rfl) (mS rfl rfl j) rfl (jV.lR az.drew zs rfl (ak 3 _ rfl)) (p.zC 2 rfl B) ?_;refine gb h fun b2 ar h=>?_;obtain ⟨bt,bU,a6,rfl,C,a8,a9,⟨bp,bC,bq,bD,br,bE,rfl,bf,bg,bi⟩,am⟩:=aa.idx ar;refine go ?_;refine AW.take (i:=21) rfl (by kernel_rfl) (mS rfl rfl j) rfl (jV.lR ai qV rfl (am 0 _ rfl)) (p.zC 4 rfl C) ?_;refine gb h fun b3 au h=>?_;refine jO 22 ?_;refine (LW.gY (mS rfl rfl j) ?_);refine LW.cl (xd au) ?_;rintro _ bX ⟨rfl,hs⟩;have b:=p.add hs;refine jN (jW (.c (b.ce 1) (.c (b.zC 2 rfl B) (.c (b.ce 1) (.c (b.zC 0 rfl q) jZ))))) ?_;have ⟨b4,av,h⟩:=ob h;refine jO 23 ?_;refine (LW.gY (mS rfl rfl j) ?_);refine LW.cl (va av rfl (b.rZ 2 rfl aq)) ?_;rintro _ bY ⟨rfl,hs⟩;have g:=b.add hs;refine jN (.c (g.zC 4 rfl C) (jW (jW (.c (g.ce 1) (.c (g.zC 0 rfl q) jZ))))) ?_;refine go ?_;have aC:=g.iJ (α:=Bool) 0 rfl A;have aD:=aC.iJ (α:=cd) 2 rfl G;cases oi h;exact aD.po [0,1,2,3,4]
           refine go ?_;have aE:=f.iJ (α:=Bool) 0 rfl A;cases oi h;exact aE.po [0,1,2,3,4]
         intro e bZ U;have h:=aU;refine gc h ?_ ?_<;>intro _ h
         · refine go ?_;cases oi h;exact ⟨trivial,rfl,_,rfl,rx ⟨rfl,U.pk []⟩⟩
         refine go ?_;cases oi h;exact ⟨rfl,(U.po [0,1,2,3,4])⟩
       refine go ?_;cases oi h;exact ⟨trivial,rfl,(n.po [0,1,2,3,4])⟩
     intro x e b0 hM;rcases af with af | bV
     · obtain ⟨rfl,hM⟩:=hM;obtain ⟨e,rfl,aF⟩:=eo hM;have h:=K;refine go ?_;have aG:=aF.iJ (α:=cd) 4 rfl z;cases oi h;exact ⟨rfl,(aG.po [1,2,3,4])⟩
     obtain ⟨rfl,u,rfl,hM⟩:=hM;cases K;exact ⟨trivial,rfl,_,rfl,hM⟩
   refine go ?_;cases oi h;exact ⟨trivial,rfl,⟨trivial,m.pk [0,1,2,3]⟩⟩
 intro x e b1 hM;rcases ah with ah | bW
 · obtain ⟨rfl,hM⟩:=hM;obtain ⟨e,rfl,aH⟩:=eo hM;rw [show e=iy e [] from rfl];have h:=L;refine go ?_;cases h;exact fi aH
 obtain ⟨rfl,u,rfl,hM⟩:=hM;cases L;exact And.intro trivial hM
instance k_7:Ct prog 7:=⟨by kernel_rfl,@Ai⟩
end Go.Kx
