import Derived.Test.YtlcgibcdiikheaaGreatWa57
namespace Go.Kx
open Go Go.RowKit Go.Proofs
open Tryz
set_option maxRecDepth 10000
set_option maxHeartbeats 8000000
set_option linter.unusedVariables false
set_option linter.unusedSimpArgs false
theorem tb {w0 N C r} (h:mZ N C=some r) {l o m} (p:o=C.length) (f:rb w0 l m C) :
    gZ prog 40 #[vS l o m] w0 (fun v w=>∃ q x, ∃ u z, ∃ i j,v=.tuple #[vS q r.1.length x,vS u r.2.1.length z,.agg #[vS i r.2.2.Hz.length j]]∧St w0 [] w []∧iy (ja w []) w q x r.1∧iy (ja w []) w u z r.2.1∧iy (ja w []) w i j r.2.2.Hz):=by
 subst p;unfold mZ at h;refine gZ.fn func40 fun e=>?_;have L:=St.start w0;refine go ?_;refine LW.al L fun ad af A=>?_;refine gb h fun ai U h=>?_;refine LW.cl (wX U rfl (A.rB f)) ?_;rintro _ ah ⟨ae,rfl,hs⟩;have M:=A.add hs;refine gb h fun aj V h=>?_;obtain ⟨ac,n⟩:=M.lf [0] [1];refine LW.cl (vB V (n.rB f) n.st) ?_;rintro _ Y ⟨W,I,G,J,rfl,hs⟩;have O:=n.back _ _ hs;refine gb h fun ab B h=>?_;obtain ⟨X,d⟩:=O.lf [2] [0,1,3];refine LW.cl (tI B (d.rB f) rfl (d.rI 0 rfl) d.st) ?_;rintro _ Z ⟨H,K,rfl,hs,g⟩;have R:=d.back _ _ hs;refine go ?_;refine LW.Hh R 3 g rfl pS rfl rfl rfl rfl rfl ?_;intro aa k g;refine go ?_;cases h;exact And.intro trivial ⟨_,jM.three (hP.t rfl) (hP.t rfl) (hP.b k 3 rfl pS rfl rfl),W,I,G,J,H,K,rfl,k.pk [],(k.rI 1 rfl),(k.rI 2 rfl),g⟩
instance k_40:Ct prog 40:=⟨by kernel_rfl,@tb⟩
theorem tf {wA:World} {N aM r} (h:nY N aM=some r) {M ac O} (af:ac=aM.length) (L:iy (ja wA []) wA M O aM) :
    gZ prog 6 #[vS M ac O] wA (fun v w=>v=.bool r∧St wA [] w []):=by
 subst af;refine gZ.mono (K:=fun v w=>v=.bool r∧∃ wm,St wA [] wm []∧St wm [] w []) ?_ (fun v w ⟨h1,wm,h2,a6⟩=>⟨h1,h2.add a6⟩);have hA:=St.start wA;unfold nY at h;refine gZ.fn func6 fun e=>?_;have aj:=St.start wA;refine gb h fun cc aV h=>?_;refine LW.c0 (zL aV rfl (aj.rB L)) aj fun cb V=>?_;refine gc h ?_ ?_<;>intro _ h
 · refine go ?_;cases h;exact Ra ⟨rfl,⟨_,hA,V.pk []⟩⟩
 refine gb h fun ce aW h=>?_;refine LW.cl (tb aW rfl (V.rB L)) ?_;rintro _ w0 ⟨b6,b9,b7,ca,b8,bs,rfl,hs,k,d,H⟩;have hA:St wA [] w0 []:=(V.pk []).add hs;have aP:=St.start w0;refine go ?_;refine LW.al aP fun bz bE aQ=>?_;refine rQ aQ 0 fun bF I=>?_;refine gb h fun bV aA h=>?_;refine LW.cl (rW aA rfl (I.rB k) rfl (I.rB d) rfl (I.rB H)) ?_;rintro _ bG ⟨bk,bt,rfl,hs⟩;have aR:=I.add hs;refine go ?_;obtain ⟨am,az,ai⟩:=ob h;refine CW.mono (CW.lx [3,4,5,6] [0,1] [3,4,5,6,7] 0 (fun ad=>[(7,vI ad.1),(8,vI ad.2)]) (RT prog f6.results (fun u=>.bool u) w0 []) aR az (hb:=?_)) ?_
 · intro ad e bI o ak h;refine kI [3,4,5,6,7,8,28] fun e=>?_;refine gc h ?_ ?_<;>intro _ h
   · refine kG ?_;have J:=ak.drew;refine gb h fun a0 aB h=>?_;obtain ⟨bo,bA,a2,rfl,p,a8,bc,rfl,Z⟩:=d.idx aB;refine go ?_;refine AW.tk 4 rfl (jb.pZ w0 vf rfl rfl (fun j u hu=>Z j u hu)) (J.same _ p.1 p.2) ?_;refine gb h fun bW aC h=>?_;refine jO 6 ?_;refine LW.cl (yH aC rfl (J.rB k) rfl (J.rB H)) ?_;rintro _ aZ ⟨rfl,hs⟩;have Y:=J.add hs;refine jn ?_;refine gc h ?_ ?_<;>intro _ h
     · refine gs ?_;obtain ⟨aX,aw,aN⟩:=ob h;refine CW.jn [3,4,5,6,7,8] [0,1] [(52,.bool aX)] Y (h1:=?_) (h2:=?_)
       · have h:=aw;refine dW ?_;have q:=Y.drew;refine gB h ?_ ?_<;>intro C h
         · refine go ?_;cases oi h;exact q.po [0,1]
         refine gb h fun a1 ab h=>?_;obtain ⟨bp,bB,hae,ba,bd⟩:=q.im (α:=iq) (i:=0) rfl ab;subst hae;refine go ?_;obtain ⟨bj,aa,z⟩:=q.freeze (α:=iq) 0 rfl;obtain ⟨bq,bC,a3,hae,au,_,_,av,ay⟩:=aa.jB.idx ab;cases hae;obtain rfl:=av;refine AW.take (i:=8) rfl (by kernel_rfl) (kO rfl rfl C) rfl (jb.pZ aZ.drew vf rfl rfl (fun j u hu=>ay j u hu)) (z.zC 0 rfl au) ?_;refine go ?_;refine AW.take (i:=12) rfl (by kernel_rfl) (kO rfl rfl C) rfl (jb.pZ w0 vf rfl rfl (fun j u hu=>Z j u hu)) (z.same _ p.1 p.2) ?_;refine AW.u (i:=13) rfl (by kernel_rfl) (kO rfl rfl C) rfl (iI.Gx Hf rfl rfl (fun w=>GJ a1 a0 w)) ?_;refine go ?_;have ao:=z.iH (α:=iq) 0 rfl aa;cases oi h;exact ao.po [0,1]
       intro e bJ R;have h:=aN;refine gc h ?_ ?_<;>intro _ h
       · refine go ?_;cases oi h;exact ⟨trivial,rfl,_,rfl,rx ⟨rfl,R.pk []⟩⟩
       refine go ?_;cases oi h;exact ⟨rfl,(R.po [0,1])⟩
     refine go ?_;cases oi h;exact ⟨rfl,(Y.po [0,1])⟩
   refine go ?_;cases oi h;exact ⟨trivial,rfl,(ak.po [0,1])⟩
 intro x e bK hM;rcases am with am | bg
 · obtain ⟨rfl,hM⟩:=hM;obtain ⟨e,rfl,m⟩:=eo hM;have h:=ai;refine gb h fun bX aD h=>?_;refine LW.cl (rW aD rfl (m.rB k) rfl (m.rI 0 rfl) rfl (m.rB H)) ?_;rintro _ bL ⟨bl,bu,rfl,hs⟩;have ap:=m.add hs;refine go ?_;have ⟨bY,aE,h⟩:=ob h;refine LW.cl (yx aE) ?_;rintro _ bM ⟨bm,bv,rfl,hs⟩;have n:=ap.add hs;have ⟨bZ,aF,h⟩:=ob h;refine LW.cl (rW aF rfl (n.rB k) rfl (n.rB d) rfl (n.rI 0 rfl)) ?_;rintro _ bN ⟨bn,bw,rfl,hs⟩;have g:=n.add hs;refine gs ?_;obtain ⟨aY,ax,aO⟩:=ob h;refine CW.jn [3,4,10] [0] [(87,.bool aY)] g (h1:=?_) (h2:=?_)
   · have h:=ax;refine gB h ?_ ?_<;>intro _ h
     · refine go ?_;cases oi h;exact g.po [0]
     refine gB h ?_ ?_<;>intro _ h
     · refine go ?_;cases oi h;exact g.po [0]
     refine gb h fun b0 aG h=>?_;refine go ?_;refine LW.c0 (rY aG rfl (g.rI 3 rfl)) g fun bO U=>?_;refine gb h fun b1 aH h=>?_;refine go ?_;refine LW.c0 (rY aH rfl (U.rB d)) U fun bP A=>?_;refine gB h ?_ ?_<;>intro _ h
     · refine go ?_;cases oi h;exact A.po [0]
     refine go ?_;have ⟨b2,aI,h⟩:=ob h;refine go ?_;refine LW.c0 (xr aI rfl (A.rB d)) A fun bQ W=>?_;refine gb h fun b3 aJ h=>?_;refine go ?_;refine LW.c0 (rY aJ rfl (W.rB d)) W fun bR aq=>?_;refine go ?_;cases oi h;exact aq.po [0]
   intro e bS B;have h:=aO;refine gc h ?_ ?_<;>intro _ h
   · refine go ?_;cases h;exact Ra ⟨rfl,⟨_,hA,B.pk []⟩⟩
   refine gb h fun b4 aK h=>?_;refine LW.c0 (wj aK rfl (B.rB k)) B fun bT ar=>?_;refine go ?_;obtain ⟨bf,ah,an⟩:=ob h;refine CW.mono (CW.lb [3,4,10] [0] [4,10,11] 2 (fun ae=>[(11,.bool ae.1),(12,vI ae.2)]) ar ah (hb:=?_)) ?_
   · intro ae e bU o b h;refine gc h ?_ ?_<;>intro _ h
     · refine gB h ?_ ?_<;>intro _ h
       · refine gb h fun b5 aL h=>?_;obtain ⟨br,bD,a4,rfl,f,bb,be,rfl,G⟩:=d.idx aL;refine go ?_;refine LW.l (jb.j7 w0 lA rfl (G 0 _ rfl)) (b.same _ f.1 f.2) rfl ?_;refine gB h ?_ ?_<;>intro _ h
         · refine go ?_;cases oi h;exact ⟨rfl,(b.po [0])⟩
         refine go ?_;refine LW.l (jb.j7 w0 lA rfl (G 1 _ rfl)) (b.same _ f.1 f.2) rfl ?_;refine gB h ?_ ?_<;>intro _ h
         · refine go ?_;refine LW.l (jb.j7 w0 lA rfl (G 1 _ rfl)) (b.same _ f.1 f.2) rfl ?_;refine go ?_;cases oi h;exact ⟨rfl,(b.po [0])⟩
         refine go ?_;cases oi h;exact ⟨rfl,(b.po [0])⟩
       refine go ?_;cases oi h;exact ⟨rfl,(b.po [0])⟩
     refine go ?_;cases oi h;exact ⟨trivial,rfl,(b.po [0])⟩
   intro x e bi hM;obtain ⟨rfl,hM⟩:=hM;obtain ⟨e,rfl,X⟩:=eo hM;have h:=an;refine gB h ?_ ?_<;>intro _ h
   · refine go ?_;cases h;exact Ra ⟨rfl,⟨_,hA,X.pk []⟩⟩
   refine go ?_;cases h;exact Ra ⟨rfl,⟨_,hA,X.pk []⟩⟩
 obtain ⟨rfl,u,rfl,hM⟩:=hM;cases ai;obtain ⟨v,aS,aT,aU⟩:=hM;exact ⟨trivial,v,aS,aT,_,hA,aU⟩
instance k_6:Ct prog 6:=⟨by kernel_rfl,@tf⟩
end Go.Kx
