import Derived.Test.YtlcgibcdiikheaaGreatWa55
import Derived.Test.YtlcgibcdiikheaaGreatWa57
namespace Go.Kx
open Go Go.RowKit Go.Proofs
open Tryz
set_option maxRecDepth 10000
set_option maxHeartbeats 8000000
set_option linter.unusedVariables false
set_option linter.unusedSimpArgs false
theorem ye {w0 N aG r} (h:qz N aG=some r) {z O A} (V:O=aG.length) (p:rb w0 z A aG) :
    iq prog 3 #[vS z O A] w0 (fun v w=>v=.bool r∧St w0 [] w []):=by
 subst V;unfold qz at h;refine iq.fn func3 fun e=>?_;have ab:=St.start w0;refine gb h fun cN aV h=>?_;refine LW.c0 (FZ aV rfl (ab.rB p)) ab fun cK C=>?_;refine gc h ?_ ?_<;>intro _ h
 · refine go ?_;cases h;exact fi C
 refine gb h fun aH aW h=>?_;refine LW.cl (vF aW rfl (C.rB p)) ?_;rintro _ cL ⟨aI,aJ,rfl,hs⟩;have aP:=C.add hs;refine go ?_;refine LW.al aP fun aK cM aQ=>?_;refine LW.al aQ fun ce cn aR=>?_;refine LW.st aR 1 fun co aS=>?_;refine wR aS 0 fun cp ac=>?_;refine gb h fun ad aB h=>?_;refine LW.cl (ya aB rfl (ac.rI 2 rfl)) ?_;rintro _ cq ⟨X,Y,rfl,hs⟩;have aT:=ac.add hs;refine go ?_;refine LW.al aT fun Z cr aU=>?_;refine LW.al aU fun cf ct ae=>?_;refine LW.st ae 1 fun cu af=>?_;refine LW.st af 0 fun cv B=>?_;refine gb h fun a1 aC h=>?_;refine LW.cl (yd aC rfl (B.rI 5 rfl)) ?_;rintro _ cw ⟨bW,b6,rfl,hs⟩;have ah:=B.add hs;refine go ?_;refine LW.al ah fun cg cx ai=>?_;refine LW.al ai fun ci cy aj=>?_;refine LW.st aj 1 fun cz ak=>?_;refine LW.st ak 0 fun cA d=>?_;refine gs ?_;obtain ⟨aX,av,aL⟩:=ob h;refine CW.jn [3,4,6,7,8] [3,4,5,6,7,8] [(54,.bool aX)] d (h1:=?_) (h2:=?_)
 · have h:=av;refine go ?_;refine LW.u (iQ.Co O1 rfl rfl (fun w=>Pa ad.2 a1.2 w)) rfl ?_;refine gB h ?_ ?_<;>intro _ h
   · refine go ?_;cases oi h;exact d.po [3,4,5,6,7,8]
   refine go ?_;refine bH h ?_ ?_<;>intro _ h
   · refine go ?_;cases oi h;exact d.po [3,4,5,6,7,8]
   refine gB h ?_ ?_<;>intro _ h
   · refine go ?_;cases oi h;exact d.po [3,4,5,6,7,8]
   refine gb h fun cG aD h=>?_;refine go ?_;refine LW.c0 (yU aD) d fun cB am=>?_;refine go ?_;refine LW.u (iQ.seq rfl rfl) rfl ?_;refine go ?_;cases oi h;exact am.po [3,4,5,6,7,8]
 intro e cC b;have h:=aL;refine kD [3,4,6,7,8,54] fun e=>?_;refine gc h ?_ ?_<;>intro _ h
 · refine go ?_;cases h;exact fi b
 refine gc h ?_ ?_<;>intro _ h
 · refine gs ?_;obtain ⟨aY,aw,aM⟩:=ob h;refine CW.jn [] [] [(2,.bool aY)] b (h1:=?_) (h2:=?_)
   · have h:=aw;refine gb h fun cH aE h=>?_;refine LW.c0 (zI aE rfl (b.rI 2 rfl)) b fun cD G=>?_;refine gB h ?_ ?_<;>intro _ h
     · refine go ?_;cases oi h;exact G.po []
     refine go ?_;cases oi h;exact G.po []
   intro e cE an;have h:=aM;refine go ?_;cases h;exact fi an
 refine gs ?_;obtain ⟨aZ,ax,aN⟩:=ob h;refine CW.jn [3,4,6,7,8] [0,1,2,3,4,5] [(78,.bool aZ)] b (h1:=?_) (h2:=?_)
 · have h:=ax;refine gB h ?_ ?_<;>intro _ h
   · refine go ?_;cases oi h;exact b.po [0,1,2,3,4,5]
   refine go ?_;cases oi h;exact b.po [0,1,2,3,4,5]
 intro e cF f;have h:=aN;refine gc h ?_ ?_<;>intro _ h
 · refine go ?_;cases h;exact fi f
 refine gs ?_;obtain ⟨a0,ay,aO⟩:=ob h;refine CW.jn [3,4,7] [1,2,4,5] [(91,.bool a0)] f (h1:=?_) (h2:=?_)
 · have h:=ay;refine gB h ?_ ?_<;>intro _ h
   · refine gB h ?_ ?_<;>intro _ h
     · refine go ?_;cases oi h;exact f.po [1,2,4,5]
     refine go ?_;cases oi h;exact f.po [1,2,4,5]
   refine go ?_;cases oi h;exact f.po [1,2,4,5]
 intro e R H;have h:=aO;refine gs ?_;obtain ⟨aF,az,aa⟩:=ob h;refine CW.cut (fun e wb=>∃ x,aF=.inl x∧En e [(3,.pointer (some ⟨aK,0,none⟩)),(7,.pointer (some ⟨Z,0,none⟩))]∧St w0 [] wb [bx Z 26 [vI ad.1.PQ,vS X x.length Y],sl X Y x,bx aK 26 [vI aH.1.PQ,vS aI aH.1.parts.length aJ],sl aI aJ aH.1.parts]) ?_ ?_
 · have h:=az;refine gc h ?_ ?_<;>intro _ h
   · refine kb ?_;have I:=H.drew;refine gb h fun cI l h=>?_;obtain ⟨b3,cj,hae,bp,br⟩:=I.iF (α:=cd) (i:=1) rfl l;subst hae;refine go ?_;obtain ⟨bU,L,g⟩:=I.freeze (α:=cd) 1 rfl;obtain ⟨b4,ck,bo,hae,ar,_,_,au,aA⟩:=L.kc.idx l;cases hae;obtain ⟨bX,b7,bY,b8,bZ,b9,b0,ca,b1,cb,b2,cc,rfl,bt,bu,bv,bw,bz,bA⟩:=au;refine AW.tk 5 rfl (jV.lC R.drew na rfl (aA 14 _ rfl)) (g.zC 1 rfl ar) ?_;refine gb h fun cJ M h=>?_;obtain ⟨b5,cm,hae,bq,bs⟩:=g.iF (α:=cd) (i:=3) rfl M;subst hae;refine go ?_;obtain ⟨bV,o,j⟩:=g.freeze (α:=cd) 3 rfl;obtain ⟨bg,bB,a2,hae,m,_,_,U,n⟩:=o.kc.idx M;cases hae;obtain ⟨ba,bi,bb,bj,bc,bk,bd,bl,be,bm,bf,bn,rfl,a3,a4,a6,a7,a8,a9⟩:=U;refine AW.tk 11 rfl (jV.lC R.drew na rfl (n 14 _ rfl)) (j.zC 3 rfl m) ?_;refine go ?_;refine AW.u (i:=13) rfl (by kernel_rfl) rfl rfl (iQ.min rfl rfl) ?_;refine gc h ?_ ?_<;>intro _ h
     · refine go ?_;cases h;have h:=aa;cases h;exact fi j
     refine kb ?_;have J:=j.drew;refine go ?_;refine AW.tk 8 rfl (jV.lC R.drew na rfl (n 14 _ rfl)) (J.zC 3 rfl m) ?_;refine go ?_;have ao:=J.i7 (α:=cd) 1 rfl L;have ⟨bS,q,h⟩:=ob h;refine jO 11 ?_;refine LW.se 14 ao 1 l q (hM:=(ko (fun w cs F hF=>by obtain ⟨bC,bJ,bD,bK,bE,bL,bF,bM,bG,bN,bI,bO,rfl,hH⟩:=hF;exact ⟨bC,bJ,bD,bK,bE,bL,bF,bM,bG,bN,bI,bO,rfl,hH⟩))) fun bP K=>?_;refine jn ?_;refine go ?_;rw [iB (oi q)] at K;have ap:=K.i7 (α:=cd) 3 rfl o;cases oi h;exact ⟨_,rfl,(ap.po [0,1,2,3])⟩
   refine go ?_;cases oi h;exact ⟨_,rfl,(H.po [0,1,2,3])⟩
 rintro e bQ ⟨x,rfl,hM⟩;obtain ⟨e,rfl,k⟩:=eo hM;have h:=aa;refine gb h fun bT W h=>?_;refine LW.c0 (yc W rfl (k.rI 1 rfl) rfl (k.rI 3 rfl)) k fun bR aq=>?_;refine go ?_;cases h;exact fi aq
instance k_3:Ct prog 3:=⟨by kernel_rfl,@ye⟩
end Go.Kx
