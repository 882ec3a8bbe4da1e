import Derived.Test.YtlcgibcdiikheaaGreatWa21
import Derived.Test.YtlcgibcdiikheaaGreatWa35
import Derived.Test.YtlcgibcdiikheaaGreatWa36
namespace Go.Kx
open Go Go.RowKit Go.Proofs
open Tryz
set_option maxRecDepth 10000
set_option maxHeartbeats 8000000
set_option linter.unusedVariables false
set_option linter.unusedSimpArgs false
theorem C1 {w0 N ap aq aP V r} (h:qj N ap aq aP V=some r) {ab ai ac} (an:ai=ap.parts.length) (ao:rb w0 ab ac ap.parts) :
    gV prog 14 #[.agg #[vI ap.Pt,vS ab ai ac],vI aq,vI aP,.agg #[vI V.Pf,vI V.a,vI V.b,vI V.c,vI V.d,vI V.e]] w0 (fun v w=>∃ W X,v=.tuple #[.agg #[vI r.1.Pt,vS W r.1.parts.length X],.agg #[vI r.2.code,vI r.2.Pz]]∧St w0 [] w [sl W X r.1.parts]):=by
 subst an;unfold qj at h;refine gV.fn func14 fun e=>?_;have eA:=St.start w0;refine T ?_;intro fh fk eB fj fm eC aj fp eD ak fq eE U eI h ar O eK eF Y eL eG eM aM;obtain ⟨aN,aE,aJ⟩:=ob h;refine CW.jn [1,2,4,7,8,9,10] [0,1,2,3,4,5] [(27,.bool aN)] aM (h1:=?_) (h2:=?_)
 · have h:=aE;refine T ?_;intro e8 dv h eN eH;refine bH h ?_ ?_<;>intro _ h
   · exact rt
   refine T ?_;intro e9 dw h eO cx;exact rt
 intro e eP au;have h:=aJ;refine gc h ?_ ?_<;>intro _ h
 · refine jt [(0,vI 2)] #[vI 2,vI 0] ?_;refine T ?_;intro eQ cy eR cz;exact rt
 refine jK ?_;have cA:=au.drew;refine gb h fun fa aH h=>?_;obtain ⟨en,eJ,cm,rfl,dj,dl,dn,⟨ed,ep,ee,er,ef,es,eh,et,ei,eu,ej,ew,rfl,dp,dq,dr,ds,dt,du⟩,dk⟩:=ao.idx aH;refine go ?_;refine T ?_;intro fb dx h eS av;refine gc h ?_ ?_<;>intro _ h
 · refine jt [(0,vI 1)] #[vI 1,vI 0] ?_;refine T ?_;intro eT cB eU cC;exact rt
 refine gs ?_;refine CW.region ?_;refine gs ?_;refine CW.block ?_;refine gs ?_;refine CW.region ?_;refine gs ?_;obtain ⟨aO,aF,aK⟩:=ob h;refine CW.jn [1,2,4,7,8,9,10] [0,1,2,3,4,5] [(44,.bool aO)] av (h1:=?_) (h2:=?_)
 · have h:=aF;refine gc h ?_ ?_<;>intro _ h
   · exact rt
   refine jw [1,2,4,7,8,9,10,43,44] fun e=>?_;refine gc h ?_ ?_<;>intro _ h
   · exact rt
   exact rt
 intro e eV aw;have h:=aK;refine gc h ?_ ?_<;>intro _ h
 · refine T ?_;intro fc dy h eW cD;refine CW.fl [1,7,8,9,10,11,53] fun e=>?_;refine gc h ?_ ?_<;>intro _ h
   · refine jt [(0,vI 2)] #[vI 2,vI 0] ?_;refine T ?_;intro eX cE eY cF;exact rt
   refine gc h ?_ ?_<;>intro _ h
   · refine T ?_;intro fd dA h ek ex eZ cG e0 cH e1 cI;exact rt
   refine gc h ?_ ?_<;>intro _ h
   · refine T ?_;intro fe dB h el ey e2 cJ e3 cK e4 cL;exact rt
   refine T ?_;intro ff dC h em ez e5 cM e6 cN e7 cO;exact rt
 refine gs ?_;obtain ⟨f,aG,aL⟩:=ob h;refine CW.cut (fun e wb=>∃ (H:Nat) (I:Nat) (m:Ad) (u:Nat) (n:Ad) (x:Nat) (p:Ad) (A:Nat) (q:Ad) (B:Nat) (g:Ad) (k:Nat) (j:Ad) (l:Nat),En e [(1,vI aq),(8,.pointer (some ⟨aj,0,none⟩)),(9,.pointer (some ⟨ak,0,none⟩)),(10,.pointer (some ⟨Y,0,none⟩)),(12,.pointer (some ⟨H,0,none⟩)),(13,.pointer (some ⟨I,0,none⟩))]∧St w0 [] wb [bx Y 26 [vI U.Pt,vS ar U.parts.length O],sl ar O U.parts,bx ak 32 [vI 0,vI 0],bx aj 26 [vI 0,vS none 0 0],bx H 50 [vS m f.1.length u,vS n f.2.1.length x,vS p f.2.2.1.length A,vS q f.2.2.2.1.length B,vI f.2.2.2.2.1,vI f.2.2.2.2.2.1,vI f.2.2.2.2.2.2.1,vS g f.2.2.2.2.2.2.2.1.length k,vS j f.2.2.2.2.2.2.2.2.1.length l,vI f.2.2.2.2.2.2.2.2.2.1,vI f.2.2.2.2.2.2.2.2.2.2.1,vI f.2.2.2.2.2.2.2.2.2.2.2.1,vI f.2.2.2.2.2.2.2.2.2.2.2.2.1,vI f.2.2.2.2.2.2.2.2.2.2.2.2.2.1,vI f.2.2.2.2.2.2.2.2.2.2.2.2.2.2.1,vI f.2.2.2.2.2.2.2.2.2.2.2.2.2.2.2.1],bx I 32 [vI f.2.2.2.2.2.2.2.2.2.2.2.2.2.2.2.2.1,vI f.2.2.2.2.2.2.2.2.2.2.2.2.2.2.2.2.2],sl m u f.1,sl n x f.2.1,sl p A f.2.2.1,sl q B f.2.2.2.1,sl g k f.2.2.2.2.2.2.2.1,sl j l f.2.2.2.2.2.2.2.2.1]) ?_ ?_
 · have h:=aG;refine dW ?_;have ad:=aw.drew;refine gb h fun fg ah h=>?_;obtain ⟨bI,dD,hae,dm,aU⟩:=ad.hZ (α:=bh) (i:=1) rfl ah;subst hae;refine go ?_;obtain ⟨a3,C,cP⟩:=ad.freeze (α:=bh) 1 rfl;obtain ⟨bJ,dE,aQ,hae,aR,_,_,am,aS⟩:=C.ju.idx ah;cases hae;obtain ⟨a4,bK,a5,bL,a6,bM,a7,bN,a8,bO,a9,bP,rfl,aW,aX,aY,aZ,a0,a1⟩:=am;refine T ?_;have ⟨eb,a2,h⟩:=ob h;refine AW.all (rs:=[10,14,15]) (by kernel_rfl) (by simp) ⟨?_,?_,?_,trivial⟩
   · refine oA ?_;refine T ?_;intro ba bQ bb bR bc bS bd bT be bU bf bV dF cQ;refine AW.all (rs:=[14,15]) (by kernel_rfl) (by simp) ⟨?_,?_,trivial⟩
     · refine oA ?_;refine T ?_;intro cn dG cR co dH cS dI cT dJ ax;have cU:=ax.iD (α:=bh) 9 rfl C;exact rt
     refine oA ?_;refine T ?_;intro cp dK cV;refine jP 14 ?_;refine T ?_;intro cq dL cW dM cX dN ay;have cY:=ay.iD (α:=bh) 9 rfl C;exact rt
   · refine oA ?_;refine T ?_;intro cr dO cZ;refine AW.all (rs:=[10,15]) (by kernel_rfl) (by simp) ⟨?_,?_,trivial⟩
     · refine oA ?_;refine T ?_;intro bg bW bi bX bj bY bk bZ bl b0 bm b1 dP c0 cs dQ c1 dR c2 dS az;have c3:=az.iD (α:=bh) 9 rfl C;exact rt
     refine oA ?_;refine T ?_;intro ct dT c4;refine jP 10 ?_;refine T ?_;intro bn b2 bo b3 bp b4 bq b5 br b6 bs b7 dU c5 dV c6 dX aA;have c7:=aA.iD (α:=bh) 9 rfl C;exact rt
   refine oA ?_;refine T ?_;intro cu dY c8;refine AW.all (rs:=[10,14]) (by kernel_rfl) (by simp) ⟨?_,?_,trivial⟩
   · refine oA ?_;refine T ?_;intro bt b8 bu b9 bv ca bw cb bz cc bA ce dZ c9 cv d0 da d1 db d2 aB;have dc:=aB.iD (α:=bh) 9 rfl C;exact rt
   refine oA ?_;refine T ?_;intro cw d3 dd;refine jP 10 ?_;refine T ?_;intro bB cf bC cg bD ci bE cj bF ck bG cl d4 de d5 df d6 aC;have dg:=aC.iD (α:=bh) 9 rfl C;exact rt
 rintro e d7 ⟨H,I,m,u,n,x,p,A,q,B,g,k,j,l,hE,ae⟩;obtain ⟨e,rfl⟩:=hE.out;have h:=aL;refine gb h fun aI Z h=>?_;obtain ⟨K,J,hae,aT,aV⟩:=ae.hZ (α:=bh) (i:=1) rfl Z;subst hae;refine go ?_;have aD:=ae.pk (M:=[sl m u f.1,sl n x f.2.1,sl p A f.2.2.1,sl q B f.2.2.2.1,sl g k f.2.2.2.2.2.2.2.1,sl j l f.2.2.2.2.2.2.2.2.1]++[bx Y 26 [vI U.Pt,vS (some ⟨K,J,none⟩) U.parts.length O],sl (some ⟨K,J,none⟩) O U.parts,bx ak 32 [vI 0,vI 0],bx aj 26 [vI 0,vS none 0 0],bx H 50 [vS m f.1.length u,vS n f.2.1.length x,vS p f.2.2.1.length A,vS q f.2.2.2.1.length B,vI f.2.2.2.2.1,vI f.2.2.2.2.2.1,vI f.2.2.2.2.2.2.1,vS g f.2.2.2.2.2.2.2.1.length k,vS j f.2.2.2.2.2.2.2.2.1.length l,vI f.2.2.2.2.2.2.2.2.2.1,vI f.2.2.2.2.2.2.2.2.2.2.1,vI f.2.2.2.2.2.2.2.2.2.2.2.1,vI f.2.2.2.2.2.2.2.2.2.2.2.2.1,vI f.2.2.2.2.2.2.2.2.2.2.2.2.2.1,vI f.2.2.2.2.2.2.2.2.2.2.2.2.2.2.1,vI f.2.2.2.2.2.2.2.2.2.2.2.2.2.2.2.1],bx I 32 [vI f.2.2.2.2.2.2.2.2.2.2.2.2.2.2.2.2.1,vI f.2.2.2.2.2.2.2.2.2.2.2.2.2.2.2.2.2]]) [6,7,8,9,10,11,0,1,2,3,4,5];have ⟨ec,aa,h⟩:=ob h;refine LW.vl (M:=[sl m u f.1,sl n x f.2.1,sl p A f.2.2.1,sl q B f.2.2.2.1,sl g k f.2.2.2.2.2.2.2.1,sl j l f.2.2.2.2.2.2.2.2.1]) (L:=[bx Y 26 [vI U.Pt,vS (some ⟨K,J,none⟩) U.parts.length O],sl (some ⟨K,J,none⟩) O U.parts,bx ak 32 [vI 0,vI 0],bx aj 26 [vI 0,vS none 0 0],bx H 50 [vS m f.1.length u,vS n f.2.1.length x,vS p f.2.2.1.length A,vS q f.2.2.2.1.length B,vI f.2.2.2.2.1,vI f.2.2.2.2.2.1,vI f.2.2.2.2.2.2.1,vS g f.2.2.2.2.2.2.2.1.length k,vS j f.2.2.2.2.2.2.2.2.1.length l,vI f.2.2.2.2.2.2.2.2.2.1,vI f.2.2.2.2.2.2.2.2.2.2.1,vI f.2.2.2.2.2.2.2.2.2.2.2.1,vI f.2.2.2.2.2.2.2.2.2.2.2.2.1,vI f.2.2.2.2.2.2.2.2.2.2.2.2.2.1,vI f.2.2.2.2.2.2.2.2.2.2.2.2.2.2.1,vI f.2.2.2.2.2.2.2.2.2.2.2.2.2.2.2.1],bx I 32 [vI f.2.2.2.2.2.2.2.2.2.2.2.2.2.2.2.2.1,vI f.2.2.2.2.2.2.2.2.2.2.2.2.2.2.2.2.2]]) (z:=aI) (z':=(bh.mk (iY.mk f.1) f.2.1 f.2.2.1 (g7.mk f.2.2.2.1 (i7.mk f.2.2.2.2.1 f.2.2.2.2.2.1 f.2.2.2.2.2.2.1 f.2.2.2.2.2.2.2.1)) f.2.2.2.2.2.2.2.2.1 f.2.2.2.2.2.2.2.2.2.1 f.2.2.2.2.2.2.2.2.2.2.1 (hO.mk f.2.2.2.2.2.2.2.2.2.2.2.1 f.2.2.2.2.2.2.2.2.2.2.2.2.1 f.2.2.2.2.2.2.2.2.2.2.2.2.2.1) f.2.2.2.2.2.2.2.2.2.2.2.2.2.2.1 f.2.2.2.2.2.2.2.2.2.2.2.2.2.2.2.1)) (o:=0) aD (i:=1) rfl Z kU rfl (by show _=J+(aq:Int).toNat * 16+0;omega) rfl rfl rfl rfl (whole (fun w G hG=>⟨m,u,n,x,p,A,q,B,g,k,j,l,rfl,hG⟩)) ?_
 intro d8 af hf;rw [oi aa] at af;refine jK ?_;have dh:=af.drew;refine T ?_;intro d9 di ea R;cases h;rw [gS (oi aa)] at R;exact Rc (ij.b R 3 rfl pN rfl rfl) (ij.b R 2 rfl k9 rfl rfl) ⟨(some ⟨K,J,none⟩),O,rfl,R.pk [1]⟩
instance k_14:Ct prog 14:=⟨by kernel_rfl,@C1⟩
theorem C5 {w0 N ao ap aH Y r} (h:pU N ao ap aH Y=some r) {af ak ah} (am:ak=ao.parts.length) (an:rb w0 af ah ao.parts) :
    gV prog 13 #[.agg #[vI ao.Pt,vS af ak ah],vI ap,vI aH,.agg #[vI Y.Pf,vI Y.a,vI Y.b,vI Y.c,vI Y.d,vI Y.e]] w0 (fun v w=>∃ Z aa,v=.tuple #[.agg #[vI r.1.Pt,vS Z r.1.parts.length aa],.agg #[vI r.2.code,vI r.2.Pz]]∧St w0 [] w [sl Z aa r.1.parts]):=by
 subst am;unfold pU at h;refine gV.fn func13 fun e=>?_;have dX:=St.start w0;refine T ?_;intro eB eD dY eC eE dZ ad eF d0 ae eG d1 X d5 h aq O d7 d2 R d8 d3 d9 aF;obtain ⟨aG,ax,aD⟩:=ob h;refine CW.jn [1,2,4,7,8,9,10] [0,1,2,3,4,5] [(26,.bool aG)] aF (h1:=?_) (h2:=?_)
 · have h:=ax;refine T ?_;intro er cU h ea d4;refine bH h ?_ ?_<;>intro _ h
   · exact rt
   refine T ?_;intro es cV h eb bX;exact rt
 intro e ec au;have h:=aD;refine gc h ?_ ?_<;>intro _ h
 · refine jt [(0,vI 2)] #[vI 2,vI 0] ?_;refine T ?_;intro ed bY ee bZ;exact rt
 refine jK ?_;have b0:=au.drew;refine gb h fun et aA h=>?_;obtain ⟨dN,d6,bM,rfl,cK,cM,cN,⟨dF,dO,dG,dP,dH,dQ,dI,dR,dJ,dS,dK,dT,rfl,cO,cP,cQ,cR,cS,cT⟩,cL⟩:=an.idx aA;refine go ?_;refine T ?_;intro eu cW h ef b1;refine gc h ?_ ?_<;>intro _ h
 · refine jt [(0,vI 1)] #[vI 1,vI 0] ?_;refine T ?_;intro eh b2 ei b3;exact rt
 refine T ?_;intro ew cX h ej av;refine CW.fl [1,2,4,7,8,9,10,11,46] fun e=>?_;refine gc h ?_ ?_<;>intro _ h
 · refine jt [(0,vI 2)] #[vI 2,vI 0] ?_;refine T ?_;intro ek b4 el b5;exact rt
 refine gs ?_;refine CW.region ?_;refine gs ?_;refine CW.region ?_;refine gs ?_;obtain ⟨aB,ay,ar⟩:=ob h;refine CW.cut (fun e wb=>∃ C,aB=.inl C∧∃ (V:Ad) (W:Nat),En e [(8,.pointer (some ⟨ad,0,none⟩)),(9,.pointer (some ⟨ae,0,none⟩)),(10,.pointer (some ⟨R,0,none⟩)),(12,vI C.1),(13,vI C.2.1)]∧St w0 [] wb [bx R 26 [vI C.2.2.1,vS V C.2.2.2.length W],bx ae 32 [vI 0,vI 0],bx ad 26 [vI 0,vS none 0 0],sl V W C.2.2.2]) ?_ ?_
 · have h:=ay;refine gc h ?_ ?_<;>intro _ h
   · refine T ?_;intro ex cY h em b6;exact rt
   refine gc h ?_ ?_<;>intro _ h
   · refine T ?_;intro ey cZ h dL dU en b7;exact rt
   refine gc h ?_ ?_<;>intro _ h
   · refine T ?_;intro ez c0 h dM dV ep b8;exact rt
   refine gs ?_;obtain ⟨f,az,aE⟩:=ob h;refine CW.cut (fun e wb=>∃ (H:Nat) (I:Nat) (m:Ad) (u:Nat) (n:Ad) (x:Nat) (p:Ad) (A:Nat) (q:Ad) (B:Nat) (g:Ad) (k:Nat) (j:Ad) (l:Nat),En e [(1,vI ap),(8,.pointer (some ⟨ad,0,none⟩)),(9,.pointer (some ⟨ae,0,none⟩)),(10,.pointer (some ⟨R,0,none⟩)),(14,.pointer (some ⟨H,0,none⟩)),(15,.pointer (some ⟨I,0,none⟩))]∧St w0 [] wb [bx R 26 [vI X.Pt,vS aq X.parts.length O],sl aq O X.parts,bx ae 32 [vI 0,vI 0],bx ad 26 [vI 0,vS none 0 0],bx H 50 [vS m f.1.length u,vS n f.2.1.length x,vS p f.2.2.1.length A,vS q f.2.2.2.1.length B,vI f.2.2.2.2.1,vI f.2.2.2.2.2.1,vI f.2.2.2.2.2.2.1,vS g f.2.2.2.2.2.2.2.1.length k,vS j f.2.2.2.2.2.2.2.2.1.length l,vI f.2.2.2.2.2.2.2.2.2.1,vI f.2.2.2.2.2.2.2.2.2.2.1,vI f.2.2.2.2.2.2.2.2.2.2.2.1,vI f.2.2.2.2.2.2.2.2.2.2.2.2.1,vI f.2.2.2.2.2.2.2.2.2.2.2.2.2.1,vI f.2.2.2.2.2.2.2.2.2.2.2.2.2.2.1,vI f.2.2.2.2.2.2.2.2.2.2.2.2.2.2.2.1],bx I 32 [vI f.2.2.2.2.2.2.2.2.2.2.2.2.2.2.2.2.1,vI f.2.2.2.2.2.2.2.2.2.2.2.2.2.2.2.2.2],sl m u f.1,sl n x f.2.1,sl p A f.2.2.1,sl q B f.2.2.2.1,sl g k f.2.2.2.2.2.2.2.1,sl j l f.2.2.2.2.2.2.2.2.1]) ?_ ?_
   · have h:=az;refine dW ?_;have b9:=av.drew;refine go ?_;refine T ?_;have ⟨eA,c1,h⟩:=ob h;refine AW.all (rs:=[10,14,15]) (by kernel_rfl) (by simp) ⟨?_,?_,?_,trivial⟩
     · refine oA ?_;refine T ?_;intro aK be aL bf aM bg aN bi aO bj aP bk c2 ca;refine AW.all (rs:=[14,15]) (by kernel_rfl) (by simp) ⟨?_,?_,trivial⟩
       · refine oA ?_;refine T ?_;intro bN c3 cb bO c4 cc c5 ce c6 cf;exact rt
       refine oA ?_;refine T ?_;intro bP c7 cg;refine jP 14 ?_;refine T ?_;intro bQ c8 ci c9 cj da ck;exact rt
     · refine oA ?_;refine T ?_;intro bR db cl;refine AW.all (rs:=[10,15]) (by kernel_rfl) (by simp) ⟨?_,?_,trivial⟩
       · refine oA ?_;refine T ?_;intro aQ bl aR bm aS bn aT bo aU bp aV bq dc cm bS dd cn de co df cp;exact rt
       refine oA ?_;refine T ?_;intro bT dg cq;refine jP 10 ?_;refine T ?_;intro aW br aX bs aY bt aZ bu a0 bv a1 bw dh cr di cs dj ct;exact rt
     refine oA ?_;refine T ?_;intro bU dk cu;refine AW.all (rs:=[10,14]) (by kernel_rfl) (by simp) ⟨?_,?_,trivial⟩
     · refine oA ?_;refine T ?_;intro a2 bz a3 bA a4 bB a5 bC a6 bD a7 bE dl cv bV dm cw dn cx dp cy;exact rt
     refine oA ?_;refine T ?_;intro bW dq cz;refine jP 10 ?_;refine T ?_;intro a8 bF a9 bG ba bI bb bJ bc bK bd bL dr cA ds cB dt cC;exact rt
   rintro e du ⟨H,I,m,u,n,x,p,A,q,B,g,k,j,l,hE,ai⟩;obtain ⟨e,rfl⟩:=hE.out;have h:=aE;refine gb h fun aC ab h=>?_;obtain ⟨K,J,hae,aI,aJ⟩:=ai.hZ (α:=bh) (i:=1) rfl ab;subst hae;refine go ?_;have aw:=ai.pk (M:=[sl m u f.1,sl n x f.2.1,sl p A f.2.2.1,sl q B f.2.2.2.1,sl g k f.2.2.2.2.2.2.2.1,sl j l f.2.2.2.2.2.2.2.2.1]++[bx R 26 [vI X.Pt,vS (some ⟨K,J,none⟩) X.parts.length O],sl (some ⟨K,J,none⟩) O X.parts,bx ae 32 [vI 0,vI 0],bx ad 26 [vI 0,vS none 0 0],bx H 50 [vS m f.1.length u,vS n f.2.1.length x,vS p f.2.2.1.length A,vS q f.2.2.2.1.length B,vI f.2.2.2.2.1,vI f.2.2.2.2.2.1,vI f.2.2.2.2.2.2.1,vS g f.2.2.2.2.2.2.2.1.length k,vS j f.2.2.2.2.2.2.2.2.1.length l,vI f.2.2.2.2.2.2.2.2.2.1,vI f.2.2.2.2.2.2.2.2.2.2.1,vI f.2.2.2.2.2.2.2.2.2.2.2.1,vI f.2.2.2.2.2.2.2.2.2.2.2.2.1,vI f.2.2.2.2.2.2.2.2.2.2.2.2.2.1,vI f.2.2.2.2.2.2.2.2.2.2.2.2.2.2.1,vI f.2.2.2.2.2.2.2.2.2.2.2.2.2.2.2.1],bx I 32 [vI f.2.2.2.2.2.2.2.2.2.2.2.2.2.2.2.2.1,vI f.2.2.2.2.2.2.2.2.2.2.2.2.2.2.2.2.2]]) [6,7,8,9,10,11,0,1,2,3,4,5];have ⟨dE,ac,h⟩:=ob h;refine LW.vl (M:=[sl m u f.1,sl n x f.2.1,sl p A f.2.2.1,sl q B f.2.2.2.1,sl g k f.2.2.2.2.2.2.2.1,sl j l f.2.2.2.2.2.2.2.2.1]) (L:=[bx R 26 [vI X.Pt,vS (some ⟨K,J,none⟩) X.parts.length O],sl (some ⟨K,J,none⟩) O X.parts,bx ae 32 [vI 0,vI 0],bx ad 26 [vI 0,vS none 0 0],bx H 50 [vS m f.1.length u,vS n f.2.1.length x,vS p f.2.2.1.length A,vS q f.2.2.2.1.length B,vI f.2.2.2.2.1,vI f.2.2.2.2.2.1,vI f.2.2.2.2.2.2.1,vS g f.2.2.2.2.2.2.2.1.length k,vS j f.2.2.2.2.2.2.2.2.1.length l,vI f.2.2.2.2.2.2.2.2.2.1,vI f.2.2.2.2.2.2.2.2.2.2.1,vI f.2.2.2.2.2.2.2.2.2.2.2.1,vI f.2.2.2.2.2.2.2.2.2.2.2.2.1,vI f.2.2.2.2.2.2.2.2.2.2.2.2.2.1,vI f.2.2.2.2.2.2.2.2.2.2.2.2.2.2.1,vI f.2.2.2.2.2.2.2.2.2.2.2.2.2.2.2.1],bx I 32 [vI f.2.2.2.2.2.2.2.2.2.2.2.2.2.2.2.2.1,vI f.2.2.2.2.2.2.2.2.2.2.2.2.2.2.2.2.2]]) (z:=aC) (z':=(bh.mk (iY.mk f.1) f.2.1 f.2.2.1 (g7.mk f.2.2.2.1 (i7.mk f.2.2.2.2.1 f.2.2.2.2.2.1 f.2.2.2.2.2.2.1 f.2.2.2.2.2.2.2.1)) f.2.2.2.2.2.2.2.2.1 f.2.2.2.2.2.2.2.2.2.1 f.2.2.2.2.2.2.2.2.2.2.1 (hO.mk f.2.2.2.2.2.2.2.2.2.2.2.1 f.2.2.2.2.2.2.2.2.2.2.2.2.1 f.2.2.2.2.2.2.2.2.2.2.2.2.2.1) f.2.2.2.2.2.2.2.2.2.2.2.2.2.2.1 f.2.2.2.2.2.2.2.2.2.2.2.2.2.2.2.1)) (o:=0) aw (i:=1) rfl ab kU rfl (by show _=J+(ap:Int).toNat * 16+0;omega) rfl rfl rfl rfl (whole (fun w G hG=>⟨m,u,n,x,p,A,q,B,g,k,j,l,rfl,hG⟩)) ?_
   intro dv aj hf;rw [oi ac] at aj;refine jK ?_;have cD:=aj.drew;refine T ?_;intro dw cE dx U;cases h;have h:=ar;cases h;rw [gS (oi ac)] at U;exact Rc (ij.b U 3 rfl pN rfl rfl) (ij.b U 2 rfl k9 rfl rfl) ⟨(some ⟨K,J,none⟩),O,rfl,U.pk [1]⟩
 rintro e dy ⟨C,rfl,hM⟩;obtain ⟨V,W,hE,cF⟩:=hM;obtain ⟨e,rfl⟩:=hE.out;have h:=ar;refine gc h ?_ ?_<;>intro _ h
 · refine jt [(0,vI C.1)] #[vI C.1,vI 0] ?_;refine T ?_;intro dA cG dB cH;exact rt
 refine jt [(1,vI C.2.1)] #[vI 0,vI C.2.1] ?_;refine T ?_;intro dC cI dD cJ;exact rt
instance k_13:Ct prog 13:=⟨by kernel_rfl,@C5⟩
end Go.Kx
