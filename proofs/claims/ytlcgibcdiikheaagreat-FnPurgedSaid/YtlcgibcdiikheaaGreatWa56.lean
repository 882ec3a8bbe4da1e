import Derived.Test.YtlcgibcdiikheaaGreatWa48
import Derived.Test.YtlcgibcdiikheaaGreatWa49
import Derived.Test.YtlcgibcdiikheaaGreatWa51
import Derived.Test.YtlcgibcdiikheaaGreatWa53
import Derived.Test.YtlcgibcdiikheaaGreatWa54
import Derived.Test.YtlcgibcdiikheaaGreatWa55
namespace Go.Kx
open Go Go.RowKit Go.Proofs
open Tryz
set_option maxRecDepth 10000
set_option maxHeartbeats 8000000
set_option linter.unusedVariables false
set_option linter.unusedSimpArgs false
theorem yb {w0 N g bA bB bC q r} (h:n7 N g bA bB bC q=some r) {ab aw ai} (aJ:aw=g.HB.Hz.length) (bD:rb w0 ab ai g.HB.Hz) {ac ax aj} (aK:ax=g.own.length) (bE:rb w0 ac aj g.own) {ad ay ak} (aL:ay=g.HC.length) (bF:rb w0 ad ak g.HC) {ae az am} (aM:az=g.py.ag.length) (bG:rb w0 ae am g.py.ag) {af aA an} (aN:aA=g.py.gc.gQ.length) (bI:rb w0 af an g.py.gc.gQ) {ah aB ao} (aO:aB=g.gR.length) (bJ:rb w0 ah ao g.gR) :
    gZ prog 90 #[.agg #[vS ab aw ai,vS ac ax aj,vS ad ay ak,vS ae az am,vI g.py.gc.HD,vI g.py.gc.HL,vI g.py.gc.HF,vS af aA an,vS ah aB ao,vI g.HH,vI g.HJ,vI g.gP.gE,vI g.gP.gV,vI g.gP.hY,vI g.g8,vI g.HG],vI bA,vI bB,vI bC,.agg #[vI q.HA,vI q.a,vI q.b,vI q.c,vI q.d,vI q.e]] w0 (fun v w=>∃ x H, ∃ z I, ∃ A J, ∃ B K, ∃ C L, ∃ G M,v=.tuple #[.agg #[vS x r.1.HB.Hz.length H,vS z r.1.own.length I,vS A r.1.HC.length J,vS B r.1.py.ag.length K,vI r.1.py.gc.HD,vI r.1.py.gc.HL,vI r.1.py.gc.HF,vS C r.1.py.gc.gQ.length L,vS G r.1.gR.length M,vI r.1.HH,vI r.1.HJ,vI r.1.gP.gE,vI r.1.gP.gV,vI r.1.gP.hY,vI r.1.g8,vI r.1.HG],.agg #[vI r.2.code,vI r.2.HU]]∧St w0 [] w [sl x H r.1.HB.Hz,sl z I r.1.own,sl A J r.1.HC,sl B K r.1.py.ag,sl C L r.1.py.gc.gQ,sl G M r.1.gR]):=by
 subst aJ aK aL aM aN aO;unfold n7 at h;refine gZ.fn func90 fun e=>?_;have eW:=St.start w0;refine T ?_;intro fB fF eX fC fG eY fD fH eZ fE fI e0 p e4 h be bl bf bm bg bn bi bo bj bp bk bq e5 e1 eV e6 e2 e7 bu;obtain ⟨bv,a4,br⟩:=ob h;refine CW.jn [1,2,3,5,9,10,11,12] [0,1,2,3,4,5,6,7,8,9,10] [(27,.bool bv)] bu (h1:=?_) (h2:=?_)
 · have h:=a4;refine T ?_;intro ft dD h e8 e3;refine bH h ?_ ?_<;>intro _ h
   · exact rt
   refine T ?_;intro fu dE h e9 cY;refine bH h ?_ ?_<;>intro _ h
   · exact rt
   refine T ?_;intro fv dF h fa cZ;exact rt
 intro e fb c0;have h:=br;refine gc h ?_ ?_<;>intro _ h
 · refine jj [(0,vI 2)] #[vI 2,vI 0] ?_;refine T ?_;intro fc c1 fd c2;exact rt
 refine T ?_;intro fw dG h fe aX;refine CW.fl [1,2,3,9,10,11,12,34] fun e=>?_;refine gc h ?_ ?_<;>intro _ h
 · refine jj [(0,vI 1)] #[vI 1,vI 0] ?_;refine T ?_;intro ff c3 fg c4;exact rt
 refine gc h ?_ ?_<;>intro _ h
 · refine T ?_;intro fx dH h er eH es eI et eJ eu eK ew eL ex eM fh c5 fj c6 fk c7;exact rt
 refine gs ?_;refine CW.region ?_;refine gs ?_;obtain ⟨bw,a5,bs⟩:=ob h;refine CW.jn [1,2,3,9,10,11,12,38] [0,1,2,3,4,5,6,7,8,9] [(48,.bool bw)] aX (h1:=?_) (h2:=?_)
 · have h:=a5;refine gc h ?_ ?_<;>intro _ h
   · exact rt
   exact rt
 intro e fm aY;have h:=bs;refine gc h ?_ ?_<;>intro _ h
 · refine T ?_;intro fy dI h ey eN ez eO eA eP eB eQ eC eR eD eS fp c8 fq c9 fr da;exact rt
 refine gs ?_;refine CW.region ?_;refine gs ?_;obtain ⟨bz,a6,bt⟩:=ob h;refine CW.jn [1,2,3,9,10,11,12,38] [0,1,2,3,4,5,6,7,8,9] [(58,.bool bz)] aY (h1:=?_) (h2:=?_)
 · have h:=a6;refine gc h ?_ ?_<;>intro _ h
   · exact rt
   exact rt
 intro e fs aZ;have h:=bt;refine gc h ?_ ?_<;>intro _ h
 · refine T ?_;intro fA dJ h eE eT eF eU eG cr bR cs bS ct bT cu dL db dM dc dN dd;exact rt
 refine gs ?_;refine CW.region ?_;refine gs ?_;obtain ⟨a7,aG,aU⟩:=ob h;refine CW.jn [1,2,3,9,10,11,12,38] [0,1,2,3,4,5,6,7,8,9] [(68,.bool a7)] aZ (h1:=?_) (h2:=?_)
 · have h:=aG;refine gc h ?_ ?_<;>intro _ h
   · exact rt
   exact rt
 intro e dO ap;have h:=aU;refine gc h ?_ ?_<;>intro _ h
 · refine gb h fun k aR h=>?_;obtain ⟨dK,o,f⟩:=rT aR;obtain ⟨R,f⟩:=iD f;obtain ⟨U,f⟩:=iD f;obtain ⟨V,f⟩:=iD f;obtain ⟨W,f⟩:=iD f;obtain ⟨X,f⟩:=iD f;obtain ⟨Y,f⟩:=iD f;rw [oi f] at o R U V W X Y;obtain ⟨bP,O⟩:=ap.lf [1,2,3,4,5,6] [0,7,8,9];refine LW.cl (lQ o rfl rfl rfl rfl rfl rfl O.st) ?_;rintro _ dP ⟨rfl,hs⟩;have de:=O.back _ _ hs;refine T ?_;intro dQ df dR j;cases h;rw [show p.HB.Hz.length=k.1.HB.Hz.length from R] at j;rw [show p.own.length=k.1.own.length from U] at j;rw [show p.HC.length=k.1.HC.length from V] at j;rw [show p.py.ag.length=k.1.py.ag.length from W] at j;rw [show p.py.gc.gQ.length=k.1.py.gc.gQ.length from X] at j;rw [show p.gR.length=k.1.gR.length from Y] at j;exact Rc (hP.b j 8 rfl kF rfl rfl) (hP.b j 7 rfl ka rfl rfl) ⟨be,bl,bf,bm,bg,bn,bi,bo,bj,bp,bk,bq,rfl,j.pk [0,1,2,3,4,5]⟩
 refine gc h ?_ ?_<;>intro _ h
 · refine T ?_;intro ej bK h bU cv bV cw bW cx bX cy bY cz bZ cA dS dg dT dh dU di;exact rt
 refine gs ?_;refine CW.region ?_;refine gs ?_;obtain ⟨a8,aH,aV⟩:=ob h;refine CW.jn [1,2,3,9,10,11,12,38] [0,1,2,3,4,5,6,7,8,9] [(87,.bool a8)] ap (h1:=?_) (h2:=?_)
 · have h:=aH;refine CW.fl [1,2,3,9,10,11,12,38,87] fun e=>?_;refine gc h ?_ ?_<;>intro _ h
   · exact rt
   refine gc h ?_ ?_<;>intro _ h
   · exact rt
   exact rt
 intro e dV a0;have h:=aV;refine kI [1,2,3,9,10,11,12,38,87] fun e=>?_;refine gc h ?_ ?_<;>intro _ h
 · refine T ?_;intro ek bL h b1 cB b2 cC b3 cD b4 cE b5 cF b6 cG dX dj dY dk dZ dl;exact rt
 refine gs ?_;refine CW.region ?_;refine gs ?_;obtain ⟨a9,aI,aW⟩:=ob h;refine CW.jn [1,2,3,9,10,11,12,38] [0,1,2,3,4,5,6,7,8,9] [(96,.bool a9)] a0 (h1:=?_) (h2:=?_)
 · have h:=aI;refine gc h ?_ ?_<;>intro _ h
   · exact rt
   exact rt
 intro e d0 dm;have h:=aW;refine gc h ?_ ?_<;>intro _ h
 · refine T ?_;intro el bM h b7 cH b8 cI b9 cJ ca cK cb cL cc cM d1 dn d2 dp d3 dq;exact rt
 refine gc h ?_ ?_<;>intro _ h
 · refine T ?_;intro em bN h ce cN cf cO cg cP ci cQ cj cR ck cS d4 dr d5 ds d6 dt;exact rt
 refine gc h ?_ ?_<;>intro _ h
 · refine T ?_;intro en bO h d7 a1;refine CW.fl [9,10,11,12,124] fun e=>?_;refine gc h ?_ ?_<;>intro _ h
   · refine jj [(0,vI 2)] #[vI 2,vI 0] ?_;refine T ?_;intro d8 du d9 dv;exact rt
   refine kG ?_;have a2:=a1.drew;refine go ?_;obtain ⟨bQ,n,a3⟩:=a2.freeze (α:=iS) 6 rfl;have ⟨ba,Z,h⟩:=ob h;obtain ⟨cm,cT,aC,aD,aP⟩:=iy.vb n.jB Z;have au:=(n.jB).le;refine AW.u (i:=5) rfl (by kernel_rfl) rfl rfl (iI.sub (α:=iS) (l:=p.gR) underlying46 A3 rfl wz (wC rfl) Z au aC aD) ?_;refine gb h fun bb aa h=>?_;obtain ⟨cn,cU,aE,aF,aQ⟩:=iy.vb n.jB aa;have av:=(n.jB).le;refine AW.u (i:=12) rfl (by kernel_rfl) rfl rfl (iI.sub (α:=iS) (l:=p.gR) underlying46 A3 rfl (wC rfl) wz aa av aE aF) ?_;refine jP 0 ?_;refine LW.b0 (α:=iS) a3 ?_;intro co cV ea aq hf;refine T ?_;have ⟨bc,aS,h⟩:=ob h;refine jP 6 ?_;refine LW.jw (l:=([]:List iS)) (m:=ba) sW rfl rfl (aq.rZ 7 rfl aP) aS aq (i:=0) rfl rfl ?_;intro cp cW eb ar hf;refine T ?_;have ⟨ep,aT,h⟩:=ob h;refine jP 13 ?_;refine LW.jw (l:=bc) (m:=bb) sW rfl rfl (ar.rZ 7 rfl aQ) aT ar (i:=0) rfl rfl ?_;intro cq cX ec dw hf;refine T ?_;intro ed dx;refine LW.bd [] #[vI 0,vI 0] ?_;refine T ?_;intro ee dy ef dA;exact rt
 refine jj [(0,vI 2)] #[vI 2,vI 0] ?_;refine T ?_;intro eh dB ei dC;exact rt
instance k_90:Ct prog 90:=⟨by kernel_rfl,@yb⟩
theorem xD {w0 N ap aq aP V r} (h:na N ap aq aP V=some r) {ab ai ac} (an:ai=ap.parts.length) (ao:rb w0 ab ac ap.parts) :
    gZ prog 14 #[.agg #[vI ap.HQ,vS ab ai ac],vI aq,vI aP,.agg #[vI V.HA,vI V.a,vI V.b,vI V.c,vI V.d,vI V.e]] w0 (fun v w=>∃ W X,v=.tuple #[.agg #[vI r.1.HQ,vS W r.1.parts.length X],.agg #[vI r.2.code,vI r.2.HU]]∧St w0 [] w [sl W X r.1.parts]):=by
 subst an;unfold na at h;refine gZ.fn func14 fun e=>?_;have eA:=St.start w0;refine T ?_;intro fh fk eB fj fm eC aj fp eD ak fq eE U eI h ar O eK eF Y eL eG eM aM;obtain ⟨aN,aE,aJ⟩:=ob h;refine CW.jn [1,2,4,7,8,9,10] [0,1,2,3,4,5] [(27,.bool aN)] aM (h1:=?_) (h2:=?_)
 · have h:=aE;refine T ?_;intro e8 dv h eN eH;refine bH h ?_ ?_<;>intro _ h
   · exact rt
   refine T ?_;intro e9 dw h eO cx;exact rt
 intro e eP au;have h:=aJ;refine gc h ?_ ?_<;>intro _ h
 · refine jj [(0,vI 2)] #[vI 2,vI 0] ?_;refine T ?_;intro eQ cy eR cz;exact rt
 refine kG ?_;have cA:=au.drew;refine gb h fun fa aH h=>?_;obtain ⟨en,eJ,cm,rfl,dj,dl,dn,⟨ed,ep,ee,er,ef,es,eh,et,ei,eu,ej,ew,rfl,dp,dq,dr,ds,dt,du⟩,dk⟩:=ao.idx aH;refine go ?_;refine T ?_;intro fb dx h eS av;refine gc h ?_ ?_<;>intro _ h
 · refine jj [(0,vI 1)] #[vI 1,vI 0] ?_;refine T ?_;intro eT cB eU cC;exact rt
 refine gs ?_;refine CW.region ?_;refine gs ?_;refine CW.block ?_;refine gs ?_;refine CW.region ?_;refine gs ?_;obtain ⟨aO,aF,aK⟩:=ob h;refine CW.jn [1,2,4,7,8,9,10] [0,1,2,3,4,5] [(44,.bool aO)] av (h1:=?_) (h2:=?_)
 · have h:=aF;refine gc h ?_ ?_<;>intro _ h
   · exact rt
   refine kI [1,2,4,7,8,9,10,43,44] fun e=>?_;refine gc h ?_ ?_<;>intro _ h
   · exact rt
   exact rt
 intro e eV aw;have h:=aK;refine gc h ?_ ?_<;>intro _ h
 · refine T ?_;intro fc dy h eW cD;refine CW.fl [1,7,8,9,10,11,53] fun e=>?_;refine gc h ?_ ?_<;>intro _ h
   · refine jj [(0,vI 2)] #[vI 2,vI 0] ?_;refine T ?_;intro eX cE eY cF;exact rt
   refine gc h ?_ ?_<;>intro _ h
   · refine T ?_;intro fd dA h ek ex eZ cG e0 cH e1 cI;exact rt
   refine gc h ?_ ?_<;>intro _ h
   · refine T ?_;intro fe dB h el ey e2 cJ e3 cK e4 cL;exact rt
   refine T ?_;intro ff dC h em ez e5 cM e6 cN e7 cO;exact rt
 refine gs ?_;obtain ⟨f,aG,aL⟩:=ob h;refine CW.cut (fun e wb=>∃ (H:Nat) (I:Nat) (m:Ad) (u:Nat) (n:Ad) (x:Nat) (p:Ad) (A:Nat) (q:Ad) (B:Nat) (g:Ad) (k:Nat) (j:Ad) (l:Nat),En e [(1,vI aq),(8,.pointer (some ⟨aj,0,none⟩)),(9,.pointer (some ⟨ak,0,none⟩)),(10,.pointer (some ⟨Y,0,none⟩)),(12,.pointer (some ⟨H,0,none⟩)),(13,.pointer (some ⟨I,0,none⟩))]∧St w0 [] wb [bx Y 26 [vI U.HQ,vS ar U.parts.length O],sl ar O U.parts,bx ak 32 [vI 0,vI 0],bx aj 26 [vI 0,vS none 0 0],bx H 50 [vS m f.1.length u,vS n f.2.1.length x,vS p f.2.2.1.length A,vS q f.2.2.2.1.length B,vI f.2.2.2.2.1,vI f.2.2.2.2.2.1,vI f.2.2.2.2.2.2.1,vS g f.2.2.2.2.2.2.2.1.length k,vS j f.2.2.2.2.2.2.2.2.1.length l,vI f.2.2.2.2.2.2.2.2.2.1,vI f.2.2.2.2.2.2.2.2.2.2.1,vI f.2.2.2.2.2.2.2.2.2.2.2.1,vI f.2.2.2.2.2.2.2.2.2.2.2.2.1,vI f.2.2.2.2.2.2.2.2.2.2.2.2.2.1,vI f.2.2.2.2.2.2.2.2.2.2.2.2.2.2.1,vI f.2.2.2.2.2.2.2.2.2.2.2.2.2.2.2.1],bx I 32 [vI f.2.2.2.2.2.2.2.2.2.2.2.2.2.2.2.2.1,vI f.2.2.2.2.2.2.2.2.2.2.2.2.2.2.2.2.2],sl m u f.1,sl n x f.2.1,sl p A f.2.2.1,sl q B f.2.2.2.1,sl g k f.2.2.2.2.2.2.2.1,sl j l f.2.2.2.2.2.2.2.2.1]) ?_ ?_
 · have h:=aG;refine dW ?_;have ad:=aw.drew;refine gb h fun fg ah h=>?_;obtain ⟨bI,dD,hae,dm,aU⟩:=ad.im (α:=bh) (i:=1) rfl ah;subst hae;refine go ?_;obtain ⟨a3,C,cP⟩:=ad.freeze (α:=bh) 1 rfl;obtain ⟨bJ,dE,aQ,hae,aR,_,_,am,aS⟩:=C.jB.idx ah;cases hae;obtain ⟨a4,bK,a5,bL,a6,bM,a7,bN,a8,bO,a9,bP,rfl,aW,aX,aY,aZ,a0,a1⟩:=am;refine T ?_;have ⟨eb,a2,h⟩:=ob h;refine AW.all (rs:=[10,14,15]) (by kernel_rfl) (by simp) ⟨?_,?_,?_,trivial⟩
   · refine oA ?_;refine T ?_;intro ba bQ bb bR bc bS bd bT be bU bf bV dF cQ;refine AW.all (rs:=[14,15]) (by kernel_rfl) (by simp) ⟨?_,?_,trivial⟩
     · refine oA ?_;refine T ?_;intro cn dG cR co dH cS dI cT dJ ax;have cU:=ax.iH (α:=bh) 9 rfl C;exact rt
     refine oA ?_;refine T ?_;intro cp dK cV;refine jP 14 ?_;refine T ?_;intro cq dL cW dM cX dN ay;have cY:=ay.iH (α:=bh) 9 rfl C;exact rt
   · refine oA ?_;refine T ?_;intro cr dO cZ;refine AW.all (rs:=[10,15]) (by kernel_rfl) (by simp) ⟨?_,?_,trivial⟩
     · refine oA ?_;refine T ?_;intro bg bW bi bX bj bY bk bZ bl b0 bm b1 dP c0 cs dQ c1 dR c2 dS az;have c3:=az.iH (α:=bh) 9 rfl C;exact rt
     refine oA ?_;refine T ?_;intro ct dT c4;refine jP 10 ?_;refine T ?_;intro bn b2 bo b3 bp b4 bq b5 br b6 bs b7 dU c5 dV c6 dX aA;have c7:=aA.iH (α:=bh) 9 rfl C;exact rt
   refine oA ?_;refine T ?_;intro cu dY c8;refine AW.all (rs:=[10,14]) (by kernel_rfl) (by simp) ⟨?_,?_,trivial⟩
   · refine oA ?_;refine T ?_;intro bt b8 bu b9 bv ca bw cb bz cc bA ce dZ c9 cv d0 da d1 db d2 aB;have dc:=aB.iH (α:=bh) 9 rfl C;exact rt
   refine oA ?_;refine T ?_;intro cw d3 dd;refine jP 10 ?_;refine T ?_;intro bB cf bC cg bD ci bE cj bF ck bG cl d4 de d5 df d6 aC;have dg:=aC.iH (α:=bh) 9 rfl C;exact rt
 rintro e d7 ⟨H,I,m,u,n,x,p,A,q,B,g,k,j,l,hE,ae⟩;obtain ⟨e,rfl⟩:=hE.out;have h:=aL;refine gb h fun aI Z h=>?_;obtain ⟨K,J,hae,aT,aV⟩:=ae.im (α:=bh) (i:=1) rfl Z;subst hae;refine go ?_;have aD:=ae.pk (M:=[sl m u f.1,sl n x f.2.1,sl p A f.2.2.1,sl q B f.2.2.2.1,sl g k f.2.2.2.2.2.2.2.1,sl j l f.2.2.2.2.2.2.2.2.1]++[bx Y 26 [vI U.HQ,vS (some ⟨K,J,none⟩) U.parts.length O],sl (some ⟨K,J,none⟩) O U.parts,bx ak 32 [vI 0,vI 0],bx aj 26 [vI 0,vS none 0 0],bx H 50 [vS m f.1.length u,vS n f.2.1.length x,vS p f.2.2.1.length A,vS q f.2.2.2.1.length B,vI f.2.2.2.2.1,vI f.2.2.2.2.2.1,vI f.2.2.2.2.2.2.1,vS g f.2.2.2.2.2.2.2.1.length k,vS j f.2.2.2.2.2.2.2.2.1.length l,vI f.2.2.2.2.2.2.2.2.2.1,vI f.2.2.2.2.2.2.2.2.2.2.1,vI f.2.2.2.2.2.2.2.2.2.2.2.1,vI f.2.2.2.2.2.2.2.2.2.2.2.2.1,vI f.2.2.2.2.2.2.2.2.2.2.2.2.2.1,vI f.2.2.2.2.2.2.2.2.2.2.2.2.2.2.1,vI f.2.2.2.2.2.2.2.2.2.2.2.2.2.2.2.1],bx I 32 [vI f.2.2.2.2.2.2.2.2.2.2.2.2.2.2.2.2.1,vI f.2.2.2.2.2.2.2.2.2.2.2.2.2.2.2.2.2]]) [6,7,8,9,10,11,0,1,2,3,4,5];have ⟨ec,aa,h⟩:=ob h;refine LW.vR (M:=[sl m u f.1,sl n x f.2.1,sl p A f.2.2.1,sl q B f.2.2.2.1,sl g k f.2.2.2.2.2.2.2.1,sl j l f.2.2.2.2.2.2.2.2.1]) (L:=[bx Y 26 [vI U.HQ,vS (some ⟨K,J,none⟩) U.parts.length O],sl (some ⟨K,J,none⟩) O U.parts,bx ak 32 [vI 0,vI 0],bx aj 26 [vI 0,vS none 0 0],bx H 50 [vS m f.1.length u,vS n f.2.1.length x,vS p f.2.2.1.length A,vS q f.2.2.2.1.length B,vI f.2.2.2.2.1,vI f.2.2.2.2.2.1,vI f.2.2.2.2.2.2.1,vS g f.2.2.2.2.2.2.2.1.length k,vS j f.2.2.2.2.2.2.2.2.1.length l,vI f.2.2.2.2.2.2.2.2.2.1,vI f.2.2.2.2.2.2.2.2.2.2.1,vI f.2.2.2.2.2.2.2.2.2.2.2.1,vI f.2.2.2.2.2.2.2.2.2.2.2.2.1,vI f.2.2.2.2.2.2.2.2.2.2.2.2.2.1,vI f.2.2.2.2.2.2.2.2.2.2.2.2.2.2.1,vI f.2.2.2.2.2.2.2.2.2.2.2.2.2.2.2.1],bx I 32 [vI f.2.2.2.2.2.2.2.2.2.2.2.2.2.2.2.2.1,vI f.2.2.2.2.2.2.2.2.2.2.2.2.2.2.2.2.2]]) (z:=aI) (z':=(bh.mk (iO.mk f.1) f.2.1 f.2.2.1 (g7.mk f.2.2.2.1 (jK.mk f.2.2.2.2.1 f.2.2.2.2.2.1 f.2.2.2.2.2.2.1 f.2.2.2.2.2.2.2.1)) f.2.2.2.2.2.2.2.2.1 f.2.2.2.2.2.2.2.2.2.1 f.2.2.2.2.2.2.2.2.2.2.1 (ig.mk f.2.2.2.2.2.2.2.2.2.2.2.1 f.2.2.2.2.2.2.2.2.2.2.2.2.1 f.2.2.2.2.2.2.2.2.2.2.2.2.2.1) f.2.2.2.2.2.2.2.2.2.2.2.2.2.2.1 f.2.2.2.2.2.2.2.2.2.2.2.2.2.2.2.1)) (o:=0) aD (i:=1) rfl Z kF rfl (by show _=J+(aq:Int).toNat * 16+0;omega) rfl rfl rfl rfl (whole (fun w G hG=>⟨m,u,n,x,p,A,q,B,g,k,j,l,rfl,hG⟩)) ?_
 intro d8 af hf;rw [oi aa] at af;refine kG ?_;have dh:=af.drew;refine T ?_;intro d9 di ea R;cases h;rw [ik (oi aa)] at R;exact Rc (hP.b R 3 rfl pc rfl rfl) (hP.b R 2 rfl ka rfl rfl) ⟨(some ⟨K,J,none⟩),O,rfl,R.pk [1]⟩
instance k_14:Ct prog 14:=⟨by kernel_rfl,@xD⟩
end Go.Kx
