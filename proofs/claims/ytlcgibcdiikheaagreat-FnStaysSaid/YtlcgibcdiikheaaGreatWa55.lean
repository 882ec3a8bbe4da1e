import Derived.Test.YtlcgibcdiikheaaGreatWa49
import Derived.Test.YtlcgibcdiikheaaGreatWa51
import Derived.Test.YtlcgibcdiikheaaGreatWa52
import Derived.Test.YtlcgibcdiikheaaGreatWa53
namespace Go.Kx
open Go Go.RowKit Go.Proofs
open Tryz
set_option maxRecDepth 10000
set_option maxHeartbeats 8000000
set_option linter.unusedVariables false
set_option linter.unusedSimpArgs false
theorem Ew {w0 N g bA bB bC q r} (h:rP N g bA bB bC q=some r) {ab aw ai} (aJ:aw=g.QQ.so.length) (bD:rb w0 ab ai g.QQ.so) {ac ax aj} (aK:ax=g.own.length) (bE:rb w0 ac aj g.own) {ad ay ak} (aL:ay=g.QR.length) (bF:rb w0 ad ak g.QR) {ae az am} (aM:az=g.heap.ag.length) (bG:rb w0 ae am g.heap.ag) {af aA an} (aN:aA=g.heap.gc.gQ.length) (bI:rb w0 af an g.heap.gc.gQ) {ah aB ao} (aO:aB=g.gR.length) (bJ:rb w0 ah ao g.gR) :
    g8 prog 90 #[.agg #[vS ab aw ai,vS ac ax aj,vS ad ay ak,vS ae az am,vI g.heap.gc.QS,vI g.heap.gc.Q0,vI g.heap.gc.QT,vS af aA an,vS ah aB ao,vI g.QZ,vI g.QY,vI g.gP.bh,vI g.gP.gS,vI g.gP.gW,vI g.hY,vI g.QX],vI bA,vI bB,vI bC,.agg #[vI q.py,vI q.a,vI q.b,vI q.c,vI q.d,vI q.e]] w0 (fun v w=>∃ x H, ∃ z I, ∃ A J, ∃ B K, ∃ C L, ∃ G M,v=.tuple #[.agg #[vS x r.1.QQ.so.length H,vS z r.1.own.length I,vS A r.1.QR.length J,vS B r.1.heap.ag.length K,vI r.1.heap.gc.QS,vI r.1.heap.gc.Q0,vI r.1.heap.gc.QT,vS C r.1.heap.gc.gQ.length L,vS G r.1.gR.length M,vI r.1.QZ,vI r.1.QY,vI r.1.gP.bh,vI r.1.gP.gS,vI r.1.gP.gW,vI r.1.hY,vI r.1.QX],.agg #[vI r.2.code,vI r.2.Q7]]∧St w0 [] w [sl x H r.1.QQ.so,sl z I r.1.own,sl A J r.1.QR,sl B K r.1.heap.ag,sl C L r.1.heap.gc.gQ,sl G M r.1.gR]):=by
 subst aJ aK aL aM aN aO;unfold rP at h;refine g8.fn func90 fun e=>?_;have eW:=St.start w0;refine T ?_;intro fB fF eX fC fG eY fD fH eZ fE fI e0 p e4 h be bl bf bm bg bn bi bo bj bp bk bq e5 e1 eV e6 e2 e7 bu;obtain ⟨bv,a4,br⟩:=ob h;refine CW.jn [1,2,3,5,9,10,11,12] [0,1,2,3,4,5,6,7,8,9,10] [(27,.bool bv)] bu (h1:=?_) (h2:=?_)
 · have h:=a4;refine T ?_;intro ft dD h e8 e3;refine bH h ?_ ?_<;>intro _ h
   · exact rt
   refine T ?_;intro fu dE h e9 cY;refine bH h ?_ ?_<;>intro _ h
   · exact rt
   refine T ?_;intro fv dF h fa cZ;exact rt
 intro e fb c0;have h:=br;refine gc h ?_ ?_<;>intro _ h
 · refine jX [(0,vI 2)] #[vI 2,vI 0] ?_;refine T ?_;intro fc c1 fd c2;exact rt
 refine T ?_;intro fw dG h fe aX;refine CW.fl [1,2,3,9,10,11,12,34] fun e=>?_;refine gc h ?_ ?_<;>intro _ h
 · refine jX [(0,vI 1)] #[vI 1,vI 0] ?_;refine T ?_;intro ff c3 fg c4;exact rt
 refine gc h ?_ ?_<;>intro _ h
 · refine T ?_;intro fx dH h er eH es eI et eJ eu eK ew eL ex eM fh c5 fj c6 fk c7;exact rt
 refine gs ?_;refine CW.region ?_;refine gs ?_;obtain ⟨bw,a5,bs⟩:=ob h;refine CW.jn [1,2,3,9,10,11,12,38] [0,1,2,3,4,5,6,7,8,9] [(48,.bool bw)] aX (h1:=?_) (h2:=?_)
 · have h:=a5;refine gc h ?_ ?_<;>intro _ h
   · exact rt
   exact rt
 intro e fm aY;have h:=bs;refine gc h ?_ ?_<;>intro _ h
 · refine T ?_;intro fy dI h ey eN ez eO eA eP eB eQ eC eR eD eS fp c8 fq c9 fr da;exact rt
 refine gs ?_;refine CW.region ?_;refine gs ?_;obtain ⟨bz,a6,bt⟩:=ob h;refine CW.jn [1,2,3,9,10,11,12,38] [0,1,2,3,4,5,6,7,8,9] [(58,.bool bz)] aY (h1:=?_) (h2:=?_)
 · have h:=a6;refine gc h ?_ ?_<;>intro _ h
   · exact rt
   exact rt
 intro e fs aZ;have h:=bt;refine gc h ?_ ?_<;>intro _ h
 · refine T ?_;intro fA dJ h eE eT eF eU eG cr bR cs bS ct bT cu dL db dM dc dN dd;exact rt
 refine gs ?_;refine CW.region ?_;refine gs ?_;obtain ⟨a7,aG,aU⟩:=ob h;refine CW.jn [1,2,3,9,10,11,12,38] [0,1,2,3,4,5,6,7,8,9] [(68,.bool a7)] aZ (h1:=?_) (h2:=?_)
 · have h:=aG;refine gc h ?_ ?_<;>intro _ h
   · exact rt
   exact rt
 intro e dO ap;have h:=aU;refine gc h ?_ ?_<;>intro _ h
 · refine gb h fun k aR h=>?_;obtain ⟨dK,o,f⟩:=xh aR;obtain ⟨R,f⟩:=jb f;obtain ⟨U,f⟩:=jb f;obtain ⟨V,f⟩:=jb f;obtain ⟨W,f⟩:=jb f;obtain ⟨X,f⟩:=jb f;obtain ⟨Y,f⟩:=jb f;rw [oi f] at o R U V W X Y;obtain ⟨bP,O⟩:=ap.pO [1,2,3,4,5,6] [0,7,8,9];refine LW.cl (oM o rfl rfl rfl rfl rfl rfl O.st) ?_;rintro _ dP ⟨rfl,hs⟩;have de:=O.back _ _ hs;refine T ?_;intro dQ df dR j;cases h;rw [show p.QQ.so.length=k.1.QQ.so.length from R] at j;rw [show p.own.length=k.1.own.length from U] at j;rw [show p.QR.length=k.1.QR.length from V] at j;rw [show p.heap.ag.length=k.1.heap.ag.length from W] at j;rw [show p.heap.gc.gQ.length=k.1.heap.gc.gQ.length from X] at j;rw [show p.gR.length=k.1.gR.length from Y] at j;exact Rc (iq.b j 8 rfl mx rfl rfl) (iq.b j 7 rfl mj rfl rfl) ⟨be,bl,bf,bm,bg,bn,bi,bo,bj,bp,bk,bq,rfl,j.pk [0,1,2,3,4,5]⟩
 refine gc h ?_ ?_<;>intro _ h
 · refine T ?_;intro ej bK h bU cv bV cw bW cx bX cy bY cz bZ cA dS dg dT dh dU di;exact rt
 refine gs ?_;refine CW.region ?_;refine gs ?_;obtain ⟨a8,aH,aV⟩:=ob h;refine CW.jn [1,2,3,9,10,11,12,38] [0,1,2,3,4,5,6,7,8,9] [(87,.bool a8)] ap (h1:=?_) (h2:=?_)
 · have h:=aH;refine CW.fl [1,2,3,9,10,11,12,38,87] fun e=>?_;refine gc h ?_ ?_<;>intro _ h
   · exact rt
   refine gc h ?_ ?_<;>intro _ h
   · exact rt
   exact rt
 intro e dV a0;have h:=aV;refine kS [1,2,3,9,10,11,12,38,87] fun e=>?_;refine gc h ?_ ?_<;>intro _ h
 · refine T ?_;intro ek bL h b1 cB b2 cC b3 cD b4 cE b5 cF b6 cG dX dj dY dk dZ dl;exact rt
 refine gs ?_;refine CW.region ?_;refine gs ?_;obtain ⟨a9,aI,aW⟩:=ob h;refine CW.jn [1,2,3,9,10,11,12,38] [0,1,2,3,4,5,6,7,8,9] [(96,.bool a9)] a0 (h1:=?_) (h2:=?_)
 · have h:=aI;refine gc h ?_ ?_<;>intro _ h
   · exact rt
   exact rt
 intro e d0 dm;have h:=aW;refine gc h ?_ ?_<;>intro _ h
 · refine T ?_;intro el bM h b7 cH b8 cI b9 cJ ca cK cb cL cc cM d1 dn d2 dp d3 dq;exact rt
 refine gc h ?_ ?_<;>intro _ h
 · refine T ?_;intro em bN h ce cN cf cO cg cP ci cQ cj cR ck cS d4 dr d5 ds d6 dt;exact rt
 refine gc h ?_ ?_<;>intro _ h
 · refine T ?_;intro en bO h d7 a1;refine CW.fl [9,10,11,12,124] fun e=>?_;refine gc h ?_ ?_<;>intro _ h
   · refine jX [(0,vI 2)] #[vI 2,vI 0] ?_;refine T ?_;intro d8 du d9 dv;exact rt
   refine mo ?_;have a2:=a1.drew;refine go ?_;obtain ⟨bQ,n,a3⟩:=a2.freeze (α:=i7) 6 rfl;have ⟨ba,Z,h⟩:=ob h;obtain ⟨cm,cT,aC,aD,aP⟩:=iV.wy n.j5 Z;have au:=(n.j5).le;refine AW.u (i:=5) rfl (by kernel_rfl) rfl rfl (iM.sub (α:=i7) (l:=p.gR) underlying46 IJ rfl xA (xy rfl) Z au aC aD) ?_;refine gb h fun bb aa h=>?_;obtain ⟨cn,cU,aE,aF,aQ⟩:=iV.wy n.j5 aa;have av:=(n.j5).le;refine AW.u (i:=12) rfl (by kernel_rfl) rfl rfl (iM.sub (α:=i7) (l:=p.gR) underlying46 IJ rfl (xy rfl) xA aa av aE aF) ?_;refine jP 0 ?_;refine LW.b0 (α:=i7) a3 ?_;intro co cV ea aq hf;refine T ?_;have ⟨bc,aS,h⟩:=ob h;refine jP 6 ?_;refine LW.km (l:=([]:List i7)) (m:=ba) xH rfl rfl (aq.rZ 7 rfl aP) aS aq (i:=0) rfl rfl ?_;intro cp cW eb ar hf;refine T ?_;have ⟨ep,aT,h⟩:=ob h;refine jP 13 ?_;refine LW.km (l:=bc) (m:=bb) xH rfl rfl (ar.rZ 7 rfl aQ) aT ar (i:=0) rfl rfl ?_;intro cq cX ec dw hf;refine T ?_;intro ed dx;refine LW.bd [] #[vI 0,vI 0] ?_;refine T ?_;intro ee dy ef dA;exact rt
 refine jX [(0,vI 2)] #[vI 2,vI 0] ?_;refine T ?_;intro eh dB ei dC;exact rt
instance k_90:Ct prog 90:=⟨by kernel_rfl,@Ew⟩
theorem E1 {w0 N I r} (h:xc N I=some r) {K aB O} (aD:aB=I.parts.length) (aY:rb w0 K O I.parts) :
    g8 prog 48 #[.agg #[vI I.Q1,vS K aB O]] w0 (fun v w=>∃ ar au,v=.agg #[vI r.Q1,vS ar r.parts.length au]∧St w0 [] w [sl ar au r.parts]):=by
 subst aD;unfold xc at h;refine g8.fn func48 fun e=>?_;have dS:=St.start w0;refine T ?_;intro an eh dT ao ei dU ek d1 h bJ co ej dV ap d4 dX d5 aU;obtain ⟨aV,aP,aS⟩:=ob h;refine CW.jn [1,2,3] [0,1,2,3] [(15,.bool aV)] aU (h1:=?_) (h2:=?_)
 · have h:=aP;refine T ?_;intro ed cY h d6 dY;refine bH h ?_ ?_<;>intro _ h
   · exact rt
   exact rt
 intro e d7 dZ;have h:=aS;refine gc h ?_ ?_<;>intro _ h
 · refine T ?_;intro d8 d0;exact rt
 refine T ?_;intro d9 aI;refine go ?_;obtain ⟨c1,aE,aH⟩:=ob h;refine CW.ie aE 0 (fun J e wb=>∃ (U:Ad) (V:Nat),En e [(1,.pointer (some ⟨an,0,none⟩)),(2,.pointer (some ⟨ao,0,none⟩)),(3,.pointer (some ⟨ap,0,none⟩)),(23,vI (I.parts.length:Int)),(24,vI J.1)]∧St w0 [] wb [bx ap 26 [vI J.2.1,vS U J.2.2.length V],bx ao 26 [vI 0,vS none 0 0],bx an 26 [vI I.Q1,vS K I.parts.length O],sl U V J.2.2]) ?_ ⟨bJ,co,aI.po [0,2,3,1]⟩ ?_
 · intro J e ea o hM h;obtain ⟨U,V,hE,ct⟩:=hM;obtain ⟨e,rfl⟩:=hE.out;refine kS [1,2,3,23,24,25] fun e=>?_;refine gc h ?_ ?_<;>intro _ h
   · refine T ?_;intro H cZ h aq R eb cu ec aJ;obtain ⟨d,aQ,aT⟩:=ob h;refine CW.cut (fun e wb=>∃ (C:Nat) (ab:Ad) (ah:Nat) (ac:Ad) (ai:Nat) (ad:Ad) (aj:Nat) (ae:Ad) (ak:Nat) (af:Ad) (am:Nat) (W:Ad) (X:Nat),En e [(1,.pointer (some ⟨an,0,none⟩)),(2,.pointer (some ⟨ao,0,none⟩)),(3,.pointer (some ⟨ap,0,none⟩)),(4,vI J.1),(5,.pointer (some ⟨C,0,none⟩)),(23,vI (I.parts.length:Int)),(24,vI J.1)]∧St w0 [] wb [sl aq R H.parts,bx ap 26 [vI H.Q1,vS aq H.parts.length R],bx ao 26 [vI 0,vS none 0 0],bx an 26 [vI I.Q1,vS K I.parts.length O],bx C 50 [vS ab d.1.length ah,vS ac d.2.1.length ai,vS ad d.2.2.1.length aj,vS ae d.2.2.2.1.length ak,vI d.2.2.2.2.1,vI d.2.2.2.2.2.1,vI d.2.2.2.2.2.2.1,vS af d.2.2.2.2.2.2.2.1.length am,vS W d.2.2.2.2.2.2.2.2.1.length X,vI d.2.2.2.2.2.2.2.2.2.1,vI d.2.2.2.2.2.2.2.2.2.2.1,vI d.2.2.2.2.2.2.2.2.2.2.2.1,vI d.2.2.2.2.2.2.2.2.2.2.2.2.1,vI d.2.2.2.2.2.2.2.2.2.2.2.2.2.1,vI d.2.2.2.2.2.2.2.2.2.2.2.2.2.2.1,vI d.2.2.2.2.2.2.2.2.2.2.2.2.2.2.2],sl ab ah d.1,sl ac ai d.2.1,sl ad aj d.2.2.1,sl ae ak d.2.2.2.1,sl af am d.2.2.2.2.2.2.2.1,sl W X d.2.2.2.2.2.2.2.2.1]) ?_ ?_
     · have h:=aQ;refine dW ?_;have ax:=aJ.drew;refine gb h fun ee aA h=>?_;obtain ⟨dG,d2,hae,cQ,cR⟩:=ax.iu (α:=cd) (i:=0) rfl aA;subst hae;refine go ?_;obtain ⟨dt,aa,cv⟩:=ax.freeze (α:=cd) 0 rfl;obtain ⟨dH,d3,cp,hae,cO,_,_,aO,cP⟩:=aa.j5.idx aA;cases hae;obtain ⟨du,dI,dv,dJ,dw,dK,dx,dL,dy,dM,dA,dN,rfl,cS,cT,cU,cV,cW,cX⟩:=aO;refine T ?_;have ⟨ef,c0,h⟩:=ob h;refine AW.all (rs:=[7,12]) (by kernel_rfl) (by simp) ⟨?_,?_,trivial⟩
       · refine oA ?_;refine T ?_;intro dB dO dC dP dD dQ dE dR dF bK a3 bL c2 cw;have ⟨dn,aZ,h⟩:=ob h;refine AW.all (rs:=[11,12]) (by kernel_rfl) (by simp) ⟨?_,?_,trivial⟩
         · refine oA ?_;refine T ?_;intro a4 bM a5 bN a7 bO a8 bP a9 bQ ba bR c3 cx cq c4 cy c5 aK;have cz:=aK.iJ (α:=cd) 13 rfl aa;exact rt
         refine oA ?_;refine T ?_;intro cr c6 cA;refine jP 11 ?_;refine T ?_;intro bb bS bc bT bd bU be bV bf bW bg bX c8 cB c9 aL;have cC:=aL.iJ (α:=cd) 13 rfl aa;exact rt
       refine oA ?_;refine T ?_;intro cs da cD;refine jP 7 ?_;refine T ?_;intro bi bY bj bZ bk b0 bl b1 bm b2 bn b3 db cE;refine jP 11 ?_;refine T ?_;intro dp a0 h bo b4 bp b5 bq b6 br b7 bs b8 bt b9 dc cF dd aM;have cG:=aM.iJ (α:=cd) 13 rfl aa;exact rt
     rintro e de ⟨C,ab,ah,ac,ai,ad,aj,ae,ak,af,am,W,X,hE,cH⟩;obtain ⟨e,rfl⟩:=hE.out;have h:=aT;refine T ?_;intro dq a1 h bu ca bv cb bw cc bz ce bA cf bB cg df cI dg cJ;have ⟨_,aF,h⟩:=ob h;refine LW.u (iM.rem rfl rfl (DI aF)) rfl ?_;refine gs ?_;obtain ⟨b,aC,aG⟩:=ob h;refine CW.cut (fun e wb=>∃ (j:Ad) (p:Nat) (k:Ad) (q:Nat) (l:Ad) (x:Nat) (m:Ad) (A:Nat) (n:Ad) (B:Nat) (f:Ad) (g:Nat),En e [(1,.pointer (some ⟨an,0,none⟩)),(2,.pointer (some ⟨ao,0,none⟩)),(3,.pointer (some ⟨ap,0,none⟩)),(4,vI J.1),(5,.pointer (some ⟨C,0,none⟩)),(23,vI (I.parts.length:Int)),(24,vI J.1)]∧St w0 [] wb [sl aq R H.parts,bx ap 26 [vI H.Q1,vS aq H.parts.length R],bx ao 26 [vI 0,vS none 0 0],bx an 26 [vI I.Q1,vS K I.parts.length O],bx C 50 [vS j b.1.length p,vS k b.2.1.length q,vS l b.2.2.1.length x,vS m b.2.2.2.1.length A,vI b.2.2.2.2.1,vI b.2.2.2.2.2.1,vI b.2.2.2.2.2.2.1,vS n b.2.2.2.2.2.2.2.1.length B,vS f b.2.2.2.2.2.2.2.2.1.length g,vI b.2.2.2.2.2.2.2.2.2.1,vI b.2.2.2.2.2.2.2.2.2.2.1,vI b.2.2.2.2.2.2.2.2.2.2.2.1,vI b.2.2.2.2.2.2.2.2.2.2.2.2.1,vI b.2.2.2.2.2.2.2.2.2.2.2.2.2.1,vI b.2.2.2.2.2.2.2.2.2.2.2.2.2.2.1,vI b.2.2.2.2.2.2.2.2.2.2.2.2.2.2.2],sl j p b.1,sl k q b.2.1,sl l x b.2.2.1,sl m A b.2.2.2.1,sl n B b.2.2.2.2.2.2.2.1,sl f g b.2.2.2.2.2.2.2.2.1]) ?_ ?_
     · have h:=aC;refine CW.fl [1,2,3,4,5,23,24,56] fun e=>?_;refine gc h ?_ ?_<;>intro _ h
       · refine T ?_;intro dr a2 h bC ci bD cj bE ck bF cl bG cm bI cn dh cK di cL;exact rt
       exact rt
     rintro e dj ⟨j,p,k,q,l,x,m,A,n,B,f,g,hE,ay⟩;obtain ⟨e,rfl⟩:=hE.out;have h:=aG;refine go ?_;have ⟨aR,av,h⟩:=ob h;obtain ⟨Z,Y,hae,aW,aX⟩:=ay.iu (α:=cd) (i:=0) rfl av;subst hae;refine go ?_;have aN:=ay.pk (M:=[sl j p b.1,sl k q b.2.1,sl l x b.2.2.1,sl m A b.2.2.2.1,sl n B b.2.2.2.2.2.2.2.1,sl f g b.2.2.2.2.2.2.2.2.1]++[sl (some ⟨Z,Y,none⟩) R H.parts,bx ap 26 [vI H.Q1,vS (some ⟨Z,Y,none⟩) H.parts.length R],bx ao 26 [vI 0,vS none 0 0],bx an 26 [vI I.Q1,vS K I.parts.length O],bx C 50 [vS j b.1.length p,vS k b.2.1.length q,vS l b.2.2.1.length x,vS m b.2.2.2.1.length A,vI b.2.2.2.2.1,vI b.2.2.2.2.2.1,vI b.2.2.2.2.2.2.1,vS n b.2.2.2.2.2.2.2.1.length B,vS f b.2.2.2.2.2.2.2.2.1.length g,vI b.2.2.2.2.2.2.2.2.2.1,vI b.2.2.2.2.2.2.2.2.2.2.1,vI b.2.2.2.2.2.2.2.2.2.2.2.1,vI b.2.2.2.2.2.2.2.2.2.2.2.2.1,vI b.2.2.2.2.2.2.2.2.2.2.2.2.2.1,vI b.2.2.2.2.2.2.2.2.2.2.2.2.2.2.1,vI b.2.2.2.2.2.2.2.2.2.2.2.2.2.2.2]]) [5,6,7,8,9,10,0,1,2,3,4];have ⟨ds,aw,h⟩:=ob h;refine LW.x6 (M:=[sl j p b.1,sl k q b.2.1,sl l x b.2.2.1,sl m A b.2.2.2.1,sl n B b.2.2.2.2.2.2.2.1,sl f g b.2.2.2.2.2.2.2.2.1]) (L:=[sl (some ⟨Z,Y,none⟩) R H.parts,bx ap 26 [vI H.Q1,vS (some ⟨Z,Y,none⟩) H.parts.length R],bx ao 26 [vI 0,vS none 0 0],bx an 26 [vI I.Q1,vS K I.parts.length O],bx C 50 [vS j b.1.length p,vS k b.2.1.length q,vS l b.2.2.1.length x,vS m b.2.2.2.1.length A,vI b.2.2.2.2.1,vI b.2.2.2.2.2.1,vI b.2.2.2.2.2.2.1,vS n b.2.2.2.2.2.2.2.1.length B,vS f b.2.2.2.2.2.2.2.2.1.length g,vI b.2.2.2.2.2.2.2.2.2.1,vI b.2.2.2.2.2.2.2.2.2.2.1,vI b.2.2.2.2.2.2.2.2.2.2.2.1,vI b.2.2.2.2.2.2.2.2.2.2.2.2.1,vI b.2.2.2.2.2.2.2.2.2.2.2.2.2.1,vI b.2.2.2.2.2.2.2.2.2.2.2.2.2.2.1,vI b.2.2.2.2.2.2.2.2.2.2.2.2.2.2.2]]) (z:=aR) (z':=(cd.mk (kj.mk b.1) b.2.1 b.2.2.1 (gV.mk b.2.2.2.1 (ka.mk b.2.2.2.2.1 b.2.2.2.2.2.1 b.2.2.2.2.2.2.1 b.2.2.2.2.2.2.2.1)) b.2.2.2.2.2.2.2.2.1 b.2.2.2.2.2.2.2.2.2.1 b.2.2.2.2.2.2.2.2.2.2.1 (gT.mk b.2.2.2.2.2.2.2.2.2.2.2.1 b.2.2.2.2.2.2.2.2.2.2.2.2.1 b.2.2.2.2.2.2.2.2.2.2.2.2.2.1) b.2.2.2.2.2.2.2.2.2.2.2.2.2.2.1 b.2.2.2.2.2.2.2.2.2.2.2.2.2.2.2)) (o:=0) aN (i:=0) rfl av mx rfl (by show _=Y+(J.1:Int).toNat * 16+0;omega) rfl rfl rfl rfl (whole (fun w G hG=>⟨j,p,k,q,l,x,m,A,n,B,f,g,rfl,hG⟩)) ?_
     intro dk az hf;rw [oi aw] at az;refine go ?_;rw [iv (oi aw)] at az;exact rt
   exact rt
 rintro e dl ⟨U,V,hE,cM⟩;obtain ⟨e,rfl⟩:=hE.out;have h:=aH;refine T ?_;intro dm cN;exact rt
instance k_48:Ct prog 48:=⟨by kernel_rfl,@E1⟩
end Go.Kx
