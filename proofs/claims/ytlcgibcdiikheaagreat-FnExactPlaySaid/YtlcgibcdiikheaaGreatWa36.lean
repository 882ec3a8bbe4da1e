import Derived.Test.YtlcgibcdiikheaaGreatWa26
import Derived.Test.YtlcgibcdiikheaaGreatWa31
import Derived.Test.YtlcgibcdiikheaaGreatWa32
import Derived.Test.YtlcgibcdiikheaaGreatWa33
import Derived.Test.YtlcgibcdiikheaaGreatWa34
namespace Go.Kx
open Go Go.RowKit Go.Proofs
open Tryz
set_option maxRecDepth 10000
set_option maxHeartbeats 8000000
set_option linter.unusedVariables false
set_option linter.unusedSimpArgs false
theorem EJ {w0 N g bA bB bC q r} (h:rJ N g bA bB bC q=some r) {ab aw ai} (aJ:aw=g.Pe.Pd.length) (bD:rb w0 ab ai g.Pe.Pd) {ac ax aj} (aK:ax=g.own.length) (bE:rb w0 ac aj g.own) {ad ay ak} (aL:ay=g.Pg.length) (bF:rb w0 ad ak g.Pg) {ae az am} (aM:az=g.py.ag.length) (bG:rb w0 ae am g.py.ag) {af aA an} (aN:aA=g.py.gc.gQ.length) (bI:rb w0 af an g.py.gc.gQ) {ah aB ao} (aO:aB=g.gR.length) (bJ:rb w0 ah ao g.gR) :
    gV prog 90 #[.agg #[vS ab aw ai,vS ac ax aj,vS ad ay ak,vS ae az am,vI g.py.gc.Ph,vI g.py.gc.Pr,vI g.py.gc.Pj,vS af aA an,vS ah aB ao,vI g.Pn,vI g.Pp,vI g.cd.gE,vI g.cd.gX,vI g.cd.g8,vI g.g5,vI g.Pm],vI bA,vI bB,vI bC,.agg #[vI q.Pf,vI q.a,vI q.b,vI q.c,vI q.d,vI q.e]] w0 (fun v w=>∃ x H, ∃ z I, ∃ A J, ∃ B K, ∃ C L, ∃ G M,v=.tuple #[.agg #[vS x r.1.Pe.Pd.length H,vS z r.1.own.length I,vS A r.1.Pg.length J,vS B r.1.py.ag.length K,vI r.1.py.gc.Ph,vI r.1.py.gc.Pr,vI r.1.py.gc.Pj,vS C r.1.py.gc.gQ.length L,vS G r.1.gR.length M,vI r.1.Pn,vI r.1.Pp,vI r.1.cd.gE,vI r.1.cd.gX,vI r.1.cd.g8,vI r.1.g5,vI r.1.Pm],.agg #[vI r.2.code,vI r.2.Pz]]∧St w0 [] w [sl x H r.1.Pe.Pd,sl z I r.1.own,sl A J r.1.Pg,sl B K r.1.py.ag,sl C L r.1.py.gc.gQ,sl G M r.1.gR]):=by
 subst aJ aK aL aM aN aO;unfold rJ at h;refine gV.fn func90 fun e=>?_;have eW:=St.start w0;refine T ?_;intro fB fF eX fC fG eY fD fH eZ fE fI e0 p e4 h be bl bf bm bg bn bi bo bj bp bk bq e5 e1 eV e6 e2 e7 bu;obtain ⟨bv,a4,br⟩:=ob h;refine CW.jn [1,2,3,5,9,10,11,12] [0,1,2,3,4,5,6,7,8,9,10] [(27,.bool bv)] bu (h1:=?_) (h2:=?_)
 · have h:=a4;refine T ?_;intro ft dD h e8 e3;refine bH h ?_ ?_<;>intro _ h
   · exact rt
   refine T ?_;intro fu dE h e9 cY;refine bH h ?_ ?_<;>intro _ h
   · exact rt
   refine T ?_;intro fv dF h fa cZ;exact rt
 intro e fb c0;have h:=br;refine gc h ?_ ?_<;>intro _ h
 · refine jt [(0,vI 2)] #[vI 2,vI 0] ?_;refine T ?_;intro fc c1 fd c2;exact rt
 refine T ?_;intro fw dG h fe aX;refine CW.fl [1,2,3,9,10,11,12,34] fun e=>?_;refine gc h ?_ ?_<;>intro _ h
 · refine jt [(0,vI 1)] #[vI 1,vI 0] ?_;refine T ?_;intro ff c3 fg c4;exact rt
 refine gc h ?_ ?_<;>intro _ h
 · refine T ?_;intro fx dH h er eH es eI et eJ eu eK ew eL ex eM fh c5 fj c6 fk c7;exact rt
 refine gs ?_;refine CW.region ?_;refine gs ?_;obtain ⟨bw,a5,bs⟩:=ob h;refine CW.jn [1,2,3,9,10,11,12,38] [0,1,2,3,4,5,6,7,8,9] [(48,.bool bw)] aX (h1:=?_) (h2:=?_)
 · have h:=a5;refine gc h ?_ ?_<;>intro _ h
   · exact rt
   exact rt
 intro e fm aY;have h:=bs;refine gc h ?_ ?_<;>intro _ h
 · refine T ?_;intro fy dI h ey eN ez eO eA eP eB eQ eC eR eD eS fp c8 fq c9 fr da;exact rt
 refine gs ?_;refine CW.region ?_;refine gs ?_;obtain ⟨bz,a6,bt⟩:=ob h;refine CW.jn [1,2,3,9,10,11,12,38] [0,1,2,3,4,5,6,7,8,9] [(58,.bool bz)] aY (h1:=?_) (h2:=?_)
 · have h:=a6;refine gc h ?_ ?_<;>intro _ h
   · exact rt
   exact rt
 intro e fs aZ;have h:=bt;refine gc h ?_ ?_<;>intro _ h
 · refine T ?_;intro fA dJ h eE eT eF eU eG cr bR cs bS ct bT cu dL db dM dc dN dd;exact rt
 refine gs ?_;refine CW.region ?_;refine gs ?_;obtain ⟨a7,aG,aU⟩:=ob h;refine CW.jn [1,2,3,9,10,11,12,38] [0,1,2,3,4,5,6,7,8,9] [(68,.bool a7)] aZ (h1:=?_) (h2:=?_)
 · have h:=aG;refine gc h ?_ ?_<;>intro _ h
   · exact rt
   exact rt
 intro e dO ap;have h:=aU;refine gc h ?_ ?_<;>intro _ h
 · refine gb h fun k aR h=>?_;obtain ⟨dK,o,f⟩:=lO aR;obtain ⟨R,f⟩:=iI f;obtain ⟨U,f⟩:=iI f;obtain ⟨V,f⟩:=iI f;obtain ⟨W,f⟩:=iI f;obtain ⟨X,f⟩:=iI f;obtain ⟨Y,f⟩:=iI f;rw [oi f] at o R U V W X Y;obtain ⟨bP,O⟩:=ap.k4 [1,2,3,4,5,6] [0,7,8,9];refine LW.cl (nE o rfl rfl rfl rfl rfl rfl O.st) ?_;rintro _ dP ⟨rfl,hs⟩;have de:=O.back _ _ hs;refine T ?_;intro dQ df dR j;cases h;rw [show p.Pe.Pd.length=k.1.Pe.Pd.length from R] at j;rw [show p.own.length=k.1.own.length from U] at j;rw [show p.Pg.length=k.1.Pg.length from V] at j;rw [show p.py.ag.length=k.1.py.ag.length from W] at j;rw [show p.py.gc.gQ.length=k.1.py.gc.gQ.length from X] at j;rw [show p.gR.length=k.1.gR.length from Y] at j;exact Rc (ij.b j 8 rfl kU rfl rfl) (ij.b j 7 rfl k9 rfl rfl) ⟨be,bl,bf,bm,bg,bn,bi,bo,bj,bp,bk,bq,rfl,j.pk [0,1,2,3,4,5]⟩
 refine gc h ?_ ?_<;>intro _ h
 · refine T ?_;intro ej bK h bU cv bV cw bW cx bX cy bY cz bZ cA dS dg dT dh dU di;exact rt
 refine gs ?_;refine CW.region ?_;refine gs ?_;obtain ⟨a8,aH,aV⟩:=ob h;refine CW.jn [1,2,3,9,10,11,12,38] [0,1,2,3,4,5,6,7,8,9] [(87,.bool a8)] ap (h1:=?_) (h2:=?_)
 · have h:=aH;refine CW.fl [1,2,3,9,10,11,12,38,87] fun e=>?_;refine gc h ?_ ?_<;>intro _ h
   · exact rt
   refine gc h ?_ ?_<;>intro _ h
   · exact rt
   exact rt
 intro e dV a0;have h:=aV;refine jw [1,2,3,9,10,11,12,38,87] fun e=>?_;refine gc h ?_ ?_<;>intro _ h
 · refine T ?_;intro ek bL h b1 cB b2 cC b3 cD b4 cE b5 cF b6 cG dX dj dY dk dZ dl;exact rt
 refine gs ?_;refine CW.region ?_;refine gs ?_;obtain ⟨a9,aI,aW⟩:=ob h;refine CW.jn [1,2,3,9,10,11,12,38] [0,1,2,3,4,5,6,7,8,9] [(96,.bool a9)] a0 (h1:=?_) (h2:=?_)
 · have h:=aI;refine gc h ?_ ?_<;>intro _ h
   · exact rt
   exact rt
 intro e d0 dm;have h:=aW;refine gc h ?_ ?_<;>intro _ h
 · refine T ?_;intro el bM h b7 cH b8 cI b9 cJ ca cK cb cL cc cM d1 dn d2 dp d3 dq;exact rt
 refine gc h ?_ ?_<;>intro _ h
 · refine T ?_;intro em bN h ce cN cf cO cg cP ci cQ cj cR ck cS d4 dr d5 ds d6 dt;exact rt
 refine gc h ?_ ?_<;>intro _ h
 · refine T ?_;intro en bO h d7 a1;refine CW.fl [9,10,11,12,124] fun e=>?_;refine gc h ?_ ?_<;>intro _ h
   · refine jt [(0,vI 2)] #[vI 2,vI 0] ?_;refine T ?_;intro d8 du d9 dv;exact rt
   refine jK ?_;have a2:=a1.drew;refine go ?_;obtain ⟨bQ,n,a3⟩:=a2.freeze (α:=iB) 6 rfl;have ⟨ba,Z,h⟩:=ob h;obtain ⟨cm,cT,aC,aD,aP⟩:=iR.vt n.ju Z;have au:=(n.ju).le;refine AW.u (i:=5) rfl (by kernel_rfl) rfl rfl (il.sub (α:=iB) (l:=p.gR) underlying46 sY rfl vp (vn rfl) Z au aC aD) ?_;refine gb h fun bb aa h=>?_;obtain ⟨cn,cU,aE,aF,aQ⟩:=iR.vt n.ju aa;have av:=(n.ju).le;refine AW.u (i:=12) rfl (by kernel_rfl) rfl rfl (il.sub (α:=iB) (l:=p.gR) underlying46 sY rfl (vn rfl) vp aa av aE aF) ?_;refine jP 0 ?_;refine LW.b0 (α:=iB) a3 ?_;intro co cV ea aq hf;refine T ?_;have ⟨bc,aS,h⟩:=ob h;refine jP 6 ?_;refine LW.jS (l:=([]:List iB)) (m:=ba) uJ rfl rfl (aq.rZ 7 rfl aP) aS aq (i:=0) rfl rfl ?_;intro cp cW eb ar hf;refine T ?_;have ⟨ep,aT,h⟩:=ob h;refine jP 13 ?_;refine LW.jS (l:=bc) (m:=bb) uJ rfl rfl (ar.rZ 7 rfl aQ) aT ar (i:=0) rfl rfl ?_;intro cq cX ec dw hf;refine T ?_;intro ed dx;refine LW.bd [] #[vI 0,vI 0] ?_;refine T ?_;intro ee dy ef dA;exact rt
 refine jt [(0,vI 2)] #[vI 2,vI 0] ?_;refine T ?_;intro eh dB ei dC;exact rt
instance k_90:Ct prog 90:=⟨by kernel_rfl,@EJ⟩
theorem J6 {w0 N I r} (h:v7 N I=some r) {K aB O} (aD:aB=I.parts.length) (aY:rb w0 K O I.parts) :
    gV prog 48 #[.agg #[vI I.Pt,vS K aB O]] w0 (fun v w=>∃ ar au,v=.agg #[vI r.Pt,vS ar r.parts.length au]∧St w0 [] w [sl ar au r.parts]):=by
 subst aD;unfold v7 at h;refine gV.fn func48 fun e=>?_;have dS:=St.start w0;refine T ?_;intro an eh dT ao ei dU ek d1 h bJ co ej dV ap d4 dX d5 aU;obtain ⟨aV,aP,aS⟩:=ob h;refine CW.jn [1,2,3] [0,1,2,3] [(15,.bool aV)] aU (h1:=?_) (h2:=?_)
 · have h:=aP;refine T ?_;intro ed cY h d6 dY;refine bH h ?_ ?_<;>intro _ h
   · exact rt
   exact rt
 intro e d7 dZ;have h:=aS;refine gc h ?_ ?_<;>intro _ h
 · refine T ?_;intro d8 d0;exact rt
 refine T ?_;intro d9 aI;refine go ?_;obtain ⟨c1,aE,aH⟩:=ob h;refine CW.ie aE 0 (fun J e wb=>∃ (U:Ad) (V:Nat),En e [(1,.pointer (some ⟨an,0,none⟩)),(2,.pointer (some ⟨ao,0,none⟩)),(3,.pointer (some ⟨ap,0,none⟩)),(23,vI (I.parts.length:Int)),(24,vI J.1)]∧St w0 [] wb [bx ap 26 [vI J.2.1,vS U J.2.2.length V],bx ao 26 [vI 0,vS none 0 0],bx an 26 [vI I.Pt,vS K I.parts.length O],sl U V J.2.2]) ?_ ⟨bJ,co,aI.po [0,2,3,1]⟩ ?_
 · intro J e ea o hM h;obtain ⟨U,V,hE,ct⟩:=hM;obtain ⟨e,rfl⟩:=hE.out;refine jw [1,2,3,23,24,25] fun e=>?_;refine gc h ?_ ?_<;>intro _ h
   · refine T ?_;intro H cZ h aq R eb cu ec aJ;obtain ⟨d,aQ,aT⟩:=ob h;refine CW.cut (fun e wb=>∃ (C:Nat) (ab:Ad) (ah:Nat) (ac:Ad) (ai:Nat) (ad:Ad) (aj:Nat) (ae:Ad) (ak:Nat) (af:Ad) (am:Nat) (W:Ad) (X:Nat),En e [(1,.pointer (some ⟨an,0,none⟩)),(2,.pointer (some ⟨ao,0,none⟩)),(3,.pointer (some ⟨ap,0,none⟩)),(4,vI J.1),(5,.pointer (some ⟨C,0,none⟩)),(23,vI (I.parts.length:Int)),(24,vI J.1)]∧St w0 [] wb [sl aq R H.parts,bx ap 26 [vI H.Pt,vS aq H.parts.length R],bx ao 26 [vI 0,vS none 0 0],bx an 26 [vI I.Pt,vS K I.parts.length O],bx C 50 [vS ab d.1.length ah,vS ac d.2.1.length ai,vS ad d.2.2.1.length aj,vS ae d.2.2.2.1.length ak,vI d.2.2.2.2.1,vI d.2.2.2.2.2.1,vI d.2.2.2.2.2.2.1,vS af d.2.2.2.2.2.2.2.1.length am,vS W d.2.2.2.2.2.2.2.2.1.length X,vI d.2.2.2.2.2.2.2.2.2.1,vI d.2.2.2.2.2.2.2.2.2.2.1,vI d.2.2.2.2.2.2.2.2.2.2.2.1,vI d.2.2.2.2.2.2.2.2.2.2.2.2.1,vI d.2.2.2.2.2.2.2.2.2.2.2.2.2.1,vI d.2.2.2.2.2.2.2.2.2.2.2.2.2.2.1,vI d.2.2.2.2.2.2.2.2.2.2.2.2.2.2.2],sl ab ah d.1,sl ac ai d.2.1,sl ad aj d.2.2.1,sl ae ak d.2.2.2.1,sl af am d.2.2.2.2.2.2.2.1,sl W X d.2.2.2.2.2.2.2.2.1]) ?_ ?_
     · have h:=aQ;refine dW ?_;have ax:=aJ.drew;refine gb h fun ee aA h=>?_;obtain ⟨dG,d2,hae,cQ,cR⟩:=ax.hZ (α:=bh) (i:=0) rfl aA;subst hae;refine go ?_;obtain ⟨dt,aa,cv⟩:=ax.freeze (α:=bh) 0 rfl;obtain ⟨dH,d3,cp,hae,cO,_,_,aO,cP⟩:=aa.ju.idx aA;cases hae;obtain ⟨du,dI,dv,dJ,dw,dK,dx,dL,dy,dM,dA,dN,rfl,cS,cT,cU,cV,cW,cX⟩:=aO;refine T ?_;have ⟨ef,c0,h⟩:=ob h;refine AW.all (rs:=[7,12]) (by kernel_rfl) (by simp) ⟨?_,?_,trivial⟩
       · refine oA ?_;refine T ?_;intro dB dO dC dP dD dQ dE dR dF bK a3 bL c2 cw;have ⟨dn,aZ,h⟩:=ob h;refine AW.all (rs:=[11,12]) (by kernel_rfl) (by simp) ⟨?_,?_,trivial⟩
         · refine oA ?_;refine T ?_;intro a4 bM a5 bN a7 bO a8 bP a9 bQ ba bR c3 cx cq c4 cy c5 aK;have cz:=aK.iD (α:=bh) 13 rfl aa;exact rt
         refine oA ?_;refine T ?_;intro cr c6 cA;refine jP 11 ?_;refine T ?_;intro bb bS bc bT bd bU be bV bf bW bg bX c8 cB c9 aL;have cC:=aL.iD (α:=bh) 13 rfl aa;exact rt
       refine oA ?_;refine T ?_;intro cs da cD;refine jP 7 ?_;refine T ?_;intro bi bY bj bZ bk b0 bl b1 bm b2 bn b3 db cE;refine jP 11 ?_;refine T ?_;intro dp a0 h bo b4 bp b5 bq b6 br b7 bs b8 bt b9 dc cF dd aM;have cG:=aM.iD (α:=bh) 13 rfl aa;exact rt
     rintro e de ⟨C,ab,ah,ac,ai,ad,aj,ae,ak,af,am,W,X,hE,cH⟩;obtain ⟨e,rfl⟩:=hE.out;have h:=aT;refine T ?_;intro dq a1 h bu ca bv cb bw cc bz ce bA cf bB cg df cI dg cJ;have ⟨_,aF,h⟩:=ob h;refine LW.u (il.rem rfl rfl (K6 aF)) rfl ?_;refine gs ?_;obtain ⟨b,aC,aG⟩:=ob h;refine CW.cut (fun e wb=>∃ (j:Ad) (p:Nat) (k:Ad) (q:Nat) (l:Ad) (x:Nat) (m:Ad) (A:Nat) (n:Ad) (B:Nat) (f:Ad) (g:Nat),En e [(1,.pointer (some ⟨an,0,none⟩)),(2,.pointer (some ⟨ao,0,none⟩)),(3,.pointer (some ⟨ap,0,none⟩)),(4,vI J.1),(5,.pointer (some ⟨C,0,none⟩)),(23,vI (I.parts.length:Int)),(24,vI J.1)]∧St w0 [] wb [sl aq R H.parts,bx ap 26 [vI H.Pt,vS aq H.parts.length R],bx ao 26 [vI 0,vS none 0 0],bx an 26 [vI I.Pt,vS K I.parts.length O],bx C 50 [vS j b.1.length p,vS k b.2.1.length q,vS l b.2.2.1.length x,vS m b.2.2.2.1.length A,vI b.2.2.2.2.1,vI b.2.2.2.2.2.1,vI b.2.2.2.2.2.2.1,vS n b.2.2.2.2.2.2.2.1.length B,vS f b.2.2.2.2.2.2.2.2.1.length g,vI b.2.2.2.2.2.2.2.2.2.1,vI b.2.2.2.2.2.2.2.2.2.2.1,vI b.2.2.2.2.2.2.2.2.2.2.2.1,vI b.2.2.2.2.2.2.2.2.2.2.2.2.1,vI b.2.2.2.2.2.2.2.2.2.2.2.2.2.1,vI b.2.2.2.2.2.2.2.2.2.2.2.2.2.2.1,vI b.2.2.2.2.2.2.2.2.2.2.2.2.2.2.2],sl j p b.1,sl k q b.2.1,sl l x b.2.2.1,sl m A b.2.2.2.1,sl n B b.2.2.2.2.2.2.2.1,sl f g b.2.2.2.2.2.2.2.2.1]) ?_ ?_
     · have h:=aC;refine CW.fl [1,2,3,4,5,23,24,56] fun e=>?_;refine gc h ?_ ?_<;>intro _ h
       · refine T ?_;intro dr a2 h bC ci bD cj bE ck bF cl bG cm bI cn dh cK di cL;exact rt
       exact rt
     rintro e dj ⟨j,p,k,q,l,x,m,A,n,B,f,g,hE,ay⟩;obtain ⟨e,rfl⟩:=hE.out;have h:=aG;refine go ?_;have ⟨aR,av,h⟩:=ob h;obtain ⟨Z,Y,hae,aW,aX⟩:=ay.hZ (α:=bh) (i:=0) rfl av;subst hae;refine go ?_;have aN:=ay.pk (M:=[sl j p b.1,sl k q b.2.1,sl l x b.2.2.1,sl m A b.2.2.2.1,sl n B b.2.2.2.2.2.2.2.1,sl f g b.2.2.2.2.2.2.2.2.1]++[sl (some ⟨Z,Y,none⟩) R H.parts,bx ap 26 [vI H.Pt,vS (some ⟨Z,Y,none⟩) H.parts.length R],bx ao 26 [vI 0,vS none 0 0],bx an 26 [vI I.Pt,vS K I.parts.length O],bx C 50 [vS j b.1.length p,vS k b.2.1.length q,vS l b.2.2.1.length x,vS m b.2.2.2.1.length A,vI b.2.2.2.2.1,vI b.2.2.2.2.2.1,vI b.2.2.2.2.2.2.1,vS n b.2.2.2.2.2.2.2.1.length B,vS f b.2.2.2.2.2.2.2.2.1.length g,vI b.2.2.2.2.2.2.2.2.2.1,vI b.2.2.2.2.2.2.2.2.2.2.1,vI b.2.2.2.2.2.2.2.2.2.2.2.1,vI b.2.2.2.2.2.2.2.2.2.2.2.2.1,vI b.2.2.2.2.2.2.2.2.2.2.2.2.2.1,vI b.2.2.2.2.2.2.2.2.2.2.2.2.2.2.1,vI b.2.2.2.2.2.2.2.2.2.2.2.2.2.2.2]]) [5,6,7,8,9,10,0,1,2,3,4];have ⟨ds,aw,h⟩:=ob h;refine LW.vl (M:=[sl j p b.1,sl k q b.2.1,sl l x b.2.2.1,sl m A b.2.2.2.1,sl n B b.2.2.2.2.2.2.2.1,sl f g b.2.2.2.2.2.2.2.2.1]) (L:=[sl (some ⟨Z,Y,none⟩) R H.parts,bx ap 26 [vI H.Pt,vS (some ⟨Z,Y,none⟩) H.parts.length R],bx ao 26 [vI 0,vS none 0 0],bx an 26 [vI I.Pt,vS K I.parts.length O],bx C 50 [vS j b.1.length p,vS k b.2.1.length q,vS l b.2.2.1.length x,vS m b.2.2.2.1.length A,vI b.2.2.2.2.1,vI b.2.2.2.2.2.1,vI b.2.2.2.2.2.2.1,vS n b.2.2.2.2.2.2.2.1.length B,vS f b.2.2.2.2.2.2.2.2.1.length g,vI b.2.2.2.2.2.2.2.2.2.1,vI b.2.2.2.2.2.2.2.2.2.2.1,vI b.2.2.2.2.2.2.2.2.2.2.2.1,vI b.2.2.2.2.2.2.2.2.2.2.2.2.1,vI b.2.2.2.2.2.2.2.2.2.2.2.2.2.1,vI b.2.2.2.2.2.2.2.2.2.2.2.2.2.2.1,vI b.2.2.2.2.2.2.2.2.2.2.2.2.2.2.2]]) (z:=aR) (z':=(bh.mk (iY.mk b.1) b.2.1 b.2.2.1 (g7.mk b.2.2.2.1 (i7.mk b.2.2.2.2.1 b.2.2.2.2.2.1 b.2.2.2.2.2.2.1 b.2.2.2.2.2.2.2.1)) b.2.2.2.2.2.2.2.2.1 b.2.2.2.2.2.2.2.2.2.1 b.2.2.2.2.2.2.2.2.2.2.1 (hO.mk b.2.2.2.2.2.2.2.2.2.2.2.1 b.2.2.2.2.2.2.2.2.2.2.2.2.1 b.2.2.2.2.2.2.2.2.2.2.2.2.2.1) b.2.2.2.2.2.2.2.2.2.2.2.2.2.2.1 b.2.2.2.2.2.2.2.2.2.2.2.2.2.2.2)) (o:=0) aN (i:=0) rfl av kU rfl (by show _=Y+(J.1:Int).toNat * 16+0;omega) rfl rfl rfl rfl (whole (fun w G hG=>⟨j,p,k,q,l,x,m,A,n,B,f,g,rfl,hG⟩)) ?_
     intro dk az hf;rw [oi aw] at az;refine go ?_;rw [gS (oi aw)] at az;exact rt
   exact rt
 rintro e dl ⟨U,V,hE,cM⟩;obtain ⟨e,rfl⟩:=hE.out;have h:=aH;refine T ?_;intro dm cN;exact rt
instance k_48:Ct prog 48:=⟨by kernel_rfl,@J6⟩
theorem Ef {w0 N i ap aq ar k r} (h:rO N i ap aq ar k=some r) {H Z O} (ai:Z=i.Pe.Pd.length) (a2:rb w0 H O i.Pe.Pd) {I aa R} (aj:aa=i.own.length) (a3:rb w0 I R i.own) {J ab U} (ak:ab=i.Pg.length) (a4:rb w0 J U i.Pg) {K ac V} (am:ac=i.py.ag.length) (a5:rb w0 K V i.py.ag) {L ad W} (an:ad=i.py.gc.gQ.length) (a6:rb w0 L W i.py.gc.gQ) {M ae X} (ao:ae=i.gR.length) (a7:rb w0 M X i.gR) :
    gV prog 82 #[.agg #[vS H Z O,vS I aa R,vS J ab U,vS K ac V,vI i.py.gc.Ph,vI i.py.gc.Pr,vI i.py.gc.Pj,vS L ad W,vS M ae X,vI i.Pn,vI i.Pp,vI i.cd.gE,vI i.cd.gX,vI i.cd.g8,vI i.g5,vI i.Pm],vI ap,vI aq,vI ar,.agg #[vI k.Pf,vI k.a,vI k.b,vI k.c,vI k.d,vI k.e]] w0 (fun v w=>∃ l x, ∃ m z, ∃ n A, ∃ o B, ∃ p C, ∃ q G,v=.tuple #[.agg #[vS l r.1.Pe.Pd.length x,vS m r.1.own.length z,vS n r.1.Pg.length A,vS o r.1.py.ag.length B,vI r.1.py.gc.Ph,vI r.1.py.gc.Pr,vI r.1.py.gc.Pj,vS p r.1.py.gc.gQ.length C,vS q r.1.gR.length G,vI r.1.Pn,vI r.1.Pp,vI r.1.cd.gE,vI r.1.cd.gX,vI r.1.cd.g8,vI r.1.g5,vI r.1.Pm],.agg #[vI r.2.code,vI r.2.Pz]]∧St w0 [] w [sl l x r.1.Pe.Pd,sl m z r.1.own,sl n A r.1.Pg,sl o B r.1.py.ag,sl p C r.1.py.gc.gQ,sl q G r.1.gR]):=by
 subst ai aj ak am an ao;unfold rO at h;refine gV.fn func82 fun e=>?_;have cn:=St.start w0;refine T ?_;intro cR cT co cS cU cp aX cV cq aY cW a0;obtain ⟨bE,a1,aZ⟩:=ob h;refine CW.jn [1,2,3,5,9,10,11] [0,1,2,3] [(28,.bool bE)] a0 (h1:=?_) (h2:=?_)
 · have h:=a1;refine T ?_;intro cL bt h cv cr;refine bH h ?_ ?_<;>intro _ h
   · exact rt
   refine T ?_;intro cM bu h cw cs;refine bH h ?_ ?_<;>intro _ h
   · exact rt
   refine T ?_;intro cN bv h cx ct;exact rt
 intro e cy cu;have h:=aZ;refine gc h ?_ ?_<;>intro _ h
 · refine T ?_;intro cO bw h bO b4 bP b5 bQ b6 bR b7 bS b8 bT b9 cz a8;refine LW.bd [(0,vI 2)] #[vI 2,vI 0] ?_;refine T ?_;intro cA a9 cB ba;exact rt
 refine T ?_;intro cP bz h cC bb;refine gc h ?_ ?_<;>intro _ h
 · refine T ?_;intro cQ bA h bU ca bV cb bW cc bX ce bY cf bZ cg cD bc;refine LW.bd [(0,vI 1)] #[vI 1,vI 0] ?_;refine T ?_;intro cE be cF bf;exact rt
 refine T ?_;intro f bB h au aG av aH aw aI ax aJ ay aK az aL cG bg;refine LW.bd [(0,.agg #[vS au f.Pe.Pd.length aG,vS av f.own.length aH,vS aw f.Pg.length aI,vS ax f.py.ag.length aJ,vI f.py.gc.Ph,vI f.py.gc.Pr,vI f.py.gc.Pj,vS ay f.py.gc.gQ.length aK,vS az f.gR.length aL,vI f.Pn,vI f.Pp,vI f.cd.gE,vI f.cd.gX,vI f.cd.g8,vI f.g5,vI f.Pm]),(1,vI ap),(2,vI aq),(3,vI ar)] #[vS au f.Pe.Pd.length aG,vS av f.own.length aH,vS aw f.Pg.length aI,vS ax f.py.ag.length aJ,vI f.py.gc.Ph,vI f.py.gc.Pr,vI f.py.gc.Pj,vS ay f.py.gc.gQ.length aK,vS az f.gR.length aL,vI f.Pn,vI f.Pp,vI f.cd.gE,vI f.cd.gX,vI f.cd.g8,vI f.g5,vI f.Pm,vI ap,vI aq,vI ar] ?_;refine T ?_;intro cm cH bi j bC h b0 ci b1 cj b2 ck b3 cl cI bj;refine CW.fl [5,9,10,11,12,13,14,54] fun e=>?_;refine gc h ?_ ?_<;>intro _ h
 · refine go ?_;refine LW.u (il.nc rfl) rfl ?_;refine jt [(1,vI j.2.1)] #[vI 0,vI j.2.1] ?_;refine T ?_;intro cJ bk cK bl;exact rt
 refine T ?_;intro g bD h aA aM aB aN aC aO aD aP aE aQ aF aR bF bm Y bG bn bI aU;obtain ⟨aV,af,aS⟩:=ob h;refine CW.jn [10,11,13,15] [0,1,2,3,4,5,6,14,15] [(73,.bool aV)] aU (h1:=?_) (h2:=?_)
 · have h:=af;refine gB h ?_ ?_<;>intro _ h
   · refine gB h ?_ ?_<;>intro _ h
     · exact rt
     exact rt
   exact rt
 intro e bJ bo;have h:=aS;refine gs ?_;obtain ⟨aW,ah,aT⟩:=ob h;refine CW.cut (fun e wb=>En e [(10,.pointer (some ⟨aX,0,none⟩)),(11,.pointer (some ⟨aY,0,none⟩)),(13,vI j.1),(15,.pointer (some ⟨Y,0,none⟩))]∧St w0 [] wb [bx Y 50 [vS aA g.Pe.Pd.length aM,vS aB g.own.length aN,vS aC g.Pg.length aO,vS aD g.py.ag.length aP,vI g.py.gc.Ph,vI g.py.gc.Pr,vI g.py.gc.Pj,vS aE g.py.gc.gQ.length aQ,vS aF g.gR.length aR,vI g.Pn,vI g.Pp,vI g.cd.gE,vI g.cd.gX,vI g.cd.g8,vI aW,vI g.Pm],sl aA aM g.Pe.Pd,sl aB aN g.own,sl aC aO g.Pg,sl aD aP g.py.ag,sl aE aQ g.py.gc.gQ,sl aF aR g.gR,bx aY 32 [vI 0,vI 0],bx aX 50 [vS none 0 0,vS none 0 0,vS none 0 0,vS none 0 0,vI 0,vI 0,vI 0,vS none 0 0,vS none 0 0,vI 0,vI 0,vI 0,vI 0,vI 0,vI 0,vI 0]]) ?_ ?_
 · have h:=ah;refine gc h ?_ ?_<;>intro _ h
   · refine go ?_;refine LW.u (il.min rfl rfl) rfl ?_;refine T ?_;intro bK bp;exact rt
   exact rt
 rintro e bL ⟨hE,bq⟩;obtain ⟨e,rfl⟩:=hE.out;have h:=aT;refine jt [(0,vI j.1)] #[vI j.1,vI 0] ?_;refine T ?_;intro bM br bN bs;exact rt
instance k_82:Ct prog 82:=⟨by kernel_rfl,@Ef⟩
end Go.Kx
