import Derived.Test.YtlcgibcdiikheaaGreatWa50
import Derived.Test.YtlcgibcdiikheaaGreatWa51
namespace Go.Kx
open Go Go.RowKit Go.Proofs
open Tryz
set_option maxRecDepth 10000
set_option maxHeartbeats 8000000
set_option linter.unusedVariables false
set_option linter.unusedSimpArgs false
theorem Dw {w0 N g bA bB bC q r} (h:pG N g bA bB bC q=some r) {ab aw ai} (aJ:aw=g.PB.PA.length) (bD:rb w0 ab ai g.PB.PA) {ac ax aj} (aK:ax=g.own.length) (bE:rb w0 ac aj g.own) {ad ay ak} (aL:ay=g.PC.length) (bF:rb w0 ad ak g.PC) {ae az am} (aM:az=g.py.ag.length) (bG:rb w0 ae am g.py.ag) {af aA an} (aN:aA=g.py.gc.hZ.length) (bI:rb w0 af an g.py.gc.hZ) {ah aB ao} (aO:aB=g.ia.length) (bJ:rb w0 ah ao g.ia) :
    iq prog 90 #[.agg #[vS ab aw ai,vS ac ax aj,vS ad ay ak,vS ae az am,vI g.py.gc.PD,vI g.py.gc.PL,vI g.py.gc.PF,vS af aA an,vS ah aB ao,vI g.PJ,vI g.PI,vI g.hY.bh,vI g.hY.ib,vI g.hY.ij,vI g.ik,vI g.PH],vI bA,vI bB,vI bC,.agg #[vI q.Pz,vI q.a,vI q.b,vI q.c,vI q.d,vI q.e]] w0 (fun v w=>∃ x H, ∃ z I, ∃ A J, ∃ B K, ∃ C L, ∃ G M,v=.tuple #[.agg #[vS x r.1.PB.PA.length H,vS z r.1.own.length I,vS A r.1.PC.length J,vS B r.1.py.ag.length K,vI r.1.py.gc.PD,vI r.1.py.gc.PL,vI r.1.py.gc.PF,vS C r.1.py.gc.hZ.length L,vS G r.1.ia.length M,vI r.1.PJ,vI r.1.PI,vI r.1.hY.bh,vI r.1.hY.ib,vI r.1.hY.ij,vI r.1.ik,vI r.1.PH],.agg #[vI r.2.code,vI r.2.PR]]∧St w0 [] w [sl x H r.1.PB.PA,sl z I r.1.own,sl A J r.1.PC,sl B K r.1.py.ag,sl C L r.1.py.gc.hZ,sl G M r.1.ia]):=by
 subst aJ aK aL aM aN aO;unfold pG at h;refine iq.fn func90 fun e=>?_;have eW:=St.start w0;refine T ?_;intro fB fF eX fC fG eY fD fH eZ fE fI e0 p e4 h be bl bf bm bg bn bi bo bj bp bk bq e5 e1 eV e6 e2 e7 bu;obtain ⟨bv,a4,br⟩:=ob h;refine CW.jn [1,2,3,5,9,10,11,12] [0,1,2,3,4,5,6,7,8,9,10] [(27,.bool bv)] bu (h1:=?_) (h2:=?_)
 · have h:=a4;refine T ?_;intro ft dD h e8 e3;refine bH h ?_ ?_<;>intro _ h
   · exact rt
   refine T ?_;intro fu dE h e9 cY;refine bH h ?_ ?_<;>intro _ h
   · exact rt
   refine T ?_;intro fv dF h fa cZ;exact rt
 intro e fb c0;have h:=br;refine gc h ?_ ?_<;>intro _ h
 · refine jL [(0,vI 2)] #[vI 2,vI 0] ?_;refine T ?_;intro fc c1 fd c2;exact rt
 refine T ?_;intro fw dG h fe aX;refine CW.fl [1,2,3,9,10,11,12,34] fun e=>?_;refine gc h ?_ ?_<;>intro _ h
 · refine jL [(0,vI 1)] #[vI 1,vI 0] ?_;refine T ?_;intro ff c3 fg c4;exact rt
 refine gc h ?_ ?_<;>intro _ h
 · refine T ?_;intro fx dH h er eH es eI et eJ eu eK ew eL ex eM fh c5 fj c6 fk c7;exact rt
 refine gs ?_;refine CW.region ?_;refine gs ?_;obtain ⟨bw,a5,bs⟩:=ob h;refine CW.jn [1,2,3,9,10,11,12,38] [0,1,2,3,4,5,6,7,8,9] [(48,.bool bw)] aX (h1:=?_) (h2:=?_)
 · have h:=a5;refine gc h ?_ ?_<;>intro _ h
   · exact rt
   exact rt
 intro e fm aY;have h:=bs;refine gc h ?_ ?_<;>intro _ h
 · refine T ?_;intro fy dI h ey eN ez eO eA eP eB eQ eC eR eD eS fp c8 fq c9 fr da;exact rt
 refine gs ?_;refine CW.region ?_;refine gs ?_;obtain ⟨bz,a6,bt⟩:=ob h;refine CW.jn [1,2,3,9,10,11,12,38] [0,1,2,3,4,5,6,7,8,9] [(58,.bool bz)] aY (h1:=?_) (h2:=?_)
 · have h:=a6;refine gc h ?_ ?_<;>intro _ h
   · exact rt
   exact rt
 intro e fs aZ;have h:=bt;refine gc h ?_ ?_<;>intro _ h
 · refine T ?_;intro fA dJ h eE eT eF eU eG cr bR cs bS ct bT cu dL db dM dc dN dd;exact rt
 refine gs ?_;refine CW.region ?_;refine gs ?_;obtain ⟨a7,aG,aU⟩:=ob h;refine CW.jn [1,2,3,9,10,11,12,38] [0,1,2,3,4,5,6,7,8,9] [(68,.bool a7)] aZ (h1:=?_) (h2:=?_)
 · have h:=aG;refine gc h ?_ ?_<;>intro _ h
   · exact rt
   exact rt
 intro e dO ap;have h:=aU;refine gc h ?_ ?_<;>intro _ h
 · refine gb h fun k aR h=>?_;obtain ⟨dK,o,f⟩:=wZ aR;obtain ⟨R,f⟩:=jt f;obtain ⟨U,f⟩:=jt f;obtain ⟨V,f⟩:=jt f;obtain ⟨W,f⟩:=jt f;obtain ⟨X,f⟩:=jt f;obtain ⟨Y,f⟩:=jt f;rw [oi f] at o R U V W X Y;obtain ⟨bP,O⟩:=ap.mc [1,2,3,4,5,6] [0,7,8,9];refine LW.cl (ou o rfl rfl rfl rfl rfl rfl O.st) ?_;rintro _ dP ⟨rfl,hs⟩;have de:=O.back _ _ hs;refine T ?_;intro dQ df dR j;cases h;rw [show p.PB.PA.length=k.1.PB.PA.length from R] at j;rw [show p.own.length=k.1.own.length from U] at j;rw [show p.PC.length=k.1.PC.length from V] at j;rw [show p.py.ag.length=k.1.py.ag.length from W] at j;rw [show p.py.gc.hZ.length=k.1.py.gc.hZ.length from X] at j;rw [show p.ia.length=k.1.ia.length from Y] at j;exact Rc (iD.b j 8 rfl lV rfl rfl) (iD.b j 7 rfl lM rfl rfl) ⟨be,bl,bf,bm,bg,bn,bi,bo,bj,bp,bk,bq,rfl,j.pk [0,1,2,3,4,5]⟩
 refine gc h ?_ ?_<;>intro _ h
 · refine T ?_;intro ej bK h bU cv bV cw bW cx bX cy bY cz bZ cA dS dg dT dh dU di;exact rt
 refine gs ?_;refine CW.region ?_;refine gs ?_;obtain ⟨a8,aH,aV⟩:=ob h;refine CW.jn [1,2,3,9,10,11,12,38] [0,1,2,3,4,5,6,7,8,9] [(87,.bool a8)] ap (h1:=?_) (h2:=?_)
 · have h:=aH;refine CW.fl [1,2,3,9,10,11,12,38,87] fun e=>?_;refine gc h ?_ ?_<;>intro _ h
   · exact rt
   refine gc h ?_ ?_<;>intro _ h
   · exact rt
   exact rt
 intro e dV a0;have h:=aV;refine kD [1,2,3,9,10,11,12,38,87] fun e=>?_;refine gc h ?_ ?_<;>intro _ h
 · refine T ?_;intro ek bL h b1 cB b2 cC b3 cD b4 cE b5 cF b6 cG dX dj dY dk dZ dl;exact rt
 refine gs ?_;refine CW.region ?_;refine gs ?_;obtain ⟨a9,aI,aW⟩:=ob h;refine CW.jn [1,2,3,9,10,11,12,38] [0,1,2,3,4,5,6,7,8,9] [(96,.bool a9)] a0 (h1:=?_) (h2:=?_)
 · have h:=aI;refine gc h ?_ ?_<;>intro _ h
   · exact rt
   exact rt
 intro e d0 dm;have h:=aW;refine gc h ?_ ?_<;>intro _ h
 · refine T ?_;intro el bM h b7 cH b8 cI b9 cJ ca cK cb cL cc cM d1 dn d2 dp d3 dq;exact rt
 refine gc h ?_ ?_<;>intro _ h
 · refine T ?_;intro em bN h ce cN cf cO cg cP ci cQ cj cR ck cS d4 dr d5 ds d6 dt;exact rt
 refine gc h ?_ ?_<;>intro _ h
 · refine T ?_;intro en bO h d7 a1;refine CW.fl [9,10,11,12,124] fun e=>?_;refine gc h ?_ ?_<;>intro _ h
   · refine jL [(0,vI 2)] #[vI 2,vI 0] ?_;refine T ?_;intro d8 du d9 dv;exact rt
   refine kb ?_;have a2:=a1.drew;refine go ?_;obtain ⟨bQ,n,a3⟩:=a2.freeze (α:=iZ) 6 rfl;have ⟨ba,Z,h⟩:=ob h;obtain ⟨cm,cT,aC,aD,aP⟩:=iR.uN n.kc Z;have au:=(n.kc).le;refine AW.u (i:=5) rfl (by kernel_rfl) rfl rfl (iQ.sub (α:=iZ) (l:=p.ia) underlying46 xR rfl uv (uF rfl) Z au aC aD) ?_;refine gb h fun bb aa h=>?_;obtain ⟨cn,cU,aE,aF,aQ⟩:=iR.uN n.kc aa;have av:=(n.kc).le;refine AW.u (i:=12) rfl (by kernel_rfl) rfl rfl (iQ.sub (α:=iZ) (l:=p.ia) underlying46 xR rfl (uF rfl) uv aa av aE aF) ?_;refine jP 0 ?_;refine LW.b0 (α:=iZ) a3 ?_;intro co cV ea aq hf;refine T ?_;have ⟨bc,aS,h⟩:=ob h;refine jP 6 ?_;refine LW.jT (l:=([]:List iZ)) (m:=ba) tB rfl rfl (aq.rZ 7 rfl aP) aS aq (i:=0) rfl rfl ?_;intro cp cW eb ar hf;refine T ?_;have ⟨ep,aT,h⟩:=ob h;refine jP 13 ?_;refine LW.jT (l:=bc) (m:=bb) tB rfl rfl (ar.rZ 7 rfl aQ) aT ar (i:=0) rfl rfl ?_;intro cq cX ec dw hf;refine T ?_;intro ed dx;refine LW.bd [] #[vI 0,vI 0] ?_;refine T ?_;intro ee dy ef dA;exact rt
 refine jL [(0,vI 2)] #[vI 2,vI 0] ?_;refine T ?_;intro eh dB ei dC;exact rt
instance k_90:Ct prog 90:=⟨by kernel_rfl,@Dw⟩
theorem D3 {w0 N i ap aq ar k r} (h:rS N i ap aq ar k=some r) {H Z O} (ai:Z=i.PB.PA.length) (a2:rb w0 H O i.PB.PA) {I aa R} (aj:aa=i.own.length) (a3:rb w0 I R i.own) {J ab U} (ak:ab=i.PC.length) (a4:rb w0 J U i.PC) {K ac V} (am:ac=i.py.ag.length) (a5:rb w0 K V i.py.ag) {L ad W} (an:ad=i.py.gc.hZ.length) (a6:rb w0 L W i.py.gc.hZ) {M ae X} (ao:ae=i.ia.length) (a7:rb w0 M X i.ia) :
    iq prog 82 #[.agg #[vS H Z O,vS I aa R,vS J ab U,vS K ac V,vI i.py.gc.PD,vI i.py.gc.PL,vI i.py.gc.PF,vS L ad W,vS M ae X,vI i.PJ,vI i.PI,vI i.hY.bh,vI i.hY.ib,vI i.hY.ij,vI i.ik,vI i.PH],vI ap,vI aq,vI ar,.agg #[vI k.Pz,vI k.a,vI k.b,vI k.c,vI k.d,vI k.e]] w0 (fun v w=>∃ l x, ∃ m z, ∃ n A, ∃ o B, ∃ p C, ∃ q G,v=.tuple #[.agg #[vS l r.1.PB.PA.length x,vS m r.1.own.length z,vS n r.1.PC.length A,vS o r.1.py.ag.length B,vI r.1.py.gc.PD,vI r.1.py.gc.PL,vI r.1.py.gc.PF,vS p r.1.py.gc.hZ.length C,vS q r.1.ia.length G,vI r.1.PJ,vI r.1.PI,vI r.1.hY.bh,vI r.1.hY.ib,vI r.1.hY.ij,vI r.1.ik,vI r.1.PH],.agg #[vI r.2.code,vI r.2.PR]]∧St w0 [] w [sl l x r.1.PB.PA,sl m z r.1.own,sl n A r.1.PC,sl o B r.1.py.ag,sl p C r.1.py.gc.hZ,sl q G r.1.ia]):=by
 subst ai aj ak am an ao;unfold rS at h;refine iq.fn func82 fun e=>?_;have cn:=St.start w0;refine T ?_;intro cR cT co cS cU cp aX cV cq aY cW a0;obtain ⟨bE,a1,aZ⟩:=ob h;refine CW.jn [1,2,3,5,9,10,11] [0,1,2,3] [(28,.bool bE)] a0 (h1:=?_) (h2:=?_)
 · have h:=a1;refine T ?_;intro cL bt h cv cr;refine bH h ?_ ?_<;>intro _ h
   · exact rt
   refine T ?_;intro cM bu h cw cs;refine bH h ?_ ?_<;>intro _ h
   · exact rt
   refine T ?_;intro cN bv h cx ct;exact rt
 intro e cy cu;have h:=aZ;refine gc h ?_ ?_<;>intro _ h
 · refine T ?_;intro cO bw h bO b4 bP b5 bQ b6 bR b7 bS b8 bT b9 cz a8;refine LW.bd [(0,vI 2)] #[vI 2,vI 0] ?_;refine T ?_;intro cA a9 cB ba;exact rt
 refine T ?_;intro cP bz h cC bb;refine gc h ?_ ?_<;>intro _ h
 · refine T ?_;intro cQ bA h bU ca bV cb bW cc bX ce bY cf bZ cg cD bc;refine LW.bd [(0,vI 1)] #[vI 1,vI 0] ?_;refine T ?_;intro cE be cF bf;exact rt
 refine T ?_;intro f bB h au aG av aH aw aI ax aJ ay aK az aL cG bg;refine LW.bd [(0,.agg #[vS au f.PB.PA.length aG,vS av f.own.length aH,vS aw f.PC.length aI,vS ax f.py.ag.length aJ,vI f.py.gc.PD,vI f.py.gc.PL,vI f.py.gc.PF,vS ay f.py.gc.hZ.length aK,vS az f.ia.length aL,vI f.PJ,vI f.PI,vI f.hY.bh,vI f.hY.ib,vI f.hY.ij,vI f.ik,vI f.PH]),(1,vI ap),(2,vI aq),(3,vI ar)] #[vS au f.PB.PA.length aG,vS av f.own.length aH,vS aw f.PC.length aI,vS ax f.py.ag.length aJ,vI f.py.gc.PD,vI f.py.gc.PL,vI f.py.gc.PF,vS ay f.py.gc.hZ.length aK,vS az f.ia.length aL,vI f.PJ,vI f.PI,vI f.hY.bh,vI f.hY.ib,vI f.hY.ij,vI f.ik,vI f.PH,vI ap,vI aq,vI ar] ?_;refine T ?_;intro cm cH bi j bC h b0 ci b1 cj b2 ck b3 cl cI bj;refine CW.fl [5,9,10,11,12,13,14,54] fun e=>?_;refine gc h ?_ ?_<;>intro _ h
 · refine go ?_;refine LW.u (iQ.nc rfl) rfl ?_;refine jL [(1,vI j.2.1)] #[vI 0,vI j.2.1] ?_;refine T ?_;intro cJ bk cK bl;exact rt
 refine T ?_;intro g bD h aA aM aB aN aC aO aD aP aE aQ aF aR bF bm Y bG bn bI aU;obtain ⟨aV,af,aS⟩:=ob h;refine CW.jn [10,11,13,15] [0,1,2,3,4,5,6,14,15] [(73,.bool aV)] aU (h1:=?_) (h2:=?_)
 · have h:=af;refine gB h ?_ ?_<;>intro _ h
   · refine gB h ?_ ?_<;>intro _ h
     · exact rt
     exact rt
   exact rt
 intro e bJ bo;have h:=aS;refine gs ?_;obtain ⟨aW,ah,aT⟩:=ob h;refine CW.cut (fun e wb=>En e [(10,.pointer (some ⟨aX,0,none⟩)),(11,.pointer (some ⟨aY,0,none⟩)),(13,vI j.1),(15,.pointer (some ⟨Y,0,none⟩))]∧St w0 [] wb [bx Y 50 [vS aA g.PB.PA.length aM,vS aB g.own.length aN,vS aC g.PC.length aO,vS aD g.py.ag.length aP,vI g.py.gc.PD,vI g.py.gc.PL,vI g.py.gc.PF,vS aE g.py.gc.hZ.length aQ,vS aF g.ia.length aR,vI g.PJ,vI g.PI,vI g.hY.bh,vI g.hY.ib,vI g.hY.ij,vI aW,vI g.PH],sl aA aM g.PB.PA,sl aB aN g.own,sl aC aO g.PC,sl aD aP g.py.ag,sl aE aQ g.py.gc.hZ,sl aF aR g.ia,bx aY 32 [vI 0,vI 0],bx aX 50 [vS none 0 0,vS none 0 0,vS none 0 0,vS none 0 0,vI 0,vI 0,vI 0,vS none 0 0,vS none 0 0,vI 0,vI 0,vI 0,vI 0,vI 0,vI 0,vI 0]]) ?_ ?_
 · have h:=ah;refine gc h ?_ ?_<;>intro _ h
   · refine go ?_;refine LW.u (iQ.min rfl rfl) rfl ?_;refine T ?_;intro bK bp;exact rt
   exact rt
 rintro e bL ⟨hE,bq⟩;obtain ⟨e,rfl⟩:=hE.out;have h:=aT;refine jL [(0,vI j.1)] #[vI j.1,vI 0] ?_;refine T ?_;intro bM br bN bs;exact rt
instance k_82:Ct prog 82:=⟨by kernel_rfl,@D3⟩
end Go.Kx
