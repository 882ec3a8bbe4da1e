import Derived.Test.YtlcgibcdiikheaaGreatWa38
import Derived.Test.YtlcgibcdiikheaaGreatWa40
namespace Go.Kx
open Go Go.RowKit Go.Proofs
open Tryz
set_option maxRecDepth 10000
set_option maxHeartbeats 8000000
set_option linter.unusedVariables false
set_option linter.unusedSimpArgs false
theorem Gr {w0 N i r} (h:tR N i=some r) {j W l} (Y:W=i.QQ.so.length) (K:rb w0 j l i.QQ.so) {k X m} (Z:X=i.own.length) (L:rb w0 k m i.own) :
    g8 prog 199 #[.agg #[vS j W l,vS k X m,vI i.jq.bh,vI i.jq.gS,vI i.jq.gW]] w0 (fun v w=>∃ p B, ∃ q C, ∃ u G, ∃ x H, ∃ z I, ∃ A J,v=.tuple #[.agg #[vS p r.1.QQ.so.length B,vS q r.1.own.length C,vS u r.1.QR.length G,vS x r.1.heap.ag.length H,vI r.1.heap.gc.QS,vI r.1.heap.gc.Q0,vI r.1.heap.gc.QT,vS z r.1.heap.gc.gQ.length I,vS A r.1.gR.length J,vI r.1.QZ,vI r.1.QY,vI r.1.gP.bh,vI r.1.gP.gS,vI r.1.gP.gW,vI r.1.hY,vI r.1.QX],.bool r.2]∧St w0 [] w [sl p B r.1.QQ.so,sl q C r.1.own,sl u G r.1.QR,sl x H r.1.heap.ag,sl z I r.1.heap.gc.gQ,sl A J r.1.gR]):=by
 subst Y Z;unfold tR at h;refine g8.fn func199 fun e=>?_;have aX:=St.start w0;refine z6 aX fun bs bu aY=>?_;refine LW.al aY fun bt bv aZ=>?_;refine gb h fun a4 a3 h=>?_;refine LW.cl (As a3) ?_;rintro _ bw ⟨aO,aV,rfl,hs⟩;have U:=aZ.add hs;refine gs ?_;obtain ⟨a5,a2,aW⟩:=ob h;refine CW.jn [1,2,4] [0,1,2] [(28,.bool a5)] U (h1:=?_) (h2:=?_)
 · have h:=a2;refine gb h fun bo aB h=>?_;refine LW.c0 (Au aB rfl (U.rB K)) U fun ba V=>?_;refine gB h ?_ ?_<;>intro _ h
   · refine go ?_;cases oi h;exact V.po [0,1,2]
   refine gb h fun bp aC h=>?_;refine go ?_;refine LW.c0 (Cv aC rfl (V.rB L)) V fun bb am=>?_;refine gB h ?_ ?_<;>intro _ h
   · refine go ?_;cases oi h;exact am.po [0,1,2]
   refine go ?_;cases oi h;exact am.po [0,1,2]
 intro e bc an;have h:=aW;refine gc h ?_ ?_<;>intro _ h
 · refine jX [] #[vS none 0 0,vS none 0 0,vS none 0 0,vS none 0 0,vI 0,vI 0,vI 0,vS none 0 0,vS none 0 0,vI 0,vI 0,vI 0,vI 0,vI 0,vI 0,vI 0] ?_;refine LW.st an 1 fun be a0=>?_;refine go ?_;cases h;have a1:=a0.nil (α:=Int);have aq:=a1.nil (α:=Int);have ar:=aq.nil (α:=g6);have au:=ar.nil (α:=gE);have av:=au.nil (α:=Int);have O:=av.nil (α:=i7);exact Rc (iq.b O 7 rfl mx rfl rfl) tt ⟨none,0,none,0,none,0,none,0,none,0,none,0,rfl,O.pk [5,4,3,2,1,0]⟩
 refine gb h fun bq aD h=>?_;refine LW.cl (zy aD) ?_;rintro _ bf ⟨a7,a8,rfl,hs⟩;have aw:=an.add hs;refine LW.bi [-1, -1] aw ?_;intro aa af M n hf;refine LW.bd [(1,vI 4),(4,vI 1000000),(10,vS aa (([-1, -1]:List Int).length) af)] #[vI 0,vI 4,vI 0,vI 0,vI 1000000,vI 0,vI 0,vI 0,vI 0,.bool false,vS aa (([-1, -1]:List Int).length) af,vS none 0 0,vS none 0 0] ?_;have ⟨ap,aE,h⟩:=ob h;refine LW.cl (wD aE rfl (n.rI 1 rfl) rfl (n.rI 0 rfl) rfl (show iV (α:=Int) (ki M []) M none 0 [] from iV.nil _ _ _ _ (Nat.zero_le _)) rfl (show iV (α:=jw) (ki M []) M none 0 [] from iV.nil _ _ _ _ (Nat.zero_le _))) ?_;rintro _ bg ⟨ab,ah,rfl,hs⟩;have ax:=n.add hs;refine gb h fun g aF h=>?_;refine LW.cl (CB aF) ?_;rintro _ bj ⟨ac,ai,rfl,hs⟩;have o:=ax.add hs;refine LW.bd [(0,vS ab ap.1.length ah),(1,.agg #[vI g.QS,vI g.Q0,vI g.QT,vS ac g.gQ.length ai])] #[vS ab ap.1.length ah,vI g.QS,vI g.Q0,vI g.QT,vS ac g.gQ.length ai] ?_;refine gb h fun d aG h=>?_;refine LW.cl (yl aG rfl (o.rI 1 rfl) rfl (o.rI 0 rfl)) ?_;rintro _ bk ⟨ad,aj,ae,ak,rfl,hs⟩;have ay:=o.add hs;refine LW.al ay fun a9 bl az=>?_;refine LW.st az 0 fun ao f=>?_;refine jX [(0,.agg #[vS j i.QQ.so.length l]),(1,vS k i.own.length m),(2,vS aO a4.1.length aV),(3,.agg #[vS ad d.ag.length aj,vI d.gc.QS,vI d.gc.Q0,vI d.gc.QT,vS ae d.gc.gQ.length ak])] #[vS j i.QQ.so.length l,vS k i.own.length m,vS aO a4.1.length aV,vS ad d.ag.length aj,vI d.gc.QS,vI d.gc.Q0,vI d.gc.QT,vS ae d.gc.gQ.length ak,vS none 0 0,vI 0,vI 0,vI 0,vI 0,vI 0,vI 0,vI 0] ?_;have ⟨br,aH,h⟩:=ob h;refine LW.cl (AB aH rfl (f.rB K) rfl (f.rB L) rfl (f.rI 7 rfl) rfl (f.rI 1 rfl) rfl (f.rI 2 rfl) rfl (show iV (α:=i7) (ki ao []) ao none 0 [] from iV.nil _ _ _ _ (Nat.zero_le _))) ?_
 rintro _ bm ⟨aI,aP,aJ,aQ,aK,aR,aL,aS,aM,aT,aN,aU,rfl,hs⟩;have aA:=f.add hs;refine LW.st aA 14 fun bn R=>?_;refine go ?_;cases h;exact Rc (iq.b R 14 rfl mx rfl rfl) tt ⟨aI,aP,aJ,aQ,aK,aR,aL,aS,aM,aT,aN,aU,rfl,R.pk [0,1,2,3,4,5]⟩
instance k_199:Ct prog 199:=⟨by kernel_rfl,@Gr⟩
theorem Gt {w0} {F:List Nat} {N o f aC r} (h:tE N o f aC=some r) {n:Nat} {j k} (aO:iV (ki w0 F) w0 j k o.b) {p O B} (ab:O=f.QQ.so.length) (aP:iV (ki w0 F) w0 p B f.QQ.so) {q R C} (ac:R=f.own.length) (aQ:iV (ki w0 F) w0 q C f.own) {u U G} (ad:U=f.QR.length) (aR:iV (ki w0 F) w0 u G f.QR) {x V H} (ae:V=f.heap.ag.length) (aS:iV (ki w0 F) w0 x H f.heap.ag) {z W I} (af:W=f.heap.gc.gQ.length) (aT:iV (ki w0 F) w0 z I f.heap.gc.gQ) {A X J} (ah:X=f.gR.length) (aU:iV (ki w0 F) w0 A J f.gR) (hS:St w0 F w0 [bx n 177 [vS j o.b.length k,vI o.i,vI o.h]]) :
    g8 prog 70 #[.pointer (some ⟨n,0,none⟩),.agg #[vS p O B,vS q R C,vS u U G,vS x V H,vI f.heap.gc.QS,vI f.heap.gc.Q0,vI f.heap.gc.QT,vS z W I,vS A X J,vI f.QZ,vI f.QY,vI f.gP.bh,vI f.gP.gS,vI f.gP.gW,vI f.hY,vI f.QX],vI aC] w0 (fun v w=>v=.agg #[vI r.1.py,vI r.1.a,vI r.1.b,vI r.1.c,vI r.1.d,vI r.1.e]∧St w0 F w [bx n 177 [vS j o.b.length k,vI r.2.i,vI r.2.h]]):=by
 subst ab ac ad ae af ah;unfold tE at h;refine g8.fn func70 fun e=>?_;refine T ?_;intro aD fI eN K fJ eO aN eV h fK eP;refine LW.bd [(0,vI (IntKind.i64.wrap (1+aN.1)))] #[vI (IntKind.i64.wrap (1+aN.1)),vI 0,vI 0,vI 0,vI 0,vI 0] ?_;refine T ?_;intro L eW eQ eX eR aj cY h eY eS;obtain ⟨ai,av,aE⟩:=ob h;refine CW.cut (fun e wb=>En e [(0,.pointer (some ⟨n,0,none⟩)),(2,vI aC),(4,.pointer (some ⟨aD,0,none⟩)),(6,.pointer (some ⟨K,0,none⟩)),(7,.pointer (some ⟨L,0,none⟩))]∧St w0 F wb [bx n 177 [vS j o.b.length k,vI aj.2.i,vI aj.2.h],bx L 28 [vI ai,vI 0,vI 0,vI 0,vI 0,vI 0],bx K 28 [vI 0,vI 0,vI 0,vI 0,vI 0,vI 0],bx aD 50 (qP p B q C u G x H z I A J f)]) ?_ ?_
 · have h:=av;refine gc h ?_ ?_<;>intro _ h
   · refine T ?_;intro eZ eT;exact rt
   exact rt
 rintro e e0 ⟨hE,aJ⟩;obtain ⟨e,rfl⟩:=hE.out;have h:=aE;refine gs ?_;refine CW.region ?_;refine gs ?_;obtain ⟨l,aw,aF⟩:=ob h;refine CW.cut (fun e wb=>En e [(0,.pointer (some ⟨n,0,none⟩)),(6,.pointer (some ⟨K,0,none⟩)),(7,.pointer (some ⟨L,0,none⟩))]∧St w0 F wb [bx n 177 [vS j o.b.length k,vI l.1,vI l.2.1],bx L 28 [vI ai,vI l.2.2.1,vI l.2.2.2.1,vI l.2.2.2.2.1,vI l.2.2.2.2.2.1,vI l.2.2.2.2.2.2],bx K 28 [vI 0,vI 0,vI 0,vI 0,vI 0,vI 0]]) ?_ ?_
 · have h:=aw;refine kS [0,2,4,6,7,16,17] fun e=>?_;refine gc h ?_ ?_<;>intro _ h
   · refine T ?_;intro fv cZ h e1 eU e2 bB fw c0 h e3 bC e4 bD fx c1 h e5 bE e6 bF fy c2 h e7 bG e8 ao;refine LW.bi [0,0,0,1,2,4] ao ?_;intro eL eM e9 bI hf;refine T ?_;intro fA c3 h fa bJ fb bK;exact rt
   refine gs ?_;refine CW.region ?_;refine gs ?_;obtain ⟨aK,ax,aG⟩:=ob h;refine CW.jn [0,2,4,6,7,16] [0,1,2,3] [(39,.bool aK)] aJ (h1:=?_) (h2:=?_)
   · have h:=ax;refine gc h ?_ ?_<;>intro _ h
     · exact rt
     exact rt
   intro e fc ap;have h:=aG;refine gc h ?_ ?_<;>intro _ h
   · refine T ?_;intro fB c4 h fd bL fe bM fC c5 h ff bN fg bO fD c6 h fh bP fj bQ;exact rt
   refine gs ?_;refine CW.region ?_;refine gs ?_;obtain ⟨aL,ay,aH⟩:=ob h;refine CW.jn [0,2,4,6,7,16] [0,1,2,3] [(55,.bool aL)] ap (h1:=?_) (h2:=?_)
   · have h:=ay;refine gc h ?_ ?_<;>intro _ h
     · exact rt
     exact rt
   intro e fk aq;have h:=aH;refine gc h ?_ ?_<;>intro _ h
   · refine T ?_;intro fE c7 h fm bR fp bS fF c8 h fq bT fr bU;exact rt
   refine gs ?_;refine CW.region ?_;refine gs ?_;obtain ⟨aM,az,aI⟩:=ob h;refine CW.jn [0,2,4,6,7,16] [0,1,2,3] [(68,.bool aM)] aq (h1:=?_) (h2:=?_)
   · have h:=az;refine gc h ?_ ?_<;>intro _ h
     · exact rt
     exact rt
   intro e fs ar;have h:=aI;refine gc h ?_ ?_<;>intro _ h
   · refine T ?_;intro fG c9 h ft bV fu bW fH da h db bX dc bY eh aV h dd bZ de b0;exact rt
   refine gc h ?_ ?_<;>intro _ h
   · refine T ?_;intro ei aW h df b1 dg b2 ej aX h dh b3 di b4;exact rt
   refine gc h ?_ ?_<;>intro _ h
   · refine T ?_;intro ek aY h dj b5 dk b6 el aZ h dl b7 dm b8 em a0 h dn b9 dp ca en a1 h dq cb;refine T ?_;intro dr cc;exact rt
   refine gc h ?_ ?_<;>intro _ h
   · refine T ?_;intro ep a2 h ds ce dt cf er a3 h du cg dv ci es a4 h dw cj dx ck;refine T ?_;intro et a5 h dy cl dA cm;exact rt
   refine gs ?_;refine CW.region ?_;refine gs ?_;obtain ⟨aA,Y,ak⟩:=ob h;refine CW.jn [0,2,4,6,7,16] [0,1,2,3] [(121,.bool aA)] ar (h1:=?_) (h2:=?_)
   · have h:=Y;refine CW.fl [0,2,4,6,7,16,121] fun e=>?_;refine gc h ?_ ?_<;>intro _ h
     · exact rt
     exact rt
   intro e dB au;have h:=ak;refine kS [0,2,4,6,7,16,121] fun e=>?_;refine gc h ?_ ?_<;>intro _ h
   · refine T ?_;intro eu a6 h dC cn dD co;exact rt
   refine gs ?_;refine CW.region ?_;refine gs ?_;obtain ⟨aB,Z,am⟩:=ob h;refine CW.jn [0,2,4,6,7,16] [0,1,2,3] [(127,.bool aB)] au (h1:=?_) (h2:=?_)
   · have h:=Z;refine gc h ?_ ?_<;>intro _ h
     · exact rt
     refine gc h ?_ ?_<;>intro _ h
     · exact rt
     exact rt
   intro e dE cp;have h:=am;refine gc h ?_ ?_<;>intro _ h
   · refine T ?_;intro ew a7 h dF cq dG cr ex a8 h dH cs dI ct;exact rt
   refine gc h ?_ ?_<;>intro _ h
   · refine T ?_;intro ey a9 h dJ cu dK cv;exact rt
   refine gc h ?_ ?_<;>intro _ h
   · refine T ?_;intro ez ba h dL cw dM cx eA bb h dN cy dO cz eB bc h dP cA dQ cB eC be h dR cC eD bf h dS cD;refine T ?_;intro dT cE eE bg h dU cF dV cG;exact rt
   exact rt
 rintro e dX ⟨hE,cH⟩;obtain ⟨e,rfl⟩:=hE.out;have h:=aF;refine T ?_;intro eF bj h dY m;obtain ⟨g,aa,an⟩:=ob h;refine CW.cut (fun e wb=>En e [(0,.pointer (some ⟨n,0,none⟩)),(6,.pointer (some ⟨K,0,none⟩)),(7,.pointer (some ⟨L,0,none⟩))]∧St w0 F wb [bx n 177 [vS j o.b.length k,vI g.1,vI g.2.1],bx L 28 [vI g.2.2.1,vI g.2.2.2.1,vI g.2.2.2.2.1,vI g.2.2.2.2.2.1,vI g.2.2.2.2.2.2,vI l.2.2.2.2.2.2],bx K 28 [vI 0,vI 0,vI 0,vI 0,vI 0,vI 0]]) ?_ ?_
 · have h:=aa;refine kS [0,6,7,167,168] fun e=>?_;refine gc h ?_ ?_<;>intro _ h
   · refine go ?_;refine LW.bi [-1,9223372036854775807] m ?_;intro bp bu dZ cI hf;refine T ?_;intro eG bk h d0 cJ d1 cK;exact rt
   refine gc h ?_ ?_<;>intro _ h
   · refine go ?_;refine LW.bi [-1,9223372036854775807,1000] m ?_;intro bq bv d2 cL hf;refine T ?_;intro eH bl h d3 cM d4 cN;exact rt
   refine gc h ?_ ?_<;>intro _ h
   · refine go ?_;refine LW.bi [-1,9,1000,9223372036854775807] m ?_;intro br bw d5 cO hf;refine T ?_;intro eI bm h d6 cP d7 cQ;exact rt
   refine gc h ?_ ?_<;>intro _ h
   · refine go ?_;refine LW.bi [0, -1,1000,1001,9223372036854775807] m ?_;intro bs bz d8 cR hf;refine T ?_;intro eJ bn h d9 cS ea cT;exact rt
   refine gc h ?_ ?_<;>intro _ h
   · refine go ?_;refine LW.bi [0,18, -1] m ?_;intro bt bA eb cU hf;refine T ?_;intro eK bo h ec cV ed cW;exact rt
   exact rt
 rintro e ee ⟨hE,cX⟩;obtain ⟨e,rfl⟩:=hE.out;have h:=an;refine T ?_;intro ef M;replace h:=oi h;subst h;exact And.intro trivial ⟨_,lk.one (iq.b M 2 rfl Oy rfl rfl),rfl,M.pk [0]⟩
instance k_70:Ct prog 70:=⟨by kernel_rfl,@Gt⟩
end Go.Kx
