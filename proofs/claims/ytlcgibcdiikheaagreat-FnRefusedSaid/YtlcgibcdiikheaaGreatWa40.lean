import Derived.Test.YtlcgibcdiikheaaGreatWa37
namespace Go.Kx
open Go Go.RowKit Go.Proofs
open Tryz
set_option maxRecDepth 10000
set_option maxHeartbeats 8000000
set_option linter.unusedVariables false
set_option linter.unusedSimpArgs false
theorem qR {w0} {F:List Nat} {N o f aC r} (h:qF N o f aC=some r) {n:Nat} {j k} (aO:iR (jo w0 F) w0 j k o.b) {p O B} (ab:O=f.PB.PA.length) (aP:iR (jo w0 F) w0 p B f.PB.PA) {q R C} (ac:R=f.own.length) (aQ:iR (jo w0 F) w0 q C f.own) {u U G} (ad:U=f.PC.length) (aR:iR (jo w0 F) w0 u G f.PC) {x V H} (ae:V=f.py.ag.length) (aS:iR (jo w0 F) w0 x H f.py.ag) {z W I} (af:W=f.py.gc.hZ.length) (aT:iR (jo w0 F) w0 z I f.py.gc.hZ) {A X J} (ah:X=f.ia.length) (aU:iR (jo w0 F) w0 A J f.ia) (hS:St w0 F w0 [bx n 177 [vS j o.b.length k,vI o.i,vI o.h]]) :
    iq prog 70 #[.pointer (some ⟨n,0,none⟩),.agg #[vS p O B,vS q R C,vS u U G,vS x V H,vI f.py.gc.PD,vI f.py.gc.PL,vI f.py.gc.PF,vS z W I,vS A X J,vI f.PJ,vI f.PI,vI f.hY.bh,vI f.hY.ib,vI f.hY.ij,vI f.ik,vI f.PH],vI aC] w0 (fun v w=>v=.agg #[vI r.1.Pz,vI r.1.a,vI r.1.b,vI r.1.c,vI r.1.d,vI r.1.e]∧St w0 F w [bx n 177 [vS j o.b.length k,vI r.2.i,vI r.2.h]]):=by
 subst ab ac ad ae af ah;unfold qF at h;refine iq.fn func70 fun e=>?_;refine T ?_;intro aD fI eN K fJ eO aN eV h fK eP;refine LW.bd [(0,vI (IntKind.i64.wrap (1+aN.1)))] #[vI (IntKind.i64.wrap (1+aN.1)),vI 0,vI 0,vI 0,vI 0,vI 0] ?_;refine T ?_;intro L eW eQ eX eR aj cY h eY eS;obtain ⟨ai,av,aE⟩:=ob h;refine CW.cut (fun e wb=>En e [(0,.pointer (some ⟨n,0,none⟩)),(2,vI aC),(4,.pointer (some ⟨aD,0,none⟩)),(6,.pointer (some ⟨K,0,none⟩)),(7,.pointer (some ⟨L,0,none⟩))]∧St w0 F wb [bx n 177 [vS j o.b.length k,vI aj.2.i,vI aj.2.h],bx L 28 [vI ai,vI 0,vI 0,vI 0,vI 0,vI 0],bx K 28 [vI 0,vI 0,vI 0,vI 0,vI 0,vI 0],bx aD 50 (qP p B q C u G x H z I A J f)]) ?_ ?_
 · have h:=av;refine gc h ?_ ?_<;>intro _ h
   · refine T ?_;intro eZ eT;exact rt
   exact rt
 rintro e e0 ⟨hE,aJ⟩;obtain ⟨e,rfl⟩:=hE.out;have h:=aE;refine gs ?_;refine CW.region ?_;refine gs ?_;obtain ⟨l,aw,aF⟩:=ob h;refine CW.cut (fun e wb=>En e [(0,.pointer (some ⟨n,0,none⟩)),(6,.pointer (some ⟨K,0,none⟩)),(7,.pointer (some ⟨L,0,none⟩))]∧St w0 F wb [bx n 177 [vS j o.b.length k,vI l.1,vI l.2.1],bx L 28 [vI ai,vI l.2.2.1,vI l.2.2.2.1,vI l.2.2.2.2.1,vI l.2.2.2.2.2.1,vI l.2.2.2.2.2.2],bx K 28 [vI 0,vI 0,vI 0,vI 0,vI 0,vI 0]]) ?_ ?_
 · have h:=aw;refine kD [0,2,4,6,7,16,17] fun e=>?_;refine gc h ?_ ?_<;>intro _ h
   · refine T ?_;intro fv cZ h e1 eU e2 bB fw c0 h e3 bC e4 bD fx c1 h e5 bE e6 bF fy c2 h e7 bG e8 ao;refine LW.bi [0,0,0,1,2,4] ao ?_;intro eL eM e9 bI hf;refine T ?_;intro fA c3 h fa bJ fb bK;exact rt
   refine gs ?_;refine CW.region ?_;refine gs ?_;obtain ⟨aK,ax,aG⟩:=ob h;refine CW.jn [0,2,4,6,7,16] [0,1,2,3] [(39,.bool aK)] aJ (h1:=?_) (h2:=?_)
   · have h:=ax;refine gc h ?_ ?_<;>intro _ h
     · exact rt
     exact rt
   intro e fc ap;have h:=aG;refine gc h ?_ ?_<;>intro _ h
   · refine T ?_;intro fB c4 h fd bL fe bM fC c5 h ff bN fg bO fD c6 h fh bP fj bQ;exact rt
   refine gs ?_;refine CW.region ?_;refine gs ?_;obtain ⟨aL,ay,aH⟩:=ob h;refine CW.jn [0,2,4,6,7,16] [0,1,2,3] [(55,.bool aL)] ap (h1:=?_) (h2:=?_)
   · have h:=ay;refine gc h ?_ ?_<;>intro _ h
     · exact rt
     exact rt
   intro e fk aq;have h:=aH;refine gc h ?_ ?_<;>intro _ h
   · refine T ?_;intro fE c7 h fm bR fp bS fF c8 h fq bT fr bU;exact rt
   refine gs ?_;refine CW.region ?_;refine gs ?_;obtain ⟨aM,az,aI⟩:=ob h;refine CW.jn [0,2,4,6,7,16] [0,1,2,3] [(68,.bool aM)] aq (h1:=?_) (h2:=?_)
   · have h:=az;refine gc h ?_ ?_<;>intro _ h
     · exact rt
     exact rt
   intro e fs ar;have h:=aI;refine gc h ?_ ?_<;>intro _ h
   · refine T ?_;intro fG c9 h ft bV fu bW fH da h db bX dc bY eh aV h dd bZ de b0;exact rt
   refine gc h ?_ ?_<;>intro _ h
   · refine T ?_;intro ei aW h df b1 dg b2 ej aX h dh b3 di b4;exact rt
   refine gc h ?_ ?_<;>intro _ h
   · refine T ?_;intro ek aY h dj b5 dk b6 el aZ h dl b7 dm b8 em a0 h dn b9 dp ca en a1 h dq cb;refine T ?_;intro dr cc;exact rt
   refine gc h ?_ ?_<;>intro _ h
   · refine T ?_;intro ep a2 h ds ce dt cf er a3 h du cg dv ci es a4 h dw cj dx ck;refine T ?_;intro et a5 h dy cl dA cm;exact rt
   refine gs ?_;refine CW.region ?_;refine gs ?_;obtain ⟨aA,Y,ak⟩:=ob h;refine CW.jn [0,2,4,6,7,16] [0,1,2,3] [(121,.bool aA)] ar (h1:=?_) (h2:=?_)
   · have h:=Y;refine CW.fl [0,2,4,6,7,16,121] fun e=>?_;refine gc h ?_ ?_<;>intro _ h
     · exact rt
     exact rt
   intro e dB au;have h:=ak;refine kD [0,2,4,6,7,16,121] fun e=>?_;refine gc h ?_ ?_<;>intro _ h
   · refine T ?_;intro eu a6 h dC cn dD co;exact rt
   refine gs ?_;refine CW.region ?_;refine gs ?_;obtain ⟨aB,Z,am⟩:=ob h;refine CW.jn [0,2,4,6,7,16] [0,1,2,3] [(127,.bool aB)] au (h1:=?_) (h2:=?_)
   · have h:=Z;refine gc h ?_ ?_<;>intro _ h
     · exact rt
     refine gc h ?_ ?_<;>intro _ h
     · exact rt
     exact rt
   intro e dE cp;have h:=am;refine gc h ?_ ?_<;>intro _ h
   · refine T ?_;intro ew a7 h dF cq dG cr ex a8 h dH cs dI ct;exact rt
   refine gc h ?_ ?_<;>intro _ h
   · refine T ?_;intro ey a9 h dJ cu dK cv;exact rt
   refine gc h ?_ ?_<;>intro _ h
   · refine T ?_;intro ez ba h dL cw dM cx eA bb h dN cy dO cz eB bc h dP cA dQ cB eC be h dR cC eD bf h dS cD;refine T ?_;intro dT cE eE bg h dU cF dV cG;exact rt
   exact rt
 rintro e dX ⟨hE,cH⟩;obtain ⟨e,rfl⟩:=hE.out;have h:=aF;refine T ?_;intro eF bj h dY m;obtain ⟨g,aa,an⟩:=ob h;refine CW.cut (fun e wb=>En e [(0,.pointer (some ⟨n,0,none⟩)),(6,.pointer (some ⟨K,0,none⟩)),(7,.pointer (some ⟨L,0,none⟩))]∧St w0 F wb [bx n 177 [vS j o.b.length k,vI g.1,vI g.2.1],bx L 28 [vI g.2.2.1,vI g.2.2.2.1,vI g.2.2.2.2.1,vI g.2.2.2.2.2.1,vI g.2.2.2.2.2.2,vI l.2.2.2.2.2.2],bx K 28 [vI 0,vI 0,vI 0,vI 0,vI 0,vI 0]]) ?_ ?_
 · have h:=aa;refine kD [0,6,7,167,168] fun e=>?_;refine gc h ?_ ?_<;>intro _ h
   · refine go ?_;refine LW.bi [-1,9223372036854775807] m ?_;intro bp bu dZ cI hf;refine T ?_;intro eG bk h d0 cJ d1 cK;exact rt
   refine gc h ?_ ?_<;>intro _ h
   · refine go ?_;refine LW.bi [-1,9223372036854775807,1000] m ?_;intro bq bv d2 cL hf;refine T ?_;intro eH bl h d3 cM d4 cN;exact rt
   refine gc h ?_ ?_<;>intro _ h
   · refine go ?_;refine LW.bi [-1,9,1000,9223372036854775807] m ?_;intro br bw d5 cO hf;refine T ?_;intro eI bm h d6 cP d7 cQ;exact rt
   refine gc h ?_ ?_<;>intro _ h
   · refine go ?_;refine LW.bi [0, -1,1000,1001,9223372036854775807] m ?_;intro bs bz d8 cR hf;refine T ?_;intro eJ bn h d9 cS ea cT;exact rt
   refine gc h ?_ ?_<;>intro _ h
   · refine go ?_;refine LW.bi [0,18, -1] m ?_;intro bt bA eb cU hf;refine T ?_;intro eK bo h ec cV ed cW;exact rt
   exact rt
 rintro e ee ⟨hE,cX⟩;obtain ⟨e,rfl⟩:=hE.out;have h:=an;refine T ?_;intro ef M;replace h:=oi h;subst h;exact And.intro trivial ⟨_,kI.one (iD.b M 2 rfl KY rfl rfl),rfl,M.pk [0]⟩
instance k_70:Ct prog 70:=⟨by kernel_rfl,@qR⟩
theorem H9 {w0} {F:List Nat} {N Z r} (h:vA N Z=some r) {aD:Nat} {q x} (bl:iR (jo w0 F) w0 q x Z.b) (hS:St w0 F w0 [bx aD 177 [vS q Z.b.length x,vI Z.i,vI Z.h]]) :
    iq prog 318 #[.pointer (some ⟨aD,0,none⟩)] w0 (fun v w=>∃ aH aI,v=vS aH r.1.length aI∧St w0 F w [sl aH aI r.1,bx aD 177 [vS q Z.b.length x,vI r.2.i,vI r.2.h]]):=by
 unfold vA at h;refine iq.fn func318 fun e=>?_;refine T ?_;intro k ck h bs f cF cg aG cl h cn ci aL bP h co g;refine kD [0,3,4,12,13] fun e=>?_;refine gc h ?_ ?_<;>intro _ h
 · refine gb h fun cy ar h=>?_;obtain ⟨aE,a7,a8,aY,aZ,a9⟩:=g.uN (α:=gE) 1 rfl ar;refine LW.u (iQ.sub (α:=gE) (l:=k.1) underlying41 vO rfl uv (uF rfl) ar aE aY aZ) rfl ?_;refine go ?_;replace h:=oi h;subst h;exact Ra ⟨a7,a8,rfl,a9.pk [1,0]⟩
 refine gc h ?_ ?_<;>intro _ h
 · refine go ?_;refine LW.bi [-2,10,9,0] g ?_;intro b7 cc cp cj hf;refine T ?_;intro cz bQ h cq aJ;have ⟨cA,au,h⟩:=ob h;obtain ⟨ah,aA,hae,bD,bI⟩:=aJ.iF (α:=gE) (i:=2) rfl au;subst hae;refine go ?_;refine gb h fun bc av h=>?_;refine LW.se 2 aJ 2 au av (hM:=(ko (fun w cs F hF=>by obtain ⟨z,C,A,H,B,I,rfl,hH⟩:=hF;exact ⟨z,C,A,H,B,I,rfl,hH⟩))) fun cr ba=>?_;refine go ?_;replace h:=oi h;subst h;exact Ra ⟨(some ⟨ah,aA,none⟩),f,(show (vS (some ⟨ah,aA,none⟩) k.1.length f:Value)=vS (some ⟨ah,aA,none⟩) bc.length f by rw [iB (oi av)]),ba.pk [2,0]⟩
 refine gc h ?_ ?_<;>intro _ h
 · refine T ?_;intro cB bR h ct aK;have ⟨cC,aw,h⟩:=ob h;obtain ⟨ai,aB,hae,bE,bJ⟩:=aK.iF (α:=gE) (i:=1) rfl aw;subst hae;refine go ?_;refine gb h fun bd ax h=>?_;refine LW.se 1 aK 1 aw ax (hM:=(ko (fun w cs F hF=>by obtain ⟨z,C,A,H,B,I,rfl,hH⟩:=hF;exact ⟨z,C,A,H,B,I,rfl,hH⟩))) fun cu bb=>?_;refine go ?_;replace h:=oi h;subst h;exact Ra ⟨(some ⟨ai,aB,none⟩),f,(show (vS (some ⟨ai,aB,none⟩) k.1.length f:Value)=vS (some ⟨ai,aB,none⟩) bd.length f by rw [iB (oi ax)]),bb.pk [1,0]⟩
 refine gc h ?_ ?_<;>intro _ h
 · refine go ?_;refine LW.bi [-1,999,1000] g ?_;intro b8 ce cv bA hf;refine T ?_;intro cD bS h cw am;have ⟨cE,ay,h⟩:=ob h;obtain ⟨aj,aC,hae,bF,bK⟩:=am.iF (α:=gE) (i:=2) rfl ay;subst hae;refine go ?_;refine gb h fun be az h=>?_;refine LW.se 0 am 2 ay az (hM:=(ko (fun w cs F hF=>by obtain ⟨z,C,A,H,B,I,rfl,hH⟩:=hF;exact ⟨z,C,A,H,B,I,rfl,hH⟩))) fun cx aN=>?_;refine go ?_;replace h:=oi h;subst h;exact Ra ⟨(some ⟨aj,aC,none⟩),f,(show (vS (some ⟨aj,aC,none⟩) k.1.length f:Value)=vS (some ⟨aj,aC,none⟩) be.length f by rw [iB (oi az)]),aN.pk [2,0]⟩
 refine gc h ?_ ?_<;>intro _ h
 · refine gb h fun d W h=>?_;obtain ⟨aa,R,hae,bG,bL⟩:=g.iF (α:=gE) (i:=1) rfl W;subst hae;refine go ?_;obtain ⟨b6,aq,an⟩:=g.freeze (α:=gE) 1 rfl;obtain ⟨cb,cm,bz,hae,aV,_,_,aX,a1⟩:=aq.kc.idx W;cases hae;obtain ⟨K,O,m,o,n,p,rfl,bM,bN,bO⟩:=aX;refine T ?_;have a2:=fun (j:Nat) (u:Value) (hu:((qO K O m o n p d):List Value)[j]?=some u)=>(World.cell?_of_block (an.zC 1 rfl aV)).trans (a1 j u hu);have aO:=an.i7 (α:=gE) 1 rfl aq;obtain ⟨bo,a3,a0⟩:=aO.focus (α:=gE) (cs:=[vI d.PO,vI d.Pz,vI d.box,vI d.res,vI d.iK,vI d.bh,vI d.PK,vI d.iP,vI d.iM,.bool d.mark,vS K d.ig.length O,vS m d.PG.length o,vS n d.PE.length p]) 1 rfl W rfl a2;obtain ⟨b9,cf,ca,bt,bp,bu,aW,aM⟩:=a3;cases aW;have aP:=a0 [sl K O d.ig,sl m o d.PG,sl n p d.PE] aM;have ⟨J,aF,h⟩:=ob h;refine LW.l5 (M:=[]) (L:=[sl K O d.ig,sl m o d.PG,sl n p d.PE,bx aD 177 [vS q Z.b.length x,vI aL.2.i,vI aL.2.h],hole gE (some ⟨aa,R,none⟩) f k.1 (aG.1:Int).toNat (qO K O m o n p d)]) (vs:=#[vI 0]) (i:=0) nb rfl (by kernel_rfl) rfl rfl aF aP rfl (fun w G hG=>by cases (show G=[] from hG);exact ⟨rfl,rfl⟩) rfl rfl ?_;intro bT af ak bU aQ hf;refine go ?_;refine LW.xh (α:=gE) (vs:=[vS af J.length ak]) aQ 4 rfl BB rfl (by show _=R+(aG.1:Int).toNat * 13+10;omega) rfl rfl rfl rfl ?_;intro bV aR hf;refine go ?_;replace h:=oi h;subst h;have aS:=aR.oF (gE.mk d.PO d.Pz d.box d.res d.iK d.bh d.PK d.iP d.iM d.mark J d.PG d.PE) [0,1,2,3,4] 3 1 rfl rfl (fun w G hG=>⟨af,ak,m,o,n,p,rfl,hG⟩);exact Ra ⟨(some ⟨aa,R,none⟩),f,(show (vS (some ⟨aa,R,none⟩) k.1.length f:Value)=vS (some ⟨aa,R,none⟩) ((k.1.set (aG.1:Int).toNat (gE.mk d.PO d.Pz d.box d.res d.iK d.bh d.PK d.iP d.iM d.mark J d.PG d.PE)).length) f by rw [show k.1.length=(k.1.set (aG.1:Int).toNat (gE.mk d.PO d.Pz d.box d.res d.iK d.bh d.PK d.iP d.iM d.mark J d.PG d.PE)).length from (iB rfl)]),aS.pk [1,0]⟩
 refine gc h ?_ ?_<;>intro _ h
 · refine go ?_;refine LW.bi [-1,1000001,0] g ?_;intro bq bv bW bB hf;refine T ?_;intro b2 bm h bX ao;have ⟨b3,ab,h⟩:=ob h;obtain ⟨U,X,hae,bf,bj⟩:=ao.iF (α:=gE) (i:=2) rfl ab;subst hae;refine go ?_;refine gb h fun a5 ac h=>?_;refine LW.se 4 ao 2 ab ac (hM:=(ko (fun w cs F hF=>by obtain ⟨z,C,A,H,B,I,rfl,hH⟩:=hF;exact ⟨z,C,A,H,B,I,rfl,hH⟩))) fun bY aT=>?_;refine go ?_;replace h:=oi h;subst h;exact Ra ⟨(some ⟨U,X,none⟩),f,(show (vS (some ⟨U,X,none⟩) k.1.length f:Value)=vS (some ⟨U,X,none⟩) a5.length f by rw [iB (oi ac)]),aT.pk [2,0]⟩
 refine gc h ?_ ?_<;>intro _ h
 · refine go ?_;refine LW.bi [-1,30000,30001,1] g ?_;intro br bw bZ bC hf;refine T ?_;intro b4 bn h b0 ap;have ⟨b5,ad,h⟩:=ob h;obtain ⟨V,Y,hae,bg,bk⟩:=ap.iF (α:=gE) (i:=2) rfl ad;subst hae;refine go ?_;refine gb h fun a6 ae h=>?_;refine LW.se 6 ap 2 ad ae (hM:=(ko (fun w cs F hF=>by obtain ⟨z,C,A,H,B,I,rfl,hH⟩:=hF;exact ⟨z,C,A,H,B,I,rfl,hH⟩))) fun b1 aU=>?_;refine go ?_;replace h:=oi h;subst h;exact Ra ⟨(some ⟨V,Y,none⟩),f,(show (vS (some ⟨V,Y,none⟩) k.1.length f:Value)=vS (some ⟨V,Y,none⟩) a6.length f by rw [iB (oi ae)]),aU.pk [2,0]⟩
 refine go ?_;replace h:=oi h;subst h;exact Ra ⟨bs,f,rfl,g.pk [1,0]⟩
instance k_318:Ct prog 318:=⟨by kernel_rfl,@H9⟩
end Go.Kx
