import Derived.Test.YtlcgibcdiikheaaGreatWa35
import Derived.Test.YtlcgibcdiikheaaGreatWa36
namespace Go.Kx
open Go Go.RowKit Go.Proofs
open Tryz
set_option maxRecDepth 10000
set_option maxHeartbeats 8000000
set_option linter.unusedVariables false
set_option linter.unusedSimpArgs false
theorem Dk {w0 N aX Y r} (h:qR N aX Y=some r) {aa ap ac} (aB:ap=aX.length) (X:rb w0 aa ac aX) :
    g8 prog 349 #[vS aa ap ac,vI Y] w0 (fun v w=>∃ aG aH,v=.tuple #[vS aG r.1.length aH,.bool r.2]∧St w0 [] w [sl aG aH r.1]):=by
 subst aB;unfold qR at h;refine g8.fn func349 fun e=>?_;have cL:=St.start w0;refine T ?_;intro Z cO h c6 n c7 a0;obtain ⟨b5,a6,bz⟩:=ob h;refine CW.jn [0,1,6] [0] [(27,.bool b5)] a0 (h1:=?_) (h2:=?_)
 · have h:=a6;refine T ?_;intro c9 cP h c8 cM;refine bH h ?_ ?_<;>intro _ h
   · exact rt
   refine T ?_;intro c2 b4 h cW cN;refine bH h ?_ ?_<;>intro _ h
   · exact rt
   refine gb h fun c4 aU h=>?_;obtain ⟨cw,cQ,bu,rfl,bE,bL,bQ,⟨cm,cC,cn,cD,co,cE,rfl,bV,bW,bX⟩,bI⟩:=X.idx aU;refine go ?_;refine T ?_;exact rt
 intro e cX aI;have h:=bz;refine gc h ?_ ?_<;>intro _ h
 · exact rt
 refine gb h fun ar aV h=>?_;obtain ⟨cx,cR,bv,rfl,bF,bM,bR,⟨cp,cF,cq,cG,cr,cH,rfl,bY,bZ,b0⟩,bJ⟩:=X.idx aV;refine go ?_;refine T ?_;refine LW.bd [(0,vI ar.Q3)] #[vI ar.Q3,vI 0,vI 0,vI 0,vI 0,vI 0,vI 0,vI 0,vI 0,.bool false,vS none 0 0,vS none 0 0,vS none 0 0] ?_;have ⟨a7,am,h⟩:=ob h;obtain ⟨f,d,hae,bN,bS⟩:=aI.iu (α:=gE) (i:=0) rfl am;subst hae;refine go ?_;have a1:=aI.nil (α:=Int);have a3:=a1.nil (α:=Int);have a4:=a3.nil (α:=jw);have a5:=a4.pk (M:=[sl none 0 [],sl none 0 [],sl none 0 []]++[sl (some ⟨f,d,none⟩) n Z]) [2,1,0,3];have ⟨a8,an,h⟩:=ob h;refine LW.x6 (M:=[sl none 0 [],sl none 0 [],sl none 0 []]) (L:=[sl (some ⟨f,d,none⟩) n Z]) (z:=a7) (z':=(gE.mk ar.Q3 0 0 0 0 0 0 0 0 false [] [] [])) (o:=0) a5 (i:=0) rfl am yt rfl (by show _=d+(Y:Int).toNat * 13+0;omega) rfl rfl rfl rfl (whole (fun w G hG=>⟨none,0,none,0,none,0,rfl,hG⟩)) ?_;intro cY ad hf;rw [oi an] at ad;refine go ?_;obtain ⟨b7,aF,aK⟩:=ob h;refine CW.ie aF 0 (fun k e wb=>En e [(1,vI Y),(6,vS (some ⟨f,d,none⟩) k.1.length n),(39,vI (Z.length:Int)),(40,vI k.2)]∧St w0 [] wb [sl (some ⟨f,d,none⟩) n k.1]) ?_ ⟨⟨rfl,(show (vS (some ⟨f,d,none⟩) Z.length n:Value)=vS (some ⟨f,d,none⟩) a8.length n by rw [iv (oi an)]),rfl,rfl,trivial⟩,ad.pk [0]⟩ ?_
 · intro k e cZ o hM h;obtain ⟨e,rfl,ae⟩:=eo hM;refine kS [1,6,39,40,41] fun e=>?_;refine gc h ?_ ?_<;>intro _ h
   · refine gb h fun c5 U h=>?_;obtain ⟨cy,cS,hae,bO,bT⟩:=ae.iu (α:=gE) (i:=0) rfl U;cases hae;refine go ?_;obtain ⟨ck,I,O⟩:=ae.freeze (α:=gE) 0 rfl;obtain ⟨cz,cT,bw,hae,bG,_,_,aS,bK⟩:=I.j5.idx U;cases hae;obtain ⟨ct,cI,cu,cJ,cv,cK,rfl,b1,b2,b3⟩:=aS;refine T ?_;refine gc h ?_ ?_<;>intro _ h
     · refine go ?_;have bA:=O.iJ (α:=gE) 0 rfl I;exact rt
     refine go ?_;refine T ?_;obtain ⟨C,aT,aZ⟩:=ob h;refine CW.cut (fun e wb=>En e [(1,vI Y),(6,vS (some ⟨f,d,none⟩) C.length n),(7,vI k.2),(39,vI (Z.length:Int)),(40,vI k.2)]∧St w0 [] wb [sl (some ⟨f,d,none⟩) n C]) ?_ ?_
     · have h:=aT;refine CW.fl [1,6,7,39,40,55] fun e=>?_;refine gc h ?_ ?_<;>intro _ h
       · refine go ?_;have aL:=O.iJ (α:=gE) 0 rfl I;have ⟨a9,ao,h⟩:=ob h;refine LW.se 2 aL 0 U ao (hM:=(kR (fun w cs F hF=>by obtain ⟨b8,cb,b9,cc,ca,ce,rfl,hH⟩:=hF;exact ⟨b8,cb,b9,cc,ca,ce,rfl,hH⟩))) fun c0 aM=>?_;refine go ?_;replace h:=oi h;subst h;exact ⟨⟨rfl,(show (vS (some ⟨f,d,none⟩) k.1.length n:Value)=vS (some ⟨f,d,none⟩) a9.length n by rw [iv (oi ao)]),rfl,rfl,rfl,trivial⟩,aM.pk [0]⟩
       refine go ?_;have bB:=O.iJ (α:=gE) 0 rfl I;exact rt
     rintro e c1 ⟨hE,af⟩;obtain ⟨e,rfl⟩:=hE.out;have h:=aZ;refine gb h fun b V h=>?_;obtain ⟨cA,cU,hae,bP,bU⟩:=af.iu (α:=gE) (i:=0) rfl V;cases hae;refine go ?_;obtain ⟨cl,ak,ah⟩:=af.freeze (α:=gE) 0 rfl;obtain ⟨cB,cV,bb,hae,av,_,_,ax,aA⟩:=ak.j5.idx V;cases hae;obtain ⟨m,g,p,x,q,A,rfl,bj,bk,bl⟩:=ax;refine T ?_;refine go ?_;have aC:=fun (j:Nat) (u:Value) (hu:((qO m g p x q A b):List Value)[j]?=some u)=>(World.cell?_of_block (ah.zC 0 rfl av)).trans (aA j u hu);have aN:=ah.iJ (α:=gE) 0 rfl ak;obtain ⟨ba,aD,az⟩:=aN.focus (α:=gE) (cs:=[vI b.Q3,vI b.py,vI b.box,vI b.res,vI b.iF,vI b.bh,vI b.QW,vI b.iK,vI b.iG,.bool b.mark,vS m b.gZ.length g,vS p b.QV.length x,vS q b.QU.length A]) 0 rfl V rfl aC;obtain ⟨bn,br,bo,bs,bp,bt,aw,au⟩:=aD;cases aw;have aO:=az [sl m g b.gZ,sl p x b.QV,sl q A b.QU] au;obtain ⟨W,aE,aJ⟩:=ob h;refine CW.ie aE 2 (fun B e wb=>En e [(1,vI Y),(6,vS (some ⟨f,d,none⟩) C.length n),(7,vI k.2),(39,vI (Z.length:Int)),(40,vI k.2),(64,vS m B.1.length g),(65,vI (b.gZ.length:Int)),(66,vI B.2)]∧St w0 [] wb [sl m g B.1,sl p x b.QV,sl q A b.QU,hole gE (some ⟨f,d,none⟩) n C (k.2:Int).toNat [vI b.Q3,vI b.py,vI b.box,vI b.res,vI b.iF,vI b.bh,vI b.QW,vI b.iK,vI b.iG,.bool b.mark,vS m B.1.length g,vS p b.QV.length x,vS q b.QU.length A]]) ?_ (aO.po [0,1,2,3]) ?_
     · intro B e aW o hM h;obtain ⟨e,rfl,ai⟩:=eo hM;refine gc h ?_ ?_<;>intro _ h
       · refine gb h fun cj J h=>?_;obtain ⟨ab,aq,hae,bg,bi⟩:=ai.iu (α:=Int) (i:=0) rfl J;subst hae;refine go ?_;obtain ⟨bm,H,R⟩:=ai.freeze (α:=Int) 0 rfl;obtain ⟨bq,b6,bc,hae,be,_,_,ay,bf⟩:=H.j5.idx J;cases hae;obtain rfl:=ay;refine T ?_;refine CW.fl [1,6,7,8,39,40,64,65,66,73] fun e=>?_;refine gc h ?_ ?_<;>intro _ h
         · refine go ?_;refine LW.l (jV.lR aW B7 rfl (R.yi 3 rfl (j:=10) rfl)) rfl rfl ?_;refine go ?_;have aP:=R.iJ (α:=Int) 0 rfl H;have ⟨aY,K,h⟩:=ob h;refine LW.se 0 aP 0 J K (hM:=xn) fun cf aj=>?_;refine go ?_;replace h:=oi h;subst h;rw [iv (oi K)] at aj;exact ⟨rfl,⟨⟨rfl,rfl,rfl,rfl,rfl,(show (vS (some ⟨ab,aq,none⟩) B.1.length g:Value)=vS (some ⟨ab,aq,none⟩) aY.length g by rw [iv (oi K)]),rfl,rfl,trivial⟩,aj.pk [0,1,2,3]⟩⟩
         refine go ?_;have bC:=R.iJ (α:=Int) 0 rfl H;exact rt
       exact rt
     rintro e cg ⟨hE,aQ⟩;obtain ⟨e,rfl⟩:=hE.out;have h:=aJ;refine go ?_;replace h:=oi h;subst h;have aR:=aQ.rA (gE.mk b.Q3 b.py b.box b.res b.iF b.bh b.QW b.iK b.iG b.mark W.1 b.QV b.QU) [0,1,2,3] 3 0 rfl rfl (fun w G hG=>⟨m,g,p,x,q,A,rfl,hG⟩);exact ⟨rfl,⟨⟨rfl,(show (vS (some ⟨f,d,none⟩) C.length n:Value)=vS (some ⟨f,d,none⟩) ((C.set (k.2:Int).toNat (gE.mk b.Q3 b.py b.box b.res b.iF b.bh b.QW b.iK b.iG b.mark W.1 b.QV b.QU)).length) n by rw [show C.length=(C.set (k.2:Int).toNat (gE.mk b.Q3 b.py b.box b.res b.iF b.bh b.QW b.iK b.iG b.mark W.1 b.QV b.QU)).length from (iv rfl)]),rfl,rfl,trivial⟩,aR.pk [0]⟩⟩
   exact rt
 rintro e ci ⟨hE,bD⟩;obtain ⟨e,rfl⟩:=hE.out;have h:=aK;exact rt
instance k_349:Ct prog 349:=⟨by kernel_rfl,@Dk⟩
theorem B6 {w0} {F:List Nat} {N A r} (h:ql N A=some r) {I:Nat} {m n} (bc:iV (ki w0 F) w0 m n A.b) (hS:St w0 F w0 [bx I 177 [vS m A.b.length n,vI A.i,vI A.h]]) :
    g8 prog 212 #[.pointer (some ⟨I,0,none⟩)] w0 (fun v w=>∃ aE aH,v=vS aE r.1.length aH∧St w0 F w [sl aE aH r.1,bx I 177 [vS m A.b.length n,vI r.2.i,vI r.2.h]]):=by
 unfold ql at h;refine g8.fn func212 fun e=>?_;refine T ?_;intro B bU h a3 p ce bR cf bV h b0 an;refine gc h ?_ ?_<;>intro _ h
 · refine go ?_;replace h:=oi h;subst h;have a6:=an.nil (α:=iO);exact Ra ⟨none,0,rfl,a6.pk [0,1]⟩
 refine gc h ?_ ?_<;>intro _ h
 · refine go ?_;obtain ⟨bW,a0,a5⟩:=ob h;refine CW.ie a0 1 (fun q e wb=>∃ (k:Ad) (l:Nat),En e [(0,.pointer (some ⟨I,0,none⟩)),(3,vS k q.1.length l)]∧St w0 F wb [bx I 177 [vS m A.b.length n,vI q.2.1,vI q.2.2],sl k l q.1]) ?_ ⟨a3,p,an.po [0,1]⟩ ?_
   · intro q e b1 o hM h;obtain ⟨k,l,hE,bS⟩:=hM;obtain ⟨e,rfl⟩:=hE.out;refine kS [0,3,14] fun e=>?_;refine gc h ?_ ?_<;>intro _ h
     · refine T ?_;intro g bv h O V R W b2 a7;have a8:=a7.pk (M:=[sl O V g.1.QQ.so,sl R W g.1.own]++[bx I 177 [vS m A.b.length n,vI g.2.i,vI g.2.h],sl k l q.1]) [0,1,2,3];have ⟨ca,a2,h⟩:=ob h;refine LW.kX (M:=[sl O V g.1.QQ.so,sl R W g.1.own]) (L:=[bx I 177 [vS m A.b.length n,vI g.2.i,vI g.2.h],sl k l q.1]) (vs:=#[vS O g.1.QQ.so.length V,vS R g.1.own.length W,vI g.1.jq.bh,vI g.1.jq.gS,vI g.1.jq.gW]) (i:=1) Ov rfl (by kernel_rfl) rfl rfl a2 a8 rfl (fun w G hG=>⟨O,V,R,W,rfl,hG⟩) rfl rfl ?_;intro bZ bJ bO b3 bT hf;exact rt
     exact rt
   rintro e b4 ⟨k,l,hE,a9⟩;obtain ⟨e,rfl⟩:=hE.out;have h:=a5;refine go ?_;replace h:=oi h;subst h;exact Ra ⟨k,l,rfl,a9.pk [1,0]⟩
 refine gc h ?_ ?_<;>intro _ h
 · refine T ?_;intro aa bw h aC aF b5 aI;have ⟨d,J,h⟩:=ob h;obtain ⟨ad,Y,hae,bn,bq⟩:=aI.iu (α:=iO) (i:=2) rfl J;subst hae;refine go ?_;obtain ⟨bG,ao,ai⟩:=aI.freeze (α:=iO) 2 rfl;obtain ⟨bM,bX,bl,hae,aT,_,_,aV,aY⟩:=ao.j5.idx J;cases hae;obtain ⟨ac,ah,U,X,rfl,bt,bu⟩:=aV;have aZ:=fun (j:Nat) (u:Value) (hu:((qB ac ah U X d):List Value)[j]?=some u)=>(World.cell?_of_block (ai.zC 2 rfl aT)).trans (aY j u hu);have aK:=ai.iJ (α:=iO) 2 rfl ao;obtain ⟨bf,a1,aX⟩:=aK.focus (α:=iO) (cs:=[vS ac d.QQ.so.length ah,vS U d.own.length X,vI d.jq.bh,vI d.jq.gS,vI d.jq.gW]) 2 rfl J rfl aZ;obtain ⟨bK,bP,bL,bQ,aU,aJ⟩:=a1;cases aU;have aL:=aX [sl ac ah d.QQ.so,sl U X d.own] aJ;refine LW.z8 (α:=iO) (vs:=[vS aC aa.1.so.length aF]) aL 4 rfl zI rfl (by show _=Y+(0:Int).toNat * 5+0;omega) rfl rfl rfl rfl ?_;intro b6 aM hf;refine go ?_;replace h:=oi h;subst h;have aN:=aM.rA (iO.mk aa.1 d.own d.jq) [2,1,0,3,4] 2 2 rfl rfl (fun w G hG=>⟨aC,aF,U,X,rfl,hG⟩);exact Ra ⟨(some ⟨ad,Y,none⟩),p,(show (vS (some ⟨ad,Y,none⟩) B.1.length p:Value)=vS (some ⟨ad,Y,none⟩) ((B.1.set (0:Int).toNat (iO.mk aa.1 d.own d.jq)).length) p by rw [show B.1.length=(B.1.set (0:Int).toNat (iO.mk aa.1 d.own d.jq)).length from (iv rfl)]),aN.pk [2,1]⟩
 refine kS [0,3,7,27] fun e=>?_;refine gc h ?_ ?_<;>intro _ h
 · refine T ?_;intro cb bz h b7 aj;have ⟨cc,aq,h⟩:=ob h;obtain ⟨ae,au,hae,bo,br⟩:=aj.iu (α:=iO) (i:=1) rfl aq;subst hae;refine go ?_;refine gb h fun ba ar h=>?_;refine LW.se 2 aj 1 aq ar (hM:=(kR (fun w cs F hF=>by obtain ⟨bB,bD,bC,bE,rfl,hH⟩:=hF;exact ⟨bB,bD,bC,bE,rfl,hH⟩))) fun b8 aO=>?_;refine go ?_;replace h:=oi h;subst h;exact Ra ⟨(some ⟨ae,au,none⟩),p,(show (vS (some ⟨ae,au,none⟩) B.1.length p:Value)=vS (some ⟨ae,au,none⟩) ba.length p by rw [iv (oi ar)]),aO.pk [1,0]⟩
 refine gc h ?_ ?_<;>intro _ h
 · refine T ?_;intro ab bA h aD aG b9 ak;have ⟨f,K,h⟩:=ob h;obtain ⟨af,Z,hae,bp,bs⟩:=ak.iu (α:=iO) (i:=2) rfl K;subst hae;refine go ?_;obtain ⟨bI,ap,am⟩:=ak.freeze (α:=iO) 2 rfl;obtain ⟨bN,bY,bm,hae,aw,_,_,aW,az⟩:=ap.j5.idx K;cases hae;obtain ⟨x,z,C,H,rfl,bd,be⟩:=aW;have aA:=fun (j:Nat) (u:Value) (hu:((qB x z C H f):List Value)[j]?=some u)=>(World.cell?_of_block (am.zC 2 rfl aw)).trans (az j u hu);have aP:=am.iJ (α:=iO) 2 rfl ap;obtain ⟨bb,aB,ay⟩:=aP.focus (α:=iO) (cs:=[vS x f.QQ.so.length z,vS C f.own.length H,vI f.jq.bh,vI f.jq.gS,vI f.jq.gW]) 2 rfl K rfl aA;obtain ⟨bg,bj,bi,bk,ax,av⟩:=aB;cases ax;have aQ:=ay [sl x z f.QQ.so,sl C H f.own] av;refine LW.z8 (α:=iO) (vs:=[vS aD ab.1.length aG]) aQ 4 rfl B7 rfl (by show _=Z+(0:Int).toNat * 5+1;omega) rfl rfl rfl rfl ?_;intro bF aR hf;refine go ?_;replace h:=oi h;subst h;have aS:=aR.rA (iO.mk f.QQ ab.1 f.jq) [0,2,1,3,4] 2 2 rfl rfl (fun w G hG=>⟨x,z,aD,aG,rfl,hG⟩);exact Ra ⟨(some ⟨af,Z,none⟩),p,(show (vS (some ⟨af,Z,none⟩) B.1.length p:Value)=vS (some ⟨af,Z,none⟩) ((B.1.set (0:Int).toNat (iO.mk f.QQ ab.1 f.jq)).length) p by rw [show B.1.length=(B.1.set (0:Int).toNat (iO.mk f.QQ ab.1 f.jq)).length from (iv rfl)]),aS.pk [2,1]⟩
 refine go ?_;replace h:=oi h;subst h;exact Ra ⟨a3,p,rfl,an.pk [1,0]⟩
instance k_212:Ct prog 212:=⟨by kernel_rfl,@B6⟩
theorem Jg {w0} {F:List Nat} {N I d X ae r} (h:oE N I d X ae=some r) {H:Nat} {f j} (aq:iV (ki w0 F) w0 f j I.b) {l M z} (Y:M=d.QQ.so.length) (ar:iV (ki w0 F) w0 l z d.QQ.so) {m O A} (Z:O=d.own.length) (au:iV (ki w0 F) w0 m A d.own) {n R B} (aa:R=d.QR.length) (av:iV (ki w0 F) w0 n B d.QR) {g U k} (ab:U=d.heap.ag.length) (K:iV (ki w0 F) w0 g k d.heap.ag) {p V C} (ac:V=d.heap.gc.gQ.length) (aw:iV (ki w0 F) w0 p C d.heap.gc.gQ) {q W G} (ad:W=d.gR.length) (ax:iV (ki w0 F) w0 q G d.gR) (hS:St w0 F w0 [bx H 177 [vS f I.b.length j,vI I.i,vI I.h]]) :
    g8 prog 73 #[.pointer (some ⟨H,0,none⟩),.agg #[vS l M z,vS m O A,vS n R B,vS g U k,vI d.heap.gc.QS,vI d.heap.gc.Q0,vI d.heap.gc.QT,vS p V C,vS q W G,vI d.QZ,vI d.QY,vI d.gP.bh,vI d.gP.gS,vI d.gP.gW,vI d.hY,vI d.QX],vI X,vI ae] w0 (fun v w=>v=vI r.1∧St w0 F w [bx H 177 [vS f I.b.length j,vI r.2.i,vI r.2.h]]):=by
 subst Y Z aa ab ac ad;unfold oE at h;refine g8.fn func73 fun e=>?_;refine T ?_;intro L bo am;refine go ?_;obtain ⟨ah,ai,af⟩:=ob h;refine CW.it ai (fun J e wb=>En e [(0,.pointer (some ⟨H,0,none⟩)),(2,vI X),(3,vI ae),(5,.pointer (some ⟨L,0,none⟩)),(9,vS g d.heap.ag.length k),(10,vI J.1)]∧St w0 F wb [bx L 50 (qP l z m A n B g k p C q G d),bx H 177 [vS f I.b.length j,vI J.2.1,vI J.2.2]]) (fun o x e wb=>match o with | .inl J=>x=.exit 0∧En e [(0,.pointer (some ⟨H,0,none⟩)),(2,vI X),(5,.pointer (some ⟨L,0,none⟩))]∧St w0 F wb [bx L 50 (qP l z m A n B g k p C q G d),bx H 177 [vS f I.b.length j,vI J.2.1,vI J.2.2]] | .inr r=>x=.ret∧∃ u,u=r∧∃ v,lk prog f73.results e wb v∧v=vI u.1∧St w0 F wb [bx H 177 [vS f I.b.length j,vI u.2.i,vI u.2.h]]) ?_ (am.po [0,1]) ?_
 · intro J e bp o hM h;obtain ⟨e,rfl,a5⟩:=eo hM;refine gc h ?_ ?_<;>intro _ h
   · refine gs ?_;refine CW.block ?_;refine gs ?_;obtain ⟨ak,ao,aA⟩:=ob h;refine CW.cut (fun e wb=>En e [(0,.pointer (some ⟨H,0,none⟩)),(2,vI X),(3,vI ae),(5,.pointer (some ⟨L,0,none⟩)),(9,vS g d.heap.ag.length k),(10,vI J.1),(30,.bool ak.1)]∧St w0 F wb [bx L 50 (qP l z m A n B g k p C q G d),bx H 177 [vS f I.b.length j,vI ak.2.1,vI ak.2.2]]) ?_ ?_
     · have h:=ao;refine gb h fun bq ap h=>?_;obtain ⟨aX,bb,ay,rfl,aB,ba,aG,⟨aR,aZ,aS,a0,aT,a1,rfl,aI,aJ,aK⟩,aD⟩:=K.idx ap;refine go ?_;refine T ?_;refine bH h ?_ ?_<;>intro _ h
       · refine T ?_;intro bk aO h be a6;exact rt
       exact rt
     rintro e bf ⟨hE,a7⟩;obtain ⟨e,rfl⟩:=hE.out;have h:=aA;refine gc h ?_ ?_<;>intro _ h
     · refine gb h fun bl aj h=>?_;obtain ⟨aY,bc,az,rfl,aC,aF,aH,⟨aU,a2,aV,a3,aW,a4,rfl,aL,aM,aN⟩,aE⟩:=K.idx aj;refine go ?_;refine T ?_;intro bm aP h bg a8;exact rt
     exact rt
   exact rt
 intro x e bi hM;rcases ah with ah | bd
 · obtain ⟨rfl,hM⟩:=hM;obtain ⟨e,rfl,a9⟩:=eo hM;have h:=af;refine T ?_;intro bn aQ h bj an;replace h:=oi h;subst h;exact Ra ⟨rfl,an.pk [0]⟩
 obtain ⟨rfl,u,rfl,hM⟩:=hM;cases af;exact And.intro trivial hM
instance k_73:Ct prog 73:=⟨by kernel_rfl,@Jg⟩
end Go.Kx
