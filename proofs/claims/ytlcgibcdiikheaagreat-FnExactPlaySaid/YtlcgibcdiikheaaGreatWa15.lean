import Derived.Test.YtlcgibcdiikheaaGreatWa11
namespace Go.Kx
open Go Go.RowKit Go.Proofs
open Tryz
set_option maxRecDepth 10000
set_option maxHeartbeats 8000000
set_option linter.unusedVariables false
set_option linter.unusedSimpArgs false
theorem Jq {w0 N Y ai r} (h:tr N Y ai=some r) {p X q} (ac:X=Y.length) (af:rb w0 p q Y) :
    gV prog 228 #[vS p X q,vI ai] w0 (fun v w=>∃ ak an,v=vS ak r.length an∧St w0 [] w [sl ak an r]):=by
 subst ac;unfold tr at h;refine gV.fn func228 fun e=>?_;have b6:=St.start w0;refine T ?_;intro cw b8 h cu ao;refine gc h ?_ ?_<;>intro _ h
 · refine go ?_;cases h;have aR:=ao.nil (α:=Bool);exact Ra ⟨none,0,rfl,aR.pk [0]⟩
 refine gb h fun bQ aW h=>?_;refine LW.mk MN rfl rfl aW ao rfl ?_;intro ct x cv ap hf;refine gb h fun cx ar h=>?_;obtain ⟨b,d,hae,b7,bt⟩:=ap.hZ (α:=Bool) (i:=0) rfl ar;subst hae;refine go ?_;have ⟨aZ,O,h⟩:=ob h;refine LW.se 0 ap 0 ar O (hM:=ui) fun ci aS=>?_;refine go ?_;refine LW.bi [0] aS ?_;intro aM aO cj aT hf;refine go ?_;obtain ⟨bI,ae,ax⟩:=ob h;refine CW.ie ae 0 (fun n e wb=>∃ (k:Ad) (m:Nat),En e [(0,vS p Y.length q),(1,vI ai),(5,vS (some ⟨b,d,none⟩) n.1.length x),(6,vS k n.2.length m)]∧St w0 [] wb [sl k m n.2,sl (some ⟨b,d,none⟩) x n.1]) ?_ ⟨aM,aO,⟨rfl,rfl,(show (vS (some ⟨b,d,none⟩) bQ.length x:Value)=vS (some ⟨b,d,none⟩) aZ.length x by rw [gS (oi O)]),rfl,trivial⟩,aT.pk [0,1]⟩ ?_
 · intro n e ck o hM h;obtain ⟨k,m,hE,aq⟩:=hM;obtain ⟨e,rfl⟩:=hE.out;refine jw [0,1,5,6,19] fun e=>?_;refine gc h ?_ ?_<;>intro _ h
   · refine gb h fun co R h=>?_;obtain ⟨bW,b9,hae,bp,bu⟩:=aq.hZ (α:=Int) (i:=0) rfl R;subst hae;refine go ?_;obtain ⟨bR,K,aU⟩:=aq.freeze (α:=Int) 0 rfl;obtain ⟨bX,ca,a4,hae,bf,_,_,aE,bl⟩:=K.ju.idx R;cases hae;obtain rfl:=aE;refine T ?_;have aV:=aU.iD (α:=Int) 0 rfl K;have ⟨cp,U,h⟩:=ob h;obtain ⟨ab,aN,aP,aH,aI,a9⟩:=aV.vt (α:=Int) 0 rfl U;refine LW.u (il.sub (α:=Int) (l:=n.2) underlying37 GP rfl (vn rfl) vp U ab aH aI) rfl ?_;refine T ?_;intro aa bD h aj am cl ay;refine go ?_;obtain ⟨bG,ad,aw⟩:=ob h;refine CW.ie ad 2 (fun j e wb=>∃ (f:Ad) (g:Nat),En e [(0,vS p Y.length q),(1,vI ai),(5,vS (some ⟨b,d,none⟩) j.1.length x),(6,vS f j.2.1.length g),(27,vS aj aa.length am),(28,vI (aa.length:Int)),(29,vI j.2.2)]∧St w0 [] wb [sl aj am aa,sl f g j.2.1,sl (some ⟨b,d,none⟩) x j.1]) ?_ ⟨aN,aP,ay.po [0,1,2]⟩ ?_
     · intro j e aY o hM h;obtain ⟨f,g,hE,J⟩:=hM;obtain ⟨e,rfl⟩:=hE.out;refine jw [0,1,5,6,27,28,29,30] fun e=>?_;refine gc h ?_ ?_<;>intro _ h
       · refine gb h fun a0 V h=>?_;obtain ⟨bY,cb,hae,bq,bv⟩:=J.hZ (α:=Int) (i:=0) rfl V;subst hae;refine go ?_;obtain ⟨aL,B,z⟩:=J.freeze (α:=Int) 0 rfl;obtain ⟨bZ,cc,a6,hae,bg,_,_,aF,bm⟩:=B.ju.idx V;cases hae;obtain rfl:=aF;refine T ?_;obtain ⟨aX,aJ,aQ⟩:=ob h;refine CW.jn [0,1,5,6,9,27,28,29] [0,1,2] [(46,.bool aX)] z (h1:=?_) (h2:=?_)
         · have h:=aJ;refine gb h fun cq W h=>?_;obtain ⟨b0,ce,hae,br,bw⟩:=z.hZ (α:=Bool) (i:=2) rfl W;cases hae;refine go ?_;obtain ⟨bS,C,az⟩:=z.freeze (α:=Bool) 2 rfl;obtain ⟨b1,cf,a7,hae,bj,_,_,aG,bn⟩:=C.ju.idx W;cases hae;obtain rfl:=aG;refine T ?_;refine bH h ?_ ?_<;>intro _ h
           · refine gb h fun cr aK h=>?_;obtain ⟨b2,cg,a8,rfl,bk,bs,bz,⟨bT,b3,bU,b4,bV,b5,rfl,bA,bB,bC⟩,bo⟩:=af.idx aK;refine go ?_;refine T ?_;intro cs bE h cm aA;have ba:=aA.iD (α:=Bool) 2 rfl C;exact rt
           refine go ?_;have bb:=az.iD (α:=Bool) 2 rfl C;exact rt
         intro e cn A;have h:=aQ;refine gc h ?_ ?_<;>intro _ h
         · refine gb h fun bO H h=>?_;obtain ⟨a3,bF,hae,a1,a2⟩:=A.hZ (α:=Bool) (i:=2) rfl H;cases hae;refine go ?_;have ⟨Z,I,h⟩:=ob h;refine LW.se 0 A 2 H I (hM:=ui) fun bK aB=>?_;refine gb h fun bP ah h=>?_;refine LW.kB (M:=[]) (L:=[fz aY aL,sl f g j.2.1,sl (some ⟨b,d,none⟩) x Z]) (vs:=#[vI a0]) (i:=1) pI rfl (by kernel_rfl) rfl rfl ah aB rfl (fun w G hG=>by cases (show G=[] from hG);exact ⟨rfl,rfl⟩) rfl rfl ?_;intro bJ au av bL aC hf;refine go ?_;replace h:=oi h;subst h;have aD:=aC.iD (α:=Int) 0 rfl B;exact ⟨rfl,⟨au,av,⟨rfl,rfl,(show (vS (some ⟨b,d,none⟩) j.1.length x:Value)=vS (some ⟨b,d,none⟩) Z.length x by rw [gS (oi I)]),rfl,rfl,rfl,rfl,trivial⟩,aD.pk [0,1,2]⟩⟩
         refine go ?_;have bc:=A.iD (α:=Int) 0 rfl B;exact rt
       exact rt
     rintro e bM ⟨f,g,hE,bd⟩;obtain ⟨e,rfl⟩:=hE.out;have h:=aw;exact rt
   exact rt
 rintro e bN ⟨k,m,hE,be⟩;obtain ⟨e,rfl⟩:=hE.out;have h:=ax;exact rt
instance k_228:Ct prog 228:=⟨by kernel_rfl,@Jq⟩
theorem Cf {w0 N b R r} (h:qY N b R=some r) {d u l} (G:u=b.Pe.Pd.length) (U:rb w0 d l b.Pe.Pd) {f x m} (H:x=b.own.length) (V:rb w0 f m b.own) {g z n} (I:z=b.Pg.length) (W:rb w0 g n b.Pg) {i A o} (J:A=b.py.ag.length) (X:rb w0 i o b.py.ag) {j B p} (K:B=b.py.gc.gQ.length) (Y:rb w0 j p b.py.gc.gQ) {k C q} (L:C=b.gR.length) (Z:rb w0 k q b.gR) :
    gV prog 224 #[.agg #[vS d u l,vS f x m,vS g z n,vS i A o,vI b.py.gc.Ph,vI b.py.gc.Pr,vI b.py.gc.Pj,vS j B p,vS k C q,vI b.Pn,vI b.Pp,vI b.cd.gE,vI b.cd.gX,vI b.cd.g8,vI b.g5,vI b.Pm],vI R] w0 (fun v w=>v=vI r∧St w0 [] w []):=by
 subst G H I J K L;unfold qY at h;refine gV.fn func224 fun e=>?_;have ac:=St.start w0;refine T ?_;intro ak am M;obtain ⟨ab,O,aa⟩:=ob h;refine CW.jn [1] [] [(15,.bool ab)] M (h1:=?_) (h2:=?_)
 · have h:=O;refine T ?_;intro ap ah h an ad;refine bH h ?_ ?_<;>intro _ h
   · exact rt
   refine T ?_;intro aq ai h ao ae;exact rt
 intro e aj af;have h:=aa;refine gc h ?_ ?_<;>intro _ h
 · exact rt
 exact rt
instance k_224:Ct prog 224:=⟨by kernel_rfl,@Cf⟩
theorem C2 {w0 N aX Y r} (h:pT N aX Y=some r) {aa ap ac} (aB:ap=aX.length) (X:rb w0 aa ac aX) :
    gV prog 349 #[vS aa ap ac,vI Y] w0 (fun v w=>∃ aG aH,v=.tuple #[vS aG r.1.length aH,.bool r.2]∧St w0 [] w [sl aG aH r.1]):=by
 subst aB;unfold pT at h;refine gV.fn func349 fun e=>?_;have cL:=St.start w0;refine T ?_;intro Z cO h c6 n c7 a0;obtain ⟨b5,a6,bz⟩:=ob h;refine CW.jn [0,1,6] [0] [(27,.bool b5)] a0 (h1:=?_) (h2:=?_)
 · have h:=a6;refine T ?_;intro c9 cP h c8 cM;refine bH h ?_ ?_<;>intro _ h
   · exact rt
   refine T ?_;intro c2 b4 h cW cN;refine bH h ?_ ?_<;>intro _ h
   · exact rt
   refine gb h fun c4 aU h=>?_;obtain ⟨cw,cQ,bu,rfl,bE,bL,bQ,⟨cm,cC,cn,cD,co,cE,rfl,bV,bW,bX⟩,bI⟩:=X.idx aU;refine go ?_;refine T ?_;exact rt
 intro e cX aI;have h:=bz;refine gc h ?_ ?_<;>intro _ h
 · exact rt
 refine gb h fun ar aV h=>?_;obtain ⟨cx,cR,bv,rfl,bF,bM,bR,⟨cp,cF,cq,cG,cr,cH,rfl,bY,bZ,b0⟩,bJ⟩:=X.idx aV;refine go ?_;refine T ?_;refine LW.bd [(0,vI ar.Pw)] #[vI ar.Pw,vI 0,vI 0,vI 0,vI 0,vI 0,vI 0,vI 0,vI 0,.bool false,vS none 0 0,vS none 0 0,vS none 0 0] ?_;have ⟨a7,am,h⟩:=ob h;obtain ⟨f,d,hae,bN,bS⟩:=aI.hZ (α:=gP) (i:=0) rfl am;subst hae;refine go ?_;have a1:=aI.nil (α:=Int);have a3:=a1.nil (α:=Int);have a4:=a3.nil (α:=iM);have a5:=a4.pk (M:=[sl none 0 [],sl none 0 [],sl none 0 []]++[sl (some ⟨f,d,none⟩) n Z]) [2,1,0,3];have ⟨a8,an,h⟩:=ob h;refine LW.vl (M:=[sl none 0 [],sl none 0 [],sl none 0 []]) (L:=[sl (some ⟨f,d,none⟩) n Z]) (z:=a7) (z':=(gP.mk ar.Pw 0 0 0 0 0 0 0 0 false [] [] [])) (o:=0) a5 (i:=0) rfl am uK rfl (by show _=d+(Y:Int).toNat * 13+0;omega) rfl rfl rfl rfl (whole (fun w G hG=>⟨none,0,none,0,none,0,rfl,hG⟩)) ?_;intro cY ad hf;rw [oi an] at ad;refine go ?_;obtain ⟨b7,aF,aK⟩:=ob h;refine CW.ie aF 0 (fun k e wb=>En e [(1,vI Y),(6,vS (some ⟨f,d,none⟩) k.1.length n),(39,vI (Z.length:Int)),(40,vI k.2)]∧St w0 [] wb [sl (some ⟨f,d,none⟩) n k.1]) ?_ ⟨⟨rfl,(show (vS (some ⟨f,d,none⟩) Z.length n:Value)=vS (some ⟨f,d,none⟩) a8.length n by rw [gS (oi an)]),rfl,rfl,trivial⟩,ad.pk [0]⟩ ?_
 · intro k e cZ o hM h;obtain ⟨e,rfl,ae⟩:=eo hM;refine jw [1,6,39,40,41] fun e=>?_;refine gc h ?_ ?_<;>intro _ h
   · refine gb h fun c5 U h=>?_;obtain ⟨cy,cS,hae,bO,bT⟩:=ae.hZ (α:=gP) (i:=0) rfl U;cases hae;refine go ?_;obtain ⟨ck,I,O⟩:=ae.freeze (α:=gP) 0 rfl;obtain ⟨cz,cT,bw,hae,bG,_,_,aS,bK⟩:=I.ju.idx U;cases hae;obtain ⟨ct,cI,cu,cJ,cv,cK,rfl,b1,b2,b3⟩:=aS;refine T ?_;refine gc h ?_ ?_<;>intro _ h
     · refine go ?_;have bA:=O.iD (α:=gP) 0 rfl I;exact rt
     refine go ?_;refine T ?_;obtain ⟨C,aT,aZ⟩:=ob h;refine CW.cut (fun e wb=>En e [(1,vI Y),(6,vS (some ⟨f,d,none⟩) C.length n),(7,vI k.2),(39,vI (Z.length:Int)),(40,vI k.2)]∧St w0 [] wb [sl (some ⟨f,d,none⟩) n C]) ?_ ?_
     · have h:=aT;refine CW.fl [1,6,7,39,40,55] fun e=>?_;refine gc h ?_ ?_<;>intro _ h
       · refine go ?_;have aL:=O.iD (α:=gP) 0 rfl I;have ⟨a9,ao,h⟩:=ob h;refine LW.se 2 aL 0 U ao (hM:=(iU (fun w cs F hF=>by obtain ⟨b8,cb,b9,cc,ca,ce,rfl,hH⟩:=hF;exact ⟨b8,cb,b9,cc,ca,ce,rfl,hH⟩))) fun c0 aM=>?_;refine go ?_;replace h:=oi h;subst h;exact ⟨⟨rfl,(show (vS (some ⟨f,d,none⟩) k.1.length n:Value)=vS (some ⟨f,d,none⟩) a9.length n by rw [gS (oi ao)]),rfl,rfl,rfl,trivial⟩,aM.pk [0]⟩
       refine go ?_;have bB:=O.iD (α:=gP) 0 rfl I;exact rt
     rintro e c1 ⟨hE,af⟩;obtain ⟨e,rfl⟩:=hE.out;have h:=aZ;refine gb h fun b V h=>?_;obtain ⟨cA,cU,hae,bP,bU⟩:=af.hZ (α:=gP) (i:=0) rfl V;cases hae;refine go ?_;obtain ⟨cl,ak,ah⟩:=af.freeze (α:=gP) 0 rfl;obtain ⟨cB,cV,bb,hae,av,_,_,ax,aA⟩:=ak.ju.idx V;cases hae;obtain ⟨m,g,p,x,q,A,rfl,bj,bk,bl⟩:=ax;refine T ?_;refine go ?_;have aC:=fun (j:Nat) (u:Value) (hu:((qO m g p x q A b):List Value)[j]?=some u)=>(World.cell?_of_block (ah.zC 0 rfl av)).trans (aA j u hu);have aN:=ah.iD (α:=gP) 0 rfl ak;obtain ⟨ba,aD,az⟩:=aN.focus (α:=gP) (cs:=[vI b.Pw,vI b.Pf,vI b.box,vI b.Pu,vI b.iz,vI b.gE,vI b.Pq,vI b.iy,vI b.im,.bool b.Ps,vS m b.gZ.length g,vS p b.Po.length x,vS q b.Pk.length A]) 0 rfl V rfl aC;obtain ⟨bn,br,bo,bs,bp,bt,aw,au⟩:=aD;cases aw;have aO:=az [sl m g b.gZ,sl p x b.Po,sl q A b.Pk] au;obtain ⟨W,aE,aJ⟩:=ob h;refine CW.ie aE 2 (fun B e wb=>En e [(1,vI Y),(6,vS (some ⟨f,d,none⟩) C.length n),(7,vI k.2),(39,vI (Z.length:Int)),(40,vI k.2),(64,vS m B.1.length g),(65,vI (b.gZ.length:Int)),(66,vI B.2)]∧St w0 [] wb [sl m g B.1,sl p x b.Po,sl q A b.Pk,hole gP (some ⟨f,d,none⟩) n C (k.2:Int).toNat [vI b.Pw,vI b.Pf,vI b.box,vI b.Pu,vI b.iz,vI b.gE,vI b.Pq,vI b.iy,vI b.im,.bool b.Ps,vS m B.1.length g,vS p b.Po.length x,vS q b.Pk.length A]]) ?_ (aO.po [0,1,2,3]) ?_
     · intro B e aW o hM h;obtain ⟨e,rfl,ai⟩:=eo hM;refine gc h ?_ ?_<;>intro _ h
       · refine gb h fun cj J h=>?_;obtain ⟨ab,aq,hae,bg,bi⟩:=ai.hZ (α:=Int) (i:=0) rfl J;subst hae;refine go ?_;obtain ⟨bm,H,R⟩:=ai.freeze (α:=Int) 0 rfl;obtain ⟨bq,b6,bc,hae,be,_,_,ay,bf⟩:=H.ju.idx J;cases hae;obtain rfl:=ay;refine T ?_;refine CW.fl [1,6,7,8,39,40,64,65,66,73] fun e=>?_;refine gc h ?_ ?_<;>intro _ h
         · refine go ?_;refine LW.l (iZ.jz aW uF rfl (R.pL 3 rfl (j:=10) rfl)) rfl rfl ?_;refine go ?_;have aP:=R.iD (α:=Int) 0 rfl H;have ⟨aY,K,h⟩:=ob h;refine LW.se 0 aP 0 J K (hM:=ui) fun cf aj=>?_;refine go ?_;replace h:=oi h;subst h;rw [gS (oi K)] at aj;exact ⟨rfl,⟨⟨rfl,rfl,rfl,rfl,rfl,(show (vS (some ⟨ab,aq,none⟩) B.1.length g:Value)=vS (some ⟨ab,aq,none⟩) aY.length g by rw [gS (oi K)]),rfl,rfl,trivial⟩,aj.pk [0,1,2,3]⟩⟩
         refine go ?_;have bC:=R.iD (α:=Int) 0 rfl H;exact rt
       exact rt
     rintro e cg ⟨hE,aQ⟩;obtain ⟨e,rfl⟩:=hE.out;have h:=aJ;refine go ?_;replace h:=oi h;subst h;have aR:=aQ.m6 (gP.mk b.Pw b.Pf b.box b.Pu b.iz b.gE b.Pq b.iy b.im b.Ps W.1 b.Po b.Pk) [0,1,2,3] 3 0 rfl rfl (fun w G hG=>⟨m,g,p,x,q,A,rfl,hG⟩);exact ⟨rfl,⟨⟨rfl,(show (vS (some ⟨f,d,none⟩) C.length n:Value)=vS (some ⟨f,d,none⟩) ((C.set (k.2:Int).toNat (gP.mk b.Pw b.Pf b.box b.Pu b.iz b.gE b.Pq b.iy b.im b.Ps W.1 b.Po b.Pk)).length) n by rw [show C.length=(C.set (k.2:Int).toNat (gP.mk b.Pw b.Pf b.box b.Pu b.iz b.gE b.Pq b.iy b.im b.Ps W.1 b.Po b.Pk)).length from (gS rfl)]),rfl,rfl,trivial⟩,aR.pk [0]⟩⟩
   exact rt
 rintro e ci ⟨hE,bD⟩;obtain ⟨e,rfl⟩:=hE.out;have h:=aK;exact rt
instance k_349:Ct prog 349:=⟨by kernel_rfl,@C2⟩
theorem zk {w0 N a5 b r} (h:oR N a5 b=some r) {aa aD af} (aF:aD=a5.length) (p:rb w0 aa af a5) {d X k} (av:X=b.gZ.length) (ay:rb w0 d k b.gZ) {f Y m} (aw:Y=b.Po.length) (az:rb w0 f m b.Po) {g Z n} (ax:Z=b.Pk.length) (aA:rb w0 g n b.Pk) :
    gV prog 298 #[vS aa aD af,.agg #[vI b.Pw,vI b.Pf,vI b.box,vI b.Pu,vI b.iz,vI b.gE,vI b.Pq,vI b.iy,vI b.im,.bool b.Ps,vS d X k,vS f Y m,vS g Z n]] w0 (fun v w=>∃ H K,v=.tuple #[vS H r.1.length K,vI r.2]∧St w0 [] w [sl H K r.1]):=by
 subst aF av aw ax;unfold oR at h;refine gV.fn func298 fun e=>?_;have a8:=St.start w0;refine vv a8 fun a6 bV aO=>?_;refine gb h fun be bb h=>?_;refine LW.cl (vu bb rfl (aO.rB p)) ?_;rintro _ bW ⟨ab,ah,rfl,hs⟩;have ap:=aO.add hs;refine gs ?_;obtain ⟨bq,ba,bi⟩:=ob h;refine CW.jn [0,3,6] [0,1] [(19,.bool bq)] ap (h1:=?_) (h2:=?_)
 · have h:=ba;refine gb h fun bX bc h=>?_;refine LW.c0 (xf bc rfl (ap.rB p)) ap fun bF aP=>?_;refine gB h ?_ ?_<;>intro _ h
   · refine go ?_;cases oi h;exact aP.po [0,1]
   refine go ?_;cases oi h;exact aP.po [0,1]
 intro e bG aQ;have h:=bi;refine gc h ?_ ?_<;>intro _ h
 · refine go ?_;cases h;exact Rc tt tt ⟨ab,ah,rfl,aQ.pk [0]⟩
 refine go ?_;obtain ⟨aR,aX,aN⟩:=ob h;refine CW.mono (CW.lx [0,3,6,21,22] [0,1] [6] 0 (fun O=>[(23,vI O)]) (fun r x e wb=>x=.ret∧∃ u,u=r∧∃ v,kz prog f298.results e wb v∧∃ H K,v=.tuple #[vS H u.1.length K,vI u.2]∧St w0 [] wb [sl H K u.1]) aQ aX (hb:=?_)) ?_
 · intro O e bI o aq h;refine gc h ?_ ?_<;>intro _ h
   · refine gb h fun aS a0 h=>?_;obtain ⟨bA,bC,bg,rfl,au,bj,bl,⟨aG,aJ,aH,aK,aI,aL,rfl,bn,bo,bp⟩,aW⟩:=p.idx a0;refine go ?_;refine LW.l (iZ.uI w0 uK rfl rfl (fun j u hu=>aW j u hu)) (aq.same _ au.1 au.2) rfl ?_;refine LW.al aq fun aM bJ a9=>?_;refine vb a9 0 fun bK W=>?_;refine gs ?_;obtain ⟨bd,aV,a7⟩:=ob h;refine CW.jn [0,3,6,7,8,21,22,23] [0,1,2] [(39,.bool bd)] W (h1:=?_) (h2:=?_)
     · have h:=aV;refine gB h ?_ ?_<;>intro _ h
       · refine go ?_;cases oi h;exact W.po [0,1,2]
       refine go ?_;refine bH h ?_ ?_<;>intro _ h
       · refine go ?_;cases oi h;exact W.po [0,1,2]
       refine go ?_;cases oi h;exact W.po [0,1,2]
     intro e bL ar;have h:=a7;refine jw [0,3,6,7,8,21,22,23,39] fun e=>?_;refine gc h ?_ ?_<;>intro _ h
     · refine go ?_;cases oi h;exact ⟨rfl,(ar.po [1,2])⟩
     refine gb h fun R a1 h=>?_;refine LW.cl (vu a1 rfl (ar.rB p)) ?_;rintro _ bM ⟨bz,J,rfl,hs⟩;have B:=ar.add hs;refine gb h fun q a2 h=>?_;refine LW.cl (zN a2 rfl (B.rB ay) rfl (B.rB az) rfl (B.rB aA)) ?_;rintro _ bN ⟨ac,ai,ad,aj,ae,ak,rfl,hs⟩;have am:=B.add hs;have ⟨bf,aB,h⟩:=ob h;obtain ⟨I,A,hae,bk,bm⟩:=am.hZ (α:=gP) (i:=3) rfl aB;subst hae;refine go ?_;have aT:=am.pk (M:=[sl ac ai q.gZ,sl ad aj q.Po,sl ae ak q.Pk]++[sl (some ⟨I,A,none⟩) J R,bx aM 101 (qO aG aJ aH aK aI aL aS),sl ab ah be,bx a6 101 (qO d k f m g n b)]) [0,1,2,3,4,5,6];have ⟨bS,C,h⟩:=ob h;refine LW.vl (M:=[sl ac ai q.gZ,sl ad aj q.Po,sl ae ak q.Pk]) (L:=[sl (some ⟨I,A,none⟩) J R,bx aM 101 (qO aG aJ aH aK aI aL aS),sl ab ah be,bx a6 101 (qO d k f m g n b)]) (z:=bf) (z':=q) (o:=0) aT (i:=0) rfl aB uK rfl (by show _=A+(O:Int).toNat * 13+0;omega) rfl rfl rfl rfl (whole (fun w G hG=>⟨ac,ai,ad,aj,ae,ak,rfl,hG⟩)) ?_;intro bO U hf;rw [oi C] at U;refine gb h fun bT aC h=>?_;obtain ⟨bB,bD,hae,aY,aZ⟩:=U.hZ (α:=gP) (i:=0) rfl aC;cases hae;(try refine LW.u (il.ix underlying41 mh rfl rfl aY (by rw [gS (oi C)];exact aZ)) rfl ?_);refine gb h fun aE V h=>?_;refine LW.se 0 U 0 aC V (hM:=(iU (fun w cs F hF=>by obtain ⟨br,bu,bs,bv,bt,bw,rfl,hH⟩:=hF;exact ⟨br,bu,bs,bv,bt,bw,rfl,hH⟩))) fun bP an=>?_;refine gb h fun bU a3 h=>?_
     refine LW.c0 (xf a3 (show R.length=aE.length from ((gS (oi C)).trans (gS (oi V)))) (an.rI 0 rfl)) an fun bQ ao=>?_;refine jw [6,7,9,56] fun e=>?_;refine gc h ?_ ?_<;>intro _ h
     · refine go ?_;cases oi h;exact ⟨trivial,rfl,_,rfl,ry tt tt ⟨ab,ah,rfl,ao.pk [2]⟩⟩
     refine go ?_;replace h:=oi h;subst h;exact ⟨trivial,rfl,_,rfl,ry tt tt ⟨(some ⟨I,A,none⟩),J,(show (.tuple #[vS (some ⟨I,A,none⟩) R.length J,vI O]:Value)=.tuple #[vS (some ⟨I,A,none⟩) aE.length J,vI O] by rw [show R.length=aE.length from ((gS (oi C)).trans (gS (oi V)))]),ao.pk [0]⟩⟩
   refine go ?_;cases oi h;exact ⟨trivial,rfl,(aq.po [0,1])⟩
 intro x e bR hM;rcases aR with aR | bE
 · obtain ⟨rfl,hM⟩:=hM;obtain ⟨e,rfl,aU⟩:=eo hM;have h:=aN;refine go ?_;cases h;exact Rc tt tt ⟨ab,ah,rfl,aU.pk [0]⟩
 obtain ⟨rfl,u,rfl,hM⟩:=hM;cases aN;exact And.intro trivial hM
instance k_298:Ct prog 298:=⟨by kernel_rfl,@zk⟩
end Go.Kx
