import Derived.Test.YtlcgibcdiikheaaGreatWa0
import Derived.Test.YtlcgibcdiikheaaGreatWa1
import Derived.Test.YtlcgibcdiikheaaGreatWa2
namespace Go.Kx
open Go Go.RowKit Go.Proofs
open Tryz
set_option maxRecDepth 10000
set_option maxHeartbeats 8000000
set_option linter.unusedVariables false
set_option linter.unusedSimpArgs false
theorem C0 {w0 N p r} (h:nY N p=some r) {k n l} (q:n=p.length) (u:rb w0 k l p) :
    gV prog 306 #[vS k n l] w0 (fun v w=>∃ z B,v=vS z r.length B∧St w0 [] w [sl z B r]):=by
 subst q;unfold nY at h;refine gV.fn func306 fun e=>?_;have K:=St.start w0;refine go ?_;refine LW.b0 (α:=iC) K ?_;intro X Y aB O hf;refine go ?_;obtain ⟨ar,H,J⟩:=ob h;refine CW.ie H 0 (fun m e wb=>∃ (b:Ad) (d:Nat),En e [(3,vS b m.1.length d),(7,vS k p.length l),(8,vI (p.length:Int)),(9,vI m.2)]∧St w0 [] wb [sl b d m.1]) ?_ ⟨X,Y,O.po [0]⟩ ?_
 · intro m e aC o hM h;obtain ⟨b,d,hE,ai⟩:=hM;obtain ⟨e,rfl⟩:=hE.out;refine gc h ?_ ?_<;>intro _ h
   · refine gb h fun W V h=>?_;obtain ⟨af,aq,Z,rfl,aa,ao,ap,⟨x,A,rfl,ac⟩,ab⟩:=u.idx V;refine go ?_;refine T ?_;intro C av aj aw ak j ad h f g ax R;refine LW.bd [(0,vS f j.length g)] #[vS f j.length g] ?_;have U:=R.pk (M:=[sl f g j]++[bx C 228 [vS x W.Py.length A],sl b d m.1]) [0,1,2];have ⟨aA,I,h⟩:=ob h;refine LW.kB (M:=[sl f g j]) (L:=[bx C 228 [vS x W.Py.length A],sl b d m.1]) (vs:=#[vS f j.length g]) (i:=1) Lf rfl (by kernel_rfl) rfl rfl I U rfl (fun w G hG=>⟨f,g,rfl,hG⟩) rfl rfl ?_;intro au ae ah ay am hf;exact rt
   exact rt
 rintro e az ⟨b,d,hE,an⟩;obtain ⟨e,rfl⟩:=hE.out;have h:=J;exact rt
instance k_306:Ct prog 306:=⟨by kernel_rfl,@C0⟩
theorem Fu {w0 N m n r} (h:qy N m n=some r) {b i f} (k:i=m.Pd.length) (o:rb w0 b f m.Pd) {d j g} (l:j=n.Pd.length) (p:rb w0 d g n.Pd) :
    gV prog 207 #[.agg #[vS b i f],.agg #[vS d j g]] w0 (fun v w=>v=.bool r∧St w0 [] w []):=by
 subst k l;unfold qy at h;refine gV.fn func207 fun e=>?_;have q:=St.start w0;refine T ?_;intro B G u C H x J A h I z;refine gc h ?_ ?_<;>intro _ h
 · exact rt
 exact rt
instance k_207:Ct prog 207:=⟨by kernel_rfl,@Fu⟩
theorem Jw {w0 N b d r} (h:tB N b d=some r) :
    gV prog 344 #[.agg #[.bool b.Px,vI b.Pv,vI b.iH.gE,vI b.iH.gX,vI b.iH.g8],.agg #[.bool d.Px,vI d.Pv,vI d.iH.gE,vI d.iH.gX,vI d.iH.g8]] w0 (fun v w=>v=.bool r∧St w0 [] w []):=by
 unfold tB at h;refine gV.fn func344 fun e=>?_;have f:=St.start w0;refine T ?_;intro l n g m o i;refine LW.u (il.bne underlying4 rfl rfl) rfl ?_;refine gc h ?_ ?_<;>intro _ h
 · exact rt
 refine jw [2,3,14] fun e=>?_;refine gc h ?_ ?_<;>intro _ h
 · exact rt
 refine T ?_;intro q k h p j;refine gc h ?_ ?_<;>intro _ h
 · exact rt
 exact rt
instance k_344:Ct prog 344:=⟨by kernel_rfl,@Jw⟩
theorem Ht {w0 N B C r} (h:vG N B C=some r) {b i f} (k:i=B.length) (m:rb w0 b f B) {d j g} (l:j=C.length) (n:rb w0 d g C) :
    gV prog 362 #[vS b i f,vS d j g] w0 (fun v w=>v=.bool r∧St w0 [] w []):=by
 subst k l;unfold vG at h;refine gV.fn func362 fun e=>?_;have G:=St.start w0;refine gc h ?_ ?_<;>intro _ h
 · exact rt
 refine go ?_;obtain ⟨q,z,p⟩:=ob h;refine CW.mono (CW.lx [0,1] [] [] 0 (fun J=>[(5,vI J)]) (RT prog f362.results (fun u=>.bool u) w0 []) G z (hb:=?_)) ?_
 · intro J e ao o H h;refine gc h ?_ ?_<;>intro _ h
   · refine jK ?_;have Z:=H.drew;refine gb h fun ap I h=>?_;obtain ⟨am,an,K,rfl,M,ac,ad,rfl,R⟩:=m.idx I;refine go ?_;refine T ?_;have ⟨aj,A,h⟩:=ob h;obtain ⟨Y,ae,L,rfl,O,V,W,rfl,U⟩:=n.idx A;refine go ?_;refine T ?_;intro ak X h ah aa;refine gc h ?_ ?_<;>intro _ h
     · exact rt
     exact rt
   exact rt
 intro x e ai hM;rcases q with q | af
 · obtain ⟨rfl,hM⟩:=hM;obtain ⟨e,rfl,ab⟩:=eo hM;rw [show e=iq e [] from rfl];have h:=p;exact rt
 obtain ⟨rfl,u,rfl,hM⟩:=hM;cases p;exact And.intro trivial hM
instance k_362:Ct prog 362:=⟨by kernel_rfl,@Ht⟩
theorem Kh {w0 N b d r} (h:wa N b d=some r) {f k i} (m:k=b.gQ.length) (o:rb w0 f i b.gQ) {g l j} (n:l=d.gQ.length) (p:rb w0 g j d.gQ) :
    gV prog 346 #[.agg #[vI b.Ph,vI b.Pr,vI b.Pj,vS f k i],.agg #[vI d.Ph,vI d.Pr,vI d.Pj,vS g l j]] w0 (fun v w=>v=.bool r∧St w0 [] w []):=by
 subst m n;unfold wa at h;refine gV.fn func346 fun e=>?_;have q:=St.start w0;refine T ?_;intro B G u C H x;refine gc h ?_ ?_<;>intro _ h
 · exact rt
 refine jw [2,3,14] fun e=>?_;refine gc h ?_ ?_<;>intro _ h
 · exact rt
 refine gc h ?_ ?_<;>intro _ h
 · exact rt
 refine T ?_;intro J A h I z;refine gc h ?_ ?_<;>intro _ h
 · exact rt
 exact rt
instance k_346:Ct prog 346:=⟨by kernel_rfl,@Kh⟩
theorem GU {w0 N B C r} (h:vK N B C=some r) {b i f} (k:i=B.length) (m:rb w0 b f B) {d j g} (l:j=C.length) (n:rb w0 d g C) :
    gV prog 291 #[vS b i f,vS d j g] w0 (fun v w=>v=.bool r∧St w0 [] w []):=by
 subst k l;unfold vK at h;refine gV.fn func291 fun e=>?_;have G:=St.start w0;refine gc h ?_ ?_<;>intro _ h
 · exact rt
 refine go ?_;obtain ⟨q,z,p⟩:=ob h;refine CW.mono (CW.lx [0,1] [] [] 0 (fun J=>[(5,vI J)]) (RT prog f291.results (fun u=>.bool u) w0 []) G z (hb:=?_)) ?_
 · intro J e ao o H h;refine gc h ?_ ?_<;>intro _ h
   · refine jK ?_;have Z:=H.drew;refine gb h fun ap I h=>?_;obtain ⟨am,an,K,rfl,M,ac,ad,rfl,R⟩:=m.idx I;refine go ?_;refine T ?_;have ⟨aj,A,h⟩:=ob h;obtain ⟨Y,ae,L,rfl,O,V,W,rfl,U⟩:=n.idx A;refine go ?_;refine T ?_;intro ak X h ah aa;refine gc h ?_ ?_<;>intro _ h
     · exact rt
     exact rt
   exact rt
 intro x e ai hM;rcases q with q | af
 · obtain ⟨rfl,hM⟩:=hM;obtain ⟨e,rfl,ab⟩:=eo hM;rw [show e=iq e [] from rfl];have h:=p;exact rt
 obtain ⟨rfl,u,rfl,hM⟩:=hM;cases p;exact And.intro trivial hM
instance k_291:Ct prog 291:=⟨by kernel_rfl,@GU⟩
theorem yK {w0} {F:List Nat} {N bB bE r} (h:rR N bB bE=some r) {L aL I} (aP:aL=bB.length) (hS:St w0 F w0 [sl L I bB]) :
    gV prog 191 #[vS L aL I,vI bE] w0 (fun v w=>v=vI r.1∧St w0 F w [sl L I r.2]):=by
 subst aP;unfold rR at h;refine gV.fn func191 fun e=>?_;refine go ?_;obtain ⟨b2,aS,a6⟩:=ob h;refine CW.ie aS 0 (fun n e wb=>En e [(0,vS L n.1.length I),(1,vI n.2.1),(5,vI n.2.2)]∧St w0 F wb [sl L I n.1]) ?_ ⟨⟨rfl,rfl,rfl,trivial⟩,hS.pk [0]⟩ ?_
 · intro n e cV o hM h;obtain ⟨e,rfl,aW⟩:=eo hM;refine gc h ?_ ?_<;>intro _ h
   · refine gb h fun cW a5 h=>?_;obtain ⟨bC,bD,hae,co,cp⟩:=aW.hZ (α:=gP) (i:=0) rfl a5;subst hae;refine go ?_;refine gb h fun cX k h=>?_;refine LW.se 0 aW 0 a5 k (hM:=(iU (fun w cs F hF=>by obtain ⟨q,A,x,B,z,C,rfl,hH⟩:=hF;exact ⟨q,A,x,B,z,C,rfl,hH⟩))) fun cC aX=>?_;refine gb h fun cM aC h=>?_;obtain ⟨ca,cq,hae,be,bo⟩:=aX.hZ (α:=gP) (i:=0) rfl aC;cases hae;(try refine LW.u (il.ix underlying41 mh rfl rfl be (by rw [gS (oi k)];exact bo)) rfl ?_);refine gb h fun bF d h=>?_;refine LW.se 1 aX 0 aC d (hM:=(iU (fun w cs F hF=>by obtain ⟨q,A,x,B,z,C,rfl,hH⟩:=hF;exact ⟨q,A,x,B,z,C,rfl,hH⟩))) fun cD aY=>?_;refine go ?_;have ⟨cN,aD,h⟩:=ob h;obtain ⟨cb,cr,hae,bf,bp⟩:=aY.hZ (α:=gP) (i:=0) rfl aD;cases hae;(try refine LW.u (il.ix underlying41 mh rfl rfl bf (by rw [show n.1.length=bF.length from ((gS (oi k)).trans (gS (oi d)))];exact bp)) rfl ?_);refine gb h fun bG f h=>?_;refine LW.se 2 aY 0 aD f (hM:=(iU (fun w cs F hF=>by obtain ⟨q,A,x,B,z,C,rfl,hH⟩:=hF;exact ⟨q,A,x,B,z,C,rfl,hH⟩))) fun cE aZ=>?_;refine gb h fun cO aE h=>?_;obtain ⟨cc,ct,hae,bg,bq⟩:=aZ.hZ (α:=gP) (i:=0) rfl aE;cases hae;(try refine LW.u (il.ix underlying41 mh rfl rfl bg (by rw [show n.1.length=bG.length from (((gS (oi k)).trans (gS (oi d))).trans (gS (oi f)))];exact bq)) rfl ?_);refine gb h fun bI g h=>?_;refine LW.se 3 aZ 0 aE g (hM:=(iU (fun w cs F hF=>by obtain ⟨q,A,x,B,z,C,rfl,hH⟩:=hF;exact ⟨q,A,x,B,z,C,rfl,hH⟩))) fun cF a0=>?_;refine gb h fun cP aF h=>?_;obtain ⟨ce,cu,hae,bi,br⟩:=a0.hZ (α:=gP) (i:=0) rfl aF;cases hae;(try refine LW.u (il.ix underlying41 mh rfl rfl bi (by rw [show n.1.length=bI.length from ((((gS (oi k)).trans (gS (oi d))).trans (gS (oi f))).trans (gS (oi g)))];exact br)) rfl ?_);refine gb h fun bJ m h=>?_;refine LW.se 4 a0 0 aF m (hM:=(iU (fun w cs F hF=>by obtain ⟨q,A,x,B,z,C,rfl,hH⟩:=hF;exact ⟨q,A,x,B,z,C,rfl,hH⟩))) fun cG a1=>?_;refine go ?_;have ⟨cQ,aG,h⟩:=ob h;obtain ⟨cf,cv,hae,bj,bs⟩:=a1.hZ (α:=gP) (i:=0) rfl aG;cases hae
     (try refine LW.u (il.ix underlying41 mh rfl rfl bj (by rw [show n.1.length=bJ.length from (((((gS (oi k)).trans (gS (oi d))).trans (gS (oi f))).trans (gS (oi g))).trans (gS (oi m)))];exact bs)) rfl ?_);refine gb h fun bK p h=>?_;refine LW.se 5 a1 0 aG p (hM:=(iU (fun w cs F hF=>by obtain ⟨q,A,x,B,z,C,rfl,hH⟩:=hF;exact ⟨q,A,x,B,z,C,rfl,hH⟩))) fun cH a2=>?_;refine gb h fun cR aH h=>?_;obtain ⟨cg,cw,hae,bk,bt⟩:=a2.hZ (α:=gP) (i:=0) rfl aH;cases hae;(try refine LW.u (il.ix underlying41 mh rfl rfl bk (by rw [show n.1.length=bK.length from ((((((gS (oi k)).trans (gS (oi d))).trans (gS (oi f))).trans (gS (oi g))).trans (gS (oi m))).trans (gS (oi p)))];exact bt)) rfl ?_);refine gb h fun bL H h=>?_;refine LW.se 6 a2 0 aH H (hM:=(iU (fun w cs F hF=>by obtain ⟨q,A,x,B,z,C,rfl,hH⟩:=hF;exact ⟨q,A,x,B,z,C,rfl,hH⟩))) fun cI a3=>?_;refine gb h fun cS aI h=>?_;obtain ⟨ci,cx,hae,bl,bu⟩:=a3.hZ (α:=gP) (i:=0) rfl aI;cases hae;(try refine LW.u (il.ix underlying41 mh rfl rfl bl (by rw [show n.1.length=bL.length from (((((((gS (oi k)).trans (gS (oi d))).trans (gS (oi f))).trans (gS (oi g))).trans (gS (oi m))).trans (gS (oi p))).trans (gS (oi H)))];exact bu)) rfl ?_);refine gb h fun bM J h=>?_;refine LW.se 7 a3 0 aI J (hM:=(iU (fun w cs F hF=>by obtain ⟨q,A,x,B,z,C,rfl,hH⟩:=hF;exact ⟨q,A,x,B,z,C,rfl,hH⟩))) fun cJ a4=>?_;refine go ?_;have ⟨cT,aJ,h⟩:=ob h;obtain ⟨cj,cy,hae,bm,bv⟩:=a4.hZ (α:=gP) (i:=0) rfl aJ;cases hae;(try refine LW.u (il.ix underlying41 mh rfl rfl bm (by rw [show n.1.length=bM.length from ((((((((gS (oi k)).trans (gS (oi d))).trans (gS (oi f))).trans (gS (oi g))).trans (gS (oi m))).trans (gS (oi p))).trans (gS (oi H))).trans (gS (oi J)))];exact bv)) rfl ?_);refine gb h fun bN K h=>?_;refine LW.se 8 a4 0 aJ K (hM:=(iU (fun w cs F hF=>by obtain ⟨q,A,x,B,z,C,rfl,hH⟩:=hF;exact ⟨q,A,x,B,z,C,rfl,hH⟩))) fun cK ax=>?_;refine go ?_;refine LW.u (il.rem rfl rfl (by decide)) rfl ?_;refine gb h fun cU aK h=>?_
     obtain ⟨ck,cz,hae,bn,bw⟩:=ax.hZ (α:=gP) (i:=0) rfl aK;cases hae;(try refine LW.u (il.ix underlying41 mh rfl rfl bn (by rw [show n.1.length=bN.length from (((((((((gS (oi k)).trans (gS (oi d))).trans (gS (oi f))).trans (gS (oi g))).trans (gS (oi m))).trans (gS (oi p))).trans (gS (oi H))).trans (gS (oi J))).trans (gS (oi K)))];exact bw)) rfl ?_);refine gb h fun af M h=>?_;refine LW.se 9 ax 0 aK M (hM:=(iU (fun w cs F hF=>by obtain ⟨q,A,x,B,z,C,rfl,hH⟩:=hF;exact ⟨q,A,x,B,z,C,rfl,hH⟩))) fun cL ay=>?_;refine gb h fun b am h=>?_;obtain ⟨cm,cA,hae,aj,ak⟩:=ay.hZ (α:=gP) (i:=0) rfl am;cases hae;(try refine LW.u (il.ix underlying41 mh rfl rfl aj (by rw [show n.1.length=af.length from ((((((((((gS (oi k)).trans (gS (oi d))).trans (gS (oi f))).trans (gS (oi g))).trans (gS (oi m))).trans (gS (oi p))).trans (gS (oi H))).trans (gS (oi J))).trans (gS (oi K))).trans (gS (oi M)))];exact ak)) rfl ?_);refine go ?_;obtain ⟨b9,aB,az⟩:=ay.freeze (α:=gP) 0 rfl;obtain ⟨cn,cB,b0,hae,bb,_,_,bc,bd⟩:=aB.ju.idx am;cases hae;obtain ⟨an,ao,O,U,R,V,rfl,b1,bP,bQ⟩:=bc;refine T ?_;have ⟨Z,aT,h⟩:=ob h;obtain ⟨b3,ac,W⟩:=lO aT;obtain ⟨au,W⟩:=iI W;rw [oi W] at ac au;have aQ:=fun (j:Nat) (u:Value) (hu:([vI b.Pw,vI b.Pf,vI b.box,vI b.Pu,vI b.iz,vI b.gE,vI b.Pq,vI b.iy,vI b.im,.bool b.Ps,vS an b.gZ.length ao,vS O b.Po.length U,vS R b.Pk.length V]:List Value)[j]?=some u)=>(World.cell?_of_block (az.zC 0 rfl bb)).trans (bd j u hu);have a7:=az.iD (α:=gP) 0 rfl aB;obtain ⟨bO,aR,aO⟩:=a7.focus (α:=gP) (cs:=[vI b.Pw,vI b.Pf,vI b.box,vI b.Pu,vI b.iz,vI b.gE,vI b.Pq,vI b.iy,vI b.im,.bool b.Ps,vS an b.gZ.length ao,vS O b.Po.length U,vS R b.Pk.length V]) 0 rfl am rfl aQ;obtain ⟨bU,bX,bV,bY,bW,bZ,aN,aM⟩:=aR;cases aN;have a8:=aO [sl an ao b.gZ,sl O U b.Po,sl R V b.Pk] aM;obtain ⟨bR,ap⟩:=a8.k4 [0] [1,2,3]
     refine LW.cl (mR ac rfl ap.st) ?_;rintro _ bz ⟨rfl,hs⟩;have ah:=ap.back _ _ hs;refine go ?_;(try refine LW.u (il.ix underlying41 mh rfl rfl aj (by rw [show n.1.length=af.length from ((((((((((gS (oi k)).trans (gS (oi d))).trans (gS (oi f))).trans (gS (oi g))).trans (gS (oi m))).trans (gS (oi p))).trans (gS (oi H))).trans (gS (oi J))).trans (gS (oi K))).trans (gS (oi M)))];exact ak)) rfl ?_);refine go ?_;refine LW.l (iZ.jz bz uF rfl (ah.pL 3 rfl (j:=11) rfl)) rfl rfl ?_;refine gb h fun aa aU h=>?_;obtain ⟨b4,ad,X⟩:=lO aU;obtain ⟨av,X⟩:=iI X;rw [oi X] at ad av;rw [show b.gZ.length=Z.2.length from au] at ah;obtain ⟨bS,aq⟩:=ah.k4 [1] [0,2,3];refine LW.cl (mR ad rfl aq.st) ?_;rintro _ bA ⟨rfl,hs⟩;have ai:=aq.back _ _ hs;refine go ?_;(try refine LW.u (il.ix underlying41 mh rfl rfl aj (by rw [show n.1.length=af.length from ((((((((((gS (oi k)).trans (gS (oi d))).trans (gS (oi f))).trans (gS (oi g))).trans (gS (oi m))).trans (gS (oi p))).trans (gS (oi H))).trans (gS (oi J))).trans (gS (oi K))).trans (gS (oi M)))];exact ak)) rfl ?_);refine go ?_;refine LW.l (iZ.jz bA qJ rfl (ai.pL 3 rfl (j:=12) rfl)) rfl rfl ?_;refine gb h fun ab aV h=>?_;obtain ⟨b5,ae,Y⟩:=lO aV;obtain ⟨aw,Y⟩:=iI Y;rw [oi Y] at ae aw;rw [show b.Po.length=aa.2.length from av] at ai;obtain ⟨bT,ar⟩:=ai.k4 [2] [0,1,3];refine LW.cl (zg ae rfl ar.st) ?_;rintro _ b6 ⟨rfl,hs⟩;have aA:=ar.back _ _ hs;refine go ?_;replace h:=oi h;subst h;rw [show b.Pk.length=ab.2.length from aw] at aA;have a9:=aA.m6 (gP.mk b.Pw b.Pf b.box b.Pu b.iz b.gE b.Pq b.iy b.im b.Ps Z.2 aa.2 ab.2) [2,1,0,3] 3 0 rfl rfl (fun w G hG=>⟨an,ao,O,U,R,V,rfl,hG⟩)
     exact ⟨rfl,⟨⟨(show (vS (some ⟨bC,bD,none⟩) n.1.length I:Value)=vS (some ⟨bC,bD,none⟩) ((af.set (n.2.2:Int).toNat (gP.mk b.Pw b.Pf b.box b.Pu b.iz b.gE b.Pq b.iy b.im b.Ps Z.2 aa.2 ab.2)).length) I by rw [show n.1.length=(af.set (n.2.2:Int).toNat (gP.mk b.Pw b.Pf b.box b.Pu b.iz b.gE b.Pq b.iy b.im b.Ps Z.2 aa.2 ab.2)).length from (((((((((((gS (oi k)).trans (gS (oi d))).trans (gS (oi f))).trans (gS (oi g))).trans (gS (oi m))).trans (gS (oi p))).trans (gS (oi H))).trans (gS (oi J))).trans (gS (oi K))).trans (gS (oi M))).trans (gS rfl))]),rfl,rfl,trivial⟩,a9.pk [0]⟩⟩
   exact rt
 rintro e b8 ⟨hE,ba⟩;obtain ⟨e,rfl⟩:=hE.out;have h:=a6;refine go ?_;replace h:=oi h;subst h;exact Ra ⟨rfl,ba.pk [0]⟩
instance k_191:Ct prog 191:=⟨by kernel_rfl,@yK⟩
theorem yS {w0 N n z r} (h:ru N n z=some r) {b f d} (g:f=n.length) (i:rb w0 b d n) :
    gV prog 195 #[vS b f d,vI z] w0 (fun v w=>v=vI r∧St w0 [] w []):=by
 subst g;unfold ru at h;refine gV.fn func195 fun e=>?_;have p:=St.start w0;refine go ?_;obtain ⟨k,l,j⟩:=ob h;refine CW.mono (CW.lx [0] [] [1] 0 (fun m=>[(1,vI m.1),(5,vI m.2)]) (RT prog f195.results (fun u=>vI u) w0 []) p l (hb:=?_)) ?_
 · intro m e aq o X h;refine gc h ?_ ?_<;>intro _ h
   · refine gb h fun ar q h=>?_;obtain ⟨ao,ap,W,rfl,A,ac,ad,⟨L,R,M,U,O,V,rfl,C,G,H⟩,B⟩:=i.idx q;refine go ?_;refine T ?_;refine CW.fl [0,1,5,18] fun e=>?_;refine gc h ?_ ?_<;>intro _ h
     · exact rt
     refine go ?_;refine T ?_;refine gc h ?_ ?_<;>intro _ h
     · exact rt
     refine go ?_;refine T ?_;refine CW.fl [0,1,5,36] fun e=>?_;refine gc h ?_ ?_<;>intro _ h
     · exact rt
     refine go ?_;refine T ?_;refine gc h ?_ ?_<;>intro _ h
     · exact rt
     refine go ?_;refine T ?_;refine CW.fl [0,1,5,54] fun e=>?_;refine gc h ?_ ?_<;>intro _ h
     · exact rt
     refine go ?_;refine T ?_;refine gc h ?_ ?_<;>intro _ h
     · exact rt
     refine go ?_;refine T ?_;refine CW.fl [0,1,5,72] fun e=>?_;refine gc h ?_ ?_<;>intro _ h
     · exact rt
     refine go ?_;refine T ?_;refine gc h ?_ ?_<;>intro _ h
     · exact rt
     refine go ?_;refine T ?_;refine CW.fl [0,1,5,90] fun e=>?_;refine gc h ?_ ?_<;>intro _ h
     · exact rt
     refine go ?_;refine T ?_;refine LW.u (il.rem rfl rfl (by decide)) rfl ?_;refine go ?_;refine LW.u (il.bne underlying4 rfl rfl) rfl ?_;refine gc h ?_ ?_<;>intro _ h
     · exact rt
     refine go ?_;refine T ?_;intro ak I h af Y;refine CW.fl [0,1,5,112] fun e=>?_;refine gc h ?_ ?_<;>intro _ h
     · exact rt
     refine go ?_;refine T ?_;intro am J h ah Z;refine gc h ?_ ?_<;>intro _ h
     · exact rt
     refine go ?_;refine T ?_;intro an K h ai aa;refine CW.fl [0,1,5,130] fun e=>?_;refine gc h ?_ ?_<;>intro _ h
     · exact rt
     exact rt
   exact rt
 intro x e aj hM;rcases k with k | ae
 · obtain ⟨rfl,hM⟩:=hM;obtain ⟨e,rfl,ab⟩:=eo hM;have h:=j;exact rt
 obtain ⟨rfl,u,rfl,hM⟩:=hM;cases j;exact And.intro trivial hM
instance k_195:Ct prog 195:=⟨by kernel_rfl,@yS⟩
theorem tN {w0 N B C r} (h:oS N B C=some r) {b i f} (k:i=B.length) (m:rb w0 b f B) {d j g} (l:j=C.length) (n:rb w0 d g C) :
    gV prog 33 #[vS b i f,vS d j g] w0 (fun v w=>v=.bool r∧St w0 [] w []):=by
 subst k l;unfold oS at h;refine gV.fn func33 fun e=>?_;have G:=St.start w0;refine gc h ?_ ?_<;>intro _ h
 · exact rt
 refine go ?_;obtain ⟨q,z,p⟩:=ob h;refine CW.mono (CW.lx [0,1] [] [] 0 (fun J=>[(5,vI J)]) (RT prog f33.results (fun u=>.bool u) w0 []) G z (hb:=?_)) ?_
 · intro J e ao o H h;refine gc h ?_ ?_<;>intro _ h
   · refine jK ?_;have Z:=H.drew;refine gb h fun ap I h=>?_;obtain ⟨am,an,K,rfl,M,ac,ad,rfl,R⟩:=m.idx I;refine go ?_;refine T ?_;have ⟨aj,A,h⟩:=ob h;obtain ⟨Y,ae,L,rfl,O,V,W,rfl,U⟩:=n.idx A;refine go ?_;refine T ?_;intro ak X h ah aa;refine gc h ?_ ?_<;>intro _ h
     · exact rt
     exact rt
   exact rt
 intro x e ai hM;rcases q with q | af
 · obtain ⟨rfl,hM⟩:=hM;obtain ⟨e,rfl,ab⟩:=eo hM;rw [show e=iq e [] from rfl];have h:=p;exact rt
 obtain ⟨rfl,u,rfl,hM⟩:=hM;cases p;exact And.intro trivial hM
instance k_33:Ct prog 33:=⟨by kernel_rfl,@tN⟩
theorem F5 {w0 N f g r} (h:qn N f g=some r) :
    gV prog 110 #[.agg #[vI f.Pf,vI f.Pc,vI f.ir,vI f.call.Pf,vI f.call.a,vI f.call.b,vI f.call.c,vI f.call.d,vI f.call.e],.agg #[vI g.Pf,vI g.Pc,vI g.ir,vI g.call.Pf,vI g.call.a,vI g.call.b,vI g.call.c,vI g.call.d,vI g.call.e]] w0 (fun v w=>v=.bool r∧St w0 [] w []):=by
 unfold qn at h;refine gV.fn func110 fun e=>?_;have i:=St.start w0;refine T ?_;intro n p j o q k;refine gc h ?_ ?_<;>intro _ h
 · exact rt
 refine jw [2,3,14] fun e=>?_;refine gc h ?_ ?_<;>intro _ h
 · exact rt
 refine gc h ?_ ?_<;>intro _ h
 · exact rt
 refine T ?_;intro x m h u l;refine gc h ?_ ?_<;>intro _ h
 · exact rt
 exact rt
instance k_110:Ct prog 110:=⟨by kernel_rfl,@F5⟩
end Go.Kx
