import Derived.Test.YtdlodpchnaojhaaGreatWa9
namespace Go.Kx
open Go Go.RowKit Go.Proofs
open Tryz
set_option maxRecDepth 10000
set_option maxHeartbeats 8000000
set_option linter.unusedVariables false
set_option linter.unusedSimpArgs false
theorem El {w0 N z R U r} (h:so N z R U=some r) {b f d} (g:f=z.length) (i:rb w0 b d z) :
    gV prog 121 #[vS b f d,vI R,vI U] w0 (fun v w=>v=vI r∧St w0 [] w []):=by
 subst g;unfold so at h;refine gV.fn func121 fun e=>?_;have G:=St.start w0;refine go ?_;obtain ⟨l,q,k⟩:=ob h;refine CW.mono (CW.lx [1,2,11,12] [] [7,8] 0 (fun j=>[(7,vI j.1),(8,vI j.2.1),(13,vI j.2.2)]) (RT prog f121.results (fun u=>vI u) w0 []) G q (hb:=?_)) ?_
 · intro j e ak o H h;refine gc h ?_ ?_<;>intro _ h
   · refine gb h fun am K h=>?_;obtain ⟨ai,aj,X,rfl,V,aa,ab,rfl,W⟩:=i.idx K;refine go ?_;refine T ?_;refine CW.fl [1,2,7,8,10,11,12,13,18] fun e=>?_;refine gc h ?_ ?_<;>intro _ h
     · exact rt
     refine gc h ?_ ?_<;>intro _ h
     · exact rt
     refine gs ?_;obtain ⟨L,m,A⟩:=ob h;refine CW.jn [1,2,7,8,10,11,12,13] [] [(29,.bool L)] H (h1:=?_) (h2:=?_)
     · have h:=m;refine gB h ?_ ?_<;>intro _ h
       · exact rt
       exact rt
     intro e ad I;have h:=A;refine gs ?_;obtain ⟨M,n,B⟩:=ob h;refine CW.jn [1,2,8,10,11,12,13] [] [(7,vI M)] I (h1:=?_) (h2:=?_)
     · have h:=n;refine gc h ?_ ?_<;>intro _ h
       · exact rt
       exact rt
     intro e ae J;have h:=B;refine gs ?_;obtain ⟨O,p,C⟩:=ob h;refine CW.jn [1,2,7,8,10,11,12,13] [] [(42,.bool O)] J (h1:=?_) (h2:=?_)
     · have h:=p;refine gB h ?_ ?_<;>intro _ h
       · refine gB h ?_ ?_<;>intro _ h
         · exact rt
         exact rt
       exact rt
     intro e af Y;have h:=C;refine gc h ?_ ?_<;>intro _ h
     · exact rt
     exact rt
   exact rt
 intro x e ah hM;rcases l with l | ac
 · obtain ⟨rfl,hM⟩:=hM;obtain ⟨e,rfl,Z⟩:=eo hM;have h:=k;refine gc h ?_ ?_<;>intro _ h
   · exact rt
   exact rt
 obtain ⟨rfl,u,rfl,hM⟩:=hM;cases k;exact And.intro trivial hM
instance k_121:Ct prog 121:=⟨by kernel_rfl,@El⟩
theorem Cc {w0 N p r} (h:nO N p=some r) {k n l} (q:n=p.length) (u:rb w0 k l p) :
    gV prog 204 #[vS k n l] w0 (fun v w=>∃ z B,v=vS z r.length B∧St w0 [] w [sl z B r]):=by
 subst q;unfold nO at h;refine gV.fn func204 fun e=>?_;have K:=St.start w0;refine go ?_;refine LW.b0 (α:=iy) K ?_;intro X Y aB O hf;refine go ?_;obtain ⟨ar,H,J⟩:=ob h;refine CW.ie H 0 (fun m e wb=>∃ (b:Ad) (d:Nat),En e [(3,vS b m.1.length d),(7,vS k p.length l),(8,vI (p.length:Int)),(9,vI m.2)]∧St w0 [] wb [sl b d m.1]) ?_ ⟨X,Y,O.po [0]⟩ ?_
 · intro m e aC o hM h;obtain ⟨b,d,hE,ai⟩:=hM;obtain ⟨e,rfl⟩:=hE.out;refine gc h ?_ ?_<;>intro _ h
   · refine gb h fun W V h=>?_;obtain ⟨af,aq,Z,rfl,aa,ao,ap,⟨x,A,rfl,ac⟩,ab⟩:=u.idx V;refine go ?_;refine T ?_;intro C av aj aw ak j ad h f g ax R;refine LW.bd [(0,vS f j.length g)] #[vS f j.length g] ?_;have U:=R.pk (M:=[sl f g j]++[bx C 153 [vS x W.Oh.length A],sl b d m.1]) [0,1,2];have ⟨aA,I,h⟩:=ob h;refine LW.j6 (M:=[sl f g j]) (L:=[bx C 153 [vS x W.Oh.length A],sl b d m.1]) (vs:=#[vS f j.length g]) (i:=1) J7 rfl (by kernel_rfl) rfl rfl I U rfl (fun w G hG=>⟨f,g,rfl,hG⟩) rfl rfl ?_;intro au ae ah ay am hf;exact rt
   exact rt
 rintro e az ⟨b,d,hE,an⟩;obtain ⟨e,rfl⟩:=hE.out;have h:=J;exact rt
instance k_204:Ct prog 204:=⟨by kernel_rfl,@Cc⟩
theorem E5 {w0 N b d r} (h:sx N b d=some r) :
    gV prog 205 #[.agg #[vI b.Od,vI b.jI,vI b.mN,vI b.kc,vI b.N0,vI b.kK],.agg #[vI d.gE,vI d.gT,vI d.g8]] w0 (fun v w=>v=vI r∧St w0 [] w []):=by
 unfold sx at h;refine gV.fn func205 fun e=>?_;have m:=St.start w0;refine T ?_;intro I K n J L f;obtain ⟨l,g,i⟩:=ob h;refine CW.jn [2,3] [0,1] [(13,.bool l)] f (h1:=?_) (h2:=?_)
 · have h:=g;refine T ?_;intro O z h M o;refine bH h ?_ ?_<;>intro _ h
   · exact rt
   refine T ?_;intro G j h A p;exact rt
 intro e B q;have h:=i;refine gc h ?_ ?_<;>intro _ h
 · exact rt
 refine T ?_;intro H k h C x;refine gc h ?_ ?_<;>intro _ h
 · refine go ?_;refine LW.u (iq.min rfl rfl) rfl ?_;exact rt
 refine go ?_;refine LW.u (iq.quo rfl rfl (by decide)) rfl ?_;exact rt
instance k_205:Ct prog 205:=⟨by kernel_rfl,@E5⟩
theorem Cx {w0 N aX Y r} (h:pQ N aX Y=some r) {aa ap ac} (aB:ap=aX.length) (X:rb w0 aa ac aX) :
    gV prog 290 #[vS aa ap ac,vI Y] w0 (fun v w=>∃ aG aH,v=.tuple #[vS aG r.1.length aH,.bool r.2]∧St w0 [] w [sl aG aH r.1]):=by
 subst aB;unfold pQ at h;refine gV.fn func290 fun e=>?_;have cL:=St.start w0;refine T ?_;intro Z cO h c6 n c7 a0;obtain ⟨b5,a6,bz⟩:=ob h;refine CW.jn [0,1,6] [0] [(27,.bool b5)] a0 (h1:=?_) (h2:=?_)
 · have h:=a6;refine T ?_;intro c9 cP h c8 cM;refine bH h ?_ ?_<;>intro _ h
   · exact rt
   refine T ?_;intro c2 b4 h cW cN;refine bH h ?_ ?_<;>intro _ h
   · exact rt
   refine gb h fun c4 aU h=>?_;obtain ⟨cw,cQ,bu,rfl,bE,bL,bQ,⟨cm,cC,cn,cD,co,cE,rfl,bV,bW,bX⟩,bI⟩:=X.idx aU;refine go ?_;refine T ?_;exact rt
 intro e cX aI;have h:=bz;refine gc h ?_ ?_<;>intro _ h
 · exact rt
 refine gb h fun ar aV h=>?_;obtain ⟨cx,cR,bv,rfl,bF,bM,bR,⟨cp,cF,cq,cG,cr,cH,rfl,bY,bZ,b0⟩,bJ⟩:=X.idx aV;refine go ?_;refine T ?_;refine LW.bd [(0,vI ar.Oe)] #[vI ar.Oe,vI 0,vI 0,vI 0,vI 0,vI 0,vI 0,vI 0,vI 0,.bool false,vS none 0 0,vS none 0 0,vS none 0 0] ?_;have ⟨a7,am,h⟩:=ob h;obtain ⟨f,d,hae,bN,bS⟩:=aI.hZ (α:=gP) (i:=0) rfl am;subst hae;refine go ?_;have a1:=aI.nil (α:=Int);have a3:=a1.nil (α:=Int);have a4:=a3.nil (α:=iS);have a5:=a4.pk (M:=[sl none 0 [],sl none 0 [],sl none 0 []]++[sl (some ⟨f,d,none⟩) n Z]) [2,1,0,3];have ⟨a8,an,h⟩:=ob h;refine LW.uE (M:=[sl none 0 [],sl none 0 [],sl none 0 []]) (L:=[sl (some ⟨f,d,none⟩) n Z]) (z:=a7) (z':=(gP.mk ar.Oe 0 0 0 0 0 0 0 0 false [] [] [])) (o:=0) a5 (i:=0) rfl am ud rfl (by show _=d+(Y:Int).toNat * 13+0;omega) rfl rfl rfl rfl (whole (fun w G hG=>⟨none,0,none,0,none,0,rfl,hG⟩)) ?_;intro cY ad hf;rw [oi an] at ad;refine go ?_;obtain ⟨b7,aF,aK⟩:=ob h;refine CW.ie aF 0 (fun k e wb=>En e [(1,vI Y),(6,vS (some ⟨f,d,none⟩) k.1.length n),(39,vI (Z.length:Int)),(40,vI k.2)]∧St w0 [] wb [sl (some ⟨f,d,none⟩) n k.1]) ?_ ⟨⟨rfl,(show (vS (some ⟨f,d,none⟩) Z.length n:Value)=vS (some ⟨f,d,none⟩) a8.length n by rw [gZ (oi an)]),rfl,rfl,trivial⟩,ad.pk [0]⟩ ?_
 · intro k e cZ o hM h;obtain ⟨e,rfl,ae⟩:=eo hM;refine jE [1,6,39,40,41] fun e=>?_;refine gc h ?_ ?_<;>intro _ h
   · refine gb h fun c5 U h=>?_;obtain ⟨cy,cS,hae,bO,bT⟩:=ae.hZ (α:=gP) (i:=0) rfl U;cases hae;refine go ?_;obtain ⟨ck,I,O⟩:=ae.freeze (α:=gP) 0 rfl;obtain ⟨cz,cT,bw,hae,bG,_,_,aS,bK⟩:=I.jk.idx U;cases hae;obtain ⟨ct,cI,cu,cJ,cv,cK,rfl,b1,b2,b3⟩:=aS;refine T ?_;refine gc h ?_ ?_<;>intro _ h
     · refine go ?_;have bA:=O.iz (α:=gP) 0 rfl I;exact rt
     refine go ?_;refine T ?_;obtain ⟨C,aT,aZ⟩:=ob h;refine CW.cut (fun e wb=>En e [(1,vI Y),(6,vS (some ⟨f,d,none⟩) C.length n),(7,vI k.2),(39,vI (Z.length:Int)),(40,vI k.2)]∧St w0 [] wb [sl (some ⟨f,d,none⟩) n C]) ?_ ?_
     · have h:=aT;refine CW.fl [1,6,7,39,40,55] fun e=>?_;refine gc h ?_ ?_<;>intro _ h
       · refine go ?_;have aL:=O.iz (α:=gP) 0 rfl I;have ⟨a9,ao,h⟩:=ob h;refine LW.se 2 aL 0 U ao (hM:=(je (fun w cs F hF=>by obtain ⟨b8,cb,b9,cc,ca,ce,rfl,hH⟩:=hF;exact ⟨b8,cb,b9,cc,ca,ce,rfl,hH⟩))) fun c0 aM=>?_;refine go ?_;replace h:=oi h;subst h;exact ⟨⟨rfl,(show (vS (some ⟨f,d,none⟩) k.1.length n:Value)=vS (some ⟨f,d,none⟩) a9.length n by rw [gZ (oi ao)]),rfl,rfl,rfl,trivial⟩,aM.pk [0]⟩
       refine go ?_;have bB:=O.iz (α:=gP) 0 rfl I;exact rt
     rintro e c1 ⟨hE,af⟩;obtain ⟨e,rfl⟩:=hE.out;have h:=aZ;refine gb h fun b V h=>?_;obtain ⟨cA,cU,hae,bP,bU⟩:=af.hZ (α:=gP) (i:=0) rfl V;cases hae;refine go ?_;obtain ⟨cl,ak,ah⟩:=af.freeze (α:=gP) 0 rfl;obtain ⟨cB,cV,bb,hae,av,_,_,ax,aA⟩:=ak.jk.idx V;cases hae;obtain ⟨m,g,p,x,q,A,rfl,bj,bk,bl⟩:=ax;refine T ?_;refine go ?_;have aC:=fun (j:Nat) (u:Value) (hu:((qO m g p x q A b):List Value)[j]?=some u)=>(World.cell?_of_block (ah.zC 0 rfl av)).trans (aA j u hu);have aN:=ah.iz (α:=gP) 0 rfl ak;obtain ⟨ba,aD,az⟩:=aN.focus (α:=gP) (cs:=[vI b.Oe,vI b.N0,vI b.box,vI b.Od,vI b.iw,vI b.gE,vI b.N9,vI b.iv,vI b.iu,.bool b.Ob,vS m b.gX.length g,vS p b.N8.length x,vS q b.N4.length A]) 0 rfl V rfl aC;obtain ⟨bn,br,bo,bs,bp,bt,aw,au⟩:=aD;cases aw;have aO:=az [sl m g b.gX,sl p x b.N8,sl q A b.N4] au;obtain ⟨W,aE,aJ⟩:=ob h;refine CW.ie aE 2 (fun B e wb=>En e [(1,vI Y),(6,vS (some ⟨f,d,none⟩) C.length n),(7,vI k.2),(39,vI (Z.length:Int)),(40,vI k.2),(64,vS m B.1.length g),(65,vI (b.gX.length:Int)),(66,vI B.2)]∧St w0 [] wb [sl m g B.1,sl p x b.N8,sl q A b.N4,hole gP (some ⟨f,d,none⟩) n C (k.2:Int).toNat [vI b.Oe,vI b.N0,vI b.box,vI b.Od,vI b.iw,vI b.gE,vI b.N9,vI b.iv,vI b.iu,.bool b.Ob,vS m B.1.length g,vS p b.N8.length x,vS q b.N4.length A]]) ?_ (aO.po [0,1,2,3]) ?_
     · intro B e aW o hM h;obtain ⟨e,rfl,ai⟩:=eo hM;refine gc h ?_ ?_<;>intro _ h
       · refine gb h fun cj J h=>?_;obtain ⟨ab,aq,hae,bg,bi⟩:=ai.hZ (α:=Int) (i:=0) rfl J;subst hae;refine go ?_;obtain ⟨bm,H,R⟩:=ai.freeze (α:=Int) 0 rfl;obtain ⟨bq,b6,bc,hae,be,_,_,ay,bf⟩:=H.jk.idx J;cases hae;obtain rfl:=ay;refine T ?_;refine CW.fl [1,6,7,8,39,40,64,65,66,73] fun e=>?_;refine gc h ?_ ?_<;>intro _ h
         · refine go ?_;refine LW.l (jf.jX aW zI rfl (R.v7 3 rfl (j:=10) rfl)) rfl rfl ?_;refine go ?_;have aP:=R.iz (α:=Int) 0 rfl H;have ⟨aY,K,h⟩:=ob h;refine LW.se 0 aP 0 J K (hM:=td) fun cf aj=>?_;refine go ?_;replace h:=oi h;subst h;rw [gZ (oi K)] at aj;exact ⟨rfl,⟨⟨rfl,rfl,rfl,rfl,rfl,(show (vS (some ⟨ab,aq,none⟩) B.1.length g:Value)=vS (some ⟨ab,aq,none⟩) aY.length g by rw [gZ (oi K)]),rfl,rfl,trivial⟩,aj.pk [0,1,2,3]⟩⟩
         refine go ?_;have bC:=R.iz (α:=Int) 0 rfl H;exact rt
       exact rt
     rintro e cg ⟨hE,aQ⟩;obtain ⟨e,rfl⟩:=hE.out;have h:=aJ;refine go ?_;replace h:=oi h;subst h;have aR:=aQ.nC (gP.mk b.Oe b.N0 b.box b.Od b.iw b.gE b.N9 b.iv b.iu b.Ob W.1 b.N8 b.N4) [0,1,2,3] 3 0 rfl rfl (fun w G hG=>⟨m,g,p,x,q,A,rfl,hG⟩);exact ⟨rfl,⟨⟨rfl,(show (vS (some ⟨f,d,none⟩) C.length n:Value)=vS (some ⟨f,d,none⟩) ((C.set (k.2:Int).toNat (gP.mk b.Oe b.N0 b.box b.Od b.iw b.gE b.N9 b.iv b.iu b.Ob W.1 b.N8 b.N4)).length) n by rw [show C.length=(C.set (k.2:Int).toNat (gP.mk b.Oe b.N0 b.box b.Od b.iw b.gE b.N9 b.iv b.iu b.Ob W.1 b.N8 b.N4)).length from (gZ rfl)]),rfl,rfl,trivial⟩,aR.pk [0]⟩⟩
   exact rt
 rintro e ci ⟨hE,bD⟩;obtain ⟨e,rfl⟩:=hE.out;have h:=aK;exact rt
instance k_290:Ct prog 290:=⟨by kernel_rfl,@Cx⟩
theorem Cd {w0} {F:List Nat} {N b aw r} (h:pN N b aw=some r) {z K A} (R:K=b.ag.length) {j L k} (U:L=b.gc.gQ.length) (hS:St w0 F w0 [sl z A b.ag,sl j k b.gc.gQ]) :
    gV prog 211 #[.agg #[vS z K A,vI b.gc.N2,vI b.gc.Oa,vI b.gc.N3,vS j L k],vI aw] w0 (fun v w=>∃ n p, ∃ o q,v=.tuple #[.agg #[vS n r.1.ag.length p,vI r.1.gc.N2,vI r.1.gc.Oa,vI r.1.gc.N3,vS o r.1.gc.gQ.length q],vI r.2]∧St w0 F w [sl n p r.1.ag,sl o q r.1.gc.gQ]):=by
 subst R U;unfold pN at h;refine gV.fn func211 fun e=>?_;refine T ?_;intro M bv aX O bw X;have ⟨bz,H,h⟩:=ob h;obtain ⟨bt,bu,hae,a3,a4⟩:=X.hZ (α:=gP) (i:=2) rfl H;subst hae;refine go ?_;obtain ⟨aL,C,aY⟩:=X.freeze (α:=gP) 2 rfl;obtain ⟨aQ,a5,ax,hae,aC,_,_,ac,aD⟩:=C.jk.idx H;cases hae;obtain ⟨aM,aS,aN,aT,aO,aU,rfl,aG,aH,aI⟩:=ac;refine T ?_;intro aW a7 aZ a8 ar;obtain ⟨av,ad,ao⟩:=ob h;refine CW.jn [2,4,6,8] [1,2,3,4] [(33,.bool av)] ar (h1:=?_) (h2:=?_)
 · have h:=ad;refine gB h ?_ ?_<;>intro _ h
   · refine go ?_;refine bH h ?_ ?_<;>intro _ h
     · refine T ?_;intro bo aJ h a9 a0;refine bH h ?_ ?_<;>intro _ h
       · exact rt
       exact rt
     exact rt
   exact rt
 intro e ba au;have h:=ao;refine gs ?_;obtain ⟨x,ae,ap⟩:=ob h;refine CW.cut (fun e wb=>∃ (d:Ad) (f:Nat),En e [(2,.pointer (some ⟨M,0,none⟩)),(4,.pointer (some ⟨O,0,none⟩)),(8,vI x.1)]∧St w0 F wb [bx O 40 [vS none 0 0,vI 0,vI 0,vI 0,vS none 0 0],bx M 40 [vS d x.2.length f,vI b.gc.N2,vI b.gc.Oa,vI b.gc.N3,vS j b.gc.gQ.length k],sl j k b.gc.gQ,sl d f x.2]) ?_ ?_
 · have h:=ae;refine CW.fl [2,4,6,8,33] fun e=>?_;refine gc h ?_ ?_<;>intro _ h
   · refine T ?_;intro bp aK h aP aV bb a1 bc a2;exact rt
   refine go ?_;have Y:=au.iz (α:=gP) 2 rfl C;have ⟨bq,G,h⟩:=ob h;refine LW.se 9 Y 2 H G (hM:=(je (fun w cs F hF=>by obtain ⟨ah,ak,ai,am,aj,an,rfl,hH⟩:=hF;exact ⟨ah,ak,ai,am,aj,an,rfl,hH⟩))) fun be Z=>?_;refine go ?_;rw [gZ (oi G)] at Z;exact rt
 rintro e bf ⟨d,f,hE,ay⟩;obtain ⟨e,rfl⟩:=hE.out;have h:=ap;refine T ?_;intro bg aa;obtain ⟨g,af,aq⟩:=ob h;refine CW.cut (fun e wb=>∃ (l:Ad) (m:Nat),En e [(2,.pointer (some ⟨M,0,none⟩)),(4,.pointer (some ⟨O,0,none⟩)),(8,vI x.1)]∧St w0 F wb [bx O 40 [vS none 0 0,vI 0,vI 0,vI 0,vS none 0 0],bx M 40 [vS d g.1.length f,vI g.2.1,vI g.2.2.1,vI g.2.2.2.1,vS l g.2.2.2.2.length m],sl d f g.1,sl l m g.2.2.2.2]) ?_ ?_
 · have h:=af;refine CW.fl [2,4,8,57] fun e=>?_;refine gc h ?_ ?_<;>intro _ h
   · refine go ?_;refine LW.u (iq.min rfl rfl) rfl ?_;refine LW.bi [0] aa ?_;intro V W bj az hf;refine LW.bd [(2,vI (if 1000000<IntKind.i64.wrap (b.gc.N3+1) then 1000000 else IntKind.i64.wrap (b.gc.N3+1))),(3,vS V (([0]:List Int).length) W)] #[vI 0,vI 0,vI (if 1000000<IntKind.i64.wrap (b.gc.N3+1) then 1000000 else IntKind.i64.wrap (b.gc.N3+1)),vS V (([0]:List Int).length) W] ?_;refine T ?_;intro bk B;have ⟨br,I,h⟩:=ob h;obtain ⟨aR,a6,hae,aE,aF⟩:=B.hZ (α:=gP) (i:=4) rfl I;subst hae;refine go ?_;refine gb h fun bs J h=>?_;refine LW.se 9 B 4 I J (hM:=(je (fun w cs F hF=>by obtain ⟨ah,ak,ai,am,aj,an,rfl,hH⟩:=hF;exact ⟨ah,ak,ai,am,aj,an,rfl,hH⟩))) fun bl ab=>?_;refine go ?_;rw [gZ (oi J)] at ab;exact rt
   exact rt
 rintro e bm ⟨l,m,hE,aA⟩;obtain ⟨e,rfl⟩:=hE.out;have h:=aq;refine go ?_;refine T ?_;intro bn aB;exact rt
instance k_211:Ct prog 211:=⟨by kernel_rfl,@Cd⟩
theorem ES {w0 N aJ aK d r} (h:sj N aJ aK d=some r) {V ac W} (ak:ac=aJ.length) (k:rb w0 V W aJ) :
    gV prog 114 #[vS V ac W,vI aK,.agg #[vI d.Od,vI d.jI,vI d.mN,vI d.kc,vI d.N0,vI d.kK]] w0 (fun v w=>∃ m n,v=.tuple #[vS m r.1.length n,vI r.2]∧St w0 [] w [sl m n r.1]):=by
 subst ak;unfold sj at h;refine gV.fn func114 fun e=>?_;have ck:=St.start w0;refine T ?_;intro ai cP cl am cr h af ah cQ aN;refine go ?_;obtain ⟨ap,aD,an⟩:=ob h;refine CW.mono (CW.lx [0,1,5,8,18,19] [0,1] [0,1,5,8] 0 (fun aP=>[(20,vI aP)]) (fun r x e wb=>x=.ret∧∃ u,u=r∧∃ v,kt prog f114.results e wb v∧∃ m n,v=.tuple #[vS m u.1.length n,vI u.2]∧St w0 [] wb [sl m n u.1]) aN aD (hb:=?_)) ?_
 · intro aP e cR o cm h;refine gc h ?_ ?_<;>intro _ h
   · refine gb h fun cH aF h=>?_;obtain ⟨b8,cs,a5,rfl,bk,bv,bC,⟨b3,ce,rfl,bI⟩,bq⟩:=k.idx aF;refine go ?_;refine T ?_;intro cj cx cn cy co cI bL h cz cp;refine CW.fl [0,1,5,8,18,19,20,27] fun e=>?_;refine gc h ?_ ?_<;>intro _ h
     · exact rt
     exact rt
   exact rt
 intro x e cA hM;rcases ap with ap | bT
 · obtain ⟨rfl,hM⟩:=hM;obtain ⟨e,rfl,ao⟩:=eo hM;have h:=an;refine gs ?_;obtain ⟨aO,aC,aM⟩:=ob h;refine CW.jn [0,1,5,8] [0,1] [(63,.bool aO)] ao (h1:=?_) (h2:=?_)
   · have h:=aC;refine dW ?_;have cq:=ao.drew;refine gB h ?_ ?_<;>intro _ h
     · exact rt
     refine T ?_;intro cJ bM h cB ba;refine bH h ?_ ?_<;>intro _ h
     · exact rt
     refine T ?_;intro cK bN h cC bb;refine bH h ?_ ?_<;>intro _ h
     · exact rt
     refine gB h ?_ ?_<;>intro bp h
     · exact rt
     refine gb h fun cL aG h=>?_;obtain ⟨b9,ct,a6,rfl,bl,bw,bD,⟨b4,cf,rfl,bJ⟩,br⟩:=k.idx aG;refine go ?_;refine T ?_;intro cM bO h cD bc;exact rt
   intro e cE ar;have h:=aM;refine gc h ?_ ?_<;>intro _ h
   · exact rt
   refine jA ?_;have bd:=ar.drew;refine gb h fun cN aH h=>?_;obtain ⟨ca,cu,a7,rfl,bm,bz,bE,⟨b5,cg,rfl,aE⟩,bs⟩:=k.idx aH;refine go ?_;refine T ?_;have ⟨cO,aI,h⟩:=ob h;obtain ⟨cb,cv,a8,rfl,bn,bA,bF,rfl,bt⟩:=aE.idx aI;refine go ?_;refine T ?_;intro aq bP h cF be U bQ h b6 j cG au;refine dW ?_;have X:=au.drew;refine gb h fun aQ C h=>?_;obtain ⟨g,b,hae,bB,bG⟩:=X.hZ (α:=iy) (i:=0) rfl C;subst hae;refine go ?_;obtain ⟨b2,ab,bf⟩:=X.freeze (α:=iy) 0 rfl;obtain ⟨cc,cw,a9,hae,bo,_,_,aB,bu⟩:=ab.jk.idx C;cases hae;obtain ⟨b7,ci,rfl,bK⟩:=aB;refine T ?_;intro b0 aV h bU bg H aW h p A bV av;refine CW.fl [1,5,8,11,12,13,95] fun e=>?_;refine gc h ?_ ?_<;>intro _ h
   · exact rt
   refine go ?_;have aw:=av.iz (α:=iy) 1 rfl ab;have ax:=aw.pk (M:=[sl p A H.1]++[sl (some ⟨g,b,none⟩) j U,sl af ah am,bx ai 155 (qT d)]) [0,1,2,3];have ⟨ad,f,h⟩:=ob h;refine LW.uE (M:=[sl p A H.1]) (L:=[sl (some ⟨g,b,none⟩) j U,sl af ah am,bx ai 155 (qT d)]) (z:=aQ) (z':=(iy.mk H.1)) (o:=0) ax (i:=0) rfl C xW rfl (by show _=b+(aK:Int).toNat * 1+0;omega) rfl rfl rfl rfl (whole (fun w G hG=>⟨p,A,rfl,hG⟩)) ?_;intro bW Y hf;rw [oi f] at Y;refine jA ?_;have Z:=Y.drew;refine gb h fun aL l h=>?_;obtain ⟨a1,bR,hae,K,O⟩:=Z.hZ (α:=iy) (i:=0) rfl l;cases hae;(try refine AW.ux (i:=3) (by decide +kernel) rfl (by kernel_rfl) rfl rfl (iq.ix underlying151 yM rfl rfl K (by rw [gZ (oi f)];exact O)) ?_);refine go ?_;obtain ⟨aZ,J,bi⟩:=Z.freeze (α:=iy) 0 rfl;obtain ⟨a2,bS,aR,hae,aS,_,_,aj,aT⟩:=J.jk.idx l;cases hae;obtain ⟨a0,a3,rfl,aU⟩:=aj;refine T ?_;intro b1 aX h bX bj I aY h q B bY ay;refine gc h ?_ ?_<;>intro _ h
   · exact rt
   refine go ?_;(try refine LW.u (iq.ix underlying151 yM rfl rfl K (by rw [gZ (oi f)];exact O)) rfl ?_);refine go ?_;have az:=ay.iz (α:=iy) 1 rfl J;have aA:=az.pk (M:=[sl q B I.1]++[sl (some ⟨g,b,none⟩) j ad,sl af ah am,bx ai 155 (qT d)]) [0,1,2,3];have ⟨ae,R,h⟩:=ob h;refine LW.uE (M:=[sl q B I.1]) (L:=[sl (some ⟨g,b,none⟩) j ad,sl af ah am,bx ai 155 (qT d)]) (z:=aL) (z':=(iy.mk I.1)) (o:=0) aA (i:=0) rfl l xW rfl (by show _=b+(d.jI:Int).toNat * 1+0;omega) rfl rfl rfl rfl (whole (fun w G hG=>⟨q,B,rfl,hG⟩)) ?_;intro bZ aa hf;rw [oi R] at aa;refine go ?_;replace h:=oi h;subst h;exact Rc tt tt ⟨(some ⟨g,b,none⟩),j,(show (.tuple #[vS (some ⟨g,b,none⟩) U.length j,vI aq]:Value)=.tuple #[vS (some ⟨g,b,none⟩) ae.length j,vI aq] by rw [show U.length=ae.length from ((gZ (oi f)).trans (gZ (oi R)))]),aa.pk [0]⟩
 obtain ⟨rfl,u,rfl,hM⟩:=hM;cases an;exact And.intro trivial hM
instance k_114:Ct prog 114:=⟨by kernel_rfl,@ES⟩
theorem De {w0 N d bl bm r} (h:rj N d bl bm=some r) {z aG H} (aQ:aG=d.NZ.NY.length) (ap:rb w0 z H d.NZ.NY) {A aH I} (aR:aH=d.own.length) (aq:rb w0 A I d.own) {B aI J} (aS:aI=d.N1.length) (ar:rb w0 B J d.N1) {n aJ p} (aT:aJ=d.py.ag.length) (k:rb w0 n p d.py.ag) {C aK K} (aU:aK=d.py.gc.gQ.length) (au:rb w0 C K d.py.gc.gQ) {G aL L} (aV:aL=d.gR.length) (av:rb w0 G L d.gR) :
    gV prog 54 #[.agg #[vS z aG H,vS A aH I,vS B aI J,vS n aJ p,vI d.py.gc.N2,vI d.py.gc.Oa,vI d.py.gc.N3,vS C aK K,vS G aL L,vI d.N6,vI d.N7,vI d.bh.gE,vI d.bh.gT,vI d.bh.g8,vI d.gW,vI d.N5],vI bl,vI bm] w0 (fun v w=>∃ X ai, ∃ Y aj, ∃ Z ak, ∃ aa am, ∃ ab an, ∃ ac ao,v=.agg #[vS X r.NZ.NY.length ai,vS Y r.own.length aj,vS Z r.N1.length ak,vS aa r.py.ag.length am,vI r.py.gc.N2,vI r.py.gc.Oa,vI r.py.gc.N3,vS ab r.py.gc.gQ.length an,vS ac r.gR.length ao,vI r.N6,vI r.N7,vI r.bh.gE,vI r.bh.gT,vI r.bh.g8,vI r.gW,vI r.N5]∧St w0 [] w [sl X ai r.NZ.NY,sl Y aj r.own,sl Z ak r.N1,sl aa am r.py.ag,sl ab an r.py.gc.gQ,sl ac ao r.gR]):=by
 subst aQ aR aS aT aU aV;unfold rj at h;refine gV.fn func54 fun e=>?_;have bs:=St.start w0;refine tK bs fun bn cq bt=>?_;refine LW.al bt fun bo cr m=>?_;refine gb h fun f bz h=>?_;refine LW.cl (yd bz rfl (m.rB ap) rfl (m.rB aq) rfl (m.rB ar) rfl (m.rB k) rfl (m.rB au) rfl (m.rB av)) ?_;rintro _ b0 ⟨aM,aO,aN,aP,R,ad,U,ae,V,af,W,ah,rfl,hs⟩;have bu:=m.add hs;refine LW.al bu fun aW b1 bv=>?_;refine LW.st bv 0 fun b2 g=>?_;refine gs ?_;obtain ⟨bA,a2,bp⟩:=ob h;refine CW.jn [1,2,3,6,7] [0,1,2,3,4,5,6,7,8] [(19,.bool bA)] g (h1:=?_) (h2:=?_)
 · have h:=a2;refine gb h fun ci ba h=>?_;refine LW.c0 (zU ba rfl (g.rB ap) rfl (g.rB aq) rfl (g.rB ar) rfl (g.rB k) rfl (g.rB au) rfl (g.rB av)) g fun b3 aX=>?_;refine gB h ?_ ?_<;>intro _ h
   · refine go ?_;cases oi h;exact aX.po [0,1,2,3,4,5,6,7,8]
   refine gb h fun cj bb h=>?_;refine go ?_;refine LW.c0 (Af bb) aX fun b4 bw=>?_;refine go ?_;cases oi h;exact bw.po [0,1,2,3,4,5,6,7,8]
 intro e b5 aY;have h:=bp;refine gc h ?_ ?_<;>intro _ h
 · refine uz aY 7 fun b6 aw=>?_;refine go ?_;cases h;exact And.intro trivial ⟨_,kt.one (ib.b aw 7 rfl kF rfl rfl),aM,aO,aN,aP,R,ad,U,ae,V,af,W,ah,rfl,aw.pk [1,2,3,4,5,6]⟩
 refine go ?_;obtain ⟨bZ,a5,br⟩:=ob h;refine CW.ie a5 0 (fun x e wb=>En e [(1,vI bl),(2,vI bm),(3,.pointer (some ⟨bn,0,none⟩)),(6,.pointer (some ⟨bo,0,none⟩)),(7,.pointer (some ⟨aW,0,none⟩)),(23,vS n d.py.ag.length p),(24,vI (d.py.ag.length:Int)),(25,vI x.2)]∧St w0 [] wb [bx aW 45 [vS aM f.NZ.NY.length aO,vS aN f.own.length aP,vS R f.N1.length ad,vS U x.1.length ae,vI f.py.gc.N2,vI f.py.gc.Oa,vI f.py.gc.N3,vS V f.py.gc.gQ.length af,vS W f.gR.length ah,vI f.N6,vI f.N7,vI f.bh.gE,vI f.bh.gT,vI f.bh.g8,vI f.gW,vI f.N5],sl aM aO f.NZ.NY,sl aN aP f.own,sl R ad f.N1,sl U ae x.1,sl V af f.py.gc.gQ,sl W ah f.gR,bx bo 45 [vS none 0 0,vS none 0 0,vS none 0 0,vS none 0 0,vI 0,vI 0,vI 0,vS none 0 0,vS none 0 0,vI 0,vI 0,vI 0,vI 0,vI 0,vI 0,vI 0],bx bn 45 (qP z H A I B J n p C K G L d)]) ?_ (aY.po [0,1,2,3,4,5,6,7,8]) ?_
 · intro x e b7 o hM h;obtain ⟨e,rfl,M⟩:=eo hM;refine gc h ?_ ?_<;>intro _ h
   · refine gb h fun ck bc h=>?_;obtain ⟨bP,bW,bD,rfl,aC,bE,bG,⟨bM,bS,bN,bT,bO,bU,rfl,bJ,bK,bL⟩,a4⟩:=k.idx bc;refine go ?_;refine LW.l (jf.tR w0 ud rfl rfl (fun j u hu=>a4 j u hu)) (M.same _ aC.1 aC.2) rfl ?_;refine LW.al M fun bV b8 aZ=>?_;refine uz aZ 0 fun b9 q=>?_;refine gs ?_;obtain ⟨bB,a3,bq⟩:=ob h;refine CW.jn [1,2,3,6,7,8,23,24,25] [1,2,3,4,5,6,7,8,9] [(44,.bool bB)] q (h1:=?_) (h2:=?_)
     · have h:=a3;refine gB h ?_ ?_<;>intro _ h
       · refine go ?_;have ⟨cm,bd,h⟩:=ob h;refine go ?_;refine LW.c0 (tj bd rfl (q.rB k)) q fun ca a0=>?_;refine go ?_;cases oi h;exact a0.po [1,2,3,4,5,6,7,8,9]
       refine go ?_;cases oi h;exact q.po [1,2,3,4,5,6,7,8,9]
     intro e cb ax;have h:=bq;refine jE [1,2,3,6,7,8,23,24,25,44] fun e=>?_;refine gc h ?_ ?_<;>intro _ h
     · refine dW ?_;have ay:=ax.drew;refine gb h fun cn aD h=>?_;obtain ⟨bQ,bX,hae,bF,bI⟩:=ay.hZ (α:=gP) (i:=4) rfl aD;subst hae;refine go ?_;refine gb h fun co O h=>?_;refine jO 10 ?_;refine LW.se 6 ay 4 aD O (hM:=(je (fun w cs F hF=>by obtain ⟨be,bi,bf,bj,bg,bk,rfl,hH⟩:=hF;exact ⟨be,bi,bf,bj,bg,bk,rfl,hH⟩))) fun cc az=>?_;refine jn ?_;have ⟨cp,aE,h⟩:=ob h;obtain ⟨bR,bY,hae,a7,a9⟩:=az.hZ (α:=gP) (i:=4) rfl aE;cases hae;(try refine AW.ux (i:=11) (by decide +kernel) rfl (by kernel_rfl) rfl rfl (iq.ix underlying36 uc rfl rfl a7 (by rw [gZ (oi O)];exact a9)) ?_);refine gb h fun bC aF h=>?_;refine jO 13 ?_;refine LW.se 7 az 4 aE aF (hM:=(je (fun w cs F hF=>by obtain ⟨be,bi,bf,bj,bg,bk,rfl,hH⟩:=hF;exact ⟨be,bi,bf,bj,bg,bk,rfl,hH⟩))) fun ce aA=>?_;refine jn ?_;refine go ?_;rw [show x.1.length=bC.length from ((gZ (oi O)).trans (gZ (oi aF)))] at aA;cases oi h;exact ⟨rfl,(aA.po [0,1,2,3,4,5,6,7,8])⟩
     refine go ?_;cases oi h;exact ⟨rfl,(ax.po [0,1,2,3,4,5,6,7,8])⟩
   refine go ?_;cases oi h;exact ⟨trivial,rfl,(M.po [0,1,2,3,4,5,6,7,8])⟩
 rintro e cf ⟨hE,a1⟩;obtain ⟨e,rfl⟩:=hE.out;have h:=br;refine uz a1 7 fun cg aB=>?_;refine go ?_;cases h;exact And.intro trivial ⟨_,kt.one (ib.b aB 7 rfl kF rfl rfl),aM,aO,aN,aP,R,ad,U,ae,V,af,W,ah,rfl,aB.pk [1,2,3,4,5,6]⟩
instance k_54:Ct prog 54:=⟨by kernel_rfl,@De⟩
theorem GL {w0 N k ar r} (h:tz N k ar=some r) {m R n} (Y:R=k.ag.length) (C:rb w0 m n k.ag) {G U p} (Z:U=k.gc.gQ.length) (ab:rb w0 G p k.gc.gQ) :
    gV prog 118 #[.agg #[vS m R n,vI k.gc.N2,vI k.gc.Oa,vI k.gc.N3,vS G U p],vI ar] w0 (fun v w=>∃ x A, ∃ z B,v=.tuple #[.agg #[vS x r.1.ag.length A,vI r.1.gc.N2,vI r.1.gc.Oa,vI r.1.gc.N3,vS z r.1.gc.gQ.length B],vI r.2]∧St w0 [] w [sl x A r.1.ag,sl z B r.1.gc.gQ]):=by
 subst Y Z;unfold tz at h;refine gV.fn func118 fun e=>?_;have cc:=St.start w0;refine T ?_;intro ay cU ce az cV cf bX cm h cR a2 cS cT cq cg af cr ci ct cj;refine T ?_;intro cI bD h cu aB;refine gc h ?_ ?_<;>intro _ h
 · refine T ?_;intro cv ck;exact rt
 refine jE [1,2,4,6,18] fun e=>?_;refine gc h ?_ ?_<;>intro _ h
 · refine T ?_;intro cJ bE h bZ b7 b0 b8 cw cl cx a7;exact rt
 refine gc h ?_ ?_<;>intro _ h
 · refine T ?_;intro cy a9 cz ba cA bb;exact rt
 refine gb h fun cK ap h=>?_;obtain ⟨av,aD,a3,rfl,bm,bq,bu,rfl,bo⟩:=ab.idx ap;refine go ?_;refine T ?_;have ⟨cL,K,h⟩:=ob h;obtain ⟨X,au,ax,am,an,bc⟩:=aB.uL (α:=Int) 2 rfl K;refine LW.u (iq.sub (α:=Int) (l:=bX.gc.gQ) underlying32 FJ rfl uO (uN rfl) K X am an) rfl ?_;refine T ?_;intro cB ai;obtain ⟨aC,ao,aA⟩:=ob h;refine CW.jn [1,2,4,6,8] [0,1,2,3,4] [(67,.bool aC)] ai (h1:=?_) (h2:=?_)
 · have h:=ao;refine gB h ?_ ?_<;>intro _ h
   · refine gb h fun cM aq h=>?_;obtain ⟨b4,cn,a4,rfl,bn,br,bv,⟨b1,b9,b2,ca,b3,cb,rfl,bA,bB,bC⟩,bp⟩:=C.idx aq;refine go ?_;refine T ?_;intro cN bF h cC bd;exact rt
   exact rt
 intro e cD H;have h:=aA;refine gc h ?_ ?_<;>intro _ h
 · refine T ?_;intro cE be;exact rt
 refine gb h fun cO L h=>?_;obtain ⟨aw,aE,hae,bs,bw⟩:=H.hZ (α:=gP) (i:=1) rfl L;subst hae;refine go ?_;refine gb h fun cP M h=>?_;refine LW.se 9 H 1 L M (hM:=(je (fun w cs F hF=>by obtain ⟨bK,bN,bL,bO,bM,bP,rfl,hH⟩:=hF;exact ⟨bK,bN,bL,bO,bM,bP,rfl,hH⟩))) fun cF bf=>?_;refine T ?_;intro V bG h ad ae cG I;refine go ?_;rw [gZ (oi M)] at I;obtain ⟨bJ,aa,ah⟩:=ob h;refine CW.ie aa 1 (fun b e wb=>∃ (d:Ad) (g:Nat) (f:Ad) (j:Nat),En e [(1,vI ar),(2,.pointer (some ⟨ay,0,none⟩)),(4,.pointer (some ⟨az,0,none⟩)),(6,.pointer (some ⟨af,0,none⟩)),(77,vS ad V.length ae),(78,vI (V.length:Int)),(79,vI b.1)]∧St w0 [] wb [sl ad ae V,bx af 40 [vS d b.2.1.length g,vI b.2.2.1,vI b.2.2.2.1,vI b.2.2.2.2.1,vS f b.2.2.2.2.2.length j],bx az 40 [vS none 0 0,vI 0,vI 0,vI 0,vS none 0 0],bx ay 40 (qH m n (some ⟨av,aD,none⟩) p k),sl d g b.2.1,sl f j b.2.2.2.2.2]) ?_ ⟨(some ⟨aw,aE,none⟩),a2,au,ax,I.po [0,1,4,5,2,3]⟩ ?_
 · intro b e cH o hM h;obtain ⟨d,g,f,j,hE,J⟩:=hM;obtain ⟨e,rfl⟩:=hE.out;refine jE [1,2,4,6,77,78,79,80] fun e=>?_;refine gc h ?_ ?_<;>intro _ h
   · refine gb h fun cQ O h=>?_;obtain ⟨b5,co,hae,bt,bz⟩:=J.hZ (α:=Int) (i:=0) rfl O;subst hae;refine go ?_;obtain ⟨bY,q,bg⟩:=J.freeze (α:=Int) 0 rfl;obtain ⟨b6,cp,a5,hae,aG,_,_,W,aI⟩:=q.jk.idx O;cases hae;obtain rfl:=W;refine T ?_;have ⟨bU,ac,h⟩:=ob h;obtain ⟨aW,bI,aF,rfl,aH,aK,aL,⟨aR,aX,aS,aY,aT,aZ,rfl,aM,aN,aO⟩,aJ⟩:=C.idx ac;refine go ?_;refine T ?_;intro bV aP h bQ aj;refine CW.fl [1,2,4,6,10,77,78,79,90] fun e=>?_;refine gc h ?_ ?_<;>intro _ h
     · refine T ?_;intro bW aQ h aU a0 aV a1 bR ak;have bi:=ak.iz (α:=Int) 3 rfl q;exact rt
     refine go ?_;have bj:=aj.iz (α:=Int) 0 rfl q;exact rt
   exact rt
 rintro e bS ⟨d,g,f,j,hE,bk⟩;obtain ⟨e,rfl⟩:=hE.out;have h:=ah;refine T ?_;intro bT bl;exact rt
instance k_118:Ct prog 118:=⟨by kernel_rfl,@GL⟩
end Go.Kx
