import Derived.Test.YtlcgibcdiikheaaGreatWa8
namespace Go.Kx
open Go Go.RowKit Go.Proofs
open Go.IntKind (i64)
open Tryz
set_option maxRecDepth 10000
set_option maxHeartbeats 8000000
set_option linter.unusedVariables false
set_option linter.unusedSimpArgs false
theorem z0 {w0 N g r} (h:mJ N g=some r) {J R u} (X:R=g.parts.length) (Y:rb w0 J u g.parts) :
    gV prog 83 #[.agg #[vI g.Pt,vS J R u]] w0 (fun v w=>∃ K O,v=.agg #[vI r.Pt,vS K r.parts.length O]∧St w0 [] w [sl K O r.parts]):=by
 subst X;unfold mJ at h;refine gV.fn func83 fun e=>?_;have aU:=St.start w0;refine T ?_;intro U a8 aV V a9 aW;refine LW.bd [(0,vI g.Pt)] #[vI g.Pt,vS none 0 0] ?_;refine T ?_;intro W ba aX bb aj;refine go ?_;have ak:=aj.nil (α:=bh);obtain ⟨aZ,ae,ai⟩:=ob h;refine CW.ie ae 0 (fun I e wb=>∃ (d:Ad) (f:Nat),En e [(1,.pointer (some ⟨U,0,none⟩)),(2,.pointer (some ⟨V,0,none⟩)),(3,.pointer (some ⟨W,0,none⟩)),(4,vI I.1)]∧St w0 [] wb [bx W 26 [vI g.Pt,vS d I.2.length f],bx V 26 [vI 0,vS none 0 0],bx U 26 [vI g.Pt,vS J g.parts.length u],sl d f I.2]) ?_ ⟨none,0,ak.po [1,2,3,0]⟩ ?_
 · intro I e bc o hM h;obtain ⟨d,f,hE,am⟩:=hM;obtain ⟨e,rfl⟩:=hE.out;refine jw [1,2,3,4,12] fun e=>?_;refine gc h ?_ ?_<;>intro _ h
   · refine jK ?_;have aY:=am.drew;refine gb h fun a6 af h=>?_;obtain ⟨Z,ab,ao,rfl,av,ax,ay,⟨aG,aN,aH,aO,aI,aP,aJ,aQ,aK,aR,aL,aS,rfl,az,aA,aB,aC,aD,aE⟩,aw⟩:=Y.idx af;refine go ?_;refine T ?_;intro b aF h k x l z m A n B p C q H a0 an;refine LW.MW (vs:=#[vS k b.Pe.Pd.length x,vS l b.own.length z,vS m b.Pg.length A,vS n b.py.ag.length B,vI b.py.gc.Ph,vI b.py.gc.Pr,vI b.py.gc.Pj,vS p b.py.gc.gQ.length C,vS q b.gR.length H,vI b.Pn,vI b.Pp,vI b.cd.gE,vI b.cd.gX,vI b.cd.g8,vI b.g5,vI b.Pm]) BI rfl (by kernel_rfl) an rfl ?_;intro aa a1 ac hf;refine T ?_;have ad:=ac.pk (M:=[sl k x b.Pe.Pd,sl l z b.own,sl m A b.Pg,sl n B b.py.ag,sl p C b.py.gc.gQ,sl q H b.gR]++[bx aa 50 (qP k x l z m A n B p C q H b),bx W 26 [vI g.Pt,vS d I.2.length f],bx V 26 [vI 0,vS none 0 0],bx U 26 [vI g.Pt,vS (some ⟨Z,ab,none⟩) g.parts.length u],sl d f I.2]) [1,2,3,4,5,6,0,7,8,9,10];have ⟨a7,ah,h⟩:=ob h;refine T ?_;refine LW.Du (M:=[sl k x b.Pe.Pd,sl l z b.own,sl m A b.Pg,sl n B b.py.ag,sl p C b.py.gc.gQ,sl q H b.gR]) (L:=[bx aa 50 (qP k x l z m A n B p C q H b),bx W 26 [vI g.Pt,vS d I.2.length f],bx V 26 [vI 0,vS none 0 0],bx U 26 [vI g.Pt,vS (some ⟨Z,ab,none⟩) g.parts.length u],sl d f I.2]) (vs:=(qP k x l z m A n B p C q H b)) (i:=4) (j:=0) BI rfl rfl ah ad rfl rfl (fun w G hG=>⟨k,x,l,z,m,A,n,B,p,C,q,H,rfl,hG⟩) rfl ?_
     intro aM aT a2 ap hf;refine T ?_;intro a3 aq;exact rt
   exact rt
 rintro e a4 ⟨d,f,hE,ar⟩;obtain ⟨e,rfl⟩:=hE.out;have h:=ai;refine T ?_;intro a5 au;exact rt
instance k_83:Ct prog 83:=⟨by kernel_rfl,@z0⟩
theorem Hb {w0 N d r} (h:nZ N d=some r) {f p j} (A:p=d.ag.length) (ac:rb w0 f j d.ag) {g q k} (B:q=d.gc.gQ.length) (b:rb w0 g k d.gc.gQ) :
    gV prog 179 #[.agg #[vS f p j,vI d.gc.Ph,vI d.gc.Pr,vI d.gc.Pj,vS g q k]] w0 (fun v w=>v=.bool r∧St w0 [] w []):=by
 subst A B;unfold nZ at h;refine gV.fn func179 fun e=>?_;have aE:=St.start w0;refine T ?_;intro a7 a9 aF a8 ba aG bb X;obtain ⟨aA,Z,ae⟩:=ob h;refine CW.jn [3] [0] [(22,.bool aA)] X (h1:=?_) (h2:=?_)
 · have h:=Z;refine T ?_;intro bd aL h bc aH;refine bH h ?_ ?_<;>intro _ h
   · exact rt
   refine T ?_;intro aZ au h aO aI;refine bH h ?_ ?_<;>intro _ h
   · exact rt
   refine T ?_;intro a0 av h aP aJ;exact rt
 intro e aQ Y;have h:=ae;refine gc h ?_ ?_<;>intro _ h
 · exact rt
 refine gs ?_;obtain ⟨aa,M,V⟩:=ob h;refine CW.jn [3] [0] [(47,.bool aa)] Y (h1:=?_) (h2:=?_)
 · have h:=M;refine gB h ?_ ?_<;>intro _ h
   · refine gB h ?_ ?_<;>intro _ h
     · exact rt
     refine gB h ?_ ?_<;>intro _ h
     · refine T ?_;intro a1 aw h aR aK;refine bH h ?_ ?_<;>intro _ h
       · exact rt
       exact rt
     exact rt
   refine gB h ?_ ?_<;>intro _ h
   · refine T ?_;intro a2 ax h aS af;refine bH h ?_ ?_<;>intro _ h
     · exact rt
     exact rt
   exact rt
 intro e aT I;have h:=V;refine gc h ?_ ?_<;>intro _ h
 · exact rt
 refine go ?_;obtain ⟨G,R,C⟩:=ob h;refine CW.mono (CW.lx [3] [0] [] 0 (fun H=>[(4,vI H)]) (RT prog f179.results (fun u=>.bool u) w0 []) I R (hb:=?_)) ?_
 · intro H e aU o m h;refine gc h ?_ ?_<;>intro _ h
   · refine gs ?_;refine CW.block ?_;refine gs ?_;obtain ⟨ab,O,W⟩:=ob h;refine CW.jn [3,4] [0] [(73,.bool ab)] m (h1:=?_) (h2:=?_)
     · have h:=O;refine dW ?_;have ah:=m.drew;refine gb h fun a3 U h=>?_;obtain ⟨aC,aM,ad,rfl,an,ap,aq,rfl,ao⟩:=b.idx U;refine go ?_;refine T ?_;intro a4 ay h aV ai;refine bH h ?_ ?_<;>intro J h
       · exact rt
       refine gb h fun a5 n h=>?_;obtain ⟨aB,aD,K,L,ar⟩:=iR.vt b n;have z:=(b).le;refine AW.u (i:=11) rfl (by kernel_rfl) (lJ rfl rfl J) rfl (il.sub (α:=Int) (l:=d.gc.gQ) underlying37 GP rfl vp (vn rfl) n z K L) ?_;refine go ?_;refine T ?_;intro a6 az h aW aj;exact rt
     intro e aX ak;have h:=W;refine gc h ?_ ?_<;>intro _ h
     · exact rt
     exact rt
   exact rt
 intro x e aY hM;rcases G with G | aN
 · obtain ⟨rfl,hM⟩:=hM;obtain ⟨e,rfl,am⟩:=eo hM;rw [show e=iq e [] from rfl];have h:=C;exact rt
 obtain ⟨rfl,u,rfl,hM⟩:=hM;cases C;exact And.intro trivial hM
instance k_179:Ct prog 179:=⟨by kernel_rfl,@Hb⟩
theorem F7 {w0 N i r} (h:sF N i=some r) {b f d} (g:f=i.length) (j:rb w0 b d i) :
    gV prog 275 #[vS b f d] w0 (fun v w=>v=.agg #[vI r.gE,vI r.gX,vI r.g8]∧St w0 [] w []):=by
 subst g;unfold sF at h;refine gV.fn func275 fun e=>?_;have k:=St.start w0;refine T ?_;intro x z l H q h A m;refine gc h ?_ ?_<;>intro _ h
 · refine jt [] #[vI 0,vI 0,vI 0] ?_;refine T ?_;intro B n;exact rt
 refine T ?_;intro I u h C o G p;exact rt
instance k_275:Ct prog 275:=⟨by kernel_rfl,@F7⟩
theorem Kk {w0 N m r} (h:wy N m=some r) {b f d} (g:f=m.length) (i:rb w0 b d m) :
    gV prog 336 #[vS b f d] w0 (fun v w=>v=.bool r∧St w0 [] w []):=by
 subst g;unfold wy at h;refine gV.fn func336 fun e=>?_;have n:=St.start w0;refine go ?_;obtain ⟨k,l,j⟩:=ob h;refine CW.mono (CW.lx [0] [] [0] 0 (fun q=>[(3,vI q)]) (RT prog f336.results (fun u=>.bool u) w0 []) n l (hb:=?_)) ?_
 · intro q e Z o J h;refine gc h ?_ ?_<;>intro _ h
   · refine gb h fun aa p h=>?_;obtain ⟨X,Y,I,rfl,z,M,O,⟨G,H,rfl,B⟩,A⟩:=i.idx p;refine go ?_;refine T ?_;intro W C h U K;refine CW.fl [0,3,16] fun e=>?_;refine gc h ?_ ?_<;>intro _ h
     · exact rt
     exact rt
   exact rt
 intro x e V hM;rcases k with k | R
 · obtain ⟨rfl,hM⟩:=hM;obtain ⟨e,rfl,L⟩:=eo hM;have h:=j;exact rt
 obtain ⟨rfl,u,rfl,hM⟩:=hM;cases j;exact And.intro trivial hM
instance k_336:Ct prog 336:=⟨by kernel_rfl,@Kk⟩
theorem Hr {w0 N j l r} (h:lV N j l=some r) {b f d} (g:f=j.length) (i:rb w0 b d j) :
    gV prog 170 #[vS b f d,vI l] w0 (fun v w=>v=.bool r∧St w0 [] w []):=by
 subst g;unfold lV at h;refine gV.fn func170 fun e=>?_;have q:=St.start w0;refine go ?_;refine T ?_;intro J B h H u;refine bH h ?_ ?_<;>intro _ h
 · refine T ?_;intro K C h I x;refine bH h ?_ ?_<;>intro _ h
   · refine gb h fun L k h=>?_;obtain ⟨p,G,m,rfl,n,z,A,rfl,o⟩:=i.idx k;refine go ?_;refine T ?_;exact rt
   exact rt
 exact rt
instance k_170:Ct prog 170:=⟨by kernel_rfl,@Hr⟩
theorem HX {w0 N b d r} (h:tT N b d=some r) :
    gV prog 330 #[.agg #[vI b.gE,vI b.gX,vI b.g8],.agg #[vI d.gE,vI d.gX,vI d.g8]] w0 (fun v w=>v=.tuple #[.agg #[vI r.1.gE,vI r.1.gX,vI r.1.g8],.bool r.2]∧St w0 [] w []):=by
 unfold tT at h;refine gV.fn func330 fun e=>?_;have f:=St.start w0;refine T ?_;intro q z g u A i x B j G n h C k;refine gc h ?_ ?_<;>intro _ h
 · refine T ?_;intro o l;exact rt
 refine jt [(0,vI (i64.wrap (b.gE - d.gE))),(1,vI (i64.wrap (b.gX - d.gX))),(2,vI (i64.wrap (b.g8 - d.g8)))] #[vI (i64.wrap (b.gE - d.gE)),vI (i64.wrap (b.gX - d.gX)),vI (i64.wrap (b.g8 - d.g8))] ?_;refine T ?_;intro p m;exact rt
instance k_330:Ct prog 330:=⟨by kernel_rfl,@HX⟩
theorem I1 {w0 N x W r} (h:rq N x W=some r) {j l k} (n:l=x.length) (b:rb w0 j k x) :
    gV prog 126 #[vS j l k,vI W] w0 (fun v w=>∃ z A,v=vS z r.length A∧St w0 [] w [sl z A r]):=by
 subst n;unfold rq at h;refine gV.fn func126 fun e=>?_;have Y:=St.start w0;refine go ?_;refine LW.b0 (α:=Int) Y ?_;intro aA aR cF Z hf;refine gs ?_;obtain ⟨bw,ac,aW⟩:=ob h;refine CW.jn [0,1,5] [0] [(23,.bool bw)] Z (h1:=?_) (h2:=?_)
 · have h:=ac;refine T ?_;intro cH cn h cG ci;refine bH h ?_ ?_<;>intro _ h
   · exact rt
   refine T ?_;intro cI co h ct cj;refine bH h ?_ ?_<;>intro _ h
   · exact rt
   refine gb h fun cy K h=>?_;obtain ⟨bZ,cp,aS,rfl,a0,a9,bd,⟨bN,b4,bO,b5,bP,b6,rfl,bi,bj,bk⟩,a5⟩:=b.idx K;refine go ?_;refine T ?_;exact rt
 intro e cu aa;have h:=aW;refine gc h ?_ ?_<;>intro _ h
 · exact rt
 refine go ?_;obtain ⟨bB,p,B⟩:=ob h;refine CW.ie p 0 (fun g e wb=>∃ (d:Ad) (f:Nat),En e [(0,vS j x.length k),(1,vI W),(5,vS d g.1.length f),(6,vI g.2)]∧St w0 [] wb [sl d f g.1]) ?_ ⟨aA,aR,aa.po [0]⟩ ?_
 · intro g e cv o hM h;obtain ⟨d,f,hE,ab⟩:=hM;obtain ⟨e,rfl⟩:=hE.out;refine gc h ?_ ?_<;>intro _ h
   · refine gs ?_;refine CW.block ?_;refine gs ?_;obtain ⟨ad,J,X⟩:=ob h;refine CW.jn [0,1,5,6] [0] [(66,.bool ad)] ab (h1:=?_) (h2:=?_)
     · have h:=J;refine gB h ?_ ?_<;>intro _ h
       · refine gb h fun cz O h=>?_;obtain ⟨b1,cq,aT,rfl,a2,ba,be,⟨bQ,b7,bR,b8,bS,b9,rfl,bl,bm,bn⟩,a6⟩:=b.idx O;refine go ?_;refine T ?_;refine bH h ?_ ?_<;>intro _ h
         · refine go ?_;refine T ?_;refine bH h ?_ ?_<;>intro _ h
           · refine gb h fun cA R h=>?_;obtain ⟨b2,cr,aU,hae,a3,bb,bf,H,a7⟩:=b.idx R;cases hae;obtain ⟨bT,ca,bU,cb,bV,cc,rfl,bo,bp,bq⟩:=H;refine go ?_;refine T ?_;refine bH h ?_ ?_<;>intro _ h
             · exact rt
             refine go ?_;refine T ?_;intro cB bu h cw ck;exact rt
           refine gb h fun cC U h=>?_;obtain ⟨b3,cs,aV,hae,a4,bc,bg,I,a8⟩:=b.idx U;cases hae;obtain ⟨bW,ce,bX,cf,bY,cg,rfl,br,bs,bt⟩:=I;refine go ?_;refine T ?_;intro cD bv h cx cl;exact rt
         refine go ?_;have ⟨cE,V,h⟩:=ob h;obtain ⟨aI,bz,ae,hae,ah,am,ao,m,aj⟩:=b.idx V;cases hae;obtain ⟨aB,aK,aC,aL,aD,aM,rfl,aq,ar,au⟩:=m;refine go ?_;refine T ?_;intro bJ ay h bD cm;exact rt
       refine go ?_;have ⟨bK,q,h⟩:=ob h;obtain ⟨aJ,bA,af,rfl,ai,an,ap,⟨aE,aN,aF,aO,aG,aP,rfl,av,aw,ax⟩,ak⟩:=b.idx q;refine go ?_;refine T ?_;intro bL az h bE aX;exact rt
     intro e bF C;have h:=X;refine gc h ?_ ?_<;>intro _ h
     · refine gb h fun bM u h=>?_;refine LW.kB (M:=[]) (L:=[sl d f g.1]) (vs:=#[vI g.2]) (i:=0) pI rfl (by kernel_rfl) rfl rfl u C rfl (fun w G hG=>by cases (show G=[] from hG);exact ⟨rfl,rfl⟩) rfl rfl ?_;intro bC aH aQ bG aY hf;exact rt
     exact rt
   exact rt
 rintro e bI ⟨d,f,hE,aZ⟩;obtain ⟨e,rfl⟩:=hE.out;have h:=B;exact rt
instance k_126:Ct prog 126:=⟨by kernel_rfl,@I1⟩
theorem CX {w0 N aP X r} (h:pR N aP X=some r) {Y ai Z} (ar:ai=aP.length) (U:rb w0 Y Z aP) :
    gV prog 339 #[vS Y ai Z,vI X] w0 (fun v w=>∃ az aA,v=.tuple #[vS az r.1.length aA,.bool r.2]∧St w0 [] w [sl az aA r.1]):=by
 subst ar;unfold pR at h;refine gV.fn func339 fun e=>?_;have cD:=St.start w0;refine T ?_;intro aQ cG h cX g cY aS;obtain ⟨bX,aX,bo⟩:=ob h;refine CW.jn [0,1,6] [0] [(26,.bool bX)] aS (h1:=?_) (h2:=?_)
 · have h:=aX;refine T ?_;intro c0 cH h cZ cE;refine bH h ?_ ?_<;>intro _ h
   · exact rt
   refine T ?_;intro cU bW h cN cF;refine bH h ?_ ?_<;>intro _ h
   · exact rt
   refine gb h fun cV aN h=>?_;obtain ⟨co,cI,bl,rfl,bu,bC,bI,⟨ce,cu,cf,cv,cg,cw,rfl,bN,bO,bP⟩,bz⟩:=U.idx aN;refine go ?_;refine T ?_;exact rt
 intro e cO aB;have h:=bo;refine gc h ?_ ?_<;>intro _ h
 · exact rt
 refine gb h fun aj aO h=>?_;obtain ⟨cp,cJ,bm,rfl,bv,bD,bJ,⟨ci,cx,cj,cy,ck,cz,rfl,bQ,bR,bS⟩,bA⟩:=U.idx aO;refine go ?_;refine T ?_;refine LW.bd [(0,vI aj.Pw)] #[vI aj.Pw,vI 0,vI 0,vI 0,vI 0,vI 0,vI 0,vI 0,vI 0,.bool false,vS none 0 0,vS none 0 0,vS none 0 0] ?_;have ⟨aY,ae,h⟩:=ob h;obtain ⟨f,d,hae,bE,bK⟩:=aB.hZ (α:=gP) (i:=0) rfl ae;subst hae;refine go ?_;have aT:=aB.nil (α:=Int);have aU:=aT.nil (α:=Int);have aV:=aU.nil (α:=iM);have aW:=aV.pk (M:=[sl none 0 [],sl none 0 [],sl none 0 []]++[sl (some ⟨f,d,none⟩) g aQ]) [2,1,0,3];have ⟨aZ,af,h⟩:=ob h;refine LW.vl (M:=[sl none 0 [],sl none 0 [],sl none 0 []]) (L:=[sl (some ⟨f,d,none⟩) g aQ]) (z:=aY) (z':=(gP.mk aj.Pw 0 0 0 0 0 0 0 0 false [] [] [])) (o:=0) aW (i:=0) rfl ae uK rfl (by show _=d+(X:Int).toNat * 13+0;omega) rfl rfl rfl rfl (whole (fun w G hG=>⟨none,0,none,0,none,0,rfl,hG⟩)) ?_;intro cP aa hf;rw [oi af] at aa;refine go ?_;obtain ⟨b0,ax,aE⟩:=ob h;refine CW.ie ax 0 (fun k e wb=>En e [(1,vI X),(6,vS (some ⟨f,d,none⟩) k.1.length g),(7,vI k.2)]∧St w0 [] wb [sl (some ⟨f,d,none⟩) g k.1]) ?_ ⟨⟨rfl,(show (vS (some ⟨f,d,none⟩) aQ.length g:Value)=vS (some ⟨f,d,none⟩) aZ.length g by rw [gS (oi af)]),rfl,trivial⟩,aa.pk [0]⟩ ?_
 · intro k e cQ o hM h;obtain ⟨e,rfl,ab⟩:=eo hM;refine jw [1,6,7,40] fun e=>?_;refine gc h ?_ ?_<;>intro _ h
   · refine gb h fun cW K h=>?_;obtain ⟨cq,cK,hae,bF,bL⟩:=ab.hZ (α:=gP) (i:=0) rfl K;cases hae;refine go ?_;obtain ⟨cb,C,I⟩:=ab.freeze (α:=gP) 0 rfl;obtain ⟨cr,cL,bn,hae,bw,_,_,aL,bB⟩:=C.ju.idx K;cases hae;obtain ⟨cl,cA,cm,cB,cn,cC,rfl,bT,bU,bV⟩:=aL;refine T ?_;refine gc h ?_ ?_<;>intro _ h
     · refine go ?_;have bp:=I.iD (α:=gP) 0 rfl C;exact rt
     refine go ?_;refine T ?_;obtain ⟨aC,aM,aR⟩:=ob h;refine CW.cut (fun e wb=>En e [(1,vI X),(6,vS (some ⟨f,d,none⟩) aC.length g),(7,vI k.2)]∧St w0 [] wb [sl (some ⟨f,d,none⟩) g aC]) ?_ ?_
     · have h:=aM;refine CW.fl [1,6,7,55] fun e=>?_;refine gc h ?_ ?_<;>intro _ h
       · refine go ?_;have aF:=I.iD (α:=gP) 0 rfl C;have ⟨a0,ah,h⟩:=ob h;refine LW.se 2 aF 0 K ah (hM:=(iU (fun w cs F hF=>by obtain ⟨b1,b4,b2,b5,b3,b6,rfl,hH⟩:=hF;exact ⟨b1,b4,b2,b5,b3,b6,rfl,hH⟩))) fun cR aG=>?_;refine go ?_;replace h:=oi h;subst h;exact ⟨⟨rfl,(show (vS (some ⟨f,d,none⟩) k.1.length g:Value)=vS (some ⟨f,d,none⟩) a0.length g by rw [gS (oi ah)]),rfl,trivial⟩,aG.pk [0]⟩
       refine go ?_;have bq:=I.iD (α:=gP) 0 rfl C;exact rt
     rintro e cS ⟨hE,aH⟩;obtain ⟨e,rfl⟩:=hE.out;have h:=aR;refine go ?_;obtain ⟨bZ,aw,aD⟩:=ob h;refine CW.ie aw 2 (fun l e wb=>En e [(1,vI X),(6,vS (some ⟨f,d,none⟩) l.1.length g),(7,vI k.2),(8,vI l.2)]∧St w0 [] wb [sl (some ⟨f,d,none⟩) g l.1]) ?_ (aH.po [0]) ?_
     · intro l e cT o hM h;obtain ⟨e,rfl,ac⟩:=eo hM;refine jw [1,6,7,8,61] fun e=>?_;refine gc h ?_ ?_<;>intro _ h
       · refine gb h fun b O h=>?_;obtain ⟨ct,cM,hae,bG,bM⟩:=ac.hZ (α:=gP) (i:=0) rfl O;cases hae;refine go ?_;obtain ⟨cc,B,J⟩:=ac.freeze (α:=gP) 0 rfl;obtain ⟨bg,bY,a3,hae,am,_,_,ao,aq⟩:=B.ju.idx O;cases hae;obtain ⟨bb,q,m,x,n,A,rfl,ay,a9,ba⟩:=ao;refine T ?_;have ⟨ca,V,h⟩:=ob h;obtain ⟨p,H,a4,rfl,a5,a7,a8,rfl,a6⟩:=ay.idx V;refine go ?_;refine T ?_;refine CW.fl [1,6,7,8,73] fun e=>?_;refine gc h ?_ ?_<;>intro _ h
         · refine go ?_;refine T ?_;refine go ?_;have au:=fun (j:Nat) (u:Value) (hu:([vI b.Pw,vI b.Pf,vI b.box,vI b.Pu,vI b.iz,vI b.gE,vI b.Pq,vI b.iy,vI b.im,.bool b.Ps,vS (some ⟨p,H,none⟩) b.gZ.length q,vS m b.Po.length x,vS n b.Pk.length A]:List Value)[j]?=some u)=>(World.cell?_of_block (J.zC 0 rfl am)).trans (aq j u hu);have aI:=J.iD (α:=gP) 0 rfl B;obtain ⟨a1,av,ap⟩:=aI.focus (α:=gP) (cs:=[vI b.Pw,vI b.Pf,vI b.box,vI b.Pu,vI b.iz,vI b.gE,vI b.Pq,vI b.iy,vI b.im,.bool b.Ps,vS (some ⟨p,H,none⟩) b.gZ.length q,vS m b.Po.length x,vS n b.Pk.length A]) 0 rfl O rfl au;obtain ⟨bc,bi,be,bj,bf,bk,an,ak⟩:=av;cases an;have aJ:=ap [sl (some ⟨p,H,none⟩) q b.gZ,sl m x b.Po,sl n A b.Pk] ak;have ⟨R,W,h⟩:=ob h;refine LW.se 0 aJ 0 V W (hM:=ui) fun b7 ad=>?_;refine go ?_;replace h:=oi h;subst h;rw [gS (oi W)] at ad;have aK:=ad.m6 (gP.mk b.Pw b.Pf b.box b.Pu b.iz b.gE b.Pq b.iy b.im b.Ps R b.Po b.Pk) [0,1,2,3] 3 0 rfl rfl (fun w G hG=>⟨(some ⟨p,H,none⟩),q,m,x,n,A,rfl,hG⟩);exact ⟨rfl,⟨⟨rfl,(show (vS (some ⟨f,d,none⟩) l.1.length g:Value)=vS (some ⟨f,d,none⟩) ((l.1.set (k.2:Int).toNat (gP.mk b.Pw b.Pf b.box b.Pu b.iz b.gE b.Pq b.iy b.im b.Ps R b.Po b.Pk)).length) g by rw [show l.1.length=(l.1.set (k.2:Int).toNat (gP.mk b.Pw b.Pf b.box b.Pu b.iz b.gE b.Pq b.iy b.im b.Ps R b.Po b.Pk)).length from (gS rfl)]),rfl,rfl,trivial⟩,aK.pk [0]⟩⟩
         refine go ?_;have br:=J.iD (α:=gP) 0 rfl B;exact rt
       exact rt
     rintro e b8 ⟨hE,bs⟩;obtain ⟨e,rfl⟩:=hE.out;have h:=aD;exact rt
   exact rt
 rintro e b9 ⟨hE,bt⟩;obtain ⟨e,rfl⟩:=hE.out;have h:=aE;exact rt
instance k_339:Ct prog 339:=⟨by kernel_rfl,@CX⟩
end Go.Kx
