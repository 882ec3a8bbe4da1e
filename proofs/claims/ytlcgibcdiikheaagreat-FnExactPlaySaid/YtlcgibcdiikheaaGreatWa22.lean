import Derived.Test.YtlcgibcdiikheaaGreatWa17
import Derived.Test.YtlcgibcdiikheaaGreatWa18
namespace Go.Kx
open Go Go.RowKit Go.Proofs
open Tryz
set_option maxRecDepth 10000
set_option maxHeartbeats 8000000
set_option linter.unusedVariables false
set_option linter.unusedSimpArgs false
theorem G7 {w0} {F:List Nat} {N f g r} (h:ub N f g=some r) {A U J} (aa:U=f.Pe.Pd.length) {B V K} (ab:V=f.own.length) {C W L} (ac:W=f.Pg.length) {G X M} (ad:X=f.py.ag.length) {H Y O} (ae:Y=f.py.gc.gQ.length) {I Z R} (af:Z=f.gR.length) (hS:St w0 F w0 [sl A J f.Pe.Pd,sl B K f.own,sl C L f.Pg,sl G M f.py.ag,sl H O f.py.gc.gQ,sl I R f.gR]) :
    gV prog 175 #[.agg #[vS A U J,vS B V K,vS C W L,vS G X M,vI f.py.gc.Ph,vI f.py.gc.Pr,vI f.py.gc.Pj,vS H Y O,vS I Z R,vI f.Pn,vI f.Pp,vI f.cd.gE,vI f.cd.gX,vI f.cd.g8,vI f.g5,vI f.Pm],.agg #[vI g.Pf,vI g.a,vI g.b,vI g.c,vI g.d,vI g.e]] w0 (fun v w=>∃ i o, ∃ j p, ∃ k q, ∃ l u, ∃ m x, ∃ n z,v=.tuple #[.agg #[vS i r.1.Pe.Pd.length o,vS j r.1.own.length p,vS k r.1.Pg.length q,vS l r.1.py.ag.length u,vI r.1.py.gc.Ph,vI r.1.py.gc.Pr,vI r.1.py.gc.Pj,vS m r.1.py.gc.gQ.length x,vS n r.1.gR.length z,vI r.1.Pn,vI r.1.Pp,vI r.1.cd.gE,vI r.1.cd.gX,vI r.1.cd.g8,vI r.1.g5,vI r.1.Pm],.agg #[vI r.2.code,vI r.2.Pz]]∧St w0 F w [sl i o r.1.Pe.Pd,sl j p r.1.own,sl k q r.1.Pg,sl l u r.1.py.ag,sl m x r.1.py.gc.gQ,sl n z r.1.gR]):=by
 subst aa ab ac ad ae af;unfold ub at h;refine gV.fn func175 fun e=>?_;refine T ?_;intro b0 b4 a9 b1 b5 ba b2 b6 bb b3 b7 ah;refine gc h ?_ ?_<;>intro _ h
 · refine gs ?_;obtain ⟨ap,ak,an⟩:=ob h;refine CW.jn [2,3,4,5] [0,1,2,3,4,5,6,7,8,9] [(31,.bool ap)] ah (h1:=?_) (h2:=?_)
   · have h:=ak;refine T ?_;intro bR aT h bj bc;refine bH h ?_ ?_<;>intro _ h
     · exact rt
     refine jt [(0,vI g.b),(1,vI g.c),(2,vI g.d)] #[vI g.b,vI g.c,vI g.d] ?_;refine T ?_;intro bS aU h bk be;exact rt
   intro e bl bf;have h:=an;refine gc h ?_ ?_<;>intro _ h
   · refine jt [(0,vI 2)] #[vI 2,vI 0] ?_;refine T ?_;intro bm bg bn bi;exact rt
   refine jt [(0,vI g.b),(1,vI g.c),(2,vI g.d)] #[vI g.b,vI g.c,vI g.d] ?_;refine T ?_;intro ai aV h a3 a6 bo ar;refine CW.fl [2,4,5,6,7,51] fun e=>?_;refine gc h ?_ ?_<;>intro _ h
   · refine jt [(0,vI 6)] #[vI 6,vI 0] ?_;refine T ?_;intro bp au bq av;exact rt
   refine T ?_;intro br aw;refine LW.bd [(1,vI ai.2.1)] #[vI 0,vI ai.2.1] ?_;refine T ?_;intro bs ax bt ay;exact rt
 refine gc h ?_ ?_<;>intro _ h
 · refine gs ?_;obtain ⟨aq,am,ao⟩:=ob h;refine CW.jn [2,3,4,5] [0,1,2,3,4,5,6,7,8,9] [(82,.bool aq)] ah (h1:=?_) (h2:=?_)
   · have h:=am;refine T ?_;intro bT aW h bu az;refine bH h ?_ ?_<;>intro _ h
     · exact rt
     refine T ?_;intro bU aX h bv aA;refine bH h ?_ ?_<;>intro _ h
     · exact rt
     refine go ?_;refine T ?_;intro bV aY h bw aB;refine bH h ?_ ?_<;>intro _ h
     · exact rt
     refine T ?_;intro bW aZ h bz aC;exact rt
   intro e bA aj;have h:=ao;refine gc h ?_ ?_<;>intro _ h
   · refine jt [(0,vI 2)] #[vI 2,vI 0] ?_;refine T ?_;intro bB aD bC aE;exact rt
   refine jK ?_;have aF:=aj.drew;refine T ?_;intro bX a0 h bD aG bY a1 h a4 a7 bE aH;refine gc h ?_ ?_<;>intro _ h
   · refine jt [(0,vI 6)] #[vI 6,vI 0] ?_;refine T ?_;intro bF aI bG aJ;exact rt
   refine T ?_;intro bI aK;refine LW.bd [] #[vI 0,vI 0] ?_;refine T ?_;intro bJ aL bK aM;exact rt
 refine T ?_;intro bZ a2 h a5 a8 bL aN;refine CW.fl [2,4,5,11,117] fun e=>?_;refine gc h ?_ ?_<;>intro _ h
 · refine jt [(0,vI 2)] #[vI 2,vI 0] ?_;refine T ?_;intro bM aO bN aP;exact rt
 refine T ?_;intro bO aQ;refine LW.bd [] #[vI 0,vI 0] ?_;refine T ?_;intro bP aR bQ aS;exact rt
instance k_175:Ct prog 175:=⟨by kernel_rfl,@G7⟩
theorem Fv {w0 N i r} (h:ni N i=some r) {d j f} (k:j=i.parts.length) (l:rb w0 d f i.parts) :
    gV prog 75 #[.agg #[vI i.Pt,vS d j f]] w0 (fun v w=>v=.bool r∧St w0 [] w []):=by
 subst k;unfold ni at h;refine gV.fn func75 fun e=>?_;have aB:=St.start w0;refine T ?_;intro a3 a4 A;obtain ⟨aj,C,H⟩:=ob h;refine CW.jn [1] [0] [(16,.bool aj)] A (h1:=?_) (h2:=?_)
 · have h:=C;refine T ?_;intro a7 aI h a5 aC;refine bH h ?_ ?_<;>intro _ h
   · exact rt
   refine T ?_;intro a8 aJ h a6 aD;exact rt
 intro e aM aE;have h:=H;refine gc h ?_ ?_<;>intro _ h
 · exact rt
 refine jt [] #[vI 0,vI 0,vI 0] ?_;refine T ?_;intro g aN aF aO B;refine go ?_;obtain ⟨n,q,m⟩:=ob h;refine CW.it q (fun b e wb=>En e [(3,.pointer (some ⟨g,0,none⟩)),(19,vS d i.parts.length f),(20,vI (i.parts.length:Int)),(21,vI b.1)]∧St w0 [] wb [bx g 48 [vI b.2.1,vI b.2.2.1,vI b.2.2.2]]) (fun o x e wb=>match o with | .inl b=>x=.exit 0∧En e [(3,.pointer (some ⟨g,0,none⟩))]∧St w0 [] wb [bx g 48 [vI b.2.1,vI b.2.2.1,vI b.2.2.2]] | .inr r=>x=.ret∧∃ u,u=r∧∃ v,kz prog f75.results e wb v∧v=.bool u∧St w0 [] wb []) ?_ (B.po [0]) ?_
 · intro b e aP o hM h;obtain ⟨hE,aG⟩:=hM;obtain ⟨e,rfl⟩:=hE.out;refine gc h ?_ ?_<;>intro _ h
   · refine gb h fun aY z h=>?_;obtain ⟨ar,aK,G,rfl,U,W,X,⟨ak,au,am,av,an,aw,ao,ax,ap,ay,aq,az,rfl,Y,Z,aa,ab,ac,ad⟩,V⟩:=l.idx z;refine go ?_;refine T ?_;intro aA aQ aH aR I aZ ae h aS p;refine CW.fl [3,5,19,20,21,27] fun e=>?_;refine gc h ?_ ?_<;>intro _ h
     · exact rt
     refine jK ?_;have J:=p.drew;refine T ?_;intro a0 af h aT K a1 ah h aU L aV M;exact rt
   exact rt
 intro x e aW hM;rcases n with n | aL
 · obtain ⟨rfl,hM⟩:=hM;obtain ⟨hE,O⟩:=hM;obtain ⟨e,rfl⟩:=hE.out;have h:=m;refine T ?_;intro a2 ai h aX R;exact rt
 obtain ⟨rfl,u,rfl,hM⟩:=hM;cases m;exact And.intro trivial hM
instance k_75:Ct prog 75:=⟨by kernel_rfl,@Fv⟩
theorem Fy {w0 N aJ aK d r} (h:sQ N aJ aK d=some r) {V ac W} (ak:ac=aJ.length) (k:rb w0 V W aJ) :
    gV prog 216 #[vS V ac W,vI aK,.agg #[vI d.Pu,vI d.jy,vI d.kJ,vI d.jR,vI d.Pf,vI d.ka]] w0 (fun v w=>∃ m n,v=.tuple #[vS m r.1.length n,vI r.2]∧St w0 [] w [sl m n r.1]):=by
 subst ak;unfold sQ at h;refine gV.fn func216 fun e=>?_;have ck:=St.start w0;refine T ?_;intro ai cP cl am cr h af ah cQ aN;refine go ?_;obtain ⟨ap,aD,an⟩:=ob h;refine CW.mono (CW.lx [0,1,5,8,18,19] [0,1] [0,1,5,8] 0 (fun aP=>[(20,vI aP)]) (fun r x e wb=>x=.ret∧∃ u,u=r∧∃ v,kz prog f216.results e wb v∧∃ m n,v=.tuple #[vS m u.1.length n,vI u.2]∧St w0 [] wb [sl m n u.1]) aN aD (hb:=?_)) ?_
 · intro aP e cR o cm h;refine gc h ?_ ?_<;>intro _ h
   · refine gb h fun cH aF h=>?_;obtain ⟨b8,cs,a5,rfl,bk,bv,bC,⟨b3,ce,rfl,bI⟩,bq⟩:=k.idx aF;refine go ?_;refine T ?_;intro cj cx cn cy co cI bL h cz cp;refine CW.fl [0,1,5,8,18,19,20,27] fun e=>?_;refine gc h ?_ ?_<;>intro _ h
     · exact rt
     exact rt
   exact rt
 intro x e cA hM;rcases ap with ap | bT
 · obtain ⟨rfl,hM⟩:=hM;obtain ⟨e,rfl,ao⟩:=eo hM;have h:=an;refine gs ?_;obtain ⟨aO,aC,aM⟩:=ob h;refine CW.jn [0,1,5,8] [0,1] [(63,.bool aO)] ao (h1:=?_) (h2:=?_)
   · have h:=aC;refine dW ?_;have cq:=ao.drew;refine gB h ?_ ?_<;>intro _ h
     · exact rt
     refine T ?_;intro cJ bM h cB ba;refine bH h ?_ ?_<;>intro _ h
     · exact rt
     refine T ?_;intro cK bN h cC bb;refine bH h ?_ ?_<;>intro _ h
     · exact rt
     refine gB h ?_ ?_<;>intro bp h
     · exact rt
     refine gb h fun cL aG h=>?_;obtain ⟨b9,ct,a6,rfl,bl,bw,bD,⟨b4,cf,rfl,bJ⟩,br⟩:=k.idx aG;refine go ?_;refine T ?_;intro cM bO h cD bc;exact rt
   intro e cE ar;have h:=aM;refine gc h ?_ ?_<;>intro _ h
   · exact rt
   refine jK ?_;have bd:=ar.drew;refine gb h fun cN aH h=>?_;obtain ⟨ca,cu,a7,rfl,bm,bz,bE,⟨b5,cg,rfl,aE⟩,bs⟩:=k.idx aH;refine go ?_;refine T ?_;have ⟨cO,aI,h⟩:=ob h;obtain ⟨cb,cv,a8,rfl,bn,bA,bF,rfl,bt⟩:=aE.idx aI;refine go ?_;refine T ?_;intro aq bP h cF be U bQ h b6 j cG au;refine dW ?_;have X:=au.drew;refine gb h fun aQ C h=>?_;obtain ⟨g,b,hae,bB,bG⟩:=X.hZ (α:=iC) (i:=0) rfl C;subst hae;refine go ?_;obtain ⟨b2,ab,bf⟩:=X.freeze (α:=iC) 0 rfl;obtain ⟨cc,cw,a9,hae,bo,_,_,aB,bu⟩:=ab.ju.idx C;cases hae;obtain ⟨b7,ci,rfl,bK⟩:=aB;refine T ?_;intro b0 aV h bU bg H aW h p A bV av;refine CW.fl [1,5,8,11,12,13,95] fun e=>?_;refine gc h ?_ ?_<;>intro _ h
   · exact rt
   refine go ?_;have aw:=av.iD (α:=iC) 1 rfl ab;have ax:=aw.pk (M:=[sl p A H.1]++[sl (some ⟨g,b,none⟩) j U,sl af ah am,bx ai 174 (qT d)]) [0,1,2,3];have ⟨ad,f,h⟩:=ob h;refine LW.vl (M:=[sl p A H.1]) (L:=[sl (some ⟨g,b,none⟩) j U,sl af ah am,bx ai 174 (qT d)]) (z:=aQ) (z':=(iC.mk H.1)) (o:=0) ax (i:=0) rfl C xn rfl (by show _=b+(aK:Int).toNat * 1+0;omega) rfl rfl rfl rfl (whole (fun w G hG=>⟨p,A,rfl,hG⟩)) ?_;intro bW Y hf;rw [oi f] at Y;refine jK ?_;have Z:=Y.drew;refine gb h fun aL l h=>?_;obtain ⟨a1,bR,hae,K,O⟩:=Z.hZ (α:=iC) (i:=0) rfl l;cases hae;(try refine AW.ux (i:=3) (by decide +kernel) rfl (by kernel_rfl) rfl rfl (il.ix underlying226 zx rfl rfl K (by rw [gS (oi f)];exact O)) ?_);refine go ?_;obtain ⟨aZ,J,bi⟩:=Z.freeze (α:=iC) 0 rfl;obtain ⟨a2,bS,aR,hae,aS,_,_,aj,aT⟩:=J.ju.idx l;cases hae;obtain ⟨a0,a3,rfl,aU⟩:=aj;refine T ?_;intro b1 aX h bX bj I aY h q B bY ay;refine gc h ?_ ?_<;>intro _ h
   · exact rt
   refine go ?_;(try refine LW.u (il.ix underlying226 zx rfl rfl K (by rw [gS (oi f)];exact O)) rfl ?_);refine go ?_;have az:=ay.iD (α:=iC) 1 rfl J;have aA:=az.pk (M:=[sl q B I.1]++[sl (some ⟨g,b,none⟩) j ad,sl af ah am,bx ai 174 (qT d)]) [0,1,2,3];have ⟨ae,R,h⟩:=ob h;refine LW.vl (M:=[sl q B I.1]) (L:=[sl (some ⟨g,b,none⟩) j ad,sl af ah am,bx ai 174 (qT d)]) (z:=aL) (z':=(iC.mk I.1)) (o:=0) aA (i:=0) rfl l xn rfl (by show _=b+(d.jy:Int).toNat * 1+0;omega) rfl rfl rfl rfl (whole (fun w G hG=>⟨q,B,rfl,hG⟩)) ?_;intro bZ aa hf;rw [oi R] at aa;refine go ?_;replace h:=oi h;subst h;exact Rc tt tt ⟨(some ⟨g,b,none⟩),j,(show (.tuple #[vS (some ⟨g,b,none⟩) U.length j,vI aq]:Value)=.tuple #[vS (some ⟨g,b,none⟩) ae.length j,vI aq] by rw [show U.length=ae.length from ((gS (oi f)).trans (gS (oi R)))]),aa.pk [0]⟩
 obtain ⟨rfl,u,rfl,hM⟩:=hM;cases an;exact And.intro trivial hM
instance k_216:Ct prog 216:=⟨by kernel_rfl,@Fy⟩
theorem E3 {w0 N b aC r} (h:oJ N b aC=some r) {j I q} (V:I=b.Pe.Pd.length) (aD:rb w0 j q b.Pe.Pd) {k J u} (W:J=b.own.length) (aE:rb w0 k u b.own) {l K x} (X:K=b.Pg.length) (aF:rb w0 l x b.Pg) {m O z} (Y:O=b.py.ag.length) (ab:rb w0 m z b.py.ag) {n R A} (Z:R=b.py.gc.gQ.length) (aG:rb w0 n A b.py.gc.gQ) {p U B} (aa:U=b.gR.length) (aH:rb w0 p B b.gR) :
    gV prog 156 #[.agg #[vS j I q,vS k J u,vS l K x,vS m O z,vI b.py.gc.Ph,vI b.py.gc.Pr,vI b.py.gc.Pj,vS n R A,vS p U B,vI b.Pn,vI b.Pp,vI b.cd.gE,vI b.cd.gX,vI b.cd.g8,vI b.g5,vI b.Pm],vI aC] w0 (fun v w=>∃ ad af,v=vS ad r.length af∧St w0 [] w [sl ad af r]):=by
 subst V W X Y Z aa;unfold oJ at h;refine gV.fn func156 fun e=>?_;have bc:=St.start w0;refine T ?_;intro aj bu aw;refine LW.b0 (α:=Int) aw ?_;intro aI aJ bv bd hf;refine T ?_;intro bz bf h bw be;refine gc h ?_ ?_<;>intro _ h
 · exact rt
 refine T ?_;intro aq bg h ac ae bn ax;refine go ?_;obtain ⟨bl,an,av⟩:=ob h;refine CW.ie an 0 (fun g e wb=>∃ (d:Ad) (f:Nat),En e [(2,.pointer (some ⟨aj,0,none⟩)),(5,vS d g.1.length f),(17,vS ac aq.length ae),(18,vI (aq.length:Int)),(19,vI g.2)]∧St w0 [] wb [sl ac ae aq,sl d f g.1,bx aj 50 (qP j q k u l x m z n A p B b)]) ?_ ⟨aI,aJ,ax.po [0,1,2]⟩ ?_
 · intro g e aB o hM h;obtain ⟨d,f,hE,ah⟩:=hM;obtain ⟨e,rfl⟩:=hE.out;refine jw [2,5,17,18,19,20] fun e=>?_;refine gc h ?_ ?_<;>intro _ h
   · refine gb h fun br H h=>?_;obtain ⟨a5,bi,hae,aT,aV⟩:=ah.hZ (α:=Bool) (i:=0) rfl H;subst hae;refine go ?_;obtain ⟨ar,C,ay⟩:=ah.freeze (α:=Bool) 0 rfl;obtain ⟨a6,bj,aK,hae,aP,_,_,ak,aR⟩:=C.ju.idx H;cases hae;obtain rfl:=ak;refine T ?_;obtain ⟨aA,am,au⟩:=ob h;refine CW.jn [2,5,6,17,18,19] [0,1,2] [(34,.bool aA)] ay (h1:=?_) (h2:=?_)
     · have h:=am;refine gB h ?_ ?_<;>intro _ h
       · refine gb h fun bs ao h=>?_;obtain ⟨a7,bk,aL,rfl,aQ,aU,aW,⟨a0,a8,a1,a9,a2,ba,rfl,aX,aY,aZ⟩,aS⟩:=ab.idx ao;refine go ?_;refine T ?_;exact rt
       exact rt
     intro e bo ai;have h:=au;refine gc h ?_ ?_<;>intro _ h
     · refine gb h fun bt ap h=>?_;refine LW.kB (M:=[]) (L:=[fz aB ar,sl d f g.1,bx aj 50 (qP j q k u l x m z n A p B b)]) (vs:=#[vI g.2]) (i:=1) pI rfl (by kernel_rfl) rfl rfl ap ai rfl (fun w G hG=>by cases (show G=[] from hG);exact ⟨rfl,rfl⟩) rfl rfl ?_;intro bm a4 bb bp az hf;refine go ?_;have aM:=az.iD (α:=Bool) 0 rfl C;exact rt
     refine go ?_;have aN:=ai.iD (α:=Bool) 0 rfl C;exact rt
   exact rt
 rintro e bq ⟨d,f,hE,aO⟩;obtain ⟨e,rfl⟩:=hE.out;have h:=av;exact rt
instance k_156:Ct prog 156:=⟨by kernel_rfl,@E3⟩
theorem DG {w0 N d bl bm r} (h:rl N d bl bm=some r) {z aG H} (aQ:aG=d.Pe.Pd.length) (ap:rb w0 z H d.Pe.Pd) {A aH I} (aR:aH=d.own.length) (aq:rb w0 A I d.own) {B aI J} (aS:aI=d.Pg.length) (ar:rb w0 B J d.Pg) {n aJ p} (aT:aJ=d.py.ag.length) (k:rb w0 n p d.py.ag) {C aK K} (aU:aK=d.py.gc.gQ.length) (au:rb w0 C K d.py.gc.gQ) {G aL L} (aV:aL=d.gR.length) (av:rb w0 G L d.gR) :
    gV prog 120 #[.agg #[vS z aG H,vS A aH I,vS B aI J,vS n aJ p,vI d.py.gc.Ph,vI d.py.gc.Pr,vI d.py.gc.Pj,vS C aK K,vS G aL L,vI d.Pn,vI d.Pp,vI d.cd.gE,vI d.cd.gX,vI d.cd.g8,vI d.g5,vI d.Pm],vI bl,vI bm] w0 (fun v w=>∃ X ai, ∃ Y aj, ∃ Z ak, ∃ aa am, ∃ ab an, ∃ ac ao,v=.agg #[vS X r.Pe.Pd.length ai,vS Y r.own.length aj,vS Z r.Pg.length ak,vS aa r.py.ag.length am,vI r.py.gc.Ph,vI r.py.gc.Pr,vI r.py.gc.Pj,vS ab r.py.gc.gQ.length an,vS ac r.gR.length ao,vI r.Pn,vI r.Pp,vI r.cd.gE,vI r.cd.gX,vI r.cd.g8,vI r.g5,vI r.Pm]∧St w0 [] w [sl X ai r.Pe.Pd,sl Y aj r.own,sl Z ak r.Pg,sl aa am r.py.ag,sl ab an r.py.gc.gQ,sl ac ao r.gR]):=by
 subst aQ aR aS aT aU aV;unfold rl at h;refine gV.fn func120 fun e=>?_;have bs:=St.start w0;refine vv bs fun bn cq bt=>?_;refine LW.al bt fun bo cr m=>?_;refine gb h fun f bz h=>?_;refine LW.cl (yV bz rfl (m.rB ap) rfl (m.rB aq) rfl (m.rB ar) rfl (m.rB k) rfl (m.rB au) rfl (m.rB av)) ?_;rintro _ b0 ⟨aM,aO,aN,aP,R,ad,U,ae,V,af,W,ah,rfl,hs⟩;have bu:=m.add hs;refine LW.al bu fun aW b1 bv=>?_;refine LW.st bv 0 fun b2 g=>?_;refine gs ?_;obtain ⟨bA,a2,bp⟩:=ob h;refine CW.jn [1,2,3,6,7] [0,1,2,3,4,5,6,7,8] [(19,.bool bA)] g (h1:=?_) (h2:=?_)
 · have h:=a2;refine gb h fun ci ba h=>?_;refine LW.c0 (A3 ba rfl (g.rB ap) rfl (g.rB aq) rfl (g.rB ar) rfl (g.rB k) rfl (g.rB au) rfl (g.rB av)) g fun b3 aX=>?_;refine gB h ?_ ?_<;>intro _ h
   · refine go ?_;cases oi h;exact aX.po [0,1,2,3,4,5,6,7,8]
   refine gb h fun cj bb h=>?_;refine go ?_;refine LW.c0 (AB bb) aX fun b4 bw=>?_;refine go ?_;cases oi h;exact bw.po [0,1,2,3,4,5,6,7,8]
 intro e b5 aY;have h:=bp;refine gc h ?_ ?_<;>intro _ h
 · refine vb aY 7 fun b6 aw=>?_;refine go ?_;cases h;exact And.intro trivial ⟨_,kz.one (ij.b aw 7 rfl kU rfl rfl),aM,aO,aN,aP,R,ad,U,ae,V,af,W,ah,rfl,aw.pk [1,2,3,4,5,6]⟩
 refine go ?_;obtain ⟨bZ,a5,br⟩:=ob h;refine CW.ie a5 0 (fun x e wb=>En e [(1,vI bl),(2,vI bm),(3,.pointer (some ⟨bn,0,none⟩)),(6,.pointer (some ⟨bo,0,none⟩)),(7,.pointer (some ⟨aW,0,none⟩)),(23,vS n d.py.ag.length p),(24,vI (d.py.ag.length:Int)),(25,vI x.2)]∧St w0 [] wb [bx aW 50 [vS aM f.Pe.Pd.length aO,vS aN f.own.length aP,vS R f.Pg.length ad,vS U x.1.length ae,vI f.py.gc.Ph,vI f.py.gc.Pr,vI f.py.gc.Pj,vS V f.py.gc.gQ.length af,vS W f.gR.length ah,vI f.Pn,vI f.Pp,vI f.cd.gE,vI f.cd.gX,vI f.cd.g8,vI f.g5,vI f.Pm],sl aM aO f.Pe.Pd,sl aN aP f.own,sl R ad f.Pg,sl U ae x.1,sl V af f.py.gc.gQ,sl W ah f.gR,bx bo 50 [vS none 0 0,vS none 0 0,vS none 0 0,vS none 0 0,vI 0,vI 0,vI 0,vS none 0 0,vS none 0 0,vI 0,vI 0,vI 0,vI 0,vI 0,vI 0,vI 0],bx bn 50 (qP z H A I B J n p C K G L d)]) ?_ (aY.po [0,1,2,3,4,5,6,7,8]) ?_
 · intro x e b7 o hM h;obtain ⟨e,rfl,M⟩:=eo hM;refine gc h ?_ ?_<;>intro _ h
   · refine gb h fun ck bc h=>?_;obtain ⟨bP,bW,bD,rfl,aC,bE,bG,⟨bM,bS,bN,bT,bO,bU,rfl,bJ,bK,bL⟩,a4⟩:=k.idx bc;refine go ?_;refine LW.l (iZ.uI w0 uK rfl rfl (fun j u hu=>a4 j u hu)) (M.same _ aC.1 aC.2) rfl ?_;refine LW.al M fun bV b8 aZ=>?_;refine vb aZ 0 fun b9 q=>?_;refine gs ?_;obtain ⟨bB,a3,bq⟩:=ob h;refine CW.jn [1,2,3,6,7,8,23,24,25] [1,2,3,4,5,6,7,8,9] [(44,.bool bB)] q (h1:=?_) (h2:=?_)
     · have h:=a3;refine gB h ?_ ?_<;>intro _ h
       · refine go ?_;have ⟨cm,bd,h⟩:=ob h;refine go ?_;refine LW.c0 (uk bd rfl (q.rB k)) q fun ca a0=>?_;refine go ?_;cases oi h;exact a0.po [1,2,3,4,5,6,7,8,9]
       refine go ?_;cases oi h;exact q.po [1,2,3,4,5,6,7,8,9]
     intro e cb ax;have h:=bq;refine jw [1,2,3,6,7,8,23,24,25,44] fun e=>?_;refine gc h ?_ ?_<;>intro _ h
     · refine dW ?_;have ay:=ax.drew;refine gb h fun cn aD h=>?_;obtain ⟨bQ,bX,hae,bF,bI⟩:=ay.hZ (α:=gP) (i:=4) rfl aD;subst hae;refine go ?_;refine gb h fun co O h=>?_;refine jO 10 ?_;refine LW.se 6 ay 4 aD O (hM:=(iU (fun w cs F hF=>by obtain ⟨be,bi,bf,bj,bg,bk,rfl,hH⟩:=hF;exact ⟨be,bi,bf,bj,bg,bk,rfl,hH⟩))) fun cc az=>?_;refine jn ?_;have ⟨cp,aE,h⟩:=ob h;obtain ⟨bR,bY,hae,a7,a9⟩:=az.hZ (α:=gP) (i:=4) rfl aE;cases hae;(try refine AW.ux (i:=11) (by decide +kernel) rfl (by kernel_rfl) rfl rfl (il.ix underlying41 mh rfl rfl a7 (by rw [gS (oi O)];exact a9)) ?_);refine gb h fun bC aF h=>?_;refine jO 13 ?_;refine LW.se 7 az 4 aE aF (hM:=(iU (fun w cs F hF=>by obtain ⟨be,bi,bf,bj,bg,bk,rfl,hH⟩:=hF;exact ⟨be,bi,bf,bj,bg,bk,rfl,hH⟩))) fun ce aA=>?_;refine jn ?_;refine go ?_;rw [show x.1.length=bC.length from ((gS (oi O)).trans (gS (oi aF)))] at aA;cases oi h;exact ⟨rfl,(aA.po [0,1,2,3,4,5,6,7,8])⟩
     refine go ?_;cases oi h;exact ⟨rfl,(ax.po [0,1,2,3,4,5,6,7,8])⟩
   refine go ?_;cases oi h;exact ⟨trivial,rfl,(M.po [0,1,2,3,4,5,6,7,8])⟩
 rintro e cf ⟨hE,a1⟩;obtain ⟨e,rfl⟩:=hE.out;have h:=br;refine vb a1 7 fun cg aB=>?_;refine go ?_;cases h;exact And.intro trivial ⟨_,kz.one (ij.b aB 7 rfl kU rfl rfl),aM,aO,aN,aP,R,ad,U,ae,V,af,W,ah,rfl,aB.pk [1,2,3,4,5,6]⟩
instance k_120:Ct prog 120:=⟨by kernel_rfl,@DG⟩
end Go.Kx
