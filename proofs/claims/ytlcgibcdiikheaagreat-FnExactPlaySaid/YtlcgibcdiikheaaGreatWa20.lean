import Derived.Test.YtlcgibcdiikheaaGreatWa17
namespace Go.Kx
open Go Go.RowKit Go.Proofs
open Tryz
set_option maxRecDepth 10000
set_option maxHeartbeats 8000000
set_option linter.unusedVariables false
set_option linter.unusedSimpArgs false
theorem zL {w0 N j r} (h:nm N j=some r) {b f d} (g:f=j.parts.length) (i:rb w0 b d j.parts) :
    gV prog 16 #[.agg #[vI j.Pt,vS b f d]] w0 (fun v w=>v=.bool r∧St w0 [] w []):=by
 subst g;unfold nm at h;refine gV.fn func16 fun e=>?_;have ap:=St.start w0;refine T ?_;intro aM aN q;obtain ⟨Z,A,C⟩:=ob h;refine CW.jn [1] [0] [(14,.bool Z)] q (h1:=?_) (h2:=?_)
 · have h:=A;refine T ?_;intro aQ ay h aO aq;refine bH h ?_ ?_<;>intro _ h
   · exact rt
   refine T ?_;intro aR az h aP ar;exact rt
 intro e aC z;have h:=C;refine gc h ?_ ?_<;>intro _ h
 · exact rt
 refine go ?_;obtain ⟨l,n,k⟩:=ob h;refine CW.mono (CW.lx [1] [0] [1] 0 (fun m=>[(3,vI m)]) (RT prog f16.results (fun u=>.bool u) w0 []) z n (hb:=?_)) ?_
 · intro m e aD o au h;refine gc h ?_ ?_<;>intro _ h
   · refine gb h fun aI p h=>?_;obtain ⟨ah,aA,B,rfl,H,J,K,⟨aa,ai,ab,aj,ac,ak,ad,am,ae,an,af,ao,rfl,L,M,O,R,U,V⟩,I⟩:=i.idx p;refine go ?_;refine T ?_;intro aJ W h aE av;refine CW.fl [1,3,28] fun e=>?_;refine gc h ?_ ?_<;>intro _ h
     · exact rt
     exact rt
   exact rt
 intro x e aF hM;rcases l with l | aB
 · obtain ⟨rfl,hM⟩:=hM;obtain ⟨e,rfl,aw⟩:=eo hM;have h:=k;refine T ?_;intro aK X h aG ax aL Y h aH G;exact rt
 obtain ⟨rfl,u,rfl,hM⟩:=hM;cases k;exact And.intro trivial hM
instance k_16:Ct prog 16:=⟨by kernel_rfl,@zL⟩
theorem HO {w0 N d a2 r} (h:uj N d a2=some r) {J aj U} (aq:aj=d.Pe.Pd.length) (A:rb w0 J U d.Pe.Pd) {K ak V} (ar:ak=d.own.length) (B:rb w0 K V d.own) {L am W} (au:am=d.Pg.length) (k:rb w0 L W d.Pg) {M an X} (av:an=d.py.ag.length) (m:rb w0 M X d.py.ag) {O ao Y} (aw:ao=d.py.gc.gQ.length) (C:rb w0 O Y d.py.gc.gQ) {R ap Z} (ax:ap=d.gR.length) (G:rb w0 R Z d.gR) :
    gV prog 281 #[.agg #[vS J aj U,vS K ak V,vS L am W,vS M an X,vI d.py.gc.Ph,vI d.py.gc.Pr,vI d.py.gc.Pj,vS O ao Y,vS R ap Z,vI d.Pn,vI d.Pp,vI d.cd.gE,vI d.cd.gX,vI d.cd.g8,vI d.g5,vI d.Pm],vI a2] w0 (fun v w=>v=vI r∧St w0 [] w []):=by
 subst aq ar au av aw ax;unfold uj at h;refine gV.fn func281 fun e=>?_;have aX:=St.start w0;refine vv aX fun ci cj n=>?_;refine gb h fun cm aZ h=>?_;refine LW.cl (xg aZ rfl (n.rB A) rfl (n.rB B) rfl (n.rB k) rfl (n.rB m) rfl (n.rB C) rfl (n.rB G)) ?_;rintro _ ck ⟨cf,cg,rfl,hs⟩;have az:=n.add hs;refine gc h ?_ ?_<;>intro _ h
 · refine go ?_;cases h;exact fi az
 refine go ?_;obtain ⟨bt,ay,aA⟩:=ob h;refine CW.mono (CW.lb [2,5] [0,1] [6] 0 (fun aV=>[(6,vI aV.1),(7,vI aV.2)]) az ay (hb:=?_)) ?_
 · intro aV e bv o ab h;refine jw [2,5,6,7,17] fun e=>?_;refine gc h ?_ ?_<;>intro _ h
   · refine gs ?_;refine CW.block ?_;refine gs ?_;obtain ⟨a0,aI,aW⟩:=ob h;refine CW.jn [2,5,6,7] [0,1] [(57,.bool a0)] ab (h1:=?_) (h2:=?_)
     · have h:=aI;refine dW ?_;have ac:=ab.drew;refine gB h ?_ ?_<;>intro f h
       · refine go ?_;cases oi h;exact ac.po [0,1]
       refine gb h fun b5 ah h=>?_;obtain ⟨bG,bV,hae,ba,bg⟩:=ac.hZ (α:=Int) (i:=0) rfl ah;subst hae;refine go ?_;obtain ⟨bw,ae,g⟩:=ac.freeze (α:=Int) 0 rfl;obtain ⟨bI,bW,a3,hae,I,_,_,aE,aJ⟩:=ae.ju.idx ah;cases hae;obtain rfl:=aE;refine AW.take (i:=12) rfl (by kernel_rfl) (lJ rfl rfl f) rfl (iZ.jz bv.drew ki rfl (aJ 0 _ rfl)) (g.zC 0 rfl I) ?_;have ⟨b6,aP,h⟩:=ob h;obtain ⟨bJ,bX,a5,rfl,p,bb,bi,⟨bA,bP,bB,bQ,bC,bR,rfl,bn,bo,bp⟩,aK⟩:=m.idx aP;refine go ?_;refine AW.take (i:=15) rfl (by kernel_rfl) (lJ rfl rfl f) rfl (iZ.jz w0 ki rfl (aK 3 _ rfl)) (g.same _ p.1 p.2) ?_;refine AW.u (i:=21) rfl (by kernel_rfl) (lJ rfl rfl f) rfl (il.fa Nt rfl) ?_;refine gb h fun b7 aQ h=>?_;obtain ⟨bK,bY,a6,hae,q,bc,bj,aF,aL⟩:=m.idx aQ;cases hae;obtain ⟨bD,bS,bE,bT,bF,bU,rfl,bq,br,bs⟩:=aF;refine go ?_;refine AW.take (i:=30) rfl (by kernel_rfl) (lJ rfl rfl f) rfl (iZ.jz w0 ki rfl (aL 3 _ rfl)) (g.same _ q.1 q.2) ?_;have ⟨b8,aR,h⟩:=ob h;refine jO 16 ?_;refine (LW.gY (lJ rfl rfl f) ?_);refine LW.cl (wO aR rfl (g.rB A) rfl (g.rB B) rfl (g.rB k) rfl (g.rB m) rfl (g.rB C) rfl (g.rB G)) ?_;rintro _ b3 ⟨rfl,hs⟩;have b:=g.add hs;refine jN (.c (b.same _ q.1 q.2) (.c (b.ce 1) (.c (b.ce 1) (.c (b.ce 1) (jW (.c (b.zC 0 rfl I) (.c (b.ce 1) (jW (.c (b.ce 1) jZ))))))))) ?_;have ⟨b9,aS,h⟩:=ob h;obtain ⟨bL,bZ,a7,rfl,z,bd,bk,rfl,aM⟩:=k.idx aS;refine go ?_;refine AW.take (i:=20) rfl (by kernel_rfl) (lJ rfl rfl f) rfl (iZ.jz w0 ki rfl (aM 4 _ rfl)) (b.same _ z.1 z.2) ?_;have ⟨ca,aT,h⟩:=ob h;refine jO 31 ?_;refine (LW.gY (lJ rfl rfl f) ?_);refine LW.cl (wO aT rfl (b.rB A) rfl (b.rB B) rfl (b.rB k) rfl (b.rB m) rfl (b.rB C) rfl (b.rB G)) ?_;rintro _ b4 ⟨rfl,hs⟩;have j:=b.add hs;refine jN (.c (j.same _ z.1 z.2) (jW (.c (j.ce 1) (jW (.c (j.ce 1) (.c (j.same _ p.1 p.2) (.c (j.zC 0 rfl I) (.c (j.ce 1) (.c (j.ce 1) (.c (j.ce 1) jZ)))))))))) ?_;have ⟨cb,aU,h⟩:=ob h;obtain ⟨bM,b0,a8,hae,ad,be,bl,aG,aN⟩:=k.idx aU;cases hae;obtain rfl:=aG;refine go ?_;refine AW.take (i:=35) rfl (by kernel_rfl) (lJ rfl rfl f) rfl (iZ.jz w0 ki rfl (aN 4 _ rfl)) (j.same _ ad.1 ad.2) ?_;refine go ?_;have aY:=j.iD (α:=Int) 0 rfl ae;cases oi h;exact aY.po [0,1]
     intro e a1 H;have h:=aW;refine gc h ?_ ?_<;>intro _ h
     · refine gb h fun cc ai h=>?_;obtain ⟨bN,b1,hae,bf,bm⟩:=H.hZ (α:=Int) (i:=0) rfl ai;subst hae;refine go ?_;obtain ⟨bz,af,aa⟩:=H.freeze (α:=Int) 0 rfl;obtain ⟨bO,b2,a9,hae,aD,_,_,aH,aO⟩:=af.ju.idx ai;cases hae;obtain rfl:=aH;refine LW.l (iZ.jz a1 ki rfl (aO 0 _ rfl)) (aa.zC 0 rfl aD) rfl ?_;refine go ?_;have aB:=aa.iD (α:=Int) 0 rfl af;cases oi h;exact ⟨rfl,(aB.po [0,1])⟩
     refine go ?_;cases oi h;exact ⟨rfl,(H.po [0,1])⟩
   refine go ?_;cases oi h;exact ⟨trivial,rfl,(ab.po [0,1])⟩
 intro x e bu hM;obtain ⟨rfl,hM⟩:=hM;obtain ⟨e,rfl,aC⟩:=eo hM;have h:=aA;refine go ?_;cases h;exact fi aC
instance k_281:Ct prog 281:=⟨by kernel_rfl,@HO⟩
theorem DY {w0 N b aQ aR r} (h:ri N b aQ aR=some r) {g ac p} (aj:ac=b.Pe.Pd.length) (a7:rb w0 g p b.Pe.Pd) {j ad q} (ak:ad=b.own.length) (a9:rb w0 j q b.own) {k ae x} (am:ae=b.Pg.length) (ba:rb w0 k x b.Pg) {l af z} (an:af=b.py.ag.length) (aq:rb w0 l z b.py.ag) {m ah A} (ao:ah=b.py.gc.gQ.length) (bb:rb w0 m A b.py.gc.gQ) {n ai B} (ap:ai=b.gR.length) (bc:rb w0 n B b.gR) :
    gV prog 185 #[.agg #[vS g ac p,vS j ad q,vS k ae x,vS l af z,vI b.py.gc.Ph,vI b.py.gc.Pr,vI b.py.gc.Pj,vS m ah A,vS n ai B,vI b.Pn,vI b.Pp,vI b.cd.gE,vI b.cd.gX,vI b.cd.g8,vI b.g5,vI b.Pm],vI aQ,vI aR] w0 (fun v w=>∃ G M, ∃ H O, ∃ I R, ∃ J U, ∃ K V, ∃ L W,v=.agg #[vS G r.Pe.Pd.length M,vS H r.own.length O,vS I r.Pg.length R,vS J r.py.ag.length U,vI r.py.gc.Ph,vI r.py.gc.Pr,vI r.py.gc.Pj,vS K r.py.gc.gQ.length V,vS L r.gR.length W,vI r.Pn,vI r.Pp,vI r.cd.gE,vI r.cd.gX,vI r.cd.g8,vI r.g5,vI r.Pm]∧St w0 [] w [sl G M r.Pe.Pd,sl H O r.own,sl I R r.Pg,sl J U r.py.ag,sl K V r.py.gc.gQ,sl L W r.gR]):=by
 subst aj ak am an ao ap;unfold ri at h;refine gV.fn func185 fun e=>?_;have bK:=St.start w0;refine T ?_;intro aW cl bL aX cm bM d bR h aS aU aT aV ar ax au ay av az aw aA bW bN aB bX bO bY a1;obtain ⟨a3,aE,aY⟩:=ob h;refine CW.jn [1,2,3,6,7] [0,1,2,3,4,5,6,7,8] [(19,.bool a3)] a1 (h1:=?_) (h2:=?_)
 · have h:=aE;refine T ?_;intro cc bu h bZ bP;refine bH h ?_ ?_<;>intro _ h
   · exact rt
   refine T ?_;intro ce bv h b0 bQ;exact rt
 intro e b1 a2;have h:=aY;refine gc h ?_ ?_<;>intro _ h
 · refine T ?_;intro b2 be;exact rt
 refine go ?_;obtain ⟨bV,aG,a0⟩:=ob h;refine CW.ie aG 0 (fun f e wb=>En e [(1,vI aQ),(2,vI aR),(3,.pointer (some ⟨aW,0,none⟩)),(6,.pointer (some ⟨aX,0,none⟩)),(7,.pointer (some ⟨aB,0,none⟩)),(8,vI f.2)]∧St w0 [] wb [bx aB 50 [vS aS d.Pe.Pd.length aU,vS aT d.own.length aV,vS ar d.Pg.length ax,vS au f.1.length ay,vI d.py.gc.Ph,vI d.py.gc.Pr,vI d.py.gc.Pj,vS av d.py.gc.gQ.length az,vS aw d.gR.length aA,vI d.Pn,vI d.Pp,vI d.cd.gE,vI d.cd.gX,vI d.cd.g8,vI d.g5,vI d.Pm],sl aS aU d.Pe.Pd,sl aT aV d.own,sl ar ax d.Pg,sl au ay f.1,sl av az d.py.gc.gQ,sl aw aA d.gR,bx aX 50 [vS none 0 0,vS none 0 0,vS none 0 0,vS none 0 0,vI 0,vI 0,vI 0,vS none 0 0,vS none 0 0,vI 0,vI 0,vI 0,vI 0,vI 0,vI 0,vI 0],bx aW 50 (qP g p j q k x l z m A n B b)]) ?_ (a2.po [0,1,2,3,4,5,6,7,8]) ?_
 · intro f e b3 o hM h;obtain ⟨e,rfl,bf⟩:=eo hM;refine jw [1,2,3,6,7,8,26] fun e=>?_;refine gc h ?_ ?_<;>intro _ h
   · refine gb h fun cf aJ h=>?_;obtain ⟨bC,bS,bd,rfl,bl,bn,bp,⟨bz,bF,bA,bG,bB,bI,rfl,br,bs,bt⟩,bm⟩:=aq.idx aJ;refine go ?_;refine T ?_;intro bJ b4 bg b5 aC;obtain ⟨a4,aF,aZ⟩:=ob h;refine CW.jn [1,2,3,6,7,8] [1,2,3,4,5,6,7,8,9] [(49,.bool a4)] aC (h1:=?_) (h2:=?_)
     · have h:=aF;refine gB h ?_ ?_<;>intro _ h
       · refine T ?_;intro cg bw h b6 bi;exact rt
       exact rt
     intro e b7 X;have h:=aZ;refine gc h ?_ ?_<;>intro _ h
     · refine gb h fun ci Z h=>?_;obtain ⟨bD,bT,hae,bo,bq⟩:=X.hZ (α:=gP) (i:=4) rfl Z;subst hae;refine go ?_;refine gb h fun cj C h=>?_;refine LW.se 6 X 4 Z C (hM:=(iU (fun w cs F hF=>by obtain ⟨aK,aN,aL,aO,aM,aP,rfl,hH⟩:=hF;exact ⟨aK,aN,aL,aO,aM,aP,rfl,hH⟩))) fun b8 Y=>?_;refine gb h fun ck aa h=>?_;obtain ⟨bE,bU,hae,aH,aI⟩:=Y.hZ (α:=gP) (i:=4) rfl aa;cases hae;(try refine LW.u (il.ix underlying41 mh rfl rfl aH (by rw [gS (oi C)];exact aI)) rfl ?_);refine gb h fun a5 ab h=>?_;refine LW.se 7 Y 4 aa ab (hM:=(iU (fun w cs F hF=>by obtain ⟨aK,aN,aL,aO,aM,aP,rfl,hH⟩:=hF;exact ⟨aK,aN,aL,aO,aM,aP,rfl,hH⟩))) fun b9 aD=>?_;refine go ?_;rw [show f.1.length=a5.length from ((gS (oi C)).trans (gS (oi ab)))] at aD;exact rt
     exact rt
   exact rt
 rintro e ca ⟨hE,bj⟩;obtain ⟨e,rfl⟩:=hE.out;have h:=a0;refine T ?_;intro cb bk;exact rt
instance k_185:Ct prog 185:=⟨by kernel_rfl,@DY⟩
theorem Bt {w0 N b aD aE r} (h:od N b aD aE=some r) {L ae W} (am:ae=b.Pe.Pd.length) (aV:rb w0 L W b.Pe.Pd) {M af X} (an:af=b.own.length) (aW:rb w0 M X b.own) {O ah Y} (ao:ah=b.Pg.length) (aX:rb w0 O Y b.Pg) {R ai Z} (ap:ai=b.py.ag.length) (aY:rb w0 R Z b.py.ag) {U aj aa} (aq:aj=b.py.gc.gQ.length) (aZ:rb w0 U aa b.py.gc.gQ) {V ak ab} (ar:ak=b.gR.length) (a0:rb w0 V ab b.gR) :
    gV prog 186 #[.agg #[vS L ae W,vS M af X,vS O ah Y,vS R ai Z,vI b.py.gc.Ph,vI b.py.gc.Pr,vI b.py.gc.Pj,vS U aj aa,vS V ak ab,vI b.Pn,vI b.Pp,vI b.cd.gE,vI b.cd.gX,vI b.cd.g8,vI b.g5,vI b.Pm],vI aD,vI aE] w0 (fun v w=>∃ p C, ∃ q G, ∃ x H, ∃ z I, ∃ A J, ∃ B K,v=.tuple #[.agg #[vS p r.1.Pe.Pd.length C,vS q r.1.own.length G,vS x r.1.Pg.length H,vS z r.1.py.ag.length I,vI r.1.py.gc.Ph,vI r.1.py.gc.Pr,vI r.1.py.gc.Pj,vS A r.1.py.gc.gQ.length J,vS B r.1.gR.length K,vI r.1.Pn,vI r.1.Pp,vI r.1.cd.gE,vI r.1.cd.gX,vI r.1.cd.g8,vI r.1.g5,vI r.1.Pm],vI r.2]∧St w0 [] w [sl p C r.1.Pe.Pd,sl q G r.1.own,sl x H r.1.Pg,sl z I r.1.py.ag,sl A J r.1.py.gc.gQ,sl B K r.1.gR]):=by
 subst am an ao ap aq ar;unfold od at h;refine gV.fn func186 fun e=>?_;have bJ:=St.start w0;refine T ?_;intro cf cg bK aP ci bL f bQ h aI aN aJ aO aF aK aG aL aH aM au av bU bM aw bV bN bW aS;obtain ⟨aU,aA,aQ⟩:=ob h;refine CW.jn [1,2,6,8,9] [0,1,2,3,4,5,6,7] [(25,.bool aU)] aS (h1:=?_) (h2:=?_)
 · have h:=aA;refine T ?_;intro ca bm h bX bO;refine bH h ?_ ?_<;>intro _ h
   · exact rt
   refine T ?_;intro cb bn h bY bP;exact rt
 intro e bZ aT;have h:=aQ;refine gc h ?_ ?_<;>intro _ h
 · refine T ?_;intro b0 a2;exact rt
 refine go ?_;obtain ⟨bT,aC,aR⟩:=ob h;refine CW.ie aC 0 (fun d e wb=>∃ (g:Ad) (l:Nat) (j:Ad) (m:Nat) (k:Ad) (n:Nat),En e [(1,vI aD),(2,vI aE),(6,.pointer (some ⟨aP,0,none⟩)),(8,.pointer (some ⟨aw,0,none⟩)),(9,vI d.1),(10,vI d.2.1)]∧St w0 [] wb [bx aw 50 [vS aI f.Pe.Pd.length aN,vS aJ f.own.length aO,vS g d.2.2.1.length l,vS j d.2.2.2.1.length m,vI d.2.2.2.2.1,vI d.2.2.2.2.2.1,vI d.2.2.2.2.2.2.1,vS k d.2.2.2.2.2.2.2.length n,vS au f.gR.length av,vI f.Pn,vI f.Pp,vI f.cd.gE,vI f.cd.gX,vI f.cd.g8,vI f.g5,vI f.Pm],sl aI aN f.Pe.Pd,sl aJ aO f.own,sl au av f.gR,bx aP 50 [vS none 0 0,vS none 0 0,vS none 0 0,vS none 0 0,vI 0,vI 0,vI 0,vS none 0 0,vS none 0 0,vI 0,vI 0,vI 0,vI 0,vI 0,vI 0,vI 0],sl g l d.2.2.1,sl j m d.2.2.2.1,sl k n d.2.2.2.2.2.2.2]) ?_ ⟨aF,aK,aG,aL,aH,aM,aT.po [0,1,2,6,7,3,4,5]⟩ ?_
 · intro d e b1 o hM h;obtain ⟨g,l,j,m,k,n,hE,a3⟩:=hM;obtain ⟨e,rfl⟩:=hE.out;refine gc h ?_ ?_<;>intro _ h
   · refine T ?_;intro cc bo h br bB bs bC b2 a4 bI b3 a5 b4 a7;refine T ?_;intro b5 ay;refine gc h ?_ ?_<;>intro _ h
     · refine jK ?_;have ac:=ay.drew;refine gb h fun ax ad h=>?_;obtain ⟨bz,bR,hae,bg,bi⟩:=ac.hZ (α:=gP) (i:=9) rfl ad;subst hae;refine go ?_;obtain ⟨bq,aB,a9⟩:=ac.freeze (α:=gP) 9 rfl;obtain ⟨bA,bS,a1,hae,be,_,_,az,bf⟩:=aB.ju.idx ad;cases hae;obtain ⟨bt,bD,bu,bE,bv,bF,rfl,bj,bk,bl⟩:=az;refine T ?_;refine go ?_;refine T ?_;refine AW.u (i:=12) rfl (by kernel_rfl) rfl rfl (il.build (vs:=[(0,vI ax.gE)]) (cs:=#[vI ax.gE,vI 0,vI 0]) rfl (by kernel_rfl)) ?_;refine T ?_;intro ce bp h bw bG b6 ba b7 bb;exact rt
     exact rt
   exact rt
 rintro e b8 ⟨g,l,j,m,k,n,hE,bc⟩;obtain ⟨e,rfl⟩:=hE.out;have h:=aR;refine T ?_;intro b9 bd;exact rt
instance k_186:Ct prog 186:=⟨by kernel_rfl,@Bt⟩
theorem EW {w0 N b a9 r} (h:re N b a9=some r) {m ak z} (au:ak=b.Pe.Pd.length) (Z:rb w0 m z b.Pe.Pd) {n am A} (av:am=b.own.length) (aa:rb w0 n A b.own) {p an B} (aw:an=b.Pg.length) (K:rb w0 p B b.Pg) {U ao C} (ax:ao=b.py.ag.length) (O:rb w0 U C b.py.ag) {q ap H} (ay:ap=b.py.gc.gQ.length) (ab:rb w0 q H b.py.gc.gQ) {x aq I} (az:aq=b.gR.length) (ac:rb w0 x I b.gR) :
    gV prog 285 #[.agg #[vS m ak z,vS n am A,vS p an B,vS U ao C,vI b.py.gc.Ph,vI b.py.gc.Pr,vI b.py.gc.Pj,vS q ap H,vS x aq I,vI b.Pn,vI b.Pp,vI b.cd.gE,vI b.cd.gX,vI b.cd.g8,vI b.g5,vI b.Pm],vI a9] w0 (fun v w=>∃ aA aB,v=vS aA r.length aB∧St w0 [] w [sl aA aB r]):=by
 subst au av aw ax ay az;unfold re at h;refine gV.fn func285 fun e=>?_;have a1:=St.start w0;refine vv a1 fun aF bT a2=>?_;refine go ?_;refine LW.b0 (α:=Int) a2 ?_;intro bc bd bU k hf;refine gb h fun bb a5 h=>?_;refine LW.cl (xg a5 rfl (k.rB Z) rfl (k.rB aa) rfl (k.rB K) rfl (k.rB O) rfl (k.rB ab) rfl (k.rB ac)) ?_;rintro _ bV ⟨aV,aY,rfl,hs⟩;have a4:=k.add hs;refine go ?_;obtain ⟨bG,aO,a0⟩:=ob h;refine CW.ie aO 0 (fun R e wb=>∃ (d:Ad) (f:Nat),En e [(2,.pointer (some ⟨aF,0,none⟩)),(5,vS d R.1.length f),(6,vS aV bb.length aY),(7,vI R.2)]∧St w0 [] wb [sl aV aY bb,sl d f R.1,bx aF 50 (qP m z n A p B U C q H x I b)]) ?_ ⟨bc,bd,a4.po [0,1,2]⟩ ?_
 · intro R e ar o hM h;obtain ⟨d,f,hE,aC⟩:=hM;obtain ⟨e,rfl⟩:=hE.out;refine jw [2,5,6,7,16] fun e=>?_;refine gc h ?_ ?_<;>intro _ h
   · refine jK ?_;have aD:=aC.drew;refine gb h fun ba aj h=>?_;obtain ⟨bu,bD,hae,bi,bl⟩:=aD.hZ (α:=Int) (i:=0) rfl aj;subst hae;refine go ?_;obtain ⟨aT,X,ae⟩:=aD.freeze (α:=Int) 0 rfl;obtain ⟨bv,bE,be,hae,W,_,_,aK,ai⟩:=X.ju.idx aj;cases hae;obtain rfl:=aK;refine AW.tk 6 rfl (iZ.jz ar.drew ki rfl (ai 0 _ rfl)) (ae.zC 0 rfl W) ?_;have ⟨bP,aP,h⟩:=ob h;obtain ⟨aW,a8,bf,rfl,J,bj,bm,⟨br,bz,bs,bA,bt,bB,rfl,bo,bp,bq⟩,aM⟩:=O.idx aP;refine go ?_;refine AW.tk 8 rfl (iZ.uI w0 uK rfl rfl (fun j u hu=>aM j u hu)) (ae.same _ J.1 J.2) ?_;refine jO 9 ?_;refine LW.al ae fun bC bJ Y=>?_;refine jN (.c (Y.same _ J.1 J.2) (.c (Y.zC 1 rfl W) (.c (Y.ce 3) jZ))) ?_;refine jO 10 ?_;refine LW.st Y 0 fun bK aE=>?_;refine jn ?_;refine gs ?_;obtain ⟨a6,aL,aZ⟩:=ob h;refine CW.jn [2,5,6,7] [1,2,3] [(43,.bool a6)] aE (h1:=?_) (h2:=?_)
     · have h:=aL;refine dW ?_;have g:=aE.drew;refine gB h ?_ ?_<;>intro ah h
       · refine gb h fun bQ aQ h=>?_;refine jO 9 ?_;refine (LW.gY (lJ rfl rfl ah) ?_);refine LW.cl (wO aQ rfl (g.rB Z) rfl (g.rB aa) rfl (g.rB K) rfl (g.rB O) rfl (g.rB ab) rfl (g.rB ac)) ?_;rintro _ bL ⟨rfl,hs⟩;have ad:=g.add hs;refine jn ?_;have ⟨bR,aR,h⟩:=ob h;obtain ⟨bw,bF,bg,rfl,af,bk,bn,rfl,aN⟩:=K.idx aR;refine go ?_;refine AW.take (i:=13) rfl (by kernel_rfl) (lJ rfl rfl ah) rfl (iZ.jz w0 ki rfl (aN 4 _ rfl)) (ad.same _ af.1 af.2) ?_;refine go ?_;cases oi h;exact ad.po [1,2,3]
       refine go ?_;cases oi h;exact g.po [1,2,3]
     intro e bM V;have h:=aZ;refine gc h ?_ ?_<;>intro _ h
     · refine go ?_;refine LW.l (iZ.jz ar.drew ki rfl (ai 0 _ rfl)) (V.zC 0 rfl W) rfl ?_;have ⟨bS,aS,h⟩:=ob h;refine LW.kB (M:=[]) (L:=[fz ar.drew aT,sl d f R.1,bx aF 50 (qP m z n A p B (some ⟨aW,a8,none⟩) C q H x I b)]) (vs:=#[vI ba]) (i:=1) pI rfl (by kernel_rfl) rfl rfl aS V rfl (fun w G hG=>by cases (show G=[] from hG);exact ⟨rfl,rfl⟩) rfl rfl ?_;intro bI aU aX bN aG hf;refine go ?_;have aH:=aG.iD (α:=Int) 0 rfl X;cases oi h;exact ⟨rfl,⟨aU,aX,aH.po [0,1,2]⟩⟩
     refine go ?_;have aI:=V.iD (α:=Int) 0 rfl X;cases oi h;exact ⟨rfl,⟨d,f,aI.po [0,1,2]⟩⟩
   refine go ?_;cases oi h;exact ⟨trivial,rfl,⟨d,f,aC.po [0,1,2]⟩⟩
 rintro e bO ⟨d,f,hE,aJ⟩;obtain ⟨e,rfl⟩:=hE.out;have h:=a0;refine go ?_;cases h;exact Ra ⟨d,f,rfl,aJ.pk [1]⟩
instance k_285:Ct prog 285:=⟨by kernel_rfl,@EW⟩
theorem FV {w0 N b R U r} (h:qv N b R U=some r) {d u l} (G:u=b.Pe.Pd.length) (V:rb w0 d l b.Pe.Pd) {f x m} (H:x=b.own.length) (W:rb w0 f m b.own) {g z n} (I:z=b.Pg.length) (X:rb w0 g n b.Pg) {i A o} (J:A=b.py.ag.length) (M:rb w0 i o b.py.ag) {j B p} (K:B=b.py.gc.gQ.length) (Y:rb w0 j p b.py.gc.gQ) {k C q} (L:C=b.gR.length) (Z:rb w0 k q b.gR) :
    gV prog 85 #[.agg #[vS d u l,vS f x m,vS g z n,vS i A o,vI b.py.gc.Ph,vI b.py.gc.Pr,vI b.py.gc.Pj,vS j B p,vS k C q,vI b.Pn,vI b.Pp,vI b.cd.gE,vI b.cd.gX,vI b.cd.g8,vI b.g5,vI b.Pm],vI R,vI U] w0 (fun v w=>v=.bool r∧St w0 [] w []):=by
 subst G H I J K L;unfold qv at h;refine gV.fn func85 fun e=>?_;have ar:=St.start w0;refine T ?_;intro aD aE au;refine T ?_;intro aH ax h aB aC aF av aI ay h aG aw;refine bH h ?_ ?_<;>intro _ h
 · refine gb h fun aA O h=>?_;obtain ⟨an,az,aa,rfl,ab,ad,ae,⟨aj,ao,ak,ap,am,aq,rfl,af,ah,ai⟩,ac⟩:=M.idx O;refine go ?_;refine T ?_;exact rt
 exact rt
instance k_85:Ct prog 85:=⟨by kernel_rfl,@FV⟩
theorem xo {w0 N b M O R r} (h:mG N b M O R=some r) {d u l} (G:u=b.Pe.Pd.length) (U:rb w0 d l b.Pe.Pd) {f x m} (H:x=b.own.length) (V:rb w0 f m b.own) {g z n} (I:z=b.Pg.length) (W:rb w0 g n b.Pg) {i A o} (J:A=b.py.ag.length) (X:rb w0 i o b.py.ag) {j B p} (K:B=b.py.gc.gQ.length) (Y:rb w0 j p b.py.gc.gQ) {k C q} (L:C=b.gR.length) (Z:rb w0 k q b.gR) :
    gV prog 266 #[.agg #[vS d u l,vS f x m,vS g z n,vS i A o,vI b.py.gc.Ph,vI b.py.gc.Pr,vI b.py.gc.Pj,vS j B p,vS k C q,vI b.Pn,vI b.Pp,vI b.cd.gE,vI b.cd.gX,vI b.cd.g8,vI b.g5,vI b.Pm],vI M,vI O,vI R] w0 (fun v w=>v=.tuple #[vI r.1,vI r.2]∧St w0 [] w []):=by
 subst G H I J K L;unfold mG at h;refine gV.fn func266 fun e=>?_;have aa:=St.start w0;refine T ?_;intro ak am ab ap af h an ac;refine gc h ?_ ?_<;>intro _ h
 · exact rt
 refine T ?_;intro aq ah h ao ad;refine gc h ?_ ?_<;>intro _ h
 · exact rt
 refine T ?_;intro ar ai h aj ae;refine CW.fl [10,26] fun e=>?_;refine gc h ?_ ?_<;>intro _ h
 · exact rt
 exact rt
instance k_266:Ct prog 266:=⟨by kernel_rfl,@xo⟩
end Go.Kx
