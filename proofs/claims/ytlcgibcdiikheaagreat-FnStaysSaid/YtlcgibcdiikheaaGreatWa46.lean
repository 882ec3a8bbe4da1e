import Derived.Test.YtlcgibcdiikheaaGreatWa41
import Derived.Test.YtlcgibcdiikheaaGreatWa42
namespace Go.Kx
open Go Go.RowKit Go.Proofs
open Tryz
set_option maxRecDepth 10000
set_option maxHeartbeats 8000000
set_option linter.unusedVariables false
set_option linter.unusedSimpArgs false
theorem IC {w0} {F:List Nat} {N f g r} (h:u7 N f g=some r) {A U J} (aa:U=f.QQ.so.length) {B V K} (ab:V=f.own.length) {C W L} (ac:W=f.QR.length) {G X M} (ad:X=f.heap.ag.length) {H Y O} (ae:Y=f.heap.gc.gQ.length) {I Z R} (af:Z=f.gR.length) (hS:St w0 F w0 [sl A J f.QQ.so,sl B K f.own,sl C L f.QR,sl G M f.heap.ag,sl H O f.heap.gc.gQ,sl I R f.gR]) :
    g8 prog 175 #[.agg #[vS A U J,vS B V K,vS C W L,vS G X M,vI f.heap.gc.QS,vI f.heap.gc.Q0,vI f.heap.gc.QT,vS H Y O,vS I Z R,vI f.QZ,vI f.QY,vI f.gP.bh,vI f.gP.gS,vI f.gP.gW,vI f.hY,vI f.QX],.agg #[vI g.py,vI g.a,vI g.b,vI g.c,vI g.d,vI g.e]] w0 (fun v w=>∃ i o, ∃ j p, ∃ k q, ∃ l u, ∃ m x, ∃ n z,v=.tuple #[.agg #[vS i r.1.QQ.so.length o,vS j r.1.own.length p,vS k r.1.QR.length q,vS l r.1.heap.ag.length u,vI r.1.heap.gc.QS,vI r.1.heap.gc.Q0,vI r.1.heap.gc.QT,vS m r.1.heap.gc.gQ.length x,vS n r.1.gR.length z,vI r.1.QZ,vI r.1.QY,vI r.1.gP.bh,vI r.1.gP.gS,vI r.1.gP.gW,vI r.1.hY,vI r.1.QX],.agg #[vI r.2.code,vI r.2.Q7]]∧St w0 F w [sl i o r.1.QQ.so,sl j p r.1.own,sl k q r.1.QR,sl l u r.1.heap.ag,sl m x r.1.heap.gc.gQ,sl n z r.1.gR]):=by
 subst aa ab ac ad ae af;unfold u7 at h;refine g8.fn func175 fun e=>?_;refine T ?_;intro b0 b4 a9 b1 b5 ba b2 b6 bb b3 b7 ah;refine gc h ?_ ?_<;>intro _ h
 · refine gs ?_;obtain ⟨ap,ak,an⟩:=ob h;refine CW.jn [2,3,4,5] [0,1,2,3,4,5,6,7,8,9] [(31,.bool ap)] ah (h1:=?_) (h2:=?_)
   · have h:=ak;refine T ?_;intro bR aT h bj bc;refine bH h ?_ ?_<;>intro _ h
     · exact rt
     refine jX [(0,vI g.b),(1,vI g.c),(2,vI g.d)] #[vI g.b,vI g.c,vI g.d] ?_;refine T ?_;intro bS aU h bk be;exact rt
   intro e bl bf;have h:=an;refine gc h ?_ ?_<;>intro _ h
   · refine jX [(0,vI 2)] #[vI 2,vI 0] ?_;refine T ?_;intro bm bg bn bi;exact rt
   refine jX [(0,vI g.b),(1,vI g.c),(2,vI g.d)] #[vI g.b,vI g.c,vI g.d] ?_;refine T ?_;intro ai aV h a3 a6 bo ar;refine CW.fl [2,4,5,6,7,51] fun e=>?_;refine gc h ?_ ?_<;>intro _ h
   · refine jX [(0,vI 6)] #[vI 6,vI 0] ?_;refine T ?_;intro bp au bq av;exact rt
   refine T ?_;intro br aw;refine LW.bd [(1,vI ai.2.1)] #[vI 0,vI ai.2.1] ?_;refine T ?_;intro bs ax bt ay;exact rt
 refine gc h ?_ ?_<;>intro _ h
 · refine gs ?_;obtain ⟨aq,am,ao⟩:=ob h;refine CW.jn [2,3,4,5] [0,1,2,3,4,5,6,7,8,9] [(82,.bool aq)] ah (h1:=?_) (h2:=?_)
   · have h:=am;refine T ?_;intro bT aW h bu az;refine bH h ?_ ?_<;>intro _ h
     · exact rt
     refine T ?_;intro bU aX h bv aA;refine bH h ?_ ?_<;>intro _ h
     · exact rt
     refine go ?_;refine T ?_;intro bV aY h bw aB;refine bH h ?_ ?_<;>intro _ h
     · exact rt
     refine T ?_;intro bW aZ h bz aC;exact rt
   intro e bA aj;have h:=ao;refine gc h ?_ ?_<;>intro _ h
   · refine jX [(0,vI 2)] #[vI 2,vI 0] ?_;refine T ?_;intro bB aD bC aE;exact rt
   refine mo ?_;have aF:=aj.drew;refine T ?_;intro bX a0 h bD aG bY a1 h a4 a7 bE aH;refine gc h ?_ ?_<;>intro _ h
   · refine jX [(0,vI 6)] #[vI 6,vI 0] ?_;refine T ?_;intro bF aI bG aJ;exact rt
   refine T ?_;intro bI aK;refine LW.bd [] #[vI 0,vI 0] ?_;refine T ?_;intro bJ aL bK aM;exact rt
 refine T ?_;intro bZ a2 h a5 a8 bL aN;refine CW.fl [2,4,5,11,117] fun e=>?_;refine gc h ?_ ?_<;>intro _ h
 · refine jX [(0,vI 2)] #[vI 2,vI 0] ?_;refine T ?_;intro bM aO bN aP;exact rt
 refine T ?_;intro bO aQ;refine LW.bd [] #[vI 0,vI 0] ?_;refine T ?_;intro bP aR bQ aS;exact rt
instance k_175:Ct prog 175:=⟨by kernel_rfl,@IC⟩
theorem GH {w0 N i r} (h:rj N i=some r) {d j f} (k:j=i.parts.length) (l:rb w0 d f i.parts) :
    g8 prog 75 #[.agg #[vI i.Q1,vS d j f]] w0 (fun v w=>v=.bool r∧St w0 [] w []):=by
 subst k;unfold rj at h;refine g8.fn func75 fun e=>?_;have aB:=St.start w0;refine T ?_;intro a3 a4 A;obtain ⟨aj,C,H⟩:=ob h;refine CW.jn [1] [0] [(16,.bool aj)] A (h1:=?_) (h2:=?_)
 · have h:=C;refine T ?_;intro a7 aI h a5 aC;refine bH h ?_ ?_<;>intro _ h
   · exact rt
   refine T ?_;intro a8 aJ h a6 aD;exact rt
 intro e aM aE;have h:=H;refine gc h ?_ ?_<;>intro _ h
 · exact rt
 refine jX [] #[vI 0,vI 0,vI 0] ?_;refine T ?_;intro g aN aF aO B;refine go ?_;obtain ⟨n,q,m⟩:=ob h;refine CW.it q (fun b e wb=>En e [(3,.pointer (some ⟨g,0,none⟩)),(19,vS d i.parts.length f),(20,vI (i.parts.length:Int)),(21,vI b.1)]∧St w0 [] wb [bx g 48 [vI b.2.1,vI b.2.2.1,vI b.2.2.2]]) (fun o x e wb=>match o with | .inl b=>x=.exit 0∧En e [(3,.pointer (some ⟨g,0,none⟩))]∧St w0 [] wb [bx g 48 [vI b.2.1,vI b.2.2.1,vI b.2.2.2]] | .inr r=>x=.ret∧∃ u,u=r∧∃ v,lk prog f75.results e wb v∧v=.bool u∧St w0 [] wb []) ?_ (B.po [0]) ?_
 · intro b e aP o hM h;obtain ⟨hE,aG⟩:=hM;obtain ⟨e,rfl⟩:=hE.out;refine gc h ?_ ?_<;>intro _ h
   · refine gb h fun aY z h=>?_;obtain ⟨ar,aK,G,rfl,U,W,X,⟨ak,au,am,av,an,aw,ao,ax,ap,ay,aq,az,rfl,Y,Z,aa,ab,ac,ad⟩,V⟩:=l.idx z;refine go ?_;refine T ?_;intro aA aQ aH aR I aZ ae h aS p;refine CW.fl [3,5,19,20,21,27] fun e=>?_;refine gc h ?_ ?_<;>intro _ h
     · exact rt
     refine mo ?_;have J:=p.drew;refine T ?_;intro a0 af h aT K a1 ah h aU L aV M;exact rt
   exact rt
 intro x e aW hM;rcases n with n | aL
 · obtain ⟨rfl,hM⟩:=hM;obtain ⟨hE,O⟩:=hM;obtain ⟨e,rfl⟩:=hE.out;have h:=m;refine T ?_;intro a2 ai h aX R;exact rt
 obtain ⟨rfl,u,rfl,hM⟩:=hM;cases m;exact And.intro trivial hM
instance k_75:Ct prog 75:=⟨by kernel_rfl,@GH⟩
theorem GO {w0 N aJ aK d r} (h:tC N aJ aK d=some r) {V ac W} (ak:ac=aJ.length) (k:rb w0 V W aJ) :
    g8 prog 216 #[vS V ac W,vI aK,.agg #[vI d.res,vI d.jz,vI d.nD,vI d.kH,vI d.py,vI d.mb]] w0 (fun v w=>∃ m n,v=.tuple #[vS m r.1.length n,vI r.2]∧St w0 [] w [sl m n r.1]):=by
 subst ak;unfold tC at h;refine g8.fn func216 fun e=>?_;have ck:=St.start w0;refine T ?_;intro ai cP cl am cr h af ah cQ aN;refine go ?_;obtain ⟨ap,aD,an⟩:=ob h;refine CW.mono (CW.lx [0,1,5,8,18,19] [0,1] [0,1,5,8] 0 (fun aP=>[(20,vI aP)]) (fun r x e wb=>x=.ret∧∃ u,u=r∧∃ v,lk prog f216.results e wb v∧∃ m n,v=.tuple #[vS m u.1.length n,vI u.2]∧St w0 [] wb [sl m n u.1]) aN aD (hb:=?_)) ?_
 · intro aP e cR o cm h;refine gc h ?_ ?_<;>intro _ h
   · refine gb h fun cH aF h=>?_;obtain ⟨b8,cs,a5,rfl,bk,bv,bC,⟨b3,ce,rfl,bI⟩,bq⟩:=k.idx aF;refine go ?_;refine T ?_;intro cj cx cn cy co cI bL h cz cp;refine CW.fl [0,1,5,8,18,19,20,27] fun e=>?_;refine gc h ?_ ?_<;>intro _ h
     · exact rt
     exact rt
   exact rt
 intro x e cA hM;rcases ap with ap | bT
 · obtain ⟨rfl,hM⟩:=hM;obtain ⟨e,rfl,ao⟩:=eo hM;have h:=an;refine gs ?_;obtain ⟨aO,aC,aM⟩:=ob h;refine CW.jn [0,1,5,8] [0,1] [(63,.bool aO)] ao (h1:=?_) (h2:=?_)
   · have h:=aC;refine dW ?_;have cq:=ao.drew;refine gB h ?_ ?_<;>intro _ h
     · exact rt
     refine T ?_;intro cJ bM h cB ba;refine bH h ?_ ?_<;>intro _ h
     · exact rt
     refine T ?_;intro cK bN h cC bb;refine bH h ?_ ?_<;>intro _ h
     · exact rt
     refine gB h ?_ ?_<;>intro bp h
     · exact rt
     refine gb h fun cL aG h=>?_;obtain ⟨b9,ct,a6,rfl,bl,bw,bD,⟨b4,cf,rfl,bJ⟩,br⟩:=k.idx aG;refine go ?_;refine T ?_;intro cM bO h cD bc;exact rt
   intro e cE ar;have h:=aM;refine gc h ?_ ?_<;>intro _ h
   · exact rt
   refine mo ?_;have bd:=ar.drew;refine gb h fun cN aH h=>?_;obtain ⟨ca,cu,a7,rfl,bm,bz,bE,⟨b5,cg,rfl,aE⟩,bs⟩:=k.idx aH;refine go ?_;refine T ?_;have ⟨cO,aI,h⟩:=ob h;obtain ⟨cb,cv,a8,rfl,bn,bA,bF,rfl,bt⟩:=aE.idx aI;refine go ?_;refine T ?_;intro aq bP h cF be U bQ h b6 j cG au;refine dW ?_;have X:=au.drew;refine gb h fun aQ C h=>?_;obtain ⟨g,b,hae,bB,bG⟩:=X.iu (α:=iB) (i:=0) rfl C;subst hae;refine go ?_;obtain ⟨b2,ab,bf⟩:=X.freeze (α:=iB) 0 rfl;obtain ⟨cc,cw,a9,hae,bo,_,_,aB,bu⟩:=ab.j5.idx C;cases hae;obtain ⟨b7,ci,rfl,bK⟩:=aB;refine T ?_;intro b0 aV h bU bg H aW h p A bV av;refine CW.fl [1,5,8,11,12,13,95] fun e=>?_;refine gc h ?_ ?_<;>intro _ h
   · exact rt
   refine go ?_;have aw:=av.iJ (α:=iB) 1 rfl ab;have ax:=aw.pk (M:=[sl p A H.1]++[sl (some ⟨g,b,none⟩) j U,sl af ah am,bx ai 174 (qT d)]) [0,1,2,3];have ⟨ad,f,h⟩:=ob h;refine LW.x6 (M:=[sl p A H.1]) (L:=[sl (some ⟨g,b,none⟩) j U,sl af ah am,bx ai 174 (qT d)]) (z:=aQ) (z':=(iB.mk H.1)) (o:=0) ax (i:=0) rfl C zE rfl (by show _=b+(aK:Int).toNat * 1+0;omega) rfl rfl rfl rfl (whole (fun w G hG=>⟨p,A,rfl,hG⟩)) ?_;intro bW Y hf;rw [oi f] at Y;refine mo ?_;have Z:=Y.drew;refine gb h fun aL l h=>?_;obtain ⟨a1,bR,hae,K,O⟩:=Z.iu (α:=iB) (i:=0) rfl l;cases hae;(try refine AW.ux (i:=3) (by decide +kernel) rfl (by kernel_rfl) rfl rfl (iM.ix underlying226 zP rfl rfl K (by rw [iv (oi f)];exact O)) ?_);refine go ?_;obtain ⟨aZ,J,bi⟩:=Z.freeze (α:=iB) 0 rfl;obtain ⟨a2,bS,aR,hae,aS,_,_,aj,aT⟩:=J.j5.idx l;cases hae;obtain ⟨a0,a3,rfl,aU⟩:=aj;refine T ?_;intro b1 aX h bX bj I aY h q B bY ay;refine gc h ?_ ?_<;>intro _ h
   · exact rt
   refine go ?_;(try refine LW.u (iM.ix underlying226 zP rfl rfl K (by rw [iv (oi f)];exact O)) rfl ?_);refine go ?_;have az:=ay.iJ (α:=iB) 1 rfl J;have aA:=az.pk (M:=[sl q B I.1]++[sl (some ⟨g,b,none⟩) j ad,sl af ah am,bx ai 174 (qT d)]) [0,1,2,3];have ⟨ae,R,h⟩:=ob h;refine LW.x6 (M:=[sl q B I.1]) (L:=[sl (some ⟨g,b,none⟩) j ad,sl af ah am,bx ai 174 (qT d)]) (z:=aL) (z':=(iB.mk I.1)) (o:=0) aA (i:=0) rfl l zE rfl (by show _=b+(d.jz:Int).toNat * 1+0;omega) rfl rfl rfl rfl (whole (fun w G hG=>⟨q,B,rfl,hG⟩)) ?_;intro bZ aa hf;rw [oi R] at aa;refine go ?_;replace h:=oi h;subst h;exact Rc tt tt ⟨(some ⟨g,b,none⟩),j,(show (.tuple #[vS (some ⟨g,b,none⟩) U.length j,vI aq]:Value)=.tuple #[vS (some ⟨g,b,none⟩) ae.length j,vI aq] by rw [show U.length=ae.length from ((iv (oi f)).trans (iv (oi R)))]),aa.pk [0]⟩
 obtain ⟨rfl,u,rfl,hM⟩:=hM;cases an;exact And.intro trivial hM
instance k_216:Ct prog 216:=⟨by kernel_rfl,@GO⟩
theorem Gb {w0 N b aC r} (h:ri N b aC=some r) {j I q} (V:I=b.QQ.so.length) (aD:rb w0 j q b.QQ.so) {k J u} (W:J=b.own.length) (aE:rb w0 k u b.own) {l K x} (X:K=b.QR.length) (aF:rb w0 l x b.QR) {m O z} (Y:O=b.heap.ag.length) (ab:rb w0 m z b.heap.ag) {n R A} (Z:R=b.heap.gc.gQ.length) (aG:rb w0 n A b.heap.gc.gQ) {p U B} (aa:U=b.gR.length) (aH:rb w0 p B b.gR) :
    g8 prog 156 #[.agg #[vS j I q,vS k J u,vS l K x,vS m O z,vI b.heap.gc.QS,vI b.heap.gc.Q0,vI b.heap.gc.QT,vS n R A,vS p U B,vI b.QZ,vI b.QY,vI b.gP.bh,vI b.gP.gS,vI b.gP.gW,vI b.hY,vI b.QX],vI aC] w0 (fun v w=>∃ ad af,v=vS ad r.length af∧St w0 [] w [sl ad af r]):=by
 subst V W X Y Z aa;unfold ri at h;refine g8.fn func156 fun e=>?_;have bc:=St.start w0;refine T ?_;intro aj bu aw;refine LW.b0 (α:=Int) aw ?_;intro aI aJ bv bd hf;refine T ?_;intro bz bf h bw be;refine gc h ?_ ?_<;>intro _ h
 · exact rt
 refine T ?_;intro aq bg h ac ae bn ax;refine go ?_;obtain ⟨bl,an,av⟩:=ob h;refine CW.ie an 0 (fun g e wb=>∃ (d:Ad) (f:Nat),En e [(2,.pointer (some ⟨aj,0,none⟩)),(5,vS d g.1.length f),(17,vS ac aq.length ae),(18,vI (aq.length:Int)),(19,vI g.2)]∧St w0 [] wb [sl ac ae aq,sl d f g.1,bx aj 50 (qP j q k u l x m z n A p B b)]) ?_ ⟨aI,aJ,ax.po [0,1,2]⟩ ?_
 · intro g e aB o hM h;obtain ⟨d,f,hE,ah⟩:=hM;obtain ⟨e,rfl⟩:=hE.out;refine kS [2,5,17,18,19,20] fun e=>?_;refine gc h ?_ ?_<;>intro _ h
   · refine gb h fun br H h=>?_;obtain ⟨a5,bi,hae,aT,aV⟩:=ah.iu (α:=Bool) (i:=0) rfl H;subst hae;refine go ?_;obtain ⟨ar,C,ay⟩:=ah.freeze (α:=Bool) 0 rfl;obtain ⟨a6,bj,aK,hae,aP,_,_,ak,aR⟩:=C.j5.idx H;cases hae;obtain rfl:=ak;refine T ?_;obtain ⟨aA,am,au⟩:=ob h;refine CW.jn [2,5,6,17,18,19] [0,1,2] [(34,.bool aA)] ay (h1:=?_) (h2:=?_)
     · have h:=am;refine gB h ?_ ?_<;>intro _ h
       · refine gb h fun bs ao h=>?_;obtain ⟨a7,bk,aL,rfl,aQ,aU,aW,⟨a0,a8,a1,a9,a2,ba,rfl,aX,aY,aZ⟩,aS⟩:=ab.idx ao;refine go ?_;refine T ?_;exact rt
       exact rt
     intro e bo ai;have h:=au;refine gc h ?_ ?_<;>intro _ h
     · refine gb h fun bt ap h=>?_;refine LW.kX (M:=[]) (L:=[fz aB ar,sl d f g.1,bx aj 50 (qP j q k u l x m z n A p B b)]) (vs:=#[vI g.2]) (i:=1) oL rfl (by kernel_rfl) rfl rfl ap ai rfl (fun w G hG=>by cases (show G=[] from hG);exact ⟨rfl,rfl⟩) rfl rfl ?_;intro bm a4 bb bp az hf;refine go ?_;have aM:=az.iJ (α:=Bool) 0 rfl C;exact rt
     refine go ?_;have aN:=ai.iJ (α:=Bool) 0 rfl C;exact rt
   exact rt
 rintro e bq ⟨d,f,hE,aO⟩;obtain ⟨e,rfl⟩:=hE.out;have h:=av;exact rt
instance k_156:Ct prog 156:=⟨by kernel_rfl,@Gb⟩
theorem E7 {w0 N d bl bm r} (h:rE N d bl bm=some r) {z aG H} (aQ:aG=d.QQ.so.length) (ap:rb w0 z H d.QQ.so) {A aH I} (aR:aH=d.own.length) (aq:rb w0 A I d.own) {B aI J} (aS:aI=d.QR.length) (ar:rb w0 B J d.QR) {n aJ p} (aT:aJ=d.heap.ag.length) (k:rb w0 n p d.heap.ag) {C aK K} (aU:aK=d.heap.gc.gQ.length) (au:rb w0 C K d.heap.gc.gQ) {G aL L} (aV:aL=d.gR.length) (av:rb w0 G L d.gR) :
    g8 prog 120 #[.agg #[vS z aG H,vS A aH I,vS B aI J,vS n aJ p,vI d.heap.gc.QS,vI d.heap.gc.Q0,vI d.heap.gc.QT,vS C aK K,vS G aL L,vI d.QZ,vI d.QY,vI d.gP.bh,vI d.gP.gS,vI d.gP.gW,vI d.hY,vI d.QX],vI bl,vI bm] w0 (fun v w=>∃ X ai, ∃ Y aj, ∃ Z ak, ∃ aa am, ∃ ab an, ∃ ac ao,v=.agg #[vS X r.QQ.so.length ai,vS Y r.own.length aj,vS Z r.QR.length ak,vS aa r.heap.ag.length am,vI r.heap.gc.QS,vI r.heap.gc.Q0,vI r.heap.gc.QT,vS ab r.heap.gc.gQ.length an,vS ac r.gR.length ao,vI r.QZ,vI r.QY,vI r.gP.bh,vI r.gP.gS,vI r.gP.gW,vI r.hY,vI r.QX]∧St w0 [] w [sl X ai r.QQ.so,sl Y aj r.own,sl Z ak r.QR,sl aa am r.heap.ag,sl ab an r.heap.gc.gQ,sl ac ao r.gR]):=by
 subst aQ aR aS aT aU aV;unfold rE at h;refine g8.fn func120 fun e=>?_;have bs:=St.start w0;refine z6 bs fun bn cq bt=>?_;refine LW.al bt fun bo cr m=>?_;refine gb h fun f bz h=>?_;refine LW.cl (yW bz rfl (m.rB ap) rfl (m.rB aq) rfl (m.rB ar) rfl (m.rB k) rfl (m.rB au) rfl (m.rB av)) ?_;rintro _ b0 ⟨aM,aO,aN,aP,R,ad,U,ae,V,af,W,ah,rfl,hs⟩;have bu:=m.add hs;refine LW.al bu fun aW b1 bv=>?_;refine LW.st bv 0 fun b2 g=>?_;refine gs ?_;obtain ⟨bA,a2,bp⟩:=ob h;refine CW.jn [1,2,3,6,7] [0,1,2,3,4,5,6,7,8] [(19,.bool bA)] g (h1:=?_) (h2:=?_)
 · have h:=a2;refine gb h fun ci ba h=>?_;refine LW.c0 (BO ba rfl (g.rB ap) rfl (g.rB aq) rfl (g.rB ar) rfl (g.rB k) rfl (g.rB au) rfl (g.rB av)) g fun b3 aX=>?_;refine gB h ?_ ?_<;>intro _ h
   · refine go ?_;cases oi h;exact aX.po [0,1,2,3,4,5,6,7,8]
   refine gb h fun cj bb h=>?_;refine go ?_;refine LW.c0 (Bv bb) aX fun b4 bw=>?_;refine go ?_;cases oi h;exact bw.po [0,1,2,3,4,5,6,7,8]
 intro e b5 aY;have h:=bp;refine gc h ?_ ?_<;>intro _ h
 · refine vV aY 7 fun b6 aw=>?_;refine go ?_;cases h;exact And.intro trivial ⟨_,lk.one (iq.b aw 7 rfl mx rfl rfl),aM,aO,aN,aP,R,ad,U,ae,V,af,W,ah,rfl,aw.pk [1,2,3,4,5,6]⟩
 refine go ?_;obtain ⟨bZ,a5,br⟩:=ob h;refine CW.ie a5 0 (fun x e wb=>En e [(1,vI bl),(2,vI bm),(3,.pointer (some ⟨bn,0,none⟩)),(6,.pointer (some ⟨bo,0,none⟩)),(7,.pointer (some ⟨aW,0,none⟩)),(23,vS n d.heap.ag.length p),(24,vI (d.heap.ag.length:Int)),(25,vI x.2)]∧St w0 [] wb [bx aW 50 [vS aM f.QQ.so.length aO,vS aN f.own.length aP,vS R f.QR.length ad,vS U x.1.length ae,vI f.heap.gc.QS,vI f.heap.gc.Q0,vI f.heap.gc.QT,vS V f.heap.gc.gQ.length af,vS W f.gR.length ah,vI f.QZ,vI f.QY,vI f.gP.bh,vI f.gP.gS,vI f.gP.gW,vI f.hY,vI f.QX],sl aM aO f.QQ.so,sl aN aP f.own,sl R ad f.QR,sl U ae x.1,sl V af f.heap.gc.gQ,sl W ah f.gR,bx bo 50 [vS none 0 0,vS none 0 0,vS none 0 0,vS none 0 0,vI 0,vI 0,vI 0,vS none 0 0,vS none 0 0,vI 0,vI 0,vI 0,vI 0,vI 0,vI 0,vI 0],bx bn 50 (qP z H A I B J n p C K G L d)]) ?_ (aY.po [0,1,2,3,4,5,6,7,8]) ?_
 · intro x e b7 o hM h;obtain ⟨e,rfl,M⟩:=eo hM;refine gc h ?_ ?_<;>intro _ h
   · refine gb h fun ck bc h=>?_;obtain ⟨bP,bW,bD,rfl,aC,bE,bG,⟨bM,bS,bN,bT,bO,bU,rfl,bJ,bK,bL⟩,a4⟩:=k.idx bc;refine go ?_;refine LW.l (jV.w6 w0 yt rfl rfl (fun j u hu=>a4 j u hu)) (M.same _ aC.1 aC.2) rfl ?_;refine LW.al M fun bV b8 aZ=>?_;refine vV aZ 0 fun b9 q=>?_;refine gs ?_;obtain ⟨bB,a3,bq⟩:=ob h;refine CW.jn [1,2,3,6,7,8,23,24,25] [1,2,3,4,5,6,7,8,9] [(44,.bool bB)] q (h1:=?_) (h2:=?_)
     · have h:=a3;refine gB h ?_ ?_<;>intro _ h
       · refine go ?_;have ⟨cm,bd,h⟩:=ob h;refine go ?_;refine LW.c0 (zd bd rfl (q.rB k)) q fun ca a0=>?_;refine go ?_;cases oi h;exact a0.po [1,2,3,4,5,6,7,8,9]
       refine go ?_;cases oi h;exact q.po [1,2,3,4,5,6,7,8,9]
     intro e cb ax;have h:=bq;refine kS [1,2,3,6,7,8,23,24,25,44] fun e=>?_;refine gc h ?_ ?_<;>intro _ h
     · refine dW ?_;have ay:=ax.drew;refine gb h fun cn aD h=>?_;obtain ⟨bQ,bX,hae,bF,bI⟩:=ay.iu (α:=gE) (i:=4) rfl aD;subst hae;refine go ?_;refine gb h fun co O h=>?_;refine jO 10 ?_;refine LW.se 6 ay 4 aD O (hM:=(kR (fun w cs F hF=>by obtain ⟨be,bi,bf,bj,bg,bk,rfl,hH⟩:=hF;exact ⟨be,bi,bf,bj,bg,bk,rfl,hH⟩))) fun cc az=>?_;refine jn ?_;have ⟨cp,aE,h⟩:=ob h;obtain ⟨bR,bY,hae,a7,a9⟩:=az.iu (α:=gE) (i:=4) rfl aE;cases hae;(try refine AW.ux (i:=11) (by decide +kernel) rfl (by kernel_rfl) rfl rfl (iM.ix underlying41 Bi rfl rfl a7 (by rw [iv (oi O)];exact a9)) ?_);refine gb h fun bC aF h=>?_;refine jO 13 ?_;refine LW.se 7 az 4 aE aF (hM:=(kR (fun w cs F hF=>by obtain ⟨be,bi,bf,bj,bg,bk,rfl,hH⟩:=hF;exact ⟨be,bi,bf,bj,bg,bk,rfl,hH⟩))) fun ce aA=>?_;refine jn ?_;refine go ?_;rw [show x.1.length=bC.length from ((iv (oi O)).trans (iv (oi aF)))] at aA;cases oi h;exact ⟨rfl,(aA.po [0,1,2,3,4,5,6,7,8])⟩
     refine go ?_;cases oi h;exact ⟨rfl,(ax.po [0,1,2,3,4,5,6,7,8])⟩
   refine go ?_;cases oi h;exact ⟨trivial,rfl,(M.po [0,1,2,3,4,5,6,7,8])⟩
 rintro e cf ⟨hE,a1⟩;obtain ⟨e,rfl⟩:=hE.out;have h:=br;refine vV a1 7 fun cg aB=>?_;refine go ?_;cases h;exact And.intro trivial ⟨_,lk.one (iq.b aB 7 rfl mx rfl rfl),aM,aO,aN,aP,R,ad,U,ae,V,af,W,ah,rfl,aB.pk [1,2,3,4,5,6]⟩
instance k_120:Ct prog 120:=⟨by kernel_rfl,@E7⟩
end Go.Kx
