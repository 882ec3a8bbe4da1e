import Derived.Test.YtlcgibcdiikheaaGreatWa27
namespace Go.Kx
open Go Go.RowKit Go.Proofs
open Go.IntKind (i64)
open Tryz
set_option maxRecDepth 10000
set_option maxHeartbeats 8000000
set_option linter.unusedVariables false
set_option linter.unusedSimpArgs false
theorem It {w0} {F:List Nat} {N G aE r} (h:vk N G aE=some r) {A:Nat} {d g} (be:iR (jo w0 F) w0 d g G.b) {am ax an} (ay:ax=aE.length) (aB:iR (jo w0 F) w0 am an aE) (hS:St w0 F w0 [bx A 177 [vS d G.b.length g,vI G.i,vI G.h]]) :
    iq prog 359 #[.pointer (some ⟨A,0,none⟩),vS am ax an] w0 (fun v w=>∃ ae ai, ∃ af aj, ∃ ah ak,v=.agg #[vI r.1.PO,vI r.1.Pz,vI r.1.box,vI r.1.res,vI r.1.iK,vI r.1.bh,vI r.1.PK,vI r.1.iP,vI r.1.iM,.bool r.1.mark,vS ae r.1.ig.length ai,vS af r.1.PG.length aj,vS ah r.1.PE.length ak]∧St w0 F w [sl ae ai r.1.ig,sl af aj r.1.PG,sl ah ak r.1.PE,bx A 177 [vS d G.b.length g,vI r.2.i,vI r.2.h]]):=by
 subst ay;unfold vk at h;refine iq.fn func359 fun e=>?_;refine T ?_;intro U dC a9;refine LW.bi [-1] a9 ?_;intro bt bC dD ba hf;refine go ?_;obtain ⟨aG,a2,a6⟩:=ob h;refine CW.ie a2 0 (fun ad e wb=>∃ (B:Ad) (C:Nat),En e [(0,.pointer (some ⟨A,0,none⟩)),(1,vS am aE.length an),(4,.pointer (some ⟨U,0,none⟩)),(5,vS B ad.1.length C),(6,vI ad.2)]∧St w0 F wb [sl B C ad.1,bx U 101 [vI 0,vI 0,vI 0,vI 0,vI 0,vI 0,vI 0,vI 0,vI 0,.bool false,vS none 0 0,vS none 0 0,vS none 0 0],bx A 177 [vS d G.b.length g,vI G.i,vI G.h]]) ?_ ⟨bt,bC,ba.po [0,1,2]⟩ ?_
 · intro ad e dE o hM h;obtain ⟨B,C,hE,bb⟩:=hM;obtain ⟨e,rfl⟩:=hE.out;refine gc h ?_ ?_<;>intro _ h
   · refine gb h fun dF bc h=>?_;obtain ⟨cY,db,bD,rfl,b3,b5,b7,⟨cT,c0,cU,c1,cV,c2,rfl,b9,ca,cb⟩,b4⟩:=aB.idx bc;refine go ?_;refine T ?_;refine CW.fl [0,1,4,5,6,23] fun e=>?_;refine gc h ?_ ?_<;>intro _ h
     · refine go ?_;refine LW.bi [ad.2,ad.2] bb ?_;intro cW c3 dd aF hf;have ⟨dw,a5,h⟩:=ob h;refine LW.jT (l:=ad.1) (m:=([ad.2,ad.2]:List Int)) nb rfl rfl (aF.rI 0 rfl) a5 aF (i:=1) rfl rfl ?_;intro cX c5 de c6 hf;exact rt
     exact rt
   exact rt
 rintro e df ⟨B,C,hE,c7⟩;obtain ⟨e,rfl⟩:=hE.out;have h:=a6;refine T ?_;intro X cc h dg c8 Y ce h dh c9 Z cf h di da aa cg h dj bE ab ci h dk aK;refine LW.bi [-1, -1] aK ?_;intro f j dl bF hf;refine T ?_;intro ac cj h dm bG;refine LW.bd [(1,vI (i64.wrap (1+X.1))),(2,vI Y.1),(3,vI Z.1),(4,vI (i64.wrap (1+aa.1))),(5,vI ab.1),(10,vS f (([-1, -1]:List Int).length) j),(9,.bool ac.1)] #[vI 0,vI (i64.wrap (1+X.1)),vI Y.1,vI Z.1,vI (i64.wrap (1+aa.1)),vI ab.1,vI 0,vI 0,vI 0,.bool ac.1,vS f (([-1, -1]:List Int).length) j,vS none 0 0,vS none 0 0] ?_;refine T ?_;intro H dn bI dp aL;refine go ?_;obtain ⟨V,a4,a7⟩:=ob h;refine CW.ie a4 2 (fun W e wb=>En e [(0,.pointer (some ⟨A,0,none⟩)),(4,.pointer (some ⟨U,0,none⟩)),(5,vS B aG.1.length C),(7,.pointer (some ⟨H,0,none⟩)),(8,vI W.2.1)]∧St w0 F wb [bx H 101 [vI 0,vI (i64.wrap (1+X.1)),vI Y.1,vI Z.1,vI (i64.wrap (1+aa.1)),vI ab.1,vI 0,vI 0,vI 0,.bool ac.1,vS f W.1.length j,vS none 0 0,vS none 0 0],bx A 177 [vS d G.b.length g,vI W.2.2.1,vI W.2.2.2],sl f j W.1,sl B C aG.1,bx U 101 [vI 0,vI 0,vI 0,vI 0,vI 0,vI 0,vI 0,vI 0,vI 0,.bool false,vS none 0 0,vS none 0 0,vS none 0 0]]) ?_ (aL.po [0,1,2,3,4]) ?_
 · intro W e dq o hM h;obtain ⟨hE,bJ⟩:=hM;obtain ⟨e,rfl⟩:=hE.out;refine kD [0,4,5,7,8,47] fun e=>?_;refine gc h ?_ ?_<;>intro _ h
   · refine T ?_;intro dx ck h dr aM;refine gc h ?_ ?_<;>intro _ h
     · refine dW ?_;have bK:=aM.drew;refine T ?_;intro dy cl h ds ap;have ⟨dA,av,h⟩:=ob h;obtain ⟨cZ,dc,hae,b6,b8⟩:=ap.iF (α:=Int) (i:=2) rfl av;subst hae;refine go ?_;have ⟨dB,aw,h⟩:=ob h;refine T ?_;refine LW.se 0 ap 2 av aw (hM:=uB) fun dt aN=>?_;refine T ?_;rw [iB (oi aw)] at aN;exact rt
     exact rt
   exact rt
 rintro e du ⟨hE,ao⟩;obtain ⟨e,rfl⟩:=hE.out;have h:=a7;refine gs ?_;refine CW.region ?_;refine gs ?_;obtain ⟨q,a1,a8⟩:=ob h;refine CW.cut (fun e wb=>∃ (I:Ad) (K:Nat) (J:Ad) (L:Nat),En e [(0,.pointer (some ⟨A,0,none⟩)),(4,.pointer (some ⟨U,0,none⟩)),(7,.pointer (some ⟨H,0,none⟩))]∧St w0 F wb [bx H 101 [vI 0,vI (i64.wrap (1+X.1)),vI Y.1,vI Z.1,vI (i64.wrap (1+aa.1)),vI ab.1,vI q.2.2.1,vI q.2.2.2.1,vI q.2.2.2.2.1,.bool ac.1,vS f V.1.length j,vS I q.2.2.2.2.2.1.length K,vS J q.2.2.2.2.2.2.length L],bx A 177 [vS d G.b.length g,vI q.1,vI q.2.1],sl f j V.1,bx U 101 [vI 0,vI 0,vI 0,vI 0,vI 0,vI 0,vI 0,vI 0,vI 0,.bool false,vS none 0 0,vS none 0 0,vS none 0 0],sl I K q.2.2.2.2.2.1,sl J L q.2.2.2.2.2.2]) ?_ ?_
 · have h:=a1;refine kD [0,4,7,60,61] fun e=>?_;refine gc h ?_ ?_<;>intro _ h
   · refine go ?_;have aO:=ao.nil (α:=Int);obtain ⟨cn,az,aI⟩:=ob h;refine CW.ie az 5 (fun R e wb=>∃ (M:Ad) (O:Nat),En e [(0,.pointer (some ⟨A,0,none⟩)),(4,.pointer (some ⟨U,0,none⟩)),(7,.pointer (some ⟨H,0,none⟩)),(9,vI R.1)]∧St w0 F wb [bx H 101 [vI 0,vI (i64.wrap (1+X.1)),vI Y.1,vI Z.1,vI (i64.wrap (1+aa.1)),vI ab.1,vI 0,vI 0,vI 0,.bool ac.1,vS f V.1.length j,vS M R.2.2.2.length O,vS none 0 0],bx A 177 [vS d G.b.length g,vI R.2.1,vI R.2.2.1],sl f j V.1,bx U 101 [vI 0,vI 0,vI 0,vI 0,vI 0,vI 0,vI 0,vI 0,vI 0,.bool false,vS none 0 0,vS none 0 0,vS none 0 0],sl M O R.2.2.2]) ?_ ⟨none,0,aO.po [1,2,3,5,0]⟩ ?_
     · intro R e dv o hM h;obtain ⟨M,O,hE,aP⟩:=hM;obtain ⟨e,rfl⟩:=hE.out;refine gc h ?_ ?_<;>intro _ h
       · refine kb ?_;have bL:=aP.drew;refine T ?_;intro aH cm h cp aQ;refine LW.bi [aH.1] aQ ?_;intro bn bu cq aq hf;refine T ?_;have ⟨cN,aC,h⟩:=ob h;refine T ?_;refine LW.jT (l:=R.2.2.2) (m:=([aH.1]:List Int)) nb rfl rfl (aq.rI 0 rfl) aC aq (i:=5) rfl rfl ?_;intro bo bv cr bM hf;refine T ?_;intro ct bN;exact rt
       exact rt
     rintro e cu ⟨M,O,hE,aR⟩;obtain ⟨e,rfl⟩:=hE.out;have h:=aI;have bO:=aR.nil (α:=je);exact rt
   refine gc h ?_ ?_<;>intro _ h
   · refine T ?_;intro cO bf h cv aS;refine go ?_;have aT:=aS.nil (α:=je);obtain ⟨co,aA,aJ⟩:=ob h;refine CW.ie aA 7 (fun k e wb=>∃ (x:Ad) (z:Nat),En e [(0,.pointer (some ⟨A,0,none⟩)),(4,.pointer (some ⟨U,0,none⟩)),(7,.pointer (some ⟨H,0,none⟩)),(10,vI k.1)]∧St w0 F wb [bx A 177 [vS d G.b.length g,vI k.2.1,vI k.2.2.1],bx H 101 [vI 0,vI (i64.wrap (1+X.1)),vI Y.1,vI Z.1,vI (i64.wrap (1+aa.1)),vI ab.1,vI 0,vI 0,vI 0,.bool ac.1,vS f V.1.length j,vS none 0 0,vS x k.2.2.2.length z],sl f j V.1,bx U 101 [vI 0,vI 0,vI 0,vI 0,vI 0,vI 0,vI 0,vI 0,vI 0,.bool false,vS none 0 0,vS none 0 0,vS none 0 0],sl x z k.2.2.2]) ?_ ⟨none,0,aT.po [1,2,3,5,0]⟩ ?_
     · intro k e cw o hM h;obtain ⟨x,z,hE,aU⟩:=hM;obtain ⟨e,rfl⟩:=hE.out;refine gc h ?_ ?_<;>intro _ h
       · refine kb ?_;have aV:=aU.drew;refine go ?_;refine jP 3 ?_;refine LW.bi [-1,3,33,36] aV ?_;intro bp bw cx bP hf;refine T ?_;intro n bg h cy bQ p bj h cz aW;refine AW.u (i:=7) rfl (by kernel_rfl) rfl rfl (iQ.build (vs:=[(0,vI n.1),(1,vI p.1)]) (cs:=#[vI n.1,vI p.1]) rfl (by kernel_rfl)) ?_;refine T ?_;refine LW.wj (α:=je) (vs:=[(0,.agg #[vI n.1,vI p.1])]) (cs:=#[vI n.1,vI p.1]) (l:=([je.mk n.1 p.1]:List je)) rfl (by kernel_rfl) rfl rfl rfl (fun w=>⟨[vI n.1,vI p.1],[],[],[],rfl,rfl,⟨rfl,rfl⟩,rfl⟩) aW rfl ?_;intro bq bz cA ar hf;refine T ?_;have ⟨cP,aD,h⟩:=ob h;refine T ?_;refine LW.jT (l:=k.2.2.2) (m:=([je.mk n.1 p.1]:List je)) rK rfl rfl (ar.rI 0 rfl) aD ar (i:=6) rfl rfl ?_;intro br bA cB bR hf;refine T ?_;intro cC bS;exact rt
       exact rt
     rintro e cD ⟨x,z,hE,aX⟩;obtain ⟨e,rfl⟩:=hE.out;have h:=aJ;have bT:=aX.nil (α:=Int);exact rt
   refine gc h ?_ ?_<;>intro _ h
   · refine go ?_;refine LW.bi [0,0,7,34] ao ?_;intro bs bB cE bU hf;refine T ?_;intro cQ bk h cF bV cG bW cR bl h cH bX cI bY cS bm h cJ bZ cK aY;have aZ:=aY.nil (α:=Int);have b0:=aZ.nil (α:=je);exact rt
   refine go ?_;have a0:=ao.nil (α:=Int);have b1:=a0.nil (α:=je);exact rt
 rintro e cL ⟨I,K,J,L,hE,b2⟩;obtain ⟨e,rfl⟩:=hE.out;have h:=a8;refine go ?_;refine T ?_;intro cM au;replace h:=oi h;subst h;exact And.intro trivial ⟨_,kI.one (iD.b au 3 rfl xX rfl rfl),f,j,I,K,J,L,rfl,au.pk [2,4,5,1]⟩
instance k_359:Ct prog 359:=⟨by kernel_rfl,@It⟩
theorem I0 {w0} {F:List Nat} {N k r} (h:tP N k=some r) {l:Nat} {f g} (C:iR (jo w0 F) w0 f g k.b) (hS:St w0 F w0 [bx l 177 [vS f k.b.length g,vI k.i,vI k.h]]) :
    iq prog 241 #[.pointer (some ⟨l,0,none⟩)] w0 (fun v w=>v=.agg #[vI r.1.res,vI r.1.km,vI r.1.nu,vI r.1.kT,vI r.1.Pz,vI r.1.mA]∧St w0 F w [bx l 177 [vS f k.b.length g,vI r.2.i,vI r.2.h]]):=by
 unfold tP at h;refine iq.fn func241 fun e=>?_;refine T ?_;intro z a0 an x ay h a1 ao B az h aA ap n X h aB aq p Y h aC ar q Z h aD au;refine LW.bd [(0,vI x.1),(1,vI B.1),(2,vI n.1),(3,vI p.1),(4,vI (i64.wrap (1+q.1)))] #[vI x.1,vI B.1,vI n.1,vI p.1,vI (i64.wrap (1+q.1)),vI 0] ?_;refine T ?_;intro o aE av aF aw aV aa h aG ax aH G aW ab h aI j;obtain ⟨d,u,A⟩:=ob h;refine CW.cut (fun e wb=>En e [(0,.pointer (some ⟨l,0,none⟩)),(2,.pointer (some ⟨z,0,none⟩)),(3,.pointer (some ⟨o,0,none⟩))]∧St w0 F wb [bx l 177 [vS f k.b.length g,vI d.1,vI d.2.1],bx o 174 [vI x.1,vI d.2.2.1,vI n.1,vI d.2.2.2.1,vI d.2.2.2.2.1,vI d.2.2.2.2.2],bx z 174 [vI 0,vI 0,vI 0,vI 0,vI 0,vI 0]]) ?_ ?_
 · have h:=u;refine kD [0,2,3,20,21] fun e=>?_;refine gc h ?_ ?_<;>intro _ h
   · refine go ?_;refine LW.bi [0,3] j ?_;intro af aj aJ H hf;refine T ?_;intro aX ac h aK I aL J;exact rt
   refine gc h ?_ ?_<;>intro _ h
   · refine go ?_;refine LW.bi [-1,100,101,1000,1001] j ?_;intro ah ak aM K hf;refine T ?_;intro aY ad h aN L aO M;exact rt
   refine gc h ?_ ?_<;>intro _ h
   · refine T ?_;intro aP O;exact rt
   refine gc h ?_ ?_<;>intro _ h
   · refine go ?_;refine LW.bi [-1,3] j ?_;intro ai am aQ R hf;refine T ?_;intro aZ ae h aR U aS V;exact rt
   exact rt
 rintro e aT ⟨hE,W⟩;obtain ⟨e,rfl⟩:=hE.out;have h:=A;refine T ?_;intro aU m;replace h:=oi h;subst h;exact And.intro trivial ⟨_,kI.one (iD.b m 2 rfl Lh rfl rfl),rfl,m.pk [0]⟩
instance k_241:Ct prog 241:=⟨by kernel_rfl,@I0⟩
theorem yc {w0 N p q r} (h:qk N p q=some r) {b i f} (k:i=p.parts.length) (m:rb w0 b f p.parts) {d j g} (l:j=q.parts.length) (n:rb w0 d g q.parts) :
    iq prog 17 #[.agg #[vI p.PQ,vS b i f],.agg #[vI q.PQ,vS d j g]] w0 (fun v w=>v=.bool r∧St w0 [] w []):=by
 subst k l;unfold qk at h;refine iq.fn func17 fun e=>?_;have aU:=St.start w0;refine T ?_;intro a8 ba aV a9 bb I;obtain ⟨ar,L,R⟩:=ob h;refine CW.jn [2,3] [0,1] [(19,.bool ar)] I (h1:=?_) (h2:=?_)
 · have h:=L;refine gB h ?_ ?_<;>intro _ h
   · exact rt
   exact rt
 intro e bc J;have h:=R;refine gc h ?_ ?_<;>intro _ h
 · exact rt
 refine go ?_;obtain ⟨A,C,z⟩:=ob h;refine CW.mono (CW.lx [2,3] [0,1] [] 0 (fun B=>[(5,vI B)]) (RT prog f17.results (fun u=>.bool u) w0 []) J C (hb:=?_)) ?_
 · intro B e a2 o K h;refine gc h ?_ ?_<;>intro _ h
   · refine kb ?_;have aW:=K.drew;refine gb h fun a5 G h=>?_;obtain ⟨aG,aZ,M,rfl,U,Y,aa,⟨au,aI,av,aJ,aw,aK,ax,aL,ay,aM,az,aN,rfl,ac,ad,ae,af,ah,ai⟩,W⟩:=m.idx G;refine go ?_;refine T ?_;have ⟨a6,H,h⟩:=ob h;obtain ⟨aH,a0,O,rfl,V,Z,ab,⟨aA,aO,aB,aP,aC,aQ,aD,aR,aE,aS,aF,aT,rfl,aj,ak,am,an,ao,ap⟩,X⟩:=n.idx H;refine go ?_;refine T ?_;intro a7 aq h a3 aX;refine gc h ?_ ?_<;>intro _ h
     · exact rt
     exact rt
   exact rt
 intro x e a4 hM;rcases A with A | a1
 · obtain ⟨rfl,hM⟩:=hM;obtain ⟨e,rfl,aY⟩:=eo hM;rw [show e=iN e [] from rfl];have h:=z;exact rt
 obtain ⟨rfl,u,rfl,hM⟩:=hM;cases z;exact And.intro trivial hM
instance k_17:Ct prog 17:=⟨by kernel_rfl,@yc⟩
end Go.Kx
