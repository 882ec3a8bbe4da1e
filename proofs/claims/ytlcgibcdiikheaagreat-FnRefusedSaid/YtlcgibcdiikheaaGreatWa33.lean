import Derived.Test.YtlcgibcdiikheaaGreatWa28
import Derived.Test.YtlcgibcdiikheaaGreatWa29
namespace Go.Kx
open Go Go.RowKit Go.Proofs
open Tryz
set_option maxRecDepth 10000
set_option maxHeartbeats 8000000
set_option linter.unusedVariables false
set_option linter.unusedSimpArgs false
theorem Hb {w0 N k r} (h:ue N k=some r) {d m f} (n:m=k.length) (i:rb w0 d f k) :
    iq prog 46 #[vS d m f] w0 (fun v w=>v=.bool r∧St w0 [] w []):=by
 subst n;unfold ue at h;refine iq.fn func46 fun e=>?_;have aO:=St.start w0;refine jL [] #[vI 0,vI 0,vI 0] ?_;refine T ?_;intro l bf aP bg J;refine go ?_;obtain ⟨q,B,p⟩:=ob h;refine CW.it B (fun b e wb=>En e [(0,vS d k.length f),(3,.pointer (some ⟨l,0,none⟩)),(4,vI b.1)]∧St w0 [] wb [bx l 48 [vI b.2.1,vI b.2.2.1,vI b.2.2.2]]) (fun o x e wb=>match o with | .inl b=>x=.exit 0∧En e [(0,vS d k.length f)]∧St w0 [] wb [bx l 48 [vI b.2.1,vI b.2.2.1,vI b.2.2.2]] | .inr r=>x=.ret∧∃ u,u=r∧∃ v,kI prog f46.results e wb v∧v=.bool u∧St w0 [] wb []) ?_ (J.po [0]) ?_
 · intro b e bi o hM h;obtain ⟨e,rfl,K⟩:=eo hM;refine gs ?_;obtain ⟨aB,O,W⟩:=ob h;refine CW.jn [0,3,4] [0] [(15,.bool aB)] K (h1:=?_) (h2:=?_)
   · have h:=O;refine gB h ?_ ?_<;>intro _ h
     · exact rt
     exact rt
   intro e bj L;have h:=W;refine gc h ?_ ?_<;>intro _ h
   · refine gs ?_;refine CW.block ?_;refine gs ?_;obtain ⟨R,z,H⟩:=ob h;refine CW.jn [0,3,4] [0] [(33,.bool R)] L (h1:=?_) (h2:=?_)
     · have h:=z;refine gb h fun a9 C h=>?_;obtain ⟨aG,aT,U,rfl,ai,an,ap,⟨aC,aI,aD,aJ,rfl,ar,au⟩,ak⟩:=i.idx C;refine go ?_;refine T ?_;intro ba ax h aW aQ;refine bH h ?_ ?_<;>intro _ h
       · exact rt
       refine go ?_;refine T ?_;intro bb ay h aX aR;exact rt
     intro e aY M;have h:=H;refine gc h ?_ ?_<;>intro _ h
     · exact rt
     refine gs ?_;obtain ⟨j,A,I⟩:=ob h;refine CW.cut (fun e wb=>∃ (g:Nat),En e [(0,vS d k.length f),(3,.pointer (some ⟨l,0,none⟩)),(4,vI b.1),(5,.pointer (some ⟨g,0,none⟩)),(6,.bool j.2.2.2)]∧St w0 [] wb [bx l 48 [vI b.2.1,vI b.2.2.1,vI b.2.2.2],bx g 48 [vI j.1,vI j.2.1,vI j.2.2.1]]) ?_ ?_
     · have h:=A;refine dW ?_;have aS:=M.drew;refine gb h fun bc G h=>?_;obtain ⟨aH,aU,V,rfl,aj,ao,aq,⟨aE,aK,aF,aL,rfl,av,aw⟩,am⟩:=i.idx G;refine go ?_;refine T ?_;have ⟨bd,az,h⟩:=ob h;refine AW.all (rs:=[6,10]) (by kernel_rfl) (by simp) ⟨?_,?_,trivial⟩
       · refine oA ?_;refine T ?_;intro aZ X aM a0 Y a1 Z;exact rt
       refine oA ?_;refine T ?_;intro aN a2 aa;refine jP 6 ?_;refine T ?_;intro a3 ab a4 ac;exact rt
     rintro e a5 ⟨g,hE,ad⟩;obtain ⟨e,rfl⟩:=hE.out;have h:=I;refine gc h ?_ ?_<;>intro _ h
     · exact rt
     refine T ?_;intro a6 ae;exact rt
   exact rt
 intro x e a7 hM;rcases q with q | aV
 · obtain ⟨rfl,hM⟩:=hM;obtain ⟨e,rfl,af⟩:=eo hM;have h:=p;refine T ?_;intro be aA h a8 ah;exact rt
 obtain ⟨rfl,u,rfl,hM⟩:=hM;cases p;exact And.intro trivial hM
instance k_46:Ct prog 46:=⟨by kernel_rfl,@Hb⟩
theorem E0 {w0} {F:List Nat} {N Z r} (h:sR N Z=some r) {W:Nat} {C H} (O:iR (jo w0 F) w0 C H Z.b) (hS:St w0 F w0 [bx W 177 [vS C Z.b.length H,vI Z.i,vI Z.h]]) :
    iq prog 211 #[.pointer (some ⟨W,0,none⟩)] w0 (fun v w=>∃ a3 a5,v=vS a3 r.1.length a5∧St w0 F w [sl a3 a5 r.1,bx W 177 [vS C Z.b.length H,vI r.2.i,vI r.2.h]]):=by
 unfold sR at h;refine iq.fn func211 fun e=>?_;refine go ?_;refine LW.b0 (α:=ku) hS ?_;intro bR bS cR bT hf;refine go ?_;refine LW.bi [0,0,0,0] bT ?_;intro av aw cS bU hf;refine LW.bd [(0,vS av (([0,0,0,0]:List Int).length) aw)] #[vS av (([0,0,0,0]:List Int).length) aw] ?_;refine LW.al bU fun aa cT bV=>?_;refine LW.st bV 0 fun cU bW=>?_;refine gb h fun a7 bO h=>?_;obtain ⟨cP,ao⟩:=bW.mc [3] [0,1,2];refine LW.cl (qW bO (ao.rB O) ao.st) ?_;rintro _ cQ ⟨rfl,hs⟩;have bX:=ao.back _ _ hs;refine go ?_;have bY:=bX.pk (M:=[sl bR bS ([]:List ku),sl av aw ([0,0,0,0]:List Int)]++[bx W 177 [vS C Z.b.length H,vI a7.2.i,vI a7.2.h],bx aa 39 [vS av (([0,0,0,0]:List Int).length) aw]]) [3,2,0,1];have bZ:=bY.K8;obtain ⟨cm,aR,bk⟩:=ob h;refine CW.ie aR 0 (fun n e wb=>∃ (j:Ad) (k:Nat) (I:Ad) (J:Nat),En e [(0,.pointer (some ⟨W,0,none⟩)),(3,vS j n.1.length k),(4,.pointer (some ⟨aa,0,none⟩)),(5,vI n.2.1)]∧St w0 F wb [bx W 177 [vS C Z.b.length H,vI n.2.2.1,vI n.2.2.2.1],bx aa 39 [vS I n.2.2.2.2.length J],al (sl j k n.1) I J n.2.2.2.2]) ?_ ⟨bR,bS,av,aw,bZ.po [1,2,0]⟩ ?_
 · intro n e co o hM h;obtain ⟨j,k,I,J,hE,a6⟩:=hM;obtain ⟨e,rfl⟩:=hE.out;refine kD [0,3,4,5,15] fun e=>?_;refine gc h ?_ ?_<;>intro _ h
   · refine gb h fun d aT h=>?_;obtain ⟨b5,ac⟩:=a6.mc [0] [1,2];refine LW.cl (zz aT (ac.rB O) ac.st) ?_;rintro _ cp ⟨a8,bb,U,V,rfl,hs⟩;have b1:=ac.back _ _ hs;refine LW.al b1 fun K cq bl=>?_;refine LW.st bl 0 fun cr bm=>?_;refine gb h fun aF aU h=>?_;obtain ⟨b6,ad⟩:=bm.mc [3] [0,1,2,4,5];refine LW.cl (vN aU (ad.rB O) ad.st) ?_;rintro _ cs ⟨rfl,hs⟩;have ax:=ad.back _ _ hs;refine gs ?_;obtain ⟨p,aM,bf⟩:=ob h;refine CW.cut (fun e wb=>∃ (X:Ad) (Y:Nat) (f:Ad) (g:Nat),En e [(0,.pointer (some ⟨W,0,none⟩)),(3,vS j n.1.length k),(4,.pointer (some ⟨aa,0,none⟩)),(5,vI n.2.1),(6,.pointer (some ⟨K,0,none⟩))]∧St w0 F wb [bx W 177 [vS C Z.b.length H,vI aF.2.i,vI aF.2.h],bx K 108 [vS f p.2.length g,vS U d.1.own.length V,vI d.1.kh.bh,vI d.1.kh.ib,vI d.1.kh.ij],sl U V d.1.own,bx aa 39 [vS X p.1.length Y],al (sl j k n.1) X Y p.1,sl f g p.2]) ?_ ?_
     · have h:=aM;refine gc h ?_ ?_<;>intro _ h
       · refine go ?_;refine LW.b0 (α:=Int) ax ?_;intro ce ci ct bn hf;refine go ?_;obtain ⟨b7,aQ,aS,ay⟩:=bn.Mo 6 rfl;refine gb h fun aG aV h=>?_;refine LW.jT (l:=([]:List Int)) (m:=n.2.2.2.2) nb rfl rfl (ay.rZ 6 rfl aS) aV ay (i:=0) rfl rfl ?_;intro ak an cu bo hf;refine LW.bd [(0,vS ak aG.length an)] #[vS ak aG.length an] ?_;refine wR bo 2 fun cv bp=>?_;refine go ?_;have bq:=bp.Ox 6 rfl aQ;cases oi h;exact ⟨I,J,ak,an,bq.po [1,2,4,5,6,0]⟩
       refine go ?_;cases oi h;exact ⟨I,J,a8,bb,ax.po [0,1,3,4,5,2]⟩
     rintro e cw ⟨X,Y,f,g,hE,br⟩;obtain ⟨e,rfl⟩:=hE.out;have h:=bf;refine wR br 3 fun cx bs=>?_;refine gb h fun cL aW h=>?_;obtain ⟨b8,ae⟩:=bs.mc [0] [1,2,3,4,5];refine LW.cl (vN aW (ae.rB O) ae.st) ?_;rintro _ cy ⟨rfl,hs⟩;have az:=ae.back _ _ hs;refine gs ?_;obtain ⟨R,aN,bg⟩:=ob h;refine CW.cut (fun e wb=>∃ (q:Ad) (x:Nat),En e [(0,.pointer (some ⟨W,0,none⟩)),(3,vS j n.1.length k),(4,.pointer (some ⟨aa,0,none⟩)),(5,vI n.2.1),(6,.pointer (some ⟨K,0,none⟩))]∧St w0 F wb [bx W 177 [vS C Z.b.length H,vI R.1,vI R.2.1],bx K 108 [vS f p.2.length g,vS U d.1.own.length V,vI d.1.kh.bh,vI d.1.kh.ib,vI d.1.kh.ij],sl U V d.1.own,bx aa 39 [vS q R.2.2.length x],sl j k n.1,al (sl f g p.2) q x R.2.2]) ?_ ?_
     · have h:=aN;refine gc h ?_ ?_<;>intro _ h
       · refine gb h fun aH aX h=>?_;obtain ⟨b9,af⟩:=az.mc [0] [1,2,3,4,5];refine LW.cl (qW aX (af.rB O) af.st) ?_;rintro _ cz ⟨rfl,hs⟩;have bt:=af.back _ _ hs;refine go ?_;refine LW.b0 (α:=Int) bt ?_;intro cf cj cA aA hf;refine gb h fun aI aY h=>?_;refine LW.jT (l:=([]:List Int)) (m:=p.2) nb rfl rfl (aA.rI 6 rfl) aY aA (i:=0) rfl rfl ?_;intro au ab cB bu hf;refine LW.bd [(0,vS au aI.length ab)] #[vS au aI.length ab] ?_;refine LW.st bu 4 fun bP bv=>?_;refine kb ?_;have aB:=bv.drew;refine gb h fun cM aj h=>?_;obtain ⟨am,ap,hae,b3,b4⟩:=aB.iF (α:=Int) (i:=0) rfl aj;subst hae;refine go ?_;obtain ⟨ca,aq,aC⟩:=aB.freeze (α:=Int) 0 rfl;obtain ⟨cg,ck,b2,hae,aK,_,_,aL,aP⟩:=aq.kc.idx aj;cases hae;obtain rfl:=aL;refine AW.tk 7 rfl (jV.lC bP.drew na rfl (aP 0 _ rfl)) (aC.zC 0 rfl aK) ?_;refine go ?_;refine AW.u (i:=9) rfl (by kernel_rfl) rfl rfl (iQ.min rfl rfl) ?_;refine go ?_;have bw:=aC.i7 (α:=Int) 0 rfl aq;have ⟨aJ,ar,h⟩:=ob h;refine jO 11 ?_;refine LW.se 0 bw 0 aj ar (hM:=uB) fun cC aD=>?_;refine jn ?_;refine go ?_;rw [iB (oi ar)] at aD;have bz:=aD.pk (M:=[sl f g p.2,sl (some ⟨am,ap,none⟩) ab aJ]++[bx W 177 [vS C Z.b.length H,vI aH.2.i,vI aH.2.h],bx K 108 [vS f p.2.length g,vS U d.1.own.length V,vI d.1.kh.bh,vI d.1.kh.ib,vI d.1.kh.ij],sl U V d.1.own,bx aa 39 [vS (some ⟨am,ap,none⟩) aJ.length ab],al (sl j k n.1) X Y p.1]) [6,0,1,2,3,4,5];have bA:=bz.K8;have bB:=bA.DU 5 rfl;cases oi h;exact ⟨(some ⟨am,ap,none⟩),ab,bB.po [1,2,3,4,5,0]⟩
       refine go ?_;have bC:=az.MW (α:=Int) 5 rfl;have bD:=bC.DU 4 rfl;cases oi h;exact ⟨f,g,bD.po [0,1,2,3,4,5]⟩
     rintro e cD ⟨q,x,hE,bE⟩;obtain ⟨e,rfl⟩:=hE.out;have h:=bg;refine gb h fun cN aZ h=>?_;obtain ⟨cb,ah⟩:=bE.mc [0] [1,2,3,4,5];refine LW.cl (vN aZ (ah.rB O) ah.st) ?_;rintro _ cE ⟨rfl,hs⟩;have aE:=ah.back _ _ hs;refine gs ?_;obtain ⟨B,aO,bj⟩:=ob h;refine CW.cut (fun e wb=>∃ (z:Ad) (A:Nat),En e [(0,.pointer (some ⟨W,0,none⟩)),(3,vS j n.1.length k),(4,.pointer (some ⟨aa,0,none⟩)),(5,vI n.2.1),(6,.pointer (some ⟨K,0,none⟩))]∧St w0 F wb [bx W 177 [vS C Z.b.length H,vI B.1,vI B.2.1],bx K 108 [vS f p.2.length g,vS z B.2.2.length A,vI d.1.kh.bh,vI d.1.kh.ib,vI d.1.kh.ij],bx aa 39 [vS q R.2.2.length x],sl j k n.1,al (sl f g p.2) q x R.2.2,sl z A B.2.2]) ?_ ?_
     · have h:=aO;refine CW.fl [0,3,4,5,6,52] fun e=>?_;refine gc h ?_ ?_<;>intro _ h
       · refine gb h fun bQ a0 h=>?_;obtain ⟨cc,ai⟩:=aE.mc [0] [1,2,3,4,5];refine LW.cl (qW a0 (ai.rB O) ai.st) ?_;rintro _ cF ⟨rfl,hs⟩;have bF:=ai.back _ _ hs;refine LW.bi [bQ.1] bF ?_;intro a9 bc cG bG hf;refine wR bG 2 fun cH bI=>?_;refine go ?_;cases oi h;exact ⟨a9,bc,bI.po [1,2,4,5,6,0]⟩
       refine go ?_;cases oi h;exact ⟨U,V,aE.po [0,1,3,4,5,2]⟩
     rintro e cI ⟨z,A,hE,bJ⟩;obtain ⟨e,rfl⟩:=hE.out;have h:=bj;refine go ?_;have bK:=bJ.pk (M:=[al (sl f g p.2) q x R.2.2,sl z A B.2.2]++[bx W 177 [vS C Z.b.length H,vI B.1,vI B.2.1],bx K 108 [vS f p.2.length g,vS z B.2.2.length A,vI d.1.kh.bh,vI d.1.kh.ib,vI d.1.kh.ij],bx aa 39 [vS q R.2.2.length x],sl j k n.1]) [4,5,0,1,2,3];have ⟨cO,a2,h⟩:=ob h;refine LW.Oj (M:=[sl z A B.2.2]) (L:=[bx W 177 [vS C Z.b.length H,vI B.1,vI B.2.1],bx K 108 [vS f p.2.length g,vS z B.2.2.length A,vI d.1.kh.bh,vI d.1.kh.ib,vI d.1.kh.ij],bx aa 39 [vS q R.2.2.length x],sl j k n.1]) (vs:=#[vS f p.2.length g,vS z B.2.2.length A,vI d.1.kh.bh,vI d.1.kh.ib,vI d.1.kh.ij]) (i:=3) OU rfl (by kernel_rfl) rfl rfl a2 bK rfl (fun w G hG=>⟨f,g,z,A,rfl,hG⟩) rfl rfl ?_;intro cn ba be cJ bL hf;refine go ?_;cases oi h;exact ⟨rfl,⟨ba,be,q,x,bL.po [0,2,3]⟩⟩
   refine go ?_;cases oi h;exact ⟨trivial,rfl,⟨j,k,I,J,a6.po [0,1,2]⟩⟩
 rintro e cK ⟨j,k,I,J,hE,bM⟩;obtain ⟨e,rfl⟩:=hE.out;have h:=bk;refine go ?_;replace h:=oi h;subst h;have bN:=bM.DU 2 rfl;exact Ra ⟨j,k,rfl,bN.pk [2,0]⟩
instance k_211:Ct prog 211:=⟨by kernel_rfl,@E0⟩
theorem I8 {w0} {F:List Nat} {N g r} (h:tI N g=some r) {l:Nat} {d f} (o:iR (jo w0 F) w0 d f g.b) (hS:St w0 F w0 [bx l 177 [vS d g.b.length f,vI g.i,vI g.h]]) :
    iq prog 242 #[.pointer (some ⟨l,0,none⟩)] w0 (fun v w=>v=.agg #[vI r.1.bh,vI r.1.ib,vI r.1.ij]∧St w0 F w [bx l 177 [vS d g.b.length f,vI r.2.i,vI r.2.h]]):=by
 unfold tI at h;refine iq.fn func242 fun e=>?_;refine T ?_;intro I J q m A h K u n B h C x k p h G z;refine LW.bd [(0,vI m.1),(1,vI n.1),(2,vI k.1)] #[vI m.1,vI n.1,vI k.1] ?_;refine T ?_;intro H j;replace h:=oi h;subst h;exact And.intro trivial ⟨_,kI.one (iD.b j 1 rfl DQ rfl rfl),rfl,j.pk [0]⟩
instance k_242:Ct prog 242:=⟨by kernel_rfl,@I8⟩
theorem CF {w0} {F:List Nat} {N m d aa r} (h:my N m d aa=some r) {n:Nat} {f g} (aw:iR (jo w0 F) w0 f g m.b) {q J B} (U:J=d.PB.PA.length) (ax:iR (jo w0 F) w0 q B d.PB.PA) {u K C} (V:K=d.own.length) (ay:iR (jo w0 F) w0 u C d.own) {x L G} (W:L=d.PC.length) (az:iR (jo w0 F) w0 x G d.PC) {j M k} (X:M=d.py.ag.length) (p:iR (jo w0 F) w0 j k d.py.ag) {z O H} (Y:O=d.py.gc.hZ.length) (aA:iR (jo w0 F) w0 z H d.py.gc.hZ) {A R I} (Z:R=d.ia.length) (aB:iR (jo w0 F) w0 A I d.ia) (hS:St w0 F w0 [bx n 177 [vS f m.b.length g,vI m.i,vI m.h]]) :
    iq prog 149 #[.pointer (some ⟨n,0,none⟩),.agg #[vS q J B,vS u K C,vS x L G,vS j M k,vI d.py.gc.PD,vI d.py.gc.PL,vI d.py.gc.PF,vS z O H,vS A R I,vI d.PJ,vI d.PI,vI d.hY.bh,vI d.hY.ib,vI d.hY.ij,vI d.ik,vI d.PH],vI aa] w0 (fun v w=>v=vI r.1∧St w0 F w [bx n 177 [vS f m.b.length g,vI r.2.i,vI r.2.h]]):=by
 subst U V W X Y Z;unfold my at h;refine iq.fn func149 fun e=>?_;refine T ?_;intro bI bJ bd;obtain ⟨aj,ar,aE⟩:=ob h;refine CW.cut (fun e wb=>En e [(0,.pointer (some ⟨n,0,none⟩)),(2,vI aa),(7,vS j d.py.ag.length k),(20,.bool aj.1)]∧St w0 F wb [bx n 177 [vS f m.b.length g,vI aj.2.1,vI aj.2.2]]) ?_ ?_
 · have h:=ar;refine gB h ?_ ?_<;>intro _ h
   · exact rt
   refine T ?_;intro bL bk h bK be;exact rt
 rintro e bo ⟨hE,bf⟩;obtain ⟨e,rfl⟩:=hE.out;have h:=aE;refine gc h ?_ ?_<;>intro _ h
 · refine T ?_;intro bA aU h bp ao;replace h:=oi h;subst h;exact Ra ⟨rfl,ao.pk [0]⟩
 refine T ?_;intro bB aV h bq ap;refine go ?_;obtain ⟨bm,af,am⟩:=ob h;refine CW.ie af 0 (fun l e wb=>En e [(0,.pointer (some ⟨n,0,none⟩)),(2,vI aa),(7,vS j d.py.ag.length k),(8,vI l.1),(9,vI l.2.1)]∧St w0 F wb [bx n 177 [vS f m.b.length g,vI l.2.2.1,vI l.2.2.2]]) ?_ (ap.po [0]) ?_
 · intro l e br o hM h;obtain ⟨e,rfl,aq⟩:=eo hM;refine gs ?_;obtain ⟨au,ad,ak⟩:=ob h;refine CW.jn [0,2,7,8,9] [0] [(34,.bool au)] aq (h1:=?_) (h2:=?_)
   · have h:=ad;refine gB h ?_ ?_<;>intro _ h
     · refine gb h fun bC ah h=>?_;obtain ⟨a5,bl,aC,rfl,aG,aK,aM,⟨aZ,a7,a0,a8,a1,a9,rfl,aO,aP,aQ⟩,aI⟩:=p.idx ah;refine go ?_;refine T ?_;exact rt
     exact rt
   intro e bs bg;have h:=ak;refine gc h ?_ ?_<;>intro _ h
   · refine T ?_;intro bD aW h bt bi;exact rt
   exact rt
 rintro e bu ⟨hE,bj⟩;obtain ⟨e,rfl⟩:=hE.out;have h:=am;refine gb h fun bE ai h=>?_;obtain ⟨a6,bn,aD,rfl,aH,aL,aN,⟨a2,ba,a3,bb,a4,bc,rfl,aR,aS,aT⟩,aJ⟩:=p.idx ai;refine go ?_;refine T ?_;intro bF aX h bv ab;obtain ⟨av,ae,an⟩:=ob h;refine CW.jn [0,2,8] [0] [(10,vI av)] ab (h1:=?_) (h2:=?_)
 · have h:=ae;refine CW.fl [0,2,8,10,45] fun e=>?_;refine gc h ?_ ?_<;>intro _ h
   · exact rt
   exact rt
 intro e bw aF;have h:=an;refine T ?_;intro bG aY h bz ac;replace h:=oi h;subst h;exact Ra ⟨rfl,ac.pk [0]⟩
instance k_149:Ct prog 149:=⟨by kernel_rfl,@CF⟩
end Go.Kx
