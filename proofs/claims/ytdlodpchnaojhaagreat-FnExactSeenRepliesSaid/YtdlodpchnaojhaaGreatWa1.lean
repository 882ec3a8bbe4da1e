import Derived.Test.YtdlodpchnaojhaaGreatWa0
import Derived.Test.YtdlodpchnaojhaaGreatWa20
import Derived.Test.YtdlodpchnaojhaaGreatWa23
namespace Go.Kx
open Go Go.RowKit Go.Proofs
open Tryz
set_option maxRecDepth 10000
set_option maxHeartbeats 8000000
set_option linter.unusedVariables false
set_option linter.unusedSimpArgs false
theorem Ef {w0 N a0 a1 r} (h:qJ N a0 a1=some r) {ar aL au} (aT:aL=a0.parts.length) (am:rb w0 ar au a0.parts) :
    gV prog 168 #[.agg #[vI a0.Oc,vS ar aL au],vI a1] w0 (fun v w=>∃ ai aj,v=.agg #[vI r.Oc,vS ai r.parts.length aj]∧St w0 [] w [sl ai aj r.parts]):=by
 subst aT;unfold qJ at h;refine gV.fn func168 fun e=>?_;have bT:=St.start w0;refine tK bT fun dB dC bU=>?_;refine LW.al bU fun K dD a4=>?_;refine gb h fun f bZ h=>?_;refine LW.cl (yY bZ rfl (a4.rB am)) ?_;rintro _ dE ⟨ab,B,rfl,hs⟩;have bV:=a4.add hs;refine LW.al bV fun O dl bW=>?_;refine LW.st bW 0 fun dm aF=>?_;refine gs ?_;obtain ⟨b1,bB,bS⟩:=ob h;refine CW.jn [1,4,5] [0,1,2] [(25,.bool b1)] aF (h1:=?_) (h2:=?_)
 · have h:=bB;refine gb h fun dv bF h=>?_;refine LW.c0 (yT bF rfl (aF.rB am)) aF fun dn a5=>?_;refine gB h ?_ ?_<;>intro _ h
   · refine go ?_;cases oi h;exact a5.po [0,1,2]
   refine gb h fun dw bG h=>?_;refine go ?_;refine LW.c0 (sJ bG) a5 fun dp bX=>?_;refine go ?_;cases oi h;exact bX.po [0,1,2]
 intro e dq a7;have h:=bS;refine gc h ?_ ?_<;>intro _ h
 · refine uz a7 2 fun dr av=>?_;refine go ?_;cases h;exact And.intro trivial ⟨_,kt.one (ib.b av 2 rfl pz rfl rfl),ab,B,rfl,av.pk [1]⟩
 refine go ?_;refine LW.b0 (α:=jD) a7 ?_;intro a2 a3 ds bf hf;refine go ?_;obtain ⟨hgd,h⟩:=CF h;simp only [Oq,decide_eq_true_eq] at hgd;have bg:=bf.pk (M:=[sl ab B f.parts]++[sl a2 a3 ([]:List jD),bx O 26 [vI f.Oc,vS ab f.parts.length B],bx K 26 [vI 0,vS none 0 0]]) [2,0,1,3];obtain ⟨hds,hl,ac⟩:=bg.HU;obtain ⟨pv,hpv⟩:∃ pv,pv=List.zipWith sA f.parts hds:=⟨_,rfl⟩;rw [← hpv] at ac;have hhs:hds.length=f.parts.length:=by have:=hl.len;rwa [List.length_map] at this
 have hpl:f.parts.length=pv.length:=by rw [hpv];exact (Be hl).symm
 rw [hpl] at ac;obtain ⟨ao,bD,hoeo61⟩:=DH rfl (by rw [← hpl];exact hgd.1) (by rw [← hpl];exact hgd.2);refine CW.ie bD 0 (fun aa e wb=>∃ (k:Ad) (m:Nat),En e [(1,vI a1),(4,.pointer (some ⟨K,0,none⟩)),(5,.pointer (some ⟨O,0,none⟩)),(6,vS k aa.1.length m),(7,vI aa.2)]∧St w0 [] wb [sl ab B pv,tl hds (kB f.parts),sl k m aa.1,bx O 26 [vI f.Oc,vS ab pv.length B],bx K 26 [vI 0,vS none 0 0]]) ?_ ⟨a2,a3,ac.po [0,1,2,3,4]⟩ ?_
 · intro aa e a9 o hM h;obtain ⟨k,m,hE,ad⟩:=hM;obtain ⟨e,rfl⟩:=hE.out;refine jE [1,4,5,6,7,32] fun e=>?_;refine gc h ?_ ?_<;>intro _ h
   · refine gb h fun R aK h=>?_;obtain ⟨bQ,b2,hae,ck,co⟩:=ad.hZ (α:=jx) (i:=0) rfl aK;subst hae;refine go ?_;obtain ⟨bO,aI,aw⟩:=ad.freeze (α:=jx) 0 rfl;obtain ⟨c5,di,cg,hae,bw,_,_,bz,bC⟩:=aI.jk.idx aK;cases hae;obtain ⟨cU,c8,cV,c9,cW,da,cX,db,cY,dc,rfl,cq,cr,ct,cu,cv⟩:=bz;refine LW.l (jf.jX a9 xW rfl (bC 2 _ rfl)) (aw.zC 0 rfl bw) rfl ?_;refine LW.bd [(0,vS R.N1.a R.N1.n R.N1.c)] #[vS R.N1.a R.N1.n R.N1.c] ?_;have ⟨dx,bI,h⟩:=ob h;refine LW.j6 (M:=[]) (L:=[fz a9 bO,tl hds (kB f.parts),sl k m aa.1,bx O 26 [vI f.Oc,vS (some ⟨bQ,b2,none⟩) pv.length B],bx K 26 [vI 0,vS none 0 0]]) (vs:=#[vS R.N1.a R.N1.n R.N1.c]) (i:=2) IX rfl (by kernel_rfl) rfl rfl bI aw rfl (fun w G hG=>by cases (show G=[] from hG);exact ⟨rfl,rfl⟩) rfl rfl ?_;intro dk bP bR dt bi hf;refine go ?_;have bj:=bi.iz (α:=jx) 0 rfl aI;cases oi h;exact ⟨rfl,⟨bP,bR,bj.po [0,1,2,3,4]⟩⟩
   refine go ?_;cases oi h;exact ⟨trivial,rfl,⟨k,m,ad.po [0,1,2,3,4]⟩⟩
 rintro e du ⟨k,m,hE,ax⟩;obtain ⟨e,rfl⟩:=hE.out;rw [show ao.1=hds.map jD.mk from by rw [hoeo61,hpv];exact Bs hhs] at ax;have bk:=ax.pk (M:=[sl k m (hds.map jD.mk),tl hds (kB f.parts)]++[sl ab B pv,bx O 26 [vI f.Oc,vS ab pv.length B],bx K 26 [vI 0,vS none 0 0]]) [2,1,0,3,4];have ay:=bk.Hw hl;have htl:ao.1.length=(kl f.parts).length:=by rw [hoeo61];simp [kl,kB,hpl]
 refine gb h fun dy bK h=>?_;obtain ⟨cj,aJ⟩:=KU hpv hhs bK;obtain ⟨C,A,hae,cm,cp⟩:=ay.hZ (α:=jx) (i:=1) rfl aJ;subst hae;obtain ⟨Z,aU,bc⟩:=ob h;refine CW.ie aU 2 (fun ap e wb=>∃ (p:Ad) (q:Nat),En e [(1,vI a1),(4,.pointer (some ⟨K,0,none⟩)),(5,.pointer (some ⟨O,0,none⟩)),(6,vS p ap.1.length q),(8,vI ap.2)]∧St w0 [] wb [sl (some ⟨C,A,none⟩) B pv,bx O 26 [vI f.Oc,vS (some ⟨C,A,none⟩) pv.length B],bx K 26 [vI 0,vS none 0 0],sl p q ap.1]) ?_ ⟨k,m,⟨rfl,rfl,rfl,(show (vS k ao.1.length m:Value)=vS k ((kl f.parts).length) m by rw [show ao.1.length=(kl f.parts).length from htl]),rfl,trivial⟩,ay.pk [1,2,3,0]⟩ ?_
 · intro ap e aN o hM h;obtain ⟨p,q,hE,bl⟩:=hM;obtain ⟨e,rfl⟩:=hE.out;refine go ?_;obtain ⟨cT,af,W⟩:=bl.freeze (α:=jx) 0 rfl;obtain ⟨c6,dj,ci,hae,aG,_,_,bA,aH⟩:=af.jk.idx aJ;cases hae;obtain ⟨cZ,dd,c1,de,c2,df,c3,dg,c4,dh,rfl,cw,cx,cy,cz,bE⟩:=bA;refine LW.l (jf.jX aN zL rfl (aH 8 _ rfl)) (W.zC 0 rfl aG) rfl ?_;refine jE [1,4,5,6,8,53] fun e=>?_;refine gc h ?_ ?_<;>intro _ h
   · refine go ?_;refine LW.l (jf.jX aN zL rfl (aH 8 _ rfl)) (W.zC 0 rfl aG) rfl ?_;refine gb h fun dA bJ h=>?_;obtain ⟨ca,cA,b3,rfl,aO,cn,b7,rfl,aR⟩:=bE.idx bJ;refine go ?_;refine LW.l (jf.tR aN J5 rfl rfl (fun j u hu=>aR j u hu)) (W.zC 0 rfl aO) rfl ?_;have ⟨cR,aY,h⟩:=ob h;refine LW.cl (zs aY rfl (W.rI 3 rfl)) ?_;rintro _ cL ⟨ba,bb,rfl,hs⟩;have bm:=W.add hs;refine go ?_;have bn:=bm.iz (α:=jx) 1 rfl af;cases oi h;exact ⟨rfl,⟨ba,bb,bn.po [1,2,3,0]⟩⟩
   refine go ?_;have bo:=W.iz (α:=jx) 0 rfl af;cases oi h;exact ⟨trivial,rfl,⟨p,q,bo.po [0,1,2,3]⟩⟩
 rintro e cM ⟨p,q,hE,az⟩;obtain ⟨e,rfl⟩:=hE.out;have h:=bc;refine go ?_;obtain ⟨a8,h⟩:=CF h;have a8:=of_decide_eq_true a8;rw [← hpl] at az;have bp:=az.NN;obtain ⟨aM,aV,be⟩:=ob h;refine CW.mono (CW.iter (σ:=Int×(List (List g7))) (ρ:=Int×(List (List g7))) (fun g e wb=>∃ (I:List jx) (H:List Hd) (hR:Rl f.parts I H g.2 g.1),En e [(4,.pointer (some ⟨K,0,none⟩)),(5,.pointer (some ⟨O,0,none⟩)),(6,vS p Z.1.length q),(11,vI g.1)]∧St w0 [] wb [tl H g.2,sl (some ⟨C,A,none⟩) B I,bx O 26 [vI f.Oc,vS (some ⟨C,A,none⟩) f.parts.length B],bx K 26 [vI 0,vS none 0 0],sl p q Z.1]) (fun g x e wb=>x=.exit 4∧∃ (I:List jx) (H:List Hd) (hR:Rl f.parts I H g.2 g.1∧decide (g.1<(f.parts.length:Int))=false),En e [(4,.pointer (some ⟨K,0,none⟩)),(5,.pointer (some ⟨O,0,none⟩))]∧St w0 [] wb [tl H g.2,sl (some ⟨C,A,none⟩) B I,bx O 26 [vI f.Oc,vS (some ⟨C,A,none⟩) f.parts.length B],bx K 26 [vI 0,vS none 0 0],sl p q Z.1]) ?_ N (0,[]) _ _ _ ⟨pv,[],⟨⟨hds,hhs,hpv,rfl⟩,trivial,rfl⟩,bp.po [0,1,2,3,4]⟩ aV) ?_
 · intro g e ah o hM h;obtain ⟨I,H,hR,hE,aA⟩:=hM;obtain ⟨e,rfl⟩:=hE.out;refine jE [4,5,6,11,76] fun e=>?_;refine gc h ?_ ?_<;>intro X h
   · refine jA ?_;have aB:=aA.drew;refine gb h fun cS an h=>?_;obtain ⟨cb,cB,hae,b5,b8⟩:=aB.hZ (α:=iy) (i:=4) rfl an;subst hae;refine go ?_;obtain ⟨aq,ak,ae⟩:=aB.freeze (α:=iy) 4 rfl;obtain ⟨cc,cC,b4,hae,aP,_,_,aQ,aS⟩:=ak.jk.idx an;cases hae;obtain ⟨b9,cf,rfl,aX⟩:=aQ;refine AW.tk 7 rfl (jf.jX ah.drew xW rfl (aS 0 _ rfl)) (ae.zC 4 rfl aP) ?_;have ⟨J,aZ,h⟩:=ob h;refine jO 8 ?_;refine LW.cl (AB aZ rfl (ae.rZ 4 rfl aX)) ?_;rintro _ cN ⟨U,V,rfl,hs⟩;have aC:=ae.add hs;refine jn ?_;obtain ⟨d,Y⟩:=hR.ix X;obtain ⟨ce,cD,hae,b6,aW⟩:=aC.hZ (α:=jx) (i:=2) rfl Y;have aW:=of_decide_eq_true X;cases hae;refine go ?_;have bq:=aC.pk (M:=[sl U V J,tl H g.2]++[sl (some ⟨C,A,none⟩) B I,bx O 26 [vI f.Oc,vS (some ⟨C,A,none⟩) f.parts.length B],bx K 26 [vI 0,vS none 0 0],fz ah.drew aq]) [0,1,2,3,4,5];have br:=bq.MR (h:=(⟨U,J.length,V⟩:Hd)) (hs:=H) hR.2.1 rfl;refine jO 11 ?_;refine LW.uE (M:=[]) (L:=[tl (H++[(⟨U,J.length,V⟩:Hd)]) (g.2++[J]),sl (some ⟨C,A,none⟩) B I,bx O 26 [vI f.Oc,vS (some ⟨C,A,none⟩) f.parts.length B],bx K 26 [vI 0,vS none 0 0],fz ah.drew aq]) (z:=d) (z':=(jx.mk d.NZ d.own (⟨U,J.length,V⟩:Hd) d.py d.gR d.N6 d.N7 d.bh d.gW d.N5)) (o:=2) br (i:=1) rfl Y xW rfl (by show _=A+(g.1:Int).toNat * 16+2;omega) rfl rfl rfl rfl (je (fun w cs F hF=>by obtain ⟨cE,cJ,cF,bL,cG,bM,cH,bN,cI,cK,rfl,hH⟩:=hF;exact ⟨cE,cJ,cF,bL,cG,bM,cH,bN,cI,cK,rfl,hH⟩)) ?_;intro cO bs hf;refine jn ?_;refine go ?_;have bt:=bs.iz (α:=iy) 4 rfl ak;cases oi h;exact ⟨rfl,⟨(I.set (g.1:Int).toNat (jx.mk d.NZ d.own (⟨U,J.length,V⟩:Hd) d.py d.gR d.N6 d.N7 d.bh d.gW d.N5)),(H++[(⟨U,J.length,V⟩:Hd)]),(hR.step X hgd.2 Y rfl),bt.po [0,1,2,3,4]⟩⟩
   refine go ?_;cases oi h;exact ⟨trivial,rfl,⟨I,H,⟨hR,X⟩,aA.po [0,1,2,3,4]⟩⟩
 intro x e cP hM;obtain ⟨rfl,hM⟩:=hM;obtain ⟨I,H,⟨hR,bY⟩,hE,bu⟩:=hM;obtain ⟨e,rfl⟩:=hE.out;have h:=be;obtain ⟨bL,bM,bN⟩:=hR.fin bY;have bv:=bu.pk (M:=[sl (some ⟨C,A,none⟩) B I,tl H aM.2]++[bx O 26 [vI f.Oc,vS (some ⟨C,A,none⟩) f.parts.length B],bx K 26 [vI 0,vS none 0 0],sl p q Z.1]) [1,0,2,3,4];have aD:=bv.Hv bL hR.2.1;rw [bM,show f.parts.length=(ki f.parts aM.2).length from (ya bN).symm] at aD;refine uz aD 2 fun cQ aE=>?_;refine go ?_;cases h;exact And.intro trivial ⟨_,kt.one (ib.b aE 2 rfl pz rfl rfl),(some ⟨C,A,none⟩),B,rfl,aE.pk [0]⟩
instance k_168:Ct prog 168:=⟨by kernel_rfl,@Ef⟩
theorem Dp {w0 N b aI r} (h:qx N b aI=some r) {z W I} (ac:W=b.NZ.NY.length) (aJ:rb w0 z I b.NZ.NY) {A X J} (ad:X=b.own.length) (aK:rb w0 A J b.own) {B Y K} (ae:Y=b.N1.length) (aL:rb w0 B K b.N1) {C Z L} (af:Z=b.py.ag.length) (aM:rb w0 C L b.py.ag) {G aa M} (ah:aa=b.py.gc.gQ.length) (aN:rb w0 G M b.py.gc.gQ) {H ab O} (ai:ab=b.gR.length) (aO:rb w0 H O b.gR) :
    gV prog 169 #[.agg #[vS z W I,vS A X J,vS B Y K,vS C Z L,vI b.py.gc.N2,vI b.py.gc.Oa,vI b.py.gc.N3,vS G aa M,vS H ab O,vI b.N6,vI b.N7,vI b.bh.gE,vI b.bh.gT,vI b.bh.g8,vI b.gW,vI b.N5],vI aI] w0 (fun v w=>∃ f n, ∃ g o, ∃ j p, ∃ k q, ∃ l u, ∃ m x,v=.agg #[vS f r.NZ.NY.length n,vS g r.own.length o,vS j r.N1.length p,vS k r.py.ag.length q,vI r.py.gc.N2,vI r.py.gc.Oa,vI r.py.gc.N3,vS l r.py.gc.gQ.length u,vS m r.gR.length x,vI r.N6,vI r.N7,vI r.bh.gE,vI r.bh.gT,vI r.bh.g8,vI r.gW,vI r.N5]∧St w0 [] w [sl f n r.NZ.NY,sl g o r.own,sl j p r.N1,sl k q r.py.ag,sl l u r.py.gc.gQ,sl m x r.gR]):=by
 subst ac ad ae af ah ai;unfold qx at h;refine gV.fn func169 fun e=>?_;have a5:=St.start w0;refine T ?_;intro bB bC a7 aD bD a9 d bf h az aB aA aC aj ao ak ap am aq an ar bi ba au bj bb bk aG;obtain ⟨aH,ax,aE⟩:=ob h;refine CW.jn [1,2,4,5] [0,1,2,3,4,5,6,7,8] [(21,.bool aH)] aG (h1:=?_) (h2:=?_)
 · have h:=ax;refine T ?_;intro bu aV h bl bc;refine bH h ?_ ?_<;>intro _ h
   · exact rt
   refine T ?_;intro bv aW h bm bd;refine bH h ?_ ?_<;>intro _ h
   · exact rt
   exact rt
 intro e bn be;have h:=aE;refine gc h ?_ ?_<;>intro _ h
 · refine T ?_;intro bo aP;exact rt
 refine T ?_;intro bp aQ bw aX h bq R;obtain ⟨av,ay,aF⟩:=ob h;refine CW.cut (fun e wb=>En e [(4,.pointer (some ⟨aD,0,none⟩)),(5,.pointer (some ⟨au,0,none⟩))]∧St w0 [] wb [bx au 45 [vS az d.NZ.NY.length aB,vS aA d.own.length aC,vS aj d.N1.length ao,vS ak av.length ap,vI d.py.gc.N2,vI d.py.gc.Oa,vI d.py.gc.N3,vS am d.py.gc.gQ.length aq,vS an d.gR.length ar,vI d.N6,vI d.N7,vI d.bh.gE,vI d.bh.gT,vI d.bh.g8,vI 0,vI d.N5],sl az aB d.NZ.NY,sl aA aC d.own,sl aj ao d.N1,sl ak ap av,sl am aq d.py.gc.gQ,sl an ar d.gR,bx aD 45 [vS none 0 0,vS none 0 0,vS none 0 0,vS none 0 0,vI 0,vI 0,vI 0,vS none 0 0,vS none 0 0,vI 0,vI 0,vI 0,vI 0,vI 0,vI 0,vI 0]]) ?_ ?_
 · have h:=ay;refine CW.fl [1,4,5,6,28] fun e=>?_;refine gc h ?_ ?_<;>intro _ h
   · refine gb h fun bz U h=>?_;obtain ⟨a4,bg,hae,aT,aU⟩:=R.hZ (α:=gP) (i:=4) rfl U;subst hae;refine go ?_;refine gb h fun bA V h=>?_;refine LW.se 4 R 4 U V (hM:=(je (fun w cs F hF=>by obtain ⟨aY,a1,aZ,a2,a0,a3,rfl,hH⟩:=hF;exact ⟨aY,a1,aZ,a2,a0,a3,rfl,hH⟩))) fun br aw=>?_;refine go ?_;rw [gZ (oi V)] at aw;exact rt
   exact rt
 rintro e bs ⟨hE,aR⟩;obtain ⟨e,rfl⟩:=hE.out;have h:=aF;refine T ?_;intro bt aS;exact rt
instance k_169:Ct prog 169:=⟨by kernel_rfl,@Dp⟩
theorem EU {w0 N d aH r} (h:rR N d aH=some r) {C Z L} (af:Z=d.NZ.NY.length) (aI:rb w0 C L d.NZ.NY) {G aa M} (ah:aa=d.own.length) (aJ:rb w0 G M d.own) {H ab O} (ai:ab=d.N1.length) (aK:rb w0 H O d.N1) {I ac R} (aj:ac=d.py.ag.length) (B:rb w0 I R d.py.ag) {J ad U} (ak:ad=d.py.gc.gQ.length) (aL:rb w0 J U d.py.gc.gQ) {K ae V} (am:ae=d.gR.length) (aM:rb w0 K V d.gR) :
    gV prog 172 #[.agg #[vS C Z L,vS G aa M,vS H ab O,vS I ac R,vI d.py.gc.N2,vI d.py.gc.Oa,vI d.py.gc.N3,vS J ad U,vS K ae V,vI d.N6,vI d.N7,vI d.bh.gE,vI d.bh.gT,vI d.bh.g8,vI d.gW,vI d.N5],vI aH] w0 (fun v w=>∃ g o, ∃ j p, ∃ k q, ∃ l x, ∃ m z, ∃ n A,v=.tuple #[.agg #[vS g r.1.NZ.NY.length o,vS j r.1.own.length p,vS k r.1.N1.length q,vS l r.1.py.ag.length x,vI r.1.py.gc.N2,vI r.1.py.gc.Oa,vI r.1.py.gc.N3,vS m r.1.py.gc.gQ.length z,vS n r.1.gR.length A,vI r.1.N6,vI r.1.N7,vI r.1.bh.gE,vI r.1.bh.gT,vI r.1.bh.g8,vI r.1.gW,vI r.1.N5],vI r.2]∧St w0 [] w [sl g o r.1.NZ.NY,sl j p r.1.own,sl k q r.1.N1,sl l x r.1.py.ag,sl m z r.1.py.gc.gQ,sl n A r.1.gR]):=by
 subst af ah ai aj ak am;unfold rR at h;refine gV.fn func172 fun e=>?_;have bT:=St.start w0;refine T ?_;intro cx cz bU cy cA bV cB b1 h aN aP aO aQ bw bK bz az av aA aw aB b4 bW bS b5 bX b6 bY cn bl h b7 bZ;refine gc h ?_ ?_<;>intro _ h
 · refine T ?_;intro b8 b0;exact rt
 refine T ?_;intro b9 aE;refine dW ?_;have aT:=aE.drew;refine go ?_;refine jP 2 ?_;refine T ?_;intro co bm h bA bL ca aU;refine jP 8 ?_;refine T ?_;intro cp bn h cb an;obtain ⟨aF,aq,aD⟩:=ob h;refine CW.jn [2,4,6,7] [1,2,3,4,5,6,7,8,9] [(43,.bool aF)] an (h1:=?_) (h2:=?_)
 · have h:=aq;refine gB h ?_ ?_<;>intro _ h
   · exact rt
   refine gB h ?_ ?_<;>intro _ h
   · exact rt
   refine go ?_;have ⟨cq,ar,h⟩:=ob h;obtain ⟨bI,b2,aR,rfl,a2,a7,bb,⟨bB,bM,bC,bN,bD,bO,rfl,be,bf,bg⟩,a4⟩:=B.idx ar;refine go ?_;refine T ?_;exact rt
 intro e cc ao;have h:=aD;refine gc h ?_ ?_<;>intro _ h
 · refine T ?_;intro ce aV;exact rt
 refine jA ?_;have aW:=ao.drew;refine gb h fun cr au h=>?_;obtain ⟨bJ,b3,aS,rfl,a3,a9,bc,⟨bE,bP,bF,bQ,bG,bR,rfl,bi,bj,bk⟩,a5⟩:=B.idx au;refine go ?_;refine T ?_;refine AW.u (i:=11) rfl (by kernel_rfl) rfl rfl (iq.build (vs:=[(2,vI 1)]) (cs:=#[vI 0,vI 0,vI 1]) rfl (by kernel_rfl)) ?_;refine jP 10 ?_;refine T ?_;intro ct bo h cf aX cu bp h ax aC cg aY ci aZ cj ap;refine dW ?_;have W:=ap.drew;refine go ?_;refine T ?_;have ⟨cv,X,h⟩:=ob h;obtain ⟨ay,aG,hae,ba,bd⟩:=W.hZ (α:=gP) (i:=5) rfl X;subst hae;refine go ?_;refine gb h fun cw Y h=>?_;refine T ?_;refine LW.se 8 W 5 X Y (hM:=(je (fun w cs F hF=>by obtain ⟨bq,bt,br,bu,bs,bv,rfl,hH⟩:=hF;exact ⟨bq,bt,br,bu,bs,bv,rfl,hH⟩))) fun ck a0=>?_;refine T ?_;intro cl a1;refine T ?_;intro cm f;cases h;rw [gZ (oi Y)] at f;exact Rc (ib.b f 8 rfl kF rfl rfl) tt ⟨aN,aP,aO,aQ,ax,aC,(some ⟨ay,aG,none⟩),az,av,aA,aw,aB,rfl,f.pk [2,3,0,5,6,7]⟩
instance k_172:Ct prog 172:=⟨by kernel_rfl,@EU⟩
theorem Jf {w0 N aE r} (h:vU N aE=some r) {ar az au} (aB:az=aE.parts.length) (aW:rb w0 ar au aE.parts) :
    gV prog 96 #[.agg #[vI aE.Oc,vS ar az au]] w0 (fun v w=>∃ an ao,v=.agg #[vI r.Oc,vS an r.parts.length ao]∧St w0 [] w [sl an ao r.parts]):=by
 subst aB;unfold vU at h;refine gV.fn func96 fun e=>?_;have dm:=St.start w0;refine T ?_;intro dL dM dn ai dN dp dP dv h br bV dO dq aj dy dr dA aS;obtain ⟨aT,aN,aQ⟩:=ob h;refine CW.jn [1,2,3] [0,1,2,3] [(17,.bool aT)] aS (h1:=?_) (h2:=?_)
 · have h:=aN;refine T ?_;intro dI cw h dB ds;refine bH h ?_ ?_<;>intro _ h
   · exact rt
   exact rt
 intro e dC dt;have h:=aQ;refine gc h ?_ ?_<;>intro _ h
 · refine T ?_;intro dD du;exact rt
 refine T ?_;intro dE aH;refine go ?_;obtain ⟨cz,aC,aG⟩:=ob h;refine CW.ie aC 0 (fun J e wb=>∃ (K:Ad) (O:Nat),En e [(2,.pointer (some ⟨ai,0,none⟩)),(3,.pointer (some ⟨aj,0,none⟩)),(4,vI J.1)]∧St w0 [] wb [bx aj 26 [vI J.2.1,vS K J.2.2.length O],bx ai 26 [vI 0,vS none 0 0],sl K O J.2.2]) ?_ ⟨br,bV,aH.po [0,2,1]⟩ ?_
 · intro J e dF o hM h;obtain ⟨K,O,hE,b0⟩:=hM;obtain ⟨e,rfl⟩:=hE.out;refine jE [2,3,4,27] fun e=>?_;refine gc h ?_ ?_<;>intro _ h
   · refine T ?_;intro H cx h am I dG b1 dH aI;obtain ⟨d,aO,aR⟩:=ob h;refine CW.cut (fun e wb=>∃ (C:Nat) (X:Ad) (ac:Nat) (Y:Ad) (ad:Nat) (Z:Ad) (ae:Nat) (aa:Ad) (af:Nat) (ab:Ad) (ah:Nat) (R:Ad) (U:Nat),En e [(2,.pointer (some ⟨ai,0,none⟩)),(3,.pointer (some ⟨aj,0,none⟩)),(4,vI J.1),(5,.pointer (some ⟨C,0,none⟩))]∧St w0 [] wb [sl am I H.parts,bx aj 26 [vI H.Oc,vS am H.parts.length I],bx ai 26 [vI 0,vS none 0 0],bx C 45 [vS X d.1.length ac,vS Y d.2.1.length ad,vS Z d.2.2.1.length ae,vS aa d.2.2.2.1.length af,vI d.2.2.2.2.1,vI d.2.2.2.2.2.1,vI d.2.2.2.2.2.2.1,vS ab d.2.2.2.2.2.2.2.1.length ah,vS R d.2.2.2.2.2.2.2.2.1.length U,vI d.2.2.2.2.2.2.2.2.2.1,vI d.2.2.2.2.2.2.2.2.2.2.1,vI d.2.2.2.2.2.2.2.2.2.2.2.1,vI d.2.2.2.2.2.2.2.2.2.2.2.2.1,vI d.2.2.2.2.2.2.2.2.2.2.2.2.2.1,vI d.2.2.2.2.2.2.2.2.2.2.2.2.2.2.1,vI d.2.2.2.2.2.2.2.2.2.2.2.2.2.2.2],sl X ac d.1,sl Y ad d.2.1,sl Z ae d.2.2.1,sl aa af d.2.2.2.1,sl ab ah d.2.2.2.2.2.2.2.1,sl R U d.2.2.2.2.2.2.2.2.1]) ?_ ?_
     · have h:=aO;refine dW ?_;have av:=aI.drew;refine gb h fun dJ ay h=>?_;obtain ⟨da,dw,hae,co,cp⟩:=av.hZ (α:=cd) (i:=0) rfl ay;subst hae;refine go ?_;obtain ⟨cX,ak,b2⟩:=av.freeze (α:=cd) 0 rfl;obtain ⟨db,dx,bW,hae,cm,_,_,aM,cn⟩:=ak.jk.idx ay;cases hae;obtain ⟨cY,dc,cZ,dd,c0,de,c1,df,c2,dg,c3,dh,rfl,cq,cr,cs,ct,cu,cv⟩:=aM;refine T ?_;have ⟨dK,cy,h⟩:=ob h;refine AW.all (rs:=[7,8]) (by kernel_rfl) (by simp) ⟨?_,?_,trivial⟩
       · refine oA ?_;refine T ?_;intro c4 di c5 dj c6 dk c8 dl c9 bs a0 bt cA b3 bX cB b4 cC aJ;have b5:=aJ.iz (α:=cd) 7 rfl ak;exact rt
       refine oA ?_;refine T ?_;intro bY cD b6;refine jP 7 ?_;refine T ?_;intro a1 bu a2 bv a3 bw a4 bz a5 bA a7 bB cE b7 cF aK;have b8:=aK.iz (α:=cd) 7 rfl ak;exact rt
     rintro e cG ⟨C,X,ac,Y,ad,Z,ae,aa,af,ab,ah,R,U,hE,b9⟩;obtain ⟨e,rfl⟩:=hE.out;have h:=aR;refine T ?_;intro cT aX h a8 bC a9 bD ba bE bb bF bc bG bd bI cH ca cI cb cU aY h be bJ bf bK bg bL bi bM bj bN bk bO cJ cc cK ce;have ⟨_,aD,h⟩:=ob h;refine LW.u (iq.rem rfl rfl (Kk aD)) rfl ?_;refine gs ?_;obtain ⟨b,aA,aF⟩:=ob h;refine CW.cut (fun e wb=>∃ (j:Ad) (p:Nat) (k:Ad) (q:Nat) (l:Ad) (x:Nat) (m:Ad) (A:Nat) (n:Ad) (B:Nat) (f:Ad) (g:Nat),En e [(2,.pointer (some ⟨ai,0,none⟩)),(3,.pointer (some ⟨aj,0,none⟩)),(4,vI J.1),(5,.pointer (some ⟨C,0,none⟩))]∧St w0 [] wb [sl am I H.parts,bx aj 26 [vI H.Oc,vS am H.parts.length I],bx ai 26 [vI 0,vS none 0 0],bx C 45 [vS j b.1.length p,vS k b.2.1.length q,vS l b.2.2.1.length x,vS m b.2.2.2.1.length A,vI b.2.2.2.2.1,vI b.2.2.2.2.2.1,vI b.2.2.2.2.2.2.1,vS n b.2.2.2.2.2.2.2.1.length B,vS f b.2.2.2.2.2.2.2.2.1.length g,vI b.2.2.2.2.2.2.2.2.2.1,vI b.2.2.2.2.2.2.2.2.2.2.1,vI b.2.2.2.2.2.2.2.2.2.2.2.1,vI b.2.2.2.2.2.2.2.2.2.2.2.2.1,vI b.2.2.2.2.2.2.2.2.2.2.2.2.2.1,vI b.2.2.2.2.2.2.2.2.2.2.2.2.2.2.1,vI b.2.2.2.2.2.2.2.2.2.2.2.2.2.2.2],sl j p b.1,sl k q b.2.1,sl l x b.2.2.1,sl m A b.2.2.2.1,sl n B b.2.2.2.2.2.2.2.1,sl f g b.2.2.2.2.2.2.2.2.1]) ?_ ?_
     · have h:=aA;refine CW.fl [2,3,4,5,60] fun e=>?_;refine gc h ?_ ?_<;>intro _ h
       · refine T ?_;intro cV aZ h bl bP bm bQ bn bR bo bS bp bT bq bU cL cf bZ cM cg cN ci cO cj;exact rt
       exact rt
     rintro e cP ⟨j,p,k,q,l,x,m,A,n,B,f,g,hE,aw⟩;obtain ⟨e,rfl⟩:=hE.out;have h:=aF;refine go ?_;have ⟨aP,ap,h⟩:=ob h;obtain ⟨W,V,hae,aU,aV⟩:=aw.hZ (α:=cd) (i:=0) rfl ap;subst hae;refine go ?_;have aL:=aw.pk (M:=[sl j p b.1,sl k q b.2.1,sl l x b.2.2.1,sl m A b.2.2.2.1,sl n B b.2.2.2.2.2.2.2.1,sl f g b.2.2.2.2.2.2.2.2.1]++[sl (some ⟨W,V,none⟩) I H.parts,bx aj 26 [vI H.Oc,vS (some ⟨W,V,none⟩) H.parts.length I],bx ai 26 [vI 0,vS none 0 0],bx C 45 [vS j b.1.length p,vS k b.2.1.length q,vS l b.2.2.1.length x,vS m b.2.2.2.1.length A,vI b.2.2.2.2.1,vI b.2.2.2.2.2.1,vI b.2.2.2.2.2.2.1,vS n b.2.2.2.2.2.2.2.1.length B,vS f b.2.2.2.2.2.2.2.2.1.length g,vI b.2.2.2.2.2.2.2.2.2.1,vI b.2.2.2.2.2.2.2.2.2.2.1,vI b.2.2.2.2.2.2.2.2.2.2.2.1,vI b.2.2.2.2.2.2.2.2.2.2.2.2.1,vI b.2.2.2.2.2.2.2.2.2.2.2.2.2.1,vI b.2.2.2.2.2.2.2.2.2.2.2.2.2.2.1,vI b.2.2.2.2.2.2.2.2.2.2.2.2.2.2.2]]) [4,5,6,7,8,9,0,1,2,3];have ⟨cW,aq,h⟩:=ob h;refine LW.uE (M:=[sl j p b.1,sl k q b.2.1,sl l x b.2.2.1,sl m A b.2.2.2.1,sl n B b.2.2.2.2.2.2.2.1,sl f g b.2.2.2.2.2.2.2.2.1]) (L:=[sl (some ⟨W,V,none⟩) I H.parts,bx aj 26 [vI H.Oc,vS (some ⟨W,V,none⟩) H.parts.length I],bx ai 26 [vI 0,vS none 0 0],bx C 45 [vS j b.1.length p,vS k b.2.1.length q,vS l b.2.2.1.length x,vS m b.2.2.2.1.length A,vI b.2.2.2.2.1,vI b.2.2.2.2.2.1,vI b.2.2.2.2.2.2.1,vS n b.2.2.2.2.2.2.2.1.length B,vS f b.2.2.2.2.2.2.2.2.1.length g,vI b.2.2.2.2.2.2.2.2.2.1,vI b.2.2.2.2.2.2.2.2.2.2.1,vI b.2.2.2.2.2.2.2.2.2.2.2.1,vI b.2.2.2.2.2.2.2.2.2.2.2.2.1,vI b.2.2.2.2.2.2.2.2.2.2.2.2.2.1,vI b.2.2.2.2.2.2.2.2.2.2.2.2.2.2.1,vI b.2.2.2.2.2.2.2.2.2.2.2.2.2.2.2]]) (z:=aP) (z':=(cd.mk (iI.mk b.1) b.2.1 b.2.2.1 (g5.mk b.2.2.2.1 (iW.mk b.2.2.2.2.1 b.2.2.2.2.2.1 b.2.2.2.2.2.2.1 b.2.2.2.2.2.2.2.1)) b.2.2.2.2.2.2.2.2.1 b.2.2.2.2.2.2.2.2.2.1 b.2.2.2.2.2.2.2.2.2.2.1 (hJ.mk b.2.2.2.2.2.2.2.2.2.2.2.1 b.2.2.2.2.2.2.2.2.2.2.2.2.1 b.2.2.2.2.2.2.2.2.2.2.2.2.2.1) b.2.2.2.2.2.2.2.2.2.2.2.2.2.2.1 b.2.2.2.2.2.2.2.2.2.2.2.2.2.2.2)) (o:=0) aL (i:=0) rfl ap kF rfl (by show _=V+(J.1:Int).toNat * 16+0;omega) rfl rfl rfl rfl (whole (fun w G hG=>⟨j,p,k,q,l,x,m,A,n,B,f,g,rfl,hG⟩)) ?_
     intro cQ ax hf;rw [oi aq] at ax;refine go ?_;rw [gZ (oi aq)] at ax;exact rt
   exact rt
 rintro e cR ⟨K,O,hE,ck⟩;obtain ⟨e,rfl⟩:=hE.out;have h:=aG;refine T ?_;intro cS cl;exact rt
instance k_96:Ct prog 96:=⟨by kernel_rfl,@Jf⟩
theorem Js {w0 N u f r} (h:vH N u f=some r) {k p l} (q:p=u.parts.length) (U:rb w0 k l u.parts) :
    gV prog 39 #[.agg #[vI u.Oc,vS k p l],.agg #[vI f.N0,vI f.NX,vI f.ig,vI f.call.N0,vI f.call.a,vI f.call.b,vI f.call.c,vI f.call.d,vI f.call.e]] w0 (fun v w=>∃ g j,v=.tuple #[.agg #[vI r.1.Oc,vS g r.1.parts.length j],.agg #[vI r.2.code,vI r.2.Oi]]∧St w0 [] w [sl g j r.1.parts]):=by
 subst q;unfold vH at h;refine gV.fn func39 fun e=>?_;have aO:=St.start w0;refine T ?_;intro bs bu aP bt bv aQ J bw aR K bz aS;refine gc h ?_ ?_<;>intro _ h
 · refine T ?_;intro bk am h aH aL aY aT;refine LW.bd [] #[vI 0,vI 0] ?_;refine T ?_;intro aZ aU a0 aV;exact rt
 refine gc h ?_ ?_<;>intro _ h
 · refine T ?_;intro bl an h aI aM a1 aW a2 V a3 W;exact rt
 refine gc h ?_ ?_<;>intro _ h
 · refine T ?_;intro R ao h x z a4 X A a5 Y a6 C;obtain ⟨O,H,L⟩:=ob h;refine CW.jn [3,4,5,6] [0,1,2,3,4] [(45,.bool O)] C (h1:=?_) (h2:=?_)
   · have h:=H;refine T ?_;intro bm ap h a7 Z;refine bH h ?_ ?_<;>intro _ h
     · refine go ?_;refine T ?_;intro bn aq h a8 aa;refine bH h ?_ ?_<;>intro _ h
       · refine T ?_;intro bo ar h a9 ab;exact rt
       exact rt
     exact rt
   intro e ba m;have h:=L;refine gs ?_;obtain ⟨B,I,M⟩:=ob h;refine CW.cut (fun e wb=>En e [(4,.pointer (some ⟨J,0,none⟩)),(5,.pointer (some ⟨K,0,none⟩)),(6,.pointer (some ⟨A,0,none⟩))]∧St w0 [] wb [bx A 26 [vI R.Oc,vS x B.length z],sl x z B,bx K 53 [vI 0,vI 0],bx J 26 [vI 0,vS none 0 0]]) ?_ ?_
   · have h:=I;refine CW.fl [3,4,5,6,45] fun e=>?_;refine gc h ?_ ?_<;>intro _ h
     · refine gb h fun bp n h=>?_;obtain ⟨aK,aX,hae,aj,ak⟩:=m.hZ (α:=cd) (i:=1) rfl n;subst hae;refine go ?_;refine gb h fun bq o h=>?_;refine LW.se 10 m 1 n o (hM:=(je (fun w cs F hF=>by obtain ⟨av,aB,aw,aC,ax,aD,ay,aE,az,aF,aA,aG,rfl,hH⟩:=hF;exact ⟨av,aB,aw,aC,ax,aD,ay,aE,az,aF,aA,aG,rfl,hH⟩))) fun bb G=>?_;refine go ?_;rw [gZ (oi o)] at G;exact rt
     exact rt
   rintro e bc ⟨hE,ac⟩;obtain ⟨e,rfl⟩:=hE.out;have h:=M;refine jj [] #[vI 0,vI 0] ?_;refine T ?_;intro be ad bf ae;exact rt
 refine T ?_;intro br au h aJ aN bg af;refine LW.bd [(0,vI 2)] #[vI 2,vI 0] ?_;refine T ?_;intro bi ah bj ai;exact rt
instance k_39:Ct prog 39:=⟨by kernel_rfl,@Js⟩
theorem Jo {w0 N u f r} (h:vG N u f=some r) {k p l} (q:p=u.parts.length) (U:rb w0 k l u.parts) :
    gV prog 42 #[.agg #[vI u.Oc,vS k p l],.agg #[vI f.N0,vI f.NX,vI f.ig,vI f.call.N0,vI f.call.a,vI f.call.b,vI f.call.c,vI f.call.d,vI f.call.e]] w0 (fun v w=>∃ g j,v=.tuple #[.agg #[vI r.1.Oc,vS g r.1.parts.length j],.agg #[vI r.2.code,vI r.2.Oi]]∧St w0 [] w [sl g j r.1.parts]):=by
 subst q;unfold vG at h;refine gV.fn func42 fun e=>?_;have aO:=St.start w0;refine T ?_;intro bs bu aP bt bv aQ J bw aR K bz aS;refine gc h ?_ ?_<;>intro _ h
 · refine T ?_;intro bk am h aH aL aY aT;refine LW.bd [] #[vI 0,vI 0] ?_;refine T ?_;intro aZ aU a0 aV;exact rt
 refine gc h ?_ ?_<;>intro _ h
 · refine T ?_;intro bl an h aI aM a1 aW a2 V a3 W;exact rt
 refine gc h ?_ ?_<;>intro _ h
 · refine T ?_;intro R ao h x z a4 X A a5 Y a6 C;obtain ⟨O,H,L⟩:=ob h;refine CW.jn [3,4,5,6] [0,1,2,3,4] [(42,.bool O)] C (h1:=?_) (h2:=?_)
   · have h:=H;refine T ?_;intro bm ap h a7 Z;refine bH h ?_ ?_<;>intro _ h
     · refine T ?_;intro bn aq h a8 aa;refine bH h ?_ ?_<;>intro _ h
       · refine T ?_;intro bo ar h a9 ab;exact rt
       exact rt
     exact rt
   intro e ba m;have h:=L;refine gs ?_;obtain ⟨B,I,M⟩:=ob h;refine CW.cut (fun e wb=>En e [(4,.pointer (some ⟨J,0,none⟩)),(5,.pointer (some ⟨K,0,none⟩)),(6,.pointer (some ⟨A,0,none⟩))]∧St w0 [] wb [bx A 26 [vI R.Oc,vS x B.length z],sl x z B,bx K 53 [vI 0,vI 0],bx J 26 [vI 0,vS none 0 0]]) ?_ ?_
   · have h:=I;refine CW.fl [3,4,5,6,42] fun e=>?_;refine gc h ?_ ?_<;>intro _ h
     · refine gb h fun bp n h=>?_;obtain ⟨aK,aX,hae,aj,ak⟩:=m.hZ (α:=cd) (i:=1) rfl n;subst hae;refine go ?_;refine gb h fun bq o h=>?_;refine LW.se 10 m 1 n o (hM:=(je (fun w cs F hF=>by obtain ⟨av,aB,aw,aC,ax,aD,ay,aE,az,aF,aA,aG,rfl,hH⟩:=hF;exact ⟨av,aB,aw,aC,ax,aD,ay,aE,az,aF,aA,aG,rfl,hH⟩))) fun bb G=>?_;refine go ?_;rw [gZ (oi o)] at G;exact rt
     exact rt
   rintro e bc ⟨hE,ac⟩;obtain ⟨e,rfl⟩:=hE.out;have h:=M;refine jj [] #[vI 0,vI 0] ?_;refine T ?_;intro be ad bf ae;exact rt
 refine T ?_;intro br au h aJ aN bg af;refine LW.bd [(0,vI 2)] #[vI 2,vI 0] ?_;refine T ?_;intro bi ah bj ai;exact rt
instance k_42:Ct prog 42:=⟨by kernel_rfl,@Jo⟩
end Go.Kx
