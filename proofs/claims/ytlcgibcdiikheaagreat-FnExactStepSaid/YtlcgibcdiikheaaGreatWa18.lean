import Derived.Test.YtlcgibcdiikheaaGreatWa15
namespace Go.Kx
open Go Go.RowKit Go.Proofs
open Tryz
set_option maxRecDepth 10000
set_option maxHeartbeats 8000000
set_option linter.unusedVariables false
set_option linter.unusedSimpArgs false
theorem GG {w0 N b aD aE r} (h:wG N b aD aE=some r) {L ae W} (am:ae=b.Vb.Va.length) (aV:rb w0 L W b.Vb.Va) {M af X} (an:af=b.own.length) (aW:rb w0 M X b.own) {O ah Y} (ao:ah=b.Vd.length) (aX:rb w0 O Y b.Vd) {R ai Z} (ap:ai=b.U7.ag.length) (aY:rb w0 R Z b.U7.ag) {U aj aa} (aq:aj=b.U7.gc.pT.length) (aZ:rb w0 U aa b.U7.gc.pT) {V ak ab} (ar:ak=b.pU.length) (a0:rb w0 V ab b.pU) :
    pY prog 186 #[.agg #[vS L ae W,vS M af X,vS O ah Y,vS R ai Z,vI b.U7.gc.Ve,vI b.U7.gc.Vn,vI b.U7.gc.Vg,vS U aj aa,vS V ak ab,vI b.Vj,vI b.Vk,vI b.bh.gE,vI b.bh.qa,vI b.bh.qg,vI b.pZ,vI b.Vi],vI aD,vI aE] w0 (fun v w=>∃ p C, ∃ q G, ∃ x H, ∃ z I, ∃ A J, ∃ B K,v=.tuple #[.agg #[vS p r.1.Vb.Va.length C,vS q r.1.own.length G,vS x r.1.Vd.length H,vS z r.1.U7.ag.length I,vI r.1.U7.gc.Ve,vI r.1.U7.gc.Vn,vI r.1.U7.gc.Vg,vS A r.1.U7.gc.pT.length J,vS B r.1.pU.length K,vI r.1.Vj,vI r.1.Vk,vI r.1.bh.gE,vI r.1.bh.qa,vI r.1.bh.qg,vI r.1.pZ,vI r.1.Vi],vI r.2]∧St w0 [] w [sl p C r.1.Vb.Va,sl q G r.1.own,sl x H r.1.Vd,sl z I r.1.U7.ag,sl A J r.1.U7.gc.pT,sl B K r.1.pU]):=by
 subst am an ao ap aq ar;unfold wG at h;refine pY.fn func186 fun e=>?_;have bJ:=St.start w0;refine T ?_;intro cf cg bK aP ci bL f bQ h aI aN aJ aO aF aK aG aL aH aM au av bU bM aw bV bN bW aS;obtain ⟨aU,aA,aQ⟩:=ob h;refine CW.jn [1,2,6,8,9] [0,1,2,3,4,5,6,7] [(25,.bool aU)] aS (h1:=?_) (h2:=?_)
 · have h:=aA;refine T ?_;intro ca bm h bX bO;refine bH h ?_ ?_<;>intro _ h
   · exact rt
   refine T ?_;intro cb bn h bY bP;exact rt
 intro e bZ aT;have h:=aQ;refine gc h ?_ ?_<;>intro _ h
 · refine T ?_;intro b0 a2;exact rt
 refine go ?_;obtain ⟨bT,aC,aR⟩:=ob h;refine CW.ie aC 0 (fun d e wb=>∃ (g:Ad) (l:Nat) (j:Ad) (m:Nat) (k:Ad) (n:Nat),En e [(1,vI aD),(2,vI aE),(6,.pointer (some ⟨aP,0,none⟩)),(8,.pointer (some ⟨aw,0,none⟩)),(9,vI d.1),(10,vI d.2.1)]∧St w0 [] wb [bx aw 50 [vS aI f.Vb.Va.length aN,vS aJ f.own.length aO,vS g d.2.2.1.length l,vS j d.2.2.2.1.length m,vI d.2.2.2.2.1,vI d.2.2.2.2.2.1,vI d.2.2.2.2.2.2.1,vS k d.2.2.2.2.2.2.2.length n,vS au f.pU.length av,vI f.Vj,vI f.Vk,vI f.bh.gE,vI f.bh.qa,vI f.bh.qg,vI f.pZ,vI f.Vi],sl aI aN f.Vb.Va,sl aJ aO f.own,sl au av f.pU,bx aP 50 [vS none 0 0,vS none 0 0,vS none 0 0,vS none 0 0,vI 0,vI 0,vI 0,vS none 0 0,vS none 0 0,vI 0,vI 0,vI 0,vI 0,vI 0,vI 0,vI 0],sl g l d.2.2.1,sl j m d.2.2.2.1,sl k n d.2.2.2.2.2.2.2]) ?_ ⟨aF,aK,aG,aL,aH,aM,aT.po [0,1,2,6,7,3,4,5]⟩ ?_
 · intro d e b1 o hM h;obtain ⟨g,l,j,m,k,n,hE,a3⟩:=hM;obtain ⟨e,rfl⟩:=hE.out;refine gc h ?_ ?_<;>intro _ h
   · refine T ?_;intro cc bo h br bB bs bC b2 a4 bI b3 a5 b4 a7;refine T ?_;intro b5 ay;refine gc h ?_ ?_<;>intro _ h
     · refine sf ?_;have ac:=ay.drew;refine gb h fun ax ad h=>?_;obtain ⟨bz,bR,hae,bg,bi⟩:=ac.qk (α:=j8) (i:=9) rfl ad;subst hae;refine go ?_;obtain ⟨bq,aB,a9⟩:=ac.freeze (α:=j8) 9 rfl;obtain ⟨bA,bS,a1,hae,be,_,_,az,bf⟩:=aB.rQ.idx ad;cases hae;obtain ⟨bt,bD,bu,bE,bv,bF,rfl,bj,bk,bl⟩:=az;refine T ?_;refine go ?_;refine T ?_;refine AW.u (i:=12) rfl (by kernel_rfl) rfl rfl (qp.build (vs:=[(0,vI ax.gE)]) (cs:=#[vI ax.gE,vI 0,vI 0]) rfl (by kernel_rfl)) ?_;refine T ?_;intro ce bp h bw bG b6 ba b7 bb;exact rt
     exact rt
   exact rt
 rintro e b8 ⟨g,l,j,m,k,n,hE,bc⟩;obtain ⟨e,rfl⟩:=hE.out;have h:=aR;refine T ?_;intro b9 bd;exact rt
instance k_186:Ct prog 186:=⟨by kernel_rfl,@GG⟩
theorem Jf {w0 N b a9 r} (h:yN N b a9=some r) {m ak z} (au:ak=b.Vb.Va.length) (Z:rb w0 m z b.Vb.Va) {n am A} (av:am=b.own.length) (aa:rb w0 n A b.own) {p an B} (aw:an=b.Vd.length) (K:rb w0 p B b.Vd) {U ao C} (ax:ao=b.U7.ag.length) (O:rb w0 U C b.U7.ag) {q ap H} (ay:ap=b.U7.gc.pT.length) (ab:rb w0 q H b.U7.gc.pT) {x aq I} (az:aq=b.pU.length) (ac:rb w0 x I b.pU) :
    pY prog 285 #[.agg #[vS m ak z,vS n am A,vS p an B,vS U ao C,vI b.U7.gc.Ve,vI b.U7.gc.Vn,vI b.U7.gc.Vg,vS q ap H,vS x aq I,vI b.Vj,vI b.Vk,vI b.bh.gE,vI b.bh.qa,vI b.bh.qg,vI b.pZ,vI b.Vi],vI a9] w0 (fun v w=>∃ aA aB,v=vS aA r.length aB∧St w0 [] w [sl aA aB r]):=by
 subst au av aw ax ay az;unfold yN at h;refine pY.fn func285 fun e=>?_;have a1:=St.start w0;refine C5 a1 fun aF bT a2=>?_;refine go ?_;refine LW.b0 (α:=Int) a2 ?_;intro bc bd bU k hf;refine gb h fun bb a5 h=>?_;refine LW.cl (Dz a5 rfl (k.rB Z) rfl (k.rB aa) rfl (k.rB K) rfl (k.rB O) rfl (k.rB ab) rfl (k.rB ac)) ?_;rintro _ bV ⟨aV,aY,rfl,hs⟩;have a4:=k.add hs;refine go ?_;obtain ⟨bG,aO,a0⟩:=ob h;refine CW.ie aO 0 (fun R e wb=>∃ (d:Ad) (f:Nat),En e [(2,.pointer (some ⟨aF,0,none⟩)),(5,vS d R.1.length f),(6,vS aV bb.length aY),(7,vI R.2)]∧St w0 [] wb [sl aV aY bb,sl d f R.1,bx aF 50 (qP m z n A p B U C q H x I b)]) ?_ ⟨bc,bd,a4.po [0,1,2]⟩ ?_
 · intro R e ar o hM h;obtain ⟨d,f,hE,aC⟩:=hM;obtain ⟨e,rfl⟩:=hE.out;refine rU [2,5,6,7,16] fun e=>?_;refine gc h ?_ ?_<;>intro _ h
   · refine sf ?_;have aD:=aC.drew;refine gb h fun ba aj h=>?_;obtain ⟨bu,bD,hae,bi,bl⟩:=aD.qk (α:=Int) (i:=0) rfl aj;subst hae;refine go ?_;obtain ⟨aT,X,ae⟩:=aD.freeze (α:=Int) 0 rfl;obtain ⟨bv,bE,be,hae,W,_,_,aK,ai⟩:=X.rQ.idx aj;cases hae;obtain rfl:=aK;refine AW.tk 6 rfl (rh.rR ar.drew sW rfl (ai 0 _ rfl)) (ae.zC 0 rfl W) ?_;have ⟨bP,aP,h⟩:=ob h;obtain ⟨aW,a8,bf,rfl,J,bj,bm,⟨br,bz,bs,bA,bt,bB,rfl,bo,bp,bq⟩,aM⟩:=O.idx aP;refine go ?_;refine AW.tk 8 rfl (rh.Bj w0 Ci rfl rfl (fun j u hu=>aM j u hu)) (ae.same _ J.1 J.2) ?_;refine jO 9 ?_;refine LW.al ae fun bC bJ Y=>?_;refine jN (.c (Y.same _ J.1 J.2) (.c (Y.zC 1 rfl W) (.c (Y.ce 3) jZ))) ?_;refine jO 10 ?_;refine LW.st Y 0 fun bK aE=>?_;refine jn ?_;refine gs ?_;obtain ⟨a6,aL,aZ⟩:=ob h;refine CW.jn [2,5,6,7] [1,2,3] [(43,.bool a6)] aE (h1:=?_) (h2:=?_)
     · have h:=aL;refine dW ?_;have g:=aE.drew;refine gB h ?_ ?_<;>intro ah h
       · refine gb h fun bQ aQ h=>?_;refine jO 9 ?_;refine (LW.gY (ug rfl rfl ah) ?_);refine LW.cl (Dj aQ rfl (g.rB Z) rfl (g.rB aa) rfl (g.rB K) rfl (g.rB O) rfl (g.rB ab) rfl (g.rB ac)) ?_;rintro _ bL ⟨rfl,hs⟩;have ad:=g.add hs;refine jn ?_;have ⟨bR,aR,h⟩:=ob h;obtain ⟨bw,bF,bg,rfl,af,bk,bn,rfl,aN⟩:=K.idx aR;refine go ?_;refine AW.take (i:=13) rfl (by kernel_rfl) (ug rfl rfl ah) rfl (rh.rR w0 sW rfl (aN 4 _ rfl)) (ad.same _ af.1 af.2) ?_;refine go ?_;cases oi h;exact ad.po [1,2,3]
       refine go ?_;cases oi h;exact g.po [1,2,3]
     intro e bM V;have h:=aZ;refine gc h ?_ ?_<;>intro _ h
     · refine go ?_;refine LW.l (rh.rR ar.drew sW rfl (ai 0 _ rfl)) (V.zC 0 rfl W) rfl ?_;have ⟨bS,aS,h⟩:=ob h;refine LW.tQ (M:=[]) (L:=[fz ar.drew aT,sl d f R.1,bx aF 50 (qP m z n A p B (some ⟨aW,a8,none⟩) C q H x I b)]) (vs:=#[vI ba]) (i:=1) xN rfl (by kernel_rfl) rfl rfl aS V rfl (fun w G hG=>by cases (show G=[] from hG);exact ⟨rfl,rfl⟩) rfl rfl ?_;intro bI aU aX bN aG hf;refine go ?_;have aH:=aG.qG (α:=Int) 0 rfl X;cases oi h;exact ⟨rfl,⟨aU,aX,aH.po [0,1,2]⟩⟩
     refine go ?_;have aI:=V.qG (α:=Int) 0 rfl X;cases oi h;exact ⟨rfl,⟨d,f,aI.po [0,1,2]⟩⟩
   refine go ?_;cases oi h;exact ⟨trivial,rfl,⟨d,f,aC.po [0,1,2]⟩⟩
 rintro e bO ⟨d,f,hE,aJ⟩;obtain ⟨e,rfl⟩:=hE.out;have h:=a0;refine go ?_;cases h;exact Ra ⟨d,f,rfl,aJ.pk [1]⟩
instance k_285:Ct prog 285:=⟨by kernel_rfl,@Jf⟩
theorem Ls {w0 N b R U r} (h:yq N b R U=some r) {d u l} (G:u=b.Vb.Va.length) (V:rb w0 d l b.Vb.Va) {f x m} (H:x=b.own.length) (W:rb w0 f m b.own) {g z n} (I:z=b.Vd.length) (X:rb w0 g n b.Vd) {i A o} (J:A=b.U7.ag.length) (M:rb w0 i o b.U7.ag) {j B p} (K:B=b.U7.gc.pT.length) (Y:rb w0 j p b.U7.gc.pT) {k C q} (L:C=b.pU.length) (Z:rb w0 k q b.pU) :
    pY prog 85 #[.agg #[vS d u l,vS f x m,vS g z n,vS i A o,vI b.U7.gc.Ve,vI b.U7.gc.Vn,vI b.U7.gc.Vg,vS j B p,vS k C q,vI b.Vj,vI b.Vk,vI b.bh.gE,vI b.bh.qa,vI b.bh.qg,vI b.pZ,vI b.Vi],vI R,vI U] w0 (fun v w=>v=.bool r∧St w0 [] w []):=by
 subst G H I J K L;unfold yq at h;refine pY.fn func85 fun e=>?_;have ar:=St.start w0;refine T ?_;intro aD aE au;refine T ?_;intro aH ax h aB aC aF av aI ay h aG aw;refine bH h ?_ ?_<;>intro _ h
 · refine gb h fun aA O h=>?_;obtain ⟨an,az,aa,rfl,ab,ad,ae,⟨aj,ao,ak,ap,am,aq,rfl,af,ah,ai⟩,ac⟩:=M.idx O;refine go ?_;refine T ?_;exact rt
 exact rt
instance k_85:Ct prog 85:=⟨by kernel_rfl,@Ls⟩
theorem Dx {w0 N b M O R r} (h:u9 N b M O R=some r) {d u l} (G:u=b.Vb.Va.length) (U:rb w0 d l b.Vb.Va) {f x m} (H:x=b.own.length) (V:rb w0 f m b.own) {g z n} (I:z=b.Vd.length) (W:rb w0 g n b.Vd) {i A o} (J:A=b.U7.ag.length) (X:rb w0 i o b.U7.ag) {j B p} (K:B=b.U7.gc.pT.length) (Y:rb w0 j p b.U7.gc.pT) {k C q} (L:C=b.pU.length) (Z:rb w0 k q b.pU) :
    pY prog 266 #[.agg #[vS d u l,vS f x m,vS g z n,vS i A o,vI b.U7.gc.Ve,vI b.U7.gc.Vn,vI b.U7.gc.Vg,vS j B p,vS k C q,vI b.Vj,vI b.Vk,vI b.bh.gE,vI b.bh.qa,vI b.bh.qg,vI b.pZ,vI b.Vi],vI M,vI O,vI R] w0 (fun v w=>v=.tuple #[vI r.1,vI r.2]∧St w0 [] w []):=by
 subst G H I J K L;unfold u9 at h;refine pY.fn func266 fun e=>?_;have aa:=St.start w0;refine T ?_;intro ak am ab ap af h an ac;refine gc h ?_ ?_<;>intro _ h
 · exact rt
 refine T ?_;intro aq ah h ao ad;refine gc h ?_ ?_<;>intro _ h
 · exact rt
 refine T ?_;intro ar ai h aj ae;refine CW.fl [10,26] fun e=>?_;refine gc h ?_ ?_<;>intro _ h
 · exact rt
 exact rt
instance k_266:Ct prog 266:=⟨by kernel_rfl,@Dx⟩
end Go.Kx
