import Derived.Test.YtlcgibcdiikheaaGreatWa13
import Derived.Test.YtlcgibcdiikheaaGreatWa14
import Derived.Test.YtlcgibcdiikheaaGreatWa15
namespace Go.Kx
open Go Go.RowKit Go.Proofs
open Tryz
set_option maxRecDepth 10000
set_option maxHeartbeats 8000000
set_option linter.unusedVariables false
set_option linter.unusedSimpArgs false
theorem MT {w0 N b ak r} (h:A3 N b ak=some r) {l z n} (C:z=b.ag.length) (H:rb w0 l n b.ag) {m A o} (G:A=b.gc.pT.length) (am:rb w0 m o b.gc.pT) :
    pY prog 300 #[.agg #[vS l z n,vI b.gc.Ve,vI b.gc.Vn,vI b.gc.Vg,vS m A o],vI ak] w0 (fun v w=>∃ d g, ∃ f j,v=.agg #[vS d r.ag.length g,vI r.gc.Ve,vI r.gc.Vn,vI r.gc.Vg,vS f r.gc.pT.length j]∧St w0 [] w [sl d g r.ag,sl f j r.gc.pT]):=by
 subst C G;unfold A3 at h;refine pY.fn func300 fun e=>?_;have aO:=St.start w0;refine T ?_;intro bj bk aP ae bl aQ B aV h aa ac ab ad aZ aR I a0 aS a1 ai;obtain ⟨aj,M,af⟩:=ob h;refine CW.jn [1,2,4,5] [0,1,2,3,4] [(22,.bool aj)] ai (h1:=?_) (h2:=?_)
 · have h:=M;refine T ?_;intro bb aD h a2 aT;refine bH h ?_ ?_<;>intro _ h
   · refine T ?_;intro bc aE h a3 aU;refine bH h ?_ ?_<;>intro _ h
     · refine gb h fun bd R h=>?_;obtain ⟨aI,aW,an,rfl,aq,au,ax,⟨aF,aL,aG,aM,aH,aN,rfl,aA,aB,aC⟩,ar⟩:=H.idx R;refine go ?_;refine T ?_;exact rt
     exact rt
   exact rt
 intro e a4 k;have h:=af;refine gs ?_;obtain ⟨J,O,ah⟩:=ob h;refine CW.cut (fun e wb=>En e [(4,.pointer (some ⟨ae,0,none⟩)),(5,.pointer (some ⟨I,0,none⟩))]∧St w0 [] wb [bx I 45 [vS aa J.length ac,vI B.gc.Ve,vI B.gc.Vn,vI B.gc.Vg,vS ab B.gc.pT.length ad],sl aa ac J,sl ab ad B.gc.pT,bx ae 45 [vS none 0 0,vI 0,vI 0,vI 0,vS none 0 0]]) ?_ ?_
 · have h:=O;refine gc h ?_ ?_<;>intro _ h
   · refine gB h ?_ ?_<;>intro _ h
     · refine gb h fun be p h=>?_;obtain ⟨aJ,aX,hae,av,ay⟩:=k.qk (α:=j8) (i:=1) rfl p;subst hae;refine go ?_;refine gb h fun bf q h=>?_;refine LW.se 9 k 1 p q (hM:=(rm (fun w cs F hF=>by obtain ⟨U,X,V,Y,W,Z,rfl,hH⟩:=hF;exact ⟨U,X,V,Y,W,Z,rfl,hH⟩))) fun a5 K=>?_;refine go ?_;rw [pV (oi q)] at K;exact rt
     refine gb h fun bg u h=>?_;obtain ⟨aK,aY,hae,aw,az⟩:=k.qk (α:=j8) (i:=1) rfl u;subst hae;refine go ?_;refine gb h fun bi x h=>?_;refine LW.se 9 k 1 u x (hM:=(rm (fun w cs F hF=>by obtain ⟨U,X,V,Y,W,Z,rfl,hH⟩:=hF;exact ⟨U,X,V,Y,W,Z,rfl,hH⟩))) fun a7 L=>?_;refine go ?_;rw [pV (oi x)] at L;exact rt
   exact rt
 rintro e a9 ⟨hE,ao⟩;obtain ⟨e,rfl⟩:=hE.out;have h:=ah;refine T ?_;intro ba ap;exact rt
instance k_300:Ct prog 300:=⟨by kernel_rfl,@MT⟩
theorem FT {w0 N j O r} (h:xd N j O=some r) {o x q} (A:x=j.ag.length) (R:rb w0 o q j.ag) {p z u} (B:z=j.gc.pT.length) (U:rb w0 p u j.gc.pT) :
    pY prog 324 #[.agg #[vS o x q,vI j.gc.Ve,vI j.gc.Vn,vI j.gc.Vg,vS p z u],vI O] w0 (fun v w=>∃ k m, ∃ l n,v=.agg #[vS k r.ag.length m,vI r.gc.Ve,vI r.gc.Vn,vI r.gc.Vg,vS l r.gc.pT.length n]∧St w0 [] w [sl k m r.ag,sl l n r.gc.pT]):=by
 subst A B;unfold xd at h;refine pY.fn func324 fun e=>?_;have af:=St.start w0;refine T ?_;intro aI aJ ah I aK ai aL ap h aE aG aF aH aq aj C ar ak au L;obtain ⟨M,G,J⟩:=ob h;refine CW.jn [1,4,5] [0,1,2,3] [(13,.bool M)] L (h1:=?_) (h2:=?_)
 · have h:=G;refine T ?_;intro aB Y h av am;refine bH h ?_ ?_<;>intro _ h
   · refine T ?_;intro aC Z h aw an;exact rt
   exact rt
 intro e ax ao;have h:=J;refine gs ?_;obtain ⟨b,H,K⟩:=ob h;refine CW.cut (fun e wb=>∃ (d:Ad) (g:Nat) (f:Ad) (i:Nat),En e [(4,.pointer (some ⟨I,0,none⟩)),(5,.pointer (some ⟨C,0,none⟩))]∧St w0 [] wb [bx C 45 [vS d b.1.length g,vI b.2.1,vI b.2.2.1,vI b.2.2.2.1,vS f b.2.2.2.2.length i],bx I 45 [vS none 0 0,vI 0,vI 0,vI 0,vS none 0 0],sl d g b.1,sl f i b.2.2.2.2]) ?_ ?_
 · have h:=H;refine gc h ?_ ?_<;>intro _ h
   · refine T ?_;intro aD aa h ab ad ac ae ay V;exact rt
   exact rt
 rintro e az ⟨d,g,f,i,hE,W⟩;obtain ⟨e,rfl⟩:=hE.out;have h:=K;refine T ?_;intro aA X;exact rt
instance k_324:Ct prog 324:=⟨by kernel_rfl,@FT⟩
theorem ID {w0 N L B b r} (h:yi N L B b=some r) {g n k} (q:n=L.length) (z:rb w0 g k L) :
    pY prog 325 #[vS g n k,vI B,.agg #[vI b.gE,vI b.qa,vI b.qg]] w0 (fun v w=>∃ d f,v=.tuple #[vS d r.1.length f,vI r.2.1,.bool r.2.2]∧St w0 [] w [sl d f r.1]):=by
 subst q;unfold yi at h;refine pY.fn func325 fun e=>?_;have ai:=St.start w0;refine T ?_;intro aD aE aj ac ap h aC I aF M;refine CW.fl [0,1,5,9,21] fun e=>?_;refine gc h ?_ ?_<;>intro _ h
 · exact rt
 refine go ?_;obtain ⟨H,J,C⟩:=ob h;refine CW.mono (CW.lx [0,1,5,9,23,24] [0,1] [0] 0 (fun A=>[(25,vI A)]) (fun r x e wb=>x=.ret∧∃ u,u=r∧∃ v,tu prog f325.results e wb v∧∃ d f,v=.tuple #[vS d u.1.length f,vI u.2.1,.bool u.2.2]∧St w0 [] wb [sl d f u.1]) M J (hb:=?_)) ?_
 · intro A e aG o ak h;refine gc h ?_ ?_<;>intro _ h
   · refine gb h fun az K h=>?_;obtain ⟨ae,aq,U,rfl,V,X,Z,rfl,W⟩:=z.idx K;refine go ?_;refine T ?_;intro ah au am av G;refine CW.fl [0,1,5,9,11,23,24,25,32] fun e=>?_;refine gc h ?_ ?_<;>intro _ h
     · refine rX [(0,.bool true),(1,vI B),(2,.agg #[vI b.gE,vI b.qa,vI b.qg])] #[.bool true,vI B,vI b.gE,vI b.qa,vI b.qg] ?_;have ⟨aA,l,h⟩:=ob h;obtain ⟨j,p,hae,Y,aa⟩:=G.qk (α:=qc) (i:=1) rfl l;subst hae;refine go ?_;have ⟨R,m,h⟩:=ob h;refine LW.se 0 G 1 l m (hM:=A1) fun aw O=>?_;refine go ?_;replace h:=oi h;subst h;exact ⟨trivial,rfl,_,rfl,⟨_,tu.three (qt.t rfl) (qt.t rfl) (qt.t rfl),(some ⟨j,p,none⟩),I,(show (.tuple #[vS (some ⟨j,p,none⟩) ac.1.length I,vI A,.bool true]:Value)=.tuple #[vS (some ⟨j,p,none⟩) R.length I,vI A,.bool true] by rw [pV (oi m)]),O.pk [1]⟩⟩
     exact rt
   exact rt
 intro x e ax hM;rcases H with H | ar
 · obtain ⟨rfl,hM⟩:=hM;obtain ⟨e,rfl,an⟩:=eo hM;have h:=C;refine T ?_;intro aB ab h ad af ay ao;exact rt
 obtain ⟨rfl,u,rfl,hM⟩:=hM;cases C;exact And.intro trivial hM
instance k_325:Ct prog 325:=⟨by kernel_rfl,@ID⟩
theorem KF {w0 N B C r} (h:BD N B C=some r) {b i f} (k:i=B.length) (m:rb w0 b f B) {d j g} (l:j=C.length) (n:rb w0 d g C) :
    pY prog 101 #[vS b i f,vS d j g] w0 (fun v w=>v=.bool r∧St w0 [] w []):=by
 subst k l;unfold BD at h;refine pY.fn func101 fun e=>?_;have G:=St.start w0;refine gc h ?_ ?_<;>intro _ h
 · exact rt
 refine go ?_;obtain ⟨q,z,p⟩:=ob h;refine CW.mono (CW.lx [0,1] [] [] 0 (fun J=>[(5,vI J)]) (RT prog f101.results (fun u=>.bool u) w0 []) G z (hb:=?_)) ?_
 · intro J e a0 o H h;refine gc h ?_ ?_<;>intro _ h
   · refine sf ?_;have aN:=H.drew;refine gb h fun a1 I h=>?_;obtain ⟨aY,aZ,K,rfl,M,aQ,aR,⟨am,aB,an,aC,ao,aD,ap,aE,aq,aF,ar,aG,rfl,X,Y,Z,aa,ab,ac⟩,R⟩:=m.idx I;refine go ?_;refine T ?_;have ⟨aW,A,h⟩:=ob h;obtain ⟨aA,aS,L,rfl,O,V,W,⟨au,aH,av,aI,aw,aJ,ax,aK,ay,aL,az,aM,rfl,ad,ae,af,ah,ai,aj⟩,U⟩:=n.idx A;refine go ?_;refine T ?_;intro aX ak h aU aO;refine gc h ?_ ?_<;>intro _ h
     · exact rt
     exact rt
   exact rt
 intro x e aV hM;rcases q with q | aT
 · obtain ⟨rfl,hM⟩:=hM;obtain ⟨e,rfl,aP⟩:=eo hM;rw [show e=qy e [] from rfl];have h:=p;exact rt
 obtain ⟨rfl,u,rfl,hM⟩:=hM;cases p;exact And.intro trivial hM
instance k_101:Ct prog 101:=⟨by kernel_rfl,@KF⟩
theorem tg {w0 N k r} (h:vK N k=some r) {f i g} (j:i=k.parts.length) (l:rb w0 f g k.parts) :
    pY prog 20 #[.agg #[vI k.Vo,vS f i g]] w0 (fun v w=>∃ b d,v=.agg #[vI r.Vo,vS b r.parts.length d]∧St w0 [] w [sl b d r.parts]):=by
 subst j;unfold vK at h;refine pY.fn func20 fun e=>?_;have n:=St.start w0;refine T ?_;intro J M o K O p L R q U u V B h I m C x G z H A;exact rt
instance k_20:Ct prog 20:=⟨by kernel_rfl,@tg⟩
theorem FM {w0 N j r} (h:vG N j=some r) {b f d} (g:f=j.parts.length) (i:rb w0 b d j.parts) :
    pY prog 16 #[.agg #[vI j.Vo,vS b f d]] w0 (fun v w=>v=.bool r∧St w0 [] w []):=by
 subst g;unfold vG at h;refine pY.fn func16 fun e=>?_;have ap:=St.start w0;refine T ?_;intro aM aN q;obtain ⟨Z,A,C⟩:=ob h;refine CW.jn [1] [0] [(14,.bool Z)] q (h1:=?_) (h2:=?_)
 · have h:=A;refine T ?_;intro aQ ay h aO aq;refine bH h ?_ ?_<;>intro _ h
   · exact rt
   refine T ?_;intro aR az h aP ar;exact rt
 intro e aC z;have h:=C;refine gc h ?_ ?_<;>intro _ h
 · exact rt
 refine go ?_;obtain ⟨l,n,k⟩:=ob h;refine CW.mono (CW.lx [1] [0] [1] 0 (fun m=>[(3,vI m)]) (RT prog f16.results (fun u=>.bool u) w0 []) z n (hb:=?_)) ?_
 · intro m e aD o au h;refine gc h ?_ ?_<;>intro _ h
   · refine gb h fun aI p h=>?_;obtain ⟨ah,aA,B,rfl,H,J,K,⟨aa,ai,ab,aj,ac,ak,ad,am,ae,an,af,ao,rfl,L,M,O,R,U,V⟩,I⟩:=i.idx p;refine go ?_;refine T ?_;intro aJ W h aE av;refine CW.fl [1,3,28] fun e=>?_;refine gc h ?_ ?_<;>intro _ h
     · exact rt
     exact rt
   exact rt
 intro x e aF hM;rcases l with l | aB
 · obtain ⟨rfl,hM⟩:=hM;obtain ⟨e,rfl,aw⟩:=eo hM;have h:=k;refine T ?_;intro aK X h aG ax aL Y h aH G;exact rt
 obtain ⟨rfl,u,rfl,hM⟩:=hM;cases k;exact And.intro trivial hM
instance k_16:Ct prog 16:=⟨by kernel_rfl,@FM⟩
theorem MO {w0 N d a2 r} (h:A0 N d a2=some r) {J aj U} (aq:aj=d.Vb.Va.length) (A:rb w0 J U d.Vb.Va) {K ak V} (ar:ak=d.own.length) (B:rb w0 K V d.own) {L am W} (au:am=d.Vd.length) (k:rb w0 L W d.Vd) {M an X} (av:an=d.U7.ag.length) (m:rb w0 M X d.U7.ag) {O ao Y} (aw:ao=d.U7.gc.pT.length) (C:rb w0 O Y d.U7.gc.pT) {R ap Z} (ax:ap=d.pU.length) (G:rb w0 R Z d.pU) :
    pY prog 281 #[.agg #[vS J aj U,vS K ak V,vS L am W,vS M an X,vI d.U7.gc.Ve,vI d.U7.gc.Vn,vI d.U7.gc.Vg,vS O ao Y,vS R ap Z,vI d.Vj,vI d.Vk,vI d.bh.gE,vI d.bh.qa,vI d.bh.qg,vI d.pZ,vI d.Vi],vI a2] w0 (fun v w=>v=vI r∧St w0 [] w []):=by
 subst aq ar au av aw ax;unfold A0 at h;refine pY.fn func281 fun e=>?_;have aX:=St.start w0;refine C5 aX fun ci cj n=>?_;refine gb h fun cm aZ h=>?_;refine LW.cl (Dz aZ rfl (n.rB A) rfl (n.rB B) rfl (n.rB k) rfl (n.rB m) rfl (n.rB C) rfl (n.rB G)) ?_;rintro _ ck ⟨cf,cg,rfl,hs⟩;have az:=n.add hs;refine gc h ?_ ?_<;>intro _ h
 · refine go ?_;cases h;exact fi az
 refine go ?_;obtain ⟨bt,ay,aA⟩:=ob h;refine CW.mono (CW.lb [2,5] [0,1] [6] 0 (fun aV=>[(6,vI aV.1),(7,vI aV.2)]) az ay (hb:=?_)) ?_
 · intro aV e bv o ab h;refine rU [2,5,6,7,17] fun e=>?_;refine gc h ?_ ?_<;>intro _ h
   · refine gs ?_;refine CW.block ?_;refine gs ?_;obtain ⟨a0,aI,aW⟩:=ob h;refine CW.jn [2,5,6,7] [0,1] [(57,.bool a0)] ab (h1:=?_) (h2:=?_)
     · have h:=aI;refine dW ?_;have ac:=ab.drew;refine gB h ?_ ?_<;>intro f h
       · refine go ?_;cases oi h;exact ac.po [0,1]
       refine gb h fun b5 ah h=>?_;obtain ⟨bG,bV,hae,ba,bg⟩:=ac.qk (α:=Int) (i:=0) rfl ah;subst hae;refine go ?_;obtain ⟨bw,ae,g⟩:=ac.freeze (α:=Int) 0 rfl;obtain ⟨bI,bW,a3,hae,I,_,_,aE,aJ⟩:=ae.rQ.idx ah;cases hae;obtain rfl:=aE;refine AW.take (i:=12) rfl (by kernel_rfl) (ug rfl rfl f) rfl (rh.rR bv.drew sW rfl (aJ 0 _ rfl)) (g.zC 0 rfl I) ?_;have ⟨b6,aP,h⟩:=ob h;obtain ⟨bJ,bX,a5,rfl,p,bb,bi,⟨bA,bP,bB,bQ,bC,bR,rfl,bn,bo,bp⟩,aK⟩:=m.idx aP;refine go ?_;refine AW.take (i:=15) rfl (by kernel_rfl) (ug rfl rfl f) rfl (rh.rR w0 sW rfl (aK 3 _ rfl)) (g.same _ p.1 p.2) ?_;refine AW.u (i:=21) rfl (by kernel_rfl) (ug rfl rfl f) rfl (qp.fa Ta rfl) ?_;refine gb h fun b7 aQ h=>?_;obtain ⟨bK,bY,a6,hae,q,bc,bj,aF,aL⟩:=m.idx aQ;cases hae;obtain ⟨bD,bS,bE,bT,bF,bU,rfl,bq,br,bs⟩:=aF;refine go ?_;refine AW.take (i:=30) rfl (by kernel_rfl) (ug rfl rfl f) rfl (rh.rR w0 sW rfl (aL 3 _ rfl)) (g.same _ q.1 q.2) ?_;have ⟨b8,aR,h⟩:=ob h;refine jO 16 ?_;refine (LW.gY (ug rfl rfl f) ?_);refine LW.cl (Dj aR rfl (g.rB A) rfl (g.rB B) rfl (g.rB k) rfl (g.rB m) rfl (g.rB C) rfl (g.rB G)) ?_;rintro _ b3 ⟨rfl,hs⟩;have b:=g.add hs;refine jN (.c (b.same _ q.1 q.2) (.c (b.ce 1) (.c (b.ce 1) (.c (b.ce 1) (jW (.c (b.zC 0 rfl I) (.c (b.ce 1) (jW (.c (b.ce 1) jZ))))))))) ?_;have ⟨b9,aS,h⟩:=ob h;obtain ⟨bL,bZ,a7,rfl,z,bd,bk,rfl,aM⟩:=k.idx aS;refine go ?_;refine AW.take (i:=20) rfl (by kernel_rfl) (ug rfl rfl f) rfl (rh.rR w0 sW rfl (aM 4 _ rfl)) (b.same _ z.1 z.2) ?_;have ⟨ca,aT,h⟩:=ob h;refine jO 31 ?_;refine (LW.gY (ug rfl rfl f) ?_);refine LW.cl (Dj aT rfl (b.rB A) rfl (b.rB B) rfl (b.rB k) rfl (b.rB m) rfl (b.rB C) rfl (b.rB G)) ?_;rintro _ b4 ⟨rfl,hs⟩;have j:=b.add hs;refine jN (.c (j.same _ z.1 z.2) (jW (.c (j.ce 1) (jW (.c (j.ce 1) (.c (j.same _ p.1 p.2) (.c (j.zC 0 rfl I) (.c (j.ce 1) (.c (j.ce 1) (.c (j.ce 1) jZ)))))))))) ?_;have ⟨cb,aU,h⟩:=ob h;obtain ⟨bM,b0,a8,hae,ad,be,bl,aG,aN⟩:=k.idx aU;cases hae;obtain rfl:=aG;refine go ?_;refine AW.take (i:=35) rfl (by kernel_rfl) (ug rfl rfl f) rfl (rh.rR w0 sW rfl (aN 4 _ rfl)) (j.same _ ad.1 ad.2) ?_;refine go ?_;have aY:=j.qG (α:=Int) 0 rfl ae;cases oi h;exact aY.po [0,1]
     intro e a1 H;have h:=aW;refine gc h ?_ ?_<;>intro _ h
     · refine gb h fun cc ai h=>?_;obtain ⟨bN,b1,hae,bf,bm⟩:=H.qk (α:=Int) (i:=0) rfl ai;subst hae;refine go ?_;obtain ⟨bz,af,aa⟩:=H.freeze (α:=Int) 0 rfl;obtain ⟨bO,b2,a9,hae,aD,_,_,aH,aO⟩:=af.rQ.idx ai;cases hae;obtain rfl:=aH;refine LW.l (rh.rR a1 sW rfl (aO 0 _ rfl)) (aa.zC 0 rfl aD) rfl ?_;refine go ?_;have aB:=aa.qG (α:=Int) 0 rfl af;cases oi h;exact ⟨rfl,(aB.po [0,1])⟩
     refine go ?_;cases oi h;exact ⟨rfl,(H.po [0,1])⟩
   refine go ?_;cases oi h;exact ⟨trivial,rfl,(ab.po [0,1])⟩
 intro x e bu hM;obtain ⟨rfl,hM⟩:=hM;obtain ⟨e,rfl,aC⟩:=eo hM;have h:=aA;refine go ?_;cases h;exact fi aC
instance k_281:Ct prog 281:=⟨by kernel_rfl,@MO⟩
theorem Jl {w0 N b aQ aR r} (h:zd N b aQ aR=some r) {g ac p} (aj:ac=b.Vb.Va.length) (a7:rb w0 g p b.Vb.Va) {j ad q} (ak:ad=b.own.length) (a9:rb w0 j q b.own) {k ae x} (am:ae=b.Vd.length) (ba:rb w0 k x b.Vd) {l af z} (an:af=b.U7.ag.length) (aq:rb w0 l z b.U7.ag) {m ah A} (ao:ah=b.U7.gc.pT.length) (bb:rb w0 m A b.U7.gc.pT) {n ai B} (ap:ai=b.pU.length) (bc:rb w0 n B b.pU) :
    pY prog 185 #[.agg #[vS g ac p,vS j ad q,vS k ae x,vS l af z,vI b.U7.gc.Ve,vI b.U7.gc.Vn,vI b.U7.gc.Vg,vS m ah A,vS n ai B,vI b.Vj,vI b.Vk,vI b.bh.gE,vI b.bh.qa,vI b.bh.qg,vI b.pZ,vI b.Vi],vI aQ,vI aR] w0 (fun v w=>∃ G M, ∃ H O, ∃ I R, ∃ J U, ∃ K V, ∃ L W,v=.agg #[vS G r.Vb.Va.length M,vS H r.own.length O,vS I r.Vd.length R,vS J r.U7.ag.length U,vI r.U7.gc.Ve,vI r.U7.gc.Vn,vI r.U7.gc.Vg,vS K r.U7.gc.pT.length V,vS L r.pU.length W,vI r.Vj,vI r.Vk,vI r.bh.gE,vI r.bh.qa,vI r.bh.qg,vI r.pZ,vI r.Vi]∧St w0 [] w [sl G M r.Vb.Va,sl H O r.own,sl I R r.Vd,sl J U r.U7.ag,sl K V r.U7.gc.pT,sl L W r.pU]):=by
 subst aj ak am an ao ap;unfold zd at h;refine pY.fn func185 fun e=>?_;have bK:=St.start w0;refine T ?_;intro aW cl bL aX cm bM d bR h aS aU aT aV ar ax au ay av az aw aA bW bN aB bX bO bY a1;obtain ⟨a3,aE,aY⟩:=ob h;refine CW.jn [1,2,3,6,7] [0,1,2,3,4,5,6,7,8] [(19,.bool a3)] a1 (h1:=?_) (h2:=?_)
 · have h:=aE;refine T ?_;intro cc bu h bZ bP;refine bH h ?_ ?_<;>intro _ h
   · exact rt
   refine T ?_;intro ce bv h b0 bQ;exact rt
 intro e b1 a2;have h:=aY;refine gc h ?_ ?_<;>intro _ h
 · refine T ?_;intro b2 be;exact rt
 refine go ?_;obtain ⟨bV,aG,a0⟩:=ob h;refine CW.ie aG 0 (fun f e wb=>En e [(1,vI aQ),(2,vI aR),(3,.pointer (some ⟨aW,0,none⟩)),(6,.pointer (some ⟨aX,0,none⟩)),(7,.pointer (some ⟨aB,0,none⟩)),(8,vI f.2)]∧St w0 [] wb [bx aB 50 [vS aS d.Vb.Va.length aU,vS aT d.own.length aV,vS ar d.Vd.length ax,vS au f.1.length ay,vI d.U7.gc.Ve,vI d.U7.gc.Vn,vI d.U7.gc.Vg,vS av d.U7.gc.pT.length az,vS aw d.pU.length aA,vI d.Vj,vI d.Vk,vI d.bh.gE,vI d.bh.qa,vI d.bh.qg,vI d.pZ,vI d.Vi],sl aS aU d.Vb.Va,sl aT aV d.own,sl ar ax d.Vd,sl au ay f.1,sl av az d.U7.gc.pT,sl aw aA d.pU,bx aX 50 [vS none 0 0,vS none 0 0,vS none 0 0,vS none 0 0,vI 0,vI 0,vI 0,vS none 0 0,vS none 0 0,vI 0,vI 0,vI 0,vI 0,vI 0,vI 0,vI 0],bx aW 50 (qP g p j q k x l z m A n B b)]) ?_ (a2.po [0,1,2,3,4,5,6,7,8]) ?_
 · intro f e b3 o hM h;obtain ⟨e,rfl,bf⟩:=eo hM;refine rU [1,2,3,6,7,8,26] fun e=>?_;refine gc h ?_ ?_<;>intro _ h
   · refine gb h fun cf aJ h=>?_;obtain ⟨bC,bS,bd,rfl,bl,bn,bp,⟨bz,bF,bA,bG,bB,bI,rfl,br,bs,bt⟩,bm⟩:=aq.idx aJ;refine go ?_;refine T ?_;intro bJ b4 bg b5 aC;obtain ⟨a4,aF,aZ⟩:=ob h;refine CW.jn [1,2,3,6,7,8] [1,2,3,4,5,6,7,8,9] [(49,.bool a4)] aC (h1:=?_) (h2:=?_)
     · have h:=aF;refine gB h ?_ ?_<;>intro _ h
       · refine T ?_;intro cg bw h b6 bi;exact rt
       exact rt
     intro e b7 X;have h:=aZ;refine gc h ?_ ?_<;>intro _ h
     · refine gb h fun ci Z h=>?_;obtain ⟨bD,bT,hae,bo,bq⟩:=X.qk (α:=j8) (i:=4) rfl Z;subst hae;refine go ?_;refine gb h fun cj C h=>?_;refine LW.se 6 X 4 Z C (hM:=(rm (fun w cs F hF=>by obtain ⟨aK,aN,aL,aO,aM,aP,rfl,hH⟩:=hF;exact ⟨aK,aN,aL,aO,aM,aP,rfl,hH⟩))) fun b8 Y=>?_;refine gb h fun ck aa h=>?_;obtain ⟨bE,bU,hae,aH,aI⟩:=Y.qk (α:=j8) (i:=4) rfl aa;cases hae;(try refine LW.u (qp.ix underlying41 uM rfl rfl aH (by rw [pV (oi C)];exact aI)) rfl ?_);refine gb h fun a5 ab h=>?_;refine LW.se 7 Y 4 aa ab (hM:=(rm (fun w cs F hF=>by obtain ⟨aK,aN,aL,aO,aM,aP,rfl,hH⟩:=hF;exact ⟨aK,aN,aL,aO,aM,aP,rfl,hH⟩))) fun b9 aD=>?_;refine go ?_;rw [show f.1.length=a5.length from ((pV (oi C)).trans (pV (oi ab)))] at aD;exact rt
     exact rt
   exact rt
 rintro e ca ⟨hE,bj⟩;obtain ⟨e,rfl⟩:=hE.out;have h:=a0;refine T ?_;intro cb bk;exact rt
instance k_185:Ct prog 185:=⟨by kernel_rfl,@Jl⟩
end Go.Kx
