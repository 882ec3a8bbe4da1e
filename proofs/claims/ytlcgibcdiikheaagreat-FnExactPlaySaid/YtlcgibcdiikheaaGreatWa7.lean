import Derived.Test.YtlcgibcdiikheaaGreatWa3
import Derived.Test.YtlcgibcdiikheaaGreatWa4
namespace Go.Kx
open Go Go.RowKit Go.Proofs
open Go.IntKind (i64)
open Tryz
set_option maxRecDepth 10000
set_option maxHeartbeats 8000000
set_option linter.unusedVariables false
set_option linter.unusedSimpArgs false
theorem yv {w0} {F:List Nat} {N a9 bl r} (h:qh N a9 bl=some r) {n aF k} (aG:aF=a9.length) (hS:St w0 F w0 [sl n k a9]) :
    gV prog 102 #[vS n aF k,vI bl] w0 (fun v w=>v=vI r.1∧St w0 F w [sl n k r.2]):=by
 subst aG;unfold qh at h;refine gV.fn func102 fun e=>?_;refine go ?_;obtain ⟨bu,aH,aK⟩:=ob h;refine CW.ie aH 0 (fun g e wb=>En e [(0,vS n g.1.length k),(1,vI g.2.1),(5,vI g.2.2)]∧St w0 F wb [sl n k g.1]) ?_ ⟨⟨rfl,rfl,rfl,trivial⟩,hS.pk [0]⟩ ?_
 · intro g e cf o hM h;obtain ⟨e,rfl,aI⟩:=eo hM;refine gc h ?_ ?_<;>intro _ h
   · refine gb h fun d aE h=>?_;obtain ⟨ba,m,hae,bX,bY⟩:=aI.hZ (α:=bh) (i:=0) rfl aE;subst hae;refine go ?_;obtain ⟨ce,aD,aJ⟩:=aI.freeze (α:=bh) 0 rfl;obtain ⟨bQ,bZ,bn,hae,aW,_,_,aY,a0⟩:=aD.ju.idx aE;cases hae;obtain ⟨I,R,J,U,K,V,L,W,M,X,O,Y,rfl,bo,bp,bq,br,bs,bt⟩:=aY;refine T ?_;have ⟨af,a3,h⟩:=ob h;obtain ⟨b0,Z,x⟩:=lO a3;obtain ⟨ax,x⟩:=iI x;rw [oi x] at Z ax;have a1:=fun (j:Nat) (u:Value) (hu:([vS I d.Pe.Pd.length R,vS J d.own.length U,vS K d.Pg.length V,vS L d.py.ag.length W,vI d.py.gc.Ph,vI d.py.gc.Pr,vI d.py.gc.Pj,vS M d.py.gc.gQ.length X,vS O d.gR.length Y,vI d.Pn,vI d.Pp,vI d.cd.gE,vI d.cd.gX,vI d.cd.g8,vI d.g5,vI d.Pm]:List Value)[j]?=some u)=>(World.cell?_of_block (aJ.zC 0 rfl aW)).trans (a0 j u hu);have bb:=aJ.iD (α:=bh) 0 rfl aD;obtain ⟨bm,a2,aZ⟩:=bb.focus (α:=bh) (cs:=[vS I d.Pe.Pd.length R,vS J d.own.length U,vS K d.Pg.length V,vS L d.py.ag.length W,vI d.py.gc.Ph,vI d.py.gc.Pr,vI d.py.gc.Pj,vS M d.py.gc.gQ.length X,vS O d.gR.length Y,vI d.Pn,vI d.Pp,vI d.cd.gE,vI d.cd.gX,vI d.cd.g8,vI d.g5,vI d.Pm]) 0 rfl aE rfl a1;obtain ⟨bK,bR,bL,bS,bM,bT,bN,bU,bO,bV,bP,bW,aX,aL⟩:=a2;cases aX;have bc:=aZ [sl I R d.Pe.Pd,sl J U d.own,sl K V d.Pg,sl L W d.py.ag,sl M X d.py.gc.gQ,sl O Y d.gR] aL;obtain ⟨bD,ak⟩:=bc.k4 [0] [1,2,3,4,5,6];refine LW.cl (mR Z rfl ak.st) ?_;rintro _ bf ⟨rfl,hs⟩;have au:=ak.back _ _ hs;refine go ?_;refine LW.l (iZ.jz bf uF rfl (au.pL 6 rfl (j:=1) rfl)) rfl rfl ?_;refine gb h fun ah a4 h=>?_;obtain ⟨b1,aa,z⟩:=lO a4;obtain ⟨ay,z⟩:=iI z;rw [oi z] at aa ay;rw [show d.Pe.Pd.length=af.2.length from ax] at au;obtain ⟨bE,am⟩:=au.k4 [1] [0,2,3,4,5,6];refine LW.cl (mR aa rfl am.st) ?_;rintro _ bg ⟨rfl,hs⟩;have av:=am.back _ _ hs;refine go ?_;refine LW.l (iZ.jz bg xn rfl (av.pL 6 rfl (j:=2) rfl)) rfl rfl ?_
     refine gb h fun ai a5 h=>?_;obtain ⟨b2,ab,A⟩:=lO a5;obtain ⟨az,A⟩:=iI A;rw [oi A] at ab az;rw [show d.own.length=ah.2.length from ay] at av;obtain ⟨bF,an⟩:=av.k4 [2] [0,1,3,4,5,6];refine LW.cl (y8 ab rfl an.st) ?_;rintro _ bi ⟨rfl,hs⟩;have aw:=an.back _ _ hs;refine go ?_;refine LW.l (iZ.jz bi xS rfl (aw.pL 6 rfl (j:=3) rfl)) rfl rfl ?_;refine gb h fun f a6 h=>?_;obtain ⟨b3,ac,B⟩:=lO a6;obtain ⟨aA,B⟩:=iI B;rw [oi B] at ac aA;rw [show d.Pg.length=ai.2.length from az] at aw;obtain ⟨bG,ao⟩:=aw.k4 [3] [0,1,2,4,5,6];refine LW.cl (yK ac rfl ao.st) ?_;rintro _ b6 ⟨rfl,hs⟩;have bd:=ao.back _ _ hs;refine go ?_;refine LW.qf (α:=bh) (vs:=[vI f.1]) bd 6 rfl ki rfl (by show _=m+(g.2.2:Int).toNat * 16+4;omega) rfl rfl rfl rfl ?_;intro b8 be hf;refine go ?_;refine LW.qf (α:=bh) (vs:=[vI (i64.wrap (f.1+1))]) be 6 rfl ki rfl (by show _=m+(g.2.2:Int).toNat * 16+5;omega) rfl rfl rfl rfl ?_;intro b9 aM hf;refine go ?_;refine LW.qf (α:=bh) (vs:=[vI (i64.wrap ((i64.wrap (f.1+1))+1))]) aM 6 rfl ki rfl (by show _=m+(g.2.2:Int).toNat * 16+6;omega) rfl rfl rfl rfl ?_;intro bj p hf;refine go ?_;refine LW.l (iZ.jz bj uF rfl (p.pL 6 rfl (j:=7) rfl)) rfl rfl ?_;refine gb h fun aj a7 h=>?_;obtain ⟨b4,ad,C⟩:=lO a7;obtain ⟨aB,C⟩:=iI C;rw [oi C] at ad aB;rw [show d.py.ag.length=f.2.length from aA] at p;obtain ⟨bI,ap⟩:=p.k4 [4] [0,1,2,3,5,6];refine LW.cl (mR ad rfl ap.st) ?_;rintro _ bk ⟨rfl,hs⟩;have q:=ap.back _ _ hs;refine go ?_;refine LW.l (iZ.jz bk yf rfl (q.pL 6 rfl (j:=8) rfl)) rfl rfl ?_;refine gb h fun b a8 h=>?_;obtain ⟨b5,ae,H⟩:=lO a8;obtain ⟨aC,H⟩:=iI H;rw [oi H] at ae aC;rw [show d.py.gc.gQ.length=aj.2.length from aB] at q;obtain ⟨bJ,aq⟩:=q.k4 [5] [0,1,2,3,4,6];refine LW.cl (yF ae rfl aq.st) ?_;rintro _ ca ⟨rfl,hs⟩
     have aN:=aq.back _ _ hs;refine go ?_;refine LW.qf (α:=bh) (vs:=[vI b.1]) aN 6 rfl ki rfl (by show _=m+(g.2.2:Int).toNat * 16+9;omega) rfl rfl rfl rfl ?_;intro cb aO hf;refine go ?_;refine LW.qf (α:=bh) (vs:=[vI (i64.wrap (b.1+1))]) aO 6 rfl ki rfl (by show _=m+(g.2.2:Int).toNat * 16+10;omega) rfl rfl rfl rfl ?_;intro cc aP hf;refine go ?_;refine LW.qf (α:=bh) (vs:=[vI (i64.wrap ((i64.wrap (b.1+1))+1))]) aP 6 rfl ki rfl (by show _=m+(g.2.2:Int).toNat * 16+11;omega) rfl rfl rfl rfl ?_;intro bv aQ hf;refine go ?_;refine LW.qf (α:=bh) (vs:=[vI (i64.wrap ((i64.wrap ((i64.wrap (b.1+1))+1))+1))]) aQ 6 rfl ki rfl (by show _=m+(g.2.2:Int).toNat * 16+12;omega) rfl rfl rfl rfl ?_;intro bw aR hf;refine go ?_;refine LW.qf (α:=bh) (vs:=[vI (i64.wrap ((i64.wrap ((i64.wrap ((i64.wrap (b.1+1))+1))+1))+1))]) aR 6 rfl ki rfl (by show _=m+(g.2.2:Int).toNat * 16+13;omega) rfl rfl rfl rfl ?_;intro bz aS hf;refine go ?_;refine LW.qf (α:=bh) (vs:=[vI (i64.wrap ((i64.wrap ((i64.wrap ((i64.wrap ((i64.wrap (b.1+1))+1))+1))+1))+1))]) aS 6 rfl ki rfl (by show _=m+(g.2.2:Int).toNat * 16+14;omega) rfl rfl rfl rfl ?_;intro bA aT hf;refine go ?_;refine LW.qf (α:=bh) (vs:=[vI (i64.wrap ((i64.wrap ((i64.wrap ((i64.wrap ((i64.wrap ((i64.wrap (b.1+1))+1))+1))+1))+1))+1))]) aT 6 rfl ki rfl (by show _=m+(g.2.2:Int).toNat * 16+15;omega) rfl rfl rfl rfl ?_;intro bB ar hf;refine go ?_;replace h:=oi h;subst h;rw [show d.gR.length=b.2.length from aC] at ar;have aU:=ar.m6 (bh.mk (iY.mk af.2) ah.2 ai.2 (g7.mk f.2 (i7.mk f.1 (i64.wrap (f.1+1)) (i64.wrap ((i64.wrap (f.1+1))+1)) aj.2)) b.2 b.1 (i64.wrap (b.1+1)) (hO.mk (i64.wrap ((i64.wrap (b.1+1))+1)) (i64.wrap ((i64.wrap ((i64.wrap (b.1+1))+1))+1)) (i64.wrap ((i64.wrap ((i64.wrap ((i64.wrap (b.1+1))+1))+1))+1))) (i64.wrap ((i64.wrap ((i64.wrap ((i64.wrap ((i64.wrap (b.1+1))+1))+1))+1))+1)) (i64.wrap ((i64.wrap ((i64.wrap ((i64.wrap ((i64.wrap ((i64.wrap (b.1+1))+1))+1))+1))+1))+1))) [5,4,3,2,1,0,6] 6 0 rfl rfl (fun w G hG=>⟨I,R,J,U,K,V,L,W,M,X,O,Y,rfl,hG⟩);exact ⟨rfl,⟨⟨(show (vS (some ⟨ba,m,none⟩) g.1.length k:Value)=vS (some ⟨ba,m,none⟩) ((g.1.set (g.2.2:Int).toNat (bh.mk (iY.mk af.2) ah.2 ai.2 (g7.mk f.2 (i7.mk f.1 (i64.wrap (f.1+1)) (i64.wrap ((i64.wrap (f.1+1))+1)) aj.2)) b.2 b.1 (i64.wrap (b.1+1)) (hO.mk (i64.wrap ((i64.wrap (b.1+1))+1)) (i64.wrap ((i64.wrap ((i64.wrap (b.1+1))+1))+1)) (i64.wrap ((i64.wrap ((i64.wrap ((i64.wrap (b.1+1))+1))+1))+1))) (i64.wrap ((i64.wrap ((i64.wrap ((i64.wrap ((i64.wrap (b.1+1))+1))+1))+1))+1)) (i64.wrap ((i64.wrap ((i64.wrap ((i64.wrap ((i64.wrap ((i64.wrap (b.1+1))+1))+1))+1))+1))+1)))).length) k by rw [show g.1.length=(g.1.set (g.2.2:Int).toNat (bh.mk (iY.mk af.2) ah.2 ai.2 (g7.mk f.2 (i7.mk f.1 (i64.wrap (f.1+1)) (i64.wrap ((i64.wrap (f.1+1))+1)) aj.2)) b.2 b.1 (i64.wrap (b.1+1)) (hO.mk (i64.wrap ((i64.wrap (b.1+1))+1)) (i64.wrap ((i64.wrap ((i64.wrap (b.1+1))+1))+1)) (i64.wrap ((i64.wrap ((i64.wrap ((i64.wrap (b.1+1))+1))+1))+1))) (i64.wrap ((i64.wrap ((i64.wrap ((i64.wrap ((i64.wrap (b.1+1))+1))+1))+1))+1)) (i64.wrap ((i64.wrap ((i64.wrap ((i64.wrap ((i64.wrap ((i64.wrap (b.1+1))+1))+1))+1))+1))+1)))).length from (gS rfl)]),rfl,rfl,trivial⟩,aU.pk [0]⟩⟩
   exact rt
 rintro e bC ⟨hE,aV⟩;obtain ⟨e,rfl⟩:=hE.out;have h:=aK;refine go ?_;replace h:=oi h;subst h;exact Ra ⟨rfl,aV.pk [0]⟩
instance k_102:Ct prog 102:=⟨by kernel_rfl,@yv⟩
theorem C7 {w0 N aa ae r} (h:qb N aa ae=some r) {p z q} (A:z=aa.length) (B:rb w0 p q aa) :
    gV prog 103 #[vS p z q,vI ae] w0 (fun v w=>v=vI r∧St w0 [] w []):=by
 subst A;unfold qb at h;refine gV.fn func103 fun e=>?_;have ab:=St.start w0;refine go ?_;obtain ⟨G,H,C⟩:=ob h;refine CW.mono (CW.lx [0] [] [1] 0 (fun Z=>[(1,vI Z.1),(5,vI Z.2)]) (RT prog f103.results (fun u=>vI u) w0 []) ab H (hb:=?_)) ?_
 · intro Z e aO o i h;refine gc h ?_ ?_<;>intro _ h
   · refine gb h fun aP ad h=>?_;obtain ⟨aM,aN,av,rfl,b,aw,ax,⟨af,an,ah,ao,ai,ap,aj,aq,ak,ar,am,au,rfl,I,J,K,L,M,O⟩,d⟩:=B.idx ad;refine go ?_;refine LW.l (iZ.jz w0 uF rfl (d 0 _ rfl)) (i.same _ b.1 b.2) rfl ?_;refine gb h fun aG R h=>?_;refine LW.c0 (ug R rfl (i.rB I)) i fun az j=>?_;refine jw [0,1,5,21] fun e=>?_;refine gc h ?_ ?_<;>intro _ h
     · refine go ?_;cases oi h;exact ⟨trivial,rfl,_,rfl,rx ⟨rfl,j.pk []⟩⟩
     refine go ?_;refine LW.l (iZ.jz w0 uF rfl (d 1 _ rfl)) (j.same _ b.1 b.2) rfl ?_;refine gb h fun aH U h=>?_;refine LW.c0 (ug U rfl (j.rB J)) j fun aA k=>?_;refine gc h ?_ ?_<;>intro _ h
     · refine go ?_;cases oi h;exact ⟨trivial,rfl,_,rfl,rx ⟨rfl,k.pk []⟩⟩
     refine go ?_;refine LW.l (iZ.jz w0 xn rfl (d 2 _ rfl)) (k.same _ b.1 b.2) rfl ?_;refine gb h fun aI V h=>?_;refine LW.c0 (yY V rfl (k.rB K)) k fun aB m=>?_;refine jw [0,1,5,39] fun e=>?_;refine gc h ?_ ?_<;>intro _ h
     · refine go ?_;cases oi h;exact ⟨trivial,rfl,_,rfl,rx ⟨rfl,m.pk []⟩⟩
     refine go ?_;refine LW.l (iZ.jz w0 xS rfl (d 3 _ rfl)) (m.same _ b.1 b.2) rfl ?_;refine gb h fun aJ W h=>?_;refine LW.c0 (yS W rfl (m.rB L)) m fun aC g=>?_;refine gc h ?_ ?_<;>intro _ h
     · refine go ?_;cases oi h;exact ⟨trivial,rfl,_,rfl,rx ⟨rfl,g.pk []⟩⟩
     refine go ?_;refine LW.l (iZ.jz w0 ki rfl (d 4 _ rfl)) (g.same _ b.1 b.2) rfl ?_;refine jw [0,1,5,58] fun e=>?_;refine gc h ?_ ?_<;>intro _ h
     · refine go ?_;cases oi h;exact ⟨trivial,rfl,_,rfl,rx ⟨rfl,g.pk []⟩⟩
     refine go ?_;refine LW.l (iZ.jz w0 ki rfl (d 5 _ rfl)) (g.same _ b.1 b.2) rfl ?_;refine gc h ?_ ?_<;>intro _ h
     · refine go ?_;cases oi h;exact ⟨trivial,rfl,_,rfl,rx ⟨rfl,g.pk []⟩⟩
     refine go ?_;refine LW.l (iZ.jz w0 ki rfl (d 6 _ rfl)) (g.same _ b.1 b.2) rfl ?_;refine jw [0,1,5,80] fun e=>?_;refine gc h ?_ ?_<;>intro _ h
     · refine go ?_;cases oi h;exact ⟨trivial,rfl,_,rfl,rx ⟨rfl,g.pk []⟩⟩
     refine go ?_;refine LW.l (iZ.jz w0 uF rfl (d 7 _ rfl)) (g.same _ b.1 b.2) rfl ?_;refine gb h fun aK X h=>?_;refine LW.c0 (ug X rfl (g.rB M)) g fun aD n=>?_;refine jw [0,1,5,93] fun e=>?_;refine gc h ?_ ?_<;>intro _ h
     · refine go ?_;cases oi h;exact ⟨trivial,rfl,_,rfl,rx ⟨rfl,n.pk []⟩⟩
     refine go ?_;refine LW.l (iZ.jz w0 yf rfl (d 8 _ rfl)) (n.same _ b.1 b.2) rfl ?_;refine gb h fun aL Y h=>?_;refine LW.c0 (zo Y rfl (n.rB O)) n fun aE f=>?_;refine gc h ?_ ?_<;>intro _ h
     · refine go ?_;cases oi h;exact ⟨trivial,rfl,_,rfl,rx ⟨rfl,f.pk []⟩⟩
     refine go ?_;refine LW.l (iZ.jz w0 ki rfl (d 9 _ rfl)) (f.same _ b.1 b.2) rfl ?_;refine jw [0,1,5,109] fun e=>?_;refine gc h ?_ ?_<;>intro _ h
     · refine go ?_;cases oi h;exact ⟨trivial,rfl,_,rfl,rx ⟨rfl,f.pk []⟩⟩
     refine go ?_;refine LW.l (iZ.jz w0 ki rfl (d 10 _ rfl)) (f.same _ b.1 b.2) rfl ?_;refine gc h ?_ ?_<;>intro _ h
     · refine go ?_;cases oi h;exact ⟨trivial,rfl,_,rfl,rx ⟨rfl,f.pk []⟩⟩
     refine go ?_;refine LW.l (iZ.jz w0 ki rfl (d 11 _ rfl)) (f.same _ b.1 b.2) rfl ?_;refine jw [0,1,5,128] fun e=>?_;refine gc h ?_ ?_<;>intro _ h
     · refine go ?_;cases oi h;exact ⟨trivial,rfl,_,rfl,rx ⟨rfl,f.pk []⟩⟩
     refine go ?_;refine LW.l (iZ.jz w0 ki rfl (d 12 _ rfl)) (f.same _ b.1 b.2) rfl ?_;refine gc h ?_ ?_<;>intro _ h
     · refine go ?_;cases oi h;exact ⟨trivial,rfl,_,rfl,rx ⟨rfl,f.pk []⟩⟩
     refine go ?_;refine LW.l (iZ.jz w0 ki rfl (d 13 _ rfl)) (f.same _ b.1 b.2) rfl ?_;refine jw [0,1,5,148] fun e=>?_;refine gc h ?_ ?_<;>intro _ h
     · refine go ?_;cases oi h;exact ⟨trivial,rfl,_,rfl,rx ⟨rfl,f.pk []⟩⟩
     refine go ?_;refine LW.l (iZ.jz w0 ki rfl (d 14 _ rfl)) (f.same _ b.1 b.2) rfl ?_;refine gc h ?_ ?_<;>intro _ h
     · refine go ?_;cases oi h;exact ⟨trivial,rfl,_,rfl,rx ⟨rfl,f.pk []⟩⟩
     refine go ?_;refine LW.l (iZ.jz w0 ki rfl (d 15 _ rfl)) (f.same _ b.1 b.2) rfl ?_;refine jw [0,1,5,166] fun e=>?_;refine gc h ?_ ?_<;>intro _ h
     · refine go ?_;cases oi h;exact ⟨trivial,rfl,_,rfl,rx ⟨rfl,f.pk []⟩⟩
     refine go ?_;cases oi h;exact ⟨rfl,(f.po [])⟩
   refine go ?_;cases oi h;exact ⟨trivial,rfl,(i.po [])⟩
 intro x e aF hM;rcases G with G | ay
 · obtain ⟨rfl,hM⟩:=hM;obtain ⟨e,rfl,ac⟩:=eo hM;have h:=C;refine go ?_;cases h;exact fi ac
 obtain ⟨rfl,u,rfl,hM⟩:=hM;cases C;exact And.intro trivial hM
instance k_103:Ct prog 103:=⟨by kernel_rfl,@C7⟩
theorem BQ {w0 N b n r} (h:o6 N b n=some r) {d j g} (l:j=b.Pe.Pd.length) (o:rb w0 d g b.Pe.Pd) {f k i} (m:k=b.own.length) (p:rb w0 f i b.own) :
    gV prog 104 #[.agg #[vS d j g,vS f k i,vI b.j6.gE,vI b.j6.gX,vI b.j6.g8],vI n] w0 (fun v w=>v=vI r∧St w0 [] w []):=by
 subst l m;unfold o6 at h;refine gV.fn func104 fun e=>?_;have q:=St.start w0;refine T ?_;intro C G u J A h H x;refine gc h ?_ ?_<;>intro _ h
 · exact rt
 refine T ?_;intro K B h I z;refine CW.fl [1,16] fun e=>?_;refine gc h ?_ ?_<;>intro _ h
 · exact rt
 exact rt
instance k_104:Ct prog 104:=⟨by kernel_rfl,@BQ⟩
theorem B0 {w0 N b r} (h:nu N b=some r) {j n l} (p:n=b.Pe.Pd.length) (u:rb w0 j l b.Pe.Pd) {k o m} (q:o=b.own.length) (x:rb w0 k m b.own) :
    gV prog 106 #[.agg #[vS j n l,vS k o m,vI b.j6.gE,vI b.j6.gX,vI b.j6.g8]] w0 (fun v w=>∃ d g, ∃ f i,v=.agg #[vS d r.Pe.Pd.length g,vS f r.own.length i,vI r.j6.gE,vI r.j6.gX,vI r.j6.g8]∧St w0 [] w [sl d g r.Pe.Pd,sl f i r.own]):=by
 subst p q;unfold nu at h;refine gV.fn func106 fun e=>?_;have I:=St.start w0;refine T ?_;intro aj an J ak ao K am ap L aq W h ah ai X M Y O ae B h G H Z R aa U af C h ab V ac z ad A;exact rt
instance k_106:Ct prog 106:=⟨by kernel_rfl,@B0⟩
theorem qN {w0 N p r} (h:nI N p=some r) {b j d} (m:j=p.length) (n:rb w0 b d p) :
    gV prog 31 #[vS b j d] w0 (fun v w=>∃ q x,v=vS q r.length x∧St w0 [] w [sl q x r]):=by
 subst m;unfold nI at h;refine gV.fn func31 fun e=>?_;have H:=St.start w0;refine gb h fun ao K h=>?_;refine LW.mk OF rfl rfl K H rfl ?_;intro C l am I hf;refine go ?_;obtain ⟨ae,B,G⟩:=ob h;refine CW.ie B 0 (fun k e wb=>En e [(0,vS b p.length d),(3,vS C k.1.length l),(4,vI k.2)]∧St w0 [] wb [sl C l k.1]) ?_ (I.po [0]) ?_
 · intro k e an o hM h;obtain ⟨e,rfl,aa⟩:=eo hM;refine gc h ?_ ?_<;>intro _ h
   · refine gb h fun ap L h=>?_;obtain ⟨Z,ad,O,rfl,R,ac,W,rfl,U⟩:=n.idx L;refine go ?_;refine T ?_;intro aj Y h af z;have ⟨ak,f,h⟩:=ob h;obtain ⟨u,A,hae,V,X⟩:=z.hZ (α:=iK) (i:=0) rfl f;subst hae;refine go ?_;have ⟨M,g,h⟩:=ob h;refine LW.se 0 z 0 f g (hM:=ui) fun ah J=>?_;refine go ?_;replace h:=oi h;subst h;exact ⟨rfl,⟨⟨rfl,(show (vS (some ⟨u,A,none⟩) k.1.length l:Value)=vS (some ⟨u,A,none⟩) M.length l by rw [gS (oi g)]),rfl,trivial⟩,J.pk [0]⟩⟩
   exact rt
 rintro e ai ⟨hE,ab⟩;obtain ⟨e,rfl⟩:=hE.out;have h:=G;exact rt
instance k_31:Ct prog 31:=⟨by kernel_rfl,@qN⟩
theorem BP {w0 N b d r} (h:ns N b d=some r) {f o k} (x:o=b.Pe.Pd.length) (C:rb w0 f k b.Pe.Pd) {g p l} (z:p=b.own.length) (G:rb w0 g l b.own) {i q m} (A:q=d.Pe.Pd.length) (H:rb w0 i m d.Pe.Pd) {j u n} (B:u=d.own.length) (I:rb w0 j n d.own) :
    gV prog 109 #[.agg #[vS f o k,vS g p l,vI b.j6.gE,vI b.j6.gX,vI b.j6.g8],.agg #[vS i q m,vS j u n,vI d.j6.gE,vI d.j6.gX,vI d.j6.g8]] w0 (fun v w=>v=.bool r∧St w0 [] w []):=by
 subst x z A B;unfold ns at h;refine gV.fn func109 fun e=>?_;have K:=St.start w0;refine T ?_;intro Z ab L aa ac M af V h ad O;refine gc h ?_ ?_<;>intro _ h
 · exact rt
 refine T ?_;intro ah W h ae R;refine CW.fl [2,3,16] fun e=>?_;refine gc h ?_ ?_<;>intro _ h
 · exact rt
 refine T ?_;intro Y J h X U;refine gc h ?_ ?_<;>intro _ h
 · exact rt
 exact rt
instance k_109:Ct prog 109:=⟨by kernel_rfl,@BP⟩
theorem yL {w0 N B C r} (h:uq N B C=some r) {b i f} (k:i=B.length) (m:rb w0 b f B) {d j g} (l:j=C.length) (n:rb w0 d g C) :
    gV prog 35 #[vS b i f,vS d j g] w0 (fun v w=>v=.bool r∧St w0 [] w []):=by
 subst k l;unfold uq at h;refine gV.fn func35 fun e=>?_;have G:=St.start w0;refine gc h ?_ ?_<;>intro _ h
 · exact rt
 refine go ?_;obtain ⟨q,z,p⟩:=ob h;refine CW.mono (CW.lx [0,1] [] [] 0 (fun J=>[(5,vI J)]) (RT prog f35.results (fun u=>.bool u) w0 []) G z (hb:=?_)) ?_
 · intro J e ao o H h;refine gc h ?_ ?_<;>intro _ h
   · refine jK ?_;have Z:=H.drew;refine gb h fun ap I h=>?_;obtain ⟨am,an,K,rfl,M,ac,ad,rfl,R⟩:=m.idx I;refine go ?_;refine T ?_;have ⟨aj,A,h⟩:=ob h;obtain ⟨Y,ae,L,rfl,O,V,W,rfl,U⟩:=n.idx A;refine go ?_;refine T ?_;intro ak X h ah aa;refine gc h ?_ ?_<;>intro _ h
     · exact rt
     exact rt
   exact rt
 intro x e ai hM;rcases q with q | af
 · obtain ⟨rfl,hM⟩:=hM;obtain ⟨e,rfl,ab⟩:=eo hM;rw [show e=iq e [] from rfl];have h:=p;exact rt
 obtain ⟨rfl,u,rfl,hM⟩:=hM;cases p;exact And.intro trivial hM
instance k_35:Ct prog 35:=⟨by kernel_rfl,@yL⟩
end Go.Kx
