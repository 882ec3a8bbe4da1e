import Derived.Test.YtlcgibcdiikheaaGreatWa3
import Derived.Test.YtlcgibcdiikheaaGreatWa4
namespace Go.Kx
open Go Go.RowKit Go.Proofs
open Go.IntKind (i64)
open Tryz
set_option maxRecDepth 10000
set_option maxHeartbeats 8000000
set_option linter.unusedVariables false
set_option linter.unusedSimpArgs false
theorem Ex {w0} {F:List Nat} {N a9 bl r} (h:xZ N a9 bl=some r) {n aF k} (aG:aF=a9.length) (hS:St w0 F w0 [sl n k a9]) :
    pY prog 102 #[vS n aF k,vI bl] w0 (fun v w=>v=vI r.1∧St w0 F w [sl n k r.2]):=by
 subst aG;unfold xZ at h;refine pY.fn func102 fun e=>?_;refine go ?_;obtain ⟨bu,aH,aK⟩:=ob h;refine CW.ie aH 0 (fun g e wb=>En e [(0,vS n g.1.length k),(1,vI g.2.1),(5,vI g.2.2)]∧St w0 F wb [sl n k g.1]) ?_ ⟨⟨rfl,rfl,rfl,trivial⟩,hS.pk [0]⟩ ?_
 · intro g e cf o hM h;obtain ⟨e,rfl,aI⟩:=eo hM;refine gc h ?_ ?_<;>intro _ h
   · refine gb h fun d aE h=>?_;obtain ⟨ba,m,hae,bX,bY⟩:=aI.qk (α:=cd) (i:=0) rfl aE;subst hae;refine go ?_;obtain ⟨ce,aD,aJ⟩:=aI.freeze (α:=cd) 0 rfl;obtain ⟨bQ,bZ,bn,hae,aW,_,_,aY,a0⟩:=aD.rQ.idx aE;cases hae;obtain ⟨I,R,J,U,K,V,L,W,M,X,O,Y,rfl,bo,bp,bq,br,bs,bt⟩:=aY;refine T ?_;have ⟨af,a3,h⟩:=ob h;obtain ⟨b0,Z,x⟩:=vl a3;obtain ⟨ax,x⟩:=qN x;rw [oi x] at Z ax;have a1:=fun (j:Nat) (u:Value) (hu:([vS I d.Vb.Va.length R,vS J d.own.length U,vS K d.Vd.length V,vS L d.U7.ag.length W,vI d.U7.gc.Ve,vI d.U7.gc.Vn,vI d.U7.gc.Vg,vS M d.U7.gc.pT.length X,vS O d.pU.length Y,vI d.Vj,vI d.Vk,vI d.bh.gE,vI d.bh.qa,vI d.bh.qg,vI d.pZ,vI d.Vi]:List Value)[j]?=some u)=>(World.cell?_of_block (aJ.zC 0 rfl aW)).trans (a0 j u hu);have bb:=aJ.qG (α:=cd) 0 rfl aD;obtain ⟨bm,a2,aZ⟩:=bb.focus (α:=cd) (cs:=[vS I d.Vb.Va.length R,vS J d.own.length U,vS K d.Vd.length V,vS L d.U7.ag.length W,vI d.U7.gc.Ve,vI d.U7.gc.Vn,vI d.U7.gc.Vg,vS M d.U7.gc.pT.length X,vS O d.pU.length Y,vI d.Vj,vI d.Vk,vI d.bh.gE,vI d.bh.qa,vI d.bh.qg,vI d.pZ,vI d.Vi]) 0 rfl aE rfl a1;obtain ⟨bK,bR,bL,bS,bM,bT,bN,bU,bO,bV,bP,bW,aX,aL⟩:=a2;cases aX;have bc:=aZ [sl I R d.Vb.Va,sl J U d.own,sl K V d.Vd,sl L W d.U7.ag,sl M X d.U7.gc.pT,sl O Y d.pU] aL;obtain ⟨bD,ak⟩:=bc.uj [0] [1,2,3,4,5,6];refine LW.cl (xh Z rfl ak.st) ?_;rintro _ bf ⟨rfl,hs⟩;have au:=ak.back _ _ hs;refine go ?_;refine LW.l (rh.rR bf B0 rfl (au.yA 6 rfl (j:=1) rfl)) rfl rfl ?_;refine gb h fun ah a4 h=>?_;obtain ⟨b1,aa,z⟩:=vl a4;obtain ⟨ay,z⟩:=qN z;rw [oi z] at aa ay;rw [show d.Vb.Va.length=af.2.length from ax] at au;obtain ⟨bE,am⟩:=au.uj [1] [0,2,3,4,5,6];refine LW.cl (xh aa rfl am.st) ?_;rintro _ bg ⟨rfl,hs⟩;have av:=am.back _ _ hs;refine go ?_;refine LW.l (rh.rR bg DH rfl (av.yA 6 rfl (j:=2) rfl)) rfl rfl ?_
     refine gb h fun ai a5 h=>?_;obtain ⟨b2,ab,A⟩:=vl a5;obtain ⟨az,A⟩:=qN A;rw [oi A] at ab az;rw [show d.own.length=ah.2.length from ay] at av;obtain ⟨bF,an⟩:=av.uj [2] [0,1,3,4,5,6];refine LW.cl (EK ab rfl an.st) ?_;rintro _ bi ⟨rfl,hs⟩;have aw:=an.back _ _ hs;refine go ?_;refine LW.l (rh.rR bi DY rfl (aw.yA 6 rfl (j:=3) rfl)) rfl rfl ?_;refine gb h fun f a6 h=>?_;obtain ⟨b3,ac,B⟩:=vl a6;obtain ⟨aA,B⟩:=qN B;rw [oi B] at ac aA;rw [show d.Vd.length=ai.2.length from az] at aw;obtain ⟨bG,ao⟩:=aw.uj [3] [0,1,2,4,5,6];refine LW.cl (Fp ac rfl ao.st) ?_;rintro _ b6 ⟨rfl,hs⟩;have bd:=ao.back _ _ hs;refine go ?_;refine LW.zw (α:=cd) (vs:=[vI f.1]) bd 6 rfl sW rfl (by show _=m+(g.2.2:Int).toNat * 16+4;omega) rfl rfl rfl rfl ?_;intro b8 be hf;refine go ?_;refine LW.zw (α:=cd) (vs:=[vI (i64.wrap (f.1+1))]) be 6 rfl sW rfl (by show _=m+(g.2.2:Int).toNat * 16+5;omega) rfl rfl rfl rfl ?_;intro b9 aM hf;refine go ?_;refine LW.zw (α:=cd) (vs:=[vI (i64.wrap ((i64.wrap (f.1+1))+1))]) aM 6 rfl sW rfl (by show _=m+(g.2.2:Int).toNat * 16+6;omega) rfl rfl rfl rfl ?_;intro bj p hf;refine go ?_;refine LW.l (rh.rR bj B0 rfl (p.yA 6 rfl (j:=7) rfl)) rfl rfl ?_;refine gb h fun aj a7 h=>?_;obtain ⟨b4,ad,C⟩:=vl a7;obtain ⟨aB,C⟩:=qN C;rw [oi C] at ad aB;rw [show d.U7.ag.length=f.2.length from aA] at p;obtain ⟨bI,ap⟩:=p.uj [4] [0,1,2,3,5,6];refine LW.cl (xh ad rfl ap.st) ?_;rintro _ bk ⟨rfl,hs⟩;have q:=ap.back _ _ hs;refine go ?_;refine LW.l (rh.rR bk DZ rfl (q.yA 6 rfl (j:=8) rfl)) rfl rfl ?_;refine gb h fun b a8 h=>?_;obtain ⟨b5,ae,H⟩:=vl a8;obtain ⟨aC,H⟩:=qN H;rw [oi H] at ae aC;rw [show d.U7.gc.pT.length=aj.2.length from aB] at q;obtain ⟨bJ,aq⟩:=q.uj [5] [0,1,2,3,4,6];refine LW.cl (EU ae rfl aq.st) ?_;rintro _ ca ⟨rfl,hs⟩
     have aN:=aq.back _ _ hs;refine go ?_;refine LW.zw (α:=cd) (vs:=[vI b.1]) aN 6 rfl sW rfl (by show _=m+(g.2.2:Int).toNat * 16+9;omega) rfl rfl rfl rfl ?_;intro cb aO hf;refine go ?_;refine LW.zw (α:=cd) (vs:=[vI (i64.wrap (b.1+1))]) aO 6 rfl sW rfl (by show _=m+(g.2.2:Int).toNat * 16+10;omega) rfl rfl rfl rfl ?_;intro cc aP hf;refine go ?_;refine LW.zw (α:=cd) (vs:=[vI (i64.wrap ((i64.wrap (b.1+1))+1))]) aP 6 rfl sW rfl (by show _=m+(g.2.2:Int).toNat * 16+11;omega) rfl rfl rfl rfl ?_;intro bv aQ hf;refine go ?_;refine LW.zw (α:=cd) (vs:=[vI (i64.wrap ((i64.wrap ((i64.wrap (b.1+1))+1))+1))]) aQ 6 rfl sW rfl (by show _=m+(g.2.2:Int).toNat * 16+12;omega) rfl rfl rfl rfl ?_;intro bw aR hf;refine go ?_;refine LW.zw (α:=cd) (vs:=[vI (i64.wrap ((i64.wrap ((i64.wrap ((i64.wrap (b.1+1))+1))+1))+1))]) aR 6 rfl sW rfl (by show _=m+(g.2.2:Int).toNat * 16+13;omega) rfl rfl rfl rfl ?_;intro bz aS hf;refine go ?_;refine LW.zw (α:=cd) (vs:=[vI (i64.wrap ((i64.wrap ((i64.wrap ((i64.wrap ((i64.wrap (b.1+1))+1))+1))+1))+1))]) aS 6 rfl sW rfl (by show _=m+(g.2.2:Int).toNat * 16+14;omega) rfl rfl rfl rfl ?_;intro bA aT hf;refine go ?_;refine LW.zw (α:=cd) (vs:=[vI (i64.wrap ((i64.wrap ((i64.wrap ((i64.wrap ((i64.wrap ((i64.wrap (b.1+1))+1))+1))+1))+1))+1))]) aT 6 rfl sW rfl (by show _=m+(g.2.2:Int).toNat * 16+15;omega) rfl rfl rfl rfl ?_;intro bB ar hf;refine go ?_;replace h:=oi h;subst h;rw [show d.pU.length=b.2.length from aC] at ar;have aU:=ar.vH (cd.mk (rA.mk af.2) ah.2 ai.2 (qd.mk f.2 (rl.mk f.1 (i64.wrap (f.1+1)) (i64.wrap ((i64.wrap (f.1+1))+1)) aj.2)) b.2 b.1 (i64.wrap (b.1+1)) (qj.mk (i64.wrap ((i64.wrap (b.1+1))+1)) (i64.wrap ((i64.wrap ((i64.wrap (b.1+1))+1))+1)) (i64.wrap ((i64.wrap ((i64.wrap ((i64.wrap (b.1+1))+1))+1))+1))) (i64.wrap ((i64.wrap ((i64.wrap ((i64.wrap ((i64.wrap (b.1+1))+1))+1))+1))+1)) (i64.wrap ((i64.wrap ((i64.wrap ((i64.wrap ((i64.wrap ((i64.wrap (b.1+1))+1))+1))+1))+1))+1))) [5,4,3,2,1,0,6] 6 0 rfl rfl (fun w G hG=>⟨I,R,J,U,K,V,L,W,M,X,O,Y,rfl,hG⟩);exact ⟨rfl,⟨⟨(show (vS (some ⟨ba,m,none⟩) g.1.length k:Value)=vS (some ⟨ba,m,none⟩) ((g.1.set (g.2.2:Int).toNat (cd.mk (rA.mk af.2) ah.2 ai.2 (qd.mk f.2 (rl.mk f.1 (i64.wrap (f.1+1)) (i64.wrap ((i64.wrap (f.1+1))+1)) aj.2)) b.2 b.1 (i64.wrap (b.1+1)) (qj.mk (i64.wrap ((i64.wrap (b.1+1))+1)) (i64.wrap ((i64.wrap ((i64.wrap (b.1+1))+1))+1)) (i64.wrap ((i64.wrap ((i64.wrap ((i64.wrap (b.1+1))+1))+1))+1))) (i64.wrap ((i64.wrap ((i64.wrap ((i64.wrap ((i64.wrap (b.1+1))+1))+1))+1))+1)) (i64.wrap ((i64.wrap ((i64.wrap ((i64.wrap ((i64.wrap ((i64.wrap (b.1+1))+1))+1))+1))+1))+1)))).length) k by rw [show g.1.length=(g.1.set (g.2.2:Int).toNat (cd.mk (rA.mk af.2) ah.2 ai.2 (qd.mk f.2 (rl.mk f.1 (i64.wrap (f.1+1)) (i64.wrap ((i64.wrap (f.1+1))+1)) aj.2)) b.2 b.1 (i64.wrap (b.1+1)) (qj.mk (i64.wrap ((i64.wrap (b.1+1))+1)) (i64.wrap ((i64.wrap ((i64.wrap (b.1+1))+1))+1)) (i64.wrap ((i64.wrap ((i64.wrap ((i64.wrap (b.1+1))+1))+1))+1))) (i64.wrap ((i64.wrap ((i64.wrap ((i64.wrap ((i64.wrap (b.1+1))+1))+1))+1))+1)) (i64.wrap ((i64.wrap ((i64.wrap ((i64.wrap ((i64.wrap ((i64.wrap (b.1+1))+1))+1))+1))+1))+1)))).length from (pV rfl)]),rfl,rfl,trivial⟩,aU.pk [0]⟩⟩
   exact rt
 rintro e bC ⟨hE,aV⟩;obtain ⟨e,rfl⟩:=hE.out;have h:=aK;refine go ?_;replace h:=oi h;subst h;exact Ra ⟨rfl,aV.pk [0]⟩
instance k_102:Ct prog 102:=⟨by kernel_rfl,@Ex⟩
theorem IQ {w0 N aa ae r} (h:xY N aa ae=some r) {p z q} (A:z=aa.length) (B:rb w0 p q aa) :
    pY prog 103 #[vS p z q,vI ae] w0 (fun v w=>v=vI r∧St w0 [] w []):=by
 subst A;unfold xY at h;refine pY.fn func103 fun e=>?_;have ab:=St.start w0;refine go ?_;obtain ⟨G,H,C⟩:=ob h;refine CW.mono (CW.lx [0] [] [1] 0 (fun Z=>[(1,vI Z.1),(5,vI Z.2)]) (RT prog f103.results (fun u=>vI u) w0 []) ab H (hb:=?_)) ?_
 · intro Z e aO o i h;refine gc h ?_ ?_<;>intro _ h
   · refine gb h fun aP ad h=>?_;obtain ⟨aM,aN,av,rfl,b,aw,ax,⟨af,an,ah,ao,ai,ap,aj,aq,ak,ar,am,au,rfl,I,J,K,L,M,O⟩,d⟩:=B.idx ad;refine go ?_;refine LW.l (rh.rR w0 B0 rfl (d 0 _ rfl)) (i.same _ b.1 b.2) rfl ?_;refine gb h fun aG R h=>?_;refine LW.c0 (A4 R rfl (i.rB I)) i fun az j=>?_;refine rU [0,1,5,21] fun e=>?_;refine gc h ?_ ?_<;>intro _ h
     · refine go ?_;cases oi h;exact ⟨trivial,rfl,_,rfl,rx ⟨rfl,j.pk []⟩⟩
     refine go ?_;refine LW.l (rh.rR w0 B0 rfl (d 1 _ rfl)) (j.same _ b.1 b.2) rfl ?_;refine gb h fun aH U h=>?_;refine LW.c0 (A4 U rfl (j.rB J)) j fun aA k=>?_;refine gc h ?_ ?_<;>intro _ h
     · refine go ?_;cases oi h;exact ⟨trivial,rfl,_,rfl,rx ⟨rfl,k.pk []⟩⟩
     refine go ?_;refine LW.l (rh.rR w0 DH rfl (d 2 _ rfl)) (k.same _ b.1 b.2) rfl ?_;refine gb h fun aI V h=>?_;refine LW.c0 (EO V rfl (k.rB K)) k fun aB m=>?_;refine rU [0,1,5,39] fun e=>?_;refine gc h ?_ ?_<;>intro _ h
     · refine go ?_;cases oi h;exact ⟨trivial,rfl,_,rfl,rx ⟨rfl,m.pk []⟩⟩
     refine go ?_;refine LW.l (rh.rR w0 DY rfl (d 3 _ rfl)) (m.same _ b.1 b.2) rfl ?_;refine gb h fun aJ W h=>?_;refine LW.c0 (E1 W rfl (m.rB L)) m fun aC g=>?_;refine gc h ?_ ?_<;>intro _ h
     · refine go ?_;cases oi h;exact ⟨trivial,rfl,_,rfl,rx ⟨rfl,g.pk []⟩⟩
     refine go ?_;refine LW.l (rh.rR w0 sW rfl (d 4 _ rfl)) (g.same _ b.1 b.2) rfl ?_;refine rU [0,1,5,58] fun e=>?_;refine gc h ?_ ?_<;>intro _ h
     · refine go ?_;cases oi h;exact ⟨trivial,rfl,_,rfl,rx ⟨rfl,g.pk []⟩⟩
     refine go ?_;refine LW.l (rh.rR w0 sW rfl (d 5 _ rfl)) (g.same _ b.1 b.2) rfl ?_;refine gc h ?_ ?_<;>intro _ h
     · refine go ?_;cases oi h;exact ⟨trivial,rfl,_,rfl,rx ⟨rfl,g.pk []⟩⟩
     refine go ?_;refine LW.l (rh.rR w0 sW rfl (d 6 _ rfl)) (g.same _ b.1 b.2) rfl ?_;refine rU [0,1,5,80] fun e=>?_;refine gc h ?_ ?_<;>intro _ h
     · refine go ?_;cases oi h;exact ⟨trivial,rfl,_,rfl,rx ⟨rfl,g.pk []⟩⟩
     refine go ?_;refine LW.l (rh.rR w0 B0 rfl (d 7 _ rfl)) (g.same _ b.1 b.2) rfl ?_;refine gb h fun aK X h=>?_;refine LW.c0 (A4 X rfl (g.rB M)) g fun aD n=>?_;refine rU [0,1,5,93] fun e=>?_;refine gc h ?_ ?_<;>intro _ h
     · refine go ?_;cases oi h;exact ⟨trivial,rfl,_,rfl,rx ⟨rfl,n.pk []⟩⟩
     refine go ?_;refine LW.l (rh.rR w0 DZ rfl (d 8 _ rfl)) (n.same _ b.1 b.2) rfl ?_;refine gb h fun aL Y h=>?_;refine LW.c0 (EJ Y rfl (n.rB O)) n fun aE f=>?_;refine gc h ?_ ?_<;>intro _ h
     · refine go ?_;cases oi h;exact ⟨trivial,rfl,_,rfl,rx ⟨rfl,f.pk []⟩⟩
     refine go ?_;refine LW.l (rh.rR w0 sW rfl (d 9 _ rfl)) (f.same _ b.1 b.2) rfl ?_;refine rU [0,1,5,109] fun e=>?_;refine gc h ?_ ?_<;>intro _ h
     · refine go ?_;cases oi h;exact ⟨trivial,rfl,_,rfl,rx ⟨rfl,f.pk []⟩⟩
     refine go ?_;refine LW.l (rh.rR w0 sW rfl (d 10 _ rfl)) (f.same _ b.1 b.2) rfl ?_;refine gc h ?_ ?_<;>intro _ h
     · refine go ?_;cases oi h;exact ⟨trivial,rfl,_,rfl,rx ⟨rfl,f.pk []⟩⟩
     refine go ?_;refine LW.l (rh.rR w0 sW rfl (d 11 _ rfl)) (f.same _ b.1 b.2) rfl ?_;refine rU [0,1,5,128] fun e=>?_;refine gc h ?_ ?_<;>intro _ h
     · refine go ?_;cases oi h;exact ⟨trivial,rfl,_,rfl,rx ⟨rfl,f.pk []⟩⟩
     refine go ?_;refine LW.l (rh.rR w0 sW rfl (d 12 _ rfl)) (f.same _ b.1 b.2) rfl ?_;refine gc h ?_ ?_<;>intro _ h
     · refine go ?_;cases oi h;exact ⟨trivial,rfl,_,rfl,rx ⟨rfl,f.pk []⟩⟩
     refine go ?_;refine LW.l (rh.rR w0 sW rfl (d 13 _ rfl)) (f.same _ b.1 b.2) rfl ?_;refine rU [0,1,5,148] fun e=>?_;refine gc h ?_ ?_<;>intro _ h
     · refine go ?_;cases oi h;exact ⟨trivial,rfl,_,rfl,rx ⟨rfl,f.pk []⟩⟩
     refine go ?_;refine LW.l (rh.rR w0 sW rfl (d 14 _ rfl)) (f.same _ b.1 b.2) rfl ?_;refine gc h ?_ ?_<;>intro _ h
     · refine go ?_;cases oi h;exact ⟨trivial,rfl,_,rfl,rx ⟨rfl,f.pk []⟩⟩
     refine go ?_;refine LW.l (rh.rR w0 sW rfl (d 15 _ rfl)) (f.same _ b.1 b.2) rfl ?_;refine rU [0,1,5,166] fun e=>?_;refine gc h ?_ ?_<;>intro _ h
     · refine go ?_;cases oi h;exact ⟨trivial,rfl,_,rfl,rx ⟨rfl,f.pk []⟩⟩
     refine go ?_;cases oi h;exact ⟨rfl,(f.po [])⟩
   refine go ?_;cases oi h;exact ⟨trivial,rfl,(i.po [])⟩
 intro x e aF hM;rcases G with G | ay
 · obtain ⟨rfl,hM⟩:=hM;obtain ⟨e,rfl,ac⟩:=eo hM;have h:=C;refine go ?_;cases h;exact fi ac
 obtain ⟨rfl,u,rfl,hM⟩:=hM;cases C;exact And.intro trivial hM
instance k_103:Ct prog 103:=⟨by kernel_rfl,@IQ⟩
end Go.Kx
