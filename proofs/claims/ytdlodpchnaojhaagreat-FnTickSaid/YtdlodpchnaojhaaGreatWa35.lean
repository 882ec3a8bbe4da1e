/- Each call returns what the plain function says. Printed by drive.py. -/
import Derived.Test.YtdlodpchnaojhaaGreatFa
import Derived.Test.YtdlodpchnaojhaaGreatPu
namespace Go.Kx
open Go Go.RowKit Go.Proofs
set_option maxRecDepth 10000
set_option maxHeartbeats 8000000
set_option linter.unusedVariables false
set_option linter.unusedSimpArgs false
theorem Je {w0 N f r} (h:xU N f=some r) {a c b} (d:c=f.length) (i:rb w0 a b f) :
    iq Tryz.prog 8 #[vS a c b] w0 (fun v w=>v=.bool r∧St w0 [] w []):=by
 subst d;unfold xU at h;refine iq.fn Tryz.func8 fun e=>?_;have g:=St.start w0;refine go ?_;cases h;exact fi g
theorem Gq {w0 N c r} (h:sD N c=some r) {a j b} (k:j=c.length) (m:rb w0 a b c) :
    iq Tryz.prog 49 #[vS a j b] w0 (fun v w=>∃ n,v=.pointer (some ⟨n,0,none⟩)∧St w0 [] w [bx n 148 [vS a c.length b,vI r.i,vI r.h]]):=by
 subst k;unfold sD at h;refine iq.fn Tryz.func49 fun e=>?_;have A:=St.start w0;refine go ?_;obtain ⟨p,s,z⟩:=ob h;refine CW.mono (CW.lb [0] [] [0,3] 0 (fun t=>[(3,vI t.1),(4,vI t.2)]) A s (hb:=?_)) ?_
 · intro t e W o d h;refine gs ?_;obtain ⟨L,G,J⟩:=ob h;refine CW.jn [0,3,4] [] [(15,.bool L)] d (h1:=?_) (h2:=?_)
   · have h:=G;refine gB h ?_ ?_ <;> intro _ h
     · refine go ?_;cases oi h;exact d.po []
     refine go ?_;cases oi h;exact d.po []
   intro e X f;have h:=J;refine gc h ?_ ?_ <;> intro _ h
   · refine gb h fun Y H h=>?_;obtain ⟨M,R,I,rfl,g,O,K,rfl,q⟩:=m.idx H;refine go ?_;refine LW.l (iC.iP w0 J5 rfl (q 0 _ rfl)) (f.same _ g.1 g.2) rfl ?_;refine LW.u (iD.conv Tryz.underlying5 Tryz.underlying3 rfl) rfl ?_;refine go ?_;cases oi h;exact ⟨rfl,(f.po [])⟩
   refine go ?_;cases oi h;exact ⟨trivial,rfl,(f.po [])⟩
 intro x e U hM;obtain ⟨rfl,hM⟩:=hM;obtain ⟨e,rfl,B⟩:=eo hM;have h:=z;refine go ?_;refine LW.u (iD.build (vs:=[(0,vS a c.length b),(2,vI p.1)]) (cs:=#[vS a c.length b,vI 0,vI p.1]) rfl (by kernel_rfl)) rfl ?_;refine LW.bo B fun y V C=>?_;refine go ?_;cases h;exact Ra ⟨y,rfl,C.pk [0]⟩
theorem ti {w0} {F:List Nat} {N d r} (h:m6 N d=some r) {l:Nat} {a c} (g:jf (jX w0 F) w0 a c d.b) (hS:St w0 F w0 [bx l 148 [vS a d.b.length c,vI d.i,vI d.h]]) :
    iq Tryz.prog 136 #[.pointer (some ⟨l,0,none⟩)] w0 (fun v w=>v=vI r.1∧St w0 F w [bx l 148 [vS a d.b.length c,vI r.2.i,vI r.2.h]]):=by
 unfold m6 at h;refine iq.fn Tryz.func136 fun e=>?_;refine go ?_;refine LW.u (iD.nc rfl) rfl ?_;refine go ?_;refine LW.u (iD.nc rfl) rfl ?_;refine go ?_;refine LW.st hS 0 fun B n=>?_;refine go ?_;refine CW.draw (by kernel_rfl) ?_;have o:=n.drew;refine go ?_;refine AW.u (i:=4) rfl (by kernel_rfl) rfl rfl (iD.shr rfl rfl (by decide)) ?_;refine go ?_;refine AW.u (i:=9) rfl (by kernel_rfl) rfl rfl (iD.shr rfl rfl (by decide)) ?_;refine go ?_;refine CW.draw (by kernel_rfl) ?_;have j:=o.drew;refine gc h ?_ ?_ <;> intro _ h
 · refine go ?_;refine CW.draw (by kernel_rfl) ?_;have k:=j.drew;refine gb h fun C q h=>?_;obtain ⟨z,A,s,rfl,f,t,x,rfl,m⟩:=g.idx q;refine go ?_;refine AW.take (i:=10) rfl (by kernel_rfl) rfl rfl (iC.iP w0 J5 rfl (m 0 _ rfl)) (k.same _ f.1 f.2) ?_;refine AW.u (i:=11) rfl (by kernel_rfl) rfl rfl (iD.conv Tryz.underlying5 Tryz.underlying3 rfl) ?_;refine go ?_;refine LW.u (iD.nc rfl) rfl ?_;refine go ?_;refine LW.u (iD.nc rfl) rfl ?_;refine go ?_;refine LW.st k 0 fun y p=>?_;refine go ?_;replace h:=oi h;subst h;exact Ra ⟨rfl,p.pk [0]⟩
 refine go ?_;replace h:=oi h;subst h;exact Ra ⟨rfl,j.pk [0]⟩
theorem wX {w0 N H I r} (h:pd N H I=some r) {b k d} (m:k=H.levels.length) (p:rb w0 b d H.levels) {c l f} (n:l=I.levels.length) (q:rb w0 c f I.levels) :
    iq Tryz.prog 13 #[.agg #[vS b k d],.agg #[vS c l f]] w0 (fun v w=>v=.bool r∧St w0 [] w []):=by
 subst m n;unfold pd at h;refine iq.fn Tryz.func13 fun e=>?_;have J:=St.start w0;refine go ?_;refine LW.bo J fun ah aj K=>?_;refine LW.bo K fun ai ak t=>?_;refine gc h ?_ ?_ <;> intro _ h
 · refine go ?_;cases h;exact fi t
 refine go ?_;obtain ⟨z,C,s⟩:=ob h;refine CW.mono (CW.lx [2,3] [0,1] [] 0 (fun O=>[(5,vI O)]) (RT Tryz.prog Tryz.f13.results (fun u=>.bool u) w0 []) t C (hb:=?_)) ?_
 · intro O e am o y h;refine go ?_;refine CW.fl [2,3,5,17] fun e=>?_;refine gc h ?_ ?_ <;> intro _ h
   · refine go ?_;refine CW.draw (by kernel_rfl) ?_;have a:=y.drew;refine gb h fun an M h=>?_;obtain ⟨Z,ab,R,rfl,g,V,X,rfl,A⟩:=p.idx M;refine go ?_;refine AW.take (i:=4) rfl (by kernel_rfl) rfl rfl (iC.iP w0 jc rfl (A 0 _ rfl)) (a.same _ g.1 g.2) ?_;refine gb h fun af G h=>?_;obtain ⟨aa,ac,U,rfl,j,W,Y,rfl,B⟩:=q.idx G;refine go ?_;refine AW.take (i:=9) rfl (by kernel_rfl) rfl rfl (iC.iP w0 jc rfl (B 0 _ rfl)) (a.same _ j.1 j.2) ?_;refine gc h ?_ ?_ <;> intro _ h
     · refine go ?_;cases oi h;exact ⟨trivial,rfl,_,rfl,rx ⟨rfl,a.pk []⟩⟩
     refine go ?_;cases oi h;exact ⟨rfl,(a.po [0,1])⟩
   refine go ?_;cases oi h;exact ⟨trivial,rfl,⟨trivial,y.pk [0,1]⟩⟩
 intro x e ae hM;rcases z with z | ad
 · obtain ⟨rfl,hM⟩:=hM;obtain ⟨e,rfl,L⟩:=eo hM;rw [show e=iQ e [] from rfl];have h:=s;refine go ?_;cases h;exact fi L
 obtain ⟨rfl,u,rfl,hM⟩:=hM;cases s;exact And.intro trivial hM
theorem yf {w0 N H I r} (h:r6 N H I=some r) {b k d} (m:k=H.length) (p:rb w0 b d H) {c l f} (n:l=I.length) (q:rb w0 c f I) :
    iq Tryz.prog 132 #[vS b k d,vS c l f] w0 (fun v w=>v=.bool r∧St w0 [] w []):=by
 subst m n;unfold r6 at h;refine iq.fn Tryz.func132 fun e=>?_;have t:=St.start w0;refine gc h ?_ ?_ <;> intro _ h
 · refine go ?_;cases h;exact fi t
 refine go ?_;obtain ⟨z,C,s⟩:=ob h;refine CW.mono (CW.lx [0,1] [] [] 0 (fun L=>[(5,vI L)]) (RT Tryz.prog Tryz.f132.results (fun u=>.bool u) w0 []) t C (hb:=?_)) ?_
 · intro L e ae o y h;refine gc h ?_ ?_ <;> intro _ h
   · refine go ?_;refine CW.draw (by kernel_rfl) ?_;have a:=y.drew;refine gb h fun af K h=>?_;obtain ⟨ac,ad,M,rfl,g,W,X,rfl,A⟩:=p.idx K;refine go ?_;refine AW.take (i:=3) rfl (by kernel_rfl) rfl rfl (iC.iP w0 jc rfl (A 0 _ rfl)) (a.same _ g.1 g.2) ?_;refine gb h fun ab G h=>?_;obtain ⟨V,Y,O,rfl,j,R,U,rfl,B⟩:=q.idx G;refine go ?_;refine AW.take (i:=7) rfl (by kernel_rfl) rfl rfl (iC.iP w0 jc rfl (B 0 _ rfl)) (a.same _ j.1 j.2) ?_;refine gc h ?_ ?_ <;> intro _ h
     · refine go ?_;cases oi h;exact ⟨trivial,rfl,_,rfl,rx ⟨rfl,a.pk []⟩⟩
     refine go ?_;cases oi h;exact ⟨rfl,(a.po [])⟩
   refine go ?_;cases oi h;exact ⟨trivial,rfl,⟨trivial,y.pk []⟩⟩
 intro x e aa hM;rcases z with z | Z
 · obtain ⟨rfl,hM⟩:=hM;obtain ⟨e,rfl,J⟩:=eo hM;rw [show e=iQ e [] from rfl];have h:=s;refine go ?_;cases h;exact fi J
 obtain ⟨rfl,u,rfl,hM⟩:=hM;cases s;exact And.intro trivial hM
theorem E6 {w0 N b c r} (h:re N b c=some r) {f C p} (X:C=b.il.length) (ad:rb w0 f p b.il) {g G q} (Y:G=b.data.length) (ae:rb w0 g q b.data) {k H s} (Z:H=b.queue.length) (af:rb w0 k s b.queue) {l I t} (aa:I=c.il.length) (ah:rb w0 l t c.il) {m J y} (ab:J=c.data.length) (ai:rb w0 m y c.data) {n K z} (ac:K=c.queue.length) (aj:rb w0 n z c.queue) :
    iq Tryz.prog 221 #[.agg #[vI b.gen,vI b.kind,vI b.box,vI b.res,vI b.iU,vI b.bh,vI b.wait,vI b.iW,vI b.iR,.bool b.mark,vS f C p,vS g G q,vS k H s],.agg #[vI c.gen,vI c.kind,vI c.box,vI c.res,vI c.iU,vI c.bh,vI c.wait,vI c.iW,vI c.iR,.bool c.mark,vS l I t,vS m J y,vS n K z]] w0 (fun v w=>v=.bool r∧St w0 [] w []):=by
 subst X Y Z aa ab ac;unfold re at h;refine iq.fn Tryz.func221 fun e=>?_;have aQ:=St.start w0;refine go ?_;refine LW.bo aQ fun bL bN aR=>?_;refine LW.bo aR fun bM bO a=>?_;refine gs ?_;obtain ⟨bf,aT,a2⟩:=ob h;refine CW.jn [2,3] [0,1] [(102,.bool bf)] a (h1:=?_) (h2:=?_)
 · have h:=aT;refine gB h ?_ ?_ <;> intro _ h
   · refine go ?_;cases oi h;exact a.po [0,1]
   refine gB h ?_ ?_ <;> intro _ h
   · refine go ?_;cases oi h;exact a.po [0,1]
   refine go ?_;refine bH h ?_ ?_ <;> intro _ h
   · refine go ?_;cases oi h;exact a.po [0,1]
   refine gB h ?_ ?_ <;> intro _ h
   · refine go ?_;cases oi h;exact a.po [0,1]
   refine gB h ?_ ?_ <;> intro _ h
   · refine go ?_;cases oi h;exact a.po [0,1]
   refine gB h ?_ ?_ <;> intro _ h
   · refine go ?_;cases oi h;exact a.po [0,1]
   refine go ?_;refine bH h ?_ ?_ <;> intro _ h
   · refine go ?_;cases oi h;exact a.po [0,1]
   refine gB h ?_ ?_ <;> intro _ h
   · refine go ?_;cases oi h;exact a.po [0,1]
   refine gB h ?_ ?_ <;> intro _ h
   · refine go ?_;cases oi h;exact a.po [0,1]
   refine go ?_;refine LW.u (iD.bne Tryz.underlying4 rfl rfl) rfl ?_;refine gB h ?_ ?_ <;> intro _ h
   · refine go ?_;cases oi h;exact a.po [0,1]
   refine go ?_;refine bH h ?_ ?_ <;> intro _ h
   · refine go ?_;cases oi h;exact a.po [0,1]
   refine gB h ?_ ?_ <;> intro _ h
   · refine go ?_;cases oi h;exact a.po [0,1]
   refine go ?_;cases oi h;exact a.po [0,1]
 intro e bz ao;have h:=a2;refine gc h ?_ ?_ <;> intro _ h
 · refine go ?_;cases h;exact fi ao
 refine go ?_;obtain ⟨ar,aH,ak⟩:=ob h;refine CW.mono (CW.lx [2,3] [0,1] [2,3] 0 (fun aw=>[(5,vI aw)]) (RT Tryz.prog Tryz.f221.results (fun u=>.bool u) w0 []) ao aH (hb:=?_)) ?_
 · intro aw e bA o ap h;refine gc h ?_ ?_ <;> intro _ h
   · refine go ?_;refine CW.draw (by kernel_rfl) ?_;have A:=ap.drew;refine gb h fun bG aK h=>?_;obtain ⟨bg,bn,aW,rfl,M,a3,a9,rfl,aB⟩:=ad.idx aK;refine go ?_;refine AW.take (i:=4) rfl (by kernel_rfl) rfl rfl (iC.iP w0 jc rfl (aB 0 _ rfl)) (A.same _ M.1 M.2) ?_;refine gb h fun bI aL h=>?_;obtain ⟨bi,bp,aX,rfl,O,a4,ba,rfl,aC⟩:=ah.idx aL;refine go ?_;refine AW.take (i:=9) rfl (by kernel_rfl) rfl rfl (iC.iP w0 jc rfl (aC 0 _ rfl)) (A.same _ O.1 O.2) ?_;refine gc h ?_ ?_ <;> intro _ h
     · refine go ?_;cases oi h;exact ⟨trivial,rfl,_,rfl,rx ⟨rfl,A.pk []⟩⟩
     refine go ?_;cases oi h;exact ⟨rfl,(A.po [0,1])⟩
   refine go ?_;cases oi h;exact ⟨trivial,rfl,(ap.po [0,1])⟩
 intro x e bB hM;rcases ar with ar | bw
 · obtain ⟨rfl,hM⟩:=hM;obtain ⟨e,rfl,aS⟩:=eo hM;have h:=ak;refine go ?_;obtain ⟨au,aI,am⟩:=ob h;refine CW.mono (CW.lx [2,3] [0,1] [2,3] 2 (fun ax=>[(6,vI ax)]) (RT Tryz.prog Tryz.f221.results (fun u=>.bool u) w0 []) aS aI (hb:=?_)) ?_
   · intro ax e bC o aq h;refine gc h ?_ ?_ <;> intro _ h
     · refine go ?_;refine CW.draw (by kernel_rfl) ?_;have B:=aq.drew;refine gb h fun bJ aM h=>?_;obtain ⟨bj,bq,aY,rfl,R,a5,bb,rfl,aD⟩:=ae.idx aM;refine go ?_;refine AW.take (i:=4) rfl (by kernel_rfl) rfl rfl (iC.iP w0 jc rfl (aD 0 _ rfl)) (B.same _ R.1 R.2) ?_;refine gb h fun bK aN h=>?_;obtain ⟨bk,br,aZ,rfl,U,a6,bc,rfl,aE⟩:=ai.idx aN;refine go ?_;refine AW.take (i:=9) rfl (by kernel_rfl) rfl rfl (iC.iP w0 jc rfl (aE 0 _ rfl)) (B.same _ U.1 U.2) ?_;refine gc h ?_ ?_ <;> intro _ h
       · refine go ?_;cases oi h;exact ⟨trivial,rfl,_,rfl,rx ⟨rfl,B.pk []⟩⟩
       refine go ?_;cases oi h;exact ⟨rfl,(B.po [0,1])⟩
     refine go ?_;cases oi h;exact ⟨trivial,rfl,(aq.po [0,1])⟩
   intro x e bD hM;rcases au with au | bv
   · obtain ⟨rfl,hM⟩:=hM;obtain ⟨e,rfl,az⟩:=eo hM;have h:=am;refine go ?_;obtain ⟨av,aJ,an⟩:=ob h;refine CW.mono (CW.lx [2,3] [0,1] [] 4 (fun ay=>[(7,vI ay)]) (RT Tryz.prog Tryz.f221.results (fun u=>.bool u) w0 []) az aJ (hb:=?_)) ?_
     · intro ay e bE o L h;refine gc h ?_ ?_ <;> intro _ h
       · refine go ?_;refine CW.draw (by kernel_rfl) ?_;have d:=L.drew;refine gb h fun aU aO h=>?_;obtain ⟨bl,bs,a0,rfl,V,a7,bd,rfl,aF⟩:=af.idx aO;refine go ?_;refine AW.take (i:=4) rfl (by kernel_rfl) rfl rfl (iC.jH w0 wi rfl rfl (fun j u hu=>aF j u hu)) (d.same _ V.1 V.2) ?_;refine gb h fun aV aP h=>?_;obtain ⟨bm,bt,a1,rfl,W,a8,be,rfl,aG⟩:=aj.idx aP;refine go ?_;refine AW.take (i:=9) rfl (by kernel_rfl) rfl rfl (iC.jH w0 wi rfl rfl (fun j u hu=>aG j u hu)) (d.same _ W.1 W.2) ?_;refine AW.u (i:=10) rfl (by kernel_rfl) rfl rfl (iD.CN IP rfl rfl (fun w=>Ix aU aV w)) ?_;refine gc h ?_ ?_ <;> intro _ h
         · refine go ?_;cases oi h;exact ⟨trivial,rfl,_,rfl,rx ⟨rfl,d.pk []⟩⟩
         refine go ?_;cases oi h;exact ⟨rfl,(d.po [0,1])⟩
       refine go ?_;cases oi h;exact ⟨trivial,rfl,⟨trivial,L.pk [0,1]⟩⟩
     intro x e bF hM;rcases av with av | bu
     · obtain ⟨rfl,hM⟩:=hM;obtain ⟨e,rfl,aA⟩:=eo hM;rw [show e=iQ e [] from rfl];have h:=an;refine go ?_;cases h;exact fi aA
     obtain ⟨rfl,u,rfl,hM⟩:=hM;cases an;exact And.intro trivial hM
   obtain ⟨rfl,u,rfl,hM⟩:=hM;cases am;exact And.intro trivial hM
 obtain ⟨rfl,u,rfl,hM⟩:=hM;cases ak;exact And.intro trivial hM
theorem iw {w0} {F:List Nat} {N l H r} (h:iv N l H=some r) {n:Nat} {c d} (a:jf (jX w0 F) w0 c d l.b) (hS:St w0 F w0 [bx n 148 [vS c l.b.length d,vI l.i,vI l.h]]) :
    iq Tryz.prog 65 #[.pointer (some ⟨n,0,none⟩),vI H] w0 (fun v w=>v=vI r.1∧St w0 F w [bx n 148 [vS c l.b.length d,vI r.2.i,vI r.2.h]]):=by
 unfold iv at h;refine iq.fn Tryz.func65 fun e=>?_;refine gc h ?_ ?_ <;> intro _ h
 · refine go ?_;replace h:=oi h;subst h;exact Ra ⟨rfl,hS.pk [0]⟩
 refine gc h ?_ ?_ <;> intro _ h
 · refine gb h fun aa B h=>?_;obtain ⟨X,m⟩:=hS.iy [0] [];refine LW.cl (ti B (m.rB a) m.st) ?_;rintro _ Z ⟨rfl,hs⟩;have t:=m.back _ _ hs;refine gb h fun _ G h=>?_;refine LW.u (iD.rem rfl rfl (BC G)) rfl ?_;refine go ?_;replace h:=oi h;subst h;exact Ra ⟨rfl,t.pk [0]⟩
 refine gb h fun ab C h=>?_;obtain ⟨Y,f⟩:=hS.iy [0] [];refine LW.cl (ti C (f.rB a) f.st) ?_;rintro _ L ⟨rfl,hs⟩;have x:=f.back _ _ hs;refine gb h fun U o h=>?_;obtain ⟨I,g⟩:=x.iy [0] [];refine LW.cl (ti o (g.rB a) g.st) ?_;rintro _ M ⟨rfl,hs⟩;have y:=g.back _ _ hs;refine gb h fun V p h=>?_;obtain ⟨J,j⟩:=y.iy [0] [];refine LW.cl (ti p (j.rB a) j.st) ?_;rintro _ O ⟨rfl,hs⟩;have z:=j.back _ _ hs;refine gb h fun W q h=>?_;obtain ⟨K,k⟩:=z.iy [0] [];refine LW.cl (ti q (k.rB a) k.st) ?_;rintro _ R ⟨rfl,hs⟩;have A:=k.back _ _ hs;refine go ?_;have ⟨_,s,h⟩:=ob h;refine LW.u (iD.rem rfl rfl (BC s)) rfl ?_;refine go ?_;replace h:=oi h;subst h;exact Ra ⟨rfl,A.pk [0]⟩
theorem Bz {w0 N V W r} (h:sh N V W=some r) {b l d} (n:l=V.length) (q:rb w0 b d V) {c m f} (p:m=W.length) (s:rb w0 c f W) :
    iq Tryz.prog 133 #[vS b l d,vS c m f] w0 (fun v w=>v=.bool r∧St w0 [] w []):=by
 subst n p;unfold sh at h;refine iq.fn Tryz.func133 fun e=>?_;have y:=St.start w0;refine gc h ?_ ?_ <;> intro _ h
 · refine go ?_;cases h;exact fi y
 refine go ?_;obtain ⟨B,H,t⟩:=ob h;refine CW.mono (CW.lx [0,1] [] [] 0 (fun Z=>[(5,vI Z)]) (RT Tryz.prog Tryz.f133.results (fun u=>.bool u) w0 []) y H (hb:=?_)) ?_
 · intro Z e aF o z h;refine gc h ?_ ?_ <;> intro _ h
   · refine go ?_;refine CW.draw (by kernel_rfl) ?_;have a:=z.drew;refine gb h fun aG Y h=>?_;obtain ⟨aD,aE,aa,rfl,g,av,aw,⟨ae,an,af,ao,ah,ap,rfl,I,J,K⟩,C⟩:=q.idx Y;refine go ?_;refine AW.take (i:=3) rfl (by kernel_rfl) rfl rfl (iC.jH w0 kW rfl rfl (fun j u hu=>C j u hu)) (a.same _ g.1 g.2) ?_;refine gb h fun aB R h=>?_;obtain ⟨am,ax,ab,rfl,k,ac,ad,⟨ai,aq,aj,ar,ak,au,rfl,L,M,O⟩,G⟩:=s.idx R;refine go ?_;refine AW.take (i:=7) rfl (by kernel_rfl) rfl rfl (iC.jH w0 kW rfl rfl (fun j u hu=>G j u hu)) (a.same _ k.1 k.2) ?_;have ⟨aC,U,h⟩:=ob h;refine jO 8 ?_;refine LW.cl (E6 U rfl (a.rB I) rfl (a.rB J) rfl (a.rB K) rfl (a.rB L) rfl (a.rB M) rfl (a.rB O)) ?_;rintro _ az ⟨rfl,hs⟩;have A:=a.add hs;refine jn ?_;refine gc h ?_ ?_ <;> intro _ h
     · refine go ?_;cases oi h;exact ⟨trivial,rfl,_,rfl,rx ⟨rfl,A.pk []⟩⟩
     refine go ?_;cases oi h;exact ⟨rfl,(A.po [])⟩
   refine go ?_;cases oi h;exact ⟨trivial,rfl,⟨trivial,z.pk []⟩⟩
 intro x e aA hM;rcases B with B | ay
 · obtain ⟨rfl,hM⟩:=hM;obtain ⟨e,rfl,X⟩:=eo hM;rw [show e=iQ e [] from rfl];have h:=t;refine go ?_;cases h;exact fi X
 obtain ⟨rfl,u,rfl,hM⟩:=hM;cases t;exact And.intro trivial hM
theorem vC {w0} {F:List Nat} {N n r} (h:nj N n=some r) {s:Nat} {f g} (z:jf (jX w0 F) w0 f g n.b) (hS:St w0 F w0 [bx s 148 [vS f n.b.length g,vI n.i,vI n.h]]) :
    iq Tryz.prog 280 #[.pointer (some ⟨s,0,none⟩)] w0 (fun v w=>∃ p q,v=.agg #[vS p r.1.levels.length q]∧St w0 F w [sl p q r.1.levels,bx s 148 [vS f n.b.length g,vI r.2.i,vI r.2.h]]):=by
 unfold nj at h;refine iq.fn Tryz.func280 fun e=>?_;refine go ?_;refine LW.al hS fun L an R=>?_;refine go ?_;refine LW.u (iD.build (vs:=[]) (cs:=#[vS none 0 0]) rfl (by kernel_rfl)) rfl ?_;refine LW.al R fun M ao U=>?_;refine LW.st U 0 fun ap V=>?_;refine go ?_;have W:=V.nil (α:=Int);obtain ⟨ad,H,O⟩:=ob h;refine CW.ie H 0 (fun k e wb=>∃ (a:Ad) (d:Nat),En e [(0,.pointer (some ⟨s,0,none⟩)),(2,.pointer (some ⟨L,0,none⟩)),(3,.pointer (some ⟨M,0,none⟩)),(4,vI k.1)]∧St w0 F wb [bx M 34 [vS a k.2.2.2.length d],bx L 34 [vS none 0 0],bx s 148 [vS f n.b.length g,vI k.2.1,vI k.2.2.1],sl a d k.2.2.2]) ?_ ⟨none,0,W.po [1,2,3,0]⟩ ?_
 · intro k e aq o hM h;obtain ⟨a,d,hE,A⟩:=hM;obtain ⟨e,rfl⟩:=hE.out;refine gc h ?_ ?_ <;> intro _ h
   · refine go ?_;refine CW.draw (by kernel_rfl) ?_;have X:=A.drew;refine gb h fun y Z h=>?_;obtain ⟨aa,j⟩:=X.iy [2] [0,1,3];refine jO 3 ?_;refine LW.cl (iw Z (j.rB z) j.st) ?_;rintro _ ae ⟨rfl,hs⟩;have B:=j.back _ _ hs;refine jN (.c (B.ce 1) jZ) ?_;refine jO 4 ?_;refine LW.jV (α:=Int) (vs:=[(0,vI y.1)]) (cs:=#[vI y.1]) (l:=([y.1]:List Int)) rfl (by kernel_rfl) rfl rfl rfl (fun w=>⟨[vI y.1],[],[],[],rfl,rfl,⟨rfl,rfl⟩,rfl⟩) B rfl ?_;intro ab ac af x hf;refine jN (.c (x.ce 2) jZ) ?_;have ⟨am,I,h⟩:=ob h;refine jO 5 ?_;refine LW.kA (l:=k.2.2.2) (m:=([y.1]:List Int)) mT rfl rfl (x.rI 0 rfl) I x (i:=4) rfl rfl ?_;intro J K ah Y hf;refine jN (jW jZ) ?_;refine go ?_;refine jO 7 ?_;refine LW.st Y 2 fun ai C=>?_;refine jN (jW jZ) ?_;refine go ?_;cases oi h;exact ⟨rfl,⟨J,K,C.po [2,3,1,4]⟩⟩
   refine go ?_;cases oi h;exact ⟨trivial,rfl,⟨a,d,A.po [0,1,2,3]⟩⟩
 rintro e aj ⟨a,d,hE,G⟩;obtain ⟨e,rfl⟩:=hE.out;have h:=O;refine go ?_;refine LW.st G 1 fun ak t=>?_;refine go ?_;replace h:=oi h;subst h;exact And.intro trivial ⟨_,jB.one (ic.b t 1 rfl zd rfl rfl),a,d,rfl,t.pk [3,2]⟩
theorem kv {w0} {F:List Nat} {N d m r} (h:jQ N d m=some r) {j:Nat} {a c} (g:jf (jX w0 F) w0 a c d.b) (hS:St w0 F w0 [bx j 148 [vS a d.b.length c,vI d.i,vI d.h]]) :
    iq Tryz.prog 67 #[.pointer (some ⟨j,0,none⟩),vI m] w0 (fun v w=>v=.bool r.1∧St w0 F w [bx j 148 [vS a d.b.length c,vI r.2.i,vI r.2.h]]):=by
 unfold jQ at h;refine iq.fn Tryz.func67 fun e=>?_;refine gb h fun p l h=>?_;obtain ⟨n,f⟩:=hS.iy [0] [];refine LW.cl (iw l (f.rB g) f.st) ?_;rintro _ o ⟨rfl,hs⟩;have k:=f.back _ _ hs;refine go ?_;replace h:=oi h;subst h;exact Ra ⟨rfl,k.pk [0]⟩
theorem jr {w0} {F:List Nat} {N d u r} (h:jd N d u=some r) {s:Nat} {a c} (o:jf (jX w0 F) w0 a c d.b) {f m g} (n:m=u.length) (p:jf (jX w0 F) w0 f g u) (hS:St w0 F w0 [bx s 148 [vS a d.b.length c,vI d.i,vI d.h]]) :
    iq Tryz.prog 68 #[.pointer (some ⟨s,0,none⟩),vS f m g] w0 (fun v w=>v=vI r.1∧St w0 F w [bx s 148 [vS a d.b.length c,vI r.2.i,vI r.2.h]]):=by
 subst n;unfold jd at h;refine iq.fn Tryz.func68 fun e=>?_;refine gb h fun J x h=>?_;obtain ⟨C,j⟩:=hS.iy [0] [];refine LW.cl (iw x (j.rB o) j.st) ?_;rintro _ I ⟨rfl,hs⟩;have q:=j.back _ _ hs;have ⟨K,y,h⟩:=ob h;obtain ⟨G,H,z,rfl,k,A,B,rfl,t⟩:=p.idx y;refine go ?_;refine LW.l (iC.iP w0 jc rfl (t 0 _ rfl)) (q.same _ k.1 k.2) rfl ?_;refine go ?_;replace h:=oi h;subst h;exact Ra ⟨rfl,q.pk [0]⟩
theorem AZ {w0} {F:List Nat} {N g r} (h:so N g=some r) {n:Nat} {c d} (a:jf (jX w0 F) w0 c d g.b) (hS:St w0 F w0 [bx n 148 [vS c g.b.length d,vI g.i,vI g.h]]) :
    iq Tryz.prog 283 #[.pointer (some ⟨n,0,none⟩)] w0 (fun v w=>v=.agg #[vI r.1.bh,vI r.1.ib,vI r.1.ik]∧St w0 F w [bx n 148 [vS c g.b.length d,vI r.2.i,vI r.2.h]]):=by
 unfold so at h;refine iq.fn Tryz.func283 fun e=>?_;refine go ?_;refine LW.al hS fun K L p=>?_;refine gb h fun z x h=>?_;obtain ⟨I,j⟩:=p.iy [1] [0];refine LW.cl (iw x (j.rB a) j.st) ?_;rintro _ M ⟨rfl,hs⟩;have q:=j.back _ _ hs;refine gb h fun A y h=>?_;obtain ⟨J,k⟩:=q.iy [0] [1];refine LW.cl (iw y (k.rB a) k.st) ?_;rintro _ C ⟨rfl,hs⟩;have s:=k.back _ _ hs;refine gb h fun m o h=>?_;obtain ⟨B,f⟩:=s.iy [0] [1];refine LW.cl (iw o (f.rB a) f.st) ?_;rintro _ G ⟨rfl,hs⟩;have t:=f.back _ _ hs;refine LW.u (iD.build (vs:=[(0,vI z.1),(1,vI A.1),(2,vI m.1)]) (cs:=#[vI z.1,vI A.1,vI m.1]) rfl (by kernel_rfl)) rfl ?_;refine LW.st t 1 fun H l=>?_;refine go ?_;replace h:=oi h;subst h;exact And.intro trivial ⟨_,jB.one (ic.b l 1 rfl kt rfl rfl),rfl,l.pk [0]⟩
theorem Cs {w0 N a b r} (h:qy N a b=some r) {n ae I} (au:ae=a.label.levels.length) (aG:rb w0 n I a.label.levels) {p af J} (av:af=a.own.length) (aH:rb w0 p J a.own) {q ah K} (aw:ah=a.tree.length) (aI:rb w0 q K a.tree) {s ai L} (ax:ai=a.heap.ag.length) (aJ:rb w0 s L a.heap.ag) {t aj M} (ay:aj=a.heap.gc.ia.length) (aK:rb w0 t M a.heap.gc.ia) {y ak O} (az:ak=a.ij.length) (aL:rb w0 y O a.ij) {z am R} (aA:am=b.label.levels.length) (aM:rb w0 z R b.label.levels) {A an U} (aB:an=b.own.length) (aN:rb w0 A U b.own) {B ao V} (aC:ao=b.tree.length) (aO:rb w0 B V b.tree) {C ap W} (aD:ap=b.heap.ag.length) (aP:rb w0 C W b.heap.ag) {G aq X} (aE:aq=b.heap.gc.ia.length) (aQ:rb w0 G X b.heap.gc.ia) {H ar Y} (aF:ar=b.ij.length) (aR:rb w0 H Y b.ij) :
    iq Tryz.prog 62 #[.agg #[vS n ae I,vS p af J,vS q ah K,vS s ai L,vI a.heap.gc.phase,vI a.heap.gc.pos,vI a.heap.gc.round,vS t aj M,vS y ak O,vI a.next,vI a.want,vI a.gE.bh,vI a.gE.ib,vI a.gE.ik,vI a.iH,vI a.lost],.agg #[vS z am R,vS A an U,vS B ao V,vS C ap W,vI b.heap.gc.phase,vI b.heap.gc.pos,vI b.heap.gc.round,vS G aq X,vS H ar Y,vI b.next,vI b.want,vI b.gE.bh,vI b.gE.ib,vI b.gE.ik,vI b.iH,vI b.lost]] w0 (fun v w=>v=.bool r∧St w0 [] w []):=by
 subst au av aw ax ay az aA aB aC aD aE aF;unfold qy at h;refine iq.fn Tryz.func62 fun e=>?_;have bj:=St.start w0;refine go ?_;refine LW.bo bj fun cb ce bk=>?_;refine LW.bo bk fun cc cf k=>?_;refine gs ?_;obtain ⟨bJ,bm,bz⟩:=ob h;refine CW.jn [2,3] [0,1] [(75,.bool bJ)] k (h1:=?_) (h2:=?_)
 · have h:=bm;refine gb h fun ci bn h=>?_;refine LW.c0 (wX bn rfl (k.rB aG) rfl (k.rB aM)) k fun cg l=>?_;refine gB h ?_ ?_ <;> intro _ h
   · refine go ?_;cases oi h;exact l.po [0,1]
   refine gb h fun b8 bb h=>?_;refine go ?_;refine LW.c0 (yf bb rfl (l.rB aH) rfl (l.rB aN)) l fun bW d=>?_;refine gB h ?_ ?_ <;> intro _ h
   · refine go ?_;cases oi h;exact d.po [0,1]
   refine go ?_;refine bH h ?_ ?_ <;> intro _ h
   · refine go ?_;cases oi h;exact d.po [0,1]
   refine gB h ?_ ?_ <;> intro _ h
   · refine go ?_;cases oi h;exact d.po [0,1]
   refine gB h ?_ ?_ <;> intro _ h
   · refine go ?_;cases oi h;exact d.po [0,1]
   refine go ?_;refine bH h ?_ ?_ <;> intro _ h
   · refine go ?_;cases oi h;exact d.po [0,1]
   refine go ?_;refine LW.u (iD.CN Kl rfl rfl (fun w=>JW a.gE b.gE w)) rfl ?_;refine gB h ?_ ?_ <;> intro _ h
   · refine go ?_;cases oi h;exact d.po [0,1]
   refine gB h ?_ ?_ <;> intro _ h
   · refine go ?_;cases oi h;exact d.po [0,1]
   refine go ?_;cases oi h;exact d.po [0,1]
 intro e bX aU;have h:=bz;refine gc h ?_ ?_ <;> intro _ h
 · refine go ?_;cases h;exact fi aU
 refine go ?_;obtain ⟨aW,a9,aS⟩:=ob h;refine CW.mono (CW.lx [2,3] [0,1] [2,3] 0 (fun aY=>[(5,vI aY)]) (RT Tryz.prog Tryz.f62.results (fun u=>.bool u) w0 []) aU a9 (hb:=?_)) ?_
 · intro aY e bY o aV h;refine gc h ?_ ?_ <;> intro _ h
   · refine go ?_;refine CW.draw (by kernel_rfl) ?_;have m:=aV.drew;refine gb h fun bp bc h=>?_;obtain ⟨bK,bQ,bt,rfl,aa,bA,bE,rfl,a5⟩:=aI.idx bc;refine go ?_;refine AW.take (i:=4) rfl (by kernel_rfl) rfl rfl (iC.jH w0 xY rfl rfl (fun j u hu=>a5 j u hu)) (m.same _ aa.1 aa.2) ?_;refine gb h fun bq bd h=>?_;obtain ⟨bL,bR,bu,rfl,ab,bB,bF,rfl,a6⟩:=aO.idx bd;refine go ?_;refine AW.take (i:=9) rfl (by kernel_rfl) rfl rfl (iC.jH w0 xY rfl rfl (fun j u hu=>a6 j u hu)) (m.same _ ab.1 ab.2) ?_;refine AW.u (i:=10) rfl (by kernel_rfl) rfl rfl (iD.CN E9 rfl rfl (fun w=>FK bp bq w)) ?_;refine gc h ?_ ?_ <;> intro _ h
     · refine go ?_;cases oi h;exact ⟨trivial,rfl,_,rfl,rx ⟨rfl,m.pk []⟩⟩
     refine go ?_;cases oi h;exact ⟨rfl,(m.po [0,1])⟩
   refine go ?_;cases oi h;exact ⟨trivial,rfl,(aV.po [0,1])⟩
 intro x e bZ hM;rcases aW with aW | bV
 · obtain ⟨rfl,hM⟩:=hM;obtain ⟨e,rfl,bl⟩:=eo hM;have h:=aS;refine go ?_;obtain ⟨aX,ba,aT⟩:=ob h;refine CW.mono (CW.lx [2,3] [0,1] [2,3] 2 (fun aZ=>[(6,vI aZ)]) (RT Tryz.prog Tryz.f62.results (fun u=>.bool u) w0 []) bl ba (hb:=?_)) ?_
   · intro aZ e b0 o Z h;refine gc h ?_ ?_ <;> intro _ h
     · refine go ?_;refine CW.draw (by kernel_rfl) ?_;have f:=Z.drew;refine gb h fun br be h=>?_;obtain ⟨bM,bS,bv,rfl,ac,bC,bG,rfl,a7⟩:=aL.idx be;refine go ?_;refine AW.take (i:=4) rfl (by kernel_rfl) rfl rfl (iC.jH w0 wH rfl rfl (fun j u hu=>a7 j u hu)) (f.same _ ac.1 ac.2) ?_;refine gb h fun bs bf h=>?_;obtain ⟨bN,bT,bw,rfl,ad,bD,bI,rfl,a8⟩:=aR.idx bf;refine go ?_;refine AW.take (i:=9) rfl (by kernel_rfl) rfl rfl (iC.jH w0 wH rfl rfl (fun j u hu=>a8 j u hu)) (f.same _ ad.1 ad.2) ?_;refine AW.u (i:=10) rfl (by kernel_rfl) rfl rfl (iD.CN Ld rfl rfl (fun w=>KM br bs w)) ?_;refine gc h ?_ ?_ <;> intro _ h
       · refine go ?_;cases oi h;exact ⟨trivial,rfl,_,rfl,rx ⟨rfl,f.pk []⟩⟩
       refine go ?_;cases oi h;exact ⟨rfl,(f.po [0,1])⟩
     refine go ?_;cases oi h;exact ⟨trivial,rfl,(Z.po [0,1])⟩
   intro x e b1 hM;rcases aX with aX | bU
   · obtain ⟨rfl,hM⟩:=hM;obtain ⟨e,rfl,a0⟩:=eo hM;have h:=aT;refine go ?_;refine LW.al a0 fun bO b2 a1=>?_;refine LW.st a1 0 fun b3 a2=>?_;refine go ?_;refine LW.al a2 fun bP b4 a3=>?_;refine LW.st a3 0 fun b5 g=>?_;refine gb h fun b9 bg h=>?_;refine LW.c0 (Bz bg rfl (g.rB aJ) rfl (g.rB aP)) g fun b6 c=>?_;refine gB h ?_ ?_ <;> intro _ h
     · refine go ?_;refine bH h ?_ ?_ <;> intro _ h
       · refine gB h ?_ ?_ <;> intro _ h
         · refine gB h ?_ ?_ <;> intro _ h
           · refine gb h fun ca bi h=>?_;refine go ?_;refine LW.c0 (yf bi rfl (c.rB aK) rfl (c.rB aQ)) c fun b7 a4=>?_;refine go ?_;cases h;exact fi a4
           refine go ?_;cases h;exact fi c
         refine go ?_;cases h;exact fi c
       refine go ?_;cases h;exact fi c
     refine go ?_;cases h;exact fi c
   obtain ⟨rfl,u,rfl,hM⟩:=hM;cases aT;exact And.intro trivial hM
 obtain ⟨rfl,u,rfl,hM⟩:=hM;cases aS;exact And.intro trivial hM
theorem yk {w0} {F:List Nat} {N q r} (h:pH N q=some r) {A:Nat} {c d} (a:jf (jX w0 F) w0 c d q.b) (hS:St w0 F w0 [bx A 148 [vS c q.b.length d,vI q.i,vI q.h]]) :
    iq Tryz.prog 279 #[.pointer (some ⟨A,0,none⟩)] w0 (fun v w=>∃ k m, ∃ l n,v=.agg #[vS k r.1.label.levels.length m,vS l r.1.own.length n,vI r.1.j9.bh,vI r.1.j9.ib,vI r.1.j9.ik]∧St w0 F w [sl k m r.1.label.levels,sl l n r.1.own,bx A 148 [vS c q.b.length d,vI r.2.i,vI r.2.h]]):=by
 unfold pH at h;refine iq.fn Tryz.func279 fun e=>?_;refine go ?_;refine LW.al hS fun ac ad G=>?_;refine gb h fun R M h=>?_;obtain ⟨ab,s⟩:=G.iy [1] [0];refine LW.cl (vC M (s.rB a) s.st) ?_;rintro _ ae ⟨y,z,rfl,hs⟩;have H:=s.back _ _ hs;refine gb h fun t O h=>?_;obtain ⟨U,f⟩:=H.iy [1] [0,2];refine LW.cl (iw O (f.rB a) f.st) ?_;rintro _ X ⟨rfl,hs⟩;have I:=f.back _ _ hs;refine gb h fun o B h=>?_;obtain ⟨V,g⟩:=I.iy [0] [1,2];refine LW.cl (iw B (g.rB a) g.st) ?_;rintro _ Y ⟨rfl,hs⟩;have J:=g.back _ _ hs;refine gb h fun p C h=>?_;obtain ⟨W,j⟩:=J.iy [0] [1,2];refine LW.cl (iw C (j.rB a) j.st) ?_;rintro _ Z ⟨rfl,hs⟩;have K:=j.back _ _ hs;refine LW.u (iD.build (vs:=[(0,vI t.1),(1,vI o.1),(2,vI p.1)]) (cs:=#[vI t.1,vI o.1,vI p.1]) rfl (by kernel_rfl)) rfl ?_;refine LW.u (iD.build (vs:=[(0,.agg #[vS y R.1.levels.length z]),(2,.agg #[vI t.1,vI o.1,vI p.1])]) (cs:=#[vS y R.1.levels.length z,vS none 0 0,vI t.1,vI o.1,vI p.1]) rfl (by kernel_rfl)) rfl ?_;refine LW.st K 2 fun aa L=>?_;refine go ?_;replace h:=oi h;subst h;have x:=L.nil (α:=Int);exact And.intro trivial ⟨_,jB.one (ic.b x 3 rfl E2 rfl rfl),y,z,none,0,rfl,x.pk [2,0,1]⟩
theorem Hi {w0} {F:List Nat} {N j r} (h:uj N j=some r) {n:Nat} {d f} (c:jf (jX w0 F) w0 d f j.b) (hS:St w0 F w0 [bx n 148 [vS d j.b.length f,vI j.i,vI j.h]]) :
    iq Tryz.prog 223 #[.pointer (some ⟨n,0,none⟩)] w0 (fun v w=>v=vI r.1∧St w0 F w [bx n 148 [vS d j.b.length f,vI r.2.i,vI r.2.h]]):=by
 unfold uj at h;refine iq.fn Tryz.func223 fun e=>?_;refine gb h fun K t h=>?_;obtain ⟨C,k⟩:=hS.iy [0] [];refine LW.cl (kv t (k.rB c) k.st) ?_;rintro _ I ⟨rfl,hs⟩;have m:=k.back _ _ hs;refine gc h ?_ ?_ <;> intro _ h
 · refine go ?_;refine LW.jV (α:=Int) (vs:=[(0,vI (-1)),(1,vI 29999),(2,vI 30000),(3,vI 9223372036854775807)]) (cs:=#[vI (-1),vI 29999,vI 30000,vI 9223372036854775807]) (l:=([-1,29999,30000,9223372036854775807]:List Int)) rfl (by kernel_rfl) rfl rfl rfl (fun w=>⟨[vI (-1)],[vI 29999,vI 30000,vI 9223372036854775807],[],[],rfl,rfl,⟨rfl,rfl⟩,⟨[vI 29999],[vI 30000,vI 9223372036854775807],[],[],rfl,rfl,⟨rfl,rfl⟩,⟨[vI 30000],[vI 9223372036854775807],[],[],rfl,rfl,⟨rfl,rfl⟩,⟨[vI 9223372036854775807],[],[],[],rfl,rfl,⟨rfl,rfl⟩,rfl⟩⟩⟩⟩) m rfl ?_;intro G H J p hf;have ⟨L,u,h⟩:=ob h;obtain ⟨x,a⟩:=p.iy [1] [0];refine LW.cl (jr u (a.rB c) rfl (a.rI 0 rfl) a.st) ?_;rintro _ z ⟨rfl,hs⟩;have q:=a.back _ _ hs;refine go ?_;replace h:=oi h;subst h;exact Ra ⟨rfl,q.pk [0]⟩
 refine gb h fun B o h=>?_;obtain ⟨y,g⟩:=m.iy [0] [];refine LW.cl (iw o (g.rB c) g.st) ?_;rintro _ A ⟨rfl,hs⟩;have s:=g.back _ _ hs;refine go ?_;replace h:=oi h;subst h;exact Ra ⟨rfl,s.pk [0]⟩
end Go.Kx
