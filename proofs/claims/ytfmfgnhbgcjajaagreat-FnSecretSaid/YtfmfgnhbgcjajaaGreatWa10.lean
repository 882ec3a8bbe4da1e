import Derived.Test.YtfmfgnhbgcjajaaGreatWa7
import Derived.Test.YtfmfgnhbgcjajaaGreatWa8
namespace Go.Kx
open Go Go.RowKit Go.Proofs
open Tryz
set_option maxRecDepth 10000
set_option maxHeartbeats 8000000
set_option linter.unusedVariables false
set_option linter.unusedSimpArgs false
theorem Dq{w0 N aN aO r}(h:oK N aN aO=some r){J af U}(aq:af=aN.length)(C:rb w0 J U aN):
    di prog 250 #[vS J af U,vI aO] w0 (fun v w=>∃ay az,v=.tuple #[vS ay r.1.length az,.bool r.2]/\St w0 [] w [sl ay az r.1]):=by
 subst aq;unfold oK at h;refine di.fS func250 fun e _=>?_;refine T ?_;intro aP _ h _ g _ aR;obtain⟨a1,aW,a0⟩:=ob h;refine CW.jn [0,1,6] [0] [(26,.bool a1)] aR (h1:=?_) (h2:=?_)
 · have h:=aW;refine T ?_;intro _ _ h _ _;refine bH h ?_ ?_<;>intro _ h
   · exact rt
   refine T ?_;intro _ _ h _ _;refine bH h ?_ ?_<;>intro _ h
   · exact rt
   refine gb h fun _ aL h=>?_;obtain⟨_,_,_,rfl,_,_,_,⟨_,_,_,_,_,_,rfl,_,_,_⟩,_⟩:=C.idx aL;refine go ?_;refine T ?_;exact rt
 intro e _ aA;have h:=a0;refine gc h ?_ ?_<;>intro _ h
 · exact rt
 refine gb h fun ai aM h=>?_;obtain⟨_,_,_,rfl,_,_,_,⟨_,_,_,_,_,_,rfl,_,_,_⟩,_⟩:=C.idx aM;refine go ?_;refine T ?_;refine LW.bd [(0,vI ai.RG)] #[vI ai.RG,vI 0,vI 0,vI 0,vI 0,vI 0,vI 0,vI 0,vI 0,.bool false,vS none 0 0,vS none 0 0,vS none 0 0] ?_;have⟨aX,ac,h⟩:=ob h;obtain⟨f,d,rfl,_,_⟩:=aA.dA (α:=c6) (i:=0) rfl ac;refine go ?_;have aS:=aA.nil (α:=Int);have aT:=aS.nil (α:=Int);have aU:=aT.nil (α:=eL);have aV:=aU.pk (M:=[sl none 0 [],sl none 0 [],sl none 0 []]++[sl (some ⟨f,d,none⟩) g aP]) [2,1,0,3];have⟨aY,ad,h⟩:=ob h;refine LW.uR (M:=[sl none 0 [],sl none 0 [],sl none 0 []]) (L:=[sl (some ⟨f,d,none⟩) g aP]) (z:=aX) (z':=(c6.mk ai.RG 0 0 0 0 0 0 0 0 false [] [] [])) (o:=0) aV (i:=0) rfl ac wS rfl (by show _=d+(aO:Int).toNat*13+0;omega) rfl rfl rfl rfl (whole (fun w G hG=>⟨none,0,none,0,none,0,rfl,hG⟩)) ?_;intro _ q hf;rw[oi ad]at q;refine go ?_;obtain⟨_,aw,aD⟩:=ob h;refine CW.i0 aw 0 [1] [] (fun k=>[(6,vS (some ⟨f,d,none⟩) k.1.length g),(7,vI k.2)]) (fun k=>[sl (some ⟨f,d,none⟩) g k.1]) q ?_ ?_ ?_
 · exact⟨⟨rfl,(show(vS (some ⟨f,d,none⟩) aP.length g:Value)=vS (some ⟨f,d,none⟩) aY.length g by rw[dx (oi ad)]),rfl,trivial⟩,q.pk [0]⟩
 · intro k e _ o Y h;refine gf [1,6,7,40] fun e=>?_;refine gc h ?_ ?_<;>intro _ h
   · refine gb h fun _ x h=>?_;obtain⟨_,_,l,_,_⟩:=Y.dA (α:=c6) (i:=0) rfl x;cases l;refine go ?_;obtain⟨_,p,m⟩:=Y.freeze (α:=c6) 0 rfl;obtain⟨_,_,_,l,_,_,_,aJ,_⟩:=p.fe.idx x;cases l;obtain⟨_,_,_,_,_,_,rfl,_,_,_⟩:=aJ;refine T ?_;refine gc h ?_ ?_<;>intro _ h
     · refine go ?_;have:=m.dZ (α:=c6) 0 rfl p;exact rt
     refine go ?_;refine T ?_;obtain⟨aB,aK,aQ⟩:=ob h;refine CW.j0 [1,7] [] [(6,vS (some ⟨f,d,none⟩) aB.length g)] [sl (some ⟨f,d,none⟩) g aB] m ?_ ?_
     · have h:=aK;refine CW.fl [1,6,7,55] fun e=>?_;refine gc h ?_ ?_<;>intro _ h
       · refine go ?_;have aE:=m.dZ (α:=c6) 0 rfl p;have⟨aZ,ae,h⟩:=ob h;refine LW.se 2 aE 0 x ae (hM:=(fK (fun w cs F hF=>by obtain⟨a2,a5,a3,a6,a4,a7,rfl,hH⟩:=hF;exact⟨a2,a5,a3,a6,a4,a7,rfl,hH⟩))) fun _ aF=>?_;refine go ?_;replace h:=oi h;subst h;exact⟨⟨rfl,rfl,(show(vS (some ⟨f,d,none⟩) k.1.length g:Value)=vS (some ⟨f,d,none⟩) aZ.length g by rw[dx (oi ae)]),trivial⟩,aF.pk [0]⟩
       refine go ?_;have:=m.dZ (α:=c6) 0 rfl p;exact rt
     intro e _ Z;have h:=aQ;refine go ?_;obtain⟨_,av,aC⟩:=ob h;refine CW.i0 av 2 [1,7] [] (fun j=>[(6,vS (some ⟨f,d,none⟩) j.1.length g),(8,vI j.2)]) (fun j=>[sl (some ⟨f,d,none⟩) g j.1]) Z ?_ ?_ ?_
     · exact Z.po [0]
     · intro j e _ o aa h;refine gf [1,6,7,8,61] fun e=>?_;refine gc h ?_ ?_<;>intro _ h
       · refine gb h fun b A h=>?_;obtain⟨_,_,l,_,_⟩:=aa.dA (α:=c6) (i:=0) rfl A;cases l;refine go ?_;obtain⟨_,n,u⟩:=aa.freeze (α:=c6) 0 rfl;obtain⟨_,_,_,l,ak,_,_,an,ap⟩:=n.fe.idx A;cases l;obtain⟨_,V,K,W,O,X,rfl,ax,_,_⟩:=an;refine T ?_;have⟨_,H,h⟩:=ob h;obtain⟨R,ah,_,rfl,_,_,_,rfl,_⟩:=ax.idx H;refine go ?_;refine T ?_;refine CW.fl [1,6,7,8,73] fun e=>?_;refine gc h ?_ ?_<;>intro _ h
         · refine go ?_;refine T ?_;refine go ?_;have ar:=u.mU 0 ak ap;have aG:=u.dZ (α:=c6) 0 rfl n;obtain⟨_,au,ao⟩:=aG.mZ 0 A ar;obtain⟨_,_,_,_,_,_,am,aj⟩:=au;cases am;have aH:=ao [sl (some ⟨R,ah,none⟩) V b.dk,sl K W b.Rw,sl O X b.Rs] aj;have⟨B,I,h⟩:=ob h;refine LW.se 0 aH 0 H I (hM:=ti) fun _ ab=>?_;refine go ?_;replace h:=oi h;subst h;rw[dx (oi I)]at ab;have aI:=ab.mb (c6.mk b.RG b.Rq b.box b.RF b.dY b.cd b.Ry b.ee b.ed b.mark B b.Rw b.Rs) [0,1,2,3] 3 0 rfl rfl (fun w G hG=>⟨(some ⟨R,ah,none⟩),V,K,W,O,X,rfl,hG⟩);exact⟨rfl,⟨⟨rfl,rfl,(show(vS (some ⟨f,d,none⟩) j.1.length g:Value)=vS (some ⟨f,d,none⟩) ((j.1.set (k.2:Int).toNat (c6.mk b.RG b.Rq b.box b.RF b.dY b.cd b.Ry b.ee b.ed b.mark B b.Rw b.Rs)).length) g by rw[show j.1.length=(j.1.set (k.2:Int).toNat (c6.mk b.RG b.Rq b.box b.RF b.dY b.cd b.Ry b.ee b.ed b.mark B b.Rw b.Rs)).length from(dx rfl)]),rfl,trivial⟩,aI.pk [0]⟩⟩
         refine go ?_;have:=u.dZ (α:=c6) 0 rfl n;exact rt
       exact rt
     intro e _ _;have h:=aC;exact rt
   exact rt
 intro e _ _;have h:=aD;exact rt
instance k_250:Ct prog 250:={h:=@Dq}
theorem Ab{w0}{F:List Nat}{N f C r}(h:mz N f C=some r){ay:Nat}{G K}(R:dX (eJ w0 F) w0 G K f.Rn.Rp.Ro){H L}(U:dX (eJ w0 F) w0 H L f.Rn.own){x z X k I M}(V:dX (eJ w0 F) w0 I M f.Rn.py.gc.da){J O}(W:dX (eJ w0 F) w0 J O f.Rn.db)(hS:St w0 F w0 [bx ay 183 [vS G f.Rn.Rp.Ro.length K,vS H f.Rn.own.length L,vS x f.Rn.Rr.length z,vS X f.Rn.py.ag.length k,vI f.Rn.py.gc.Ru,vI f.Rn.py.gc.RD,vI f.Rn.py.gc.Rv,vS I f.Rn.py.gc.da.length M,vS J f.Rn.db.length O,vI f.Rn.RA,vI f.Rn.Rz,vI f.Rn.dc.cd,vI f.Rn.dc.dg,vI f.Rn.dc.dn,vI f.Rn.du,vI f.Rn.Rx,vI f.me,vI f.RB,vI f.dS],sl x z f.Rn.Rr,sl X k f.Rn.py.ag]):
    di prog 205 #[.pointer (some ⟨ay,0,none⟩),.agg (uL C)] w0 (fun v w=>∃aa ad ab ae,v=vI r.1/\St w0 F w [bx ay 183 [vS G f.Rn.Rp.Ro.length K,vS H f.Rn.own.length L,vS aa r.2.Rn.Rr.length ad,vS ab r.2.Rn.py.ag.length ae,vI r.2.Rn.py.gc.Ru,vI r.2.Rn.py.gc.RD,vI r.2.Rn.py.gc.Rv,vS I f.Rn.py.gc.da.length M,vS J f.Rn.db.length O,vI r.2.Rn.RA,vI r.2.Rn.Rz,vI r.2.Rn.dc.cd,vI r.2.Rn.dc.dg,vI r.2.Rn.dc.dn,vI r.2.Rn.du,vI r.2.Rn.Rx,vI r.2.me,vI r.2.RB,vI r.2.dS],sl aa ad r.2.Rn.Rr,sl ab ae r.2.Rn.py.ag]):=by
 unfold mz at h;refine di.fn func205 fun e=>?_;refine we hS fun _ _ aM=>?_;refine gb h fun n aP h=>?_;obtain⟨_,o⟩:=aM.lF [1] [0,2,3];refine LW.cl (pB aP (o.rB R) (o.rB U) (o.rI 1 rfl) (o.rI 2 rfl) (o.rB V) (o.rB W) o.st) ?_;rintro _ _ ⟨rfl,hs⟩;have af:=o.back _ _ hs;refine gf [0,3,5,6,16] fun e=>?_;refine gc h ?_ ?_<;>intro _ h
 · refine go ?_;replace h:=oi h;subst h;exact Ra ⟨x,z,X,k,rfl,af.pk [0,2,3]⟩
 refine go ?_;refine LW.u (dL.nc rfl) rfl ?_;refine gb h fun aS ah h=>?_;obtain⟨ac,ai,rfl,_,_⟩:=af.dA (α:=c6) (i:=3) rfl ah;refine gs ?_;obtain⟨aQ,aG,aL⟩:=ob h;refine CW.jn [0,3,7] [0,1,2,3] [(43,.bool aQ)] af (h1:=?_) (h2:=?_)
 · have h:=aG;refine dW ?_;have au:=af.drew;refine gB h ?_ ?_<;>intro aC h
   · refine go ?_;cases oi h;exact au.po [0,1,2,3]
   refine gb h fun _ aI h=>?_;refine jO 5 ?_;refine(LW.gY (jd rfl rfl aC) ?_);refine LW.cl (kR aI) ?_;rintro _ aR ⟨rfl,hs⟩;have av:=au.add hs;refine jn ?_;refine gB h ?_ ?_<;>intro aD h
   · refine go ?_;cases oi h;exact av.po [0,1,2,3]
   refine go ?_;obtain⟨_,ao,aw⟩:=av.freeze (α:=c6) 3 rfl;obtain⟨_,_,_,an,aB,_,_,aE,aH⟩:=ao.fe.idx ah;cases an;obtain⟨_,_,_,_,_,_,rfl,_,_,_⟩:=aE;refine AW.take (i:=12) rfl (by kernel_rfl) (jd rfl rfl aD) rfl (fv.iu aR jR rfl (aH 4 _ rfl)) (aw.zC 3 rfl aB) ?_;refine go ?_;have aN:=aw.dZ (α:=c6) 3 rfl ao;cases oi h;exact aN.po [0,1,2,3]
 intro e aj ax;have h:=aL;refine gc h ?_ ?_<;>intro _ h
 · refine go ?_;replace h:=oi h;subst h;exact Ra ⟨x,z,(some ⟨ac,ai,none⟩),k,rfl,ax.pk [0,2,3]⟩
 refine fA ?_;have aO:=ax.drew;refine AW.u  (i:=0) rfl (by kernel_rfl) rfl rfl (dL.p rfl) ?_;refine AW.u  (i:=1) rfl (by kernel_rfl) rfl rfl (dL.p rfl) ?_;refine AW.u  (i:=2) rfl (by kernel_rfl) rfl rfl (dL.nc rfl) ?_;refine AW.u  (i:=3) rfl (by kernel_rfl) rfl rfl (dL.fa NJ rfl) ?_;refine AW.u  (i:=5) rfl (by kernel_rfl) rfl rfl (dL.p rfl) ?_;refine AW.u  (i:=6) rfl (by kernel_rfl) rfl rfl (dL.nc rfl) ?_;refine AW.u  (i:=7) rfl (by kernel_rfl) rfl rfl (dL.fa OE rfl) ?_;obtain⟨_,B,g⟩:=aO.freeze (α:=c6) 3 rfl;obtain⟨_,_,_,an,j,_,_,aF,Z⟩:=B.fe.idx ah;cases an;obtain⟨_,_,_,_,_,_,rfl,_,_,_⟩:=aF;refine AW.take  (i:=8) rfl (by kernel_rfl) rfl rfl (fv.iu aj.drew jR rfl (Z 3 _ rfl)) (g.zC 3 rfl j) ?_;refine AW.u  (i:=10) rfl (by kernel_rfl) rfl rfl (dL.p rfl) ?_;refine AW.u  (i:=11) rfl (by kernel_rfl) rfl rfl (dL.nc rfl) ?_;refine AW.u  (i:=12) rfl (by kernel_rfl) rfl rfl (dL.fa OI rfl) ?_;refine AW.take  (i:=13) rfl (by kernel_rfl) rfl rfl (fv.iu aj.drew jR rfl (Z 5 _ rfl)) (g.zC 3 rfl j) ?_;refine AW.u  (i:=14) rfl (by kernel_rfl) rfl rfl (dL.fa PK rfl) ?_;refine AW.take  (i:=15) rfl (by kernel_rfl) rfl rfl (fv.box (bt:=63) (fr:=(0,0)) (cs:=[vI C.Rq,vI C.a,vI C.b,vI C.c,vI C.d,vI C.e]) jR rfl rfl) (g.ce 1) ?_;refine AW.u  (i:=16) rfl (by kernel_rfl) rfl rfl (dL.p rfl) ?_;refine AW.u  (i:=17) rfl (by kernel_rfl) rfl rfl (dL.build (vs:=[(1,vI (IntKind.i64.wrap (aS.cd*C.b)))]) (cs:=#[vI 0,vI (IntKind.i64.wrap (aS.cd*C.b)),vI 0]) rfl (by kernel_rfl)) ?_;refine jO 4 ?_;refine LW.l (fv.LI (bt:=183) (fr:=(0,0)) (cs:=[vS G f.Rn.Rp.Ro.length K,vS H f.Rn.own.length L,vS x f.Rn.Rr.length z,vS (some ⟨ac,ai,none⟩) f.Rn.py.ag.length k,vI n.2.2.Rn.py.gc.Ru,vI n.2.2.Rn.py.gc.RD,vI n.2.2.Rn.py.gc.Rv,vS I f.Rn.py.gc.da.length M,vS J f.Rn.db.length O,vI n.2.2.Rn.RA,vI n.2.2.Rn.Rz,vI n.2.2.Rn.dc.cd,vI n.2.2.Rn.dc.dg,vI n.2.2.Rn.dc.dn,vI n.2.2.Rn.du,vI n.2.2.Rn.Rx,vI n.2.2.me,vI n.2.2.RB,vI n.2.2.dS]) iE rfl rfl) (g.ce 0) rfl ?_;refine jN (.c (g.ce 1) (.c (g.zC 3 rfl j) (.c (g.zC 3 rfl j) jZ))) ?_;have⟨_,aJ,h⟩:=ob h;have q:=Cm (w0:=aj.drew) aJ rfl (g.rB R) rfl (g.rB U) rfl (g.rI 2 rfl) rfl (g.rZ 3 rfl B.fe) rfl (g.rB V) rfl (g.rB W)
 refine jO 9 ?_;refine LW.call Qf rfl rfl ?_;refine di.mono q ?_;rintro _ _ ⟨rfl,hs⟩;have Y:=g.add hs;refine jN (.c (Y.ce 1) (.c (Y.zC 3 rfl j) (jW jZ))) ?_;have⟨_,aK,h⟩:=ob h;obtain⟨_,m⟩:=Y.lF [0,2] [1,3];refine jO 18 ?_;refine LW.cl (w5 aK (m.rB R) (m.rB U) (m.rZ 1 rfl B.fe) (m.rB V) (m.rB W) m.st) ?_;rintro _ _ ⟨aq,ar,rfl,hs⟩;have A:=m.back _ _ hs;refine jN (.c (A.ce 2) (.c (A.zC 3 rfl j) (.c (A.zC 3 rfl j) jZ))) ?_;refine AW.u  (i:=19) rfl (by kernel_rfl) rfl rfl (dL.p rfl) ?_;refine gc h ?_ ?_<;>intro _ h
 · refine go ?_;replace h:=oi h;subst h;have az:=A.dZ (α:=c6) 3 rfl B;exact Ra ⟨aq,ar,(some ⟨ac,ai,none⟩),k,rfl,az.pk [0,1,3]⟩
 refine fA ?_;have ak:=A.drew;refine go ?_;refine AW.tk 3 rfl (fv.iu aj.drew jR rfl (Z 4 _ rfl)) (ak.zC 3 rfl j) ?_;refine go ?_;have aA:=ak.dZ (α:=c6) 3 rfl B;have⟨_,ap,h⟩:=ob h;refine jO 9 ?_;refine LW.se 4 aA 3 ah ap (hM:=(fK (fun w cs F hF=>by obtain⟨aT,aW,aU,aX,aV,aY,rfl,hH⟩:=hF;exact⟨aT,aW,aU,aX,aV,aY,rfl,hH⟩))) fun _ am=>?_;refine jn ?_;refine go ?_;replace h:=oi h;subst h;rw[dx (oi ap)]at am;exact Ra ⟨aq,ar,(some ⟨ac,ai,none⟩),k,rfl,am.pk [0,1,3]⟩
instance k_205:Ct prog 205:={h:=@Ab}
theorem Bl{w0}{F:List Nat}{N b aA r}(h:lB N b aA=some r){af:Nat}{j p}(aB:dX (eJ w0 F) w0 j p b.Rn.Rp.Ro){k q}(aC:dX (eJ w0 F) w0 k q b.Rn.own){l x}(aD:dX (eJ w0 F) w0 l x b.Rn.Rr){m f n z}(aE:dX (eJ w0 F) w0 n z b.Rn.py.gc.da){o A}(aF:dX (eJ w0 F) w0 o A b.Rn.db)(hS:St w0 F w0 [bx af 183 [vS j b.Rn.Rp.Ro.length p,vS k b.Rn.own.length q,vS l b.Rn.Rr.length x,vS m b.Rn.py.ag.length f,vI b.Rn.py.gc.Ru,vI b.Rn.py.gc.RD,vI b.Rn.py.gc.Rv,vS n b.Rn.py.gc.da.length z,vS o b.Rn.db.length A,vI b.Rn.RA,vI b.Rn.Rz,vI b.Rn.dc.cd,vI b.Rn.dc.dg,vI b.Rn.dc.dn,vI b.Rn.du,vI b.Rn.Rx,vI b.me,vI b.RB,vI b.dS],sl m f b.Rn.py.ag]):
    di prog 165 #[.pointer (some ⟨af,0,none⟩),.agg (uL aA)] w0 (fun v w=>∃B H,v=.tuple #[vI r.1,vI r.2.1]/\St w0 F w [bx af 183 [vS j b.Rn.Rp.Ro.length p,vS k b.Rn.own.length q,vS l b.Rn.Rr.length x,vS B r.2.2.Rn.py.ag.length H,vI r.2.2.Rn.py.gc.Ru,vI r.2.2.Rn.py.gc.RD,vI r.2.2.Rn.py.gc.Rv,vS n b.Rn.py.gc.da.length z,vS o b.Rn.db.length A,vI r.2.2.Rn.RA,vI r.2.2.Rn.Rz,vI r.2.2.Rn.dc.cd,vI r.2.2.Rn.dc.dg,vI r.2.2.Rn.dc.dn,vI r.2.2.Rn.du,vI r.2.2.Rn.Rx,vI r.2.2.me,vI r.2.2.RB,vI r.2.2.dS],sl B H r.2.2.Rn.py.ag]):=by
 unfold lB at h;refine di.fn func165 fun e=>?_;refine T ?_;intro _ _ _ aG _ h _ L;refine CW.fl [0,3,6,7,17] fun e=>?_;refine gc h ?_ ?_<;>intro _ h
 · refine go ?_;replace h:=oi h;subst h;exact Rc tt tt ⟨m,f,rfl,L.pk [0,2]⟩
 refine go ?_;refine LW.u (dL.nc rfl) rfl ?_;refine gb h fun d V h=>?_;obtain⟨C,I,rfl,_,_⟩:=L.dA (α:=c6) (i:=2) rfl V;refine go ?_;obtain⟨_,g,_⟩:=L.freeze (α:=c6) 2 rfl;obtain⟨_,_,_,az,ak,_,_,an,ap⟩:=g.fe.idx V;cases az;obtain⟨W,Z,_,aa,X,ab,rfl,_,O,_⟩:=an;refine T ?_;intro _ _ h _ ac;refine CW.fl [0,3,8,35] fun e=>?_;refine gc h ?_ ?_<;>intro _ h
 · refine go ?_;replace h:=oi h;subst h;have av:=ac.dZ (α:=c6) 2 rfl g;exact Rc tt tt ⟨(some ⟨C,I,none⟩),f,rfl,av.pk [0,2]⟩
 refine gc h ?_ ?_<;>intro _ h
 · refine fA ?_;have aw:=ac.drew;refine gb h fun _ au h=>?_;obtain⟨_,_,_,rfl,_,_,_,rfl,_⟩:=O.idx au;refine go ?_;refine T ?_;replace h:=oi h;subst h;have ax:=aw.dZ (α:=c6) 2 rfl g;exact Rc tt tt ⟨(some ⟨C,I,none⟩),f,rfl,ax.pk [0,2]⟩
 refine T ?_;intro _ _ h _ M;refine gc h ?_ ?_<;>intro _ h
 · refine go ?_;replace h:=oi h;subst h;have ay:=M.dZ (α:=c6) 2 rfl g;exact Rc tt tt ⟨(some ⟨C,I,none⟩),f,rfl,ay.pk [0,2]⟩
 refine gb h fun _ R h=>?_;obtain⟨Y,ad,_,rfl,_,_,_,rfl,_⟩:=O.idx R;refine go ?_;have aq:=M.mU 2 ak ap;have ai:=M.dZ (α:=c6) 2 rfl g;obtain⟨_,ar,ao⟩:=ai.mZ 2 V aq;obtain⟨_,_,_,_,_,_,am,ah⟩:=ar;cases am;have aj:=ao [sl W Z d.dk,sl (some ⟨Y,ad,none⟩) aa d.Rw,sl X ab d.Rs] ah;have⟨ae,U,h⟩:=ob h;refine LW.se 0 aj 1 R U (hM:=ti) fun _ J=>?_;refine go ?_;replace h:=oi h;subst h;rw[dx (oi U)]at J;have K:=J.mb (c6.mk d.RG d.Rq d.box d.RF d.dY d.cd d.Ry d.ee d.ed d.mark d.dk ae d.Rs) [0,1,2,3,4,5] 3 2 rfl rfl (fun w G hG=>⟨W,Z,(some ⟨Y,ad,none⟩),aa,X,ab,rfl,hG⟩)
 rw[show b.Rn.py.ag.length=(b.Rn.py.ag.set (aG.1:Int).toNat (c6.mk d.RG d.Rq d.box d.RF d.dY d.cd d.Ry d.ee d.ed d.mark d.dk ae d.Rs)).length from(dx rfl)]at K;exact Rc tt tt ⟨(some ⟨C,I,none⟩),f,rfl,K.pk [0,2]⟩
instance k_165:Ct prog 165:={h:=@Bl}
theorem GG{w0}{F:List Nat}{N b aC aD aE r}(h:re N b aC aD aE=some r){k ac o}(aj:ac=b.Rp.Ro.length){l ad p}(ak:ad=b.own.length){m ae q}(am:ae=b.Rr.length){z af B}(an:af=b.py.ag.length){A ah C}(ao:ah=b.py.gc.da.length){n ai u}(ap:ai=b.db.length)(hS:St w0 F w0 [sl k o b.Rp.Ro,sl l p b.own,sl m q b.Rr,sl z B b.py.ag,sl A C b.py.gc.da,sl n u b.db]):
    di prog 228 #[.agg (uP k ac o l ad p m ae q z af B A ah C n ai u b),vI aC,vI aD,.agg (uL aE)] w0 (fun v w=>∃G M H O I R J U K V L W,v=.tuple #[.agg (uP G r.1.Rp.Ro.length M H r.1.own.length O I r.1.Rr.length R J r.1.py.ag.length U K r.1.py.gc.da.length V L r.1.db.length W r.1),.agg #[vI r.2.code,vI r.2.RI]]/\St w0 F w [sl G M r.1.Rp.Ro,sl H O r.1.own,sl I R r.1.Rr,sl J U r.1.py.ag,sl K V r.1.py.gc.da,sl L W r.1.db]):=by
 subst aj ak am an ao ap;unfold re at h;refine di.fn func228 fun e=>?_;refine T ?_;intro au _ _ _ _ _ ay _ _ az _ _ ax _ h _ _;refine CW.fl [1,2,4,7,8,9,10,11,25] fun e=>?_;refine gc h ?_ ?_<;>intro _ h
 · refine fm [(0,vI ax.2)] #[vI ax.2,vI 0] ?_;exact wk
 refine gc h ?_ ?_<;>intro _ h
 · refine fm [(0,vI 5)] #[vI 5,vI 0] ?_;exact wk
 refine gs ?_;refine CW.region ?_;refine gs ?_;refine CW.region ?_;refine gs ?_;obtain⟨aB,av,aq⟩:=ob h;refine CW.cut (fun e wb=>∃ab,aB=.inl ab/\En e [(4,.pointer (some ⟨au,0,none⟩)),(8,.pointer (some ⟨ay,0,none⟩)),(9,.pointer (some ⟨az,0,none⟩)),(10,vI ax.1),(12,vI ab)]/\St w0 F wb [bx az 78 [vI 0,vI 0],bx ay 54 [vS none 0 0,vS none 0 0,vS none 0 0,vS none 0 0,vI 0,vI 0,vI 0,vS none 0 0,vS none 0 0,vI 0,vI 0,vI 0,vI 0,vI 0,vI 0,vI 0],bx au 54 [vS k b.Rp.Ro.length o,vS l b.own.length p,vS m b.Rr.length q,vS z b.py.ag.length B,vI b.py.gc.Ru,vI b.py.gc.RD,vI b.py.gc.Rv,vS A b.py.gc.da.length C,vS n b.db.length u,vI b.RA,vI b.Rz,vI b.dc.cd,vI b.dc.dg,vI b.dc.dn,vI b.du,vI b.Rx],sl k o b.Rp.Ro,sl l p b.own,sl m q b.Rr,sl z B b.py.ag,sl A C b.py.gc.da,sl n u b.db]) ?_ ?_
 · have h:=av;refine gc h ?_ ?_<;>intro _ h
   · refine T ?_;intro ar _ h _ _;refine CW.fl [4,8,9,10,13,14,46] fun e=>?_;refine gc h ?_ ?_<;>intro _ h
     · refine fm [(0,vI ar.2)] #[vI ar.2,vI 0] ?_;refine T ?_;intro _ _ _ _;cases h;have h:=aq;exact rt
     exact rt
   exact rt
 rintro e _ ⟨ab,rfl,hM⟩;obtain⟨e,rfl,X⟩:=eo hM;have h:=aq;refine gb h fun _ Z h=>?_;obtain⟨_,_,rfl,_,_⟩:=X.dA (α:=c6) (i:=6) rfl Z;refine go ?_;refine gb h fun _ aa h=>?_;refine LW.se 2 X 6 Z aa (hM:=(fK (fun w cs F hF=>by obtain⟨aF,aI,aG,aJ,aH,aK,rfl,hH⟩:=hF;exact⟨aF,aI,aG,aJ,aH,aK,rfl,hH⟩))) fun _ Y=>?_;refine gs ?_;refine CW.region ?_;refine gs ?_;rw[dx (oi aa)]at Y;obtain⟨x,aw,aA⟩:=ob h;refine CW.j4 [4,8,9] [0,1,3,4,5,8] (fun(d:Ad) (g:Nat) (f:Ad) (j:Nat)=>[]) (fun d g f j=>[bx au 54 [vS k b.Rp.Ro.length o,vS l b.own.length p,vS m b.Rr.length q,vS d x.1.length g,vI x.2.1,vI x.2.2.1,vI x.2.2.2.1,vS f x.2.2.2.2.length j,vS n b.db.length u,vI b.RA,vI b.Rz,vI b.dc.cd,vI b.dc.dg,vI b.dc.dn,vI b.du,vI b.Rx],sl d g x.1,sl f j x.2.2.2.2]) Y ?_ ?_
 · have h:=aw;refine CW.fl [4,8,9,10,59] fun e=>?_;exact wk
 intro e d g f j _ _;have h:=aA;refine fm [] #[vI 0,vI 0] ?_;exact wk
instance k_228:Ct prog 228:={h:=@GG}
theorem Gn{w0}{F:List Nat}{N x aL r}(h:rk N x aL=some r){H ac m}(af:ac=x.ag.length){I ad J}(ah:ad=x.gc.da.length)(hS:St w0 F w0 [sl H m x.ag,sl I J x.gc.da]):
    di prog 249 #[.agg (uH H ac m I ad J x),vI aL] w0 (fun v w=>∃z B A C,v=.agg (uH z r.ag.length B A r.gc.da.length C r)/\St w0 F w [sl z B r.ag,sl A C r.gc.da]):=by
 subst af ah;unfold rk at h;refine di.fn func249 fun e=>?_;refine T ?_;intro aM _ _ _ _ ak;refine gc h ?_ ?_<;>intro _ h
 · exact wk
 refine gb h fun _ am h=>?_;obtain⟨_,_,rfl,_,_⟩:=ak.dA (α:=Int) (i:=3) rfl am;refine go ?_;obtain⟨_,U,aH⟩:=ak.freeze (α:=Int) 3 rfl;obtain⟨_,_,_,k,_,_,_,aw,_⟩:=U.fe.idx am;cases k;obtain rfl:=aw;refine T ?_;have aI:=aH.dZ (α:=Int) 3 rfl U;have⟨_,W,h⟩:=ob h;obtain⟨ae,aD,aF,aA,aB,_⟩:=aI.tI (α:=Int) 3 rfl W;refine LW.u (dL.sub (α:=Int) (l:=x.gc.da) underlying29 E2 rfl tq (sL rfl) W ae aA aB) rfl ?_;refine T ?_;intro _ R;obtain⟨aJ,aC,aG⟩:=ob h;refine CW.jn [1,2,4,6] [0,1,2,3] [(44,.bool aJ)] R (h1:=?_) (h2:=?_)
 · have h:=aC;refine gB h ?_ ?_<;>intro _ h
   · refine gb h fun _ X h=>?_;obtain⟨_,_,rfl,_,_⟩:=R.dA (α:=c6) (i:=2) rfl X;refine go ?_;obtain⟨_,V,_⟩:=R.freeze (α:=c6) 2 rfl;obtain⟨_,_,_,k,_,_,_,ax,_⟩:=V.fe.idx X;cases k;obtain⟨_,_,_,_,_,_,rfl,_,_,_⟩:=ax;refine T ?_;intro _ _ h _ ao;have:=ao.dZ (α:=c6) 2 rfl V;exact rt
   exact rt
 intro e _ _;have h:=aG;refine gc h ?_ ?_<;>intro _ h
 · exact wk
 refine T ?_;intro _ _ h _ _ _ K;have⟨_,Y,h⟩:=ob h;obtain⟨aE,aK,rfl,_,_⟩:=K.dA (α:=c6) (i:=3) rfl Y;refine go ?_;refine gb h fun _ Z h=>?_;refine LW.se 9 K 3 Y Z (hM:=(fK (fun w cs F hF=>by obtain⟨aN,aQ,aO,aR,aP,aS,rfl,hH⟩:=hF;exact⟨aN,aQ,aO,aR,aP,aS,rfl,hH⟩))) fun _ n=>?_;refine go ?_;rw[dx (oi Z)]at n;obtain⟨_,ai,an⟩:=ob h;refine CW.i4 ai 0 [1,2,4,7] [0,1] (fun b (d:Ad) (g:Nat) (f:Ad) (j:Nat)=>[(8,vI b.1)]) (fun b d g f j=>[bx aM 51 [vS d b.2.1.length g,vI b.2.2.1,vI b.2.2.2.1,vI b.2.2.2.2.1,vS f b.2.2.2.2.2.length j],sl d g b.2.1,sl f j b.2.2.2.2.2]) n ?_ ?_ ?_
 · exact⟨(some ⟨aE,aK,none⟩),m,aD,aF,n.po [0,1,2,3,4]⟩
 · intro b e d g f j _ o ap h;refine gf [1,2,4,7,8,58] fun e=>?_;refine gc h ?_ ?_<;>intro _ h
   · refine fA ?_;have L:=ap.drew;refine gb h fun _ aa h=>?_;obtain⟨_,_,rfl,_,_⟩:=L.dA (α:=Int) (i:=0) rfl aa;refine go ?_;obtain⟨_,p,M⟩:=L.freeze (α:=Int) 0 rfl;obtain⟨_,_,_,k,_,_,_,ay,_⟩:=p.fe.idx aa;cases k;obtain rfl:=ay;refine T ?_;have⟨_,ab,h⟩:=ob h;obtain⟨_,_,rfl,_,_⟩:=M.dA (α:=c6) (i:=3) rfl ab;refine go ?_;obtain⟨_,q,_⟩:=M.freeze (α:=c6) 3 rfl;obtain⟨_,_,_,k,_,_,_,az,_⟩:=q.fe.idx ab;cases k;obtain⟨_,_,_,_,_,_,rfl,_,_,_⟩:=az;refine T ?_;intro _ _ h _ O;refine gc h ?_ ?_<;>intro _ h
     · refine dW ?_;have aq:=O.drew;refine go ?_;refine T ?_;have⟨_,aj,h⟩:=ob h;have ar:=aq.dZ (α:=c6) 3 rfl q;obtain⟨_,G⟩:=ar.lF [3,4] [0,1,2];refine T ?_;refine LW.cl (yG aj rfl rfl G.st) ?_;rintro _ _ ⟨_,_,_,_,rfl,hs⟩;have:=G.back _ _ hs;refine T ?_;intro _ au;have:=au.dZ (α:=Int) 2 rfl p;exact rt
     refine go ?_;have av:=O.dZ (α:=c6) 3 rfl q;have:=av.dZ (α:=Int) 0 rfl p;exact rt
   exact rt
 intro e d g f j _ _;have h:=an;exact wk
instance k_249:Ct prog 249:={h:=@Gn}
theorem uG{w0 N k r}(h:mH N k=some r){f i g}(j:i=k.Ro.length)(o:rb w0 f g k.Ro):
    di prog 79 #[.agg #[vS f i g]] w0 (fun v w=>∃b d,v=.agg #[vS b r.Ro.length d]/\St w0 [] w [sl b d r.Ro]):=by
 subst j;unfold mH at h;refine di.fS func79 fun e _=>?_;refine T ?_;intro _ _ _ _ _ _ n _ h l m _ _;refine LW.bd [(0,vS l n.length m)] #[vS l n.length m] ?_;exact wk
instance k_79:Ct prog 79:={h:=@uG}
theorem DD{w0}{F:List Nat}{N k d aw r}(h:jG N k d aw=some r){I:Nat}{f g}(ax:dX (eJ w0 F) w0 f g k.b){m J z}(U:J=d.Rp.Ro.length)(ay:dX (eJ w0 F) w0 m z d.Rp.Ro){n K A}(V:K=d.own.length)(az:dX (eJ w0 F) w0 n A d.own){p L B}(W:L=d.Rr.length)(aA:dX (eJ w0 F) w0 p B d.Rr){q M C}(X:M=d.py.ag.length)(l:dX (eJ w0 F) w0 q C d.py.ag){u O G}(Y:O=d.py.gc.da.length)(aB:dX (eJ w0 F) w0 u G d.py.gc.da){x R H}(Z:R=d.db.length)(aC:dX (eJ w0 F) w0 x H d.db)(hS:St w0 F w0 [bx I 99 [vS f k.b.length g,vI k.i,vI k.h]]):
    di prog 194 #[.pointer (some ⟨I,0,none⟩),.agg (uP m J z n K A p L B q M C u O G x R H d),vI aw] w0 (fun v w=>v=vI r.1/\St w0 F w [bx I 99 [vS f k.b.length g,vI r.2.i,vI r.2.h]]):=by
 subst U V W X Y Z;unfold jG at h;refine di.fn func194 fun e=>?_;refine T ?_;intro _ _ ao;obtain⟨aj,ar,aD⟩:=ob h;refine CW.j0 [0,2,7] [] [(20,.bool aj.1)] [bx I 99 [vS f k.b.length g,vI aj.2.1,vI aj.2.2]] ao ?_ ?_
 · have h:=ar;exact wk
 intro e _ _;have h:=aD;refine gc h ?_ ?_<;>intro _ h
 · refine T ?_;intro _ _ h _ ap;replace h:=oi h;subst h;exact Ra ⟨rfl,ap.pk [0]⟩
 refine T ?_;intro _ _ h _ aa;refine go ?_;obtain⟨_,af,am⟩:=ob h;refine CW.i0 af 0 [0,2,7] [] (fun j=>[(8,vI j.1),(9,vI j.2.1)]) (fun j=>[bx I 99 [vS f k.b.length g,vI j.2.2.1,vI j.2.2.2]]) aa ?_ ?_ ?_
 · exact aa.po [0]
 · intro j e _ o aq h;refine gs ?_;obtain⟨au,ad,ak⟩:=ob h;refine CW.jn [0,2,7,8,9] [0] [(34,.bool au)] aq (h1:=?_) (h2:=?_)
   · have h:=ad;refine gB h ?_ ?_<;>intro _ h
     · refine gb h fun _ ah h=>?_;obtain⟨_,_,_,rfl,_,_,_,⟨_,_,_,_,_,_,rfl,_,_,_⟩,_⟩:=l.idx ah;refine go ?_;refine T ?_;exact rt
     exact rt
   intro e _ _;have h:=ak;exact wk
 intro e _ _;have h:=am;refine gb h fun _ ai h=>?_;obtain⟨_,_,_,rfl,_,_,_,⟨_,_,_,_,_,_,rfl,_,_,_⟩,_⟩:=l.idx ai;refine go ?_;refine T ?_;intro _ _ h _ ab;obtain⟨av,ae,an⟩:=ob h;refine CW.jn [0,2,8] [0] [(10,vI av)] ab (h1:=?_) (h2:=?_)
 · have h:=ae;refine CW.fl [0,2,8,10,45] fun e=>?_;exact wk
 intro e _ _;have h:=an;refine T ?_;intro _ _ h _ ac;replace h:=oi h;subst h;exact Ra ⟨rfl,ac.pk [0]⟩
instance k_194:Ct prog 194:={h:=@DD}
theorem Ga{w0 N g b r}(h:ru N g b=some r):
    di prog 196 #[.agg (uT g),.agg #[vI b.cd,vI b.dg,vI b.dn]] w0 (fun v w=>v=vI r/\St w0 [] w []):=by
 unfold ru at h;refine di.fS func196 fun e _=>?_;refine T ?_;intro _ _ _ _ _ d;obtain⟨j,f,i⟩:=ob h;refine CW.jn [2,3] [0,1] [(13,.bool j)] d (h1:=?_) (h2:=?_)
 · have h:=f;exact wk
 intro e _ _;have h:=i;refine gc h ?_ ?_<;>intro _ h
 · exact rt
 refine T ?_;intro _ _ h _ _;refine gc h ?_ ?_<;>intro _ h
 · refine go ?_;refine LW.u (dL.min rfl rfl) rfl ?_;exact rt
 refine go ?_;refine LW.u (dL.quo rfl rfl (by decide)) rfl ?_;exact rt
instance k_196:Ct prog 196:={h:=@Ga}
theorem yM{w0 N M O R r}(h:nJ N M O R=some r){b n g}(z:n=M.length)(Y:rb w0 b g M){d p j}(A:p=O.Ro.length)(Z:rb w0 d j O.Ro){f q k}(B:q=R.Ro.length)(aa:rb w0 f k R.Ro):
    di prog 78 #[vS b n g,.agg #[vS d p j],.agg #[vS f q k]] w0 (fun v w=>v=.bool r/\St w0 [] w []):=by
 subst z A B;unfold nJ at h;refine di.fS func78 fun e _=>?_;refine T ?_;intro _ _ _ _ _ U;obtain⟨ac,X,ab⟩:=ob h;refine CW.jn [0,4,5] [0,1] [(21,.bool ac)] U (h1:=?_) (h2:=?_)
 · have h:=X;exact wk
 intro e _ _;have h:=ab;refine gc h ?_ ?_<;>intro _ h
 · exact rt
 refine T ?_;intro _ _ h _ _ _ V;refine go ?_;obtain⟨H,L,C⟩:=ob h;refine CW.mono (CW.lx [0,24,25] [0] [] 0 (fun I=>[(26,vI I)]) (RT prog f78.results (fun u=>.bool u) w0 []) V L (hb:=?_)) ?_
 · intro I e _ o G h;refine gc h ?_ ?_<;>intro _ h
   · refine gb h fun _ m h=>?_;obtain⟨_,_,rfl,_,_⟩:=G.dA (α:=Int) (i:=0) rfl m;refine go ?_;obtain⟨_,l,_⟩:=G.freeze (α:=Int) 0 rfl;obtain⟨_,_,_,W,_,_,_,K,_⟩:=l.fe.idx m;cases W;obtain rfl:=K;refine T ?_;intro _ _ h _ J;refine CW.fl [0,24,25,26,33] fun e=>?_;refine gc h ?_ ?_<;>intro _ h
     · exact rt
     refine go ?_;have:=J.dZ (α:=Int) 0 rfl l;exact rt
   exact rt
 intro x e _ hM;rcases H with H|_
 · obtain⟨rfl,hM⟩:=hM;obtain⟨e,rfl,_⟩:=eo hM;rw[show e=dF e [] from rfl];have h:=C;exact rt
 obtain⟨rfl,u,rfl,hM⟩:=hM;cases C;exact And.intro trivial hM
instance k_78:Ct prog 78:={h:=@yM}
theorem yi{w0 N b r}(h:gJ N b=some r){B W K}(ac:W=b.Rp.Ro.length)(ao:rb w0 B K b.Rp.Ro){C X L}(ad:X=b.own.length)(ap:rb w0 C L b.own){G Y M}(ae:Y=b.Rr.length)(aq:rb w0 G M b.Rr){H Z O}(af:Z=b.py.ag.length)(ar:rb w0 H O b.py.ag){I aa R}(ah:aa=b.py.gc.da.length)(au:rb w0 I R b.py.gc.da){J ab U}(ai:ab=b.db.length)(aj:rb w0 J U b.db):
    di prog 38 #[.agg (uP B W K C X L G Y M H Z O I aa R J ab U b)] w0 (fun v w=>∃d o f p g q j x k z n A,v=.agg (uP d r.Rp.Ro.length o f r.own.length p g r.Rr.length q j r.py.ag.length x k r.py.gc.da.length z n r.db.length A r)/\St w0 [] w [sl d o r.Rp.Ro,sl f p r.own,sl g q r.Rr,sl j x r.py.ag,sl k z r.py.gc.da,sl n A r.db]):=by
 subst ac ad ae af ah ai;unfold gJ at h;refine di.fS func38 fun e _=>?_;refine T ?_;intro _ _ _ _ _ an;refine dW ?_;have:=an.drew;refine go ?_;refine jP 2 ?_;refine T ?_;intro _ _ h _ _ _ _;refine AW.u (i:=12) rfl (by kernel_rfl) rfl rfl (dL.fa OV rfl) ?_;refine jP 5 ?_;refine T ?_;intro _ _ h _ _ _ _ _ _ h _ _ _ _ _ _ h _ _ _ _ _ _ _ _ _ _ _ _ _ ak;refine LW.b0 (α:=ef) ak ?_;intro _ _ _ V hf;refine gb h fun _ am h=>?_;refine LW.fM (l:=([]:List ef)) (m:=b.db) tU rfl rfl (V.rB aj) am V (i:=0) rfl rfl ?_;intro _ _ _ _ hf;exact wk
instance k_38:Ct prog 38:={h:=@yi}
theorem zK{w0 N k u x z r}(h:nq N k u x z=some r){d i f}(j:i=k.parts.length)(b:rb w0 d f k.parts):
    di prog 164 #[.agg #[vI k.RB,vS d i f],vI u,vI x,vI z] w0 (fun v w=>v=.bool r/\St w0 [] w []):=by
 subst j;unfold nq at h;refine di.fS func164 fun e _=>?_;refine T ?_;intro _ _ p;refine dW ?_;have:=p.drew;refine gb h fun _ q h=>?_;obtain⟨_,_,_,rfl,_,_,_,⟨_,_,_,_,_,_,_,_,_,_,_,_,rfl,_,_,_,_,_,_⟩,_⟩:=b.idx q;refine go ?_;refine T ?_;have⟨_,n,h⟩:=ob h;obtain⟨_,_,_,g,_,_,_,l,_⟩:=b.idx n;cases g;obtain⟨_,_,_,_,_,_,_,_,_,_,_,_,rfl,_,_,_,_,_,_⟩:=l;refine go ?_;refine T ?_;have⟨_,o,h⟩:=ob h;obtain⟨_,_,_,g,_,_,_,m,_⟩:=b.idx o;cases g;obtain⟨_,_,_,_,_,_,_,_,_,_,_,_,rfl,_,_,_,_,_,_⟩:=m;exact wk
instance k_164:Ct prog 164:={h:=@zK}
end Go.Kx
