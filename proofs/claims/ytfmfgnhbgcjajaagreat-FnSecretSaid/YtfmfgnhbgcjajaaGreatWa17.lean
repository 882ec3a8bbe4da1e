import Derived.Test.YtfmfgnhbgcjajaaGreatWa12
import Derived.Test.YtfmfgnhbgcjajaaGreatWa13
import Derived.Test.YtfmfgnhbgcjajaaGreatWa14
namespace Go.Kx
open Go Go.RowKit Go.Proofs
open Tryz
set_option maxRecDepth 10000
set_option maxHeartbeats 8000000
set_option linter.unusedVariables false
set_option linter.unusedSimpArgs false
theorem Er{w0 N f bz bA r}(h:pY N f bz bA=some r){aa aH ak}(aN:aH=f.Rp.Ro.length)(V:rb w0 aa ak f.Rp.Ro){ab aI am}(aO:aI=f.own.length)(W:rb w0 ab am f.own){ac aJ an}(aP:aJ=f.Rr.length)(X:rb w0 ac an f.Rr){ad aK ao}(aQ:aK=f.py.ag.length)(k:rb w0 ad ao f.py.ag){ae aL ap}(aR:aL=f.py.gc.da.length)(Y:rb w0 ae ap f.py.gc.da){af aM aq}(aS:aM=f.db.length)(Z:rb w0 af aq f.db):
    di prog 117 #[.agg (uP aa aH ak ab aI am ac aJ an ad aK ao ae aL ap af aM aq f),vI bz,vI bA] w0 (fun v w=>∃A K B L C M G O H R I U,v=.agg (uP A r.Rp.Ro.length K B r.own.length L C r.Rr.length M G r.py.ag.length O H r.py.gc.da.length R I r.db.length U r)/\St w0 [] w [sl A K r.Rp.Ro,sl B L r.own,sl C M r.Rr,sl G O r.py.ag,sl H R r.py.gc.da,sl I U r.db]):=by
 subst aN aO aP aQ aR aS;unfold pY at h;refine di.fS func117 fun e bo=>?_;refine we bo fun _ _ bp=>?_;refine LW.al bp fun _ _ m=>?_;refine gb h fun d bu h=>?_;refine LW.cl (yi bu rfl (m.rB V) rfl (m.rB W) rfl (m.rB X) rfl (m.rB k) rfl (m.rB Y) rfl (m.rB Z)) ?_;rintro _ _ ⟨aU,aW,aV,aX,ah,ar,z,J,ai,au,aj,av,rfl,hs⟩;have bq:=m.add hs;refine LW.al bq fun bk _ br=>?_;refine LW.st br 0 fun _ g=>?_;refine gs ?_;obtain⟨bv,a1,bl⟩:=ob h;refine CW.jn [1,2,3,6,7] [0,1,2,3,4,5,6,7,8] [(19,.bool bv)] g (h1:=?_) (h2:=?_)
 · have h:=a1;refine gb h fun _ a9 h=>?_;refine LW.c0 (AT a9 rfl (g.rB V) rfl (g.rB W) rfl (g.rB X) rfl (g.rB k) rfl (g.rB Y) rfl (g.rB Z)) g fun _ aT=>?_;refine gB h ?_ ?_<;>intro _ h
   · refine go ?_;cases oi h;exact aT.po [0,1,2,3,4,5,6,7,8]
   refine gb h fun _ ba h=>?_;refine go ?_;refine LW.c0 (A4 ba) aT fun _ bs=>?_;refine go ?_;cases oi h;exact bs.po [0,1,2,3,4,5,6,7,8]
 intro e _ aC;have h:=bl;refine gc h ?_ ?_<;>intro _ h
 · refine sC aC 7 fun _ aw=>?_;refine go ?_;cases h;exact And.intro trivial ⟨_,gL.one (dE.b aw 7 rfl iE rfl rfl),aU,aW,aV,aX,ah,ar,z,J,ai,au,aj,av,rfl,aw.pk [1,2,3,4,5,6]⟩
 refine go ?_;obtain⟨_,a4,bn⟩:=ob h;refine CW.i0 a4 0 [1,2,3,6,7,23,24] [1,2,3,5,6,7,8] (fun n=>[(25,vI n.2)]) (fun n=>[bx bk 54 [vS aU d.Rp.Ro.length aW,vS aV d.own.length aX,vS ah d.Rr.length ar,vS z n.1.length J,vI d.py.gc.Ru,vI d.py.gc.RD,vI d.py.gc.Rv,vS ai d.py.gc.da.length au,vS aj d.db.length av,vI d.RA,vI d.Rz,vI d.dc.cd,vI d.dc.dg,vI d.dc.dn,vI d.du,vI d.Rx],sl z J n.1]) aC ?_ ?_ ?_
 · exact aC.po [1,2,3,5,6,7,8,0,4]
 · intro n e _ o q h;refine gc h ?_ ?_<;>intro _ h
   · refine gb h fun _ bb h=>?_;obtain⟨_,_,_,rfl,aD,_,_,⟨_,_,_,_,_,_,rfl,_,_,_⟩,a3⟩:=k.idx bb;refine go ?_;refine LW.l (fv.tH w0 wS rfl rfl (fun j u hu=>a3 j u hu)) (q.same _ aD.1 aD.2) rfl ?_;refine LW.al q fun _ _ aY=>?_;refine sC aY 0 fun _ p=>?_;refine gs ?_;obtain⟨bw,a2,bm⟩:=ob h;refine CW.jn [1,2,3,6,7,8,23,24,25] [1,2,3,4,5,6,7,8,9] [(44,.bool bw)] p (h1:=?_) (h2:=?_)
     · have h:=a2;refine gB h ?_ ?_<;>intro _ h
       · refine go ?_;have⟨_,bc,h⟩:=ob h;refine go ?_;refine LW.c0 (tm bc rfl (p.rB k)) p fun _ aZ=>?_;refine go ?_;cases oi h;exact aZ.po [1,2,3,4,5,6,7,8,9]
       refine go ?_;cases oi h;exact p.po [1,2,3,4,5,6,7,8,9]
     intro e _ ax;have h:=bm;refine gf [1,2,3,6,7,8,23,24,25,44] fun e=>?_;refine gc h ?_ ?_<;>intro _ h
     · refine dW ?_;have ay:=ax.drew;refine gb h fun _ aE h=>?_;obtain⟨_,_,rfl,_,_⟩:=ay.dA (α:=c6) (i:=8) rfl aE;refine go ?_;refine gb h fun _ x h=>?_;refine jO 10 ?_;refine LW.se 6 ay 8 aE x (hM:=(fK (fun w cs F hF=>by obtain⟨bd,bg,be,bi,bf,bj,rfl,hH⟩:=hF;exact⟨bd,bg,be,bi,bf,bj,rfl,hH⟩))) fun _ az=>?_;refine jn ?_;have⟨_,aF,h⟩:=ob h;obtain⟨_,_,bt,a5,a7⟩:=az.dA (α:=c6) (i:=8) rfl aF;cases bt;(try refine AW.ux (i:=11) (by decide +kernel) rfl (by kernel_rfl) rfl rfl (dL.ix underlying47 wO rfl rfl a5 (by rw[dx (oi x)];exact a7)) ?_);refine gb h fun bB aG h=>?_;refine jO 13 ?_;refine LW.se 7 az 8 aF aG (hM:=(fK (fun w cs F hF=>by obtain⟨bd,bg,be,bi,bf,bj,rfl,hH⟩:=hF;exact⟨bd,bg,be,bi,bf,bj,rfl,hH⟩))) fun _ aA=>?_;refine jn ?_;refine go ?_;rw[show n.1.length=bB.length from((dx (oi x)).trans (dx (oi aG)))]at aA;cases oi h;exact⟨rfl,(aA.po [0,1,2,3,4,5,6,7,8])⟩
     refine go ?_;cases oi h;exact⟨rfl,(ax.po [0,1,2,3,4,5,6,7,8])⟩
   refine go ?_;cases oi h;exact⟨trivial,rfl,(q.po [0,1,2,3,4,5,6,7,8])⟩
 intro e _ a0;have h:=bn;refine sC a0 5 fun _ aB=>?_;refine go ?_;cases h;exact And.intro trivial ⟨_,gL.one (dE.b aB 5 rfl iE rfl rfl),aU,aW,aV,aX,ah,ar,z,J,ai,au,aj,av,rfl,aB.pk [0,1,2,8,3,4]⟩
instance k_117:Ct prog 117:={h:=@Er}
theorem Ba{w0 N l aK aL r}(h:mY N l aK aL=some r){O am Z}(au:am=l.Rp.Ro.length)(a0:rb w0 O Z l.Rp.Ro){R an aa}(av:an=l.own.length)(a1:rb w0 R aa l.own){U ao ab}(aw:ao=l.Rr.length)(a2:rb w0 U ab l.Rr){V ap ac}(ax:ap=l.py.ag.length)(a3:rb w0 V ac l.py.ag){W aq ad}(ay:aq=l.py.gc.da.length)(a4:rb w0 W ad l.py.gc.da){X ar ae}(az:ar=l.db.length)(a5:rb w0 X ae l.db):
    di prog 119 #[.agg (uP O am Z R an aa U ao ab V ap ac W aq ad X ar ae l),vI aK,vI aL] w0 (fun v w=>∃x H z I A J B K C L G M,v=.tuple #[.agg (uP x r.1.Rp.Ro.length H z r.1.own.length I A r.1.Rr.length J B r.1.py.ag.length K C r.1.py.gc.da.length L G r.1.db.length M r.1),vI r.2]/\St w0 [] w [sl x H r.1.Rp.Ro,sl z I r.1.own,sl A J r.1.Rr,sl B K r.1.py.ag,sl C L r.1.py.gc.da,sl G M r.1.db]):=by
 subst au av aw ax ay az;unfold mY at h;refine di.fS func119 fun e _=>?_;refine T ?_;intro _ _ _ aS _ _ d _ h aA aC aB aD aM aP aN aQ aO aR Y af _ _ ah _ _ _ aW;obtain⟨aZ,aH,aT⟩:=ob h;refine CW.jn [1,2,6,8,9] [0,1,2,3,4,5,6,7] [(22,.bool aZ)] aW (h1:=?_) (h2:=?_)
 · have h:=aH;exact wk
 intro e _ aX;have h:=aT;refine gc h ?_ ?_<;>intro _ h
 · exact wk
 refine go ?_;obtain⟨_,aJ,aV⟩:=ob h;refine CW.ie aJ 0 (fun b e wb=>∃(p:Ad) (q:Nat) (f:Ad) (j:Nat) (g:Ad) (k:Nat),En e [(1,vI aK),(6,.pointer (some ⟨aS,0,none⟩)),(8,.pointer (some ⟨ah,0,none⟩)),(9,vI b.1),(25,vI aL),(26,vI b.2.1)]/\St w0 [] wb [bx ah 54 [vS aA d.Rp.Ro.length aC,vS aB d.own.length aD,vS p b.2.2.1.length q,vS f b.2.2.2.1.length j,vI b.2.2.2.2.1,vI b.2.2.2.2.2.1,vI b.2.2.2.2.2.2.1,vS g b.2.2.2.2.2.2.2.length k,vS Y d.db.length af,vI d.RA,vI d.Rz,vI d.dc.cd,vI d.dc.dg,vI d.dc.dn,vI d.du,vI d.Rx],sl aA aC d.Rp.Ro,sl aB aD d.own,sl Y af d.db,bx aS 54 [vS none 0 0,vS none 0 0,vS none 0 0,vS none 0 0,vI 0,vI 0,vI 0,vS none 0 0,vS none 0 0,vI 0,vI 0,vI 0,vI 0,vI 0,vI 0,vI 0],sl p q b.2.2.1,sl f j b.2.2.2.1,sl g k b.2.2.2.2.2.2.2]) ?_ ⟨aM,aP,aN,aQ,aO,aR,aX.po [0,1,2,6,7,3,4,5]⟩ ?_
 · intro b e _ o hM h;obtain⟨p,q,f,j,g,k,hE,_⟩:=hM;obtain⟨e,rfl⟩:=hE.out;refine gc h ?_ ?_<;>intro _ h
   · refine T ?_;intro _ _ h _ _ _ _ _ _ _ _ _ _ u;obtain⟨ak,aI,aU⟩:=ob h;refine CW.j2 [1,6,8,10,25,26] [0,1,2,4,5,6,7,9,10] (fun(m:Ad) (n:Nat)=>[(9,vI ak.1)]) (fun m n=>[bx ah 54 [vS aA d.Rp.Ro.length aC,vS aB d.own.length aD,vS m ak.2.length n,vS f b.2.2.2.1.length j,vI b.2.2.2.2.1,vI b.2.2.2.2.2.1,vI b.2.2.2.2.2.2.1,vS g b.2.2.2.2.2.2.2.length k,vS Y d.db.length af,vI d.RA,vI d.Rz,vI d.dc.cd,vI d.dc.dg,vI d.dc.dn,vI d.du,vI d.Rx],sl m n ak.2]) u ?_ ?_
     · have h:=aI;refine CW.fl [1,6,8,9,10,11,25,26,36] fun e=>?_;refine gc h ?_ ?_<;>intro _ h
       · refine gb h fun _ aj h=>?_;obtain⟨_,_,rfl,_,_⟩:=u.dA (α:=c6) (i:=9) rfl aj;refine go ?_;obtain⟨_,ai,_⟩:=u.freeze (α:=c6) 9 rfl;obtain⟨_,_,_,aY,_,_,_,aG,_⟩:=ai.fe.idx aj;cases aY;obtain⟨_,_,_,_,_,_,rfl,_,_,_⟩:=aG;refine T ?_;intro _ _ _ _ aE;refine dW ?_;have:=aE.drew;refine T ?_;intro _ _ h _ _ _ _ h _ _ _ _ _ aF;have:=aF.dZ (α:=c6) 11 rfl ai;exact rt
       exact rt
     intro e m n _ _;have h:=aU;exact wk
   exact rt
 rintro e _ ⟨p,q,f,j,g,k,hE,_⟩;obtain⟨e,rfl⟩:=hE.out;have h:=aV;exact wk
instance k_119:Ct prog 119:={h:=@Ba}
theorem Gr{w0 N d aK r}(h:rC N d aK=some r){G Z M}(ah:Z=d.Rp.Ro.length)(aL:rb w0 G M d.Rp.Ro){H aa O}(ai:aa=d.own.length)(aM:rb w0 H O d.own){I ab R}(aj:ab=d.Rr.length)(aN:rb w0 I R d.Rr){J ac U}(ak:ac=d.py.ag.length)(B:rb w0 J U d.py.ag){K ad V}(am:ad=d.py.gc.da.length)(aO:rb w0 K V d.py.gc.da){L ae W}(an:ae=d.db.length)(aP:rb w0 L W d.db):
    di prog 120 #[.agg (uP G Z M H aa O I ab R J ac U K ad V L ae W d),vI aK] w0 (fun v w=>∃j p k q l u m x n z o A,v=.tuple #[.agg (uP j r.1.Rp.Ro.length p k r.1.own.length q l r.1.Rr.length u m r.1.py.ag.length x n r.1.py.gc.da.length z o r.1.db.length A r.1),vI r.2]/\St w0 [] w [sl j p r.1.Rp.Ro,sl k q r.1.own,sl l u r.1.Rr,sl m x r.1.py.ag,sl n z r.1.py.gc.da,sl o A r.1.db]):=by
 subst ah ai aj ak am an;unfold rC at h;refine di.fS func120 fun e _=>?_;refine T ?_;intro _ _ _ _ _ _ _ _ h aQ aS aR aT _ _ _ aB ax aC ay aD _ _ _ _ _ _ _ _ _ h _ _;refine gc h ?_ ?_<;>intro _ h
 · exact wk
 refine T ?_;intro _ aG;refine dW ?_;have:=aG.drew;refine go ?_;refine jP 2 ?_;refine T ?_;intro _ _ h _ _ _ _;refine jP 8 ?_;refine T ?_;intro _ _ h _ ao;obtain⟨aI,au,aF⟩:=ob h;refine CW.jn [2,4,6,7] [1,2,3,4,5,6,7,8,9] [(42,.bool aI)] ao (h1:=?_) (h2:=?_)
 · have h:=au;refine gB h ?_ ?_<;>intro _ h
   · exact rt
   refine gB h ?_ ?_<;>intro _ h
   · exact rt
   refine go ?_;have⟨_,av,h⟩:=ob h;obtain⟨_,_,_,rfl,_,_,_,⟨_,_,_,_,_,_,rfl,_,_,_⟩,_⟩:=B.idx av;refine go ?_;refine T ?_;exact rt
 intro e _ _;have h:=aF;refine gc h ?_ ?_<;>intro _ h
 · exact wk
 refine T ?_;intro _ _ h _ _ _ _ _ _ ap;refine dW ?_;have:=ap.drew;refine gb h fun _ aw h=>?_;obtain⟨_,_,_,rfl,_,_,_,⟨_,_,_,_,_,_,rfl,_,_,_⟩,_⟩:=B.idx aw;refine go ?_;refine T ?_;refine jP 10 ?_;refine T ?_;intro _ _ h _ _ _ _ h az aE _ _ _ _ _ _ h _ _ _ X;have⟨_,g,h⟩:=ob h;obtain⟨aA,aJ,rfl,_,_⟩:=X.dA (α:=c6) (i:=6) rfl g;refine go ?_;obtain⟨_,Y,aq⟩:=X.freeze (α:=c6) 6 rfl;obtain⟨_,_,_,aH,_,_,_,af,_⟩:=Y.fe.idx g;cases aH;obtain⟨_,_,_,_,_,_,rfl,_,_,_⟩:=af;refine T ?_;refine go ?_;have ar:=aq.dZ (α:=c6) 6 rfl Y;have⟨_,C,h⟩:=ob h;refine LW.se 8 ar 6 g C (hM:=(fK (fun w cs F hF=>by obtain⟨aU,aX,aV,aY,aW,aZ,rfl,hH⟩:=hF;exact⟨aU,aX,aV,aY,aW,aZ,rfl,hH⟩))) fun _ _=>?_;refine T ?_;intro _ _ _ f;cases h;rw[dx (oi C)]at f;exact Rc (dE.b f 9 rfl iE rfl rfl) tt ⟨aQ,aS,aR,aT,az,aE,(some ⟨aA,aJ,none⟩),aB,ax,aC,ay,aD,rfl,f.pk [3,4,0,6,7,8]⟩
instance k_120:Ct prog 120:={h:=@Gr}
theorem zZ{w0 N b r}(h:rm N b=some r):
    di prog 111 #[.agg #[vI b.cd,vI b.dg,vI b.dn]] w0 (fun v w=>∃j k,v=.tuple #[vS j r.1.length k,.bool r.2]/\St w0 [] w [sl j k r.1]):=by
 unfold rm at h;refine di.fS func111 fun e _=>?_;refine T ?_;intro _ _ p;have⟨z,u,h⟩:=ob h;refine LW.mk Jk rfl rfl u p rfl ?_;intro _ o _ l hf;refine fm [(0,.bool true),(1,vI (-1)),(2,.agg #[vI b.cd,vI b.dg,vI b.dn])] #[.bool true,vI (-1),vI b.cd,vI b.dg,vI b.dn] ?_;have⟨_,n,h⟩:=ob h;obtain⟨d,g,rfl,_,_⟩:=l.dA (α:=dj) (i:=0) rfl n;refine go ?_;have⟨x,f,h⟩:=ob h;refine LW.se 0 l 0 n f (hM:=ti) fun _ _=>?_;refine T ?_;intro _ _ h _ m;refine CW.fl [4,12] fun e=>?_;refine gc h ?_ ?_<;>intro _ h
 · refine go ?_;cases h;have q:=m.nil (α:=dj);exact Rc tt tt ⟨none,0,rfl,q.pk [0]⟩
 refine go ?_;replace h:=oi h;subst h;exact Rc tt tt ⟨(some ⟨d,g,none⟩),o,(show(.tuple #[vS (some ⟨d,g,none⟩) z.length o,.bool true]:Value)=.tuple #[vS (some ⟨d,g,none⟩) x.length o,.bool true] by rw[dx (oi f)]),m.pk [0]⟩
instance k_111:Ct prog 111:={h:=@zZ}
theorem CZ{w0 N r}(h:wq N=some r):
    di prog 115 #[] w0 (fun v w=>∃b d,v=.agg #[vI r.Ru,vI r.RD,vI r.Rv,vS b r.da.length d]/\St w0 [] w [sl b d r.da]):=by
 unfold wq at h;refine di.fS func115 fun e _=>?_;refine T ?_;intro _ _ i;refine LW.bi [0] i ?_;intro f g _ _ hf;refine LW.bd [(3,vS f (([0]:List Int).length) g)] #[vI 0,vI 0,vI 0,vS f (([0]:List Int).length) g] ?_;exact wk
instance k_115:Ct prog 115:={h:=@CZ}
theorem Dw{w0 N d L m M r}(h:oC N d L m M=some r){f j g}(k:j=d.parts.length)(l:rb w0 f g d.parts):
    di prog 123 #[.agg #[vI d.RB,vS f j g],vI L,vI m,.agg (uL M)] w0 (fun v w=>v=.tuple #[vI r.1,vI r.2]/\St w0 [] w []):=by
 subst k;unfold oC at h;refine di.fS func123 fun e _=>?_;refine T ?_;intro _ _ _ _ _ _ _ _ h _ J;refine gc h ?_ ?_<;>intro _ h
 · exact rt
 refine fA ?_;have:=J.drew;refine gb h fun _ K h=>?_;obtain⟨_,_,_,rfl,_,_,_,⟨_,_,_,_,_,_,_,_,_,_,_,_,rfl,_,_,_,_,_,_⟩,_⟩:=l.idx K;refine go ?_;refine T ?_;refine jP 5 ?_;refine T ?_;intro b _ h n A o B p C q G x H z I _ _;refine AW.u (i:=9) rfl (by kernel_rfl) rfl rfl (dL.build (vs:=[(0,.agg #[vS n b.Rp.Ro.length A,vS o b.own.length B,vS p b.Rr.length C,vS q b.py.ag.length G,vI b.py.gc.Ru,vI b.py.gc.RD,vI b.py.gc.Rv,vS x b.py.gc.da.length H,vS z b.db.length I,vI b.RA,vI b.Rz,vI b.dc.cd,vI b.dc.dg,vI b.dc.dn,vI b.du,vI b.Rx]),(1,vI m),(2,vI d.RB)]) (cs:=#[vS n b.Rp.Ro.length A,vS o b.own.length B,vS p b.Rr.length C,vS q b.py.ag.length G,vI b.py.gc.Ru,vI b.py.gc.RD,vI b.py.gc.Rv,vS x b.py.gc.da.length H,vS z b.db.length I,vI b.RA,vI b.Rz,vI b.dc.cd,vI b.dc.dg,vI b.dc.dn,vI b.du,vI b.Rx,vI m,vI d.RB,vI 0]) rfl (by kernel_rfl)) ?_;exact wk
instance k_123:Ct prog 123:={h:=@Dw}
theorem FV{w0 N ap r}(h:qZ N ap=some r){ar aN az}(aP:aN=ap.Rp.Ro.length)(G:rb w0 ar az ap.Rp.Ro){au aO aA}(aQ:aO=ap.own.length)(k:rb w0 au aA ap.own):
    di prog 73 #[.agg (uB ar aN az au aO aA ap)] w0 (fun v w=>∃X ae Y af Z ah aa ai ab aj ac ak,v=.tuple #[.agg (uP X r.1.Rp.Ro.length ae Y r.1.own.length af Z r.1.Rr.length ah aa r.1.py.ag.length ai ab r.1.py.gc.da.length aj ac r.1.db.length ak r.1),.bool r.2]/\St w0 [] w [sl X ae r.1.Rp.Ro,sl Y af r.1.own,sl Z ah r.1.Rr,sl aa ai r.1.py.ag,sl ab aj r.1.py.gc.da,sl ac ak r.1.db]):=by
 subst aP aQ;unfold qZ at h;refine di.fS func73 fun e bL=>?_;refine we bL fun _ _ bM=>?_;refine LW.al bM fun bE _ bN=>?_;refine gb h fun aq bS h=>?_;refine LW.cl (zZ bS) ?_;rintro _ _ ⟨B,C,rfl,hs⟩;have am:=bN.add hs;refine gs ?_;obtain⟨bT,bR,bJ⟩:=ob h;refine CW.jn [1,2,4] [0,1,2] [(28,.bool bT)] am (h1:=?_) (h2:=?_)
 · have h:=bR;refine gB h ?_ ?_<;>intro _ h
   · refine go ?_;cases oi h;exact am.po [0,1,2]
   refine gb h fun _ br h=>?_;refine go ?_;refine LW.c0 (zW br rfl (am.rB G)) am fun _ aK=>?_;refine gB h ?_ ?_<;>intro _ h
   · refine go ?_;cases oi h;exact aK.po [0,1,2]
   refine gb h fun _ bs h=>?_;refine go ?_;refine LW.c0 (CG bs rfl (aK.rB k)) aK fun _ bO=>?_;refine go ?_;cases oi h;exact bO.po [0,1,2]
 intro e _ aV;have h:=bJ;refine gc h ?_ ?_<;>intro _ h
 · refine fm [] #[vS none 0 0,vS none 0 0,vS none 0 0,vS none 0 0,vI 0,vI 0,vI 0,vS none 0 0,vS none 0 0,vI 0,vI 0,vI 0,vI 0,vI 0,vI 0,vI 0] ?_;refine LW.st aV 1 fun _ bP=>?_;refine go ?_;cases h;have bQ:=bP.nil (α:=Int);have aX:=bQ.nil (α:=Int);have aY:=aX.nil (α:=dj);have aZ:=aY.nil (α:=c6);have a0:=aZ.nil (α:=Int);have aF:=a0.nil (α:=ef);exact Rc (dE.b aF 7 rfl iE rfl rfl) tt ⟨none,0,none,0,none,0,none,0,none,0,none,0,rfl,aF.pk [5,4,3,2,1,0]⟩
 refine gb h fun _ bt h=>?_;refine LW.cl (yc bt) ?_;rintro _ _ ⟨_,_,rfl,hs⟩;have a1:=aV.add hs;refine LW.bi [-1, -1] a1 ?_;intro aR aT an O hf;refine LW.bd [(1,vI 4),(4,vI 1000000),(10,vS aR (([-1, -1]:List Int).length) aT)] #[vI 0,vI 4,vI 0,vI 0,vI 1000000,vI 0,vI 0,vI 0,vI 0,.bool false,vS aR (([-1, -1]:List Int).length) aT,vS none 0 0,vS none 0 0] ?_;have⟨M,bu,h⟩:=ob h;refine LW.cl (ye bu rfl (O.rI 1 rfl) rfl (O.rI 0 rfl) rfl (show dX (α:=Int) (eJ an []) an none 0 [] from dX.nil _ _ _ _ (Nat.zero_le _)) rfl (show dX (α:=eL) (eJ an []) an none 0 [] from dX.nil _ _ _ _ (Nat.zero_le _))) ?_;rintro _ _ ⟨W,ad,rfl,hs⟩;have a2:=O.add hs;refine gs ?_;obtain⟨d,bq,bK⟩:=ob h;refine CW.cut (fun e wb=>∃(L:Nat) (l:Ad) (o:Nat) (m:Ad) (p:Nat) (n:Ad) (q:Nat) (H:Ad) (J:Nat) (I:Ad) (K:Nat) (f:Ad) (g:Nat),En e [(2,.pointer (some ⟨bE,0,none⟩)),(6,vS W M.1.length ad),(7,vI M.2),(8,.pointer (some ⟨L,0,none⟩))]/\St w0 [] wb [sl W ad M.1,bx bE 54 [vS none 0 0,vS none 0 0,vS none 0 0,vS none 0 0,vI 0,vI 0,vI 0,vS none 0 0,vS none 0 0,vI 0,vI 0,vI 0,vI 0,vI 0,vI 0,vI 0],bx L 54 [vS l d.1.length o,vS m d.2.1.length p,vS n d.2.2.1.length q,vS H d.2.2.2.1.length J,vI 0,vI 0,vI 0,vS I d.2.2.2.2.1.length K,vS f d.2.2.2.2.2.length g,vI 0,vI 0,vI 0,vI 0,vI 0,vI 0,vI 0],sl l o d.1,sl m p d.2.1,sl n q d.2.2.1,sl H J d.2.2.2.1,sl I K d.2.2.2.2.1,sl f g d.2.2.2.2.2]) ?_ ?_
 · have h:=bq;refine dW ?_;have R:=a2.drew;refine gb h fun A aL h=>?_;refine AW.all (rs:=[2,8]) (by kernel_rfl) (by simp) ⟨?_,?_,trivial⟩
   · refine⟨_,rfl,?_⟩;refine LW.cl (uG aL rfl (R.rB G)) ?_;rintro _ _ ⟨x,z,rfl,hs⟩;have U:=R.add hs;refine jn ?_;have⟨ao,aM,h⟩:=ob h;refine AW.all (rs:=[5,8]) (by kernel_rfl) (by simp) ⟨?_,?_,trivial⟩
     · refine⟨_,rfl,?_⟩;refine LW.cl (tx aM rfl (U.rB k)) ?_;rintro _ _ ⟨av,aB,rfl,hs⟩;have a3:=U.add hs;refine jn ?_;refine AW.u (i:=7) rfl (by kernel_rfl) rfl rfl (dL.build (vs:=[(0,.agg #[vS x A.Ro.length z]),(1,vS av ao.length aB),(2,vS B aq.1.length C)]) (cs:=#[vS x A.Ro.length z,vS av ao.length aB,vS B aq.1.length C,vS none 0 0,vI 0,vI 0,vI 0,vS none 0 0,vS none 0 0,vI 0,vI 0,vI 0,vI 0,vI 0,vI 0,vI 0]) rfl (by kernel_rfl)) ?_;refine jO 8 ?_;refine LW.al a3 fun bF _ a4=>?_;refine jn ?_;refine jO 9 ?_;refine LW.st a4 0 fun _ a5=>?_;refine jn ?_;refine go ?_;have a7:=a5.nil (α:=c6);have a8:=a7.nil (α:=Int);have a9:=a8.nil (α:=ef);cases oi h;exact⟨bF,x,z,av,aB,B,C,none,0,none,0,none,0,a9.po [6,10,3,5,4,9,2,1,0]⟩
     refine⟨_,rfl,?_⟩;refine LW.al U fun bG _ aG=>?_;refine jn ?_;refine jO 5 ?_;refine LW.cl (tx aM rfl (aG.rB k)) ?_;rintro _ _ ⟨aw,aC,rfl,hs⟩;have ba:=aG.add hs;refine jn ?_;refine AW.u (i:=7) rfl (by kernel_rfl) rfl rfl (dL.build (vs:=[(0,.agg #[vS x A.Ro.length z]),(1,vS aw ao.length aC),(2,vS B aq.1.length C)]) (cs:=#[vS x A.Ro.length z,vS aw ao.length aC,vS B aq.1.length C,vS none 0 0,vI 0,vI 0,vI 0,vS none 0 0,vS none 0 0,vI 0,vI 0,vI 0,vI 0,vI 0,vI 0,vI 0]) rfl (by kernel_rfl)) ?_;refine jO 9 ?_;refine LW.st ba 1 fun _ bb=>?_;refine jn ?_;refine go ?_;have bc:=bb.nil (α:=c6);have be:=bc.nil (α:=Int);have bf:=be.nil (α:=ef);cases oi h;exact⟨bG,x,z,aw,aC,B,C,none,0,none,0,none,0,bf.po [6,10,4,5,3,9,2,1,0]⟩
   refine⟨_,rfl,?_⟩;refine LW.al R fun bI _ aH=>?_;refine jn ?_;refine jO 2 ?_;refine LW.cl (uG aL rfl (aH.rB G)) ?_;rintro _ _ ⟨ax,aD,rfl,hs⟩;have aI:=aH.add hs;refine jn ?_;have⟨aW,bv,h⟩:=ob h;refine jO 5 ?_;refine LW.cl (tx bv rfl (aI.rB k)) ?_;rintro _ _ ⟨ay,aE,rfl,hs⟩;have bg:=aI.add hs;refine jn ?_;refine AW.u (i:=7) rfl (by kernel_rfl) rfl rfl (dL.build (vs:=[(0,.agg #[vS ax A.Ro.length aD]),(1,vS ay aW.length aE),(2,vS B aq.1.length C)]) (cs:=#[vS ax A.Ro.length aD,vS ay aW.length aE,vS B aq.1.length C,vS none 0 0,vI 0,vI 0,vI 0,vS none 0 0,vS none 0 0,vI 0,vI 0,vI 0,vI 0,vI 0,vI 0,vI 0]) rfl (by kernel_rfl)) ?_;refine jO 9 ?_;refine LW.st bg 2 fun _ bj=>?_;refine jn ?_;refine go ?_;have bk:=bj.nil (α:=c6);have bl:=bk.nil (α:=Int);have bm:=bl.nil (α:=ef);cases oi h;exact⟨bI,ax,aD,ay,aE,B,C,none,0,none,0,none,0,bm.po [6,10,5,4,3,9,2,1,0]⟩
 rintro e _ ⟨L,l,o,m,p,n,q,H,J,I,K,f,g,hE,bn⟩;obtain⟨e,rfl⟩:=hE.out;have h:=bK;refine gb h fun j bw h=>?_;refine LW.cl (CZ bw) ?_;rintro _ _ ⟨aS,aU,rfl,hs⟩;have V:=bn.add hs;refine LW.bd [(0,vS W M.1.length ad),(1,.agg #[vI j.Ru,vI j.RD,vI j.Rv,vS aS j.da.length aU])] #[vS W M.1.length ad,vI j.Ru,vI j.RD,vI j.Rv,vS aS j.da.length aU] ?_;refine gb h fun _ bz h=>?_;refine LW.cl (AR bz rfl (V.rI 1 rfl) rfl (V.rI 0 rfl)) ?_;rintro _ _ ⟨bA,bC,bB,bD,rfl,hs⟩;have bo:=V.add hs;refine sC bo 5 fun _ bp=>?_;refine sC bp 4 fun _ aJ=>?_;refine go ?_;cases h;exact Rc (dE.b aJ 4 rfl iE rfl rfl) tt ⟨l,o,m,p,n,q,bA,bC,bB,bD,f,g,rfl,aJ.pk [6,7,8,0,1,11]⟩
instance k_73:Ct prog 73:={h:=@FV}
theorem JY{w0}{F:List Nat}{N k r}(h:sw N k=some r){m:Nat}{g j}(Y:dX (eJ w0 F) w0 g j k.b)(hS:St w0 F w0 [bx m 99 [vS g k.b.length j,vI k.i,vI k.h]]):
    di prog 107 #[.pointer (some ⟨m,0,none⟩)] w0 (fun v w=>∃q u,v=vS q r.1.length u/\St w0 F w [sl q u r.1,bx m 99 [vS g k.b.length j,vI r.2.i,vI r.2.h]]):=by
 unfold sw at h;refine di.fn func107 fun e=>?_;refine go ?_;refine LW.b0 (α:=Int) hS ?_;intro Z aa _ x hf;refine go ?_;obtain⟨z,A,R⟩:=ob h;refine CW.i2 A 0 [0] [] (fun l (d:Ad) (f:Nat)=>[(3,vS d l.1.length f),(4,vI l.2.1)]) (fun l d f=>[sl d f l.1,bx m 99 [vS g k.b.length j,vI l.2.2.1,vI l.2.2.2]]) x ?_ ?_ ?_
 · exact⟨Z,aa,x.po [0,1]⟩
 · intro l e d f _ o _ h;refine gc h ?_ ?_<;>intro _ h
   · refine T ?_;intro X _ h _ U;refine gc h ?_ ?_<;>intro _ h
     · refine gb h fun _ B h=>?_;refine LW.fZ (M:=[]) (L:=[bx m 99 [vS g k.b.length j,vI X.2.i,vI X.2.h],sl d f l.1]) (vs:=#[vI l.2.1]) (i:=1) lH rfl (by kernel_rfl) rfl rfl B U rfl (fun w G hG=>by cases(show G=[] from hG);exact⟨rfl,rfl⟩) rfl rfl ?_;intro _ _ _ _ _ hf;exact rt
     exact rt
   exact rt
 intro e d f _ _;have h:=R;refine T ?_;intro n _ h _ p;refine gc h ?_ ?_<;>intro _ h
 · refine gb h fun _ C h=>?_;refine LW.fZ (M:=[]) (L:=[bx m 99 [vS g k.b.length j,vI n.2.i,vI n.2.h],sl d f z.1]) (vs:=#[vI 4]) (i:=1) lH rfl (by kernel_rfl) rfl rfl C p rfl (fun w G hG=>by cases(show G=[] from hG);exact⟨rfl,rfl⟩) rfl rfl ?_;intro _ I K _ V hf;refine go ?_;replace h:=oi h;subst h;exact Ra ⟨I,K,rfl,V.pk [1,0]⟩
 refine gc h ?_ ?_<;>intro _ h
 · refine gb h fun _ H h=>?_;refine LW.fZ (M:=[]) (L:=[bx m 99 [vS g k.b.length j,vI n.2.i,vI n.2.h],sl d f z.1]) (vs:=#[vI 0]) (i:=1) lH rfl (by kernel_rfl) rfl rfl H p rfl (fun w G hG=>by cases(show G=[] from hG);exact⟨rfl,rfl⟩) rfl rfl ?_;intro _ J O _ W hf;refine go ?_;replace h:=oi h;subst h;exact Ra ⟨J,O,rfl,W.pk [1,0]⟩
 refine go ?_;replace h:=oi h;subst h;exact Ra ⟨d,f,rfl,p.pk [1,0]⟩
instance k_107:Ct prog 107:={h:=@JY}
theorem Iq{w0 N g r}(h:qv N g=some r){b i d}(j:i=g.length)(k:rb w0 b d g):
    di prog 34 #[vS b i d] w0 (fun v w=>v=.bool r/\St w0 [] w []):=by
 subst j;unfold qv at h;refine di.fS func34 fun e _=>?_;refine fm [] #[vI 0,vI 0,vI 0] ?_;refine T ?_;intro n _ _ _ A;refine go ?_;obtain⟨m,q,l⟩:=ob h;refine CW.it q (fun f e wb=>En e [(0,vS b g.length d),(3,.pointer (some ⟨n,0,none⟩)),(9,vS b g.length d),(10,vI (g.length:Int)),(11,vI f.1)]/\St w0 [] wb [bx n 33 [vI f.2.1,vI f.2.2.1,vI f.2.2.2]]) (fun o x e wb=>match o with|.inl f=>x=.exit 0/\En e [(0,vS b g.length d)]/\St w0 [] wb [bx n 33 [vI f.2.1,vI f.2.2.1,vI f.2.2.2]]|.inr r=>x=.ret/\∃u,u=r/\∃v,gL prog f34.results e wb v/\v=.bool u/\St w0 [] wb []) ?_ (A.po [0]) ?_
 · intro f e _ o hM h;obtain⟨e,rfl,_⟩:=eo hM;refine gc h ?_ ?_<;>intro _ h
   · refine gb h fun _ C h=>?_;obtain⟨_,_,_,rfl,_,_,_,⟨_,_,_,_,rfl,_,_⟩,_⟩:=k.idx C;refine go ?_;refine T ?_;intro _ _ _ _ _ _ _ h _ _ _ _ _ _ B;obtain⟨G,p,z⟩:=ob h;refine CW.jn [0,3,6,9,10,11] [0,2] [(35,.bool G)] B (h1:=?_) (h2:=?_)
     · have h:=p;exact wk
     intro e _ _;have h:=z;refine gf [0,3,6,9,10,11,35] fun e=>?_;exact wk
   exact rt
 intro x e _ hM;rcases m with m|_
 · obtain⟨rfl,hM⟩:=hM;obtain⟨e,rfl,_⟩:=eo hM;have h:=l;exact wk
 obtain⟨rfl,u,rfl,hM⟩:=hM;cases l;exact And.intro trivial hM
instance k_34:Ct prog 34:={h:=@Iq}
theorem FF{w0 N am r}(h:pU N am=some r){J O K}(R:O=am.length)(U:rb w0 J K am):
    di prog 35 #[vS J O K] w0 (fun v w=>∃H I,v=.agg #[vI r.RB,vS H r.parts.length I]/\St w0 [] w [sl H I r.parts]):=by
 subst R;unfold pU at h;refine di.fS func35 fun e _=>?_;refine T ?_;intro an _ _;refine LW.bd [] #[vI 0,vS none 0 0] ?_;refine T ?_;intro ae _ _ _ _ _ _ h _ ap;refine gc h ?_ ?_<;>intro _ h
 · refine T ?_;intro _ aq;cases h;have ab:=aq.nil (α:=bh);exact And.intro trivial ⟨_,gL.one (dE.b ab 2 rfl qN rfl rfl),none,0,rfl,ab.pk [0]⟩
 refine go ?_;have ac:=ap.nil (α:=bh);obtain⟨_,ai,ao⟩:=ob h;refine CW.i2 ai 0 [2,3,13,14] [2] (fun j (f:Ad) (g:Nat)=>[(15,vI j.1)]) (fun j f g=>[bx ae 40 [vI 0,vS f j.2.length g],sl f g j.2]) ac ?_ ?_ ?_
 · exact⟨none,0,ac.po [2,1,0]⟩
 · intro j e f g _ o _ h;refine gc h ?_ ?_<;>intro _ h
   · refine gb h fun ad aj h=>?_;obtain⟨_,_,_,rfl,_,_,_,⟨V,X,W,Y,rfl,_,_⟩,_⟩:=U.idx aj;refine go ?_;refine T ?_;intro Z _ _ _ _ d _ h k u l x m z n A p B q C _ _ aa _ _ _ af;have ah:=af.pk (M:=[sl k u d.1.Rp.Ro,sl l x d.1.own,sl m z d.1.Rr,sl n A d.1.py.ag,sl p B d.1.py.gc.da,sl q C d.1.db]++[bx aa 54 (qP k u l x m z n A p B q C d.1),bx Z 35 (qB V X W Y ad),bx an 40 [vI 0,vS none 0 0],bx ae 40 [vI 0,vS f j.2.length g],sl f g j.2]) [1,2,3,4,5,6,0,7,8,9,10];have⟨_,ak,h⟩:=ob h;refine LW.fZ (M:=[sl k u d.1.Rp.Ro,sl l x d.1.own,sl m z d.1.Rr,sl n A d.1.py.ag,sl p B d.1.py.gc.da,sl q C d.1.db]) (L:=[bx aa 54 (qP k u l x m z n A p B q C d.1),bx Z 35 (qB V X W Y ad),bx an 40 [vI 0,vS none 0 0],bx ae 40 [vI 0,vS f j.2.length g],sl f g j.2]) (vs:=#[vS k d.1.Rp.Ro.length u,vS l d.1.own.length x,vS m d.1.Rr.length z,vS n d.1.py.ag.length A,vI d.1.py.gc.Ru,vI d.1.py.gc.RD,vI d.1.py.gc.Rv,vS p d.1.py.gc.da.length B,vS q d.1.db.length C,vI d.1.RA,vI d.1.Rz,vI d.1.dc.cd,vI d.1.dc.dg,vI d.1.dc.dn,vI d.1.du,vI d.1.Rx]) (i:=4) Ai rfl (by kernel_rfl) rfl rfl ak ah rfl (fun w G hG=>⟨k,u,l,x,m,z,n,A,p,B,q,C,rfl,hG⟩) rfl rfl ?_
     intro _ _ _ _ _ hf;exact wk
   exact rt
 intro e f g _ _;have h:=ao;exact wk
instance k_35:Ct prog 35:={h:=@FF}
theorem K9{w0 N G H r}(h:uA N G H=some r){b i f}(k:i=G.Ro.length)(m:rb w0 b f G.Ro){d j g}(l:j=H.Ro.length)(n:rb w0 d g H.Ro):
    di prog 68 #[.agg #[vS b i f],.agg #[vS d j g]] w0 (fun v w=>v=.bool r/\St w0 [] w []):=by
 subst k l;unfold uA at h;refine di.fS func68 fun e _=>?_;refine T ?_;intro _ _ _ _ _ I;obtain⟨O,L,M⟩:=ob h;refine CW.jn [2,3] [0,1] [(13,.bool O)] I (h1:=?_) (h2:=?_)
 · have h:=L;exact wk
 intro e _ J;have h:=M;refine gc h ?_ ?_<;>intro _ h
 · exact rt
 refine go ?_;obtain⟨q,A,p⟩:=ob h;refine CW.mono (CW.lx [2,3] [0,1] [] 0 (fun z=>[(5,vI z)]) (RT prog f68.results (fun u=>.bool u) w0 []) J A (hb:=?_)) ?_
 · intro z e _ o K h;refine gc h ?_ ?_<;>intro _ h
   · refine fA ?_;have:=K.drew;refine gb h fun _ B h=>?_;obtain⟨_,_,_,rfl,_,_,_,rfl,_⟩:=m.idx B;refine go ?_;refine T ?_;have⟨_,C,h⟩:=ob h;obtain⟨_,_,_,rfl,_,_,_,rfl,_⟩:=n.idx C;refine go ?_;refine T ?_;refine gc h ?_ ?_<;>intro _ h
     · exact rt
     exact rt
   exact rt
 intro x e _ hM;rcases q with q|_
 · obtain⟨rfl,hM⟩:=hM;obtain⟨e,rfl,_⟩:=eo hM;rw[show e=dF e [] from rfl];have h:=p;exact rt
 obtain⟨rfl,u,rfl,hM⟩:=hM;cases p;exact And.intro trivial hM
instance k_68:Ct prog 68:={h:=@K9}
theorem LY{w0 N n u o r}(h:tQ N n u o=some r){b i f}(k:i=n.length)(m:rb w0 b f n){d j g}(l:j=o.Ro.length)(x:rb w0 d g o.Ro):
    di prog 33 #[vS b i f,.agg (uE u),.agg #[vS d j g]] w0 (fun v w=>v=.bool r/\St w0 [] w []):=by
 subst k l;unfold tQ at h;refine di.fS func33 fun e _=>?_;refine T ?_;intro _ _ _ _ _ p;refine gc h ?_ ?_<;>intro _ h
 · exact rt
 refine fA ?_;have:=p.drew;refine T ?_;intro _ _ h _ _;refine bH h ?_ ?_<;>intro _ h
 · refine gb h fun _ q h=>?_;obtain⟨_,_,_,rfl,_,_,_,⟨_,_,_,_,rfl,_,_⟩,_⟩:=m.idx q;exact wk
 exact rt
instance k_33:Ct prog 33:={h:=@LY}
end Go.Kx
