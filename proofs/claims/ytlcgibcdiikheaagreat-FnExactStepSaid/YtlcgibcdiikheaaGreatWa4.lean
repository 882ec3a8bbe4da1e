import Derived.Test.YtlcgibcdiikheaaGreatWa1
import Derived.Test.YtlcgibcdiikheaaGreatWa2
namespace Go.Kx
open Go Go.RowKit Go.Proofs
open Tryz
set_option maxRecDepth 10000
set_option maxHeartbeats 8000000
set_option linter.unusedVariables false
set_option linter.unusedSimpArgs false
theorem E1 {w0 N n z r} (h:yH N n z=some r) {b f d} (g:f=n.length) (i:rb w0 b d n) :
    pY prog 195 #[vS b f d,vI z] w0 (fun v w=>v=vI r∧St w0 [] w []):=by
 subst g;unfold yH at h;refine pY.fn func195 fun e=>?_;have p:=St.start w0;refine go ?_;obtain ⟨k,l,j⟩:=ob h;refine CW.mono (CW.lx [0] [] [1] 0 (fun m=>[(1,vI m.1),(5,vI m.2)]) (RT prog f195.results (fun u=>vI u) w0 []) p l (hb:=?_)) ?_
 · intro m e aq o X h;refine gc h ?_ ?_<;>intro _ h
   · refine gb h fun ar q h=>?_;obtain ⟨ao,ap,W,rfl,A,ac,ad,⟨L,R,M,U,O,V,rfl,C,G,H⟩,B⟩:=i.idx q;refine go ?_;refine T ?_;refine CW.fl [0,1,5,18] fun e=>?_;refine gc h ?_ ?_<;>intro _ h
     · exact rt
     refine go ?_;refine T ?_;refine gc h ?_ ?_<;>intro _ h
     · exact rt
     refine go ?_;refine T ?_;refine CW.fl [0,1,5,36] fun e=>?_;refine gc h ?_ ?_<;>intro _ h
     · exact rt
     refine go ?_;refine T ?_;refine gc h ?_ ?_<;>intro _ h
     · exact rt
     refine go ?_;refine T ?_;refine CW.fl [0,1,5,54] fun e=>?_;refine gc h ?_ ?_<;>intro _ h
     · exact rt
     refine go ?_;refine T ?_;refine gc h ?_ ?_<;>intro _ h
     · exact rt
     refine go ?_;refine T ?_;refine CW.fl [0,1,5,72] fun e=>?_;refine gc h ?_ ?_<;>intro _ h
     · exact rt
     refine go ?_;refine T ?_;refine gc h ?_ ?_<;>intro _ h
     · exact rt
     refine go ?_;refine T ?_;refine CW.fl [0,1,5,90] fun e=>?_;refine gc h ?_ ?_<;>intro _ h
     · exact rt
     refine go ?_;refine T ?_;refine LW.u (qp.rem rfl rfl (by decide)) rfl ?_;refine go ?_;refine LW.u (qp.bne underlying4 rfl rfl) rfl ?_;refine gc h ?_ ?_<;>intro _ h
     · exact rt
     refine go ?_;refine T ?_;intro ak I h af Y;refine CW.fl [0,1,5,112] fun e=>?_;refine gc h ?_ ?_<;>intro _ h
     · exact rt
     refine go ?_;refine T ?_;intro am J h ah Z;refine gc h ?_ ?_<;>intro _ h
     · exact rt
     refine go ?_;refine T ?_;intro an K h ai aa;refine CW.fl [0,1,5,130] fun e=>?_;refine gc h ?_ ?_<;>intro _ h
     · exact rt
     exact rt
   exact rt
 intro x e aj hM;rcases k with k | ae
 · obtain ⟨rfl,hM⟩:=hM;obtain ⟨e,rfl,ab⟩:=eo hM;have h:=j;exact rt
 obtain ⟨rfl,u,rfl,hM⟩:=hM;cases j;exact And.intro trivial hM
instance k_195:Ct prog 195:=⟨by kernel_rfl,@E1⟩
theorem Nm {w0 N n z r} (h:Cq N n z=some r) {b f d} (g:f=n.length) (i:rb w0 b d n) :
    pY prog 333 #[vS b f d,vI z] w0 (fun v w=>v=vI r∧St w0 [] w []):=by
 subst g;unfold Cq at h;refine pY.fn func333 fun e=>?_;have p:=St.start w0;refine gc h ?_ ?_<;>intro _ h
 · exact rt
 refine go ?_;obtain ⟨k,l,j⟩:=ob h;refine CW.mono (CW.lx [0] [] [1] 0 (fun m=>[(1,vI m.1),(5,vI m.2)]) (RT prog f333.results (fun u=>vI u) w0 []) p l (hb:=?_)) ?_
 · intro m e ah o V h;refine rU [0,1,5,15] fun e=>?_;refine gc h ?_ ?_<;>intro _ h
   · refine gb h fun ai q h=>?_;obtain ⟨ae,af,A,rfl,B,Y,Z,⟨K,O,L,R,M,U,rfl,G,H,I⟩,C⟩:=i.idx q;refine go ?_;refine T ?_;intro ad J h ab W;refine gc h ?_ ?_<;>intro _ h
     · exact rt
     exact rt
   exact rt
 intro x e ac hM;rcases k with k | aa
 · obtain ⟨rfl,hM⟩:=hM;obtain ⟨e,rfl,X⟩:=eo hM;have h:=j;exact rt
 obtain ⟨rfl,u,rfl,hM⟩:=hM;cases j;exact And.intro trivial hM
instance k_333:Ct prog 333:=⟨by kernel_rfl,@Nm⟩
theorem Mi {w0 N p r} (h:Cc N p=some r) {b j d} (m:j=p.length) (n:rb w0 b d p) :
    pY prog 286 #[vS b j d] w0 (fun v w=>∃ q x,v=vS q r.length x∧St w0 [] w [sl q x r]):=by
 subst m;unfold Cc at h;refine pY.fn func286 fun e=>?_;have H:=St.start w0;refine gb h fun ao K h=>?_;refine LW.mk PM rfl rfl K H rfl ?_;intro C l am I hf;refine go ?_;obtain ⟨ae,B,G⟩:=ob h;refine CW.ie B 0 (fun k e wb=>En e [(0,vS b p.length d),(3,vS C k.1.length l),(4,vI k.2)]∧St w0 [] wb [sl C l k.1]) ?_ (I.po [0]) ?_
 · intro k e an o hM h;obtain ⟨e,rfl,aa⟩:=eo hM;refine gc h ?_ ?_<;>intro _ h
   · refine gb h fun ap L h=>?_;obtain ⟨Z,ad,O,rfl,R,ac,W,rfl,U⟩:=n.idx L;refine go ?_;refine T ?_;intro aj Y h af z;have ⟨ak,f,h⟩:=ob h;obtain ⟨u,A,hae,V,X⟩:=z.qk (α:=qc) (i:=0) rfl f;subst hae;refine go ?_;have ⟨M,g,h⟩:=ob h;refine LW.se 0 z 0 f g (hM:=A1) fun ah J=>?_;refine go ?_;replace h:=oi h;subst h;exact ⟨rfl,⟨⟨rfl,(show (vS (some ⟨u,A,none⟩) k.1.length l:Value)=vS (some ⟨u,A,none⟩) M.length l by rw [pV (oi g)]),rfl,trivial⟩,J.pk [0]⟩⟩
   exact rt
 rintro e ai ⟨hE,ab⟩;obtain ⟨e,rfl⟩:=hE.out;have h:=G;exact rt
instance k_286:Ct prog 286:=⟨by kernel_rfl,@Mi⟩
theorem OG {w0 N b r} (h:AB N b=some r) {l u o} (A:u=b.pX.length) (G:rb w0 l o b.pX) {m x p} (B:x=b.Vh.length) (H:rb w0 m p b.Vh) {n z q} (C:z=b.Vf.length) (I:rb w0 n q b.Vf) :
    pY prog 355 #[.agg #[vI b.Vr,vI b.Vc,vI b.box,vI b.Vp,vI b.qx,vI b.gE,vI b.Vl,vI b.qw,vI b.qq,.bool b.Vm,vS l u o,vS m x p,vS n z q]] w0 (fun v w=>∃ d i, ∃ f j, ∃ g k,v=.agg #[vI r.Vr,vI r.Vc,vI r.box,vI r.Vp,vI r.qx,vI r.gE,vI r.Vl,vI r.qw,vI r.qq,.bool r.Vm,vS d r.pX.length i,vS f r.Vh.length j,vS g r.Vf.length k]∧St w0 [] w [sl d i r.pX,sl f j r.Vh,sl g k r.Vf]):=by
 subst A B C;unfold AB at h;refine pY.fn func355 fun e=>?_;have ak:=St.start w0;refine T ?_;intro aN aQ am aO aR an aP aS ao aT ap aU aq aV ar aw au ax av;refine T ?_;intro ay J az K aA L aB M aC O aK aa h ad ah aD R aE U aL ab h ae ai aF V;refine T ?_;intro aG W aM ac h af aj aH X aI Y aJ Z;exact rt
instance k_355:Ct prog 355:=⟨by kernel_rfl,@OG⟩
theorem KO {w0 N b r} (h:vF N b=some r) {k q o} (z:q=b.ag.length) (U:rb w0 k o b.ag) {n x p} (A:x=b.gc.pT.length) (B:rb w0 n p b.gc.pT) :
    pY prog 260 #[.agg #[vS k q o,vI b.gc.Ve,vI b.gc.Vn,vI b.gc.Vg,vS n x p]] w0 (fun v w=>∃ d g, ∃ f j,v=.agg #[vS d r.ag.length g,vI r.gc.Ve,vI r.gc.Vn,vI r.gc.Vg,vS f r.gc.pT.length j]∧St w0 [] w [sl d g r.ag,sl f j r.gc.pT]):=by
 subst z A;unfold vF at h;refine pY.fn func260 fun e=>?_;have Y:=St.start w0;refine T ?_;intro an aq Z ao ar aa ap au ab av O;refine LW.b0 (α:=Int) O ?_;intro ak am ae J hf;refine gb h fun K M h=>?_;refine LW.sh (l:=([]:List Int)) (m:=b.gc.pT) xN rfl rfl (J.rB B) M J (i:=0) rfl rfl ?_;intro C H af ac hf;refine T ?_;intro ah R;refine dW ?_;have ad:=R.drew;refine go ?_;refine jP 2 ?_;refine T ?_;intro L X h G I ai V;refine AW.u (i:=4) rfl (by kernel_rfl) rfl rfl (qp.build (vs:=[(0,vS G L.length I),(1,.agg #[vI b.gc.Ve,vI b.gc.Vn,vI b.gc.Vg,vS C K.length H])]) (cs:=#[vS G L.length I,vI b.gc.Ve,vI b.gc.Vn,vI b.gc.Vg,vS C K.length H]) rfl (by kernel_rfl)) ?_;refine T ?_;intro aj W;exact rt
instance k_260:Ct prog 260:=⟨by kernel_rfl,@KO⟩
theorem N4 {w0 N b r} (h:sY N b=some r) :
    pY prog 93 #[.agg #[vI b.gE,vI b.qa,vI b.qg]] w0 (fun v w=>v=.bool r∧St w0 [] w []):=by
 unfold sY at h;refine pY.fn func93 fun e=>?_;have d:=St.start w0;refine T ?_;intro o p f;refine T ?_;intro x k h q g;refine bH h ?_ ?_<;>intro _ h
 · refine T ?_;intro z l h u i;refine bH h ?_ ?_<;>intro _ h
   · refine T ?_;intro A m h n j;exact rt
   exact rt
 exact rt
instance k_93:Ct prog 93:=⟨by kernel_rfl,@N4⟩
theorem OX {w0 N b r} (h:Au N b=some r) {d l i} (z:l=b.pX.length) (C:rb w0 d i b.pX) {f m j} (A:m=b.Vh.length) (G:rb w0 f j b.Vh) {g n k} (B:n=b.Vf.length) (H:rb w0 g k b.Vf) :
    pY prog 225 #[.agg #[vI b.Vr,vI b.Vc,vI b.box,vI b.Vp,vI b.qx,vI b.gE,vI b.Vl,vI b.qw,vI b.qq,.bool b.Vm,vS d l i,vS f m j,vS g n k]] w0 (fun v w=>v=.bool r∧St w0 [] w []):=by
 subst z A B;unfold Au at h;refine pY.fn func225 fun e=>?_;have bR:=St.start w0;refine T ?_;intro cB cC bS cE bZ h cD X;refine gc h ?_ ?_<;>intro _ h
 · exact rt
 refine gc h ?_ ?_<;>intro _ h
 · refine gs ?_;obtain ⟨bs,ay,aT⟩:=ob h;refine CW.jn [] [] [(2,.bool bs)] X (h1:=?_) (h2:=?_)
   · have h:=ay;refine gB h ?_ ?_<;>intro _ h
     · refine gB h ?_ ?_<;>intro _ h
       · refine go ?_;refine bH h ?_ ?_<;>intro _ h
         · refine gB h ?_ ?_<;>intro _ h
           · refine gB h ?_ ?_<;>intro _ h
             · refine gB h ?_ ?_<;>intro _ h
               · refine gB h ?_ ?_<;>intro _ h
                 · refine go ?_;refine bH h ?_ ?_<;>intro _ h
                   · refine gB h ?_ ?_<;>intro _ h
                     · refine gB h ?_ ?_<;>intro _ h
                       · exact rt
                       exact rt
                     exact rt
                   exact rt
                 exact rt
               exact rt
             exact rt
           exact rt
         exact rt
       exact rt
     exact rt
   intro e b1 bT;have h:=aT;exact rt
 refine gs ?_;obtain ⟨az,am,av⟩:=ob h;refine CW.jn [1] [0] [(108,.bool az)] X (h1:=?_) (h2:=?_)
 · have h:=am;refine T ?_;intro cn be h b2 bU;refine bH h ?_ ?_<;>intro _ h
   · exact rt
   refine T ?_;intro co bf h b3 bV;refine bH h ?_ ?_<;>intro _ h
   · exact rt
   refine T ?_;intro cp bg h b4 bW;refine bH h ?_ ?_<;>intro _ h
   · exact rt
   refine T ?_;intro cq bi h b5 bX;refine bH h ?_ ?_<;>intro _ h
   · exact rt
   refine T ?_;intro cr bj h b6 bY;refine bH h ?_ ?_<;>intro _ h
   · exact rt
   refine gB h ?_ ?_<;>intro _ h
   · exact rt
   refine T ?_;intro cs bk h b7 aU;exact rt
 intro e b8 ad;have h:=av;refine gc h ?_ ?_<;>intro _ h
 · exact rt
 refine go ?_;obtain ⟨Y,ap,W⟩:=ob h;refine CW.mono (CW.lx [1] [0] [1] 0 (fun Z=>[(3,vI Z)]) (RT prog f225.results (fun u=>.bool u) w0 []) ad ap (hb:=?_)) ?_
 · intro Z e b9 o aV h;refine gc h ?_ ?_<;>intro _ h
   · refine gb h fun ct aq h=>?_;obtain ⟨bQ,b0,aS,rfl,ba,bc,bd,rfl,bb⟩:=C.idx aq;refine go ?_;refine T ?_;intro cu bl h ca aW;refine CW.fl [1,3,119] fun e=>?_;refine gc h ?_ ?_<;>intro _ h
     · exact rt
     exact rt
   exact rt
 intro x e cb hM;rcases Y with Y | bz
 · obtain ⟨rfl,hM⟩:=hM;obtain ⟨e,rfl,ae⟩:=eo hM;have h:=W;refine gs ?_;obtain ⟨aA,an,aw⟩:=ob h;refine CW.jn [1] [0] [(165,.bool aA)] ae (h1:=?_) (h2:=?_)
   · have h:=an;refine gB h ?_ ?_<;>intro _ h
     · refine gB h ?_ ?_<;>intro _ h
       · exact rt
       refine go ?_;refine bH h ?_ ?_<;>intro _ h
       · exact rt
       refine gB h ?_ ?_<;>intro _ h
       · exact rt
       refine gB h ?_ ?_<;>intro _ h
       · refine gB h ?_ ?_<;>intro _ h
         · exact rt
         refine gB h ?_ ?_<;>intro _ h
         · refine go ?_;refine T ?_;intro cv bm h cc aX;refine bH h ?_ ?_<;>intro _ h
           · exact rt
           refine T ?_;intro cw bn h ce aY;exact rt
         refine go ?_;refine T ?_;intro cx bo h cf aZ;exact rt
       exact rt
     refine go ?_;refine bH h ?_ ?_<;>intro _ h
     · refine gB h ?_ ?_<;>intro _ h
       · exact rt
       refine gB h ?_ ?_<;>intro _ h
       · refine T ?_;intro cy bp h cg a0;refine bH h ?_ ?_<;>intro _ h
         · exact rt
         refine T ?_;intro cz bq h ci a1;exact rt
       refine T ?_;intro cA br h cj a2;exact rt
     exact rt
   intro e ck af;have h:=aw;refine gc h ?_ ?_<;>intro _ h
   · exact rt
   refine gs ?_;obtain ⟨aB,ao,ax⟩:=ob h;refine CW.jn [1] [0] [(195,.bool aB)] af (h1:=?_) (h2:=?_)
   · have h:=ao;refine gB h ?_ ?_<;>intro _ h
     · refine gB h ?_ ?_<;>intro _ h
       · exact rt
       refine go ?_;refine bH h ?_ ?_<;>intro _ h
       · exact rt
       refine gB h ?_ ?_<;>intro _ h
       · exact rt
       exact rt
     refine go ?_;refine bH h ?_ ?_<;>intro _ h
     · exact rt
     exact rt
   intro e cl ah;have h:=ax;refine gc h ?_ ?_<;>intro _ h
   · exact rt
   refine go ?_;obtain ⟨I,O,p⟩:=ob h;refine CW.mono (CW.lx [1] [0] [1] 2 (fun aa=>[(4,vI aa)]) (RT prog f225.results (fun u=>.bool u) w0 []) ah O (hb:=?_)) ?_
   · intro aa e cm o a3 h;refine rU [1,4,200] fun e=>?_;refine gc h ?_ ?_<;>intro _ h
     · refine gb h fun bK U h=>?_;obtain ⟨aQ,bt,aC,rfl,aE,aI,aK,rfl,aG⟩:=G.idx U;refine go ?_;refine T ?_;intro bL aM h bA a4;refine gc h ?_ ?_<;>intro _ h
       · exact rt
       exact rt
     exact rt
   intro x e bB hM;rcases I with I | bw
   · obtain ⟨rfl,hM⟩:=hM;obtain ⟨e,rfl,ai⟩:=eo hM;have h:=p;refine gs ?_;obtain ⟨ar,L,ab⟩:=ob h;refine CW.jn [1] [0] [(224,.bool ar)] ai (h1:=?_) (h2:=?_)
     · have h:=L;refine gB h ?_ ?_<;>intro _ h
       · exact rt
       refine gB h ?_ ?_<;>intro _ h
       · exact rt
       exact rt
     intro e bC aj;have h:=ab;refine gc h ?_ ?_<;>intro _ h
     · exact rt
     refine go ?_;obtain ⟨J,R,q⟩:=ob h;refine CW.mono (CW.lx [1] [0] [] 4 (fun K=>[(5,vI K)]) (RT prog f225.results (fun u=>.bool u) w0 []) aj R (hb:=?_)) ?_
     · intro K e bD o ak h;refine rU [1,5,229] fun e=>?_;refine gc h ?_ ?_<;>intro _ h
       · refine gs ?_;refine CW.block ?_;refine gs ?_;obtain ⟨au,M,ac⟩:=ob h;refine CW.jn [1,5] [0] [(258,.bool au)] ak (h1:=?_) (h2:=?_)
         · have h:=M;refine gb h fun bM V h=>?_;obtain ⟨aR,bu,aD,rfl,aF,aJ,aL,rfl,aH⟩:=H.idx V;refine go ?_;refine T ?_;refine bH h ?_ ?_<;>intro _ h
           · refine go ?_;refine T ?_;intro bN aN h bE a5;refine bH h ?_ ?_<;>intro _ h
             · exact rt
             refine go ?_;refine T ?_;intro bO aO h bF a6;exact rt
           refine go ?_;refine T ?_;intro bP aP h bG a7;exact rt
         intro e bI a8;have h:=ac;refine gc h ?_ ?_<;>intro _ h
         · exact rt
         exact rt
       exact rt
     intro x e bJ hM;rcases J with J | bv
     · obtain ⟨rfl,hM⟩:=hM;obtain ⟨e,rfl,a9⟩:=eo hM;rw [show e=qy e [] from rfl];have h:=q;exact rt
     obtain ⟨rfl,u,rfl,hM⟩:=hM;cases q;exact And.intro trivial hM
   obtain ⟨rfl,u,rfl,hM⟩:=hM;cases p;exact And.intro trivial hM
 obtain ⟨rfl,u,rfl,hM⟩:=hM;cases W;exact And.intro trivial hM
instance k_225:Ct prog 225:=⟨by kernel_rfl,@OX⟩
theorem Pb {w0 N b r} (h:xH N b=some r) :
    pY prog 169 #[.agg #[vI b.Vp,vI b.rJ,vI b.sX,vI b.sc,vI b.Vc,vI b.sq]] w0 (fun v w=>v=.bool r∧St w0 [] w []):=by
 unfold xH at h;refine pY.fn func169 fun e=>?_;have n:=St.start w0;refine T ?_;intro U V d;obtain ⟨m,f,g⟩:=ob h;refine CW.jn [1] [0] [(24,.bool m)] d (h1:=?_) (h2:=?_)
 · have h:=f;refine T ?_;intro Y B h W o;refine bH h ?_ ?_<;>intro _ h
   · exact rt
   refine T ?_;intro Z C h X p;refine bH h ?_ ?_<;>intro _ h
   · exact rt
   refine T ?_;intro L i h G q;refine bH h ?_ ?_<;>intro _ h
   · exact rt
   refine T ?_;intro M j h H u;exact rt
 intro e I x;have h:=g;refine gc h ?_ ?_<;>intro _ h
 · exact rt
 refine gc h ?_ ?_<;>intro _ h
 · refine T ?_;intro O k h J z;exact rt
 refine gc h ?_ ?_<;>intro _ h
 · refine T ?_;intro R l h K A;exact rt
 exact rt
instance k_169:Ct prog 169:=⟨by kernel_rfl,@Pb⟩
theorem HA {w0 N b r} (h:uR N b=some r) :
    pY prog 128 #[vI b] w0 (fun v w=>v=vI r∧St w0 [] w []):=by
 unfold uR at h;refine pY.fn func128 fun e=>?_;have d:=St.start w0;refine T ?_;intro j g h i f;refine gc h ?_ ?_<;>intro _ h
 · exact rt
 refine go ?_;refine LW.u (qp.rem rfl rfl (by decide)) rfl ?_;exact rt
instance k_128:Ct prog 128:=⟨by kernel_rfl,@HA⟩
theorem Hu {w0 N b r} (h:xu N b=some r) :
    pY prog 129 #[vI b] w0 (fun v w=>v=vI r∧St w0 [] w []):=by
 unfold xu at h;refine pY.fn func129 fun e=>?_;have d:=St.start w0;refine T ?_;intro j g h i f;refine gc h ?_ ?_<;>intro _ h
 · exact rt
 refine go ?_;refine LW.u (qp.quo rfl rfl (by decide)) rfl ?_;refine LW.u (qp.rem rfl rfl (by decide)) rfl ?_;exact rt
instance k_129:Ct prog 129:=⟨by kernel_rfl,@Hu⟩
theorem Iz {w0 N b r} (h:yd N b=some r) :
    pY prog 130 #[vI b] w0 (fun v w=>v=vI r∧St w0 [] w []):=by
 unfold yd at h;refine pY.fn func130 fun e=>?_;have d:=St.start w0;refine T ?_;intro j g h i f;refine gc h ?_ ?_<;>intro _ h
 · exact rt
 refine go ?_;refine LW.u (qp.quo rfl rfl (by decide)) rfl ?_;refine LW.u (qp.quo rfl rfl (by decide)) rfl ?_;exact rt
instance k_130:Ct prog 130:=⟨by kernel_rfl,@Iz⟩
theorem Dc {w0 N M O R r} (h:vV N M O R=some r) {b k g} (n:k=M.length) (Z:rb w0 b g M) {d l i} (p:l=O.Va.length) (z:rb w0 d i O.Va) {f m j} (q:m=R.Va.length) (A:rb w0 f j R.Va) :
    pY prog 167 #[vS b k g,.agg #[vS d l i],.agg #[vS f m j]] w0 (fun v w=>v=.bool r∧St w0 [] w []):=by
 subst n p q;unfold vV at h;refine pY.fn func167 fun e=>?_;have ay:=St.start w0;refine T ?_;intro aU aW az aV aX V;obtain ⟨av,X,ac⟩:=ob h;refine CW.jn [0,4,5] [0,1] [(20,.bool av)] V (h1:=?_) (h2:=?_)
 · have h:=X;refine T ?_;intro aZ aE h aY aA;refine bH h ?_ ?_<;>intro _ h
   · exact rt
   refine T ?_;intro aP aq h aI aB;refine bH h ?_ ?_<;>intro _ h
   · exact rt
   refine T ?_;intro aQ ar h aJ aC;exact rt
 intro e aK W;have h:=ac;refine gc h ?_ ?_<;>intro _ h
 · exact rt
 refine go ?_;obtain ⟨G,J,B⟩:=ob h;refine CW.mono (CW.lx [0,4,5] [0,1] [] 0 (fun H=>[(7,vI H)]) (RT prog f167.results (fun u=>.bool u) w0 []) W J (hb:=?_)) ?_
 · intro H e aL o C h;refine gc h ?_ ?_<;>intro _ h
   · refine gs ?_;refine CW.block ?_;refine gs ?_;obtain ⟨Y,I,U⟩:=ob h;refine CW.jn [0,4,5,7] [0,1] [(41,.bool Y)] C (h1:=?_) (h2:=?_)
     · have h:=I;refine dW ?_;have aD:=C.drew;refine gb h fun aR K h=>?_;obtain ⟨aw,aF,aa,rfl,ah,am,ao,rfl,aj⟩:=z.idx K;refine go ?_;refine T ?_;have ⟨aS,L,h⟩:=ob h;obtain ⟨ax,aG,ab,rfl,ai,an,ap,rfl,ak⟩:=A.idx L;refine go ?_;refine T ?_;refine bH h ?_ ?_<;>intro _ h
       · refine T ?_;intro aT au h aM ad;exact rt
       exact rt
     intro e aN ae;have h:=U;refine gc h ?_ ?_<;>intro _ h
     · exact rt
     exact rt
   exact rt
 intro x e aO hM;rcases G with G | aH
 · obtain ⟨rfl,hM⟩:=hM;obtain ⟨e,rfl,af⟩:=eo hM;rw [show e=qy e [] from rfl];have h:=B;exact rt
 obtain ⟨rfl,u,rfl,hM⟩:=hM;cases B;exact And.intro trivial hM
instance k_167:Ct prog 167:=⟨by kernel_rfl,@Dc⟩
theorem Fl {w0 N f g i r} (h:xm N f g i=some r) :
    pY prog 51 #[vI f,vI g,vI i] w0 (fun v w=>v=vI r∧St w0 [] w []):=by
 unfold xm at h;refine pY.fn func51 fun e=>?_;have b:=St.start w0;refine gs ?_;refine CW.region ?_;refine gs ?_;obtain ⟨j,d,h2⟩:=ob h;refine CW.jn [0,1,2] [] [(19,.bool j)] b (h1:=?_) (h2:=?_)
 · have h:=d;refine T ?_;intro B o h z k;refine bH h ?_ ?_<;>intro _ h
   · exact rt
   refine T ?_;intro C p h A l;refine bH h ?_ ?_<;>intro _ h
   · exact rt
   refine T ?_;intro G q h u m;exact rt
 intro e x n;have h:=h2;refine gc h ?_ ?_<;>intro _ h
 · exact rt
 exact rt
instance k_51:Ct prog 51:=⟨by kernel_rfl,@Fl⟩
end Go.Kx
