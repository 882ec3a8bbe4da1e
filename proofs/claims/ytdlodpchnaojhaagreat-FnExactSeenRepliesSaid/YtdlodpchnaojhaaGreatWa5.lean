import Derived.Test.YtdlodpchnaojhaaGreatWa4
namespace Go.Kx
open Go Go.RowKit Go.Proofs
open Go.IntKind (i64)
open Tryz
set_option maxRecDepth 10000
set_option maxHeartbeats 8000000
set_option linter.unusedVariables false
set_option linter.unusedSimpArgs false
theorem HQ {w0 N b r} (h:sO N b=some r) {d l i} (z:l=b.gX.length) (C:rb w0 d i b.gX) {f m j} (A:m=b.N8.length) (G:rb w0 f j b.N8) {g n k} (B:n=b.N4.length) (H:rb w0 g k b.N4) :
    gV prog 292 #[.agg #[vI b.Oe,vI b.N0,vI b.box,vI b.Od,vI b.iw,vI b.gE,vI b.N9,vI b.iv,vI b.iu,.bool b.Ob,vS d l i,vS f m j,vS g n k]] w0 (fun v w=>v=.bool r∧St w0 [] w []):=by
 subst z A B;unfold sO at h;refine gV.fn func292 fun e=>?_;have bR:=St.start w0;refine T ?_;intro cB cC bS cE bZ h cD X;refine gc h ?_ ?_<;>intro _ h
 · exact rt
 refine gc h ?_ ?_<;>intro _ h
 · refine gs ?_;obtain ⟨bs,ay,aT⟩:=ob h;refine CW.jn [] [] [(2,.bool bs)] X (h1:=?_) (h2:=?_)
   · have h:=ay;refine gB h ?_ ?_<;>intro _ h
     · refine gB h ?_ ?_<;>intro _ h
       · refine go ?_;refine bH h ?_ ?_<;>intro _ h
         · refine gB h ?_ ?_<;>intro _ h
           · refine gB h ?_ ?_<;>intro _ h
             · refine gB h ?_ ?_<;>intro _ h
               · refine gB h ?_ ?_<;>intro _ h
                 · refine go ?_;refine bH h ?_ ?_<;>intro _ h
                   · refine gB h ?_ ?_<;>intro _ h
                     · refine gB h ?_ ?_<;>intro _ h
                       · exact rt
                       exact rt
                     exact rt
                   exact rt
                 exact rt
               exact rt
             exact rt
           exact rt
         exact rt
       exact rt
     exact rt
   intro e b1 bT;have h:=aT;exact rt
 refine gs ?_;obtain ⟨az,am,av⟩:=ob h;refine CW.jn [1] [0] [(108,.bool az)] X (h1:=?_) (h2:=?_)
 · have h:=am;refine T ?_;intro cn be h b2 bU;refine bH h ?_ ?_<;>intro _ h
   · exact rt
   refine T ?_;intro co bf h b3 bV;refine bH h ?_ ?_<;>intro _ h
   · exact rt
   refine T ?_;intro cp bg h b4 bW;refine bH h ?_ ?_<;>intro _ h
   · exact rt
   refine T ?_;intro cq bi h b5 bX;refine bH h ?_ ?_<;>intro _ h
   · exact rt
   refine T ?_;intro cr bj h b6 bY;refine bH h ?_ ?_<;>intro _ h
   · exact rt
   refine gB h ?_ ?_<;>intro _ h
   · exact rt
   refine T ?_;intro cs bk h b7 aU;exact rt
 intro e b8 ad;have h:=av;refine gc h ?_ ?_<;>intro _ h
 · exact rt
 refine go ?_;obtain ⟨Y,ap,W⟩:=ob h;refine CW.mono (CW.lx [1] [0] [1] 0 (fun Z=>[(3,vI Z)]) (RT prog f292.results (fun u=>.bool u) w0 []) ad ap (hb:=?_)) ?_
 · intro Z e b9 o aV h;refine gc h ?_ ?_<;>intro _ h
   · refine gb h fun ct aq h=>?_;obtain ⟨bQ,b0,aS,rfl,ba,bc,bd,rfl,bb⟩:=C.idx aq;refine go ?_;refine T ?_;intro cu bl h ca aW;refine CW.fl [1,3,119] fun e=>?_;refine gc h ?_ ?_<;>intro _ h
     · exact rt
     exact rt
   exact rt
 intro x e cb hM;rcases Y with Y | bz
 · obtain ⟨rfl,hM⟩:=hM;obtain ⟨e,rfl,ae⟩:=eo hM;have h:=W;refine gs ?_;obtain ⟨aA,an,aw⟩:=ob h;refine CW.jn [1] [0] [(165,.bool aA)] ae (h1:=?_) (h2:=?_)
   · have h:=an;refine gB h ?_ ?_<;>intro _ h
     · refine gB h ?_ ?_<;>intro _ h
       · exact rt
       refine go ?_;refine bH h ?_ ?_<;>intro _ h
       · exact rt
       refine gB h ?_ ?_<;>intro _ h
       · exact rt
       refine gB h ?_ ?_<;>intro _ h
       · refine gB h ?_ ?_<;>intro _ h
         · exact rt
         refine gB h ?_ ?_<;>intro _ h
         · refine go ?_;refine T ?_;intro cv bm h cc aX;refine bH h ?_ ?_<;>intro _ h
           · exact rt
           refine T ?_;intro cw bn h ce aY;exact rt
         refine go ?_;refine T ?_;intro cx bo h cf aZ;exact rt
       exact rt
     refine go ?_;refine bH h ?_ ?_<;>intro _ h
     · refine gB h ?_ ?_<;>intro _ h
       · exact rt
       refine gB h ?_ ?_<;>intro _ h
       · refine T ?_;intro cy bp h cg a0;refine bH h ?_ ?_<;>intro _ h
         · exact rt
         refine T ?_;intro cz bq h ci a1;exact rt
       refine T ?_;intro cA br h cj a2;exact rt
     exact rt
   intro e ck af;have h:=aw;refine gc h ?_ ?_<;>intro _ h
   · exact rt
   refine gs ?_;obtain ⟨aB,ao,ax⟩:=ob h;refine CW.jn [1] [0] [(195,.bool aB)] af (h1:=?_) (h2:=?_)
   · have h:=ao;refine gB h ?_ ?_<;>intro _ h
     · refine gB h ?_ ?_<;>intro _ h
       · exact rt
       refine go ?_;refine bH h ?_ ?_<;>intro _ h
       · exact rt
       refine gB h ?_ ?_<;>intro _ h
       · exact rt
       exact rt
     refine go ?_;refine bH h ?_ ?_<;>intro _ h
     · exact rt
     exact rt
   intro e cl ah;have h:=ax;refine gc h ?_ ?_<;>intro _ h
   · exact rt
   refine go ?_;obtain ⟨I,O,p⟩:=ob h;refine CW.mono (CW.lx [1] [0] [1] 2 (fun aa=>[(4,vI aa)]) (RT prog f292.results (fun u=>.bool u) w0 []) ah O (hb:=?_)) ?_
   · intro aa e cm o a3 h;refine jE [1,4,200] fun e=>?_;refine gc h ?_ ?_<;>intro _ h
     · refine gb h fun bK U h=>?_;obtain ⟨aQ,bt,aC,rfl,aE,aI,aK,rfl,aG⟩:=G.idx U;refine go ?_;refine T ?_;intro bL aM h bA a4;refine gc h ?_ ?_<;>intro _ h
       · exact rt
       exact rt
     exact rt
   intro x e bB hM;rcases I with I | bw
   · obtain ⟨rfl,hM⟩:=hM;obtain ⟨e,rfl,ai⟩:=eo hM;have h:=p;refine gs ?_;obtain ⟨ar,L,ab⟩:=ob h;refine CW.jn [1] [0] [(224,.bool ar)] ai (h1:=?_) (h2:=?_)
     · have h:=L;refine gB h ?_ ?_<;>intro _ h
       · exact rt
       refine gB h ?_ ?_<;>intro _ h
       · exact rt
       exact rt
     intro e bC aj;have h:=ab;refine gc h ?_ ?_<;>intro _ h
     · exact rt
     refine go ?_;obtain ⟨J,R,q⟩:=ob h;refine CW.mono (CW.lx [1] [0] [] 4 (fun K=>[(5,vI K)]) (RT prog f292.results (fun u=>.bool u) w0 []) aj R (hb:=?_)) ?_
     · intro K e bD o ak h;refine jE [1,5,229] fun e=>?_;refine gc h ?_ ?_<;>intro _ h
       · refine gs ?_;refine CW.block ?_;refine gs ?_;obtain ⟨au,M,ac⟩:=ob h;refine CW.jn [1,5] [0] [(258,.bool au)] ak (h1:=?_) (h2:=?_)
         · have h:=M;refine gb h fun bM V h=>?_;obtain ⟨aR,bu,aD,rfl,aF,aJ,aL,rfl,aH⟩:=H.idx V;refine go ?_;refine T ?_;refine bH h ?_ ?_<;>intro _ h
           · refine go ?_;refine T ?_;intro bN aN h bE a5;refine bH h ?_ ?_<;>intro _ h
             · exact rt
             refine go ?_;refine T ?_;intro bO aO h bF a6;exact rt
           refine go ?_;refine T ?_;intro bP aP h bG a7;exact rt
         intro e bI a8;have h:=ac;refine gc h ?_ ?_<;>intro _ h
         · exact rt
         exact rt
       exact rt
     intro x e bJ hM;rcases J with J | bv
     · obtain ⟨rfl,hM⟩:=hM;obtain ⟨e,rfl,a9⟩:=eo hM;rw [show e=im e [] from rfl];have h:=q;exact rt
     obtain ⟨rfl,u,rfl,hM⟩:=hM;cases q;exact And.intro trivial hM
   obtain ⟨rfl,u,rfl,hM⟩:=hM;cases p;exact And.intro trivial hM
 obtain ⟨rfl,u,rfl,hM⟩:=hM;cases W;exact And.intro trivial hM
instance k_292:Ct prog 292:=⟨by kernel_rfl,@HQ⟩
theorem EY {w0 N b r} (h:m5 N b=some r) {k q o} (z:q=b.ag.length) (U:rb w0 k o b.ag) {n x p} (A:x=b.gc.gQ.length) (B:rb w0 n p b.gc.gQ) :
    gV prog 237 #[.agg #[vS k q o,vI b.gc.N2,vI b.gc.Oa,vI b.gc.N3,vS n x p]] w0 (fun v w=>∃ d g, ∃ f j,v=.agg #[vS d r.ag.length g,vI r.gc.N2,vI r.gc.Oa,vI r.gc.N3,vS f r.gc.gQ.length j]∧St w0 [] w [sl d g r.ag,sl f j r.gc.gQ]):=by
 subst z A;unfold m5 at h;refine gV.fn func237 fun e=>?_;have Y:=St.start w0;refine T ?_;intro an aq Z ao ar aa ap au ab av O;refine LW.b0 (α:=Int) O ?_;intro ak am ae J hf;refine gb h fun K M h=>?_;refine LW.jG (l:=([]:List Int)) (m:=b.gc.gQ) pH rfl rfl (J.rB B) M J (i:=0) rfl rfl ?_;intro C H af ac hf;refine T ?_;intro ah R;refine dW ?_;have ad:=R.drew;refine go ?_;refine jP 2 ?_;refine T ?_;intro L X h G I ai V;refine AW.u (i:=4) rfl (by kernel_rfl) rfl rfl (iq.build (vs:=[(0,vS G L.length I),(1,.agg #[vI b.gc.N2,vI b.gc.Oa,vI b.gc.N3,vS C K.length H])]) (cs:=#[vS G L.length I,vI b.gc.N2,vI b.gc.Oa,vI b.gc.N3,vS C K.length H]) rfl (by kernel_rfl)) ?_;refine T ?_;intro aj W;exact rt
instance k_237:Ct prog 237:=⟨by kernel_rfl,@EY⟩
theorem Hr {w0 N b r} (h:pw N b=some r) :
    gV prog 129 #[.agg #[vI b.Od,vI b.jI,vI b.mN,vI b.kc,vI b.N0,vI b.kK]] w0 (fun v w=>v=.bool r∧St w0 [] w []):=by
 unfold pw at h;refine gV.fn func129 fun e=>?_;have n:=St.start w0;refine T ?_;intro U V d;obtain ⟨m,f,g⟩:=ob h;refine CW.jn [1] [0] [(24,.bool m)] d (h1:=?_) (h2:=?_)
 · have h:=f;refine T ?_;intro Y B h W o;refine bH h ?_ ?_<;>intro _ h
   · exact rt
   refine T ?_;intro Z C h X p;refine bH h ?_ ?_<;>intro _ h
   · exact rt
   refine T ?_;intro L i h G q;refine bH h ?_ ?_<;>intro _ h
   · exact rt
   refine T ?_;intro M j h H u;exact rt
 intro e I x;have h:=g;refine gc h ?_ ?_<;>intro _ h
 · exact rt
 refine gc h ?_ ?_<;>intro _ h
 · refine T ?_;intro O k h J z;exact rt
 refine gc h ?_ ?_<;>intro _ h
 · refine T ?_;intro R l h K A;exact rt
 exact rt
instance k_129:Ct prog 129:=⟨by kernel_rfl,@Hr⟩
theorem Bp {w0 N b r} (h:l8 N b=some r) :
    gV prog 150 #[vI b] w0 (fun v w=>v=vI r∧St w0 [] w []):=by
 unfold l8 at h;refine gV.fn func150 fun e=>?_;have d:=St.start w0;refine T ?_;intro j g h i f;refine gc h ?_ ?_<;>intro _ h
 · exact rt
 refine go ?_;refine LW.u (iq.rem rfl rfl (by decide)) rfl ?_;exact rt
instance k_150:Ct prog 150:=⟨by kernel_rfl,@Bp⟩
theorem A3 {w0 N b r} (h:oK N b=some r) :
    gV prog 241 #[vI b] w0 (fun v w=>v=vI r∧St w0 [] w []):=by
 unfold oK at h;refine gV.fn func241 fun e=>?_;have d:=St.start w0;refine T ?_;intro j g h i f;refine gc h ?_ ?_<;>intro _ h
 · exact rt
 refine go ?_;refine LW.u (iq.quo rfl rfl (by decide)) rfl ?_;refine LW.u (iq.rem rfl rfl (by decide)) rfl ?_;exact rt
instance k_241:Ct prog 241:=⟨by kernel_rfl,@A3⟩
theorem Cr {w0 N b r} (h:pW N b=some r) :
    gV prog 242 #[vI b] w0 (fun v w=>v=vI r∧St w0 [] w []):=by
 unfold pW at h;refine gV.fn func242 fun e=>?_;have d:=St.start w0;refine T ?_;intro j g h i f;refine gc h ?_ ?_<;>intro _ h
 · exact rt
 refine go ?_;refine LW.u (iq.quo rfl rfl (by decide)) rfl ?_;refine LW.u (iq.quo rfl rfl (by decide)) rfl ?_;exact rt
instance k_242:Ct prog 242:=⟨by kernel_rfl,@Cr⟩
theorem yu {w0 N f g i r} (h:o1 N f g i=some r) :
    gV prog 138 #[vI f,vI g,vI i] w0 (fun v w=>v=vI r∧St w0 [] w []):=by
 unfold o1 at h;refine gV.fn func138 fun e=>?_;have b:=St.start w0;refine gs ?_;refine CW.region ?_;refine gs ?_;obtain ⟨j,d,h2⟩:=ob h;refine CW.jn [0,1,2] [] [(19,.bool j)] b (h1:=?_) (h2:=?_)
 · have h:=d;refine T ?_;intro B o h z k;refine bH h ?_ ?_<;>intro _ h
   · exact rt
   refine T ?_;intro C p h A l;refine bH h ?_ ?_<;>intro _ h
   · exact rt
   refine T ?_;intro G q h u m;exact rt
 intro e x n;have h:=h2;refine gc h ?_ ?_<;>intro _ h
 · exact rt
 exact rt
instance k_138:Ct prog 138:=⟨by kernel_rfl,@yu⟩
theorem IU {w0 N b r} (h:ka N b=some r) :
    gV prog 113 #[.agg #[vI b.gE,vI b.gT,vI b.g8]] w0 (fun v w=>v=.bool r∧St w0 [] w []):=by
 unfold ka at h;refine gV.fn func113 fun e=>?_;have d:=St.start w0;refine T ?_;intro o p f;refine T ?_;intro x k h q g;refine bH h ?_ ?_<;>intro _ h
 · refine T ?_;intro z l h u i;refine bH h ?_ ?_<;>intro _ h
   · refine T ?_;intro A m h n j;exact rt
   exact rt
 exact rt
instance k_113:Ct prog 113:=⟨by kernel_rfl,@IU⟩
theorem F7 {w0 N j l r} (h:ll N j l=some r) {b f d} (g:f=j.length) (i:rb w0 b d j) :
    gV prog 145 #[vS b f d,vI l] w0 (fun v w=>v=.bool r∧St w0 [] w []):=by
 subst g;unfold ll at h;refine gV.fn func145 fun e=>?_;have p:=St.start w0;refine go ?_;refine T ?_;intro G z h C q;refine bH h ?_ ?_<;>intro _ h
 · refine gb h fun H k h=>?_;obtain ⟨A,B,o,rfl,m,u,x,rfl,n⟩:=i.idx k;refine go ?_;refine T ?_;exact rt
 exact rt
instance k_145:Ct prog 145:=⟨by kernel_rfl,@F7⟩
theorem uP {w0 N z r} (h:lX N z=some r) {g x j} (A:x=z.length) (B:rb w0 g j z) :
    gV prog 286 #[vS g x j] w0 (fun v w=>∃ J U,v=vS J r.length U∧St w0 [] w [sl J U r]):=by
 subst A;unfold lX at h;refine gV.fn func286 fun e=>?_;have Z:=St.start w0;refine go ?_;refine LW.b0 (α:=gP) Z ?_;intro af ah aL aa hf;refine go ?_;obtain ⟨aD,W,Y⟩:=ob h;refine CW.ie W 0 (fun u e wb=>∃ (d:Ad) (f:Nat),En e [(3,vS d u.1.length f),(7,vS g z.length j),(8,vI (z.length:Int)),(9,vI u.2)]∧St w0 [] wb [sl d f u.1]) ?_ ⟨af,ah,aa.po [0]⟩ ?_
 · intro u e aM o hM h;obtain ⟨d,f,hE,av⟩:=hM;obtain ⟨e,rfl⟩:=hE.out;refine gc h ?_ ?_<;>intro _ h
   · refine gb h fun ae ad h=>?_;obtain ⟨ar,aC,ai,rfl,aj,aA,aB,⟨C,K,H,O,I,R,rfl,am,an,ao⟩,ak⟩:=B.idx ad;refine go ?_;refine T ?_;intro V aF aw aG ax b ap h k n l p m q aH ab;have ac:=ab.pk (M:=[sl k n b.gX,sl l p b.N8,sl m q b.N4]++[bx V 160 (qO C K H O I R ae),sl d f u.1]) [0,1,2,3,4];have ⟨aK,X,h⟩:=ob h;refine LW.j6 (M:=[sl k n b.gX,sl l p b.N8,sl m q b.N4]) (L:=[bx V 160 (qO C K H O I R ae),sl d f u.1]) (vs:=#[vI b.Oe,vI b.N0,vI b.box,vI b.Od,vI b.iw,vI b.gE,vI b.N9,vI b.iv,vI b.iu,.bool b.Ob,vS k b.gX.length n,vS l b.N8.length p,vS m b.N4.length q]) (i:=1) Gt rfl (by kernel_rfl) rfl rfl X ac rfl (fun w G hG=>⟨k,n,l,p,m,q,rfl,hG⟩) rfl rfl ?_;intro aE aq au aI ay hf;exact rt
   exact rt
 rintro e aJ ⟨d,f,hE,az⟩;obtain ⟨e,rfl⟩:=hE.out;have h:=Y;exact rt
instance k_286:Ct prog 286:=⟨by kernel_rfl,@uP⟩
theorem y5 {w0 N b r} (h:sk N b=some r) {d l i} (p:l=b.gX.length) (A:rb w0 d i b.gX) {f m j} (q:m=b.N8.length) (B:rb w0 f j b.N8) {g n k} (z:n=b.N4.length) (C:rb w0 g k b.N4) :
    gV prog 325 #[.agg #[vI b.Oe,vI b.N0,vI b.box,vI b.Od,vI b.iw,vI b.gE,vI b.N9,vI b.iv,vI b.iu,.bool b.Ob,vS d l i,vS f m j,vS g n k]] w0 (fun v w=>v=.bool r∧St w0 [] w []):=by
 subst p q z;unfold sk at h;refine gV.fn func325 fun e=>?_;have aU:=St.start w0;refine T ?_;intro bw bz ai;refine go ?_;obtain ⟨J,Z,G⟩:=ob h;refine CW.mono (CW.lx [1,12,13] [0] [1] 0 (fun aq=>[(14,vI aq)]) (RT prog f325.results (fun u=>.bool u) w0 []) ai Z (hb:=?_)) ?_
 · intro aq e bA o aV h;refine gc h ?_ ?_<;>intro _ h
   · refine gb h fun bB am h=>?_;obtain ⟨bv,a2,ar,rfl,aC,a0,a1,rfl,aF⟩:=A.idx am;refine go ?_;refine T ?_;intro bo aM h a8 aW;refine CW.fl [1,12,13,14,20] fun e=>?_;refine gc h ?_ ?_<;>intro _ h
     · exact rt
     exact rt
   exact rt
 intro x e a9 hM;rcases J with J | a7
 · obtain ⟨rfl,hM⟩:=hM;obtain ⟨e,rfl,aj⟩:=eo hM;have h:=G;refine go ?_;obtain ⟨K,aa,H⟩:=ob h;refine CW.mono (CW.lx [1,23,24] [0] [1] 2 (fun M=>[(25,vI M)]) (RT prog f325.results (fun u=>.bool u) w0 []) aj aa (hb:=?_)) ?_
   · intro M e ba o aX h;refine gc h ?_ ?_<;>intro _ h
     · refine gb h fun bp ac h=>?_;obtain ⟨aR,a3,au,rfl,aD,aI,aK,rfl,aG⟩:=B.idx ac;refine go ?_;refine T ?_;intro bq aN h bb aY;refine CW.fl [1,23,24,25,31] fun e=>?_;refine gc h ?_ ?_<;>intro _ h
       · exact rt
       exact rt
     exact rt
   intro x e bc hM;rcases K with K | a6
   · obtain ⟨rfl,hM⟩:=hM;obtain ⟨e,rfl,ak⟩:=eo hM;have h:=H;refine go ?_;obtain ⟨L,ab,I⟩:=ob h;refine CW.mono (CW.lx [1,34,35] [0] [1] 4 (fun O=>[(36,vI O)]) (RT prog f325.results (fun u=>.bool u) w0 []) ak ab (hb:=?_)) ?_
     · intro O e bd o aZ h;refine jE [1,34,35,36,37] fun e=>?_;refine gc h ?_ ?_<;>intro _ h
       · refine gb h fun br ad h=>?_;obtain ⟨aS,a4,av,rfl,aE,aJ,aL,rfl,aH⟩:=C.idx ad;refine go ?_;refine T ?_;intro aT be aw bf R;obtain ⟨an,W,ae⟩:=ob h;refine CW.jn [1,34,35,36] [1] [(54,.bool an)] R (h1:=?_) (h2:=?_)
         · have h:=W;refine gB h ?_ ?_<;>intro _ h
           · refine T ?_;intro bs aO h bg ax;refine bH h ?_ ?_<;>intro _ h
             · exact rt
             refine T ?_;intro bt aP h bi ay;exact rt
           refine T ?_;intro bu aQ h bj az;exact rt
         intro e bk aA;have h:=ae;refine gc h ?_ ?_<;>intro _ h
         · exact rt
         exact rt
       exact rt
     intro x e bl hM;rcases L with L | a5
     · obtain ⟨rfl,hM⟩:=hM;obtain ⟨e,rfl,U⟩:=eo hM;have h:=I;refine gs ?_;refine CW.region ?_;refine gs ?_;refine CW.region ?_;refine gs ?_;obtain ⟨ao,X,af⟩:=ob h;refine CW.jn [1,10] [0] [(9,vI ao)] U (h1:=?_) (h2:=?_)
       · have h:=X;refine CW.fl [1,9,10,58] fun e=>?_;refine gc h ?_ ?_<;>intro _ h
         · exact rt
         exact rt
       intro e bm V;have h:=af;refine gs ?_;refine CW.region ?_;refine gs ?_;obtain ⟨ap,Y,ah⟩:=ob h;refine CW.jn [1,9] [0] [(10,vI ap)] V (h1:=?_) (h2:=?_)
       · have h:=Y;refine CW.fl [1,9,10,63] fun e=>?_;refine gc h ?_ ?_<;>intro _ h
         · exact rt
         exact rt
       intro e bn aB;have h:=ah;refine go ?_;refine bH h ?_ ?_<;>intro _ h
       · refine gB h ?_ ?_<;>intro _ h
         · exact rt
         exact rt
       exact rt
     obtain ⟨rfl,u,rfl,hM⟩:=hM;cases I;exact And.intro trivial hM
   obtain ⟨rfl,u,rfl,hM⟩:=hM;cases H;exact And.intro trivial hM
 obtain ⟨rfl,u,rfl,hM⟩:=hM;cases G;exact And.intro trivial hM
instance k_325:Ct prog 325:=⟨by kernel_rfl,@y5⟩
theorem HC {w0 N b r} (h:pn N b=some r) :
    gV prog 144 #[.agg #[vI b.Od,vI b.jI,vI b.mN,vI b.kc,vI b.N0,vI b.kK]] w0 (fun v w=>v=.bool r∧St w0 [] w []):=by
 unfold pn at h;refine gV.fn func144 fun e=>?_;have p:=St.start w0;refine T ?_;intro Y Z d;obtain ⟨o,f,g⟩:=ob h;refine CW.jn [1] [0] [(24,.bool o)] d (h1:=?_) (h2:=?_)
 · have h:=f;refine T ?_;intro ac G h aa q;refine bH h ?_ ?_<;>intro _ h
   · exact rt
   refine T ?_;intro ad H h ab u;refine bH h ?_ ?_<;>intro _ h
   · exact rt
   refine T ?_;intro R j h I x;refine bH h ?_ ?_<;>intro _ h
   · exact rt
   refine T ?_;intro U k h J z;exact rt
 intro e K A;have h:=g;refine gc h ?_ ?_<;>intro _ h
 · exact rt
 refine gB h ?_ ?_<;>intro _ h
 · refine T ?_;intro V l h L B;refine bH h ?_ ?_<;>intro _ h
   · exact rt
   refine gB h ?_ ?_<;>intro _ h
   · refine T ?_;intro W m h M C;exact rt
   exact rt
 refine gB h ?_ ?_<;>intro _ h
 · refine T ?_;intro X n h O i;exact rt
 exact rt
instance k_144:Ct prog 144:=⟨by kernel_rfl,@HC⟩
theorem E4 {w0 N l J r} (h:oC N l J=some r) {f m g} (n:m=l.length) (j:rb w0 f g l) :
    gV prog 213 #[vS f m g,vI J] w0 (fun v w=>∃ p q,v=vS p r.length q∧St w0 [] w [sl p q r]):=by
 subst n;unfold oC at h;refine gV.fn func213 fun e=>?_;have U:=St.start w0;refine go ?_;refine LW.b0 (α:=Int) U ?_;intro ac ad bs V hf;refine go ?_;obtain ⟨be,B,R⟩:=ob h;refine CW.ie B 0 (fun k e wb=>∃ (b:Ad) (d:Nat),En e [(0,vS f l.length g),(1,vI J),(5,vS b k.1.length d),(10,vS f l.length g),(11,vI (l.length:Int)),(12,vI k.2)]∧St w0 [] wb [sl b d k.1]) ?_ ⟨ac,ad,V.po [0]⟩ ?_
 · intro k e bt o hM h;obtain ⟨b,d,hE,a5⟩:=hM;obtain ⟨e,rfl⟩:=hE.out;refine gc h ?_ ?_<;>intro _ h
   · refine gb h fun bu Z h=>?_;obtain ⟨aQ,bb,ae,rfl,aj,a9,ba,⟨aG,aT,aH,aU,aI,aV,rfl,aw,ax,ay⟩,an⟩:=j.idx Z;refine go ?_;refine T ?_;intro a4 bg a6 bi W;obtain ⟨aa,z,K⟩:=ob h;refine CW.jn [0,1,5,6,10,11,12] [1] [(8,.bool aa)] W (h1:=?_) (h2:=?_)
     · have h:=z;refine gB h ?_ ?_<;>intro _ h
       · refine gB h ?_ ?_<;>intro _ h
         · refine go ?_;refine bH h ?_ ?_<;>intro _ h
           · refine gb h fun bo C h=>?_;obtain ⟨aR,bc,af,hae,ak,aq,au,u,ao⟩:=j.idx C;cases hae;obtain ⟨aJ,aW,aK,aX,aL,aY,rfl,az,aA,aB⟩:=u;refine go ?_;refine T ?_;exact rt
           exact rt
         exact rt
       exact rt
     intro e bj X;have h:=K;refine gs ?_;obtain ⟨ab,A,O⟩:=ob h;refine CW.jn [0,1,5,6,10,11,12] [0] [(47,.bool ab)] X (h1:=?_) (h2:=?_)
     · have h:=A;refine gB h ?_ ?_<;>intro _ h
       · exact rt
       refine gb h fun bp H h=>?_;obtain ⟨aS,bd,ah,hae,am,ar,av,x,ap⟩:=j.idx H;cases hae;obtain ⟨aM,aZ,aN,a0,aO,a2,rfl,aC,aD,aE⟩:=x;refine go ?_;refine T ?_;intro bq aF h bk a7;exact rt
     intro e bl Y;have h:=O;refine jE [0,1,5,6,10,11,12,47] fun e=>?_;refine gc h ?_ ?_<;>intro _ h
     · refine gb h fun br I h=>?_;refine LW.j6 (M:=[]) (L:=[sl b d k.1]) (vs:=#[vI k.2]) (i:=0) pH rfl (by kernel_rfl) rfl rfl I Y rfl (fun w G hG=>by cases (show G=[] from hG);exact ⟨rfl,rfl⟩) rfl rfl ?_;intro bf aP a3 bm a8 hf;exact rt
     exact rt
   exact rt
 rintro e bn ⟨b,d,hE,ai⟩;obtain ⟨e,rfl⟩:=hE.out;have h:=R;exact rt
instance k_213:Ct prog 213:=⟨by kernel_rfl,@E4⟩
theorem Bb {w0 N b r} (h:mg N b=some r) :
    gV prog 141 #[vI b] w0 (fun v w=>v=vI r∧St w0 [] w []):=by
 unfold mg at h;refine gV.fn func141 fun e=>?_;have d:=St.start w0;refine T ?_;intro j g h i f;refine gc h ?_ ?_<;>intro _ h
 · exact rt
 refine go ?_;refine LW.u (iq.rem rfl rfl (by decide)) rfl ?_;exact rt
instance k_141:Ct prog 141:=⟨by kernel_rfl,@Bb⟩
theorem Bl {w0 N b r} (h:pb N b=some r) :
    gV prog 208 #[vI b] w0 (fun v w=>v=vI r∧St w0 [] w []):=by
 unfold pb at h;refine gV.fn func208 fun e=>?_;have d:=St.start w0;refine T ?_;intro j g h i f;refine gc h ?_ ?_<;>intro _ h
 · exact rt
 refine go ?_;refine LW.u (iq.quo rfl rfl (by decide)) rfl ?_;refine LW.u (iq.rem rfl rfl (by decide)) rfl ?_;exact rt
instance k_208:Ct prog 208:=⟨by kernel_rfl,@Bl⟩
theorem CA {w0 N b r} (h:pZ N b=some r) :
    gV prog 209 #[vI b] w0 (fun v w=>v=vI r∧St w0 [] w []):=by
 unfold pZ at h;refine gV.fn func209 fun e=>?_;have d:=St.start w0;refine T ?_;intro j g h i f;refine gc h ?_ ?_<;>intro _ h
 · exact rt
 refine go ?_;refine LW.u (iq.quo rfl rfl (by decide)) rfl ?_;refine LW.u (iq.quo rfl rfl (by decide)) rfl ?_;exact rt
instance k_209:Ct prog 209:=⟨by kernel_rfl,@CA⟩
theorem Hk {w0} {F:List Nat} {N d R r} (h:sP N d R=some r) {C:Nat} {j b f g} (hS:St w0 F w0 [bx C 40 [vS j d.ag.length b,vI d.gc.N2,vI d.gc.Oa,vI d.gc.N3,vS f d.gc.gQ.length g],sl j b d.ag,sl f g d.gc.gQ]) :
    gV prog 214 #[.pointer (some ⟨C,0,none⟩),vI R] w0 (fun v w=>∃ m p, ∃ n q,v=.tuple #[]∧St w0 F w [bx C 40 (qH m p n q r),sl m p r.ag,sl n q r.gc.gQ]):=by
 unfold sP at h;refine gV.fn func214 fun e=>?_;refine gs ?_;obtain ⟨ai,W,h2⟩:=ob h;refine CW.jn [0,1] [0,1,2] [(30,.bool ai)] hS (h1:=?_) (h2:=?_)
 · have h:=W;refine go ?_;refine LW.u (iq.nc rfl) rfl ?_;refine gB h ?_ ?_<;>intro _ h
   · exact rt
   refine go ?_;refine LW.u (iq.nc rfl) rfl ?_;refine gb h fun aS J h=>?_;obtain ⟨aQ,aR,hae,aD,aE⟩:=hS.hZ (α:=gP) (i:=1) rfl J;subst hae;refine go ?_;obtain ⟨aP,k,H⟩:=hS.freeze (α:=gP) 1 rfl;obtain ⟨av,aF,Y,hae,Z,_,_,K,aa⟩:=k.jk.idx J;cases hae;obtain ⟨aq,aw,ar,ax,au,ay,rfl,ad,ae,af⟩:=K;refine T ?_;refine bH h ?_ ?_<;>intro _ h
   · refine go ?_;have az:=H.iz (α:=gP) 1 rfl k;exact rt
   refine go ?_;refine LW.u (iq.nc rfl) rfl ?_;refine go ?_;refine T ?_;have aA:=H.iz (α:=gP) 1 rfl k;exact rt
 intro e aH z;have h:=h2;refine gc h ?_ ?_<;>intro _ h
 · refine go ?_;replace h:=oi h;subst h;exact And.intro trivial ⟨_,kt.zero , j,b,f,g,rfl,z.pk [0,1,2]⟩
 refine go ?_;refine LW.u (iq.nc rfl) rfl ?_;refine gb h fun aM B h=>?_;obtain ⟨o,x,hae,ab,ac⟩:=z.hZ (α:=gP) (i:=1) rfl B;subst hae;refine go ?_;refine gb h fun X l h=>?_;refine LW.se 9 z 1 B l (hM:=(je (fun w cs F hF=>by obtain ⟨aj,an,ak,ao,am,ap,rfl,hH⟩:=hF;exact ⟨aj,an,ak,ao,am,ap,rfl,hH⟩))) fun aI aB=>?_;refine go ?_;refine LW.u (iq.nc rfl) rfl ?_;refine T ?_;intro aN ah h aJ A;refine CW.fl [0,1,45] fun e=>?_;refine gc h ?_ ?_<;>intro _ h
 · refine go ?_;refine LW.u (iq.nc rfl) rfl ?_;refine gb h fun aO O h=>?_;refine LW.j6 (M:=[]) (L:=[bx C 40 [vS (some ⟨o,x,none⟩) d.ag.length b,vI d.gc.N2,vI d.gc.Oa,vI d.gc.N3,vS f d.gc.gQ.length g],sl (some ⟨o,x,none⟩) b X,sl f g d.gc.gQ]) (vs:=#[vI R]) (i:=2) pH rfl (by kernel_rfl) rfl rfl O A rfl (fun w G hG=>by cases (show G=[] from hG);exact ⟨rfl,rfl⟩) rfl rfl ?_;intro aG U V aK aC hf;refine LW.u (iq.nc rfl) rfl ?_;refine T ?_;intro aL I;replace h:=oi h;subst h;rw [gZ (oi l)] at I;exact And.intro trivial ⟨_,kt.zero , (some ⟨o,x,none⟩),b,U,V,rfl,I.pk [0,1,2]⟩
 refine go ?_;replace h:=oi h;subst h;rw [gZ (oi l)] at A;exact And.intro trivial ⟨_,kt.zero , (some ⟨o,x,none⟩),b,f,g,rfl,A.pk [0,1,2]⟩
instance k_214:Ct prog 214:=⟨by kernel_rfl,@Hk⟩
theorem AM {w0 N b d r} (h:mh N b d=some r) :
    gV prog 182 #[.agg #[vI b.gE,vI b.gT,vI b.g8],.agg #[vI d.gE,vI d.gT,vI d.g8]] w0 (fun v w=>v=.tuple #[.agg #[vI r.1.gE,vI r.1.gT,vI r.1.g8],.bool r.2]∧St w0 [] w []):=by
 unfold mh at h;refine gV.fn func182 fun e=>?_;have u:=St.start w0;refine T ?_;intro Z ac x aa ad z ab ae f;obtain ⟨p,g,i⟩:=ob h;refine CW.jn [2,3,4] [0,1,2] [(14,.bool p)] f (h1:=?_) (h2:=?_)
 · have h:=g;refine T ?_;intro af I h J A;refine bH h ?_ ?_<;>intro _ h
   · exact rt
   refine T ?_;intro X n h K B;exact rt
 intro e L C;have h:=i;refine gc h ?_ ?_<;>intro _ h
 · refine T ?_;intro M G;exact rt
 refine jj [(0,vI (i64.wrap (b.gE+d.gE))),(1,vI (i64.wrap (b.gT+d.gT))),(2,vI (i64.wrap (b.g8+d.g8)))] #[vI (i64.wrap (b.gE+d.gE)),vI (i64.wrap (b.gT+d.gT)),vI (i64.wrap (b.g8+d.g8))] ?_;refine T ?_;intro q O H R j Y o h U k;refine CW.fl [2,4,6,34] fun e=>?_;refine gc h ?_ ?_<;>intro _ h
 · refine T ?_;intro V l;exact rt
 refine T ?_;intro W m;exact rt
instance k_182:Ct prog 182:=⟨by kernel_rfl,@AM⟩
theorem Fh {w0 N U r} (h:lk N U=some r) {d j f} (p:j=U.length) (b:rb w0 d f U) :
    gV prog 218 #[vS d j f] w0 (fun v w=>v=.bool r∧St w0 [] w []):=by
 subst p;unfold lk at h;refine gV.fn func218 fun e=>?_;have W:=St.start w0;refine gs ?_;refine CW.region ?_;refine gs ?_;obtain ⟨a5,ab,h2⟩:=ob h;refine CW.jn [0] [] [(29,.bool a5)] W (h1:=?_) (h2:=?_)
 · have h:=ab;refine gB h ?_ ?_<;>intro _ h
   · exact rt
   refine gb h fun b6 ac h=>?_;obtain ⟨b4,b5,bK,rfl,aD,bP,bQ,⟨be,bv,bf,bw,bg,bz,rfl,aT,aU,aV⟩,aH⟩:=b.idx ac;refine go ?_;refine T ?_;refine bH h ?_ ?_<;>intro _ h
   · exact rt
   refine go ?_;refine T ?_;refine bH h ?_ ?_<;>intro _ h
   · exact rt
   refine go ?_;refine T ?_;exact rt
 intro e bU X;have h:=h2;refine gc h ?_ ?_<;>intro _ h
 · exact rt
 refine go ?_;obtain ⟨l,z,i⟩:=ob h;refine CW.mono (CW.lx [0] [] [] 0 (fun B=>[(3,vI B)]) (RT prog f218.results (fun u=>.bool u) w0 []) X z (hb:=?_)) ?_
 · intro B e bV o Y h;refine gc h ?_ ?_<;>intro _ h
   · refine gs ?_;refine CW.block ?_;refine gs ?_;obtain ⟨ad,I,V⟩:=ob h;refine CW.jn [0,3] [] [(73,.bool ad)] Y (h1:=?_) (h2:=?_)
     · have h:=I;refine gb h fun bZ K h=>?_;obtain ⟨br,bR,aA,rfl,aE,aL,aP,⟨bi,bA,bj,bB,bk,bC,rfl,aW,aX,aY⟩,aI⟩:=b.idx K;refine go ?_;refine T ?_;intro b0 a4 h bW bL;refine bH h ?_ ?_<;>intro _ h
       · exact rt
       refine go ?_;refine T ?_;refine bH h ?_ ?_<;>intro _ h
       · refine go ?_;refine bH h ?_ ?_<;>intro _ h
         · refine go ?_;refine T ?_;refine bH h ?_ ?_<;>intro _ h
           · refine go ?_;refine T ?_;have ⟨b1,L,h⟩:=ob h;obtain ⟨bs,bS,aB,hae,aF,aM,aQ,H,aJ⟩:=b.idx L;cases hae;obtain ⟨bl,bD,bm,bE,bn,bF,rfl,aZ,a0,a1⟩:=H;refine go ?_;refine T ?_;exact rt
           exact rt
         exact rt
       exact rt
     intro e bX Z;have h:=V;refine gc h ?_ ?_<;>intro _ h
     · exact rt
     refine go ?_;obtain ⟨k,q,g⟩:=ob h;refine CW.mono (CW.lx [0,3] [] [0,3] 2 (fun C=>[(4,vI C)]) (RT prog f218.results (fun u=>.bool u) w0 []) Z q (hb:=?_)) ?_
     · intro C e bY o aa h;refine gb h fun b2 M h=>?_;obtain ⟨bt,bT,aC,rfl,aG,aN,aR,⟨bo,bG,bp,bI,bq,bJ,rfl,J,a2,a3⟩,aK⟩:=b.idx M;refine go ?_;refine T ?_;refine CW.fl [0,3,4,81] fun e=>?_;refine gc h ?_ ?_<;>intro _ h
       · refine go ?_;refine T ?_;have ⟨b3,O,h⟩:=ob h;obtain ⟨bu,a6,ae,rfl,ah,aO,aS,rfl,aj⟩:=J.idx O;refine go ?_;refine T ?_;obtain ⟨R,n,G⟩:=ob h;refine CW.jn [0,3,4] [] [(101,.bool R)] aa (h1:=?_) (h2:=?_)
         · have h:=n;refine gB h ?_ ?_<;>intro _ h
           · refine gb h fun bd A h=>?_;obtain ⟨aw,a7,af,hae,ai,am,an,m,ak⟩:=b.idx A;cases hae;obtain ⟨ar,ax,au,ay,av,az,rfl,ao,ap,aq⟩:=m;refine go ?_;refine T ?_;exact rt
           exact rt
         intro e ba bM;have h:=G;refine gc h ?_ ?_<;>intro _ h
         · exact rt
         exact rt
       exact rt
     intro x e bb hM;rcases k with k | a8
     · obtain ⟨rfl,hM⟩:=hM;obtain ⟨e,rfl,bN⟩:=eo hM;have h:=g;exact rt
     obtain ⟨rfl,u,rfl,hM⟩:=hM;cases g;exact ⟨trivial,rfl,_,rfl,hM⟩
   exact rt
 intro x e bc hM;rcases l with l | a9
 · obtain ⟨rfl,hM⟩:=hM;obtain ⟨e,rfl,bO⟩:=eo hM;rw [show e=im e [] from rfl];have h:=i;exact rt
 obtain ⟨rfl,u,rfl,hM⟩:=hM;cases i;exact And.intro trivial hM
instance k_218:Ct prog 218:=⟨by kernel_rfl,@Fh⟩
theorem ze {w0 N b r} (h:lj N b=some r) {A V J} (ab:V=b.NZ.NY.length) (ai:rb w0 A J b.NZ.NY) {B W K} (ac:W=b.own.length) (aj:rb w0 B K b.own) {C X L} (ad:X=b.N1.length) (az:rb w0 C L b.N1) {G Y M} (ae:Y=b.py.ag.length) (aA:rb w0 G M b.py.ag) {H Z O} (af:Z=b.py.gc.gQ.length) (aB:rb w0 H O b.py.gc.gQ) {I aa R} (ah:aa=b.gR.length) (ak:rb w0 I R b.gR) :
    gV prog 147 #[.agg #[vS A V J,vS B W K,vS C X L,vS G Y M,vI b.py.gc.N2,vI b.py.gc.Oa,vI b.py.gc.N3,vS H Z O,vS I aa R,vI b.N6,vI b.N7,vI b.bh.gE,vI b.bh.gT,vI b.bh.g8,vI b.gW,vI b.N5]] w0 (fun v w=>∃ d o, ∃ f p, ∃ g q, ∃ j u, ∃ k x, ∃ n z,v=.agg #[vS d r.NZ.NY.length o,vS f r.own.length p,vS g r.N1.length q,vS j r.py.ag.length u,vI r.py.gc.N2,vI r.py.gc.Oa,vI r.py.gc.N3,vS k r.py.gc.gQ.length x,vS n r.gR.length z,vI r.N6,vI r.N7,vI r.bh.gE,vI r.bh.gT,vI r.bh.g8,vI r.gW,vI r.N5]∧St w0 [] w [sl d o r.NZ.NY,sl f p r.own,sl g q r.N1,sl j u r.py.ag,sl k x r.py.gc.gQ,sl n z r.gR]):=by
 subst ab ac ad ae af ah;unfold lj at h;refine gV.fn func147 fun e=>?_;have aY:=St.start w0;refine T ?_;intro bq bs aZ br bt av;refine LW.b0 (α:=Int) av ?_;intro bo bp bu an hf;refine gb h fun ay ax h=>?_;refine LW.jG (l:=([]:List Int)) (m:=b.NZ.NY) pH rfl rfl (an.rB ai) ax an (i:=0) rfl rfl ?_;intro au am a3 a0 hf;refine LW.bd [(0,vS au ay.length am)] #[vS au ay.length am] ?_;refine T ?_;intro a4 aw;refine LW.b0 (α:=Int) aw ?_;intro aK aR a6 ao hf;refine gb h fun bk aq h=>?_;refine LW.jG (l:=([]:List Int)) (m:=b.own) pH rfl rfl (ao.rB aj) aq ao (i:=0) rfl rfl ?_;intro aL aS a7 a1 hf;refine T ?_;intro a8 a2 bl aI h aM aT ba aC bb aD bm aJ h aN aU aO aV bc aE;refine T ?_;intro be ap;refine LW.b0 (α:=iL) ap ?_;intro aP aW bf U hf;refine gb h fun bn ar h=>?_;refine LW.jG (l:=([]:List iL)) (m:=b.gR) tS rfl rfl (U.rB ak) ar U (i:=0) rfl rfl ?_;intro aQ aX bg aF hf;refine T ?_;intro bi aG bj aH;exact rt
instance k_147:Ct prog 147:=⟨by kernel_rfl,@ze⟩
end Go.Kx
