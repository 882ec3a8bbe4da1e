import Derived.Test.YtlcgibcdiikheaaGreatWa36
namespace Go.Kx
open Go Go.RowKit Go.Proofs
open Tryz
set_option maxRecDepth 10000
set_option maxHeartbeats 8000000
set_option linter.unusedVariables false
set_option linter.unusedSimpArgs false
theorem zF {w0 N b r} (h:lH N b=some r) {k q o} (z:q=b.ag.length) (U:rb w0 k o b.ag) {n x p} (A:x=b.gc.gQ.length) (B:rb w0 n p b.gc.gQ) :
    gZ prog 260 #[.agg #[vS k q o,vI b.gc.HD,vI b.gc.HL,vI b.gc.HF,vS n x p]] w0 (fun v w=>∃ d g, ∃ f j,v=.agg #[vS d r.ag.length g,vI r.gc.HD,vI r.gc.HL,vI r.gc.HF,vS f r.gc.gQ.length j]∧St w0 [] w [sl d g r.ag,sl f j r.gc.gQ]):=by
 subst z A;unfold lH at h;refine gZ.fn func260 fun e=>?_;have Y:=St.start w0;refine T ?_;intro an aq Z ao ar aa ap au ab av O;refine LW.b0 (α:=Int) O ?_;intro ak am ae J hf;refine gb h fun K M h=>?_;refine LW.jw (l:=([]:List Int)) (m:=b.gc.gQ) mX rfl rfl (J.rB B) M J (i:=0) rfl rfl ?_;intro C H af ac hf;refine T ?_;intro ah R;refine dW ?_;have ad:=R.drew;refine go ?_;refine jP 2 ?_;refine T ?_;intro L X h G I ai V;refine AW.u (i:=4) rfl (by kernel_rfl) rfl rfl (iI.build (vs:=[(0,vS G L.length I),(1,.agg #[vI b.gc.HD,vI b.gc.HL,vI b.gc.HF,vS C K.length H])]) (cs:=#[vS G L.length I,vI b.gc.HD,vI b.gc.HL,vI b.gc.HF,vS C K.length H]) rfl (by kernel_rfl)) ?_;refine T ?_;intro aj W;exact rt
instance k_260:Ct prog 260:=⟨by kernel_rfl,@zF⟩
theorem BN {w0 N b r} (h:jD N b=some r) :
    gZ prog 93 #[.agg #[vI b.gE,vI b.gV,vI b.hY]] w0 (fun v w=>v=.bool r∧St w0 [] w []):=by
 unfold jD at h;refine gZ.fn func93 fun e=>?_;have d:=St.start w0;refine T ?_;intro o p f;refine T ?_;intro x k h q g;refine bH h ?_ ?_<;>intro _ h
 · refine T ?_;intro z l h u i;refine bH h ?_ ?_<;>intro _ h
   · refine T ?_;intro A m h n j;exact rt
   exact rt
 exact rt
instance k_93:Ct prog 93:=⟨by kernel_rfl,@BN⟩
theorem Bs {w0 N b r} (h:pN N b=some r) {d l i} (z:l=b.g5.length) (C:rb w0 d i b.g5) {f m j} (A:m=b.HI.length) (G:rb w0 f j b.HI) {g n k} (B:n=b.HE.length) (H:rb w0 g k b.HE) :
    gZ prog 225 #[.agg #[vI b.HR,vI b.HA,vI b.box,vI b.HP,vI b.iK,vI b.gE,vI b.HK,vI b.iF,vI b.iE,.bool b.HM,vS d l i,vS f m j,vS g n k]] w0 (fun v w=>v=.bool r∧St w0 [] w []):=by
 subst z A B;unfold pN at h;refine gZ.fn func225 fun e=>?_;have bR:=St.start w0;refine T ?_;intro cB cC bS cE bZ h cD X;refine gc h ?_ ?_<;>intro _ h
 · exact rt
 refine gc h ?_ ?_<;>intro _ h
 · refine gs ?_;obtain ⟨bs,ay,aT⟩:=ob h;refine CW.jn [] [] [(2,.bool bs)] X (h1:=?_) (h2:=?_)
   · have h:=ay;refine gB h ?_ ?_<;>intro _ h
     · refine gB h ?_ ?_<;>intro _ h
       · refine go ?_;refine bH h ?_ ?_<;>intro _ h
         · refine gB h ?_ ?_<;>intro _ h
           · refine gB h ?_ ?_<;>intro _ h
             · refine gB h ?_ ?_<;>intro _ h
               · refine gB h ?_ ?_<;>intro _ h
                 · refine go ?_;refine bH h ?_ ?_<;>intro _ h
                   · refine gB h ?_ ?_<;>intro _ h
                     · refine gB h ?_ ?_<;>intro _ h
                       · exact rt
                       exact rt
                     exact rt
                   exact rt
                 exact rt
               exact rt
             exact rt
           exact rt
         exact rt
       exact rt
     exact rt
   intro e b1 bT;have h:=aT;exact rt
 refine gs ?_;obtain ⟨az,am,av⟩:=ob h;refine CW.jn [1] [0] [(108,.bool az)] X (h1:=?_) (h2:=?_)
 · have h:=am;refine T ?_;intro cn be h b2 bU;refine bH h ?_ ?_<;>intro _ h
   · exact rt
   refine T ?_;intro co bf h b3 bV;refine bH h ?_ ?_<;>intro _ h
   · exact rt
   refine T ?_;intro cp bg h b4 bW;refine bH h ?_ ?_<;>intro _ h
   · exact rt
   refine T ?_;intro cq bi h b5 bX;refine bH h ?_ ?_<;>intro _ h
   · exact rt
   refine T ?_;intro cr bj h b6 bY;refine bH h ?_ ?_<;>intro _ h
   · exact rt
   refine gB h ?_ ?_<;>intro _ h
   · exact rt
   refine T ?_;intro cs bk h b7 aU;exact rt
 intro e b8 ad;have h:=av;refine gc h ?_ ?_<;>intro _ h
 · exact rt
 refine go ?_;obtain ⟨Y,ap,W⟩:=ob h;refine CW.mono (CW.lx [1] [0] [1] 0 (fun Z=>[(3,vI Z)]) (RT prog f225.results (fun u=>.bool u) w0 []) ad ap (hb:=?_)) ?_
 · intro Z e b9 o aV h;refine gc h ?_ ?_<;>intro _ h
   · refine gb h fun ct aq h=>?_;obtain ⟨bQ,b0,aS,rfl,ba,bc,bd,rfl,bb⟩:=C.idx aq;refine go ?_;refine T ?_;intro cu bl h ca aW;refine CW.fl [1,3,119] fun e=>?_;refine gc h ?_ ?_<;>intro _ h
     · exact rt
     exact rt
   exact rt
 intro x e cb hM;rcases Y with Y | bz
 · obtain ⟨rfl,hM⟩:=hM;obtain ⟨e,rfl,ae⟩:=eo hM;have h:=W;refine gs ?_;obtain ⟨aA,an,aw⟩:=ob h;refine CW.jn [1] [0] [(165,.bool aA)] ae (h1:=?_) (h2:=?_)
   · have h:=an;refine gB h ?_ ?_<;>intro _ h
     · refine gB h ?_ ?_<;>intro _ h
       · exact rt
       refine go ?_;refine bH h ?_ ?_<;>intro _ h
       · exact rt
       refine gB h ?_ ?_<;>intro _ h
       · exact rt
       refine gB h ?_ ?_<;>intro _ h
       · refine gB h ?_ ?_<;>intro _ h
         · exact rt
         refine gB h ?_ ?_<;>intro _ h
         · refine go ?_;refine T ?_;intro cv bm h cc aX;refine bH h ?_ ?_<;>intro _ h
           · exact rt
           refine T ?_;intro cw bn h ce aY;exact rt
         refine go ?_;refine T ?_;intro cx bo h cf aZ;exact rt
       exact rt
     refine go ?_;refine bH h ?_ ?_<;>intro _ h
     · refine gB h ?_ ?_<;>intro _ h
       · exact rt
       refine gB h ?_ ?_<;>intro _ h
       · refine T ?_;intro cy bp h cg a0;refine bH h ?_ ?_<;>intro _ h
         · exact rt
         refine T ?_;intro cz bq h ci a1;exact rt
       refine T ?_;intro cA br h cj a2;exact rt
     exact rt
   intro e ck af;have h:=aw;refine gc h ?_ ?_<;>intro _ h
   · exact rt
   refine gs ?_;obtain ⟨aB,ao,ax⟩:=ob h;refine CW.jn [1] [0] [(195,.bool aB)] af (h1:=?_) (h2:=?_)
   · have h:=ao;refine gB h ?_ ?_<;>intro _ h
     · refine gB h ?_ ?_<;>intro _ h
       · exact rt
       refine go ?_;refine bH h ?_ ?_<;>intro _ h
       · exact rt
       refine gB h ?_ ?_<;>intro _ h
       · exact rt
       exact rt
     refine go ?_;refine bH h ?_ ?_<;>intro _ h
     · exact rt
     exact rt
   intro e cl ah;have h:=ax;refine gc h ?_ ?_<;>intro _ h
   · exact rt
   refine go ?_;obtain ⟨I,O,p⟩:=ob h;refine CW.mono (CW.lx [1] [0] [1] 2 (fun aa=>[(4,vI aa)]) (RT prog f225.results (fun u=>.bool u) w0 []) ah O (hb:=?_)) ?_
   · intro aa e cm o a3 h;refine kI [1,4,200] fun e=>?_;refine gc h ?_ ?_<;>intro _ h
     · refine gb h fun bK U h=>?_;obtain ⟨aQ,bt,aC,rfl,aE,aI,aK,rfl,aG⟩:=G.idx U;refine go ?_;refine T ?_;intro bL aM h bA a4;refine gc h ?_ ?_<;>intro _ h
       · exact rt
       exact rt
     exact rt
   intro x e bB hM;rcases I with I | bw
   · obtain ⟨rfl,hM⟩:=hM;obtain ⟨e,rfl,ai⟩:=eo hM;have h:=p;refine gs ?_;obtain ⟨ar,L,ab⟩:=ob h;refine CW.jn [1] [0] [(224,.bool ar)] ai (h1:=?_) (h2:=?_)
     · have h:=L;refine gB h ?_ ?_<;>intro _ h
       · exact rt
       refine gB h ?_ ?_<;>intro _ h
       · exact rt
       exact rt
     intro e bC aj;have h:=ab;refine gc h ?_ ?_<;>intro _ h
     · exact rt
     refine go ?_;obtain ⟨J,R,q⟩:=ob h;refine CW.mono (CW.lx [1] [0] [] 4 (fun K=>[(5,vI K)]) (RT prog f225.results (fun u=>.bool u) w0 []) aj R (hb:=?_)) ?_
     · intro K e bD o ak h;refine kI [1,5,229] fun e=>?_;refine gc h ?_ ?_<;>intro _ h
       · refine gs ?_;refine CW.block ?_;refine gs ?_;obtain ⟨au,M,ac⟩:=ob h;refine CW.jn [1,5] [0] [(258,.bool au)] ak (h1:=?_) (h2:=?_)
         · have h:=M;refine gb h fun bM V h=>?_;obtain ⟨aR,bu,aD,rfl,aF,aJ,aL,rfl,aH⟩:=H.idx V;refine go ?_;refine T ?_;refine bH h ?_ ?_<;>intro _ h
           · refine go ?_;refine T ?_;intro bN aN h bE a5;refine bH h ?_ ?_<;>intro _ h
             · exact rt
             refine go ?_;refine T ?_;intro bO aO h bF a6;exact rt
           refine go ?_;refine T ?_;intro bP aP h bG a7;exact rt
         intro e bI a8;have h:=ac;refine gc h ?_ ?_<;>intro _ h
         · exact rt
         exact rt
       exact rt
     intro x e bJ hM;rcases J with J | bv
     · obtain ⟨rfl,hM⟩:=hM;obtain ⟨e,rfl,a9⟩:=eo hM;rw [show e=ij e [] from rfl];have h:=q;exact rt
     obtain ⟨rfl,u,rfl,hM⟩:=hM;cases q;exact And.intro trivial hM
   obtain ⟨rfl,u,rfl,hM⟩:=hM;cases p;exact And.intro trivial hM
 obtain ⟨rfl,u,rfl,hM⟩:=hM;cases W;exact And.intro trivial hM
instance k_225:Ct prog 225:=⟨by kernel_rfl,@Bs⟩
theorem Br {w0 N b r} (h:mO N b=some r) :
    gZ prog 169 #[.agg #[vI b.HP,vI b.j6,vI b.oq,vI b.mg,vI b.HA,vI b.mV]] w0 (fun v w=>v=.bool r∧St w0 [] w []):=by
 unfold mO at h;refine gZ.fn func169 fun e=>?_;have n:=St.start w0;refine T ?_;intro U V d;obtain ⟨m,f,g⟩:=ob h;refine CW.jn [1] [0] [(24,.bool m)] d (h1:=?_) (h2:=?_)
 · have h:=f;refine T ?_;intro Y B h W o;refine bH h ?_ ?_<;>intro _ h
   · exact rt
   refine T ?_;intro Z C h X p;refine bH h ?_ ?_<;>intro _ h
   · exact rt
   refine T ?_;intro L i h G q;refine bH h ?_ ?_<;>intro _ h
   · exact rt
   refine T ?_;intro M j h H u;exact rt
 intro e I x;have h:=g;refine gc h ?_ ?_<;>intro _ h
 · exact rt
 refine gc h ?_ ?_<;>intro _ h
 · refine T ?_;intro O k h J z;exact rt
 refine gc h ?_ ?_<;>intro _ h
 · refine T ?_;intro R l h K A;exact rt
 exact rt
instance k_169:Ct prog 169:=⟨by kernel_rfl,@Br⟩
theorem wJ {w0 N b r} (h:kY N b=some r) :
    gZ prog 128 #[vI b] w0 (fun v w=>v=vI r∧St w0 [] w []):=by
 unfold kY at h;refine gZ.fn func128 fun e=>?_;have d:=St.start w0;refine T ?_;intro j g h i f;refine gc h ?_ ?_<;>intro _ h
 · exact rt
 refine go ?_;refine LW.u (iI.rem rfl rfl (by decide)) rfl ?_;exact rt
instance k_128:Ct prog 128:=⟨by kernel_rfl,@wJ⟩
theorem wu {w0 N b r} (h:mM N b=some r) :
    gZ prog 129 #[vI b] w0 (fun v w=>v=vI r∧St w0 [] w []):=by
 unfold mM at h;refine gZ.fn func129 fun e=>?_;have d:=St.start w0;refine T ?_;intro j g h i f;refine gc h ?_ ?_<;>intro _ h
 · exact rt
 refine go ?_;refine LW.u (iI.quo rfl rfl (by decide)) rfl ?_;refine LW.u (iI.rem rfl rfl (by decide)) rfl ?_;exact rt
instance k_129:Ct prog 129:=⟨by kernel_rfl,@wu⟩
theorem xF {w0 N b r} (h:m5 N b=some r) :
    gZ prog 130 #[vI b] w0 (fun v w=>v=vI r∧St w0 [] w []):=by
 unfold m5 at h;refine gZ.fn func130 fun e=>?_;have d:=St.start w0;refine T ?_;intro j g h i f;refine gc h ?_ ?_<;>intro _ h
 · exact rt
 refine go ?_;refine LW.u (iI.quo rfl rfl (by decide)) rfl ?_;refine LW.u (iI.quo rfl rfl (by decide)) rfl ?_;exact rt
instance k_130:Ct prog 130:=⟨by kernel_rfl,@xF⟩
theorem ru {w0 N M O R r} (h:lR N M O R=some r) {b k g} (n:k=M.length) (Z:rb w0 b g M) {d l i} (p:l=O.Hz.length) (z:rb w0 d i O.Hz) {f m j} (q:m=R.Hz.length) (A:rb w0 f j R.Hz) :
    gZ prog 167 #[vS b k g,.agg #[vS d l i],.agg #[vS f m j]] w0 (fun v w=>v=.bool r∧St w0 [] w []):=by
 subst n p q;unfold lR at h;refine gZ.fn func167 fun e=>?_;have ay:=St.start w0;refine T ?_;intro aU aW az aV aX V;obtain ⟨av,X,ac⟩:=ob h;refine CW.jn [0,4,5] [0,1] [(20,.bool av)] V (h1:=?_) (h2:=?_)
 · have h:=X;refine T ?_;intro aZ aE h aY aA;refine bH h ?_ ?_<;>intro _ h
   · exact rt
   refine T ?_;intro aP aq h aI aB;refine bH h ?_ ?_<;>intro _ h
   · exact rt
   refine T ?_;intro aQ ar h aJ aC;exact rt
 intro e aK W;have h:=ac;refine gc h ?_ ?_<;>intro _ h
 · exact rt
 refine go ?_;obtain ⟨G,J,B⟩:=ob h;refine CW.mono (CW.lx [0,4,5] [0,1] [] 0 (fun H=>[(7,vI H)]) (RT prog f167.results (fun u=>.bool u) w0 []) W J (hb:=?_)) ?_
 · intro H e aL o C h;refine gc h ?_ ?_<;>intro _ h
   · refine gs ?_;refine CW.block ?_;refine gs ?_;obtain ⟨Y,I,U⟩:=ob h;refine CW.jn [0,4,5,7] [0,1] [(41,.bool Y)] C (h1:=?_) (h2:=?_)
     · have h:=I;refine dW ?_;have aD:=C.drew;refine gb h fun aR K h=>?_;obtain ⟨aw,aF,aa,rfl,ah,am,ao,rfl,aj⟩:=z.idx K;refine go ?_;refine T ?_;have ⟨aS,L,h⟩:=ob h;obtain ⟨ax,aG,ab,rfl,ai,an,ap,rfl,ak⟩:=A.idx L;refine go ?_;refine T ?_;refine bH h ?_ ?_<;>intro _ h
       · refine T ?_;intro aT au h aM ad;exact rt
       exact rt
     intro e aN ae;have h:=U;refine gc h ?_ ?_<;>intro _ h
     · exact rt
     exact rt
   exact rt
 intro x e aO hM;rcases G with G | aH
 · obtain ⟨rfl,hM⟩:=hM;obtain ⟨e,rfl,af⟩:=eo hM;rw [show e=ij e [] from rfl];have h:=B;exact rt
 obtain ⟨rfl,u,rfl,hM⟩:=hM;cases B;exact And.intro trivial hM
instance k_167:Ct prog 167:=⟨by kernel_rfl,@ru⟩
theorem tL {w0 N f g i r} (h:lg N f g i=some r) :
    gZ prog 51 #[vI f,vI g,vI i] w0 (fun v w=>v=vI r∧St w0 [] w []):=by
 unfold lg at h;refine gZ.fn func51 fun e=>?_;have b:=St.start w0;refine gs ?_;refine CW.region ?_;refine gs ?_;obtain ⟨j,d,h2⟩:=ob h;refine CW.jn [0,1,2] [] [(19,.bool j)] b (h1:=?_) (h2:=?_)
 · have h:=d;refine T ?_;intro B o h z k;refine bH h ?_ ?_<;>intro _ h
   · exact rt
   refine T ?_;intro C p h A l;refine bH h ?_ ?_<;>intro _ h
   · exact rt
   refine T ?_;intro G q h u m;exact rt
 intro e x n;have h:=h2;refine gc h ?_ ?_<;>intro _ h
 · exact rt
 exact rt
instance k_51:Ct prog 51:=⟨by kernel_rfl,@tL⟩
theorem tF {w0 N M O R r} (h:nC N M O R=some r) {b n g} (z:n=M.length) (X:rb w0 b g M) {d p j} (A:p=O.Hz.length) (Y:rb w0 d j O.Hz) {f q k} (B:q=R.Hz.length) (Z:rb w0 f k R.Hz) :
    gZ prog 215 #[vS b n g,.agg #[vS d p j],.agg #[vS f q k]] w0 (fun v w=>v=.bool r∧St w0 [] w []):=by
 subst z A B;unfold nC at h;refine gZ.fn func215 fun e=>?_;have ax:=St.start w0;refine T ?_;intro aT aV ay aU aW U;obtain ⟨ap,W,ab⟩:=ob h;refine CW.jn [0,4,5] [0,1] [(21,.bool ap)] U (h1:=?_) (h2:=?_)
 · have h:=W;refine T ?_;intro aY aD h aX az;refine bH h ?_ ?_<;>intro _ h
   · exact rt
   refine T ?_;intro aO ak h aH aA;refine bH h ?_ ?_<;>intro _ h
   · exact rt
   refine T ?_;intro aP am h aI aB;exact rt
 intro e aJ aC;have h:=ab;refine gc h ?_ ?_<;>intro _ h
 · exact rt
 refine T ?_;intro aQ an h ar aw aK V;refine go ?_;obtain ⟨H,L,C⟩:=ob h;refine CW.mono (CW.lx [0,24,25] [0] [] 0 (fun I=>[(26,vI I)]) (RT prog f215.results (fun u=>.bool u) w0 []) V L (hb:=?_)) ?_
 · intro I e aL o G h;refine gc h ?_ ?_<;>intro _ h
   · refine gb h fun aR m h=>?_;obtain ⟨au,aE,hae,ai,aj⟩:=G.im (α:=Int) (i:=0) rfl m;subst hae;refine go ?_;obtain ⟨aq,l,ac⟩:=G.freeze (α:=Int) 0 rfl;obtain ⟨av,aF,aa,hae,af,_,_,K,ah⟩:=l.jB.idx m;cases hae;obtain rfl:=K;refine T ?_;intro aS ao h aM J;refine CW.fl [0,24,25,26,33] fun e=>?_;refine gc h ?_ ?_<;>intro _ h
     · exact rt
     refine go ?_;have ad:=J.iH (α:=Int) 0 rfl l;exact rt
   exact rt
 intro x e aN hM;rcases H with H | aG
 · obtain ⟨rfl,hM⟩:=hM;obtain ⟨e,rfl,ae⟩:=eo hM;rw [show e=ij e [] from rfl];have h:=C;exact rt
 obtain ⟨rfl,u,rfl,hM⟩:=hM;cases C;exact And.intro trivial hM
instance k_215:Ct prog 215:=⟨by kernel_rfl,@tF⟩
theorem zv {w0} {F:List Nat} {N n r} (h:mq N n=some r) {u:Nat} {g j} (O:iy (ja w0 F) w0 g j n.b) (hS:St w0 F w0 [bx u 177 [vS g n.b.length j,vI n.i,vI n.h]]) :
    gZ prog 304 #[.pointer (some ⟨u,0,none⟩)] w0 (fun v w=>∃ p q,v=.agg #[vS p r.1.Hz.length q]∧St w0 F w [sl p q r.1.Hz,bx u 177 [vS g n.b.length j,vI r.2.i,vI r.2.h]]):=by
 unfold mq at h;refine gZ.fn func304 fun e=>?_;refine T ?_;intro C ao Z;refine LW.bd [] #[vS none 0 0] ?_;refine T ?_;intro G ap aa aq I;refine go ?_;have J:=I.nil (α:=Int);obtain ⟨ae,A,H⟩:=ob h;refine CW.ie A 0 (fun k e wb=>∃ (d:Ad) (f:Nat),En e [(0,.pointer (some ⟨u,0,none⟩)),(2,.pointer (some ⟨C,0,none⟩)),(3,.pointer (some ⟨G,0,none⟩)),(4,vI k.1)]∧St w0 F wb [bx G 39 [vS d k.2.2.2.length f],bx C 39 [vS none 0 0],bx u 177 [vS g n.b.length j,vI k.2.1,vI k.2.2.1],sl d f k.2.2.2]) ?_ ⟨none,0,J.po [1,2,3,0]⟩ ?_
 · intro k e ar o hM h;obtain ⟨d,f,hE,K⟩:=hM;obtain ⟨e,rfl⟩:=hE.out;refine gc h ?_ ?_<;>intro _ h
   · refine kG ?_;have ab:=K.drew;refine T ?_;intro M ad h af L;refine LW.bi [M.1] L ?_;intro V X ah z hf;refine T ?_;have ⟨an,B,h⟩:=ob h;refine T ?_;refine LW.jw (l:=k.2.2.2) (m:=([M.1]:List Int)) mX rfl rfl (z.rI 0 rfl) B z (i:=4) rfl rfl ?_;intro W Y ai ac hf;refine T ?_;intro aj R;exact rt
   exact rt
 rintro e ak ⟨d,f,hE,U⟩;obtain ⟨e,rfl⟩:=hE.out;have h:=H;refine T ?_;intro am x;replace h:=oi h;subst h;exact And.intro trivial ⟨_,jM.one (hP.b x 1 rfl pS rfl rfl),d,f,rfl,x.pk [3,2]⟩
instance k_304:Ct prog 304:=⟨by kernel_rfl,@zv⟩
theorem pV {w0} {F:List Nat} {N g l r} (h:ji N g l=some r) {j:Nat} {d f} (m:iy (ja w0 F) w0 d f g.b) (hS:St w0 F w0 [bx j 177 [vS d g.b.length f,vI g.i,vI g.h]]) :
    gZ prog 71 #[.pointer (some ⟨j,0,none⟩),vI l] w0 (fun v w=>v=.bool r.1∧St w0 F w [bx j 177 [vS d g.b.length f,vI r.2.i,vI r.2.h]]):=by
 unfold ji at h;refine gZ.fn func71 fun e=>?_;refine T ?_;intro p n h o k;replace h:=oi h;subst h;exact Ra ⟨rfl,k.pk [0]⟩
instance k_71:Ct prog 71:=⟨by kernel_rfl,@pV⟩
theorem xy {w0} {F:List Nat} {N g p r} (h:jl N g p=some r) {o:Nat} {d f} (x:iy (ja w0 F) w0 d f g.b) {j l k} (m:l=p.length) (n:iy (ja w0 F) w0 j k p) (hS:St w0 F w0 [bx o 177 [vS d g.b.length f,vI g.i,vI g.h]]) :
    gZ prog 72 #[.pointer (some ⟨o,0,none⟩),vS j l k] w0 (fun v w=>v=vI r.1∧St w0 F w [bx o 177 [vS d g.b.length f,vI r.2.i,vI r.2.h]]):=by
 subst m;unfold jl at h;refine gZ.fn func72 fun e=>?_;refine T ?_;intro L H h K q;have ⟨M,u,h⟩:=ob h;obtain ⟨I,J,z,rfl,A,C,G,rfl,B⟩:=n.idx u;refine go ?_;refine T ?_;replace h:=oi h;subst h;exact Ra ⟨rfl,q.pk [0]⟩
instance k_72:Ct prog 72:=⟨by kernel_rfl,@xy⟩
end Go.Kx
