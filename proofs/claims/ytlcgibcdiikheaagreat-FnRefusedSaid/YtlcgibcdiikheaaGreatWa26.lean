import Derived.Test.YtlcgibcdiikheaaGreatWa25
namespace Go.Kx
open Go Go.RowKit Go.Proofs
open Tryz
set_option maxRecDepth 10000
set_option maxHeartbeats 8000000
set_option linter.unusedVariables false
set_option linter.unusedSimpArgs false
theorem yU {w0 N k r} (h:ur N k=some r) :
    iq prog 15 #[vI k] w0 (fun v w=>v=.string r∧St w0 [] w []):=by
 unfold ur at h;refine iq.fn func15 fun e=>?_;have x:=St.start w0;refine T ?_;intro M C h K j;refine gc h ?_ ?_<;>intro _ h
 · exact rt
 refine go ?_;refine LW.wj (α:=Cj) (vs:=[(0,.string (⟨#[111,107]⟩:ByteArray)),(1,.string (⟨#[100,101,97,100]⟩:ByteArray)),(2,.string (⟨#[98,97,100]⟩:ByteArray)),(3,.string (⟨#[102,108,111,119]⟩:ByteArray)),(4,.string (⟨#[115,116,97,108,101]⟩:ByteArray)),(5,.string (⟨#[107,105,110,100]⟩:ByteArray)),(6,.string (⟨#[112,111,111,114]⟩:ByteArray)),(7,.string (⟨#[102,117,108,108]⟩:ByteArray)),(8,.string (⟨#[98,117,115,121]⟩:ByteArray))]) (cs:=#[.string (⟨#[111,107]⟩:ByteArray),.string (⟨#[100,101,97,100]⟩:ByteArray),.string (⟨#[98,97,100]⟩:ByteArray),.string (⟨#[102,108,111,119]⟩:ByteArray),.string (⟨#[115,116,97,108,101]⟩:ByteArray),.string (⟨#[107,105,110,100]⟩:ByteArray),.string (⟨#[112,111,111,114]⟩:ByteArray),.string (⟨#[102,117,108,108]⟩:ByteArray),.string (⟨#[98,117,115,121]⟩:ByteArray)]) (l:=([(⟨#[111,107]⟩:ByteArray),(⟨#[100,101,97,100]⟩:ByteArray),(⟨#[98,97,100]⟩:ByteArray),(⟨#[102,108,111,119]⟩:ByteArray),(⟨#[115,116,97,108,101]⟩:ByteArray),(⟨#[107,105,110,100]⟩:ByteArray),(⟨#[112,111,111,114]⟩:ByteArray),(⟨#[102,117,108,108]⟩:ByteArray),(⟨#[98,117,115,121]⟩:ByteArray)]:List Cj)) rfl (by kernel_rfl) rfl rfl rfl (fun w=>⟨[.string (⟨#[111,107]⟩:ByteArray)],[.string (⟨#[100,101,97,100]⟩:ByteArray),.string (⟨#[98,97,100]⟩:ByteArray),.string (⟨#[102,108,111,119]⟩:ByteArray),.string (⟨#[115,116,97,108,101]⟩:ByteArray),.string (⟨#[107,105,110,100]⟩:ByteArray),.string (⟨#[112,111,111,114]⟩:ByteArray),.string (⟨#[102,117,108,108]⟩:ByteArray),.string (⟨#[98,117,115,121]⟩:ByteArray)],[],[],rfl,rfl,⟨rfl,rfl⟩,⟨[.string (⟨#[100,101,97,100]⟩:ByteArray)],[.string (⟨#[98,97,100]⟩:ByteArray),.string (⟨#[102,108,111,119]⟩:ByteArray),.string (⟨#[115,116,97,108,101]⟩:ByteArray),.string (⟨#[107,105,110,100]⟩:ByteArray),.string (⟨#[112,111,111,114]⟩:ByteArray),.string (⟨#[102,117,108,108]⟩:ByteArray),.string (⟨#[98,117,115,121]⟩:ByteArray)],[],[],rfl,rfl,⟨rfl,rfl⟩,⟨[.string (⟨#[98,97,100]⟩:ByteArray)],[.string (⟨#[102,108,111,119]⟩:ByteArray),.string (⟨#[115,116,97,108,101]⟩:ByteArray),.string (⟨#[107,105,110,100]⟩:ByteArray),.string (⟨#[112,111,111,114]⟩:ByteArray),.string (⟨#[102,117,108,108]⟩:ByteArray),.string (⟨#[98,117,115,121]⟩:ByteArray)],[],[],rfl,rfl,⟨rfl,rfl⟩,⟨[.string (⟨#[102,108,111,119]⟩:ByteArray)],[.string (⟨#[115,116,97,108,101]⟩:ByteArray),.string (⟨#[107,105,110,100]⟩:ByteArray),.string (⟨#[112,111,111,114]⟩:ByteArray),.string (⟨#[102,117,108,108]⟩:ByteArray),.string (⟨#[98,117,115,121]⟩:ByteArray)],[],[],rfl,rfl,⟨rfl,rfl⟩,⟨[.string (⟨#[115,116,97,108,101]⟩:ByteArray)],[.string (⟨#[107,105,110,100]⟩:ByteArray),.string (⟨#[112,111,111,114]⟩:ByteArray),.string (⟨#[102,117,108,108]⟩:ByteArray),.string (⟨#[98,117,115,121]⟩:ByteArray)],[],[],rfl,rfl,⟨rfl,rfl⟩,⟨[.string (⟨#[107,105,110,100]⟩:ByteArray)],[.string (⟨#[112,111,111,114]⟩:ByteArray),.string (⟨#[102,117,108,108]⟩:ByteArray),.string (⟨#[98,117,115,121]⟩:ByteArray)],[],[],rfl,rfl,⟨rfl,rfl⟩,⟨[.string (⟨#[112,111,111,114]⟩:ByteArray)],[.string (⟨#[102,117,108,108]⟩:ByteArray),.string (⟨#[98,117,115,121]⟩:ByteArray)],[],[],rfl,rfl,⟨rfl,rfl⟩,⟨[.string (⟨#[102,117,108,108]⟩:ByteArray)],[.string (⟨#[98,117,115,121]⟩:ByteArray)],[],[],rfl,rfl,⟨rfl,rfl⟩,⟨[.string (⟨#[98,117,115,121]⟩:ByteArray)],[],[],[],rfl,rfl,⟨rfl,rfl⟩,rfl⟩⟩⟩⟩⟩⟩⟩⟩⟩) j rfl ?_
 intro I J L b hf;refine gb h fun O d h=>?_;obtain ⟨q,G,hae,A,B⟩:=b.iF (α:=Cj) (i:=0) rfl d;subst hae;refine go ?_;obtain ⟨p,g,z⟩:=b.freeze (α:=Cj) 0 rfl;obtain ⟨u,H,m,hae,n,_,_,f,o⟩:=g.kc.idx d;cases hae;obtain rfl:=f;refine T ?_;exact rt
instance k_15:Ct prog 15:=⟨by kernel_rfl,@yU⟩
theorem Fw {w0 N b r} (h:nY N b=some r) {k q o} (z:q=b.ag.length) (U:rb w0 k o b.ag) {n x p} (A:x=b.gc.hZ.length) (B:rb w0 n p b.gc.hZ) :
    iq prog 260 #[.agg #[vS k q o,vI b.gc.PD,vI b.gc.PL,vI b.gc.PF,vS n x p]] w0 (fun v w=>∃ d g, ∃ f j,v=.agg #[vS d r.ag.length g,vI r.gc.PD,vI r.gc.PL,vI r.gc.PF,vS f r.gc.hZ.length j]∧St w0 [] w [sl d g r.ag,sl f j r.gc.hZ]):=by
 subst z A;unfold nY at h;refine iq.fn func260 fun e=>?_;have Y:=St.start w0;refine T ?_;intro an aq Z ao ar aa ap au ab av O;refine LW.b0 (α:=Int) O ?_;intro ak am ae J hf;refine gb h fun K M h=>?_;refine LW.jT (l:=([]:List Int)) (m:=b.gc.hZ) nb rfl rfl (J.rB B) M J (i:=0) rfl rfl ?_;intro C H af ac hf;refine T ?_;intro ah R;refine dW ?_;have ad:=R.drew;refine go ?_;refine jP 2 ?_;refine T ?_;intro L X h G I ai V;refine AW.u (i:=4) rfl (by kernel_rfl) rfl rfl (iQ.build (vs:=[(0,vS G L.length I),(1,.agg #[vI b.gc.PD,vI b.gc.PL,vI b.gc.PF,vS C K.length H])]) (cs:=#[vS G L.length I,vI b.gc.PD,vI b.gc.PL,vI b.gc.PF,vS C K.length H]) rfl (by kernel_rfl)) ?_;refine T ?_;intro aj W;exact rt
instance k_260:Ct prog 260:=⟨by kernel_rfl,@Fw⟩
theorem IX {w0 N b r} (h:kZ N b=some r) :
    iq prog 93 #[.agg #[vI b.bh,vI b.ib,vI b.ij]] w0 (fun v w=>v=.bool r∧St w0 [] w []):=by
 unfold kZ at h;refine iq.fn func93 fun e=>?_;have d:=St.start w0;refine T ?_;intro o p f;refine T ?_;intro x k h q g;refine bH h ?_ ?_<;>intro _ h
 · refine T ?_;intro z l h u i;refine bH h ?_ ?_<;>intro _ h
   · refine T ?_;intro A m h n j;exact rt
   exact rt
 exact rt
instance k_93:Ct prog 93:=⟨by kernel_rfl,@IX⟩
theorem JB {w0 N b r} (h:ua N b=some r) {d l i} (z:l=b.ig.length) (C:rb w0 d i b.ig) {f m j} (A:m=b.PG.length) (G:rb w0 f j b.PG) {g n k} (B:n=b.PE.length) (H:rb w0 g k b.PE) :
    iq prog 225 #[.agg #[vI b.PO,vI b.Pz,vI b.box,vI b.res,vI b.iK,vI b.bh,vI b.PK,vI b.iP,vI b.iM,.bool b.mark,vS d l i,vS f m j,vS g n k]] w0 (fun v w=>v=.bool r∧St w0 [] w []):=by
 subst z A B;unfold ua at h;refine iq.fn func225 fun e=>?_;have bR:=St.start w0;refine T ?_;intro cB cC bS cE bZ h cD X;refine gc h ?_ ?_<;>intro _ h
 · exact rt
 refine gc h ?_ ?_<;>intro _ h
 · refine gs ?_;obtain ⟨bs,ay,aT⟩:=ob h;refine CW.jn [] [] [(2,.bool bs)] X (h1:=?_) (h2:=?_)
   · have h:=ay;refine gB h ?_ ?_<;>intro _ h
     · refine gB h ?_ ?_<;>intro _ h
       · refine go ?_;refine bH h ?_ ?_<;>intro _ h
         · refine gB h ?_ ?_<;>intro _ h
           · refine gB h ?_ ?_<;>intro _ h
             · refine gB h ?_ ?_<;>intro _ h
               · refine gB h ?_ ?_<;>intro _ h
                 · refine go ?_;refine bH h ?_ ?_<;>intro _ h
                   · refine gB h ?_ ?_<;>intro _ h
                     · refine gB h ?_ ?_<;>intro _ h
                       · exact rt
                       exact rt
                     exact rt
                   exact rt
                 exact rt
               exact rt
             exact rt
           exact rt
         exact rt
       exact rt
     exact rt
   intro e b1 bT;have h:=aT;exact rt
 refine gs ?_;obtain ⟨az,am,av⟩:=ob h;refine CW.jn [1] [0] [(108,.bool az)] X (h1:=?_) (h2:=?_)
 · have h:=am;refine T ?_;intro cn be h b2 bU;refine bH h ?_ ?_<;>intro _ h
   · exact rt
   refine T ?_;intro co bf h b3 bV;refine bH h ?_ ?_<;>intro _ h
   · exact rt
   refine T ?_;intro cp bg h b4 bW;refine bH h ?_ ?_<;>intro _ h
   · exact rt
   refine T ?_;intro cq bi h b5 bX;refine bH h ?_ ?_<;>intro _ h
   · exact rt
   refine T ?_;intro cr bj h b6 bY;refine bH h ?_ ?_<;>intro _ h
   · exact rt
   refine gB h ?_ ?_<;>intro _ h
   · exact rt
   refine T ?_;intro cs bk h b7 aU;exact rt
 intro e b8 ad;have h:=av;refine gc h ?_ ?_<;>intro _ h
 · exact rt
 refine go ?_;obtain ⟨Y,ap,W⟩:=ob h;refine CW.mono (CW.lx [1] [0] [1] 0 (fun Z=>[(3,vI Z)]) (RT prog f225.results (fun u=>.bool u) w0 []) ad ap (hb:=?_)) ?_
 · intro Z e b9 o aV h;refine gc h ?_ ?_<;>intro _ h
   · refine gb h fun ct aq h=>?_;obtain ⟨bQ,b0,aS,rfl,ba,bc,bd,rfl,bb⟩:=C.idx aq;refine go ?_;refine T ?_;intro cu bl h ca aW;refine CW.fl [1,3,119] fun e=>?_;refine gc h ?_ ?_<;>intro _ h
     · exact rt
     exact rt
   exact rt
 intro x e cb hM;rcases Y with Y | bz
 · obtain ⟨rfl,hM⟩:=hM;obtain ⟨e,rfl,ae⟩:=eo hM;have h:=W;refine gs ?_;obtain ⟨aA,an,aw⟩:=ob h;refine CW.jn [1] [0] [(165,.bool aA)] ae (h1:=?_) (h2:=?_)
   · have h:=an;refine gB h ?_ ?_<;>intro _ h
     · refine gB h ?_ ?_<;>intro _ h
       · exact rt
       refine go ?_;refine bH h ?_ ?_<;>intro _ h
       · exact rt
       refine gB h ?_ ?_<;>intro _ h
       · exact rt
       refine gB h ?_ ?_<;>intro _ h
       · refine gB h ?_ ?_<;>intro _ h
         · exact rt
         refine gB h ?_ ?_<;>intro _ h
         · refine go ?_;refine T ?_;intro cv bm h cc aX;refine bH h ?_ ?_<;>intro _ h
           · exact rt
           refine T ?_;intro cw bn h ce aY;exact rt
         refine go ?_;refine T ?_;intro cx bo h cf aZ;exact rt
       exact rt
     refine go ?_;refine bH h ?_ ?_<;>intro _ h
     · refine gB h ?_ ?_<;>intro _ h
       · exact rt
       refine gB h ?_ ?_<;>intro _ h
       · refine T ?_;intro cy bp h cg a0;refine bH h ?_ ?_<;>intro _ h
         · exact rt
         refine T ?_;intro cz bq h ci a1;exact rt
       refine T ?_;intro cA br h cj a2;exact rt
     exact rt
   intro e ck af;have h:=aw;refine gc h ?_ ?_<;>intro _ h
   · exact rt
   refine gs ?_;obtain ⟨aB,ao,ax⟩:=ob h;refine CW.jn [1] [0] [(195,.bool aB)] af (h1:=?_) (h2:=?_)
   · have h:=ao;refine gB h ?_ ?_<;>intro _ h
     · refine gB h ?_ ?_<;>intro _ h
       · exact rt
       refine go ?_;refine bH h ?_ ?_<;>intro _ h
       · exact rt
       refine gB h ?_ ?_<;>intro _ h
       · exact rt
       exact rt
     refine go ?_;refine bH h ?_ ?_<;>intro _ h
     · exact rt
     exact rt
   intro e cl ah;have h:=ax;refine gc h ?_ ?_<;>intro _ h
   · exact rt
   refine go ?_;obtain ⟨I,O,p⟩:=ob h;refine CW.mono (CW.lx [1] [0] [1] 2 (fun aa=>[(4,vI aa)]) (RT prog f225.results (fun u=>.bool u) w0 []) ah O (hb:=?_)) ?_
   · intro aa e cm o a3 h;refine kD [1,4,200] fun e=>?_;refine gc h ?_ ?_<;>intro _ h
     · refine gb h fun bK U h=>?_;obtain ⟨aQ,bt,aC,rfl,aE,aI,aK,rfl,aG⟩:=G.idx U;refine go ?_;refine T ?_;intro bL aM h bA a4;refine gc h ?_ ?_<;>intro _ h
       · exact rt
       exact rt
     exact rt
   intro x e bB hM;rcases I with I | bw
   · obtain ⟨rfl,hM⟩:=hM;obtain ⟨e,rfl,ai⟩:=eo hM;have h:=p;refine gs ?_;obtain ⟨ar,L,ab⟩:=ob h;refine CW.jn [1] [0] [(224,.bool ar)] ai (h1:=?_) (h2:=?_)
     · have h:=L;refine gB h ?_ ?_<;>intro _ h
       · exact rt
       refine gB h ?_ ?_<;>intro _ h
       · exact rt
       exact rt
     intro e bC aj;have h:=ab;refine gc h ?_ ?_<;>intro _ h
     · exact rt
     refine go ?_;obtain ⟨J,R,q⟩:=ob h;refine CW.mono (CW.lx [1] [0] [] 4 (fun K=>[(5,vI K)]) (RT prog f225.results (fun u=>.bool u) w0 []) aj R (hb:=?_)) ?_
     · intro K e bD o ak h;refine kD [1,5,229] fun e=>?_;refine gc h ?_ ?_<;>intro _ h
       · refine gs ?_;refine CW.block ?_;refine gs ?_;obtain ⟨au,M,ac⟩:=ob h;refine CW.jn [1,5] [0] [(258,.bool au)] ak (h1:=?_) (h2:=?_)
         · have h:=M;refine gb h fun bM V h=>?_;obtain ⟨aR,bu,aD,rfl,aF,aJ,aL,rfl,aH⟩:=H.idx V;refine go ?_;refine T ?_;refine bH h ?_ ?_<;>intro _ h
           · refine go ?_;refine T ?_;intro bN aN h bE a5;refine bH h ?_ ?_<;>intro _ h
             · exact rt
             refine go ?_;refine T ?_;intro bO aO h bF a6;exact rt
           refine go ?_;refine T ?_;intro bP aP h bG a7;exact rt
         intro e bI a8;have h:=ac;refine gc h ?_ ?_<;>intro _ h
         · exact rt
         exact rt
       exact rt
     intro x e bJ hM;rcases J with J | bv
     · obtain ⟨rfl,hM⟩:=hM;obtain ⟨e,rfl,a9⟩:=eo hM;rw [show e=iN e [] from rfl];have h:=q;exact rt
     obtain ⟨rfl,u,rfl,hM⟩:=hM;cases q;exact And.intro trivial hM
   obtain ⟨rfl,u,rfl,hM⟩:=hM;cases p;exact And.intro trivial hM
 obtain ⟨rfl,u,rfl,hM⟩:=hM;cases W;exact And.intro trivial hM
instance k_225:Ct prog 225:=⟨by kernel_rfl,@JB⟩
theorem Jq {w0 N b r} (h:rz N b=some r) :
    iq prog 169 #[.agg #[vI b.res,vI b.km,vI b.nu,vI b.kT,vI b.Pz,vI b.mA]] w0 (fun v w=>v=.bool r∧St w0 [] w []):=by
 unfold rz at h;refine iq.fn func169 fun e=>?_;have n:=St.start w0;refine T ?_;intro U V d;obtain ⟨m,f,g⟩:=ob h;refine CW.jn [1] [0] [(24,.bool m)] d (h1:=?_) (h2:=?_)
 · have h:=f;refine T ?_;intro Y B h W o;refine bH h ?_ ?_<;>intro _ h
   · exact rt
   refine T ?_;intro Z C h X p;refine bH h ?_ ?_<;>intro _ h
   · exact rt
   refine T ?_;intro L i h G q;refine bH h ?_ ?_<;>intro _ h
   · exact rt
   refine T ?_;intro M j h H u;exact rt
 intro e I x;have h:=g;refine gc h ?_ ?_<;>intro _ h
 · exact rt
 refine gc h ?_ ?_<;>intro _ h
 · refine T ?_;intro O k h J z;exact rt
 refine gc h ?_ ?_<;>intro _ h
 · refine T ?_;intro R l h K A;exact rt
 exact rt
instance k_169:Ct prog 169:=⟨by kernel_rfl,@Jq⟩
theorem Bw {w0 N b r} (h:ni N b=some r) :
    iq prog 128 #[vI b] w0 (fun v w=>v=vI r∧St w0 [] w []):=by
 unfold ni at h;refine iq.fn func128 fun e=>?_;have d:=St.start w0;refine T ?_;intro j g h i f;refine gc h ?_ ?_<;>intro _ h
 · exact rt
 refine go ?_;refine LW.u (iQ.rem rfl rfl (by decide)) rfl ?_;exact rt
instance k_128:Ct prog 128:=⟨by kernel_rfl,@Bw⟩
theorem Bu {w0 N b r} (h:pI N b=some r) :
    iq prog 129 #[vI b] w0 (fun v w=>v=vI r∧St w0 [] w []):=by
 unfold pI at h;refine iq.fn func129 fun e=>?_;have d:=St.start w0;refine T ?_;intro j g h i f;refine gc h ?_ ?_<;>intro _ h
 · exact rt
 refine go ?_;refine LW.u (iQ.quo rfl rfl (by decide)) rfl ?_;refine LW.u (iQ.rem rfl rfl (by decide)) rfl ?_;exact rt
instance k_129:Ct prog 129:=⟨by kernel_rfl,@Bu⟩
theorem CN {w0 N b r} (h:qw N b=some r) :
    iq prog 130 #[vI b] w0 (fun v w=>v=vI r∧St w0 [] w []):=by
 unfold qw at h;refine iq.fn func130 fun e=>?_;have d:=St.start w0;refine T ?_;intro j g h i f;refine gc h ?_ ?_<;>intro _ h
 · exact rt
 refine go ?_;refine LW.u (iQ.quo rfl rfl (by decide)) rfl ?_;refine LW.u (iQ.quo rfl rfl (by decide)) rfl ?_;exact rt
instance k_130:Ct prog 130:=⟨by kernel_rfl,@CN⟩
theorem wz {w0 N M O R r} (h:ot N M O R=some r) {b k g} (n:k=M.length) (Z:rb w0 b g M) {d l i} (p:l=O.PA.length) (z:rb w0 d i O.PA) {f m j} (q:m=R.PA.length) (A:rb w0 f j R.PA) :
    iq prog 167 #[vS b k g,.agg #[vS d l i],.agg #[vS f m j]] w0 (fun v w=>v=.bool r∧St w0 [] w []):=by
 subst n p q;unfold ot at h;refine iq.fn func167 fun e=>?_;have ay:=St.start w0;refine T ?_;intro aU aW az aV aX V;obtain ⟨av,X,ac⟩:=ob h;refine CW.jn [0,4,5] [0,1] [(20,.bool av)] V (h1:=?_) (h2:=?_)
 · have h:=X;refine T ?_;intro aZ aE h aY aA;refine bH h ?_ ?_<;>intro _ h
   · exact rt
   refine T ?_;intro aP aq h aI aB;refine bH h ?_ ?_<;>intro _ h
   · exact rt
   refine T ?_;intro aQ ar h aJ aC;exact rt
 intro e aK W;have h:=ac;refine gc h ?_ ?_<;>intro _ h
 · exact rt
 refine go ?_;obtain ⟨G,J,B⟩:=ob h;refine CW.mono (CW.lx [0,4,5] [0,1] [] 0 (fun H=>[(7,vI H)]) (RT prog f167.results (fun u=>.bool u) w0 []) W J (hb:=?_)) ?_
 · intro H e aL o C h;refine gc h ?_ ?_<;>intro _ h
   · refine gs ?_;refine CW.block ?_;refine gs ?_;obtain ⟨Y,I,U⟩:=ob h;refine CW.jn [0,4,5,7] [0,1] [(41,.bool Y)] C (h1:=?_) (h2:=?_)
     · have h:=I;refine dW ?_;have aD:=C.drew;refine gb h fun aR K h=>?_;obtain ⟨aw,aF,aa,rfl,ah,am,ao,rfl,aj⟩:=z.idx K;refine go ?_;refine T ?_;have ⟨aS,L,h⟩:=ob h;obtain ⟨ax,aG,ab,rfl,ai,an,ap,rfl,ak⟩:=A.idx L;refine go ?_;refine T ?_;refine bH h ?_ ?_<;>intro _ h
       · refine T ?_;intro aT au h aM ad;exact rt
       exact rt
     intro e aN ae;have h:=U;refine gc h ?_ ?_<;>intro _ h
     · exact rt
     exact rt
   exact rt
 intro x e aO hM;rcases G with G | aH
 · obtain ⟨rfl,hM⟩:=hM;obtain ⟨e,rfl,af⟩:=eo hM;rw [show e=iN e [] from rfl];have h:=B;exact rt
 obtain ⟨rfl,u,rfl,hM⟩:=hM;cases B;exact And.intro trivial hM
instance k_167:Ct prog 167:=⟨by kernel_rfl,@wz⟩
theorem yA {w0 N f g i r} (h:nB N f g i=some r) :
    iq prog 51 #[vI f,vI g,vI i] w0 (fun v w=>v=vI r∧St w0 [] w []):=by
 unfold nB at h;refine iq.fn func51 fun e=>?_;have b:=St.start w0;refine gs ?_;refine CW.region ?_;refine gs ?_;obtain ⟨j,d,h2⟩:=ob h;refine CW.jn [0,1,2] [] [(19,.bool j)] b (h1:=?_) (h2:=?_)
 · have h:=d;refine T ?_;intro B o h z k;refine bH h ?_ ?_<;>intro _ h
   · exact rt
   refine T ?_;intro C p h A l;refine bH h ?_ ?_<;>intro _ h
   · exact rt
   refine T ?_;intro G q h u m;exact rt
 intro e x n;have h:=h2;refine gc h ?_ ?_<;>intro _ h
 · exact rt
 exact rt
instance k_51:Ct prog 51:=⟨by kernel_rfl,@yA⟩
theorem vD {w0 N z r} (h:nL N z=some r) {g x j} (A:x=z.length) (B:rb w0 g j z) :
    iq prog 314 #[vS g x j] w0 (fun v w=>∃ J U,v=vS J r.length U∧St w0 [] w [sl J U r]):=by
 subst A;unfold nL at h;refine iq.fn func314 fun e=>?_;have Z:=St.start w0;refine go ?_;refine LW.b0 (α:=gE) Z ?_;intro af ah aL aa hf;refine go ?_;obtain ⟨aD,W,Y⟩:=ob h;refine CW.ie W 0 (fun u e wb=>∃ (d:Ad) (f:Nat),En e [(3,vS d u.1.length f),(7,vS g z.length j),(8,vI (z.length:Int)),(9,vI u.2)]∧St w0 [] wb [sl d f u.1]) ?_ ⟨af,ah,aa.po [0]⟩ ?_
 · intro u e aM o hM h;obtain ⟨d,f,hE,av⟩:=hM;obtain ⟨e,rfl⟩:=hE.out;refine gc h ?_ ?_<;>intro _ h
   · refine gb h fun ae ad h=>?_;obtain ⟨ar,aC,ai,rfl,aj,aA,aB,⟨C,K,H,O,I,R,rfl,am,an,ao⟩,ak⟩:=B.idx ad;refine go ?_;refine T ?_;intro V aF aw aG ax b ap h k n l p m q aH ab;have ac:=ab.pk (M:=[sl k n b.ig,sl l p b.PG,sl m q b.PE]++[bx V 101 (qO C K H O I R ae),sl d f u.1]) [0,1,2,3,4];have ⟨aK,X,h⟩:=ob h;refine LW.l5 (M:=[sl k n b.ig,sl l p b.PG,sl m q b.PE]) (L:=[bx V 101 (qO C K H O I R ae),sl d f u.1]) (vs:=#[vI b.PO,vI b.Pz,vI b.box,vI b.res,vI b.iK,vI b.bh,vI b.PK,vI b.iP,vI b.iM,.bool b.mark,vS k b.ig.length n,vS l b.PG.length p,vS m b.PE.length q]) (i:=1) KD rfl (by kernel_rfl) rfl rfl X ac rfl (fun w G hG=>⟨k,n,l,p,m,q,rfl,hG⟩) rfl rfl ?_;intro aE aq au aI ay hf;exact rt
   exact rt
 rintro e aJ ⟨d,f,hE,az⟩;obtain ⟨e,rfl⟩:=hE.out;have h:=Y;exact rt
instance k_314:Ct prog 314:=⟨by kernel_rfl,@vD⟩
theorem I5 {w0 N b r} (h:tR N b=some r) :
    iq prog 160 #[.agg #[vI b.res,vI b.km,vI b.nu,vI b.kT,vI b.Pz,vI b.mA]] w0 (fun v w=>v=.bool r∧St w0 [] w []):=by
 unfold tR at h;refine iq.fn func160 fun e=>?_;have p:=St.start w0;refine T ?_;intro Y Z d;obtain ⟨o,f,g⟩:=ob h;refine CW.jn [1] [0] [(24,.bool o)] d (h1:=?_) (h2:=?_)
 · have h:=f;refine T ?_;intro ac G h aa q;refine bH h ?_ ?_<;>intro _ h
   · exact rt
   refine T ?_;intro ad H h ab u;refine bH h ?_ ?_<;>intro _ h
   · exact rt
   refine T ?_;intro R j h I x;refine bH h ?_ ?_<;>intro _ h
   · exact rt
   refine T ?_;intro U k h J z;exact rt
 intro e K A;have h:=g;refine gc h ?_ ?_<;>intro _ h
 · exact rt
 refine gB h ?_ ?_<;>intro _ h
 · refine T ?_;intro V l h L B;refine bH h ?_ ?_<;>intro _ h
   · exact rt
   refine gB h ?_ ?_<;>intro _ h
   · refine T ?_;intro W m h M C;exact rt
   exact rt
 refine gB h ?_ ?_<;>intro _ h
 · refine T ?_;intro X n h O i;exact rt
 exact rt
instance k_160:Ct prog 160:=⟨by kernel_rfl,@I5⟩
theorem IL {w0 N b r} (h:lg N b=some r) :
    iq prog 154 #[.agg #[vI b.bh,vI b.ib,vI b.ij]] w0 (fun v w=>v=.bool r∧St w0 [] w []):=by
 unfold lg at h;refine iq.fn func154 fun e=>?_;have d:=St.start w0;refine T ?_;intro o p f;refine T ?_;intro x k h q g;refine bH h ?_ ?_<;>intro _ h
 · refine T ?_;intro z l h u i;refine bH h ?_ ?_<;>intro _ h
   · refine T ?_;intro A m h n j;exact rt
   exact rt
 exact rt
instance k_154:Ct prog 154:=⟨by kernel_rfl,@IL⟩
theorem H2 {w0 N j l r} (h:mS N j l=some r) {b f d} (g:f=j.length) (i:rb w0 b d j) :
    iq prog 161 #[vS b f d,vI l] w0 (fun v w=>v=.bool r∧St w0 [] w []):=by
 subst g;unfold mS at h;refine iq.fn func161 fun e=>?_;have p:=St.start w0;refine go ?_;refine T ?_;intro G z h C q;refine bH h ?_ ?_<;>intro _ h
 · refine gb h fun H k h=>?_;obtain ⟨A,B,o,rfl,m,u,x,rfl,n⟩:=i.idx k;refine go ?_;refine T ?_;exact rt
 exact rt
instance k_161:Ct prog 161:=⟨by kernel_rfl,@H2⟩
end Go.Kx
