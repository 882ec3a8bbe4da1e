import Derived.Test.YtlcgibcdiikheaaGreatWa1
import Derived.Test.YtlcgibcdiikheaaGreatWa3
namespace Go.Kx
open Go Go.RowKit Go.Proofs
open Go.IntKind (i64)
open Tryz
set_option maxRecDepth 10000
set_option maxHeartbeats 8000000
set_option linter.unusedVariables false
set_option linter.unusedSimpArgs false
theorem vx {w0} {F:List Nat} {N ao az r} (h:m7 N ao az=some r) {k R d} (V:R=ao.length) (hS:St w0 F w0 [sl k d ao]) :
    gV prog 36 #[vS k R d,vI az] w0 (fun v w=>v=vI r.1∧St w0 F w [sl k d r.2]):=by
 subst V;unfold m7 at h;refine gV.fn func36 fun e=>?_;refine go ?_;obtain ⟨aO,ak,aq⟩:=ob h;refine CW.ie ak 0 (fun f e wb=>En e [(0,vS k f.1.length d),(1,vI f.2.1),(5,vI f.2.2)]∧St w0 F wb [sl k d f.1]) ?_ ⟨⟨rfl,rfl,rfl,trivial⟩,hS.pk [0]⟩ ?_
 · intro f e aX o hM h;obtain ⟨e,rfl,W⟩:=eo hM;refine gc h ?_ ?_<;>intro _ h
   · refine gb h fun g O h=>?_;obtain ⟨ap,U,hae,aL,aM⟩:=W.hZ (α:=iO) (i:=0) rfl O;subst hae;refine go ?_;obtain ⟨aW,M,X⟩:=W.freeze (α:=iO) 0 rfl;obtain ⟨aI,aN,aB,hae,ac,_,_,ae,ah⟩:=M.ju.idx O;cases hae;obtain ⟨p,x,q,z,rfl,aC,aD⟩:=ae;refine T ?_;have ⟨C,am,h⟩:=ob h;obtain ⟨aP,A,m⟩:=lO am;obtain ⟨K,m⟩:=iI m;rw [oi m] at A K;have ai:=fun (j:Nat) (u:Value) (hu:([vS p g.Pe.Pd.length x,vS q g.own.length z,vI g.j6.gE,vI g.j6.gX,vI g.j6.g8]:List Value)[j]?=some u)=>(World.cell?_of_block (X.zC 0 rfl ac)).trans (ah j u hu);have ar:=X.iD (α:=iO) 0 rfl M;obtain ⟨aA,aj,af⟩:=ar.focus (α:=iO) (cs:=[vS p g.Pe.Pd.length x,vS q g.own.length z,vI g.j6.gE,vI g.j6.gX,vI g.j6.g8]) 0 rfl O rfl ai;obtain ⟨aG,aJ,aH,aK,ad,Z⟩:=aj;cases ad;have au:=af [sl p x g.Pe.Pd,sl q z g.own] Z;obtain ⟨aE,H⟩:=au.k4 [0] [1,2];refine LW.cl (mR A rfl H.st) ?_;rintro _ ay ⟨rfl,hs⟩;have J:=H.back _ _ hs;refine go ?_;refine LW.l (iZ.jz ay uF rfl (J.pL 2 rfl (j:=1) rfl)) rfl rfl ?_;refine gb h fun b an h=>?_;obtain ⟨aQ,B,n⟩:=lO an;obtain ⟨L,n⟩:=iI n;rw [oi n] at B L;rw [show g.Pe.Pd.length=C.2.length from K] at J;obtain ⟨aF,I⟩:=J.k4 [1] [0,2];refine LW.cl (mR B rfl I.st) ?_;rintro _ aR ⟨rfl,hs⟩;have av:=I.back _ _ hs;refine go ?_;refine LW.qf (α:=iO) (vs:=[vI b.1]) av 2 rfl ki rfl (by show _=U+(f.2.2:Int).toNat * 5+2;omega) rfl rfl rfl rfl ?_;intro aS aw hf;refine go ?_;refine LW.qf (α:=iO) (vs:=[vI (i64.wrap (b.1+1))]) aw 2 rfl ki rfl (by show _=U+(f.2.2:Int).toNat * 5+3;omega) rfl rfl rfl rfl ?_;intro aT ax hf;refine go ?_;refine LW.qf (α:=iO) (vs:=[vI (i64.wrap ((i64.wrap (b.1+1))+1))]) ax 2 rfl ki rfl (by show _=U+(f.2.2:Int).toNat * 5+4;omega) rfl rfl rfl rfl ?_;intro aU Y hf;refine go ?_;replace h:=oi h;subst h;rw [show g.own.length=b.2.length from L] at Y
     have aa:=Y.m6 (iO.mk (iY.mk C.2) b.2 (hO.mk b.1 (i64.wrap (b.1+1)) (i64.wrap ((i64.wrap (b.1+1))+1)))) [1,0,2] 2 0 rfl rfl (fun w G hG=>⟨p,x,q,z,rfl,hG⟩);exact ⟨rfl,⟨⟨(show (vS (some ⟨ap,U,none⟩) f.1.length d:Value)=vS (some ⟨ap,U,none⟩) ((f.1.set (f.2.2:Int).toNat (iO.mk (iY.mk C.2) b.2 (hO.mk b.1 (i64.wrap (b.1+1)) (i64.wrap ((i64.wrap (b.1+1))+1))))).length) d by rw [show f.1.length=(f.1.set (f.2.2:Int).toNat (iO.mk (iY.mk C.2) b.2 (hO.mk b.1 (i64.wrap (b.1+1)) (i64.wrap ((i64.wrap (b.1+1))+1))))).length from (gS rfl)]),rfl,rfl,trivial⟩,aa.pk [0]⟩⟩
   exact rt
 rintro e aV ⟨hE,ab⟩;obtain ⟨e,rfl⟩:=hE.out;have h:=aq;refine go ?_;replace h:=oi h;subst h;exact Ra ⟨rfl,ab.pk [0]⟩
instance k_36:Ct prog 36:=⟨by kernel_rfl,@vx⟩
theorem EZ {w0 N b r} (h:nn N b=some r) {k q o} (z:q=b.ag.length) (U:rb w0 k o b.ag) {n x p} (A:x=b.gc.gQ.length) (B:rb w0 n p b.gc.gQ) :
    gV prog 260 #[.agg #[vS k q o,vI b.gc.Ph,vI b.gc.Pr,vI b.gc.Pj,vS n x p]] w0 (fun v w=>∃ d g, ∃ f j,v=.agg #[vS d r.ag.length g,vI r.gc.Ph,vI r.gc.Pr,vI r.gc.Pj,vS f r.gc.gQ.length j]∧St w0 [] w [sl d g r.ag,sl f j r.gc.gQ]):=by
 subst z A;unfold nn at h;refine gV.fn func260 fun e=>?_;have Y:=St.start w0;refine T ?_;intro an aq Z ao ar aa ap au ab av O;refine LW.b0 (α:=Int) O ?_;intro ak am ae J hf;refine gb h fun K M h=>?_;refine LW.jS (l:=([]:List Int)) (m:=b.gc.gQ) pI rfl rfl (J.rB B) M J (i:=0) rfl rfl ?_;intro C H af ac hf;refine T ?_;intro ah R;refine dW ?_;have ad:=R.drew;refine go ?_;refine jP 2 ?_;refine T ?_;intro L X h G I ai V;refine AW.u (i:=4) rfl (by kernel_rfl) rfl rfl (il.build (vs:=[(0,vS G L.length I),(1,.agg #[vI b.gc.Ph,vI b.gc.Pr,vI b.gc.Pj,vS C K.length H])]) (cs:=#[vS G L.length I,vI b.gc.Ph,vI b.gc.Pr,vI b.gc.Pj,vS C K.length H]) rfl (by kernel_rfl)) ?_;refine T ?_;intro aj W;exact rt
instance k_260:Ct prog 260:=⟨by kernel_rfl,@EZ⟩
theorem I3 {w0 N b r} (h:kr N b=some r) :
    gV prog 93 #[.agg #[vI b.gE,vI b.gX,vI b.g8]] w0 (fun v w=>v=.bool r∧St w0 [] w []):=by
 unfold kr at h;refine gV.fn func93 fun e=>?_;have d:=St.start w0;refine T ?_;intro o p f;refine T ?_;intro x k h q g;refine bH h ?_ ?_<;>intro _ h
 · refine T ?_;intro z l h u i;refine bH h ?_ ?_<;>intro _ h
   · refine T ?_;intro A m h n j;exact rt
   exact rt
 exact rt
instance k_93:Ct prog 93:=⟨by kernel_rfl,@I3⟩
theorem Iz {w0 N b r} (h:tD N b=some r) {d l i} (z:l=b.gZ.length) (C:rb w0 d i b.gZ) {f m j} (A:m=b.Po.length) (G:rb w0 f j b.Po) {g n k} (B:n=b.Pk.length) (H:rb w0 g k b.Pk) :
    gV prog 225 #[.agg #[vI b.Pw,vI b.Pf,vI b.box,vI b.Pu,vI b.iz,vI b.gE,vI b.Pq,vI b.iy,vI b.im,.bool b.Ps,vS d l i,vS f m j,vS g n k]] w0 (fun v w=>v=.bool r∧St w0 [] w []):=by
 subst z A B;unfold tD at h;refine gV.fn func225 fun e=>?_;have bR:=St.start w0;refine T ?_;intro cB cC bS cE bZ h cD X;refine gc h ?_ ?_<;>intro _ h
 · exact rt
 refine gc h ?_ ?_<;>intro _ h
 · refine gs ?_;obtain ⟨bs,ay,aT⟩:=ob h;refine CW.jn [] [] [(2,.bool bs)] X (h1:=?_) (h2:=?_)
   · have h:=ay;refine gB h ?_ ?_<;>intro _ h
     · refine gB h ?_ ?_<;>intro _ h
       · refine go ?_;refine bH h ?_ ?_<;>intro _ h
         · refine gB h ?_ ?_<;>intro _ h
           · refine gB h ?_ ?_<;>intro _ h
             · refine gB h ?_ ?_<;>intro _ h
               · refine gB h ?_ ?_<;>intro _ h
                 · refine go ?_;refine bH h ?_ ?_<;>intro _ h
                   · refine gB h ?_ ?_<;>intro _ h
                     · refine gB h ?_ ?_<;>intro _ h
                       · exact rt
                       exact rt
                     exact rt
                   exact rt
                 exact rt
               exact rt
             exact rt
           exact rt
         exact rt
       exact rt
     exact rt
   intro e b1 bT;have h:=aT;exact rt
 refine gs ?_;obtain ⟨az,am,av⟩:=ob h;refine CW.jn [1] [0] [(108,.bool az)] X (h1:=?_) (h2:=?_)
 · have h:=am;refine T ?_;intro cn be h b2 bU;refine bH h ?_ ?_<;>intro _ h
   · exact rt
   refine T ?_;intro co bf h b3 bV;refine bH h ?_ ?_<;>intro _ h
   · exact rt
   refine T ?_;intro cp bg h b4 bW;refine bH h ?_ ?_<;>intro _ h
   · exact rt
   refine T ?_;intro cq bi h b5 bX;refine bH h ?_ ?_<;>intro _ h
   · exact rt
   refine T ?_;intro cr bj h b6 bY;refine bH h ?_ ?_<;>intro _ h
   · exact rt
   refine gB h ?_ ?_<;>intro _ h
   · exact rt
   refine T ?_;intro cs bk h b7 aU;exact rt
 intro e b8 ad;have h:=av;refine gc h ?_ ?_<;>intro _ h
 · exact rt
 refine go ?_;obtain ⟨Y,ap,W⟩:=ob h;refine CW.mono (CW.lx [1] [0] [1] 0 (fun Z=>[(3,vI Z)]) (RT prog f225.results (fun u=>.bool u) w0 []) ad ap (hb:=?_)) ?_
 · intro Z e b9 o aV h;refine gc h ?_ ?_<;>intro _ h
   · refine gb h fun ct aq h=>?_;obtain ⟨bQ,b0,aS,rfl,ba,bc,bd,rfl,bb⟩:=C.idx aq;refine go ?_;refine T ?_;intro cu bl h ca aW;refine CW.fl [1,3,119] fun e=>?_;refine gc h ?_ ?_<;>intro _ h
     · exact rt
     exact rt
   exact rt
 intro x e cb hM;rcases Y with Y | bz
 · obtain ⟨rfl,hM⟩:=hM;obtain ⟨e,rfl,ae⟩:=eo hM;have h:=W;refine gs ?_;obtain ⟨aA,an,aw⟩:=ob h;refine CW.jn [1] [0] [(165,.bool aA)] ae (h1:=?_) (h2:=?_)
   · have h:=an;refine gB h ?_ ?_<;>intro _ h
     · refine gB h ?_ ?_<;>intro _ h
       · exact rt
       refine go ?_;refine bH h ?_ ?_<;>intro _ h
       · exact rt
       refine gB h ?_ ?_<;>intro _ h
       · exact rt
       refine gB h ?_ ?_<;>intro _ h
       · refine gB h ?_ ?_<;>intro _ h
         · exact rt
         refine gB h ?_ ?_<;>intro _ h
         · refine go ?_;refine T ?_;intro cv bm h cc aX;refine bH h ?_ ?_<;>intro _ h
           · exact rt
           refine T ?_;intro cw bn h ce aY;exact rt
         refine go ?_;refine T ?_;intro cx bo h cf aZ;exact rt
       exact rt
     refine go ?_;refine bH h ?_ ?_<;>intro _ h
     · refine gB h ?_ ?_<;>intro _ h
       · exact rt
       refine gB h ?_ ?_<;>intro _ h
       · refine T ?_;intro cy bp h cg a0;refine bH h ?_ ?_<;>intro _ h
         · exact rt
         refine T ?_;intro cz bq h ci a1;exact rt
       refine T ?_;intro cA br h cj a2;exact rt
     exact rt
   intro e ck af;have h:=aw;refine gc h ?_ ?_<;>intro _ h
   · exact rt
   refine gs ?_;obtain ⟨aB,ao,ax⟩:=ob h;refine CW.jn [1] [0] [(195,.bool aB)] af (h1:=?_) (h2:=?_)
   · have h:=ao;refine gB h ?_ ?_<;>intro _ h
     · refine gB h ?_ ?_<;>intro _ h
       · exact rt
       refine go ?_;refine bH h ?_ ?_<;>intro _ h
       · exact rt
       refine gB h ?_ ?_<;>intro _ h
       · exact rt
       exact rt
     refine go ?_;refine bH h ?_ ?_<;>intro _ h
     · exact rt
     exact rt
   intro e cl ah;have h:=ax;refine gc h ?_ ?_<;>intro _ h
   · exact rt
   refine go ?_;obtain ⟨I,O,p⟩:=ob h;refine CW.mono (CW.lx [1] [0] [1] 2 (fun aa=>[(4,vI aa)]) (RT prog f225.results (fun u=>.bool u) w0 []) ah O (hb:=?_)) ?_
   · intro aa e cm o a3 h;refine jw [1,4,200] fun e=>?_;refine gc h ?_ ?_<;>intro _ h
     · refine gb h fun bK U h=>?_;obtain ⟨aQ,bt,aC,rfl,aE,aI,aK,rfl,aG⟩:=G.idx U;refine go ?_;refine T ?_;intro bL aM h bA a4;refine gc h ?_ ?_<;>intro _ h
       · exact rt
       exact rt
     exact rt
   intro x e bB hM;rcases I with I | bw
   · obtain ⟨rfl,hM⟩:=hM;obtain ⟨e,rfl,ai⟩:=eo hM;have h:=p;refine gs ?_;obtain ⟨ar,L,ab⟩:=ob h;refine CW.jn [1] [0] [(224,.bool ar)] ai (h1:=?_) (h2:=?_)
     · have h:=L;refine gB h ?_ ?_<;>intro _ h
       · exact rt
       refine gB h ?_ ?_<;>intro _ h
       · exact rt
       exact rt
     intro e bC aj;have h:=ab;refine gc h ?_ ?_<;>intro _ h
     · exact rt
     refine go ?_;obtain ⟨J,R,q⟩:=ob h;refine CW.mono (CW.lx [1] [0] [] 4 (fun K=>[(5,vI K)]) (RT prog f225.results (fun u=>.bool u) w0 []) aj R (hb:=?_)) ?_
     · intro K e bD o ak h;refine jw [1,5,229] fun e=>?_;refine gc h ?_ ?_<;>intro _ h
       · refine gs ?_;refine CW.block ?_;refine gs ?_;obtain ⟨au,M,ac⟩:=ob h;refine CW.jn [1,5] [0] [(258,.bool au)] ak (h1:=?_) (h2:=?_)
         · have h:=M;refine gb h fun bM V h=>?_;obtain ⟨aR,bu,aD,rfl,aF,aJ,aL,rfl,aH⟩:=H.idx V;refine go ?_;refine T ?_;refine bH h ?_ ?_<;>intro _ h
           · refine go ?_;refine T ?_;intro bN aN h bE a5;refine bH h ?_ ?_<;>intro _ h
             · exact rt
             refine go ?_;refine T ?_;intro bO aO h bF a6;exact rt
           refine go ?_;refine T ?_;intro bP aP h bG a7;exact rt
         intro e bI a8;have h:=ac;refine gc h ?_ ?_<;>intro _ h
         · exact rt
         exact rt
       exact rt
     intro x e bJ hM;rcases J with J | bv
     · obtain ⟨rfl,hM⟩:=hM;obtain ⟨e,rfl,a9⟩:=eo hM;rw [show e=iq e [] from rfl];have h:=q;exact rt
     obtain ⟨rfl,u,rfl,hM⟩:=hM;cases q;exact And.intro trivial hM
   obtain ⟨rfl,u,rfl,hM⟩:=hM;cases p;exact And.intro trivial hM
 obtain ⟨rfl,u,rfl,hM⟩:=hM;cases W;exact And.intro trivial hM
instance k_225:Ct prog 225:=⟨by kernel_rfl,@Iz⟩
theorem Je {w0 N b r} (h:pE N b=some r) :
    gV prog 169 #[.agg #[vI b.Pu,vI b.jy,vI b.kJ,vI b.jR,vI b.Pf,vI b.ka]] w0 (fun v w=>v=.bool r∧St w0 [] w []):=by
 unfold pE at h;refine gV.fn func169 fun e=>?_;have n:=St.start w0;refine T ?_;intro U V d;obtain ⟨m,f,g⟩:=ob h;refine CW.jn [1] [0] [(24,.bool m)] d (h1:=?_) (h2:=?_)
 · have h:=f;refine T ?_;intro Y B h W o;refine bH h ?_ ?_<;>intro _ h
   · exact rt
   refine T ?_;intro Z C h X p;refine bH h ?_ ?_<;>intro _ h
   · exact rt
   refine T ?_;intro L i h G q;refine bH h ?_ ?_<;>intro _ h
   · exact rt
   refine T ?_;intro M j h H u;exact rt
 intro e I x;have h:=g;refine gc h ?_ ?_<;>intro _ h
 · exact rt
 refine gc h ?_ ?_<;>intro _ h
 · refine T ?_;intro O k h J z;exact rt
 refine gc h ?_ ?_<;>intro _ h
 · refine T ?_;intro R l h K A;exact rt
 exact rt
instance k_169:Ct prog 169:=⟨by kernel_rfl,@Je⟩
theorem B1 {w0 N b r} (h:my N b=some r) :
    gV prog 128 #[vI b] w0 (fun v w=>v=vI r∧St w0 [] w []):=by
 unfold my at h;refine gV.fn func128 fun e=>?_;have d:=St.start w0;refine T ?_;intro j g h i f;refine gc h ?_ ?_<;>intro _ h
 · exact rt
 refine go ?_;refine LW.u (il.rem rfl rfl (by decide)) rfl ?_;exact rt
instance k_128:Ct prog 128:=⟨by kernel_rfl,@B1⟩
theorem BE {w0 N b r} (h:o1 N b=some r) :
    gV prog 129 #[vI b] w0 (fun v w=>v=vI r∧St w0 [] w []):=by
 unfold o1 at h;refine gV.fn func129 fun e=>?_;have d:=St.start w0;refine T ?_;intro j g h i f;refine gc h ?_ ?_<;>intro _ h
 · exact rt
 refine go ?_;refine LW.u (il.quo rfl rfl (by decide)) rfl ?_;refine LW.u (il.rem rfl rfl (by decide)) rfl ?_;exact rt
instance k_129:Ct prog 129:=⟨by kernel_rfl,@BE⟩
theorem CO {w0 N b r} (h:pV N b=some r) :
    gV prog 130 #[vI b] w0 (fun v w=>v=vI r∧St w0 [] w []):=by
 unfold pV at h;refine gV.fn func130 fun e=>?_;have d:=St.start w0;refine T ?_;intro j g h i f;refine gc h ?_ ?_<;>intro _ h
 · exact rt
 refine go ?_;refine LW.u (il.quo rfl rfl (by decide)) rfl ?_;refine LW.u (il.quo rfl rfl (by decide)) rfl ?_;exact rt
instance k_130:Ct prog 130:=⟨by kernel_rfl,@CO⟩
theorem wK {w0 N M O R r} (h:nF N M O R=some r) {b k g} (n:k=M.length) (Z:rb w0 b g M) {d l i} (p:l=O.Pd.length) (z:rb w0 d i O.Pd) {f m j} (q:m=R.Pd.length) (A:rb w0 f j R.Pd) :
    gV prog 167 #[vS b k g,.agg #[vS d l i],.agg #[vS f m j]] w0 (fun v w=>v=.bool r∧St w0 [] w []):=by
 subst n p q;unfold nF at h;refine gV.fn func167 fun e=>?_;have ay:=St.start w0;refine T ?_;intro aU aW az aV aX V;obtain ⟨av,X,ac⟩:=ob h;refine CW.jn [0,4,5] [0,1] [(20,.bool av)] V (h1:=?_) (h2:=?_)
 · have h:=X;refine T ?_;intro aZ aE h aY aA;refine bH h ?_ ?_<;>intro _ h
   · exact rt
   refine T ?_;intro aP aq h aI aB;refine bH h ?_ ?_<;>intro _ h
   · exact rt
   refine T ?_;intro aQ ar h aJ aC;exact rt
 intro e aK W;have h:=ac;refine gc h ?_ ?_<;>intro _ h
 · exact rt
 refine go ?_;obtain ⟨G,J,B⟩:=ob h;refine CW.mono (CW.lx [0,4,5] [0,1] [] 0 (fun H=>[(7,vI H)]) (RT prog f167.results (fun u=>.bool u) w0 []) W J (hb:=?_)) ?_
 · intro H e aL o C h;refine gc h ?_ ?_<;>intro _ h
   · refine gs ?_;refine CW.block ?_;refine gs ?_;obtain ⟨Y,I,U⟩:=ob h;refine CW.jn [0,4,5,7] [0,1] [(41,.bool Y)] C (h1:=?_) (h2:=?_)
     · have h:=I;refine dW ?_;have aD:=C.drew;refine gb h fun aR K h=>?_;obtain ⟨aw,aF,aa,rfl,ah,am,ao,rfl,aj⟩:=z.idx K;refine go ?_;refine T ?_;have ⟨aS,L,h⟩:=ob h;obtain ⟨ax,aG,ab,rfl,ai,an,ap,rfl,ak⟩:=A.idx L;refine go ?_;refine T ?_;refine bH h ?_ ?_<;>intro _ h
       · refine T ?_;intro aT au h aM ad;exact rt
       exact rt
     intro e aN ae;have h:=U;refine gc h ?_ ?_<;>intro _ h
     · exact rt
     exact rt
   exact rt
 intro x e aO hM;rcases G with G | aH
 · obtain ⟨rfl,hM⟩:=hM;obtain ⟨e,rfl,af⟩:=eo hM;rw [show e=iq e [] from rfl];have h:=B;exact rt
 obtain ⟨rfl,u,rfl,hM⟩:=hM;cases B;exact And.intro trivial hM
instance k_167:Ct prog 167:=⟨by kernel_rfl,@wK⟩
theorem zi {w0 N f g i r} (h:pj N f g i=some r) :
    gV prog 51 #[vI f,vI g,vI i] w0 (fun v w=>v=vI r∧St w0 [] w []):=by
 unfold pj at h;refine gV.fn func51 fun e=>?_;have b:=St.start w0;refine gs ?_;refine CW.region ?_;refine gs ?_;obtain ⟨j,d,h2⟩:=ob h;refine CW.jn [0,1,2] [] [(19,.bool j)] b (h1:=?_) (h2:=?_)
 · have h:=d;refine T ?_;intro B o h z k;refine bH h ?_ ?_<;>intro _ h
   · exact rt
   refine T ?_;intro C p h A l;refine bH h ?_ ?_<;>intro _ h
   · exact rt
   refine T ?_;intro G q h u m;exact rt
 intro e x n;have h:=h2;refine gc h ?_ ?_<;>intro _ h
 · exact rt
 exact rt
instance k_51:Ct prog 51:=⟨by kernel_rfl,@zi⟩
theorem vu {w0 N z r} (h:mb N z=some r) {g x j} (A:x=z.length) (B:rb w0 g j z) :
    gV prog 314 #[vS g x j] w0 (fun v w=>∃ J U,v=vS J r.length U∧St w0 [] w [sl J U r]):=by
 subst A;unfold mb at h;refine gV.fn func314 fun e=>?_;have Z:=St.start w0;refine go ?_;refine LW.b0 (α:=gP) Z ?_;intro af ah aL aa hf;refine go ?_;obtain ⟨aD,W,Y⟩:=ob h;refine CW.ie W 0 (fun u e wb=>∃ (d:Ad) (f:Nat),En e [(3,vS d u.1.length f),(7,vS g z.length j),(8,vI (z.length:Int)),(9,vI u.2)]∧St w0 [] wb [sl d f u.1]) ?_ ⟨af,ah,aa.po [0]⟩ ?_
 · intro u e aM o hM h;obtain ⟨d,f,hE,av⟩:=hM;obtain ⟨e,rfl⟩:=hE.out;refine gc h ?_ ?_<;>intro _ h
   · refine gb h fun ae ad h=>?_;obtain ⟨ar,aC,ai,rfl,aj,aA,aB,⟨C,K,H,O,I,R,rfl,am,an,ao⟩,ak⟩:=B.idx ad;refine go ?_;refine T ?_;intro V aF aw aG ax b ap h k n l p m q aH ab;have ac:=ab.pk (M:=[sl k n b.gZ,sl l p b.Po,sl m q b.Pk]++[bx V 101 (qO C K H O I R ae),sl d f u.1]) [0,1,2,3,4];have ⟨aK,X,h⟩:=ob h;refine LW.kB (M:=[sl k n b.gZ,sl l p b.Po,sl m q b.Pk]) (L:=[bx V 101 (qO C K H O I R ae),sl d f u.1]) (vs:=#[vI b.Pw,vI b.Pf,vI b.box,vI b.Pu,vI b.iz,vI b.gE,vI b.Pq,vI b.iy,vI b.im,.bool b.Ps,vS k b.gZ.length n,vS l b.Po.length p,vS m b.Pk.length q]) (i:=1) GZ rfl (by kernel_rfl) rfl rfl X ac rfl (fun w G hG=>⟨k,n,l,p,m,q,rfl,hG⟩) rfl rfl ?_;intro aE aq au aI ay hf;exact rt
   exact rt
 rintro e aJ ⟨d,f,hE,az⟩;obtain ⟨e,rfl⟩:=hE.out;have h:=Y;exact rt
instance k_314:Ct prog 314:=⟨by kernel_rfl,@vu⟩
theorem JD {w0 N b r} (h:pz N b=some r) :
    gV prog 160 #[.agg #[vI b.Pu,vI b.jy,vI b.kJ,vI b.jR,vI b.Pf,vI b.ka]] w0 (fun v w=>v=.bool r∧St w0 [] w []):=by
 unfold pz at h;refine gV.fn func160 fun e=>?_;have p:=St.start w0;refine T ?_;intro Y Z d;obtain ⟨o,f,g⟩:=ob h;refine CW.jn [1] [0] [(24,.bool o)] d (h1:=?_) (h2:=?_)
 · have h:=f;refine T ?_;intro ac G h aa q;refine bH h ?_ ?_<;>intro _ h
   · exact rt
   refine T ?_;intro ad H h ab u;refine bH h ?_ ?_<;>intro _ h
   · exact rt
   refine T ?_;intro R j h I x;refine bH h ?_ ?_<;>intro _ h
   · exact rt
   refine T ?_;intro U k h J z;exact rt
 intro e K A;have h:=g;refine gc h ?_ ?_<;>intro _ h
 · exact rt
 refine gB h ?_ ?_<;>intro _ h
 · refine T ?_;intro V l h L B;refine bH h ?_ ?_<;>intro _ h
   · exact rt
   refine gB h ?_ ?_<;>intro _ h
   · refine T ?_;intro W m h M C;exact rt
   exact rt
 refine gB h ?_ ?_<;>intro _ h
 · refine T ?_;intro X n h O i;exact rt
 exact rt
instance k_160:Ct prog 160:=⟨by kernel_rfl,@JD⟩
theorem JT {w0 N b r} (h:kq N b=some r) :
    gV prog 154 #[.agg #[vI b.gE,vI b.gX,vI b.g8]] w0 (fun v w=>v=.bool r∧St w0 [] w []):=by
 unfold kq at h;refine gV.fn func154 fun e=>?_;have d:=St.start w0;refine T ?_;intro o p f;refine T ?_;intro x k h q g;refine bH h ?_ ?_<;>intro _ h
 · refine T ?_;intro z l h u i;refine bH h ?_ ?_<;>intro _ h
   · refine T ?_;intro A m h n j;exact rt
   exact rt
 exact rt
instance k_154:Ct prog 154:=⟨by kernel_rfl,@JT⟩
theorem GY {w0 N j l r} (h:lF N j l=some r) {b f d} (g:f=j.length) (i:rb w0 b d j) :
    gV prog 161 #[vS b f d,vI l] w0 (fun v w=>v=.bool r∧St w0 [] w []):=by
 subst g;unfold lF at h;refine gV.fn func161 fun e=>?_;have p:=St.start w0;refine go ?_;refine T ?_;intro G z h C q;refine bH h ?_ ?_<;>intro _ h
 · refine gb h fun H k h=>?_;obtain ⟨A,B,o,rfl,m,u,x,rfl,n⟩:=i.idx k;refine go ?_;refine T ?_;exact rt
 exact rt
instance k_161:Ct prog 161:=⟨by kernel_rfl,@GY⟩
end Go.Kx
