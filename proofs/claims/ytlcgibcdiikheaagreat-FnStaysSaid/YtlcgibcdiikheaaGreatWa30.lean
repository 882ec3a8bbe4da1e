import Derived.Test.YtlcgibcdiikheaaGreatWa29
namespace Go.Kx
open Go Go.RowKit Go.Proofs
open Tryz
set_option maxRecDepth 10000
set_option maxHeartbeats 8000000
set_option linter.unusedVariables false
set_option linter.unusedSimpArgs false
theorem At {w0 N b d r} (h:tU N b d=some r) {f z m} (I:z=b.gZ.length) (R:rb w0 f m b.gZ) {g A n} (J:A=b.QV.length) (U:rb w0 g n b.QV) {i B o} (K:B=b.QU.length) (V:rb w0 i o b.QU) {j C p} (L:C=d.gZ.length) (W:rb w0 j p d.gZ) {k G q} (M:G=d.QV.length) (X:rb w0 k q d.QV) {l H x} (O:H=d.QU.length) (Y:rb w0 l x d.QU) :
    g8 prog 357 #[.agg #[vI b.Q3,vI b.py,vI b.box,vI b.res,vI b.iF,vI b.bh,vI b.QW,vI b.iK,vI b.iG,.bool b.mark,vS f z m,vS g A n,vS i B o],.agg #[vI d.Q3,vI d.py,vI d.box,vI d.res,vI d.iF,vI d.bh,vI d.QW,vI d.iK,vI d.iG,.bool d.mark,vS j C p,vS k G q,vS l H x]] w0 (fun v w=>v=.bool r∧St w0 [] w []):=by
 subst I J K L M O;unfold tU at h;refine g8.fn func357 fun e=>?_;have ac:=St.start w0;refine T ?_;intro aq au ad ar av ae;refine gB h ?_ ?_<;>intro _ h
 · refine gB h ?_ ?_<;>intro _ h
   · refine go ?_;refine bH h ?_ ?_<;>intro _ h
     · refine gB h ?_ ?_<;>intro _ h
       · refine gB h ?_ ?_<;>intro _ h
         · refine gB h ?_ ?_<;>intro _ h
           · refine go ?_;refine bH h ?_ ?_<;>intro _ h
             · refine gB h ?_ ?_<;>intro _ h
               · refine gB h ?_ ?_<;>intro _ h
                 · refine go ?_;refine LW.u (iM.beq underlying4 rfl rfl) rfl ?_;refine gB h ?_ ?_<;>intro _ h
                   · refine go ?_;refine T ?_;intro an Z h aj af;refine bH h ?_ ?_<;>intro _ h
                     · refine T ?_;intro ao aa h ak ah;refine bH h ?_ ?_<;>intro _ h
                       · refine T ?_;intro ap ab h am ai;exact rt
                       exact rt
                     exact rt
                   exact rt
                 exact rt
               exact rt
             exact rt
           exact rt
         exact rt
       exact rt
     exact rt
   exact rt
 exact rt
instance k_357:Ct prog 357:=⟨by kernel_rfl,@At⟩
theorem yS {w0 N b r} (h:mD N b=some r) :
    g8 prog 226 #[vI b] w0 (fun v w=>v=.bool r∧St w0 [] w []):=by
 unfold mD at h;refine g8.fn func226 fun e=>?_;have d:=St.start w0;refine T ?_;intro j g h i f;exact rt
instance k_226:Ct prog 226:=⟨by kernel_rfl,@yS⟩
theorem Gk {w0 N i j r} (h:tO N i j=some r) {b f d} (g:f=i.parts.length) (k:rb w0 b d i.parts) :
    g8 prog 76 #[.agg #[vI i.Q1,vS b f d],vI j] w0 (fun v w=>v=.bool r∧St w0 [] w []):=by
 subst g;unfold tO at h;refine g8.fn func76 fun e=>?_;have l:=St.start w0;refine T ?_;intro p q m x o h u n;exact rt
instance k_76:Ct prog 76:=⟨by kernel_rfl,@Gk⟩
theorem Dz {w0 N p r} (h:oX N p=some r) {k n l} (q:n=p.length) (u:rb w0 k l p) :
    g8 prog 306 #[vS k n l] w0 (fun v w=>∃ z B,v=vS z r.length B∧St w0 [] w [sl z B r]):=by
 subst q;unfold oX at h;refine g8.fn func306 fun e=>?_;have K:=St.start w0;refine go ?_;refine LW.b0 (α:=iB) K ?_;intro X Y aB O hf;refine go ?_;obtain ⟨ar,H,J⟩:=ob h;refine CW.ie H 0 (fun m e wb=>∃ (b:Ad) (d:Nat),En e [(3,vS b m.1.length d),(7,vS k p.length l),(8,vI (p.length:Int)),(9,vI m.2)]∧St w0 [] wb [sl b d m.1]) ?_ ⟨X,Y,O.po [0]⟩ ?_
 · intro m e aC o hM h;obtain ⟨b,d,hE,ai⟩:=hM;obtain ⟨e,rfl⟩:=hE.out;refine gc h ?_ ?_<;>intro _ h
   · refine gb h fun W V h=>?_;obtain ⟨af,aq,Z,rfl,aa,ao,ap,⟨x,A,rfl,ac⟩,ab⟩:=u.idx V;refine go ?_;refine T ?_;intro C av aj aw ak j ad h f g ax R;refine LW.bd [(0,vS f j.length g)] #[vS f j.length g] ?_;have U:=R.pk (M:=[sl f g j]++[bx C 228 [vS x W.list.length A],sl b d m.1]) [0,1,2];have ⟨aA,I,h⟩:=ob h;refine LW.kX (M:=[sl f g j]) (L:=[bx C 228 [vS x W.list.length A],sl b d m.1]) (vs:=#[vS f j.length g]) (i:=1) Mu rfl (by kernel_rfl) rfl rfl I U rfl (fun w G hG=>⟨f,g,rfl,hG⟩) rfl rfl ?_;intro au ae ah ay am hf;exact rt
   exact rt
 rintro e az ⟨b,d,hE,an⟩;obtain ⟨e,rfl⟩:=hE.out;have h:=J;exact rt
instance k_306:Ct prog 306:=⟨by kernel_rfl,@Dz⟩
theorem qZ {w0} {F:List Nat} {N g o r} (h:iz N g o=some r) {j:Nat} {d f} (p:iV (ki w0 F) w0 d f g.b) (hS:St w0 F w0 [bx j 177 [vS d g.b.length f,vI g.i,vI g.h]]) :
    g8 prog 69 #[.pointer (some ⟨j,0,none⟩),vI o] w0 (fun v w=>v=vI r.1∧St w0 F w [bx j 177 [vS d g.b.length f,vI r.2.i,vI r.2.h]]):=by
 unfold iz at h;refine g8.fn func69 fun e=>?_;refine gc h ?_ ?_<;>intro _ h
 · refine go ?_;replace h:=oi h;subst h;exact Ra ⟨rfl,hS.pk [0]⟩
 refine gc h ?_ ?_<;>intro _ h
 · refine T ?_;intro V G h U l;have ⟨_,n,h⟩:=ob h;refine LW.u (iM.rem rfl rfl (DI n)) rfl ?_;refine go ?_;replace h:=oi h;subst h;exact Ra ⟨rfl,l.pk [0]⟩
 refine T ?_;intro W H h I A M q h J B O x h K C R z h L m;have ⟨_,k,h⟩:=ob h;refine LW.u (iM.rem rfl rfl (DI k)) rfl ?_;refine go ?_;replace h:=oi h;subst h;exact Ra ⟨rfl,m.pk [0]⟩
instance k_69:Ct prog 69:=⟨by kernel_rfl,@qZ⟩
theorem Gm {w0 N b r} (h:oC N b=some r) {k q o} (z:q=b.ag.length) (U:rb w0 k o b.ag) {n x p} (A:x=b.gc.gQ.length) (B:rb w0 n p b.gc.gQ) :
    g8 prog 260 #[.agg #[vS k q o,vI b.gc.QS,vI b.gc.Q0,vI b.gc.QT,vS n x p]] w0 (fun v w=>∃ d g, ∃ f j,v=.agg #[vS d r.ag.length g,vI r.gc.QS,vI r.gc.Q0,vI r.gc.QT,vS f r.gc.gQ.length j]∧St w0 [] w [sl d g r.ag,sl f j r.gc.gQ]):=by
 subst z A;unfold oC at h;refine g8.fn func260 fun e=>?_;have Y:=St.start w0;refine T ?_;intro an aq Z ao ar aa ap au ab av O;refine LW.b0 (α:=Int) O ?_;intro ak am ae J hf;refine gb h fun K M h=>?_;refine LW.km (l:=([]:List Int)) (m:=b.gc.gQ) oL rfl rfl (J.rB B) M J (i:=0) rfl rfl ?_;intro C H af ac hf;refine T ?_;intro ah R;refine dW ?_;have ad:=R.drew;refine go ?_;refine jP 2 ?_;refine T ?_;intro L X h G I ai V;refine AW.u (i:=4) rfl (by kernel_rfl) rfl rfl (iM.build (vs:=[(0,vS G L.length I),(1,.agg #[vI b.gc.QS,vI b.gc.Q0,vI b.gc.QT,vS C K.length H])]) (cs:=#[vS G L.length I,vI b.gc.QS,vI b.gc.Q0,vI b.gc.QT,vS C K.length H]) rfl (by kernel_rfl)) ?_;refine T ?_;intro aj W;exact rt
instance k_260:Ct prog 260:=⟨by kernel_rfl,@Gm⟩
theorem KD {w0 N b r} (h:lq N b=some r) :
    g8 prog 93 #[.agg #[vI b.bh,vI b.gS,vI b.gW]] w0 (fun v w=>v=.bool r∧St w0 [] w []):=by
 unfold lq at h;refine g8.fn func93 fun e=>?_;have d:=St.start w0;refine T ?_;intro o p f;refine T ?_;intro x k h q g;refine bH h ?_ ?_<;>intro _ h
 · refine T ?_;intro z l h u i;refine bH h ?_ ?_<;>intro _ h
   · refine T ?_;intro A m h n j;exact rt
   exact rt
 exact rt
instance k_93:Ct prog 93:=⟨by kernel_rfl,@KD⟩
theorem JW {w0 N b r} (h:uD N b=some r) {d l i} (z:l=b.gZ.length) (C:rb w0 d i b.gZ) {f m j} (A:m=b.QV.length) (G:rb w0 f j b.QV) {g n k} (B:n=b.QU.length) (H:rb w0 g k b.QU) :
    g8 prog 225 #[.agg #[vI b.Q3,vI b.py,vI b.box,vI b.res,vI b.iF,vI b.bh,vI b.QW,vI b.iK,vI b.iG,.bool b.mark,vS d l i,vS f m j,vS g n k]] w0 (fun v w=>v=.bool r∧St w0 [] w []):=by
 subst z A B;unfold uD at h;refine g8.fn func225 fun e=>?_;have bR:=St.start w0;refine T ?_;intro cB cC bS cE bZ h cD X;refine gc h ?_ ?_<;>intro _ h
 · exact rt
 refine gc h ?_ ?_<;>intro _ h
 · refine gs ?_;obtain ⟨bs,ay,aT⟩:=ob h;refine CW.jn [] [] [(2,.bool bs)] X (h1:=?_) (h2:=?_)
   · have h:=ay;refine gB h ?_ ?_<;>intro _ h
     · refine gB h ?_ ?_<;>intro _ h
       · refine go ?_;refine bH h ?_ ?_<;>intro _ h
         · refine gB h ?_ ?_<;>intro _ h
           · refine gB h ?_ ?_<;>intro _ h
             · refine gB h ?_ ?_<;>intro _ h
               · refine gB h ?_ ?_<;>intro _ h
                 · refine go ?_;refine bH h ?_ ?_<;>intro _ h
                   · refine gB h ?_ ?_<;>intro _ h
                     · refine gB h ?_ ?_<;>intro _ h
                       · exact rt
                       exact rt
                     exact rt
                   exact rt
                 exact rt
               exact rt
             exact rt
           exact rt
         exact rt
       exact rt
     exact rt
   intro e b1 bT;have h:=aT;exact rt
 refine gs ?_;obtain ⟨az,am,av⟩:=ob h;refine CW.jn [1] [0] [(108,.bool az)] X (h1:=?_) (h2:=?_)
 · have h:=am;refine T ?_;intro cn be h b2 bU;refine bH h ?_ ?_<;>intro _ h
   · exact rt
   refine T ?_;intro co bf h b3 bV;refine bH h ?_ ?_<;>intro _ h
   · exact rt
   refine T ?_;intro cp bg h b4 bW;refine bH h ?_ ?_<;>intro _ h
   · exact rt
   refine T ?_;intro cq bi h b5 bX;refine bH h ?_ ?_<;>intro _ h
   · exact rt
   refine T ?_;intro cr bj h b6 bY;refine bH h ?_ ?_<;>intro _ h
   · exact rt
   refine gB h ?_ ?_<;>intro _ h
   · exact rt
   refine T ?_;intro cs bk h b7 aU;exact rt
 intro e b8 ad;have h:=av;refine gc h ?_ ?_<;>intro _ h
 · exact rt
 refine go ?_;obtain ⟨Y,ap,W⟩:=ob h;refine CW.mono (CW.lx [1] [0] [1] 0 (fun Z=>[(3,vI Z)]) (RT prog f225.results (fun u=>.bool u) w0 []) ad ap (hb:=?_)) ?_
 · intro Z e b9 o aV h;refine gc h ?_ ?_<;>intro _ h
   · refine gb h fun ct aq h=>?_;obtain ⟨bQ,b0,aS,rfl,ba,bc,bd,rfl,bb⟩:=C.idx aq;refine go ?_;refine T ?_;intro cu bl h ca aW;refine CW.fl [1,3,119] fun e=>?_;refine gc h ?_ ?_<;>intro _ h
     · exact rt
     exact rt
   exact rt
 intro x e cb hM;rcases Y with Y | bz
 · obtain ⟨rfl,hM⟩:=hM;obtain ⟨e,rfl,ae⟩:=eo hM;have h:=W;refine gs ?_;obtain ⟨aA,an,aw⟩:=ob h;refine CW.jn [1] [0] [(165,.bool aA)] ae (h1:=?_) (h2:=?_)
   · have h:=an;refine gB h ?_ ?_<;>intro _ h
     · refine gB h ?_ ?_<;>intro _ h
       · exact rt
       refine go ?_;refine bH h ?_ ?_<;>intro _ h
       · exact rt
       refine gB h ?_ ?_<;>intro _ h
       · exact rt
       refine gB h ?_ ?_<;>intro _ h
       · refine gB h ?_ ?_<;>intro _ h
         · exact rt
         refine gB h ?_ ?_<;>intro _ h
         · refine go ?_;refine T ?_;intro cv bm h cc aX;refine bH h ?_ ?_<;>intro _ h
           · exact rt
           refine T ?_;intro cw bn h ce aY;exact rt
         refine go ?_;refine T ?_;intro cx bo h cf aZ;exact rt
       exact rt
     refine go ?_;refine bH h ?_ ?_<;>intro _ h
     · refine gB h ?_ ?_<;>intro _ h
       · exact rt
       refine gB h ?_ ?_<;>intro _ h
       · refine T ?_;intro cy bp h cg a0;refine bH h ?_ ?_<;>intro _ h
         · exact rt
         refine T ?_;intro cz bq h ci a1;exact rt
       refine T ?_;intro cA br h cj a2;exact rt
     exact rt
   intro e ck af;have h:=aw;refine gc h ?_ ?_<;>intro _ h
   · exact rt
   refine gs ?_;obtain ⟨aB,ao,ax⟩:=ob h;refine CW.jn [1] [0] [(195,.bool aB)] af (h1:=?_) (h2:=?_)
   · have h:=ao;refine gB h ?_ ?_<;>intro _ h
     · refine gB h ?_ ?_<;>intro _ h
       · exact rt
       refine go ?_;refine bH h ?_ ?_<;>intro _ h
       · exact rt
       refine gB h ?_ ?_<;>intro _ h
       · exact rt
       exact rt
     refine go ?_;refine bH h ?_ ?_<;>intro _ h
     · exact rt
     exact rt
   intro e cl ah;have h:=ax;refine gc h ?_ ?_<;>intro _ h
   · exact rt
   refine go ?_;obtain ⟨I,O,p⟩:=ob h;refine CW.mono (CW.lx [1] [0] [1] 2 (fun aa=>[(4,vI aa)]) (RT prog f225.results (fun u=>.bool u) w0 []) ah O (hb:=?_)) ?_
   · intro aa e cm o a3 h;refine kS [1,4,200] fun e=>?_;refine gc h ?_ ?_<;>intro _ h
     · refine gb h fun bK U h=>?_;obtain ⟨aQ,bt,aC,rfl,aE,aI,aK,rfl,aG⟩:=G.idx U;refine go ?_;refine T ?_;intro bL aM h bA a4;refine gc h ?_ ?_<;>intro _ h
       · exact rt
       exact rt
     exact rt
   intro x e bB hM;rcases I with I | bw
   · obtain ⟨rfl,hM⟩:=hM;obtain ⟨e,rfl,ai⟩:=eo hM;have h:=p;refine gs ?_;obtain ⟨ar,L,ab⟩:=ob h;refine CW.jn [1] [0] [(224,.bool ar)] ai (h1:=?_) (h2:=?_)
     · have h:=L;refine gB h ?_ ?_<;>intro _ h
       · exact rt
       refine gB h ?_ ?_<;>intro _ h
       · exact rt
       exact rt
     intro e bC aj;have h:=ab;refine gc h ?_ ?_<;>intro _ h
     · exact rt
     refine go ?_;obtain ⟨J,R,q⟩:=ob h;refine CW.mono (CW.lx [1] [0] [] 4 (fun K=>[(5,vI K)]) (RT prog f225.results (fun u=>.bool u) w0 []) aj R (hb:=?_)) ?_
     · intro K e bD o ak h;refine kS [1,5,229] fun e=>?_;refine gc h ?_ ?_<;>intro _ h
       · refine gs ?_;refine CW.block ?_;refine gs ?_;obtain ⟨au,M,ac⟩:=ob h;refine CW.jn [1,5] [0] [(258,.bool au)] ak (h1:=?_) (h2:=?_)
         · have h:=M;refine gb h fun bM V h=>?_;obtain ⟨aR,bu,aD,rfl,aF,aJ,aL,rfl,aH⟩:=H.idx V;refine go ?_;refine T ?_;refine bH h ?_ ?_<;>intro _ h
           · refine go ?_;refine T ?_;intro bN aN h bE a5;refine bH h ?_ ?_<;>intro _ h
             · exact rt
             refine go ?_;refine T ?_;intro bO aO h bF a6;exact rt
           refine go ?_;refine T ?_;intro bP aP h bG a7;exact rt
         intro e bI a8;have h:=ac;refine gc h ?_ ?_<;>intro _ h
         · exact rt
         exact rt
       exact rt
     intro x e bJ hM;rcases J with J | bv
     · obtain ⟨rfl,hM⟩:=hM;obtain ⟨e,rfl,a9⟩:=eo hM;rw [show e=iy e [] from rfl];have h:=q;exact rt
     obtain ⟨rfl,u,rfl,hM⟩:=hM;cases q;exact And.intro trivial hM
   obtain ⟨rfl,u,rfl,hM⟩:=hM;cases p;exact And.intro trivial hM
 obtain ⟨rfl,u,rfl,hM⟩:=hM;cases W;exact And.intro trivial hM
instance k_225:Ct prog 225:=⟨by kernel_rfl,@JW⟩
theorem Ki {w0 N b r} (h:qp N b=some r) :
    g8 prog 169 #[.agg #[vI b.res,vI b.jz,vI b.nD,vI b.kH,vI b.py,vI b.mb]] w0 (fun v w=>v=.bool r∧St w0 [] w []):=by
 unfold qp at h;refine g8.fn func169 fun e=>?_;have n:=St.start w0;refine T ?_;intro U V d;obtain ⟨m,f,g⟩:=ob h;refine CW.jn [1] [0] [(24,.bool m)] d (h1:=?_) (h2:=?_)
 · have h:=f;refine T ?_;intro Y B h W o;refine bH h ?_ ?_<;>intro _ h
   · exact rt
   refine T ?_;intro Z C h X p;refine bH h ?_ ?_<;>intro _ h
   · exact rt
   refine T ?_;intro L i h G q;refine bH h ?_ ?_<;>intro _ h
   · exact rt
   refine T ?_;intro M j h H u;exact rt
 intro e I x;have h:=g;refine gc h ?_ ?_<;>intro _ h
 · exact rt
 refine gc h ?_ ?_<;>intro _ h
 · refine T ?_;intro O k h J z;exact rt
 refine gc h ?_ ?_<;>intro _ h
 · refine T ?_;intro R l h K A;exact rt
 exact rt
instance k_169:Ct prog 169:=⟨by kernel_rfl,@Ki⟩
theorem Cd {w0 N b r} (h:nt N b=some r) :
    g8 prog 128 #[vI b] w0 (fun v w=>v=vI r∧St w0 [] w []):=by
 unfold nt at h;refine g8.fn func128 fun e=>?_;have d:=St.start w0;refine T ?_;intro j g h i f;refine gc h ?_ ?_<;>intro _ h
 · exact rt
 refine go ?_;refine LW.u (iM.rem rfl rfl (by decide)) rfl ?_;exact rt
instance k_128:Ct prog 128:=⟨by kernel_rfl,@Cd⟩
theorem Cb {w0 N b r} (h:pZ N b=some r) :
    g8 prog 129 #[vI b] w0 (fun v w=>v=vI r∧St w0 [] w []):=by
 unfold pZ at h;refine g8.fn func129 fun e=>?_;have d:=St.start w0;refine T ?_;intro j g h i f;refine gc h ?_ ?_<;>intro _ h
 · exact rt
 refine go ?_;refine LW.u (iM.quo rfl rfl (by decide)) rfl ?_;refine LW.u (iM.rem rfl rfl (by decide)) rfl ?_;exact rt
instance k_129:Ct prog 129:=⟨by kernel_rfl,@Cb⟩
theorem Dt {w0 N b r} (h:qW N b=some r) :
    g8 prog 130 #[vI b] w0 (fun v w=>v=vI r∧St w0 [] w []):=by
 unfold qW at h;refine g8.fn func130 fun e=>?_;have d:=St.start w0;refine T ?_;intro j g h i f;refine gc h ?_ ?_<;>intro _ h
 · exact rt
 refine go ?_;refine LW.u (iM.quo rfl rfl (by decide)) rfl ?_;refine LW.u (iM.quo rfl rfl (by decide)) rfl ?_;exact rt
instance k_130:Ct prog 130:=⟨by kernel_rfl,@Dt⟩
theorem xb {w0 N M O R r} (h:oH N M O R=some r) {b k g} (n:k=M.length) (Z:rb w0 b g M) {d l i} (p:l=O.so.length) (z:rb w0 d i O.so) {f m j} (q:m=R.so.length) (A:rb w0 f j R.so) :
    g8 prog 167 #[vS b k g,.agg #[vS d l i],.agg #[vS f m j]] w0 (fun v w=>v=.bool r∧St w0 [] w []):=by
 subst n p q;unfold oH at h;refine g8.fn func167 fun e=>?_;have ay:=St.start w0;refine T ?_;intro aU aW az aV aX V;obtain ⟨av,X,ac⟩:=ob h;refine CW.jn [0,4,5] [0,1] [(20,.bool av)] V (h1:=?_) (h2:=?_)
 · have h:=X;refine T ?_;intro aZ aE h aY aA;refine bH h ?_ ?_<;>intro _ h
   · exact rt
   refine T ?_;intro aP aq h aI aB;refine bH h ?_ ?_<;>intro _ h
   · exact rt
   refine T ?_;intro aQ ar h aJ aC;exact rt
 intro e aK W;have h:=ac;refine gc h ?_ ?_<;>intro _ h
 · exact rt
 refine go ?_;obtain ⟨G,J,B⟩:=ob h;refine CW.mono (CW.lx [0,4,5] [0,1] [] 0 (fun H=>[(7,vI H)]) (RT prog f167.results (fun u=>.bool u) w0 []) W J (hb:=?_)) ?_
 · intro H e aL o C h;refine gc h ?_ ?_<;>intro _ h
   · refine gs ?_;refine CW.block ?_;refine gs ?_;obtain ⟨Y,I,U⟩:=ob h;refine CW.jn [0,4,5,7] [0,1] [(41,.bool Y)] C (h1:=?_) (h2:=?_)
     · have h:=I;refine dW ?_;have aD:=C.drew;refine gb h fun aR K h=>?_;obtain ⟨aw,aF,aa,rfl,ah,am,ao,rfl,aj⟩:=z.idx K;refine go ?_;refine T ?_;have ⟨aS,L,h⟩:=ob h;obtain ⟨ax,aG,ab,rfl,ai,an,ap,rfl,ak⟩:=A.idx L;refine go ?_;refine T ?_;refine bH h ?_ ?_<;>intro _ h
       · refine T ?_;intro aT au h aM ad;exact rt
       exact rt
     intro e aN ae;have h:=U;refine gc h ?_ ?_<;>intro _ h
     · exact rt
     exact rt
   exact rt
 intro x e aO hM;rcases G with G | aH
 · obtain ⟨rfl,hM⟩:=hM;obtain ⟨e,rfl,af⟩:=eo hM;rw [show e=iy e [] from rfl];have h:=B;exact rt
 obtain ⟨rfl,u,rfl,hM⟩:=hM;cases B;exact And.intro trivial hM
instance k_167:Ct prog 167:=⟨by kernel_rfl,@xb⟩
theorem xd {w0 N f g i r} (h:na N f g i=some r) :
    g8 prog 51 #[vI f,vI g,vI i] w0 (fun v w=>v=vI r∧St w0 [] w []):=by
 unfold na at h;refine g8.fn func51 fun e=>?_;have b:=St.start w0;refine gs ?_;refine CW.region ?_;refine gs ?_;obtain ⟨j,d,h2⟩:=ob h;refine CW.jn [0,1,2] [] [(19,.bool j)] b (h1:=?_) (h2:=?_)
 · have h:=d;refine T ?_;intro B o h z k;refine bH h ?_ ?_<;>intro _ h
   · exact rt
   refine T ?_;intro C p h A l;refine bH h ?_ ?_<;>intro _ h
   · exact rt
   refine T ?_;intro G q h u m;exact rt
 intro e x n;have h:=h2;refine gc h ?_ ?_<;>intro _ h
 · exact rt
 exact rt
instance k_51:Ct prog 51:=⟨by kernel_rfl,@xd⟩
theorem DE {w0 N z r} (h:oV N z=some r) {g x j} (A:x=z.length) (B:rb w0 g j z) :
    g8 prog 314 #[vS g x j] w0 (fun v w=>∃ J U,v=vS J r.length U∧St w0 [] w [sl J U r]):=by
 subst A;unfold oV at h;refine g8.fn func314 fun e=>?_;have Z:=St.start w0;refine go ?_;refine LW.b0 (α:=gE) Z ?_;intro af ah aL aa hf;refine go ?_;obtain ⟨aD,W,Y⟩:=ob h;refine CW.ie W 0 (fun u e wb=>∃ (d:Ad) (f:Nat),En e [(3,vS d u.1.length f),(7,vS g z.length j),(8,vI (z.length:Int)),(9,vI u.2)]∧St w0 [] wb [sl d f u.1]) ?_ ⟨af,ah,aa.po [0]⟩ ?_
 · intro u e aM o hM h;obtain ⟨d,f,hE,av⟩:=hM;obtain ⟨e,rfl⟩:=hE.out;refine gc h ?_ ?_<;>intro _ h
   · refine gb h fun ae ad h=>?_;obtain ⟨ar,aC,ai,rfl,aj,aA,aB,⟨C,K,H,O,I,R,rfl,am,an,ao⟩,ak⟩:=B.idx ad;refine go ?_;refine T ?_;intro V aF aw aG ax b ap h k n l p m q aH ab;have ac:=ab.pk (M:=[sl k n b.gZ,sl l p b.QV,sl m q b.QU]++[bx V 101 (qO C K H O I R ae),sl d f u.1]) [0,1,2,3,4];have ⟨aK,X,h⟩:=ob h;refine LW.kX (M:=[sl k n b.gZ,sl l p b.QV,sl m q b.QU]) (L:=[bx V 101 (qO C K H O I R ae),sl d f u.1]) (vs:=#[vI b.Q3,vI b.py,vI b.box,vI b.res,vI b.iF,vI b.bh,vI b.QW,vI b.iK,vI b.iG,.bool b.mark,vS k b.gZ.length n,vS l b.QV.length p,vS m b.QU.length q]) (i:=1) L0 rfl (by kernel_rfl) rfl rfl X ac rfl (fun w G hG=>⟨k,n,l,p,m,q,rfl,hG⟩) rfl rfl ?_;intro aE aq au aI ay hf;exact rt
   exact rt
 rintro e aJ ⟨d,f,hE,az⟩;obtain ⟨e,rfl⟩:=hE.out;have h:=Y;exact rt
instance k_314:Ct prog 314:=⟨by kernel_rfl,@DE⟩
end Go.Kx
