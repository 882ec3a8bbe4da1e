import Derived.Test.YtlcgibcdiikheaaGreatWa25
namespace Go.Kx
open Go Go.RowKit Go.Proofs
open Tryz
set_option maxRecDepth 10000
set_option maxHeartbeats 8000000
set_option linter.unusedVariables false
set_option linter.unusedSimpArgs false
theorem zO {w0 N b r} (h:sN N b=some r) {d l i} (p:l=b.ig.length) (A:rb w0 d i b.ig) {f m j} (q:m=b.PG.length) (B:rb w0 f j b.PG) {g n k} (z:n=b.PE.length) (C:rb w0 g k b.PE) :
    iq prog 358 #[.agg #[vI b.PO,vI b.Pz,vI b.box,vI b.res,vI b.iK,vI b.bh,vI b.PK,vI b.iP,vI b.iM,.bool b.mark,vS d l i,vS f m j,vS g n k]] w0 (fun v w=>v=.bool r∧St w0 [] w []):=by
 subst p q z;unfold sN at h;refine iq.fn func358 fun e=>?_;have aU:=St.start w0;refine T ?_;intro bw bz ai;refine go ?_;obtain ⟨J,Z,G⟩:=ob h;refine CW.mono (CW.lx [1,12,13] [0] [1] 0 (fun aq=>[(14,vI aq)]) (RT prog f358.results (fun u=>.bool u) w0 []) ai Z (hb:=?_)) ?_
 · intro aq e bA o aV h;refine gc h ?_ ?_<;>intro _ h
   · refine gb h fun bB am h=>?_;obtain ⟨bv,a2,ar,rfl,aC,a0,a1,rfl,aF⟩:=A.idx am;refine go ?_;refine T ?_;intro bo aM h a8 aW;refine CW.fl [1,12,13,14,20] fun e=>?_;refine gc h ?_ ?_<;>intro _ h
     · exact rt
     exact rt
   exact rt
 intro x e a9 hM;rcases J with J | a7
 · obtain ⟨rfl,hM⟩:=hM;obtain ⟨e,rfl,aj⟩:=eo hM;have h:=G;refine go ?_;obtain ⟨K,aa,H⟩:=ob h;refine CW.mono (CW.lx [1,23,24] [0] [1] 2 (fun M=>[(25,vI M)]) (RT prog f358.results (fun u=>.bool u) w0 []) aj aa (hb:=?_)) ?_
   · intro M e ba o aX h;refine gc h ?_ ?_<;>intro _ h
     · refine gb h fun bp ac h=>?_;obtain ⟨aR,a3,au,rfl,aD,aI,aK,rfl,aG⟩:=B.idx ac;refine go ?_;refine T ?_;intro bq aN h bb aY;refine CW.fl [1,23,24,25,31] fun e=>?_;refine gc h ?_ ?_<;>intro _ h
       · exact rt
       exact rt
     exact rt
   intro x e bc hM;rcases K with K | a6
   · obtain ⟨rfl,hM⟩:=hM;obtain ⟨e,rfl,ak⟩:=eo hM;have h:=H;refine go ?_;obtain ⟨L,ab,I⟩:=ob h;refine CW.mono (CW.lx [1,34,35] [0] [1] 4 (fun O=>[(36,vI O)]) (RT prog f358.results (fun u=>.bool u) w0 []) ak ab (hb:=?_)) ?_
     · intro O e bd o aZ h;refine kD [1,34,35,36,37] fun e=>?_;refine gc h ?_ ?_<;>intro _ h
       · refine gb h fun br ad h=>?_;obtain ⟨aS,a4,av,rfl,aE,aJ,aL,rfl,aH⟩:=C.idx ad;refine go ?_;refine T ?_;intro aT be aw bf R;obtain ⟨an,W,ae⟩:=ob h;refine CW.jn [1,34,35,36] [1] [(54,.bool an)] R (h1:=?_) (h2:=?_)
         · have h:=W;refine gB h ?_ ?_<;>intro _ h
           · refine T ?_;intro bs aO h bg ax;refine bH h ?_ ?_<;>intro _ h
             · exact rt
             refine T ?_;intro bt aP h bi ay;exact rt
           refine T ?_;intro bu aQ h bj az;exact rt
         intro e bk aA;have h:=ae;refine gc h ?_ ?_<;>intro _ h
         · exact rt
         exact rt
       exact rt
     intro x e bl hM;rcases L with L | a5
     · obtain ⟨rfl,hM⟩:=hM;obtain ⟨e,rfl,U⟩:=eo hM;have h:=I;refine gs ?_;refine CW.region ?_;refine gs ?_;refine CW.region ?_;refine gs ?_;obtain ⟨ao,X,af⟩:=ob h;refine CW.jn [1,10] [0] [(9,vI ao)] U (h1:=?_) (h2:=?_)
       · have h:=X;refine CW.fl [1,9,10,58] fun e=>?_;refine gc h ?_ ?_<;>intro _ h
         · exact rt
         exact rt
       intro e bm V;have h:=af;refine gs ?_;refine CW.region ?_;refine gs ?_;obtain ⟨ap,Y,ah⟩:=ob h;refine CW.jn [1,9] [0] [(10,vI ap)] V (h1:=?_) (h2:=?_)
       · have h:=Y;refine CW.fl [1,9,10,63] fun e=>?_;refine gc h ?_ ?_<;>intro _ h
         · exact rt
         exact rt
       intro e bn aB;have h:=ah;refine go ?_;refine bH h ?_ ?_<;>intro _ h
       · refine gB h ?_ ?_<;>intro _ h
         · exact rt
         exact rt
       exact rt
     obtain ⟨rfl,u,rfl,hM⟩:=hM;cases I;exact And.intro trivial hM
   obtain ⟨rfl,u,rfl,hM⟩:=hM;cases H;exact And.intro trivial hM
 obtain ⟨rfl,u,rfl,hM⟩:=hM;cases G;exact And.intro trivial hM
instance k_358:Ct prog 358:=⟨by kernel_rfl,@zO⟩
theorem FH {w0 N l J r} (h:qX N l J=some r) {f m g} (n:m=l.length) (j:rb w0 f g l) :
    iq prog 229 #[vS f m g,vI J] w0 (fun v w=>∃ p q,v=vS p r.length q∧St w0 [] w [sl p q r]):=by
 subst n;unfold qX at h;refine iq.fn func229 fun e=>?_;have U:=St.start w0;refine go ?_;refine LW.b0 (α:=Int) U ?_;intro ac ad bs V hf;refine go ?_;obtain ⟨be,B,R⟩:=ob h;refine CW.ie B 0 (fun k e wb=>∃ (b:Ad) (d:Nat),En e [(0,vS f l.length g),(1,vI J),(5,vS b k.1.length d),(10,vS f l.length g),(11,vI (l.length:Int)),(12,vI k.2)]∧St w0 [] wb [sl b d k.1]) ?_ ⟨ac,ad,V.po [0]⟩ ?_
 · intro k e bt o hM h;obtain ⟨b,d,hE,a5⟩:=hM;obtain ⟨e,rfl⟩:=hE.out;refine gc h ?_ ?_<;>intro _ h
   · refine gb h fun bu Z h=>?_;obtain ⟨aQ,bb,ae,rfl,aj,a9,ba,⟨aG,aT,aH,aU,aI,aV,rfl,aw,ax,ay⟩,an⟩:=j.idx Z;refine go ?_;refine T ?_;intro a4 bg a6 bi W;obtain ⟨aa,z,K⟩:=ob h;refine CW.jn [0,1,5,6,10,11,12] [1] [(8,.bool aa)] W (h1:=?_) (h2:=?_)
     · have h:=z;refine gB h ?_ ?_<;>intro _ h
       · refine gB h ?_ ?_<;>intro _ h
         · refine go ?_;refine bH h ?_ ?_<;>intro _ h
           · refine gb h fun bo C h=>?_;obtain ⟨aR,bc,af,hae,ak,aq,au,u,ao⟩:=j.idx C;cases hae;obtain ⟨aJ,aW,aK,aX,aL,aY,rfl,az,aA,aB⟩:=u;refine go ?_;refine T ?_;exact rt
           exact rt
         exact rt
       exact rt
     intro e bj X;have h:=K;refine gs ?_;obtain ⟨ab,A,O⟩:=ob h;refine CW.jn [0,1,5,6,10,11,12] [0] [(47,.bool ab)] X (h1:=?_) (h2:=?_)
     · have h:=A;refine gB h ?_ ?_<;>intro _ h
       · exact rt
       refine gb h fun bp H h=>?_;obtain ⟨aS,bd,ah,hae,am,ar,av,x,ap⟩:=j.idx H;cases hae;obtain ⟨aM,aZ,aN,a0,aO,a2,rfl,aC,aD,aE⟩:=x;refine go ?_;refine T ?_;intro bq aF h bk a7;exact rt
     intro e bl Y;have h:=O;refine kD [0,1,5,6,10,11,12,47] fun e=>?_;refine gc h ?_ ?_<;>intro _ h
     · refine gb h fun br I h=>?_;refine LW.l5 (M:=[]) (L:=[sl b d k.1]) (vs:=#[vI k.2]) (i:=0) nb rfl (by kernel_rfl) rfl rfl I Y rfl (fun w G hG=>by cases (show G=[] from hG);exact ⟨rfl,rfl⟩) rfl rfl ?_;intro bf aP a3 bm a8 hf;exact rt
     exact rt
   exact rt
 rintro e bn ⟨b,d,hE,ai⟩;obtain ⟨e,rfl⟩:=hE.out;have h:=R;exact rt
instance k_229:Ct prog 229:=⟨by kernel_rfl,@FH⟩
theorem Bp {w0 N b r} (h:nm N b=some r) :
    iq prog 132 #[vI b] w0 (fun v w=>v=vI r∧St w0 [] w []):=by
 unfold nm at h;refine iq.fn func132 fun e=>?_;have d:=St.start w0;refine T ?_;intro j g h i f;refine gc h ?_ ?_<;>intro _ h
 · exact rt
 refine go ?_;refine LW.u (iQ.rem rfl rfl (by decide)) rfl ?_;exact rt
instance k_132:Ct prog 132:=⟨by kernel_rfl,@Bp⟩
theorem BK {w0 N b r} (h:pK N b=some r) :
    iq prog 133 #[vI b] w0 (fun v w=>v=vI r∧St w0 [] w []):=by
 unfold pK at h;refine iq.fn func133 fun e=>?_;have d:=St.start w0;refine T ?_;intro j g h i f;refine gc h ?_ ?_<;>intro _ h
 · exact rt
 refine go ?_;refine LW.u (iQ.quo rfl rfl (by decide)) rfl ?_;refine LW.u (iQ.rem rfl rfl (by decide)) rfl ?_;exact rt
instance k_133:Ct prog 133:=⟨by kernel_rfl,@BK⟩
theorem CC {w0 N b r} (h:ql N b=some r) :
    iq prog 134 #[vI b] w0 (fun v w=>v=vI r∧St w0 [] w []):=by
 unfold ql at h;refine iq.fn func134 fun e=>?_;have d:=St.start w0;refine T ?_;intro j g h i f;refine gc h ?_ ?_<;>intro _ h
 · exact rt
 refine go ?_;refine LW.u (iQ.quo rfl rfl (by decide)) rfl ?_;refine LW.u (iQ.quo rfl rfl (by decide)) rfl ?_;exact rt
instance k_134:Ct prog 134:=⟨by kernel_rfl,@CC⟩
theorem Je {w0} {F:List Nat} {N d R r} (h:vz N d R=some r) {C:Nat} {j b f g} (hS:St w0 F w0 [bx C 45 [vS j d.ag.length b,vI d.gc.PD,vI d.gc.PL,vI d.gc.PF,vS f d.gc.hZ.length g],sl j b d.ag,sl f g d.gc.hZ]) :
    iq prog 311 #[.pointer (some ⟨C,0,none⟩),vI R] w0 (fun v w=>∃ m p, ∃ n q,v=.tuple #[]∧St w0 F w [bx C 45 (qH m p n q r),sl m p r.ag,sl n q r.gc.hZ]):=by
 unfold vz at h;refine iq.fn func311 fun e=>?_;refine gs ?_;obtain ⟨ai,W,h2⟩:=ob h;refine CW.jn [0,1] [0,1,2] [(30,.bool ai)] hS (h1:=?_) (h2:=?_)
 · have h:=W;refine go ?_;refine LW.u (iQ.nc rfl) rfl ?_;refine gB h ?_ ?_<;>intro _ h
   · exact rt
   refine go ?_;refine LW.u (iQ.nc rfl) rfl ?_;refine gb h fun aS J h=>?_;obtain ⟨aQ,aR,hae,aD,aE⟩:=hS.iF (α:=gE) (i:=1) rfl J;subst hae;refine go ?_;obtain ⟨aP,k,H⟩:=hS.freeze (α:=gE) 1 rfl;obtain ⟨av,aF,Y,hae,Z,_,_,K,aa⟩:=k.kc.idx J;cases hae;obtain ⟨aq,aw,ar,ax,au,ay,rfl,ad,ae,af⟩:=K;refine T ?_;refine bH h ?_ ?_<;>intro _ h
   · refine go ?_;have az:=H.i7 (α:=gE) 1 rfl k;exact rt
   refine go ?_;refine LW.u (iQ.nc rfl) rfl ?_;refine go ?_;refine T ?_;have aA:=H.i7 (α:=gE) 1 rfl k;exact rt
 intro e aH z;have h:=h2;refine gc h ?_ ?_<;>intro _ h
 · refine go ?_;replace h:=oi h;subst h;exact And.intro trivial ⟨_,kI.zero , j,b,f,g,rfl,z.pk [0,1,2]⟩
 refine go ?_;refine LW.u (iQ.nc rfl) rfl ?_;refine gb h fun aM B h=>?_;obtain ⟨o,x,hae,ab,ac⟩:=z.iF (α:=gE) (i:=1) rfl B;subst hae;refine go ?_;refine gb h fun X l h=>?_;refine LW.se 9 z 1 B l (hM:=(ko (fun w cs F hF=>by obtain ⟨aj,an,ak,ao,am,ap,rfl,hH⟩:=hF;exact ⟨aj,an,ak,ao,am,ap,rfl,hH⟩))) fun aI aB=>?_;refine go ?_;refine LW.u (iQ.nc rfl) rfl ?_;refine T ?_;intro aN ah h aJ A;refine CW.fl [0,1,45] fun e=>?_;refine gc h ?_ ?_<;>intro _ h
 · refine go ?_;refine LW.u (iQ.nc rfl) rfl ?_;refine gb h fun aO O h=>?_;refine LW.l5 (M:=[]) (L:=[bx C 45 [vS (some ⟨o,x,none⟩) d.ag.length b,vI d.gc.PD,vI d.gc.PL,vI d.gc.PF,vS f d.gc.hZ.length g],sl (some ⟨o,x,none⟩) b X,sl f g d.gc.hZ]) (vs:=#[vI R]) (i:=2) nb rfl (by kernel_rfl) rfl rfl O A rfl (fun w G hG=>by cases (show G=[] from hG);exact ⟨rfl,rfl⟩) rfl rfl ?_;intro aG U V aK aC hf;refine LW.u (iQ.nc rfl) rfl ?_;refine T ?_;intro aL I;replace h:=oi h;subst h;rw [iB (oi l)] at I;exact And.intro trivial ⟨_,kI.zero , (some ⟨o,x,none⟩),b,U,V,rfl,I.pk [0,1,2]⟩
 refine go ?_;replace h:=oi h;subst h;rw [iB (oi l)] at A;exact And.intro trivial ⟨_,kI.zero , (some ⟨o,x,none⟩),b,f,g,rfl,A.pk [0,1,2]⟩
instance k_311:Ct prog 311:=⟨by kernel_rfl,@Je⟩
theorem DT {w0 N M O R r} (h:rE N M O R=some r) {b n g} (z:n=M.length) (X:rb w0 b g M) {d p j} (A:p=O.PA.length) (Y:rb w0 d j O.PA) {f q k} (B:q=R.PA.length) (Z:rb w0 f k R.PA) :
    iq prog 215 #[vS b n g,.agg #[vS d p j],.agg #[vS f q k]] w0 (fun v w=>v=.bool r∧St w0 [] w []):=by
 subst z A B;unfold rE at h;refine iq.fn func215 fun e=>?_;have ax:=St.start w0;refine T ?_;intro aT aV ay aU aW U;obtain ⟨ap,W,ab⟩:=ob h;refine CW.jn [0,4,5] [0,1] [(21,.bool ap)] U (h1:=?_) (h2:=?_)
 · have h:=W;refine T ?_;intro aY aD h aX az;refine bH h ?_ ?_<;>intro _ h
   · exact rt
   refine T ?_;intro aO ak h aH aA;refine bH h ?_ ?_<;>intro _ h
   · exact rt
   refine T ?_;intro aP am h aI aB;exact rt
 intro e aJ aC;have h:=ab;refine gc h ?_ ?_<;>intro _ h
 · exact rt
 refine T ?_;intro aQ an h ar aw aK V;refine go ?_;obtain ⟨H,L,C⟩:=ob h;refine CW.mono (CW.lx [0,24,25] [0] [] 0 (fun I=>[(26,vI I)]) (RT prog f215.results (fun u=>.bool u) w0 []) V L (hb:=?_)) ?_
 · intro I e aL o G h;refine gc h ?_ ?_<;>intro _ h
   · refine gb h fun aR m h=>?_;obtain ⟨au,aE,hae,ai,aj⟩:=G.iF (α:=Int) (i:=0) rfl m;subst hae;refine go ?_;obtain ⟨aq,l,ac⟩:=G.freeze (α:=Int) 0 rfl;obtain ⟨av,aF,aa,hae,af,_,_,K,ah⟩:=l.kc.idx m;cases hae;obtain rfl:=K;refine T ?_;intro aS ao h aM J;refine CW.fl [0,24,25,26,33] fun e=>?_;refine gc h ?_ ?_<;>intro _ h
     · exact rt
     refine go ?_;have ad:=J.i7 (α:=Int) 0 rfl l;exact rt
   exact rt
 intro x e aN hM;rcases H with H | aG
 · obtain ⟨rfl,hM⟩:=hM;obtain ⟨e,rfl,ae⟩:=eo hM;rw [show e=iN e [] from rfl];have h:=C;exact rt
 obtain ⟨rfl,u,rfl,hM⟩:=hM;cases C;exact And.intro trivial hM
instance k_215:Ct prog 215:=⟨by kernel_rfl,@DT⟩
theorem yl {w0 N f g i r} (h:pO N f g i=some r) :
    iq prog 323 #[vI f,vI g,vI i] w0 (fun v w=>v=vI r∧St w0 [] w []):=by
 unfold pO at h;refine iq.fn func323 fun e=>?_;have b:=St.start w0;refine gs ?_;refine CW.region ?_;refine gs ?_;obtain ⟨j,d,h2⟩:=ob h;refine CW.jn [0,1,2] [] [(19,.bool j)] b (h1:=?_) (h2:=?_)
 · have h:=d;refine T ?_;intro B o h z k;refine bH h ?_ ?_<;>intro _ h
   · exact rt
   refine T ?_;intro C p h A l;refine bH h ?_ ?_<;>intro _ h
   · exact rt
   refine T ?_;intro G q h u m;exact rt
 intro e x n;have h:=h2;refine gc h ?_ ?_<;>intro _ h
 · exact rt
 exact rt
instance k_323:Ct prog 323:=⟨by kernel_rfl,@yl⟩
theorem EJ {w0} {F:List Nat} {N n r} (h:n5 N n=some r) {u:Nat} {g j} (O:iR (jo w0 F) w0 g j n.b) (hS:St w0 F w0 [bx u 177 [vS g n.b.length j,vI n.i,vI n.h]]) :
    iq prog 304 #[.pointer (some ⟨u,0,none⟩)] w0 (fun v w=>∃ p q,v=.agg #[vS p r.1.PA.length q]∧St w0 F w [sl p q r.1.PA,bx u 177 [vS g n.b.length j,vI r.2.i,vI r.2.h]]):=by
 unfold n5 at h;refine iq.fn func304 fun e=>?_;refine T ?_;intro C ao Z;refine LW.bd [] #[vS none 0 0] ?_;refine T ?_;intro G ap aa aq I;refine go ?_;have J:=I.nil (α:=Int);obtain ⟨ae,A,H⟩:=ob h;refine CW.ie A 0 (fun k e wb=>∃ (d:Ad) (f:Nat),En e [(0,.pointer (some ⟨u,0,none⟩)),(2,.pointer (some ⟨C,0,none⟩)),(3,.pointer (some ⟨G,0,none⟩)),(4,vI k.1)]∧St w0 F wb [bx G 39 [vS d k.2.2.2.length f],bx C 39 [vS none 0 0],bx u 177 [vS g n.b.length j,vI k.2.1,vI k.2.2.1],sl d f k.2.2.2]) ?_ ⟨none,0,J.po [1,2,3,0]⟩ ?_
 · intro k e ar o hM h;obtain ⟨d,f,hE,K⟩:=hM;obtain ⟨e,rfl⟩:=hE.out;refine gc h ?_ ?_<;>intro _ h
   · refine kb ?_;have ab:=K.drew;refine T ?_;intro M ad h af L;refine LW.bi [M.1] L ?_;intro V X ah z hf;refine T ?_;have ⟨an,B,h⟩:=ob h;refine T ?_;refine LW.jT (l:=k.2.2.2) (m:=([M.1]:List Int)) nb rfl rfl (z.rI 0 rfl) B z (i:=4) rfl rfl ?_;intro W Y ai ac hf;refine T ?_;intro aj R;exact rt
   exact rt
 rintro e ak ⟨d,f,hE,U⟩;obtain ⟨e,rfl⟩:=hE.out;have h:=H;refine T ?_;intro am x;replace h:=oi h;subst h;exact And.intro trivial ⟨_,kI.one (iD.b x 1 rfl Ao rfl rfl),d,f,rfl,x.pk [3,2]⟩
instance k_304:Ct prog 304:=⟨by kernel_rfl,@EJ⟩
theorem vN {w0} {F:List Nat} {N g l r} (h:jK N g l=some r) {j:Nat} {d f} (m:iR (jo w0 F) w0 d f g.b) (hS:St w0 F w0 [bx j 177 [vS d g.b.length f,vI g.i,vI g.h]]) :
    iq prog 71 #[.pointer (some ⟨j,0,none⟩),vI l] w0 (fun v w=>v=.bool r.1∧St w0 F w [bx j 177 [vS d g.b.length f,vI r.2.i,vI r.2.h]]):=by
 unfold jK at h;refine iq.fn func71 fun e=>?_;refine T ?_;intro p n h o k;replace h:=oi h;subst h;exact Ra ⟨rfl,k.pk [0]⟩
instance k_71:Ct prog 71:=⟨by kernel_rfl,@vN⟩
theorem CE {w0} {F:List Nat} {N g p r} (h:jc N g p=some r) {o:Nat} {d f} (x:iR (jo w0 F) w0 d f g.b) {j l k} (m:l=p.length) (n:iR (jo w0 F) w0 j k p) (hS:St w0 F w0 [bx o 177 [vS d g.b.length f,vI g.i,vI g.h]]) :
    iq prog 72 #[.pointer (some ⟨o,0,none⟩),vS j l k] w0 (fun v w=>v=vI r.1∧St w0 F w [bx o 177 [vS d g.b.length f,vI r.2.i,vI r.2.h]]):=by
 subst m;unfold jc at h;refine iq.fn func72 fun e=>?_;refine T ?_;intro L H h K q;have ⟨M,u,h⟩:=ob h;obtain ⟨I,J,z,rfl,A,C,G,rfl,B⟩:=n.idx u;refine go ?_;refine T ?_;replace h:=oi h;subst h;exact Ra ⟨rfl,q.pk [0]⟩
instance k_72:Ct prog 72:=⟨by kernel_rfl,@CE⟩
theorem DE {w0 N b d r} (h:rm N b d=some r) {f W C} (aj:W=b.PB.PA.length) (aY:rb w0 f C b.PB.PA) {g X G} (ak:X=b.own.length) (aZ:rb w0 g G b.own) {j Y H} (am:Y=b.PC.length) (ay:rb w0 j H b.PC) {k Z I} (an:Z=b.py.ag.length) (a0:rb w0 k I b.py.ag) {l aa J} (ao:aa=b.py.gc.hZ.length) (a1:rb w0 l J b.py.gc.hZ) {m ab K} (ap:ab=b.ia.length) (az:rb w0 m K b.ia) {n ac L} (aq:ac=d.PB.PA.length) (a2:rb w0 n L d.PB.PA) {p ad M} (ar:ad=d.own.length) (a3:rb w0 p M d.own) {q ae O} (au:ae=d.PC.length) (aA:rb w0 q O d.PC) {z af R} (av:af=d.py.ag.length) (a4:rb w0 z R d.py.ag) {A ah U} (aw:ah=d.py.gc.hZ.length) (a5:rb w0 A U d.py.gc.hZ) {B ai V} (ax:ai=d.ia.length) (aB:rb w0 B V d.ia) :
    iq prog 63 #[.agg #[vS f W C,vS g X G,vS j Y H,vS k Z I,vI b.py.gc.PD,vI b.py.gc.PL,vI b.py.gc.PF,vS l aa J,vS m ab K,vI b.PJ,vI b.PI,vI b.hY.bh,vI b.hY.ib,vI b.hY.ij,vI b.ik,vI b.PH],.agg #[vS n ac L,vS p ad M,vS q ae O,vS z af R,vI d.py.gc.PD,vI d.py.gc.PL,vI d.py.gc.PF,vS A ah U,vS B ai V,vI d.PJ,vI d.PI,vI d.hY.bh,vI d.hY.ib,vI d.hY.ij,vI d.ik,vI d.PH]] w0 (fun v w=>v=.bool r∧St w0 [] w []):=by
 subst aj ak am an ao ap aq ar au av aw ax;unfold rm at h;refine iq.fn func63 fun e=>?_;have bN:=St.start w0;refine T ?_;intro cf ci bO cg cj aP;obtain ⟨bF,aT,ba⟩:=ob h;refine CW.jn [2,3] [0,1] [(75,.bool bF)] aP (h1:=?_) (h2:=?_)
 · have h:=aT;refine T ?_;intro cl bS h ck bP;refine bH h ?_ ?_<;>intro _ h
   · exact rt
   refine T ?_;intro cb bC h bZ bQ;refine bH h ?_ ?_<;>intro _ h
   · exact rt
   refine go ?_;refine bH h ?_ ?_<;>intro _ h
   · exact rt
   refine gB h ?_ ?_<;>intro _ h
   · exact rt
   refine gB h ?_ ?_<;>intro _ h
   · exact rt
   refine go ?_;refine bH h ?_ ?_<;>intro _ h
   · exact rt
   refine go ?_;refine LW.u (iQ.Co O2 rfl rfl (fun w=>OV b.hY d.hY w)) rfl ?_;refine gB h ?_ ?_<;>intro _ h
   · exact rt
   refine gB h ?_ ?_<;>intro _ h
   · exact rt
   exact rt
 intro e b0 aQ;have h:=ba;refine gc h ?_ ?_<;>intro _ h
 · exact rt
 refine go ?_;obtain ⟨aE,aJ,aC⟩:=ob h;refine CW.mono (CW.lx [2,3] [0,1] [2,3] 0 (fun aG=>[(5,vI aG)]) (RT prog f63.results (fun u=>.bool u) w0 []) aQ aJ (hb:=?_)) ?_
 · intro aG e b1 o aR h;refine gc h ?_ ?_<;>intro _ h
   · refine kb ?_;have bR:=aR.drew;refine gb h fun aU aL h=>?_;obtain ⟨bG,bT,a6,rfl,bk,bs,bw,rfl,bo⟩:=ay.idx aL;refine go ?_;refine T ?_;have ⟨aV,aM,h⟩:=ob h;obtain ⟨bI,bU,a7,rfl,bl,bt,bz,rfl,bp⟩:=aA.idx aM;refine go ?_;refine T ?_;refine AW.u (i:=10) rfl (by kernel_rfl) rfl rfl (iQ.Co Hy rfl rfl (fun w=>H5 aU aV w)) ?_;refine gc h ?_ ?_<;>intro _ h
     · exact rt
     exact rt
   exact rt
 intro x e b2 hM;rcases aE with aE | bY
 · obtain ⟨rfl,hM⟩:=hM;obtain ⟨e,rfl,aS⟩:=eo hM;have h:=aC;refine go ?_;obtain ⟨aF,aK,aD⟩:=ob h;refine CW.mono (CW.lx [2,3] [0,1] [2,3] 2 (fun aH=>[(6,vI aH)]) (RT prog f63.results (fun u=>.bool u) w0 []) aS aK (hb:=?_)) ?_
   · intro aH e b3 o aI h;refine gc h ?_ ?_<;>intro _ h
     · refine kb ?_;have bb:=aI.drew;refine gb h fun aW aN h=>?_;obtain ⟨bJ,bV,a8,rfl,bm,bu,bA,rfl,bq⟩:=az.idx aN;refine go ?_;refine T ?_;have ⟨aX,aO,h⟩:=ob h;obtain ⟨bK,bW,a9,rfl,bn,bv,bB,rfl,br⟩:=aB.idx aO;refine go ?_;refine T ?_;refine AW.u (i:=10) rfl (by kernel_rfl) rfl rfl (iQ.Co Oo rfl rfl (fun w=>N3 aW aX w)) ?_;refine gc h ?_ ?_<;>intro _ h
       · exact rt
       exact rt
     exact rt
   intro x e b4 hM;rcases aF with aF | bX
   · obtain ⟨rfl,hM⟩:=hM;obtain ⟨e,rfl,bc⟩:=eo hM;have h:=aD;refine T ?_;intro bL b5 bd b6 be bM b7 bf b8 bg;refine T ?_;intro cc bD h b9 bi;refine bH h ?_ ?_<;>intro _ h
     · refine go ?_;refine bH h ?_ ?_<;>intro _ h
       · refine gB h ?_ ?_<;>intro _ h
         · refine gB h ?_ ?_<;>intro _ h
           · refine T ?_;intro ce bE h ca bj;exact rt
           exact rt
         exact rt
       exact rt
     exact rt
   obtain ⟨rfl,u,rfl,hM⟩:=hM;cases aD;exact And.intro trivial hM
 obtain ⟨rfl,u,rfl,hM⟩:=hM;cases aC;exact And.intro trivial hM
instance k_63:Ct prog 63:=⟨by kernel_rfl,@DE⟩
theorem Im {w0} {F:List Nat} {N g r} (h:tL N g=some r) {l:Nat} {d f} (o:iR (jo w0 F) w0 d f g.b) (hS:St w0 F w0 [bx l 177 [vS d g.b.length f,vI g.i,vI g.h]]) :
    iq prog 317 #[.pointer (some ⟨l,0,none⟩)] w0 (fun v w=>v=.agg #[vI r.1.bh,vI r.1.ib,vI r.1.ij]∧St w0 F w [bx l 177 [vS d g.b.length f,vI r.2.i,vI r.2.h]]):=by
 unfold tL at h;refine iq.fn func317 fun e=>?_;refine T ?_;intro I J q m A h K u n B h C x k p h G z;refine LW.bd [(0,vI m.1),(1,vI n.1),(2,vI k.1)] #[vI m.1,vI n.1,vI k.1] ?_;refine T ?_;intro H j;replace h:=oi h;subst h;exact And.intro trivial ⟨_,kI.one (iD.b j 1 rfl DQ rfl rfl),rfl,j.pk [0]⟩
instance k_317:Ct prog 317:=⟨by kernel_rfl,@Im⟩
end Go.Kx
