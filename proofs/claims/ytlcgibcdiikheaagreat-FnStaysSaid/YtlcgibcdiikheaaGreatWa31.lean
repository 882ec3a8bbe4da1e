import Derived.Test.YtlcgibcdiikheaaGreatWa30
namespace Go.Kx
open Go Go.RowKit Go.Proofs
open Tryz
set_option maxRecDepth 10000
set_option maxHeartbeats 8000000
set_option linter.unusedVariables false
set_option linter.unusedSimpArgs false
theorem Ld {w0 N b r} (h:r6 N b=some r) :
    g8 prog 160 #[.agg #[vI b.res,vI b.jz,vI b.nD,vI b.kH,vI b.py,vI b.mb]] w0 (fun v w=>v=.bool r∧St w0 [] w []):=by
 unfold r6 at h;refine g8.fn func160 fun e=>?_;have p:=St.start w0;refine T ?_;intro Y Z d;obtain ⟨o,f,g⟩:=ob h;refine CW.jn [1] [0] [(24,.bool o)] d (h1:=?_) (h2:=?_)
 · have h:=f;refine T ?_;intro ac G h aa q;refine bH h ?_ ?_<;>intro _ h
   · exact rt
   refine T ?_;intro ad H h ab u;refine bH h ?_ ?_<;>intro _ h
   · exact rt
   refine T ?_;intro R j h I x;refine bH h ?_ ?_<;>intro _ h
   · exact rt
   refine T ?_;intro U k h J z;exact rt
 intro e K A;have h:=g;refine gc h ?_ ?_<;>intro _ h
 · exact rt
 refine gB h ?_ ?_<;>intro _ h
 · refine T ?_;intro V l h L B;refine bH h ?_ ?_<;>intro _ h
   · exact rt
   refine gB h ?_ ?_<;>intro _ h
   · refine T ?_;intro W m h M C;exact rt
   exact rt
 refine gB h ?_ ?_<;>intro _ h
 · refine T ?_;intro X n h O i;exact rt
 exact rt
instance k_160:Ct prog 160:=⟨by kernel_rfl,@Ld⟩
theorem JC {w0 N b r} (h:mz N b=some r) :
    g8 prog 154 #[.agg #[vI b.bh,vI b.gS,vI b.gW]] w0 (fun v w=>v=.bool r∧St w0 [] w []):=by
 unfold mz at h;refine g8.fn func154 fun e=>?_;have d:=St.start w0;refine T ?_;intro o p f;refine T ?_;intro x k h q g;refine bH h ?_ ?_<;>intro _ h
 · refine T ?_;intro z l h u i;refine bH h ?_ ?_<;>intro _ h
   · refine T ?_;intro A m h n j;exact rt
   exact rt
 exact rt
instance k_154:Ct prog 154:=⟨by kernel_rfl,@JC⟩
theorem H9 {w0 N j l r} (h:oq N j l=some r) {b f d} (g:f=j.length) (i:rb w0 b d j) :
    g8 prog 161 #[vS b f d,vI l] w0 (fun v w=>v=.bool r∧St w0 [] w []):=by
 subst g;unfold oq at h;refine g8.fn func161 fun e=>?_;have p:=St.start w0;refine go ?_;refine T ?_;intro G z h C q;refine bH h ?_ ?_<;>intro _ h
 · refine gb h fun H k h=>?_;obtain ⟨A,B,o,rfl,m,u,x,rfl,n⟩:=i.idx k;refine go ?_;refine T ?_;exact rt
 exact rt
instance k_161:Ct prog 161:=⟨by kernel_rfl,@H9⟩
theorem z5 {w0 N b r} (h:tx N b=some r) {d l i} (p:l=b.gZ.length) (A:rb w0 d i b.gZ) {f m j} (q:m=b.QV.length) (B:rb w0 f j b.QV) {g n k} (z:n=b.QU.length) (C:rb w0 g k b.QU) :
    g8 prog 358 #[.agg #[vI b.Q3,vI b.py,vI b.box,vI b.res,vI b.iF,vI b.bh,vI b.QW,vI b.iK,vI b.iG,.bool b.mark,vS d l i,vS f m j,vS g n k]] w0 (fun v w=>v=.bool r∧St w0 [] w []):=by
 subst p q z;unfold tx at h;refine g8.fn func358 fun e=>?_;have aU:=St.start w0;refine T ?_;intro bw bz ai;refine go ?_;obtain ⟨J,Z,G⟩:=ob h;refine CW.mono (CW.lx [1,12,13] [0] [1] 0 (fun aq=>[(14,vI aq)]) (RT prog f358.results (fun u=>.bool u) w0 []) ai Z (hb:=?_)) ?_
 · intro aq e bA o aV h;refine gc h ?_ ?_<;>intro _ h
   · refine gb h fun bB am h=>?_;obtain ⟨bv,a2,ar,rfl,aC,a0,a1,rfl,aF⟩:=A.idx am;refine go ?_;refine T ?_;intro bo aM h a8 aW;refine CW.fl [1,12,13,14,20] fun e=>?_;refine gc h ?_ ?_<;>intro _ h
     · exact rt
     exact rt
   exact rt
 intro x e a9 hM;rcases J with J | a7
 · obtain ⟨rfl,hM⟩:=hM;obtain ⟨e,rfl,aj⟩:=eo hM;have h:=G;refine go ?_;obtain ⟨K,aa,H⟩:=ob h;refine CW.mono (CW.lx [1,23,24] [0] [1] 2 (fun M=>[(25,vI M)]) (RT prog f358.results (fun u=>.bool u) w0 []) aj aa (hb:=?_)) ?_
   · intro M e ba o aX h;refine gc h ?_ ?_<;>intro _ h
     · refine gb h fun bp ac h=>?_;obtain ⟨aR,a3,au,rfl,aD,aI,aK,rfl,aG⟩:=B.idx ac;refine go ?_;refine T ?_;intro bq aN h bb aY;refine CW.fl [1,23,24,25,31] fun e=>?_;refine gc h ?_ ?_<;>intro _ h
       · exact rt
       exact rt
     exact rt
   intro x e bc hM;rcases K with K | a6
   · obtain ⟨rfl,hM⟩:=hM;obtain ⟨e,rfl,ak⟩:=eo hM;have h:=H;refine go ?_;obtain ⟨L,ab,I⟩:=ob h;refine CW.mono (CW.lx [1,34,35] [0] [1] 4 (fun O=>[(36,vI O)]) (RT prog f358.results (fun u=>.bool u) w0 []) ak ab (hb:=?_)) ?_
     · intro O e bd o aZ h;refine kS [1,34,35,36,37] fun e=>?_;refine gc h ?_ ?_<;>intro _ h
       · refine gb h fun br ad h=>?_;obtain ⟨aS,a4,av,rfl,aE,aJ,aL,rfl,aH⟩:=C.idx ad;refine go ?_;refine T ?_;intro aT be aw bf R;obtain ⟨an,W,ae⟩:=ob h;refine CW.jn [1,34,35,36] [1] [(54,.bool an)] R (h1:=?_) (h2:=?_)
         · have h:=W;refine gB h ?_ ?_<;>intro _ h
           · refine T ?_;intro bs aO h bg ax;refine bH h ?_ ?_<;>intro _ h
             · exact rt
             refine T ?_;intro bt aP h bi ay;exact rt
           refine T ?_;intro bu aQ h bj az;exact rt
         intro e bk aA;have h:=ae;refine gc h ?_ ?_<;>intro _ h
         · exact rt
         exact rt
       exact rt
     intro x e bl hM;rcases L with L | a5
     · obtain ⟨rfl,hM⟩:=hM;obtain ⟨e,rfl,U⟩:=eo hM;have h:=I;refine gs ?_;refine CW.region ?_;refine gs ?_;refine CW.region ?_;refine gs ?_;obtain ⟨ao,X,af⟩:=ob h;refine CW.jn [1,10] [0] [(9,vI ao)] U (h1:=?_) (h2:=?_)
       · have h:=X;refine CW.fl [1,9,10,58] fun e=>?_;refine gc h ?_ ?_<;>intro _ h
         · exact rt
         exact rt
       intro e bm V;have h:=af;refine gs ?_;refine CW.region ?_;refine gs ?_;obtain ⟨ap,Y,ah⟩:=ob h;refine CW.jn [1,9] [0] [(10,vI ap)] V (h1:=?_) (h2:=?_)
       · have h:=Y;refine CW.fl [1,9,10,63] fun e=>?_;refine gc h ?_ ?_<;>intro _ h
         · exact rt
         exact rt
       intro e bn aB;have h:=ah;refine go ?_;refine bH h ?_ ?_<;>intro _ h
       · refine gB h ?_ ?_<;>intro _ h
         · exact rt
         exact rt
       exact rt
     obtain ⟨rfl,u,rfl,hM⟩:=hM;cases I;exact And.intro trivial hM
   obtain ⟨rfl,u,rfl,hM⟩:=hM;cases H;exact And.intro trivial hM
 obtain ⟨rfl,u,rfl,hM⟩:=hM;cases G;exact And.intro trivial hM
instance k_358:Ct prog 358:=⟨by kernel_rfl,@z5⟩
theorem GM {w0 N l J r} (h:pF N l J=some r) {f m g} (n:m=l.length) (j:rb w0 f g l) :
    g8 prog 229 #[vS f m g,vI J] w0 (fun v w=>∃ p q,v=vS p r.length q∧St w0 [] w [sl p q r]):=by
 subst n;unfold pF at h;refine g8.fn func229 fun e=>?_;have U:=St.start w0;refine go ?_;refine LW.b0 (α:=Int) U ?_;intro ac ad bs V hf;refine go ?_;obtain ⟨be,B,R⟩:=ob h;refine CW.ie B 0 (fun k e wb=>∃ (b:Ad) (d:Nat),En e [(0,vS f l.length g),(1,vI J),(5,vS b k.1.length d),(10,vS f l.length g),(11,vI (l.length:Int)),(12,vI k.2)]∧St w0 [] wb [sl b d k.1]) ?_ ⟨ac,ad,V.po [0]⟩ ?_
 · intro k e bt o hM h;obtain ⟨b,d,hE,a5⟩:=hM;obtain ⟨e,rfl⟩:=hE.out;refine gc h ?_ ?_<;>intro _ h
   · refine gb h fun bu Z h=>?_;obtain ⟨aQ,bb,ae,rfl,aj,a9,ba,⟨aG,aT,aH,aU,aI,aV,rfl,aw,ax,ay⟩,an⟩:=j.idx Z;refine go ?_;refine T ?_;intro a4 bg a6 bi W;obtain ⟨aa,z,K⟩:=ob h;refine CW.jn [0,1,5,6,10,11,12] [1] [(8,.bool aa)] W (h1:=?_) (h2:=?_)
     · have h:=z;refine gB h ?_ ?_<;>intro _ h
       · refine gB h ?_ ?_<;>intro _ h
         · refine go ?_;refine bH h ?_ ?_<;>intro _ h
           · refine gb h fun bo C h=>?_;obtain ⟨aR,bc,af,hae,ak,aq,au,u,ao⟩:=j.idx C;cases hae;obtain ⟨aJ,aW,aK,aX,aL,aY,rfl,az,aA,aB⟩:=u;refine go ?_;refine T ?_;exact rt
           exact rt
         exact rt
       exact rt
     intro e bj X;have h:=K;refine gs ?_;obtain ⟨ab,A,O⟩:=ob h;refine CW.jn [0,1,5,6,10,11,12] [0] [(47,.bool ab)] X (h1:=?_) (h2:=?_)
     · have h:=A;refine gB h ?_ ?_<;>intro _ h
       · exact rt
       refine gb h fun bp H h=>?_;obtain ⟨aS,bd,ah,hae,am,ar,av,x,ap⟩:=j.idx H;cases hae;obtain ⟨aM,aZ,aN,a0,aO,a2,rfl,aC,aD,aE⟩:=x;refine go ?_;refine T ?_;intro bq aF h bk a7;exact rt
     intro e bl Y;have h:=O;refine kS [0,1,5,6,10,11,12,47] fun e=>?_;refine gc h ?_ ?_<;>intro _ h
     · refine gb h fun br I h=>?_;refine LW.kX (M:=[]) (L:=[sl b d k.1]) (vs:=#[vI k.2]) (i:=0) oL rfl (by kernel_rfl) rfl rfl I Y rfl (fun w G hG=>by cases (show G=[] from hG);exact ⟨rfl,rfl⟩) rfl rfl ?_;intro bf aP a3 bm a8 hf;exact rt
     exact rt
   exact rt
 rintro e bn ⟨b,d,hE,ai⟩;obtain ⟨e,rfl⟩:=hE.out;have h:=R;exact rt
instance k_229:Ct prog 229:=⟨by kernel_rfl,@GM⟩
theorem BT {w0 N b r} (h:qd N b=some r) :
    g8 prog 132 #[vI b] w0 (fun v w=>v=vI r∧St w0 [] w []):=by
 unfold qd at h;refine g8.fn func132 fun e=>?_;have d:=St.start w0;refine T ?_;intro j g h i f;refine gc h ?_ ?_<;>intro _ h
 · exact rt
 refine go ?_;refine LW.u (iM.rem rfl rfl (by decide)) rfl ?_;exact rt
instance k_132:Ct prog 132:=⟨by kernel_rfl,@BT⟩
theorem Cq {w0 N b r} (h:qe N b=some r) :
    g8 prog 133 #[vI b] w0 (fun v w=>v=vI r∧St w0 [] w []):=by
 unfold qe at h;refine g8.fn func133 fun e=>?_;have d:=St.start w0;refine T ?_;intro j g h i f;refine gc h ?_ ?_<;>intro _ h
 · exact rt
 refine go ?_;refine LW.u (iM.quo rfl rfl (by decide)) rfl ?_;refine LW.u (iM.rem rfl rfl (by decide)) rfl ?_;exact rt
instance k_133:Ct prog 133:=⟨by kernel_rfl,@Cq⟩
theorem Dn {w0 N b r} (h:qS N b=some r) :
    g8 prog 134 #[vI b] w0 (fun v w=>v=vI r∧St w0 [] w []):=by
 unfold qS at h;refine g8.fn func134 fun e=>?_;have d:=St.start w0;refine T ?_;intro j g h i f;refine gc h ?_ ?_<;>intro _ h
 · exact rt
 refine go ?_;refine LW.u (iM.quo rfl rfl (by decide)) rfl ?_;refine LW.u (iM.quo rfl rfl (by decide)) rfl ?_;exact rt
instance k_134:Ct prog 134:=⟨by kernel_rfl,@Dn⟩
theorem KQ {w0} {F:List Nat} {N d R r} (h:vN N d R=some r) {C:Nat} {j b f g} (hS:St w0 F w0 [bx C 45 [vS j d.ag.length b,vI d.gc.QS,vI d.gc.Q0,vI d.gc.QT,vS f d.gc.gQ.length g],sl j b d.ag,sl f g d.gc.gQ]) :
    g8 prog 311 #[.pointer (some ⟨C,0,none⟩),vI R] w0 (fun v w=>∃ m p, ∃ n q,v=.tuple #[]∧St w0 F w [bx C 45 (qH m p n q r),sl m p r.ag,sl n q r.gc.gQ]):=by
 unfold vN at h;refine g8.fn func311 fun e=>?_;refine gs ?_;obtain ⟨ai,W,h2⟩:=ob h;refine CW.jn [0,1] [0,1,2] [(30,.bool ai)] hS (h1:=?_) (h2:=?_)
 · have h:=W;refine go ?_;refine LW.u (iM.nc rfl) rfl ?_;refine gB h ?_ ?_<;>intro _ h
   · exact rt
   refine go ?_;refine LW.u (iM.nc rfl) rfl ?_;refine gb h fun aS J h=>?_;obtain ⟨aQ,aR,hae,aD,aE⟩:=hS.iu (α:=gE) (i:=1) rfl J;subst hae;refine go ?_;obtain ⟨aP,k,H⟩:=hS.freeze (α:=gE) 1 rfl;obtain ⟨av,aF,Y,hae,Z,_,_,K,aa⟩:=k.j5.idx J;cases hae;obtain ⟨aq,aw,ar,ax,au,ay,rfl,ad,ae,af⟩:=K;refine T ?_;refine bH h ?_ ?_<;>intro _ h
   · refine go ?_;have az:=H.iJ (α:=gE) 1 rfl k;exact rt
   refine go ?_;refine LW.u (iM.nc rfl) rfl ?_;refine go ?_;refine T ?_;have aA:=H.iJ (α:=gE) 1 rfl k;exact rt
 intro e aH z;have h:=h2;refine gc h ?_ ?_<;>intro _ h
 · refine go ?_;replace h:=oi h;subst h;exact And.intro trivial ⟨_,lk.zero , j,b,f,g,rfl,z.pk [0,1,2]⟩
 refine go ?_;refine LW.u (iM.nc rfl) rfl ?_;refine gb h fun aM B h=>?_;obtain ⟨o,x,hae,ab,ac⟩:=z.iu (α:=gE) (i:=1) rfl B;subst hae;refine go ?_;refine gb h fun X l h=>?_;refine LW.se 9 z 1 B l (hM:=(kR (fun w cs F hF=>by obtain ⟨aj,an,ak,ao,am,ap,rfl,hH⟩:=hF;exact ⟨aj,an,ak,ao,am,ap,rfl,hH⟩))) fun aI aB=>?_;refine go ?_;refine LW.u (iM.nc rfl) rfl ?_;refine T ?_;intro aN ah h aJ A;refine CW.fl [0,1,45] fun e=>?_;refine gc h ?_ ?_<;>intro _ h
 · refine go ?_;refine LW.u (iM.nc rfl) rfl ?_;refine gb h fun aO O h=>?_;refine LW.kX (M:=[]) (L:=[bx C 45 [vS (some ⟨o,x,none⟩) d.ag.length b,vI d.gc.QS,vI d.gc.Q0,vI d.gc.QT,vS f d.gc.gQ.length g],sl (some ⟨o,x,none⟩) b X,sl f g d.gc.gQ]) (vs:=#[vI R]) (i:=2) oL rfl (by kernel_rfl) rfl rfl O A rfl (fun w G hG=>by cases (show G=[] from hG);exact ⟨rfl,rfl⟩) rfl rfl ?_;intro aG U V aK aC hf;refine LW.u (iM.nc rfl) rfl ?_;refine T ?_;intro aL I;replace h:=oi h;subst h;rw [iv (oi l)] at I;exact And.intro trivial ⟨_,lk.zero , (some ⟨o,x,none⟩),b,U,V,rfl,I.pk [0,1,2]⟩
 refine go ?_;replace h:=oi h;subst h;rw [iv (oi l)] at A;exact And.intro trivial ⟨_,lk.zero , (some ⟨o,x,none⟩),b,f,g,rfl,A.pk [0,1,2]⟩
instance k_311:Ct prog 311:=⟨by kernel_rfl,@KQ⟩
theorem GB {w0} {F:List Nat} {N n r} (h:pH N n=some r) {u:Nat} {g j} (O:iV (ki w0 F) w0 g j n.b) (hS:St w0 F w0 [bx u 177 [vS g n.b.length j,vI n.i,vI n.h]]) :
    g8 prog 304 #[.pointer (some ⟨u,0,none⟩)] w0 (fun v w=>∃ p q,v=.agg #[vS p r.1.so.length q]∧St w0 F w [sl p q r.1.so,bx u 177 [vS g n.b.length j,vI r.2.i,vI r.2.h]]):=by
 unfold pH at h;refine g8.fn func304 fun e=>?_;refine T ?_;intro C ao Z;refine LW.bd [] #[vS none 0 0] ?_;refine T ?_;intro G ap aa aq I;refine go ?_;have J:=I.nil (α:=Int);obtain ⟨ae,A,H⟩:=ob h;refine CW.ie A 0 (fun k e wb=>∃ (d:Ad) (f:Nat),En e [(0,.pointer (some ⟨u,0,none⟩)),(2,.pointer (some ⟨C,0,none⟩)),(3,.pointer (some ⟨G,0,none⟩)),(4,vI k.1)]∧St w0 F wb [bx G 39 [vS d k.2.2.2.length f],bx C 39 [vS none 0 0],bx u 177 [vS g n.b.length j,vI k.2.1,vI k.2.2.1],sl d f k.2.2.2]) ?_ ⟨none,0,J.po [1,2,3,0]⟩ ?_
 · intro k e ar o hM h;obtain ⟨d,f,hE,K⟩:=hM;obtain ⟨e,rfl⟩:=hE.out;refine gc h ?_ ?_<;>intro _ h
   · refine mo ?_;have ab:=K.drew;refine T ?_;intro M ad h af L;refine LW.bi [M.1] L ?_;intro V X ah z hf;refine T ?_;have ⟨an,B,h⟩:=ob h;refine T ?_;refine LW.km (l:=k.2.2.2) (m:=([M.1]:List Int)) oL rfl rfl (z.rI 0 rfl) B z (i:=4) rfl rfl ?_;intro W Y ai ac hf;refine T ?_;intro aj R;exact rt
   exact rt
 rintro e ak ⟨d,f,hE,U⟩;obtain ⟨e,rfl⟩:=hE.out;have h:=H;refine T ?_;intro am x;replace h:=oi h;subst h;exact And.intro trivial ⟨_,lk.one (iq.b x 1 rfl zI rfl rfl),d,f,rfl,x.pk [3,2]⟩
instance k_304:Ct prog 304:=⟨by kernel_rfl,@GB⟩
theorem v7 {w0} {F:List Nat} {N g l r} (h:ks N g l=some r) {j:Nat} {d f} (m:iV (ki w0 F) w0 d f g.b) (hS:St w0 F w0 [bx j 177 [vS d g.b.length f,vI g.i,vI g.h]]) :
    g8 prog 71 #[.pointer (some ⟨j,0,none⟩),vI l] w0 (fun v w=>v=.bool r.1∧St w0 F w [bx j 177 [vS d g.b.length f,vI r.2.i,vI r.2.h]]):=by
 unfold ks at h;refine g8.fn func71 fun e=>?_;refine T ?_;intro p n h o k;replace h:=oi h;subst h;exact Ra ⟨rfl,k.pk [0]⟩
instance k_71:Ct prog 71:=⟨by kernel_rfl,@v7⟩
theorem DF {w0} {F:List Nat} {N g p r} (h:ku N g p=some r) {o:Nat} {d f} (x:iV (ki w0 F) w0 d f g.b) {j l k} (m:l=p.length) (n:iV (ki w0 F) w0 j k p) (hS:St w0 F w0 [bx o 177 [vS d g.b.length f,vI g.i,vI g.h]]) :
    g8 prog 72 #[.pointer (some ⟨o,0,none⟩),vS j l k] w0 (fun v w=>v=vI r.1∧St w0 F w [bx o 177 [vS d g.b.length f,vI r.2.i,vI r.2.h]]):=by
 subst m;unfold ku at h;refine g8.fn func72 fun e=>?_;refine T ?_;intro L H h K q;have ⟨M,u,h⟩:=ob h;obtain ⟨I,J,z,rfl,A,C,G,rfl,B⟩:=n.idx u;refine go ?_;refine T ?_;replace h:=oi h;subst h;exact Ra ⟨rfl,q.pk [0]⟩
instance k_72:Ct prog 72:=⟨by kernel_rfl,@DF⟩
end Go.Kx
