import Derived.Test.YtlcgibcdiikheaaGreatWa3
import Derived.Test.YtlcgibcdiikheaaGreatWa4
namespace Go.Kx
open Go Go.RowKit Go.Proofs
open Tryz
set_option maxRecDepth 10000
set_option maxHeartbeats 8000000
set_option linter.unusedVariables false
set_option linter.unusedSimpArgs false
theorem zU {w0 N b r} (h:ss N b=some r) {d l i} (p:l=b.gZ.length) (A:rb w0 d i b.gZ) {f m j} (q:m=b.Po.length) (B:rb w0 f j b.Po) {g n k} (z:n=b.Pk.length) (C:rb w0 g k b.Pk) :
    gV prog 358 #[.agg #[vI b.Pw,vI b.Pf,vI b.box,vI b.Pu,vI b.iz,vI b.gE,vI b.Pq,vI b.iy,vI b.im,.bool b.Ps,vS d l i,vS f m j,vS g n k]] w0 (fun v w=>v=.bool r∧St w0 [] w []):=by
 subst p q z;unfold ss at h;refine gV.fn func358 fun e=>?_;have aU:=St.start w0;refine T ?_;intro bw bz ai;refine go ?_;obtain ⟨J,Z,G⟩:=ob h;refine CW.mono (CW.lx [1,12,13] [0] [1] 0 (fun aq=>[(14,vI aq)]) (RT prog f358.results (fun u=>.bool u) w0 []) ai Z (hb:=?_)) ?_
 · intro aq e bA o aV h;refine gc h ?_ ?_<;>intro _ h
   · refine gb h fun bB am h=>?_;obtain ⟨bv,a2,ar,rfl,aC,a0,a1,rfl,aF⟩:=A.idx am;refine go ?_;refine T ?_;intro bo aM h a8 aW;refine CW.fl [1,12,13,14,20] fun e=>?_;refine gc h ?_ ?_<;>intro _ h
     · exact rt
     exact rt
   exact rt
 intro x e a9 hM;rcases J with J | a7
 · obtain ⟨rfl,hM⟩:=hM;obtain ⟨e,rfl,aj⟩:=eo hM;have h:=G;refine go ?_;obtain ⟨K,aa,H⟩:=ob h;refine CW.mono (CW.lx [1,23,24] [0] [1] 2 (fun M=>[(25,vI M)]) (RT prog f358.results (fun u=>.bool u) w0 []) aj aa (hb:=?_)) ?_
   · intro M e ba o aX h;refine gc h ?_ ?_<;>intro _ h
     · refine gb h fun bp ac h=>?_;obtain ⟨aR,a3,au,rfl,aD,aI,aK,rfl,aG⟩:=B.idx ac;refine go ?_;refine T ?_;intro bq aN h bb aY;refine CW.fl [1,23,24,25,31] fun e=>?_;refine gc h ?_ ?_<;>intro _ h
       · exact rt
       exact rt
     exact rt
   intro x e bc hM;rcases K with K | a6
   · obtain ⟨rfl,hM⟩:=hM;obtain ⟨e,rfl,ak⟩:=eo hM;have h:=H;refine go ?_;obtain ⟨L,ab,I⟩:=ob h;refine CW.mono (CW.lx [1,34,35] [0] [1] 4 (fun O=>[(36,vI O)]) (RT prog f358.results (fun u=>.bool u) w0 []) ak ab (hb:=?_)) ?_
     · intro O e bd o aZ h;refine jw [1,34,35,36,37] fun e=>?_;refine gc h ?_ ?_<;>intro _ h
       · refine gb h fun br ad h=>?_;obtain ⟨aS,a4,av,rfl,aE,aJ,aL,rfl,aH⟩:=C.idx ad;refine go ?_;refine T ?_;intro aT be aw bf R;obtain ⟨an,W,ae⟩:=ob h;refine CW.jn [1,34,35,36] [1] [(54,.bool an)] R (h1:=?_) (h2:=?_)
         · have h:=W;refine gB h ?_ ?_<;>intro _ h
           · refine T ?_;intro bs aO h bg ax;refine bH h ?_ ?_<;>intro _ h
             · exact rt
             refine T ?_;intro bt aP h bi ay;exact rt
           refine T ?_;intro bu aQ h bj az;exact rt
         intro e bk aA;have h:=ae;refine gc h ?_ ?_<;>intro _ h
         · exact rt
         exact rt
       exact rt
     intro x e bl hM;rcases L with L | a5
     · obtain ⟨rfl,hM⟩:=hM;obtain ⟨e,rfl,U⟩:=eo hM;have h:=I;refine gs ?_;refine CW.region ?_;refine gs ?_;refine CW.region ?_;refine gs ?_;obtain ⟨ao,X,af⟩:=ob h;refine CW.jn [1,10] [0] [(9,vI ao)] U (h1:=?_) (h2:=?_)
       · have h:=X;refine CW.fl [1,9,10,58] fun e=>?_;refine gc h ?_ ?_<;>intro _ h
         · exact rt
         exact rt
       intro e bm V;have h:=af;refine gs ?_;refine CW.region ?_;refine gs ?_;obtain ⟨ap,Y,ah⟩:=ob h;refine CW.jn [1,9] [0] [(10,vI ap)] V (h1:=?_) (h2:=?_)
       · have h:=Y;refine CW.fl [1,9,10,63] fun e=>?_;refine gc h ?_ ?_<;>intro _ h
         · exact rt
         exact rt
       intro e bn aB;have h:=ah;refine go ?_;refine bH h ?_ ?_<;>intro _ h
       · refine gB h ?_ ?_<;>intro _ h
         · exact rt
         exact rt
       exact rt
     obtain ⟨rfl,u,rfl,hM⟩:=hM;cases I;exact And.intro trivial hM
   obtain ⟨rfl,u,rfl,hM⟩:=hM;cases H;exact And.intro trivial hM
 obtain ⟨rfl,u,rfl,hM⟩:=hM;cases G;exact And.intro trivial hM
instance k_358:Ct prog 358:=⟨by kernel_rfl,@zU⟩
theorem FY {w0 N l J r} (h:oL N l J=some r) {f m g} (n:m=l.length) (j:rb w0 f g l) :
    gV prog 229 #[vS f m g,vI J] w0 (fun v w=>∃ p q,v=vS p r.length q∧St w0 [] w [sl p q r]):=by
 subst n;unfold oL at h;refine gV.fn func229 fun e=>?_;have U:=St.start w0;refine go ?_;refine LW.b0 (α:=Int) U ?_;intro ac ad bs V hf;refine go ?_;obtain ⟨be,B,R⟩:=ob h;refine CW.ie B 0 (fun k e wb=>∃ (b:Ad) (d:Nat),En e [(0,vS f l.length g),(1,vI J),(5,vS b k.1.length d),(10,vS f l.length g),(11,vI (l.length:Int)),(12,vI k.2)]∧St w0 [] wb [sl b d k.1]) ?_ ⟨ac,ad,V.po [0]⟩ ?_
 · intro k e bt o hM h;obtain ⟨b,d,hE,a5⟩:=hM;obtain ⟨e,rfl⟩:=hE.out;refine gc h ?_ ?_<;>intro _ h
   · refine gb h fun bu Z h=>?_;obtain ⟨aQ,bb,ae,rfl,aj,a9,ba,⟨aG,aT,aH,aU,aI,aV,rfl,aw,ax,ay⟩,an⟩:=j.idx Z;refine go ?_;refine T ?_;intro a4 bg a6 bi W;obtain ⟨aa,z,K⟩:=ob h;refine CW.jn [0,1,5,6,10,11,12] [1] [(8,.bool aa)] W (h1:=?_) (h2:=?_)
     · have h:=z;refine gB h ?_ ?_<;>intro _ h
       · refine gB h ?_ ?_<;>intro _ h
         · refine go ?_;refine bH h ?_ ?_<;>intro _ h
           · refine gb h fun bo C h=>?_;obtain ⟨aR,bc,af,hae,ak,aq,au,u,ao⟩:=j.idx C;cases hae;obtain ⟨aJ,aW,aK,aX,aL,aY,rfl,az,aA,aB⟩:=u;refine go ?_;refine T ?_;exact rt
           exact rt
         exact rt
       exact rt
     intro e bj X;have h:=K;refine gs ?_;obtain ⟨ab,A,O⟩:=ob h;refine CW.jn [0,1,5,6,10,11,12] [0] [(47,.bool ab)] X (h1:=?_) (h2:=?_)
     · have h:=A;refine gB h ?_ ?_<;>intro _ h
       · exact rt
       refine gb h fun bp H h=>?_;obtain ⟨aS,bd,ah,hae,am,ar,av,x,ap⟩:=j.idx H;cases hae;obtain ⟨aM,aZ,aN,a0,aO,a2,rfl,aC,aD,aE⟩:=x;refine go ?_;refine T ?_;intro bq aF h bk a7;exact rt
     intro e bl Y;have h:=O;refine jw [0,1,5,6,10,11,12,47] fun e=>?_;refine gc h ?_ ?_<;>intro _ h
     · refine gb h fun br I h=>?_;refine LW.kB (M:=[]) (L:=[sl b d k.1]) (vs:=#[vI k.2]) (i:=0) pI rfl (by kernel_rfl) rfl rfl I Y rfl (fun w G hG=>by cases (show G=[] from hG);exact ⟨rfl,rfl⟩) rfl rfl ?_;intro bf aP a3 bm a8 hf;exact rt
     exact rt
   exact rt
 rintro e bn ⟨b,d,hE,ai⟩;obtain ⟨e,rfl⟩:=hE.out;have h:=R;exact rt
instance k_229:Ct prog 229:=⟨by kernel_rfl,@FY⟩
theorem BK {w0 N b r} (h:mr N b=some r) :
    gV prog 132 #[vI b] w0 (fun v w=>v=vI r∧St w0 [] w []):=by
 unfold mr at h;refine gV.fn func132 fun e=>?_;have d:=St.start w0;refine T ?_;intro j g h i f;refine gc h ?_ ?_<;>intro _ h
 · exact rt
 refine go ?_;refine LW.u (il.rem rfl rfl (by decide)) rfl ?_;exact rt
instance k_132:Ct prog 132:=⟨by kernel_rfl,@BK⟩
theorem BG {w0 N b r} (h:oT N b=some r) :
    gV prog 133 #[vI b] w0 (fun v w=>v=vI r∧St w0 [] w []):=by
 unfold oT at h;refine gV.fn func133 fun e=>?_;have d:=St.start w0;refine T ?_;intro j g h i f;refine gc h ?_ ?_<;>intro _ h
 · exact rt
 refine go ?_;refine LW.u (il.quo rfl rfl (by decide)) rfl ?_;refine LW.u (il.rem rfl rfl (by decide)) rfl ?_;exact rt
instance k_133:Ct prog 133:=⟨by kernel_rfl,@BG⟩
theorem C4 {w0 N b r} (h:qg N b=some r) :
    gV prog 134 #[vI b] w0 (fun v w=>v=vI r∧St w0 [] w []):=by
 unfold qg at h;refine gV.fn func134 fun e=>?_;have d:=St.start w0;refine T ?_;intro j g h i f;refine gc h ?_ ?_<;>intro _ h
 · exact rt
 refine go ?_;refine LW.u (il.quo rfl rfl (by decide)) rfl ?_;refine LW.u (il.quo rfl rfl (by decide)) rfl ?_;exact rt
instance k_134:Ct prog 134:=⟨by kernel_rfl,@C4⟩
theorem JQ {w0} {F:List Nat} {N d R r} (h:tC N d R=some r) {C:Nat} {j b f g} (hS:St w0 F w0 [bx C 45 [vS j d.ag.length b,vI d.gc.Ph,vI d.gc.Pr,vI d.gc.Pj,vS f d.gc.gQ.length g],sl j b d.ag,sl f g d.gc.gQ]) :
    gV prog 311 #[.pointer (some ⟨C,0,none⟩),vI R] w0 (fun v w=>∃ m p, ∃ n q,v=.tuple #[]∧St w0 F w [bx C 45 (qH m p n q r),sl m p r.ag,sl n q r.gc.gQ]):=by
 unfold tC at h;refine gV.fn func311 fun e=>?_;refine gs ?_;obtain ⟨ai,W,h2⟩:=ob h;refine CW.jn [0,1] [0,1,2] [(30,.bool ai)] hS (h1:=?_) (h2:=?_)
 · have h:=W;refine go ?_;refine LW.u (il.nc rfl) rfl ?_;refine gB h ?_ ?_<;>intro _ h
   · exact rt
   refine go ?_;refine LW.u (il.nc rfl) rfl ?_;refine gb h fun aS J h=>?_;obtain ⟨aQ,aR,hae,aD,aE⟩:=hS.hZ (α:=gP) (i:=1) rfl J;subst hae;refine go ?_;obtain ⟨aP,k,H⟩:=hS.freeze (α:=gP) 1 rfl;obtain ⟨av,aF,Y,hae,Z,_,_,K,aa⟩:=k.ju.idx J;cases hae;obtain ⟨aq,aw,ar,ax,au,ay,rfl,ad,ae,af⟩:=K;refine T ?_;refine bH h ?_ ?_<;>intro _ h
   · refine go ?_;have az:=H.iD (α:=gP) 1 rfl k;exact rt
   refine go ?_;refine LW.u (il.nc rfl) rfl ?_;refine go ?_;refine T ?_;have aA:=H.iD (α:=gP) 1 rfl k;exact rt
 intro e aH z;have h:=h2;refine gc h ?_ ?_<;>intro _ h
 · refine go ?_;replace h:=oi h;subst h;exact And.intro trivial ⟨_,kz.zero , j,b,f,g,rfl,z.pk [0,1,2]⟩
 refine go ?_;refine LW.u (il.nc rfl) rfl ?_;refine gb h fun aM B h=>?_;obtain ⟨o,x,hae,ab,ac⟩:=z.hZ (α:=gP) (i:=1) rfl B;subst hae;refine go ?_;refine gb h fun X l h=>?_;refine LW.se 9 z 1 B l (hM:=(iU (fun w cs F hF=>by obtain ⟨aj,an,ak,ao,am,ap,rfl,hH⟩:=hF;exact ⟨aj,an,ak,ao,am,ap,rfl,hH⟩))) fun aI aB=>?_;refine go ?_;refine LW.u (il.nc rfl) rfl ?_;refine T ?_;intro aN ah h aJ A;refine CW.fl [0,1,45] fun e=>?_;refine gc h ?_ ?_<;>intro _ h
 · refine go ?_;refine LW.u (il.nc rfl) rfl ?_;refine gb h fun aO O h=>?_;refine LW.kB (M:=[]) (L:=[bx C 45 [vS (some ⟨o,x,none⟩) d.ag.length b,vI d.gc.Ph,vI d.gc.Pr,vI d.gc.Pj,vS f d.gc.gQ.length g],sl (some ⟨o,x,none⟩) b X,sl f g d.gc.gQ]) (vs:=#[vI R]) (i:=2) pI rfl (by kernel_rfl) rfl rfl O A rfl (fun w G hG=>by cases (show G=[] from hG);exact ⟨rfl,rfl⟩) rfl rfl ?_;intro aG U V aK aC hf;refine LW.u (il.nc rfl) rfl ?_;refine T ?_;intro aL I;replace h:=oi h;subst h;rw [gS (oi l)] at I;exact And.intro trivial ⟨_,kz.zero , (some ⟨o,x,none⟩),b,U,V,rfl,I.pk [0,1,2]⟩
 refine go ?_;replace h:=oi h;subst h;rw [gS (oi l)] at A;exact And.intro trivial ⟨_,kz.zero , (some ⟨o,x,none⟩),b,f,g,rfl,A.pk [0,1,2]⟩
instance k_311:Ct prog 311:=⟨by kernel_rfl,@JQ⟩
theorem D8 {w0 N M O R r} (h:rK N M O R=some r) {b n g} (z:n=M.length) (X:rb w0 b g M) {d p j} (A:p=O.Pd.length) (Y:rb w0 d j O.Pd) {f q k} (B:q=R.Pd.length) (Z:rb w0 f k R.Pd) :
    gV prog 215 #[vS b n g,.agg #[vS d p j],.agg #[vS f q k]] w0 (fun v w=>v=.bool r∧St w0 [] w []):=by
 subst z A B;unfold rK at h;refine gV.fn func215 fun e=>?_;have ax:=St.start w0;refine T ?_;intro aT aV ay aU aW U;obtain ⟨ap,W,ab⟩:=ob h;refine CW.jn [0,4,5] [0,1] [(21,.bool ap)] U (h1:=?_) (h2:=?_)
 · have h:=W;refine T ?_;intro aY aD h aX az;refine bH h ?_ ?_<;>intro _ h
   · exact rt
   refine T ?_;intro aO ak h aH aA;refine bH h ?_ ?_<;>intro _ h
   · exact rt
   refine T ?_;intro aP am h aI aB;exact rt
 intro e aJ aC;have h:=ab;refine gc h ?_ ?_<;>intro _ h
 · exact rt
 refine T ?_;intro aQ an h ar aw aK V;refine go ?_;obtain ⟨H,L,C⟩:=ob h;refine CW.mono (CW.lx [0,24,25] [0] [] 0 (fun I=>[(26,vI I)]) (RT prog f215.results (fun u=>.bool u) w0 []) V L (hb:=?_)) ?_
 · intro I e aL o G h;refine gc h ?_ ?_<;>intro _ h
   · refine gb h fun aR m h=>?_;obtain ⟨au,aE,hae,ai,aj⟩:=G.hZ (α:=Int) (i:=0) rfl m;subst hae;refine go ?_;obtain ⟨aq,l,ac⟩:=G.freeze (α:=Int) 0 rfl;obtain ⟨av,aF,aa,hae,af,_,_,K,ah⟩:=l.ju.idx m;cases hae;obtain rfl:=K;refine T ?_;intro aS ao h aM J;refine CW.fl [0,24,25,26,33] fun e=>?_;refine gc h ?_ ?_<;>intro _ h
     · exact rt
     refine go ?_;have ad:=J.iD (α:=Int) 0 rfl l;exact rt
   exact rt
 intro x e aN hM;rcases H with H | aG
 · obtain ⟨rfl,hM⟩:=hM;obtain ⟨e,rfl,ae⟩:=eo hM;rw [show e=iq e [] from rfl];have h:=C;exact rt
 obtain ⟨rfl,u,rfl,hM⟩:=hM;cases C;exact And.intro trivial hM
instance k_215:Ct prog 215:=⟨by kernel_rfl,@D8⟩
theorem zd {w0 N f g i r} (h:oZ N f g i=some r) :
    gV prog 323 #[vI f,vI g,vI i] w0 (fun v w=>v=vI r∧St w0 [] w []):=by
 unfold oZ at h;refine gV.fn func323 fun e=>?_;have b:=St.start w0;refine gs ?_;refine CW.region ?_;refine gs ?_;obtain ⟨j,d,h2⟩:=ob h;refine CW.jn [0,1,2] [] [(19,.bool j)] b (h1:=?_) (h2:=?_)
 · have h:=d;refine T ?_;intro B o h z k;refine bH h ?_ ?_<;>intro _ h
   · exact rt
   refine T ?_;intro C p h A l;refine bH h ?_ ?_<;>intro _ h
   · exact rt
   refine T ?_;intro G q h u m;exact rt
 intro e x n;have h:=h2;refine gc h ?_ ?_<;>intro _ h
 · exact rt
 exact rt
instance k_323:Ct prog 323:=⟨by kernel_rfl,@zd⟩
theorem H4 {w0 N B C r} (h:vz N B C=some r) {b i f} (k:i=B.length) (m:rb w0 b f B) {d j g} (l:j=C.length) (n:rb w0 d g C) :
    gV prog 289 #[vS b i f,vS d j g] w0 (fun v w=>v=.bool r∧St w0 [] w []):=by
 subst k l;unfold vz at h;refine gV.fn func289 fun e=>?_;have G:=St.start w0;refine gc h ?_ ?_<;>intro _ h
 · exact rt
 refine go ?_;obtain ⟨q,z,p⟩:=ob h;refine CW.mono (CW.lx [0,1] [] [] 0 (fun J=>[(5,vI J)]) (RT prog f289.results (fun u=>.bool u) w0 []) G z (hb:=?_)) ?_
 · intro J e ao o H h;refine gc h ?_ ?_<;>intro _ h
   · refine jK ?_;have Z:=H.drew;refine gb h fun ap I h=>?_;obtain ⟨am,an,K,rfl,M,ac,ad,rfl,R⟩:=m.idx I;refine go ?_;refine T ?_;have ⟨aj,A,h⟩:=ob h;obtain ⟨Y,ae,L,rfl,O,V,W,rfl,U⟩:=n.idx A;refine go ?_;refine T ?_;intro ak X h ah aa;refine gc h ?_ ?_<;>intro _ h
     · exact rt
     exact rt
   exact rt
 intro x e ai hM;rcases q with q | af
 · obtain ⟨rfl,hM⟩:=hM;obtain ⟨e,rfl,ab⟩:=eo hM;rw [show e=iq e [] from rfl];have h:=p;exact rt
 obtain ⟨rfl,u,rfl,hM⟩:=hM;cases p;exact And.intro trivial hM
instance k_289:Ct prog 289:=⟨by kernel_rfl,@H4⟩
theorem JK {w0 N b d r} (h:tK N b d=some r) {f z m} (I:z=b.gZ.length) (R:rb w0 f m b.gZ) {g A n} (J:A=b.Po.length) (U:rb w0 g n b.Po) {i B o} (K:B=b.Pk.length) (V:rb w0 i o b.Pk) {j C p} (L:C=d.gZ.length) (W:rb w0 j p d.gZ) {k G q} (M:G=d.Po.length) (X:rb w0 k q d.Po) {l H x} (O:H=d.Pk.length) (Y:rb w0 l x d.Pk) :
    gV prog 356 #[.agg #[vI b.Pw,vI b.Pf,vI b.box,vI b.Pu,vI b.iz,vI b.gE,vI b.Pq,vI b.iy,vI b.im,.bool b.Ps,vS f z m,vS g A n,vS i B o],.agg #[vI d.Pw,vI d.Pf,vI d.box,vI d.Pu,vI d.iz,vI d.gE,vI d.Pq,vI d.iy,vI d.im,.bool d.Ps,vS j C p,vS k G q,vS l H x]] w0 (fun v w=>v=.bool r∧St w0 [] w []):=by
 subst I J K L M O;unfold tK at h;refine gV.fn func356 fun e=>?_;have ac:=St.start w0;refine T ?_;intro aq au ad ar av ae;refine gc h ?_ ?_<;>intro _ h
 · exact rt
 refine jw [2,3,14] fun e=>?_;refine gc h ?_ ?_<;>intro _ h
 · exact rt
 refine gc h ?_ ?_<;>intro _ h
 · exact rt
 refine gc h ?_ ?_<;>intro _ h
 · exact rt
 refine jw [2,3,29] fun e=>?_;refine gc h ?_ ?_<;>intro _ h
 · exact rt
 refine gc h ?_ ?_<;>intro _ h
 · exact rt
 refine gc h ?_ ?_<;>intro _ h
 · exact rt
 refine jw [2,3,44] fun e=>?_;refine gc h ?_ ?_<;>intro _ h
 · exact rt
 refine gc h ?_ ?_<;>intro _ h
 · exact rt
 refine go ?_;refine LW.u (il.bne underlying4 rfl rfl) rfl ?_;refine gc h ?_ ?_<;>intro _ h
 · exact rt
 refine T ?_;intro an Z h aj af;refine CW.fl [2,3,60] fun e=>?_;refine gc h ?_ ?_<;>intro _ h
 · exact rt
 refine T ?_;intro ao aa h ak ah;refine gc h ?_ ?_<;>intro _ h
 · exact rt
 refine T ?_;intro ap ab h am ai;refine gc h ?_ ?_<;>intro _ h
 · exact rt
 exact rt
instance k_356:Ct prog 356:=⟨by kernel_rfl,@JK⟩
end Go.Kx
