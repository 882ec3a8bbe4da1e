import Derived.Test.YtdlodpchnaojhaaGreatWa5
namespace Go.Kx
open Go Go.RowKit Go.Proofs
open Go.IntKind (i64)
open Tryz
set_option maxRecDepth 10000
set_option maxHeartbeats 8000000
set_option linter.unusedVariables false
set_option linter.unusedSimpArgs false
theorem IW {w0 N p q r} (h:uj N p q=some r) {g m k} (u:m=p.NY.length) (z:rb w0 g k p.NY) {j n f} (x:n=q.NY.length) (A:rb w0 j f q.NY) :
    gV prog 294 #[.agg #[vS g m k],.agg #[vS j n f]] w0 (fun v w=>∃ B C,v=vS B r.length C∧St w0 [] w [sl B C r]):=by
 subst u x;unfold uj at h;refine gV.fn func294 fun e=>?_;have aq:=St.start w0;refine T ?_;intro aE aF ar H aG V;refine LW.b0 (α:=Int) V ?_;intro Z aa aH W hf;refine go ?_;obtain ⟨ax,I,U⟩:=ob h;refine CW.ie I 0 (fun l e wb=>∃ (b:Ad) (d:Nat),En e [(3,.pointer (some ⟨H,0,none⟩)),(5,vS b l.1.length d),(10,vS g p.NY.length k),(11,vI (p.NY.length:Int)),(12,vI l.2)]∧St w0 [] wb [sl b d l.1,bx H 34 [vS j q.NY.length f]]) ?_ ⟨Z,aa,W.po [0,1]⟩ ?_
 · intro l e aI o hM h;obtain ⟨b,d,hE,X⟩:=hM;obtain ⟨e,rfl⟩:=hE.out;refine gc h ?_ ?_<;>intro _ h
   · refine gb h fun aB J h=>?_;obtain ⟨ao,aw,ab,rfl,ad,ai,ak,rfl,af⟩:=z.idx J;refine go ?_;refine T ?_;have ⟨aC,K,h⟩:=ob h;obtain ⟨R,Y,ac,rfl,ae,aj,am,rfl,ah⟩:=A.idx K;refine go ?_;refine T ?_;refine CW.fl [3,5,6,10,11,12,23] fun e=>?_;refine gc h ?_ ?_<;>intro _ h
     · refine gb h fun aD O h=>?_;refine LW.j6 (M:=[]) (L:=[sl b d l.1,bx H 34 [vS (some ⟨R,Y,none⟩) q.NY.length f]]) (vs:=#[vI l.2]) (i:=0) pH rfl (by kernel_rfl) rfl rfl O X rfl (fun w G hG=>by cases (show G=[] from hG);exact ⟨rfl,rfl⟩) rfl rfl ?_;intro ay an ap az au hf;exact rt
     exact rt
   exact rt
 rintro e aA ⟨b,d,hE,av⟩;obtain ⟨e,rfl⟩:=hE.out;have h:=U;exact rt
instance k_294:Ct prog 294:=⟨by kernel_rfl,@IW⟩
theorem A0 {w0} {F:List Nat} {N g K z r} (h:pc N g K z=some r) {d q b} (x:q=g.length) (hS:St w0 F w0 [sl d b g]) :
    gV prog 235 #[vS d q b,vI K,vI z] w0 (fun v w=>∃ A B,v=vS A r.length B∧St w0 F w [sl A B r]):=by
 subst x;unfold pc at h;refine gV.fn func235 fun e=>?_;refine gb h fun aa n h=>?_;have f:=(hS.rI 0 rfl).le;refine LW.u (iq.Nd (α:=iL) (l:=g) underlying41 xf rfl rfl rfl rfl n f) rfl ?_;refine gc h ?_ ?_<;>intro C h
 · exact rt
 refine jA ?_;have I:=hS.drew;refine gb h fun M o h=>?_;obtain ⟨Y,Z,G,H⟩:∃ (a':Ad) (c':Nat),a'=mT d b ((0:Int).toNat) (hD.sz iL)∧c'=b - (0:Int).toNat:=⟨_,_,rfl,rfl⟩;refine AW.u (i:=2) rfl (by kernel_rfl) rfl rfl (iq.sub (α:=iL) (l:=g) underlying41 xf rfl uO (uN rfl) o f G H) ?_;refine gb h fun O p h=>?_;obtain ⟨R,U,j,m⟩:∃ (a':Ad) (c':Nat),a'=mT d b ((z:Int).toNat) (hD.sz iL)∧c'=b - (z:Int).toNat:=⟨_,_,rfl,rfl⟩;refine AW.u (i:=5) rfl (by kernel_rfl) rfl rfl (iq.sub (α:=iL) (l:=g) underlying41 xf rfl (uN rfl) uO p f j m) ?_;refine T ?_;refine LW.Nv tS I (k:=0) rfl n C o p rfl G H rfl j m rfl ?_;intro W J;refine T ?_;have L:=KW n C o p;refine LW.u (iq.Nk (α:=iL) underlying41 xf rfl rfl rfl (by omega) (by omega) (by omega)) rfl ?_;refine LW.NM (l:=(M++O)) tS J (k:=0) rfl rfl (by omega) (by omega) ?_;intro X V;exact rt
instance k_235:Ct prog 235:=⟨by kernel_rfl,@A0⟩
theorem vw {w0 N M O R r} (h:nt N M O R=some r) {b k g} (n:k=M.length) (Z:rb w0 b g M) {d l i} (p:l=O.NY.length) (z:rb w0 d i O.NY) {f m j} (q:m=R.NY.length) (A:rb w0 f j R.NY) :
    gV prog 151 #[vS b k g,.agg #[vS d l i],.agg #[vS f m j]] w0 (fun v w=>v=.bool r∧St w0 [] w []):=by
 subst n p q;unfold nt at h;refine gV.fn func151 fun e=>?_;have ay:=St.start w0;refine T ?_;intro aU aW az aV aX V;obtain ⟨av,X,ac⟩:=ob h;refine CW.jn [0,4,5] [0,1] [(20,.bool av)] V (h1:=?_) (h2:=?_)
 · have h:=X;refine T ?_;intro aZ aE h aY aA;refine bH h ?_ ?_<;>intro _ h
   · exact rt
   refine T ?_;intro aP aq h aI aB;refine bH h ?_ ?_<;>intro _ h
   · exact rt
   refine T ?_;intro aQ ar h aJ aC;exact rt
 intro e aK W;have h:=ac;refine gc h ?_ ?_<;>intro _ h
 · exact rt
 refine go ?_;obtain ⟨G,J,B⟩:=ob h;refine CW.mono (CW.lx [0,4,5] [0,1] [] 0 (fun H=>[(7,vI H)]) (RT prog f151.results (fun u=>.bool u) w0 []) W J (hb:=?_)) ?_
 · intro H e aL o C h;refine gc h ?_ ?_<;>intro _ h
   · refine gs ?_;refine CW.block ?_;refine gs ?_;obtain ⟨Y,I,U⟩:=ob h;refine CW.jn [0,4,5,7] [0,1] [(41,.bool Y)] C (h1:=?_) (h2:=?_)
     · have h:=I;refine dW ?_;have aD:=C.drew;refine gb h fun aR K h=>?_;obtain ⟨aw,aF,aa,rfl,ah,am,ao,rfl,aj⟩:=z.idx K;refine go ?_;refine T ?_;have ⟨aS,L,h⟩:=ob h;obtain ⟨ax,aG,ab,rfl,ai,an,ap,rfl,ak⟩:=A.idx L;refine go ?_;refine T ?_;refine bH h ?_ ?_<;>intro _ h
       · refine T ?_;intro aT au h aM ad;exact rt
       exact rt
     intro e aN ae;have h:=U;refine gc h ?_ ?_<;>intro _ h
     · exact rt
     exact rt
   exact rt
 intro x e aO hM;rcases G with G | aH
 · obtain ⟨rfl,hM⟩:=hM;obtain ⟨e,rfl,af⟩:=eo hM;rw [show e=im e [] from rfl];have h:=B;exact rt
 obtain ⟨rfl,u,rfl,hM⟩:=hM;cases B;exact And.intro trivial hM
instance k_151:Ct prog 151:=⟨by kernel_rfl,@vw⟩
theorem xQ {w0 N M O R r} (h:o9 N M O R=some r) {b n g} (z:n=M.length) (X:rb w0 b g M) {d p j} (A:p=O.NY.length) (Y:rb w0 d j O.NY) {f q k} (B:q=R.NY.length) (Z:rb w0 f k R.NY) :
    gV prog 225 #[vS b n g,.agg #[vS d p j],.agg #[vS f q k]] w0 (fun v w=>v=.bool r∧St w0 [] w []):=by
 subst z A B;unfold o9 at h;refine gV.fn func225 fun e=>?_;have ax:=St.start w0;refine T ?_;intro aT aV ay aU aW U;obtain ⟨ap,W,ab⟩:=ob h;refine CW.jn [0,4,5] [0,1] [(21,.bool ap)] U (h1:=?_) (h2:=?_)
 · have h:=W;refine T ?_;intro aY aD h aX az;refine bH h ?_ ?_<;>intro _ h
   · exact rt
   refine T ?_;intro aO ak h aH aA;refine bH h ?_ ?_<;>intro _ h
   · exact rt
   refine T ?_;intro aP am h aI aB;exact rt
 intro e aJ aC;have h:=ab;refine gc h ?_ ?_<;>intro _ h
 · exact rt
 refine T ?_;intro aQ an h ar aw aK V;refine go ?_;obtain ⟨H,L,C⟩:=ob h;refine CW.mono (CW.lx [0,24,25] [0] [] 0 (fun I=>[(26,vI I)]) (RT prog f225.results (fun u=>.bool u) w0 []) V L (hb:=?_)) ?_
 · intro I e aL o G h;refine gc h ?_ ?_<;>intro _ h
   · refine gb h fun aR m h=>?_;obtain ⟨au,aE,hae,ai,aj⟩:=G.hZ (α:=Int) (i:=0) rfl m;subst hae;refine go ?_;obtain ⟨aq,l,ac⟩:=G.freeze (α:=Int) 0 rfl;obtain ⟨av,aF,aa,hae,af,_,_,K,ah⟩:=l.jk.idx m;cases hae;obtain rfl:=K;refine T ?_;intro aS ao h aM J;refine CW.fl [0,24,25,26,33] fun e=>?_;refine gc h ?_ ?_<;>intro _ h
     · exact rt
     refine go ?_;have ad:=J.iz (α:=Int) 0 rfl l;exact rt
   exact rt
 intro x e aN hM;rcases H with H | aG
 · obtain ⟨rfl,hM⟩:=hM;obtain ⟨e,rfl,ae⟩:=eo hM;rw [show e=im e [] from rfl];have h:=C;exact rt
 obtain ⟨rfl,u,rfl,hM⟩:=hM;cases C;exact And.intro trivial hM
instance k_225:Ct prog 225:=⟨by kernel_rfl,@xQ⟩
theorem yq {w0 N f g i r} (h:oP N f g i=some r) :
    gV prog 296 #[vI f,vI g,vI i] w0 (fun v w=>v=vI r∧St w0 [] w []):=by
 unfold oP at h;refine gV.fn func296 fun e=>?_;have b:=St.start w0;refine gs ?_;refine CW.region ?_;refine gs ?_;obtain ⟨j,d,h2⟩:=ob h;refine CW.jn [0,1,2] [] [(19,.bool j)] b (h1:=?_) (h2:=?_)
 · have h:=d;refine T ?_;intro B o h z k;refine bH h ?_ ?_<;>intro _ h
   · exact rt
   refine T ?_;intro C p h A l;refine bH h ?_ ?_<;>intro _ h
   · exact rt
   refine T ?_;intro G q h u m;exact rt
 intro e x n;have h:=h2;refine gc h ?_ ?_<;>intro _ h
 · exact rt
 exact rt
instance k_296:Ct prog 296:=⟨by kernel_rfl,@yq⟩
theorem Cj {w0 N l p f r} (h:pY N l p f=some r) {g j i} (k:j=l.parts.length) (q:rb w0 g i l.parts) :
    gV prog 79 #[.agg #[vI l.Oc,vS g j i],vI p,.agg #[vI f.N0,vI f.a,vI f.b,vI f.c,vI f.d,vI f.e]] w0 (fun v w=>v=vI r∧St w0 [] w []):=by
 subst k;unfold pY at h;refine gV.fn func79 fun e=>?_;have G:=St.start w0;refine T ?_;intro X Z H Y aa m;obtain ⟨B,n,u⟩:=ob h;refine CW.jn [3] [1] [(7,vI B)] m (h1:=?_) (h2:=?_)
 · have h:=n;refine CW.block ?_;refine gs ?_;refine CW.region ?_;refine gs ?_;obtain ⟨C,o,x⟩:=ob h;refine CW.jn [3,5,7,10] [0,1] [(11,.bool C)] m (h1:=?_) (h2:=?_)
   · have h:=o;refine gc h ?_ ?_<;>intro _ h
     · exact rt
     exact rt
   intro e M I;have h:=x;refine gc h ?_ ?_<;>intro _ h
   · refine T ?_;intro V z h O J;exact rt
   refine gc h ?_ ?_<;>intro _ h
   · exact rt
   exact rt
 intro e R K;have h:=u;refine T ?_;intro W A h U L;refine CW.fl [7,27] fun e=>?_;refine gc h ?_ ?_<;>intro _ h
 · exact rt
 exact rt
instance k_79:Ct prog 79:=⟨by kernel_rfl,@Cj⟩
theorem Gm {w0 N b d r} (h:rJ N b d=some r) :
    gV prog 184 #[.agg #[vI b.gE,vI b.gT,vI b.g8],.agg #[vI d.gE,vI d.gT,vI d.g8]] w0 (fun v w=>v=.tuple #[.agg #[vI r.1.gE,vI r.1.gT,vI r.1.g8],.bool r.2]∧St w0 [] w []):=by
 unfold rJ at h;refine gV.fn func184 fun e=>?_;have u:=St.start w0;refine T ?_;intro aa ad x ab ae z ac af f;obtain ⟨q,g,i⟩:=ob h;refine CW.jn [2,3,4] [0,1,2] [(20,.bool q)] f (h1:=?_) (h2:=?_)
 · have h:=g;refine T ?_;intro ah I h J A;refine bH h ?_ ?_<;>intro _ h
   · exact rt
   refine T ?_;intro W m h K B;refine bH h ?_ ?_<;>intro _ h
   · exact rt
   refine T ?_;intro X n h L C Y o h M G;exact rt
 intro e O H;have h:=i;refine gc h ?_ ?_<;>intro _ h
 · refine T ?_;intro R j;exact rt
 refine T ?_;intro Z p h U k V l;exact rt
instance k_184:Ct prog 184:=⟨by kernel_rfl,@Gm⟩
theorem Cn {w0 N l p f r} (h:pP N l p f=some r) {g j i} (k:j=l.parts.length) (q:rb w0 g i l.parts) :
    gV prog 72 #[.agg #[vI l.Oc,vS g j i],vI p,.agg #[vI f.N0,vI f.a,vI f.b,vI f.c,vI f.d,vI f.e]] w0 (fun v w=>v=vI r∧St w0 [] w []):=by
 subst k;unfold pP at h;refine gV.fn func72 fun e=>?_;have G:=St.start w0;refine T ?_;intro X Z H Y aa m;obtain ⟨B,n,u⟩:=ob h;refine CW.jn [3] [1] [(7,vI B)] m (h1:=?_) (h2:=?_)
 · have h:=n;refine CW.block ?_;refine gs ?_;refine CW.region ?_;refine gs ?_;obtain ⟨C,o,x⟩:=ob h;refine CW.jn [3,5,7,10] [0,1] [(11,.bool C)] m (h1:=?_) (h2:=?_)
   · have h:=o;refine gc h ?_ ?_<;>intro _ h
     · exact rt
     exact rt
   intro e M I;have h:=x;refine gc h ?_ ?_<;>intro _ h
   · refine T ?_;intro V z h O J;exact rt
   refine gc h ?_ ?_<;>intro _ h
   · exact rt
   exact rt
 intro e R K;have h:=u;refine T ?_;intro W A h U L;refine gc h ?_ ?_<;>intro _ h
 · exact rt
 exact rt
instance k_72:Ct prog 72:=⟨by kernel_rfl,@Cn⟩
theorem zi {w0 N j q u x r} (h:oG N j q u x=some r) {d g f} (i:g=j.parts.length) (b:rb w0 d f j.parts) :
    gV prog 142 #[.agg #[vI j.Oc,vS d g f],vI q,vI u,vI x] w0 (fun v w=>v=.bool r∧St w0 [] w []):=by
 subst i;unfold oG at h;refine gV.fn func142 fun e=>?_;have a3:=St.start w0;refine T ?_;intro bf bi o;refine dW ?_;have a4:=o.drew;refine gb h fun bj p h=>?_;obtain ⟨be,bg,a2,rfl,B,a6,a7,⟨ao,aK,ap,aL,aq,aM,ar,aN,au,aO,av,aP,rfl,R,U,V,W,X,Y⟩,H⟩:=b.idx p;refine go ?_;refine T ?_;have ⟨bb,m,h⟩:=ob h;obtain ⟨aI,a8,z,hae,C,K,M,k,I⟩:=b.idx m;cases hae;obtain ⟨aw,aQ,ax,aR,ay,aS,az,aT,aA,aU,aB,aV,rfl,Z,aa,ab,ac,ad,ae⟩:=k;refine go ?_;refine T ?_;have ⟨bc,n,h⟩:=ob h;obtain ⟨aJ,a9,A,hae,G,L,O,l,J⟩:=b.idx n;cases hae;obtain ⟨aC,aW,aD,aX,aE,aY,aF,aZ,aG,a0,aH,a1,rfl,af,ah,ai,aj,ak,am⟩:=l;refine go ?_;refine T ?_;intro bd an h ba a5;exact rt
instance k_142:Ct prog 142:=⟨by kernel_rfl,@zi⟩
theorem yY {w0 N g r} (h:mi N g=some r) {J R u} (X:R=g.parts.length) (Y:rb w0 J u g.parts) :
    gV prog 77 #[.agg #[vI g.Oc,vS J R u]] w0 (fun v w=>∃ K O,v=.agg #[vI r.Oc,vS K r.parts.length O]∧St w0 [] w [sl K O r.parts]):=by
 subst X;unfold mi at h;refine gV.fn func77 fun e=>?_;have aU:=St.start w0;refine T ?_;intro U a8 aV V a9 aW;refine LW.bd [(0,vI g.Oc)] #[vI g.Oc,vS none 0 0] ?_;refine T ?_;intro W ba aX bb aj;refine go ?_;have ak:=aj.nil (α:=cd);obtain ⟨aZ,ae,ai⟩:=ob h;refine CW.ie ae 0 (fun I e wb=>∃ (d:Ad) (f:Nat),En e [(1,.pointer (some ⟨U,0,none⟩)),(2,.pointer (some ⟨V,0,none⟩)),(3,.pointer (some ⟨W,0,none⟩)),(4,vI I.1)]∧St w0 [] wb [bx W 26 [vI g.Oc,vS d I.2.length f],bx V 26 [vI 0,vS none 0 0],bx U 26 [vI g.Oc,vS J g.parts.length u],sl d f I.2]) ?_ ⟨none,0,ak.po [1,2,3,0]⟩ ?_
 · intro I e bc o hM h;obtain ⟨d,f,hE,am⟩:=hM;obtain ⟨e,rfl⟩:=hE.out;refine jE [1,2,3,4,12] fun e=>?_;refine gc h ?_ ?_<;>intro _ h
   · refine jA ?_;have aY:=am.drew;refine gb h fun a6 af h=>?_;obtain ⟨Z,ab,ao,rfl,av,ax,ay,⟨aG,aN,aH,aO,aI,aP,aJ,aQ,aK,aR,aL,aS,rfl,az,aA,aB,aC,aD,aE⟩,aw⟩:=Y.idx af;refine go ?_;refine T ?_;intro b aF h k x l z m A n B p C q H a0 an;refine LW.LX (vs:=#[vS k b.NZ.NY.length x,vS l b.own.length z,vS m b.N1.length A,vS n b.py.ag.length B,vI b.py.gc.N2,vI b.py.gc.Oa,vI b.py.gc.N3,vS p b.py.gc.gQ.length C,vS q b.gR.length H,vI b.N6,vI b.N7,vI b.bh.gE,vI b.bh.gT,vI b.bh.g8,vI b.gW,vI b.N5]) Bi rfl (by kernel_rfl) an rfl ?_;intro aa a1 ac hf;refine T ?_;have ad:=ac.pk (M:=[sl k x b.NZ.NY,sl l z b.own,sl m A b.N1,sl n B b.py.ag,sl p C b.py.gc.gQ,sl q H b.gR]++[bx aa 45 (qP k x l z m A n B p C q H b),bx W 26 [vI g.Oc,vS d I.2.length f],bx V 26 [vI 0,vS none 0 0],bx U 26 [vI g.Oc,vS (some ⟨Z,ab,none⟩) g.parts.length u],sl d f I.2]) [1,2,3,4,5,6,0,7,8,9,10];have ⟨a7,ah,h⟩:=ob h;refine T ?_;refine LW.CY (M:=[sl k x b.NZ.NY,sl l z b.own,sl m A b.N1,sl n B b.py.ag,sl p C b.py.gc.gQ,sl q H b.gR]) (L:=[bx aa 45 (qP k x l z m A n B p C q H b),bx W 26 [vI g.Oc,vS d I.2.length f],bx V 26 [vI 0,vS none 0 0],bx U 26 [vI g.Oc,vS (some ⟨Z,ab,none⟩) g.parts.length u],sl d f I.2]) (vs:=(qP k x l z m A n B p C q H b)) (i:=4) (j:=0) Bi rfl rfl ah ad rfl rfl (fun w G hG=>⟨k,x,l,z,m,A,n,B,p,C,q,H,rfl,hG⟩) rfl ?_
     intro aM aT a2 ap hf;refine T ?_;intro a3 aq;exact rt
   exact rt
 rintro e a4 ⟨d,f,hE,ar⟩;obtain ⟨e,rfl⟩:=hE.out;have h:=ai;refine T ?_;intro a5 au;exact rt
instance k_77:Ct prog 77:=⟨by kernel_rfl,@yY⟩
theorem Cf {w0} {F:List Nat} {N M af aM f r} (h:pK N M af aM f=some r) {am:Nat} {O k} (hS:St w0 F w0 [bx am 26 [vI M.Oc,vS O M.parts.length k],sl O k M.parts]) :
    gV prog 75 #[.pointer (some ⟨am,0,none⟩),vI af,vI aM,.agg #[vI f.N0,vI f.a,vI f.b,vI f.c,vI f.d,vI f.e]] w0 (fun v w=>∃ B L,v=.tuple #[vI r.1,vI r.2.1]∧St w0 F w [bx am 26 [vI r.2.2.Oc,vS B r.2.2.parts.length L],sl B L r.2.2.parts]):=by
 unfold pK at h;refine gV.fn func75 fun e=>?_;refine T ?_;intro b2 b4 bI;refine LW.u (iq.quo rfl rfl (by decide)) rfl ?_;refine go ?_;refine LW.u (iq.rem rfl rfl (by decide)) rfl ?_;refine jj [(0,vI f.a),(1,vI f.b),(2,vI f.c),(3,vI (i64.wrap (Int.tdiv f.d 10))),(4,vI (Int.tmod f.d 10)),(5,vI f.e)] #[vI f.a,vI f.b,vI f.c,vI (i64.wrap (Int.tdiv f.d 10)),vI (Int.tmod f.d 10),vI f.e] ?_;refine T ?_;intro b3 b5 bJ b6 aj;refine LW.u (iq.nc rfl) rfl ?_;refine go ?_;have ⟨g,ac,h⟩:=ob h;obtain ⟨U,n,hae,bM,bN⟩:=aj.hZ (α:=cd) (i:=3) rfl ac;subst hae;refine gs ?_;refine CW.block ?_;refine gs ?_;obtain ⟨aL,aD,aI⟩:=ob h;refine CW.jn [0,1,2,7,10,11] [0,1,2,3] [(33,.bool aL)] aj (h1:=?_) (h2:=?_)
 · have h:=aD;refine gB h ?_ ?_<;>intro _ h
   · exact rt
   refine T ?_;intro bY bb h bR bK;exact rt
 intro e bS aJ;have h:=aI;refine gc h ?_ ?_<;>intro _ h
 · refine go ?_;replace h:=oi h;subst h;exact Rc tt tt ⟨(some ⟨U,n,none⟩),k,rfl,aJ.pk [2,3]⟩
 refine go ?_;refine LW.u (iq.nc rfl) rfl ?_;refine T ?_;intro bZ bc h bT ak;refine gc h ?_ ?_<;>intro _ h
 · refine go ?_;replace h:=oi h;subst h;exact Rc tt tt ⟨(some ⟨U,n,none⟩),k,rfl,ak.pk [2,3]⟩
 refine jA ?_;have aK:=ak.drew;refine go ?_;obtain ⟨be,o,bL⟩:=aK.freeze (α:=cd) 3 rfl;obtain ⟨bs,bO,aW,hae,ay,_,_,aA,aE⟩:=o.jk.idx ac;cases hae;obtain ⟨p,C,q,H,x,I,z,J,A,K,R,V,rfl,a2,a3,a4,a5,a6,a7⟩:=aA;refine T ?_;intro b0 bd h bU aa;refine gc h ?_ ?_<;>intro _ h
 · refine go ?_;replace h:=oi h;subst h;have ao:=aa.iz (α:=cd) 3 rfl o;exact Rc tt tt ⟨(some ⟨U,n,none⟩),k,rfl,ao.pk [2,3]⟩
 refine go ?_;refine LW.u (iq.nc rfl) rfl ?_;refine T ?_;refine CW.fl [0,10,11,60] fun e=>?_;refine gc h ?_ ?_<;>intro _ h
 · refine go ?_;replace h:=oi h;subst h;have ap:=aa.iz (α:=cd) 3 rfl o;exact Rc tt tt ⟨(some ⟨U,n,none⟩),k,rfl,ap.pk [2,3]⟩
 refine jA ?_;have aq:=aa.drew;refine T ?_;refine LW.xI (α:=iL) (vs:=[(0,.agg #[vI f.a,vI f.b,vI f.c,vI (i64.wrap (Int.tdiv f.d 10)),vI (Int.tmod f.d 10),vI f.e])]) (cs:=#[vI f.a,vI f.b,vI f.c,vI (i64.wrap (Int.tdiv f.d 10)),vI (Int.tmod f.d 10),vI f.e]) (l:=([iL.mk f.a f.b f.c (i64.wrap (Int.tdiv f.d 10)) (Int.tmod f.d 10) f.e]:List iL)) rfl (by kernel_rfl) rfl rfl rfl (fun w=>⟨[vI f.a,vI f.b,vI f.c,vI (i64.wrap (Int.tdiv f.d 10)),vI (Int.tmod f.d 10),vI f.e],[],[],[],rfl,rfl,⟨rfl,rfl⟩,rfl⟩) aq rfl ?_;intro bg bv bV W hf;refine T ?_;have aF:=fun (j:Nat) (u:Value) (hu:((qP p C q H x I z J A K R V g):List Value)[j]?=some u)=>(World.cell?_of_block (W.zC 4 rfl ay)).trans (aE j u hu);have ar:=W.iz (α:=cd) 4 rfl o;obtain ⟨aQ,aG,aC⟩:=ar.focus (α:=cd) (cs:=[vS p g.NZ.NY.length C,vS q g.own.length H,vS x g.N1.length I,vS z g.py.ag.length J,vI g.py.gc.N2,vI g.py.gc.Oa,vI g.py.gc.N3,vS A g.py.gc.gQ.length K,vS R g.gR.length V,vI g.N6,vI g.N7,vI g.bh.gE,vI g.bh.gT,vI g.bh.g8,vI g.gW,vI g.N5]) 4 rfl ac rfl aF;obtain ⟨bi,bw,bj,bz,bk,bA,bl,bB,bm,bC,bn,bD,az,an⟩:=aG;cases az;have X:=aC [sl p C g.NZ.NY,sl q H g.own,sl x I g.N1,sl z J g.py.ag,sl A K g.py.gc.gQ,sl R V g.gR] an;have ⟨ae,aH,h⟩:=ob h;refine T ?_;refine LW.jG (l:=g.gR) (m:=([iL.mk f.a f.b f.c (i64.wrap (Int.tdiv f.d 10)) (Int.tmod f.d 10) f.e]:List iL)) tS rfl rfl (X.rI 6 rfl) aH X (i:=5) rfl rfl ?_;intro ah ai bW au hf;refine T ?_;refine LW.vN (α:=cd) (vs:=[vS ah ae.length ai]) au 10 rfl zL rfl (by show _=n+(af:Int).toNat * 16+8;omega) rfl rfl rfl rfl ?_;intro bX av hf;refine T ?_;have aw:=av.nC (cd.mk g.NZ g.own g.N1 g.py ae g.N6 g.N7 g.bh g.gW g.N5) [0,1,2,3,4,5,6,7,8,9,10] 6 4 rfl rfl (fun w G hG=>⟨p,C,q,H,x,I,z,J,A,K,ah,ai,rfl,hG⟩);refine dW ?_;have Y:=aw.drew;refine gb h fun b1 ad h=>?_;obtain ⟨bt,bP,hae,a0,a1⟩:=Y.hZ (α:=cd) (i:=4) rfl ad;cases hae;obtain ⟨bf,ab,ax⟩:=Y.freeze (α:=cd) 4 rfl;obtain ⟨bu,bQ,aX,hae,aY,_,_,aB,aZ⟩:=ab.jk.idx ad;cases hae;obtain ⟨bo,bE,bp,bF,bq,bG,br,aT,aR,aU,aS,aV,rfl,a8,a9,ba,aN,aO,aP⟩:=aB;refine T ?_;replace h:=oi h;subst h;have Z:=ax.iz (α:=cd) 4 rfl ab;rw [show M.parts.length=(M.parts.set (af:Int).toNat (cd.mk g.NZ g.own g.N1 g.py ae g.N6 g.N7 g.bh g.gW g.N5)).length from (gZ rfl)] at Z;exact Rc tt tt ⟨(some ⟨U,n,none⟩),k,rfl,Z.pk [3,4]⟩
instance k_75:Ct prog 75:=⟨by kernel_rfl,@Cf⟩
end Go.Kx
