import Derived.Test.YtlcgibcdiikheaaGreatWa39
import Derived.Test.YtlcgibcdiikheaaGreatWa40
namespace Go.Kx
open Go Go.RowKit Go.Proofs
open Go.IntKind (i64)
open Tryz
set_option maxRecDepth 10000
set_option maxHeartbeats 8000000
set_option linter.unusedVariables false
set_option linter.unusedSimpArgs false
theorem tI {w0} {F:List Nat} {N q L r} (h:nR N q L=some r) {A:Nat} {d f} (g:iy (ja w0 F) w0 d f q.b) {k I n} (J:I=L.length) (K:iy (ja w0 F) w0 k n L) (hS:St w0 F w0 [bx A 177 [vS d q.b.length f,vI q.i,vI q.h]]) :
    gZ prog 113 #[.pointer (some ⟨A,0,none⟩),vS k I n] w0 (fun v w=>∃ x z,v=.agg #[vS x r.1.Hz.length z]∧St w0 F w [bx A 177 [vS d q.b.length f,vI r.2.i,vI r.2.h]]∧iy (ja w []) w x z r.1.Hz):=by
 subst J;unfold nR at h;refine gZ.fn func113 fun e=>?_;refine go ?_;refine LW.al hS fun ae aH M=>?_;refine gs ?_;obtain ⟨Z,ai,am⟩:=ob h;refine CW.cut (fun e wb=>En e [(0,.pointer (some ⟨A,0,none⟩)),(1,vS k L.length n),(4,.pointer (some ⟨ae,0,none⟩)),(12,.bool Z.1)]∧St w0 F wb [bx ae 39 [vS none 0 0],bx A 177 [vS d q.b.length f,vI Z.2.1,vI Z.2.2]]) ?_ ?_
 · have h:=ai;refine gB h ?_ ?_<;>intro _ h
   · refine gb h fun aJ aj h=>?_;obtain ⟨aG,B⟩:=M.lf [1] [0];refine go ?_;refine LW.cl (pV aj (B.rB g) B.st) ?_;rintro _ aI ⟨rfl,hs⟩;have af:=B.back _ _ hs;refine go ?_;cases oi h;exact af.po [1,0]
   refine go ?_;cases oi h;exact M.po [0,1]
 rintro e ay ⟨hE,O⟩;obtain ⟨e,rfl⟩:=hE.out;have h:=am;refine gc h ?_ ?_<;>intro _ h
 · refine gb h fun aD W h=>?_;obtain ⟨aq,o⟩:=O.lf [1] [0];refine LW.cl (mr W (o.rB g) o.st) ?_;rintro _ az ⟨rfl,hs⟩;have R:=o.back _ _ hs;have ⟨aE,X,h⟩:=ob h;obtain ⟨av,ax,ak,rfl,H,an,ao,⟨aa,ac,au,aw,rfl,V,ap⟩,U⟩:=K.idx X;refine go ?_;refine LW.l (jb.pZ w0 pS rfl rfl (fun j u hu=>tw (m:=1) U 0 hu)) (R.same _ H.1 H.2) rfl ?_;refine LW.st R 1 fun aA C=>?_;refine go ?_;replace h:=oi h;subst h;exact And.intro trivial ⟨_,jM.one (hP.b C 1 rfl pS rfl rfl),aa,ac,rfl,C.pk [0],(C.rB V)⟩
 refine gb h fun aF Y h=>?_;obtain ⟨ar,p⟩:=O.lf [1] [0];refine LW.cl (xm Y (p.rB g) p.st) ?_;rintro _ aB ⟨ab,ad,rfl,hs⟩;have ah:=p.back _ _ hs;refine LW.st ah 2 fun aC G=>?_;refine go ?_;replace h:=oi h;subst h;exact And.intro trivial ⟨_,jM.one (hP.b G 2 rfl pS rfl rfl),ab,ad,rfl,G.pk [1],(G.rI 0 rfl)⟩
instance k_113:Ct prog 113:=⟨by kernel_rfl,@tI⟩
theorem AM {w0 N b r} (h:kH N b=some r) {d A l} (J:A=b.HB.Hz.length) (ad:rb w0 d l b.HB.Hz) {f B m} (K:B=b.own.length) (ae:rb w0 f m b.own) {g C n} (L:C=b.HC.length) (af:rb w0 g n b.HC) {i G p} (M:G=b.py.ag.length) (ah:rb w0 i p b.py.ag) {j H q} (O:H=b.py.gc.gQ.length) (ai:rb w0 j q b.py.gc.gQ) {k I z} (R:I=b.gR.length) (U:rb w0 k z b.gR) :
    gZ prog 92 #[.agg #[vS d A l,vS f B m,vS g C n,vS i G p,vI b.py.gc.HD,vI b.py.gc.HL,vI b.py.gc.HF,vS j H q,vS k I z,vI b.HH,vI b.HJ,vI b.gP.gE,vI b.gP.gV,vI b.gP.hY,vI b.g8,vI b.HG]] w0 (fun v w=>v=.bool r∧St w0 [] w []):=by
 subst J K L M O R;unfold kH at h;refine gZ.fn func92 fun e=>?_;have aH:=St.start w0;refine T ?_;intro bd be ab;obtain ⟨aF,ac,ak⟩:=ob h;refine CW.jn [1] [0] [(61,.bool aF)] ab (h1:=?_) (h2:=?_)
 · have h:=ac;refine T ?_;intro bi aP h bf aI;refine bH h ?_ ?_<;>intro _ h
   · exact rt
   refine T ?_;intro bj aQ h bg aJ;refine bH h ?_ ?_<;>intro _ h
   · exact rt
   refine T ?_;intro a4 ax h aT aK;refine bH h ?_ ?_<;>intro _ h
   · exact rt
   refine T ?_;intro a5 ay h aU aL;refine bH h ?_ ?_<;>intro _ h
   · exact rt
   refine gB h ?_ ?_<;>intro _ h
   · exact rt
   refine T ?_;intro a6 az h aV aM;refine bH h ?_ ?_<;>intro _ h
   · exact rt
   refine T ?_;intro a7 aA h aW aN;refine bH h ?_ ?_<;>intro _ h
   · exact rt
   refine T ?_;intro a8 aB h aX aO;refine bH h ?_ ?_<;>intro _ h
   · exact rt
   refine T ?_;intro a9 aC h aY am;refine bH h ?_ ?_<;>intro _ h
   · exact rt
   refine T ?_;intro ba aD h aZ an;exact rt
 intro e a0 Y;have h:=ak;refine gc h ?_ ?_<;>intro _ h
 · exact rt
 refine go ?_;obtain ⟨W,Z,V⟩:=ob h;refine CW.mono (CW.lx [1] [0] [] 0 (fun X=>[(3,vI X)]) (RT prog f92.results (fun u=>.bool u) w0 []) Y Z (hb:=?_)) ?_
 · intro X e a1 o ao h;refine gc h ?_ ?_<;>intro _ h
   · refine gb h fun bb aa h=>?_;obtain ⟨aG,aR,aj,rfl,ar,av,aw,rfl,au⟩:=U.idx aa;refine go ?_;refine T ?_;intro bc aE h a2 ap;refine CW.fl [1,3,75] fun e=>?_;refine gc h ?_ ?_<;>intro _ h
     · exact rt
     exact rt
   exact rt
 intro x e a3 hM;rcases W with W | aS
 · obtain ⟨rfl,hM⟩:=hM;obtain ⟨e,rfl,aq⟩:=eo hM;rw [show e=ij e [] from rfl];have h:=V;exact rt
 obtain ⟨rfl,u,rfl,hM⟩:=hM;cases V;exact And.intro trivial hM
instance k_92:Ct prog 92:=⟨by kernel_rfl,@AM⟩
theorem zl {w0 N b r} (h:oS N b=some r) {f B n} (K:B=b.HB.Hz.length) (X:rb w0 f n b.HB.Hz) {g C o} (L:C=b.own.length) (Y:rb w0 g o b.own) {j G q} (M:G=b.HC.length) (Z:rb w0 j q b.HC) {k H x} (O:H=b.py.ag.length) (aa:rb w0 k x b.py.ag) {l I z} (R:I=b.py.gc.gQ.length) (ab:rb w0 l z b.py.gc.gQ) {m J A} (U:J=b.gR.length) (ac:rb w0 m A b.gR) :
    gZ prog 181 #[.agg #[vS f B n,vS g C o,vS j G q,vS k H x,vI b.py.gc.HD,vI b.py.gc.HL,vI b.py.gc.HF,vS l I z,vS m J A,vI b.HH,vI b.HJ,vI b.gP.gE,vI b.gP.gV,vI b.gP.hY,vI b.g8,vI b.HG]] w0 (fun v w=>v=.agg #[vI r.gE,vI r.gV,vI r.hY]∧St w0 [] w []):=by
 subst K L M O R U;unfold oS at h;refine gZ.fn func181 fun e=>?_;have ai:=St.start w0;refine T ?_;intro az aC aj aA aD ak d ar h aE am aB aF an aG ao ay af h au W;refine gc h ?_ ?_<;>intro _ h
 · refine T ?_;intro av ap;exact rt
 refine kG ?_;have aq:=W.drew;refine go ?_;refine jP 3 ?_;refine T ?_;intro V ah h aw ad;refine AW.u (i:=8) rfl (by kernel_rfl) rfl rfl (iI.p rfl) ?_;refine AW.u (i:=21) rfl (by kernel_rfl) rfl rfl (iI.build (vs:=[(0,vI (i64.wrap ((i64.wrap (d.gE+V))+b.gP.gE))),(1,vI (i64.wrap (d.gV+b.gP.gV))),(2,vI (i64.wrap (d.hY+b.gP.hY)))]) (cs:=#[vI (i64.wrap ((i64.wrap (d.gE+V))+b.gP.gE)),vI (i64.wrap (d.gV+b.gP.gV)),vI (i64.wrap (d.hY+b.gP.hY))]) rfl (by kernel_rfl)) ?_;refine T ?_;intro ax ae;exact rt
instance k_181:Ct prog 181:=⟨by kernel_rfl,@zl⟩
theorem uH {w0 N H I x r} (h:kA N H I x=some r) {f o j} (q:o=H.length) (u:rb w0 f j H) :
    gZ prog 263 #[vS f o j,vI I,.agg #[vI x.gE,vI x.gV,vI x.hY]] w0 (fun v w=>∃ z A,v=.tuple #[vS z r.1.length A,.bool r.2]∧St w0 [] w [sl z A r.1]):=by
 subst q;unfold kA at h;refine gZ.fn func263 fun e=>?_;have ah:=St.start w0;refine T ?_;intro aG aH ai J aq h K k aI aj aK ar h aJ M;refine gc h ?_ ?_<;>intro _ h
 · exact rt
 refine gs ?_;obtain ⟨d,C,L⟩:=ob h;refine CW.cut (fun e wb=>∃ (b:Nat),En e [(1,vI I),(8,vS K J.length k),(9,.pointer (some ⟨b,0,none⟩)),(10,.bool d.2.2.2)]∧St w0 [] wb [sl K k J,bx b 48 [vI d.1,vI d.2.1,vI d.2.2.1]]) ?_ ?_
 · have h:=C;refine dW ?_;have ak:=M.drew;refine gb h fun aD G h=>?_;obtain ⟨ad,au,R,rfl,W,Y,aa,rfl,X⟩:=u.idx G;refine go ?_;refine T ?_;have ⟨aE,ac,h⟩:=ob h;refine AW.all (rs:=[6,10]) (by kernel_rfl) (by simp) ⟨?_,?_,trivial⟩
   · refine oA ?_;refine T ?_;intro av am ae aw an ax ao;exact rt
   refine oA ?_;refine T ?_;intro af ay ap;refine jP 6 ?_;refine T ?_;intro az U aA V;exact rt
 rintro e aB ⟨b,hE,l⟩;obtain ⟨e,rfl⟩:=hE.out;have h:=L;refine gc h ?_ ?_<;>intro _ h
 · exact rt
 refine gb h fun aF m h=>?_;obtain ⟨g,p,hae,Z,ab⟩:=l.im (α:=gW) (i:=0) rfl m;subst hae;refine go ?_;refine gb h fun O n h=>?_;refine LW.se 2 l 0 m n (hM:=(kz (fun w cs F hF=>by obtain ⟨rfl,rfl⟩:=hF;exact ⟨rfl,rfl⟩))) fun aC B=>?_;refine go ?_;replace h:=oi h;subst h;exact Rc tt tt ⟨(some ⟨g,p,none⟩),k,(show (.tuple #[vS (some ⟨g,p,none⟩) J.length k,.bool true]:Value)=.tuple #[vS (some ⟨g,p,none⟩) O.length k,.bool true] by rw [ik (oi n)]),B.pk [0]⟩
instance k_263:Ct prog 263:=⟨by kernel_rfl,@uH⟩
theorem yj {w0 N O Z x r} (h:lP N O Z x=some r) {d o g} (q:o=O.length) (u:rb w0 d g O) :
    gZ prog 283 #[vS d o g,vI Z,.agg #[vI x.gE,vI x.gV,vI x.hY]] w0 (fun v w=>∃ z A,v=.tuple #[vS z r.1.length A,.bool r.2]∧St w0 [] w [sl z A r.1]):=by
 subst q;unfold lP at h;refine gZ.fn func283 fun e=>?_;have aM:=St.start w0;refine T ?_;intro bs bt aN R aU h U j bu aO bw aV h bv B;refine gc h ?_ ?_<;>intro _ h
 · exact rt
 refine gs ?_;obtain ⟨Y,J,V⟩:=ob h;refine CW.jn [0,1,5,8] [0,1] [(10,.bool Y)] B (h1:=?_) (h2:=?_)
 · have h:=J;refine dW ?_;have aP:=B.drew;refine gb h fun bl aB h=>?_;refine AW.all (rs:=[1,7]) (by kernel_rfl) (by simp) ⟨?_,?_,trivial⟩
   · refine oA ?_;refine T ?_;intro aX aQ;have ⟨bm,aC,h⟩:=ob h;refine AW.all (rs:=[3,7]) (by kernel_rfl) (by simp) ⟨?_,?_,trivial⟩
     · refine oA ?_;refine T ?_;intro aY aR aH aZ aS a0 aT;exact rt
     refine oA ?_;refine T ?_;intro aI a1 ac;refine jP 3 ?_;refine T ?_;intro a2 ad a3 ae;exact rt
   refine oA ?_;refine T ?_;intro aJ a5 af;refine jP 1 ?_;refine T ?_;intro a6 ah bn aD h a7 ai a8 aj;exact rt
 intro e a9 ak;have h:=V;refine gc h ?_ ?_<;>intro _ h
 · exact rt
 refine T ?_;intro bo aE h ba G;obtain ⟨C,K,W⟩:=ob h;refine CW.jn [0,5,8] [0,1] [(1,vI C)] G (h1:=?_) (h2:=?_)
 · have h:=K;refine CW.fl [0,1,5,8,32] fun e=>?_;refine gc h ?_ ?_<;>intro _ h
   · exact rt
   exact rt
 intro e bb H;have h:=W;refine gs ?_;obtain ⟨n,L,X⟩:=ob h;refine CW.cut (fun e wb=>∃ (b:Nat),En e [(1,vI C),(8,vS U R.length j),(11,.pointer (some ⟨b,0,none⟩))]∧St w0 [] wb [sl U j R,bx b 48 [vI n.1,vI n.2.1,vI n.2.2]]) ?_ ?_
 · have h:=L;refine dW ?_;have am:=H.drew;refine gb h fun bp M h=>?_;obtain ⟨aG,aW,ab,rfl,av,ax,az,rfl,aw⟩:=u.idx M;refine go ?_;refine T ?_;have ⟨bq,aF,h⟩:=ob h;refine AW.all (rs:=[6,10]) (by kernel_rfl) (by simp) ⟨?_,?_,trivial⟩
   · refine oA ?_;refine T ?_;intro bc an aK bd ao be ap;exact rt
   refine oA ?_;refine T ?_;intro aL bf aq;refine jP 6 ?_;refine T ?_;intro bg ar bi au;exact rt
 rintro e bj ⟨b,hE,k⟩;obtain ⟨e,rfl⟩:=hE.out;have h:=X;refine gb h fun br l h=>?_;obtain ⟨f,p,hae,ay,aA⟩:=k.im (α:=gW) (i:=0) rfl l;subst hae;refine go ?_;refine gb h fun aa m h=>?_;refine LW.se 2 k 0 l m (hM:=(kz (fun w cs F hF=>by obtain ⟨rfl,rfl⟩:=hF;exact ⟨rfl,rfl⟩))) fun bk I=>?_;refine go ?_;replace h:=oi h;subst h;exact Rc tt tt ⟨(some ⟨f,p,none⟩),j,(show (.tuple #[vS (some ⟨f,p,none⟩) R.length j,.bool true]:Value)=.tuple #[vS (some ⟨f,p,none⟩) aa.length j,.bool true] by rw [ik (oi m)]),I.pk [0]⟩
instance k_283:Ct prog 283:=⟨by kernel_rfl,@yj⟩
theorem CD {w0 N A M r} (h:pC N A M=some r) {f L g} (O:L=A.length) (u:rb w0 f g A) :
    gZ prog 49 #[vS f L g,vI M] w0 (fun v w=>∃ X Z,v=vS X r.length Z∧St w0 [] w [sl X Z r]):=by
 subst O;unfold pC at h;refine gZ.fn func49 fun e=>?_;have ar:=St.start w0;refine go ?_;refine LW.b0 (α:=Bool) ar ?_;intro cj cl cm bT hf;refine T ?_;intro co bV h cn au;refine gc h ?_ ?_<;>intro _ h
 · exact rt
 refine gb h fun bw ay h=>?_;refine LW.mk Hc rfl rfl ay au rfl ?_;intro ck j b3 aa hf;refine gb h fun cb H h=>?_;obtain ⟨b,d,hae,a2,a7⟩:=aa.im (α:=Bool) (i:=0) rfl H;subst hae;refine go ?_;have ⟨aA,I,h⟩:=ob h;refine LW.se 0 aa 0 H I (hM:=tG) fun b4 av=>?_;refine go ?_;obtain ⟨bo,V,ae⟩:=ob h;refine CW.ie V 0 (fun k e wb=>En e [(0,vS f A.length g),(1,vI M),(5,vS (some ⟨b,d,none⟩) k.1.length j),(6,vI k.2)]∧St w0 [] wb [sl (some ⟨b,d,none⟩) j k.1]) ?_ ⟨⟨rfl,rfl,(show (vS (some ⟨b,d,none⟩) bw.length j:Value)=vS (some ⟨b,d,none⟩) aA.length j by rw [ik (oi I)]),rfl,trivial⟩,av.pk [0]⟩ ?_
 · intro k e b5 o hM h;obtain ⟨e,rfl,aw⟩:=eo hM;refine kI [0,1,5,6,19] fun e=>?_;refine gc h ?_ ?_<;>intro _ h
   · refine go ?_;obtain ⟨bn,U,ad⟩:=ob h;refine CW.ie U 2 (fun m e wb=>En e [(0,vS f A.length g),(1,vI M),(5,vS (some ⟨b,d,none⟩) m.1.length j),(6,vI k.2),(7,vI m.2)]∧St w0 [] wb [sl (some ⟨b,d,none⟩) j m.1]) ?_ (aw.po [0]) ?_
     · intro m e b6 o hM h;obtain ⟨e,rfl,G⟩:=eo hM;refine gc h ?_ ?_<;>intro _ h
       · refine gs ?_;refine CW.block ?_;refine gs ?_;obtain ⟨az,am,aq⟩:=ob h;refine CW.jn [0,1,5,6,7] [0] [(44,.bool az)] G (h1:=?_) (h2:=?_)
         · have h:=am;refine gb h fun cc J h=>?_;obtain ⟨bI,bW,hae,a3,a9⟩:=G.im (α:=Bool) (i:=0) rfl J;cases hae;refine go ?_;obtain ⟨bz,l,ax⟩:=G.freeze (α:=Bool) 0 rfl;obtain ⟨bJ,bX,aH,hae,aT,_,_,aj,aX⟩:=l.jB.idx J;cases hae;obtain rfl:=aj;refine T ?_;refine bH h ?_ ?_<;>intro _ h
           · refine go ?_;have bU:=ax.iH (α:=Bool) 0 rfl l;exact rt
           refine gb h fun ce an h=>?_;obtain ⟨bK,bY,aI,rfl,aU,a4,ba,⟨bB,bO,bC,bP,bD,bQ,rfl,bd,be,bf⟩,aY⟩:=u.idx an;refine go ?_;refine T ?_;intro cf bj h b7 B;refine bH h ?_ ?_<;>intro _ h
           · refine go ?_;have aL:=B.iH (α:=Bool) 0 rfl l;exact rt
           refine go ?_;have aM:=B.iH (α:=Bool) 0 rfl l;exact rt
         intro e b8 aN;have h:=aq;refine gc h ?_ ?_<;>intro _ h
         · exact rt
         refine T ?_;intro ab bk h W Y b9 af;refine go ?_;obtain ⟨bm,R,ac⟩:=ob h;refine CW.ie R 4 (fun n e wb=>En e [(0,vS f A.length g),(1,vI M),(5,vS (some ⟨b,d,none⟩) n.1.length j),(6,vI k.2),(7,vI m.2),(8,vS W ab.length Y),(9,vI n.2)]∧St w0 [] wb [sl W Y ab,sl (some ⟨b,d,none⟩) j n.1]) ?_ (af.po [0,1]) ?_
         · intro n e ca o hM h;obtain ⟨e,rfl,C⟩:=eo hM;refine kI [0,1,5,6,7,8,9,51] fun e=>?_;refine gc h ?_ ?_<;>intro _ h
           · refine gb h fun cg K h=>?_;obtain ⟨bL,bZ,hae,a5,bb⟩:=C.im (α:=Int) (i:=0) rfl K;subst hae;refine go ?_;obtain ⟨bA,q,aO⟩:=C.freeze (α:=Int) 0 rfl;obtain ⟨bM,b1,aJ,hae,aV,_,_,ak,aZ⟩:=q.jB.idx K;cases hae;obtain rfl:=ak;refine T ?_;have ⟨ci,ao,h⟩:=ob h;obtain ⟨bN,b2,aK,rfl,aW,a6,bc,⟨bE,bR,bF,bS,bG,aG,rfl,bg,bi,aD⟩,a0⟩:=u.idx ao;refine go ?_;refine T ?_;intro bu aE h bp p;refine CW.fl [0,1,5,6,7,8,9,63] fun e=>?_;refine gc h ?_ ?_<;>intro _ h
             · refine go ?_;refine T ?_;have ⟨bv,x,h⟩:=ob h;obtain ⟨aF,bl,hae,aB,aC⟩:=p.im (α:=Bool) (i:=1) rfl x;cases hae;refine go ?_;have ⟨ap,z,h⟩:=ob h;refine LW.se 0 p 1 x z (hM:=tG) fun bq ah=>?_;refine go ?_;replace h:=oi h;subst h;have ai:=ah.iH (α:=Int) 0 rfl q;exact ⟨rfl,⟨⟨rfl,rfl,(show (vS (some ⟨b,d,none⟩) n.1.length j:Value)=vS (some ⟨b,d,none⟩) ap.length j by rw [ik (oi z)]),rfl,rfl,rfl,rfl,trivial⟩,ai.pk [0,1]⟩⟩
             refine go ?_;have aP:=p.iH (α:=Int) 0 rfl q;exact rt
           exact rt
         rintro e br ⟨hE,aQ⟩;obtain ⟨e,rfl⟩:=hE.out;have h:=ac;exact rt
       exact rt
     rintro e bs ⟨hE,aR⟩;obtain ⟨e,rfl⟩:=hE.out;have h:=ad;exact rt
   exact rt
 rintro e bt ⟨hE,aS⟩;obtain ⟨e,rfl⟩:=hE.out;have h:=ae;exact rt
instance k_49:Ct prog 49:=⟨by kernel_rfl,@CD⟩
theorem rO {w0 N b M r} (h:kR N b M=some r) {d u l} (G:u=b.HB.Hz.length) (O:rb w0 d l b.HB.Hz) {f x m} (H:x=b.own.length) (R:rb w0 f m b.own) {g z n} (I:z=b.HC.length) (U:rb w0 g n b.HC) {i A o} (J:A=b.py.ag.length) (V:rb w0 i o b.py.ag) {j B p} (K:B=b.py.gc.gQ.length) (W:rb w0 j p b.py.gc.gQ) {k C q} (L:C=b.gR.length) (X:rb w0 k q b.gR) :
    gZ prog 268 #[.agg #[vS d u l,vS f x m,vS g z n,vS i A o,vI b.py.gc.HD,vI b.py.gc.HL,vI b.py.gc.HF,vS j B p,vS k C q,vI b.HH,vI b.HJ,vI b.gP.gE,vI b.gP.gV,vI b.gP.hY,vI b.g8,vI b.HG],vI M] w0 (fun v w=>v=vI r∧St w0 [] w []):=by
 subst G H I J K L;unfold kR at h;refine gZ.fn func268 fun e=>?_;have Y:=St.start w0;refine T ?_;intro ac ad Z af ab h ae aa;refine gc h ?_ ?_<;>intro _ h
 · exact rt
 exact rt
instance k_268:Ct prog 268:=⟨by kernel_rfl,@rO⟩
theorem zi {w0} {F:List Nat} {N k aF r} (h:o7 N k aF=some r) {C ab m} (ae:ab=k.ag.length) {G ac H} (af:ac=k.gc.gQ.length) (hS:St w0 F w0 [sl C m k.ag,sl G H k.gc.gQ]) :
    gZ prog 338 #[.agg #[vS C ab m,vI k.gc.HD,vI k.gc.HL,vI k.gc.HF,vS G ac H],vI aF] w0 (fun v w=>∃ q z, ∃ x A,v=.agg #[vS q r.ag.length z,vI r.gc.HD,vI r.gc.HL,vI r.gc.HF,vS x r.gc.gQ.length A]∧St w0 F w [sl q z r.ag,sl x A r.gc.gQ]):=by
 subst ae af;unfold o7 at h;refine gZ.fn func338 fun e=>?_;refine T ?_;intro aJ cL ci aK cM am;refine gc h ?_ ?_<;>intro _ h
 · refine T ?_;intro cN cj cO ck cP cm;exact rt
 refine gb h fun cQ an h=>?_;obtain ⟨b5,co,hae,bs,bz⟩:=am.im (α:=Int) (i:=3) rfl an;subst hae;refine go ?_;obtain ⟨bY,R,aM⟩:=am.freeze (α:=Int) 3 rfl;obtain ⟨b6,cp,a6,hae,bl,_,_,ay,bo⟩:=R.jB.idx an;cases hae;obtain rfl:=ay;refine T ?_;have aN:=aM.iH (α:=Int) 3 rfl R;have ⟨cE,V,h⟩:=ob h;obtain ⟨ad,aG,aI,aC,aD,cn⟩:=aN.vb (α:=Int) 3 rfl V;refine LW.u (iI.sub (α:=Int) (l:=k.gc.gQ) underlying37 DF rfl wz (wC rfl) V ad aC aD) rfl ?_;refine T ?_;intro cx O;obtain ⟨aO,aE,aL⟩:=ob h;refine CW.jn [1,2,4,6] [0,1,2,3] [(44,.bool aO)] O (h1:=?_) (h2:=?_)
 · have h:=aE;refine gB h ?_ ?_<;>intro _ h
   · refine gb h fun cF W h=>?_;obtain ⟨b7,cq,hae,bt,bA⟩:=O.im (α:=cd) (i:=2) rfl W;subst hae;refine go ?_;obtain ⟨bZ,U,ba⟩:=O.freeze (α:=cd) 2 rfl;obtain ⟨b8,cr,a7,hae,bm,_,_,az,bp⟩:=U.jB.idx W;cases hae;obtain ⟨b2,ce,b3,cf,b4,cg,rfl,bE,bF,bG⟩:=az;refine T ?_;intro cG bI h cy aq;have bb:=aq.iH (α:=cd) 2 rfl U;exact rt
   exact rt
 intro e cz bc;have h:=aL;refine gc h ?_ ?_<;>intro _ h
 · refine T ?_;intro cA bd;exact rt
 refine T ?_;intro ao bJ h aj ak cB I;have ⟨cH,X,h⟩:=ob h;obtain ⟨aH,aP,hae,bu,bB⟩:=I.im (α:=cd) (i:=3) rfl X;subst hae;refine go ?_;refine gb h fun cI Y h=>?_;refine LW.se 9 I 3 X Y (hM:=(kz (fun w cs F hF=>by obtain ⟨bL,bO,bM,bP,bN,bQ,rfl,hH⟩:=hF;exact ⟨bL,bO,bM,bP,bN,bQ,rfl,hH⟩))) fun cC J=>?_;refine go ?_;rw [ik (oi Y)] at J;obtain ⟨bK,ah,ap⟩:=ob h;refine CW.ie ah 0 (fun b e wb=>∃ (d:Ad) (g:Nat) (f:Ad) (j:Nat),En e [(1,vI aF),(2,.pointer (some ⟨aJ,0,none⟩)),(4,.pointer (some ⟨aK,0,none⟩)),(7,vS aj ao.length ak),(8,vI b.1)]∧St w0 F wb [sl aj ak ao,bx aK 45 [vS none 0 0,vI 0,vI 0,vI 0,vS none 0 0],bx aJ 45 [vS d b.2.1.length g,vI b.2.2.1,vI b.2.2.2.1,vI b.2.2.2.2.1,vS f b.2.2.2.2.2.length j],sl d g b.2.1,sl f j b.2.2.2.2.2]) ?_ ⟨(some ⟨aH,aP,none⟩),m,aG,aI,J.po [0,1,2,3,4]⟩ ?_
 · intro b e cD o hM h;obtain ⟨d,g,f,j,hE,ar⟩:=hM;obtain ⟨e,rfl⟩:=hE.out;refine kI [1,2,4,7,8,58] fun e=>?_;refine gc h ?_ ?_<;>intro _ h
   · refine kG ?_;have K:=ar.drew;refine gb h fun cJ Z h=>?_;obtain ⟨b9,ct,hae,bv,bC⟩:=K.im (α:=Int) (i:=0) rfl Z;subst hae;refine go ?_;obtain ⟨b0,n,L⟩:=K.freeze (α:=Int) 0 rfl;obtain ⟨ca,cu,a8,hae,bn,_,_,aA,bq⟩:=n.jB.idx Z;cases hae;obtain rfl:=aA;refine T ?_;have ⟨cK,aa,h⟩:=ob h;obtain ⟨cb,cv,hae,bw,bD⟩:=L.im (α:=cd) (i:=3) rfl aa;subst hae;refine go ?_;obtain ⟨b1,p,be⟩:=L.freeze (α:=cd) 3 rfl;obtain ⟨cc,cw,a9,hae,aQ,_,_,aB,br⟩:=p.jB.idx aa;cases hae;obtain ⟨aW,a1,aX,a2,aY,a3,rfl,aR,aS,aT⟩:=aB;refine T ?_;intro bW aU h bR M;refine gc h ?_ ?_<;>intro _ h
     · refine dW ?_;have au:=M.drew;refine go ?_;refine T ?_;have ⟨bX,ai,h⟩:=ob h;have av:=au.iH (α:=cd) 3 rfl p;obtain ⟨aV,B⟩:=av.lf [3,4] [0,1,2];refine T ?_;refine LW.cl (tz ai rfl rfl B.st) ?_;rintro _ bS ⟨aZ,a4,a0,a5,rfl,hs⟩;have bf:=B.back _ _ hs;refine T ?_;intro bT aw;have bg:=aw.iH (α:=Int) 2 rfl n;exact rt
     refine go ?_;have ax:=M.iH (α:=cd) 3 rfl p;have bi:=ax.iH (α:=Int) 0 rfl n;exact rt
   exact rt
 rintro e bU ⟨d,g,f,j,hE,bj⟩;obtain ⟨e,rfl⟩:=hE.out;have h:=ap;refine T ?_;intro bV bk;exact rt
instance k_338:Ct prog 338:=⟨by kernel_rfl,@zi⟩
end Go.Kx
