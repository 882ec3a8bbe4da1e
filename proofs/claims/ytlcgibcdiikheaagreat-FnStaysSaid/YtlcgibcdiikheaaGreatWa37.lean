import Derived.Test.YtlcgibcdiikheaaGreatWa34
namespace Go.Kx
open Go Go.RowKit Go.Proofs
open Go.IntKind (i64)
open Tryz
set_option maxRecDepth 10000
set_option maxHeartbeats 8000000
set_option linter.unusedVariables false
set_option linter.unusedSimpArgs false
theorem Ib {w0 N b r} (h:m8 N b=some r) {d A l} (J:A=b.QQ.so.length) (ad:rb w0 d l b.QQ.so) {f B m} (K:B=b.own.length) (ae:rb w0 f m b.own) {g C n} (L:C=b.QR.length) (af:rb w0 g n b.QR) {i G p} (M:G=b.heap.ag.length) (ah:rb w0 i p b.heap.ag) {j H q} (O:H=b.heap.gc.gQ.length) (ai:rb w0 j q b.heap.gc.gQ) {k I z} (R:I=b.gR.length) (U:rb w0 k z b.gR) :
    g8 prog 92 #[.agg #[vS d A l,vS f B m,vS g C n,vS i G p,vI b.heap.gc.QS,vI b.heap.gc.Q0,vI b.heap.gc.QT,vS j H q,vS k I z,vI b.QZ,vI b.QY,vI b.gP.bh,vI b.gP.gS,vI b.gP.gW,vI b.hY,vI b.QX]] w0 (fun v w=>v=.bool r∧St w0 [] w []):=by
 subst J K L M O R;unfold m8 at h;refine g8.fn func92 fun e=>?_;have aH:=St.start w0;refine T ?_;intro bd be ab;obtain ⟨aF,ac,ak⟩:=ob h;refine CW.jn [1] [0] [(61,.bool aF)] ab (h1:=?_) (h2:=?_)
 · have h:=ac;refine T ?_;intro bi aP h bf aI;refine bH h ?_ ?_<;>intro _ h
   · exact rt
   refine T ?_;intro bj aQ h bg aJ;refine bH h ?_ ?_<;>intro _ h
   · exact rt
   refine T ?_;intro a4 ax h aT aK;refine bH h ?_ ?_<;>intro _ h
   · exact rt
   refine T ?_;intro a5 ay h aU aL;refine bH h ?_ ?_<;>intro _ h
   · exact rt
   refine gB h ?_ ?_<;>intro _ h
   · exact rt
   refine T ?_;intro a6 az h aV aM;refine bH h ?_ ?_<;>intro _ h
   · exact rt
   refine T ?_;intro a7 aA h aW aN;refine bH h ?_ ?_<;>intro _ h
   · exact rt
   refine T ?_;intro a8 aB h aX aO;refine bH h ?_ ?_<;>intro _ h
   · exact rt
   refine T ?_;intro a9 aC h aY am;refine bH h ?_ ?_<;>intro _ h
   · exact rt
   refine T ?_;intro ba aD h aZ an;exact rt
 intro e a0 Y;have h:=ak;refine gc h ?_ ?_<;>intro _ h
 · exact rt
 refine go ?_;obtain ⟨W,Z,V⟩:=ob h;refine CW.mono (CW.lx [1] [0] [] 0 (fun X=>[(3,vI X)]) (RT prog f92.results (fun u=>.bool u) w0 []) Y Z (hb:=?_)) ?_
 · intro X e a1 o ao h;refine gc h ?_ ?_<;>intro _ h
   · refine gb h fun bb aa h=>?_;obtain ⟨aG,aR,aj,rfl,ar,av,aw,rfl,au⟩:=U.idx aa;refine go ?_;refine T ?_;intro bc aE h a2 ap;refine CW.fl [1,3,75] fun e=>?_;refine gc h ?_ ?_<;>intro _ h
     · exact rt
     exact rt
   exact rt
 intro x e a3 hM;rcases W with W | aS
 · obtain ⟨rfl,hM⟩:=hM;obtain ⟨e,rfl,aq⟩:=eo hM;rw [show e=iy e [] from rfl];have h:=V;exact rt
 obtain ⟨rfl,u,rfl,hM⟩:=hM;cases V;exact And.intro trivial hM
instance k_92:Ct prog 92:=⟨by kernel_rfl,@Ib⟩
theorem Gn {w0 N b r} (h:tq N b=some r) {f B n} (K:B=b.QQ.so.length) (X:rb w0 f n b.QQ.so) {g C o} (L:C=b.own.length) (Y:rb w0 g o b.own) {j G q} (M:G=b.QR.length) (Z:rb w0 j q b.QR) {k H x} (O:H=b.heap.ag.length) (aa:rb w0 k x b.heap.ag) {l I z} (R:I=b.heap.gc.gQ.length) (ab:rb w0 l z b.heap.gc.gQ) {m J A} (U:J=b.gR.length) (ac:rb w0 m A b.gR) :
    g8 prog 181 #[.agg #[vS f B n,vS g C o,vS j G q,vS k H x,vI b.heap.gc.QS,vI b.heap.gc.Q0,vI b.heap.gc.QT,vS l I z,vS m J A,vI b.QZ,vI b.QY,vI b.gP.bh,vI b.gP.gS,vI b.gP.gW,vI b.hY,vI b.QX]] w0 (fun v w=>v=.agg #[vI r.bh,vI r.gS,vI r.gW]∧St w0 [] w []):=by
 subst K L M O R U;unfold tq at h;refine g8.fn func181 fun e=>?_;have ai:=St.start w0;refine T ?_;intro az aC aj aA aD ak d ar h aE am aB aF an aG ao ay af h au W;refine gc h ?_ ?_<;>intro _ h
 · refine T ?_;intro av ap;exact rt
 refine mo ?_;have aq:=W.drew;refine go ?_;refine jP 3 ?_;refine T ?_;intro V ah h aw ad;refine AW.u (i:=8) rfl (by kernel_rfl) rfl rfl (iM.p rfl) ?_;refine AW.u (i:=21) rfl (by kernel_rfl) rfl rfl (iM.build (vs:=[(0,vI (i64.wrap ((i64.wrap (d.bh+V))+b.gP.bh))),(1,vI (i64.wrap (d.gS+b.gP.gS))),(2,vI (i64.wrap (d.gW+b.gP.gW)))]) (cs:=#[vI (i64.wrap ((i64.wrap (d.bh+V))+b.gP.bh)),vI (i64.wrap (d.gS+b.gP.gS)),vI (i64.wrap (d.gW+b.gP.gW))]) rfl (by kernel_rfl)) ?_;refine T ?_;intro ax ae;exact rt
instance k_181:Ct prog 181:=⟨by kernel_rfl,@Gn⟩
theorem Ao {w0 N H I x r} (h:mT N H I x=some r) {f o j} (q:o=H.length) (u:rb w0 f j H) :
    g8 prog 263 #[vS f o j,vI I,.agg #[vI x.bh,vI x.gS,vI x.gW]] w0 (fun v w=>∃ z A,v=.tuple #[vS z r.1.length A,.bool r.2]∧St w0 [] w [sl z A r.1]):=by
 subst q;unfold mT at h;refine g8.fn func263 fun e=>?_;have ah:=St.start w0;refine T ?_;intro aG aH ai J aq h K k aI aj aK ar h aJ M;refine gc h ?_ ?_<;>intro _ h
 · exact rt
 refine gs ?_;obtain ⟨d,C,L⟩:=ob h;refine CW.cut (fun e wb=>∃ (b:Nat),En e [(1,vI I),(8,vS K J.length k),(9,.pointer (some ⟨b,0,none⟩)),(10,.bool d.2.2.2)]∧St w0 [] wb [sl K k J,bx b 48 [vI d.1,vI d.2.1,vI d.2.2.1]]) ?_ ?_
 · have h:=C;refine dW ?_;have ak:=M.drew;refine gb h fun aD G h=>?_;obtain ⟨ad,au,R,rfl,W,Y,aa,rfl,X⟩:=u.idx G;refine go ?_;refine T ?_;have ⟨aE,ac,h⟩:=ob h;refine AW.all (rs:=[6,10]) (by kernel_rfl) (by simp) ⟨?_,?_,trivial⟩
   · refine oA ?_;refine T ?_;intro av am ae aw an ax ao;exact rt
   refine oA ?_;refine T ?_;intro af ay ap;refine jP 6 ?_;refine T ?_;intro az U aA V;exact rt
 rintro e aB ⟨b,hE,l⟩;obtain ⟨e,rfl⟩:=hE.out;have h:=L;refine gc h ?_ ?_<;>intro _ h
 · exact rt
 refine gb h fun aF m h=>?_;obtain ⟨g,p,hae,Z,ab⟩:=l.iu (α:=g6) (i:=0) rfl m;subst hae;refine go ?_;refine gb h fun O n h=>?_;refine LW.se 2 l 0 m n (hM:=(kR (fun w cs F hF=>by obtain ⟨rfl,rfl⟩:=hF;exact ⟨rfl,rfl⟩))) fun aC B=>?_;refine go ?_;replace h:=oi h;subst h;exact Rc tt tt ⟨(some ⟨g,p,none⟩),k,(show (.tuple #[vS (some ⟨g,p,none⟩) J.length k,.bool true]:Value)=.tuple #[vS (some ⟨g,p,none⟩) O.length k,.bool true] by rw [iv (oi n)]),B.pk [0]⟩
instance k_263:Ct prog 263:=⟨by kernel_rfl,@Ao⟩
theorem El {w0 N O Z x r} (h:oK N O Z x=some r) {d o g} (q:o=O.length) (u:rb w0 d g O) :
    g8 prog 283 #[vS d o g,vI Z,.agg #[vI x.bh,vI x.gS,vI x.gW]] w0 (fun v w=>∃ z A,v=.tuple #[vS z r.1.length A,.bool r.2]∧St w0 [] w [sl z A r.1]):=by
 subst q;unfold oK at h;refine g8.fn func283 fun e=>?_;have aM:=St.start w0;refine T ?_;intro bs bt aN R aU h U j bu aO bw aV h bv B;refine gc h ?_ ?_<;>intro _ h
 · exact rt
 refine gs ?_;obtain ⟨Y,J,V⟩:=ob h;refine CW.jn [0,1,5,8] [0,1] [(10,.bool Y)] B (h1:=?_) (h2:=?_)
 · have h:=J;refine dW ?_;have aP:=B.drew;refine gb h fun bl aB h=>?_;refine AW.all (rs:=[1,7]) (by kernel_rfl) (by simp) ⟨?_,?_,trivial⟩
   · refine oA ?_;refine T ?_;intro aX aQ;have ⟨bm,aC,h⟩:=ob h;refine AW.all (rs:=[3,7]) (by kernel_rfl) (by simp) ⟨?_,?_,trivial⟩
     · refine oA ?_;refine T ?_;intro aY aR aH aZ aS a0 aT;exact rt
     refine oA ?_;refine T ?_;intro aI a1 ac;refine jP 3 ?_;refine T ?_;intro a2 ad a3 ae;exact rt
   refine oA ?_;refine T ?_;intro aJ a5 af;refine jP 1 ?_;refine T ?_;intro a6 ah bn aD h a7 ai a8 aj;exact rt
 intro e a9 ak;have h:=V;refine gc h ?_ ?_<;>intro _ h
 · exact rt
 refine T ?_;intro bo aE h ba G;obtain ⟨C,K,W⟩:=ob h;refine CW.jn [0,5,8] [0,1] [(1,vI C)] G (h1:=?_) (h2:=?_)
 · have h:=K;refine CW.fl [0,1,5,8,32] fun e=>?_;refine gc h ?_ ?_<;>intro _ h
   · exact rt
   exact rt
 intro e bb H;have h:=W;refine gs ?_;obtain ⟨n,L,X⟩:=ob h;refine CW.cut (fun e wb=>∃ (b:Nat),En e [(1,vI C),(8,vS U R.length j),(11,.pointer (some ⟨b,0,none⟩))]∧St w0 [] wb [sl U j R,bx b 48 [vI n.1,vI n.2.1,vI n.2.2]]) ?_ ?_
 · have h:=L;refine dW ?_;have am:=H.drew;refine gb h fun bp M h=>?_;obtain ⟨aG,aW,ab,rfl,av,ax,az,rfl,aw⟩:=u.idx M;refine go ?_;refine T ?_;have ⟨bq,aF,h⟩:=ob h;refine AW.all (rs:=[6,10]) (by kernel_rfl) (by simp) ⟨?_,?_,trivial⟩
   · refine oA ?_;refine T ?_;intro bc an aK bd ao be ap;exact rt
   refine oA ?_;refine T ?_;intro aL bf aq;refine jP 6 ?_;refine T ?_;intro bg ar bi au;exact rt
 rintro e bj ⟨b,hE,k⟩;obtain ⟨e,rfl⟩:=hE.out;have h:=X;refine gb h fun br l h=>?_;obtain ⟨f,p,hae,ay,aA⟩:=k.iu (α:=g6) (i:=0) rfl l;subst hae;refine go ?_;refine gb h fun aa m h=>?_;refine LW.se 2 k 0 l m (hM:=(kR (fun w cs F hF=>by obtain ⟨rfl,rfl⟩:=hF;exact ⟨rfl,rfl⟩))) fun bk I=>?_;refine go ?_;replace h:=oi h;subst h;exact Rc tt tt ⟨(some ⟨f,p,none⟩),j,(show (.tuple #[vS (some ⟨f,p,none⟩) R.length j,.bool true]:Value)=.tuple #[vS (some ⟨f,p,none⟩) aa.length j,.bool true] by rw [iv (oi m)]),I.pk [0]⟩
instance k_283:Ct prog 283:=⟨by kernel_rfl,@El⟩
theorem CI {w0 N A M r} (h:rF N A M=some r) {f L g} (O:L=A.length) (u:rb w0 f g A) :
    g8 prog 49 #[vS f L g,vI M] w0 (fun v w=>∃ X Z,v=vS X r.length Z∧St w0 [] w [sl X Z r]):=by
 subst O;unfold rF at h;refine g8.fn func49 fun e=>?_;have ar:=St.start w0;refine go ?_;refine LW.b0 (α:=Bool) ar ?_;intro cj cl cm bT hf;refine T ?_;intro co bV h cn au;refine gc h ?_ ?_<;>intro _ h
 · exact rt
 refine gb h fun bw ay h=>?_;refine LW.mk Oq rfl rfl ay au rfl ?_;intro ck j b3 aa hf;refine gb h fun cb H h=>?_;obtain ⟨b,d,hae,a2,a7⟩:=aa.iu (α:=Bool) (i:=0) rfl H;subst hae;refine go ?_;have ⟨aA,I,h⟩:=ob h;refine LW.se 0 aa 0 H I (hM:=xn) fun b4 av=>?_;refine go ?_;obtain ⟨bo,V,ae⟩:=ob h;refine CW.ie V 0 (fun k e wb=>En e [(0,vS f A.length g),(1,vI M),(5,vS (some ⟨b,d,none⟩) k.1.length j),(6,vI k.2)]∧St w0 [] wb [sl (some ⟨b,d,none⟩) j k.1]) ?_ ⟨⟨rfl,rfl,(show (vS (some ⟨b,d,none⟩) bw.length j:Value)=vS (some ⟨b,d,none⟩) aA.length j by rw [iv (oi I)]),rfl,trivial⟩,av.pk [0]⟩ ?_
 · intro k e b5 o hM h;obtain ⟨e,rfl,aw⟩:=eo hM;refine kS [0,1,5,6,19] fun e=>?_;refine gc h ?_ ?_<;>intro _ h
   · refine go ?_;obtain ⟨bn,U,ad⟩:=ob h;refine CW.ie U 2 (fun m e wb=>En e [(0,vS f A.length g),(1,vI M),(5,vS (some ⟨b,d,none⟩) m.1.length j),(6,vI k.2),(7,vI m.2)]∧St w0 [] wb [sl (some ⟨b,d,none⟩) j m.1]) ?_ (aw.po [0]) ?_
     · intro m e b6 o hM h;obtain ⟨e,rfl,G⟩:=eo hM;refine gc h ?_ ?_<;>intro _ h
       · refine gs ?_;refine CW.block ?_;refine gs ?_;obtain ⟨az,am,aq⟩:=ob h;refine CW.jn [0,1,5,6,7] [0] [(44,.bool az)] G (h1:=?_) (h2:=?_)
         · have h:=am;refine gb h fun cc J h=>?_;obtain ⟨bI,bW,hae,a3,a9⟩:=G.iu (α:=Bool) (i:=0) rfl J;cases hae;refine go ?_;obtain ⟨bz,l,ax⟩:=G.freeze (α:=Bool) 0 rfl;obtain ⟨bJ,bX,aH,hae,aT,_,_,aj,aX⟩:=l.j5.idx J;cases hae;obtain rfl:=aj;refine T ?_;refine bH h ?_ ?_<;>intro _ h
           · refine go ?_;have bU:=ax.iJ (α:=Bool) 0 rfl l;exact rt
           refine gb h fun ce an h=>?_;obtain ⟨bK,bY,aI,rfl,aU,a4,ba,⟨bB,bO,bC,bP,bD,bQ,rfl,bd,be,bf⟩,aY⟩:=u.idx an;refine go ?_;refine T ?_;intro cf bj h b7 B;refine bH h ?_ ?_<;>intro _ h
           · refine go ?_;have aL:=B.iJ (α:=Bool) 0 rfl l;exact rt
           refine go ?_;have aM:=B.iJ (α:=Bool) 0 rfl l;exact rt
         intro e b8 aN;have h:=aq;refine gc h ?_ ?_<;>intro _ h
         · exact rt
         refine T ?_;intro ab bk h W Y b9 af;refine go ?_;obtain ⟨bm,R,ac⟩:=ob h;refine CW.ie R 4 (fun n e wb=>En e [(0,vS f A.length g),(1,vI M),(5,vS (some ⟨b,d,none⟩) n.1.length j),(6,vI k.2),(7,vI m.2),(8,vS W ab.length Y),(9,vI n.2)]∧St w0 [] wb [sl W Y ab,sl (some ⟨b,d,none⟩) j n.1]) ?_ (af.po [0,1]) ?_
         · intro n e ca o hM h;obtain ⟨e,rfl,C⟩:=eo hM;refine kS [0,1,5,6,7,8,9,51] fun e=>?_;refine gc h ?_ ?_<;>intro _ h
           · refine gb h fun cg K h=>?_;obtain ⟨bL,bZ,hae,a5,bb⟩:=C.iu (α:=Int) (i:=0) rfl K;subst hae;refine go ?_;obtain ⟨bA,q,aO⟩:=C.freeze (α:=Int) 0 rfl;obtain ⟨bM,b1,aJ,hae,aV,_,_,ak,aZ⟩:=q.j5.idx K;cases hae;obtain rfl:=ak;refine T ?_;have ⟨ci,ao,h⟩:=ob h;obtain ⟨bN,b2,aK,rfl,aW,a6,bc,⟨bE,bR,bF,bS,bG,aG,rfl,bg,bi,aD⟩,a0⟩:=u.idx ao;refine go ?_;refine T ?_;intro bu aE h bp p;refine CW.fl [0,1,5,6,7,8,9,63] fun e=>?_;refine gc h ?_ ?_<;>intro _ h
             · refine go ?_;refine T ?_;have ⟨bv,x,h⟩:=ob h;obtain ⟨aF,bl,hae,aB,aC⟩:=p.iu (α:=Bool) (i:=1) rfl x;cases hae;refine go ?_;have ⟨ap,z,h⟩:=ob h;refine LW.se 0 p 1 x z (hM:=xn) fun bq ah=>?_;refine go ?_;replace h:=oi h;subst h;have ai:=ah.iJ (α:=Int) 0 rfl q;exact ⟨rfl,⟨⟨rfl,rfl,(show (vS (some ⟨b,d,none⟩) n.1.length j:Value)=vS (some ⟨b,d,none⟩) ap.length j by rw [iv (oi z)]),rfl,rfl,rfl,rfl,trivial⟩,ai.pk [0,1]⟩⟩
             refine go ?_;have aP:=p.iJ (α:=Int) 0 rfl q;exact rt
           exact rt
         rintro e br ⟨hE,aQ⟩;obtain ⟨e,rfl⟩:=hE.out;have h:=ac;exact rt
       exact rt
     rintro e bs ⟨hE,aR⟩;obtain ⟨e,rfl⟩:=hE.out;have h:=ad;exact rt
   exact rt
 rintro e bt ⟨hE,aS⟩;obtain ⟨e,rfl⟩:=hE.out;have h:=ae;exact rt
instance k_49:Ct prog 49:=⟨by kernel_rfl,@CI⟩
theorem xl {w0 N b M r} (h:nm N b M=some r) {d u l} (G:u=b.QQ.so.length) (O:rb w0 d l b.QQ.so) {f x m} (H:x=b.own.length) (R:rb w0 f m b.own) {g z n} (I:z=b.QR.length) (U:rb w0 g n b.QR) {i A o} (J:A=b.heap.ag.length) (V:rb w0 i o b.heap.ag) {j B p} (K:B=b.heap.gc.gQ.length) (W:rb w0 j p b.heap.gc.gQ) {k C q} (L:C=b.gR.length) (X:rb w0 k q b.gR) :
    g8 prog 268 #[.agg #[vS d u l,vS f x m,vS g z n,vS i A o,vI b.heap.gc.QS,vI b.heap.gc.Q0,vI b.heap.gc.QT,vS j B p,vS k C q,vI b.QZ,vI b.QY,vI b.gP.bh,vI b.gP.gS,vI b.gP.gW,vI b.hY,vI b.QX],vI M] w0 (fun v w=>v=vI r∧St w0 [] w []):=by
 subst G H I J K L;unfold nm at h;refine g8.fn func268 fun e=>?_;have Y:=St.start w0;refine T ?_;intro ac ad Z af ab h ae aa;refine gc h ?_ ?_<;>intro _ h
 · exact rt
 exact rt
instance k_268:Ct prog 268:=⟨by kernel_rfl,@xl⟩
theorem GF {w0} {F:List Nat} {N k aF r} (h:tA N k aF=some r) {C ab m} (ae:ab=k.ag.length) {G ac H} (af:ac=k.gc.gQ.length) (hS:St w0 F w0 [sl C m k.ag,sl G H k.gc.gQ]) :
    g8 prog 338 #[.agg #[vS C ab m,vI k.gc.QS,vI k.gc.Q0,vI k.gc.QT,vS G ac H],vI aF] w0 (fun v w=>∃ q z, ∃ x A,v=.agg #[vS q r.ag.length z,vI r.gc.QS,vI r.gc.Q0,vI r.gc.QT,vS x r.gc.gQ.length A]∧St w0 F w [sl q z r.ag,sl x A r.gc.gQ]):=by
 subst ae af;unfold tA at h;refine g8.fn func338 fun e=>?_;refine T ?_;intro aJ cL ci aK cM am;refine gc h ?_ ?_<;>intro _ h
 · refine T ?_;intro cN cj cO ck cP cm;exact rt
 refine gb h fun cQ an h=>?_;obtain ⟨b5,co,hae,bs,bz⟩:=am.iu (α:=Int) (i:=3) rfl an;subst hae;refine go ?_;obtain ⟨bY,R,aM⟩:=am.freeze (α:=Int) 3 rfl;obtain ⟨b6,cp,a6,hae,bl,_,_,ay,bo⟩:=R.j5.idx an;cases hae;obtain rfl:=ay;refine T ?_;have aN:=aM.iJ (α:=Int) 3 rfl R;have ⟨cE,V,h⟩:=ob h;obtain ⟨ad,aG,aI,aC,aD,cn⟩:=aN.wy (α:=Int) 3 rfl V;refine LW.u (iM.sub (α:=Int) (l:=k.gc.gQ) underlying37 Ee rfl xA (xy rfl) V ad aC aD) rfl ?_;refine T ?_;intro cx O;obtain ⟨aO,aE,aL⟩:=ob h;refine CW.jn [1,2,4,6] [0,1,2,3] [(44,.bool aO)] O (h1:=?_) (h2:=?_)
 · have h:=aE;refine gB h ?_ ?_<;>intro _ h
   · refine gb h fun cF W h=>?_;obtain ⟨b7,cq,hae,bt,bA⟩:=O.iu (α:=gE) (i:=2) rfl W;subst hae;refine go ?_;obtain ⟨bZ,U,ba⟩:=O.freeze (α:=gE) 2 rfl;obtain ⟨b8,cr,a7,hae,bm,_,_,az,bp⟩:=U.j5.idx W;cases hae;obtain ⟨b2,ce,b3,cf,b4,cg,rfl,bE,bF,bG⟩:=az;refine T ?_;intro cG bI h cy aq;have bb:=aq.iJ (α:=gE) 2 rfl U;exact rt
   exact rt
 intro e cz bc;have h:=aL;refine gc h ?_ ?_<;>intro _ h
 · refine T ?_;intro cA bd;exact rt
 refine T ?_;intro ao bJ h aj ak cB I;have ⟨cH,X,h⟩:=ob h;obtain ⟨aH,aP,hae,bu,bB⟩:=I.iu (α:=gE) (i:=3) rfl X;subst hae;refine go ?_;refine gb h fun cI Y h=>?_;refine LW.se 9 I 3 X Y (hM:=(kR (fun w cs F hF=>by obtain ⟨bL,bO,bM,bP,bN,bQ,rfl,hH⟩:=hF;exact ⟨bL,bO,bM,bP,bN,bQ,rfl,hH⟩))) fun cC J=>?_;refine go ?_;rw [iv (oi Y)] at J;obtain ⟨bK,ah,ap⟩:=ob h;refine CW.ie ah 0 (fun b e wb=>∃ (d:Ad) (g:Nat) (f:Ad) (j:Nat),En e [(1,vI aF),(2,.pointer (some ⟨aJ,0,none⟩)),(4,.pointer (some ⟨aK,0,none⟩)),(7,vS aj ao.length ak),(8,vI b.1)]∧St w0 F wb [sl aj ak ao,bx aK 45 [vS none 0 0,vI 0,vI 0,vI 0,vS none 0 0],bx aJ 45 [vS d b.2.1.length g,vI b.2.2.1,vI b.2.2.2.1,vI b.2.2.2.2.1,vS f b.2.2.2.2.2.length j],sl d g b.2.1,sl f j b.2.2.2.2.2]) ?_ ⟨(some ⟨aH,aP,none⟩),m,aG,aI,J.po [0,1,2,3,4]⟩ ?_
 · intro b e cD o hM h;obtain ⟨d,g,f,j,hE,ar⟩:=hM;obtain ⟨e,rfl⟩:=hE.out;refine kS [1,2,4,7,8,58] fun e=>?_;refine gc h ?_ ?_<;>intro _ h
   · refine mo ?_;have K:=ar.drew;refine gb h fun cJ Z h=>?_;obtain ⟨b9,ct,hae,bv,bC⟩:=K.iu (α:=Int) (i:=0) rfl Z;subst hae;refine go ?_;obtain ⟨b0,n,L⟩:=K.freeze (α:=Int) 0 rfl;obtain ⟨ca,cu,a8,hae,bn,_,_,aA,bq⟩:=n.j5.idx Z;cases hae;obtain rfl:=aA;refine T ?_;have ⟨cK,aa,h⟩:=ob h;obtain ⟨cb,cv,hae,bw,bD⟩:=L.iu (α:=gE) (i:=3) rfl aa;subst hae;refine go ?_;obtain ⟨b1,p,be⟩:=L.freeze (α:=gE) 3 rfl;obtain ⟨cc,cw,a9,hae,aQ,_,_,aB,br⟩:=p.j5.idx aa;cases hae;obtain ⟨aW,a1,aX,a2,aY,a3,rfl,aR,aS,aT⟩:=aB;refine T ?_;intro bW aU h bR M;refine gc h ?_ ?_<;>intro _ h
     · refine dW ?_;have au:=M.drew;refine go ?_;refine T ?_;have ⟨bX,ai,h⟩:=ob h;have av:=au.iJ (α:=gE) 3 rfl p;obtain ⟨aV,B⟩:=av.pO [3,4] [0,1,2];refine T ?_;refine LW.cl (zw ai rfl rfl B.st) ?_;rintro _ bS ⟨aZ,a4,a0,a5,rfl,hs⟩;have bf:=B.back _ _ hs;refine T ?_;intro bT aw;have bg:=aw.iJ (α:=Int) 2 rfl n;exact rt
     refine go ?_;have ax:=M.iJ (α:=gE) 3 rfl p;have bi:=ax.iJ (α:=Int) 0 rfl n;exact rt
   exact rt
 rintro e bU ⟨d,g,f,j,hE,bj⟩;obtain ⟨e,rfl⟩:=hE.out;have h:=ap;refine T ?_;intro bV bk;exact rt
instance k_338:Ct prog 338:=⟨by kernel_rfl,@GF⟩
end Go.Kx
