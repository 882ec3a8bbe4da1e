import Derived.Test.YtlcgibcdiikheaaGreatWa9
import Derived.Test.YtlcgibcdiikheaaGreatWa10
namespace Go.Kx
open Go Go.RowKit Go.Proofs
open Go.IntKind (i64)
open Tryz
set_option maxRecDepth 10000
set_option maxHeartbeats 8000000
set_option linter.unusedVariables false
set_option linter.unusedSimpArgs false
theorem HM {w0 N b d r} (h:uo N b d=some r) {f o k} (x:o=b.ag.length) (C:rb w0 f k b.ag) {g p l} (z:p=b.gc.gQ.length) (G:rb w0 g l b.gc.gQ) {i q m} (A:q=d.ag.length) (H:rb w0 i m d.ag) {j u n} (B:u=d.gc.gQ.length) (I:rb w0 j n d.gc.gQ) :
    gV prog 290 #[.agg #[vS f o k,vI b.gc.Ph,vI b.gc.Pr,vI b.gc.Pj,vS g p l],.agg #[vS i q m,vI d.gc.Ph,vI d.gc.Pr,vI d.gc.Pj,vS j u n]] w0 (fun v w=>v=.bool r∧St w0 [] w []):=by
 subst x z A B;unfold uo at h;refine gV.fn func290 fun e=>?_;have J:=St.start w0;refine T ?_;intro V X K W Y L ab R h Z M;refine gc h ?_ ?_<;>intro _ h
 · exact rt
 refine T ?_;intro ac U h aa O;refine CW.fl [16] fun e=>?_;refine gc h ?_ ?_<;>intro _ h
 · exact rt
 exact rt
instance k_290:Ct prog 290:=⟨by kernel_rfl,@HM⟩
theorem H7 {w0 N k r} (h:rU N k=some r) {d m f} (n:m=k.length) (i:rb w0 d f k) :
    gV prog 46 #[vS d m f] w0 (fun v w=>v=.bool r∧St w0 [] w []):=by
 subst n;unfold rU at h;refine gV.fn func46 fun e=>?_;have aO:=St.start w0;refine jt [] #[vI 0,vI 0,vI 0] ?_;refine T ?_;intro l bf aP bg J;refine go ?_;obtain ⟨q,B,p⟩:=ob h;refine CW.it B (fun b e wb=>En e [(0,vS d k.length f),(3,.pointer (some ⟨l,0,none⟩)),(4,vI b.1)]∧St w0 [] wb [bx l 48 [vI b.2.1,vI b.2.2.1,vI b.2.2.2]]) (fun o x e wb=>match o with | .inl b=>x=.exit 0∧En e [(0,vS d k.length f)]∧St w0 [] wb [bx l 48 [vI b.2.1,vI b.2.2.1,vI b.2.2.2]] | .inr r=>x=.ret∧∃ u,u=r∧∃ v,kz prog f46.results e wb v∧v=.bool u∧St w0 [] wb []) ?_ (J.po [0]) ?_
 · intro b e bi o hM h;obtain ⟨e,rfl,K⟩:=eo hM;refine gs ?_;obtain ⟨aB,O,W⟩:=ob h;refine CW.jn [0,3,4] [0] [(15,.bool aB)] K (h1:=?_) (h2:=?_)
   · have h:=O;refine gB h ?_ ?_<;>intro _ h
     · exact rt
     exact rt
   intro e bj L;have h:=W;refine gc h ?_ ?_<;>intro _ h
   · refine gs ?_;refine CW.block ?_;refine gs ?_;obtain ⟨R,z,H⟩:=ob h;refine CW.jn [0,3,4] [0] [(33,.bool R)] L (h1:=?_) (h2:=?_)
     · have h:=z;refine gb h fun a9 C h=>?_;obtain ⟨aG,aT,U,rfl,ai,an,ap,⟨aC,aI,aD,aJ,rfl,ar,au⟩,ak⟩:=i.idx C;refine go ?_;refine T ?_;intro ba ax h aW aQ;refine bH h ?_ ?_<;>intro _ h
       · exact rt
       refine go ?_;refine T ?_;intro bb ay h aX aR;exact rt
     intro e aY M;have h:=H;refine gc h ?_ ?_<;>intro _ h
     · exact rt
     refine gs ?_;obtain ⟨j,A,I⟩:=ob h;refine CW.cut (fun e wb=>∃ (g:Nat),En e [(0,vS d k.length f),(3,.pointer (some ⟨l,0,none⟩)),(4,vI b.1),(5,.pointer (some ⟨g,0,none⟩)),(6,.bool j.2.2.2)]∧St w0 [] wb [bx l 48 [vI b.2.1,vI b.2.2.1,vI b.2.2.2],bx g 48 [vI j.1,vI j.2.1,vI j.2.2.1]]) ?_ ?_
     · have h:=A;refine dW ?_;have aS:=M.drew;refine gb h fun bc G h=>?_;obtain ⟨aH,aU,V,rfl,aj,ao,aq,⟨aE,aK,aF,aL,rfl,av,aw⟩,am⟩:=i.idx G;refine go ?_;refine T ?_;have ⟨bd,az,h⟩:=ob h;refine AW.all (rs:=[6,10]) (by kernel_rfl) (by simp) ⟨?_,?_,trivial⟩
       · refine oA ?_;refine T ?_;intro aZ X aM a0 Y a1 Z;exact rt
       refine oA ?_;refine T ?_;intro aN a2 aa;refine jP 6 ?_;refine T ?_;intro a3 ab a4 ac;exact rt
     rintro e a5 ⟨g,hE,ad⟩;obtain ⟨e,rfl⟩:=hE.out;have h:=I;refine gc h ?_ ?_<;>intro _ h
     · exact rt
     refine T ?_;intro a6 ae;exact rt
   exact rt
 intro x e a7 hM;rcases q with q | aV
 · obtain ⟨rfl,hM⟩:=hM;obtain ⟨e,rfl,af⟩:=eo hM;have h:=p;refine T ?_;intro be aA h a8 ah;exact rt
 obtain ⟨rfl,u,rfl,hM⟩:=hM;cases p;exact And.intro trivial hM
instance k_46:Ct prog 46:=⟨by kernel_rfl,@H7⟩
theorem Hf {w0 N g r} (h:sf N g=some r) {b i d} (j:i=g.length) (k:rb w0 b d g) :
    gV prog 107 #[vS b i d] w0 (fun v w=>v=.bool r∧St w0 [] w []):=by
 subst j;unfold sf at h;refine gV.fn func107 fun e=>?_;have aj:=St.start w0;refine jt [] #[vI 0,vI 0,vI 0] ?_;refine T ?_;intro n aM ak aN A;refine go ?_;obtain ⟨m,q,l⟩:=ob h;refine CW.it q (fun f e wb=>En e [(0,vS b g.length d),(3,.pointer (some ⟨n,0,none⟩)),(9,vS b g.length d),(10,vI (g.length:Int)),(11,vI f.1)]∧St w0 [] wb [bx n 48 [vI f.2.1,vI f.2.2.1,vI f.2.2.2]]) (fun o x e wb=>match o with | .inl f=>x=.exit 0∧En e [(0,vS b g.length d)]∧St w0 [] wb [bx n 48 [vI f.2.1,vI f.2.2.1,vI f.2.2.2]] | .inr r=>x=.ret∧∃ u,u=r∧∃ v,kz prog f107.results e wb v∧v=.bool u∧St w0 [] wb []) ?_ (A.po [0]) ?_
 · intro f e aO o hM h;obtain ⟨e,rfl,am⟩:=eo hM;refine gc h ?_ ?_<;>intro _ h
   · refine gb h fun aP C h=>?_;obtain ⟨ad,av,H,rfl,R,ar,au,⟨ab,ae,ac,af,rfl,V,W⟩,U⟩:=k.idx C;refine go ?_;refine T ?_;intro ah ax an ay ao aI X h az ap ai aA aq aB B;obtain ⟨G,p,z⟩:=ob h;refine CW.jn [0,3,6,9,10,11] [0,2] [(35,.bool G)] B (h1:=?_) (h2:=?_)
     · have h:=p;refine go ?_;refine bH h ?_ ?_<;>intro _ h
       · exact rt
       refine T ?_;intro aJ Y h aC I;refine bH h ?_ ?_<;>intro _ h
       · exact rt
       refine T ?_;intro aK Z h aD J;exact rt
     intro e aE K;have h:=z;refine jw [0,3,6,9,10,11,35] fun e=>?_;refine gc h ?_ ?_<;>intro _ h
     · exact rt
     refine T ?_;intro aF L;exact rt
   exact rt
 intro x e aG hM;rcases m with m | aw
 · obtain ⟨rfl,hM⟩:=hM;obtain ⟨e,rfl,M⟩:=eo hM;have h:=l;refine T ?_;intro aL aa h aH O;exact rt
 obtain ⟨rfl,u,rfl,hM⟩:=hM;cases l;exact And.intro trivial hM
instance k_107:Ct prog 107:=⟨by kernel_rfl,@Hf⟩
theorem Ia {w0 N b r} (h:lW N b=some r) {d A l} (J:A=b.Pe.Pd.length) (ad:rb w0 d l b.Pe.Pd) {f B m} (K:B=b.own.length) (ae:rb w0 f m b.own) {g C n} (L:C=b.Pg.length) (af:rb w0 g n b.Pg) {i G p} (M:G=b.py.ag.length) (ah:rb w0 i p b.py.ag) {j H q} (O:H=b.py.gc.gQ.length) (ai:rb w0 j q b.py.gc.gQ) {k I z} (R:I=b.gR.length) (U:rb w0 k z b.gR) :
    gV prog 92 #[.agg #[vS d A l,vS f B m,vS g C n,vS i G p,vI b.py.gc.Ph,vI b.py.gc.Pr,vI b.py.gc.Pj,vS j H q,vS k I z,vI b.Pn,vI b.Pp,vI b.cd.gE,vI b.cd.gX,vI b.cd.g8,vI b.g5,vI b.Pm]] w0 (fun v w=>v=.bool r∧St w0 [] w []):=by
 subst J K L M O R;unfold lW at h;refine gV.fn func92 fun e=>?_;have aH:=St.start w0;refine T ?_;intro bd be ab;obtain ⟨aF,ac,ak⟩:=ob h;refine CW.jn [1] [0] [(61,.bool aF)] ab (h1:=?_) (h2:=?_)
 · have h:=ac;refine T ?_;intro bi aP h bf aI;refine bH h ?_ ?_<;>intro _ h
   · exact rt
   refine T ?_;intro bj aQ h bg aJ;refine bH h ?_ ?_<;>intro _ h
   · exact rt
   refine T ?_;intro a4 ax h aT aK;refine bH h ?_ ?_<;>intro _ h
   · exact rt
   refine T ?_;intro a5 ay h aU aL;refine bH h ?_ ?_<;>intro _ h
   · exact rt
   refine gB h ?_ ?_<;>intro _ h
   · exact rt
   refine T ?_;intro a6 az h aV aM;refine bH h ?_ ?_<;>intro _ h
   · exact rt
   refine T ?_;intro a7 aA h aW aN;refine bH h ?_ ?_<;>intro _ h
   · exact rt
   refine T ?_;intro a8 aB h aX aO;refine bH h ?_ ?_<;>intro _ h
   · exact rt
   refine T ?_;intro a9 aC h aY am;refine bH h ?_ ?_<;>intro _ h
   · exact rt
   refine T ?_;intro ba aD h aZ an;exact rt
 intro e a0 Y;have h:=ak;refine gc h ?_ ?_<;>intro _ h
 · exact rt
 refine go ?_;obtain ⟨W,Z,V⟩:=ob h;refine CW.mono (CW.lx [1] [0] [] 0 (fun X=>[(3,vI X)]) (RT prog f92.results (fun u=>.bool u) w0 []) Y Z (hb:=?_)) ?_
 · intro X e a1 o ao h;refine gc h ?_ ?_<;>intro _ h
   · refine gb h fun bb aa h=>?_;obtain ⟨aG,aR,aj,rfl,ar,av,aw,rfl,au⟩:=U.idx aa;refine go ?_;refine T ?_;intro bc aE h a2 ap;refine CW.fl [1,3,75] fun e=>?_;refine gc h ?_ ?_<;>intro _ h
     · exact rt
     exact rt
   exact rt
 intro x e a3 hM;rcases W with W | aS
 · obtain ⟨rfl,hM⟩:=hM;obtain ⟨e,rfl,aq⟩:=eo hM;rw [show e=iq e [] from rfl];have h:=V;exact rt
 obtain ⟨rfl,u,rfl,hM⟩:=hM;cases V;exact And.intro trivial hM
instance k_92:Ct prog 92:=⟨by kernel_rfl,@Ia⟩
theorem FB {w0 N b r} (h:sJ N b=some r) {f B n} (K:B=b.Pe.Pd.length) (X:rb w0 f n b.Pe.Pd) {g C o} (L:C=b.own.length) (Y:rb w0 g o b.own) {j G q} (M:G=b.Pg.length) (Z:rb w0 j q b.Pg) {k H x} (O:H=b.py.ag.length) (aa:rb w0 k x b.py.ag) {l I z} (R:I=b.py.gc.gQ.length) (ab:rb w0 l z b.py.gc.gQ) {m J A} (U:J=b.gR.length) (ac:rb w0 m A b.gR) :
    gV prog 181 #[.agg #[vS f B n,vS g C o,vS j G q,vS k H x,vI b.py.gc.Ph,vI b.py.gc.Pr,vI b.py.gc.Pj,vS l I z,vS m J A,vI b.Pn,vI b.Pp,vI b.cd.gE,vI b.cd.gX,vI b.cd.g8,vI b.g5,vI b.Pm]] w0 (fun v w=>v=.agg #[vI r.gE,vI r.gX,vI r.g8]∧St w0 [] w []):=by
 subst K L M O R U;unfold sJ at h;refine gV.fn func181 fun e=>?_;have ai:=St.start w0;refine T ?_;intro az aC aj aA aD ak d ar h aE am aB aF an aG ao ay af h au W;refine gc h ?_ ?_<;>intro _ h
 · refine T ?_;intro av ap;exact rt
 refine jK ?_;have aq:=W.drew;refine go ?_;refine jP 3 ?_;refine T ?_;intro V ah h aw ad;refine AW.u (i:=8) rfl (by kernel_rfl) rfl rfl (il.p rfl) ?_;refine AW.u (i:=21) rfl (by kernel_rfl) rfl rfl (il.build (vs:=[(0,vI (i64.wrap ((i64.wrap (d.gE+V))+b.cd.gE))),(1,vI (i64.wrap (d.gX+b.cd.gX))),(2,vI (i64.wrap (d.g8+b.cd.g8)))]) (cs:=#[vI (i64.wrap ((i64.wrap (d.gE+V))+b.cd.gE)),vI (i64.wrap (d.gX+b.cd.gX)),vI (i64.wrap (d.g8+b.cd.g8))]) rfl (by kernel_rfl)) ?_;refine T ?_;intro ax ae;exact rt
instance k_181:Ct prog 181:=⟨by kernel_rfl,@FB⟩
theorem Ac {w0 N H I x r} (h:lR N H I x=some r) {f o j} (q:o=H.length) (u:rb w0 f j H) :
    gV prog 263 #[vS f o j,vI I,.agg #[vI x.gE,vI x.gX,vI x.g8]] w0 (fun v w=>∃ z A,v=.tuple #[vS z r.1.length A,.bool r.2]∧St w0 [] w [sl z A r.1]):=by
 subst q;unfold lR at h;refine gV.fn func263 fun e=>?_;have ah:=St.start w0;refine T ?_;intro aG aH ai J aq h K k aI aj aK ar h aJ M;refine gc h ?_ ?_<;>intro _ h
 · exact rt
 refine gs ?_;obtain ⟨d,C,L⟩:=ob h;refine CW.cut (fun e wb=>∃ (b:Nat),En e [(1,vI I),(8,vS K J.length k),(9,.pointer (some ⟨b,0,none⟩)),(10,.bool d.2.2.2)]∧St w0 [] wb [sl K k J,bx b 48 [vI d.1,vI d.2.1,vI d.2.2.1]]) ?_ ?_
 · have h:=C;refine dW ?_;have ak:=M.drew;refine gb h fun aD G h=>?_;obtain ⟨ad,au,R,rfl,W,Y,aa,rfl,X⟩:=u.idx G;refine go ?_;refine T ?_;have ⟨aE,ac,h⟩:=ob h;refine AW.all (rs:=[6,10]) (by kernel_rfl) (by simp) ⟨?_,?_,trivial⟩
   · refine oA ?_;refine T ?_;intro av am ae aw an ax ao;exact rt
   refine oA ?_;refine T ?_;intro af ay ap;refine jP 6 ?_;refine T ?_;intro az U aA V;exact rt
 rintro e aB ⟨b,hE,l⟩;obtain ⟨e,rfl⟩:=hE.out;have h:=L;refine gc h ?_ ?_<;>intro _ h
 · exact rt
 refine gb h fun aF m h=>?_;obtain ⟨g,p,hae,Z,ab⟩:=l.hZ (α:=g6) (i:=0) rfl m;subst hae;refine go ?_;refine gb h fun O n h=>?_;refine LW.se 2 l 0 m n (hM:=(iU (fun w cs F hF=>by obtain ⟨rfl,rfl⟩:=hF;exact ⟨rfl,rfl⟩))) fun aC B=>?_;refine go ?_;replace h:=oi h;subst h;exact Rc tt tt ⟨(some ⟨g,p,none⟩),k,(show (.tuple #[vS (some ⟨g,p,none⟩) J.length k,.bool true]:Value)=.tuple #[vS (some ⟨g,p,none⟩) O.length k,.bool true] by rw [gS (oi n)]),B.pk [0]⟩
instance k_263:Ct prog 263:=⟨by kernel_rfl,@Ac⟩
theorem Ec {w0 N O Z x r} (h:nD N O Z x=some r) {d o g} (q:o=O.length) (u:rb w0 d g O) :
    gV prog 283 #[vS d o g,vI Z,.agg #[vI x.gE,vI x.gX,vI x.g8]] w0 (fun v w=>∃ z A,v=.tuple #[vS z r.1.length A,.bool r.2]∧St w0 [] w [sl z A r.1]):=by
 subst q;unfold nD at h;refine gV.fn func283 fun e=>?_;have aM:=St.start w0;refine T ?_;intro bs bt aN R aU h U j bu aO bw aV h bv B;refine gc h ?_ ?_<;>intro _ h
 · exact rt
 refine gs ?_;obtain ⟨Y,J,V⟩:=ob h;refine CW.jn [0,1,5,8] [0,1] [(10,.bool Y)] B (h1:=?_) (h2:=?_)
 · have h:=J;refine dW ?_;have aP:=B.drew;refine gb h fun bl aB h=>?_;refine AW.all (rs:=[1,7]) (by kernel_rfl) (by simp) ⟨?_,?_,trivial⟩
   · refine oA ?_;refine T ?_;intro aX aQ;have ⟨bm,aC,h⟩:=ob h;refine AW.all (rs:=[3,7]) (by kernel_rfl) (by simp) ⟨?_,?_,trivial⟩
     · refine oA ?_;refine T ?_;intro aY aR aH aZ aS a0 aT;exact rt
     refine oA ?_;refine T ?_;intro aI a1 ac;refine jP 3 ?_;refine T ?_;intro a2 ad a3 ae;exact rt
   refine oA ?_;refine T ?_;intro aJ a5 af;refine jP 1 ?_;refine T ?_;intro a6 ah bn aD h a7 ai a8 aj;exact rt
 intro e a9 ak;have h:=V;refine gc h ?_ ?_<;>intro _ h
 · exact rt
 refine T ?_;intro bo aE h ba G;obtain ⟨C,K,W⟩:=ob h;refine CW.jn [0,5,8] [0,1] [(1,vI C)] G (h1:=?_) (h2:=?_)
 · have h:=K;refine CW.fl [0,1,5,8,32] fun e=>?_;refine gc h ?_ ?_<;>intro _ h
   · exact rt
   exact rt
 intro e bb H;have h:=W;refine gs ?_;obtain ⟨n,L,X⟩:=ob h;refine CW.cut (fun e wb=>∃ (b:Nat),En e [(1,vI C),(8,vS U R.length j),(11,.pointer (some ⟨b,0,none⟩))]∧St w0 [] wb [sl U j R,bx b 48 [vI n.1,vI n.2.1,vI n.2.2]]) ?_ ?_
 · have h:=L;refine dW ?_;have am:=H.drew;refine gb h fun bp M h=>?_;obtain ⟨aG,aW,ab,rfl,av,ax,az,rfl,aw⟩:=u.idx M;refine go ?_;refine T ?_;have ⟨bq,aF,h⟩:=ob h;refine AW.all (rs:=[6,10]) (by kernel_rfl) (by simp) ⟨?_,?_,trivial⟩
   · refine oA ?_;refine T ?_;intro bc an aK bd ao be ap;exact rt
   refine oA ?_;refine T ?_;intro aL bf aq;refine jP 6 ?_;refine T ?_;intro bg ar bi au;exact rt
 rintro e bj ⟨b,hE,k⟩;obtain ⟨e,rfl⟩:=hE.out;have h:=X;refine gb h fun br l h=>?_;obtain ⟨f,p,hae,ay,aA⟩:=k.hZ (α:=g6) (i:=0) rfl l;subst hae;refine go ?_;refine gb h fun aa m h=>?_;refine LW.se 2 k 0 l m (hM:=(iU (fun w cs F hF=>by obtain ⟨rfl,rfl⟩:=hF;exact ⟨rfl,rfl⟩))) fun bk I=>?_;refine go ?_;replace h:=oi h;subst h;exact Rc tt tt ⟨(some ⟨f,p,none⟩),j,(show (.tuple #[vS (some ⟨f,p,none⟩) R.length j,.bool true]:Value)=.tuple #[vS (some ⟨f,p,none⟩) aa.length j,.bool true] by rw [gS (oi m)]),I.pk [0]⟩
instance k_283:Ct prog 283:=⟨by kernel_rfl,@Ec⟩
theorem IA {w0 N A M r} (h:tF N A M=some r) {f L g} (O:L=A.length) (u:rb w0 f g A) :
    gV prog 49 #[vS f L g,vI M] w0 (fun v w=>∃ X Z,v=vS X r.length Z∧St w0 [] w [sl X Z r]):=by
 subst O;unfold tF at h;refine gV.fn func49 fun e=>?_;have ar:=St.start w0;refine go ?_;refine LW.b0 (α:=Bool) ar ?_;intro cj cl cm bT hf;refine T ?_;intro co bV h cn au;refine gc h ?_ ?_<;>intro _ h
 · exact rt
 refine gb h fun bw ay h=>?_;refine LW.mk MN rfl rfl ay au rfl ?_;intro ck j b3 aa hf;refine gb h fun cb H h=>?_;obtain ⟨b,d,hae,a2,a7⟩:=aa.hZ (α:=Bool) (i:=0) rfl H;subst hae;refine go ?_;have ⟨aA,I,h⟩:=ob h;refine LW.se 0 aa 0 H I (hM:=ui) fun b4 av=>?_;refine go ?_;obtain ⟨bo,V,ae⟩:=ob h;refine CW.ie V 0 (fun k e wb=>En e [(0,vS f A.length g),(1,vI M),(5,vS (some ⟨b,d,none⟩) k.1.length j),(6,vI k.2)]∧St w0 [] wb [sl (some ⟨b,d,none⟩) j k.1]) ?_ ⟨⟨rfl,rfl,(show (vS (some ⟨b,d,none⟩) bw.length j:Value)=vS (some ⟨b,d,none⟩) aA.length j by rw [gS (oi I)]),rfl,trivial⟩,av.pk [0]⟩ ?_
 · intro k e b5 o hM h;obtain ⟨e,rfl,aw⟩:=eo hM;refine jw [0,1,5,6,19] fun e=>?_;refine gc h ?_ ?_<;>intro _ h
   · refine go ?_;obtain ⟨bn,U,ad⟩:=ob h;refine CW.ie U 2 (fun m e wb=>En e [(0,vS f A.length g),(1,vI M),(5,vS (some ⟨b,d,none⟩) m.1.length j),(6,vI k.2),(7,vI m.2)]∧St w0 [] wb [sl (some ⟨b,d,none⟩) j m.1]) ?_ (aw.po [0]) ?_
     · intro m e b6 o hM h;obtain ⟨e,rfl,G⟩:=eo hM;refine gc h ?_ ?_<;>intro _ h
       · refine gs ?_;refine CW.block ?_;refine gs ?_;obtain ⟨az,am,aq⟩:=ob h;refine CW.jn [0,1,5,6,7] [0] [(44,.bool az)] G (h1:=?_) (h2:=?_)
         · have h:=am;refine gb h fun cc J h=>?_;obtain ⟨bI,bW,hae,a3,a9⟩:=G.hZ (α:=Bool) (i:=0) rfl J;cases hae;refine go ?_;obtain ⟨bz,l,ax⟩:=G.freeze (α:=Bool) 0 rfl;obtain ⟨bJ,bX,aH,hae,aT,_,_,aj,aX⟩:=l.ju.idx J;cases hae;obtain rfl:=aj;refine T ?_;refine bH h ?_ ?_<;>intro _ h
           · refine go ?_;have bU:=ax.iD (α:=Bool) 0 rfl l;exact rt
           refine gb h fun ce an h=>?_;obtain ⟨bK,bY,aI,rfl,aU,a4,ba,⟨bB,bO,bC,bP,bD,bQ,rfl,bd,be,bf⟩,aY⟩:=u.idx an;refine go ?_;refine T ?_;intro cf bj h b7 B;refine bH h ?_ ?_<;>intro _ h
           · refine go ?_;have aL:=B.iD (α:=Bool) 0 rfl l;exact rt
           refine go ?_;have aM:=B.iD (α:=Bool) 0 rfl l;exact rt
         intro e b8 aN;have h:=aq;refine gc h ?_ ?_<;>intro _ h
         · exact rt
         refine T ?_;intro ab bk h W Y b9 af;refine go ?_;obtain ⟨bm,R,ac⟩:=ob h;refine CW.ie R 4 (fun n e wb=>En e [(0,vS f A.length g),(1,vI M),(5,vS (some ⟨b,d,none⟩) n.1.length j),(6,vI k.2),(7,vI m.2),(8,vS W ab.length Y),(9,vI n.2)]∧St w0 [] wb [sl W Y ab,sl (some ⟨b,d,none⟩) j n.1]) ?_ (af.po [0,1]) ?_
         · intro n e ca o hM h;obtain ⟨e,rfl,C⟩:=eo hM;refine jw [0,1,5,6,7,8,9,51] fun e=>?_;refine gc h ?_ ?_<;>intro _ h
           · refine gb h fun cg K h=>?_;obtain ⟨bL,bZ,hae,a5,bb⟩:=C.hZ (α:=Int) (i:=0) rfl K;subst hae;refine go ?_;obtain ⟨bA,q,aO⟩:=C.freeze (α:=Int) 0 rfl;obtain ⟨bM,b1,aJ,hae,aV,_,_,ak,aZ⟩:=q.ju.idx K;cases hae;obtain rfl:=ak;refine T ?_;have ⟨ci,ao,h⟩:=ob h;obtain ⟨bN,b2,aK,rfl,aW,a6,bc,⟨bE,bR,bF,bS,bG,aG,rfl,bg,bi,aD⟩,a0⟩:=u.idx ao;refine go ?_;refine T ?_;intro bu aE h bp p;refine CW.fl [0,1,5,6,7,8,9,63] fun e=>?_;refine gc h ?_ ?_<;>intro _ h
             · refine go ?_;refine T ?_;have ⟨bv,x,h⟩:=ob h;obtain ⟨aF,bl,hae,aB,aC⟩:=p.hZ (α:=Bool) (i:=1) rfl x;cases hae;refine go ?_;have ⟨ap,z,h⟩:=ob h;refine LW.se 0 p 1 x z (hM:=ui) fun bq ah=>?_;refine go ?_;replace h:=oi h;subst h;have ai:=ah.iD (α:=Int) 0 rfl q;exact ⟨rfl,⟨⟨rfl,rfl,(show (vS (some ⟨b,d,none⟩) n.1.length j:Value)=vS (some ⟨b,d,none⟩) ap.length j by rw [gS (oi z)]),rfl,rfl,rfl,rfl,trivial⟩,ai.pk [0,1]⟩⟩
             refine go ?_;have aP:=p.iD (α:=Int) 0 rfl q;exact rt
           exact rt
         rintro e br ⟨hE,aQ⟩;obtain ⟨e,rfl⟩:=hE.out;have h:=ac;exact rt
       exact rt
     rintro e bs ⟨hE,aR⟩;obtain ⟨e,rfl⟩:=hE.out;have h:=ad;exact rt
   exact rt
 rintro e bt ⟨hE,aS⟩;obtain ⟨e,rfl⟩:=hE.out;have h:=ae;exact rt
instance k_49:Ct prog 49:=⟨by kernel_rfl,@IA⟩
theorem wO {w0 N b M r} (h:mf N b M=some r) {d u l} (G:u=b.Pe.Pd.length) (O:rb w0 d l b.Pe.Pd) {f x m} (H:x=b.own.length) (R:rb w0 f m b.own) {g z n} (I:z=b.Pg.length) (U:rb w0 g n b.Pg) {i A o} (J:A=b.py.ag.length) (V:rb w0 i o b.py.ag) {j B p} (K:B=b.py.gc.gQ.length) (W:rb w0 j p b.py.gc.gQ) {k C q} (L:C=b.gR.length) (X:rb w0 k q b.gR) :
    gV prog 268 #[.agg #[vS d u l,vS f x m,vS g z n,vS i A o,vI b.py.gc.Ph,vI b.py.gc.Pr,vI b.py.gc.Pj,vS j B p,vS k C q,vI b.Pn,vI b.Pp,vI b.cd.gE,vI b.cd.gX,vI b.cd.g8,vI b.g5,vI b.Pm],vI M] w0 (fun v w=>v=vI r∧St w0 [] w []):=by
 subst G H I J K L;unfold mf at h;refine gV.fn func268 fun e=>?_;have Y:=St.start w0;refine T ?_;intro ac ad Z af ab h ae aa;refine gc h ?_ ?_<;>intro _ h
 · exact rt
 exact rt
instance k_268:Ct prog 268:=⟨by kernel_rfl,@wO⟩
end Go.Kx
