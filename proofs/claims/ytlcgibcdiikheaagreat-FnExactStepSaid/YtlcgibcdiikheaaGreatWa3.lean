import Derived.Test.YtlcgibcdiikheaaGreatWa0
import Derived.Test.YtlcgibcdiikheaaGreatWa1
namespace Go.Kx
open Go Go.RowKit Go.Proofs
open Tryz
set_option maxRecDepth 10000
set_option maxHeartbeats 8000000
set_option linter.unusedVariables false
set_option linter.unusedSimpArgs false
theorem F8 {w0 N b r} (h:tK N b=some r) :
    pY prog 250 #[vI b] w0 (fun v w=>v=.bool r∧St w0 [] w []):=by
 unfold tK at h;refine pY.fn func250 fun e=>?_;have d:=St.start w0;refine T ?_;intro j g h i f;exact rt
instance k_250:Ct prog 250:=⟨by kernel_rfl,@F8⟩
theorem GQ {w0 N b r} (h:wC N b=some r) :
    pY prog 162 #[vI b] w0 (fun v w=>v=.bool r∧St w0 [] w []):=by
 unfold wC at h;refine pY.fn func162 fun e=>?_;have d:=St.start w0;refine T ?_;intro j g h i f;exact rt
instance k_162:Ct prog 162:=⟨by kernel_rfl,@GQ⟩
theorem K9 {w0 N m r} (h:xc N m=some r) {b f d} (g:f=m.Va.length) (i:rb w0 b d m.Va) :
    pY prog 204 #[.agg #[vS b f d]] w0 (fun v w=>v=.bool r∧St w0 [] w []):=by
 subst g;unfold xc at h;refine pY.fn func204 fun e=>?_;have G:=St.start w0;refine T ?_;intro X Y n;refine go ?_;obtain ⟨k,l,j⟩:=ob h;refine CW.mono (CW.lx [1,6,7] [0] [1] 0 (fun q=>[(8,vI q)]) (RT prog f204.results (fun u=>.bool u) w0 []) n l (hb:=?_)) ?_
 · intro q e Z o H h;refine gc h ?_ ?_<;>intro _ h
   · refine gb h fun aa p h=>?_;obtain ⟨W,M,z,rfl,A,K,L,rfl,B⟩:=i.idx p;refine go ?_;refine T ?_;intro V C h R I;refine CW.fl [1,6,7,8,14] fun e=>?_;refine gc h ?_ ?_<;>intro _ h
     · exact rt
     exact rt
   exact rt
 intro x e U hM;rcases k with k | O
 · obtain ⟨rfl,hM⟩:=hM;obtain ⟨e,rfl,J⟩:=eo hM;have h:=j;exact rt
 obtain ⟨rfl,u,rfl,hM⟩:=hM;cases j;exact And.intro trivial hM
instance k_204:Ct prog 204:=⟨by kernel_rfl,@K9⟩
theorem O6 {w0 N q r} (h:AH N q=some r) {d g f} (i:g=q.length) (b:rb w0 d f q) :
    pY prog 205 #[vS d g f] w0 (fun v w=>v=.bool r∧St w0 [] w []):=by
 subst i;unfold AH at h;refine pY.fn func205 fun e=>?_;have A:=St.start w0;refine go ?_;obtain ⟨k,n,j⟩:=ob h;refine CW.mono (CW.lx [0,5,6] [] [] 0 (fun H=>[(7,vI H)]) (RT prog f205.results (fun u=>.bool u) w0 []) A n (hb:=?_)) ?_
 · intro H e an o B h;refine gc h ?_ ?_<;>intro _ h
   · refine gb h fun ao C h=>?_;obtain ⟨ak,am,W,rfl,J,aa,ab,rfl,L⟩:=b.idx C;refine go ?_;refine T ?_;obtain ⟨G,m,z⟩:=ob h;refine CW.jn [0,5,6,7] [] [(27,.bool G)] B (h1:=?_) (h2:=?_)
     · have h:=m;refine T ?_;intro ai U h ae X;refine bH h ?_ ?_<;>intro _ h
       · exact rt
       refine gB h ?_ ?_<;>intro _ h
       · refine gb h fun aj p h=>?_;obtain ⟨V,ac,I,hae,K,O,R,l,M⟩:=b.idx p;cases hae;obtain rfl:=l;refine go ?_;refine T ?_;exact rt
       exact rt
     intro e af Y;have h:=z;refine gc h ?_ ?_<;>intro _ h
     · exact rt
     exact rt
   exact rt
 intro x e ah hM;rcases k with k | ad
 · obtain ⟨rfl,hM⟩:=hM;obtain ⟨e,rfl,Z⟩:=eo hM;rw [show e=qy e [] from rfl];have h:=j;exact rt
 obtain ⟨rfl,u,rfl,hM⟩:=hM;cases j;exact And.intro trivial hM
instance k_205:Ct prog 205:=⟨by kernel_rfl,@O6⟩
theorem Jk {w0 N b r} (h:vd N b=some r) :
    pY prog 247 #[vI b] w0 (fun v w=>v=.bool r∧St w0 [] w []):=by
 unfold vd at h;refine pY.fn func247 fun e=>?_;have d:=St.start w0;refine T ?_;intro j g h i f;exact rt
instance k_247:Ct prog 247:=⟨by kernel_rfl,@Jk⟩
theorem MW {w0 N b r} (h:uF N b=some r) :
    pY prog 100 #[vI b] w0 (fun v w=>v=.bool r∧St w0 [] w []):=by
 unfold uF at h;refine pY.fn func100 fun e=>?_;have d:=St.start w0;refine T ?_;intro j g h i f;exact rt
instance k_100:Ct prog 100:=⟨by kernel_rfl,@MW⟩
theorem Gc {w0 N i j r} (h:s5 N i j=some r) {b f d} (g:f=i.length) (k:rb w0 b d i) :
    pY prog 155 #[vS b f d,vI j] w0 (fun v w=>v=.bool r∧St w0 [] w []):=by
 subst g;unfold s5 at h;refine pY.fn func155 fun e=>?_;have l:=St.start w0;refine T ?_;intro p n h o m;exact rt
instance k_155:Ct prog 155:=⟨by kernel_rfl,@Gc⟩
theorem F6 {w0 N b d r} (h:zO N b d=some r) {f z m} (I:z=b.pX.length) (R:rb w0 f m b.pX) {g A n} (J:A=b.Vh.length) (U:rb w0 g n b.Vh) {i B o} (K:B=b.Vf.length) (V:rb w0 i o b.Vf) {j C p} (L:C=d.pX.length) (W:rb w0 j p d.pX) {k G q} (M:G=d.Vh.length) (X:rb w0 k q d.Vh) {l H x} (O:H=d.Vf.length) (Y:rb w0 l x d.Vf) :
    pY prog 357 #[.agg #[vI b.Vr,vI b.Vc,vI b.box,vI b.Vp,vI b.qx,vI b.gE,vI b.Vl,vI b.qw,vI b.qq,.bool b.Vm,vS f z m,vS g A n,vS i B o],.agg #[vI d.Vr,vI d.Vc,vI d.box,vI d.Vp,vI d.qx,vI d.gE,vI d.Vl,vI d.qw,vI d.qq,.bool d.Vm,vS j C p,vS k G q,vS l H x]] w0 (fun v w=>v=.bool r∧St w0 [] w []):=by
 subst I J K L M O;unfold zO at h;refine pY.fn func357 fun e=>?_;have ac:=St.start w0;refine T ?_;intro aq au ad ar av ae;refine gB h ?_ ?_<;>intro _ h
 · refine gB h ?_ ?_<;>intro _ h
   · refine go ?_;refine bH h ?_ ?_<;>intro _ h
     · refine gB h ?_ ?_<;>intro _ h
       · refine gB h ?_ ?_<;>intro _ h
         · refine gB h ?_ ?_<;>intro _ h
           · refine go ?_;refine bH h ?_ ?_<;>intro _ h
             · refine gB h ?_ ?_<;>intro _ h
               · refine gB h ?_ ?_<;>intro _ h
                 · refine go ?_;refine LW.u (qp.beq underlying4 rfl rfl) rfl ?_;refine gB h ?_ ?_<;>intro _ h
                   · refine go ?_;refine T ?_;intro an Z h aj af;refine bH h ?_ ?_<;>intro _ h
                     · refine T ?_;intro ao aa h ak ah;refine bH h ?_ ?_<;>intro _ h
                       · refine T ?_;intro ap ab h am ai;exact rt
                       exact rt
                     exact rt
                   exact rt
                 exact rt
               exact rt
             exact rt
           exact rt
         exact rt
       exact rt
     exact rt
   exact rt
 exact rt
instance k_357:Ct prog 357:=⟨by kernel_rfl,@F6⟩
theorem EM {w0 N b r} (h:tC N b=some r) :
    pY prog 226 #[vI b] w0 (fun v w=>v=.bool r∧St w0 [] w []):=by
 unfold tC at h;refine pY.fn func226 fun e=>?_;have d:=St.start w0;refine T ?_;intro j g h i f;exact rt
instance k_226:Ct prog 226:=⟨by kernel_rfl,@EM⟩
theorem K5 {w0 N i j r} (h:vE N i j=some r) {b f d} (g:f=i.parts.length) (k:rb w0 b d i.parts) :
    pY prog 76 #[.agg #[vI i.Vo,vS b f d],vI j] w0 (fun v w=>v=.bool r∧St w0 [] w []):=by
 subst g;unfold vE at h;refine pY.fn func76 fun e=>?_;have l:=St.start w0;refine T ?_;intro p q m x o h u n;exact rt
instance k_76:Ct prog 76:=⟨by kernel_rfl,@K5⟩
theorem IS {w0 N p r} (h:wq N p=some r) {k n l} (q:n=p.length) (u:rb w0 k l p) :
    pY prog 306 #[vS k n l] w0 (fun v w=>∃ z B,v=vS z r.length B∧St w0 [] w [sl z B r]):=by
 subst q;unfold wq at h;refine pY.fn func306 fun e=>?_;have K:=St.start w0;refine go ?_;refine LW.b0 (α:=qF) K ?_;intro X Y aB O hf;refine go ?_;obtain ⟨ar,H,J⟩:=ob h;refine CW.ie H 0 (fun m e wb=>∃ (b:Ad) (d:Nat),En e [(3,vS b m.1.length d),(7,vS k p.length l),(8,vI (p.length:Int)),(9,vI m.2)]∧St w0 [] wb [sl b d m.1]) ?_ ⟨X,Y,O.po [0]⟩ ?_
 · intro m e aC o hM h;obtain ⟨b,d,hE,ai⟩:=hM;obtain ⟨e,rfl⟩:=hE.out;refine gc h ?_ ?_<;>intro _ h
   · refine gb h fun W V h=>?_;obtain ⟨af,aq,Z,rfl,aa,ao,ap,⟨x,A,rfl,ac⟩,ab⟩:=u.idx V;refine go ?_;refine T ?_;intro C av aj aw ak j ad h f g ax R;refine LW.bd [(0,vS f j.length g)] #[vS f j.length g] ?_;have U:=R.pk (M:=[sl f g j]++[bx C 228 [vS x W.Vt.length A],sl b d m.1]) [0,1,2];have ⟨aA,I,h⟩:=ob h;refine LW.tQ (M:=[sl f g j]) (L:=[bx C 228 [vS x W.Vt.length A],sl b d m.1]) (vs:=#[vS f j.length g]) (i:=1) QL rfl (by kernel_rfl) rfl rfl I U rfl (fun w G hG=>⟨f,g,rfl,hG⟩) rfl rfl ?_;intro au ae ah ay am hf;exact rt
   exact rt
 rintro e az ⟨b,d,hE,an⟩;obtain ⟨e,rfl⟩:=hE.out;have h:=J;exact rt
instance k_306:Ct prog 306:=⟨by kernel_rfl,@IS⟩
theorem Lh {w0 N m n r} (h:zU N m n=some r) {b i f} (k:i=m.Va.length) (o:rb w0 b f m.Va) {d j g} (l:j=n.Va.length) (p:rb w0 d g n.Va) :
    pY prog 207 #[.agg #[vS b i f],.agg #[vS d j g]] w0 (fun v w=>v=.bool r∧St w0 [] w []):=by
 subst k l;unfold zU at h;refine pY.fn func207 fun e=>?_;have q:=St.start w0;refine T ?_;intro B G u C H x J A h I z;refine gc h ?_ ?_<;>intro _ h
 · exact rt
 exact rt
instance k_207:Ct prog 207:=⟨by kernel_rfl,@Lh⟩
theorem Oi {w0 N b d r} (h:AF N b d=some r) :
    pY prog 344 #[.agg #[.bool b.Vs,vI b.Vq,vI b.qI.gE,vI b.qI.qa,vI b.qI.qg],.agg #[.bool d.Vs,vI d.Vq,vI d.qI.gE,vI d.qI.qa,vI d.qI.qg]] w0 (fun v w=>v=.bool r∧St w0 [] w []):=by
 unfold AF at h;refine pY.fn func344 fun e=>?_;have f:=St.start w0;refine T ?_;intro l n g m o i;refine LW.u (qp.bne underlying4 rfl rfl) rfl ?_;refine gc h ?_ ?_<;>intro _ h
 · exact rt
 refine rU [2,3,14] fun e=>?_;refine gc h ?_ ?_<;>intro _ h
 · exact rt
 refine T ?_;intro q k h p j;refine gc h ?_ ?_<;>intro _ h
 · exact rt
 exact rt
instance k_344:Ct prog 344:=⟨by kernel_rfl,@Oi⟩
theorem ML {w0 N B C r} (h:Ce N B C=some r) {b i f} (k:i=B.length) (m:rb w0 b f B) {d j g} (l:j=C.length) (n:rb w0 d g C) :
    pY prog 362 #[vS b i f,vS d j g] w0 (fun v w=>v=.bool r∧St w0 [] w []):=by
 subst k l;unfold Ce at h;refine pY.fn func362 fun e=>?_;have G:=St.start w0;refine gc h ?_ ?_<;>intro _ h
 · exact rt
 refine go ?_;obtain ⟨q,z,p⟩:=ob h;refine CW.mono (CW.lx [0,1] [] [] 0 (fun J=>[(5,vI J)]) (RT prog f362.results (fun u=>.bool u) w0 []) G z (hb:=?_)) ?_
 · intro J e ao o H h;refine gc h ?_ ?_<;>intro _ h
   · refine sf ?_;have Z:=H.drew;refine gb h fun ap I h=>?_;obtain ⟨am,an,K,rfl,M,ac,ad,rfl,R⟩:=m.idx I;refine go ?_;refine T ?_;have ⟨aj,A,h⟩:=ob h;obtain ⟨Y,ae,L,rfl,O,V,W,rfl,U⟩:=n.idx A;refine go ?_;refine T ?_;intro ak X h ah aa;refine gc h ?_ ?_<;>intro _ h
     · exact rt
     exact rt
   exact rt
 intro x e ai hM;rcases q with q | af
 · obtain ⟨rfl,hM⟩:=hM;obtain ⟨e,rfl,ab⟩:=eo hM;rw [show e=qy e [] from rfl];have h:=p;exact rt
 obtain ⟨rfl,u,rfl,hM⟩:=hM;cases p;exact And.intro trivial hM
instance k_362:Ct prog 362:=⟨by kernel_rfl,@ML⟩
theorem PC {w0 N b d r} (h:Dd N b d=some r) {f k i} (m:k=b.pT.length) (o:rb w0 f i b.pT) {g l j} (n:l=d.pT.length) (p:rb w0 g j d.pT) :
    pY prog 346 #[.agg #[vI b.Ve,vI b.Vn,vI b.Vg,vS f k i],.agg #[vI d.Ve,vI d.Vn,vI d.Vg,vS g l j]] w0 (fun v w=>v=.bool r∧St w0 [] w []):=by
 subst m n;unfold Dd at h;refine pY.fn func346 fun e=>?_;have q:=St.start w0;refine T ?_;intro B G u C H x;refine gc h ?_ ?_<;>intro _ h
 · exact rt
 refine rU [2,3,14] fun e=>?_;refine gc h ?_ ?_<;>intro _ h
 · exact rt
 refine gc h ?_ ?_<;>intro _ h
 · exact rt
 refine T ?_;intro J A h I z;refine gc h ?_ ?_<;>intro _ h
 · exact rt
 exact rt
instance k_346:Ct prog 346:=⟨by kernel_rfl,@PC⟩
theorem MH {w0 N B C r} (h:CA N B C=some r) {b i f} (k:i=B.length) (m:rb w0 b f B) {d j g} (l:j=C.length) (n:rb w0 d g C) :
    pY prog 291 #[vS b i f,vS d j g] w0 (fun v w=>v=.bool r∧St w0 [] w []):=by
 subst k l;unfold CA at h;refine pY.fn func291 fun e=>?_;have G:=St.start w0;refine gc h ?_ ?_<;>intro _ h
 · exact rt
 refine go ?_;obtain ⟨q,z,p⟩:=ob h;refine CW.mono (CW.lx [0,1] [] [] 0 (fun J=>[(5,vI J)]) (RT prog f291.results (fun u=>.bool u) w0 []) G z (hb:=?_)) ?_
 · intro J e ao o H h;refine gc h ?_ ?_<;>intro _ h
   · refine sf ?_;have Z:=H.drew;refine gb h fun ap I h=>?_;obtain ⟨am,an,K,rfl,M,ac,ad,rfl,R⟩:=m.idx I;refine go ?_;refine T ?_;have ⟨aj,A,h⟩:=ob h;obtain ⟨Y,ae,L,rfl,O,V,W,rfl,U⟩:=n.idx A;refine go ?_;refine T ?_;intro ak X h ah aa;refine gc h ?_ ?_<;>intro _ h
     · exact rt
     exact rt
   exact rt
 intro x e ai hM;rcases q with q | af
 · obtain ⟨rfl,hM⟩:=hM;obtain ⟨e,rfl,ab⟩:=eo hM;rw [show e=qy e [] from rfl];have h:=p;exact rt
 obtain ⟨rfl,u,rfl,hM⟩:=hM;cases p;exact And.intro trivial hM
instance k_291:Ct prog 291:=⟨by kernel_rfl,@MH⟩
theorem Fp {w0} {F:List Nat} {N bB bE r} (h:yE N bB bE=some r) {L aL I} (aP:aL=bB.length) (hS:St w0 F w0 [sl L I bB]) :
    pY prog 191 #[vS L aL I,vI bE] w0 (fun v w=>v=vI r.1∧St w0 F w [sl L I r.2]):=by
 subst aP;unfold yE at h;refine pY.fn func191 fun e=>?_;refine go ?_;obtain ⟨b2,aS,a6⟩:=ob h;refine CW.ie aS 0 (fun n e wb=>En e [(0,vS L n.1.length I),(1,vI n.2.1),(5,vI n.2.2)]∧St w0 F wb [sl L I n.1]) ?_ ⟨⟨rfl,rfl,rfl,trivial⟩,hS.pk [0]⟩ ?_
 · intro n e cV o hM h;obtain ⟨e,rfl,aW⟩:=eo hM;refine gc h ?_ ?_<;>intro _ h
   · refine gb h fun cW a5 h=>?_;obtain ⟨bC,bD,hae,co,cp⟩:=aW.qk (α:=j8) (i:=0) rfl a5;subst hae;refine go ?_;refine gb h fun cX k h=>?_;refine LW.se 0 aW 0 a5 k (hM:=(rm (fun w cs F hF=>by obtain ⟨q,A,x,B,z,C,rfl,hH⟩:=hF;exact ⟨q,A,x,B,z,C,rfl,hH⟩))) fun cC aX=>?_;refine gb h fun cM aC h=>?_;obtain ⟨ca,cq,hae,be,bo⟩:=aX.qk (α:=j8) (i:=0) rfl aC;cases hae;(try refine LW.u (qp.ix underlying41 uM rfl rfl be (by rw [pV (oi k)];exact bo)) rfl ?_);refine gb h fun bF d h=>?_;refine LW.se 1 aX 0 aC d (hM:=(rm (fun w cs F hF=>by obtain ⟨q,A,x,B,z,C,rfl,hH⟩:=hF;exact ⟨q,A,x,B,z,C,rfl,hH⟩))) fun cD aY=>?_;refine go ?_;have ⟨cN,aD,h⟩:=ob h;obtain ⟨cb,cr,hae,bf,bp⟩:=aY.qk (α:=j8) (i:=0) rfl aD;cases hae;(try refine LW.u (qp.ix underlying41 uM rfl rfl bf (by rw [show n.1.length=bF.length from ((pV (oi k)).trans (pV (oi d)))];exact bp)) rfl ?_);refine gb h fun bG f h=>?_;refine LW.se 2 aY 0 aD f (hM:=(rm (fun w cs F hF=>by obtain ⟨q,A,x,B,z,C,rfl,hH⟩:=hF;exact ⟨q,A,x,B,z,C,rfl,hH⟩))) fun cE aZ=>?_;refine gb h fun cO aE h=>?_;obtain ⟨cc,ct,hae,bg,bq⟩:=aZ.qk (α:=j8) (i:=0) rfl aE;cases hae;(try refine LW.u (qp.ix underlying41 uM rfl rfl bg (by rw [show n.1.length=bG.length from (((pV (oi k)).trans (pV (oi d))).trans (pV (oi f)))];exact bq)) rfl ?_);refine gb h fun bI g h=>?_;refine LW.se 3 aZ 0 aE g (hM:=(rm (fun w cs F hF=>by obtain ⟨q,A,x,B,z,C,rfl,hH⟩:=hF;exact ⟨q,A,x,B,z,C,rfl,hH⟩))) fun cF a0=>?_;refine gb h fun cP aF h=>?_;obtain ⟨ce,cu,hae,bi,br⟩:=a0.qk (α:=j8) (i:=0) rfl aF;cases hae;(try refine LW.u (qp.ix underlying41 uM rfl rfl bi (by rw [show n.1.length=bI.length from ((((pV (oi k)).trans (pV (oi d))).trans (pV (oi f))).trans (pV (oi g)))];exact br)) rfl ?_);refine gb h fun bJ m h=>?_;refine LW.se 4 a0 0 aF m (hM:=(rm (fun w cs F hF=>by obtain ⟨q,A,x,B,z,C,rfl,hH⟩:=hF;exact ⟨q,A,x,B,z,C,rfl,hH⟩))) fun cG a1=>?_;refine go ?_;have ⟨cQ,aG,h⟩:=ob h;obtain ⟨cf,cv,hae,bj,bs⟩:=a1.qk (α:=j8) (i:=0) rfl aG;cases hae
     (try refine LW.u (qp.ix underlying41 uM rfl rfl bj (by rw [show n.1.length=bJ.length from (((((pV (oi k)).trans (pV (oi d))).trans (pV (oi f))).trans (pV (oi g))).trans (pV (oi m)))];exact bs)) rfl ?_);refine gb h fun bK p h=>?_;refine LW.se 5 a1 0 aG p (hM:=(rm (fun w cs F hF=>by obtain ⟨q,A,x,B,z,C,rfl,hH⟩:=hF;exact ⟨q,A,x,B,z,C,rfl,hH⟩))) fun cH a2=>?_;refine gb h fun cR aH h=>?_;obtain ⟨cg,cw,hae,bk,bt⟩:=a2.qk (α:=j8) (i:=0) rfl aH;cases hae;(try refine LW.u (qp.ix underlying41 uM rfl rfl bk (by rw [show n.1.length=bK.length from ((((((pV (oi k)).trans (pV (oi d))).trans (pV (oi f))).trans (pV (oi g))).trans (pV (oi m))).trans (pV (oi p)))];exact bt)) rfl ?_);refine gb h fun bL H h=>?_;refine LW.se 6 a2 0 aH H (hM:=(rm (fun w cs F hF=>by obtain ⟨q,A,x,B,z,C,rfl,hH⟩:=hF;exact ⟨q,A,x,B,z,C,rfl,hH⟩))) fun cI a3=>?_;refine gb h fun cS aI h=>?_;obtain ⟨ci,cx,hae,bl,bu⟩:=a3.qk (α:=j8) (i:=0) rfl aI;cases hae;(try refine LW.u (qp.ix underlying41 uM rfl rfl bl (by rw [show n.1.length=bL.length from (((((((pV (oi k)).trans (pV (oi d))).trans (pV (oi f))).trans (pV (oi g))).trans (pV (oi m))).trans (pV (oi p))).trans (pV (oi H)))];exact bu)) rfl ?_);refine gb h fun bM J h=>?_;refine LW.se 7 a3 0 aI J (hM:=(rm (fun w cs F hF=>by obtain ⟨q,A,x,B,z,C,rfl,hH⟩:=hF;exact ⟨q,A,x,B,z,C,rfl,hH⟩))) fun cJ a4=>?_;refine go ?_;have ⟨cT,aJ,h⟩:=ob h;obtain ⟨cj,cy,hae,bm,bv⟩:=a4.qk (α:=j8) (i:=0) rfl aJ;cases hae;(try refine LW.u (qp.ix underlying41 uM rfl rfl bm (by rw [show n.1.length=bM.length from ((((((((pV (oi k)).trans (pV (oi d))).trans (pV (oi f))).trans (pV (oi g))).trans (pV (oi m))).trans (pV (oi p))).trans (pV (oi H))).trans (pV (oi J)))];exact bv)) rfl ?_);refine gb h fun bN K h=>?_;refine LW.se 8 a4 0 aJ K (hM:=(rm (fun w cs F hF=>by obtain ⟨q,A,x,B,z,C,rfl,hH⟩:=hF;exact ⟨q,A,x,B,z,C,rfl,hH⟩))) fun cK ax=>?_;refine go ?_;refine LW.u (qp.rem rfl rfl (by decide)) rfl ?_;refine gb h fun cU aK h=>?_
     obtain ⟨ck,cz,hae,bn,bw⟩:=ax.qk (α:=j8) (i:=0) rfl aK;cases hae;(try refine LW.u (qp.ix underlying41 uM rfl rfl bn (by rw [show n.1.length=bN.length from (((((((((pV (oi k)).trans (pV (oi d))).trans (pV (oi f))).trans (pV (oi g))).trans (pV (oi m))).trans (pV (oi p))).trans (pV (oi H))).trans (pV (oi J))).trans (pV (oi K)))];exact bw)) rfl ?_);refine gb h fun af M h=>?_;refine LW.se 9 ax 0 aK M (hM:=(rm (fun w cs F hF=>by obtain ⟨q,A,x,B,z,C,rfl,hH⟩:=hF;exact ⟨q,A,x,B,z,C,rfl,hH⟩))) fun cL ay=>?_;refine gb h fun b am h=>?_;obtain ⟨cm,cA,hae,aj,ak⟩:=ay.qk (α:=j8) (i:=0) rfl am;cases hae;(try refine LW.u (qp.ix underlying41 uM rfl rfl aj (by rw [show n.1.length=af.length from ((((((((((pV (oi k)).trans (pV (oi d))).trans (pV (oi f))).trans (pV (oi g))).trans (pV (oi m))).trans (pV (oi p))).trans (pV (oi H))).trans (pV (oi J))).trans (pV (oi K))).trans (pV (oi M)))];exact ak)) rfl ?_);refine go ?_;obtain ⟨b9,aB,az⟩:=ay.freeze (α:=j8) 0 rfl;obtain ⟨cn,cB,b0,hae,bb,_,_,bc,bd⟩:=aB.rQ.idx am;cases hae;obtain ⟨an,ao,O,U,R,V,rfl,b1,bP,bQ⟩:=bc;refine T ?_;have ⟨Z,aT,h⟩:=ob h;obtain ⟨b3,ac,W⟩:=vl aT;obtain ⟨au,W⟩:=qN W;rw [oi W] at ac au;have aQ:=fun (j:Nat) (u:Value) (hu:([vI b.Vr,vI b.Vc,vI b.box,vI b.Vp,vI b.qx,vI b.gE,vI b.Vl,vI b.qw,vI b.qq,.bool b.Vm,vS an b.pX.length ao,vS O b.Vh.length U,vS R b.Vf.length V]:List Value)[j]?=some u)=>(World.cell?_of_block (az.zC 0 rfl bb)).trans (bd j u hu);have a7:=az.qG (α:=j8) 0 rfl aB;obtain ⟨bO,aR,aO⟩:=a7.focus (α:=j8) (cs:=[vI b.Vr,vI b.Vc,vI b.box,vI b.Vp,vI b.qx,vI b.gE,vI b.Vl,vI b.qw,vI b.qq,.bool b.Vm,vS an b.pX.length ao,vS O b.Vh.length U,vS R b.Vf.length V]) 0 rfl am rfl aQ;obtain ⟨bU,bX,bV,bY,bW,bZ,aN,aM⟩:=aR;cases aN;have a8:=aO [sl an ao b.pX,sl O U b.Vh,sl R V b.Vf] aM;obtain ⟨bR,ap⟩:=a8.uj [0] [1,2,3]
     refine LW.cl (xh ac rfl ap.st) ?_;rintro _ bz ⟨rfl,hs⟩;have ah:=ap.back _ _ hs;refine go ?_;(try refine LW.u (qp.ix underlying41 uM rfl rfl aj (by rw [show n.1.length=af.length from ((((((((((pV (oi k)).trans (pV (oi d))).trans (pV (oi f))).trans (pV (oi g))).trans (pV (oi m))).trans (pV (oi p))).trans (pV (oi H))).trans (pV (oi J))).trans (pV (oi K))).trans (pV (oi M)))];exact ak)) rfl ?_);refine go ?_;refine LW.l (rh.rR bz B0 rfl (ah.yA 3 rfl (j:=11) rfl)) rfl rfl ?_;refine gb h fun aa aU h=>?_;obtain ⟨b4,ad,X⟩:=vl aU;obtain ⟨av,X⟩:=qN X;rw [oi X] at ad av;rw [show b.pX.length=Z.2.length from au] at ah;obtain ⟨bS,aq⟩:=ah.uj [1] [0,2,3];refine LW.cl (xh ad rfl aq.st) ?_;rintro _ bA ⟨rfl,hs⟩;have ai:=aq.back _ _ hs;refine go ?_;(try refine LW.u (qp.ix underlying41 uM rfl rfl aj (by rw [show n.1.length=af.length from ((((((((((pV (oi k)).trans (pV (oi d))).trans (pV (oi f))).trans (pV (oi g))).trans (pV (oi m))).trans (pV (oi p))).trans (pV (oi H))).trans (pV (oi J))).trans (pV (oi K))).trans (pV (oi M)))];exact ak)) rfl ?_);refine go ?_;refine LW.l (rh.rR bA yz rfl (ai.yA 3 rfl (j:=12) rfl)) rfl rfl ?_;refine gb h fun ab aV h=>?_;obtain ⟨b5,ae,Y⟩:=vl aV;obtain ⟨aw,Y⟩:=qN Y;rw [oi Y] at ae aw;rw [show b.Vh.length=aa.2.length from av] at ai;obtain ⟨bT,ar⟩:=ai.uj [2] [0,1,3];refine LW.cl (E2 ae rfl ar.st) ?_;rintro _ b6 ⟨rfl,hs⟩;have aA:=ar.back _ _ hs;refine go ?_;replace h:=oi h;subst h;rw [show b.Vf.length=ab.2.length from aw] at aA;have a9:=aA.vH (j8.mk b.Vr b.Vc b.box b.Vp b.qx b.gE b.Vl b.qw b.qq b.Vm Z.2 aa.2 ab.2) [2,1,0,3] 3 0 rfl rfl (fun w G hG=>⟨an,ao,O,U,R,V,rfl,hG⟩)
     exact ⟨rfl,⟨⟨(show (vS (some ⟨bC,bD,none⟩) n.1.length I:Value)=vS (some ⟨bC,bD,none⟩) ((af.set (n.2.2:Int).toNat (j8.mk b.Vr b.Vc b.box b.Vp b.qx b.gE b.Vl b.qw b.qq b.Vm Z.2 aa.2 ab.2)).length) I by rw [show n.1.length=(af.set (n.2.2:Int).toNat (j8.mk b.Vr b.Vc b.box b.Vp b.qx b.gE b.Vl b.qw b.qq b.Vm Z.2 aa.2 ab.2)).length from (((((((((((pV (oi k)).trans (pV (oi d))).trans (pV (oi f))).trans (pV (oi g))).trans (pV (oi m))).trans (pV (oi p))).trans (pV (oi H))).trans (pV (oi J))).trans (pV (oi K))).trans (pV (oi M))).trans (pV rfl))]),rfl,rfl,trivial⟩,a9.pk [0]⟩⟩
   exact rt
 rintro e b8 ⟨hE,ba⟩;obtain ⟨e,rfl⟩:=hE.out;have h:=a6;refine go ?_;replace h:=oi h;subst h;exact Ra ⟨rfl,ba.pk [0]⟩
instance k_191:Ct prog 191:=⟨by kernel_rfl,@Fp⟩
end Go.Kx
