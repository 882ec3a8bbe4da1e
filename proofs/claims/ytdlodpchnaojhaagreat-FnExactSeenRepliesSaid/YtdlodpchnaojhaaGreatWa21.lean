import Derived.Test.YtdlodpchnaojhaaGreatWa3
namespace Go.Kx
open Go Go.RowKit Go.Proofs
open Tryz
set_option maxRecDepth 10000
set_option maxHeartbeats 8000000
set_option linter.unusedVariables false
set_option linter.unusedSimpArgs false
theorem xJ {w0} {F:List Nat} {N k q r} (h:pT N k q=some r) {b i d} (j:i=k.NY.length) (hS:St w0 F w0 [sl b d k.NY]) :
    gV prog 35 #[.agg #[vS b i d],vI q] w0 (fun v w=>v=vI r.1∧St w0 F w [sl b d r.2]):=by
 subst j;unfold pT at h;refine gV.fn func35 fun e=>?_;refine T ?_;intro z B o;have ⟨u,p,h⟩:=ob h;obtain ⟨A,g,f⟩:=pA p;obtain ⟨n,f⟩:=iN f;rw [oi f] at g n;obtain ⟨x,l⟩:=o.mZ [1] [0];refine LW.cl (tA g rfl l.st) ?_;rintro _ C ⟨rfl,hs⟩;have m:=l.back _ _ hs;refine go ?_;replace h:=oi h;subst h;rw [show k.NY.length=u.2.length from n] at m;exact Ra ⟨rfl,m.pk [0]⟩
instance k_35:Ct prog 35:=⟨by kernel_rfl,@xJ⟩
theorem IZ {w0 N G H r} (h:uK N G H=some r) {b i f} (k:i=G.NY.length) (m:rb w0 b f G.NY) {d j g} (l:j=H.NY.length) (n:rb w0 d g H.NY) :
    gV prog 162 #[.agg #[vS b i f],.agg #[vS d j g]] w0 (fun v w=>v=.bool r∧St w0 [] w []):=by
 subst k l;unfold uK at h;refine gV.fn func162 fun e=>?_;have ah:=St.start w0;refine T ?_;intro aB aD ai aC aE I;obtain ⟨ad,L,R⟩:=ob h;refine CW.jn [2,3] [0,1] [(13,.bool ad)] I (h1:=?_) (h2:=?_)
 · have h:=L;refine T ?_;intro aG ao h aF aj;refine bH h ?_ ?_<;>intro _ h
   · exact rt
   refine T ?_;intro ay ac h au ak;exact rt
 intro e av J;have h:=R;refine gc h ?_ ?_<;>intro _ h
 · exact rt
 refine go ?_;obtain ⟨q,A,p⟩:=ob h;refine CW.mono (CW.lx [2,3] [0,1] [] 0 (fun z=>[(5,vI z)]) (RT prog f162.results (fun u=>.bool u) w0 []) J A (hb:=?_)) ?_
 · intro z e aw o K h;refine gc h ?_ ?_<;>intro _ h
   · refine jA ?_;have am:=K.drew;refine gb h fun az B h=>?_;obtain ⟨ae,ap,M,rfl,U,Y,aa,rfl,W⟩:=m.idx B;refine go ?_;refine T ?_;have ⟨aA,C,h⟩:=ob h;obtain ⟨af,aq,O,rfl,V,Z,ab,rfl,X⟩:=n.idx C;refine go ?_;refine T ?_;refine gc h ?_ ?_<;>intro _ h
     · exact rt
     exact rt
   exact rt
 intro x e ax hM;rcases q with q | ar
 · obtain ⟨rfl,hM⟩:=hM;obtain ⟨e,rfl,an⟩:=eo hM;rw [show e=im e [] from rfl];have h:=p;exact rt
 obtain ⟨rfl,u,rfl,hM⟩:=hM;cases p;exact And.intro trivial hM
instance k_162:Ct prog 162:=⟨by kernel_rfl,@IZ⟩
theorem JI {w0 N q f u r} (h:vy N q f u=some r) {g l j} (n:l=q.length) (p:rb w0 g j q) {i m k} (o:m=u.NY.length) (A:rb w0 i k u.NY) :
    gV prog 87 #[vS g l j,.agg #[vI f.N0,vI f.NX,vI f.ig,vI f.call.N0,vI f.call.a,vI f.call.b,vI f.call.c,vI f.call.d,vI f.call.e],.agg #[vS i m k]] w0 (fun v w=>v=.bool r∧St w0 [] w []):=by
 subst n o;unfold vy at h;refine gV.fn func87 fun e=>?_;have W:=St.start w0;refine T ?_;intro ah aj X ai ak x;refine gc h ?_ ?_<;>intro _ h
 · exact rt
 refine jA ?_;have Y:=x.drew;refine T ?_;intro an ac h am Z;refine bH h ?_ ?_<;>intro ab h
 · refine gb h fun ao z h=>?_;obtain ⟨R,ad,B,rfl,C,H,I,⟨M,U,O,V,rfl,J,K⟩,G⟩:=p.idx z;refine go ?_;refine T ?_;intro af L h ae aa;exact rt
 exact rt
instance k_87:Ct prog 87:=⟨by kernel_rfl,@JI⟩
theorem IY {w0 N p q r} (h:ug N p q=some r) {b j f} (l:j=p.NY.length) (n:rb w0 b f p.NY) {d k g} (m:k=q.NY.length) (o:rb w0 d g q.NY) :
    gV prog 164 #[.agg #[vS b j f],.agg #[vS d k g]] w0 (fun v w=>v=.bool r∧St w0 [] w []):=by
 subst l m;unfold ug at h;refine gV.fn func164 fun e=>?_;have u:=St.start w0;refine tK u fun C H x=>?_;refine LW.bo x fun G B i=>?_;refine gb h fun J A h=>?_;refine LW.c0 (xQ A rfl (show iM (α:=Int) (jo B []) B none 0 [] from iM.nil _ _ _ _ (Nat.zero_le _)) rfl (i.rB n) rfl (i.rB o)) i fun I z=>?_;refine go ?_;cases h;exact fi z
instance k_164:Ct prog 164:=⟨by kernel_rfl,@IY⟩
theorem JG {w0 N q f u r} (h:vK N q f u=some r) {g l j} (n:l=q.length) (p:rb w0 g j q) {i m k} (o:m=u.NY.length) (A:rb w0 i k u.NY) :
    gV prog 90 #[vS g l j,.agg #[vI f.N0,vI f.NX,vI f.ig,vI f.call.N0,vI f.call.a,vI f.call.b,vI f.call.c,vI f.call.d,vI f.call.e],.agg #[vS i m k]] w0 (fun v w=>v=.bool r∧St w0 [] w []):=by
 subst n o;unfold vK at h;refine gV.fn func90 fun e=>?_;have W:=St.start w0;refine T ?_;intro ah aj X ai ak x;refine dW ?_;have Y:=x.drew;refine gB h ?_ ?_<;>intro _ h
 · exact rt
 refine T ?_;intro an ac h am Z;refine bH h ?_ ?_<;>intro ab h
 · refine gb h fun ao z h=>?_;obtain ⟨R,ad,B,rfl,C,H,I,⟨M,U,O,V,rfl,J,K⟩,G⟩:=p.idx z;refine go ?_;refine T ?_;intro af L h ae aa;exact rt
 exact rt
instance k_90:Ct prog 90:=⟨by kernel_rfl,@JG⟩
theorem vX {w0 N J K A r} (h:nY N J K A=some r) {k u m} (B:u=J.length) (ao:rb w0 k m J) {l x n} (C:x=K.length) (I:rb w0 l n K) {f z g} (H:z=A.NY.length) (ap:rb w0 f g A.NY) :
    gV prog 24 #[vS k u m,vS l x n,.agg #[vS f z g]] w0 (fun v w=>∃ O U,v=vS O r.length U∧St w0 [] w [sl O U r]):=by
 subst B C H;unfold nY at h;refine gV.fn func24 fun e=>?_;have aN:=St.start w0;refine T ?_;intro X bc ai;refine LW.b0 (α:=g6) ai ?_;intro aq ar bd aO hf;refine T ?_;intro an aS h ba bb af R aY aP aM aZ aQ a0 aj;refine go ?_;obtain ⟨aW,ab,ah⟩:=ob h;refine CW.ie ab 0 (fun j e wb=>∃ (b:Ad) (d:Nat),En e [(0,vS k J.length m),(1,vS l K.length n),(5,.pointer (some ⟨X,0,none⟩)),(7,vS b j.1.length d),(9,vS af an.2.length R),(10,vI j.2)]∧St w0 [] wb [sl af R an.2,sl b d j.1,bx X 34 [vS f A.NY.length g]]) ?_ ⟨aq,ar,aj.po [2,3,4]⟩ ?_
 · intro j e a1 o hM h;obtain ⟨b,d,hE,ak⟩:=hM;obtain ⟨e,rfl⟩:=hE.out;refine jE [0,1,5,7,9,10,21] fun e=>?_;refine gc h ?_ ?_<;>intro _ h
   · refine jA ?_;have aR:=ak.drew;refine gb h fun a5 ac h=>?_;obtain ⟨aI,aT,au,rfl,ay,aC,aE,rfl,aA⟩:=I.idx ac;refine go ?_;refine T ?_;intro a6 aG h am V;refine gc h ?_ ?_<;>intro _ h
     · refine gb h fun W q h=>?_;obtain ⟨aJ,aU,hae,aD,aF⟩:=V.hZ (α:=g6) (i:=0) rfl q;subst hae;refine go ?_;obtain ⟨ae,p,Y⟩:=V.freeze (α:=g6) 0 rfl;obtain ⟨aK,aV,av,hae,az,_,_,aa,aB⟩:=p.jk.idx q;cases hae;obtain rfl:=aa;refine T ?_;have ⟨a8,ad,h⟩:=ob h;refine LW.j6 (M:=[]) (L:=[fz am ae,sl b d j.1,bx X 34 [vS f A.NY.length g]]) (vs:=#[vI W.code,vI W.Oi]) (i:=1) Gj rfl (by kernel_rfl) rfl rfl ad Y rfl (fun w G hG=>by cases (show G=[] from hG);exact ⟨rfl,rfl⟩) rfl rfl ?_;intro aX aH aL a2 Z hf;refine go ?_;have aw:=Z.iz (α:=g6) 0 rfl p;exact rt
     exact rt
   exact rt
 rintro e a4 ⟨b,d,hE,ax⟩;obtain ⟨e,rfl⟩:=hE.out;have h:=ah;exact rt
instance k_24:Ct prog 24:=⟨by kernel_rfl,@vX⟩
theorem tb {w0 N O R C r} (h:mO N O R C=some r) {k z m} (H:z=O.length) (ap:rb w0 k m O) {l A n} (I:A=R.length) (K:rb w0 l n R) {f B g} (J:B=C.NY.length) (aq:rb w0 f g C.NY) :
    gV prog 28 #[vS k z m,vS l A n,.agg #[vS f B g]] w0 (fun v w=>∃ U W,v=vS U r.length W∧St w0 [] w [sl U W r]):=by
 subst H I J;unfold mO at h;refine gV.fn func28 fun e=>?_;have aQ:=St.start w0;refine T ?_;intro Y bj am;refine LW.b0 (α:=g6) am ?_;intro ar au bk aR hf;refine T ?_;intro af aW h bg bi ai V a2 aS aP a4 aT a5 an;refine go ?_;obtain ⟨a0,ac,ak⟩:=ob h;refine CW.ie ac 0 (fun j e wb=>∃ (b:Ad) (d:Nat),En e [(0,vS k O.length m),(1,vS l R.length n),(5,.pointer (some ⟨Y,0,none⟩)),(7,vS b j.1.length d),(19,vS ai af.2.length V),(20,vI (af.2.length:Int)),(21,vI j.2)]∧St w0 [] wb [sl ai V af.2,sl b d j.1,bx Y 34 [vS f C.NY.length g]]) ?_ ⟨ar,au,an.po [2,3,4]⟩ ?_
 · intro j e ao o hM h;obtain ⟨b,d,hE,X⟩:=hM;obtain ⟨e,rfl⟩:=hE.out;refine jE [0,1,5,7,19,20,21,22] fun e=>?_;refine gc h ?_ ?_<;>intro _ h
   · refine gb h fun q x h=>?_;obtain ⟨aL,aX,hae,aF,aH⟩:=X.hZ (α:=g6) (i:=0) rfl x;subst hae;refine go ?_;obtain ⟨ah,p,aU⟩:=X.freeze (α:=g6) 0 rfl;obtain ⟨aM,aY,av,hae,aB,_,_,ab,aD⟩:=p.jk.idx x;cases hae;obtain rfl:=ab;refine T ?_;intro aj a6 aV a8 Z;refine dW ?_;have ax:=Z.drew;refine gb h fun bd ad h=>?_;obtain ⟨aN,aZ,aw,rfl,aC,aG,aI,rfl,aE⟩:=K.idx ad;refine go ?_;refine T ?_;intro be aJ h ba u;refine gc h ?_ ?_<;>intro _ h
     · refine gb h fun bf ae h=>?_;refine LW.j6 (M:=[]) (L:=[bx aj 53 [vI q.code,vI q.Oi],fz ao ah,sl b d j.1,bx Y 34 [vS f C.NY.length g]]) (vs:=#[vI q.code,vI q.Oi]) (i:=2) Gj rfl (by kernel_rfl) rfl rfl ae u rfl (fun w G hG=>by cases (show G=[] from hG);exact ⟨rfl,rfl⟩) rfl rfl ?_;intro a1 aK aO bb aa hf;refine go ?_;have ay:=aa.iz (α:=g6) 1 rfl p;exact rt
     refine go ?_;have az:=u.iz (α:=g6) 1 rfl p;exact rt
   exact rt
 rintro e bc ⟨b,d,hE,aA⟩;obtain ⟨e,rfl⟩:=hE.out;have h:=ak;exact rt
instance k_28:Ct prog 28:=⟨by kernel_rfl,@tb⟩
theorem rX {w0 N bg bi bj r} (h:la N bg bi bj=some r) {R au W} (ax:au=bg.length) (b:rb w0 R W bg) {U av X} (ay:av=bi.length) (d:rb w0 U X bi) {V aw Y} (az:aw=bj.NY.length) (f:rb w0 V Y bj.NY) :
    gV prog 5 #[vS R au W,vS U av X,.agg #[vS V aw Y]] w0 (fun v w=>v=.bool r∧St w0 [] w []):=by
 subst ax ay az;unfold la at h;refine gV.fn func5 fun e=>?_;have bl:=St.start w0;refine tK bl fun c4 c5 aH=>?_;refine gb h fun c8 bm h=>?_;refine LW.c0 (wo bm rfl (aH.rB b)) aH fun c6 ak=>?_;refine gc h ?_ ?_<;>intro _ h
 · refine go ?_;cases h;exact fi ak
 refine gb h fun c9 bn h=>?_;refine LW.c0 (yb bn rfl (ak.rB d)) ak fun c7 aq=>?_;refine jE [0,1,5,7,26] fun e=>?_;refine gc h ?_ ?_<;>intro _ h
 · refine go ?_;cases h;exact fi aq
 refine gb h fun da bo h=>?_;refine LW.c0 (zm bo rfl (aq.rB f)) aq fun cq aI=>?_;refine gc h ?_ ?_<;>intro _ h
 · refine go ?_;cases h;exact fi aI
 refine jA ?_;have aJ:=aI.drew;refine gb h fun cN aW h=>?_;refine jO 1 ?_;refine LW.cl (nV aW rfl (aJ.rB b)) ?_;rintro _ cr ⟨bX,b8,rfl,hs⟩;have aK:=aJ.add hs;refine jn ?_;have ⟨cO,aX,h⟩:=ob h;refine jO 3 ?_;refine LW.cl (qS aX rfl (aK.rB d)) ?_;rintro _ cs ⟨bY,b9,rfl,hs⟩;have aL:=aK.add hs;refine jn ?_;have ⟨cP,aY,h⟩:=ob h;refine jO 5 ?_;refine LW.cl (rS aY rfl (aL.rB f)) ?_;rintro _ ct ⟨bZ,ca,rfl,hs⟩;have J:=aL.add hs;refine jn ?_;have ⟨cQ,aZ,h⟩:=ob h;refine jO 6 ?_;refine LW.cl (vX aZ rfl (J.rI 2 rfl) rfl (J.rI 1 rfl) rfl (J.rI 0 rfl)) ?_;rintro _ cu ⟨b0,cb,rfl,hs⟩;have ac:=J.add hs;refine jn ?_;refine gb h fun cR a0 h=>?_;refine LW.cl (nV a0 rfl (ac.rB b)) ?_;rintro _ cv ⟨b1,cc,rfl,hs⟩;have ad:=ac.add hs;refine gb h fun cS a1 h=>?_;refine LW.cl (qS a1 rfl (ad.rB d)) ?_;rintro _ cw ⟨b2,ce,rfl,hs⟩;have ae:=ad.add hs;refine gb h fun bq a2 h=>?_;refine LW.cl (rS a2 rfl (ae.rB f)) ?_;rintro _ cx ⟨b3,cf,rfl,hs⟩;have aO:=ae.add hs;refine LW.al aO fun cm cy aP=>?_;refine LW.st aP 0 fun cz i=>?_;refine gb h fun aM a3 h=>?_;refine LW.cl (tb a3 rfl (i.rI 3 rfl) rfl (i.rI 2 rfl) rfl (i.rI 1 rfl)) ?_;rintro _ cA ⟨b4,cg,rfl,hs⟩;have m:=i.add hs;refine gb h fun cT a4 h=>?_;refine LW.c0 (tH a4 rfl (m.rI 0 rfl) rfl (m.rI 5 rfl)) m fun cB n=>?_;refine jE [0,1,5,8,9,10,11,12,52] fun e=>?_;refine gc h ?_ ?_<;>intro _ h
 · refine go ?_;cases h;exact fi n
 refine gb h fun cU a5 h=>?_;refine LW.cl (nV a5 rfl (n.rB b)) ?_;rintro _ cC ⟨b5,ci,rfl,hs⟩;have o:=n.add hs;have ⟨cV,a6,h⟩:=ob h;refine LW.c0 (wm a6 rfl (o.rI 5 rfl) rfl (o.rI 0 rfl)) o fun cD p=>?_;refine gc h ?_ ?_<;>intro _ h
 · refine go ?_;cases h;exact fi p
 refine gb h fun cW a7 h=>?_;refine LW.cl (qS a7 rfl (p.rB d)) ?_;rintro _ cE ⟨b6,cj,rfl,hs⟩;have q:=p.add hs;have ⟨cX,a8,h⟩:=ob h;refine LW.c0 (xP a8 rfl (q.rI 5 rfl) rfl (q.rI 0 rfl)) q fun cF af=>?_;refine gc h ?_ ?_<;>intro _ h
 · refine go ?_;cases h;exact fi af
 refine jA ?_;have ah:=af.drew;refine gb h fun cY a9 h=>?_;refine jO 2 ?_;refine LW.cl (rS a9 rfl (ah.rB f)) ?_;rintro _ cG ⟨b7,ck,rfl,hs⟩;have u:=ah.add hs;refine jn ?_;have ⟨cZ,ba,h⟩:=ob h;refine jO 3 ?_;refine LW.cl (zq ba rfl (u.rI 5 rfl) rfl (u.rI 0 rfl)) ?_;rintro _ cH ⟨rfl,hs⟩;have ai:=u.add hs;refine jn ?_;refine gc h ?_ ?_<;>intro _ h
 · refine go ?_;cases h;exact fi ai
 refine gb h fun c1 bb h=>?_;obtain ⟨cn,K,C⟩:=pA bb;obtain ⟨aU,C⟩:=iN C;rw [oi C] at K aU;obtain ⟨bU,Z⟩:=ai.mZ [7] [0,1,2,3,4,5,6,8,9,10,11,12];refine LW.cl (uS K rfl Z.st) ?_;rintro _ cI ⟨rfl,hs⟩;have aQ:=Z.back _ _ hs;refine gb h fun c2 bc h=>?_;obtain ⟨co,L,G⟩:=pA bc;obtain ⟨aV,G⟩:=iN G;rw [oi G] at L aV;obtain ⟨bV,aa⟩:=aQ.mZ [7] [0,1,2,3,4,5,6,8,9,10,11,12];refine LW.cl (wK L rfl aa.st) ?_;rintro _ cJ ⟨rfl,hs⟩;have aR:=aa.back _ _ hs;refine gb h fun br bd h=>?_;obtain ⟨cp,M,H⟩:=pA bd;obtain ⟨ar,H⟩:=iN H;rw [oi H] at M ar;obtain ⟨bW,ab⟩:=aR.mZ [7] [0,1,2,3,4,5,6,8,9,10,11,12];refine LW.cl (xJ M rfl ab.st) ?_;rintro _ cK ⟨rfl,hs⟩;have g:=ab.back _ _ hs;refine gs ?_;rw [show bq.NY.length=br.2.length from ar] at g;obtain ⟨bp,aT,bk⟩:=ob h;refine CW.jn [0,1,5,8,12] [6,8,12] [(84,.bool bp)] g (h1:=?_) (h2:=?_)
 · have h:=aT;refine go ?_;refine bH h ?_ ?_<;>intro _ h
   · refine go ?_;cases oi h;exact g.po [6,8,12]
   refine gb h fun c3 be h=>?_;refine go ?_;refine LW.c0 (tH be rfl (g.rI 6 rfl) rfl (g.rI 8 rfl)) g fun cL aS=>?_;refine go ?_;cases oi h;exact aS.po [6,8,12]
 intro e cM aj;have h:=bk;refine jE [0,1,5,8,12,84] fun e=>?_;refine gc h ?_ ?_<;>intro _ h
 · refine go ?_;cases h;exact fi aj
 refine gb h fun aN bf h=>?_;obtain ⟨bD,O,l⟩:=pA bf;obtain ⟨k,l⟩:=iN l;rw [oi l] at O k;obtain ⟨bs,I⟩:=aj.mZ [0] [1,2];refine LW.cl (w5 O rfl I.st) ?_;rintro _ bE ⟨rfl,hs⟩;have am:=I.back _ _ hs;refine gb h fun bN aA h=>?_;refine LW.c0 (tU aA (show aM.length=aN.2.length from k) (am.rI 0 rfl)) am fun bF x=>?_;refine gc h ?_ ?_<;>intro _ h
 · refine go ?_;cases h;exact fi x
 refine jE [0,1,5,8,12,14,95] fun e=>?_;refine gc h ?_ ?_<;>intro _ h
 · refine go ?_;cases h;exact fi x
 refine jA ?_;have an:=x.drew;refine gb h fun bO aB h=>?_;refine jO 1 ?_;refine LW.cl (nV aB rfl (an.rB b)) ?_;rintro _ bG ⟨bt,bz,rfl,hs⟩;have ao:=an.add hs;refine jn ?_;have ⟨bP,aC,h⟩:=ob h;refine jO 3 ?_;refine LW.cl (qS aC rfl (ao.rB d)) ?_;rintro _ bI ⟨bu,bA,rfl,hs⟩;have ap:=ao.add hs;refine jn ?_;have ⟨bQ,aD,h⟩:=ob h;refine jO 5 ?_;refine LW.cl (rS aD rfl (ap.rB f)) ?_;rintro _ bJ ⟨bv,bB,rfl,hs⟩;have j:=ap.add hs;refine jn ?_;have ⟨bR,aE,h⟩:=ob h;refine jO 6 ?_;refine LW.cl (tb aE rfl (j.rI 2 rfl) rfl (j.rI 1 rfl) rfl (j.rI 0 rfl)) ?_;rintro _ bK ⟨bw,bC,rfl,hs⟩;have z:=j.add hs;refine jn ?_;refine gb h fun bS aF h=>?_;refine LW.c0 (tH aF rfl (z.rI 0 rfl) rfl (z.rI 5 rfl)) z fun bL A=>?_;refine gc h ?_ ?_<;>intro _ h
 · refine go ?_;cases h;exact fi A
 refine gb h fun bT aG h=>?_;refine LW.c0 (tU aG (show aM.length=aN.2.length from k) (A.rI 4 rfl)) A fun bM B=>?_;refine gc h ?_ ?_<;>intro _ h
 · refine go ?_;cases h;exact fi B
 refine jE [114] fun e=>?_;refine gc h ?_ ?_<;>intro _ h
 · refine go ?_;cases h;exact fi B
 refine go ?_;cases h;exact fi B
instance k_5:Ct prog 5:=⟨by kernel_rfl,@rX⟩
end Go.Kx
