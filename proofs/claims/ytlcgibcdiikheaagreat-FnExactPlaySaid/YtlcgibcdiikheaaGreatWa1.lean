import Derived.Test.YtlcgibcdiikheaaGreatFa
import Derived.Test.YtlcgibcdiikheaaGreatPu
namespace Go.Kx
open Go Go.RowKit Go.Proofs
open Tryz
set_option maxRecDepth 10000
set_option maxHeartbeats 8000000
set_option linter.unusedVariables false
set_option linter.unusedSimpArgs false
theorem Fm {w0 N z R U r} (h:sW N z R U=some r) {b f d} (g:f=z.length) (i:rb w0 b d z) :
    gV prog 221 #[vS b f d,vI R,vI U] w0 (fun v w=>v=vI r∧St w0 [] w []):=by
 subst g;unfold sW at h;refine gV.fn func221 fun e=>?_;have G:=St.start w0;refine go ?_;obtain ⟨l,q,k⟩:=ob h;refine CW.mono (CW.lx [1,2,11,12] [] [7,8] 0 (fun j=>[(7,vI j.1),(8,vI j.2.1),(13,vI j.2.2)]) (RT prog f221.results (fun u=>vI u) w0 []) G q (hb:=?_)) ?_
 · intro j e ak o H h;refine gc h ?_ ?_<;>intro _ h
   · refine gb h fun am K h=>?_;obtain ⟨ai,aj,X,rfl,V,aa,ab,rfl,W⟩:=i.idx K;refine go ?_;refine T ?_;refine CW.fl [1,2,7,8,10,11,12,13,18] fun e=>?_;refine gc h ?_ ?_<;>intro _ h
     · exact rt
     refine gc h ?_ ?_<;>intro _ h
     · exact rt
     refine gs ?_;obtain ⟨L,m,A⟩:=ob h;refine CW.jn [1,2,7,8,10,11,12,13] [] [(29,.bool L)] H (h1:=?_) (h2:=?_)
     · have h:=m;refine gB h ?_ ?_<;>intro _ h
       · exact rt
       exact rt
     intro e ad I;have h:=A;refine gs ?_;obtain ⟨M,n,B⟩:=ob h;refine CW.jn [1,2,8,10,11,12,13] [] [(7,vI M)] I (h1:=?_) (h2:=?_)
     · have h:=n;refine gc h ?_ ?_<;>intro _ h
       · exact rt
       exact rt
     intro e ae J;have h:=B;refine gs ?_;obtain ⟨O,p,C⟩:=ob h;refine CW.jn [1,2,7,8,10,11,12,13] [] [(42,.bool O)] J (h1:=?_) (h2:=?_)
     · have h:=p;refine gB h ?_ ?_<;>intro _ h
       · refine gB h ?_ ?_<;>intro _ h
         · exact rt
         exact rt
       exact rt
     intro e af Y;have h:=C;refine gc h ?_ ?_<;>intro _ h
     · exact rt
     exact rt
   exact rt
 intro x e ah hM;rcases l with l | ac
 · obtain ⟨rfl,hM⟩:=hM;obtain ⟨e,rfl,Z⟩:=eo hM;have h:=k;refine gc h ?_ ?_<;>intro _ h
   · exact rt
   exact rt
 obtain ⟨rfl,u,rfl,hM⟩:=hM;cases k;exact And.intro trivial hM
instance k_221:Ct prog 221:=⟨by kernel_rfl,@Fm⟩
theorem Iv {w0 N p q r} (h:u5 N p q=some r) {g m k} (u:m=p.Pd.length) (z:rb w0 g k p.Pd) {j n f} (x:n=q.Pd.length) (A:rb w0 j f q.Pd) :
    gV prog 305 #[.agg #[vS g m k],.agg #[vS j n f]] w0 (fun v w=>∃ B C,v=vS B r.length C∧St w0 [] w [sl B C r]):=by
 subst u x;unfold u5 at h;refine gV.fn func305 fun e=>?_;have aq:=St.start w0;refine T ?_;intro aE aF ar H aG V;refine LW.b0 (α:=Int) V ?_;intro Z aa aH W hf;refine go ?_;obtain ⟨ax,I,U⟩:=ob h;refine CW.ie I 0 (fun l e wb=>∃ (b:Ad) (d:Nat),En e [(3,.pointer (some ⟨H,0,none⟩)),(5,vS b l.1.length d),(10,vS g p.Pd.length k),(11,vI (p.Pd.length:Int)),(12,vI l.2)]∧St w0 [] wb [sl b d l.1,bx H 39 [vS j q.Pd.length f]]) ?_ ⟨Z,aa,W.po [0,1]⟩ ?_
 · intro l e aI o hM h;obtain ⟨b,d,hE,X⟩:=hM;obtain ⟨e,rfl⟩:=hE.out;refine gc h ?_ ?_<;>intro _ h
   · refine gb h fun aB J h=>?_;obtain ⟨ao,aw,ab,rfl,ad,ai,ak,rfl,af⟩:=z.idx J;refine go ?_;refine T ?_;have ⟨aC,K,h⟩:=ob h;obtain ⟨R,Y,ac,rfl,ae,aj,am,rfl,ah⟩:=A.idx K;refine go ?_;refine T ?_;refine CW.fl [3,5,6,10,11,12,23] fun e=>?_;refine gc h ?_ ?_<;>intro _ h
     · refine gb h fun aD O h=>?_;refine LW.kB (M:=[]) (L:=[sl b d l.1,bx H 39 [vS (some ⟨R,Y,none⟩) q.Pd.length f]]) (vs:=#[vI l.2]) (i:=0) pI rfl (by kernel_rfl) rfl rfl O X rfl (fun w G hG=>by cases (show G=[] from hG);exact ⟨rfl,rfl⟩) rfl rfl ?_;intro ay an ap az au hf;exact rt
     exact rt
   exact rt
 rintro e aA ⟨b,d,hE,av⟩;obtain ⟨e,rfl⟩:=hE.out;have h:=U;exact rt
instance k_305:Ct prog 305:=⟨by kernel_rfl,@Iv⟩
theorem BS {w0} {F:List Nat} {N g K z r} (h:o8 N g K z=some r) {d q b} (x:q=g.length) (hS:St w0 F w0 [sl d b g]) :
    gV prog 258 #[vS d q b,vI K,vI z] w0 (fun v w=>∃ A B,v=vS A r.length B∧St w0 F w [sl A B r]):=by
 subst x;unfold o8 at h;refine gV.fn func258 fun e=>?_;refine gb h fun aa n h=>?_;have f:=(hS.rI 0 rfl).le;refine LW.u (il.OI (α:=iB) (l:=g) underlying46 sY rfl rfl rfl rfl n f) rfl ?_;refine gc h ?_ ?_<;>intro C h
 · exact rt
 refine jK ?_;have I:=hS.drew;refine gb h fun M o h=>?_;obtain ⟨Y,Z,G,H⟩:∃ (a':Ad) (c':Nat),a'=m5 d b ((0:Int).toNat) (hD.sz iB)∧c'=b - (0:Int).toNat:=⟨_,_,rfl,rfl⟩;refine AW.u (i:=2) rfl (by kernel_rfl) rfl rfl (il.sub (α:=iB) (l:=g) underlying46 sY rfl vp (vn rfl) o f G H) ?_;refine gb h fun O p h=>?_;obtain ⟨R,U,j,m⟩:∃ (a':Ad) (c':Nat),a'=m5 d b ((z:Int).toNat) (hD.sz iB)∧c'=b - (z:Int).toNat:=⟨_,_,rfl,rfl⟩;refine AW.u (i:=5) rfl (by kernel_rfl) rfl rfl (il.sub (α:=iB) (l:=g) underlying46 sY rfl (vn rfl) vp p f j m) ?_;refine T ?_;refine LW.OL uJ I (k:=0) rfl n C o p rfl G H rfl j m rfl ?_;intro W J;refine T ?_;have L:=Mi n C o p;refine LW.u (il.OU (α:=iB) underlying46 sY rfl rfl rfl (by omega) (by omega) (by omega)) rfl ?_;refine LW.O3 (l:=(M++O)) uJ J (k:=0) rfl rfl (by omega) (by omega) ?_;intro X V;exact rt
instance k_258:Ct prog 258:=⟨by kernel_rfl,@BS⟩
theorem Hy {w0 N B C r} (h:mE N B C=some r) {b i f} (k:i=B.length) (m:rb w0 b f B) {d j g} (l:j=C.length) (n:rb w0 d g C) :
    gV prog 208 #[vS b i f,vS d j g] w0 (fun v w=>v=.bool r∧St w0 [] w []):=by
 subst k l;unfold mE at h;refine gV.fn func208 fun e=>?_;have G:=St.start w0;refine gc h ?_ ?_<;>intro _ h
 · exact rt
 refine go ?_;obtain ⟨q,z,p⟩:=ob h;refine CW.mono (CW.lx [0,1] [] [] 0 (fun J=>[(5,vI J)]) (RT prog f208.results (fun u=>.bool u) w0 []) G z (hb:=?_)) ?_
 · intro J e aj o H h;refine gc h ?_ ?_<;>intro _ h
   · refine jK ?_;have Y:=H.drew;refine gb h fun ak I h=>?_;obtain ⟨ah,ai,K,rfl,M,aa,ab,rfl,R⟩:=m.idx I;refine go ?_;refine T ?_;have ⟨af,A,h⟩:=ob h;obtain ⟨X,ac,L,rfl,O,V,W,rfl,U⟩:=n.idx A;refine go ?_;refine T ?_;refine gc h ?_ ?_<;>intro _ h
     · exact rt
     exact rt
   exact rt
 intro x e ae hM;rcases q with q | ad
 · obtain ⟨rfl,hM⟩:=hM;obtain ⟨e,rfl,Z⟩:=eo hM;rw [show e=iq e [] from rfl];have h:=p;exact rt
 obtain ⟨rfl,u,rfl,hM⟩:=hM;cases p;exact And.intro trivial hM
instance k_208:Ct prog 208:=⟨by kernel_rfl,@Hy⟩
theorem I4 {w0 N b d r} (h:qX N b d=some r) :
    gV prog 209 #[.agg #[vI b.gE,vI b.gX,vI b.g8],.agg #[vI d.gE,vI d.gX,vI d.g8]] w0 (fun v w=>v=.bool r∧St w0 [] w []):=by
 unfold qX at h;refine gV.fn func209 fun e=>?_;have f:=St.start w0;refine T ?_;intro j l g k m i;refine gc h ?_ ?_<;>intro _ h
 · exact rt
 refine jw [2,3,14] fun e=>?_;refine gc h ?_ ?_<;>intro _ h
 · exact rt
 refine gc h ?_ ?_<;>intro _ h
 · exact rt
 exact rt
instance k_209:Ct prog 209:=⟨by kernel_rfl,@I4⟩
theorem Iw {w0 N b d r} (h:tA N b d=some r) :
    gV prog 366 #[.agg #[vI b.PA,vI b.n],.agg #[vI d.PA,vI d.n]] w0 (fun v w=>v=.bool r∧St w0 [] w []):=by
 unfold tA at h;refine gV.fn func366 fun e=>?_;have f:=St.start w0;refine T ?_;intro j l g k m i;refine gc h ?_ ?_<;>intro _ h
 · exact rt
 refine jw [14] fun e=>?_;refine gc h ?_ ?_<;>intro _ h
 · exact rt
 exact rt
instance k_366:Ct prog 366:=⟨by kernel_rfl,@Iw⟩
theorem Jd {w0 N b d r} (h:tE N b d=some r) :
    gV prog 347 #[.agg #[vI b.Pu,vI b.jy,vI b.kJ,vI b.jR,vI b.Pf,vI b.ka],.agg #[vI d.Pu,vI d.jy,vI d.kJ,vI d.jR,vI d.Pf,vI d.ka]] w0 (fun v w=>v=.bool r∧St w0 [] w []):=by
 unfold tE at h;refine gV.fn func347 fun e=>?_;have f:=St.start w0;refine T ?_;intro j l g k m i;refine gc h ?_ ?_<;>intro _ h
 · exact rt
 refine jw [2,3,14] fun e=>?_;refine gc h ?_ ?_<;>intro _ h
 · exact rt
 refine gc h ?_ ?_<;>intro _ h
 · exact rt
 refine gc h ?_ ?_<;>intro _ h
 · exact rt
 refine jw [2,3,29] fun e=>?_;refine gc h ?_ ?_<;>intro _ h
 · exact rt
 refine gc h ?_ ?_<;>intro _ h
 · exact rt
 exact rt
instance k_347:Ct prog 347:=⟨by kernel_rfl,@Jd⟩
theorem FT {w0 N b d r} (h:qu N b d=some r) :
    gV prog 24 #[.agg #[vI b.code,vI b.Pz],.agg #[vI d.code,vI d.Pz]] w0 (fun v w=>v=.bool r∧St w0 [] w []):=by
 unfold qu at h;refine gV.fn func24 fun e=>?_;have f:=St.start w0;refine T ?_;intro j l g k m i;refine gc h ?_ ?_<;>intro _ h
 · exact rt
 refine jw [14] fun e=>?_;refine gc h ?_ ?_<;>intro _ h
 · exact rt
 exact rt
instance k_24:Ct prog 24:=⟨by kernel_rfl,@FT⟩
theorem mR {w0} {F:List Nat} {N p B r} (h:k8 N p B=some r) {d g b} (j:g=p.length) (hS:St w0 F w0 [sl d b p]) :
    gV prog 111 #[vS d g b,vI B] w0 (fun v w=>v=vI r.1∧St w0 F w [sl d b r.2]):=by
 subst j;unfold k8 at h;refine gV.fn func111 fun e=>?_;refine go ?_;obtain ⟨I,n,u⟩:=ob h;refine CW.ie n 0 (fun f e wb=>En e [(0,vS d f.1.length b),(1,vI f.2.1),(5,vI f.2.2)]∧St w0 F wb [sl d b f.1]) ?_ ⟨⟨rfl,rfl,rfl,trivial⟩,hS.pk [0]⟩ ?_
 · intro f e L o hM h;obtain ⟨e,rfl,k⟩:=eo hM;refine gc h ?_ ?_<;>intro _ h
   · refine gb h fun M l h=>?_;obtain ⟨q,A,hae,G,H⟩:=k.hZ (α:=Int) (i:=0) rfl l;subst hae;refine go ?_;have ⟨C,m,h⟩:=ob h;refine LW.se 0 k 0 l m (hM:=ui) fun J x=>?_;refine go ?_;replace h:=oi h;subst h;exact ⟨rfl,⟨⟨(show (vS (some ⟨q,A,none⟩) f.1.length b:Value)=vS (some ⟨q,A,none⟩) C.length b by rw [gS (oi m)]),rfl,rfl,trivial⟩,x.pk [0]⟩⟩
   exact rt
 rintro e K ⟨hE,z⟩;obtain ⟨e,rfl⟩:=hE.out;have h:=u;refine go ?_;replace h:=oi h;subst h;exact Ra ⟨rfl,z.pk [0]⟩
instance k_111:Ct prog 111:=⟨by kernel_rfl,@mR⟩
theorem y8 {w0} {F:List Nat} {N Z af r} (h:qR N Z af=some r) {d z b} (A:z=Z.length) (hS:St w0 F w0 [sl d b Z]) :
    gV prog 190 #[vS d z b,vI af] w0 (fun v w=>v=vI r.1∧St w0 F w [sl d b r.2]):=by
 subst A;unfold qR at h;refine gV.fn func190 fun e=>?_;refine go ?_;obtain ⟨ax,L,ab⟩:=ob h;refine CW.ie L 0 (fun g e wb=>En e [(0,vS d g.1.length b),(1,vI g.2.1),(5,vI g.2.2)]∧St w0 F wb [sl d b g.1]) ?_ ⟨⟨rfl,rfl,rfl,trivial⟩,hS.pk [0]⟩ ?_
 · intro g e aI o hM h;obtain ⟨e,rfl,B⟩:=eo hM;refine gc h ?_ ?_<;>intro _ h
   · refine go ?_;refine LW.u (il.rem rfl rfl (by decide)) rfl ?_;refine gb h fun aJ J h=>?_;obtain ⟨aa,ae,hae,ap,aq⟩:=B.hZ (α:=g6) (i:=0) rfl J;subst hae;refine go ?_;refine gb h fun aK j h=>?_;refine LW.se 0 B 0 J j (hM:=(iU (fun w cs F hF=>by obtain ⟨rfl,rfl⟩:=hF;exact ⟨rfl,rfl⟩))) fun ay C=>?_;refine gb h fun aE m h=>?_;obtain ⟨ak,ar,hae,M,V⟩:=C.hZ (α:=g6) (i:=0) rfl m;cases hae;(try refine LW.u (il.ix underlying40 yb rfl rfl M (by rw [gS (oi j)];exact V)) rfl ?_);refine gb h fun ah f h=>?_;refine LW.se 1 C 0 m f (hM:=(iU (fun w cs F hF=>by obtain ⟨rfl,rfl⟩:=hF;exact ⟨rfl,rfl⟩))) fun az G=>?_;refine go ?_;have ⟨aF,n,h⟩:=ob h;obtain ⟨am,au,hae,O,W⟩:=G.hZ (α:=g6) (i:=0) rfl n;cases hae;(try refine LW.u (il.ix underlying40 yb rfl rfl O (by rw [show g.1.length=ah.length from ((gS (oi j)).trans (gS (oi f)))];exact W)) rfl ?_);refine gb h fun ai k h=>?_;refine LW.se 2 G 0 n k (hM:=(iU (fun w cs F hF=>by obtain ⟨rfl,rfl⟩:=hF;exact ⟨rfl,rfl⟩))) fun aA H=>?_;refine gb h fun aG p h=>?_;obtain ⟨an,av,hae,R,X⟩:=H.hZ (α:=g6) (i:=0) rfl p;cases hae;(try refine LW.u (il.ix underlying40 yb rfl rfl R (by rw [show g.1.length=ai.length from (((gS (oi j)).trans (gS (oi f))).trans (gS (oi k)))];exact X)) rfl ?_);refine gb h fun aj l h=>?_;refine LW.se 3 H 0 p l (hM:=(iU (fun w cs F hF=>by obtain ⟨rfl,rfl⟩:=hF;exact ⟨rfl,rfl⟩))) fun aB I=>?_;refine gb h fun aH q h=>?_;obtain ⟨ao,aw,hae,U,Y⟩:=I.hZ (α:=g6) (i:=0) rfl q;cases hae;(try refine LW.u (il.ix underlying40 yb rfl rfl U (by rw [show g.1.length=aj.length from ((((gS (oi j)).trans (gS (oi f))).trans (gS (oi k))).trans (gS (oi l)))];exact Y)) rfl ?_);refine go ?_;have ⟨K,x,h⟩:=ob h;refine LW.se 4 I 0 q x (hM:=(iU (fun w cs F hF=>by obtain ⟨rfl,rfl⟩:=hF;exact ⟨rfl,rfl⟩))) fun aC ac=>?_;refine go ?_;replace h:=oi h;subst h;exact ⟨rfl,⟨⟨(show (vS (some ⟨aa,ae,none⟩) g.1.length b:Value)=vS (some ⟨aa,ae,none⟩) K.length b by rw [show g.1.length=K.length from (((((gS (oi j)).trans (gS (oi f))).trans (gS (oi k))).trans (gS (oi l))).trans (gS (oi x)))]),rfl,rfl,trivial⟩,ac.pk [0]⟩⟩
   exact rt
 rintro e aD ⟨hE,ad⟩;obtain ⟨e,rfl⟩:=hE.out;have h:=ab;refine go ?_;replace h:=oi h;subst h;exact Ra ⟨rfl,ad.pk [0]⟩
instance k_190:Ct prog 190:=⟨by kernel_rfl,@y8⟩
theorem zg {w0} {F:List Nat} {N C L r} (h:qW N C L=some r) {d l b} (m:l=C.length) (hS:St w0 F w0 [sl d b C]) :
    gV prog 292 #[vS d l b,vI L] w0 (fun v w=>v=vI r.1∧St w0 F w [sl d b r.2]):=by
 subst m;unfold qW at h;refine gV.fn func292 fun e=>?_;refine go ?_;obtain ⟨V,z,H⟩:=ob h;refine CW.ie z 0 (fun f e wb=>En e [(0,vS d f.1.length b),(1,vI f.2.1),(5,vI f.2.2)]∧St w0 F wb [sl d b f.1]) ?_ ⟨⟨rfl,rfl,rfl,trivial⟩,hS.pk [0]⟩ ?_
 · intro f e aa o hM h;obtain ⟨e,rfl,n⟩:=eo hM;refine gc h ?_ ?_<;>intro _ h
   · refine gb h fun ab q h=>?_;obtain ⟨G,K,hae,O,R⟩:=n.hZ (α:=iM) (i:=0) rfl q;subst hae;refine go ?_;refine gb h fun ac k h=>?_;refine LW.se 0 n 0 q k (hM:=(iU (fun w cs F hF=>by obtain ⟨rfl,rfl⟩:=hF;exact ⟨rfl,rfl⟩))) fun W p=>?_;refine gb h fun Z g h=>?_;obtain ⟨M,U,hae,A,B⟩:=p.hZ (α:=iM) (i:=0) rfl g;cases hae;(try refine LW.u (il.ix underlying99 Dg rfl rfl A (by rw [gS (oi k)];exact B)) rfl ?_);refine gb h fun x j h=>?_;refine LW.se 1 p 0 g j (hM:=(iU (fun w cs F hF=>by obtain ⟨rfl,rfl⟩:=hF;exact ⟨rfl,rfl⟩))) fun X I=>?_;refine go ?_;replace h:=oi h;subst h;exact ⟨rfl,⟨⟨(show (vS (some ⟨G,K,none⟩) f.1.length b:Value)=vS (some ⟨G,K,none⟩) x.length b by rw [show f.1.length=x.length from ((gS (oi k)).trans (gS (oi j)))]),rfl,rfl,trivial⟩,I.pk [0]⟩⟩
   exact rt
 rintro e Y ⟨hE,J⟩;obtain ⟨e,rfl⟩:=hE.out;have h:=H;refine go ?_;replace h:=oi h;subst h;exact Ra ⟨rfl,J.pk [0]⟩
instance k_292:Ct prog 292:=⟨by kernel_rfl,@zg⟩
theorem yF {w0} {F:List Nat} {N ae am r} (h:rr N ae am=some r) {f B b} (C:B=ae.length) (hS:St w0 F w0 [sl f b ae]) :
    gV prog 192 #[vS f B b,vI am] w0 (fun v w=>v=vI r.1∧St w0 F w [sl f b r.2]):=by
 subst C;unfold rr at h;refine gV.fn func192 fun e=>?_;refine go ?_;obtain ⟨aF,R,ah⟩:=ob h;refine CW.ie R 0 (fun k e wb=>En e [(0,vS f k.1.length b),(1,vI k.2.1),(5,vI k.2.2)]∧St w0 F wb [sl f b k.1]) ?_ ⟨⟨rfl,rfl,rfl,trivial⟩,hS.pk [0]⟩ ?_
 · intro k e aS o hM h;obtain ⟨e,rfl,G⟩:=eo hM;refine gc h ?_ ?_<;>intro _ h
   · refine gb h fun aT M h=>?_;obtain ⟨af,ak,hae,ay,az⟩:=G.hZ (α:=iB) (i:=0) rfl M;subst hae;refine go ?_;refine gb h fun aU j h=>?_;refine LW.se 0 G 0 M j (hM:=(iU (fun w cs F hF=>by obtain ⟨rfl,rfl⟩:=hF;exact ⟨rfl,rfl⟩))) fun aG H=>?_;refine gb h fun aN n h=>?_;obtain ⟨ar,aA,hae,U,Z⟩:=H.hZ (α:=iB) (i:=0) rfl n;cases hae;(try refine LW.u (il.ix underlying46 sY rfl rfl U (by rw [gS (oi j)];exact Z)) rfl ?_);refine gb h fun an d h=>?_;refine LW.se 1 H 0 n d (hM:=(iU (fun w cs F hF=>by obtain ⟨rfl,rfl⟩:=hF;exact ⟨rfl,rfl⟩))) fun aH I=>?_;refine go ?_;have ⟨aO,p,h⟩:=ob h;obtain ⟨au,aB,hae,V,aa⟩:=I.hZ (α:=iB) (i:=0) rfl p;cases hae;(try refine LW.u (il.ix underlying46 sY rfl rfl V (by rw [show k.1.length=an.length from ((gS (oi j)).trans (gS (oi d)))];exact aa)) rfl ?_);refine gb h fun ao g h=>?_;refine LW.se 2 I 0 p g (hM:=(iU (fun w cs F hF=>by obtain ⟨rfl,rfl⟩:=hF;exact ⟨rfl,rfl⟩))) fun aI J=>?_;refine gb h fun aP q h=>?_;obtain ⟨av,aC,hae,W,ab⟩:=J.hZ (α:=iB) (i:=0) rfl q;cases hae;(try refine LW.u (il.ix underlying46 sY rfl rfl W (by rw [show k.1.length=ao.length from (((gS (oi j)).trans (gS (oi d))).trans (gS (oi g)))];exact ab)) rfl ?_);refine gb h fun ap l h=>?_;refine LW.se 3 J 0 q l (hM:=(iU (fun w cs F hF=>by obtain ⟨rfl,rfl⟩:=hF;exact ⟨rfl,rfl⟩))) fun aJ K=>?_;refine gb h fun aQ x h=>?_;obtain ⟨aw,aD,hae,X,ac⟩:=K.hZ (α:=iB) (i:=0) rfl x;cases hae;(try refine LW.u (il.ix underlying46 sY rfl rfl X (by rw [show k.1.length=ap.length from ((((gS (oi j)).trans (gS (oi d))).trans (gS (oi g))).trans (gS (oi l)))];exact ac)) rfl ?_);refine gb h fun aq m h=>?_;refine LW.se 4 K 0 x m (hM:=(iU (fun w cs F hF=>by obtain ⟨rfl,rfl⟩:=hF;exact ⟨rfl,rfl⟩))) fun aK L=>?_;refine go ?_;have ⟨aR,z,h⟩:=ob h;obtain ⟨ax,aE,hae,Y,ad⟩:=L.hZ (α:=iB) (i:=0) rfl z;cases hae;(try refine LW.u (il.ix underlying46 sY rfl rfl Y (by rw [show k.1.length=aq.length from (((((gS (oi j)).trans (gS (oi d))).trans (gS (oi g))).trans (gS (oi l))).trans (gS (oi m)))];exact ad)) rfl ?_)
     refine gb h fun O A h=>?_;refine LW.se 5 L 0 z A (hM:=(iU (fun w cs F hF=>by obtain ⟨rfl,rfl⟩:=hF;exact ⟨rfl,rfl⟩))) fun aL ai=>?_;refine go ?_;replace h:=oi h;subst h;exact ⟨rfl,⟨⟨(show (vS (some ⟨af,ak,none⟩) k.1.length b:Value)=vS (some ⟨af,ak,none⟩) O.length b by rw [show k.1.length=O.length from ((((((gS (oi j)).trans (gS (oi d))).trans (gS (oi g))).trans (gS (oi l))).trans (gS (oi m))).trans (gS (oi A)))]),rfl,rfl,trivial⟩,ai.pk [0]⟩⟩
   exact rt
 rintro e aM ⟨hE,aj⟩;obtain ⟨e,rfl⟩:=hE.out;have h:=ah;refine go ?_;replace h:=oi h;subst h;exact Ra ⟨rfl,aj.pk [0]⟩
instance k_192:Ct prog 192:=⟨by kernel_rfl,@yF⟩
theorem ug {w0 N n z r} (h:l6 N n z=some r) {b f d} (g:f=n.length) (i:rb w0 b d n) :
    gV prog 193 #[vS b f d,vI z] w0 (fun v w=>v=vI r∧St w0 [] w []):=by
 subst g;unfold l6 at h;refine gV.fn func193 fun e=>?_;have p:=St.start w0;refine go ?_;obtain ⟨k,l,j⟩:=ob h;refine CW.mono (CW.lx [0] [] [1] 0 (fun m=>[(1,vI m.1),(5,vI m.2)]) (RT prog f193.results (fun u=>vI u) w0 []) p l (hb:=?_)) ?_
 · intro m e R o G h;refine gc h ?_ ?_<;>intro _ h
   · refine gb h fun U q h=>?_;obtain ⟨M,O,C,rfl,A,I,J,rfl,B⟩:=i.idx q;refine go ?_;refine T ?_;refine CW.fl [0,1,5,17] fun e=>?_;refine gc h ?_ ?_<;>intro _ h
     · exact rt
     exact rt
   exact rt
 intro x e L hM;rcases k with k | K
 · obtain ⟨rfl,hM⟩:=hM;obtain ⟨e,rfl,H⟩:=eo hM;have h:=j;exact rt
 obtain ⟨rfl,u,rfl,hM⟩:=hM;cases j;exact And.intro trivial hM
instance k_193:Ct prog 193:=⟨by kernel_rfl,@ug⟩
theorem yY {w0 N A H r} (h:rH N A H=some r) {g j i} (k:j=A.length) (m:rb w0 g i A) :
    gV prog 194 #[vS g j i,vI H] w0 (fun v w=>v=vI r∧St w0 [] w []):=by
 subst k;unfold rH at h;refine gV.fn func194 fun e=>?_;have B:=St.start w0;refine go ?_;obtain ⟨p,q,n⟩:=ob h;refine CW.mono (CW.lx [0] [] [1] 0 (fun z=>[(1,vI z.1),(5,vI z.2)]) (RT prog f194.results (fun u=>vI u) w0 []) B q (hb:=?_)) ?_
 · intro z e U o d h;refine gc h ?_ ?_<;>intro _ h
   · refine gb h fun V G h=>?_;obtain ⟨O,R,I,rfl,b,J,K,rfl,f⟩:=m.idx G;refine go ?_;refine LW.l (iZ.jz w0 Lm rfl (f 0 _ rfl)) (d.same _ b.1 b.2) rfl ?_;refine go ?_;refine LW.u (il.rem rfl rfl (by decide)) rfl ?_;refine go ?_;refine LW.u (il.bne underlying4 rfl rfl) rfl ?_;refine jw [0,1,5,20] fun e=>?_;refine gc h ?_ ?_<;>intro _ h
     · refine go ?_;cases oi h;exact ⟨trivial,rfl,_,rfl,rx ⟨rfl,d.pk []⟩⟩
     refine go ?_;refine LW.l (iZ.jz w0 ki rfl (f 1 _ rfl)) (d.same _ b.1 b.2) rfl ?_;refine gc h ?_ ?_<;>intro _ h
     · refine go ?_;cases oi h;exact ⟨trivial,rfl,_,rfl,rx ⟨rfl,d.pk []⟩⟩
     refine go ?_;refine LW.l (iZ.jz w0 ki rfl (f 2 _ rfl)) (d.same _ b.1 b.2) rfl ?_;refine jw [0,1,5,39] fun e=>?_;refine gc h ?_ ?_<;>intro _ h
     · refine go ?_;cases oi h;exact ⟨trivial,rfl,_,rfl,rx ⟨rfl,d.pk []⟩⟩
     refine go ?_;refine LW.l (iZ.jz w0 ki rfl (f 3 _ rfl)) (d.same _ b.1 b.2) rfl ?_;refine gc h ?_ ?_<;>intro _ h
     · refine go ?_;cases oi h;exact ⟨trivial,rfl,_,rfl,rx ⟨rfl,d.pk []⟩⟩
     refine go ?_;refine LW.l (iZ.jz w0 ki rfl (f 4 _ rfl)) (d.same _ b.1 b.2) rfl ?_;refine jw [0,1,5,59] fun e=>?_;refine gc h ?_ ?_<;>intro _ h
     · refine go ?_;cases oi h;exact ⟨trivial,rfl,_,rfl,rx ⟨rfl,d.pk []⟩⟩
     refine go ?_;cases oi h;exact ⟨rfl,(d.po [])⟩
   refine go ?_;cases oi h;exact ⟨trivial,rfl,(d.po [])⟩
 intro x e M hM;rcases p with p | L
 · obtain ⟨rfl,hM⟩:=hM;obtain ⟨e,rfl,C⟩:=eo hM;have h:=n;refine go ?_;cases h;exact fi C
 obtain ⟨rfl,u,rfl,hM⟩:=hM;cases n;exact And.intro trivial hM
instance k_194:Ct prog 194:=⟨by kernel_rfl,@yY⟩
theorem Dj {w0 N n z r} (h:rA N n z=some r) {b f d} (g:f=n.length) (i:rb w0 b d n) :
    gV prog 293 #[vS b f d,vI z] w0 (fun v w=>v=vI r∧St w0 [] w []):=by
 subst g;unfold rA at h;refine gV.fn func293 fun e=>?_;have p:=St.start w0;refine go ?_;obtain ⟨k,l,j⟩:=ob h;refine CW.mono (CW.lx [0] [] [1] 0 (fun m=>[(1,vI m.1),(5,vI m.2)]) (RT prog f293.results (fun u=>vI u) w0 []) p l (hb:=?_)) ?_
 · intro m e R o G h;refine gc h ?_ ?_<;>intro _ h
   · refine gb h fun U q h=>?_;obtain ⟨M,O,C,rfl,A,I,J,rfl,B⟩:=i.idx q;refine go ?_;refine T ?_;refine CW.fl [0,1,5,18] fun e=>?_;refine gc h ?_ ?_<;>intro _ h
     · exact rt
     refine go ?_;refine T ?_;refine gc h ?_ ?_<;>intro _ h
     · exact rt
     exact rt
   exact rt
 intro x e L hM;rcases k with k | K
 · obtain ⟨rfl,hM⟩:=hM;obtain ⟨e,rfl,H⟩:=eo hM;have h:=j;exact rt
 obtain ⟨rfl,u,rfl,hM⟩:=hM;cases j;exact And.intro trivial hM
instance k_293:Ct prog 293:=⟨by kernel_rfl,@Dj⟩
end Go.Kx
