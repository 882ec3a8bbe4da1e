import Derived.Test.YtdlodpchnaojhaaGreatWa8
namespace Go.Kx
open Go Go.RowKit Go.Proofs
open Tryz
set_option maxRecDepth 10000
set_option maxHeartbeats 8000000
set_option linter.unusedVariables false
set_option linter.unusedSimpArgs false
theorem Gn {w0 N i j r} (h:tJ N i j=some r) {b f d} (g:f=i.length) (k:rb w0 b d i) :
    gV prog 86 #[vS b f d,vI j] w0 (fun v w=>v=vI r∧St w0 [] w []):=by
 subst g;unfold tJ at h;refine gV.fn func86 fun e=>?_;have l:=St.start w0;refine gc h ?_ ?_<;>intro _ h
 · exact rt
 exact rt
instance k_86:Ct prog 86:=⟨by kernel_rfl,@Gn⟩
theorem Gf {w0 N p r} (h:te N p=some r) {b j d} (m:j=p.length) (n:rb w0 b d p) :
    gV prog 89 #[vS b j d] w0 (fun v w=>∃ q x,v=vS q r.length x∧St w0 [] w [sl q x r]):=by
 subst m;unfold te at h;refine gV.fn func89 fun e=>?_;have H:=St.start w0;refine gb h fun aj K h=>?_;refine LW.mk pH rfl rfl K H rfl ?_;intro C l ah I hf;refine go ?_;obtain ⟨ac,B,G⟩:=ob h;refine CW.ie B 0 (fun k e wb=>En e [(0,vS b p.length d),(3,vS C k.1.length l),(4,vI k.2)]∧St w0 [] wb [sl C l k.1]) ?_ (I.po [0]) ?_
 · intro k e ai o hM h;obtain ⟨e,rfl,z⟩:=eo hM;refine gc h ?_ ?_<;>intro _ h
   · refine gb h fun ak L h=>?_;obtain ⟨Y,ab,O,rfl,R,aa,W,rfl,U⟩:=n.idx L;refine go ?_;refine T ?_;have ⟨af,f,h⟩:=ob h;obtain ⟨u,A,hae,V,X⟩:=z.hZ (α:=Int) (i:=0) rfl f;subst hae;refine go ?_;have ⟨M,g,h⟩:=ob h;refine LW.se 0 z 0 f g (hM:=td) fun ad J=>?_;refine go ?_;replace h:=oi h;subst h;exact ⟨rfl,⟨⟨rfl,(show (vS (some ⟨u,A,none⟩) k.1.length l:Value)=vS (some ⟨u,A,none⟩) M.length l by rw [gZ (oi g)]),rfl,trivial⟩,J.pk [0]⟩⟩
   exact rt
 rintro e ae ⟨hE,Z⟩;obtain ⟨e,rfl⟩:=hE.out;have h:=G;exact rt
instance k_89:Ct prog 89:=⟨by kernel_rfl,@Gf⟩
theorem Hp {w0 N b r} (h:uH N b=some r) :
    gV prog 163 #[.agg #[vI b.gE,vI b.gT,vI b.g8]] w0 (fun v w=>v=.agg #[vI r.gE,vI r.gT,vI r.g8]∧St w0 [] w []):=by
 unfold uH at h;refine gV.fn func163 fun e=>?_;have d:=St.start w0;refine T ?_;intro o u f p x g q z i A j B k C l n m;exact rt
instance k_163:Ct prog 163:=⟨by kernel_rfl,@Hp⟩
theorem Gg {w0 N f r} (h:tm N f=some r) :
    gV prog 99 #[.agg #[vI f.N0,vI f.a,vI f.b,vI f.c,vI f.d,vI f.e]] w0 (fun v w=>v=.agg #[vI r.N0,vI r.a,vI r.b,vI r.c,vI r.d,vI r.e]∧St w0 [] w []):=by
 unfold tm at h;refine gV.fn func99 fun e=>?_;have j:=St.start w0;refine T ?_;intro C I k G J l H K m L n M o O p x q z u;refine T ?_;intro A g B i;exact rt
instance k_99:Ct prog 99:=⟨by kernel_rfl,@Gg⟩
theorem Ez {w0 N z R U r} (h:sw N z R U=some r) {b f d} (g:f=z.length) (i:rb w0 b d z) :
    gV prog 261 #[vS b f d,vI R,vI U] w0 (fun v w=>v=vI r∧St w0 [] w []):=by
 subst g;unfold sw at h;refine gV.fn func261 fun e=>?_;have G:=St.start w0;refine go ?_;obtain ⟨l,q,k⟩:=ob h;refine CW.mono (CW.lx [0,1,2] [] [7,8] 0 (fun j=>[(7,vI j.1),(8,vI j.2.1),(9,vI j.2.2)]) (RT prog f261.results (fun u=>vI u) w0 []) G q (hb:=?_)) ?_
 · intro j e ak o H h;refine gc h ?_ ?_<;>intro _ h
   · refine gb h fun am K h=>?_;obtain ⟨ai,aj,X,rfl,V,aa,ab,rfl,W⟩:=i.idx K;refine go ?_;refine T ?_;refine CW.fl [0,1,2,7,8,9,20] fun e=>?_;refine gc h ?_ ?_<;>intro _ h
     · exact rt
     refine go ?_;refine T ?_;refine gc h ?_ ?_<;>intro _ h
     · exact rt
     refine gs ?_;obtain ⟨L,m,A⟩:=ob h;refine CW.jn [0,1,2,7,8,9] [] [(37,.bool L)] H (h1:=?_) (h2:=?_)
     · have h:=m;refine gB h ?_ ?_<;>intro _ h
       · exact rt
       refine go ?_;refine T ?_;exact rt
     intro e ad I;have h:=A;refine gs ?_;obtain ⟨M,n,B⟩:=ob h;refine CW.jn [0,1,2,8,9] [] [(7,vI M)] I (h1:=?_) (h2:=?_)
     · have h:=n;refine gc h ?_ ?_<;>intro _ h
       · refine go ?_;refine T ?_;exact rt
       exact rt
     intro e ae J;have h:=B;refine gs ?_;obtain ⟨O,p,C⟩:=ob h;refine CW.jn [0,1,2,7,8,9] [] [(59,.bool O)] J (h1:=?_) (h2:=?_)
     · have h:=p;refine go ?_;refine T ?_;refine bH h ?_ ?_<;>intro _ h
       · refine gB h ?_ ?_<;>intro _ h
         · exact rt
         refine go ?_;refine T ?_;exact rt
       exact rt
     intro e af Y;have h:=C;refine gc h ?_ ?_<;>intro _ h
     · refine go ?_;refine T ?_;exact rt
     exact rt
   exact rt
 intro x e ah hM;rcases l with l | ac
 · obtain ⟨rfl,hM⟩:=hM;obtain ⟨e,rfl,Z⟩:=eo hM;have h:=k;refine gc h ?_ ?_<;>intro _ h
   · exact rt
   exact rt
 obtain ⟨rfl,u,rfl,hM⟩:=hM;cases k;exact And.intro trivial hM
instance k_261:Ct prog 261:=⟨by kernel_rfl,@Ez⟩
theorem Eh {w0 N b d r} (h:ql N b d=some r) :
    gV prog 44 #[.agg #[vI b.code,vI b.Oi],.agg #[vI d.code,vI d.Oi]] w0 (fun v w=>v=.bool r∧St w0 [] w []):=by
 unfold ql at h;refine gV.fn func44 fun e=>?_;have f:=St.start w0;refine T ?_;intro j l g k m i;refine gc h ?_ ?_<;>intro _ h
 · exact rt
 refine jE [14] fun e=>?_;refine gc h ?_ ?_<;>intro _ h
 · exact rt
 exact rt
instance k_44:Ct prog 44:=⟨by kernel_rfl,@Eh⟩
theorem G6 {w0 N B C r} (h:rH N B C=some r) {b i f} (k:i=B.length) (m:rb w0 b f B) {d j g} (l:j=C.length) (n:rb w0 d g C) :
    gV prog 93 #[vS b i f,vS d j g] w0 (fun v w=>v=.bool r∧St w0 [] w []):=by
 subst k l;unfold rH at h;refine gV.fn func93 fun e=>?_;have G:=St.start w0;refine gc h ?_ ?_<;>intro _ h
 · exact rt
 refine go ?_;obtain ⟨q,z,p⟩:=ob h;refine CW.mono (CW.lx [0,1] [] [] 0 (fun J=>[(5,vI J)]) (RT prog f93.results (fun u=>.bool u) w0 []) G z (hb:=?_)) ?_
 · intro J e aj o H h;refine gc h ?_ ?_<;>intro _ h
   · refine jA ?_;have Y:=H.drew;refine gb h fun ak I h=>?_;obtain ⟨ah,ai,K,rfl,M,aa,ab,rfl,R⟩:=m.idx I;refine go ?_;refine T ?_;have ⟨af,A,h⟩:=ob h;obtain ⟨X,ac,L,rfl,O,V,W,rfl,U⟩:=n.idx A;refine go ?_;refine T ?_;refine gc h ?_ ?_<;>intro _ h
     · exact rt
     exact rt
   exact rt
 intro x e ae hM;rcases q with q | ad
 · obtain ⟨rfl,hM⟩:=hM;obtain ⟨e,rfl,Z⟩:=eo hM;rw [show e=im e [] from rfl];have h:=p;exact rt
 obtain ⟨rfl,u,rfl,hM⟩:=hM;cases p;exact And.intro trivial hM
instance k_93:Ct prog 93:=⟨by kernel_rfl,@G6⟩
theorem Iz {w0 N b d r} (h:uy N b d=some r) :
    gV prog 165 #[.agg #[vI b.gE,vI b.gT,vI b.g8],.agg #[vI d.gE,vI d.gT,vI d.g8]] w0 (fun v w=>v=.bool r∧St w0 [] w []):=by
 unfold uy at h;refine gV.fn func165 fun e=>?_;have f:=St.start w0;refine T ?_;intro j l g k m i;refine gc h ?_ ?_<;>intro _ h
 · exact rt
 refine jE [2,3,14] fun e=>?_;refine gc h ?_ ?_<;>intro _ h
 · exact rt
 refine gc h ?_ ?_<;>intro _ h
 · exact rt
 exact rt
instance k_165:Ct prog 165:=⟨by kernel_rfl,@Iz⟩
theorem tA {w0} {F:List Nat} {N p B r} (h:nv N p B=some r) {d g b} (j:g=p.length) (hS:St w0 F w0 [sl d b p]) :
    gV prog 94 #[vS d g b,vI B] w0 (fun v w=>v=vI r.1∧St w0 F w [sl d b r.2]):=by
 subst j;unfold nv at h;refine gV.fn func94 fun e=>?_;refine go ?_;obtain ⟨I,n,u⟩:=ob h;refine CW.ie n 0 (fun f e wb=>En e [(0,vS d f.1.length b),(1,vI f.2.1),(5,vI f.2.2)]∧St w0 F wb [sl d b f.1]) ?_ ⟨⟨rfl,rfl,rfl,trivial⟩,hS.pk [0]⟩ ?_
 · intro f e L o hM h;obtain ⟨e,rfl,k⟩:=eo hM;refine gc h ?_ ?_<;>intro _ h
   · refine gb h fun M l h=>?_;obtain ⟨q,A,hae,G,H⟩:=k.hZ (α:=Int) (i:=0) rfl l;subst hae;refine go ?_;have ⟨C,m,h⟩:=ob h;refine LW.se 0 k 0 l m (hM:=td) fun J x=>?_;refine go ?_;replace h:=oi h;subst h;exact ⟨rfl,⟨⟨(show (vS (some ⟨q,A,none⟩) f.1.length b:Value)=vS (some ⟨q,A,none⟩) C.length b by rw [gZ (oi m)]),rfl,rfl,trivial⟩,x.pk [0]⟩⟩
   exact rt
 rintro e K ⟨hE,z⟩;obtain ⟨e,rfl⟩:=hE.out;have h:=u;refine go ?_;replace h:=oi h;subst h;exact Ra ⟨rfl,z.pk [0]⟩
instance k_94:Ct prog 94:=⟨by kernel_rfl,@tA⟩
theorem zm {w0 N i j r} (h:r9 N i j=some r) {b f d} (g:f=i.NY.length) (k:rb w0 b d i.NY) :
    gV prog 23 #[.agg #[vS b f d],vI j] w0 (fun v w=>v=vI r∧St w0 [] w []):=by
 subst g;unfold r9 at h;refine gV.fn func23 fun e=>?_;have l:=St.start w0;refine T ?_;intro p q m x o h u n;refine gc h ?_ ?_<;>intro _ h
 · exact rt
 exact rt
instance k_23:Ct prog 23:=⟨by kernel_rfl,@zm⟩
theorem rS {w0 N k r} (h:mo N k=some r) {f i g} (j:i=k.NY.length) (l:rb w0 f g k.NY) :
    gV prog 27 #[.agg #[vS f i g]] w0 (fun v w=>∃ b d,v=.agg #[vS b r.NY.length d]∧St w0 [] w [sl b d r.NY]):=by
 subst j;unfold mo at h;refine gV.fn func27 fun e=>?_;have m:=St.start w0;refine T ?_;intro I L n J M o K O p R z h G H A q B u C x;exact rt
instance k_27:Ct prog 27:=⟨by kernel_rfl,@rS⟩
theorem EB {w0 N f r} (h:qf N f=some r) :
    gV prog 41 #[.agg #[vI f.N0,vI f.NX,vI f.ig,vI f.call.N0,vI f.call.a,vI f.call.b,vI f.call.c,vI f.call.d,vI f.call.e]] w0 (fun v w=>v=.agg #[vI r.N0,vI r.NX,vI r.ig,vI r.call.N0,vI r.call.a,vI r.call.b,vI r.call.c,vI r.call.d,vI r.call.e]∧St w0 [] w []):=by
 unfold qf at h;refine gV.fn func41 fun e=>?_;have j:=St.start w0;refine T ?_;intro C I k G J l H K m L n M o O p B i h x q z u A g;exact rt
instance k_41:Ct prog 41:=⟨by kernel_rfl,@EB⟩
theorem Hb {w0 N u r} (h:ru N u=some r) {k n l} (p:n=u.length) (q:rb w0 k l u) :
    gV prog 309 #[vS k n l] w0 (fun v w=>∃ x z,v=vS x r.length z∧St w0 [] w [sl x z r]):=by
 subst p;unfold ru at h;refine gV.fn func309 fun e=>?_;have H:=St.start w0;refine go ?_;refine LW.b0 (α:=iy) H ?_;intro R U av I hf;refine go ?_;obtain ⟨an,A,C⟩:=ob h;refine CW.ie A 0 (fun m e wb=>∃ (b:Ad) (d:Nat),En e [(0,vS k u.length l),(3,vS b m.1.length d),(4,vI m.2)]∧St w0 [] wb [sl b d m.1]) ?_ ⟨R,U,I.po [0]⟩ ?_
 · intro m e aw o hM h;obtain ⟨b,d,hE,af⟩:=hM;obtain ⟨e,rfl⟩:=hE.out;refine gc h ?_ ?_<;>intro _ h
   · refine gb h fun ax O h=>?_;obtain ⟨ac,am,V,rfl,W,aj,ak,⟨aa,ad,rfl,Y⟩,X⟩:=q.idx O;refine go ?_;refine T ?_;intro j Z h f g ap J;refine LW.bd [(0,vS f j.length g)] #[vS f j.length g] ?_;have K:=J.pk (M:=[sl f g j]++[sl b d m.1]) [0,1];have ⟨au,B,h⟩:=ob h;refine LW.j6 (M:=[sl f g j]) (L:=[sl b d m.1]) (vs:=#[vS f j.length g]) (i:=0) J7 rfl (by kernel_rfl) rfl rfl B K rfl (fun w G hG=>⟨f,g,rfl,hG⟩) rfl rfl ?_;intro ao ab ae aq ah hf;exact rt
   exact rt
 rintro e ar ⟨b,d,hE,ai⟩;obtain ⟨e,rfl⟩:=hE.out;have h:=C;exact rt
instance k_309:Ct prog 309:=⟨by kernel_rfl,@Hb⟩
theorem zq {w0 N m n r} (h:qu N m n=some r) {b i f} (k:i=m.NY.length) (o:rb w0 b f m.NY) {d j g} (l:j=n.NY.length) (p:rb w0 d g n.NY) :
    gV prog 32 #[.agg #[vS b i f],.agg #[vS d j g]] w0 (fun v w=>v=.bool r∧St w0 [] w []):=by
 subst k l;unfold qu at h;refine gV.fn func32 fun e=>?_;have q:=St.start w0;refine T ?_;intro B G u C H x J A h I z;refine gc h ?_ ?_<;>intro _ h
 · exact rt
 exact rt
instance k_32:Ct prog 32:=⟨by kernel_rfl,@zq⟩
theorem EG {w0 N b d r} (h:rY N b d=some r) :
    gV prog 311 #[.agg #[vI b.Od,vI b.jI,vI b.mN,vI b.kc,vI b.N0,vI b.kK],.agg #[vI d.gE,vI d.gT,vI d.g8]] w0 (fun v w=>v=vI r∧St w0 [] w []):=by
 unfold rY at h;refine gV.fn func311 fun e=>?_;have m:=St.start w0;refine T ?_;intro I K n J L f;obtain ⟨l,g,i⟩:=ob h;refine CW.jn [2,3] [0,1] [(13,.bool l)] f (h1:=?_) (h2:=?_)
 · have h:=g;refine T ?_;intro O z h M o;refine bH h ?_ ?_<;>intro _ h
   · exact rt
   refine T ?_;intro G j h A p;exact rt
 intro e B q;have h:=i;refine gc h ?_ ?_<;>intro _ h
 · exact rt
 refine T ?_;intro H k h C x;refine gc h ?_ ?_<;>intro _ h
 · refine go ?_;refine LW.u (iq.min rfl rfl) rfl ?_;exact rt
 refine go ?_;refine LW.u (iq.quo rfl rfl (by decide)) rfl ?_;exact rt
instance k_311:Ct prog 311:=⟨by kernel_rfl,@EG⟩
theorem JD {w0 N m r} (h:vO N m=some r) {b f d} (g:f=m.length) (i:rb w0 b d m) :
    gV prog 310 #[vS b f d] w0 (fun v w=>v=.bool r∧St w0 [] w []):=by
 subst g;unfold vO at h;refine gV.fn func310 fun e=>?_;have n:=St.start w0;refine go ?_;obtain ⟨k,l,j⟩:=ob h;refine CW.mono (CW.lx [0] [] [0] 0 (fun q=>[(3,vI q)]) (RT prog f310.results (fun u=>.bool u) w0 []) n l (hb:=?_)) ?_
 · intro q e Z o J h;refine gc h ?_ ?_<;>intro _ h
   · refine gb h fun aa p h=>?_;obtain ⟨X,Y,I,rfl,z,M,O,⟨G,H,rfl,B⟩,A⟩:=i.idx p;refine go ?_;refine T ?_;intro W C h U K;refine CW.fl [0,3,16] fun e=>?_;refine gc h ?_ ?_<;>intro _ h
     · exact rt
     exact rt
   exact rt
 intro x e V hM;rcases k with k | R
 · obtain ⟨rfl,hM⟩:=hM;obtain ⟨e,rfl,L⟩:=eo hM;have h:=j;exact rt
 obtain ⟨rfl,u,rfl,hM⟩:=hM;cases j;exact And.intro trivial hM
instance k_310:Ct prog 310:=⟨by kernel_rfl,@JD⟩
theorem zs {w0 N ax ay f r} (h:sr N ax ay f=some r) {p X A} (ab:X=ax.length) (n:rb w0 p A ax) :
    gV prog 257 #[vS p X A,vI ay,.agg #[vI f.Od,vI f.jI,vI f.mN,vI f.kc,vI f.N0,vI f.kK]] w0 (fun v w=>∃ ad ae,v=.tuple #[vS ad r.1.length ae,vI r.2]∧St w0 [] w [sl ad ae r.1]):=by
 subst ab;unfold sr at h;refine gV.fn func257 fun e=>?_;have bA:=St.start w0;refine T ?_;intro aa ca bB ac bI h b9 k cb af;obtain ⟨bi,aA,aH⟩:=ob h;refine CW.jn [0,1,5,8] [0,1] [(50,.bool bi)] af (h1:=?_) (h2:=?_)
 · have h:=aA;refine dW ?_;have bC:=af.drew;refine T ?_;intro cc bJ h bP bD;refine bH h ?_ ?_<;>intro _ h
   · exact rt
   refine T ?_;intro b2 a9 h bQ bE;refine bH h ?_ ?_<;>intro _ h
   · exact rt
   refine T ?_;intro b3 ba h bR bF;refine bH h ?_ ?_<;>intro _ h
   · exact rt
   refine gB h ?_ ?_<;>intro aT h
   · exact rt
   refine gb h fun b4 au h=>?_;obtain ⟨bp,bK,aD,rfl,aP,aY,a2,⟨bl,bu,rfl,a7⟩,aU⟩:=n.idx au;refine go ?_;refine T ?_;intro b5 bb h bS bG;exact rt
 intro e bT az;have h:=aH;refine gc h ?_ ?_<;>intro _ h
 · exact rt
 refine jA ?_;have aI:=az.drew;refine gb h fun b6 av h=>?_;obtain ⟨bq,bL,aE,rfl,aQ,aZ,a3,⟨bm,bv,rfl,ar⟩,aV⟩:=n.idx av;refine go ?_;refine T ?_;have ⟨b7,aw,h⟩:=ob h;obtain ⟨br,bM,aF,rfl,aR,a0,a5,rfl,aW⟩:=ar.idx aw;refine go ?_;refine T ?_;intro ah bc h bU aJ b bd h bV aK m bW aL bX ak;refine dW ?_;have aM:=ak.drew;refine go ?_;refine T ?_;intro Y be h q B bY H;have ⟨aB,V,h⟩:=ob h;obtain ⟨g,d,hae,a1,a6⟩:=H.hZ (α:=iy) (i:=2) rfl V;subst hae;refine go ?_;have am:=H.pk (M:=[sl q B Y.1]++[bx m 43 [vI b.gE,vI b.gT,vI b.g8],sl (some ⟨g,d,none⟩) k ac,bx aa 155 (qT f)]) [0,1,2,3];have ⟨ai,j,h⟩:=ob h;refine LW.uE (M:=[sl q B Y.1]) (L:=[bx m 43 [vI b.gE,vI b.gT,vI b.g8],sl (some ⟨g,d,none⟩) k ac,bx aa 155 (qT f)]) (z:=aB) (z':=(iy.mk Y.1)) (o:=0) am (i:=1) rfl V xW rfl (by show _=d+(ay:Int).toNat * 1+0;omega) rfl rfl rfl rfl (whole (fun w G hG=>⟨q,B,rfl,hG⟩)) ?_;intro bZ I hf;rw [oi j] at I;refine jA ?_;have J:=I.drew;refine gb h fun aC l h=>?_;obtain ⟨bs,bN,hae,R,U⟩:=J.hZ (α:=iy) (i:=1) rfl l;cases hae;(try refine AW.ux (i:=3) (by decide +kernel) rfl (by kernel_rfl) rfl rfl (iq.ix underlying151 yM rfl rfl R (by rw [gZ (oi j)];exact U)) ?_);refine go ?_;obtain ⟨bk,O,aN⟩:=J.freeze (α:=iy) 1 rfl;obtain ⟨bt,bO,aG,hae,aS,_,_,aq,aX⟩:=O.jk.idx l;cases hae;obtain ⟨bn,bw,rfl,a8⟩:=aq;refine T ?_;intro Z bf h x C b0 an;refine CW.fl [0,5,8,9,13,99] fun e=>?_;refine gc h ?_ ?_<;>intro _ h
 · refine T ?_;intro b8 bg h bo bz b1 aO;exact rt
 refine go ?_;(try refine LW.u (iq.ix underlying151 yM rfl rfl R (by rw [gZ (oi j)];exact U)) rfl ?_);refine go ?_;have ao:=an.iz (α:=iy) 2 rfl O;have ap:=ao.pk (M:=[sl x C Z.1]++[bx m 43 [vI b.gE,vI b.gT,vI b.g8],sl (some ⟨g,d,none⟩) k ai,bx aa 155 (qT f)]) [0,1,2,3];have ⟨aj,W,h⟩:=ob h;refine LW.uE (M:=[sl x C Z.1]) (L:=[bx m 43 [vI b.gE,vI b.gT,vI b.g8],sl (some ⟨g,d,none⟩) k ai,bx aa 155 (qT f)]) (z:=aC) (z':=(iy.mk Z.1)) (o:=0) ap (i:=1) rfl l xW rfl (by show _=d+(f.jI:Int).toNat * 1+0;omega) rfl rfl rfl rfl (whole (fun w G hG=>⟨x,C,rfl,hG⟩)) ?_;intro bj K hf;rw [oi W] at K;refine go ?_;replace h:=oi h;subst h;exact Rc tt tt ⟨(some ⟨g,d,none⟩),k,(show (.tuple #[vS (some ⟨g,d,none⟩) ac.length k,vI ah]:Value)=.tuple #[vS (some ⟨g,d,none⟩) aj.length k,vI ah] by rw [show ac.length=aj.length from ((gZ (oi j)).trans (gZ (oi W)))]),K.pk [1]⟩
instance k_257:Ct prog 257:=⟨by kernel_rfl,@zs⟩
theorem Gz {w0 N d a2 r} (h:ti N d a2=some r) {J aj U} (aq:aj=d.NZ.NY.length) (A:rb w0 J U d.NZ.NY) {K ak V} (ar:ak=d.own.length) (B:rb w0 K V d.own) {L am W} (au:am=d.N1.length) (k:rb w0 L W d.N1) {M an X} (av:an=d.py.ag.length) (m:rb w0 M X d.py.ag) {O ao Y} (aw:ao=d.py.gc.gQ.length) (C:rb w0 O Y d.py.gc.gQ) {R ap Z} (ax:ap=d.gR.length) (G:rb w0 R Z d.gR) :
    gV prog 258 #[.agg #[vS J aj U,vS K ak V,vS L am W,vS M an X,vI d.py.gc.N2,vI d.py.gc.Oa,vI d.py.gc.N3,vS O ao Y,vS R ap Z,vI d.N6,vI d.N7,vI d.bh.gE,vI d.bh.gT,vI d.bh.g8,vI d.gW,vI d.N5],vI a2] w0 (fun v w=>v=vI r∧St w0 [] w []):=by
 subst aq ar au av aw ax;unfold ti at h;refine gV.fn func258 fun e=>?_;have aX:=St.start w0;refine tK aX fun ci cj n=>?_;refine gb h fun cm aZ h=>?_;refine LW.cl (wC aZ rfl (n.rB A) rfl (n.rB B) rfl (n.rB k) rfl (n.rB m) rfl (n.rB C) rfl (n.rB G)) ?_;rintro _ ck ⟨cf,cg,rfl,hs⟩;have az:=n.add hs;refine gc h ?_ ?_<;>intro _ h
 · refine go ?_;cases h;exact fi az
 refine go ?_;obtain ⟨bt,ay,aA⟩:=ob h;refine CW.mono (CW.lb [2,5] [0,1] [6] 0 (fun aV=>[(6,vI aV.1),(7,vI aV.2)]) az ay (hb:=?_)) ?_
 · intro aV e bv o ab h;refine jE [2,5,6,7,17] fun e=>?_;refine gc h ?_ ?_<;>intro _ h
   · refine gs ?_;refine CW.block ?_;refine gs ?_;obtain ⟨a0,aI,aW⟩:=ob h;refine CW.jn [2,5,6,7] [0,1] [(57,.bool a0)] ab (h1:=?_) (h2:=?_)
     · have h:=aI;refine dW ?_;have ac:=ab.drew;refine gB h ?_ ?_<;>intro f h
       · refine go ?_;cases oi h;exact ac.po [0,1]
       refine gb h fun b5 ah h=>?_;obtain ⟨bG,bV,hae,ba,bg⟩:=ac.hZ (α:=Int) (i:=0) rfl ah;subst hae;refine go ?_;obtain ⟨bw,ae,g⟩:=ac.freeze (α:=Int) 0 rfl;obtain ⟨bI,bW,a3,hae,I,_,_,aE,aJ⟩:=ae.jk.idx ah;cases hae;obtain rfl:=aE;refine AW.take (i:=12) rfl (by kernel_rfl) (lz rfl rfl f) rfl (jf.jX bv.drew mK rfl (aJ 0 _ rfl)) (g.zC 0 rfl I) ?_;have ⟨b6,aP,h⟩:=ob h;obtain ⟨bJ,bX,a5,rfl,p,bb,bi,⟨bA,bP,bB,bQ,bC,bR,rfl,bn,bo,bp⟩,aK⟩:=m.idx aP;refine go ?_;refine AW.take (i:=15) rfl (by kernel_rfl) (lz rfl rfl f) rfl (jf.jX w0 mK rfl (aK 3 _ rfl)) (g.same _ p.1 p.2) ?_;refine AW.u (i:=21) rfl (by kernel_rfl) (lz rfl rfl f) rfl (iq.fa LU rfl) ?_;refine gb h fun b7 aQ h=>?_;obtain ⟨bK,bY,a6,hae,q,bc,bj,aF,aL⟩:=m.idx aQ;cases hae;obtain ⟨bD,bS,bE,bT,bF,bU,rfl,bq,br,bs⟩:=aF;refine go ?_;refine AW.take (i:=30) rfl (by kernel_rfl) (lz rfl rfl f) rfl (jf.jX w0 mK rfl (aL 3 _ rfl)) (g.same _ q.1 q.2) ?_;have ⟨b8,aR,h⟩:=ob h;refine jO 16 ?_;refine (LW.gY (lz rfl rfl f) ?_);refine LW.cl (wi aR rfl (g.rB A) rfl (g.rB B) rfl (g.rB k) rfl (g.rB m) rfl (g.rB C) rfl (g.rB G)) ?_;rintro _ b3 ⟨rfl,hs⟩;have b:=g.add hs;refine jN (.c (b.same _ q.1 q.2) (.c (b.ce 1) (.c (b.ce 1) (.c (b.ce 1) (jW (.c (b.zC 0 rfl I) (.c (b.ce 1) (jW (.c (b.ce 1) jZ))))))))) ?_;have ⟨b9,aS,h⟩:=ob h;obtain ⟨bL,bZ,a7,rfl,z,bd,bk,rfl,aM⟩:=k.idx aS;refine go ?_;refine AW.take (i:=20) rfl (by kernel_rfl) (lz rfl rfl f) rfl (jf.jX w0 mK rfl (aM 4 _ rfl)) (b.same _ z.1 z.2) ?_;have ⟨ca,aT,h⟩:=ob h;refine jO 31 ?_;refine (LW.gY (lz rfl rfl f) ?_);refine LW.cl (wi aT rfl (b.rB A) rfl (b.rB B) rfl (b.rB k) rfl (b.rB m) rfl (b.rB C) rfl (b.rB G)) ?_;rintro _ b4 ⟨rfl,hs⟩;have j:=b.add hs;refine jN (.c (j.same _ z.1 z.2) (jW (.c (j.ce 1) (jW (.c (j.ce 1) (.c (j.same _ p.1 p.2) (.c (j.zC 0 rfl I) (.c (j.ce 1) (.c (j.ce 1) (.c (j.ce 1) jZ)))))))))) ?_;have ⟨cb,aU,h⟩:=ob h;obtain ⟨bM,b0,a8,hae,ad,be,bl,aG,aN⟩:=k.idx aU;cases hae;obtain rfl:=aG;refine go ?_;refine AW.take (i:=35) rfl (by kernel_rfl) (lz rfl rfl f) rfl (jf.jX w0 mK rfl (aN 4 _ rfl)) (j.same _ ad.1 ad.2) ?_;refine go ?_;have aY:=j.iz (α:=Int) 0 rfl ae;cases oi h;exact aY.po [0,1]
     intro e a1 H;have h:=aW;refine gc h ?_ ?_<;>intro _ h
     · refine gb h fun cc ai h=>?_;obtain ⟨bN,b1,hae,bf,bm⟩:=H.hZ (α:=Int) (i:=0) rfl ai;subst hae;refine go ?_;obtain ⟨bz,af,aa⟩:=H.freeze (α:=Int) 0 rfl;obtain ⟨bO,b2,a9,hae,aD,_,_,aH,aO⟩:=af.jk.idx ai;cases hae;obtain rfl:=aH;refine LW.l (jf.jX a1 mK rfl (aO 0 _ rfl)) (aa.zC 0 rfl aD) rfl ?_;refine go ?_;have aB:=aa.iz (α:=Int) 0 rfl af;cases oi h;exact ⟨rfl,(aB.po [0,1])⟩
     refine go ?_;cases oi h;exact ⟨rfl,(H.po [0,1])⟩
   refine go ?_;cases oi h;exact ⟨trivial,rfl,(ab.po [0,1])⟩
 intro x e bu hM;obtain ⟨rfl,hM⟩:=hM;obtain ⟨e,rfl,aC⟩:=eo hM;have h:=aA;refine go ?_;cases h;exact fi aC
instance k_258:Ct prog 258:=⟨by kernel_rfl,@Gz⟩
theorem DA {w0 N b aQ aR r} (h:qQ N b aQ aR=some r) {g ac p} (aj:ac=b.NZ.NY.length) (a7:rb w0 g p b.NZ.NY) {j ad q} (ak:ad=b.own.length) (a9:rb w0 j q b.own) {k ae x} (am:ae=b.N1.length) (ba:rb w0 k x b.N1) {l af z} (an:af=b.py.ag.length) (aq:rb w0 l z b.py.ag) {m ah A} (ao:ah=b.py.gc.gQ.length) (bb:rb w0 m A b.py.gc.gQ) {n ai B} (ap:ai=b.gR.length) (bc:rb w0 n B b.gR) :
    gV prog 170 #[.agg #[vS g ac p,vS j ad q,vS k ae x,vS l af z,vI b.py.gc.N2,vI b.py.gc.Oa,vI b.py.gc.N3,vS m ah A,vS n ai B,vI b.N6,vI b.N7,vI b.bh.gE,vI b.bh.gT,vI b.bh.g8,vI b.gW,vI b.N5],vI aQ,vI aR] w0 (fun v w=>∃ G M, ∃ H O, ∃ I R, ∃ J U, ∃ K V, ∃ L W,v=.agg #[vS G r.NZ.NY.length M,vS H r.own.length O,vS I r.N1.length R,vS J r.py.ag.length U,vI r.py.gc.N2,vI r.py.gc.Oa,vI r.py.gc.N3,vS K r.py.gc.gQ.length V,vS L r.gR.length W,vI r.N6,vI r.N7,vI r.bh.gE,vI r.bh.gT,vI r.bh.g8,vI r.gW,vI r.N5]∧St w0 [] w [sl G M r.NZ.NY,sl H O r.own,sl I R r.N1,sl J U r.py.ag,sl K V r.py.gc.gQ,sl L W r.gR]):=by
 subst aj ak am an ao ap;unfold qQ at h;refine gV.fn func170 fun e=>?_;have bK:=St.start w0;refine T ?_;intro aW cl bL aX cm bM d bR h aS aU aT aV ar ax au ay av az aw aA bW bN aB bX bO bY a1;obtain ⟨a3,aE,aY⟩:=ob h;refine CW.jn [1,2,3,6,7] [0,1,2,3,4,5,6,7,8] [(19,.bool a3)] a1 (h1:=?_) (h2:=?_)
 · have h:=aE;refine T ?_;intro cc bu h bZ bP;refine bH h ?_ ?_<;>intro _ h
   · exact rt
   refine T ?_;intro ce bv h b0 bQ;exact rt
 intro e b1 a2;have h:=aY;refine gc h ?_ ?_<;>intro _ h
 · refine T ?_;intro b2 be;exact rt
 refine go ?_;obtain ⟨bV,aG,a0⟩:=ob h;refine CW.ie aG 0 (fun f e wb=>En e [(1,vI aQ),(2,vI aR),(3,.pointer (some ⟨aW,0,none⟩)),(6,.pointer (some ⟨aX,0,none⟩)),(7,.pointer (some ⟨aB,0,none⟩)),(8,vI f.2)]∧St w0 [] wb [bx aB 45 [vS aS d.NZ.NY.length aU,vS aT d.own.length aV,vS ar d.N1.length ax,vS au f.1.length ay,vI d.py.gc.N2,vI d.py.gc.Oa,vI d.py.gc.N3,vS av d.py.gc.gQ.length az,vS aw d.gR.length aA,vI d.N6,vI d.N7,vI d.bh.gE,vI d.bh.gT,vI d.bh.g8,vI d.gW,vI d.N5],sl aS aU d.NZ.NY,sl aT aV d.own,sl ar ax d.N1,sl au ay f.1,sl av az d.py.gc.gQ,sl aw aA d.gR,bx aX 45 [vS none 0 0,vS none 0 0,vS none 0 0,vS none 0 0,vI 0,vI 0,vI 0,vS none 0 0,vS none 0 0,vI 0,vI 0,vI 0,vI 0,vI 0,vI 0,vI 0],bx aW 45 (qP g p j q k x l z m A n B b)]) ?_ (a2.po [0,1,2,3,4,5,6,7,8]) ?_
 · intro f e b3 o hM h;obtain ⟨e,rfl,bf⟩:=eo hM;refine jE [1,2,3,6,7,8,26] fun e=>?_;refine gc h ?_ ?_<;>intro _ h
   · refine gb h fun cf aJ h=>?_;obtain ⟨bC,bS,bd,rfl,bl,bn,bp,⟨bz,bF,bA,bG,bB,bI,rfl,br,bs,bt⟩,bm⟩:=aq.idx aJ;refine go ?_;refine T ?_;intro bJ b4 bg b5 aC;obtain ⟨a4,aF,aZ⟩:=ob h;refine CW.jn [1,2,3,6,7,8] [1,2,3,4,5,6,7,8,9] [(49,.bool a4)] aC (h1:=?_) (h2:=?_)
     · have h:=aF;refine gB h ?_ ?_<;>intro _ h
       · refine T ?_;intro cg bw h b6 bi;exact rt
       exact rt
     intro e b7 X;have h:=aZ;refine gc h ?_ ?_<;>intro _ h
     · refine gb h fun ci Z h=>?_;obtain ⟨bD,bT,hae,bo,bq⟩:=X.hZ (α:=gP) (i:=4) rfl Z;subst hae;refine go ?_;refine gb h fun cj C h=>?_;refine LW.se 6 X 4 Z C (hM:=(je (fun w cs F hF=>by obtain ⟨aK,aN,aL,aO,aM,aP,rfl,hH⟩:=hF;exact ⟨aK,aN,aL,aO,aM,aP,rfl,hH⟩))) fun b8 Y=>?_;refine gb h fun ck aa h=>?_;obtain ⟨bE,bU,hae,aH,aI⟩:=Y.hZ (α:=gP) (i:=4) rfl aa;cases hae;(try refine LW.u (iq.ix underlying36 uc rfl rfl aH (by rw [gZ (oi C)];exact aI)) rfl ?_);refine gb h fun a5 ab h=>?_;refine LW.se 7 Y 4 aa ab (hM:=(je (fun w cs F hF=>by obtain ⟨aK,aN,aL,aO,aM,aP,rfl,hH⟩:=hF;exact ⟨aK,aN,aL,aO,aM,aP,rfl,hH⟩))) fun b9 aD=>?_;refine go ?_;rw [show f.1.length=a5.length from ((gZ (oi C)).trans (gZ (oi ab)))] at aD;exact rt
     exact rt
   exact rt
 rintro e ca ⟨hE,bj⟩;obtain ⟨e,rfl⟩:=hE.out;have h:=a0;refine T ?_;intro cb bk;exact rt
instance k_170:Ct prog 170:=⟨by kernel_rfl,@DA⟩
theorem z0 {w0 N b aD aE r} (h:nW N b aD aE=some r) {L ae W} (am:ae=b.NZ.NY.length) (aV:rb w0 L W b.NZ.NY) {M af X} (an:af=b.own.length) (aW:rb w0 M X b.own) {O ah Y} (ao:ah=b.N1.length) (aX:rb w0 O Y b.N1) {R ai Z} (ap:ai=b.py.ag.length) (aY:rb w0 R Z b.py.ag) {U aj aa} (aq:aj=b.py.gc.gQ.length) (aZ:rb w0 U aa b.py.gc.gQ) {V ak ab} (ar:ak=b.gR.length) (a0:rb w0 V ab b.gR) :
    gV prog 171 #[.agg #[vS L ae W,vS M af X,vS O ah Y,vS R ai Z,vI b.py.gc.N2,vI b.py.gc.Oa,vI b.py.gc.N3,vS U aj aa,vS V ak ab,vI b.N6,vI b.N7,vI b.bh.gE,vI b.bh.gT,vI b.bh.g8,vI b.gW,vI b.N5],vI aD,vI aE] w0 (fun v w=>∃ p C, ∃ q G, ∃ x H, ∃ z I, ∃ A J, ∃ B K,v=.tuple #[.agg #[vS p r.1.NZ.NY.length C,vS q r.1.own.length G,vS x r.1.N1.length H,vS z r.1.py.ag.length I,vI r.1.py.gc.N2,vI r.1.py.gc.Oa,vI r.1.py.gc.N3,vS A r.1.py.gc.gQ.length J,vS B r.1.gR.length K,vI r.1.N6,vI r.1.N7,vI r.1.bh.gE,vI r.1.bh.gT,vI r.1.bh.g8,vI r.1.gW,vI r.1.N5],vI r.2]∧St w0 [] w [sl p C r.1.NZ.NY,sl q G r.1.own,sl x H r.1.N1,sl z I r.1.py.ag,sl A J r.1.py.gc.gQ,sl B K r.1.gR]):=by
 subst am an ao ap aq ar;unfold nW at h;refine gV.fn func171 fun e=>?_;have bJ:=St.start w0;refine T ?_;intro cf cg bK aP ci bL f bQ h aI aN aJ aO aF aK aG aL aH aM au av bU bM aw bV bN bW aS;obtain ⟨aU,aA,aQ⟩:=ob h;refine CW.jn [1,2,6,8,9] [0,1,2,3,4,5,6,7] [(25,.bool aU)] aS (h1:=?_) (h2:=?_)
 · have h:=aA;refine T ?_;intro ca bm h bX bO;refine bH h ?_ ?_<;>intro _ h
   · exact rt
   refine T ?_;intro cb bn h bY bP;exact rt
 intro e bZ aT;have h:=aQ;refine gc h ?_ ?_<;>intro _ h
 · refine T ?_;intro b0 a2;exact rt
 refine go ?_;obtain ⟨bT,aC,aR⟩:=ob h;refine CW.ie aC 0 (fun d e wb=>∃ (g:Ad) (l:Nat) (j:Ad) (m:Nat) (k:Ad) (n:Nat),En e [(1,vI aD),(2,vI aE),(6,.pointer (some ⟨aP,0,none⟩)),(8,.pointer (some ⟨aw,0,none⟩)),(9,vI d.1),(10,vI d.2.1)]∧St w0 [] wb [bx aw 45 [vS aI f.NZ.NY.length aN,vS aJ f.own.length aO,vS g d.2.2.1.length l,vS j d.2.2.2.1.length m,vI d.2.2.2.2.1,vI d.2.2.2.2.2.1,vI d.2.2.2.2.2.2.1,vS k d.2.2.2.2.2.2.2.length n,vS au f.gR.length av,vI f.N6,vI f.N7,vI f.bh.gE,vI f.bh.gT,vI f.bh.g8,vI f.gW,vI f.N5],sl aI aN f.NZ.NY,sl aJ aO f.own,sl au av f.gR,bx aP 45 [vS none 0 0,vS none 0 0,vS none 0 0,vS none 0 0,vI 0,vI 0,vI 0,vS none 0 0,vS none 0 0,vI 0,vI 0,vI 0,vI 0,vI 0,vI 0,vI 0],sl g l d.2.2.1,sl j m d.2.2.2.1,sl k n d.2.2.2.2.2.2.2]) ?_ ⟨aF,aK,aG,aL,aH,aM,aT.po [0,1,2,6,7,3,4,5]⟩ ?_
 · intro d e b1 o hM h;obtain ⟨g,l,j,m,k,n,hE,a3⟩:=hM;obtain ⟨e,rfl⟩:=hE.out;refine gc h ?_ ?_<;>intro _ h
   · refine T ?_;intro cc bo h br bB bs bC b2 a4 bI b3 a5 b4 a7;refine T ?_;intro b5 ay;refine gc h ?_ ?_<;>intro _ h
     · refine jA ?_;have ac:=ay.drew;refine gb h fun ax ad h=>?_;obtain ⟨bz,bR,hae,bg,bi⟩:=ac.hZ (α:=gP) (i:=9) rfl ad;subst hae;refine go ?_;obtain ⟨bq,aB,a9⟩:=ac.freeze (α:=gP) 9 rfl;obtain ⟨bA,bS,a1,hae,be,_,_,az,bf⟩:=aB.jk.idx ad;cases hae;obtain ⟨bt,bD,bu,bE,bv,bF,rfl,bj,bk,bl⟩:=az;refine T ?_;refine go ?_;refine T ?_;refine AW.u (i:=12) rfl (by kernel_rfl) rfl rfl (iq.build (vs:=[(0,vI ax.gE)]) (cs:=#[vI ax.gE,vI 0,vI 0]) rfl (by kernel_rfl)) ?_;refine T ?_;intro ce bp h bw bG b6 ba b7 bb;exact rt
     exact rt
   exact rt
 rintro e b8 ⟨g,l,j,m,k,n,hE,bc⟩;obtain ⟨e,rfl⟩:=hE.out;have h:=aR;refine T ?_;intro b9 bd;exact rt
instance k_171:Ct prog 171:=⟨by kernel_rfl,@z0⟩
theorem Dq {w0 N b a9 r} (h:qK N b a9=some r) {m ak z} (au:ak=b.NZ.NY.length) (Z:rb w0 m z b.NZ.NY) {n am A} (av:am=b.own.length) (aa:rb w0 n A b.own) {p an B} (aw:an=b.N1.length) (K:rb w0 p B b.N1) {U ao C} (ax:ao=b.py.ag.length) (O:rb w0 U C b.py.ag) {q ap H} (ay:ap=b.py.gc.gQ.length) (ab:rb w0 q H b.py.gc.gQ) {x aq I} (az:aq=b.gR.length) (ac:rb w0 x I b.gR) :
    gV prog 262 #[.agg #[vS m ak z,vS n am A,vS p an B,vS U ao C,vI b.py.gc.N2,vI b.py.gc.Oa,vI b.py.gc.N3,vS q ap H,vS x aq I,vI b.N6,vI b.N7,vI b.bh.gE,vI b.bh.gT,vI b.bh.g8,vI b.gW,vI b.N5],vI a9] w0 (fun v w=>∃ aA aB,v=vS aA r.length aB∧St w0 [] w [sl aA aB r]):=by
 subst au av aw ax ay az;unfold qK at h;refine gV.fn func262 fun e=>?_;have a1:=St.start w0;refine tK a1 fun aF bT a2=>?_;refine go ?_;refine LW.b0 (α:=Int) a2 ?_;intro bc bd bU k hf;refine gb h fun bb a5 h=>?_;refine LW.cl (wC a5 rfl (k.rB Z) rfl (k.rB aa) rfl (k.rB K) rfl (k.rB O) rfl (k.rB ab) rfl (k.rB ac)) ?_;rintro _ bV ⟨aV,aY,rfl,hs⟩;have a4:=k.add hs;refine go ?_;obtain ⟨bG,aO,a0⟩:=ob h;refine CW.ie aO 0 (fun R e wb=>∃ (d:Ad) (f:Nat),En e [(2,.pointer (some ⟨aF,0,none⟩)),(5,vS d R.1.length f),(6,vS aV bb.length aY),(7,vI R.2)]∧St w0 [] wb [sl aV aY bb,sl d f R.1,bx aF 45 (qP m z n A p B U C q H x I b)]) ?_ ⟨bc,bd,a4.po [0,1,2]⟩ ?_
 · intro R e ar o hM h;obtain ⟨d,f,hE,aC⟩:=hM;obtain ⟨e,rfl⟩:=hE.out;refine jE [2,5,6,7,16] fun e=>?_;refine gc h ?_ ?_<;>intro _ h
   · refine jA ?_;have aD:=aC.drew;refine gb h fun ba aj h=>?_;obtain ⟨bu,bD,hae,bi,bl⟩:=aD.hZ (α:=Int) (i:=0) rfl aj;subst hae;refine go ?_;obtain ⟨aT,X,ae⟩:=aD.freeze (α:=Int) 0 rfl;obtain ⟨bv,bE,be,hae,W,_,_,aK,ai⟩:=X.jk.idx aj;cases hae;obtain rfl:=aK;refine AW.tk 6 rfl (jf.jX ar.drew mK rfl (ai 0 _ rfl)) (ae.zC 0 rfl W) ?_;have ⟨bP,aP,h⟩:=ob h;obtain ⟨aW,a8,bf,rfl,J,bj,bm,⟨br,bz,bs,bA,bt,bB,rfl,bo,bp,bq⟩,aM⟩:=O.idx aP;refine go ?_;refine AW.tk 8 rfl (jf.tR w0 ud rfl rfl (fun j u hu=>aM j u hu)) (ae.same _ J.1 J.2) ?_;refine jO 9 ?_;refine LW.al ae fun bC bJ Y=>?_;refine jN (.c (Y.same _ J.1 J.2) (.c (Y.zC 1 rfl W) (.c (Y.ce 3) jZ))) ?_;refine jO 10 ?_;refine LW.st Y 0 fun bK aE=>?_;refine jn ?_;refine gs ?_;obtain ⟨a6,aL,aZ⟩:=ob h;refine CW.jn [2,5,6,7] [1,2,3] [(43,.bool a6)] aE (h1:=?_) (h2:=?_)
     · have h:=aL;refine dW ?_;have g:=aE.drew;refine gB h ?_ ?_<;>intro ah h
       · refine gb h fun bQ aQ h=>?_;refine jO 9 ?_;refine (LW.gY (lz rfl rfl ah) ?_);refine LW.cl (wi aQ rfl (g.rB Z) rfl (g.rB aa) rfl (g.rB K) rfl (g.rB O) rfl (g.rB ab) rfl (g.rB ac)) ?_;rintro _ bL ⟨rfl,hs⟩;have ad:=g.add hs;refine jn ?_;have ⟨bR,aR,h⟩:=ob h;obtain ⟨bw,bF,bg,rfl,af,bk,bn,rfl,aN⟩:=K.idx aR;refine go ?_;refine AW.take (i:=13) rfl (by kernel_rfl) (lz rfl rfl ah) rfl (jf.jX w0 mK rfl (aN 4 _ rfl)) (ad.same _ af.1 af.2) ?_;refine go ?_;cases oi h;exact ad.po [1,2,3]
       refine go ?_;cases oi h;exact g.po [1,2,3]
     intro e bM V;have h:=aZ;refine gc h ?_ ?_<;>intro _ h
     · refine go ?_;refine LW.l (jf.jX ar.drew mK rfl (ai 0 _ rfl)) (V.zC 0 rfl W) rfl ?_;have ⟨bS,aS,h⟩:=ob h;refine LW.j6 (M:=[]) (L:=[fz ar.drew aT,sl d f R.1,bx aF 45 (qP m z n A p B (some ⟨aW,a8,none⟩) C q H x I b)]) (vs:=#[vI ba]) (i:=1) pH rfl (by kernel_rfl) rfl rfl aS V rfl (fun w G hG=>by cases (show G=[] from hG);exact ⟨rfl,rfl⟩) rfl rfl ?_;intro bI aU aX bN aG hf;refine go ?_;have aH:=aG.iz (α:=Int) 0 rfl X;cases oi h;exact ⟨rfl,⟨aU,aX,aH.po [0,1,2]⟩⟩
     refine go ?_;have aI:=V.iz (α:=Int) 0 rfl X;cases oi h;exact ⟨rfl,⟨d,f,aI.po [0,1,2]⟩⟩
   refine go ?_;cases oi h;exact ⟨trivial,rfl,⟨d,f,aC.po [0,1,2]⟩⟩
 rintro e bO ⟨d,f,hE,aJ⟩;obtain ⟨e,rfl⟩:=hE.out;have h:=a0;refine go ?_;cases h;exact Ra ⟨d,f,rfl,aJ.pk [1]⟩
instance k_262:Ct prog 262:=⟨by kernel_rfl,@Dq⟩
end Go.Kx
