import Derived.Test.YtlcgibcdiikheaaGreatFa
import Derived.Test.YtlcgibcdiikheaaGreatPu
namespace Go.Kx
open Go Go.RowKit Go.Proofs
open Go.IntKind (i64)
open Tryz
set_option maxRecDepth 10000
set_option maxHeartbeats 8000000
set_option linter.unusedVariables false
set_option linter.unusedSimpArgs false
theorem Hv {w0 N i j r} (h:uc N i j=some r) {b f d} (g:f=i.length) (k:rb w0 b d i) :
    gV prog 198 #[vS b f d,vI j] w0 (fun v w=>v=vI r∧St w0 [] w []):=by
 subst g;unfold uc at h;refine gV.fn func198 fun e=>?_;have l:=St.start w0;refine gc h ?_ ?_<;>intro _ h
 · exact rt
 exact rt
instance k_198:Ct prog 198:=⟨by kernel_rfl,@Hv⟩
theorem Hh {w0 N p r} (h:tQ N p=some r) {b j d} (m:j=p.length) (n:rb w0 b d p) :
    gV prog 201 #[vS b j d] w0 (fun v w=>∃ q x,v=vS q r.length x∧St w0 [] w [sl q x r]):=by
 subst m;unfold tQ at h;refine gV.fn func201 fun e=>?_;have H:=St.start w0;refine gb h fun aj K h=>?_;refine LW.mk pI rfl rfl K H rfl ?_;intro C l ah I hf;refine go ?_;obtain ⟨ac,B,G⟩:=ob h;refine CW.ie B 0 (fun k e wb=>En e [(0,vS b p.length d),(3,vS C k.1.length l),(4,vI k.2)]∧St w0 [] wb [sl C l k.1]) ?_ (I.po [0]) ?_
 · intro k e ai o hM h;obtain ⟨e,rfl,z⟩:=eo hM;refine gc h ?_ ?_<;>intro _ h
   · refine gb h fun ak L h=>?_;obtain ⟨Y,ab,O,rfl,R,aa,W,rfl,U⟩:=n.idx L;refine go ?_;refine T ?_;have ⟨af,f,h⟩:=ob h;obtain ⟨u,A,hae,V,X⟩:=z.hZ (α:=Int) (i:=0) rfl f;subst hae;refine go ?_;have ⟨M,g,h⟩:=ob h;refine LW.se 0 z 0 f g (hM:=ui) fun ad J=>?_;refine go ?_;replace h:=oi h;subst h;exact ⟨rfl,⟨⟨rfl,(show (vS (some ⟨u,A,none⟩) k.1.length l:Value)=vS (some ⟨u,A,none⟩) M.length l by rw [gS (oi g)]),rfl,trivial⟩,J.pk [0]⟩⟩
   exact rt
 rintro e ae ⟨hE,Z⟩;obtain ⟨e,rfl⟩:=hE.out;have h:=G;exact rt
instance k_201:Ct prog 201:=⟨by kernel_rfl,@Hh⟩
theorem I2 {w0 N b r} (h:vk N b=some r) :
    gV prog 202 #[.agg #[vI b.gE,vI b.gX,vI b.g8]] w0 (fun v w=>v=.agg #[vI r.gE,vI r.gX,vI r.g8]∧St w0 [] w []):=by
 unfold vk at h;refine gV.fn func202 fun e=>?_;have d:=St.start w0;refine T ?_;intro o u f p x g q z i A j B k C l n m;exact rt
instance k_202:Ct prog 202:=⟨by kernel_rfl,@I2⟩
theorem HF {w0 N f r} (h:tS N f=some r) :
    gV prog 99 #[.agg #[vI f.Pf,vI f.a,vI f.b,vI f.c,vI f.d,vI f.e]] w0 (fun v w=>v=.agg #[vI r.Pf,vI r.a,vI r.b,vI r.c,vI r.d,vI r.e]∧St w0 [] w []):=by
 unfold tS at h;refine gV.fn func99 fun e=>?_;have j:=St.start w0;refine T ?_;intro C I k G J l H K m L n M o O p x q z u;refine T ?_;intro A g B i;exact rt
instance k_99:Ct prog 99:=⟨by kernel_rfl,@HF⟩
theorem Az {w0 N k r} (h:kW N k=some r) {b f d} (g:f=k.length) (j:rb w0 b d k) :
    gV prog 259 #[vS b f d] w0 (fun v w=>∃ n o,v=vS n r.length o∧St w0 [] w [sl n o r]):=by
 subst g;unfold kW at h;refine gV.fn func259 fun e=>?_;have q:=St.start w0;refine go ?_;refine LW.b0 (α:=g6) q ?_;intro z B G p hf;refine gb h fun I u h=>?_;refine LW.jS (l:=([]:List g6)) (m:=k) GX rfl rfl (p.rB j) u p (i:=0) rfl rfl ?_;intro A C H x hf;exact rt
instance k_259:Ct prog 259:=⟨by kernel_rfl,@Az⟩
theorem IZ {w0 N b r} (h:tz N b=some r) {o A u} (H:A=b.gZ.length) (K:rb w0 o u b.gZ) {p B x} (I:B=b.Po.length) (L:rb w0 p x b.Po) {q C z} (J:C=b.Pk.length) (M:rb w0 q z b.Pk) :
    gV prog 331 #[.agg #[vI b.Pw,vI b.Pf,vI b.box,vI b.Pu,vI b.iz,vI b.gE,vI b.Pq,vI b.iy,vI b.im,.bool b.Ps,vS o A u,vS p B x,vS q C z]] w0 (fun v w=>∃ d j, ∃ f k, ∃ g n,v=.agg #[vI r.Pw,vI r.Pf,vI r.box,vI r.Pu,vI r.iz,vI r.gE,vI r.Pq,vI r.iy,vI r.im,.bool r.Ps,vS d r.gZ.length j,vS f r.Po.length k,vS g r.Pk.length n]∧St w0 [] w [sl d j r.gZ,sl f k r.Po,sl g n r.Pk]):=by
 subst H I J;unfold tz at h;refine gV.fn func331 fun e=>?_;have ao:=St.start w0;refine T ?_;intro aI aK ap aJ aL W;refine LW.b0 (α:=Int) W ?_;intro aF aH aM O hf;refine gb h fun aN Z h=>?_;refine LW.jS (l:=([]:List Int)) (m:=b.gZ) pI rfl rfl (O.rB K) Z O (i:=0) rfl rfl ?_;intro aG ai au aq hf;refine T ?_;intro av X;refine LW.b0 (α:=Int) X ?_;intro ad aj aw R hf;refine gb h fun aD U h=>?_;refine LW.jS (l:=([]:List Int)) (m:=b.Po) pI rfl rfl (R.rB L) U R (i:=0) rfl rfl ?_;intro ae ak ax ar hf;refine T ?_;intro ay Y;refine LW.b0 (α:=iM) Y ?_;intro af am az G hf;refine gb h fun aE V h=>?_;refine LW.jS (l:=([]:List iM)) (m:=b.Pk) si rfl rfl (G.rB M) V G (i:=0) rfl rfl ?_;intro ah an aA aa hf;refine T ?_;intro aB ab aC ac;exact rt
instance k_331:Ct prog 331:=⟨by kernel_rfl,@IZ⟩
theorem tj {w0 N b d f r} (h:iL N b d f=some r) :
    gV prog 84 #[vI b,vI d,vI f] w0 (fun v w=>v=.bool r∧St w0 [] w []):=by
 unfold iL at h;refine gV.fn func84 fun e=>?_;have g:=St.start w0;refine gB h ?_ ?_<;>intro _ h
 · exact rt
 exact rt
instance k_84:Ct prog 84:=⟨by kernel_rfl,@tj⟩
theorem J1 {w0 N x r} (h:qZ N x=some r) {g n i} (q:n=x.length) (u:rb w0 g i x) :
    gV prog 274 #[vS g n i] w0 (fun v w=>v=.agg #[vI r.gE,vI r.gX,vI r.g8]∧St w0 [] w []):=by
 subst q;unfold qZ at h;refine gV.fn func274 fun e=>?_;have K:=St.start w0;refine go ?_;refine LW.al K fun H ai L=>?_;refine jt [] #[vI 0,vI 0,vI 0] ?_;refine LW.al L fun I aj M=>?_;refine LW.st M 0 fun ak O=>?_;refine go ?_;obtain ⟨ab,G,J⟩:=ob h;refine CW.ie G 0 (fun p e wb=>En e [(0,vS g x.length i),(2,.pointer (some ⟨H,0,none⟩)),(3,.pointer (some ⟨I,0,none⟩)),(4,vI p.1)]∧St w0 [] wb [bx I 48 [vI p.2.1,vI p.2.2.1,vI p.2.2.2],bx H 48 [vI 0,vI 0,vI 0]]) ?_ (O.po [0,1]) ?_
 · intro p e am o hM h;obtain ⟨hE,j⟩:=hM;obtain ⟨e,rfl⟩:=hE.out;refine gc h ?_ ?_<;>intro _ h
   · refine gb h fun an V h=>?_;obtain ⟨Z,aa,W,rfl,d,X,Y,rfl,f⟩:=u.idx V;refine go ?_;refine LW.l (iZ.jz w0 Lm rfl (f 0 _ rfl)) (j.same _ d.1 d.2) rfl ?_;refine jw [0,2,3,4,16] fun e=>?_;refine gc h ?_ ?_<;>intro _ h
     · refine jK ?_;have z:=j.drew;refine go ?_;refine AW.tk 7 rfl (iZ.jz w0 ki rfl (f 2 _ rfl)) (z.same _ d.1 d.2) ?_;refine zR 10 ?_;refine LW.st z 0 fun ac R=>?_;refine jN (jW (jW jZ)) ?_;refine jK ?_;have A:=R.drew;refine go ?_;refine AW.tk 7 rfl (iZ.jz w0 ki rfl (f 3 _ rfl)) (A.same _ d.1 d.2) ?_;refine zR 10 ?_;refine LW.st A 0 fun ad U=>?_;refine jN (jW (jW jZ)) ?_;refine jK ?_;have k:=U.drew;refine go ?_;refine AW.tk 7 rfl (iZ.jz w0 ki rfl (f 4 _ rfl)) (k.same _ d.1 d.2) ?_;refine zR 10 ?_;refine LW.st k 0 fun ae B=>?_;refine jN (jW (jW jZ)) ?_;refine go ?_;cases oi h;exact ⟨rfl,(B.po [0,1])⟩
     refine go ?_;cases oi h;exact ⟨rfl,(j.po [0,1])⟩
   refine go ?_;cases oi h;exact ⟨trivial,rfl,(j.po [0,1])⟩
 rintro e af ⟨hE,C⟩;obtain ⟨e,rfl⟩:=hE.out;have h:=J;refine vb C 1 fun ah m=>?_;refine go ?_;cases h;exact And.intro trivial ⟨_,kz.one (ij.b m 1 rfl J9 rfl rfl),rfl,m.pk []⟩
instance k_274:Ct prog 274:=⟨by kernel_rfl,@J1⟩
theorem I7 {w0 N m z r} (h:ma N m z=some r) {b f d} (g:f=m.length) (i:rb w0 b d m) :
    gV prog 165 #[vS b f d,vI z] w0 (fun v w=>v=.bool r∧St w0 [] w []):=by
 subst g;unfold ma at h;refine gV.fn func165 fun e=>?_;have n:=St.start w0;refine go ?_;obtain ⟨k,l,j⟩:=ob h;refine CW.mono (CW.lx [0,1] [] [] 0 (fun q=>[(5,vI q)]) (RT prog f165.results (fun u=>.bool u) w0 []) n l (hb:=?_)) ?_
 · intro q e R o G h;refine gc h ?_ ?_<;>intro _ h
   · refine gb h fun U p h=>?_;obtain ⟨M,O,C,rfl,A,I,J,rfl,B⟩:=i.idx p;refine go ?_;refine T ?_;refine CW.fl [0,1,5,17] fun e=>?_;refine gc h ?_ ?_<;>intro _ h
     · exact rt
     exact rt
   exact rt
 intro x e L hM;rcases k with k | K
 · obtain ⟨rfl,hM⟩:=hM;obtain ⟨e,rfl,H⟩:=eo hM;rw [show e=iq e [] from rfl];have h:=j;exact rt
 obtain ⟨rfl,u,rfl,hM⟩:=hM;cases j;exact And.intro trivial hM
instance k_165:Ct prog 165:=⟨by kernel_rfl,@I7⟩
theorem FZ {w0 N b d r} (h:qw N b d=some r) :
    gV prog 273 #[.agg #[vI b.gE,vI b.gX,vI b.g8],vI d] w0 (fun v w=>v=vI r∧St w0 [] w []):=by
 unfold qw at h;refine gV.fn func273 fun e=>?_;have f:=St.start w0;refine T ?_;intro i j g;refine gc h ?_ ?_<;>intro _ h
 · exact rt
 refine gc h ?_ ?_<;>intro _ h
 · exact rt
 refine gc h ?_ ?_<;>intro _ h
 · exact rt
 exact rt
instance k_273:Ct prog 273:=⟨by kernel_rfl,@FZ⟩
theorem Hu {w0 N d b r} (h:r6 N d b=some r) :
    gV prog 271 #[vI d,vI b] w0 (fun v w=>v=.agg #[vI r.gE,vI r.gX,vI r.g8]∧St w0 [] w []):=by
 unfold r6 at h;refine gV.fn func271 fun e=>?_;have f:=St.start w0;refine T ?_;intro m n g;refine gc h ?_ ?_<;>intro _ h
 · refine jt [(0,vI b)] #[vI b,vI 0,vI 0] ?_;refine T ?_;intro o i;exact rt
 refine gc h ?_ ?_<;>intro _ h
 · refine jt [(1,vI b)] #[vI 0,vI b,vI 0] ?_;refine T ?_;intro p j;exact rt
 refine gc h ?_ ?_<;>intro _ h
 · refine jt [(2,vI b)] #[vI 0,vI 0,vI b] ?_;refine T ?_;intro q k;exact rt
 refine jt [] #[vI 0,vI 0,vI 0] ?_;refine T ?_;intro u l;exact rt
instance k_271:Ct prog 271:=⟨by kernel_rfl,@Hu⟩
theorem Gf {w0 N b A r} (h:lS N b A=some r) {d l i} (o:l=b.gZ.length) (u:rb w0 d i b.gZ) {f m j} (p:m=b.Po.length) (x:rb w0 f j b.Po) {g n k} (q:n=b.Pk.length) (z:rb w0 g k b.Pk) :
    gV prog 125 #[.agg #[vI b.Pw,vI b.Pf,vI b.box,vI b.Pu,vI b.iz,vI b.gE,vI b.Pq,vI b.iy,vI b.im,.bool b.Ps,vS d l i,vS f m j,vS g n k],vI A] w0 (fun v w=>v=.bool r∧St w0 [] w []):=by
 subst o p q;unfold lS at h;refine gV.fn func125 fun e=>?_;have B:=St.start w0;refine T ?_;intro G H C;refine gB h ?_ ?_<;>intro _ h
 · exact rt
 exact rt
instance k_125:Ct prog 125:=⟨by kernel_rfl,@Gf⟩
theorem FG {w0 N z R U r} (h:sX N z R U=some r) {b f d} (g:f=z.length) (i:rb w0 b d z) :
    gV prog 284 #[vS b f d,vI R,vI U] w0 (fun v w=>v=vI r∧St w0 [] w []):=by
 subst g;unfold sX at h;refine gV.fn func284 fun e=>?_;have G:=St.start w0;refine go ?_;obtain ⟨l,q,k⟩:=ob h;refine CW.mono (CW.lx [0,1,2] [] [7,8] 0 (fun j=>[(7,vI j.1),(8,vI j.2.1),(9,vI j.2.2)]) (RT prog f284.results (fun u=>vI u) w0 []) G q (hb:=?_)) ?_
 · intro j e ak o H h;refine gc h ?_ ?_<;>intro _ h
   · refine gb h fun am K h=>?_;obtain ⟨ai,aj,X,rfl,V,aa,ab,rfl,W⟩:=i.idx K;refine go ?_;refine T ?_;refine CW.fl [0,1,2,7,8,9,20] fun e=>?_;refine gc h ?_ ?_<;>intro _ h
     · exact rt
     refine go ?_;refine T ?_;refine gc h ?_ ?_<;>intro _ h
     · exact rt
     refine gs ?_;obtain ⟨L,m,A⟩:=ob h;refine CW.jn [0,1,2,7,8,9] [] [(37,.bool L)] H (h1:=?_) (h2:=?_)
     · have h:=m;refine gB h ?_ ?_<;>intro _ h
       · exact rt
       refine go ?_;refine T ?_;exact rt
     intro e ad I;have h:=A;refine gs ?_;obtain ⟨M,n,B⟩:=ob h;refine CW.jn [0,1,2,8,9] [] [(7,vI M)] I (h1:=?_) (h2:=?_)
     · have h:=n;refine gc h ?_ ?_<;>intro _ h
       · refine go ?_;refine T ?_;exact rt
       exact rt
     intro e ae J;have h:=B;refine gs ?_;obtain ⟨O,p,C⟩:=ob h;refine CW.jn [0,1,2,7,8,9] [] [(59,.bool O)] J (h1:=?_) (h2:=?_)
     · have h:=p;refine go ?_;refine T ?_;refine bH h ?_ ?_<;>intro _ h
       · refine gB h ?_ ?_<;>intro _ h
         · exact rt
         refine go ?_;refine T ?_;exact rt
       exact rt
     intro e af Y;have h:=C;refine gc h ?_ ?_<;>intro _ h
     · refine go ?_;refine T ?_;exact rt
     exact rt
   exact rt
 intro x e ah hM;rcases l with l | ac
 · obtain ⟨rfl,hM⟩:=hM;obtain ⟨e,rfl,Z⟩:=eo hM;have h:=k;refine gc h ?_ ?_<;>intro _ h
   · exact rt
   exact rt
 obtain ⟨rfl,u,rfl,hM⟩:=hM;cases k;exact And.intro trivial hM
instance k_284:Ct prog 284:=⟨by kernel_rfl,@FG⟩
theorem tV {w0 N k r} (h:lC N k=some r) {b f d} (g:f=k.length) (j:rb w0 b d k) :
    gV prog 232 #[vS b f d] w0 (fun v w=>∃ n o,v=vS n r.length o∧St w0 [] w [sl n o r]):=by
 subst g;unfold lC at h;refine gV.fn func232 fun e=>?_;have q:=St.start w0;refine go ?_;refine LW.b0 (α:=Int) q ?_;intro z B G p hf;refine gb h fun I u h=>?_;refine LW.jS (l:=([]:List Int)) (m:=k) pI rfl rfl (p.rB j) u p (i:=0) rfl rfl ?_;intro A C H x hf;exact rt
instance k_232:Ct prog 232:=⟨by kernel_rfl,@tV⟩
theorem D6 {w0 N k r} (h:la N k=some r) {b f d} (g:f=k.length) (j:rb w0 b d k) :
    gV prog 233 #[vS b f d] w0 (fun v w=>∃ n o,v=vS n r.length o∧St w0 [] w [sl n o r]):=by
 subst g;unfold la at h;refine gV.fn func233 fun e=>?_;have q:=St.start w0;refine go ?_;refine LW.b0 (α:=g6) q ?_;intro z B G p hf;refine gb h fun I u h=>?_;refine LW.jS (l:=([]:List g6)) (m:=k) GX rfl rfl (p.rB j) u p (i:=0) rfl rfl ?_;intro A C H x hf;exact rt
instance k_233:Ct prog 233:=⟨by kernel_rfl,@D6⟩
theorem lZ {w0 N b d f r} (h:iP N b d f=some r) :
    gV prog 91 #[vI b,vI d,vI f] w0 (fun v w=>v=.bool r∧St w0 [] w []):=by
 unfold iP at h;refine gV.fn func91 fun e=>?_;have g:=St.start w0;refine gB h ?_ ?_<;>intro _ h
 · exact rt
 exact rt
instance k_91:Ct prog 91:=⟨by kernel_rfl,@lZ⟩
theorem IX {w0 N b d r} (h:lG N b d=some r) :
    gV prog 152 #[.agg #[vI b.gE,vI b.gX,vI b.g8],.agg #[vI d.gE,vI d.gX,vI d.g8]] w0 (fun v w=>v=.agg #[vI r.gE,vI r.gX,vI r.g8]∧St w0 [] w []):=by
 unfold lG at h;refine gV.fn func152 fun e=>?_;have f:=St.start w0;refine T ?_;intro l o g m p i n q j;refine LW.bd [(0,vI (i64.wrap (b.gE+d.gE))),(1,vI (i64.wrap (b.gX+d.gX))),(2,vI (i64.wrap (b.g8+d.g8)))] #[vI (i64.wrap (b.gE+d.gE)),vI (i64.wrap (b.gX+d.gX)),vI (i64.wrap (b.g8+d.g8))] ?_;refine T ?_;intro u k;exact rt
instance k_152:Ct prog 152:=⟨by kernel_rfl,@IX⟩
theorem Da {w0 N m z r} (h:qi N m z=some r) {b f d} (g:f=m.length) (i:rb w0 b d m) :
    gV prog 248 #[vS b f d,vI z] w0 (fun v w=>v=vI r∧St w0 [] w []):=by
 subst g;unfold qi at h;refine gV.fn func248 fun e=>?_;have n:=St.start w0;refine go ?_;obtain ⟨k,l,j⟩:=ob h;refine CW.mono (CW.lx [0,1,7] [] [] 0 (fun q=>[(8,vI q)]) (RT prog f248.results (fun u=>vI u) w0 []) n l (hb:=?_)) ?_
 · intro q e R o G h;refine gc h ?_ ?_<;>intro _ h
   · refine gb h fun U p h=>?_;obtain ⟨M,O,C,rfl,A,I,J,rfl,B⟩:=i.idx p;refine go ?_;refine T ?_;refine CW.fl [0,1,5,7,8,16] fun e=>?_;refine gc h ?_ ?_<;>intro _ h
     · exact rt
     exact rt
   exact rt
 intro x e L hM;rcases k with k | K
 · obtain ⟨rfl,hM⟩:=hM;obtain ⟨e,rfl,H⟩:=eo hM;rw [show e=iq e [] from rfl];have h:=j;exact rt
 obtain ⟨rfl,u,rfl,hM⟩:=hM;cases j;exact And.intro trivial hM
instance k_248:Ct prog 248:=⟨by kernel_rfl,@Da⟩
theorem CS {w0 N B C r} (h:pX N B C=some r) {b i f} (k:i=B.length) (m:rb w0 b f B) {d j g} (l:j=C.length) (n:rb w0 d g C) :
    gV prog 363 #[vS b i f,vS d j g] w0 (fun v w=>v=.bool r∧St w0 [] w []):=by
 subst k l;unfold pX at h;refine gV.fn func363 fun e=>?_;have G:=St.start w0;refine gc h ?_ ?_<;>intro _ h
 · exact rt
 refine go ?_;obtain ⟨q,z,p⟩:=ob h;refine CW.mono (CW.lx [0,1,12] [] [] 0 (fun J=>[(13,vI J)]) (RT prog f363.results (fun u=>.bool u) w0 []) G z (hb:=?_)) ?_
 · intro J e aj o H h;refine gc h ?_ ?_<;>intro _ h
   · refine jK ?_;have Y:=H.drew;refine gb h fun ak I h=>?_;obtain ⟨ah,ai,K,rfl,M,aa,ab,rfl,R⟩:=m.idx I;refine go ?_;refine T ?_;have ⟨af,A,h⟩:=ob h;obtain ⟨X,ac,L,rfl,O,V,W,rfl,U⟩:=n.idx A;refine go ?_;refine T ?_;refine gc h ?_ ?_<;>intro _ h
     · exact rt
     exact rt
   exact rt
 intro x e ae hM;rcases q with q | ad
 · obtain ⟨rfl,hM⟩:=hM;obtain ⟨e,rfl,Z⟩:=eo hM;rw [show e=iq e [] from rfl];have h:=p;exact rt
 obtain ⟨rfl,u,rfl,hM⟩:=hM;cases p;exact And.intro trivial hM
instance k_363:Ct prog 363:=⟨by kernel_rfl,@CS⟩
theorem C3 {w0 N C G r} (h:sZ N C G=some r) {b j f} (l:j=C.length) (n:rb w0 b f C) {d k g} (m:k=G.length) (p:rb w0 d g G) :
    gV prog 364 #[vS b j f,vS d k g] w0 (fun v w=>v=.bool r∧St w0 [] w []):=by
 subst l m;unfold sZ at h;refine gV.fn func364 fun e=>?_;have H:=St.start w0;refine gc h ?_ ?_<;>intro _ h
 · exact rt
 refine go ?_;obtain ⟨z,A,q⟩:=ob h;refine CW.mono (CW.lx [0,1,12] [] [] 0 (fun K=>[(13,vI K)]) (RT prog f364.results (fun u=>.bool u) w0 []) H A (hb:=?_)) ?_
 · intro K e am o I h;refine gc h ?_ ?_<;>intro _ h
   · refine jK ?_;have ab:=I.drew;refine gb h fun Z J h=>?_;obtain ⟨aj,ak,M,rfl,R,ad,ae,rfl,V⟩:=n.idx J;refine go ?_;refine T ?_;have ⟨L,B,h⟩:=ob h;obtain ⟨aa,af,O,rfl,U,X,Y,rfl,W⟩:=p.idx B;refine go ?_;refine T ?_;refine AW.u (i:=8) rfl (by kernel_rfl) rfl rfl (il.Nm NS rfl rfl (fun w=>N7 Z L w)) ?_;refine gc h ?_ ?_<;>intro _ h
     · exact rt
     exact rt
   exact rt
 intro x e ai hM;rcases z with z | ah
 · obtain ⟨rfl,hM⟩:=hM;obtain ⟨e,rfl,ac⟩:=eo hM;rw [show e=iq e [] from rfl];have h:=q;exact rt
 obtain ⟨rfl,u,rfl,hM⟩:=hM;cases q;exact And.intro trivial hM
instance k_364:Ct prog 364:=⟨by kernel_rfl,@C3⟩
theorem FK {w0 N b d r} (h:qq N b d=some r) :
    gV prog 328 #[.agg #[vI b.gE,vI b.gX,vI b.g8],vI d] w0 (fun v w=>v=vI r∧St w0 [] w []):=by
 unfold qq at h;refine gV.fn func328 fun e=>?_;have f:=St.start w0;refine T ?_;intro i j g;refine gc h ?_ ?_<;>intro _ h
 · exact rt
 refine gc h ?_ ?_<;>intro _ h
 · exact rt
 refine gc h ?_ ?_<;>intro _ h
 · exact rt
 exact rt
instance k_328:Ct prog 328:=⟨by kernel_rfl,@FK⟩
theorem H9 {w0 N d b r} (h:nf N d b=some r) :
    gV prog 220 #[vI d,vI b] w0 (fun v w=>v=.agg #[vI r.gE,vI r.gX,vI r.g8]∧St w0 [] w []):=by
 unfold nf at h;refine gV.fn func220 fun e=>?_;have f:=St.start w0;refine T ?_;intro m n g;refine gc h ?_ ?_<;>intro _ h
 · refine jt [(0,vI b)] #[vI b,vI 0,vI 0] ?_;refine T ?_;intro o i;exact rt
 refine gc h ?_ ?_<;>intro _ h
 · refine jt [(1,vI b)] #[vI 0,vI b,vI 0] ?_;refine T ?_;intro p j;exact rt
 refine gc h ?_ ?_<;>intro _ h
 · refine jt [(2,vI b)] #[vI 0,vI 0,vI b] ?_;refine T ?_;intro q k;exact rt
 refine jt [] #[vI 0,vI 0,vI 0] ?_;refine T ?_;intro u l;exact rt
instance k_220:Ct prog 220:=⟨by kernel_rfl,@H9⟩
theorem FU {w0 N b A r} (h:mK N b A=some r) {d l i} (o:l=b.gZ.length) (u:rb w0 d i b.gZ) {f m j} (p:m=b.Po.length) (x:rb w0 f j b.Po) {g n k} (q:n=b.Pk.length) (z:rb w0 g k b.Pk) :
    gV prog 310 #[.agg #[vI b.Pw,vI b.Pf,vI b.box,vI b.Pu,vI b.iz,vI b.gE,vI b.Pq,vI b.iy,vI b.im,.bool b.Ps,vS d l i,vS f m j,vS g n k],vI A] w0 (fun v w=>v=.bool r∧St w0 [] w []):=by
 subst o p q;unfold mK at h;refine gV.fn func310 fun e=>?_;have B:=St.start w0;refine T ?_;intro G H C;refine gB h ?_ ?_<;>intro _ h
 · exact rt
 exact rt
instance k_310:Ct prog 310:=⟨by kernel_rfl,@FU⟩
end Go.Kx
