import Derived.Test.YtlcgibcdiikheaaGreatFa
import Derived.Test.YtlcgibcdiikheaaGreatPu
namespace Go.Kx
open Go Go.RowKit Go.Proofs
open Go.IntKind (i64)
open Tryz
set_option maxRecDepth 10000
set_option maxHeartbeats 8000000
set_option linter.unusedVariables false
set_option linter.unusedSimpArgs false
theorem BH {w0 N k r} (h:lU N k=some r) {b f d} (g:f=k.length) (j:rb w0 b d k) :
    g8 prog 259 #[vS b f d] w0 (fun v w=>∃ n o,v=vS n r.length o∧St w0 [] w [sl n o r]):=by
 subst g;unfold lU at h;refine g8.fn func259 fun e=>?_;have q:=St.start w0;refine go ?_;refine LW.b0 (α:=g6) q ?_;intro z B G p hf;refine gb h fun I u h=>?_;refine LW.km (l:=([]:List g6)) (m:=k) Ll rfl rfl (p.rB j) u p (i:=0) rfl rfl ?_;intro A C H x hf;exact rt
instance k_259:Ct prog 259:=⟨by kernel_rfl,@BH⟩
theorem J7 {w0 N b r} (h:uk N b=some r) {o A u} (H:A=b.gZ.length) (K:rb w0 o u b.gZ) {p B x} (I:B=b.QV.length) (L:rb w0 p x b.QV) {q C z} (J:C=b.QU.length) (M:rb w0 q z b.QU) :
    g8 prog 331 #[.agg #[vI b.Q3,vI b.py,vI b.box,vI b.res,vI b.iF,vI b.bh,vI b.QW,vI b.iK,vI b.iG,.bool b.mark,vS o A u,vS p B x,vS q C z]] w0 (fun v w=>∃ d j, ∃ f k, ∃ g n,v=.agg #[vI r.Q3,vI r.py,vI r.box,vI r.res,vI r.iF,vI r.bh,vI r.QW,vI r.iK,vI r.iG,.bool r.mark,vS d r.gZ.length j,vS f r.QV.length k,vS g r.QU.length n]∧St w0 [] w [sl d j r.gZ,sl f k r.QV,sl g n r.QU]):=by
 subst H I J;unfold uk at h;refine g8.fn func331 fun e=>?_;have ao:=St.start w0;refine T ?_;intro aI aK ap aJ aL W;refine LW.b0 (α:=Int) W ?_;intro aF aH aM O hf;refine gb h fun aN Z h=>?_;refine LW.km (l:=([]:List Int)) (m:=b.gZ) oL rfl rfl (O.rB K) Z O (i:=0) rfl rfl ?_;intro aG ai au aq hf;refine T ?_;intro av X;refine LW.b0 (α:=Int) X ?_;intro ad aj aw R hf;refine gb h fun aD U h=>?_;refine LW.km (l:=([]:List Int)) (m:=b.QV) oL rfl rfl (R.rB L) U R (i:=0) rfl rfl ?_;intro ae ak ax ar hf;refine T ?_;intro ay Y;refine LW.b0 (α:=jw) Y ?_;intro af am az G hf;refine gb h fun aE V h=>?_;refine LW.km (l:=([]:List jw)) (m:=b.QU) vv rfl rfl (G.rB M) V G (i:=0) rfl rfl ?_;intro ah an aA aa hf;refine T ?_;intro aB ab aC ac;exact rt
instance k_331:Ct prog 331:=⟨by kernel_rfl,@J7⟩
theorem ub {w0 N b d f r} (h:iL N b d f=some r) :
    g8 prog 84 #[vI b,vI d,vI f] w0 (fun v w=>v=.bool r∧St w0 [] w []):=by
 unfold iL at h;refine g8.fn func84 fun e=>?_;have g:=St.start w0;refine gB h ?_ ?_<;>intro _ h
 · exact rt
 exact rt
instance k_84:Ct prog 84:=⟨by kernel_rfl,@ub⟩
theorem JL {w0 N x r} (h:r7 N x=some r) {g n i} (q:n=x.length) (u:rb w0 g i x) :
    g8 prog 274 #[vS g n i] w0 (fun v w=>v=.agg #[vI r.bh,vI r.gS,vI r.gW]∧St w0 [] w []):=by
 subst q;unfold r7 at h;refine g8.fn func274 fun e=>?_;have K:=St.start w0;refine go ?_;refine LW.al K fun H ai L=>?_;refine jX [] #[vI 0,vI 0,vI 0] ?_;refine LW.al L fun I aj M=>?_;refine LW.st M 0 fun ak O=>?_;refine go ?_;obtain ⟨ab,G,J⟩:=ob h;refine CW.ie G 0 (fun p e wb=>En e [(0,vS g x.length i),(2,.pointer (some ⟨H,0,none⟩)),(3,.pointer (some ⟨I,0,none⟩)),(4,vI p.1)]∧St w0 [] wb [bx I 48 [vI p.2.1,vI p.2.2.1,vI p.2.2.2],bx H 48 [vI 0,vI 0,vI 0]]) ?_ (O.po [0,1]) ?_
 · intro p e am o hM h;obtain ⟨hE,j⟩:=hM;obtain ⟨e,rfl⟩:=hE.out;refine gc h ?_ ?_<;>intro _ h
   · refine gb h fun an V h=>?_;obtain ⟨Z,aa,W,rfl,d,X,Y,rfl,f⟩:=u.idx V;refine go ?_;refine LW.l (jV.lR w0 ML rfl (f 0 _ rfl)) (j.same _ d.1 d.2) rfl ?_;refine kS [0,2,3,4,16] fun e=>?_;refine gc h ?_ ?_<;>intro _ h
     · refine mo ?_;have z:=j.drew;refine go ?_;refine AW.tk 7 rfl (jV.lR w0 qV rfl (f 2 _ rfl)) (z.same _ d.1 d.2) ?_;refine C8 10 ?_;refine LW.st z 0 fun ac R=>?_;refine jN (jW (jW jZ)) ?_;refine mo ?_;have A:=R.drew;refine go ?_;refine AW.tk 7 rfl (jV.lR w0 qV rfl (f 3 _ rfl)) (A.same _ d.1 d.2) ?_;refine C8 10 ?_;refine LW.st A 0 fun ad U=>?_;refine jN (jW (jW jZ)) ?_;refine mo ?_;have k:=U.drew;refine go ?_;refine AW.tk 7 rfl (jV.lR w0 qV rfl (f 4 _ rfl)) (k.same _ d.1 d.2) ?_;refine C8 10 ?_;refine LW.st k 0 fun ae B=>?_;refine jN (jW (jW jZ)) ?_;refine go ?_;cases oi h;exact ⟨rfl,(B.po [0,1])⟩
     refine go ?_;cases oi h;exact ⟨rfl,(j.po [0,1])⟩
   refine go ?_;cases oi h;exact ⟨trivial,rfl,(j.po [0,1])⟩
 rintro e af ⟨hE,C⟩;obtain ⟨e,rfl⟩:=hE.out;have h:=J;refine vV C 1 fun ah m=>?_;refine go ?_;cases h;exact And.intro trivial ⟨_,lk.one (iq.b m 1 rfl H4 rfl rfl),rfl,m.pk []⟩
instance k_274:Ct prog 274:=⟨by kernel_rfl,@JL⟩
theorem Kw {w0 N m z r} (h:nj N m z=some r) {b f d} (g:f=m.length) (i:rb w0 b d m) :
    g8 prog 165 #[vS b f d,vI z] w0 (fun v w=>v=.bool r∧St w0 [] w []):=by
 subst g;unfold nj at h;refine g8.fn func165 fun e=>?_;have n:=St.start w0;refine go ?_;obtain ⟨k,l,j⟩:=ob h;refine CW.mono (CW.lx [0,1] [] [] 0 (fun q=>[(5,vI q)]) (RT prog f165.results (fun u=>.bool u) w0 []) n l (hb:=?_)) ?_
 · intro q e R o G h;refine gc h ?_ ?_<;>intro _ h
   · refine gb h fun U p h=>?_;obtain ⟨M,O,C,rfl,A,I,J,rfl,B⟩:=i.idx p;refine go ?_;refine T ?_;refine CW.fl [0,1,5,17] fun e=>?_;refine gc h ?_ ?_<;>intro _ h
     · exact rt
     exact rt
   exact rt
 intro x e L hM;rcases k with k | K
 · obtain ⟨rfl,hM⟩:=hM;obtain ⟨e,rfl,H⟩:=eo hM;rw [show e=iy e [] from rfl];have h:=j;exact rt
 obtain ⟨rfl,u,rfl,hM⟩:=hM;cases j;exact And.intro trivial hM
instance k_165:Ct prog 165:=⟨by kernel_rfl,@Kw⟩
theorem FT {w0 N b d r} (h:rz N b d=some r) :
    g8 prog 273 #[.agg #[vI b.bh,vI b.gS,vI b.gW],vI d] w0 (fun v w=>v=vI r∧St w0 [] w []):=by
 unfold rz at h;refine g8.fn func273 fun e=>?_;have f:=St.start w0;refine T ?_;intro i j g;refine gc h ?_ ?_<;>intro _ h
 · exact rt
 refine gc h ?_ ?_<;>intro _ h
 · exact rt
 refine gc h ?_ ?_<;>intro _ h
 · exact rt
 exact rt
instance k_273:Ct prog 273:=⟨by kernel_rfl,@FT⟩
theorem IL {w0 N d b r} (h:sL N d b=some r) :
    g8 prog 271 #[vI d,vI b] w0 (fun v w=>v=.agg #[vI r.bh,vI r.gS,vI r.gW]∧St w0 [] w []):=by
 unfold sL at h;refine g8.fn func271 fun e=>?_;have f:=St.start w0;refine T ?_;intro m n g;refine gc h ?_ ?_<;>intro _ h
 · refine jX [(0,vI b)] #[vI b,vI 0,vI 0] ?_;refine T ?_;intro o i;exact rt
 refine gc h ?_ ?_<;>intro _ h
 · refine jX [(1,vI b)] #[vI 0,vI b,vI 0] ?_;refine T ?_;intro p j;exact rt
 refine gc h ?_ ?_<;>intro _ h
 · refine jX [(2,vI b)] #[vI 0,vI 0,vI b] ?_;refine T ?_;intro q k;exact rt
 refine jX [] #[vI 0,vI 0,vI 0] ?_;refine T ?_;intro u l;exact rt
instance k_271:Ct prog 271:=⟨by kernel_rfl,@IL⟩
theorem Gj {w0 N b A r} (h:mU N b A=some r) {d l i} (o:l=b.gZ.length) (u:rb w0 d i b.gZ) {f m j} (p:m=b.QV.length) (x:rb w0 f j b.QV) {g n k} (q:n=b.QU.length) (z:rb w0 g k b.QU) :
    g8 prog 125 #[.agg #[vI b.Q3,vI b.py,vI b.box,vI b.res,vI b.iF,vI b.bh,vI b.QW,vI b.iK,vI b.iG,.bool b.mark,vS d l i,vS f m j,vS g n k],vI A] w0 (fun v w=>v=.bool r∧St w0 [] w []):=by
 subst o p q;unfold mU at h;refine g8.fn func125 fun e=>?_;have B:=St.start w0;refine T ?_;intro G H C;refine gB h ?_ ?_<;>intro _ h
 · exact rt
 exact rt
instance k_125:Ct prog 125:=⟨by kernel_rfl,@Gj⟩
theorem FN {w0 N z R U r} (h:tV N z R U=some r) {b f d} (g:f=z.length) (i:rb w0 b d z) :
    g8 prog 284 #[vS b f d,vI R,vI U] w0 (fun v w=>v=vI r∧St w0 [] w []):=by
 subst g;unfold tV at h;refine g8.fn func284 fun e=>?_;have G:=St.start w0;refine go ?_;obtain ⟨l,q,k⟩:=ob h;refine CW.mono (CW.lx [0,1,2] [] [7,8] 0 (fun j=>[(7,vI j.1),(8,vI j.2.1),(9,vI j.2.2)]) (RT prog f284.results (fun u=>vI u) w0 []) G q (hb:=?_)) ?_
 · intro j e ak o H h;refine gc h ?_ ?_<;>intro _ h
   · refine gb h fun am K h=>?_;obtain ⟨ai,aj,X,rfl,V,aa,ab,rfl,W⟩:=i.idx K;refine go ?_;refine T ?_;refine CW.fl [0,1,2,7,8,9,20] fun e=>?_;refine gc h ?_ ?_<;>intro _ h
     · exact rt
     refine go ?_;refine T ?_;refine gc h ?_ ?_<;>intro _ h
     · exact rt
     refine gs ?_;obtain ⟨L,m,A⟩:=ob h;refine CW.jn [0,1,2,7,8,9] [] [(37,.bool L)] H (h1:=?_) (h2:=?_)
     · have h:=m;refine gB h ?_ ?_<;>intro _ h
       · exact rt
       refine go ?_;refine T ?_;exact rt
     intro e ad I;have h:=A;refine gs ?_;obtain ⟨M,n,B⟩:=ob h;refine CW.jn [0,1,2,8,9] [] [(7,vI M)] I (h1:=?_) (h2:=?_)
     · have h:=n;refine gc h ?_ ?_<;>intro _ h
       · refine go ?_;refine T ?_;exact rt
       exact rt
     intro e ae J;have h:=B;refine gs ?_;obtain ⟨O,p,C⟩:=ob h;refine CW.jn [0,1,2,7,8,9] [] [(59,.bool O)] J (h1:=?_) (h2:=?_)
     · have h:=p;refine go ?_;refine T ?_;refine bH h ?_ ?_<;>intro _ h
       · refine gB h ?_ ?_<;>intro _ h
         · exact rt
         refine go ?_;refine T ?_;exact rt
       exact rt
     intro e af Y;have h:=C;refine gc h ?_ ?_<;>intro _ h
     · refine go ?_;refine T ?_;exact rt
     exact rt
   exact rt
 intro x e ah hM;rcases l with l | ac
 · obtain ⟨rfl,hM⟩:=hM;obtain ⟨e,rfl,Z⟩:=eo hM;have h:=k;refine gc h ?_ ?_<;>intro _ h
   · exact rt
   exact rt
 obtain ⟨rfl,u,rfl,hM⟩:=hM;cases k;exact And.intro trivial hM
instance k_284:Ct prog 284:=⟨by kernel_rfl,@FN⟩
theorem DU {w0 N k r} (h:m7 N k=some r) {b f d} (g:f=k.length) (j:rb w0 b d k) :
    g8 prog 232 #[vS b f d] w0 (fun v w=>∃ n o,v=vS n r.length o∧St w0 [] w [sl n o r]):=by
 subst g;unfold m7 at h;refine g8.fn func232 fun e=>?_;have q:=St.start w0;refine go ?_;refine LW.b0 (α:=Int) q ?_;intro z B G p hf;refine gb h fun I u h=>?_;refine LW.km (l:=([]:List Int)) (m:=k) oL rfl rfl (p.rB j) u p (i:=0) rfl rfl ?_;intro A C H x hf;exact rt
instance k_232:Ct prog 232:=⟨by kernel_rfl,@DU⟩
theorem Ek {w0 N k r} (h:nS N k=some r) {b f d} (g:f=k.length) (j:rb w0 b d k) :
    g8 prog 233 #[vS b f d] w0 (fun v w=>∃ n o,v=vS n r.length o∧St w0 [] w [sl n o r]):=by
 subst g;unfold nS at h;refine g8.fn func233 fun e=>?_;have q:=St.start w0;refine go ?_;refine LW.b0 (α:=g6) q ?_;intro z B G p hf;refine gb h fun I u h=>?_;refine LW.km (l:=([]:List g6)) (m:=k) Ll rfl rfl (p.rB j) u p (i:=0) rfl rfl ?_;intro A C H x hf;exact rt
instance k_233:Ct prog 233:=⟨by kernel_rfl,@Ek⟩
theorem qC {w0 N b d f r} (h:jm N b d f=some r) :
    g8 prog 91 #[vI b,vI d,vI f] w0 (fun v w=>v=.bool r∧St w0 [] w []):=by
 unfold jm at h;refine g8.fn func91 fun e=>?_;have g:=St.start w0;refine gB h ?_ ?_<;>intro _ h
 · exact rt
 exact rt
instance k_91:Ct prog 91:=⟨by kernel_rfl,@qC⟩
theorem Jc {w0 N b d r} (h:ox N b d=some r) :
    g8 prog 152 #[.agg #[vI b.bh,vI b.gS,vI b.gW],.agg #[vI d.bh,vI d.gS,vI d.gW]] w0 (fun v w=>v=.agg #[vI r.bh,vI r.gS,vI r.gW]∧St w0 [] w []):=by
 unfold ox at h;refine g8.fn func152 fun e=>?_;have f:=St.start w0;refine T ?_;intro l o g m p i n q j;refine LW.bd [(0,vI (i64.wrap (b.bh+d.bh))),(1,vI (i64.wrap (b.gS+d.gS))),(2,vI (i64.wrap (b.gW+d.gW)))] #[vI (i64.wrap (b.bh+d.bh)),vI (i64.wrap (b.gS+d.gS)),vI (i64.wrap (b.gW+d.gW))] ?_;refine T ?_;intro u k;exact rt
instance k_152:Ct prog 152:=⟨by kernel_rfl,@Jc⟩
theorem Dx {w0 N m z r} (h:qQ N m z=some r) {b f d} (g:f=m.length) (i:rb w0 b d m) :
    g8 prog 248 #[vS b f d,vI z] w0 (fun v w=>v=vI r∧St w0 [] w []):=by
 subst g;unfold qQ at h;refine g8.fn func248 fun e=>?_;have n:=St.start w0;refine go ?_;obtain ⟨k,l,j⟩:=ob h;refine CW.mono (CW.lx [0,1,7] [] [] 0 (fun q=>[(8,vI q)]) (RT prog f248.results (fun u=>vI u) w0 []) n l (hb:=?_)) ?_
 · intro q e R o G h;refine gc h ?_ ?_<;>intro _ h
   · refine gb h fun U p h=>?_;obtain ⟨M,O,C,rfl,A,I,J,rfl,B⟩:=i.idx p;refine go ?_;refine T ?_;refine CW.fl [0,1,5,7,8,16] fun e=>?_;refine gc h ?_ ?_<;>intro _ h
     · exact rt
     exact rt
   exact rt
 intro x e L hM;rcases k with k | K
 · obtain ⟨rfl,hM⟩:=hM;obtain ⟨e,rfl,H⟩:=eo hM;rw [show e=iy e [] from rfl];have h:=j;exact rt
 obtain ⟨rfl,u,rfl,hM⟩:=hM;cases j;exact And.intro trivial hM
instance k_248:Ct prog 248:=⟨by kernel_rfl,@Dx⟩
theorem Dp {w0 N B C r} (h:qU N B C=some r) {b i f} (k:i=B.length) (m:rb w0 b f B) {d j g} (l:j=C.length) (n:rb w0 d g C) :
    g8 prog 363 #[vS b i f,vS d j g] w0 (fun v w=>v=.bool r∧St w0 [] w []):=by
 subst k l;unfold qU at h;refine g8.fn func363 fun e=>?_;have G:=St.start w0;refine gc h ?_ ?_<;>intro _ h
 · exact rt
 refine go ?_;obtain ⟨q,z,p⟩:=ob h;refine CW.mono (CW.lx [0,1,12] [] [] 0 (fun J=>[(13,vI J)]) (RT prog f363.results (fun u=>.bool u) w0 []) G z (hb:=?_)) ?_
 · intro J e aj o H h;refine gc h ?_ ?_<;>intro _ h
   · refine mo ?_;have Y:=H.drew;refine gb h fun ak I h=>?_;obtain ⟨ah,ai,K,rfl,M,aa,ab,rfl,R⟩:=m.idx I;refine go ?_;refine T ?_;have ⟨af,A,h⟩:=ob h;obtain ⟨X,ac,L,rfl,O,V,W,rfl,U⟩:=n.idx A;refine go ?_;refine T ?_;refine gc h ?_ ?_<;>intro _ h
     · exact rt
     exact rt
   exact rt
 intro x e ae hM;rcases q with q | ad
 · obtain ⟨rfl,hM⟩:=hM;obtain ⟨e,rfl,Z⟩:=eo hM;rw [show e=iy e [] from rfl];have h:=p;exact rt
 obtain ⟨rfl,u,rfl,hM⟩:=hM;cases p;exact And.intro trivial hM
instance k_363:Ct prog 363:=⟨by kernel_rfl,@Dp⟩
theorem Di {w0 N C G r} (h:ua N C G=some r) {b j f} (l:j=C.length) (n:rb w0 b f C) {d k g} (m:k=G.length) (p:rb w0 d g G) :
    g8 prog 364 #[vS b j f,vS d k g] w0 (fun v w=>v=.bool r∧St w0 [] w []):=by
 subst l m;unfold ua at h;refine g8.fn func364 fun e=>?_;have H:=St.start w0;refine gc h ?_ ?_<;>intro _ h
 · exact rt
 refine go ?_;obtain ⟨z,A,q⟩:=ob h;refine CW.mono (CW.lx [0,1,12] [] [] 0 (fun K=>[(13,vI K)]) (RT prog f364.results (fun u=>.bool u) w0 []) H A (hb:=?_)) ?_
 · intro K e am o I h;refine gc h ?_ ?_<;>intro _ h
   · refine mo ?_;have ab:=I.drew;refine gb h fun Z J h=>?_;obtain ⟨aj,ak,M,rfl,R,ad,ae,rfl,V⟩:=n.idx J;refine go ?_;refine T ?_;have ⟨L,B,h⟩:=ob h;obtain ⟨aa,af,O,rfl,U,X,Y,rfl,W⟩:=p.idx B;refine go ?_;refine T ?_;refine AW.u (i:=8) rfl (by kernel_rfl) rfl rfl (iM.OA PZ rfl rfl (fun w=>PD Z L w)) ?_;refine gc h ?_ ?_<;>intro _ h
     · exact rt
     exact rt
   exact rt
 intro x e ai hM;rcases z with z | ah
 · obtain ⟨rfl,hM⟩:=hM;obtain ⟨e,rfl,ac⟩:=eo hM;rw [show e=iy e [] from rfl];have h:=q;exact rt
 obtain ⟨rfl,u,rfl,hM⟩:=hM;cases q;exact And.intro trivial hM
instance k_364:Ct prog 364:=⟨by kernel_rfl,@Di⟩
theorem Gz {w0 N b d r} (h:ti N b d=some r) :
    g8 prog 328 #[.agg #[vI b.bh,vI b.gS,vI b.gW],vI d] w0 (fun v w=>v=vI r∧St w0 [] w []):=by
 unfold ti at h;refine g8.fn func328 fun e=>?_;have f:=St.start w0;refine T ?_;intro i j g;refine gc h ?_ ?_<;>intro _ h
 · exact rt
 refine gc h ?_ ?_<;>intro _ h
 · exact rt
 refine gc h ?_ ?_<;>intro _ h
 · exact rt
 exact rt
instance k_328:Ct prog 328:=⟨by kernel_rfl,@Gz⟩
theorem Im {w0 N d b r} (h:pd N d b=some r) :
    g8 prog 220 #[vI d,vI b] w0 (fun v w=>v=.agg #[vI r.bh,vI r.gS,vI r.gW]∧St w0 [] w []):=by
 unfold pd at h;refine g8.fn func220 fun e=>?_;have f:=St.start w0;refine T ?_;intro m n g;refine gc h ?_ ?_<;>intro _ h
 · refine jX [(0,vI b)] #[vI b,vI 0,vI 0] ?_;refine T ?_;intro o i;exact rt
 refine gc h ?_ ?_<;>intro _ h
 · refine jX [(1,vI b)] #[vI 0,vI b,vI 0] ?_;refine T ?_;intro p j;exact rt
 refine gc h ?_ ?_<;>intro _ h
 · refine jX [(2,vI b)] #[vI 0,vI 0,vI b] ?_;refine T ?_;intro q k;exact rt
 refine jX [] #[vI 0,vI 0,vI 0] ?_;refine T ?_;intro u l;exact rt
instance k_220:Ct prog 220:=⟨by kernel_rfl,@Im⟩
theorem GR {w0 N b A r} (h:nK N b A=some r) {d l i} (o:l=b.gZ.length) (u:rb w0 d i b.gZ) {f m j} (p:m=b.QV.length) (x:rb w0 f j b.QV) {g n k} (q:n=b.QU.length) (z:rb w0 g k b.QU) :
    g8 prog 310 #[.agg #[vI b.Q3,vI b.py,vI b.box,vI b.res,vI b.iF,vI b.bh,vI b.QW,vI b.iK,vI b.iG,.bool b.mark,vS d l i,vS f m j,vS g n k],vI A] w0 (fun v w=>v=.bool r∧St w0 [] w []):=by
 subst o p q;unfold nK at h;refine g8.fn func310 fun e=>?_;have B:=St.start w0;refine T ?_;intro G H C;refine gB h ?_ ?_<;>intro _ h
 · exact rt
 exact rt
instance k_310:Ct prog 310:=⟨by kernel_rfl,@GR⟩
theorem Gv {w0 N z R U r} (h:tX N z R U=some r) {b f d} (g:f=z.length) (i:rb w0 b d z) :
    g8 prog 221 #[vS b f d,vI R,vI U] w0 (fun v w=>v=vI r∧St w0 [] w []):=by
 subst g;unfold tX at h;refine g8.fn func221 fun e=>?_;have G:=St.start w0;refine go ?_;obtain ⟨l,q,k⟩:=ob h;refine CW.mono (CW.lx [1,2,11,12] [] [7,8] 0 (fun j=>[(7,vI j.1),(8,vI j.2.1),(13,vI j.2.2)]) (RT prog f221.results (fun u=>vI u) w0 []) G q (hb:=?_)) ?_
 · intro j e ak o H h;refine gc h ?_ ?_<;>intro _ h
   · refine gb h fun am K h=>?_;obtain ⟨ai,aj,X,rfl,V,aa,ab,rfl,W⟩:=i.idx K;refine go ?_;refine T ?_;refine CW.fl [1,2,7,8,10,11,12,13,18] fun e=>?_;refine gc h ?_ ?_<;>intro _ h
     · exact rt
     refine gc h ?_ ?_<;>intro _ h
     · exact rt
     refine gs ?_;obtain ⟨L,m,A⟩:=ob h;refine CW.jn [1,2,7,8,10,11,12,13] [] [(29,.bool L)] H (h1:=?_) (h2:=?_)
     · have h:=m;refine gB h ?_ ?_<;>intro _ h
       · exact rt
       exact rt
     intro e ad I;have h:=A;refine gs ?_;obtain ⟨M,n,B⟩:=ob h;refine CW.jn [1,2,8,10,11,12,13] [] [(7,vI M)] I (h1:=?_) (h2:=?_)
     · have h:=n;refine gc h ?_ ?_<;>intro _ h
       · exact rt
       exact rt
     intro e ae J;have h:=B;refine gs ?_;obtain ⟨O,p,C⟩:=ob h;refine CW.jn [1,2,7,8,10,11,12,13] [] [(42,.bool O)] J (h1:=?_) (h2:=?_)
     · have h:=p;refine gB h ?_ ?_<;>intro _ h
       · refine gB h ?_ ?_<;>intro _ h
         · exact rt
         exact rt
       exact rt
     intro e af Y;have h:=C;refine gc h ?_ ?_<;>intro _ h
     · exact rt
     exact rt
   exact rt
 intro x e ah hM;rcases l with l | ac
 · obtain ⟨rfl,hM⟩:=hM;obtain ⟨e,rfl,Z⟩:=eo hM;have h:=k;refine gc h ?_ ?_<;>intro _ h
   · exact rt
   exact rt
 obtain ⟨rfl,u,rfl,hM⟩:=hM;cases k;exact And.intro trivial hM
instance k_221:Ct prog 221:=⟨by kernel_rfl,@Gv⟩
theorem zy {w0 N r} (h:vh N=some r) :
    g8 prog 295 #[] w0 (fun v w=>∃ l m,v=vS l r.length m∧St w0 [] w [sl l m r]):=by
 unfold vh at h;refine g8.fn func295 fun e=>?_;have x:=St.start w0;refine gb h fun u I h=>?_;refine LW.mk L0 rfl rfl I x rfl ?_;intro V g W A hf;refine go ?_;refine LW.bi [-1, -1] A ?_;intro f j X n hf;refine LW.bd [(1,vI 1),(2,vI (-1)),(4,vI 1000000),(10,vS f (([-1, -1]:List Int).length) j)] #[vI 0,vI 1,vI (-1),vI 0,vI 1000000,vI 0,vI 0,vI 0,vI 0,.bool false,vS f (([-1, -1]:List Int).length) j,vS none 0 0,vS none 0 0] ?_;have ⟨O,q,h⟩:=ob h;obtain ⟨d,b,hae,R,K⟩:=n.iu (α:=gE) (i:=1) rfl q;subst hae;refine go ?_;have B:=n.nil (α:=Int);have C:=B.nil (α:=jw);have H:=C.pk (M:=[sl f j ([-1, -1]:List Int),sl none 0 [],sl none 0 []]++[sl (some ⟨d,b,none⟩) g u]) [2,1,0,3];have ⟨J,k,h⟩:=ob h;refine LW.x6 (M:=[sl f j ([-1, -1]:List Int),sl none 0 [],sl none 0 []]) (L:=[sl (some ⟨d,b,none⟩) g u]) (z:=O) (z':=(gE.mk 0 1 (-1) 0 1000000 0 0 0 0 false ([-1, -1]:List Int) [] [])) (o:=0) H (i:=0) rfl q yt rfl (by show _=b+(0:Int).toNat * 13+0;omega) rfl rfl rfl rfl (whole (fun w G hG=>⟨f,j,none,0,none,0,rfl,hG⟩)) ?_;intro U p hf;rw [oi k] at p;refine go ?_;replace h:=oi h;subst h;exact Ra ⟨(some ⟨d,b,none⟩),g,(show (vS (some ⟨d,b,none⟩) u.length g:Value)=vS (some ⟨d,b,none⟩) J.length g by rw [iv (oi k)]),p.pk [0]⟩
instance k_295:Ct prog 295:=⟨by kernel_rfl,@zy⟩
end Go.Kx
