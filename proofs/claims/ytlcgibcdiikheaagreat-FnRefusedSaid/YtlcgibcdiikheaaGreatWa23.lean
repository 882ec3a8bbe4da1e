import Derived.Test.YtlcgibcdiikheaaGreatFa
import Derived.Test.YtlcgibcdiikheaaGreatPu
namespace Go.Kx
open Go Go.RowKit Go.Proofs
open Go.IntKind (i64)
open Tryz
set_option maxRecDepth 10000
set_option maxHeartbeats 8000000
set_option linter.unusedVariables false
set_option linter.unusedSimpArgs false
theorem Hn {w0 N k r} (h:mz N k=some r) {b f d} (g:f=k.length) (j:rb w0 b d k) :
    iq prog 259 #[vS b f d] w0 (fun v w=>∃ n o,v=vS n r.length o∧St w0 [] w [sl n o r]):=by
 subst g;unfold mz at h;refine iq.fn func259 fun e=>?_;have q:=St.start w0;refine go ?_;refine LW.b0 (α:=im) q ?_;intro z B G p hf;refine gb h fun I u h=>?_;refine LW.jT (l:=([]:List im)) (m:=k) KO rfl rfl (p.rB j) u p (i:=0) rfl rfl ?_;intro A C H x hf;exact rt
instance k_259:Ct prog 259:=⟨by kernel_rfl,@Hn⟩
theorem Iz {w0 N b r} (h:tJ N b=some r) {o A u} (H:A=b.ig.length) (K:rb w0 o u b.ig) {p B x} (I:B=b.PG.length) (L:rb w0 p x b.PG) {q C z} (J:C=b.PE.length) (M:rb w0 q z b.PE) :
    iq prog 331 #[.agg #[vI b.PO,vI b.Pz,vI b.box,vI b.res,vI b.iK,vI b.bh,vI b.PK,vI b.iP,vI b.iM,.bool b.mark,vS o A u,vS p B x,vS q C z]] w0 (fun v w=>∃ d j, ∃ f k, ∃ g n,v=.agg #[vI r.PO,vI r.Pz,vI r.box,vI r.res,vI r.iK,vI r.bh,vI r.PK,vI r.iP,vI r.iM,.bool r.mark,vS d r.ig.length j,vS f r.PG.length k,vS g r.PE.length n]∧St w0 [] w [sl d j r.ig,sl f k r.PG,sl g n r.PE]):=by
 subst H I J;unfold tJ at h;refine iq.fn func331 fun e=>?_;have ao:=St.start w0;refine T ?_;intro aI aK ap aJ aL W;refine LW.b0 (α:=Int) W ?_;intro aF aH aM O hf;refine gb h fun aN Z h=>?_;refine LW.jT (l:=([]:List Int)) (m:=b.ig) nb rfl rfl (O.rB K) Z O (i:=0) rfl rfl ?_;intro aG ai au aq hf;refine T ?_;intro av X;refine LW.b0 (α:=Int) X ?_;intro ad aj aw R hf;refine gb h fun aD U h=>?_;refine LW.jT (l:=([]:List Int)) (m:=b.PG) nb rfl rfl (R.rB L) U R (i:=0) rfl rfl ?_;intro ae ak ax ar hf;refine T ?_;intro ay Y;refine LW.b0 (α:=je) Y ?_;intro af am az G hf;refine gb h fun aE V h=>?_;refine LW.jT (l:=([]:List je)) (m:=b.PE) rK rfl rfl (G.rB M) V G (i:=0) rfl rfl ?_;intro ah an aA aa hf;refine T ?_;intro aB ab aC ac;exact rt
instance k_331:Ct prog 331:=⟨by kernel_rfl,@Iz⟩
theorem uX {w0 N b d f r} (h:jf N b d f=some r) :
    iq prog 84 #[vI b,vI d,vI f] w0 (fun v w=>v=.bool r∧St w0 [] w []):=by
 unfold jf at h;refine iq.fn func84 fun e=>?_;have g:=St.start w0;refine gB h ?_ ?_<;>intro _ h
 · exact rt
 exact rt
instance k_84:Ct prog 84:=⟨by kernel_rfl,@uX⟩
theorem I9 {w0 N x r} (h:rH N x=some r) {g n i} (q:n=x.length) (u:rb w0 g i x) :
    iq prog 274 #[vS g n i] w0 (fun v w=>v=.agg #[vI r.bh,vI r.ib,vI r.ij]∧St w0 [] w []):=by
 subst q;unfold rH at h;refine iq.fn func274 fun e=>?_;have K:=St.start w0;refine go ?_;refine LW.al K fun H ai L=>?_;refine jL [] #[vI 0,vI 0,vI 0] ?_;refine LW.al L fun I aj M=>?_;refine LW.st M 0 fun ak O=>?_;refine go ?_;obtain ⟨ab,G,J⟩:=ob h;refine CW.ie G 0 (fun p e wb=>En e [(0,vS g x.length i),(2,.pointer (some ⟨H,0,none⟩)),(3,.pointer (some ⟨I,0,none⟩)),(4,vI p.1)]∧St w0 [] wb [bx I 48 [vI p.2.1,vI p.2.2.1,vI p.2.2.2],bx H 48 [vI 0,vI 0,vI 0]]) ?_ (O.po [0,1]) ?_
 · intro p e am o hM h;obtain ⟨hE,j⟩:=hM;obtain ⟨e,rfl⟩:=hE.out;refine gc h ?_ ?_<;>intro _ h
   · refine gb h fun an V h=>?_;obtain ⟨Z,aa,W,rfl,d,X,Y,rfl,f⟩:=u.idx V;refine go ?_;refine LW.l (jV.lC w0 MU rfl (f 0 _ rfl)) (j.same _ d.1 d.2) rfl ?_;refine kD [0,2,3,4,16] fun e=>?_;refine gc h ?_ ?_<;>intro _ h
     · refine kb ?_;have z:=j.drew;refine go ?_;refine AW.tk 7 rfl (jV.lC w0 na rfl (f 2 _ rfl)) (z.same _ d.1 d.2) ?_;refine zK 10 ?_;refine LW.st z 0 fun ac R=>?_;refine jN (jW (jW jZ)) ?_;refine kb ?_;have A:=R.drew;refine go ?_;refine AW.tk 7 rfl (jV.lC w0 na rfl (f 3 _ rfl)) (A.same _ d.1 d.2) ?_;refine zK 10 ?_;refine LW.st A 0 fun ad U=>?_;refine jN (jW (jW jZ)) ?_;refine kb ?_;have k:=U.drew;refine go ?_;refine AW.tk 7 rfl (jV.lC w0 na rfl (f 4 _ rfl)) (k.same _ d.1 d.2) ?_;refine zK 10 ?_;refine LW.st k 0 fun ae B=>?_;refine jN (jW (jW jZ)) ?_;refine go ?_;cases oi h;exact ⟨rfl,(B.po [0,1])⟩
     refine go ?_;cases oi h;exact ⟨rfl,(j.po [0,1])⟩
   refine go ?_;cases oi h;exact ⟨trivial,rfl,(j.po [0,1])⟩
 rintro e af ⟨hE,C⟩;obtain ⟨e,rfl⟩:=hE.out;have h:=J;refine wR C 1 fun ah m=>?_;refine go ?_;cases h;exact And.intro trivial ⟨_,kI.one (iD.b m 1 rfl DQ rfl rfl),rfl,m.pk []⟩
instance k_274:Ct prog 274:=⟨by kernel_rfl,@I9⟩
theorem JT {w0 N m z r} (h:m4 N m z=some r) {b f d} (g:f=m.length) (i:rb w0 b d m) :
    iq prog 165 #[vS b f d,vI z] w0 (fun v w=>v=.bool r∧St w0 [] w []):=by
 subst g;unfold m4 at h;refine iq.fn func165 fun e=>?_;have n:=St.start w0;refine go ?_;obtain ⟨k,l,j⟩:=ob h;refine CW.mono (CW.lx [0,1] [] [] 0 (fun q=>[(5,vI q)]) (RT prog f165.results (fun u=>.bool u) w0 []) n l (hb:=?_)) ?_
 · intro q e R o G h;refine gc h ?_ ?_<;>intro _ h
   · refine gb h fun U p h=>?_;obtain ⟨M,O,C,rfl,A,I,J,rfl,B⟩:=i.idx p;refine go ?_;refine T ?_;refine CW.fl [0,1,5,17] fun e=>?_;refine gc h ?_ ?_<;>intro _ h
     · exact rt
     exact rt
   exact rt
 intro x e L hM;rcases k with k | K
 · obtain ⟨rfl,hM⟩:=hM;obtain ⟨e,rfl,H⟩:=eo hM;rw [show e=iN e [] from rfl];have h:=j;exact rt
 obtain ⟨rfl,u,rfl,hM⟩:=hM;cases j;exact And.intro trivial hM
instance k_165:Ct prog 165:=⟨by kernel_rfl,@JT⟩
theorem E1 {w0 N b d r} (h:sU N b d=some r) :
    iq prog 273 #[.agg #[vI b.bh,vI b.ib,vI b.ij],vI d] w0 (fun v w=>v=vI r∧St w0 [] w []):=by
 unfold sU at h;refine iq.fn func273 fun e=>?_;have f:=St.start w0;refine T ?_;intro i j g;refine gc h ?_ ?_<;>intro _ h
 · exact rt
 refine gc h ?_ ?_<;>intro _ h
 · exact rt
 refine gc h ?_ ?_<;>intro _ h
 · exact rt
 exact rt
instance k_273:Ct prog 273:=⟨by kernel_rfl,@E1⟩
theorem H0 {w0 N d b r} (h:uK N d b=some r) :
    iq prog 271 #[vI d,vI b] w0 (fun v w=>v=.agg #[vI r.bh,vI r.ib,vI r.ij]∧St w0 [] w []):=by
 unfold uK at h;refine iq.fn func271 fun e=>?_;have f:=St.start w0;refine T ?_;intro m n g;refine gc h ?_ ?_<;>intro _ h
 · refine jL [(0,vI b)] #[vI b,vI 0,vI 0] ?_;refine T ?_;intro o i;exact rt
 refine gc h ?_ ?_<;>intro _ h
 · refine jL [(1,vI b)] #[vI 0,vI b,vI 0] ?_;refine T ?_;intro p j;exact rt
 refine gc h ?_ ?_<;>intro _ h
 · refine jL [(2,vI b)] #[vI 0,vI 0,vI b] ?_;refine T ?_;intro q k;exact rt
 refine jL [] #[vI 0,vI 0,vI 0] ?_;refine T ?_;intro u l;exact rt
instance k_271:Ct prog 271:=⟨by kernel_rfl,@H0⟩
theorem EK {w0 N b A r} (h:mO N b A=some r) {d l i} (o:l=b.ig.length) (u:rb w0 d i b.ig) {f m j} (p:m=b.PG.length) (x:rb w0 f j b.PG) {g n k} (q:n=b.PE.length) (z:rb w0 g k b.PE) :
    iq prog 125 #[.agg #[vI b.PO,vI b.Pz,vI b.box,vI b.res,vI b.iK,vI b.bh,vI b.PK,vI b.iP,vI b.iM,.bool b.mark,vS d l i,vS f m j,vS g n k],vI A] w0 (fun v w=>v=.bool r∧St w0 [] w []):=by
 subst o p q;unfold mO at h;refine iq.fn func125 fun e=>?_;have B:=St.start w0;refine T ?_;intro G H C;refine gB h ?_ ?_<;>intro _ h
 · exact rt
 exact rt
instance k_125:Ct prog 125:=⟨by kernel_rfl,@EK⟩
theorem D4 {w0 N k r} (h:mR N k=some r) {b f d} (g:f=k.length) (j:rb w0 b d k) :
    iq prog 232 #[vS b f d] w0 (fun v w=>∃ n o,v=vS n r.length o∧St w0 [] w [sl n o r]):=by
 subst g;unfold mR at h;refine iq.fn func232 fun e=>?_;have q:=St.start w0;refine go ?_;refine LW.b0 (α:=Int) q ?_;intro z B G p hf;refine gb h fun I u h=>?_;refine LW.jT (l:=([]:List Int)) (m:=k) nb rfl rfl (p.rB j) u p (i:=0) rfl rfl ?_;intro A C H x hf;exact rt
instance k_232:Ct prog 232:=⟨by kernel_rfl,@D4⟩
theorem Ea {w0 N k r} (h:ml N k=some r) {b f d} (g:f=k.length) (j:rb w0 b d k) :
    iq prog 233 #[vS b f d] w0 (fun v w=>∃ n o,v=vS n r.length o∧St w0 [] w [sl n o r]):=by
 subst g;unfold ml at h;refine iq.fn func233 fun e=>?_;have q:=St.start w0;refine go ?_;refine LW.b0 (α:=im) q ?_;intro z B G p hf;refine gb h fun I u h=>?_;refine LW.jT (l:=([]:List im)) (m:=k) KO rfl rfl (p.rB j) u p (i:=0) rfl rfl ?_;intro A C H x hf;exact rt
instance k_233:Ct prog 233:=⟨by kernel_rfl,@Ea⟩
theorem mY {w0 N b d f r} (h:ji N b d f=some r) :
    iq prog 91 #[vI b,vI d,vI f] w0 (fun v w=>v=.bool r∧St w0 [] w []):=by
 unfold ji at h;refine iq.fn func91 fun e=>?_;have g:=St.start w0;refine gB h ?_ ?_<;>intro _ h
 · exact rt
 exact rt
instance k_91:Ct prog 91:=⟨by kernel_rfl,@mY⟩
theorem Iy {w0 N b d r} (h:m5 N b d=some r) :
    iq prog 152 #[.agg #[vI b.bh,vI b.ib,vI b.ij],.agg #[vI d.bh,vI d.ib,vI d.ij]] w0 (fun v w=>v=.agg #[vI r.bh,vI r.ib,vI r.ij]∧St w0 [] w []):=by
 unfold m5 at h;refine iq.fn func152 fun e=>?_;have f:=St.start w0;refine T ?_;intro l o g m p i n q j;refine LW.bd [(0,vI (i64.wrap (b.bh+d.bh))),(1,vI (i64.wrap (b.ib+d.ib))),(2,vI (i64.wrap (b.ij+d.ij)))] #[vI (i64.wrap (b.bh+d.bh)),vI (i64.wrap (b.ib+d.ib)),vI (i64.wrap (b.ij+d.ij))] ?_;refine T ?_;intro u k;exact rt
instance k_152:Ct prog 152:=⟨by kernel_rfl,@Iy⟩
theorem CJ {w0 N m z r} (h:qo N m z=some r) {b f d} (g:f=m.length) (i:rb w0 b d m) :
    iq prog 248 #[vS b f d,vI z] w0 (fun v w=>v=vI r∧St w0 [] w []):=by
 subst g;unfold qo at h;refine iq.fn func248 fun e=>?_;have n:=St.start w0;refine go ?_;obtain ⟨k,l,j⟩:=ob h;refine CW.mono (CW.lx [0,1,7] [] [] 0 (fun q=>[(8,vI q)]) (RT prog f248.results (fun u=>vI u) w0 []) n l (hb:=?_)) ?_
 · intro q e R o G h;refine gc h ?_ ?_<;>intro _ h
   · refine gb h fun U p h=>?_;obtain ⟨M,O,C,rfl,A,I,J,rfl,B⟩:=i.idx p;refine go ?_;refine T ?_;refine CW.fl [0,1,5,7,8,16] fun e=>?_;refine gc h ?_ ?_<;>intro _ h
     · exact rt
     exact rt
   exact rt
 intro x e L hM;rcases k with k | K
 · obtain ⟨rfl,hM⟩:=hM;obtain ⟨e,rfl,H⟩:=eo hM;rw [show e=iN e [] from rfl];have h:=j;exact rt
 obtain ⟨rfl,u,rfl,hM⟩:=hM;cases j;exact And.intro trivial hM
instance k_248:Ct prog 248:=⟨by kernel_rfl,@CJ⟩
theorem CS {w0 N B C r} (h:qA N B C=some r) {b i f} (k:i=B.length) (m:rb w0 b f B) {d j g} (l:j=C.length) (n:rb w0 d g C) :
    iq prog 363 #[vS b i f,vS d j g] w0 (fun v w=>v=.bool r∧St w0 [] w []):=by
 subst k l;unfold qA at h;refine iq.fn func363 fun e=>?_;have G:=St.start w0;refine gc h ?_ ?_<;>intro _ h
 · exact rt
 refine go ?_;obtain ⟨q,z,p⟩:=ob h;refine CW.mono (CW.lx [0,1,12] [] [] 0 (fun J=>[(13,vI J)]) (RT prog f363.results (fun u=>.bool u) w0 []) G z (hb:=?_)) ?_
 · intro J e aj o H h;refine gc h ?_ ?_<;>intro _ h
   · refine kb ?_;have Y:=H.drew;refine gb h fun ak I h=>?_;obtain ⟨ah,ai,K,rfl,M,aa,ab,rfl,R⟩:=m.idx I;refine go ?_;refine T ?_;have ⟨af,A,h⟩:=ob h;obtain ⟨X,ac,L,rfl,O,V,W,rfl,U⟩:=n.idx A;refine go ?_;refine T ?_;refine gc h ?_ ?_<;>intro _ h
     · exact rt
     exact rt
   exact rt
 intro x e ae hM;rcases q with q | ad
 · obtain ⟨rfl,hM⟩:=hM;obtain ⟨e,rfl,Z⟩:=eo hM;rw [show e=iN e [] from rfl];have h:=p;exact rt
 obtain ⟨rfl,u,rfl,hM⟩:=hM;cases p;exact And.intro trivial hM
instance k_363:Ct prog 363:=⟨by kernel_rfl,@CS⟩
theorem CM {w0 N C G r} (h:tq N C G=some r) {b j f} (l:j=C.length) (n:rb w0 b f C) {d k g} (m:k=G.length) (p:rb w0 d g G) :
    iq prog 364 #[vS b j f,vS d k g] w0 (fun v w=>v=.bool r∧St w0 [] w []):=by
 subst l m;unfold tq at h;refine iq.fn func364 fun e=>?_;have H:=St.start w0;refine gc h ?_ ?_<;>intro _ h
 · exact rt
 refine go ?_;obtain ⟨z,A,q⟩:=ob h;refine CW.mono (CW.lx [0,1,12] [] [] 0 (fun K=>[(13,vI K)]) (RT prog f364.results (fun u=>.bool u) w0 []) H A (hb:=?_)) ?_
 · intro K e am o I h;refine gc h ?_ ?_<;>intro _ h
   · refine kb ?_;have ab:=I.drew;refine gb h fun Z J h=>?_;obtain ⟨aj,ak,M,rfl,R,ad,ae,rfl,V⟩:=n.idx J;refine go ?_;refine T ?_;have ⟨L,B,h⟩:=ob h;obtain ⟨aa,af,O,rfl,U,X,Y,rfl,W⟩:=p.idx B;refine go ?_;refine T ?_;refine AW.u (i:=8) rfl (by kernel_rfl) rfl rfl (iQ.Co Ln rfl rfl (fun w=>Ls Z L w)) ?_;refine gc h ?_ ?_<;>intro _ h
     · exact rt
     exact rt
   exact rt
 intro x e ai hM;rcases z with z | ah
 · obtain ⟨rfl,hM⟩:=hM;obtain ⟨e,rfl,ac⟩:=eo hM;rw [show e=iN e [] from rfl];have h:=q;exact rt
 obtain ⟨rfl,u,rfl,hM⟩:=hM;cases q;exact And.intro trivial hM
instance k_364:Ct prog 364:=⟨by kernel_rfl,@CM⟩
theorem E5 {w0 N b d r} (h:sI N b d=some r) :
    iq prog 328 #[.agg #[vI b.bh,vI b.ib,vI b.ij],vI d] w0 (fun v w=>v=vI r∧St w0 [] w []):=by
 unfold sI at h;refine iq.fn func328 fun e=>?_;have f:=St.start w0;refine T ?_;intro i j g;refine gc h ?_ ?_<;>intro _ h
 · exact rt
 refine gc h ?_ ?_<;>intro _ h
 · exact rt
 refine gc h ?_ ?_<;>intro _ h
 · exact rt
 exact rt
instance k_328:Ct prog 328:=⟨by kernel_rfl,@E5⟩
theorem Hz {w0 N d b r} (h:uO N d b=some r) :
    iq prog 220 #[vI d,vI b] w0 (fun v w=>v=.agg #[vI r.bh,vI r.ib,vI r.ij]∧St w0 [] w []):=by
 unfold uO at h;refine iq.fn func220 fun e=>?_;have f:=St.start w0;refine T ?_;intro m n g;refine gc h ?_ ?_<;>intro _ h
 · refine jL [(0,vI b)] #[vI b,vI 0,vI 0] ?_;refine T ?_;intro o i;exact rt
 refine gc h ?_ ?_<;>intro _ h
 · refine jL [(1,vI b)] #[vI 0,vI b,vI 0] ?_;refine T ?_;intro p j;exact rt
 refine gc h ?_ ?_<;>intro _ h
 · refine jL [(2,vI b)] #[vI 0,vI 0,vI b] ?_;refine T ?_;intro q k;exact rt
 refine jL [] #[vI 0,vI 0,vI 0] ?_;refine T ?_;intro u l;exact rt
instance k_220:Ct prog 220:=⟨by kernel_rfl,@Hz⟩
theorem Ff {w0 N b A r} (h:ra N b A=some r) {d l i} (o:l=b.ig.length) (u:rb w0 d i b.ig) {f m j} (p:m=b.PG.length) (x:rb w0 f j b.PG) {g n k} (q:n=b.PE.length) (z:rb w0 g k b.PE) :
    iq prog 310 #[.agg #[vI b.PO,vI b.Pz,vI b.box,vI b.res,vI b.iK,vI b.bh,vI b.PK,vI b.iP,vI b.iM,.bool b.mark,vS d l i,vS f m j,vS g n k],vI A] w0 (fun v w=>v=.bool r∧St w0 [] w []):=by
 subst o p q;unfold ra at h;refine iq.fn func310 fun e=>?_;have B:=St.start w0;refine T ?_;intro G H C;refine gB h ?_ ?_<;>intro _ h
 · exact rt
 exact rt
instance k_310:Ct prog 310:=⟨by kernel_rfl,@Ff⟩
theorem JP {w0 N p q r} (h:vw N p q=some r) {g m k} (u:m=p.PA.length) (z:rb w0 g k p.PA) {j n f} (x:n=q.PA.length) (A:rb w0 j f q.PA) :
    iq prog 305 #[.agg #[vS g m k],.agg #[vS j n f]] w0 (fun v w=>∃ B C,v=vS B r.length C∧St w0 [] w [sl B C r]):=by
 subst u x;unfold vw at h;refine iq.fn func305 fun e=>?_;have aq:=St.start w0;refine T ?_;intro aE aF ar H aG V;refine LW.b0 (α:=Int) V ?_;intro Z aa aH W hf;refine go ?_;obtain ⟨ax,I,U⟩:=ob h;refine CW.ie I 0 (fun l e wb=>∃ (b:Ad) (d:Nat),En e [(3,.pointer (some ⟨H,0,none⟩)),(5,vS b l.1.length d),(10,vS g p.PA.length k),(11,vI (p.PA.length:Int)),(12,vI l.2)]∧St w0 [] wb [sl b d l.1,bx H 39 [vS j q.PA.length f]]) ?_ ⟨Z,aa,W.po [0,1]⟩ ?_
 · intro l e aI o hM h;obtain ⟨b,d,hE,X⟩:=hM;obtain ⟨e,rfl⟩:=hE.out;refine gc h ?_ ?_<;>intro _ h
   · refine gb h fun aB J h=>?_;obtain ⟨ao,aw,ab,rfl,ad,ai,ak,rfl,af⟩:=z.idx J;refine go ?_;refine T ?_;have ⟨aC,K,h⟩:=ob h;obtain ⟨R,Y,ac,rfl,ae,aj,am,rfl,ah⟩:=A.idx K;refine go ?_;refine T ?_;refine CW.fl [3,5,6,10,11,12,23] fun e=>?_;refine gc h ?_ ?_<;>intro _ h
     · refine gb h fun aD O h=>?_;refine LW.l5 (M:=[]) (L:=[sl b d l.1,bx H 39 [vS (some ⟨R,Y,none⟩) q.PA.length f]]) (vs:=#[vI l.2]) (i:=0) nb rfl (by kernel_rfl) rfl rfl O X rfl (fun w G hG=>by cases (show G=[] from hG);exact ⟨rfl,rfl⟩) rfl rfl ?_;intro ay an ap az au hf;exact rt
     exact rt
   exact rt
 rintro e aA ⟨b,d,hE,av⟩;obtain ⟨e,rfl⟩:=hE.out;have h:=U;exact rt
instance k_305:Ct prog 305:=⟨by kernel_rfl,@JP⟩
theorem BJ {w0} {F:List Nat} {N g K z r} (h:pH N g K z=some r) {d q b} (x:q=g.length) (hS:St w0 F w0 [sl d b g]) :
    iq prog 258 #[vS d q b,vI K,vI z] w0 (fun v w=>∃ A B,v=vS A r.length B∧St w0 F w [sl A B r]):=by
 subst x;unfold pH at h;refine iq.fn func258 fun e=>?_;refine gb h fun aa n h=>?_;have f:=(hS.rI 0 rfl).le;refine LW.u (iQ.O0 (α:=iZ) (l:=g) underlying46 xR rfl rfl rfl rfl n f) rfl ?_;refine gc h ?_ ?_<;>intro C h
 · exact rt
 refine kb ?_;have I:=hS.drew;refine gb h fun M o h=>?_;obtain ⟨Y,Z,G,H⟩:∃ (a':Ad) (c':Nat),a'=nM d b ((0:Int).toNat) (iw.sz iZ)∧c'=b - (0:Int).toNat:=⟨_,_,rfl,rfl⟩;refine AW.u (i:=2) rfl (by kernel_rfl) rfl rfl (iQ.sub (α:=iZ) (l:=g) underlying46 xR rfl uv (uF rfl) o f G H) ?_;refine gb h fun O p h=>?_;obtain ⟨R,U,j,m⟩:∃ (a':Ad) (c':Nat),a'=nM d b ((z:Int).toNat) (iw.sz iZ)∧c'=b - (z:Int).toNat:=⟨_,_,rfl,rfl⟩;refine AW.u (i:=5) rfl (by kernel_rfl) rfl rfl (iQ.sub (α:=iZ) (l:=g) underlying46 xR rfl (uF rfl) uv p f j m) ?_;refine T ?_;refine LW.O7 tB I (k:=0) rfl n C o p rfl G H rfl j m rfl ?_;intro W J;refine T ?_;have L:=MF n C o p;refine LW.u (iQ.OW (α:=iZ) underlying46 xR rfl rfl rfl (by omega) (by omega) (by omega)) rfl ?_;refine LW.Pm (l:=(M++O)) tB J (k:=0) rfl rfl (by omega) (by omega) ?_;intro X V;exact rt
instance k_258:Ct prog 258:=⟨by kernel_rfl,@BJ⟩
theorem yM {w0 N r} (h:rr N=some r) :
    iq prog 295 #[] w0 (fun v w=>∃ l m,v=vS l r.length m∧St w0 [] w [sl l m r]):=by
 unfold rr at h;refine iq.fn func295 fun e=>?_;have x:=St.start w0;refine gb h fun u I h=>?_;refine LW.mk KD rfl rfl I x rfl ?_;intro V g W A hf;refine go ?_;refine LW.bi [-1, -1] A ?_;intro f j X n hf;refine LW.bd [(1,vI 1),(2,vI (-1)),(4,vI 1000000),(10,vS f (([-1, -1]:List Int).length) j)] #[vI 0,vI 1,vI (-1),vI 0,vI 1000000,vI 0,vI 0,vI 0,vI 0,.bool false,vS f (([-1, -1]:List Int).length) j,vS none 0 0,vS none 0 0] ?_;have ⟨O,q,h⟩:=ob h;obtain ⟨d,b,hae,R,K⟩:=n.iF (α:=gE) (i:=1) rfl q;subst hae;refine go ?_;have B:=n.nil (α:=Int);have C:=B.nil (α:=je);have H:=C.pk (M:=[sl f j ([-1, -1]:List Int),sl none 0 [],sl none 0 []]++[sl (some ⟨d,b,none⟩) g u]) [2,1,0,3];have ⟨J,k,h⟩:=ob h;refine LW.AV (M:=[sl f j ([-1, -1]:List Int),sl none 0 [],sl none 0 []]) (L:=[sl (some ⟨d,b,none⟩) g u]) (z:=O) (z':=(gE.mk 0 1 (-1) 0 1000000 0 0 0 0 false ([-1, -1]:List Int) [] [])) (o:=0) H (i:=0) rfl q xX rfl (by show _=b+(0:Int).toNat * 13+0;omega) rfl rfl rfl rfl (whole (fun w G hG=>⟨f,j,none,0,none,0,rfl,hG⟩)) ?_;intro U p hf;rw [oi k] at p;refine go ?_;replace h:=oi h;subst h;exact Ra ⟨(some ⟨d,b,none⟩),g,(show (vS (some ⟨d,b,none⟩) u.length g:Value)=vS (some ⟨d,b,none⟩) J.length g by rw [iB (oi k)]),p.pk [0]⟩
instance k_295:Ct prog 295:=⟨by kernel_rfl,@yM⟩
theorem B1 {w0 N r} (h:tU N=some r) :
    iq prog 296 #[] w0 (fun v w=>∃ b d,v=.agg #[vI r.PD,vI r.PL,vI r.PF,vS b r.hZ.length d]∧St w0 [] w [sl b d r.hZ]):=by
 unfold tU at h;refine iq.fn func296 fun e=>?_;have j:=St.start w0;refine T ?_;intro m n i;refine LW.bi [0] i ?_;intro f g o k hf;refine LW.bd [(3,vS f (([0]:List Int).length) g)] #[vI 0,vI 0,vI 0,vS f (([0]:List Int).length) g] ?_;refine T ?_;intro p l;exact rt
instance k_296:Ct prog 296:=⟨by kernel_rfl,@B1⟩
theorem FZ {w0 N i r} (h:zg N i=some r) {b f d} (g:f=i.length) (j:rb w0 b d i) :
    iq prog 11 #[vS b f d] w0 (fun v w=>v=.bool r∧St w0 [] w []):=by
 subst g;unfold zg at h;refine iq.fn func11 fun e=>?_;have k:=St.start w0;exact rt
instance k_11:Ct prog 11:=⟨by kernel_rfl,@FZ⟩
end Go.Kx
