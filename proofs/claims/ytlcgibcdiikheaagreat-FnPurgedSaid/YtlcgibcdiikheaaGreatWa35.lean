import Derived.Test.YtlcgibcdiikheaaGreatFa
import Derived.Test.YtlcgibcdiikheaaGreatPu
namespace Go.Kx
open Go Go.RowKit Go.Proofs
open Tryz
set_option maxRecDepth 10000
set_option maxHeartbeats 8000000
set_option linter.unusedVariables false
set_option linter.unusedSimpArgs false
theorem wa {w0 N k r} (h:j0 N k=some r) {b f d} (g:f=k.length) (j:rb w0 b d k) :
    gZ prog 259 #[vS b f d] w0 (fun v w=>∃ n o,v=vS n r.length o∧St w0 [] w [sl n o r]):=by
 subst g;unfold j0 at h;refine gZ.fn func259 fun e=>?_;have q:=St.start w0;refine go ?_;refine LW.b0 (α:=gW) q ?_;intro z B G p hf;refine gb h fun I u h=>?_;refine LW.jw (l:=([]:List gW)) (m:=k) FG rfl rfl (p.rB j) u p (i:=0) rfl rfl ?_;intro A C H x hf;exact rt
instance k_259:Ct prog 259:=⟨by kernel_rfl,@wa⟩
theorem B1 {w0 N b r} (h:pt N b=some r) {o A u} (H:A=b.g5.length) (K:rb w0 o u b.g5) {p B x} (I:B=b.HI.length) (L:rb w0 p x b.HI) {q C z} (J:C=b.HE.length) (M:rb w0 q z b.HE) :
    gZ prog 331 #[.agg #[vI b.HR,vI b.HA,vI b.box,vI b.HP,vI b.iK,vI b.gE,vI b.HK,vI b.iF,vI b.iE,.bool b.HM,vS o A u,vS p B x,vS q C z]] w0 (fun v w=>∃ d j, ∃ f k, ∃ g n,v=.agg #[vI r.HR,vI r.HA,vI r.box,vI r.HP,vI r.iK,vI r.gE,vI r.HK,vI r.iF,vI r.iE,.bool r.HM,vS d r.g5.length j,vS f r.HI.length k,vS g r.HE.length n]∧St w0 [] w [sl d j r.g5,sl f k r.HI,sl g n r.HE]):=by
 subst H I J;unfold pt at h;refine gZ.fn func331 fun e=>?_;have ao:=St.start w0;refine T ?_;intro aI aK ap aJ aL W;refine LW.b0 (α:=Int) W ?_;intro aF aH aM O hf;refine gb h fun aN Z h=>?_;refine LW.jw (l:=([]:List Int)) (m:=b.g5) mX rfl rfl (O.rB K) Z O (i:=0) rfl rfl ?_;intro aG ai au aq hf;refine T ?_;intro av X;refine LW.b0 (α:=Int) X ?_;intro ad aj aw R hf;refine gb h fun aD U h=>?_;refine LW.jw (l:=([]:List Int)) (m:=b.HI) mX rfl rfl (R.rB L) U R (i:=0) rfl rfl ?_;intro ae ak ax ar hf;refine T ?_;intro ay Y;refine LW.b0 (α:=jg) Y ?_;intro af am az G hf;refine gb h fun aE V h=>?_;refine LW.jw (l:=([]:List jg)) (m:=b.HE) sn rfl rfl (G.rB M) V G (i:=0) rfl rfl ?_;intro ah an aA aa hf;refine T ?_;intro aB ab aC ac;exact rt
instance k_331:Ct prog 331:=⟨by kernel_rfl,@B1⟩
theorem pe {w0 N b d f r} (h:ir N b d f=some r) :
    gZ prog 84 #[vI b,vI d,vI f] w0 (fun v w=>v=.bool r∧St w0 [] w []):=by
 unfold ir at h;refine gZ.fn func84 fun e=>?_;have g:=St.start w0;refine gB h ?_ ?_<;>intro _ h
 · exact rt
 exact rt
instance k_84:Ct prog 84:=⟨by kernel_rfl,@pe⟩
theorem B4 {w0 N x r} (h:nF N x=some r) {g n i} (q:n=x.length) (u:rb w0 g i x) :
    gZ prog 274 #[vS g n i] w0 (fun v w=>v=.agg #[vI r.gE,vI r.gV,vI r.hY]∧St w0 [] w []):=by
 subst q;unfold nF at h;refine gZ.fn func274 fun e=>?_;have K:=St.start w0;refine go ?_;refine LW.al K fun H ai L=>?_;refine jj [] #[vI 0,vI 0,vI 0] ?_;refine LW.al L fun I aj M=>?_;refine LW.st M 0 fun ak O=>?_;refine go ?_;obtain ⟨ab,G,J⟩:=ob h;refine CW.ie G 0 (fun p e wb=>En e [(0,vS g x.length i),(2,.pointer (some ⟨H,0,none⟩)),(3,.pointer (some ⟨I,0,none⟩)),(4,vI p.1)]∧St w0 [] wb [bx I 48 [vI p.2.1,vI p.2.2.1,vI p.2.2.2],bx H 48 [vI 0,vI 0,vI 0]]) ?_ (O.po [0,1]) ?_
 · intro p e am o hM h;obtain ⟨hE,j⟩:=hM;obtain ⟨e,rfl⟩:=hE.out;refine gc h ?_ ?_<;>intro _ h
   · refine gb h fun an V h=>?_;obtain ⟨Z,aa,W,rfl,d,X,Y,rfl,f⟩:=u.idx V;refine go ?_;refine LW.l (jb.j7 w0 FT rfl (f 0 _ rfl)) (j.same _ d.1 d.2) rfl ?_;refine kI [0,2,3,4,16] fun e=>?_;refine gc h ?_ ?_<;>intro _ h
     · refine kG ?_;have z:=j.drew;refine go ?_;refine AW.tk 7 rfl (jb.j7 w0 lA rfl (f 2 _ rfl)) (z.same _ d.1 d.2) ?_;refine xa 10 ?_;refine LW.st z 0 fun ac R=>?_;refine jN (jW (jW jZ)) ?_;refine kG ?_;have A:=R.drew;refine go ?_;refine AW.tk 7 rfl (jb.j7 w0 lA rfl (f 3 _ rfl)) (A.same _ d.1 d.2) ?_;refine xa 10 ?_;refine LW.st A 0 fun ad U=>?_;refine jN (jW (jW jZ)) ?_;refine kG ?_;have k:=U.drew;refine go ?_;refine AW.tk 7 rfl (jb.j7 w0 lA rfl (f 4 _ rfl)) (k.same _ d.1 d.2) ?_;refine xa 10 ?_;refine LW.st k 0 fun ae B=>?_;refine jN (jW (jW jZ)) ?_;refine go ?_;cases oi h;exact ⟨rfl,(B.po [0,1])⟩
     refine go ?_;cases oi h;exact ⟨rfl,(j.po [0,1])⟩
   refine go ?_;cases oi h;exact ⟨trivial,rfl,(j.po [0,1])⟩
 rintro e af ⟨hE,C⟩;obtain ⟨e,rfl⟩:=hE.out;have h:=J;refine rQ C 1 fun ah m=>?_;refine go ?_;cases h;exact And.intro trivial ⟨_,jM.one (hP.b m 1 rfl Av rfl rfl),rfl,m.pk []⟩
instance k_274:Ct prog 274:=⟨by kernel_rfl,@B4⟩
theorem Cb {w0 N m z r} (h:kP N m z=some r) {b f d} (g:f=m.length) (i:rb w0 b d m) :
    gZ prog 165 #[vS b f d,vI z] w0 (fun v w=>v=.bool r∧St w0 [] w []):=by
 subst g;unfold kP at h;refine gZ.fn func165 fun e=>?_;have n:=St.start w0;refine go ?_;obtain ⟨k,l,j⟩:=ob h;refine CW.mono (CW.lx [0,1] [] [] 0 (fun q=>[(5,vI q)]) (RT prog f165.results (fun u=>.bool u) w0 []) n l (hb:=?_)) ?_
 · intro q e R o G h;refine gc h ?_ ?_<;>intro _ h
   · refine gb h fun U p h=>?_;obtain ⟨M,O,C,rfl,A,I,J,rfl,B⟩:=i.idx p;refine go ?_;refine T ?_;refine CW.fl [0,1,5,17] fun e=>?_;refine gc h ?_ ?_<;>intro _ h
     · exact rt
     exact rt
   exact rt
 intro x e L hM;rcases k with k | K
 · obtain ⟨rfl,hM⟩:=hM;obtain ⟨e,rfl,H⟩:=eo hM;rw [show e=ij e [] from rfl];have h:=j;exact rt
 obtain ⟨rfl,u,rfl,hM⟩:=hM;cases j;exact And.intro trivial hM
instance k_165:Ct prog 165:=⟨by kernel_rfl,@Cb⟩
theorem zE {w0 N b d r} (h:nh N b d=some r) :
    gZ prog 273 #[.agg #[vI b.gE,vI b.gV,vI b.hY],vI d] w0 (fun v w=>v=vI r∧St w0 [] w []):=by
 unfold nh at h;refine gZ.fn func273 fun e=>?_;have f:=St.start w0;refine T ?_;intro i j g;refine gc h ?_ ?_<;>intro _ h
 · exact rt
 refine gc h ?_ ?_<;>intro _ h
 · exact rt
 refine gc h ?_ ?_<;>intro _ h
 · exact rt
 exact rt
instance k_273:Ct prog 273:=⟨by kernel_rfl,@zE⟩
theorem AQ {w0 N d b r} (h:oy N d b=some r) :
    gZ prog 271 #[vI d,vI b] w0 (fun v w=>v=.agg #[vI r.gE,vI r.gV,vI r.hY]∧St w0 [] w []):=by
 unfold oy at h;refine gZ.fn func271 fun e=>?_;have f:=St.start w0;refine T ?_;intro m n g;refine gc h ?_ ?_<;>intro _ h
 · refine jj [(0,vI b)] #[vI b,vI 0,vI 0] ?_;refine T ?_;intro o i;exact rt
 refine gc h ?_ ?_<;>intro _ h
 · refine jj [(1,vI b)] #[vI 0,vI b,vI 0] ?_;refine T ?_;intro p j;exact rt
 refine gc h ?_ ?_<;>intro _ h
 · refine jj [(2,vI b)] #[vI 0,vI 0,vI b] ?_;refine T ?_;intro q k;exact rt
 refine jj [] #[vI 0,vI 0,vI 0] ?_;refine T ?_;intro u l;exact rt
instance k_271:Ct prog 271:=⟨by kernel_rfl,@AQ⟩
theorem zy {w0 N b A r} (h:kB N b A=some r) {d l i} (o:l=b.g5.length) (u:rb w0 d i b.g5) {f m j} (p:m=b.HI.length) (x:rb w0 f j b.HI) {g n k} (q:n=b.HE.length) (z:rb w0 g k b.HE) :
    gZ prog 125 #[.agg #[vI b.HR,vI b.HA,vI b.box,vI b.HP,vI b.iK,vI b.gE,vI b.HK,vI b.iF,vI b.iE,.bool b.HM,vS d l i,vS f m j,vS g n k],vI A] w0 (fun v w=>v=.bool r∧St w0 [] w []):=by
 subst o p q;unfold kB at h;refine gZ.fn func125 fun e=>?_;have B:=St.start w0;refine T ?_;intro G H C;refine gB h ?_ ?_<;>intro _ h
 · exact rt
 exact rt
instance k_125:Ct prog 125:=⟨by kernel_rfl,@zy⟩
theorem zG {w0 N z R U r} (h:pb N z R U=some r) {b f d} (g:f=z.length) (i:rb w0 b d z) :
    gZ prog 284 #[vS b f d,vI R,vI U] w0 (fun v w=>v=vI r∧St w0 [] w []):=by
 subst g;unfold pb at h;refine gZ.fn func284 fun e=>?_;have G:=St.start w0;refine go ?_;obtain ⟨l,q,k⟩:=ob h;refine CW.mono (CW.lx [0,1,2] [] [7,8] 0 (fun j=>[(7,vI j.1),(8,vI j.2.1),(9,vI j.2.2)]) (RT prog f284.results (fun u=>vI u) w0 []) G q (hb:=?_)) ?_
 · intro j e ak o H h;refine gc h ?_ ?_<;>intro _ h
   · refine gb h fun am K h=>?_;obtain ⟨ai,aj,X,rfl,V,aa,ab,rfl,W⟩:=i.idx K;refine go ?_;refine T ?_;refine CW.fl [0,1,2,7,8,9,20] fun e=>?_;refine gc h ?_ ?_<;>intro _ h
     · exact rt
     refine go ?_;refine T ?_;refine gc h ?_ ?_<;>intro _ h
     · exact rt
     refine gs ?_;obtain ⟨L,m,A⟩:=ob h;refine CW.jn [0,1,2,7,8,9] [] [(37,.bool L)] H (h1:=?_) (h2:=?_)
     · have h:=m;refine gB h ?_ ?_<;>intro _ h
       · exact rt
       refine go ?_;refine T ?_;exact rt
     intro e ad I;have h:=A;refine gs ?_;obtain ⟨M,n,B⟩:=ob h;refine CW.jn [0,1,2,8,9] [] [(7,vI M)] I (h1:=?_) (h2:=?_)
     · have h:=n;refine gc h ?_ ?_<;>intro _ h
       · refine go ?_;refine T ?_;exact rt
       exact rt
     intro e ae J;have h:=B;refine gs ?_;obtain ⟨O,p,C⟩:=ob h;refine CW.jn [0,1,2,7,8,9] [] [(59,.bool O)] J (h1:=?_) (h2:=?_)
     · have h:=p;refine go ?_;refine T ?_;refine bH h ?_ ?_<;>intro _ h
       · refine gB h ?_ ?_<;>intro _ h
         · exact rt
         refine go ?_;refine T ?_;exact rt
       exact rt
     intro e af Y;have h:=C;refine gc h ?_ ?_<;>intro _ h
     · refine go ?_;refine T ?_;exact rt
     exact rt
   exact rt
 intro x e ah hM;rcases l with l | ac
 · obtain ⟨rfl,hM⟩:=hM;obtain ⟨e,rfl,Z⟩:=eo hM;have h:=k;refine gc h ?_ ?_<;>intro _ h
   · exact rt
   exact rt
 obtain ⟨rfl,u,rfl,hM⟩:=hM;cases k;exact And.intro trivial hM
instance k_284:Ct prog 284:=⟨by kernel_rfl,@zG⟩
theorem Ax {w0 N b d f r} (h:ou N b d f=some r) :
    gZ prog 91 #[vI b,vI d,vI f] w0 (fun v w=>v=.bool r∧St w0 [] w []):=by
 unfold ou at h;refine gZ.fn func91 fun e=>?_;have g:=St.start w0;refine gB h ?_ ?_<;>intro _ h
 · exact rt
 exact rt
instance k_91:Ct prog 91:=⟨by kernel_rfl,@Ax⟩
theorem xz {w0 N m z r} (h:m6 N m z=some r) {b f d} (g:f=m.length) (i:rb w0 b d m) :
    gZ prog 248 #[vS b f d,vI z] w0 (fun v w=>v=vI r∧St w0 [] w []):=by
 subst g;unfold m6 at h;refine gZ.fn func248 fun e=>?_;have n:=St.start w0;refine go ?_;obtain ⟨k,l,j⟩:=ob h;refine CW.mono (CW.lx [0,1,7] [] [] 0 (fun q=>[(8,vI q)]) (RT prog f248.results (fun u=>vI u) w0 []) n l (hb:=?_)) ?_
 · intro q e R o G h;refine gc h ?_ ?_<;>intro _ h
   · refine gb h fun U p h=>?_;obtain ⟨M,O,C,rfl,A,I,J,rfl,B⟩:=i.idx p;refine go ?_;refine T ?_;refine CW.fl [0,1,5,7,8,16] fun e=>?_;refine gc h ?_ ?_<;>intro _ h
     · exact rt
     exact rt
   exact rt
 intro x e L hM;rcases k with k | K
 · obtain ⟨rfl,hM⟩:=hM;obtain ⟨e,rfl,H⟩:=eo hM;rw [show e=ij e [] from rfl];have h:=j;exact rt
 obtain ⟨rfl,u,rfl,hM⟩:=hM;cases j;exact And.intro trivial hM
instance k_248:Ct prog 248:=⟨by kernel_rfl,@xz⟩
theorem Bu {w0 N p q r} (h:qC N p q=some r) {g m k} (u:m=p.Hz.length) (z:rb w0 g k p.Hz) {j n f} (x:n=q.Hz.length) (A:rb w0 j f q.Hz) :
    gZ prog 305 #[.agg #[vS g m k],.agg #[vS j n f]] w0 (fun v w=>∃ B C,v=vS B r.length C∧St w0 [] w [sl B C r]):=by
 subst u x;unfold qC at h;refine gZ.fn func305 fun e=>?_;have aq:=St.start w0;refine T ?_;intro aE aF ar H aG V;refine LW.b0 (α:=Int) V ?_;intro Z aa aH W hf;refine go ?_;obtain ⟨ax,I,U⟩:=ob h;refine CW.ie I 0 (fun l e wb=>∃ (b:Ad) (d:Nat),En e [(3,.pointer (some ⟨H,0,none⟩)),(5,vS b l.1.length d),(10,vS g p.Hz.length k),(11,vI (p.Hz.length:Int)),(12,vI l.2)]∧St w0 [] wb [sl b d l.1,bx H 39 [vS j q.Hz.length f]]) ?_ ⟨Z,aa,W.po [0,1]⟩ ?_
 · intro l e aI o hM h;obtain ⟨b,d,hE,X⟩:=hM;obtain ⟨e,rfl⟩:=hE.out;refine gc h ?_ ?_<;>intro _ h
   · refine gb h fun aB J h=>?_;obtain ⟨ao,aw,ab,rfl,ad,ai,ak,rfl,af⟩:=z.idx J;refine go ?_;refine T ?_;have ⟨aC,K,h⟩:=ob h;obtain ⟨R,Y,ac,rfl,ae,aj,am,rfl,ah⟩:=A.idx K;refine go ?_;refine T ?_;refine CW.fl [3,5,6,10,11,12,23] fun e=>?_;refine gc h ?_ ?_<;>intro _ h
     · refine gb h fun aD O h=>?_;refine LW.kr (M:=[]) (L:=[sl b d l.1,bx H 39 [vS (some ⟨R,Y,none⟩) q.Hz.length f]]) (vs:=#[vI l.2]) (i:=0) mX rfl (by kernel_rfl) rfl rfl O X rfl (fun w G hG=>by cases (show G=[] from hG);exact ⟨rfl,rfl⟩) rfl rfl ?_;intro ay an ap az au hf;exact rt
     exact rt
   exact rt
 rintro e aA ⟨b,d,hE,av⟩;obtain ⟨e,rfl⟩:=hE.out;have h:=U;exact rt
instance k_305:Ct prog 305:=⟨by kernel_rfl,@Bu⟩
theorem tJ {w0 N r} (h:pU N=some r) :
    gZ prog 295 #[] w0 (fun v w=>∃ l m,v=vS l r.length m∧St w0 [] w [sl l m r]):=by
 unfold pU at h;refine gZ.fn func295 fun e=>?_;have x:=St.start w0;refine gb h fun u I h=>?_;refine LW.mk Fy rfl rfl I x rfl ?_;intro V g W A hf;refine go ?_;refine LW.bi [-1, -1] A ?_;intro f j X n hf;refine LW.bd [(1,vI 1),(2,vI (-1)),(4,vI 1000000),(10,vS f (([-1, -1]:List Int).length) j)] #[vI 0,vI 1,vI (-1),vI 0,vI 1000000,vI 0,vI 0,vI 0,vI 0,.bool false,vS f (([-1, -1]:List Int).length) j,vS none 0 0,vS none 0 0] ?_;have ⟨O,q,h⟩:=ob h;obtain ⟨d,b,hae,R,K⟩:=n.im (α:=cd) (i:=1) rfl q;subst hae;refine go ?_;have B:=n.nil (α:=Int);have C:=B.nil (α:=jg);have H:=C.pk (M:=[sl f j ([-1, -1]:List Int),sl none 0 [],sl none 0 []]++[sl (some ⟨d,b,none⟩) g u]) [2,1,0,3];have ⟨J,k,h⟩:=ob h;refine LW.vR (M:=[sl f j ([-1, -1]:List Int),sl none 0 [],sl none 0 []]) (L:=[sl (some ⟨d,b,none⟩) g u]) (z:=O) (z':=(cd.mk 0 1 (-1) 0 1000000 0 0 0 0 false ([-1, -1]:List Int) [] [])) (o:=0) H (i:=0) rfl q vt rfl (by show _=b+(0:Int).toNat * 13+0;omega) rfl rfl rfl rfl (whole (fun w G hG=>⟨f,j,none,0,none,0,rfl,hG⟩)) ?_;intro U p hf;rw [oi k] at p;refine go ?_;replace h:=oi h;subst h;exact Ra ⟨(some ⟨d,b,none⟩),g,(show (vS (some ⟨d,b,none⟩) u.length g:Value)=vS (some ⟨d,b,none⟩) J.length g by rw [ik (oi k)]),p.pk [0]⟩
instance k_295:Ct prog 295:=⟨by kernel_rfl,@tJ⟩
theorem xo {w0 N r} (h:rP N=some r) :
    gZ prog 296 #[] w0 (fun v w=>∃ b d,v=.agg #[vI r.HD,vI r.HL,vI r.HF,vS b r.gQ.length d]∧St w0 [] w [sl b d r.gQ]):=by
 unfold rP at h;refine gZ.fn func296 fun e=>?_;have j:=St.start w0;refine T ?_;intro m n i;refine LW.bi [0] i ?_;intro f g o k hf;refine LW.bd [(3,vS f (([0]:List Int).length) g)] #[vI 0,vI 0,vI 0,vS f (([0]:List Int).length) g] ?_;refine T ?_;intro p l;exact rt
instance k_296:Ct prog 296:=⟨by kernel_rfl,@xo⟩
theorem zL {w0 N i r} (h:ud N i=some r) {b f d} (g:f=i.length) (j:rb w0 b d i) :
    gZ prog 11 #[vS b f d] w0 (fun v w=>v=.bool r∧St w0 [] w []):=by
 subst g;unfold ud at h;refine gZ.fn func11 fun e=>?_;have k:=St.start w0;exact rt
instance k_11:Ct prog 11:=⟨by kernel_rfl,@zL⟩
theorem wX {w0 N f r} (h:pI N f=some r) {b g d} (j:g=f.length) (k:rb w0 b d f) :
    gZ prog 67 #[vS b g d] w0 (fun v w=>∃ l,v=.pointer (some ⟨l,0,none⟩)∧St w0 [] w [bx l 177 [vS b f.length d,vI r.i,vI r.h]]):=by
 subst j;unfold pI at h;refine gZ.fn func67 fun e=>?_;have z:=St.start w0;refine go ?_;obtain ⟨m,n,q⟩:=ob h;refine CW.mono (CW.lb [0] [] [0,3] 0 (fun p=>[(3,vI p.1),(4,vI p.2)]) z n (hb:=?_)) ?_
 · intro p e aa o A h;refine gs ?_;obtain ⟨L,B,H⟩:=ob h;refine CW.jn [0,3,4] [] [(15,.bool L)] A (h1:=?_) (h2:=?_)
   · have h:=B;refine gB h ?_ ?_<;>intro _ h
     · exact rt
     exact rt
   intro e ab R;have h:=H;refine gc h ?_ ?_<;>intro _ h
   · refine gb h fun ac C h=>?_;obtain ⟨M,X,G,rfl,I,W,K,rfl,J⟩:=k.idx C;refine go ?_;refine T ?_;refine LW.u (iI.conv underlying5 underlying3 rfl) rfl ?_;exact rt
   exact rt
 intro x e Y hM;obtain ⟨rfl,hM⟩:=hM;obtain ⟨e,rfl,U⟩:=eo hM;have h:=q;refine jj [(0,vS b f.length d),(2,vI m.1)] #[vS b f.length d,vI 0,vI m.1] ?_;refine T ?_;intro O Z V;exact rt
instance k_67:Ct prog 67:=⟨by kernel_rfl,@wX⟩
theorem A0 {w0} {F:List Nat} {N g r} (h:lD N g=some r) {l:Nat} {d f} (j:iy (ja w0 F) w0 d f g.b) (hS:St w0 F w0 [bx l 177 [vS d g.b.length f,vI g.i,vI g.h]]) :
    gZ prog 148 #[.pointer (some ⟨l,0,none⟩)] w0 (fun v w=>v=vI r.1∧St w0 F w [bx l 177 [vS d g.b.length f,vI r.2.i,vI r.2.h]]):=by
 unfold lD at h;refine gZ.fn func148 fun e=>?_;refine go ?_;refine LW.u (iI.nc rfl) rfl ?_;refine go ?_;refine LW.u (iI.nc rfl) rfl ?_;refine T ?_;intro J m;refine dW ?_;have n:=m.drew;refine go ?_;refine AW.u (i:=4) rfl (by kernel_rfl) rfl rfl (iI.shr rfl rfl (by decide)) ?_;refine go ?_;refine AW.u (i:=9) rfl (by kernel_rfl) rfl rfl (iI.shr rfl rfl (by decide)) ?_;refine kG ?_;have k:=n.drew;refine gc h ?_ ?_<;>intro _ h
 · refine kG ?_;have A:=k.drew;refine gb h fun K p h=>?_;obtain ⟨H,I,z,rfl,q,B,C,rfl,x⟩:=j.idx p;refine go ?_;refine T ?_;refine AW.u (i:=11) rfl (by kernel_rfl) rfl rfl (iI.conv underlying5 underlying3 rfl) ?_;refine go ?_;refine LW.u (iI.nc rfl) rfl ?_;refine go ?_;refine LW.u (iI.nc rfl) rfl ?_;refine T ?_;intro G o;replace h:=oi h;subst h;exact Ra ⟨rfl,o.pk [0]⟩
 refine go ?_;replace h:=oi h;subst h;exact Ra ⟨rfl,k.pk [0]⟩
instance k_148:Ct prog 148:=⟨by kernel_rfl,@A0⟩
theorem rY {w0 N l r} (h:n4 N l=some r) {b f d} (g:f=l.length) (i:rb w0 b d l) :
    gZ prog 44 #[vS b f d] w0 (fun v w=>v=vI r∧St w0 [] w []):=by
 subst g;unfold n4 at h;refine gZ.fn func44 fun e=>?_;have n:=St.start w0;refine go ?_;obtain ⟨H,j,m⟩:=ob h;refine CW.mono (CW.lb [0] [] [3] 0 (fun k=>[(3,vI k.1),(4,vI k.2)]) n j (hb:=?_)) ?_
 · intro k e L o A h;refine gc h ?_ ?_<;>intro _ h
   · refine gb h fun M p h=>?_;obtain ⟨J,K,z,rfl,q,C,G,rfl,u⟩:=i.idx p;refine go ?_;refine T ?_;refine CW.fl [0,3,4,16] fun e=>?_;refine gc h ?_ ?_<;>intro _ h
     · exact rt
     exact rt
   exact rt
 intro x e I hM;obtain ⟨rfl,hM⟩:=hM;obtain ⟨e,rfl,B⟩:=eo hM;have h:=m;exact rt
instance k_44:Ct prog 44:=⟨by kernel_rfl,@rY⟩
theorem xr {w0 N l r} (h:rS N l=some r) {b f d} (g:f=l.length) (i:rb w0 b d l) :
    gZ prog 45 #[vS b f d] w0 (fun v w=>v=vI r∧St w0 [] w []):=by
 subst g;unfold rS at h;refine gZ.fn func45 fun e=>?_;have n:=St.start w0;refine go ?_;obtain ⟨K,j,m⟩:=ob h;refine CW.mono (CW.lb [6,7] [] [3] 0 (fun k=>[(3,vI k.1),(8,vI k.2)]) n j (hb:=?_)) ?_
 · intro k e V o B h;refine gc h ?_ ?_<;>intro _ h
   · refine gb h fun W p h=>?_;obtain ⟨R,U,z,rfl,q,I,J,rfl,u⟩:=i.idx p;refine go ?_;refine T ?_;intro A L C M G;refine CW.fl [3,6,7,8,14] fun e=>?_;refine gc h ?_ ?_<;>intro _ h
     · exact rt
     exact rt
   exact rt
 intro x e O hM;obtain ⟨rfl,hM⟩:=hM;obtain ⟨e,rfl,H⟩:=eo hM;have h:=m;exact rt
instance k_45:Ct prog 45:=⟨by kernel_rfl,@xr⟩
end Go.Kx
