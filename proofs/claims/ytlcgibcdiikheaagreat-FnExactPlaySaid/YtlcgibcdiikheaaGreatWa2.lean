import Derived.Test.YtlcgibcdiikheaaGreatFa
import Derived.Test.YtlcgibcdiikheaaGreatPu
namespace Go.Kx
open Go Go.RowKit Go.Proofs
open Tryz
set_option maxRecDepth 10000
set_option maxHeartbeats 8000000
set_option linter.unusedVariables false
set_option linter.unusedSimpArgs false
theorem zo {w0 N n z r} (h:rC N n z=some r) {b f d} (g:f=n.length) (i:rb w0 b d n) :
    gV prog 196 #[vS b f d,vI z] w0 (fun v w=>v=vI r∧St w0 [] w []):=by
 subst g;unfold rC at h;refine gV.fn func196 fun e=>?_;have p:=St.start w0;refine go ?_;obtain ⟨k,l,j⟩:=ob h;refine CW.mono (CW.lx [0] [] [1] 0 (fun m=>[(1,vI m.1),(5,vI m.2)]) (RT prog f196.results (fun u=>vI u) w0 []) p l (hb:=?_)) ?_
 · intro m e R o G h;refine gc h ?_ ?_<;>intro _ h
   · refine gb h fun U q h=>?_;obtain ⟨M,O,C,rfl,A,I,J,rfl,B⟩:=i.idx q;refine go ?_;refine T ?_;refine CW.fl [0,1,5,18] fun e=>?_;refine gc h ?_ ?_<;>intro _ h
     · exact rt
     refine go ?_;refine T ?_;refine gc h ?_ ?_<;>intro _ h
     · exact rt
     refine go ?_;refine T ?_;refine CW.fl [0,1,5,36] fun e=>?_;refine gc h ?_ ?_<;>intro _ h
     · exact rt
     refine go ?_;refine T ?_;refine gc h ?_ ?_<;>intro _ h
     · exact rt
     refine go ?_;refine T ?_;refine CW.fl [0,1,5,54] fun e=>?_;refine gc h ?_ ?_<;>intro _ h
     · exact rt
     refine go ?_;refine T ?_;refine gc h ?_ ?_<;>intro _ h
     · exact rt
     exact rt
   exact rt
 intro x e L hM;rcases k with k | K
 · obtain ⟨rfl,hM⟩:=hM;obtain ⟨e,rfl,H⟩:=eo hM;have h:=j;exact rt
 obtain ⟨rfl,u,rfl,hM⟩:=hM;cases j;exact And.intro trivial hM
instance k_196:Ct prog 196:=⟨by kernel_rfl,@zo⟩
theorem zn {w0 N i j r} (h:tX N i j=some r) {b f d} (g:f=i.length) (k:rb w0 b d i) :
    gV prog 28 #[vS b f d,vI j] w0 (fun v w=>v=vI r∧St w0 [] w []):=by
 subst g;unfold tX at h;refine gV.fn func28 fun e=>?_;have l:=St.start w0;refine gc h ?_ ?_<;>intro _ h
 · exact rt
 exact rt
instance k_28:Ct prog 28:=⟨by kernel_rfl,@zn⟩
theorem yX {w0 N r} (h:tZ N=some r) :
    gV prog 295 #[] w0 (fun v w=>∃ l m,v=vS l r.length m∧St w0 [] w [sl l m r]):=by
 unfold tZ at h;refine gV.fn func295 fun e=>?_;have x:=St.start w0;refine gb h fun u I h=>?_;refine LW.mk GZ rfl rfl I x rfl ?_;intro V g W A hf;refine go ?_;refine LW.bi [-1, -1] A ?_;intro f j X n hf;refine LW.bd [(1,vI 1),(2,vI (-1)),(4,vI 1000000),(10,vS f (([-1, -1]:List Int).length) j)] #[vI 0,vI 1,vI (-1),vI 0,vI 1000000,vI 0,vI 0,vI 0,vI 0,.bool false,vS f (([-1, -1]:List Int).length) j,vS none 0 0,vS none 0 0] ?_;have ⟨O,q,h⟩:=ob h;obtain ⟨d,b,hae,R,K⟩:=n.hZ (α:=gP) (i:=1) rfl q;subst hae;refine go ?_;have B:=n.nil (α:=Int);have C:=B.nil (α:=iM);have H:=C.pk (M:=[sl f j ([-1, -1]:List Int),sl none 0 [],sl none 0 []]++[sl (some ⟨d,b,none⟩) g u]) [2,1,0,3];have ⟨J,k,h⟩:=ob h;refine LW.vl (M:=[sl f j ([-1, -1]:List Int),sl none 0 [],sl none 0 []]) (L:=[sl (some ⟨d,b,none⟩) g u]) (z:=O) (z':=(gP.mk 0 1 (-1) 0 1000000 0 0 0 0 false ([-1, -1]:List Int) [] [])) (o:=0) H (i:=0) rfl q uK rfl (by show _=b+(0:Int).toNat * 13+0;omega) rfl rfl rfl rfl (whole (fun w G hG=>⟨f,j,none,0,none,0,rfl,hG⟩)) ?_;intro U p hf;rw [oi k] at p;refine go ?_;replace h:=oi h;subst h;exact Ra ⟨(some ⟨d,b,none⟩),g,(show (vS (some ⟨d,b,none⟩) u.length g:Value)=vS (some ⟨d,b,none⟩) J.length g by rw [gS (oi k)]),p.pk [0]⟩
instance k_295:Ct prog 295:=⟨by kernel_rfl,@yX⟩
theorem CG {w0 N r} (h:w9 N=some r) :
    gV prog 296 #[] w0 (fun v w=>∃ b d,v=.agg #[vI r.Ph,vI r.Pr,vI r.Pj,vS b r.gQ.length d]∧St w0 [] w [sl b d r.gQ]):=by
 unfold w9 at h;refine gV.fn func296 fun e=>?_;have j:=St.start w0;refine T ?_;intro m n i;refine LW.bi [0] i ?_;intro f g o k hf;refine LW.bd [(3,vS f (([0]:List Int).length) g)] #[vI 0,vI 0,vI 0,vS f (([0]:List Int).length) g] ?_;refine T ?_;intro p l;exact rt
instance k_296:Ct prog 296:=⟨by kernel_rfl,@CG⟩
theorem yN {w0 N r} (h:tY N=some r) :
    gV prog 299 #[] w0 (fun v w=>∃ l m,v=vS l r.length m∧St w0 [] w [sl l m r]):=by
 unfold tY at h;refine gV.fn func299 fun e=>?_;have x:=St.start w0;refine gb h fun u I h=>?_;refine LW.mk GZ rfl rfl I x rfl ?_;intro V g W A hf;refine go ?_;refine LW.bi [-1, -1] A ?_;intro f j X n hf;refine LW.bd [(1,vI 1),(2,vI (-1)),(4,vI 1000000),(10,vS f (([-1, -1]:List Int).length) j)] #[vI 0,vI 1,vI (-1),vI 0,vI 1000000,vI 0,vI 0,vI 0,vI 0,.bool false,vS f (([-1, -1]:List Int).length) j,vS none 0 0,vS none 0 0] ?_;have ⟨O,q,h⟩:=ob h;obtain ⟨d,b,hae,R,K⟩:=n.hZ (α:=gP) (i:=1) rfl q;subst hae;refine go ?_;have B:=n.nil (α:=Int);have C:=B.nil (α:=iM);have H:=C.pk (M:=[sl f j ([-1, -1]:List Int),sl none 0 [],sl none 0 []]++[sl (some ⟨d,b,none⟩) g u]) [2,1,0,3];have ⟨J,k,h⟩:=ob h;refine LW.vl (M:=[sl f j ([-1, -1]:List Int),sl none 0 [],sl none 0 []]) (L:=[sl (some ⟨d,b,none⟩) g u]) (z:=O) (z':=(gP.mk 0 1 (-1) 0 1000000 0 0 0 0 false ([-1, -1]:List Int) [] [])) (o:=0) H (i:=0) rfl q uK rfl (by show _=b+(0:Int).toNat * 13+0;omega) rfl rfl rfl rfl (whole (fun w G hG=>⟨f,j,none,0,none,0,rfl,hG⟩)) ?_;intro U p hf;rw [oi k] at p;refine go ?_;replace h:=oi h;subst h;exact Ra ⟨(some ⟨d,b,none⟩),g,(show (vS (some ⟨d,b,none⟩) u.length g:Value)=vS (some ⟨d,b,none⟩) J.length g by rw [gS (oi k)]),p.pk [0]⟩
instance k_299:Ct prog 299:=⟨by kernel_rfl,@yN⟩
theorem Cn {w0 N r} (h:wV N=some r) :
    gV prog 301 #[] w0 (fun v w=>∃ b d,v=.agg #[vI r.Ph,vI r.Pr,vI r.Pj,vS b r.gQ.length d]∧St w0 [] w [sl b d r.gQ]):=by
 unfold wV at h;refine gV.fn func301 fun e=>?_;have j:=St.start w0;refine T ?_;intro m n i;refine LW.bi [0] i ?_;intro f g o k hf;refine LW.bd [(3,vS f (([0]:List Int).length) g)] #[vI 0,vI 0,vI 0,vS f (([0]:List Int).length) g] ?_;refine T ?_;intro p l;exact rt
instance k_301:Ct prog 301:=⟨by kernel_rfl,@Cn⟩
theorem Hp {w0 N f g r} (h:um N f g=some r) :
    gV prog 210 #[.agg #[vI f.Pf,vI f.a,vI f.b,vI f.c,vI f.d,vI f.e],.agg #[vI g.Pf,vI g.a,vI g.b,vI g.c,vI g.d,vI g.e]] w0 (fun v w=>v=.bool r∧St w0 [] w []):=by
 unfold um at h;refine gV.fn func210 fun e=>?_;have i:=St.start w0;refine T ?_;intro l n j m o k;refine gc h ?_ ?_<;>intro _ h
 · exact rt
 refine jw [2,3,14] fun e=>?_;refine gc h ?_ ?_<;>intro _ h
 · exact rt
 refine gc h ?_ ?_<;>intro _ h
 · exact rt
 refine gc h ?_ ?_<;>intro _ h
 · exact rt
 refine jw [2,3,29] fun e=>?_;refine gc h ?_ ?_<;>intro _ h
 · exact rt
 refine gc h ?_ ?_<;>intro _ h
 · exact rt
 exact rt
instance k_210:Ct prog 210:=⟨by kernel_rfl,@Hp⟩
theorem xv {w0} {F:List Nat} {N az aD r} (h:pc N az aD=some r) {m K g} (L:K=az.length) (hS:St w0 F w0 [sl m g az]) :
    gV prog 37 #[vS m K g,vI aD] w0 (fun v w=>v=vI r.1∧St w0 F w [sl m g r.2]):=by
 subst L;unfold pc at h;refine gV.fn func37 fun e=>?_;refine go ?_;obtain ⟨a3,ae,aB⟩:=ob h;refine CW.ie ae 0 (fun k e wb=>En e [(0,vS m k.1.length g),(1,vI k.2.1),(5,vI k.2.2)]∧St w0 F wb [sl m g k.1]) ?_ ⟨⟨rfl,rfl,rfl,trivial⟩,hS.pk [0]⟩ ?_
 · intro k e bn o hM h;obtain ⟨e,rfl,M⟩:=eo hM;refine gc h ?_ ?_<;>intro _ h
   · refine gb h fun bo aa h=>?_;obtain ⟨aA,aC,hae,aT,aU⟩:=M.hZ (α:=iK) (i:=0) rfl aa;subst hae;refine go ?_;refine gb h fun bp f h=>?_;refine LW.se 0 M 0 aa f (hM:=(iU (fun w cs F hF=>by obtain ⟨rfl,rfl⟩:=hF;exact ⟨rfl,rfl⟩))) fun a4 O=>?_;refine gb h fun be x h=>?_;obtain ⟨aL,aV,hae,af,ap⟩:=O.hZ (α:=iK) (i:=0) rfl x;cases hae;(try refine LW.u (il.ix underlying76 yh rfl rfl af (by rw [gS (oi f)];exact ap)) rfl ?_);refine gb h fun aE b h=>?_;refine LW.se 1 O 0 x b (hM:=(iU (fun w cs F hF=>by obtain ⟨rfl,rfl⟩:=hF;exact ⟨rfl,rfl⟩))) fun a5 R=>?_;refine go ?_;have ⟨bf,z,h⟩:=ob h;obtain ⟨aM,aW,hae,ah,aq⟩:=R.hZ (α:=iK) (i:=0) rfl z;cases hae;(try refine LW.u (il.ix underlying76 yh rfl rfl ah (by rw [show k.1.length=aE.length from ((gS (oi f)).trans (gS (oi b)))];exact aq)) rfl ?_);refine gb h fun aF d h=>?_;refine LW.se 2 R 0 z d (hM:=(iU (fun w cs F hF=>by obtain ⟨rfl,rfl⟩:=hF;exact ⟨rfl,rfl⟩))) fun a6 U=>?_;refine gb h fun bg A h=>?_;obtain ⟨aN,aX,hae,ai,ar⟩:=U.hZ (α:=iK) (i:=0) rfl A;cases hae;(try refine LW.u (il.ix underlying76 yh rfl rfl ai (by rw [show k.1.length=aF.length from (((gS (oi f)).trans (gS (oi b))).trans (gS (oi d)))];exact ar)) rfl ?_);refine gb h fun aG j h=>?_;refine LW.se 3 U 0 A j (hM:=(iU (fun w cs F hF=>by obtain ⟨rfl,rfl⟩:=hF;exact ⟨rfl,rfl⟩))) fun a7 V=>?_;refine gb h fun bi B h=>?_;obtain ⟨aO,aY,hae,aj,au⟩:=V.hZ (α:=iK) (i:=0) rfl B;cases hae;(try refine LW.u (il.ix underlying76 yh rfl rfl aj (by rw [show k.1.length=aG.length from ((((gS (oi f)).trans (gS (oi b))).trans (gS (oi d))).trans (gS (oi j)))];exact au)) rfl ?_);refine go ?_;have ⟨aH,l,h⟩:=ob h;refine LW.se 4 V 0 B l (hM:=(iU (fun w cs F hF=>by obtain ⟨rfl,rfl⟩:=hF;exact ⟨rfl,rfl⟩))) fun a8 W=>?_;refine gb h fun bj C h=>?_;obtain ⟨aP,aZ,hae,ak,av⟩:=W.hZ (α:=iK) (i:=0) rfl C;cases hae;(try refine LW.u (il.ix underlying76 yh rfl rfl ak (by rw [show k.1.length=aH.length from (((((gS (oi f)).trans (gS (oi b))).trans (gS (oi d))).trans (gS (oi j))).trans (gS (oi l)))];exact av)) rfl ?_)
     refine gb h fun aI n h=>?_;refine LW.se 5 W 0 C n (hM:=(iU (fun w cs F hF=>by obtain ⟨rfl,rfl⟩:=hF;exact ⟨rfl,rfl⟩))) fun a9 X=>?_;refine gb h fun bk G h=>?_;obtain ⟨aQ,a0,hae,am,aw⟩:=X.hZ (α:=iK) (i:=0) rfl G;cases hae;(try refine LW.u (il.ix underlying76 yh rfl rfl am (by rw [show k.1.length=aI.length from ((((((gS (oi f)).trans (gS (oi b))).trans (gS (oi d))).trans (gS (oi j))).trans (gS (oi l))).trans (gS (oi n)))];exact aw)) rfl ?_);refine gb h fun aJ p h=>?_;refine LW.se 6 X 0 G p (hM:=(iU (fun w cs F hF=>by obtain ⟨rfl,rfl⟩:=hF;exact ⟨rfl,rfl⟩))) fun ba Y=>?_;refine go ?_;have ⟨bl,H,h⟩:=ob h;obtain ⟨aR,a1,hae,an,ax⟩:=Y.hZ (α:=iK) (i:=0) rfl H;cases hae;(try refine LW.u (il.ix underlying76 yh rfl rfl an (by rw [show k.1.length=aJ.length from (((((((gS (oi f)).trans (gS (oi b))).trans (gS (oi d))).trans (gS (oi j))).trans (gS (oi l))).trans (gS (oi n))).trans (gS (oi p)))];exact ax)) rfl ?_);refine gb h fun aK q h=>?_;refine LW.se 7 Y 0 H q (hM:=(iU (fun w cs F hF=>by obtain ⟨rfl,rfl⟩:=hF;exact ⟨rfl,rfl⟩))) fun bb Z=>?_;refine gb h fun bm I h=>?_;obtain ⟨aS,a2,hae,ao,ay⟩:=Z.hZ (α:=iK) (i:=0) rfl I;cases hae;(try refine LW.u (il.ix underlying76 yh rfl rfl ao (by rw [show k.1.length=aK.length from ((((((((gS (oi f)).trans (gS (oi b))).trans (gS (oi d))).trans (gS (oi j))).trans (gS (oi l))).trans (gS (oi n))).trans (gS (oi p))).trans (gS (oi q)))];exact ay)) rfl ?_);refine gb h fun ab J h=>?_;refine LW.se 8 Z 0 I J (hM:=(iU (fun w cs F hF=>by obtain ⟨rfl,rfl⟩:=hF;exact ⟨rfl,rfl⟩))) fun bc ac=>?_;refine go ?_;replace h:=oi h;subst h;exact ⟨rfl,⟨⟨(show (vS (some ⟨aA,aC,none⟩) k.1.length g:Value)=vS (some ⟨aA,aC,none⟩) ab.length g by rw [show k.1.length=ab.length from (((((((((gS (oi f)).trans (gS (oi b))).trans (gS (oi d))).trans (gS (oi j))).trans (gS (oi l))).trans (gS (oi n))).trans (gS (oi p))).trans (gS (oi q))).trans (gS (oi J)))]),rfl,rfl,trivial⟩,ac.pk [0]⟩⟩
   exact rt
 rintro e bd ⟨hE,ad⟩;obtain ⟨e,rfl⟩:=hE.out;have h:=aB;refine go ?_;replace h:=oi h;subst h;exact Ra ⟨rfl,ad.pk [0]⟩
instance k_37:Ct prog 37:=⟨by kernel_rfl,@xv⟩
theorem xF {w0} {F:List Nat} {N C L r} (h:pf N C L=some r) {d l b} (m:l=C.length) (hS:St w0 F w0 [sl d b C]) :
    gV prog 38 #[vS d l b,vI L] w0 (fun v w=>v=vI r.1∧St w0 F w [sl d b r.2]):=by
 subst m;unfold pf at h;refine gV.fn func38 fun e=>?_;refine go ?_;obtain ⟨V,z,H⟩:=ob h;refine CW.ie z 0 (fun f e wb=>En e [(0,vS d f.1.length b),(1,vI f.2.1),(5,vI f.2.2)]∧St w0 F wb [sl d b f.1]) ?_ ⟨⟨rfl,rfl,rfl,trivial⟩,hS.pk [0]⟩ ?_
 · intro f e aa o hM h;obtain ⟨e,rfl,n⟩:=eo hM;refine gc h ?_ ?_<;>intro _ h
   · refine gb h fun ab q h=>?_;obtain ⟨G,K,hae,O,R⟩:=n.hZ (α:=hX) (i:=0) rfl q;subst hae;refine go ?_;refine gb h fun ac k h=>?_;refine LW.se 0 n 0 q k (hM:=(iU (fun w cs F hF=>by obtain ⟨rfl,rfl⟩:=hF;exact ⟨rfl,rfl⟩))) fun W p=>?_;refine gb h fun Z g h=>?_;obtain ⟨M,U,hae,A,B⟩:=p.hZ (α:=hX) (i:=0) rfl g;cases hae;(try refine LW.u (il.ix underlying71 Nz rfl rfl A (by rw [gS (oi k)];exact B)) rfl ?_);refine gb h fun x j h=>?_;refine LW.se 1 p 0 g j (hM:=(iU (fun w cs F hF=>by obtain ⟨rfl,rfl⟩:=hF;exact ⟨rfl,rfl⟩))) fun X I=>?_;refine go ?_;replace h:=oi h;subst h;exact ⟨rfl,⟨⟨(show (vS (some ⟨G,K,none⟩) f.1.length b:Value)=vS (some ⟨G,K,none⟩) x.length b by rw [show f.1.length=x.length from ((gS (oi k)).trans (gS (oi j)))]),rfl,rfl,trivial⟩,I.pk [0]⟩⟩
   exact rt
 rintro e Y ⟨hE,J⟩;obtain ⟨e,rfl⟩:=hE.out;have h:=H;refine go ?_;replace h:=oi h;subst h;exact Ra ⟨rfl,J.pk [0]⟩
instance k_38:Ct prog 38:=⟨by kernel_rfl,@xF⟩
theorem uA {w0 N n z r} (h:nq N n z=some r) {b f d} (g:f=n.length) (i:rb w0 b d n) :
    gV prog 39 #[vS b f d,vI z] w0 (fun v w=>v=vI r∧St w0 [] w []):=by
 subst g;unfold nq at h;refine gV.fn func39 fun e=>?_;have p:=St.start w0;refine go ?_;obtain ⟨k,l,j⟩:=ob h;refine CW.mono (CW.lx [0] [] [1] 0 (fun m=>[(1,vI m.1),(5,vI m.2)]) (RT prog f39.results (fun u=>vI u) w0 []) p l (hb:=?_)) ?_
 · intro m e R o G h;refine gc h ?_ ?_<;>intro _ h
   · refine gb h fun U q h=>?_;obtain ⟨M,O,C,rfl,A,I,J,rfl,B⟩:=i.idx q;refine go ?_;refine T ?_;refine CW.fl [0,1,5,18] fun e=>?_;refine gc h ?_ ?_<;>intro _ h
     · exact rt
     refine go ?_;refine T ?_;refine gc h ?_ ?_<;>intro _ h
     · exact rt
     exact rt
   exact rt
 intro x e L hM;rcases k with k | K
 · obtain ⟨rfl,hM⟩:=hM;obtain ⟨e,rfl,H⟩:=eo hM;have h:=j;exact rt
 obtain ⟨rfl,u,rfl,hM⟩:=hM;cases j;exact And.intro trivial hM
instance k_39:Ct prog 39:=⟨by kernel_rfl,@uA⟩
end Go.Kx
