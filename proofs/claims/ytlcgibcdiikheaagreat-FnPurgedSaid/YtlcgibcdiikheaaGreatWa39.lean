import Derived.Test.YtlcgibcdiikheaaGreatWa37
namespace Go.Kx
open Go Go.RowKit Go.Proofs
open Tryz
set_option maxRecDepth 10000
set_option maxHeartbeats 8000000
set_option linter.unusedVariables false
set_option linter.unusedSimpArgs false
theorem xm {w0} {F:List Nat} {N k r} (h:nK N k=some r) {z:Nat} {g j} (q:iy (ja w0 F) w0 g j k.b) (hS:St w0 F w0 [bx z 177 [vS g k.b.length j,vI k.i,vI k.h]]) :
    gZ prog 214 #[.pointer (some ⟨z,0,none⟩)] w0 (fun v w=>∃ o p,v=.agg #[vS o r.1.Hz.length p]∧St w0 F w [sl o p r.1.Hz,bx z 177 [vS g k.b.length j,vI r.2.i,vI r.2.h]]):=by
 unfold nK at h;refine gZ.fn func214 fun e=>?_;refine T ?_;intro Y bv aQ aj aX h ak am bw aR Z a1 aS a2 aT X aA h a3 I;obtain ⟨x,ah,an⟩:=ob h;refine CW.cut (fun e wb=>∃ (d:Ad) (f:Nat),En e [(0,.pointer (some ⟨z,0,none⟩)),(2,.pointer (some ⟨Y,0,none⟩)),(3,.pointer (some ⟨Z,0,none⟩))]∧St w0 F wb [bx z 177 [vS g k.b.length j,vI x.2.1,vI x.2.2],bx Z 39 [vS d x.1.length f],sl d f x.1,bx Y 39 [vS none 0 0]]) ?_ ?_
 · have h:=ah;refine gc h ?_ ?_<;>intro _ h
   · refine dW ?_;have aU:=I.drew;refine T ?_;intro bl aB h a4 ao;have ⟨bm,J,h⟩:=ob h;obtain ⟨W,aG,aM,ae,af,aV⟩:=ao.vb (α:=Int) 2 rfl J;refine AW.u (i:=4) rfl (by kernel_rfl) rfl rfl (iI.sub (α:=Int) (l:=aj.1.Hz) underlying37 DF rfl wz (wC rfl) J W ae af) ?_;refine T ?_;intro a5 aW;exact rt
   refine gc h ?_ ?_<;>intro _ h
   · refine dW ?_;have A:=I.drew;refine gb h fun bn K h=>?_;refine AW.all (rs:=[3,5]) (by kernel_rfl) (by simp) ⟨?_,?_,trivial⟩
     · obtain ⟨aE,m⟩:=A.lf [0] [1,2,3];refine oA ?_;refine LW.cl (mr K (m.rB q) m.st) ?_;rintro _ a7 ⟨rfl,hs⟩;have aa:=m.back _ _ hs;refine T ?_;refine LW.bi [-1,4] aa ?_;intro aH aN a8 ap hf;refine T ?_;intro bo aC h a9 B;have ⟨bp,O,h⟩:=ob h;obtain ⟨aK,aY,hae,aw,ay⟩:=B.im (α:=Int) (i:=3) rfl O;subst hae;refine go ?_;have ⟨bq,R,h⟩:=ob h;refine T ?_;refine LW.se 0 B 3 O R (hM:=tG) fun ba ab=>?_;refine T ?_;rw [ik (oi R)] at ab;exact rt
     refine oA ?_;refine LW.bi [-1,4] A ?_;intro aI aO bb ac hf;refine T ?_;obtain ⟨aF,n⟩:=ac.lf [1] [0,2,3,4];refine jP 3 ?_;refine LW.cl (mr K (n.rB q) n.st) ?_;rintro _ bc ⟨rfl,hs⟩;have aq:=n.back _ _ hs;refine T ?_;intro br aD h bd C;have ⟨bs,U,h⟩:=ob h;obtain ⟨aL,aZ,hae,ax,az⟩:=C.im (α:=Int) (i:=3) rfl U;subst hae;refine go ?_;have ⟨bt,V,h⟩:=ob h;refine T ?_;refine LW.se 0 C 3 U V (hM:=tG) fun be ad=>?_;refine T ?_;rw [ik (oi V)] at ad;exact rt
   refine kI [0,2,3,26] fun e=>?_;refine gc h ?_ ?_<;>intro _ h
   · refine gb h fun bu ai h=>?_;refine LW.kr (M:=[]) (L:=[bx z 177 [vS g k.b.length j,vI X.2.i,vI X.2.h],bx Z 39 [vS ak aj.1.Hz.length am],sl ak am aj.1.Hz,bx Y 39 [vS none 0 0]]) (vs:=#[vI 0]) (i:=2) mX rfl (by kernel_rfl) rfl rfl ai I rfl (fun w G hG=>by cases (show G=[] from hG);exact ⟨rfl,rfl⟩) rfl rfl ?_;intro a0 aJ aP bf ar hf;refine T ?_;intro bg au;exact rt
   exact rt
 rintro e bj ⟨d,f,hE,av⟩;obtain ⟨e,rfl⟩:=hE.out;have h:=an;refine T ?_;intro bk H;replace h:=oi h;subst h;exact And.intro trivial ⟨_,jM.one (hP.b H 3 rfl pS rfl rfl),d,f,rfl,H.pk [2,0]⟩
instance k_214:Ct prog 214:=⟨by kernel_rfl,@xm⟩
theorem BS {w0} {F:List Nat} {N g r} (h:og N g=some r) {j:Nat} {d f} (n:iy (ja w0 F) w0 d f g.b) (hS:St w0 F w0 [bx j 177 [vS d g.b.length f,vI g.i,vI g.h]]) :
    gZ prog 319 #[.pointer (some ⟨j,0,none⟩)] w0 (fun v w=>v=vI r.1∧St w0 F w [bx j 177 [vS d g.b.length f,vI r.2.i,vI r.2.h]]):=by
 unfold og at h;refine gZ.fn func319 fun e=>?_;refine T ?_;intro I q h G k;refine gc h ?_ ?_<;>intro _ h
 · refine go ?_;refine LW.bi [-1,1000000,1000001,999999] k ?_;intro B C H p hf;refine T ?_;intro J u h x l;replace h:=oi h;subst h;exact Ra ⟨rfl,l.pk [0]⟩
 refine T ?_;intro A o h z m;replace h:=oi h;subst h;exact Ra ⟨rfl,m.pk [0]⟩
instance k_319:Ct prog 319:=⟨by kernel_rfl,@BS⟩
theorem Bp {w0} {F:List Nat} {N k r} (h:pE N k=some r) {l:Nat} {g j} (Y:iy (ja w0 F) w0 g j k.b) (hS:St w0 F w0 [bx l 177 [vS g k.b.length j,vI k.i,vI k.h]]) :
    gZ prog 240 #[.pointer (some ⟨l,0,none⟩)] w0 (fun v w=>∃ q u,v=vS q r.1.length u∧St w0 F w [sl q u r.1,bx l 177 [vS g k.b.length j,vI r.2.i,vI r.2.h]]):=by
 unfold pE at h;refine gZ.fn func240 fun e=>?_;refine go ?_;refine LW.b0 (α:=Int) hS ?_;intro Z aa ay R hf;refine go ?_;obtain ⟨x,z,O⟩:=ob h;refine CW.ie z 0 (fun m e wb=>∃ (d:Ad) (f:Nat),En e [(0,.pointer (some ⟨l,0,none⟩)),(3,vS d m.1.length f),(4,vI m.2.1)]∧St w0 F wb [sl d f m.1,bx l 177 [vS g k.b.length j,vI m.2.2.1,vI m.2.2.2]]) ?_ ⟨Z,aa,R.po [0,1]⟩ ?_
 · intro m e az o hM h;obtain ⟨d,f,hE,ae⟩:=hM;obtain ⟨e,rfl⟩:=hE.out;refine gc h ?_ ?_<;>intro _ h
   · refine T ?_;intro X ai h an U;refine gc h ?_ ?_<;>intro _ h
     · refine gb h fun av A h=>?_;refine LW.kr (M:=[]) (L:=[bx l 177 [vS g k.b.length j,vI X.2.i,vI X.2.h],sl d f m.1]) (vs:=#[vI m.2.1]) (i:=1) mX rfl (by kernel_rfl) rfl rfl A U rfl (fun w G hG=>by cases (show G=[] from hG);exact ⟨rfl,rfl⟩) rfl rfl ?_;intro aj ac ad ao af hf;exact rt
     exact rt
   exact rt
 rintro e ap ⟨d,f,hE,ah⟩;obtain ⟨e,rfl⟩:=hE.out;have h:=O;refine T ?_;intro n ab h aq p;refine gc h ?_ ?_<;>intro _ h
 · refine gb h fun aw B h=>?_;refine LW.kr (M:=[]) (L:=[bx l 177 [vS g k.b.length j,vI n.2.i,vI n.2.h],sl d f x.1]) (vs:=#[vI 4]) (i:=1) mX rfl (by kernel_rfl) rfl rfl B p rfl (fun w G hG=>by cases (show G=[] from hG);exact ⟨rfl,rfl⟩) rfl rfl ?_;intro ak H J ar V hf;refine go ?_;replace h:=oi h;subst h;exact Ra ⟨H,J,rfl,V.pk [1,0]⟩
 refine gc h ?_ ?_<;>intro _ h
 · refine gb h fun ax C h=>?_;refine LW.kr (M:=[]) (L:=[bx l 177 [vS g k.b.length j,vI n.2.i,vI n.2.h],sl d f x.1]) (vs:=#[vI 0]) (i:=1) mX rfl (by kernel_rfl) rfl rfl C p rfl (fun w G hG=>by cases (show G=[] from hG);exact ⟨rfl,rfl⟩) rfl rfl ?_;intro am I K au W hf;refine go ?_;replace h:=oi h;subst h;exact Ra ⟨I,K,rfl,W.pk [1,0]⟩
 refine go ?_;replace h:=oi h;subst h;exact Ra ⟨d,f,rfl,p.pk [1,0]⟩
instance k_240:Ct prog 240:=⟨by kernel_rfl,@Bp⟩
theorem Cr {w0} {F:List Nat} {N g r} (h:qt N g=some r) {j:Nat} {d f} (n:iy (ja w0 F) w0 d f g.b) (hS:St w0 F w0 [bx j 177 [vS d g.b.length f,vI g.i,vI g.h]]) :
    gZ prog 243 #[.pointer (some ⟨j,0,none⟩)] w0 (fun v w=>v=vI r.1∧St w0 F w [bx j 177 [vS d g.b.length f,vI r.2.i,vI r.2.h]]):=by
 unfold qt at h;refine gZ.fn func243 fun e=>?_;refine T ?_;intro I q h G k;refine gc h ?_ ?_<;>intro _ h
 · refine go ?_;refine LW.bi [-1,29999,30000,9223372036854775807] k ?_;intro B C H p hf;refine T ?_;intro J u h x l;replace h:=oi h;subst h;exact Ra ⟨rfl,l.pk [0]⟩
 refine T ?_;intro A o h z m;replace h:=oi h;subst h;exact Ra ⟨rfl,m.pk [0]⟩
instance k_243:Ct prog 243:=⟨by kernel_rfl,@Cr⟩
theorem Bt {w0 N p q r} (h:qy N p q=some r) {b j f} (l:j=p.Hz.length) (n:rb w0 b f p.Hz) {d k g} (m:k=q.Hz.length) (o:rb w0 d g q.Hz) :
    gZ prog 114 #[.agg #[vS b j f],.agg #[vS d k g]] w0 (fun v w=>v=.bool r∧St w0 [] w []):=by
 subst l m;unfold qy at h;refine gZ.fn func114 fun e=>?_;have u:=St.start w0;refine vk u fun C H x=>?_;refine LW.bo x fun G B i=>?_;refine gb h fun J A h=>?_;refine LW.c0 (tF A rfl (show iy (α:=Int) (ja B []) B none 0 [] from iy.nil _ _ _ _ (Nat.zero_le _)) rfl (i.rB n) rfl (i.rB o)) i fun I z=>?_;refine go ?_;cases h;exact fi z
instance k_114:Ct prog 114:=⟨by kernel_rfl,@Bt⟩
end Go.Kx
