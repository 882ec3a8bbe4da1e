/- Each call returns what the plain function says. Printed by drive.py. -/
import Derived.Test.YtikeaiogpfjdnaaGreatFa
import Derived.Test.YtikeaiogpfjdnaaGreatPu
import Derived.Test.YtikeaiogpfjdnaaGreatWa4
import Derived.Test.YtikeaiogpfjdnaaGreatWa5
import Derived.Test.YtikeaiogpfjdnaaGreatWa12
import Derived.Test.YtikeaiogpfjdnaaGreatWa15
import Derived.Test.YtikeaiogpfjdnaaGreatWa17
import Derived.Test.YtikeaiogpfjdnaaGreatWa18
import Derived.Test.YtikeaiogpfjdnaaGreatWa21
import Derived.Test.YtikeaiogpfjdnaaGreatWa25
import Derived.Test.YtikeaiogpfjdnaaGreatWa26
import Derived.Test.YtikeaiogpfjdnaaGreatWa43
namespace Go.Kx
open Go Go.RowKit Go.Proofs
set_option maxRecDepth 10000
set_option maxHeartbeats 8000000
set_option linter.unusedVariables false
set_option linter.unusedSimpArgs false
theorem E5 {w0 N M O r} (h:tW N M O=some r) {d p g} (s:p=M.levels.length) (b:rb w0 d g M.levels) {f q j} (t:q=O.levels.length) (c:rb w0 f j O.levels) :
    il Tryz.prog 50 #[.agg #[vS d p g],.agg #[vS f q j]] w0 (fun v w=>v=.bool r∧St w0 [] w []):=by
 subst s t;unfold tW at h;refine il.fn Tryz.func50 fun e=>?_;have R:=St.start w0;refine go ?_;refine LW.bo R fun ax az U=>?_;refine LW.bo U fun ay aA k=>?_;refine gs ?_;obtain ⟨ah,X,ab⟩:=ob h;refine CW.jn [2,3] [0,1] [(13,.bool ah)] k (h1:=?_) (h2:=?_)
 · have h:=X;refine gb h fun aC Y h=>?_;refine LW.c0 (od Y rfl (k.rB b)) k fun aB l=>?_;refine gB h ?_ ?_ <;> intro _ h
   · refine go ?_;cases oi h;exact l.po [0,1]
   refine gb h fun au J h=>?_;refine go ?_;refine LW.c0 (od J rfl (l.rB c)) l fun ao V=>?_;refine go ?_;cases oi h;exact V.po [0,1]
 intro e ap z;have h:=ab;refine gc h ?_ ?_ <;> intro _ h
 · refine go ?_;cases h;exact fi z
 refine go ?_;obtain ⟨B,I,y⟩:=ob h;refine CW.mono (CW.lx [2,3] [0,1] [] 0 (fun C=>[(5,vI C)]) (RT Tryz.prog Tryz.f50.results (fun u=>.bool u) w0 []) z I (hb:=?_)) ?_
 · intro C e aq o A h;refine gc h ?_ ?_ <;> intro _ h
   · refine go ?_;refine CW.draw (by kernel_rfl) ?_;have a:=A.drew;refine gb h fun av K h=>?_;obtain ⟨ai,ak,Z,rfl,m,ac,ae,rfl,G⟩:=b.idx K;refine go ?_;refine AW.take (i:=4) rfl (by kernel_rfl) rfl rfl (iF.iM w0 jg rfl (G 0 _ rfl)) (a.same _ m.1 m.2) ?_;refine gb h fun aw L h=>?_;obtain ⟨aj,am,aa,rfl,n,ad,af,rfl,H⟩:=c.idx L;refine go ?_;refine AW.take (i:=9) rfl (by kernel_rfl) rfl rfl (iF.iM w0 jg rfl (H 0 _ rfl)) (a.same _ n.1 n.2) ?_;refine gc h ?_ ?_ <;> intro _ h
     · refine go ?_;cases oi h;exact ⟨trivial,rfl,_,rfl,rx ⟨rfl,a.pk []⟩⟩
     refine go ?_;cases oi h;exact ⟨rfl,(a.po [0,1])⟩
   refine go ?_;cases oi h;exact ⟨trivial,rfl,⟨trivial,A.pk [0,1]⟩⟩
 intro x e ar hM;rcases B with B | an
 · obtain ⟨rfl,hM⟩:=hM;obtain ⟨e,rfl,W⟩:=eo hM;rw [show e=iT e [] from rfl];have h:=y;refine go ?_;cases h;exact fi W
 obtain ⟨rfl,u,rfl,hM⟩:=hM;cases y;exact And.intro trivial hM
theorem zU {w0 N y z A r} (h:sg N y z A=some r) {f m j} (p:m=y.length) (t:rb w0 f j y) {g n k} (q:n=z.levels.length) (c:rb w0 g k z.levels) {i o l} (s:o=A.levels.length) (d:rb w0 i l A.levels) :
    il Tryz.prog 125 #[vS f m j,.agg #[vS g n k],.agg #[vS i o l]] w0 (fun v w=>∃ u x,v=vS u r.length x∧St w0 [] w [sl u x r]):=by
 subst p q s;unfold sg at h;refine il.fn Tryz.func125 fun e=>?_;have C:=St.start w0;refine go ?_;refine LW.bo C fun O U G=>?_;refine LW.bo G fun R V a=>?_;refine gb h fun X J h=>?_;refine LW.c0 (w9 J rfl (a.rB t) rfl (a.rB c) rfl (a.rB d)) a fun W b=>?_;refine gc h ?_ ?_ <;> intro _ h
 · refine go ?_;cases h;have H:=b.nil (α:=Int);exact Ra ⟨none,0,rfl,H.pk [0]⟩
 refine gb h fun Y K h=>?_;refine LW.cl (Ao K rfl (b.rB c) rfl (b.rB d)) ?_;rintro _ M ⟨L,B,rfl,hs⟩;have I:=b.add hs;refine go ?_;cases h;exact Ra ⟨L,B,rfl,I.pk [0]⟩
theorem z9 {w0 N ad A B r} (h:sh N ad A B=some r) {q x s} (C:x=ad.length) (J:rb w0 q s ad) {g y d} (H:y=A.levels.length) (n:rb w0 g d A.levels) {j z f} (I:z=B.levels.length) (p:rb w0 j f B.levels) :
    il Tryz.prog 126 #[vS q x s,.agg #[vS g y d],.agg #[vS j z f]] w0 (fun v w=>∃ K O,v=vS K r.length O∧St w0 [] w [sl K O r]):=by
 subst C H I;unfold sh at h;refine il.fn Tryz.func126 fun e=>?_;have an:=St.start w0;refine go ?_;refine LW.bo an fun V aL ao=>?_;refine LW.bo ao fun W aM ap=>?_;refine go ?_;refine LW.jK (α:=Int) (vs:=[]) (cs:=#[]) (l:=([]:List Int)) rfl (by kernel_rfl) rfl rfl rfl (fun w=>rfl) ap rfl ?_;intro af ak aN k hf;refine gb h fun aP au h=>?_;refine LW.c0 (qu au rfl (k.rB J) rfl (k.rB n) rfl (k.rB p)) k fun aO R=>?_;refine gc h ?_ ?_ <;> intro _ h
 · refine go ?_;cases h;exact Ra ⟨af,ak,rfl,R.pk [0]⟩
 refine go ?_;obtain ⟨aD,Z,am⟩:=ob h;refine CW.ie Z 0 (fun c e wb=>∃ (a:Ad) (b:Nat),En e [(4,.pointer (some ⟨V,0,none⟩)),(5,.pointer (some ⟨W,0,none⟩)),(7,vS a c.1.length b),(8,vI c.2)]∧St w0 [] wb [sl a b c.1,bx W 26 [vS j B.levels.length f],bx V 26 [vS g A.levels.length d]]) ?_ ⟨af,ak,R.po [0,1,2]⟩ ?_
 · intro c e aF o hM h;obtain ⟨a,b,hE,U⟩:=hM;obtain ⟨e,rfl⟩:=hE.out;refine go ?_;refine CW.fl [4,5,7,8,17] fun e=>?_;refine gc h ?_ ?_ <;> intro _ h
   · refine go ?_;refine CW.draw (by kernel_rfl) ?_;have m:=U.drew;refine gb h fun aI aa h=>?_;obtain ⟨ah,av,ax,rfl,t,az,aB,rfl,X⟩:=n.idx aa;refine go ?_;refine AW.take (i:=4) rfl (by kernel_rfl) rfl rfl (iF.iM w0 jg rfl (X 0 _ rfl)) (m.same _ t.1 t.2) ?_;refine gb h fun aJ ab h=>?_;obtain ⟨ai,aw,ay,rfl,u,aA,aC,rfl,Y⟩:=p.idx ab;refine go ?_;refine AW.take (i:=9) rfl (by kernel_rfl) rfl rfl (iF.iM w0 jg rfl (Y 0 _ rfl)) (m.same _ u.1 u.2) ?_;refine gc h ?_ ?_ <;> intro _ h
     · refine gb h fun aK ac h=>?_;refine LW.kS (M:=[]) (L:=[sl a b c.1,bx W 26 [vS (some ⟨ai,aw,none⟩) B.levels.length f],bx V 26 [vS (some ⟨ah,av,none⟩) A.levels.length d]]) (vs:=#[vI c.2]) (i:=0) lU rfl (by kernel_rfl) rfl rfl ac m rfl (fun w G hG=>by cases (show G=[] from hG);exact ⟨rfl,rfl⟩) rfl rfl ?_;intro aE ae aj aG aq hf;refine go ?_;cases oi h;exact ⟨rfl,⟨ae,aj,aq.po [0,1,2]⟩⟩
     refine go ?_;cases oi h;exact ⟨rfl,⟨a,b,m.po [0,1,2]⟩⟩
   refine go ?_;cases oi h;exact ⟨trivial,rfl,⟨a,b,U.po [0,1,2]⟩⟩
 rintro e aH ⟨a,b,hE,ar⟩;obtain ⟨e,rfl⟩:=hE.out;have h:=am;refine go ?_;cases h;exact Ra ⟨a,b,rfl,ar.pk [0]⟩
theorem yI {w0 N ae aW L r} (h:qN N ae aW L=some r) {R ac U} (ad:ac=ae.parts.length) (q:rb w0 R U ae.parts) :
    il Tryz.prog 46 #[.agg #[vI ae.now,vS R ac U],vI aW,.agg #[vI L.kind,vI L.a,vI L.b,vI L.c,vI L.d,vI L.e]] w0 (fun v w=>∃ aj ao,v=vS aj r.length ao∧St w0 [] w [sl aj ao r]):=by
 subst ad;unfold qN at h;refine il.fn Tryz.func46 fun e=>?_;have aP:=St.start w0;refine go ?_;refine LW.bo aP fun bZ b0 aQ=>?_;refine LW.bo aQ fun aJ b1 V=>?_;refine gs ?_;obtain ⟨bd,aU,aZ⟩:=ob h;refine CW.jn [1,3,5] [0,1] [(19,.bool bd)] V (h1:=?_) (h2:=?_)
 · have h:=aU;refine gb h fun b3 aV h=>?_;refine LW.c0 (xC aV rfl (V.rB q)) V fun b2 W=>?_;refine gB h ?_ ?_ <;> intro _ h
   · refine go ?_;cases oi h;exact W.po [0,1]
   refine gb h fun bT az h=>?_;refine go ?_;refine LW.c0 (vt az rfl (W.rB q)) W fun bE aR=>?_;refine go ?_;cases oi h;exact aR.po [0,1]
 intro e bF X;have h:=aZ;refine gc h ?_ ?_ <;> intro _ h
 · refine go ?_;cases h;have aS:=X.nil (α:=Int);exact Ra ⟨none,0,rfl,aS.pk [0]⟩
 refine gb h fun bU aA h=>?_;refine LW.c0 (wx aA rfl (X.rB q)) X fun bG ap=>?_;refine gc h ?_ ?_ <;> intro _ h
 · refine go ?_;cases h;have aT:=ap.nil (α:=Int);exact Ra ⟨none,0,rfl,aT.pk [0]⟩
 refine gs ?_;obtain ⟨x,ax,aO⟩:=ob h;refine CW.cut (fun e wb=>∃ (H:Nat) (t:Nat) (y:Ad) (B:Nat) (I:rb w0 y B x.1) (z:Ad) (C:Nat) (J:rb w0 z C x.2.1) (A:Ad) (G:Nat) (K:rb w0 A G x.2.2),En e [(5,.pointer (some ⟨aJ,0,none⟩)),(8,vS y x.1.length B),(9,.pointer (some ⟨H,0,none⟩)),(10,.pointer (some ⟨t,0,none⟩))]∧St w0 [] wb [bx aJ 59 (qL L),bx H 26 [vS z x.2.1.length C],bx t 26 [vS A x.2.2.length G]]) ?_ ?_
 · have h:=ax;refine CW.draw (by kernel_rfl) ?_;have s:=ap.drew;refine gb h fun bV aB h=>?_;obtain ⟨bp,bC,aX,rfl,f,a0,a2,⟨af,ak,ah,am,be,br,bf,bs,bg,bt,bi,bu,rfl,Z,aa,a4,a5,a6,a7⟩,Y⟩:=q.idx aB;refine go ?_;refine AW.take (i:=5) rfl (by kernel_rfl) rfl rfl (iF.iM w0 lS rfl (Y 1 _ rfl)) (s.same _ f.1 f.2) ?_;refine go ?_;refine AW.take (i:=11) rfl (by kernel_rfl) rfl rfl (iF.jF w0 n8 rfl rfl (fun j u hu=>ko (m:=1) Y 0 hu)) (s.same _ f.1 f.2) ?_;refine gb h fun bW aC h=>?_;obtain ⟨bq,bD,aY,hae,g,a1,a3,aw,ay⟩:=q.idx aC;cases hae;obtain ⟨ai,an,bj,bv,bk,bw,bl,bz,bm,bA,bn,bB,rfl,ab,a8,a9,ba,bb,bc⟩:=aw;refine go ?_;refine AW.take (i:=17) rfl (by kernel_rfl) rfl rfl (iF.jF w0 n8 rfl rfl (fun j u hu=>ko (m:=1) ay 0 hu)) (s.same _ g.1 g.2) ?_;refine AW.all (rs:=[18,19]) (by kernel_rfl) (by simp) ⟨?_,?_,trivial⟩
   · refine ⟨_,rfl,?_⟩;refine LW.al s fun aK bI l=>?_;refine jN (.c (l.same _ g.1 g.2) (.c (l.ce 2) (.c (l.same _ f.1 f.2) (.c (l.ce 2) (.c (l.same _ f.1 f.2) (.c (l.ce 2) jZ)))))) ?_;refine jO 19 ?_;refine LW.al l fun aL bJ n=>?_;refine jN (.c (n.same _ g.1 g.2) (.c (n.ce 3) (.c (n.same _ f.1 f.2) (.c (n.ce 3) (.c (n.same _ f.1 f.2) (.c (n.ce 3) jZ)))))) ?_;refine go ?_;refine jO 21 ?_;refine LW.st n 1 fun bK M=>?_;refine jN (.c (M.same _ g.1 g.2) (.c (M.ce 3) (jW (jW (jW (jW jZ)))))) ?_;refine jO 22 ?_;refine LW.st M 0 fun bL aq=>?_;refine jn ?_;refine go ?_;cases oi h;exact ⟨aK,aL,ah,am,aa,af,ak,Z,ai,an,ab,aq.po [2,1,0]⟩
   refine ⟨_,rfl,?_⟩;refine LW.al s fun aM bM o=>?_;refine jN (.c (o.same _ g.1 g.2) (.c (o.ce 2) (.c (o.same _ f.1 f.2) (.c (o.ce 2) (.c (o.same _ f.1 f.2) (.c (o.ce 2) jZ)))))) ?_;refine jO 18 ?_;refine LW.al o fun aN bN p=>?_;refine jN (.c (p.same _ g.1 g.2) (.c (p.ce 3) (.c (p.same _ f.1 f.2) (.c (p.ce 3) (.c (p.same _ f.1 f.2) (.c (p.ce 3) jZ)))))) ?_;refine go ?_;refine jO 21 ?_;refine LW.st p 0 fun bO O=>?_;refine jN (.c (O.same _ g.1 g.2) (.c (O.ce 3) (jW (jW (jW (jW jZ)))))) ?_;refine jO 22 ?_;refine LW.st O 1 fun bP ar=>?_;refine jn ?_;refine go ?_;cases oi h;exact ⟨aN,aM,ah,am,aa,af,ak,Z,ai,an,ab,ar.po [2,0,1]⟩
 rintro e bQ ⟨H,t,y,B,I,z,C,J,A,G,K,hE,k⟩;obtain ⟨e,rfl⟩:=hE.out;have h:=aO;refine go ?_;refine CW.fl [8,9,10,46] fun e=>?_;refine gc h ?_ ?_ <;> intro _ h
 · refine gb h fun bX aD h=>?_;refine LW.cl (zU aD rfl (k.rB I) rfl (k.rB K) rfl (k.rB J)) ?_;rintro _ bR ⟨aF,aH,rfl,hs⟩;have au:=k.add hs;refine go ?_;cases h;exact Ra ⟨aF,aH,rfl,au.pk [0]⟩
 refine gb h fun bY aE h=>?_;refine LW.cl (zU aE rfl (k.rB I) rfl (k.rB J) rfl (k.rB K)) ?_;rintro _ bS ⟨aG,aI,rfl,hs⟩;have av:=k.add hs;refine go ?_;cases h;exact Ra ⟨aG,aI,rfl,av.pk [0]⟩
theorem DO {w0 N O aD p r} (h:sX N O aD p=some r) {s G t} (J:G=O.parts.length) (f:rb w0 s t O.parts) :
    il Tryz.prog 47 #[.agg #[vI O.now,vS s G t],vI aD,.agg #[vI p.kind,vI p.a,vI p.b,vI p.c,vI p.d,vI p.e]] w0 (fun v w=>∃ R U,v=vS R r.length U∧St w0 [] w [sl R U r]):=by
 subst J;unfold sX at h;refine il.fn Tryz.func47 fun e=>?_;have ax:=St.start w0;refine go ?_;refine LW.bo ax fun ct cv ay=>?_;refine LW.bo ay fun cu cw x=>?_;refine gs ?_;obtain ⟨bt,aB,ba⟩:=ob h;refine CW.jn [1,3,5] [0,1] [(26,.bool bt)] x (h1:=?_) (h2:=?_)
 · have h:=aB;refine gb h fun cy aC h=>?_;refine LW.c0 (vp aC rfl (x.rB f)) x fun cx V=>?_;refine gB h ?_ ?_ <;> intro _ h
   · refine go ?_;cases oi h;exact V.po [0,1]
   refine gb h fun ck aj h=>?_;refine go ?_;refine LW.c0 (jb aj) V fun cc y=>?_;refine gB h ?_ ?_ <;> intro _ h
   · refine go ?_;cases oi h;exact y.po [0,1]
   refine gb h fun cm ak h=>?_;refine go ?_;refine LW.c0 (ua ak rfl (y.rB f)) y fun ce az=>?_;refine go ?_;cases oi h;exact az.po [0,1]
 intro e cf z;have h:=ba;refine gc h ?_ ?_ <;> intro _ h
 · refine go ?_;refine LW.jK (α:=Int) (vs:=[]) (cs:=#[]) (l:=([]:List Int)) rfl (by kernel_rfl) rfl rfl rfl (fun w=>rfl) z rfl ?_;intro ar av cg aA hf;refine go ?_;cases h;exact Ra ⟨ar,av,rfl,aA.pk [0]⟩
 refine gb h fun cn am h=>?_;refine LW.c0 (ua am rfl (z.rB f)) z fun ci W=>?_;refine gc h ?_ ?_ <;> intro _ h
 · refine go ?_;refine CW.draw (by kernel_rfl) ?_;have g:=W.drew;refine gb h fun co an h=>?_;obtain ⟨bR,b9,a7,rfl,n,bb,be,⟨bA,bU,bB,bV,bC,bW,bD,bX,bE,bY,bF,bZ,rfl,ad,ae,bi,bj,bk,bl⟩,B⟩:=f.idx an;refine go ?_;refine AW.take (i:=5) rfl (by kernel_rfl) rfl rfl (iF.iM w0 lS rfl (B 1 _ rfl)) (g.same _ n.1 n.2) ?_;refine gb h fun cp ao h=>?_;obtain ⟨bS,ca,a8,hae,A,bc,bf,ab,ac⟩:=f.idx ao;cases hae;obtain ⟨bG,b0,bI,b1,bJ,b2,bK,b3,bL,b4,bM,b5,rfl,af,bm,bn,bp,bq,br⟩:=ab;refine go ?_;refine AW.take (i:=11) rfl (by kernel_rfl) rfl rfl (iF.jF w0 n8 rfl rfl (fun j u hu=>ko (m:=1) ac 0 hu)) (g.same _ A.1 A.2) ?_;refine go ?_;refine AW.take (i:=17) rfl (by kernel_rfl) rfl rfl (iF.jF w0 n8 rfl rfl (fun j u hu=>ko (m:=1) B 0 hu)) (g.same _ n.1 n.2) ?_;have ⟨cq,ap,h⟩:=ob h;refine jO 18 ?_;refine LW.cl (z9 ap rfl (g.rB ae) rfl (g.rB af) rfl (g.rB ad)) ?_;rintro _ cj ⟨au,aw,rfl,hs⟩;have Z:=g.add hs;refine jn ?_;refine go ?_;cases h;exact Ra ⟨au,aw,rfl,Z.pk [0]⟩
 refine go ?_;refine CW.draw (by kernel_rfl) ?_;have k:=W.drew;refine gb h fun cr aq h=>?_;obtain ⟨bT,cb,a9,rfl,o,bd,bg,⟨bN,b6,bO,b7,bP,b8,bQ,aY,aP,aZ,aQ,a0,rfl,ah,ai,bs,aH,aI,aJ⟩,C⟩:=f.idx aq;refine go ?_;refine AW.take (i:=5) rfl (by kernel_rfl) rfl rfl (iF.iM w0 lS rfl (C 1 _ rfl)) (k.same _ o.1 o.2) ?_;refine go ?_;refine AW.take (i:=11) rfl (by kernel_rfl) rfl rfl (iF.jF w0 n8 rfl rfl (fun j u hu=>ko (m:=1) C 0 hu)) (k.same _ o.1 o.2) ?_;refine gb h fun bw L h=>?_;obtain ⟨aX,bu,aE,hae,q,aF,aG,H,I⟩:=f.idx L;cases hae;obtain ⟨aR,a1,aS,a2,aT,a3,aU,a4,aV,a5,aW,a6,rfl,K,aK,aL,aM,aN,aO⟩:=H;refine go ?_;refine AW.take (i:=17) rfl (by kernel_rfl) rfl rfl (iF.jF w0 n8 rfl rfl (fun j u hu=>ko (m:=1) I 0 hu)) (k.same _ q.1 q.2) ?_;have ⟨bz,M,h⟩:=ob h;refine jO 18 ?_;refine LW.cl (z9 M rfl (k.rB ai) rfl (k.rB ah) rfl (k.rB K)) ?_;rintro _ bv ⟨X,Y,rfl,hs⟩;have aa:=k.add hs;refine jn ?_;refine go ?_;cases h;exact Ra ⟨X,Y,rfl,aa.pk [0]⟩
theorem CF {w0 N a4 r} (h:ri N a4=some r) {O am U} (av:am=a4.length) (J:rb w0 O U a4) :
    il Tryz.prog 8 #[vS O am U] w0 (fun v w=>v=.bool r∧St w0 [] w []):=by
 subst av;unfold ri at h;refine il.fn Tryz.func8 fun e=>?_;have aD:=St.start w0;refine gb h fun dc bj h=>?_;refine LW.c0 (Hi bj rfl (aD.rB J)) aD fun c9 ab=>?_;refine gc h ?_ ?_ <;> intro _ h
 · refine go ?_;cases h;exact fi ab
 refine gb h fun az bk h=>?_;refine LW.cl (xA bk rfl (ab.rB J)) ?_;rintro _ da ⟨c8,bS,rfl,hs⟩;have bc:=ab.add hs;refine go ?_;refine LW.al bc fun a7 db bd=>?_;refine LW.al bd fun aC cH be=>?_;refine LW.st be 1 fun cI bf=>?_;refine go ?_;refine LW.st bf 0 fun cJ aE=>?_;refine gb h fun bq aY h=>?_;refine LW.cl (AJ aY rfl (aE.rI 2 rfl)) ?_;rintro _ cK ⟨ci,ct,rfl,hs⟩;have bg:=aE.add hs;refine go ?_;refine LW.al bg fun cC cL bi=>?_;refine LW.al bi fun cD cM aG=>?_;refine LW.st aG 1 fun cN aH=>?_;refine LW.st aH 0 fun cO Y=>?_;refine gb h fun br aZ h=>?_;refine LW.cl (AE aZ rfl (Y.rI 5 rfl)) ?_;rintro _ cP ⟨cj,cu,rfl,hs⟩;have aI:=Y.add hs;refine go ?_;refine LW.al aI fun cE cQ aJ=>?_;refine LW.al aJ fun cF cR aK=>?_;refine LW.st aK 1 fun cS aL=>?_;refine LW.st aL 0 fun cT Z=>?_;refine gs ?_;obtain ⟨bl,aT,a8⟩:=ob h;refine CW.jn [3,4,6,8] [3,6,7,8] [(54,.bool bl)] Z (h1:=?_) (h2:=?_)
 · have h:=aT;refine CW.draw (by kernel_rfl) ?_;have G:=Z.drew;refine go ?_;refine AW.u (i:=2) rfl (by kernel_rfl) rfl rfl (iA.Gz I7 rfl rfl (fun w=>Jb bq.2 br.2 w)) ?_;refine gB h ?_ ?_ <;> intro ah h
   · refine go ?_;cases oi h;exact G.po [3,6,7,8]
   refine gb h fun c2 a0 h=>?_;refine jO 7 ?_;refine (LW.gY (jY rfl rfl ah) ?_);refine LW.cl (yI a0 rfl (G.rI 8 rfl)) ?_;rintro _ cU ⟨ck,cv,rfl,hs⟩;have aa:=G.add hs;refine jn ?_;refine gb h fun c3 a1 h=>?_;refine jO 12 ?_;refine (LW.gY (jY rfl rfl ah) ?_);refine LW.cl (DO a1 rfl (aa.rI 9 rfl)) ?_;rintro _ cV ⟨cm,cw,rfl,hs⟩;have aM:=aa.add hs;refine jn ?_;refine go ?_;cases oi h;exact aM.po [5,8,9,10]
 intro e cW f;have h:=a8;refine go ?_;refine CW.fl [3,4,6,8,54] fun e=>?_;refine gc h ?_ ?_ <;> intro _ h
 · refine go ?_;cases h;exact fi f
 refine gs ?_;obtain ⟨bm,aU,a9⟩:=ob h;refine CW.jn [3,4,6] [1,2,3] [(77,.bool bm)] f (h1:=?_) (h2:=?_)
 · have h:=aU;refine gB h ?_ ?_ <;> intro _ h
   · refine go ?_;cases oi h;exact f.po [1,2,3]
   refine gb h fun c4 a2 h=>?_;refine go ?_;refine LW.c0 (vp a2 rfl (f.rI 3 rfl)) f fun cX y=>?_;refine gB h ?_ ?_ <;> intro _ h
   · refine go ?_;cases oi h;exact y.po [1,2,3]
   refine gB h ?_ ?_ <;> intro _ h
   · refine gB h ?_ ?_ <;> intro _ h
     · refine go ?_;cases oi h;exact y.po [1,2,3]
     refine go ?_;cases oi h;exact y.po [1,2,3]
   refine go ?_;cases oi h;exact y.po [1,2,3]
 intro e cY ac;have h:=a9;refine gc h ?_ ?_ <;> intro _ h
 · refine go ?_;cases h;exact fi ac
 refine gb h fun c5 a3 h=>?_;refine LW.c0 (qU a3) ac fun cZ H=>?_;refine gs ?_;refine CW.region ?_;refine gs ?_;obtain ⟨bn,aV,ba⟩:=ob h;refine CW.jn [3,4,6] [0,1,2] [(11,vI bn)] H (h1:=?_) (h2:=?_)
 · have h:=aV;refine gc h ?_ ?_ <;> intro _ h
   · refine go ?_;cases oi h;exact H.po [0,1,2]
   refine go ?_;cases oi h;exact H.po [0,1,2]
 intro e c1 g;have h:=ba;refine gs ?_;obtain ⟨bo,aW,bb⟩:=ob h;refine CW.jn [3,4,6,11] [0,1,2] [(105,.bool bo)] g (h1:=?_) (h2:=?_)
 · have h:=aW;refine gB h ?_ ?_ <;> intro _ h
   · refine go ?_;cases oi h;exact g.po [0,1,2]
   refine gB h ?_ ?_ <;> intro _ h
   · refine go ?_;cases oi h;exact g.po [0,1,2]
   refine gB h ?_ ?_ <;> intro _ h
   · refine go ?_;cases oi h;exact g.po [0,1,2]
   refine go ?_;cases oi h;exact g.po [0,1,2]
 intro e x I;have h:=bb;refine gc h ?_ ?_ <;> intro _ h
 · refine go ?_;cases h;exact fi I
 refine gb h fun c7 ak h=>?_;obtain ⟨a6,bp,hae,bU,bV⟩:=I.iI (α:=hZ) (i:=2) rfl ak;subst hae;refine go ?_;obtain ⟨M,B,ad⟩:=I.freeze (α:=hZ) 2 rfl;obtain ⟨cs,cG,bT,hae,A,_,_,aS,ai⟩:=B.jV.idx ak;cases hae;obtain ⟨aA,aB,cn,cx,co,cy,cp,cz,cq,cA,cr,cB,rfl,aj,aX,bW,bX,bY,bv⟩:=aS;refine LW.l (iF.jF x n8 rfl rfl (fun j u hu=>ko (m:=1) ai 0 hu)) (ad.zC 2 rfl A) rfl ?_;refine LW.al ad fun W b1 aN=>?_;refine LW.st aN 0 fun b2 ae=>?_;refine gb h fun cb L h=>?_;obtain ⟨bK,bZ,hae,bt,bu⟩:=B.iI L;cases hae;refine go ?_;obtain ⟨bL,b0,bs,hae,an,_,_,aq,au⟩:=B.jV.idx L;cases hae;obtain ⟨R,V,bD,bM,bE,bN,bF,bO,bG,bP,bI,bQ,rfl,K,bw,bz,bA,bB,bC⟩:=aq;refine LW.l (iF.jF x n8 rfl rfl (fun j u hu=>ko (m:=1) au 0 hu)) (ae.zC 3 rfl an) rfl ?_;refine LW.al ae fun X b3 aO=>?_;refine LW.st aO 0 fun b4 af=>?_;refine gs ?_;refine CW.region ?_;refine gs ?_;obtain ⟨C,ar,aF⟩:=ob h;refine CW.cut (fun e wb=>∃ (n:Ad) (p:Nat) (s:iR (fun b=>b ∈ M) x n p C.1), ∃ (o:Ad) (q:Nat) (t:iR (fun b=>b ∈ M) x o q C.2),En e [(3,.pointer (some ⟨a7,0,none⟩)),(4,vI az.2.1),(6,.pointer (some ⟨aC,0,none⟩)),(12,.pointer (some ⟨W,0,none⟩)),(13,.pointer (some ⟨X,0,none⟩))]∧St w0 [] wb [bx X 26 [vS o C.2.length q],bx W 26 [vS n C.1.length p],bx aC 59 (qL az.2.2.2),bx a7 77 [vI az.1.now,vS (some ⟨a6,bp,none⟩) az.1.parts.length bS],fz x M]) ?_ ?_
 · have h:=ar;refine gc h ?_ ?_ <;> intro _ h
   · refine go ?_;refine LW.st af 1 fun b5 aP=>?_;refine LW.st aP 0 fun b6 aQ=>?_;refine go ?_;cases oi h;exact ⟨R,V,K,aA,aB,aj,aQ.po [0,1,2,3,4]⟩
   refine go ?_;cases oi h;exact ⟨aA,aB,aj,R,V,K,af.po [0,1,2,3,4]⟩
 rintro e b7 ⟨n,p,s,o,q,t,hE,aR⟩;obtain ⟨e,rfl⟩:=hE.out;have h:=aF;refine go ?_;refine CW.draw (by kernel_rfl) ?_;have k:=aR.drew;refine go ?_;refine AW.take (i:=5) rfl (by kernel_rfl) rfl rfl (iF.iM x lS rfl (ai 1 _ rfl)) (k.zC 4 rfl A) ?_;refine gb h fun cc aw h=>?_;refine jO 8 ?_;refine LW.cl (qu aw rfl (k.rZ 4 rfl aX) rfl (k.rZ 4 rfl s) rfl (k.rZ 4 rfl t)) ?_;rintro _ b8 ⟨rfl,hs⟩;have z:=k.add hs;refine jn ?_;refine gB h ?_ ?_ <;> intro ao h
 · refine gb h fun cf ax h=>?_;refine jO 12 ?_;refine (LW.gY (jY rfl rfl ao) ?_);refine LW.cl (E5 ax rfl (z.rZ 4 rfl s) rfl (z.rZ 4 rfl t)) ?_;rintro _ b9 ⟨rfl,hs⟩;have a:=z.add hs;refine jN (jW (jW (.c (a.ce 0) (.c (a.ce 1) (.c (a.zC 4 rfl A) (.c (a.ce 3) jZ)))))) ?_;refine gB h ?_ ?_ <;> intro ap h
   · refine go ?_;cases h;exact fi a
   refine gb h fun cg ay h=>?_;refine jO 17 ?_;refine (LW.gY (jY rfl rfl ap) ?_);refine LW.cl (yI ay rfl (a.rZ 4 rfl B.jV)) ?_;rintro _ ca ⟨bJ,bR,rfl,hs⟩;have d:=a.add hs;refine jN (jW (jW (.c (d.ce 1) (.c (d.ce 2) (.c (d.ce 1) (.c (d.ce 2) (.c (d.zC 5 rfl A) (.c (d.ce 4) jZ)))))))) ?_;refine go ?_;cases h;exact fi d
 refine go ?_;cases h;exact fi z
end Go.Kx
