/- Each call returns what the plain function says. Printed by drive.py. -/
import Derived.Test.YtikeaiogpfjdnaaGreatFa
import Derived.Test.YtikeaiogpfjdnaaGreatPu
namespace Go.Kx
open Go Go.RowKit Go.Proofs
set_option maxRecDepth 10000
set_option maxHeartbeats 8000000
set_option linter.unusedVariables false
set_option linter.unusedSimpArgs false
theorem zF {w0 N g i r} (h:u9 N g i=some r) {a c b} (d:c=g.length) (j:rb w0 a b g) :
    pT Tryz.prog 262 #[vS a c b,vI i] w0 (fun v w=>v=vI r∧St w0 [] w []):=by
 subst d;unfold u9 at h;refine pT.fn Tryz.func262 fun e=>?_;have f:=St.start w0;refine gc h ?_ ?_ <;> intro _ h
 · refine go ?_;cases h;exact fi f
 refine go ?_;cases h;exact fi f
theorem JL {w0 N g i r} (h:AK N g i=some r) {a c b} (d:c=g.length) (j:rb w0 a b g) :
    pT Tryz.prog 263 #[vS a c b,vI i] w0 (fun v w=>v=vI r∧St w0 [] w []):=by
 subst d;unfold AK at h;refine pT.fn Tryz.func263 fun e=>?_;have f:=St.start w0;refine gc h ?_ ?_ <;> intro _ h
 · refine go ?_;cases h;exact fi f
 refine go ?_;cases h;exact fi f
theorem JF {w0 N g i r} (h:AJ N g i=some r) {a c b} (d:c=g.length) (j:rb w0 a b g) :
    pT Tryz.prog 322 #[vS a c b,vI i] w0 (fun v w=>v=vI r∧St w0 [] w []):=by
 subst d;unfold AJ at h;refine pT.fn Tryz.func322 fun e=>?_;have f:=St.start w0;refine gc h ?_ ?_ <;> intro _ h
 · refine go ?_;cases h;exact fi f
 refine go ?_;cases h;exact fi f
theorem Jt {w0 N g i r} (h:AO N g i=some r) {a c b} (d:c=g.length) (j:rb w0 a b g) :
    pT Tryz.prog 265 #[vS a c b,vI i] w0 (fun v w=>v=vI r∧St w0 [] w []):=by
 subst d;unfold AO at h;refine pT.fn Tryz.func265 fun e=>?_;have f:=St.start w0;refine gc h ?_ ?_ <;> intro _ h
 · refine go ?_;cases h;exact fi f
 refine go ?_;cases h;exact fi f
theorem zt {w0 N q r} (h:vk N q=some r) {a m b} (n:m=q.length) (p:rb w0 a b q) :
    pT Tryz.prog 267 #[vS a m b] w0 (fun v w=>∃ s u,v=vS s r.length u∧St w0 [] w [sl s u r]):=by
 subst n;unfold vk at h;refine pT.fn Tryz.func267 fun e=>?_;have G:=St.start w0;refine gb h fun ae K h=>?_;refine LW.mk xv rfl rfl K G rfl ?_;intro z f ac H hf;refine go ?_;obtain ⟨Y,B,C⟩:=ob h;refine CW.ie B 0 (fun d e wb=>En e [(0,vS a q.length b),(3,vS z d.1.length f),(4,vI d.2)]∧St w0 [] wb [sl z f d.1]) ?_ (H.po [0]) ?_
 · intro d e ad o hM h;obtain ⟨hE,c⟩:=hM;obtain ⟨e,rfl⟩:=hE.out;refine gc h ?_ ?_ <;> intro _ h
   · refine gb h fun af L h=>?_;obtain ⟨V,X,M,rfl,g,W,R,rfl,A⟩:=p.idx L;refine go ?_;refine LW.l (pZ.qk w0 qA rfl (A 0 _ rfl)) (c.same _ g.1 g.2) rfl ?_;have ⟨ab,j,h⟩:=ob h;obtain ⟨t,x,hae,O,U⟩:=c.qi (α:=Int) (i:=0) rfl j;subst hae;refine go ?_;have ⟨y,k,h⟩:=ob h;refine LW.se 0 c 0 j k (hM:=Am) fun Z I=>?_;refine go ?_;replace h:=oi h;subst h;exact ⟨rfl,⟨⟨rfl,(show (vS (some ⟨t,x,none⟩) d.1.length f:Value)=vS (some ⟨t,x,none⟩) y.length f by rw [show d.1.length=y.length from (pO (oi k))]),rfl,trivial⟩,I.pk [0]⟩⟩
   refine go ?_;cases oi h;exact ⟨trivial,rfl,(c.po [0])⟩
 rintro e aa ⟨hE,J⟩;obtain ⟨e,rfl⟩:=hE.out;have h:=C;refine go ?_;cases h;exact Ra ⟨z,f,rfl,J.pk [0]⟩
theorem E2 {w0 N a r} (h:zd N a=some r) :
    pT Tryz.prog 271 #[.agg #[vI a.bh,vI a.pU,vI a.qc]] w0 (fun v w=>v=.agg #[vI r.bh,vI r.pU,vI r.qc]∧St w0 [] w []):=by
 unfold zd at h;refine pT.fn Tryz.func271 fun e=>?_;have d:=St.start w0;refine go ?_;refine LW.bo d fun n q f=>?_;refine LW.al f fun o s g=>?_;refine go ?_;refine LW.al g fun p t i=>?_;refine go ?_;refine LW.st i 0 fun u j=>?_;refine go ?_;refine LW.st j 0 fun x k=>?_;refine go ?_;refine LW.st k 0 fun y l=>?_;refine go ?_;refine LW.st l 1 fun m c=>?_;refine go ?_;cases h;exact And.intro trivial ⟨_,rG.one (pP.b c 1 rfl r9 rfl rfl),rfl,c.pk []⟩
theorem KA {w0 N c r} (h:yK N c=some r) :
    pT Tryz.prog 328 #[.agg #[vI c.src,vI c.n]] w0 (fun v w=>v=.agg #[vI r.src,vI r.n]∧St w0 [] w []):=by
 unfold yK at h;refine pT.fn Tryz.func328 fun e=>?_;have d:=St.start w0;refine go ?_;refine LW.bo d fun l p f=>?_;refine LW.al f fun m q g=>?_;refine go ?_;refine LW.al g fun o s i=>?_;refine go ?_;refine LW.st i 0 fun t j=>?_;refine go ?_;refine LW.st j 0 fun u k=>?_;refine go ?_;refine LW.st k 1 fun x a=>?_;refine go ?_;cases h;exact And.intro trivial ⟨_,rG.one (pP.b a 1 rfl AH rfl rfl),rfl,a.pk []⟩
theorem KN {w0 N a r} (h:ze N a=some r) :
    pT Tryz.prog 300 #[.agg #[vI a.res,vI a.ss,vI a.ta,vI a.s7,vI a.kind,vI a.tv]] w0 (fun v w=>v=.agg #[vI r.res,vI r.ss,vI r.ta,vI r.s7,vI r.kind,vI r.tv]∧St w0 [] w []):=by
 unfold ze at h;refine pT.fn Tryz.func300 fun e=>?_;have f:=St.start w0;refine go ?_;refine LW.bo f fun u z g=>?_;refine LW.al g fun x A i=>?_;refine go ?_;refine LW.al i fun y B j=>?_;refine go ?_;refine LW.st j 0 fun C k=>?_;refine go ?_;refine LW.st k 0 fun G l=>?_;refine go ?_;refine LW.st l 0 fun H m=>?_;refine go ?_;refine LW.st m 0 fun p n=>?_;refine go ?_;refine LW.st n 0 fun q o=>?_;refine go ?_;refine LW.st o 0 fun s d=>?_;refine go ?_;refine LW.st d 1 fun t c=>?_;refine go ?_;cases h;exact And.intro trivial ⟨_,rG.one (pP.b c 1 rfl Db rfl rfl),rfl,c.pk []⟩
theorem rq {w0 N f r} (h:wh N f=some r) :
    pT Tryz.prog 54 #[.agg #[vI f.kind,vI f.a,vI f.b,vI f.c,vI f.d,vI f.e]] w0 (fun v w=>v=.agg #[vI r.kind,vI r.a,vI r.b,vI r.c,vI r.d,vI r.e]∧St w0 [] w []):=by
 unfold wh at h;refine pT.fn Tryz.func54 fun e=>?_;have j:=St.start w0;refine go ?_;refine LW.bo j fun z C k=>?_;refine LW.al k fun A G l=>?_;refine go ?_;refine LW.al l fun B H m=>?_;refine go ?_;refine LW.st m 0 fun I n=>?_;refine go ?_;refine LW.st n 0 fun J o=>?_;refine go ?_;refine LW.st o 0 fun K p=>?_;refine go ?_;refine LW.st p 0 fun t q=>?_;refine go ?_;refine LW.st q 0 fun u s=>?_;refine go ?_;refine LW.st s 0 fun x i=>?_;refine go ?_;refine LW.st i 1 fun y g=>?_;refine go ?_;cases h;exact And.intro trivial ⟨_,rG.one (pP.b g 1 rfl NR rfl rfl),rfl,g.pk []⟩
theorem zB {w0 N H I r} (h:ur N H I=some r) {b k d} (m:k=H.length) (p:rb w0 b d H) {c l f} (n:l=I.length) (q:rb w0 c f I) :
    pT Tryz.prog 273 #[vS b k d,vS c l f] w0 (fun v w=>v=.bool r∧St w0 [] w []):=by
 subst m n;unfold ur at h;refine pT.fn Tryz.func273 fun e=>?_;have t:=St.start w0;refine gc h ?_ ?_ <;> intro _ h
 · refine go ?_;cases h;exact fi t
 refine go ?_;obtain ⟨z,C,s⟩:=ob h;refine CW.mono (CW.lx [0,1] [] [] 0 (fun L=>[(5,vI L)]) (RT Tryz.prog Tryz.f273.results (fun u=>.bool u) w0 []) t C (hb:=?_)) ?_
 · intro L e ae o y h;refine gc h ?_ ?_ <;> intro _ h
   · refine go ?_;refine CW.draw (by kernel_rfl) ?_;have a:=y.drew;refine gb h fun af K h=>?_;obtain ⟨ac,ad,M,rfl,g,W,X,rfl,A⟩:=p.idx K;refine go ?_;refine AW.take (i:=3) rfl (by kernel_rfl) rfl rfl (pZ.qk w0 qA rfl (A 0 _ rfl)) (a.same _ g.1 g.2) ?_;refine gb h fun ab G h=>?_;obtain ⟨V,Y,O,rfl,j,R,U,rfl,B⟩:=q.idx G;refine go ?_;refine AW.take (i:=7) rfl (by kernel_rfl) rfl rfl (pZ.qk w0 qA rfl (B 0 _ rfl)) (a.same _ j.1 j.2) ?_;refine gc h ?_ ?_ <;> intro _ h
     · refine go ?_;cases oi h;exact ⟨trivial,rfl,_,rfl,rx ⟨rfl,a.pk []⟩⟩
     refine go ?_;cases oi h;exact ⟨rfl,(a.po [])⟩
   refine go ?_;cases oi h;exact ⟨trivial,rfl,⟨trivial,y.pk []⟩⟩
 intro x e aa hM;rcases z with z | Z
 · obtain ⟨rfl,hM⟩:=hM;obtain ⟨hE,J⟩:=hM;obtain ⟨e,rfl⟩:=hE.out;rw [show e=qv e [] from rfl];have h:=s;refine go ?_;cases h;exact fi J
 obtain ⟨rfl,u,rfl,hM⟩:=hM;cases s;exact And.intro trivial hM
theorem Fe {w0 N b c r} (h:yU N b c=some r) :
    pT Tryz.prog 277 #[.agg #[vI b.bh,vI b.pU,vI b.qc],.agg #[vI c.bh,vI c.pU,vI c.qc]] w0 (fun v w=>v=.bool r∧St w0 [] w []):=by
 unfold yU at h;refine pT.fn Tryz.func277 fun e=>?_;have d:=St.start w0;refine go ?_;refine LW.bo d fun g j f=>?_;refine LW.bo f fun i k a=>?_;refine gc h ?_ ?_ <;> intro _ h
 · refine go ?_;cases h;exact fi a
 refine go ?_;refine CW.fl [2,3,14] fun e=>?_;refine gc h ?_ ?_ <;> intro _ h
 · refine go ?_;cases h;exact fi a
 refine gc h ?_ ?_ <;> intro _ h
 · refine go ?_;cases h;exact fi a
 refine go ?_;cases h;exact fi a
theorem Ko {w0 N b c r} (h:yQ N b c=some r) :
    pT Tryz.prog 329 #[.agg #[vI b.src,vI b.n],.agg #[vI c.src,vI c.n]] w0 (fun v w=>v=.bool r∧St w0 [] w []):=by
 unfold yQ at h;refine pT.fn Tryz.func329 fun e=>?_;have d:=St.start w0;refine go ?_;refine LW.bo d fun g j f=>?_;refine LW.bo f fun i k a=>?_;refine gc h ?_ ?_ <;> intro _ h
 · refine go ?_;cases h;exact fi a
 refine go ?_;refine CW.fl [14] fun e=>?_;refine gc h ?_ ?_ <;> intro _ h
 · refine go ?_;cases h;exact fi a
 refine go ?_;cases h;exact fi a
theorem JN {w0 N b c r} (h:yP N b c=some r) :
    pT Tryz.prog 304 #[.agg #[vI b.res,vI b.ss,vI b.ta,vI b.s7,vI b.kind,vI b.tv],.agg #[vI c.res,vI c.ss,vI c.ta,vI c.s7,vI c.kind,vI c.tv]] w0 (fun v w=>v=.bool r∧St w0 [] w []):=by
 unfold yP at h;refine pT.fn Tryz.func304 fun e=>?_;have d:=St.start w0;refine go ?_;refine LW.bo d fun g j f=>?_;refine LW.bo f fun i k a=>?_;refine gc h ?_ ?_ <;> intro _ h
 · refine go ?_;cases h;exact fi a
 refine go ?_;refine CW.fl [2,3,14] fun e=>?_;refine gc h ?_ ?_ <;> intro _ h
 · refine go ?_;cases h;exact fi a
 refine gc h ?_ ?_ <;> intro _ h
 · refine go ?_;cases h;exact fi a
 refine gc h ?_ ?_ <;> intro _ h
 · refine go ?_;cases h;exact fi a
 refine go ?_;refine CW.fl [2,3,29] fun e=>?_;refine gc h ?_ ?_ <;> intro _ h
 · refine go ?_;cases h;exact fi a
 refine gc h ?_ ?_ <;> intro _ h
 · refine go ?_;cases h;exact fi a
 refine go ?_;cases h;exact fi a
theorem BC {w0 N b c r} (h:vu N b c=some r) :
    pT Tryz.prog 56 #[.agg #[vI b.code,vI b.val],.agg #[vI c.code,vI c.val]] w0 (fun v w=>v=.bool r∧St w0 [] w []):=by
 unfold vu at h;refine pT.fn Tryz.func56 fun e=>?_;have d:=St.start w0;refine go ?_;refine LW.bo d fun g j f=>?_;refine LW.bo f fun i k a=>?_;refine gc h ?_ ?_ <;> intro _ h
 · refine go ?_;cases h;exact fi a
 refine go ?_;refine CW.fl [14] fun e=>?_;refine gc h ?_ ?_ <;> intro _ h
 · refine go ?_;cases h;exact fi a
 refine go ?_;cases h;exact fi a
theorem xE {w0} {F:List Nat} {N m u r} (h:tm N m u=some r) {b f a} (g:f=m.length) (hS:St w0 F w0 [sl b a m]) :
    pT Tryz.prog 201 #[vS b f a,vI u] w0 (fun v w=>v=vI r.1∧St w0 F w [sl b a r.2]):=by
 subst g;unfold tm at h;refine pT.fn Tryz.func201 fun e=>?_;refine go ?_;obtain ⟨A,l,p⟩:=ob h;refine CW.ie l 0 (fun c e wb=>En e [(0,vS b c.1.length a),(1,vI c.2.1),(5,vI c.2.2)]∧St w0 F wb [sl b a c.1]) ?_ ⟨⟨rfl,rfl,rfl,trivial⟩,hS.pk [0]⟩ ?_
 · intro c e G o hM h;obtain ⟨hE,d⟩:=hM;obtain ⟨e,rfl⟩:=hE.out;refine gc h ?_ ?_ <;> intro _ h
   · refine gb h fun H j h=>?_;obtain ⟨n,t,hae,y,z⟩:=d.qi (α:=Int) (i:=0) rfl j;subst hae;refine go ?_;have ⟨x,k,h⟩:=ob h;refine LW.se 0 d 0 j k (hM:=Am) fun B q=>?_;refine go ?_;replace h:=oi h;subst h;exact ⟨rfl,⟨⟨(show (vS (some ⟨n,t,none⟩) c.1.length a:Value)=vS (some ⟨n,t,none⟩) x.length a by rw [show c.1.length=x.length from (pO (oi k))]),rfl,rfl,trivial⟩,q.pk [0]⟩⟩
   refine go ?_;cases oi h;exact ⟨trivial,rfl,(d.po [0])⟩
 rintro e C ⟨hE,s⟩;obtain ⟨e,rfl⟩:=hE.out;have h:=p;refine go ?_;replace h:=oi h;subst h;exact Ra ⟨rfl,s.pk [0]⟩
theorem Hi {w0} {F:List Nat} {N U aa r} (h:xh N U aa=some r) {b s a} (t:s=U.length) (hS:St w0 F w0 [sl b a U]) :
    pT Tryz.prog 202 #[vS b s a,vI aa] w0 (fun v w=>v=vI r.1∧St w0 F w [sl b a r.2]):=by
 subst t;unfold xh at h;refine pT.fn Tryz.func202 fun e=>?_;refine go ?_;obtain ⟨ar,G,W⟩:=ob h;refine CW.ie G 0 (fun d e wb=>En e [(0,vS b d.1.length a),(1,vI d.2.1),(5,vI d.2.2)]∧St w0 F wb [sl b a d.1]) ?_ ⟨⟨rfl,rfl,rfl,trivial⟩,hS.pk [0]⟩ ?_
 · intro d e aE o hM h;obtain ⟨hE,k⟩:=hM;obtain ⟨e,rfl⟩:=hE.out;refine gc h ?_ ?_ <;> intro _ h
   · refine go ?_;refine LW.u (pY.rem rfl rfl (by decide)) rfl ?_;refine gb h fun aF B h=>?_;obtain ⟨V,Z,hae,ak,am⟩:=k.qi (α:=pW) (i:=0) rfl B;subst hae;refine go ?_;refine gb h fun ae f h=>?_;refine LW.se 0 k 0 B f (hM:=(rE (fun w cs F hF=>by obtain ⟨rfl,rfl⟩:=hF;exact ⟨rfl,rfl⟩))) fun au x=>?_;refine gb h fun aA l h=>?_;obtain ⟨af,an,hae,H,L⟩:=x.qi (α:=pW) (i:=0) rfl l;cases hae;(try refine LW.u (pY.ix Tryz.underlying27 DT rfl rfl H (by rw [show d.1.length=ae.length from (pO (oi f))];exact L)) rfl ?_);refine gb h fun ab c h=>?_;refine LW.se 1 x 0 l c (hM:=(rE (fun w cs F hF=>by obtain ⟨rfl,rfl⟩:=hF;exact ⟨rfl,rfl⟩))) fun av y=>?_;refine go ?_;have ⟨aB,m,h⟩:=ob h;obtain ⟨ah,ao,hae,I,M⟩:=y.qi (α:=pW) (i:=0) rfl m;cases hae;(try refine LW.u (pY.ix Tryz.underlying27 DT rfl rfl I (by rw [show d.1.length=ab.length from ((pO (oi f)).trans (pO (oi c)))];exact M)) rfl ?_);refine gb h fun ac g h=>?_;refine LW.se 2 y 0 m g (hM:=(rE (fun w cs F hF=>by obtain ⟨rfl,rfl⟩:=hF;exact ⟨rfl,rfl⟩))) fun aw z=>?_;refine gb h fun aC n h=>?_;obtain ⟨ai,ap,hae,J,O⟩:=z.qi (α:=pW) (i:=0) rfl n;cases hae;(try refine LW.u (pY.ix Tryz.underlying27 DT rfl rfl J (by rw [show d.1.length=ac.length from (((pO (oi f)).trans (pO (oi c))).trans (pO (oi g)))];exact O)) rfl ?_);refine gb h fun ad j h=>?_;refine LW.se 3 z 0 n j (hM:=(rE (fun w cs F hF=>by obtain ⟨rfl,rfl⟩:=hF;exact ⟨rfl,rfl⟩))) fun ax A=>?_;refine gb h fun aD p h=>?_;obtain ⟨aj,aq,hae,K,R⟩:=A.qi (α:=pW) (i:=0) rfl p;cases hae;(try refine LW.u (pY.ix Tryz.underlying27 DT rfl rfl K (by rw [show d.1.length=ad.length from ((((pO (oi f)).trans (pO (oi c))).trans (pO (oi g))).trans (pO (oi j)))];exact R)) rfl ?_);refine go ?_;have ⟨C,q,h⟩:=ob h;refine LW.se 4 A 0 p q (hM:=(rE (fun w cs F hF=>by obtain ⟨rfl,rfl⟩:=hF;exact ⟨rfl,rfl⟩))) fun ay X=>?_;refine go ?_;replace h:=oi h;subst h;exact ⟨rfl,⟨⟨(show (vS (some ⟨V,Z,none⟩) d.1.length a:Value)=vS (some ⟨V,Z,none⟩) C.length a by rw [show d.1.length=C.length from (((((pO (oi f)).trans (pO (oi c))).trans (pO (oi g))).trans (pO (oi j))).trans (pO (oi q)))]),rfl,rfl,trivial⟩,X.pk [0]⟩⟩
   refine go ?_;cases oi h;exact ⟨trivial,rfl,(k.po [0])⟩
 rintro e az ⟨hE,Y⟩;obtain ⟨e,rfl⟩:=hE.out;have h:=W;refine go ?_;replace h:=oi h;subst h;exact Ra ⟨rfl,Y.pk [0]⟩
theorem Gz {w0} {F:List Nat} {N x G r} (h:xw N x G=some r) {b k a} (l:k=x.length) (hS:St w0 F w0 [sl b a x]) :
    pT Tryz.prog 278 #[vS b k a,vI G] w0 (fun v w=>v=vI r.1∧St w0 F w [sl b a r.2]):=by
 subst l;unfold xw at h;refine pT.fn Tryz.func278 fun e=>?_;refine go ?_;obtain ⟨M,q,z⟩:=ob h;refine CW.ie q 0 (fun c e wb=>En e [(0,vS b c.1.length a),(1,vI c.2.1),(5,vI c.2.2)]∧St w0 F wb [sl b a c.1]) ?_ ⟨⟨rfl,rfl,rfl,trivial⟩,hS.pk [0]⟩ ?_
 · intro c e W o hM h;obtain ⟨hE,d⟩:=hM;obtain ⟨e,rfl⟩:=hE.out;refine gc h ?_ ?_ <;> intro _ h
   · refine gb h fun X n h=>?_;obtain ⟨y,C,hae,J,K⟩:=d.qi (α:=qt) (i:=0) rfl n;subst hae;refine go ?_;refine gb h fun H j h=>?_;refine LW.se 0 d 0 n j (hM:=(rE (fun w cs F hF=>by obtain ⟨rfl,rfl⟩:=hF;exact ⟨rfl,rfl⟩))) fun O m=>?_;refine gb h fun V f h=>?_;obtain ⟨I,L,hae,s,t⟩:=m.qi (α:=qt) (i:=0) rfl f;cases hae;(try refine LW.u (pY.ix Tryz.underlying42 FZ rfl rfl s (by rw [show c.1.length=H.length from (pO (oi j))];exact t)) rfl ?_);refine gb h fun p g h=>?_;refine LW.se 1 m 0 f g (hM:=(rE (fun w cs F hF=>by obtain ⟨rfl,rfl⟩:=hF;exact ⟨rfl,rfl⟩))) fun R A=>?_;refine go ?_;replace h:=oi h;subst h;exact ⟨rfl,⟨⟨(show (vS (some ⟨y,C,none⟩) c.1.length a:Value)=vS (some ⟨y,C,none⟩) p.length a by rw [show c.1.length=p.length from ((pO (oi j)).trans (pO (oi g)))]),rfl,rfl,trivial⟩,A.pk [0]⟩⟩
   refine go ?_;cases oi h;exact ⟨trivial,rfl,(d.po [0])⟩
 rintro e U ⟨hE,B⟩;obtain ⟨e,rfl⟩:=hE.out;have h:=z;refine go ?_;replace h:=oi h;subst h;exact Ra ⟨rfl,B.pk [0]⟩
theorem GN {w0} {F:List Nat} {N Z af r} (h:xB N Z af=some r) {d x a} (y:x=Z.length) (hS:St w0 F w0 [sl d a Z]) :
    pT Tryz.prog 204 #[vS d x a,vI af] w0 (fun v w=>v=vI r.1∧St w0 F w [sl d a r.2]):=by
 subst y;unfold xB at h;refine pT.fn Tryz.func204 fun e=>?_;refine go ?_;obtain ⟨aB,J,ab⟩:=ob h;refine CW.ie J 0 (fun c e wb=>En e [(0,vS d c.1.length a),(1,vI c.2.1),(5,vI c.2.2)]∧St w0 F wb [sl d a c.1]) ?_ ⟨⟨rfl,rfl,rfl,trivial⟩,hS.pk [0]⟩ ?_
 · intro c e aO o hM h;obtain ⟨hE,l⟩:=hM;obtain ⟨e,rfl⟩:=hE.out;refine gc h ?_ ?_ <;> intro _ h
   · refine gb h fun aP H h=>?_;obtain ⟨aa,ae,hae,au,av⟩:=l.qi (α:=qy) (i:=0) rfl H;subst hae;refine go ?_;refine gb h fun am g h=>?_;refine LW.se 0 l 0 H g (hM:=(rE (fun w cs F hF=>by obtain ⟨rfl,rfl⟩:=hF;exact ⟨rfl,rfl⟩))) fun aC z=>?_;refine gb h fun aJ m h=>?_;obtain ⟨an,aw,hae,K,U⟩:=z.qi (α:=qy) (i:=0) rfl m;cases hae;(try refine LW.u (pY.ix Tryz.underlying33 yw rfl rfl K (by rw [show c.1.length=am.length from (pO (oi g))];exact U)) rfl ?_);refine gb h fun ah b h=>?_;refine LW.se 1 z 0 m b (hM:=(rE (fun w cs F hF=>by obtain ⟨rfl,rfl⟩:=hF;exact ⟨rfl,rfl⟩))) fun aD A=>?_;refine go ?_;have ⟨aK,n,h⟩:=ob h;obtain ⟨ao,ax,hae,L,V⟩:=A.qi (α:=qy) (i:=0) rfl n;cases hae;(try refine LW.u (pY.ix Tryz.underlying33 yw rfl rfl L (by rw [show c.1.length=ah.length from ((pO (oi g)).trans (pO (oi b)))];exact V)) rfl ?_);refine gb h fun ai f h=>?_;refine LW.se 2 A 0 n f (hM:=(rE (fun w cs F hF=>by obtain ⟨rfl,rfl⟩:=hF;exact ⟨rfl,rfl⟩))) fun aE B=>?_;refine gb h fun aL p h=>?_;obtain ⟨ap,ay,hae,M,W⟩:=B.qi (α:=qy) (i:=0) rfl p;cases hae;(try refine LW.u (pY.ix Tryz.underlying33 yw rfl rfl M (by rw [show c.1.length=ai.length from (((pO (oi g)).trans (pO (oi b))).trans (pO (oi f)))];exact W)) rfl ?_);refine gb h fun aj j h=>?_;refine LW.se 3 B 0 p j (hM:=(rE (fun w cs F hF=>by obtain ⟨rfl,rfl⟩:=hF;exact ⟨rfl,rfl⟩))) fun aF C=>?_;refine gb h fun aM q h=>?_;obtain ⟨aq,az,hae,O,X⟩:=C.qi (α:=qy) (i:=0) rfl q;cases hae;(try refine LW.u (pY.ix Tryz.underlying33 yw rfl rfl O (by rw [show c.1.length=aj.length from ((((pO (oi g)).trans (pO (oi b))).trans (pO (oi f))).trans (pO (oi j)))];exact X)) rfl ?_);refine gb h fun ak k h=>?_;refine LW.se 4 C 0 q k (hM:=(rE (fun w cs F hF=>by obtain ⟨rfl,rfl⟩:=hF;exact ⟨rfl,rfl⟩))) fun aG G=>?_;refine go ?_;have ⟨aN,s,h⟩:=ob h;obtain ⟨ar,aA,hae,R,Y⟩:=G.qi (α:=qy) (i:=0) rfl s;cases hae;(try refine LW.u (pY.ix Tryz.underlying33 yw rfl rfl R (by rw [show c.1.length=ak.length from (((((pO (oi g)).trans (pO (oi b))).trans (pO (oi f))).trans (pO (oi j))).trans (pO (oi k)))];exact Y)) rfl ?_)
     refine gb h fun I t h=>?_;refine LW.se 5 G 0 s t (hM:=(rE (fun w cs F hF=>by obtain ⟨rfl,rfl⟩:=hF;exact ⟨rfl,rfl⟩))) fun aH ac=>?_;refine go ?_;replace h:=oi h;subst h;exact ⟨rfl,⟨⟨(show (vS (some ⟨aa,ae,none⟩) c.1.length a:Value)=vS (some ⟨aa,ae,none⟩) I.length a by rw [show c.1.length=I.length from ((((((pO (oi g)).trans (pO (oi b))).trans (pO (oi f))).trans (pO (oi j))).trans (pO (oi k))).trans (pO (oi t)))]),rfl,rfl,trivial⟩,ac.pk [0]⟩⟩
   refine go ?_;cases oi h;exact ⟨trivial,rfl,(l.po [0])⟩
 rintro e aI ⟨hE,ad⟩;obtain ⟨e,rfl⟩:=hE.out;have h:=ab;refine go ?_;replace h:=oi h;subst h;exact Ra ⟨rfl,ad.pk [0]⟩
theorem wZ {w0 N q z r} (h:td N q z=some r) {b f c} (g:f=q.length) (i:rb w0 b c q) :
    pT Tryz.prog 205 #[vS b f c,vI z] w0 (fun v w=>v=vI r∧St w0 [] w []):=by
 subst g;unfold td at h;refine pT.fn Tryz.func205 fun e=>?_;have s:=St.start w0;refine go ?_;obtain ⟨k,n,j⟩:=ob h;refine CW.mono (CW.lx [0] [] [1] 0 (fun p=>[(1,vI p.1),(5,vI p.2)]) (RT Tryz.prog Tryz.f205.results (fun u=>vI u) w0 []) s n (hb:=?_)) ?_
 · intro p e K o a h;refine gc h ?_ ?_ <;> intro _ h
   · refine gb h fun L y h=>?_;obtain ⟨I,J,A,rfl,d,B,C,rfl,m⟩:=i.idx y;refine go ?_;refine LW.l (pZ.qk w0 qA rfl (m 0 _ rfl)) (a.same _ d.1 d.2) rfl ?_;refine go ?_;refine CW.fl [0,1,5,17] fun e=>?_;refine gc h ?_ ?_ <;> intro _ h
     · refine go ?_;cases oi h;exact ⟨trivial,rfl,_,rfl,rx ⟨rfl,a.pk []⟩⟩
     refine go ?_;cases oi h;exact ⟨rfl,(a.po [])⟩
   refine go ?_;cases oi h;exact ⟨trivial,rfl,(a.po [])⟩
 intro x e H hM;rcases k with k | G
 · obtain ⟨rfl,hM⟩:=hM;obtain ⟨hE,t⟩:=hM;obtain ⟨e,rfl⟩:=hE.out;have h:=j;refine go ?_;cases h;exact fi t
 obtain ⟨rfl,u,rfl,hM⟩:=hM;cases j;exact And.intro trivial hM
theorem Gq {w0 N q z r} (h:xj N q z=some r) {d g f} (i:g=q.length) (j:rb w0 d f q) :
    pT Tryz.prog 206 #[vS d g f,vI z] w0 (fun v w=>v=vI r∧St w0 [] w []):=by
 subst i;unfold xj at h;refine pT.fn Tryz.func206 fun e=>?_;have s:=St.start w0;refine go ?_;obtain ⟨m,n,k⟩:=ob h;refine CW.mono (CW.lx [0] [] [1] 0 (fun p=>[(1,vI p.1),(5,vI p.2)]) (RT Tryz.prog Tryz.f206.results (fun u=>vI u) w0 []) s n (hb:=?_)) ?_
 · intro p e K o b h;refine gc h ?_ ?_ <;> intro _ h
   · refine gb h fun L y h=>?_;obtain ⟨I,J,A,rfl,a,B,C,rfl,c⟩:=j.idx y;refine go ?_;refine LW.l (pZ.qk w0 wE rfl (c 0 _ rfl)) (b.same _ a.1 a.2) rfl ?_;refine go ?_;refine LW.u (pY.rem rfl rfl (by decide)) rfl ?_;refine go ?_;refine LW.u (pY.bne Tryz.underlying4 rfl rfl) rfl ?_;refine go ?_;refine CW.fl [0,1,5,20] fun e=>?_;refine gc h ?_ ?_ <;> intro _ h
     · refine go ?_;cases oi h;exact ⟨trivial,rfl,_,rfl,rx ⟨rfl,b.pk []⟩⟩
     refine go ?_;refine LW.l (pZ.qk w0 qA rfl (c 1 _ rfl)) (b.same _ a.1 a.2) rfl ?_;refine gc h ?_ ?_ <;> intro _ h
     · refine go ?_;cases oi h;exact ⟨trivial,rfl,_,rfl,rx ⟨rfl,b.pk []⟩⟩
     refine go ?_;refine LW.l (pZ.qk w0 qA rfl (c 2 _ rfl)) (b.same _ a.1 a.2) rfl ?_;refine go ?_;refine CW.fl [0,1,5,39] fun e=>?_;refine gc h ?_ ?_ <;> intro _ h
     · refine go ?_;cases oi h;exact ⟨trivial,rfl,_,rfl,rx ⟨rfl,b.pk []⟩⟩
     refine go ?_;refine LW.l (pZ.qk w0 qA rfl (c 3 _ rfl)) (b.same _ a.1 a.2) rfl ?_;refine gc h ?_ ?_ <;> intro _ h
     · refine go ?_;cases oi h;exact ⟨trivial,rfl,_,rfl,rx ⟨rfl,b.pk []⟩⟩
     refine go ?_;refine LW.l (pZ.qk w0 qA rfl (c 4 _ rfl)) (b.same _ a.1 a.2) rfl ?_;refine go ?_;refine CW.fl [0,1,5,59] fun e=>?_;refine gc h ?_ ?_ <;> intro _ h
     · refine go ?_;cases oi h;exact ⟨trivial,rfl,_,rfl,rx ⟨rfl,b.pk []⟩⟩
     refine go ?_;cases oi h;exact ⟨rfl,(b.po [])⟩
   refine go ?_;cases oi h;exact ⟨trivial,rfl,(b.po [])⟩
 intro x e H hM;rcases m with m | G
 · obtain ⟨rfl,hM⟩:=hM;obtain ⟨hE,t⟩:=hM;obtain ⟨e,rfl⟩:=hE.out;have h:=k;refine go ?_;cases h;exact fi t
 obtain ⟨rfl,u,rfl,hM⟩:=hM;cases k;exact And.intro trivial hM
theorem Gv {w0 N q z r} (h:xf N q z=some r) {c g d} (i:g=q.length) (j:rb w0 c d q) :
    pT Tryz.prog 279 #[vS c g d,vI z] w0 (fun v w=>v=vI r∧St w0 [] w []):=by
 subst i;unfold xf at h;refine pT.fn Tryz.func279 fun e=>?_;have s:=St.start w0;refine go ?_;obtain ⟨m,n,k⟩:=ob h;refine CW.mono (CW.lx [0] [] [1] 0 (fun p=>[(1,vI p.1),(5,vI p.2)]) (RT Tryz.prog Tryz.f279.results (fun u=>vI u) w0 []) s n (hb:=?_)) ?_
 · intro p e K o a h;refine gc h ?_ ?_ <;> intro _ h
   · refine gb h fun L y h=>?_;obtain ⟨I,J,A,rfl,b,B,C,rfl,f⟩:=j.idx y;refine go ?_;refine LW.l (pZ.qk w0 qA rfl (f 0 _ rfl)) (a.same _ b.1 b.2) rfl ?_;refine go ?_;refine CW.fl [0,1,5,18] fun e=>?_;refine gc h ?_ ?_ <;> intro _ h
     · refine go ?_;cases oi h;exact ⟨trivial,rfl,_,rfl,rx ⟨rfl,a.pk []⟩⟩
     refine go ?_;refine LW.l (pZ.qk w0 qA rfl (f 1 _ rfl)) (a.same _ b.1 b.2) rfl ?_;refine gc h ?_ ?_ <;> intro _ h
     · refine go ?_;cases oi h;exact ⟨trivial,rfl,_,rfl,rx ⟨rfl,a.pk []⟩⟩
     refine go ?_;cases oi h;exact ⟨rfl,(a.po [])⟩
   refine go ?_;cases oi h;exact ⟨trivial,rfl,(a.po [])⟩
 intro x e H hM;rcases m with m | G
 · obtain ⟨rfl,hM⟩:=hM;obtain ⟨hE,t⟩:=hM;obtain ⟨e,rfl⟩:=hE.out;have h:=k;refine go ?_;cases h;exact fi t
 obtain ⟨rfl,u,rfl,hM⟩:=hM;cases k;exact And.intro trivial hM
theorem GX {w0 N q z r} (h:xk N q z=some r) {d g f} (i:g=q.length) (j:rb w0 d f q) :
    pT Tryz.prog 208 #[vS d g f,vI z] w0 (fun v w=>v=vI r∧St w0 [] w []):=by
 subst i;unfold xk at h;refine pT.fn Tryz.func208 fun e=>?_;have s:=St.start w0;refine go ?_;obtain ⟨m,n,k⟩:=ob h;refine CW.mono (CW.lx [0] [] [1] 0 (fun p=>[(1,vI p.1),(5,vI p.2)]) (RT Tryz.prog Tryz.f208.results (fun u=>vI u) w0 []) s n (hb:=?_)) ?_
 · intro p e K o b h;refine gc h ?_ ?_ <;> intro _ h
   · refine gb h fun L y h=>?_;obtain ⟨I,J,A,rfl,a,B,C,rfl,c⟩:=j.idx y;refine go ?_;refine LW.l (pZ.qk w0 qA rfl (c 0 _ rfl)) (b.same _ a.1 a.2) rfl ?_;refine go ?_;refine CW.fl [0,1,5,18] fun e=>?_;refine gc h ?_ ?_ <;> intro _ h
     · refine go ?_;cases oi h;exact ⟨trivial,rfl,_,rfl,rx ⟨rfl,b.pk []⟩⟩
     refine go ?_;refine LW.l (pZ.qk w0 qA rfl (c 1 _ rfl)) (b.same _ a.1 a.2) rfl ?_;refine gc h ?_ ?_ <;> intro _ h
     · refine go ?_;cases oi h;exact ⟨trivial,rfl,_,rfl,rx ⟨rfl,b.pk []⟩⟩
     refine go ?_;refine LW.l (pZ.qk w0 qA rfl (c 2 _ rfl)) (b.same _ a.1 a.2) rfl ?_;refine go ?_;refine CW.fl [0,1,5,36] fun e=>?_;refine gc h ?_ ?_ <;> intro _ h
     · refine go ?_;cases oi h;exact ⟨trivial,rfl,_,rfl,rx ⟨rfl,b.pk []⟩⟩
     refine go ?_;refine LW.l (pZ.qk w0 qA rfl (c 3 _ rfl)) (b.same _ a.1 a.2) rfl ?_;refine gc h ?_ ?_ <;> intro _ h
     · refine go ?_;cases oi h;exact ⟨trivial,rfl,_,rfl,rx ⟨rfl,b.pk []⟩⟩
     refine go ?_;refine LW.l (pZ.qk w0 qA rfl (c 4 _ rfl)) (b.same _ a.1 a.2) rfl ?_;refine go ?_;refine CW.fl [0,1,5,54] fun e=>?_;refine gc h ?_ ?_ <;> intro _ h
     · refine go ?_;cases oi h;exact ⟨trivial,rfl,_,rfl,rx ⟨rfl,b.pk []⟩⟩
     refine go ?_;refine LW.l (pZ.qk w0 qA rfl (c 5 _ rfl)) (b.same _ a.1 a.2) rfl ?_;refine gc h ?_ ?_ <;> intro _ h
     · refine go ?_;cases oi h;exact ⟨trivial,rfl,_,rfl,rx ⟨rfl,b.pk []⟩⟩
     refine go ?_;cases oi h;exact ⟨rfl,(b.po [])⟩
   refine go ?_;cases oi h;exact ⟨trivial,rfl,(b.po [])⟩
 intro x e H hM;rcases m with m | G
 · obtain ⟨rfl,hM⟩:=hM;obtain ⟨hE,t⟩:=hM;obtain ⟨e,rfl⟩:=hE.out;have h:=k;refine go ?_;cases h;exact fi t
 obtain ⟨rfl,u,rfl,hM⟩:=hM;cases k;exact And.intro trivial hM
theorem Ic {w0 N j m r} (h:z9 N j m=some r) {a c b} (d:c=j.levels.length) (f:rb w0 a b j.levels) :
    pT Tryz.prog 261 #[.agg #[vS a c b],vI m] w0 (fun v w=>v=vI r∧St w0 [] w []):=by
 subst d;unfold z9 at h;refine pT.fn Tryz.func261 fun e=>?_;have k:=St.start w0;refine go ?_;refine LW.bo k fun n o g=>?_;refine gb h fun q l h=>?_;refine LW.c0 (zF l rfl (g.rB f)) g fun p i=>?_;refine gc h ?_ ?_ <;> intro _ h
 · refine go ?_;cases h;exact fi i
 refine go ?_;cases h;exact fi i
theorem Ku {w0 N a G r} (h:Al N a G=some r) {b j f} (o:j=a.pS.length) (s:rb w0 b f a.pS) {c k g} (p:k=a.data.length) (t:rb w0 c g a.data) {d l i} (q:l=a.queue.length) (u:rb w0 d i a.queue) :
    pT Tryz.prog 314 #[.agg #[vI a.gen,vI a.kind,vI a.box,vI a.res,vI a.qp,vI a.bh,vI a.wait,vI a.qo,vI a.qq,.bool a.mark,vS b j f,vS c k g,vS d l i],vI G] w0 (fun v w=>v=vI r∧St w0 [] w []):=by
 subst o p q;unfold Al at h;refine pT.fn Tryz.func314 fun e=>?_;have z:=St.start w0;refine go ?_;refine LW.bo z fun I J x=>?_;refine gb h fun M A h=>?_;refine LW.c0 (zF A rfl (x.rB s)) x fun K m=>?_;refine gc h ?_ ?_ <;> intro _ h
 · refine go ?_;cases h;exact fi m
 refine gb h fun O B h=>?_;refine LW.c0 (zF B rfl (m.rB t)) m fun L n=>?_;refine go ?_;refine CW.fl [1,2,16] fun e=>?_;refine gc h ?_ ?_ <;> intro _ h
 · refine go ?_;cases h;exact fi n
 refine gb h fun R C h=>?_;refine LW.c0 (JF C rfl (n.rB u)) n fun H y=>?_;refine gc h ?_ ?_ <;> intro _ h
 · refine go ?_;cases h;exact fi y
 refine go ?_;cases h;exact fi y
theorem K4 {w0 N a m r} (h:Cu N a m=some r) {b d c} (f:d=a.j8.length) (g:rb w0 b c a.j8) :
    pT Tryz.prog 296 #[.agg #[vI a.phase,vI a.pos,vI a.round,vS b d c],vI m] w0 (fun v w=>v=vI r∧St w0 [] w []):=by
 subst f;unfold Cu at h;refine pT.fn Tryz.func296 fun e=>?_;have k:=St.start w0;refine go ?_;refine LW.bo k fun n o i=>?_;refine gb h fun q l h=>?_;refine LW.c0 (zF l rfl (i.rB g)) i fun p j=>?_;refine gc h ?_ ?_ <;> intro _ h
 · refine go ?_;cases h;exact fi j
 refine go ?_;cases h;exact fi j
theorem H4 {w0 N m r} (h:yd N m=some r) {d g f} (i:g=m.levels.length) (j:rb w0 d f m.levels) :
    pT Tryz.prog 266 #[.agg #[vS d g f]] w0 (fun v w=>∃ a c,v=.agg #[vS a r.levels.length c]∧St w0 [] w [sl a c r.levels]):=by
 subst i;unfold yd at h;refine pT.fn Tryz.func266 fun e=>?_;have n:=St.start w0;refine go ?_;refine LW.bo n fun B H o=>?_;refine LW.al o fun C I p=>?_;refine go ?_;refine LW.al p fun G J k=>?_;refine gb h fun K t h=>?_;refine LW.cl (zt t rfl (k.rB j)) ?_;rintro _ y ⟨u,x,rfl,hs⟩;have q:=k.add hs;refine go ?_;refine LW.st q 1 fun z s=>?_;refine go ?_;refine LW.st s 2 fun A l=>?_;refine go ?_;cases h;exact And.intro trivial ⟨_,rG.one (pP.b l 2 rfl Bb rfl rfl),u,x,rfl,l.pk [0]⟩
theorem Kz {w0 N a r} (h:yV N a=some r) :
    pT Tryz.prog 297 #[.agg #[.bool a.live,vI a.parent,vI a.qw.bh,vI a.qw.pU,vI a.qw.qc]] w0 (fun v w=>v=.agg #[.bool r.live,vI r.parent,vI r.qw.bh,vI r.qw.pU,vI r.qw.qc]∧St w0 [] w []):=by
 unfold yV at h;refine pT.fn Tryz.func297 fun e=>?_;have d:=St.start w0;refine go ?_;refine LW.bo d fun s x f=>?_;refine LW.al f fun t y g=>?_;refine go ?_;refine LW.al g fun u z i=>?_;refine go ?_;refine LW.st i 0 fun A j=>?_;refine go ?_;refine LW.st j 0 fun B k=>?_;refine gb h fun C n h=>?_;refine LW.c0 (E2 n) k fun o l=>?_;refine go ?_;refine LW.st l 0 fun p m=>?_;refine go ?_;refine LW.st m 1 fun q c=>?_;refine go ?_;cases h;exact And.intro trivial ⟨_,rG.one (pP.b c 1 rfl CE rfl rfl),rfl,c.pk []⟩
theorem Jj {w0 N s r} (h:AF N s=some r) {a n b} (p:n=s.length) (q:rb w0 a b s) :
    pT Tryz.prog 323 #[vS a n b] w0 (fun v w=>∃ t y,v=vS t r.length y∧St w0 [] w [sl t y r]):=by
 subst p;unfold AF at h;refine pT.fn Tryz.func323 fun e=>?_;have K:=St.start w0;refine gb h fun am R h=>?_;refine LW.mk w6 rfl rfl R K rfl ?_;intro C d aj L hf;refine go ?_;obtain ⟨ac,H,J⟩:=ob h;refine CW.ie H 0 (fun c e wb=>En e [(0,vS a s.length b),(3,vS C c.1.length d),(4,vI c.2)]∧St w0 [] wb [sl C d c.1]) ?_ (L.po [0]) ?_
 · intro c e ak o hM h;obtain ⟨hE,f⟩:=hM;obtain ⟨e,rfl⟩:=hE.out;refine gc h ?_ ?_ <;> intro _ h
   · refine gb h fun an U h=>?_;obtain ⟨Z,ab,V,rfl,g,aa,X,rfl,G⟩:=q.idx U;refine go ?_;refine LW.l (pZ.rh w0 LH rfl rfl (fun j u hu=>G j u hu)) (f.same _ g.1 g.2) rfl ?_;have ⟨ah,I,h⟩:=ob h;refine LW.c0 (KA I) f fun ad z=>?_;have ⟨ai,k,h⟩:=ob h;obtain ⟨x,A,hae,W,Y⟩:=z.qi (α:=qt) (i:=0) rfl k;subst hae;refine go ?_;have ⟨B,m,h⟩:=ob h;refine LW.se 0 z 0 k m (hM:=Am) fun ae M=>?_;refine go ?_;replace h:=oi h;subst h;exact ⟨rfl,⟨⟨rfl,(show (vS (some ⟨x,A,none⟩) c.1.length d:Value)=vS (some ⟨x,A,none⟩) B.length d by rw [show c.1.length=B.length from (pO (oi m))]),rfl,trivial⟩,M.pk [0]⟩⟩
   refine go ?_;cases oi h;exact ⟨trivial,rfl,(f.po [0])⟩
 rintro e af ⟨hE,O⟩;obtain ⟨e,rfl⟩:=hE.out;have h:=J;refine go ?_;cases h;exact Ra ⟨C,d,rfl,O.pk [0]⟩
theorem Ly {w0 N d r} (h:Bd N d=some r) {f j g} (k:j=d.j8.length) (l:rb w0 f g d.j8) :
    pT Tryz.prog 299 #[.agg #[vI d.phase,vI d.pos,vI d.round,vS f j g]] w0 (fun v w=>∃ a c,v=.agg #[vI r.phase,vI r.pos,vI r.round,vS a r.j8.length c]∧St w0 [] w [sl a c r.j8]):=by
 subst k;unfold Bd at h;refine pT.fn Tryz.func299 fun e=>?_;have q:=St.start w0;refine go ?_;refine LW.bo q fun I L s=>?_;refine LW.al s fun J M t=>?_;refine go ?_;refine LW.al t fun K O u=>?_;refine go ?_;refine LW.st u 0 fun R x=>?_;refine go ?_;refine LW.st x 0 fun U y=>?_;refine go ?_;refine LW.st y 0 fun V m=>?_;refine gb h fun H n h=>?_;refine LW.cl (zt n rfl (m.rB l)) ?_;rintro _ B ⟨o,p,rfl,hs⟩;have z:=m.add hs;refine go ?_;refine LW.st z 1 fun C A=>?_;refine go ?_;refine LW.st A 2 fun G i=>?_;refine go ?_;cases h;exact And.intro trivial ⟨_,rG.one (pP.b i 2 rfl Nb rfl rfl),o,p,rfl,i.pk [0]⟩
theorem Jg {w0 N s r} (h:AD N s=some r) {a n b} (p:n=s.length) (q:rb w0 a b s) :
    pT Tryz.prog 270 #[vS a n b] w0 (fun v w=>∃ t y,v=vS t r.length y∧St w0 [] w [sl t y r]):=by
 subst p;unfold AD at h;refine pT.fn Tryz.func270 fun e=>?_;have K:=St.start w0;refine gb h fun am R h=>?_;refine LW.mk zE rfl rfl R K rfl ?_;intro C d aj L hf;refine go ?_;obtain ⟨ac,H,J⟩:=ob h;refine CW.ie H 0 (fun c e wb=>En e [(0,vS a s.length b),(3,vS C c.1.length d),(4,vI c.2)]∧St w0 [] wb [sl C d c.1]) ?_ (L.po [0]) ?_
 · intro c e ak o hM h;obtain ⟨hE,f⟩:=hM;obtain ⟨e,rfl⟩:=hE.out;refine gc h ?_ ?_ <;> intro _ h
   · refine gb h fun an U h=>?_;obtain ⟨Z,ab,V,rfl,g,aa,X,rfl,G⟩:=q.idx U;refine go ?_;refine LW.l (pZ.rh w0 LP rfl rfl (fun j u hu=>G j u hu)) (f.same _ g.1 g.2) rfl ?_;have ⟨ah,I,h⟩:=ob h;refine LW.c0 (KN I) f fun ad z=>?_;have ⟨ai,k,h⟩:=ob h;obtain ⟨x,A,hae,W,Y⟩:=z.qi (α:=qy) (i:=0) rfl k;subst hae;refine go ?_;have ⟨B,m,h⟩:=ob h;refine LW.se 0 z 0 k m (hM:=Am) fun ae M=>?_;refine go ?_;replace h:=oi h;subst h;exact ⟨rfl,⟨⟨rfl,(show (vS (some ⟨x,A,none⟩) c.1.length d:Value)=vS (some ⟨x,A,none⟩) B.length d by rw [show c.1.length=B.length from (pO (oi m))]),rfl,trivial⟩,M.pk [0]⟩⟩
   refine go ?_;cases oi h;exact ⟨trivial,rfl,(f.po [0])⟩
 rintro e af ⟨hE,O⟩;obtain ⟨e,rfl⟩:=hE.out;have h:=J;refine go ?_;cases h;exact Ra ⟨C,d,rfl,O.pk [0]⟩
theorem HE {w0 N o p r} (h:yl N o p=some r) {a g c} (j:g=o.levels.length) (l:rb w0 a c o.levels) {b i d} (k:i=p.levels.length) (m:rb w0 b d p.levels) :
    pT Tryz.prog 272 #[.agg #[vS a g c],.agg #[vS b i d]] w0 (fun v w=>v=.bool r∧St w0 [] w []):=by
 subst j k;unfold yl at h;refine pT.fn Tryz.func272 fun e=>?_;have q:=St.start w0;refine go ?_;refine LW.bo q fun u y s=>?_;refine LW.bo s fun x z f=>?_;refine gb h fun B t h=>?_;refine LW.c0 (zB t rfl (f.rB l) rfl (f.rB m)) f fun A n=>?_;refine gc h ?_ ?_ <;> intro _ h
 · refine go ?_;cases h;exact fi n
 refine go ?_;cases h;exact fi n
theorem KI {w0 N a b r} (h:yI N a b=some r) :
    pT Tryz.prog 301 #[.agg #[.bool a.live,vI a.parent,vI a.qw.bh,vI a.qw.pU,vI a.qw.qc],.agg #[.bool b.live,vI b.parent,vI b.qw.bh,vI b.qw.pU,vI b.qw.qc]] w0 (fun v w=>v=.bool r∧St w0 [] w []):=by
 unfold yI at h;refine pT.fn Tryz.func301 fun e=>?_;have f:=St.start w0;refine go ?_;refine LW.bo f fun j l g=>?_;refine LW.bo g fun k m c=>?_;refine go ?_;refine LW.u (pY.bne Tryz.underlying4 rfl rfl) rfl ?_;refine gc h ?_ ?_ <;> intro _ h
 · refine go ?_;cases h;exact fi c
 refine go ?_;refine CW.fl [2,3,14] fun e=>?_;refine gc h ?_ ?_ <;> intro _ h
 · refine go ?_;cases h;exact fi c
 refine gb h fun o i h=>?_;refine LW.c0 (Fe i) c fun n d=>?_;refine gc h ?_ ?_ <;> intro _ h
 · refine go ?_;cases h;exact fi d
 refine go ?_;cases h;exact fi d
theorem IT {w0 N K L r} (h:Az N K L=some r) {a l c} (n:l=K.length) (q:rb w0 a c K) {b m d} (p:m=L.length) (s:rb w0 b d L) :
    pT Tryz.prog 324 #[vS a l c,vS b m d] w0 (fun v w=>v=.bool r∧St w0 [] w []):=by
 subst n p;unfold Az at h;refine pT.fn Tryz.func324 fun e=>?_;have y:=St.start w0;refine gc h ?_ ?_ <;> intro _ h
 · refine go ?_;cases h;exact fi y
 refine go ?_;obtain ⟨B,H,t⟩:=ob h;refine CW.mono (CW.lx [0,1] [] [] 0 (fun R=>[(5,vI R)]) (RT Tryz.prog Tryz.f324.results (fun u=>.bool u) w0 []) y H (hb:=?_)) ?_
 · intro R e ak o z h;refine gc h ?_ ?_ <;> intro _ h
   · refine go ?_;refine CW.draw (by kernel_rfl) ?_;have f:=z.drew;refine gb h fun am O h=>?_;obtain ⟨ai,aj,U,rfl,g,Z,aa,rfl,C⟩:=q.idx O;refine go ?_;refine AW.take (i:=3) rfl (by kernel_rfl) rfl rfl (pZ.rh w0 AH rfl rfl (fun j u hu=>C j u hu)) (f.same _ g.1 g.2) ?_;refine gb h fun af I h=>?_;obtain ⟨Y,ab,V,rfl,k,W,X,rfl,G⟩:=s.idx I;refine go ?_;refine AW.take (i:=7) rfl (by kernel_rfl) rfl rfl (pZ.rh w0 AH rfl rfl (fun j u hu=>G j u hu)) (f.same _ k.1 k.2) ?_;have ⟨ah,J,h⟩:=ob h;refine jO 8 ?_;refine LW.cl (Ko J) ?_;rintro _ ad ⟨rfl,hs⟩;have A:=f.add hs;refine jN (jW (jW jZ)) ?_;refine gc h ?_ ?_ <;> intro _ h
     · refine go ?_;cases oi h;exact ⟨trivial,rfl,_,rfl,rx ⟨rfl,A.pk []⟩⟩
     refine go ?_;cases oi h;exact ⟨rfl,(A.po [])⟩
   refine go ?_;cases oi h;exact ⟨trivial,rfl,⟨trivial,z.pk []⟩⟩
 intro x e ae hM;rcases B with B | ac
 · obtain ⟨rfl,hM⟩:=hM;obtain ⟨hE,M⟩:=hM;obtain ⟨e,rfl⟩:=hE.out;rw [show e=qv e [] from rfl];have h:=t;refine go ?_;cases h;exact fi M
 obtain ⟨rfl,u,rfl,hM⟩:=hM;cases t;exact And.intro trivial hM
end Go.Kx
