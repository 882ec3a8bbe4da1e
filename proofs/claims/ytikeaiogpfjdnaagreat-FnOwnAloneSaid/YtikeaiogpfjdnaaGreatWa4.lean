/- Each call returns what the plain function says. Printed by drive.py. -/
import Derived.Test.YtikeaiogpfjdnaaGreatFa
import Derived.Test.YtikeaiogpfjdnaaGreatPu
namespace Go.Kx
open Go Go.RowKit Go.Proofs
set_option maxRecDepth 10000
set_option maxHeartbeats 8000000
set_option linter.unusedVariables false
set_option linter.unusedSimpArgs false
theorem nm {w0 N g r} (h:kY N g=some r) {a c b} (d:c=g.length) (f:rb w0 a b g) :
    il Tryz.prog 170 #[vS a c b] w0 (fun v w=>∃ j k,v=vS j r.length k∧St w0 [] w [sl j k r]):=by
 subst d;unfold kY at h;refine il.fn Tryz.func170 fun e=>?_;have o:=St.start w0;refine go ?_;refine LW.jL (α:=iy) (vs:=[]) (cs:=#[]) (l:=([]:List iy)) rfl (by kernel_rfl) rfl rfl rfl (fun w=>rfl) o rfl ?_;intro u x y n hf;refine gb h fun A q h=>?_;refine LW.j9 (l:=([]:List iy)) (m:=g) EA rfl rfl (n.rB f) q n (i:=0) rfl rfl ?_;intro s t z p hf;refine go ?_;cases h;exact Ra ⟨s,t,rfl,p.pk [0]⟩
theorem zF {w0 N a r} (h:rr N a=some r) {n u q} (B:u=a.ig.length) (H:rb w0 n q a.ig) {o x s} (C:x=a.data.length) (I:rb w0 o s a.data) {p y t} (G:y=a.queue.length) (J:rb w0 p t a.queue) :
    il Tryz.prog 280 #[.agg #[vI a.gen,vI a.kind,vI a.box,vI a.res,vI a.iL,vI a.cd,vI a.wait,vI a.iK,vI a.iM,.bool a.mark,vS n u q,vS o x s,vS p y t]] w0 (fun v w=>∃ c g, ∃ d j, ∃ f k,v=.agg #[vI r.gen,vI r.kind,vI r.box,vI r.res,vI r.iL,vI r.cd,vI r.wait,vI r.iK,vI r.iM,.bool r.mark,vS c r.ig.length g,vS d r.data.length j,vS f r.queue.length k]∧St w0 [] w [sl c g r.ig,sl d j r.data,sl f k r.queue]):=by
 subst B C G;unfold rr at h;refine il.fn Tryz.func280 fun e=>?_;have aa:=St.start w0;refine go ?_;refine LW.bo aa fun aE aG ab=>?_;refine LW.al ab fun aF aH ac=>?_;refine go ?_;refine LW.jL (α:=Int) (vs:=[]) (cs:=#[]) (l:=([]:List Int)) rfl (by kernel_rfl) rfl rfl rfl (fun w=>rfl) ac rfl ?_;intro aC aD aI K hf;refine gb h fun aJ ai h=>?_;refine LW.j9 (l:=([]:List Int)) (m:=a.ig) lL rfl rfl (K.rB H) ai K (i:=0) rfl rfl ?_;intro aj X ap ad hf;refine go ?_;refine LW.st ad 2 fun aq ae=>?_;refine go ?_;refine LW.jL (α:=Int) (vs:=[]) (cs:=#[]) (l:=([]:List Int)) rfl (by kernel_rfl) rfl rfl rfl (fun w=>rfl) ae rfl ?_;intro ak an ar L hf;refine gb h fun aA R h=>?_;refine LW.j9 (l:=([]:List Int)) (m:=a.data) lL rfl rfl (L.rB I) R L (i:=0) rfl rfl ?_;intro V Y au af hf;refine go ?_;refine LW.st af 3 fun av ah=>?_;refine go ?_;refine LW.jL (α:=ji) (vs:=[]) (cs:=#[]) (l:=([]:List ji)) rfl (by kernel_rfl) rfl rfl rfl (fun w=>rfl) ah rfl ?_;intro am ao aw z hf;refine gb h fun aB U h=>?_;refine LW.j9 (l:=([]:List ji)) (m:=a.queue) ua rfl rfl (z.rB J) U z (i:=0) rfl rfl ?_;intro W Z ax M hf;refine go ?_;refine LW.st M 4 fun ay O=>?_;refine go ?_;refine LW.st O 3 fun az A=>?_;refine go ?_;cases h;exact And.intro trivial ⟨_,jB.one (ib.b A 3 rfl lI rfl rfl),aj,X,V,Y,W,Z,rfl,A.pk [2,1,0]⟩
theorem jg {w0 N b c d r} (h:ja N b c d=some r) :
    il Tryz.prog 80 #[vI b,vI c,vI d] w0 (fun v w=>v=.bool r∧St w0 [] w []):=by
 unfold ja at h;refine il.fn Tryz.func80 fun e=>?_;have a:=St.start w0;refine gB h ?_ ?_ <;> intro _ h
 · refine go ?_;cases h;exact fi a
 refine go ?_;cases h;exact fi a
theorem vP {w0 N s r} (h:rv N s=some r) {d m f} (p:m=s.length) (q:rb w0 d f s) :
    il Tryz.prog 143 #[vS d m f] w0 (fun v w=>v=.agg #[vI r.cd,vI r.ij,vI r.iD]∧St w0 [] w []):=by
 subst p;unfold rv at h;refine il.fn Tryz.func143 fun e=>?_;have H:=St.start w0;refine go ?_;refine LW.al H fun B ae I=>?_;refine go ?_;refine LW.u (iC.build (vs:=[]) (cs:=#[vI 0,vI 0,vI 0]) rfl (by kernel_rfl)) rfl ?_;refine LW.al I fun C af J=>?_;refine LW.st J 0 fun ah K=>?_;refine go ?_;obtain ⟨Y,A,G⟩:=ob h;refine CW.ie A 0 (fun n e wb=>En e [(0,vS d s.length f),(2,.pointer (some ⟨B,0,none⟩)),(3,.pointer (some ⟨C,0,none⟩)),(4,vI n.1)]∧St w0 [] wb [bx C 35 [vI n.2.1,vI n.2.2.1,vI n.2.2.2],bx B 35 [vI 0,vI 0,vI 0]]) ?_ (K.po [0,1]) ?_
 · intro n e ai o hM h;obtain ⟨hE,g⟩:=hM;obtain ⟨e,rfl⟩:=hE.out;refine gc h ?_ ?_ <;> intro _ h
   · refine gb h fun aj O h=>?_;obtain ⟨W,X,R,rfl,a,U,V,rfl,c⟩:=q.idx O;refine go ?_;refine LW.l (iF.iN w0 pd rfl (c 0 _ rfl)) (g.same _ a.1 a.2) rfl ?_;refine go ?_;refine CW.fl [0,2,3,4,16] fun e=>?_;refine gc h ?_ ?_ <;> intro _ h
     · refine go ?_;refine CW.draw (by kernel_rfl) ?_;have t:=g.drew;refine go ?_;refine AW.take (i:=7) rfl (by kernel_rfl) rfl rfl (iF.iN w0 iY rfl (c 2 _ rfl)) (t.same _ a.1 a.2) ?_;refine go ?_;refine jO 10 ?_;refine LW.st t 0 fun Z L=>?_;refine jN (jW (jW jZ)) ?_;refine go ?_;refine CW.draw (by kernel_rfl) ?_;have x:=L.drew;refine go ?_;refine AW.take (i:=7) rfl (by kernel_rfl) rfl rfl (iF.iN w0 iY rfl (c 3 _ rfl)) (x.same _ a.1 a.2) ?_;refine go ?_;refine jO 10 ?_;refine LW.st x 0 fun aa M=>?_;refine jN (jW (jW jZ)) ?_;refine go ?_;refine CW.draw (by kernel_rfl) ?_;have j:=M.drew;refine go ?_;refine AW.take (i:=7) rfl (by kernel_rfl) rfl rfl (iF.iN w0 iY rfl (c 4 _ rfl)) (j.same _ a.1 a.2) ?_;refine go ?_;refine jO 10 ?_;refine LW.st j 0 fun ab y=>?_;refine jN (jW (jW jZ)) ?_;refine go ?_;cases oi h;exact ⟨rfl,(y.po [0,1])⟩
     refine go ?_;cases oi h;exact ⟨rfl,(g.po [0,1])⟩
   refine go ?_;cases oi h;exact ⟨trivial,rfl,(g.po [0,1])⟩
 rintro e ac ⟨hE,z⟩;obtain ⟨e,rfl⟩:=hE.out;have h:=G;refine go ?_;refine LW.st z 1 fun ad k=>?_;refine go ?_;cases h;exact And.intro trivial ⟨_,jB.one (ib.b k 1 rfl km rfl rfl),rfl,k.pk []⟩
theorem pP {w0 N p z r} (h:l6 N p z=some r) {b f c} (g:f=p.length) (i:rb w0 b c p) :
    il Tryz.prog 96 #[vS b f c,vI z] w0 (fun v w=>v=.bool r∧St w0 [] w []):=by
 subst g;unfold l6 at h;refine il.fn Tryz.func96 fun e=>?_;have q:=St.start w0;refine go ?_;obtain ⟨k,n,j⟩:=ob h;refine CW.mono (CW.lx [0,1] [] [] 0 (fun y=>[(5,vI y)]) (RT Tryz.prog Tryz.f96.results (fun u=>.bool u) w0 []) q n (hb:=?_)) ?_
 · intro y e K o a h;refine gc h ?_ ?_ <;> intro _ h
   · refine gb h fun L t h=>?_;obtain ⟨I,J,A,rfl,d,B,C,rfl,m⟩:=i.idx t;refine go ?_;refine LW.l (iF.iN w0 iY rfl (m 0 _ rfl)) (a.same _ d.1 d.2) rfl ?_;refine go ?_;refine CW.fl [0,1,5,17] fun e=>?_;refine gc h ?_ ?_ <;> intro _ h
     · refine go ?_;cases oi h;exact ⟨trivial,rfl,_,rfl,rx ⟨rfl,a.pk []⟩⟩
     refine go ?_;cases oi h;exact ⟨rfl,(a.po [])⟩
   refine go ?_;cases oi h;exact ⟨trivial,rfl,⟨trivial,a.pk []⟩⟩
 intro x e H hM;rcases k with k | G
 · obtain ⟨rfl,hM⟩:=hM;obtain ⟨e,rfl,s⟩:=eo hM;rw [show e=iQ e [] from rfl];have h:=j;refine go ?_;cases h;exact fi s
 obtain ⟨rfl,u,rfl,hM⟩:=hM;cases j;exact And.intro trivial hM
theorem qR {w0 N a x r} (h:lp N a x=some r) {b j f} (m:j=a.ig.length) (s:rb w0 b f a.ig) {c k g} (n:k=a.data.length) (t:rb w0 c g a.data) {d l i} (o:l=a.queue.length) (u:rb w0 d i a.queue) :
    il Tryz.prog 99 #[.agg #[vI a.gen,vI a.kind,vI a.box,vI a.res,vI a.iL,vI a.cd,vI a.wait,vI a.iK,vI a.iM,.bool a.mark,vS b j f,vS c k g,vS d l i],vI x] w0 (fun v w=>v=.bool r∧St w0 [] w []):=by
 subst m n o;unfold lp at h;refine il.fn Tryz.func99 fun e=>?_;have q:=St.start w0;refine go ?_;refine LW.bo q fun y z p=>?_;refine gB h ?_ ?_ <;> intro _ h
 · refine go ?_;cases h;exact fi p
 refine go ?_;cases h;exact fi p
theorem Dh {w0 N k a r} (h:sx N k a=some r) :
    il Tryz.prog 258 #[vI k,vI a] w0 (fun v w=>v=.agg #[vI r.cd,vI r.ij,vI r.iD]∧St w0 [] w []):=by
 unfold sx at h;refine il.fn Tryz.func258 fun e=>?_;have j:=St.start w0;refine go ?_;refine LW.al j fun l m c=>?_;refine gc h ?_ ?_ <;> intro _ h
 · refine go ?_;refine LW.u (iC.build (vs:=[(0,vI a)]) (cs:=#[vI a,vI 0,vI 0]) rfl (by kernel_rfl)) rfl ?_;refine LW.st c 0 fun n d=>?_;refine go ?_;cases h;exact And.intro trivial ⟨_,jB.one (ib.b d 0 rfl km rfl rfl),rfl,d.pk []⟩
 refine gc h ?_ ?_ <;> intro _ h
 · refine go ?_;refine LW.u (iC.build (vs:=[(1,vI a)]) (cs:=#[vI 0,vI a,vI 0]) rfl (by kernel_rfl)) rfl ?_;refine LW.st c 0 fun o f=>?_;refine go ?_;cases h;exact And.intro trivial ⟨_,jB.one (ib.b f 0 rfl km rfl rfl),rfl,f.pk []⟩
 refine gc h ?_ ?_ <;> intro _ h
 · refine go ?_;refine LW.u (iC.build (vs:=[(2,vI a)]) (cs:=#[vI 0,vI 0,vI a]) rfl (by kernel_rfl)) rfl ?_;refine LW.st c 0 fun p g=>?_;refine go ?_;cases h;exact And.intro trivial ⟨_,jB.one (ib.b g 0 rfl km rfl rfl),rfl,g.pk []⟩
 refine go ?_;refine LW.u (iC.build (vs:=[]) (cs:=#[vI 0,vI 0,vI 0]) rfl (by kernel_rfl)) rfl ?_;refine LW.st c 0 fun q i=>?_;refine go ?_;cases h;exact And.intro trivial ⟨_,jB.one (ib.b i 0 rfl km rfl rfl),rfl,i.pk []⟩
theorem Bn {w0 N b d r} (h:qD N b d=some r) :
    il Tryz.prog 260 #[.agg #[vI b.cd,vI b.ij,vI b.iD],vI d] w0 (fun v w=>v=vI r∧St w0 [] w []):=by
 unfold qD at h;refine il.fn Tryz.func260 fun e=>?_;have c:=St.start w0;refine go ?_;refine LW.bo c fun f g a=>?_;refine gc h ?_ ?_ <;> intro _ h
 · refine go ?_;cases h;exact fi a
 refine gc h ?_ ?_ <;> intro _ h
 · refine go ?_;cases h;exact fi a
 refine gc h ?_ ?_ <;> intro _ h
 · refine go ?_;cases h;exact fi a
 refine go ?_;cases h;exact fi a
theorem l8 {w0 N g r} (h:lr N g=some r) {a c b} (d:c=g.length) (f:rb w0 a b g) :
    il Tryz.prog 146 #[vS a c b] w0 (fun v w=>∃ j k,v=vS j r.length k∧St w0 [] w [sl j k r]):=by
 subst d;unfold lr at h;refine il.fn Tryz.func146 fun e=>?_;have o:=St.start w0;refine go ?_;refine LW.jL (α:=Int) (vs:=[]) (cs:=#[]) (l:=([]:List Int)) rfl (by kernel_rfl) rfl rfl rfl (fun w=>rfl) o rfl ?_;intro u x y n hf;refine gb h fun A q h=>?_;refine LW.j9 (l:=([]:List Int)) (m:=g) lL rfl rfl (n.rB f) q n (i:=0) rfl rfl ?_;intro s t z p hf;refine go ?_;cases h;exact Ra ⟨s,t,rfl,p.pk [0]⟩
theorem n8 {w0 N g r} (h:kU N g=some r) {a c b} (d:c=g.length) (f:rb w0 a b g) :
    il Tryz.prog 147 #[vS a c b] w0 (fun v w=>∃ j k,v=vS j r.length k∧St w0 [] w [sl j k r]):=by
 subst d;unfold kU at h;refine il.fn Tryz.func147 fun e=>?_;have o:=St.start w0;refine go ?_;refine LW.jL (α:=iy) (vs:=[]) (cs:=#[]) (l:=([]:List iy)) rfl (by kernel_rfl) rfl rfl rfl (fun w=>rfl) o rfl ?_;intro u x y n hf;refine gb h fun A q h=>?_;refine LW.j9 (l:=([]:List iy)) (m:=g) EA rfl rfl (n.rB f) q n (i:=0) rfl rfl ?_;intro s t z p hf;refine go ?_;cases h;exact Ra ⟨s,t,rfl,p.pk [0]⟩
theorem jd {w0 N b c d r} (h:i7 N b c d=some r) :
    il Tryz.prog 84 #[vI b,vI c,vI d] w0 (fun v w=>v=.bool r∧St w0 [] w []):=by
 unfold i7 at h;refine il.fn Tryz.func84 fun e=>?_;have a:=St.start w0;refine gB h ?_ ?_ <;> intro _ h
 · refine go ?_;cases h;exact fi a
 refine go ?_;cases h;exact fi a
theorem ni {w0 N a c r} (h:lC N a c=some r) :
    il Tryz.prog 74 #[.agg #[vI a.cd,vI a.ij,vI a.iD],.agg #[vI c.cd,vI c.ij,vI c.iD]] w0 (fun v w=>v=.agg #[vI r.cd,vI r.ij,vI r.iD]∧St w0 [] w []):=by
 unfold lC at h;refine il.fn Tryz.func74 fun e=>?_;have f:=St.start w0;refine go ?_;refine LW.bo f fun k n g=>?_;refine LW.bo g fun l o i=>?_;refine LW.al i fun m p j=>?_;refine go ?_;refine LW.u (iC.build (vs:=[(0,vI (IntKind.i64.wrap (a.cd+c.cd))),(1,vI (IntKind.i64.wrap (a.ij+c.ij))),(2,vI (IntKind.i64.wrap (a.iD+c.iD)))]) (cs:=#[vI (IntKind.i64.wrap (a.cd+c.cd)),vI (IntKind.i64.wrap (a.ij+c.ij)),vI (IntKind.i64.wrap (a.iD+c.iD))]) rfl (by kernel_rfl)) rfl ?_;refine LW.st j 0 fun q d=>?_;refine go ?_;cases h;exact And.intro trivial ⟨_,jB.one (ib.b d 0 rfl km rfl rfl),rfl,d.pk []⟩
theorem zN {w0 N p z r} (h:oG N p z=some r) {b f c} (g:f=p.length) (i:rb w0 b c p) :
    il Tryz.prog 240 #[vS b f c,vI z] w0 (fun v w=>v=vI r∧St w0 [] w []):=by
 subst g;unfold oG at h;refine il.fn Tryz.func240 fun e=>?_;have q:=St.start w0;refine go ?_;obtain ⟨k,n,j⟩:=ob h;refine CW.mono (CW.lx [0,1,7] [] [] 0 (fun y=>[(8,vI y)]) (RT Tryz.prog Tryz.f240.results (fun u=>vI u) w0 []) q n (hb:=?_)) ?_
 · intro y e K o a h;refine gc h ?_ ?_ <;> intro _ h
   · refine gb h fun L t h=>?_;obtain ⟨I,J,A,rfl,d,B,C,rfl,m⟩:=i.idx t;refine go ?_;refine LW.l (iF.iN w0 iY rfl (m 0 _ rfl)) (a.same _ d.1 d.2) rfl ?_;refine go ?_;refine CW.fl [0,1,5,7,8,16] fun e=>?_;refine gc h ?_ ?_ <;> intro _ h
     · refine go ?_;cases oi h;exact ⟨trivial,rfl,_,rfl,rx ⟨rfl,a.pk []⟩⟩
     refine go ?_;cases oi h;exact ⟨rfl,(a.po [])⟩
   refine go ?_;cases oi h;exact ⟨trivial,rfl,⟨trivial,a.pk []⟩⟩
 intro x e H hM;rcases k with k | G
 · obtain ⟨rfl,hM⟩:=hM;obtain ⟨e,rfl,s⟩:=eo hM;rw [show e=iQ e [] from rfl];have h:=j;refine go ?_;cases h;exact fi s
 obtain ⟨rfl,u,rfl,hM⟩:=hM;cases j;exact And.intro trivial hM
theorem vr {w0 N H I r} (h:oJ N H I=some r) {b k d} (m:k=H.length) (p:rb w0 b d H) {c l f} (n:l=I.length) (q:rb w0 c f I) :
    il Tryz.prog 317 #[vS b k d,vS c l f] w0 (fun v w=>v=.bool r∧St w0 [] w []):=by
 subst m n;unfold oJ at h;refine il.fn Tryz.func317 fun e=>?_;have t:=St.start w0;refine gc h ?_ ?_ <;> intro _ h
 · refine go ?_;cases h;exact fi t
 refine go ?_;obtain ⟨z,C,s⟩:=ob h;refine CW.mono (CW.lx [0,1,12] [] [] 0 (fun L=>[(13,vI L)]) (RT Tryz.prog Tryz.f317.results (fun u=>.bool u) w0 []) t C (hb:=?_)) ?_
 · intro L e ae o y h;refine gc h ?_ ?_ <;> intro _ h
   · refine go ?_;refine CW.draw (by kernel_rfl) ?_;have a:=y.drew;refine gb h fun af K h=>?_;obtain ⟨ac,ad,M,rfl,g,W,X,rfl,A⟩:=p.idx K;refine go ?_;refine AW.take (i:=3) rfl (by kernel_rfl) rfl rfl (iF.iN w0 iY rfl (A 0 _ rfl)) (a.same _ g.1 g.2) ?_;refine gb h fun ab G h=>?_;obtain ⟨V,Y,O,rfl,j,R,U,rfl,B⟩:=q.idx G;refine go ?_;refine AW.take (i:=7) rfl (by kernel_rfl) rfl rfl (iF.iN w0 iY rfl (B 0 _ rfl)) (a.same _ j.1 j.2) ?_;refine gc h ?_ ?_ <;> intro _ h
     · refine go ?_;cases oi h;exact ⟨trivial,rfl,_,rfl,rx ⟨rfl,a.pk []⟩⟩
     refine go ?_;cases oi h;exact ⟨rfl,(a.po [])⟩
   refine go ?_;cases oi h;exact ⟨trivial,rfl,⟨trivial,y.pk []⟩⟩
 intro x e aa hM;rcases z with z | Z
 · obtain ⟨rfl,hM⟩:=hM;obtain ⟨e,rfl,J⟩:=eo hM;rw [show e=iQ e [] from rfl];have h:=s;refine go ?_;cases h;exact fi J
 obtain ⟨rfl,u,rfl,hM⟩:=hM;cases s;exact And.intro trivial hM
theorem zI {w0 N I J r} (h:qZ N I J=some r) {b l d} (n:l=I.length) (q:rb w0 b d I) {c m f} (p:m=J.length) (s:rb w0 c f J) :
    il Tryz.prog 318 #[vS b l d,vS c m f] w0 (fun v w=>v=.bool r∧St w0 [] w []):=by
 subst n p;unfold qZ at h;refine il.fn Tryz.func318 fun e=>?_;have y:=St.start w0;refine gc h ?_ ?_ <;> intro _ h
 · refine go ?_;cases h;exact fi y
 refine go ?_;obtain ⟨A,G,t⟩:=ob h;refine CW.mono (CW.lx [0,1,12] [] [] 0 (fun M=>[(13,vI M)]) (RT Tryz.prog Tryz.f318.results (fun u=>.bool u) w0 []) y G (hb:=?_)) ?_
 · intro M e ah o z h;refine gc h ?_ ?_ <;> intro _ h
   · refine go ?_;refine CW.draw (by kernel_rfl) ?_;have a:=z.drew;refine gb h fun X L h=>?_;obtain ⟨ae,af,R,rfl,g,Z,aa,rfl,B⟩:=q.idx L;refine go ?_;refine AW.take (i:=3) rfl (by kernel_rfl) rfl rfl (iF.jF w0 uj rfl rfl (fun j u hu=>B j u hu)) (a.same _ g.1 g.2) ?_;refine gb h fun O H h=>?_;obtain ⟨Y,ab,U,rfl,k,V,W,rfl,C⟩:=s.idx H;refine go ?_;refine AW.take (i:=7) rfl (by kernel_rfl) rfl rfl (iF.jF w0 uj rfl rfl (fun j u hu=>C j u hu)) (a.same _ k.1 k.2) ?_;refine AW.u (i:=8) rfl (by kernel_rfl) rfl rfl (iC.A2 Fw rfl rfl (fun w=>Ff X O w)) ?_;refine gc h ?_ ?_ <;> intro _ h
     · refine go ?_;cases oi h;exact ⟨trivial,rfl,_,rfl,rx ⟨rfl,a.pk []⟩⟩
     refine go ?_;cases oi h;exact ⟨rfl,(a.po [])⟩
   refine go ?_;cases oi h;exact ⟨trivial,rfl,⟨trivial,z.pk []⟩⟩
 intro x e ad hM;rcases A with A | ac
 · obtain ⟨rfl,hM⟩:=hM;obtain ⟨e,rfl,K⟩:=eo hM;rw [show e=iQ e [] from rfl];have h:=t;refine go ?_;cases h;exact fi K
 obtain ⟨rfl,u,rfl,hM⟩:=hM;cases t;exact And.intro trivial hM
theorem BH {w0 N a x r} (h:o4 N a x=some r) {b j f} (m:j=a.ig.length) (s:rb w0 b f a.ig) {c k g} (n:k=a.data.length) (t:rb w0 c g a.data) {d l i} (o:l=a.queue.length) (u:rb w0 d i a.queue) :
    il Tryz.prog 166 #[.agg #[vI a.gen,vI a.kind,vI a.box,vI a.res,vI a.iL,vI a.cd,vI a.wait,vI a.iK,vI a.iM,.bool a.mark,vS b j f,vS c k g,vS d l i],vI x] w0 (fun v w=>v=.bool r∧St w0 [] w []):=by
 subst m n o;unfold o4 at h;refine il.fn Tryz.func166 fun e=>?_;have q:=St.start w0;refine go ?_;refine LW.bo q fun y z p=>?_;refine gB h ?_ ?_ <;> intro _ h
 · refine go ?_;cases h;exact fi p
 refine go ?_;cases h;exact fi p
theorem CY {w0 N k a r} (h:rV N k a=some r) :
    il Tryz.prog 71 #[vI k,vI a] w0 (fun v w=>v=.agg #[vI r.cd,vI r.ij,vI r.iD]∧St w0 [] w []):=by
 unfold rV at h;refine il.fn Tryz.func71 fun e=>?_;have j:=St.start w0;refine go ?_;refine LW.al j fun l m c=>?_;refine gc h ?_ ?_ <;> intro _ h
 · refine go ?_;refine LW.u (iC.build (vs:=[(0,vI a)]) (cs:=#[vI a,vI 0,vI 0]) rfl (by kernel_rfl)) rfl ?_;refine LW.st c 0 fun n d=>?_;refine go ?_;cases h;exact And.intro trivial ⟨_,jB.one (ib.b d 0 rfl km rfl rfl),rfl,d.pk []⟩
 refine gc h ?_ ?_ <;> intro _ h
 · refine go ?_;refine LW.u (iC.build (vs:=[(1,vI a)]) (cs:=#[vI 0,vI a,vI 0]) rfl (by kernel_rfl)) rfl ?_;refine LW.st c 0 fun o f=>?_;refine go ?_;cases h;exact And.intro trivial ⟨_,jB.one (ib.b f 0 rfl km rfl rfl),rfl,f.pk []⟩
 refine gc h ?_ ?_ <;> intro _ h
 · refine go ?_;refine LW.u (iC.build (vs:=[(2,vI a)]) (cs:=#[vI 0,vI 0,vI a]) rfl (by kernel_rfl)) rfl ?_;refine LW.st c 0 fun p g=>?_;refine go ?_;cases h;exact And.intro trivial ⟨_,jB.one (ib.b g 0 rfl km rfl rfl),rfl,g.pk []⟩
 refine go ?_;refine LW.u (iC.build (vs:=[]) (cs:=#[vI 0,vI 0,vI 0]) rfl (by kernel_rfl)) rfl ?_;refine LW.st c 0 fun q i=>?_;refine go ?_;cases h;exact And.intro trivial ⟨_,jB.one (ib.b i 0 rfl km rfl rfl),rfl,i.pk []⟩
theorem tq {w0 N B r} (h:nv N B=some r) {f y g} (z:y=B.length) (A:rb w0 f g B) :
    il Tryz.prog 231 #[vS f y g] w0 (fun v w=>∃ C H,v=vS C r.length H∧St w0 [] w [sl C H r]):=by
 subst z;unfold nv at h;refine il.fn Tryz.func231 fun e=>?_;have Z:=St.start w0;refine go ?_;refine LW.jL (α:=bh) (vs:=[]) (cs:=#[]) (l:=([]:List bh)) rfl (by kernel_rfl) rfl rfl rfl (fun w=>rfl) Z rfl ?_;intro ah ai aD aa hf;refine go ?_;obtain ⟨ax,J,Y⟩:=ob h;refine CW.ie J 0 (fun t e wb=>∃ (b:Ad) (c:Nat),En e [(0,vS f B.length g),(3,vS b t.1.length c),(4,vI t.2)]∧St w0 [] wb [sl b c t.1]) ?_ ⟨ah,ai,aa.po [0]⟩ ?_
 · intro t e aE o hM h;obtain ⟨b,c,hE,d⟩:=hM;obtain ⟨e,rfl⟩:=hE.out;refine gc h ?_ ?_ <;> intro _ h
   · refine gb h fun aF af h=>?_;obtain ⟨ao,aw,aj,rfl,x,au,av,⟨ak,ap,am,aq,an,ar,rfl,K,O,R⟩,I⟩:=A.idx af;refine go ?_;refine LW.l (iF.jF w0 lI rfl rfl (fun j u hu=>I j u hu)) (d.same _ x.1 x.2) rfl ?_;have ⟨a,U,h⟩:=ob h;refine LW.cl (zF U rfl (d.rB K) rfl (d.rB O) rfl (d.rB R)) ?_;rintro _ az ⟨k,p,m,q,n,s,rfl,hs⟩;have ab:=d.add hs;have ac:=ab.pk (M:=[sl k p a.ig,sl m q a.data,sl n s a.queue]++[sl b c t.1]) [0,1,2,3];have ⟨aC,V,h⟩:=ob h;refine LW.kV (M:=[sl k p a.ig,sl m q a.data,sl n s a.queue]) (L:=[sl b c t.1]) (vs:=#[vI a.gen,vI a.kind,vI a.box,vI a.res,vI a.iL,vI a.cd,vI a.wait,vI a.iK,vI a.iM,.bool a.mark,vS k a.ig.length p,vS m a.data.length q,vS n a.queue.length s]) (i:=0) EM rfl (by kernel_rfl) rfl rfl V ac rfl (fun w G hG=>⟨k,p,m,q,n,s,rfl,hG⟩) rfl rfl ?_;intro ay W X aA ad hf;refine go ?_;cases oi h;exact ⟨rfl,⟨W,X,ad.po [0]⟩⟩
   refine go ?_;cases oi h;exact ⟨trivial,rfl,⟨b,c,d.po [0]⟩⟩
 rintro e aB ⟨b,c,hE,ae⟩;obtain ⟨e,rfl⟩:=hE.out;have h:=Y;refine go ?_;cases h;exact Ra ⟨b,c,rfl,ae.pk [0]⟩
theorem uD {w0 N t r} (h:nK N t=some r) {a f b} (g:f=t.levels.length) (i:rb w0 a b t.levels) :
    il Tryz.prog 75 #[.agg #[vS a f b]] w0 (fun v w=>v=.bool r∧St w0 [] w []):=by
 subst g;unfold nK at h;refine il.fn Tryz.func75 fun e=>?_;have y:=St.start w0;refine go ?_;refine LW.bo y fun R U k=>?_;refine gc h ?_ ?_ <;> intro _ h
 · refine go ?_;cases h;exact fi k
 refine go ?_;obtain ⟨n,q,j⟩:=ob h;refine CW.mono (CW.lx [1] [0] [] 0 (fun B=>[(3,vI B)]) (RT Tryz.prog Tryz.f75.results (fun u=>.bool u) w0 []) k q (hb:=?_)) ?_
 · intro B e V o c h;refine gc h ?_ ?_ <;> intro _ h
   · refine gb h fun W A h=>?_;obtain ⟨G,J,C,rfl,d,H,I,rfl,p⟩:=i.idx A;refine go ?_;refine LW.l (iF.iN w0 iY rfl (p 0 _ rfl)) (c.same _ d.1 d.2) rfl ?_;have ⟨O,s,h⟩:=ob h;refine LW.c0 (jg s) c fun L m=>?_;refine go ?_;refine CW.fl [1,3,21] fun e=>?_;refine gc h ?_ ?_ <;> intro _ h
     · refine go ?_;cases oi h;exact ⟨trivial,rfl,_,rfl,rx ⟨rfl,m.pk []⟩⟩
     refine go ?_;cases oi h;exact ⟨rfl,(m.po [0])⟩
   refine go ?_;cases oi h;exact ⟨trivial,rfl,⟨trivial,c.pk [0]⟩⟩
 intro x e M hM;rcases n with n | K
 · obtain ⟨rfl,hM⟩:=hM;obtain ⟨e,rfl,z⟩:=eo hM;rw [show e=iQ e [] from rfl];have h:=j;refine go ?_;cases h;exact fi z
 obtain ⟨rfl,u,rfl,hM⟩:=hM;cases j;exact And.intro trivial hM
theorem vU {w0 N G r} (h:pn N G=some r) {d m f} (n:m=G.length) (c:rb w0 d f G) :
    il Tryz.prog 76 #[vS d m f] w0 (fun v w=>v=.bool r∧St w0 [] w []):=by
 subst n;unfold pn at h;refine il.fn Tryz.func76 fun e=>?_;have H:=St.start w0;refine go ?_;obtain ⟨t,A,p⟩:=ob h;refine CW.mono (CW.lx [0] [] [] 0 (fun L=>[(3,vI L)]) (RT Tryz.prog Tryz.f76.results (fun u=>.bool u) w0 []) H A (hb:=?_)) ?_
 · intro L e ak o g h;refine gc h ?_ ?_ <;> intro _ h
   · refine gs ?_;refine CW.block ?_;refine gs ?_;obtain ⟨W,J,R⟩:=ob h;refine CW.jn [0,3] [] [(31,.bool W)] g (h1:=?_) (h2:=?_)
     · have h:=J;refine CW.draw (by kernel_rfl) ?_;have q:=g.drew;refine gb h fun am K h=>?_;obtain ⟨aj,aa,M,rfl,a,Y,Z,rfl,l⟩:=c.idx K;refine go ?_;refine AW.take (i:=3) rfl (by kernel_rfl) rfl rfl (iF.iN w0 iY rfl (l 0 _ rfl)) (q.same _ a.1 a.2) ?_;have ⟨ah,B,h⟩:=ob h;refine jO 4 ?_;refine LW.cl (jg B) ?_;rintro _ ad ⟨rfl,hs⟩;have b:=q.add hs;refine jn ?_;refine gB h ?_ ?_ <;> intro _ h
       · refine go ?_;cases oi h;exact b.po []
       refine gB h ?_ ?_ <;> intro k h
       · refine go ?_;refine AW.take (i:=13) rfl (by kernel_rfl) (jS rfl rfl k) rfl (iF.iN w0 iY rfl (l 0 _ rfl)) (b.same _ a.1 a.2) ?_;refine gb h fun ai C h=>?_;obtain ⟨X,ab,O,hae,j,U,V,y,z⟩:=c.idx C;cases hae;obtain rfl:=y;refine go ?_;refine AW.take (i:=18) rfl (by kernel_rfl) (jS rfl rfl k) rfl (iF.iN w0 iY rfl (z 0 _ rfl)) (b.same _ j.1 j.2) ?_;refine go ?_;cases oi h;exact b.po []
       refine go ?_;cases oi h;exact b.po []
     intro e ae s;have h:=R;refine gc h ?_ ?_ <;> intro _ h
     · refine go ?_;cases oi h;exact ⟨trivial,rfl,_,rfl,rx ⟨rfl,s.pk []⟩⟩
     refine go ?_;cases oi h;exact ⟨rfl,(s.po [])⟩
   refine go ?_;cases oi h;exact ⟨trivial,rfl,⟨trivial,g.pk []⟩⟩
 intro x e af hM;rcases t with t | ac
 · obtain ⟨rfl,hM⟩:=hM;obtain ⟨e,rfl,I⟩:=eo hM;rw [show e=iQ e [] from rfl];have h:=p;refine go ?_;cases h;exact fi I
 obtain ⟨rfl,u,rfl,hM⟩:=hM;cases p;exact And.intro trivial hM
theorem u9 {w0 N d r} (h:pD N d=some r) :
    il Tryz.prog 95 #[vI d] w0 (fun v w=>v=.bool r∧St w0 [] w []):=by
 unfold pD at h;refine il.fn Tryz.func95 fun e=>?_;have a:=St.start w0;refine gb h fun g c h=>?_;refine LW.c0 (jg c) a fun f b=>?_;refine go ?_;cases h;exact fi b
theorem nu {w0 N d r} (h:lg N d=some r) :
    il Tryz.prog 144 #[vI d] w0 (fun v w=>v=.bool r∧St w0 [] w []):=by
 unfold lg at h;refine il.fn Tryz.func144 fun e=>?_;have a:=St.start w0;refine gb h fun g c h=>?_;refine LW.c0 (jg c) a fun f b=>?_;refine go ?_;cases h;exact fi b
theorem lY {w0 N d r} (h:ku N d=some r) :
    il Tryz.prog 127 #[vI d] w0 (fun v w=>v=.bool r∧St w0 [] w []):=by
 unfold ku at h;refine il.fn Tryz.func127 fun e=>?_;have a:=St.start w0;refine gb h fun g c h=>?_;refine LW.c0 (jg c) a fun f b=>?_;refine go ?_;cases h;exact fi b
theorem nq {w0 N d r} (h:k4 N d=some r) :
    il Tryz.prog 79 #[vI d] w0 (fun v w=>v=.bool r∧St w0 [] w []):=by
 unfold k4 at h;refine il.fn Tryz.func79 fun e=>?_;have a:=St.start w0;refine gb h fun g c h=>?_;refine LW.c0 (jg c) a fun f b=>?_;refine go ?_;cases h;exact fi b
theorem wg {w0} {F:List Nat} {N a ah r} (h:nW N a ah=some r) {k J c} (R:J=a.ag.length) {d K f} (U:K=a.gc.ia.length) (hS:St w0 F w0 [sl k c a.ag,sl d f a.gc.ia]) :
    il Tryz.prog 232 #[.agg #[vS k J c,vI a.gc.phase,vI a.gc.pos,vI a.gc.round,vS d K f],vI ah] w0 (fun v w=>∃ o q, ∃ p s,v=.agg #[vS o r.ag.length q,vI r.gc.phase,vI r.gc.pos,vI r.gc.round,vS p r.gc.ia.length s]∧St w0 F w [sl o q r.ag,sl p s r.gc.ia]):=by
 subst R U;unfold nW at h;refine il.fn Tryz.func232 fun e=>?_;refine go ?_;refine LW.bo hS fun Z a6 am=>?_;refine LW.al am fun aa ar t=>?_;refine gs ?_;obtain ⟨aC,aq,av⟩:=ob h;refine CW.jn [1,2,4] [0,1,2,3] [(26,.bool aC)] t (h1:=?_) (h2:=?_)
 · have h:=aq;refine gB h ?_ ?_ <;> intro _ h
   · refine gb h fun a7 X h=>?_;obtain ⟨aN,aT,hae,aS,ax⟩:=t.iJ (α:=bh) (i:=2) rfl X;subst hae;refine go ?_;obtain ⟨aJ,m,u⟩:=t.freeze (α:=bh) 2 rfl;obtain ⟨aO,aU,au,hae,C,_,_,ac,H⟩:=m.jX.idx X;cases hae;obtain ⟨aK,aP,aL,aQ,aM,aR,rfl,az,aA,aB⟩:=ac;refine go ?_;refine LW.l (iF.iN ar iY rfl (H 1 _ rfl)) (u.zC 2 rfl C) rfl ?_;refine gB h ?_ ?_ <;> intro _ h
     · refine go ?_;refine LW.l (iF.iN ar pd rfl (H 9 _ rfl)) (u.zC 2 rfl C) rfl ?_;refine go ?_;have an:=u.jf (α:=bh) 2 rfl m;cases oi h;exact an.po [0,1,2,3]
     refine go ?_;have ao:=u.jf (α:=bh) 2 rfl m;cases oi h;exact ao.po [0,1,2,3]
   refine go ?_;cases oi h;exact t.po [0,1,2,3]
 intro e aW A;have h:=av;refine gs ?_;obtain ⟨x,ad,ak⟩:=ob h;refine CW.cut (fun e wb=>∃ (g:Ad) (j:Nat),En e [(2,.pointer (some ⟨Z,0,none⟩)),(4,.pointer (some ⟨aa,0,none⟩))]∧St w0 F wb [bx aa 32 [vS none 0 0,vI 0,vI 0,vI 0,vS none 0 0],bx Z 32 [vS k x.1.length c,vI a.gc.phase,vI a.gc.pos,vI a.gc.round,vS g x.2.length j],sl k c x.1,sl g j x.2]) ?_ ?_
 · have h:=ad;refine gc h ?_ ?_ <;> intro _ h
   · refine gb h fun a3 I h=>?_;obtain ⟨V,Y,hae,aw,ay⟩:=A.iJ (α:=bh) (i:=2) rfl I;subst hae;refine go ?_;refine gb h fun O n h=>?_;refine LW.se 9 A 2 I n (hM:=(j7 (fun w cs F hF=>by obtain ⟨aD,aG,aE,aH,aF,aI,rfl,hH⟩:=hF;exact ⟨aD,aG,aE,aH,aF,aI,rfl,hH⟩))) fun aX W=>?_;refine gb h fun a4 ae h=>?_;refine LW.c0 (pP ae rfl (W.rI 3 rfl)) W fun aY B=>?_;refine go ?_;refine CW.fl [1,2,4,37] fun e=>?_;refine gc h ?_ ?_ <;> intro _ h
     · refine gb h fun a5 af h=>?_;refine LW.kV (M:=[]) (L:=[bx aa 32 [vS none 0 0,vI 0,vI 0,vI 0,vS none 0 0],bx Z 32 [vS (some ⟨V,Y,none⟩) a.ag.length c,vI a.gc.phase,vI a.gc.pos,vI a.gc.round,vS d a.gc.ia.length f],sl (some ⟨V,Y,none⟩) c O,sl d f a.gc.ia]) (vs:=#[vI ah]) (i:=3) lL rfl (by kernel_rfl) rfl rfl af B rfl (fun w G hG=>by cases (show G=[] from hG);exact ⟨rfl,rfl⟩) rfl rfl ?_;intro aV ai aj aZ ap hf;refine go ?_;refine LW.st ap 1 fun a0 y=>?_;refine go ?_;rw [show a.ag.length=O.length from (iH (oi n))] at y;cases oi h;exact ⟨ai,aj,y.po [0,1,2,3]⟩
     refine go ?_;rw [show a.ag.length=O.length from (iH (oi n))] at B;cases oi h;exact ⟨d,f,B.po [0,1,2,3]⟩
   refine go ?_;cases oi h;exact ⟨d,f,A.po [0,1,2,3]⟩
 rintro e a1 ⟨g,j,hE,ab⟩;obtain ⟨e,rfl⟩:=hE.out;have h:=ak;refine go ?_;refine LW.st ab 0 fun a2 z=>?_;refine go ?_;cases h;exact And.intro trivial ⟨_,jB.one (ib.b z 0 rfl pc rfl rfl),k,c,g,j,rfl,z.pk [2,3]⟩
theorem zU {w0 N o r} (h:oC N o=some r) {d g f} (i:g=o.levels.length) (j:rb w0 d f o.levels) :
    il Tryz.prog 145 #[.agg #[vS d g f]] w0 (fun v w=>∃ a c,v=.agg #[vS a r.levels.length c]∧St w0 [] w [sl a c r.levels]):=by
 subst i;unfold oC at h;refine il.fn Tryz.func145 fun e=>?_;have p:=St.start w0;refine go ?_;refine LW.bo p fun y A q=>?_;refine LW.al q fun z B k=>?_;refine gb h fun x t h=>?_;refine LW.cl (l8 t rfl (k.rB j)) ?_;rintro _ C ⟨m,n,rfl,hs⟩;have s:=k.add hs;refine LW.u (iC.build (vs:=[(0,vS m x.length n)]) (cs:=#[vS m x.length n]) rfl (by kernel_rfl)) rfl ?_;refine LW.st s 1 fun G l=>?_;refine go ?_;cases h;exact And.intro trivial ⟨_,jB.one (ib.b l 1 rfl xb rfl rfl),m,n,rfl,l.pk [0]⟩
theorem wS {w0 N a r} (h:oZ N a=some r) {O Y V} (ah:Y=a.ig.length) (K:rb w0 O V a.ig) {R Z W} (ai:Z=a.data.length) (g:rb w0 R W a.data) {U aa X} (aj:aa=a.queue.length) (j:rb w0 U X a.queue) :
    il Tryz.prog 282 #[.agg #[vI a.gen,vI a.kind,vI a.box,vI a.res,vI a.iL,vI a.cd,vI a.wait,vI a.iK,vI a.iM,.bool a.mark,vS O Y V,vS R Z W,vS U aa X]] w0 (fun v w=>∃ z C, ∃ A G, ∃ B H,v=.agg #[vI r.gen,vI r.kind,vI r.box,vI r.res,vI r.iL,vI r.cd,vI r.wait,vI r.iK,vI r.iM,.bool r.mark,vS z r.ig.length C,vS A r.data.length G,vS B r.queue.length H]∧St w0 [] w [sl z C r.ig,sl A G r.data,sl B H r.queue]):=by
 subst ah ai aj;unfold oZ at h;refine il.fn Tryz.func282 fun e=>?_;have aU:=St.start w0;refine go ?_;refine LW.bo aU fun aS bB aV=>?_;refine LW.al aV fun aT bC aW=>?_;refine gs ?_;obtain ⟨ab,aY,aZ⟩:=ob h;refine CW.cut (fun e wb=>∃ (p:Ad) (t:Nat) (q:Ad) (x:Nat) (s:Ad) (y:Nat),En e [(1,.pointer (some ⟨aS,0,none⟩)),(2,.pointer (some ⟨aT,0,none⟩))]∧St w0 [] wb [bx aT 44 [vI 0,vI 0,vI 0,vI 0,vI 0,vI 0,vI 0,vI 0,vI 0,.bool false,vS none 0 0,vS none 0 0,vS none 0 0],bx aS 44 [vI a.gen,vI a.kind,vI a.box,vI a.res,vI a.iL,vI a.cd,vI a.wait,vI a.iK,vI a.iM,.bool a.mark,vS p ab.1.length t,vS q ab.2.1.length x,vS s ab.2.2.length y],sl p t ab.1,sl q x ab.2.1,sl s y ab.2.2]) ?_ ?_
 · have h:=aY;refine CW.draw (by kernel_rfl) ?_;have ad:=aW.drew;refine gb h fun bD ao h=>?_;refine AW.all (rs:=[2,6]) (by kernel_rfl) (by simp) ⟨?_,?_,trivial⟩
   · refine ⟨_,rfl,?_⟩;refine LW.cl (l8 ao rfl (ad.rB K)) ?_;rintro _ a6 ⟨am,an,rfl,hs⟩;have I:=ad.add hs;refine jN (.c (I.ce 2) (.c (I.ce 2) (jW jZ))) ?_;refine AW.u (i:=10) rfl (by kernel_rfl) rfl rfl (iC.fa Cv rfl) ?_;have ⟨bu,ak,h⟩:=ob h;refine AW.all (rs:=[5,6]) (by kernel_rfl) (by simp) ⟨?_,?_,trivial⟩
     · refine ⟨_,rfl,?_⟩;refine LW.cl (l8 ak rfl (I.rB g)) ?_;rintro _ a7 ⟨aE,aL,rfl,hs⟩;have ae:=I.add hs;refine jN (.c (ae.ce 3) (jW (.c (ae.ce 3) jZ))) ?_;refine jO 6 ?_;refine LW.jL (α:=ji) (vs:=[]) (cs:=#[]) (l:=([]:List ji)) rfl (by kernel_rfl) rfl rfl rfl (fun w=>rfl) ae rfl ?_;intro a0 a3 a8 J hf;refine jN (.c (J.ce 4) (.c (J.ce 4) (.c (J.ce 4) jZ))) ?_;have ⟨bv,aA,h⟩:=ob h;refine jO 9 ?_;refine LW.j9 (l:=([]:List ji)) (m:=a.queue) ua rfl rfl (J.rB j) aA J (i:=0) rfl rfl ?_;intro aF aM a9 af hf;refine jN (jW (.c (af.ce 4) (.c (af.ce 4) jZ))) ?_;refine jO 11 ?_;refine LW.st af 4 fun ba aX=>?_;refine jN (jW (jW (jW jZ))) ?_;refine go ?_;refine jO 13 ?_;refine LW.st aX 4 fun bb ap=>?_;refine jN (jW (jW (jW jZ))) ?_;refine go ?_;refine jO 15 ?_;refine LW.st ap 4 fun bc aq=>?_;refine jN (jW (jW (jW jZ))) ?_;refine go ?_;cases oi h;exact ⟨am,an,aE,aL,aF,aM,aq.po [3,4,2,1,0]⟩
     refine ⟨_,rfl,?_⟩;refine LW.jL (α:=ji) (vs:=[]) (cs:=#[]) (l:=([]:List ji)) rfl (by kernel_rfl) rfl rfl rfl (fun w=>rfl) I rfl ?_;intro a1 a4 bd d hf;refine jN (.c (d.ce 3) (.c (d.ce 3) (.c (d.ce 3) jZ))) ?_;refine jO 5 ?_;refine LW.cl (l8 ak rfl (d.rB g)) ?_;rintro _ be ⟨aG,aN,rfl,hs⟩;have k:=d.add hs;refine jN (.c (k.ce 4) (jW (.c (k.ce 4) jZ))) ?_;have ⟨bw,aB,h⟩:=ob h;refine jO 9 ?_;refine LW.j9 (l:=([]:List ji)) (m:=a.queue) ua rfl rfl (k.rB j) aB k (i:=1) rfl rfl ?_;intro aH aO bf L hf;refine jN (jW (.c (L.ce 4) (.c (L.ce 4) jZ))) ?_;refine jO 11 ?_;refine LW.st L 4 fun bg ar=>?_;refine jN (jW (jW (jW jZ))) ?_;refine go ?_;refine jO 13 ?_;refine LW.st ar 4 fun bi au=>?_;refine jN (jW (jW (jW jZ))) ?_;refine go ?_;refine jO 15 ?_;refine LW.st au 4 fun bj av=>?_;refine jN (jW (jW (jW jZ))) ?_;refine go ?_;cases oi h;exact ⟨am,an,aG,aN,aH,aO,av.po [3,4,2,0,1]⟩
   refine ⟨_,rfl,?_⟩;refine LW.jL (α:=ji) (vs:=[]) (cs:=#[]) (l:=([]:List ji)) rfl (by kernel_rfl) rfl rfl rfl (fun w=>rfl) ad rfl ?_;intro a2 a5 bk f hf;refine jN (.c (f.ce 2) (.c (f.ce 2) (.c (f.ce 2) jZ))) ?_;refine jO 2 ?_;refine LW.cl (l8 ao rfl (f.rB K)) ?_;rintro _ bl ⟨aI,aP,rfl,hs⟩;have n:=f.add hs;refine jN (.c (n.ce 3) (.c (n.ce 3) (jW jZ))) ?_;refine AW.u (i:=10) rfl (by kernel_rfl) rfl rfl (iC.fa Cv rfl) ?_;have ⟨bz,aC,h⟩:=ob h;refine jO 5 ?_;refine LW.cl (l8 aC rfl (n.rB g)) ?_;rintro _ bm ⟨aJ,aQ,rfl,hs⟩;have o:=n.add hs;refine jN (.c (o.ce 4) (jW (.c (o.ce 4) jZ))) ?_;have ⟨bA,aD,h⟩:=ob h;refine jO 9 ?_;refine LW.j9 (l:=([]:List ji)) (m:=a.queue) ua rfl rfl (o.rB j) aD o (i:=2) rfl rfl ?_;intro aK aR bn M hf;refine jN (jW (.c (M.ce 4) (.c (M.ce 4) jZ))) ?_;refine jO 11 ?_;refine LW.st M 4 fun bp aw=>?_;refine jN (jW (jW (jW jZ))) ?_;refine go ?_;refine jO 13 ?_;refine LW.st aw 4 fun bq ax=>?_;refine jN (jW (jW (jW jZ))) ?_;refine go ?_;refine jO 15 ?_;refine LW.st ax 4 fun br ay=>?_;refine jN (jW (jW (jW jZ))) ?_;refine go ?_;cases oi h;exact ⟨aI,aP,aJ,aQ,aK,aR,ay.po [3,4,1,0,2]⟩
 rintro e bs ⟨p,t,q,x,s,y,hE,az⟩;obtain ⟨e,rfl⟩:=hE.out;have h:=aZ;refine go ?_;refine LW.st az 0 fun bt ac=>?_;refine go ?_;cases h;exact And.intro trivial ⟨_,jB.one (ib.b ac 0 rfl lI rfl rfl),p,t,q,x,s,y,rfl,ac.pk [2,3,4]⟩
theorem mA {w0 N d r} (h:kN N d=some r) :
    il Tryz.prog 156 #[vI d] w0 (fun v w=>v=.bool r∧St w0 [] w []):=by
 unfold kN at h;refine il.fn Tryz.func156 fun e=>?_;have a:=St.start w0;refine gb h fun g c h=>?_;refine LW.c0 (jd c) a fun f b=>?_;refine go ?_;cases h;exact fi b
theorem mK {w0 N d r} (h:kM N d=some r) :
    il Tryz.prog 221 #[vI d] w0 (fun v w=>v=.bool r∧St w0 [] w []):=by
 unfold kM at h;refine il.fn Tryz.func221 fun e=>?_;have a:=St.start w0;refine gb h fun g c h=>?_;refine LW.c0 (jd c) a fun f b=>?_;refine go ?_;cases h;exact fi b
theorem uV {w0 N d r} (h:ou N d=some r) :
    il Tryz.prog 177 #[vI d] w0 (fun v w=>v=.bool r∧St w0 [] w []):=by
 unfold ou at h;refine il.fn Tryz.func177 fun e=>?_;have a:=St.start w0;refine gb h fun g c h=>?_;refine LW.c0 (jd c) a fun f b=>?_;refine go ?_;cases h;exact fi b
theorem uG {w0 N s r} (h:nN N s=some r) {a f b} (g:f=s.levels.length) (i:rb w0 a b s.levels) :
    il Tryz.prog 150 #[.agg #[vS a f b]] w0 (fun v w=>v=.bool r∧St w0 [] w []):=by
 subst g;unfold nN at h;refine il.fn Tryz.func150 fun e=>?_;have t:=St.start w0;refine go ?_;refine LW.bo t fun R U y=>?_;refine go ?_;obtain ⟨m,p,j⟩:=ob h;refine CW.mono (CW.lx [1,6,7] [0] [1] 0 (fun B=>[(8,vI B)]) (RT Tryz.prog Tryz.f150.results (fun u=>.bool u) w0 []) y p (hb:=?_)) ?_
 · intro B e V o c h;refine gc h ?_ ?_ <;> intro _ h
   · refine gb h fun W A h=>?_;obtain ⟨O,I,C,rfl,d,G,H,rfl,n⟩:=i.idx A;refine go ?_;refine LW.l (iF.iN w0 iY rfl (n 0 _ rfl)) (c.same _ d.1 d.2) rfl ?_;refine gb h fun M q h=>?_;refine LW.c0 (jd q) c fun K k=>?_;refine go ?_;refine CW.fl [1,6,7,8,14] fun e=>?_;refine gc h ?_ ?_ <;> intro _ h
     · refine go ?_;cases oi h;exact ⟨trivial,rfl,_,rfl,rx ⟨rfl,k.pk []⟩⟩
     refine go ?_;cases oi h;exact ⟨rfl,(k.po [0])⟩
   refine go ?_;cases oi h;exact ⟨trivial,rfl,(c.po [0])⟩
 intro x e L hM;rcases m with m | J
 · obtain ⟨rfl,hM⟩:=hM;obtain ⟨e,rfl,z⟩:=eo hM;have h:=j;refine go ?_;cases h;exact fi z
 obtain ⟨rfl,u,rfl,hM⟩:=hM;cases j;exact And.intro trivial hM
end Go.Kx
