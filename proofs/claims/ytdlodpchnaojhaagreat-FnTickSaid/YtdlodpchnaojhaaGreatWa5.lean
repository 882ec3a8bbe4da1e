/- Each call returns what the plain function says. Printed by drive.py. -/
import Derived.Test.YtdlodpchnaojhaaGreatFa
import Derived.Test.YtdlodpchnaojhaaGreatPu
namespace Go.Kx
open Go Go.RowKit Go.Proofs
set_option maxRecDepth 10000
set_option maxHeartbeats 8000000
set_option linter.unusedVariables false
set_option linter.unusedSimpArgs false
theorem ji {w0 N b c d r} (h:je N b c d=some r) :
    iq Tryz.prog 58 #[vI b,vI c,vI d] w0 (fun v w=>v=.bool r∧St w0 [] w []):=by
 unfold je at h;refine iq.fn Tryz.func58 fun e=>?_;have a:=St.start w0;refine gB h ?_ ?_ <;> intro _ h
 · refine go ?_;cases h;exact fi a
 refine go ?_;cases h;exact fi a
theorem Bd {w0 N a r} (h:sL N a=some r) {n u q} (B:u=a.il.length) (H:rb w0 n q a.il) {o x s} (C:x=a.data.length) (I:rb w0 o s a.data) {p y t} (G:y=a.queue.length) (J:rb w0 p t a.queue) :
    iq Tryz.prog 305 #[.agg #[vI a.gen,vI a.kind,vI a.box,vI a.res,vI a.iU,vI a.bh,vI a.wait,vI a.iW,vI a.iR,.bool a.mark,vS n u q,vS o x s,vS p y t]] w0 (fun v w=>∃ c g, ∃ d j, ∃ f k,v=.agg #[vI r.gen,vI r.kind,vI r.box,vI r.res,vI r.iU,vI r.bh,vI r.wait,vI r.iW,vI r.iR,.bool r.mark,vS c r.il.length g,vS d r.data.length j,vS f r.queue.length k]∧St w0 [] w [sl c g r.il,sl d j r.data,sl f k r.queue]):=by
 subst B C G;unfold sL at h;refine iq.fn Tryz.func305 fun e=>?_;have aa:=St.start w0;refine go ?_;refine LW.bo aa fun aE aG ab=>?_;refine LW.al ab fun aF aH ac=>?_;refine go ?_;refine LW.jV (α:=Int) (vs:=[]) (cs:=#[]) (l:=([]:List Int)) rfl (by kernel_rfl) rfl rfl rfl (fun w=>rfl) ac rfl ?_;intro aC aD aI K hf;refine gb h fun aJ ai h=>?_;refine LW.kA (l:=([]:List Int)) (m:=a.il) mT rfl rfl (K.rB H) ai K (i:=0) rfl rfl ?_;intro aj X ap ad hf;refine go ?_;refine LW.st ad 2 fun aq ae=>?_;refine go ?_;refine LW.jV (α:=Int) (vs:=[]) (cs:=#[]) (l:=([]:List Int)) rfl (by kernel_rfl) rfl rfl rfl (fun w=>rfl) ae rfl ?_;intro ak an ar L hf;refine gb h fun aA R h=>?_;refine LW.kA (l:=([]:List Int)) (m:=a.data) mT rfl rfl (L.rB I) R L (i:=0) rfl rfl ?_;intro V Y au af hf;refine go ?_;refine LW.st af 3 fun av ah=>?_;refine go ?_;refine LW.jV (α:=jI) (vs:=[]) (cs:=#[]) (l:=([]:List jI)) rfl (by kernel_rfl) rfl rfl rfl (fun w=>rfl) ah rfl ?_;intro am ao aw z hf;refine gb h fun aB U h=>?_;refine LW.kA (l:=([]:List jI)) (m:=a.queue) vn rfl rfl (z.rB J) U z (i:=0) rfl rfl ?_;intro W Z ax M hf;refine go ?_;refine LW.st M 4 fun ay O=>?_;refine go ?_;refine LW.st O 3 fun az A=>?_;refine go ?_;cases h;exact And.intro trivial ⟨_,jB.one (ic.b A 3 rfl kW rfl rfl),aj,X,V,Y,W,Z,rfl,A.pk [2,1,0]⟩
theorem qd {w0 N p z r} (h:mU N p z=some r) {b f c} (g:f=p.length) (i:rb w0 b c p) :
    iq Tryz.prog 148 #[vS b f c,vI z] w0 (fun v w=>v=.bool r∧St w0 [] w []):=by
 subst g;unfold mU at h;refine iq.fn Tryz.func148 fun e=>?_;have q:=St.start w0;refine go ?_;obtain ⟨k,n,j⟩:=ob h;refine CW.mono (CW.lx [0,1] [] [] 0 (fun y=>[(5,vI y)]) (RT Tryz.prog Tryz.f148.results (fun u=>.bool u) w0 []) q n (hb:=?_)) ?_
 · intro y e K o a h;refine gc h ?_ ?_ <;> intro _ h
   · refine gb h fun L t h=>?_;obtain ⟨I,J,A,rfl,d,B,C,rfl,m⟩:=i.idx t;refine go ?_;refine LW.l (iC.iP w0 jc rfl (m 0 _ rfl)) (a.same _ d.1 d.2) rfl ?_;refine go ?_;refine CW.fl [0,1,5,17] fun e=>?_;refine gc h ?_ ?_ <;> intro _ h
     · refine go ?_;cases oi h;exact ⟨trivial,rfl,_,rfl,rx ⟨rfl,a.pk []⟩⟩
     refine go ?_;cases oi h;exact ⟨rfl,(a.po [])⟩
   refine go ?_;cases oi h;exact ⟨trivial,rfl,⟨trivial,a.pk []⟩⟩
 intro x e H hM;rcases k with k | G
 · obtain ⟨rfl,hM⟩:=hM;obtain ⟨e,rfl,s⟩:=eo hM;rw [show e=iQ e [] from rfl];have h:=j;refine go ?_;cases h;exact fi s
 obtain ⟨rfl,u,rfl,hM⟩:=hM;cases j;exact And.intro trivial hM
theorem nO {w0 N g r} (h:lV N g=some r) {a c b} (d:c=g.length) (f:rb w0 a b g) :
    iq Tryz.prog 236 #[vS a c b] w0 (fun v w=>∃ j k,v=vS j r.length k∧St w0 [] w [sl j k r]):=by
 subst d;unfold lV at h;refine iq.fn Tryz.func236 fun e=>?_;have o:=St.start w0;refine go ?_;refine LW.jV (α:=ir) (vs:=[]) (cs:=#[]) (l:=([]:List ir)) rfl (by kernel_rfl) rfl rfl rfl (fun w=>rfl) o rfl ?_;intro u x y n hf;refine gb h fun A q h=>?_;refine LW.kA (l:=([]:List ir)) (m:=g) Ik rfl rfl (n.rB f) q n (i:=0) rfl rfl ?_;intro s t z p hf;refine go ?_;cases h;exact Ra ⟨s,t,rfl,p.pk [0]⟩
theorem vv {w0 N s r} (h:pP N s=some r) {d m f} (p:m=s.length) (q:rb w0 d f s) :
    iq Tryz.prog 217 #[vS d m f] w0 (fun v w=>v=.agg #[vI r.bh,vI r.ib,vI r.ik]∧St w0 [] w []):=by
 subst p;unfold pP at h;refine iq.fn Tryz.func217 fun e=>?_;have H:=St.start w0;refine go ?_;refine LW.al H fun B ae I=>?_;refine go ?_;refine LW.u (iD.build (vs:=[]) (cs:=#[vI 0,vI 0,vI 0]) rfl (by kernel_rfl)) rfl ?_;refine LW.al I fun C af J=>?_;refine LW.st J 0 fun ah K=>?_;refine go ?_;obtain ⟨Y,A,G⟩:=ob h;refine CW.ie A 0 (fun n e wb=>En e [(0,vS d s.length f),(2,.pointer (some ⟨B,0,none⟩)),(3,.pointer (some ⟨C,0,none⟩)),(4,vI n.1)]∧St w0 [] wb [bx C 43 [vI n.2.1,vI n.2.2.1,vI n.2.2.2],bx B 43 [vI 0,vI 0,vI 0]]) ?_ (K.po [0,1]) ?_
 · intro n e ai o hM h;obtain ⟨hE,g⟩:=hM;obtain ⟨e,rfl⟩:=hE.out;refine gc h ?_ ?_ <;> intro _ h
   · refine gb h fun aj O h=>?_;obtain ⟨W,X,R,rfl,a,U,V,rfl,c⟩:=q.idx O;refine go ?_;refine LW.l (iC.iP w0 qI rfl (c 0 _ rfl)) (g.same _ a.1 a.2) rfl ?_;refine go ?_;refine CW.fl [0,2,3,4,16] fun e=>?_;refine gc h ?_ ?_ <;> intro _ h
     · refine go ?_;refine CW.draw (by kernel_rfl) ?_;have t:=g.drew;refine go ?_;refine AW.take (i:=7) rfl (by kernel_rfl) rfl rfl (iC.iP w0 jc rfl (c 2 _ rfl)) (t.same _ a.1 a.2) ?_;refine go ?_;refine jO 10 ?_;refine LW.st t 0 fun Z L=>?_;refine jN (jW (jW jZ)) ?_;refine go ?_;refine CW.draw (by kernel_rfl) ?_;have x:=L.drew;refine go ?_;refine AW.take (i:=7) rfl (by kernel_rfl) rfl rfl (iC.iP w0 jc rfl (c 3 _ rfl)) (x.same _ a.1 a.2) ?_;refine go ?_;refine jO 10 ?_;refine LW.st x 0 fun aa M=>?_;refine jN (jW (jW jZ)) ?_;refine go ?_;refine CW.draw (by kernel_rfl) ?_;have j:=M.drew;refine go ?_;refine AW.take (i:=7) rfl (by kernel_rfl) rfl rfl (iC.iP w0 jc rfl (c 4 _ rfl)) (j.same _ a.1 a.2) ?_;refine go ?_;refine jO 10 ?_;refine LW.st j 0 fun ab y=>?_;refine jN (jW (jW jZ)) ?_;refine go ?_;cases oi h;exact ⟨rfl,(y.po [0,1])⟩
     refine go ?_;cases oi h;exact ⟨rfl,(g.po [0,1])⟩
   refine go ?_;cases oi h;exact ⟨trivial,rfl,(g.po [0,1])⟩
 rintro e ac ⟨hE,z⟩;obtain ⟨e,rfl⟩:=hE.out;have h:=G;refine go ?_;refine LW.st z 1 fun ad k=>?_;refine go ?_;cases h;exact And.intro trivial ⟨_,jB.one (ic.b k 1 rfl kt rfl rfl),rfl,k.pk []⟩
theorem DK {w0 N b d r} (h:sd N b d=some r) :
    iq Tryz.prog 253 #[.agg #[vI b.bh,vI b.ib,vI b.ik],vI d] w0 (fun v w=>v=vI r∧St w0 [] w []):=by
 unfold sd at h;refine iq.fn Tryz.func253 fun e=>?_;have c:=St.start w0;refine go ?_;refine LW.bo c fun f g a=>?_;refine gc h ?_ ?_ <;> intro _ h
 · refine go ?_;cases h;exact fi a
 refine gc h ?_ ?_ <;> intro _ h
 · refine go ?_;cases h;exact fi a
 refine gc h ?_ ?_ <;> intro _ h
 · refine go ?_;cases h;exact fi a
 refine go ?_;cases h;exact fi a
theorem EV {w0 N k a r} (h:sY N k a=some r) :
    iq Tryz.prog 251 #[vI k,vI a] w0 (fun v w=>v=.agg #[vI r.bh,vI r.ib,vI r.ik]∧St w0 [] w []):=by
 unfold sY at h;refine iq.fn Tryz.func251 fun e=>?_;have j:=St.start w0;refine go ?_;refine LW.al j fun l m c=>?_;refine gc h ?_ ?_ <;> intro _ h
 · refine go ?_;refine LW.u (iD.build (vs:=[(0,vI a)]) (cs:=#[vI a,vI 0,vI 0]) rfl (by kernel_rfl)) rfl ?_;refine LW.st c 0 fun n d=>?_;refine go ?_;cases h;exact And.intro trivial ⟨_,jB.one (ic.b d 0 rfl kt rfl rfl),rfl,d.pk []⟩
 refine gc h ?_ ?_ <;> intro _ h
 · refine go ?_;refine LW.u (iD.build (vs:=[(1,vI a)]) (cs:=#[vI 0,vI a,vI 0]) rfl (by kernel_rfl)) rfl ?_;refine LW.st c 0 fun o f=>?_;refine go ?_;cases h;exact And.intro trivial ⟨_,jB.one (ic.b f 0 rfl kt rfl rfl),rfl,f.pk []⟩
 refine gc h ?_ ?_ <;> intro _ h
 · refine go ?_;refine LW.u (iD.build (vs:=[(2,vI a)]) (cs:=#[vI 0,vI 0,vI a]) rfl (by kernel_rfl)) rfl ?_;refine LW.st c 0 fun p g=>?_;refine go ?_;cases h;exact And.intro trivial ⟨_,jB.one (ic.b g 0 rfl kt rfl rfl),rfl,g.pk []⟩
 refine go ?_;refine LW.u (iD.build (vs:=[]) (cs:=#[vI 0,vI 0,vI 0]) rfl (by kernel_rfl)) rfl ?_;refine LW.st c 0 fun q i=>?_;refine go ?_;cases h;exact And.intro trivial ⟨_,jB.one (ic.b i 0 rfl kt rfl rfl),rfl,i.pk []⟩
theorem rv {w0 N a x r} (h:mi N a x=some r) {b j f} (m:j=a.il.length) (s:rb w0 b f a.il) {c k g} (n:k=a.data.length) (t:rb w0 c g a.data) {d l i} (o:l=a.queue.length) (u:rb w0 d i a.queue) :
    iq Tryz.prog 302 #[.agg #[vI a.gen,vI a.kind,vI a.box,vI a.res,vI a.iU,vI a.bh,vI a.wait,vI a.iW,vI a.iR,.bool a.mark,vS b j f,vS c k g,vS d l i],vI x] w0 (fun v w=>v=.bool r∧St w0 [] w []):=by
 subst m n o;unfold mi at h;refine iq.fn Tryz.func302 fun e=>?_;have q:=St.start w0;refine go ?_;refine LW.bo q fun y z p=>?_;refine gB h ?_ ?_ <;> intro _ h
 · refine go ?_;cases h;exact fi p
 refine go ?_;cases h;exact fi p
theorem jE {w0 N b c d r} (h:jx N b c d=some r) :
    iq Tryz.prog 84 #[vI b,vI c,vI d] w0 (fun v w=>v=.bool r∧St w0 [] w []):=by
 unfold jx at h;refine iq.fn Tryz.func84 fun e=>?_;have a:=St.start w0;refine gB h ?_ ?_ <;> intro _ h
 · refine go ?_;cases h;exact fi a
 refine go ?_;cases h;exact fi a
theorem oM {w0 N a c r} (h:mR N a c=some r) :
    iq Tryz.prog 63 #[.agg #[vI a.bh,vI a.ib,vI a.ik],.agg #[vI c.bh,vI c.ib,vI c.ik]] w0 (fun v w=>v=.agg #[vI r.bh,vI r.ib,vI r.ik]∧St w0 [] w []):=by
 unfold mR at h;refine iq.fn Tryz.func63 fun e=>?_;have f:=St.start w0;refine go ?_;refine LW.bo f fun k n g=>?_;refine LW.bo g fun l o i=>?_;refine LW.al i fun m p j=>?_;refine go ?_;refine LW.u (iD.build (vs:=[(0,vI (IntKind.i64.wrap (a.bh+c.bh))),(1,vI (IntKind.i64.wrap (a.ib+c.ib))),(2,vI (IntKind.i64.wrap (a.ik+c.ik)))]) (cs:=#[vI (IntKind.i64.wrap (a.bh+c.bh)),vI (IntKind.i64.wrap (a.ib+c.ib)),vI (IntKind.i64.wrap (a.ik+c.ik))]) rfl (by kernel_rfl)) rfl ?_;refine LW.st j 0 fun q d=>?_;refine go ?_;cases h;exact And.intro trivial ⟨_,jB.one (ic.b d 0 rfl kt rfl rfl),rfl,d.pk []⟩
theorem mL {w0 N g r} (h:mn N g=some r) {a c b} (d:c=g.length) (f:rb w0 a b g) :
    iq Tryz.prog 198 #[vS a c b] w0 (fun v w=>∃ j k,v=vS j r.length k∧St w0 [] w [sl j k r]):=by
 subst d;unfold mn at h;refine iq.fn Tryz.func198 fun e=>?_;have o:=St.start w0;refine go ?_;refine LW.jV (α:=Int) (vs:=[]) (cs:=#[]) (l:=([]:List Int)) rfl (by kernel_rfl) rfl rfl rfl (fun w=>rfl) o rfl ?_;intro u x y n hf;refine gb h fun A q h=>?_;refine LW.kA (l:=([]:List Int)) (m:=g) mT rfl rfl (n.rB f) q n (i:=0) rfl rfl ?_;intro s t z p hf;refine go ?_;cases h;exact Ra ⟨s,t,rfl,p.pk [0]⟩
theorem wY {w0 N H I r} (h:pb N H I=some r) {b k d} (m:k=H.length) (p:rb w0 b d H) {c l f} (n:l=I.length) (q:rb w0 c f I) :
    iq Tryz.prog 331 #[vS b k d,vS c l f] w0 (fun v w=>v=.bool r∧St w0 [] w []):=by
 subst m n;unfold pb at h;refine iq.fn Tryz.func331 fun e=>?_;have t:=St.start w0;refine gc h ?_ ?_ <;> intro _ h
 · refine go ?_;cases h;exact fi t
 refine go ?_;obtain ⟨z,C,s⟩:=ob h;refine CW.mono (CW.lx [0,1,12] [] [] 0 (fun L=>[(13,vI L)]) (RT Tryz.prog Tryz.f331.results (fun u=>.bool u) w0 []) t C (hb:=?_)) ?_
 · intro L e ae o y h;refine gc h ?_ ?_ <;> intro _ h
   · refine go ?_;refine CW.draw (by kernel_rfl) ?_;have a:=y.drew;refine gb h fun af K h=>?_;obtain ⟨ac,ad,M,rfl,g,W,X,rfl,A⟩:=p.idx K;refine go ?_;refine AW.take (i:=3) rfl (by kernel_rfl) rfl rfl (iC.iP w0 jc rfl (A 0 _ rfl)) (a.same _ g.1 g.2) ?_;refine gb h fun ab G h=>?_;obtain ⟨V,Y,O,rfl,j,R,U,rfl,B⟩:=q.idx G;refine go ?_;refine AW.take (i:=7) rfl (by kernel_rfl) rfl rfl (iC.iP w0 jc rfl (B 0 _ rfl)) (a.same _ j.1 j.2) ?_;refine gc h ?_ ?_ <;> intro _ h
     · refine go ?_;cases oi h;exact ⟨trivial,rfl,_,rfl,rx ⟨rfl,a.pk []⟩⟩
     refine go ?_;cases oi h;exact ⟨rfl,(a.po [])⟩
   refine go ?_;cases oi h;exact ⟨trivial,rfl,⟨trivial,y.pk []⟩⟩
 intro x e aa hM;rcases z with z | Z
 · obtain ⟨rfl,hM⟩:=hM;obtain ⟨e,rfl,J⟩:=eo hM;rw [show e=iQ e [] from rfl];have h:=s;refine go ?_;cases h;exact fi J
 obtain ⟨rfl,u,rfl,hM⟩:=hM;cases s;exact And.intro trivial hM
theorem Bw {w0 N I J r} (h:si N I J=some r) {b l d} (n:l=I.length) (q:rb w0 b d I) {c m f} (p:m=J.length) (s:rb w0 c f J) :
    iq Tryz.prog 332 #[vS b l d,vS c m f] w0 (fun v w=>v=.bool r∧St w0 [] w []):=by
 subst n p;unfold si at h;refine iq.fn Tryz.func332 fun e=>?_;have y:=St.start w0;refine gc h ?_ ?_ <;> intro _ h
 · refine go ?_;cases h;exact fi y
 refine go ?_;obtain ⟨A,G,t⟩:=ob h;refine CW.mono (CW.lx [0,1,12] [] [] 0 (fun M=>[(13,vI M)]) (RT Tryz.prog Tryz.f332.results (fun u=>.bool u) w0 []) y G (hb:=?_)) ?_
 · intro M e ah o z h;refine gc h ?_ ?_ <;> intro _ h
   · refine go ?_;refine CW.draw (by kernel_rfl) ?_;have a:=z.drew;refine gb h fun X L h=>?_;obtain ⟨ae,af,R,rfl,g,Z,aa,rfl,B⟩:=q.idx L;refine go ?_;refine AW.take (i:=3) rfl (by kernel_rfl) rfl rfl (iC.jH w0 wi rfl rfl (fun j u hu=>B j u hu)) (a.same _ g.1 g.2) ?_;refine gb h fun O H h=>?_;obtain ⟨Y,ab,U,rfl,k,V,W,rfl,C⟩:=s.idx H;refine go ?_;refine AW.take (i:=7) rfl (by kernel_rfl) rfl rfl (iC.jH w0 wi rfl rfl (fun j u hu=>C j u hu)) (a.same _ k.1 k.2) ?_;refine AW.u (i:=8) rfl (by kernel_rfl) rfl rfl (iD.CN IP rfl rfl (fun w=>Ix X O w)) ?_;refine gc h ?_ ?_ <;> intro _ h
     · refine go ?_;cases oi h;exact ⟨trivial,rfl,_,rfl,rx ⟨rfl,a.pk []⟩⟩
     refine go ?_;cases oi h;exact ⟨rfl,(a.po [])⟩
   refine go ?_;cases oi h;exact ⟨trivial,rfl,⟨trivial,z.pk []⟩⟩
 intro x e ad hM;rcases A with A | ac
 · obtain ⟨rfl,hM⟩:=hM;obtain ⟨e,rfl,K⟩:=eo hM;rw [show e=iQ e [] from rfl];have h:=t;refine go ?_;cases h;exact fi K
 obtain ⟨rfl,u,rfl,hM⟩:=hM;cases t;exact And.intro trivial hM
theorem Bv {w0 N p z r} (h:o7 N p z=some r) {b f c} (g:f=p.length) (i:rb w0 b c p) :
    iq Tryz.prog 224 #[vS b f c,vI z] w0 (fun v w=>v=vI r∧St w0 [] w []):=by
 subst g;unfold o7 at h;refine iq.fn Tryz.func224 fun e=>?_;have q:=St.start w0;refine go ?_;obtain ⟨k,n,j⟩:=ob h;refine CW.mono (CW.lx [0,1,7] [] [] 0 (fun y=>[(8,vI y)]) (RT Tryz.prog Tryz.f224.results (fun u=>vI u) w0 []) q n (hb:=?_)) ?_
 · intro y e K o a h;refine gc h ?_ ?_ <;> intro _ h
   · refine gb h fun L t h=>?_;obtain ⟨I,J,A,rfl,d,B,C,rfl,m⟩:=i.idx t;refine go ?_;refine LW.l (iC.iP w0 jc rfl (m 0 _ rfl)) (a.same _ d.1 d.2) rfl ?_;refine go ?_;refine CW.fl [0,1,5,7,8,16] fun e=>?_;refine gc h ?_ ?_ <;> intro _ h
     · refine go ?_;cases oi h;exact ⟨trivial,rfl,_,rfl,rx ⟨rfl,a.pk []⟩⟩
     refine go ?_;cases oi h;exact ⟨rfl,(a.po [])⟩
   refine go ?_;cases oi h;exact ⟨trivial,rfl,⟨trivial,a.pk []⟩⟩
 intro x e H hM;rcases k with k | G
 · obtain ⟨rfl,hM⟩:=hM;obtain ⟨e,rfl,s⟩:=eo hM;rw [show e=iQ e [] from rfl];have h:=j;refine go ?_;cases h;exact fi s
 obtain ⟨rfl,u,rfl,hM⟩:=hM;cases j;exact And.intro trivial hM
theorem sR {w0 N g r} (h:mM N g=some r) {a c b} (d:c=g.length) (f:rb w0 a b g) :
    iq Tryz.prog 199 #[vS a c b] w0 (fun v w=>∃ j k,v=vS j r.length k∧St w0 [] w [sl j k r]):=by
 subst d;unfold mM at h;refine iq.fn Tryz.func199 fun e=>?_;have o:=St.start w0;refine go ?_;refine LW.jV (α:=ir) (vs:=[]) (cs:=#[]) (l:=([]:List ir)) rfl (by kernel_rfl) rfl rfl rfl (fun w=>rfl) o rfl ?_;intro u x y n hf;refine gb h fun A q h=>?_;refine LW.kA (l:=([]:List ir)) (m:=g) Ik rfl rfl (n.rB f) q n (i:=0) rfl rfl ?_;intro s t z p hf;refine go ?_;cases h;exact Ra ⟨s,t,rfl,p.pk [0]⟩
theorem C9 {w0 N b d r} (h:sb N b d=some r) :
    iq Tryz.prog 289 #[.agg #[vI b.bh,vI b.ib,vI b.ik],vI d] w0 (fun v w=>v=vI r∧St w0 [] w []):=by
 unfold sb at h;refine iq.fn Tryz.func289 fun e=>?_;have c:=St.start w0;refine go ?_;refine LW.bo c fun f g a=>?_;refine gc h ?_ ?_ <;> intro _ h
 · refine go ?_;cases h;exact fi a
 refine gc h ?_ ?_ <;> intro _ h
 · refine go ?_;cases h;exact fi a
 refine gc h ?_ ?_ <;> intro _ h
 · refine go ?_;cases h;exact fi a
 refine go ?_;cases h;exact fi a
theorem uF {w0 N k a r} (h:n4 N k a=some r) :
    iq Tryz.prog 120 #[vI k,vI a] w0 (fun v w=>v=.agg #[vI r.bh,vI r.ib,vI r.ik]∧St w0 [] w []):=by
 unfold n4 at h;refine iq.fn Tryz.func120 fun e=>?_;have j:=St.start w0;refine go ?_;refine LW.al j fun l m c=>?_;refine gc h ?_ ?_ <;> intro _ h
 · refine go ?_;refine LW.u (iD.build (vs:=[(0,vI a)]) (cs:=#[vI a,vI 0,vI 0]) rfl (by kernel_rfl)) rfl ?_;refine LW.st c 0 fun n d=>?_;refine go ?_;cases h;exact And.intro trivial ⟨_,jB.one (ic.b d 0 rfl kt rfl rfl),rfl,d.pk []⟩
 refine gc h ?_ ?_ <;> intro _ h
 · refine go ?_;refine LW.u (iD.build (vs:=[(1,vI a)]) (cs:=#[vI 0,vI a,vI 0]) rfl (by kernel_rfl)) rfl ?_;refine LW.st c 0 fun o f=>?_;refine go ?_;cases h;exact And.intro trivial ⟨_,jB.one (ic.b f 0 rfl kt rfl rfl),rfl,f.pk []⟩
 refine gc h ?_ ?_ <;> intro _ h
 · refine go ?_;refine LW.u (iD.build (vs:=[(2,vI a)]) (cs:=#[vI 0,vI 0,vI a]) rfl (by kernel_rfl)) rfl ?_;refine LW.st c 0 fun p g=>?_;refine go ?_;cases h;exact And.intro trivial ⟨_,jB.one (ic.b g 0 rfl kt rfl rfl),rfl,g.pk []⟩
 refine go ?_;refine LW.u (iD.build (vs:=[]) (cs:=#[vI 0,vI 0,vI 0]) rfl (by kernel_rfl)) rfl ?_;refine LW.st c 0 fun q i=>?_;refine go ?_;cases h;exact And.intro trivial ⟨_,jB.one (ic.b i 0 rfl kt rfl rfl),rfl,i.pk []⟩
theorem tT {w0 N a x r} (h:mF N a x=some r) {b j f} (m:j=a.il.length) (s:rb w0 b f a.il) {c k g} (n:k=a.data.length) (t:rb w0 c g a.data) {d l i} (o:l=a.queue.length) (u:rb w0 d i a.queue) :
    iq Tryz.prog 212 #[.agg #[vI a.gen,vI a.kind,vI a.box,vI a.res,vI a.iU,vI a.bh,vI a.wait,vI a.iW,vI a.iR,.bool a.mark,vS b j f,vS c k g,vS d l i],vI x] w0 (fun v w=>v=.bool r∧St w0 [] w []):=by
 subst m n o;unfold mF at h;refine iq.fn Tryz.func212 fun e=>?_;have q:=St.start w0;refine go ?_;refine LW.bo q fun y z p=>?_;refine gB h ?_ ?_ <;> intro _ h
 · refine go ?_;cases h;exact fi p
 refine go ?_;cases h;exact fi p
theorem vG {w0 N t r} (h:od N t=some r) {a f b} (g:f=t.levels.length) (i:rb w0 a b t.levels) :
    iq Tryz.prog 125 #[.agg #[vS a f b]] w0 (fun v w=>v=.bool r∧St w0 [] w []):=by
 subst g;unfold od at h;refine iq.fn Tryz.func125 fun e=>?_;have y:=St.start w0;refine go ?_;refine LW.bo y fun R U k=>?_;refine gc h ?_ ?_ <;> intro _ h
 · refine go ?_;cases h;exact fi k
 refine go ?_;obtain ⟨n,q,j⟩:=ob h;refine CW.mono (CW.lx [1] [0] [] 0 (fun B=>[(3,vI B)]) (RT Tryz.prog Tryz.f125.results (fun u=>.bool u) w0 []) k q (hb:=?_)) ?_
 · intro B e V o c h;refine gc h ?_ ?_ <;> intro _ h
   · refine gb h fun W A h=>?_;obtain ⟨G,J,C,rfl,d,H,I,rfl,p⟩:=i.idx A;refine go ?_;refine LW.l (iC.iP w0 jc rfl (p 0 _ rfl)) (c.same _ d.1 d.2) rfl ?_;have ⟨O,s,h⟩:=ob h;refine LW.c0 (ji s) c fun L m=>?_;refine go ?_;refine CW.fl [1,3,21] fun e=>?_;refine gc h ?_ ?_ <;> intro _ h
     · refine go ?_;cases oi h;exact ⟨trivial,rfl,_,rfl,rx ⟨rfl,m.pk []⟩⟩
     refine go ?_;cases oi h;exact ⟨rfl,(m.po [0])⟩
   refine go ?_;cases oi h;exact ⟨trivial,rfl,⟨trivial,c.pk [0]⟩⟩
 intro x e M hM;rcases n with n | K
 · obtain ⟨rfl,hM⟩:=hM;obtain ⟨e,rfl,z⟩:=eo hM;rw [show e=iQ e [] from rfl];have h:=j;refine go ?_;cases h;exact fi z
 obtain ⟨rfl,u,rfl,hM⟩:=hM;cases j;exact And.intro trivial hM
theorem xK {w0 N G r} (h:qc N G=some r) {d m f} (n:m=G.length) (c:rb w0 d f G) :
    iq Tryz.prog 126 #[vS d m f] w0 (fun v w=>v=.bool r∧St w0 [] w []):=by
 subst n;unfold qc at h;refine iq.fn Tryz.func126 fun e=>?_;have H:=St.start w0;refine go ?_;obtain ⟨t,A,p⟩:=ob h;refine CW.mono (CW.lx [0] [] [] 0 (fun L=>[(3,vI L)]) (RT Tryz.prog Tryz.f126.results (fun u=>.bool u) w0 []) H A (hb:=?_)) ?_
 · intro L e ak o g h;refine gc h ?_ ?_ <;> intro _ h
   · refine gs ?_;refine CW.block ?_;refine gs ?_;obtain ⟨W,J,R⟩:=ob h;refine CW.jn [0,3] [] [(31,.bool W)] g (h1:=?_) (h2:=?_)
     · have h:=J;refine CW.draw (by kernel_rfl) ?_;have q:=g.drew;refine gb h fun am K h=>?_;obtain ⟨aj,aa,M,rfl,a,Y,Z,rfl,l⟩:=c.idx K;refine go ?_;refine AW.take (i:=3) rfl (by kernel_rfl) rfl rfl (iC.iP w0 jc rfl (l 0 _ rfl)) (q.same _ a.1 a.2) ?_;have ⟨ah,B,h⟩:=ob h;refine jO 4 ?_;refine LW.cl (ji B) ?_;rintro _ ad ⟨rfl,hs⟩;have b:=q.add hs;refine jn ?_;refine gB h ?_ ?_ <;> intro _ h
       · refine go ?_;cases oi h;exact b.po []
       refine gB h ?_ ?_ <;> intro k h
       · refine go ?_;refine AW.take (i:=13) rfl (by kernel_rfl) (jP rfl rfl k) rfl (iC.iP w0 jc rfl (l 0 _ rfl)) (b.same _ a.1 a.2) ?_;refine gb h fun ai C h=>?_;obtain ⟨X,ab,O,hae,j,U,V,y,z⟩:=c.idx C;cases hae;obtain rfl:=y;refine go ?_;refine AW.take (i:=18) rfl (by kernel_rfl) (jP rfl rfl k) rfl (iC.iP w0 jc rfl (z 0 _ rfl)) (b.same _ j.1 j.2) ?_;refine go ?_;cases oi h;exact b.po []
       refine go ?_;cases oi h;exact b.po []
     intro e ae s;have h:=R;refine gc h ?_ ?_ <;> intro _ h
     · refine go ?_;cases oi h;exact ⟨trivial,rfl,_,rfl,rx ⟨rfl,s.pk []⟩⟩
     refine go ?_;cases oi h;exact ⟨rfl,(s.po [])⟩
   refine go ?_;cases oi h;exact ⟨trivial,rfl,⟨trivial,g.pk []⟩⟩
 intro x e af hM;rcases t with t | ac
 · obtain ⟨rfl,hM⟩:=hM;obtain ⟨e,rfl,I⟩:=eo hM;rw [show e=iQ e [] from rfl];have h:=p;refine go ?_;cases h;exact fi I
 obtain ⟨rfl,u,rfl,hM⟩:=hM;cases p;exact And.intro trivial hM
theorem wR {w0 N d r} (h:pW N d=some r) :
    iq Tryz.prog 130 #[vI d] w0 (fun v w=>v=.bool r∧St w0 [] w []):=by
 unfold pW at h;refine iq.fn Tryz.func130 fun e=>?_;have a:=St.start w0;refine gb h fun g c h=>?_;refine LW.c0 (ji c) a fun f b=>?_;refine go ?_;cases h;exact fi b
theorem uH {w0 N B r} (h:nU N B=some r) {f y g} (z:y=B.length) (A:rb w0 f g B) :
    iq Tryz.prog 301 #[vS f y g] w0 (fun v w=>∃ C H,v=vS C r.length H∧St w0 [] w [sl C H r]):=by
 subst z;unfold nU at h;refine iq.fn Tryz.func301 fun e=>?_;have Z:=St.start w0;refine go ?_;refine LW.jV (α:=cd) (vs:=[]) (cs:=#[]) (l:=([]:List cd)) rfl (by kernel_rfl) rfl rfl rfl (fun w=>rfl) Z rfl ?_;intro ah ai aD aa hf;refine go ?_;obtain ⟨ax,J,Y⟩:=ob h;refine CW.ie J 0 (fun t e wb=>∃ (b:Ad) (c:Nat),En e [(0,vS f B.length g),(3,vS b t.1.length c),(4,vI t.2)]∧St w0 [] wb [sl b c t.1]) ?_ ⟨ah,ai,aa.po [0]⟩ ?_
 · intro t e aE o hM h;obtain ⟨b,c,hE,d⟩:=hM;obtain ⟨e,rfl⟩:=hE.out;refine gc h ?_ ?_ <;> intro _ h
   · refine gb h fun aF af h=>?_;obtain ⟨ao,aw,aj,rfl,x,au,av,⟨ak,ap,am,aq,an,ar,rfl,K,O,R⟩,I⟩:=A.idx af;refine go ?_;refine LW.l (iC.jH w0 kW rfl rfl (fun j u hu=>I j u hu)) (d.same _ x.1 x.2) rfl ?_;have ⟨a,U,h⟩:=ob h;refine LW.cl (Bd U rfl (d.rB K) rfl (d.rB O) rfl (d.rB R)) ?_;rintro _ az ⟨k,p,m,q,n,s,rfl,hs⟩;have ab:=d.add hs;have ac:=ab.pk (M:=[sl k p a.il,sl m q a.data,sl n s a.queue]++[sl b c t.1]) [0,1,2,3];have ⟨aC,V,h⟩:=ob h;refine LW.lj (M:=[sl k p a.il,sl m q a.data,sl n s a.queue]) (L:=[sl b c t.1]) (vs:=#[vI a.gen,vI a.kind,vI a.box,vI a.res,vI a.iU,vI a.bh,vI a.wait,vI a.iW,vI a.iR,.bool a.mark,vS k a.il.length p,vS m a.data.length q,vS n a.queue.length s]) (i:=0) HI rfl (by kernel_rfl) rfl rfl V ac rfl (fun w G hG=>⟨k,p,m,q,n,s,rfl,hG⟩) rfl rfl ?_;intro ay W X aA ad hf;refine go ?_;cases oi h;exact ⟨rfl,⟨W,X,ad.po [0]⟩⟩
   refine go ?_;cases oi h;exact ⟨trivial,rfl,⟨b,c,d.po [0]⟩⟩
 rintro e aB ⟨b,c,hE,ae⟩;obtain ⟨e,rfl⟩:=hE.out;have h:=Y;refine go ?_;cases h;exact Ra ⟨b,c,rfl,ae.pk [0]⟩
theorem nW {w0 N d r} (h:ma N d=some r) :
    iq Tryz.prog 216 #[vI d] w0 (fun v w=>v=.bool r∧St w0 [] w []):=by
 unfold ma at h;refine iq.fn Tryz.func216 fun e=>?_;have a:=St.start w0;refine gb h fun g c h=>?_;refine LW.c0 (ji c) a fun f b=>?_;refine go ?_;cases h;exact fi b
theorem mK {w0 N d r} (h:kZ N d=some r) :
    iq Tryz.prog 239 #[vI d] w0 (fun v w=>v=.bool r∧St w0 [] w []):=by
 unfold kZ at h;refine iq.fn Tryz.func239 fun e=>?_;have a:=St.start w0;refine gb h fun g c h=>?_;refine LW.c0 (ji c) a fun f b=>?_;refine go ?_;cases h;exact fi b
theorem nQ {w0 N d r} (h:lY N d=some r) :
    iq Tryz.prog 97 #[vI d] w0 (fun v w=>v=.bool r∧St w0 [] w []):=by
 unfold lY at h;refine iq.fn Tryz.func97 fun e=>?_;have a:=St.start w0;refine gb h fun g c h=>?_;refine LW.c0 (ji c) a fun f b=>?_;refine go ?_;cases h;exact fi b
theorem xD {w0} {F:List Nat} {N a ah r} (h:oJ N a ah=some r) {k J c} (R:J=a.ag.length) {d K f} (U:K=a.gc.ia.length) (hS:St w0 F w0 [sl k c a.ag,sl d f a.gc.ia]) :
    iq Tryz.prog 306 #[.agg #[vS k J c,vI a.gc.phase,vI a.gc.pos,vI a.gc.round,vS d K f],vI ah] w0 (fun v w=>∃ o q, ∃ p s,v=.agg #[vS o r.ag.length q,vI r.gc.phase,vI r.gc.pos,vI r.gc.round,vS p r.gc.ia.length s]∧St w0 F w [sl o q r.ag,sl p s r.gc.ia]):=by
 subst R U;unfold oJ at h;refine iq.fn Tryz.func306 fun e=>?_;refine go ?_;refine LW.bo hS fun Z a6 am=>?_;refine LW.al am fun aa ar t=>?_;refine gs ?_;obtain ⟨aC,aq,av⟩:=ob h;refine CW.jn [1,2,4] [0,1,2,3] [(26,.bool aC)] t (h1:=?_) (h2:=?_)
 · have h:=aq;refine gB h ?_ ?_ <;> intro _ h
   · refine gb h fun a7 X h=>?_;obtain ⟨aN,aT,hae,aS,ax⟩:=t.iJ (α:=cd) (i:=2) rfl X;subst hae;refine go ?_;obtain ⟨aJ,m,u⟩:=t.freeze (α:=cd) 2 rfl;obtain ⟨aO,aU,au,hae,C,_,_,ac,H⟩:=m.kr.idx X;cases hae;obtain ⟨aK,aP,aL,aQ,aM,aR,rfl,az,aA,aB⟩:=ac;refine go ?_;refine LW.l (iC.iP ar jc rfl (H 1 _ rfl)) (u.zC 2 rfl C) rfl ?_;refine gB h ?_ ?_ <;> intro _ h
     · refine go ?_;refine LW.l (iC.iP ar qI rfl (H 9 _ rfl)) (u.zC 2 rfl C) rfl ?_;refine go ?_;have an:=u.jj (α:=cd) 2 rfl m;cases oi h;exact an.po [0,1,2,3]
     refine go ?_;have ao:=u.jj (α:=cd) 2 rfl m;cases oi h;exact ao.po [0,1,2,3]
   refine go ?_;cases oi h;exact t.po [0,1,2,3]
 intro e aW A;have h:=av;refine gs ?_;obtain ⟨x,ad,ak⟩:=ob h;refine CW.cut (fun e wb=>∃ (g:Ad) (j:Nat),En e [(2,.pointer (some ⟨Z,0,none⟩)),(4,.pointer (some ⟨aa,0,none⟩))]∧St w0 F wb [bx aa 40 [vS none 0 0,vI 0,vI 0,vI 0,vS none 0 0],bx Z 40 [vS k x.1.length c,vI a.gc.phase,vI a.gc.pos,vI a.gc.round,vS g x.2.length j],sl k c x.1,sl g j x.2]) ?_ ?_
 · have h:=ad;refine gc h ?_ ?_ <;> intro _ h
   · refine gb h fun a3 I h=>?_;obtain ⟨V,Y,hae,aw,ay⟩:=A.iJ (α:=cd) (i:=2) rfl I;subst hae;refine go ?_;refine gb h fun O n h=>?_;refine LW.se 9 A 2 I n (hM:=(kq (fun w cs F hF=>by obtain ⟨aD,aG,aE,aH,aF,aI,rfl,hH⟩:=hF;exact ⟨aD,aG,aE,aH,aF,aI,rfl,hH⟩))) fun aX W=>?_;refine gb h fun a4 ae h=>?_;refine LW.c0 (qd ae rfl (W.rI 3 rfl)) W fun aY B=>?_;refine go ?_;refine CW.fl [1,2,4,37] fun e=>?_;refine gc h ?_ ?_ <;> intro _ h
     · refine gb h fun a5 af h=>?_;refine LW.lj (M:=[]) (L:=[bx aa 40 [vS none 0 0,vI 0,vI 0,vI 0,vS none 0 0],bx Z 40 [vS (some ⟨V,Y,none⟩) a.ag.length c,vI a.gc.phase,vI a.gc.pos,vI a.gc.round,vS d a.gc.ia.length f],sl (some ⟨V,Y,none⟩) c O,sl d f a.gc.ia]) (vs:=#[vI ah]) (i:=3) mT rfl (by kernel_rfl) rfl rfl af B rfl (fun w G hG=>by cases (show G=[] from hG);exact ⟨rfl,rfl⟩) rfl rfl ?_;intro aV ai aj aZ ap hf;refine go ?_;refine LW.st ap 1 fun a0 y=>?_;refine go ?_;rw [show a.ag.length=O.length from (iM (oi n))] at y;cases oi h;exact ⟨ai,aj,y.po [0,1,2,3]⟩
     refine go ?_;rw [show a.ag.length=O.length from (iM (oi n))] at B;cases oi h;exact ⟨d,f,B.po [0,1,2,3]⟩
   refine go ?_;cases oi h;exact ⟨d,f,A.po [0,1,2,3]⟩
 rintro e a1 ⟨g,j,hE,ab⟩;obtain ⟨e,rfl⟩:=hE.out;have h:=ak;refine go ?_;refine LW.st ab 0 fun a2 z=>?_;refine go ?_;cases h;exact And.intro trivial ⟨_,jB.one (ic.b z 0 rfl nD rfl rfl),k,c,g,j,rfl,z.pk [2,3]⟩
theorem u6 {w0 N d r} (h:nt N d=some r) :
    iq Tryz.prog 203 #[vI d] w0 (fun v w=>v=.bool r∧St w0 [] w []):=by
 unfold nt at h;refine iq.fn Tryz.func203 fun e=>?_;have a:=St.start w0;refine gb h fun g c h=>?_;refine LW.c0 (jE c) a fun f b=>?_;refine go ?_;cases h;exact fi b
theorem Dl {w0 N s r} (h:rM N s=some r) {a f b} (g:f=s.levels.length) (i:rb w0 a b s.levels) :
    iq Tryz.prog 185 #[.agg #[vS a f b]] w0 (fun v w=>v=.bool r∧St w0 [] w []):=by
 subst g;unfold rM at h;refine iq.fn Tryz.func185 fun e=>?_;have t:=St.start w0;refine go ?_;refine LW.bo t fun R U y=>?_;refine go ?_;obtain ⟨m,p,j⟩:=ob h;refine CW.mono (CW.lx [1,6,7] [0] [1] 0 (fun B=>[(8,vI B)]) (RT Tryz.prog Tryz.f185.results (fun u=>.bool u) w0 []) y p (hb:=?_)) ?_
 · intro B e V o c h;refine gc h ?_ ?_ <;> intro _ h
   · refine gb h fun W A h=>?_;obtain ⟨O,I,C,rfl,d,G,H,rfl,n⟩:=i.idx A;refine go ?_;refine LW.l (iC.iP w0 jc rfl (n 0 _ rfl)) (c.same _ d.1 d.2) rfl ?_;refine gb h fun M q h=>?_;refine LW.c0 (jE q) c fun K k=>?_;refine go ?_;refine CW.fl [1,6,7,8,14] fun e=>?_;refine gc h ?_ ?_ <;> intro _ h
     · refine go ?_;cases oi h;exact ⟨trivial,rfl,_,rfl,rx ⟨rfl,k.pk []⟩⟩
     refine go ?_;cases oi h;exact ⟨rfl,(k.po [0])⟩
   refine go ?_;cases oi h;exact ⟨trivial,rfl,(c.po [0])⟩
 intro x e L hM;rcases m with m | J
 · obtain ⟨rfl,hM⟩:=hM;obtain ⟨e,rfl,z⟩:=eo hM;have h:=j;refine go ?_;cases h;exact fi z
 obtain ⟨rfl,u,rfl,hM⟩:=hM;cases j;exact And.intro trivial hM
theorem GF {w0 N C r} (h:uh N C=some r) {d j f} (k:j=C.length) (c:rb w0 d f C) :
    iq Tryz.prog 186 #[vS d j f] w0 (fun v w=>v=.bool r∧St w0 [] w []):=by
 subst k;unfold uh at h;refine iq.fn Tryz.func186 fun e=>?_;have H:=St.start w0;refine go ?_;obtain ⟨p,z,m⟩:=ob h;refine CW.mono (CW.lx [0,5,6] [] [] 0 (fun L=>[(7,vI L)]) (RT Tryz.prog Tryz.f186.results (fun u=>.bool u) w0 []) H z (hb:=?_)) ?_
 · intro L e ai o a h;refine gc h ?_ ?_ <;> intro _ h
   · refine gb h fun aj J h=>?_;obtain ⟨af,ah,V,rfl,g,W,X,rfl,t⟩:=c.idx J;refine go ?_;refine LW.l (iC.iP w0 jc rfl (t 0 _ rfl)) (a.same _ g.1 g.2) rfl ?_;refine gs ?_;obtain ⟨K,s,G⟩:=ob h;refine CW.jn [0,5,6,7] [] [(27,.bool K)] a (h1:=?_) (h2:=?_)
     · have h:=s;refine gb h fun ad A h=>?_;refine LW.c0 (jE A) a fun aa b=>?_;refine gB h ?_ ?_ <;> intro _ h
       · refine go ?_;cases oi h;exact b.po []
       refine gB h ?_ ?_ <;> intro _ h
       · refine gb h fun ae B h=>?_;obtain ⟨U,Y,M,hae,i,O,R,q,y⟩:=c.idx B;cases hae;obtain rfl:=q;refine go ?_;refine LW.l (iC.iP w0 jc rfl (y 0 _ rfl)) (b.same _ i.1 i.2) rfl ?_;refine go ?_;cases oi h;exact b.po []
       refine go ?_;cases oi h;exact b.po []
     intro e ab n;have h:=G;refine gc h ?_ ?_ <;> intro _ h
     · refine go ?_;cases oi h;exact ⟨trivial,rfl,_,rfl,rx ⟨rfl,n.pk []⟩⟩
     refine go ?_;cases oi h;exact ⟨rfl,(n.po [])⟩
   refine go ?_;cases oi h;exact ⟨trivial,rfl,⟨trivial,a.pk []⟩⟩
 intro x e ac hM;rcases p with p | Z
 · obtain ⟨rfl,hM⟩:=hM;obtain ⟨e,rfl,I⟩:=eo hM;rw [show e=iQ e [] from rfl];have h:=m;refine go ?_;cases h;exact fi I
 obtain ⟨rfl,u,rfl,hM⟩:=hM;cases m;exact And.intro trivial hM
theorem tS {w0 N d r} (h:ng N d=some r) :
    iq Tryz.prog 227 #[vI d] w0 (fun v w=>v=.bool r∧St w0 [] w []):=by
 unfold ng at h;refine iq.fn Tryz.func227 fun e=>?_;have a:=St.start w0;refine gb h fun g c h=>?_;refine LW.c0 (jE c) a fun f b=>?_;refine go ?_;cases h;exact fi b
end Go.Kx
