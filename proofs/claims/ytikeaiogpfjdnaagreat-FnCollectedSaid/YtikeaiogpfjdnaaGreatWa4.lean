/- Each call returns what the plain function says. Printed by drive.py. -/
import Derived.Test.YtikeaiogpfjdnaaGreatFa
import Derived.Test.YtikeaiogpfjdnaaGreatPu
namespace Go.Kx
open Go Go.RowKit Go.Proofs
set_option maxRecDepth 10000
set_option maxHeartbeats 8000000
set_option linter.unusedVariables false
set_option linter.unusedSimpArgs false
theorem mH {w0 N g r} (h:kN N g=some r) {a c b} (d:c=g.length) (f:rb w0 a b g) :
    iA Tryz.prog 170 #[vS a c b] w0 (fun v w=>∃ j k,v=vS j r.length k∧St w0 [] w [sl j k r]):=by
 subst d;unfold kN at h;refine iA.fn Tryz.func170 fun e=>?_;have o:=St.start w0;refine go ?_;refine LW.jU (α:=iq) (vs:=[]) (cs:=#[]) (l:=([]:List iq)) rfl (by kernel_rfl) rfl rfl rfl (fun w=>rfl) o rfl ?_;intro u x y n hf;refine gb h fun A q h=>?_;refine LW.kl (l:=([]:List iq)) (m:=g) Dw rfl rfl (n.rB f) q n (i:=0) rfl rfl ?_;intro s t z p hf;refine go ?_;cases h;exact Ra ⟨s,t,rfl,p.pk [0]⟩
theorem xR {w0 N a r} (h:qe N a=some r) {n u q} (B:u=a.ib.length) (H:rb w0 n q a.ib) {o x s} (C:x=a.data.length) (I:rb w0 o s a.data) {p y t} (G:y=a.queue.length) (J:rb w0 p t a.queue) :
    iA Tryz.prog 280 #[.agg #[vI a.gen,vI a.kind,vI a.box,vI a.res,vI a.iN,vI a.cd,vI a.wait,vI a.iO,vI a.iP,.bool a.mark,vS n u q,vS o x s,vS p y t]] w0 (fun v w=>∃ c g, ∃ d j, ∃ f k,v=.agg #[vI r.gen,vI r.kind,vI r.box,vI r.res,vI r.iN,vI r.cd,vI r.wait,vI r.iO,vI r.iP,.bool r.mark,vS c r.ib.length g,vS d r.data.length j,vS f r.queue.length k]∧St w0 [] w [sl c g r.ib,sl d j r.data,sl f k r.queue]):=by
 subst B C G;unfold qe at h;refine iA.fn Tryz.func280 fun e=>?_;have aa:=St.start w0;refine go ?_;refine LW.bo aa fun aE aG ab=>?_;refine LW.al ab fun aF aH ac=>?_;refine go ?_;refine LW.jU (α:=Int) (vs:=[]) (cs:=#[]) (l:=([]:List Int)) rfl (by kernel_rfl) rfl rfl rfl (fun w=>rfl) ac rfl ?_;intro aC aD aI K hf;refine gb h fun aJ ai h=>?_;refine LW.kl (l:=([]:List Int)) (m:=a.ib) mu rfl rfl (K.rB H) ai K (i:=0) rfl rfl ?_;intro aj X ap ad hf;refine go ?_;refine LW.st ad 2 fun aq ae=>?_;refine go ?_;refine LW.jU (α:=Int) (vs:=[]) (cs:=#[]) (l:=([]:List Int)) rfl (by kernel_rfl) rfl rfl rfl (fun w=>rfl) ae rfl ?_;intro ak an ar L hf;refine gb h fun aA R h=>?_;refine LW.kl (l:=([]:List Int)) (m:=a.data) mu rfl rfl (L.rB I) R L (i:=0) rfl rfl ?_;intro V Y au af hf;refine go ?_;refine LW.st af 3 fun av ah=>?_;refine go ?_;refine LW.jU (α:=jq) (vs:=[]) (cs:=#[]) (l:=([]:List jq)) rfl (by kernel_rfl) rfl rfl rfl (fun w=>rfl) ah rfl ?_;intro am ao aw z hf;refine gb h fun aB U h=>?_;refine LW.kl (l:=([]:List jq)) (m:=a.queue) ve rfl rfl (z.rB J) U z (i:=0) rfl rfl ?_;intro W Z ax M hf;refine go ?_;refine LW.st M 4 fun ay O=>?_;refine go ?_;refine LW.st O 3 fun az A=>?_;refine go ?_;cases h;exact And.intro trivial ⟨_,jB.one (ig.b A 3 rfl lA rfl rfl),aj,X,V,Y,W,Z,rfl,A.pk [2,1,0]⟩
theorem ja {w0 N b c d r} (h:iX N b c d=some r) :
    iA Tryz.prog 80 #[vI b,vI c,vI d] w0 (fun v w=>v=.bool r∧St w0 [] w []):=by
 unfold iX at h;refine iA.fn Tryz.func80 fun e=>?_;have a:=St.start w0;refine gB h ?_ ?_ <;> intro _ h
 · refine go ?_;cases h;exact fi a
 refine go ?_;cases h;exact fi a
theorem sY {w0 N s r} (h:oA N s=some r) {d m f} (p:m=s.length) (q:rb w0 d f s) :
    iA Tryz.prog 143 #[vS d m f] w0 (fun v w=>v=.agg #[vI r.cd,vI r.im,vI r.iC]∧St w0 [] w []):=by
 subst p;unfold oA at h;refine iA.fn Tryz.func143 fun e=>?_;have H:=St.start w0;refine go ?_;refine LW.al H fun B ae I=>?_;refine go ?_;refine LW.u (iG.build (vs:=[]) (cs:=#[vI 0,vI 0,vI 0]) rfl (by kernel_rfl)) rfl ?_;refine LW.al I fun C af J=>?_;refine LW.st J 0 fun ah K=>?_;refine go ?_;obtain ⟨Y,A,G⟩:=ob h;refine CW.ie A 0 (fun n e wb=>En e [(0,vS d s.length f),(2,.pointer (some ⟨B,0,none⟩)),(3,.pointer (some ⟨C,0,none⟩)),(4,vI n.1)]∧St w0 [] wb [bx C 35 [vI n.2.1,vI n.2.2.1,vI n.2.2.2],bx B 35 [vI 0,vI 0,vI 0]]) ?_ (K.po [0,1]) ?_
 · intro n e ai o hM h;obtain ⟨hE,g⟩:=hM;obtain ⟨e,rfl⟩:=hE.out;refine gc h ?_ ?_ <;> intro _ h
   · refine gb h fun aj O h=>?_;obtain ⟨W,X,R,rfl,a,U,V,rfl,c⟩:=q.idx O;refine go ?_;refine LW.l (iF.iK w0 lP rfl (c 0 _ rfl)) (g.same _ a.1 a.2) rfl ?_;refine go ?_;refine CW.fl [0,2,3,4,16] fun e=>?_;refine gc h ?_ ?_ <;> intro _ h
     · refine go ?_;refine CW.draw (by kernel_rfl) ?_;have t:=g.drew;refine go ?_;refine AW.take (i:=7) rfl (by kernel_rfl) rfl rfl (iF.iK w0 iW rfl (c 2 _ rfl)) (t.same _ a.1 a.2) ?_;refine go ?_;refine jO 10 ?_;refine LW.st t 0 fun Z L=>?_;refine jN (jW (jW jZ)) ?_;refine go ?_;refine CW.draw (by kernel_rfl) ?_;have x:=L.drew;refine go ?_;refine AW.take (i:=7) rfl (by kernel_rfl) rfl rfl (iF.iK w0 iW rfl (c 3 _ rfl)) (x.same _ a.1 a.2) ?_;refine go ?_;refine jO 10 ?_;refine LW.st x 0 fun aa M=>?_;refine jN (jW (jW jZ)) ?_;refine go ?_;refine CW.draw (by kernel_rfl) ?_;have j:=M.drew;refine go ?_;refine AW.take (i:=7) rfl (by kernel_rfl) rfl rfl (iF.iK w0 iW rfl (c 4 _ rfl)) (j.same _ a.1 a.2) ?_;refine go ?_;refine jO 10 ?_;refine LW.st j 0 fun ab y=>?_;refine jN (jW (jW jZ)) ?_;refine go ?_;cases oi h;exact ⟨rfl,(y.po [0,1])⟩
     refine go ?_;cases oi h;exact ⟨rfl,(g.po [0,1])⟩
   refine go ?_;cases oi h;exact ⟨trivial,rfl,(g.po [0,1])⟩
 rintro e ac ⟨hE,z⟩;obtain ⟨e,rfl⟩:=hE.out;have h:=G;refine go ?_;refine LW.st z 1 fun ad k=>?_;refine go ?_;cases h;exact And.intro trivial ⟨_,jB.one (ig.b k 1 rfl kE rfl rfl),rfl,k.pk []⟩
theorem ni {w0 N p z r} (h:ll N p z=some r) {b f c} (g:f=p.length) (i:rb w0 b c p) :
    iA Tryz.prog 96 #[vS b f c,vI z] w0 (fun v w=>v=.bool r∧St w0 [] w []):=by
 subst g;unfold ll at h;refine iA.fn Tryz.func96 fun e=>?_;have q:=St.start w0;refine go ?_;obtain ⟨k,n,j⟩:=ob h;refine CW.mono (CW.lx [0,1] [] [] 0 (fun y=>[(5,vI y)]) (RT Tryz.prog Tryz.f96.results (fun u=>.bool u) w0 []) q n (hb:=?_)) ?_
 · intro y e K o a h;refine gc h ?_ ?_ <;> intro _ h
   · refine gb h fun L t h=>?_;obtain ⟨I,J,A,rfl,d,B,C,rfl,m⟩:=i.idx t;refine go ?_;refine LW.l (iF.iK w0 iW rfl (m 0 _ rfl)) (a.same _ d.1 d.2) rfl ?_;refine go ?_;refine CW.fl [0,1,5,17] fun e=>?_;refine gc h ?_ ?_ <;> intro _ h
     · refine go ?_;cases oi h;exact ⟨trivial,rfl,_,rfl,rx ⟨rfl,a.pk []⟩⟩
     refine go ?_;cases oi h;exact ⟨rfl,(a.po [])⟩
   refine go ?_;cases oi h;exact ⟨trivial,rfl,⟨trivial,a.pk []⟩⟩
 intro x e H hM;rcases k with k | G
 · obtain ⟨rfl,hM⟩:=hM;obtain ⟨e,rfl,s⟩:=eo hM;rw [show e=iI e [] from rfl];have h:=j;refine go ?_;cases h;exact fi s
 obtain ⟨rfl,u,rfl,hM⟩:=hM;cases j;exact And.intro trivial hM
theorem pn {w0 N a x r} (h:kY N a x=some r) {b j f} (m:j=a.ib.length) (s:rb w0 b f a.ib) {c k g} (n:k=a.data.length) (t:rb w0 c g a.data) {d l i} (o:l=a.queue.length) (u:rb w0 d i a.queue) :
    iA Tryz.prog 99 #[.agg #[vI a.gen,vI a.kind,vI a.box,vI a.res,vI a.iN,vI a.cd,vI a.wait,vI a.iO,vI a.iP,.bool a.mark,vS b j f,vS c k g,vS d l i],vI x] w0 (fun v w=>v=.bool r∧St w0 [] w []):=by
 subst m n o;unfold kY at h;refine iA.fn Tryz.func99 fun e=>?_;have q:=St.start w0;refine go ?_;refine LW.bo q fun y z p=>?_;refine gB h ?_ ?_ <;> intro _ h
 · refine go ?_;cases h;exact fi p
 refine go ?_;cases h;exact fi p
theorem BT {w0 N k a r} (h:qK N k a=some r) :
    iA Tryz.prog 258 #[vI k,vI a] w0 (fun v w=>v=.agg #[vI r.cd,vI r.im,vI r.iC]∧St w0 [] w []):=by
 unfold qK at h;refine iA.fn Tryz.func258 fun e=>?_;have j:=St.start w0;refine go ?_;refine LW.al j fun l m c=>?_;refine gc h ?_ ?_ <;> intro _ h
 · refine go ?_;refine LW.u (iG.build (vs:=[(0,vI a)]) (cs:=#[vI a,vI 0,vI 0]) rfl (by kernel_rfl)) rfl ?_;refine LW.st c 0 fun n d=>?_;refine go ?_;cases h;exact And.intro trivial ⟨_,jB.one (ig.b d 0 rfl kE rfl rfl),rfl,d.pk []⟩
 refine gc h ?_ ?_ <;> intro _ h
 · refine go ?_;refine LW.u (iG.build (vs:=[(1,vI a)]) (cs:=#[vI 0,vI a,vI 0]) rfl (by kernel_rfl)) rfl ?_;refine LW.st c 0 fun o f=>?_;refine go ?_;cases h;exact And.intro trivial ⟨_,jB.one (ig.b f 0 rfl kE rfl rfl),rfl,f.pk []⟩
 refine gc h ?_ ?_ <;> intro _ h
 · refine go ?_;refine LW.u (iG.build (vs:=[(2,vI a)]) (cs:=#[vI 0,vI 0,vI a]) rfl (by kernel_rfl)) rfl ?_;refine LW.st c 0 fun p g=>?_;refine go ?_;cases h;exact And.intro trivial ⟨_,jB.one (ig.b g 0 rfl kE rfl rfl),rfl,g.pk []⟩
 refine go ?_;refine LW.u (iG.build (vs:=[]) (cs:=#[vI 0,vI 0,vI 0]) rfl (by kernel_rfl)) rfl ?_;refine LW.st c 0 fun q i=>?_;refine go ?_;cases h;exact And.intro trivial ⟨_,jB.one (ig.b i 0 rfl kE rfl rfl),rfl,i.pk []⟩
theorem zY {w0 N b d r} (h:px N b d=some r) :
    iA Tryz.prog 260 #[.agg #[vI b.cd,vI b.im,vI b.iC],vI d] w0 (fun v w=>v=vI r∧St w0 [] w []):=by
 unfold px at h;refine iA.fn Tryz.func260 fun e=>?_;have c:=St.start w0;refine go ?_;refine LW.bo c fun f g a=>?_;refine gc h ?_ ?_ <;> intro _ h
 · refine go ?_;cases h;exact fi a
 refine gc h ?_ ?_ <;> intro _ h
 · refine go ?_;cases h;exact fi a
 refine gc h ?_ ?_ <;> intro _ h
 · refine go ?_;cases h;exact fi a
 refine go ?_;cases h;exact fi a
theorem lF {w0 N g r} (h:lh N g=some r) {a c b} (d:c=g.length) (f:rb w0 a b g) :
    iA Tryz.prog 146 #[vS a c b] w0 (fun v w=>∃ j k,v=vS j r.length k∧St w0 [] w [sl j k r]):=by
 subst d;unfold lh at h;refine iA.fn Tryz.func146 fun e=>?_;have o:=St.start w0;refine go ?_;refine LW.jU (α:=Int) (vs:=[]) (cs:=#[]) (l:=([]:List Int)) rfl (by kernel_rfl) rfl rfl rfl (fun w=>rfl) o rfl ?_;intro u x y n hf;refine gb h fun A q h=>?_;refine LW.kl (l:=([]:List Int)) (m:=g) mu rfl rfl (n.rB f) q n (i:=0) rfl rfl ?_;intro s t z p hf;refine go ?_;cases h;exact Ra ⟨s,t,rfl,p.pk [0]⟩
theorem vk {w0 N g r} (h:m9 N g=some r) {a c b} (d:c=g.length) (f:rb w0 a b g) :
    iA Tryz.prog 147 #[vS a c b] w0 (fun v w=>∃ j k,v=vS j r.length k∧St w0 [] w [sl j k r]):=by
 subst d;unfold m9 at h;refine iA.fn Tryz.func147 fun e=>?_;have o:=St.start w0;refine go ?_;refine LW.jU (α:=iq) (vs:=[]) (cs:=#[]) (l:=([]:List iq)) rfl (by kernel_rfl) rfl rfl rfl (fun w=>rfl) o rfl ?_;intro u x y n hf;refine gb h fun A q h=>?_;refine LW.kl (l:=([]:List iq)) (m:=g) Dw rfl rfl (n.rB f) q n (i:=0) rfl rfl ?_;intro s t z p hf;refine go ?_;cases h;exact Ra ⟨s,t,rfl,p.pk [0]⟩
theorem jy {w0 N b c d r} (h:jl N b c d=some r) :
    iA Tryz.prog 84 #[vI b,vI c,vI d] w0 (fun v w=>v=.bool r∧St w0 [] w []):=by
 unfold jl at h;refine iA.fn Tryz.func84 fun e=>?_;have a:=St.start w0;refine gB h ?_ ?_ <;> intro _ h
 · refine go ?_;cases h;exact fi a
 refine go ?_;cases h;exact fi a
theorem sZ {w0 N a c r} (h:od N a c=some r) :
    iA Tryz.prog 74 #[.agg #[vI a.cd,vI a.im,vI a.iC],.agg #[vI c.cd,vI c.im,vI c.iC]] w0 (fun v w=>v=.agg #[vI r.cd,vI r.im,vI r.iC]∧St w0 [] w []):=by
 unfold od at h;refine iA.fn Tryz.func74 fun e=>?_;have f:=St.start w0;refine go ?_;refine LW.bo f fun k n g=>?_;refine LW.bo g fun l o i=>?_;refine LW.al i fun m p j=>?_;refine go ?_;refine LW.u (iG.build (vs:=[(0,vI (IntKind.i64.wrap (a.cd+c.cd))),(1,vI (IntKind.i64.wrap (a.im+c.im))),(2,vI (IntKind.i64.wrap (a.iC+c.iC)))]) (cs:=#[vI (IntKind.i64.wrap (a.cd+c.cd)),vI (IntKind.i64.wrap (a.im+c.im)),vI (IntKind.i64.wrap (a.iC+c.iC))]) rfl (by kernel_rfl)) rfl ?_;refine LW.st j 0 fun q d=>?_;refine go ?_;cases h;exact And.intro trivial ⟨_,jB.one (ig.b d 0 rfl kE rfl rfl),rfl,d.pk []⟩
theorem yq {w0 N p z r} (h:nN N p z=some r) {b f c} (g:f=p.length) (i:rb w0 b c p) :
    iA Tryz.prog 240 #[vS b f c,vI z] w0 (fun v w=>v=vI r∧St w0 [] w []):=by
 subst g;unfold nN at h;refine iA.fn Tryz.func240 fun e=>?_;have q:=St.start w0;refine go ?_;obtain ⟨k,n,j⟩:=ob h;refine CW.mono (CW.lx [0,1,7] [] [] 0 (fun y=>[(8,vI y)]) (RT Tryz.prog Tryz.f240.results (fun u=>vI u) w0 []) q n (hb:=?_)) ?_
 · intro y e K o a h;refine gc h ?_ ?_ <;> intro _ h
   · refine gb h fun L t h=>?_;obtain ⟨I,J,A,rfl,d,B,C,rfl,m⟩:=i.idx t;refine go ?_;refine LW.l (iF.iK w0 iW rfl (m 0 _ rfl)) (a.same _ d.1 d.2) rfl ?_;refine go ?_;refine CW.fl [0,1,5,7,8,16] fun e=>?_;refine gc h ?_ ?_ <;> intro _ h
     · refine go ?_;cases oi h;exact ⟨trivial,rfl,_,rfl,rx ⟨rfl,a.pk []⟩⟩
     refine go ?_;cases oi h;exact ⟨rfl,(a.po [])⟩
   refine go ?_;cases oi h;exact ⟨trivial,rfl,⟨trivial,a.pk []⟩⟩
 intro x e H hM;rcases k with k | G
 · obtain ⟨rfl,hM⟩:=hM;obtain ⟨e,rfl,s⟩:=eo hM;rw [show e=iI e [] from rfl];have h:=j;refine go ?_;cases h;exact fi s
 obtain ⟨rfl,u,rfl,hM⟩:=hM;cases j;exact And.intro trivial hM
theorem uv {w0 N H I r} (h:nM N H I=some r) {b k d} (m:k=H.length) (p:rb w0 b d H) {c l f} (n:l=I.length) (q:rb w0 c f I) :
    iA Tryz.prog 317 #[vS b k d,vS c l f] w0 (fun v w=>v=.bool r∧St w0 [] w []):=by
 subst m n;unfold nM at h;refine iA.fn Tryz.func317 fun e=>?_;have t:=St.start w0;refine gc h ?_ ?_ <;> intro _ h
 · refine go ?_;cases h;exact fi t
 refine go ?_;obtain ⟨z,C,s⟩:=ob h;refine CW.mono (CW.lx [0,1,12] [] [] 0 (fun L=>[(13,vI L)]) (RT Tryz.prog Tryz.f317.results (fun u=>.bool u) w0 []) t C (hb:=?_)) ?_
 · intro L e ae o y h;refine gc h ?_ ?_ <;> intro _ h
   · refine go ?_;refine CW.draw (by kernel_rfl) ?_;have a:=y.drew;refine gb h fun af K h=>?_;obtain ⟨ac,ad,M,rfl,g,W,X,rfl,A⟩:=p.idx K;refine go ?_;refine AW.take (i:=3) rfl (by kernel_rfl) rfl rfl (iF.iK w0 iW rfl (A 0 _ rfl)) (a.same _ g.1 g.2) ?_;refine gb h fun ab G h=>?_;obtain ⟨V,Y,O,rfl,j,R,U,rfl,B⟩:=q.idx G;refine go ?_;refine AW.take (i:=7) rfl (by kernel_rfl) rfl rfl (iF.iK w0 iW rfl (B 0 _ rfl)) (a.same _ j.1 j.2) ?_;refine gc h ?_ ?_ <;> intro _ h
     · refine go ?_;cases oi h;exact ⟨trivial,rfl,_,rfl,rx ⟨rfl,a.pk []⟩⟩
     refine go ?_;cases oi h;exact ⟨rfl,(a.po [])⟩
   refine go ?_;cases oi h;exact ⟨trivial,rfl,⟨trivial,y.pk []⟩⟩
 intro x e aa hM;rcases z with z | Z
 · obtain ⟨rfl,hM⟩:=hM;obtain ⟨e,rfl,J⟩:=eo hM;rw [show e=iI e [] from rfl];have h:=s;refine go ?_;cases h;exact fi J
 obtain ⟨rfl,u,rfl,hM⟩:=hM;cases s;exact And.intro trivial hM
theorem yt {w0 N I J r} (h:pQ N I J=some r) {b l d} (n:l=I.length) (q:rb w0 b d I) {c m f} (p:m=J.length) (s:rb w0 c f J) :
    iA Tryz.prog 318 #[vS b l d,vS c m f] w0 (fun v w=>v=.bool r∧St w0 [] w []):=by
 subst n p;unfold pQ at h;refine iA.fn Tryz.func318 fun e=>?_;have y:=St.start w0;refine gc h ?_ ?_ <;> intro _ h
 · refine go ?_;cases h;exact fi y
 refine go ?_;obtain ⟨A,G,t⟩:=ob h;refine CW.mono (CW.lx [0,1,12] [] [] 0 (fun M=>[(13,vI M)]) (RT Tryz.prog Tryz.f318.results (fun u=>.bool u) w0 []) y G (hb:=?_)) ?_
 · intro M e ah o z h;refine gc h ?_ ?_ <;> intro _ h
   · refine go ?_;refine CW.draw (by kernel_rfl) ?_;have a:=z.drew;refine gb h fun X L h=>?_;obtain ⟨ae,af,R,rfl,g,Z,aa,rfl,B⟩:=q.idx L;refine go ?_;refine AW.take (i:=3) rfl (by kernel_rfl) rfl rfl (iF.kg w0 tY rfl rfl (fun j u hu=>B j u hu)) (a.same _ g.1 g.2) ?_;refine gb h fun O H h=>?_;obtain ⟨Y,ab,U,rfl,k,V,W,rfl,C⟩:=s.idx H;refine go ?_;refine AW.take (i:=7) rfl (by kernel_rfl) rfl rfl (iF.kg w0 tY rfl rfl (fun j u hu=>C j u hu)) (a.same _ k.1 k.2) ?_;refine AW.u (i:=8) rfl (by kernel_rfl) rfl rfl (iG.zh DV rfl rfl (fun w=>D2 X O w)) ?_;refine gc h ?_ ?_ <;> intro _ h
     · refine go ?_;cases oi h;exact ⟨trivial,rfl,_,rfl,rx ⟨rfl,a.pk []⟩⟩
     refine go ?_;cases oi h;exact ⟨rfl,(a.po [])⟩
   refine go ?_;cases oi h;exact ⟨trivial,rfl,⟨trivial,z.pk []⟩⟩
 intro x e ad hM;rcases A with A | ac
 · obtain ⟨rfl,hM⟩:=hM;obtain ⟨e,rfl,K⟩:=eo hM;rw [show e=iI e [] from rfl];have h:=t;refine go ?_;cases h;exact fi K
 obtain ⟨rfl,u,rfl,hM⟩:=hM;cases t;exact And.intro trivial hM
theorem tv {w0 N a x r} (h:nO N a x=some r) {b j f} (m:j=a.ib.length) (s:rb w0 b f a.ib) {c k g} (n:k=a.data.length) (t:rb w0 c g a.data) {d l i} (o:l=a.queue.length) (u:rb w0 d i a.queue) :
    iA Tryz.prog 166 #[.agg #[vI a.gen,vI a.kind,vI a.box,vI a.res,vI a.iN,vI a.cd,vI a.wait,vI a.iO,vI a.iP,.bool a.mark,vS b j f,vS c k g,vS d l i],vI x] w0 (fun v w=>v=.bool r∧St w0 [] w []):=by
 subst m n o;unfold nO at h;refine iA.fn Tryz.func166 fun e=>?_;have q:=St.start w0;refine go ?_;refine LW.bo q fun y z p=>?_;refine gB h ?_ ?_ <;> intro _ h
 · refine go ?_;cases h;exact fi p
 refine go ?_;cases h;exact fi p
theorem BG {w0 N k a r} (h:qv N k a=some r) :
    iA Tryz.prog 71 #[vI k,vI a] w0 (fun v w=>v=.agg #[vI r.cd,vI r.im,vI r.iC]∧St w0 [] w []):=by
 unfold qv at h;refine iA.fn Tryz.func71 fun e=>?_;have j:=St.start w0;refine go ?_;refine LW.al j fun l m c=>?_;refine gc h ?_ ?_ <;> intro _ h
 · refine go ?_;refine LW.u (iG.build (vs:=[(0,vI a)]) (cs:=#[vI a,vI 0,vI 0]) rfl (by kernel_rfl)) rfl ?_;refine LW.st c 0 fun n d=>?_;refine go ?_;cases h;exact And.intro trivial ⟨_,jB.one (ig.b d 0 rfl kE rfl rfl),rfl,d.pk []⟩
 refine gc h ?_ ?_ <;> intro _ h
 · refine go ?_;refine LW.u (iG.build (vs:=[(1,vI a)]) (cs:=#[vI 0,vI a,vI 0]) rfl (by kernel_rfl)) rfl ?_;refine LW.st c 0 fun o f=>?_;refine go ?_;cases h;exact And.intro trivial ⟨_,jB.one (ig.b f 0 rfl kE rfl rfl),rfl,f.pk []⟩
 refine gc h ?_ ?_ <;> intro _ h
 · refine go ?_;refine LW.u (iG.build (vs:=[(2,vI a)]) (cs:=#[vI 0,vI 0,vI a]) rfl (by kernel_rfl)) rfl ?_;refine LW.st c 0 fun p g=>?_;refine go ?_;cases h;exact And.intro trivial ⟨_,jB.one (ig.b g 0 rfl kE rfl rfl),rfl,g.pk []⟩
 refine go ?_;refine LW.u (iG.build (vs:=[]) (cs:=#[vI 0,vI 0,vI 0]) rfl (by kernel_rfl)) rfl ?_;refine LW.st c 0 fun q i=>?_;refine go ?_;cases h;exact And.intro trivial ⟨_,jB.one (ig.b i 0 rfl kE rfl rfl),rfl,i.pk []⟩
theorem rY {w0 N B r} (h:mO N B=some r) {f y g} (z:y=B.length) (A:rb w0 f g B) :
    iA Tryz.prog 231 #[vS f y g] w0 (fun v w=>∃ C H,v=vS C r.length H∧St w0 [] w [sl C H r]):=by
 subst z;unfold mO at h;refine iA.fn Tryz.func231 fun e=>?_;have Z:=St.start w0;refine go ?_;refine LW.jU (α:=bh) (vs:=[]) (cs:=#[]) (l:=([]:List bh)) rfl (by kernel_rfl) rfl rfl rfl (fun w=>rfl) Z rfl ?_;intro ah ai aD aa hf;refine go ?_;obtain ⟨ax,J,Y⟩:=ob h;refine CW.ie J 0 (fun t e wb=>∃ (b:Ad) (c:Nat),En e [(0,vS f B.length g),(3,vS b t.1.length c),(4,vI t.2)]∧St w0 [] wb [sl b c t.1]) ?_ ⟨ah,ai,aa.po [0]⟩ ?_
 · intro t e aE o hM h;obtain ⟨b,c,hE,d⟩:=hM;obtain ⟨e,rfl⟩:=hE.out;refine gc h ?_ ?_ <;> intro _ h
   · refine gb h fun aF af h=>?_;obtain ⟨ao,aw,aj,rfl,x,au,av,⟨ak,ap,am,aq,an,ar,rfl,K,O,R⟩,I⟩:=A.idx af;refine go ?_;refine LW.l (iF.kg w0 lA rfl rfl (fun j u hu=>I j u hu)) (d.same _ x.1 x.2) rfl ?_;have ⟨a,U,h⟩:=ob h;refine LW.cl (xR U rfl (d.rB K) rfl (d.rB O) rfl (d.rB R)) ?_;rintro _ az ⟨k,p,m,q,n,s,rfl,hs⟩;have ab:=d.add hs;have ac:=ab.pk (M:=[sl k p a.ib,sl m q a.data,sl n s a.queue]++[sl b c t.1]) [0,1,2,3];have ⟨aC,V,h⟩:=ob h;refine LW.m0 (M:=[sl k p a.ib,sl m q a.data,sl n s a.queue]) (L:=[sl b c t.1]) (vs:=#[vI a.gen,vI a.kind,vI a.box,vI a.res,vI a.iN,vI a.cd,vI a.wait,vI a.iO,vI a.iP,.bool a.mark,vS k a.ib.length p,vS m a.data.length q,vS n a.queue.length s]) (i:=0) Dv rfl (by kernel_rfl) rfl rfl V ac rfl (fun w G hG=>⟨k,p,m,q,n,s,rfl,hG⟩) rfl rfl ?_;intro ay W X aA ad hf;refine go ?_;cases oi h;exact ⟨rfl,⟨W,X,ad.po [0]⟩⟩
   refine go ?_;cases oi h;exact ⟨trivial,rfl,⟨b,c,d.po [0]⟩⟩
 rintro e aB ⟨b,c,hE,ae⟩;obtain ⟨e,rfl⟩:=hE.out;have h:=Y;refine go ?_;cases h;exact Ra ⟨b,c,rfl,ae.pk [0]⟩
theorem vC {w0 N t r} (h:nS N t=some r) {a f b} (g:f=t.levels.length) (i:rb w0 a b t.levels) :
    iA Tryz.prog 75 #[.agg #[vS a f b]] w0 (fun v w=>v=.bool r∧St w0 [] w []):=by
 subst g;unfold nS at h;refine iA.fn Tryz.func75 fun e=>?_;have y:=St.start w0;refine go ?_;refine LW.bo y fun R U k=>?_;refine gc h ?_ ?_ <;> intro _ h
 · refine go ?_;cases h;exact fi k
 refine go ?_;obtain ⟨n,q,j⟩:=ob h;refine CW.mono (CW.lx [1] [0] [] 0 (fun B=>[(3,vI B)]) (RT Tryz.prog Tryz.f75.results (fun u=>.bool u) w0 []) k q (hb:=?_)) ?_
 · intro B e V o c h;refine gc h ?_ ?_ <;> intro _ h
   · refine gb h fun W A h=>?_;obtain ⟨G,J,C,rfl,d,H,I,rfl,p⟩:=i.idx A;refine go ?_;refine LW.l (iF.iK w0 iW rfl (p 0 _ rfl)) (c.same _ d.1 d.2) rfl ?_;have ⟨O,s,h⟩:=ob h;refine LW.c0 (ja s) c fun L m=>?_;refine go ?_;refine CW.fl [1,3,21] fun e=>?_;refine gc h ?_ ?_ <;> intro _ h
     · refine go ?_;cases oi h;exact ⟨trivial,rfl,_,rfl,rx ⟨rfl,m.pk []⟩⟩
     refine go ?_;cases oi h;exact ⟨rfl,(m.po [0])⟩
   refine go ?_;cases oi h;exact ⟨trivial,rfl,⟨trivial,c.pk [0]⟩⟩
 intro x e M hM;rcases n with n | K
 · obtain ⟨rfl,hM⟩:=hM;obtain ⟨e,rfl,z⟩:=eo hM;rw [show e=iI e [] from rfl];have h:=j;refine go ?_;cases h;exact fi z
 obtain ⟨rfl,u,rfl,hM⟩:=hM;cases j;exact And.intro trivial hM
theorem ye {w0 N G r} (h:pZ N G=some r) {d m f} (n:m=G.length) (c:rb w0 d f G) :
    iA Tryz.prog 76 #[vS d m f] w0 (fun v w=>v=.bool r∧St w0 [] w []):=by
 subst n;unfold pZ at h;refine iA.fn Tryz.func76 fun e=>?_;have H:=St.start w0;refine go ?_;obtain ⟨t,A,p⟩:=ob h;refine CW.mono (CW.lx [0] [] [] 0 (fun L=>[(3,vI L)]) (RT Tryz.prog Tryz.f76.results (fun u=>.bool u) w0 []) H A (hb:=?_)) ?_
 · intro L e ak o g h;refine gc h ?_ ?_ <;> intro _ h
   · refine gs ?_;refine CW.block ?_;refine gs ?_;obtain ⟨W,J,R⟩:=ob h;refine CW.jn [0,3] [] [(31,.bool W)] g (h1:=?_) (h2:=?_)
     · have h:=J;refine CW.draw (by kernel_rfl) ?_;have q:=g.drew;refine gb h fun am K h=>?_;obtain ⟨aj,aa,M,rfl,a,Y,Z,rfl,l⟩:=c.idx K;refine go ?_;refine AW.take (i:=3) rfl (by kernel_rfl) rfl rfl (iF.iK w0 iW rfl (l 0 _ rfl)) (q.same _ a.1 a.2) ?_;have ⟨ah,B,h⟩:=ob h;refine jO 4 ?_;refine LW.cl (ja B) ?_;rintro _ ad ⟨rfl,hs⟩;have b:=q.add hs;refine jn ?_;refine gB h ?_ ?_ <;> intro _ h
       · refine go ?_;cases oi h;exact b.po []
       refine gB h ?_ ?_ <;> intro k h
       · refine go ?_;refine AW.take (i:=13) rfl (by kernel_rfl) (jM rfl rfl k) rfl (iF.iK w0 iW rfl (l 0 _ rfl)) (b.same _ a.1 a.2) ?_;refine gb h fun ai C h=>?_;obtain ⟨X,ab,O,hae,j,U,V,y,z⟩:=c.idx C;cases hae;obtain rfl:=y;refine go ?_;refine AW.take (i:=18) rfl (by kernel_rfl) (jM rfl rfl k) rfl (iF.iK w0 iW rfl (z 0 _ rfl)) (b.same _ j.1 j.2) ?_;refine go ?_;cases oi h;exact b.po []
       refine go ?_;cases oi h;exact b.po []
     intro e ae s;have h:=R;refine gc h ?_ ?_ <;> intro _ h
     · refine go ?_;cases oi h;exact ⟨trivial,rfl,_,rfl,rx ⟨rfl,s.pk []⟩⟩
     refine go ?_;cases oi h;exact ⟨rfl,(s.po [])⟩
   refine go ?_;cases oi h;exact ⟨trivial,rfl,⟨trivial,g.pk []⟩⟩
 intro x e af hM;rcases t with t | ac
 · obtain ⟨rfl,hM⟩:=hM;obtain ⟨e,rfl,I⟩:=eo hM;rw [show e=iI e [] from rfl];have h:=p;refine go ?_;cases h;exact fi I
 obtain ⟨rfl,u,rfl,hM⟩:=hM;cases p;exact And.intro trivial hM
theorem ub {w0 N d r} (h:om N d=some r) :
    iA Tryz.prog 95 #[vI d] w0 (fun v w=>v=.bool r∧St w0 [] w []):=by
 unfold om at h;refine iA.fn Tryz.func95 fun e=>?_;have a:=St.start w0;refine gb h fun g c h=>?_;refine LW.c0 (ja c) a fun f b=>?_;refine go ?_;cases h;exact fi b
theorem mG {w0 N d r} (h:kV N d=some r) :
    iA Tryz.prog 144 #[vI d] w0 (fun v w=>v=.bool r∧St w0 [] w []):=by
 unfold kV at h;refine iA.fn Tryz.func144 fun e=>?_;have a:=St.start w0;refine gb h fun g c h=>?_;refine LW.c0 (ja c) a fun f b=>?_;refine go ?_;cases h;exact fi b
theorem lE {w0 N d r} (h:kt N d=some r) :
    iA Tryz.prog 127 #[vI d] w0 (fun v w=>v=.bool r∧St w0 [] w []):=by
 unfold kt at h;refine iA.fn Tryz.func127 fun e=>?_;have a:=St.start w0;refine gb h fun g c h=>?_;refine LW.c0 (ja c) a fun f b=>?_;refine go ?_;cases h;exact fi b
theorem mI {w0 N d r} (h:kM N d=some r) :
    iA Tryz.prog 79 #[vI d] w0 (fun v w=>v=.bool r∧St w0 [] w []):=by
 unfold kM at h;refine iA.fn Tryz.func79 fun e=>?_;have a:=St.start w0;refine gb h fun g c h=>?_;refine LW.c0 (ja c) a fun f b=>?_;refine go ?_;cases h;exact fi b
theorem uC {w0} {F:List Nat} {N a ah r} (h:m7 N a ah=some r) {k J c} (R:J=a.ag.length) {d K f} (U:K=a.gc.gE.length) (hS:St w0 F w0 [sl k c a.ag,sl d f a.gc.gE]) :
    iA Tryz.prog 232 #[.agg #[vS k J c,vI a.gc.phase,vI a.gc.pos,vI a.gc.round,vS d K f],vI ah] w0 (fun v w=>∃ o q, ∃ p s,v=.agg #[vS o r.ag.length q,vI r.gc.phase,vI r.gc.pos,vI r.gc.round,vS p r.gc.gE.length s]∧St w0 F w [sl o q r.ag,sl p s r.gc.gE]):=by
 subst R U;unfold m7 at h;refine iA.fn Tryz.func232 fun e=>?_;refine go ?_;refine LW.bo hS fun Z a6 am=>?_;refine LW.al am fun aa ar t=>?_;refine gs ?_;obtain ⟨aC,aq,av⟩:=ob h;refine CW.jn [1,2,4] [0,1,2,3] [(26,.bool aC)] t (h1:=?_) (h2:=?_)
 · have h:=aq;refine gB h ?_ ?_ <;> intro _ h
   · refine gb h fun a7 X h=>?_;obtain ⟨aN,aT,hae,aS,ax⟩:=t.iJ (α:=bh) (i:=2) rfl X;subst hae;refine go ?_;obtain ⟨aJ,m,u⟩:=t.freeze (α:=bh) 2 rfl;obtain ⟨aO,aU,au,hae,C,_,_,ac,H⟩:=m.ki.idx X;cases hae;obtain ⟨aK,aP,aL,aQ,aM,aR,rfl,az,aA,aB⟩:=ac;refine go ?_;refine LW.l (iF.iK ar iW rfl (H 1 _ rfl)) (u.zC 2 rfl C) rfl ?_;refine gB h ?_ ?_ <;> intro _ h
     · refine go ?_;refine LW.l (iF.iK ar lP rfl (H 9 _ rfl)) (u.zC 2 rfl C) rfl ?_;refine go ?_;have an:=u.jf (α:=bh) 2 rfl m;cases oi h;exact an.po [0,1,2,3]
     refine go ?_;have ao:=u.jf (α:=bh) 2 rfl m;cases oi h;exact ao.po [0,1,2,3]
   refine go ?_;cases oi h;exact t.po [0,1,2,3]
 intro e aW A;have h:=av;refine gs ?_;obtain ⟨x,ad,ak⟩:=ob h;refine CW.cut (fun e wb=>∃ (g:Ad) (j:Nat),En e [(2,.pointer (some ⟨Z,0,none⟩)),(4,.pointer (some ⟨aa,0,none⟩))]∧St w0 F wb [bx aa 32 [vS none 0 0,vI 0,vI 0,vI 0,vS none 0 0],bx Z 32 [vS k x.1.length c,vI a.gc.phase,vI a.gc.pos,vI a.gc.round,vS g x.2.length j],sl k c x.1,sl g j x.2]) ?_ ?_
 · have h:=ad;refine gc h ?_ ?_ <;> intro _ h
   · refine gb h fun a3 I h=>?_;obtain ⟨V,Y,hae,aw,ay⟩:=A.iJ (α:=bh) (i:=2) rfl I;subst hae;refine go ?_;refine gb h fun O n h=>?_;refine LW.se 9 A 2 I n (hM:=(kn (fun w cs F hF=>by obtain ⟨aD,aG,aE,aH,aF,aI,rfl,hH⟩:=hF;exact ⟨aD,aG,aE,aH,aF,aI,rfl,hH⟩))) fun aX W=>?_;refine gb h fun a4 ae h=>?_;refine LW.c0 (ni ae rfl (W.rI 3 rfl)) W fun aY B=>?_;refine go ?_;refine CW.fl [1,2,4,37] fun e=>?_;refine gc h ?_ ?_ <;> intro _ h
     · refine gb h fun a5 af h=>?_;refine LW.m0 (M:=[]) (L:=[bx aa 32 [vS none 0 0,vI 0,vI 0,vI 0,vS none 0 0],bx Z 32 [vS (some ⟨V,Y,none⟩) a.ag.length c,vI a.gc.phase,vI a.gc.pos,vI a.gc.round,vS d a.gc.gE.length f],sl (some ⟨V,Y,none⟩) c O,sl d f a.gc.gE]) (vs:=#[vI ah]) (i:=3) mu rfl (by kernel_rfl) rfl rfl af B rfl (fun w G hG=>by cases (show G=[] from hG);exact ⟨rfl,rfl⟩) rfl rfl ?_;intro aV ai aj aZ ap hf;refine go ?_;refine LW.st ap 1 fun a0 y=>?_;refine go ?_;rw [show a.ag.length=O.length from (iQ (oi n))] at y;cases oi h;exact ⟨ai,aj,y.po [0,1,2,3]⟩
     refine go ?_;rw [show a.ag.length=O.length from (iQ (oi n))] at B;cases oi h;exact ⟨d,f,B.po [0,1,2,3]⟩
   refine go ?_;cases oi h;exact ⟨d,f,A.po [0,1,2,3]⟩
 rintro e a1 ⟨g,j,hE,ab⟩;obtain ⟨e,rfl⟩:=hE.out;have h:=ak;refine go ?_;refine LW.st ab 0 fun a2 z=>?_;refine go ?_;cases h;exact And.intro trivial ⟨_,jB.one (ig.b z 0 rfl mx rfl rfl),k,c,g,j,rfl,z.pk [2,3]⟩
theorem yu {w0 N o r} (h:nJ N o=some r) {d g f} (i:g=o.levels.length) (j:rb w0 d f o.levels) :
    iA Tryz.prog 145 #[.agg #[vS d g f]] w0 (fun v w=>∃ a c,v=.agg #[vS a r.levels.length c]∧St w0 [] w [sl a c r.levels]):=by
 subst i;unfold nJ at h;refine iA.fn Tryz.func145 fun e=>?_;have p:=St.start w0;refine go ?_;refine LW.bo p fun y A q=>?_;refine LW.al q fun z B k=>?_;refine gb h fun x t h=>?_;refine LW.cl (lF t rfl (k.rB j)) ?_;rintro _ C ⟨m,n,rfl,hs⟩;have s:=k.add hs;refine LW.u (iG.build (vs:=[(0,vS m x.length n)]) (cs:=#[vS m x.length n]) rfl (by kernel_rfl)) rfl ?_;refine LW.st s 1 fun G l=>?_;refine go ?_;cases h;exact And.intro trivial ⟨_,jB.one (ig.b l 1 rfl BJ rfl rfl),m,n,rfl,l.pk [0]⟩
theorem Ah {w0 N a r} (h:pD N a=some r) {O Y V} (ah:Y=a.ib.length) (K:rb w0 O V a.ib) {R Z W} (ai:Z=a.data.length) (g:rb w0 R W a.data) {U aa X} (aj:aa=a.queue.length) (j:rb w0 U X a.queue) :
    iA Tryz.prog 282 #[.agg #[vI a.gen,vI a.kind,vI a.box,vI a.res,vI a.iN,vI a.cd,vI a.wait,vI a.iO,vI a.iP,.bool a.mark,vS O Y V,vS R Z W,vS U aa X]] w0 (fun v w=>∃ z C, ∃ A G, ∃ B H,v=.agg #[vI r.gen,vI r.kind,vI r.box,vI r.res,vI r.iN,vI r.cd,vI r.wait,vI r.iO,vI r.iP,.bool r.mark,vS z r.ib.length C,vS A r.data.length G,vS B r.queue.length H]∧St w0 [] w [sl z C r.ib,sl A G r.data,sl B H r.queue]):=by
 subst ah ai aj;unfold pD at h;refine iA.fn Tryz.func282 fun e=>?_;have aU:=St.start w0;refine go ?_;refine LW.bo aU fun aS bB aV=>?_;refine LW.al aV fun aT bC aW=>?_;refine gs ?_;obtain ⟨ab,aY,aZ⟩:=ob h;refine CW.cut (fun e wb=>∃ (p:Ad) (t:Nat) (q:Ad) (x:Nat) (s:Ad) (y:Nat),En e [(1,.pointer (some ⟨aS,0,none⟩)),(2,.pointer (some ⟨aT,0,none⟩))]∧St w0 [] wb [bx aT 44 [vI 0,vI 0,vI 0,vI 0,vI 0,vI 0,vI 0,vI 0,vI 0,.bool false,vS none 0 0,vS none 0 0,vS none 0 0],bx aS 44 [vI a.gen,vI a.kind,vI a.box,vI a.res,vI a.iN,vI a.cd,vI a.wait,vI a.iO,vI a.iP,.bool a.mark,vS p ab.1.length t,vS q ab.2.1.length x,vS s ab.2.2.length y],sl p t ab.1,sl q x ab.2.1,sl s y ab.2.2]) ?_ ?_
 · have h:=aY;refine CW.draw (by kernel_rfl) ?_;have ad:=aW.drew;refine gb h fun bD ao h=>?_;refine AW.all (rs:=[2,6]) (by kernel_rfl) (by simp) ⟨?_,?_,trivial⟩
   · refine ⟨_,rfl,?_⟩;refine LW.cl (lF ao rfl (ad.rB K)) ?_;rintro _ a6 ⟨am,an,rfl,hs⟩;have I:=ad.add hs;refine jN (.c (I.ce 2) (.c (I.ce 2) (jW jZ))) ?_;refine AW.u (i:=10) rfl (by kernel_rfl) rfl rfl (iG.fa AI rfl) ?_;have ⟨bu,ak,h⟩:=ob h;refine AW.all (rs:=[5,6]) (by kernel_rfl) (by simp) ⟨?_,?_,trivial⟩
     · refine ⟨_,rfl,?_⟩;refine LW.cl (lF ak rfl (I.rB g)) ?_;rintro _ a7 ⟨aE,aL,rfl,hs⟩;have ae:=I.add hs;refine jN (.c (ae.ce 3) (jW (.c (ae.ce 3) jZ))) ?_;refine jO 6 ?_;refine LW.jU (α:=jq) (vs:=[]) (cs:=#[]) (l:=([]:List jq)) rfl (by kernel_rfl) rfl rfl rfl (fun w=>rfl) ae rfl ?_;intro a0 a3 a8 J hf;refine jN (.c (J.ce 4) (.c (J.ce 4) (.c (J.ce 4) jZ))) ?_;have ⟨bv,aA,h⟩:=ob h;refine jO 9 ?_;refine LW.kl (l:=([]:List jq)) (m:=a.queue) ve rfl rfl (J.rB j) aA J (i:=0) rfl rfl ?_;intro aF aM a9 af hf;refine jN (jW (.c (af.ce 4) (.c (af.ce 4) jZ))) ?_;refine jO 11 ?_;refine LW.st af 4 fun ba aX=>?_;refine jN (jW (jW (jW jZ))) ?_;refine go ?_;refine jO 13 ?_;refine LW.st aX 4 fun bb ap=>?_;refine jN (jW (jW (jW jZ))) ?_;refine go ?_;refine jO 15 ?_;refine LW.st ap 4 fun bc aq=>?_;refine jN (jW (jW (jW jZ))) ?_;refine go ?_;cases oi h;exact ⟨am,an,aE,aL,aF,aM,aq.po [3,4,2,1,0]⟩
     refine ⟨_,rfl,?_⟩;refine LW.jU (α:=jq) (vs:=[]) (cs:=#[]) (l:=([]:List jq)) rfl (by kernel_rfl) rfl rfl rfl (fun w=>rfl) I rfl ?_;intro a1 a4 bd d hf;refine jN (.c (d.ce 3) (.c (d.ce 3) (.c (d.ce 3) jZ))) ?_;refine jO 5 ?_;refine LW.cl (lF ak rfl (d.rB g)) ?_;rintro _ be ⟨aG,aN,rfl,hs⟩;have k:=d.add hs;refine jN (.c (k.ce 4) (jW (.c (k.ce 4) jZ))) ?_;have ⟨bw,aB,h⟩:=ob h;refine jO 9 ?_;refine LW.kl (l:=([]:List jq)) (m:=a.queue) ve rfl rfl (k.rB j) aB k (i:=1) rfl rfl ?_;intro aH aO bf L hf;refine jN (jW (.c (L.ce 4) (.c (L.ce 4) jZ))) ?_;refine jO 11 ?_;refine LW.st L 4 fun bg ar=>?_;refine jN (jW (jW (jW jZ))) ?_;refine go ?_;refine jO 13 ?_;refine LW.st ar 4 fun bi au=>?_;refine jN (jW (jW (jW jZ))) ?_;refine go ?_;refine jO 15 ?_;refine LW.st au 4 fun bj av=>?_;refine jN (jW (jW (jW jZ))) ?_;refine go ?_;cases oi h;exact ⟨am,an,aG,aN,aH,aO,av.po [3,4,2,0,1]⟩
   refine ⟨_,rfl,?_⟩;refine LW.jU (α:=jq) (vs:=[]) (cs:=#[]) (l:=([]:List jq)) rfl (by kernel_rfl) rfl rfl rfl (fun w=>rfl) ad rfl ?_;intro a2 a5 bk f hf;refine jN (.c (f.ce 2) (.c (f.ce 2) (.c (f.ce 2) jZ))) ?_;refine jO 2 ?_;refine LW.cl (lF ao rfl (f.rB K)) ?_;rintro _ bl ⟨aI,aP,rfl,hs⟩;have n:=f.add hs;refine jN (.c (n.ce 3) (.c (n.ce 3) (jW jZ))) ?_;refine AW.u (i:=10) rfl (by kernel_rfl) rfl rfl (iG.fa AI rfl) ?_;have ⟨bz,aC,h⟩:=ob h;refine jO 5 ?_;refine LW.cl (lF aC rfl (n.rB g)) ?_;rintro _ bm ⟨aJ,aQ,rfl,hs⟩;have o:=n.add hs;refine jN (.c (o.ce 4) (jW (.c (o.ce 4) jZ))) ?_;have ⟨bA,aD,h⟩:=ob h;refine jO 9 ?_;refine LW.kl (l:=([]:List jq)) (m:=a.queue) ve rfl rfl (o.rB j) aD o (i:=2) rfl rfl ?_;intro aK aR bn M hf;refine jN (jW (.c (M.ce 4) (.c (M.ce 4) jZ))) ?_;refine jO 11 ?_;refine LW.st M 4 fun bp aw=>?_;refine jN (jW (jW (jW jZ))) ?_;refine go ?_;refine jO 13 ?_;refine LW.st aw 4 fun bq ax=>?_;refine jN (jW (jW (jW jZ))) ?_;refine go ?_;refine jO 15 ?_;refine LW.st ax 4 fun br ay=>?_;refine jN (jW (jW (jW jZ))) ?_;refine go ?_;cases oi h;exact ⟨aI,aP,aJ,aQ,aK,aR,ay.po [3,4,1,0,2]⟩
 rintro e bs ⟨p,t,q,x,s,y,hE,az⟩;obtain ⟨e,rfl⟩:=hE.out;have h:=aZ;refine go ?_;refine LW.st az 0 fun bt ac=>?_;refine go ?_;cases h;exact And.intro trivial ⟨_,jB.one (ig.b ac 0 rfl lA rfl rfl),p,t,q,x,s,y,rfl,ac.pk [2,3,4]⟩
theorem nv {w0 N d r} (h:kZ N d=some r) :
    iA Tryz.prog 156 #[vI d] w0 (fun v w=>v=.bool r∧St w0 [] w []):=by
 unfold kZ at h;refine iA.fn Tryz.func156 fun e=>?_;have a:=St.start w0;refine gb h fun g c h=>?_;refine LW.c0 (jy c) a fun f b=>?_;refine go ?_;cases h;exact fi b
theorem rr {w0 N d r} (h:l4 N d=some r) :
    iA Tryz.prog 221 #[vI d] w0 (fun v w=>v=.bool r∧St w0 [] w []):=by
 unfold l4 at h;refine iA.fn Tryz.func221 fun e=>?_;have a:=St.start w0;refine gb h fun g c h=>?_;refine LW.c0 (jy c) a fun f b=>?_;refine go ?_;cases h;exact fi b
theorem Br {w0 N d r} (h:qU N d=some r) :
    iA Tryz.prog 177 #[vI d] w0 (fun v w=>v=.bool r∧St w0 [] w []):=by
 unfold qU at h;refine iA.fn Tryz.func177 fun e=>?_;have a:=St.start w0;refine gb h fun g c h=>?_;refine LW.c0 (jy c) a fun f b=>?_;refine go ?_;cases h;exact fi b
theorem AB {w0 N s r} (h:pf N s=some r) {a f b} (g:f=s.levels.length) (i:rb w0 a b s.levels) :
    iA Tryz.prog 150 #[.agg #[vS a f b]] w0 (fun v w=>v=.bool r∧St w0 [] w []):=by
 subst g;unfold pf at h;refine iA.fn Tryz.func150 fun e=>?_;have t:=St.start w0;refine go ?_;refine LW.bo t fun R U y=>?_;refine go ?_;obtain ⟨m,p,j⟩:=ob h;refine CW.mono (CW.lx [1,6,7] [0] [1] 0 (fun B=>[(8,vI B)]) (RT Tryz.prog Tryz.f150.results (fun u=>.bool u) w0 []) y p (hb:=?_)) ?_
 · intro B e V o c h;refine gc h ?_ ?_ <;> intro _ h
   · refine gb h fun W A h=>?_;obtain ⟨O,I,C,rfl,d,G,H,rfl,n⟩:=i.idx A;refine go ?_;refine LW.l (iF.iK w0 iW rfl (n 0 _ rfl)) (c.same _ d.1 d.2) rfl ?_;refine gb h fun M q h=>?_;refine LW.c0 (jy q) c fun K k=>?_;refine go ?_;refine CW.fl [1,6,7,8,14] fun e=>?_;refine gc h ?_ ?_ <;> intro _ h
     · refine go ?_;cases oi h;exact ⟨trivial,rfl,_,rfl,rx ⟨rfl,k.pk []⟩⟩
     refine go ?_;cases oi h;exact ⟨rfl,(k.po [0])⟩
   refine go ?_;cases oi h;exact ⟨trivial,rfl,(c.po [0])⟩
 intro x e L hM;rcases m with m | J
 · obtain ⟨rfl,hM⟩:=hM;obtain ⟨e,rfl,z⟩:=eo hM;have h:=j;refine go ?_;cases h;exact fi z
 obtain ⟨rfl,u,rfl,hM⟩:=hM;cases j;exact And.intro trivial hM
end Go.Kx
