/- Each call returns what the plain function says. Printed by drive.py. -/
import Derived.Test.YtikeaiogpfjdnaaGreatFa
import Derived.Test.YtikeaiogpfjdnaaGreatPu
namespace Go.Kx
open Go Go.RowKit Go.Proofs
set_option maxRecDepth 10000
set_option maxHeartbeats 8000000
set_option linter.unusedVariables false
set_option linter.unusedSimpArgs false
theorem W_s_l6Copy {w0 N g r} (h:F_s_l6Copy N g=some r) {a c b} (d:c=g.length) (f:rb w0 a b g) :
    Ret Tryz.prog 170 #[vS a c b] w0 (fun v w=>∃ j k,v=vS j r.length k∧St w0 [] w [sl j k r]):=by
 subst d;unfold F_s_l6Copy at h;refine Ret.fn Tryz.func170 fun e=>?_;have o:=St.start w0;refine go ?_;refine LW.bsl (α:=DRes) (vs:=[]) (cs:=#[]) (l:=([]:List DRes)) rfl (by kernel_rfl) rfl rfl rfl (fun w=>rfl) o rfl ?_;intro x y z n hf;refine gb h fun B q h=>?_;refine LW.appN (l:=([]:List DRes)) (m:=g) sT27 rfl rfl (n.rB f) q n (i:=0) rfl rfl ?_;intro s u A p hf;refine go ?_;cases h;exact And.intro trivial ⟨_,Res.one (resOne.t rfl),s,u,rfl,p.pk [0]⟩
theorem W_s_l8Obj {w0 N a r} (h:F_s_l8Obj N a=some r) {n u q} (B:u=a.links.length) (H:rb w0 n q a.links) {o x s} (C:x=a.data.length) (I:rb w0 o s a.data) {p y t} (G:y=a.queue.length) (J:rb w0 p t a.queue) :
    Ret Tryz.prog 280 #[.agg #[vI a.gen,vI a.kind,vI a.box,vI a.res,vI a.til,vI a.pages,vI a.wait,vI a.got,vI a.ran,.bool a.mark,vS n u q,vS o x s,vS p y t]] w0 (fun v w=>∃ c g, ∃ d j, ∃ f k,v=.agg #[vI r.gen,vI r.kind,vI r.box,vI r.res,vI r.til,vI r.pages,vI r.wait,vI r.got,vI r.ran,.bool r.mark,vS c r.links.length g,vS d r.data.length j,vS f r.queue.length k]∧St w0 [] w [sl c g r.links,sl d j r.data,sl f k r.queue]):=by
 subst B C G;unfold F_s_l8Obj at h;refine Ret.fn Tryz.func280 fun e=>?_;have aa:=St.start w0;refine go ?_;refine LW.bo aa fun aE aG ab=>?_;refine LW.al ab fun aF aH ac=>?_;refine go ?_;refine LW.bsl (α:=Int) (vs:=[]) (cs:=#[]) (l:=([]:List Int)) rfl (by kernel_rfl) rfl rfl rfl (fun w=>rfl) ac rfl ?_;intro aC aD aI K hf;refine gb h fun aJ ai h=>?_;refine LW.appN (l:=([]:List Int)) (m:=a.links) sT24 rfl rfl (K.rB H) ai K (i:=0) rfl rfl ?_;intro aj X ap ad hf;refine go ?_;refine LW.st ad 2 fun aq ae=>?_;refine go ?_;refine LW.bsl (α:=Int) (vs:=[]) (cs:=#[]) (l:=([]:List Int)) rfl (by kernel_rfl) rfl rfl rfl (fun w=>rfl) ae rfl ?_;intro ak an ar L hf;refine gb h fun aA R h=>?_;refine LW.appN (l:=([]:List Int)) (m:=a.data) sT24 rfl rfl (L.rB I) R L (i:=0) rfl rfl ?_;intro V Y au af hf;refine go ?_;refine LW.st af 3 fun av ah=>?_;refine go ?_;refine LW.bsl (α:=DMsg) (vs:=[]) (cs:=#[]) (l:=([]:List DMsg)) rfl (by kernel_rfl) rfl rfl rfl (fun w=>rfl) ah rfl ?_;intro am ao aw z hf;refine gb h fun aB U h=>?_;refine LW.appN (l:=([]:List DMsg)) (m:=a.queue) sT42 rfl rfl (z.rB J) U z (i:=0) rfl rfl ?_;intro W Z ax M hf;refine go ?_;refine LW.st M 4 fun ay O=>?_;refine go ?_;refine LW.st O 3 fun az A=>?_;refine go ?_;cases h;exact And.intro trivial ⟨_,Res.one (resOne.b A 3 rfl ag44 rfl rfl),aj,X,V,Y,W,Z,rfl,A.pk [2,1,0]⟩
theorem W_s_l1In {w0 N c d f r} (h:F_s_l1In N c d f=some r) :
    Ret Tryz.prog 80 #[vI c,vI d,vI f] w0 (fun v w=>v=.bool r∧St w0 [] w []):=by
 unfold F_s_l1In at h;refine Ret.fn Tryz.func80 fun e=>?_;have a:=St.start w0;refine go ?_;rcases bh h with ⟨b,h⟩ | ⟨b,h⟩
 · refine go ?_;cases h;exact fi a
 refine go ?_;cases h;exact fi a
theorem W_s_l6Sum {w0 N x r} (h:F_s_l6Sum N x=some r) {g p j} (s:p=x.length) (t:rb w0 g j x) :
    Ret Tryz.prog 143 #[vS g p j] w0 (fun v w=>v=.agg #[vI r.pages,vI r.rent,vI r.cpu]∧St w0 [] w []):=by
 subst s;unfold F_s_l6Sum at h;refine Ret.fn Tryz.func143 fun e=>?_;have K:=St.start w0;refine go ?_;refine LW.al K fun H ah L=>?_;refine go ?_;refine LW.u (Pur.build (vs:=[]) (cs:=#[vI 0,vI 0,vI 0]) rfl (by kernel_rfl)) rfl ?_;refine LW.al L fun I ai M=>?_;refine LW.st M 0 fun aj O=>?_;refine go ?_;obtain ⟨aa,G,J⟩:=ob h;refine CW.ie G 0 (fun q e wb=>En e [(0,vS g x.length j),(2,.pointer (some ⟨H,0,none⟩)),(3,.pointer (some ⟨I,0,none⟩)),(4,vI q.1)]∧St w0 [] wb [bx I 35 [vI q.2.1,vI q.2.2.1,vI q.2.2.2],bx H 35 [vI 0,vI 0,vI 0]]) ?_ (O.po [0,1]) ?_
 · intro q e ak o hM h;obtain ⟨hE,k⟩:=hM;obtain ⟨e,rfl⟩:=hE.out;refine go ?_;refine ch h (fun V h=>?_) fun V h=>?_
   · refine gb h fun am W h=>?_;obtain ⟨Y,Z,X,rfl,a,d,f,rfl,c⟩:=t.idx W;refine ix d f ?_;refine go ?_;refine LW.l (Ldr.old w0 ag4 rfl (c 0 _ rfl)) (k.same _ a.1 a.2) rfl ?_;refine go ?_;refine CW.fl [0,2,3,4,16] fun e=>?_;refine ch h (fun C h=>?_) fun C h=>?_
     · refine go ?_;refine CW.draw (by kernel_rfl) ?_;have y:=k.drew;refine go ?_;refine AW.u (i:=4) rfl (by kernel_rfl) rfl rfl (Pur.ix Tryz.underlying27 sz46 rfl rfl d f) ?_;refine go ?_;refine AW.take (i:=7) rfl (by kernel_rfl) rfl rfl (Ldr.old w0 ag3 rfl (c 2 _ rfl)) (y.same _ a.1 a.2) ?_;refine go ?_;refine jO 10 ?_;refine LW.st y 0 fun ab R=>?_;refine jN (jW (jW jZ)) ?_;refine go ?_;refine CW.draw (by kernel_rfl) ?_;have z:=R.drew;refine go ?_;refine AW.u (i:=4) rfl (by kernel_rfl) rfl rfl (Pur.ix Tryz.underlying27 sz46 rfl rfl d f) ?_;refine go ?_;refine AW.take (i:=7) rfl (by kernel_rfl) rfl rfl (Ldr.old w0 ag3 rfl (c 3 _ rfl)) (z.same _ a.1 a.2) ?_;refine go ?_;refine jO 10 ?_;refine LW.st z 0 fun ac U=>?_;refine jN (jW (jW jZ)) ?_;refine go ?_;refine CW.draw (by kernel_rfl) ?_;have m:=U.drew;refine go ?_;refine AW.u (i:=4) rfl (by kernel_rfl) rfl rfl (Pur.ix Tryz.underlying27 sz46 rfl rfl d f) ?_;refine go ?_;refine AW.take (i:=7) rfl (by kernel_rfl) rfl rfl (Ldr.old w0 ag3 rfl (c 4 _ rfl)) (m.same _ a.1 a.2) ?_;refine go ?_;refine jO 10 ?_;refine LW.st m 0 fun ad A=>?_;refine jN (jW (jW jZ)) ?_;refine go ?_;cases oi h;exact ⟨rfl,(A.po [0,1])⟩
     refine go ?_;cases oi h;exact ⟨rfl,(k.po [0,1])⟩
   refine go ?_;cases oi h;exact ⟨trivial,rfl,(k.po [0,1])⟩
 rintro e ae ⟨hE,B⟩;obtain ⟨e,rfl⟩:=hE.out;have h:=J;refine go ?_;refine LW.st B 1 fun af n=>?_;refine go ?_;cases h;exact And.intro trivial ⟨_,Res.one (resOne.b n 1 rfl ag35 rfl rfl),rfl,n.pk []⟩
theorem W_s_l4Has {w0 N q H r} (h:F_s_l4Has N q H=some r) {b f c} (g:f=q.length) (i:rb w0 b c q) :
    Ret Tryz.prog 96 #[vS b f c,vI H] w0 (fun v w=>v=.bool r∧St w0 [] w []):=by
 subst g;unfold F_s_l4Has at h;refine Ret.fn Tryz.func96 fun e=>?_;have s:=St.start w0;refine go ?_;obtain ⟨k,p,j⟩:=ob h;refine CW.mono (CW.lx [0,1] [] [] 0 (fun G=>[(5,vI G)]) (RT Tryz.prog Tryz.f96.results (fun u=>.bool u) w0 []) s p (hb:=?_)) ?_
 · intro G e O o a h;refine go ?_;refine ch h (fun z h=>?_) fun z h=>?_
   · refine gb h fun R C h=>?_;obtain ⟨L,M,I,rfl,d,A,B,rfl,n⟩:=i.idx C;refine ix A B ?_;refine LW.l (Ldr.old w0 ag3 rfl (n 0 _ rfl)) (a.same _ d.1 d.2) rfl ?_;refine go ?_;refine CW.fl [0,1,5,17] fun e=>?_;refine ch h (fun m h=>?_) fun m h=>?_
     · refine go ?_;cases oi h;exact ⟨trivial,rfl,_,rfl,⟨_,Res.one (resOne.t rfl),rfl,a.pk []⟩⟩
     refine go ?_;cases oi h;exact ⟨rfl,(a.po [])⟩
   refine go ?_;cases oi h;exact ⟨trivial,rfl,⟨trivial,a.pk []⟩⟩
 intro x e K hM;rcases k with k | J
 · obtain ⟨rfl,hM⟩:=hM;obtain ⟨hE,y⟩:=hM;obtain ⟨e,rfl⟩:=hE.out;rw [show e=upds e [] from rfl];have h:=j;refine go ?_;cases h;exact fi y
 obtain ⟨rfl,u,rfl,hM⟩:=hM;cases j;exact And.intro trivial hM
theorem W_s_Expired {w0 N a y r} (h:F_s_Expired N a y=some r) {b j f} (m:j=a.links.length) (t:rb w0 b f a.links) {c k g} (n:k=a.data.length) (u:rb w0 c g a.data) {d l i} (o:l=a.queue.length) (x:rb w0 d i a.queue) :
    Ret Tryz.prog 99 #[.agg #[vI a.gen,vI a.kind,vI a.box,vI a.res,vI a.til,vI a.pages,vI a.wait,vI a.got,vI a.ran,.bool a.mark,vS b j f,vS c k g,vS d l i],vI y] w0 (fun v w=>v=.bool r∧St w0 [] w []):=by
 subst m n o;unfold F_s_Expired at h;refine Ret.fn Tryz.func99 fun e=>?_;have q:=St.start w0;refine go ?_;refine LW.bo q fun z A p=>?_;refine go ?_;rcases bh h with ⟨s,h⟩ | ⟨s,h⟩
 · refine go ?_;cases h;exact fi p
 refine go ?_;cases h;exact fi p
theorem W_s_AmtOne {w0 N n a r} (h:F_s_AmtOne N n a=some r) :
    Ret Tryz.prog 258 #[vI n,vI a] w0 (fun v w=>v=.agg #[vI r.pages,vI r.rent,vI r.cpu]∧St w0 [] w []):=by
 unfold F_s_AmtOne at h;refine Ret.fn Tryz.func258 fun e=>?_;have j:=St.start w0;refine go ?_;refine LW.al j fun o p c=>?_;refine go ?_;refine ch h (fun k h=>?_) fun k h=>?_
 · refine go ?_;refine LW.u (Pur.build (vs:=[(0,vI a)]) (cs:=#[vI a,vI 0,vI 0]) rfl (by kernel_rfl)) rfl ?_;refine LW.st c 0 fun q d=>?_;refine go ?_;cases h;exact And.intro trivial ⟨_,Res.one (resOne.b d 0 rfl ag35 rfl rfl),rfl,d.pk []⟩
 refine go ?_;refine ch h (fun l h=>?_) fun l h=>?_
 · refine go ?_;refine LW.u (Pur.build (vs:=[(1,vI a)]) (cs:=#[vI 0,vI a,vI 0]) rfl (by kernel_rfl)) rfl ?_;refine LW.st c 0 fun s f=>?_;refine go ?_;cases h;exact And.intro trivial ⟨_,Res.one (resOne.b f 0 rfl ag35 rfl rfl),rfl,f.pk []⟩
 refine go ?_;refine ch h (fun m h=>?_) fun m h=>?_
 · refine go ?_;refine LW.u (Pur.build (vs:=[(2,vI a)]) (cs:=#[vI 0,vI 0,vI a]) rfl (by kernel_rfl)) rfl ?_;refine LW.st c 0 fun t g=>?_;refine go ?_;cases h;exact And.intro trivial ⟨_,Res.one (resOne.b g 0 rfl ag35 rfl rfl),rfl,g.pk []⟩
 refine go ?_;refine LW.u (Pur.build (vs:=[]) (cs:=#[vI 0,vI 0,vI 0]) rfl (by kernel_rfl)) rfl ?_;refine LW.st c 0 fun x i=>?_;refine go ?_;cases h;exact And.intro trivial ⟨_,Res.one (resOne.b i 0 rfl ag35 rfl rfl),rfl,i.pk []⟩
theorem W_s_AmtPart {w0 N b i r} (h:F_s_AmtPart N b i=some r) :
    Ret Tryz.prog 260 #[.agg #[vI b.pages,vI b.rent,vI b.cpu],vI i] w0 (fun v w=>v=vI r∧St w0 [] w []):=by
 unfold F_s_AmtPart at h;refine Ret.fn Tryz.func260 fun e=>?_;have c:=St.start w0;refine go ?_;refine LW.bo c fun j k a=>?_;refine go ?_;refine ch h (fun d h=>?_) fun d h=>?_
 · refine go ?_;cases h;exact fi a
 refine go ?_;refine ch h (fun f h=>?_) fun f h=>?_
 · refine go ?_;cases h;exact fi a
 refine go ?_;refine ch h (fun g h=>?_) fun g h=>?_
 · refine go ?_;cases h;exact fi a
 refine go ?_;cases h;exact fi a
theorem W_i_copyInts {w0 N g r} (h:F_i_copyInts N g=some r) {a c b} (d:c=g.length) (f:rb w0 a b g) :
    Ret Tryz.prog 146 #[vS a c b] w0 (fun v w=>∃ j k,v=vS j r.length k∧St w0 [] w [sl j k r]):=by
 subst d;unfold F_i_copyInts at h;refine Ret.fn Tryz.func146 fun e=>?_;have o:=St.start w0;refine go ?_;refine LW.bsl (α:=Int) (vs:=[]) (cs:=#[]) (l:=([]:List Int)) rfl (by kernel_rfl) rfl rfl rfl (fun w=>rfl) o rfl ?_;intro x y z n hf;refine gb h fun B q h=>?_;refine LW.appN (l:=([]:List Int)) (m:=g) sT24 rfl rfl (n.rB f) q n (i:=0) rfl rfl ?_;intro s u A p hf;refine go ?_;cases h;exact And.intro trivial ⟨_,Res.one (resOne.t rfl),s,u,rfl,p.pk [0]⟩
theorem W_i_copyTree {w0 N g r} (h:F_i_copyTree N g=some r) {a c b} (d:c=g.length) (f:rb w0 a b g) :
    Ret Tryz.prog 147 #[vS a c b] w0 (fun v w=>∃ j k,v=vS j r.length k∧St w0 [] w [sl j k r]):=by
 subst d;unfold F_i_copyTree at h;refine Ret.fn Tryz.func147 fun e=>?_;have o:=St.start w0;refine go ?_;refine LW.bsl (α:=DRes) (vs:=[]) (cs:=#[]) (l:=([]:List DRes)) rfl (by kernel_rfl) rfl rfl rfl (fun w=>rfl) o rfl ?_;intro x y z n hf;refine gb h fun B q h=>?_;refine LW.appN (l:=([]:List DRes)) (m:=g) sT27 rfl rfl (n.rB f) q n (i:=0) rfl rfl ?_;intro s u A p hf;refine go ?_;cases h;exact And.intro trivial ⟨_,Res.one (resOne.t rfl),s,u,rfl,p.pk [0]⟩
theorem W_i_within {w0 N c d f r} (h:F_i_within N c d f=some r) :
    Ret Tryz.prog 84 #[vI c,vI d,vI f] w0 (fun v w=>v=.bool r∧St w0 [] w []):=by
 unfold F_i_within at h;refine Ret.fn Tryz.func84 fun e=>?_;have a:=St.start w0;refine go ?_;rcases bh h with ⟨b,h⟩ | ⟨b,h⟩
 · refine go ?_;cases h;exact fi a
 refine go ?_;cases h;exact fi a
theorem W_i_sumOf {w0 N a c r} (h:F_i_sumOf N a c=some r) :
    Ret Tryz.prog 74 #[.agg #[vI a.pages,vI a.rent,vI a.cpu],.agg #[vI c.pages,vI c.rent,vI c.cpu]] w0 (fun v w=>v=.agg #[vI r.pages,vI r.rent,vI r.cpu]∧St w0 [] w []):=by
 unfold F_i_sumOf at h;refine Ret.fn Tryz.func74 fun e=>?_;have f:=St.start w0;refine go ?_;refine LW.bo f fun k n g=>?_;refine LW.bo g fun l o i=>?_;refine LW.al i fun m p j=>?_;refine go ?_;refine LW.u (Pur.build (vs:=[(0,vI (IntKind.i64.wrap (a.pages+c.pages))),(1,vI (IntKind.i64.wrap (a.rent+c.rent))),(2,vI (IntKind.i64.wrap (a.cpu+c.cpu)))]) (cs:=#[vI (IntKind.i64.wrap (a.pages+c.pages)),vI (IntKind.i64.wrap (a.rent+c.rent)),vI (IntKind.i64.wrap (a.cpu+c.cpu))]) rfl (by kernel_rfl)) rfl ?_;refine LW.st j 0 fun q d=>?_;refine go ?_;cases h;exact And.intro trivial ⟨_,Res.one (resOne.b d 0 rfl ag35 rfl rfl),rfl,d.pk []⟩
theorem W_z_Index_int {w0 N q H r} (h:F_z_Index_int N q H=some r) {b f c} (g:f=q.length) (i:rb w0 b c q) :
    Ret Tryz.prog 240 #[vS b f c,vI H] w0 (fun v w=>v=vI r∧St w0 [] w []):=by
 subst g;unfold F_z_Index_int at h;refine Ret.fn Tryz.func240 fun e=>?_;have s:=St.start w0;refine go ?_;obtain ⟨k,p,j⟩:=ob h;refine CW.mono (CW.lx [0,1,7] [] [] 0 (fun G=>[(8,vI G)]) (RT Tryz.prog Tryz.f240.results (fun u=>vI u) w0 []) s p (hb:=?_)) ?_
 · intro G e O o a h;refine go ?_;refine ch h (fun z h=>?_) fun z h=>?_
   · refine gb h fun R C h=>?_;obtain ⟨L,M,I,rfl,d,A,B,rfl,n⟩:=i.idx C;refine ix A B ?_;refine LW.l (Ldr.old w0 ag3 rfl (n 0 _ rfl)) (a.same _ d.1 d.2) rfl ?_;refine go ?_;refine CW.fl [0,1,5,7,8,16] fun e=>?_;refine ch h (fun m h=>?_) fun m h=>?_
     · refine go ?_;cases oi h;exact ⟨trivial,rfl,_,rfl,⟨_,Res.one (resOne.t rfl),rfl,a.pk []⟩⟩
     refine go ?_;cases oi h;exact ⟨rfl,(a.po [])⟩
   refine go ?_;cases oi h;exact ⟨trivial,rfl,⟨trivial,a.pk []⟩⟩
 intro x e K hM;rcases k with k | J
 · obtain ⟨rfl,hM⟩:=hM;obtain ⟨hE,y⟩:=hM;obtain ⟨e,rfl⟩:=hE.out;rw [show e=upds e [] from rfl];have h:=j;refine go ?_;cases h;exact fi y
 obtain ⟨rfl,u,rfl,hM⟩:=hM;cases j;exact And.intro trivial hM
theorem W_z_Equal_int {w0 N L M r} (h:F_z_Equal_int N L M=some r) {b k d} (m:k=L.length) (p:rb w0 b d L) {c l f} (n:l=M.length) (q:rb w0 c f M) :
    Ret Tryz.prog 317 #[vS b k d,vS c l f] w0 (fun v w=>v=.bool r∧St w0 [] w []):=by
 subst m n;unfold F_z_Equal_int at h;refine Ret.fn Tryz.func317 fun e=>?_;have y:=St.start w0;refine go ?_;refine ch h (fun R h=>?_) fun R h=>?_
 · refine go ?_;cases h;exact fi y
 refine go ?_;obtain ⟨A,H,s⟩:=ob h;refine CW.mono (CW.lx [0,1,12] [] [] 0 (fun Y=>[(13,vI Y)]) (RT Tryz.prog Tryz.f317.results (fun u=>.bool u) w0 []) y H (hb:=?_)) ?_
 · intro Y e aj o z h;refine go ?_;refine ch h (fun U h=>?_) fun U h=>?_
   · refine go ?_;refine CW.draw (by kernel_rfl) ?_;have a:=z.drew;refine gb h fun ak X h=>?_;obtain ⟨ah,ai,Z,rfl,g,V,W,rfl,C⟩:=p.idx X;refine AW.u (i:=2) rfl (by kernel_rfl) rfl rfl (Pur.ix Tryz.underlying24 sz3 rfl rfl V W) ?_;refine AW.take (i:=3) rfl (by kernel_rfl) rfl rfl (Ldr.old w0 ag3 rfl (C 0 _ rfl)) (a.same _ g.1 g.2) ?_;refine gb h fun af K h=>?_;obtain ⟨ab,ac,aa,rfl,j,I,J,rfl,G⟩:=q.idx K;refine AW.u (i:=6) rfl (by kernel_rfl) rfl rfl (Pur.ix Tryz.underlying24 sz3 rfl rfl I J) ?_;refine AW.take (i:=7) rfl (by kernel_rfl) rfl rfl (Ldr.old w0 ag3 rfl (G 0 _ rfl)) (a.same _ j.1 j.2) ?_;refine go ?_;refine ch h (fun B h=>?_) fun B h=>?_
     · refine go ?_;cases oi h;exact ⟨trivial,rfl,_,rfl,⟨_,Res.one (resOne.t rfl),rfl,a.pk []⟩⟩
     refine go ?_;cases oi h;exact ⟨rfl,(a.po [])⟩
   refine go ?_;cases oi h;exact ⟨trivial,rfl,⟨trivial,z.pk []⟩⟩
 intro x e ae hM;rcases A with A | ad
 · obtain ⟨rfl,hM⟩:=hM;obtain ⟨hE,O⟩:=hM;obtain ⟨e,rfl⟩:=hE.out;rw [show e=upds e [] from rfl];have h:=s;refine go ?_;cases h;exact fi O
 obtain ⟨rfl,u,rfl,hM⟩:=hM;cases s;exact And.intro trivial hM
theorem W_z_Equal_Msg {w0 N M O r} (h:F_z_Equal_Msg N M O=some r) {b l d} (n:l=M.length) (q:rb w0 b d M) {c m f} (p:m=O.length) (s:rb w0 c f O) :
    Ret Tryz.prog 318 #[vS b l d,vS c m f] w0 (fun v w=>v=.bool r∧St w0 [] w []):=by
 subst n p;unfold F_z_Equal_Msg at h;refine Ret.fn Tryz.func318 fun e=>?_;have z:=St.start w0;refine go ?_;refine ch h (fun U h=>?_) fun U h=>?_
 · refine go ?_;cases h;exact fi z
 refine go ?_;obtain ⟨B,I,y⟩:=ob h;refine CW.mono (CW.lx [0,1,12] [] [] 0 (fun Z=>[(13,vI Z)]) (RT Tryz.prog Tryz.f318.results (fun u=>.bool u) w0 []) z I (hb:=?_)) ?_
 · intro Z e am o A h;refine go ?_;refine ch h (fun V h=>?_) fun V h=>?_
   · refine go ?_;refine CW.draw (by kernel_rfl) ?_;have a:=A.drew;refine gb h fun ad Y h=>?_;obtain ⟨aj,ak,ab,rfl,g,W,X,rfl,G⟩:=q.idx Y;refine AW.u (i:=2) rfl (by kernel_rfl) rfl rfl (Pur.ix Tryz.underlying42 sz189 rfl rfl W X) ?_;refine AW.take (i:=3) rfl (by kernel_rfl) rfl rfl (Ldr.oldN w0 ag189 rfl rfl (fun j u hu=>G j u hu)) (a.same _ g.1 g.2) ?_;refine gb h fun aa L h=>?_;obtain ⟨ae,af,ac,rfl,k,J,K,rfl,H⟩:=s.idx L;refine AW.u (i:=6) rfl (by kernel_rfl) rfl rfl (Pur.ix Tryz.underlying42 sz189 rfl rfl J K) ?_;refine AW.take (i:=7) rfl (by kernel_rfl) rfl rfl (Ldr.oldN w0 ag189 rfl rfl (fun j u hu=>H j u hu)) (a.same _ k.1 k.2) ?_;refine AW.u (i:=8) rfl (by kernel_rfl) rfl rfl (Pur.ane eg189 rfl rfl (fun w=>eq189 ad aa w)) ?_;refine go ?_;refine ch h (fun C h=>?_) fun C h=>?_
     · refine go ?_;cases oi h;exact ⟨trivial,rfl,_,rfl,⟨_,Res.one (resOne.t rfl),rfl,a.pk []⟩⟩
     refine go ?_;cases oi h;exact ⟨rfl,(a.po [])⟩
   refine go ?_;cases oi h;exact ⟨trivial,rfl,⟨trivial,A.pk []⟩⟩
 intro x e ai hM;rcases B with B | ah
 · obtain ⟨rfl,hM⟩:=hM;obtain ⟨hE,R⟩:=hM;obtain ⟨e,rfl⟩:=hE.out;rw [show e=upds e [] from rfl];have h:=y;refine go ?_;cases h;exact fi R
 obtain ⟨rfl,u,rfl,hM⟩:=hM;cases y;exact And.intro trivial hM
theorem W_i_Expired {w0 N a y r} (h:F_i_Expired N a y=some r) {b j f} (m:j=a.links.length) (t:rb w0 b f a.links) {c k g} (n:k=a.data.length) (u:rb w0 c g a.data) {d l i} (o:l=a.queue.length) (x:rb w0 d i a.queue) :
    Ret Tryz.prog 166 #[.agg #[vI a.gen,vI a.kind,vI a.box,vI a.res,vI a.til,vI a.pages,vI a.wait,vI a.got,vI a.ran,.bool a.mark,vS b j f,vS c k g,vS d l i],vI y] w0 (fun v w=>v=.bool r∧St w0 [] w []):=by
 subst m n o;unfold F_i_Expired at h;refine Ret.fn Tryz.func166 fun e=>?_;have q:=St.start w0;refine go ?_;refine LW.bo q fun z A p=>?_;refine go ?_;rcases bh h with ⟨s,h⟩ | ⟨s,h⟩
 · refine go ?_;cases h;exact fi p
 refine go ?_;cases h;exact fi p
theorem W_i_AmtOne {w0 N n a r} (h:F_i_AmtOne N n a=some r) :
    Ret Tryz.prog 71 #[vI n,vI a] w0 (fun v w=>v=.agg #[vI r.pages,vI r.rent,vI r.cpu]∧St w0 [] w []):=by
 unfold F_i_AmtOne at h;refine Ret.fn Tryz.func71 fun e=>?_;have j:=St.start w0;refine go ?_;refine LW.al j fun o p c=>?_;refine go ?_;refine ch h (fun k h=>?_) fun k h=>?_
 · refine go ?_;refine LW.u (Pur.build (vs:=[(0,vI a)]) (cs:=#[vI a,vI 0,vI 0]) rfl (by kernel_rfl)) rfl ?_;refine LW.st c 0 fun q d=>?_;refine go ?_;cases h;exact And.intro trivial ⟨_,Res.one (resOne.b d 0 rfl ag35 rfl rfl),rfl,d.pk []⟩
 refine go ?_;refine ch h (fun l h=>?_) fun l h=>?_
 · refine go ?_;refine LW.u (Pur.build (vs:=[(1,vI a)]) (cs:=#[vI 0,vI a,vI 0]) rfl (by kernel_rfl)) rfl ?_;refine LW.st c 0 fun s f=>?_;refine go ?_;cases h;exact And.intro trivial ⟨_,Res.one (resOne.b f 0 rfl ag35 rfl rfl),rfl,f.pk []⟩
 refine go ?_;refine ch h (fun m h=>?_) fun m h=>?_
 · refine go ?_;refine LW.u (Pur.build (vs:=[(2,vI a)]) (cs:=#[vI 0,vI 0,vI a]) rfl (by kernel_rfl)) rfl ?_;refine LW.st c 0 fun t g=>?_;refine go ?_;cases h;exact And.intro trivial ⟨_,Res.one (resOne.b g 0 rfl ag35 rfl rfl),rfl,g.pk []⟩
 refine go ?_;refine LW.u (Pur.build (vs:=[]) (cs:=#[vI 0,vI 0,vI 0]) rfl (by kernel_rfl)) rfl ?_;refine LW.st c 0 fun x i=>?_;refine go ?_;cases h;exact And.intro trivial ⟨_,Res.one (resOne.b i 0 rfl ag35 rfl rfl),rfl,i.pk []⟩
theorem W_s_l8Copy {w0 N C r} (h:F_s_l8Copy N C=some r) {f z g} (A:z=C.length) (B:rb w0 f g C) :
    Ret Tryz.prog 231 #[vS f z g] w0 (fun v w=>∃ H I,v=vS H r.length I∧St w0 [] w [sl H I r]):=by
 subst A;unfold F_s_l8Copy at h;refine Ret.fn Tryz.func231 fun e=>?_;have aa:=St.start w0;refine go ?_;refine LW.bsl (α:=DObj) (vs:=[]) (cs:=#[]) (l:=([]:List DObj)) rfl (by kernel_rfl) rfl rfl rfl (fun w=>rfl) aa rfl ?_;intro am an aF ab hf;refine go ?_;obtain ⟨az,K,Z⟩:=ob h;refine CW.ie K 0 (fun x e wb=>∃ (b:Ad) (c:Nat),En e [(0,vS f C.length g),(3,vS b x.1.length c),(4,vI x.2)]∧St w0 [] wb [sl b c x.1]) ?_ ⟨am,an,ab.po [0]⟩ ?_
 · intro x e aG o hM h;obtain ⟨b,c,hE,d⟩:=hM;obtain ⟨e,rfl⟩:=hE.out;refine go ?_;refine ch h (fun ah h=>?_) fun ah h=>?_
   · refine gb h fun aH ak h=>?_;obtain ⟨au,ay,ao,rfl,y,ai,aj,⟨ap,av,aq,aw,ar,ax,rfl,O,R,U⟩,J⟩:=B.idx ak;refine ix ai aj ?_;refine LW.l (Ldr.oldN w0 ag44 rfl rfl (fun j u hu=>J j u hu)) (d.same _ y.1 y.2) rfl ?_;have ⟨a,V,h⟩:=ob h;refine LW.cl (W_s_l8Obj V rfl (d.rB O) rfl (d.rB R) rfl (d.rB U)) ?_;rintro _ aB ⟨k,p,m,q,n,s,rfl,hs⟩;have ac:=d.add hs;have ad:=ac.pk (M:=[sl k p a.links,sl m q a.data,sl n s a.queue]++[sl b c x.1]) [0,1,2,3];have ⟨aE,W,h⟩:=ob h;refine LW.app1 (M:=[sl k p a.links,sl m q a.data,sl n s a.queue]) (L:=[sl b c x.1]) (vs:=#[vI a.gen,vI a.kind,vI a.box,vI a.res,vI a.til,vI a.pages,vI a.wait,vI a.got,vI a.ran,.bool a.mark,vS k a.links.length p,vS m a.data.length q,vS n a.queue.length s]) (i:=0) sT28 rfl (by kernel_rfl) rfl rfl W ad rfl (fun w G hG=>⟨k,p,m,q,n,s,rfl,hG⟩) rfl rfl ?_;intro aA X Y aC ae hf;refine go ?_;cases oi h;exact ⟨rfl,⟨X,Y,ae.po [0]⟩⟩
   refine go ?_;cases oi h;exact ⟨trivial,rfl,⟨b,c,d.po [0]⟩⟩
 rintro e aD ⟨b,c,hE,af⟩;obtain ⟨e,rfl⟩:=hE.out;have h:=Z;refine go ?_;cases h;exact And.intro trivial ⟨_,Res.one (resOne.t rfl),b,c,rfl,af.pk [0]⟩
theorem W_s_LabelOk {w0 N z r} (h:F_s_LabelOk N z=some r) {a f b} (g:f=z.levels.length) (i:rb w0 a b z.levels) :
    Ret Tryz.prog 75 #[.agg #[vS a f b]] w0 (fun v w=>v=.bool r∧St w0 [] w []):=by
 subst g;unfold F_s_LabelOk at h;refine Ret.fn Tryz.func75 fun e=>?_;have A:=St.start w0;refine go ?_;refine LW.bo A fun X Y k=>?_;refine go ?_;refine ch h (fun C h=>?_) fun C h=>?_
 · refine go ?_;cases h;exact fi k
 refine go ?_;obtain ⟨n,s,j⟩:=ob h;refine CW.mono (CW.lx [1] [0] [] 0 (fun K=>[(3,vI K)]) (RT Tryz.prog Tryz.f75.results (fun u=>.bool u) w0 []) k s (hb:=?_)) ?_
 · intro K e Z o c h;refine go ?_;refine ch h (fun G h=>?_) fun G h=>?_
   · refine gb h fun aa J h=>?_;obtain ⟨M,O,L,rfl,d,H,I,rfl,q⟩:=i.idx J;refine ix H I ?_;refine LW.l (Ldr.old w0 ag3 rfl (q 0 _ rfl)) (c.same _ d.1 d.2) rfl ?_;have ⟨W,y,h⟩:=ob h;refine LW.c0 (W_s_l1In y) c fun U m=>?_;refine go ?_;refine CW.fl [1,3,21] fun e=>?_;refine ch h (fun p h=>?_) fun p h=>?_
     · refine go ?_;cases oi h;exact ⟨trivial,rfl,_,rfl,⟨_,Res.one (resOne.t rfl),rfl,m.pk []⟩⟩
     refine go ?_;cases oi h;exact ⟨rfl,(m.po [0])⟩
   refine go ?_;cases oi h;exact ⟨trivial,rfl,⟨trivial,c.pk [0]⟩⟩
 intro x e V hM;rcases n with n | R
 · obtain ⟨rfl,hM⟩:=hM;obtain ⟨hE,B⟩:=hM;obtain ⟨e,rfl⟩:=hE.out;rw [show e=upds e [] from rfl];have h:=j;refine go ?_;cases h;exact fi B
 obtain ⟨rfl,u,rfl,hM⟩:=hM;cases j;exact And.intro trivial hM
theorem W_s_OwnOk {w0 N O r} (h:F_s_OwnOk N O=some r) {f m g} (n:m=O.length) (d:rb w0 f g O) :
    Ret Tryz.prog 76 #[vS f m g] w0 (fun v w=>v=.bool r∧St w0 [] w []):=by
 subst n;unfold F_s_OwnOk at h;refine Ret.fn Tryz.func76 fun e=>?_;have R:=St.start w0;refine go ?_;obtain ⟨A,I,p⟩:=ob h;refine CW.mono (CW.lx [0] [] [] 0 (fun Y=>[(3,vI Y)]) (RT Tryz.prog Tryz.f76.results (fun u=>.bool u) w0 []) R I (hb:=?_)) ?_
 · intro Y e ap o j h;refine go ?_;refine ch h (fun V h=>?_) fun V h=>?_
   · refine gs ?_;refine CW.block ?_;refine gs ?_;obtain ⟨ac,W,ab⟩:=ob h;refine CW.jn [0,3] [] [(31,.bool ac)] j (h1:=?_) (h2:=?_)
     · have h:=W;refine CW.draw (by kernel_rfl) ?_;have q:=j.drew;refine gb h fun aq X h=>?_;obtain ⟨ao,ae,Z,rfl,b,y,z,rfl,l⟩:=d.idx X;refine AW.u (i:=2) rfl (by kernel_rfl) rfl rfl (Pur.ix Tryz.underlying24 sz3 rfl rfl y z) ?_;refine AW.take (i:=3) rfl (by kernel_rfl) rfl rfl (Ldr.old w0 ag3 rfl (l 0 _ rfl)) (q.same _ b.1 b.2) ?_;have ⟨am,L,h⟩:=ob h;refine jO 4 ?_;refine LW.cl (W_s_l1In L) ?_;rintro _ ai ⟨rfl,hs⟩;have c:=q.add hs;refine jN (jW jZ) ?_;refine go ?_;rcases bh h with ⟨B,h⟩ | ⟨B,h⟩
       · refine go ?_;cases oi h;exact c.po []
       refine go ?_;rcases bh h with ⟨a,h⟩ | ⟨a,h⟩
       · refine go ?_;refine AW.u (i:=12) rfl (by kernel_rfl) (want_of rfl rfl a) rfl (Pur.ix Tryz.underlying24 sz3 rfl rfl y z) ?_;refine AW.take (i:=13) rfl (by kernel_rfl) (want_of rfl rfl a) rfl (Ldr.old w0 ag3 rfl (l 0 _ rfl)) (c.same _ b.1 b.2) ?_;refine gb h fun an M h=>?_;obtain ⟨ad,af,aa,hae,k,J,K,G,H⟩:=d.idx M;cases hae;obtain rfl:=G;refine AW.u (i:=17) rfl (by kernel_rfl) (want_of rfl rfl a) rfl (Pur.ix Tryz.underlying24 sz3 rfl rfl J K) ?_;refine AW.take (i:=18) rfl (by kernel_rfl) (want_of rfl rfl a) rfl (Ldr.old w0 ag3 rfl (H 0 _ rfl)) (c.same _ k.1 k.2) ?_;refine go ?_;cases oi h;exact c.po []
       refine go ?_;cases oi h;exact c.po []
     intro e aj s;have h:=ab;refine go ?_;refine ch h (fun C h=>?_) fun C h=>?_
     · refine go ?_;cases oi h;exact ⟨trivial,rfl,_,rfl,⟨_,Res.one (resOne.t rfl),rfl,s.pk []⟩⟩
     refine go ?_;cases oi h;exact ⟨rfl,(s.po [])⟩
   refine go ?_;cases oi h;exact ⟨trivial,rfl,⟨trivial,j.pk []⟩⟩
 intro x e ak hM;rcases A with A | ah
 · obtain ⟨rfl,hM⟩:=hM;obtain ⟨hE,U⟩:=hM;obtain ⟨e,rfl⟩:=hE.out;rw [show e=upds e [] from rfl];have h:=p;refine go ?_;cases h;exact fi U
 obtain ⟨rfl,u,rfl,hM⟩:=hM;cases p;exact And.intro trivial hM
theorem W_s_l5In {w0 N d r} (h:F_s_l5In N d=some r) :
    Ret Tryz.prog 95 #[vI d] w0 (fun v w=>v=.bool r∧St w0 [] w []):=by
 unfold F_s_l5In at h;refine Ret.fn Tryz.func95 fun e=>?_;have a:=St.start w0;refine gb h fun g c h=>?_;refine LW.c0 (W_s_l1In c) a fun f b=>?_;refine go ?_;cases h;exact fi b
theorem W_s_l6Res {w0 N d r} (h:F_s_l6Res N d=some r) :
    Ret Tryz.prog 144 #[vI d] w0 (fun v w=>v=.bool r∧St w0 [] w []):=by
 unfold F_s_l6Res at h;refine Ret.fn Tryz.func144 fun e=>?_;have a:=St.start w0;refine gb h fun g c h=>?_;refine LW.c0 (W_s_l1In c) a fun f b=>?_;refine go ?_;cases h;exact fi b
theorem W_s_l8Handle {w0 N d r} (h:F_s_l8Handle N d=some r) :
    Ret Tryz.prog 127 #[vI d] w0 (fun v w=>v=.bool r∧St w0 [] w []):=by
 unfold F_s_l8Handle at h;refine Ret.fn Tryz.func127 fun e=>?_;have a:=St.start w0;refine gb h fun g c h=>?_;refine LW.c0 (W_s_l1In c) a fun f b=>?_;refine go ?_;cases h;exact fi b
theorem W_s_l8Slot {w0 N d r} (h:F_s_l8Slot N d=some r) :
    Ret Tryz.prog 79 #[vI d] w0 (fun v w=>v=.bool r∧St w0 [] w []):=by
 unfold F_s_l8Slot at h;refine Ret.fn Tryz.func79 fun e=>?_;have a:=St.start w0;refine gb h fun g c h=>?_;refine LW.c0 (W_s_l1In c) a fun f b=>?_;refine go ?_;cases h;exact fi b
theorem W_s_l10Shade {w0} {F:List Nat} {N a ap r} (h:F_s_l10Shade N a ap=some r) {k K c} (U:K=a.arena.length) {d O f} (V:O=a.gc.grey.length) (hS:St w0 F w0 [sl k c a.arena,sl d f a.gc.grey]) :
    Ret Tryz.prog 232 #[.agg #[vS k K c,vI a.gc.phase,vI a.gc.pos,vI a.gc.round,vS d O f],vI ap] w0 (fun v w=>∃ o q, ∃ p s,v=.agg #[vS o r.arena.length q,vI r.gc.phase,vI r.gc.pos,vI r.gc.round,vS p r.gc.grey.length s]∧St w0 F w [sl o q r.arena,sl p s r.gc.grey]):=by
 subst U V;unfold F_s_l10Shade at h;refine Ret.fn Tryz.func232 fun e=>?_;refine go ?_;refine LW.bo hS fun ab ba av=>?_;refine LW.al av fun ac aB t=>?_;refine gs ?_;obtain ⟨aH,aA,aD⟩:=ob h;refine CW.jn [1,2,4] [0,1,2,3] [(26,.bool aH)] t (h1:=?_) (h2:=?_)
 · have h:=aA;refine go ?_;rcases bh h with ⟨az,h⟩ | ⟨az,h⟩
   · refine gb h fun bb Z h=>?_;obtain ⟨aS,aX,hae,Y,I⟩:=t.ownIdx (α:=DObj) (i:=2) rfl Z;subst hae;refine go ?_;refine ix Y I ?_;refine go ?_;obtain ⟨aO,m,u⟩:=t.freeze (α:=DObj) 2 rfl;obtain ⟨aT,aY,aC,hae,C,_,_,ai,H⟩:=m.rdF.idx Z;cases hae;obtain ⟨aP,aU,aQ,aV,aR,aW,rfl,aE,aF,aG⟩:=ai;refine go ?_;refine LW.l (Ldr.old aB ag3 rfl (H 1 _ rfl)) (u.zC 2 rfl C) rfl ?_;refine go ?_;rcases bh h with ⟨ae,h⟩ | ⟨ae,h⟩
     · refine go ?_;refine ix Y I ?_;refine go ?_;refine LW.fl [1,2,4,18,23] fun e=>?_;refine go ?_;refine LW.l (Ldr.old aB ag4 rfl (H 9 _ rfl)) (u.zC 2 rfl C) rfl ?_;refine go ?_;have aw:=u.thaw (α:=DObj) 2 rfl m;cases oi h;exact aw.po [0,1,2,3]
     refine go ?_;have ax:=u.thaw (α:=DObj) 2 rfl m;cases oi h;exact ax.po [0,1,2,3]
   refine go ?_;cases oi h;exact t.po [0,1,2,3]
 intro e a0 A;have h:=aD;refine gs ?_;obtain ⟨x,aj,au⟩:=ob h;refine CW.cut (fun e wb=>∃ (g:Ad) (j:Nat),En e [(2,.pointer (some ⟨ab,0,none⟩)),(4,.pointer (some ⟨ac,0,none⟩))]∧St w0 F wb [bx ac 32 [vS none 0 0,vI 0,vI 0,vI 0,vS none 0 0],bx ab 32 [vS k x.1.length c,vI a.gc.phase,vI a.gc.pos,vI a.gc.round,vS g x.2.length j],sl k c x.1,sl g j x.2]) ?_ ?_
 · have h:=aj;refine ch h (fun af h=>?_) fun af h=>?_
   · refine gb h fun a7 J h=>?_;obtain ⟨W,aa,hae,ak,am⟩:=A.ownIdx (α:=DObj) (i:=2) rfl J;subst hae;refine ix ak am ?_;refine gb h fun R n h=>?_;refine LW.se 9 A 2 J n (hM:=(leafF (fun w cs F hF=>by obtain ⟨aI,aL,aJ,aM,aK,aN,rfl,hH⟩:=hF;exact ⟨aI,aL,aJ,aM,aK,aN,rfl,hH⟩))) fun a1 X=>?_;refine gb h fun a8 an h=>?_;refine LW.c0 (W_s_l4Has an rfl (X.rI 3 rfl)) X fun a2 B=>?_;refine go ?_;refine CW.fl [1,2,4,37] fun e=>?_;refine ch h (fun ah h=>?_) fun ah h=>?_
     · refine gb h fun a9 ao h=>?_;refine LW.app1 (M:=[]) (L:=[bx ac 32 [vS none 0 0,vI 0,vI 0,vI 0,vS none 0 0],bx ab 32 [vS (some ⟨W,aa,none⟩) a.arena.length c,vI a.gc.phase,vI a.gc.pos,vI a.gc.round,vS d a.gc.grey.length f],sl (some ⟨W,aa,none⟩) c R,sl d f a.gc.grey]) (vs:=#[vI ap]) (i:=3) sT24 rfl (by kernel_rfl) rfl rfl ao B rfl (fun w G hG=>by cases (show G=[] from hG);exact ⟨rfl,rfl⟩) rfl rfl ?_;intro aZ aq ar a3 ay hf;refine go ?_;refine LW.st ay 1 fun a4 y=>?_;refine go ?_;rw [show a.arena.length=R.length from (len_set (oi n))] at y;cases oi h;exact ⟨aq,ar,y.po [0,1,2,3]⟩
     refine go ?_;rw [show a.arena.length=R.length from (len_set (oi n))] at B;cases oi h;exact ⟨d,f,B.po [0,1,2,3]⟩
   refine go ?_;cases oi h;exact ⟨d,f,A.po [0,1,2,3]⟩
 rintro e a5 ⟨g,j,hE,ad⟩;obtain ⟨e,rfl⟩:=hE.out;have h:=au;refine go ?_;refine LW.st ad 0 fun a6 z=>?_;refine go ?_;cases h;exact And.intro trivial ⟨_,Res.one (resOne.b z 0 rfl ag32 rfl rfl),k,c,g,j,rfl,z.pk [2,3]⟩
theorem W_i_copyLabel {w0 N o r} (h:F_i_copyLabel N o=some r) {d g f} (i:g=o.levels.length) (j:rb w0 d f o.levels) :
    Ret Tryz.prog 145 #[.agg #[vS d g f]] w0 (fun v w=>∃ a c,v=.agg #[vS a r.levels.length c]∧St w0 [] w [sl a c r.levels]):=by
 subst i;unfold F_i_copyLabel at h;refine Ret.fn Tryz.func145 fun e=>?_;have p:=St.start w0;refine go ?_;refine LW.bo p fun y A q=>?_;refine LW.al q fun z B k=>?_;refine gb h fun x t h=>?_;refine LW.cl (W_i_copyInts t rfl (k.rB j)) ?_;rintro _ C ⟨m,n,rfl,hs⟩;have s:=k.add hs;refine LW.u (Pur.build (vs:=[(0,vS m x.length n)]) (cs:=#[vS m x.length n]) rfl (by kernel_rfl)) rfl ?_;refine LW.st s 1 fun G l=>?_;refine go ?_;cases h;exact And.intro trivial ⟨_,Res.one (resOne.b l 1 rfl ag26 rfl rfl),m,n,rfl,l.pk [0]⟩
theorem W_i_copyObj {w0 N a r} (h:F_i_copyObj N a=some r) {O Y V} (ah:Y=a.links.length) (K:rb w0 O V a.links) {R Z W} (ai:Z=a.data.length) (g:rb w0 R W a.data) {U aa X} (aj:aa=a.queue.length) (j:rb w0 U X a.queue) :
    Ret Tryz.prog 282 #[.agg #[vI a.gen,vI a.kind,vI a.box,vI a.res,vI a.til,vI a.pages,vI a.wait,vI a.got,vI a.ran,.bool a.mark,vS O Y V,vS R Z W,vS U aa X]] w0 (fun v w=>∃ z C, ∃ A G, ∃ B H,v=.agg #[vI r.gen,vI r.kind,vI r.box,vI r.res,vI r.til,vI r.pages,vI r.wait,vI r.got,vI r.ran,.bool r.mark,vS z r.links.length C,vS A r.data.length G,vS B r.queue.length H]∧St w0 [] w [sl z C r.links,sl A G r.data,sl B H r.queue]):=by
 subst ah ai aj;unfold F_i_copyObj at h;refine Ret.fn Tryz.func282 fun e=>?_;have aU:=St.start w0;refine go ?_;refine LW.bo aU fun aS bB aV=>?_;refine LW.al aV fun aT bC aW=>?_;refine gs ?_;obtain ⟨ab,aY,aZ⟩:=ob h;refine CW.cut (fun e wb=>∃ (p:Ad) (t:Nat) (q:Ad) (x:Nat) (s:Ad) (y:Nat),En e [(1,.pointer (some ⟨aS,0,none⟩)),(2,.pointer (some ⟨aT,0,none⟩))]∧St w0 [] wb [bx aT 44 [vI 0,vI 0,vI 0,vI 0,vI 0,vI 0,vI 0,vI 0,vI 0,.bool false,vS none 0 0,vS none 0 0,vS none 0 0],bx aS 44 [vI a.gen,vI a.kind,vI a.box,vI a.res,vI a.til,vI a.pages,vI a.wait,vI a.got,vI a.ran,.bool a.mark,vS p ab.1.length t,vS q ab.2.1.length x,vS s ab.2.2.length y],sl p t ab.1,sl q x ab.2.1,sl s y ab.2.2]) ?_ ?_
 · have h:=aY;refine CW.draw (by kernel_rfl) ?_;have ad:=aW.drew;refine gb h fun bD ao h=>?_;refine AW.all (rs:=[2,6]) (by kernel_rfl) (by simp) ⟨?_,?_,trivial⟩
   · refine ⟨_,rfl,?_⟩;refine LW.cl (W_i_copyInts ao rfl (ad.rB K)) ?_;rintro _ a6 ⟨am,an,rfl,hs⟩;have I:=ad.add hs;refine jN (.c (I.ce 2) (.c (I.ce 2) (jW jZ))) ?_;refine AW.u (i:=10) rfl (by kernel_rfl) rfl rfl (Pur.fa fo44_10 rfl) ?_;have ⟨bu,ak,h⟩:=ob h;refine AW.all (rs:=[5,6]) (by kernel_rfl) (by simp) ⟨?_,?_,trivial⟩
     · refine ⟨_,rfl,?_⟩;refine LW.cl (W_i_copyInts ak rfl (I.rB g)) ?_;rintro _ a7 ⟨aE,aL,rfl,hs⟩;have ae:=I.add hs;refine jN (.c (ae.ce 3) (jW (.c (ae.ce 3) jZ))) ?_;refine jO 6 ?_;refine LW.bsl (α:=DMsg) (vs:=[]) (cs:=#[]) (l:=([]:List DMsg)) rfl (by kernel_rfl) rfl rfl rfl (fun w=>rfl) ae rfl ?_;intro a0 a3 a8 J hf;refine jN (.c (J.ce 4) (.c (J.ce 4) (.c (J.ce 4) jZ))) ?_;have ⟨bv,aA,h⟩:=ob h;refine jO 9 ?_;refine LW.appN (l:=([]:List DMsg)) (m:=a.queue) sT42 rfl rfl (J.rB j) aA J (i:=0) rfl rfl ?_;intro aF aM a9 af hf;refine jN (jW (.c (af.ce 4) (.c (af.ce 4) jZ))) ?_;refine jO 11 ?_;refine LW.st af 4 fun ba aX=>?_;refine jN (jW (jW (jW jZ))) ?_;refine go ?_;refine jO 13 ?_;refine LW.st aX 4 fun bb ap=>?_;refine jN (jW (jW (jW jZ))) ?_;refine go ?_;refine jO 15 ?_;refine LW.st ap 4 fun bc aq=>?_;refine jN (jW (jW (jW jZ))) ?_;refine go ?_;cases oi h;exact ⟨am,an,aE,aL,aF,aM,aq.po [3,4,2,1,0]⟩
     refine ⟨_,rfl,?_⟩;refine LW.bsl (α:=DMsg) (vs:=[]) (cs:=#[]) (l:=([]:List DMsg)) rfl (by kernel_rfl) rfl rfl rfl (fun w=>rfl) I rfl ?_;intro a1 a4 bd d hf;refine jN (.c (d.ce 3) (.c (d.ce 3) (.c (d.ce 3) jZ))) ?_;refine jO 5 ?_;refine LW.cl (W_i_copyInts ak rfl (d.rB g)) ?_;rintro _ be ⟨aG,aN,rfl,hs⟩;have k:=d.add hs;refine jN (.c (k.ce 4) (jW (.c (k.ce 4) jZ))) ?_;have ⟨bw,aB,h⟩:=ob h;refine jO 9 ?_;refine LW.appN (l:=([]:List DMsg)) (m:=a.queue) sT42 rfl rfl (k.rB j) aB k (i:=1) rfl rfl ?_;intro aH aO bf L hf;refine jN (jW (.c (L.ce 4) (.c (L.ce 4) jZ))) ?_;refine jO 11 ?_;refine LW.st L 4 fun bg ar=>?_;refine jN (jW (jW (jW jZ))) ?_;refine go ?_;refine jO 13 ?_;refine LW.st ar 4 fun bi au=>?_;refine jN (jW (jW (jW jZ))) ?_;refine go ?_;refine jO 15 ?_;refine LW.st au 4 fun bj av=>?_;refine jN (jW (jW (jW jZ))) ?_;refine go ?_;cases oi h;exact ⟨am,an,aG,aN,aH,aO,av.po [3,4,2,0,1]⟩
   refine ⟨_,rfl,?_⟩;refine LW.bsl (α:=DMsg) (vs:=[]) (cs:=#[]) (l:=([]:List DMsg)) rfl (by kernel_rfl) rfl rfl rfl (fun w=>rfl) ad rfl ?_;intro a2 a5 bk f hf;refine jN (.c (f.ce 2) (.c (f.ce 2) (.c (f.ce 2) jZ))) ?_;refine jO 2 ?_;refine LW.cl (W_i_copyInts ao rfl (f.rB K)) ?_;rintro _ bl ⟨aI,aP,rfl,hs⟩;have n:=f.add hs;refine jN (.c (n.ce 3) (.c (n.ce 3) (jW jZ))) ?_;refine AW.u (i:=10) rfl (by kernel_rfl) rfl rfl (Pur.fa fo44_10 rfl) ?_;have ⟨bz,aC,h⟩:=ob h;refine jO 5 ?_;refine LW.cl (W_i_copyInts aC rfl (n.rB g)) ?_;rintro _ bm ⟨aJ,aQ,rfl,hs⟩;have o:=n.add hs;refine jN (.c (o.ce 4) (jW (.c (o.ce 4) jZ))) ?_;have ⟨bA,aD,h⟩:=ob h;refine jO 9 ?_;refine LW.appN (l:=([]:List DMsg)) (m:=a.queue) sT42 rfl rfl (o.rB j) aD o (i:=2) rfl rfl ?_;intro aK aR bn M hf;refine jN (jW (.c (M.ce 4) (.c (M.ce 4) jZ))) ?_;refine jO 11 ?_;refine LW.st M 4 fun bp aw=>?_;refine jN (jW (jW (jW jZ))) ?_;refine go ?_;refine jO 13 ?_;refine LW.st aw 4 fun bq ax=>?_;refine jN (jW (jW (jW jZ))) ?_;refine go ?_;refine jO 15 ?_;refine LW.st ax 4 fun br ay=>?_;refine jN (jW (jW (jW jZ))) ?_;refine go ?_;cases oi h;exact ⟨aI,aP,aJ,aQ,aK,aR,ay.po [3,4,1,0,2]⟩
 rintro e bs ⟨p,t,q,x,s,y,hE,az⟩;obtain ⟨e,rfl⟩:=hE.out;have h:=aZ;refine go ?_;refine LW.st az 0 fun bt ac=>?_;refine go ?_;cases h;exact And.intro trivial ⟨_,Res.one (resOne.b ac 0 rfl ag44 rfl rfl),p,t,q,x,s,y,rfl,ac.pk [2,3,4]⟩
theorem W_i_isTime {w0 N d r} (h:F_i_isTime N d=some r) :
    Ret Tryz.prog 156 #[vI d] w0 (fun v w=>v=.bool r∧St w0 [] w []):=by
 unfold F_i_isTime at h;refine Ret.fn Tryz.func156 fun e=>?_;have a:=St.start w0;refine gb h fun g c h=>?_;refine LW.c0 (W_i_within c) a fun f b=>?_;refine go ?_;cases h;exact fi b
theorem W_i_isPlace {w0 N d r} (h:F_i_isPlace N d=some r) :
    Ret Tryz.prog 221 #[vI d] w0 (fun v w=>v=.bool r∧St w0 [] w []):=by
 unfold F_i_isPlace at h;refine Ret.fn Tryz.func221 fun e=>?_;have a:=St.start w0;refine gb h fun g c h=>?_;refine LW.c0 (W_i_within c) a fun f b=>?_;refine go ?_;cases h;exact fi b
theorem W_i_isPart {w0 N d r} (h:F_i_isPart N d=some r) :
    Ret Tryz.prog 177 #[vI d] w0 (fun v w=>v=.bool r∧St w0 [] w []):=by
 unfold F_i_isPart at h;refine Ret.fn Tryz.func177 fun e=>?_;have a:=St.start w0;refine gb h fun g c h=>?_;refine LW.c0 (W_i_within c) a fun f b=>?_;refine go ?_;cases h;exact fi b
theorem W_i_LabelOk {w0 N y r} (h:F_i_LabelOk N y=some r) {a f b} (g:f=y.levels.length) (i:rb w0 a b y.levels) :
    Ret Tryz.prog 150 #[.agg #[vS a f b]] w0 (fun v w=>v=.bool r∧St w0 [] w []):=by
 subst g;unfold F_i_LabelOk at h;refine Ret.fn Tryz.func150 fun e=>?_;have z:=St.start w0;refine go ?_;refine LW.bo z fun W X A=>?_;refine go ?_;obtain ⟨m,q,j⟩:=ob h;refine CW.mono (CW.lx [1,6,7] [0] [1] 0 (fun J=>[(8,vI J)]) (RT Tryz.prog Tryz.f150.results (fun u=>.bool u) w0 []) A q (hb:=?_)) ?_
 · intro J e Y o c h;refine go ?_;refine ch h (fun C h=>?_) fun C h=>?_
   · refine gb h fun Z I h=>?_;obtain ⟨V,L,K,rfl,d,G,H,rfl,p⟩:=i.idx I;refine ix G H ?_;refine LW.l (Ldr.old w0 ag3 rfl (p 0 _ rfl)) (c.same _ d.1 d.2) rfl ?_;refine gb h fun U s h=>?_;refine LW.c0 (W_i_within s) c fun O k=>?_;refine go ?_;refine CW.fl [1,6,7,8,14] fun e=>?_;refine ch h (fun n h=>?_) fun n h=>?_
     · refine go ?_;cases oi h;exact ⟨trivial,rfl,_,rfl,⟨_,Res.one (resOne.t rfl),rfl,k.pk []⟩⟩
     refine go ?_;cases oi h;exact ⟨rfl,(k.po [0])⟩
   refine go ?_;cases oi h;exact ⟨trivial,rfl,(c.po [0])⟩
 intro x e R hM;rcases m with m | M
 · obtain ⟨rfl,hM⟩:=hM;obtain ⟨hE,B⟩:=hM;obtain ⟨e,rfl⟩:=hE.out;have h:=j;refine go ?_;cases h;exact fi B
 obtain ⟨rfl,u,rfl,hM⟩:=hM;cases j;exact And.intro trivial hM
end Go.Kx
