import Derived.Test.YtdlodpchnaojhaaGreatFa
import Derived.Test.YtdlodpchnaojhaaGreatPu
namespace Go.Kx
open Go Go.RowKit Go.Proofs
open Go.IntKind (i64)
open Tryz
set_option maxRecDepth 10000
set_option maxHeartbeats 8000000
set_option linter.unusedVariables false
set_option linter.unusedSimpArgs false
theorem sJ {w0 N b d f r} (h:iD N b d f=some r) :
    gV prog 58 #[vI b,vI d,vI f] w0 (fun v w=>v=.bool r∧St w0 [] w []):=by
 unfold iD at h;refine gV.fn func58 fun e=>?_;have g:=St.start w0;refine gB h ?_ ?_<;>intro _ h
 · exact rt
 exact rt
instance k_58:Ct prog 58:=⟨by kernel_rfl,@sJ⟩
theorem HD {w0 N b r} (h:sM N b=some r) {o A u} (H:A=b.gX.length) (K:rb w0 o u b.gX) {p B x} (I:B=b.N8.length) (L:rb w0 p x b.N8) {q C z} (J:C=b.N4.length) (M:rb w0 q z b.N4) :
    gV prog 305 #[.agg #[vI b.Oe,vI b.N0,vI b.box,vI b.Od,vI b.iw,vI b.gE,vI b.N9,vI b.iv,vI b.iu,.bool b.Ob,vS o A u,vS p B x,vS q C z]] w0 (fun v w=>∃ d j, ∃ f k, ∃ g n,v=.agg #[vI r.Oe,vI r.N0,vI r.box,vI r.Od,vI r.iw,vI r.gE,vI r.N9,vI r.iv,vI r.iu,.bool r.Ob,vS d r.gX.length j,vS f r.N8.length k,vS g r.N4.length n]∧St w0 [] w [sl d j r.gX,sl f k r.N8,sl g n r.N4]):=by
 subst H I J;unfold sM at h;refine gV.fn func305 fun e=>?_;have ao:=St.start w0;refine T ?_;intro aI aK ap aJ aL W;refine LW.b0 (α:=Int) W ?_;intro aF aH aM O hf;refine gb h fun aN Z h=>?_;refine LW.jG (l:=([]:List Int)) (m:=b.gX) pH rfl rfl (O.rB K) Z O (i:=0) rfl rfl ?_;intro aG ai au aq hf;refine T ?_;intro av X;refine LW.b0 (α:=Int) X ?_;intro ad aj aw R hf;refine gb h fun aD U h=>?_;refine LW.jG (l:=([]:List Int)) (m:=b.N8) pH rfl rfl (R.rB L) U R (i:=0) rfl rfl ?_;intro ae ak ax ar hf;refine T ?_;intro ay Y;refine LW.b0 (α:=iS) Y ?_;intro af am az G hf;refine gb h fun aE V h=>?_;refine LW.jG (l:=([]:List iS)) (m:=b.N4) oI rfl rfl (G.rB M) V G (i:=0) rfl rfl ?_;intro ah an aA aa hf;refine T ?_;intro aB ab aC ac;exact rt
instance k_305:Ct prog 305:=⟨by kernel_rfl,@HD⟩
theorem HN {w0 N m z r} (h:lV N m z=some r) {b f d} (g:f=m.length) (i:rb w0 b d m) :
    gV prog 148 #[vS b f d,vI z] w0 (fun v w=>v=.bool r∧St w0 [] w []):=by
 subst g;unfold lV at h;refine gV.fn func148 fun e=>?_;have n:=St.start w0;refine go ?_;obtain ⟨k,l,j⟩:=ob h;refine CW.mono (CW.lx [0,1] [] [] 0 (fun q=>[(5,vI q)]) (RT prog f148.results (fun u=>.bool u) w0 []) n l (hb:=?_)) ?_
 · intro q e R o G h;refine gc h ?_ ?_<;>intro _ h
   · refine gb h fun U p h=>?_;obtain ⟨M,O,C,rfl,A,I,J,rfl,B⟩:=i.idx p;refine go ?_;refine T ?_;refine CW.fl [0,1,5,17] fun e=>?_;refine gc h ?_ ?_<;>intro _ h
     · exact rt
     exact rt
   exact rt
 intro x e L hM;rcases k with k | K
 · obtain ⟨rfl,hM⟩:=hM;obtain ⟨e,rfl,H⟩:=eo hM;rw [show e=im e [] from rfl];have h:=j;exact rt
 obtain ⟨rfl,u,rfl,hM⟩:=hM;cases j;exact And.intro trivial hM
instance k_148:Ct prog 148:=⟨by kernel_rfl,@HN⟩
theorem AB {w0 N k r} (h:kH N k=some r) {b f d} (g:f=k.length) (j:rb w0 b d k) :
    gV prog 236 #[vS b f d] w0 (fun v w=>∃ n o,v=vS n r.length o∧St w0 [] w [sl n o r]):=by
 subst g;unfold kH at h;refine gV.fn func236 fun e=>?_;have q:=St.start w0;refine go ?_;refine LW.b0 (α:=g7) q ?_;intro z B G p hf;refine gb h fun I u h=>?_;refine LW.jG (l:=([]:List g7)) (m:=k) G7 rfl rfl (p.rB j) u p (i:=0) rfl rfl ?_;intro A C H x hf;exact rt
instance k_236:Ct prog 236:=⟨by kernel_rfl,@AB⟩
theorem Iq {w0 N x r} (h:qF N x=some r) {g n i} (q:n=x.length) (u:rb w0 g i x) :
    gV prog 217 #[vS g n i] w0 (fun v w=>v=.agg #[vI r.gE,vI r.gT,vI r.g8]∧St w0 [] w []):=by
 subst q;unfold qF at h;refine gV.fn func217 fun e=>?_;have K:=St.start w0;refine go ?_;refine LW.al K fun H ai L=>?_;refine jj [] #[vI 0,vI 0,vI 0] ?_;refine LW.al L fun I aj M=>?_;refine LW.st M 0 fun ak O=>?_;refine go ?_;obtain ⟨ab,G,J⟩:=ob h;refine CW.ie G 0 (fun p e wb=>En e [(0,vS g x.length i),(2,.pointer (some ⟨H,0,none⟩)),(3,.pointer (some ⟨I,0,none⟩)),(4,vI p.1)]∧St w0 [] wb [bx I 43 [vI p.2.1,vI p.2.2.1,vI p.2.2.2],bx H 43 [vI 0,vI 0,vI 0]]) ?_ (O.po [0,1]) ?_
 · intro p e am o hM h;obtain ⟨hE,j⟩:=hM;obtain ⟨e,rfl⟩:=hE.out;refine gc h ?_ ?_<;>intro _ h
   · refine gb h fun an V h=>?_;obtain ⟨Z,aa,W,rfl,d,X,Y,rfl,f⟩:=u.idx V;refine go ?_;refine LW.l (jf.jX w0 Mr rfl (f 0 _ rfl)) (j.same _ d.1 d.2) rfl ?_;refine jE [0,2,3,4,16] fun e=>?_;refine gc h ?_ ?_<;>intro _ h
     · refine jA ?_;have z:=j.drew;refine go ?_;refine AW.tk 7 rfl (jf.jX w0 mK rfl (f 2 _ rfl)) (z.same _ d.1 d.2) ?_;refine zr 10 ?_;refine LW.st z 0 fun ac R=>?_;refine jN (jW (jW jZ)) ?_;refine jA ?_;have A:=R.drew;refine go ?_;refine AW.tk 7 rfl (jf.jX w0 mK rfl (f 3 _ rfl)) (A.same _ d.1 d.2) ?_;refine zr 10 ?_;refine LW.st A 0 fun ad U=>?_;refine jN (jW (jW jZ)) ?_;refine jA ?_;have k:=U.drew;refine go ?_;refine AW.tk 7 rfl (jf.jX w0 mK rfl (f 4 _ rfl)) (k.same _ d.1 d.2) ?_;refine zr 10 ?_;refine LW.st k 0 fun ae B=>?_;refine jN (jW (jW jZ)) ?_;refine go ?_;cases oi h;exact ⟨rfl,(B.po [0,1])⟩
     refine go ?_;cases oi h;exact ⟨rfl,(j.po [0,1])⟩
   refine go ?_;cases oi h;exact ⟨trivial,rfl,(j.po [0,1])⟩
 rintro e af ⟨hE,C⟩;obtain ⟨e,rfl⟩:=hE.out;have h:=J;refine uz C 1 fun ah m=>?_;refine go ?_;cases h;exact And.intro trivial ⟨_,kt.one (ib.b m 1 rfl JF rfl rfl),rfl,m.pk []⟩
instance k_217:Ct prog 217:=⟨by kernel_rfl,@Iq⟩
theorem Et {w0 N b d r} (h:qc N b d=some r) :
    gV prog 253 #[.agg #[vI b.gE,vI b.gT,vI b.g8],vI d] w0 (fun v w=>v=vI r∧St w0 [] w []):=by
 unfold qc at h;refine gV.fn func253 fun e=>?_;have f:=St.start w0;refine T ?_;intro i j g;refine gc h ?_ ?_<;>intro _ h
 · exact rt
 refine gc h ?_ ?_<;>intro _ h
 · exact rt
 refine gc h ?_ ?_<;>intro _ h
 · exact rt
 exact rt
instance k_253:Ct prog 253:=⟨by kernel_rfl,@Et⟩
theorem GQ {w0 N d b r} (h:rr N d b=some r) :
    gV prog 251 #[vI d,vI b] w0 (fun v w=>v=.agg #[vI r.gE,vI r.gT,vI r.g8]∧St w0 [] w []):=by
 unfold rr at h;refine gV.fn func251 fun e=>?_;have f:=St.start w0;refine T ?_;intro m n g;refine gc h ?_ ?_<;>intro _ h
 · refine jj [(0,vI b)] #[vI b,vI 0,vI 0] ?_;refine T ?_;intro o i;exact rt
 refine gc h ?_ ?_<;>intro _ h
 · refine jj [(1,vI b)] #[vI 0,vI b,vI 0] ?_;refine T ?_;intro p j;exact rt
 refine gc h ?_ ?_<;>intro _ h
 · refine jj [(2,vI b)] #[vI 0,vI 0,vI b] ?_;refine T ?_;intro q k;exact rt
 refine jj [] #[vI 0,vI 0,vI 0] ?_;refine T ?_;intro u l;exact rt
instance k_251:Ct prog 251:=⟨by kernel_rfl,@GQ⟩
theorem EL {w0 N b A r} (h:lG N b A=some r) {d l i} (o:l=b.gX.length) (u:rb w0 d i b.gX) {f m j} (p:m=b.N8.length) (x:rb w0 f j b.N8) {g n k} (q:n=b.N4.length) (z:rb w0 g k b.N4) :
    gV prog 302 #[.agg #[vI b.Oe,vI b.N0,vI b.box,vI b.Od,vI b.iw,vI b.gE,vI b.N9,vI b.iv,vI b.iu,.bool b.Ob,vS d l i,vS f m j,vS g n k],vI A] w0 (fun v w=>v=.bool r∧St w0 [] w []):=by
 subst o p q;unfold lG at h;refine gV.fn func302 fun e=>?_;have B:=St.start w0;refine T ?_;intro G H C;refine gB h ?_ ?_<;>intro _ h
 · exact rt
 exact rt
instance k_302:Ct prog 302:=⟨by kernel_rfl,@EL⟩
theorem lN {w0 N b d f r} (h:iJ N b d f=some r) :
    gV prog 84 #[vI b,vI d,vI f] w0 (fun v w=>v=.bool r∧St w0 [] w []):=by
 unfold iJ at h;refine gV.fn func84 fun e=>?_;have g:=St.start w0;refine gB h ?_ ?_<;>intro _ h
 · exact rt
 exact rt
instance k_84:Ct prog 84:=⟨by kernel_rfl,@lN⟩
theorem HL {w0 N b d r} (h:lB N b d=some r) :
    gV prog 63 #[.agg #[vI b.gE,vI b.gT,vI b.g8],.agg #[vI d.gE,vI d.gT,vI d.g8]] w0 (fun v w=>v=.agg #[vI r.gE,vI r.gT,vI r.g8]∧St w0 [] w []):=by
 unfold lB at h;refine gV.fn func63 fun e=>?_;have f:=St.start w0;refine T ?_;intro l o g m p i n q j;refine LW.bd [(0,vI (i64.wrap (b.gE+d.gE))),(1,vI (i64.wrap (b.gT+d.gT))),(2,vI (i64.wrap (b.g8+d.g8)))] #[vI (i64.wrap (b.gE+d.gE)),vI (i64.wrap (b.gT+d.gT)),vI (i64.wrap (b.g8+d.g8))] ?_;refine T ?_;intro u k;exact rt
instance k_63:Ct prog 63:=⟨by kernel_rfl,@HL⟩
theorem tw {w0 N k r} (h:lg N k=some r) {b f d} (g:f=k.length) (j:rb w0 b d k) :
    gV prog 198 #[vS b f d] w0 (fun v w=>∃ n o,v=vS n r.length o∧St w0 [] w [sl n o r]):=by
 subst g;unfold lg at h;refine gV.fn func198 fun e=>?_;have q:=St.start w0;refine go ?_;refine LW.b0 (α:=Int) q ?_;intro z B G p hf;refine gb h fun I u h=>?_;refine LW.jG (l:=([]:List Int)) (m:=k) pH rfl rfl (p.rB j) u p (i:=0) rfl rfl ?_;intro A C H x hf;exact rt
instance k_198:Ct prog 198:=⟨by kernel_rfl,@tw⟩
theorem Ch {w0 N B C r} (h:pL N B C=some r) {b i f} (k:i=B.length) (m:rb w0 b f B) {d j g} (l:j=C.length) (n:rb w0 d g C) :
    gV prog 331 #[vS b i f,vS d j g] w0 (fun v w=>v=.bool r∧St w0 [] w []):=by
 subst k l;unfold pL at h;refine gV.fn func331 fun e=>?_;have G:=St.start w0;refine gc h ?_ ?_<;>intro _ h
 · exact rt
 refine go ?_;obtain ⟨q,z,p⟩:=ob h;refine CW.mono (CW.lx [0,1,12] [] [] 0 (fun J=>[(13,vI J)]) (RT prog f331.results (fun u=>.bool u) w0 []) G z (hb:=?_)) ?_
 · intro J e aj o H h;refine gc h ?_ ?_<;>intro _ h
   · refine jA ?_;have Y:=H.drew;refine gb h fun ak I h=>?_;obtain ⟨ah,ai,K,rfl,M,aa,ab,rfl,R⟩:=m.idx I;refine go ?_;refine T ?_;have ⟨af,A,h⟩:=ob h;obtain ⟨X,ac,L,rfl,O,V,W,rfl,U⟩:=n.idx A;refine go ?_;refine T ?_;refine gc h ?_ ?_<;>intro _ h
     · exact rt
     exact rt
   exact rt
 intro x e ae hM;rcases q with q | ad
 · obtain ⟨rfl,hM⟩:=hM;obtain ⟨e,rfl,Z⟩:=eo hM;rw [show e=im e [] from rfl];have h:=p;exact rt
 obtain ⟨rfl,u,rfl,hM⟩:=hM;cases p;exact And.intro trivial hM
instance k_331:Ct prog 331:=⟨by kernel_rfl,@Ch⟩
theorem Co {w0 N C G r} (h:sC N C G=some r) {b j f} (l:j=C.length) (n:rb w0 b f C) {d k g} (m:k=G.length) (p:rb w0 d g G) :
    gV prog 332 #[vS b j f,vS d k g] w0 (fun v w=>v=.bool r∧St w0 [] w []):=by
 subst l m;unfold sC at h;refine gV.fn func332 fun e=>?_;have H:=St.start w0;refine gc h ?_ ?_<;>intro _ h
 · exact rt
 refine go ?_;obtain ⟨z,A,q⟩:=ob h;refine CW.mono (CW.lx [0,1,12] [] [] 0 (fun K=>[(13,vI K)]) (RT prog f332.results (fun u=>.bool u) w0 []) H A (hb:=?_)) ?_
 · intro K e am o I h;refine gc h ?_ ?_<;>intro _ h
   · refine jA ?_;have ab:=I.drew;refine gb h fun Z J h=>?_;obtain ⟨aj,ak,M,rfl,R,ad,ae,rfl,V⟩:=n.idx J;refine go ?_;refine T ?_;have ⟨L,B,h⟩:=ob h;obtain ⟨aa,af,O,rfl,U,X,Y,rfl,W⟩:=p.idx B;refine go ?_;refine T ?_;refine AW.u (i:=8) rfl (by kernel_rfl) rfl rfl (iq.Ly MQ rfl rfl (fun w=>MO Z L w)) ?_;refine gc h ?_ ?_<;>intro _ h
     · exact rt
     exact rt
   exact rt
 intro x e ai hM;rcases z with z | ah
 · obtain ⟨rfl,hM⟩:=hM;obtain ⟨e,rfl,ac⟩:=eo hM;rw [show e=im e [] from rfl];have h:=q;exact rt
 obtain ⟨rfl,u,rfl,hM⟩:=hM;cases q;exact And.intro trivial hM
instance k_332:Ct prog 332:=⟨by kernel_rfl,@Co⟩
theorem Ce {w0 N m z r} (h:pJ N m z=some r) {b f d} (g:f=m.length) (i:rb w0 b d m) :
    gV prog 224 #[vS b f d,vI z] w0 (fun v w=>v=vI r∧St w0 [] w []):=by
 subst g;unfold pJ at h;refine gV.fn func224 fun e=>?_;have n:=St.start w0;refine go ?_;obtain ⟨k,l,j⟩:=ob h;refine CW.mono (CW.lx [0,1,7] [] [] 0 (fun q=>[(8,vI q)]) (RT prog f224.results (fun u=>vI u) w0 []) n l (hb:=?_)) ?_
 · intro q e R o G h;refine gc h ?_ ?_<;>intro _ h
   · refine gb h fun U p h=>?_;obtain ⟨M,O,C,rfl,A,I,J,rfl,B⟩:=i.idx p;refine go ?_;refine T ?_;refine CW.fl [0,1,5,7,8,16] fun e=>?_;refine gc h ?_ ?_<;>intro _ h
     · exact rt
     exact rt
   exact rt
 intro x e L hM;rcases k with k | K
 · obtain ⟨rfl,hM⟩:=hM;obtain ⟨e,rfl,H⟩:=eo hM;rw [show e=im e [] from rfl];have h:=j;exact rt
 obtain ⟨rfl,u,rfl,hM⟩:=hM;cases j;exact And.intro trivial hM
instance k_224:Ct prog 224:=⟨by kernel_rfl,@Ce⟩
theorem D4 {w0 N k r} (h:kU N k=some r) {b f d} (g:f=k.length) (j:rb w0 b d k) :
    gV prog 199 #[vS b f d] w0 (fun v w=>∃ n o,v=vS n r.length o∧St w0 [] w [sl n o r]):=by
 subst g;unfold kU at h;refine gV.fn func199 fun e=>?_;have q:=St.start w0;refine go ?_;refine LW.b0 (α:=g7) q ?_;intro z B G p hf;refine gb h fun I u h=>?_;refine LW.jG (l:=([]:List g7)) (m:=k) G7 rfl rfl (p.rB j) u p (i:=0) rfl rfl ?_;intro A C H x hf;exact rt
instance k_199:Ct prog 199:=⟨by kernel_rfl,@D4⟩
theorem Ej {w0 N b d r} (h:qq N b d=some r) :
    gV prog 289 #[.agg #[vI b.gE,vI b.gT,vI b.g8],vI d] w0 (fun v w=>v=vI r∧St w0 [] w []):=by
 unfold qq at h;refine gV.fn func289 fun e=>?_;have f:=St.start w0;refine T ?_;intro i j g;refine gc h ?_ ?_<;>intro _ h
 · exact rt
 refine gc h ?_ ?_<;>intro _ h
 · exact rt
 refine gc h ?_ ?_<;>intro _ h
 · exact rt
 exact rt
instance k_289:Ct prog 289:=⟨by kernel_rfl,@Ej⟩
theorem Gd {w0 N d b r} (h:m4 N d b=some r) :
    gV prog 120 #[vI d,vI b] w0 (fun v w=>v=.agg #[vI r.gE,vI r.gT,vI r.g8]∧St w0 [] w []):=by
 unfold m4 at h;refine gV.fn func120 fun e=>?_;have f:=St.start w0;refine T ?_;intro m n g;refine gc h ?_ ?_<;>intro _ h
 · refine jj [(0,vI b)] #[vI b,vI 0,vI 0] ?_;refine T ?_;intro o i;exact rt
 refine gc h ?_ ?_<;>intro _ h
 · refine jj [(1,vI b)] #[vI 0,vI b,vI 0] ?_;refine T ?_;intro p j;exact rt
 refine gc h ?_ ?_<;>intro _ h
 · refine jj [(2,vI b)] #[vI 0,vI 0,vI b] ?_;refine T ?_;intro q k;exact rt
 refine jj [] #[vI 0,vI 0,vI 0] ?_;refine T ?_;intro u l;exact rt
instance k_120:Ct prog 120:=⟨by kernel_rfl,@Gd⟩
theorem EW {w0 N b A r} (h:mn N b A=some r) {d l i} (o:l=b.gX.length) (u:rb w0 d i b.gX) {f m j} (p:m=b.N8.length) (x:rb w0 f j b.N8) {g n k} (q:n=b.N4.length) (z:rb w0 g k b.N4) :
    gV prog 212 #[.agg #[vI b.Oe,vI b.N0,vI b.box,vI b.Od,vI b.iw,vI b.gE,vI b.N9,vI b.iv,vI b.iu,.bool b.Ob,vS d l i,vS f m j,vS g n k],vI A] w0 (fun v w=>v=.bool r∧St w0 [] w []):=by
 subst o p q;unfold mn at h;refine gV.fn func212 fun e=>?_;have B:=St.start w0;refine T ?_;intro G H C;refine gB h ?_ ?_<;>intro _ h
 · exact rt
 exact rt
instance k_212:Ct prog 212:=⟨by kernel_rfl,@EW⟩
theorem zl {w0 N m r} (h:k9 N m=some r) {b f d} (g:f=m.NY.length) (i:rb w0 b d m.NY) :
    gV prog 125 #[.agg #[vS b f d]] w0 (fun v w=>v=.bool r∧St w0 [] w []):=by
 subst g;unfold k9 at h;refine gV.fn func125 fun e=>?_;have H:=St.start w0;refine T ?_;intro X Y n;refine gc h ?_ ?_<;>intro _ h
 · exact rt
 refine go ?_;obtain ⟨k,l,j⟩:=ob h;refine CW.mono (CW.lx [1] [0] [] 0 (fun q=>[(3,vI q)]) (RT prog f125.results (fun u=>.bool u) w0 []) n l (hb:=?_)) ?_
 · intro q e Z o I h;refine gc h ?_ ?_<;>intro _ h
   · refine gb h fun aa p h=>?_;obtain ⟨G,O,z,rfl,A,L,M,rfl,B⟩:=i.idx p;refine go ?_;refine T ?_;intro W C h U J;refine CW.fl [1,3,21] fun e=>?_;refine gc h ?_ ?_<;>intro _ h
     · exact rt
     exact rt
   exact rt
 intro x e V hM;rcases k with k | R
 · obtain ⟨rfl,hM⟩:=hM;obtain ⟨e,rfl,K⟩:=eo hM;rw [show e=im e [] from rfl];have h:=j;exact rt
 obtain ⟨rfl,u,rfl,hM⟩:=hM;cases j;exact And.intro trivial hM
instance k_125:Ct prog 125:=⟨by kernel_rfl,@zl⟩
theorem Bz {w0 N q r} (h:pf N q=some r) {d g f} (i:g=q.length) (b:rb w0 d f q) :
    gV prog 126 #[vS d g f] w0 (fun v w=>v=.bool r∧St w0 [] w []):=by
 subst i;unfold pf at h;refine gV.fn func126 fun e=>?_;have z:=St.start w0;refine go ?_;obtain ⟨l,n,j⟩:=ob h;refine CW.mono (CW.lx [0] [] [] 0 (fun C=>[(3,vI C)]) (RT prog f126.results (fun u=>.bool u) w0 []) z n (hb:=?_)) ?_
 · intro C e ap o k h;refine gc h ?_ ?_<;>intro _ h
   · refine gs ?_;refine CW.block ?_;refine gs ?_;obtain ⟨W,A,I⟩:=ob h;refine CW.jn [0,3] [] [(31,.bool W)] k (h1:=?_) (h2:=?_)
     · have h:=A;refine dW ?_;have Y:=k.drew;refine gb h fun aq B h=>?_;obtain ⟨ao,ae,G,rfl,J,ac,ad,rfl,M⟩:=b.idx B;refine go ?_;refine T ?_;intro am V h ai Z;refine bH h ?_ ?_<;>intro _ h
       · exact rt
       refine gB h ?_ ?_<;>intro L h
       · refine go ?_;refine T ?_;have ⟨an,p,h⟩:=ob h;obtain ⟨X,af,H,hae,K,R,U,m,O⟩:=b.idx p;cases hae;obtain rfl:=m;refine go ?_;refine T ?_;exact rt
       exact rt
     intro e aj aa;have h:=I;refine gc h ?_ ?_<;>intro _ h
     · exact rt
     exact rt
   exact rt
 intro x e ak hM;rcases l with l | ah
 · obtain ⟨rfl,hM⟩:=hM;obtain ⟨e,rfl,ab⟩:=eo hM;rw [show e=im e [] from rfl];have h:=j;exact rt
 obtain ⟨rfl,u,rfl,hM⟩:=hM;cases j;exact And.intro trivial hM
instance k_126:Ct prog 126:=⟨by kernel_rfl,@Bz⟩
theorem Jr {w0 N b r} (h:qM N b=some r) :
    gV prog 130 #[vI b] w0 (fun v w=>v=.bool r∧St w0 [] w []):=by
 unfold qM at h;refine gV.fn func130 fun e=>?_;have d:=St.start w0;refine T ?_;intro j g h i f;exact rt
instance k_130:Ct prog 130:=⟨by kernel_rfl,@Jr⟩
theorem GP {w0 N B r} (h:oh N B=some r) {g x j} (z:x=B.length) (A:rb w0 g j B) :
    gV prog 301 #[vS g x j] w0 (fun v w=>∃ C H,v=vS C r.length H∧St w0 [] w [sl C H r]):=by
 subst z;unfold oh at h;refine gV.fn func301 fun e=>?_;have O:=St.start w0;refine go ?_;refine LW.b0 (α:=gP) O ?_;intro X Y aF R hf;refine go ?_;obtain ⟨az,I,K⟩:=ob h;refine CW.ie I 0 (fun u e wb=>∃ (d:Ad) (f:Nat),En e [(0,vS g B.length j),(3,vS d u.1.length f),(4,vI u.2)]∧St w0 [] wb [sl d f u.1]) ?_ ⟨X,Y,R.po [0]⟩ ?_
 · intro u e aG o hM h;obtain ⟨d,f,hE,ar⟩:=hM;obtain ⟨e,rfl⟩:=hE.out;refine gc h ?_ ?_<;>intro _ h
   · refine gb h fun aH W h=>?_;obtain ⟨am,ay,Z,rfl,aa,aw,ax,⟨ah,an,ai,ao,aj,ap,rfl,ac,ad,ae⟩,ab⟩:=A.idx W;refine go ?_;refine T ?_;intro b af h k n l p m q aB U;have V:=U.pk (M:=[sl k n b.gX,sl l p b.N8,sl m q b.N4]++[sl d f u.1]) [0,1,2,3];have ⟨aE,J,h⟩:=ob h;refine LW.j6 (M:=[sl k n b.gX,sl l p b.N8,sl m q b.N4]) (L:=[sl d f u.1]) (vs:=#[vI b.Oe,vI b.N0,vI b.box,vI b.Od,vI b.iw,vI b.gE,vI b.N9,vI b.iv,vI b.iu,.bool b.Ob,vS k b.gX.length n,vS l b.N8.length p,vS m b.N4.length q]) (i:=0) Gt rfl (by kernel_rfl) rfl rfl J V rfl (fun w G hG=>⟨k,n,l,p,m,q,rfl,hG⟩) rfl rfl ?_;intro aA ak aq aC au hf;exact rt
   exact rt
 rintro e aD ⟨d,f,hE,av⟩;obtain ⟨e,rfl⟩:=hE.out;have h:=K;exact rt
instance k_301:Ct prog 301:=⟨by kernel_rfl,@GP⟩
theorem BV {w0 N b r} (h:lC N b=some r) :
    gV prog 216 #[vI b] w0 (fun v w=>v=.bool r∧St w0 [] w []):=by
 unfold lC at h;refine gV.fn func216 fun e=>?_;have d:=St.start w0;refine T ?_;intro j g h i f;exact rt
instance k_216:Ct prog 216:=⟨by kernel_rfl,@BV⟩
theorem D8 {w0 N b r} (h:kq N b=some r) :
    gV prog 239 #[vI b] w0 (fun v w=>v=.bool r∧St w0 [] w []):=by
 unfold kq at h;refine gV.fn func239 fun e=>?_;have d:=St.start w0;refine T ?_;intro j g h i f;exact rt
instance k_239:Ct prog 239:=⟨by kernel_rfl,@D8⟩
theorem G9 {w0 N b r} (h:kY N b=some r) :
    gV prog 97 #[vI b] w0 (fun v w=>v=.bool r∧St w0 [] w []):=by
 unfold kY at h;refine gV.fn func97 fun e=>?_;have d:=St.start w0;refine T ?_;intro j g h i f;exact rt
instance k_97:Ct prog 97:=⟨by kernel_rfl,@G9⟩
theorem yh {w0} {F:List Nat} {N b ac r} (h:oO N b ac=some r) {f B d} (H:B=b.ag.length) {g C j} (I:C=b.gc.gQ.length) (hS:St w0 F w0 [sl f d b.ag,sl g j b.gc.gQ]) :
    gV prog 306 #[.agg #[vS f B d,vI b.gc.N2,vI b.gc.Oa,vI b.gc.N3,vS g C j],vI ac] w0 (fun v w=>∃ o q, ∃ p u,v=.agg #[vS o r.ag.length q,vI r.gc.N2,vI r.gc.Oa,vI r.gc.N3,vS p r.gc.gQ.length u]∧St w0 F w [sl o q r.ag,sl p u r.gc.gQ]):=by
 subst H I;unfold oO at h;refine gV.fn func306 fun e=>?_;refine T ?_;intro W a8 aP X a9 z;obtain ⟨ax,ae,ai⟩:=ob h;refine CW.jn [1,2,4] [0,1,2,3] [(26,.bool ax)] z (h1:=?_) (h2:=?_)
 · have h:=ae;refine gB h ?_ ?_<;>intro _ h
   · refine gb h fun ba U h=>?_;obtain ⟨aJ,aV,hae,aU,ap⟩:=z.hZ (α:=gP) (i:=2) rfl U;subst hae;refine go ?_;obtain ⟨aE,m,K⟩:=z.freeze (α:=gP) 2 rfl;obtain ⟨aK,aW,ah,hae,am,_,_,Z,an⟩:=m.jk.idx U;cases hae;obtain ⟨aF,aL,aG,aM,aH,aN,rfl,ar,au,av⟩:=Z;refine T ?_;refine bH h ?_ ?_<;>intro _ h
     · refine go ?_;refine T ?_;have aQ:=K.iz (α:=gP) 2 rfl m;exact rt
     refine go ?_;have aR:=K.iz (α:=gP) 2 rfl m;exact rt
   exact rt
 intro e aY O;have h:=ai;refine gs ?_;obtain ⟨x,aa,ad⟩:=ob h;refine CW.cut (fun e wb=>∃ (k:Ad) (l:Nat),En e [(2,.pointer (some ⟨W,0,none⟩)),(4,.pointer (some ⟨X,0,none⟩))]∧St w0 F wb [bx X 40 [vS none 0 0,vI 0,vI 0,vI 0,vS none 0 0],bx W 40 [vS f x.1.length d,vI b.gc.N2,vI b.gc.Oa,vI b.gc.N3,vS k x.2.length l],sl f d x.1,sl k l x.2]) ?_ ?_
 · have h:=aa;refine gc h ?_ ?_<;>intro _ h
   · refine gb h fun a5 A h=>?_;obtain ⟨J,V,hae,ao,aq⟩:=O.hZ (α:=gP) (i:=2) rfl A;subst hae;refine go ?_;refine gb h fun af n h=>?_;refine LW.se 9 O 2 A n (hM:=(je (fun w cs F hF=>by obtain ⟨ay,aB,az,aC,aA,aD,rfl,hH⟩:=hF;exact ⟨ay,aB,az,aC,aA,aD,rfl,hH⟩))) fun aZ aS=>?_;refine T ?_;intro a6 aw h a0 R;refine CW.fl [1,2,4,37] fun e=>?_;refine gc h ?_ ?_<;>intro _ h
     · refine gb h fun a7 ab h=>?_;refine LW.j6 (M:=[]) (L:=[bx X 40 [vS none 0 0,vI 0,vI 0,vI 0,vS none 0 0],bx W 40 [vS (some ⟨J,V,none⟩) b.ag.length d,vI b.gc.N2,vI b.gc.Oa,vI b.gc.N3,vS g b.gc.gQ.length j],sl (some ⟨J,V,none⟩) d af,sl g j b.gc.gQ]) (vs:=#[vI ac]) (i:=3) pH rfl (by kernel_rfl) rfl rfl ab R rfl (fun w G hG=>by cases (show G=[] from hG);exact ⟨rfl,rfl⟩) rfl rfl ?_;intro aX aI aO a1 aT hf;refine T ?_;intro a2 Y;rw [gZ (oi n)] at Y;exact rt
     refine go ?_;rw [gZ (oi n)] at R;exact rt
   exact rt
 rintro e a3 ⟨k,l,hE,aj⟩;obtain ⟨e,rfl⟩:=hE.out;have h:=ad;refine T ?_;intro a4 ak;exact rt
instance k_306:Ct prog 306:=⟨by kernel_rfl,@yh⟩
theorem CI {w0 N b r} (h:mD N b=some r) :
    gV prog 203 #[vI b] w0 (fun v w=>v=.bool r∧St w0 [] w []):=by
 unfold mD at h;refine gV.fn func203 fun e=>?_;have d:=St.start w0;refine T ?_;intro j g h i f;exact rt
instance k_203:Ct prog 203:=⟨by kernel_rfl,@CI⟩
theorem zd {w0 N m r} (h:ml N m=some r) {b f d} (g:f=m.NY.length) (i:rb w0 b d m.NY) :
    gV prog 185 #[.agg #[vS b f d]] w0 (fun v w=>v=.bool r∧St w0 [] w []):=by
 subst g;unfold ml at h;refine gV.fn func185 fun e=>?_;have G:=St.start w0;refine T ?_;intro X Y n;refine go ?_;obtain ⟨k,l,j⟩:=ob h;refine CW.mono (CW.lx [1,6,7] [0] [1] 0 (fun q=>[(8,vI q)]) (RT prog f185.results (fun u=>.bool u) w0 []) n l (hb:=?_)) ?_
 · intro q e Z o H h;refine gc h ?_ ?_<;>intro _ h
   · refine gb h fun aa p h=>?_;obtain ⟨W,M,z,rfl,A,K,L,rfl,B⟩:=i.idx p;refine go ?_;refine T ?_;intro V C h R I;refine CW.fl [1,6,7,8,14] fun e=>?_;refine gc h ?_ ?_<;>intro _ h
     · exact rt
     exact rt
   exact rt
 intro x e U hM;rcases k with k | O
 · obtain ⟨rfl,hM⟩:=hM;obtain ⟨e,rfl,J⟩:=eo hM;have h:=j;exact rt
 obtain ⟨rfl,u,rfl,hM⟩:=hM;cases j;exact And.intro trivial hM
instance k_185:Ct prog 185:=⟨by kernel_rfl,@zd⟩
theorem BR {w0 N q r} (h:ph N q=some r) {d g f} (i:g=q.length) (b:rb w0 d f q) :
    gV prog 186 #[vS d g f] w0 (fun v w=>v=.bool r∧St w0 [] w []):=by
 subst i;unfold ph at h;refine gV.fn func186 fun e=>?_;have A:=St.start w0;refine go ?_;obtain ⟨k,n,j⟩:=ob h;refine CW.mono (CW.lx [0,5,6] [] [] 0 (fun H=>[(7,vI H)]) (RT prog f186.results (fun u=>.bool u) w0 []) A n (hb:=?_)) ?_
 · intro H e an o B h;refine gc h ?_ ?_<;>intro _ h
   · refine gb h fun ao C h=>?_;obtain ⟨ak,am,W,rfl,J,aa,ab,rfl,L⟩:=b.idx C;refine go ?_;refine T ?_;obtain ⟨G,m,z⟩:=ob h;refine CW.jn [0,5,6,7] [] [(27,.bool G)] B (h1:=?_) (h2:=?_)
     · have h:=m;refine T ?_;intro ai U h ae X;refine bH h ?_ ?_<;>intro _ h
       · exact rt
       refine gB h ?_ ?_<;>intro _ h
       · refine gb h fun aj p h=>?_;obtain ⟨V,ac,I,hae,K,O,R,l,M⟩:=b.idx p;cases hae;obtain rfl:=l;refine go ?_;refine T ?_;exact rt
       exact rt
     intro e af Y;have h:=z;refine gc h ?_ ?_<;>intro _ h
     · exact rt
     exact rt
   exact rt
 intro x e ah hM;rcases k with k | ad
 · obtain ⟨rfl,hM⟩:=hM;obtain ⟨e,rfl,Z⟩:=eo hM;rw [show e=im e [] from rfl];have h:=j;exact rt
 obtain ⟨rfl,u,rfl,hM⟩:=hM;cases j;exact And.intro trivial hM
instance k_186:Ct prog 186:=⟨by kernel_rfl,@BR⟩
theorem zh {w0 N b r} (h:kV N b=some r) :
    gV prog 227 #[vI b] w0 (fun v w=>v=.bool r∧St w0 [] w []):=by
 unfold kV at h;refine gV.fn func227 fun e=>?_;have d:=St.start w0;refine T ?_;intro j g h i f;exact rt
instance k_227:Ct prog 227:=⟨by kernel_rfl,@zh⟩
theorem zo {w0 N b r} (h:qk N b=some r) {C L I} (W:L=b.gX.length) (am:rb w0 C I b.gX) {G M J} (X:M=b.N8.length) (an:rb w0 G J b.N8) {H O K} (Y:O=b.N4.length) (d:rb w0 H K b.N4) :
    gV prog 322 #[.agg #[vI b.Oe,vI b.N0,vI b.box,vI b.Od,vI b.iw,vI b.gE,vI b.N9,vI b.iv,vI b.iu,.bool b.Ob,vS C L I,vS G M J,vS H O K]] w0 (fun v w=>∃ f k, ∃ g n, ∃ j o,v=.agg #[vI r.Oe,vI r.N0,vI r.box,vI r.Od,vI r.iw,vI r.gE,vI r.N9,vI r.iv,vI r.iu,.bool r.Ob,vS f r.gX.length k,vS g r.N8.length n,vS j r.N4.length o]∧St w0 [] w [sl f k r.gX,sl g n r.N8,sl j o r.N4]):=by
 subst W X Y;unfold qk at h;refine gV.fn func322 fun e=>?_;have a4:=St.start w0;refine T ?_;intro ad bD a5 ae bE af;obtain ⟨R,ak,ao⟩:=ob h;refine CW.cut (fun e wb=>∃ (p:Ad) (z:Nat) (q:Ad) (A:Nat) (x:Ad) (B:Nat),En e [(1,.pointer (some ⟨ad,0,none⟩)),(2,.pointer (some ⟨ae,0,none⟩))]∧St w0 [] wb [bx ae 160 [vI 0,vI 0,vI 0,vI 0,vI 0,vI 0,vI 0,vI 0,vI 0,.bool false,vS none 0 0,vS none 0 0,vS none 0 0],bx ad 160 [vI b.Oe,vI b.N0,vI b.box,vI b.Od,vI b.iw,vI b.gE,vI b.N9,vI b.iv,vI b.iu,.bool b.Ob,vS p R.1.length z,vS q R.2.1.length A,vS x R.2.2.length B],sl p z R.1,sl q A R.2.1,sl x B R.2.2]) ?_ ?_
 · have h:=ak;refine dW ?_;have ah:=af.drew;refine gb h fun bF a8 h=>?_;refine AW.all (rs:=[2,6]) (by kernel_rfl) (by simp) ⟨?_,?_,trivial⟩
   · refine oA ?_;refine T ?_;intro aI aT a9 ai;refine AW.u (i:=10) rfl (by kernel_rfl) rfl rfl (iq.fa DT rfl) ?_;have ⟨bw,aG,h⟩:=ob h;refine AW.all (rs:=[5,6]) (by kernel_rfl) (by simp) ⟨?_,?_,trivial⟩
     · refine oA ?_;refine T ?_;intro aJ aU ba aj;refine LW.b0 (α:=iS) aj ?_;intro aK aV bb Z hf;refine T ?_;have ⟨bz,aa,h⟩:=ob h;refine T ?_;refine LW.jG (l:=([]:List iS)) (m:=b.N4) oI rfl rfl (Z.rB d) aa Z (i:=0) rfl rfl ?_;intro aL aW bc a6 hf;refine T ?_;intro bd a7 be ap bf aq;exact rt
     refine oA ?_;refine LW.b0 (α:=iS) ai ?_;intro aM aX bg ar hf;refine T ?_;refine jP 5 ?_;refine T ?_;intro aN aY bi U;have ⟨bA,ab,h⟩:=ob h;refine jP 9 ?_;refine LW.jG (l:=([]:List iS)) (m:=b.N4) oI rfl rfl (U.rB d) ab U (i:=1) rfl rfl ?_;intro aO aZ bj au hf;refine T ?_;intro bk av bl aw bm ax;exact rt
   refine oA ?_;refine LW.b0 (α:=iS) ah ?_;intro aP a0 bn ay hf;refine T ?_;refine jP 2 ?_;refine T ?_;intro aQ a1 bo az;refine AW.u (i:=10) rfl (by kernel_rfl) rfl rfl (iq.fa DT rfl) ?_;refine jP 5 ?_;refine T ?_;intro bB aH h aR a2 bp V;have ⟨bC,ac,h⟩:=ob h;refine jP 9 ?_;refine LW.jG (l:=([]:List iS)) (m:=b.N4) oI rfl rfl (V.rB d) ac V (i:=2) rfl rfl ?_;intro aS a3 bq aA hf;refine T ?_;intro br aB bs aC bt aD;exact rt
 rintro e bu ⟨p,z,q,A,x,B,hE,aE⟩;obtain ⟨e,rfl⟩:=hE.out;have h:=ao;refine T ?_;intro bv aF;exact rt
instance k_322:Ct prog 322:=⟨by kernel_rfl,@zo⟩
theorem zf {w0 N b d r} (h:rT N b d=some r) {f z m} (I:z=b.gX.length) (R:rb w0 f m b.gX) {g A n} (J:A=b.N8.length) (U:rb w0 g n b.N8) {i B o} (K:B=b.N4.length) (V:rb w0 i o b.N4) {j C p} (L:C=d.gX.length) (W:rb w0 j p d.gX) {k G q} (M:G=d.N8.length) (X:rb w0 k q d.N8) {l H x} (O:H=d.N4.length) (Y:rb w0 l x d.N4) :
    gV prog 324 #[.agg #[vI b.Oe,vI b.N0,vI b.box,vI b.Od,vI b.iw,vI b.gE,vI b.N9,vI b.iv,vI b.iu,.bool b.Ob,vS f z m,vS g A n,vS i B o],.agg #[vI d.Oe,vI d.N0,vI d.box,vI d.Od,vI d.iw,vI d.gE,vI d.N9,vI d.iv,vI d.iu,.bool d.Ob,vS j C p,vS k G q,vS l H x]] w0 (fun v w=>v=.bool r∧St w0 [] w []):=by
 subst I J K L M O;unfold rT at h;refine gV.fn func324 fun e=>?_;have ac:=St.start w0;refine T ?_;intro aq au ad ar av ae;refine gB h ?_ ?_<;>intro _ h
 · refine gB h ?_ ?_<;>intro _ h
   · refine go ?_;refine bH h ?_ ?_<;>intro _ h
     · refine gB h ?_ ?_<;>intro _ h
       · refine gB h ?_ ?_<;>intro _ h
         · refine gB h ?_ ?_<;>intro _ h
           · refine go ?_;refine bH h ?_ ?_<;>intro _ h
             · refine gB h ?_ ?_<;>intro _ h
               · refine gB h ?_ ?_<;>intro _ h
                 · refine go ?_;refine LW.u (iq.beq underlying4 rfl rfl) rfl ?_;refine gB h ?_ ?_<;>intro _ h
                   · refine go ?_;refine T ?_;intro an Z h aj af;refine bH h ?_ ?_<;>intro _ h
                     · refine T ?_;intro ao aa h ak ah;refine bH h ?_ ?_<;>intro _ h
                       · refine T ?_;intro ap ab h am ai;exact rt
                       exact rt
                     exact rt
                   exact rt
                 exact rt
               exact rt
             exact rt
           exact rt
         exact rt
       exact rt
     exact rt
   exact rt
 exact rt
instance k_324:Ct prog 324:=⟨by kernel_rfl,@zf⟩
theorem u7 {w0 N b r} (h:k4 N b=some r) :
    gV prog 111 #[vI b] w0 (fun v w=>v=.bool r∧St w0 [] w []):=by
 unfold k4 at h;refine gV.fn func111 fun e=>?_;have d:=St.start w0;refine T ?_;intro j g h i f;exact rt
instance k_111:Ct prog 111:=⟨by kernel_rfl,@u7⟩
theorem yo {w0 N b r} (h:kO N b=some r) :
    gV prog 207 #[vI b] w0 (fun v w=>v=.bool r∧St w0 [] w []):=by
 unfold kO at h;refine gV.fn func207 fun e=>?_;have d:=St.start w0;refine T ?_;intro j g h i f;exact rt
instance k_207:Ct prog 207:=⟨by kernel_rfl,@yo⟩
theorem uQ {w0 N k r} (h:nN N k=some r) {f i g} (j:i=k.NY.length) (o:rb w0 f g k.NY) :
    gV prog 197 #[.agg #[vS f i g]] w0 (fun v w=>∃ b d,v=.agg #[vS b r.NY.length d]∧St w0 [] w [sl b d r.NY]):=by
 subst j;unfold nN at h;refine gV.fn func197 fun e=>?_;have p:=St.start w0;refine T ?_;intro B G q C H u n A h l m I x;refine LW.bd [(0,vS l n.length m)] #[vS l n.length m] ?_;refine T ?_;intro J z;exact rt
instance k_197:Ct prog 197:=⟨by kernel_rfl,@uQ⟩
theorem GD {w0 N b r} (h:lK N b=some r) :
    gV prog 100 #[vI b] w0 (fun v w=>v=.bool r∧St w0 [] w []):=by
 unfold lK at h;refine gV.fn func100 fun e=>?_;have d:=St.start w0;refine T ?_;intro j g h i f;exact rt
instance k_100:Ct prog 100:=⟨by kernel_rfl,@GD⟩
theorem zD {w0 N i j r} (h:ko N i j=some r) {b f d} (g:f=i.length) (k:rb w0 b d i) :
    gV prog 139 #[vS b f d,vI j] w0 (fun v w=>v=.bool r∧St w0 [] w []):=by
 subst g;unfold ko at h;refine gV.fn func139 fun e=>?_;have l:=St.start w0;refine T ?_;intro p n h o m;exact rt
instance k_139:Ct prog 139:=⟨by kernel_rfl,@zD⟩
theorem Af {w0 N b r} (h:nU N b=some r) :
    gV prog 115 #[vI b] w0 (fun v w=>v=.bool r∧St w0 [] w []):=by
 unfold nU at h;refine gV.fn func115 fun e=>?_;have d:=St.start w0;refine T ?_;intro j g h i f;exact rt
instance k_115:Ct prog 115:=⟨by kernel_rfl,@Af⟩
theorem Eu {w0 N i j r} (h:m9 N i j=some r) {b f d} (g:f=i.parts.length) (k:rb w0 b d i.parts) :
    gV prog 70 #[.agg #[vI i.Oc,vS b f d],vI j] w0 (fun v w=>v=.bool r∧St w0 [] w []):=by
 subst g;unfold m9 at h;refine gV.fn func70 fun e=>?_;have l:=St.start w0;refine T ?_;intro p q m x o h u n;exact rt
instance k_70:Ct prog 70:=⟨by kernel_rfl,@Eu⟩
theorem Ig {w0 N b r} (h:kb N b=some r) :
    gV prog 60 #[.agg #[vI b.gE,vI b.gT,vI b.g8]] w0 (fun v w=>v=.bool r∧St w0 [] w []):=by
 unfold kb at h;refine gV.fn func60 fun e=>?_;have d:=St.start w0;refine T ?_;intro o p f;refine T ?_;intro x k h q g;refine bH h ?_ ?_<;>intro _ h
 · refine T ?_;intro z l h u i;refine bH h ?_ ?_<;>intro _ h
   · refine T ?_;intro A m h n j;exact rt
   exact rt
 exact rt
instance k_60:Ct prog 60:=⟨by kernel_rfl,@Ig⟩
end Go.Kx
