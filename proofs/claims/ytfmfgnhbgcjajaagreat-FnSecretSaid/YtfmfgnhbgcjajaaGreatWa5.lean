import Derived.Test.YtfmfgnhbgcjajaaGreatWa0
import Derived.Test.YtfmfgnhbgcjajaaGreatWa1
import Derived.Test.YtfmfgnhbgcjajaaGreatWa2
namespace Go.Kx
open Go Go.RowKit Go.Proofs
open Tryz
set_option maxRecDepth 10000
set_option maxHeartbeats 8000000
set_option linter.unusedVariables false
set_option linter.unusedSimpArgs false
theorem yz{w0 N M O R r}(h:mr N M O R=some r){b k g}(n:k=M.length)(Z:rb w0 b g M){d l i}(p:l=O.Ro.length)(z:rb w0 d i O.Ro){f m j}(q:m=R.Ro.length)(A:rb w0 f j R.Ro):
    di prog 223 #[vS b k g,.agg #[vS d l i],.agg #[vS f m j]] w0 (fun v w=>v=.bool r/\St w0 [] w []):=by
 subst n p q;unfold mr at h;refine di.fS func223 fun e _=>?_;refine T ?_;intro _ _ _ _ _ V;obtain⟨ab,X,aa⟩:=ob h;refine CW.jn [0,4,5] [0,1] [(20,.bool ab)] V (h1:=?_) (h2:=?_)
 · have h:=X;exact wk
 intro e _ W;have h:=aa;refine gc h ?_ ?_<;>intro _ h
 · exact rt
 refine go ?_;obtain⟨G,J,B⟩:=ob h;refine CW.mono (CW.lx [0,4,5] [0,1] [] 0 (fun H=>[(7,vI H)]) (RT prog f223.results (fun u=>.bool u) w0 []) W J (hb:=?_)) ?_
 · intro H e _ o C h;refine gc h ?_ ?_<;>intro _ h
   · refine gs ?_;refine CW.block ?_;refine gs ?_;obtain⟨Y,I,U⟩:=ob h;refine CW.jn [0,4,5,7] [0,1] [(41,.bool Y)] C (h1:=?_) (h2:=?_)
     · have h:=I;refine dW ?_;have:=C.drew;refine gb h fun _ K h=>?_;obtain⟨_,_,_,rfl,_,_,_,rfl,_⟩:=z.idx K;refine go ?_;refine T ?_;have⟨_,L,h⟩:=ob h;obtain⟨_,_,_,rfl,_,_,_,rfl,_⟩:=A.idx L;refine go ?_;refine T ?_;refine bH h ?_ ?_<;>intro _ h
       · refine T ?_;intro _ _ h _ _;exact rt
       exact rt
     intro e _ _;have h:=U;exact wk
   exact rt
 intro x e _ hM;rcases G with G|_
 · obtain⟨rfl,hM⟩:=hM;obtain⟨e,rfl,_⟩:=eo hM;rw[show e=dF e [] from rfl];have h:=B;exact rt
 obtain⟨rfl,u,rfl,hM⟩:=hM;cases B;exact And.intro trivial hM
instance k_223:Ct prog 223:={h:=@yz}
theorem Iz{w0 N aa r}(h:lQ N aa=some r){d i f}(m:i=aa.length)(b:rb w0 d f aa):
    di prog 133 #[vS d i f] w0 (fun v w=>v=.bool r/\St w0 [] w []):=by
 subst m;unfold lQ at h;refine di.fS func133 fun e af=>?_;refine gs ?_;refine CW.region ?_;refine gs ?_;obtain⟨av,an,h2⟩:=ob h;refine CW.jn [0] [] [(23,.bool av)] af (h1:=?_) (h2:=?_)
 · have h:=an;refine gB h ?_ ?_<;>intro _ h
   · exact rt
   refine gb h fun _ ao h=>?_;obtain⟨_,_,_,rfl,_,_,_,rfl,_⟩:=b.idx ao;refine go ?_;refine T ?_;refine bH h ?_ ?_<;>intro _ h
   · exact rt
   refine go ?_;refine T ?_;exact rt
 intro e _ ah;have h:=h2;refine gc h ?_ ?_<;>intro _ h
 · exact rt
 refine go ?_;obtain⟨z,O,q⟩:=ob h;refine CW.mono (CW.lx [0] [] [0] 0 (fun A=>[(3,vI A)]) (RT prog f133.results (fun u=>.bool u) w0 []) ah O (hb:=?_)) ?_
 · intro A e _ o ai h;refine gc h ?_ ?_<;>intro _ h
   · refine gs ?_;refine CW.block ?_;refine gs ?_;obtain⟨ap,K,ab⟩:=ob h;refine CW.jn [0,3] [] [(52,.bool ap)] ai (h1:=?_) (h2:=?_)
     · have h:=K;refine gb h fun au U h=>?_;obtain⟨_,_,_,rfl,_,_,_,rfl,_⟩:=b.idx U;refine go ?_;refine T ?_;refine bH h ?_ ?_<;>intro _ h
       · refine go ?_;refine T ?_;refine LW.bd [] #[.bool false,vI 0,vI 0,vI 0,vI 0] ?_;refine go ?_;refine LW.u (dL.Cl MD rfl rfl (fun w=>L6 au (dj.mk false 0 (de.mk 0 0 0)) w)) rfl ?_;exact wk
       exact wk
     intro e _ aj;have h:=ab;refine gc h ?_ ?_<;>intro _ h
     · exact rt
     refine gs ?_;obtain⟨aq,L,ac⟩:=ob h;refine CW.jn [0,3] [] [(91,.bool aq)] aj (h1:=?_) (h2:=?_)
     · have h:=L;refine gB h ?_ ?_<;>intro _ h
       · refine gb h fun _ V h=>?_;obtain⟨_,_,_,rfl,_,_,_,rfl,_⟩:=b.idx V;refine go ?_;refine T ?_;refine bH h ?_ ?_<;>intro _ h
         · refine go ?_;refine T ?_;intro _ _ h _ _;refine bH h ?_ ?_<;>intro _ h
           · exact rt
           refine go ?_;refine T ?_;refine bH h ?_ ?_<;>intro _ h
           · exact rt
           refine go ?_;refine T ?_;have⟨_,W,h⟩:=ob h;obtain⟨_,_,_,am,_,_,_,J,_⟩:=b.idx W;cases am;obtain rfl:=J;refine go ?_;refine T ?_;exact rt
         exact rt
       exact rt
     intro e _ _;have h:=ac;exact wk
   exact rt
 intro x e _ hM;rcases z with z|_
 · obtain⟨rfl,hM⟩:=hM;obtain⟨e,rfl,ak⟩:=eo hM;have h:=q;refine go ?_;obtain⟨j,n,g⟩:=ob h;refine CW.mono (CW.lx [0] [] [0] 2 (fun B=>[(4,vI B)]) (RT prog f133.results (fun u=>.bool u) w0 []) ak n (hb:=?_)) ?_
   · intro B e _ o G h;refine gc h ?_ ?_<;>intro _ h
     · refine go ?_;obtain⟨_,R,ae⟩:=ob h;refine CW.mono (CW.lb [0,4] [] [0,4,5] 4 (fun k=>[(5,vI k.1),(6,vI k.2)]) G R (hb:=?_)) ?_
       · intro k e _ o H h;refine gs ?_;obtain⟨ar,M,ad⟩:=ob h;refine CW.jn [0,4,5,6] [] [(111,.bool ar)] H (h1:=?_) (h2:=?_)
         · have h:=M;refine gB h ?_ ?_<;>intro _ h
           · refine gb h fun _ X h=>?_;obtain⟨_,_,_,rfl,_,_,_,rfl,_⟩:=b.idx X;refine go ?_;refine T ?_;refine bH h ?_ ?_<;>intro _ h
             · exact rt
             exact rt
           exact rt
         intro e _ _;have h:=ad;refine gc h ?_ ?_<;>intro _ h
         · refine gb h fun _ Y h=>?_;obtain⟨_,_,_,rfl,_,_,_,rfl,_⟩:=b.idx Y;refine go ?_;refine T ?_;exact rt
         exact rt
       intro x e _ hM;obtain⟨rfl,hM⟩:=hM;obtain⟨e,rfl,I⟩:=eo hM;have h:=ae;refine gs ?_;obtain⟨Z,l,C⟩:=ob h;refine CW.jn [0,4] [] [(127,.bool Z)] I (h1:=?_) (h2:=?_)
       · have h:=l;refine gb h fun _ p h=>?_;obtain⟨_,_,_,rfl,_,_,_,rfl,_⟩:=b.idx p;refine go ?_;refine T ?_;refine bH h ?_ ?_<;>intro _ h
         · exact rt
         exact rt
       intro e _ _;have h:=C;exact wk
     exact rt
   intro x e _ hM;rcases j with j|_
   · obtain⟨rfl,hM⟩:=hM;obtain⟨e,rfl,_⟩:=eo hM;have h:=g;exact wk
   obtain⟨rfl,u,rfl,hM⟩:=hM;cases g;exact And.intro trivial hM
 obtain⟨rfl,u,rfl,hM⟩:=hM;cases q;exact And.intro trivial hM
instance k_133:Ct prog 133:={h:=@Iz}
theorem IN{w0 N d r}(h:mS N d=some r){f p j}(A:p=d.ag.length)(ac:rb w0 f j d.ag){g q k}(B:q=d.gc.da.length)(b:rb w0 g k d.gc.da):
    di prog 88 #[.agg (uH f p j g q k d)] w0 (fun v w=>v=.bool r/\St w0 [] w []):=by
 subst A B;unfold mS at h;refine di.fS func88 fun e _=>?_;refine T ?_;intro _ _ _ _ _ _ _ X;obtain⟨ae,Z,ad⟩:=ob h;refine CW.jn [3] [0] [(22,.bool ae)] X (h1:=?_) (h2:=?_)
 · have h:=Z;exact wk
 intro e _ Y;have h:=ad;refine gc h ?_ ?_<;>intro _ h
 · exact rt
 refine gs ?_;obtain⟨aa,M,V⟩:=ob h;refine CW.jn [3] [0] [(47,.bool aa)] Y (h1:=?_) (h2:=?_)
 · have h:=M;exact wk
 intro e _ I;have h:=V;refine gc h ?_ ?_<;>intro _ h
 · exact rt
 refine go ?_;obtain⟨G,R,C⟩:=ob h;refine CW.mono (CW.lx [3] [0] [] 0 (fun H=>[(4,vI H)]) (RT prog f88.results (fun u=>.bool u) w0 []) I R (hb:=?_)) ?_
 · intro H e _ o m h;refine gc h ?_ ?_<;>intro _ h
   · refine gs ?_;refine CW.block ?_;refine gs ?_;obtain⟨ab,O,W⟩:=ob h;refine CW.jn [3,4] [0] [(73,.bool ab)] m (h1:=?_) (h2:=?_)
     · have h:=O;refine dW ?_;have:=m.drew;refine gb h fun _ U h=>?_;obtain⟨_,_,_,rfl,_,_,_,rfl,_⟩:=b.idx U;refine go ?_;refine T ?_;intro _ _ h _ _;refine bH h ?_ ?_<;>intro J h
       · exact rt
       refine gb h fun _ n h=>?_;obtain⟨_,_,K,L,_⟩:=dX.tI b n;have z:=(b).le;refine AW.u (i:=11) rfl (by kernel_rfl) (jd rfl rfl J) rfl (dL.sub (α:=Int) (l:=d.gc.da) underlying29 E2 rfl tq (sL rfl) n z K L) ?_;exact wk
     intro e _ _;have h:=W;exact wk
   exact rt
 intro x e _ hM;rcases G with G|_
 · obtain⟨rfl,hM⟩:=hM;obtain⟨e,rfl,_⟩:=eo hM;rw[show e=dF e [] from rfl];have h:=C;exact rt
 obtain⟨rfl,u,rfl,hM⟩:=hM;cases C;exact And.intro trivial hM
instance k_88:Ct prog 88:={h:=@IN}
theorem IG{w0 N j r}(h:jD N j=some r){d k f}(l:k=j.length)(i:rb w0 d f j):
    di prog 139 #[vS d k f] w0 (fun v w=>v=.bool r/\St w0 [] w []):=by
 subst l;unfold jD at h;refine di.fS func139 fun e B=>?_;refine gs ?_;refine CW.region ?_;refine gs ?_;obtain⟨L,H,h2⟩:=ob h;refine CW.jn [0] [] [(22,.bool L)] B (h1:=?_) (h2:=?_)
 · have h:=H;refine gB h ?_ ?_<;>intro _ h
   · exact rt
   refine gb h fun _ I h=>?_;obtain⟨_,_,_,rfl,_,_,_,rfl,_⟩:=i.idx I;refine go ?_;refine T ?_;refine bH h ?_ ?_<;>intro _ h
   · exact rt
   refine go ?_;refine T ?_;exact rt
 intro e _ _;have h:=h2;refine gc h ?_ ?_<;>intro _ h
 · exact rt
 refine fm [] #[vI 0,vI 0,vI 0] ?_;refine T ?_;intro g _ _ _ C;refine go ?_;obtain⟨n,q,m⟩:=ob h;refine CW.it q (fun b e wb=>En e [(0,vS d j.length f),(3,.pointer (some ⟨g,0,none⟩)),(24,vS d j.length f),(25,vI (j.length:Int)),(26,vI b.1)]/\St w0 [] wb [bx g 33 [vI b.2.1,vI b.2.2.1,vI b.2.2.2]]) (fun o x e wb=>match o with|.inl b=>x=.exit 0/\En e [(3,.pointer (some ⟨g,0,none⟩))]/\St w0 [] wb [bx g 33 [vI b.2.1,vI b.2.2.1,vI b.2.2.2]]|.inr r=>x=.ret/\∃u,u=r/\∃v,gL prog f139.results e wb v/\v=.bool u/\St w0 [] wb []) ?_ (C.po [0]) ?_
 · intro b e _ o hM h;obtain⟨e,rfl,_⟩:=eo hM;refine gc h ?_ ?_<;>intro _ h
   · refine gb h fun K z h=>?_;obtain⟨_,_,_,rfl,_,_,_,rfl,_⟩:=i.idx z;refine go ?_;refine T ?_;intro _ _ _ _ G;refine CW.fl [0,3,4,5,24,25,26,33] fun e=>?_;refine gc h ?_ ?_<;>intro _ h
     · refine fm [] #[.bool false,vI 0,vI 0,vI 0,vI 0] ?_;refine LW.u (dL.Cl MD rfl rfl (fun w=>L6 K (dj.mk false 0 (de.mk 0 0 0)) w)) rfl ?_;exact wk
     refine gs ?_;obtain⟨J,p,A⟩:=ob h;refine CW.jn [0,3,5,24,25,26] [0,1] [(46,.bool J)] G (h1:=?_) (h2:=?_)
     · have h:=p;exact wk
     intro e _ _;have h:=A;exact wk
   exact rt
 intro x e _ hM;rcases n with n|_
 · obtain⟨rfl,hM⟩:=hM;obtain⟨e,rfl,_⟩:=eo hM;have h:=m;exact wk
 obtain⟨rfl,u,rfl,hM⟩:=hM;cases m;exact And.intro trivial hM
instance k_139:Ct prog 139:={h:=@IG}
theorem vp{w0 N ay m r}(h:nM N ay m=some r){X ai Y}(ak:ai=ay.length)(R:rb w0 X Y ay){d U j}(ac:U=m.dk.length)(aF:rb w0 d j m.dk){f V k}(ad:V=m.Rw.length)(aG:rb w0 f k m.Rw){g W l}(ae:W=m.Rs.length)(aH:rb w0 g l m.Rs):
    di prog 169 #[vS X ai Y,.agg (uO d U j f V k g W l m)] w0 (fun v w=>∃B K,v=.tuple #[vS B r.1.length K,vI r.2]/\St w0 [] w [sl B K r.1]):=by
 subst ak ac ad ae;unfold nM at h;refine di.fS func169 fun e _=>?_;refine T ?_;intro aA _ _ az _ h _ Z _ _ _ _ h _ aD;refine gc h ?_ ?_<;>intro _ h
 · exact rt
 refine go ?_;obtain⟨ao,av,an⟩:=ob h;refine CW.mono (CW.lx [0,3,6] [0,1] [6] 0 (fun O=>[(7,vI O)]) (fun r x e wb=>x=.ret/\∃u,u=r/\∃v,gL prog f169.results e wb v/\∃B K,v=.tuple #[vS B u.1.length K,vI u.2]/\St w0 [] wb [sl B K u.1]) aD av (hb:=?_)) ?_
 · intro O e _ o aE h;refine gf [0,3,6,7,18] fun e=>?_;refine gc h ?_ ?_<;>intro _ h
   · refine gs ?_;refine CW.block ?_;refine gs ?_;obtain⟨aI,ar,aB⟩:=ob h;refine CW.jn [0,3,6,7] [0,1] [(34,.bool aI)] aE (h1:=?_) (h2:=?_)
     · have h:=ar;refine gb h fun _ aw h=>?_;obtain⟨_,_,_,rfl,_,_,_,⟨_,_,_,_,_,_,rfl,_,_,_⟩,_⟩:=R.idx aw;refine go ?_;refine T ?_;refine bH h ?_ ?_<;>intro _ h
       · exact rt
       refine go ?_;refine T ?_;exact rt
     intro e _ _;have h:=aB;refine gc h ?_ ?_<;>intro _ h
     · exact rt
     refine T ?_;intro b _ h p H q I A J _ _ am _ _ _ _;have⟨aj,ax,h⟩:=ob h;obtain⟨_,_,_,rfl,_,_,_,⟨_,_,_,_,_,_,rfl,_,_,_⟩,_⟩:=R.idx ax;refine go ?_;refine T ?_;intro _ aa;have⟨aK,af,h⟩:=ob h;obtain⟨C,n,rfl,_,_⟩:=aa.dA (α:=c6) (i:=4) rfl af;refine go ?_;have ap:=aa.pk (M:=[sl p H b.dk,sl q I b.Rw,sl A J b.Rs]++[bx am 96 [vI (IntKind.i64.wrap (aj.RG+1)),vI b.Rq,vI b.box,vI b.RF,vI b.dY,vI b.cd,vI b.Ry,vI b.ee,vI b.ed,.bool b.mark,vS p b.dk.length H,vS q b.Rw.length I,vS A b.Rs.length J],sl (some ⟨C,n,none⟩) Z az,bx aA 96 (qO d j f k g l m)]) [1,2,3,0,4,5];have⟨aL,ah,h⟩:=ob h;refine LW.uR (M:=[sl p H b.dk,sl q I b.Rw,sl A J b.Rs]) (L:=[bx am 96 [vI (IntKind.i64.wrap (aj.RG+1)),vI b.Rq,vI b.box,vI b.RF,vI b.dY,vI b.cd,vI b.Ry,vI b.ee,vI b.ed,.bool b.mark,vS p b.dk.length H,vS q b.Rw.length I,vS A b.Rs.length J],sl (some ⟨C,n,none⟩) Z az,bx aA 96 (qO d j f k g l m)]) (z:=aK) (z':=(c6.mk (IntKind.i64.wrap (aj.RG+1)) b.Rq b.box b.RF b.dY b.cd b.Ry b.ee b.ed b.mark b.dk b.Rw b.Rs)) (o:=0) ap (i:=1) rfl af wS rfl (by show _=n+(O:Int).toNat*13+0;omega) rfl rfl rfl rfl (whole (fun w G hG=>⟨p,H,q,I,A,J,rfl,hG⟩)) ?_;intro _ ab hf;rw[oi ah]at ab;refine gs ?_;obtain⟨aJ,au,aC⟩:=ob h;refine CW.jn [0,6,7] [1] [(55,.bool aJ)] ab (h1:=?_) (h2:=?_)
     · have h:=au;exact wk
     intro e _ aq;have h:=aC;refine gf [0,6,7,55] fun e=>?_;refine gc h ?_ ?_<;>intro _ h
     · exact wk
     refine go ?_;replace h:=oi h;subst h;exact⟨trivial,rfl,_,rfl,ry tt tt ⟨(some ⟨C,n,none⟩),Z,(show(.tuple #[vS (some ⟨C,n,none⟩) az.length Z,vI O]:Value)=.tuple #[vS (some ⟨C,n,none⟩) aL.length Z,vI O] by rw[dx (oi ah)]),aq.pk [0]⟩⟩
   exact rt
 intro x e _ hM;rcases ao with ao|_
 · obtain⟨rfl,hM⟩:=hM;obtain⟨e,rfl,_⟩:=eo hM;have h:=an;exact rt
 obtain⟨rfl,u,rfl,hM⟩:=hM;cases an;exact And.intro trivial hM
instance k_169:Ct prog 169:={h:=@vp}
theorem IP{w0 N j l r}(h:kc N j l=some r){b f d}(g:f=j.length)(i:rb w0 b d j):
    di prog 225 #[vS b f d,vI l] w0 (fun v w=>v=.bool r/\St w0 [] w []):=by
 subst g;unfold kc at h;refine di.fS func225 fun e _=>?_;refine go ?_;refine T ?_;intro _ _ h _ _;refine bH h ?_ ?_<;>intro _ h
 · refine T ?_;intro _ _ h _ _;refine bH h ?_ ?_<;>intro _ h
   · refine gb h fun _ k h=>?_;obtain⟨_,_,_,rfl,_,_,_,rfl,_⟩:=i.idx k;refine go ?_;refine T ?_;exact rt
   exact rt
 exact rt
instance k_225:Ct prog 225:={h:=@IP}
theorem zP{w0 N i B r}(h:ns N i B=some r){j n l}(p:n=i.ag.length)(C:rb w0 j l i.ag){k o m}(q:o=i.gc.da.length)(G:rb w0 k m i.gc.da):
    di prog 254 #[.agg (uH j n l k o m i),vI B] w0 (fun v w=>∃b f d g,v=.agg (uH b r.ag.length f d r.gc.da.length g r)/\St w0 [] w [sl b f r.ag,sl d g r.gc.da]):=by
 subst p q;unfold ns at h;refine di.fS func254 fun e _=>?_;refine T ?_;intro _ _ _ _ _ _ _ _ h _ _ _ _ _ _ _ _ _ _ z;obtain⟨A,u,x⟩:=ob h;refine CW.jn [1,4,5] [0,1,2,3] [(15,.bool A)] z (h1:=?_) (h2:=?_)
 · have h:=u;exact wk
 intro e _ _;have h:=x;exact wk
instance k_254:Ct prog 254:={h:=@zP}
theorem Gy{w0 N I M u r}(h:kO N I M u=some r){f n j}(p:n=I.length)(q:rb w0 f j I):
    di prog 161 #[vS f n j,vI M,.agg #[vI u.cd,vI u.dg,vI u.dn]] w0 (fun v w=>∃x z,v=.tuple #[vS x r.1.length z,.bool r.2]/\St w0 [] w [sl x z r.1]):=by
 subst p;unfold kO at h;refine di.fS func161 fun e _=>?_;refine T ?_;intro _ _ _ V _ h _ B _ K;obtain⟨U,L,R⟩:=ob h;refine CW.jn [0,1,5,8] [0,1] [(21,.bool U)] K (h1:=?_) (h2:=?_)
 · have h:=L;exact wk
 intro e _ A;have h:=R;refine gc h ?_ ?_<;>intro _ h
 · exact rt
 refine gs ?_;obtain⟨d,G,J⟩:=ob h;refine CW.j1 [1,8] [0] (fun(b:Nat)=>[(9,.pointer (some ⟨b,0,none⟩)),(10,.bool d.2.2.2)]) (fun b=>[bx b 33 [vI d.1,vI d.2.1,vI d.2.2.1]]) A ?_ ?_
 · have h:=G;refine dW ?_;have:=A.drew;refine gb h fun _ H h=>?_;obtain⟨_,_,_,rfl,_,_,_,rfl,_⟩:=q.idx H;refine go ?_;refine T ?_;have⟨_,_,h⟩:=ob h;refine AW.all (rs:=[6,10]) (by kernel_rfl) (by simp) ⟨?_,?_,trivial⟩
   · refine oA ?_;exact wk
   refine oA ?_;refine T ?_;intro _ _ _;refine jP 6 ?_;exact wk
 intro e b _ k;have h:=J;refine gb h fun _ l h=>?_;obtain⟨g,o,rfl,_,_⟩:=k.dA (α:=dj) (i:=0) rfl l;refine go ?_;refine gb h fun O m h=>?_;refine LW.se 2 k 0 l m (hM:=(fK (fun w cs F hF=>by obtain⟨rfl,rfl⟩:=hF;exact⟨rfl,rfl⟩))) fun _ C=>?_;refine go ?_;replace h:=oi h;subst h;exact Rc tt tt ⟨(some ⟨g,o,none⟩),B,(show(.tuple #[vS (some ⟨g,o,none⟩) V.length B,.bool d.2.2.2]:Value)=.tuple #[vS (some ⟨g,o,none⟩) O.length B,.bool d.2.2.2] by rw[dx (oi m)]),C.pk [0]⟩
instance k_161:Ct prog 161:={h:=@Gy}
theorem xj{w0 N k ah r}(h:qF N k ah=some r){l z n}(B:z=k.ag.length)(G:rb w0 l n k.ag){m A o}(C:A=k.gc.da.length)(ai:rb w0 m o k.gc.da):
    di prog 171 #[.agg (uH l z n m A o k),vI ah] w0 (fun v w=>∃d g f j,v=.agg (uH d r.ag.length g f r.gc.da.length j r)/\St w0 [] w [sl d g r.ag,sl f j r.gc.da]):=by
 subst B C;unfold qF at h;refine di.fS func171 fun e _=>?_;refine T ?_;intro _ _ _ _ _ _ H _ h Z aa aj ak _ _ ab _ _ _ ae;obtain⟨af,L,ac⟩:=ob h;refine CW.jn [1,2,4,5] [0,1,2,3,4] [(24,.bool af)] ae (h1:=?_) (h2:=?_)
 · have h:=L;refine T ?_;intro _ _ h _ _;refine bH h ?_ ?_<;>intro _ h
   · exact rt
   refine T ?_;intro _ _ h _ _;refine bH h ?_ ?_<;>intro _ h
   · exact rt
   refine gb h fun _ O h=>?_;obtain⟨_,_,_,rfl,_,_,_,⟨_,_,_,_,_,_,rfl,_,_,_⟩,_⟩:=G.idx O;refine go ?_;refine T ?_;exact rt
 intro e _ b;have h:=ac;refine gc h ?_ ?_<;>intro _ h
 · exact wk
 refine gs ?_;obtain⟨I,M,ad⟩:=ob h;refine CW.j0 [4,5] [2,3] [] [bx ab 51 [vS Z I.length aa,vI H.gc.Ru,vI H.gc.RD,vI H.gc.Rv,vS aj H.gc.da.length ak],sl Z aa I] b ?_ ?_
 · have h:=M;refine gB h ?_ ?_<;>intro _ h
   · refine gb h fun _ p h=>?_;obtain⟨_,_,rfl,_,_⟩:=b.dA (α:=c6) (i:=1) rfl p;refine go ?_;refine gb h fun _ q h=>?_;refine LW.se 9 b 1 p q (hM:=(fK (fun w cs F hF=>by obtain⟨R,W,U,X,V,Y,rfl,hH⟩:=hF;exact⟨R,W,U,X,V,Y,rfl,hH⟩))) fun _ J=>?_;refine go ?_;rw[dx (oi q)]at J;exact rt
   refine gb h fun _ u h=>?_;obtain⟨_,_,rfl,_,_⟩:=b.dA (α:=c6) (i:=1) rfl u;refine go ?_;refine gb h fun _ x h=>?_;refine LW.se 9 b 1 u x (hM:=(fK (fun w cs F hF=>by obtain⟨R,W,U,X,V,Y,rfl,hH⟩:=hF;exact⟨R,W,U,X,V,Y,rfl,hH⟩))) fun _ K=>?_;refine go ?_;rw[dx (oi x)]at K;exact rt
 intro e _ _;have h:=ad;exact wk
instance k_171:Ct prog 171:={h:=@xj}
theorem zz{w0 N I K u r}(h:j8 N I K u=some r){f n j}(p:n=I.length)(q:rb w0 f j I):
    di prog 221 #[vS f n j,vI K,.agg #[vI u.cd,vI u.dg,vI u.dn]] w0 (fun v w=>∃x z,v=.tuple #[vS x r.1.length z,.bool r.2]/\St w0 [] w [sl x z r.1]):=by
 subst p;unfold j8 at h;refine di.fS func221 fun e _=>?_;refine T ?_;intro _ _ _ M _ h _ B _ _ _ _ h _ A;refine gc h ?_ ?_<;>intro _ h
 · exact rt
 refine gs ?_;obtain⟨d,G,J⟩:=ob h;refine CW.j1 [1,8] [0] (fun(b:Nat)=>[(9,.pointer (some ⟨b,0,none⟩)),(10,.bool d.2.2.2)]) (fun b=>[bx b 33 [vI d.1,vI d.2.1,vI d.2.2.1]]) A ?_ ?_
 · have h:=G;refine dW ?_;have:=A.drew;refine gb h fun _ H h=>?_;obtain⟨_,_,_,rfl,_,_,_,rfl,_⟩:=q.idx H;refine go ?_;refine T ?_;have⟨_,_,h⟩:=ob h;refine AW.all (rs:=[6,10]) (by kernel_rfl) (by simp) ⟨?_,?_,trivial⟩
   · refine oA ?_;exact wk
   refine oA ?_;refine T ?_;intro _ _ _;refine jP 6 ?_;exact wk
 intro e b _ k;have h:=J;refine gc h ?_ ?_<;>intro _ h
 · exact rt
 refine gb h fun _ l h=>?_;obtain⟨g,o,rfl,_,_⟩:=k.dA (α:=dj) (i:=0) rfl l;refine go ?_;refine gb h fun L m h=>?_;refine LW.se 2 k 0 l m (hM:=(fK (fun w cs F hF=>by obtain⟨rfl,rfl⟩:=hF;exact⟨rfl,rfl⟩))) fun _ C=>?_;refine go ?_;replace h:=oi h;subst h;exact Rc tt tt ⟨(some ⟨g,o,none⟩),B,(show(.tuple #[vS (some ⟨g,o,none⟩) M.length B,.bool true]:Value)=.tuple #[vS (some ⟨g,o,none⟩) L.length B,.bool true] by rw[dx (oi m)]),C.pk [0]⟩
instance k_221:Ct prog 221:={h:=@zz}
theorem It{w0 N b d r}(h:qx N b d=some r):
    di prog 69 #[.agg #[vI b.cd,vI b.dg,vI b.dn],.agg #[vI d.cd,vI d.dg,vI d.dn]] w0 (fun v w=>v=.tuple #[.agg #[vI r.1.cd,vI r.1.dg,vI r.1.dn],.bool r.2]/\St w0 [] w []):=by
 unfold qx at h;refine di.fS func69 fun e _=>?_;refine T ?_;intro _ _ _ _ _ _ _ _ f;obtain⟨j,g,i⟩:=ob h;refine CW.jn [2,3,4] [0,1,2] [(20,.bool j)] f (h1:=?_) (h2:=?_)
 · have h:=g;exact wk
 intro e _ _;have h:=i;exact wk
instance k_69:Ct prog 69:={h:=@It}
theorem GO{w0 N n r}(h:pd N n=some r){d g f}(i:g=n.length)(j:rb w0 d f n):
    di prog 140 #[vS d g f] w0 (fun v w=>v=.agg #[vI r.cd,vI r.dg,vI r.dn]/\St w0 [] w []):=by
 subst i;unfold pd at h;refine di.fS func140 fun e _=>?_;refine T ?_;intro _ _ _;refine LW.bd [] #[vI 0,vI 0,vI 0] ?_;refine T ?_;intro q _ _ _ _ _ _ h _ k;refine gc h ?_ ?_<;>intro _ h
 · exact wk
 refine go ?_;obtain⟨_,l,p⟩:=ob h;refine CW.i0 l 0 [2,3,11,12] [1] (fun b=>[(13,vI b.1)]) (fun b=>[bx q 33 [vI b.2.1,vI b.2.2.1,vI b.2.2.2]]) k ?_ ?_ ?_
 · exact k.po [1,0]
 · intro b e _ o _ h;refine gc h ?_ ?_<;>intro _ h
   · refine gb h fun _ m h=>?_;obtain⟨_,_,_,rfl,_,_,_,rfl,_⟩:=j.idx m;exact wk
   exact rt
 intro e _ _;have h:=p;exact wk
instance k_140:Ct prog 140:={h:=@GO}
theorem w5{w0}{F:List Nat}{N b W C r}(h:mg N b W C=some r){J:Nat}{f n}(X:dX (eJ w0 F) w0 f n b.Rn.Rp.Ro){g o}(Y:dX (eJ w0 F) w0 g o b.Rn.own){j p k q}(Z:dX (eJ w0 F) w0 k q b.Rn.py.ag){l x}(aa:dX (eJ w0 F) w0 l x b.Rn.py.gc.da){m z}(ab:dX (eJ w0 F) w0 m z b.Rn.db)(hS:St w0 F w0 [bx J 183 (qC f n g o j p k q l x m z b),sl j p b.Rn.Rr]):
    di prog 239 #[.pointer (some ⟨J,0,none⟩),vI W,.agg #[vI C.cd,vI C.dg,vI C.dn]] w0 (fun v w=>∃A B,v=.bool r.1/\St w0 F w [bx J 183 [vS f b.Rn.Rp.Ro.length n,vS g b.Rn.own.length o,vS A r.2.Rn.Rr.length B,vS k b.Rn.py.ag.length q,vI r.2.Rn.py.gc.Ru,vI r.2.Rn.py.gc.RD,vI r.2.Rn.py.gc.Rv,vS l b.Rn.py.gc.da.length x,vS m b.Rn.db.length z,vI r.2.Rn.RA,vI r.2.Rn.Rz,vI r.2.Rn.dc.cd,vI r.2.Rn.dc.dg,vI r.2.Rn.dc.dn,vI r.2.Rn.du,vI r.2.Rn.Rx,vI r.2.me,vI r.2.RB,vI r.2.dS],sl A B r.2.Rn.Rr]):=by
 unfold mg at h;refine di.fn func239 fun e=>?_;refine T ?_;intro _ _ R;refine dW ?_;have:=R.drew;refine T ?_;intro _ _ h ac ad _ I;obtain⟨H,U,ae⟩:=ob h;refine CW.j1 [0,7,8] [0,2,3] (fun(d:Nat)=>[(9,.pointer (some ⟨d,0,none⟩)),(10,.bool H.2.2.2)]) (fun d=>[bx d 33 [vI H.1,vI H.2.1,vI H.2.2.1]]) I ?_ ?_
 · have h:=U;refine dW ?_;have:=I.drew;refine go ?_;refine AW.u (i:=7) rfl (by kernel_rfl) rfl rfl (dL.build (vs:=[(1,vI C.dg)]) (cs:=#[vI 0,vI C.dg,vI 0]) rfl (by kernel_rfl)) ?_;have⟨_,_,h⟩:=ob h;refine AW.all (rs:=[8,12]) (by kernel_rfl) (by simp) ⟨?_,?_,trivial⟩
   · refine oA ?_;exact wk
   refine oA ?_;refine T ?_;intro _ _ _;refine jP 8 ?_;exact wk
 intro e d _ K;have h:=ae;refine gs ?_;obtain⟨V,M,O⟩:=ob h;refine CW.jn [0,7,9] [0,1,2,3] [(39,.bool V)] K (h1:=?_) (h2:=?_)
 · have h:=M;exact wk
 intro e _ G;have h:=O;refine gc h ?_ ?_<;>intro _ h
 · refine go ?_;replace h:=oi h;subst h;exact Ra ⟨j,p,rfl,G.pk [1,2]⟩
 refine fA ?_;have:=G.drew;refine T ?_;intro _ _ _ L;replace h:=oi h;subst h;exact Ra ⟨ac,ad,rfl,L.pk [1,0]⟩
instance k_239:Ct prog 239:={h:=@w5}
theorem Fu{w0 N M X x r}(h:mn N M X x=some r){d o g}(q:o=M.length)(u:rb w0 d g M):
    di prog 218 #[vS d o g,vI X,.agg #[vI x.cd,vI x.dg,vI x.dn]] w0 (fun v w=>∃z A,v=.tuple #[vS z r.1.length A,.bool r.2]/\St w0 [] w [sl z A r.1]):=by
 subst q;unfold mn at h;refine di.fS func218 fun e _=>?_;refine T ?_;intro _ _ _ Z _ h _ C _ _ _ _ h _ B;refine gc h ?_ ?_<;>intro _ h
 · exact rt
 refine gs ?_;obtain⟨V,I,O⟩:=ob h;refine CW.jn [0,1,5,8] [0,1] [(10,.bool V)] B (h1:=?_) (h2:=?_)
 · have h:=I;refine dW ?_;have:=B.drew;refine gb h fun _ _ h=>?_;refine AW.all (rs:=[1,7]) (by kernel_rfl) (by simp) ⟨?_,?_,trivial⟩
   · refine oA ?_;refine T ?_;intro _ _;have⟨_,_,h⟩:=ob h;refine AW.all (rs:=[3,7]) (by kernel_rfl) (by simp) ⟨?_,?_,trivial⟩
     · refine oA ?_;exact wk
     refine oA ?_;refine T ?_;intro _ _ _;refine jP 3 ?_;exact wk
   refine oA ?_;refine T ?_;intro _ _ _;refine jP 1 ?_;exact wk
 intro e _ _;have h:=O;refine gc h ?_ ?_<;>intro _ h
 · exact rt
 refine T ?_;intro _ _ h _ G;obtain⟨W,J,R⟩:=ob h;refine CW.jn [0,5,8] [0,1] [(1,vI W)] G (h1:=?_) (h2:=?_)
 · have h:=J;refine CW.fl [0,1,5,8,32] fun e=>?_;exact wk
 intro e _ j;have h:=R;refine gs ?_;obtain⟨n,K,U⟩:=ob h;refine CW.j1 [1,8] [0] (fun(b:Nat)=>[(11,.pointer (some ⟨b,0,none⟩))]) (fun b=>[bx b 33 [vI n.1,vI n.2.1,vI n.2.2]]) j ?_ ?_
 · have h:=K;refine dW ?_;have:=j.drew;refine gb h fun _ L h=>?_;obtain⟨_,_,_,rfl,_,_,_,rfl,_⟩:=u.idx L;refine go ?_;refine T ?_;have⟨_,_,h⟩:=ob h;refine AW.all (rs:=[6,10]) (by kernel_rfl) (by simp) ⟨?_,?_,trivial⟩
   · refine oA ?_;exact wk
   refine oA ?_;refine T ?_;intro _ _ _;refine jP 6 ?_;exact wk
 intro e b _ k;have h:=U;refine gb h fun _ l h=>?_;obtain⟨f,p,rfl,_,_⟩:=k.dA (α:=dj) (i:=0) rfl l;refine go ?_;refine gb h fun Y m h=>?_;refine LW.se 2 k 0 l m (hM:=(fK (fun w cs F hF=>by obtain⟨rfl,rfl⟩:=hF;exact⟨rfl,rfl⟩))) fun _ H=>?_;refine go ?_;replace h:=oi h;subst h;exact Rc tt tt ⟨(some ⟨f,p,none⟩),C,(show(.tuple #[vS (some ⟨f,p,none⟩) Z.length C,.bool true]:Value)=.tuple #[vS (some ⟨f,p,none⟩) Y.length C,.bool true] by rw[dx (oi m)]),H.pk [0]⟩
instance k_218:Ct prog 218:={h:=@Fu}
theorem Gm{w0 N i r}(h:rA N i=some r){b f d}(g:f=i.length)(j:rb w0 b d i):
    di prog 187 #[vS b f d] w0 (fun v w=>v=.agg #[vI r.cd,vI r.dg,vI r.dn]/\St w0 [] w []):=by
 subst g;unfold rA at h;refine di.fS func187 fun e _=>?_;refine T ?_;intro _ _ _ _ _ h _ _;refine gc h ?_ ?_<;>intro _ h
 · refine fm [] #[vI 0,vI 0,vI 0] ?_;exact wk
 exact wk
instance k_187:Ct prog 187:={h:=@Gm}
end Go.Kx
