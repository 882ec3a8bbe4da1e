import Derived.Test.YtfmfgnhbgcjajaaGreatWa9
import Derived.Test.YtfmfgnhbgcjajaaGreatWa10
import Derived.Test.YtfmfgnhbgcjajaaGreatWa11
namespace Go.Kx
open Go Go.RowKit Go.Proofs
open Go.IntKind (i64)
open Tryz
set_option maxRecDepth 10000
set_option maxHeartbeats 8000000
set_option linter.unusedVariables false
set_option linter.unusedSimpArgs false
theorem Dy{w0}{F:List Nat}{N f aw r}(h:oB N f aw=some r){x L z}(O:L=f.ag.length){l M m}(R:M=f.gc.da.length)(hS:St w0 F w0 [sl x z f.ag,sl l m f.gc.da]):
    di prog 198 #[.agg (uH x L z l M m f),vI aw] w0 (fun v w=>∃n p o q,v=.tuple #[.agg (uH n r.1.ag.length p o r.1.gc.da.length q r.1),vI r.2]/\St w0 F w [sl n p r.1.ag,sl o q r.1.gc.da]):=by
 subst O R;unfold oB at h;refine di.fn func198 fun e=>?_;refine T ?_;intro an _ _ _ _ W;have⟨_,H,h⟩:=ob h;obtain⟨_,_,rfl,_,_⟩:=W.dA (α:=c6) (i:=2) rfl H;refine go ?_;obtain⟨_,C,_⟩:=W.freeze (α:=c6) 2 rfl;obtain⟨_,_,_,au,_,_,_,ab,_⟩:=C.fe.idx H;cases au;obtain⟨_,_,_,_,_,_,rfl,_,_,_⟩:=ab;refine T ?_;intro _ _ _ _ ar;obtain⟨av,ac,ao⟩:=ob h;refine CW.jn [2,4,6,8] [1,2,3,4] [(33,.bool av)] ar (h1:=?_) (h2:=?_)
 · have h:=ac;exact wk
 intro e _ X;have h:=ao;refine gs ?_;obtain⟨K,ad,ap⟩:=ob h;refine CW.j2 [2,4] [0,3] (fun(b:Ad) (d:Nat)=>[(8,vI K.1)]) (fun b d=>[bx an 51 [vS b K.2.length d,vI f.gc.Ru,vI f.gc.RD,vI f.gc.Rv,vS l f.gc.da.length m],sl b d K.2]) X ?_ ?_
 · have h:=ad;refine CW.fl [2,4,6,8,33] fun e=>?_;refine gc h ?_ ?_<;>intro _ h
   · exact wk
   refine go ?_;have Y:=X.dZ (α:=c6) 2 rfl C;have⟨_,G,h⟩:=ob h;refine LW.se 9 Y 2 H G (hM:=(fK (fun w cs F hF=>by obtain⟨af,aj,ah,ak,ai,am,rfl,hH⟩:=hF;exact⟨af,aj,ah,ak,ai,am,rfl,hH⟩))) fun _ Z=>?_;refine go ?_;rw[dx (oi G)]at Z;exact rt
 intro e b d _ _;have h:=ap;refine T ?_;intro _ A;obtain⟨k,ae,aq⟩:=ob h;refine CW.j2 [2,4,8] [0] (fun(g:Ad) (j:Nat)=>[]) (fun g j=>[bx an 51 [vS b k.1.length d,vI k.2.1,vI k.2.2.1,vI k.2.2.2.1,vS g k.2.2.2.2.length j],sl b d k.1,sl g j k.2.2.2.2]) A ?_ ?_
 · have h:=ae;refine CW.fl [2,4,8,57] fun e=>?_;refine gc h ?_ ?_<;>intro _ h
   · refine go ?_;refine LW.u (dL.min rfl rfl) rfl ?_;refine LW.bi [0] A ?_;intro U V _ _ hf;refine LW.bd [(2,vI (if 1000000<i64.wrap (f.gc.Rv+1)then 1000000 else i64.wrap (f.gc.Rv+1))),(3,vS U (([0]:List Int).length) V)] #[vI 0,vI 0,vI (if 1000000<i64.wrap (f.gc.Rv+1)then 1000000 else i64.wrap (f.gc.Rv+1)),vS U (([0]:List Int).length) V] ?_;refine T ?_;intro _ B;have⟨_,I,h⟩:=ob h;obtain⟨_,_,rfl,_,_⟩:=B.dA (α:=c6) (i:=4) rfl I;refine go ?_;refine gb h fun _ J h=>?_;refine LW.se 9 B 4 I J (hM:=(fK (fun w cs F hF=>by obtain⟨af,aj,ah,ak,ai,am,rfl,hH⟩:=hF;exact⟨af,aj,ah,ak,ai,am,rfl,hH⟩))) fun _ aa=>?_;refine go ?_;rw[dx (oi J)]at aa;exact rt
   exact rt
 intro e g j _ _;have h:=aq;exact wk
instance k_198:Ct prog 198:={h:=@Dy}
theorem Ig{w0 N m a3 r}(h:sS N m a3=some r){K ak V}(ar:ak=m.Rp.Ro.length)(B:rb w0 K V m.Rp.Ro){L am W}(au:am=m.own.length)(C:rb w0 L W m.own){M an X}(av:an=m.Rr.length)(j:rb w0 M X m.Rr){O ao Y}(aw:ao=m.py.ag.length)(k:rb w0 O Y m.py.ag){R ap Z}(ax:ap=m.py.gc.da.length)(G:rb w0 R Z m.py.gc.da){U aq aa}(ay:aq=m.db.length)(H:rb w0 U aa m.db):
    di prog 215 #[.agg (uP K ak V L am W M an X O ao Y R ap Z U aq aa m),vI a3] w0 (fun v w=>v=vI r/\St w0 [] w []):=by
 subst ar au av aw ax ay;unfold sS at h;refine di.fS func215 fun e aY=>?_;refine we aY fun _ _ n=>?_;refine gb h fun _ a0 h=>?_;refine LW.cl (wL a0 rfl (n.rB B) rfl (n.rB C) rfl (n.rB j) rfl (n.rB k) rfl (n.rB G) rfl (n.rB H)) ?_;rintro _ _ ⟨_,_,rfl,hs⟩;have aA:=n.add hs;refine gc h ?_ ?_<;>intro _ h
 · refine go ?_;cases h;exact fi aA
 refine go ?_;obtain⟨_,az,aB⟩:=ob h;refine CW.mono (CW.lb [2,5] [0,1] [6] 0 (fun aW=>[(6,vI aW.1),(7,vI aW.2)]) aA az (hb:=?_)) ?_
 · intro aW e a4 o ac h;refine gf [2,5,6,7,17] fun e=>?_;refine gc h ?_ ?_<;>intro _ h
   · refine gs ?_;refine CW.block ?_;refine gs ?_;obtain⟨a1,aJ,aX⟩:=ob h;refine CW.jn [2,5,6,7] [0,1] [(57,.bool a1)] ac (h1:=?_) (h2:=?_)
     · have h:=aJ;refine dW ?_;have ad:=ac.drew;refine gB h ?_ ?_<;>intro d h
       · refine go ?_;cases oi h;exact ad.po [0,1]
       refine gb h fun _ ai h=>?_;obtain⟨_,_,rfl,_,_⟩:=ad.dA (α:=Int) (i:=0) rfl ai;refine go ?_;obtain⟨_,af,f⟩:=ad.freeze (α:=Int) 0 rfl;obtain⟨_,_,_,p,J,_,_,aF,aK⟩:=af.fe.idx ai;cases p;obtain rfl:=aF;refine AW.take (i:=12) rfl (by kernel_rfl) (jd rfl rfl d) rfl (fv.iu a4.drew jR rfl (aK 0 _ rfl)) (f.zC 0 rfl J) ?_;have⟨_,aQ,h⟩:=ob h;obtain⟨_,_,_,rfl,q,_,_,⟨_,_,_,_,_,_,rfl,_,_,_⟩,aL⟩:=k.idx aQ;refine go ?_;refine AW.take (i:=15) rfl (by kernel_rfl) (jd rfl rfl d) rfl (fv.iu w0 jR rfl (aL 3 _ rfl)) (f.same _ q.1 q.2) ?_;refine AW.u (i:=21) rfl (by kernel_rfl) (jd rfl rfl d) rfl (dL.fa Pa rfl) ?_;refine gb h fun _ aR h=>?_;obtain⟨_,_,_,p,z,_,_,aG,aM⟩:=k.idx aR;cases p;obtain⟨_,_,_,_,_,_,rfl,_,_,_⟩:=aG;refine go ?_;refine AW.take (i:=30) rfl (by kernel_rfl) (jd rfl rfl d) rfl (fv.iu w0 jR rfl (aM 3 _ rfl)) (f.same _ z.1 z.2) ?_;have⟨_,aS,h⟩:=ob h;refine jO 16 ?_;refine(LW.gY (jd rfl rfl d) ?_);refine LW.cl (wj aS rfl (f.rB B) rfl (f.rB C) rfl (f.rB j) rfl (f.rB k) rfl (f.rB G) rfl (f.rB H)) ?_;rintro _ _ ⟨rfl,hs⟩;have b:=f.add hs;refine jN (.c (b.same _ z.1 z.2) (.c (b.ce 1) (.c (b.ce 1) (.c (b.ce 1) (jW (.c (b.zC 0 rfl J) (.c (b.ce 1) (jW (.c (b.ce 1) jZ))))))))) ?_;have⟨_,aT,h⟩:=ob h;obtain⟨_,_,_,rfl,A,_,_,rfl,aN⟩:=j.idx aT;refine go ?_;refine AW.take (i:=20) rfl (by kernel_rfl) (jd rfl rfl d) rfl (fv.iu w0 jR rfl (aN 4 _ rfl)) (b.same _ A.1 A.2) ?_;have⟨_,aU,h⟩:=ob h;refine jO 31 ?_;refine(LW.gY (jd rfl rfl d) ?_);refine LW.cl (wj aU rfl (b.rB B) rfl (b.rB C) rfl (b.rB j) rfl (b.rB k) rfl (b.rB G) rfl (b.rB H)) ?_;rintro _ _ ⟨rfl,hs⟩;have g:=b.add hs;refine jN (.c (g.same _ A.1 A.2) (jW (.c (g.ce 1) (jW (.c (g.ce 1) (.c (g.same _ q.1 q.2) (.c (g.zC 0 rfl J) (.c (g.ce 1) (.c (g.ce 1) (.c (g.ce 1) jZ)))))))))) ?_;have⟨_,aV,h⟩:=ob h;obtain⟨_,_,_,p,ae,_,_,aH,aO⟩:=j.idx aV;cases p;obtain rfl:=aH;refine go ?_;refine AW.take (i:=35) rfl (by kernel_rfl) (jd rfl rfl d) rfl (fv.iu w0 jR rfl (aO 4 _ rfl)) (g.same _ ae.1 ae.2) ?_;refine go ?_;have aZ:=g.dZ (α:=Int) 0 rfl af;cases oi h;exact aZ.po [0,1]
     intro e a2 I;have h:=aX;refine gc h ?_ ?_<;>intro _ h
     · refine gb h fun _ aj h=>?_;obtain⟨_,_,rfl,_,_⟩:=I.dA (α:=Int) (i:=0) rfl aj;refine go ?_;obtain⟨_,ah,ab⟩:=I.freeze (α:=Int) 0 rfl;obtain⟨_,_,_,p,aE,_,_,aI,aP⟩:=ah.fe.idx aj;cases p;obtain rfl:=aI;refine LW.l (fv.iu a2 jR rfl (aP 0 _ rfl)) (ab.zC 0 rfl aE) rfl ?_;refine go ?_;have aC:=ab.dZ (α:=Int) 0 rfl ah;cases oi h;exact⟨rfl,(aC.po [0,1])⟩
     refine go ?_;cases oi h;exact⟨rfl,(I.po [0,1])⟩
   refine go ?_;cases oi h;exact⟨trivial,rfl,(ac.po [0,1])⟩
 intro x e _ hM;obtain⟨rfl,hM⟩:=hM;obtain⟨e,rfl,aD⟩:=eo hM;have h:=aB;refine go ?_;cases h;exact fi aD
instance k_215:Ct prog 215:={h:=@Ig}
theorem IC{w0 N k au r}(h:sZ N k au=some r){q L z}(O:L=k.ag.length)(U:rb w0 q z k.ag){x M A}(R:M=k.gc.da.length)(av:rb w0 x A k.gc.da):
    di prog 217 #[.agg (uH q L z x M A k),vI au] w0 (fun v w=>∃m o n p,v=.tuple #[.agg (uH m r.1.ag.length o n r.1.gc.da.length p r.1),vI r.2]/\St w0 [] w [sl m o r.1.ag,sl n p r.1.gc.da]):=by
 subst O R;unfold sZ at h;refine di.fS func217 fun e _=>?_;refine T ?_;intro _ _ _ _ _ _ V _ h _ _ aw ax _ _ Y _ _ _ _ _ _ h _ _;refine gc h ?_ ?_<;>intro _ h
 · exact wk
 refine gf [1,2,4,6,21] fun e=>?_;refine gc h ?_ ?_<;>intro _ h
 · exact wk
 refine gb h fun _ af h=>?_;obtain⟨_,_,_,rfl,_,_,_,⟨_,_,_,_,_,_,rfl,_,_,_⟩,_⟩:=U.idx af;refine go ?_;refine T ?_;intro _ _ _ _ Z;obtain⟨ar,ac,ao⟩:=ob h;refine CW.jn [2,4,6,7,8,9] [0,1,2,3,4,5] [(49,.bool ar)] Z (h1:=?_) (h2:=?_)
 · have h:=ac;exact wk
 intro e _ l;have h:=ao;refine gs ?_;obtain⟨K,ad,ap⟩:=ob h;refine CW.j2 [2,4,6,7] [3,4,5] (fun(b:Ad) (d:Nat)=>[(8,vI K.1)]) (fun b d=>[bx Y 51 [vS b K.2.length d,vI V.gc.Ru,vI V.gc.RD,vI V.gc.Rv,vS aw V.gc.da.length ax],sl b d K.2]) l ?_ ?_
 · have h:=ad;refine CW.fl [2,4,6,7,8,9,49] fun e=>?_;refine gc h ?_ ?_<;>intro _ h
   · exact wk
   refine gc h ?_ ?_<;>intro _ h
   · refine gb h fun _ G h=>?_;obtain⟨_,_,rfl,_,_⟩:=l.dA (α:=c6) (i:=2) rfl G;refine go ?_;refine gb h fun _ H h=>?_;refine LW.se 9 l 2 G H (hM:=(fK (fun w cs F hF=>by obtain⟨ah,ak,ai,am,aj,an,rfl,hH⟩:=hF;exact⟨ah,ak,ai,am,aj,an,rfl,hH⟩))) fun _ aa=>?_;refine go ?_;rw[dx (oi H)]at aa;exact rt
   exact rt
 intro e b d _ _;have h:=ap;refine T ?_;intro _ B;obtain⟨j,ae,aq⟩:=ob h;refine CW.j2 [4,6,8] [1] (fun(f:Ad) (g:Nat)=>[]) (fun f g=>[bx Y 51 [vS b j.1.length d,vI j.2.1,vI j.2.2.1,vI j.2.2.2.1,vS f j.2.2.2.2.length g],sl b d j.1,sl f g j.2.2.2.2]) B ?_ ?_
 · have h:=ae;refine CW.fl [2,4,6,8,75] fun e=>?_;refine gc h ?_ ?_<;>intro _ h
   · refine go ?_;refine LW.u (dL.min rfl rfl) rfl ?_;refine LW.bi [0] B ?_;intro W X _ _ hf;refine LW.bd [(2,vI (if 1000000<i64.wrap (k.gc.Rv+1)then 1000000 else i64.wrap (k.gc.Rv+1))),(3,vS W (([0]:List Int).length) X)] #[vI 0,vI 0,vI (if 1000000<i64.wrap (k.gc.Rv+1)then 1000000 else i64.wrap (k.gc.Rv+1)),vS W (([0]:List Int).length) X] ?_;refine T ?_;intro _ C;have⟨_,I,h⟩:=ob h;obtain⟨_,_,rfl,_,_⟩:=C.dA (α:=c6) (i:=5) rfl I;refine go ?_;refine gb h fun _ J h=>?_;refine LW.se 9 C 5 I J (hM:=(fK (fun w cs F hF=>by obtain⟨ah,ak,ai,am,aj,an,rfl,hH⟩:=hF;exact⟨ah,ak,ai,am,aj,an,rfl,hH⟩))) fun _ ab=>?_;refine go ?_;rw[dx (oi J)]at ab;exact rt
   exact rt
 intro e f g _ _;have h:=aq;exact wk
instance k_217:Ct prog 217:={h:=@IC}
theorem Dn{w0 N H r}(h:jE N H=some r){K R O}(U:R=H.parts.length)(V:rb w0 K O H.parts):
    di prog 76 #[.agg #[vI H.RB,vS K R O]] w0 (fun v w=>∃I J,v=.agg #[vI r.RB,vS I r.parts.length J]/\St w0 [] w [sl I J r.parts]):=by
 subst U;unfold jE at h;refine di.fS func76 fun e _=>?_;refine T ?_;intro _ _ _ ax _ _;refine LW.bd [(0,vI H.RB)] #[vI H.RB,vS none 0 0] ?_;refine T ?_;intro ao _ _ _ az;refine go ?_;have am:=az.nil (α:=bh);obtain⟨_,au,ay⟩:=ob h;refine CW.i2 au 0 [2,3,10,11] [2] (fun C (d:Ad) (f:Nat)=>[(12,vI C.1)]) (fun C d f=>[bx ao 40 [vI H.RB,vS d C.2.length f],sl d f C.2]) am ?_ ?_ ?_
 · exact⟨none,0,am.po [2,1,0]⟩
 · intro C e d f _ o _ h;refine gc h ?_ ?_<;>intro _ h
   · refine gb h fun an av h=>?_;obtain⟨_,_,_,rfl,_,_,_,⟨W,ac,X,ad,Y,ae,Z,af,aa,ah,ab,ai,rfl,_,_,_,_,_,_⟩,_⟩:=V.idx av;refine go ?_;refine T ?_;intro aj _ _ _ aA;refine dW ?_;have:=aA.drew;refine T ?_;intro b _ h g q k u l x m z n A p B _ ap;refine LW.LU (vs:=#[vS g b.Rp.Ro.length q,vS k b.own.length u,vS l b.Rr.length x,vS m b.py.ag.length z,vI b.py.gc.Ru,vI b.py.gc.RD,vI b.py.gc.Rv,vS n b.py.gc.da.length A,vS p b.db.length B,vI b.RA,vI b.Rz,vI b.dc.cd,vI b.dc.dg,vI b.dc.dn,vI b.du,vI b.Rx]) Ai rfl (by kernel_rfl) ap rfl ?_;intro ak _ aq hf;refine T ?_;have ar:=aq.pk (M:=[sl g q b.Rp.Ro,sl k u b.own,sl l x b.Rr,sl m z b.py.ag,sl n A b.py.gc.da,sl p B b.db]++[bx ak 54 (qP g q k u l x m z n A p B b),bx aj 54 (qP W ac X ad Y ae Z af aa ah ab ai an),bx ax 40 [vI 0,vS none 0 0],bx ao 40 [vI H.RB,vS d C.2.length f],sl d f C.2]) [1,2,3,4,5,6,0,7,8,9,10];have⟨_,aw,h⟩:=ob h;refine T ?_;refine LW.BU (M:=[sl g q b.Rp.Ro,sl k u b.own,sl l x b.Rr,sl m z b.py.ag,sl n A b.py.gc.da,sl p B b.db]) (L:=[bx ak 54 (qP g q k u l x m z n A p B b),bx aj 54 (qP W ac X ad Y ae Z af aa ah ab ai an),bx ax 40 [vI 0,vS none 0 0],bx ao 40 [vI H.RB,vS d C.2.length f],sl d f C.2]) (vs:=(qP g q k u l x m z n A p B b)) (i:=4) (j:=0) Ai rfl rfl aw ar rfl rfl (fun w G hG=>⟨g,q,k,u,l,x,m,z,n,A,p,B,rfl,hG⟩) rfl ?_
     intro _ _ _ _ hf;exact wk
   exact rt
 intro e d f _ _;have h:=ay;exact wk
instance k_76:Ct prog 76:={h:=@Dn}
theorem G6{w0 N i r}(h:ma N i=some r){d j f}(k:j=i.parts.length)(l:rb w0 d f i.parts):
    di prog 48 #[.agg #[vI i.RB,vS d j f]] w0 (fun v w=>v=.bool r/\St w0 [] w []):=by
 subst k;unfold ma at h;refine di.fS func48 fun e _=>?_;refine T ?_;intro _ _ A;obtain⟨H,C,G⟩:=ob h;refine CW.jn [1] [0] [(16,.bool H)] A (h1:=?_) (h2:=?_)
 · have h:=C;exact wk
 intro e _ _;have h:=G;refine gc h ?_ ?_<;>intro _ h
 · exact rt
 refine fm [] #[vI 0,vI 0,vI 0] ?_;refine T ?_;intro g _ _ _ B;refine go ?_;obtain⟨n,q,m⟩:=ob h;refine CW.it q (fun b e wb=>En e [(3,.pointer (some ⟨g,0,none⟩)),(19,vS d i.parts.length f),(20,vI (i.parts.length:Int)),(21,vI b.1)]/\St w0 [] wb [bx g 33 [vI b.2.1,vI b.2.2.1,vI b.2.2.2]]) (fun o x e wb=>match o with|.inl b=>x=.exit 0/\En e [(3,.pointer (some ⟨g,0,none⟩))]/\St w0 [] wb [bx g 33 [vI b.2.1,vI b.2.2.1,vI b.2.2.2]]|.inr r=>x=.ret/\∃u,u=r/\∃v,gL prog f48.results e wb v/\v=.bool u/\St w0 [] wb []) ?_ (B.po [0]) ?_
 · intro b e _ o hM h;obtain⟨hE,_⟩:=hM;obtain⟨e,rfl⟩:=hE.out;refine gc h ?_ ?_<;>intro _ h
   · refine gb h fun _ z h=>?_;obtain⟨_,_,_,rfl,_,_,_,⟨_,_,_,_,_,_,_,_,_,_,_,_,rfl,_,_,_,_,_,_⟩,_⟩:=l.idx z;refine go ?_;refine T ?_;intro _ _ _ _ _ _ _ h _ p;refine CW.fl [3,5,19,20,21,27] fun e=>?_;refine gc h ?_ ?_<;>intro _ h
     · exact rt
     refine fA ?_;have:=p.drew;exact wk
   exact rt
 intro x e _ hM;rcases n with n|_
 · obtain⟨rfl,hM⟩:=hM;obtain⟨hE,_⟩:=hM;obtain⟨e,rfl⟩:=hE.out;have h:=m;exact wk
 obtain⟨rfl,u,rfl,hM⟩:=hM;cases m;exact And.intro trivial hM
instance k_48:Ct prog 48:={h:=@G6}
theorem IH{w0 N A ay r}(h:sQ N A ay=some r){B R G}(X:R=A.ag.length)(z:rb w0 B G A.ag){C U H}(Y:U=A.gc.da.length)(aa:rb w0 C H A.gc.da):
    di prog 156 #[.agg (uH B R G C U H A),vI ay] w0 (fun v w=>∃n q p x,v=.tuple #[.agg (uH n r.1.ag.length q p r.1.gc.da.length x r.1),vI r.2]/\St w0 [] w [sl n q r.1.ag,sl p x r.1.gc.da]):=by
 subst X Y;unfold sQ at h;refine di.fS func156 fun e _=>?_;refine T ?_;intro _ _ _ _ _ _ aG _ h _ az _ _ _ _ aq _ _ _ _;refine T ?_;intro _ _ h _ au;refine gc h ?_ ?_<;>intro _ h
 · exact wk
 refine gf [1,2,4,6,18] fun e=>?_;refine gc h ?_ ?_<;>intro _ h
 · exact wk
 refine gc h ?_ ?_<;>intro _ h
 · exact wk
 refine gb h fun _ ak h=>?_;obtain⟨_,_,_,rfl,_,_,_,rfl,_⟩:=aa.idx ak;refine go ?_;refine T ?_;have⟨_,K,h⟩:=ob h;obtain⟨W,an,ap,ah,ai,_⟩:=au.tI (α:=Int) 2 rfl K;refine LW.u (dL.sub (α:=Int) (l:=aG.gc.da) underlying29 E2 rfl tq (sL rfl) K W ah ai) rfl ?_;refine T ?_;intro _ ad;obtain⟨aw,aj,ar⟩:=ob h;refine CW.jn [1,2,4,6,8] [0,1,2,3,4] [(67,.bool aw)] ad (h1:=?_) (h2:=?_)
 · have h:=aj;refine gB h ?_ ?_<;>intro _ h
   · refine gb h fun _ am h=>?_;obtain⟨_,_,_,rfl,_,_,_,⟨_,_,_,_,_,_,rfl,_,_,_⟩,_⟩:=z.idx am;exact wk
   exact rt
 intro e _ I;have h:=ar;refine gc h ?_ ?_<;>intro _ h
 · exact wk
 refine gb h fun _ L h=>?_;obtain⟨ao,ax,rfl,_,_⟩:=I.dA (α:=c6) (i:=1) rfl L;refine go ?_;refine gb h fun _ M h=>?_;refine LW.se 9 I 1 L M (hM:=(fK (fun w cs F hF=>by obtain⟨aA,aD,aB,aE,aC,aF,rfl,hH⟩:=hF;exact⟨aA,aD,aB,aE,aC,aF,rfl,hH⟩))) fun _ _=>?_;refine T ?_;intro _ _ h _ _ _ k;refine go ?_;rw[dx (oi M)]at k;obtain⟨_,Z,ac⟩:=ob h;refine CW.i4 Z 1 [1,2,4,6,77,78] [0,4,5] (fun b (d:Ad) (g:Nat) (f:Ad) (j:Nat)=>[(79,vI b.1)]) (fun b d g f j=>[bx aq 51 [vS d b.2.1.length g,vI b.2.2.1,vI b.2.2.2.1,vI b.2.2.2.2.1,vS f b.2.2.2.2.2.length j],sl d g b.2.1,sl f j b.2.2.2.2.2]) k ?_ ?_ ?_
 · exact⟨(some ⟨ao,ax,none⟩),az,an,ap,k.po [0,4,5,1,2,3]⟩
 · intro b e d g f j _ o J h;refine gf [1,2,4,6,77,78,79,80] fun e=>?_;refine gc h ?_ ?_<;>intro _ h
   · refine gb h fun _ O h=>?_;obtain⟨_,_,rfl,_,_⟩:=J.dA (α:=Int) (i:=0) rfl O;refine go ?_;obtain⟨_,m,_⟩:=J.freeze (α:=Int) 0 rfl;obtain⟨_,_,_,av,_,_,_,V,_⟩:=m.fe.idx O;cases av;obtain rfl:=V;refine T ?_;have⟨_,ab,h⟩:=ob h;obtain⟨_,_,_,rfl,_,_,_,⟨_,_,_,_,_,_,rfl,_,_,_⟩,_⟩:=z.idx ab;refine go ?_;refine T ?_;intro _ _ h _ ae;refine CW.fl [1,2,4,6,10,77,78,79,90] fun e=>?_;refine gc h ?_ ?_<;>intro _ h
     · refine T ?_;intro _ _ h _ _ _ _ _ af;have:=af.dZ (α:=Int) 3 rfl m;exact rt
     refine go ?_;have:=ae.dZ (α:=Int) 0 rfl m;exact rt
   exact rt
 intro e d g f j _ _;have h:=ac;exact wk
instance k_156:Ct prog 156:={h:=@IH}
theorem Bj{w0 N d aD aE r}(h:mO N d aD aE=some r){L ae W}(am:ae=d.Rp.Ro.length)(aW:rb w0 L W d.Rp.Ro){M af X}(an:af=d.own.length)(aX:rb w0 M X d.own){O ah Y}(ao:ah=d.Rr.length)(aY:rb w0 O Y d.Rr){R ai Z}(ap:ai=d.py.ag.length)(aZ:rb w0 R Z d.py.ag){U aj aa}(aq:aj=d.py.gc.da.length)(a0:rb w0 U aa d.py.gc.da){V ak ab}(ar:ak=d.db.length)(a1:rb w0 V ab d.db):
    di prog 177 #[.agg (uP L ae W M af X O ah Y R ai Z U aj aa V ak ab d),vI aD,vI aE] w0 (fun v w=>∃p C q G x H z I A J B K,v=.tuple #[.agg (uP p r.1.Rp.Ro.length C q r.1.own.length G x r.1.Rr.length H z r.1.py.ag.length I A r.1.py.gc.da.length J B r.1.db.length K r.1),vI r.2]/\St w0 [] w [sl p C r.1.Rp.Ro,sl q G r.1.own,sl x H r.1.Rr,sl z I r.1.py.ag,sl A J r.1.py.gc.da,sl B K r.1.db]):=by
 subst am an ao ap aq ar;unfold mO at h;refine di.fS func177 fun e _=>?_;refine T ?_;intro _ _ _ aP _ _ f _ h aI aN aJ aO aF aK aG aL aH aM au av _ _ aw _ _ _ aS;obtain⟨aV,aA,aQ⟩:=ob h;refine CW.jn [1,2,6,8,9] [0,1,2,3,4,5,6,7] [(25,.bool aV)] aS (h1:=?_) (h2:=?_)
 · have h:=aA;exact wk
 intro e _ aT;have h:=aQ;refine gc h ?_ ?_<;>intro _ h
 · exact wk
 refine go ?_;obtain⟨_,aC,aR⟩:=ob h;refine CW.ie aC 0 (fun b e wb=>∃(g:Ad) (l:Nat) (j:Ad) (m:Nat) (k:Ad) (n:Nat),En e [(1,vI aD),(2,vI aE),(6,.pointer (some ⟨aP,0,none⟩)),(8,.pointer (some ⟨aw,0,none⟩)),(9,vI b.1),(10,vI b.2.1)]/\St w0 [] wb [bx aw 54 [vS aI f.Rp.Ro.length aN,vS aJ f.own.length aO,vS g b.2.2.1.length l,vS j b.2.2.2.1.length m,vI b.2.2.2.2.1,vI b.2.2.2.2.2.1,vI b.2.2.2.2.2.2.1,vS k b.2.2.2.2.2.2.2.length n,vS au f.db.length av,vI f.RA,vI f.Rz,vI f.dc.cd,vI f.dc.dg,vI f.dc.dn,vI f.du,vI f.Rx],sl aI aN f.Rp.Ro,sl aJ aO f.own,sl au av f.db,bx aP 54 [vS none 0 0,vS none 0 0,vS none 0 0,vS none 0 0,vI 0,vI 0,vI 0,vS none 0 0,vS none 0 0,vI 0,vI 0,vI 0,vI 0,vI 0,vI 0,vI 0],sl g l b.2.2.1,sl j m b.2.2.2.1,sl k n b.2.2.2.2.2.2.2]) ?_ ⟨aF,aK,aG,aL,aH,aM,aT.po [0,1,2,6,7,3,4,5]⟩ ?_
 · intro b e _ o hM h;obtain⟨g,l,j,m,k,n,hE,_⟩:=hM;obtain⟨e,rfl⟩:=hE.out;refine gc h ?_ ?_<;>intro _ h
   · refine T ?_;intro _ _ h _ _ _ _ _ _ _ _ _ _ _;refine T ?_;intro _ ay;refine gc h ?_ ?_<;>intro _ h
     · refine fA ?_;have ac:=ay.drew;refine gb h fun ax ad h=>?_;obtain⟨_,_,rfl,_,_⟩:=ac.dA (α:=c6) (i:=9) rfl ad;refine go ?_;obtain⟨_,aB,_⟩:=ac.freeze (α:=c6) 9 rfl;obtain⟨_,_,_,aU,_,_,_,az,_⟩:=aB.fe.idx ad;cases aU;obtain⟨_,_,_,_,_,_,rfl,_,_,_⟩:=az;refine T ?_;refine go ?_;refine T ?_;refine AW.u (i:=12) rfl (by kernel_rfl) rfl rfl (dL.build (vs:=[(0,vI ax.cd)]) (cs:=#[vI ax.cd,vI 0,vI 0]) rfl (by kernel_rfl)) ?_;exact wk
     exact rt
   exact rt
 rintro e _ ⟨g,l,j,m,k,n,hE,_⟩;obtain⟨e,rfl⟩:=hE.out;have h:=aR;exact wk
instance k_177:Ct prog 177:={h:=@Bj}
theorem G8{w0 N b R U r}(h:oZ N b R U=some r){d u l}(G:u=b.Rp.Ro.length)(V:rb w0 d l b.Rp.Ro){f x m}(H:x=b.own.length)(W:rb w0 f m b.own){g z n}(I:z=b.Rr.length)(X:rb w0 g n b.Rr){i A o}(J:A=b.py.ag.length)(M:rb w0 i o b.py.ag){j B p}(K:B=b.py.gc.da.length)(Y:rb w0 j p b.py.gc.da){k C q}(L:C=b.db.length)(Z:rb w0 k q b.db):
    di prog 121 #[.agg (uP d u l f x m g z n i A o j B p k C q b),vI R,vI U] w0 (fun v w=>v=.bool r/\St w0 [] w []):=by
 subst G H I J K L;unfold oZ at h;refine di.fS func121 fun e _=>?_;refine T ?_;intro _ _ _;refine T ?_;intro _ _ h _ _ _ _ _ _ h _ _;refine bH h ?_ ?_<;>intro _ h
 · refine gb h fun _ O h=>?_;obtain⟨_,_,_,rfl,_,_,_,⟨_,_,_,_,_,_,rfl,_,_,_⟩,_⟩:=M.idx O;refine go ?_;refine T ?_;exact rt
 exact rt
instance k_121:Ct prog 121:={h:=@G8}
theorem EJ{w0 N b aD r}(h:qh N b aD=some r){A W J}(ac:W=b.Rp.Ro.length)(aE:rb w0 A J b.Rp.Ro){B X K}(ad:X=b.own.length)(aF:rb w0 B K b.own){C Y L}(ae:Y=b.Rr.length)(aG:rb w0 C L b.Rr){G Z M}(af:Z=b.py.ag.length)(aH:rb w0 G M b.py.ag){H aa O}(ah:aa=b.py.gc.da.length)(aI:rb w0 H O b.py.gc.da){I ab R}(ai:ab=b.db.length)(aJ:rb w0 I R b.db):
    di prog 175 #[.agg (uP A W J B X K C Y L G Z M H aa O I ab R b),vI aD] w0 (fun v w=>∃g o j p k q l u m x n z,v=.agg (uP g r.Rp.Ro.length o j r.own.length p k r.Rr.length q l r.py.ag.length u m r.py.gc.da.length x n r.db.length z r)/\St w0 [] w [sl g o r.Rp.Ro,sl j p r.own,sl k q r.Rr,sl l u r.py.ag,sl m x r.py.gc.da,sl n z r.db]):=by
 subst ac ad ae af ah ai;unfold qh at h;refine di.fS func175 fun e _=>?_;refine T ?_;intro _ _ _ _ _ _ d _ h aK aM aL aN aq av aj ak ar aw au ax _ _ ay _ _ _ aB;obtain⟨aC,ao,az⟩:=ob h;refine CW.jn [1,2,4,5] [0,1,2,3,4,5,6,7,8] [(21,.bool aC)] aB (h1:=?_) (h2:=?_)
 · have h:=ao;exact wk
 intro e _ _;have h:=az;refine gc h ?_ ?_<;>intro _ h
 · exact wk
 refine T ?_;intro _ _ _ _ h _ f;obtain⟨am,ap,aA⟩:=ob h;refine CW.j0 [4,5] [1,2,3,5,6,7] [] [bx ay 54 [vS aK d.Rp.Ro.length aM,vS aL d.own.length aN,vS aq d.Rr.length av,vS aj am.length ak,vI d.py.gc.Ru,vI d.py.gc.RD,vI d.py.gc.Rv,vS ar d.py.gc.da.length aw,vS au d.db.length ax,vI d.RA,vI d.Rz,vI d.dc.cd,vI d.dc.dg,vI d.dc.dn,vI 0,vI d.Rx],sl aj ak am] f ?_ ?_
 · have h:=ap;refine CW.fl [1,4,5,6,28] fun e=>?_;refine gc h ?_ ?_<;>intro _ h
   · refine gb h fun _ U h=>?_;obtain⟨_,_,rfl,_,_⟩:=f.dA (α:=c6) (i:=4) rfl U;refine go ?_;refine gb h fun _ V h=>?_;refine LW.se 4 f 4 U V (hM:=(fK (fun w cs F hF=>by obtain⟨aO,aR,aP,aS,aQ,aT,rfl,hH⟩:=hF;exact⟨aO,aR,aP,aS,aQ,aT,rfl,hH⟩))) fun _ an=>?_;refine go ?_;rw[dx (oi V)]at an;exact rt
   exact rt
 intro e _ _;have h:=aA;exact wk
instance k_175:Ct prog 175:={h:=@EJ}
theorem Ir{w0 N b ai r}(h:sK N b ai=some r){g H p}(R:H=b.Rp.Ro.length)(aj:rb w0 g p b.Rp.Ro){j I q}(U:I=b.own.length)(ak:rb w0 j q b.own){k J z}(V:J=b.Rr.length)(am:rb w0 k z b.Rr){l K A}(W:K=b.py.ag.length)(an:rb w0 l A b.py.ag){m L B}(X:L=b.py.gc.da.length)(ao:rb w0 m B b.py.gc.da){n M C}(Y:M=b.db.length)(ap:rb w0 n C b.db):
    di prog 155 #[.agg (uP g H p j I q k J z l K A m L B n M C b),vI ai] w0 (fun v w=>v=vI r/\St w0 [] w []):=by
 subst R U V W X Y;unfold sK at h;refine di.fS func155 fun e _=>?_;refine T ?_;intro _ _ _ _ _ h _ _ _ Z;refine gc h ?_ ?_<;>intro _ h
 · exact rt
 refine gb h fun _ aa h=>?_;obtain⟨_,_,rfl,_,_⟩:=Z.dA (α:=Int) (i:=0) rfl aa;refine go ?_;obtain⟨_,f,af⟩:=Z.freeze (α:=Int) 0 rfl;obtain⟨_,_,_,d,_,_,_,ab,_⟩:=f.fe.idx aa;cases d;obtain rfl:=ab;refine T ?_;refine go ?_;obtain⟨_,ad,ae⟩:=ob h;refine CW.mono (CW.lb [2,18,19] [0,1] [6] 0 (fun O=>[(6,vI O.1),(20,vI O.2)]) af ad (hb:=?_)) ?_
 · intro O e _ o ah h;refine gf [2,6,18,19,20,21] fun e=>?_;refine gc h ?_ ?_<;>intro _ h
   · refine gb h fun _ G h=>?_;obtain⟨_,_,d,_,_⟩:=f.dA G;cases d;refine go ?_;obtain⟨_,_,_,d,_,_,_,ac,_⟩:=f.fe.idx G;cases d;obtain rfl:=ac;refine T ?_;refine dW ?_;have:=ah.drew;refine go ?_;refine jP 2 ?_;refine T ?_;intro _ _ h _ _;refine AW.u (i:=3) rfl (by kernel_rfl) rfl rfl (dL.fd D1 rfl rfl) ?_;refine T ?_;intro _ _ h _ _;refine AW.u (i:=7) rfl (by kernel_rfl) rfl rfl (dL.fd D1 rfl rfl) ?_;exact wk
   exact rt
 intro x e _ hM;obtain⟨rfl,hM⟩:=hM;obtain⟨e,rfl,_⟩:=eo hM;have h:=ae;exact rt
instance k_155:Ct prog 155:={h:=@Ir}
theorem Db{w0 N i m n r}(h:oD N i m n=some r){b f d}(g:f=i.parts.length)(o:rb w0 b d i.parts):
    di prog 180 #[.agg #[vI i.RB,vS b f d],vI m,.agg (uL n)] w0 (fun v w=>v=vI r/\St w0 [] w []):=by
 subst g;unfold oD at h;refine di.fS func180 fun e _=>?_;refine T ?_;intro _ _ _ _ _ j;obtain⟨u,k,p⟩:=ob h;refine CW.jn [3] [1] [(7,vI u)] j (h1:=?_) (h2:=?_)
 · have h:=k;refine CW.block ?_;refine gs ?_;refine CW.region ?_;refine gs ?_;obtain⟨x,l,q⟩:=ob h;refine CW.jn [3,5,7,10] [0,1] [(11,.bool x)] j (h1:=?_) (h2:=?_)
   · have h:=l;exact wk
   intro e _ _;have h:=q;exact wk
 intro e _ _;have h:=p;refine T ?_;intro _ _ h _ _;refine CW.fl [7,27] fun e=>?_;exact wk
instance k_180:Ct prog 180:={h:=@Db}
theorem yc{w0 N r}(h:tu N=some r):
    di prog 113 #[] w0 (fun v w=>∃l m,v=vS l r.length m/\St w0 [] w [sl l m r]):=by
 unfold tu at h;refine di.fS func113 fun e x=>?_;refine gb h fun u I h=>?_;refine LW.mk Jv rfl rfl I x rfl ?_;intro _ g _ A hf;refine go ?_;refine LW.bi [-1, -1] A ?_;intro f j _ n hf;refine LW.bd [(1,vI 1),(2,vI (-1)),(4,vI 1000000),(10,vS f (([-1, -1]:List Int).length) j)] #[vI 0,vI 1,vI (-1),vI 0,vI 1000000,vI 0,vI 0,vI 0,vI 0,.bool false,vS f (([-1, -1]:List Int).length) j,vS none 0 0,vS none 0 0] ?_;have⟨K,q,h⟩:=ob h;obtain⟨d,b,rfl,_,_⟩:=n.dA (α:=c6) (i:=1) rfl q;refine go ?_;have B:=n.nil (α:=Int);have C:=B.nil (α:=eL);have H:=C.pk (M:=[sl f j ([-1, -1]:List Int),sl none 0 [],sl none 0 []]++[sl (some ⟨d,b,none⟩) g u]) [2,1,0,3];have⟨J,k,h⟩:=ob h;refine LW.uR (M:=[sl f j ([-1, -1]:List Int),sl none 0 [],sl none 0 []]) (L:=[sl (some ⟨d,b,none⟩) g u]) (z:=K) (z':=(c6.mk 0 1 (-1) 0 1000000 0 0 0 0 false ([-1, -1]:List Int) [] [])) (o:=0) H (i:=0) rfl q wS rfl (by show _=b+(0:Int).toNat*13+0;omega) rfl rfl rfl rfl (whole (fun w G hG=>⟨f,j,none,0,none,0,rfl,hG⟩)) ?_;intro _ p hf;rw[oi k]at p;refine go ?_;replace h:=oi h;subst h;exact Ra ⟨(some ⟨d,b,none⟩),g,(show(vS (some ⟨d,b,none⟩) u.length g:Value)=vS (some ⟨d,b,none⟩) J.length g by rw[dx (oi k)]),p.pk [0]⟩
instance k_113:Ct prog 113:={h:=@yc}
theorem Da{w0 N r}(h:vZ N=some r):
    di prog 172 #[] w0 (fun v w=>∃b d,v=.agg #[vI r.Ru,vI r.RD,vI r.Rv,vS b r.da.length d]/\St w0 [] w [sl b d r.da]):=by
 unfold vZ at h;refine di.fS func172 fun e _=>?_;refine T ?_;intro _ _ i;refine LW.bi [0] i ?_;intro f g _ _ hf;refine LW.bd [(3,vS f (([0]:List Int).length) g)] #[vI 0,vI 0,vI 0,vS f (([0]:List Int).length) g] ?_;exact wk
instance k_172:Ct prog 172:={h:=@Da}
end Go.Kx
