import Derived.Test.YtfmfgnhbgcjajaaGreatWa16
import Derived.Test.YtfmfgnhbgcjajaaGreatWa17
namespace Go.Kx
open Go Go.RowKit Go.Proofs
open Tryz
set_option maxRecDepth 10000
set_option maxHeartbeats 8000000
set_option linter.unusedVariables false
set_option linter.unusedSimpArgs false
theorem Ml{w0 N O r}(h:vM N O=some r){R aC U}(aE:aC=O.parts.length)(aX:rb w0 R U O.parts):
    dj prog 74 #[.agg #[vI O.Rj,vS R aC U]] w0 (fun v w=>∃ap aq,v=.agg #[vI r.Rj,vS ap r.parts.length aq]/\St w0 [] w [sl ap aq r.parts]):=by
 subst aE;unfold vM at h;refine dj.fS func74 fun e _=>?_;refine T ?_;intro av _ _ aw _ _ _ _ h aY aZ _ _ an _ _ _ aU;obtain⟨aW,aP,aS⟩:=ob h;refine CW.jn [1,2,3] [0,1,2,3] [(15,.bool aW)] aU (h1:=?_) (h2:=?_)
 · have h:=aP;exact wk
 intro e _ _;have h:=aS;refine gc h ?_ ?_<;>intro _ h
 · exact wk
 refine T ?_;intro _ ax;refine go ?_;obtain⟨_,aF,aI⟩:=ob h;refine CW.i2 aF 0 [1,2,3,23] [2,3] (fun I (J:Ad) (K:Nat)=>[(24,vI I.1)]) (fun I J K=>[bx an 40 [vI I.2.1,vS J I.2.2.length K],sl J K I.2.2]) ax ?_ ?_ ?_
 · exact⟨aY,aZ,ax.po [2,3,0,1]⟩
 · intro I e J K _ o _ h;refine gD [1,2,3,23,24,25] fun e=>?_;refine gc h ?_ ?_<;>intro _ h
   · refine T ?_;intro H _ h ao V _ _ _ aJ;obtain⟨d,aQ,aT⟩:=ob h;refine CW.cut (fun e wb=>∃(C:Nat) (ab:Ad) (ah:Nat) (ac:Ad) (ai:Nat) (ad:Ad) (aj:Nat) (ae:Ad) (ak:Nat) (af:Ad) (am:Nat) (W:Ad) (X:Nat),En e [(1,.pointer (some ⟨av,0,none⟩)),(2,.pointer (some ⟨aw,0,none⟩)),(3,.pointer (some ⟨an,0,none⟩)),(4,vI I.1),(5,.pointer (some ⟨C,0,none⟩)),(23,vI (O.parts.length:Int)),(24,vI I.1)]/\St w0 [] wb [sl ao V H.parts,bx aw 40 [vI 0,vS none 0 0],bx av 40 [vI O.Rj,vS R O.parts.length U],bx an 40 [vI H.Rj,vS ao H.parts.length V],bx C 54 [vS ab d.1.length ah,vS ac d.2.1.length ai,vS ad d.2.2.1.length aj,vS ae d.2.2.2.1.length ak,vI d.2.2.2.2.1,vI d.2.2.2.2.2.1,vI d.2.2.2.2.2.2.1,vS af d.2.2.2.2.2.2.2.1.length am,vS W d.2.2.2.2.2.2.2.2.1.length X,vI d.2.2.2.2.2.2.2.2.2.1,vI d.2.2.2.2.2.2.2.2.2.2.1,vI d.2.2.2.2.2.2.2.2.2.2.2.1,vI d.2.2.2.2.2.2.2.2.2.2.2.2.1,vI d.2.2.2.2.2.2.2.2.2.2.2.2.2.1,vI d.2.2.2.2.2.2.2.2.2.2.2.2.2.2.1,vI d.2.2.2.2.2.2.2.2.2.2.2.2.2.2.2],sl ab ah d.1,sl ac ai d.2.1,sl ad aj d.2.2.1,sl ae ak d.2.2.2.1,sl af am d.2.2.2.2.2.2.2.1,sl W X d.2.2.2.2.2.2.2.2.1]) ?_ ?_
     · have h:=aQ;refine dW ?_;have ay:=aJ.drew;refine gb h fun _ aB h=>?_;obtain⟨_,_,rfl,_,_⟩:=ay.dC (α:=bh) (i:=0) rfl aB;refine go ?_;obtain⟨_,aa,_⟩:=ay.freeze (α:=bh) 0 rfl;obtain⟨_,_,_,aV,_,_,_,aO,_⟩:=aa.fu.idx aB;cases aV;obtain⟨_,_,_,_,_,_,_,_,_,_,_,_,rfl,_,_,_,_,_,_⟩:=aO;refine T ?_;have⟨_,_,h⟩:=ob h;refine AW.all (rs:=[7,12]) (by kernel_rfl) (by simp) ⟨?_,?_,trivial⟩
       · refine oA ?_;refine T ?_;intro _ _ _ _ _ _ _ _ _ _ _ _ _ _;have⟨_,_,h⟩:=ob h;refine AW.all (rs:=[11,12]) (by kernel_rfl) (by simp) ⟨?_,?_,trivial⟩
         · refine oA ?_;refine T ?_;intro _ _ _ _ _ _ _ _ _ _ _ _ _ _ _ _ _ _ aK;have:=aK.dR (α:=bh) 13 rfl aa;exact rt
         refine oA ?_;refine T ?_;intro _ _ _;refine jP 11 ?_;refine T ?_;intro _ _ _ _ _ _ _ _ _ _ _ _ _ _ _ aL;have:=aL.dR (α:=bh) 13 rfl aa;exact rt
       refine oA ?_;refine T ?_;intro _ _ _;refine jP 7 ?_;refine T ?_;intro _ _ _ _ _ _ _ _ _ _ _ _ _ _;refine jP 11 ?_;refine T ?_;intro _ _ h _ _ _ _ _ _ _ _ _ _ _ _ _ _ _ aM;have:=aM.dR (α:=bh) 13 rfl aa;exact rt
     rintro e _ ⟨C,ab,ah,ac,ai,ad,aj,ae,ak,af,am,W,X,hE,_⟩;obtain⟨e,rfl⟩:=hE.out;have h:=aT;refine T ?_;intro _ _ h _ _ _ _ _ _ _ _ _ _ _ _ _ _ _ _;have⟨_,aG,h⟩:=ob h;refine LW.u (dP.rem rfl rfl (Du aG)) rfl ?_;refine gs ?_;obtain⟨b,aD,aH⟩:=ob h;refine CW.cut (fun e wb=>∃(j:Ad) (p:Nat) (k:Ad) (q:Nat) (l:Ad) (x:Nat) (m:Ad) (A:Nat) (n:Ad) (B:Nat) (f:Ad) (g:Nat),En e [(1,.pointer (some ⟨av,0,none⟩)),(2,.pointer (some ⟨aw,0,none⟩)),(3,.pointer (some ⟨an,0,none⟩)),(4,vI I.1),(5,.pointer (some ⟨C,0,none⟩)),(23,vI (O.parts.length:Int)),(24,vI I.1)]/\St w0 [] wb [sl ao V H.parts,bx aw 40 [vI 0,vS none 0 0],bx av 40 [vI O.Rj,vS R O.parts.length U],bx an 40 [vI H.Rj,vS ao H.parts.length V],bx C 54 [vS j b.1.length p,vS k b.2.1.length q,vS l b.2.2.1.length x,vS m b.2.2.2.1.length A,vI b.2.2.2.2.1,vI b.2.2.2.2.2.1,vI b.2.2.2.2.2.2.1,vS n b.2.2.2.2.2.2.2.1.length B,vS f b.2.2.2.2.2.2.2.2.1.length g,vI b.2.2.2.2.2.2.2.2.2.1,vI b.2.2.2.2.2.2.2.2.2.2.1,vI b.2.2.2.2.2.2.2.2.2.2.2.1,vI b.2.2.2.2.2.2.2.2.2.2.2.2.1,vI b.2.2.2.2.2.2.2.2.2.2.2.2.2.1,vI b.2.2.2.2.2.2.2.2.2.2.2.2.2.2.1,vI b.2.2.2.2.2.2.2.2.2.2.2.2.2.2.2],sl j p b.1,sl k q b.2.1,sl l x b.2.2.1,sl m A b.2.2.2.1,sl n B b.2.2.2.2.2.2.2.1,sl f g b.2.2.2.2.2.2.2.2.1]) ?_ ?_
     · have h:=aD;refine CW.fl [1,2,3,4,5,23,24,56] fun e=>?_;exact wk
     rintro e _ ⟨j,p,k,q,l,x,m,A,n,B,f,g,hE,az⟩;obtain⟨e,rfl⟩:=hE.out;have h:=aH;refine go ?_;have⟨aR,ar,h⟩:=ob h;obtain⟨Z,Y,rfl,_,_⟩:=az.dC (α:=bh) (i:=0) rfl ar;refine go ?_;have aN:=az.pk (M:=[sl j p b.1,sl k q b.2.1,sl l x b.2.2.1,sl m A b.2.2.2.1,sl n B b.2.2.2.2.2.2.2.1,sl f g b.2.2.2.2.2.2.2.2.1]++[sl (some ⟨Z,Y,none⟩) V H.parts,bx aw 40 [vI 0,vS none 0 0],bx av 40 [vI O.Rj,vS R O.parts.length U],bx an 40 [vI H.Rj,vS (some ⟨Z,Y,none⟩) H.parts.length V],bx C 54 [vS j b.1.length p,vS k b.2.1.length q,vS l b.2.2.1.length x,vS m b.2.2.2.1.length A,vI b.2.2.2.2.1,vI b.2.2.2.2.2.1,vI b.2.2.2.2.2.2.1,vS n b.2.2.2.2.2.2.2.1.length B,vS f b.2.2.2.2.2.2.2.2.1.length g,vI b.2.2.2.2.2.2.2.2.2.1,vI b.2.2.2.2.2.2.2.2.2.2.1,vI b.2.2.2.2.2.2.2.2.2.2.2.1,vI b.2.2.2.2.2.2.2.2.2.2.2.2.1,vI b.2.2.2.2.2.2.2.2.2.2.2.2.2.1,vI b.2.2.2.2.2.2.2.2.2.2.2.2.2.2.1,vI b.2.2.2.2.2.2.2.2.2.2.2.2.2.2.2]]) [5,6,7,8,9,10,0,1,2,3,4];have⟨_,au,h⟩:=ob h;refine LW.u9 (M:=[sl j p b.1,sl k q b.2.1,sl l x b.2.2.1,sl m A b.2.2.2.1,sl n B b.2.2.2.2.2.2.2.1,sl f g b.2.2.2.2.2.2.2.2.1]) (L:=[sl (some ⟨Z,Y,none⟩) V H.parts,bx aw 40 [vI 0,vS none 0 0],bx av 40 [vI O.Rj,vS R O.parts.length U],bx an 40 [vI H.Rj,vS (some ⟨Z,Y,none⟩) H.parts.length V],bx C 54 [vS j b.1.length p,vS k b.2.1.length q,vS l b.2.2.1.length x,vS m b.2.2.2.1.length A,vI b.2.2.2.2.1,vI b.2.2.2.2.2.1,vI b.2.2.2.2.2.2.1,vS n b.2.2.2.2.2.2.2.1.length B,vS f b.2.2.2.2.2.2.2.2.1.length g,vI b.2.2.2.2.2.2.2.2.2.1,vI b.2.2.2.2.2.2.2.2.2.2.1,vI b.2.2.2.2.2.2.2.2.2.2.2.1,vI b.2.2.2.2.2.2.2.2.2.2.2.2.1,vI b.2.2.2.2.2.2.2.2.2.2.2.2.2.1,vI b.2.2.2.2.2.2.2.2.2.2.2.2.2.2.1,vI b.2.2.2.2.2.2.2.2.2.2.2.2.2.2.2]]) (z:=aR) (z':=(bh.mk (fD.mk b.1) b.2.1 b.2.2.1 (df.mk b.2.2.2.1 (eT.mk b.2.2.2.2.1 b.2.2.2.2.2.1 b.2.2.2.2.2.2.1 b.2.2.2.2.2.2.2.1)) b.2.2.2.2.2.2.2.2.1 b.2.2.2.2.2.2.2.2.2.1 b.2.2.2.2.2.2.2.2.2.2.1 (de.mk b.2.2.2.2.2.2.2.2.2.2.2.1 b.2.2.2.2.2.2.2.2.2.2.2.2.1 b.2.2.2.2.2.2.2.2.2.2.2.2.2.1) b.2.2.2.2.2.2.2.2.2.2.2.2.2.2.1 b.2.2.2.2.2.2.2.2.2.2.2.2.2.2.2)) (o:=0) aN (i:=0) rfl ar iY rfl (by show _=Y+(I.1:Int).toNat*16+0;omega) rfl rfl rfl rfl (whole (fun w G hG=>⟨j,p,k,q,l,x,m,A,n,B,f,g,rfl,hG⟩)) ?_
     intro _ aA hf;rw[oi au]at aA;refine go ?_;rw[dB (oi au)]at aA;exact rt
   exact rt
 intro e J K _ _;have h:=aI;exact wk
instance k74:Ct prog 74:={h:=@Ml}
theorem I9{w0 N z aG r}(h:tq N z aG=some r){A V C}(ae:V=z.ag.length)(n:rb w0 A C z.ag){B W G}(af:W=z.gc.da.length)(aH:rb w0 B G z.gc.da):
    dj prog 51 #[.agg (uH A V C B W G z),vI aG] w0 (fun v w=>v=.bool r/\St w0 [] w []):=by
 subst ae af;unfold tq at h;refine dj.fS func51 fun e _=>?_;refine T ?_;intro _ _ _ _ _ h _ _;refine gc h ?_ ?_<;>intro _ h
 · exact rt
 refine T ?_;intro _ _ h _ _ _ aD;refine go ?_;obtain⟨Y,ai,I⟩:=ob h;refine CW.mono (CW.lx [2,5,19,20] [0,1] [] 0 (fun am=>[(21,vI am)]) (RT prog f51.results (fun u=>.bool u) w0 []) aD ai (hb:=?_)) ?_
 · intro am e _ o _ h;refine gD [2,5,19,20,21,22] fun e=>?_;refine gc h ?_ ?_<;>intro _ h
   · refine gb h fun _ az h=>?_;obtain⟨_,_,_,rfl,_,_,_,⟨_,_,_,_,_,_,rfl,_,_,_⟩,_⟩:=n.idx az;refine go ?_;refine T ?_;intro _ _ _ _ d;refine gc h ?_ ?_<;>intro _ h
     · refine gs ?_;obtain⟨aE,ax,aB⟩:=ob h;refine CW.jn [2,5,19,20,21] [1,2] [(60,.bool aE)] d (h1:=?_) (h2:=?_)
       · have h:=ax;refine gB h ?_ ?_<;>intro _ h
         · refine gB h ?_ ?_<;>intro _ h
           · exact rt
           refine go ?_;refine bH h ?_ ?_<;>intro _ h
           · refine gB h ?_ ?_<;>intro _ h
             · refine gb h fun _ O h=>?_;obtain⟨_,_,rfl,_,_⟩:=d.dC (α:=Bool) (i:=1) rfl O;refine go ?_;obtain⟨_,k,ak⟩:=d.freeze (α:=Bool) 1 rfl;obtain⟨_,_,_,b,_,_,_,au,_⟩:=k.fu.idx O;cases b;obtain rfl:=au;refine T ?_;refine bH h ?_ ?_<;>intro _ h
               · refine go ?_;have:=ak.dR (α:=Bool) 1 rfl k;exact rt
               refine go ?_;have:=ak.dR (α:=Bool) 1 rfl k;exact rt
             exact rt
           exact rt
         refine go ?_;refine bH h ?_ ?_<;>intro _ h
         · refine gB h ?_ ?_<;>intro _ h
           · refine gb h fun _ R h=>?_;obtain⟨_,_,rfl,_,_⟩:=d.dC (α:=Bool) (i:=1) rfl R;refine go ?_;obtain⟨_,l,J⟩:=d.freeze (α:=Bool) 1 rfl;obtain⟨_,_,_,b,_,_,_,av,_⟩:=l.fu.idx R;cases b;obtain rfl:=av;refine T ?_;refine bH h ?_ ?_<;>intro _ h
             · refine go ?_;have:=J.dR (α:=Bool) 1 rfl l;exact rt
             refine go ?_;have:=J.dR (α:=Bool) 1 rfl l;exact rt
           exact rt
         exact rt
       intro e _ _;have h:=aB;exact wk
     refine gs ?_;obtain⟨aF,ay,aC⟩:=ob h;refine CW.jn [2,5,6,19,20,21] [1,2] [(8,.bool aF)] d (h1:=?_) (h2:=?_)
     · have h:=ay;refine gb h fun _ U h=>?_;obtain⟨_,_,rfl,_,_⟩:=d.dC (α:=Bool) (i:=1) rfl U;refine go ?_;obtain⟨_,f,K⟩:=d.freeze (α:=Bool) 1 rfl;obtain⟨_,_,_,b,_,_,_,aw,_⟩:=f.fu.idx U;cases b;obtain rfl:=aw;refine T ?_;refine bH h ?_ ?_<;>intro _ h
       · refine gB h ?_ ?_<;>intro _ h
         · refine go ?_;refine T ?_;intro _ _ h _ ao;have:=ao.dR (α:=Bool) 1 rfl f;exact rt
         refine go ?_;refine bH h ?_ ?_<;>intro _ h
         · refine T ?_;intro _ _ h _ ap;have:=ap.dR (α:=Bool) 1 rfl f;exact rt
         refine go ?_;have:=K.dR (α:=Bool) 1 rfl f;exact rt
       refine go ?_;have:=K.dR (α:=Bool) 1 rfl f;exact rt
     intro e _ _;have h:=aC;refine T ?_;intro _ _ h _ _ _ aq;refine go ?_;obtain⟨X,ah,H⟩:=ob h;refine CW.mono (CW.lx [2,5,8,19,20,21,84,85] [0,1,2] [2,5,19,20,21] 2 (fun Z=>[(86,vI Z)]) (RT prog f51.results (fun u=>.bool u) w0 []) aq ah (hb:=?_)) ?_
     · intro Z e _ o L h;refine gD [2,5,8,19,20,21,84,85,86,87] fun e=>?_;refine gc h ?_ ?_<;>intro _ h
       · refine gb h fun _ p h=>?_;obtain⟨_,_,rfl,_,_⟩:=L.dC (α:=Int) (i:=0) rfl p;refine go ?_;obtain⟨_,m,j⟩:=L.freeze (α:=Int) 0 rfl;obtain⟨_,_,_,b,_,_,_,aa,_⟩:=m.fu.idx p;cases b;obtain rfl:=aa;refine T ?_;obtain⟨aA,ad,an⟩:=ob h;refine CW.jn [2,5,8,19,20,21,84,85,86] [0,1,2] [(109,.bool aA)] j (h1:=?_) (h2:=?_)
         · have h:=ad;refine gB h ?_ ?_<;>intro _ h
           · refine gB h ?_ ?_<;>intro _ h
             · refine gb h fun _ q h=>?_;obtain⟨_,_,rfl,_,_⟩:=j.dC (α:=Bool) (i:=1) rfl q;refine go ?_;obtain⟨_,g,M⟩:=j.freeze (α:=Bool) 1 rfl;obtain⟨_,_,_,b,_,_,_,ab,_⟩:=g.fu.idx q;cases b;obtain rfl:=ab;refine T ?_;refine bH h ?_ ?_<;>intro _ h
               · refine go ?_;have⟨_,aj,h⟩:=ob h;obtain⟨_,_,_,b,_,_,_,ac,_⟩:=n.idx aj;cases b;obtain⟨_,_,_,_,_,_,rfl,_,_,_⟩:=ac;refine go ?_;refine T ?_;have:=M.dR (α:=Bool) 1 rfl g;exact rt
               refine go ?_;have:=M.dR (α:=Bool) 1 rfl g;exact rt
             exact rt
           exact rt
         intro e _ ar;have h:=an;refine gc h ?_ ?_<;>intro _ h
         · exact rt
         refine go ?_;have:=ar.dR (α:=Int) 0 rfl m;exact rt
       exact rt
     intro x e _ hM;rcases X with X|_
     · obtain⟨rfl,hM⟩:=hM;obtain⟨e,rfl,_⟩:=eo hM;have h:=H;exact rt
     obtain⟨rfl,u,rfl,hM⟩:=hM;cases H;exact⟨trivial,rfl,_,rfl,hM⟩
   exact rt
 intro x e _ hM;rcases Y with Y|_
 · obtain⟨rfl,hM⟩:=hM;obtain⟨e,rfl,_⟩:=eo hM;rw[show e=dK e [] from rfl];have h:=I;exact rt
 obtain⟨rfl,u,rfl,hM⟩:=hM;cases I;exact And.intro trivial hM
instance k51:Ct prog 51:={h:=@I9}
theorem JF{w0 N j r}(h:uQ N j=some r){b f d}(g:f=j.parts.length)(i:rb w0 b d j.parts):
    dj prog 20 #[.agg #[vI j.Rj,vS b f d]] w0 (fun v w=>v=.bool r/\St w0 [] w []):=by
 subst g;unfold uQ at h;refine dj.fS func20 fun e _=>?_;refine T ?_;intro _ _ n;refine go ?_;obtain⟨l,m,k⟩:=ob h;refine CW.mono (CW.lx [1,6,7] [0] [1] 0 (fun q=>[(8,vI q)]) (RT prog f20.results (fun u=>.bool u) w0 []) n m (hb:=?_)) ?_
 · intro q e _ o _ h;refine gc h ?_ ?_<;>intro _ h
   · refine gb h fun _ p h=>?_;obtain⟨_,_,_,rfl,_,_,_,⟨_,_,_,_,_,_,_,_,_,_,_,_,rfl,_,_,_,_,_,_⟩,_⟩:=i.idx p;refine go ?_;refine T ?_;intro _ _ _ _ _ _ _ h _ _;refine CW.fl [1,6,7,8,17] fun e=>?_;exact wk
   exact rt
 intro x e _ hM;rcases l with l|_
 · obtain⟨rfl,hM⟩:=hM;obtain⟨e,rfl,_⟩:=eo hM;have h:=k;exact wk
 obtain⟨rfl,u,rfl,hM⟩:=hM;cases k;exact And.intro trivial hM
instance k20:Ct prog 20:={h:=@JF}
end Go.Kx
