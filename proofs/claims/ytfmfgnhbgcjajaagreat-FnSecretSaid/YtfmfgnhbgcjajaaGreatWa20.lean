import Derived.Test.YtfmfgnhbgcjajaaGreatWa15
import Derived.Test.YtfmfgnhbgcjajaaGreatWa16
import Derived.Test.YtfmfgnhbgcjajaaGreatWa17
namespace Go.Kx
open Go Go.RowKit Go.Proofs
open Tryz
set_option maxRecDepth 10000
set_option maxHeartbeats 8000000
set_option linter.unusedVariables false
set_option linter.unusedSimpArgs false
theorem EW{w0 N ae r}(h:nO N ae=some r){J O K}(R:O=ae.length)(U:rb w0 J K ae):
    di prog 84 #[vS J O K] w0 (fun v w=>∃H I,v=.agg #[vI r.RB,vS H r.parts.length I]/\St w0 [] w [sl H I r.parts]):=by
 subst R;unfold nO at h;refine di.fS func84 fun e _=>?_;refine T ?_;intro af _ _;refine LW.bd [] #[vI 0,vS none 0 0] ?_;refine T ?_;intro Y _ _ _ _ _ _ h _ ai;refine gc h ?_ ?_<;>intro _ h
 · refine T ?_;intro _ aj;cases h;have W:=aj.nil (α:=bh);exact And.intro trivial ⟨_,gL.one (dE.b W 2 rfl qN rfl rfl),none,0,rfl,W.pk [0]⟩
 refine go ?_;have X:=ai.nil (α:=bh);obtain⟨_,ab,ah⟩:=ob h;refine CW.i2 ab 0 [0,2,3] [2] (fun j (f:Ad) (g:Nat)=>[(4,vI j.1)]) (fun j f g=>[bx Y 40 [vI 0,vS f j.2.length g],sl f g j.2]) X ?_ ?_ ?_
 · exact⟨none,0,X.po [2,1,0]⟩
 · intro j e f g _ o _ h;refine gc h ?_ ?_<;>intro _ h
   · refine gb h fun _ ac h=>?_;obtain⟨_,_,_,rfl,_,_,_,⟨_,_,_,_,rfl,_,_⟩,_⟩:=U.idx ac;refine go ?_;refine T ?_;intro d _ h k u l x m z n A p B q C _ _ V _ _ _ Z;have aa:=Z.pk (M:=[sl k u d.1.Rp.Ro,sl l x d.1.own,sl m z d.1.Rr,sl n A d.1.py.ag,sl p B d.1.py.gc.da,sl q C d.1.db]++[bx V 54 (qP k u l x m z n A p B q C d.1),bx af 40 [vI 0,vS none 0 0],bx Y 40 [vI 0,vS f j.2.length g],sl f g j.2]) [1,2,3,4,5,6,0,7,8,9];have⟨_,ad,h⟩:=ob h;refine LW.fZ (M:=[sl k u d.1.Rp.Ro,sl l x d.1.own,sl m z d.1.Rr,sl n A d.1.py.ag,sl p B d.1.py.gc.da,sl q C d.1.db]) (L:=[bx V 54 (qP k u l x m z n A p B q C d.1),bx af 40 [vI 0,vS none 0 0],bx Y 40 [vI 0,vS f j.2.length g],sl f g j.2]) (vs:=#[vS k d.1.Rp.Ro.length u,vS l d.1.own.length x,vS m d.1.Rr.length z,vS n d.1.py.ag.length A,vI d.1.py.gc.Ru,vI d.1.py.gc.RD,vI d.1.py.gc.Rv,vS p d.1.py.gc.da.length B,vS q d.1.db.length C,vI d.1.RA,vI d.1.Rz,vI d.1.dc.cd,vI d.1.dc.dg,vI d.1.dc.dn,vI d.1.du,vI d.1.Rx]) (i:=3) Ai rfl (by kernel_rfl) rfl rfl ad aa rfl (fun w G hG=>⟨k,u,l,x,m,z,n,A,p,B,q,C,rfl,hG⟩) rfl rfl ?_;intro _ _ _ _ _ hf;exact wk
   exact rt
 intro e f g _ _;have h:=ah;exact wk
instance k_84:Ct prog 84:={h:=@EW}
theorem BV{w0}{F:List Nat}{N q r}(h:nL N q=some r){U:Nat}{j k}(ba:dX (eJ w0 F) w0 j k q.b)(hS:St w0 F w0 [bx U 99 [vS j q.b.length k,vI q.i,vI q.h]]):
    di prog 63 #[.pointer (some ⟨U,0,none⟩)] w0 (fun v w=>∃ay aC,v=vS ay r.1.length aC/\St w0 F w [sl ay aC r.1,bx U 99 [vS j q.b.length k,vI r.2.i,vI r.2.h]]):=by
 unfold nL at h;refine di.fn func63 fun e=>?_;refine T ?_;intro u _ h a0 p _ _ _ _ h _ I;refine gc h ?_ ?_<;>intro _ h
 · refine go ?_;replace h:=oi h;subst h;have a5:=I.nil (α:=dK);exact Ra ⟨none,0,rfl,a5.pk [0,1]⟩
 refine gc h ?_ ?_<;>intro _ h
 · refine go ?_;obtain⟨_,aX,a3⟩:=ob h;refine CW.i2 aX 1 [0] [] (fun l (d:Ad) (f:Nat)=>[(3,vS d l.1.length f)]) (fun l d f=>[bx U 99 [vS j q.b.length k,vI l.2.1,vI l.2.2],sl d f l.1]) I ?_ ?_ ?_
   · exact⟨a0,p,I.po [0,1]⟩
   · intro l e d f _ o _ h;refine gf [0,3,14] fun e=>?_;refine gc h ?_ ?_<;>intro _ h
     · refine T ?_;intro g _ h A C B H _ a6;have a7:=a6.pk (M:=[sl A C g.1.Rp.Ro,sl B H g.1.own]++[bx U 99 [vS j q.b.length k,vI g.2.i,vI g.2.h],sl d f l.1]) [0,1,2,3];have⟨_,aZ,h⟩:=ob h;refine LW.fZ (M:=[sl A C g.1.Rp.Ro,sl B H g.1.own]) (L:=[bx U 99 [vS j q.b.length k,vI g.2.i,vI g.2.h],sl d f l.1]) (vs:=#[vS A g.1.Rp.Ro.length C,vS B g.1.own.length H,vI g.1.eV.cd,vI g.1.eV.dg,vI g.1.eV.dn]) (i:=1) Ii rfl (by kernel_rfl) rfl rfl aZ a7 rfl (fun w G hG=>⟨A,C,B,H,rfl,hG⟩) rfl rfl ?_;intro _ _ _ _ _ hf;exact rt
     exact rt
   intro e d f _ a8;have h:=a3;refine go ?_;replace h:=oi h;subst h;exact Ra ⟨d,f,rfl,a8.pk [1,0]⟩
 refine gc h ?_ ?_<;>intro _ h
 · refine T ?_;intro O _ h av az _ aD;have⟨m,x,h⟩:=ob h;obtain⟨W,J,rfl,_,_⟩:=aD.dA (α:=dK) (i:=2) rfl x;refine go ?_;obtain⟨_,af,aa⟩:=aD.freeze (α:=dK) 2 rfl;obtain⟨_,_,_,ae,aQ,_,_,aS,aV⟩:=af.fe.idx x;cases ae;obtain⟨a1,a2,aw,aA,rfl,_,_⟩:=aS;have aW:=aa.mU 2 aQ aV;have aH:=aa.dZ (α:=dK) 2 rfl af;obtain⟨_,aY,aU⟩:=aH.mZ 2 x aW;obtain⟨_,_,_,_,aR,aG⟩:=aY;cases aR;have aI:=aU [sl a1 a2 m.Rp.Ro,sl aw aA m.own] aG;refine LW.wh (α:=dK) (vs:=[vS av O.1.Ro.length az]) aI 4 rfl Ae rfl (by show _=J+(0:Int).toNat*5+0;omega) rfl rfl rfl rfl ?_;intro _ aJ hf;refine go ?_;replace h:=oi h;subst h;have aK:=aJ.mb (dK.mk O.1 m.own m.eV) [2,1,0,3,4] 2 2 rfl rfl (fun w G hG=>⟨av,az,aw,aA,rfl,hG⟩);exact Ra ⟨(some ⟨W,J,none⟩),p,(show(vS (some ⟨W,J,none⟩) u.1.length p:Value)=vS (some ⟨W,J,none⟩) ((u.1.set (0:Int).toNat (dK.mk O.1 m.own m.eV)).length) p by rw[show u.1.length=(u.1.set (0:Int).toNat (dK.mk O.1 m.own m.eV)).length from(dx rfl)]),aK.pk [2,1]⟩
 refine gf [0,3,7,27] fun e=>?_;refine gc h ?_ ?_<;>intro _ h
 · refine T ?_;intro _ _ h _ ab;have⟨_,ai,h⟩:=ob h;obtain⟨X,ak,rfl,_,_⟩:=ab.dA (α:=dK) (i:=1) rfl ai;refine go ?_;refine gb h fun a9 aj h=>?_;refine LW.se 2 ab 1 ai aj (hM:=(fK (fun w cs F hF=>by obtain⟨bb,bd,bc,be,rfl,hH⟩:=hF;exact⟨bb,bd,bc,be,rfl,hH⟩))) fun _ aL=>?_;refine go ?_;replace h:=oi h;subst h;exact Ra ⟨(some ⟨X,ak,none⟩),p,(show(vS (some ⟨X,ak,none⟩) u.1.length p:Value)=vS (some ⟨X,ak,none⟩) a9.length p by rw[dx (oi aj)]),aL.pk [1,0]⟩
 refine gc h ?_ ?_<;>intro _ h
 · refine T ?_;intro R _ h ax aB _ ac;have⟨n,z,h⟩:=ob h;obtain⟨Y,K,rfl,_,_⟩:=ac.dA (α:=dK) (i:=2) rfl z;refine go ?_;obtain⟨_,ah,ad⟩:=ac.freeze (α:=dK) 2 rfl;obtain⟨_,_,_,ae,an,_,_,aT,aq⟩:=ah.fe.idx z;cases ae;obtain⟨V,Z,aE,aF,rfl,_,_⟩:=aT;have ar:=ad.mU 2 an aq;have aM:=ad.dZ (α:=dK) 2 rfl ah;obtain⟨_,au,ap⟩:=aM.mZ 2 z ar;obtain⟨_,_,_,_,ao,am⟩:=au;cases ao;have aN:=ap [sl V Z n.Rp.Ro,sl aE aF n.own] am;refine LW.wh (α:=dK) (vs:=[vS ax R.1.length aB]) aN 4 rfl FP rfl (by show _=K+(0:Int).toNat*5+1;omega) rfl rfl rfl rfl ?_;intro _ aO hf;refine go ?_;replace h:=oi h;subst h;have aP:=aO.mb (dK.mk n.Rp R.1 n.eV) [0,2,1,3,4] 2 2 rfl rfl (fun w G hG=>⟨V,Z,ax,aB,rfl,hG⟩);exact Ra ⟨(some ⟨Y,K,none⟩),p,(show(vS (some ⟨Y,K,none⟩) u.1.length p:Value)=vS (some ⟨Y,K,none⟩) ((u.1.set (0:Int).toNat (dK.mk n.Rp R.1 n.eV)).length) p by rw[show u.1.length=(u.1.set (0:Int).toNat (dK.mk n.Rp R.1 n.eV)).length from(dx rfl)]),aP.pk [2,1]⟩
 refine go ?_;replace h:=oi h;subst h;exact Ra ⟨a0,p,rfl,I.pk [1,0]⟩
instance k_63:Ct prog 63:={h:=@BV}
theorem BT{w0}{F:List Nat}{N u X ah r}(h:nC N u X ah=some r){C:Nat}{n p}(ai:dX (eJ w0 F) w0 n p u.b){x H A}(I:H=X.length)(aj:dX (eJ w0 F) w0 x A X)(hS:St w0 F w0 [bx C 99 [vS n u.b.length p,vI u.i,vI u.h]]):
    di prog 64 #[.pointer (some ⟨C,0,none⟩),vS x H A,vI ah] w0 (fun v w=>∃J K,v=vS J r.1.length K/\St w0 F w [sl J K r.1,bx C 99 [vS n u.b.length p,vI r.2.i,vI r.2.h]]):=by
 subst I;unfold nC at h;refine di.fn func64 fun e=>?_;refine go ?_;refine LW.b0 (α:=dQ) hS ?_;intro Y Z _ _ hf;refine T ?_;intro _ _ h ak am _ _ ad _ _ _ af;refine gc h ?_ ?_<;>intro _ h
 · refine go ?_;replace h:=oi h;subst h;exact Ra ⟨Y,Z,rfl,af.pk [2,3]⟩
 refine T ?_;intro _ _ h _ O;refine go ?_;obtain⟨_,V,ae⟩:=ob h;refine CW.i4 V 0 [0,8] [] (fun j (f:Ad) (g:Nat) (l:Ad) (m:Nat)=>[(7,vS f j.1.length g),(9,vI j.2.1)]) (fun j f g l m=>[bx C 99 [vS n u.b.length p,vI j.2.2.1,vI j.2.2.2.1],bx ad 40 [vI j.2.2.2.2.1,vS l j.2.2.2.2.2.length m],sl f g j.1,sl l m j.2.2.2.2.2]) O ?_ ?_ ?_
 · exact⟨Y,Z,ak,am,O.po [0,1,3,2]⟩
 · intro j e f g l m _ o _ h;refine gf [0,7,8,9,26] fun e=>?_;refine gc h ?_ ?_<;>intro _ h
   · refine T ?_;intro k _ h _ _ aa _ _ _ _ q _ h z B _ _ ab _ _ ac _ _ _ _ _ _ _ R;have⟨_,W,h⟩:=ob h;refine LW.fZ (M:=[]) (L:=[bx ac 78 [vI q.2.code,vI q.2.RI],bx ab 40 [vI q.1.RB,vS z q.1.parts.length B],sl z B q.1.parts,bx aa 65 (qE k.1),bx C 99 [vS n u.b.length p,vI k.2.i,vI k.2.h],bx ad 40 [vI q.1.RB,vS z q.1.parts.length B],sl f g j.1,sl l m j.2.2.2.2.2]) (vs:=#[vI k.1.Rq,vI k.1.Rn,vI k.1.dS,vI k.1.call.Rq,vI k.1.call.a,vI k.1.call.b,vI k.1.call.c,vI k.1.call.d,vI k.1.call.e]) (i:=6) Jw rfl (by kernel_rfl) rfl rfl W R rfl (fun w G hG=>by cases(show G=[] from hG);exact⟨rfl,rfl⟩) rfl rfl ?_;intro _ _ _ _ _ hf;exact rt
   exact rt
 intro e f g l m _ U;have h:=ae;refine go ?_;replace h:=oi h;subst h;exact Ra ⟨f,g,rfl,U.pk [2,0]⟩
instance k_64:Ct prog 64:={h:=@BT}
theorem L9{w0 N af ah r}(h:vF N af ah=some r){z J B}(O:J=af.length)(au:rb w0 z B af){A K C}(R:K=ah.length)(V:rb w0 A C ah):
    di prog 43 #[vS z J B,vS A K C] w0 (fun v w=>∃u x X Y,v=.tuple #[.agg #[vI r.1.RB,vS u r.1.parts.length x],vS X r.2.length Y]/\St w0 [] w [sl u x r.1.parts,sl X Y r.2]):=by
 subst O R;unfold vF at h;refine di.fS func43 fun e _=>?_;refine T ?_;intro av _ ao;refine LW.b0 (α:=dt) ao ?_;intro aj am _ ap hf;refine gs ?_;obtain⟨ax,ar,aw⟩:=ob h;refine CW.jn [0,1,4,6] [0,1] [(19,.bool ax)] ap (h1:=?_) (h2:=?_)
 · have h:=ar;exact wk
 intro e _ _;have h:=aw;refine gc h ?_ ?_<;>intro _ h
 · refine fm [] #[vI 0,vS none 0 0] ?_;refine T ?_;intro _ aq;cases h;have aa:=aq.nil (α:=bh);exact Rc (dE.b aa 2 rfl qN rfl rfl) tt ⟨none,0,aj,am,rfl,aa.pk [0,1]⟩
 refine T ?_;intro _ _ h ai ak _ _ Z _ _ _ H;refine go ?_;obtain⟨_,U,ab⟩:=ob h;refine CW.i4 U 0 [1,4,7] [3] (fun p (k:Ad) (m:Nat) (l:Ad) (n:Nat)=>[(6,vS k p.1.length m),(8,vI p.2.1)]) (fun p k m l n=>[bx Z 40 [vI p.2.2.1,vS l p.2.2.2.length n],sl k m p.1,sl l n p.2.2.2]) H ?_ ?_ ?_
 · exact⟨aj,am,ai,ak,H.po [3,0,2,1]⟩
 · intro p e k m l n _ o I h;refine gf [1,4,6,7,8,27] fun e=>?_;refine gc h ?_ ?_<;>intro _ h
   · refine gs ?_;refine CW.block ?_;refine gs ?_;obtain⟨d,ad,an⟩:=ob h;refine CW.j4 [1,4,6,7,8] [0,1,2,3] (fun(q:Nat) (j:Nat) (f:Ad) (g:Nat)=>[(9,.pointer (some ⟨q,0,none⟩)),(10,.pointer (some ⟨j,0,none⟩))]) (fun q j f g=>[bx q 40 [vI d.1,vS f d.2.1.length g],bx j 78 [vI d.2.2.1,vI d.2.2.2],sl f g d.2.1]) I ?_ ?_
     · have h:=ad;refine dW ?_;have:=I.drew;refine gb h fun _ ae h=>?_;obtain⟨_,_,_,rfl,_,_,_,rfl,_⟩:=V.idx ae;refine go ?_;refine T ?_;have⟨_,_,h⟩:=ob h;refine AW.all (rs:=[5,9,10]) (by kernel_rfl) (by simp) ⟨?_,?_,?_,trivial⟩
       · refine oA ?_;refine T ?_;intro _ _ _ _;refine AW.all (rs:=[9,10]) (by kernel_rfl) (by simp) ⟨?_,?_,trivial⟩
         · refine oA ?_;exact wk
         refine oA ?_;refine T ?_;intro _ _ _;refine jP 9 ?_;exact wk
       · refine oA ?_;refine T ?_;intro _ _ _;refine AW.all (rs:=[5,10]) (by kernel_rfl) (by simp) ⟨?_,?_,trivial⟩
         · refine oA ?_;exact wk
         refine oA ?_;refine T ?_;intro _ _ _;refine jP 5 ?_;exact wk
       refine oA ?_;refine T ?_;intro _ _ _;refine AW.all (rs:=[5,9]) (by kernel_rfl) (by simp) ⟨?_,?_,trivial⟩
       · refine oA ?_;exact wk
       refine oA ?_;refine T ?_;intro _ _ _;refine jP 5 ?_;exact wk
     intro e q j f g _ _;have h:=an;refine T ?_;intro _ ac;have⟨_,W,h⟩:=ob h;refine LW.fZ (M:=[]) (L:=[bx av 40 [vI 0,vS none 0 0],bx Z 40 [vI d.1,vS f d.2.1.length g],sl k m p.1,sl l n p.2.2.2,bx q 40 [vI d.1,vS f d.2.1.length g],bx j 78 [vI d.2.2.1,vI d.2.2.2],sl f g d.2.1]) (vs:=#[vI d.2.2.1,vI d.2.2.2]) (i:=2) Ip rfl (by kernel_rfl) rfl rfl W ac rfl (fun w G hG=>by cases(show G=[] from hG);exact⟨rfl,rfl⟩) rfl rfl ?_;intro _ _ _ _ _ hf;exact rt
   exact rt
 intro e k m l n _ _;have h:=ab;exact wk
instance k_43:Ct prog 43:={h:=@L9}
theorem Jg{w0}{F:List Nat}{N u ai r}(h:tD N u ai=some r){A:Nat}{k n}(ak:dX (eJ w0 F) w0 k n u.b)(hS:St w0 F w0 [bx A 99 [vS k u.b.length n,vI u.i,vI u.h]]):
    di prog 27 #[.pointer (some ⟨A,0,none⟩),vI ai] w0 (fun v w=>∃C J H K,v=.tuple #[vS C r.1.length J,vS H r.2.1.length K]/\St w0 F w [sl C J r.1,sl H K r.2.1,bx A 99 [vS k u.b.length n,vI r.2.2.i,vI r.2.2.h]]):=by
 unfold tD at h;refine di.fn func27 fun e=>?_;refine T ?_;intro _ _ h _ _ _ _ _ _ h _ af;obtain⟨x,X,ad⟩:=ob h;refine CW.j2 [0,1] [] (fun(d:Ad) (f:Nat)=>[(6,vS d x.1.length f)]) (fun d f=>[bx A 99 [vS k u.b.length n,vI x.2.1,vI x.2.2],sl d f x.1]) af ?_ ?_
 · have h:=X;exact wk
 intro e d f _ _;have h:=ad;refine T ?_;intro aj _ h B I _ _ _ _ h _ z;refine gf [0,6,7,19,20] fun e=>?_;refine gc h ?_ ?_<;>intro _ h
 · refine go ?_;refine LW.bi [0,4] z ?_;intro _ _ _ _ hf;refine T ?_;intro q _ h _ ah;refine LW.bd [(0,vI q.1),(1,vI 1)] #[vI q.1,vI 1,vI 0,vI 0,vI 0,vI 0,vI 0,vI 0,vI 0] ?_;refine LW.bd [(0,vI 2),(1,vI 3)] #[vI 2,vI 3,vI 0,vI 0,vI 0,vI 0,vI 0,vI 0,vI 0] ?_;refine LW.bd [(0,vI 3),(1,vI (-1))] #[vI 3,vI (-1),vI 0,vI 0,vI 0,vI 0,vI 0,vI 0,vI 0] ?_;refine LW.bd [(0,vI 3),(2,vI 10)] #[vI 3,vI 0,vI 10,vI 0,vI 0,vI 0,vI 0,vI 0,vI 0] ?_;refine LW.wX (α:=dQ) (vs:=[(0,.agg #[vI q.1,vI 1,vI 0,vI 0,vI 0,vI 0,vI 0,vI 0,vI 0]),(1,.agg #[vI 2,vI 3,vI 0,vI 0,vI 0,vI 0,vI 0,vI 0,vI 0]),(2,.agg #[vI 3,vI (-1),vI 0,vI 0,vI 0,vI 0,vI 0,vI 0,vI 0]),(3,.agg #[vI 3,vI 0,vI 10,vI 0,vI 0,vI 0,vI 0,vI 0,vI 0])]) (cs:=#[vI q.1,vI 1,vI 0,vI 0,vI 0,vI 0,vI 0,vI 0,vI 0,vI 2,vI 3,vI 0,vI 0,vI 0,vI 0,vI 0,vI 0,vI 0,vI 3,vI (-1),vI 0,vI 0,vI 0,vI 0,vI 0,vI 0,vI 0,vI 3,vI 0,vI 10,vI 0,vI 0,vI 0,vI 0,vI 0,vI 0]) (l:=([dQ.mk q.1 1 0 (dD.mk 0 0 0 0 0 0),dQ.mk 2 3 0 (dD.mk 0 0 0 0 0 0),dQ.mk 3 (-1) 0 (dD.mk 0 0 0 0 0 0),dQ.mk 3 0 10 (dD.mk 0 0 0 0 0 0)]:List dQ)) rfl (by kernel_rfl) rfl rfl rfl (fun w=>⟨[vI q.1,vI 1,vI 0,vI 0,vI 0,vI 0,vI 0,vI 0,vI 0],[vI 2,vI 3,vI 0,vI 0,vI 0,vI 0,vI 0,vI 0,vI 0,vI 3,vI (-1),vI 0,vI 0,vI 0,vI 0,vI 0,vI 0,vI 0,vI 3,vI 0,vI 10,vI 0,vI 0,vI 0,vI 0,vI 0,vI 0],[],[],rfl,rfl,⟨rfl,rfl⟩,⟨[vI 2,vI 3,vI 0,vI 0,vI 0,vI 0,vI 0,vI 0,vI 0],[vI 3,vI (-1),vI 0,vI 0,vI 0,vI 0,vI 0,vI 0,vI 0,vI 3,vI 0,vI 10,vI 0,vI 0,vI 0,vI 0,vI 0,vI 0],[],[],rfl,rfl,⟨rfl,rfl⟩,⟨[vI 3,vI (-1),vI 0,vI 0,vI 0,vI 0,vI 0,vI 0,vI 0],[vI 3,vI 0,vI 10,vI 0,vI 0,vI 0,vI 0,vI 0,vI 0],[],[],rfl,rfl,⟨rfl,rfl⟩,⟨[vI 3,vI 0,vI 10,vI 0,vI 0,vI 0,vI 0,vI 0,vI 0],[],[],[],rfl,rfl,⟨rfl,rfl⟩,rfl⟩⟩⟩⟩) ah rfl ?_
   intro _ _ _ O hf;have⟨_,Z,h⟩:=ob h;refine LW.fM (l:=aj.1) (m:=([dQ.mk q.1 1 0 (dD.mk 0 0 0 0 0 0),dQ.mk 2 3 0 (dD.mk 0 0 0 0 0 0),dQ.mk 3 (-1) 0 (dD.mk 0 0 0 0 0 0),dQ.mk 3 0 10 (dD.mk 0 0 0 0 0 0)]:List dQ)) Jw rfl rfl (O.rI 0 rfl) Z O (i:=3) rfl rfl ?_;intro ab ac _ U hf;refine go ?_;replace h:=oi h;subst h;exact Rc tt tt ⟨d,f,ab,ac,rfl,U.pk [4,3,1]⟩
 refine gc h ?_ ?_<;>intro _ h
 · refine go ?_;obtain⟨_,Y,ae⟩:=ob h;refine CW.i2 Y 1 [0,6] [2] (fun p (g:Ad) (j:Nat)=>[(7,vS g p.1.length j)]) (fun p g j=>[bx A 99 [vS k u.b.length n,vI p.2.1,vI p.2.2],sl g j p.1]) z ?_ ?_ ?_
   · exact⟨B,I,z.po [2,0,1]⟩
   · intro p e g j _ o _ h;refine T ?_;intro R _ h _ V;refine gc h ?_ ?_<;>intro _ h
     · refine fm [(0,vI 1)] #[vI 1,vI 0,vI 0,vI 0,vI 0,vI 0,vI 0,vI 0,vI 0] ?_;have⟨_,aa,h⟩:=ob h;refine LW.fZ (M:=[]) (L:=[bx A 99 [vS k u.b.length n,vI R.2.i,vI R.2.h],sl d f x.1,sl g j p.1]) (vs:=#[vI 1,vI 0,vI 0,vI 0,vI 0,vI 0,vI 0,vI 0,vI 0]) (i:=2) Jw rfl (by kernel_rfl) rfl rfl aa V rfl (fun w G hG=>by cases(show G=[] from hG);exact⟨rfl,rfl⟩) rfl rfl ?_;intro _ _ _ _ _ hf;exact rt
     exact rt
   intro e g j _ W;have h:=ae;refine go ?_;replace h:=oi h;subst h;exact Rc tt tt ⟨d,f,g,j,rfl,W.pk [0,2,1]⟩
 refine go ?_;replace h:=oi h;subst h;exact Rc tt tt ⟨d,f,B,I,rfl,z.pk [2,1,0]⟩
instance k_27:Ct prog 27:={h:=@Jg}
theorem wE{w0 N ab ac I r}(h:na N ab ac I=some r){k u m}(A:u=ab.length)(ak:rb w0 k m ab){l x n}(B:x=ac.length)(H:rb w0 l n ac){g z j}(C:z=I.Ro.length)(am:rb w0 g j I.Ro):
    di prog 16 #[vS k u m,vS l x n,.agg #[vS g z j]] w0 (fun v w=>∃J K,v=vS J r.length K/\St w0 [] w [sl J K r]):=by
 subst A B C;unfold na at h;refine di.fS func16 fun e _=>?_;refine T ?_;intro ap _ af;refine LW.b0 (α:=dt) af ?_;intro an ao _ _ hf;refine T ?_;intro _ _ h _ _ _ _ _ _ _ _ _ _ O;refine go ?_;obtain⟨_,Y,ae⟩:=ob h;refine CW.i2 Y 0 [0,1,5,9] [2,4] (fun f (b:Ad) (d:Nat)=>[(7,vS b f.1.length d),(10,vI f.2)]) (fun f b d=>[sl b d f.1]) O ?_ ?_ ?_
 · exact⟨an,ao,O.po [2,4,3]⟩
 · intro f e b d _ o ah h;refine gf [0,1,5,7,9,10,21] fun e=>?_;refine gc h ?_ ?_<;>intro _ h
   · refine fA ?_;have:=ah.drew;refine gb h fun _ Z h=>?_;obtain⟨_,_,_,rfl,_,_,_,rfl,_⟩:=H.idx Z;refine go ?_;refine T ?_;intro _ _ h aj R;refine gc h ?_ ?_<;>intro _ h
     · refine gb h fun U q h=>?_;obtain⟨_,_,rfl,_,_⟩:=R.dA (α:=dt) (i:=0) rfl q;refine go ?_;obtain⟨ad,p,V⟩:=R.freeze (α:=dt) 0 rfl;obtain⟨_,_,_,ai,_,_,_,X,_⟩:=p.fe.idx q;cases ai;obtain rfl:=X;refine T ?_;have⟨_,aa,h⟩:=ob h;refine LW.fZ (M:=[]) (L:=[fz aj ad,bx ap 31 [vS g I.Ro.length j],sl b d f.1]) (vs:=#[vI U.code,vI U.RI]) (i:=2) Ip rfl (by kernel_rfl) rfl rfl aa V rfl (fun w G hG=>by cases(show G=[] from hG);exact⟨rfl,rfl⟩) rfl rfl ?_;intro _ _ _ _ W hf;refine go ?_;have:=W.dZ (α:=dt) 0 rfl p;exact rt
     exact rt
   exact rt
 intro e b d _ _;have h:=ae;exact rt
instance k_16:Ct prog 16:={h:=@wE}
end Go.Kx
