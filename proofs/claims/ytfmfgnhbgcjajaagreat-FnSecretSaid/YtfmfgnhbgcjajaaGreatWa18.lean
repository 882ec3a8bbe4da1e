import Derived.Test.YtfmfgnhbgcjajaaGreatWa15
import Derived.Test.YtfmfgnhbgcjajaaGreatWa16
import Derived.Test.YtfmfgnhbgcjajaaGreatWa17
namespace Go.Kx
open Go Go.RowKit Go.Proofs
open Tryz
set_option maxRecDepth 10000
set_option maxHeartbeats 8000000
set_option linter.unusedVariables false
set_option linter.unusedSimpArgs false
theorem DG{w0 N am an aF aG r}(h:oP N am an aF aG=some r){ad ai ae}(aj:ai=am.parts.length)(ak:rb w0 ad ae am.parts):
    di prog 75 #[.agg #[vI am.RB,vS ad ai ae],vI an,vI aF,.agg (uL aG)] w0 (fun v w=>∃X Y,v=.tuple #[.agg #[vI r.1.RB,vS X r.1.parts.length Y],.agg #[vI r.2.code,vI r.2.RI]]/\St w0 [] w [sl X Y r.1.parts]):=by
 subst aj;unfold oP at h;refine di.fS func75 fun e _=>?_;refine T ?_;intro _ _ _ _ _ _ ab _ _ ac _ _ W _ h ao K _ _ O _ _ _ aD;obtain⟨aE,av,aB⟩:=ob h;refine CW.jn [1,2,4,7,8,9,10] [0,1,2,3,4,5] [(26,.bool aE)] aD (h1:=?_) (h2:=?_)
 · have h:=av;exact wk
 intro e _ aq;have h:=aB;refine gc h ?_ ?_<;>intro _ h
 · refine fm [(0,vI 2)] #[vI 2,vI 0] ?_;exact wk
 refine fA ?_;have:=aq.drew;refine gb h fun _ ay h=>?_;obtain⟨_,_,_,rfl,_,_,_,⟨_,_,_,_,_,_,_,_,_,_,_,_,rfl,_,_,_,_,_,_⟩,_⟩:=ak.idx ay;refine go ?_;refine T ?_;intro _ _ h _ _;refine gc h ?_ ?_<;>intro _ h
 · refine fm [(0,vI 1)] #[vI 1,vI 0] ?_;exact wk
 refine T ?_;intro _ _ h _ ar;refine CW.fl [1,2,4,7,8,9,10,11,46] fun e=>?_;refine gc h ?_ ?_<;>intro _ h
 · refine fm [(0,vI 2)] #[vI 2,vI 0] ?_;exact wk
 refine gs ?_;refine CW.region ?_;refine gs ?_;refine CW.region ?_;refine gs ?_;obtain⟨az,aw,ap⟩:=ob h;refine CW.cut (fun e wb=>∃B,az=.inl B/\∃(U:Ad) (V:Nat),En e [(8,.pointer (some ⟨ab,0,none⟩)),(9,.pointer (some ⟨ac,0,none⟩)),(10,.pointer (some ⟨O,0,none⟩)),(12,vI B.1),(13,vI B.2.1)]/\St w0 [] wb [bx O 40 [vI B.2.2.1,vS U B.2.2.2.length V],bx ac 78 [vI 0,vI 0],bx ab 40 [vI 0,vS none 0 0],sl U V B.2.2.2]) ?_ ?_
 · have h:=aw;refine gc h ?_ ?_<;>intro _ h
   · exact wk
   refine gc h ?_ ?_<;>intro _ h
   · exact wk
   refine gc h ?_ ?_<;>intro _ h
   · exact wk
   refine gs ?_;obtain⟨d,ax,aC⟩:=ob h;refine CW.cut (fun e wb=>∃(C:Nat) (H:Nat) (l:Ad) (q:Nat) (m:Ad) (u:Nat) (n:Ad) (x:Nat) (p:Ad) (A:Nat) (f:Ad) (j:Nat) (g:Ad) (k:Nat),En e [(1,vI an),(8,.pointer (some ⟨ab,0,none⟩)),(9,.pointer (some ⟨ac,0,none⟩)),(10,.pointer (some ⟨O,0,none⟩)),(14,.pointer (some ⟨C,0,none⟩)),(15,.pointer (some ⟨H,0,none⟩))]/\St w0 [] wb [bx O 40 [vI W.RB,vS ao W.parts.length K],sl ao K W.parts,bx ac 78 [vI 0,vI 0],bx ab 40 [vI 0,vS none 0 0],bx C 54 [vS l d.1.length q,vS m d.2.1.length u,vS n d.2.2.1.length x,vS p d.2.2.2.1.length A,vI d.2.2.2.2.1,vI d.2.2.2.2.2.1,vI d.2.2.2.2.2.2.1,vS f d.2.2.2.2.2.2.2.1.length j,vS g d.2.2.2.2.2.2.2.2.1.length k,vI d.2.2.2.2.2.2.2.2.2.1,vI d.2.2.2.2.2.2.2.2.2.2.1,vI d.2.2.2.2.2.2.2.2.2.2.2.1,vI d.2.2.2.2.2.2.2.2.2.2.2.2.1,vI d.2.2.2.2.2.2.2.2.2.2.2.2.2.1,vI d.2.2.2.2.2.2.2.2.2.2.2.2.2.2.1,vI d.2.2.2.2.2.2.2.2.2.2.2.2.2.2.2.1],bx H 78 [vI d.2.2.2.2.2.2.2.2.2.2.2.2.2.2.2.2.1,vI d.2.2.2.2.2.2.2.2.2.2.2.2.2.2.2.2.2],sl l q d.1,sl m u d.2.1,sl n x d.2.2.1,sl p A d.2.2.2.1,sl f j d.2.2.2.2.2.2.2.1,sl g k d.2.2.2.2.2.2.2.2.1]) ?_ ?_
   · have h:=ax;refine dW ?_;have:=ar.drew;refine go ?_;refine T ?_;have⟨_,_,h⟩:=ob h;refine AW.all (rs:=[10,14,15]) (by kernel_rfl) (by simp) ⟨?_,?_,?_,trivial⟩
     · refine oA ?_;refine T ?_;intro _ _ _ _ _ _ _ _ _ _ _ _ _ _;refine AW.all (rs:=[14,15]) (by kernel_rfl) (by simp) ⟨?_,?_,trivial⟩
       · refine oA ?_;exact wk
       refine oA ?_;refine T ?_;intro _ _ _;refine jP 14 ?_;exact wk
     · refine oA ?_;refine T ?_;intro _ _ _;refine AW.all (rs:=[10,15]) (by kernel_rfl) (by simp) ⟨?_,?_,trivial⟩
       · refine oA ?_;exact wk
       refine oA ?_;refine T ?_;intro _ _ _;refine jP 10 ?_;exact wk
     refine oA ?_;refine T ?_;intro _ _ _;refine AW.all (rs:=[10,14]) (by kernel_rfl) (by simp) ⟨?_,?_,trivial⟩
     · refine oA ?_;exact wk
     refine oA ?_;refine T ?_;intro _ _ _;refine jP 10 ?_;exact wk
   rintro e _ ⟨C,H,l,q,m,u,n,x,p,A,f,j,g,k,hE,af⟩;obtain⟨e,rfl⟩:=hE.out;have h:=aC;refine gb h fun aA Z h=>?_;obtain⟨J,I,rfl,_,_⟩:=af.dA (α:=bh) (i:=1) rfl Z;refine go ?_;have au:=af.pk (M:=[sl l q d.1,sl m u d.2.1,sl n x d.2.2.1,sl p A d.2.2.2.1,sl f j d.2.2.2.2.2.2.2.1,sl g k d.2.2.2.2.2.2.2.2.1]++[bx O 40 [vI W.RB,vS (some ⟨J,I,none⟩) W.parts.length K],sl (some ⟨J,I,none⟩) K W.parts,bx ac 78 [vI 0,vI 0],bx ab 40 [vI 0,vS none 0 0],bx C 54 [vS l d.1.length q,vS m d.2.1.length u,vS n d.2.2.1.length x,vS p d.2.2.2.1.length A,vI d.2.2.2.2.1,vI d.2.2.2.2.2.1,vI d.2.2.2.2.2.2.1,vS f d.2.2.2.2.2.2.2.1.length j,vS g d.2.2.2.2.2.2.2.2.1.length k,vI d.2.2.2.2.2.2.2.2.2.1,vI d.2.2.2.2.2.2.2.2.2.2.1,vI d.2.2.2.2.2.2.2.2.2.2.2.1,vI d.2.2.2.2.2.2.2.2.2.2.2.2.1,vI d.2.2.2.2.2.2.2.2.2.2.2.2.2.1,vI d.2.2.2.2.2.2.2.2.2.2.2.2.2.2.1,vI d.2.2.2.2.2.2.2.2.2.2.2.2.2.2.2.1],bx H 78 [vI d.2.2.2.2.2.2.2.2.2.2.2.2.2.2.2.2.1,vI d.2.2.2.2.2.2.2.2.2.2.2.2.2.2.2.2.2]]) [6,7,8,9,10,11,0,1,2,3,4,5];have⟨_,aa,h⟩:=ob h;refine LW.uR (M:=[sl l q d.1,sl m u d.2.1,sl n x d.2.2.1,sl p A d.2.2.2.1,sl f j d.2.2.2.2.2.2.2.1,sl g k d.2.2.2.2.2.2.2.2.1]) (L:=[bx O 40 [vI W.RB,vS (some ⟨J,I,none⟩) W.parts.length K],sl (some ⟨J,I,none⟩) K W.parts,bx ac 78 [vI 0,vI 0],bx ab 40 [vI 0,vS none 0 0],bx C 54 [vS l d.1.length q,vS m d.2.1.length u,vS n d.2.2.1.length x,vS p d.2.2.2.1.length A,vI d.2.2.2.2.1,vI d.2.2.2.2.2.1,vI d.2.2.2.2.2.2.1,vS f d.2.2.2.2.2.2.2.1.length j,vS g d.2.2.2.2.2.2.2.2.1.length k,vI d.2.2.2.2.2.2.2.2.2.1,vI d.2.2.2.2.2.2.2.2.2.2.1,vI d.2.2.2.2.2.2.2.2.2.2.2.1,vI d.2.2.2.2.2.2.2.2.2.2.2.2.1,vI d.2.2.2.2.2.2.2.2.2.2.2.2.2.1,vI d.2.2.2.2.2.2.2.2.2.2.2.2.2.2.1,vI d.2.2.2.2.2.2.2.2.2.2.2.2.2.2.2.1],bx H 78 [vI d.2.2.2.2.2.2.2.2.2.2.2.2.2.2.2.2.1,vI d.2.2.2.2.2.2.2.2.2.2.2.2.2.2.2.2.2]]) (z:=aA) (z':=(bh.mk (dV.mk d.1) d.2.1 d.2.2.1 (dm.mk d.2.2.2.1 (eS.mk d.2.2.2.2.1 d.2.2.2.2.2.1 d.2.2.2.2.2.2.1 d.2.2.2.2.2.2.2.1)) d.2.2.2.2.2.2.2.2.1 d.2.2.2.2.2.2.2.2.2.1 d.2.2.2.2.2.2.2.2.2.2.1 (de.mk d.2.2.2.2.2.2.2.2.2.2.2.1 d.2.2.2.2.2.2.2.2.2.2.2.2.1 d.2.2.2.2.2.2.2.2.2.2.2.2.2.1) d.2.2.2.2.2.2.2.2.2.2.2.2.2.2.1 d.2.2.2.2.2.2.2.2.2.2.2.2.2.2.2.1)) (o:=0) au (i:=1) rfl Z iE rfl (by show _=I+(an:Int).toNat*16+0;omega) rfl rfl rfl rfl (whole (fun w G hG=>⟨l,q,m,u,n,x,p,A,f,j,g,k,rfl,hG⟩)) ?_
   intro _ ah hf;rw[oi aa]at ah;refine fA ?_;have:=ah.drew;refine T ?_;intro _ _ _ R;cases h;have h:=ap;cases h;rw[dx (oi aa)]at R;exact Rc (dE.b R 3 rfl qN rfl rfl) (dE.b R 2 rfl jt rfl rfl) ⟨(some ⟨J,I,none⟩),K,rfl,R.pk [1]⟩
 rintro e _ ⟨B,rfl,hM⟩;obtain⟨U,V,hE,_⟩:=hM;obtain⟨e,rfl⟩:=hE.out;have h:=ap;refine gc h ?_ ?_<;>intro _ h
 · refine fm [(0,vI B.1)] #[vI B.1,vI 0] ?_;exact wk
 refine fm [(1,vI B.2.1)] #[vI 0,vI B.2.1] ?_;exact wk
instance k_75:Ct prog 75:={h:=@DG}
theorem uM{w0 N W X r}(h:mK N W X=some r){O U R}(Z:U=W.parts.length)(K:rb w0 O R W.parts){j V k}(aa:V=X.Ro.length)(aI:rb w0 j k X.Ro):
    di prog 12 #[.agg #[vI W.RB,vS O U R],.agg #[vS j V k]] w0 (fun v w=>∃ai aq,v=vS ai r.length aq/\St w0 [] w [sl ai aq r]):=by
 subst Z aa;unfold mK at h;refine di.fS func12 fun e _=>?_;refine T ?_;intro _ _ _ aE _ aG;refine LW.b0 (α:=bh) aG ?_;intro aJ aK _ au hf;refine go ?_;refine LW.u (dL.min rfl rfl) rfl ?_;have⟨_,av,h⟩:=ob h;obtain⟨_,_,ay,az,aB⟩:=dX.tI K av;have Y:=(K).le;refine LW.u (dL.sub (α:=bh) (l:=W.parts) underlying38 L8 rfl tq (sL rfl) av Y ay az) rfl ?_;refine go ?_;obtain⟨_,aA,aF⟩:=ob h;refine CW.i2 aA 0 [3,15,16] [1] (fun g (d:Ad) (f:Nat)=>[(5,vS d g.1.length f),(17,vI g.2)]) (fun g d f=>[sl d f g.1]) au ?_ ?_ ?_
 · exact⟨aJ,aK,au.po [1,0]⟩
 · intro g e d f _ o _ h;refine gf [3,5,15,16,17,18] fun e=>?_;refine gc h ?_ ?_<;>intro _ h
   · refine gb h fun aw aC h=>?_;obtain⟨_,_,_,rfl,_,_,_,⟨ab,aj,ac,ak,ad,am,ae,an,af,ao,ah,ap,rfl,_,_,_,_,_,_⟩,_⟩:=aB.idx aC;refine go ?_;refine T ?_;intro ar _ _ _ _ _ _ h _ _;refine gc h ?_ ?_<;>intro _ h
     · refine T ?_;intro b _ h m A n B p C q H x I z J _ aH;have ax:=aH.pk (M:=[sl m A b.Rp.Ro,sl n B b.own,sl p C b.Rr,sl q H b.py.ag,sl x I b.py.gc.da,sl z J b.db]++[bx ar 54 (qP ab aj ac ak ad am ae an af ao ah ap aw),bx aE 31 [vS j X.Ro.length k],sl d f g.1]) [0,1,2,3,4,5,6,7,8];have⟨_,aD,h⟩:=ob h;refine LW.fZ (M:=[sl m A b.Rp.Ro,sl n B b.own,sl p C b.Rr,sl q H b.py.ag,sl x I b.py.gc.da,sl z J b.db]) (L:=[bx ar 54 (qP ab aj ac ak ad am ae an af ao ah ap aw),bx aE 31 [vS j X.Ro.length k],sl d f g.1]) (vs:=#[vS m b.Rp.Ro.length A,vS n b.own.length B,vS p b.Rr.length C,vS q b.py.ag.length H,vI b.py.gc.Ru,vI b.py.gc.RD,vI b.py.gc.Rv,vS x b.py.gc.da.length I,vS z b.db.length J,vI b.RA,vI b.Rz,vI b.dc.cd,vI b.dc.dg,vI b.dc.dn,vI b.du,vI b.Rx]) (i:=2) Ai rfl (by kernel_rfl) rfl rfl aD ax rfl (fun w G hG=>⟨m,A,n,B,p,C,q,H,x,I,z,J,rfl,hG⟩) rfl rfl ?_;intro _ _ _ _ _ hf;exact rt
     exact rt
   exact rt
 intro e d f _ _;have h:=aF;exact rt
instance k_12:Ct prog 12:={h:=@uM}
theorem Kn{w0 N f r}(h:sr N f=some r){b g d}(j:g=f.length)(k:rb w0 b d f):
    di prog 26 #[vS b g d] w0 (fun v w=>∃l,v=.pointer (some ⟨l,0,none⟩)/\St w0 [] w [bx l 99 [vS b f.length d,vI r.i,vI r.h]]):=by
 subst j;unfold sr at h;refine di.fS func26 fun e z=>?_;refine go ?_;obtain⟨m,n,q⟩:=ob h;refine CW.mono (CW.lb [0] [] [0,3] 0 (fun p=>[(3,vI p.1),(4,vI p.2)]) z n (hb:=?_)) ?_
 · intro p e _ o A h;refine gs ?_;obtain⟨H,B,G⟩:=ob h;refine CW.jn [0,3,4] [] [(15,.bool H)] A (h1:=?_) (h2:=?_)
   · have h:=B;exact wk
   intro e _ _;have h:=G;refine gc h ?_ ?_<;>intro _ h
   · refine gb h fun _ C h=>?_;obtain⟨_,_,_,rfl,_,_,_,rfl,_⟩:=k.idx C;refine go ?_;refine T ?_;refine LW.u (dL.conv underlying5 underlying3 rfl) rfl ?_;exact rt
   exact rt
 intro x e _ hM;obtain⟨rfl,hM⟩:=hM;obtain⟨e,rfl,_⟩:=eo hM;have h:=q;refine fm [(0,vS b f.length d),(2,vI m.1)] #[vS b f.length d,vI 0,vI m.1] ?_;exact wk
instance k_26:Ct prog 26:={h:=@Kn}
theorem sP{w0 N C G r}(h:lC N C G=some r){b j f}(l:j=C.length)(n:rb w0 b f C){d k g}(m:k=G.length)(p:rb w0 d g G):
    di prog 14 #[vS b j f,vS d k g] w0 (fun v w=>v=.bool r/\St w0 [] w []):=by
 subst l m;unfold lC at h;refine di.fS func14 fun e H=>?_;refine gc h ?_ ?_<;>intro _ h
 · exact rt
 refine go ?_;obtain⟨z,A,q⟩:=ob h;refine CW.mono (CW.lx [0,1] [] [] 0 (fun K=>[(5,vI K)]) (RT prog f14.results (fun u=>.bool u) w0 []) H A (hb:=?_)) ?_
 · intro K e _ o I h;refine gc h ?_ ?_<;>intro _ h
   · refine fA ?_;have:=I.drew;refine gb h fun M J h=>?_;obtain⟨_,_,_,rfl,_,_,_,rfl,_⟩:=n.idx J;refine go ?_;refine T ?_;have⟨L,B,h⟩:=ob h;obtain⟨_,_,_,rfl,_,_,_,rfl,_⟩:=p.idx B;refine go ?_;refine T ?_;refine AW.u (i:=8) rfl (by kernel_rfl) rfl rfl (dL.Cl Qy rfl rfl (fun w=>QH M L w)) ?_;exact wk
   exact rt
 intro x e _ hM;rcases z with z|_
 · obtain⟨rfl,hM⟩:=hM;obtain⟨e,rfl,_⟩:=eo hM;rw[show e=dF e [] from rfl];have h:=q;exact rt
 obtain⟨rfl,u,rfl,hM⟩:=hM;cases q;exact And.intro trivial hM
instance k_14:Ct prog 14:={h:=@sP}
end Go.Kx
