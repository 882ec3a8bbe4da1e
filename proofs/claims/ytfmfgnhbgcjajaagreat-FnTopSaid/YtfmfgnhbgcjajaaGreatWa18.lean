import Derived.Test.YtfmfgnhbgcjajaaGreatWa15
import Derived.Test.YtfmfgnhbgcjajaaGreatWa16
import Derived.Test.YtfmfgnhbgcjajaaGreatWa17
namespace Go.Kx
open Go Go.RowKit Go.Proofs
open Tryz
set_option maxRecDepth 10000
set_option maxHeartbeats 8000000
set_option linter.unusedVariables false
set_option linter.unusedSimpArgs false
theorem Dd{w0 N am an aF aG r}(h:oZ N am an aF aG=some r){ad ai ae}(aj:ai=am.parts.length)(ak:rb w0 ad ae am.parts):
    dj prog 75 #[.agg #[vI am.Rj,vS ad ai ae],vI an,vI aF,.agg (uL aG)] w0 (fun v w=>∃X Y,v=.tuple #[.agg #[vI r.1.Rj,vS X r.1.parts.length Y],.agg #[vI r.2.code,vI r.2.Rv]]/\St w0 [] w [sl X Y r.1.parts]):=by
 subst aj;unfold oZ at h;refine dj.fS func75 fun e _=>?_;refine T ?_;intro _ _ _ _ _ _ ab _ _ ac _ _ W _ h ao K _ _ O _ _ _ aD;obtain⟨aE,av,aB⟩:=ob h;refine CW.jn [1,2,4,7,8,9,10] [0,1,2,3,4,5] [(26,.bool aE)] aD (h1:=?_) (h2:=?_)
 · have h:=av;exact wk
 intro e _ aq;have h:=aB;refine gc h ?_ ?_<;>intro _ h
 · refine fC [(0,vI 2)] #[vI 2,vI 0] ?_;exact wk
 refine gR ?_;have:=aq.drew;refine gb h fun _ ay h=>?_;obtain⟨_,_,_,rfl,_,_,_,⟨_,_,_,_,_,_,_,_,_,_,_,_,rfl,_,_,_,_,_,_⟩,_⟩:=ak.idx ay;refine go ?_;refine T ?_;intro _ _ h _ _;refine gc h ?_ ?_<;>intro _ h
 · refine fC [(0,vI 1)] #[vI 1,vI 0] ?_;exact wk
 refine T ?_;intro _ _ h _ ar;refine CW.fl [1,2,4,7,8,9,10,11,46] fun e=>?_;refine gc h ?_ ?_<;>intro _ h
 · refine fC [(0,vI 2)] #[vI 2,vI 0] ?_;exact wk
 refine gs ?_;refine CW.region ?_;refine gs ?_;refine CW.region ?_;refine gs ?_;obtain⟨az,aw,ap⟩:=ob h;refine CW.cut (fun e wb=>∃B,az=.inl B/\∃(U:Ad) (V:Nat),En e [(8,.pointer (some ⟨ab,0,none⟩)),(9,.pointer (some ⟨ac,0,none⟩)),(10,.pointer (some ⟨O,0,none⟩)),(12,vI B.1),(13,vI B.2.1)]/\St w0 [] wb [bx O 40 [vI B.2.2.1,vS U B.2.2.2.length V],bx ac 78 [vI 0,vI 0],bx ab 40 [vI 0,vS none 0 0],sl U V B.2.2.2]) ?_ ?_
 · have h:=aw;refine gc h ?_ ?_<;>intro _ h
   · exact wk
   refine gc h ?_ ?_<;>intro _ h
   · exact wk
   refine gc h ?_ ?_<;>intro _ h
   · exact wk
   refine gs ?_;obtain⟨d,ax,aC⟩:=ob h;refine CW.cut (fun e wb=>∃(C:Nat) (H:Nat) (l:Ad) (q:Nat) (m:Ad) (u:Nat) (n:Ad) (x:Nat) (p:Ad) (A:Nat) (f:Ad) (j:Nat) (g:Ad) (k:Nat),En e [(1,vI an),(8,.pointer (some ⟨ab,0,none⟩)),(9,.pointer (some ⟨ac,0,none⟩)),(10,.pointer (some ⟨O,0,none⟩)),(14,.pointer (some ⟨C,0,none⟩)),(15,.pointer (some ⟨H,0,none⟩))]/\St w0 [] wb [bx O 40 [vI W.Rj,vS ao W.parts.length K],sl ao K W.parts,bx ac 78 [vI 0,vI 0],bx ab 40 [vI 0,vS none 0 0],bx C 54 [vS l d.1.length q,vS m d.2.1.length u,vS n d.2.2.1.length x,vS p d.2.2.2.1.length A,vI d.2.2.2.2.1,vI d.2.2.2.2.2.1,vI d.2.2.2.2.2.2.1,vS f d.2.2.2.2.2.2.2.1.length j,vS g d.2.2.2.2.2.2.2.2.1.length k,vI d.2.2.2.2.2.2.2.2.2.1,vI d.2.2.2.2.2.2.2.2.2.2.1,vI d.2.2.2.2.2.2.2.2.2.2.2.1,vI d.2.2.2.2.2.2.2.2.2.2.2.2.1,vI d.2.2.2.2.2.2.2.2.2.2.2.2.2.1,vI d.2.2.2.2.2.2.2.2.2.2.2.2.2.2.1,vI d.2.2.2.2.2.2.2.2.2.2.2.2.2.2.2.1],bx H 78 [vI d.2.2.2.2.2.2.2.2.2.2.2.2.2.2.2.2.1,vI d.2.2.2.2.2.2.2.2.2.2.2.2.2.2.2.2.2],sl l q d.1,sl m u d.2.1,sl n x d.2.2.1,sl p A d.2.2.2.1,sl f j d.2.2.2.2.2.2.2.1,sl g k d.2.2.2.2.2.2.2.2.1]) ?_ ?_
   · have h:=ax;refine dW ?_;have:=ar.drew;refine go ?_;refine T ?_;have⟨_,_,h⟩:=ob h;refine AW.all (rs:=[10,14,15]) (by kernel_rfl) (by simp) ⟨?_,?_,?_,trivial⟩
     · refine oA ?_;refine T ?_;intro _ _ _ _ _ _ _ _ _ _ _ _ _ _;refine AW.all (rs:=[14,15]) (by kernel_rfl) (by simp) ⟨?_,?_,trivial⟩
       · refine oA ?_;exact wk
       refine oA ?_;refine T ?_;intro _ _ _;refine jP 14 ?_;exact wk
     · refine oA ?_;refine T ?_;intro _ _ _;refine AW.all (rs:=[10,15]) (by kernel_rfl) (by simp) ⟨?_,?_,trivial⟩
       · refine oA ?_;exact wk
       refine oA ?_;refine T ?_;intro _ _ _;refine jP 10 ?_;exact wk
     refine oA ?_;refine T ?_;intro _ _ _;refine AW.all (rs:=[10,14]) (by kernel_rfl) (by simp) ⟨?_,?_,trivial⟩
     · refine oA ?_;exact wk
     refine oA ?_;refine T ?_;intro _ _ _;refine jP 10 ?_;exact wk
   rintro e _ ⟨C,H,l,q,m,u,n,x,p,A,f,j,g,k,hE,af⟩;obtain⟨e,rfl⟩:=hE.out;have h:=aC;refine gb h fun aA Z h=>?_;obtain⟨J,I,rfl,_,_⟩:=af.dC (α:=bh) (i:=1) rfl Z;refine go ?_;have au:=af.pk (M:=[sl l q d.1,sl m u d.2.1,sl n x d.2.2.1,sl p A d.2.2.2.1,sl f j d.2.2.2.2.2.2.2.1,sl g k d.2.2.2.2.2.2.2.2.1]++[bx O 40 [vI W.Rj,vS (some ⟨J,I,none⟩) W.parts.length K],sl (some ⟨J,I,none⟩) K W.parts,bx ac 78 [vI 0,vI 0],bx ab 40 [vI 0,vS none 0 0],bx C 54 [vS l d.1.length q,vS m d.2.1.length u,vS n d.2.2.1.length x,vS p d.2.2.2.1.length A,vI d.2.2.2.2.1,vI d.2.2.2.2.2.1,vI d.2.2.2.2.2.2.1,vS f d.2.2.2.2.2.2.2.1.length j,vS g d.2.2.2.2.2.2.2.2.1.length k,vI d.2.2.2.2.2.2.2.2.2.1,vI d.2.2.2.2.2.2.2.2.2.2.1,vI d.2.2.2.2.2.2.2.2.2.2.2.1,vI d.2.2.2.2.2.2.2.2.2.2.2.2.1,vI d.2.2.2.2.2.2.2.2.2.2.2.2.2.1,vI d.2.2.2.2.2.2.2.2.2.2.2.2.2.2.1,vI d.2.2.2.2.2.2.2.2.2.2.2.2.2.2.2.1],bx H 78 [vI d.2.2.2.2.2.2.2.2.2.2.2.2.2.2.2.2.1,vI d.2.2.2.2.2.2.2.2.2.2.2.2.2.2.2.2.2]]) [6,7,8,9,10,11,0,1,2,3,4,5];have⟨_,aa,h⟩:=ob h;refine LW.u9 (M:=[sl l q d.1,sl m u d.2.1,sl n x d.2.2.1,sl p A d.2.2.2.1,sl f j d.2.2.2.2.2.2.2.1,sl g k d.2.2.2.2.2.2.2.2.1]) (L:=[bx O 40 [vI W.Rj,vS (some ⟨J,I,none⟩) W.parts.length K],sl (some ⟨J,I,none⟩) K W.parts,bx ac 78 [vI 0,vI 0],bx ab 40 [vI 0,vS none 0 0],bx C 54 [vS l d.1.length q,vS m d.2.1.length u,vS n d.2.2.1.length x,vS p d.2.2.2.1.length A,vI d.2.2.2.2.1,vI d.2.2.2.2.2.1,vI d.2.2.2.2.2.2.1,vS f d.2.2.2.2.2.2.2.1.length j,vS g d.2.2.2.2.2.2.2.2.1.length k,vI d.2.2.2.2.2.2.2.2.2.1,vI d.2.2.2.2.2.2.2.2.2.2.1,vI d.2.2.2.2.2.2.2.2.2.2.2.1,vI d.2.2.2.2.2.2.2.2.2.2.2.2.1,vI d.2.2.2.2.2.2.2.2.2.2.2.2.2.1,vI d.2.2.2.2.2.2.2.2.2.2.2.2.2.2.1,vI d.2.2.2.2.2.2.2.2.2.2.2.2.2.2.2.1],bx H 78 [vI d.2.2.2.2.2.2.2.2.2.2.2.2.2.2.2.2.1,vI d.2.2.2.2.2.2.2.2.2.2.2.2.2.2.2.2.2]]) (z:=aA) (z':=(bh.mk (fD.mk d.1) d.2.1 d.2.2.1 (df.mk d.2.2.2.1 (eT.mk d.2.2.2.2.1 d.2.2.2.2.2.1 d.2.2.2.2.2.2.1 d.2.2.2.2.2.2.2.1)) d.2.2.2.2.2.2.2.2.1 d.2.2.2.2.2.2.2.2.2.1 d.2.2.2.2.2.2.2.2.2.2.1 (de.mk d.2.2.2.2.2.2.2.2.2.2.2.1 d.2.2.2.2.2.2.2.2.2.2.2.2.1 d.2.2.2.2.2.2.2.2.2.2.2.2.2.1) d.2.2.2.2.2.2.2.2.2.2.2.2.2.2.1 d.2.2.2.2.2.2.2.2.2.2.2.2.2.2.2.1)) (o:=0) au (i:=1) rfl Z iY rfl (by show _=I+(an:Int).toNat*16+0;omega) rfl rfl rfl rfl (whole (fun w G hG=>⟨l,q,m,u,n,x,p,A,f,j,g,k,rfl,hG⟩)) ?_
   intro _ ah hf;rw[oi aa]at ah;refine gR ?_;have:=ah.drew;refine T ?_;intro _ _ _ R;cases h;have h:=ap;cases h;rw[dB (oi aa)]at R;exact Rc (dJ.b R 3 rfl sx rfl rfl) (dJ.b R 2 rfl jQ rfl rfl) ⟨(some ⟨J,I,none⟩),K,rfl,R.pk [1]⟩
 rintro e _ ⟨B,rfl,hM⟩;obtain⟨U,V,hE,_⟩:=hM;obtain⟨e,rfl⟩:=hE.out;have h:=ap;refine gc h ?_ ?_<;>intro _ h
 · refine fC [(0,vI B.1)] #[vI B.1,vI 0] ?_;exact wk
 refine fC [(1,vI B.2.1)] #[vI 0,vI B.2.1] ?_;exact wk
instance k75:Ct prog 75:={h:=@Dd}
theorem JL{w0 N j r}(h:sQ N j=some r){b f d}(g:f=j.parts.length)(i:rb w0 b d j.parts):
    dj prog 18 #[.agg #[vI j.Rj,vS b f d]] w0 (fun v w=>v=.bool r/\St w0 [] w []):=by
 subst g;unfold sQ at h;refine dj.fS func18 fun e _=>?_;refine T ?_;intro _ _ _ _ _ h _ n;refine gc h ?_ ?_<;>intro _ h
 · exact rt
 refine go ?_;obtain⟨l,m,k⟩:=ob h;refine CW.mono (CW.lx [1] [0] [] 0 (fun z=>[(3,vI z)]) (RT prog f18.results (fun u=>.bool u) w0 []) n m (hb:=?_)) ?_
 · intro z e _ o p h;refine gc h ?_ ?_<;>intro _ h
   · refine gR ?_;have:=p.drew;refine gb h fun _ q h=>?_;obtain⟨_,_,_,rfl,_,_,_,⟨_,_,_,_,_,_,_,_,_,_,_,_,rfl,_,_,_,_,_,_⟩,_⟩:=i.idx q;exact wk
   exact rt
 intro x e _ hM;rcases l with l|_
 · obtain⟨rfl,hM⟩:=hM;obtain⟨e,rfl,_⟩:=eo hM;rw[show e=dK e [] from rfl];have h:=k;exact rt
 obtain⟨rfl,u,rfl,hM⟩:=hM;cases k;exact And.intro trivial hM
instance k18:Ct prog 18:={h:=@JL}
theorem C0{w0 N n m r}(h:oI N n m=some r){b i f}(k:i=n.length)(p:rb w0 b f n){d j g}(l:j=m.parts.length)(q:rb w0 d g m.parts):
    dj prog 19 #[vS b i f,.agg #[vI m.Rj,vS d j g]] w0 (fun v w=>v=.bool r/\St w0 [] w []):=by
 subst k l;unfold oI at h;refine dj.fS func19 fun e _=>?_;refine T ?_;intro _ _ _;refine T ?_;intro _ _ h _ _;refine bH h ?_ ?_<;>intro _ h
 · refine T ?_;intro _ _ h _ _;refine bH h ?_ ?_<;>intro _ h
   · refine T ?_;intro x _ h _ _ o _ h _ _;refine LW.u (dP.Qh PE rfl rfl (fun w=>OC x o w)) rfl ?_;exact rt
   exact rt
 exact rt
instance k19:Ct prog 19:={h:=@C0}
theorem CY{w0 N n m r}(h:mS N n m=some r){b i f}(k:i=n.length)(p:rb w0 b f n){d j g}(l:j=m.parts.length)(q:rb w0 d g m.parts):
    dj prog 17 #[vS b i f,.agg #[vI m.Rj,vS d j g]] w0 (fun v w=>v=.bool r/\St w0 [] w []):=by
 subst k l;unfold mS at h;refine dj.fS func17 fun e _=>?_;refine T ?_;intro _ _ _;refine T ?_;intro _ _ h _ _;refine bH h ?_ ?_<;>intro _ h
 · refine T ?_;intro _ _ h _ _;refine bH h ?_ ?_<;>intro _ h
   · refine T ?_;intro x _ h _ _ o _ h _ _;refine LW.u (dP.Qh PE rfl rfl (fun w=>OC x o w)) rfl ?_;exact rt
   exact rt
 exact rt
instance k17:Ct prog 17:={h:=@CY}
end Go.Kx
