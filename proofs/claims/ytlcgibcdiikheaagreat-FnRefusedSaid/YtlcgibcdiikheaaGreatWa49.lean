import Derived.Test.YtlcgibcdiikheaaGreatWa40
import Derived.Test.YtlcgibcdiikheaaGreatWa44
namespace Go.Kx
open Go Go.RowKit Go.Proofs
open Tryz
set_option maxRecDepth 10000
set_option maxHeartbeats 8000000
set_option linter.unusedVariables false
set_option linter.unusedSimpArgs false
theorem EE {w0} {F:List Nat} {N A r} (h:sy N A=some r) {ae:Nat} {l q} (ax:iR (jo w0 F) w0 l q A.b) (hS:St w0 F w0 [bx ae 177 [vS l A.b.length q,vI A.i,vI A.h]]) :
    iq prog 237 #[.pointer (some ⟨ae,0,none⟩)] w0 (fun v w=>∃ H U, ∃ I V, ∃ J W, ∃ K X, ∃ O Y, ∃ R Z,v=.agg #[vS H r.1.PB.PA.length U,vS I r.1.own.length V,vS J r.1.PC.length W,vS K r.1.py.ag.length X,vI r.1.py.gc.PD,vI r.1.py.gc.PL,vI r.1.py.gc.PF,vS O r.1.py.gc.hZ.length Y,vS R r.1.ia.length Z,vI r.1.PJ,vI r.1.PI,vI r.1.hY.bh,vI r.1.hY.ib,vI r.1.hY.ij,vI r.1.ik,vI r.1.PH]∧St w0 F w [sl H U r.1.PB.PA,sl I V r.1.own,sl J W r.1.PC,sl K X r.1.py.ag,sl O Y r.1.py.gc.hZ,sl R Z r.1.ia,bx ae 177 [vS l A.b.length q,vI r.2.i,vI r.2.h]]):=by
 unfold sy at h;refine iq.fn func237 fun e=>?_;refine T ?_;intro ak bD aW af a4 h B C bE aX ah a5 h m u a9 aY d aJ h n x p z ba aZ aa aK h bb aw;refine LW.bi [0,0,2,5] aw ?_;intro aS aU bc a0 hf;refine T ?_;intro ab aL h be a1 ac aM h bf a2 ad aN h bg a3;refine LW.bd [(0,.agg #[vS B af.1.PA.length C]),(2,vS m ah.1.length u),(3,.agg #[vS n d.1.ag.length x,vI d.1.gc.PD,vI d.1.gc.PL,vI d.1.gc.PF,vS p d.1.gc.hZ.length z]),(5,vI aa.1),(6,vI ab.1),(8,vI ac.1),(9,vI ad.1)] #[vS B af.1.PA.length C,vS none 0 0,vS m ah.1.length u,vS n d.1.ag.length x,vI d.1.gc.PD,vI d.1.gc.PL,vI d.1.gc.PF,vS p d.1.gc.hZ.length z,vS none 0 0,vI aa.1,vI ab.1,vI 0,vI 0,vI 0,vI ac.1,vI ad.1] ?_;refine T ?_;intro ai bj ay bk az bz aO h bl am;refine go ?_;have an:=am.nil (α:=iZ);obtain ⟨a7,aq,av⟩:=ob h;refine CW.ie aq 0 (fun k e wb=>∃ (f:Ad) (g:Nat),En e [(0,.pointer (some ⟨ae,0,none⟩)),(2,.pointer (some ⟨ak,0,none⟩)),(3,.pointer (some ⟨ai,0,none⟩)),(4,vI k.1)]∧St w0 F wb [bx ae 177 [vS l A.b.length q,vI k.2.1,vI k.2.2.1],bx ai 50 [vS B af.1.PA.length C,vS none 0 0,vS m ah.1.length u,vS n d.1.ag.length x,vI d.1.gc.PD,vI d.1.gc.PL,vI d.1.gc.PF,vS p d.1.gc.hZ.length z,vS f k.2.2.2.length g,vI aa.1,vI ab.1,vI 0,vI 0,vI 0,vI ac.1,vI ad.1],sl n x d.1.ag,sl p z d.1.gc.hZ,sl m u ah.1,sl B C af.1.PA,bx ak 50 [vS none 0 0,vS none 0 0,vS none 0 0,vS none 0 0,vI 0,vI 0,vI 0,vS none 0 0,vS none 0 0,vI 0,vI 0,vI 0,vI 0,vI 0,vI 0,vI 0],sl f g k.2.2.2]) ?_ ⟨none,0,an.po [1,2,4,5,6,7,8,0]⟩ ?_
 · intro k e bm o hM h;obtain ⟨f,g,hE,aA⟩:=hM;obtain ⟨e,rfl⟩:=hE.out;refine kD [0,2,3,4,25] fun e=>?_;refine gc h ?_ ?_<;>intro _ h
   · refine T ?_;intro j aP h bn aB au bo aC bp aD bA aQ h bq ao;refine gc h ?_ ?_<;>intro _ h
     · refine gb h fun bB ar h=>?_;refine LW.l5 (M:=[]) (L:=[bx au 174 (qT j.1),bx ae 177 [vS l A.b.length q,vI j.2.i,vI j.2.h],bx ai 50 [vS B af.1.PA.length C,vS none 0 0,vS m ah.1.length u,vS n d.1.ag.length x,vI d.1.gc.PD,vI d.1.gc.PL,vI d.1.gc.PF,vS p d.1.gc.hZ.length z,vS f k.2.2.2.length g,vI aa.1,vI ab.1,vI 0,vI 0,vI 0,vI ac.1,vI ad.1],sl n x d.1.ag,sl p z d.1.gc.hZ,sl m u ah.1,sl B C af.1.PA,bx ak 50 [vS none 0 0,vS none 0 0,vS none 0 0,vS none 0 0,vI 0,vI 0,vI 0,vS none 0 0,vS none 0 0,vI 0,vI 0,vI 0,vI 0,vI 0,vI 0,vI 0],sl f g k.2.2.2]) (vs:=#[vI j.1.res,vI j.1.km,vI j.1.nu,vI j.1.kT,vI j.1.Pz,vI j.1.mA]) (i:=8) tB rfl (by kernel_rfl) rfl rfl ar ao rfl (fun w G hG=>by cases (show G=[] from hG);exact ⟨rfl,rfl⟩) rfl rfl ?_;intro a8 aT aV br aE hf;refine T ?_;intro bs aF;exact rt
     exact rt
   exact rt
 rintro e bt ⟨f,g,hE,aG⟩;obtain ⟨e,rfl⟩:=hE.out;have h:=av;refine T ?_;intro bC aR h bu aH;refine T ?_;intro bv aI bw ap;replace h:=oi h;subst h;have aj:=ap.nil (α:=Int);exact And.intro trivial ⟨_,kI.one (iD.b aj 7 rfl lV rfl rfl),B,C,none,0,m,u,n,x,p,z,f,g,rfl,aj.pk [6,0,5,3,4,8,1]⟩
instance k_237:Ct prog 237:=⟨by kernel_rfl,@EE⟩
theorem Ia {w0} {F:List Nat} {N m r} (h:vt N m=some r) {V:Nat} {g j} (am:iR (jo w0 F) w0 g j m.b) (hS:St w0 F w0 [bx V 177 [vS g m.b.length j,vI m.i,vI m.h]]) :
    iq prog 238 #[.pointer (some ⟨V,0,none⟩)] w0 (fun v w=>∃ O R,v=vS O r.1.length R∧St w0 F w [sl O R r.1,bx V 177 [vS g m.b.length j,vI r.2.i,vI r.2.h]]):=by
 unfold vt at h;refine iq.fn func238 fun e=>?_;refine T ?_;intro M aJ h an d a1 aH a2 aK h aM aI aU aA h aN f;refine kD [0,3,4,12,13] fun e=>?_;refine gc h ?_ ?_<;>intro _ h
 · refine gb h fun aV z h=>?_;obtain ⟨L,aa,ab,Y,Z,ac⟩:=f.uN (α:=im) 1 rfl z;refine LW.u (iQ.sub (α:=im) (l:=M.1) underlying40 CZ rfl uv (uF rfl) z L Y Z) rfl ?_;refine go ?_;replace h:=oi h;subst h;exact Ra ⟨aa,ab,rfl,ac.pk [1,0]⟩
 refine gc h ?_ ?_<;>intro _ h
 · refine T ?_;intro aW aB h aO U;have ⟨aX,A,h⟩:=ob h;obtain ⟨n,I,hae,au,ax⟩:=U.iF (α:=im) (i:=1) rfl A;subst hae;refine go ?_;refine gb h fun ai B h=>?_;refine LW.se 1 U 1 A B (hM:=(ko (fun w cs F hF=>by obtain ⟨rfl,rfl⟩:=hF;exact ⟨rfl,rfl⟩))) fun aP ad=>?_;refine go ?_;replace h:=oi h;subst h;exact Ra ⟨(some ⟨n,I,none⟩),d,(show (vS (some ⟨n,I,none⟩) M.1.length d:Value)=vS (some ⟨n,I,none⟩) ai.length d by rw [iB (oi B)]),ad.pk [1,0]⟩
 refine gc h ?_ ?_<;>intro _ h
 · refine gb h fun aY k h=>?_;obtain ⟨o,J,hae,av,ay⟩:=f.iF (α:=im) (i:=1) rfl k;subst hae;refine go ?_;obtain ⟨aD,x,ae⟩:=f.freeze (α:=im) 1 rfl;obtain ⟨aF,aL,ao,hae,aq,_,_,X,ar⟩:=x.kc.idx k;cases hae;obtain rfl:=X;refine T ?_;refine go ?_;have af:=ae.i7 (α:=im) 1 rfl x;have ⟨aj,C,h⟩:=ob h;refine LW.se 0 af 1 k C (hM:=(ko (fun w cs F hF=>by obtain ⟨rfl,rfl⟩:=hF;exact ⟨rfl,rfl⟩))) fun aQ ah=>?_;refine go ?_;replace h:=oi h;subst h;exact Ra ⟨(some ⟨o,J,none⟩),d,(show (vS (some ⟨o,J,none⟩) M.1.length d:Value)=vS (some ⟨o,J,none⟩) aj.length d by rw [iB (oi C)]),ah.pk [1,0]⟩
 refine gc h ?_ ?_<;>intro _ h
 · refine go ?_;refine LW.bi [-1,1000001,1000000] f ?_;intro aE aG aR ap hf;refine T ?_;intro aZ aC h aS q;have ⟨a0,G,h⟩:=ob h;obtain ⟨p,K,hae,aw,az⟩:=q.iF (α:=im) (i:=2) rfl G;subst hae;refine go ?_;refine gb h fun ak H h=>?_;refine LW.se 3 q 2 G H (hM:=(ko (fun w cs F hF=>by obtain ⟨rfl,rfl⟩:=hF;exact ⟨rfl,rfl⟩))) fun aT W=>?_;refine go ?_;replace h:=oi h;subst h;exact Ra ⟨(some ⟨p,K,none⟩),d,(show (vS (some ⟨p,K,none⟩) M.1.length d:Value)=vS (some ⟨p,K,none⟩) ak.length d by rw [iB (oi H)]),W.pk [2,0]⟩
 refine go ?_;replace h:=oi h;subst h;exact Ra ⟨an,d,rfl,f.pk [1,0]⟩
instance k_238:Ct prog 238:=⟨by kernel_rfl,@Ia⟩
theorem HS {w0} {F:List Nat} {N p r} (h:uu N p=some r) {A:Nat} {n o} (R:iR (jo w0 F) w0 n o p.b) (hS:St w0 F w0 [bx A 177 [vS n p.b.length o,vI p.i,vI p.h]]) :
    iq prog 239 #[.pointer (some ⟨A,0,none⟩)] w0 (fun v w=>∃ q x, ∃ u z,v=.agg #[vS q r.1.ag.length x,vI r.1.gc.PD,vI r.1.gc.PL,vI r.1.gc.PF,vS u r.1.gc.hZ.length z]∧St w0 F w [sl q x r.1.ag,sl u z r.1.gc.hZ,bx A 177 [vS n p.b.length o,vI r.2.i,vI r.2.h]]):=by
 unfold uu at h;refine iq.fn func239 fun e=>?_;refine T ?_;intro M ba aw ak aE h a4 a7 a5 a9 aF ax G aG ay aH az aY ad h aI H;obtain ⟨d,K,O⟩:=ob h;refine CW.cut (fun e wb=>∃ (f:Ad) (j:Nat) (g:Ad) (k:Nat),En e [(0,.pointer (some ⟨A,0,none⟩)),(2,.pointer (some ⟨M,0,none⟩)),(3,.pointer (some ⟨G,0,none⟩))]∧St w0 F wb [bx A 177 [vS n p.b.length o,vI d.2.1,vI d.2.2.1],bx G 45 [vS g d.2.2.2.1.length k,vI d.2.2.2.2.1,vI d.2.2.2.2.2.1,vI d.2.2.2.2.2.2,vS f d.1.length j],sl f j d.1,bx M 45 [vS none 0 0,vI 0,vI 0,vI 0,vS none 0 0],sl g k d.2.2.2.1]) ?_ ?_
 · have h:=K;refine gc h ?_ ?_<;>intro _ h
   · refine T ?_;intro aZ ae h am aq aJ aA aK aB;exact rt
   refine gc h ?_ ?_<;>intro _ h
   · refine T ?_;intro a0 af h aL aC aM aD;exact rt
   refine kD [0,2,3,7,20] fun e=>?_;refine gc h ?_ ?_<;>intro _ h
   · refine dW ?_;have U:=H.drew;refine T ?_;intro I ah h aN J;refine LW.bi [IntKind.i64.wrap (I.1 - 1)] J ?_;intro an ar aO B hf;refine T ?_;have ⟨a1,L,h⟩:=ob h;refine T ?_;refine LW.jT (l:=ak.1.gc.hZ) (m:=([IntKind.i64.wrap (I.1 - 1)]:List Int)) nb rfl rfl (B.rI 0 rfl) L B (i:=4) rfl rfl ?_;intro ao au aP V hf;refine T ?_;intro aQ W;exact rt
   refine gc h ?_ ?_<;>intro _ h
   · refine T ?_;intro a2 ai h aR X aS Y;exact rt
   refine gc h ?_ ?_<;>intro _ h
   · refine go ?_;refine LW.bi [-1,1000000,1000001] H ?_;intro ap av aT Z hf;refine T ?_;intro a3 aj h aU aa aV ab;exact rt
   exact rt
 rintro e aW ⟨f,j,g,k,hE,ac⟩;obtain ⟨e,rfl⟩:=hE.out;have h:=O;refine T ?_;intro aX C;replace h:=oi h;subst h;exact And.intro trivial ⟨_,kI.one (iD.b C 3 rfl KQ rfl rfl),g,k,f,j,rfl,C.pk [4,2,0]⟩
instance k_239:Ct prog 239:=⟨by kernel_rfl,@HS⟩
end Go.Kx
