import Derived.Test.YtlcgibcdiikheaaGreatWa49
namespace Go.Kx
open Go Go.RowKit Go.Proofs
open Tryz
set_option maxRecDepth 10000
set_option maxHeartbeats 8000000
set_option linter.unusedVariables false
set_option linter.unusedSimpArgs false
theorem G5 {w0} {F:List Nat} {N M r} (h:uz N M=some r) {O:Nat} {J K} (aH:iR (jo w0 F) w0 J K M.b) (hS:St w0 F w0 [bx O 177 [vS J M.b.length K,vI M.i,vI M.h]]) :
    iq prog 147 #[.pointer (some ⟨O,0,none⟩)] w0 (fun v w=>∃ R Z, ∃ U aa, ∃ V ab, ∃ W ac, ∃ X ad, ∃ Y ae,v=.agg #[vS R r.1.PB.PA.length Z,vS U r.1.own.length aa,vS V r.1.PC.length ab,vS W r.1.py.ag.length ac,vI r.1.py.gc.PD,vI r.1.py.gc.PL,vI r.1.py.gc.PF,vS X r.1.py.gc.hZ.length ad,vS Y r.1.ia.length ae,vI r.1.PJ,vI r.1.PI,vI r.1.hY.bh,vI r.1.hY.ib,vI r.1.hY.ij,vI r.1.ik,vI r.1.PH]∧St w0 F w [sl R Z r.1.PB.PA,sl U aa r.1.own,sl V ab r.1.PC,sl W ac r.1.py.ag,sl X ad r.1.py.gc.hZ,sl Y ae r.1.ia,bx O 177 [vS J M.b.length K,vI r.2.i,vI r.2.h]]):=by
 unfold uz at h;refine iq.fn func147 fun e=>?_;refine T ?_;intro ak ck bB g bK h aA aD aB aE am ap an aq ao ar az aC bM bC af bN bD bO bE ca a0 h bP aj;obtain ⟨d,aw,aF⟩:=ob h;refine CW.cut (fun e wb=>∃ (n:Ad) (z:Nat) (p:Ad) (A:Nat) (q:Ad) (B:Nat) (u:Ad) (C:Nat) (x:Ad) (G:Nat) (j:Ad) (k:Nat),En e [(0,.pointer (some ⟨O,0,none⟩)),(2,.pointer (some ⟨ak,0,none⟩)),(3,.pointer (some ⟨af,0,none⟩))]∧St w0 F wb [bx O 177 [vS J M.b.length K,vI d.2.1,vI d.2.2.1],bx af 50 [vS p d.2.2.2.1.length A,vS q d.2.2.2.2.1.length B,vS u d.2.2.2.2.2.1.length C,vS x d.2.2.2.2.2.2.1.length G,vI d.2.2.2.2.2.2.2.1,vI d.2.2.2.2.2.2.2.2.1,vI d.2.2.2.2.2.2.2.2.2.1,vS j d.2.2.2.2.2.2.2.2.2.2.1.length k,vS n d.1.length z,vI d.2.2.2.2.2.2.2.2.2.2.2.1,vI g.1.PI,vI d.2.2.2.2.2.2.2.2.2.2.2.2.1,vI d.2.2.2.2.2.2.2.2.2.2.2.2.2.1,vI d.2.2.2.2.2.2.2.2.2.2.2.2.2.2.1,vI d.2.2.2.2.2.2.2.2.2.2.2.2.2.2.2,vI g.1.PH],sl n z d.1,bx ak 50 [vS none 0 0,vS none 0 0,vS none 0 0,vS none 0 0,vI 0,vI 0,vI 0,vS none 0 0,vS none 0 0,vI 0,vI 0,vI 0,vI 0,vI 0,vI 0,vI 0],sl p A d.2.2.2.1,sl q B d.2.2.2.2.1,sl u C d.2.2.2.2.2.1,sl x G d.2.2.2.2.2.2.1,sl j k d.2.2.2.2.2.2.2.2.2.2.1]) ?_ ?_
 · have h:=aw;refine gc h ?_ ?_<;>intro _ h
   · refine T ?_;intro cb a1 h bf bq bQ bF bR bG;exact rt
   refine gc h ?_ ?_<;>intro _ h
   · refine T ?_;intro cc a2 h bg br bj bs bS bI bT bJ;exact rt
   refine kD [0,2,3,7,18] fun e=>?_;refine gc h ?_ ?_<;>intro _ h
   · refine T ?_;intro ce a3 h bk bt bU aJ bV aK;exact rt
   refine gc h ?_ ?_<;>intro _ h
   · refine T ?_;intro cf a4 h bl bu bW aL bX aM;exact rt
   refine gc h ?_ ?_<;>intro _ h
   · refine go ?_;refine LW.bi [-1,10,9] aj ?_;intro bm bv bY aN hf;refine T ?_;intro cg a5 h bZ aO b0 aP;exact rt
   refine gc h ?_ ?_<;>intro _ h
   · refine go ?_;obtain ⟨bL,ax,aG⟩:=ob h;refine CW.ie ax 1 (fun L e wb=>∃ (H:Ad) (I:Nat),En e [(0,.pointer (some ⟨O,0,none⟩)),(2,.pointer (some ⟨ak,0,none⟩)),(3,.pointer (some ⟨af,0,none⟩))]∧St w0 F wb [bx O 177 [vS J M.b.length K,vI L.2.1,vI L.2.2],bx af 50 [vS aA g.1.PB.PA.length aD,vS aB g.1.own.length aE,vS am g.1.PC.length ap,vS an g.1.py.ag.length aq,vI g.1.py.gc.PD,vI g.1.py.gc.PL,vI g.1.py.gc.PF,vS ao g.1.py.gc.hZ.length ar,vS H L.1.length I,vI g.1.PJ,vI g.1.PI,vI g.1.hY.bh,vI g.1.hY.ib,vI g.1.hY.ij,vI g.1.ik,vI g.1.PH],sl aA aD g.1.PB.PA,sl aB aE g.1.own,sl am ap g.1.PC,sl an aq g.1.py.ag,sl ao ar g.1.py.gc.hZ,sl H I L.1,bx ak 50 [vS none 0 0,vS none 0 0,vS none 0 0,vS none 0 0,vI 0,vI 0,vI 0,vS none 0 0,vS none 0 0,vI 0,vI 0,vI 0,vI 0,vI 0,vI 0,vI 0]]) ?_ ⟨az,aC,aj.po [0,1,2,3,4,5,6,7,8]⟩ ?_
     · intro L e b1 o hM h;obtain ⟨H,I,hE,au⟩:=hM;obtain ⟨e,rfl⟩:=hE.out;refine gc h ?_ ?_<;>intro _ h
       · refine kb ?_;have aQ:=au.drew;refine T ?_;intro f a7 h b2 av;refine LW.wj (α:=iZ) (vs:=[(0,.agg #[vI f.1.res,vI f.1.km,vI f.1.nu,vI f.1.kT,vI f.1.Pz,vI f.1.mA])]) (cs:=#[vI f.1.res,vI f.1.km,vI f.1.nu,vI f.1.kT,vI f.1.Pz,vI f.1.mA]) (l:=([f.1]:List iZ)) rfl (by kernel_rfl) rfl rfl rfl (fun w=>⟨(qT f.1),[],[],[],rfl,rfl,⟨rfl,rfl⟩,rfl⟩) av rfl ?_;intro bn bw b3 ah hf;refine T ?_;have ⟨ci,ay,h⟩:=ob h;refine T ?_;refine LW.jT (l:=L.1) (m:=([f.1]:List iZ)) tB rfl rfl (ah.rI 0 rfl) ay ah (i:=8) rfl rfl ?_;intro bo bz b4 aR hf;refine T ?_;intro b5 aS;exact rt
       exact rt
     rintro e b6 ⟨H,I,hE,aT⟩;obtain ⟨e,rfl⟩:=hE.out;have h:=aG;exact rt
   refine gc h ?_ ?_<;>intro _ h
   · refine go ?_;refine LW.bi [-1,1000001] aj ?_;intro bp bA b7 aU hf;refine T ?_;intro cj a9 h b8 aV b9 aW;exact rt
   refine gc h ?_ ?_<;>intro _ h
   · refine T ?_;intro be aI h ba aX bb aY;exact rt
   exact rt
 rintro e bc ⟨n,z,p,A,q,B,u,C,x,G,j,k,hE,aZ⟩;obtain ⟨e,rfl⟩:=hE.out;have h:=aF;refine T ?_;intro bd ai;replace h:=oi h;subst h;exact And.intro trivial ⟨_,kI.one (iD.b ai 3 rfl lV rfl rfl),p,A,q,B,u,C,x,G,j,k,n,z,rfl,ai.pk [4,5,6,7,8,2,0]⟩
instance k_147:Ct prog 147:=⟨by kernel_rfl,@G5⟩
end Go.Kx
