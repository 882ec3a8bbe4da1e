import Derived.Test.YtfmfgnhbgcjajaaGreatWa15
import Derived.Test.YtfmfgnhbgcjajaaGreatWa16
import Derived.Test.YtfmfgnhbgcjajaaGreatWa17
namespace Go.Kx
open Go Go.RowKit Go.Proofs
open Tryz
set_option maxRecDepth 10000
set_option maxHeartbeats 8000000
set_option linter.unusedVariables false
set_option linter.unusedSimpArgs false
theorem ME{w0 N O r}(h:vw N O=some r){R aC U}(aE:aC=O.parts.length)(aX:rb w0 R U O.parts):
    di prog 74 #[.agg #[vI O.RB,vS R aC U]] w0 (fun v w=>∃ap aq,v=.agg #[vI r.RB,vS ap r.parts.length aq]/\St w0 [] w [sl ap aq r.parts]):=by
 subst aE;unfold vw at h;refine di.fS func74 fun e _=>?_;refine T ?_;intro av _ _ aw _ _ _ _ h aY aZ _ _ an _ _ _ aU;obtain⟨aW,aP,aS⟩:=ob h;refine CW.jn [1,2,3] [0,1,2,3] [(15,.bool aW)] aU (h1:=?_) (h2:=?_)
 · have h:=aP;exact wk
 intro e _ _;have h:=aS;refine gc h ?_ ?_<;>intro _ h
 · exact wk
 refine T ?_;intro _ ax;refine go ?_;obtain⟨_,aF,aI⟩:=ob h;refine CW.i2 aF 0 [1,2,3,23] [2,3] (fun I (J:Ad) (K:Nat)=>[(24,vI I.1)]) (fun I J K=>[bx an 40 [vI I.2.1,vS J I.2.2.length K],sl J K I.2.2]) ax ?_ ?_ ?_
 · exact⟨aY,aZ,ax.po [2,3,0,1]⟩
 · intro I e J K _ o _ h;refine gf [1,2,3,23,24,25] fun e=>?_;refine gc h ?_ ?_<;>intro _ h
   · refine T ?_;intro H _ h ao V _ _ _ aJ;obtain⟨d,aQ,aT⟩:=ob h;refine CW.cut (fun e wb=>∃(C:Nat) (ab:Ad) (ah:Nat) (ac:Ad) (ai:Nat) (ad:Ad) (aj:Nat) (ae:Ad) (ak:Nat) (af:Ad) (am:Nat) (W:Ad) (X:Nat),En e [(1,.pointer (some ⟨av,0,none⟩)),(2,.pointer (some ⟨aw,0,none⟩)),(3,.pointer (some ⟨an,0,none⟩)),(4,vI I.1),(5,.pointer (some ⟨C,0,none⟩)),(23,vI (O.parts.length:Int)),(24,vI I.1)]/\St w0 [] wb [sl ao V H.parts,bx aw 40 [vI 0,vS none 0 0],bx av 40 [vI O.RB,vS R O.parts.length U],bx an 40 [vI H.RB,vS ao H.parts.length V],bx C 54 [vS ab d.1.length ah,vS ac d.2.1.length ai,vS ad d.2.2.1.length aj,vS ae d.2.2.2.1.length ak,vI d.2.2.2.2.1,vI d.2.2.2.2.2.1,vI d.2.2.2.2.2.2.1,vS af d.2.2.2.2.2.2.2.1.length am,vS W d.2.2.2.2.2.2.2.2.1.length X,vI d.2.2.2.2.2.2.2.2.2.1,vI d.2.2.2.2.2.2.2.2.2.2.1,vI d.2.2.2.2.2.2.2.2.2.2.2.1,vI d.2.2.2.2.2.2.2.2.2.2.2.2.1,vI d.2.2.2.2.2.2.2.2.2.2.2.2.2.1,vI d.2.2.2.2.2.2.2.2.2.2.2.2.2.2.1,vI d.2.2.2.2.2.2.2.2.2.2.2.2.2.2.2],sl ab ah d.1,sl ac ai d.2.1,sl ad aj d.2.2.1,sl ae ak d.2.2.2.1,sl af am d.2.2.2.2.2.2.2.1,sl W X d.2.2.2.2.2.2.2.2.1]) ?_ ?_
     · have h:=aQ;refine dW ?_;have ay:=aJ.drew;refine gb h fun _ aB h=>?_;obtain⟨_,_,rfl,_,_⟩:=ay.dA (α:=bh) (i:=0) rfl aB;refine go ?_;obtain⟨_,aa,_⟩:=ay.freeze (α:=bh) 0 rfl;obtain⟨_,_,_,aV,_,_,_,aO,_⟩:=aa.fe.idx aB;cases aV;obtain⟨_,_,_,_,_,_,_,_,_,_,_,_,rfl,_,_,_,_,_,_⟩:=aO;refine T ?_;have⟨_,_,h⟩:=ob h;refine AW.all (rs:=[7,12]) (by kernel_rfl) (by simp) ⟨?_,?_,trivial⟩
       · refine oA ?_;refine T ?_;intro _ _ _ _ _ _ _ _ _ _ _ _ _ _;have⟨_,_,h⟩:=ob h;refine AW.all (rs:=[11,12]) (by kernel_rfl) (by simp) ⟨?_,?_,trivial⟩
         · refine oA ?_;refine T ?_;intro _ _ _ _ _ _ _ _ _ _ _ _ _ _ _ _ _ _ aK;have:=aK.dZ (α:=bh) 13 rfl aa;exact rt
         refine oA ?_;refine T ?_;intro _ _ _;refine jP 11 ?_;refine T ?_;intro _ _ _ _ _ _ _ _ _ _ _ _ _ _ _ aL;have:=aL.dZ (α:=bh) 13 rfl aa;exact rt
       refine oA ?_;refine T ?_;intro _ _ _;refine jP 7 ?_;refine T ?_;intro _ _ _ _ _ _ _ _ _ _ _ _ _ _;refine jP 11 ?_;refine T ?_;intro _ _ h _ _ _ _ _ _ _ _ _ _ _ _ _ _ _ aM;have:=aM.dZ (α:=bh) 13 rfl aa;exact rt
     rintro e _ ⟨C,ab,ah,ac,ai,ad,aj,ae,ak,af,am,W,X,hE,_⟩;obtain⟨e,rfl⟩:=hE.out;have h:=aT;refine T ?_;intro _ _ h _ _ _ _ _ _ _ _ _ _ _ _ _ _ _ _;have⟨_,aG,h⟩:=ob h;refine LW.u (dL.rem rfl rfl (AY aG)) rfl ?_;refine gs ?_;obtain⟨b,aD,aH⟩:=ob h;refine CW.cut (fun e wb=>∃(j:Ad) (p:Nat) (k:Ad) (q:Nat) (l:Ad) (x:Nat) (m:Ad) (A:Nat) (n:Ad) (B:Nat) (f:Ad) (g:Nat),En e [(1,.pointer (some ⟨av,0,none⟩)),(2,.pointer (some ⟨aw,0,none⟩)),(3,.pointer (some ⟨an,0,none⟩)),(4,vI I.1),(5,.pointer (some ⟨C,0,none⟩)),(23,vI (O.parts.length:Int)),(24,vI I.1)]/\St w0 [] wb [sl ao V H.parts,bx aw 40 [vI 0,vS none 0 0],bx av 40 [vI O.RB,vS R O.parts.length U],bx an 40 [vI H.RB,vS ao H.parts.length V],bx C 54 [vS j b.1.length p,vS k b.2.1.length q,vS l b.2.2.1.length x,vS m b.2.2.2.1.length A,vI b.2.2.2.2.1,vI b.2.2.2.2.2.1,vI b.2.2.2.2.2.2.1,vS n b.2.2.2.2.2.2.2.1.length B,vS f b.2.2.2.2.2.2.2.2.1.length g,vI b.2.2.2.2.2.2.2.2.2.1,vI b.2.2.2.2.2.2.2.2.2.2.1,vI b.2.2.2.2.2.2.2.2.2.2.2.1,vI b.2.2.2.2.2.2.2.2.2.2.2.2.1,vI b.2.2.2.2.2.2.2.2.2.2.2.2.2.1,vI b.2.2.2.2.2.2.2.2.2.2.2.2.2.2.1,vI b.2.2.2.2.2.2.2.2.2.2.2.2.2.2.2],sl j p b.1,sl k q b.2.1,sl l x b.2.2.1,sl m A b.2.2.2.1,sl n B b.2.2.2.2.2.2.2.1,sl f g b.2.2.2.2.2.2.2.2.1]) ?_ ?_
     · have h:=aD;refine CW.fl [1,2,3,4,5,23,24,56] fun e=>?_;exact wk
     rintro e _ ⟨j,p,k,q,l,x,m,A,n,B,f,g,hE,az⟩;obtain⟨e,rfl⟩:=hE.out;have h:=aH;refine go ?_;have⟨aR,ar,h⟩:=ob h;obtain⟨Z,Y,rfl,_,_⟩:=az.dA (α:=bh) (i:=0) rfl ar;refine go ?_;have aN:=az.pk (M:=[sl j p b.1,sl k q b.2.1,sl l x b.2.2.1,sl m A b.2.2.2.1,sl n B b.2.2.2.2.2.2.2.1,sl f g b.2.2.2.2.2.2.2.2.1]++[sl (some ⟨Z,Y,none⟩) V H.parts,bx aw 40 [vI 0,vS none 0 0],bx av 40 [vI O.RB,vS R O.parts.length U],bx an 40 [vI H.RB,vS (some ⟨Z,Y,none⟩) H.parts.length V],bx C 54 [vS j b.1.length p,vS k b.2.1.length q,vS l b.2.2.1.length x,vS m b.2.2.2.1.length A,vI b.2.2.2.2.1,vI b.2.2.2.2.2.1,vI b.2.2.2.2.2.2.1,vS n b.2.2.2.2.2.2.2.1.length B,vS f b.2.2.2.2.2.2.2.2.1.length g,vI b.2.2.2.2.2.2.2.2.2.1,vI b.2.2.2.2.2.2.2.2.2.2.1,vI b.2.2.2.2.2.2.2.2.2.2.2.1,vI b.2.2.2.2.2.2.2.2.2.2.2.2.1,vI b.2.2.2.2.2.2.2.2.2.2.2.2.2.1,vI b.2.2.2.2.2.2.2.2.2.2.2.2.2.2.1,vI b.2.2.2.2.2.2.2.2.2.2.2.2.2.2.2]]) [5,6,7,8,9,10,0,1,2,3,4];have⟨_,au,h⟩:=ob h;refine LW.uR (M:=[sl j p b.1,sl k q b.2.1,sl l x b.2.2.1,sl m A b.2.2.2.1,sl n B b.2.2.2.2.2.2.2.1,sl f g b.2.2.2.2.2.2.2.2.1]) (L:=[sl (some ⟨Z,Y,none⟩) V H.parts,bx aw 40 [vI 0,vS none 0 0],bx av 40 [vI O.RB,vS R O.parts.length U],bx an 40 [vI H.RB,vS (some ⟨Z,Y,none⟩) H.parts.length V],bx C 54 [vS j b.1.length p,vS k b.2.1.length q,vS l b.2.2.1.length x,vS m b.2.2.2.1.length A,vI b.2.2.2.2.1,vI b.2.2.2.2.2.1,vI b.2.2.2.2.2.2.1,vS n b.2.2.2.2.2.2.2.1.length B,vS f b.2.2.2.2.2.2.2.2.1.length g,vI b.2.2.2.2.2.2.2.2.2.1,vI b.2.2.2.2.2.2.2.2.2.2.1,vI b.2.2.2.2.2.2.2.2.2.2.2.1,vI b.2.2.2.2.2.2.2.2.2.2.2.2.1,vI b.2.2.2.2.2.2.2.2.2.2.2.2.2.1,vI b.2.2.2.2.2.2.2.2.2.2.2.2.2.2.1,vI b.2.2.2.2.2.2.2.2.2.2.2.2.2.2.2]]) (z:=aR) (z':=(bh.mk (dV.mk b.1) b.2.1 b.2.2.1 (dm.mk b.2.2.2.1 (eS.mk b.2.2.2.2.1 b.2.2.2.2.2.1 b.2.2.2.2.2.2.1 b.2.2.2.2.2.2.2.1)) b.2.2.2.2.2.2.2.2.1 b.2.2.2.2.2.2.2.2.2.1 b.2.2.2.2.2.2.2.2.2.2.1 (de.mk b.2.2.2.2.2.2.2.2.2.2.2.1 b.2.2.2.2.2.2.2.2.2.2.2.2.1 b.2.2.2.2.2.2.2.2.2.2.2.2.2.1) b.2.2.2.2.2.2.2.2.2.2.2.2.2.2.1 b.2.2.2.2.2.2.2.2.2.2.2.2.2.2.2)) (o:=0) aN (i:=0) rfl ar iE rfl (by show _=Y+(I.1:Int).toNat*16+0;omega) rfl rfl rfl rfl (whole (fun w G hG=>⟨j,p,k,q,l,x,m,A,n,B,f,g,rfl,hG⟩)) ?_
     intro _ aA hf;rw[oi au]at aA;refine go ?_;rw[dx (oi au)]at aA;exact rt
   exact rt
 intro e J K _ _;have h:=aI;exact wk
instance k_74:Ct prog 74:={h:=@ME}
theorem yx{w0 N b d r}(h:pQ N b d=some r){f W C}(aj:W=b.Rp.Ro.length)(aY:rb w0 f C b.Rp.Ro){g X G}(ak:X=b.own.length)(aZ:rb w0 g G b.own){j Y H}(am:Y=b.Rr.length)(ay:rb w0 j H b.Rr){k Z I}(an:Z=b.py.ag.length)(a0:rb w0 k I b.py.ag){l aa J}(ao:aa=b.py.gc.da.length)(a1:rb w0 l J b.py.gc.da){m ab K}(ap:ab=b.db.length)(az:rb w0 m K b.db){n ac L}(aq:ac=d.Rp.Ro.length)(a2:rb w0 n L d.Rp.Ro){p ad M}(ar:ad=d.own.length)(a3:rb w0 p M d.own){q ae O}(au:ae=d.Rr.length)(aA:rb w0 q O d.Rr){z af R}(av:af=d.py.ag.length)(a4:rb w0 z R d.py.ag){A ah U}(aw:ah=d.py.gc.da.length)(a5:rb w0 A U d.py.gc.da){B ai V}(ax:ai=d.db.length)(aB:rb w0 B V d.db):
    di prog 13 #[.agg (uP f W C g X G j Y H k Z I l aa J m ab K b),.agg (uP n ac L p ad M q ae O z af R A ah U B ai V d)] w0 (fun v w=>v=.bool r/\St w0 [] w []):=by
 subst aj ak am an ao ap aq ar au av aw ax;unfold pQ at h;refine di.fS func13 fun e _=>?_;refine T ?_;intro _ _ _ _ _ aP;obtain⟨a7,aT,a6⟩:=ob h;refine CW.jn [2,3] [0,1] [(75,.bool a7)] aP (h1:=?_) (h2:=?_)
 · have h:=aT;refine T ?_;intro _ _ h _ _;refine bH h ?_ ?_<;>intro _ h
   · exact rt
   refine T ?_;intro _ _ h _ _;refine bH h ?_ ?_<;>intro _ h
   · exact rt
   refine go ?_;refine bH h ?_ ?_<;>intro _ h
   · exact rt
   refine gB h ?_ ?_<;>intro _ h
   · exact rt
   refine gB h ?_ ?_<;>intro _ h
   · exact rt
   refine go ?_;refine bH h ?_ ?_<;>intro _ h
   · exact rt
   refine go ?_;refine LW.u (dL.Cl QK rfl rfl (fun w=>QC b.dc d.dc w)) rfl ?_;exact wk
 intro e _ aQ;have h:=a6;refine gc h ?_ ?_<;>intro _ h
 · exact rt
 refine go ?_;obtain⟨aE,aJ,aC⟩:=ob h;refine CW.mono (CW.lx [2,3] [0,1] [2,3] 0 (fun aG=>[(5,vI aG)]) (RT prog f13.results (fun u=>.bool u) w0 []) aQ aJ (hb:=?_)) ?_
 · intro aG e _ o aR h;refine gc h ?_ ?_<;>intro _ h
   · refine fA ?_;have:=aR.drew;refine gb h fun aU aL h=>?_;obtain⟨_,_,_,rfl,_,_,_,rfl,_⟩:=ay.idx aL;refine go ?_;refine T ?_;have⟨aV,aM,h⟩:=ob h;obtain⟨_,_,_,rfl,_,_,_,rfl,_⟩:=aA.idx aM;refine go ?_;refine T ?_;refine AW.u (i:=10) rfl (by kernel_rfl) rfl rfl (dL.Cl MD rfl rfl (fun w=>L6 aU aV w)) ?_;exact wk
   exact rt
 intro x e _ hM;rcases aE with aE|_
 · obtain⟨rfl,hM⟩:=hM;obtain⟨e,rfl,aS⟩:=eo hM;have h:=aC;refine go ?_;obtain⟨aF,aK,aD⟩:=ob h;refine CW.mono (CW.lx [2,3] [0,1] [2,3] 2 (fun aH=>[(6,vI aH)]) (RT prog f13.results (fun u=>.bool u) w0 []) aS aK (hb:=?_)) ?_
   · intro aH e _ o aI h;refine gc h ?_ ?_<;>intro _ h
     · refine fA ?_;have:=aI.drew;refine gb h fun aW aN h=>?_;obtain⟨_,_,_,rfl,_,_,_,rfl,_⟩:=az.idx aN;refine go ?_;refine T ?_;have⟨aX,aO,h⟩:=ob h;obtain⟨_,_,_,rfl,_,_,_,rfl,_⟩:=aB.idx aO;refine go ?_;refine T ?_;refine AW.u (i:=10) rfl (by kernel_rfl) rfl rfl (dL.Cl Qs rfl rfl (fun w=>Qx aW aX w)) ?_;exact wk
     exact rt
   intro x e _ hM;rcases aF with aF|_
   · obtain⟨rfl,hM⟩:=hM;obtain⟨e,rfl,_⟩:=eo hM;have h:=aD;exact wk
   obtain⟨rfl,u,rfl,hM⟩:=hM;cases aD;exact And.intro trivial hM
 obtain⟨rfl,u,rfl,hM⟩:=hM;cases aC;exact And.intro trivial hM
instance k_13:Ct prog 13:={h:=@yx}
theorem CV{w0 N W X J r}(h:uF N W X J=some r){n x q}(B:x=W.length)(ad:rb w0 n q W){p z u}(C:z=X.length)(I:rb w0 p u X){k A l}(H:A=J.Ro.length)(ae:rb w0 k l J.Ro):
    di prog 10 #[vS n x q,vS p z u,.agg #[vS k A l]] w0 (fun v w=>∃K O,v=vS K r.length O/\St w0 [] w [sl K O r]):=by
 subst B C H;unfold uF at h;refine di.fS func10 fun e _=>?_;refine T ?_;intro ai _ Z;refine LW.b0 (α:=dQ) Z ?_;intro af ah _ R hf;refine go ?_;obtain⟨_,U,Y⟩:=ob h;refine CW.i2 U 0 [0,1,5] [1] (fun m (f:Ad) (g:Nat)=>[(7,vS f m.1.length g),(8,vI m.2)]) (fun m f g=>[sl f g m.1]) R ?_ ?_ ?_
 · exact⟨af,ah,R.po [1,0]⟩
 · intro m e f g _ o aa h;refine gc h ?_ ?_<;>intro _ h
   · refine fA ?_;have:=aa.drew;refine gb h fun j ac h=>?_;obtain⟨_,_,_,rfl,_,_,_,rfl,_⟩:=I.idx ac;refine go ?_;refine T ?_;intro _ _ h _ ab;refine gc h ?_ ?_<;>intro _ h
     · refine go ?_;refine T ?_;have⟨_,V,h⟩:=ob h;refine LW.fZ (M:=[]) (L:=[bx ai 31 [vS k J.Ro.length l],sl f g m.1]) (vs:=#[vI j.Rq,vI j.Rn,vI j.dS,vI j.call.Rq,vI j.call.a,vI j.call.b,vI j.call.c,vI j.call.d,vI j.call.e]) (i:=1) Jw rfl (by kernel_rfl) rfl rfl V ab rfl (fun w G hG=>by cases(show G=[] from hG);exact⟨rfl,rfl⟩) rfl rfl ?_;intro _ _ _ _ _ hf;exact rt
     exact rt
   exact rt
 intro e f g _ _;have h:=Y;exact rt
instance k_10:Ct prog 10:={h:=@CV}
theorem JT{w0 N j l r}(h:yK N j l=some r){b f d}(g:f=j.length)(i:rb w0 b d j):
    di prog 9 #[vS b f d,vI l] w0 (fun v w=>v=vI r/\St w0 [] w []):=by
 subst g;unfold yK at h;refine di.fS func9 fun e _=>?_;refine gc h ?_ ?_<;>intro _ h
 · refine gb h fun _ k h=>?_;obtain⟨_,_,_,rfl,_,_,_,rfl,_⟩:=i.idx k;refine go ?_;refine T ?_;refine LW.u (dL.conv underlying5 underlying3 rfl) rfl ?_;exact rt
 refine go ?_;refine LW.u (dL.rem rfl rfl (by decide)) rfl ?_;exact rt
instance k_9:Ct prog 9:={h:=@JT}
end Go.Kx
