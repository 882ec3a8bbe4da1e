import Derived.Test.YtlcgibcdiikheaaGreatWa56
namespace Go.Kx
open Go Go.RowKit Go.Proofs
open Tryz
set_option maxRecDepth 10000
set_option maxHeartbeats 8000000
set_option linter.unusedVariables false
set_option linter.unusedSimpArgs false
theorem C9 {w0 N u f r} (h:rz N u f=some r) {k p l} (q:p=u.parts.length) (U:rb w0 k l u.parts) :
    gZ prog 19 #[.agg #[vI u.HQ,vS k p l],.agg #[vI f.HA,vI f.HS,vI f.jC,vI f.call.HA,vI f.call.a,vI f.call.b,vI f.call.c,vI f.call.d,vI f.call.e]] w0 (fun v w=>∃ g j,v=.tuple #[.agg #[vI r.1.HQ,vS g r.1.parts.length j],.agg #[vI r.2.code,vI r.2.HU]]∧St w0 [] w [sl g j r.1.parts]):=by
 subst q;unfold rz at h;refine gZ.fn func19 fun e=>?_;have aO:=St.start w0;refine T ?_;intro bs bu aP bt bv aQ J bw aR K bz aS;refine gc h ?_ ?_<;>intro _ h
 · refine T ?_;intro bk am h aH aL aY aT;refine LW.bd [] #[vI 0,vI 0] ?_;refine T ?_;intro aZ aU a0 aV;exact rt
 refine gc h ?_ ?_<;>intro _ h
 · refine T ?_;intro bl an h aI aM a1 aW a2 V a3 W;exact rt
 refine gc h ?_ ?_<;>intro _ h
 · refine T ?_;intro R ao h x z a4 X A a5 Y a6 C;obtain ⟨O,H,L⟩:=ob h;refine CW.jn [3,4,5,6] [0,1,2,3,4] [(45,.bool O)] C (h1:=?_) (h2:=?_)
   · have h:=H;refine T ?_;intro bm ap h a7 Z;refine bH h ?_ ?_<;>intro _ h
     · refine go ?_;refine T ?_;intro bn aq h a8 aa;refine bH h ?_ ?_<;>intro _ h
       · refine T ?_;intro bo ar h a9 ab;exact rt
       exact rt
     exact rt
   intro e ba m;have h:=L;refine gs ?_;obtain ⟨B,I,M⟩:=ob h;refine CW.cut (fun e wb=>En e [(4,.pointer (some ⟨J,0,none⟩)),(5,.pointer (some ⟨K,0,none⟩)),(6,.pointer (some ⟨A,0,none⟩))]∧St w0 [] wb [bx A 26 [vI R.HQ,vS x B.length z],sl x z B,bx K 32 [vI 0,vI 0],bx J 26 [vI 0,vS none 0 0]]) ?_ ?_
   · have h:=I;refine CW.fl [3,4,5,6,45] fun e=>?_;refine gc h ?_ ?_<;>intro _ h
     · refine gb h fun bp n h=>?_;obtain ⟨aK,aX,hae,aj,ak⟩:=m.im (α:=bh) (i:=1) rfl n;subst hae;refine go ?_;refine gb h fun bq o h=>?_;refine LW.se 10 m 1 n o (hM:=(kz (fun w cs F hF=>by obtain ⟨av,aB,aw,aC,ax,aD,ay,aE,az,aF,aA,aG,rfl,hH⟩:=hF;exact ⟨av,aB,aw,aC,ax,aD,ay,aE,az,aF,aA,aG,rfl,hH⟩))) fun bb G=>?_;refine go ?_;rw [ik (oi o)] at G;exact rt
     exact rt
   rintro e bc ⟨hE,ac⟩;obtain ⟨e,rfl⟩:=hE.out;have h:=M;refine jj [] #[vI 0,vI 0] ?_;refine T ?_;intro be ad bf ae;exact rt
 refine T ?_;intro br au h aJ aN bg af;refine LW.bd [(0,vI 2)] #[vI 2,vI 0] ?_;refine T ?_;intro bi ah bj ai;exact rt
instance k_19:Ct prog 19:=⟨by kernel_rfl,@C9⟩
theorem wo {w0} {F:List Nat} {N u X ah r} (h:mF N u X ah=some r) {x:Nat} {n p} (ai:iy (ja w0 F) w0 n p u.b) {z H B} (I:H=X.length) (aj:iy (ja w0 F) w0 z B X) (hS:St w0 F w0 [bx x 177 [vS n u.b.length p,vI u.i,vI u.h]]) :
    gZ prog 213 #[.pointer (some ⟨x,0,none⟩),vS z H B,vI ah] w0 (fun v w=>∃ J K,v=vS J r.1.length K∧St w0 F w [sl J K r.1,bx x 177 [vS n u.b.length p,vI r.2.i,vI r.2.h]]):=by
 subst I;unfold mF at h;refine gZ.fn func213 fun e=>?_;refine go ?_;refine LW.b0 (α:=iq) hS ?_;intro Y Z a0 aA hf;refine T ?_;intro a4 aH h ak am a2 aB O a3 aC aK ae;refine gc h ?_ ?_<;>intro _ h
 · refine go ?_;replace h:=oi h;subst h;exact Ra ⟨Y,Z,rfl,ae.pk [2,3]⟩
 refine T ?_;intro aY av h aL af;refine go ?_;obtain ⟨aI,V,ad⟩:=ob h;refine CW.ie V 0 (fun g e wb=>∃ (j:Ad) (k:Nat) (l:Ad) (m:Nat),En e [(0,.pointer (some ⟨x,0,none⟩)),(7,vS j g.1.length k),(8,.pointer (some ⟨O,0,none⟩)),(9,vI g.2.1)]∧St w0 F wb [bx x 177 [vS n u.b.length p,vI g.2.2.1,vI g.2.2.2.1],bx O 26 [vI g.2.2.2.2.1,vS l g.2.2.2.2.2.length m],sl j k g.1,sl l m g.2.2.2.2.2]) ?_ ⟨Y,Z,ak,am,af.po [0,1,3,2]⟩ ?_
 · intro g e aM o hM h;obtain ⟨j,k,l,m,hE,aD⟩:=hM;obtain ⟨e,rfl⟩:=hE.out;refine kI [0,7,8,9,26] fun e=>?_;refine gc h ?_ ?_<;>intro _ h
   · refine T ?_;intro f aw h aN aE aa aO aF aP aG q ax h A C aQ an ab aR ao ac aS ap aT aq aU ar aV R;have ⟨aZ,W,h⟩:=ob h;refine LW.kr (M:=[]) (L:=[bx ac 32 [vI q.2.code,vI q.2.HU],bx ab 26 [vI q.1.HQ,vS A q.1.parts.length C],sl A C q.1.parts,bx aa 62 (qE f.1),bx x 177 [vS n u.b.length p,vI f.2.i,vI f.2.h],bx O 26 [vI q.1.HQ,vS A q.1.parts.length C],sl j k g.1,sl l m g.2.2.2.2.2]) (vs:=#[vI f.1.HA,vI f.1.HS,vI f.1.jC,vI f.1.call.HA,vI f.1.call.a,vI f.1.call.b,vI f.1.call.c,vI f.1.call.d,vI f.1.call.e]) (i:=6) A8 rfl (by kernel_rfl) rfl rfl W R rfl (fun w G hG=>by cases (show G=[] from hG);exact ⟨rfl,rfl⟩) rfl rfl ?_;intro aJ ay az aW au hf;exact rt
   exact rt
 rintro e aX ⟨j,k,l,m,hE,U⟩;obtain ⟨e,rfl⟩:=hE.out;have h:=ad;refine go ?_;replace h:=oi h;subst h;exact Ra ⟨j,k,rfl,U.pk [2,0]⟩
instance k_213:Ct prog 213:=⟨by kernel_rfl,@wo⟩
theorem vB {w0} {F:List Nat} {N x ab r} (h:pT N x ab=some r) {z:Nat} {k n} (aj:iy (ja w0 F) w0 k n x.b) (hS:St w0 F w0 [bx z 177 [vS k x.b.length n,vI x.i,vI x.h]]) :
    gZ prog 112 #[.pointer (some ⟨z,0,none⟩),vI ab] w0 (fun v w=>∃ C J, ∃ H K,v=.tuple #[vS C r.1.length J,vS H r.2.1.length K]∧St w0 F w [sl C J r.1,sl H K r.2.1,bx z 177 [vS k x.b.length n,vI r.2.2.i,vI r.2.2.h]]):=by
 unfold pT at h;refine gZ.fn func112 fun e=>?_;refine T ?_;intro a7 aI h a3 a5 a6 aC a8 aJ h aM aD;obtain ⟨p,X,ae⟩:=ob h;refine CW.cut (fun e wb=>∃ (d:Ad) (f:Nat),En e [(0,.pointer (some ⟨z,0,none⟩)),(1,vI ab),(6,vS d p.1.length f)]∧St w0 F wb [bx z 177 [vS k x.b.length n,vI p.2.1,vI p.2.2],sl d f p.1]) ?_ ?_
 · have h:=X;refine gc h ?_ ?_<;>intro _ h
   · refine T ?_;intro aZ an h au ay aN aE;exact rt
   exact rt
 rintro e aO ⟨d,f,hE,aF⟩;obtain ⟨e,rfl⟩:=hE.out;have h:=ae;refine T ?_;intro ai ao h B I aP aG a0 ap h aQ A;refine kI [0,6,7,19,20] fun e=>?_;refine gc h ?_ ?_<;>intro _ h
 · refine go ?_;refine LW.bi [0,4] A ?_;intro av az aR aH hf;refine T ?_;intro q aq h aS ah;refine LW.bd [(0,vI q.1),(1,vI 1)] #[vI q.1,vI 1,vI 0,vI 0,vI 0,vI 0,vI 0,vI 0,vI 0] ?_;refine LW.bd [(0,vI 2),(1,vI 3)] #[vI 2,vI 3,vI 0,vI 0,vI 0,vI 0,vI 0,vI 0,vI 0] ?_;refine LW.bd [(0,vI 3),(1,vI (-1))] #[vI 3,vI (-1),vI 0,vI 0,vI 0,vI 0,vI 0,vI 0,vI 0] ?_;refine LW.bd [(0,vI 3),(2,vI 10)] #[vI 3,vI 0,vI 10,vI 0,vI 0,vI 0,vI 0,vI 0,vI 0] ?_;refine LW.uN (α:=iq) (vs:=[(0,.agg #[vI q.1,vI 1,vI 0,vI 0,vI 0,vI 0,vI 0,vI 0,vI 0]),(1,.agg #[vI 2,vI 3,vI 0,vI 0,vI 0,vI 0,vI 0,vI 0,vI 0]),(2,.agg #[vI 3,vI (-1),vI 0,vI 0,vI 0,vI 0,vI 0,vI 0,vI 0]),(3,.agg #[vI 3,vI 0,vI 10,vI 0,vI 0,vI 0,vI 0,vI 0,vI 0])]) (cs:=#[vI q.1,vI 1,vI 0,vI 0,vI 0,vI 0,vI 0,vI 0,vI 0,vI 2,vI 3,vI 0,vI 0,vI 0,vI 0,vI 0,vI 0,vI 0,vI 3,vI (-1),vI 0,vI 0,vI 0,vI 0,vI 0,vI 0,vI 0,vI 3,vI 0,vI 10,vI 0,vI 0,vI 0,vI 0,vI 0,vI 0]) (l:=([iq.mk q.1 1 0 (il.mk 0 0 0 0 0 0),iq.mk 2 3 0 (il.mk 0 0 0 0 0 0),iq.mk 3 (-1) 0 (il.mk 0 0 0 0 0 0),iq.mk 3 0 10 (il.mk 0 0 0 0 0 0)]:List iq)) rfl (by kernel_rfl) rfl rfl rfl (fun w=>⟨[vI q.1,vI 1,vI 0,vI 0,vI 0,vI 0,vI 0,vI 0,vI 0],[vI 2,vI 3,vI 0,vI 0,vI 0,vI 0,vI 0,vI 0,vI 0,vI 3,vI (-1),vI 0,vI 0,vI 0,vI 0,vI 0,vI 0,vI 0,vI 3,vI 0,vI 10,vI 0,vI 0,vI 0,vI 0,vI 0,vI 0],[],[],rfl,rfl,⟨rfl,rfl⟩,⟨[vI 2,vI 3,vI 0,vI 0,vI 0,vI 0,vI 0,vI 0,vI 0],[vI 3,vI (-1),vI 0,vI 0,vI 0,vI 0,vI 0,vI 0,vI 0,vI 3,vI 0,vI 10,vI 0,vI 0,vI 0,vI 0,vI 0,vI 0],[],[],rfl,rfl,⟨rfl,rfl⟩,⟨[vI 3,vI (-1),vI 0,vI 0,vI 0,vI 0,vI 0,vI 0,vI 0],[vI 3,vI 0,vI 10,vI 0,vI 0,vI 0,vI 0,vI 0,vI 0],[],[],rfl,rfl,⟨rfl,rfl⟩,⟨[vI 3,vI 0,vI 10,vI 0,vI 0,vI 0,vI 0,vI 0,vI 0],[],[],[],rfl,rfl,⟨rfl,rfl⟩,rfl⟩⟩⟩⟩) ah rfl ?_
   intro aw aA aT O hf;have ⟨a1,Z,h⟩:=ob h;refine LW.jw (l:=ai.1) (m:=([iq.mk q.1 1 0 (il.mk 0 0 0 0 0 0),iq.mk 2 3 0 (il.mk 0 0 0 0 0 0),iq.mk 3 (-1) 0 (il.mk 0 0 0 0 0 0),iq.mk 3 0 10 (il.mk 0 0 0 0 0 0)]:List iq)) A8 rfl rfl (O.rI 0 rfl) Z O (i:=3) rfl rfl ?_;intro ac ad aU U hf;refine go ?_;replace h:=oi h;subst h;exact Rc tt tt ⟨d,f,ac,ad,rfl,U.pk [4,3,1]⟩
 refine gc h ?_ ?_<;>intro _ h
 · refine go ?_;obtain ⟨aK,Y,af⟩:=ob h;refine CW.ie Y 1 (fun u e wb=>∃ (g:Ad) (j:Nat),En e [(0,.pointer (some ⟨z,0,none⟩)),(6,vS d p.1.length f),(7,vS g u.1.length j)]∧St w0 F wb [bx z 177 [vS k x.b.length n,vI u.2.1,vI u.2.2],sl g j u.1,sl d f p.1]) ?_ ⟨B,I,A.po [0,1,2]⟩ ?_
   · intro u e aV o hM h;obtain ⟨g,j,hE,ak⟩:=hM;obtain ⟨e,rfl⟩:=hE.out;refine T ?_;intro R ar h aW V;refine gc h ?_ ?_<;>intro _ h
     · refine jj [(0,vI 1)] #[vI 1,vI 0,vI 0,vI 0,vI 0,vI 0,vI 0,vI 0,vI 0] ?_;have ⟨a2,aa,h⟩:=ob h;refine LW.kr (M:=[]) (L:=[bx z 177 [vS k x.b.length n,vI R.2.i,vI R.2.h],sl g j u.1,sl d f p.1]) (vs:=#[vI 1,vI 0,vI 0,vI 0,vI 0,vI 0,vI 0,vI 0,vI 0]) (i:=1) A8 rfl (by kernel_rfl) rfl rfl aa V rfl (fun w G hG=>by cases (show G=[] from hG);exact ⟨rfl,rfl⟩) rfl rfl ?_;intro aL ax aB aX am hf;exact rt
     exact rt
   rintro e aY ⟨g,j,hE,W⟩;obtain ⟨e,rfl⟩:=hE.out;have h:=af;refine go ?_;replace h:=oi h;subst h;exact Rc tt tt ⟨d,f,g,j,rfl,W.pk [2,1,0]⟩
 refine go ?_;replace h:=oi h;subst h;exact Rc tt tt ⟨d,f,B,I,rfl,A.pk [2,1,0]⟩
instance k_112:Ct prog 112:=⟨by kernel_rfl,@vB⟩
end Go.Kx
